import Derived.Test.YtkjdblbgmomieaaMr20
import Derived.Test.YtkjdblbgmomieaaMr15
-- from YtkjdblbgmomieaaRSimD
section
namespace Go.Proofs.Ytkjdblbgmomieaa.PSh
open Go.RowKit Go.Proofs.YtkjdblbgmomieaaW.PrintWords Go.Proofs.YtkjdblbgmomieaaW.PrintLast Go.Proofs.YtkjdblbgmomieaaW.PrintMore Go.Proofs.Ytkjdblbgmomieaa.Str Go.Proofs.Ytkjdblbgmomieaa.Dig Go.Proofs.Ytkjdblbgmomieaa.DigLaw
set_option linter.unusedVariables false
set_option linter.unusedSimpArgs false
def Rv3 {α β:Type} (tl:List Tk) (en n:Int) (x:PE (α × β × List Tk)) (o:α × β × Int × Int × Int × Int × Int):Prop:=match x with
  | .ok a=>o.1=a.1∧o.2.1=a.2.1∧Rp tl en n (.ok a.2.2) o.2.2
  | .error q=>Rp tl en n (.error q) o.2.2
section
variable {tl : List Tk} {en n : Int}
theorem phi_dead (xa xt:List Int) {q:Int × Int} {s:Int × Int × Int × Int × Int} (h:Rp tl en n (.error q) s):Ev (fun k=>rphLoop k tl xa xt s.1 s.2.1 s.2.2.1 s.2.2.2.1 s.2.2.2.2) (xa,xt,s):=by
  refine Ev.step (f:=fun _=>some (xa,xt,s)) (fun k=>?_) (Ev.now _)
  simp only [rphLoop]
  rw [if_neg h.dead,Option.bind_some]
  rfl
theorem phi_live (hl:tl.length≤100000000) (ht:∀ t∈tl,t.f0.size≤65536):∀ (m:Nat) (xa xt:List Int) (ts:List Tk) (s1:Int),ts.length<m→xa.length+ts.length≤1000000∧xt.length+ts.length≤1000000→Rp tl en n (.ok ts) (s1,en,n,0,0)→∃ o,Ev (fun k=>rphLoop k tl xa xt s1 en n 0 0) o∧Rv3 tl en n (phiP en m xa xt ts) o
  | 0,_,_,_,_,h,_,_=>absurd h (by omega)
  | m+1,xa,xt,ts,s1,hm,hbnd,h=>by
    have hlen:xt.length<1000000000000∧xa.length<1000000000000:=by omega
    have hc:(if xt.length=0 then some (true,s1,en,n,(0:Int),(0:Int)) else r06_Reader_pair.f tl s1 en n 0 0)=some (((xt.length==0) || pairP ts),s1,en,n,0,0):=by
      by_cases c:xt.length=0
      · rw [if_pos c,beq_iff_eq.mpr c];rfl
      · rw [if_neg c,beq_eq_false_iff_ne.mpr c,pair_live h];rfl
    by_cases ct:((xt.length==0) || pairP ts)=true
    · obtain ⟨ob,hb,rb⟩:=label_rv hl ht h
      have rb:Rv tl en n (labelP en ts) ob:=rb
      obtain ⟨ov,o,hv,ho,hr⟩:∃ ov o,Ev (fun k=>r06_Reader_value.f k tl ob.2.1 ob.2.2.1 ob.2.2.2.1 ob.2.2.2.2.1 ob.2.2.2.2.2) ov∧Ev (fun k=>rphLoop k tl (xa++[ov.1]) (xt++[ob.1]) ov.2.1 ov.2.2.1 ov.2.2.2.1 ov.2.2.2.2.1 ov.2.2.2.2.2) o∧Rv3 tl en n ((labelP en ts).bind fun b=>(valueP en b.2).bind fun v=>phiP en m (xa++[v.1]) (xt++[b.1]) v.2) o:=by
        revert rb
        generalize hlb:labelP en ts=lb
        cases lb with
        | error q=>
          intro rb
          obtain ⟨ov,hv,rv⟩:=value_rv hl ht (show Rp tl en n (.error q) ob.2 from rb)
          exact ⟨ov,_,hv,phi_dead _ _ (show Rp tl en n (.error q) ov.2 from rv),rv⟩
        | ok b=>
          rintro ⟨e1,rb⟩
          obtain ⟨ov,hv,rv⟩:=value_rv hl ht rb
          have rv:Rv tl en n (valueP en b.2) ov:=rv
          have l1:=(indexP_ok (show indexP en 98 255 7 ts=.ok (b.1,b.2) from hlb)).2
          revert rv
          generalize hlv:valueP en b.2=lv
          cases lv with
          | error q=>exact fun rv=>⟨ov,_,hv,phi_dead _ _ (show Rp tl en n (.error q) ov.2 from rv),by
              show Rv3 tl en n (Except.bind (valueP en b.2) _) _
              rw [hlv]
              exact rv⟩
          | ok v=>
            rintro ⟨e2,rv⟩
            have l2:=(indexP_ok (show indexP en 37 1048576 8 b.2=.ok (v.1,v.2) from hlv)).2
            have e:=rv.live
            rw [e] at rv
            obtain ⟨o,ho,hr⟩:=phi_live hl ht m (xa++[v.1]) (xt++[b.1]) v.2 ov.2.1 (by omega) (by simp only [List.length_append,List.length_singleton];omega) rv
            refine ⟨ov,o,hv,?_,by
              show Rv3 tl en n (Except.bind (valueP en b.2) _) _
              rw [hlv]
              exact hr⟩
            rw [e1,e2,e]
            exact ho
      refine ⟨o,Ev.step (fun k=>?_) (Ev.bind hb (Ev.bind hv ho) (f:=fun k b=>(r06_Reader_value.f k tl b.2.1 b.2.2.1 b.2.2.2.1 b.2.2.2.2.1 b.2.2.2.2.2).bind fun v=>rphLoop k tl (xa++[v.1]) (xt++[b.1]) v.2.1 v.2.2.1 v.2.2.2.1 v.2.2.2.2.1 v.2.2.2.2.2)),?_⟩
      · simp only [rphLoop]
        rw [if_pos trivial,hc,Option.bind_some,if_pos ct]
        simp only [if_pos hlen]
      · simp only [phiP]
        rw [if_pos ct]
        exact hr
    · refine ⟨(xa,xt,s1,en,n,0,0),Ev.step (f:=fun _=>some (xa,xt,s1,en,n,(0:Int),(0:Int))) (fun k=>?_) (Ev.now _),?_⟩
      · simp only [rphLoop]
        rw [if_pos trivial,hc,Option.bind_some,if_neg ct]
      · simp only [phiP]
        rw [if_neg ct]
        exact ⟨rfl,rfl,h⟩
end
end Go.Proofs.Ytkjdblbgmomieaa.PSh
end
-- from YtkjdblbgmomieaaHRCall
section
namespace Go.Proofs.Ytkjdblbgmomieaa.PSh
set_option maxHeartbeats 8000000
set_option maxRecDepth 100000
open Go.RowKit Go.Proofs.YtkjdblbgmomieaaW.PrintWords Go.Proofs.YtkjdblbgmomieaaW.PrintLast Go.Proofs.YtkjdblbgmomieaaW.PrintMore Go.Proofs.Ytkjdblbgmomieaa.Str
set_option linter.unusedVariables false
set_option linter.unusedSimpArgs false
def rcaLoop:Nat→List (S101)→List Int→Int→Int→Int→Int→Int→Option (List Int × Int × Int × Int × Int × Int)
  | 0,_,_,_,_,_,_,_=>none
  | k+1,tl,xa,s1,s2,s3,s4,s5=>(r06_Reader_taken.f tl s1 s2 s3 s4 s5).bind fun c=>if c.1=true then (r06_Reader_value.f k tl c.2.1 c.2.2.1 c.2.2.2.1 c.2.2.2.2.1 c.2.2.2.2.2).bind fun v=>
        if xa.length<1000000000000 then rcaLoop k tl (xa++[v.1]) v.2.1 v.2.2.1 v.2.2.2.1 v.2.2.2.2.1 v.2.2.2.2.2 else none
      else some (xa,c.2.1,c.2.2.1,c.2.2.2.1,c.2.2.2.2.1,c.2.2.2.2.2)
def r06_Reader_call.f (k:Nat) (tl:List (S101)) (s1 s2 s3 s4 s5:Int) (n:Int):Option (Int × ByteArray × List Int × Int × Int × Int × Int × Int):=
  (r06_Reader_peek.f tl s1 s2 s3 s4 s5 0).bind fun p=>(if p.1.toList=([]:List UInt8) then some (n,p.2.1,p.2.2.1,p.2.2.2.1,p.2.2.2.2.1,p.2.2.2.2.2) else if 0<(p.1.size:Int) then (if bt p.1 0=64 then r06_Reader_index.f k tl p.2.1 p.2.2.1 p.2.2.2.1 p.2.2.2.2.1 p.2.2.2.2.2 64 1048576 3 else some (n,p.2.1,p.2.2.1,p.2.2.2.1,p.2.2.2.2.1,p.2.2.2.2.2)) else none).bind fun x=>
    (r06_Reader_name.f k tl x.2.1 x.2.2.1 x.2.2.2.1 x.2.2.2.2.1 x.2.2.2.2.2).bind fun m=>(rcaLoop k tl [] m.2.1 m.2.2.1 m.2.2.2.1 m.2.2.2.2.1 m.2.2.2.2.2).bind fun r=>some (x.1,m.1,r.1,r.2.1,r.2.2.1,r.2.2.2.1,r.2.2.2.2.1,r.2.2.2.2.2)
theorem r06_Reader_call.calls (k g:Nat) (tl:List (S101)) (s1 s2 s3 s4 s5:Int) (op id n ty:Int) (nm:ByteArray) (at_:Int) (rn:Int) (rnm:ByteArray) (ras:List Int) (r1 r2 r3 r4 r5:Int) (w0 w:World) (hI:IsS89 w0 w g tl s1 s2 s3 s4 s5) (hB:Below w0.heap.size w0 w) (h:r06_Reader_call.f k tl s1 s2 s3 s4 s5 n=some (rn,rnm,ras,r1,r2,r3,r4,r5)):
    Calls Try.prog 112 #[.pointer (some ⟨g,0,none⟩),.agg #[.int .i64 op,.int .i64 id,.int .i64 n,.int .i64 ty,.slice none 0 0,.slice none 0 0,.string nm,.int .i64 at_]] w fun e w'=>∃ va:Value,e=.returned (.agg #[.int .i64 op,.int .i64 id,.int .i64 rn,.int .i64 ty,va,.slice none 0 0,.string rnm,.int .i64 at_])∧TwoR w' w.heap.size va (.slice none 0 0) ras []∧IsS89 w0 w' g tl r1 r2 r3 r4 r5∧Below w0.heap.size w0 w'∧KeepBut w w' g none:=by
  have hu39:=Try.underlying39
  unfold r06_Reader_call.f at h
  replace h:=Option.bind_eq_some_iff.mp h
  obtain ⟨⟨p0,p1,p2,p3,p4,p5⟩,hp,h⟩:=h
  replace h:=Option.bind_eq_some_iff.mp h
  obtain ⟨⟨x0,x1,x2,x3,x4,x5⟩,hx,h⟩:=h
  replace h:=Option.bind_eq_some_iff.mp h
  obtain ⟨⟨m0,m1,m2,m3,m4,m5⟩,hm,h⟩:=h
  replace h:=Option.bind_eq_some_iff.mp h
  obtain ⟨⟨l0,l1,l2,l3,l4,l5⟩,hl,h⟩:=h
  simp only [Option.some.injEq,Prod.mk.injEq] at h
  obtain ⟨rfl,rfl,rfl,rfl,rfl,rfl,rfl,rfl⟩:=h
  have HP:=aM hp
  have HXX:=aM hx
  have HM:=aM hm
  have HLP:=aM hl
  clear hp hx hm hl
  have HI:=aM hI
  have HB:=aM hB
  have HL:=aM hI.lt
  clear hI hB
  go_enter Try.func112,Try.ntmps112
  have hy:=blk_alloc (blk_new w (.cells #[.int .i64 op,.int .i64 id,.int .i64 n,.int .i64 ty,.slice none 0 0,.slice none 0 0,.string nm,.int .i64 at_] 39)) (.cells #[.int .i64 0,.int .i64 0,.int .i64 0,.int .i64 0,.slice none 0 0,.slice none 0 0,.string ⟨#[]⟩,.int .i64 0] 39)
  have hz:=blk_new (w.alloc (.cells #[.int .i64 op,.int .i64 id,.int .i64 n,.int .i64 ty,.slice none 0 0,.slice none 0 0,.string nm,.int .i64 at_] 39)) (.cells #[.int .i64 0,.int .i64 0,.int .i64 0,.int .i64 0,.slice none 0 0,.slice none 0 0,.string ⟨#[]⟩,.int .i64 0] 39)
  have hs:(w.alloc (.cells #[.int .i64 op,.int .i64 id,.int .i64 n,.int .i64 ty,.slice none 0 0,.slice none 0 0,.string nm,.int .i64 at_] 39)).heap.size=w.heap.size+1:=by simp
  rw [hs] at hz
  have hi0:=(HI.out.alloc (.cells #[.int .i64 op,.int .i64 id,.int .i64 n,.int .i64 ty,.slice none 0 0,.slice none 0 0,.string nm,.int .i64 at_] 39)).alloc (.cells #[.int .i64 0,.int .i64 0,.int .i64 0,.int .i64 0,.slice none 0 0,.slice none 0 0,.string ⟨#[]⟩,.int .i64 0] 39)
  have hb0:=below_alloc (below_alloc HB.out (.cells #[.int .i64 op,.int .i64 id,.int .i64 n,.int .i64 ty,.slice none 0 0,.slice none 0 0,.string nm,.int .i64 at_] 39)) (.cells #[.int .i64 0,.int .i64 0,.int .i64 0,.int .i64 0,.slice none 0 0,.slice none 0 0,.string ⟨#[]⟩,.int .i64 0] 39)
  have hk0:=keep_alloc (keep_alloc (g:=g) (KeepBut.refl w g none) (.cells #[.int .i64 op,.int .i64 id,.int .i64 n,.int .i64 ty,.slice none 0 0,.slice none 0 0,.string nm,.int .i64 at_] 39)) (.cells #[.int .i64 0,.int .i64 0,.int .i64 0,.int .i64 0,.slice none 0 0,.slice none 0 0,.string ⟨#[]⟩,.int .i64 0] 39)
  clear hs
  go_upto_region 1 with (fail)
  generalize (w.alloc (.cells #[.int .i64 op,.int .i64 id,.int .i64 n,.int .i64 ty,.slice none 0 0,.slice none 0 0,.string nm,.int .i64 at_] 39)).alloc (.cells #[.int .i64 0,.int .i64 0,.int .i64 0,.int .i64 0,.slice none 0 0,.slice none 0 0,.string ⟨#[]⟩,.int .i64 0] 39)=W0 at hy hz hi0 hb0 hk0 ⊢
  have HX:=aM (show IXAt g (w.heap.size+1) W0.heap.size #[.int .i64 0,.int .i64 0,.int .i64 0,.int .i64 0,.slice none 0 0,.slice none 0 0,.string ⟨#[]⟩,.int .i64 0] tl ⟨op,id,n,ty,[],[],nm,at_⟩ (.slice none 0 0) (.slice none 0 0) s1 s2 s3 s4 s5 w0 w (W0.alloc (.cells #[.int .i64 op,.int .i64 id,.int .i64 n,.int .i64 ty,.slice none 0 0,.slice none 0 0,.string nm,.int .i64 at_] 39)) from
    ⟨hi0.alloc _,below_alloc hb0 _,keep_alloc hk0 _,HB.out.size,HL.out,Nat.le_succ _,blk_lt hz,blk_alloc hz _,blk_new _ _,TwoR.nil _ _⟩)
  have y_0:=blk_cell hy 0
  have y_1:=blk_cell hy 1
  have y_2:=blk_cell hy 2
  have y_3:=blk_cell hy 3
  have y_4:=blk_cell hy 4
  have y_5:=blk_cell hy 5
  have y_6:=blk_cell hy 6
  have y_7:=blk_cell hy 7
  clear hy hz hi0 hb0 hk0
  generalize hbx:W0.heap.size=bx_ at HX
  go_upto_region 2 with (fail)
  generalize W0.alloc (.cells #[.int .i64 op,.int .i64 id,.int .i64 n,.int .i64 ty,.slice none 0 0,.slice none 0 0,.string nm,.int .i64 at_] 39)=W1 at HX ⊢
  clear y_0 y_1 y_2 y_3 y_4 y_5 y_6 y_7
  go_wp2_with fail
  refine (r06_Reader_peek.calls g tl _ _ _ _ _ 0 _ _ _ _ _ _ w0 _ HX.out.i HX.out.b HP.out).mono ?_
  rintro e w1 ⟨rfl,hi_,hb_,hk_⟩
  have HX1:=aM (HX.out.call hi_ hb_ hk_)
  clear hi_ hb_ hk_
  go_upto_region 3 with (fail)
  obtain ⟨c,hc⟩:∃ c:Bool,c=(p0.toList !=([]:List UInt8) && bt p0 0==64):=⟨_,rfl⟩
  have hx:(if c=true then r06_Reader_index.f k tl p1 p2 p3 p4 p5 64 1048576 3 else some (n,p1,p2,p3,p4,p5))=some (x0,x1,x2,x3,x4,x5):=by
    have hx:=HXX.out
    rw [hc]
    by_cases c3:p0.toList=([]:List UInt8)
    · rw [if_pos c3] at hx
      simpa [c3] using hx
    · rw [if_neg c3] at hx
      by_cases c5:0<(p0.size:Int)
      · rw [if_pos c5] at hx
        simpa [c3] using hx
      · rw [if_neg c5] at hx
        cases hx
  have HY:=aM hx
  have HCC:=aM hc
  clear hx hc HXX HX
  go_cut [17] (fun v17 wc=>v17=.bool c∧wc=w1)
  case first=>
    have hc:=HCC.out
    by_cases c3:p0.toList=([]:List UInt8)
    · have c3b0:(p0.toList==([]:List UInt8))=true:=beq_iff_eq.mpr c3
      have c3b1:(p0.toList !=([]:List UInt8))=false:=bne_eq_false_iff_eq.mpr c3
      rw [c3b1,Bool.false_and] at hc
      subst hc
      clear c3
      go_wp2_with fail
      go_meet
      exact ⟨rfl,rfl⟩
    · have c3b0:(p0.toList==([]:List UInt8))=false:=beq_eq_false_iff_ne.mpr c3
      have c3b1:(p0.toList !=([]:List UInt8))=true:=bne_iff_ne.mpr c3
      have c5:0<p0.size:=by
        rcases Nat.eq_zero_or_pos p0.size with e | e
        · exact absurd (List.eq_nil_of_length_eq_zero (by rw [toList_eq,← size_data,e])) c3
        · exact e
      have c5b0:decide (0<(p0.size:Int))=true:=decide_eq_true (by omega)
      have c5b1:decide (0<p0.size)=true:=decide_eq_true c5
      rw [c3b1,Bool.true_and] at hc
      subst hc
      have hbt:((p0[0]'c5).toNat:Int)=bt p0 0:=bt_at p0 0 c5
      clear c3
      go_wp2_with fail
      go_meet
      exact ⟨rfl,rfl⟩
  case rest=>
    obtain ⟨rfl,rfl⟩:=hcut
    go_upto_if 17 with (fail)
    go_cut [] (fun wc2=>Aside0 (IXAt g (w.heap.size+1) bx_ #[.int .i64 0,.int .i64 0,.int .i64 0,.int .i64 0,.slice none 0 0,.slice none 0 0,.string ⟨#[]⟩,.int .i64 0] tl ⟨op,id,x0,ty,[],[],nm,at_⟩ (.slice none 0 0) (.slice none 0 0) x1 x2 x3 x4 x5 w0 w wc2))
    case first=>
      have hx:=HY.out
      cases c with
      | true=>
        rw [if_pos rfl] at hx
        have HY:=aM hx
        clear hx
        go_wp2_with fail
        refine (r06_Reader_index.calls k g tl _ _ _ _ _ 64 1048576 3 _ _ _ _ _ _ w0 _ HX1.out.i HX1.out.b HY.out).mono ?_
        rintro e w2 ⟨rfl,hi_,hb_,hk_⟩
        have HX2:=aM (HX1.out.call hi_ hb_ hk_)
        clear hi_ hb_ hk_
        have c2_:=HX2.out.at1 2
        have f2_:=blk_frozen HX2.out.box 2
        simp only [iObj] at c2_
        have HX3:=aM (HX2.out.put ⟨op,id,x0,ty,[],[],nm,at_⟩ 2 (.int .i64 x0) rfl rfl rfl)
        clear HX2
        go_wp2_with fail
        go_meet
        exact HX3
      | false=>
        rw [if_neg (by simp)] at hx
        simp only [Option.some.injEq,Prod.mk.injEq] at hx
        obtain ⟨rfl,rfl,rfl,rfl,rfl,rfl⟩:=hx
        go_wp2_with fail
        go_meet
        exact HX1
    case rest=>
      clear HX1
      have HX:=hcut
      clear hcut
      go_wp2_with fail
      refine (r06_Reader_name.calls k g tl _ _ _ _ _ _ _ _ _ _ _ w0 _ HX.out.i HX.out.b HM.out).mono ?_
      rintro e w2 ⟨rfl,hi_,hb_,hk_⟩
      have HX1:=aM (HX.out.call hi_ hb_ hk_)
      clear hi_ hb_ hk_
      have c6_:=HX1.out.at1 6
      have f6_:=blk_frozen HX1.out.box 6
      simp only [iObj] at c6_
      have HX2:=aM (HX1.out.put ⟨op,id,x0,ty,[],[],m0,at_⟩ 6 (.string m0) rfl rfl rfl)
      go_wp2
      (try simp only [Act.put,qA,qB,qC])
      generalize w2.setCell ⟨bx_,6,none⟩ (.string m0)=W3 at HX2 ⊢
      clear c6_ f6_ HX1 HX
      go_loopg [] k (fun kq w'=>∃ (xa:List Int) (va:Value) (t1 t2 t3 t4 t5:Int),Aside0 (rcaLoop kq tl xa t1 t2 t3 t4 t5=some (l0,l1,l2,l3,l4,l5))∧Aside0 (kq≤k)∧Aside0 (IXAt g (w.heap.size+1) bx_ #[.int .i64 0,.int .i64 0,.int .i64 0,.int .i64 0,.slice none 0 0,.slice none 0 0,.string ⟨#[]⟩,.int .i64 0] tl ⟨op,id,x0,ty,xa,[],m0,at_⟩ va (.slice none 0 0) t1 t2 t3 t4 t5 w0 w w'))
      case atStart=>exact ⟨_,_,_,_,_,_,_,⟨HLP.out⟩,⟨Nat.le_refl _⟩,⟨HX2.out⟩⟩
      case round=>
        clear HX2
        obtain ⟨xa,va,t1,t2,t3,t4,t5,HLO,HKQ,HX⟩:=hrel
        obtain ⟨Aa,ca,ea⟩:=Kd.R_slice HX.out.two.ra
        subst ea
        cases gk with
        | zero=>exact absurd HLO.out (by simp [rcaLoop])
        | succ k1=>
          have hl:=HLO.out
          simp only [rcaLoop] at hl
          replace hl:=Option.bind_eq_some_iff.mp hl
          obtain ⟨⟨c,u1,u2,u3,u4,u5⟩,hc,hl⟩:=hl
          have HC:=aM hc
          clear hc
          cases c with
          | true=>
            rw [if_pos rfl] at hl
            replace hl:=Option.bind_eq_some_iff.mp hl
            obtain ⟨⟨v0,v1,v2,v3,v4,v5⟩,hv,hl⟩:=hl
            by_cases hlen:xa.length<1000000000000
            rotate_left
            · rw [if_neg hlen] at hl
              cases hl
            rw [if_pos hlen] at hl
            have HV:=aM hv
            have HLEN:=aM hlen
            have HNX:=aM hl
            clear hv hlen hl HLO
            go_wp2_with fail
            refine (r06_Reader_taken.calls g tl _ _ _ _ _ _ _ _ _ _ _ w0 _ HX.out.i HX.out.b HC.out).mono ?_
            rintro e w3 ⟨rfl,hi_,hb_,hk_⟩
            have HX3:=aM (HX.out.call hi_ hb_ hk_)
            clear hi_ hb_ hk_
            go_wp2_with fail
            refine (r06_Reader_value.calls k1 g tl _ _ _ _ _ _ _ _ _ _ _ w0 _ HX3.out.i HX3.out.b HV.out).mono ?_
            rintro e w4 ⟨rfl,hi_,hb_,hk_⟩
            have HX4:=aM (HX3.out.call hi_ hb_ hk_)
            clear hi_ hb_ hk_
            have y4:=HX4.out.at1 4
            simp only [iObj] at y4
            go_wp2_with (first | ((with_reducible refine gate_builtin (b:=.append) (xs:=#[.tmp 29,.tmp 31]) rfl ?_);at_builtin;refine Kd.R_append (Kd.int .i64) w.heap.size rfl (.tmp 29) (.tmp 31) 31 3 (.int .i64 0) 8 rfl Try.underlying31 (by kernel_rfl) rfl (by decide) (by omega) (.slice Aa xa.length ca) xa v0 [.int .i64 v0] (fun _=>True) (fun k=>True∧some k≠(Value.slice Aa xa.length ca).ownBlock) rfl rfl rfl (fun k hk=>⟨trivial,hk.2⟩) (fun k hk=>trivial) HX4.out.two.ra (Below.refl _ _) (keep_size HX4.out.k) (by have:=HLEN.out;omega) ?_;intro v1 w4_ hr4 hb4 hg4 hv4;obtain ⟨A6,c6,e6⟩:=Kd.R_slice hr4;rw [List.length_append,List.length_singleton] at e6;subst e6;have HX6:=aM (HX4.out.app hg4 (.inl rfl) ⟨op,id,x0,ty,xa++[v0],[],m0,at_⟩ 4 _ rfl (HX4.out.two.appA hr4 hg4 hv4));have B4:=(hg4.block bx_ (blk_lt HX4.out.box) (Kd.R_ne HX4.out.two.ra HX4.out.box (by decide))).trans HX4.out.box;have c4_:=blk_cell B4 4;have f4_:=blk_frozen B4 4;clear hr4 hb4 hg4 hv4 B4))
            go_roundg k1
            case measure=>have:=HKQ.out;omega
            case rel=>exact ⟨_,_,_,_,_,_,_,⟨HNX.out⟩,⟨by have:=HKQ.out;omega⟩,⟨HX6.out⟩⟩
          | false=>
            rw [if_neg (by simp)] at hl
            simp only [Option.some.injEq,Prod.mk.injEq] at hl
            obtain ⟨rfl,rfl,rfl,rfl,rfl,rfl⟩:=hl
            clear HLO
            go_wp2_with fail
            refine (r06_Reader_taken.calls g tl _ _ _ _ _ _ _ _ _ _ _ w0 _ HX.out.i HX.out.b HC.out).mono ?_
            rintro e w3 ⟨rfl,hi_,hb_,hk_⟩
            have HX3:=aM (HX.out.call hi_ hb_ hk_)
            clear hi_ hb_ hk_
            clear HX
            have c_0:=HX3.out.at1 0
            have f_0:=blk_frozen HX3.out.box 0
            have d_0:=blk_cell HX3.out.zero 0
            have e_0:=blk_frozen HX3.out.zero 0
            have c_1:=HX3.out.at1 1
            have f_1:=blk_frozen HX3.out.box 1
            have d_1:=blk_cell HX3.out.zero 1
            have e_1:=blk_frozen HX3.out.zero 1
            have c_2:=HX3.out.at1 2
            have f_2:=blk_frozen HX3.out.box 2
            have d_2:=blk_cell HX3.out.zero 2
            have e_2:=blk_frozen HX3.out.zero 2
            have c_3:=HX3.out.at1 3
            have f_3:=blk_frozen HX3.out.box 3
            have d_3:=blk_cell HX3.out.zero 3
            have e_3:=blk_frozen HX3.out.zero 3
            have c_4:=HX3.out.at1 4
            have f_4:=blk_frozen HX3.out.box 4
            have d_4:=blk_cell HX3.out.zero 4
            have e_4:=blk_frozen HX3.out.zero 4
            have c_5:=HX3.out.at1 5
            have f_5:=blk_frozen HX3.out.box 5
            have d_5:=blk_cell HX3.out.zero 5
            have e_5:=blk_frozen HX3.out.zero 5
            have c_6:=HX3.out.at1 6
            have f_6:=blk_frozen HX3.out.box 6
            have d_6:=blk_cell HX3.out.zero 6
            have e_6:=blk_frozen HX3.out.zero 6
            have c_7:=HX3.out.at1 7
            have f_7:=blk_frozen HX3.out.box 7
            have d_7:=blk_cell HX3.out.zero 7
            have e_7:=blk_frozen HX3.out.zero 7
            have HE:=aM ((((((((HX3.out.setz 0 (.int .i64 (⟨op,id,x0,ty,xa,[],m0,at_⟩:S39).f0)).setz 1 (.int .i64 (⟨op,id,x0,ty,xa,[],m0,at_⟩:S39).f1)).setz 2 (.int .i64 (⟨op,id,x0,ty,xa,[],m0,at_⟩:S39).f2)).setz 3 (.int .i64 (⟨op,id,x0,ty,xa,[],m0,at_⟩:S39).f3)).setz 4 (.slice Aa xa.length ca)).setz 5 (.slice none 0 0)).setz 6 (.string (⟨op,id,x0,ty,xa,[],m0,at_⟩:S39).f6)).setz 7 (.int .i64 (⟨op,id,x0,ty,xa,[],m0,at_⟩:S39).f7))
            have hne:w.heap.size+1≠bx_:=by have:=HX3.out.lt;omega
            have hne':bx_≠w.heap.size+1:=by have:=HX3.out.lt;omega
            simp only [iObj] at c_0 c_1 c_2 c_3 c_4 c_5 c_6 c_7
            clear HX3
            go_wp2
            refine bodyPost_ret (results_cell_row rfl _ _ (w.heap.size+1) 39 #[.int .i64 (⟨op,id,x0,ty,xa,[],m0,at_⟩:S39).f0,.int .i64 (⟨op,id,x0,ty,xa,[],m0,at_⟩:S39).f1,.int .i64 (⟨op,id,x0,ty,xa,[],m0,at_⟩:S39).f2,.int .i64 (⟨op,id,x0,ty,xa,[],m0,at_⟩:S39).f3,.slice Aa xa.length ca,.slice none 0 0,.string (⟨op,id,x0,ty,xa,[],m0,at_⟩:S39).f6,.int .i64 (⟨op,id,x0,ty,xa,[],m0,at_⟩:S39).f7] (0,0) _ rfl HE.out.zero Try.underlying39 rfl (by kernel_rfl)) rfl ?_
            exact ⟨_,rfl,HE.out.two,HE.out.i,HE.out.b,HE.out.k⟩
end Go.Proofs.Ytkjdblbgmomieaa.PSh
end
-- from YtkjdblbgmomieaaRSimE
section
namespace Go.Proofs.Ytkjdblbgmomieaa.PSh
open Go.RowKit Go.Proofs.YtkjdblbgmomieaaW.PrintWords Go.Proofs.YtkjdblbgmomieaaW.PrintLast Go.Proofs.YtkjdblbgmomieaaW.PrintMore Go.Proofs.Ytkjdblbgmomieaa.Str Go.Proofs.Ytkjdblbgmomieaa.Dig Go.Proofs.Ytkjdblbgmomieaa.DigLaw
set_option linter.unusedVariables false
set_option linter.unusedSimpArgs false
section
variable {tl : List Tk} {en n : Int}
theorem args_dead (xa:List Int) {q:Int × Int} {s:Int × Int × Int × Int × Int} (h:Rp tl en n (.error q) s):Ev (fun k=>rcaLoop k tl xa s.1 s.2.1 s.2.2.1 s.2.2.2.1 s.2.2.2.2) (xa,s):=by
  refine Ev.step (f:=fun _=>some (xa,s)) (fun k=>?_) (Ev.now _)
  simp only [rcaLoop]
  rw [taken_dead h.dead,Option.bind_some]
  rfl
theorem args_live (hl:tl.length≤100000000) (ht:∀ t∈tl,t.f0.size≤65536):∀ (m:Nat) (xa:List Int) (ts:List Tk) (s1:Int),ts.length<m→xa.length+ts.length≤1000000→Rp tl en n (.ok ts) (s1,en,n,0,0)→∃ o,Ev (fun k=>rcaLoop k tl xa s1 en n 0 0) o∧Rv tl en n (argsP en m xa ts) o
  | 0,_,_,_,h,_,_=>absurd h (by omega)
  | m+1,xa,ts,s1,hm,hbnd,h=>by
    have hlen:xa.length<1000000000000:=by omega
    by_cases ct:valuesP ts=true
    · obtain ⟨ov,hv,rv⟩:=value_rv hl ht h
      have rv:Rv tl en n (valueP en ts) ov:=rv
      obtain ⟨o,ho,hr⟩:∃ o,Ev (fun k=>rcaLoop k tl (xa++[ov.1]) ov.2.1 ov.2.2.1 ov.2.2.2.1 ov.2.2.2.2.1 ov.2.2.2.2.2) o∧Rv tl en n ((valueP en ts).bind fun v=>argsP en m (xa++[v.1]) v.2) o:=by
        revert rv
        generalize hlv:valueP en ts=lv
        cases lv with
        | error q=>exact fun rv=>⟨_,args_dead _ (show Rp tl en n (.error q) ov.2 from rv),rv⟩
        | ok v=>
          rintro ⟨e2,rv⟩
          have l2:=(indexP_ok (show indexP en 37 1048576 8 ts=.ok (v.1,v.2) from hlv)).2
          have e:=rv.live
          rw [e] at rv
          obtain ⟨o,ho,hr⟩:=args_live hl ht m (xa++[v.1]) v.2 ov.2.1 (by omega) (by simp only [List.length_append,List.length_singleton];omega) rv
          refine ⟨o,?_,hr⟩
          rw [e2,e]
          exact ho
      refine ⟨o,Ev.step (fun k=>?_) (Ev.bind hv ho (f:=fun k v=>rcaLoop k tl (xa++[v.1]) v.2.1 v.2.2.1 v.2.2.2.1 v.2.2.2.2.1 v.2.2.2.2.2)),?_⟩
      · simp only [rcaLoop]
        rw [taken_live h,Option.bind_some,if_pos ct]
        simp only [if_pos hlen]
      · simp only [argsP]
        rw [if_pos ct]
        exact hr
    · refine ⟨(xa,s1,en,n,0,0),Ev.step (f:=fun _=>some (xa,s1,en,n,(0:Int),(0:Int))) (fun k=>?_) (Ev.now _),?_⟩
      · simp only [rcaLoop]
        rw [taken_live h,Option.bind_some,if_neg ct]
      · simp only [argsP]
        rw [if_neg ct]
        exact ⟨rfl,h⟩
theorem args_rv (hl:tl.length≤500000) (ht:∀ t∈tl,t.f0.size≤65536) {x:PE (List Tk)} {s:Int × Int × Int × Int × Int} (h:Rp tl en n x s):∃ o,Ev (fun k=>rcaLoop k tl [] s.1 s.2.1 s.2.2.1 s.2.2.2.1 s.2.2.2.2) o∧Rv tl en n (x.bind fun ts=>argsP en (ts.length+1) [] ts) o:=by
  cases x with
  | error q=>exact ⟨_,args_dead [] h,h⟩
  | ok ts=>
    have e:=h.live
    have hd:ts.length≤tl.length:=by
      obtain ⟨h0,h1,h2,h3,h4⟩:=h
      rw [← h3,List.length_drop]
      omega
    rw [e] at h ⊢
    exact args_live (by omega) ht (ts.length+1) [] ts s.1 (by omega) (by simp;omega) h
end
end Go.Proofs.Ytkjdblbgmomieaa.PSh
end
-- from YtkjdblbgmomieaaRSimF
section
namespace Go.Proofs.Ytkjdblbgmomieaa.PSh
open Go.RowKit Go.Proofs.YtkjdblbgmomieaaW.PrintWords Go.Proofs.YtkjdblbgmomieaaW.PrintLast Go.Proofs.YtkjdblbgmomieaaW.PrintMore Go.Proofs.Ytkjdblbgmomieaa.Str Go.Proofs.Ytkjdblbgmomieaa.Dig Go.Proofs.Ytkjdblbgmomieaa.DigLaw
set_option linter.unusedVariables false
set_option linter.unusedSimpArgs false
section
variable {tl : List Tk} {en n : Int}
theorem Rv.st {α:Type} {x:PE (α × List Tk)} {o:α × Int × Int × Int × Int × Int} (h:Rv tl en n x o):Rp tl en n (x.bind fun a=>.ok a.2) o.2:=by
  cases x with
  | ok a=>exact h.2
  | error q=>exact h
def RvO (tl:List Tk) (en n:Int) (x:PE (OpR × List Tk)) (o:Int × ByteArray × List Int × Int × Int × Int × Int × Int):Prop:=match x with
  | .ok a=>o.1=a.1.n∧o.2.1=a.1.nm∧o.2.2.1=a.1.xa∧a.1.xt=[]∧Rp tl en n (.ok a.2) o.2.2.2
  | .error q=>Rp tl en n (.error q) o.2.2.2
theorem sign_rv (hl:tl.length≤500000) (ht:∀ t∈tl,t.f0.size≤65536) {x:PE (List Tk)} {s:Int × Int × Int × Int × Int} (h:Rp tl en n x s):∃ o,Ev (fun k=>(r06_Reader_peek.f tl s.1 s.2.1 s.2.2.1 s.2.2.2.1 s.2.2.2.2 0).bind fun p=>(if p.1.toList=([]:List UInt8) then some ((0:Int),p.2.1,p.2.2.1,p.2.2.2.1,p.2.2.2.2.1,p.2.2.2.2.2) else if 0<(p.1.size:Int) then (if bt p.1 0=64 then r06_Reader_index.f k tl p.2.1 p.2.2.1 p.2.2.2.1 p.2.2.2.2.1 p.2.2.2.2.2 64 1048576 3 else some (0,p.2.1,p.2.2.1,p.2.2.2.1,p.2.2.2.2.1,p.2.2.2.2.2)) else none)) o∧
    Rv tl en n (x.bind fun ts=>if (decide (0<(pk0 ts).size) && (bt (pk0 ts) 0==64))=true then indexP en 64 1048576 3 ts else .ok (0,ts)) o:=by
  cases x with
  | error q=>
    refine ⟨((0:Int),s),?_,h⟩
    simp only [peek_dead h.dead,Option.bind_some]
    exact ev_pos ByteArray.toList_empty (Ev.now _)
  | ok ts=>
    have e:=h.live
    rw [e] at h ⊢
    generalize s.1=s1 at h ⊢
    simp only [peek_live0 h,Option.bind_some]
    show ∃ o,_∧Rv tl en n (if (decide (0<(pk0 ts).size) && (bt (pk0 ts) 0==64))=true then indexP en 64 1048576 3 ts else .ok (0,ts)) o
    by_cases c:(pk0 ts).toList=([]:List UInt8)
    · have:=(empty_iff _).1 c
      rw [decide_eq_false (by omega:¬ 0<(pk0 ts).size),Bool.false_and,if_neg (by decide)]
      exact ⟨_,ev_pos c (Ev.now _),rfl,h⟩
    · have hne:(pk0 ts).size≠0:=fun q=>c ((empty_iff _).2 q)
      rw [decide_eq_true (by omega:0<(pk0 ts).size),Bool.true_and]
      by_cases c2:bt (pk0 ts) 0=64
      · rw [if_pos (beq_iff_eq.mpr c2)]
        obtain ⟨o,ho,hr⟩:=index_rv (sign:=64) (most:=1048576) (c:=3) (by omega) ht (by decide) h
        exact ⟨o,ev_neg c (ev_pos (by omega) (ev_pos c2 ho)),hr⟩
      · rw [beq_eq_false_iff_ne.mpr c2,if_neg (by decide)]
        exact ⟨_,ev_neg c (ev_pos (by omega) (ev_neg c2 (Ev.now _))),rfl,h⟩
theorem call_rv (hl:tl.length≤500000) (ht:∀ t∈tl,t.f0.size≤65536) {x:PE (List Tk)} {s:Int × Int × Int × Int × Int} (h:Rp tl en n x s):∃ o,Ev (fun k=>r06_Reader_call.f k tl s.1 s.2.1 s.2.2.1 s.2.2.2.1 s.2.2.2.2 0) o∧RvO tl en n (x.bind (callP en)) o:=by
  obtain ⟨o1,h1,r1⟩:=sign_rv hl ht h
  obtain ⟨o2,h2,r2⟩:=name_rv (by omega) ht r1.st
  obtain ⟨o3,h3,r3⟩:=args_rv hl ht r2.st
  refine ⟨(o1.1,o2.1,o3.1,o3.2),?_,?_⟩
  · unfold r06_Reader_call.f
    cases hp:r06_Reader_peek.f tl s.1 s.2.1 s.2.2.1 s.2.2.2.1 s.2.2.2.2 0 with
    | none=>
      rw [hp] at h1
      obtain ⟨K,hK⟩:=h1
      exact absurd (hK K (Nat.le_refl _)) (by simp)
    | some p=>
      rw [hp] at h1
      simp only [Option.bind_some] at h1 ⊢
      exact Ev.bind h1 (Ev.bind h2 (Ev.bind h3 (Ev.now _)))
  · cases x with
    | error q=>exact r3
    | ok ts=>
      show RvO tl en n (callP en ts) _
      unfold callP
      revert r1 r2 r3
      generalize hq:(Except.bind (.ok ts:PE (List Tk)) fun ts=>if (decide (0<(pk0 ts).size) && (bt (pk0 ts) 0==64))=true then indexP en 64 1048576 3 ts else .ok (0,ts))=y1
      have hq:(if (decide (0<(pk0 ts).size) && (bt (pk0 ts) 0==64))=true then indexP en 64 1048576 3 ts else .ok (0,ts))=y1:=hq
      rw [hq]
      intro r1 r2 r3
      cases y1 with
      | error q=>exact r3
      | ok a1=>
        have e1:=r1.1
        have r2:Rv tl en n (nameP en a1.2) o2:=r2
        have r3:Rv tl en n (Except.bind (Except.bind (nameP en a1.2) fun a=>.ok a.2) fun ts=>argsP en (ts.length+1) [] ts) o3:=r3
        show RvO tl en n (Except.bind (nameP en a1.2) _) _
        revert r2 r3
        cases nameP en a1.2 with
        | error q=>exact fun _ r3=>r3
        | ok a2=>
          intro r2 r3
          have e2:=r2.1
          have r3:Rv tl en n (argsP en (a2.2.length+1) [] a2.2) o3:=r3
          show RvO tl en n (Except.bind (argsP en (a2.2.length+1) [] a2.2) _) _
          revert r3
          cases argsP en (a2.2.length+1) [] a2.2 with
          | error q=>exact fun r3=>r3
          | ok a3=>exact fun r3=>⟨e1,e2,r3.1,rfl,r3.2⟩
end
end Go.Proofs.Ytkjdblbgmomieaa.PSh
end
-- from YtkjdblbgmomieaaHRRest
section
namespace Go.Proofs.Ytkjdblbgmomieaa.PSh
set_option maxHeartbeats 8000000
set_option maxRecDepth 100000
open Go.RowKit Go.Proofs.YtkjdblbgmomieaaW.PrintWords Go.Proofs.YtkjdblbgmomieaaW.PrintLast Go.Proofs.YtkjdblbgmomieaaW.PrintMore Go.Proofs.Ytkjdblbgmomieaa.Str
set_option linter.unusedVariables false
set_option linter.unusedSimpArgs false
abbrev RT6:Type:=Int × List Int × List Int × Int × Int × Int × Int × Int
def rreStep (k:Nat) (tl:List (S101)) (c:Nat):RT6→Option RT6
  | (n,xa,xt,s1,s2,s3,s4,s5)=>if c=118 then (r06_Reader_value.f k tl s1 s2 s3 s4 s5).bind fun y=>some (n,xa++[y.1],xt,y.2.1,y.2.2.1,y.2.2.2.1,y.2.2.2.2.1,y.2.2.2.2.2)
    else if c=115 then (r06_Reader_number.f k tl s1 s2 s3 s4 s5 0 15).bind fun y=>some (y.1,xa,xt,y.2.1,y.2.2.1,y.2.2.2.1,y.2.2.2.2.1,y.2.2.2.2.2)
    else if c=110 then (r06_Reader_number.f k tl s1 s2 s3 s4 s5 0 1048576).bind fun y=>some (y.1,xa,xt,y.2.1,y.2.2.1,y.2.2.2.1,y.2.2.2.2.1,y.2.2.2.2.2)
    else if c=108 then (r06_Reader_label.f k tl s1 s2 s3 s4 s5).bind fun y=>some (n,xa,xt++[y.1],y.2.1,y.2.2.1,y.2.2.2.1,y.2.2.2.2.1,y.2.2.2.2.2)
    else some (n,xa,xt,s1,s2,s3,s4,s5)
def rreSteps (k:Nat) (tl:List (S101)):List UInt8→RT6→Option RT6
  | [],st=>some st
  | c::cs,st=>(rreStep k tl c.toNat st).bind fun st2=>rreSteps k tl cs st2
def r06_Reader_rest.f (k:Nat) (tl:List (S101)) (s1 s2 s3 s4 s5:Int) (n:Int) (l:ByteArray):Option RT6:=if l.size≤8 then rreSteps k tl l.data.toList (n,[],[],s1,s2,s3,s4,s5) else none
theorem rre_round (k:Nat) (tl:List (S101)) (q:ByteArray) (st R:RT6) (x5:Int) (h0:0≤x5) (h1:x5<(q.size:Int)) (h:rreSteps k tl (q.data.toList.drop x5.toNat) st=some R):
    ∃ (cn:Nat) (st2:RT6),bt q x5=(cn:Int)∧rreStep k tl cn st=some st2∧rreSteps k tl (q.data.toList.drop (x5+1).toNat) st2=some R:=by
  obtain ⟨n,rfl⟩:=Int.eq_ofNat_of_zero_le h0
  have hp:n<q.size:=by omega
  have hp2:n<q.data.toList.length:=by rw [← size_data];exact hp
  rw [Int.toNat_natCast,List.drop_eq_getElem_cons hp2] at h
  obtain ⟨s,hs,h⟩:=Option.bind_eq_some_iff.mp h
  have e1:((n:Int)+1).toNat=n+1:=by omega
  rw [e1]
  exact ⟨_,s,(bt_at q (n:Int) (by rw [Int.toNat_natCast];exact hp)).symm,hs,h⟩
theorem rreStep_len (k:Nat) (tl:List (S101)) (c:Nat) (n:Int) (xa xt:List Int) (s1 s2 s3 s4 s5:Int) (R:RT6) (h:rreStep k tl c (n,xa,xt,s1,s2,s3,s4,s5)=some R):R.2.1.length≤xa.length+1∧R.2.2.1.length≤xt.length+1:=by
  simp only [rreStep] at h
  split at h
  · obtain ⟨y,-,h⟩:=Option.bind_eq_some_iff.mp h
    obtain rfl:=Option.some.inj h
    simp
  · split at h
    · obtain ⟨y,-,h⟩:=Option.bind_eq_some_iff.mp h
      obtain rfl:=Option.some.inj h
      simp
    · split at h
      · obtain ⟨y,-,h⟩:=Option.bind_eq_some_iff.mp h
        obtain rfl:=Option.some.inj h
        simp
      · split at h
        · obtain ⟨y,-,h⟩:=Option.bind_eq_some_iff.mp h
          obtain rfl:=Option.some.inj h
          simp
        · obtain rfl:=Option.some.inj h
          simp
theorem r06_Reader_rest.calls (k g:Nat) (tl:List (S101)) (s1 s2 s3 s4 s5:Int) (op id n ty:Int) (nm:ByteArray) (at_:Int) (l:ByteArray) (rn:Int) (ras rts:List Int) (r1 r2 r3 r4 r5:Int) (w0 w:World) (hI:IsS89 w0 w g tl s1 s2 s3 s4 s5) (hB:Below w0.heap.size w0 w) (h:r06_Reader_rest.f k tl s1 s2 s3 s4 s5 n l=some (rn,ras,rts,r1,r2,r3,r4,r5)):
    Calls Try.prog 114 #[.pointer (some ⟨g,0,none⟩),.agg #[.int .i64 op,.int .i64 id,.int .i64 n,.int .i64 ty,.slice none 0 0,.slice none 0 0,.string nm,.int .i64 at_],.string l] w fun e w'=>∃ va vt:Value,e=.returned (.agg #[.int .i64 op,.int .i64 id,.int .i64 rn,.int .i64 ty,va,vt,.string nm,.int .i64 at_])∧TwoR w' w.heap.size va vt ras rts∧IsS89 w0 w' g tl r1 r2 r3 r4 r5∧Below w0.heap.size w0 w'∧KeepBut w w' g none:=by
  have hu39:=Try.underlying39
  unfold r06_Reader_rest.f at h
  by_cases hg:l.size≤8
  rotate_left
  · rw [if_neg hg] at h
    cases h
  rw [if_pos hg] at h
  have HST:=aM h
  have HG:=aM hg
  clear h hg
  have HI:=aM hI
  have HB:=aM hB
  have HL:=aM hI.lt
  clear hI hB
  go_enter Try.func114,Try.ntmps114
  have hy:=blk_alloc (blk_new w (.cells #[.int .i64 op,.int .i64 id,.int .i64 n,.int .i64 ty,.slice none 0 0,.slice none 0 0,.string nm,.int .i64 at_] 39)) (.cells #[.int .i64 0,.int .i64 0,.int .i64 0,.int .i64 0,.slice none 0 0,.slice none 0 0,.string ⟨#[]⟩,.int .i64 0] 39)
  have hz:=blk_new (w.alloc (.cells #[.int .i64 op,.int .i64 id,.int .i64 n,.int .i64 ty,.slice none 0 0,.slice none 0 0,.string nm,.int .i64 at_] 39)) (.cells #[.int .i64 0,.int .i64 0,.int .i64 0,.int .i64 0,.slice none 0 0,.slice none 0 0,.string ⟨#[]⟩,.int .i64 0] 39)
  have hs:(w.alloc (.cells #[.int .i64 op,.int .i64 id,.int .i64 n,.int .i64 ty,.slice none 0 0,.slice none 0 0,.string nm,.int .i64 at_] 39)).heap.size=w.heap.size+1:=by simp
  rw [hs] at hz
  have hi0:=(HI.out.alloc (.cells #[.int .i64 op,.int .i64 id,.int .i64 n,.int .i64 ty,.slice none 0 0,.slice none 0 0,.string nm,.int .i64 at_] 39)).alloc (.cells #[.int .i64 0,.int .i64 0,.int .i64 0,.int .i64 0,.slice none 0 0,.slice none 0 0,.string ⟨#[]⟩,.int .i64 0] 39)
  have hb0:=below_alloc (below_alloc HB.out (.cells #[.int .i64 op,.int .i64 id,.int .i64 n,.int .i64 ty,.slice none 0 0,.slice none 0 0,.string nm,.int .i64 at_] 39)) (.cells #[.int .i64 0,.int .i64 0,.int .i64 0,.int .i64 0,.slice none 0 0,.slice none 0 0,.string ⟨#[]⟩,.int .i64 0] 39)
  have hk0:=keep_alloc (keep_alloc (g:=g) (KeepBut.refl w g none) (.cells #[.int .i64 op,.int .i64 id,.int .i64 n,.int .i64 ty,.slice none 0 0,.slice none 0 0,.string nm,.int .i64 at_] 39)) (.cells #[.int .i64 0,.int .i64 0,.int .i64 0,.int .i64 0,.slice none 0 0,.slice none 0 0,.string ⟨#[]⟩,.int .i64 0] 39)
  clear hs
  go_upto_region 1 with (fail)
  generalize (w.alloc (.cells #[.int .i64 op,.int .i64 id,.int .i64 n,.int .i64 ty,.slice none 0 0,.slice none 0 0,.string nm,.int .i64 at_] 39)).alloc (.cells #[.int .i64 0,.int .i64 0,.int .i64 0,.int .i64 0,.slice none 0 0,.slice none 0 0,.string ⟨#[]⟩,.int .i64 0] 39)=W0 at hy hz hi0 hb0 hk0 ⊢
  have HX:=aM (show IXAt g (w.heap.size+1) W0.heap.size #[.int .i64 0,.int .i64 0,.int .i64 0,.int .i64 0,.slice none 0 0,.slice none 0 0,.string ⟨#[]⟩,.int .i64 0] tl ⟨op,id,n,ty,[],[],nm,at_⟩ (.slice none 0 0) (.slice none 0 0) s1 s2 s3 s4 s5 w0 w (W0.alloc (.cells #[.int .i64 op,.int .i64 id,.int .i64 n,.int .i64 ty,.slice none 0 0,.slice none 0 0,.string nm,.int .i64 at_] 39)) from
    ⟨hi0.alloc _,below_alloc hb0 _,keep_alloc hk0 _,HB.out.size,HL.out,Nat.le_succ _,blk_lt hz,blk_alloc hz _,blk_new _ _,TwoR.nil _ _⟩)
  have y_0:=blk_cell hy 0
  have y_1:=blk_cell hy 1
  have y_2:=blk_cell hy 2
  have y_3:=blk_cell hy 3
  have y_4:=blk_cell hy 4
  have y_5:=blk_cell hy 5
  have y_6:=blk_cell hy 6
  have y_7:=blk_cell hy 7
  clear hy hz hi0 hb0 hk0
  generalize hbx:W0.heap.size=bx_ at HX
  go_wp2
  (try simp only [Act.put,qA,qB,qC])
  generalize W0.alloc (.cells #[.int .i64 op,.int .i64 id,.int .i64 n,.int .i64 ty,.slice none 0 0,.slice none 0 0,.string nm,.int .i64 at_] 39)=W1 at HX ⊢
  clear y_0 y_1 y_2 y_3 y_4 y_5 y_6 y_7
  go_loopg [8] l.size (fun kq v8 w'=>∃ (x5 m:Int) (xa xt:List Int) (va vt:Value) (t1 t2 t3 t4 t5:Int),v8=.int .i64 x5∧Aside0 (0≤x5∧x5≤(l.size:Int))∧Aside0 (rreSteps k tl (l.data.toList.drop x5.toNat) (m,xa,xt,t1,t2,t3,t4,t5)=some (rn,ras,rts,r1,r2,r3,r4,r5))∧Aside0 (IXAt g (w.heap.size+1) bx_ #[.int .i64 0,.int .i64 0,.int .i64 0,.int .i64 0,.slice none 0 0,.slice none 0 0,.string ⟨#[]⟩,.int .i64 0] tl ⟨op,id,m,ty,xa,xt,nm,at_⟩ va vt t1 t2 t3 t4 t5 w0 w w')∧Aside0 (kq=l.size - x5.toNat)∧Aside0 (xa.length≤x5.toNat∧xt.length≤x5.toNat))
  case atStart=>exact ⟨0,_,_,_,_,_,_,_,_,_,_,rfl,⟨by omega⟩,⟨HST.out⟩,⟨HX.out⟩,⟨rfl⟩,⟨by simp⟩⟩
  case round=>
    clear HX
    obtain ⟨x5,m,xa,xt,va,vt,t1,t2,t3,t4,t5,rfl,HPO,HRS,HX,HK,HLE⟩:=hrel
    obtain ⟨Aa,ca,At,ct,ea,et⟩:=HX.out.sl
    subst ea
    subst et
    by_cases hp:x5<(l.size:Int)
    · obtain ⟨cn,⟨m',xa',xt',u1,u2,u3,u4,u5⟩,hbt,hs,hrest⟩:=rre_round k tl l _ _ x5 HPO.out.1 hp HRS.out
      have hl2:=rreStep_len _ _ _ _ _ _ _ _ _ _ _ _ hs
      have HLE2:=aM hl2
      have HLEN:=aM (show xt.length<1000000000000∧xa.length<1000000000000 from by have:=HLE.out;have:=HG.out;have:=HPO.out;omega)
      have p22:(0≤x5)=True:=eq_true HPO.out.1
      have q22:(x5<(l.size:Int))=True:=eq_true hp
      have d22:decide (x5<(l.size:Int))=true:=decide_eq_true hp
      have hx22:=bt_at l x5
      have HP2:=aM hp
      have HS:=aM hs
      have HR2:=aM hrest
      clear hp hs hrest HRS hl2
      have HBT:=aM hbt
      clear hbt
      go_upto_block 1 with (fail)
      go_cut [] (fun wx=>∃ va' vt',Aside0 (IXAt g (w.heap.size+1) bx_ #[.int .i64 0,.int .i64 0,.int .i64 0,.int .i64 0,.slice none 0 0,.slice none 0 0,.string ⟨#[]⟩,.int .i64 0] tl ⟨op,id,m',ty,xa',xt',nm,at_⟩ va' vt' u1 u2 u3 u4 u5 w0 w wx))
      case first=>
        have hbt:=HBT.out
        have hs:=HS.out
        simp only [rreStep] at hs
        by_cases k0:cn=118
        · rw [if_pos k0] at hs
          have g0:(bt l x5==118)=true:=beq_iff_eq.mpr (by omega)
          clear hbt k0
          obtain ⟨⟨y0,y1,y2,y3,y4,y5⟩,hy,hs⟩:=Option.bind_eq_some_iff.mp hs
          have HZ:=aM hy
          clear hy
          replace hs:=Option.some.inj hs
          simp only [Prod.mk.injEq] at hs
          obtain ⟨rfl,rfl,rfl,rfl,rfl,rfl,rfl,rfl⟩:=hs
          go_wp2_with fail
          refine (r06_Reader_value.calls k g tl _ _ _ _ _ _ _ _ _ _ _ w0 _ HX.out.i HX.out.b HZ.out).mono ?_
          rintro e w2 ⟨rfl,hi_,hb_,hk_⟩
          have HX2:=aM (HX.out.call hi_ hb_ hk_)
          clear hi_ hb_ hk_
          have y_:=HX2.out.at1 4
          simp only [iObj] at y_
          go_wp2_with (first | ((with_reducible refine gate_builtin (b:=.append) (xs:=#[.tmp 26,.tmp 28]) rfl ?_);at_builtin;refine Kd.R_append (Kd.int .i64) w.heap.size rfl (.tmp 26) (.tmp 28) 31 3 (.int .i64 0) 8 rfl Try.underlying31 (by kernel_rfl) rfl (by decide) (by omega) (.slice Aa xa.length ca) xa y0 [.int .i64 y0] (fun _=>True) (fun k=>True∧some k≠(Value.slice Aa xa.length ca).ownBlock) rfl rfl rfl (fun k hk=>⟨trivial,hk.2⟩) (fun k hk=>trivial) HX2.out.two.ra (Below.refl _ _) (keep_size HX2.out.k) (by have:=HLEN.out;omega) ?_;intro v1 w4_ hr4 hb4 hg4 hv4;obtain ⟨A6,c6,e6⟩:=Kd.R_slice hr4;rw [List.length_append,List.length_singleton] at e6;subst e6;have HX3:=aM (HX2.out.app hg4 (.inl rfl) ⟨op,id,m,ty,xa++[y0],xt,nm,at_⟩ 4 _ rfl (HX2.out.two.appA hr4 hg4 hv4));have B4:=(hg4.block bx_ (blk_lt HX2.out.box) (Kd.R_ne HX2.out.two.ra HX2.out.box (by decide))).trans HX2.out.box;have c4_:=blk_cell B4 4;have f4_:=blk_frozen B4 4;clear hr4 hb4 hg4 hv4 B4))
          go_meet
          exact ⟨_,_,HX3⟩
        rw [if_neg k0] at hs
        have g0:(bt l x5==118)=false:=beq_eq_false_iff_ne.mpr (by omega)
        by_cases k1:cn=115
        · rw [if_pos k1] at hs
          have g1:(bt l x5==115)=true:=beq_iff_eq.mpr (by omega)
          clear hbt k1
          obtain ⟨⟨y0,y1,y2,y3,y4,y5⟩,hy,hs⟩:=Option.bind_eq_some_iff.mp hs
          have HZ:=aM hy
          clear hy
          replace hs:=Option.some.inj hs
          simp only [Prod.mk.injEq] at hs
          obtain ⟨rfl,rfl,rfl,rfl,rfl,rfl,rfl,rfl⟩:=hs
          go_wp2_with fail
          refine (r06_Reader_number.calls k g tl _ _ _ _ _ 0 15 _ _ _ _ _ _ w0 _ HX.out.i HX.out.b HZ.out).mono ?_
          rintro e w2 ⟨rfl,hi_,hb_,hk_⟩
          have HX2:=aM (HX.out.call hi_ hb_ hk_)
          clear hi_ hb_ hk_
          have c2_:=HX2.out.at1 2
          have f2_:=blk_frozen HX2.out.box 2
          simp only [iObj] at c2_
          have HX3:=aM (HX2.out.put ⟨op,id,y0,ty,xa,xt,nm,at_⟩ 2 (.int .i64 y0) rfl rfl rfl)
          clear HX2
          go_wp2_with fail
          go_meet
          exact ⟨_,_,HX3⟩
        rw [if_neg k1] at hs
        have g1:(bt l x5==115)=false:=beq_eq_false_iff_ne.mpr (by omega)
        by_cases k2:cn=110
        · rw [if_pos k2] at hs
          have g2:(bt l x5==110)=true:=beq_iff_eq.mpr (by omega)
          clear hbt k2
          obtain ⟨⟨y0,y1,y2,y3,y4,y5⟩,hy,hs⟩:=Option.bind_eq_some_iff.mp hs
          have HZ:=aM hy
          clear hy
          replace hs:=Option.some.inj hs
          simp only [Prod.mk.injEq] at hs
          obtain ⟨rfl,rfl,rfl,rfl,rfl,rfl,rfl,rfl⟩:=hs
          go_wp2_with fail
          refine (r06_Reader_number.calls k g tl _ _ _ _ _ 0 1048576 _ _ _ _ _ _ w0 _ HX.out.i HX.out.b HZ.out).mono ?_
          rintro e w2 ⟨rfl,hi_,hb_,hk_⟩
          have HX2:=aM (HX.out.call hi_ hb_ hk_)
          clear hi_ hb_ hk_
          have c2_:=HX2.out.at1 2
          have f2_:=blk_frozen HX2.out.box 2
          simp only [iObj] at c2_
          have HX3:=aM (HX2.out.put ⟨op,id,y0,ty,xa,xt,nm,at_⟩ 2 (.int .i64 y0) rfl rfl rfl)
          clear HX2
          go_wp2_with fail
          go_meet
          exact ⟨_,_,HX3⟩
        rw [if_neg k2] at hs
        have g2:(bt l x5==110)=false:=beq_eq_false_iff_ne.mpr (by omega)
        by_cases k3:cn=108
        · rw [if_pos k3] at hs
          have g3:(bt l x5==108)=true:=beq_iff_eq.mpr (by omega)
          clear hbt k3
          obtain ⟨⟨y0,y1,y2,y3,y4,y5⟩,hy,hs⟩:=Option.bind_eq_some_iff.mp hs
          have HZ:=aM hy
          clear hy
          replace hs:=Option.some.inj hs
          simp only [Prod.mk.injEq] at hs
          obtain ⟨rfl,rfl,rfl,rfl,rfl,rfl,rfl,rfl⟩:=hs
          go_wp2_with fail
          refine (r06_Reader_label.calls k g tl _ _ _ _ _ _ _ _ _ _ _ w0 _ HX.out.i HX.out.b HZ.out).mono ?_
          rintro e w2 ⟨rfl,hi_,hb_,hk_⟩
          have HX2:=aM (HX.out.call hi_ hb_ hk_)
          clear hi_ hb_ hk_
          have y_:=HX2.out.at1 5
          simp only [iObj] at y_
          go_wp2_with (first | ((with_reducible refine gate_builtin (b:=.append) (xs:=#[.tmp 46,.tmp 48]) rfl ?_);at_builtin;refine Kd.R_append (Kd.int .i64) w.heap.size rfl (.tmp 46) (.tmp 48) 31 3 (.int .i64 0) 8 rfl Try.underlying31 (by kernel_rfl) rfl (by decide) (by omega) (.slice At xt.length ct) xt y0 [.int .i64 y0] (fun _=>True) (fun k=>True∧some k≠(Value.slice At xt.length ct).ownBlock) rfl rfl rfl (fun k hk=>⟨trivial,hk.2⟩) (fun k hk=>trivial) HX2.out.two.rt (Below.refl _ _) (keep_size HX2.out.k) (by have:=HLEN.out;omega) ?_;intro v1 w4_ hr4 hb4 hg4 hv4;obtain ⟨A6,c6,e6⟩:=Kd.R_slice hr4;rw [List.length_append,List.length_singleton] at e6;subst e6;have HX3:=aM (HX2.out.app hg4 (.inr rfl) ⟨op,id,m,ty,xa,xt++[y0],nm,at_⟩ 5 _ rfl (HX2.out.two.appT hr4 hg4 hv4));have B4:=(hg4.block bx_ (blk_lt HX2.out.box) (Kd.R_ne HX2.out.two.rt HX2.out.box (by decide))).trans HX2.out.box;have c4_:=blk_cell B4 5;have f4_:=blk_frozen B4 5;clear hr4 hb4 hg4 hv4 B4))
          go_meet
          exact ⟨_,_,HX3⟩
        rw [if_neg k3] at hs
        have g3:(bt l x5==108)=false:=beq_eq_false_iff_ne.mpr (by omega)
        replace hs:=Option.some.inj hs
        simp only [Prod.mk.injEq] at hs
        obtain ⟨rfl,rfl,rfl,rfl,rfl,rfl,rfl,rfl⟩:=hs
        clear k0 k1 k2 k3 hbt
        go_wp2_with fail
        go_meet
        exact ⟨_,_,HX⟩
      case rest=>
        obtain ⟨va',vt',HX5⟩:=hcut
        clear HX
        go_wp2_with fail
        go_roundg (l.size - (x5+1).toNat)
        case measure=>have:=HK.out;have:=HP2.out;have:=HPO.out;omega
        case rel=>exact ⟨x5+1,_,_,_,_,_,_,_,_,_,_,by rw [show wrap64 (x5+1)=x5+1 from w64 (by have:=HPO.out;omega) (by have:=HP2.out;have:=HG.out;omega)],⟨by have:=HP2.out;have:=HPO.out;omega⟩,⟨HR2.out⟩,⟨HX5.out⟩,⟨rfl⟩,⟨by have h1:=HLE.out;have h2:=HLE2.out;have h3:=HPO.out;omega⟩⟩
    · have hd:l.data.toList.drop x5.toNat=[]:=List.drop_eq_nil_of_le (by rw [← size_data];have:=HPO.out;omega)
      have d22:decide (x5<(l.size:Int))=false:=decide_eq_false hp
      have hr:=HRS.out
      rw [hd] at hr
      replace hr:=Option.some.inj hr
      simp only [Prod.mk.injEq] at hr
      obtain ⟨rfl,rfl,rfl,rfl,rfl,rfl,rfl,rfl⟩:=hr
      clear hd hp HRS
      have c_0:=HX.out.at1 0
      have f_0:=blk_frozen HX.out.box 0
      have d_0:=blk_cell HX.out.zero 0
      have e_0:=blk_frozen HX.out.zero 0
      have c_1:=HX.out.at1 1
      have f_1:=blk_frozen HX.out.box 1
      have d_1:=blk_cell HX.out.zero 1
      have e_1:=blk_frozen HX.out.zero 1
      have c_2:=HX.out.at1 2
      have f_2:=blk_frozen HX.out.box 2
      have d_2:=blk_cell HX.out.zero 2
      have e_2:=blk_frozen HX.out.zero 2
      have c_3:=HX.out.at1 3
      have f_3:=blk_frozen HX.out.box 3
      have d_3:=blk_cell HX.out.zero 3
      have e_3:=blk_frozen HX.out.zero 3
      have c_4:=HX.out.at1 4
      have f_4:=blk_frozen HX.out.box 4
      have d_4:=blk_cell HX.out.zero 4
      have e_4:=blk_frozen HX.out.zero 4
      have c_5:=HX.out.at1 5
      have f_5:=blk_frozen HX.out.box 5
      have d_5:=blk_cell HX.out.zero 5
      have e_5:=blk_frozen HX.out.zero 5
      have c_6:=HX.out.at1 6
      have f_6:=blk_frozen HX.out.box 6
      have d_6:=blk_cell HX.out.zero 6
      have e_6:=blk_frozen HX.out.zero 6
      have c_7:=HX.out.at1 7
      have f_7:=blk_frozen HX.out.box 7
      have d_7:=blk_cell HX.out.zero 7
      have e_7:=blk_frozen HX.out.zero 7
      have HE:=aM ((((((((HX.out.setz 0 (.int .i64 (⟨op,id,m,ty,xa,xt,nm,at_⟩:S39).f0)).setz 1 (.int .i64 (⟨op,id,m,ty,xa,xt,nm,at_⟩:S39).f1)).setz 2 (.int .i64 (⟨op,id,m,ty,xa,xt,nm,at_⟩:S39).f2)).setz 3 (.int .i64 (⟨op,id,m,ty,xa,xt,nm,at_⟩:S39).f3)).setz 4 (.slice Aa xa.length ca)).setz 5 (.slice At xt.length ct)).setz 6 (.string (⟨op,id,m,ty,xa,xt,nm,at_⟩:S39).f6)).setz 7 (.int .i64 (⟨op,id,m,ty,xa,xt,nm,at_⟩:S39).f7))
      have hne:w.heap.size+1≠bx_:=by have:=HX.out.lt;omega
      have hne':bx_≠w.heap.size+1:=by have:=HX.out.lt;omega
      simp only [iObj] at c_0 c_1 c_2 c_3 c_4 c_5 c_6 c_7
      clear HX
      go_wp2
      refine bodyPost_ret (results_cell_row rfl _ _ (w.heap.size+1) 39 #[.int .i64 (⟨op,id,m,ty,xa,xt,nm,at_⟩:S39).f0,.int .i64 (⟨op,id,m,ty,xa,xt,nm,at_⟩:S39).f1,.int .i64 (⟨op,id,m,ty,xa,xt,nm,at_⟩:S39).f2,.int .i64 (⟨op,id,m,ty,xa,xt,nm,at_⟩:S39).f3,.slice Aa xa.length ca,.slice At xt.length ct,.string (⟨op,id,m,ty,xa,xt,nm,at_⟩:S39).f6,.int .i64 (⟨op,id,m,ty,xa,xt,nm,at_⟩:S39).f7] (0,0) _ rfl HE.out.zero Try.underlying39 rfl (by kernel_rfl)) rfl ?_
      exact ⟨_,_,rfl,HE.out.two,HE.out.i,HE.out.b,HE.out.k⟩
end Go.Proofs.Ytkjdblbgmomieaa.PSh
end
-- from YtkjdblbgmomieaaRSimG
section
namespace Go.Proofs.Ytkjdblbgmomieaa.PSh
open Go.RowKit Go.Proofs.YtkjdblbgmomieaaW.PrintWords Go.Proofs.YtkjdblbgmomieaaW.PrintLast Go.Proofs.YtkjdblbgmomieaaW.PrintMore Go.Proofs.Ytkjdblbgmomieaa.Str Go.Proofs.Ytkjdblbgmomieaa.Dig Go.Proofs.Ytkjdblbgmomieaa.DigLaw
set_option linter.unusedVariables false
set_option linter.unusedSimpArgs false
abbrev RS3:Type:=Int × List Int × List Int
def stepP (en:Int) (c:Nat) (st:RS3) (ts:List Tk):PE (RS3 × List Tk):=
  if c=118 then (valueP en ts).bind fun y=>.ok ((st.1,st.2.1++[y.1],st.2.2),y.2)
  else if c=115 then (numberP en 0 15 ts).bind fun y=>.ok ((y.1,st.2.1,st.2.2),y.2)
  else if c=110 then (numberP en 0 1048576 ts).bind fun y=>.ok ((y.1,st.2.1,st.2.2),y.2)
  else if c=108 then (labelP en ts).bind fun y=>.ok ((st.1,st.2.1,st.2.2++[y.1]),y.2)
  else .ok (st,ts)
section
variable {tl : List Tk} {en n : Int}
def Rv6 (tl:List Tk) (en n:Int) (x:PE (RS3 × List Tk)) (o:RT6):Prop:=match x with
  | .ok a=>o.1=a.1.1∧o.2.1=a.1.2.1∧o.2.2.1=a.1.2.2∧Rp tl en n (.ok a.2) o.2.2.2
  | .error q=>Rp tl en n (.error q) o.2.2.2
theorem rv6_of {α:Type} {x:PE (List Tk)} {y:List Tk→PE (α × List Tk)} {o:α × Int × Int × Int × Int × Int} (f:α→RS3) (h:Rv tl en n (x.bind y) o):Rv6 tl en n (x.bind fun ts=>(y ts).bind fun a=>.ok (f a.1,a.2)) ((f o.1).1,(f o.1).2.1,(f o.1).2.2,o.2):=by
  cases x with
  | error q=>exact h
  | ok ts=>
    have h:Rv tl en n (y ts) o:=h
    show Rv6 tl en n ((y ts).bind fun a=>.ok (f a.1,a.2)) _
    revert h
    cases y ts with
    | error q=>exact fun h=>h
    | ok a=>
      rintro ⟨e,h⟩
      rw [e]
      exact ⟨rfl,rfl,rfl,h⟩
theorem step_rv (hl:tl.length≤500000) (ht:∀ t∈tl,t.f0.size≤65536) (c:Nat) (st:RS3) {x:PE (List Tk)} {s:Int × Int × Int × Int × Int} (h:Rp tl en n x s):∃ o,Ev (fun k=>rreStep k tl c (st.1,st.2.1,st.2.2,s)) o∧Rv6 tl en n (x.bind (stepP en c st)) o:=by
  obtain ⟨m,xa,xt⟩:=st
  obtain ⟨s1,s2,s3,s4,s5⟩:=s
  unfold rreStep stepP
  by_cases c1:c=118
  · simp only [if_pos c1]
    obtain ⟨o,ho,hr⟩:=value_rv (by omega) ht h
    exact ⟨_,Ev.bind ho (Ev.now _),rv6_of (fun v=>(m,xa++[v],xt)) hr⟩
  by_cases c2:c=115
  · simp only [if_neg c1,if_pos c2]
    obtain ⟨o,ho,hr⟩:=number_rv (low:=0) (high:=15) (by omega) ht h
    exact ⟨_,Ev.bind ho (Ev.now _),rv6_of (fun v=>(v,xa,xt)) hr⟩
  by_cases c3:c=110
  · simp only [if_neg c1,if_neg c2,if_pos c3]
    obtain ⟨o,ho,hr⟩:=number_rv (low:=0) (high:=1048576) (by omega) ht h
    exact ⟨_,Ev.bind ho (Ev.now _),rv6_of (fun v=>(v,xa,xt)) hr⟩
  by_cases c4:c=108
  · simp only [if_neg c1,if_neg c2,if_neg c3,if_pos c4]
    obtain ⟨o,ho,hr⟩:=label_rv (by omega) ht h
    exact ⟨_,Ev.bind ho (Ev.now _),rv6_of (fun v=>(m,xa,xt++[v])) hr⟩
  · simp only [if_neg c1,if_neg c2,if_neg c3,if_neg c4]
    refine ⟨_,Ev.now _,?_⟩
    cases x with
    | error q=>exact h
    | ok ts=>exact ⟨rfl,rfl,rfl,h⟩
def stepsP (en:Int):List UInt8→RS3→List Tk→PE (RS3 × List Tk)
  | [],st,ts=>.ok (st,ts)
  | c::cs,st,ts=>(stepP en c.toNat st ts).bind fun a=>stepsP en cs a.1 a.2
theorem steps_rv (hl:tl.length≤500000) (ht:∀ t∈tl,t.f0.size≤65536):∀ (cs:List UInt8) (st:RS3) (x:PE (List Tk)) (s:Int × Int × Int × Int × Int),Rp tl en n x s→∃ o,Ev (fun k=>rreSteps k tl cs (st.1,st.2.1,st.2.2,s)) o∧Rv6 tl en n (x.bind (stepsP en cs st)) o
  | [],st,x,s,h=>by
    refine ⟨_,Ev.now _,?_⟩
    cases x with
    | error q=>exact h
    | ok ts=>exact ⟨rfl,rfl,rfl,h⟩
  | c::cs,st,x,s,h=>by
    obtain ⟨o1,h1,r1⟩:=step_rv hl ht c.toNat st h
    have e:x.bind (stepsP en (c::cs) st)=(x.bind (stepP en c.toNat st)).bind fun a=>stepsP en cs a.1 a.2:=by cases x<;>rfl
    rw [e]
    revert r1
    cases x.bind (stepP en c.toNat st) with
    | error q=>
      intro r1
      obtain ⟨o,ho,hr⟩:=steps_rv hl ht cs (o1.1,o1.2.1,o1.2.2.1) (.error q) o1.2.2.2 r1
      exact ⟨o,Ev.bind h1 ho,hr⟩
    | ok a=>
      rintro ⟨e1,e2,e3,r1⟩
      obtain ⟨o,ho,hr⟩:=steps_rv hl ht cs a.1 (.ok a.2) o1.2.2.2 r1
      refine ⟨o,Ev.bind h1 ?_,hr⟩
      rw [← e1,← e2,← e3] at ho
      exact ho
end
end Go.Proofs.Ytkjdblbgmomieaa.PSh
end
-- from YtkjdblbgmomieaaRFind
section
namespace Go.Proofs.Ytkjdblbgmomieaa.PSh
open Go.RowKit Go.Proofs.YtkjdblbgmomieaaW.PrintWords Go.Proofs.YtkjdblbgmomieaaW.PrintLast Go.Proofs.YtkjdblbgmomieaaW.PrintMore Go.Proofs.Ytkjdblbgmomieaa.Str Go.Proofs.Ytkjdblbgmomieaa.Dig Go.Proofs.Ytkjdblbgmomieaa.DigLaw
set_option linter.unusedVariables false
set_option linter.unusedSimpArgs false
def rf_wordB (op t:Nat):List UInt8:=(opRows.getD op noRow).w.toList++(if typedB op=true then [46]++(letterB t).toList else [])
theorem rf_ref_word:∀ op:Nat,op<30→∀ t:Nat,t<4→(r05_Word.f (op:Int) 0 0 (t:Int) [] [] (⟨#[]⟩:ByteArray) 0).map ByteArray.toList=some (rf_wordB op t):=by decide+kernel
theorem rf_ref_may:∀ op:Nat,op<30→∀ t:Nat,t<4→r05_May.f (op:Int) (t:Int)=some (mayB op t):=by decide+kernel
def rf_refTypes (s:ByteArray) (op:Nat):Nat→Nat→Option (Int × Int)
  | 0,_=>none
  | d+1,t=>if mayB op t=true∧rf_wordB op t=s.toList then some (op,t) else rf_refTypes s op d (t+1)
def rf_refFrom (s:ByteArray):Nat→Nat→Int × Int
  | 0,_=>(0,0)
  | d+1,op=>match rf_refTypes s op 4 0 with | some r=>r | none=>rf_refFrom s d (op+1)
theorem rf_ref_l1 (s:ByteArray) (op:Nat) (ho:op<30) (r:Int × Int) (hr:Ev (fun k=>r05_Find.l0 k s ((op+1:Nat):Int)) r):
    ∀ d t:Nat,t+d=4→Ev (fun k=>r05_Find.l1 k s (op:Int) (t:Int)) (match rf_refTypes s op d t with | some q=>q | none=>r):=by
  intro d
  induction d with
  | zero=>
    intro t ht
    refine Ev.step (f:=fun k=>r05_Find.l0 k s ((op+1:Nat):Int)) (fun k=>?_) hr
    simp only [r05_Find.l1]
    rw [if_neg (by omega),w64 (by omega) (by omega)]
    rfl
  | succ d ih=>
    intro t ht
    have hw:=rf_ref_word op ho t (by omega)
    obtain ⟨w,hw1,hw2⟩:=Option.map_eq_some_iff.1 hw
    have hm:=rf_ref_may op ho t (by omega)
    have hn:=ih (t+1) (by omega)
    have e1:wrap64 ((t:Int)+1)=((t+1:Nat):Int):=by rw [w64 (by omega) (by omega)];rfl
    rw [rf_refTypes]
    by_cases hmt:mayB op t=true
    · by_cases hs:rf_wordB op t=s.toList
      · rw [if_pos ⟨hmt,hs⟩]
        refine Ev.step (f:=fun _=>some ((op:Int),(t:Int))) (fun k=>?_) (Ev.now _)
        simp only [r05_Find.l1]
        rw [if_pos (by omega),hm,hmt]
        simp only [Option.bind_some,if_true,hw1,hw2,if_pos hs]
      · rw [if_neg (fun e=>hs e.2)]
        refine Ev.step (f:=fun k=>r05_Find.l1 k s (op:Int) ((t+1:Nat):Int)) (fun k=>?_) hn
        simp only [r05_Find.l1]
        rw [if_pos (by omega),hm,hmt]
        simp only [Option.bind_some,if_true,hw1,hw2,if_neg hs,e1]
    · rw [if_neg (fun e=>hmt e.1)]
      refine Ev.step (f:=fun k=>r05_Find.l1 k s (op:Int) ((t+1:Nat):Int)) (fun k=>?_) hn
      have hf:mayB op t=false:=by simpa using hmt
      simp only [r05_Find.l1]
      rw [if_pos (by omega),hm,hf,e1]
      rfl
theorem rf_ref_l0 (s:ByteArray):∀ d op:Nat,op+d=30→Ev (fun k=>r05_Find.l0 k s (op:Int)) (rf_refFrom s d op):=by
  intro d
  induction d with
  | zero=>
    intro op h
    exact Ev.step (f:=fun _=>some (0,0)) (fun k=>by simp only [r05_Find.l0];rw [if_neg (by omega)]) (Ev.now _)
  | succ d ih=>
    intro op h
    refine Ev.step (f:=fun k=>r05_Find.l1 k s (op:Int) ((0:Nat):Int)) (fun k=>by simp only [r05_Find.l0];rw [if_pos (by omega)];rfl) ?_
    exact rf_ref_l1 s op (by omega) _ (ih (op+1) (by omega)) 4 0 rfl
theorem rf_word_typed {op t:Nat} (h:typedB op=true):rf_wordB op t=((opRows.getD op noRow).w++(⟨#[46]⟩:ByteArray)++letterB t).toList:=by
  unfold rf_wordB
  rw [if_pos h,toList_eq,toList_eq,toList_eq]
  simp
theorem rf_word_plain {op t:Nat} (h:¬ typedB op=true):rf_wordB op t=(opRows.getD op noRow).w.toList:=by
  unfold rf_wordB
  rw [if_neg h,List.append_nil]
theorem rf_types_same (s:ByteArray) (op:Nat) (h:typedB op=true):∀ d t,typeFrom s (opRows.getD op noRow).w op d t=rf_refTypes s op d t:=by
  intro d
  induction d with
  | zero=>intro t;rfl
  | succ d ih=>
    intro t
    rw [typeFrom,rf_refTypes,ih,rf_word_typed h]
    by_cases h1:((opRows.getD op noRow).w++(⟨#[46]⟩:ByteArray)++letterB t).toList=s.toList<;>by_cases h2:mayB op t=true<;>simp [h1,h2]
theorem rf_few:∀ op:Nat,op<30→0<op→(opRows.getD op noRow).w.toList.isEmpty=false∧(typedB op=false→mayB op 0=true∧mayB op 1=false∧mayB op 2=false∧mayB op 3=false):=by decide+kernel
theorem rf_one_same (s:ByteArray) (op:Nat) (h0:0<op) (h:op<30):findOne s (opRows.getD op noRow).w op=rf_refTypes s op 4 0:=by
  obtain ⟨f1,f2⟩:=rf_few op h h0
  unfold findOne
  rw [f1,if_neg (by simp)]
  by_cases ht:typedB op=true
  · rw [if_pos ht,rf_types_same s op ht]
  · rw [if_neg ht]
    obtain ⟨m0,m1,m2,m3⟩:=f2 (by simpa using ht)
    simp only [rf_refTypes,m0,m1,m2,m3,rf_word_plain ht]
    by_cases hs:(opRows.getD op noRow).w.toList=s.toList<;>simp [hs]
theorem rf_from_same (s:ByteArray):∀ d op,0<op→op+d=30→findFrom s d op=rf_refFrom s d op:=by
  intro d
  induction d with
  | zero=>intro op _ _;rfl
  | succ d ih=>
    intro op h0 h
    rw [findFrom,rf_refFrom,rf_one_same s op h0 (by omega),ih (op+1) (by omega) (by omega)]
    cases rf_refTypes s op 4 0<;>rfl
theorem rf_find_same (s:ByteArray):findFrom s 30 0=rf_refFrom s 29 1:=by
  rw [findFrom]
  have:findOne s (opRows.getD 0 noRow).w 0=none:=by unfold findOne;rw [if_pos (by decide+kernel)]
  rw [this]
  exact rf_from_same s 29 1 (by omega) rfl
theorem rf_words_full:∀ op:Nat,op<30→0<op→∀ t:Nat,t<4→rf_wordB op t≠[]:=by decide+kernel
theorem rf_types_empty (s:ByteArray) (hs:s.toList=[]) (op:Nat) (h0:0<op) (h:op<30):∀ d t,t+d=4→rf_refTypes s op d t=none:=by
  intro d
  induction d with
  | zero=>intro t _;rfl
  | succ d ih=>
    intro t ht
    rw [rf_refTypes,if_neg (fun e=>rf_words_full op h h0 t (by omega) (by rw [e.2,hs])),ih (t+1) (by omega)]
theorem rf_from_empty (s:ByteArray) (hs:s.toList=[]):∀ d op,0<op→op+d=30→rf_refFrom s d op=(0,0):=by
  intro d
  induction d with
  | zero=>intro op _ _;rfl
  | succ d ih=>
    intro op h0 h
    rw [rf_refFrom,rf_types_empty s hs op h0 (by omega) 4 0 rfl]
    exact ih (op+1) (by omega) (by omega)
theorem rf_ref_find (s:ByteArray):Ev (fun k=>r05_Find.f k s) (findFrom s 30 0):=by
  unfold r05_Find.f
  rw [rf_find_same]
  refine ev_if (fun h=>?_) (fun h=>rf_ref_l0 s 29 1 rfl)
  rw [rf_from_empty s h 29 1 (by omega) rfl]
  exact Ev.now _
end Go.Proofs.Ytkjdblbgmomieaa.PSh
end
