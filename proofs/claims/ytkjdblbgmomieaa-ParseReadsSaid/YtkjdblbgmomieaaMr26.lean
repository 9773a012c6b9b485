import Derived.Test.YtkjdblbgmomieaaMr25
import Derived.Test.YtkjdblbgmomieaaMr12
import Derived.Test.YtkjdblbgmomieaaMr7
import Derived.Test.YtkjdblbgmomieaaMr17
-- from YtkjdblbgmomieaaRSimK
section
namespace Go.Proofs.Ytkjdblbgmomieaa.PSh
open Go.RowKit Go.Proofs.YtkjdblbgmomieaaW.PrintWords Go.Proofs.YtkjdblbgmomieaaW.PrintLast Go.Proofs.YtkjdblbgmomieaaW.PrintMore Go.Proofs.Ytkjdblbgmomieaa.Str Go.Proofs.Ytkjdblbgmomieaa.Dig Go.Proofs.Ytkjdblbgmomieaa.DigLaw
set_option linter.unusedVariables false
set_option linter.unusedSimpArgs false
section
variable {tl : List Tk} {en n : Int}
theorem kind_c (s:ByteArray):r06_kind.f s=some (typeC s true):=by
  unfold r06_kind.f typeC
  by_cases h1:s.toList=([110]:List UInt8)
  · rw [if_pos h1,h1];rfl
  · rw [if_neg h1]
    by_cases h2:s.toList=([105]:List UInt8)
    · rw [if_pos h2,if_pos h2]
    · rw [if_neg h2,if_neg h2]
      by_cases h3:s.toList=([112]:List UInt8)
      · rw [if_pos h3,if_pos h3]
      · rw [if_neg h3,if_neg h3,if_neg h1]
theorem type_two (s:ByteArray):(typeC s false<0→typeC s true<1)∧(¬ typeC s false<0→¬ typeC s true<1∧typeC s false=typeC s true):=by
  unfold typeC
  by_cases h2:s.toList=([105]:List UInt8)
  · rw [if_pos h2,if_pos h2];exact ⟨by omega,fun _=>⟨by omega,rfl⟩⟩
  · rw [if_neg h2,if_neg h2]
    by_cases h3:s.toList=([112]:List UInt8)
    · rw [if_pos h3,if_pos h3];exact ⟨by omega,fun _=>⟨by omega,rfl⟩⟩
    · rw [if_neg h3,if_neg h3]
      by_cases h1:s.toList=([110]:List UInt8)
      · rw [if_pos h1,if_pos h1];exact ⟨fun _=>by decide,fun h=>absurd (by decide) h⟩
      · rw [if_neg h1,if_neg h1];exact ⟨fun _=>by decide,fun h=>absurd (by decide) h⟩
theorem type_none (b:Bool):typeC (pk0 []) b<0:=by
  unfold typeC
  rw [show (pk0 []).toList=([]:List UInt8) from ByteArray.toList_empty]
  cases b<;>decide
theorem fp_dead (e:List UInt8) {q:Int × Int} {s:ST5} (h:Rp tl en n (.error q) s):rfpTest tl e s.1 s.2.1 s.2.2.1 s.2.2.2.1 s.2.2.2.2=some (false,s):=by
  unfold rfpTest
  rw [if_neg h.dead]
theorem fp_live (e:List UInt8) {ts:List Tk} {s1:Int} (h:Rp tl en n (.ok ts) (s1,en,n,0,0)):rfpTest tl e s1 en n 0 0=some ((pk0 ts).toList !=e,s1,en,n,0,0):=by
  unfold rfpTest
  rw [if_pos rfl,peek_live0 h,Option.bind_some]
theorem params_dead (ps:List Int) {q:Int × Int} {s:ST5} (h:Rp tl en n (.error q) s):Ev (fun k=>rfpLoop k tl ps s.1 s.2.1 s.2.2.1 s.2.2.2.1 s.2.2.2.2) (ps,s):=by
  refine Ev.step (f:=fun _=>some (ps,s)) (fun k=>?_) (Ev.now _)
  simp only [rfpLoop]
  rw [fp_dead _ h,Option.bind_some]
  rfl
theorem params_live (hl:tl.length≤500000):∀ (m:Nat) (ps:List Int) (ts:List Tk) (s1:Int),ts.length<m→ps.length≤100→Rp tl en n (.ok ts) (s1,en,n,0,0)→∃ o,Ev (fun k=>rfpLoop k tl ps s1 en n 0 0) o∧Rv tl en n (paramsP en m ps ts) o
  | 0,_,_,_,h,_,_=>absurd h (by omega)
  | m+1,ps,ts,s1,hm,hp,h=>by
    have hlen:ps.length<1000000000000:=by omega
    simp only [paramsP]
    by_cases c0:(pk0 ts).toList=([41]:List UInt8)
    · rw [if_pos c0]
      refine ⟨(ps,s1,en,n,0,0),Ev.step (f:=fun _=>some (ps,s1,en,n,(0:Int),(0:Int))) (fun k=>?_) (Ev.now _),rfl,h⟩
      simp only [rfpLoop]
      rw [fp_live _ h,Option.bind_some,c0]
      rfl
    rw [if_neg c0]
    have head:∀ k,rfpLoop (k+1) tl ps s1 en n 0 0=(if typeC (pk0 ts) true<1 then r06_Reader_fail.f tl s1 en n 0 0 9 else some (s1,en,n,0,0)).bind fun q=>(if ps.length≥8 then r06_Reader_fail.f tl q.1 q.2.1 q.2.2.1 q.2.2.2.1 q.2.2.2.2 6 else some (q.1,q.2.1,q.2.2.1,q.2.2.2.1,q.2.2.2.2)).bind fun r=>
          if ps.length<1000000000000 then rfpLoop k tl (ps++[typeC (pk0 ts) true]) (wrap64 (r.1+1)) r.2.1 r.2.2.1 r.2.2.2.1 r.2.2.2.2 else none:=by
      intro k
      simp only [rfpLoop]
      rw [fp_live _ h,Option.bind_some]
      simp only
      rw [if_pos (bne_iff_ne.mpr c0),peek_live0 h,Option.bind_some,kind_c,Option.bind_some]
    have dead:∀ (q:Int × Int) (z:ST5),Rp tl en n (.error q) z→Ev (fun k=>rfpLoop k tl (ps++[typeC (pk0 ts) true]) (wrap64 (z.1+1)) z.2.1 z.2.2.1 z.2.2.2.1 z.2.2.2.2) (ps++[typeC (pk0 ts) true],wrap64 (z.1+1),z.2):=fun q z hz=>params_dead (tl:=tl) (n:=n) _ (s:=(wrap64 (z.1+1),z.2)) (show Rp tl en n (.error q) (wrap64 (z.1+1),z.2) from hz)
    by_cases c1:typeC (pk0 ts) false<0
    · rw [if_pos c1]
      obtain ⟨z,hz,rz⟩:=fail_live h (show (9:Int)≠0 by decide)
      have rz:Rp tl en n (.error (9,hereP en ts)) z:=rz
      refine ⟨_,Ev.step (fun k=>?_) (dead _ _ rz),rz⟩
      rw [head k,if_pos ((type_two _).1 c1),hz,Option.bind_some]
      by_cases c2:ps.length≥8
      · rw [if_pos c2,fail_dead rz.dead,Option.bind_some]
        simp only [if_pos hlen]
      · rw [if_neg c2,Option.bind_some]
        simp only [if_pos hlen]
    rw [if_neg c1]
    obtain ⟨k1,k2⟩:=(type_two (pk0 ts)).2 c1
    by_cases c2:ps.length≥8
    · rw [if_pos c2]
      obtain ⟨z,hz,rz⟩:=fail_live h (show (6:Int)≠0 by decide)
      have rz:Rp tl en n (.error (6,hereP en ts)) z:=rz
      refine ⟨_,Ev.step (fun k=>?_) (dead _ _ rz),rz⟩
      rw [head k,if_neg k1,Option.bind_some,if_pos c2,hz,Option.bind_some]
      simp only [if_pos hlen]
    · rw [if_neg c2]
      have hst:Rp tl en n (.ok ts.tail) (wrap64 (s1+1),en,n,0,0)∧ts.tail.length<m:=by
        cases ts with
        | nil=>exact absurd (type_none false) c1
        | cons t us=>exact ⟨step_live (by omega) h,by simp at hm ⊢;omega⟩
      obtain ⟨o,ho,hr⟩:=params_live hl m (ps++[typeC (pk0 ts) false]) ts.tail _ hst.2 (by simp;omega) hst.1
      refine ⟨o,Ev.step (fun k=>?_) ho,hr⟩
      rw [head k,if_neg k1,Option.bind_some,if_neg c2,Option.bind_some,k2]
      simp only [if_pos hlen]
theorem params_rv (hl:tl.length≤500000) {x:PE (List Tk)} {s:ST5} (h:Rp tl en n x s):∃ o,Ev (fun k=>rfpLoop k tl [] s.1 s.2.1 s.2.2.1 s.2.2.2.1 s.2.2.2.2) o∧Rv tl en n (x.bind fun ts=>paramsP en (ts.length+1) [] ts) o:=by
  cases x with
  | error q=>exact ⟨_,params_dead (tl:=tl) (n:=n) [] h,h⟩
  | ok ts=>
    have e:=h.live
    rw [e] at h ⊢
    exact params_live hl (ts.length+1) [] ts s.1 (by omega) (by simp) h
def retP (en:Int) (ts:List Tk):PE (Int × List Tk):=if typeC (pk0 ts) true<0 then failP en ts 9 else (wantP en [123] ts.tail).bind fun us=>.ok (typeC (pk0 ts) true,us)
theorem ret_rv (hl:tl.length≤500000) {x:PE (List Tk)} {s:ST5} (h:Rp tl en n x s):∃ o:Int × ST5,Ev (fun _=>(r06_Reader_peek.f tl s.1 s.2.1 s.2.2.1 s.2.2.2.1 s.2.2.2.2 0).bind fun p=>(r06_kind.f p.1).bind fun t=>
      (if t<0 then r06_Reader_fail.f tl p.2.1 p.2.2.1 p.2.2.2.1 p.2.2.2.2.1 p.2.2.2.2.2 9 else some (p.2.1,p.2.2.1,p.2.2.2.1,p.2.2.2.2.1,p.2.2.2.2.2)).bind fun q=>(r06_Reader_want.f tl (wrap64 (q.1+1)) q.2.1 q.2.2.1 q.2.2.2.1 q.2.2.2.2 (⟨#[123]⟩:ByteArray)).bind fun o=>some (t,o)) o∧Rv tl en n (x.bind (retP en)) o:=by
  cases x with
  | error q=>
    have h2:Rp tl en n (.error q) (wrap64 (s.1+1),s.2):=h
    obtain ⟨s',hs,rs⟩:=want_rl (a:=(⟨#[123]⟩:ByteArray)) [123] (by rw [toList_eq]) (by decide) hl h2
    refine ⟨(typeC (⟨#[]⟩:ByteArray) true,s'),ev_some (peek_dead h.dead) (ev_some (kind_c _) (ev_some ((if_pos (type_none true)).trans (fail_dead h.dead)) (ev_some hs (Ev.now _)))),rs⟩
  | ok ts=>
    have e:=h.live
    rw [e] at h ⊢
    generalize s.1=s1 at h ⊢
    show ∃ o:Int × ST5,_∧Rv tl en n (retP en ts) o
    unfold retP
    by_cases c:typeC (pk0 ts) true<0
    · rw [if_pos c]
      obtain ⟨z,hz,rz⟩:=fail_live h (show (9:Int)≠0 by decide)
      have rz:Rp tl en n (.error (9,hereP en ts)) z:=rz
      have h2:Rp tl en n (.error (9,hereP en ts)) (wrap64 (z.1+1),z.2):=rz
      obtain ⟨s',hs,rs⟩:=want_rl (a:=(⟨#[123]⟩:ByteArray)) [123] (by rw [toList_eq]) (by decide) hl h2
      exact ⟨_,ev_some (peek_live0 h) (ev_some (kind_c _) (ev_some ((if_pos c).trans hz) (ev_some hs (Ev.now _)))),rs⟩
    · rw [if_neg c]
      have hst:Rp tl en n (.ok ts.tail) (wrap64 (s1+1),en,n,0,0):=by
        cases ts with
        | nil=>exact absurd (type_none true) c
        | cons t us=>exact step_live (by omega) h
      obtain ⟨s',hs,rs⟩:=want_rl (a:=(⟨#[123]⟩:ByteArray)) [123] (by rw [toList_eq]) (by decide) hl hst
      refine ⟨_,ev_some (peek_live0 h) (ev_some (kind_c _) (ev_some (if_neg c) (ev_some hs (Ev.now _)))),?_⟩
      have rs:Rp tl en n (wantP en [123] ts.tail) s':=rs
      revert rs
      cases wantP en [123] ts.tail with
      | error q=>exact fun r=>r
      | ok us=>exact fun r=>⟨rfl,r⟩
theorem blocks_dead (bl:List (List SI)) {q:Int × Int} {s:ST5} (h:Rp tl en n (.error q) s):Ev (fun k=>rfbLoop k tl bl s.1 s.2.1 s.2.2.1 s.2.2.2.1 s.2.2.2.2) (bl,s):=by
  refine Ev.step (f:=fun _=>some (bl,s)) (fun k=>?_) (Ev.now _)
  simp only [rfbLoop]
  rw [fp_dead _ h,Option.bind_some]
  rfl
theorem blocks_live (hl:tl.length≤500000) (ht:∀ t∈tl,t.f0.size≤65536):∀ (m:Nat) (bl:List (List SI)) (n:Int) (ts:List Tk) (s1:Int),ts.length<m→bl.length≤256→0≤n→n≤4096→Rp tl en n (.ok ts) (s1,en,n,0,0)→∃ o,Ev (fun k=>rfbLoop k tl bl s1 en n 0 0) o∧RvB tl en (blocksP en m bl n ts) o
  | 0,_,_,_,_,h,_,_,_,_=>absurd h (by omega)
  | m+1,bl,n,ts,s1,hm,hbl,hn0,hn1,h=>by
    have hlen:bl.length<1000000000000:=by omega
    simp only [blocksP]
    by_cases c0:(pk0 ts).toList=([125]:List UInt8)
    · rw [if_pos c0]
      refine ⟨(bl,s1,en,n,0,0),Ev.step (f:=fun _=>some (bl,s1,en,n,(0:Int),(0:Int))) (fun k=>?_) (Ev.now _),rfl,h⟩
      simp only [rfbLoop]
      rw [fp_live _ h,Option.bind_some,c0]
      rfl
    rw [if_neg c0]
    obtain ⟨b,hb,rb⟩:=block_rv hl ht hn0 hn1 (bl.length:Int) (by omega) (by omega) h
    obtain ⟨o,ho,hr⟩:∃ o,Ev (fun k=>rfbLoop k tl (bl++[b.1]) b.2.1 b.2.2.1 b.2.2.2.1 b.2.2.2.2.1 b.2.2.2.2.2) o∧RvB tl en ((blockP en (bl.length:Int) n ts).bind fun b=>blocksP en m (bl++[b.1]) b.2.1 b.2.2) o:=by
      revert rb
      generalize hq:blockP en (bl.length:Int) n ts=y
      cases y with
      | error q=>exact fun rb=>⟨_,blocks_dead (tl:=tl) (n:=n) _ (show Rp tl en 0 (.error q) b.2 from rb),rb⟩
      | ok a=>
        rintro ⟨e1,rb⟩
        obtain ⟨l1,l2,l3⟩:=blockP_len hq hn0 hn1
        have l4:=(block_num (L:=ts.length+2) hq (by omega)).2.2
        have e:=rb.live
        rw [e] at rb
        obtain ⟨o,ho,hr⟩:=blocks_live hl ht m (bl++[a.1]) a.2.1 a.2.2 b.2.1 (by omega) (by simp;omega) l2 l3 rb
        refine ⟨o,?_,hr⟩
        rw [e1,e]
        exact ho
    refine ⟨o,Ev.step (fun k=>?_) (Ev.bind hb ho (f:=fun k b=>rfbLoop k tl (bl++[b.1]) b.2.1 b.2.2.1 b.2.2.2.1 b.2.2.2.2.1 b.2.2.2.2.2)),hr⟩
    simp only [rfbLoop]
    rw [fp_live _ h,Option.bind_some]
    simp only
    rw [if_pos (bne_iff_ne.mpr c0)]
    simp only [if_pos hlen]
theorem blocks_rv (hl:tl.length≤500000) (ht:∀ t∈tl,t.f0.size≤65536) (h0:0≤n) (h1:n≤4096) {x:PE (List Tk)} {s:ST5} (h:Rp tl en n x s):∃ o,Ev (fun k=>rfbLoop k tl [] s.1 s.2.1 s.2.2.1 s.2.2.2.1 s.2.2.2.2) o∧RvB tl en (x.bind fun ts=>blocksP en (ts.length+1) [] n ts) o:=by
  cases x with
  | error q=>exact ⟨_,blocks_dead (tl:=tl) (n:=n) [] h,h⟩
  | ok ts=>
    have e:=h.live
    rw [e] at h ⊢
    exact blocks_live hl ht (ts.length+1) [] n ts s.1 (by omega) (by simp) h0 h1 h
theorem headP_ret (en:Int) (ts:List Tk):headP en ts=(wantP en [102,117,110,99] ts).bind fun t1=>(nameP en t1).bind fun m=>(wantP en [40] m.2).bind fun t2=>(paramsP en (t2.length+1) [] t2).bind fun p=>(wantP en [41] p.2).bind fun t3=>(retP en t3).bind fun r=>.ok (m.1,p.1,r.1,r.2):=by
  unfold headP
  refine bind_ok_eta fun t1=>bind_ok_eta fun m=>bind_ok_eta fun t2=>bind_ok_eta fun p=>bind_ok_eta fun t3=>?_
  unfold retP
  by_cases c:typeC (pk0 t3) true<0
  · rw [if_pos c,if_pos c];rfl
  · rw [if_neg c,if_neg c]
    cases wantP en [123] t3.tail<;>rfl
abbrev FT:Type:=ByteArray × List Int × Int × List (List SI) × Int × ST5
def RvF (tl:List Tk) (en:Int) (x:PE (SF × Int × List Tk)) (o:FT):Prop:=match x with
  | .ok a=>a.1=⟨o.1,o.2.1,o.2.2.1,o.2.2.2.1,o.2.2.2.2.1⟩∧Rp tl en a.2.1 (.ok a.2.2) o.2.2.2.2.2
  | .error q=>Rp tl en 0 (.error q) o.2.2.2.2.2
theorem RvB.st {β:Type} {x:PE (β × Int × List Tk)} {o:β × ST5} (h:RvB tl en x o):∃ n',Rp tl en n' (x.bind fun a=>.ok a.2.2) o.2∧∀ a,x=.ok a→n'=a.2.1:=by
  cases x with
  | error q=>exact ⟨0,h,fun a e=>by cases e⟩
  | ok a=>exact ⟨a.2.1,h.2,fun b e=>by cases e;rfl⟩
theorem func_rv (hl:tl.length≤500000) (ht:∀ t∈tl,t.f0.size≤65536) (h0:0≤n) (h1:n≤4096) {ts:List Tk} {s1:Int} (hne:ts≠[]) (h:Rp tl en n (.ok ts) (s1,en,n,0,0)):∃ o,Ev (fun k=>r06_Reader_function.f k tl s1 en n 0 0) o∧RvF tl en (funcP en n ts) o:=by
  have hat:(if 0≤s1 then if s1<(tl.length:Int) then some (rd_T101 tl s1).f1 else none else none)=some (hereP en ts):=by
    obtain ⟨g0,g1,g2,g3,g4,g5,g6⟩:=h
    simp only at g0 g3
    cases ts with
    | nil=>exact absurd rfl hne
    | cons t us=>
      obtain ⟨k1,k2,k3⟩:=(drop_facts g0 g3).2 t us rfl
      rw [if_pos g0,if_pos k1,k2]
      rfl
  obtain ⟨a,ha,ra⟩:=want_rl (a:=(⟨#[102,117,110,99]⟩:ByteArray)) [102,117,110,99] (by rw [toList_eq]) (by decide) hl h
  obtain ⟨m,hm,rm⟩:=name_rv (by omega) ht ra
  obtain ⟨b,hb,rb⟩:=want_rl (a:=(⟨#[40]⟩:ByteArray)) [40] (by rw [toList_eq]) (by decide) hl rm.st
  obtain ⟨c,hc,rc⟩:=params_rv hl rb
  obtain ⟨d,hd,rd⟩:=want_rl (a:=(⟨#[41]⟩:ByteArray)) [41] (by rw [toList_eq]) (by decide) hl rc.st
  obtain ⟨e,he,re⟩:=ret_rv hl rd
  obtain ⟨l,hL,rl⟩:=blocks_rv hl ht h0 h1 re.st
  obtain ⟨n',ry,hn'⟩:=rl.st
  obtain ⟨u,hu,ru⟩:=want_rl (a:=(⟨#[125]⟩:ByteArray)) [125] (by rw [toList_eq]) (by decide) hl ry
  refine ⟨(m.1,c.1,e.1,l.1,hereP en ts,u),?_,?_⟩
  · unfold r06_Reader_function.f
    refine ev_some hat (ev_some ha (Ev.bind hm (ev_some hb (Ev.bind hc (ev_some hd ?_)))))
    obtain ⟨K,hK⟩:=he
    have hK:=hK K (Nat.le_refl _)
    obtain ⟨p,hp,hK⟩:=Option.bind_eq_some_iff.mp hK
    obtain ⟨t,htk,hK⟩:=Option.bind_eq_some_iff.mp hK
    obtain ⟨q,hq,hK⟩:=Option.bind_eq_some_iff.mp hK
    obtain ⟨o,ho,hK⟩:=Option.bind_eq_some_iff.mp hK
    have hK:=Option.some.inj hK
    rw [← hK] at hL ⊢
    exact ev_some hp (ev_some htk (ev_some hq (ev_some ho (Ev.bind hL (ev_some hu (Ev.now _))))))
  · clear ha hm hb hc hd he hL hu ry h hat
    unfold funcP
    rw [headP_ret]
    rcases h1:wantP en [102,117,110,99] ts with q | t1
    · simp only [h1,bind_ok,bind_err] at rm rb rc rd re rl ru ⊢
      exact ru
    simp only [h1,bind_ok,bind_err] at rm rb rc rd re rl ru hn' ⊢
    rcases h2:nameP en t1 with q | t2
    · simp only [h2,bind_ok,bind_err] at rb rc rd re rl ru ⊢
      exact ru
    simp only [h2,bind_ok,bind_err] at rm rb rc rd re rl ru hn' ⊢
    rcases h3:wantP en [40] t2.2 with q | t3
    · simp only [h3,bind_ok,bind_err] at rc rd re rl ru ⊢
      exact ru
    simp only [h3,bind_ok,bind_err] at rc rd re rl ru hn' ⊢
    rcases h4:paramsP en (t3.length+1) [] t3 with q | t4
    · simp only [h4,bind_ok,bind_err] at rd re rl ru ⊢
      exact ru
    simp only [h4,bind_ok,bind_err] at rc rd re rl ru hn' ⊢
    rcases h5:wantP en [41] t4.2 with q | t5
    · simp only [h5,bind_ok,bind_err] at re rl ru ⊢
      exact ru
    simp only [h5,bind_ok,bind_err] at re rl ru hn' ⊢
    rcases h6:retP en t5 with q | t6
    · simp only [h6,bind_ok,bind_err] at rl ru ⊢
      exact ru
    simp only [h6,bind_ok,bind_err] at re rl ru hn' ⊢
    rcases h7:blocksP en (t6.2.length+1) [] n t6.2 with q | t7
    · simp only [h7,bind_ok,bind_err] at ru ⊢
      exact ru
    have hn':=hn' t7 h7
    subst hn'
    simp only [h7,bind_ok,bind_err] at rl ru ⊢
    rcases h8:wantP en [125] t7.2.2 with q | t8
    · simp only [h8,bind_ok,bind_err] at ru ⊢
      exact ru
    simp only [h8,bind_ok,bind_err] at ru ⊢
    refine ⟨?_,ru⟩
    show (⟨_,_,_,_,_⟩:SF)=_
    rw [rm.1,rc.1,re.1,rl.1]
end
end Go.Proofs.Ytkjdblbgmomieaa.PSh
end
-- from YtkjdblbgmomieaaHRText
section
namespace Go.Proofs.Ytkjdblbgmomieaa.PSh
set_option maxHeartbeats 8000000
set_option maxRecDepth 100000
open Go.RowKit Go.Proofs.YtkjdblbgmomieaaW.PrintWords Go.Proofs.YtkjdblbgmomieaaW.PrintLast Go.Proofs.YtkjdblbgmomieaaW.PrintMore Go.Proofs.Ytkjdblbgmomieaa.Str
set_option linter.unusedVariables false
set_option linter.unusedSimpArgs false
def rtLoop:Nat→List (S101)→List (S34)→Int→Int→Int→Int→Int→Option (List (S34) × ST5)
  | 0,_,_,_,_,_,_,_=>none
  | k+1,tl,acc,s1,s2,s3,s4,s5=>if s4=0∧s1<(tl.length:Int) then (if acc.length≥32 then (r06_Reader_fail.f tl s1 s2 s3 s4 s5 6).bind fun z=>some (acc,z.1,z.2.1,z.2.2.1,z.2.2.2.1,z.2.2.2.2) else (r06_Reader_function.f k tl s1 s2 s3 s4 s5).bind fun b=>rtLoop k tl (acc++[⟨b.1,b.2.1,b.2.2.1,b.2.2.2.1,b.2.2.2.2.1⟩]) b.2.2.2.2.2.1 b.2.2.2.2.2.2.1 b.2.2.2.2.2.2.2.1 b.2.2.2.2.2.2.2.2.1 b.2.2.2.2.2.2.2.2.2)
    else some (acc,s1,s2,s3,s4,s5)
def r06_Text.f (k:Nat) (a:ByteArray):Option (List (S34) × Int × Int):=
  (r02_Split.f k a).bind fun t=>if t.2.1=0 then (rtLoop k t.1 [] 0 (a.size:Int) 0 0 0).bind fun o=>if o.2.2.2.2.1=0 then some (o.1,0,0) else some ([],o.2.2.2.2.1,o.2.2.2.2.2) else some ([],t.2.1,t.2.2)
structure RtAt (g b2 b3 b7:Nat) (tl:List (S101)) (acc:List (S34)) (v:Value) (s1 s2 s3 s4 s5:Int) (w w0 w':World):Prop where
  i:IsS89 w0 w' g tl s1 s2 s3 s4 s5
  b:Below w0.heap.size w0 w'
  wb:Below w.heap.size w w0
  l2:b2<w0.heap.size
  l3:b3<w0.heap.size
  g2:w.heap.size≤b2
  g3:w.heap.size≤b3
  z2:w0.heap[b2]?=some (.cells #[.slice none 0 0] 24 (0,0))
  z3:w0.heap[b3]?=some (.cells #[.int .i64 0,.int .i64 0] 28 (0,0))
  g7:w0.heap.size≤b7
  ne:g≠b7
  box:w'.heap[b7]?=some (.cells #[v] 24 (0,0))
  row:Kd.R k34 34 w' w0.heap.size (fun _=>True) v acc
section
variable {g b2 b3 b7 : Nat} {tl : List (S101)} {acc : List (S34)} {v : Value} {s1 s2 s3 s4 s5 r1 r2 r3 r4 r5 : Int} {w w0 w1 w2 : World}
theorem RtAt.zero2 (h:RtAt g b2 b3 b7 tl acc v s1 s2 s3 s4 s5 w w0 w1):w1.heap[b2]?=some (.cells #[.slice none 0 0] 24 (0,0)):=(h.b.block b2 h.l2).trans h.z2
theorem RtAt.zero3 (h:RtAt g b2 b3 b7 tl acc v s1 s2 s3 s4 s5 w w0 w1):w1.heap[b3]?=some (.cells #[.int .i64 0,.int .i64 0] 28 (0,0)):=(h.b.block b3 h.l3).trans h.z3
theorem RtAt.bel (h:RtAt g b2 b3 b7 tl acc v s1 s2 s3 s4 s5 w w0 w1):Below w.heap.size w w1:=below_step h.wb h.b
theorem RtAt.call (h:RtAt g b2 b3 b7 tl acc v s1 s2 s3 s4 s5 w w0 w1) (hi:IsS89 w0 w2 g tl r1 r2 r3 r4 r5) (hb:Below w0.heap.size w0 w2) (hk:KeepBut w1 w2 g none):RtAt g b2 b3 b7 tl acc v r1 r2 r3 r4 r5 w w0 w2:=by
  obtain ⟨A0,c0,hG,-,-⟩:=h.i
  exact ⟨hi,hb,h.wb,h.l2,h.l3,h.g2,h.g3,h.z2,h.z3,h.g7,h.ne,hk.blk h.box (Ne.symm h.ne) (by simp),row39_keep h.row hG (by decide) hk⟩
theorem RtAt.below (h:RtAt g b2 b3 b7 tl acc v s1 s2 s3 s4 s5 w w0 w1) (hb:Below w1.heap.size w1 w2):RtAt g b2 b3 b7 tl acc v s1 s2 s3 s4 s5 w w0 w2:=
  ⟨h.i.below hb,below_step h.b hb,h.wb,h.l2,h.l3,h.g2,h.g3,h.z2,h.z3,h.g7,h.ne,blk_below h.box hb,Kd.R_below h.row hb⟩
theorem RtAt.app (h:RtAt g b2 b3 b7 tl acc v s1 s2 s3 s4 s5 w w0 w1) {acc':List (S34)} {v1:Value} (hr:Kd.R k34 34 w2 w0.heap.size (fun _=>True) v1 acc') (hg:w1.grownBy w2 v.ownBlock):RtAt g b2 b3 b7 tl acc' v1 s1 s2 s3 s4 s5 w w0 (w2.setCell ⟨b7,0,none⟩ v1):=by
  obtain ⟨A0,c0,hG,-,-⟩:=h.i
  have ng:some g≠v.ownBlock:=Kd.R_ne h.row hG (by decide)
  have hx:=(hg.block b7 (blk_lt h.box) (Kd.R_ne h.row h.box (by decide))).trans h.box
  exact ⟨(h.i.grown hg ng).far h.ne _,below_set (pw_below_grown h.b v.ownBlock h.b.size hg (fun k e=>Kd.R_base h.row k e)) h.g7,h.wb,h.l2,h.l3,h.g2,h.g3,h.z2,h.z3,h.g7,h.ne,blk_put hx 0 _ rfl,Kd.R_set hr hx (by decide) 0 _⟩
theorem RtAt.cells (h:RtAt g b2 b3 b7 tl acc v s1 s2 s3 s4 s5 w w0 w1):w1.cell? ⟨g,1,none⟩=some (.int .i64 s1)∧w1.cell? ⟨g,4,none⟩=some (.int .i64 s4)∧w1.cell? ⟨g,5,none⟩=some (.int .i64 s5)∧w1.cell? ⟨b7,0,none⟩=some v:=by
  obtain ⟨A0,c0,hG,-,-⟩:=h.i
  exact ⟨blk_cell hG 1,blk_cell hG 4,blk_cell hG 5,blk_cell h.box 0⟩
end
theorem r06_Text.calls (k:Nat) (a:ByteArray) (r1:List (S34)) (r2 r3:Int) (w:World) (h:r06_Text.f k a=some (r1,r2,r3)):
    Calls Try.prog 22 #[.string a] w fun e w'=>∃ v0_:Value,e=.returned (.tuple #[.agg #[v0_],.agg #[.int .i64 r2,.int .i64 r3]])∧Kd.R k34 34 w' w.heap.size (fun _=>True) v0_ r1∧Below w.heap.size w w':=by
  have hu24:=Try.underlying24
  have hu28:=Try.underlying28
  have hu34:=Try.underlying34
  have hu89:=Try.underlying89
  unfold r06_Text.f at h
  obtain ⟨⟨tl,t2,t3⟩,hs,h⟩:=Option.bind_eq_some_iff.mp h
  have HS:=aM hs
  have HH:=aM h
  clear hs h
  go_enter Try.func22,Try.ntmps22
  have hz2:=blk_alloc (blk_new w (.cells #[.slice none 0 0] 24)) (.cells #[.int .i64 0,.int .i64 0] 28)
  have hz3:=blk_new (w.alloc (.cells #[.slice none 0 0] 24)) (.cells #[.int .i64 0,.int .i64 0] 28)
  have hsz:(w.alloc (.cells #[.slice none 0 0] 24)).heap.size=w.heap.size+1:=by simp
  rw [hsz] at hz3
  have hb0:=below_alloc (below_alloc (Below.refl w.heap.size w) (.cells #[.slice none 0 0] 24)) (.cells #[.int .i64 0,.int .i64 0] 28)
  clear hsz
  go_upto_region 1 with (fail)
  generalize (w.alloc (.cells #[.slice none 0 0] 24)).alloc (.cells #[.int .i64 0,.int .i64 0] 28)=W0 at hz2 hz3 hb0 ⊢
  have HZ2:=aM hz2
  have HZ3:=aM hz3
  have HB:=aM hb0
  clear hz2 hz3 hb0
  go_wp2_with fail
  refine (r02_Split.calls k a tl t2 t3 _ HS.out).mono ?_
  rintro e w1 ⟨v0,rfl,hr1,hb1⟩
  obtain ⟨A0,c0,e0,hl0,hC0⟩:=Kd.R_reads hr1
  subst e0
  have hbx:=below_alloc (Below.refl w1.heap.size w1) (.cells #[.int .i64 t2,.int .i64 t3] 28)
  have HBE:=aM (blk_new w1 (.cells #[.int .i64 t2,.int .i64 t3] 28))
  have HY2:=aM (blk_below (blk_below HZ2.out hb1) hbx)
  have HY3:=aM (blk_below (blk_below HZ3.out hb1) hbx)
  have HB1:=aM (below_step (below_step HB.out hb1) hbx)
  have HC:=aM (Kd.C_below hC0 hbx)
  have HLT:=aM (show w.heap.size+1<w1.heap.size from blk_lt (blk_below HZ3.out hb1))
  clear hr1 hb1 hl0 hC0 hbx
  go_upto_if 16 with (fail)
  (try simp only [Act.put,qA,qB,qC])
  generalize w1.alloc (.cells #[.int .i64 t2,.int .i64 t3] 28)=W1 at HBE HY2 HY3 HB1 HC ⊢
  have h:=HH.out
  have k0_:=blk_cell HBE.out 0
  have k1_:=blk_cell HBE.out 1
  by_cases ct:t2=0
  rotate_left
  · rw [if_neg ct] at h
    have ct1:(t2 !=0)=true:=bne_iff_ne.mpr ct
    (first | rw [ct1] | (simp only [i64_w,i32_w];rw [ct1]) | skip)
    simp only [Option.some.injEq,Prod.mk.injEq] at h
    obtain ⟨rfl,rfl,rfl⟩:=h
    clear ct
    have n1:w1.heap.size≠w.heap.size:=by have:=HLT.out;omega
    have n2:w1.heap.size≠w.heap.size+1:=by have:=HLT.out;omega
    go_upto_region 3 with (fail)
    have z0_:W1.drew.cell? ⟨w.heap.size,0,none⟩=some (.slice none 0 0):=(blk_cell HY2.out 0)
    have f0_:W1.drew.frozen? ⟨w.heap.size,0,none⟩=false:=blk_frozen HY2.out 0
    have y0_:W1.drew.cell? ⟨w.heap.size+1,0,none⟩=some (.int .i64 0):=(blk_cell HY3.out 0)
    have y1_:W1.drew.cell? ⟨w.heap.size+1,1,none⟩=some (.int .i64 0):=(blk_cell HY3.out 1)
    have g0_:W1.drew.frozen? ⟨w.heap.size+1,0,none⟩=false:=blk_frozen HY3.out 0
    have g1_:W1.drew.frozen? ⟨w.heap.size+1,1,none⟩=false:=blk_frozen HY3.out 1
    have y0'_:W1.cell? ⟨w.heap.size+1,0,none⟩=some (.int .i64 0):=(blk_cell HY3.out 0)
    have y1'_:W1.cell? ⟨w.heap.size+1,1,none⟩=some (.int .i64 0):=(blk_cell HY3.out 1)
    have g0'_:W1.frozen? ⟨w.heap.size+1,0,none⟩=false:=blk_frozen HY3.out 0
    have g1'_:W1.frozen? ⟨w.heap.size+1,1,none⟩=false:=blk_frozen HY3.out 1
    refine start_ (n:=4) (S:=fun w'=>w'.cell? ⟨w1.heap.size,0,none⟩=some (.int .i64 t2)∧w'.cell? ⟨w1.heap.size,1,none⟩=some (.int .i64 t3)) (ds:=[3]) #[false,false,false,false] (by kernel_rfl) rfl rfl ⟨k0_,k1_⟩ (fun hHeld=>?_)
    refine pure_ (i:=0) (N:=some 17) (v:=?_) (a':=?_) #[true,false,false,false] rfl rfl (by kernel_rfl) (fun _ _ _ h=>h) (Or.inl ⟨by rfl,?_⟩) ?_ ?_
    rotate_left
    · intro w'
      go_simp
      with_reducible rfl
    rotate_left
    · simp only [Act.put,qA,qB,qC,i64_w,i32_w]
      rfl
    refine take_ (i:=1) (N:=some 18) (v:=?_) (a':=?_) #[true,true,false,false] rfl rfl (by kernel_rfl) (fun _ _ _ h=>h) (Or.inl ⟨by rfl,?_⟩) hHeld ?_ ?_
    rotate_left
    · rintro w' ⟨s0,s1⟩
      go_simp
      with_reducible rfl
    rotate_left
    · simp only [Act.put,qA,qB,qC,i64_w,i32_w]
      rfl
    refine one_ (i:=2) (N:=none) #[true,true,true,false] rfl rfl (by kernel_rfl) (by decide) (fun K hK=>?_)
    refine skip_ (w1:=?_) (by rfl) rfl ?_ ?_
    rotate_left
    · go_simp
      rfl
    refine hK.out _ _ ⟨((blk_cell ((Below.heap_setCell W1.drew ⟨w.heap.size,0,none⟩ (.slice none 0 0) w1.heap.size n1).trans (show W1.drew.heap[w1.heap.size]?=_ from HBE.out)) 0).trans rfl),((blk_cell ((Below.heap_setCell W1.drew ⟨w.heap.size,0,none⟩ (.slice none 0 0) w1.heap.size n1).trans (show W1.drew.heap[w1.heap.size]?=_ from HBE.out)) 1).trans rfl)⟩ (fun hHeld=>?_)
    clear hK K
    refine last_ (i:=3) (N:=none) #[true,true,true,true] rfl rfl (by kernel_rfl) (by decide) (fun K hK=>?_)
    refine skip_ (w1:=?_) (by rfl) rfl ?_ ?_
    rotate_left
    · go_simp
      rfl
    refine hK.out _ _ ?_
    clear hK K
    refine done_ (by kernel_rfl) ?_
    go_wp2
    (try simp only [Exit.inBlock,Exit.then])
    have hq2:(((W1.drew.setCell ⟨w.heap.size,0,none⟩ (.slice none 0 0)).setCell ⟨w.heap.size+1,0,none⟩ (.int .i64 t2)).setCell ⟨w.heap.size+1,1,none⟩ (.int .i64 t3)).heap[w.heap.size]?=some (.cells #[(.slice none 0 0)] 24 (0,0)):=(Below.heap_setCell _ ⟨w.heap.size+1,1,none⟩ _ _ (by show w.heap.size≠w.heap.size+1;omega)).trans ((Below.heap_setCell _ ⟨w.heap.size+1,0,none⟩ _ _ (by show w.heap.size≠w.heap.size+1;omega)).trans (blk_put (show W1.drew.heap[w.heap.size]?=_ from HY2.out) 0 _ rfl))
    have hq3:(((W1.drew.setCell ⟨w.heap.size,0,none⟩ (.slice none 0 0)).setCell ⟨w.heap.size+1,0,none⟩ (.int .i64 t2)).setCell ⟨w.heap.size+1,1,none⟩ (.int .i64 t3)).heap[w.heap.size+1]?=some (.cells #[(.int .i64 t2),(.int .i64 t3)] 28 (0,0)):=blk_put (blk_put ((Below.heap_setCell _ ⟨w.heap.size,0,none⟩ _ _ (by show w.heap.size+1≠w.heap.size;omega)).trans (show W1.drew.heap[w.heap.size+1]?=_ from HY3.out)) 0 _ rfl) 1 _ rfl
    have hqb:Below w.heap.size w (((W1.drew.setCell ⟨w.heap.size,0,none⟩ (.slice none 0 0)).setCell ⟨w.heap.size+1,0,none⟩ (.int .i64 t2)).setCell ⟨w.heap.size+1,1,none⟩ (.int .i64 t3)):=below_set (below_set (below_set (below_drew1 HB1.out) (Nat.le_refl _)) (Nat.le_succ _)) (Nat.le_succ _)
    refine bodyPost_ret (results_cc rfl _ _ w.heap.size (w.heap.size+1) 24 28 #[(.slice none 0 0)] #[(.int .i64 t2),(.int .i64 t3)] (0,0) (0,0) _ _ rfl hq2 Try.underlying24 rfl (by kernel_rfl) rfl hq3 Try.underlying28 rfl (by kernel_rfl)) rfl ?_
    exact ⟨_,rfl,Kd.R_nil _ _ _ _ _,hqb⟩
  rw [if_pos ct] at h
  have ct1:(t2 !=0)=false:=bne_eq_false_iff_eq.mpr ct
  (first | rw [ct1] | (simp only [i64_w,i32_w];rw [ct1]) | skip)
  obtain ⟨⟨l0,l1,l2,l3,l4,l5⟩,hlo,h⟩:=Option.bind_eq_some_iff.mp h
  have HLO0:=aM hlo
  have HR:=aM h
  clear ct hlo h HH k0_ k1_
  have hx0:(((W1.alloc (.cells #[.slice A0 tl.length c0,.int .i64 0,.int .i64 (a.size:Int),.int .i64 0,.int .i64 0,.int .i64 0] 89)).alloc (.cells #[.slice none 0 0] 24))).heap[W1.heap.size+1]?=some (.cells #[.slice none 0 0] 24 (0,0)):=by
    have h1:=blk_new (W1.alloc (.cells #[.slice A0 tl.length c0,.int .i64 0,.int .i64 (a.size:Int),.int .i64 0,.int .i64 0,.int .i64 0] 89)) (.cells #[.slice none 0 0] 24)
    rwa [show (W1.alloc (.cells #[.slice A0 tl.length c0,.int .i64 0,.int .i64 (a.size:Int),.int .i64 0,.int .i64 0,.int .i64 0] 89)).heap.size=W1.heap.size+1 by simp] at h1
  have HX:=aM (show RtAt W1.heap.size w.heap.size (w.heap.size+1) (W1.heap.size+1) tl [] (.slice none 0 0) 0 (a.size:Int) 0 0 0 w W1 ((W1.alloc (.cells #[.slice A0 tl.length c0,.int .i64 0,.int .i64 (a.size:Int),.int .i64 0,.int .i64 0,.int .i64 0] 89)).alloc (.cells #[.slice none 0 0] 24)) from
    ⟨(IsS89.new W1 W1 A0 c0 tl 0 (a.size:Int) 0 0 0 (Below.refl _ _) HC.out).alloc _,below_alloc (below_alloc (Below.refl _ _) _) _,HB1.out,blk_lt HY2.out,blk_lt HY3.out,Nat.le_refl _,Nat.le_succ _,HY2.out,HY3.out,Nat.le_succ _,Nat.ne_of_lt (Nat.lt_succ_self _),hx0,Kd.R_nil _ _ _ _ _⟩)
  clear hx0
  go_upto_block 0 with (fail)
  (try simp only [Act.put,qA,qB,qC])
  generalize (W1.alloc (.cells #[.slice A0 tl.length c0,.int .i64 0,.int .i64 (a.size:Int),.int .i64 0,.int .i64 0,.int .i64 0] 89)).alloc (.cells #[.slice none 0 0] 24)=W3 at HX ⊢
  go_cut [] (fun wc=>∃ v,Aside0 (RtAt W1.heap.size w.heap.size (w.heap.size+1) (W1.heap.size+1) tl l0 v l1 l2 l3 l4 l5 w W1 wc))
  case first=>
    go_wp2
    (try simp only [Act.put,qA,qB,qC])
    go_loopg [] k (fun kq w'=>∃ (acc:List (S34)) (v:Value) (t1 t2 t3 t4 t5:Int),Aside0 (rtLoop kq tl acc t1 t2 t3 t4 t5=some (l0,l1,l2,l3,l4,l5))∧Aside0 (kq≤k)∧Aside0 (RtAt W1.heap.size w.heap.size (w.heap.size+1) (W1.heap.size+1) tl acc v t1 t2 t3 t4 t5 w W1 w'))
    case atStart=>exact ⟨_,_,_,_,_,_,_,⟨HLO0.out⟩,⟨Nat.le_refl _⟩,⟨HX.out⟩⟩
    case round=>
      clear HX HLO0
      obtain ⟨acc,v,t1,t2,t3,t4,t5,HLO,HKQ,HX⟩:=hrel
      obtain ⟨A7,c7,e7⟩:=Kd.R_slice HX.out.row
      subst e7
      obtain ⟨hc1,hc4,-,hc7⟩:=HX.out.cells
      cases gk with
      | zero=>exact absurd HLO.out (by simp [rtLoop])
      | succ k1=>
        have hl:=HLO.out
        clear HLO
        simp only [rtLoop] at hl
        by_cases cl:t4=0∧t1<(tl.length:Int)
        · rw [if_pos cl] at hl
          have g3:(t4==0)=true:=beq_iff_eq.mpr cl.1
          have g1:decide (t1<(tl.length:Int))=true:=decide_eq_true cl.2
          clear cl
          by_cases h32:acc.length≥32
          · rw [if_pos h32] at hl
            have g5:decide (32≤(acc.length:Int))=true:=decide_eq_true (by omega)
            obtain ⟨⟨z1,z2,z3,z4,z5⟩,hz,hl⟩:=Option.bind_eq_some_iff.mp hl
            have HZ:=aM hz
            obtain ⟨rfl,rfl,rfl,rfl,rfl,rfl⟩:acc=l0∧z1=l1∧z2=l2∧z3=l3∧z4=l4∧z5=l5:=by simpa using hl
            clear h32 hz hl
            go_wp2_with fail
            refine (r06_Reader_fail.calls _ tl _ _ _ _ _ 6 _ _ _ _ _ W1 _ HX.out.i HX.out.b HZ.out).mono ?_
            rintro e w3 ⟨rfl,hi_,hb_,hk_⟩
            have HX3:=aM (HX.out.call hi_ hb_ hk_)
            clear hi_ hb_ hk_ HX hc1 hc4 hc7
            go_wp2_with fail
            go_meet
            exact ⟨_,HX3⟩
          · rw [if_neg h32] at hl
            have g5:decide (32≤(acc.length:Int))=false:=decide_eq_false (by omega)
            have HLN:=aM (show acc.length<1000000000000 by omega)
            obtain ⟨⟨b0,b1,b2,b3,b4,y1,y2,y3,y4,y5⟩,hbo,hl⟩:=Option.bind_eq_some_iff.mp hl
            have HBO:=aM hbo
            have HNX:=aM hl
            clear h32 hbo hl
            go_wp2_with fail
            refine (r06_Reader_function.calls k1 _ tl _ _ _ _ _ b0 b1 b2 b3 b4 y1 y2 y3 y4 y5 W1 _ HX.out.i HX.out.b HBO.out).mono ?_
            rintro e w3 ⟨v1,v3,rfl,hr1,hr3,hi3,hb3,hk3⟩
            obtain ⟨A5,c5,rfl⟩:=Kd.R_slice hr1
            obtain ⟨A6,c6,rfl⟩:=Kd.R_slice hr3
            have hx3:=HX.out.call hi3 hb3 hk3
            have HX3:=aM (hx3.below (below_alloc (Below.refl _ _) (.cells #[.string b0,.slice A5 b1.length c5,.int .i64 b2,.slice A6 b3.length c6,.int .i64 b4] 34)))
            have HR1:=aM (Kd.R_alloc (Kd.R_lower hr1 HX.out.b.size) (.cells #[.string b0,.slice A5 b1.length c5,.int .i64 b2,.slice A6 b3.length c6,.int .i64 b4] 34))
            have HR3:=aM (Kd.R_alloc (Kd.R_lower hr3 HX.out.b.size) (.cells #[.string b0,.slice A5 b1.length c5,.int .i64 b2,.slice A6 b3.length c6,.int .i64 b4] 34))
            have hbx:=blk_new w3 (.cells #[.string b0,.slice A5 b1.length c5,.int .i64 b2,.slice A6 b3.length c6,.int .i64 b4] 34)
            clear hr1 hr3 hi3 hb3 hk3 HX hc1 hc4 hc7 hx3
            go_upto_region 10 with (fail)
            generalize w3.alloc (.cells #[.string b0,.slice A5 b1.length c5,.int .i64 b2,.slice A6 b3.length c6,.int .i64 b4] 34)=W6 at HX3 HR1 HR3 hbx ⊢
            have z0_:W6.cell? ⟨w3.heap.size,0,none⟩=some (.string b0):=(blk_cell hbx 0).trans rfl
            have z1_:W6.cell? ⟨w3.heap.size,1,none⟩=some (.slice A5 b1.length c5):=(blk_cell hbx 1).trans rfl
            have z2_:W6.cell? ⟨w3.heap.size,2,none⟩=some (.int .i64 b2):=(blk_cell hbx 2).trans rfl
            have z3_:W6.cell? ⟨w3.heap.size,3,none⟩=some (.slice A6 b3.length c6):=(blk_cell hbx 3).trans rfl
            have z4_:W6.cell? ⟨w3.heap.size,4,none⟩=some (.int .i64 b4):=(blk_cell hbx 4).trans rfl
            have zz_:=HX3.out.cells.2.2.2
            clear hbx
            go_wp2_with (first | ((with_reducible refine gate_builtin (b:=.append) (xs:=#[.tmp 49,.tmp 51]) rfl ?_);at_builtin;refine Kd.R_append k34 W1.heap.size rfl (.tmp 49) (.tmp 51) 22 34 (.agg #[.string ⟨#[]⟩,.slice none 0 0,.int .i64 0,.slice none 0 0,.int .i64 0]) 80 rfl Try.underlying22 (by kernel_rfl) rfl (by decide) (by omega) (.slice A7 acc.length c7) acc (⟨b0,b1,b2,b3,b4⟩:S34) [.string b0,.slice A5 b1.length c5,.int .i64 b2,.slice A6 b3.length c6,.int .i64 b4] (fun _=>True) (fun k=>True∧some k≠(Value.slice A7 acc.length c7).ownBlock) rfl rfl (k34_mkM _ _ _ (⟨b0,b1,b2,b3,b4⟩:S34) (Kd.R_apart' HR1.out (Kd.R_typed HX3.out.row) (by decide)) (Kd.R_apart' HR3.out (Kd.R_typed HX3.out.row) (by decide))) (fun k hk=>⟨trivial,hk.2⟩) (fun k hk=>trivial) HX3.out.row (Below.refl _ _) (below_size HX3.out.b) (by have:=HLN.out;omega) ?_;intro v1 w4_ hr4 hb4 hg4 hv4;obtain ⟨A6,c6,e6⟩:=Kd.R_slice hr4;rw [List.length_append,List.length_singleton] at e6;subst e6;have HX9:=aM (HX3.out.app hr4 hg4);have B4:=(hg4.block (W1.heap.size+1) (blk_lt HX3.out.box) (Kd.R_ne HX3.out.row HX3.out.box (by decide))).trans HX3.out.box;have c4_:=blk_cell B4 0;have f4_:=blk_frozen B4 0;clear hr4 hb4 hg4 hv4 B4))
            go_roundg k1
            case measure=>have:=HKQ.out;omega
            case rel=>exact ⟨_,_,_,_,_,_,_,⟨HNX.out⟩,⟨by have:=HKQ.out;omega⟩,⟨HX9.out⟩⟩
        · rw [if_neg cl] at hl
          obtain ⟨rfl,rfl,rfl,rfl,rfl,rfl⟩:acc=l0∧t1=l1∧t2=l2∧t3=l3∧t4=l4∧t5=l5:=by simpa using hl
          clear hl
          by_cases c3z:t4=0
          · have g3:(t4==0)=true:=beq_iff_eq.mpr c3z
            have g1:decide (t1<(tl.length:Int))=false:=decide_eq_false (fun e=>cl ⟨c3z,e⟩)
            clear cl c3z
            go_wp2_with fail
            go_meet
            exact ⟨_,HX⟩
          · have g3:(t4==0)=false:=beq_eq_false_iff_ne.mpr c3z
            clear cl c3z
            go_wp2_with fail
            go_meet
            exact ⟨_,HX⟩
  case rest=>
    clear HX HLO0
    obtain ⟨v,HX⟩:=hcut
    obtain ⟨A7,c7,e7⟩:=Kd.R_slice HX.out.row
    subst e7
    obtain ⟨-,hc4,hc5,hc7⟩:=HX.out.cells
    have h:=HR.out
    have n1:W1.heap.size≠w.heap.size:=by have:=HX.out.l2;omega
    have n2:W1.heap.size≠w.heap.size+1:=by have:=HX.out.l3;omega
    have n3:W1.heap.size+1≠w.heap.size:=by have:=HX.out.l2;omega
    have n4:W1.heap.size+1≠w.heap.size+1:=by have:=HX.out.l3;omega
    by_cases ce:l4=0
    · rw [if_pos ce] at h
      have g5:(l4 !=0)=false:=bne_eq_false_iff_eq.mpr ce
      obtain ⟨rfl,rfl,rfl⟩:l0=r1∧0=r2∧0=r3:=by simpa using h
      clear h ce
      have z0_:=blk_cell HX.out.zero2 0
      have f0_:=blk_frozen HX.out.zero2 0
      have y0_:=blk_cell HX.out.zero3 0
      have y1_:=blk_cell HX.out.zero3 1
      have g0_:=blk_frozen HX.out.zero3 0
      have g1_:=blk_frozen HX.out.zero3 1
      have HRR:=aM (Kd.R_set (Kd.R_set (Kd.R_set HX.out.row HX.out.zero2 (by decide) 0 (.slice A7 l0.length c7)) ((Below.heap_setCell _ ⟨w.heap.size,0,none⟩ _ _ (by show w.heap.size+1≠w.heap.size;omega)).trans HX.out.zero3) (by decide) 0 (.int .i64 0)) (blk_put ((Below.heap_setCell _ ⟨w.heap.size,0,none⟩ _ _ (by show w.heap.size+1≠w.heap.size;omega)).trans HX.out.zero3) 0 (.int .i64 0) rfl) (by decide) 1 (.int .i64 0))
      go_wp2
      have hq2:(((wc.setCell ⟨w.heap.size,0,none⟩ (.slice A7 l0.length c7)).setCell ⟨w.heap.size+1,0,none⟩ (.int .i64 0)).setCell ⟨w.heap.size+1,1,none⟩ (.int .i64 0)).heap[w.heap.size]?=some (.cells #[(.slice A7 l0.length c7)] 24 (0,0)):=(Below.heap_setCell _ ⟨w.heap.size+1,1,none⟩ _ _ (by show w.heap.size≠w.heap.size+1;omega)).trans ((Below.heap_setCell _ ⟨w.heap.size+1,0,none⟩ _ _ (by show w.heap.size≠w.heap.size+1;omega)).trans (blk_put HX.out.zero2 0 _ rfl))
      have hq3:(((wc.setCell ⟨w.heap.size,0,none⟩ (.slice A7 l0.length c7)).setCell ⟨w.heap.size+1,0,none⟩ (.int .i64 0)).setCell ⟨w.heap.size+1,1,none⟩ (.int .i64 0)).heap[w.heap.size+1]?=some (.cells #[(.int .i64 0),(.int .i64 0)] 28 (0,0)):=blk_put (blk_put ((Below.heap_setCell _ ⟨w.heap.size,0,none⟩ _ _ (by show w.heap.size+1≠w.heap.size;omega)).trans HX.out.zero3) 0 _ rfl) 1 _ rfl
      have hqb:Below w.heap.size w (((wc.setCell ⟨w.heap.size,0,none⟩ (.slice A7 l0.length c7)).setCell ⟨w.heap.size+1,0,none⟩ (.int .i64 0)).setCell ⟨w.heap.size+1,1,none⟩ (.int .i64 0)):=below_set (below_set (below_set HX.out.bel (Nat.le_refl _)) (Nat.le_succ _)) (Nat.le_succ _)
      refine bodyPost_ret (results_cc rfl _ _ w.heap.size (w.heap.size+1) 24 28 #[(.slice A7 l0.length c7)] #[(.int .i64 0),(.int .i64 0)] (0,0) (0,0) _ _ rfl hq2 Try.underlying24 rfl (by kernel_rfl) rfl hq3 Try.underlying28 rfl (by kernel_rfl)) rfl ?_
      exact ⟨_,rfl,Kd.R_lower HRR.out (below_size HB1.out),hqb⟩
    · rw [if_neg ce] at h
      have g5:(l4 !=0)=true:=bne_iff_ne.mpr ce
      obtain ⟨rfl,rfl,rfl⟩:[]=r1∧l4=r2∧l5=r3:=by simpa using h
      clear h ce
      go_upto_region 12 with (fail)
      have z0_:wc.drew.cell? ⟨w.heap.size,0,none⟩=some (.slice none 0 0):=(blk_cell HX.out.zero2 0)
      have f0_:wc.drew.frozen? ⟨w.heap.size,0,none⟩=false:=blk_frozen HX.out.zero2 0
      have y0_:wc.drew.cell? ⟨w.heap.size+1,0,none⟩=some (.int .i64 0):=(blk_cell HX.out.zero3 0)
      have y1_:wc.drew.cell? ⟨w.heap.size+1,1,none⟩=some (.int .i64 0):=(blk_cell HX.out.zero3 1)
      have g0_:wc.drew.frozen? ⟨w.heap.size+1,0,none⟩=false:=blk_frozen HX.out.zero3 0
      have g1_:wc.drew.frozen? ⟨w.heap.size+1,1,none⟩=false:=blk_frozen HX.out.zero3 1
      have y0'_:wc.cell? ⟨w.heap.size+1,0,none⟩=some (.int .i64 0):=(blk_cell HX.out.zero3 0)
      have y1'_:wc.cell? ⟨w.heap.size+1,1,none⟩=some (.int .i64 0):=(blk_cell HX.out.zero3 1)
      have g0'_:wc.frozen? ⟨w.heap.size+1,0,none⟩=false:=blk_frozen HX.out.zero3 0
      have g1'_:wc.frozen? ⟨w.heap.size+1,1,none⟩=false:=blk_frozen HX.out.zero3 1
      obtain ⟨AG,cG,hG,-,-⟩:=HX.out.i
      refine start_ (n:=7) (S:=fun w'=>w'.cell? ⟨W1.heap.size,4,none⟩=some (.int .i64 l4)∧w'.cell? ⟨W1.heap.size,5,none⟩=some (.int .i64 l5)) (ds:=[6]) #[false,false,false,false,false,false,false] (by kernel_rfl) rfl rfl ⟨hc4,hc5⟩ (fun hHeld=>?_)
      refine pure_ (i:=0) (N:=some 60) (v:=?_) (a':=?_) #[true,false,false,false,false,false,false] rfl rfl (by kernel_rfl) (fun _ _ _ h=>h) (Or.inl ⟨by rfl,?_⟩) ?_ ?_
      rotate_left
      · intro w'
        go_simp
        with_reducible rfl
      rotate_left
      · simp only [Act.put,qA,qB,qC,i64_w,i32_w]
        rfl
      refine pure_ (i:=1) (N:=some 61) (v:=?_) (a':=?_) #[true,true,false,false,false,false,false] rfl rfl (by kernel_rfl) (fun _ _ _ h=>h) (Or.inl ⟨by rfl,?_⟩) ?_ ?_
      rotate_left
      · intro w'
        go_simp
        with_reducible rfl
      rotate_left
      · simp only [Act.put,qA,qB,qC,i64_w,i32_w]
        rfl
      refine pure_ (i:=2) (N:=some 62) (v:=?_) (a':=?_) #[true,true,true,false,false,false,false] rfl rfl (by kernel_rfl) (fun _ _ _ h=>h) (Or.inl ⟨by rfl,?_⟩) ?_ ?_
      rotate_left
      · intro w'
        go_simp
        with_reducible rfl
      rotate_left
      · simp only [Act.put,qA,qB,qC,i64_w,i32_w]
        rfl
      refine pure_ (i:=3) (N:=some 63) (v:=?_) (a':=?_) #[true,true,true,true,false,false,false] rfl rfl (by kernel_rfl) (fun _ _ _ h=>h) (Or.inl ⟨by rfl,?_⟩) ?_ ?_
      rotate_left
      · intro w'
        go_simp
        with_reducible rfl
      rotate_left
      · simp only [Act.put,qA,qB,qC,i64_w,i32_w]
        rfl
      refine take_ (i:=4) (N:=some 64) (v:=?_) (a':=?_) #[true,true,true,true,true,false,false] rfl rfl (by kernel_rfl) (fun _ _ _ h=>h) (Or.inl ⟨by rfl,?_⟩) hHeld ?_ ?_
      rotate_left
      · rintro w' ⟨s0,s1⟩
        go_simp
        with_reducible rfl
      rotate_left
      · simp only [Act.put,qA,qB,qC,i64_w,i32_w]
        rfl
      refine one_ (i:=5) (N:=none) #[true,true,true,true,true,true,false] rfl rfl (by kernel_rfl) (by decide) (fun K hK=>?_)
      refine skip_ (w1:=?_) (by rfl) rfl ?_ ?_
      rotate_left
      · go_simp
        rfl
      refine hK.out _ _ ⟨((blk_cell ((Below.heap_setCell wc.drew ⟨w.heap.size,0,none⟩ (.slice none 0 0) W1.heap.size n1).trans (show wc.drew.heap[W1.heap.size]?=_ from hG)) 4).trans rfl),((blk_cell ((Below.heap_setCell wc.drew ⟨w.heap.size,0,none⟩ (.slice none 0 0) W1.heap.size n1).trans (show wc.drew.heap[W1.heap.size]?=_ from hG)) 5).trans rfl)⟩ (fun hHeld=>?_)
      clear hK K
      refine last_ (i:=6) (N:=none) #[true,true,true,true,true,true,true] rfl rfl (by kernel_rfl) (by decide) (fun K hK=>?_)
      refine skip_ (w1:=?_) (by rfl) rfl ?_ ?_
      rotate_left
      · go_simp
        rfl
      refine hK.out _ _ ?_
      clear hK K
      refine done_ (by kernel_rfl) ?_
      go_wp2
      (try simp only [Exit.inBlock,Exit.then])
      have hq2:(((wc.drew.setCell ⟨w.heap.size,0,none⟩ (.slice none 0 0)).setCell ⟨w.heap.size+1,0,none⟩ (.int .i64 l4)).setCell ⟨w.heap.size+1,1,none⟩ (.int .i64 l5)).heap[w.heap.size]?=some (.cells #[(.slice none 0 0)] 24 (0,0)):=(Below.heap_setCell _ ⟨w.heap.size+1,1,none⟩ _ _ (by show w.heap.size≠w.heap.size+1;omega)).trans ((Below.heap_setCell _ ⟨w.heap.size+1,0,none⟩ _ _ (by show w.heap.size≠w.heap.size+1;omega)).trans (blk_put (show wc.drew.heap[w.heap.size]?=_ from HX.out.zero2) 0 _ rfl))
      have hq3:(((wc.drew.setCell ⟨w.heap.size,0,none⟩ (.slice none 0 0)).setCell ⟨w.heap.size+1,0,none⟩ (.int .i64 l4)).setCell ⟨w.heap.size+1,1,none⟩ (.int .i64 l5)).heap[w.heap.size+1]?=some (.cells #[(.int .i64 l4),(.int .i64 l5)] 28 (0,0)):=blk_put (blk_put ((Below.heap_setCell _ ⟨w.heap.size,0,none⟩ _ _ (by show w.heap.size+1≠w.heap.size;omega)).trans (show wc.drew.heap[w.heap.size+1]?=_ from HX.out.zero3)) 0 _ rfl) 1 _ rfl
      have hqb:Below w.heap.size w (((wc.drew.setCell ⟨w.heap.size,0,none⟩ (.slice none 0 0)).setCell ⟨w.heap.size+1,0,none⟩ (.int .i64 l4)).setCell ⟨w.heap.size+1,1,none⟩ (.int .i64 l5)):=below_set (below_set (below_set (below_drew1 HX.out.bel) (Nat.le_refl _)) (Nat.le_succ _)) (Nat.le_succ _)
      refine bodyPost_ret (results_cc rfl _ _ w.heap.size (w.heap.size+1) 24 28 #[(.slice none 0 0)] #[(.int .i64 l4),(.int .i64 l5)] (0,0) (0,0) _ _ rfl hq2 Try.underlying24 rfl (by kernel_rfl) rfl hq3 Try.underlying28 rfl (by kernel_rfl)) rfl ?_
      exact ⟨_,rfl,Kd.R_nil _ _ _ _ _,hqb⟩
end Go.Proofs.Ytkjdblbgmomieaa.PSh
end
-- from YtkjdblbgmomieaaLiSplit
section
namespace Go.Proofs.Ytkjdblbgmomieaa.PSh
open Go.RowKit Go.Proofs.YtkjdblbgmomieaaW.PrintWords Go.Proofs.YtkjdblbgmomieaaW.PrintLast Go.Proofs.YtkjdblbgmomieaaW.PrintMore Go.Proofs.Ytkjdblbgmomieaa.Str
set_option linter.unusedVariables false
set_option linter.unusedSimpArgs false
def Stand (s:ByteArray):Int→List Tok→Int→Prop
  | a,[],b=>a≤b
  | a,t::l,b=>a≤t.f1∧0<t.f0.size∧t.f1+t.f0.size≤s.size∧s.extract t.f1.toNat (t.f1+t.f0.size).toNat=t.f0∧Stand s (t.f1+t.f0.size) l b
theorem stand_snoc {s:ByteArray} {t:Tok} {b c:Int}:∀ {l:List Tok} {a:Int},Stand s a l b→b≤t.f1→0<t.f0.size→t.f1+t.f0.size≤s.size→s.extract t.f1.toNat (t.f1+t.f0.size).toNat=t.f0→t.f1+t.f0.size≤c→Stand s a (l++[t]) c:=by
  intro l
  induction l with
  | nil=>intro a h h1 h2 h3 h4 h5;exact ⟨Int.le_trans h h1,h2,h3,h4,h5⟩
  | cons x l ih=>intro a h h1 h2 h3 h4 h5;exact ⟨h.1,h.2.1,h.2.2.1,h.2.2.2.1,ih h.2.2.2.2 h1 h2 h3 h4 h5⟩
theorem stand_le {s:ByteArray} {b c:Int} (hbc:b≤c):∀ {l:List Tok} {a:Int},Stand s a l b→Stand s a l c:=by
  intro l
  induction l with
  | nil=>intro a h;exact Int.le_trans h hbc
  | cons x l ih=>intro a h;exact ⟨h.1,h.2.1,h.2.2.1,h.2.2.2.1,ih h.2.2.2.2⟩
theorem ext_size (s:ByteArray) (a b:Nat) (h:a≤b) (hb:b≤s.size):(s.extract a b).size=b - a:=by
  rw [ByteArray.size_extract];omega
theorem stand_close {s:ByteArray} {fr:Int} {i:Nat} {out:List Tok} {e:Int} (h:Stand s 0 out e) (hi:i≤s.size) (hf:fr=-1∧e≤i∨e≤fr∧0≤fr∧fr<i):Stand s 0 (closeW s fr i out) i:=by
  unfold closeW
  rcases hf with ⟨h1,h2⟩ | ⟨h1,h2,h3⟩
  · rw [if_pos (by omega)];exact stand_le h2 h
  · rw [if_neg (by omega)]
    have hs:(s.extract fr.toNat i).size=i - fr.toNat:=ext_size s _ _ (by omega) hi
    have hs2:((s.extract fr.toNat i).size:Int)=i - fr:=by rw [hs];omega
    refine stand_snoc h h1 (by show 0<(s.extract fr.toNat i).size;omega) (by show fr+((s.extract fr.toNat i).size:Int)≤_;omega) ?_ (by show fr+((s.extract fr.toNat i).size:Int)≤_;omega)
    show s.extract fr.toNat (fr+((s.extract fr.toNat i).size:Int)).toNat=s.extract fr.toNat i
    congr 1
    omega
theorem ext_one (s:ByteArray) (i:Nat) (c:UInt8) (l:List UInt8) (h:s.data.toList.drop i=c::l):s.extract i (i+1)=mk [c]:=by
  have e:s=mk s.data.toList:=mk_data s
  have h2:(s.data.toList.drop i).take 1=[c]:=by rw [h];rfl
  rw [e,mk_extract]
  congr 1
  have:(List.take (i+1) s.data.toList).drop i=List.take 1 (s.data.toList.drop i):=by
    rw [List.drop_take];congr 1;omega
  rw [this,h2]
theorem split_stand (s:ByteArray):∀ (l:List UInt8) (i:Nat) (fr:Int) (noted:Bool) (out:List Tok) (e:Int) (r1:List Tok) (r2 r3:Int),s.data.toList.drop i=l→i≤s.size→Stand s 0 out e→(fr=-1∧e≤i∨e≤fr∧0≤fr∧fr<i)→
    splitGo s l i fr noted out=(r1,r2,r3)→(r2=0∧Stand s 0 r1 s.size)∨(r2=1∧r1=[]∧0≤r3∧r3<s.size):=by
  intro l
  induction l with
  | nil=>
    intro i fr noted out e r1 r2 r3 hd hi hs hf h
    rw [splitGo] at h
    obtain ⟨rfl,h2⟩:=Prod.mk.inj h
    obtain ⟨rfl,rfl⟩:=Prod.mk.inj h2
    exact .inl ⟨rfl,stand_le (by omega) (stand_close hs hi hf)⟩
  | cons c l ih=>
    intro i fr noted out e r1 r2 r3 hd hi hs hf h
    have hlt:i<s.size:=by
      have h9:=congrArg List.length hd
      rw [List.length_drop,List.length_cons] at h9
      have:s.size=s.data.toList.length:=rfl
      omega
    have hd2:s.data.toList.drop (i+1)=l:=by
      rw [← List.drop_drop,hd];rfl
    have hc:=stand_close hs hi hf
    rw [splitGo] at h
    by_cases hn:noted=true
    · rw [if_pos hn] at h
      exact ih (i+1) fr _ out e r1 r2 r3 hd2 hlt hs (by omega) h
    · rw [if_neg hn] at h
      by_cases h0:kindR c.toNat=0
      · rw [if_pos h0] at h
        exact ih (i+1) (-1) _ _ i r1 r2 r3 hd2 hlt hc (.inl ⟨rfl,by omega⟩) h
      · rw [if_neg h0] at h
        by_cases h1:kindR c.toNat=1
        · rw [if_pos h1] at h
          refine ih (i+1) (-1) _ _ ((i+1:Nat):Int) r1 r2 r3 hd2 hlt (stand_snoc hc (Int.le_refl _) (by show 0<(mk [c]).size;rw [mk_size];exact Nat.one_pos) ?_ ?_ ?_) (.inl ⟨rfl,by omega⟩) h
          · show (i:Int)+((mk [c]).size:Int)≤_;rw [mk_size,List.length_singleton];omega
          · show s.extract i ((i:Int)+((mk [c]).size:Int)).toNat=mk [c]
            rw [mk_size,List.length_singleton]
            exact ext_one s i c l hd
          · show (i:Int)+((mk [c]).size:Int)≤_;rw [mk_size,List.length_singleton];omega
        · rw [if_neg h1] at h
          by_cases h2:kindR c.toNat=2
          · rw [if_pos h2] at h
            by_cases hfr:fr<0
            · rw [if_pos hfr] at h
              exact ih (i+1) i _ _ e r1 r2 r3 hd2 hlt hs (.inr (by omega)) h
            · rw [if_neg hfr] at h
              exact ih (i+1) fr _ _ e r1 r2 r3 hd2 hlt hs (by omega) h
          · rw [if_neg h2] at h
            by_cases h3:kindR c.toNat=3
            · rw [if_pos h3] at h
              exact ih (i+1) (-1) _ _ i r1 r2 r3 hd2 hlt hc (.inl ⟨rfl,by omega⟩) h
            · rw [if_neg h3] at h
              obtain ⟨rfl,h4⟩:=Prod.mk.inj h
              obtain ⟨rfl,rfl⟩:=Prod.mk.inj h4
              exact .inr ⟨rfl,rfl,by omega,by omega⟩
theorem stand_in {s:ByteArray}:∀ {l:List Tok} {a b:Int},Stand s a l b→∀ t∈l,a≤t.f1∧t.f0.size≤s.size:=by
  intro l
  induction l with
  | nil=>intro a b _ t ht;cases ht
  | cons x l ih=>
    intro a b h t ht
    rcases List.mem_cons.mp ht with rfl | ht
    · exact ⟨h.1,by
        have:=congrArg ByteArray.size h.2.2.2.1
        rw [ByteArray.size_extract] at this
        omega⟩
    · have:=ih h.2.2.2.2 t ht
      exact ⟨by have:=h.1;omega,this.2⟩
theorem stand_len {s:ByteArray}:∀ {l:List Tok} {a b:Int},Stand s a l b→(l.length:Int)≤b - a:=by
  intro l
  induction l with
  | nil=>intro a b h;have:a≤b:=h;simp;omega
  | cons x l ih=>
    intro a b h
    have:=ih h.2.2.2.2
    have h1:=h.1
    have h2:=h.2.1
    rw [List.length_cons]
    omega
end Go.Proofs.Ytkjdblbgmomieaa.PSh
end
-- from YtkjdblbgmomieaaRSplit
section
namespace Go.Proofs.Ytkjdblbgmomieaa.LiSplit
open Go.RowKit Go.Proofs.YtkjdblbgmomieaaW.PrintWords Go.Proofs.YtkjdblbgmomieaaW.PrintLast Go.Proofs.YtkjdblbgmomieaaW.PrintMore Go.Proofs.Ytkjdblbgmomieaa.Str Go.Proofs.Ytkjdblbgmomieaa.PSh
set_option linter.unusedSimpArgs false
set_option linter.unusedVariables false
theorem ev_bind' {α β:Type} {g:Nat→Option α} {f:Nat→α→Option β} {a:α} {r:β} (h:Ev g a) (k:Ev (fun n=>f n a) r):Ev (fun n=>(g n).bind (f n)) r:=Ev.bind h k
theorem in_loop (c:Int):∀ (rest pre:List UInt8),(pre++rest).length≤1000→Ev (fun k=>r02_in.l0 k c (mk (pre++rest)) (pre.length:Int)) (rest.any fun x=>decide ((x.toNat:Int)=c)):=by
  intro rest
  induction rest with
  | nil=>
    intro pre _
    exact Ev.step (f:=fun _=>some false) (fun k=>by simp only [r02_in.l0];rw [if_neg (by rw [mk_size];simp)]) (Ev.now _)
  | cons d rest ih=>
    intro pre hl
    have hsz:(pre.length:Int)<((mk (pre++d::rest)).size:Int):=by rw [mk_size];simp;omega
    refine Ev.step (f:=fun k=>if (d.toNat:Int)=c then some true else r02_in.l0 k c (mk (pre++d::rest)) (wrap64 (pre.length+1))) (fun k=>by simp only [r02_in.l0];rw [if_pos hsz,if_pos (by omega),bt_pre]) ?_
    rw [List.any_cons]
    by_cases h:(d.toNat:Int)=c
    · rw [decide_eq_true h,Bool.true_or]
      exact ev_pos h (Ev.now _)
    · rw [decide_eq_false h,Bool.false_or]
      refine ev_neg h ?_
      have hw:wrap64 ((pre.length:Int)+1)=((pre++[d]).length:Int):=by
        rw [w64 (by omega) (by simp at hl;omega)];simp
      have hpre:pre++d::rest=(pre++[d])++rest:=by simp
      rw [hw,hpre]
      exact ih (pre++[d]) (by rw [← hpre];exact hl)
theorem in_ev (c:Int) (l:List UInt8) (hl:l.length≤1000) (b:Bool) (hb:(l.any fun x=>decide ((x.toNat:Int)=c))=b):Ev (fun k=>r02_in.f k c (mk l)) b:=by
  rw [← hb]
  exact in_loop c l [] hl
theorem blank_ev (c:Int):Ev (fun k=>r02_in.f k c (⟨#[32,9,10,13]⟩:ByteArray)) (decide (kindR c=0)):=by
  refine in_ev c [32,9,10,13] (by decide) _ ?_
  rw [Bool.eq_iff_iff,decide_eq_true_iff]
  simp only [List.any_cons,List.any_nil,Bool.or_false,Bool.or_eq_true,decide_eq_true_iff]
  unfold kindR
  constructor
  · intro h
    rw [if_pos (by simp at h;omega)]
  · intro h
    by_cases h1:c=32∨c=9∨c=10∨c=13
    · simp;omega
    · rw [if_neg h1] at h
      split at h
      · omega
      · split at h
        · omega
        · split at h
          · omega
          · split at h<;>omega
theorem sign_ev (c:Int):Ev (fun k=>r02_in.f k c (⟨#[40,41,123,125,61,58]⟩:ByteArray)) (decide (kindR c=1)):=by
  refine in_ev c [40,41,123,125,61,58] (by decide) _ ?_
  rw [Bool.eq_iff_iff,decide_eq_true_iff]
  simp only [List.any_cons,List.any_nil,Bool.or_false,Bool.or_eq_true,decide_eq_true_iff]
  unfold kindR
  constructor
  · intro h
    rw [if_neg (by simp at h;omega),if_pos (by simp at h;omega)]
  · intro h
    by_cases h1:c=32∨c=9∨c=10∨c=13
    · rw [if_pos h1] at h
      omega
    · rw [if_neg h1] at h
      by_cases h2:c=40∨c=41∨c=123∨c=125∨c=61∨c=58
      · simp;omega
      · rw [if_neg h2] at h
        split at h
        · omega
        · split at h
          · omega
          · split at h<;>omega
theorem kind2 (c:Int):kindR c=2↔((97≤c∧c≤122)∨(65≤c∧c≤90)∨(48≤c∧c≤57))∨(c=46∨c=37∨c=64∨c=45∨c=95):=by
  unfold kindR
  by_cases h1:c=32∨c=9∨c=10∨c=13
  · rw [if_pos h1];omega
  rw [if_neg h1]
  by_cases h2:c=40∨c=41∨c=123∨c=125∨c=61∨c=58
  · rw [if_pos h2];omega
  rw [if_neg h2]
  by_cases h3:(97≤c∧c≤122)∨(65≤c∧c≤90)∨(48≤c∧c≤57)
  · rw [if_pos h3];exact ⟨fun _=>.inl h3,fun _=>rfl⟩
  rw [if_neg h3]
  by_cases h4:c=46∨c=37∨c=64∨c=45∨c=95
  · rw [if_pos h4];exact ⟨fun _=>.inr h4,fun _=>rfl⟩
  rw [if_neg h4]
  constructor
  · intro h;split at h<;>omega
  · intro h;rcases h with h | h
    · exact absurd h h3
    · exact absurd h h4
theorem letter_ev (c:Int):Ev (fun k=>r02_letter.f k c) (decide (kindR c=2)):=by
  have hi:Ev (fun k=>r02_in.f k c (⟨#[46,37,64,45,95]⟩:ByteArray)) (decide (c=46∨c=37∨c=64∨c=45∨c=95)):=by
    refine in_ev c [46,37,64,45,95] (by decide) _ ?_
    rw [Bool.eq_iff_iff,decide_eq_true_iff]
    simp only [List.any_cons,List.any_nil,Bool.or_false,Bool.or_eq_true,decide_eq_true_iff]
    simp
    omega
  have hk:=kind2 c
  have yes:(97≤c∧c≤122)∨(65≤c∧c≤90)∨(48≤c∧c≤57)→Ev (fun _=>some true) (decide (kindR c=2)):=fun h=>by
    rw [decide_eq_true (hk.2 (.inl h))];exact Ev.now _
  have no:¬ ((97≤c∧c≤122)∨(65≤c∧c≤90)∨(48≤c∧c≤57))→Ev (fun k=>(r02_in.f k c (⟨#[46,37,64,45,95]⟩:ByteArray)).bind fun t=>some t) (decide (kindR c=2)):=fun h=>by
    have e:decide (kindR c=2)=decide (c=46∨c=37∨c=64∨c=45∨c=95):=decide_eq_decide.2 ⟨fun k=>(hk.1 k).resolve_left h,fun k=>hk.2 (.inr k)⟩
    rw [e]
    exact ev_bind' hi (Ev.now _)
  unfold r02_letter.f
  refine ev_if (fun h1=>ev_if (fun h2=>yes (by omega)) (fun h2=>?_)) (fun h1=>?_)
  · refine ev_if (fun h3=>ev_if (fun h4=>yes (by omega)) (fun h4=>?_)) (fun h3=>?_)
    · exact ev_if (fun h5=>ev_if (fun h6=>yes (by omega)) (fun h6=>no (by omega))) (fun h5=>no (by omega))
    · exact ev_if (fun h5=>ev_if (fun h6=>yes (by omega)) (fun h6=>no (by omega))) (fun h5=>no (by omega))
  · refine ev_if (fun h3=>ev_if (fun h4=>yes (by omega)) (fun h4=>?_)) (fun h3=>?_)
    · exact ev_if (fun h5=>ev_if (fun h6=>yes (by omega)) (fun h6=>no (by omega))) (fun h5=>no (by omega))
    · exact ev_if (fun h5=>ev_if (fun h6=>yes (by omega)) (fun h6=>no (by omega))) (fun h5=>no (by omega))
theorem ev_whenB {α:Type} {t:Prop} [Decidable t] {g:Nat→Option Bool} {f h:Nat→Option α} {r:α} (e:Ev g (decide t)) (yes:t→Ev f r) (no:¬ t→Ev h r):Ev (fun k=>(g k).bind fun b=>if b=true then f k else h k) r:=by
  refine ev_bind' (f:=fun k b=>if b=true then f k else h k) e ?_
  by_cases ht:t
  · rw [decide_eq_true ht]
    exact ev_pos (c:=(true=true)) rfl (yes ht)
  · rw [decide_eq_false ht]
    exact ev_neg (c:=(false=true)) (by decide) (no ht)
theorem bt_drop (a:ByteArray) (i:Nat) (c:UInt8) (l:List UInt8) (h:a.data.toList.drop i=c::l):bt a (i:Int)=(c.toNat:Int)∧i<a.size∧a.data.toList.drop (i+1)=l:=by
  have hi:i<a.data.toList.length:=by
    by_cases hi:i<a.data.toList.length
    · exact hi
    · rw [List.drop_eq_nil_of_le (by omega)] at h;cases h
  have h2:=List.drop_eq_getElem_cons hi
  rw [h] at h2
  injection h2 with h3 h4
  refine ⟨?_,by rw [size_data];exact hi,h4.symm⟩
  rw [show bt a (i:Int)=bt (mk a.data.toList) (i:Int) from congrArg (fun s=>bt s (i:Int)) (mk_data a),bt_mk _ i hi,h3]
theorem split_words (a:ByteArray) (hs:a.size≤65536):∀ (l:List UInt8) (i:Nat) (out:List Tok),a.data.toList.drop i=l→i≤a.size→out.length≤i→
    Ev (fun k=>r02_Split.l0 k a out (i:Int)) (splitGo a l i (-1) false out)∧
    Ev (fun k=>r02_Split.l1 k a out (i:Int)) (splitGo a l i (-1) true out)∧
    ∀ fr:Nat,fr<i→out.length≤fr→Ev (fun k=>r02_Split.l2 k a out (fr:Int) (i:Int)) (splitGo a l i (fr:Int) false out):=by
  intro l
  induction l with
  | nil=>
    intro i out hd hi ho
    have hn:i=a.size:=by
      have:=List.drop_eq_nil_iff.1 hd
      rw [← size_data] at this
      omega
    have hlt:¬ ((i:Int)<(a.size:Int)):=by omega
    have h0:∀ o:List Tok,Ev (fun k=>r02_Split.l0 k a o (i:Int)) (o,0,0):=fun o=>Ev.step (f:=fun _=>some (o,0,0)) (fun k=>by simp only [r02_Split.l0];rw [if_neg hlt]) (Ev.now _)
    refine ⟨h0 out,Ev.step (f:=fun k=>r02_Split.l0 k a out (i:Int)) (fun k=>by simp only [r02_Split.l1];rw [if_neg hlt]) (h0 out),fun fr hf ho2=>?_⟩
    refine Ev.step (f:=fun k=>r02_Split.l0 k a (out++[⟨a.extract (fr:Int).toNat (i:Int).toNat,fr⟩]) (i:Int)) (fun k=>by simp only [r02_Split.l2];rw [if_neg hlt,if_pos (by omega),if_pos (by omega),if_pos (by omega),if_pos (by omega)]) ?_
    have e:splitGo a [] i (fr:Int) false out=(out++[⟨a.extract (fr:Int).toNat (i:Int).toNat,fr⟩],0,0):=by
      show (closeW a fr i out,(0:Int),(0:Int))=_
      unfold closeW
      rw [if_neg (by omega)]
      rfl
    rw [e]
    exact h0 _
  | cons c l ih=>
    intro i out hd hi ho
    obtain ⟨hb,hlt,hd2⟩:=bt_drop a i c l hd
    have hlt':(i:Int)<(a.size:Int):=by omega
    have hw:wrap64 ((i:Int)+1)=((i+1:Nat):Int):=by rw [w64 (by omega) (by omega)];omega
    have P0:∀ o:List Tok,o.length≤i→Ev (fun k=>r02_Split.l0 k a o (i:Int)) (splitGo a (c::l) i (-1) false o):=by
      intro o ho
      have hc:∀ o':List Tok,closeW a (-1) i o'=o':=fun o'=>by unfold closeW;rw [if_pos (by omega)]
      refine Ev.step (f:=fun k=>(r02_in.f k (c.toNat:Int) (⟨#[32,9,10,13]⟩:ByteArray)).bind fun t=>if t=true then r02_Split.l0 k a o ((i+1:Nat):Int) else if (c.toNat:Int)=35 then r02_Split.l1 k a o (i:Int) else (r02_in.f k (c.toNat:Int) (⟨#[40,41,123,125,61,58]⟩:ByteArray)).bind fun t=>if t=true then r02_Split.l0 k a (o++[⟨a.extract (i:Int).toNat ((i+1:Nat):Int).toNat,i⟩]) ((i+1:Nat):Int) else (r02_letter.f k (c.toNat:Int)).bind fun t=>if t=true then r02_Split.l2 k a o (i:Int) (i:Int) else some ([],1,(i:Int))) (fun k=>by simp only [r02_Split.l0];rw [if_pos hlt',if_pos (by omega),hb,hw,if_pos (show (i:Int)≤((i+1:Nat):Int) by omega),if_pos (show ((i+1:Nat):Int)≤(a.size:Int) by omega),if_pos (show o.length<5864062014805 by omega)]) ?_
      refine ev_whenB (blank_ev _) (fun h=>?_) (fun h=>?_)
      · have e:splitGo a (c::l) i (-1) false o=splitGo a l (i+1) (-1) false o:=by rw [splitGo,if_neg (by decide),if_pos h,hc]
        rw [e]
        exact (ih (i+1) o hd2 (by omega) (by omega)).1
      · refine ev_if (fun h35=>?_) (fun h35=>?_)
        · have e:splitGo a (c::l) i (-1) false o=splitGo a l (i+1) (-1) true o:=by
            rw [splitGo,if_neg (by decide),if_neg h,h35,if_neg (by decide),if_neg (by decide),if_pos (by decide),hc]
          rw [e]
          refine Ev.step (f:=fun k=>r02_Split.l1 k a o ((i+1:Nat):Int)) (fun k=>by simp only [r02_Split.l1];rw [if_pos hlt',if_pos (by omega),hb,hw,if_neg (by omega)]) ?_
          exact (ih (i+1) o hd2 (by omega) (by omega)).2.1
        · refine ev_whenB (sign_ev _) (fun h1=>?_) (fun h1=>?_)
          · have e:splitGo a (c::l) i (-1) false o=splitGo a l (i+1) (-1) false (o++[⟨a.extract (i:Int).toNat ((i+1:Nat):Int).toNat,i⟩]):=by
              rw [splitGo,if_neg (by decide),if_neg h,if_pos h1,hc]
              rw [← ext_one a i c l hd]
              rfl
            rw [e]
            exact (ih (i+1) _ hd2 (by omega) (by simp;omega)).1
          · refine ev_whenB (letter_ev _) (fun h2=>?_) (fun h2=>?_)
            · have e:splitGo a (c::l) i (-1) false o=splitGo a l (i+1) (i:Int) false o:=by
                rw [splitGo,if_neg (by decide),if_neg h,if_neg h1,if_pos h2,if_pos (by decide)]
              rw [e]
              refine Ev.step (f:=fun k=>(r02_letter.f k (c.toNat:Int)).bind fun t=>if t=true then r02_Split.l2 k a o (i:Int) ((i+1:Nat):Int) else r02_Split.l0 k a (o++[⟨a.extract (i:Int).toNat (i:Int).toNat,i⟩]) (i:Int)) (fun k=>by simp only [r02_Split.l2];rw [if_pos hlt',if_pos (by omega),hb,hw,if_pos (by omega),if_pos (by omega),if_pos (by omega),if_pos (by omega)]) ?_
              exact ev_whenB (letter_ev _) (fun _=>(ih (i+1) o hd2 (by omega) (by omega)).2.2 i (by omega) ho) (fun h3=>absurd h2 h3)
            · have e:splitGo a (c::l) i (-1) false o=([],1,(i:Int)):=by
                have h3:¬ kindR (c.toNat:Int)=3:=by
                  unfold kindR
                  intro h3
                  split at h3
                  · omega
                  · split at h3
                    · omega
                    · split at h3
                      · omega
                      · split at h3
                        · omega
                        · first | omega | (split at h3<;>omega)
                rw [splitGo,if_neg (by decide),if_neg h,if_neg h1,if_neg h2,if_neg h3]
              rw [e]
              exact Ev.now _
    refine ⟨P0 out ho,?_,fun fr hf ho2=>?_⟩
    · refine Ev.step (f:=fun k=>if (c.toNat:Int)=10 then r02_Split.l0 k a out (i:Int) else r02_Split.l1 k a out ((i+1:Nat):Int)) (fun k=>by simp only [r02_Split.l1];rw [if_pos hlt',if_pos (by omega),hb,hw]) ?_
      refine ev_if (fun h=>?_) (fun h=>?_)
      · have e:splitGo a (c::l) i (-1) true out=splitGo a (c::l) i (-1) false out:=by
          rw [splitGo,if_pos rfl,splitGo,if_neg (by decide),h,if_pos (by decide)]
          rfl
        rw [e]
        exact P0 out ho
      · have e:splitGo a (c::l) i (-1) true out=splitGo a l (i+1) (-1) true out:=by
          rw [splitGo,if_pos rfl,show ((c.toNat:Int) !=10)=true from by rw [bne_iff_ne];exact h]
        rw [e]
        exact (ih (i+1) out hd2 (by omega) (by omega)).2.1
    · refine Ev.step (f:=fun k=>(r02_letter.f k (c.toNat:Int)).bind fun t=>if t=true then r02_Split.l2 k a out (fr:Int) ((i+1:Nat):Int) else r02_Split.l0 k a (out++[⟨a.extract (fr:Int).toNat (i:Int).toNat,fr⟩]) (i:Int)) (fun k=>by simp only [r02_Split.l2];rw [if_pos hlt',if_pos (by omega),hb,hw,if_pos (by omega),if_pos (by omega),if_pos (by omega),if_pos (by omega)]) ?_
      refine ev_whenB (letter_ev _) (fun h2=>?_) (fun h2=>?_)
      · have e:splitGo a (c::l) i (fr:Int) false out=splitGo a l (i+1) (fr:Int) false out:=by
          rw [splitGo,if_neg (by decide),if_neg (by omega),if_neg (by omega),if_pos h2,if_neg (by omega)]
        rw [e]
        exact (ih (i+1) out hd2 (by omega) (by omega)).2.2 fr (by omega) ho2
      · have e:splitGo a (c::l) i (fr:Int) false out=splitGo a (c::l) i (-1) false (out++[⟨a.extract (fr:Int).toNat (i:Int).toNat,fr⟩]):=by
          have h1:closeW a (fr:Int) i out=out++[⟨a.extract (fr:Int).toNat (i:Int).toNat,fr⟩]:=by unfold closeW;rw [if_neg (by omega)];rfl
          have h3:∀ o':List Tok,closeW a (-1) i o'=o':=fun o'=>by unfold closeW;rw [if_pos (by omega)]
          simp only [splitGo,Bool.false_eq_true,if_false,h1,h3,if_neg h2]
        rw [e]
        exact P0 _ (by simp;omega)
theorem ref_split (a:ByteArray):Ev (fun k=>r02_Split.f k a) (splitL a):=by
  unfold r02_Split.f splitL
  by_cases h:65536<a.size
  · rw [if_pos h]
    exact ev_pos (by omega) (Ev.now _)
  · rw [if_neg h]
    exact ev_neg (by omega) (split_words a (by omega) a.data.toList 0 [] rfl (Nat.zero_le _) (Nat.le_refl _)).1
end Go.Proofs.Ytkjdblbgmomieaa.LiSplit
end
-- from YtkjdblbgmomieaaPFine
section
namespace Go.Proofs.Ytkjdblbgmomieaa.PSh
open Go.RowKit Go.Proofs.YtkjdblbgmomieaaW.PrintWords Go.Proofs.YtkjdblbgmomieaaW.PrintLast Go.Proofs.YtkjdblbgmomieaaW.PrintMore Go.Proofs.Ytkjdblbgmomieaa.Str Go.Proofs.Ytkjdblbgmomieaa.Dig Go.Proofs.Ytkjdblbgmomieaa.DigLaw
set_option linter.unusedVariables false
set_option linter.unusedSimpArgs false
def Bd (en:Int) (ts:List Tk):Prop:=0≤en∧∀ t∈ts,0≤t.f1∧t.f1<en
section
variable {α β : Type} {en : Int} {ts : List Tk}
theorem Bd.tail (h:Bd en ts):Bd en ts.tail:=⟨h.1,fun t ht=>h.2 t (List.mem_of_mem_tail ht)⟩
end
end Go.Proofs.Ytkjdblbgmomieaa.PSh
end
