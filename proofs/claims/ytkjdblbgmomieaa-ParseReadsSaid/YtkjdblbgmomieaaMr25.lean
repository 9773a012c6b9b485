import Derived.Test.YtkjdblbgmomieaaMr24
import Derived.Test.YtkjdblbgmomieaaMr13
import Derived.Test.YtkjdblbgmomieaaMr19
-- from YtkjdblbgmomieaaRSimJ
section
namespace Go.Proofs.Ytkjdblbgmomieaa.PSh
open Go.RowKit Go.Proofs.YtkjdblbgmomieaaW.PrintWords Go.Proofs.YtkjdblbgmomieaaW.PrintLast Go.Proofs.YtkjdblbgmomieaaW.PrintMore Go.Proofs.Ytkjdblbgmomieaa.Str Go.Proofs.Ytkjdblbgmomieaa.Dig Go.Proofs.Ytkjdblbgmomieaa.DigLaw
set_option linter.unusedVariables false
set_option linter.unusedSimpArgs false
section
variable {tl : List Tk} {en n : Int}
def RvB {β:Type} (tl:List Tk) (en:Int) (x:PE (β × Int × List Tk)) (o:β × ST5):Prop:=match x with
  | .ok a=>o.1=a.1∧Rp tl en a.2.1 (.ok a.2.2) o.2
  | .error q=>Rp tl en 0 (.error q) o.2
theorem code_dead (acc:List SI) {q:Int × Int} {s:ST5} (h:Rp tl en n (.error q) s):Ev (fun k=>rblLoop k tl acc s.1 s.2.1 s.2.2.1 s.2.2.2.1 s.2.2.2.2) (acc,s):=by
  refine Ev.step (f:=fun _=>some (acc,s)) (fun k=>?_) (Ev.now _)
  simp only [rblLoop,rblTest]
  rw [if_neg h.dead,Option.bind_some]
  rfl
theorem rcode_test {ts:List Tk} {s1:Int} (h:Rp tl en n (.ok ts) (s1,en,n,0,0)):rblTest tl s1 en n 0 0=some (((pk0 ts).toList !=([125]:List UInt8)) && ((pk1 ts).toList !=([58]:List UInt8)),s1,en,n,0,0):=by
  unfold rblTest
  rw [if_pos rfl,peek_live0 h,Option.bind_some]
  by_cases c:(pk0 ts).toList=([125]:List UInt8)
  · rw [if_pos c,c]
    rfl
  · rw [if_neg c,bne_iff_ne.mpr c,Bool.true_and]
    simp only
    rw [peek_live1 h,Option.bind_some]
theorem code_live (hl:tl.length≤500000) (ht:∀ t∈tl,t.f0.size≤65536):∀ (m:Nat) (acc:List SI) (n:Int) (ts:List Tk) (s1:Int),ts.length<m→acc.length+ts.length≤1000000→0≤n→n≤4096→Rp tl en n (.ok ts) (s1,en,n,0,0)→∃ o,Ev (fun k=>rblLoop k tl acc s1 en n 0 0) o∧RvB tl en (codeP en m acc n ts) o
  | 0,_,_,_,_,h,_,_,_,_=>absurd h (by omega)
  | m+1,acc,n,ts,s1,hm,hbnd,hn0,hn1,h=>by
    have hlen:acc.length<1000000000000:=by omega
    simp only [codeP]
    by_cases ct:(((pk0 ts).toList !=([125]:List UInt8)) && ((pk1 ts).toList !=([58]:List UInt8)))=true
    · rw [if_pos ct]
      by_cases c2:n≥4096
      · rw [if_pos c2]
        obtain ⟨z,hz,rz⟩:=fail_live h (show (6:Int)≠0 by decide)
        have h0:0≤z.1:=by rw [fail_at hz];exact h.1
        have rz:Rp tl en n (.error (6,hereP en ts)) z:=rz
        obtain ⟨o,ho,e⟩:=instr_dead (tl:=tl) (n:=n) (s:=(z.1,z.2.1,wrap64 (z.2.2.1+1),z.2.2.2.1,z.2.2.2.2)) h0 rz
        have rd:Rp tl en n (.error (6,hereP en ts)) o.2.2.2.2.2.2.2.2:=by rw [e];exact rz
        refine ⟨(acc++[⟨o.1,o.2.1,o.2.2.1,o.2.2.2.1,o.2.2.2.2.1,o.2.2.2.2.2.1,o.2.2.2.2.2.2.1,o.2.2.2.2.2.2.2.1⟩],o.2.2.2.2.2.2.2.2),Ev.step (fun k=>?_) (Ev.bind ho (code_dead (tl:=tl) (n:=n) (acc++[⟨o.1,o.2.1,o.2.2.1,o.2.2.2.1,o.2.2.2.2.1,o.2.2.2.2.2.1,o.2.2.2.2.2.2.1,o.2.2.2.2.2.2.2.1⟩]) rd) (f:=fun k x=>rblLoop k tl (acc++[⟨x.1,x.2.1,x.2.2.1,x.2.2.2.1,x.2.2.2.2.1,x.2.2.2.2.2.1,x.2.2.2.2.2.2.1,x.2.2.2.2.2.2.2.1⟩]) x.2.2.2.2.2.2.2.2.1 x.2.2.2.2.2.2.2.2.2.1 x.2.2.2.2.2.2.2.2.2.2.1 x.2.2.2.2.2.2.2.2.2.2.2.1 x.2.2.2.2.2.2.2.2.2.2.2.2)),rd⟩
        simp only [rblLoop]
        rw [rcode_test h,Option.bind_some,if_pos ct]
        simp only
        rw [if_pos c2,hz,Option.bind_some]
        simp only [if_pos hlen]
      · rw [if_neg c2]
        have hnw:wrap64 (n+1)=n+1:=w64 (by omega) (by omega)
        have h':Rp tl en (n+1) (.ok ts) (s1,en,n+1,0,0):=by
          obtain ⟨h0,h1,h2,h3,h4,h5,h6⟩:=h
          exact ⟨h0,h1,h2,h3,h4,rfl,h6⟩
        obtain ⟨x,hx,rx⟩:=instr_rv hl ht h'
        obtain ⟨o,ho,hr⟩:∃ o,Ev (fun k=>rblLoop k tl (acc++[⟨x.1,x.2.1,x.2.2.1,x.2.2.2.1,x.2.2.2.2.1,x.2.2.2.2.2.1,x.2.2.2.2.2.2.1,x.2.2.2.2.2.2.2.1⟩]) x.2.2.2.2.2.2.2.2.1 x.2.2.2.2.2.2.2.2.2.1 x.2.2.2.2.2.2.2.2.2.2.1 x.2.2.2.2.2.2.2.2.2.2.2.1 x.2.2.2.2.2.2.2.2.2.2.2.2) o∧RvB tl en ((instrP en ts).bind fun x=>codeP en m (acc++[x.1]) (n+1) x.2) o:=by
          revert rx
          generalize hq:instrP en ts=y
          cases y with
          | error q=>exact fun rx=>⟨_,code_dead (tl:=tl) (n:=n) _ (show Rp tl en n (.error q) x.2.2.2.2.2.2.2.2 from rx),rx⟩
          | ok a=>
            rintro ⟨e1,rx⟩
            have l1:=instrP_len hq
            have e:=rx.live
            rw [e] at rx
            obtain ⟨o,ho,hr⟩:=code_live hl ht m (acc++[a.1]) (n+1) a.2 x.2.2.2.2.2.2.2.2.1 (by omega) (by simp only [List.length_append,List.length_singleton];omega) (by omega) (by omega) rx
            refine ⟨o,?_,hr⟩
            rw [← e1,e]
            exact ho
        refine ⟨o,Ev.step (fun k=>?_) (Ev.bind hx ho (f:=fun k x=>rblLoop k tl (acc++[⟨x.1,x.2.1,x.2.2.1,x.2.2.2.1,x.2.2.2.2.1,x.2.2.2.2.2.1,x.2.2.2.2.2.2.1,x.2.2.2.2.2.2.2.1⟩]) x.2.2.2.2.2.2.2.2.1 x.2.2.2.2.2.2.2.2.2.1 x.2.2.2.2.2.2.2.2.2.2.1 x.2.2.2.2.2.2.2.2.2.2.2.1 x.2.2.2.2.2.2.2.2.2.2.2.2)),hr⟩
        simp only [rblLoop]
        rw [rcode_test h,Option.bind_some,if_pos ct]
        simp only
        rw [if_neg c2,Option.bind_some]
        simp only [if_pos hlen,hnw]
    · rw [if_neg ct]
      refine ⟨(acc,s1,en,n,0,0),Ev.step (f:=fun _=>some (acc,s1,en,n,(0:Int),(0:Int))) (fun k=>?_) (Ev.now _),rfl,h⟩
      simp only [rblLoop]
      rw [rcode_test h,Option.bind_some,if_neg ct]
theorem code_rv (hl:tl.length≤500000) (ht:∀ t∈tl,t.f0.size≤65536) (h0:0≤n) (h1:n≤4096) {x:PE (List Tk)} {s:ST5} (h:Rp tl en n x s):∃ o,Ev (fun k=>rblLoop k tl [] s.1 s.2.1 s.2.2.1 s.2.2.2.1 s.2.2.2.2) o∧RvB tl en (x.bind fun us=>codeP en (us.length+1) [] n us) o:=by
  cases x with
  | error q=>exact ⟨_,code_dead (tl:=tl) (n:=n) [] h,h⟩
  | ok ts=>
    have e:=h.live
    have hd:ts.length≤tl.length:=by
      obtain ⟨h0,h1,h2,h3,h4⟩:=h
      rw [← h3,List.length_drop]
      omega
    rw [e] at h ⊢
    exact code_live hl ht (ts.length+1) [] n ts s.1 (by omega) (by simp;omega) h0 h1 h
theorem rprint_ev (k0:Int) (h0:0≤k0) (h1:k0≤100000):Ev (fun k=>r01_Print.f k k0) (mk (digs k0)):=ref_print k0 (by omega) (by omega)
theorem block_rv (hl:tl.length≤500000) (ht:∀ t∈tl,t.f0.size≤65536) (h0:0≤n) (h1:n≤4096) (k0:Int) (hk0:0≤k0) (hk1:k0≤100000) {ts:List Tk} {s1:Int} (h:Rp tl en n (.ok ts) (s1,en,n,0,0)):∃ o,Ev (fun k=>r06_Reader_block.f k tl s1 en n 0 0 k0) o∧RvB tl en (blockP en k0 n ts) o:=by
  have hp:=rprint_ev k0 hk0 hk1
  have hds:(mk (digs k0)).size≤1000:=by
    have:=digs_len k0 (by omega) (by omega)
    rw [mk_size]
    omega
  have hnb:¬ (⟨#[]⟩:ByteArray).toList=((⟨#[98]⟩:ByteArray)++mk (digs k0)).toList:=by
    rw [toList_eq,toList_eq]
    simp
  have heq:(⟨#[98]⟩:ByteArray)++mk (digs k0)=mk (98::digs k0):=by
    rw [show (⟨#[98]⟩:ByteArray)=mk [98] from rfl,mk_append]
    rfl
  unfold r06_Reader_block.f blockP
  by_cases c1:k0≥256
  · rw [if_pos c1]
    obtain ⟨z,hz,rz⟩:=fail_live h (show (6:Int)≠0 by decide)
    have rz:Rp tl en n (.error (6,hereP en ts)) z:=rz
    have rz2:Rp tl en n (.error (6,hereP en ts)) (wrap64 (z.1+1),z.2):=rz
    obtain ⟨s',hs,rs⟩:=want_rl (a:=(⟨#[58]⟩:ByteArray)) [58] (by rw [toList_eq]) (by decide) hl rz2
    obtain ⟨o,ho,hr⟩:=code_rv hl ht h0 h1 rs
    simp only [if_pos c1,hz,Option.bind_some]
    exact ⟨o,ev_some (peek_dead rz.dead) (Ev.bind hp (ev_pos hds (ev_some ((if_neg hnb).trans (fail_dead rz.dead)) (ev_some hs ho)))),hr⟩
  · rw [if_neg c1]
    simp only [if_neg c1,Option.bind_some]
    by_cases c2:(pk0 ts).toList=(mk (98::digs k0)).toList
    · rw [if_pos c2]
      have hst:Rp tl en n (.ok ts.tail) (wrap64 (s1+1),en,n,0,0):=by
        cases ts with
        | nil=>exact absurd (by rw [heq];exact c2) hnb
        | cons t us=>exact step_live (by omega) h
      obtain ⟨s',hs,rs⟩:=want_rl (a:=(⟨#[58]⟩:ByteArray)) [58] (by rw [toList_eq]) (by decide) hl hst
      obtain ⟨o,ho,hr⟩:=code_rv hl ht h0 h1 rs
      refine ⟨o,ev_some (peek_live0 h) (Ev.bind hp (ev_pos hds (ev_some (if_pos (by rw [heq];exact c2)) (ev_some hs ho)))),?_⟩
      exact hr
    · rw [if_neg c2]
      obtain ⟨z,hz,rz⟩:=fail_live h (show (7:Int)≠0 by decide)
      have rz:Rp tl en n (.error (7,hereP en ts)) z:=rz
      have rz2:Rp tl en n (.error (7,hereP en ts)) (wrap64 (z.1+1),z.2):=rz
      obtain ⟨s',hs,rs⟩:=want_rl (a:=(⟨#[58]⟩:ByteArray)) [58] (by rw [toList_eq]) (by decide) hl rz2
      obtain ⟨o,ho,hr⟩:=code_rv hl ht h0 h1 rs
      exact ⟨o,ev_some (peek_live0 h) (Ev.bind hp (ev_pos hds (ev_some ((if_neg (by rw [heq];exact c2)).trans hz) (ev_some hs ho)))),hr⟩
end
end Go.Proofs.Ytkjdblbgmomieaa.PSh
end
-- from YtkjdblbgmomieaaHRFunc
section
namespace Go.Proofs.Ytkjdblbgmomieaa.PSh
set_option maxHeartbeats 8000000
set_option maxRecDepth 100000
open Go.RowKit Go.Proofs.YtkjdblbgmomieaaW.PrintWords Go.Proofs.YtkjdblbgmomieaaW.PrintLast Go.Proofs.YtkjdblbgmomieaaW.PrintMore Go.Proofs.Ytkjdblbgmomieaa.Str
set_option linter.unusedVariables false
set_option linter.unusedSimpArgs false
def rfpTest (tl:List (S101)) (e:List UInt8) (s1 s2 s3 s4 s5:Int):Option (Bool × ST5):=
  if s4=0 then (r06_Reader_peek.f tl s1 s2 s3 s4 s5 0).bind fun p=>some (p.1.toList !=e,p.2.1,p.2.2.1,p.2.2.2.1,p.2.2.2.2.1,p.2.2.2.2.2) else some (false,s1,s2,s3,s4,s5)
def rfpLoop:Nat→List (S101)→List Int→Int→Int→Int→Int→Int→Option (List Int × ST5)
  | 0,_,_,_,_,_,_,_=>none
  | k+1,tl,ps,s1,s2,s3,s4,s5=>(rfpTest tl [41] s1 s2 s3 s4 s5).bind fun c=>if c.1=true then (r06_Reader_peek.f tl c.2.1 c.2.2.1 c.2.2.2.1 c.2.2.2.2.1 c.2.2.2.2.2 0).bind fun p=>(r06_kind.f p.1).bind fun t=>
        (if t<1 then r06_Reader_fail.f tl p.2.1 p.2.2.1 p.2.2.2.1 p.2.2.2.2.1 p.2.2.2.2.2 9 else some (p.2.1,p.2.2.1,p.2.2.2.1,p.2.2.2.2.1,p.2.2.2.2.2)).bind fun q=>(if ps.length≥8 then r06_Reader_fail.f tl q.1 q.2.1 q.2.2.1 q.2.2.2.1 q.2.2.2.2 6 else some (q.1,q.2.1,q.2.2.1,q.2.2.2.1,q.2.2.2.2)).bind fun r=>
          if ps.length<1000000000000 then rfpLoop k tl (ps++[t]) (wrap64 (r.1+1)) r.2.1 r.2.2.1 r.2.2.2.1 r.2.2.2.2 else none
      else some (ps,c.2.1,c.2.2.1,c.2.2.2.1,c.2.2.2.2.1,c.2.2.2.2.2)
def rfbLoop:Nat→List (S101)→List (List (S39))→Int→Int→Int→Int→Int→Option (List (List (S39)) × ST5)
  | 0,_,_,_,_,_,_,_=>none
  | k+1,tl,bl,s1,s2,s3,s4,s5=>(rfpTest tl [125] s1 s2 s3 s4 s5).bind fun c=>if c.1=true then (r06_Reader_block.f k tl c.2.1 c.2.2.1 c.2.2.2.1 c.2.2.2.2.1 c.2.2.2.2.2 (bl.length:Int)).bind fun b=>if bl.length<1000000000000 then rfbLoop k tl (bl++[b.1]) b.2.1 b.2.2.1 b.2.2.2.1 b.2.2.2.2.1 b.2.2.2.2.2 else none
      else some (bl,c.2.1,c.2.2.1,c.2.2.2.1,c.2.2.2.2.1,c.2.2.2.2.2)
def r06_Reader_function.f (k:Nat) (tl:List (S101)) (s1 s2 s3 s4 s5:Int):Option (ByteArray × List Int × Int × List (List (S39)) × Int × ST5):=
  (if 0≤s1 then if s1<(tl.length:Int) then some (rd_T101 tl s1).f1 else none else none).bind fun at0=>(r06_Reader_want.f tl s1 s2 s3 s4 s5 (⟨#[102,117,110,99]⟩:ByteArray)).bind fun a=>(r06_Reader_name.f k tl a.1 a.2.1 a.2.2.1 a.2.2.2.1 a.2.2.2.2).bind fun m=>(r06_Reader_want.f tl m.2.1 m.2.2.1 m.2.2.2.1 m.2.2.2.2.1 m.2.2.2.2.2 (⟨#[40]⟩:ByteArray)).bind fun b=>
    (rfpLoop k tl [] b.1 b.2.1 b.2.2.1 b.2.2.2.1 b.2.2.2.2).bind fun c=>(r06_Reader_want.f tl c.2.1 c.2.2.1 c.2.2.2.1 c.2.2.2.2.1 c.2.2.2.2.2 (⟨#[41]⟩:ByteArray)).bind fun d=>(r06_Reader_peek.f tl d.1 d.2.1 d.2.2.1 d.2.2.2.1 d.2.2.2.2 0).bind fun p=>(r06_kind.f p.1).bind fun t=>
      (if t<0 then r06_Reader_fail.f tl p.2.1 p.2.2.1 p.2.2.2.1 p.2.2.2.2.1 p.2.2.2.2.2 9 else some (p.2.1,p.2.2.1,p.2.2.2.1,p.2.2.2.2.1,p.2.2.2.2.2)).bind fun q=>(r06_Reader_want.f tl (wrap64 (q.1+1)) q.2.1 q.2.2.1 q.2.2.2.1 q.2.2.2.2 (⟨#[123]⟩:ByteArray)).bind fun o=>
        (rfbLoop k tl [] o.1 o.2.1 o.2.2.1 o.2.2.2.1 o.2.2.2.2).bind fun l=>(r06_Reader_want.f tl l.2.1 l.2.2.1 l.2.2.2.1 l.2.2.2.2.1 l.2.2.2.2.2 (⟨#[125]⟩:ByteArray)).bind fun e=>some (m.1,c.1,t,l.1,at0,e.1,e.2.1,e.2.2.1,e.2.2.2.1,e.2.2.2.2)
def fObj (x:S34) (v1 v3:Value):Array Value:=#[.string x.f0,v1,.int .i64 x.f2,v3,.int .i64 x.f4]
structure FXAt (g bz bx:Nat) (z:Array Value) (tl:List (S101)) (x:S34) (v1 v3:Value) (s1 s2 s3 s4 s5:Int) (w0 w w':World):Prop where
  i:IsS89 w0 w' g tl s1 s2 s3 s4 s5
  b:Below w0.heap.size w0 w'
  k:KeepBut w w' g none
  wb:w0.heap.size≤w.heap.size
  gl:g<w.heap.size
  ge:w.heap.size≤bz
  lt:bz<bx
  zero:w'.heap[bz]?=some (.cells z 34 (0,0))
  box:w'.heap[bx]?=some (.cells (fObj x v1 v3) 34 (0,0))
  r1:Kd.R (Kd.int .i64) 3 w' w.heap.size (fun _=>True) v1 x.f1
  r3:Kd.R (Kd.slice 39 k39) 36 w' w.heap.size (fun _=>True) v3 x.f3
section
variable {g bz bx : Nat} {z : Array Value} {tl : List (S101)} {x : S34} {v1 v3 : Value} {s1 s2 s3 s4 s5 q1 q2 q3 q4 q5 : Int} {w0 w w1 w2 : World}
theorem FXAt.call (h:FXAt g bz bx z tl x v1 v3 s1 s2 s3 s4 s5 w0 w w1) (hi:IsS89 w0 w2 g tl q1 q2 q3 q4 q5) (hb:Below w0.heap.size w0 w2) (hk:KeepBut w1 w2 g none):FXAt g bz bx z tl x v1 v3 q1 q2 q3 q4 q5 w0 w w2:=by
  obtain ⟨A0,c0,hG,-,-⟩:=h.i
  have h1:=h.gl
  have h2:=h.ge
  have h3:=h.lt
  exact ⟨hi,hb,h.k.trans hk (.inl rfl),h.wb,h.gl,h.ge,h.lt,hk.blk h.zero (by omega) (by simp),hk.blk h.box (by omega) (by simp),row39_keep h.r1 hG (by decide) hk,row39_keep h.r3 hG (by decide) hk⟩
theorem FXAt.below (h:FXAt g bz bx z tl x v1 v3 s1 s2 s3 s4 s5 w0 w w1) (hb:Below w1.heap.size w1 w2):FXAt g bz bx z tl x v1 v3 s1 s2 s3 s4 s5 w0 w w2:=
  ⟨h.i.below hb,below_step h.b hb,h.k.trans (KeepBut.of_below hb g none) (.inl rfl),h.wb,h.gl,h.ge,h.lt,blk_below h.zero hb,blk_below h.box hb,Kd.R_below h.r1 hb,Kd.R_below h.r3 hb⟩
theorem FXAt.put (h:FXAt g bz bx z tl x v1 v3 s1 s2 s3 s4 s5 w0 w w1) (x2:S34) (j:Nat) (u:Value) (hc:(fObj x v1 v3).setIfInBounds j u=fObj x2 v1 v3) (h4:x2.f1=x.f1) (h5:x2.f3=x.f3):FXAt g bz bx z tl x2 v1 v3 s1 s2 s3 s4 s5 w0 w (w1.setCell ⟨bx,j,none⟩ u):=by
  have h1:=h.gl
  have h2:=h.ge
  have h3:=h.lt
  have h6:=h.wb
  exact ⟨h.i.far (by show g≠bx;omega) u,below_set h.b (by show _≤bx;omega),keep_far h.k (by show _≤bx;omega) u,h.wb,h.gl,h.ge,h.lt,(Below.heap_setCell w1 ⟨bx,j,none⟩ u _ (by show bz≠bx;omega)).trans h.zero,blk_put h.box j u hc,by rw [h4];exact Kd.R_set h.r1 h.box (by decide) j u,by rw [h5];exact Kd.R_set h.r3 h.box (by decide) j u⟩
theorem FXAt.setz (h:FXAt g bz bx z tl x v1 v3 s1 s2 s3 s4 s5 w0 w w1) (j:Nat) (u:Value):FXAt g bz bx (z.setIfInBounds j u) tl x v1 v3 s1 s2 s3 s4 s5 w0 w (w1.setCell ⟨bz,j,none⟩ u):=by
  have h1:=h.gl
  have h2:=h.ge
  have h3:=h.lt
  have h6:=h.wb
  exact ⟨h.i.far (by show g≠bz;omega) u,below_set h.b (by show _≤bz;omega),keep_far h.k (by show _≤bz;omega) u,h.wb,h.gl,h.ge,h.lt,blk_put h.zero j u rfl,(Below.heap_setCell w1 ⟨bz,j,none⟩ u _ (by show bx≠bz;omega)).trans h.box,Kd.R_set h.r1 h.zero (by decide) j u,Kd.R_set h.r3 h.zero (by decide) j u⟩
theorem FXAt.app {α:Type} {dk:Kd α} {e:Nat} {acc:List α} {v:Value} (h:FXAt g bz bx z tl x v1 v3 s1 s2 s3 s4 s5 w0 w w1) (hv:dk.R e w1 w.heap.size (fun _=>True) v acc) (he:e≠89∧e≠34) (hg:w1.grownBy w2 v.ownBlock) (x2:S34) (j:Nat) {u1 u3:Value} (u:Value) (hc:(fObj x v1 v3).setIfInBounds j u=fObj x2 u1 u3)
    (hr1:Kd.R (Kd.int .i64) 3 w2 w.heap.size (fun _=>True) u1 x2.f1) (hr3:Kd.R (Kd.slice 39 k39) 36 w2 w.heap.size (fun _=>True) u3 x2.f3):FXAt g bz bx z tl x2 u1 u3 s1 s2 s3 s4 s5 w0 w (w2.setCell ⟨bx,j,none⟩ u):=by
  have h1:=h.gl
  have h2:=h.ge
  have h3:=h.lt
  have h6:=h.wb
  obtain ⟨A0,c0,hG,-,-⟩:=h.i
  have hz:=(hg.block bz (blk_lt h.zero) (Kd.R_ne hv h.zero he.2)).trans h.zero
  have hx:=(hg.block bx (blk_lt h.box) (Kd.R_ne hv h.box he.2)).trans h.box
  have hb:Below w0.heap.size w0 w2:=pw_below_grown h.b v.ownBlock (Nat.le_trans h.wb (keep_size h.k)) hg (fun k e=>Nat.le_trans h.wb (Kd.R_base hv k e))
  have hkk:KeepBut w w2 g none:=h.k.trans (KeepBut.of_grown hg g) ((Kd.R_base2 hv).imp (fun e=>e) (fun e=>e))
  exact ⟨(h.i.grown hg (Kd.R_ne hv hG he.1)).far (by show g≠bx;omega) _,below_set hb (by show _≤bx;omega),keep_far hkk (by show _≤bx;omega) _,h.wb,h.gl,h.ge,h.lt,(Below.heap_setCell w2 ⟨bx,j,none⟩ u _ (by show bz≠bx;omega)).trans hz,blk_put hx j u hc,Kd.R_set hr1 hx (by decide) j u,Kd.R_set hr3 hx (by decide) j u⟩
theorem FXAt.at1 (h:FXAt g bz bx z tl x v1 v3 s1 s2 s3 s4 s5 w0 w w1) (j:Nat):w1.cell? ⟨bx,j,none⟩=(fObj x v1 v3)[j]?:=blk_cell h.box j
theorem FXAt.code (h:FXAt g bz bx z tl x v1 v3 s1 s2 s3 s4 s5 w0 w w1):w1.cell? ⟨g,4,none⟩=some (.int .i64 s4):=by
  obtain ⟨A0,c0,hG,-,-⟩:=h.i
  exact blk_cell hG 4
theorem FXAt.where_ (h:FXAt g bz bx z tl x v1 v3 s1 s2 s3 s4 s5 w0 w w1):w1.cell? ⟨g,1,none⟩=some (.int .i64 s1)∧w1.frozen? ⟨g,1,none⟩=false:=by
  obtain ⟨A0,c0,hG,-,-⟩:=h.i
  exact ⟨blk_cell hG 1,blk_frozen hG 1⟩
theorem FXAt.set1 (h:FXAt g bz bx z tl x v1 v3 s1 s2 s3 s4 s5 w0 w w1) (y:Int):FXAt g bz bx z tl x v1 v3 y s2 s3 s4 s5 w0 w (w1.setCell ⟨g,1,none⟩ (.int .i64 y)):=
  h.call (h.i.set_1 y) (below_set h.b h.i.ge) ((KeepBut.refl w1 g none).set_ 1 _)
end
theorem r06_Reader_function.calls (k g:Nat) (tl:List (S101)) (s1 s2 s3 s4 s5:Int) (r0:ByteArray) (r1:List Int) (r2:Int) (r3:List (List (S39))) (r4 r5 r6 r7 r8 r9:Int) (w0 w:World) (hI:IsS89 w0 w g tl s1 s2 s3 s4 s5) (hB:Below w0.heap.size w0 w) (h:r06_Reader_function.f k tl s1 s2 s3 s4 s5=some (r0,r1,r2,r3,r4,r5,r6,r7,r8,r9)):
    Calls Try.prog 62 #[.pointer (some ⟨g,0,none⟩)] w fun e w'=>∃ v1_ v3_:Value,e=.returned (.agg #[.string r0,v1_,.int .i64 r2,v3_,.int .i64 r4])∧Kd.R (Kd.int .i64) 3 w' w.heap.size (fun _=>True) v1_ r1∧Kd.R (Kd.slice 39 k39) 36 w' w.heap.size (fun _=>True) v3_ r3∧IsS89 w0 w' g tl r5 r6 r7 r8 r9∧Below w0.heap.size w0 w'∧KeepBut w w' g none:=by
  have hu34:=Try.underlying34
  unfold r06_Reader_function.f at h
  obtain ⟨at0,hat,h⟩:=Option.bind_eq_some_iff.mp h
  obtain ⟨⟨a1,a2,a3,a4,a5⟩,ha,h⟩:=Option.bind_eq_some_iff.mp h
  obtain ⟨⟨m0,m1,m2,m3,m4,m5⟩,hm,h⟩:=Option.bind_eq_some_iff.mp h
  obtain ⟨⟨b1,b2,b3,b4,b5⟩,hb,h⟩:=Option.bind_eq_some_iff.mp h
  obtain ⟨⟨c0,c1,c2,c3,c4,c5⟩,hc,h⟩:=Option.bind_eq_some_iff.mp h
  obtain ⟨⟨d1,d2,d3,d4,d5⟩,hd,h⟩:=Option.bind_eq_some_iff.mp h
  obtain ⟨⟨p0,p1,p2,p3,p4,p5⟩,hp,h⟩:=Option.bind_eq_some_iff.mp h
  obtain ⟨t,ht,h⟩:=Option.bind_eq_some_iff.mp h
  obtain ⟨⟨q1,q2,q3,q4,q5⟩,hq,h⟩:=Option.bind_eq_some_iff.mp h
  obtain ⟨⟨o1,o2,o3,o4,o5⟩,ho,h⟩:=Option.bind_eq_some_iff.mp h
  obtain ⟨⟨l0,l1,l2,l3,l4,l5⟩,hl,h⟩:=Option.bind_eq_some_iff.mp h
  obtain ⟨⟨e1,e2,e3,e4,e5⟩,he,h⟩:=Option.bind_eq_some_iff.mp h
  obtain ⟨rfl,rfl,rfl,rfl,rfl,rfl,rfl,rfl,rfl,rfl⟩:m0=r0∧c0=r1∧t=r2∧l0=r3∧at0=r4∧e1=r5∧e2=r6∧e3=r7∧e4=r8∧e5=r9:=by simpa using h
  by_cases h0:0≤s1
  rotate_left
  · rw [if_neg h0] at hat
    cases hat
  rw [if_pos h0] at hat
  by_cases h1:s1<(tl.length:Int)
  rotate_left
  · rw [if_neg h1] at hat
    cases hat
  rw [if_pos h1] at hat
  obtain rfl:=Option.some.inj hat
  have HA:=aM ha
  have HM:=aM hm
  have HBB:=aM hb
  have HC:=aM hc
  have HDD:=aM hd
  have HP:=aM hp
  have HT:=aM ht
  have HQ:=aM hq
  have HO:=aM ho
  have HLL:=aM hl
  have HE:=aM he
  have HI:=aM hI
  have HB:=aM hB
  have HL:=aM hI.lt
  clear hat ha hm hb hc hd hp ht hq ho hl he h hI hB
  go_enter Try.func62,Try.ntmps62
  have hz:=blk_new w (.cells #[.string ⟨#[]⟩,.slice none 0 0,.int .i64 0,.slice none 0 0,.int .i64 0] 34)
  have hi0:=HI.out.alloc (.cells #[.string ⟨#[]⟩,.slice none 0 0,.int .i64 0,.slice none 0 0,.int .i64 0] 34)
  have hb0:=below_alloc HB.out (.cells #[.string ⟨#[]⟩,.slice none 0 0,.int .i64 0,.slice none 0 0,.int .i64 0] 34)
  have hk0:=keep_alloc (g:=g) (KeepBut.refl w g none) (.cells #[.string ⟨#[]⟩,.slice none 0 0,.int .i64 0,.slice none 0 0,.int .i64 0] 34)
  go_upto_region 1 with (fail)
  generalize w.alloc (.cells #[.string ⟨#[]⟩,.slice none 0 0,.int .i64 0,.slice none 0 0,.int .i64 0] 34)=W0 at hz hi0 hb0 hk0 ⊢
  obtain ⟨A0,cA,hG,hg_,hS_⟩:=hi0
  have HG:=aM (show W0.drew.heap[g]?=_ from hG)
  obtain ⟨ad,e_,hx0,hx1⟩:=at_T101 hS_ s1 h0 h1
  cases e_
  have hc0:W0.drew.cell? ⟨g,0,none⟩=_:=blk_cell HG.out 0
  have hc1:W0.drew.cell? ⟨g,1,none⟩=_:=blk_cell HG.out 1
  have hx2:W0.drew.cell? _=_:=pw_cell_below hb0 hx1
  have HZ1:=aM hz
  have HI1:=aM (show IsS89 w0 W0 g tl s1 s2 s3 s4 s5 from ⟨_,_,hG,hg_,hS_⟩)
  have HB1:=aM hb0
  have HK1:=aM hk0
  have HZ:=aM (show W0.drew.heap[w.heap.size]?=_ from hz)
  have HI0:=aM (show IsS89 w0 W0.drew g tl s1 s2 s3 s4 s5 from ⟨_,_,hG,hg_,hS_⟩)
  have HB0:=aM (show Below w0.heap.size w0 W0.drew from below_drew1 hb0)
  have HK0:=aM (show KeepBut w W0.drew g none from hk0.trans (KeepBut.of_below (below_drew1 (Below.refl _ _)) g none) (.inl rfl))
  have p0_:=eq_true h0
  have q0_:=eq_true h1
  clear hz hb0 hk0 hx0 hx1 h0 h1
  refine start_ (n:=14) (S:=fun w'=>w'.cell? ⟨g,0,none⟩=some (.slice (some ad) tl.length cA)∧w'.cell? ⟨g,1,none⟩=some (.int .i64 s1)∧w'.cell? ⟨(ad.add (s1.toNat * 2)).block,(ad.add (s1.toNat * 2)).off+1,none⟩=some (.int .i64 (rd_T101 tl s1).f1)) (ds:=[13]) #[false,false,false,false,false,false,false,false,false,false,false,false,false,false] (by kernel_rfl) rfl rfl ⟨hc0,hc1,hx2⟩ (fun hHeld=>?_)
  refine pure_ (i:=0) (N:=some 6) (v:=?_) (a':=?_) #[true,false,false,false,false,false,false,false,false,false,false,false,false,false] rfl rfl (by kernel_rfl) (fun _ _ _ h=>h) (Or.inl ⟨by rfl,?_⟩) ?_ ?_
  rotate_left
  · intro w'
    go_simp
    with_reducible rfl
  rotate_left
  · simp only [Act.put,qA,qB,qC,i64_w,i32_w]
    rfl
  refine pure_ (i:=1) (N:=some 7) (v:=?_) (a':=?_) #[true,true,false,false,false,false,false,false,false,false,false,false,false,false] rfl rfl (by kernel_rfl) (fun _ _ _ h=>h) (Or.inl ⟨by rfl,?_⟩) ?_ ?_
  rotate_left
  · intro w'
    go_simp
    with_reducible rfl
  rotate_left
  · simp only [Act.put,qA,qB,qC,i64_w,i32_w]
    rfl
  refine pure_ (i:=2) (N:=some 8) (v:=?_) (a':=?_) #[true,true,true,false,false,false,false,false,false,false,false,false,false,false] rfl rfl (by kernel_rfl) (fun _ _ _ h=>h) (Or.inl ⟨by rfl,?_⟩) ?_ ?_
  rotate_left
  · intro w'
    go_simp
    with_reducible rfl
  rotate_left
  · simp only [Act.put,qA,qB,qC,i64_w,i32_w]
    rfl
  refine pure_ (i:=4) (N:=some 10) (v:=?_) (a':=?_) #[true,true,true,false,true,false,false,false,false,false,false,false,false,false] rfl rfl (by kernel_rfl) (fun _ _ _ h=>h) (Or.inl ⟨by rfl,?_⟩) ?_ ?_
  rotate_left
  · intro w'
    go_simp
    with_reducible rfl
  rotate_left
  · simp only [Act.put,qA,qB,qC,i64_w,i32_w]
    rfl
  refine pure_ (i:=5) (N:=some 11) (v:=?_) (a':=?_) #[true,true,true,false,true,true,false,false,false,false,false,false,false,false] rfl rfl (by kernel_rfl) (fun _ _ _ h=>h) (Or.inl ⟨by rfl,?_⟩) ?_ ?_
  rotate_left
  · intro w'
    go_simp
    with_reducible rfl
  rotate_left
  · simp only [Act.put,qA,qB,qC,i64_w,i32_w]
    rfl
  refine pure_ (i:=6) (N:=some 12) (v:=?_) (a':=?_) #[true,true,true,false,true,true,true,false,false,false,false,false,false,false] rfl rfl (by kernel_rfl) (fun _ _ _ h=>h) (Or.inl ⟨by rfl,?_⟩) ?_ ?_
  rotate_left
  · intro w'
    go_simp
    with_reducible rfl
  rotate_left
  · simp only [Act.put,qA,qB,qC,i64_w,i32_w]
    rfl
  refine take_ (i:=3) (N:=some 9) (v:=?_) (a':=?_) #[true,true,true,true,true,true,true,false,false,false,false,false,false,false] rfl rfl (by kernel_rfl) (fun _ _ _ h=>h) (Or.inl ⟨by rfl,?_⟩) hHeld ?_ ?_
  rotate_left
  · rintro w' ⟨s0,s1,s2⟩
    go_simp
    with_reducible rfl
  rotate_left
  · simp only [Act.put,qA,qB,qC,i64_w,i32_w]
    rfl
  refine take_ (i:=7) (N:=some 13) (v:=?_) (a':=?_) #[true,true,true,true,true,true,true,true,false,false,false,false,false,false] rfl rfl (by kernel_rfl) (fun _ _ _ h=>h) (Or.inl ⟨by rfl,?_⟩) hHeld ?_ ?_
  rotate_left
  · rintro w' ⟨s0,s1,s2⟩
    go_simp
    with_reducible rfl
  rotate_left
  · simp only [Act.put,qA,qB,qC,i64_w,i32_w]
    rfl
  refine pure_ (i:=8) (N:=some 14) (v:=?_) (a':=?_) #[true,true,true,true,true,true,true,true,true,false,false,false,false,false] rfl rfl (by kernel_rfl) (fun _ _ _ h=>h) (Or.inl ⟨by rfl,?_⟩) ?_ ?_
  rotate_left
  · intro w'
    go_simp
    with_reducible rfl
  rotate_left
  · simp only [Act.put,qA,qB,qC,i64_w,i32_w]
    rfl
  refine pure_ (i:=9) (N:=some 15) (v:=?_) (a':=?_) #[true,true,true,true,true,true,true,true,true,true,false,false,false,false] rfl rfl (by kernel_rfl) (fun _ _ _ h=>h) (Or.inl ⟨by rfl,?_⟩) ?_ ?_
  rotate_left
  · intro w'
    go_simp
    with_reducible rfl
  rotate_left
  · simp only [Act.put,qA,qB,qC,i64_w,i32_w]
    rfl
  refine take_ (i:=10) (N:=some 16) (v:=?_) (a':=?_) #[true,true,true,true,true,true,true,true,true,true,true,false,false,false] rfl rfl (by kernel_rfl) (fun _ _ _ h=>h) (Or.inl ⟨by rfl,?_⟩) hHeld ?_ ?_
  rotate_left
  · rintro w' ⟨s0,s1,s2⟩
    go_simp
    with_reducible rfl
  rotate_left
  · simp only [Act.put,qA,qB,qC,i64_w,i32_w]
    rfl
  refine pure_ (i:=11) (N:=some 17) (v:=?_) (a':=?_) #[true,true,true,true,true,true,true,true,true,true,true,true,false,false] rfl rfl (by kernel_rfl) (fun _ _ _ h=>h) (Or.inl ⟨by rfl,?_⟩) ?_ ?_
  rotate_left
  · intro w'
    go_simp
    with_reducible rfl
  rotate_left
  · simp only [Act.put,qA,qB,qC,i64_w,i32_w]
    rfl
  refine one_ (i:=12) (N:=some 3) #[true,true,true,true,true,true,true,true,true,true,true,true,true,false] rfl rfl (by kernel_rfl) (by decide) (fun K hK=>?_)
  refine value_ (w1:=?_) (v:=?_) (by rfl) rfl ?_ ?_
  rotate_left 2
  · go_simp
    constructor
    · rfl
    · rfl
  refine hK.out _ _ ⟨(blk_cell (blk_alloc HG.out (.cells #[.string ⟨#[]⟩,.slice none 0 0,.int .i64 0,.slice none 0 0,.int .i64 0] 34)) 0),(blk_cell (blk_alloc HG.out (.cells #[.string ⟨#[]⟩,.slice none 0 0,.int .i64 0,.slice none 0 0,.int .i64 0] 34)) 1),(pw_cell_below (below_alloc (Below.refl _ _) (.cells #[.string ⟨#[]⟩,.slice none 0 0,.int .i64 0,.slice none 0 0,.int .i64 0] 34)) hx2)⟩ (fun hHeld=>?_)
  clear hK K
  refine norm_ (a':=?_) ?_ ?_
  rotate_left
  · show Act.put _ (some 3) _=_
    simp only [Act.put,qA,qB,qC,i64_w,i32_w]
    rfl
  refine last_ (i:=13) (N:=none) #[true,true,true,true,true,true,true,true,true,true,true,true,true,true] rfl rfl (by kernel_rfl) (by decide) (fun K hK=>?_)
  refine skip_ (w1:=?_) (by rfl) rfl ?_ ?_
  rotate_left
  · go_simp
    rfl
  refine hK.out _ _ ?_
  clear hK K
  refine done_ (by kernel_rfl) ?_
  have HX:=aM (show FXAt g w.heap.size W0.heap.size #[.string ⟨#[]⟩,.slice none 0 0,.int .i64 0,.slice none 0 0,.int .i64 0] tl ⟨(⟨#[]⟩:ByteArray),[],0,[],(rd_T101 tl s1).f1⟩ (.slice none 0 0) (.slice none 0 0) s1 s2 s3 s4 s5 w0 w (W0.alloc (.cells #[.string ⟨#[]⟩,.slice none 0 0,.int .i64 0,.slice none 0 0,.int .i64 (rd_T101 tl s1).f1] 34)).drew from
    ⟨(HI1.out.alloc _).drew,below_drew1 (below_alloc HB1.out _),(keep_alloc HK1.out _).trans (KeepBut.of_below (below_drew1 (Below.refl _ _)) g none) (.inl rfl),HB.out.size,HL.out,Nat.le_refl _,blk_lt HZ.out,blk_alloc HZ1.out _,blk_new _ _,Kd.R_nil _ _ _ _ _,Kd.R_nil _ _ _ _ _⟩)
  generalize (W0.alloc (.cells #[.string ⟨#[]⟩,.slice none 0 0,.int .i64 0,.slice none 0 0,.int .i64 (rd_T101 tl s1).f1] 34)).drew=W1 at HX ⊢
  clear hHeld hc0 hc1 hx2 p0_ q0_ HG HZ HI0 HB0 HK0 HZ1 HI1 HB1 HK1
  generalize hat:(rd_T101 tl s1).f1=at0 at HX ⊢
  have HAT:=aM hat
  clear hat
  generalize hbx:W0.heap.size=bx_ at HX ⊢
  go_wp2_with fail
  refine (r06_Reader_want.calls g tl _ _ _ _ _ (⟨#[102,117,110,99]⟩:ByteArray) _ _ _ _ _ w0 _ HX.out.i HX.out.b HA.out).mono ?_
  rintro e w1 ⟨rfl,hi_,hb_,hk_⟩
  have HX1:=aM (HX.out.call hi_ hb_ hk_)
  clear hi_ hb_ hk_
  go_wp2_with fail
  refine (r06_Reader_name.calls k g tl _ _ _ _ _ _ _ _ _ _ _ w0 _ HX1.out.i HX1.out.b HM.out).mono ?_
  rintro e w2 ⟨rfl,hi_,hb_,hk_⟩
  have HX2:=aM (HX1.out.call hi_ hb_ hk_)
  clear hi_ hb_ hk_
  have cc:=HX2.out.at1 0
  have ff:=blk_frozen HX2.out.box 0
  simp only [fObj] at cc
  have HX3:=aM (HX2.out.put ⟨m0,[],0,[],at0⟩ 0 (.string m0) rfl rfl rfl)
  go_upto_region 4 with (fail)
  generalize w2.setCell ⟨bx_,0,none⟩ (.string m0)=W3 at HX3 ⊢
  clear cc ff HX HX1 HX2
  go_wp2_with fail
  refine (r06_Reader_want.calls g tl _ _ _ _ _ (⟨#[40]⟩:ByteArray) _ _ _ _ _ w0 _ HX3.out.i HX3.out.b HBB.out).mono ?_
  rintro e w4 ⟨rfl,hi_,hb_,hk_⟩
  have HX4:=aM (HX3.out.call hi_ hb_ hk_)
  clear hi_ hb_ hk_
  go_wp2
  (try simp only [Act.put,qA,qB,qC])
  clear HX3
  go_loopg [] k (fun kq w'=>∃ (ps:List Int) (v1:Value) (t1 t2 t3 t4 t5:Int),Aside0 (rfpLoop kq tl ps t1 t2 t3 t4 t5=some (c0,c1,c2,c3,c4,c5))∧Aside0 (kq≤k)∧Aside0 (FXAt g w.heap.size bx_ #[.string ⟨#[]⟩,.slice none 0 0,.int .i64 0,.slice none 0 0,.int .i64 0] tl ⟨m0,ps,0,[],at0⟩ v1 (.slice none 0 0) t1 t2 t3 t4 t5 w0 w w'))
  case atStart=>exact ⟨_,_,_,_,_,_,_,⟨HC.out⟩,⟨Nat.le_refl _⟩,⟨HX4.out⟩⟩
  case round=>
    clear HX4
    obtain ⟨ps,v1,t1,t2,t3,t4,t5,HLO,HKQ,HX⟩:=hrel
    obtain ⟨A1,cP,e1_⟩:=Kd.R_slice HX.out.r1
    subst e1_
    cases gk with
    | zero=>exact absurd HLO.out (by simp [rfpLoop])
    | succ k1=>
      have hl:=HLO.out
      simp only [rfpLoop] at hl
      obtain ⟨⟨c,u1,u2,u3,u4,u5⟩,hc,hl⟩:=Option.bind_eq_some_iff.mp hl
      have HC_:=aM hc
      have HN:=aM hl
      clear hc hl HLO
      go_upto_region 5 with (fail)
      go_cut [35] (fun vb wc=>vb=.bool c∧Aside0 (FXAt g w.heap.size bx_ #[.string ⟨#[]⟩,.slice none 0 0,.int .i64 0,.slice none 0 0,.int .i64 0] tl ⟨m0,ps,0,[],at0⟩ (.slice A1 ps.length cP) (.slice none 0 0) u1 u2 u3 u4 u5 w0 w wc))
      case first=>
        have hc:=HC_.out
        have hc4:=HX.out.code
        unfold rfpTest at hc
        by_cases z:t4=0
        · rw [if_pos z] at hc
          have z1:(t4==0)=true:=beq_iff_eq.mpr z
          obtain ⟨⟨p0,p1,p2,p3,p4,p5⟩,hp,hc⟩:=Option.bind_eq_some_iff.mp hc
          have HP_:=aM hp
          obtain ⟨rfl,rfl,rfl,rfl,rfl,rfl⟩:(p0.toList !=([41]:List UInt8))=c∧p1=u1∧p2=u2∧p3=u3∧p4=u4∧p5=u5:=by simpa using hc
          clear z hp hc
          go_wp2_with fail
          refine (r06_Reader_peek.calls g tl _ _ _ _ _ 0 _ _ _ _ _ _ w0 _ HX.out.i HX.out.b HP_.out).mono ?_
          rintro e w5 ⟨rfl,hi_,hb_,hk_⟩
          have HX1:=aM (HX.out.call hi_ hb_ hk_)
          clear hi_ hb_ hk_
          go_wp2_with fail
          go_meet
          exact ⟨rfl,HX1⟩
        · rw [if_neg z] at hc
          have z1:(t4==0)=false:=beq_eq_false_iff_ne.mpr z
          obtain ⟨rfl,rfl,rfl,rfl,rfl,rfl⟩:false=c∧t1=u1∧t2=u2∧t3=u3∧t4=u4∧t5=u5:=by simpa using hc
          clear z hc
          go_wp2_with fail
          go_meet
          exact ⟨rfl,HX⟩
      case rest=>
        clear HX HC_
        obtain ⟨rfl,HX⟩:=hcut
        have hl:=HN.out
        clear HN
        cases c with
        | true=>
          rw [if_pos rfl] at hl
          obtain ⟨⟨g0,g1,g2,g3,g4,g5⟩,hp,hl⟩:=Option.bind_eq_some_iff.mp hl
          obtain ⟨ty,hty,hl⟩:=Option.bind_eq_some_iff.mp hl
          obtain ⟨⟨i1,i2,i3,i4,i5⟩,hi,hl⟩:=Option.bind_eq_some_iff.mp hl
          obtain ⟨⟨j1,j2,j3,j4,j5⟩,hj,hl⟩:=Option.bind_eq_some_iff.mp hl
          by_cases hlen:ps.length<1000000000000
          rotate_left
          · rw [if_neg hlen] at hl
            cases hl
          rw [if_pos hlen] at hl
          have HG_:=aM hp
          have HTY:=aM hty
          have HI_:=aM hi
          have HJ_:=aM hj
          have HLN:=aM hlen
          have HNX:=aM hl
          clear hp hty hi hj hlen hl
          go_wp2_with fail
          refine (r06_Reader_peek.calls g tl _ _ _ _ _ 0 _ _ _ _ _ _ w0 _ HX.out.i HX.out.b HG_.out).mono ?_
          rintro e w5 ⟨rfl,hi_,hb_,hk_⟩
          have HX1:=aM (HX.out.call hi_ hb_ hk_)
          clear hi_ hb_ hk_
          go_wp2_with fail
          refine (r06_kind.calls g0 ty _ HTY.out).mono ?_
          rintro e w6 ⟨rfl,⟨nd,rfl⟩⟩
          have HX2:=aM (HX1.out.below (pw_below_drewN (Below.refl _ _) nd))
          clear HX HX1
          go_upto_if 40 with (fail)
          (try simp only [Act.put,qA,qB,qC])
          go_cut [] (fun wc=>Aside0 (FXAt g w.heap.size bx_ #[.string ⟨#[]⟩,.slice none 0 0,.int .i64 0,.slice none 0 0,.int .i64 0] tl ⟨m0,ps,0,[],at0⟩ (.slice A1 ps.length cP) (.slice none 0 0) i1 i2 i3 i4 i5 w0 w wc))
          case first=>
            have hb:=HI_.out
            by_cases z:ty<1
            · rw [if_pos z] at hb
              have z1:decide (ty<1)=true:=decide_eq_true (by first | exact z | omega)
              have HY:=aM hb
              clear z hb
              rw [z1]
              go_wp2_with fail
              refine (r06_Reader_fail.calls g tl _ _ _ _ _ 9 _ _ _ _ _ w0 _ HX2.out.i HX2.out.b HY.out).mono ?_
              rintro e wf ⟨rfl,hi_,hb_,hk_⟩
              have HX_:=aM (HX2.out.call hi_ hb_ hk_)
              clear hi_ hb_ hk_
              go_wp2_with fail
              go_meet
              exact HX_
            · rw [if_neg z] at hb
              have z1:decide (ty<1)=false:=decide_eq_false (by first | exact z | omega)
              obtain ⟨rfl,rfl,rfl,rfl,rfl⟩:g1=i1∧g2=i2∧g3=i3∧g4=i4∧g5=i5:=by simpa using hb
              clear z hb
              rw [z1]
              go_wp2_with fail
              go_meet
              exact HX2
          case rest=>
            clear HX2 HI_
            have HX:=hcut
            clear hcut
            have cc:=HX.out.at1 1
            simp only [fObj] at cc
            go_upto_if 46 with (fail)
            (try simp only [Act.put,qA,qB,qC])
            go_cut [] (fun wc=>Aside0 (FXAt g w.heap.size bx_ #[.string ⟨#[]⟩,.slice none 0 0,.int .i64 0,.slice none 0 0,.int .i64 0] tl ⟨m0,ps,0,[],at0⟩ (.slice A1 ps.length cP) (.slice none 0 0) j1 j2 j3 j4 j5 w0 w wc))
            case first=>
              have hb:=HJ_.out
              by_cases z:ps.length≥8
              · rw [if_pos z] at hb
                have z1:decide (8≤(ps.length:Int))=true:=decide_eq_true (by first | exact z | omega)
                have HY:=aM hb
                clear z hb
                rw [z1]
                go_wp2_with fail
                refine (r06_Reader_fail.calls g tl _ _ _ _ _ 6 _ _ _ _ _ w0 _ HX.out.i HX.out.b HY.out).mono ?_
                rintro e wf ⟨rfl,hi_,hb_,hk_⟩
                have HX_:=aM (HX.out.call hi_ hb_ hk_)
                clear hi_ hb_ hk_
                go_wp2_with fail
                go_meet
                exact HX_
              · rw [if_neg z] at hb
                have z1:decide (8≤(ps.length:Int))=false:=decide_eq_false (by first | exact z | omega)
                obtain ⟨rfl,rfl,rfl,rfl,rfl⟩:i1=j1∧i2=j2∧i3=j3∧i4=j4∧i5=j5:=by simpa using hb
                clear z hb
                rw [z1]
                go_wp2_with fail
                go_meet
                exact HX
            case rest=>
              clear HX HJ_ cc
              have HX:=hcut
              clear hcut
              have cc:=HX.out.at1 1
              simp only [fObj] at cc
              go_upto_region 12 with (first | ((with_reducible refine gate_builtin (b:=.append) (xs:=#[.tmp 50,.tmp 52]) rfl ?_);at_builtin;refine Kd.R_append (Kd.int .i64) w.heap.size rfl (.tmp 50) (.tmp 52) 31 3 (.int .i64 0) 8 rfl Try.underlying31 (by kernel_rfl) rfl (by decide) (by omega) (.slice A1 ps.length cP) ps ty [.int .i64 ty] (fun _=>True) (fun k=>True∧some k≠(Value.slice A1 ps.length cP).ownBlock) rfl rfl rfl (fun k hk=>⟨trivial,hk.2⟩) (fun k hk=>trivial) HX.out.r1 (Below.refl _ _) (keep_size HX.out.k) (by have:=HLN.out;omega) ?_;intro v1 w4_ hr4 hb4 hg4 hv4;obtain ⟨A6,c6,e6⟩:=Kd.R_slice hr4;rw [List.length_append,List.length_singleton] at e6;subst e6;have HX9:=aM (HX.out.app HX.out.r1 (by decide) hg4 ⟨m0,ps++[ty],0,[],at0⟩ 1 _ rfl hr4 (Kd.R_nil _ _ _ _ _));have B4:=(hg4.block bx_ (blk_lt HX.out.box) (Kd.R_ne HX.out.r1 HX.out.box (by decide))).trans HX.out.box;have c4_:=blk_cell B4 1;have f4_:=blk_frozen B4 1;clear hr4 hb4 hg4 hv4 B4))
              clear c4_ f4_ cc HX
              generalize w4_.setCell ⟨bx_,1,none⟩ (.slice A6 (ps.length+1) c6)=W8 at HX9 ⊢
              obtain ⟨hc1,hf1⟩:=HX9.out.where_
              have HXa:=aM (HX9.out.set1 (wrap64 (j1+1)))
              go_wp2_with fail
              go_roundg k1
              case measure=>have:=HKQ.out;omega
              case rel=>exact ⟨_,_,_,_,_,_,_,⟨HNX.out⟩,⟨by have:=HKQ.out;omega⟩,⟨HXa.out⟩⟩
        | false=>
          rw [if_neg (by simp)] at hl
          obtain ⟨rfl,rfl,rfl,rfl,rfl,rfl⟩:ps=c0∧u1=c1∧u2=c2∧u3=c3∧u4=c4∧u5=c5:=by simpa using hl
          clear hl
          go_wp2_with fail
          refine (r06_Reader_want.calls g tl _ _ _ _ _ (⟨#[41]⟩:ByteArray) _ _ _ _ _ w0 _ HX.out.i HX.out.b HDD.out).mono ?_
          rintro e w5 ⟨rfl,hi_,hb_,hk_⟩
          have HX1:=aM (HX.out.call hi_ hb_ hk_)
          clear hi_ hb_ hk_
          go_wp2_with fail
          refine (r06_Reader_peek.calls g tl _ _ _ _ _ 0 _ _ _ _ _ _ w0 _ HX1.out.i HX1.out.b HP.out).mono ?_
          rintro e w6 ⟨rfl,hi_,hb_,hk_⟩
          have HX2:=aM (HX1.out.call hi_ hb_ hk_)
          clear hi_ hb_ hk_
          go_wp2_with fail
          refine (r06_kind.calls p0 t _ HT.out).mono ?_
          rintro e w7 ⟨rfl,⟨nd,rfl⟩⟩
          have HX3:=aM (HX2.out.below (pw_below_drewN (Below.refl _ _) nd))
          have cc:=HX3.out.at1 2
          have ff:=blk_frozen HX3.out.box 2
          simp only [fObj] at cc
          have HX4:=aM (HX3.out.put ⟨m0,ps,t,[],at0⟩ 2 (.int .i64 t) rfl rfl rfl)
          go_upto_region 15 with (fail)
          generalize (w6.drewN nd).setCell ⟨bx_,2,none⟩ (.int .i64 t)=W7 at HX4 ⊢
          clear cc ff HX HX1 HX2 HX3
          have cc:=HX4.out.at1 2
          simp only [fObj] at cc
          go_upto_if 71 with (fail)
          (try simp only [Act.put,qA,qB,qC])
          go_cut [] (fun wc=>Aside0 (FXAt g w.heap.size bx_ #[.string ⟨#[]⟩,.slice none 0 0,.int .i64 0,.slice none 0 0,.int .i64 0] tl ⟨m0,ps,t,[],at0⟩ (.slice A1 ps.length cP) (.slice none 0 0) q1 q2 q3 q4 q5 w0 w wc))
          case first=>
            have hb:=HQ.out
            by_cases z:t<0
            · rw [if_pos z] at hb
              have z1:decide (t<0)=true:=decide_eq_true (by first | exact z | omega)
              have HY:=aM hb
              clear z hb
              rw [z1]
              go_wp2_with fail
              refine (r06_Reader_fail.calls g tl _ _ _ _ _ 9 _ _ _ _ _ w0 _ HX4.out.i HX4.out.b HY.out).mono ?_
              rintro e wf ⟨rfl,hi_,hb_,hk_⟩
              have HX_:=aM (HX4.out.call hi_ hb_ hk_)
              clear hi_ hb_ hk_
              go_wp2_with fail
              go_meet
              exact HX_
            · rw [if_neg z] at hb
              have z1:decide (t<0)=false:=decide_eq_false (by first | exact z | omega)
              obtain ⟨rfl,rfl,rfl,rfl,rfl⟩:p1=q1∧p2=q2∧p3=q3∧p4=q4∧p5=q5:=by simpa using hb
              clear z hb
              rw [z1]
              go_wp2_with fail
              go_meet
              exact HX4
          case rest=>
            clear HX4 HQ cc
            have HX:=hcut
            clear hcut
            obtain ⟨hc1,hf1⟩:=HX.out.where_
            have HX1:=aM (HX.out.set1 (wrap64 (q1+1)))
            go_upto_region 18 with (fail)
            generalize wc.setCell ⟨g,1,none⟩ (.int .i64 (wrap64 (q1+1)))=W8 at HX1 ⊢
            clear hc1 hf1 HX
            go_wp2_with fail
            refine (r06_Reader_want.calls g tl _ _ _ _ _ (⟨#[123]⟩:ByteArray) _ _ _ _ _ w0 _ HX1.out.i HX1.out.b HO.out).mono ?_
            rintro e w8 ⟨rfl,hi_,hb_,hk_⟩
            have HX2:=aM (HX1.out.call hi_ hb_ hk_)
            clear hi_ hb_ hk_
            go_wp2
            (try simp only [Act.put,qA,qB,qC])
            clear HX1
            go_loopg [] k (fun kq w'=>∃ (bl:List (List (S39))) (v3:Value) (t1 t2 t3 t4 t5:Int),Aside0 (rfbLoop kq tl bl t1 t2 t3 t4 t5=some (l0,l1,l2,l3,l4,l5))∧Aside0 (kq≤k)∧Aside0 (FXAt g w.heap.size bx_ #[.string ⟨#[]⟩,.slice none 0 0,.int .i64 0,.slice none 0 0,.int .i64 0] tl ⟨m0,ps,t,bl,at0⟩ (.slice A1 ps.length cP) v3 t1 t2 t3 t4 t5 w0 w w'))
            case atStart=>exact ⟨_,_,_,_,_,_,_,⟨HLL.out⟩,⟨Nat.le_refl _⟩,⟨HX2.out⟩⟩
            case round=>
              clear HX2
              obtain ⟨bl,v3,t1,t2,t3,t4,t5,HLO,HKQ,HX⟩:=hrel
              obtain ⟨A3,cB,e3_⟩:=Kd.R_slice HX.out.r3
              subst e3_
              cases gk with
              | zero=>exact absurd HLO.out (by simp [rfbLoop])
              | succ k1=>
                have hl:=HLO.out
                simp only [rfbLoop] at hl
                obtain ⟨⟨c,u1,u2,u3,u4,u5⟩,hc,hl⟩:=Option.bind_eq_some_iff.mp hl
                have HC_:=aM hc
                have HN:=aM hl
                clear hc hl HLO
                go_upto_region 19 with (fail)
                go_cut [94] (fun vb wc=>vb=.bool c∧Aside0 (FXAt g w.heap.size bx_ #[.string ⟨#[]⟩,.slice none 0 0,.int .i64 0,.slice none 0 0,.int .i64 0] tl ⟨m0,ps,t,bl,at0⟩ (.slice A1 ps.length cP) (.slice A3 bl.length cB) u1 u2 u3 u4 u5 w0 w wc))
                case first=>
                  have hc:=HC_.out
                  have hc4:=HX.out.code
                  unfold rfpTest at hc
                  by_cases z:t4=0
                  · rw [if_pos z] at hc
                    have z1:(t4==0)=true:=beq_iff_eq.mpr z
                    obtain ⟨⟨p0,p1,p2,p3,p4,p5⟩,hp,hc⟩:=Option.bind_eq_some_iff.mp hc
                    have HP_:=aM hp
                    obtain ⟨rfl,rfl,rfl,rfl,rfl,rfl⟩:(p0.toList !=([125]:List UInt8))=c∧p1=u1∧p2=u2∧p3=u3∧p4=u4∧p5=u5:=by simpa using hc
                    clear z hp hc
                    go_wp2_with fail
                    refine (r06_Reader_peek.calls g tl _ _ _ _ _ 0 _ _ _ _ _ _ w0 _ HX.out.i HX.out.b HP_.out).mono ?_
                    rintro e w5 ⟨rfl,hi_,hb_,hk_⟩
                    have HX1:=aM (HX.out.call hi_ hb_ hk_)
                    clear hi_ hb_ hk_
                    go_wp2_with fail
                    go_meet
                    exact ⟨rfl,HX1⟩
                  · rw [if_neg z] at hc
                    have z1:(t4==0)=false:=beq_eq_false_iff_ne.mpr z
                    obtain ⟨rfl,rfl,rfl,rfl,rfl,rfl⟩:false=c∧t1=u1∧t2=u2∧t3=u3∧t4=u4∧t5=u5:=by simpa using hc
                    clear z hc
                    go_wp2_with fail
                    go_meet
                    exact ⟨rfl,HX⟩
                case rest=>
                  clear HX HC_
                  obtain ⟨rfl,HX⟩:=hcut
                  have hl:=HN.out
                  clear HN
                  cases c with
                  | false=>
                    rw [if_neg (by simp)] at hl
                    obtain ⟨rfl,rfl,rfl,rfl,rfl,rfl⟩:bl=l0∧u1=l1∧u2=l2∧u3=l3∧u4=l4∧u5=l5:=by simpa using hl
                    clear hl
                    go_wp2_with fail
                    refine (r06_Reader_want.calls g tl _ _ _ _ _ (⟨#[125]⟩:ByteArray) _ _ _ _ _ w0 _ HX.out.i HX.out.b HE.out).mono ?_
                    rintro e w9 ⟨rfl,hi_,hb_,hk_⟩
                    have HX9:=aM (HX.out.call hi_ hb_ hk_)
                    clear hi_ hb_ hk_
                    have c_0:=HX9.out.at1 0
                    have f_0:=blk_frozen HX9.out.box 0
                    have d_0:=blk_cell HX9.out.zero 0
                    have e_0:=blk_frozen HX9.out.zero 0
                    have c_1:=HX9.out.at1 1
                    have f_1:=blk_frozen HX9.out.box 1
                    have d_1:=blk_cell HX9.out.zero 1
                    have e_1:=blk_frozen HX9.out.zero 1
                    have c_2:=HX9.out.at1 2
                    have f_2:=blk_frozen HX9.out.box 2
                    have d_2:=blk_cell HX9.out.zero 2
                    have e_2:=blk_frozen HX9.out.zero 2
                    have c_3:=HX9.out.at1 3
                    have f_3:=blk_frozen HX9.out.box 3
                    have d_3:=blk_cell HX9.out.zero 3
                    have e_3:=blk_frozen HX9.out.zero 3
                    have c_4:=HX9.out.at1 4
                    have f_4:=blk_frozen HX9.out.box 4
                    have d_4:=blk_cell HX9.out.zero 4
                    have e_4:=blk_frozen HX9.out.zero 4
                    have HF:=aM (((((HX9.out.setz 0 (.string m0)).setz 1 (.slice A1 ps.length cP)).setz 2 (.int .i64 t)).setz 3 (.slice A3 bl.length cB)).setz 4 (.int .i64 at0))
                    have hne:w.heap.size≠bx_:=by have:=HX9.out.lt;omega
                    have hne':bx_≠w.heap.size:=by have:=HX9.out.lt;omega
                    simp only [fObj] at c_0 c_1 c_2 c_3 c_4
                    clear HX HX9
                    go_wp2
                    refine bodyPost_ret (results_cell_row rfl _ _ w.heap.size 34 #[.string m0,.slice A1 ps.length cP,.int .i64 t,.slice A3 bl.length cB,.int .i64 at0] (0,0) _ rfl HF.out.zero Try.underlying34 rfl (by kernel_rfl)) rfl ?_
                    exact ⟨_,_,by rw [HAT.out],HF.out.r1,HF.out.r3,HF.out.i,HF.out.b,HF.out.k⟩
                  | true=>
                    rw [if_pos rfl] at hl
                    obtain ⟨⟨g0,g1,g2,g3,g4,g5⟩,hp,hl⟩:=Option.bind_eq_some_iff.mp hl
                    by_cases hlen:bl.length<1000000000000
                    rotate_left
                    · rw [if_neg hlen] at hl
                      cases hl
                    rw [if_pos hlen] at hl
                    have HG_:=aM hp
                    have HLN:=aM hlen
                    have HNX:=aM hl
                    clear hp hlen hl
                    have cc:=HX.out.at1 3
                    simp only [fObj] at cc
                    go_wp2_with fail
                    refine (r06_Reader_block.calls k1 g tl _ _ _ _ _ (bl.length:Int) _ _ _ _ _ _ w0 _ HX.out.i HX.out.b HG_.out).mono ?_
                    rintro e w5 ⟨vb,rfl,hrb,hi_,hb_,hk_⟩
                    obtain ⟨Ab,cb,rfl⟩:=Kd.R_slice hrb
                    have HX1:=aM (HX.out.call hi_ hb_ hk_)
                    have HRB:=aM (Kd.R_lower hrb (keep_size HX.out.k))
                    clear hi_ hb_ hk_ hrb cc
                    have cc:=HX1.out.at1 3
                    simp only [fObj] at cc
                    go_wp2_with (first | ((with_reducible refine gate_builtin (b:=.append) (xs:=#[.tmp 101,.tmp 103]) rfl ?_);at_builtin;refine Kd.R_append (Kd.slice 39 k39) w.heap.size rfl (.tmp 101) (.tmp 103) 32 36 (.slice none 0 0) 24 rfl Try.underlying32 (by kernel_rfl) rfl (by decide) (by omega) (.slice A3 bl.length cB) bl g0 [.slice Ab g0.length cb] (fun _=>True) (fun k=>True∧some k≠(Value.slice A3 bl.length cB).ownBlock) rfl rfl ⟨_,rfl,Kd.R_apart' HRB.out (Kd.R_typed HX1.out.r3) (by decide)⟩ (fun k hk=>⟨trivial,hk.2⟩) (fun k hk=>trivial) HX1.out.r3 (Below.refl _ _) (keep_size HX1.out.k) (by have:=HLN.out;omega) ?_;intro v1 w4_ hr4 hb4 hg4 hv4;obtain ⟨A6,c6,e6⟩:=Kd.R_slice hr4;rw [List.length_append,List.length_singleton] at e6;subst e6;have HX9:=aM (HX1.out.app HX1.out.r3 (by decide) hg4 ⟨m0,ps,t,bl++[g0],at0⟩ 3 _ rfl (Kd.R_over' HX1.out.r1 (Kd.R_typed HX1.out.r3) (by decide) hg4) hr4);have B4:=(hg4.block bx_ (blk_lt HX1.out.box) (Kd.R_ne HX1.out.r3 HX1.out.box (by decide))).trans HX1.out.box;have c4_:=blk_cell B4 3;have f4_:=blk_frozen B4 3;clear hr4 hb4 hg4 hv4 B4))
                    go_roundg k1
                    case measure=>have:=HKQ.out;omega
                    case rel=>exact ⟨_,_,_,_,_,_,_,⟨HNX.out⟩,⟨by have:=HKQ.out;omega⟩,⟨HX9.out⟩⟩
end Go.Proofs.Ytkjdblbgmomieaa.PSh
end
-- from YtkjdblbgmomieaaPNum
section
namespace Go.Proofs.Ytkjdblbgmomieaa.PSh
open Go.RowKit Go.Proofs.YtkjdblbgmomieaaW.PrintWords Go.Proofs.YtkjdblbgmomieaaW.PrintLast Go.Proofs.YtkjdblbgmomieaaW.PrintMore Go.Proofs.Ytkjdblbgmomieaa.Str Go.Proofs.Ytkjdblbgmomieaa.Dig Go.Proofs.Ytkjdblbgmomieaa.DigLaw
set_option linter.unusedVariables false
set_option linter.unusedSimpArgs false
theorem phi_num (en:Int):∀ (m:Nat) (xa xt:List Int) (ts:List Tk) (q:List Int × List Int × List Tk),phiP en m xa xt ts=.ok q→q.1.length≤xa.length+ts.length∧q.2.1.length≤xt.length+ts.length
  | 0,_,_,_,_,h=>by cases h
  | m+1,xa,xt,ts,q,h=>by
    simp only [phiP] at h
    split at h
    · obtain ⟨⟨b,t1⟩,hb,h⟩:=bind_inv h
      obtain ⟨⟨v,t2⟩,hv,h⟩:=bind_inv h
      have h1:=(indexP_ok hb).2
      have h2:=(indexP_ok hv).2
      have h3:=phi_num en m _ _ _ _ h
      simp only at h1 h2
      simp at h3
      omega
    · cases h;simp
theorem args_num (en:Int):∀ (m:Nat) (xa:List Int) (ts:List Tk) (q:List Int × List Tk),argsP en m xa ts=.ok q→q.1.length≤xa.length+ts.length
  | 0,_,_,_,h=>by cases h
  | m+1,xa,ts,q,h=>by
    simp only [argsP] at h
    split at h
    · obtain ⟨⟨v,t2⟩,hv,h⟩:=bind_inv h
      have h2:=(indexP_ok hv).2
      have h3:=args_num en m _ _ _ h
      simp at h3
      omega
    · cases h;simp
theorem take_num (en:Int):∀ (m:Nat) (xa:List Int) (ts:List Tk) (q:List Int × List Tk),takeP en m xa ts=.ok q→q.1.length≤xa.length+ts.length
  | 0,_,_,_,h=>by simp only [takeP] at h;cases h;simp
  | m+1,xa,ts,q,h=>by
    simp only [takeP] at h
    obtain ⟨⟨v,t2⟩,hv,h⟩:=bind_inv h
    have h2:=(indexP_ok hv).2
    have h3:=take_num en m _ _ _ h
    simp at h3
    omega
def Few (L:Nat) (x:SI):Prop:=x.f4.length≤L∧x.f5.length≤L
theorem call_num {en:Int} {ts:List Tk} {q:OpR × List Tk} (h:callP en ts=.ok q):q.1.xa.length≤ts.length+2∧q.1.xt.length≤ts.length+2:=by
  unfold callP at h
  obtain ⟨i,hi,h⟩:=bind_inv h
  obtain ⟨m,hm,h⟩:=bind_inv h
  obtain ⟨a,ha,h⟩:=bind_inv h
  cases h
  have h1:=args_num _ _ _ _ _ ha
  have h2:=(nameP_ok hm).2.2
  have h3:=tail_le i.2
  rw [← h2] at h3
  have h4:i.2.length≤ts.length:=by
    split at hi
    · exact index_le hi
    · cases hi;exact Nat.le_refl _
  simp at h1 ⊢
  omega
theorem oper_num {en op:Int} {ts:List Tk} {q:OpR × List Tk} (h:operP en op ts=.ok q):q.1.xa.length≤ts.length+2∧q.1.xt.length≤ts.length+2:=by
  unfold operP at h
  by_cases k0:op=1
  · rw [if_pos k0] at h
    obtain ⟨a,ha,h⟩:=bind_inv h
    cases h;simp
  rw [if_neg k0] at h
  by_cases k1:op=10
  · rw [if_pos k1] at h
    split at h
    · cases h;simp
    · cases h
  rw [if_neg k1] at h
  by_cases k2:op=11∨op=12∨op=15
  · rw [if_pos k2] at h
    obtain ⟨a,ha,h⟩:=bind_inv h
    obtain ⟨b,hb,h⟩:=bind_inv h
    cases h;simp
  rw [if_neg k2] at h
  by_cases k3:op=13∨op=14
  · rw [if_pos k3] at h
    obtain ⟨a,ha,h⟩:=bind_inv h
    obtain ⟨b,hb,h⟩:=bind_inv h
    obtain ⟨c,hc,h⟩:=bind_inv h
    cases h;simp
  rw [if_neg k3] at h
  by_cases k4:op=20
  · rw [if_pos k4] at h
    obtain ⟨a,ha,h⟩:=bind_inv h
    have h1:=phi_num _ _ _ _ _ _ ha
    cases h
    simp at h1 ⊢
    omega
  rw [if_neg k4] at h
  by_cases k5:op=21
  · rw [if_pos k5] at h;exact call_num h
  rw [if_neg k5] at h
  by_cases k6:op=23
  · rw [if_pos k6] at h
    obtain ⟨a,ha,h⟩:=bind_inv h
    cases h;simp
  rw [if_neg k6] at h
  by_cases k7:op=24
  · rw [if_pos k7] at h
    obtain ⟨a,ha,h⟩:=bind_inv h
    obtain ⟨b,hb,h⟩:=bind_inv h
    cases h;simp
  rw [if_neg k7] at h
  by_cases k8:op=26
  · rw [if_pos k8] at h
    obtain ⟨a,ha,h⟩:=bind_inv h
    cases h;simp
  rw [if_neg k8] at h
  by_cases k9:op=27
  · rw [if_pos k9] at h
    obtain ⟨a,ha,h⟩:=bind_inv h
    obtain ⟨b,hb,h⟩:=bind_inv h
    obtain ⟨c,hc,h⟩:=bind_inv h
    cases h;simp
  rw [if_neg k9] at h
  by_cases k10:op=28
  · rw [if_pos k10] at h
    split at h
    · obtain ⟨a,ha,h⟩:=bind_inv h
      cases h;simp
    · cases h;simp
  rw [if_neg k10] at h
  by_cases k11:op=29
  · rw [if_pos k11] at h
    obtain ⟨a,ha,h⟩:=bind_inv h
    cases h;simp
  rw [if_neg k11] at h
  obtain ⟨a,ha,h⟩:=bind_inv h
  have h1:=take_num _ _ _ _ _ ha
  cases h
  simp at h1 ⊢
  omega
theorem instr_num {en:Int} {ts:List Tk} {q:SI × List Tk} {L:Nat} (h:instrP en ts=.ok q) (hL:ts.length+2≤L):Few L q.1:=by
  unfold instrP at h
  obtain ⟨i,hi,h⟩:=bind_inv h
  split at h
  · cases h
  split at h
  · cases h
  obtain ⟨r,hr,h⟩:=bind_inv h
  cases h
  have h1:=oper_num hr
  have h2:=idP_len hi
  have h3:=tail_le i.2
  exact ⟨by show r.1.xa.length≤L;omega,by show r.1.xt.length≤L;omega⟩
theorem code_num {L:Nat} (en:Int):∀ (m:Nat) (acc:List SI) (n:Int) (ts:List Tk) (q:List SI × Int × List Tk),codeP en m acc n ts=.ok q→ts.length+2≤L→(∀ x∈acc,Few L x)→(∀ x∈q.1,Few L x)∧q.1.length≤acc.length+ts.length∧q.2.2.length≤ts.length
  | 0,_,_,_,_,h,_,_=>by cases h
  | m+1,acc,n,ts,q,h,hL,ha=>by
    simp only [codeP] at h
    split at h
    · split at h
      · cases h
      · obtain ⟨x,hx,h⟩:=bind_inv h
        have h1:=instr_num hx hL
        have h2:=instrP_len hx
        have h3:=code_num (L:=L) en m _ _ _ _ h (by omega) (fun y hy=>by
          rcases List.mem_append.mp hy with hy | hy
          · exact ha y hy
          · rw [List.mem_singleton.mp hy];exact h1)
        refine ⟨h3.1,?_,by omega⟩
        have:=h3.2.1
        simp at this
        omega
    · cases h;exact ⟨ha,by simp,by simp⟩
def FewB (L:Nat) (b:List SI):Prop:=b.length≤L∧∀ x∈b,Few L x
theorem block_num {en k n:Int} {L:Nat} {ts:List Tk} {q:List SI × Int × List Tk} (h:blockP en k n ts=.ok q) (hL:ts.length+2≤L):FewB L q.1∧q.2.2.length≤ts.length∧k<256:=by
  unfold blockP at h
  split at h
  · cases h
  split at h
  · obtain ⟨u,hu,h⟩:=bind_inv h
    have h2:=(wantP_ok hu).2
    have h3:=tail_le ts.tail
    have h4:=tail_le ts
    subst h2
    have h1:=code_num _ _ _ _ _ _ h (L:=L) (by omega) (fun _ h=>by cases h)
    refine ⟨⟨?_,h1.1⟩,by omega,by omega⟩
    have:=h1.2.1
    simp at this
    omega
  · cases h
end Go.Proofs.Ytkjdblbgmomieaa.PSh
end
