import Derived.Test.YtkjdblbgmomieaaMr26
import Derived.Test.YtkjdblbgmomieaaMr19
import Derived.Test.YtkjdblbgmomieaaMr20
-- from YtkjdblbgmomieaaPStand
section
namespace Go.Proofs.Ytkjdblbgmomieaa.PSh
open Go.RowKit Go.Proofs.YtkjdblbgmomieaaW.PrintWords Go.Proofs.YtkjdblbgmomieaaW.PrintLast Go.Proofs.YtkjdblbgmomieaaW.PrintMore Go.Proofs.Ytkjdblbgmomieaa.Str Go.Proofs.Ytkjdblbgmomieaa.Dig Go.Proofs.Ytkjdblbgmomieaa.DigLaw
set_option linter.unusedVariables false
set_option linter.unusedSimpArgs false
section
variable {en : Int} {ts : List Tk}
end
theorem stand_lt {s:ByteArray}:∀ {l:List Tok} {a b:Int},Stand s a l b→∀ t∈l,a≤t.f1∧t.f1<s.size:=by
  intro l
  induction l with
  | nil=>intro a b _ t ht;cases ht
  | cons x l ih=>
    intro a b h t ht
    rcases List.mem_cons.mp ht with rfl | ht
    · exact ⟨h.1,by have:=h.2.1;have:=h.2.2.1;omega⟩
    · have:=ih h.2.2.2.2 t ht
      exact ⟨by have:=h.1;omega,this.2⟩
theorem split_facts {s:ByteArray} (hs:s.size≤65536):fewT (splitL s).1=true∧(((splitL s).2.1=0∧Bd (s.size:Int) (splitL s).1)∨((splitL s).2.1=1∧0≤(splitL s).2.2∧(splitL s).2.2<s.size)):=by
  have hsp:splitL s=splitGo s s.data.toList 0 (-1) false []:=if_neg (by omega)
  rw [hsp]
  obtain ⟨r1,r2,r3,hq⟩:∃ r1 r2 r3,splitGo s s.data.toList 0 (-1) false []=(r1,r2,r3):=⟨_,_,_,rfl⟩
  have h:=split_stand s s.data.toList 0 (-1) false [] 0 r1 r2 r3 (by simp) (by omega) (Int.le_refl 0) (.inl ⟨rfl,by omega⟩) hq
  rw [hq]
  rcases h with ⟨h1,h2⟩ | ⟨h1,h2,h3,h4⟩
  · have hl:=stand_len h2
    refine ⟨?_,.inl ⟨h1,by omega,fun t ht=>?_⟩⟩
    · unfold fewT
      rw [Bool.and_eq_true,decide_eq_true_iff,List.all_eq_true]
      exact ⟨by simp only;omega,fun t ht=>decide_eq_true (by have:=(stand_in h2 t ht).2;omega)⟩
    · exact stand_lt h2 t ht
  · refine ⟨?_,.inr ⟨h1,h3,h4⟩⟩
    rw [h2];rfl
end Go.Proofs.Ytkjdblbgmomieaa.PSh
end
-- from YtkjdblbgmomieaaRSimL
section
namespace Go.Proofs.Ytkjdblbgmomieaa.PSh
open Go.Proofs.Ytkjdblbgmomieaa.LiSplit Go.RowKit Go.Proofs.YtkjdblbgmomieaaW.PrintWords Go.Proofs.YtkjdblbgmomieaaW.PrintLast Go.Proofs.YtkjdblbgmomieaaW.PrintMore Go.Proofs.Ytkjdblbgmomieaa.Str Go.Proofs.Ytkjdblbgmomieaa.Dig Go.Proofs.Ytkjdblbgmomieaa.DigLaw
set_option linter.unusedVariables false
set_option linter.unusedSimpArgs false
section
variable {tl : List Tk} {en n : Int}
def RvT (tl:List Tk) (en:Int) (x:PE (List SF)) (o:List SF × ST5):Prop:=match x with
  | .ok a=>o.1=a∧o.2.2.2.2=(0,0)
  | .error q=>Rp tl en 0 (.error q) o.2
theorem text_dead (acc:List SF) {q:Int × Int} {s:ST5} (h:Rp tl en n (.error q) s):Ev (fun k=>rtLoop k tl acc s.1 s.2.1 s.2.2.1 s.2.2.2.1 s.2.2.2.2) (acc,s):=by
  refine Ev.step (f:=fun _=>some (acc,s)) (fun k=>?_) (Ev.now _)
  simp only [rtLoop]
  rw [if_neg (fun e=>h.dead e.1)]
theorem text_live (hl:tl.length≤500000) (ht:∀ t∈tl,t.f0.size≤65536):∀ (m:Nat) (acc:List SF) (n:Int) (ts:List Tk) (s1:Int),ts.length<m→0≤n→n≤4096→Rp tl en n (.ok ts) (s1,en,n,0,0)→∃ o,Ev (fun k=>rtLoop k tl acc s1 en n 0 0) o∧RvT tl en (textP en m acc n ts) o
  | 0,_,_,_,_,h,_,_,_=>absurd h (by omega)
  | m+1,acc,n,ts,s1,hm,hn0,hn1,h=>by
    have hd:=drop_facts h.1 h.2.2.2.1
    simp only at hd
    simp only [textP]
    by_cases c0:ts=[]
    · rw [if_pos c0]
      refine ⟨(acc,s1,en,n,0,0),Ev.step (f:=fun _=>some (acc,s1,en,n,(0:Int),(0:Int))) (fun k=>?_) (Ev.now _),rfl,rfl⟩
      simp only [rtLoop]
      rw [if_neg (fun e=>by have:=hd.1 c0;have:=e.2;omega)]
    rw [if_neg c0]
    have hlt:s1<(tl.length:Int):=by
      cases ts with
      | nil=>exact absurd rfl c0
      | cons t us=>exact (hd.2 t us rfl).1
    by_cases c1:acc.length≥32
    · rw [if_pos c1]
      obtain ⟨z,hz,rz⟩:=fail_live h (show (6:Int)≠0 by decide)
      have rz:Rp tl en 0 (.error (6,hereP en ts)) z:=rz
      refine ⟨(acc,z),Ev.step (f:=fun _=>some (acc,z)) (fun k=>?_) (Ev.now _),rz⟩
      simp only [rtLoop]
      rw [if_pos ⟨trivial,hlt⟩,if_pos c1,hz,Option.bind_some]
    rw [if_neg c1]
    obtain ⟨b,hb,rb⟩:=func_rv hl ht hn0 hn1 c0 h
    obtain ⟨o,ho,hr⟩:∃ o,Ev (fun k=>rtLoop k tl (acc++[⟨b.1,b.2.1,b.2.2.1,b.2.2.2.1,b.2.2.2.2.1⟩]) b.2.2.2.2.2.1 b.2.2.2.2.2.2.1 b.2.2.2.2.2.2.2.1 b.2.2.2.2.2.2.2.2.1 b.2.2.2.2.2.2.2.2.2) o∧RvT tl en ((funcP en n ts).bind fun f=>textP en m (acc++[f.1]) f.2.1 f.2.2) o:=by
      revert rb
      generalize hq:funcP en n ts=y
      cases y with
      | error q=>exact fun rb=>⟨_,text_dead (tl:=tl) (n:=n) _ (show Rp tl en 0 (.error q) b.2.2.2.2.2 from rb),rb⟩
      | ok a=>
        rintro ⟨e1,rb⟩
        obtain ⟨l1,l2,l3⟩:=funcP_len hq hn0 hn1
        have e:=rb.live
        rw [e] at rb
        obtain ⟨o,ho,hr⟩:=text_live hl ht m (acc++[a.1]) a.2.1 a.2.2 b.2.2.2.2.2.1 (by omega) l2 l3 rb
        refine ⟨o,?_,hr⟩
        rw [← e1,e]
        exact ho
    refine ⟨o,Ev.step (fun k=>?_) (Ev.bind hb ho (f:=fun k b=>rtLoop k tl (acc++[⟨b.1,b.2.1,b.2.2.1,b.2.2.2.1,b.2.2.2.2.1⟩]) b.2.2.2.2.2.1 b.2.2.2.2.2.2.1 b.2.2.2.2.2.2.2.1 b.2.2.2.2.2.2.2.2.1 b.2.2.2.2.2.2.2.2.2)),hr⟩
    simp only [rtLoop]
    rw [if_pos ⟨trivial,hlt⟩,if_neg c1]
end
theorem few_facts {s:ByteArray} (h:fewT (splitL s).1=true):(splitL s).1.length≤65536∧∀ t∈(splitL s).1,t.f0.size≤65536:=by
  unfold fewT at h
  obtain ⟨h1,h2⟩:=Bool.and_eq_true_iff.mp h
  exact ⟨of_decide_eq_true h1,fun t ht=>of_decide_eq_true (List.all_eq_true.mp h2 t ht)⟩
theorem rtext_is {s:ByteArray} (h:fewT (splitL s).1=true):Ev (fun k=>r06_Text.f k s) (parseP s):=by
  obtain ⟨f1,f2⟩:=few_facts h
  unfold r06_Text.f parseP
  refine Ev.bind (ref_split s) ?_
  by_cases c:(splitL s).2.1=0
  · rw [if_pos c]
    obtain ⟨o,ho,hr⟩:=text_live (tl:=(splitL s).1) (en:=(s.size:Int)) (by omega) f2 ((splitL s).1.length+1) [] 0 (splitL s).1 0 (by omega) (by omega) (by omega) ⟨by simp,by simp,rfl,rfl,by simp,rfl,rfl⟩
    refine ev_pos c (Ev.bind ho ?_)
    revert hr
    cases textP (s.size:Int) ((splitL s).1.length+1) [] 0 (splitL s).1 with
    | ok fs=>
      rintro ⟨e1,e2⟩
      rw [e1]
      exact ev_pos (by rw [e2]) (Ev.now _)
    | error q=>
      rintro ⟨e1,e2,e3⟩
      rw [e3]
      exact ev_neg e2 (Ev.now _)
  · rw [if_neg c]
    exact ev_neg c (Ev.now _)
end Go.Proofs.Ytkjdblbgmomieaa.PSh
end
-- from YtkjdblbgmomieaaHPReads
section
namespace Go.Proofs.Ytkjdblbgmomieaa.PSh
set_option maxHeartbeats 8000000
set_option maxRecDepth 100000
open Go.RowKit Go.Proofs.YtkjdblbgmomieaaW.PrintWords Go.Proofs.YtkjdblbgmomieaaW.PrintLast Go.Proofs.YtkjdblbgmomieaaW.PrintMore Go.Proofs.Ytkjdblbgmomieaa.Str
set_option linter.unusedVariables false
set_option linter.unusedSimpArgs false
def l06_ParseReads.f (k:Nat) (s:ByteArray):Option Bool:=if 2500<s.size then some true else if fewT (splitL s).1=true then some true else none
theorem l06_ParseReads.calls (k:Nat) (s:ByteArray) (r:Bool) (w:World) (h:l06_ParseReads.f k s=some r):
    Calls Try.prog 5 #[.string s] w fun e w'=>e=.returned (.bool r)∧Below w.heap.size w w':=by
  have hu24:=Try.underlying24
  have hu28:=Try.underlying28
  have hu34:=Try.underlying34
  unfold l06_ParseReads.f at h
  by_cases hbig:2500<s.size
  · rw [if_pos hbig] at h
    obtain rfl:=Option.some.inj h
    have d0:decide (2500<(s.size:Int))=true:=decide_eq_true (by omega)
    have d1:decide (2500<s.size)=true:=decide_eq_true hbig
    clear hbig h
    go_enter Try.func5,Try.ntmps5
    have HB1:=aM (Below.refl w.heap.size w)
    go_wp2_with fail
    refine (l06_works.calls true _ rfl).mono ?_
    rintro e w9 ⟨rfl,hb_⟩
    have HB9:=aM (below_step HB1.out hb_)
    clear hb_
    go_wp2
    (try simp only [Exit.inBlock,Exit.then])
    go_ret
    exact ⟨rfl,HB9.out⟩
  rw [if_neg hbig] at h
  have d0:decide (2500<(s.size:Int))=false:=decide_eq_false (by omega)
  have d1:decide (2500<s.size)=false:=decide_eq_false hbig
  by_cases hfew:fewT (splitL s).1=true
  rotate_left
  · rw [if_neg hfew] at h
    cases h
  rw [if_pos hfew] at h
  obtain rfl:=Option.some.inj h
  have hp:parse_Text.f s=some (parseP s):=if_pos hfew
  obtain ⟨kr,hq⟩:=(rtext_is hfew).rounds
  generalize parseP s=pr at hp hq
  obtain ⟨fs,q1,q2⟩:=pr
  have HP:=aM hp
  have HQ:=aM hq
  clear hbig hfew h hp hq
  go_enter Try.func5,Try.ntmps5
  go_wp2_with fail
  refine (parse_Text.calls s fs q1 q2 _ HP.out).mono ?_
  rintro e v1_ ⟨v_,rfl,hr_,hb_⟩
  obtain ⟨A1,c1,e_,hl1,hC1⟩:=Kd.R_reads hr_
  subst e_
  have hq_:=below_alloc (below_alloc (Below.refl v1_.heap.size v1_) (.cells #[.slice A1 fs.length c1] 24)) (.cells #[.int .i64 q1,.int .i64 q2] 28)
  have HB1:=aM (below_step hb_ hq_)
  have k1_:=blk_alloc (blk_new v1_ (.cells #[.slice A1 fs.length c1] 24)) (.cells #[.int .i64 q1,.int .i64 q2] 28)
  have k2_:=blk_new (v1_.alloc (.cells #[.slice A1 fs.length c1] 24)) (.cells #[.int .i64 q1,.int .i64 q2] 28)
  rw [show (v1_.alloc (.cells #[.slice A1 fs.length c1] 24)).heap.size=v1_.heap.size+1 by simp] at k2_
  have HC1:=aM (Kd.C_below hC1 hq_)
  have HL1:=aM hl1
  clear hr_ hb_ hC1 hl1 d0 d1
  go_upto_region 4 with (fail)
  generalize ((v1_.alloc (.cells #[.slice A1 fs.length c1] 24)).alloc (.cells #[.int .i64 q1,.int .i64 q2] 28))=W1 at k1_ k2_ HB1 HC1 ⊢
  clear hq_
  generalize v1_.heap.size+1=be1 at k2_ ⊢
  generalize v1_.heap.size=bp1 at k1_ ⊢
  have KP1:=aM k1_
  have KE1:=aM k2_
  clear k1_ k2_
  go_wp2_with fail
  refine (r06_Text.calls kr s fs q1 q2 _ HQ.out).mono ?_
  rintro e v2_ ⟨v_,rfl,hr_,hb_⟩
  obtain ⟨A2,c2,e_,hl2,hC2⟩:=Kd.R_reads hr_
  subst e_
  have hq_:=below_alloc (below_alloc (Below.refl v2_.heap.size v2_) (.cells #[.slice A2 fs.length c2] 24)) (.cells #[.int .i64 q1,.int .i64 q2] 28)
  have hb2_:=below_step hb_ hq_
  have HB2:=aM (below_step HB1.out hb2_)
  have k1_:=blk_alloc (blk_new v2_ (.cells #[.slice A2 fs.length c2] 24)) (.cells #[.int .i64 q1,.int .i64 q2] 28)
  have k2_:=blk_new (v2_.alloc (.cells #[.slice A2 fs.length c2] 24)) (.cells #[.int .i64 q1,.int .i64 q2] 28)
  rw [show (v2_.alloc (.cells #[.slice A2 fs.length c2] 24)).heap.size=v2_.heap.size+1 by simp] at k2_
  have KP1b:=aM (blk_below KP1.out hb2_)
  have KE1b:=aM (blk_below KE1.out hb2_)
  have HC1b:=aM (Kd.C_below HC1.out hb2_)
  have HC2:=aM (Kd.C_below hC2 hq_)
  have HL2:=aM hl2
  clear hr_ hb_ hC2 hl2 HC1 KP1 KE1 HB1 hb2_
  go_upto_region 5 with (fail)
  generalize ((v2_.alloc (.cells #[.slice A2 fs.length c2] 24)).alloc (.cells #[.int .i64 q1,.int .i64 q2] 28))=W2 at k1_ k2_ HB2 HC2 KP1b KE1b HC1b ⊢
  clear hq_
  generalize v2_.heap.size+1=be2 at k2_ ⊢
  generalize v2_.heap.size=bp2 at k1_ ⊢
  have z0:=blk_cell KE1b.out 0
  have z1:=blk_cell KE1b.out 1
  have z2:=blk_cell k2_ 0
  have z3:=blk_cell k2_ 1
  have z4:=blk_cell KP1b.out 0
  have z5:=blk_cell k1_ 0
  clear k1_ k2_
  go_wp2_with fail
  refine (places_calls _ _ _ _ fs _ HC1b.out HL1.out HC2.out HL2.out).mono ?_
  rintro e w8 ⟨rfl,hb_⟩
  have HB8:=aM (below_step HB2.out hb_)
  clear hb_
  go_wp2_with fail
  refine (l06_works.calls true _ rfl).mono ?_
  rintro e w9 ⟨rfl,hb_⟩
  have HB9:=aM (below_step HB8.out hb_)
  clear hb_
  go_wp2
  (try simp only [Exit.inBlock,Exit.then])
  go_ret
  exact ⟨rfl,HB9.out⟩
end Go.Proofs.Ytkjdblbgmomieaa.PSh
end
