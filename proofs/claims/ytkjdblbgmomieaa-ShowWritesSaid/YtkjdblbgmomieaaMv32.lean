import Derived.ChangeArms
import Derived.ChangeOld
import Derived.OpenShut
import Derived.SizedLaws
import Derived.DataReads
import Derived.Test.YtkjdblbgmomieaaMv0
section
namespace Go.Proofs.Ytkjdblbgmomieaa.Open
open Go.Proofs.YtkjdblbgmomieaaW.PrintWords
def Opens (P:Program) {α:Type} (d:Kd α) (t:TypeId) (good:α→Prop):Prop:=
  ∀ {H:Type} (enc:TypeId × Value→H) (w:World) (fuel:Nat) (cs:List Value) (x:DataW H × List MemPlace),
    DataW.trod enc P w 0 (fun _=>true) true fuel t cs=some x→(∀ n∈x.1.weights P t,n≤reachBytes)→∃ a,d.K w a cs∧good a
section
variable {P : Program} {α β : Type}
theorem Opens.imp {d:Kd α} {t:TypeId} {good good':α→Prop} (h:Opens P d t good) (hg:∀ a,good a→good' a):Opens P d t good':=
  fun enc w fuel cs x hx hw=>let ⟨a,hk,ha⟩:=h enc w fuel cs x hx hw;⟨a,hk,hg a ha⟩
theorem opens_int {t:TypeId} {k:IntKind} (hu:P.underlying t=some (.int k)):Opens P (Kd.int k) t (fun n=>(Lit.int k n).wf=true):=by
  intro H enc w fuel cs x hx _
  obtain ⟨n,rfl,_,hn⟩:=DataW.trod_int hu hx
  exact ⟨n,rfl,hn⟩
theorem opens_string {t:TypeId} (hu:P.underlying t=some .string):Opens P Kd.string t (fun s=>s.size≤140737488351232):=by
  intro H enc w fuel cs x hx hw
  obtain ⟨s,rfl,rfl,_⟩:=DataW.trod_string hu hx
  refine ⟨s,rfl,?_⟩
  have:=hw s.data.toList.length (by simp [DataW.weights])
  simpa [reachBytes] using this
theorem opens_slice {t e e':TypeId} {d:Kd α} {good:α→Prop} {B:Nat} (hu:P.underlying t=some (.slice e)) (hd:Opens P d e good) (hsz:P.cellsOf e=d.sz) (hB:P.bytesOf e=B):
    Opens P (Kd.slice e' d) t (fun xs=>xs.length * B≤140737488351232∧∀ x∈xs,good x):=by
  intro H enc w fuel cs x hx hw
  rcases DataW.trod_slice hu hx with ⟨rfl,rfl⟩ | ⟨a,len,cap,elems,rest,n,rfl,rfl,rfl,_,hlc,hcm,hlen,hel,_,_⟩
  · exact ⟨[],⟨none,0,rfl,Nat.le_refl _,rfl,by simp,fun h=>absurd h (by simp)⟩,by simp,by simp⟩
  · have hwe:∀ q∈elems,∀ n∈q.1.weights P e,n≤reachBytes:=by
      intro q hq n hn
      refine hw n ?_
      simp only [DataW.weights,hu]
      refine List.mem_cons_of_mem _ (List.mem_append_left _ ?_)
      have key:∀ (l:List (DataW H)) (y:DataW H),y∈l→∀ n∈y.weights P e,n∈DataW.weightsAll P e l:=by
        intro l
        induction l with
        | nil=>intro y hy;cases hy
        | cons z zs ih=>
          intro y hy n hn
          simp only [DataW.weightsAll,List.mem_append]
          rcases List.mem_cons.1 hy with rfl | hy
          · exact .inl hn
          · exact .inr (ih y hy n hn)
      exact key _ _ (List.mem_map_of_mem hq) n hn
    have hone:∀ i,i<len→∃ y c,w.cells? 0 (a.add (i * P.cellsOf e)) (P.cellsOf e)=some c∧d.K w y c∧good y:=by
      intro i hi
      have h1:=hel i hi
      have h2:i<elems.length:=by omega
      rw [List.getElem?_eq_getElem h2] at h1
      obtain ⟨c,hc,ht⟩:=Option.bind_eq_some_iff.1 h1
      obtain ⟨y,hy,hg⟩:=hd enc w n c _ ht (hwe _ (List.getElem_mem h2))
      exact ⟨y,c,hc,hy,hg⟩
    have hall:∀ m,m≤len→∃ ys:List α,ys.length=m∧(∀ y∈ys,good y)∧∀ j p,ys[j]?=some p→∃ c,w.cells? 0 (a.add (j * P.cellsOf e)) (P.cellsOf e)=some c∧d.K w p c:=by
      intro m
      induction m with
      | zero=>intro _;exact ⟨[],rfl,by simp,by simp⟩
      | succ m ih=>
        intro hm
        obtain ⟨ys,hl,hg,hys⟩:=ih (by omega)
        obtain ⟨y,c,hc,hk,hgy⟩:=hone m (by omega)
        refine ⟨ys++[y],by simp [hl],?_,?_⟩
        · intro z hz
          rcases List.mem_append.1 hz with hz | hz
          · exact hg z hz
          · rw [List.mem_singleton.1 hz];exact hgy
        · intro j p hj
          rcases Nat.lt_or_ge j ys.length with hlt | hge
          · rw [List.getElem?_append_left hlt] at hj
            exact hys j p hj
          · have hlt2:=(List.getElem?_eq_some_iff.1 hj).1
            rw [List.length_append,List.length_singleton] at hlt2
            have:j=ys.length:=by omega
            subst this
            rw [List.getElem?_append_right (Nat.le_refl _)] at hj
            simp at hj
            subst hj
            rw [hl]
            exact ⟨c,hc,hk⟩
    obtain ⟨ys,hl,hg,hys⟩:=hall len (Nat.le_refl _)
    subst hl
    refine ⟨ys,⟨some a,cap,rfl,hlc,rfl,?_,fun _=>⟨a,rfl,fun j p hj=>?_⟩⟩,?_,hg⟩
    · unfold maxLen at hcm;omega
    · obtain ⟨c,hc,hk⟩:=hys j p hj
      obtain ⟨_,hcl,hcell⟩:=World.cells?_some hc
      refine ⟨c,by rw [hcl,hsz],hk,fun i u hu2=>?_⟩
      have hi:i<P.cellsOf e:=by rw [← hcl];exact (List.getElem?_eq_some_iff.1 hu2).1
      have:=hcell i hi
      rw [hu2] at this
      rw [← hsz,← this]
      congr 1
      unfold Addr.add
      by_cases h0:j * P.cellsOf e=0
      · simp [h0]
      · by_cases h1:i=0
        · simp [h1]
        · have h2:j * P.cellsOf e+i≠0:=by omega
          simp only [h0,h1,h2,if_false]
          congr 1
          omega
    · have:=hw (((elems.map (·.1)).length+(rest.map (·.1)).length) * P.bytesOf e) (by simp [DataW.weights,hu])
      simp only [List.length_map] at this
      rw [hB] at this
      have h3:ys.length * B≤(elems.length+rest.length) * B:=Nat.mul_le_mul_right _ (by omega)
      have h4:(elems.length+rest.length) * B≤140737488351232:=by simpa [reachBytes] using this
      omega
def OpensF (P:Program) (ts:List (Nat × TypeId)) (d:Kd α) (off:Nat) (good:α→Prop):Prop:=
  ∀ {H:Type} (enc:TypeId × Value→H) (w:World) (fuel:Nat) (cs:List Value) (xs:List (DataW H × List MemPlace)),xs.length=ts.length→off+d.sz≤cs.length→
    (∀ (i:Nat) (q:Nat × TypeId),ts[i]?=some q→DataW.trod enc P w 0 (fun _=>true) true fuel q.2 ((cs.drop q.1).take (P.cellsOf q.2))=xs[i]?)→
    (∀ n∈DataW.weightsEach P (ts.map (·.2)) (xs.map (·.1)),n≤reachBytes)→∃ a,d.K w a ((cs.drop off).take d.sz)∧good a
theorem opensF_one {t:TypeId} {d:Kd α} {off:Nat} {good:α→Prop} (h:Opens P d t good) (hsz:P.cellsOf t=d.sz):OpensF P [(off,t)] d off good:=by
  intro H enc w fuel cs xs hl _ hx hw
  match xs,hl with
  | [x],_=>
    have:=hx 0 (off,t) rfl
    rw [hsz] at this
    exact h enc w fuel _ x this (fun n hn=>hw n (by simp [DataW.weightsEach,hn]))
theorem opensF_cons {t:TypeId} {d:Kd α} {d':Kd β} {off off':Nat} {ts:List (Nat × TypeId)} {good:α→Prop} {good':β→Prop} (h:Opens P d t good) (hsz:P.cellsOf t=d.sz)
    (hoff:off'=off+d.sz) (h':OpensF P ts d' off' good'):OpensF P ((off,t)::ts) (Kd.pair d d') off (fun p=>good p.1∧good' p.2):=by
  intro H enc w fuel cs xs hl hcs hx hw
  subst hoff
  match xs,hl with
  | x::xs,hl=>
    have hs:(Kd.pair d d').sz=d.sz+d'.sz:=rfl
    rw [hs] at hcs
    have h0:=hx 0 (off,t) rfl
    rw [hsz] at h0
    obtain ⟨a,ha,hga⟩:=h enc w fuel _ x h0 (fun n hn=>hw n (by simp [DataW.weightsEach,hn]))
    obtain ⟨b,hb,hgb⟩:=h' enc w fuel cs xs (by simpa using hl) (by omega) (fun i q hq=>by simpa using hx (i+1) q (by simpa using hq)) (fun n hn=>hw n (by simp [DataW.weightsEach,hn]))
    refine ⟨(a,b),⟨_,_,?_,ha,hb⟩,hga,hgb⟩
    rw [hs,List.take_add,List.drop_drop]
theorem opens_struct {fs:Array Field} {t:TypeId} {d:Kd α} {f:β→α} {g:α→β} {good:α→Prop} (hu:P.underlying t=some (.struct fs)) (hc:P.cellsOf t=d.sz)
    (h:OpensF P (fs.toList.map fun f=>(f.offset,f.type)) d 0 good) (hfg:∀ a,f (g a)=a):Opens P (Kd.iso d f) t (fun b=>good (f b)):=by
  intro H enc w fuel cs x hx hw
  obtain ⟨xs,n,rfl,rfl,hl,hxl,hxs⟩:=DataW.trod_struct hu hx
  obtain ⟨a,ha,hg⟩:=h enc w n cs xs (by simp [hxl]) (by omega) (fun i q hq=>by
    rw [List.getElem?_map] at hq
    obtain ⟨f,hf,rfl⟩:=Option.map_eq_some_iff.1 hq
    exact hxs i f (by simpa using hf)) (fun n hn=>hw n (by
      simp only [DataW.weights,hu]
      simpa [List.map_map,Function.comp_def] using hn))
  refine ⟨g a,?_,by show good (f (g a));rw [hfg];exact hg⟩
  show d.K w (f (g a)) cs
  rw [hfg]
  rw [List.drop_zero,← hc,← hl,List.take_length] at ha
  exact ha
end
end Go.Proofs.Ytkjdblbgmomieaa.Open
end
