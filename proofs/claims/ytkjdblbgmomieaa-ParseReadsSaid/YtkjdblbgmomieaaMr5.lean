import Derived.Test.YtkjdblbgmomieaaMr0
-- from YtkjdblbgmomieaaDigPure
section
namespace Go.Proofs.Ytkjdblbgmomieaa.Dig
def pd (n:Nat):List UInt8:=if _h:n=0 then [] else pd (n / 10)++[UInt8.ofNat (48+n % 10)]
termination_by n
decreasing_by omega
theorem pd_zero:pd 0=[]:=by unfold pd;simp
theorem pd_pos {n:Nat} (h:n≠0):pd n=pd (n / 10)++[UInt8.ofNat (48+n % 10)]:=by rw [pd];simp [h]
def digs (n:Int):List UInt8:=if n=0 then [48] else if n<0 then 45::pd n.natAbs else pd n.natAbs
theorem pd_len:∀ (m n:Nat),n<10 ^ m→(pd n).length≤m:=by
  intro m
  induction m with
  | zero => intro n h; have : n = 0 := by simpa using h
            subst this;simp [pd_zero]
  | succ m ih=>
    intro n h
    by_cases h0:n=0
    · subst h0;simp [pd_zero]
    · rw [pd_pos h0,List.length_append,List.length_singleton]
      have:=ih (n / 10) (by rw [Nat.pow_succ] at h;omega)
      omega
theorem pd_ne_nil {n:Nat} (h:n≠0):pd n≠[]:=by rw [pd_pos h];simp
structure Inv (a0:Int) (m:Nat) (kk:Int) (L:List Int):Prop where
  len:L.length=20
  m19:m≤19
  pow:kk≠0→kk.natAbs * 10 ^ m≤9223372036854775808
  dig:(pd kk.natAbs).map (fun c=>(c.toNat:Int))++L.drop (20 - m)=(pd a0.natAbs).map (fun c=>(c.toNat:Int))
  low:-9223372036854775808≤kk
  high:kk≤9223372036854775807
theorem inv_start {a0:Int} (h0:-9223372036854775808≤a0) (h1:a0≤9223372036854775807):Inv a0 0 a0 (List.replicate 20 0) where
  len:=by simp
  m19:=by omega
  pow:=fun _=>by simp;omega
  dig:=by simp
  low:=h0
  high:=h1
theorem ten_pow (m:Nat) (n:Nat) (h0:n≠0) (h:n * 10 ^ m≤9223372036854775808):m≤18:=by
  by_cases hm:m≤18
  · exact hm
  · exfalso
    have h1:10 ^ 19≤10 ^ m:=Nat.pow_le_pow_right (by omega) (by omega)
    have h2:1 * 10 ^ m≤n * 10 ^ m:=Nat.mul_le_mul_right _ (by omega)
    have h3:(10:Nat) ^ 19=10000000000000000000:=by decide
    omega
theorem inv_step {a0:Int} {m:Nat} {kk:Int} {L:List Int} (h:Inv a0 m kk L) (h0:kk≠0) (x:Int) (hx:x=48+((kk.natAbs % 10:Nat):Int)) (k':Int) (hk:k'=kk.tdiv 10):
    Inv a0 (m+1) k' (L.set (19 - m) x):=by
  subst hx;subst hk
  have h18:=ten_pow m kk.natAbs (by omega) (h.pow h0)
  have hl:=h.low
  have hh:=h.high
  have hq:(kk.tdiv 10).natAbs=kk.natAbs / 10:=by
    rw [Int.natAbs_tdiv];rfl
  have hb:-9223372036854775808≤kk.tdiv 10∧kk.tdiv 10≤9223372036854775807:=by omega
  refine ⟨by simp [h.len],by omega,fun hne=>?_,?_,hb.1,hb.2⟩
  · rw [hq]
    have h1:kk.natAbs / 10 * 10≤kk.natAbs:=Nat.div_mul_le_self _ _
    have h2:kk.natAbs / 10 * 10 * 10 ^ m≤kk.natAbs * 10 ^ m:=Nat.mul_le_mul_right _ h1
    rw [Nat.pow_succ]
    have h3:kk.natAbs / 10 * (10 ^ m * 10)=kk.natAbs / 10 * 10 * 10 ^ m:=by rw [Nat.mul_assoc,Nat.mul_comm (10 ^ m) 10]
    rw [h3]
    exact Nat.le_trans h2 (h.pow h0)
  · rw [hq,← h.dig,pd_pos (n:=kk.natAbs) (by omega)]
    have hd:L.drop (20 - m)=(L.set (19 - m) (48+((kk.natAbs % 10:Nat):Int))).drop (20 - m):=by
      rw [List.drop_set_of_lt (by omega)]
    have hs:(L.set (19 - m) (48+((kk.natAbs % 10:Nat):Int))).drop (20 - (m+1))=(48+((kk.natAbs % 10:Nat):Int))::(L.set (19 - m) (48+((kk.natAbs % 10:Nat):Int))).drop (20 - m):=by
      have hlt:19 - m<(L.set (19 - m) (48+((kk.natAbs % 10:Nat):Int))).length:=by rw [List.length_set,h.len];omega
      have e:20 - (m+1)=19 - m:=by omega
      rw [e,List.drop_eq_getElem_cons hlt,List.getElem_set_self]
      congr 2
      omega
    rw [hs,← hd,List.map_append,List.append_assoc]
    congr 1
    simp only [List.map_cons,List.map_nil,List.singleton_append]
    congr 1
    rw [UInt8.toNat_ofNat']
    have:kk.natAbs % 10<10:=Nat.mod_lt _ (by omega)
    omega
theorem inv_end {a0:Int} {m:Nat} {L:List Int} (h:Inv a0 m 0 L):L.drop (20 - m)=(pd a0.natAbs).map (fun c=>(c.toNat:Int)):=by
  have:=h.dig
  simpa [pd_zero] using this
theorem inv_minus {a0:Int} {m:Nat} {L:List Int} (h:Inv a0 m 0 L):(L.set (19 - m) 45).drop (19 - m)=(45:Int)::(pd a0.natAbs).map (fun c=>(c.toNat:Int)):=by
  have hm:=h.m19
  have hlt:19 - m<(L.set (19 - m) 45).length:=by rw [List.length_set,h.len];omega
  rw [List.drop_eq_getElem_cons hlt,List.getElem_set_self,← inv_end h]
  congr 1
  have e:19 - m+1=20 - m:=by omega
  rw [e,List.drop_set_of_lt (by omega)]
theorem str_of (l:List UInt8):strOfNums (l.map fun c=>(c.toNat:Int))=⟨l.toArray⟩:=by
  unfold strOfNums
  congr 2
  rw [List.map_map]
  conv=>rhs;rw [← List.map_id l]
  apply List.map_congr_left
  intro c _
  simp
end Go.Proofs.Ytkjdblbgmomieaa.Dig
end
