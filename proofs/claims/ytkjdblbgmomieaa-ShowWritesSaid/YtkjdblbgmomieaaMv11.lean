import Derived.Test.YtkjdblbgmomieaaMv1
section
namespace Go.Proofs.Ytkjdblbgmomieaa.Str
open Go.RowKit Go.Proofs.YtkjdblbgmomieaaW.PrintWords Go.Proofs.YtkjdblbgmomieaaW.PrintLast Go.Proofs.YtkjdblbgmomieaaW.PrintMore
abbrev mk (l:List UInt8):ByteArray:=⟨l.toArray⟩
theorem mk_data (s:ByteArray):s=mk s.data.toList:=by cases s;rfl
theorem mk_size (l:List UInt8):(mk l).size=l.length:=by show l.toArray.size=_;simp
theorem size_data (s:ByteArray):s.size=s.data.toList.length:=rfl
theorem toList_loop (s:ByteArray):∀ (d i:Nat) (r:List UInt8),s.size - i=d→ByteArray.toList.loop s i r=r.reverse++s.data.toList.drop i:=by
  intro d
  induction d with
  | zero=>intro i r h;unfold ByteArray.toList.loop;rw [if_neg (by omega)];simp;omega
  | succ d ih=>
    intro i r h
    unfold ByteArray.toList.loop
    rw [if_pos (by omega),ih (i+1) _ (by omega)]
    have hlt:i<s.data.toList.length:=by have:s.data.size=s.size:=ByteArray.size_data;simp;omega
    rw [List.drop_eq_getElem_cons hlt]
    have h2:i<s.data.size:=by simpa using hlt
    simp [ByteArray.get!,getElem!_pos s.data i h2]
theorem toList_eq (s:ByteArray):s.toList=s.data.toList:=by unfold ByteArray.toList;rw [toList_loop s _ 0 [] rfl];simp
theorem mk_append (a b:List UInt8):mk a++mk b=mk (a++b):=by
  apply ByteArray.ext
  simp
theorem bt_mk (l:List UInt8) (i:Nat) (h:i<l.length):bt (mk l) (i:Int)=(l[i].toNat:Int):=by
  unfold bt
  rw [dif_pos (by rw [mk_size];simpa using h)]
  simp [ByteArray.getElem_eq_getElem_data]
theorem bt_pre (pre rest:List UInt8) (c:UInt8):bt (mk (pre++c::rest)) (pre.length:Int)=(c.toNat:Int):=by
  rw [bt_mk _ _ (by simp)]
  simp
theorem nums_one (n:Int) (c:UInt8) (h:n=(c.toNat:Int)):strOfNums [n]=mk [c]:=by
  subst h
  simp [strOfNums]
theorem inj {a b:ByteArray} (h:a.toList=b.toList):a=b:=by
  rw [toList_eq,toList_eq] at h
  cases a;cases b
  congr
  exact Array.toList_inj.1 h
theorem w64 {x:Int} (h0:-9223372036854775808≤x) (h1:x≤9223372036854775807):wrap64 x=x:=by unfold wrap64;omega
theorem ev_if {α:Type} {c:Prop} [Decidable c] {g f:Nat→Option α} {r:α} (h:c→Ev g r) (k:¬ c→Ev f r):Ev (fun n=>if c then g n else f n) r:=by
  by_cases hc:c
  · simp only [if_pos hc];exact h hc
  · simp only [if_neg hc];exact k hc
theorem ev_pos {α:Type} {c:Prop} [Decidable c] {g f:Nat→Option α} {r:α} (hc:c) (h:Ev g r):Ev (fun n=>if c then g n else f n) r:=by simp only [if_pos hc];exact h
theorem ev_neg {α:Type} {c:Prop} [Decidable c] {g f:Nat→Option α} {r:α} (hc:¬ c) (h:Ev f r):Ev (fun n=>if c then g n else f n) r:=by simp only [if_neg hc];exact h
theorem ev_some {α β:Type} {o:Option α} {f:Nat→α→Option β} {a:α} {r:β} (h:o=some a) (k:Ev (fun n=>f n a) r):Ev (fun n=>o.bind (f n)) r:=by subst h;exact k
end Go.Proofs.Ytkjdblbgmomieaa.Str
end
