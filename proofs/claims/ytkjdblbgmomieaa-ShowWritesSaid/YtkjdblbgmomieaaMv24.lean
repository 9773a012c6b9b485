import Derived.Test.YtkjdblbgmomieaaMv23
import Derived.Test.YtkjdblbgmomieaaMv21
section
namespace Go.Proofs.Ytkjdblbgmomieaa.PSh
set_option maxHeartbeats 16000000
set_option maxRecDepth 100000
open Go.RowKit Go.Proofs.YtkjdblbgmomieaaW.PrintWords Go.Proofs.YtkjdblbgmomieaaW.PrintLast Go.Proofs.YtkjdblbgmomieaaW.PrintMore Go.Proofs.Ytkjdblbgmomieaa.Str
set_option linter.unusedVariables false
set_option linter.unusedSimpArgs false
def instS (x:S39):Option ByteArray:=show_Instr.f x.f0 x.f1 x.f2 x.f3 x.f4 x.f5 x.f6 x.f7
def lineS (s:ByteArray):ByteArray:=((⟨#[32,32]⟩:ByteArray)++s)++(⟨#[10]⟩:ByteArray)
def shCode:ByteArray→List (S39)→Option ByteArray
  | acc,[]=>some acc
  | acc,x::xs=>(instS x).bind fun s=>if acc.size+(s.size+3)≤140737488355328 then shCode (acc++lineS s) xs else none
def shBlocks:ByteArray→Int→List (List (S39))→Option ByteArray
  | acc,_,[]=>some acc
  | acc,k,b::bs=>(show_label.f k).bind fun z=>if acc.size+(z.size+2)≤140737488355328 then (shCode (acc++(z++(⟨#[58,10]⟩:ByteArray))) b).bind fun a2=>shBlocks a2 (k+1) bs else none
def funcH (nm ps lt:ByteArray):ByteArray:=((((((⟨#[102,117,110,99,32]⟩:ByteArray)++nm)++(⟨#[40]⟩:ByteArray))++ps)++(⟨#[41,32]⟩:ByteArray))++lt)++(⟨#[32,123,10]⟩:ByteArray)
def lettersW (l:List Int):List ByteArray:=l.map fun t=>mk (letterL t)
def show_Func.f (nm:ByteArray) (l1:List Int) (rt:Int) (l3:List (List (S39))) (at_:Int):Option ByteArray:=
  if l1.length≤1000000 then (show_line.f (lettersW l1)).bind fun ps=>if nm.size+ps.size+12≤140737488355328 then (shBlocks (funcH nm ps (mk (letterL rt))) 0 l3).bind fun acc=>if acc.size+2≤140737488355328 then some (acc++(⟨#[125,10]⟩:ByteArray)) else none else none else none
theorem isbF_below {T e:TypeId} {B b:Nat} {bs:List Value} {w w1:World} (h:Lib.IsBuilderF T e B b bs w) (hb:Below w.heap.size w w1):Lib.IsBuilderF T e B b bs w1:=by
  rcases h with ⟨h1,v,h2,h3,h4⟩ | ⟨h1,v,h2,h3,h4⟩
  · exact .inl ⟨h1,v,blk_below h2 hb,h3.kept (grown_of_below hb none) (by cases v.ownBlock<;>simp),h4⟩
  · exact .inr ⟨h1,v,blk_below h2 hb,h3.kept (grown_of_below hb none) (by cases v.ownBlock<;>simp),h4⟩
theorem isbF_fresh {T e:TypeId} {B b:Nat} {w:World} (hB:B≤b) (h:w.heap[b]?=some (.cells #[.pointer none,.slice none 0 0] T (0,0))):Lib.IsBuilderF T e B b [] w:=
  .of (Or.inl ⟨hB,.slice none 0 0,h,World.ownsRow_nil _ _ _ _,by simp [Value.ownBlock]⟩)
theorem strCells_app (a b:ByteArray):Lib.strCells (a++b)=Lib.strCells a++Lib.strCells b:=by
  unfold Lib.strCells
  rw [← List.map_append]
  congr 1
  all_goals simp
theorem strCells_len (a:ByteArray):(Lib.strCells a).length=a.size:=by
  unfold Lib.strCells
  rw [List.length_map,size_data]
structure TxAt (b:Nat) (acc:ByteArray) (w w':World):Prop where
  bu:Lib.IsBuilderF 55 5 w.heap.size b (Lib.strCells acc) w'
  bel:Below w.heap.size w w'
theorem TxAt.below {b:Nat} {acc:ByteArray} {w w' w2:World} (h:TxAt b acc w w') (hb:Below w'.heap.size w' w2):TxAt b acc w w2:=⟨isbF_below h.bu hb,below_step h.bel hb⟩
theorem TxAt.drew {b:Nat} {acc:ByteArray} {w w':World} (h:TxAt b acc w w'):TxAt b acc w w'.drew:=h.below (below_drew1 (Below.refl _ _))
theorem tx_write {b:Nat} {acc:ByteArray} {w w':World} (s:ByteArray) (h:TxAt b acc w w') (hs:acc.size+s.size≤140737488355328):
    Calls Try.prog 31 #[.pointer (some ⟨b,0,none⟩),.string s] w' fun e w2=>e=.returned (.tuple #[.int .i64 s.size,.nilIface])∧TxAt b (acc++s) w w2∧Lib.OthersKept 5 (some b) w' w2:=by
  refine (builder_Write w.heap.size b _ s w' h.bu (by rw [strCells_len];exact hs) h.bel.size).mono ?_
  rintro e w2 ⟨h1,h2,h3,h4⟩
  exact ⟨h1,⟨by rw [strCells_app];exact h2,h.bel.trans h3⟩,h4⟩
theorem letter_calls (t:Int) (w:World):Calls Try.prog 30 #[.int .i64 t] w fun e w'=>e=.returned (.string (mk (letterL t)))∧Below w.heap.size w w':=by
  refine (ops_Letter.calls t _ w (letter_c t)).mono ?_
  rintro e w' ⟨h1,h2⟩
  exact ⟨h1,h2.below⟩
theorem row_empty {W:World} {g base c:Nat} (hB:base≤g) (h:W.heap[g]?=some (.cells #[] 9 (0,0))):Kd.R Kd.string 9 W base (fun _=>True) (.slice (some ⟨g,0,none⟩) 0 0) []:=
  ⟨fun _ _=>trivial,[],⟨by simp,.inr ⟨g,0,#[],rfl,hB,h,Nat.le_refl _,Nat.zero_le _,by simp,by simp⟩⟩,by simp [Reps]⟩
structure LtAt (b1 b:Nat) (bx:Array Value) (v:Value) (ws:List ByteArray) (w w':World):Prop where
  box:w'.heap[b1]?=some (.cells bx 34 (0,0))
  bu:w'.heap[b]?=some (.cells #[.pointer none,.slice none 0 0] 55 (0,0))
  row:Kd.R Kd.string 9 w' w.heap.size (fun _=>True) v ws
  ge:w.heap.size≤b
  bel:Below w.heap.size w w'
section
variable {b1 b : Nat} {bx : Array Value} {v : Value} {ws ys : List ByteArray} {w w1 w2 : World}
theorem LtAt.below (h:LtAt b1 b bx v ws w w1) (hb:Below w1.heap.size w1 w2):LtAt b1 b bx v ws w w2:=
  ⟨blk_below h.box hb,blk_below h.bu hb,Kd.R_below h.row hb,h.ge,below_step h.bel hb⟩
theorem LtAt.put (h:LtAt b1 b bx v ws w w1) {v1:Value} (hr:Kd.R Kd.string 9 w2 w.heap.size (fun _=>True) v1 ys) (hg:w1.grownBy w2 v.ownBlock):LtAt b1 b bx v1 ys w w2:=by
  have hx:=(hg.block b1 (blk_lt h.box) (Kd.R_ne h.row h.box (by decide))).trans h.box
  have hv:=(hg.block b (blk_lt h.bu) (Kd.R_ne h.row h.bu (by decide))).trans h.bu
  exact ⟨hx,hv,hr,h.ge,pw_below_grown h.bel v.ownBlock h.bel.size hg (fun k e=>Kd.R_base h.row k e)⟩
end
theorem letters_drop (l:List Int) (j:Int) (h0:0≤j) (h1:j<(l.length:Int)):lettersW (l.take (j+1).toNat)=lettersW (l.take j.toNat)++[mk (letterL (rd l j))]:=by
  have h:j.toNat<l.length:=by omega
  unfold lettersW
  rw [show (j+1).toNat=j.toNat+1 by omega,List.take_add_one,List.map_append,List.getElem?_eq_getElem h]
  have e:rd l j=l[j.toNat]:=by unfold rd;rw [List.getD_eq_getElem?_getD,List.getElem?_eq_getElem h];rfl
  rw [e]
  rfl
theorem show_Func.calls (nm:ByteArray) (A1:Option Addr) (c1:Nat) (l1:List Int) (rt:Int) (A3:Option Addr) (c3:Nat) (l3:List (List (S39))) (at_:Int) (r:ByteArray) (w:World) (h1:Kd.C (Kd.int .i64) w A1 l1.length l1) (h1':l1.length≤c1) (h3:Kd.C (Kd.slice 39 k39) w A3 l3.length l3) (h3':l3.length≤c3) (h:show_Func.f nm l1 rt l3 at_=some r):
    Calls Try.prog 11 #[.agg #[.string nm,.slice A1 l1.length c1,.int .i64 rt,.slice A3 l3.length c3,.int .i64 at_]] w fun e w'=>e=.returned (.string r)∧Below w.heap.size w w':=by
  have hu34:=Try.underlying34
  have hu39:=Try.underlying39
  unfold show_Func.f at h
  by_cases hg:l1.length≤1000000
  rotate_left
  · rw [if_neg hg] at h
    cases h
  rw [if_pos hg] at h
  obtain ⟨ps,hps,h⟩:=Option.bind_eq_some_iff.mp h
  by_cases hsz:nm.size+ps.size+12≤140737488355328
  rotate_left
  · rw [if_neg hsz] at h
    cases h
  rw [if_pos hsz] at h
  obtain ⟨acc0,hacc,h⟩:=Option.bind_eq_some_iff.mp h
  by_cases hsz2:acc0.size+2≤140737488355328
  rotate_left
  · rw [if_neg hsz2] at h
    cases h
  rw [if_pos hsz2] at h
  obtain rfl:=Option.some.inj h
  have HG:=aM hg
  have HPS:=aM hps
  have HSZ:=aM hsz
  have HACC:=aM hacc
  have HSZ2:=aM hsz2
  have HC1:=aM (And.intro h1 h1')
  have HC3:=aM (And.intro h3 h3')
  have HM3:=aM (Kd.C_max h3)
  clear h hg hps hsz hacc hsz2 h1 h1' h3 h3'
  go_enter Try.func11,Try.ntmps11
  go_upto_region 3 with (fail)
  have s1:(w.alloc (.cells #[.string nm,.slice A1 l1.length c1,.int .i64 rt,.slice A3 l3.length c3,.int .i64 at_] 34)).heap.size=w.heap.size+1:=by simp
  have s2:((w.alloc (.cells #[.string nm,.slice A1 l1.length c1,.int .i64 rt,.slice A3 l3.length c3,.int .i64 at_] 34)).alloc (.cells #[.pointer none,.slice none 0 0] 55)).heap.size=w.heap.size+1+1:=by simp
  have k3:=blk_new (w.alloc (.cells #[.string nm,.slice A1 l1.length c1,.int .i64 rt,.slice A3 l3.length c3,.int .i64 at_] 34)) (.cells #[.pointer none,.slice none 0 0] 55)
  rw [s1] at k3
  have k4:=blk_new ((w.alloc (.cells #[.string nm,.slice A1 l1.length c1,.int .i64 rt,.slice A3 l3.length c3,.int .i64 at_] 34)).alloc (.cells #[.pointer none,.slice none 0 0] 55)) (.cells #[] 9)
  rw [s2] at k4
  have HX:=aM (show LtAt w.heap.size (w.heap.size+1) #[.string nm,.slice A1 l1.length c1,.int .i64 rt,.slice A3 l3.length c3,.int .i64 at_] (.slice (some ⟨w.heap.size+1+1,0,none⟩) 0 0) [] w (((w.alloc (.cells #[.string nm,.slice A1 l1.length c1,.int .i64 rt,.slice A3 l3.length c3,.int .i64 at_] 34)).alloc (.cells #[.pointer none,.slice none 0 0] 55)).alloc (.cells #[] 9)) from
    ⟨blk_alloc (blk_alloc (blk_new _ _) _) _,blk_alloc k3 _,row_empty (c:=0) (by omega) k4,Nat.le_succ _,below_alloc (below_alloc (below_alloc (Below.refl _ _) _) _) _⟩)
  clear s1 s2 k3 k4
  generalize (((w.alloc (.cells #[.string nm,.slice A1 l1.length c1,.int .i64 rt,.slice A3 l3.length c3,.int .i64 at_] 34)).alloc (.cells #[.pointer none,.slice none 0 0] 55)).alloc (.cells #[] 9))=W0 at HX ⊢
  generalize w.heap.size+1+1=b4 at HX ⊢
  generalize w.heap.size+1=b3 at HX ⊢
  generalize hb1:w.heap.size=b1 at HX ⊢
  clear hb1
  have z1:=blk_cell HX.out.box 1
  go_wp2
  (try simp only [Act.put,qA,qB,qC])
  clear z1
  go_loopg [4,15] l1.length (fun kq v4 v15 w'=>∃ (j:Int),v15=.int .i64 j∧Aside0 (0≤j∧j≤(l1.length:Int))∧Aside0 (LtAt b1 b3 #[.string nm,.slice A1 l1.length c1,.int .i64 rt,.slice A3 l3.length c3,.int .i64 at_] v4 (lettersW (l1.take j.toNat)) w w')∧Aside0 (kq=l1.length - j.toNat))
  case atStart=>exact ⟨0,rfl,⟨by omega⟩,⟨HX.out⟩,⟨rfl⟩⟩
  case round=>
    clear HX
    obtain ⟨j,rfl,HJ,HX,HK⟩:=hrel
    obtain ⟨A0,c0,e0⟩:=Kd.R_slice HX.out.row
    subst e0
    by_cases hj:j<(l1.length:Int)
    · have dj:decide (j<(l1.length:Int))=true:=decide_eq_true hj
      obtain ⟨ad1,e1,hx1⟩:=Kd.at_int HC1.out.1 j HJ.out.1 hj
      subst e1
      have hld:=letters_drop l1 j HJ.out.1 hj
      generalize rd l1 j=t1 at hx1 hld
      have HLD:=aM hld
      have hx1':=pw_cell_below HX.out.bel hx1
      have pj:=eq_true HJ.out.1
      have qj:=eq_true hj
      have HJ2:=aM hj
      have hlw:(lettersW (l1.take j.toNat)).length≤1000000:=by have:=HG.out;unfold lettersW;rw [List.length_map,List.length_take];omega
      generalize lettersW (l1.take j.toNat)=ws at *
      have HLW:=aM hlw
      clear hj hx1 hld hlw
      go_wp2_with fail
      refine (letter_calls t1 _).mono ?_
      rintro e wq ⟨rfl,hb_⟩
      have HX1:=aM (HX.out.below hb_)
      clear hb_ hx1' pj qj dj HX
      have HX2:=aM (HX1.out.below (below_alloc (Below.refl _ _) (.cells #[.string (mk (letterL t1))] 9)))
      have HC_:=aM (str_row (ys:=[mk (letterL t1)]) (blk_new wq (.cells #[.string (mk (letterL t1))] 9)) (by simp))
      go_wp2_with (first | ((with_reducible refine gate_builtin (b:=.append) (xs:=#[.tmp 19,.tmp 22]) rfl ?_);at_builtin;refine Kd.R_append_rows Kd.string (Rr:=fun x cs=>cs=[.string x]) w.heap.size rfl (.tmp 19) (.tmp 22) 56 9 (.string ⟨#[]⟩) 16 rfl Try.underlying56 (by kernel_rfl) rfl (by decide) (by omega) (.slice A0 ws.length c0) ws [mk (letterL t1)] (some ⟨wq.heap.size,0,none⟩) 1 1 (fun _=>True) (fun k=>True∧some k≠(Value.slice A0 ws.length c0).ownBlock) rfl rfl HX2.out.row HC_.out (fun x cs e=>e) (fun k hk=>⟨trivial,hk.2⟩) (fun k hk=>trivial) (Below.refl _ _) (below_size HX2.out.bel) (by have:=HLW.out;omega) ?_;intro v1 w4_ hr4 hb4 hg4 hv4;have HX9:=aM (HX2.out.put hr4 hg4);clear hr4 hb4 hg4 hv4))
      go_roundg (l1.length - (j+1).toNat)
      case measure=>have:=HK.out;have:=HJ.out;have:=HJ2.out;omega
      case rel=>exact ⟨j+1,by rw [show wrap64 (j+1)=j+1 from w64 (by have:=HJ.out;omega) (by have:=HJ2.out;have:=HG.out;omega)],⟨by have:=HJ.out;have:=HJ2.out;omega⟩,⟨by rw [HLD.out];exact HX9.out⟩,⟨rfl⟩⟩
    · have dj:decide (j<(l1.length:Int))=false:=decide_eq_false hj
      have hx:=HX.out
      have e2:l1.take j.toNat=l1:=List.take_of_length_le (by have:=HJ.out;omega)
      rw [e2] at hx ⊢
      have HXe:=aM hx
      clear hj hx HX
      have hps:=HPS.out
      have hlt:=letter_calls rt
      have hls:(mk (letterL rt)).size=1:=by rw [mk_size,letterL_len]
      have hac:=HACC.out
      generalize mk (letterL rt)=lt at hlt hls hac
      generalize lettersW l1=ws at *
      obtain ⟨A7,c7,e7,hl7,hC7⟩:=Kd.R_reads HXe.out.row
      cases e7
      have HLT:=aM hlt
      have HLS:=aM hls
      have HACD:=aM hac
      have HPT:=aM hps
      have HC7:=aM (And.intro hC7 hl7)
      clear hlt hls hac hps hC7 hl7 HPS HACC
      go_upto_region 8 with (fail)
      have HY0:=aM (HXe.out.below (below_drew1 (Below.refl _ _)))
      have NE1:=aM (show some b1≠some b3 from fun e=>by
        injection e with e
        have:=HXe.out.box
        rw [e,HXe.out.bu] at this
        injection this with this
        injection this with _ this
        exact absurd this (by decide))
      have ca0b0:(⟨#[102,117,110,99,32]⟩:ByteArray).size+nm.size≤9223372036854775807:=by
        have:=HSZ.out
        have:=HLS.out
        simp only [ByteArray.size_append,show (⟨#[102,117,110,99,32]⟩:ByteArray).size=5 from rfl,show (⟨#[40]⟩:ByteArray).size=1 from rfl,show (⟨#[41,32]⟩:ByteArray).size=2 from rfl,show (⟨#[32,123,10]⟩:ByteArray).size=3 from rfl]
        omega
      have ca0b1:decide ((⟨#[102,117,110,99,32]⟩:ByteArray).size+nm.size≤9223372036854775807)=true:=decide_eq_true ca0b0
      have ca0b2:(9223372036854775807<(⟨#[102,117,110,99,32]⟩:ByteArray).size+nm.size)=False:=eq_false (Nat.not_lt.2 ca0b0)
      have ca0b3:=ca0b2
      try simp only [ByteArray.size_append,show (⟨#[102,117,110,99,32]⟩:ByteArray).size=5 from rfl,show (⟨#[40]⟩:ByteArray).size=1 from rfl,show (⟨#[41,32]⟩:ByteArray).size=2 from rfl,show (⟨#[32,123,10]⟩:ByteArray).size=3 from rfl] at ca0b3
      replace ca0b0:=eq_true ca0b0
      have ca1b0:((⟨#[102,117,110,99,32]⟩:ByteArray)++nm).size+(⟨#[40]⟩:ByteArray).size≤9223372036854775807:=by
        have:=HSZ.out
        have:=HLS.out
        simp only [ByteArray.size_append,show (⟨#[102,117,110,99,32]⟩:ByteArray).size=5 from rfl,show (⟨#[40]⟩:ByteArray).size=1 from rfl,show (⟨#[41,32]⟩:ByteArray).size=2 from rfl,show (⟨#[32,123,10]⟩:ByteArray).size=3 from rfl]
        omega
      have ca1b1:decide (((⟨#[102,117,110,99,32]⟩:ByteArray)++nm).size+(⟨#[40]⟩:ByteArray).size≤9223372036854775807)=true:=decide_eq_true ca1b0
      have ca1b2:(9223372036854775807<((⟨#[102,117,110,99,32]⟩:ByteArray)++nm).size+(⟨#[40]⟩:ByteArray).size)=False:=eq_false (Nat.not_lt.2 ca1b0)
      have ca1b3:=ca1b2
      try simp only [ByteArray.size_append,show (⟨#[102,117,110,99,32]⟩:ByteArray).size=5 from rfl,show (⟨#[40]⟩:ByteArray).size=1 from rfl,show (⟨#[41,32]⟩:ByteArray).size=2 from rfl,show (⟨#[32,123,10]⟩:ByteArray).size=3 from rfl] at ca1b3
      replace ca1b0:=eq_true ca1b0
      have ca2b0:(((⟨#[102,117,110,99,32]⟩:ByteArray)++nm)++(⟨#[40]⟩:ByteArray)).size+ps.size≤9223372036854775807:=by
        have:=HSZ.out
        have:=HLS.out
        simp only [ByteArray.size_append,show (⟨#[102,117,110,99,32]⟩:ByteArray).size=5 from rfl,show (⟨#[40]⟩:ByteArray).size=1 from rfl,show (⟨#[41,32]⟩:ByteArray).size=2 from rfl,show (⟨#[32,123,10]⟩:ByteArray).size=3 from rfl]
        omega
      have ca2b1:decide ((((⟨#[102,117,110,99,32]⟩:ByteArray)++nm)++(⟨#[40]⟩:ByteArray)).size+ps.size≤9223372036854775807)=true:=decide_eq_true ca2b0
      have ca2b2:(9223372036854775807<(((⟨#[102,117,110,99,32]⟩:ByteArray)++nm)++(⟨#[40]⟩:ByteArray)).size+ps.size)=False:=eq_false (Nat.not_lt.2 ca2b0)
      have ca2b3:=ca2b2
      try simp only [ByteArray.size_append,show (⟨#[102,117,110,99,32]⟩:ByteArray).size=5 from rfl,show (⟨#[40]⟩:ByteArray).size=1 from rfl,show (⟨#[41,32]⟩:ByteArray).size=2 from rfl,show (⟨#[32,123,10]⟩:ByteArray).size=3 from rfl] at ca2b3
      replace ca2b0:=eq_true ca2b0
      have ca3b0:((((⟨#[102,117,110,99,32]⟩:ByteArray)++nm)++(⟨#[40]⟩:ByteArray))++ps).size+(⟨#[41,32]⟩:ByteArray).size≤9223372036854775807:=by
        have:=HSZ.out
        have:=HLS.out
        simp only [ByteArray.size_append,show (⟨#[102,117,110,99,32]⟩:ByteArray).size=5 from rfl,show (⟨#[40]⟩:ByteArray).size=1 from rfl,show (⟨#[41,32]⟩:ByteArray).size=2 from rfl,show (⟨#[32,123,10]⟩:ByteArray).size=3 from rfl]
        omega
      have ca3b1:decide (((((⟨#[102,117,110,99,32]⟩:ByteArray)++nm)++(⟨#[40]⟩:ByteArray))++ps).size+(⟨#[41,32]⟩:ByteArray).size≤9223372036854775807)=true:=decide_eq_true ca3b0
      have ca3b2:(9223372036854775807<((((⟨#[102,117,110,99,32]⟩:ByteArray)++nm)++(⟨#[40]⟩:ByteArray))++ps).size+(⟨#[41,32]⟩:ByteArray).size)=False:=eq_false (Nat.not_lt.2 ca3b0)
      have ca3b3:=ca3b2
      try simp only [ByteArray.size_append,show (⟨#[102,117,110,99,32]⟩:ByteArray).size=5 from rfl,show (⟨#[40]⟩:ByteArray).size=1 from rfl,show (⟨#[41,32]⟩:ByteArray).size=2 from rfl,show (⟨#[32,123,10]⟩:ByteArray).size=3 from rfl] at ca3b3
      replace ca3b0:=eq_true ca3b0
      have ca4b0:(((((⟨#[102,117,110,99,32]⟩:ByteArray)++nm)++(⟨#[40]⟩:ByteArray))++ps)++(⟨#[41,32]⟩:ByteArray)).size+lt.size≤9223372036854775807:=by
        have:=HSZ.out
        have:=HLS.out
        simp only [ByteArray.size_append,show (⟨#[102,117,110,99,32]⟩:ByteArray).size=5 from rfl,show (⟨#[40]⟩:ByteArray).size=1 from rfl,show (⟨#[41,32]⟩:ByteArray).size=2 from rfl,show (⟨#[32,123,10]⟩:ByteArray).size=3 from rfl]
        omega
      have ca4b1:decide ((((((⟨#[102,117,110,99,32]⟩:ByteArray)++nm)++(⟨#[40]⟩:ByteArray))++ps)++(⟨#[41,32]⟩:ByteArray)).size+lt.size≤9223372036854775807)=true:=decide_eq_true ca4b0
      have ca4b2:(9223372036854775807<(((((⟨#[102,117,110,99,32]⟩:ByteArray)++nm)++(⟨#[40]⟩:ByteArray))++ps)++(⟨#[41,32]⟩:ByteArray)).size+lt.size)=False:=eq_false (Nat.not_lt.2 ca4b0)
      have ca4b3:=ca4b2
      try simp only [ByteArray.size_append,show (⟨#[102,117,110,99,32]⟩:ByteArray).size=5 from rfl,show (⟨#[40]⟩:ByteArray).size=1 from rfl,show (⟨#[41,32]⟩:ByteArray).size=2 from rfl,show (⟨#[32,123,10]⟩:ByteArray).size=3 from rfl] at ca4b3
      replace ca4b0:=eq_true ca4b0
      have ca5b0:((((((⟨#[102,117,110,99,32]⟩:ByteArray)++nm)++(⟨#[40]⟩:ByteArray))++ps)++(⟨#[41,32]⟩:ByteArray))++lt).size+(⟨#[32,123,10]⟩:ByteArray).size≤9223372036854775807:=by
        have:=HSZ.out
        have:=HLS.out
        simp only [ByteArray.size_append,show (⟨#[102,117,110,99,32]⟩:ByteArray).size=5 from rfl,show (⟨#[40]⟩:ByteArray).size=1 from rfl,show (⟨#[41,32]⟩:ByteArray).size=2 from rfl,show (⟨#[32,123,10]⟩:ByteArray).size=3 from rfl]
        omega
      have ca5b1:decide (((((((⟨#[102,117,110,99,32]⟩:ByteArray)++nm)++(⟨#[40]⟩:ByteArray))++ps)++(⟨#[41,32]⟩:ByteArray))++lt).size+(⟨#[32,123,10]⟩:ByteArray).size≤9223372036854775807)=true:=decide_eq_true ca5b0
      have ca5b2:(9223372036854775807<((((((⟨#[102,117,110,99,32]⟩:ByteArray)++nm)++(⟨#[40]⟩:ByteArray))++ps)++(⟨#[41,32]⟩:ByteArray))++lt).size+(⟨#[32,123,10]⟩:ByteArray).size)=False:=eq_false (Nat.not_lt.2 ca5b0)
      have ca5b3:=ca5b2
      try simp only [ByteArray.size_append,show (⟨#[102,117,110,99,32]⟩:ByteArray).size=5 from rfl,show (⟨#[40]⟩:ByteArray).size=1 from rfl,show (⟨#[41,32]⟩:ByteArray).size=2 from rfl,show (⟨#[32,123,10]⟩:ByteArray).size=3 from rfl] at ca5b3
      replace ca5b0:=eq_true ca5b0
      refine start_ (n:=14) (S:=fun w'=>w'.cell? ⟨b1,0,none⟩=some (.string nm)∧w'.cell? ⟨b1,2,none⟩=some (.int .i64 rt)) (ds:=[13]) #[false,false,false,false,false,false,false,false,false,false,false,false,false,false] (by kernel_rfl) rfl rfl ⟨(blk_cell HY0.out.box 0),(blk_cell HY0.out.box 2)⟩ (fun hHeld=>?_)
      refine pure_ (i:=0) (N:=some 25) (v:=?_) (a':=?_) #[true,false,false,false,false,false,false,false,false,false,false,false,false,false] rfl rfl (by kernel_rfl) (fun _ _ _ h=>h) (Or.inl ⟨by rfl,?_⟩) ?_ ?_
      rotate_left
      · intro w'
        go_simp
        with_reducible rfl
      rotate_left
      · simp only [Act.put,qA,qB,qC,i64_w,i32_w]
        rfl
      refine pure_ (i:=4) (N:=some 29) (v:=?_) (a':=?_) #[true,false,false,false,true,false,false,false,false,false,false,false,false,false] rfl rfl (by kernel_rfl) (fun _ _ _ h=>h) (Or.inl ⟨by rfl,?_⟩) ?_ ?_
      rotate_left
      · intro w'
        go_simp
        with_reducible rfl
      rotate_left
      · simp only [Act.put,qA,qB,qC,i64_w,i32_w]
        rfl
      refine pure_ (i:=8) (N:=some 33) (v:=?_) (a':=?_) #[true,false,false,false,true,false,false,false,true,false,false,false,false,false] rfl rfl (by kernel_rfl) (fun _ _ _ h=>h) (Or.inl ⟨by rfl,?_⟩) ?_ ?_
      rotate_left
      · intro w'
        go_simp
        with_reducible rfl
      rotate_left
      · simp only [Act.put,qA,qB,qC,i64_w,i32_w]
        rfl
      refine take_ (i:=1) (N:=some 26) (v:=?_) (a':=?_) #[true,true,false,false,true,false,false,false,true,false,false,false,false,false] rfl rfl (by kernel_rfl) (fun _ _ _ h=>h) (Or.inl ⟨by rfl,?_⟩) hHeld ?_ ?_
      rotate_left
      · rintro w' ⟨s0,s1⟩
        go_simp
        with_reducible rfl
      rotate_left
      · simp only [Act.put,qA,qB,qC,i64_w,i32_w]
        rfl
      refine pure_ (i:=2) (N:=some 27) (v:=?_) (a':=?_) #[true,true,true,false,true,false,false,false,true,false,false,false,false,false] rfl rfl (by kernel_rfl) (fun _ _ _ h=>h) (Or.inl ⟨by rfl,?_⟩) ?_ ?_
      rotate_left
      · intro w'
        go_simp
        with_reducible rfl
      rotate_left
      · simp only [Act.put,qA,qB,qC,i64_w,i32_w]
        rfl
      refine pure_ (i:=3) (N:=some 28) (v:=?_) (a':=?_) #[true,true,true,true,true,false,false,false,true,false,false,false,false,false] rfl rfl (by kernel_rfl) (fun _ _ _ h=>h) (Or.inl ⟨by rfl,?_⟩) ?_ ?_
      rotate_left
      · intro w'
        go_simp
        with_reducible rfl
      rotate_left
      · simp only [Act.put,qA,qB,qC,i64_w,i32_w]
        rfl
      refine take_ (i:=9) (N:=some 34) (v:=?_) (a':=?_) #[true,true,true,true,true,false,false,false,true,true,false,false,false,false] rfl rfl (by kernel_rfl) (fun _ _ _ h=>h) (Or.inl ⟨by rfl,?_⟩) hHeld ?_ ?_
      rotate_left
      · rintro w' ⟨s0,s1⟩
        go_simp
        with_reducible rfl
      rotate_left
      · simp only [Act.put,qA,qB,qC,i64_w,i32_w]
        rfl
      refine one_ (i:=5) (N:=some 30) #[true,true,true,true,true,true,false,false,true,true,false,false,false,false] rfl rfl (by kernel_rfl) (by decide) (fun K hK=>?_)
      refine goes_ Try.func32 (by kernel_rfl) rfl #[.slice A0 ws.length c0] (by rfl) rfl rfl (by simp only [List.map_toArray,List.map_cons,List.map_nil];rfl) ?_
      with_reducible refine (show_line.calls A0 c0 ws ps _ (Kd.C_below HC7.out.1 (below_drew1 (Below.refl _ _))) HC7.out.2 HPT.out).mono ?_
      rintro e wq1 ⟨rfl,hb_⟩
      refine ⟨_,rfl,?_⟩
      have HY1:=aM (HY0.out.below hb_)
      clear hb_
      refine hK.out _ _ ⟨(blk_cell HY1.out.box 0),(blk_cell HY1.out.box 2)⟩ (fun hHeld=>?_)
      clear hK K
      refine norm_ (a':=?_) ?_ ?_
      rotate_left
      · show Act.put _ (some 30) _=_
        simp only [Act.put,qA,qB,qC,i64_w,i32_w]
        rfl
      refine pure_ (i:=6) (N:=some 31) (v:=?_) (a':=?_) #[true,true,true,true,true,true,true,false,true,true,false,false,false,false] rfl rfl (by kernel_rfl) (fun _ _ _ h=>h) (Or.inl ⟨by rfl,?_⟩) ?_ ?_
      rotate_left
      · intro w'
        go_simp
        with_reducible rfl
      rotate_left
      · simp only [Act.put,qA,qB,qC,i64_w,i32_w]
        rfl
      refine pure_ (i:=7) (N:=some 32) (v:=?_) (a':=?_) #[true,true,true,true,true,true,true,true,true,true,false,false,false,false] rfl rfl (by kernel_rfl) (fun _ _ _ h=>h) (Or.inl ⟨by rfl,?_⟩) ?_ ?_
      rotate_left
      · intro w'
        go_simp
        with_reducible rfl
      rotate_left
      · simp only [Act.put,qA,qB,qC,i64_w,i32_w]
        rfl
      refine one_ (i:=10) (N:=some 35) #[true,true,true,true,true,true,true,true,true,true,true,false,false,false] rfl rfl (by kernel_rfl) (by decide) (fun K hK=>?_)
      refine goes_ Try.func30 (by kernel_rfl) rfl #[.int .i64 rt] (by rfl) rfl rfl (by simp only [List.map_toArray,List.map_cons,List.map_nil];rfl) ?_
      with_reducible refine (HLT.out _).mono ?_
      rintro e wq2 ⟨rfl,hb_⟩
      refine ⟨_,rfl,?_⟩
      have HY2:=aM (HY1.out.below hb_)
      clear hb_
      have HT2:=aM (show TxAt b3 (⟨#[]⟩:ByteArray) w _ from ⟨isbF_fresh HY2.out.ge HY2.out.bu,HY2.out.bel⟩)
      refine hK.out _ _ ⟨(blk_cell HY2.out.box 0),(blk_cell HY2.out.box 2)⟩ (fun hHeld=>?_)
      clear hK K
      refine norm_ (a':=?_) ?_ ?_
      rotate_left
      · show Act.put _ (some 35) _=_
        simp only [Act.put,qA,qB,qC,i64_w,i32_w]
        rfl
      refine pure_ (i:=11) (N:=some 36) (v:=?_) (a':=?_) #[true,true,true,true,true,true,true,true,true,true,true,true,false,false] rfl rfl (by kernel_rfl) (fun _ _ _ h=>h) (Or.inl ⟨by rfl,?_⟩) ?_ ?_
      rotate_left
      · intro w'
        go_simp
        with_reducible rfl
      rotate_left
      · simp only [Act.put,qA,qB,qC,i64_w,i32_w]
        rfl
      refine pure_ (i:=12) (N:=some 37) (v:=?_) (a':=?_) #[true,true,true,true,true,true,true,true,true,true,true,true,true,false] rfl rfl (by kernel_rfl) (fun _ _ _ h=>h) (Or.inl ⟨by rfl,?_⟩) ?_ ?_
      rotate_left
      · intro w'
        go_simp
        with_reducible rfl
      rotate_left
      · simp only [Act.put,qA,qB,qC,i64_w,i32_w]
        rfl
      refine last_ (i:=13) (N:=some 38) #[true,true,true,true,true,true,true,true,true,true,true,true,true,true] rfl rfl (by kernel_rfl) (by decide) (fun K hK=>?_)
      refine goes_ Try.func31 (by kernel_rfl) rfl #[.pointer (some ⟨b3,0,none⟩),.string (funcH nm ps lt)] (by rfl) rfl rfl (by simp only [List.map_toArray,List.map_cons,List.map_nil];rfl) ?_
      with_reducible refine (tx_write (funcH nm ps lt) HT2.out (by have:=HSZ.out;have:=HLS.out;unfold funcH;simp only [ByteArray.size_append,show (⟨#[]⟩:ByteArray).size=0 from rfl,show (⟨#[102,117,110,99,32]⟩:ByteArray).size=5 from rfl,show (⟨#[40]⟩:ByteArray).size=1 from rfl,show (⟨#[41,32]⟩:ByteArray).size=2 from rfl,show (⟨#[32,123,10]⟩:ByteArray).size=3 from rfl];omega)).mono ?_
      rintro e wq3 ⟨rfl,ht_,hk_⟩
      refine ⟨_,rfl,?_⟩
      have HT3:=aM ht_
      have HB3:=aM (hk_ _ _ HY2.out.box NE1.out (by intro c fz e;cases e))
      clear ht_ hk_
      refine hK.out _ _ ?_
      clear hK K
      refine norm_ (a':=?_) ?_ ?_
      rotate_left
      · show Act.put _ (some 38) _=_
        simp only [Act.put,qA,qB,qC,i64_w,i32_w]
        rfl
      refine done_ (by kernel_rfl) ?_
      have y3:wq3.cell? ⟨b1,3,none⟩=some (.slice A3 l3.length c3):=blk_cell HB3.out 3
      clear HY0 HY1 HY2 HT2 HB3 HXe
      clear ca0b0 ca0b1 ca0b2 ca0b3
      clear ca1b0 ca1b1 ca1b2 ca1b3
      clear ca2b0 ca2b1 ca2b2 ca2b3
      clear ca3b0 ca3b1 ca3b2 ca3b3
      clear ca4b0 ca4b1 ca4b2 ca4b3
      clear ca5b0 ca5b1 ca5b2 ca5b3
      go_wp2
      (try simp only [Act.put,qA,qB,qC])
      clear y3
      go_loopg [42] l3.length (fun kq v42 w'=>∃ (i:Int) (ac:ByteArray),v42=.int .i64 i∧Aside0 (0≤i∧i≤(l3.length:Int))∧Aside0 (shBlocks ac i (l3.drop i.toNat)=some acc0)∧Aside0 (TxAt b3 ac w w')∧Aside0 (kq=l3.length - i.toNat))
      case atStart=>exact ⟨0,_,rfl,⟨by omega⟩,⟨HACD.out⟩,⟨by have h:=HT3.out;rwa [show (⟨#[]⟩:ByteArray)++funcH nm ps lt=funcH nm ps lt from ByteArray.empty_append] at h⟩,⟨rfl⟩⟩
      case round=>
        clear HT3 HACD
        obtain ⟨i,ac,rfl,HI,HF,HT,HK2⟩:=hrel
        by_cases hi:i<(l3.length:Int)
        · have d1:decide (i<(l3.length:Int))=true:=decide_eq_true hi
          have hf:=HF.out
          rw [drop_cons l3 i [] HI.out.1 hi] at hf
          simp only [shBlocks] at hf
          obtain ⟨z,hz,hf⟩:=Option.bind_eq_some_iff.mp hf
          by_cases hzs:ac.size+(z.size+2)≤140737488355328
          rotate_left
          · rw [if_neg hzs] at hf
            cases hf
          rw [if_pos hzs] at hf
          obtain ⟨a2,ha2,hf⟩:=Option.bind_eq_some_iff.mp hf
          obtain ⟨ad2,cs,e2,-,hK,hc0⟩:=Kd.C_get HC3.out.1 ([]:List (S39)) i HI.out.1 hi
          obtain ⟨A5,c5,rfl,l5,g5⟩:=hK
          subst e2
          have hx2:=hc0 0 _ rfl
          rw [show i.toNat * (Kd.slice 39 k39).sz+0=i.toNat from by show i.toNat * 1+0=_;omega] at hx2
          replace hx2:=pw_cell_below HT.out.bel hx2
          clear hc0
          generalize l3.getD i.toNat []=bl at ha2 hx2 l5 g5
          have HZ:=aM hz
          have HZS:=aM hzs
          have HA2:=aM ha2
          have HF2:=aM hf
          have HG5:=aM g5
          have HL5:=aM l5
          have HM5:=aM (Kd.C_max g5)
          have p1:=eq_true HI.out.1
          have q1:=eq_true hi
          have HI2:=aM hi
          have cz0:z.size+(⟨#[58,10]⟩:ByteArray).size≤9223372036854775807:=by have:=HZS.out;rw [show (⟨#[58,10]⟩:ByteArray).size=2 from rfl];omega
          have cz1:decide (z.size+(⟨#[58,10]⟩:ByteArray).size≤9223372036854775807)=true:=decide_eq_true cz0
          have cz2:(9223372036854775807<z.size+(⟨#[58,10]⟩:ByteArray).size)=False:=eq_false (Nat.not_lt.2 cz0)
          have cz3:=cz2
          (try simp only [show (⟨#[58,10]⟩:ByteArray).size=2 from rfl] at cz3)
          replace cz0:=eq_true cz0
          clear hz hzs ha2 hf g5 l5 hi HF
          go_wp2_with fail
          refine (show_label.calls i z _ HZ.out).mono ?_
          rintro e w4 ⟨rfl,hb_⟩
          have HT4:=aM (HT.out.below hb_)
          clear hb_ hx2 p1 q1 d1 HT
          go_wp2_with fail
          refine (tx_write (z++(⟨#[58,10]⟩:ByteArray)) HT4.out (by have:=HZS.out;simp only [ByteArray.size_append,show (⟨#[58,10]⟩:ByteArray).size=2 from rfl];omega)).mono ?_
          rintro e w5 ⟨rfl,ht_,-⟩
          have HT5:=aM ht_
          clear ht_ cz0 cz1 cz2 cz3 HT4
          go_wp2
          (try simp only [Act.put,qA,qB,qC])
          go_loopg [53] bl.length (fun kq v53 w'=>∃ (q:Int) (bc:ByteArray),v53=.int .i64 q∧Aside0 (0≤q∧q≤(bl.length:Int))∧Aside0 (shCode bc (bl.drop q.toNat)=some a2)∧Aside0 (TxAt b3 bc w w')∧Aside0 (kq=bl.length - q.toNat))
          case atStart=>exact ⟨0,_,rfl,⟨by omega⟩,⟨HA2.out⟩,⟨HT5.out⟩,⟨rfl⟩⟩
          case round=>
            clear HT5 HA2
            obtain ⟨q,bc,rfl,HQ2,HS,HT,HKQ⟩:=hrel
            by_cases hq:q<(bl.length:Int)
            · have dj:decide (q<(bl.length:Int))=true:=decide_eq_true hq
              have hs:=HS.out
              rw [drop_cons bl q z39 HQ2.out.1 hq] at hs
              have hx:bl.getD q.toNat z39=rd_T39 bl q:=rfl
              rw [hx] at hs
              clear hx
              obtain ⟨ad3,B4,d4,B5,d5,e3,y0,y1,y2,y3,y4,y5,y6,y7,m4,h4,m5,h5⟩:=at_T39 (Kd.C_below HG5.out HT.out.bel) q HQ2.out.1 hq
              subst e3
              generalize rd_T39 bl q=x at hs y0 y1 y2 y3 y4 y5 y6 y7 m4 h4 m5 h5
              simp only [shCode] at hs
              obtain ⟨s,hse,hs⟩:=Option.bind_eq_some_iff.mp hs
              by_cases hss:bc.size+(s.size+3)≤140737488355328
              rotate_left
              · rw [if_neg hss] at hs
                cases hs
              rw [if_pos hss] at hs
              have HSE:=aM hse
              have HSS:=aM hss
              have HS2I:=aM hs
              have HX4:=aM (And.intro h4 h5)
              have HX5:=aM (And.intro m4 m5)
              have pj:=eq_true HQ2.out.1
              have qj:=eq_true hq
              have HQ3:=aM hq
              clear hq hs h4 h5 m4 m5 HS hse hss
              have hbx:=blk_new wr (.cells #[.int .i64 x.f0,.int .i64 x.f1,.int .i64 x.f2,.int .i64 x.f3,.slice B4 x.f4.length d4,.slice B5 x.f5.length d5,.string x.f6,.int .i64 x.f7] 39)
              have hbb:=below_alloc (Below.refl wr.heap.size wr) (.cells #[.int .i64 x.f0,.int .i64 x.f1,.int .i64 x.f2,.int .i64 x.f3,.slice B4 x.f4.length d4,.slice B5 x.f5.length d5,.string x.f6,.int .i64 x.f7] 39)
              go_upto_region 16 with (fail)
              have HT2:=aM (HT.out.below hbb)
              have HC4:=aM (Kd.C_below HX4.out.1 hbb)
              have HC5:=aM (Kd.C_below HX4.out.2 hbb)
              clear hbb y0 y1 y2 y3 y4 y5 y6 y7 pj qj dj HX4 HT
              generalize wr.alloc (.cells #[.int .i64 x.f0,.int .i64 x.f1,.int .i64 x.f2,.int .i64 x.f3,.slice B4 x.f4.length d4,.slice B5 x.f5.length d5,.string x.f6,.int .i64 x.f7] 39)=W5 at hbx HT2 HC4 HC5 ⊢
              generalize wr.heap.size=bx at hbx ⊢
              have u0:=blk_cell hbx 0
              have u1:=blk_cell hbx 1
              have u2:=blk_cell hbx 2
              have u3:=blk_cell hbx 3
              have u4:=blk_cell hbx 4
              have u5:=blk_cell hbx 5
              have u6:=blk_cell hbx 6
              have u7:=blk_cell hbx 7
              clear hbx
              have cs0:(⟨#[32,32]⟩:ByteArray).size+s.size≤9223372036854775807:=by have:=HSS.out;rw [show (⟨#[32,32]⟩:ByteArray).size=2 from rfl];omega
              have cs1:decide ((⟨#[32,32]⟩:ByteArray).size+s.size≤9223372036854775807)=true:=decide_eq_true cs0
              have cs2:(9223372036854775807<(⟨#[32,32]⟩:ByteArray).size+s.size)=False:=eq_false (Nat.not_lt.2 cs0)
              have cs3:=cs2
              (try simp only [show (⟨#[32,32]⟩:ByteArray).size=2 from rfl] at cs3)
              replace cs0:=eq_true cs0
              have ct0:((⟨#[32,32]⟩:ByteArray)++s).size+(⟨#[10]⟩:ByteArray).size≤9223372036854775807:=by have:=HSS.out;simp only [ByteArray.size_append,show (⟨#[32,32]⟩:ByteArray).size=2 from rfl,show (⟨#[10]⟩:ByteArray).size=1 from rfl];omega
              have ct1:decide (((⟨#[32,32]⟩:ByteArray)++s).size+(⟨#[10]⟩:ByteArray).size≤9223372036854775807)=true:=decide_eq_true ct0
              have ct2:(9223372036854775807<((⟨#[32,32]⟩:ByteArray)++s).size+(⟨#[10]⟩:ByteArray).size)=False:=eq_false (Nat.not_lt.2 ct0)
              have ct3:=ct2
              (try simp only [ByteArray.size_append,show (⟨#[32,32]⟩:ByteArray).size=2 from rfl,show (⟨#[10]⟩:ByteArray).size=1 from rfl] at ct3)
              replace ct0:=eq_true ct0
              go_wp2_with fail
              refine (show_Instr.calls x.f0 x.f1 x.f2 x.f3 B4 d4 x.f4 B5 d5 x.f5 x.f6 x.f7 s _ HC4.out HX5.out.1 HC5.out HX5.out.2 HSE.out).mono ?_
              rintro e w6 ⟨rfl,hb_⟩
              have HT6:=aM (HT2.out.below hb_)
              clear hb_ u0 u1 u2 u3 u4 u5 u6 u7 HT2 HC4 HC5
              go_wp2_with fail
              refine (tx_write (lineS s) HT6.out (by have:=HSS.out;unfold lineS;simp only [ByteArray.size_append,show (⟨#[32,32]⟩:ByteArray).size=2 from rfl,show (⟨#[10]⟩:ByteArray).size=1 from rfl];omega)).mono ?_
              rintro e w7 ⟨rfl,ht_,-⟩
              have HT7:=aM ht_
              clear ht_ cs0 cs1 cs2 cs3 ct0 ct1 ct2 ct3 HT6
              go_wp2
              go_roundg (bl.length - (q+1).toNat)
              case measure=>have:=HKQ.out;have:=HQ2.out;have:=HQ3.out;omega
              case rel=>exact ⟨q+1,_,by rw [show wrap64 (q+1)=q+1 from w64 (by have:=HQ2.out;omega) (by have:=HQ3.out;have:=HM5.out;omega)],⟨by have:=HQ2.out;have:=HQ3.out;omega⟩,⟨HS2I.out⟩,⟨HT7.out⟩,⟨rfl⟩⟩
            · have dj:decide (q<(bl.length:Int))=false:=decide_eq_false hq
              have hs:=HS.out
              rw [drop_none _ _ hq] at hs
              obtain rfl:=Option.some.inj hs
              clear hq hs HS
              go_wp2_with fail
              go_roundg (l3.length - (i+1).toNat)
              case measure=>have:=HK2.out;have:=HI2.out;have:=HI.out;omega
              case rel=>exact ⟨i+1,bc,by rw [show wrap64 (i+1)=i+1 from w64 (by have:=HI.out;omega) (by have:=HI2.out;have:=HM3.out;omega)],⟨by have:=HI.out;have:=HI2.out;omega⟩,⟨HF2.out⟩,⟨HT.out⟩,⟨rfl⟩⟩
        · have d1:decide (i<(l3.length:Int))=false:=decide_eq_false hi
          have hf:=HF.out
          rw [drop_none _ _ hi] at hf
          obtain rfl:=Option.some.inj hf
          clear hi hf HF
          go_wp2_with fail
          refine (tx_write (⟨#[125,10]⟩:ByteArray) HT.out HSZ2.out).mono ?_
          rintro e w7 ⟨rfl,ht_,-⟩
          have HT7:=aM ht_
          clear ht_ HT
          obtain ⟨res,hres⟩:∃ res,ac++(⟨#[125,10]⟩:ByteArray)=⟨res⟩:=⟨_,rfl⟩
          rw [hres] at HT7
          have HRES:=aM hres
          clear hres
          go_wp2_with fail
          refine (builder_String w.heap.size b3 res.toList _ (by rw [show Lib.byteCells res.toList=Lib.strCells ⟨res⟩ from rfl];exact HT7.out.bu) HT7.out.bel.size).mono ?_
          rintro e w8 ⟨rfl,hb8⟩
          have HB8:=aM (HT7.out.bel.trans hb8)
          clear hb8
          go_wp2
          go_ret
          exact ⟨(congrArg (fun z=>Ending.returned (Value.string z)) HRES.out).symm,HB8.out⟩
end Go.Proofs.Ytkjdblbgmomieaa.PSh
end
section
namespace Go.Proofs.Ytkjdblbgmomieaa.PSh
set_option maxHeartbeats 8000000
set_option maxRecDepth 100000
open Go.RowKit Go.Proofs.YtkjdblbgmomieaaW.PrintWords Go.Proofs.YtkjdblbgmomieaaW.PrintLast Go.Proofs.YtkjdblbgmomieaaW.PrintMore Go.Proofs.Ytkjdblbgmomieaa.Str
set_option linter.unusedVariables false
set_option linter.unusedSimpArgs false
def funcS (x:S34):Option ByteArray:=show_Func.f x.f0 x.f1 x.f2 x.f3 x.f4
def shText:ByteArray→List (S34)→Option ByteArray
  | acc,[]=>some acc
  | acc,x::xs=>(funcS x).bind fun s=>if acc.size+s.size≤140737488355328 then shText (acc++s) xs else none
def show_Text.f (fs:List (S34)):Option ByteArray:=shText (⟨#[]⟩:ByteArray) fs
theorem show_Text.calls (A0:Option Addr) (c0:Nat) (fs:List (S34)) (r:ByteArray) (w:World) (hr:Kd.C k34 w A0 fs.length fs) (hc:fs.length≤c0) (h:show_Text.f fs=some r):
    Calls Try.prog 15 #[.agg #[.slice A0 fs.length c0]] w fun e w'=>e=.returned (.string r)∧Below w.heap.size w w':=by
  have hu24:=Try.underlying24
  have hu34:=Try.underlying34
  have HC:=aM hr
  have HM:=aM (Kd.C_max hr)
  have HF:=aM (show shText (⟨#[]⟩:ByteArray) fs=some r from h)
  clear hr h
  go_enter Try.func15,Try.ntmps15
  go_upto_region 2 with (fail)
  have s1:(w.alloc (.cells #[.slice A0 fs.length c0] 24)).heap.size=w.heap.size+1:=by simp
  have k3:=blk_new (w.alloc (.cells #[.slice A0 fs.length c0] 24)) (.cells #[.pointer none,.slice none 0 0] 55)
  rw [s1] at k3
  have hb1:=blk_alloc (blk_new w (.cells #[.slice A0 fs.length c0] 24)) (.cells #[.pointer none,.slice none 0 0] 55)
  have HX:=aM (show TxAt (w.heap.size+1) (⟨#[]⟩:ByteArray) w ((w.alloc (.cells #[.slice A0 fs.length c0] 24)).alloc (.cells #[.pointer none,.slice none 0 0] 55)) from
    ⟨isbF_fresh (Nat.le_succ _) k3,below_alloc (below_alloc (Below.refl _ _) _) _⟩)
  clear s1 k3
  generalize ((w.alloc (.cells #[.slice A0 fs.length c0] 24)).alloc (.cells #[.pointer none,.slice none 0 0] 55))=W0 at HX hb1 ⊢
  generalize w.heap.size+1=b3 at HX ⊢
  generalize hb:w.heap.size=b1 at HX hb1 ⊢
  clear hb
  have z0:=blk_cell hb1 0
  go_wp2
  (try simp only [Act.put,qA,qB,qC])
  clear hb1 z0
  go_loopg [9] fs.length (fun kq v9 w'=>∃ (i:Int) (ac:ByteArray),v9=.int .i64 i∧Aside0 (0≤i∧i≤(fs.length:Int))∧Aside0 (shText ac (fs.drop i.toNat)=some r)∧Aside0 (TxAt b3 ac w w')∧Aside0 (kq=fs.length - i.toNat))
  case atStart=>exact ⟨0,_,rfl,⟨by omega⟩,⟨HF.out⟩,⟨HX.out⟩,⟨rfl⟩⟩
  case round=>
    clear HX HF
    obtain ⟨i,ac,rfl,HI,HF,HT,HK⟩:=hrel
    by_cases hi:i<(fs.length:Int)
    · have d1:decide (i<(fs.length:Int))=true:=decide_eq_true hi
      have hf:=HF.out
      rw [drop_cons fs i z34 HI.out.1 hi] at hf
      have hx:fs.getD i.toNat z34=rd_T34 fs i:=rfl
      rw [hx] at hf
      clear hx
      obtain ⟨ad,B1,d1',B3,d3,e_,y0,y1,y2,y3,y4,l1,g1,l3,g3⟩:=at_T34 (Kd.C_below HC.out HT.out.bel) i HI.out.1 hi
      subst e_
      generalize rd_T34 fs i=x at hf y0 y1 y2 y3 y4 l1 g1 l3 g3
      simp only [shText] at hf
      obtain ⟨s,hs,hf⟩:=Option.bind_eq_some_iff.mp hf
      by_cases hss:ac.size+s.size≤140737488355328
      rotate_left
      · rw [if_neg hss] at hf
        cases hf
      rw [if_pos hss] at hf
      have HS:=aM hs
      have HSS:=aM hss
      have HF2:=aM hf
      have HL:=aM (And.intro l1 l3)
      have HG1:=aM g1
      have HG3:=aM g3
      have p1:=eq_true HI.out.1
      have q1:=eq_true hi
      have HI2:=aM hi
      clear hi hf l1 g1 l3 g3 hs hss HF
      have hbx:=blk_new wr (.cells #[.string x.f0,.slice B1 x.f1.length d1',.int .i64 x.f2,.slice B3 x.f3.length d3,.int .i64 x.f4] 34)
      have hbb:=below_alloc (Below.refl wr.heap.size wr) (.cells #[.string x.f0,.slice B1 x.f1.length d1',.int .i64 x.f2,.slice B3 x.f3.length d3,.int .i64 x.f4] 34)
      go_upto_region 5 with (fail)
      have HT2:=aM (HT.out.below hbb)
      have HC1:=aM (Kd.C_below HG1.out hbb)
      have HC3:=aM (Kd.C_below HG3.out hbb)
      clear hbb y0 y1 y2 y3 y4 p1 q1 d1 HG1 HG3 HT
      generalize wr.alloc (.cells #[.string x.f0,.slice B1 x.f1.length d1',.int .i64 x.f2,.slice B3 x.f3.length d3,.int .i64 x.f4] 34)=W5 at hbx HT2 HC1 HC3 ⊢
      generalize wr.heap.size=bx at hbx ⊢
      have u0:=blk_cell hbx 0
      have u1:=blk_cell hbx 1
      have u2:=blk_cell hbx 2
      have u3:=blk_cell hbx 3
      have u4:=blk_cell hbx 4
      clear hbx
      go_wp2_with fail
      refine (show_Func.calls x.f0 B1 d1' x.f1 x.f2 B3 d3 x.f3 x.f4 s _ HC1.out HL.out.1 HC3.out HL.out.2 HS.out).mono ?_
      rintro e w6 ⟨rfl,hb_⟩
      have HT6:=aM (HT2.out.below hb_)
      clear hb_ u0 u1 u2 u3 u4 HT2 HC1 HC3
      go_wp2_with fail
      refine (tx_write s HT6.out HSS.out).mono ?_
      rintro e w7 ⟨rfl,ht_,-⟩
      have HT7:=aM ht_
      clear ht_ HT6
      go_wp2
      go_roundg (fs.length - (i+1).toNat)
      case measure=>have:=HK.out;have:=HI2.out;have:=HI.out;omega
      case rel=>exact ⟨i+1,_,by rw [show wrap64 (i+1)=i+1 from w64 (by have:=HI.out;omega) (by have:=HI2.out;have:=HM.out;omega)],⟨by have:=HI.out;have:=HI2.out;omega⟩,⟨HF2.out⟩,⟨HT7.out⟩,⟨rfl⟩⟩
    · have d1:decide (i<(fs.length:Int))=false:=decide_eq_false hi
      have hf:=HF.out
      rw [drop_none _ _ hi] at hf
      obtain rfl:=Option.some.inj hf
      clear hi hf HF
      obtain ⟨res⟩:=ac
      go_wp2_with fail
      refine (builder_String w.heap.size b3 res.toList _ (by rw [show Lib.byteCells res.toList=Lib.strCells ⟨res⟩ from rfl];exact HT.out.bu) HT.out.bel.size).mono ?_
      rintro e w8 ⟨rfl,hb8⟩
      have HB8:=aM (HT.out.bel.trans hb8)
      clear hb8
      go_wp2
      go_ret
      exact ⟨rfl,HB8.out⟩
end Go.Proofs.Ytkjdblbgmomieaa.PSh
end
