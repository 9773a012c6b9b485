import Derived.Test.YtkjdblbgmomieaaMr6
import Derived.Lib.OthersKept
import Derived.Test.YtkjdblbgmomieaaMr2
import Derived.Test.YtkjdblbgmomieaaMr1
import Derived.Laws.RangeAny
import Derived.Deep.RegionLaw
-- from YtkjdblbgmomieaaHFind
section
namespace Go.Proofs.Ytkjdblbgmomieaa.PSh
set_option maxHeartbeats 2000000
set_option maxRecDepth 100000
open Go.RowKit Go.Proofs.YtkjdblbgmomieaaW.PrintWords Go.Proofs.YtkjdblbgmomieaaW.PrintLast Go.Proofs.YtkjdblbgmomieaaW.PrintMore Go.Proofs.Ytkjdblbgmomieaa.Str
set_option linter.unusedVariables false
set_option linter.unusedSimpArgs false
def typedB (op:Nat):Bool:=op==20 || op==21 || op==24
def letterB (t:Nat):ByteArray:=if t=1 then mk [105] else if t=2 then mk [112] else if t=3 then mk [100] else mk [110]
def mayB (op t:Nat):Bool:=if op=20 then t==1 || t==2 || t==3 else if op=21 then t==0 || t==1 || t==2 else if op=24 then t==2 || t==3 else t==0
theorem typed_some (op:Nat):ops_typed.f op=some (typedB op):=by
  unfold ops_typed.f typedB
  by_cases h1:op=20
  · subst h1;rfl
  by_cases h2:op=21
  · subst h2;rfl
  rw [if_neg (by omega),if_neg (by omega)]
  by_cases h3:op=24
  · subst h3;rfl
  · have e1:(op==20)=false:=by simpa using h1
    have e2:(op==21)=false:=by simpa using h2
    have e3:(op==24)=false:=by simpa using h3
    have e4:((op:Int)==24)=false:=beq_eq_false_iff_ne.mpr (by omega)
    rw [e1,e2,e3,e4];rfl
theorem letter_some (t:Nat):ops_Letter.f t=some (letterB t):=by
  unfold ops_Letter.f letterB
  by_cases h1:t=1
  · subst h1;rfl
  by_cases h2:t=2
  · subst h2;rfl
  by_cases h3:t=3
  · subst h3;rfl
  rw [if_neg (by omega),if_neg (by omega),if_neg (by omega),if_neg h1,if_neg h2,if_neg h3]
theorem beq_nat (a b:Nat):((a:Int)==(b:Int))=(a==b):=by
  by_cases h:a=b
  · subst h;simp
  · have e1:(a==b)=false:=by simpa using h
    rw [e1];exact beq_eq_false_iff_ne.mpr (by omega)
theorem may_some (op t:Nat):ops_May.f op t=some (mayB op t):=by
  unfold ops_May.f mayB
  have b1:((t:Int)==1)=(t==1):=beq_nat t 1
  have b2:((t:Int)==2)=(t==2):=beq_nat t 2
  have b3:((t:Int)==3)=(t==3):=beq_nat t 3
  have b0:((t:Int)==0)=(t==0):=beq_nat t 0
  have o20:((op:Int)=20)=(op=20):=propext (by omega)
  have o21:((op:Int)=21)=(op=21):=propext (by omega)
  have o24:((op:Int)=24)=(op=24):=propext (by omega)
  have t0:((t:Int)=0)=(t=0):=propext (by omega)
  have t1:((t:Int)=1)=(t=1):=propext (by omega)
  have t2:((t:Int)=2)=(t=2):=propext (by omega)
  simp only [b0,b2,b3,o20,o21,o24,t0,t1,t2]
  by_cases h1:op=20<;>by_cases h2:op=21<;>by_cases h3:op=24<;>by_cases g0:t=0<;>by_cases g1:t=1<;>by_cases g2:t=2<;>first | (exfalso;omega) | simp [h1,h2,h3,g0,g1,g2]
def typeFrom (s w:ByteArray) (op:Nat):Nat→Nat→Option (Int × Int)
  | 0,_=>none
  | d+1,t=>if ((w++(⟨#[46]⟩:ByteArray)++letterB t).toList==s.toList)=true∧mayB op t=true then some (op,t) else typeFrom s w op d (t+1)
def findOne (s w:ByteArray) (op:Nat):Option (Int × Int):=if w.toList.isEmpty=true then none else if typedB op=true then typeFrom s w op 4 0 else if (w.toList==s.toList)=true then some (op,0) else none
def findFrom (s:ByteArray):Nat→Nat→Int × Int
  | 0,_=>(0,0)
  | d+1,op=>match findOne s (opRows.getD op noRow).w op with | some r=>r | none=>findFrom s d (op+1)
def ops_Find.f (a0:ByteArray):Option (Int × Int):=some (findFrom a0 30 0)
theorem ops_Find.calls (a0:ByteArray) (r1 r2:Int) (w:World) (h:ops_Find.f a0=some (r1,r2)):
    Calls Try.prog 99 #[.string a0] w fun e w'=>e=.returned (.tuple #[.int .i64 r1,.int .i64 r2])∧Below w.heap.size w w':=by
  have hR:findFrom a0 30 0=(r1,r2):=Option.some.inj h
  clear h
  have HR:=aM hR
  clear hR
  have hix:=fun n hn W=>run_index_rows n hn W
  go_enter Try.func99,Try.ntmps99
  go_wp2_with fail
  refine (ops_rows.calls _).mono ?_
  rintro e w0 ⟨rfl,hb⟩
  have HB0:=aM hb
  clear hb
  go_wp2
  go_loopg [8] 30 (fun kq v8 w'=>∃ i:Nat,v8=.int .i64 i∧Aside0 (i≤30)∧Aside0 (findFrom a0 (30 - i) i=(r1,r2))∧Aside0 (Below w.heap.size w w')∧Aside0 (kq=30 - i))
  case atStart=>exact ⟨0,rfl,⟨by omega⟩,HR,HB0,⟨rfl⟩⟩
  case round=>
    obtain ⟨i,rfl,HI,HF,HB,HK⟩:=hrel
    clear HR HB0
    have hi:=HI.out
    by_cases hi2:i<30
    · have hd:decide ((i:Int)<30)=true:=decide_eq_true (by omega)
      have hix1:=fun W=>hix i hi2 W
      have hE:=HF.out
      rw [show 30 - i=(29 - i)+1 by omega,findFrom] at hE
      obtain ⟨o,ho⟩:∃ o,opRows.getD i noRow=o:=⟨_,rfl⟩
      rw [ho] at hE
      have hix2:∀ W,(Instr.index 114 (.agg rowsV) (.int .i64 i)).run Try.prog W=.ok (.agg (rowCells o).toArray) W:=fun W=>ho ▸ run_index_rows i hi2 W
      have HE:=aM hE
      have hsz:o.w.size≤10:=by
        have key:∀ n,n<30→(opRows.getD n noRow).w.size≤10:=by decide+kernel
        rw [← ho];exact key i hi2
      have HZ:=aM hsz
      clear hE HF ho hix hix1 hsz
      have HB1:=aM (below_alloc HB.out (.cells (rowCells o).toArray 96))
      have c0:(wr.alloc (.cells (rowCells o).toArray 96)).cell? ⟨wr.heap.size,0,none⟩=some (.string o.w):=(blk_cell (blk_new wr _) 0).trans rfl
      have HC:=aM c0
      clear c0
      by_cases he:o.w.toList.isEmpty=true
      · have HN:=aM (show findFrom a0 (29 - i) (i+1)=(r1,r2) by have h9:=HE.out;unfold findOne at h9;rw [if_pos he] at h9;exact h9)
        clear HE
        go_wp2_with (first | ((with_reducible refine gate_store (t:=96) (p:=5) (v:=.tmp 11) rfl ?_);refine wpList_store_newR rfl 96 (.tmp 5) (.tmp 11) rfl (rowCells noRow).toArray (rowCells o).toArray rfl rfl 96 (by kernel_rfl) rfl (by simp [rowCells,Value.oneCell']) ?_;have c0:=HC.out;generalize wr.alloc (.cells (rowCells o).toArray 96)=wa at *))
        go_roundg (29 - i)
        case measure=>have:=HK.out;omega
        case rel=>exact ⟨i+1,by simp,⟨by omega⟩,⟨by rw [show 30 - (i+1)=29 - i by omega];exact HN.out⟩,HB1,⟨by omega⟩⟩
      · have he2:o.w.toList.isEmpty=false:=by simpa using he
        have HN:=aM (show (match (if typedB i=true then typeFrom a0 o.w i 4 0 else if (o.w.toList==a0.toList)=true then some ((i:Int),(0:Int)) else none) with | some r=>r | none=>findFrom a0 (29 - i) (i+1))=(r1,r2) by have h9:=HE.out;unfold findOne at h9;rw [if_neg he] at h9;exact h9)
        clear HE he
        go_wp2_with (first | ((with_reducible refine gate_store (t:=96) (p:=5) (v:=.tmp 11) rfl ?_);refine wpList_store_newR rfl 96 (.tmp 5) (.tmp 11) rfl (rowCells noRow).toArray (rowCells o).toArray rfl rfl 96 (by kernel_rfl) rfl (by simp [rowCells,Value.oneCell']) ?_;have c0:=HC.out;generalize wr.alloc (.cells (rowCells o).toArray 96)=wa at *))
        go_wp2_with fail
        refine (ops_typed.calls i (typedB i) _ (typed_some i)).mono ?_
        rintro e w1 ⟨rfl,⟨n1,rfl⟩⟩
        have HB2:=aM (pw_below_drewN HB1.out n1)
        have c1:(wa.drewN n1).cell? ⟨wr.heap.size,0,none⟩=some (.string o.w):=c0
        generalize wa.drewN n1=wb at *
        clear c0 HC
        by_cases ht:typedB i=true
        · have h9:=HN.out
          rw [if_pos ht] at h9
          have HN:=aM h9
          clear h9
          rw [ht]
          clear HB HB1
          generalize wr.heap.size=g at *
          go_wp2_with fail
          refine (ops_typed.calls i (typedB i) _ (typed_some i)).mono ?_
          rintro e w1 ⟨rfl,⟨n1,rfl⟩⟩
          have HB3:=aM (pw_below_drewN HB2.out n1)
          have c2:(wb.drewN n1).cell? ⟨g,0,none⟩=some (.string o.w):=c1
          generalize wb.drewN n1=wc at *
          have HC2:=aM c2
          clear c1 c2 HB2
          rw [ht]
          go_wp2
          go_loopg [6] 4 (fun kq v6 w'=>∃ t:Nat,v6=.int .i64 t∧Aside0 (t≤4)∧Aside0 ((match typeFrom a0 o.w i (4 - t) t with | some r=>r | none=>findFrom a0 (29 - i) (i+1))=(r1,r2))∧Aside0 (w'.cell? ⟨g,0,none⟩=some (.string o.w))∧Aside0 (Below w.heap.size w w')∧Aside0 (kq=4 - t))
          case atStart=>exact ⟨0,rfl,⟨by omega⟩,HN,HC2,HB3,⟨rfl⟩⟩
          case round=>
            obtain ⟨t,rfl,HTI,HM,HCC,HBB,HKK⟩:=hrel
            clear HN HC2 HB3
            have hti:=HTI.out
            by_cases ht4:t<4
            · have hdt:decide ((t:Int)≤3)=true:=decide_eq_true (by omega)
              have cc:=HCC.out
              have hz:=HZ.out
              have hb1:(9223372036854775807<o.w.size+1)=False:=eq_false (by omega)
              clear hz
              have hls : (letterB t).size = 1 := by unfold letterB; repeat' split
                                                    all_goals rfl
              have hb2:(9223372036854775807<o.w.size+1+(letterB t).size)=False:=eq_false (by have:=HZ.out;omega)
              clear hls
              have h9:=HM.out
              rw [show 4 - t=(3 - t)+1 by omega,typeFrom] at h9
              clear HM
              by_cases hq:((o.w++(⟨#[46]⟩:ByteArray)++letterB t).toList==a0.toList)=true
              · by_cases hm:mayB i t=true
                · rw [if_pos ⟨hq,hm⟩] at h9
                  obtain ⟨rfl,rfl⟩:=Prod.mk.inj (show ((i:Int),(t:Int))=(r1,r2) from h9)
                  clear h9
                  go_upto_region 11 with (fail)
                  refine start_ (n:=13) (S:=fun w'=>w'.cell? ⟨g,0,none⟩=some (.string o.w)) (ds:=[]) #[false,false,false,false,false,false,false,false,false,false,false,false,false] (by kernel_rfl) rfl rfl (cc) (fun hHeld=>?_)
                  refine pure_ (i:=0) (N:=some 34) (v:=?_) (a':=?_) #[true,false,false,false,false,false,false,false,false,false,false,false,false] rfl rfl (by kernel_rfl) (fun _ _ _ h=>h) (Or.inl ⟨by rfl,?_⟩) ?_ ?_
                  rotate_left
                  · intro w'
                    go_simp
                    with_reducible rfl
                  rotate_left
                  · simp only [Act.put,qA,qB,qC,i64_w,i32_w]
                    rfl
                  refine pure_ (i:=3) (N:=some 37) (v:=?_) (a':=?_) #[true,false,false,true,false,false,false,false,false,false,false,false,false] rfl rfl (by kernel_rfl) (fun _ _ _ h=>h) (Or.inl ⟨by rfl,?_⟩) ?_ ?_
                  rotate_left
                  · intro w'
                    go_simp
                    with_reducible rfl
                  rotate_left
                  · simp only [Act.put,qA,qB,qC,i64_w,i32_w]
                    rfl
                  refine pure_ (i:=6) (N:=some 40) (v:=?_) (a':=?_) #[true,false,false,true,false,false,true,false,false,false,false,false,false] rfl rfl (by kernel_rfl) (fun _ _ _ h=>h) (Or.inl ⟨by rfl,?_⟩) ?_ ?_
                  rotate_left
                  · intro w'
                    go_simp
                    with_reducible rfl
                  rotate_left
                  · simp only [Act.put,qA,qB,qC,i64_w,i32_w]
                    rfl
                  refine take_ (i:=1) (N:=some 35) (v:=?_) (a':=?_) #[true,true,false,true,false,false,true,false,false,false,false,false,false] rfl rfl (by kernel_rfl) (fun _ _ _ h=>h) (Or.inl ⟨by rfl,?_⟩) hHeld ?_ ?_
                  rotate_left
                  · intro w' s0
                    go_simp
                    with_reducible rfl
                  rotate_left
                  · simp only [Act.put,qA,qB,qC,i64_w,i32_w]
                    rfl
                  refine pure_ (i:=2) (N:=some 36) (v:=?_) (a':=?_) #[true,true,true,true,false,false,true,false,false,false,false,false,false] rfl rfl (by kernel_rfl) (fun _ _ _ h=>h) (Or.inl ⟨by rfl,?_⟩) ?_ ?_
                  rotate_left
                  · intro w'
                    go_simp
                    with_reducible rfl
                  rotate_left
                  · simp only [Act.put,qA,qB,qC,i64_w,i32_w]
                    rfl
                  refine one_ (i:=4) (N:=some 38) #[true,true,true,true,true,false,true,false,false,false,false,false,false] rfl rfl (by kernel_rfl) (by decide) (fun K hK=>?_)
                  refine goes_ Try.func30 (by kernel_rfl) rfl #[.int .i64 t] (by rfl) rfl rfl (by simp only [List.map_toArray,List.map_cons,List.map_nil];rfl) ?_
                  with_reducible refine (ops_Letter.calls t (letterB t) _ (letter_some t)).mono ?_
                  rintro e w4 ⟨rfl,⟨n4,rfl⟩⟩
                  refine ⟨_,rfl,?_⟩
                  refine hK.out _ _ (cc) (fun hHeld=>?_)
                  clear hK K
                  refine norm_ (a':=?_) ?_ ?_
                  rotate_left
                  · show Act.put _ (some 38) _=_
                    simp only [Act.put,qA,qB,qC,i64_w,i32_w]
                    rfl
                  refine pure_ (i:=5) (N:=some 39) (v:=?_) (a':=?_) #[true,true,true,true,true,true,true,false,false,false,false,false,false] rfl rfl (by kernel_rfl) (fun _ _ _ h=>h) (Or.inl ⟨by rfl,?_⟩) ?_ ?_
                  rotate_left
                  · intro w'
                    go_simp
                    with_reducible rfl
                  rotate_left
                  · simp only [Act.put,qA,qB,qC,i64_w,i32_w]
                    rfl
                  refine pure_ (i:=7) (N:=some 41) (v:=?_) (a':=?_) #[true,true,true,true,true,true,true,true,false,false,false,false,false] rfl rfl (by kernel_rfl) (fun _ _ _ h=>h) (Or.inl ⟨by rfl,?_⟩) ?_ ?_
                  rotate_left
                  · intro w'
                    go_simp
                    with_reducible rfl
                  rotate_left
                  · simp only [Act.put,qA,qB,qC,i64_w,i32_w]
                    rfl
                  refine pure_ (i:=8) (N:=some 42) (v:=?_) (a':=?_) #[true,true,true,true,true,true,true,true,true,false,false,false,false] rfl rfl (by kernel_rfl) (fun _ _ _ h=>h) (Or.inl ⟨by rfl,?_⟩) ?_ ?_
                  rotate_left
                  · intro w'
                    go_simp
                    with_reducible rfl
                  rotate_left
                  · simp only [Act.put,qA,qB,qC,i64_w,i32_w]
                    rfl
                  refine pure_ (i:=9) (N:=some 43) (v:=?_) (a':=?_) #[true,true,true,true,true,true,true,true,true,true,false,false,false] rfl rfl (by kernel_rfl) (fun _ _ _ h=>h) (Or.inl ⟨by rfl,?_⟩) ?_ ?_
                  rotate_left
                  · intro w'
                    go_simp
                    with_reducible rfl
                  rotate_left
                  · simp only [Act.put,qA,qB,qC,i64_w,i32_w]
                    rfl
                  refine pure_ (i:=10) (N:=some 44) (v:=?_) (a':=?_) #[true,true,true,true,true,true,true,true,true,true,true,false,false] rfl rfl (by kernel_rfl) (fun _ _ _ h=>h) (Or.inl ⟨by rfl,?_⟩) ?_ ?_
                  rotate_left
                  · intro w'
                    go_simp
                    with_reducible rfl
                  rotate_left
                  · simp only [Act.put,qA,qB,qC,i64_w,i32_w]
                    rfl
                  refine one_ (i:=11) (N:=some 45) #[true,true,true,true,true,true,true,true,true,true,true,true,false] rfl rfl (by kernel_rfl) (by decide) (fun K hK=>?_)
                  refine goes_ Try.func47 (by kernel_rfl) rfl #[.int .i64 i,.int .i64 t] (by rfl) rfl rfl (by simp only [List.map_toArray,List.map_cons,List.map_nil];rfl) ?_
                  with_reducible refine (ops_May.calls i t (mayB i t) _ (may_some i t)).mono ?_
                  rintro e w5 ⟨rfl,⟨n5,rfl⟩⟩
                  refine ⟨_,rfl,?_⟩
                  refine hK.out _ _ (cc) (fun hHeld=>?_)
                  clear hK K
                  refine norm_ (a':=?_) ?_ ?_
                  rotate_left
                  · show Act.put _ (some 45) _=_
                    simp only [Act.put,qA,qB,qC,i64_w,i32_w]
                    rfl
                  refine pure_ (i:=12) (N:=some 46) (v:=?_) (a':=?_) #[true,true,true,true,true,true,true,true,true,true,true,true,true] rfl rfl (by kernel_rfl) (fun _ _ _ h=>h) (Or.inl ⟨by rfl,?_⟩) ?_ ?_
                  rotate_left
                  · intro w'
                    go_simp
                    with_reducible rfl
                  rotate_left
                  · simp only [Act.put,qA,qB,qC,i64_w,i32_w]
                    rfl
                  refine done_ (by kernel_rfl) ?_
                  go_wp2
                  go_ret2
                  exact ⟨rfl,pw_below_drewN (pw_below_drewN (below_drew HBB.out) _) _⟩
                · rw [if_neg (fun e=>hm e.2)] at h9
                  have HM2:=aM h9
                  have hm2:mayB i t=false:=by simpa using hm
                  clear h9 hm
                  go_upto_region 11 with (fail)
                  refine start_ (n:=13) (S:=fun w'=>w'.cell? ⟨g,0,none⟩=some (.string o.w)) (ds:=[]) #[false,false,false,false,false,false,false,false,false,false,false,false,false] (by kernel_rfl) rfl rfl (cc) (fun hHeld=>?_)
                  refine pure_ (i:=0) (N:=some 34) (v:=?_) (a':=?_) #[true,false,false,false,false,false,false,false,false,false,false,false,false] rfl rfl (by kernel_rfl) (fun _ _ _ h=>h) (Or.inl ⟨by rfl,?_⟩) ?_ ?_
                  rotate_left
                  · intro w'
                    go_simp
                    with_reducible rfl
                  rotate_left
                  · simp only [Act.put,qA,qB,qC,i64_w,i32_w]
                    rfl
                  refine pure_ (i:=3) (N:=some 37) (v:=?_) (a':=?_) #[true,false,false,true,false,false,false,false,false,false,false,false,false] rfl rfl (by kernel_rfl) (fun _ _ _ h=>h) (Or.inl ⟨by rfl,?_⟩) ?_ ?_
                  rotate_left
                  · intro w'
                    go_simp
                    with_reducible rfl
                  rotate_left
                  · simp only [Act.put,qA,qB,qC,i64_w,i32_w]
                    rfl
                  refine pure_ (i:=6) (N:=some 40) (v:=?_) (a':=?_) #[true,false,false,true,false,false,true,false,false,false,false,false,false] rfl rfl (by kernel_rfl) (fun _ _ _ h=>h) (Or.inl ⟨by rfl,?_⟩) ?_ ?_
                  rotate_left
                  · intro w'
                    go_simp
                    with_reducible rfl
                  rotate_left
                  · simp only [Act.put,qA,qB,qC,i64_w,i32_w]
                    rfl
                  refine take_ (i:=1) (N:=some 35) (v:=?_) (a':=?_) #[true,true,false,true,false,false,true,false,false,false,false,false,false] rfl rfl (by kernel_rfl) (fun _ _ _ h=>h) (Or.inl ⟨by rfl,?_⟩) hHeld ?_ ?_
                  rotate_left
                  · intro w' s0
                    go_simp
                    with_reducible rfl
                  rotate_left
                  · simp only [Act.put,qA,qB,qC,i64_w,i32_w]
                    rfl
                  refine pure_ (i:=2) (N:=some 36) (v:=?_) (a':=?_) #[true,true,true,true,false,false,true,false,false,false,false,false,false] rfl rfl (by kernel_rfl) (fun _ _ _ h=>h) (Or.inl ⟨by rfl,?_⟩) ?_ ?_
                  rotate_left
                  · intro w'
                    go_simp
                    with_reducible rfl
                  rotate_left
                  · simp only [Act.put,qA,qB,qC,i64_w,i32_w]
                    rfl
                  refine one_ (i:=4) (N:=some 38) #[true,true,true,true,true,false,true,false,false,false,false,false,false] rfl rfl (by kernel_rfl) (by decide) (fun K hK=>?_)
                  refine goes_ Try.func30 (by kernel_rfl) rfl #[.int .i64 t] (by rfl) rfl rfl (by simp only [List.map_toArray,List.map_cons,List.map_nil];rfl) ?_
                  with_reducible refine (ops_Letter.calls t (letterB t) _ (letter_some t)).mono ?_
                  rintro e w4 ⟨rfl,⟨n4,rfl⟩⟩
                  refine ⟨_,rfl,?_⟩
                  refine hK.out _ _ (cc) (fun hHeld=>?_)
                  clear hK K
                  refine norm_ (a':=?_) ?_ ?_
                  rotate_left
                  · show Act.put _ (some 38) _=_
                    simp only [Act.put,qA,qB,qC,i64_w,i32_w]
                    rfl
                  refine pure_ (i:=5) (N:=some 39) (v:=?_) (a':=?_) #[true,true,true,true,true,true,true,false,false,false,false,false,false] rfl rfl (by kernel_rfl) (fun _ _ _ h=>h) (Or.inl ⟨by rfl,?_⟩) ?_ ?_
                  rotate_left
                  · intro w'
                    go_simp
                    with_reducible rfl
                  rotate_left
                  · simp only [Act.put,qA,qB,qC,i64_w,i32_w]
                    rfl
                  refine pure_ (i:=7) (N:=some 41) (v:=?_) (a':=?_) #[true,true,true,true,true,true,true,true,false,false,false,false,false] rfl rfl (by kernel_rfl) (fun _ _ _ h=>h) (Or.inl ⟨by rfl,?_⟩) ?_ ?_
                  rotate_left
                  · intro w'
                    go_simp
                    with_reducible rfl
                  rotate_left
                  · simp only [Act.put,qA,qB,qC,i64_w,i32_w]
                    rfl
                  refine pure_ (i:=8) (N:=some 42) (v:=?_) (a':=?_) #[true,true,true,true,true,true,true,true,true,false,false,false,false] rfl rfl (by kernel_rfl) (fun _ _ _ h=>h) (Or.inl ⟨by rfl,?_⟩) ?_ ?_
                  rotate_left
                  · intro w'
                    go_simp
                    with_reducible rfl
                  rotate_left
                  · simp only [Act.put,qA,qB,qC,i64_w,i32_w]
                    rfl
                  refine pure_ (i:=9) (N:=some 43) (v:=?_) (a':=?_) #[true,true,true,true,true,true,true,true,true,true,false,false,false] rfl rfl (by kernel_rfl) (fun _ _ _ h=>h) (Or.inl ⟨by rfl,?_⟩) ?_ ?_
                  rotate_left
                  · intro w'
                    go_simp
                    with_reducible rfl
                  rotate_left
                  · simp only [Act.put,qA,qB,qC,i64_w,i32_w]
                    rfl
                  refine pure_ (i:=10) (N:=some 44) (v:=?_) (a':=?_) #[true,true,true,true,true,true,true,true,true,true,true,false,false] rfl rfl (by kernel_rfl) (fun _ _ _ h=>h) (Or.inl ⟨by rfl,?_⟩) ?_ ?_
                  rotate_left
                  · intro w'
                    go_simp
                    with_reducible rfl
                  rotate_left
                  · simp only [Act.put,qA,qB,qC,i64_w,i32_w]
                    rfl
                  refine one_ (i:=11) (N:=some 45) #[true,true,true,true,true,true,true,true,true,true,true,true,false] rfl rfl (by kernel_rfl) (by decide) (fun K hK=>?_)
                  refine goes_ Try.func47 (by kernel_rfl) rfl #[.int .i64 i,.int .i64 t] (by rfl) rfl rfl (by simp only [List.map_toArray,List.map_cons,List.map_nil];rfl) ?_
                  with_reducible refine (ops_May.calls i t (mayB i t) _ (may_some i t)).mono ?_
                  rintro e w5 ⟨rfl,⟨n5,rfl⟩⟩
                  refine ⟨_,rfl,?_⟩
                  refine hK.out _ _ (cc) (fun hHeld=>?_)
                  clear hK K
                  refine norm_ (a':=?_) ?_ ?_
                  rotate_left
                  · show Act.put _ (some 45) _=_
                    simp only [Act.put,qA,qB,qC,i64_w,i32_w]
                    rfl
                  refine pure_ (i:=12) (N:=some 46) (v:=?_) (a':=?_) #[true,true,true,true,true,true,true,true,true,true,true,true,true] rfl rfl (by kernel_rfl) (fun _ _ _ h=>h) (Or.inl ⟨by rfl,?_⟩) ?_ ?_
                  rotate_left
                  · intro w'
                    go_simp
                    with_reducible rfl
                  rotate_left
                  · simp only [Act.put,qA,qB,qC,i64_w,i32_w]
                    rfl
                  refine done_ (by kernel_rfl) ?_
                  go_wp2
                  go_roundg (3 - t)
                  case measure=>have:=HKK.out;omega
                  case rel=>exact ⟨t+1,by simp,⟨by omega⟩,⟨by rw [show 4 - (t+1)=3 - t by omega];exact HM2.out⟩,⟨HCC.out⟩,⟨pw_below_drewN HBB.out _⟩,⟨by omega⟩⟩
              · rw [if_neg (fun e=>hq e.1)] at h9
                have HM2:=aM h9
                have hq2:((o.w++(⟨#[46]⟩:ByteArray)++letterB t).toList==a0.toList)=false:=by simpa using hq
                clear h9 hq
                go_upto_region 11 with (fail)
                refine start_ (n:=13) (S:=fun w'=>w'.cell? ⟨g,0,none⟩=some (.string o.w)) (ds:=[]) #[false,false,false,false,false,false,false,false,false,false,false,false,false] (by kernel_rfl) rfl rfl (cc) (fun hHeld=>?_)
                refine pure_ (i:=0) (N:=some 34) (v:=?_) (a':=?_) #[true,false,false,false,false,false,false,false,false,false,false,false,false] rfl rfl (by kernel_rfl) (fun _ _ _ h=>h) (Or.inl ⟨by rfl,?_⟩) ?_ ?_
                rotate_left
                · intro w'
                  go_simp
                  with_reducible rfl
                rotate_left
                · simp only [Act.put,qA,qB,qC,i64_w,i32_w]
                  rfl
                refine pure_ (i:=3) (N:=some 37) (v:=?_) (a':=?_) #[true,false,false,true,false,false,false,false,false,false,false,false,false] rfl rfl (by kernel_rfl) (fun _ _ _ h=>h) (Or.inl ⟨by rfl,?_⟩) ?_ ?_
                rotate_left
                · intro w'
                  go_simp
                  with_reducible rfl
                rotate_left
                · simp only [Act.put,qA,qB,qC,i64_w,i32_w]
                  rfl
                refine pure_ (i:=6) (N:=some 40) (v:=?_) (a':=?_) #[true,false,false,true,false,false,true,false,false,false,false,false,false] rfl rfl (by kernel_rfl) (fun _ _ _ h=>h) (Or.inl ⟨by rfl,?_⟩) ?_ ?_
                rotate_left
                · intro w'
                  go_simp
                  with_reducible rfl
                rotate_left
                · simp only [Act.put,qA,qB,qC,i64_w,i32_w]
                  rfl
                refine take_ (i:=1) (N:=some 35) (v:=?_) (a':=?_) #[true,true,false,true,false,false,true,false,false,false,false,false,false] rfl rfl (by kernel_rfl) (fun _ _ _ h=>h) (Or.inl ⟨by rfl,?_⟩) hHeld ?_ ?_
                rotate_left
                · intro w' s0
                  go_simp
                  with_reducible rfl
                rotate_left
                · simp only [Act.put,qA,qB,qC,i64_w,i32_w]
                  rfl
                refine pure_ (i:=2) (N:=some 36) (v:=?_) (a':=?_) #[true,true,true,true,false,false,true,false,false,false,false,false,false] rfl rfl (by kernel_rfl) (fun _ _ _ h=>h) (Or.inl ⟨by rfl,?_⟩) ?_ ?_
                rotate_left
                · intro w'
                  go_simp
                  with_reducible rfl
                rotate_left
                · simp only [Act.put,qA,qB,qC,i64_w,i32_w]
                  rfl
                refine one_ (i:=4) (N:=some 38) #[true,true,true,true,true,false,true,false,false,false,false,false,false] rfl rfl (by kernel_rfl) (by decide) (fun K hK=>?_)
                refine goes_ Try.func30 (by kernel_rfl) rfl #[.int .i64 t] (by rfl) rfl rfl (by simp only [List.map_toArray,List.map_cons,List.map_nil];rfl) ?_
                with_reducible refine (ops_Letter.calls t (letterB t) _ (letter_some t)).mono ?_
                rintro e w4 ⟨rfl,⟨n4,rfl⟩⟩
                refine ⟨_,rfl,?_⟩
                refine hK.out _ _ (cc) (fun hHeld=>?_)
                clear hK K
                refine norm_ (a':=?_) ?_ ?_
                rotate_left
                · show Act.put _ (some 38) _=_
                  simp only [Act.put,qA,qB,qC,i64_w,i32_w]
                  rfl
                refine pure_ (i:=5) (N:=some 39) (v:=?_) (a':=?_) #[true,true,true,true,true,true,true,false,false,false,false,false,false] rfl rfl (by kernel_rfl) (fun _ _ _ h=>h) (Or.inl ⟨by rfl,?_⟩) ?_ ?_
                rotate_left
                · intro w'
                  go_simp
                  with_reducible rfl
                rotate_left
                · simp only [Act.put,qA,qB,qC,i64_w,i32_w]
                  rfl
                refine pure_ (i:=7) (N:=some 41) (v:=?_) (a':=?_) #[true,true,true,true,true,true,true,true,false,false,false,false,false] rfl rfl (by kernel_rfl) (fun _ _ _ h=>h) (Or.inl ⟨by rfl,?_⟩) ?_ ?_
                rotate_left
                · intro w'
                  go_simp
                  with_reducible rfl
                rotate_left
                · simp only [Act.put,qA,qB,qC,i64_w,i32_w]
                  rfl
                refine pure_ (i:=8) (N:=some 42) (v:=?_) (a':=?_) #[true,true,true,true,true,true,true,true,true,false,false,false,false] rfl rfl (by kernel_rfl) (fun _ _ _ h=>h) (Or.inl ⟨by rfl,?_⟩) ?_ ?_
                rotate_left
                · intro w'
                  go_simp
                  with_reducible rfl
                rotate_left
                · simp only [Act.put,qA,qB,qC,i64_w,i32_w]
                  rfl
                refine pure_ (i:=9) (N:=some 43) (v:=undef) (a':=?_) #[true,true,true,true,true,true,true,true,true,true,false,false,false] rfl rfl (by kernel_rfl) (fun _ _ _ h=>h) (Or.inr ⟨by rfl,rfl⟩) ?_ ?_
                rotate_left
                · simp only [Act.put,qA,qB,qC,i64_w,i32_w]
                  rfl
                refine pure_ (i:=10) (N:=some 44) (v:=undef) (a':=?_) #[true,true,true,true,true,true,true,true,true,true,true,false,false] rfl rfl (by kernel_rfl) (fun _ _ _ h=>h) (Or.inr ⟨by rfl,rfl⟩) ?_ ?_
                rotate_left
                · simp only [Act.put,qA,qB,qC,i64_w,i32_w]
                  rfl
                refine pure_ (i:=11) (N:=some 45) (v:=undef) (a':=?_) #[true,true,true,true,true,true,true,true,true,true,true,true,false] rfl rfl (by kernel_rfl) (fun _ _ _ h=>h) (Or.inr ⟨by rfl,rfl⟩) ?_ ?_
                rotate_left
                · simp only [Act.put,qA,qB,qC,i64_w,i32_w]
                  rfl
                refine pure_ (i:=12) (N:=some 46) (v:=?_) (a':=?_) #[true,true,true,true,true,true,true,true,true,true,true,true,true] rfl rfl (by kernel_rfl) (fun _ _ _ h=>h) (Or.inl ⟨by rfl,?_⟩) ?_ ?_
                rotate_left
                · intro w'
                  go_simp
                  with_reducible rfl
                rotate_left
                · simp only [Act.put,qA,qB,qC,i64_w,i32_w]
                  rfl
                refine done_ (by kernel_rfl) ?_
                go_wp2
                go_roundg (3 - t)
                case measure=>have:=HKK.out;omega
                case rel=>exact ⟨t+1,by simp,⟨by omega⟩,⟨by rw [show 4 - (t+1)=3 - t by omega];exact HM2.out⟩,⟨HCC.out⟩,⟨pw_below_drewN HBB.out _⟩,⟨by omega⟩⟩
            · have ht5:t=4:=by omega
              subst ht5
              have h9:=HM.out
              have HM2:=aM (show findFrom a0 (29 - i) (i+1)=(r1,r2) from h9)
              clear h9 HM
              go_wp2
              go_roundg (29 - i)
              case measure=>have:=HK.out;omega
              case rel=>exact ⟨i+1,by simp,⟨by omega⟩,⟨by rw [show 30 - (i+1)=29 - i by omega];exact HM2.out⟩,HBB,⟨by omega⟩⟩
        · have ht2:typedB i=false:=by simpa using ht
          have h9:=HN.out
          rw [if_neg ht] at h9
          rw [ht2]
          clear ht HN
          by_cases hs:(o.w.toList==a0.toList)=true
          · rw [if_pos hs] at h9
            obtain ⟨rfl,rfl⟩:=Prod.mk.inj (show ((i:Int),(0:Int))=(r1,r2) from h9)
            clear h9
            go_wp2
            go_ret2
            exact ⟨rfl,HB2.out⟩
          · rw [if_neg hs] at h9
            have hs2:(o.w.toList==a0.toList)=false:=by simpa using hs
            have HN:=aM (show findFrom a0 (29 - i) (i+1)=(r1,r2) from h9)
            clear h9 hs
            go_wp2_with fail
            refine (ops_typed.calls i (typedB i) _ (typed_some i)).mono ?_
            rintro e w1 ⟨rfl,⟨n1,rfl⟩⟩
            have HB3:=aM (pw_below_drewN HB2.out n1)
            rw [ht2]
            go_wp2
            go_roundg (29 - i)
            case measure=>have:=HK.out;omega
            case rel=>exact ⟨i+1,by simp,⟨by omega⟩,⟨by rw [show 30 - (i+1)=29 - i by omega];exact HN.out⟩,HB3,⟨by omega⟩⟩
    · have hi3:i=30:=by omega
      subst hi3
      have hE:=HF.out
      obtain ⟨rfl,rfl⟩:=Prod.mk.inj (show ((0,0):Int × Int)=(r1,r2) from hE)
      clear hE
      go_wp2
      go_ret2
      exact ⟨rfl,HB.out⟩
end Go.Proofs.Ytkjdblbgmomieaa.PSh
end
-- from YtkjdblbgmomieaaSplitPure
section
namespace Go.Proofs.Ytkjdblbgmomieaa.PSh
open Go.RowKit Go.Proofs.YtkjdblbgmomieaaW.PrintWords Go.Proofs.YtkjdblbgmomieaaW.PrintLast Go.Proofs.YtkjdblbgmomieaaW.PrintMore Go.Proofs.Ytkjdblbgmomieaa.Str
set_option linter.unusedVariables false
set_option linter.unusedSimpArgs false
abbrev Tok:=S101
def kindR (c:Int):Int:=
  if c=32∨c=9∨c=10∨c=13 then 0
  else if c=40∨c=41∨c=123∨c=125∨c=61∨c=58 then 1
  else if (97≤c∧c≤122)∨(65≤c∧c≤90)∨(48≤c∧c≤57) then 2
  else if c=46∨c=37∨c=64∨c=45∨c=95 then 2
  else if c=35 then 3 else 4
def closeW (s:ByteArray) (fr:Int) (i:Nat) (out:List Tok):List Tok:=if fr<0 then out else out++[⟨s.extract fr.toNat i,fr⟩]
def splitGo (s:ByteArray):List UInt8→Nat→Int→Bool→List Tok→List Tok × Int × Int
  | [],i,fr,_,out=>(closeW s fr i out,0,0)
  | c::l,i,fr,noted,out=>
    if noted=true then splitGo s l (i+1) fr ((c.toNat:Int) !=10) out
    else if kindR c.toNat=0 then splitGo s l (i+1) (-1) false (closeW s fr i out)
    else if kindR c.toNat=1 then splitGo s l (i+1) (-1) false (closeW s fr i out++[⟨mk [c],i⟩])
    else if kindR c.toNat=2 then splitGo s l (i+1) (if fr<0 then i else fr) false out
    else if kindR c.toNat=3 then splitGo s l (i+1) (-1) true (closeW s fr i out)
    else ([],1,i)
def splitL (s:ByteArray):List Tok × Int × Int:=if 65536<s.size then ([],6,65536) else splitGo s s.data.toList 0 (-1) false []
def token_Split.f (a0:ByteArray):Option (List Tok × Int × Int):=some (splitL a0)
theorem kind_high (c:Int) (h:128≤c):kindR c=4:=by
  unfold kindR
  rw [if_neg (by omega),if_neg (by omega),if_neg (by omega),if_neg (by omega),if_neg (by omega)]
theorem splitGo_note (s:ByteArray) (i:Nat) (fr:Int) (out:List Tok):∀ (n:Nat) (l:List UInt8),n≤l.length→(∀ j,(h:j<l.length)→j<n→(l[j]).toNat≠10)→splitGo s l i fr true out=splitGo s (l.drop n) (i+n) fr true out:=by
  intro n
  induction n generalizing i with
  | zero=>intro l _ _;rfl
  | succ n ih=>
    intro l hl h
    cases l with
    | nil=>simp at hl
    | cons c l=>
      have h0:=h 0 (by simp) (by omega)
      simp only [List.getElem_cons_zero] at h0
      have hb:((c.toNat:Int) !=10)=true:=by rw [bne_iff_ne];omega
      rw [splitGo,if_pos rfl,hb,ih (i+1) l (by simpa using hl) (fun j hj hjn=>by have h9:=h (j+1) (by simpa using hj) (by omega);rw [List.getElem_cons_succ] at h9;exact h9),List.drop_succ_cons]
      congr 1
      omega
theorem get_bang (s:ByteArray) (i:Nat) (h:i<s.size):s.get! i=s.data.toList[i]'h:=by
  have h2:i<s.data.size:=h
  simp [ByteArray.get!,getElem!_pos s.data i h2]
theorem decode_bytes (s:ByteArray) (p:Nat) (h:p<s.size) (hh:128≤(s.get! p).toNat):
    1≤(Utf8.decode s p).2∧p+(Utf8.decode s p).2≤s.size∧∀ j,j<(Utf8.decode s p).2→128≤(s.get! (p+j)).toNat:=by
  have hn:¬ (s.get! p).toNat<128:=by omega
  have key:∀ (n:Nat),(n=1∨(n=2∧p+1<s.size∧(s.get! (p+1)).toNat / 64=2)∨(n=3∧(p+1<s.size∧(s.get! (p+1)).toNat / 64=2)∧(p+2<s.size∧(s.get! (p+2)).toNat / 64=2))∨(n=4∧(p+1<s.size∧(s.get! (p+1)).toNat / 64=2)∧(p+2<s.size∧(s.get! (p+2)).toNat / 64=2)∧(p+3<s.size∧(s.get! (p+3)).toNat / 64=2)))→
      1≤n∧p+n≤s.size∧∀ j,j<n→128≤(s.get! (p+j)).toNat:=by
    intro n hc
    refine ⟨by omega,by omega,fun j hj=>?_⟩
    have hj4:j=0∨j=1∨j=2∨j=3:=by omega
    rcases hj4 with rfl | rfl | rfl | rfl
    · exact hh
    · omega
    · omega
    · omega
  apply key
  simp only [Utf8.decode,Nat.add_zero,if_neg hn]
  repeat' split
  all_goals simp_all
theorem at_pos (s:ByteArray) (p:Nat) (h:p<s.size):(s[p]'h)=s.data.toList[p]'h:=by
  simp [ByteArray.getElem_eq_getElem_data]
theorem split_drop (s:ByteArray) (p:Nat) (h:p<s.size):s.data.toList.drop p=(s.data.toList[p]'h)::s.data.toList.drop (p+1):=List.drop_eq_getElem_cons h
theorem rune_ascii (s:ByteArray) (p:Nat) (h:p<s.size) (hc:(s.data.toList[p]'h).toNat<128):(Utf8.decode s p).2=1∧(Utf8.decode s p).1=(s.data.toList[p]'h).toNat:=by
  have:=decode_ascii s p h (by rw [at_pos];exact hc)
  rw [this,at_pos]
  exact ⟨rfl,rfl⟩
theorem rune_high (s:ByteArray) (p:Nat) (h:p<s.size) (hc:128≤(s.data.toList[p]'h).toNat):128≤(Utf8.decode s p).1:=
  (decode_high s p h (by rw [at_pos];exact hc)).1
theorem rune_le (s:ByteArray) (p:Nat) (h:p<s.size):1≤(Utf8.decode s p).2∧p+(Utf8.decode s p).2≤s.size:=by
  by_cases hc:(s.data.toList[p]'h).toNat<128
  · rw [(rune_ascii s p h hc).1];omega
  · have:=decode_bytes s p h (by rw [get_bang s p h];omega)
    exact ⟨this.1,this.2.1⟩
theorem step_note (s:ByteArray) (p:Nat) (h:p<s.size) (fr:Int) (out:List Tok):
    splitGo s (s.data.toList.drop p) p fr true out=splitGo s (s.data.toList.drop (p+(Utf8.decode s p).2)) (p+(Utf8.decode s p).2) fr (((Utf8.decode s p).1:Int) !=10) out:=by
  by_cases hc:(s.data.toList[p]'h).toNat<128
  · obtain ⟨h1,h2⟩:=rune_ascii s p h hc
    rw [h1,h2,split_drop s p h,splitGo,if_pos rfl]
  · have h1:=rune_high s p h (by omega)
    obtain ⟨h2,h3,h4⟩:=decode_bytes s p h (by rw [get_bang s p h];omega)
    have hb:(((Utf8.decode s p).1:Int) !=10)=true:=by rw [bne_iff_ne];omega
    have hsz:s.size=s.data.toList.length:=rfl
    rw [hb,splitGo_note s p fr out (Utf8.decode s p).2 (s.data.toList.drop p) (by rw [List.length_drop];omega) (fun j hj hjn=>?_),List.drop_drop]
    have:=h4 j hjn
    rw [get_bang s (p+j) (by omega)] at this
    rw [List.getElem_drop]
    omega
theorem rune_kind (s:ByteArray) (p:Nat) (h:p<s.size) (hk:kindR ((Utf8.decode s p).1:Int)≠4):(Utf8.decode s p).2=1∧(Utf8.decode s p).1=(s.data.toList[p]'h).toNat:=by
  by_cases hc:(s.data.toList[p]'h).toNat<128
  · exact rune_ascii s p h hc
  · exact absurd (kind_high _ (by have:=rune_high s p h (by omega);omega)) hk
theorem step_other (s:ByteArray) (p:Nat) (h:p<s.size) (fr:Int) (out:List Tok) (hk:kindR ((Utf8.decode s p).1:Int)=4):splitGo s (s.data.toList.drop p) p fr false out=(([],1,(p:Int)):List Tok × Int × Int):=by
  have hc:kindR ((s.data.toList[p]'h).toNat:Int)=4:=by
    by_cases hc:(s.data.toList[p]'h).toNat<128
    · rw [(rune_ascii s p h hc).2] at hk;exact hk
    · exact kind_high _ (by omega)
  rw [split_drop s p h,splitGo,if_neg (by simp),hc]
  simp
theorem kindR_cases (c:Int):kindR c=0∨kindR c=1∨kindR c=2∨kindR c=3∨kindR c=4:=by
  unfold kindR
  repeat' split
  all_goals simp
theorem closeW_len (s:ByteArray) (fr:Int) (i:Nat) (out:List Tok):(closeW s fr i out).length≤out.length+(if fr<0 then 0 else 1):=by
  unfold closeW
  split<;>simp
end Go.Proofs.Ytkjdblbgmomieaa.PSh
end
-- from YtkjdblbgmomieaaHSplitEnd
section
namespace Go.Proofs.Ytkjdblbgmomieaa.PSh
set_option maxHeartbeats 1000000
set_option maxRecDepth 100000
open Go.RowKit Go.Proofs.YtkjdblbgmomieaaW.PrintWords Go.Proofs.YtkjdblbgmomieaaW.PrintLast Go.Proofs.YtkjdblbgmomieaaW.PrintMore Go.Proofs.Ytkjdblbgmomieaa.Str
set_option linter.unusedVariables false
set_option linter.unusedSimpArgs false
theorem infoTok:(Try.prog.info? 101).map (fun i=>(i.zero,i.size,i.bytes))=some (some (.agg #[(.string ⟨#[]⟩),(.int .i64 0)]),2,24):=by kernel_rfl
def Stays (w w':World) (a b:Nat) (r:Option Nat):Prop:=w.heap.size≤w'.heap.size∧∀ k,k<w.heap.size→k≠a→k≠b→some k≠r→w'.heap[k]?=w.heap[k]?
theorem setCell_size (w:World) (p:Addr) (u:Value):w.heap.size≤(w.setCell p u).heap.size:=by simp
theorem end_post {bf bo B:Nat} {v v1:Value} {fr:Int} {out out1:List S101} {w0 w w1:World} (hf:w.heap[bf]?=some (.cells #[.int .i64 fr] 3 (0,0))) (ho:w.heap[bo]?=some (.cells #[v] 77 (0,0)))
    (hv:Kd.R k101 101 w B (fun _=>True) v out) (hB:B≤bf∧B≤bo) (h1:Kd.R k101 101 w1 B (fun _=>True) v1 out1) (hb1:Below B w0 w1) (hg1:w.drew.grownBy w1 v.ownBlock):
    ∃ v',((w1.setCell ⟨bo,0,none⟩ v1).setCell ⟨bf,0,none⟩ (.int .i64 (-1))).heap[bf]?=some (.cells #[.int .i64 (-1)] 3 (0,0))∧((w1.setCell ⟨bo,0,none⟩ v1).setCell ⟨bf,0,none⟩ (.int .i64 (-1))).heap[bo]?=some (.cells #[v'] 77 (0,0))∧
      Kd.R k101 101 ((w1.setCell ⟨bo,0,none⟩ v1).setCell ⟨bf,0,none⟩ (.int .i64 (-1))) B (fun _=>True) v' out1∧Below B w0 ((w1.setCell ⟨bo,0,none⟩ v1).setCell ⟨bf,0,none⟩ (.int .i64 (-1)))∧Stays w ((w1.setCell ⟨bo,0,none⟩ v1).setCell ⟨bf,0,none⟩ (.int .i64 (-1))) bf bo v.ownBlock:=by
  have hne:bf≠bo:=blk_ne hf ho (by decide)
  have hf1:=blk_grown (blk_drew hf) hg1 (Kd.R_ne hv hf (by decide))
  have ho1:=blk_grown (blk_drew ho) hg1 (Kd.R_ne hv ho (by decide))
  have hf2:=blk_far hf1 (p:=⟨bo,0,none⟩) hne v1
  have ho2:(w1.setCell ⟨bo,0,none⟩ v1).heap[bo]?=some (.cells #[v1] 77 (0,0)):=by simpa using blk_set ho1 0 v1
  refine ⟨v1,by simpa using blk_set hf2 0 (.int .i64 (-1)),blk_far ho2 (p:=⟨bf,0,none⟩) (Ne.symm hne) _,Kd.R_set (Kd.R_set h1 ho1 (by decide) 0 _) hf2 (by decide) 0 _,(hb1.setCell hB.2 _).setCell hB.1 _,?_,fun k hk hkf hko hkr=>?_⟩
  · refine Nat.le_trans ?_ (Nat.le_trans (setCell_size w1 ⟨bo,0,none⟩ v1) (setCell_size _ _ _))
    exact hg1.size
  · rw [Below.heap_setCell _ _ _ _ hkf,Below.heap_setCell _ _ _ _ hko]
    exact hg1.block k hk hkr
theorem split_end (s:ByteArray) (fr:Int) (i B bf bo bt:Nat) (v:Value) (out:List S101) (w0 w:World)
    (hf:w.heap[bf]?=some (.cells #[.int .i64 fr] 3 (0,0))) (ho:w.heap[bo]?=some (.cells #[v] 77 (0,0))) (ht:w.heap[bt]?=some (.cells #[.string s] 9 (0,0)))
    (hv:Kd.R k101 101 w B (fun _=>True) v out) (hb:Below B w0 w) (hB:B≤bf∧B≤bo) (hs:s.size≤65536) (hi:i≤s.size) (hfr:0≤fr) (hfi:fr≤i) (hl:out.length≤65536):
    Calls Try.prog 74 #[.int .i64 i,.pointer (some ⟨bf,0,none⟩),.pointer (some ⟨bo,0,none⟩),.pointer (some ⟨bt,0,none⟩)] w fun e w'=>
      e=.returned (.tuple #[])∧∃ v',w'.heap[bf]?=some (.cells #[.int .i64 (-1)] 3 (0,0))∧w'.heap[bo]?=some (.cells #[v'] 77 (0,0))∧
        Kd.R k101 101 w' B (fun _=>True) v' (closeW s fr i out)∧Below B w0 w'∧Stays w w' bf bo v.ownBlock:=by
  have hcf:w.cell? ⟨bf,0,none⟩=some (.int .i64 fr):=(blk_cell hf 0).trans rfl
  have hco:w.cell? ⟨bo,0,none⟩=some v:=(blk_cell ho 0).trans rfl
  have hct:w.cell? ⟨bt,0,none⟩=some (.string s):=(blk_cell ht 0).trans rfl
  have hzf:w.frozen? ⟨bf,0,none⟩=false:=blk_frozen hf 0
  have hzo:w.frozen? ⟨bo,0,none⟩=false:=blk_frozen ho 0
  have HF:=aM hf
  have HO:=aM ho
  have HT:=aM ht
  have HV:=aM hv
  have HB:=aM hb
  clear hf ho ht hv hb
  have hlt1:bf<w.heap.size:=blk_lt HF.out
  have hlt2:bo<w.heap.size:=blk_lt HO.out
  have hlt3:bt<w.heap.size:=blk_lt HT.out
  go_enter Try.func74,Try.ntmps74
  go_wp2
  go_region_law (refine Kd.R_append_step k101 (w0:=w0) (W:=w.drew) B (by rfl) (.tmp 7) (.tmp 14) 77 101 (.agg #[(.string ⟨#[]⟩),(.int .i64 0)]) 24 rfl Try.underlying77 infoTok rfl (by decide) (by omega) v out (⟨s.extract fr.toNat i,fr⟩:S101) [.string (s.extract fr.toNat i),.int .i64 fr] (fun _=>True) (fun _=>False) rfl rfl (k101_mkM _ _ _ (⟨s.extract fr.toNat i,fr⟩:S101)) (fun _ hk=>hk.elim) (fun _ _=>trivial) (Kd.R_drew HV.out) (below_drew HB.out) (Nat.le_trans hB.1 (Nat.le_of_lt hlt1)) (by omega) ?_;intro v1 w1 ho1 hb1 hg1 hat1;obtain ⟨A1,q1,rfl⟩:=Kd.R_slice ho1;have HO1:=aM ho1;have HB1:=aM hb1;have HG1:=aM hg1;have c1:w1.cell? ⟨bo,0,none⟩=some v:=(blk_cell (blk_grown (blk_drew HO.out) hg1 (Kd.R_ne HV.out HO.out (by decide))) 0).trans rfl;have z1:w1.frozen? ⟨bo,0,none⟩=false:=blk_frozen (blk_grown (blk_drew HO.out) hg1 (Kd.R_ne HV.out HO.out (by decide))) 0;have hne:bf≠bo:=blk_ne HF.out HO.out (by decide);have c2:w1.cell? ⟨bf,0,none⟩=some (.int .i64 fr):=(blk_cell (blk_grown (blk_drew HF.out) hg1 (Kd.R_ne HV.out HF.out (by decide))) 0).trans rfl;have z2:w1.frozen? ⟨bf,0,none⟩=false:=blk_frozen (blk_grown (blk_drew HF.out) hg1 (Kd.R_ne HV.out HF.out (by decide))) 0;clear ho1 hb1 hg1 hat1)
  all_goals
    go_wp2
    go_end0
    refine ⟨rfl,?_⟩
    have hcl:closeW s fr i out=out++[⟨s.extract fr.toNat i,fr⟩]:=by unfold closeW;rw [if_neg (by omega)]
    rw [hcl]
    have hlen:out.length+1=(out++[(⟨s.extract fr.toNat i,fr⟩:S101)]).length:=by simp
    rw [hlen]
    exact end_post HF.out HO.out HV.out hB HO1.out HB1.out HG1.out
theorem split_end_no (fr:Int) (i B bf bo bt:Nat) (s:ByteArray) (v:Value) (out:List S101) (w0 w:World)
    (hf:w.heap[bf]?=some (.cells #[.int .i64 fr] 3 (0,0))) (ho:w.heap[bo]?=some (.cells #[v] 77 (0,0)))
    (hv:Kd.R k101 101 w B (fun _=>True) v out) (hb:Below B w0 w) (hB:B≤bf∧B≤bo) (hfr:fr<0):
    Calls Try.prog 74 #[.int .i64 i,.pointer (some ⟨bf,0,none⟩),.pointer (some ⟨bo,0,none⟩),.pointer (some ⟨bt,0,none⟩)] w fun e w'=>
      e=.returned (.tuple #[])∧∃ v',w'.heap[bf]?=some (.cells #[.int .i64 (-1)] 3 (0,0))∧w'.heap[bo]?=some (.cells #[v'] 77 (0,0))∧
        Kd.R k101 101 w' B (fun _=>True) v' (closeW s fr i out)∧Below B w0 w'∧Stays w w' bf bo v.ownBlock:=by
  have hcf:w.cell? ⟨bf,0,none⟩=some (.int .i64 fr):=(blk_cell hf 0).trans rfl
  have hzf:w.frozen? ⟨bf,0,none⟩=false:=blk_frozen hf 0
  have hd:decide (0≤fr)=false:=decide_eq_false (by omega)
  have HF:=aM hf
  have HO:=aM ho
  have HV:=aM hv
  have HB:=aM hb
  clear hf ho hv hb
  go_enter Try.func74,Try.ntmps74
  go_wp2
  go_end0
  refine ⟨rfl,v,by simpa using blk_set HF.out 0 (.int .i64 (-1)),blk_far HO.out (p:=⟨bf,0,none⟩) (Ne.symm (blk_ne HF.out HO.out (by decide))) _,?_,HB.out.setCell hB.1 _,setCell_size _ _ _,fun k hk hkf hko hkr=>Below.heap_setCell _ _ _ _ hkf⟩
  have hcl:closeW s fr i out=out:=by unfold closeW;rw [if_pos hfr]
  rw [hcl]
  exact Kd.R_set HV.out HF.out (by decide) 0 _
theorem split_any (s:ByteArray) (fr:Int) (i B bf bo bt:Nat) (v:Value) (out:List S101) (w0 w:World)
    (hf:w.heap[bf]?=some (.cells #[.int .i64 fr] 3 (0,0))) (ho:w.heap[bo]?=some (.cells #[v] 77 (0,0))) (ht:w.heap[bt]?=some (.cells #[.string s] 9 (0,0)))
    (hv:Kd.R k101 101 w B (fun _=>True) v out) (hb:Below B w0 w) (hB:B≤bf∧B≤bo) (hs:s.size≤65536) (hi:i≤s.size) (hfr:fr=-1∨0≤fr∧fr≤i) (hl:out.length≤65536):
    Calls Try.prog 74 #[.int .i64 i,.pointer (some ⟨bf,0,none⟩),.pointer (some ⟨bo,0,none⟩),.pointer (some ⟨bt,0,none⟩)] w fun e w'=>
      e=.returned (.tuple #[])∧∃ v',w'.heap[bf]?=some (.cells #[.int .i64 (-1)] 3 (0,0))∧w'.heap[bo]?=some (.cells #[v'] 77 (0,0))∧
        Kd.R k101 101 w' B (fun _=>True) v' (closeW s fr i out)∧Below B w0 w'∧Stays w w' bf bo v.ownBlock:=by
  rcases hfr with h | ⟨h1,h2⟩
  · exact split_end_no fr i B bf bo bt s v out w0 w hf ho hv hb hB (by omega)
  · exact split_end s fr i B bf bo bt v out w0 w hf ho ht hv hb hB hs hi h1 h2 hl
end Go.Proofs.Ytkjdblbgmomieaa.PSh
end
