import Derived.Test.YtkjdblbgmomieaaMv19
import Derived.Test.YtkjdblbgmomieaaMv20
import Derived.Shelf.Strings.OnBuilder
import Derived.Shelf.Strings.BuilderK
import Derived.Test.YtkjdblbgmomieaaProg
import Derived.Test.YtkjdblbgmomieaaMv11
section
namespace Go.Proofs.Ytkjdblbgmomieaa.PSh
set_option maxHeartbeats 8000000
set_option maxRecDepth 100000
open Go.RowKit Go.Proofs.YtkjdblbgmomieaaW.PrintWords Go.Proofs.YtkjdblbgmomieaaW.PrintLast Go.Proofs.YtkjdblbgmomieaaW.PrintMore Go.Proofs.Ytkjdblbgmomieaa.Str
set_option linter.unusedVariables false
set_option linter.unusedSimpArgs false
def isOne (op:Int) (l:List Int):Bool:=l.any fun c=>op==c
def argsA (op:Int):Int:=if op=24 then 1 else ((takesI op).length:Int)
def toA (op:Int):Int:=if op=26 then 1 else if op=27 then 2 else 0
def hasN (op:Int):Bool:=isOne op [1,11,12,15,13,14,23,21,24,29]
def mostC (op:Int):Int:=if op=1 then 9223372036854775807 else if isOne op [11,12,15,13,14]=true then 15 else if isOne op [23,21,24]=true then 1048576 else if op=29 then 255 else 0
def argsB (op:Int) (lt:Int):Int:=if op=20 then max lt 1 else argsA op
def toC (op:Int) (lt:Int):Int:=if op=20 then max lt 1 else toA op
def ownArgs (op la:Int):Bool:=op==21 || (op==28 && decide (la<2))
def argsC (op la lt:Int):Int:=if ownArgs op la=true then la else argsB op lt
def lowC (op:Int):Int:=if op=1 then -9223372036854775808 else 0
def preWord (op ty:Int):Bool:=(mk (wordL op ty)).toList==([]:List UInt8) || !(mayI op ty)
def preValue (op id ty:Int):Bool:=if makesI op ty=0 then id !=-1 else !(decide (0≤id) && decide (id≤1048576))
def preArgs (op la lt:Int):Bool:=la !=argsC op la lt || lt !=toC op lt
def preNum (op n:Int):Bool:=decide (n<lowC op) || decide (mostC op<n) || (!(hasN op) && n !=0)
def show_Check.f (k:Nat) (op id n ty:Int) (l4 l5:List Int) (nm:ByteArray) (at_:Int):Option Int:=
  if preWord op ty=true then some 2 else if preValue op id ty=true then some 8 else if preArgs op (l4.length:Int) (l5.length:Int)=true then some 13 else if preNum op n=true then some 18 else show_names.f k op id n ty l4 l5 nm at_
theorem op_cases (op:Int):op=1∨op=11∨op=12∨op=15∨op=13∨op=14∨op=23∨op=21∨op=24∨op=29∨op=26∨op=27∨(op≠1∧op≠11∧op≠12∧op≠15∧op≠13∧op≠14∧op≠23∧op≠21∧op≠24∧op≠29∧op≠26∧op≠27):=by omega
theorem op_none (op:Int) (h:op≠1∧op≠11∧op≠12∧op≠15∧op≠13∧op≠14∧op≠23∧op≠21∧op≠24∧op≠29∧op≠26∧op≠27):argsA op=((takesI op).length:Int)∧toA op=0∧hasN op=false∧mostC op=0:=by
  obtain ⟨h1,h2,h3,h4,h5,h6,h7,h8,h9,h10,h11,h12⟩:=h
  exact ⟨if_neg h9,by unfold toA;rw [if_neg h11,if_neg h12],by simp [hasN,isOne, *],by simp [mostC,isOne, *]⟩
structure CkAt (b:Nat) (bx:Array Value) (w w':World):Prop where
  box:w'.heap[b]?=some (.cells bx 39 (0,0))
  bel:Below w.heap.size w w'
theorem CkAt.below {b:Nat} {bx:Array Value} {w w1 w2:World} (h:CkAt b bx w w1) (hb:Below w1.heap.size w1 w2):CkAt b bx w w2:=⟨blk_below h.box hb,below_step h.bel hb⟩
theorem CkAt.drew {b:Nat} {bx:Array Value} {w w1:World} (h:CkAt b bx w w1):CkAt b bx w w1.drew:=h.below (below_drew1 (Below.refl _ _))
theorem CkAt.drewN {b:Nat} {bx:Array Value} {w w1:World} (h:CkAt b bx w w1) (m:Nat):CkAt b bx w (w1.drewN m):=h.below (pw_below_drewN (Below.refl _ _) m)
theorem ops_makes_c (op id n ty:Int) (A4:Option Addr) (c4:Nat) (l4:List Int) (A5:Option Addr) (c5:Nat) (l5:List Int) (nm:ByteArray) (at_:Int) (w:World) (h4:Kd.C (Kd.int .i64) w A4 l4.length l4) (h4':l4.length≤c4) (h5:Kd.C (Kd.int .i64) w A5 l5.length l5) (h5':l5.length≤c5):
    Calls Try.prog 40 #[.agg #[.int .i64 op,.int .i64 id,.int .i64 n,.int .i64 ty,.slice A4 l4.length c4,.slice A5 l5.length c5,.string nm,.int .i64 at_]] w fun e w'=>e=.returned (.int .i64 (makesI op ty))∧Below w.heap.size w w':=ops_Makes.calls op id n ty A4 c4 l4 A5 c5 l5 nm at_ _ w h4 h4' h5 h5' (makes_c op id n ty l4 l5 nm at_).1
theorem ops_word_c (op id n ty:Int) (A4:Option Addr) (c4:Nat) (l4:List Int) (A5:Option Addr) (c5:Nat) (l5:List Int) (nm:ByteArray) (at_:Int) (w:World) (h4:Kd.C (Kd.int .i64) w A4 l4.length l4) (h4':l4.length≤c4) (h5:Kd.C (Kd.int .i64) w A5 l5.length l5) (h5':l5.length≤c5):
    Calls Try.prog 41 #[.agg #[.int .i64 op,.int .i64 id,.int .i64 n,.int .i64 ty,.slice A4 l4.length c4,.slice A5 l5.length c5,.string nm,.int .i64 at_]] w fun e w'=>e=.returned (.string (mk (wordL op ty)))∧Below w.heap.size w w':=ops_Word.calls op id n ty A4 c4 l4 A5 c5 l5 nm at_ _ w h4 h4' h5 h5' (words_c op id n ty l4 l5 nm at_).1
theorem ops_may_c (op t:Int) (w:World):Calls Try.prog 47 #[.int .i64 op,.int .i64 t] w fun e w'=>e=.returned (.bool (mayI op t))∧Drawn0 w w':=ops_May.calls op t _ w (may_c op t).1
theorem within_c (a l h:Int) (w:World):Calls Try.prog 48 #[.int .i64 a,.int .i64 l,.int .i64 h] w fun e w'=>e=.returned (.bool (decide (l≤a) && decide (a≤h)))∧Drawn0 w w':=by
  refine show_within.calls a l h _ w ?_
  unfold show_within.f
  by_cases c:a≥l
  · rw [if_pos c,decide_eq_true (show l≤a from c),Bool.true_and]
  · rw [if_neg c,decide_eq_false (show ¬ l≤a from c),Bool.false_and]
theorem show_Check.calls (k:Nat) (op id n ty:Int) (A4:Option Addr) (c4:Nat) (l4:List Int) (A5:Option Addr) (c5:Nat) (l5:List Int) (nm:ByteArray) (at_:Int) (r:Int) (w:World) (h4:Kd.C (Kd.int .i64) w A4 l4.length l4) (h4':l4.length≤c4) (h5:Kd.C (Kd.int .i64) w A5 l5.length l5) (h5':l5.length≤c5) (h:show_Check.f k op id n ty l4 l5 nm at_=some r):
    Calls Try.prog 17 #[.agg #[.int .i64 op,.int .i64 id,.int .i64 n,.int .i64 ty,.slice A4 l4.length c4,.slice A5 l5.length c5,.string nm,.int .i64 at_]] w fun e w'=>e=.returned (.int .i64 r)∧Below w.heap.size w w':=by
  have hu39:=Try.underlying39
  have HF:=aM h
  have H4:=aM h4
  have H5:=aM h5
  have H6:=aM (And.intro h4' h5')
  clear h h4 h5 h4' h5'
  go_enter Try.func17,Try.ntmps17
  go_upto_region 1 with (fail)
  have HX:=aM (show CkAt w.heap.size #[.int .i64 op,.int .i64 id,.int .i64 n,.int .i64 ty,.slice A4 l4.length c4,.slice A5 l5.length c5,.string nm,.int .i64 at_] w (w.alloc (.cells #[.int .i64 op,.int .i64 id,.int .i64 n,.int .i64 ty,.slice A4 l4.length c4,.slice A5 l5.length c5,.string nm,.int .i64 at_] 39)) from ⟨blk_new _ _,below_alloc (Below.refl _ _) _⟩)
  generalize w.alloc (.cells #[.int .i64 op,.int .i64 id,.int .i64 n,.int .i64 ty,.slice A4 l4.length c4,.slice A5 l5.length c5,.string nm,.int .i64 at_] 39)=W0 at HX ⊢
  have HXd:=aM HX.out.drew
  clear HX
  refine start_ (n:=7) (S:=fun w'=>w'.cell? ⟨w.heap.size,0,none⟩=some (.int .i64 op)∧w'.cell? ⟨w.heap.size,1,none⟩=some (.int .i64 id)∧w'.cell? ⟨w.heap.size,2,none⟩=some (.int .i64 n)∧w'.cell? ⟨w.heap.size,3,none⟩=some (.int .i64 ty)∧w'.cell? ⟨w.heap.size,4,none⟩=some (.slice A4 l4.length c4)∧w'.cell? ⟨w.heap.size,5,none⟩=some (.slice A5 l5.length c5)∧w'.cell? ⟨w.heap.size,6,none⟩=some (.string nm)∧w'.cell? ⟨w.heap.size,7,none⟩=some (.int .i64 at_)) (ds:=[]) #[false,false,false,false,false,false,false] (by kernel_rfl) rfl rfl ⟨(blk_cell HXd.out.box 0),(blk_cell HXd.out.box 1),(blk_cell HXd.out.box 2),(blk_cell HXd.out.box 3),(blk_cell HXd.out.box 4),(blk_cell HXd.out.box 5),(blk_cell HXd.out.box 6),(blk_cell HXd.out.box 7)⟩ (fun hHeld=>?_)
  refine take_ (i:=0) (N:=some 10) (v:=?_) (a':=?_) #[true,false,false,false,false,false,false] rfl rfl (by kernel_rfl) (fun _ _ _ h=>h) (Or.inl ⟨by rfl,?_⟩) hHeld ?_ ?_
  rotate_left
  · rintro w' ⟨s0,s1,s2,s3,s4,s5,s6,s7⟩
    go_simp
    with_reducible rfl
  rotate_left
  · simp only [Act.put,qA,qB,qC,i64_w,i32_w]
    rfl
  refine take_ (i:=2) (N:=some 12) (v:=?_) (a':=?_) #[true,false,true,false,false,false,false] rfl rfl (by kernel_rfl) (fun _ _ _ h=>h) (Or.inl ⟨by rfl,?_⟩) hHeld ?_ ?_
  rotate_left
  · rintro w' ⟨s0,s1,s2,s3,s4,s5,s6,s7⟩
    go_simp
    with_reducible rfl
  rotate_left
  · simp only [Act.put,qA,qB,qC,i64_w,i32_w]
    rfl
  refine one_ (i:=1) (N:=some 11) #[true,true,true,false,false,false,false] rfl rfl (by kernel_rfl) (by decide) (fun K hK=>?_)
  refine goes_ Try.func41 (by kernel_rfl) rfl #[.agg #[.int .i64 op,.int .i64 id,.int .i64 n,.int .i64 ty,.slice A4 l4.length c4,.slice A5 l5.length c5,.string nm,.int .i64 at_]] (by rfl) rfl rfl (by simp only [List.map_toArray,List.map_cons,List.map_nil];rfl) ?_
  with_reducible refine (ops_word_c op id n ty A4 c4 l4 A5 c5 l5 nm at_ _ (Kd.C_below H4.out HXd.out.bel) H6.out.1 (Kd.C_below H5.out HXd.out.bel) H6.out.2).mono ?_
  rintro e w3_ ⟨rfl,hb_⟩
  refine ⟨_,rfl,?_⟩
  have HX3:=aM (HXd.out.below hb_)
  clear hb_
  refine hK.out _ _ ⟨(blk_cell HX3.out.box 0),(blk_cell HX3.out.box 1),(blk_cell HX3.out.box 2),(blk_cell HX3.out.box 3),(blk_cell HX3.out.box 4),(blk_cell HX3.out.box 5),(blk_cell HX3.out.box 6),(blk_cell HX3.out.box 7)⟩ (fun hHeld=>?_)
  clear hK K
  refine norm_ (a':=?_) ?_ ?_
  rotate_left
  · show Act.put _ (some 11) _=_
    simp only [Act.put,qA,qB,qC,i64_w,i32_w]
    rfl
  refine one_ (i:=3) (N:=some 13) #[true,true,true,true,false,false,false] rfl rfl (by kernel_rfl) (by decide) (fun K hK=>?_)
  refine goes_ Try.func40 (by kernel_rfl) rfl #[.agg #[.int .i64 op,.int .i64 id,.int .i64 n,.int .i64 ty,.slice A4 l4.length c4,.slice A5 l5.length c5,.string nm,.int .i64 at_]] (by rfl) rfl rfl (by simp only [List.map_toArray,List.map_cons,List.map_nil];rfl) ?_
  with_reducible refine (ops_makes_c op id n ty A4 c4 l4 A5 c5 l5 nm at_ _ (Kd.C_below H4.out HX3.out.bel) H6.out.1 (Kd.C_below H5.out HX3.out.bel) H6.out.2).mono ?_
  rintro e w4_ ⟨rfl,hb_⟩
  refine ⟨_,rfl,?_⟩
  have HX4:=aM (HX3.out.below hb_)
  clear hb_
  refine hK.out _ _ ⟨(blk_cell HX4.out.box 0),(blk_cell HX4.out.box 1),(blk_cell HX4.out.box 2),(blk_cell HX4.out.box 3),(blk_cell HX4.out.box 4),(blk_cell HX4.out.box 5),(blk_cell HX4.out.box 6),(blk_cell HX4.out.box 7)⟩ (fun hHeld=>?_)
  clear hK K
  refine norm_ (a':=?_) ?_ ?_
  rotate_left
  · show Act.put _ (some 13) _=_
    simp only [Act.put,qA,qB,qC,i64_w,i32_w]
    rfl
  refine pure_ (i:=4) (N:=some 14) (v:=?_) (a':=?_) #[true,true,true,true,true,false,false] rfl rfl (by kernel_rfl) (fun _ _ _ h=>h) (Or.inl ⟨by rfl,?_⟩) ?_ ?_
  rotate_left
  · intro w'
    go_simp
    with_reducible rfl
  rotate_left
  · simp only [Act.put,qA,qB,qC,i64_w,i32_w]
    rfl
  refine pure_ (i:=5) (N:=some 3) (v:=?_) (a':=?_) #[true,true,true,true,true,true,false] rfl rfl (by kernel_rfl) (fun _ _ _ h=>h) (Or.inl ⟨by rfl,?_⟩) ?_ ?_
  rotate_left
  · intro w'
    go_simp
    with_reducible rfl
  rotate_left
  · simp only [Act.put,qA,qB,qC,i64_w,i32_w]
    rfl
  refine pure_ (i:=6) (N:=some 4) (v:=?_) (a':=?_) #[true,true,true,true,true,true,true] rfl rfl (by kernel_rfl) (fun _ _ _ h=>h) (Or.inl ⟨by rfl,?_⟩) ?_ ?_
  rotate_left
  · intro w'
    go_simp
    with_reducible rfl
  rotate_left
  · simp only [Act.put,qA,qB,qC,i64_w,i32_w]
    rfl
  refine done_ (by kernel_rfl) ?_
  clear hHeld
  have HX:=HX4
  clear HX4 HX3 HXd
  have z0:=blk_cell HX.out.box 0
  go_wp2_with fail
  refine (ops_Takes.calls op (takesI op) _ rfl).mono ?_
  rintro e w5 ⟨v5,rfl,hr5,hb5⟩
  obtain ⟨At,ct,rfl⟩:=Kd.R_slice hr5
  have HX1:=aM (HX.out.below hb5)
  clear hr5 hb5 HX z0
  have z0:=blk_cell HX1.out.box 0
  go_upto_block 0 with (fail)
  (try simp only [Act.put,qA,qB,qC])
  clear z0
  have HF1:=HF
  go_cut [5,6,7,8] (fun v5 v6 v7 v8 wc=>v5=.int .i64 (argsA op)∧v6=.int .i64 (toA op)∧v7=.bool (hasN op)∧v8=.int .i64 (mostC op)∧Aside0 (CkAt w.heap.size #[.int .i64 op,.int .i64 id,.int .i64 n,.int .i64 ty,.slice A4 l4.length c4,.slice A5 l5.length c5,.string nm,.int .i64 at_] w wc))
  case first=>
    clear HF HF1
    rcases op_cases op with rfl | rfl | rfl | rfl | rfl | rfl | rfl | rfl | rfl | rfl | rfl | rfl | ho
    all_goals try (go_wp2_with fail;go_meet;exact ⟨rfl,rfl,rfl,rfl,HX1⟩;done)
    have HE:=aM (op_none op ho)
    obtain ⟨h1,h2,h3,h4,h5,h6,h7,h8,h9,h10,h11,h12⟩:=ho
    have g1:(op==1)=false:=beq_eq_false_iff_ne.mpr h1
    have g2:(op==11)=false:=beq_eq_false_iff_ne.mpr h2
    have g3:(op==12)=false:=beq_eq_false_iff_ne.mpr h3
    have g4:(op==15)=false:=beq_eq_false_iff_ne.mpr h4
    have g5:(op==13)=false:=beq_eq_false_iff_ne.mpr h5
    have g6:(op==14)=false:=beq_eq_false_iff_ne.mpr h6
    have g7:(op==23)=false:=beq_eq_false_iff_ne.mpr h7
    have g8:(op==21)=false:=beq_eq_false_iff_ne.mpr h8
    have g9:(op==24)=false:=beq_eq_false_iff_ne.mpr h9
    have g10:(op==29)=false:=beq_eq_false_iff_ne.mpr h10
    have g11:(op==26)=false:=beq_eq_false_iff_ne.mpr h11
    have g12:(op==27)=false:=beq_eq_false_iff_ne.mpr h12
    clear h1 h2 h3 h4 h5 h6 h7 h8 h9 h10 h11 h12
    go_wp2_with fail
    go_meet
    exact ⟨by rw [HE.out.1],by rw [HE.out.2.1],by rw [HE.out.2.2.1],by rw [HE.out.2.2.2],HX1⟩
  case rest=>
    obtain ⟨rfl,rfl,rfl,rfl,HX⟩:=hcut
    clear HX1
    have z0:=blk_cell HX.out.box 0
    have z5:=blk_cell HX.out.box 5
    go_upto_if 42 with (fail)
    (try simp only [Act.put,qA,qB,qC])
    clear z0 z5
    go_cut [5,6] (fun v5 v6 wc=>v5=.int .i64 (argsB op (l5.length:Int))∧v6=.int .i64 (toC op (l5.length:Int))∧Aside0 (CkAt w.heap.size #[.int .i64 op,.int .i64 id,.int .i64 n,.int .i64 ty,.slice A4 l4.length c4,.slice A5 l5.length c5,.string nm,.int .i64 at_] w wc))
    case first=>
      clear HF HF1
      by_cases h20:op=20
      · have g:(op==20)=true:=beq_iff_eq.mpr h20
        have e1:argsB op (l5.length:Int)=max (l5.length:Int) 1:=if_pos h20
        have e2:toC op (l5.length:Int)=max (l5.length:Int) 1:=if_pos h20
        have HE:=aM (And.intro e1 e2)
        have z5:=blk_cell HX.out.box 5
        (try rw [g])
        clear h20 e1 e2
        go_upto_region 24 with (fail)
        go_quiet (fail)
        (try go_wp2)
        all_goals
          go_meet
          exact ⟨by first|(rw [HE.out.1];congr 1;omega)|rw [HE.out.1],by first|(rw [HE.out.2];congr 1;omega)|rw [HE.out.2],⟨HX.out.drewN _⟩⟩
      · have g:(op==20)=false:=beq_eq_false_iff_ne.mpr h20
        have e1:argsB op (l5.length:Int)=argsA op:=if_neg h20
        have e2:toC op (l5.length:Int)=toA op:=if_neg h20
        have HE:=aM (And.intro e1 e2)
        (try rw [g])
        clear h20 e1 e2
        go_wp2_with fail
        go_meet
        exact ⟨by rw [HE.out.1],by rw [HE.out.2],HX⟩
    case rest=>
      clear HX
      obtain ⟨rfl,rfl,HX⟩:=hcut
      go_upto_region 25 with (fail)
      go_cut [64] (fun v64 wc=>v64=.bool (ownArgs op (l4.length:Int))∧Aside0 (CkAt w.heap.size #[.int .i64 op,.int .i64 id,.int .i64 n,.int .i64 ty,.slice A4 l4.length c4,.slice A5 l5.length c5,.string nm,.int .i64 at_] w wc))
      case first=>
        clear HF HF1
        have z0:=blk_cell HX.out.box 0
        have z4:=blk_cell HX.out.box 4
        have he:ownArgs op (l4.length:Int)=(op==21 || (op==28 && decide ((l4.length:Int)<2))):=rfl
        cases g1:(op==21) with
        | true=>
          rw [g1,Bool.true_or] at he
          have HE:=aM he
          clear he
          go_wp2_with fail
          go_meet
          exact ⟨by rw [HE.out],HX⟩
        | false=>
          rw [g1,Bool.false_or] at he
          cases g2:(op==28) with
          | true=>
            rw [g2,Bool.true_and] at he
            have HE:=aM he
            clear he
            go_wp2_with fail
            go_meet
            exact ⟨by rw [HE.out],HX⟩
          | false=>
            rw [g2,Bool.false_and] at he
            have HE:=aM he
            clear he
            go_wp2_with fail
            go_meet
            exact ⟨by rw [HE.out],HX⟩
      case rest=>
        clear HX
        obtain ⟨rfl,HX⟩:=hcut
        go_upto_if 64 with (fail)
        go_cut [5] (fun v5 wc=>v5=.int .i64 (argsC op (l4.length:Int) (l5.length:Int))∧Aside0 (CkAt w.heap.size #[.int .i64 op,.int .i64 id,.int .i64 n,.int .i64 ty,.slice A4 l4.length c4,.slice A5 l5.length c5,.string nm,.int .i64 at_] w wc))
        case first=>
          clear HF HF1
          have z4:=blk_cell HX.out.box 4
          obtain ⟨q,hq⟩:∃ q,ownArgs op (l4.length:Int)=q:=⟨_,rfl⟩
          have HE:=aM (show argsC op (l4.length:Int) (l5.length:Int)=if q=true then (l4.length:Int) else argsB op (l5.length:Int) by unfold argsC;rw [hq])
          rw [hq]
          clear hq
          cases q with
          | true=>
            go_wp2_with fail
            go_meet
            exact ⟨by rw [HE.out];rfl,HX⟩
          | false=>
            go_wp2_with fail
            go_meet
            exact ⟨by rw [HE.out];rfl,HX⟩
        case rest=>
          clear HX
          obtain ⟨rfl,HX⟩:=hcut
          have z0:=blk_cell HX.out.box 0
          go_upto_if 70 with (fail)
          (try simp only [Act.put,qA,qB,qC])
          clear z0
          go_cut [9] (fun v9 wc=>v9=.int .i64 (lowC op)∧Aside0 (CkAt w.heap.size #[.int .i64 op,.int .i64 id,.int .i64 n,.int .i64 ty,.slice A4 l4.length c4,.slice A5 l5.length c5,.string nm,.int .i64 at_] w wc))
          case first=>
            clear HF HF1
            by_cases h1:op=1
            · have g:(op==1)=true:=beq_iff_eq.mpr h1
              have HE:=aM (show lowC op=-9223372036854775808 from if_pos h1)
              (try rw [g])
              clear h1
              go_wp2_with fail
              go_meet
              exact ⟨by rw [HE.out],HX⟩
            · have g:(op==1)=false:=beq_eq_false_iff_ne.mpr h1
              have HE:=aM (show lowC op=0 from if_neg h1)
              (try rw [g])
              clear h1
              go_wp2_with fail
              go_meet
              exact ⟨by rw [HE.out],HX⟩
          case rest=>
            clear HX
            obtain ⟨rfl,HX⟩:=hcut
            obtain ⟨wd,hwd⟩:∃ q,mk (wordL op ty)=q:=⟨_,rfl⟩
            rw [hwd]
            have HWD:=aM hwd
            clear hwd
            go_upto_region 30 with (fail)
            go_cut [71] (fun v71 wc=>v71=.bool (preWord op ty)∧Aside0 (CkAt w.heap.size #[.int .i64 op,.int .i64 id,.int .i64 n,.int .i64 ty,.slice A4 l4.length c4,.slice A5 l5.length c5,.string nm,.int .i64 at_] w wc))
            case first=>
              clear HF HF1
              have z0:=blk_cell HX.out.box 0
              have z3:=blk_cell HX.out.box 3
              have he:preWord op ty=((mk (wordL op ty)).toList==([]:List UInt8) || !(mayI op ty)):=rfl
              rw [HWD.out] at he
              cases g1:(wd.toList==([]:List UInt8)) with
              | true=>
                rw [g1,Bool.true_or] at he
                have HE:=aM he
                clear he
                go_wp2_with fail
                go_meet
                exact ⟨by rw [HE.out],HX⟩
              | false=>
                rw [g1,Bool.false_or] at he
                have HE:=aM he
                clear he
                go_wp2_with fail
                refine (ops_may_c op ty _).mono ?_
                rintro e w6 ⟨rfl,⟨nd,rfl⟩⟩
                have HX1:=aM (HX.out.drewN nd)
                clear z0 z3
                go_wp2_with fail
                go_meet
                exact ⟨by rw [HE.out],HX1⟩
            case rest=>
              clear HX
              obtain ⟨rfl,HX⟩:=hcut
              have hf:=HF.out
              unfold show_Check.f at hf
              clear HF HF1
              cases gw:preWord op ty with
              | true=>
                rw [gw,if_pos rfl] at hf
                obtain rfl:=Option.some.inj hf
                clear hf
                (try rw [gw])
                go_wp2
                (try simp only [Exit.inBlock,Exit.then])
                go_ret
                exact ⟨rfl,HX.out.bel⟩
              | false=>
                rw [gw,if_neg (by decide)] at hf
                have HF:=aM hf
                clear hf
                obtain ⟨mb,hmb⟩:∃ q,(makesI op ty !=0)=q:=⟨_,rfl⟩
                rw [hmb]
                have HMB:=aM hmb
                clear hmb
                go_upto_region 32 with (fail)
                go_cut [82] (fun v82 wc=>v82=.bool (preValue op id ty)∧Aside0 (CkAt w.heap.size #[.int .i64 op,.int .i64 id,.int .i64 n,.int .i64 ty,.slice A4 l4.length c4,.slice A5 l5.length c5,.string nm,.int .i64 at_] w wc))
                case first=>
                  clear HF
                  have z1:=blk_cell HX.out.box 1
                  have he:preValue op id ty=if mb=true then !(decide (0≤id) && decide (id≤1048576)) else id !=-1:=by
                    unfold preValue
                    rw [← HMB.out]
                    by_cases hm:makesI op ty=0
                    · rw [if_pos hm,if_neg (by simp [hm])]
                    · rw [if_neg hm,if_pos (by simp [hm])]
                  cases mb with
                  | false=>
                    have HE:=aM (show preValue op id ty=(id !=-1) from he)
                    clear he
                    go_wp2_with fail
                    go_meet
                    exact ⟨by rw [HE.out],HX⟩
                  | true=>
                    have HE:=aM (show preValue op id ty=!(decide (0≤id) && decide (id≤1048576)) from he)
                    clear he
                    go_wp2_with fail
                    refine (within_c id 0 1048576 _).mono ?_
                    rintro e w6 ⟨rfl,⟨nd,rfl⟩⟩
                    have HX1:=aM (HX.out.drewN nd)
                    obtain ⟨q,hq⟩:∃ q,(decide (0≤id) && decide (id≤1048576))=q:=⟨_,rfl⟩
                    have HQ:=aM (show preValue op id ty=!q by rw [HE.out,hq])
                    rw [hq]
                    clear z1 hq
                    cases q
                    all_goals
                      go_wp2_with fail
                      go_meet
                      exact ⟨by rw [HQ.out];rfl,HX1⟩
                case rest=>
                  clear HX
                  obtain ⟨rfl,HX⟩:=hcut
                  have hf:=HF.out
                  clear HF
                  cases gv:preValue op id ty with
                  | true=>
                    rw [gv,if_pos rfl] at hf
                    obtain rfl:=Option.some.inj hf
                    clear hf
                    (try rw [gv])
                    go_wp2
                    (try simp only [Exit.inBlock,Exit.then])
                    go_ret
                    exact ⟨rfl,HX.out.bel⟩
                  | false=>
                    rw [gv,if_neg (by decide)] at hf
                    have HF:=aM hf
                    clear hf
                    obtain ⟨na,hna⟩:∃ q,argsC op (l4.length:Int) (l5.length:Int)=q:=⟨_,rfl⟩
                    obtain ⟨nt,hnt⟩:∃ q,toC op (l5.length:Int)=q:=⟨_,rfl⟩
                    rw [hna,hnt]
                    have HNA:=aM (And.intro hna hnt)
                    clear hna hnt
                    go_upto_region 34 with (fail)
                    go_cut [99] (fun v99 wc=>v99=.bool (preArgs op (l4.length:Int) (l5.length:Int))∧Aside0 (CkAt w.heap.size #[.int .i64 op,.int .i64 id,.int .i64 n,.int .i64 ty,.slice A4 l4.length c4,.slice A5 l5.length c5,.string nm,.int .i64 at_] w wc))
                    case first=>
                      clear HF
                      have z4:=blk_cell HX.out.box 4
                      have z5:=blk_cell HX.out.box 5
                      have he:preArgs op (l4.length:Int) (l5.length:Int)=((l4.length:Int) !=argsC op (l4.length:Int) (l5.length:Int) || (l5.length:Int) !=toC op (l5.length:Int)):=rfl
                      rw [HNA.out.1,HNA.out.2] at he
                      cases g1:((l4.length:Int) !=na) with
                      | true=>
                        rw [g1,Bool.true_or] at he
                        have HE:=aM he
                        clear he
                        go_wp2_with fail
                        go_meet
                        exact ⟨by rw [HE.out],HX⟩
                      | false=>
                        rw [g1,Bool.false_or] at he
                        have HE:=aM he
                        clear he
                        go_wp2_with fail
                        go_meet
                        exact ⟨by rw [HE.out],HX⟩
                    case rest=>
                      clear HX
                      obtain ⟨rfl,HX⟩:=hcut
                      have hf:=HF.out
                      clear HF
                      cases ga:preArgs op (l4.length:Int) (l5.length:Int) with
                      | true=>
                        rw [ga,if_pos rfl] at hf
                        obtain rfl:=Option.some.inj hf
                        clear hf
                        (try rw [ga])
                        go_wp2
                        (try simp only [Exit.inBlock,Exit.then])
                        go_ret
                        exact ⟨rfl,HX.out.bel⟩
                      | false=>
                        rw [ga,if_neg (by decide)] at hf
                        have HF:=aM hf
                        clear hf
                        obtain ⟨lo,h1⟩:∃ q,lowC op=q:=⟨_,rfl⟩
                        obtain ⟨hi,h2⟩:∃ q,mostC op=q:=⟨_,rfl⟩
                        obtain ⟨hn,h3⟩:∃ q,hasN op=q:=⟨_,rfl⟩
                        rw [h1,h2,h3]
                        have HNB:=aM (And.intro h1 (And.intro h2 h3))
                        clear h1 h2 h3
                        go_upto_region 36 with (fail)
                        go_cut [112] (fun v112 wc=>v112=.bool (preNum op n)∧Aside0 (CkAt w.heap.size #[.int .i64 op,.int .i64 id,.int .i64 n,.int .i64 ty,.slice A4 l4.length c4,.slice A5 l5.length c5,.string nm,.int .i64 at_] w wc))
                        case first=>
                          clear HF
                          have z2:=blk_cell HX.out.box 2
                          have he:preNum op n=(decide (n<lowC op) || decide (mostC op<n) || (!(hasN op) && n !=0)):=rfl
                          rw [HNB.out.1,HNB.out.2.1,HNB.out.2.2] at he
                          cases g1:decide (n<lo) with
                          | true=>
                            rw [g1,Bool.true_or,Bool.true_or] at he
                            have HE:=aM he
                            clear he
                            go_wp2_with fail
                            go_meet
                            exact ⟨by rw [HE.out],HX⟩
                          | false=>
                            rw [g1,Bool.false_or] at he
                            cases g2:decide (hi<n) with
                            | true=>
                              rw [g2,Bool.true_or] at he
                              have HE:=aM he
                              clear he
                              go_wp2_with fail
                              go_meet
                              exact ⟨by rw [HE.out],HX⟩
                            | false=>
                              rw [g2,Bool.false_or] at he
                              cases hn with
                              | true=>
                                have HE:=aM (show preNum op n=false from he)
                                clear he
                                go_wp2_with fail
                                go_meet
                                exact ⟨by rw [HE.out],HX⟩
                              | false=>
                                have HE:=aM (show preNum op n=(n !=0) from he)
                                clear he
                                go_wp2_with fail
                                go_meet
                                exact ⟨by rw [HE.out],HX⟩
                        case rest=>
                          clear HX
                          obtain ⟨rfl,HX⟩:=hcut
                          have hf:=HF.out
                          clear HF
                          cases gn:preNum op n with
                          | true=>
                            rw [gn,if_pos rfl] at hf
                            obtain rfl:=Option.some.inj hf
                            clear hf
                            (try rw [gn])
                            go_wp2
                            (try simp only [Exit.inBlock,Exit.then])
                            go_ret
                            exact ⟨rfl,HX.out.bel⟩
                          | false=>
                            rw [gn,if_neg (by decide)] at hf
                            have HF:=aM hf
                            clear hf
                            (try rw [gn])
                            have z0:=blk_cell HX.out.box 0
                            have z1:=blk_cell HX.out.box 1
                            have z2:=blk_cell HX.out.box 2
                            have z3:=blk_cell HX.out.box 3
                            have z4:=blk_cell HX.out.box 4
                            have z5:=blk_cell HX.out.box 5
                            have z6:=blk_cell HX.out.box 6
                            have z7:=blk_cell HX.out.box 7
                            go_wp2_with fail
                            refine (show_names.calls k op id n ty A4 c4 l4 A5 c5 l5 nm at_ r _ (Kd.C_below H4.out HX.out.bel) H6.out.1 (Kd.C_below H5.out HX.out.bel) H6.out.2 HF.out).mono ?_
                            rintro e w7 ⟨rfl,hb_⟩
                            have HB:=aM (below_step HX.out.bel hb_)
                            clear hb_ z0 z1 z2 z3 z4 z5 z6 z7
                            go_wp2
                            go_ret
                            exact ⟨rfl,HB.out⟩
def head4 (f:S34):Int:=if (f.f1.all fun t=>decide (1≤t) && decide (t≤2))=true then 0 else 9
def head3 (f:S34):Int:=if (decide (0≤f.f2) && decide (f.f2≤2))=true then head4 f else 9
def head2 (f:S34):Int:=if nameL f.f0.data.toList=true then head3 f else 4
def limC (f:S34) (i:Int):Bool:=decide (32≤i) || decide (8<(f.f1.length:Int)) || decide (256<(f.f3.length:Int))
def headC (f:S34) (i:Int):Int:=if limC f i=true then 6 else head2 f
def shwI (k:Nat):List (S39)→Int→Option (Int × Int)
  | [],n=>some (0,n)
  | x::xs,n=>if 4096<n+1 then some (6,n+1) else (show_Check.f k x.f0 x.f1 x.f2 x.f3 x.f4 x.f5 x.f6 x.f7).bind fun c=>if c=0 then shwI k xs (n+1) else some (c,n+1)
def shwB (k:Nat):List (List (S39))→Int→Option (Int × Int)
  | [],n=>some (0,n)
  | b::bs,n=>(shwI k b n).bind fun q=>if q.1=0 then shwB k bs q.2 else some q
def shwF (k:Nat):List (S34)→Int→Int→Option (Int × Int)
  | [],_,_=>some (0,0)
  | f::fs,i,n=>if headC f i=0 then (shwB k f.f3 n).bind fun q=>if q.1=0 then shwF k fs (i+1) q.2 else some (q.1,i) else some (headC f i,i)
def show_Whole.f (k:Nat) (fs:List (S34)):Option (Int × Int):=shwF k fs 0 0
theorem drop_cons {α:Type} (l:List α) (x:Int) (z:α) (h0:0≤x) (h1:x<(l.length:Int)):l.drop x.toNat=l.getD x.toNat z::l.drop (x+1).toNat:=by
  have h:x.toNat<l.length:=by omega
  rw [List.drop_eq_getElem_cons h,show (x+1).toNat=x.toNat+1 by omega,List.getD_eq_getElem?_getD,List.getElem?_eq_getElem h]
  rfl
theorem drop_none {α:Type} (l:List α) (x:Int) (h1:¬ x<(l.length:Int)):l.drop x.toNat=[]:=List.drop_eq_nil_of_le (by omega)
theorem bad_calls (c i:Int) (b:Nat) (w:World) (hc:w.cell? ⟨b,0,none⟩=some (.int .i64 i)):
    Calls Try.prog 54 #[.int .i64 c,.pointer (some ⟨b,0,none⟩)] w fun e w'=>e=.returned (.agg #[.int .i64 c,.int .i64 i])∧Below w.heap.size w w':=by
  have hu28:=Try.underlying28
  have hz:=blk_new w (.cells #[.int .i64 0,.int .i64 0] 28)
  have hb:=below_alloc (Below.refl w.heap.size w) (.cells #[.int .i64 0,.int .i64 0] 28)
  have hc1:(w.alloc (.cells #[.int .i64 0,.int .i64 0] 28)).cell? ⟨b,0,none⟩=some (.int .i64 i):=pw_cell_below hb hc
  go_enter Try.func54,Try.ntmps54
  go_upto_region 1 with (fail)
  generalize w.alloc (.cells #[.int .i64 0,.int .i64 0] 28)=W0 at hz hb hc1 ⊢
  have z0:=blk_cell hz 0
  have z1:=blk_cell hz 1
  have f0:=blk_frozen hz 0
  have f1:=blk_frozen hz 1
  go_wp2
  refine bodyPost_ret (results_cell_row rfl _ _ w.heap.size 28 #[.int .i64 c,.int .i64 i] (0,0) _ rfl (blk_put (blk_put hz 0 _ rfl) 1 _ rfl) Try.underlying28 rfl (by kernel_rfl)) rfl ?_
  exact ⟨rfl,below_set (below_set hb (Nat.le_refl _)) (Nat.le_refl _)⟩
structure WhAt (b2:Nat) (w w':World):Prop where
  zero:w'.heap[b2]?=some (.cells #[.int .i64 0,.int .i64 0] 28 (0,0))
  ge:w.heap.size≤b2
  bel:Below w.heap.size w w'
theorem WhAt.below {b2:Nat} {w w1 w2:World} (h:WhAt b2 w w1) (hb:Below w1.heap.size w1 w2):WhAt b2 w w2:=⟨blk_below h.zero hb,h.ge,below_step h.bel hb⟩
theorem show_Whole.calls (k:Nat) (A0:Option Addr) (c0:Nat) (fs:List (S34)) (r1 r2:Int) (w:World) (hr:Kd.C k34 w A0 fs.length fs) (hc:fs.length≤c0) (h:show_Whole.f k fs=some (r1,r2)):
    Calls Try.prog 19 #[.agg #[.slice A0 fs.length c0]] w fun e w'=>e=.returned (.agg #[.int .i64 r1,.int .i64 r2])∧Below w.heap.size w w':=by
  have hu24:=Try.underlying24
  have hu28:=Try.underlying28
  have hu34:=Try.underlying34
  have hu39:=Try.underlying39
  have hmf:∀ (fn:Fn) (first cap:Array Value) (w:World),(Instr.makeFunc fn first cap).run Try.prog w=.ok (.func fn first cap) w:=fun _ _ _ _=>rfl
  have HC:=aM hr
  have HF:=aM (show shwF k fs 0 0=some (r1,r2) from h)
  clear hr h
  go_enter Try.func19,Try.ntmps19
  have hb1:=blk_alloc (blk_new w (.cells #[.slice A0 fs.length c0] 24)) (.cells #[.int .i64 0,.int .i64 0] 28)
  have hz:=blk_new (w.alloc (.cells #[.slice A0 fs.length c0] 24)) (.cells #[.int .i64 0,.int .i64 0] 28)
  rw [show (w.alloc (.cells #[.slice A0 fs.length c0] 24)).heap.size=w.heap.size+1 by simp] at hz
  have HX:=aM (show WhAt (w.heap.size+1) w _ from ⟨hz,Nat.le_succ _,below_alloc (below_alloc (Below.refl _ _) _) _⟩)
  go_upto_region 1 with (fail)
  generalize (w.alloc (.cells #[.slice A0 fs.length c0] 24)).alloc (.cells #[.int .i64 0,.int .i64 0] 28)=W0 at hb1 HX ⊢
  clear hz
  have z1:=blk_cell hb1 0
  go_wp2
  (try simp only [Act.put,qA,qB,qC])
  clear hb1 z1
  go_loopg [3,17] fs.length (fun kq v3 v17 w'=>∃ (n i:Int),v3=.int .i64 n∧v17=.int .i64 i∧Aside0 (0≤n∧n≤4096)∧Aside0 (0≤i∧i≤(fs.length:Int)∧i≤32)∧Aside0 (shwF k (fs.drop i.toNat) i n=some (r1,r2))∧Aside0 (WhAt (w.heap.size+1) w w')∧Aside0 (kq=fs.length - i.toNat))
  case atStart=>exact ⟨0,0,rfl,rfl,⟨by omega⟩,⟨by omega⟩,⟨HF.out⟩,⟨HX.out⟩,⟨rfl⟩⟩
  case round=>
    clear HX HF
    obtain ⟨n,i,rfl,rfl,HNN,HI,HF,HX,HK⟩:=hrel
    by_cases hp:i<(fs.length:Int)
    · have d1:decide (i<(fs.length:Int))=true:=decide_eq_true hp
      have hf:=HF.out
      rw [drop_cons fs i z34 HI.out.1 hp] at hf
      have hx:fs.getD i.toNat z34=rd_T34 fs i:=rfl
      rw [hx] at hf
      clear hx
      obtain ⟨ad,A1,c1,A3,c3,e_,z0,z1,z2,z3,z4,l1,g1,l3,g3⟩:=at_T34 (Kd.C_below HC.out HX.out.bel) i HI.out.1 hp
      subst e_
      generalize rd_T34 fs i=f at hf z0 z1 z2 z3 z4 l1 g1 l3 g3
      simp only [shwF] at hf
      have HP:=aM hp
      have HF:=aM hf
      have HL:=aM (And.intro l1 l3)
      have HLM:=aM (And.intro (Kd.C_max g1) (Kd.C_max g3))
      have HG1:=aM g1
      have HG3:=aM g3
      have p1:=eq_true HI.out.1
      have q1:=eq_true hp
      clear hp hf l1 g1 l3 g3
      have hbi:=blk_alloc (blk_new wr (.cells #[.int .i64 i] 3)) (.cells #[.string f.f0,.slice A1 f.f1.length c1,.int .i64 f.f2,.slice A3 f.f3.length c3,.int .i64 f.f4] 34)
      have hbf:=blk_new (wr.alloc (.cells #[.int .i64 i] 3)) (.cells #[.string f.f0,.slice A1 f.f1.length c1,.int .i64 f.f2,.slice A3 f.f3.length c3,.int .i64 f.f4] 34)
      rw [show (wr.alloc (.cells #[.int .i64 i] 3)).heap.size=wr.heap.size+1 by simp] at hbf
      have hbb:Below wr.heap.size wr ((wr.alloc (.cells #[.int .i64 i] 3)).alloc (.cells #[.string f.f0,.slice A1 f.f1.length c1,.int .i64 f.f2,.slice A3 f.f3.length c3,.int .i64 f.f4] 34)):=below_alloc (below_alloc (Below.refl _ _) _) _
      go_upto_region 5 with (fail)
      have HX1:=aM (HX.out.below hbb)
      have HC1:=aM (Kd.C_below HG1.out hbb)
      have HC3:=aM (Kd.C_below HG3.out hbb)
      have HBI:=aM hbi
      have HBF:=aM hbf
      clear hbi hbf hbb z0 z1 z2 z3 z4 p1 q1 d1 HX HG1 HG3
      generalize ((wr.alloc (.cells #[.int .i64 i] 3)).alloc (.cells #[.string f.f0,.slice A1 f.f1.length c1,.int .i64 f.f2,.slice A3 f.f3.length c3,.int .i64 f.f4] 34))=W1 at HX1 HC1 HC3 HBI HBF ⊢
      generalize wr.heap.size+1=bf at HBF ⊢
      generalize wr.heap.size=bi at HBI ⊢
      have zi:=blk_cell HBI.out 0
      have z1:=blk_cell HBF.out 1
      have z3:=blk_cell HBF.out 3
      go_upto_region 6 with (fail)
      go_cut [23] (fun v23 wc=>v23=.bool (limC f i)∧Aside0 (Below W1.heap.size W1 wc))
      case first=>
        have he:limC f i=(decide (32≤i) || decide (8<(f.f1.length:Int)) || decide (256<(f.f3.length:Int))):=rfl
        cases g1:decide (32≤i) with
        | true=>
          rw [g1,Bool.true_or,Bool.true_or] at he
          have HE:=aM he
          clear he
          go_wp2_with fail
          go_meet
          exact ⟨by rw [HE.out],⟨Below.refl _ _⟩⟩
        | false=>
          rw [g1,Bool.false_or] at he
          cases g2:decide (8<(f.f1.length:Int)) with
          | true=>
            rw [g2,Bool.true_or] at he
            have HE:=aM he
            clear he
            go_wp2_with fail
            go_meet
            exact ⟨by rw [HE.out],⟨Below.refl _ _⟩⟩
          | false=>
            rw [g2,Bool.false_or] at he
            have HE:=aM he
            clear he
            go_wp2_with fail
            go_meet
            exact ⟨by rw [HE.out],⟨Below.refl _ _⟩⟩
      case rest=>
        clear zi z1 z3
        obtain ⟨rfl,HB⟩:=hcut
        have hf:=HF.out
        clear HF
        cases gl:limC f i with
        | true=>
          have hh:headC f i=6:=if_pos gl
          rw [hh,if_neg (by decide)] at hf
          obtain ⟨rfl,rfl⟩:6=r1∧i=r2:=by simpa using hf
          clear hf hh
          (try rw [gl])
          have zi:=blk_cell (blk_below HBI.out HB.out) 0
          go_wp2_with fail
          refine (bad_calls 6 i bi _ zi).mono ?_
          rintro e w9 ⟨rfl,hb9⟩
          have HX9:=aM ((HX1.out.below HB.out).below hb9)
          have y0:=blk_cell HX9.out.zero 0
          have y1:=blk_cell HX9.out.zero 1
          have f0:=blk_frozen HX9.out.zero 0
          have f1:=blk_frozen HX9.out.zero 1
          clear zi hb9
          go_wp2
          (try simp only [Exit.inBlock,Exit.then])
          refine bodyPost_ret (results_cell_row rfl _ _ (w.heap.size+1) 28 #[.int .i64 6,.int .i64 i] (0,0) _ rfl (blk_put (blk_put HX9.out.zero 0 _ rfl) 1 _ rfl) Try.underlying28 rfl (by kernel_rfl)) rfl ?_
          exact ⟨rfl,below_set (below_set HX9.out.bel HX9.out.ge) HX9.out.ge⟩
        | false=>
          have hh:headC f i=head2 f:=if_neg (by rw [gl];decide)
          have hi32:i<32:=by
            unfold limC at gl
            simp only [Bool.or_eq_false_iff,decide_eq_false_iff_not] at gl
            omega
          rw [hh] at hf
          (try rw [gl])
          have H32:=aM hi32
          clear hh gl hi32
          have z0:=blk_cell (blk_below HBF.out HB.out) 0
          have HF:=aM hf
          clear hf
          go_wp2_with fail
          refine (token_Name.calls f.f0 (nameL f.f0.data.toList) _ rfl).mono ?_
          rintro e w2 ⟨rfl,hb2⟩
          have HB2:=aM (below_step HB.out hb2)
          clear hb2 z0 HB
          have hf:=HF.out
          clear HF
          cases gn:nameL f.f0.data.toList with
          | false=>
            have hh:head2 f=4:=if_neg (by rw [gn];decide)
            rw [hh,if_neg (by decide)] at hf
            obtain ⟨rfl,rfl⟩:4=r1∧i=r2:=by simpa using hf
            clear hf hh
            (try rw [gn])
            have HB:=HB2
            have zi:=blk_cell (blk_below HBI.out HB.out) 0
            go_wp2_with fail
            refine (bad_calls 4 i bi _ zi).mono ?_
            rintro e w9 ⟨rfl,hb9⟩
            have HX9:=aM ((HX1.out.below HB.out).below hb9)
            have y0:=blk_cell HX9.out.zero 0
            have y1:=blk_cell HX9.out.zero 1
            have f0:=blk_frozen HX9.out.zero 0
            have f1:=blk_frozen HX9.out.zero 1
            clear zi hb9
            go_wp2
            (try simp only [Exit.inBlock,Exit.then])
            refine bodyPost_ret (results_cell_row rfl _ _ (w.heap.size+1) 28 #[.int .i64 4,.int .i64 i] (0,0) _ rfl (blk_put (blk_put HX9.out.zero 0 _ rfl) 1 _ rfl) Try.underlying28 rfl (by kernel_rfl)) rfl ?_
            exact ⟨rfl,below_set (below_set HX9.out.bel HX9.out.ge) HX9.out.ge⟩
          | true=>
            have hh:head2 f=head3 f:=if_pos gn
            rw [hh] at hf
            (try rw [gn])
            clear hh gn
            have z2:=blk_cell (blk_below HBF.out HB2.out) 2
            have HF:=aM hf
            clear hf
            go_wp2_with fail
            refine (within_c f.f2 0 2 _).mono ?_
            rintro e w3 ⟨rfl,⟨nd,rfl⟩⟩
            have HB:=aM (below_step HB2.out (pw_below_drewN (Below.refl _ _) nd))
            clear z2 HB2
            have hf:=HF.out
            clear HF
            cases gt:(decide (0≤f.f2) && decide (f.f2≤2)) with
            | false=>
              have hh:head3 f=9:=if_neg (by rw [gt];decide)
              rw [hh,if_neg (by decide)] at hf
              obtain ⟨rfl,rfl⟩:9=r1∧i=r2:=by simpa using hf
              clear hf hh
              (try rw [gt])
              have zi:=blk_cell (blk_below HBI.out HB.out) 0
              go_wp2_with fail
              refine (bad_calls 9 i bi _ zi).mono ?_
              rintro e w9 ⟨rfl,hb9⟩
              have HX9:=aM ((HX1.out.below HB.out).below hb9)
              have y0:=blk_cell HX9.out.zero 0
              have y1:=blk_cell HX9.out.zero 1
              have f0:=blk_frozen HX9.out.zero 0
              have f1:=blk_frozen HX9.out.zero 1
              clear zi hb9
              go_wp2
              (try simp only [Exit.inBlock,Exit.then])
              refine bodyPost_ret (results_cell_row rfl _ _ (w.heap.size+1) 28 #[.int .i64 9,.int .i64 i] (0,0) _ rfl (blk_put (blk_put HX9.out.zero 0 _ rfl) 1 _ rfl) Try.underlying28 rfl (by kernel_rfl)) rfl ?_
              exact ⟨rfl,below_set (below_set HX9.out.bel HX9.out.ge) HX9.out.ge⟩
            | true=>
              have hh:head3 f=head4 f:=if_pos gt
              rw [hh] at hf
              (try rw [gt])
              clear hh gt
              have HF:=aM hf
              clear hf
              have z1:=blk_cell (blk_below HBF.out HB.out) 1
              go_wp2
              (try simp only [Act.put,qA,qB,qC])
              clear z1
              generalize w2.drewN nd=W2 at HB ⊢
              go_loopg [57] f.f1.length (fun kq v57 w'=>∃ (j:Int),v57=.int .i64 j∧Aside0 (0≤j∧j≤(f.f1.length:Int))∧Aside0 ((f.f1.all fun t=>decide (1≤t) && decide (t≤2))=((f.f1.drop j.toNat).all fun t=>decide (1≤t) && decide (t≤2)))∧Aside0 (Below W1.heap.size W1 w')∧Aside0 (kq=f.f1.length - j.toNat))
              case atStart=>exact ⟨0,rfl,⟨by omega⟩,⟨rfl⟩,⟨HB.out⟩,⟨rfl⟩⟩
              case round=>
                clear HB
                obtain ⟨j,rfl,HJ,HA,HB,HKJ⟩:=hrel
                by_cases hj:j<(f.f1.length:Int)
                · have dj:decide (j<(f.f1.length:Int))=true:=decide_eq_true hj
                  have ha:=HA.out
                  rw [drop_cons f.f1 j 0 HJ.out.1 hj,List.all_cons] at ha
                  obtain ⟨ad1,e1,hx1⟩:=Kd.at_int (Kd.C_below HC1.out HB.out) j HJ.out.1 hj
                  subst e1
                  have hrd:rd f.f1 j=f.f1.getD j.toNat 0:=rfl
                  rw [← hrd] at ha
                  clear hrd
                  generalize rd f.f1 j=t at ha hx1
                  have pj:=eq_true HJ.out.1
                  have qj:=eq_true hj
                  have HJ2:=aM hj
                  have HA2:=aM ha
                  clear hj ha
                  go_wp2_with fail
                  refine (within_c t 1 2 _).mono ?_
                  rintro e w3 ⟨rfl,⟨nd2,rfl⟩⟩
                  have HB3:=aM (below_step HB.out (pw_below_drewN (Below.refl _ _) nd2))
                  clear hx1 pj qj dj
                  cases gt:(decide (1≤t) && decide (t≤2)) with
                  | false=>
                    have ha2:=HA2.out
                    rw [gt,Bool.false_and] at ha2
                    have hf:=HF.out
                    have hh:head4 f=9:=if_neg (by rw [ha2];decide)
                    rw [hh,if_neg (by decide)] at hf
                    obtain ⟨rfl,rfl⟩:9=r1∧i=r2:=by simpa using hf
                    clear hf hh ha2 HF
                    (try rw [gt])
                    have HB:=HB3
                    have zi:=blk_cell (blk_below HBI.out HB.out) 0
                    go_wp2_with fail
                    refine (bad_calls 9 i bi _ zi).mono ?_
                    rintro e w9 ⟨rfl,hb9⟩
                    have HX9:=aM ((HX1.out.below HB.out).below hb9)
                    have y0:=blk_cell HX9.out.zero 0
                    have y1:=blk_cell HX9.out.zero 1
                    have f0:=blk_frozen HX9.out.zero 0
                    have f1:=blk_frozen HX9.out.zero 1
                    clear zi hb9
                    go_wp2
                    (try simp only [Exit.inBlock,Exit.then])
                    refine bodyPost_ret (results_cell_row rfl _ _ (w.heap.size+1) 28 #[.int .i64 9,.int .i64 i] (0,0) _ rfl (blk_put (blk_put HX9.out.zero 0 _ rfl) 1 _ rfl) Try.underlying28 rfl (by kernel_rfl)) rfl ?_
                    exact ⟨rfl,below_set (below_set HX9.out.bel HX9.out.ge) HX9.out.ge⟩
                  | true=>
                    have ha2:=HA2.out
                    rw [gt,Bool.true_and] at ha2
                    have HA3:=aM ha2
                    clear ha2
                    (try rw [gt])
                    clear gt
                    go_wp2_with fail
                    go_roundg (f.f1.length - (j+1).toNat)
                    case measure=>have:=HKJ.out;have:=HJ2.out;have:=HJ.out;omega
                    case rel=>exact ⟨j+1,by rw [show wrap64 (j+1)=j+1 from w64 (by have:=HJ.out;omega) (by have:=HJ2.out;have:=HL.out;have:=HLM.out;omega)],⟨by have:=HJ.out;have:=HJ2.out;omega⟩,HA3,HB3,⟨rfl⟩⟩
                · have dj:decide (j<(f.f1.length:Int))=false:=decide_eq_false hj
                  have ha:=HA.out
                  rw [drop_none _ _ hj] at ha
                  have hh:head4 f=0:=if_pos ha
                  have hf:=HF.out
                  rw [hh,if_pos rfl] at hf
                  obtain ⟨⟨qc,qn⟩,hq,hf⟩:=Option.bind_eq_some_iff.mp hf
                  have HQ:=aM hq
                  have HF:=aM hf
                  clear hj ha hh hq hf HA HJ HKJ
                  have z3:=blk_cell (blk_below HBF.out HB.out) 3
                  go_wp2
                  (try simp only [Act.put,qA,qB,qC])
                  clear z3 dj
                  go_loopg [3,70] f.f3.length (fun kq v3 v70 w'=>∃ (m j:Int),v3=.int .i64 m∧v70=.int .i64 j∧Aside0 (0≤m∧m≤4096)∧Aside0 (0≤j∧j≤(f.f3.length:Int))∧Aside0 (shwB k (f.f3.drop j.toNat) m=some (qc,qn))∧Aside0 (Below W1.heap.size W1 w')∧Aside0 (kq=f.f3.length - j.toNat))
                  case atStart=>exact ⟨n,0,rfl,rfl,⟨HNN.out⟩,⟨by omega⟩,⟨HQ.out⟩,⟨HB.out⟩,⟨rfl⟩⟩
                  case round=>
                    clear HB HQ
                    obtain ⟨m,j,rfl,rfl,HM,HJ,HS,HB,HKJ⟩:=hrel
                    by_cases hj:j<(f.f3.length:Int)
                    · have dj:decide (j<(f.f3.length:Int))=true:=decide_eq_true hj
                      have hs:=HS.out
                      rw [drop_cons f.f3 j [] HJ.out.1 hj] at hs
                      simp only [shwB] at hs
                      obtain ⟨ad2,cs,e2,-,hK,hc0⟩:=Kd.C_get HC3.out ([]:List (S39)) j HJ.out.1 hj
                      obtain ⟨A5,c5,rfl,l5,g5⟩:=hK
                      subst e2
                      have hx2:=hc0 0 _ rfl
                      rw [show j.toNat * (Kd.slice 39 k39).sz+0=j.toNat from by show j.toNat * 1+0=_;omega] at hx2
                      replace hx2:=pw_cell_below HB.out hx2
                      clear hc0
                      generalize f.f3.getD j.toNat []=bl at hs hx2 l5 g5
                      obtain ⟨⟨pc,pn⟩,hi,hs⟩:=Option.bind_eq_some_iff.mp hs
                      have HII:=aM hi
                      have HS2:=aM hs
                      have HL5:=aM l5
                      have HG5:=aM g5
                      have HM5:=aM (Kd.C_max g5)
                      have pj:=eq_true HJ.out.1
                      have qj:=eq_true hj
                      have HJ2:=aM hj
                      clear hj hi hs l5 g5 HS
                      go_wp2
                      (try simp only [Act.put,qA,qB,qC])
                      clear hx2 pj qj dj
                      go_loopg [3,76] bl.length (fun kq v3 v76 w'=>∃ (m q:Int),v3=.int .i64 m∧v76=.int .i64 q∧Aside0 (0≤m∧m≤4096)∧Aside0 (0≤q∧q≤(bl.length:Int))∧Aside0 (shwI k (bl.drop q.toNat) m=some (pc,pn))∧Aside0 (Below W1.heap.size W1 w')∧Aside0 (kq=bl.length - q.toNat))
                      case atStart=>exact ⟨m,0,rfl,rfl,⟨HM.out⟩,⟨by omega⟩,⟨HII.out⟩,⟨HB.out⟩,⟨rfl⟩⟩
                      case round=>
                        clear HII HB HM
                        obtain ⟨m,q,rfl,rfl,HM,HQ2,HS,HB,HKQ⟩:=hrel
                        by_cases hq:q<(bl.length:Int)
                        · have dj:decide (q<(bl.length:Int))=true:=decide_eq_true hq
                          have hs:=HS.out
                          rw [drop_cons bl q z39 HQ2.out.1 hq] at hs
                          have hx:bl.getD q.toNat z39=rd_T39 bl q:=rfl
                          rw [hx] at hs
                          clear hx
                          obtain ⟨ad3,B4,d4,B5,d5,e3,y0,y1,y2,y3,y4,y5,y6,y7,m4,h4,m5,h5⟩:=at_T39 (Kd.C_below HG5.out HB.out) q HQ2.out.1 hq
                          subst e3
                          generalize rd_T39 bl q=x at hs y0 y1 y2 y3 y4 y5 y6 y7 m4 h4 m5 h5
                          simp only [shwI] at hs
                          have HS2I:=aM hs
                          have HX4:=aM (And.intro h4 h5)
                          have HX5:=aM (And.intro m4 m5)
                          have pj:=eq_true HQ2.out.1
                          have qj:=eq_true hq
                          have HQ3:=aM hq
                          clear hq hs h4 h5 m4 m5 HS
                          have hbx:=blk_new wr (.cells #[.int .i64 x.f0,.int .i64 x.f1,.int .i64 x.f2,.int .i64 x.f3,.slice B4 x.f4.length d4,.slice B5 x.f5.length d5,.string x.f6,.int .i64 x.f7] 39)
                          have hbb:=below_alloc (Below.refl wr.heap.size wr) (.cells #[.int .i64 x.f0,.int .i64 x.f1,.int .i64 x.f2,.int .i64 x.f3,.slice B4 x.f4.length d4,.slice B5 x.f5.length d5,.string x.f6,.int .i64 x.f7] 39)
                          go_upto_region 24 with (fail)
                          have HB2:=aM (below_step HB.out hbb)
                          have HBX:=aM hbx
                          have HC4:=aM (Kd.C_below HX4.out.1 hbb)
                          have HC5:=aM (Kd.C_below HX4.out.2 hbb)
                          clear hbx hbb y0 y1 y2 y3 y4 y5 y6 y7 pj qj dj HX4 HB
                          generalize wr.alloc (.cells #[.int .i64 x.f0,.int .i64 x.f1,.int .i64 x.f2,.int .i64 x.f3,.slice B4 x.f4.length d4,.slice B5 x.f5.length d5,.string x.f6,.int .i64 x.f7] 39)=W5 at HB2 HBX HC4 HC5 ⊢
                          generalize wr.heap.size=bx at HBX ⊢
                          have HB:=HB2
                          clear HB2
                          have hw:wrap64 (m+1)=m+1:=w64 (by have:=HM.out;omega) (by have:=HM.out;omega)
                          have p0:0≤m:=HM.out.1
                          have p1:m≤4096:=HM.out.2
                          have hs:=HS2I.out
                          by_cases h4:4096<m+1
                          · rw [if_pos h4] at hs
                            obtain ⟨rfl,rfl⟩:6=pc∧m+1=pn:=by simpa using hs
                            have hs2:=HS2.out
                            rw [if_neg (by decide)] at hs2
                            obtain ⟨rfl,rfl⟩:6=qc∧m+1=qn:=by simpa using hs2
                            have hf:=HF.out
                            rw [if_neg (by decide)] at hf
                            obtain ⟨rfl,rfl⟩:6=r1∧i=r2:=by simpa using hf
                            have d4_:decide (4096<m+1)=true:=decide_eq_true h4
                            clear hs hs2 hf hw h4 HS2I HS2 HF
                            have zi:=blk_cell (blk_below HBI.out HB.out) 0
                            go_wp2_with fail
                            refine (bad_calls 6 i bi _ zi).mono ?_
                            rintro e w9 ⟨rfl,hb9⟩
                            have HX9:=aM ((HX1.out.below HB.out).below hb9)
                            have y0:=blk_cell HX9.out.zero 0
                            have y1:=blk_cell HX9.out.zero 1
                            have f0:=blk_frozen HX9.out.zero 0
                            have f1:=blk_frozen HX9.out.zero 1
                            clear zi hb9
                            go_wp2
                            (try simp only [Exit.inBlock,Exit.then])
                            refine bodyPost_ret (results_cell_row rfl _ _ (w.heap.size+1) 28 #[.int .i64 6,.int .i64 i] (0,0) _ rfl (blk_put (blk_put HX9.out.zero 0 _ rfl) 1 _ rfl) Try.underlying28 rfl (by kernel_rfl)) rfl ?_
                            exact ⟨rfl,below_set (below_set HX9.out.bel HX9.out.ge) HX9.out.ge⟩
                          · rw [if_neg h4] at hs
                            have d4_:decide (4096<m+1)=false:=decide_eq_false h4
                            obtain ⟨c,hck,hs⟩:=Option.bind_eq_some_iff.mp hs
                            have HCK:=aM hck
                            have HM2:=aM (show m+1≤4096 by omega)
                            clear hck HS2I hw h4
                            have y0:=blk_cell HBX.out 0
                            have y1:=blk_cell HBX.out 1
                            have y2:=blk_cell HBX.out 2
                            have y3:=blk_cell HBX.out 3
                            have y4:=blk_cell HBX.out 4
                            have y5:=blk_cell HBX.out 5
                            have y6:=blk_cell HBX.out 6
                            have y7:=blk_cell HBX.out 7
                            have HS3:=aM hs
                            clear hs
                            go_wp2_with fail
                            refine (show_Check.calls k x.f0 x.f1 x.f2 x.f3 B4 d4 x.f4 B5 d5 x.f5 x.f6 x.f7 c _ HC4.out HX5.out.1 HC5.out HX5.out.2 HCK.out).mono ?_
                            rintro e w6 ⟨rfl,hb6⟩
                            have HB6:=aM (below_step HB.out hb6)
                            clear hb6 y0 y1 y2 y3 y4 y5 y6 y7 HB
                            have HB:=HB6
                            clear HB6
                            have hs:=HS3.out
                            by_cases hc0:c=0
                            · rw [if_pos hc0] at hs
                              have HS4:=aM hs
                              have g0:(c !=0)=false:=bne_eq_false_iff_eq.mpr hc0
                              clear hs hc0
                              go_wp2_with fail
                              go_roundg (bl.length - (q+1).toNat)
                              case measure=>have:=HKQ.out;have:=HQ2.out;have:=HQ3.out;omega
                              case rel=>exact ⟨m+1,q+1,by first | rfl | rw [show wrap64 (m+1)=m+1 from w64 (by omega) (by omega)],by rw [show wrap64 (q+1)=q+1 from w64 (by have:=HQ2.out;omega) (by have:=HQ3.out;have:=HM5.out;omega)],⟨by have:=HM.out;have:=HM2.out;omega⟩,⟨by have:=HQ2.out;have:=HQ3.out;omega⟩,HS4,⟨HB.out⟩,⟨rfl⟩⟩
                            · rw [if_neg hc0] at hs
                              have g0:(c !=0)=true:=bne_iff_ne.mpr hc0
                              obtain ⟨rfl,rfl⟩:c=pc∧m+1=pn:=by simpa using hs
                              have hs2:=HS2.out
                              rw [if_neg hc0] at hs2
                              obtain ⟨rfl,rfl⟩:c=qc∧m+1=qn:=by simpa using hs2
                              have hf:=HF.out
                              rw [if_neg hc0] at hf
                              obtain ⟨rfl,rfl⟩:c=r1∧i=r2:=by simpa using hf
                              clear hs hs2 hf hc0 HS2 HF
                              have zi:=blk_cell (blk_below HBI.out HB.out) 0
                              go_wp2_with fail
                              refine (bad_calls c i bi _ zi).mono ?_
                              rintro e w9 ⟨rfl,hb9⟩
                              have HX9:=aM ((HX1.out.below HB.out).below hb9)
                              have y0:=blk_cell HX9.out.zero 0
                              have y1:=blk_cell HX9.out.zero 1
                              have f0:=blk_frozen HX9.out.zero 0
                              have f1:=blk_frozen HX9.out.zero 1
                              clear zi hb9
                              go_wp2
                              (try simp only [Exit.inBlock,Exit.then])
                              refine bodyPost_ret (results_cell_row rfl _ _ (w.heap.size+1) 28 #[.int .i64 c,.int .i64 i] (0,0) _ rfl (blk_put (blk_put HX9.out.zero 0 _ rfl) 1 _ rfl) Try.underlying28 rfl (by kernel_rfl)) rfl ?_
                              exact ⟨rfl,below_set (below_set HX9.out.bel HX9.out.ge) HX9.out.ge⟩
                        · have dj:decide (q<(bl.length:Int))=false:=decide_eq_false hq
                          have hs:=HS.out
                          rw [drop_none _ _ hq] at hs
                          obtain ⟨rfl,rfl⟩:0=pc∧m=pn:=by simpa [shwI] using hs
                          have hs2:=HS2.out
                          rw [if_pos rfl] at hs2
                          have HS3:=aM hs2
                          clear hq hs hs2 HS HS2
                          go_wp2_with fail
                          go_roundg (f.f3.length - (j+1).toNat)
                          case measure=>have:=HKJ.out;have:=HJ.out;have:=HJ2.out;omega
                          case rel=>exact ⟨m,j+1,rfl,by rw [show wrap64 (j+1)=j+1 from w64 (by have:=HJ.out;omega) (by have:=HJ2.out;have:=HLM.out;omega)],⟨HM.out⟩,⟨by have:=HJ.out;have:=HJ2.out;omega⟩,⟨HS3.out⟩,⟨HB.out⟩,⟨rfl⟩⟩
                    · have dj:decide (j<(f.f3.length:Int))=false:=decide_eq_false hj
                      have hs:=HS.out
                      rw [drop_none _ _ hj] at hs
                      obtain ⟨rfl,rfl⟩:0=qc∧m=qn:=by simpa [shwB] using hs
                      have hf:=HF.out
                      rw [if_pos rfl] at hf
                      have HF2:=aM hf
                      clear hj hs hf HS HF
                      go_wp2_with fail
                      go_roundg (fs.length - (i+1).toNat)
                      case measure=>have:=HK.out;have:=HP.out;have:=HI.out;omega
                      case rel=>exact ⟨m,i+1,rfl,by rw [show wrap64 (i+1)=i+1 from w64 (by have:=HI.out;omega) (by have:=H32.out;omega)],⟨HM.out⟩,⟨by have:=HI.out;have:=HP.out;have:=H32.out;omega⟩,⟨HF2.out⟩,⟨HX1.out.below HB.out⟩,⟨rfl⟩⟩
    · have d1:decide (i<(fs.length:Int))=false:=decide_eq_false hp
      have hf:=HF.out
      rw [drop_none _ _ hp] at hf
      obtain ⟨rfl,rfl⟩:0=r1∧0=r2:=by simpa [shwF] using hf
      clear hf hp HF
      have y0:=blk_cell HX.out.zero 0
      have y1:=blk_cell HX.out.zero 1
      have f0:=blk_frozen HX.out.zero 0
      have f1:=blk_frozen HX.out.zero 1
      go_wp2
      refine bodyPost_ret (results_cell_row rfl _ _ (w.heap.size+1) 28 #[.int .i64 0,.int .i64 0] (0,0) _ rfl (blk_put (blk_put HX.out.zero 0 _ rfl) 1 _ rfl) Try.underlying28 rfl (by kernel_rfl)) rfl ?_
      exact ⟨rfl,below_set (below_set HX.out.bel HX.out.ge) HX.out.ge⟩
end Go.Proofs.Ytkjdblbgmomieaa.PSh
end
section
namespace Go.Proofs.Ytkjdblbgmomieaa.PSh
open Go.Shelf Go.RowKit Go.Proofs.YtkjdblbgmomieaaW.PrintWords Go.Proofs.Ytkjdblbgmomieaa.Str
set_option linter.unusedVariables false
def lays156_ren:Go.Shelf.Ren:=⟨fun | 156=>66 | 165=>92 | 166=>31 | 169=>34 | 240=>65 | 241=>97 | 276=>91 | 277=>104 | n=>n,fun | 31=>56 | 9=>9 | 3=>3 | 4=>4 | 0=>0 | 20=>20 | 72=>55 | 76=>60 | 70=>52 | 37=>53 | 75=>59 | 127=>93 | 164=>112 | 5=>5 | 80=>51 | n=>n,fun | n=>n⟩
theorem lays156:Go.Proofs.Lays.n156 Try.prog lays156_ren:={
  mixed:=by kernel_rfl
  f156:=Try.func66.trans (congrArg some (by kernel_rfl))
  f165:=Try.func92.trans (congrArg some (by kernel_rfl))
  f166:=Try.func31.trans (congrArg some (by kernel_rfl))
  f169:=Try.func34.trans (congrArg some (by kernel_rfl))
  f240:=Try.func65.trans (congrArg some (by kernel_rfl))
  f241:=Try.func97.trans (congrArg some (by kernel_rfl))
  f276:=Try.func91.trans (congrArg some (by kernel_rfl))
  f277:=Try.func104.trans (congrArg some (by kernel_rfl))
  t0:=Try.underlying0
  a0:=Try.isAgg0
  z0:=Try.sizeOf0
  v0:=Try.zeroValue0
  t3:=Try.underlying3
  a3:=Try.isAgg3
  z3:=Try.sizeOf3
  v3:=Try.zeroValue3
  t4:=Try.underlying4
  a4:=Try.isAgg4
  z4:=Try.sizeOf4
  v4:=Try.zeroValue4
  t9:=Try.underlying9
  a9:=Try.isAgg9
  z9:=Try.sizeOf9
  v9:=Try.zeroValue9
  t20:=Try.underlying20
  a20:=Try.isAgg20
  z20:=Try.sizeOf20
  v20:=Try.zeroValue20
  t31:=Try.underlying56
  a31:=Try.isAgg56
  z31:=Try.sizeOf56
  v31:=Try.zeroValue56
  t37:=Try.underlying53
  a37:=Try.isAgg53
  z37:=Try.sizeOf53
  v37:=Try.zeroValue53
  t70:=Try.underlying52
  a70:=Try.isAgg52
  z70:=Try.sizeOf52
  v70:=Try.zeroValue52
  t72:=Try.underlying55
  a72:=Try.isAgg55
  z72:=Try.sizeOf55
  v72:=Try.zeroValue55
  t75:=Try.underlying59
  a75:=Try.isAgg59
  z75:=Try.sizeOf59
  v75:=Try.zeroValue59
  t76:=Try.underlying60
  a76:=Try.isAgg60
  z76:=Try.sizeOf60
  v76:=Try.zeroValue60
  t127:=Try.underlying93
  a127:=Try.isAgg93
  z127:=Try.sizeOf93
  v127:=Try.zeroValue93
  t164:=Try.underlying112
  a164:=Try.isAgg112
  z164:=Try.sizeOf112
  v164:=Try.zeroValue112 }
theorem builder_Extra:Builder.Extra Try.prog lays156_ren:={
  sizeBuilder:=by kernel_rfl
  liesBuilder:=by kernel_rfl
  t5:=Try.underlying5
  a5:=Try.isAgg5
  z5:=Try.sizeOf5
  v5:=Try.zeroValue5
  infoByte:=by kernel_rfl
  cellsByte:=by kernel_rfl
  sizeByte:=by kernel_rfl
  neB5:=by decide }
def joinB (l:List ByteArray) (sep:ByteArray):ByteArray:=⟨(Lib.join (l.map (·.data.toList)) sep.data.toList).toArray⟩
def strings_Join.f (l:List ByteArray) (sep:ByteArray):Option ByteArray:=if l.length≤140737488355328∧(joinB l sep).size≤140737488355328 then some (joinB l sep) else none
theorem ad_spot {w:World} {ad:Addr} {u:Value} (h:w.cell? (ad.add 0)=some u):ad=⟨ad.block,ad.off,none⟩∧ad.block<w.heap.size:=by
  have h0:ad.add 0=ad:=by unfold Addr.add;rfl
  rw [h0] at h
  have hb:ad.block<w.heap.size:=World.block_lt_of_cell? w ad h
  refine ⟨?_,hb⟩
  obtain ⟨b,o,s⟩:=ad
  cases s with
  | none=>rfl
  | some s=>
    exfalso
    unfold World.cell? at h
    split at h
    · simp at h
    · cases h
theorem strings_Join.calls (A0:Option Addr) (c0:Nat) (l:List ByteArray) (sep:ByteArray) (r:ByteArray) (w:World) (hr0:Kd.C Kd.string w A0 l.length l) (hc0:l.length≤c0) (h:strings_Join.f l sep=some r):
    Calls Try.prog 66 #[.slice A0 l.length c0,.string sep] w fun e w'=>e=.returned (.string r)∧Below w.heap.size w w':=by
  unfold strings_Join.f at h
  by_cases hg:l.length≤140737488355328∧(joinB l sep).size≤140737488355328
  rotate_left
  · rw [if_neg hg] at h
    cases h
  rw [if_pos hg] at h
  obtain rfl:=Option.some.inj h
  match l,hr0,hc0,hg with
  | [],_,_,_=>exact (Any.strings_Join_none lays156 builder_Extra A0 c0 sep w).mono fun e w' ⟨he,hw⟩=>⟨he,hw ▸ Below.refl _ _⟩
  | x::l,hr0,hc0,hg=>
    have hcell:∀ j:Nat,j<(x::l).length→∃ ad,A0=some ad∧w.cell? (ad.add j)=some (.string ((x::l).getD j ByteArray.empty)):=fun j hj=>by
      obtain ⟨ad,e,hc⟩:=Kd.at_string hr0 j (by omega) (by omega)
      rw [Int.toNat_natCast] at hc
      exact ⟨ad,e,by rw [hc];unfold rdOf;rw [Int.toNat_natCast]⟩
    obtain ⟨ad,rfl,h0⟩:=hcell 0 (by simp)
    obtain ⟨he,hb⟩:=ad_spot h0
    obtain ⟨bk,o,sp⟩:=ad
    obtain rfl:sp=none:=congrArg Addr.spot he
    exact Any.strings_Join lays156 builder_Extra bk o c0 (x::l) sep w (fun j y hj=>by
      have hj2:=(List.getElem?_eq_some_iff.1 hj).1
      obtain ⟨ad,e,hc⟩:=hcell j hj2
      cases e
      rw [add_at] at hc
      rw [hc,List.getD_eq_getElem?_getD,hj]
      rfl) hb hg.1 hc0 (by have:=hg.2;unfold joinB at this;rw [mk_size] at this;exact this)
theorem builder_Write (B b:Nat) (bs:List Value) (s:ByteArray) (w:World) (h:Lib.IsBuilderF 55 5 B b bs w) (hlen:bs.length+s.size≤140737488355328) (hBw:B≤w.heap.size):
    Calls Try.prog 31 #[.pointer (some ⟨b,0,none⟩),.string s] w fun e w'=>e=.returned (.tuple #[.int .i64 s.size,.nilIface])∧Lib.IsBuilderF 55 5 B b (bs++Lib.strCells s) w'∧Below B w w'∧Lib.OthersKept 5 (some b) w w':=
  (Any.Builder_WriteString_k { lays156 with } builder_Extra B b bs s w h hlen hBw).mono fun e w' ⟨h1,h2,h3⟩=>⟨h1,.inr h2,h3⟩
theorem builder_String (B b:Nat) (l:List UInt8) (w:World) (h:Lib.IsBuilderF 55 5 B b (Lib.byteCells l) w) (hBw:B≤w.heap.size):
    Calls Try.prog 34 #[.pointer (some ⟨b,0,none⟩)] w fun e w'=>e=.returned (.string ⟨l.toArray⟩)∧Below B w w':=
  (Any.Builder_String_any_k { lays156 with } builder_Extra B b l w h hBw).mono fun e w' ⟨h1,h2,h3,h4⟩=>⟨h1,h3⟩
end Go.Proofs.Ytkjdblbgmomieaa.PSh
end
