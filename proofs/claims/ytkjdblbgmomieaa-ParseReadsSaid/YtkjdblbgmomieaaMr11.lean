import Derived.Test.YtkjdblbgmomieaaMr10
import Derived.Test.YtkjdblbgmomieaaMr4
import Derived.Test.YtkjdblbgmomieaaMr6
import Derived.Test.YtkjdblbgmomieaaMr7
import Derived.Test.YtkjdblbgmomieaaMr8
import Derived.Recover
import Derived.WalkLawsBesides
import Derived.Test.YtkjdblbgmomieaaMr2
import Derived.Test.YtkjdblbgmomieaaMr3
-- from YtkjdblbgmomieaaHShParse
section
namespace Go.Proofs.Ytkjdblbgmomieaa.PSh
set_option maxHeartbeats 4000000
set_option maxRecDepth 100000
open Go.RowKit Go.Proofs.YtkjdblbgmomieaaW.PrintWords Go.Proofs.YtkjdblbgmomieaaW.PrintLast Go.Proofs.YtkjdblbgmomieaaW.PrintMore Go.Proofs.Ytkjdblbgmomieaa.Str
set_option linter.unusedVariables false
set_option linter.unusedSimpArgs false
def bitL:List Int:=[1,2,4,8,16,32,64,128,256,512,1024,2048,4096,8192,16384,32768]
def bitV:Array Value:=(bitL.map (Value.int .i64)).toArray
def bit0:Array Value:=((List.replicate 16 (0:Int)).map (Value.int .i64)).toArray
theorem wpList_build1 {P:Program} {ops:Array Oper} {rest:List Oper} {o:Oper} {a:Act} {w:World} {Q:Exit→Act→World→Prop} (hg:o.guard=none) (t:TypeId) (parts:Array (Nat × Operand)) (ho:o.op=.build t parts) (cells:Array Value)
    (hf:P.built t (parts.map fun (i,x)=>(i,a.eval x)).toList=some cells)
    (h:wpList P ops Q rest (a.put o.dst (.agg cells)) w):wpList P ops Q (o::rest) a w:=by
  refine wpList_build hg t parts ho ?_ ?_
  · rw [hf];rfl
  · rw [hf];exact h
theorem wpList_store_new {P:Program} {ops:Array Oper} {rest:List Oper} {o:Oper} {a:Act} {w:World} {Q:Exit→Act→World→Prop} (hgd:o.guard=none) (ty:TypeId) (x y:Operand) (ho:o.op=.store ty x y)
    (old cells:Array Value) (hx:a.eval x=.pointer (some ⟨w.heap.size,0,none⟩)) (hy:a.eval y=.agg cells)
    (t:TypeId) (hi:(P.info? ty).map (·.size)=some cells.size) (hold:old.size=cells.size) (h1:cells.all (·.oneCell')=true)
    (h:wpList P ops Q rest (a.put o.dst undef) (w.alloc (.cells cells t))):wpList P ops Q (o::rest) a (w.alloc (.cells old t)):=by
  refine wpList_store_row hgd ty x y ho w.heap.size cells hx hy t old (heap_alloc_last _ _) hi hold h1 ?_
  rw [World.setRow_alloc_new]
  exact h
theorem shape_bits.calls (w:World):Calls Try.prog 94 #[] w fun e w'=>e=.returned (.agg bitV)∧Below w.heap.size w w':=by
  have hz:=(zero_of_info (P:=Try.prog) (t:=116) (v:=.agg bit0) (n:=16) (by kernel_rfl)).1
  go_enter Try.func94,Try.ntmps94
  go_wp2_with (first | ((with_reducible refine gate_dst (N:=1) rfl ?_);refine wpList_build1 rfl 116 _ rfl bitV (by kernel_rfl) ?_) | ((with_reducible refine gate_store (t:=116) (p:=0) (v:=.tmp 1) rfl ?_);refine wpList_store_new rfl 116 (.tmp 0) (.tmp 1) rfl bit0 bitV rfl rfl 116 (by kernel_rfl) (by kernel_rfl) (by kernel_rfl) ?_))
  refine bodyPost_ret (results_single rfl (Vals.cell w.heap.size 116 bitV (0,0) _ rfl (blk_new w _) Try.underlying116 rfl (by kernel_rfl) Vals.nil)) rfl ⟨rfl,below_alloc (Below.refl _ _) _⟩
theorem run_index_bits (n:Nat) (hn:n<16) (w:World):(Instr.index 116 (.agg bitV) (.int .i64 n)).run Try.prog w=.ok (.int .i64 (bitL.getD n 0)) w:=by
  have h:n=0∨n=1∨n=2∨n=3∨n=4∨n=5∨n=6∨n=7∨n=8∨n=9∨n=10∨n=11∨n=12∨n=13∨n=14∨n=15:=by omega
  rcases h with rfl | rfl | rfl | rfl | rfl | rfl | rfl | rfl | rfl | rfl | rfl | rfl | rfl | rfl | rfl | rfl<;>(show _=_;kernel_rfl)
def shpOk (c:UInt8):Bool:=c==105 || c==112
def shpCode (a:ByteArray):Int:=if a.toList=([46]:List UInt8) then 0 else if 1≤a.size∧a.size≤16 then (if a.data.toList.all shpOk=true then 0 else 16) else 16
def shMask:Nat→List UInt8→Int→Int
  | _,[],m=>m
  | i,c::cs,m=>shMask (i+1) cs (if c=112 then Go.bits .or .i64 m (bitL.getD i 0) else m)
def shape_Parse.f (a:ByteArray):Option (Int × Int × Int):=some (if shpCode a=0∧a.toList≠([46]:List UInt8) then ((a.size:Int),shMask 0 a.data.toList 0,shpCode a) else (0,0,shpCode a))
theorem shape_Parse.calls (a:ByteArray) (r1 r2 r3:Int) (w:World) (h:shape_Parse.f a=some (r1,r2,r3)):Calls Try.prog 71 #[.string a] w fun e w'=>e=.returned (.tuple #[.agg #[.int .i64 r1,.int .i64 r2],.int .i64 r3])∧Below w.heap.size w w':=by
  have hr:=Option.some.inj h
  clear h
  have hu73:=Try.underlying73
  have hz:=blk_new w (.cells #[.int .i64 0,.int .i64 0] 73)
  have hb:=below_alloc (Below.refl w.heap.size w) (.cells #[.int .i64 0,.int .i64 0] 73)
  have hcode:shpCode a=if a.toList=([46]:List UInt8) then 0 else if 1≤a.size∧a.size≤16 then (if a.data.toList.all shpOk=true then 0 else 16) else 16:=rfl
  generalize hcc:shpCode a=cc at hcode hr
  clear hcc
  by_cases c1:a.toList=([46]:List UInt8)
  · rw [if_pos c1] at hcode
    subst hcode
    have d1:(a.toList==([46]:List UInt8))=true:=beq_iff_eq.mpr c1
    rw [if_neg (fun e=>e.2 c1)] at hr
    simp only [Prod.mk.injEq] at hr
    obtain ⟨rfl,rfl,rfl⟩:=hr
    clear c1
    go_enter Try.func71,Try.ntmps71
    go_upto_if 7 with (fail)
    generalize w.alloc (.cells #[.int .i64 0,.int .i64 0] 73)=W0 at hz hb ⊢
    (try rw [d1])
    have z0:=blk_cell hz 0
    have z1:=blk_cell hz 1
    have f0:=blk_frozen hz 0
    have f1:=blk_frozen hz 1
    go_wp2
    refine bodyPost_ret (results_ct rfl _ _ w.heap.size 73 #[.int .i64 0,.int .i64 0] (0,0) _ rfl (blk_put (blk_put hz 0 _ rfl) 1 _ rfl) Try.underlying73 rfl (by kernel_rfl)) rfl ?_
    exact ⟨rfl,below_set (below_set hb (Nat.le_refl _)) (Nat.le_refl _)⟩
  rw [if_neg c1] at hcode
  have d1:(a.toList==([46]:List UInt8))=false:=beq_eq_false_iff_ne.mpr c1
  have HC1:=aM c1
  clear c1
  by_cases c2:1≤a.size∧a.size≤16
  rotate_left
  · rw [if_neg c2] at hcode
    subst hcode
    rw [if_neg (fun e=>absurd e.1 (by decide))] at hr
    simp only [Prod.mk.injEq] at hr
    obtain ⟨rfl,rfl,rfl⟩:=hr
    obtain ⟨q1,h1⟩:∃ q:Bool,decide ((a.size:Int)<1)=q:=⟨_,rfl⟩
    obtain ⟨q2,h2⟩:∃ q:Bool,decide (16<(a.size:Int))=q:=⟨_,rfl⟩
    have hq:(q1 || q2)=true:=by
      rw [← h1,← h2,Bool.or_eq_true,decide_eq_true_iff,decide_eq_true_iff]
      omega
    clear c2
    cases q1<;>cases q2<;>first | (exact absurd hq (by decide)) | skip
    all_goals
      clear hq
      go_enter Try.func71,Try.ntmps71
      go_upto_if 7 with (fail)
      generalize w.alloc (.cells #[.int .i64 0,.int .i64 0] 73)=W0 at hz hb ⊢
      (try rw [d1])
      have z0:=blk_cell hz 0
      have z1:=blk_cell hz 1
      have f0:=blk_frozen hz 0
      have f1:=blk_frozen hz 1
      go_wp2
      refine bodyPost_ret (results_ct rfl _ _ w.heap.size 73 #[.int .i64 0,.int .i64 0] (0,0) _ rfl (blk_put (blk_put hz 0 _ rfl) 1 _ rfl) Try.underlying73 rfl (by kernel_rfl)) rfl ?_
      exact ⟨rfl,below_set (below_set hb (Nat.le_refl _)) (Nat.le_refl _)⟩
  rw [if_pos c2] at hcode
  have d3:decide ((a.size:Int)<1)=false:=decide_eq_false (by omega)
  have d5:decide (16<(a.size:Int))=false:=decide_eq_false (by omega)
  have HS:=aM c2
  have HCO:=aM hcode
  have HR:=aM hr
  clear c2 hcode hr
  go_enter Try.func71,Try.ntmps71
  go_upto_if 7 with (fail)
  have HZ:=aM (blk_alloc hz (.cells #[.int .i64 (a.size:Int),.int .i64 0] 73))
  have HX:=aM (blk_new (w.alloc (.cells #[.int .i64 0,.int .i64 0] 73)) (.cells #[.int .i64 (a.size:Int),.int .i64 0] 73))
  have HB:=aM (below_alloc hb (.cells #[.int .i64 (a.size:Int),.int .i64 0] 73))
  have HGE:=aM (show w.heap.size≤(w.alloc (.cells #[.int .i64 0,.int .i64 0] 73)).heap.size by simp)
  have HN:=aM (show w.heap.size≠(w.alloc (.cells #[.int .i64 0,.int .i64 0] 73)).heap.size by simp)
  clear hz hb
  generalize w.alloc (.cells #[.int .i64 0,.int .i64 0] 73)=W0 at HZ HX HB HN HGE ⊢
  (try rw [d1])
  go_wp2
  (try simp only [Act.put,qA,qB,qC])
  generalize hbx:W0.heap.size=bx_ at HZ HX HB HN HGE ⊢
  generalize W0.alloc (.cells #[.int .i64 (a.size:Int),.int .i64 0] 73)=W1 at HZ HX HB ⊢
  clear hbx
  go_loopg [3,5] a.size (fun kq v3 v5 w'=>∃ (x5 m:Int),v3=.int .i64 0∧v5=.int .i64 x5∧Aside0 (0≤x5∧x5≤(a.size:Int))∧Aside0 (a.data.toList.all shpOk=(a.data.toList.drop x5.toNat).all shpOk)∧Aside0 (w'.heap[w.heap.size]?=some (.cells #[.int .i64 0,.int .i64 0] 73 (0,0)))∧Aside0 (w'.heap[bx_]?=some (.cells #[.int .i64 (a.size:Int),.int .i64 m] 73 (0,0)))∧Aside0 (Below w.heap.size w w')∧Aside0 (kq=a.size - x5.toNat)∧Aside0 (shMask x5.toNat (a.data.toList.drop x5.toNat) m=shMask 0 a.data.toList 0))
  case atStart=>exact ⟨0,0,rfl,rfl,⟨by omega⟩,⟨rfl⟩,⟨HZ.out⟩,⟨HX.out⟩,⟨HB.out⟩,⟨rfl⟩,⟨rfl⟩⟩
  case round=>
    clear HZ HX HB
    obtain ⟨x5,m,rfl,rfl,HI,HA,HZ,HX,HB,HK,HMK⟩:=hrel
    have cx1:=blk_cell HX.out 1
    have fx1:=blk_frozen HX.out 1
    by_cases hp:x5<(a.size:Int)
    · have HP:=aM hp
      have h0:=HI.out.1
      have hp2:x5.toNat<a.data.toList.length:=by rw [← size_data];omega
      have hall:=HA.out
      rw [List.drop_eq_getElem_cons hp2,List.all_cons] at hall
      obtain ⟨cn,hcn⟩:∃ c,a.data.toList[x5.toNat]=c:=⟨_,rfl⟩
      rw [hcn,show x5.toNat+1=(x5+1).toNat by omega] at hall
      have hmk:=HMK.out
      rw [List.drop_eq_getElem_cons hp2,hcn] at hmk
      simp only [shMask] at hmk
      rw [show x5.toNat+1=(x5+1).toNat by omega] at hmk
      have HMK2:=aM hmk
      clear hmk
      have HALL:=aM hall
      have hbt:bt a x5=(cn.toNat:Int):=by
        have:=bt_at a x5 (by omega)
        rw [← this,← hcn]
        rfl
      have HBT:=aM hbt
      have p22:(0≤x5)=True:=eq_true h0
      have q22:(x5<(a.size:Int))=True:=eq_true hp
      have d22:decide (x5<(a.size:Int))=true:=decide_eq_true hp
      have hx22:=bt_at a x5
      clear hp hp2 hall hcn hbt h0
      go_upto_block 1 with (fail)
      go_cut [3] (fun v3 wx=>v3=.int .i64 0∧∃ m':Int,Aside0 (m'=if cn=112 then Go.bits .or .i64 m (bitL.getD x5.toNat 0) else m)∧Aside0 (shpOk cn=true)∧Aside0 (wx.heap[w.heap.size]?=some (.cells #[.int .i64 0,.int .i64 0] 73 (0,0)))∧Aside0 (wx.heap[bx_]?=some (.cells #[.int .i64 (a.size:Int),.int .i64 m'] 73 (0,0)))∧Aside0 (Below w.heap.size w wx))
      case first=>
        by_cases k1:cn.toNat=112
        · have g1:(bt a x5==112)=true:=beq_iff_eq.mpr (by have:=HBT.out;omega)
          have hok:shpOk cn=true:=by
            unfold shpOk
            rw [show cn=112 from UInt8.toNat_inj.mp k1]
            rfl
          have HOK:=aM hok
          have hix:∀ W,(Instr.index 116 (.agg bitV) (.int .i64 x5)).run Try.prog W=.ok (.int .i64 (bitL.getD x5.toNat 0)) W:=fun W=>by
            have h:=run_index_bits x5.toNat (by have:=HP.out;have:=HS.out;omega) W
            rwa [Int.toNat_of_nonneg HI.out.1] at h
          have HM1:=aM (UInt8.toNat_inj.mp k1:cn=112)
          clear k1 hok
          go_upto_region 12 with (fail)
          refine start_ (n:=8) (S:=fun w'=>w'.cell? ⟨bx_,1,none⟩=some (.int .i64 m)) (ds:=[7]) #[false,false,false,false,false,false,false,false] (by kernel_rfl) rfl rfl (cx1) (fun hHeld=>?_)
          refine pure_ (i:=0) (N:=some 33) (v:=?_) (a':=?_) #[true,false,false,false,false,false,false,false] rfl rfl (by kernel_rfl) (fun _ _ _ h=>h) (Or.inl ⟨by rfl,?_⟩) ?_ ?_
          rotate_left
          · intro w'
            go_simp
            with_reducible rfl
          rotate_left
          · simp only [Act.put,qA,qB,qC,i64_w,i32_w]
            rfl
          refine pure_ (i:=3) (N:=some 36) (v:=?_) (a':=?_) #[true,false,false,true,false,false,false,false] rfl rfl (by kernel_rfl) (fun _ _ _ h=>h) (Or.inl ⟨by rfl,?_⟩) ?_ ?_
          rotate_left
          · intro w'
            go_simp
            with_reducible rfl
          rotate_left
          · simp only [Act.put,qA,qB,qC,i64_w,i32_w]
            rfl
          refine take_ (i:=1) (N:=some 34) (v:=?_) (a':=?_) #[true,true,false,true,false,false,false,false] rfl rfl (by kernel_rfl) (fun _ _ _ h=>h) (Or.inl ⟨by rfl,?_⟩) hHeld ?_ ?_
          rotate_left
          · intro w' s0
            go_simp
            with_reducible rfl
          rotate_left
          · simp only [Act.put,qA,qB,qC,i64_w,i32_w]
            rfl
          refine one_ (i:=2) (N:=some 35) #[true,true,true,true,false,false,false,false] rfl rfl (by kernel_rfl) (by decide) (fun K hK=>?_)
          refine goes_ Try.func94 (by kernel_rfl) rfl #[] (by rfl) rfl rfl (by first | rfl | simp only [List.map_toArray,List.map_cons,List.map_nil]) ?_
          with_reducible refine (shape_bits.calls _).mono ?_
          rintro e w3_ ⟨rfl,hb_⟩
          refine ⟨_,rfl,?_⟩
          have HX3:=aM (blk_below (show wr.drew.heap[bx_]?=_ from HX.out) hb_)
          have HZ3:=aM (blk_below (show wr.drew.heap[w.heap.size]?=_ from HZ.out) hb_)
          have HB3:=aM (below_step (show Below w.heap.size w wr.drew from below_drew1 HB.out) hb_)
          clear hb_ cx1 fx1
          have cx1:=blk_cell HX3.out 1
          have fx1:=blk_frozen HX3.out 1
          refine hK.out _ _ ((blk_cell HX3.out 1)) (fun hHeld=>?_)
          clear hK K
          refine norm_ (a':=?_) ?_ ?_
          rotate_left
          · show Act.put _ (some 35) _=_
            simp only [Act.put,qA,qB,qC,i64_w,i32_w]
            rfl
          refine take_ (i:=4) (N:=some 37) (v:=?_) (a':=?_) #[true,true,true,true,true,false,false,false] rfl rfl (by kernel_rfl) (fun _ _ _ h=>h) (Or.inl ⟨by rfl,?_⟩) hHeld ?_ ?_
          rotate_left
          · intro w' s0
            go_simp
            with_reducible rfl
          rotate_left
          · simp only [Act.put,qA,qB,qC,i64_w,i32_w]
            rfl
          refine pure_ (i:=5) (N:=some 38) (v:=?_) (a':=?_) #[true,true,true,true,true,true,false,false] rfl rfl (by kernel_rfl) (fun _ _ _ h=>h) (Or.inl ⟨by rfl,?_⟩) ?_ ?_
          rotate_left
          · intro w'
            go_simp
            with_reducible rfl
          rotate_left
          · simp only [Act.put,qA,qB,qC,i64_w,i32_w]
            rfl
          refine pure_ (i:=6) (N:=some 39) (v:=?_) (a':=?_) #[true,true,true,true,true,true,true,false] rfl rfl (by kernel_rfl) (fun _ _ _ h=>h) (Or.inl ⟨by rfl,?_⟩) ?_ ?_
          rotate_left
          · intro w'
            go_simp
            with_reducible rfl
          rotate_left
          · simp only [Act.put,qA,qB,qC,i64_w,i32_w]
            rfl
          refine last_ (i:=7) (N:=none) #[true,true,true,true,true,true,true,true] rfl rfl (by kernel_rfl) (by decide) (fun K hK=>?_)
          refine skip_ (w1:=?_) (by rfl) rfl ?_ ?_
          rotate_left
          · go_simp
            rfl
          refine hK.out _ _ ?_
          clear hK K
          refine done_ (by kernel_rfl) ?_
          (try go_wp2)
          go_meet
          exact ⟨rfl,_,⟨(if_pos HM1.out).symm⟩,HOK,⟨(Below.heap_setCell _ ⟨bx_,1,none⟩ _ _ HN.out).trans HZ3.out⟩,⟨blk_put HX3.out 1 _ rfl⟩,⟨below_set HB3.out (by have:=HN.out;have:=blk_lt HX.out;have:=HGE.out;omega)⟩⟩
        have g1:(bt a x5==112)=false:=beq_eq_false_iff_ne.mpr (by have:=HBT.out;omega)
        by_cases k2:cn.toNat=105
        · have g2:(bt a x5==105)=true:=beq_iff_eq.mpr (by have:=HBT.out;omega)
          have hok:shpOk cn=true:=by
            unfold shpOk
            rw [show cn=105 from UInt8.toNat_inj.mp k2]
            rfl
          have HOK:=aM hok
          have HM1:=aM (show ¬ cn=112 from fun e=>k1 (by rw [e];rfl))
          clear k1 k2 hok
          go_wp2_with fail
          go_meet
          exact ⟨rfl,_,⟨(if_neg HM1.out).symm⟩,HOK,HZ,HX,HB⟩
        · have g2:(bt a x5==105)=false:=beq_eq_false_iff_ne.mpr (by have:=HBT.out;omega)
          have hok:shpOk cn=false:=by
            unfold shpOk
            rw [beq_eq_false_iff_ne.mpr (fun e=>k2 (by rw [e];rfl)),beq_eq_false_iff_ne.mpr (fun e=>k1 (by rw [e];rfl))]
            rfl
          have hall:=HALL.out
          rw [hok,Bool.false_and] at hall
          have hco:=HCO.out
          rw [if_neg (by rw [hall];decide)] at hco
          subst hco
          have hr:=HR.out
          rw [if_neg (fun e=>absurd e.1 (by decide))] at hr
          simp only [Prod.mk.injEq] at hr
          obtain ⟨rfl,rfl,rfl⟩:=hr
          have z0:=blk_cell HZ.out 0
          have z1:=blk_cell HZ.out 1
          have f0:=blk_frozen HZ.out 0
          have f1:=blk_frozen HZ.out 1
          clear k1 k2 hok hall
          go_wp2
          (try simp only [Exit.inBlock,Exit.then])
          refine bodyPost_ret (results_ct rfl _ _ w.heap.size 73 #[.int .i64 0,.int .i64 0] (0,0) _ rfl (blk_put (blk_put HZ.out 0 _ rfl) 1 _ rfl) Try.underlying73 rfl (by kernel_rfl)) rfl ?_
          exact ⟨rfl,below_set (below_set HB.out (Nat.le_refl _)) (Nat.le_refl _)⟩
      case rest=>
        obtain ⟨rfl,m',HM',HC,HZ',HX',HB'⟩:=hcut
        clear HZ HX HB cx1 fx1
        go_wp2_with fail
        go_roundg (a.size - (x5+1).toNat)
        case measure=>have:=HK.out;have:=HP.out;have:=HI.out;omega
        case rel=>exact ⟨x5+1,m',rfl,by rw [show wrap64 (x5+1)=x5+1 from w64 (by have:=HI.out;omega) (by have:=HP.out;have:=HS.out;omega)],⟨by have:=HP.out;have:=HI.out;omega⟩,⟨by have h:=HALL.out;rw [HC.out,Bool.true_and] at h;exact h⟩,⟨HZ'.out⟩,⟨HX'.out⟩,⟨HB'.out⟩,⟨rfl⟩,⟨by rw [HM'.out];exact HMK2.out⟩⟩
    · have d22:decide (x5<(a.size:Int))=false:=decide_eq_false hp
      have hall:a.data.toList.all shpOk=true:=by
        rw [HA.out,List.drop_eq_nil_of_le (by rw [← size_data];have:=HI.out;omega)]
        rfl
      have hco:=HCO.out
      rw [if_pos hall] at hco
      subst hco
      have hr:=HR.out
      have hm:=HMK.out
      rw [List.drop_eq_nil_of_le (by rw [← size_data];have:=HI.out;omega)] at hm
      simp only [shMask] at hm
      rw [if_pos ⟨rfl,HC1.out⟩,← hm] at hr
      simp only [Prod.mk.injEq] at hr
      obtain ⟨rfl,rfl,rfl⟩:=hr
      clear hm
      have cx0:=blk_cell HX.out 0
      have z0:=blk_cell HZ.out 0
      have z1:=blk_cell HZ.out 1
      have f0:=blk_frozen HZ.out 0
      have f1:=blk_frozen HZ.out 1
      have n1:bx_≠w.heap.size:=fun e=>HN.out e.symm
      have n2:w.heap.size≠bx_:=HN.out
      clear hp hall HA
      go_wp2
      (try simp only [Exit.inBlock,Exit.then])
      refine bodyPost_ret (results_ct rfl _ _ w.heap.size 73 #[.int .i64 (a.size:Int),.int .i64 m] (0,0) _ rfl (blk_put (blk_put HZ.out 0 _ rfl) 1 _ rfl) Try.underlying73 rfl (by kernel_rfl)) rfl ?_
      exact ⟨rfl,below_set (below_set HB.out (Nat.le_refl _)) (Nat.le_refl _)⟩
end Go.Proofs.Ytkjdblbgmomieaa.PSh
end
-- from YtkjdblbgmomieaaPrs
section
namespace Go.Proofs.Ytkjdblbgmomieaa.PSh
open Go.RowKit Go.Proofs.YtkjdblbgmomieaaW.PrintWords Go.Proofs.YtkjdblbgmomieaaW.PrintLast Go.Proofs.YtkjdblbgmomieaaW.PrintMore Go.Proofs.Ytkjdblbgmomieaa.Str Go.Proofs.Ytkjdblbgmomieaa.Dig Go.Proofs.Ytkjdblbgmomieaa.DigLaw
set_option linter.unusedVariables false
set_option linter.unusedSimpArgs false
abbrev Tk:Type:=S101
abbrev SI:Type:=S39
abbrev SF:Type:=S34
abbrev PE (α:Type):Type:=Except (Int × Int) α
def pk0:List Tk→ByteArray
  | []=>(⟨#[]⟩:ByteArray)
  | t::_=>t.f0
def pk1:List Tk→ByteArray
  | _::t::_=>t.f0
  | _=>(⟨#[]⟩:ByteArray)
def hereP (en:Int):List Tk→Int
  | []=>en
  | t::_=>t.f1
def failP {α:Type} (en:Int) (ts:List Tk) (c:Int):PE α:=.error (c,hereP en ts)
def wantP (en:Int) (s:List UInt8) (ts:List Tk):PE (List Tk):=if (pk0 ts).toList=s then .ok ts.tail else failP en ts 2
def nameP (en:Int) (ts:List Tk):PE (ByteArray × List Tk):=if nameL (pk0 ts).data.toList=true then .ok (pk0 ts,ts.tail) else failP en ts 4
def idxC (l:List UInt8) (most:Int):Int × Int:=if (parseL l).2=0 then (if (parseL l).1<0∨(parseL l).1>most then (0,18) else ((parseL l).1,0)) else (0,(parseL l).2)
def indexP (en sign most c:Int) (ts:List Tk):PE (Int × List Tk):=
  if (pk0 ts).size<2 then failP en ts c else if bt (pk0 ts) 0≠sign then failP en ts c
  else if (idxC (pk0 ts).data.toList.tail most).2=0 then .ok ((idxC (pk0 ts).data.toList.tail most).1,ts.tail) else failP en ts c
def valueP (en:Int) (ts:List Tk):PE (Int × List Tk):=indexP en 37 1048576 8 ts
def labelP (en:Int) (ts:List Tk):PE (Int × List Tk):=indexP en 98 255 7 ts
def numC (q:Int × Int) (low high:Int):Int:=if q.2=0 then (if q.1<low∨q.1>high then 18 else 0) else q.2
def numberP (en low high:Int) (ts:List Tk):PE (Int × List Tk):=
  if numC (parseL (pk0 ts).data.toList) low high=0 then .ok ((parseL (pk0 ts).data.toList).1,ts.tail) else failP en ts (numC (parseL (pk0 ts).data.toList) low high)
def valuesP (ts:List Tk):Bool:=decide (0<(pk0 ts).size) && (bt (pk0 ts) 0==37) && ((pk1 ts).toList !=([61]:List UInt8))
def pairP (ts:List Tk):Bool:=decide (0<(pk0 ts).size) && (bt (pk0 ts) 0==98) && ((pk0 ts).toList !=([98,114]:List UInt8)) && ((pk1 ts).toList !=([58]:List UInt8))
def phiP (en:Int):Nat→List Int→List Int→List Tk→PE (List Int × List Int × List Tk)
  | 0,_,_,_=>.error (0,0)
  | m+1,xa,xt,ts=>if ((xt.length==0) || pairP ts)=true then (labelP en ts).bind fun b=>(valueP en b.2).bind fun v=>phiP en m (xa++[v.1]) (xt++[b.1]) v.2 else .ok (xa,xt,ts)
def argsP (en:Int):Nat→List Int→List Tk→PE (List Int × List Tk)
  | 0,_,_=>.error (0,0)
  | m+1,xa,ts=>if valuesP ts=true then (valueP en ts).bind fun v=>argsP en m (xa++[v.1]) v.2 else .ok (xa,ts)
def takeP (en:Int):Nat→List Int→List Tk→PE (List Int × List Tk)
  | 0,xa,ts=>.ok (xa,ts)
  | m+1,xa,ts=>(valueP en ts).bind fun v=>takeP en m (xa++[v.1]) v.2
structure OpR where
  n:Int
  nm:ByteArray
  xa:List Int
  xt:List Int
def noB:ByteArray:=⟨#[]⟩
def callP (en:Int) (ts:List Tk):PE (OpR × List Tk):=
  (if (decide (0<(pk0 ts).size) && (bt (pk0 ts) 0==64))=true then indexP en 64 1048576 3 ts else .ok (0,ts)).bind fun q=>(nameP en q.2).bind fun m=>(argsP en (m.2.length+1) [] m.2).bind fun a=>.ok (⟨q.1,m.1,a.1,[]⟩,a.2)
def operP (en op:Int) (ts:List Tk):PE (OpR × List Tk):=
  if op=1 then (numberP en (-9223372036854775808) 9223372036854775807 ts).bind fun q=>.ok (⟨q.1,noB,[],[]⟩,q.2)
  else if op=10 then (if shpCode (pk0 ts)=0 then .ok (⟨0,pk0 ts,[],[]⟩,ts.tail) else failP en ts (shpCode (pk0 ts)))
  else if op=11∨op=12∨op=15 then (valueP en ts).bind fun v=>(numberP en 0 15 v.2).bind fun q=>.ok (⟨q.1,noB,[v.1],[]⟩,q.2)
  else if op=13∨op=14 then (valueP en ts).bind fun v=>(numberP en 0 15 v.2).bind fun q=>(valueP en q.2).bind fun u=>.ok (⟨q.1,noB,[v.1,u.1],[]⟩,u.2)
  else if op=20 then (phiP en (ts.length+1) [] [] ts).bind fun q=>.ok (⟨0,noB,q.1,q.2.1⟩,q.2.2)
  else if op=21 then callP en ts
  else if op=23 then (numberP en 0 1048576 ts).bind fun q=>.ok (⟨q.1,noB,[],[]⟩,q.2)
  else if op=24 then (valueP en ts).bind fun v=>(numberP en 0 1048576 v.2).bind fun q=>.ok (⟨q.1,noB,[v.1],[]⟩,q.2)
  else if op=26 then (labelP en ts).bind fun b=>.ok (⟨0,noB,[],[b.1]⟩,b.2)
  else if op=27 then (valueP en ts).bind fun v=>(labelP en v.2).bind fun b=>(labelP en b.2).bind fun d=>.ok (⟨0,noB,[v.1],[b.1,d.1]⟩,d.2)
  else if op=28 then (if valuesP ts=true then (valueP en ts).bind fun v=>.ok (⟨0,noB,[v.1],[]⟩,v.2) else .ok (⟨0,noB,[],[]⟩,ts))
  else if op=29 then (numberP en 0 255 ts).bind fun q=>.ok (⟨q.1,noB,[],[]⟩,q.2)
  else (takeP en (takesI op).length [] ts).bind fun q=>.ok (⟨0,noB,q.1,[]⟩,q.2)
def idP (en:Int) (ts:List Tk):PE (Int × List Tk):=if (pk1 ts).toList=([61]:List UInt8) then (valueP en ts).bind fun v=>.ok (v.1,v.2.tail) else .ok (-1,ts)
def opOfW (s:ByteArray):Int × Int:=findFrom s 30 0
def instrP (en:Int) (ts:List Tk):PE (SI × List Tk):=
  (idP en ts).bind fun i=>if (opOfW (pk0 i.2)).1=0 then failP en i.2 2
    else if ((makesI (opOfW (pk0 i.2)).1 (opOfW (pk0 i.2)).2 !=0) !=decide (0≤i.1))=true then failP en i.2 8
    else (operP en (opOfW (pk0 i.2)).1 i.2.tail).bind fun r=>.ok (⟨(opOfW (pk0 i.2)).1,i.1,r.1.n,(opOfW (pk0 i.2)).2,r.1.xa,r.1.xt,r.1.nm,hereP en ts⟩,r.2)
def codeP (en:Int):Nat→List SI→Int→List Tk→PE (List SI × Int × List Tk)
  | 0,_,_,_=>.error (0,0)
  | m+1,acc,n,ts=>if (((pk0 ts).toList !=([125]:List UInt8)) && ((pk1 ts).toList !=([58]:List UInt8)))=true then (if n≥4096 then failP en ts 6 else (instrP en ts).bind fun x=>codeP en m (acc++[x.1]) (n+1) x.2) else .ok (acc,n,ts)
def blockP (en k n:Int) (ts:List Tk):PE (List SI × Int × List Tk):=
  if k≥256 then failP en ts 6 else if (pk0 ts).toList=(mk (98::digs k)).toList then (wantP en [58] ts.tail).bind fun us=>codeP en (us.length+1) [] n us else failP en ts 7
def typeC (s:ByteArray) (none:Bool):Int:=if s.toList=([105]:List UInt8) then 1 else if s.toList=([112]:List UInt8) then 2 else if s.toList=([110]:List UInt8) then (if none=true then 0 else -1) else -1
def paramsP (en:Int):Nat→List Int→List Tk→PE (List Int × List Tk)
  | 0,_,_=>.error (0,0)
  | m+1,ps,ts=>if (pk0 ts).toList=([41]:List UInt8) then .ok (ps,ts) else if typeC (pk0 ts) false<0 then failP en ts 9 else if ps.length≥8 then failP en ts 6 else paramsP en m (ps++[typeC (pk0 ts) false]) ts.tail
def blocksP (en:Int):Nat→List (List SI)→Int→List Tk→PE (List (List SI) × Int × List Tk)
  | 0,_,_,_=>.error (0,0)
  | m+1,bs,n,ts=>if (pk0 ts).toList=([125]:List UInt8) then .ok (bs,n,ts) else (blockP en (bs.length:Int) n ts).bind fun b=>blocksP en m (bs++[b.1]) b.2.1 b.2.2
def headP (en:Int) (ts:List Tk):PE (ByteArray × List Int × Int × List Tk):=
  (wantP en [102,117,110,99] ts).bind fun t1=>(nameP en t1).bind fun m=>(wantP en [40] m.2).bind fun t2=>(paramsP en (t2.length+1) [] t2).bind fun p=>(wantP en [41] p.2).bind fun t3=>
    if typeC (pk0 t3) true<0 then failP en t3 9 else (wantP en [123] t3.tail).bind fun t4=>.ok (m.1,p.1,typeC (pk0 t3) true,t4)
def funcP (en n:Int) (ts:List Tk):PE (SF × Int × List Tk):=
  (headP en ts).bind fun h=>(blocksP en (h.2.2.2.length+1) [] n h.2.2.2).bind fun b=>(wantP en [125] b.2.2).bind fun u=>.ok (⟨h.1,h.2.1,h.2.2.1,b.1,hereP en ts⟩,b.2.1,u)
def textP (en:Int):Nat→List SF→Int→List Tk→PE (List SF)
  | 0,_,_,_=>.error (0,0)
  | m+1,fs,n,ts=>if ts=[] then .ok fs else if fs.length≥32 then failP en ts 6 else (funcP en n ts).bind fun f=>textP en m (fs++[f.1]) f.2.1 f.2.2
def fewT (tl:List Tk):Bool:=decide (tl.length≤65536) && tl.all fun t=>decide (t.f0.size≤65536)
def parseP (s:ByteArray):List SF × Int × Int:=
  if (splitL s).2.1=0 then (match textP (s.size:Int) ((splitL s).1.length+1) [] 0 (splitL s).1 with
    | .ok fs=>(fs,0,0)
    | .error x=>([],x.1,x.2)) else ([],(splitL s).2.1,(splitL s).2.2)
def parse_Text.f (s:ByteArray):Option (List SF × Int × Int):=if fewT (splitL s).1=true then some (parseP s) else none
end Go.Proofs.Ytkjdblbgmomieaa.PSh
end
-- from YtkjdblbgmomieaaHPar
section
namespace Go.Proofs.Ytkjdblbgmomieaa.PSh
set_option maxHeartbeats 8000000
set_option maxRecDepth 100000
open Go.RowKit Go.Proofs.YtkjdblbgmomieaaW.PrintWords Go.Proofs.YtkjdblbgmomieaaW.PrintLast Go.Proofs.YtkjdblbgmomieaaW.PrintMore Go.Proofs.Ytkjdblbgmomieaa.Str Go.Proofs.Ytkjdblbgmomieaa.Dig Go.Proofs.Ytkjdblbgmomieaa.DigLaw
set_option linter.unusedVariables false
set_option linter.unusedSimpArgs false
def boom (c a:Int):List PanicEntry:=[{ v:=.iface 84 (.agg #[.int .i64 c,.int .i64 a]),recovered:=false }]
structure PAt (g:Nat) (tl ts:List Tk) (en n:Int) (w0 w':World):Prop where
  i:∃ pre,tl=pre++ts∧IsS82 w0 w' g tl (pre.length:Int) en n
  b:Below w0.heap.size w0 w'
  l:tl.length≤65536
  s:∀ t∈tl,t.f0.size≤65536
def PEnd {α:Type} (r:PE α) (g:Nat) (w0 w:World) (G:α→Ending→World→Prop) (e:Ending) (w':World):Prop:=
  (Below w0.heap.size w0 w'∧KeepBut w w' g none)∧match r with
    | .error x=>e=.panicked (boom x.1 x.2)
    | .ok a=>G a e w'
section
variable {g : Nat} {tl ts : List Tk} {en n : Int} {w0 w w1 w2 : World}
theorem PAt.below (h:PAt g tl ts en n w0 w1) (hb:Below w1.heap.size w1 w2):PAt g tl ts en n w0 w2:=by
  obtain ⟨pre,e,hi⟩:=h.i
  exact ⟨⟨pre,e,hi.below hb⟩,below_step h.b hb,h.l,h.s⟩
theorem PAt.lt (h:PAt g tl ts en n w0 w1):g<w1.heap.size:=by
  obtain ⟨pre,e,hi⟩:=h.i
  exact hi.lt
theorem PAt.ge (h:PAt g tl ts en n w0 w1):w0.heap.size≤g:=by
  obtain ⟨pre,e,hi⟩:=h.i
  exact hi.ge
theorem PAt.blk (h:PAt g tl ts en n w0 w1):∃ cells,w1.heap[g]?=some (.cells cells 82 (0,0)):=by
  obtain ⟨pre,e,A0,c0,hG,-,-⟩:=h.i
  exact ⟨_,hG⟩
theorem PAt.far (h:PAt g tl ts en n w0 w1) {b:Nat} (hne:g≠b) (hp:w0.heap.size≤b) (j:Nat) (u:Value):PAt g tl ts en n w0 (w1.setCell ⟨b,j,none⟩ u):=by
  obtain ⟨pre,e,hi⟩:=h.i
  exact ⟨⟨pre,e,hi.far (p:=⟨b,j,none⟩) hne u⟩,below_set h.b hp,h.l,h.s⟩
theorem PAt.grown (h:PAt g tl ts en n w0 w1) {row:Option Nat} (hg:w1.grownBy w2 row) (hne:some g≠row) (hr:∀ k,row=some k→w0.heap.size≤k):PAt g tl ts en n w0 w2:=by
  obtain ⟨pre,e,hi⟩:=h.i
  exact ⟨⟨pre,e,hi.grown hg hne⟩,pw_below_grown h.b row h.b.size hg hr,h.l,h.s⟩
theorem PAt.where_ (h:PAt g tl ts en n w0 w1):∃ a:Int,w1.cell? ⟨g,1,none⟩=some (.int .i64 a)∧w1.frozen? ⟨g,1,none⟩=false∧(ts≠[]→PAt g tl ts.tail en n w0 (w1.setCell ⟨g,1,none⟩ (.int .i64 (wrap64 (a+1))))):=by
  obtain ⟨pre,e,hi⟩:=h.i
  have hi2:=hi
  obtain ⟨A0,c0,hG,-,-⟩:=hi2
  refine ⟨_,blk_cell hG 1,blk_frozen hG 1,fun hne=>?_⟩
  have hl:=h.l
  cases ts with
  | nil=>exact absurd rfl hne
  | cons t ts=>
    have h2:=congrArg List.length e
    rw [List.length_append,List.length_cons] at h2
    refine ⟨⟨pre++[t],by rw [e];simp,?_⟩,below_set h.b hi.ge,h.l,h.s⟩
    have h3:=hi.set_1 (wrap64 ((pre.length:Int)+1))
    rw [show (((pre++[t]).length:Nat):Int)=wrap64 ((pre.length:Int)+1) from by rw [w64 (by omega) (by omega),List.length_append];simp]
    exact h3
theorem PAt.pk (h:PAt g tl ts en n w0 w1):(pk0 ts).size≤65536:=by
  obtain ⟨pre,e,-⟩:=h.i
  cases ts with
  | nil=>exact Nat.zero_le _
  | cons t ts=>exact h.s t (by rw [e];simp)
theorem PAt.num (h:PAt g tl ts en n w0 w1):w1.cell? ⟨g,3,none⟩=some (.int .i64 n)∧w1.frozen? ⟨g,3,none⟩=false:=by
  obtain ⟨pre,e,A0,c0,hG,-,-⟩:=h.i
  exact ⟨blk_cell hG 3,blk_frozen hG 3⟩
theorem PAt.set3 (h:PAt g tl ts en n w0 w1) (x:Int):PAt g tl ts en x w0 (w1.setCell ⟨g,3,none⟩ (.int .i64 x)):=by
  obtain ⟨pre,e,hi⟩:=h.i
  exact ⟨⟨pre,e,hi.set_3 x⟩,below_set h.b hi.ge,h.l,h.s⟩
end
theorem rd_pre (pre:List Tk) (t:Tk) (ts:List Tk):rd_T101 (pre++t::ts) (pre.length:Int)=t:=by
  show (pre++t::ts).getD (pre.length:Int).toNat _=t
  rw [Int.toNat_natCast,List.getD_eq_getElem?_getD,List.getElem?_append_right (Nat.le_refl _)]
  simp
theorem here_f (pre ts:List Tk) (en n:Int):parse_reader_here.f (pre++ts) (pre.length:Int) en n=some (hereP en ts,(pre.length:Int),en,n):=by
  unfold parse_reader_here.f
  cases ts with
  | nil=>rw [if_neg (by simp)];rfl
  | cons t ts=>rw [if_pos (by simp;omega),if_pos (by omega),rd_pre];rfl
theorem peek0_f (pre ts:List Tk) (en n:Int) (hl:(pre++ts).length≤65536):parse_reader_peek.f (pre++ts) (pre.length:Int) en n 0=some (pk0 ts,(pre.length:Int),en,n):=by
  unfold parse_reader_peek.f
  rw [List.length_append] at hl
  rw [show wrap64 ((pre.length:Int)+0)=(pre.length:Int) from by rw [w64 (by omega) (by omega)];omega]
  cases ts with
  | nil=>rw [if_neg (by simp)];rfl
  | cons t ts=>rw [if_pos (by simp;omega),if_pos (by omega),rd_pre];rfl
theorem peek1_f (pre ts:List Tk) (en n:Int) (hl:(pre++ts).length≤65536):parse_reader_peek.f (pre++ts) (pre.length:Int) en n 1=some (pk1 ts,(pre.length:Int),en,n):=by
  unfold parse_reader_peek.f
  rw [List.length_append] at hl
  rw [w64 (x:=(pre.length:Int)+1) (by omega) (by omega)]
  match ts with
  | []=>rw [if_neg (by simp;omega)];rfl
  | [t]=>rw [if_neg (by simp)];rfl
  | t::u::ts=>
    rw [if_pos (by simp;omega),if_pos (by omega)]
    have e:pre++t::u::ts=(pre++[t])++u::ts:=by simp
    have e2:(pre.length:Int)+1=((pre++[t]).length:Int):=by simp
    rw [e2,e,rd_pre]
    rfl
theorem values_f (pre ts:List Tk) (en n:Int) (hl:(pre++ts).length≤65536):parse_reader_values.f (pre++ts) (pre.length:Int) en n=some (valuesP ts,(pre.length:Int),en,n):=by
  unfold parse_reader_values.f valuesP
  rw [peek0_f _ _ _ _ hl,Option.bind_some]
  by_cases c:0<(pk0 ts).size
  · rw [if_pos (by show ((pk0 ts).size:Int)>0;omega),if_pos (by show (0:Int)<((pk0 ts).size:Int);omega),decide_eq_true c]
    by_cases d:bt (pk0 ts) 0=37
    · rw [if_pos d,peek1_f _ _ _ _ hl,Option.bind_some,d];rfl
    · rw [if_neg d,beq_eq_false_iff_ne.mpr d];rfl
  · rw [if_neg (by show ¬ ((pk0 ts).size:Int)>0;omega),decide_eq_false c];rfl
theorem size_ne {ts:List Tk} (h:(pk0 ts).size≠0):ts≠[]:=fun e=>h (by rw [e];rfl)
theorem toL_ne {ts:List Tk} (h:(pk0 ts).toList≠[]):ts≠[]:=fun e=>h (by rw [e];exact ByteArray.toList_empty)
section
variable {g : Nat} {tl ts : List Tk} {en n : Int} {w0 w : World}
theorem here_calls (h:PAt g tl ts en n w0 w):Calls Try.prog 76 #[.pointer (some ⟨g,0,none⟩)] w fun e w'=>e=.returned (.int .i64 (hereP en ts))∧PAt g tl ts en n w0 w'∧KeepBut w w' g none:=by
  obtain ⟨pre,rfl,hi⟩:=h.i
  refine (parse_reader_here.calls g _ _ _ _ _ _ _ _ w0 w hi h.b (here_f pre ts en n)).mono ?_
  rintro e w' ⟨rfl,hi',hb',hk⟩
  exact ⟨rfl,⟨⟨pre,rfl,hi'⟩,hb',h.l,h.s⟩,hk⟩
theorem peek0_calls (h:PAt g tl ts en n w0 w):Calls Try.prog 79 #[.pointer (some ⟨g,0,none⟩),.int .i64 0] w fun e w'=>e=.returned (.string (pk0 ts))∧PAt g tl ts en n w0 w'∧KeepBut w w' g none:=by
  obtain ⟨pre,rfl,hi⟩:=h.i
  refine (parse_reader_peek.calls g _ _ _ _ 0 _ _ _ _ w0 w hi h.b (peek0_f pre ts en n h.l)).mono ?_
  rintro e w' ⟨rfl,hi',hb',hk⟩
  exact ⟨rfl,⟨⟨pre,rfl,hi'⟩,hb',h.l,h.s⟩,hk⟩
theorem peek1_calls (h:PAt g tl ts en n w0 w):Calls Try.prog 79 #[.pointer (some ⟨g,0,none⟩),.int .i64 1] w fun e w'=>e=.returned (.string (pk1 ts))∧PAt g tl ts en n w0 w'∧KeepBut w w' g none:=by
  obtain ⟨pre,rfl,hi⟩:=h.i
  refine (parse_reader_peek.calls g _ _ _ _ 1 _ _ _ _ w0 w hi h.b (peek1_f pre ts en n h.l)).mono ?_
  rintro e w' ⟨rfl,hi',hb',hk⟩
  exact ⟨rfl,⟨⟨pre,rfl,hi'⟩,hb',h.l,h.s⟩,hk⟩
theorem values_calls (h:PAt g tl ts en n w0 w):Calls Try.prog 108 #[.pointer (some ⟨g,0,none⟩)] w fun e w'=>e=.returned (.bool (valuesP ts))∧PAt g tl ts en n w0 w'∧KeepBut w w' g none:=by
  obtain ⟨pre,rfl,hi⟩:=h.i
  refine (parse_reader_values.calls g _ _ _ _ _ _ _ _ w0 w hi h.b (values_f pre ts en n h.l)).mono ?_
  rintro e w' ⟨rfl,hi',hb',hk⟩
  exact ⟨rfl,⟨⟨pre,rfl,hi'⟩,hb',h.l,h.s⟩,hk⟩
theorem fail_calls {c:Int} (h:PAt g tl ts en n w0 w):Calls Try.prog 58 #[.pointer (some ⟨g,0,none⟩),.int .i64 c] w fun e w'=>e=.panicked (boom c (hereP en ts))∧Below w0.heap.size w0 w'∧KeepBut w w' g none:=by
  have HX:=aM (And.intro h (KeepBut.refl w g none))
  clear h
  go_enter Try.func58,Try.ntmps58
  go_wp2_with fail
  refine (here_calls HX.out.1).mono ?_
  rintro e w1 ⟨rfl,hp_,hk_⟩
  have HX1:=aM (And.intro hp_ (HX.out.2.trans hk_ (.inl rfl)))
  clear hp_ hk_
  go_wp2
  exact ⟨rfl,rfl,HX1.out.1.b,HX1.out.2⟩
theorem want_calls (s:ByteArray) (hs:s.toList≠[]) (h:PAt g tl ts en n w0 w):Calls Try.prog 77 #[.pointer (some ⟨g,0,none⟩),.string s] w (PEnd (wantP en s.toList ts) g w0 w fun us e w'=>e=.returned (.tuple #[])∧PAt g tl us en n w0 w'):=by
  have HX:=aM (And.intro h (KeepBut.refl w g none))
  clear h
  unfold wantP
  by_cases c:(pk0 ts).toList=s.toList
  · rw [if_pos c]
    have HNE:=aM (toL_ne (c ▸ hs))
    have d1:((pk0 ts).toList !=s.toList)=false:=bne_eq_false_iff_eq.mpr c
    have d2:(!((pk0 ts).toList==s.toList))=false:=d1
    clear c hs
    go_enter Try.func77,Try.ntmps77
    go_wp2_with fail
    refine (peek0_calls HX.out.1).mono ?_
    rintro e w1 ⟨rfl,hp_,hk_⟩
    have HX1:=aM (And.intro hp_ (HX.out.2.trans hk_ (.inl rfl)))
    clear hp_ hk_
    obtain ⟨a_,hc1,hf1,hst_⟩:=HX1.out.1.where_
    have HX2:=aM (And.intro (hst_ HNE.out) (HX1.out.2.set_ 1 (.int .i64 (wrap64 (a_+1)))))
    clear hst_
    go_wp2
    (first | go_end0 | ((try simp only [Exit.inBlock,Exit.then]);refine bodyPost_ret (results_none rfl _ _ _) rfl ?_))
    exact ⟨⟨HX2.out.1.b,HX2.out.2⟩,rfl,HX2.out.1⟩
  · rw [if_neg c]
    have d1:((pk0 ts).toList !=s.toList)=true:=bne_iff_ne.mpr c
    have d2:(!((pk0 ts).toList==s.toList))=true:=d1
    clear c hs
    go_enter Try.func77,Try.ntmps77
    go_wp2_with fail
    refine (peek0_calls HX.out.1).mono ?_
    rintro e w1 ⟨rfl,hp_,hk_⟩
    have HX1:=aM (And.intro hp_ (HX.out.2.trans hk_ (.inl rfl)))
    clear hp_ hk_
    go_wp2_with fail
    refine (fail_calls (c:=2) HX1.out.1).mono ?_
    rintro e w9 ⟨rfl,hb_,hk_⟩
    have HZ:=aM (And.intro hb_ (HX1.out.2.trans hk_ (.inl rfl)))
    clear hb_ hk_
    go_wp2
    exact ⟨rfl,HZ.out,rfl⟩
theorem name_calls (h:PAt g tl ts en n w0 w):Calls Try.prog 78 #[.pointer (some ⟨g,0,none⟩)] w (PEnd (nameP en ts) g w0 w fun a e w'=>e=.returned (.string a.1)∧PAt g tl a.2 en n w0 w'):=by
  have HX:=aM (And.intro h (KeepBut.refl w g none))
  clear h
  unfold nameP
  by_cases c:nameL (pk0 ts).data.toList=true
  · rw [if_pos c]
    have HNE:=aM (show ts≠[] from fun e=>by rw [e] at c;simp [pk0,nameL] at c)
    go_enter Try.func78,Try.ntmps78
    go_wp2_with fail
    refine (peek0_calls HX.out.1).mono ?_
    rintro e w1 ⟨rfl,hp_,hk_⟩
    have HX1:=aM (And.intro hp_ (HX.out.2.trans hk_ (.inl rfl)))
    clear hp_ hk_
    go_wp2_with fail
    refine (token_Name.calls (pk0 ts) _ _ rfl).mono ?_
    rintro e w2 ⟨rfl,hb_⟩
    have HX2:=aM (And.intro (HX1.out.1.below hb_) (HX1.out.2.trans (KeepBut.of_below hb_ g none) (.inl rfl)))
    clear hb_ HX1
    obtain ⟨a_,hc1,hf1,hst_⟩:=HX2.out.1.where_
    have HX3:=aM (And.intro (hst_ HNE.out) (HX2.out.2.set_ 1 (.int .i64 (wrap64 (a_+1)))))
    clear hst_
    rw [c]
    go_wp2
    go_ret
    exact ⟨⟨HX3.out.1.b,HX3.out.2⟩,rfl,HX3.out.1⟩
  · rw [if_neg c]
    have c:=Bool.eq_false_iff.mpr c
    go_enter Try.func78,Try.ntmps78
    go_wp2_with fail
    refine (peek0_calls HX.out.1).mono ?_
    rintro e w1 ⟨rfl,hp_,hk_⟩
    have HX1:=aM (And.intro hp_ (HX.out.2.trans hk_ (.inl rfl)))
    clear hp_ hk_
    go_wp2_with fail
    refine (token_Name.calls (pk0 ts) _ _ rfl).mono ?_
    rintro e w2 ⟨rfl,hb_⟩
    have HX2:=aM (And.intro (HX1.out.1.below hb_) (HX1.out.2.trans (KeepBut.of_below hb_ g none) (.inl rfl)))
    clear hb_ HX1
    rw [c]
    go_wp2_with fail
    refine (fail_calls (c:=4) HX2.out.1).mono ?_
    rintro e w9 ⟨rfl,hb_,hk_⟩
    have HZ:=aM (And.intro hb_ (HX2.out.2.trans hk_ (.inl rfl)))
    clear hb_ hk_
    go_wp2
    exact ⟨rfl,HZ.out,rfl⟩
theorem index_calls (sign most c:Int) (h:PAt g tl ts en n w0 w):Calls Try.prog 105 #[.pointer (some ⟨g,0,none⟩),.int .u8 sign,.int .i64 most,.int .i64 c] w (PEnd (indexP en sign most c ts) g w0 w fun a e w'=>e=.returned (.int .i64 a.1)∧PAt g tl a.2 en n w0 w'):=by
  have hl:=h.pk
  have HX:=aM (And.intro h (KeepBut.refl w g none))
  clear h
  unfold indexP
  by_cases c1:(pk0 ts).size<2
  · rw [if_pos c1]
    have d1:decide (((pk0 ts).size:Int)<2)=true:=decide_eq_true (by omega)
    clear c1
    go_enter Try.func105,Try.ntmps105
    go_wp2_with fail
    refine (peek0_calls HX.out.1).mono ?_
    rintro e w1 ⟨rfl,hp_,hk_⟩
    have HX1:=aM (And.intro hp_ (HX.out.2.trans hk_ (.inl rfl)))
    clear hp_ hk_
    go_wp2_with fail
    refine (fail_calls (c:=c) HX1.out.1).mono ?_
    rintro e w9 ⟨rfl,hb_,hk_⟩
    have HZ:=aM (And.intro hb_ (HX1.out.2.trans hk_ (.inl rfl)))
    clear hb_ hk_
    go_wp2
    exact ⟨rfl,HZ.out,rfl⟩
  rw [if_neg c1]
  have d1:decide (((pk0 ts).size:Int)<2)=false:=decide_eq_false (by omega)
  have q1:((0:Int)<((pk0 ts).size:Int))=True:=eq_true (by omega)
  have c5:0<(pk0 ts).size:=by omega
  have hbt:(((pk0 ts)[0]'c5).toNat:Int)=bt (pk0 ts) 0:=bt_at (pk0 ts) 0 c5
  by_cases c2:bt (pk0 ts) 0≠sign
  · rw [if_pos c2]
    have d2:(bt (pk0 ts) 0 !=sign)=true:=bne_iff_ne.mpr c2
    clear c1 c2
    go_enter Try.func105,Try.ntmps105
    go_wp2_with fail
    refine (peek0_calls HX.out.1).mono ?_
    rintro e w1 ⟨rfl,hp_,hk_⟩
    have HX1:=aM (And.intro hp_ (HX.out.2.trans hk_ (.inl rfl)))
    clear hp_ hk_
    go_wp2_with fail
    refine (fail_calls (c:=c) HX1.out.1).mono ?_
    rintro e w9 ⟨rfl,hb_,hk_⟩
    have HZ:=aM (And.intro hb_ (HX1.out.2.trans hk_ (.inl rfl)))
    clear hb_ hk_
    go_wp2
    exact ⟨rfl,HZ.out,rfl⟩
  rw [if_neg c2]
  have d2:(bt (pk0 ts) 0 !=sign)=false:=bne_eq_false_iff_eq.mpr (by simpa using c2)
  have HNE:=aM (size_ne (ts:=ts) (by omega))
  have hx:(pk0 ts).extract 1 (pk0 ts).size=mk (pk0 ts).data.toList.tail:=by
    rw [← List.drop_one,← mk_from,← mk_data]
  have hlt:(pk0 ts).data.toList.tail.length≤4611686018427387904:=by
    have:=size_data (pk0 ts)
    rw [List.length_tail]
    omega
  obtain ⟨k,hk⟩:=(index_ev (pk0 ts).data.toList.tail hlt most).rounds
  replace hk:digits_Index.f k (mk (pk0 ts).data.toList.tail) most=some (idxC (pk0 ts).data.toList.tail most):=hk
  generalize hq:idxC (pk0 ts).data.toList.tail most=q at hk ⊢
  obtain ⟨q1_,q2_⟩:=q
  obtain ⟨r,hr⟩:∃ r:PE (Int × List Tk),(if q2_=0 then .ok (q1_,ts.tail) else failP en ts c)=r:=⟨_,rfl⟩
  show Calls _ _ _ _ (PEnd (if q2_=0 then .ok (q1_,ts.tail) else failP en ts c) g w0 w _)
  rw [hr]
  rw [← hx] at hk
  have HQ:=aM hk
  have q3:((1:Int)≤((pk0 ts).size:Int))=True:=eq_true (by omega)
  have q4:(1≤(pk0 ts).size)=True:=eq_true (by omega)
  clear c1 c2 hx hlt hk hq
  go_enter Try.func105,Try.ntmps105
  go_wp2_with fail
  refine (peek0_calls HX.out.1).mono ?_
  rintro e w1 ⟨rfl,hp_,hk_⟩
  have HX1:=aM (And.intro hp_ (HX.out.2.trans hk_ (.inl rfl)))
  clear hp_ hk_
  go_wp2_with fail
  refine (digits_Index.calls k _ most q1_ q2_ _ HQ.out).mono ?_
  rintro e w2 ⟨rfl,hd_⟩
  have HX2:=aM (And.intro (HX1.out.1.below hd_.below) (HX1.out.2.trans (KeepBut.of_below hd_.below g none) (.inl rfl)))
  clear hd_ HX1
  by_cases c3:q2_=0
  · rw [if_pos c3] at hr
    obtain rfl:=hr
    have d3:(q2_ !=0)=false:=bne_eq_false_iff_eq.mpr c3
    obtain ⟨a_,hc1,hf1,hst_⟩:=HX2.out.1.where_
    have HX3:=aM (And.intro (hst_ HNE.out) (HX2.out.2.set_ 1 (.int .i64 (wrap64 (a_+1)))))
    clear hst_
    clear c3
    go_wp2
    go_ret
    exact ⟨⟨HX3.out.1.b,HX3.out.2⟩,rfl,HX3.out.1⟩
  · rw [if_neg c3] at hr
    obtain rfl:=hr
    have d3:(q2_ !=0)=true:=bne_iff_ne.mpr c3
    clear c3
    go_wp2_with fail
    refine (fail_calls (c:=c) HX2.out.1).mono ?_
    rintro e w9 ⟨rfl,hb_,hk_⟩
    have HZ:=aM (And.intro hb_ (HX2.out.2.trans hk_ (.inl rfl)))
    clear hb_ hk_
    go_wp2
    exact ⟨rfl,HZ.out,rfl⟩
theorem value_calls (h:PAt g tl ts en n w0 w):Calls Try.prog 98 #[.pointer (some ⟨g,0,none⟩)] w (PEnd (valueP en ts) g w0 w fun a e w'=>e=.returned (.int .i64 a.1)∧PAt g tl a.2 en n w0 w'):=by
  unfold valueP
  obtain ⟨r,hr⟩:∃ r,indexP en 37 1048576 8 ts=r:=⟨_,rfl⟩
  rw [hr]
  have HX:=aM h
  have HR:=aM hr
  clear h hr
  go_enter Try.func98,Try.ntmps98
  go_wp2_with fail
  refine (index_calls 37 1048576 8 HX.out).mono ?_
  rintro e w1 ⟨hb_,h_⟩
  rw [HR.out] at h_
  have HB_:=aM hb_
  clear hb_
  cases r with
  | error x=>
    obtain rfl:=h_
    go_wp2
    exact ⟨rfl,HB_.out,rfl⟩
  | ok a=>
    obtain ⟨rfl,hp_⟩:=h_
    have HP_:=aM hp_
    clear hp_
    go_wp2
    go_ret
    exact ⟨HB_.out,rfl,HP_.out⟩
theorem label_calls (h:PAt g tl ts en n w0 w):Calls Try.prog 106 #[.pointer (some ⟨g,0,none⟩)] w (PEnd (labelP en ts) g w0 w fun a e w'=>e=.returned (.int .i64 a.1)∧PAt g tl a.2 en n w0 w'):=by
  unfold labelP
  obtain ⟨r,hr⟩:∃ r,indexP en 98 255 7 ts=r:=⟨_,rfl⟩
  rw [hr]
  have HX:=aM h
  have HR:=aM hr
  clear h hr
  go_enter Try.func106,Try.ntmps106
  go_wp2_with fail
  refine (index_calls 98 255 7 HX.out).mono ?_
  rintro e w1 ⟨hb_,h_⟩
  rw [HR.out] at h_
  have HB_:=aM hb_
  clear hb_
  cases r with
  | error x=>
    obtain rfl:=h_
    go_wp2
    exact ⟨rfl,HB_.out,rfl⟩
  | ok a=>
    obtain ⟨rfl,hp_⟩:=h_
    have HP_:=aM hp_
    clear hp_
    go_wp2
    go_ret
    exact ⟨HB_.out,rfl,HP_.out⟩
theorem number_calls (low high:Int) (h:PAt g tl ts en n w0 w):Calls Try.prog 107 #[.pointer (some ⟨g,0,none⟩),.int .i64 low,.int .i64 high] w (PEnd (numberP en low high ts) g w0 w fun a e w'=>e=.returned (.int .i64 a.1)∧PAt g tl a.2 en n w0 w'):=by
  have hl:=h.pk
  have HX:=aM (And.intro h (KeepBut.refl w g none))
  clear h
  unfold numberP
  have hlt:(pk0 ts).data.toList.length≤4611686018427387904:=by
    have:=size_data (pk0 ts)
    omega
  obtain ⟨k,hk⟩:=(parse_ev (pk0 ts).data.toList hlt).rounds
  rw [← mk_data] at hk
  have HNE:=aM (show (parseL (pk0 ts).data.toList).2=0→ts≠[] from fun h e=>by rw [e] at h;revert h;decide)
  generalize parseL (pk0 ts).data.toList=q at hk HNE ⊢
  obtain ⟨q1,q2⟩:=q
  unfold numC
  obtain ⟨r,hr⟩:∃ r:PE (Int × List Tk),(if (if q2=0 then (if q1<low∨q1>high then 18 else 0) else q2)=0 then .ok (q1,ts.tail) else failP en ts (if q2=0 then (if q1<low∨q1>high then 18 else 0) else q2))=r:=⟨_,rfl⟩
  show Calls _ _ _ _ (PEnd (if (if q2=0 then (if q1<low∨q1>high then 18 else 0) else q2)=0 then .ok (q1,ts.tail) else failP en ts (if q2=0 then (if q1<low∨q1>high then 18 else 0) else q2)) g w0 w _)
  rw [hr]
  have HQ:=aM hk
  clear hk hlt
  go_enter Try.func107,Try.ntmps107
  go_wp2_with fail
  refine (peek0_calls HX.out.1).mono ?_
  rintro e w1 ⟨rfl,hp_,hk_⟩
  have HX1:=aM (And.intro hp_ (HX.out.2.trans hk_ (.inl rfl)))
  clear hp_ hk_
  go_wp2_with fail
  refine (digits_Parse.calls k (pk0 ts) q1 q2 _ HQ.out).mono ?_
  rintro e w2 ⟨rfl,hd_⟩
  have HX2:=aM (And.intro (HX1.out.1.below hd_.below) (HX1.out.2.trans (KeepBut.of_below hd_.below g none) (.inl rfl)))
  clear hd_ HX1
  by_cases c1:q2=0
  rotate_left
  · rw [if_neg c1,if_neg c1] at hr
    obtain rfl:=hr
    have d1:(q2==0)=false:=beq_eq_false_iff_ne.mpr c1
    have d2:(q2 !=0)=true:=bne_iff_ne.mpr c1
    clear c1
    go_wp2_with fail
    refine (fail_calls (c:=q2) HX2.out.1).mono ?_
    rintro e w9 ⟨rfl,hb_,hk_⟩
    have HZ:=aM (And.intro hb_ (HX2.out.2.trans hk_ (.inl rfl)))
    clear hb_ hk_
    go_wp2
    exact ⟨rfl,HZ.out,rfl⟩
  rw [if_pos c1] at hr
  subst c1
  by_cases c2:q1<low∨q1>high
  · rw [if_pos c2,if_neg (by decide)] at hr
    obtain rfl:=hr
    by_cases c3:q1<low
    · have d3:decide (q1<low)=true:=decide_eq_true c3
      clear c2 c3
      go_wp2_with fail
      refine (fail_calls (c:=18) HX2.out.1).mono ?_
      rintro e w9 ⟨rfl,hb_,hk_⟩
      have HZ:=aM (And.intro hb_ (HX2.out.2.trans hk_ (.inl rfl)))
      clear hb_ hk_
      go_wp2
      exact ⟨rfl,HZ.out,rfl⟩
    · have d3:decide (q1<low)=false:=decide_eq_false c3
      have d4:decide (high<q1)=true:=decide_eq_true (by omega)
      clear c2 c3
      go_wp2_with fail
      refine (fail_calls (c:=18) HX2.out.1).mono ?_
      rintro e w9 ⟨rfl,hb_,hk_⟩
      have HZ:=aM (And.intro hb_ (HX2.out.2.trans hk_ (.inl rfl)))
      clear hb_ hk_
      go_wp2
      exact ⟨rfl,HZ.out,rfl⟩
  rw [if_neg c2,if_pos rfl] at hr
  obtain rfl:=hr
  have d3:decide (q1<low)=false:=decide_eq_false (by omega)
  have d4:decide (high<q1)=false:=decide_eq_false (by omega)
  obtain ⟨a_,hc1,hf1,hst_⟩:=HX2.out.1.where_
  have HX3:=aM (And.intro (hst_ (HNE.out rfl)) (HX2.out.2.set_ 1 (.int .i64 (wrap64 (a_+1)))))
  clear hst_ c2
  go_wp2
  go_ret
  exact ⟨⟨HX3.out.1.b,HX3.out.2⟩,rfl,HX3.out.1⟩
end
end Go.Proofs.Ytkjdblbgmomieaa.PSh
end
-- from YtkjdblbgmomieaaPShx18
section
namespace Go.Proofs.Ytkjdblbgmomieaa.PSh
set_option maxHeartbeats 8000000
set_option maxRecDepth 100000
open Go.RowKit Go.Proofs.YtkjdblbgmomieaaW.PrintWords Go.Proofs.YtkjdblbgmomieaaW.PrintLast Go.Proofs.YtkjdblbgmomieaaW.PrintMore Go.Proofs.Ytkjdblbgmomieaa.Zip
attribute [local go_sem] max2_int min2_int max_two min_two max_three min_three max_four min_four   -- for this text's walks alone
set_option linter.unusedVariables false
set_option linter.unusedSimpArgs false
def r02_in.l0:Nat→Int→ByteArray→Int→Option (Bool)
 | 0,_,_,_=>none
 | k+1,x0,x1,x5=>if x5<(x1.size:Int) then (if 0≤x5 then (if (bt x1 x5)=x0 then (some true) else (r02_in.l0 k x0 x1 (wrap64 (x5+1)))) else (none)) else (some false)
def r02_in.f (k:Nat) (a0:Int) (a1:ByteArray):Option (Bool):=r02_in.l0 k a0 a1 0
theorem r02_in.calls (k:Nat) (a0:Int) (a1:ByteArray) (r:Bool) (w:World) (h:r02_in.f k a0 a1=some r):
  Calls Try.prog 82 #[.int .u8 a0,.string a1] w fun e w'=>e=.returned (.bool r)∧Drawn0 w w':=by
 have H:(r02_in.l0 k a0 a1 0)=some r:=h
 clear h
 have H':=aM H
 clear H
 go_enter Try.func82,Try.ntmps82
 go_wp2
 go_loopg [5] k (fun kq v5 w'=>∃ (x5_1:Int),v5=.int .i64 x5_1∧Aside0 (r02_in.l0 kq a0 a1 x5_1=some r)∧Aside0 (kq≤k)∧Drawn0 w w')
 case atStart=>exact ⟨(0),(by first | rfl | (simp;done) | (simp [*];done)),H',⟨Nat.le_refl _⟩,zQ⟩
 case round=>
  clear H'
  obtain ⟨x5_1,rfl,HA,HK1,⟨m1,rfl⟩⟩:=hrel
  cases gk with
  | zero=>exact absurd HA.out (by simp [r02_in.l0])
  | succ k1=>
   have H:=HA.out
   clear HA
   simp only [r02_in.l0] at H
   by_cases c3:x5_1<(a1.size:Int)
   ·rw [if_pos c3] at H
    have c3b0:decide (x5_1<(a1.size:Int))=true:=decide_eq_true c3
    clear c3
    by_cases c4:0≤x5_1
    ·rw [if_pos c4] at H
     have c4b0:decide (0≤x5_1)=true:=decide_eq_true c4
     clear c4
     by_cases c6:(bt a1 x5_1)=a0
     ·rw [if_pos c6] at H
      have c6b0:((bt a1 x5_1)==a0)=true:=beq_iff_eq.mpr c6
      clear c6
      obtain rfl:=Option.some.inj H
      have p5:0≤(x5_1:Int):=of_decide_eq_true zS
      have q5:x5_1<(a1.size:Int):=of_decide_eq_true zS
      have hx5:=bt_at a1 x5_1
      replace p5:=eq_true p5
      replace q5:=eq_true q5
      go_wp2
      go_ret
      exact ⟨by first | rfl | (simp;done) | (simp [*];done),zQ⟩
     ·rw [if_neg c6] at H
      have c6b0:((bt a1 x5_1)==a0)=false:=beq_eq_false_iff_ne.mpr c6
      have H':=aM H
      clear H
      have p5:0≤(x5_1:Int):=of_decide_eq_true zS
      have q5:x5_1<(a1.size:Int):=of_decide_eq_true zS
      have hx5:=bt_at a1 x5_1
      replace p5:=eq_true p5
      replace q5:=eq_true q5
      go_wp2
      go_roundg k1
      case measure=>have:=HK1.out;omega
      case rel=>exact ⟨(wrap64 (x5_1+1)),(by first | rfl | (simp;done) | (simp [*];done)),H',⟨by have:=HK1.out;omega⟩,zQ⟩
    ·rw [if_neg c4] at H
     exact absurd H (by simp)
   ·rw [if_neg c3] at H
    have c3b0:decide (x5_1<(a1.size:Int))=false:=decide_eq_false c3
    clear c3
    obtain rfl:=Option.some.inj H
    go_wp2
    go_ret
    exact ⟨by first | rfl | (simp;done) | (simp [*];done),zQ⟩
def r02_letter.f (k:Nat) (a0:Int):Option (Bool):=if a0≥97 then (if a0≤122 then (some true) else (if a0≥65 then (if a0≤90 then (some true) else (if a0≥48 then (if a0≤57 then (some true) else ((r02_in.f k a0 (⟨#[46,37,64,45,95]⟩:ByteArray)).bind fun t260=>(some t260))) else ((r02_in.f k a0 (⟨#[46,37,64,45,95]⟩:ByteArray)).bind fun t261=>(some t261)))) else (if a0≥48 then (if a0≤57 then (some true) else ((r02_in.f k a0 (⟨#[46,37,64,45,95]⟩:ByteArray)).bind fun t262=>(some t262))) else ((r02_in.f k a0 (⟨#[46,37,64,45,95]⟩:ByteArray)).bind fun t263=>(some t263))))) else (if a0≥65 then (if a0≤90 then (some true) else (if a0≥48 then (if a0≤57 then (some true) else ((r02_in.f k a0 (⟨#[46,37,64,45,95]⟩:ByteArray)).bind fun t264=>(some t264))) else ((r02_in.f k a0 (⟨#[46,37,64,45,95]⟩:ByteArray)).bind fun t265=>(some t265)))) else (if a0≥48 then (if a0≤57 then (some true) else ((r02_in.f k a0 (⟨#[46,37,64,45,95]⟩:ByteArray)).bind fun t266=>(some t266))) else ((r02_in.f k a0 (⟨#[46,37,64,45,95]⟩:ByteArray)).bind fun t267=>(some t267))))
theorem r02_letter.calls (k:Nat) (a0:Int) (r:Bool) (w:World) (h:r02_letter.f k a0=some r):
  Calls Try.prog 83 #[.int .u8 a0] w fun e w'=>e=.returned (.bool r)∧Drawn0 w w':=by
 have H:(if a0≥97 then (if a0≤122 then (some true) else (if a0≥65 then (if a0≤90 then (some true) else (if a0≥48 then (if a0≤57 then (some true) else ((r02_in.f k a0 (⟨#[46,37,64,45,95]⟩:ByteArray)).bind fun t260=>(some t260))) else ((r02_in.f k a0 (⟨#[46,37,64,45,95]⟩:ByteArray)).bind fun t261=>(some t261)))) else (if a0≥48 then (if a0≤57 then (some true) else ((r02_in.f k a0 (⟨#[46,37,64,45,95]⟩:ByteArray)).bind fun t262=>(some t262))) else ((r02_in.f k a0 (⟨#[46,37,64,45,95]⟩:ByteArray)).bind fun t263=>(some t263))))) else (if a0≥65 then (if a0≤90 then (some true) else (if a0≥48 then (if a0≤57 then (some true) else ((r02_in.f k a0 (⟨#[46,37,64,45,95]⟩:ByteArray)).bind fun t264=>(some t264))) else ((r02_in.f k a0 (⟨#[46,37,64,45,95]⟩:ByteArray)).bind fun t265=>(some t265)))) else (if a0≥48 then (if a0≤57 then (some true) else ((r02_in.f k a0 (⟨#[46,37,64,45,95]⟩:ByteArray)).bind fun t266=>(some t266))) else ((r02_in.f k a0 (⟨#[46,37,64,45,95]⟩:ByteArray)).bind fun t267=>(some t267)))))=some r:=h
 clear h
 by_cases c2:a0≥97
 ·rw [if_pos c2] at H
  have c2b0:decide (97≤a0)=true:=decide_eq_true c2
  clear c2
  by_cases c3:a0≤122
  ·rw [if_pos c3] at H
   have c3b0:decide (a0≤122)=true:=decide_eq_true c3
   clear c3
   obtain rfl:=Option.some.inj H
   go_enter Try.func83,Try.ntmps83
   go_wp2
   go_ret
   exact ⟨by first | rfl | (simp;done) | (simp [*];done),zQ⟩
  ·rw [if_neg c3] at H
   have c3b0:decide (a0≤122)=false:=decide_eq_false c3
   clear c3
   by_cases c4:a0≥65
   ·rw [if_pos c4] at H
    have c4b0:decide (65≤a0)=true:=decide_eq_true c4
    clear c4
    by_cases c5:a0≤90
    ·rw [if_pos c5] at H
     have c5b0:decide (a0≤90)=true:=decide_eq_true c5
     clear c5
     obtain rfl:=Option.some.inj H
     go_enter Try.func83,Try.ntmps83
     go_wp2
     go_ret
     exact ⟨by first | rfl | (simp;done) | (simp [*];done),zQ⟩
    ·rw [if_neg c5] at H
     have c5b0:decide (a0≤90)=false:=decide_eq_false c5
     clear c5
     by_cases c6:a0≥48
     ·rw [if_pos c6] at H
      have c6b0:decide (48≤a0)=true:=decide_eq_true c6
      clear c6
      by_cases c7:a0≤57
      ·rw [if_pos c7] at H
       have c7b0:decide (a0≤57)=true:=decide_eq_true c7
       clear c7
       obtain rfl:=Option.some.inj H
       go_enter Try.func83,Try.ntmps83
       go_wp2
       go_ret
       exact ⟨by first | rfl | (simp;done) | (simp [*];done),zQ⟩
      ·rw [if_neg c7] at H
       have c7b0:decide (a0≤57)=false:=decide_eq_false c7
       clear c7
       replace H:=Option.bind_eq_some_iff.mp H
       obtain ⟨t260,A80,H⟩:=H
       have A8:=aM A80
       clear A80
       obtain rfl:=Option.some.inj H
       go_enter Try.func83,Try.ntmps83
       go_wp2_with (first | (go_at_call 82;(with_reducible refine (r02_in.calls k a0 (⟨#[46,37,64,45,95]⟩:ByteArray) t260 _ A8.out).mono ?_);rintro e w' ⟨rfl,⟨nd,rfl⟩⟩))
       go_ret
       exact ⟨by first | rfl | (simp;done) | (simp [*];done),zQ⟩
     ·rw [if_neg c6] at H
      have c6b0:decide (48≤a0)=false:=decide_eq_false c6
      clear c6
      replace H:=Option.bind_eq_some_iff.mp H
      obtain ⟨t261,A90,H⟩:=H
      have A9:=aM A90
      clear A90
      obtain rfl:=Option.some.inj H
      go_enter Try.func83,Try.ntmps83
      go_wp2_with (first | (go_at_call 82;(with_reducible refine (r02_in.calls k a0 (⟨#[46,37,64,45,95]⟩:ByteArray) t261 _ A9.out).mono ?_);rintro e w' ⟨rfl,⟨nd,rfl⟩⟩))
      go_ret
      exact ⟨by first | rfl | (simp;done) | (simp [*];done),zQ⟩
   ·rw [if_neg c4] at H
    have c4b0:decide (65≤a0)=false:=decide_eq_false c4
    clear c4
    by_cases c10:a0≥48
    ·rw [if_pos c10] at H
     have c10b0:decide (48≤a0)=true:=decide_eq_true c10
     clear c10
     by_cases c11:a0≤57
     ·rw [if_pos c11] at H
      have c11b0:decide (a0≤57)=true:=decide_eq_true c11
      clear c11
      obtain rfl:=Option.some.inj H
      go_enter Try.func83,Try.ntmps83
      go_wp2
      go_ret
      exact ⟨by first | rfl | (simp;done) | (simp [*];done),zQ⟩
     ·rw [if_neg c11] at H
      have c11b0:decide (a0≤57)=false:=decide_eq_false c11
      clear c11
      replace H:=Option.bind_eq_some_iff.mp H
      obtain ⟨t262,A120,H⟩:=H
      have A12:=aM A120
      clear A120
      obtain rfl:=Option.some.inj H
      go_enter Try.func83,Try.ntmps83
      go_wp2_with (first | (go_at_call 82;(with_reducible refine (r02_in.calls k a0 (⟨#[46,37,64,45,95]⟩:ByteArray) t262 _ A12.out).mono ?_);rintro e w' ⟨rfl,⟨nd,rfl⟩⟩))
      go_ret
      exact ⟨by first | rfl | (simp;done) | (simp [*];done),zQ⟩
    ·rw [if_neg c10] at H
     have c10b0:decide (48≤a0)=false:=decide_eq_false c10
     clear c10
     replace H:=Option.bind_eq_some_iff.mp H
     obtain ⟨t263,A130,H⟩:=H
     have A13:=aM A130
     clear A130
     obtain rfl:=Option.some.inj H
     go_enter Try.func83,Try.ntmps83
     go_wp2_with (first | (go_at_call 82;(with_reducible refine (r02_in.calls k a0 (⟨#[46,37,64,45,95]⟩:ByteArray) t263 _ A13.out).mono ?_);rintro e w' ⟨rfl,⟨nd,rfl⟩⟩))
     go_ret
     exact ⟨by first | rfl | (simp;done) | (simp [*];done),zQ⟩
 ·rw [if_neg c2] at H
  have c2b0:decide (97≤a0)=false:=decide_eq_false c2
  clear c2
  by_cases c14:a0≥65
  ·rw [if_pos c14] at H
   have c14b0:decide (65≤a0)=true:=decide_eq_true c14
   clear c14
   by_cases c15:a0≤90
   ·rw [if_pos c15] at H
    have c15b0:decide (a0≤90)=true:=decide_eq_true c15
    clear c15
    obtain rfl:=Option.some.inj H
    go_enter Try.func83,Try.ntmps83
    go_wp2
    go_ret
    exact ⟨by first | rfl | (simp;done) | (simp [*];done),zQ⟩
   ·rw [if_neg c15] at H
    have c15b0:decide (a0≤90)=false:=decide_eq_false c15
    clear c15
    by_cases c16:a0≥48
    ·rw [if_pos c16] at H
     have c16b0:decide (48≤a0)=true:=decide_eq_true c16
     clear c16
     by_cases c17:a0≤57
     ·rw [if_pos c17] at H
      have c17b0:decide (a0≤57)=true:=decide_eq_true c17
      clear c17
      obtain rfl:=Option.some.inj H
      go_enter Try.func83,Try.ntmps83
      go_wp2
      go_ret
      exact ⟨by first | rfl | (simp;done) | (simp [*];done),zQ⟩
     ·rw [if_neg c17] at H
      have c17b0:decide (a0≤57)=false:=decide_eq_false c17
      clear c17
      replace H:=Option.bind_eq_some_iff.mp H
      obtain ⟨t264,A180,H⟩:=H
      have A18:=aM A180
      clear A180
      obtain rfl:=Option.some.inj H
      go_enter Try.func83,Try.ntmps83
      go_wp2_with (first | (go_at_call 82;(with_reducible refine (r02_in.calls k a0 (⟨#[46,37,64,45,95]⟩:ByteArray) t264 _ A18.out).mono ?_);rintro e w' ⟨rfl,⟨nd,rfl⟩⟩))
      go_ret
      exact ⟨by first | rfl | (simp;done) | (simp [*];done),zQ⟩
    ·rw [if_neg c16] at H
     have c16b0:decide (48≤a0)=false:=decide_eq_false c16
     clear c16
     replace H:=Option.bind_eq_some_iff.mp H
     obtain ⟨t265,A190,H⟩:=H
     have A19:=aM A190
     clear A190
     obtain rfl:=Option.some.inj H
     go_enter Try.func83,Try.ntmps83
     go_wp2_with (first | (go_at_call 82;(with_reducible refine (r02_in.calls k a0 (⟨#[46,37,64,45,95]⟩:ByteArray) t265 _ A19.out).mono ?_);rintro e w' ⟨rfl,⟨nd,rfl⟩⟩))
     go_ret
     exact ⟨by first | rfl | (simp;done) | (simp [*];done),zQ⟩
  ·rw [if_neg c14] at H
   have c14b0:decide (65≤a0)=false:=decide_eq_false c14
   clear c14
   by_cases c20:a0≥48
   ·rw [if_pos c20] at H
    have c20b0:decide (48≤a0)=true:=decide_eq_true c20
    clear c20
    by_cases c21:a0≤57
    ·rw [if_pos c21] at H
     have c21b0:decide (a0≤57)=true:=decide_eq_true c21
     clear c21
     obtain rfl:=Option.some.inj H
     go_enter Try.func83,Try.ntmps83
     go_wp2
     go_ret
     exact ⟨by first | rfl | (simp;done) | (simp [*];done),zQ⟩
    ·rw [if_neg c21] at H
     have c21b0:decide (a0≤57)=false:=decide_eq_false c21
     clear c21
     replace H:=Option.bind_eq_some_iff.mp H
     obtain ⟨t266,A220,H⟩:=H
     have A22:=aM A220
     clear A220
     obtain rfl:=Option.some.inj H
     go_enter Try.func83,Try.ntmps83
     go_wp2_with (first | (go_at_call 82;(with_reducible refine (r02_in.calls k a0 (⟨#[46,37,64,45,95]⟩:ByteArray) t266 _ A22.out).mono ?_);rintro e w' ⟨rfl,⟨nd,rfl⟩⟩))
     go_ret
     exact ⟨by first | rfl | (simp;done) | (simp [*];done),zQ⟩
   ·rw [if_neg c20] at H
    have c20b0:decide (48≤a0)=false:=decide_eq_false c20
    clear c20
    replace H:=Option.bind_eq_some_iff.mp H
    obtain ⟨t267,A230,H⟩:=H
    have A23:=aM A230
    clear A230
    obtain rfl:=Option.some.inj H
    go_enter Try.func83,Try.ntmps83
    go_wp2_with (first | (go_at_call 82;(with_reducible refine (r02_in.calls k a0 (⟨#[46,37,64,45,95]⟩:ByteArray) t267 _ A23.out).mono ?_);rintro e w' ⟨rfl,⟨nd,rfl⟩⟩))
    go_ret
    exact ⟨by first | rfl | (simp;done) | (simp [*];done),zQ⟩
end Go.Proofs.Ytkjdblbgmomieaa.PSh
end
