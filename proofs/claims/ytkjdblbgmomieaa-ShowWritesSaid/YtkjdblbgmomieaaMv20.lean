import Derived.Test.YtkjdblbgmomieaaMv19
import Derived.Test.YtkjdblbgmomieaaMv2
import Derived.Test.YtkjdblbgmomieaaMv3
section
namespace Go.Proofs.Ytkjdblbgmomieaa.PSh
set_option maxHeartbeats 4000000
set_option maxRecDepth 100000
open Go.RowKit Go.Proofs.YtkjdblbgmomieaaW.PrintWords Go.Proofs.YtkjdblbgmomieaaW.PrintLast Go.Proofs.YtkjdblbgmomieaaW.PrintMore Go.Proofs.Ytkjdblbgmomieaa.Str
set_option linter.unusedVariables false
set_option linter.unusedSimpArgs false
def bitL:List Int:=[1,2,4,8,16,32,64,128,256,512,1024,2048,4096,8192,16384,32768]
def bitV:Array Value:=(bitL.map (Value.int .i64)).toArray
def bit0:Array Value:=((List.replicate 16 (0:Int)).map (Value.int .i64)).toArray
theorem wpList_build1 {P:Program} {ops:Array Oper} {rest:List Oper} {o:Oper} {a:Act} {w:World} {Q:Exit→Act→World→Prop} (hg:o.guard=none) (t:TypeId) (parts:Array (Nat × Operand)) (ho:o.op=.build t parts) (cells:Array Value)
    (hf:P.built t (parts.map fun (i,x)=>(i,a.eval x)).toList=some cells)
    (h:wpList P ops Q rest (a.put o.dst (.agg cells)) w):wpList P ops Q (o::rest) a w:=by
  refine wpList_build hg t parts ho ?_ ?_
  · rw [hf];rfl
  · rw [hf];exact h
theorem wpList_store_new {P:Program} {ops:Array Oper} {rest:List Oper} {o:Oper} {a:Act} {w:World} {Q:Exit→Act→World→Prop} (hgd:o.guard=none) (ty:TypeId) (x y:Operand) (ho:o.op=.store ty x y)
    (old cells:Array Value) (hx:a.eval x=.pointer (some ⟨w.heap.size,0,none⟩)) (hy:a.eval y=.agg cells)
    (t:TypeId) (hi:(P.info? ty).map (·.size)=some cells.size) (hold:old.size=cells.size) (h1:cells.all (·.oneCell')=true)
    (h:wpList P ops Q rest (a.put o.dst undef) (w.alloc (.cells cells t))):wpList P ops Q (o::rest) a (w.alloc (.cells old t)):=by
  refine wpList_store_row hgd ty x y ho w.heap.size cells hx hy t old (heap_alloc_last _ _) hi hold h1 ?_
  rw [World.setRow_alloc_new]
  exact h
theorem shape_bits.calls (w:World):Calls Try.prog 94 #[] w fun e w'=>e=.returned (.agg bitV)∧Below w.heap.size w w':=by
  have hz:=(zero_of_info (P:=Try.prog) (t:=116) (v:=.agg bit0) (n:=16) (by kernel_rfl)).1
  go_enter Try.func94,Try.ntmps94
  go_wp2_with (first | ((with_reducible refine gate_dst (N:=1) rfl ?_);refine wpList_build1 rfl 116 _ rfl bitV (by kernel_rfl) ?_) | ((with_reducible refine gate_store (t:=116) (p:=0) (v:=.tmp 1) rfl ?_);refine wpList_store_new rfl 116 (.tmp 0) (.tmp 1) rfl bit0 bitV rfl rfl 116 (by kernel_rfl) (by kernel_rfl) (by kernel_rfl) ?_))
  refine bodyPost_ret (results_single rfl (Vals.cell w.heap.size 116 bitV (0,0) _ rfl (blk_new w _) Try.underlying116 rfl (by kernel_rfl) Vals.nil)) rfl ⟨rfl,below_alloc (Below.refl _ _) _⟩
theorem run_index_bits (n:Nat) (hn:n<16) (w:World):(Instr.index 116 (.agg bitV) (.int .i64 n)).run Try.prog w=.ok (.int .i64 (bitL.getD n 0)) w:=by
  have h:n=0∨n=1∨n=2∨n=3∨n=4∨n=5∨n=6∨n=7∨n=8∨n=9∨n=10∨n=11∨n=12∨n=13∨n=14∨n=15:=by omega
  rcases h with rfl | rfl | rfl | rfl | rfl | rfl | rfl | rfl | rfl | rfl | rfl | rfl | rfl | rfl | rfl | rfl<;>(show _=_;kernel_rfl)
def shpOk (c:UInt8):Bool:=c==105 || c==112
def shpCode (a:ByteArray):Int:=if a.toList=([46]:List UInt8) then 0 else if 1≤a.size∧a.size≤16 then (if a.data.toList.all shpOk=true then 0 else 16) else 16
def shMask:Nat→List UInt8→Int→Int
  | _,[],m=>m
  | i,c::cs,m=>shMask (i+1) cs (if c=112 then Go.bits .or .i64 m (bitL.getD i 0) else m)
def shape_Parse.f (a:ByteArray):Option (Int × Int × Int):=some (if shpCode a=0∧a.toList≠([46]:List UInt8) then ((a.size:Int),shMask 0 a.data.toList 0,shpCode a) else (0,0,shpCode a))
theorem shape_Parse.calls (a:ByteArray) (r1 r2 r3:Int) (w:World) (h:shape_Parse.f a=some (r1,r2,r3)):Calls Try.prog 71 #[.string a] w fun e w'=>e=.returned (.tuple #[.agg #[.int .i64 r1,.int .i64 r2],.int .i64 r3])∧Below w.heap.size w w':=by
  have hr:=Option.some.inj h
  clear h
  have hu73:=Try.underlying73
  have hz:=blk_new w (.cells #[.int .i64 0,.int .i64 0] 73)
  have hb:=below_alloc (Below.refl w.heap.size w) (.cells #[.int .i64 0,.int .i64 0] 73)
  have hcode:shpCode a=if a.toList=([46]:List UInt8) then 0 else if 1≤a.size∧a.size≤16 then (if a.data.toList.all shpOk=true then 0 else 16) else 16:=rfl
  generalize hcc:shpCode a=cc at hcode hr
  clear hcc
  by_cases c1:a.toList=([46]:List UInt8)
  · rw [if_pos c1] at hcode
    subst hcode
    have d1:(a.toList==([46]:List UInt8))=true:=beq_iff_eq.mpr c1
    rw [if_neg (fun e=>e.2 c1)] at hr
    simp only [Prod.mk.injEq] at hr
    obtain ⟨rfl,rfl,rfl⟩:=hr
    clear c1
    go_enter Try.func71,Try.ntmps71
    go_upto_if 7 with (fail)
    generalize w.alloc (.cells #[.int .i64 0,.int .i64 0] 73)=W0 at hz hb ⊢
    (try rw [d1])
    have z0:=blk_cell hz 0
    have z1:=blk_cell hz 1
    have f0:=blk_frozen hz 0
    have f1:=blk_frozen hz 1
    go_wp2
    refine bodyPost_ret (results_ct rfl _ _ w.heap.size 73 #[.int .i64 0,.int .i64 0] (0,0) _ rfl (blk_put (blk_put hz 0 _ rfl) 1 _ rfl) Try.underlying73 rfl (by kernel_rfl)) rfl ?_
    exact ⟨rfl,below_set (below_set hb (Nat.le_refl _)) (Nat.le_refl _)⟩
  rw [if_neg c1] at hcode
  have d1:(a.toList==([46]:List UInt8))=false:=beq_eq_false_iff_ne.mpr c1
  have HC1:=aM c1
  clear c1
  by_cases c2:1≤a.size∧a.size≤16
  rotate_left
  · rw [if_neg c2] at hcode
    subst hcode
    rw [if_neg (fun e=>absurd e.1 (by decide))] at hr
    simp only [Prod.mk.injEq] at hr
    obtain ⟨rfl,rfl,rfl⟩:=hr
    obtain ⟨q1,h1⟩:∃ q:Bool,decide ((a.size:Int)<1)=q:=⟨_,rfl⟩
    obtain ⟨q2,h2⟩:∃ q:Bool,decide (16<(a.size:Int))=q:=⟨_,rfl⟩
    have hq:(q1 || q2)=true:=by
      rw [← h1,← h2,Bool.or_eq_true,decide_eq_true_iff,decide_eq_true_iff]
      omega
    clear c2
    cases q1<;>cases q2<;>first | (exact absurd hq (by decide)) | skip
    all_goals
      clear hq
      go_enter Try.func71,Try.ntmps71
      go_upto_if 7 with (fail)
      generalize w.alloc (.cells #[.int .i64 0,.int .i64 0] 73)=W0 at hz hb ⊢
      (try rw [d1])
      have z0:=blk_cell hz 0
      have z1:=blk_cell hz 1
      have f0:=blk_frozen hz 0
      have f1:=blk_frozen hz 1
      go_wp2
      refine bodyPost_ret (results_ct rfl _ _ w.heap.size 73 #[.int .i64 0,.int .i64 0] (0,0) _ rfl (blk_put (blk_put hz 0 _ rfl) 1 _ rfl) Try.underlying73 rfl (by kernel_rfl)) rfl ?_
      exact ⟨rfl,below_set (below_set hb (Nat.le_refl _)) (Nat.le_refl _)⟩
  rw [if_pos c2] at hcode
  have d3:decide ((a.size:Int)<1)=false:=decide_eq_false (by omega)
  have d5:decide (16<(a.size:Int))=false:=decide_eq_false (by omega)
  have HS:=aM c2
  have HCO:=aM hcode
  have HR:=aM hr
  clear c2 hcode hr
  go_enter Try.func71,Try.ntmps71
  go_upto_if 7 with (fail)
  have HZ:=aM (blk_alloc hz (.cells #[.int .i64 (a.size:Int),.int .i64 0] 73))
  have HX:=aM (blk_new (w.alloc (.cells #[.int .i64 0,.int .i64 0] 73)) (.cells #[.int .i64 (a.size:Int),.int .i64 0] 73))
  have HB:=aM (below_alloc hb (.cells #[.int .i64 (a.size:Int),.int .i64 0] 73))
  have HGE:=aM (show w.heap.size≤(w.alloc (.cells #[.int .i64 0,.int .i64 0] 73)).heap.size by simp)
  have HN:=aM (show w.heap.size≠(w.alloc (.cells #[.int .i64 0,.int .i64 0] 73)).heap.size by simp)
  clear hz hb
  generalize w.alloc (.cells #[.int .i64 0,.int .i64 0] 73)=W0 at HZ HX HB HN HGE ⊢
  (try rw [d1])
  go_wp2
  (try simp only [Act.put,qA,qB,qC])
  generalize hbx:W0.heap.size=bx_ at HZ HX HB HN HGE ⊢
  generalize W0.alloc (.cells #[.int .i64 (a.size:Int),.int .i64 0] 73)=W1 at HZ HX HB ⊢
  clear hbx
  go_loopg [3,5] a.size (fun kq v3 v5 w'=>∃ (x5 m:Int),v3=.int .i64 0∧v5=.int .i64 x5∧Aside0 (0≤x5∧x5≤(a.size:Int))∧Aside0 (a.data.toList.all shpOk=(a.data.toList.drop x5.toNat).all shpOk)∧Aside0 (w'.heap[w.heap.size]?=some (.cells #[.int .i64 0,.int .i64 0] 73 (0,0)))∧Aside0 (w'.heap[bx_]?=some (.cells #[.int .i64 (a.size:Int),.int .i64 m] 73 (0,0)))∧Aside0 (Below w.heap.size w w')∧Aside0 (kq=a.size - x5.toNat)∧Aside0 (shMask x5.toNat (a.data.toList.drop x5.toNat) m=shMask 0 a.data.toList 0))
  case atStart=>exact ⟨0,0,rfl,rfl,⟨by omega⟩,⟨rfl⟩,⟨HZ.out⟩,⟨HX.out⟩,⟨HB.out⟩,⟨rfl⟩,⟨rfl⟩⟩
  case round=>
    clear HZ HX HB
    obtain ⟨x5,m,rfl,rfl,HI,HA,HZ,HX,HB,HK,HMK⟩:=hrel
    have cx1:=blk_cell HX.out 1
    have fx1:=blk_frozen HX.out 1
    by_cases hp:x5<(a.size:Int)
    · have HP:=aM hp
      have h0:=HI.out.1
      have hp2:x5.toNat<a.data.toList.length:=by rw [← size_data];omega
      have hall:=HA.out
      rw [List.drop_eq_getElem_cons hp2,List.all_cons] at hall
      obtain ⟨cn,hcn⟩:∃ c,a.data.toList[x5.toNat]=c:=⟨_,rfl⟩
      rw [hcn,show x5.toNat+1=(x5+1).toNat by omega] at hall
      have hmk:=HMK.out
      rw [List.drop_eq_getElem_cons hp2,hcn] at hmk
      simp only [shMask] at hmk
      rw [show x5.toNat+1=(x5+1).toNat by omega] at hmk
      have HMK2:=aM hmk
      clear hmk
      have HALL:=aM hall
      have hbt:bt a x5=(cn.toNat:Int):=by
        have:=bt_at a x5 (by omega)
        rw [← this,← hcn]
        rfl
      have HBT:=aM hbt
      have p22:(0≤x5)=True:=eq_true h0
      have q22:(x5<(a.size:Int))=True:=eq_true hp
      have d22:decide (x5<(a.size:Int))=true:=decide_eq_true hp
      have hx22:=bt_at a x5
      clear hp hp2 hall hcn hbt h0
      go_upto_block 1 with (fail)
      go_cut [3] (fun v3 wx=>v3=.int .i64 0∧∃ m':Int,Aside0 (m'=if cn=112 then Go.bits .or .i64 m (bitL.getD x5.toNat 0) else m)∧Aside0 (shpOk cn=true)∧Aside0 (wx.heap[w.heap.size]?=some (.cells #[.int .i64 0,.int .i64 0] 73 (0,0)))∧Aside0 (wx.heap[bx_]?=some (.cells #[.int .i64 (a.size:Int),.int .i64 m'] 73 (0,0)))∧Aside0 (Below w.heap.size w wx))
      case first=>
        by_cases k1:cn.toNat=112
        · have g1:(bt a x5==112)=true:=beq_iff_eq.mpr (by have:=HBT.out;omega)
          have hok:shpOk cn=true:=by
            unfold shpOk
            rw [show cn=112 from UInt8.toNat_inj.mp k1]
            rfl
          have HOK:=aM hok
          have hix:∀ W,(Instr.index 116 (.agg bitV) (.int .i64 x5)).run Try.prog W=.ok (.int .i64 (bitL.getD x5.toNat 0)) W:=fun W=>by
            have h:=run_index_bits x5.toNat (by have:=HP.out;have:=HS.out;omega) W
            rwa [Int.toNat_of_nonneg HI.out.1] at h
          have HM1:=aM (UInt8.toNat_inj.mp k1:cn=112)
          clear k1 hok
          go_upto_region 12 with (fail)
          refine start_ (n:=8) (S:=fun w'=>w'.cell? ⟨bx_,1,none⟩=some (.int .i64 m)) (ds:=[7]) #[false,false,false,false,false,false,false,false] (by kernel_rfl) rfl rfl (cx1) (fun hHeld=>?_)
          refine pure_ (i:=0) (N:=some 33) (v:=?_) (a':=?_) #[true,false,false,false,false,false,false,false] rfl rfl (by kernel_rfl) (fun _ _ _ h=>h) (Or.inl ⟨by rfl,?_⟩) ?_ ?_
          rotate_left
          · intro w'
            go_simp
            with_reducible rfl
          rotate_left
          · simp only [Act.put,qA,qB,qC,i64_w,i32_w]
            rfl
          refine pure_ (i:=3) (N:=some 36) (v:=?_) (a':=?_) #[true,false,false,true,false,false,false,false] rfl rfl (by kernel_rfl) (fun _ _ _ h=>h) (Or.inl ⟨by rfl,?_⟩) ?_ ?_
          rotate_left
          · intro w'
            go_simp
            with_reducible rfl
          rotate_left
          · simp only [Act.put,qA,qB,qC,i64_w,i32_w]
            rfl
          refine take_ (i:=1) (N:=some 34) (v:=?_) (a':=?_) #[true,true,false,true,false,false,false,false] rfl rfl (by kernel_rfl) (fun _ _ _ h=>h) (Or.inl ⟨by rfl,?_⟩) hHeld ?_ ?_
          rotate_left
          · intro w' s0
            go_simp
            with_reducible rfl
          rotate_left
          · simp only [Act.put,qA,qB,qC,i64_w,i32_w]
            rfl
          refine one_ (i:=2) (N:=some 35) #[true,true,true,true,false,false,false,false] rfl rfl (by kernel_rfl) (by decide) (fun K hK=>?_)
          refine goes_ Try.func94 (by kernel_rfl) rfl #[] (by rfl) rfl rfl (by first | rfl | simp only [List.map_toArray,List.map_cons,List.map_nil]) ?_
          with_reducible refine (shape_bits.calls _).mono ?_
          rintro e w3_ ⟨rfl,hb_⟩
          refine ⟨_,rfl,?_⟩
          have HX3:=aM (blk_below (show wr.drew.heap[bx_]?=_ from HX.out) hb_)
          have HZ3:=aM (blk_below (show wr.drew.heap[w.heap.size]?=_ from HZ.out) hb_)
          have HB3:=aM (below_step (show Below w.heap.size w wr.drew from below_drew1 HB.out) hb_)
          clear hb_ cx1 fx1
          have cx1:=blk_cell HX3.out 1
          have fx1:=blk_frozen HX3.out 1
          refine hK.out _ _ ((blk_cell HX3.out 1)) (fun hHeld=>?_)
          clear hK K
          refine norm_ (a':=?_) ?_ ?_
          rotate_left
          · show Act.put _ (some 35) _=_
            simp only [Act.put,qA,qB,qC,i64_w,i32_w]
            rfl
          refine take_ (i:=4) (N:=some 37) (v:=?_) (a':=?_) #[true,true,true,true,true,false,false,false] rfl rfl (by kernel_rfl) (fun _ _ _ h=>h) (Or.inl ⟨by rfl,?_⟩) hHeld ?_ ?_
          rotate_left
          · intro w' s0
            go_simp
            with_reducible rfl
          rotate_left
          · simp only [Act.put,qA,qB,qC,i64_w,i32_w]
            rfl
          refine pure_ (i:=5) (N:=some 38) (v:=?_) (a':=?_) #[true,true,true,true,true,true,false,false] rfl rfl (by kernel_rfl) (fun _ _ _ h=>h) (Or.inl ⟨by rfl,?_⟩) ?_ ?_
          rotate_left
          · intro w'
            go_simp
            with_reducible rfl
          rotate_left
          · simp only [Act.put,qA,qB,qC,i64_w,i32_w]
            rfl
          refine pure_ (i:=6) (N:=some 39) (v:=?_) (a':=?_) #[true,true,true,true,true,true,true,false] rfl rfl (by kernel_rfl) (fun _ _ _ h=>h) (Or.inl ⟨by rfl,?_⟩) ?_ ?_
          rotate_left
          · intro w'
            go_simp
            with_reducible rfl
          rotate_left
          · simp only [Act.put,qA,qB,qC,i64_w,i32_w]
            rfl
          refine last_ (i:=7) (N:=none) #[true,true,true,true,true,true,true,true] rfl rfl (by kernel_rfl) (by decide) (fun K hK=>?_)
          refine skip_ (w1:=?_) (by rfl) rfl ?_ ?_
          rotate_left
          · go_simp
            rfl
          refine hK.out _ _ ?_
          clear hK K
          refine done_ (by kernel_rfl) ?_
          (try go_wp2)
          go_meet
          exact ⟨rfl,_,⟨(if_pos HM1.out).symm⟩,HOK,⟨(Below.heap_setCell _ ⟨bx_,1,none⟩ _ _ HN.out).trans HZ3.out⟩,⟨blk_put HX3.out 1 _ rfl⟩,⟨below_set HB3.out (by have:=HN.out;have:=blk_lt HX.out;have:=HGE.out;omega)⟩⟩
        have g1:(bt a x5==112)=false:=beq_eq_false_iff_ne.mpr (by have:=HBT.out;omega)
        by_cases k2:cn.toNat=105
        · have g2:(bt a x5==105)=true:=beq_iff_eq.mpr (by have:=HBT.out;omega)
          have hok:shpOk cn=true:=by
            unfold shpOk
            rw [show cn=105 from UInt8.toNat_inj.mp k2]
            rfl
          have HOK:=aM hok
          have HM1:=aM (show ¬ cn=112 from fun e=>k1 (by rw [e];rfl))
          clear k1 k2 hok
          go_wp2_with fail
          go_meet
          exact ⟨rfl,_,⟨(if_neg HM1.out).symm⟩,HOK,HZ,HX,HB⟩
        · have g2:(bt a x5==105)=false:=beq_eq_false_iff_ne.mpr (by have:=HBT.out;omega)
          have hok:shpOk cn=false:=by
            unfold shpOk
            rw [beq_eq_false_iff_ne.mpr (fun e=>k2 (by rw [e];rfl)),beq_eq_false_iff_ne.mpr (fun e=>k1 (by rw [e];rfl))]
            rfl
          have hall:=HALL.out
          rw [hok,Bool.false_and] at hall
          have hco:=HCO.out
          rw [if_neg (by rw [hall];decide)] at hco
          subst hco
          have hr:=HR.out
          rw [if_neg (fun e=>absurd e.1 (by decide))] at hr
          simp only [Prod.mk.injEq] at hr
          obtain ⟨rfl,rfl,rfl⟩:=hr
          have z0:=blk_cell HZ.out 0
          have z1:=blk_cell HZ.out 1
          have f0:=blk_frozen HZ.out 0
          have f1:=blk_frozen HZ.out 1
          clear k1 k2 hok hall
          go_wp2
          (try simp only [Exit.inBlock,Exit.then])
          refine bodyPost_ret (results_ct rfl _ _ w.heap.size 73 #[.int .i64 0,.int .i64 0] (0,0) _ rfl (blk_put (blk_put HZ.out 0 _ rfl) 1 _ rfl) Try.underlying73 rfl (by kernel_rfl)) rfl ?_
          exact ⟨rfl,below_set (below_set HB.out (Nat.le_refl _)) (Nat.le_refl _)⟩
      case rest=>
        obtain ⟨rfl,m',HM',HC,HZ',HX',HB'⟩:=hcut
        clear HZ HX HB cx1 fx1
        go_wp2_with fail
        go_roundg (a.size - (x5+1).toNat)
        case measure=>have:=HK.out;have:=HP.out;have:=HI.out;omega
        case rel=>exact ⟨x5+1,m',rfl,by rw [show wrap64 (x5+1)=x5+1 from w64 (by have:=HI.out;omega) (by have:=HP.out;have:=HS.out;omega)],⟨by have:=HP.out;have:=HI.out;omega⟩,⟨by have h:=HALL.out;rw [HC.out,Bool.true_and] at h;exact h⟩,⟨HZ'.out⟩,⟨HX'.out⟩,⟨HB'.out⟩,⟨rfl⟩,⟨by rw [HM'.out];exact HMK2.out⟩⟩
    · have d22:decide (x5<(a.size:Int))=false:=decide_eq_false hp
      have hall:a.data.toList.all shpOk=true:=by
        rw [HA.out,List.drop_eq_nil_of_le (by rw [← size_data];have:=HI.out;omega)]
        rfl
      have hco:=HCO.out
      rw [if_pos hall] at hco
      subst hco
      have hr:=HR.out
      have hm:=HMK.out
      rw [List.drop_eq_nil_of_le (by rw [← size_data];have:=HI.out;omega)] at hm
      simp only [shMask] at hm
      rw [if_pos ⟨rfl,HC1.out⟩,← hm] at hr
      simp only [Prod.mk.injEq] at hr
      obtain ⟨rfl,rfl,rfl⟩:=hr
      clear hm
      have cx0:=blk_cell HX.out 0
      have z0:=blk_cell HZ.out 0
      have z1:=blk_cell HZ.out 1
      have f0:=blk_frozen HZ.out 0
      have f1:=blk_frozen HZ.out 1
      have n1:bx_≠w.heap.size:=fun e=>HN.out e.symm
      have n2:w.heap.size≠bx_:=HN.out
      clear hp hall HA
      go_wp2
      (try simp only [Exit.inBlock,Exit.then])
      refine bodyPost_ret (results_ct rfl _ _ w.heap.size 73 #[.int .i64 (a.size:Int),.int .i64 m] (0,0) _ rfl (blk_put (blk_put HZ.out 0 _ rfl) 1 _ rfl) Try.underlying73 rfl (by kernel_rfl)) rfl ?_
      exact ⟨rfl,below_set (below_set HB.out (Nat.le_refl _)) (Nat.le_refl _)⟩
end Go.Proofs.Ytkjdblbgmomieaa.PSh
end
section
namespace Go.Proofs.Ytkjdblbgmomieaa.PSh
set_option maxHeartbeats 8000000
set_option maxRecDepth 100000
open Go.RowKit Go.Proofs.YtkjdblbgmomieaaW.PrintWords Go.Proofs.YtkjdblbgmomieaaW.PrintLast Go.Proofs.YtkjdblbgmomieaaW.PrintMore Go.Proofs.Ytkjdblbgmomieaa.Zip
attribute [local go_sem] max2_int min2_int max_two min_two max_three min_three max_four min_four   -- for this text's walks alone
set_option linter.unusedVariables false
set_option linter.unusedSimpArgs false
mutual
def show_names.l0:Nat→List Int→Int→Int→Int→Int→Int→Int→List Int→List Int→ByteArray→Int→Option (Int)
 | 0,_,_,_,_,_,_,_,_,_,_,_=>none
 | k+1,x10,x11,x12,x251000,x251001,x251002,x251003,x251004,x251005,x251006,x251007=>if x12<x11 then (if 0≤x12 then (if x12<(x10.length:Int) then ((show_within.f (rd x10 x12) 0 1048576).bind fun t252=>(if t252=true then (show_names.l0 k x10 x11 (wrap64 (x12+1)) x251000 x251001 x251002 x251003 x251004 x251005 x251006 x251007) else (some 8))) else (none)) else (none)) else (show_names.l1 k x251005 (x251005.length:Int) 0 x251000 x251001 x251002 x251003 x251004 x251005 x251006 x251007)
def show_names.l1:Nat→List Int→Int→Int→Int→Int→Int→Int→List Int→List Int→ByteArray→Int→Option (Int)
 | 0,_,_,_,_,_,_,_,_,_,_,_=>none
 | k+1,x21,x22,x23,x251000,x251001,x251002,x251003,x251004,x251005,x251006,x251007=>if x23<x22 then (if 0≤x23 then (if x23<(x21.length:Int) then ((show_within.f (rd x21 x23) 0 255).bind fun t254=>(if t254=true then (show_names.l1 k x21 x22 (wrap64 (x23+1)) x251000 x251001 x251002 x251003 x251004 x251005 x251006 x251007) else (some 7))) else (none)) else (none)) else (if x251000=10 then ((shape_Parse.f x251006).bind fun bt255=>(some bt255.2.2)) else (if x251000=21 then ((token_Name.f x251006).bind fun t259=>(if t259=true then (some 0) else (some 4))) else (if x251006.toList=([]:List UInt8) then (some 0) else (some 4))))
end
def show_names.f (k:Nat) (a0_0:Int) (a0_1:Int) (a0_2:Int) (a0_3:Int) (l0_4:List Int) (l0_5:List Int) (a0_6:ByteArray) (a0_7:Int):Option (Int):=show_names.l0 k l0_4 (l0_4.length:Int) 0 a0_0 a0_1 a0_2 a0_3 l0_4 l0_5 a0_6 a0_7
theorem show_names.calls (k:Nat) (a0_0:Int) (a0_1:Int) (a0_2:Int) (a0_3:Int) (A0_4:Option Addr) (c0_4:Nat) (l0_4:List Int) (A0_5:Option Addr) (c0_5:Nat) (l0_5:List Int) (a0_6:ByteArray) (a0_7:Int) (r:Int) (w:World) (hr0_4:Kd.C (Kd.int .i64) w A0_4 l0_4.length l0_4) (hc0_4:l0_4.length≤c0_4) (hr0_5:Kd.C (Kd.int .i64) w A0_5 l0_5.length l0_5) (hc0_5:l0_5.length≤c0_5) (h:show_names.f k a0_0 a0_1 a0_2 a0_3 l0_4 l0_5 a0_6 a0_7=some r):
  Calls Try.prog 49 #[.agg #[.int .i64 a0_0,.int .i64 a0_1,.int .i64 a0_2,.int .i64 a0_3,.slice A0_4 l0_4.length c0_4,.slice A0_5 l0_5.length c0_5,.string a0_6,.int .i64 a0_7]] w fun e w'=>e=.returned (.int .i64 r)∧Below w.heap.size w w':=by
 have HR0_4:=aM hr0_4
 clear hr0_4 hc0_4
 have HR0_5:=aM hr0_5
 clear hr0_5 hc0_5
 have HB:=aM (Below.refl w.heap.size w)
 have H:(show_names.l0 k l0_4 (l0_4.length:Int) 0 a0_0 a0_1 a0_2 a0_3 l0_4 l0_5 a0_6 a0_7)=some r:=h
 clear h
 have H':=aM H
 clear H
 go_enter Try.func49,Try.ntmps49
 go_wp2_with (first | ((with_reducible refine gate_dst (N:=1) rfl ?_);refine box_event ?hg (N:=1) ?hd (cs:=#[.int .i64 a0_0,.int .i64 a0_1,.int .i64 a0_2,.int .i64 a0_3,.slice A0_4 l0_4.length c0_4,.slice A0_5 l0_5.length c0_5,.string a0_6,.int .i64 a0_7]) (t:=39) ?hr ?_;(case hd=>rfl);(case hg=>rfl);(case hr=>first | (go_simp;done) | (go_simp;rfl));intro gb250 hg w2 hbox hb;have n0_:=aM (below_step (zB HB.out) hb);have n1_:=aM (hbox);have n2_:=aM ((by rw [hg];exact (below_size (zB HB.out)):w.heap.size≤gb250));have n3_:=aM ((by rw [hg];exact (below_size (zB HB.out)):w.heap.size≤gb250));clear HB;have HB:=n0_;have BK250:=n1_;have GE250:=n3_;clear n0_ n1_ n2_ n3_;clear hb hbox hg;have hcz3_4:w2.cell? ⟨gb250,4,none⟩=some (.slice A0_4 l0_4.length c0_4):=(blk_cell BK250.out 4).trans rfl))
 go_loopg [12] k (fun kq v12 w'=>∃ (x12_1:Int),v12=.int .i64 x12_1∧Aside0 (show_names.l0 kq l0_4 (l0_4.length:Int) x12_1 a0_0 a0_1 a0_2 a0_3 l0_4 l0_5 a0_6 a0_7=some r)∧Aside0 (kq≤k)∧Aside0 (w'.heap[gb250]?=some (.cells #[.int .i64 a0_0,.int .i64 a0_1,.int .i64 a0_2,.int .i64 a0_3,(.slice A0_4 l0_4.length c0_4),(.slice A0_5 l0_5.length c0_5),.string a0_6,.int .i64 a0_7] 39 (0,0)))∧Aside0 (Below w.heap.size w w'))
 case atStart=>exact ⟨(0),(by first | rfl | (simp;done) | (simp [*];done)),H',⟨Nat.le_refl _⟩,⟨zK BK250.out⟩,⟨zC HB.out GE250.out⟩⟩
 case round=>
  clear H' hcz3_4
  obtain ⟨x12_1,rfl,HA,HK1,BK250,HB⟩:=hrel
  cases gk with
  | zero=>exact absurd HA.out (by simp [show_names.l0])
  | succ k1=>
   have H:=HA.out
   clear HA
   simp only [show_names.l0] at H
   by_cases c4:x12_1<(l0_4.length:Int)
   ·rw [if_pos c4] at H
    have c4b0:decide (x12_1<(l0_4.length:Int))=true:=decide_eq_true c4
    clear c4
    by_cases c5:0≤x12_1
    ·rw [if_pos c5] at H
     have c5b0:decide (0≤x12_1)=true:=decide_eq_true c5
     clear c5
     by_cases c6:x12_1<(l0_4.length:Int)
     ·rw [if_pos c6] at H
      have c6b0:decide (x12_1<(l0_4.length:Int))=true:=decide_eq_true c6
      clear c6
      replace H:=Option.bind_eq_some_iff.mp H
      obtain ⟨t252,A70,H⟩:=H
      have A7:=aM A70
      clear A70
      by_cases c8:t252=true
      ·subst c8
       have H1:(show_names.l0 k1 l0_4 (l0_4.length:Int) (wrap64 (x12_1+1)) a0_0 a0_1 a0_2 a0_3 l0_4 l0_5 a0_6 a0_7)=some r:=by rw [if_pos rfl] at H;exact H
       clear H
       have H:=H1
       clear H1
       have H':=aM H
       clear H
       have p251:0≤(x12_1:Int):=of_decide_eq_true zS
       have q251:x12_1<(l0_4.length:Int):=of_decide_eq_true zS
       obtain ⟨ad251,e251,hx251_0⟩:=Kd.at_int HR0_4.out x12_1 p251 q251
       cases e251
       replace hx251_0:=(HB.out.cell (World.block_lt_of_cell? w _ hx251_0)).trans hx251_0
       replace p251:=eq_true p251
       replace q251:=eq_true q251
       go_wp2_with (first | ((with_reducible refine gate_callee (f:=48) rfl ?_);refine goesL_ (some 17) rfl rfl Try.func48 (by kernel_rfl) rfl #[.int .i64 (rd l0_4 x12_1),.int .i64 0,.int .i64 1048576] rfl zA ?_;(with_reducible refine (show_within.calls (rd l0_4 x12_1) 0 1048576 true _ A7.out).mono ?_);rintro e w' ⟨rfl,⟨nd,rfl⟩⟩;refine ⟨_,rfl,?_⟩))
       go_roundg k1
       case measure=>have:=HK1.out;omega
       case rel=>exact ⟨(wrap64 (x12_1+1)),(by first | rfl | (simp;done) | (simp [*];done)),H',⟨by have:=HK1.out;omega⟩,⟨zK BK250.out⟩,⟨zC HB.out GE250.out⟩⟩
      ·replace c8:=Bool.eq_false_iff.mpr c8
       subst c8
       have H1:(some 8)=some r:=by rw [if_neg (show ¬ (false=true) by decide)] at H;exact H
       clear H
       have H:=H1
       clear H1
       obtain rfl:=Option.some.inj H
       have p251:0≤(x12_1:Int):=of_decide_eq_true zS
       have q251:x12_1<(l0_4.length:Int):=of_decide_eq_true zS
       obtain ⟨ad251,e251,hx251_0⟩:=Kd.at_int HR0_4.out x12_1 p251 q251
       cases e251
       replace hx251_0:=(HB.out.cell (World.block_lt_of_cell? w _ hx251_0)).trans hx251_0
       replace p251:=eq_true p251
       replace q251:=eq_true q251
       go_wp2_with (first | ((with_reducible refine gate_callee (f:=48) rfl ?_);refine goesL_ (some 17) rfl rfl Try.func48 (by kernel_rfl) rfl #[.int .i64 (rd l0_4 x12_1),.int .i64 0,.int .i64 1048576] rfl zA ?_;(with_reducible refine (show_within.calls (rd l0_4 x12_1) 0 1048576 false _ A7.out).mono ?_);rintro e w' ⟨rfl,⟨nd,rfl⟩⟩;refine ⟨_,rfl,?_⟩))
       go_ret
       exact ⟨zF,zC HB.out GE250.out⟩
     ·rw [if_neg c6] at H
      exact absurd H (by simp)
    ·rw [if_neg c5] at H
     exact absurd H (by simp)
   ·rw [if_neg c4] at H
    have c4b0:decide (x12_1<(l0_4.length:Int))=false:=decide_eq_false c4
    clear c4
    have H':=aM H
    clear H
    have hcz9_5:wr.cell? ⟨gb250,5,none⟩=some (.slice A0_5 l0_5.length c0_5):=(blk_cell BK250.out 5).trans rfl
    go_wp2
    go_loopg [23] k1 (fun kq v23 w'=>∃ (x23_2:Int),v23=.int .i64 x23_2∧Aside0 (show_names.l1 kq l0_5 (l0_5.length:Int) x23_2 a0_0 a0_1 a0_2 a0_3 l0_4 l0_5 a0_6 a0_7=some r)∧Aside0 (kq≤k1)∧Aside0 (w'.heap[gb250]?=some (.cells #[.int .i64 a0_0,.int .i64 a0_1,.int .i64 a0_2,.int .i64 a0_3,(.slice A0_4 l0_4.length c0_4),(.slice A0_5 l0_5.length c0_5),.string a0_6,.int .i64 a0_7] 39 (0,0)))∧Aside0 (Below w.heap.size w w'))
    case atStart=>exact ⟨(0),(by first | rfl | (simp;done) | (simp [*];done)),H',⟨Nat.le_refl _⟩,⟨zK BK250.out⟩,⟨zC HB.out GE250.out⟩⟩
    case round=>
     clear H' c4b0 hcz9_5
     obtain ⟨x23_2,rfl,HA,HK2,BK250,HB⟩:=hrel
     cases gk with
     | zero=>exact absurd HA.out (by simp [show_names.l1])
     | succ k2=>
      have H:=HA.out
      clear HA
      simp only [show_names.l1] at H
      by_cases c10:x23_2<(l0_5.length:Int)
      ·rw [if_pos c10] at H
       have c10b0:decide (x23_2<(l0_5.length:Int))=true:=decide_eq_true c10
       clear c10
       by_cases c11:0≤x23_2
       ·rw [if_pos c11] at H
        have c11b0:decide (0≤x23_2)=true:=decide_eq_true c11
        clear c11
        by_cases c12:x23_2<(l0_5.length:Int)
        ·rw [if_pos c12] at H
         have c12b0:decide (x23_2<(l0_5.length:Int))=true:=decide_eq_true c12
         clear c12
         replace H:=Option.bind_eq_some_iff.mp H
         obtain ⟨t254,A130,H⟩:=H
         have A13:=aM A130
         clear A130
         by_cases c14:t254=true
         ·subst c14
          have H1:(show_names.l1 k2 l0_5 (l0_5.length:Int) (wrap64 (x23_2+1)) a0_0 a0_1 a0_2 a0_3 l0_4 l0_5 a0_6 a0_7)=some r:=by rw [if_pos rfl] at H;exact H
          clear H
          have H:=H1
          clear H1
          have H':=aM H
          clear H
          have p253:0≤(x23_2:Int):=of_decide_eq_true zS
          have q253:x23_2<(l0_5.length:Int):=of_decide_eq_true zS
          obtain ⟨ad253,e253,hx253_0⟩:=Kd.at_int HR0_5.out x23_2 p253 q253
          cases e253
          replace hx253_0:=(HB.out.cell (World.block_lt_of_cell? w _ hx253_0)).trans hx253_0
          replace p253:=eq_true p253
          replace q253:=eq_true q253
          go_wp2_with (first | ((with_reducible refine gate_callee (f:=48) rfl ?_);refine goesL_ (some 28) rfl rfl Try.func48 (by kernel_rfl) rfl #[.int .i64 (rd l0_5 x23_2),.int .i64 0,.int .i64 255] rfl zA ?_;(with_reducible refine (show_within.calls (rd l0_5 x23_2) 0 255 true _ A13.out).mono ?_);rintro e w' ⟨rfl,⟨nd,rfl⟩⟩;refine ⟨_,rfl,?_⟩))
          go_roundg k2
          case measure=>have:=HK1.out;have:=HK2.out;omega
          case rel=>exact ⟨(wrap64 (x23_2+1)),(by first | rfl | (simp;done) | (simp [*];done)),H',⟨by have:=HK1.out;have:=HK2.out;omega⟩,⟨zK BK250.out⟩,⟨zC HB.out GE250.out⟩⟩
         ·replace c14:=Bool.eq_false_iff.mpr c14
          subst c14
          have H1:(some 7)=some r:=by rw [if_neg (show ¬ (false=true) by decide)] at H;exact H
          clear H
          have H:=H1
          clear H1
          obtain rfl:=Option.some.inj H
          have p253:0≤(x23_2:Int):=of_decide_eq_true zS
          have q253:x23_2<(l0_5.length:Int):=of_decide_eq_true zS
          obtain ⟨ad253,e253,hx253_0⟩:=Kd.at_int HR0_5.out x23_2 p253 q253
          cases e253
          replace hx253_0:=(HB.out.cell (World.block_lt_of_cell? w _ hx253_0)).trans hx253_0
          replace p253:=eq_true p253
          replace q253:=eq_true q253
          go_wp2_with (first | ((with_reducible refine gate_callee (f:=48) rfl ?_);refine goesL_ (some 28) rfl rfl Try.func48 (by kernel_rfl) rfl #[.int .i64 (rd l0_5 x23_2),.int .i64 0,.int .i64 255] rfl zA ?_;(with_reducible refine (show_within.calls (rd l0_5 x23_2) 0 255 false _ A13.out).mono ?_);rintro e w' ⟨rfl,⟨nd,rfl⟩⟩;refine ⟨_,rfl,?_⟩))
          go_ret
          exact ⟨zF,zC HB.out GE250.out⟩
        ·rw [if_neg c12] at H
         exact absurd H (by simp)
       ·rw [if_neg c11] at H
        exact absurd H (by simp)
      ·rw [if_neg c10] at H
       have c10b0:decide (x23_2<(l0_5.length:Int))=false:=decide_eq_false c10
       clear c10
       by_cases c15:a0_0=10
       ·rw [if_pos c15] at H
        have c15b0:(a0_0==10)=true:=beq_iff_eq.mpr c15
        clear c15
        replace H:=Option.bind_eq_some_iff.mp H
        obtain ⟨⟨t255,t256,t257⟩,A160,H⟩:=H
        have A16:=aM A160
        clear A160
        obtain rfl:=Option.some.inj H
        have hcz17_0:wr.cell? ⟨gb250,0,none⟩=some (.int .i64 a0_0):=(blk_cell BK250.out 0).trans rfl
        have hcz17_6:wr.cell? ⟨gb250,6,none⟩=some (.string a0_6):=(blk_cell BK250.out 6).trans rfl
        go_wp2_with (first | ((with_reducible refine gate_callee (f:=71) rfl ?_);refine goesL_ (some 38) rfl rfl Try.func71 (by kernel_rfl) rfl #[.string a0_6] rfl zA ?_;(with_reducible refine (shape_Parse.calls a0_6 t255 t256 t257 _ A16.out).mono ?_);rintro e w18 ⟨rfl,hb⟩;refine ⟨_,rfl,?_⟩;have n0_:=aM (blk_below (g:=gb250) (o:=.cells #[.int .i64 a0_0,.int .i64 a0_1,.int .i64 a0_2,.int .i64 a0_3,.slice A0_4 l0_4.length c0_4,.slice A0_5 l0_5.length c0_5,.string a0_6,.int .i64 a0_7] 39 (0,0)) (zK BK250.out) hb);have n1_:=aM (below_step (zC HB.out GE250.out) hb);clear BK250;clear HB;have BK250:=n0_;have HB:=n1_;clear n0_ n1_;(try clear hb);(try clear hb2);(try clear hk);(try clear hi)) | ((with_reducible refine gate_dst (N:=7) rfl ?_);refine box_event ?hg (N:=7) ?hd (cs:=#[.int .i64 0,.int .i64 0]) (t:=73) ?hr ?_;(case hd=>rfl);(case hg=>rfl);(case hr=>first | (go_simp;done) | (go_simp;rfl));intro gb258 hg w19 hbox hb;have n0_:=aM (blk_below (g:=gb250) (o:=.cells #[.int .i64 a0_0,.int .i64 a0_1,.int .i64 a0_2,.int .i64 a0_3,.slice A0_4 l0_4.length c0_4,.slice A0_5 l0_5.length c0_5,.string a0_6,.int .i64 a0_7] 39 (0,0)) (zK BK250.out) hb);have n1_:=aM (below_step (zC HB.out GE250.out) hb);have n2_:=aM (hbox);have n3_:=aM ((by rw [hg];exact (below_size (zC HB.out GE250.out)):w.heap.size≤gb258));have n4_:=aM ((by rw [hg];exact (below_size (zC HB.out GE250.out)):w.heap.size≤gb258));have n5_:=aM ((by rw [hg];exact Nat.ne_of_lt (blk_lt (g:=gb250) (o:=.cells #[.int .i64 a0_0,.int .i64 a0_1,.int .i64 a0_2,.int .i64 a0_3,.slice A0_4 l0_4.length c0_4,.slice A0_5 l0_5.length c0_5,.string a0_6,.int .i64 a0_7] 39 (0,0)) (zK BK250.out)):gb250≠gb258));have n6_:=aM ((by rw [hg];exact Nat.ne_of_gt (blk_lt (g:=gb250) (o:=.cells #[.int .i64 a0_0,.int .i64 a0_1,.int .i64 a0_2,.int .i64 a0_3,.slice A0_4 l0_4.length c0_4,.slice A0_5 l0_5.length c0_5,.string a0_6,.int .i64 a0_7] 39 (0,0)) (zK BK250.out)):gb258≠gb250));clear BK250;clear HB;have BK250:=n0_;have HB:=n1_;have BK258:=n2_;have GE258:=n4_;have NB250_258:=n5_;have NB258_250:=n6_;clear n0_ n1_ n2_ n3_ n4_ n5_ n6_;clear hb hbox hg;have hcz21_0:w19.cell? ⟨gb258,0,none⟩=some (.int .i64 0):=(blk_cell BK258.out 0).trans rfl;have hcz21_1:w19.cell? ⟨gb258,1,none⟩=some (.int .i64 0):=(blk_cell BK258.out 1).trans rfl;have hfz21_0:=blk_frozen BK258.out 0;have hfz21_1:=blk_frozen BK258.out 1))
        go_ret
        exact ⟨zF,zD HB.out GE250.out GE258.out⟩
       ·rw [if_neg c15] at H
        have c15b0:(a0_0==10)=false:=beq_eq_false_iff_ne.mpr c15
        by_cases c22:a0_0=21
        ·rw [if_pos c22] at H
         have c22b0:(a0_0==21)=true:=beq_iff_eq.mpr c22
         clear c22
         replace H:=Option.bind_eq_some_iff.mp H
         obtain ⟨t259,A230,H⟩:=H
         have A23:=aM A230
         clear A230
         by_cases c24:t259=true
         ·subst c24
          have H1:(some 0)=some r:=by rw [if_pos rfl] at H;exact H
          clear H
          have H:=H1
          clear H1
          obtain rfl:=Option.some.inj H
          have hcz25_0:wr.cell? ⟨gb250,0,none⟩=some (.int .i64 a0_0):=(blk_cell BK250.out 0).trans rfl
          have hcz25_6:wr.cell? ⟨gb250,6,none⟩=some (.string a0_6):=(blk_cell BK250.out 6).trans rfl
          go_wp2_with (first | ((with_reducible refine gate_callee (f:=55) rfl ?_);refine goesL_ (some 46) rfl rfl Try.func55 (by kernel_rfl) rfl #[.string a0_6] rfl zA ?_;(with_reducible refine (token_Name.calls a0_6 true _ A23.out).mono ?_);rintro e w26 ⟨rfl,hb⟩;refine ⟨_,rfl,?_⟩;have n0_:=aM (blk_below (g:=gb250) (o:=.cells #[.int .i64 a0_0,.int .i64 a0_1,.int .i64 a0_2,.int .i64 a0_3,.slice A0_4 l0_4.length c0_4,.slice A0_5 l0_5.length c0_5,.string a0_6,.int .i64 a0_7] 39 (0,0)) (zK BK250.out) hb);have n1_:=aM (below_step (zC HB.out GE250.out) hb);clear BK250;clear HB;have BK250:=n0_;have HB:=n1_;clear n0_ n1_;(try clear hb);(try clear hb2);(try clear hk);(try clear hi)))
          go_ret
          exact ⟨zF,zC HB.out GE250.out⟩
         ·replace c24:=Bool.eq_false_iff.mpr c24
          subst c24
          have H1:(some 4)=some r:=by rw [if_neg (show ¬ (false=true) by decide)] at H;exact H
          clear H
          have H:=H1
          clear H1
          obtain rfl:=Option.some.inj H
          have hcz27_0:wr.cell? ⟨gb250,0,none⟩=some (.int .i64 a0_0):=(blk_cell BK250.out 0).trans rfl
          have hcz27_6:wr.cell? ⟨gb250,6,none⟩=some (.string a0_6):=(blk_cell BK250.out 6).trans rfl
          go_wp2_with (first | ((with_reducible refine gate_callee (f:=55) rfl ?_);refine goesL_ (some 46) rfl rfl Try.func55 (by kernel_rfl) rfl #[.string a0_6] rfl zA ?_;(with_reducible refine (token_Name.calls a0_6 false _ A23.out).mono ?_);rintro e w28 ⟨rfl,hb⟩;refine ⟨_,rfl,?_⟩;have n0_:=aM (blk_below (g:=gb250) (o:=.cells #[.int .i64 a0_0,.int .i64 a0_1,.int .i64 a0_2,.int .i64 a0_3,.slice A0_4 l0_4.length c0_4,.slice A0_5 l0_5.length c0_5,.string a0_6,.int .i64 a0_7] 39 (0,0)) (zK BK250.out) hb);have n1_:=aM (below_step (zC HB.out GE250.out) hb);clear BK250;clear HB;have BK250:=n0_;have HB:=n1_;clear n0_ n1_;(try clear hb);(try clear hb2);(try clear hk);(try clear hi)))
          go_ret
          exact ⟨zF,zC HB.out GE250.out⟩
        ·rw [if_neg c22] at H
         have c22b0:(a0_0==21)=false:=beq_eq_false_iff_ne.mpr c22
         by_cases c29:a0_6.toList=([]:List UInt8)
         ·rw [if_pos c29] at H
          have c29b0:(a0_6.toList==([]:List UInt8))=true:=beq_iff_eq.mpr c29
          clear c29
          obtain rfl:=Option.some.inj H
          have hcz30_0:wr.cell? ⟨gb250,0,none⟩=some (.int .i64 a0_0):=(blk_cell BK250.out 0).trans rfl
          have hcz30_6:wr.cell? ⟨gb250,6,none⟩=some (.string a0_6):=(blk_cell BK250.out 6).trans rfl
          go_wp2
          go_ret
          exact ⟨zF,zC HB.out GE250.out⟩
         ·rw [if_neg c29] at H
          have c29b0:(a0_6.toList==([]:List UInt8))=false:=beq_eq_false_iff_ne.mpr c29
          obtain rfl:=Option.some.inj H
          have hcz31_0:wr.cell? ⟨gb250,0,none⟩=some (.int .i64 a0_0):=(blk_cell BK250.out 0).trans rfl
          have hcz31_6:wr.cell? ⟨gb250,6,none⟩=some (.string a0_6):=(blk_cell BK250.out 6).trans rfl
          go_wp2
          go_ret
          exact ⟨zF,zC HB.out GE250.out⟩
end Go.Proofs.Ytkjdblbgmomieaa.PSh
end
