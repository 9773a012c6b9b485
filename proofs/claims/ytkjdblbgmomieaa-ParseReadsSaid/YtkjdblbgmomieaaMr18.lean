import Derived.Test.YtkjdblbgmomieaaMr17
import Derived.Shelf.Strings.OnBuilder
import Derived.Shelf.Strings.BuilderK
import Derived.Test.YtkjdblbgmomieaaProg
import Derived.Test.YtkjdblbgmomieaaMr1
import Derived.Test.YtkjdblbgmomieaaMr8
-- from YtkjdblbgmomieaaHPFunc
section
namespace Go.Proofs.Ytkjdblbgmomieaa.PSh
set_option maxHeartbeats 8000000
set_option maxRecDepth 100000
open Go.RowKit Go.Proofs.YtkjdblbgmomieaaW.PrintWords Go.Proofs.YtkjdblbgmomieaaW.PrintLast Go.Proofs.YtkjdblbgmomieaaW.PrintMore Go.Proofs.Ytkjdblbgmomieaa.Str Go.Proofs.Ytkjdblbgmomieaa.Dig Go.Proofs.Ytkjdblbgmomieaa.DigLaw
set_option linter.unusedVariables false
set_option linter.unusedSimpArgs false
def fOb (x:SF) (v1 v3:Value):Array Value:=#[.string x.f0,v1,.int .i64 x.f2,v3,.int .i64 x.f4]
structure FPAt (g bz bx:Nat) (z:Array Value) (tl ts:List Tk) (x:SF) (v1 v3:Value) (en n:Int) (w0 w w':World):Prop where
  p:PAt g tl ts en n w0 w'
  k:KeepBut w w' g none
  wb:w0.heap.size≤w.heap.size
  gl:g<w.heap.size
  ge:w.heap.size≤bz
  lt:bz<bx
  zero:w'.heap[bz]?=some (.cells z 34 (0,0))
  box:w'.heap[bx]?=some (.cells (fOb x v1 v3) 34 (0,0))
  r1:Kd.R (Kd.int .i64) 3 w' w.heap.size (fun _=>True) v1 x.f1
  r3:Kd.R (Kd.slice 39 k39) 36 w' w.heap.size (fun _=>True) v3 x.f3
section
variable {g bz bx : Nat} {z : Array Value} {tl ts us : List Tk} {x : SF} {v1 v3 : Value} {en n m : Int} {w0 w w1 w2 : World}
theorem FPAt.call (h:FPAt g bz bx z tl ts x v1 v3 en n w0 w w1) (hp:PAt g tl us en m w0 w2) (hk:KeepBut w1 w2 g none):FPAt g bz bx z tl us x v1 v3 en m w0 w w2:=by
  obtain ⟨cells,hG⟩:=h.p.blk
  have h1:=h.gl
  have h2:=h.ge
  have h3:=h.lt
  exact ⟨hp,h.k.trans hk (.inl rfl),h.wb,h.gl,h.ge,h.lt,hk.blk h.zero (by omega) (by simp),hk.blk h.box (by omega) (by simp),row_keep h.r1 hG (by decide) hk,row_keep h.r3 hG (by decide) hk⟩
theorem FPAt.below (h:FPAt g bz bx z tl ts x v1 v3 en n w0 w w1) (hb:Below w1.heap.size w1 w2):FPAt g bz bx z tl ts x v1 v3 en n w0 w w2:=h.call (h.p.below hb) (KeepBut.of_below hb g none)
theorem FPAt.put (h:FPAt g bz bx z tl ts x v1 v3 en n w0 w w1) (x2:SF) (j:Nat) (u:Value) (hc:(fOb x v1 v3).setIfInBounds j u=fOb x2 v1 v3) (h4:x2.f1=x.f1) (h5:x2.f3=x.f3):FPAt g bz bx z tl ts x2 v1 v3 en n w0 w (w1.setCell ⟨bx,j,none⟩ u):=by
  have h1:=h.gl
  have h2:=h.ge
  have h3:=h.lt
  have h6:=h.wb
  exact ⟨h.p.far (by omega) (by omega) j u,keep_far h.k (by show _≤bx;omega) u,h.wb,h.gl,h.ge,h.lt,(Below.heap_setCell w1 ⟨bx,j,none⟩ u _ (by show bz≠bx;omega)).trans h.zero,blk_put h.box j u hc,by rw [h4];exact Kd.R_set h.r1 h.box (by decide) j u,by rw [h5];exact Kd.R_set h.r3 h.box (by decide) j u⟩
theorem FPAt.setz (h:FPAt g bz bx z tl ts x v1 v3 en n w0 w w1) (j:Nat) (u:Value):FPAt g bz bx (z.setIfInBounds j u) tl ts x v1 v3 en n w0 w (w1.setCell ⟨bz,j,none⟩ u):=by
  have h1:=h.gl
  have h2:=h.ge
  have h3:=h.lt
  have h6:=h.wb
  exact ⟨h.p.far (by omega) (by omega) j u,keep_far h.k (by show _≤bz;omega) u,h.wb,h.gl,h.ge,h.lt,blk_put h.zero j u rfl,(Below.heap_setCell w1 ⟨bz,j,none⟩ u _ (by show bx≠bz;omega)).trans h.box,Kd.R_set h.r1 h.zero (by decide) j u,Kd.R_set h.r3 h.zero (by decide) j u⟩
theorem FPAt.app {α:Type} {dk:Kd α} {e:Nat} {acc:List α} {v:Value} (h:FPAt g bz bx z tl ts x v1 v3 en n w0 w w1) (hv:dk.R e w1 w.heap.size (fun _=>True) v acc) (he:e≠82∧e≠34) (hg:w1.grownBy w2 v.ownBlock) (x2:SF) (j:Nat) {u1 u3:Value} (u:Value) (hc:(fOb x v1 v3).setIfInBounds j u=fOb x2 u1 u3)
    (hr1:Kd.R (Kd.int .i64) 3 w2 w.heap.size (fun _=>True) u1 x2.f1) (hr3:Kd.R (Kd.slice 39 k39) 36 w2 w.heap.size (fun _=>True) u3 x2.f3):FPAt g bz bx z tl ts x2 u1 u3 en n w0 w (w2.setCell ⟨bx,j,none⟩ u):=by
  have h1:=h.gl
  have h2:=h.ge
  have h3:=h.lt
  have h6:=h.wb
  obtain ⟨cells,hG⟩:=h.p.blk
  have hz:=(hg.block bz (blk_lt h.zero) (Kd.R_ne hv h.zero he.2)).trans h.zero
  have hx:=(hg.block bx (blk_lt h.box) (Kd.R_ne hv h.box he.2)).trans h.box
  have hkk:KeepBut w w2 g none:=h.k.trans (KeepBut.of_grown hg g) ((Kd.R_base2 hv).imp (fun e=>e) (fun e=>e))
  exact ⟨(h.p.grown hg (Kd.R_ne hv hG he.1) (fun k e=>Nat.le_trans h.wb (Kd.R_base hv k e))).far (by omega) (by omega) j u,keep_far hkk (by show _≤bx;omega) _,h.wb,h.gl,h.ge,h.lt,(Below.heap_setCell w2 ⟨bx,j,none⟩ u _ (by show bz≠bx;omega)).trans hz,blk_put hx j u hc,Kd.R_set hr1 hx (by decide) j u,Kd.R_set hr3 hx (by decide) j u⟩
theorem FPAt.at1 (h:FPAt g bz bx z tl ts x v1 v3 en n w0 w w1) (j:Nat):w1.cell? ⟨bx,j,none⟩=(fOb x v1 v3)[j]?:=blk_cell h.box j
end
theorem types_calls (s:ByteArray) (b:Bool) (w:World):Calls Try.prog 80 #[.string s,.bool b] w fun e w'=>e=.returned (.int .i64 (typeC s b))∧Below w.heap.size w w':=
  (parse_types.calls s b (typeC s b) w (by unfold parse_types.f typeC;split;rfl;split;rfl;split;cases b<;>rfl;rfl)).mono fun e w' h=>⟨h.1,h.2.below⟩
theorem type_ne {vs:List Tk} {b:Bool} (h:¬ typeC (pk0 vs) b<0):vs≠[]:=fun e=>by
  rw [e] at h
  have e2:(pk0 []).toList=[]:=ByteArray.toList_empty
  unfold typeC at h
  rw [e2] at h
  cases b<;>exact h (by decide)
theorem func_calls (g:Nat) (tl ts:List Tk) (en n:Int) (hn:0≤n∧n≤4096) (w0 w:World) (h:PAt g tl ts en n w0 w):
    Calls Try.prog 59 #[.pointer (some ⟨g,0,none⟩)] w (PEnd (funcP en n ts) g w0 w fun r e w'=>(∃ v1 v3,e=.returned (.agg (fOb r.1 v1 v3))∧Kd.R (Kd.int .i64) 3 w' w.heap.size (fun _=>True) v1 r.1.f1∧Kd.R (Kd.slice 39 k39) 36 w' w.heap.size (fun _=>True) v3 r.1.f3)∧PAt g tl r.2.2 en r.2.1 w0 w'):=by
  have hu34:=Try.underlying34
  obtain ⟨r,hr⟩:∃ r,funcP en n ts=r:=⟨_,rfl⟩
  rw [hr]
  unfold funcP headP at hr
  have HR:=aM hr
  have HP:=aM h
  clear hr h
  go_enter Try.func59,Try.ntmps59
  have hz:=blk_new w (.cells #[.string ⟨#[]⟩,.slice none 0 0,.int .i64 0,.slice none 0 0,.int .i64 0] 34)
  have hb0:=below_alloc (Below.refl w.heap.size w) (.cells #[.string ⟨#[]⟩,.slice none 0 0,.int .i64 0,.slice none 0 0,.int .i64 0] 34)
  have HP1:=aM (HP.out.below hb0)
  have HK1:=aM (KeepBut.of_below hb0 g none)
  clear hb0
  go_upto_region 1 with (fail)
  generalize w.alloc (.cells #[.string ⟨#[]⟩,.slice none 0 0,.int .i64 0,.slice none 0 0,.int .i64 0] 34)=W0 at hz HP1 HK1 ⊢
  have HZ0:=aM hz
  clear hz
  go_wp2_with fail
  refine (here_calls HP1.out).mono ?_
  rintro e w1 ⟨rfl,hp_,hk_⟩
  have hz:=hk_.blk HZ0.out (by have:=HP.out.lt;omega) (by simp)
  have hx:=blk_new w1 (.cells (fOb (⟨noB,[],0,[],hereP en ts⟩:SF) (.slice none 0 0) (.slice none 0 0)) 34)
  have hb1:=below_alloc (Below.refl w1.heap.size w1) (.cells (fOb (⟨noB,[],0,[],hereP en ts⟩:SF) (.slice none 0 0) (.slice none 0 0)) 34)
  have HX:=aM (show FPAt g w.heap.size w1.heap.size #[.string ⟨#[]⟩,.slice none 0 0,.int .i64 0,.slice none 0 0,.int .i64 0] tl ts (⟨noB,[],0,[],hereP en ts⟩:SF) (.slice none 0 0) (.slice none 0 0) en n w0 w (w1.alloc (.cells (fOb (⟨noB,[],0,[],hereP en ts⟩:SF) (.slice none 0 0) (.slice none 0 0)) 34)) from
    ⟨hp_.below hb1,HK1.out.trans (hk_.trans (KeepBut.of_below hb1 g none) (.inl rfl)) (.inl rfl),HP.out.b.size,HP.out.lt,Nat.le_refl _,blk_lt hz,blk_below hz hb1,hx,Kd.R_nil _ _ _ _ _,Kd.R_nil _ _ _ _ _⟩)
  clear hp_ hk_ hz hx hb1 HP1 HK1 HZ0
  simp only [fOb,noB] at HX
  go_upto_region 2 with (fail)
  generalize w1.alloc (.cells _ 34)=W1 at HX ⊢
  generalize w1.heap.size=bx_ at HX ⊢
  obtain ⟨at0,hat⟩:∃ a,hereP en ts=a:=⟨_,rfl⟩
  have hr:=HR.out
  rw [hat] at HX hr
  have HR:=aM hr
  have HAT:=aM hat
  clear hr hat
  go_wp2_with fail
  refine ((show Calls _ _ _ _ (PEnd (wantP en [102,117,110,99] ts) g w0 _ _) from by have:=want_calls (⟨#[102,117,110,99]⟩:ByteArray) (by rw [show (⟨#[102,117,110,99]⟩:ByteArray).toList=[102,117,110,99] from mk_toList [102,117,110,99]];simp) HX.out.p;rwa [show (⟨#[102,117,110,99]⟩:ByteArray).toList=[102,117,110,99] from mk_toList [102,117,110,99]] at this)).mono ?_
  rintro e w1 ⟨⟨hb_,hk_⟩,h_⟩
  have hr:=HR.out
  clear HR
  rcases hv:wantP en [102,117,110,99] ts with q | t1
  · rw [hv] at h_ hr
    obtain rfl:=h_
    (try simp only [bind_err] at hr)
    obtain rfl:=hr
    have HZ:=aM (And.intro hb_ (HX.out.k.trans hk_ (.inl rfl)))
    clear hb_ hk_ hv
    go_wp2
    exact ⟨rfl,HZ.out,rfl⟩
  have HV:=aM hv
  rw [hv] at h_ hr
  obtain ⟨rfl,hp_⟩:=h_
  (try simp only [bind_ok] at hr)
  have HX1:=aM (HX.out.call hp_ hk_)
  have HR:=aM hr
  clear hb_ hk_ hp_ hr hv
  go_wp2_with fail
  refine (name_calls HX1.out.p).mono ?_
  rintro e w2 ⟨⟨hb_,hk_⟩,h_⟩
  have hr:=HR.out
  clear HR
  rcases hv:nameP en t1 with q | ⟨m0,t2⟩
  · rw [hv] at h_ hr
    obtain rfl:=h_
    (try simp only [bind_err] at hr)
    obtain rfl:=hr
    have HZ:=aM (And.intro hb_ (HX1.out.k.trans hk_ (.inl rfl)))
    clear hb_ hk_ hv
    go_wp2
    exact ⟨rfl,HZ.out,rfl⟩
  have HV:=aM hv
  rw [hv] at h_ hr
  obtain ⟨rfl,hp_⟩:=h_
  (try simp only [bind_ok] at hr)
  have HX2:=aM (HX1.out.call hp_ hk_)
  have HR:=aM hr
  clear hb_ hk_ hp_ hr hv
  have cc:=HX2.out.at1 0
  have ff:=blk_frozen HX2.out.box 0
  simp only [fOb] at cc
  have HX3:=aM (HX2.out.put (⟨m0,[],0,[],at0⟩:SF) 0 (.string m0) rfl rfl rfl)
  go_upto_region 4 with (fail)
  generalize w2.setCell ⟨bx_,0,none⟩ (.string m0)=W3 at HX3 ⊢
  clear cc ff HX HX1 HX2
  go_wp2_with fail
  refine ((show Calls _ _ _ _ (PEnd (wantP en [40] t2) g w0 _ _) from by have:=want_calls (⟨#[40]⟩:ByteArray) (by rw [show (⟨#[40]⟩:ByteArray).toList=[40] from mk_toList [40]];simp) HX3.out.p;rwa [show (⟨#[40]⟩:ByteArray).toList=[40] from mk_toList [40]] at this)).mono ?_
  rintro e w4 ⟨⟨hb_,hk_⟩,h_⟩
  have hr:=HR.out
  clear HR
  rcases hv:wantP en [40] t2 with q | t3
  · rw [hv] at h_ hr
    obtain rfl:=h_
    (try simp only [bind_err] at hr)
    obtain rfl:=hr
    have HZ:=aM (And.intro hb_ (HX3.out.k.trans hk_ (.inl rfl)))
    clear hb_ hk_ hv
    go_wp2
    exact ⟨rfl,HZ.out,rfl⟩
  have HV:=aM hv
  rw [hv] at h_ hr
  obtain ⟨rfl,hp_⟩:=h_
  (try simp only [bind_ok] at hr)
  have HX4:=aM (HX3.out.call hp_ hk_)
  have HR:=aM hr
  clear hb_ hk_ hp_ hr hv
  obtain ⟨Rp,hR⟩:∃ Rp,paramsP en (t3.length+1) [] t3=Rp:=⟨_,rfl⟩
  have hr:=HR.out
  rw [hR] at hr
  have HR:=aM hr
  have HF:=aM hR
  clear hr hR HX3
  go_wp2
  (try simp only [Act.put,qA,qB,qC])
  go_loopg [] (t3.length+1) (fun kq w'=>∃ (ps:List Int) (vs:List Tk) (v1:Value),Aside0 (paramsP en kq ps vs=Rp)∧Aside0 (vs.length<kq∧ps.length≤8)∧Aside0 (FPAt g w.heap.size bx_ #[.string ⟨#[]⟩,.slice none 0 0,.int .i64 0,.slice none 0 0,.int .i64 0] tl vs (⟨m0,ps,0,[],at0⟩:SF) v1 (.slice none 0 0) en n w0 w w'))
  case atStart=>exact ⟨[],t3,_,HF,⟨Nat.lt_succ_self _,by simp⟩,HX4⟩
  case round=>
    clear HX4 HF
    obtain ⟨ps,vs,v1,HF,HLN,HX⟩:=hrel
    obtain ⟨A1,cP,e1_⟩:=Kd.R_slice HX.out.r1
    subst e1_
    cases gk with
    | zero=>exact absurd HLN.out.1 (by omega)
    | succ k1=>
      have hl:=HF.out
      simp only [paramsP] at hl
      have HL:=aM hl
      clear hl HF
      go_wp2_with fail
      refine (peek0_calls HX.out.p).mono ?_
      rintro e w5 ⟨rfl,hp_,hk_⟩
      have HX1:=aM (HX.out.call hp_ hk_)
      clear hp_ hk_
      by_cases z:(pk0 vs).toList=([41]:List UInt8)
      rotate_left
      · have hl:=HL.out
        rw [if_neg z] at hl
        have z1:((pk0 vs).toList !=([41]:List UInt8))=true:=bne_iff_ne.mpr z
        have z2:(!((pk0 vs).toList==([41]:List UInt8)))=true:=z1
        have HL:=aM hl
        clear z hl HX
        go_wp2_with fail
        refine (peek0_calls HX1.out.p).mono ?_
        rintro e w6 ⟨rfl,hp_,hk_⟩
        have HX2:=aM (HX1.out.call hp_ hk_)
        clear hp_ hk_
        go_wp2_with fail
        refine (types_calls (pk0 vs) false _).mono ?_
        rintro e w7 ⟨rfl,hb_⟩
        have HX3:=aM (HX2.out.below hb_)
        have hl:=HL.out
        clear hb_ HX1 HX2 z1 z2
        by_cases t:typeC (pk0 vs) false<0
        · rw [if_pos t] at hl
          subst hl
          have hr:=HR.out
          simp only [failP,bind_err] at hr
          obtain rfl:=hr
          have t1:decide (typeC (pk0 vs) false<0)=true:=decide_eq_true t
          clear t
          go_wp2_with fail
          refine (fail_calls (c:=9) HX3.out.p).mono ?_
          rintro e w9 ⟨rfl,hb_,hk_⟩
          have HZ:=aM (And.intro hb_ (HX3.out.k.trans hk_ (.inl rfl)))
          clear hb_ hk_
          go_wp2
          exact ⟨rfl,HZ.out,rfl⟩
        rw [if_neg t] at hl
        have HNE:=aM (type_ne t)
        have t1:decide (typeC (pk0 vs) false<0)=false:=decide_eq_false t
        have cc:=HX3.out.at1 1
        simp only [fOb] at cc
        by_cases u:ps.length≥8
        · rw [if_pos u] at hl
          subst hl
          have hr:=HR.out
          simp only [failP,bind_err] at hr
          obtain rfl:=hr
          have u1:decide (8≤(ps.length:Int))=true:=decide_eq_true (by omega)
          clear u t
          go_wp2_with fail
          refine (fail_calls (c:=6) HX3.out.p).mono ?_
          rintro e w9 ⟨rfl,hb_,hk_⟩
          have HZ:=aM (And.intro hb_ (HX3.out.k.trans hk_ (.inl rfl)))
          clear hb_ hk_
          go_wp2
          exact ⟨rfl,HZ.out,rfl⟩
        rw [if_neg u] at hl
        have HL:=aM hl
        have HU:=aM u
        have u1:decide (8≤(ps.length:Int))=false:=decide_eq_false (by omega)
        clear u t hl
        go_upto_region 12 with (first | ((with_reducible refine gate_builtin (b:=.append) (xs:=#[.tmp 34,.tmp 36]) rfl ?_);at_builtin;refine Kd.R_append (Kd.int .i64) w.heap.size rfl (.tmp 34) (.tmp 36) 31 3 (.int .i64 0) 8 rfl Try.underlying31 (by kernel_rfl) rfl (by decide) (by omega) (.slice A1 ps.length cP) ps (typeC (pk0 vs) false) [.int .i64 (typeC (pk0 vs) false)] (fun _=>True) (fun k=>True∧some k≠(Value.slice A1 ps.length cP).ownBlock) rfl rfl rfl (fun k hk=>⟨trivial,hk.2⟩) (fun k hk=>trivial) HX3.out.r1 (Below.refl _ _) (keep_size HX3.out.k) (by have:=HLN.out;omega) ?_;intro v1 w4_ hr4 hb4 hg4 hv4;obtain ⟨A6,c6,e6⟩:=Kd.R_slice hr4;rw [List.length_append,List.length_singleton] at e6;subst e6;have HX9:=aM (HX3.out.app HX3.out.r1 (by decide) hg4 (⟨m0,ps++[typeC (pk0 vs) false],0,[],at0⟩:SF) 1 _ rfl hr4 (Kd.R_nil _ _ _ _ _));have B4:=(hg4.block bx_ (blk_lt HX3.out.box) (Kd.R_ne HX3.out.r1 HX3.out.box (by decide))).trans HX3.out.box;have c4_:=blk_cell B4 1;have f4_:=blk_frozen B4 1;clear hr4 hb4 hg4 hv4 B4))
        clear c4_ f4_ cc HX3 t1 u1
        generalize w4_.setCell ⟨bx_,1,none⟩ (.slice A6 (ps.length+1) c6)=W8 at HX9 ⊢
        obtain ⟨a_,hc1,hf1,hst_⟩:=HX9.out.p.where_
        have HXa:=aM (HX9.out.call (hst_ HNE.out) ((KeepBut.refl _ g none).set_ 1 _))
        clear hst_
        go_wp2_with fail
        go_roundg k1
        case measure=>omega
        case rel=>exact ⟨_,vs.tail,_,HL,⟨by have:=take_len HNE.out;have:=HLN.out;omega,by have:=HU.out;simp;omega⟩,HXa⟩
      have hl:=HL.out
      rw [if_pos z] at hl
      have hr:=HR.out
      rw [← hl] at hr
      simp only [bind_ok] at hr
      have z1:((pk0 vs).toList !=([41]:List UInt8))=false:=bne_eq_false_iff_eq.mpr z
      have z2:(!((pk0 vs).toList==([41]:List UInt8)))=false:=z1
      have HR:=aM hr
      clear z hl hr HL
      go_wp2_with fail
      refine ((show Calls _ _ _ _ (PEnd (wantP en [41] vs) g w0 _ _) from by have:=want_calls (⟨#[41]⟩:ByteArray) (by rw [show (⟨#[41]⟩:ByteArray).toList=[41] from mk_toList [41]];simp) HX1.out.p;rwa [show (⟨#[41]⟩:ByteArray).toList=[41] from mk_toList [41]] at this)).mono ?_
      rintro e w6 ⟨⟨hb_,hk_⟩,h_⟩
      have hr:=HR.out
      clear HR
      rcases hv:wantP en [41] vs with q | us
      · rw [hv] at h_ hr
        obtain rfl:=h_
        (try simp only [bind_err] at hr)
        obtain rfl:=hr
        have HZ:=aM (And.intro hb_ (HX1.out.k.trans hk_ (.inl rfl)))
        clear hb_ hk_ hv
        go_wp2
        exact ⟨rfl,HZ.out,rfl⟩
      have HV:=aM hv
      rw [hv] at h_ hr
      obtain ⟨rfl,hp_⟩:=h_
      (try simp only [bind_ok] at hr)
      have HX2:=aM (HX1.out.call hp_ hk_)
      have HR:=aM hr
      clear hb_ hk_ hp_ hr hv
      go_wp2_with fail
      refine (peek0_calls HX2.out.p).mono ?_
      rintro e w7 ⟨rfl,hp_,hk_⟩
      have HX3:=aM (HX2.out.call hp_ hk_)
      clear hp_ hk_
      go_wp2_with fail
      refine (types_calls (pk0 us) true _).mono ?_
      rintro e w8 ⟨rfl,hb_⟩
      have HX4:=aM (HX3.out.below hb_)
      have cc:=HX4.out.at1 2
      have ff:=blk_frozen HX4.out.box 2
      simp only [fOb] at cc
      have HX5:=aM (HX4.out.put (⟨m0,ps,typeC (pk0 us) true,[],at0⟩:SF) 2 (.int .i64 (typeC (pk0 us) true)) rfl rfl rfl)
      go_upto_region 15 with (fail)
      generalize w8.setCell ⟨bx_,2,none⟩ (.int .i64 (typeC (pk0 us) true))=W7 at HX5 ⊢
      clear cc ff hb_ HX HX1 HX2 HX3 HX4 z1 z2
      have cc:=HX5.out.at1 2
      simp only [fOb] at cc
      have hr:=HR.out
      by_cases t:typeC (pk0 us) true<0
      · rw [if_pos t] at hr
        simp only [failP,bind_err] at hr
        obtain rfl:=hr
        have t1:decide (typeC (pk0 us) true<0)=true:=decide_eq_true t
        clear t
        go_wp2_with fail
        refine (fail_calls (c:=9) HX5.out.p).mono ?_
        rintro e w9 ⟨rfl,hb_,hk_⟩
        have HZ:=aM (And.intro hb_ (HX5.out.k.trans hk_ (.inl rfl)))
        clear hb_ hk_
        go_wp2
        exact ⟨rfl,HZ.out,rfl⟩
      rw [if_neg t] at hr
      have HNE:=aM (type_ne t)
      have t1:decide (typeC (pk0 us) true<0)=false:=decide_eq_false t
      have HR:=aM hr
      clear t hr
      go_upto_region 17 with (fail)
      clear cc t1
      obtain ⟨a_,hc1,hf1,hst_⟩:=HX5.out.p.where_
      have HX6:=aM (HX5.out.call (hst_ HNE.out) ((KeepBut.refl _ g none).set_ 1 _))
      clear hst_
      go_wp2_with fail
      refine ((show Calls _ _ _ _ (PEnd (wantP en [123] us.tail) g w0 _ _) from by have:=want_calls (⟨#[123]⟩:ByteArray) (by rw [show (⟨#[123]⟩:ByteArray).toList=[123] from mk_toList [123]];simp) HX6.out.p;rwa [show (⟨#[123]⟩:ByteArray).toList=[123] from mk_toList [123]] at this)).mono ?_
      rintro e w9 ⟨⟨hb_,hk_⟩,h_⟩
      have hr:=HR.out
      clear HR
      rcases hv:wantP en [123] us.tail with q | u1
      · rw [hv] at h_ hr
        obtain rfl:=h_
        (try simp only [bind_err] at hr)
        obtain rfl:=hr
        have HZ:=aM (And.intro hb_ (HX6.out.k.trans hk_ (.inl rfl)))
        clear hb_ hk_ hv
        go_wp2
        exact ⟨rfl,HZ.out,rfl⟩
      have HV:=aM hv
      rw [hv] at h_ hr
      obtain ⟨rfl,hp_⟩:=h_
      (try simp only [bind_ok] at hr)
      have HX7:=aM (HX6.out.call hp_ hk_)
      have HR:=aM hr
      clear hb_ hk_ hp_ hr hv
      obtain ⟨Rb,hR⟩:∃ Rb,blocksP en (u1.length+1) [] n u1=Rb:=⟨_,rfl⟩
      have hr:=HR.out
      rw [hR] at hr
      have HR:=aM hr
      have HF:=aM hR
      generalize typeC (pk0 us) true=ty at HX7 HR
      clear hr hR HX5 HX6 hc1 hf1
      go_wp2
      (try simp only [Act.put,qA,qB,qC])
      go_loopg [] (u1.length+1) (fun kq w'=>∃ (bl:List (List SI)) (vs:List Tk) (m:Int) (v3:Value),Aside0 (blocksP en kq bl m vs=Rb)∧Aside0 (vs.length<kq∧bl.length+vs.length≤65536∧0≤m∧m≤4096)∧Aside0 (FPAt g w.heap.size bx_ #[.string ⟨#[]⟩,.slice none 0 0,.int .i64 0,.slice none 0 0,.int .i64 0] tl vs (⟨m0,ps,ty,bl,at0⟩:SF) (.slice A1 ps.length cP) v3 en m w0 w w'))
      case atStart=>exact ⟨[],u1,n,_,HF,⟨Nat.lt_succ_self _,by have:=HX7.out.p.len;simpa using this,hn⟩,HX7⟩
      case round=>
        clear HX7 HF
        obtain ⟨bl,vs,m,v3,HF,HLN,HX⟩:=hrel
        obtain ⟨A3,cB,e3_⟩:=Kd.R_slice HX.out.r3
        subst e3_
        cases gk with
        | zero=>exact absurd HLN.out.1 (by omega)
        | succ k1=>
          have hl:=HF.out
          simp only [blocksP] at hl
          have HL:=aM hl
          clear hl HF
          go_wp2_with fail
          refine (peek0_calls HX.out.p).mono ?_
          rintro e w5 ⟨rfl,hp_,hk_⟩
          have HX1:=aM (HX.out.call hp_ hk_)
          clear hp_ hk_
          by_cases z:(pk0 vs).toList=([125]:List UInt8)
          · have hl:=HL.out
            rw [if_pos z] at hl
            have hr:=HR.out
            rw [← hl] at hr
            simp only [bind_ok] at hr
            have z1:((pk0 vs).toList !=([125]:List UInt8))=false:=bne_eq_false_iff_eq.mpr z
            have z2:(!((pk0 vs).toList==([125]:List UInt8)))=false:=z1
            have HR:=aM hr
            clear z hl hr HL
            go_wp2_with fail
            refine ((show Calls _ _ _ _ (PEnd (wantP en [125] vs) g w0 _ _) from by have:=want_calls (⟨#[125]⟩:ByteArray) (by rw [show (⟨#[125]⟩:ByteArray).toList=[125] from mk_toList [125]];simp) HX1.out.p;rwa [show (⟨#[125]⟩:ByteArray).toList=[125] from mk_toList [125]] at this)).mono ?_
            rintro e w9 ⟨⟨hb_,hk_⟩,h_⟩
            have hr:=HR.out
            clear HR
            rcases hv:wantP en [125] vs with q | us9
            · rw [hv] at h_ hr
              obtain rfl:=h_
              (try simp only [bind_err] at hr)
              obtain rfl:=hr
              have HZ:=aM (And.intro hb_ (HX1.out.k.trans hk_ (.inl rfl)))
              clear hb_ hk_ hv
              go_wp2
              exact ⟨rfl,HZ.out,rfl⟩
            have HV:=aM hv
            rw [hv] at h_ hr
            obtain ⟨rfl,hp_⟩:=h_
            (try simp only [bind_ok] at hr)
            have HX9:=aM (HX1.out.call hp_ hk_)
            have HR:=aM hr
            clear hb_ hk_ hp_ hr hv
            have hr:=HR.out
            obtain rfl:=hr
            clear HR
            have c_0:=HX9.out.at1 0
            have f_0:=blk_frozen HX9.out.box 0
            have d_0:=blk_cell HX9.out.zero 0
            have e_0:=blk_frozen HX9.out.zero 0
            have c_1:=HX9.out.at1 1
            have f_1:=blk_frozen HX9.out.box 1
            have d_1:=blk_cell HX9.out.zero 1
            have e_1:=blk_frozen HX9.out.zero 1
            have c_2:=HX9.out.at1 2
            have f_2:=blk_frozen HX9.out.box 2
            have d_2:=blk_cell HX9.out.zero 2
            have e_2:=blk_frozen HX9.out.zero 2
            have c_3:=HX9.out.at1 3
            have f_3:=blk_frozen HX9.out.box 3
            have d_3:=blk_cell HX9.out.zero 3
            have e_3:=blk_frozen HX9.out.zero 3
            have c_4:=HX9.out.at1 4
            have f_4:=blk_frozen HX9.out.box 4
            have d_4:=blk_cell HX9.out.zero 4
            have e_4:=blk_frozen HX9.out.zero 4
            have HF:=aM (((((HX9.out.setz 0 (.string m0)).setz 1 (.slice A1 ps.length cP)).setz 2 (.int .i64 ty)).setz 3 (.slice A3 bl.length cB)).setz 4 (.int .i64 at0))
            have hne:w.heap.size≠bx_:=by have:=HX9.out.lt;omega
            have hne':bx_≠w.heap.size:=by have:=HX9.out.lt;omega
            simp only [fOb] at c_0 c_1 c_2 c_3 c_4
            clear HX HX1 HX9 z1 z2
            go_wp2
            (try simp only [Exit.inBlock,Exit.then])
            refine bodyPost_ret (results_cell_row rfl _ _ w.heap.size 34 #[.string m0,.slice A1 ps.length cP,.int .i64 ty,.slice A3 bl.length cB,.int .i64 at0] (0,0) _ rfl HF.out.zero Try.underlying34 rfl (by kernel_rfl)) rfl ?_
            exact ⟨⟨HF.out.p.b,HF.out.k⟩,⟨_,_,by rw [fOb],HF.out.r1,HF.out.r3⟩,HF.out.p⟩
          have hl:=HL.out
          rw [if_neg z] at hl
          have z1:((pk0 vs).toList !=([125]:List UInt8))=true:=bne_iff_ne.mpr z
          have z2:(!((pk0 vs).toList==([125]:List UInt8)))=true:=z1
          have HL:=aM hl
          clear z hl HX
          go_upto_region 20 with (fail)
          have HXd:=aM (HX1.out.below (below_drew1 (Below.refl _ _)))
          clear HX1 z1 z2
          refine start_ (n:=11) (S:=fun w'=>w'.cell? ⟨bx_,3,none⟩=some (.slice A3 bl.length cB)) (ds:=[10]) #[false,false,false,false,false,false,false,false,false,false,false] (by kernel_rfl) rfl rfl ((HXd.out.at1 3)) (fun hHeld=>?_)
          refine pure_ (i:=0) (N:=some 69) (v:=?_) (a':=?_) #[true,false,false,false,false,false,false,false,false,false,false] rfl rfl (by kernel_rfl) (fun _ _ _ h=>h) (Or.inl ⟨by rfl,?_⟩) ?_ ?_
          rotate_left
          · intro w'
            go_simp
            with_reducible rfl
          rotate_left
          · simp only [Act.put,qA,qB,qC,i64_w,i32_w]
            rfl
          refine pure_ (i:=2) (N:=some 71) (v:=?_) (a':=?_) #[true,false,true,false,false,false,false,false,false,false,false] rfl rfl (by kernel_rfl) (fun _ _ _ h=>h) (Or.inl ⟨by rfl,?_⟩) ?_ ?_
          rotate_left
          · intro w'
            go_simp
            with_reducible rfl
          rotate_left
          · simp only [Act.put,qA,qB,qC,i64_w,i32_w]
            rfl
          refine pure_ (i:=3) (N:=some 72) (v:=?_) (a':=?_) #[true,false,true,true,false,false,false,false,false,false,false] rfl rfl (by kernel_rfl) (fun _ _ _ h=>h) (Or.inl ⟨by rfl,?_⟩) ?_ ?_
          rotate_left
          · intro w'
            go_simp
            with_reducible rfl
          rotate_left
          · simp only [Act.put,qA,qB,qC,i64_w,i32_w]
            rfl
          refine take_ (i:=1) (N:=some 70) (v:=?_) (a':=?_) #[true,true,true,true,false,false,false,false,false,false,false] rfl rfl (by kernel_rfl) (fun _ _ _ h=>h) (Or.inl ⟨by rfl,?_⟩) hHeld ?_ ?_
          rotate_left
          · intro w' s0
            go_simp
            with_reducible rfl
          rotate_left
          · simp only [Act.put,qA,qB,qC,i64_w,i32_w]
            rfl
          refine take_ (i:=4) (N:=some 73) (v:=?_) (a':=?_) #[true,true,true,true,true,false,false,false,false,false,false] rfl rfl (by kernel_rfl) (fun _ _ _ h=>h) (Or.inl ⟨by rfl,?_⟩) hHeld ?_ ?_
          rotate_left
          · intro w' s0
            go_simp
            with_reducible rfl
          rotate_left
          · simp only [Act.put,qA,qB,qC,i64_w,i32_w]
            rfl
          refine pure_ (i:=5) (N:=some 74) (v:=?_) (a':=?_) #[true,true,true,true,true,true,false,false,false,false,false] rfl rfl (by kernel_rfl) (fun _ _ _ h=>h) (Or.inl ⟨by rfl,?_⟩) ?_ ?_
          rotate_left
          · intro w'
            go_simp
            with_reducible rfl
          rotate_left
          · simp only [Act.put,qA,qB,qC,i64_w,i32_w]
            rfl
          refine one_ (i:=6) (N:=some 75) #[true,true,true,true,true,true,true,false,false,false,false] rfl rfl (by kernel_rfl) (by decide) (fun K hK=>?_)
          refine goesP_ Try.func81 (by kernel_rfl) rfl #[.pointer (some ⟨g,0,none⟩),.int .i64 (bl.length:Int)] (by rfl) rfl rfl (by simp only [List.map_toArray,List.map_cons,List.map_nil];rfl) ?_
          with_reducible refine (block_calls g (bl.length:Int) (by omega) tl vs en m (by have:=HLN.out;omega) w0 _ HXd.out.p).mono ?_
          rintro e w3_ ⟨⟨hb_,hk_⟩,h_⟩
          have hl:=HL.out
          rcases hv:blockP en (bl.length:Int) m vs with q | ⟨b0,m2,vs2⟩
          · rw [hv] at h_ hl
            obtain rfl:=h_
            simp only [bind_err] at hl
            subst hl
            have hr:=HR.out
            simp only [bind_err] at hr
            obtain rfl:=hr
            have HZ:=aM (And.intro hb_ (HXd.out.k.trans hk_ (.inl rfl)))
            clear hb_ hk_ hv
            refine Or.inr ⟨_,rfl,?_⟩
            (try go_wp2)
            (try simp only [Exit.inBlock,Exit.then])
            exact ⟨rfl,HZ.out,rfl⟩
          have HV_:=aM (show vs2.length<vs.length∧0≤m2∧m2≤4096 from blockP_len hv (by have:=HLN.out;omega) (by have:=HLN.out;omega))
          rw [hv] at h_ hl
          obtain ⟨⟨v5,rfl,hrb⟩,hp_⟩:=h_
          obtain ⟨Ab,cb,rfl⟩:=Kd.R_slice hrb
          simp only [bind_ok] at hl
          have HL2:=aM hl
          have HX2:=aM (HXd.out.call hp_ hk_)
          have HRB:=aM (Kd.R_lower hrb (keep_size HXd.out.k))
          clear hb_ hk_ hp_ hl hv hrb
          refine Or.inl ⟨_,rfl,?_⟩
          refine hK.out _ _ ((HX2.out.at1 3)) (fun hHeld=>?_)
          clear hK K
          refine norm_ (a':=?_) ?_ ?_
          rotate_left
          · show Act.put _ (some 75) _=_
            simp only [Act.put,qA,qB,qC,i64_w,i32_w]
            rfl
          refine one_ (i:=7) (N:=some 76) #[true,true,true,true,true,true,true,true,false,false,false] rfl rfl (by kernel_rfl) (by decide) (fun K hK=>?_)
          refine value_ (w1:=?_) (v:=?_) (by rfl) rfl ?_ ?_
          rotate_left 2
          · go_simp
            constructor
            · rfl
            · rfl
          refine hK.out _ _ ((blk_cell (blk_alloc HX2.out.box (.cells #[.slice Ab b0.length cb] 36)) 3)) (fun hHeld=>?_)
          clear hK K
          refine norm_ (a':=?_) ?_ ?_
          rotate_left
          · show Act.put _ (some 76) _=_
            simp only [Act.put,qA,qB,qC,i64_w,i32_w]
            rfl
          refine one_ (i:=8) (N:=some 77) #[true,true,true,true,true,true,true,true,true,false,false] rfl rfl (by kernel_rfl) (by decide) (fun K hK=>?_)
          refine Kd.R_append_step (Kd.slice 39 k39) (w0:=w3_) w.heap.size (by rfl) (.tmp 70) (.tmp 76) 32 36 (.slice none 0 0) 24 rfl Try.underlying32 (by kernel_rfl) rfl (by decide) (by omega) (.slice A3 bl.length cB) bl b0 [.slice Ab b0.length cb] (fun _=>True) (fun k=>True∧some k≠(Value.slice A3 bl.length cB).ownBlock) rfl (by first | rfl | (simp;rfl)) ⟨_,rfl,Kd.R_apart' HRB.out (Kd.R_typed HX2.out.r3) (by decide)⟩ (fun k hk=>⟨trivial,hk.2⟩) (fun k hk=>trivial) HX2.out.r3 (Below.refl _ _) (keep_size HX2.out.k) (by have:=HLN.out;omega) ?_
          intro v1 w4_ hr4 hb4 hg4 hv4
          obtain ⟨A6,c6,e6⟩:=Kd.R_slice hr4
          rw [List.length_append,List.length_singleton] at e6
          subst e6
          have B4:=aM ((hg4.block bx_ (blk_lt HX2.out.box) (Kd.R_ne HX2.out.r3 HX2.out.box (by decide))).trans HX2.out.box)
          have HX4:=aM (HX2.out.app HX2.out.r3 (by decide) hg4 (⟨m0,ps,ty,bl++[b0],at0⟩:SF) 3 (.slice A6 (bl.length+1) c6) rfl (Kd.R_over' HX2.out.r1 (Kd.R_typed HX2.out.r3) (by decide) hg4) hr4)
          clear hr4 hb4 hg4 hv4
          refine hK.out _ _ ((blk_cell B4.out 3)) (fun hHeld=>?_)
          clear hK K
          refine norm_ (a':=?_) ?_ ?_
          rotate_left
          · show Act.put _ (some 77) _=_
            simp only [Act.put,qA,qB,qC,i64_w,i32_w]
            rfl
          refine pure_ (i:=9) (N:=some 78) (v:=?_) (a':=?_) #[true,true,true,true,true,true,true,true,true,true,false] rfl rfl (by kernel_rfl) (fun _ _ _ h=>h) (Or.inl ⟨by rfl,?_⟩) ?_ ?_
          rotate_left
          · intro w'
            go_simp
            with_reducible rfl
          rotate_left
          · simp only [Act.put,qA,qB,qC,i64_w,i32_w]
            rfl
          refine last_ (i:=10) (N:=none) #[true,true,true,true,true,true,true,true,true,true,true] rfl rfl (by kernel_rfl) (by decide) (fun K hK=>?_)
          have c5_:=blk_cell B4.out 3
          have f5_:=blk_frozen B4.out 3
          simp only [fOb] at c5_
          refine skip_ (w1:=?_) (by rfl) rfl ?_ ?_
          rotate_left
          · go_simp
            rfl
          refine hK.out _ _ ?_
          clear hK K
          refine done_ (by kernel_rfl) ?_
          generalize w4_.setCell ⟨bx_,3,none⟩ (.slice A6 (bl.length+1) c6)=W8 at HX4 ⊢
          clear HX2 B4 HXd
          go_wp2_with fail
          go_roundg k1
          case measure=>omega
          case rel=>exact ⟨bl++[b0],vs2,m2,_,HL2,⟨by have:=HV_.out;have:=HLN.out;omega,by have:=HV_.out;have:=HLN.out;simp;omega,HV_.out.2.1,HV_.out.2.2⟩,HX4⟩
end Go.Proofs.Ytkjdblbgmomieaa.PSh
end
-- from YtkjdblbgmomieaaHStrs
section
namespace Go.Proofs.Ytkjdblbgmomieaa.PSh
open Go.Shelf Go.RowKit Go.Proofs.YtkjdblbgmomieaaW.PrintWords Go.Proofs.Ytkjdblbgmomieaa.Str
set_option linter.unusedVariables false
theorem ad_spot {w:World} {ad:Addr} {u:Value} (h:w.cell? (ad.add 0)=some u):ad=⟨ad.block,ad.off,none⟩∧ad.block<w.heap.size:=by
  have h0:ad.add 0=ad:=by unfold Addr.add;rfl
  rw [h0] at h
  have hb:ad.block<w.heap.size:=World.block_lt_of_cell? w ad h
  refine ⟨?_,hb⟩
  obtain ⟨b,o,s⟩:=ad
  cases s with
  | none=>rfl
  | some s=>
    exfalso
    unfold World.cell? at h
    split at h
    · simp at h
    · cases h
end Go.Proofs.Ytkjdblbgmomieaa.PSh
end
-- from YtkjdblbgmomieaaHPText
section
namespace Go.Proofs.Ytkjdblbgmomieaa.PSh
set_option maxHeartbeats 8000000
set_option maxRecDepth 100000
open Go.RowKit Go.Proofs.YtkjdblbgmomieaaW.PrintWords Go.Proofs.YtkjdblbgmomieaaW.PrintLast Go.Proofs.YtkjdblbgmomieaaW.PrintMore Go.Proofs.Ytkjdblbgmomieaa.Str Go.Proofs.Ytkjdblbgmomieaa.Dig Go.Proofs.Ytkjdblbgmomieaa.DigLaw
set_option linter.unusedVariables false
set_option linter.unusedSimpArgs false
theorem PAt.rebase {g bp:Nat} {tl ts:List Tk} {en n:Int} {w0 w1:World} {A:Option Addr} {l c t:Nat} (h:PAt g tl ts en n w0 w1) (hlt:bp<w0.heap.size) (hb:w1.heap[bp]?=some (.cells #[.slice A l c] t (0,0))) (u:Value):
    PAt g tl ts en n (w0.setCell ⟨bp,0,none⟩ u) (w1.setCell ⟨bp,0,none⟩ u):=by
  obtain ⟨pre,e,A0,c0,hG,hg,hC⟩:=h.i
  have hb0:w0.heap[bp]?=some (.cells #[.slice A l c] t (0,0)):=(h.b.block bp hlt).symm.trans hb
  have hs:(w0.setCell ⟨bp,0,none⟩ u).heap.size=w0.heap.size:=by simp [World.setCell]
  refine ⟨⟨pre,e,A0,c0,(Below.heap_setCell w1 ⟨bp,0,none⟩ u g (by show g≠bp;omega)).trans hG,by rw [hs];exact hg,?_⟩,?_,h.l,h.s⟩
  · refine Kd.C_foot_ne (fun hK=>?_) hC (fun ad hA hn hbk=>?_) _ ((KeepBut.refl w0 bp none).set_ 0 u)
    · rw [k101_open hK]
      exact ⟨_,_,rfl,rfl,rfl⟩
    · obtain ⟨ad2,e2,x0,x1⟩:=at_T101 hC 0 (Int.le_refl _) (by omega)
      rw [e2] at hA
      injection hA with hA
      subst hA
      have e3:ad2.add ((0:Int).toNat * 2)=ad2:=by unfold Addr.add;rfl
      rw [e3] at x0
      have e4:w0.cell? ad2=#[Value.slice A l c][ad2.off]?:=by
        have h0:=(ad_spot (by rw [show ad2.add 0=ad2 from by unfold Addr.add;rfl];exact x0)).1
        rw [h0,hbk]
        exact blk_cell hb0 ad2.off
      rw [e4] at x0
      cases ho:ad2.off with
      | zero=>rw [ho] at x0;simp at x0
      | succ j=>rw [ho] at x0;simp at x0
  · refine ⟨h.b.os,h.b.tape,h.b.output,by rw [hs];simpa [World.setCell] using h.b.size,fun k hk=>?_⟩
    rw [hs] at hk
    by_cases e:k=bp
    · subst e
      rw [blk_put hb 0 u rfl,blk_put hb0 0 u rfl]
    · rw [Below.heap_setCell _ ⟨bp,0,none⟩ u k e,Below.heap_setCell _ ⟨bp,0,none⟩ u k e]
      exact h.b.block k hk
structure TPAt (g bp be B:Nat) (tl ts:List Tk) (fs:List SF) (v:Value) (en n:Int) (w w':World):Prop where
  p:∃ w0,w0.heap.size=B∧PAt g tl ts en n w0 w'
  bel:Below w.heap.size w w'
  l2:w.heap.size≤bp
  l3:w.heap.size≤be
  ne:bp≠be
  b2:bp<B
  b3:be<B
  cp:w'.heap[bp]?=some (.cells #[v] 24 (0,0))
  ce:w'.heap[be]?=some (.cells #[.int .i64 0,.int .i64 0] 28 (0,0))
  row:Kd.R k34 34 w' B (fun _=>True) v fs
section
variable {g bp be B : Nat} {tl ts us : List Tk} {fs : List SF} {v : Value} {en n m : Int} {w w1 w2 : World}
theorem TPAt.keep_ (h:TPAt g bp be B tl ts fs v en n w w1) {w0:World} (h0:w0.heap.size=B) (hp:PAt g tl ts en n w0 w1) (hb:Below w0.heap.size w0 w2) (hk:KeepBut w1 w2 g none):Below w.heap.size w w2∧w2.heap[bp]?=some (.cells #[v] 24 (0,0))∧w2.heap[be]?=some (.cells #[.int .i64 0,.int .i64 0] 28 (0,0))∧Kd.R k34 34 w2 B (fun _=>True) v fs:=by
  obtain ⟨cells,hG⟩:=hp.blk
  have h1:=hp.ge
  have h2:=h.b2
  have h3:=h.b3
  have h4:=h.l2
  have hB:=h.bel.size
  refine ⟨⟨?_,?_,?_,Nat.le_trans hB hk.1,fun k hkk=>(hk.2 k (by omega) (by omega) (by simp)).trans (h.bel.block k hkk)⟩,hk.blk h.cp (by omega) (by simp),hk.blk h.ce (by omega) (by simp),row_keep h.row hG (by decide) hk⟩
  · rw [hb.os,← hp.b.os,h.bel.os]
  · rw [hb.tape,← hp.b.tape,h.bel.tape]
  · rw [hb.output,← hp.b.output,h.bel.output]
theorem TPAt.call (h:TPAt g bp be B tl ts fs v en n w w1) {w0:World} (h0:w0.heap.size=B) (hp:PAt g tl ts en n w0 w1) (hp2:PAt g tl us en m w0 w2) (hk:KeepBut w1 w2 g none):TPAt g bp be B tl us fs v en m w w2:=by
  obtain ⟨q1,q2,q3,q4⟩:=h.keep_ h0 hp hp2.b hk
  exact ⟨⟨w0,h0,hp2⟩,q1,h.l2,h.l3,h.ne,h.b2,h.b3,q2,q3,q4⟩
theorem TPAt.below (h:TPAt g bp be B tl ts fs v en n w w1) (hb:Below w1.heap.size w1 w2):TPAt g bp be B tl ts fs v en n w w2:=by
  obtain ⟨w0,h0,hp⟩:=h.p
  exact h.call h0 hp (hp.below hb) (KeepBut.of_below hb g none)
theorem TPAt.app (h:TPAt g bp be B tl ts fs v en n w w1) {fs':List SF} {v1:Value} (hr:Kd.R k34 34 w2 B (fun _=>True) v1 fs') (hg:w1.grownBy w2 v.ownBlock):TPAt g bp be B tl ts fs' v1 en n w (w2.setCell ⟨bp,0,none⟩ v1):=by
  obtain ⟨w0,h0,hp⟩:=h.p
  obtain ⟨cells,hG⟩:=hp.blk
  have hx:=(hg.block bp (blk_lt h.cp) (Kd.R_ne h.row h.cp (by decide))).trans h.cp
  have hy:=(hg.block be (blk_lt h.ce) (Kd.R_ne h.row h.ce (by decide))).trans h.ce
  obtain ⟨A,c,e⟩:=Kd.R_slice h.row
  have hp2:=hp.grown hg (Kd.R_ne h.row hG (by decide)) (fun k e=>by rw [h0];exact Kd.R_base h.row k e)
  have h2:=h.b2
  have h4:=h.bel.size
  have hlw:w.heap.size≤B:=Nat.le_trans h.l2 (Nat.le_of_lt h.b2)
  refine ⟨⟨w0.setCell ⟨bp,0,none⟩ v1,by simpa [World.setCell] using h0,hp2.rebase (by omega) (by rw [e] at hx;exact hx) v1⟩,below_set (pw_below_grown h.bel v.ownBlock h.bel.size hg (fun k e=>Nat.le_trans hlw (Kd.R_base h.row k e))) h.l2,h.l2,h.l3,h.ne,h.b2,h.b3,blk_put hx 0 _ rfl,(Below.heap_setCell w2 ⟨bp,0,none⟩ v1 be h.ne.symm).trans hy,Kd.R_set hr hx (by decide) 0 _⟩
end
theorem catch_idle (bp be:Nat) (w:World):CallsD Try.prog 57 #[.pointer (some ⟨bp,0,none⟩),.pointer (some ⟨be,0,none⟩)] .returning w fun e u' w'=>e=.returned (.tuple #[])∧u'=.returning∧w'=w:=by
  refine callsD_of_wpS Try.func57 rfl fun c₀ cs hu=>?_
  apply wpS_seq
  apply wpS_region
  simp [wpOpsS,go_sem,recoverD,hu,Try.ntmps57,Exit.thenS]
  apply wpS_seq
  apply wpS_region
  simp [wpOpsS,go_sem,Exit.thenS]
  refine wpS_cond (t:=false) (by simp [Act.eval,Array.replicate]) ?_
  simp only [Bool.false_eq_true,if_false]
  refine wpS_of_wp (wp_skip ?_)
  cases c₀
  simp_all [bodyPostS,results,Try.results57]
theorem catch_panics (c a:Int) (bp be:Nat) (vp x y:Value) (w:World) (hp:w.heap[bp]?=some (.cells #[vp] 24 (0,0))) (he:w.heap[be]?=some (.cells #[x,y] 28 (0,0))):
    CallsD Try.prog 57 #[.pointer (some ⟨bp,0,none⟩),.pointer (some ⟨be,0,none⟩)] (.panicking (boom c a)) w fun e u' w'=>e=.returned (.tuple #[])∧u'=.panicking [{ v:=.iface 84 (.agg #[.int .i64 c,.int .i64 a]),recovered:=true }]∧
      w'=((w.drew.setCell ⟨bp,0,none⟩ (.slice none 0 0)).setCell ⟨be,0,none⟩ (.int .i64 c)).setCell ⟨be,1,none⟩ (.int .i64 a):=by
  have hu24:=Try.underlying24
  have hu28:=Try.underlying28
  have hta:∀ (u:Value) (W:World),(Instr.typeAssert (.iface 84 u) 20 84 false).run Try.prog W=.ok u W:=fun _ _=>by show _=_;kernel_rfl
  have hfl:∀ (u0 u1:Value) (W:World),(Instr.field 84 (.agg #[u0,u1]) 0).run Try.prog W=.ok (.agg #[u0,u1]) W:=fun _ _ _=>by show _=_;kernel_rfl
  have hne:bp≠be:=blk_ne hp he (by decide)
  have hne2:be≠bp:=hne.symm
  have y0:w.drew.cell? ⟨bp,0,none⟩=some vp:=blk_cell hp 0
  have f0:w.drew.frozen? ⟨bp,0,none⟩=false:=blk_frozen hp 0
  have y1:w.drew.cell? ⟨be,0,none⟩=some x:=blk_cell he 0
  have f1:w.drew.frozen? ⟨be,0,none⟩=false:=blk_frozen he 0
  have y2:w.drew.cell? ⟨be,1,none⟩=some y:=blk_cell he 1
  have f2:w.drew.frozen? ⟨be,1,none⟩=false:=blk_frozen he 1
  have y0':w.cell? ⟨bp,0,none⟩=some vp:=blk_cell hp 0
  have f0':w.frozen? ⟨bp,0,none⟩=false:=blk_frozen hp 0
  have y1':w.cell? ⟨be,0,none⟩=some x:=blk_cell he 0
  have f1':w.frozen? ⟨be,0,none⟩=false:=blk_frozen he 0
  have y2':w.cell? ⟨be,1,none⟩=some y:=blk_cell he 1
  have f2':w.frozen? ⟨be,1,none⟩=false:=blk_frozen he 1
  refine callsD_of_wpS Try.func57 rfl fun c₀ cs hu=>?_
  unfold boom at hu
  simp only [Try.ntmps57,List.size_toArray,List.length_cons,List.length_nil,Nat.reduceAdd,Nat.reduceSub,Array.replicate_succ,Array.replicate_zero,List.push_toArray,List.append_toArray,List.nil_append,List.cons_append]
  apply wpS_seq
  apply wpS_region
  simp [wpOpsS,go_sem,recoverD,hu,Try.ntmps57,Exit.thenS]
  apply wpS_seq
  apply wpS_region
  simp [wpOpsS,go_sem,Exit.thenS]
  refine wpS_cond (t:=true) (by simp [Act.eval,Array.replicate]) ?_
  simp only [if_true]
  refine wpS_of_wp ?_
  (try simp only [Act.put,qA,qB,qC])
  refine start_ (n:=6) (S:=fun w'=>True) (ds:=[5]) #[false,false,false,false,false,false] (by kernel_rfl) rfl rfl trivial (fun hHeld=>?_)
  refine pure_ (i:=0) (N:=some 6) (v:=?_) (a':=?_) #[true,false,false,false,false,false] rfl rfl (by kernel_rfl) (fun _ _ _ h=>h) (Or.inl ⟨by rfl,?_⟩) ?_ ?_
  rotate_left
  · intro w'
    go_simp
    with_reducible rfl
  rotate_left
  · simp only [Act.put,qA,qB,qC,i64_w,i32_w]
    rfl
  refine pure_ (i:=1) (N:=some 7) (v:=?_) (a':=?_) #[true,true,false,false,false,false] rfl rfl (by kernel_rfl) (fun _ _ _ h=>h) (Or.inl ⟨by rfl,?_⟩) ?_ ?_
  rotate_left
  · intro w'
    go_simp
    with_reducible rfl
  rotate_left
  · simp only [Act.put,qA,qB,qC,i64_w,i32_w]
    rfl
  refine pure_ (i:=2) (N:=some 8) (v:=?_) (a':=?_) #[true,true,true,false,false,false] rfl rfl (by kernel_rfl) (fun _ _ _ h=>h) (Or.inl ⟨by rfl,?_⟩) ?_ ?_
  rotate_left
  · intro w'
    go_simp
    with_reducible rfl
  rotate_left
  · simp only [Act.put,qA,qB,qC,i64_w,i32_w]
    rfl
  refine pure_ (i:=3) (N:=some 9) (v:=?_) (a':=?_) #[true,true,true,true,false,false] rfl rfl (by kernel_rfl) (fun _ _ _ h=>h) (Or.inl ⟨by rfl,?_⟩) ?_ ?_
  rotate_left
  · intro w'
    go_simp
    with_reducible rfl
  rotate_left
  · simp only [Act.put,qA,qB,qC,i64_w,i32_w]
    rfl
  refine one_ (i:=4) (N:=none) #[true,true,true,true,true,false] rfl rfl (by kernel_rfl) (by decide) (fun K hK=>?_)
  refine skip_ (w1:=?_) (by rfl) rfl ?_ ?_
  rotate_left
  · go_simp
    rfl
  refine hK.out _ _ trivial (fun hHeld=>?_)
  clear hK K
  refine last_ (i:=5) (N:=none) #[true,true,true,true,true,true] rfl rfl (by kernel_rfl) (by decide) (fun K hK=>?_)
  refine skip_ (w1:=?_) (by rfl) rfl ?_ ?_
  rotate_left
  · go_simp
    rfl
  refine hK.out _ _ ?_
  clear hK K
  refine done_ (by kernel_rfl) ?_
  exact ⟨rfl,_,rfl,_,results_none rfl _ _ _,rfl,rfl,rfl⟩
theorem leaves_ret {P:Program} {fn:Func} {R:Ending→World→Prop} {tm:Array Value} {w:World} {v:Value} (h:(results fn tm).run P w=.ok v w) (hR:R (.returned v) w):bodyPostD P fn R .ret { tmps:=tm,defers:=[] } w:=⟨v,h,hR⟩
theorem leaves_settled {P:Program} {fn:Func} {R:Ending→World→Prop} {tm:Array Value} {w:World} {v x:Value} (h:(results fn tm).run P w=.ok v w) (hR:R (.returned v) w):Leaves P fn tm R [] (settle (.panicking [{ v:=x,recovered:=true }])) w:=⟨v,h,hR⟩
theorem leaves_plain {P:Program} {fn:Func} {R:Ending→World→Prop} {tm:Array Value} {w:World} {v:Value} (h:(results fn tm).run P w=.ok v w) (hR:R (.returned v) w):Leaves P fn tm R [] (settle .returning) w:=⟨v,h,hR⟩
theorem leaves_tmps {P:Program} {fn:Func} {R:Ending→World→Prop} {t1 t2:Array Value} (he:results fn t1=results fn t2):∀ (ds:List Deferred) (u:FrameMode) (w:World),Leaves P fn t1 R ds u w→Leaves P fn t2 R ds u w
  | [],.returning,w,⟨v,h,hr⟩=>⟨v,he ▸ h,hr⟩
  | [],.panicking c,w,h=>h
  | [],.run,_,h=>h.elim
  | d::ds,u,w,h=>by
    obtain ⟨h1,fv,cap,f,args,h2,h3,h4⟩:=h
    refine ⟨h1,fv,cap,f,args,h2,h3,h4.mono (fun e u' w' hh=>?_)⟩
    cases e with
    | returned v=>exact leaves_tmps he ds _ _ hh
    | panicked c=>exact leaves_tmps he ds _ _ hh
    | outgrown=>exact hh
theorem leaves_put {R:Ending→World→Prop} (i:Nat) (h2:i≠2) (h3:i≠3) {a:Act} {v:Value} {c:List PanicEntry} {w:World} (h:bodyPostD Try.prog Try.f21 R (.panic c) (a.put (some i) v) w):bodyPostD Try.prog Try.f21 R (.panic c) a w:=by
  have e2:(a.tmps.setIfInBounds i v)[2]?=a.tmps[2]?:=Array.getElem?_setIfInBounds_ne h2
  have e3:(a.tmps.setIfInBounds i v)[3]?=a.tmps[3]?:=Array.getElem?_setIfInBounds_ne h3
  refine leaves_tmps ?_ a.defers _ w h
  show results _ (a.tmps.setIfInBounds i v)=results _ a.tmps
  simp [results,Try.results21,e2,e3]
theorem PAt.more {g:Nat} {tl ts:List Tk} {en n:Int} {w0 w1:World} (h:PAt g tl ts en n w0 w1):∃ a:Int,w1.cell? ⟨g,1,none⟩=some (.int .i64 a)∧(ts=[]→decide (a<(tl.length:Int))=false)∧(ts≠[]→decide (a<(tl.length:Int))=true):=by
  obtain ⟨pre,e,A0,c0,hG,-,-⟩:=h.i
  refine ⟨_,blk_cell hG 1,fun e2=>decide_eq_false (by rw [e,e2];simp),fun e2=>decide_eq_true ?_⟩
  cases ts with
  | nil=>exact absurd rfl e2
  | cons t us=>
    rw [e,List.length_append,List.length_cons]
    omega
theorem set3_ {W:World} {bp be:Nat} (hne:bp≠be) {vp x y:Value} (hp:W.heap[bp]?=some (.cells #[vp] 24 (0,0))) (he:W.heap[be]?=some (.cells #[x,y] 28 (0,0))) (v c a:Value):
    (((W.setCell ⟨bp,0,none⟩ v).setCell ⟨be,0,none⟩ c).setCell ⟨be,1,none⟩ a).heap[bp]?=some (.cells #[v] 24 (0,0))∧(((W.setCell ⟨bp,0,none⟩ v).setCell ⟨be,0,none⟩ c).setCell ⟨be,1,none⟩ a).heap[be]?=some (.cells #[c,a] 28 (0,0)):=
  ⟨(Below.heap_setCell _ ⟨be,1,none⟩ _ _ hne).trans ((Below.heap_setCell _ ⟨be,0,none⟩ _ _ hne).trans (blk_put hp 0 _ rfl)),blk_put (blk_put ((Below.heap_setCell _ ⟨bp,0,none⟩ _ _ hne.symm).trans he) 0 _ rfl) 1 _ rfl⟩
theorem parse_Text.calls (s:ByteArray) (r1:List SF) (r2 r3:Int) (w:World) (h:parse_Text.f s=some (r1,r2,r3)):
    Calls Try.prog 21 #[.string s] w fun e w'=>∃ v0_:Value,e=.returned (.tuple #[.agg #[v0_],.agg #[.int .i64 r2,.int .i64 r3]])∧Kd.R k34 34 w' w.heap.size (fun _=>True) v0_ r1∧Below w.heap.size w w':=by
  have hu24:=Try.underlying24
  have hu28:=Try.underlying28
  have hu34:=Try.underlying34
  have hu82:=Try.underlying82
  have hmf:∀ (fn:Fn) (first cap:Array Value) (w:World),(Instr.makeFunc fn first cap).run Try.prog w=.ok (.func fn first cap) w:=fun _ _ _ _=>rfl
  unfold parse_Text.f at h
  by_cases hf:fewT (splitL s).1=true
  rotate_left
  · rw [if_neg hf] at h
    cases h
  rw [if_pos hf] at h
  replace h:=Option.some.inj h
  unfold parseP at h
  have hs:token_Split.f s=some (splitL s):=rfl
  generalize splitL s=q at h hf hs
  obtain ⟨tl,t2,t3⟩:=q
  have HS:=aM hs
  have HH:=aM h
  unfold fewT at hf
  rw [Bool.and_eq_true,decide_eq_true_iff,List.all_eq_true] at hf
  have HFW:=aM (show tl.length≤65536∧∀ t∈tl,t.f0.size≤65536 from ⟨hf.1,fun t ht=>of_decide_eq_true (hf.2 t ht)⟩)
  clear hs h hf
  go_enter_defers Try.func21,Try.ntmps21
  have hz2:=blk_alloc (blk_new w (.cells #[.slice none 0 0] 24)) (.cells #[.int .i64 0,.int .i64 0] 28)
  have hz3:=blk_new (w.alloc (.cells #[.slice none 0 0] 24)) (.cells #[.int .i64 0,.int .i64 0] 28)
  have hsz:(w.alloc (.cells #[.slice none 0 0] 24)).heap.size=w.heap.size+1:=by simp
  rw [hsz] at hz3
  have hb0:=below_alloc (below_alloc (Below.refl w.heap.size w) (.cells #[.slice none 0 0] 24)) (.cells #[.int .i64 0,.int .i64 0] 28)
  clear hsz
  go_upto_region 1 with (fail)
  generalize (w.alloc (.cells #[.slice none 0 0] 24)).alloc (.cells #[.int .i64 0,.int .i64 0] 28)=W0 at hz2 hz3 hb0 ⊢
  have HZ2:=aM hz2
  have HZ3:=aM hz3
  have HB:=aM hb0
  clear hz2 hz3 hb0
  go_wp2_with fail
  refine (token_Split.calls s tl t2 t3 _ HS.out).mono ?_
  rintro e w1 ⟨v0,rfl,hr1,hb1⟩
  obtain ⟨A0,c0,e0,hl0,hC0⟩:=Kd.R_reads hr1
  subst e0
  have hbx:=below_alloc (Below.refl w1.heap.size w1) (.cells #[.int .i64 t2,.int .i64 t3] 28)
  have HBE:=aM (blk_new w1 (.cells #[.int .i64 t2,.int .i64 t3] 28))
  have HY2:=aM (blk_below (blk_below HZ2.out hb1) hbx)
  have HY3:=aM (blk_below (blk_below HZ3.out hb1) hbx)
  have HB1:=aM (below_step (below_step HB.out hb1) hbx)
  have HC:=aM (Kd.C_below hC0 hbx)
  have HLT:=aM (show w.heap.size+1<w1.heap.size from blk_lt (blk_below HZ3.out hb1))
  clear hr1 hb1 hl0 hC0 hbx
  go_upto_if 14 with (fail)
  (try simp only [Act.put,qA,qB,qC])
  generalize w1.alloc (.cells #[.int .i64 t2,.int .i64 t3] 28)=W1 at HBE HY2 HY3 HB1 HC ⊢
  have h:=HH.out
  have k0_:=blk_cell HBE.out 0
  have k1_:=blk_cell HBE.out 1
  by_cases ct:t2=0
  rotate_left
  · rw [if_neg ct] at h
    have ct1:(t2 !=0)=true:=bne_iff_ne.mpr ct
    (first | rw [ct1] | (simp only [i64_w,i32_w];rw [ct1]) | skip)
    simp only [Prod.mk.injEq] at h
    obtain ⟨rfl,rfl,rfl⟩:=h
    clear ct
    have n1:w1.heap.size≠w.heap.size:=by have:=HLT.out;omega
    have n2:w1.heap.size≠w.heap.size+1:=by have:=HLT.out;omega
    go_upto_region 3 with (fail)
    have z0_:W1.drew.cell? ⟨w.heap.size,0,none⟩=some (.slice none 0 0):=(blk_cell HY2.out 0)
    have f0_:W1.drew.frozen? ⟨w.heap.size,0,none⟩=false:=blk_frozen HY2.out 0
    have y0_:W1.drew.cell? ⟨w.heap.size+1,0,none⟩=some (.int .i64 0):=(blk_cell HY3.out 0)
    have y1_:W1.drew.cell? ⟨w.heap.size+1,1,none⟩=some (.int .i64 0):=(blk_cell HY3.out 1)
    have g0_:W1.drew.frozen? ⟨w.heap.size+1,0,none⟩=false:=blk_frozen HY3.out 0
    have g1_:W1.drew.frozen? ⟨w.heap.size+1,1,none⟩=false:=blk_frozen HY3.out 1
    have y0'_:W1.cell? ⟨w.heap.size+1,0,none⟩=some (.int .i64 0):=(blk_cell HY3.out 0)
    have y1'_:W1.cell? ⟨w.heap.size+1,1,none⟩=some (.int .i64 0):=(blk_cell HY3.out 1)
    have g0'_:W1.frozen? ⟨w.heap.size+1,0,none⟩=false:=blk_frozen HY3.out 0
    have g1'_:W1.frozen? ⟨w.heap.size+1,1,none⟩=false:=blk_frozen HY3.out 1
    refine start_ (n:=4) (S:=fun w'=>w'.cell? ⟨w1.heap.size,0,none⟩=some (.int .i64 t2)∧w'.cell? ⟨w1.heap.size,1,none⟩=some (.int .i64 t3)) (ds:=[3]) #[false,false,false,false] (by kernel_rfl) rfl rfl ⟨k0_,k1_⟩ (fun hHeld=>?_)
    refine pure_ (i:=0) (N:=some 15) (v:=?_) (a':=?_) #[true,false,false,false] rfl rfl (by kernel_rfl) (fun _ _ _ h=>leaves_put 15 (by decide) (by decide) h) (Or.inl ⟨by rfl,?_⟩) ?_ ?_
    rotate_left
    · intro w'
      go_simp
      with_reducible rfl
    rotate_left
    · simp only [Act.put,qA,qB,qC,i64_w,i32_w]
      rfl
    refine take_ (i:=1) (N:=some 16) (v:=?_) (a':=?_) #[true,true,false,false] rfl rfl (by kernel_rfl) (fun _ _ _ h=>leaves_put 16 (by decide) (by decide) h) (Or.inl ⟨by rfl,?_⟩) hHeld ?_ ?_
    rotate_left
    · rintro w' ⟨s0,s1⟩
      go_simp
      with_reducible rfl
    rotate_left
    · simp only [Act.put,qA,qB,qC,i64_w,i32_w]
      rfl
    refine one_ (i:=2) (N:=none) #[true,true,true,false] rfl rfl (by kernel_rfl) (by decide) (fun K hK=>?_)
    refine skip_ (w1:=?_) (by rfl) rfl ?_ ?_
    rotate_left
    · go_simp
      rfl
    refine hK.out _ _ ⟨((blk_cell ((Below.heap_setCell W1.drew ⟨w.heap.size,0,none⟩ (.slice none 0 0) w1.heap.size n1).trans (show W1.drew.heap[w1.heap.size]?=_ from HBE.out)) 0).trans rfl),((blk_cell ((Below.heap_setCell W1.drew ⟨w.heap.size,0,none⟩ (.slice none 0 0) w1.heap.size n1).trans (show W1.drew.heap[w1.heap.size]?=_ from HBE.out)) 1).trans rfl)⟩ (fun hHeld=>?_)
    clear hK K
    refine last_ (i:=3) (N:=none) #[true,true,true,true] rfl rfl (by kernel_rfl) (by decide) (fun K hK=>?_)
    refine skip_ (w1:=?_) (by rfl) rfl ?_ ?_
    rotate_left
    · go_simp
      rfl
    refine hK.out _ _ ?_
    clear hK K
    refine done_ (by kernel_rfl) ?_
    go_wp2
    (try simp only [Exit.inBlock,Exit.then])
    have hq:=set3_ (W:=W1.drew) (by omega) (show W1.drew.heap[w.heap.size]?=_ from HY2.out) (show W1.drew.heap[w.heap.size+1]?=_ from HY3.out) (.slice none 0 0) (.int .i64 t2) (.int .i64 t3)
    refine leaves_ret (results_cc rfl _ _ w.heap.size (w.heap.size+1) 24 28 #[.slice none 0 0] #[.int .i64 t2,.int .i64 t3] (0,0) (0,0) _ _ rfl hq.1 Try.underlying24 rfl (by kernel_rfl) rfl hq.2 Try.underlying28 rfl (by kernel_rfl)) ?_
    exact ⟨_,rfl,Kd.R_nil _ _ _ _ _,below_set (below_set (below_set (below_drew1 HB1.out) (Nat.le_refl _)) (Nat.le_succ _)) (Nat.le_succ _)⟩
  rw [if_pos ct] at h
  have ct1:(t2 !=0)=false:=bne_eq_false_iff_eq.mpr ct
  (first | rw [ct1] | (simp only [i64_w,i32_w];rw [ct1]) | skip)
  obtain ⟨Rx,hR⟩:∃ Rx,textP (s.size:Int) (tl.length+1) [] 0 tl=Rx:=⟨_,rfl⟩
  rw [hR] at h
  have HR:=aM h
  have HF:=aM hR
  clear ct h hR HH k0_ k1_
  have hb2:=below_alloc (Below.refl W1.heap.size W1) (.cells #[.slice A0 tl.length c0,.int .i64 0,.int .i64 (s.size:Int),.int .i64 0] 82)
  have HX:=aM (show TPAt W1.heap.size w.heap.size (w.heap.size+1) W1.heap.size tl tl [] (.slice none 0 0) (s.size:Int) 0 w (W1.alloc (.cells #[.slice A0 tl.length c0,.int .i64 0,.int .i64 (s.size:Int),.int .i64 0] 82)) from
    ⟨⟨W1,rfl,⟨⟨[],rfl,IsS82.new W1 W1 A0 c0 tl 0 (s.size:Int) 0 (Below.refl _ _) HC.out⟩,hb2,HFW.out.1,HFW.out.2⟩⟩,below_step HB1.out hb2,Nat.le_refl _,Nat.le_succ _,by omega,blk_lt HY2.out,blk_lt HY3.out,blk_below HY2.out hb2,blk_below HY3.out hb2,Kd.R_nil _ _ _ _ _⟩)
  clear hb2
  go_upto_region 5 with (fail)
  (try simp only [Act.put,qA,qB,qC])
  generalize W1.alloc (.cells #[.slice A0 tl.length c0,.int .i64 0,.int .i64 (s.size:Int),.int .i64 0] 82)=W2 at HX ⊢
  generalize W1.heap.size=g at HX ⊢
  clear HBE HY2 HY3 HB1 HC HLT HZ2 HZ3 HB HS ct1
  go_wp2
  (try simp only [Act.put,qA,qB,qC])
  go_loopg [] (tl.length+1) (fun kq w'=>∃ (fs:List SF) (ts:List Tk) (n:Int) (v:Value),Aside0 (textP (s.size:Int) kq fs n ts=Rx)∧Aside0 (ts.length<kq∧0≤n∧n≤4096)∧Aside0 (TPAt g w.heap.size (w.heap.size+1) g tl ts fs v (s.size:Int) n w w'))
  case atStart=>exact ⟨[],tl,0,_,HF,⟨Nat.lt_succ_self _,by omega,by omega⟩,HX⟩
  case round=>
    clear HX HF
    obtain ⟨fs,ts,n,v,HF,HLN,HX⟩:=hrel
    obtain ⟨A7,c7,e7⟩:=Kd.R_slice HX.out.row
    subst e7
    cases gk with
    | zero=>exact absurd HLN.out.1 (by omega)
    | succ k1=>
      have hl:=HF.out
      simp only [textP] at hl
      obtain ⟨w0,h0,hp⟩:=HX.out.p
      obtain ⟨a_,x1,d0,d1⟩:=hp.more
      have H0:=aM h0
      have HP:=aM hp
      clear HF h0 hp
      by_cases ce:ts=[]
      · rw [if_pos ce] at hl
        have dd:=d0 ce
        have hr:=HR.out
        rw [← hl] at hr
        simp only [Prod.mk.injEq] at hr
        obtain ⟨rfl,rfl,rfl⟩:=hr
        have z0_:=blk_cell HX.out.cp 0
        have f0_:=blk_frozen HX.out.cp 0
        have y0_:=blk_cell HX.out.ce 0
        have y1_:=blk_cell HX.out.ce 1
        have g0_:=blk_frozen HX.out.ce 0
        have g1_:=blk_frozen HX.out.ce 1
        clear ce d0 d1 hl HR
        go_wp2
        (try simp only [Exit.inBlock,Exit.then])
        refine leaves_cons (f:=57) (args:=#[.pointer (some ⟨w.heap.size,0,none⟩),.pointer (some ⟨w.heap.size+1,0,none⟩)]) (by simp) (by simp [go_sem]) ?_
        refine (catch_idle _ _ _).mono ?_
        rintro e u' w'' ⟨rfl,rfl,rfl⟩
        have hq:=set3_ HX.out.ne HX.out.cp HX.out.ce (.slice A7 fs.length c7) (.int .i64 0) (.int .i64 0)
        refine leaves_plain (results_cc rfl _ _ w.heap.size (w.heap.size+1) 24 28 #[.slice A7 fs.length c7] #[.int .i64 0,.int .i64 0] (0,0) (0,0) _ _ rfl hq.1 Try.underlying24 rfl (by kernel_rfl) rfl hq.2 Try.underlying28 rfl (by kernel_rfl)) ?_
        refine ⟨_,rfl,?_,below_set (below_set (below_set HX.out.bel (Nat.le_refl _)) (Nat.le_succ _)) (Nat.le_succ _)⟩
        refine Kd.R_lower (Kd.R_set (Kd.R_set (Kd.R_set HX.out.row HX.out.cp (by decide) 0 _) ((Below.heap_setCell _ ⟨w.heap.size,0,none⟩ _ _ HX.out.ne.symm).trans HX.out.ce) (by decide) 0 _) (blk_put ((Below.heap_setCell _ ⟨w.heap.size,0,none⟩ _ _ HX.out.ne.symm).trans HX.out.ce) 0 _ rfl) (by decide) 1 _) ?_
        have:=HX.out.b2
        omega
      rw [if_neg ce] at hl
      have dd:=d1 ce
      have z0_:=blk_cell HX.out.cp 0
      clear ce d0 d1
      by_cases h32:fs.length≥32
      · rw [if_pos h32] at hl
        subst hl
        have hr:=HR.out
        simp only [failP,Prod.mk.injEq] at hr
        obtain ⟨rfl,rfl,rfl⟩:=hr
        have d2:decide (32≤(fs.length:Int))=true:=decide_eq_true (by omega)
        clear h32 HR
        go_wp2_with fail
        refine (fail_calls (c:=6) HP.out).mono ?_
        rintro e w9 ⟨rfl,hb_,hk_⟩
        have HZ:=aM (HX.out.keep_ H0.out HP.out hb_ hk_)
        clear hb_ hk_ x1 z0_ dd d2
        go_wp2
        (try simp only [Exit.inBlock,Exit.then])
        refine leaves_cons (f:=57) (args:=#[.pointer (some ⟨w.heap.size,0,none⟩),.pointer (some ⟨w.heap.size+1,0,none⟩)]) (by simp) (by simp [go_sem]) ?_
        refine (catch_panics _ _ _ _ _ _ _ _ HZ.out.2.1 HZ.out.2.2.1).mono ?_
        rintro e u' w'' ⟨rfl,rfl,rfl⟩
        have hq:=set3_ (W:=World.drew _) HX.out.ne (show (World.drew _).heap[w.heap.size]?=_ from HZ.out.2.1) (show (World.drew _).heap[w.heap.size+1]?=_ from HZ.out.2.2.1) (.slice none 0 0) (.int .i64 6) (.int .i64 (hereP (s.size:Int) ts))
        refine leaves_settled (results_cc rfl _ _ w.heap.size (w.heap.size+1) 24 28 #[.slice none 0 0] #[.int .i64 6,.int .i64 (hereP (s.size:Int) ts)] (0,0) (0,0) _ _ rfl hq.1 Try.underlying24 rfl (by kernel_rfl) rfl hq.2 Try.underlying28 rfl (by kernel_rfl)) ?_
        exact ⟨_,rfl,Kd.R_nil _ _ _ _ _,below_set (below_set (below_set (below_drew1 HZ.out.1) (Nat.le_refl _)) (Nat.le_succ _)) (Nat.le_succ _)⟩
      rw [if_neg h32] at hl
      have d2:decide (32≤(fs.length:Int))=false:=decide_eq_false (by omega)
      have HL:=aM hl
      have H32:=aM h32
      clear h32 hl
      go_upto_region 9 with (fail)
      clear x1 z0_ dd d2
      have HXd:=aM (HX.out.below (below_drew1 (Below.refl _ _)))
      have HPd:=aM (HP.out.below (below_drew1 (Below.refl _ _)))
      refine start_ (n:=8) (S:=fun w'=>w'.cell? ⟨w.heap.size,0,none⟩=some (.slice A7 fs.length c7)) (ds:=[7]) #[false,false,false,false,false,false,false,false] (by kernel_rfl) rfl rfl ((blk_cell HXd.out.cp 0)) (fun hHeld=>?_)
      refine pure_ (i:=0) (N:=some 36) (v:=?_) (a':=?_) #[true,false,false,false,false,false,false,false] rfl rfl (by kernel_rfl) (fun _ _ _ h=>leaves_put 36 (by decide) (by decide) h) (Or.inl ⟨by rfl,?_⟩) ?_ ?_
      rotate_left
      · intro w'
        go_simp
        with_reducible rfl
      rotate_left
      · simp only [Act.put,qA,qB,qC,i64_w,i32_w]
        rfl
      refine pure_ (i:=2) (N:=some 38) (v:=?_) (a':=?_) #[true,false,true,false,false,false,false,false] rfl rfl (by kernel_rfl) (fun _ _ _ h=>leaves_put 38 (by decide) (by decide) h) (Or.inl ⟨by rfl,?_⟩) ?_ ?_
      rotate_left
      · intro w'
        go_simp
        with_reducible rfl
      rotate_left
      · simp only [Act.put,qA,qB,qC,i64_w,i32_w]
        rfl
      refine take_ (i:=1) (N:=some 37) (v:=?_) (a':=?_) #[true,true,true,false,false,false,false,false] rfl rfl (by kernel_rfl) (fun _ _ _ h=>leaves_put 37 (by decide) (by decide) h) (Or.inl ⟨by rfl,?_⟩) hHeld ?_ ?_
      rotate_left
      · intro w' s0
        go_simp
        with_reducible rfl
      rotate_left
      · simp only [Act.put,qA,qB,qC,i64_w,i32_w]
        rfl
      refine one_ (i:=3) (N:=some 39) #[true,true,true,true,false,false,false,false] rfl rfl (by kernel_rfl) (by decide) (fun K hK=>?_)
      refine goesP_ Try.func59 (by kernel_rfl) rfl #[.pointer (some ⟨g,0,none⟩)] (by rfl) rfl rfl (by simp only [List.map_toArray,List.map_cons,List.map_nil];rfl) ?_
      with_reducible refine (func_calls g tl ts (s.size:Int) n (by have:=HLN.out;omega) w0 _ HPd.out).mono ?_
      rintro e w3_ ⟨⟨hb_,hk_⟩,h_⟩
      have hl:=HL.out
      rcases hv:funcP (s.size:Int) n ts with ⟨q1,q2⟩ | ⟨x,m2,ts2⟩
      · rw [hv] at h_ hl
        obtain rfl:=h_
        simp only [bind_err] at hl
        subst hl
        have hr:=HR.out
        simp only [Prod.mk.injEq] at hr
        obtain ⟨rfl,rfl,rfl⟩:=hr
        have HZ:=aM (HXd.out.keep_ H0.out HPd.out hb_ hk_)
        clear hb_ hk_ hv
        refine Or.inr ⟨_,rfl,?_⟩
        (try go_wp2)
        (try simp only [Exit.inBlock,Exit.then])
        refine leaves_cons (f:=57) (args:=#[.pointer (some ⟨w.heap.size,0,none⟩),.pointer (some ⟨w.heap.size+1,0,none⟩)]) (by simp) (by simp [go_sem]) ?_
        refine (catch_panics _ _ _ _ _ _ _ _ HZ.out.2.1 HZ.out.2.2.1).mono ?_
        rintro e u' w'' ⟨rfl,rfl,rfl⟩
        have hq:=set3_ (W:=World.drew _) HX.out.ne (show (World.drew _).heap[w.heap.size]?=_ from HZ.out.2.1) (show (World.drew _).heap[w.heap.size+1]?=_ from HZ.out.2.2.1) (.slice none 0 0) (.int .i64 q1) (.int .i64 q2)
        refine leaves_settled (results_cc rfl _ _ w.heap.size (w.heap.size+1) 24 28 #[.slice none 0 0] #[.int .i64 q1,.int .i64 q2] (0,0) (0,0) _ _ rfl hq.1 Try.underlying24 rfl (by kernel_rfl) rfl hq.2 Try.underlying28 rfl (by kernel_rfl)) ?_
        exact ⟨_,rfl,Kd.R_nil _ _ _ _ _,below_set (below_set (below_set (below_drew1 HZ.out.1) (Nat.le_refl _)) (Nat.le_succ _)) (Nat.le_succ _)⟩
      have HV_:=aM (show ts2.length<ts.length∧0≤m2∧m2≤4096 from funcP_len hv (by have:=HLN.out;omega) (by have:=HLN.out;omega))
      rw [hv] at h_ hl
      obtain ⟨⟨v1,v3,rfl,hr1,hr3⟩,hp_⟩:=h_
      obtain ⟨A5,c5,rfl⟩:=Kd.R_slice hr1
      obtain ⟨A6,c6,rfl⟩:=Kd.R_slice hr3
      simp only [bind_ok] at hl
      have HL2:=aM hl
      have HX2:=aM (HXd.out.call H0.out HPd.out hp_ hk_)
      have hgB:g≤w3_.heap.size:=by have:=HX2.out.row;have h9:=hp_.b.size;have:=H0.out;omega
      have HR1:=aM (Kd.R_lower hr1 (show g≤_ from by have:=HPd.out.b.size;have:=H0.out;omega))
      have HR3:=aM (Kd.R_lower hr3 (show g≤_ from by have:=HPd.out.b.size;have:=H0.out;omega))
      clear hb_ hk_ hp_ hl hv hr1 hr3
      simp only [fOb]
      refine Or.inl ⟨_,rfl,?_⟩
      refine hK.out _ _ ((blk_cell HX2.out.cp 0)) (fun hHeld=>?_)
      clear hK K
      refine norm_ (a':=?_) ?_ ?_
      rotate_left
      · show Act.put _ (some 39) _=_
        simp only [Act.put,qA,qB,qC,i64_w,i32_w]
        rfl
      refine one_ (i:=4) (N:=some 40) #[true,true,true,true,true,false,false,false] rfl rfl (by kernel_rfl) (by decide) (fun K hK=>?_)
      refine value_ (w1:=?_) (v:=?_) (by rfl) rfl ?_ ?_
      rotate_left 2
      · go_simp
        constructor
        · rfl
        · rfl
      refine hK.out _ _ ((blk_cell (blk_alloc HX2.out.cp (.cells #[.string x.f0,.slice A5 x.f1.length c5,.int .i64 x.f2,.slice A6 x.f3.length c6,.int .i64 x.f4] 34)) 0)) (fun hHeld=>?_)
      clear hK K
      refine norm_ (a':=?_) ?_ ?_
      rotate_left
      · show Act.put _ (some 40) _=_
        simp only [Act.put,qA,qB,qC,i64_w,i32_w]
        rfl
      refine one_ (i:=5) (N:=some 41) #[true,true,true,true,true,true,false,false] rfl rfl (by kernel_rfl) (by decide) (fun K hK=>?_)
      refine Kd.R_append_step k34 (w0:=w3_) g (by rfl) (.tmp 37) (.tmp 40) 22 34 (.agg #[.string ⟨#[]⟩,.slice none 0 0,.int .i64 0,.slice none 0 0,.int .i64 0]) 80 rfl Try.underlying22 (by kernel_rfl) rfl (by decide) (by omega) (.slice A7 fs.length c7) fs x [.string x.f0,.slice A5 x.f1.length c5,.int .i64 x.f2,.slice A6 x.f3.length c6,.int .i64 x.f4] (fun _=>True) (fun k=>True∧some k≠(Value.slice A7 fs.length c7).ownBlock) rfl (by first | rfl | (simp;rfl)) (k34_mkM _ _ _ x (Kd.R_apart' HR1.out (Kd.R_typed HX2.out.row) (by decide)) (Kd.R_apart' HR3.out (Kd.R_typed HX2.out.row) (by decide))) (fun k hk=>⟨trivial,hk.2⟩) (fun k hk=>trivial) HX2.out.row (Below.refl _ _) hgB (by have:=H32.out;omega) ?_
      intro v1 w4_ hr4 hb4 hg4 hv4
      obtain ⟨A8,c8,e8⟩:=Kd.R_slice hr4
      rw [List.length_append,List.length_singleton] at e8
      subst e8
      have B4:=aM ((hg4.block w.heap.size (blk_lt HX2.out.cp) (Kd.R_ne HX2.out.row HX2.out.cp (by decide))).trans HX2.out.cp)
      have HX4:=aM (HX2.out.app hr4 hg4)
      clear hr4 hb4 hg4 hv4
      refine hK.out _ _ ((blk_cell B4.out 0)) (fun hHeld=>?_)
      clear hK K
      refine norm_ (a':=?_) ?_ ?_
      rotate_left
      · show Act.put _ (some 41) _=_
        simp only [Act.put,qA,qB,qC,i64_w,i32_w]
        rfl
      refine pure_ (i:=6) (N:=some 42) (v:=?_) (a':=?_) #[true,true,true,true,true,true,true,false] rfl rfl (by kernel_rfl) (fun _ _ _ h=>leaves_put 42 (by decide) (by decide) h) (Or.inl ⟨by rfl,?_⟩) ?_ ?_
      rotate_left
      · intro w'
        go_simp
        with_reducible rfl
      rotate_left
      · simp only [Act.put,qA,qB,qC,i64_w,i32_w]
        rfl
      refine last_ (i:=7) (N:=none) #[true,true,true,true,true,true,true,true] rfl rfl (by kernel_rfl) (by decide) (fun K hK=>?_)
      have c5_:=blk_cell B4.out 0
      have f5_:=blk_frozen B4.out 0
      refine skip_ (w1:=?_) (by rfl) rfl ?_ ?_
      rotate_left
      · go_simp
        rfl
      refine hK.out _ _ ?_
      clear hK K
      refine done_ (by kernel_rfl) ?_
      generalize w4_.setCell ⟨w.heap.size,0,none⟩ (.slice A8 (fs.length+1) c8)=W8 at HX4 ⊢
      clear HX2 B4 HXd
      go_wp2_with fail
      go_roundg k1
      case measure=>omega
      case rel=>exact ⟨fs++[x],ts2,m2,_,HL2,⟨by have:=HV_.out;have:=HLN.out;omega,HV_.out.2.1,HV_.out.2.2⟩,HX4⟩
end Go.Proofs.Ytkjdblbgmomieaa.PSh
end
