import Derived.Test.YtkjdblbgmomieaaMr15
import Derived.Test.YtkjdblbgmomieaaMr8
-- from YtkjdblbgmomieaaHPOper
section
namespace Go.Proofs.Ytkjdblbgmomieaa.PSh
set_option maxHeartbeats 8000000
set_option maxRecDepth 100000
open Go.RowKit Go.Proofs.YtkjdblbgmomieaaW.PrintWords Go.Proofs.YtkjdblbgmomieaaW.PrintLast Go.Proofs.YtkjdblbgmomieaaW.PrintMore Go.Proofs.Ytkjdblbgmomieaa.Str Go.Proofs.Ytkjdblbgmomieaa.Dig Go.Proofs.Ytkjdblbgmomieaa.DigLaw
set_option linter.unusedVariables false
set_option linter.unusedSimpArgs false
theorem take_len {xs:List Tk} (h:xs≠[]):xs.tail.length+1=xs.length:=by
  cases xs with
  | nil=>exact absurd rfl h
  | cons t ts=>rfl
theorem numberP_ok {en low high:Int} {ts us:List Tk} {v:Int} (h:numberP en low high ts=.ok (v,us)):us=ts.tail:=by
  unfold numberP failP at h
  split at h
  · injection h with h
    injection h with h1 h2
    exact h2.symm
  · cases h
theorem PAt.len {g:Nat} {tl ts:List Tk} {en n:Int} {w0 w1:World} (h:PAt g tl ts en n w0 w1):ts.length≤65536:=by
  obtain ⟨pre,e,-⟩:=h.i
  have:=h.l
  rw [e,List.length_append] at this
  omega
theorem shp_none:shpCode (pk0 [])≠0:=by
  have e:(pk0 []).toList=[]:=ByteArray.toList_empty
  unfold shpCode
  rw [if_neg (by rw [e];simp),if_neg (by decide)]
  decide
theorem take_few:∀ n:Nat,n<30→(takesI (n:Int)).length≤2:=by decide+kernel
theorem take_two (op:Int):(takesI op).length≤2:=by
  by_cases h:op<1∨29<op
  · have:takesI op=[]:=by unfold takesI opOf;rw [if_pos h];rfl
    rw [this];simp
  · obtain ⟨q,rfl⟩:∃ q:Nat,op=q:=⟨op.toNat,by omega⟩
    exact take_few q (by omega)
def OEnd (r:PE (OpR × List Tk)) (g bx:Nat) (tl:List Tk) (op id ty at_ en n:Int) (w0 w:World) (e:Ending) (w':World):Prop:=
  (Below w0.heap.size w0 w'∧KeepBut w w' g (some bx))∧match r with
    | .error q=>e=.panicked (boom q.1 q.2)
    | .ok q=>e=.returned (.tuple #[])∧∃ va vt,IPAt g bx tl q.2 (⟨op,id,q.1.n,ty,q.1.xa,q.1.xt,q.1.nm,at_⟩:SI) va vt en n w0 w w'
theorem oper_cases (op:Int):(op=1)∨(op=10)∨(op=11∨op=12∨op=15)∨(op=13∨op=14)∨(op=20)∨(op=21)∨(op=23)∨(op=24)∨(op=26)∨(op=27)∨(op=28)∨(op=29)∨(op≠1∧op≠10∧op≠11∧op≠12∧op≠15∧op≠13∧op≠14∧op≠20∧op≠21∧op≠23∧op≠24∧op≠26∧op≠27∧op≠28∧op≠29):=by omega
theorem oper_calls (g bx:Nat) (op id ty at_:Int) (tl ts:List Tk) (en n:Int) (w0 w:World) (h:PAt g tl ts en n w0 w) (hx:w.heap[bx]?=some (.cells (iObj (⟨op,id,0,ty,[],[],noB,at_⟩:SI) (.slice none 0 0) (.slice none 0 0)) 39 (0,0))) (hbx:w0.heap.size≤bx):
    Calls Try.prog 100 #[.pointer (some ⟨g,0,none⟩),.pointer (some ⟨bx,0,none⟩)] w (OEnd (operP en op ts) g bx tl op id ty at_ en n w0 w):=by
  have hmf:∀ (fn:Fn) (first cap:Array Value) (w:World),(Instr.makeFunc fn first cap).run Try.prog w=.ok (.func fn first cap) w:=fun _ _ _ _=>rfl
  have hu39:=Try.underlying39
  have HX:=aM (show IPAt g bx tl ts (⟨op,id,0,ty,[],[],noB,at_⟩:SI) (.slice none 0 0) (.slice none 0 0) en n w0 w w from ⟨h,KeepBut.refl w g _,h.b.size,hbx,hx,TwoR.nil _ _⟩)
  obtain ⟨r,hr⟩:∃ r,operP en op ts=r:=⟨_,rfl⟩
  rw [hr]
  clear h hx hbx
  have y0:=HX.out.at1 0
  simp only [iObj] at y0
  rcases oper_cases op with h1 | h1 | h1 | h1 | h1 | h1 | h1 | h1 | h1 | h1 | h1 | h1 | h1
  · subst h1
    unfold operP at hr
    rw [if_pos (by decide)] at hr
    have HR:=aM hr
    clear hr
    go_enter Try.func100,Try.ntmps100
    go_wp2_with fail
    refine (number_calls (-9223372036854775808) 9223372036854775807 HX.out.p).mono ?_
    rintro e w1_ ⟨⟨hb_,hk_⟩,h_⟩
    have hr:=HR.out
    clear HR
    rcases hv:numberP en (-9223372036854775808) 9223372036854775807 ts with q | ⟨v,us⟩
    · rw [hv] at h_ hr
      obtain rfl:=h_
      (try simp only [bind_err] at hr)
      obtain rfl:=hr
      have HZ:=aM (HX.out.bad hb_ hk_)
      clear hb_ hk_ hv
      go_wp2
      exact ⟨rfl,HZ.out,rfl⟩
    have HV1:=aM hv
    rw [hv] at h_ hr
    obtain ⟨rfl,hp_⟩:=h_
    (try simp only [bind_ok] at hr)
    have HX1_:=aM (HX.out.call hp_ hk_)
    have HR:=aM hr
    clear hb_ hk_ hp_ hr hv
    have hr:=HR.out
    clear HR
    obtain rfl:=hr
    have y2_:=HX1_.out.at1 2
    have f2_:=blk_frozen HX1_.out.box 2
    simp only [iObj] at y2_
    have HX2_:=aM (HX1_.out.put (⟨1,id,v,ty,[],[],noB,at_⟩:SI) 2 (.int .i64 v) rfl rfl rfl)
    go_wp2
    (first | go_end0 | ((try simp only [Exit.inBlock,Exit.then]);refine bodyPost_ret (results_none rfl _ _ _) rfl ?_))
    exact ⟨⟨HX2_.out.p.b,HX2_.out.k⟩,rfl,_,_,HX2_.out⟩
  · subst h1
    unfold operP at hr
    rw [if_neg (by decide),if_pos (by decide)] at hr
    have HR:=aM hr
    clear hr
    obtain ⟨sa,sb,hs⟩:∃ sa sb,shape_Parse.f (pk0 ts)=some (sa,sb,shpCode (pk0 ts)):=by
      unfold shape_Parse.f
      split<;>exact ⟨_,_,rfl⟩
    have HS:=aM hs
    clear hs
    go_enter Try.func100,Try.ntmps100
    go_wp2_with fail
    refine (peek0_calls HX.out.p).mono ?_
    rintro e w1_ ⟨rfl,hp_,hk_⟩
    have HX1_:=aM (HX.out.call hp_ hk_)
    clear hp_ hk_
    go_wp2_with fail
    refine (shape_Parse.calls (pk0 ts) sa sb (shpCode (pk0 ts)) _ HS.out).mono ?_
    rintro e w2_ ⟨rfl,hb_⟩
    have HX2_:=aM (HX1_.out.below hb_)
    clear hb_
    by_cases cs:shpCode (pk0 ts)=0
    rotate_left
    · have hr:=HR.out
      rw [if_neg cs] at hr
      obtain rfl:=hr
      have g1:(shpCode (pk0 ts) !=0)=true:=bne_iff_ne.mpr cs
      clear cs HR
      have HX3_:=aM (HX2_.out.below (below_alloc (Below.refl _ _) (.cells #[.int .i64 sa,.int .i64 sb] 73)))
      go_wp2_with fail
      refine (fail_calls (c:=shpCode (pk0 ts)) HX3_.out.p).mono ?_
      rintro e w9 ⟨rfl,hb_,hk_⟩
      have HZ:=aM (HX3_.out.bad hb_ hk_)
      clear hb_ hk_
      go_wp2
      exact ⟨rfl,HZ.out,rfl⟩
    have hr:=HR.out
    rw [if_pos cs] at hr
    obtain rfl:=hr
    have g1:(shpCode (pk0 ts) !=0)=false:=bne_eq_false_iff_eq.mpr cs
    have HNE:=aM (show ts≠[] from fun e=>shp_none (by rw [← e];exact cs))
    clear cs HR
    have HX3_:=aM (HX2_.out.below (below_alloc (Below.refl _ _) (.cells #[.int .i64 sa,.int .i64 sb] 73)))
    go_wp2_with fail
    refine (peek0_calls HX3_.out.p).mono ?_
    rintro e w4_ ⟨rfl,hp_,hk_⟩
    have HX4_:=aM (HX3_.out.call hp_ hk_)
    clear hp_ hk_
    have y6_:=HX4_.out.at1 6
    have f6_:=blk_frozen HX4_.out.box 6
    simp only [iObj] at y6_
    have HX5_:=aM (HX4_.out.put (⟨10,id,0,ty,[],[],(pk0 ts),at_⟩:SI) 6 (.string (pk0 ts)) rfl rfl rfl)
    go_upto_region 13 with (fail)
    obtain ⟨a_,hc1,hf1,hst_⟩:=HX5_.out.p.where_
    have HX6_:=aM (HX5_.out.step (hst_ HNE.out))
    clear hst_
    go_wp2
    (first | go_end0 | ((try simp only [Exit.inBlock,Exit.then]);refine bodyPost_ret (results_none rfl _ _ _) rfl ?_))
    exact ⟨⟨HX6_.out.p.b,HX6_.out.k⟩,rfl,_,_,HX6_.out⟩
  · rcases h1 with rfl | rfl | rfl
    all_goals
      unfold operP at hr
      rw [if_neg (by decide),if_neg (by decide),if_pos (by decide)] at hr
      have HR:=aM hr
      clear hr
      go_enter Try.func100,Try.ntmps100
      go_wp2_with fail
      refine (value_calls HX.out.p).mono ?_
      rintro e w1_ ⟨⟨hb_,hk_⟩,h_⟩
      have hr:=HR.out
      clear HR
      rcases hv:valueP en ts with q | ⟨v,us⟩
      · rw [hv] at h_ hr
        obtain rfl:=h_
        (try simp only [bind_err] at hr)
        obtain rfl:=hr
        have HZ:=aM (HX.out.bad hb_ hk_)
        clear hb_ hk_ hv
        go_wp2
        exact ⟨rfl,HZ.out,rfl⟩
      have HV1:=aM hv
      rw [hv] at h_ hr
      obtain ⟨rfl,hp_⟩:=h_
      (try simp only [bind_ok] at hr)
      have HX1_:=aM (HX.out.call hp_ hk_)
      have HR:=aM hr
      clear hb_ hk_ hp_ hr hv
      have hbx_:=blk_alloc HX1_.out.box (.cells #[.int .i64 v] 3)
      have y4_:=blk_cell hbx_ 4
      have f4_:=blk_frozen hbx_ 4
      simp only [iObj] at y4_
      have HX2_:=aM (HX1_.out.newA [v] (by simp))
      clear hbx_
      go_wp2_with fail
      refine (number_calls 0 15 HX2_.out.p).mono ?_
      rintro e w2_ ⟨⟨hb_,hk_⟩,h_⟩
      have hr:=HR.out
      clear HR
      rcases hv:numberP en 0 15 us with q | ⟨z,us2⟩
      · rw [hv] at h_ hr
        obtain rfl:=h_
        (try simp only [bind_err] at hr)
        obtain rfl:=hr
        have HZ:=aM (HX2_.out.bad hb_ hk_)
        clear hb_ hk_ hv
        go_wp2
        exact ⟨rfl,HZ.out,rfl⟩
      have HV2:=aM hv
      rw [hv] at h_ hr
      obtain ⟨rfl,hp_⟩:=h_
      (try simp only [bind_ok] at hr)
      have HX3_:=aM (HX2_.out.call hp_ hk_)
      have HR:=aM hr
      clear hb_ hk_ hp_ hr hv
      have hr:=HR.out
      clear HR
      obtain rfl:=hr
      have y2_:=HX3_.out.at1 2
      have f2_:=blk_frozen HX3_.out.box 2
      simp only [iObj] at y2_
      have HX4_:=aM (HX3_.out.put { (⟨_,id,0,ty,[],[],noB,at_⟩:SI) with f4:=[v],f2:=z } 2 (.int .i64 z) rfl rfl rfl)
      go_wp2
      (first | go_end0 | ((try simp only [Exit.inBlock,Exit.then]);refine bodyPost_ret (results_none rfl _ _ _) rfl ?_))
      exact ⟨⟨HX4_.out.p.b,HX4_.out.k⟩,rfl,_,_,HX4_.out⟩
  · rcases h1 with rfl | rfl
    all_goals
      unfold operP at hr
      rw [if_neg (by decide),if_neg (by decide),if_neg (by decide),if_pos (by decide)] at hr
      have HR:=aM hr
      clear hr
      go_enter Try.func100,Try.ntmps100
      go_wp2_with fail
      refine (value_calls HX.out.p).mono ?_
      rintro e w1_ ⟨⟨hb_,hk_⟩,h_⟩
      have hr:=HR.out
      clear HR
      rcases hv:valueP en ts with q | ⟨v,us⟩
      · rw [hv] at h_ hr
        obtain rfl:=h_
        (try simp only [bind_err] at hr)
        obtain rfl:=hr
        have HZ:=aM (HX.out.bad hb_ hk_)
        clear hb_ hk_ hv
        go_wp2
        exact ⟨rfl,HZ.out,rfl⟩
      have HV1:=aM hv
      rw [hv] at h_ hr
      obtain ⟨rfl,hp_⟩:=h_
      (try simp only [bind_ok] at hr)
      have HX1_:=aM (HX.out.call hp_ hk_)
      have HR:=aM hr
      clear hb_ hk_ hp_ hr hv
      go_wp2_with fail
      refine (number_calls 0 15 HX1_.out.p).mono ?_
      rintro e w2_ ⟨⟨hb_,hk_⟩,h_⟩
      have hr:=HR.out
      clear HR
      rcases hv:numberP en 0 15 us with q | ⟨z,us2⟩
      · rw [hv] at h_ hr
        obtain rfl:=h_
        (try simp only [bind_err] at hr)
        obtain rfl:=hr
        have HZ:=aM (HX1_.out.bad hb_ hk_)
        clear hb_ hk_ hv
        go_wp2
        exact ⟨rfl,HZ.out,rfl⟩
      have HV2:=aM hv
      rw [hv] at h_ hr
      obtain ⟨rfl,hp_⟩:=h_
      (try simp only [bind_ok] at hr)
      have HX2_:=aM (HX1_.out.call hp_ hk_)
      have HR:=aM hr
      clear hb_ hk_ hp_ hr hv
      have y2_:=HX2_.out.at1 2
      have f2_:=blk_frozen HX2_.out.box 2
      simp only [iObj] at y2_
      have HX3_:=aM (HX2_.out.put { (⟨_,id,0,ty,[],[],noB,at_⟩:SI) with f2:=z } 2 (.int .i64 z) rfl rfl rfl)
      go_wp2_with fail
      refine (value_calls HX3_.out.p).mono ?_
      rintro e w3_ ⟨⟨hb_,hk_⟩,h_⟩
      have hr:=HR.out
      clear HR
      rcases hv:valueP en us2 with q | ⟨u,us3⟩
      · rw [hv] at h_ hr
        obtain rfl:=h_
        (try simp only [bind_err] at hr)
        obtain rfl:=hr
        have HZ:=aM (HX3_.out.bad hb_ hk_)
        clear hb_ hk_ hv
        go_wp2
        exact ⟨rfl,HZ.out,rfl⟩
      have HV3:=aM hv
      rw [hv] at h_ hr
      obtain ⟨rfl,hp_⟩:=h_
      (try simp only [bind_ok] at hr)
      have HX4_:=aM (HX3_.out.call hp_ hk_)
      have HR:=aM hr
      clear hb_ hk_ hp_ hr hv
      have hr:=HR.out
      clear HR
      obtain rfl:=hr
      have hbx_:=blk_alloc HX4_.out.box (.cells #[.int .i64 v,.int .i64 u] 3)
      have y4_:=blk_cell hbx_ 4
      have f4_:=blk_frozen hbx_ 4
      simp only [iObj] at y4_
      have HX5_:=aM (HX4_.out.newA [v,u] (by simp))
      clear hbx_
      go_wp2
      (first | go_end0 | ((try simp only [Exit.inBlock,Exit.then]);refine bodyPost_ret (results_none rfl _ _ _) rfl ?_))
      exact ⟨⟨HX5_.out.p.b,HX5_.out.k⟩,rfl,_,_,HX5_.out⟩
  · subst h1
    unfold operP at hr
    rw [if_neg (by decide),if_neg (by decide),if_neg (by decide),if_neg (by decide),if_pos (by decide)] at hr
    have HR:=aM hr
    clear hr
    go_enter Try.func100,Try.ntmps100
    obtain ⟨R,hR⟩:∃ R,phiP en (ts.length+1) [] [] ts=R:=⟨_,rfl⟩
    have hr:=HR.out
    rw [hR] at hr
    have HR:=aM hr
    have HF:=aM hR
    clear hr hR
    go_wp2
    (try simp only [Act.put,qA,qB,qC])
    clear y0
    go_loopg [] (ts.length+1) (fun kq w'=>∃ (xa xt:List Int) (us:List Tk) (va vt:Value),Aside0 (phiP en kq xa xt us=R)∧Aside0 (us.length<kq∧xt.length+us.length≤65536∧xa.length=xt.length)∧Aside0 (IPAt g bx tl us (⟨20,id,0,ty,xa,xt,noB,at_⟩:SI) va vt en n w0 w w'))
    case atStart=>exact ⟨[],[],ts,_,_,HF,⟨Nat.lt_succ_self _,by have:=HX.out.p.len;simpa using this,rfl⟩,HX⟩
    case round=>
      clear HX HF
      obtain ⟨xa,xt,us,va,vt,HF,HLN,HX⟩:=hrel
      obtain ⟨Aa,ca,At,ct,ea,et⟩:=HX.out.sl
      simp only at ea et
      subst ea
      subst et
      cases gk with
      | zero=>exact absurd HLN.out.1 (by omega)
      | succ m=>
        have hl:=HF.out
        simp only [phiP] at hl
        obtain ⟨c,hc⟩:∃ c,((xt.length==0) || pairP us)=c:=⟨_,rfl⟩
        rw [hc] at hl
        have HC:=aM hc
        have HF:=aM hl
        clear hc hl
        go_upto_region 25 with (fail)
        go_cut [131] (fun v131 wc=>v131=.bool c∧Aside0 (IPAt g bx tl us (⟨20,id,0,ty,xa,xt,noB,at_⟩:SI) (.slice Aa xa.length ca) (.slice At xt.length ct) en n w0 w wc))
        case first=>
          have hc:=HC.out
          clear HC HF
          have y5:=HX.out.at1 5
          simp only [iObj] at y5
          by_cases z:xt.length=0
          · rw [beq_iff_eq.mpr z,Bool.true_or] at hc
            subst hc
            have z1:((xt.length:Int)==0)=true:=beq_iff_eq.mpr (by omega)
            have z2:(xt.length==0)=true:=beq_iff_eq.mpr z
            clear z
            go_wp2_with fail
            go_meet
            exact ⟨rfl,HX⟩
          rw [beq_eq_false_iff_ne.mpr z,Bool.false_or] at hc
          have z1:((xt.length:Int)==0)=false:=beq_eq_false_iff_ne.mpr (by omega)
          have z2:(xt.length==0)=false:=beq_eq_false_iff_ne.mpr z
          clear z
          unfold pairP at hc
          have HC:=aM hc
          clear hc
          go_wp2_with fail
          refine (peek0_calls HX.out.p).mono ?_
          rintro e w11_ ⟨rfl,hp_,hk_⟩
          have HX11_:=aM (HX.out.call hp_ hk_)
          clear hp_ hk_
          clear y5
          by_cases z:0<(pk0 us).size
          rotate_left
          · have hc:=HC.out
            rw [decide_eq_false z,Bool.false_and,Bool.false_and,Bool.false_and] at hc
            subst hc
            have z3:decide ((0:Int)<((pk0 us).size:Int))=false:=decide_eq_false (by omega)
            have z4:decide (0<(pk0 us).size)=false:=decide_eq_false z
            clear z HC
            go_wp2_with fail
            go_meet
            exact ⟨rfl,HX11_⟩
          have z3:decide ((0:Int)<((pk0 us).size:Int))=true:=decide_eq_true (by omega)
          have z4:decide (0<(pk0 us).size)=true:=decide_eq_true z
          have q1:((0:Int)<((pk0 us).size:Int))=True:=eq_true (by omega)
          have q2:(0<(pk0 us).size)=True:=eq_true z
          have hbt:(((pk0 us)[0]'z).toNat:Int)=bt (pk0 us) 0:=bt_at (pk0 us) 0 z
          have hc:=HC.out
          rw [z4,Bool.true_and] at hc
          have HC:=aM hc
          clear hc
          go_wp2_with fail
          refine (peek0_calls HX11_.out.p).mono ?_
          rintro e w12_ ⟨rfl,hp_,hk_⟩
          have HX12_:=aM (HX11_.out.call hp_ hk_)
          clear hp_ hk_
          by_cases y:bt (pk0 us) 0=98
          rotate_left
          · have hc:=HC.out
            rw [beq_eq_false_iff_ne.mpr y,Bool.false_and,Bool.false_and] at hc
            subst hc
            have y1:(bt (pk0 us) 0==98)=false:=beq_eq_false_iff_ne.mpr y
            clear y HC
            go_wp2_with fail
            go_meet
            exact ⟨rfl,HX12_⟩
          have y1:(bt (pk0 us) 0==98)=true:=beq_iff_eq.mpr y
          have hc:=HC.out
          rw [y1,Bool.true_and] at hc
          have HC:=aM hc
          clear hc
          go_wp2_with fail
          refine (peek0_calls HX12_.out.p).mono ?_
          rintro e w13_ ⟨rfl,hp_,hk_⟩
          have HX13_:=aM (HX12_.out.call hp_ hk_)
          clear hp_ hk_
          by_cases x:(pk0 us).toList=([98,114]:List UInt8)
          · have hc:=HC.out
            rw [bne_eq_false_iff_eq.mpr x,Bool.false_and] at hc
            subst hc
            have x1:((pk0 us).toList !=([98,114]:List UInt8))=false:=bne_eq_false_iff_eq.mpr x
            have x2:((pk0 us).toList==([98,114]:List UInt8))=true:=beq_iff_eq.mpr x
            clear x HC
            go_wp2_with fail
            go_meet
            exact ⟨rfl,HX13_⟩
          have x1:((pk0 us).toList !=([98,114]:List UInt8))=true:=bne_iff_ne.mpr x
          have x2:((pk0 us).toList==([98,114]:List UInt8))=false:=beq_eq_false_iff_ne.mpr x
          have hc:=HC.out
          rw [x1,Bool.true_and] at hc
          subst hc
          clear HC x
          go_wp2_with fail
          refine (peek1_calls HX13_.out.p).mono ?_
          rintro e w14_ ⟨rfl,hp_,hk_⟩
          have HX14_:=aM (HX13_.out.call hp_ hk_)
          clear hp_ hk_
          go_wp2_with fail
          go_meet
          exact ⟨rfl,HX14_⟩
        case rest=>
          clear HX HC
          obtain ⟨rfl,HX⟩:=hcut
          cases c with
          | false=>
            have hl:=HF.out
            rw [if_neg (by decide)] at hl
            have hr:=HR.out
            rw [← hl] at hr
            simp only [bind_ok] at hr
            obtain rfl:=hr
            clear hl HF HR
            go_wp2
            (first | go_end0 | ((try simp only [Exit.inBlock,Exit.then]);refine bodyPost_ret (results_none rfl _ _ _) rfl ?_))
            exact ⟨⟨HX.out.p.b,HX.out.k⟩,rfl,_,_,HX.out⟩
          | true=>
            have hl:=HF.out
            rw [if_pos rfl] at hl
            have HL:=aM hl
            clear hl HF
            go_upto_region 26 with (fail)
            have HXd:=aM (HX.out.below (below_drew1 (Below.refl _ _)))
            clear HX
            refine start_ (n:=12) (S:=fun w'=>w'.cell? ⟨bx,5,none⟩=some (.slice At xt.length ct)) (ds:=[11]) #[false,false,false,false,false,false,false,false,false,false,false,false] (by kernel_rfl) rfl rfl ((HXd.out.at1 5)) (fun hHeld=>?_)
            refine pure_ (i:=0) (N:=some 132) (v:=?_) (a':=?_) #[true,false,false,false,false,false,false,false,false,false,false,false] rfl rfl (by kernel_rfl) (fun _ _ _ h=>h) (Or.inl ⟨by rfl,?_⟩) ?_ ?_
            rotate_left
            · intro w'
              go_simp
              with_reducible rfl
            rotate_left
            · simp only [Act.put,qA,qB,qC,i64_w,i32_w]
              rfl
            refine pure_ (i:=1) (N:=some 133) (v:=?_) (a':=?_) #[true,true,false,false,false,false,false,false,false,false,false,false] rfl rfl (by kernel_rfl) (fun _ _ _ h=>h) (Or.inl ⟨by rfl,?_⟩) ?_ ?_
            rotate_left
            · intro w'
              go_simp
              with_reducible rfl
            rotate_left
            · simp only [Act.put,qA,qB,qC,i64_w,i32_w]
              rfl
            refine pure_ (i:=2) (N:=some 134) (v:=?_) (a':=?_) #[true,true,true,false,false,false,false,false,false,false,false,false] rfl rfl (by kernel_rfl) (fun _ _ _ h=>h) (Or.inl ⟨by rfl,?_⟩) ?_ ?_
            rotate_left
            · intro w'
              go_simp
              with_reducible rfl
            rotate_left
            · simp only [Act.put,qA,qB,qC,i64_w,i32_w]
              rfl
            refine pure_ (i:=3) (N:=some 135) (v:=?_) (a':=?_) #[true,true,true,true,false,false,false,false,false,false,false,false] rfl rfl (by kernel_rfl) (fun _ _ _ h=>h) (Or.inl ⟨by rfl,?_⟩) ?_ ?_
            rotate_left
            · intro w'
              go_simp
              with_reducible rfl
            rotate_left
            · simp only [Act.put,qA,qB,qC,i64_w,i32_w]
              rfl
            refine pure_ (i:=5) (N:=some 137) (v:=?_) (a':=?_) #[true,true,true,true,false,true,false,false,false,false,false,false] rfl rfl (by kernel_rfl) (fun _ _ _ h=>h) (Or.inl ⟨by rfl,?_⟩) ?_ ?_
            rotate_left
            · intro w'
              go_simp
              with_reducible rfl
            rotate_left
            · simp only [Act.put,qA,qB,qC,i64_w,i32_w]
              rfl
            refine take_ (i:=4) (N:=some 136) (v:=?_) (a':=?_) #[true,true,true,true,true,true,false,false,false,false,false,false] rfl rfl (by kernel_rfl) (fun _ _ _ h=>h) (Or.inl ⟨by rfl,?_⟩) hHeld ?_ ?_
            rotate_left
            · intro w' s0
              go_simp
              with_reducible rfl
            rotate_left
            · simp only [Act.put,qA,qB,qC,i64_w,i32_w]
              rfl
            refine one_ (i:=6) (N:=some 138) #[true,true,true,true,true,true,true,false,false,false,false,false] rfl rfl (by kernel_rfl) (by decide) (fun K hK=>?_)
            refine goesVP_ Try.func106 (by kernel_rfl) rfl #[.pointer (some ⟨g,0,none⟩)] (by rfl) rfl rfl (by rfl) ?_
            with_reducible refine (label_calls HXd.out.p).mono ?_
            rintro e w3_ ⟨⟨hb_,hk_⟩,h_⟩
            have hl:=HL.out
            rcases hv:labelP en us with q | ⟨lb,us1⟩
            · rw [hv] at h_ hl
              obtain rfl:=h_
              simp only [bind_err] at hl
              subst hl
              have hr:=HR.out
              simp only [bind_err] at hr
              obtain rfl:=hr
              have HZ:=aM (HXd.out.bad hb_ hk_)
              clear hb_ hk_ hv
              refine Or.inr ⟨_,rfl,?_⟩
              (try go_wp2)
              (try simp only [Exit.inBlock,Exit.then])
              exact ⟨rfl,HZ.out,rfl⟩
            have HV_:=aM (indexP_ok hv)
            rw [hv] at h_ hl
            obtain ⟨rfl,hp_⟩:=h_
            simp only [bind_ok] at hl
            have HL2:=aM hl
            have HX2:=aM (HXd.out.call hp_ hk_)
            clear hb_ hk_ hp_ hl hv
            refine Or.inl ⟨_,rfl,?_⟩
            refine hK.out _ _ ((HX2.out.at1 5)) (fun hHeld=>?_)
            clear hK K
            refine norm_ (a':=?_) ?_ ?_
            rotate_left
            · show Act.put _ (some 138) _=_
              simp only [Act.put,qA,qB,qC,i64_w,i32_w]
              rfl
            refine one_ (i:=7) (N:=some 139) #[true,true,true,true,true,true,true,true,false,false,false,false] rfl rfl (by kernel_rfl) (by decide) (fun K hK=>?_)
            refine value_ (w1:=?_) (v:=?_) (by rfl) rfl ?_ ?_
            rotate_left 2
            · go_simp
              constructor
              · rfl
              · rfl
            refine hK.out _ _ ((blk_cell (blk_alloc HX2.out.box (.cells #[.int .i64 lb] 3)) 5)) (fun hHeld=>?_)
            clear hK K
            refine norm_ (a':=?_) ?_ ?_
            rotate_left
            · show Act.put _ (some 139) _=_
              simp only [Act.put,qA,qB,qC,i64_w,i32_w]
              rfl
            refine one_ (i:=8) (N:=some 140) #[true,true,true,true,true,true,true,true,true,false,false,false] rfl rfl (by kernel_rfl) (by decide) (fun K hK=>?_)
            refine Kd.R_append_step (Kd.int .i64) (w0:=w3_) w.heap.size (by rfl) (.tmp 136) (.tmp 139) 31 3 (.int .i64 0) 8 rfl Try.underlying31 (by kernel_rfl) rfl (by decide) (by omega) (.slice At xt.length ct) xt lb [.int .i64 lb] (fun _=>True) (fun k=>True∧some k≠(Value.slice At xt.length ct).ownBlock) rfl (by first | rfl | (simp;rfl)) rfl (fun k hk=>⟨trivial,hk.2⟩) (fun k hk=>trivial) HX2.out.two.rt (Below.refl _ _) (keep_size HX2.out.k) (by have:=HLN.out;omega) ?_
            intro v1 w4_ hr4 hb4 hg4 hv4
            obtain ⟨A6,c6,e6⟩:=Kd.R_slice hr4
            rw [List.length_append,List.length_singleton] at e6
            subst e6
            have B4:=aM ((hg4.block bx (blk_lt HX2.out.box) (Kd.R_ne HX2.out.two.rt HX2.out.box (by decide))).trans HX2.out.box)
            have HX4:=aM (HX2.out.app hg4 (.inr rfl) (⟨20,id,0,ty,xa,xt++[lb],noB,at_⟩:SI) 5 (.slice A6 (xt.length+1) c6) rfl (HX2.out.two.appT hr4 hg4 hv4))
            clear hr4 hb4 hg4 hv4
            refine hK.out _ _ ((blk_cell B4.out 5)) (fun hHeld=>?_)
            clear hK K
            refine norm_ (a':=?_) ?_ ?_
            rotate_left
            · show Act.put _ (some 140) _=_
              simp only [Act.put,qA,qB,qC,i64_w,i32_w]
              rfl
            refine pure_ (i:=9) (N:=some 141) (v:=?_) (a':=?_) #[true,true,true,true,true,true,true,true,true,true,false,false] rfl rfl (by kernel_rfl) (fun _ _ _ h=>h) (Or.inl ⟨by rfl,?_⟩) ?_ ?_
            rotate_left
            · intro w'
              go_simp
              with_reducible rfl
            rotate_left
            · simp only [Act.put,qA,qB,qC,i64_w,i32_w]
              rfl
            refine pure_ (i:=10) (N:=some 142) (v:=?_) (a':=?_) #[true,true,true,true,true,true,true,true,true,true,true,false] rfl rfl (by kernel_rfl) (fun _ _ _ h=>h) (Or.inl ⟨by rfl,?_⟩) ?_ ?_
            rotate_left
            · intro w'
              go_simp
              with_reducible rfl
            rotate_left
            · simp only [Act.put,qA,qB,qC,i64_w,i32_w]
              rfl
            refine last_ (i:=11) (N:=none) #[true,true,true,true,true,true,true,true,true,true,true,true] rfl rfl (by kernel_rfl) (by decide) (fun K hK=>?_)
            have c5_:=blk_cell B4.out 5
            have f5_:=blk_frozen B4.out 5
            simp only [iObj] at c5_
            refine skip_ (w1:=?_) (by rfl) rfl ?_ ?_
            rotate_left
            · go_simp
              rfl
            refine hK.out _ _ ?_
            clear hK K
            refine done_ (by kernel_rfl) ?_
            generalize w4_.setCell ⟨bx,5,none⟩ (.slice A6 (xt.length+1) c6)=w5 at HX4 ⊢
            clear HX2 B4 HXd
            have HL:=HL2
            have HX:=HX4
            have HU:=HV_
            clear HX4 HL2 HV_
            go_upto_region 27 with (fail)
            have HXd:=aM (HX.out.below (below_drew1 (Below.refl _ _)))
            clear HX
            refine start_ (n:=12) (S:=fun w'=>w'.cell? ⟨bx,4,none⟩=some (.slice Aa xa.length ca)) (ds:=[11]) #[false,false,false,false,false,false,false,false,false,false,false,false] (by kernel_rfl) rfl rfl ((HXd.out.at1 4)) (fun hHeld=>?_)
            refine pure_ (i:=0) (N:=some 143) (v:=?_) (a':=?_) #[true,false,false,false,false,false,false,false,false,false,false,false] rfl rfl (by kernel_rfl) (fun _ _ _ h=>h) (Or.inl ⟨by rfl,?_⟩) ?_ ?_
            rotate_left
            · intro w'
              go_simp
              with_reducible rfl
            rotate_left
            · simp only [Act.put,qA,qB,qC,i64_w,i32_w]
              rfl
            refine pure_ (i:=1) (N:=some 144) (v:=?_) (a':=?_) #[true,true,false,false,false,false,false,false,false,false,false,false] rfl rfl (by kernel_rfl) (fun _ _ _ h=>h) (Or.inl ⟨by rfl,?_⟩) ?_ ?_
            rotate_left
            · intro w'
              go_simp
              with_reducible rfl
            rotate_left
            · simp only [Act.put,qA,qB,qC,i64_w,i32_w]
              rfl
            refine pure_ (i:=2) (N:=some 145) (v:=?_) (a':=?_) #[true,true,true,false,false,false,false,false,false,false,false,false] rfl rfl (by kernel_rfl) (fun _ _ _ h=>h) (Or.inl ⟨by rfl,?_⟩) ?_ ?_
            rotate_left
            · intro w'
              go_simp
              with_reducible rfl
            rotate_left
            · simp only [Act.put,qA,qB,qC,i64_w,i32_w]
              rfl
            refine pure_ (i:=3) (N:=some 146) (v:=?_) (a':=?_) #[true,true,true,true,false,false,false,false,false,false,false,false] rfl rfl (by kernel_rfl) (fun _ _ _ h=>h) (Or.inl ⟨by rfl,?_⟩) ?_ ?_
            rotate_left
            · intro w'
              go_simp
              with_reducible rfl
            rotate_left
            · simp only [Act.put,qA,qB,qC,i64_w,i32_w]
              rfl
            refine pure_ (i:=5) (N:=some 148) (v:=?_) (a':=?_) #[true,true,true,true,false,true,false,false,false,false,false,false] rfl rfl (by kernel_rfl) (fun _ _ _ h=>h) (Or.inl ⟨by rfl,?_⟩) ?_ ?_
            rotate_left
            · intro w'
              go_simp
              with_reducible rfl
            rotate_left
            · simp only [Act.put,qA,qB,qC,i64_w,i32_w]
              rfl
            refine take_ (i:=4) (N:=some 147) (v:=?_) (a':=?_) #[true,true,true,true,true,true,false,false,false,false,false,false] rfl rfl (by kernel_rfl) (fun _ _ _ h=>h) (Or.inl ⟨by rfl,?_⟩) hHeld ?_ ?_
            rotate_left
            · intro w' s0
              go_simp
              with_reducible rfl
            rotate_left
            · simp only [Act.put,qA,qB,qC,i64_w,i32_w]
              rfl
            refine one_ (i:=6) (N:=some 149) #[true,true,true,true,true,true,true,false,false,false,false,false] rfl rfl (by kernel_rfl) (by decide) (fun K hK=>?_)
            refine goesVP_ Try.func98 (by kernel_rfl) rfl #[.pointer (some ⟨g,0,none⟩)] (by rfl) rfl rfl (by rfl) ?_
            with_reducible refine (value_calls HXd.out.p).mono ?_
            rintro e w3_ ⟨⟨hb_,hk_⟩,h_⟩
            have hl:=HL.out
            rcases hv:valueP en us1 with q | ⟨va_,us2⟩
            · rw [hv] at h_ hl
              obtain rfl:=h_
              simp only [bind_err] at hl
              subst hl
              have hr:=HR.out
              simp only [bind_err] at hr
              obtain rfl:=hr
              have HZ:=aM (HXd.out.bad hb_ hk_)
              clear hb_ hk_ hv
              refine Or.inr ⟨_,rfl,?_⟩
              (try go_wp2)
              (try simp only [Exit.inBlock,Exit.then])
              exact ⟨rfl,HZ.out,rfl⟩
            have HV_:=aM (indexP_ok hv)
            rw [hv] at h_ hl
            obtain ⟨rfl,hp_⟩:=h_
            simp only [bind_ok] at hl
            have HL2:=aM hl
            have HX2:=aM (HXd.out.call hp_ hk_)
            clear hb_ hk_ hp_ hl hv
            refine Or.inl ⟨_,rfl,?_⟩
            refine hK.out _ _ ((HX2.out.at1 4)) (fun hHeld=>?_)
            clear hK K
            refine norm_ (a':=?_) ?_ ?_
            rotate_left
            · show Act.put _ (some 149) _=_
              simp only [Act.put,qA,qB,qC,i64_w,i32_w]
              rfl
            refine one_ (i:=7) (N:=some 150) #[true,true,true,true,true,true,true,true,false,false,false,false] rfl rfl (by kernel_rfl) (by decide) (fun K hK=>?_)
            refine value_ (w1:=?_) (v:=?_) (by rfl) rfl ?_ ?_
            rotate_left 2
            · go_simp
              constructor
              · rfl
              · rfl
            refine hK.out _ _ ((blk_cell (blk_alloc HX2.out.box (.cells #[.int .i64 va_] 3)) 4)) (fun hHeld=>?_)
            clear hK K
            refine norm_ (a':=?_) ?_ ?_
            rotate_left
            · show Act.put _ (some 150) _=_
              simp only [Act.put,qA,qB,qC,i64_w,i32_w]
              rfl
            refine one_ (i:=8) (N:=some 151) #[true,true,true,true,true,true,true,true,true,false,false,false] rfl rfl (by kernel_rfl) (by decide) (fun K hK=>?_)
            refine Kd.R_append_step (Kd.int .i64) (w0:=w3_) w.heap.size (by rfl) (.tmp 147) (.tmp 150) 31 3 (.int .i64 0) 8 rfl Try.underlying31 (by kernel_rfl) rfl (by decide) (by omega) (.slice Aa xa.length ca) xa va_ [.int .i64 va_] (fun _=>True) (fun k=>True∧some k≠(Value.slice Aa xa.length ca).ownBlock) rfl (by first | rfl | (simp;rfl)) rfl (fun k hk=>⟨trivial,hk.2⟩) (fun k hk=>trivial) HX2.out.two.ra (Below.refl _ _) (keep_size HX2.out.k) (by have:=HLN.out;omega) ?_
            intro v1 w4_ hr4 hb4 hg4 hv4
            obtain ⟨A6,c6,e6⟩:=Kd.R_slice hr4
            rw [List.length_append,List.length_singleton] at e6
            subst e6
            have B4:=aM ((hg4.block bx (blk_lt HX2.out.box) (Kd.R_ne HX2.out.two.ra HX2.out.box (by decide))).trans HX2.out.box)
            have HX4:=aM (HX2.out.app hg4 (.inl rfl) (⟨20,id,0,ty,xa++[va_],xt++[lb],noB,at_⟩:SI) 4 (.slice A6 (xa.length+1) c6) rfl (HX2.out.two.appA hr4 hg4 hv4))
            clear hr4 hb4 hg4 hv4
            refine hK.out _ _ ((blk_cell B4.out 4)) (fun hHeld=>?_)
            clear hK K
            refine norm_ (a':=?_) ?_ ?_
            rotate_left
            · show Act.put _ (some 151) _=_
              simp only [Act.put,qA,qB,qC,i64_w,i32_w]
              rfl
            refine pure_ (i:=9) (N:=some 152) (v:=?_) (a':=?_) #[true,true,true,true,true,true,true,true,true,true,false,false] rfl rfl (by kernel_rfl) (fun _ _ _ h=>h) (Or.inl ⟨by rfl,?_⟩) ?_ ?_
            rotate_left
            · intro w'
              go_simp
              with_reducible rfl
            rotate_left
            · simp only [Act.put,qA,qB,qC,i64_w,i32_w]
              rfl
            refine pure_ (i:=10) (N:=some 153) (v:=?_) (a':=?_) #[true,true,true,true,true,true,true,true,true,true,true,false] rfl rfl (by kernel_rfl) (fun _ _ _ h=>h) (Or.inl ⟨by rfl,?_⟩) ?_ ?_
            rotate_left
            · intro w'
              go_simp
              with_reducible rfl
            rotate_left
            · simp only [Act.put,qA,qB,qC,i64_w,i32_w]
              rfl
            refine last_ (i:=11) (N:=none) #[true,true,true,true,true,true,true,true,true,true,true,true] rfl rfl (by kernel_rfl) (by decide) (fun K hK=>?_)
            have c5_:=blk_cell B4.out 4
            have f5_:=blk_frozen B4.out 4
            simp only [iObj] at c5_
            refine skip_ (w1:=?_) (by rfl) rfl ?_ ?_
            rotate_left
            · go_simp
              rfl
            refine hK.out _ _ ?_
            clear hK K
            refine done_ (by kernel_rfl) ?_
            generalize w4_.setCell ⟨bx,4,none⟩ (.slice A6 (xa.length+1) c6)=w5 at HX4 ⊢
            clear HX2 B4 HXd
            go_wp2_with fail
            go_roundg m
            case measure=>omega
            case rel=>exact ⟨xa++[va_],xt++[lb],us2,_,_,HL2,⟨by have:=HU.out.2;have:=HV_.out.2;have:=HLN.out;omega,by have:=HU.out.2;have:=HV_.out.2;have:=HLN.out;simp;omega,by have:=HLN.out;simp;omega⟩,HX4⟩
  · subst h1
    unfold operP at hr
    rw [if_neg (by decide),if_neg (by decide),if_neg (by decide),if_neg (by decide),if_neg (by decide),if_pos (by decide)] at hr
    have HR:=aM hr
    clear hr
    go_enter Try.func100,Try.ntmps100
    have hr:=HR.out
    unfold callP at hr
    obtain ⟨c,hc⟩:∃ c,(decide (0<(pk0 ts).size) && (bt (pk0 ts) 0==64))=c:=⟨_,rfl⟩
    rw [hc] at hr
    have HR:=aM hr
    have HC:=aM hc
    clear hr hc
    go_wp2_with fail
    refine (peek0_calls HX.out.p).mono ?_
    rintro e w1_ ⟨rfl,hp_,hk_⟩
    have HX1_:=aM (HX.out.call hp_ hk_)
    clear hp_ hk_
    clear y0
    go_upto_region 30 with (fail)
    have hc:=HC.out
    clear HC
    by_cases z:0<(pk0 ts).size
    rotate_left
    · rw [decide_eq_false z,Bool.false_and] at hc
      subst hc
      have z3:decide ((0:Int)<((pk0 ts).size:Int))=false:=decide_eq_false (by omega)
      have z4:decide (0<(pk0 ts).size)=false:=decide_eq_false z
      have hr:=HR.out
      rw [if_neg (by decide)] at hr
      simp only [bind_ok] at hr
      have HR:=aM hr
      clear z hr
      go_wp2_with fail
      refine (name_calls HX1_.out.p).mono ?_
      rintro e w3_ ⟨⟨hb_,hk_⟩,h_⟩
      have hr:=HR.out
      clear HR
      rcases hv:nameP en ts with q | ⟨nm_,u0⟩
      · rw [hv] at h_ hr
        obtain rfl:=h_
        (try simp only [bind_err] at hr)
        obtain rfl:=hr
        have HZ:=aM (HX1_.out.bad hb_ hk_)
        clear hb_ hk_ hv
        go_wp2
        exact ⟨rfl,HZ.out,rfl⟩
      have HV3:=aM hv
      rw [hv] at h_ hr
      obtain ⟨rfl,hp_⟩:=h_
      (try simp only [bind_ok] at hr)
      have HX3_:=aM (HX1_.out.call hp_ hk_)
      have HR:=aM hr
      clear hb_ hk_ hp_ hr hv
      have y6_:=HX3_.out.at1 6
      have f6_:=blk_frozen HX3_.out.box 6
      simp only [iObj] at y6_
      have HX4_:=aM (HX3_.out.put (⟨21,id,0,ty,[],[],nm_,at_⟩:SI) 6 (.string nm_) rfl rfl rfl)
      obtain ⟨R,hR⟩:∃ R,argsP en (u0.length+1) [] u0=R:=⟨_,rfl⟩
      have hr:=HR.out
      rw [hR] at hr
      have HR:=aM hr
      have HF:=aM hR
      have HX0:=HX4_
      clear hr hR HX4_
      go_wp2
      (try simp only [Act.put,qA,qB,qC])
      generalize hgen:World.setCell _ _ _=W5 at HX0 ⊢
      clear hgen y6_ f6_
      go_loopg [] (u0.length+1) (fun kq w'=>∃ (xa:List Int) (us:List Tk) (va vt:Value),Aside0 (argsP en kq xa us=R)∧Aside0 (us.length<kq∧xa.length+us.length≤65536)∧Aside0 (IPAt g bx tl us (⟨21,id,0,ty,xa,[],nm_,at_⟩:SI) va vt en n w0 w w'))
      case atStart=>exact ⟨[],u0,_,_,HF,⟨Nat.lt_succ_self _,by have:=HX0.out.p.len;simpa using this⟩,HX0⟩
      case round=>
        clear HX0 HF
        obtain ⟨xa,us,va,vt,HF,HLN,HX⟩:=hrel
        obtain ⟨Aa,ca,At,ct,ea,et⟩:=HX.out.sl
        simp only at ea et
        subst ea
        subst et
        cases gk with
        | zero=>exact absurd HLN.out.1 (by omega)
        | succ m=>
          go_wp2_with fail
          refine (values_calls HX.out.p).mono ?_
          rintro e w21_ ⟨rfl,hp_,hk_⟩
          have HX21_:=aM (HX.out.call hp_ hk_)
          clear hp_ hk_
          have hl:=HF.out
          simp only [argsP] at hl
          cases hv:valuesP us with
          | false=>
            rw [hv,if_neg (by decide)] at hl
            have hr:=HR.out
            rw [← hl] at hr
            simp only [bind_ok] at hr
            obtain rfl:=hr
            clear hl HF HR
            go_wp2
            (first | go_end0 | ((try simp only [Exit.inBlock,Exit.then]);refine bodyPost_ret (results_none rfl _ _ _) rfl ?_))
            exact ⟨⟨HX21_.out.p.b,HX21_.out.k⟩,rfl,_,_,HX21_.out⟩
          | true=>
            rw [hv,if_pos rfl] at hl
            have HL:=aM hl
            have HX:=HX21_
            clear hl HF hv HX21_
            go_upto_region 34 with (fail)
            have HXd:=aM (HX.out.below (below_drew1 (Below.refl _ _)))
            clear HX
            refine start_ (n:=12) (S:=fun w'=>w'.cell? ⟨bx,4,none⟩=some (.slice Aa xa.length ca)) (ds:=[11]) #[false,false,false,false,false,false,false,false,false,false,false,false] (by kernel_rfl) rfl rfl ((HXd.out.at1 4)) (fun hHeld=>?_)
            refine pure_ (i:=0) (N:=some 178) (v:=?_) (a':=?_) #[true,false,false,false,false,false,false,false,false,false,false,false] rfl rfl (by kernel_rfl) (fun _ _ _ h=>h) (Or.inl ⟨by rfl,?_⟩) ?_ ?_
            rotate_left
            · intro w'
              go_simp
              with_reducible rfl
            rotate_left
            · simp only [Act.put,qA,qB,qC,i64_w,i32_w]
              rfl
            refine pure_ (i:=1) (N:=some 179) (v:=?_) (a':=?_) #[true,true,false,false,false,false,false,false,false,false,false,false] rfl rfl (by kernel_rfl) (fun _ _ _ h=>h) (Or.inl ⟨by rfl,?_⟩) ?_ ?_
            rotate_left
            · intro w'
              go_simp
              with_reducible rfl
            rotate_left
            · simp only [Act.put,qA,qB,qC,i64_w,i32_w]
              rfl
            refine pure_ (i:=2) (N:=some 180) (v:=?_) (a':=?_) #[true,true,true,false,false,false,false,false,false,false,false,false] rfl rfl (by kernel_rfl) (fun _ _ _ h=>h) (Or.inl ⟨by rfl,?_⟩) ?_ ?_
            rotate_left
            · intro w'
              go_simp
              with_reducible rfl
            rotate_left
            · simp only [Act.put,qA,qB,qC,i64_w,i32_w]
              rfl
            refine pure_ (i:=3) (N:=some 181) (v:=?_) (a':=?_) #[true,true,true,true,false,false,false,false,false,false,false,false] rfl rfl (by kernel_rfl) (fun _ _ _ h=>h) (Or.inl ⟨by rfl,?_⟩) ?_ ?_
            rotate_left
            · intro w'
              go_simp
              with_reducible rfl
            rotate_left
            · simp only [Act.put,qA,qB,qC,i64_w,i32_w]
              rfl
            refine pure_ (i:=5) (N:=some 183) (v:=?_) (a':=?_) #[true,true,true,true,false,true,false,false,false,false,false,false] rfl rfl (by kernel_rfl) (fun _ _ _ h=>h) (Or.inl ⟨by rfl,?_⟩) ?_ ?_
            rotate_left
            · intro w'
              go_simp
              with_reducible rfl
            rotate_left
            · simp only [Act.put,qA,qB,qC,i64_w,i32_w]
              rfl
            refine take_ (i:=4) (N:=some 182) (v:=?_) (a':=?_) #[true,true,true,true,true,true,false,false,false,false,false,false] rfl rfl (by kernel_rfl) (fun _ _ _ h=>h) (Or.inl ⟨by rfl,?_⟩) hHeld ?_ ?_
            rotate_left
            · intro w' s0
              go_simp
              with_reducible rfl
            rotate_left
            · simp only [Act.put,qA,qB,qC,i64_w,i32_w]
              rfl
            refine one_ (i:=6) (N:=some 184) #[true,true,true,true,true,true,true,false,false,false,false,false] rfl rfl (by kernel_rfl) (by decide) (fun K hK=>?_)
            refine goesVP_ Try.func98 (by kernel_rfl) rfl #[.pointer (some ⟨g,0,none⟩)] (by rfl) rfl rfl (by rfl) ?_
            with_reducible refine (value_calls HXd.out.p).mono ?_
            rintro e w3_ ⟨⟨hb_,hk_⟩,h_⟩
            have hl:=HL.out
            rcases hv:valueP en us with q | ⟨va_,us2⟩
            · rw [hv] at h_ hl
              obtain rfl:=h_
              simp only [bind_err] at hl
              subst hl
              have hr:=HR.out
              simp only [bind_err] at hr
              obtain rfl:=hr
              have HZ:=aM (HXd.out.bad hb_ hk_)
              clear hb_ hk_ hv
              refine Or.inr ⟨_,rfl,?_⟩
              (try go_wp2)
              (try simp only [Exit.inBlock,Exit.then])
              exact ⟨rfl,HZ.out,rfl⟩
            have HV_:=aM (indexP_ok hv)
            rw [hv] at h_ hl
            obtain ⟨rfl,hp_⟩:=h_
            simp only [bind_ok] at hl
            have HL2:=aM hl
            have HX2:=aM (HXd.out.call hp_ hk_)
            clear hb_ hk_ hp_ hl hv
            refine Or.inl ⟨_,rfl,?_⟩
            refine hK.out _ _ ((HX2.out.at1 4)) (fun hHeld=>?_)
            clear hK K
            refine norm_ (a':=?_) ?_ ?_
            rotate_left
            · show Act.put _ (some 184) _=_
              simp only [Act.put,qA,qB,qC,i64_w,i32_w]
              rfl
            refine one_ (i:=7) (N:=some 185) #[true,true,true,true,true,true,true,true,false,false,false,false] rfl rfl (by kernel_rfl) (by decide) (fun K hK=>?_)
            refine value_ (w1:=?_) (v:=?_) (by rfl) rfl ?_ ?_
            rotate_left 2
            · go_simp
              constructor
              · rfl
              · rfl
            refine hK.out _ _ ((blk_cell (blk_alloc HX2.out.box (.cells #[.int .i64 va_] 3)) 4)) (fun hHeld=>?_)
            clear hK K
            refine norm_ (a':=?_) ?_ ?_
            rotate_left
            · show Act.put _ (some 185) _=_
              simp only [Act.put,qA,qB,qC,i64_w,i32_w]
              rfl
            refine one_ (i:=8) (N:=some 186) #[true,true,true,true,true,true,true,true,true,false,false,false] rfl rfl (by kernel_rfl) (by decide) (fun K hK=>?_)
            refine Kd.R_append_step (Kd.int .i64) (w0:=w3_) w.heap.size (by rfl) (.tmp 182) (.tmp 185) 31 3 (.int .i64 0) 8 rfl Try.underlying31 (by kernel_rfl) rfl (by decide) (by omega) (.slice Aa xa.length ca) xa va_ [.int .i64 va_] (fun _=>True) (fun k=>True∧some k≠(Value.slice Aa xa.length ca).ownBlock) rfl (by first | rfl | (simp;rfl)) rfl (fun k hk=>⟨trivial,hk.2⟩) (fun k hk=>trivial) HX2.out.two.ra (Below.refl _ _) (keep_size HX2.out.k) (by have:=HLN.out;omega) ?_
            intro v1 w4_ hr4 hb4 hg4 hv4
            obtain ⟨A6,c6,e6⟩:=Kd.R_slice hr4
            rw [List.length_append,List.length_singleton] at e6
            subst e6
            have B4:=aM ((hg4.block bx (blk_lt HX2.out.box) (Kd.R_ne HX2.out.two.ra HX2.out.box (by decide))).trans HX2.out.box)
            have HX4:=aM (HX2.out.app hg4 (.inl rfl) (⟨21,id,0,ty,xa++[va_],[],nm_,at_⟩:SI) 4 (.slice A6 (xa.length+1) c6) rfl (HX2.out.two.appA hr4 hg4 hv4))
            clear hr4 hb4 hg4 hv4
            refine hK.out _ _ ((blk_cell B4.out 4)) (fun hHeld=>?_)
            clear hK K
            refine norm_ (a':=?_) ?_ ?_
            rotate_left
            · show Act.put _ (some 186) _=_
              simp only [Act.put,qA,qB,qC,i64_w,i32_w]
              rfl
            refine pure_ (i:=9) (N:=some 187) (v:=?_) (a':=?_) #[true,true,true,true,true,true,true,true,true,true,false,false] rfl rfl (by kernel_rfl) (fun _ _ _ h=>h) (Or.inl ⟨by rfl,?_⟩) ?_ ?_
            rotate_left
            · intro w'
              go_simp
              with_reducible rfl
            rotate_left
            · simp only [Act.put,qA,qB,qC,i64_w,i32_w]
              rfl
            refine pure_ (i:=10) (N:=some 188) (v:=?_) (a':=?_) #[true,true,true,true,true,true,true,true,true,true,true,false] rfl rfl (by kernel_rfl) (fun _ _ _ h=>h) (Or.inl ⟨by rfl,?_⟩) ?_ ?_
            rotate_left
            · intro w'
              go_simp
              with_reducible rfl
            rotate_left
            · simp only [Act.put,qA,qB,qC,i64_w,i32_w]
              rfl
            refine last_ (i:=11) (N:=none) #[true,true,true,true,true,true,true,true,true,true,true,true] rfl rfl (by kernel_rfl) (by decide) (fun K hK=>?_)
            have c5_:=blk_cell B4.out 4
            have f5_:=blk_frozen B4.out 4
            simp only [iObj] at c5_
            refine skip_ (w1:=?_) (by rfl) rfl ?_ ?_
            rotate_left
            · go_simp
              rfl
            refine hK.out _ _ ?_
            clear hK K
            refine done_ (by kernel_rfl) ?_
            generalize w4_.setCell ⟨bx,4,none⟩ (.slice A6 (xa.length+1) c6)=w5 at HX4 ⊢
            clear HX2 B4 HXd
            go_wp2_with fail
            go_roundg m
            case measure=>omega
            case rel=>exact ⟨xa++[va_],us2,_,_,HL2,⟨by have:=HV_.out.2;have:=HLN.out;omega,by have:=HV_.out.2;have:=HLN.out;simp;omega⟩,HX4⟩
    have z3:decide ((0:Int)<((pk0 ts).size:Int))=true:=decide_eq_true (by omega)
    have z4:decide (0<(pk0 ts).size)=true:=decide_eq_true z
    have q1:((0:Int)<((pk0 ts).size:Int))=True:=eq_true (by omega)
    have q2:(0<(pk0 ts).size)=True:=eq_true z
    have hbt:(((pk0 ts)[0]'z).toNat:Int)=bt (pk0 ts) 0:=bt_at (pk0 ts) 0 z
    rw [z4,Bool.true_and] at hc
    by_cases y:bt (pk0 ts) 0=64
    rotate_left
    · have y1:(bt (pk0 ts) 0==64)=false:=beq_eq_false_iff_ne.mpr y
      rw [y1] at hc
      subst hc
      have hr:=HR.out
      rw [if_neg (by decide)] at hr
      simp only [bind_ok] at hr
      have HR:=aM hr
      clear y hr
      go_wp2_with fail
      refine (name_calls HX1_.out.p).mono ?_
      rintro e w3_ ⟨⟨hb_,hk_⟩,h_⟩
      have hr:=HR.out
      clear HR
      rcases hv:nameP en ts with q | ⟨nm_,u0⟩
      · rw [hv] at h_ hr
        obtain rfl:=h_
        (try simp only [bind_err] at hr)
        obtain rfl:=hr
        have HZ:=aM (HX1_.out.bad hb_ hk_)
        clear hb_ hk_ hv
        go_wp2
        exact ⟨rfl,HZ.out,rfl⟩
      have HV3:=aM hv
      rw [hv] at h_ hr
      obtain ⟨rfl,hp_⟩:=h_
      (try simp only [bind_ok] at hr)
      have HX3_:=aM (HX1_.out.call hp_ hk_)
      have HR:=aM hr
      clear hb_ hk_ hp_ hr hv
      have y6_:=HX3_.out.at1 6
      have f6_:=blk_frozen HX3_.out.box 6
      simp only [iObj] at y6_
      have HX4_:=aM (HX3_.out.put (⟨21,id,0,ty,[],[],nm_,at_⟩:SI) 6 (.string nm_) rfl rfl rfl)
      obtain ⟨R,hR⟩:∃ R,argsP en (u0.length+1) [] u0=R:=⟨_,rfl⟩
      have hr:=HR.out
      rw [hR] at hr
      have HR:=aM hr
      have HF:=aM hR
      have HX0:=HX4_
      clear hr hR HX4_
      go_wp2
      (try simp only [Act.put,qA,qB,qC])
      generalize hgen:World.setCell _ _ _=W5 at HX0 ⊢
      clear hgen y6_ f6_
      go_loopg [] (u0.length+1) (fun kq w'=>∃ (xa:List Int) (us:List Tk) (va vt:Value),Aside0 (argsP en kq xa us=R)∧Aside0 (us.length<kq∧xa.length+us.length≤65536)∧Aside0 (IPAt g bx tl us (⟨21,id,0,ty,xa,[],nm_,at_⟩:SI) va vt en n w0 w w'))
      case atStart=>exact ⟨[],u0,_,_,HF,⟨Nat.lt_succ_self _,by have:=HX0.out.p.len;simpa using this⟩,HX0⟩
      case round=>
        clear HX0 HF
        obtain ⟨xa,us,va,vt,HF,HLN,HX⟩:=hrel
        obtain ⟨Aa,ca,At,ct,ea,et⟩:=HX.out.sl
        simp only at ea et
        subst ea
        subst et
        cases gk with
        | zero=>exact absurd HLN.out.1 (by omega)
        | succ m=>
          go_wp2_with fail
          refine (values_calls HX.out.p).mono ?_
          rintro e w21_ ⟨rfl,hp_,hk_⟩
          have HX21_:=aM (HX.out.call hp_ hk_)
          clear hp_ hk_
          have hl:=HF.out
          simp only [argsP] at hl
          cases hv:valuesP us with
          | false=>
            rw [hv,if_neg (by decide)] at hl
            have hr:=HR.out
            rw [← hl] at hr
            simp only [bind_ok] at hr
            obtain rfl:=hr
            clear hl HF HR
            go_wp2
            (first | go_end0 | ((try simp only [Exit.inBlock,Exit.then]);refine bodyPost_ret (results_none rfl _ _ _) rfl ?_))
            exact ⟨⟨HX21_.out.p.b,HX21_.out.k⟩,rfl,_,_,HX21_.out⟩
          | true=>
            rw [hv,if_pos rfl] at hl
            have HL:=aM hl
            have HX:=HX21_
            clear hl HF hv HX21_
            go_upto_region 34 with (fail)
            have HXd:=aM (HX.out.below (below_drew1 (Below.refl _ _)))
            clear HX
            refine start_ (n:=12) (S:=fun w'=>w'.cell? ⟨bx,4,none⟩=some (.slice Aa xa.length ca)) (ds:=[11]) #[false,false,false,false,false,false,false,false,false,false,false,false] (by kernel_rfl) rfl rfl ((HXd.out.at1 4)) (fun hHeld=>?_)
            refine pure_ (i:=0) (N:=some 178) (v:=?_) (a':=?_) #[true,false,false,false,false,false,false,false,false,false,false,false] rfl rfl (by kernel_rfl) (fun _ _ _ h=>h) (Or.inl ⟨by rfl,?_⟩) ?_ ?_
            rotate_left
            · intro w'
              go_simp
              with_reducible rfl
            rotate_left
            · simp only [Act.put,qA,qB,qC,i64_w,i32_w]
              rfl
            refine pure_ (i:=1) (N:=some 179) (v:=?_) (a':=?_) #[true,true,false,false,false,false,false,false,false,false,false,false] rfl rfl (by kernel_rfl) (fun _ _ _ h=>h) (Or.inl ⟨by rfl,?_⟩) ?_ ?_
            rotate_left
            · intro w'
              go_simp
              with_reducible rfl
            rotate_left
            · simp only [Act.put,qA,qB,qC,i64_w,i32_w]
              rfl
            refine pure_ (i:=2) (N:=some 180) (v:=?_) (a':=?_) #[true,true,true,false,false,false,false,false,false,false,false,false] rfl rfl (by kernel_rfl) (fun _ _ _ h=>h) (Or.inl ⟨by rfl,?_⟩) ?_ ?_
            rotate_left
            · intro w'
              go_simp
              with_reducible rfl
            rotate_left
            · simp only [Act.put,qA,qB,qC,i64_w,i32_w]
              rfl
            refine pure_ (i:=3) (N:=some 181) (v:=?_) (a':=?_) #[true,true,true,true,false,false,false,false,false,false,false,false] rfl rfl (by kernel_rfl) (fun _ _ _ h=>h) (Or.inl ⟨by rfl,?_⟩) ?_ ?_
            rotate_left
            · intro w'
              go_simp
              with_reducible rfl
            rotate_left
            · simp only [Act.put,qA,qB,qC,i64_w,i32_w]
              rfl
            refine pure_ (i:=5) (N:=some 183) (v:=?_) (a':=?_) #[true,true,true,true,false,true,false,false,false,false,false,false] rfl rfl (by kernel_rfl) (fun _ _ _ h=>h) (Or.inl ⟨by rfl,?_⟩) ?_ ?_
            rotate_left
            · intro w'
              go_simp
              with_reducible rfl
            rotate_left
            · simp only [Act.put,qA,qB,qC,i64_w,i32_w]
              rfl
            refine take_ (i:=4) (N:=some 182) (v:=?_) (a':=?_) #[true,true,true,true,true,true,false,false,false,false,false,false] rfl rfl (by kernel_rfl) (fun _ _ _ h=>h) (Or.inl ⟨by rfl,?_⟩) hHeld ?_ ?_
            rotate_left
            · intro w' s0
              go_simp
              with_reducible rfl
            rotate_left
            · simp only [Act.put,qA,qB,qC,i64_w,i32_w]
              rfl
            refine one_ (i:=6) (N:=some 184) #[true,true,true,true,true,true,true,false,false,false,false,false] rfl rfl (by kernel_rfl) (by decide) (fun K hK=>?_)
            refine goesVP_ Try.func98 (by kernel_rfl) rfl #[.pointer (some ⟨g,0,none⟩)] (by rfl) rfl rfl (by rfl) ?_
            with_reducible refine (value_calls HXd.out.p).mono ?_
            rintro e w3_ ⟨⟨hb_,hk_⟩,h_⟩
            have hl:=HL.out
            rcases hv:valueP en us with q | ⟨va_,us2⟩
            · rw [hv] at h_ hl
              obtain rfl:=h_
              simp only [bind_err] at hl
              subst hl
              have hr:=HR.out
              simp only [bind_err] at hr
              obtain rfl:=hr
              have HZ:=aM (HXd.out.bad hb_ hk_)
              clear hb_ hk_ hv
              refine Or.inr ⟨_,rfl,?_⟩
              (try go_wp2)
              (try simp only [Exit.inBlock,Exit.then])
              exact ⟨rfl,HZ.out,rfl⟩
            have HV_:=aM (indexP_ok hv)
            rw [hv] at h_ hl
            obtain ⟨rfl,hp_⟩:=h_
            simp only [bind_ok] at hl
            have HL2:=aM hl
            have HX2:=aM (HXd.out.call hp_ hk_)
            clear hb_ hk_ hp_ hl hv
            refine Or.inl ⟨_,rfl,?_⟩
            refine hK.out _ _ ((HX2.out.at1 4)) (fun hHeld=>?_)
            clear hK K
            refine norm_ (a':=?_) ?_ ?_
            rotate_left
            · show Act.put _ (some 184) _=_
              simp only [Act.put,qA,qB,qC,i64_w,i32_w]
              rfl
            refine one_ (i:=7) (N:=some 185) #[true,true,true,true,true,true,true,true,false,false,false,false] rfl rfl (by kernel_rfl) (by decide) (fun K hK=>?_)
            refine value_ (w1:=?_) (v:=?_) (by rfl) rfl ?_ ?_
            rotate_left 2
            · go_simp
              constructor
              · rfl
              · rfl
            refine hK.out _ _ ((blk_cell (blk_alloc HX2.out.box (.cells #[.int .i64 va_] 3)) 4)) (fun hHeld=>?_)
            clear hK K
            refine norm_ (a':=?_) ?_ ?_
            rotate_left
            · show Act.put _ (some 185) _=_
              simp only [Act.put,qA,qB,qC,i64_w,i32_w]
              rfl
            refine one_ (i:=8) (N:=some 186) #[true,true,true,true,true,true,true,true,true,false,false,false] rfl rfl (by kernel_rfl) (by decide) (fun K hK=>?_)
            refine Kd.R_append_step (Kd.int .i64) (w0:=w3_) w.heap.size (by rfl) (.tmp 182) (.tmp 185) 31 3 (.int .i64 0) 8 rfl Try.underlying31 (by kernel_rfl) rfl (by decide) (by omega) (.slice Aa xa.length ca) xa va_ [.int .i64 va_] (fun _=>True) (fun k=>True∧some k≠(Value.slice Aa xa.length ca).ownBlock) rfl (by first | rfl | (simp;rfl)) rfl (fun k hk=>⟨trivial,hk.2⟩) (fun k hk=>trivial) HX2.out.two.ra (Below.refl _ _) (keep_size HX2.out.k) (by have:=HLN.out;omega) ?_
            intro v1 w4_ hr4 hb4 hg4 hv4
            obtain ⟨A6,c6,e6⟩:=Kd.R_slice hr4
            rw [List.length_append,List.length_singleton] at e6
            subst e6
            have B4:=aM ((hg4.block bx (blk_lt HX2.out.box) (Kd.R_ne HX2.out.two.ra HX2.out.box (by decide))).trans HX2.out.box)
            have HX4:=aM (HX2.out.app hg4 (.inl rfl) (⟨21,id,0,ty,xa++[va_],[],nm_,at_⟩:SI) 4 (.slice A6 (xa.length+1) c6) rfl (HX2.out.two.appA hr4 hg4 hv4))
            clear hr4 hb4 hg4 hv4
            refine hK.out _ _ ((blk_cell B4.out 4)) (fun hHeld=>?_)
            clear hK K
            refine norm_ (a':=?_) ?_ ?_
            rotate_left
            · show Act.put _ (some 186) _=_
              simp only [Act.put,qA,qB,qC,i64_w,i32_w]
              rfl
            refine pure_ (i:=9) (N:=some 187) (v:=?_) (a':=?_) #[true,true,true,true,true,true,true,true,true,true,false,false] rfl rfl (by kernel_rfl) (fun _ _ _ h=>h) (Or.inl ⟨by rfl,?_⟩) ?_ ?_
            rotate_left
            · intro w'
              go_simp
              with_reducible rfl
            rotate_left
            · simp only [Act.put,qA,qB,qC,i64_w,i32_w]
              rfl
            refine pure_ (i:=10) (N:=some 188) (v:=?_) (a':=?_) #[true,true,true,true,true,true,true,true,true,true,true,false] rfl rfl (by kernel_rfl) (fun _ _ _ h=>h) (Or.inl ⟨by rfl,?_⟩) ?_ ?_
            rotate_left
            · intro w'
              go_simp
              with_reducible rfl
            rotate_left
            · simp only [Act.put,qA,qB,qC,i64_w,i32_w]
              rfl
            refine last_ (i:=11) (N:=none) #[true,true,true,true,true,true,true,true,true,true,true,true] rfl rfl (by kernel_rfl) (by decide) (fun K hK=>?_)
            have c5_:=blk_cell B4.out 4
            have f5_:=blk_frozen B4.out 4
            simp only [iObj] at c5_
            refine skip_ (w1:=?_) (by rfl) rfl ?_ ?_
            rotate_left
            · go_simp
              rfl
            refine hK.out _ _ ?_
            clear hK K
            refine done_ (by kernel_rfl) ?_
            generalize w4_.setCell ⟨bx,4,none⟩ (.slice A6 (xa.length+1) c6)=w5 at HX4 ⊢
            clear HX2 B4 HXd
            go_wp2_with fail
            go_roundg m
            case measure=>omega
            case rel=>exact ⟨xa++[va_],us2,_,_,HL2,⟨by have:=HV_.out.2;have:=HLN.out;omega,by have:=HV_.out.2;have:=HLN.out;simp;omega⟩,HX4⟩
    have y1:(bt (pk0 ts) 0==64)=true:=beq_iff_eq.mpr y
    rw [y1] at hc
    subst hc
    have hr:Except.bind (indexP en 64 1048576 3 ts) _=r:=HR.out
    clear HR
    have HR:=aM hr
    clear y hr
    go_wp2_with fail
    refine (index_calls 64 1048576 3 HX1_.out.p).mono ?_
    rintro e w3_ ⟨⟨hb_,hk_⟩,h_⟩
    have hr:=HR.out
    clear HR
    rcases hv:indexP en 64 1048576 3 ts with q | ⟨sn,us0⟩
    · rw [hv] at h_ hr
      obtain rfl:=h_
      (try simp only [bind_err] at hr)
      obtain rfl:=hr
      have HZ:=aM (HX1_.out.bad hb_ hk_)
      clear hb_ hk_ hv
      go_wp2
      exact ⟨rfl,HZ.out,rfl⟩
    have HV3:=aM hv
    rw [hv] at h_ hr
    obtain ⟨rfl,hp_⟩:=h_
    (try simp only [bind_ok] at hr)
    have HX3_:=aM (HX1_.out.call hp_ hk_)
    have HR:=aM hr
    clear hb_ hk_ hp_ hr hv
    have y2_:=HX3_.out.at1 2
    have f2_:=blk_frozen HX3_.out.box 2
    simp only [iObj] at y2_
    have HX4_:=aM (HX3_.out.put (⟨21,id,sn,ty,[],[],noB,at_⟩:SI) 2 (.int .i64 sn) rfl rfl rfl)
    clear hbt q1 q2 y1 z3 z4
    go_wp2_with fail
    refine (name_calls HX4_.out.p).mono ?_
    rintro e w4_ ⟨⟨hb_,hk_⟩,h_⟩
    have hr:=HR.out
    clear HR
    rcases hv:nameP en us0 with q | ⟨nm_,u0⟩
    · rw [hv] at h_ hr
      obtain rfl:=h_
      (try simp only [bind_err] at hr)
      obtain rfl:=hr
      have HZ:=aM (HX4_.out.bad hb_ hk_)
      clear hb_ hk_ hv
      go_wp2
      exact ⟨rfl,HZ.out,rfl⟩
    have HV4:=aM hv
    rw [hv] at h_ hr
    obtain ⟨rfl,hp_⟩:=h_
    (try simp only [bind_ok] at hr)
    have HX5_:=aM (HX4_.out.call hp_ hk_)
    have HR:=aM hr
    clear hb_ hk_ hp_ hr hv
    have y6_:=HX5_.out.at1 6
    have f6_:=blk_frozen HX5_.out.box 6
    simp only [iObj] at y6_
    have HX6_:=aM (HX5_.out.put (⟨21,id,sn,ty,[],[],nm_,at_⟩:SI) 6 (.string nm_) rfl rfl rfl)
    obtain ⟨R,hR⟩:∃ R,argsP en (u0.length+1) [] u0=R:=⟨_,rfl⟩
    have hr:=HR.out
    rw [hR] at hr
    have HR:=aM hr
    have HF:=aM hR
    have HX0:=HX6_
    clear hr hR HX6_
    go_wp2
    (try simp only [Act.put,qA,qB,qC])
    generalize hgen:World.setCell _ _ _=W5 at HX0 ⊢
    clear hgen y6_ f6_
    go_loopg [] (u0.length+1) (fun kq w'=>∃ (xa:List Int) (us:List Tk) (va vt:Value),Aside0 (argsP en kq xa us=R)∧Aside0 (us.length<kq∧xa.length+us.length≤65536)∧Aside0 (IPAt g bx tl us (⟨21,id,sn,ty,xa,[],nm_,at_⟩:SI) va vt en n w0 w w'))
    case atStart=>exact ⟨[],u0,_,_,HF,⟨Nat.lt_succ_self _,by have:=HX0.out.p.len;simpa using this⟩,HX0⟩
    case round=>
      clear HX0 HF
      obtain ⟨xa,us,va,vt,HF,HLN,HX⟩:=hrel
      obtain ⟨Aa,ca,At,ct,ea,et⟩:=HX.out.sl
      simp only at ea et
      subst ea
      subst et
      cases gk with
      | zero=>exact absurd HLN.out.1 (by omega)
      | succ m=>
        go_wp2_with fail
        refine (values_calls HX.out.p).mono ?_
        rintro e w21_ ⟨rfl,hp_,hk_⟩
        have HX21_:=aM (HX.out.call hp_ hk_)
        clear hp_ hk_
        have hl:=HF.out
        simp only [argsP] at hl
        cases hv:valuesP us with
        | false=>
          rw [hv,if_neg (by decide)] at hl
          have hr:=HR.out
          rw [← hl] at hr
          simp only [bind_ok] at hr
          obtain rfl:=hr
          clear hl HF HR
          go_wp2
          (first | go_end0 | ((try simp only [Exit.inBlock,Exit.then]);refine bodyPost_ret (results_none rfl _ _ _) rfl ?_))
          exact ⟨⟨HX21_.out.p.b,HX21_.out.k⟩,rfl,_,_,HX21_.out⟩
        | true=>
          rw [hv,if_pos rfl] at hl
          have HL:=aM hl
          have HX:=HX21_
          clear hl HF hv HX21_
          go_upto_region 34 with (fail)
          have HXd:=aM (HX.out.below (below_drew1 (Below.refl _ _)))
          clear HX
          refine start_ (n:=12) (S:=fun w'=>w'.cell? ⟨bx,4,none⟩=some (.slice Aa xa.length ca)) (ds:=[11]) #[false,false,false,false,false,false,false,false,false,false,false,false] (by kernel_rfl) rfl rfl ((HXd.out.at1 4)) (fun hHeld=>?_)
          refine pure_ (i:=0) (N:=some 178) (v:=?_) (a':=?_) #[true,false,false,false,false,false,false,false,false,false,false,false] rfl rfl (by kernel_rfl) (fun _ _ _ h=>h) (Or.inl ⟨by rfl,?_⟩) ?_ ?_
          rotate_left
          · intro w'
            go_simp
            with_reducible rfl
          rotate_left
          · simp only [Act.put,qA,qB,qC,i64_w,i32_w]
            rfl
          refine pure_ (i:=1) (N:=some 179) (v:=?_) (a':=?_) #[true,true,false,false,false,false,false,false,false,false,false,false] rfl rfl (by kernel_rfl) (fun _ _ _ h=>h) (Or.inl ⟨by rfl,?_⟩) ?_ ?_
          rotate_left
          · intro w'
            go_simp
            with_reducible rfl
          rotate_left
          · simp only [Act.put,qA,qB,qC,i64_w,i32_w]
            rfl
          refine pure_ (i:=2) (N:=some 180) (v:=?_) (a':=?_) #[true,true,true,false,false,false,false,false,false,false,false,false] rfl rfl (by kernel_rfl) (fun _ _ _ h=>h) (Or.inl ⟨by rfl,?_⟩) ?_ ?_
          rotate_left
          · intro w'
            go_simp
            with_reducible rfl
          rotate_left
          · simp only [Act.put,qA,qB,qC,i64_w,i32_w]
            rfl
          refine pure_ (i:=3) (N:=some 181) (v:=?_) (a':=?_) #[true,true,true,true,false,false,false,false,false,false,false,false] rfl rfl (by kernel_rfl) (fun _ _ _ h=>h) (Or.inl ⟨by rfl,?_⟩) ?_ ?_
          rotate_left
          · intro w'
            go_simp
            with_reducible rfl
          rotate_left
          · simp only [Act.put,qA,qB,qC,i64_w,i32_w]
            rfl
          refine pure_ (i:=5) (N:=some 183) (v:=?_) (a':=?_) #[true,true,true,true,false,true,false,false,false,false,false,false] rfl rfl (by kernel_rfl) (fun _ _ _ h=>h) (Or.inl ⟨by rfl,?_⟩) ?_ ?_
          rotate_left
          · intro w'
            go_simp
            with_reducible rfl
          rotate_left
          · simp only [Act.put,qA,qB,qC,i64_w,i32_w]
            rfl
          refine take_ (i:=4) (N:=some 182) (v:=?_) (a':=?_) #[true,true,true,true,true,true,false,false,false,false,false,false] rfl rfl (by kernel_rfl) (fun _ _ _ h=>h) (Or.inl ⟨by rfl,?_⟩) hHeld ?_ ?_
          rotate_left
          · intro w' s0
            go_simp
            with_reducible rfl
          rotate_left
          · simp only [Act.put,qA,qB,qC,i64_w,i32_w]
            rfl
          refine one_ (i:=6) (N:=some 184) #[true,true,true,true,true,true,true,false,false,false,false,false] rfl rfl (by kernel_rfl) (by decide) (fun K hK=>?_)
          refine goesVP_ Try.func98 (by kernel_rfl) rfl #[.pointer (some ⟨g,0,none⟩)] (by rfl) rfl rfl (by rfl) ?_
          with_reducible refine (value_calls HXd.out.p).mono ?_
          rintro e w3_ ⟨⟨hb_,hk_⟩,h_⟩
          have hl:=HL.out
          rcases hv:valueP en us with q | ⟨va_,us2⟩
          · rw [hv] at h_ hl
            obtain rfl:=h_
            simp only [bind_err] at hl
            subst hl
            have hr:=HR.out
            simp only [bind_err] at hr
            obtain rfl:=hr
            have HZ:=aM (HXd.out.bad hb_ hk_)
            clear hb_ hk_ hv
            refine Or.inr ⟨_,rfl,?_⟩
            (try go_wp2)
            (try simp only [Exit.inBlock,Exit.then])
            exact ⟨rfl,HZ.out,rfl⟩
          have HV_:=aM (indexP_ok hv)
          rw [hv] at h_ hl
          obtain ⟨rfl,hp_⟩:=h_
          simp only [bind_ok] at hl
          have HL2:=aM hl
          have HX2:=aM (HXd.out.call hp_ hk_)
          clear hb_ hk_ hp_ hl hv
          refine Or.inl ⟨_,rfl,?_⟩
          refine hK.out _ _ ((HX2.out.at1 4)) (fun hHeld=>?_)
          clear hK K
          refine norm_ (a':=?_) ?_ ?_
          rotate_left
          · show Act.put _ (some 184) _=_
            simp only [Act.put,qA,qB,qC,i64_w,i32_w]
            rfl
          refine one_ (i:=7) (N:=some 185) #[true,true,true,true,true,true,true,true,false,false,false,false] rfl rfl (by kernel_rfl) (by decide) (fun K hK=>?_)
          refine value_ (w1:=?_) (v:=?_) (by rfl) rfl ?_ ?_
          rotate_left 2
          · go_simp
            constructor
            · rfl
            · rfl
          refine hK.out _ _ ((blk_cell (blk_alloc HX2.out.box (.cells #[.int .i64 va_] 3)) 4)) (fun hHeld=>?_)
          clear hK K
          refine norm_ (a':=?_) ?_ ?_
          rotate_left
          · show Act.put _ (some 185) _=_
            simp only [Act.put,qA,qB,qC,i64_w,i32_w]
            rfl
          refine one_ (i:=8) (N:=some 186) #[true,true,true,true,true,true,true,true,true,false,false,false] rfl rfl (by kernel_rfl) (by decide) (fun K hK=>?_)
          refine Kd.R_append_step (Kd.int .i64) (w0:=w3_) w.heap.size (by rfl) (.tmp 182) (.tmp 185) 31 3 (.int .i64 0) 8 rfl Try.underlying31 (by kernel_rfl) rfl (by decide) (by omega) (.slice Aa xa.length ca) xa va_ [.int .i64 va_] (fun _=>True) (fun k=>True∧some k≠(Value.slice Aa xa.length ca).ownBlock) rfl (by first | rfl | (simp;rfl)) rfl (fun k hk=>⟨trivial,hk.2⟩) (fun k hk=>trivial) HX2.out.two.ra (Below.refl _ _) (keep_size HX2.out.k) (by have:=HLN.out;omega) ?_
          intro v1 w4_ hr4 hb4 hg4 hv4
          obtain ⟨A6,c6,e6⟩:=Kd.R_slice hr4
          rw [List.length_append,List.length_singleton] at e6
          subst e6
          have B4:=aM ((hg4.block bx (blk_lt HX2.out.box) (Kd.R_ne HX2.out.two.ra HX2.out.box (by decide))).trans HX2.out.box)
          have HX4:=aM (HX2.out.app hg4 (.inl rfl) (⟨21,id,sn,ty,xa++[va_],[],nm_,at_⟩:SI) 4 (.slice A6 (xa.length+1) c6) rfl (HX2.out.two.appA hr4 hg4 hv4))
          clear hr4 hb4 hg4 hv4
          refine hK.out _ _ ((blk_cell B4.out 4)) (fun hHeld=>?_)
          clear hK K
          refine norm_ (a':=?_) ?_ ?_
          rotate_left
          · show Act.put _ (some 186) _=_
            simp only [Act.put,qA,qB,qC,i64_w,i32_w]
            rfl
          refine pure_ (i:=9) (N:=some 187) (v:=?_) (a':=?_) #[true,true,true,true,true,true,true,true,true,true,false,false] rfl rfl (by kernel_rfl) (fun _ _ _ h=>h) (Or.inl ⟨by rfl,?_⟩) ?_ ?_
          rotate_left
          · intro w'
            go_simp
            with_reducible rfl
          rotate_left
          · simp only [Act.put,qA,qB,qC,i64_w,i32_w]
            rfl
          refine pure_ (i:=10) (N:=some 188) (v:=?_) (a':=?_) #[true,true,true,true,true,true,true,true,true,true,true,false] rfl rfl (by kernel_rfl) (fun _ _ _ h=>h) (Or.inl ⟨by rfl,?_⟩) ?_ ?_
          rotate_left
          · intro w'
            go_simp
            with_reducible rfl
          rotate_left
          · simp only [Act.put,qA,qB,qC,i64_w,i32_w]
            rfl
          refine last_ (i:=11) (N:=none) #[true,true,true,true,true,true,true,true,true,true,true,true] rfl rfl (by kernel_rfl) (by decide) (fun K hK=>?_)
          have c5_:=blk_cell B4.out 4
          have f5_:=blk_frozen B4.out 4
          simp only [iObj] at c5_
          refine skip_ (w1:=?_) (by rfl) rfl ?_ ?_
          rotate_left
          · go_simp
            rfl
          refine hK.out _ _ ?_
          clear hK K
          refine done_ (by kernel_rfl) ?_
          generalize w4_.setCell ⟨bx,4,none⟩ (.slice A6 (xa.length+1) c6)=w5 at HX4 ⊢
          clear HX2 B4 HXd
          go_wp2_with fail
          go_roundg m
          case measure=>omega
          case rel=>exact ⟨xa++[va_],us2,_,_,HL2,⟨by have:=HV_.out.2;have:=HLN.out;omega,by have:=HV_.out.2;have:=HLN.out;simp;omega⟩,HX4⟩
  · subst h1
    unfold operP at hr
    rw [if_neg (by decide),if_neg (by decide),if_neg (by decide),if_neg (by decide),if_neg (by decide),if_neg (by decide),if_pos (by decide)] at hr
    have HR:=aM hr
    clear hr
    go_enter Try.func100,Try.ntmps100
    go_wp2_with fail
    refine (number_calls 0 1048576 HX.out.p).mono ?_
    rintro e w1_ ⟨⟨hb_,hk_⟩,h_⟩
    have hr:=HR.out
    clear HR
    rcases hv:numberP en 0 1048576 ts with q | ⟨v,us⟩
    · rw [hv] at h_ hr
      obtain rfl:=h_
      (try simp only [bind_err] at hr)
      obtain rfl:=hr
      have HZ:=aM (HX.out.bad hb_ hk_)
      clear hb_ hk_ hv
      go_wp2
      exact ⟨rfl,HZ.out,rfl⟩
    have HV1:=aM hv
    rw [hv] at h_ hr
    obtain ⟨rfl,hp_⟩:=h_
    (try simp only [bind_ok] at hr)
    have HX1_:=aM (HX.out.call hp_ hk_)
    have HR:=aM hr
    clear hb_ hk_ hp_ hr hv
    have hr:=HR.out
    clear HR
    obtain rfl:=hr
    have y2_:=HX1_.out.at1 2
    have f2_:=blk_frozen HX1_.out.box 2
    simp only [iObj] at y2_
    have HX2_:=aM (HX1_.out.put (⟨23,id,v,ty,[],[],noB,at_⟩:SI) 2 (.int .i64 v) rfl rfl rfl)
    go_wp2
    (first | go_end0 | ((try simp only [Exit.inBlock,Exit.then]);refine bodyPost_ret (results_none rfl _ _ _) rfl ?_))
    exact ⟨⟨HX2_.out.p.b,HX2_.out.k⟩,rfl,_,_,HX2_.out⟩
  · subst h1
    unfold operP at hr
    rw [if_neg (by decide),if_neg (by decide),if_neg (by decide),if_neg (by decide),if_neg (by decide),if_neg (by decide),if_neg (by decide),if_pos (by decide)] at hr
    have HR:=aM hr
    clear hr
    go_enter Try.func100,Try.ntmps100
    go_wp2_with fail
    refine (value_calls HX.out.p).mono ?_
    rintro e w1_ ⟨⟨hb_,hk_⟩,h_⟩
    have hr:=HR.out
    clear HR
    rcases hv:valueP en ts with q | ⟨v,us⟩
    · rw [hv] at h_ hr
      obtain rfl:=h_
      (try simp only [bind_err] at hr)
      obtain rfl:=hr
      have HZ:=aM (HX.out.bad hb_ hk_)
      clear hb_ hk_ hv
      go_wp2
      exact ⟨rfl,HZ.out,rfl⟩
    have HV1:=aM hv
    rw [hv] at h_ hr
    obtain ⟨rfl,hp_⟩:=h_
    (try simp only [bind_ok] at hr)
    have HX1_:=aM (HX.out.call hp_ hk_)
    have HR:=aM hr
    clear hb_ hk_ hp_ hr hv
    have hbx_:=blk_alloc HX1_.out.box (.cells #[.int .i64 v] 3)
    have y4_:=blk_cell hbx_ 4
    have f4_:=blk_frozen hbx_ 4
    simp only [iObj] at y4_
    have HX2_:=aM (HX1_.out.newA [v] (by simp))
    clear hbx_
    go_wp2_with fail
    refine (number_calls 0 1048576 HX2_.out.p).mono ?_
    rintro e w2_ ⟨⟨hb_,hk_⟩,h_⟩
    have hr:=HR.out
    clear HR
    rcases hv:numberP en 0 1048576 us with q | ⟨z,us2⟩
    · rw [hv] at h_ hr
      obtain rfl:=h_
      (try simp only [bind_err] at hr)
      obtain rfl:=hr
      have HZ:=aM (HX2_.out.bad hb_ hk_)
      clear hb_ hk_ hv
      go_wp2
      exact ⟨rfl,HZ.out,rfl⟩
    have HV2:=aM hv
    rw [hv] at h_ hr
    obtain ⟨rfl,hp_⟩:=h_
    (try simp only [bind_ok] at hr)
    have HX3_:=aM (HX2_.out.call hp_ hk_)
    have HR:=aM hr
    clear hb_ hk_ hp_ hr hv
    have hr:=HR.out
    clear HR
    obtain rfl:=hr
    have y2_:=HX3_.out.at1 2
    have f2_:=blk_frozen HX3_.out.box 2
    simp only [iObj] at y2_
    have HX4_:=aM (HX3_.out.put (⟨24,id,z,ty,[v],[],noB,at_⟩:SI) 2 (.int .i64 z) rfl rfl rfl)
    go_wp2
    (first | go_end0 | ((try simp only [Exit.inBlock,Exit.then]);refine bodyPost_ret (results_none rfl _ _ _) rfl ?_))
    exact ⟨⟨HX4_.out.p.b,HX4_.out.k⟩,rfl,_,_,HX4_.out⟩
  · subst h1
    unfold operP at hr
    rw [if_neg (by decide),if_neg (by decide),if_neg (by decide),if_neg (by decide),if_neg (by decide),if_neg (by decide),if_neg (by decide),if_neg (by decide),if_pos (by decide)] at hr
    have HR:=aM hr
    clear hr
    go_enter Try.func100,Try.ntmps100
    go_wp2_with fail
    refine (label_calls HX.out.p).mono ?_
    rintro e w1_ ⟨⟨hb_,hk_⟩,h_⟩
    have hr:=HR.out
    clear HR
    rcases hv:labelP en ts with q | ⟨v,us⟩
    · rw [hv] at h_ hr
      obtain rfl:=h_
      (try simp only [bind_err] at hr)
      obtain rfl:=hr
      have HZ:=aM (HX.out.bad hb_ hk_)
      clear hb_ hk_ hv
      go_wp2
      exact ⟨rfl,HZ.out,rfl⟩
    have HV1:=aM hv
    rw [hv] at h_ hr
    obtain ⟨rfl,hp_⟩:=h_
    (try simp only [bind_ok] at hr)
    have HX1_:=aM (HX.out.call hp_ hk_)
    have HR:=aM hr
    clear hb_ hk_ hp_ hr hv
    have hr:=HR.out
    clear HR
    obtain rfl:=hr
    have hbx_:=blk_alloc HX1_.out.box (.cells #[.int .i64 v] 3)
    have y5_:=blk_cell hbx_ 5
    have f5_:=blk_frozen hbx_ 5
    simp only [iObj] at y5_
    have HX2_:=aM (HX1_.out.newT [v] (by simp))
    clear hbx_
    go_wp2
    (first | go_end0 | ((try simp only [Exit.inBlock,Exit.then]);refine bodyPost_ret (results_none rfl _ _ _) rfl ?_))
    exact ⟨⟨HX2_.out.p.b,HX2_.out.k⟩,rfl,_,_,HX2_.out⟩
  · subst h1
    unfold operP at hr
    rw [if_neg (by decide),if_neg (by decide),if_neg (by decide),if_neg (by decide),if_neg (by decide),if_neg (by decide),if_neg (by decide),if_neg (by decide),if_neg (by decide),if_pos (by decide)] at hr
    have HR:=aM hr
    clear hr
    go_enter Try.func100,Try.ntmps100
    go_wp2_with fail
    refine (value_calls HX.out.p).mono ?_
    rintro e w1_ ⟨⟨hb_,hk_⟩,h_⟩
    have hr:=HR.out
    clear HR
    rcases hv:valueP en ts with q | ⟨v,us⟩
    · rw [hv] at h_ hr
      obtain rfl:=h_
      (try simp only [bind_err] at hr)
      obtain rfl:=hr
      have HZ:=aM (HX.out.bad hb_ hk_)
      clear hb_ hk_ hv
      go_wp2
      exact ⟨rfl,HZ.out,rfl⟩
    have HV1:=aM hv
    rw [hv] at h_ hr
    obtain ⟨rfl,hp_⟩:=h_
    (try simp only [bind_ok] at hr)
    have HX1_:=aM (HX.out.call hp_ hk_)
    have HR:=aM hr
    clear hb_ hk_ hp_ hr hv
    have hbx_:=blk_alloc HX1_.out.box (.cells #[.int .i64 v] 3)
    have y4_:=blk_cell hbx_ 4
    have f4_:=blk_frozen hbx_ 4
    simp only [iObj] at y4_
    have HX2_:=aM (HX1_.out.newA [v] (by simp))
    clear hbx_
    go_wp2_with fail
    refine (label_calls HX2_.out.p).mono ?_
    rintro e w2_ ⟨⟨hb_,hk_⟩,h_⟩
    have hr:=HR.out
    clear HR
    rcases hv:labelP en us with q | ⟨b,us2⟩
    · rw [hv] at h_ hr
      obtain rfl:=h_
      (try simp only [bind_err] at hr)
      obtain rfl:=hr
      have HZ:=aM (HX2_.out.bad hb_ hk_)
      clear hb_ hk_ hv
      go_wp2
      exact ⟨rfl,HZ.out,rfl⟩
    have HV2:=aM hv
    rw [hv] at h_ hr
    obtain ⟨rfl,hp_⟩:=h_
    (try simp only [bind_ok] at hr)
    have HX3_:=aM (HX2_.out.call hp_ hk_)
    have HR:=aM hr
    clear hb_ hk_ hp_ hr hv
    go_wp2_with fail
    refine (label_calls HX3_.out.p).mono ?_
    rintro e w3_ ⟨⟨hb_,hk_⟩,h_⟩
    have hr:=HR.out
    clear HR
    rcases hv:labelP en us2 with q | ⟨d,us3⟩
    · rw [hv] at h_ hr
      obtain rfl:=h_
      (try simp only [bind_err] at hr)
      obtain rfl:=hr
      have HZ:=aM (HX3_.out.bad hb_ hk_)
      clear hb_ hk_ hv
      go_wp2
      exact ⟨rfl,HZ.out,rfl⟩
    have HV3:=aM hv
    rw [hv] at h_ hr
    obtain ⟨rfl,hp_⟩:=h_
    (try simp only [bind_ok] at hr)
    have HX4_:=aM (HX3_.out.call hp_ hk_)
    have HR:=aM hr
    clear hb_ hk_ hp_ hr hv
    have hr:=HR.out
    clear HR
    obtain rfl:=hr
    have hbx_:=blk_alloc HX4_.out.box (.cells #[.int .i64 b,.int .i64 d] 3)
    have y5_:=blk_cell hbx_ 5
    have f5_:=blk_frozen hbx_ 5
    simp only [iObj] at y5_
    have HX5_:=aM (HX4_.out.newT [b,d] (by simp))
    clear hbx_
    go_wp2
    (first | go_end0 | ((try simp only [Exit.inBlock,Exit.then]);refine bodyPost_ret (results_none rfl _ _ _) rfl ?_))
    exact ⟨⟨HX5_.out.p.b,HX5_.out.k⟩,rfl,_,_,HX5_.out⟩
  · subst h1
    unfold operP at hr
    rw [if_neg (by decide),if_neg (by decide),if_neg (by decide),if_neg (by decide),if_neg (by decide),if_neg (by decide),if_neg (by decide),if_neg (by decide),if_neg (by decide),if_neg (by decide),if_pos (by decide)] at hr
    have HR:=aM hr
    clear hr
    go_enter Try.func100,Try.ntmps100
    go_wp2_with fail
    refine (values_calls HX.out.p).mono ?_
    rintro e w1_ ⟨rfl,hp_,hk_⟩
    have HX1_:=aM (HX.out.call hp_ hk_)
    clear hp_ hk_
    cases hv:valuesP ts with
    | false=>
      have hr:=HR.out
      rw [hv,if_neg (by decide)] at hr
      obtain rfl:=hr
      clear HR
      go_wp2
      (first | go_end0 | ((try simp only [Exit.inBlock,Exit.then]);refine bodyPost_ret (results_none rfl _ _ _) rfl ?_))
      exact ⟨⟨HX1_.out.p.b,HX1_.out.k⟩,rfl,_,_,HX1_.out⟩
    | true=>
      have hr:=HR.out
      rw [hv,if_pos rfl] at hr
      have HR:=aM hr
      clear hr hv
      go_wp2_with fail
      refine (value_calls HX1_.out.p).mono ?_
      rintro e w5_ ⟨⟨hb_,hk_⟩,h_⟩
      have hr:=HR.out
      clear HR
      rcases hv:valueP en ts with q | ⟨v,us⟩
      · rw [hv] at h_ hr
        obtain rfl:=h_
        (try simp only [bind_err] at hr)
        obtain rfl:=hr
        have HZ:=aM (HX1_.out.bad hb_ hk_)
        clear hb_ hk_ hv
        go_wp2
        exact ⟨rfl,HZ.out,rfl⟩
      have HV5:=aM hv
      rw [hv] at h_ hr
      obtain ⟨rfl,hp_⟩:=h_
      (try simp only [bind_ok] at hr)
      have HX5_:=aM (HX1_.out.call hp_ hk_)
      have HR:=aM hr
      clear hb_ hk_ hp_ hr hv
      have hr:=HR.out
      clear HR
      obtain rfl:=hr
      have hbx_:=blk_alloc HX5_.out.box (.cells #[.int .i64 v] 3)
      have y4_:=blk_cell hbx_ 4
      have f4_:=blk_frozen hbx_ 4
      simp only [iObj] at y4_
      have HX6_:=aM (HX5_.out.newA [v] (by simp))
      clear hbx_
      go_wp2
      (first | go_end0 | ((try simp only [Exit.inBlock,Exit.then]);refine bodyPost_ret (results_none rfl _ _ _) rfl ?_))
      exact ⟨⟨HX6_.out.p.b,HX6_.out.k⟩,rfl,_,_,HX6_.out⟩
  · subst h1
    unfold operP at hr
    rw [if_neg (by decide),if_neg (by decide),if_neg (by decide),if_neg (by decide),if_neg (by decide),if_neg (by decide),if_neg (by decide),if_neg (by decide),if_neg (by decide),if_neg (by decide),if_neg (by decide),if_pos (by decide)] at hr
    have HR:=aM hr
    clear hr
    go_enter Try.func100,Try.ntmps100
    go_wp2_with fail
    refine (number_calls 0 255 HX.out.p).mono ?_
    rintro e w1_ ⟨⟨hb_,hk_⟩,h_⟩
    have hr:=HR.out
    clear HR
    rcases hv:numberP en 0 255 ts with q | ⟨v,us⟩
    · rw [hv] at h_ hr
      obtain rfl:=h_
      (try simp only [bind_err] at hr)
      obtain rfl:=hr
      have HZ:=aM (HX.out.bad hb_ hk_)
      clear hb_ hk_ hv
      go_wp2
      exact ⟨rfl,HZ.out,rfl⟩
    have HV1:=aM hv
    rw [hv] at h_ hr
    obtain ⟨rfl,hp_⟩:=h_
    (try simp only [bind_ok] at hr)
    have HX1_:=aM (HX.out.call hp_ hk_)
    have HR:=aM hr
    clear hb_ hk_ hp_ hr hv
    have hr:=HR.out
    clear HR
    obtain rfl:=hr
    have y2_:=HX1_.out.at1 2
    have f2_:=blk_frozen HX1_.out.box 2
    simp only [iObj] at y2_
    have HX2_:=aM (HX1_.out.put (⟨29,id,v,ty,[],[],noB,at_⟩:SI) 2 (.int .i64 v) rfl rfl rfl)
    go_wp2
    (first | go_end0 | ((try simp only [Exit.inBlock,Exit.then]);refine bodyPost_ret (results_none rfl _ _ _) rfl ?_))
    exact ⟨⟨HX2_.out.p.b,HX2_.out.k⟩,rfl,_,_,HX2_.out⟩
  · obtain ⟨n1,n10,n11,n12,n15,n13,n14,n20,n21,n23,n24,n26,n27,n28,n29⟩:=h1
    unfold operP at hr
    rw [if_neg (by omega),if_neg (by omega),if_neg (by omega),if_neg (by omega),if_neg (by omega),if_neg (by omega),if_neg (by omega),if_neg (by omega),if_neg (by omega),if_neg (by omega),if_neg (by omega),if_neg (by omega)] at hr
    obtain ⟨R,hR⟩:∃ R,takeP en (takesI op).length [] ts=R:=⟨_,rfl⟩
    rw [hR] at hr
    have HR:=aM hr
    have HF:=aM hR
    clear hr hR
    have g1:(op==1)=false:=beq_eq_false_iff_ne.mpr n1
    have g10:(op==10)=false:=beq_eq_false_iff_ne.mpr n10
    have g11:(op==11)=false:=beq_eq_false_iff_ne.mpr n11
    have g12:(op==12)=false:=beq_eq_false_iff_ne.mpr n12
    have g15:(op==15)=false:=beq_eq_false_iff_ne.mpr n15
    have g13:(op==13)=false:=beq_eq_false_iff_ne.mpr n13
    have g14:(op==14)=false:=beq_eq_false_iff_ne.mpr n14
    have g20:(op==20)=false:=beq_eq_false_iff_ne.mpr n20
    have g21:(op==21)=false:=beq_eq_false_iff_ne.mpr n21
    have g23:(op==23)=false:=beq_eq_false_iff_ne.mpr n23
    have g24:(op==24)=false:=beq_eq_false_iff_ne.mpr n24
    have g26:(op==26)=false:=beq_eq_false_iff_ne.mpr n26
    have g27:(op==27)=false:=beq_eq_false_iff_ne.mpr n27
    have g28:(op==28)=false:=beq_eq_false_iff_ne.mpr n28
    have g29:(op==29)=false:=beq_eq_false_iff_ne.mpr n29
    clear n1 n10 n11 n12 n15 n13 n14 n20 n21 n23 n24 n26 n27 n28 n29
    go_enter Try.func100,Try.ntmps100
    go_wp2_with fail
    refine (ops_Takes.calls op (takesI op) _ rfl).mono ?_
    rintro e w1_ ⟨v0_,rfl,hr_,hb_⟩
    obtain ⟨A0,c0,e0⟩:=Kd.R_slice hr_
    subst e0
    have HX1:=aM (HX.out.below hb_)
    have HT:=aM (show (takesI op).length≤2 from take_two op)
    clear hr_ hb_ HX y0
    go_wp2
    (try simp only [Act.put,qA,qB,qC])
    clear g1 g10 g11 g12 g15 g13 g14 g20 g21 g23 g24 g26 g27 g28 g29
    go_loopg [24] (takesI op).length (fun kq v24 w'=>∃ (j:Int) (xa:List Int) (us:List Tk) (va vt:Value),v24=.int .i64 j∧Aside0 (takeP en kq xa us=R)∧Aside0 (0≤j∧j+kq=((takesI op).length:Int)∧(xa.length:Int)=j)∧Aside0 (IPAt g bx tl us (⟨op,id,0,ty,xa,[],noB,at_⟩:SI) va vt en n w0 w w'))
    case atStart=>exact ⟨0,[],ts,_,_,rfl,HF,⟨by omega,by omega,rfl⟩,HX1⟩
    case round=>
      clear HX1 HF
      obtain ⟨j,xa,us,va,vt,rfl,HF,HLN,HX⟩:=hrel
      obtain ⟨Aa,ca,At,ct,ea,et⟩:=HX.out.sl
      simp only at ea et
      subst ea
      subst et
      cases gk with
      | zero=>
        have hl:=HF.out
        simp only [takeP] at hl
        have hr:=HR.out
        rw [← hl] at hr
        simp only [bind_ok] at hr
        obtain rfl:=hr
        have dj:decide (j<((takesI op).length:Int))=false:=decide_eq_false (by have:=HLN.out;omega)
        clear hl HF HR
        go_wp2
        (first | go_end0 | ((try simp only [Exit.inBlock,Exit.then]);refine bodyPost_ret (results_none rfl _ _ _) rfl ?_))
        exact ⟨⟨HX.out.p.b,HX.out.k⟩,rfl,_,_,HX.out⟩
      | succ m=>
        have hl:=HF.out
        simp only [takeP] at hl
        have HL:=aM hl
        have dj:decide (j<((takesI op).length:Int))=true:=decide_eq_true (by have:=HLN.out;omega)
        clear hl HF
        go_upto_region 4 with (fail)
        have HXd:=aM (HX.out.below (below_drew1 (Below.refl _ _)))
        clear HX
        refine start_ (n:=12) (S:=fun w'=>w'.cell? ⟨bx,4,none⟩=some (.slice Aa xa.length ca)) (ds:=[11]) #[false,false,false,false,false,false,false,false,false,false,false,false] (by kernel_rfl) rfl rfl ((HXd.out.at1 4)) (fun hHeld=>?_)
        refine pure_ (i:=0) (N:=some 26) (v:=?_) (a':=?_) #[true,false,false,false,false,false,false,false,false,false,false,false] rfl rfl (by kernel_rfl) (fun _ _ _ h=>h) (Or.inl ⟨by rfl,?_⟩) ?_ ?_
        rotate_left
        · intro w'
          go_simp
          with_reducible rfl
        rotate_left
        · simp only [Act.put,qA,qB,qC,i64_w,i32_w]
          rfl
        refine pure_ (i:=1) (N:=some 27) (v:=?_) (a':=?_) #[true,true,false,false,false,false,false,false,false,false,false,false] rfl rfl (by kernel_rfl) (fun _ _ _ h=>h) (Or.inl ⟨by rfl,?_⟩) ?_ ?_
        rotate_left
        · intro w'
          go_simp
          with_reducible rfl
        rotate_left
        · simp only [Act.put,qA,qB,qC,i64_w,i32_w]
          rfl
        refine pure_ (i:=2) (N:=some 28) (v:=?_) (a':=?_) #[true,true,true,false,false,false,false,false,false,false,false,false] rfl rfl (by kernel_rfl) (fun _ _ _ h=>h) (Or.inl ⟨by rfl,?_⟩) ?_ ?_
        rotate_left
        · intro w'
          go_simp
          with_reducible rfl
        rotate_left
        · simp only [Act.put,qA,qB,qC,i64_w,i32_w]
          rfl
        refine pure_ (i:=3) (N:=some 29) (v:=?_) (a':=?_) #[true,true,true,true,false,false,false,false,false,false,false,false] rfl rfl (by kernel_rfl) (fun _ _ _ h=>h) (Or.inl ⟨by rfl,?_⟩) ?_ ?_
        rotate_left
        · intro w'
          go_simp
          with_reducible rfl
        rotate_left
        · simp only [Act.put,qA,qB,qC,i64_w,i32_w]
          rfl
        refine pure_ (i:=5) (N:=some 31) (v:=?_) (a':=?_) #[true,true,true,true,false,true,false,false,false,false,false,false] rfl rfl (by kernel_rfl) (fun _ _ _ h=>h) (Or.inl ⟨by rfl,?_⟩) ?_ ?_
        rotate_left
        · intro w'
          go_simp
          with_reducible rfl
        rotate_left
        · simp only [Act.put,qA,qB,qC,i64_w,i32_w]
          rfl
        refine take_ (i:=4) (N:=some 30) (v:=?_) (a':=?_) #[true,true,true,true,true,true,false,false,false,false,false,false] rfl rfl (by kernel_rfl) (fun _ _ _ h=>h) (Or.inl ⟨by rfl,?_⟩) hHeld ?_ ?_
        rotate_left
        · intro w' s0
          go_simp
          with_reducible rfl
        rotate_left
        · simp only [Act.put,qA,qB,qC,i64_w,i32_w]
          rfl
        refine one_ (i:=6) (N:=some 32) #[true,true,true,true,true,true,true,false,false,false,false,false] rfl rfl (by kernel_rfl) (by decide) (fun K hK=>?_)
        refine goesVP_ Try.func98 (by kernel_rfl) rfl #[.pointer (some ⟨g,0,none⟩)] (by rfl) rfl rfl (by rfl) ?_
        with_reducible refine (value_calls HXd.out.p).mono ?_
        rintro e w3_ ⟨⟨hb_,hk_⟩,h_⟩
        have hl:=HL.out
        rcases hv:valueP en us with q | ⟨va_,us2⟩
        · rw [hv] at h_ hl
          obtain rfl:=h_
          simp only [bind_err] at hl
          subst hl
          have hr:=HR.out
          simp only [bind_err] at hr
          obtain rfl:=hr
          have HZ:=aM (HXd.out.bad hb_ hk_)
          clear hb_ hk_ hv
          refine Or.inr ⟨_,rfl,?_⟩
          (try go_wp2)
          (try simp only [Exit.inBlock,Exit.then])
          exact ⟨rfl,HZ.out,rfl⟩
        have HV_:=aM (indexP_ok hv)
        rw [hv] at h_ hl
        obtain ⟨rfl,hp_⟩:=h_
        simp only [bind_ok] at hl
        have HL2:=aM hl
        have HX2:=aM (HXd.out.call hp_ hk_)
        clear hb_ hk_ hp_ hl hv
        refine Or.inl ⟨_,rfl,?_⟩
        refine hK.out _ _ ((HX2.out.at1 4)) (fun hHeld=>?_)
        clear hK K
        refine norm_ (a':=?_) ?_ ?_
        rotate_left
        · show Act.put _ (some 32) _=_
          simp only [Act.put,qA,qB,qC,i64_w,i32_w]
          rfl
        refine one_ (i:=7) (N:=some 33) #[true,true,true,true,true,true,true,true,false,false,false,false] rfl rfl (by kernel_rfl) (by decide) (fun K hK=>?_)
        refine value_ (w1:=?_) (v:=?_) (by rfl) rfl ?_ ?_
        rotate_left 2
        · go_simp
          constructor
          · rfl
          · rfl
        refine hK.out _ _ ((blk_cell (blk_alloc HX2.out.box (.cells #[.int .i64 va_] 3)) 4)) (fun hHeld=>?_)
        clear hK K
        refine norm_ (a':=?_) ?_ ?_
        rotate_left
        · show Act.put _ (some 33) _=_
          simp only [Act.put,qA,qB,qC,i64_w,i32_w]
          rfl
        refine one_ (i:=8) (N:=some 34) #[true,true,true,true,true,true,true,true,true,false,false,false] rfl rfl (by kernel_rfl) (by decide) (fun K hK=>?_)
        refine Kd.R_append_step (Kd.int .i64) (w0:=w3_) w.heap.size (by rfl) (.tmp 30) (.tmp 33) 31 3 (.int .i64 0) 8 rfl Try.underlying31 (by kernel_rfl) rfl (by decide) (by omega) (.slice Aa xa.length ca) xa va_ [.int .i64 va_] (fun _=>True) (fun k=>True∧some k≠(Value.slice Aa xa.length ca).ownBlock) rfl (by first | rfl | (simp;rfl)) rfl (fun k hk=>⟨trivial,hk.2⟩) (fun k hk=>trivial) HX2.out.two.ra (Below.refl _ _) (keep_size HX2.out.k) (by have:=HLN.out;have:=HT.out;omega) ?_
        intro v1 w4_ hr4 hb4 hg4 hv4
        obtain ⟨A6,c6,e6⟩:=Kd.R_slice hr4
        rw [List.length_append,List.length_singleton] at e6
        subst e6
        have B4:=aM ((hg4.block bx (blk_lt HX2.out.box) (Kd.R_ne HX2.out.two.ra HX2.out.box (by decide))).trans HX2.out.box)
        have HX4:=aM (HX2.out.app hg4 (.inl rfl) (⟨op,id,0,ty,xa++[va_],[],noB,at_⟩:SI) 4 (.slice A6 (xa.length+1) c6) rfl (HX2.out.two.appA hr4 hg4 hv4))
        clear hr4 hb4 hg4 hv4
        refine hK.out _ _ ((blk_cell B4.out 4)) (fun hHeld=>?_)
        clear hK K
        refine norm_ (a':=?_) ?_ ?_
        rotate_left
        · show Act.put _ (some 34) _=_
          simp only [Act.put,qA,qB,qC,i64_w,i32_w]
          rfl
        refine pure_ (i:=9) (N:=some 35) (v:=?_) (a':=?_) #[true,true,true,true,true,true,true,true,true,true,false,false] rfl rfl (by kernel_rfl) (fun _ _ _ h=>h) (Or.inl ⟨by rfl,?_⟩) ?_ ?_
        rotate_left
        · intro w'
          go_simp
          with_reducible rfl
        rotate_left
        · simp only [Act.put,qA,qB,qC,i64_w,i32_w]
          rfl
        refine pure_ (i:=10) (N:=some 36) (v:=?_) (a':=?_) #[true,true,true,true,true,true,true,true,true,true,true,false] rfl rfl (by kernel_rfl) (fun _ _ _ h=>h) (Or.inl ⟨by rfl,?_⟩) ?_ ?_
        rotate_left
        · intro w'
          go_simp
          with_reducible rfl
        rotate_left
        · simp only [Act.put,qA,qB,qC,i64_w,i32_w]
          rfl
        refine last_ (i:=11) (N:=none) #[true,true,true,true,true,true,true,true,true,true,true,true] rfl rfl (by kernel_rfl) (by decide) (fun K hK=>?_)
        have c5_:=blk_cell B4.out 4
        have f5_:=blk_frozen B4.out 4
        simp only [iObj] at c5_
        refine skip_ (w1:=?_) (by rfl) rfl ?_ ?_
        rotate_left
        · go_simp
          rfl
        refine hK.out _ _ ?_
        clear hK K
        refine done_ (by kernel_rfl) ?_
        generalize w4_.setCell ⟨bx,4,none⟩ (.slice A6 (xa.length+1) c6)=w5 at HX4 ⊢
        clear HX2 B4 HXd
        clear dj
        go_wp2_with fail
        go_roundg m
        case measure=>omega
        case rel=>exact ⟨j+1,xa++[va_],us2,_,_,by rw [show wrap64 (j+1)=j+1 from w64 (by have:=HLN.out;omega) (by have:=HLN.out;have:=HT.out;omega)],HL2,⟨by have:=HLN.out;omega,by have:=HLN.out;omega,by have:=HLN.out;simp;omega⟩,HX4⟩
end Go.Proofs.Ytkjdblbgmomieaa.PSh
end
