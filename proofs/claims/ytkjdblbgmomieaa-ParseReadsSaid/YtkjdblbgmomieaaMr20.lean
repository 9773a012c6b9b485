import Derived.Test.YtkjdblbgmomieaaMr19
import Derived.Test.YtkjdblbgmomieaaMr11
import Derived.Test.YtkjdblbgmomieaaMr12
import Derived.Test.YtkjdblbgmomieaaMr13
import Derived.Test.YtkjdblbgmomieaaMr14
import Derived.Test.YtkjdblbgmomieaaMr6
import Derived.Test.YtkjdblbgmomieaaMr15
-- from YtkjdblbgmomieaaHPlaces
section
namespace Go.Proofs.Ytkjdblbgmomieaa.PSh
set_option maxHeartbeats 8000000
set_option maxRecDepth 100000
open Go.RowKit Go.Proofs.YtkjdblbgmomieaaW.PrintWords Go.Proofs.YtkjdblbgmomieaaW.PrintLast Go.Proofs.YtkjdblbgmomieaaW.PrintMore Go.Proofs.Ytkjdblbgmomieaa.Str
set_option linter.unusedVariables false
set_option linter.unusedSimpArgs false
theorem places_calls (A0 A1:Option Addr) (c0 c1:Nat) (fs:List SF) (w:World) (hr0:Kd.C k34 w A0 fs.length fs) (hc0:fs.length≤c0) (hr1:Kd.C k34 w A1 fs.length fs) (hc1:fs.length≤c1):
    Calls Try.prog 23 #[.agg #[.slice A0 fs.length c0],.agg #[.slice A1 fs.length c1]] w fun e w'=>e=.returned (.bool true)∧Below w.heap.size w w':=by
  have hu24:=Try.underlying24
  have hu34:=Try.underlying34
  have hu39:=Try.underlying39
  have HC0:=aM hc0
  have HC1:=aM hc1
  have hq_:=below_alloc (below_alloc (Below.refl w.heap.size w) (.cells #[.slice A0 fs.length c0] 24)) (.cells #[.slice A1 fs.length c1] 24)
  have HX0:=aM (Kd.C_below hr0 hq_)
  have HX1:=aM (Kd.C_below hr1 hq_)
  have HB1:=aM hq_
  have HMX:=aM (Kd.C_max hr0)
  clear hc0 hc1 hr0 hr1 hq_
  go_enter Try.func23,Try.ntmps23
  have k1_:=blk_alloc (blk_new w (.cells #[.slice A0 fs.length c0] 24)) (.cells #[.slice A1 fs.length c1] 24)
  have k2_:=blk_new (w.alloc (.cells #[.slice A0 fs.length c0] 24)) (.cells #[.slice A1 fs.length c1] 24)
  rw [show (w.alloc (.cells #[.slice A0 fs.length c0] 24)).heap.size=w.heap.size+1 by simp] at k2_
  go_upto_region 1 with (fail)
  generalize ((w.alloc (.cells #[.slice A0 fs.length c0] 24)).alloc (.cells #[.slice A1 fs.length c1] 24))=W1 at k1_ k2_ HX0 HX1 HB1 ⊢
  generalize w.heap.size+1=b1 at k2_ ⊢
  generalize hb0:w.heap.size=b0 at k1_ ⊢
  have HP0:=aM k1_
  have HP1:=aM k2_
  have z0:=blk_cell k1_ 0
  have z1:=blk_cell k2_ 0
  clear k1_ k2_
  go_wp2_with fail
  refine (samep_calls fs fs _ _ _ _ _ HX0.out HX1.out rfl).mono ?_
  rintro e v1 ⟨rfl,hb_⟩
  have HB2:=aM (below_step HB1.out hb_)
  have HQ0:=aM (blk_below HP0.out hb_)
  have HQ1:=aM (blk_below HP1.out hb_)
  have HY0:=aM (Kd.C_below HX0.out hb_)
  have HY1:=aM (Kd.C_below HX1.out hb_)
  clear hb_ HX0 HX1 HP0 HP1 z0 z1 HB1
  go_upto_region 3 with (fail)
  go_wp2
  (try simp only [Act.put,qA,qB,qC])
  go_loopg [5] fs.length (fun kq v5 w'=>∃ i:Int,v5=.int .i64 i∧Aside0 (0≤i∧i≤(fs.length:Int))∧Aside0 (Below v1.heap.size v1 w')∧Aside0 (kq=fs.length - i.toNat))
  case atStart=>exact ⟨0,rfl,⟨by omega⟩,⟨Below.refl _ _⟩,⟨rfl⟩⟩
  case round=>
    obtain ⟨i,rfl,HI,HB,HK⟩:=hrel
    have y0:=blk_cell (blk_below HQ0.out HB.out) 0
    have y1:=blk_cell (blk_below HQ1.out HB.out) 0
    by_cases hp:i<(fs.length:Int)
    · have dd1:decide (i<(fs.length:Int))=true:=decide_eq_true hp
      obtain ⟨ad,B1,d1,B3,d3,e_,z0,z1,z2,z3,z4,l1,g1,l3,g3⟩:=at_T34 HY0.out i HI.out.1 hp
      obtain ⟨ad',B1',d1',B3',d3',e_',z0',z1',z2',z3',z4',l1',g1',l3',g3'⟩:=at_T34 HY1.out i HI.out.1 hp
      rw [e_] at y0
      rw [e_'] at y1
      have y0:wr.cell? ⟨b0,0,none⟩=some (.slice (some ad) fs.length c0):=y0.trans rfl
      have y1:wr.cell? ⟨b1,0,none⟩=some (.slice (some ad') fs.length c1):=y1.trans rfl
      have hx:=hb0
      clear z0 z1 z2 l1 g1 z0' z1' z2' l1' g1' hx
      generalize rd_T34 fs i=f at z3 z4 l3 g3 z3' z4' l3' g3'
      have HE0:=aM e_
      have HE1:=aM e_'
      have HZ3:=aM z3
      have HZ3':=aM z3'
      have HL3:=aM l3
      have HL3':=aM l3'
      have HG3:=aM g3
      have HG3':=aM g3'
      have HP2:=aM hp
      replace z4:=pw_cell_below HB.out z4
      replace z4':=pw_cell_below HB.out z4'
      have p1:=eq_true HI.out.1
      have q1:=eq_true hp
      have n1:(f.f4 !=f.f4)=false:=bne_self_eq_false ..
      clear hp l3 g3 l3' g3' e_ e_' z3 z3'
      have f0:=blk_frozen (blk_below HQ0.out HB.out) 0
      have f1:=blk_frozen (blk_below HQ1.out HB.out) 0
      go_wp2
      repeat (go_quiet (fail);try go_wp2)
      clear f0 f1 y0 y1 z4 z4' n1 dd1 p1 q1
      (try simp only [Act.put,qA,qB,qC])
      go_loopg [6] f.f3.length (fun kq v6 w'=>∃ j:Int,v6=.int .i64 j∧Aside0 (0≤j∧j≤(f.f3.length:Int))∧Aside0 (Below v1.heap.size v1 w')∧Aside0 (kq=f.f3.length - j.toNat))
      case atStart=>exact ⟨0,rfl,⟨by omega⟩,⟨by first | exact HB.out | exact pw_below_drewN HB.out _⟩,⟨rfl⟩⟩
      case round=>
        clear HB
        obtain ⟨j,rfl,HJ,HB,HKJ⟩:=hrel
        have y0:=blk_cell (blk_below HQ0.out HB.out) 0
        rw [HE0.out] at y0
        have z3:=pw_cell_below HB.out HZ3.out
        have p1:=eq_true HI.out.1
        have q1:=eq_true HP2.out
        by_cases hj:j<(f.f3.length:Int)
        · have dj:decide (j<(f.f3.length:Int))=true:=decide_eq_true hj
          obtain ⟨ad2,A5,c5,e2,hx2,l5,g5⟩:=at_L4 HG3.out j HJ.out.1 hj
          obtain ⟨ad2',A5',c5',e2',hx2',l5',g5'⟩:=at_L4 HG3'.out j HJ.out.1 hj
          generalize rd_L4 f.f3 j=bl at hx2 l5 g5 hx2' l5' g5'
          have HX2:=aM hx2
          have HX2':=aM hx2'
          have HL5:=aM l5
          have HG5:=aM g5
          have HG5':=aM g5'
          have HM5:=aM (Kd.C_max g5)
          have HE2:=aM e2
          have HE2':=aM e2'
          have HJ2:=aM hj
          clear hj l5 g5 hx2 e2 l5' g5' hx2' e2'
          go_upto_region 11 with (fail)
          clear y0 z3 dj
          go_wp2
          (try simp only [Act.put,qA,qB,qC])
          go_loopg [7] bl.length (fun kq v7 w'=>∃ m:Int,v7=.int .i64 m∧Aside0 (0≤m∧m≤(bl.length:Int))∧Aside0 (Below v1.heap.size v1 w')∧Aside0 (kq=bl.length - m.toNat))
          case atStart=>exact ⟨0,rfl,⟨by omega⟩,⟨HB.out⟩,⟨rfl⟩⟩
          case round=>
            clear HB
            obtain ⟨m,rfl,HM,HB,HKM⟩:=hrel
            have pj:=eq_true HJ.out.1
            have qj:=eq_true HJ2.out
            have y0:=blk_cell (blk_below HQ0.out HB.out) 0
            rw [HE0.out] at y0
            have z3:=pw_cell_below HB.out HZ3.out
            rw [HE2.out] at z3
            have x2:=pw_cell_below HB.out HX2.out
            by_cases hm:m<(bl.length:Int)
            · have dm:decide (m<(bl.length:Int))=true:=decide_eq_true hm
              have y1:=blk_cell (blk_below HQ1.out HB.out) 0
              rw [HE1.out] at y1
              have y0:wr.cell? ⟨b0,0,none⟩=some (.slice (some ad) fs.length c0):=y0.trans rfl
              have y1:wr.cell? ⟨b1,0,none⟩=some (.slice (some ad') fs.length c1):=y1.trans rfl
              have z3':=pw_cell_below HB.out HZ3'.out
              rw [HE2'.out] at z3'
              have x2':=pw_cell_below HB.out HX2'.out
              obtain ⟨ad3,E4,e4,E5,e5,e3,-,-,-,-,-,-,-,x7,m4,h4,m5,h5⟩:=at_T39 (Kd.C_below HG5.out HB.out) m HM.out.1 hm
              obtain ⟨ad3',E4',e4',E5',e5',e3',-,-,-,-,-,-,-,x7',m4',h4',m5',h5'⟩:=at_T39 (Kd.C_below HG5'.out HB.out) m HM.out.1 hm
              rw [e3] at x2
              rw [e3'] at x2'
              generalize (rd_T39 bl m).f7=x at x7 x7'
              have HM2:=aM hm
              have pm:=eq_true HM.out.1
              have qm:=eq_true hm
              have n1:(x !=x)=false:=bne_self_eq_false ..
              clear hm m4 h4 m5 h5 m4' h4' m5' h5' e3 e3' dm
              have f0:=blk_frozen (blk_below HQ0.out HB.out) 0
              have f1:=blk_frozen (blk_below HQ1.out HB.out) 0
              go_wp2
              repeat (go_quiet (fail);try go_wp2)
              clear f0 f1 y0 y1 z3 z3' x2 x2' x7 x7' n1 p1 q1 pj qj pm qm
              go_roundg (bl.length - (m+1).toNat)
              case measure=>have:=HKM.out;have:=HM2.out;have:=HM.out;omega
              case rel=>exact ⟨m+1,by rw [show wrap64 (m+1)=m+1 from w64 (by have:=HM.out;omega) (by have:=HM2.out;have:=HL5.out;have:=HM5.out;omega)],⟨by have:=HM.out;have:=HM2.out;omega⟩,⟨by first | exact HB.out | exact pw_below_drewN HB.out _⟩,⟨rfl⟩⟩
            · have dm:decide (m<(bl.length:Int))=false:=decide_eq_false hm
              clear hm
              go_wp2_with fail
              go_roundg (f.f3.length - (j+1).toNat)
              case measure=>have:=HKJ.out;have:=HJ2.out;have:=HJ.out;omega
              case rel=>exact ⟨j+1,by rw [show wrap64 (j+1)=j+1 from w64 (by have:=HJ.out;omega) (by have:=HJ2.out;have:=HL3.out;have:=Kd.C_max HG3.out;omega)],⟨by have:=HJ.out;have:=HJ2.out;omega⟩,⟨HB.out⟩,⟨rfl⟩⟩
        · have dj:decide (j<(f.f3.length:Int))=false:=decide_eq_false hj
          clear hj
          go_wp2_with fail
          go_roundg (fs.length - (i+1).toNat)
          case measure=>have:=HK.out;have:=HP2.out;have:=HI.out;omega
          case rel=>exact ⟨i+1,by rw [show wrap64 (i+1)=i+1 from w64 (by have:=HI.out;omega) (by have:=HP2.out;have:=HC0.out;have:=HMX.out;omega)],⟨by have:=HI.out;have:=HP2.out;omega⟩,⟨HB.out⟩,⟨rfl⟩⟩
    · have dd1:decide (i<(fs.length:Int))=false:=decide_eq_false hp
      have HB9:=aM (below_step HB2.out HB.out)
      clear hp
      go_wp2
      (try simp only [Exit.inBlock,Exit.then])
      go_ret
      exact ⟨rfl,HB9.out⟩
end Go.Proofs.Ytkjdblbgmomieaa.PSh
end
-- from YtkjdblbgmomieaaPNz
section
namespace Go.Proofs.Ytkjdblbgmomieaa.PSh
open Go.RowKit Go.Proofs.YtkjdblbgmomieaaW.PrintWords Go.Proofs.YtkjdblbgmomieaaW.PrintLast Go.Proofs.YtkjdblbgmomieaaW.PrintMore Go.Proofs.Ytkjdblbgmomieaa.Str Go.Proofs.Ytkjdblbgmomieaa.Dig Go.Proofs.Ytkjdblbgmomieaa.DigLaw
set_option linter.unusedVariables false
set_option linter.unusedSimpArgs false
section
variable {en : Int} {ts : List Tk}
end
section
variable {en : Int} {ts : List Tk}
end
end Go.Proofs.Ytkjdblbgmomieaa.PSh
end
-- from YtkjdblbgmomieaaRSim
section
namespace Go.Proofs.Ytkjdblbgmomieaa.PSh
open Go.RowKit Go.Proofs.YtkjdblbgmomieaaW.PrintWords Go.Proofs.YtkjdblbgmomieaaW.PrintLast Go.Proofs.YtkjdblbgmomieaaW.PrintMore Go.Proofs.Ytkjdblbgmomieaa.Str
set_option linter.unusedVariables false
set_option linter.unusedSimpArgs false
def Rp (tl:List Tk) (en n:Int) (x:PE (List Tk)) (s:Int × Int × Int × Int × Int):Prop:=match x with
    | .ok ts=>0≤s.1∧s.1≤1000000000∧s.2.1=en∧tl.drop s.1.toNat=ts∧s.1≤tl.length∧s.2.2.1=n∧s.2.2.2=(0,0)
    | .error q=>s.2.1=en∧q.1≠0∧s.2.2.2=q
theorem drop_facts {tl ts:List Tk} {s1:Int} (h0:0≤s1) (h:tl.drop s1.toNat=ts):(ts=[]→(tl.length:Int)≤s1)∧∀ t us,ts=t::us→s1<(tl.length:Int)∧rd_T101 tl s1=t∧tl.drop (s1+1).toNat=us:=by
  refine ⟨fun e=>?_,fun t us e=>?_⟩
  · have:=congrArg List.length h
    rw [e,List.length_drop] at this
    simp at this
    omega
  · have hlt:s1<(tl.length:Int):=by
      have:=congrArg List.length h
      rw [e,List.length_drop,List.length_cons] at this
      omega
    have hd:=drop_cons_ tl s1 z101 h0 hlt
    rw [h,e] at hd
    injection hd with h1 h2
    exact ⟨hlt,h1.symm,h2.symm⟩
theorem fail_live {tl ts:List Tk} {en n s1 c:Int} (h:Rp tl en n (.ok ts) (s1,en,n,0,0)) (hc:c≠0):∃ s,r06_Reader_fail.f tl s1 en n 0 0 c=some s∧Rp tl en n (failP en ts c:PE (List Tk)) s:=by
  obtain ⟨h0,h1,h2,h3,h4,h5,h6⟩:=h
  simp only at h0 h1 h3 h4
  have hd:=drop_facts h0 h3
  unfold r06_Reader_fail.f
  rw [if_pos rfl]
  cases ts with
  | nil=>
    rw [if_neg (by have:=hd.1 rfl;omega)]
    exact ⟨_,rfl,rfl,hc,rfl⟩
  | cons t us=>
    obtain ⟨k1,k2,k3⟩:=hd.2 t us rfl
    rw [if_pos k1,if_pos h0,k2]
    exact ⟨_,rfl,rfl,hc,rfl⟩
theorem fail_dead {tl:List Tk} {s1 s2 s3 s4 s5 c:Int} (h:s4≠0):r06_Reader_fail.f tl s1 s2 s3 s4 s5 c=some (s1,s2,s3,s4,s5):=by
  unfold r06_Reader_fail.f
  rw [if_neg h]
theorem peek_live0 {tl ts:List Tk} {en n s1:Int} (h:Rp tl en n (.ok ts) (s1,en,n,0,0)):r06_Reader_peek.f tl s1 en n 0 0 0=some (pk0 ts,s1,en,n,0,0):=by
  obtain ⟨h0,h1,h2,h3,h4,h5,h6⟩:=h
  simp only at h0 h1 h3 h4
  have hd:=drop_facts h0 h3
  unfold r06_Reader_peek.f
  rw [if_pos rfl,w64 (x:=s1+0) (by omega) (by omega),Int.add_zero]
  cases ts with
  | nil=>
    rw [if_pos (by have:=hd.1 rfl;omega)]
    rfl
  | cons t us=>
    obtain ⟨k1,k2,k3⟩:=hd.2 t us rfl
    rw [if_neg (by omega),if_pos h0,if_pos k1,k2]
    rfl
theorem peek_live1 {tl ts:List Tk} {en n s1:Int} (h:Rp tl en n (.ok ts) (s1,en,n,0,0)):r06_Reader_peek.f tl s1 en n 0 0 1=some (pk1 ts,s1,en,n,0,0):=by
  obtain ⟨h0,h1,h2,h3,h4,h5,h6⟩:=h
  simp only at h0 h1 h3 h4
  have hd:=drop_facts h0 h3
  unfold r06_Reader_peek.f
  rw [if_pos rfl,w64 (x:=s1+1) (by omega) (by omega)]
  cases ts with
  | nil=>
    rw [if_pos (by have:=hd.1 rfl;omega)]
    rfl
  | cons t us=>
    obtain ⟨k1,k2,k3⟩:=hd.2 t us rfl
    have hd2:=drop_facts (by omega:0≤s1+1) k3
    cases us with
    | nil=>
      rw [if_pos (by have:=hd2.1 rfl;omega)]
      rfl
    | cons u vs=>
      obtain ⟨j1,j2,j3⟩:=hd2.2 u vs rfl
      rw [if_neg (by omega),if_pos (by omega),if_pos j1,j2]
      rfl
theorem peek_dead {tl:List Tk} {s1 s2 s3 s4 s5 a:Int} (h:s4≠0):r06_Reader_peek.f tl s1 s2 s3 s4 s5 a=some (⟨#[]⟩,s1,s2,s3,s4,s5):=by
  unfold r06_Reader_peek.f
  rw [if_neg h]
theorem step_live {tl:List Tk} {t:Tk} {us:List Tk} {en n s1:Int} (hl:tl.length≤100000000) (h:Rp tl en n (.ok (t::us)) (s1,en,n,0,0)):Rp tl en n (.ok us) (wrap64 (s1+1),en,n,0,0):=by
  obtain ⟨h0,h1,h2,h3,h4,h5,h6⟩:=h
  simp only at h0 h1 h3 h4
  obtain ⟨k1,k2,k3⟩:=(drop_facts h0 h3).2 t us rfl
  rw [w64 (x:=s1+1) (by omega) (by omega)]
  exact ⟨by show 0≤s1+1;omega,by show s1+1≤1000000000;omega,rfl,k3,by show s1+1≤_;omega,rfl,rfl⟩
end Go.Proofs.Ytkjdblbgmomieaa.PSh
end
-- from YtkjdblbgmomieaaRSimA
section
namespace Go.Proofs.Ytkjdblbgmomieaa.PSh
open Go.RowKit Go.Proofs.YtkjdblbgmomieaaW.PrintWords Go.Proofs.YtkjdblbgmomieaaW.PrintLast Go.Proofs.YtkjdblbgmomieaaW.PrintMore Go.Proofs.Ytkjdblbgmomieaa.Str
set_option linter.unusedVariables false
set_option linter.unusedSimpArgs false
theorem Rp.live {tl ts:List Tk} {en n:Int} {s:Int × Int × Int × Int × Int} (h:Rp tl en n (.ok ts) s):s=(s.1,en,n,0,0):=by
  obtain ⟨s1,s2,s3,s4,s5⟩:=s
  obtain ⟨h0,h1,h2,h3,h4,h5,h6⟩:=h
  simp only at h2 h5 h6
  rw [h2,h5,h6]
theorem Rp.dead {tl:List Tk} {en n:Int} {q:Int × Int} {s:Int × Int × Int × Int × Int} (h:Rp tl en n (.error q) s):s.2.2.2.1≠0:=by
  obtain ⟨h2,h3,h4⟩:=h
  rw [h4]
  exact h3
theorem want_rp {tl:List Tk} {en n:Int} {x:PE (List Tk)} {s:Int × Int × Int × Int × Int} {a:ByteArray} (hl:tl.length≤100000000) (ha:a.toList≠[]) (h:Rp tl en n x s):∃ s',r06_Reader_want.f tl s.1 s.2.1 s.2.2.1 s.2.2.2.1 s.2.2.2.2 a=some s'∧Rp tl en n (x.bind (wantP en a.toList)) s':=by
  cases x with
  | ok ts=>
    have e:=h.live
    rw [e] at h ⊢
    generalize s.1=s1 at h ⊢
    simp only
    unfold r06_Reader_want.f
    rw [if_pos rfl,peek_live0 h,Option.bind_some]
    simp only
    by_cases c:(pk0 ts).toList=a.toList
    · rw [if_pos c]
      refine ⟨_,rfl,?_⟩
      show Rp tl en n (wantP en a.toList ts) _
      unfold wantP
      rw [if_pos c]
      cases ts with
      | nil=>exact absurd (c.symm.trans (show (pk0 []).toList=[] from ByteArray.toList_empty)) ha
      | cons t us=>exact step_live hl h
    · rw [if_neg c]
      obtain ⟨s',hs,hr⟩:=fail_live h (show (2:Int)≠0 by decide)
      rw [hs,Option.bind_some]
      refine ⟨_,rfl,?_⟩
      show Rp tl en n (wantP en a.toList ts) _
      unfold wantP
      rw [if_neg c]
      exact hr
  | error q=>
    have hd:=h.dead
    unfold r06_Reader_want.f
    rw [if_neg hd,fail_dead hd,Option.bind_some]
    exact ⟨_,rfl,h⟩
def Rv {α:Type} (tl:List Tk) (en n:Int) (x:PE (α × List Tk)) (o:α × Int × Int × Int × Int × Int):Prop:=match x with
  | .ok a=>o.1=a.1∧Rp tl en n (.ok a.2) o.2
  | .error q=>Rp tl en n (.error q) o.2
theorem name_empty:nameL ((⟨#[]⟩:ByteArray).data.toList)=false:=by decide
theorem rname_ev (s:ByteArray) (hs:s.size≤4611686018427387904):Ev (fun k=>r02_Name.f k s) (nameL s.data.toList):=by
  have h:=ref_name_ev s.data.toList (by rw [← size_data];exact hs)
  rw [← mk_data] at h
  exact h
theorem name_rv {tl:List Tk} {en n:Int} {x:PE (List Tk)} {s:Int × Int × Int × Int × Int} (hl:tl.length≤100000000) (ht:∀ t∈tl,t.f0.size≤65536) (h:Rp tl en n x s):∃ o,Ev (fun k=>r06_Reader_name.f k tl s.1 s.2.1 s.2.2.1 s.2.2.2.1 s.2.2.2.2) o∧Rv tl en n (x.bind (nameP en)) o:=by
  cases x with
  | ok ts=>
    have e:=h.live
    rw [e] at h ⊢
    generalize s.1=s1 at h ⊢
    simp only
    have hsz:(pk0 ts).size≤65536:=by
      cases ts with
      | nil=>exact (by decide:(⟨#[]⟩:ByteArray).size≤65536)
      | cons t us=>
        refine ht t ?_
        obtain ⟨h0,h1,h2,h3,h4⟩:=h
        simp only at h3
        exact List.mem_of_mem_drop (h3 ▸ List.mem_cons_self)
    unfold r06_Reader_name.f
    simp only [peek_live0 h,Option.bind_some]
    by_cases c:nameL (pk0 ts).data.toList=true
    · have hv:=rname_ev (pk0 ts) (by omega)
      rw [c] at hv
      refine ⟨_,Ev.bind hv (ev_pos rfl (Ev.now _)),?_⟩
      show Rv tl en n (nameP en ts) _
      unfold nameP
      rw [if_pos c]
      cases ts with
      | nil=>exact absurd (name_empty.symm.trans c) (by decide)
      | cons t us=>exact ⟨rfl,step_live hl h⟩
    · have hv:=rname_ev (pk0 ts) (by omega)
      rw [Bool.eq_false_iff.mpr c] at hv
      obtain ⟨s',hs,hr⟩:=fail_live h (show (4:Int)≠0 by decide)
      refine ⟨_,Ev.bind hv (ev_neg (by decide) (ev_some hs (Ev.now _))),?_⟩
      show Rv tl en n (nameP en ts) _
      unfold nameP
      rw [if_neg c]
      exact hr
  | error q=>
    have hd:=h.dead
    have hv:=rname_ev (⟨#[]⟩:ByteArray) (by decide)
    rw [name_empty] at hv
    unfold r06_Reader_name.f
    simp only [peek_dead hd,Option.bind_some]
    refine ⟨_,Ev.bind hv (ev_neg (by decide) (ev_some (fail_dead hd) (Ev.now _))),h⟩
end Go.Proofs.Ytkjdblbgmomieaa.PSh
end
-- from YtkjdblbgmomieaaLiDigR
section
namespace Go.Proofs.Ytkjdblbgmomieaa.DigLaw
set_option linter.unusedSimpArgs false
set_option linter.unusedVariables false
open Go.RowKit Go.Proofs.YtkjdblbgmomieaaW.PrintWords Go.Proofs.YtkjdblbgmomieaaW.PrintLast Go.Proofs.YtkjdblbgmomieaaW.PrintMore Go.Proofs.Ytkjdblbgmomieaa.Str Go.Proofs.Ytkjdblbgmomieaa.Dig Go.Proofs.Ytkjdblbgmomieaa.PSh
theorem valD_from (v:Nat):∀ (l:List UInt8),valD v l=v * 10 ^ l.length+valD 0 l:=by
  intro l
  induction l generalizing v with
  | nil=>simp [valD]
  | cons c l ih=>
    rw [valD_cons,valD_cons,ih (vn v c),ih (vn 0 c)]
    unfold vn
    simp only [List.length_cons,Nat.pow_succ]
    rw [Nat.add_mul,Nat.zero_mul,Nat.zero_add,Nat.mul_assoc v 10,Nat.mul_comm 10]
    omega
theorem valD_lt:∀ (l:List UInt8),l.all isD=true→valD 0 l<10 ^ l.length:=by
  intro l
  induction l with
  | nil=>intro _;simp [valD]
  | cons c l ih=>
    intro h
    rw [List.all_cons,Bool.and_eq_true] at h
    obtain ⟨h1,h2⟩:=(isD_iff c).1 h.1
    have:=ih h.2
    rw [valD_cons,valD_from]
    unfold vn
    simp only [List.length_cons,Nat.pow_succ]
    have h3:(0 * 10+(c.toNat - 48)) * 10 ^ l.length≤9 * 10 ^ l.length:=Nat.mul_le_mul_right _ (by omega)
    omega
theorem less_iff:∀ (s t:List UInt8),s.length=t.length→s.all isD=true→t.all isD=true→(Op.bytesLess s t=decide (valD 0 s<valD 0 t)):=by
  intro s
  induction s with
  | nil=>
    intro t hl _ _
    have:t=[]:=List.length_eq_zero_iff.1 hl.symm
    subst this
    simp [Op.bytesLess,valD]
  | cons a s ih=>
    intro t hl hs ht
    cases t with
    | nil=>simp at hl
    | cons b t=>
      rw [List.all_cons,Bool.and_eq_true] at hs ht
      obtain ⟨a1,a2⟩:=(isD_iff a).1 hs.1
      obtain ⟨b1,b2⟩:=(isD_iff b).1 ht.1
      have hl2:s.length=t.length:=by simpa using hl
      have hi:=ih t hl2 hs.2 ht.2
      have l1:=valD_lt s hs.2
      have l2:=valD_lt t ht.2
      rw [valD_cons,valD_cons,valD_from (vn 0 a),valD_from (vn 0 b)]
      unfold vn
      rw [hl2] at l1 ⊢
      simp only [Op.bytesLess,hi,Nat.zero_mul,Nat.zero_add]
      by_cases hab:a<b
      · have h3:a.toNat<b.toNat:=UInt8.lt_iff_toNat_lt.1 hab
        have h4:(a.toNat - 48+1) * 10 ^ t.length≤(b.toNat - 48) * 10 ^ t.length:=Nat.mul_le_mul_right _ (by omega)
        rw [Nat.add_mul,Nat.one_mul] at h4
        have h5:(a.toNat - 48) * 10 ^ t.length+valD 0 s<(b.toNat - 48) * 10 ^ t.length+valD 0 t:=by omega
        simp [hab,h5]
      · by_cases hba:a=b
        · subst hba
          simp
        · have h3:b.toNat<a.toNat:=by
            have h6:¬ a.toNat<b.toNat:=fun h=>hab (UInt8.lt_iff_toNat_lt.2 h)
            have h7:a.toNat≠b.toNat:=fun h=>hba (UInt8.toNat_inj.1 h)
            omega
          have h4:(b.toNat - 48+1) * 10 ^ t.length≤(a.toNat - 48) * 10 ^ t.length:=Nat.mul_le_mul_right _ (by omega)
          rw [Nat.add_mul,Nat.one_mul] at h4
          have h5:¬ (a.toNat - 48) * 10 ^ t.length+valD 0 s<(b.toNat - 48) * 10 ^ t.length+valD 0 t:=by omega
          simp [hab,hba,h5]
theorem c48 (c:UInt8):(c.toNat:Int)=48↔c=48:=by
  constructor
  · intro h;apply UInt8.toNat_inj.1;simpa using (by omega:c.toNat=48)
  · rintro rfl;rfl
theorem ref_digits_loop:∀ (rest pre:List UInt8),(pre++rest).length≤4611686018427387904→Ev (fun k=>r01_digits.l0 k (mk (pre++rest)) (pre.length:Int)) (rest.all isD):=by
  intro rest
  induction rest with
  | nil=>
    intro pre _
    exact Ev.step (f:=fun _=>some true) (fun k=>by simp only [r01_digits.l0];rw [if_neg (by rw [mk_size];simp)]) (Ev.now _)
  | cons c rest ih=>
    intro pre hl
    have hsz:(pre.length:Int)<((mk (pre++c::rest)).size:Int):=by rw [mk_size];simp;omega
    refine Ev.step (f:=fun k=>if (c.toNat:Int)<48 then some false else if (c.toNat:Int)>57 then some false else r01_digits.l0 k (mk (pre++c::rest)) (wrap64 (pre.length+1))) (fun k=>by simp only [r01_digits.l0];rw [if_pos hsz,if_pos (by omega),bt_pre]) ?_
    have hn:¬ isD c=true→(c::rest).all isD=false:=fun h=>by simp [h]
    refine ev_if (fun h=>?_) (fun h=>ev_if (fun h2=>?_) (fun h2=>?_))
    · rw [hn (fun e=>by have:=(isD_iff c).1 e;omega)];exact Ev.now _
    · rw [hn (fun e=>by have:=(isD_iff c).1 e;omega)];exact Ev.now _
    · have hc:isD c=true:=(isD_iff c).2 ⟨by omega,by omega⟩
      have hw:wrap64 ((pre.length:Int)+1)=((pre++[c]).length:Int):=by
        rw [w64 (by omega) (by simp at hl;omega)];simp
      have hpre:pre++c::rest=(pre++[c])++rest:=by simp
      rw [List.all_cons,hc,Bool.true_and,hw,hpre]
      exact ih (pre++[c]) (by rw [← hpre];exact hl)
def okD (t:List UInt8):Bool:=!t.isEmpty && !(decide (1<t.length) && t.head?==some 48) && t.all isD
theorem ref_digits (t:List UInt8) (hl:t.length≤4611686018427387904):Ev (fun k=>r01_digits.f k (mk t)) (okD t):=by
  unfold r01_digits.f
  have j:∀ b:Bool,(b=true→okD t=false)→(b=false→okD t=t.all isD)→Ev (fun k=>r01_digits.j0 k (mk t) b) (okD t):=by
    intro b h1 h2
    cases b with
    | true=>rw [h1 rfl];exact Ev.step (f:=fun _=>some false) (fun k=>by simp [r01_digits.j0]) (Ev.now _)
    | false=>rw [h2 rfl];exact Ev.step (f:=fun k=>r01_digits.l0 k (mk ([]++t)) (([]:List UInt8).length:Int)) (fun k=>by simp [r01_digits.j0]) (ref_digits_loop t [] hl)
  rw [mk_toList,mk_size]
  refine ev_if (fun h=>?_) (fun h=>ev_if (fun h1=>ev_pos (by omega) ?_) (fun h1=>?_))
  · subst h;exact j true (fun _=>rfl) (fun e=>by cases e)
  · cases t with
    | nil=>exact absurd rfl h
    | cons c t=>
      rw [bt_head]
      refine j _ (fun e=>?_) (fun e=>?_)
      · have:c=48:=(c48 c).1 (by simpa using e)
        subst this
        have h2:decide (1<(48::t).length)=true:=decide_eq_true (by omega)
        simp only [okD,h2];simp
      · have:¬ c=48:=fun e2=>by rw [(c48 c).2 e2] at e;simp at e
        simp [okD,this]
  · refine j false (fun e=>by cases e) (fun _=>?_)
    have h2:decide (1<t.length)=false:=decide_eq_false (by omega)
    have h3:t.isEmpty=false:=by simpa using h
    simp [okD,h2,h3]
theorem ref_above_loop:∀ (s t pre:List UInt8),s.length=t.length→(pre++s).length≤4611686018427387904→Ev (fun k=>r01_above.l0 k (mk (pre++s)) (mk (pre++t)) (pre.length:Int)) (Op.bytesLess t s):=by
  intro s
  induction s with
  | nil=>
    intro t pre hl _
    have:t=[]:=List.length_eq_zero_iff.1 hl.symm
    subst this
    exact Ev.step (f:=fun _=>some false) (fun k=>by simp only [r01_above.l0];rw [if_neg (by rw [mk_size];simp)]) (Ev.now _)
  | cons a s ih=>
    intro t pre hl hn
    cases t with
    | nil=>simp at hl
    | cons b t=>
      have hsz:(pre.length:Int)<((mk (pre++a::s)).size:Int):=by rw [mk_size];simp;omega
      have hsz2:(pre.length:Int)<((mk (pre++b::t)).size:Int):=by rw [mk_size];simp;omega
      refine Ev.step (f:=fun k=>if (a.toNat:Int)=(b.toNat:Int) then r01_above.l0 k (mk (pre++a::s)) (mk (pre++b::t)) (wrap64 (pre.length+1)) else some (decide ((a.toNat:Int)>(b.toNat:Int)))) (fun k=>by simp only [r01_above.l0];rw [if_pos hsz,if_pos (by omega),if_pos hsz2,bt_pre,bt_pre]) ?_
      refine ev_if (fun h=>?_) (fun h=>?_)
      · have:a=b:=UInt8.toNat_inj.1 (by omega)
        subst this
        have hw:wrap64 ((pre.length:Int)+1)=((pre++[a]).length:Int):=by
          rw [w64 (by omega) (by simp at hn;omega)];simp
        have e1:pre++a::s=(pre++[a])++s:=by simp
        have e2:pre++a::t=(pre++[a])++t:=by simp
        rw [hw,e1,e2]
        have e3:Op.bytesLess (a::t) (a::s)=Op.bytesLess t s:=by
          have:¬ a<a:=fun h=>by have:=UInt8.lt_iff_toNat_lt.1 h;omega
          simp [Op.bytesLess,this]
        rw [e3]
        exact ih t (pre++[a]) (by simpa using hl) (by rw [← e1];exact hn)
      · have e:Op.bytesLess (b::t) (a::s)=decide ((a.toNat:Int)>(b.toNat:Int)):=by
          have hne:¬ b=a:=fun e=>h (by rw [e])
          simp only [Op.bytesLess]
          by_cases hlt:b<a
          · have:=UInt8.lt_iff_toNat_lt.1 hlt
            rw [decide_eq_true (by omega:(a.toNat:Int)>(b.toNat:Int))]
            simp [hlt]
          · have:¬ b.toNat<a.toNat:=fun e=>hlt (UInt8.lt_iff_toNat_lt.2 e)
            rw [decide_eq_false (by omega:¬ (a.toNat:Int)>(b.toNat:Int))]
            simp [hlt,hne]
        rw [e];exact Ev.now _
theorem ref_fits (t M:List UInt8) (hl:t.length≤4611686018427387904):Ev (fun k=>r01_fits.f k (mk t) (mk M)) (if t.length=M.length then !(Op.bytesLess M t) else decide (t.length<M.length)):=by
  unfold r01_fits.f
  rw [mk_size,mk_size]
  refine ev_if (fun h=>?_) (fun h=>?_)
  · have h2:t.length=M.length:=by omega
    rw [if_pos h2]
    refine Ev.bind ?_ (Ev.now _)
    have:=ref_above_loop t M [] h2 hl
    simpa [r01_above.f] using this
  · have h2:¬ t.length=M.length:=by omega
    rw [if_neg h2]
    have e:decide ((t.length:Int)<(M.length:Int))=decide (t.length<M.length):=by
      by_cases h3:t.length<M.length
      · rw [decide_eq_true h3,decide_eq_true (by omega)]
      · rw [decide_eq_false h3,decide_eq_false (by omega)]
    rw [e];exact Ev.now _
theorem valD_low (t:List UInt8) (h:okD t=true) (hl:1<t.length):10 ^ (t.length - 1)≤valD 0 t:=by
  cases t with
  | nil=>simp at hl
  | cons c t=>
    have h1:decide (1<(c::t).length)=true:=decide_eq_true hl
    simp only [okD,h1,Bool.and_eq_true,List.all_cons] at h
    obtain ⟨⟨_,h2⟩,h3,_⟩:=h
    obtain ⟨h4,h5⟩:=(isD_iff c).1 h3
    have h6:c.toNat≠48:=by
      intro e
      have:c=48:=UInt8.toNat_inj.1 (by rw [e];rfl)
      subst this
      simp at h2
    rw [valD_cons,valD_from]
    have h7:1 * 10 ^ t.length≤vn 0 c * 10 ^ t.length:=Nat.mul_le_mul_right _ (by unfold vn;omega)
    simp only [List.length_cons,Nat.add_sub_cancel]
    omega
theorem fits_iff (t M:List UInt8) (h:okD t=true) (hM:M.length=19) (hMd:M.all isD=true) (hv:10 ^ 18≤valD 0 M):(if t.length=M.length then !(Op.bytesLess M t) else decide (t.length<M.length))=decide (valD 0 t≤valD 0 M):=by
  have hd:t.all isD=true:=by unfold okD at h;rw [Bool.and_eq_true] at h;exact h.2
  have l1:=valD_lt t hd
  have l2:=valD_lt M hMd
  rw [hM] at l2
  split
  · rename_i he
    rw [less_iff M t he.symm hMd hd]
    by_cases h3:valD 0 M<valD 0 t
    · rw [decide_eq_true h3,decide_eq_false (by omega)];rfl
    · rw [decide_eq_false h3,decide_eq_true (by omega)];rfl
  · rename_i he
    rw [hM] at he ⊢
    by_cases h3:t.length<19
    · have:10 ^ t.length≤10 ^ 18:=Nat.pow_le_pow_right (by omega) (by omega)
      rw [decide_eq_true h3,decide_eq_true (by omega)]
    · have h4:=valD_low t h (by omega)
      have:10 ^ 19≤10 ^ (t.length - 1):=Nat.pow_le_pow_right (by omega) (by omega)
      rw [decide_eq_false h3,decide_eq_false (by omega)]
theorem ref_parse_loop (low:Bool):∀ (rest pre:List UInt8) (v:Nat) (n:Int),(pre++rest).length≤4611686018427387904→rest.all isD=true→n=(if low=true then -(v:Int) else (v:Int))→valD v rest≤(if low=true then 9223372036854775808 else 9223372036854775807)→
    Ev (fun k=>r01_Parse.l0 k (mk (pre++rest)) low n (pre.length:Int)) (if low=true then -(valD v rest:Int) else (valD v rest:Int),0):=by
  intro rest
  induction rest with
  | nil=>
    intro pre v n _ _ hn _
    subst hn
    exact Ev.step (f:=fun _=>some _) (fun k=>by simp only [r01_Parse.l0];rw [if_neg (by rw [mk_size];simp)];rfl) (Ev.now _)
  | cons c rest ih=>
    intro pre v n hl hd hn hv
    rw [List.all_cons,Bool.and_eq_true] at hd
    obtain ⟨h1,h2⟩:=(isD_iff c).1 hd.1
    have hsz:(pre.length:Int)<((mk (pre++c::rest)).size:Int):=by rw [mk_size];simp;omega
    have hw:wrap64 ((pre.length:Int)+1)=((pre++[c]).length:Int):=by
      rw [w64 (by omega) (by simp at hl;omega)];simp
    have hpre:pre++c::rest=(pre++[c])++rest:=by simp
    have hdw:wrap64 (wrap64 (c.toNat:Int) - 48)=((c.toNat - 48:Nat):Int):=by
      rw [w64 (x:=(c.toNat:Int)) (by omega) (by omega),w64 (by omega) (by omega)];omega
    have hge:=valD_ge rest (vn v c)
    rw [valD_cons] at hv ⊢
    refine Ev.step (f:=fun k=>r01_Parse.l0 k (mk ((pre++[c])++rest)) low (if low=true then -((vn v c:Nat):Int) else ((vn v c:Nat):Int)) ((pre++[c]).length:Int)) (fun k=>?_) (ih (pre++[c]) (vn v c) _ (by rw [← hpre];exact hl) hd.2 rfl hv)
    simp only [r01_Parse.l0]
    rw [if_pos hsz,if_pos (by omega),bt_pre,hdw,hw,hpre]
    subst hn
    cases low with
    | true=>
      simp only [if_true] at hv ⊢
      have hle:=Nat.le_trans hge hv
      clear hge hv
      unfold vn at hle ⊢
      rw [w64 (x:=-(v:Int) * 10) (by omega) (by omega),w64 (by omega) (by omega)]
      have e9:-(v:Int) * 10 - ((c.toNat - 48:Nat):Int)=-((v * 10+(c.toNat - 48):Nat):Int):=by omega
      rw [e9]
    | false=>
      simp only [Bool.false_eq_true,if_false] at hv ⊢
      have hle:=Nat.le_trans hge hv
      clear hge hv
      unfold vn at hle ⊢
      rw [w64 (x:=(v:Int) * 10) (by omega) (by omega),w64 (by omega) (by omega)]
      have e9:(v:Int) * 10+((c.toNat - 48:Nat):Int)=((v * 10+(c.toNat - 48):Nat):Int):=by omega
      rw [e9]
theorem bad_okD (low:Bool) (t:List UInt8):(!(okD t) || low && t==[48])=(badD low t || !(t.all isD)):=by
  unfold okD badD
  cases h1:t.isEmpty<;>cases h2:(decide (1<t.length) && t.head?==some 48)<;>cases h3:t.all isD<;>cases h4:(low && t==[48])<;>rfl
theorem ref_j1 (low:Bool) (t:List UInt8) (hl:t.length≤4611686018427387904):Ev (fun k=>r01_Parse.j1 k (mk t) low) (parseT low t):=by
  have j2:∀ b,b=(badD low t || !(t.all isD))→Ev (fun k=>r01_Parse.j2 k (mk t) low b) (parseT low t):=by
    intro b hb
    cases b with
    | true=>
      have e:parseT low t=(0,3):=by
        unfold parseT
        by_cases h:badD low t=true
        · rw [if_pos h]
        · rw [if_neg h]
          have:t.all isD=false:=by
            cases h5:t.all isD with
            | false=>rfl
            | true=>rw [h5] at hb;simp at hb;exact absurd hb h
          unfold finish;rw [this];rfl
      rw [e]
      exact Ev.step (f:=fun _=>some (0,3)) (fun k=>by simp [r01_Parse.j2]) (Ev.now _)
    | false=>
      have hb2:badD low t=false∧t.all isD=true:=by
        cases h5:t.all isD<;>cases h6:badD low t<;>rw [h5,h6] at hb<;>simp at hb ⊢
      have hok:okD t=true:=by
        have:=bad_okD low t
        rw [← hb] at this
        cases h5:okD t with
        | true=>rfl
        | false=>rw [h5] at this;simp at this
      have e:parseT low t=fin low (valD 0 t):=by
        unfold parseT finish
        rw [if_neg (by rw [hb2.1];simp),if_pos hb2.2]
      rw [e]
      have j3:∀ (b3:Bool),(b3=true→9223372036854775808<valD 0 t∨low=false∧valD 0 t=9223372036854775808)→(b3=false→valD 0 t≤(if low=true then 9223372036854775808 else 9223372036854775807))→Ev (fun k=>r01_Parse.j3 k (mk t) low b3) (fin low (valD 0 t)):=by
        intro b3 h1 h2
        cases b3 with
        | true=>
          unfold fin;rw [if_pos (h1 rfl)]
          exact Ev.step (f:=fun _=>some (0,18)) (fun k=>by simp [r01_Parse.j3]) (Ev.now _)
        | false=>
          have h3:=h2 rfl
          have:=ref_parse_loop low t [] 0 0 hl hb2.2 (by cases low<;>simp) h3
          have e2:fin low (valD 0 t)=(if low=true then -(valD 0 t:Int) else (valD 0 t:Int),0):=by
            unfold fin
            cases low with
            | true=>
              simp only [if_true] at h3 ⊢
              rw [if_neg (by rintro (e | ⟨e,_⟩)<;>first | omega | cases e)]
            | false=>
              simp only [Bool.false_eq_true,if_false] at h3 ⊢
              rw [if_neg (by rintro (e | ⟨_,e⟩)<;>omega)]
          rw [e2]
          exact Ev.step (f:=fun k=>r01_Parse.l0 k (mk ([]++t)) low 0 (([]:List UInt8).length:Int)) (fun k=>by simp [r01_Parse.j3]) this
      have m8:valD 0 [57,50,50,51,51,55,50,48,51,54,56,53,52,55,55,53,56,48,56]=9223372036854775808:=by decide+kernel
      have m7:valD 0 [57,50,50,51,51,55,50,48,51,54,56,53,52,55,55,53,56,48,55]=9223372036854775807:=by decide+kernel
      cases low with
      | true=>
        refine Ev.step (f:=fun k=>(r01_fits.f k (mk t) (mk [57,50,50,51,51,55,50,48,51,54,56,53,52,55,55,53,56,48,56])).bind fun t129=>(if t129=true then (r01_Parse.j3 k (mk t) true false) else (r01_Parse.j3 k (mk t) true true))) (fun k=>by simp [r01_Parse.j2]) ?_
        refine Ev.bind (ref_fits t _ hl) ?_
        rw [fits_iff t _ hok rfl (by decide+kernel) (by rw [m8];decide),m8]
        refine ev_if (fun h=>j3 false (by simp) (fun _=>?_)) (fun h=>j3 true (fun _=>?_) (by simp))
        · simpa using h
        · left
          rcases Nat.lt_or_ge 9223372036854775808 (valD 0 t) with h2 | h2
          · exact h2
          · exact absurd (decide_eq_true h2) h
      | false=>
        refine Ev.step (f:=fun k=>(r01_fits.f k (mk t) (mk [57,50,50,51,51,55,50,48,51,54,56,53,52,55,55,53,56,48,55])).bind fun t130=>(r01_Parse.j3 k (mk t) false (!t130))) (fun k=>by simp [r01_Parse.j2]) ?_
        refine Ev.bind (ref_fits t _ hl) ?_
        rw [fits_iff t _ hok rfl (by decide+kernel) (by rw [m7];decide),m7]
        refine j3 _ (fun h=>?_) (fun h=>?_)
        · rcases Nat.lt_or_ge 9223372036854775807 (valD 0 t) with h2 | h2
          · rcases Nat.lt_or_ge 9223372036854775808 (valD 0 t) with h3 | h3
            · exact .inl h3
            · exact .inr ⟨rfl,Nat.le_antisymm h3 h2⟩
          · rw [decide_eq_true h2] at h;cases h
        · have:valD 0 t≤9223372036854775807:=by
            rcases Nat.lt_or_ge 9223372036854775807 (valD 0 t) with h2 | h2
            · rw [decide_eq_false (Nat.not_le.2 h2)] at h;cases h
            · exact h2
          simpa using this
  have hd:=ref_digits t hl
  refine Ev.step (f:=fun k=>(r01_digits.f k (mk t)).bind fun t128=>(if t128=true then (if low=true then (r01_Parse.j2 k (mk t) low (t==[48])) else (r01_Parse.j2 k (mk t) low false)) else (r01_Parse.j2 k (mk t) low true))) (fun k=>by simp only [r01_Parse.j1,mk_toList]) ?_
  refine Ev.bind hd ?_
  have hbb:=bad_okD low t
  refine ev_if (fun h=>ev_if (fun h2=>j2 _ ?_) (fun h2=>j2 _ ?_)) (fun h=>j2 _ ?_)
  · rw [← hbb,h,h2];rfl
  · rw [← hbb,h];cases low with
    | true=>exact absurd rfl h2
    | false=>rfl
  · rw [← hbb];cases h5:okD t with
    | true=>exact absurd h5 h
    | false=>rfl
theorem ref_parse (l:List UInt8) (hl:l.length≤4611686018427387904):Ev (fun k=>r01_Parse.f k (mk l)) (parseL l):=by
  unfold r01_Parse.f
  have j0:∀ b:Bool,(b=true↔l.head?=some 45)→Ev (fun k=>r01_Parse.j0 k (mk l) (mk l) false b) (parseL l):=by
    intro b hb
    cases b with
    | true=>
      cases l with
      | nil=>simp at hb
      | cons c t=>
        have e:parseL (c::t)=parseT true t:=by unfold parseL;rw [if_pos (hb.1 rfl)];rfl
        rw [e]
        refine Ev.step (f:=fun k=>r01_Parse.j1 k (mk t) true) (fun k=>?_) (ref_j1 true t (by simp at hl;omega))
        simp only [r01_Parse.j0,if_true,mk_from]
        rw [if_pos (by rw [mk_size];simp;omega)]
        rfl
    | false=>
      have e:parseL l=parseT false l:=by unfold parseL;rw [if_neg (fun h=>by have:=hb.2 h;cases this)]
      rw [e]
      exact Ev.step (f:=fun k=>r01_Parse.j1 k (mk l) false) (fun k=>by simp [r01_Parse.j0]) (ref_j1 false l hl)
  rw [mk_toList]
  refine ev_if (fun h=>?_) (fun h=>?_)
  · subst h;exact j0 false (by simp)
  · cases l with
    | nil=>exact absurd rfl h
    | cons c t=>
      refine ev_pos (by rw [mk_size];simp) ?_
      rw [bt_head]
      refine j0 _ ?_
      rw [beq_iff_eq]
      constructor
      · intro h
        have:c=45:=UInt8.toNat_inj.1 (by simpa using (by omega:c.toNat=45))
        simp [this]
      · intro h
        have:c=45:=by simpa using h
        subst this;rfl
theorem ref_index (l:List UInt8) (hl:l.length≤4611686018427387904) (most:Int):Ev (fun k=>r01_Index.f k (mk l) most) (if (parseL l).2=0 then (if (parseL l).1<0∨(parseL l).1>most then (0,18) else ((parseL l).1,0)) else (0,(parseL l).2)):=by
  unfold r01_Index.f
  refine Ev.bind (f:=fun _ bt=>if bt.2=0 then (if bt.1<0 then some (0,18) else if bt.1>most then some (0,18) else some (bt.1,0)) else some (0,bt.2)) (ref_parse l hl) ?_
  refine ev_if (fun h=>?_) (fun h=>?_)
  · rw [if_pos h]
    refine ev_if (fun h1=>?_) (fun h1=>ev_if (fun h2=>?_) (fun h2=>?_))
    · rw [if_pos (.inl h1)];exact Ev.now _
    · rw [if_pos (.inr h2)];exact Ev.now _
    · rw [if_neg (by omega)];exact Ev.now _
  · rw [if_neg h];exact Ev.now _
end Go.Proofs.Ytkjdblbgmomieaa.DigLaw
end
-- from YtkjdblbgmomieaaRSimB
section
namespace Go.Proofs.Ytkjdblbgmomieaa.PSh
open Go.RowKit Go.Proofs.YtkjdblbgmomieaaW.PrintWords Go.Proofs.YtkjdblbgmomieaaW.PrintLast Go.Proofs.YtkjdblbgmomieaaW.PrintMore Go.Proofs.Ytkjdblbgmomieaa.Str Go.Proofs.Ytkjdblbgmomieaa.Dig Go.Proofs.Ytkjdblbgmomieaa.DigLaw
set_option linter.unusedVariables false
set_option linter.unusedSimpArgs false
theorem pk0_size {tl ts:List Tk} {en n s1:Int} (ht:∀ t∈tl,t.f0.size≤65536) (h:Rp tl en n (.ok ts) (s1,en,n,0,0)):(pk0 ts).size≤65536:=by
  cases ts with
  | nil=>exact (by decide:(⟨#[]⟩:ByteArray).size≤65536)
  | cons t us=>
    refine ht t ?_
    obtain ⟨h0,h1,h2,h3,h4⟩:=h
    simp only at h3
    exact List.mem_of_mem_drop (h3 ▸ List.mem_cons_self)
theorem rparse_at (s:ByteArray) (hs:s.size≤65536):Ev (fun k=>r01_Parse.f k s) (parseL s.data.toList):=by
  have h:=ref_parse s.data.toList (by rw [← size_data];omega)
  rw [← mk_data] at h
  exact h
theorem number_rv {tl:List Tk} {en n low high:Int} {x:PE (List Tk)} {s:Int × Int × Int × Int × Int} (hl:tl.length≤100000000) (ht:∀ t∈tl,t.f0.size≤65536) (h:Rp tl en n x s):∃ o,Ev (fun k=>r06_Reader_number.f k tl s.1 s.2.1 s.2.2.1 s.2.2.2.1 s.2.2.2.2 low high) o∧Rv tl en n (x.bind (numberP en low high)) o:=by
  cases x with
  | ok ts=>
    have e:=h.live
    rw [e] at h ⊢
    generalize s.1=s1 at h ⊢
    simp only
    have hv:=rparse_at (pk0 ts) (pk0_size ht h)
    unfold r06_Reader_number.f
    simp only [peek_live0 h,Option.bind_some]
    have good:∀ z:Int,Rv tl en n (numberP en low high ts) (z,s1,en,n,0,0)∨True:=fun _=>.inr trivial
    have hstep:numC (parseL (pk0 ts).data.toList) low high=0→Rv tl en n (numberP en low high ts) ((parseL (pk0 ts).data.toList).1,wrap64 (s1+1),en,n,0,0):=by
      intro c
      unfold numberP
      rw [if_pos c]
      cases ts with
      | nil=>
        exfalso
        have:numC (parseL ([]:List UInt8)) low high≠0:=by
          unfold numC
          rw [if_neg (by decide)]
          decide
        exact this c
      | cons t us=>exact ⟨rfl,step_live hl h⟩
    have hfail:∀ c:Int,c=numC (parseL (pk0 ts).data.toList) low high→c≠0→∃ s',r06_Reader_fail.f tl s1 en n 0 0 c=some s'∧Rv tl en n (numberP en low high ts) ((0:Int),s'):=by
      intro c hc h0
      obtain ⟨s',hs,hr⟩:=fail_live h h0
      refine ⟨s',hs,?_⟩
      unfold numberP
      rw [if_neg (by rw [← hc];exact h0),← hc]
      exact hr
    by_cases c1:(parseL (pk0 ts).data.toList).2=0
    · by_cases c2:(parseL (pk0 ts).data.toList).1<low∨(parseL (pk0 ts).data.toList).1>high
      · have hn:(18:Int)=numC (parseL (pk0 ts).data.toList) low high:=by unfold numC;rw [if_pos c1,if_pos c2]
        obtain ⟨s',hs,hr⟩:=hfail 18 hn (by decide)
        have hj:Ev (fun k=>r06_Reader_number.j0 k (parseL (pk0 ts).data.toList).1 (parseL (pk0 ts).data.toList).2 true tl s1 en n 0 0) ((0:Int),s'):=by
          refine Ev.step (f:=fun _=>some ((0:Int),s')) (fun k=>?_) (Ev.now _)
          simp only [r06_Reader_number.j0]
          rw [if_pos trivial,if_neg (by decide),hs]
          rfl
        refine ⟨_,Ev.bind hv (ev_pos c1 (ev_if (fun _=>hj) (fun c3=>?_))),hr⟩
        rw [decide_eq_true (show (parseL (pk0 ts).data.toList).1>high by omega)]
        exact hj
      · have hn:numC (parseL (pk0 ts).data.toList) low high=0:=by unfold numC;rw [if_pos c1,if_neg c2]
        have hj:Ev (fun k=>r06_Reader_number.j0 k (parseL (pk0 ts).data.toList).1 (parseL (pk0 ts).data.toList).2 false tl s1 en n 0 0) ((parseL (pk0 ts).data.toList).1,wrap64 (s1+1),en,n,0,0):=by
          refine Ev.step (f:=fun _=>some ((parseL (pk0 ts).data.toList).1,wrap64 (s1+1),en,n,(0:Int),(0:Int))) (fun k=>?_) (Ev.now _)
          simp only [r06_Reader_number.j0]
          rw [if_neg (by decide),if_pos c1]
        refine ⟨_,Ev.bind hv (ev_pos c1 (ev_neg (by omega) ?_)),hstep hn⟩
        rw [decide_eq_false (show ¬ (parseL (pk0 ts).data.toList).1>high by omega)]
        exact hj
    · have hn:(parseL (pk0 ts).data.toList).2=numC (parseL (pk0 ts).data.toList) low high:=by unfold numC;rw [if_neg c1]
      obtain ⟨s',hs,hr⟩:=hfail _ hn c1
      refine ⟨_,Ev.bind hv (ev_neg c1 (Ev.step (f:=fun _=>some ((0:Int),s')) (fun k=>?_) (Ev.now _))),hr⟩
      simp only [r06_Reader_number.j0]
      rw [if_neg (by decide),if_neg c1,hs]
      rfl
  | error q=>
    have hd:=h.dead
    have hv:=rparse_at (⟨#[]⟩:ByteArray) (by decide)
    have he:(parseL ((⟨#[]⟩:ByteArray).data.toList)).2≠0:=by decide
    unfold r06_Reader_number.f
    simp only [peek_dead hd,Option.bind_some]
    refine ⟨((0:Int),s),Ev.bind hv (ev_neg he (Ev.step (f:=fun _=>some ((0:Int),s)) (fun k=>?_) (Ev.now _))),h⟩
    simp only [r06_Reader_number.j0]
    rw [if_neg (by decide),if_neg he,fail_dead hd]
    rfl
theorem rindex_at (s:ByteArray) (most:Int) (hs:s.size≤65536):Ev (fun k=>r01_Index.f k s most) (idxC s.data.toList most):=by
  have h:=ref_index s.data.toList (by rw [← size_data];omega) most
  rw [← mk_data] at h
  exact h
theorem index_rv {tl:List Tk} {en n sign most c:Int} {x:PE (List Tk)} {s:Int × Int × Int × Int × Int} (hl:tl.length≤100000000) (ht:∀ t∈tl,t.f0.size≤65536) (hc0:c≠0) (h:Rp tl en n x s):∃ o,Ev (fun k=>r06_Reader_index.f k tl s.1 s.2.1 s.2.2.1 s.2.2.2.1 s.2.2.2.2 sign most c) o∧Rv tl en n (x.bind (indexP en sign most c)) o:=by
  cases x with
  | ok ts=>
    have e:=h.live
    rw [e] at h ⊢
    generalize s.1=s1 at h ⊢
    simp only
    have hsz:=pk0_size ht h
    obtain ⟨s',hs,hr⟩:=fail_live h hc0
    unfold r06_Reader_index.f
    simp only [peek_live0 h,Option.bind_some]
    have hfj:Ev (fun k=>r06_Reader_index.j0 k most c (pk0 ts) true tl s1 en n 0 0) ((0:Int),s'):=by
      refine Ev.step (f:=fun _=>some ((0:Int),s')) (fun k=>?_) (Ev.now _)
      simp only [r06_Reader_index.j0]
      rw [if_pos trivial,hs]
      rfl
    by_cases c1:(pk0 ts).size<2
    · refine ⟨_,ev_pos (by omega) hfj,?_⟩
      show Rv tl en n (indexP en sign most c ts) _
      unfold indexP
      rw [if_pos c1]
      exact hr
    by_cases c2:bt (pk0 ts) 0≠sign
    · refine ⟨((0:Int),s'),ev_neg (by omega) (ev_pos (by omega) ?_),?_⟩
      · rw [show (bt (pk0 ts) 0 !=sign)=true from bne_iff_ne.mpr c2]
        exact hfj
      · show Rv tl en n (indexP en sign most c ts) _
        unfold indexP
        rw [if_neg c1,if_pos c2]
        exact hr
    have hx:((pk0 ts).extract 1 (pk0 ts).size).data.toList=(pk0 ts).data.toList.tail:=by
      have:=mk_from (pk0 ts).data.toList 1
      rw [← mk_data] at this
      rw [this,List.drop_one]
    have hv:=rindex_at ((pk0 ts).extract 1 (pk0 ts).size) most (by rw [ByteArray.size_extract];omega)
    rw [hx] at hv
    have hb:(bt (pk0 ts) 0 !=sign)=false:=by simpa using c2
    by_cases c3:(idxC (pk0 ts).data.toList.tail most).2=0
    · refine ⟨((idxC (pk0 ts).data.toList.tail most).1,wrap64 (s1+1),en,n,0,0),ev_neg (by omega) (ev_pos (by omega) ?_),?_⟩
      · rw [hb]
        refine Ev.step (fun k=>by simp only [r06_Reader_index.j0];rw [if_neg (by decide),if_pos (by omega)]) (Ev.bind hv (ev_pos c3 (Ev.now _)))
      · show Rv tl en n (indexP en sign most c ts) _
        unfold indexP
        rw [if_neg c1,if_neg c2,if_pos c3]
        cases ts with
        | nil=>exact absurd (show (⟨#[]⟩:ByteArray).size<2 by decide) c1
        | cons t us=>exact ⟨rfl,step_live hl h⟩
    · refine ⟨((0:Int),s'),ev_neg (by omega) (ev_pos (by omega) ?_),?_⟩
      · rw [hb]
        refine Ev.step (fun k=>by simp only [r06_Reader_index.j0];rw [if_neg (by decide),if_pos (by omega)]) (Ev.bind hv (ev_neg c3 (ev_some (f:=fun _ (b:Int × Int × Int × Int × Int)=>some ((0:Int),b.1,b.2.1,b.2.2.1,b.2.2.2.1,b.2.2.2.2)) hs (Ev.now _))))
      · show Rv tl en n (indexP en sign most c ts) _
        unfold indexP
        rw [if_neg c1,if_neg c2,if_neg c3]
        exact hr
  | error q=>
    have hd:=h.dead
    unfold r06_Reader_index.f
    simp only [peek_dead hd,Option.bind_some]
    refine ⟨((0:Int),s),ev_pos (by decide) (Ev.step (f:=fun _=>some ((0:Int),s)) (fun k=>?_) (Ev.now _)),h⟩
    simp only [r06_Reader_index.j0]
    rw [if_pos trivial,fail_dead hd]
    rfl
end Go.Proofs.Ytkjdblbgmomieaa.PSh
end
-- from YtkjdblbgmomieaaRSimC
section
namespace Go.Proofs.Ytkjdblbgmomieaa.PSh
open Go.RowKit Go.Proofs.YtkjdblbgmomieaaW.PrintWords Go.Proofs.YtkjdblbgmomieaaW.PrintLast Go.Proofs.YtkjdblbgmomieaaW.PrintMore Go.Proofs.Ytkjdblbgmomieaa.Str Go.Proofs.Ytkjdblbgmomieaa.Dig Go.Proofs.Ytkjdblbgmomieaa.DigLaw
set_option linter.unusedVariables false
set_option linter.unusedSimpArgs false
section
variable {tl : List Tk} {en n : Int} {x : PE (List Tk)} {s : Int × Int × Int × Int × Int}
theorem value_rv (hl:tl.length≤100000000) (ht:∀ t∈tl,t.f0.size≤65536) (h:Rp tl en n x s):∃ o,Ev (fun k=>r06_Reader_value.f k tl s.1 s.2.1 s.2.2.1 s.2.2.2.1 s.2.2.2.2) o∧Rv tl en n (x.bind (valueP en)) o:=by
  obtain ⟨o,ho,hr⟩:=index_rv (sign:=37) (most:=1048576) (c:=8) hl ht (by decide) h
  exact ⟨o,Ev.bind ho (Ev.now _),hr⟩
theorem label_rv (hl:tl.length≤100000000) (ht:∀ t∈tl,t.f0.size≤65536) (h:Rp tl en n x s):∃ o,Ev (fun k=>r06_Reader_label.f k tl s.1 s.2.1 s.2.2.1 s.2.2.2.1 s.2.2.2.2) o∧Rv tl en n (x.bind (labelP en)) o:=by
  obtain ⟨o,ho,hr⟩:=index_rv (sign:=98) (most:=255) (c:=7) hl ht (by decide) h
  exact ⟨o,Ev.bind ho (Ev.now _),hr⟩
theorem empty_iff (a:ByteArray):a.toList=([]:List UInt8)↔a.size=0:=by
  rw [toList_eq,size_data]
  exact List.length_eq_zero_iff.symm
theorem taken_live {ts:List Tk} {s1:Int} (h:Rp tl en n (.ok ts) (s1,en,n,0,0)):r06_Reader_taken.f tl s1 en n 0 0=some (valuesP ts,s1,en,n,0,0):=by
  unfold r06_Reader_taken.f valuesP
  simp only [peek_live0 h,Option.bind_some]
  by_cases c:(pk0 ts).toList=([]:List UInt8)
  · rw [if_pos c]
    have:=(empty_iff _).1 c
    rw [decide_eq_false (by omega),Bool.false_and,Bool.false_and]
  · rw [if_neg c]
    have hne:(pk0 ts).size≠0:=fun q=>c ((empty_iff _).2 q)
    rw [if_pos (by omega),decide_eq_true (by omega:0<(pk0 ts).size),Bool.true_and]
    by_cases c2:bt (pk0 ts) 0=37
    · rw [if_pos c2,peek_live1 h,Option.bind_some,c2]
      rfl
    · rw [if_neg c2,beq_eq_false_iff_ne.mpr c2,Bool.false_and]
theorem taken_dead {s1 s2 s3 s4 s5:Int} (h:s4≠0):r06_Reader_taken.f tl s1 s2 s3 s4 s5=some (false,s1,s2,s3,s4,s5):=by
  unfold r06_Reader_taken.f
  simp only [peek_dead h,Option.bind_some]
  rw [if_pos (show (⟨#[]⟩:ByteArray).toList=[] from ByteArray.toList_empty)]
theorem pair_live {ts:List Tk} {s1:Int} (h:Rp tl en n (.ok ts) (s1,en,n,0,0)):r06_Reader_pair.f tl s1 en n 0 0=some (pairP ts,s1,en,n,0,0):=by
  unfold r06_Reader_pair.f pairP
  simp only [peek_live0 h,Option.bind_some]
  by_cases c:(pk0 ts).toList=([]:List UInt8)
  · rw [if_pos c]
    have:=(empty_iff _).1 c
    rw [decide_eq_false (by omega),Bool.false_and,Bool.false_and,Bool.false_and]
  · rw [if_neg c]
    have hne:(pk0 ts).size≠0:=fun q=>c ((empty_iff _).2 q)
    rw [if_pos (by omega),decide_eq_true (by omega:0<(pk0 ts).size),Bool.true_and]
    by_cases c2:bt (pk0 ts) 0=98
    · rw [if_pos c2,beq_iff_eq.mpr c2,Bool.true_and]
      by_cases c3:(pk0 ts).toList=([98,114]:List UInt8)
      · rw [if_pos c3,c3]
        rfl
      · rw [if_neg c3,peek_live1 h,Option.bind_some,bne_iff_ne.mpr c3,Bool.true_and]
    · rw [if_neg c2,beq_eq_false_iff_ne.mpr c2,Bool.false_and,Bool.false_and]
end
end Go.Proofs.Ytkjdblbgmomieaa.PSh
end
-- from YtkjdblbgmomieaaHRPhi
section
namespace Go.Proofs.Ytkjdblbgmomieaa.PSh
set_option maxHeartbeats 8000000
set_option maxRecDepth 100000
open Go.RowKit Go.Proofs.YtkjdblbgmomieaaW.PrintWords Go.Proofs.YtkjdblbgmomieaaW.PrintLast Go.Proofs.YtkjdblbgmomieaaW.PrintMore Go.Proofs.Ytkjdblbgmomieaa.Str
set_option linter.unusedVariables false
set_option linter.unusedSimpArgs false
def rphLoop:Nat→List (S101)→List Int→List Int→Int→Int→Int→Int→Int→Option (List Int × List Int × Int × Int × Int × Int × Int)
  | 0,_,_,_,_,_,_,_,_=>none
  | k+1,tl,xa,xt,s1,s2,s3,s4,s5=>(if s4=0 then (if xt.length=0 then some (true,s1,s2,s3,s4,s5) else r06_Reader_pair.f tl s1 s2 s3 s4 s5) else some (false,s1,s2,s3,s4,s5)).bind fun c=>if c.1=true then (r06_Reader_label.f k tl c.2.1 c.2.2.1 c.2.2.2.1 c.2.2.2.2.1 c.2.2.2.2.2).bind fun b=>(r06_Reader_value.f k tl b.2.1 b.2.2.1 b.2.2.2.1 b.2.2.2.2.1 b.2.2.2.2.2).bind fun v=>
        if xt.length<1000000000000∧xa.length<1000000000000 then rphLoop k tl (xa++[v.1]) (xt++[b.1]) v.2.1 v.2.2.1 v.2.2.2.1 v.2.2.2.2.1 v.2.2.2.2.2 else none
      else some (xa,xt,c.2.1,c.2.2.1,c.2.2.2.1,c.2.2.2.2.1,c.2.2.2.2.2)
def r06_Reader_phi.f (k:Nat) (tl:List (S101)) (s1 s2 s3 s4 s5:Int):Option (List Int × List Int × Int × Int × Int × Int × Int):=rphLoop k tl [] [] s1 s2 s3 s4 s5
theorem r06_Reader_phi.calls (k g:Nat) (tl:List (S101)) (s1 s2 s3 s4 s5:Int) (op id n ty:Int) (nm:ByteArray) (at_:Int) (ras rts:List Int) (r1 r2 r3 r4 r5:Int) (w0 w:World) (hI:IsS89 w0 w g tl s1 s2 s3 s4 s5) (hB:Below w0.heap.size w0 w) (h:r06_Reader_phi.f k tl s1 s2 s3 s4 s5=some (ras,rts,r1,r2,r3,r4,r5)):
    Calls Try.prog 111 #[.pointer (some ⟨g,0,none⟩),.agg #[.int .i64 op,.int .i64 id,.int .i64 n,.int .i64 ty,.slice none 0 0,.slice none 0 0,.string nm,.int .i64 at_]] w fun e w'=>∃ va vt:Value,e=.returned (.agg #[.int .i64 op,.int .i64 id,.int .i64 n,.int .i64 ty,va,vt,.string nm,.int .i64 at_])∧TwoR w' w.heap.size va vt ras rts∧IsS89 w0 w' g tl r1 r2 r3 r4 r5∧Below w0.heap.size w0 w'∧KeepBut w w' g none:=by
  have hu39:=Try.underlying39
  have HF:=aM h
  clear h
  have HI:=aM hI
  have HB:=aM hB
  have HL:=aM hI.lt
  clear hI hB
  go_enter Try.func111,Try.ntmps111
  have hy:=blk_alloc (blk_new w (.cells #[.int .i64 op,.int .i64 id,.int .i64 n,.int .i64 ty,.slice none 0 0,.slice none 0 0,.string nm,.int .i64 at_] 39)) (.cells #[.int .i64 0,.int .i64 0,.int .i64 0,.int .i64 0,.slice none 0 0,.slice none 0 0,.string ⟨#[]⟩,.int .i64 0] 39)
  have hz:=blk_new (w.alloc (.cells #[.int .i64 op,.int .i64 id,.int .i64 n,.int .i64 ty,.slice none 0 0,.slice none 0 0,.string nm,.int .i64 at_] 39)) (.cells #[.int .i64 0,.int .i64 0,.int .i64 0,.int .i64 0,.slice none 0 0,.slice none 0 0,.string ⟨#[]⟩,.int .i64 0] 39)
  have hs:(w.alloc (.cells #[.int .i64 op,.int .i64 id,.int .i64 n,.int .i64 ty,.slice none 0 0,.slice none 0 0,.string nm,.int .i64 at_] 39)).heap.size=w.heap.size+1:=by simp
  rw [hs] at hz
  have hi0:=(HI.out.alloc (.cells #[.int .i64 op,.int .i64 id,.int .i64 n,.int .i64 ty,.slice none 0 0,.slice none 0 0,.string nm,.int .i64 at_] 39)).alloc (.cells #[.int .i64 0,.int .i64 0,.int .i64 0,.int .i64 0,.slice none 0 0,.slice none 0 0,.string ⟨#[]⟩,.int .i64 0] 39)
  have hb0:=below_alloc (below_alloc HB.out (.cells #[.int .i64 op,.int .i64 id,.int .i64 n,.int .i64 ty,.slice none 0 0,.slice none 0 0,.string nm,.int .i64 at_] 39)) (.cells #[.int .i64 0,.int .i64 0,.int .i64 0,.int .i64 0,.slice none 0 0,.slice none 0 0,.string ⟨#[]⟩,.int .i64 0] 39)
  have hk0:=keep_alloc (keep_alloc (g:=g) (KeepBut.refl w g none) (.cells #[.int .i64 op,.int .i64 id,.int .i64 n,.int .i64 ty,.slice none 0 0,.slice none 0 0,.string nm,.int .i64 at_] 39)) (.cells #[.int .i64 0,.int .i64 0,.int .i64 0,.int .i64 0,.slice none 0 0,.slice none 0 0,.string ⟨#[]⟩,.int .i64 0] 39)
  clear hs
  go_upto_region 1 with (fail)
  generalize (w.alloc (.cells #[.int .i64 op,.int .i64 id,.int .i64 n,.int .i64 ty,.slice none 0 0,.slice none 0 0,.string nm,.int .i64 at_] 39)).alloc (.cells #[.int .i64 0,.int .i64 0,.int .i64 0,.int .i64 0,.slice none 0 0,.slice none 0 0,.string ⟨#[]⟩,.int .i64 0] 39)=W0 at hy hz hi0 hb0 hk0 ⊢
  have HX:=aM (show IXAt g (w.heap.size+1) W0.heap.size #[.int .i64 0,.int .i64 0,.int .i64 0,.int .i64 0,.slice none 0 0,.slice none 0 0,.string ⟨#[]⟩,.int .i64 0] tl ⟨op,id,n,ty,[],[],nm,at_⟩ (.slice none 0 0) (.slice none 0 0) s1 s2 s3 s4 s5 w0 w (W0.alloc (.cells #[.int .i64 op,.int .i64 id,.int .i64 n,.int .i64 ty,.slice none 0 0,.slice none 0 0,.string nm,.int .i64 at_] 39)) from
    ⟨hi0.alloc _,below_alloc hb0 _,keep_alloc hk0 _,HB.out.size,HL.out,Nat.le_succ _,blk_lt hz,blk_alloc hz _,blk_new _ _,TwoR.nil _ _⟩)
  have y_0:=blk_cell hy 0
  have y_1:=blk_cell hy 1
  have y_2:=blk_cell hy 2
  have y_3:=blk_cell hy 3
  have y_4:=blk_cell hy 4
  have y_5:=blk_cell hy 5
  have y_6:=blk_cell hy 6
  have y_7:=blk_cell hy 7
  clear hy hz hi0 hb0 hk0
  generalize hbx:W0.heap.size=bx_ at HX
  go_wp2
  (try simp only [Act.put,qA,qB,qC])
  generalize W0.alloc (.cells #[.int .i64 op,.int .i64 id,.int .i64 n,.int .i64 ty,.slice none 0 0,.slice none 0 0,.string nm,.int .i64 at_] 39)=W1 at HX ⊢
  clear y_0 y_1 y_2 y_3 y_4 y_5 y_6 y_7
  go_loopg [] k (fun kq w'=>∃ (xa xt:List Int) (va vt:Value) (t1 t2 t3 t4 t5:Int),Aside0 (rphLoop kq tl xa xt t1 t2 t3 t4 t5=some (ras,rts,r1,r2,r3,r4,r5))∧Aside0 (kq≤k)∧Aside0 (IXAt g (w.heap.size+1) bx_ #[.int .i64 0,.int .i64 0,.int .i64 0,.int .i64 0,.slice none 0 0,.slice none 0 0,.string ⟨#[]⟩,.int .i64 0] tl ⟨op,id,n,ty,xa,xt,nm,at_⟩ va vt t1 t2 t3 t4 t5 w0 w w'))
  case atStart=>exact ⟨_,_,_,_,_,_,_,_,_,⟨HF.out⟩,⟨Nat.le_refl _⟩,⟨HX.out⟩⟩
  case round=>
    clear HX
    obtain ⟨xa,xt,va,vt,t1,t2,t3,t4,t5,HLO,HKQ,HX⟩:=hrel
    obtain ⟨Aa,ca,At,ct,ea,et⟩:=HX.out.sl
    subst ea
    subst et
    cases gk with
    | zero=>exact absurd HLO.out (by simp [rphLoop])
    | succ k1=>
      have hl:=HLO.out
      simp only [rphLoop] at hl
      replace hl:=Option.bind_eq_some_iff.mp hl
      obtain ⟨⟨c,u1,u2,u3,u4,u5⟩,hc,hl⟩:=hl
      have HC:=aM hc
      have HN:=aM hl
      clear hc hl HLO
      go_upto_region 2 with (fail)
      go_cut [24] (fun v24 wc=>v24=.bool c∧Aside0 (IXAt g (w.heap.size+1) bx_ #[.int .i64 0,.int .i64 0,.int .i64 0,.int .i64 0,.slice none 0 0,.slice none 0 0,.string ⟨#[]⟩,.int .i64 0] tl ⟨op,id,n,ty,xa,xt,nm,at_⟩ (.slice Aa xa.length ca) (.slice At xt.length ct) u1 u2 u3 u4 u5 w0 w wc))
      case first=>
        have hc:=HC.out
        have hc4:=HX.out.code
        have y5:=HX.out.at1 5
        simp only [iObj] at y5
        by_cases c4:t4=0
        · rw [if_pos c4] at hc
          have c4b:(t4==0)=true:=beq_iff_eq.mpr c4
          clear c4
          by_cases hz:xt.length=0
          · rw [if_pos hz] at hc
            simp only [Option.some.injEq,Prod.mk.injEq] at hc
            obtain ⟨rfl,rfl,rfl,rfl,rfl,rfl⟩:=hc
            have z1:((xt.length:Int)==0)=true:=beq_iff_eq.mpr (by omega)
            have z2:decide ((xt.length:Int)=0)=true:=decide_eq_true (by omega)
            clear hz
            go_wp2_with fail
            go_meet
            exact ⟨rfl,HX⟩
          · rw [if_neg hz] at hc
            have z1:((xt.length:Int)==0)=false:=beq_eq_false_iff_ne.mpr (by omega)
            have z2:decide ((xt.length:Int)=0)=false:=decide_eq_false (by omega)
            have HP:=aM hc
            clear hz hc
            go_wp2_with fail
            refine (r06_Reader_pair.calls g tl _ _ _ _ _ c u1 u2 u3 u4 u5 w0 _ HX.out.i HX.out.b HP.out).mono ?_
            rintro e w2 ⟨rfl,hi_,hb_,hk_⟩
            have HX2:=aM (HX.out.call hi_ hb_ hk_)
            clear hi_ hb_ hk_ y5 hc4
            go_wp2_with fail
            go_meet
            exact ⟨rfl,HX2⟩
        · rw [if_neg c4] at hc
          have c4b:(t4==0)=false:=beq_eq_false_iff_ne.mpr c4
          clear c4
          simp only [Option.some.injEq,Prod.mk.injEq] at hc
          obtain ⟨rfl,rfl,rfl,rfl,rfl,rfl⟩:=hc
          go_wp2_with fail
          go_meet
          exact ⟨rfl,HX⟩
      case rest=>
        clear HX HC
        obtain ⟨rfl,HX⟩:=hcut
        have hl:=HN.out
        clear HN
        cases c with
        | true=>
          rw [if_pos rfl] at hl
          replace hl:=Option.bind_eq_some_iff.mp hl
          obtain ⟨⟨b0,b1,b2,b3,b4,b5⟩,hb,hl⟩:=hl
          replace hl:=Option.bind_eq_some_iff.mp hl
          obtain ⟨⟨v0,v1,v2,v3,v4,v5⟩,hv,hl⟩:=hl
          by_cases hlen:xt.length<1000000000000∧xa.length<1000000000000
          rotate_left
          · rw [if_neg hlen] at hl
            cases hl
          rw [if_pos hlen] at hl
          have HBB:=aM hb
          have HV:=aM hv
          have HLEN:=aM hlen
          have HNX:=aM hl
          clear hb hv hlen hl
          go_wp2_with fail
          refine (r06_Reader_label.calls k1 g tl _ _ _ _ _ _ _ _ _ _ _ w0 _ HX.out.i HX.out.b HBB.out).mono ?_
          rintro e w3 ⟨rfl,hi_,hb_,hk_⟩
          have HX3:=aM (HX.out.call hi_ hb_ hk_)
          clear hi_ hb_ hk_
          go_wp2_with fail
          refine (r06_Reader_value.calls k1 g tl _ _ _ _ _ _ _ _ _ _ _ w0 _ HX3.out.i HX3.out.b HV.out).mono ?_
          rintro e w4 ⟨rfl,hi_,hb_,hk_⟩
          have HX4:=aM (HX3.out.call hi_ hb_ hk_)
          clear hi_ hb_ hk_
          have y5:=HX4.out.at1 5
          simp only [iObj] at y5
          go_upto_region 6 with (first | ((with_reducible refine gate_builtin (b:=.append) (xs:=#[.tmp 30,.tmp 32]) rfl ?_);at_builtin;refine Kd.R_append (Kd.int .i64) w.heap.size rfl (.tmp 30) (.tmp 32) 31 3 (.int .i64 0) 8 rfl Try.underlying31 (by kernel_rfl) rfl (by decide) (by omega) (.slice At xt.length ct) xt b0 [.int .i64 b0] (fun _=>True) (fun k=>True∧some k≠(Value.slice At xt.length ct).ownBlock) rfl rfl rfl (fun k hk=>⟨trivial,hk.2⟩) (fun k hk=>trivial) HX4.out.two.rt (Below.refl _ _) (keep_size HX4.out.k) (by have:=HLEN.out;omega) ?_;intro v1 w4_ hr4 hb4 hg4 hv4;obtain ⟨A6,c6,e6⟩:=Kd.R_slice hr4;rw [List.length_append,List.length_singleton] at e6;subst e6;have HX5:=aM (HX4.out.app hg4 (.inr rfl) ⟨op,id,n,ty,xa,xt++[b0],nm,at_⟩ 5 _ rfl (HX4.out.two.appT hr4 hg4 hv4));have B4:=(hg4.block bx_ (blk_lt HX4.out.box) (Kd.R_ne HX4.out.two.rt HX4.out.box (by decide))).trans HX4.out.box;have c4_:=blk_cell B4 5;have f4_:=blk_frozen B4 5;clear hr4 hb4 hg4 hv4 B4))
          clear y5 HX4
          generalize w4_.setCell ⟨bx_,5,none⟩ (.slice A6 (xt.length+1) c6)=w5 at HX5 ⊢
          have y4:=HX5.out.at1 4
          simp only [iObj] at y4
          go_wp2_with (first | ((with_reducible refine gate_builtin (b:=.append) (xs:=#[.tmp 36,.tmp 38]) rfl ?_);at_builtin;refine Kd.R_append (Kd.int .i64) w.heap.size rfl (.tmp 36) (.tmp 38) 31 3 (.int .i64 0) 8 rfl Try.underlying31 (by kernel_rfl) rfl (by decide) (by omega) (.slice Aa xa.length ca) xa v0 [.int .i64 v0] (fun _=>True) (fun k=>True∧some k≠(Value.slice Aa xa.length ca).ownBlock) rfl rfl rfl (fun k hk=>⟨trivial,hk.2⟩) (fun k hk=>trivial) HX5.out.two.ra (Below.refl _ _) (keep_size HX5.out.k) (by have:=HLEN.out;omega) ?_;intro v1 w6_ hr4 hb4 hg4 hv4;obtain ⟨A7,c7,e6⟩:=Kd.R_slice hr4;rw [List.length_append,List.length_singleton] at e6;subst e6;have HX6:=aM (HX5.out.app hg4 (.inl rfl) ⟨op,id,n,ty,xa++[v0],xt++[b0],nm,at_⟩ 4 _ rfl (HX5.out.two.appA hr4 hg4 hv4));have B4:=(hg4.block bx_ (blk_lt HX5.out.box) (Kd.R_ne HX5.out.two.ra HX5.out.box (by decide))).trans HX5.out.box;have c4_:=blk_cell B4 4;have f4_:=blk_frozen B4 4;clear hr4 hb4 hg4 hv4 B4))
          go_roundg k1
          case measure=>have:=HKQ.out;omega
          case rel=>exact ⟨_,_,_,_,_,_,_,_,_,⟨HNX.out⟩,⟨by have:=HKQ.out;omega⟩,⟨HX6.out⟩⟩
        | false=>
          rw [if_neg (by simp)] at hl
          simp only [Option.some.injEq,Prod.mk.injEq] at hl
          obtain ⟨rfl,rfl,rfl,rfl,rfl,rfl,rfl⟩:=hl
          have c_0:=HX.out.at1 0
          have f_0:=blk_frozen HX.out.box 0
          have d_0:=blk_cell HX.out.zero 0
          have e_0:=blk_frozen HX.out.zero 0
          have c_1:=HX.out.at1 1
          have f_1:=blk_frozen HX.out.box 1
          have d_1:=blk_cell HX.out.zero 1
          have e_1:=blk_frozen HX.out.zero 1
          have c_2:=HX.out.at1 2
          have f_2:=blk_frozen HX.out.box 2
          have d_2:=blk_cell HX.out.zero 2
          have e_2:=blk_frozen HX.out.zero 2
          have c_3:=HX.out.at1 3
          have f_3:=blk_frozen HX.out.box 3
          have d_3:=blk_cell HX.out.zero 3
          have e_3:=blk_frozen HX.out.zero 3
          have c_4:=HX.out.at1 4
          have f_4:=blk_frozen HX.out.box 4
          have d_4:=blk_cell HX.out.zero 4
          have e_4:=blk_frozen HX.out.zero 4
          have c_5:=HX.out.at1 5
          have f_5:=blk_frozen HX.out.box 5
          have d_5:=blk_cell HX.out.zero 5
          have e_5:=blk_frozen HX.out.zero 5
          have c_6:=HX.out.at1 6
          have f_6:=blk_frozen HX.out.box 6
          have d_6:=blk_cell HX.out.zero 6
          have e_6:=blk_frozen HX.out.zero 6
          have c_7:=HX.out.at1 7
          have f_7:=blk_frozen HX.out.box 7
          have d_7:=blk_cell HX.out.zero 7
          have e_7:=blk_frozen HX.out.zero 7
          have HE:=aM ((((((((HX.out.setz 0 (.int .i64 (⟨op,id,n,ty,xa,xt,nm,at_⟩:S39).f0)).setz 1 (.int .i64 (⟨op,id,n,ty,xa,xt,nm,at_⟩:S39).f1)).setz 2 (.int .i64 (⟨op,id,n,ty,xa,xt,nm,at_⟩:S39).f2)).setz 3 (.int .i64 (⟨op,id,n,ty,xa,xt,nm,at_⟩:S39).f3)).setz 4 (.slice Aa xa.length ca)).setz 5 (.slice At xt.length ct)).setz 6 (.string (⟨op,id,n,ty,xa,xt,nm,at_⟩:S39).f6)).setz 7 (.int .i64 (⟨op,id,n,ty,xa,xt,nm,at_⟩:S39).f7))
          have hne:w.heap.size+1≠bx_:=by have:=HX.out.lt;omega
          have hne':bx_≠w.heap.size+1:=by have:=HX.out.lt;omega
          simp only [iObj] at c_0 c_1 c_2 c_3 c_4 c_5 c_6 c_7
          clear HX
          go_wp2
          refine bodyPost_ret (results_cell_row rfl _ _ (w.heap.size+1) 39 #[.int .i64 (⟨op,id,n,ty,xa,xt,nm,at_⟩:S39).f0,.int .i64 (⟨op,id,n,ty,xa,xt,nm,at_⟩:S39).f1,.int .i64 (⟨op,id,n,ty,xa,xt,nm,at_⟩:S39).f2,.int .i64 (⟨op,id,n,ty,xa,xt,nm,at_⟩:S39).f3,.slice Aa xa.length ca,.slice At xt.length ct,.string (⟨op,id,n,ty,xa,xt,nm,at_⟩:S39).f6,.int .i64 (⟨op,id,n,ty,xa,xt,nm,at_⟩:S39).f7] (0,0) _ rfl HE.out.zero Try.underlying39 rfl (by kernel_rfl)) rfl ?_
          exact ⟨_,_,rfl,HE.out.two,HE.out.i,HE.out.b,HE.out.k⟩
end Go.Proofs.Ytkjdblbgmomieaa.PSh
end
