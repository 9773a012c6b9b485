import Derived.Test.YtkjdblbgmomieaaMv27
import Derived.Test.YtkjdblbgmomieaaMv29
import Derived.Test.YtkjdblbgmomieaaMv26
import Derived.Test.YtkjdblbgmomieaaMv30
section
namespace Go.Proofs.Ytkjdblbgmomieaa.PSh
set_option maxHeartbeats 8000000
set_option maxRecDepth 100000
open Go.RowKit Go.Proofs.YtkjdblbgmomieaaW.PrintWords Go.Proofs.YtkjdblbgmomieaaW.PrintLast Go.Proofs.YtkjdblbgmomieaaW.PrintMore Go.Proofs.Ytkjdblbgmomieaa.Str
set_option linter.unusedVariables false
set_option linter.unusedSimpArgs false
def rinstS (k:Nat) (x:S39):Option ByteArray:=r07_Instr.f k x.f0 x.f1 x.f2 x.f3 x.f4 x.f5 x.f6 x.f7
def rfuncS (k:Nat) (f:S34):Option ByteArray:=r07_Func.f k f.f0 f.f1 f.f2 f.f3 f.f4
def sameO (a b:Option ByteArray):Bool:=a.isSome && decide (a=b)
theorem sameO_iff {a b:Option ByteArray}:sameO a b=true↔∃ s,a=some s∧b=some s:=by
  unfold sameO
  cases a with
  | none=>simp
  | some s=>simp [eq_comm]
def tellI (k:Nat) (x:S39):Bool:=sameO (instS x) (rinstS k x)
def tellF (k:Nat) (f:S34):Bool:=sameO (funcS f) (rfuncS k f) && f.f3.all fun b=>b.all (tellI k)
def tellP (k:Nat) (fs:List (S34)):Bool:=sameO (show_Text.f fs) (r07_Text.f k fs) && fs.all (tellF k)
theorem tellF_iff {k:Nat} {f:S34}:tellF k f=true↔(∃ s,funcS f=some s∧rfuncS k f=some s)∧∀ b∈f.f3,∀ x∈b,∃ s,instS x=some s∧rinstS k x=some s:=by
  unfold tellF tellI
  simp only [Bool.and_eq_true,sameO_iff,List.all_eq_true]
theorem tellP_iff {k:Nat} {fs:List (S34)}:tellP k fs=true↔(∃ s,show_Text.f fs=some s∧r07_Text.f k fs=some s)∧∀ f∈fs,tellF k f=true:=by
  unfold tellP
  simp only [Bool.and_eq_true,sameO_iff,List.all_eq_true]
def l07_ShowWrites.f (k:Nat) (fs:List S34):Option Bool:=
  (l07_light.f k fs).bind fun b=>if b=false then some true else (r07_Whole.f k fs).bind fun q=>if q.1=0 then (if tellP k fs=true then some true else none) else some true
theorem l07_ShowWrites.calls (k:Nat) (A1:Option Addr) (c1:Nat) (fs:List S34) (r:Bool) (w:World) (h1:Kd.C k34 w A1 fs.length fs) (h1':fs.length≤c1) (h:l07_ShowWrites.f k fs=some r):
    Calls Try.prog 3 #[.agg #[.slice A1 fs.length c1]] w fun e w'=>e=.returned (.bool r)∧Below w.heap.size w w':=by
  have hu24:=Try.underlying24
  have hu28:=Try.underlying28
  have hu34:=Try.underlying34
  have hu39:=Try.underlying39
  have hfl:∀ (u0 u1:Value) (W:World),(Instr.field 28 (.agg #[u0,u1]) 0).run Try.prog W=.ok (u0) W:=fun _ _ _=>by show _=_;kernel_rfl
  unfold l07_ShowWrites.f at h
  obtain ⟨b,hb,h⟩:=Option.bind_eq_some_iff.mp h
  have HLI:=aM hb
  have HC:=aM h1
  have HL:=aM h1'
  clear hb h1 h1'
  go_enter Try.func3,Try.ntmps3
  go_upto_region 1 with (fail)
  have k3:=blk_new w (.cells #[.slice A1 fs.length c1] 24)
  have hb0:=below_alloc (Below.refl w.heap.size w) (.cells #[.slice A1 fs.length c1] 24)
  generalize (w.alloc (.cells #[.slice A1 fs.length c1] 24))=W0 at k3 hb0 ⊢
  have HB0:=aM hb0
  generalize hg:w.heap.size=b3 at k3 ⊢
  clear hb0
  have HCa:=aM (Kd.C_below HC.out HB0.out)
  have HK3:=aM k3
  have HG:=aM hg
  have z0:=blk_cell k3 0
  clear k3 HC hg
  go_wp2_with fail
  refine (l07_light.calls k A1 c1 fs b _ HCa.out HL.out HLI.out).mono ?_
  rintro e w1 ⟨rfl,hb_⟩
  have HB1:=aM hb_
  have y0:=blk_cell (blk_below HK3.out hb_) 0
  clear z0 hb_ HLI
  cases b with
  | false=>
    rw [if_pos rfl] at h
    obtain rfl:=Option.some.inj h
    clear h
    go_wp2_with fail
    refine (l07_works.calls true _ rfl).mono ?_
    rintro e w9 ⟨rfl,hb_⟩
    have HB9:=aM (below_step HB0.out (below_step HB1.out hb_))
    clear hb_
    go_wp2
    (try simp only [Exit.inBlock,Exit.then])
    go_ret
    exact ⟨rfl,HB9.out⟩
  | true=>
    rw [if_neg (by decide)] at h
    obtain ⟨⟨q1,q2⟩,hq,h⟩:=Option.bind_eq_some_iff.mp h
    have HQ:=aM hq
    have HB1c:=aM (Kd.C_below HCa.out HB1.out)
    clear hq
    go_wp2_with fail
    refine (r07_Whole.calls k A1 c1 fs q1 q2 _ HB1c.out HL.out HQ.out).mono ?_
    rintro e w2 ⟨rfl,hb_⟩
    have HB2:=aM (below_step HB1.out hb_)
    clear hb_ HQ HB1c y0
    by_cases cq:q1=0
    rotate_left
    · rw [if_neg cq] at h
      obtain rfl:=Option.some.inj h
      have g1:(q1 !=0)=true:=bne_iff_ne.mpr cq
      have HB1:=HB2
      clear h cq
      go_wp2_with fail
      refine (l07_works.calls true _ rfl).mono ?_
      rintro e w9 ⟨rfl,hb_⟩
      have HB9:=aM (below_step HB0.out (below_step HB1.out hb_))
      clear hb_
      go_wp2
      (try simp only [Exit.inBlock,Exit.then])
      go_ret
      exact ⟨rfl,HB9.out⟩
    rw [if_pos cq] at h
    have g1:(q1 !=0)=false:=bne_eq_false_iff_eq.mpr cq
    by_cases ct:tellP k fs=true
    rotate_left
    · rw [if_neg ct] at h
      cases h
    rw [if_pos ct] at h
    obtain rfl:=Option.some.inj h
    have HT:=aM (tellP_iff.mp ct)
    clear h cq ct
    go_upto_region 3 with (fail)
    clear g1
    go_wp2
    (try simp only [Act.put,qA,qB,qC])
    go_loopg [3] fs.length (fun kq v3 w'=>∃ (i:Int),v3=.int .i64 i∧Aside0 (0≤i∧i≤(fs.length:Int))∧Aside0 (Below W0.heap.size W0 w')∧Aside0 (kq=fs.length - i.toNat))
    case atStart=>exact ⟨0,rfl,⟨by omega⟩,⟨HB2.out⟩,⟨rfl⟩⟩
    case round=>
      clear HB2 HB1
      obtain ⟨i,rfl,HI,HB,HK⟩:=hrel
      have y0:=blk_cell (blk_below HK3.out HB.out) 0
      by_cases hp:i<(fs.length:Int)
      · have dd1:decide (i<(fs.length:Int))=true:=decide_eq_true hp
        obtain ⟨ad,B1,d1,B3,d3,e_,z0,z1,z2,z3,z4,l1,g1,l3,g3⟩:=at_T34 (Kd.C_below HCa.out HB.out) i HI.out.1 hp
        have hmem:=HT.out.2 _ (mem_rd_ fs z34 i HI.out.1 hp)
        have hx:fs.getD i.toNat z34=rd_T34 fs i:=rfl
        rw [hx] at hmem
        clear hx
        have HEA:=aM e_
        rw [e_] at y0
        generalize rd_T34 fs i=f at z0 z1 z2 z3 z4 l1 g1 l3 g3 hmem
        have HMEM:=aM hmem
        have HP:=aM hp
        have HL1:=aM l1
        have HL3:=aM l3
        have HG1:=aM g1
        have HG3:=aM g3
        have p1:=eq_true HI.out.1
        have q1:=eq_true hp
        clear hp l1 g1 l3 g3 hmem
        have hbf:=blk_new wr (.cells #[.string f.f0,.slice B1 f.f1.length d1,.int .i64 f.f2,.slice B3 f.f3.length d3,.int .i64 f.f4] 34)
        have hbb:Below wr.heap.size wr (wr.alloc (.cells #[.string f.f0,.slice B1 f.f1.length d1,.int .i64 f.f2,.slice B3 f.f3.length d3,.int .i64 f.f4] 34)):=below_alloc (Below.refl _ _) _
        go_upto_region 7 with (fail)
        have HB3:=aM (below_step HB.out hbb)
        have HC1:=aM (Kd.C_below HG1.out hbb)
        have HC3:=aM (Kd.C_below HG3.out hbb)
        have HBF:=aM hbf
        clear hbf hbb z0 z1 z2 z3 z4 p1 q1 dd1 y0 HG1 HG3 HEA
        generalize (wr.alloc (.cells #[.string f.f0,.slice B1 f.f1.length d1,.int .i64 f.f2,.slice B3 f.f3.length d3,.int .i64 f.f4] 34))=W1 at HB3 HC1 HC3 HBF ⊢
        generalize wr.heap.size=bf at HBF ⊢
        obtain ⟨⟨s,hs1,hs2⟩,hins⟩:=tellF_iff.mp HMEM.out
        have HS1:=aM (show show_Func.f f.f0 f.f1 f.f2 f.f3 f.f4=some s from hs1)
        have HS2:=aM (show r07_Func.f k f.f0 f.f1 f.f2 f.f3 f.f4=some s from hs2)
        have HINS:=aM hins
        have HY0:=aM (below_drew1 (Below.refl W1.heap.size W1))
        clear hs1 hs2 hins HMEM HB
        refine start_ (n:=5) (S:=fun w'=>w'.cell? ⟨bf,0,none⟩=some (.string f.f0)∧w'.cell? ⟨bf,1,none⟩=some (.slice B1 f.f1.length d1)∧w'.cell? ⟨bf,2,none⟩=some (.int .i64 f.f2)∧w'.cell? ⟨bf,3,none⟩=some (.slice B3 f.f3.length d3)∧w'.cell? ⟨bf,4,none⟩=some (.int .i64 f.f4)) (ds:=[]) #[false,false,false,false,false] (by kernel_rfl) rfl rfl ⟨(blk_cell (blk_below HBF.out HY0.out) 0),(blk_cell (blk_below HBF.out HY0.out) 1),(blk_cell (blk_below HBF.out HY0.out) 2),(blk_cell (blk_below HBF.out HY0.out) 3),(blk_cell (blk_below HBF.out HY0.out) 4)⟩ (fun hHeld=>?_)
        refine take_ (i:=0) (N:=some 29) (v:=?_) (a':=?_) #[true,false,false,false,false] rfl rfl (by kernel_rfl) (fun _ _ _ h=>h) (Or.inl ⟨by rfl,?_⟩) hHeld ?_ ?_
        rotate_left
        · rintro w' ⟨s0,s1,s2,s3,s4⟩
          go_simp
          with_reducible rfl
        rotate_left
        · simp only [Act.put,qA,qB,qC,i64_w,i32_w]
          rfl
        refine take_ (i:=2) (N:=some 31) (v:=?_) (a':=?_) #[true,false,true,false,false] rfl rfl (by kernel_rfl) (fun _ _ _ h=>h) (Or.inl ⟨by rfl,?_⟩) hHeld ?_ ?_
        rotate_left
        · rintro w' ⟨s0,s1,s2,s3,s4⟩
          go_simp
          with_reducible rfl
        rotate_left
        · simp only [Act.put,qA,qB,qC,i64_w,i32_w]
          rfl
        refine one_ (i:=1) (N:=some 30) #[true,true,true,false,false] rfl rfl (by kernel_rfl) (by decide) (fun K hK=>?_)
        refine goes_ Try.func11 (by kernel_rfl) rfl #[.agg #[.string f.f0,.slice B1 f.f1.length d1,.int .i64 f.f2,.slice B3 f.f3.length d3,.int .i64 f.f4]] (by rfl) rfl rfl (by simp only [List.map_toArray,List.map_cons,List.map_nil];rfl) ?_
        with_reducible refine (show_Func.calls f.f0 B1 d1 f.f1 f.f2 B3 d3 f.f3 f.f4 s _ (Kd.C_below HC1.out HY0.out) HL1.out (Kd.C_below HC3.out HY0.out) HL3.out HS1.out).mono ?_
        rintro e wq1 ⟨rfl,hb_⟩
        refine ⟨_,rfl,?_⟩
        have HY1:=aM (below_step HY0.out hb_)
        clear hb_
        refine hK.out _ _ ⟨(blk_cell (blk_below HBF.out HY1.out) 0),(blk_cell (blk_below HBF.out HY1.out) 1),(blk_cell (blk_below HBF.out HY1.out) 2),(blk_cell (blk_below HBF.out HY1.out) 3),(blk_cell (blk_below HBF.out HY1.out) 4)⟩ (fun hHeld=>?_)
        clear hK K
        refine norm_ (a':=?_) ?_ ?_
        rotate_left
        · show Act.put _ (some 30) _=_
          simp only [Act.put,qA,qB,qC,i64_w,i32_w]
          rfl
        refine one_ (i:=3) (N:=some 32) #[true,true,true,true,false] rfl rfl (by kernel_rfl) (by decide) (fun K hK=>?_)
        refine goes_ Try.func12 (by kernel_rfl) rfl #[.agg #[.string f.f0,.slice B1 f.f1.length d1,.int .i64 f.f2,.slice B3 f.f3.length d3,.int .i64 f.f4]] (by rfl) rfl rfl (by simp only [List.map_toArray,List.map_cons,List.map_nil];rfl) ?_
        with_reducible refine (r07_Func.calls k f.f0 B1 d1 f.f1 f.f2 B3 d3 f.f3 f.f4 s _ (Kd.C_below HC1.out HY1.out) HL1.out (Kd.C_below HC3.out HY1.out) HL3.out HS2.out).mono ?_
        rintro e wq2 ⟨rfl,hb_⟩
        refine ⟨_,rfl,?_⟩
        have HY2:=aM (below_step HY1.out hb_)
        clear hb_
        refine hK.out _ _ ⟨(blk_cell (blk_below HBF.out HY2.out) 0),(blk_cell (blk_below HBF.out HY2.out) 1),(blk_cell (blk_below HBF.out HY2.out) 2),(blk_cell (blk_below HBF.out HY2.out) 3),(blk_cell (blk_below HBF.out HY2.out) 4)⟩ (fun hHeld=>?_)
        clear hK K
        refine norm_ (a':=?_) ?_ ?_
        rotate_left
        · show Act.put _ (some 32) _=_
          simp only [Act.put,qA,qB,qC,i64_w,i32_w]
          rfl
        refine pure_ (i:=4) (N:=some 33) (v:=?_) (a':=?_) #[true,true,true,true,true] rfl rfl (by kernel_rfl) (fun _ _ _ h=>h) (Or.inl ⟨by rfl,?_⟩) ?_ ?_
        rotate_left
        · intro w'
          go_simp
          with_reducible rfl
        rotate_left
        · simp only [Act.put,qA,qB,qC,i64_w,i32_w]
          rfl
        refine done_ (by kernel_rfl) ?_
        clear hHeld
        have HB4:=aM (below_step HB3.out HY2.out)
        have HBF2:=aM (blk_below HBF.out HY2.out)
        have HD3:=aM (Kd.C_below HC3.out HY2.out)
        have dq:(!(s.toList==s.toList))=false:=by simp
        have dq2:(s.toList !=s.toList)=false:=bne_self_eq_false s.toList
        go_upto_region 9 with (fail)
        clear HY0 HY1 HY2 HB3 HBF HC3 HC1 HL1
        go_wp2
        (try simp only [Act.put,qA,qB,qC])
        generalize hwq:wq2=W2 at HB4 HBF2 HD3 ⊢
        clear hwq
        go_loopg [5] f.f3.length (fun kq v5 w'=>∃ (j:Int),v5=.int .i64 j∧Aside0 (0≤j∧j≤(f.f3.length:Int))∧Aside0 (Below W2.heap.size W2 w')∧Aside0 (kq=f.f3.length - j.toNat))
        case atStart=>exact ⟨0,rfl,⟨by omega⟩,⟨Below.refl _ _⟩,⟨rfl⟩⟩
        case round=>
          obtain ⟨j,rfl,HJ,HBJ,HKJ⟩:=hrel
          have y3:=blk_cell (blk_below HBF2.out HBJ.out) 3
          by_cases hj:j<(f.f3.length:Int)
          · have dj:decide (j<(f.f3.length:Int))=true:=decide_eq_true hj
            obtain ⟨ad2,cs,e2,-,hK,hc0⟩:=Kd.C_get HD3.out ([]:List (S39)) j HJ.out.1 hj
            obtain ⟨A5,c5,rfl,l5,g5⟩:=hK
            have hx2:=hc0 0 _ rfl
            rw [show j.toNat * (Kd.slice 39 k39).sz+0=j.toNat from by show j.toNat * 1+0=_;omega] at hx2
            clear hc0
            have hmb:=HINS.out _ (mem_rd_ f.f3 [] j HJ.out.1 hj)
            generalize f.f3.getD j.toNat []=bl at hx2 l5 g5 hmb
            have HMB:=aM hmb
            have HX2:=aM hx2
            have HL5:=aM l5
            have HG5:=aM g5
            have HM5:=aM (Kd.C_max g5)
            have HE2:=aM e2
            have HJ2:=aM hj
            clear hj l5 g5 hmb hx2 e2
            go_upto_region 12 with (fail)
            clear y3 dj
            go_wp2
            (try simp only [Act.put,qA,qB,qC])
            go_loopg [6] bl.length (fun kq v6 w'=>∃ (m:Int),v6=.int .i64 m∧Aside0 (0≤m∧m≤(bl.length:Int))∧Aside0 (Below W2.heap.size W2 w')∧Aside0 (kq=bl.length - m.toNat))
            case atStart=>exact ⟨0,rfl,⟨by omega⟩,⟨HBJ.out⟩,⟨rfl⟩⟩
            case round=>
              clear HBJ
              obtain ⟨m,rfl,HM,HBM,HKM⟩:=hrel
              have pj:=eq_true HJ.out.1
              have qj:=eq_true HJ2.out
              have y3:=blk_cell (blk_below HBF2.out HBM.out) 3
              rw [HE2.out] at y3
              have hx2:=pw_cell_below HBM.out HX2.out
              by_cases hm:m<(bl.length:Int)
              · have dm:decide (m<(bl.length:Int))=true:=decide_eq_true hm
                obtain ⟨ad3,E4,e4,E5,e5,e3,x0,x1,x2,x3,x4,x5,x6,x7,m4,h4,m5,h5⟩:=at_T39 HG5.out m HM.out.1 hm
                have hmi:=HMB.out _ (mem_rd_ bl z39 m HM.out.1 hm)
                have hx:bl.getD m.toNat z39=rd_T39 bl m:=rfl
                rw [hx] at hmi
                clear hx
                rw [e3] at hx2
                generalize rd_T39 bl m=x at hmi x0 x1 x2 x3 x4 x5 x6 x7 m4 h4 m5 h5
                obtain ⟨s2,hs1,hs2⟩:=hmi
                have HS3:=aM (show show_Instr.f x.f0 x.f1 x.f2 x.f3 x.f4 x.f5 x.f6 x.f7=some s2 from hs1)
                have HS4:=aM (show r07_Instr.f k x.f0 x.f1 x.f2 x.f3 x.f4 x.f5 x.f6 x.f7=some s2 from hs2)
                have HX0:=aM x0
                have HX1:=aM x1
                have HX22:=aM x2
                have HX3:=aM x3
                have HX4:=aM x4
                have HX5:=aM x5
                have HX6:=aM x6
                have HX7:=aM x7
                have HX9:=aM hx2
                have HM4:=aM m4
                have HM5':=aM m5
                have HH4:=aM h4
                have HH5:=aM h5
                have HM2:=aM hm
                have HXE:=aM (show _=some (Value.slice (some ad3) bl.length c5) from e3 ▸ HX2.out)
                clear hm hs1 hs2 x0 x1 x2 x3 x4 x5 x6 x7 m4 h4 m5 h5
                go_upto_region 15 with (fail)
                clear y3 hx2 dm
                have pm:=eq_true HM.out.1
                have qm:=eq_true HM2.out
                have HZ0:=aM (below_step HBM.out (below_drew1 (Below.refl _ _)))
                refine start_ (n:=19) (S:=fun w'=>w'.cell? ⟨bf,3,none⟩=some (.slice (some ad2) f.f3.length d3)∧w'.cell? (ad2.add j.toNat)=some (.slice (some ad3) bl.length c5)∧w'.cell? (ad3.add (m.toNat * 8))=some (.int .i64 x.f0)∧w'.cell? ⟨(ad3.add (m.toNat * 8)).block,(ad3.add (m.toNat * 8)).off+1,none⟩=some (.int .i64 x.f1)∧w'.cell? ⟨(ad3.add (m.toNat * 8)).block,(ad3.add (m.toNat * 8)).off+2,none⟩=some (.int .i64 x.f2)∧w'.cell? ⟨(ad3.add (m.toNat * 8)).block,(ad3.add (m.toNat * 8)).off+3,none⟩=some (.int .i64 x.f3)∧w'.cell? ⟨(ad3.add (m.toNat * 8)).block,(ad3.add (m.toNat * 8)).off+4,none⟩=some (.slice E4 x.f4.length e4)∧w'.cell? ⟨(ad3.add (m.toNat * 8)).block,(ad3.add (m.toNat * 8)).off+5,none⟩=some (.slice E5 x.f5.length e5)∧w'.cell? ⟨(ad3.add (m.toNat * 8)).block,(ad3.add (m.toNat * 8)).off+6,none⟩=some (.string x.f6)∧w'.cell? ⟨(ad3.add (m.toNat * 8)).block,(ad3.add (m.toNat * 8)).off+7,none⟩=some (.int .i64 x.f7)) (ds:=[]) #[false,false,false,false,false,false,false,false,false,false,false,false,false,false,false,false,false,false,false] (by kernel_rfl) rfl rfl ⟨(HE2.out ▸ blk_cell (blk_below HBF2.out HZ0.out) 3),(pw_cell_below HZ0.out HXE.out),(pw_cell_below HZ0.out HX0.out),(pw_cell_below HZ0.out HX1.out),(pw_cell_below HZ0.out HX22.out),(pw_cell_below HZ0.out HX3.out),(pw_cell_below HZ0.out HX4.out),(pw_cell_below HZ0.out HX5.out),(pw_cell_below HZ0.out HX6.out),(pw_cell_below HZ0.out HX7.out)⟩ (fun hHeld=>?_)
                refine pure_ (i:=0) (N:=some 51) (v:=?_) (a':=?_) #[true,false,false,false,false,false,false,false,false,false,false,false,false,false,false,false,false,false,false] rfl rfl (by kernel_rfl) (fun _ _ _ h=>h) (Or.inl ⟨by rfl,?_⟩) ?_ ?_
                rotate_left
                · intro w'
                  go_simp
                  with_reducible rfl
                rotate_left
                · simp only [Act.put,qA,qB,qC,i64_w,i32_w]
                  rfl
                refine pure_ (i:=2) (N:=some 53) (v:=?_) (a':=?_) #[true,false,true,false,false,false,false,false,false,false,false,false,false,false,false,false,false,false,false] rfl rfl (by kernel_rfl) (fun _ _ _ h=>h) (Or.inl ⟨by rfl,?_⟩) ?_ ?_
                rotate_left
                · intro w'
                  go_simp
                  with_reducible rfl
                rotate_left
                · simp only [Act.put,qA,qB,qC,i64_w,i32_w]
                  rfl
                refine pure_ (i:=5) (N:=some 56) (v:=?_) (a':=?_) #[true,false,true,false,false,true,false,false,false,false,false,false,false,false,false,false,false,false,false] rfl rfl (by kernel_rfl) (fun _ _ _ h=>h) (Or.inl ⟨by rfl,?_⟩) ?_ ?_
                rotate_left
                · intro w'
                  go_simp
                  with_reducible rfl
                rotate_left
                · simp only [Act.put,qA,qB,qC,i64_w,i32_w]
                  rfl
                refine pure_ (i:=9) (N:=some 60) (v:=?_) (a':=?_) #[true,false,true,false,false,true,false,false,false,true,false,false,false,false,false,false,false,false,false] rfl rfl (by kernel_rfl) (fun _ _ _ h=>h) (Or.inl ⟨by rfl,?_⟩) ?_ ?_
                rotate_left
                · intro w'
                  go_simp
                  with_reducible rfl
                rotate_left
                · simp only [Act.put,qA,qB,qC,i64_w,i32_w]
                  rfl
                refine pure_ (i:=11) (N:=some 62) (v:=?_) (a':=?_) #[true,false,true,false,false,true,false,false,false,true,false,true,false,false,false,false,false,false,false] rfl rfl (by kernel_rfl) (fun _ _ _ h=>h) (Or.inl ⟨by rfl,?_⟩) ?_ ?_
                rotate_left
                · intro w'
                  go_simp
                  with_reducible rfl
                rotate_left
                · simp only [Act.put,qA,qB,qC,i64_w,i32_w]
                  rfl
                refine pure_ (i:=14) (N:=some 65) (v:=?_) (a':=?_) #[true,false,true,false,false,true,false,false,false,true,false,true,false,false,true,false,false,false,false] rfl rfl (by kernel_rfl) (fun _ _ _ h=>h) (Or.inl ⟨by rfl,?_⟩) ?_ ?_
                rotate_left
                · intro w'
                  go_simp
                  with_reducible rfl
                rotate_left
                · simp only [Act.put,qA,qB,qC,i64_w,i32_w]
                  rfl
                refine take_ (i:=1) (N:=some 52) (v:=?_) (a':=?_) #[true,true,true,false,false,true,false,false,false,true,false,true,false,false,true,false,false,false,false] rfl rfl (by kernel_rfl) (fun _ _ _ h=>h) (Or.inl ⟨by rfl,?_⟩) hHeld ?_ ?_
                rotate_left
                · rintro w' ⟨s0,s1,s2,s3,s4,s5,s6,s7,s8,s9⟩
                  go_simp
                  with_reducible rfl
                rotate_left
                · simp only [Act.put,qA,qB,qC,i64_w,i32_w]
                  rfl
                refine pure_ (i:=3) (N:=some 54) (v:=?_) (a':=?_) #[true,true,true,true,false,true,false,false,false,true,false,true,false,false,true,false,false,false,false] rfl rfl (by kernel_rfl) (fun _ _ _ h=>h) (Or.inl ⟨by rfl,?_⟩) ?_ ?_
                rotate_left
                · intro w'
                  go_simp
                  with_reducible rfl
                rotate_left
                · simp only [Act.put,qA,qB,qC,i64_w,i32_w]
                  rfl
                refine take_ (i:=4) (N:=some 55) (v:=?_) (a':=?_) #[true,true,true,true,true,true,false,false,false,true,false,true,false,false,true,false,false,false,false] rfl rfl (by kernel_rfl) (fun _ _ _ h=>h) (Or.inl ⟨by rfl,?_⟩) hHeld ?_ ?_
                rotate_left
                · rintro w' ⟨s0,s1,s2,s3,s4,s5,s6,s7,s8,s9⟩
                  go_simp
                  with_reducible rfl
                rotate_left
                · simp only [Act.put,qA,qB,qC,i64_w,i32_w]
                  rfl
                refine pure_ (i:=6) (N:=some 57) (v:=?_) (a':=?_) #[true,true,true,true,true,true,true,false,false,true,false,true,false,false,true,false,false,false,false] rfl rfl (by kernel_rfl) (fun _ _ _ h=>h) (Or.inl ⟨by rfl,?_⟩) ?_ ?_
                rotate_left
                · intro w'
                  go_simp
                  with_reducible rfl
                rotate_left
                · simp only [Act.put,qA,qB,qC,i64_w,i32_w]
                  rfl
                refine take_ (i:=7) (N:=some 58) (v:=?_) (a':=?_) #[true,true,true,true,true,true,true,true,false,true,false,true,false,false,true,false,false,false,false] rfl rfl (by kernel_rfl) (fun _ _ _ h=>h) (Or.inl ⟨by rfl,?_⟩) hHeld ?_ ?_
                rotate_left
                · rintro w' ⟨s0,s1,s2,s3,s4,s5,s6,s7,s8,s9⟩
                  go_simp
                  with_reducible rfl
                rotate_left
                · simp only [Act.put,qA,qB,qC,i64_w,i32_w]
                  rfl
                refine take_ (i:=10) (N:=some 61) (v:=?_) (a':=?_) #[true,true,true,true,true,true,true,true,false,true,true,true,false,false,true,false,false,false,false] rfl rfl (by kernel_rfl) (fun _ _ _ h=>h) (Or.inl ⟨by rfl,?_⟩) hHeld ?_ ?_
                rotate_left
                · rintro w' ⟨s0,s1,s2,s3,s4,s5,s6,s7,s8,s9⟩
                  go_simp
                  with_reducible rfl
                rotate_left
                · simp only [Act.put,qA,qB,qC,i64_w,i32_w]
                  rfl
                refine pure_ (i:=12) (N:=some 63) (v:=?_) (a':=?_) #[true,true,true,true,true,true,true,true,false,true,true,true,true,false,true,false,false,false,false] rfl rfl (by kernel_rfl) (fun _ _ _ h=>h) (Or.inl ⟨by rfl,?_⟩) ?_ ?_
                rotate_left
                · intro w'
                  go_simp
                  with_reducible rfl
                rotate_left
                · simp only [Act.put,qA,qB,qC,i64_w,i32_w]
                  rfl
                refine take_ (i:=13) (N:=some 64) (v:=?_) (a':=?_) #[true,true,true,true,true,true,true,true,false,true,true,true,true,true,true,false,false,false,false] rfl rfl (by kernel_rfl) (fun _ _ _ h=>h) (Or.inl ⟨by rfl,?_⟩) hHeld ?_ ?_
                rotate_left
                · rintro w' ⟨s0,s1,s2,s3,s4,s5,s6,s7,s8,s9⟩
                  go_simp
                  with_reducible rfl
                rotate_left
                · simp only [Act.put,qA,qB,qC,i64_w,i32_w]
                  rfl
                refine pure_ (i:=15) (N:=some 66) (v:=?_) (a':=?_) #[true,true,true,true,true,true,true,true,false,true,true,true,true,true,true,true,false,false,false] rfl rfl (by kernel_rfl) (fun _ _ _ h=>h) (Or.inl ⟨by rfl,?_⟩) ?_ ?_
                rotate_left
                · intro w'
                  go_simp
                  with_reducible rfl
                rotate_left
                · simp only [Act.put,qA,qB,qC,i64_w,i32_w]
                  rfl
                refine take_ (i:=16) (N:=some 67) (v:=?_) (a':=?_) #[true,true,true,true,true,true,true,true,false,true,true,true,true,true,true,true,true,false,false] rfl rfl (by kernel_rfl) (fun _ _ _ h=>h) (Or.inl ⟨by rfl,?_⟩) hHeld ?_ ?_
                rotate_left
                · rintro w' ⟨s0,s1,s2,s3,s4,s5,s6,s7,s8,s9⟩
                  go_simp
                  with_reducible rfl
                rotate_left
                · simp only [Act.put,qA,qB,qC,i64_w,i32_w]
                  rfl
                refine one_ (i:=8) (N:=some 59) #[true,true,true,true,true,true,true,true,true,true,true,true,true,true,true,true,true,false,false] rfl rfl (by kernel_rfl) (by decide) (fun K hK=>?_)
                refine goes_ Try.func13 (by kernel_rfl) rfl #[.agg #[.int .i64 x.f0,.int .i64 x.f1,.int .i64 x.f2,.int .i64 x.f3,.slice E4 x.f4.length e4,.slice E5 x.f5.length e5,.string x.f6,.int .i64 x.f7]] (by rfl) rfl rfl (by simp only [List.map_toArray,List.map_cons,List.map_nil];rfl) ?_
                with_reducible refine (show_Instr.calls x.f0 x.f1 x.f2 x.f3 E4 e4 x.f4 E5 e5 x.f5 x.f6 x.f7 s2 _ (Kd.C_below HH4.out HZ0.out) HM4.out (Kd.C_below HH5.out HZ0.out) HM5'.out HS3.out).mono ?_
                rintro e wq11 ⟨rfl,hb_⟩
                refine ⟨_,rfl,?_⟩
                have HZ11:=aM (below_step HZ0.out hb_)
                clear hb_
                refine hK.out _ _ ⟨(HE2.out ▸ blk_cell (blk_below HBF2.out HZ11.out) 3),(pw_cell_below HZ11.out HXE.out),(pw_cell_below HZ11.out HX0.out),(pw_cell_below HZ11.out HX1.out),(pw_cell_below HZ11.out HX22.out),(pw_cell_below HZ11.out HX3.out),(pw_cell_below HZ11.out HX4.out),(pw_cell_below HZ11.out HX5.out),(pw_cell_below HZ11.out HX6.out),(pw_cell_below HZ11.out HX7.out)⟩ (fun hHeld=>?_)
                clear hK K
                refine norm_ (a':=?_) ?_ ?_
                rotate_left
                · show Act.put _ (some 59) _=_
                  simp only [Act.put,qA,qB,qC,i64_w,i32_w]
                  rfl
                refine one_ (i:=17) (N:=some 68) #[true,true,true,true,true,true,true,true,true,true,true,true,true,true,true,true,true,true,false] rfl rfl (by kernel_rfl) (by decide) (fun K hK=>?_)
                refine goes_ Try.func14 (by kernel_rfl) rfl #[.agg #[.int .i64 x.f0,.int .i64 x.f1,.int .i64 x.f2,.int .i64 x.f3,.slice E4 x.f4.length e4,.slice E5 x.f5.length e5,.string x.f6,.int .i64 x.f7]] (by rfl) rfl rfl (by simp only [List.map_toArray,List.map_cons,List.map_nil];rfl) ?_
                with_reducible refine (r07_Instr.calls k x.f0 x.f1 x.f2 x.f3 E4 e4 x.f4 E5 e5 x.f5 x.f6 x.f7 s2 _ (Kd.C_below HH4.out HZ11.out) HM4.out (Kd.C_below HH5.out HZ11.out) HM5'.out HS4.out).mono ?_
                rintro e wq12 ⟨rfl,hb_⟩
                refine ⟨_,rfl,?_⟩
                have HZ12:=aM (below_step HZ11.out hb_)
                clear hb_
                refine hK.out _ _ ⟨(HE2.out ▸ blk_cell (blk_below HBF2.out HZ12.out) 3),(pw_cell_below HZ12.out HXE.out),(pw_cell_below HZ12.out HX0.out),(pw_cell_below HZ12.out HX1.out),(pw_cell_below HZ12.out HX22.out),(pw_cell_below HZ12.out HX3.out),(pw_cell_below HZ12.out HX4.out),(pw_cell_below HZ12.out HX5.out),(pw_cell_below HZ12.out HX6.out),(pw_cell_below HZ12.out HX7.out)⟩ (fun hHeld=>?_)
                clear hK K
                refine norm_ (a':=?_) ?_ ?_
                rotate_left
                · show Act.put _ (some 68) _=_
                  simp only [Act.put,qA,qB,qC,i64_w,i32_w]
                  rfl
                refine pure_ (i:=18) (N:=some 69) (v:=?_) (a':=?_) #[true,true,true,true,true,true,true,true,true,true,true,true,true,true,true,true,true,true,true] rfl rfl (by kernel_rfl) (fun _ _ _ h=>h) (Or.inl ⟨by rfl,?_⟩) ?_ ?_
                rotate_left
                · intro w'
                  go_simp
                  with_reducible rfl
                rotate_left
                · simp only [Act.put,qA,qB,qC,i64_w,i32_w]
                  rfl
                refine done_ (by kernel_rfl) ?_
                clear hHeld pj qj pm qm
                have dq:(!(s2.toList==s2.toList))=false:=by simp
                have dq2:(s2.toList !=s2.toList)=false:=bne_self_eq_false s2.toList
                go_wp2_with fail
                go_roundg (bl.length - (m+1).toNat)
                case measure=>have:=HKM.out;have:=HM2.out;have:=HM.out;omega
                case rel=>exact ⟨m+1,by rw [show wrap64 (m+1)=m+1 from w64 (by have:=HM.out;omega) (by have:=HM2.out;have:=HL5.out;have:=HM5.out;omega)],⟨by have:=HM.out;have:=HM2.out;omega⟩,⟨HZ12.out⟩,⟨rfl⟩⟩
              · have dm:decide (m<(bl.length:Int))=false:=decide_eq_false hm
                clear hm
                go_wp2_with fail
                go_roundg (f.f3.length - (j+1).toNat)
                case measure=>have:=HKJ.out;have:=HJ2.out;have:=HJ.out;omega
                case rel=>exact ⟨j+1,by rw [show wrap64 (j+1)=j+1 from w64 (by have:=HJ.out;omega) (by have:=HJ2.out;have:=HL3.out;have:=Kd.C_max HD3.out;omega)],⟨by have:=HJ.out;have:=HJ2.out;omega⟩,⟨HBM.out⟩,⟨rfl⟩⟩
          · have dj:decide (j<(f.f3.length:Int))=false:=decide_eq_false hj
            clear hj
            go_wp2_with fail
            go_roundg (fs.length - (i+1).toNat)
            case measure=>have:=HK.out;have:=HP.out;have:=HI.out;omega
            case rel=>exact ⟨i+1,by rw [show wrap64 (i+1)=i+1 from w64 (by have:=HI.out;omega) (by have:=HP.out;have:=HL.out;have:=Kd.C_max HCa.out;omega)],⟨by have:=HI.out;have:=HP.out;omega⟩,⟨below_step HB4.out HBJ.out⟩,⟨rfl⟩⟩
      · have dd1:decide (i<(fs.length:Int))=false:=decide_eq_false hp
        obtain ⟨⟨s,hs1,hs2⟩,-⟩:=HT.out
        have HS1:=aM hs1
        have HS2:=aM hs2
        clear hp hs1 hs2
        go_upto_region 17 with (fail)
        clear y0 dd1
        have HY0:=aM (below_step HB.out (below_drew1 (Below.refl _ _)))
        refine start_ (n:=9) (S:=fun w'=>w'.cell? ⟨b3,0,none⟩=some (.slice A1 fs.length c1)) (ds:=[]) #[false,false,false,false,false,false,false,false,false] (by kernel_rfl) rfl rfl ((blk_cell (blk_below HK3.out HY0.out) 0)) (fun hHeld=>?_)
        refine take_ (i:=0) (N:=some 70) (v:=?_) (a':=?_) #[true,false,false,false,false,false,false,false,false] rfl rfl (by kernel_rfl) (fun _ _ _ h=>h) (Or.inl ⟨by rfl,?_⟩) hHeld ?_ ?_
        rotate_left
        · intro w' s0
          go_simp
          with_reducible rfl
        rotate_left
        · simp only [Act.put,qA,qB,qC,i64_w,i32_w]
          rfl
        refine take_ (i:=2) (N:=some 72) (v:=?_) (a':=?_) #[true,false,true,false,false,false,false,false,false] rfl rfl (by kernel_rfl) (fun _ _ _ h=>h) (Or.inl ⟨by rfl,?_⟩) hHeld ?_ ?_
        rotate_left
        · intro w' s0
          go_simp
          with_reducible rfl
        rotate_left
        · simp only [Act.put,qA,qB,qC,i64_w,i32_w]
          rfl
        refine one_ (i:=1) (N:=some 71) #[true,true,true,false,false,false,false,false,false] rfl rfl (by kernel_rfl) (by decide) (fun K hK=>?_)
        refine goes_ Try.func15 (by kernel_rfl) rfl #[.agg #[.slice A1 fs.length c1]] (by rfl) rfl rfl (by simp only [List.map_toArray,List.map_cons,List.map_nil];rfl) ?_
        with_reducible refine (show_Text.calls A1 c1 fs s _ (Kd.C_below HCa.out HY0.out) HL.out HS1.out).mono ?_
        rintro e wq21 ⟨rfl,hb_⟩
        refine ⟨_,rfl,?_⟩
        have HY21:=aM (below_step HY0.out hb_)
        clear hb_
        refine hK.out _ _ ((blk_cell (blk_below HK3.out HY21.out) 0)) (fun hHeld=>?_)
        clear hK K
        refine norm_ (a':=?_) ?_ ?_
        rotate_left
        · show Act.put _ (some 71) _=_
          simp only [Act.put,qA,qB,qC,i64_w,i32_w]
          rfl
        refine one_ (i:=3) (N:=some 73) #[true,true,true,true,false,false,false,false,false] rfl rfl (by kernel_rfl) (by decide) (fun K hK=>?_)
        refine goes_ Try.func16 (by kernel_rfl) rfl #[.agg #[.slice A1 fs.length c1]] (by rfl) rfl rfl (by simp only [List.map_toArray,List.map_cons,List.map_nil];rfl) ?_
        with_reducible refine (r07_Text.calls k A1 c1 fs s _ (Kd.C_below HCa.out HY21.out) HL.out HS2.out).mono ?_
        rintro e wq22 ⟨rfl,hb_⟩
        refine ⟨_,rfl,?_⟩
        have HY22:=aM (below_step HY21.out hb_)
        clear hb_
        refine hK.out _ _ ((blk_cell (blk_below HK3.out HY22.out) 0)) (fun hHeld=>?_)
        clear hK K
        refine norm_ (a':=?_) ?_ ?_
        rotate_left
        · show Act.put _ (some 73) _=_
          simp only [Act.put,qA,qB,qC,i64_w,i32_w]
          rfl
        refine pure_ (i:=4) (N:=some 74) (v:=?_) (a':=?_) #[true,true,true,true,true,false,false,false,false] rfl rfl (by kernel_rfl) (fun _ _ _ h=>h) (Or.inl ⟨by rfl,?_⟩) ?_ ?_
        rotate_left
        · intro w'
          go_simp
          with_reducible rfl
        rotate_left
        · simp only [Act.put,qA,qB,qC,i64_w,i32_w]
          rfl
        refine pure_ (i:=5) (N:=some 75) (v:=?_) (a':=?_) #[true,true,true,true,true,true,false,false,false] rfl rfl (by kernel_rfl) (fun _ _ _ h=>h) (Or.inl ⟨by rfl,?_⟩) ?_ ?_
        rotate_left
        · intro w'
          go_simp
          with_reducible rfl
        rotate_left
        · simp only [Act.put,qA,qB,qC,i64_w,i32_w]
          rfl
        refine one_ (i:=6) (N:=some 76) #[true,true,true,true,true,true,true,false,false] rfl rfl (by kernel_rfl) (by decide) (fun K hK=>?_)
        refine goes_ Try.func10 (by kernel_rfl) rfl #[] (by rfl) rfl rfl (by first | rfl | (simp;done)) ?_
        with_reducible refine (l07_works.calls true _ rfl).mono ?_
        rintro e wq23 ⟨rfl,hb_⟩
        refine ⟨_,rfl,?_⟩
        have HY23:=aM (below_step HY22.out hb_)
        clear hb_
        refine hK.out _ _ ((blk_cell (blk_below HK3.out HY23.out) 0)) (fun hHeld=>?_)
        clear hK K
        refine norm_ (a':=?_) ?_ ?_
        rotate_left
        · show Act.put _ (some 76) _=_
          simp only [Act.put,qA,qB,qC,i64_w,i32_w]
          rfl
        refine pure_ (i:=7) (N:=some 77) (v:=?_) (a':=?_) #[true,true,true,true,true,true,true,true,false] rfl rfl (by kernel_rfl) (fun _ _ _ h=>h) (Or.inl ⟨by rfl,?_⟩) ?_ ?_
        rotate_left
        · intro w'
          go_simp
          with_reducible rfl
        rotate_left
        · simp only [Act.put,qA,qB,qC,i64_w,i32_w]
          rfl
        refine pure_ (i:=8) (N:=some 2) (v:=?_) (a':=?_) #[true,true,true,true,true,true,true,true,true] rfl rfl (by kernel_rfl) (fun _ _ _ h=>h) (Or.inl ⟨by rfl,?_⟩) ?_ ?_
        rotate_left
        · intro w'
          go_simp
          with_reducible rfl
        rotate_left
        · simp only [Act.put,qA,qB,qC,i64_w,i32_w]
          rfl
        refine done_ (by kernel_rfl) ?_
        go_wp2
        (try simp only [Exit.inBlock,Exit.then])
        go_ret
        exact ⟨by simp,HG.out ▸ below_step HB0.out HY23.out⟩
end Go.Proofs.Ytkjdblbgmomieaa.PSh
end
