import Derived.Test.YtkjdblbgmomieaaMv33
import Derived.Test.YtkjdblbgmomieaaRows
import Derived.WalkKit
import Derived.ProofKit
import Derived.OpenShut
import Derived.ShutString
import Derived.ChangeOld
import Derived.Below
import Derived.SizedLaws
section
namespace Go.Proofs.Ytkjdblbgmomieaa.PSh
open Go.RowKit Go.Proofs.YtkjdblbgmomieaaW.PrintWords Go.Proofs.YtkjdblbgmomieaaW.PrintLast Go.Proofs.YtkjdblbgmomieaaW.PrintMore Go.Proofs.Ytkjdblbgmomieaa.Str Go.Proofs.Ytkjdblbgmomieaa.Dig
set_option linter.unusedVariables false
set_option linter.unusedSimpArgs false
theorem inter_glue:∀ (ws:List (List UInt8)) (w:List UInt8),[32].intercalate (w::ws)=w++glue ws
  | [],w=>by simp [List.intercalate,glue]
  | v::ws,w=>by
    have:=inter_glue ws v
    simp only [List.intercalate,List.intersperse] at this ⊢
    simp [glue,this]
theorem joinB_mk (w:List UInt8) (ws:List (List UInt8)):joinB ((w::ws).map mk) (mk [32])=mk (w++glue ws):=by
  unfold joinB
  have:((w::ws).map mk).map (·.data.toList)=w::ws:=by
    rw [List.map_map]
    exact (List.map_congr_left (fun x _=>rfl)).trans (List.map_id _)
  rw [this,show (mk [32]).data.toList=[32] from rfl]
  show mk ([32].intercalate (w::ws))=_
  rw [inter_glue]
theorem line_c (w:List UInt8) (ws:List (List UInt8)) (hl:ws.length≤1000000) (hs:(w++glue ws).length≤100000000):show_line.f ((w::ws).map mk)=some (mk (w++glue ws)):=by
  unfold show_line.f strings_Join.f
  have e:joinB ((w::ws).map mk) (⟨#[32]⟩:ByteArray)=mk (w++glue ws):=joinB_mk w ws
  rw [e,if_pos ⟨by simp;omega,by rw [mk_size];omega⟩]
  rfl
theorem valsW_c:∀ l:List Int,(∀ v∈l,n64 v)→valsW l=some ((l.map valL).map mk)
  | [],_=>rfl
  | a::l,h=>by
    have ha:=h a (by simp)
    simp only [valsW]
    rw [value_c a ha.1 ha.2,valsW_c l (fun v hv=>h v (by simp [hv]))]
    rfl
theorem labsW_c:∀ l:List Int,(∀ v∈l,n64 v)→labsW l=some ((l.map labL).map mk)
  | [],_=>rfl
  | a::l,h=>by
    have ha:=h a (by simp)
    simp only [labsW]
    rw [label_c a ha.1 ha.2,labsW_c l (fun v hv=>h v (by simp [hv]))]
    rfl
theorem phiW_c:∀ bs l:List Int,l.length=bs.length→(∀ v∈bs,n64 v)→(∀ v∈l,n64 v)→phiW bs l=some ((phiL bs l).map mk)
  | [],_,_,_,_=>by simp [phiW,phiL]
  | b::bs,[],h,_,_=>by simp at h
  | b::bs,a::l,h,hb,hl=>by
    have h1:=hb b (by simp)
    have h2:=hl a (by simp)
    simp only [phiW]
    rw [label_c b h1.1 h1.2,value_c a h2.1 h2.2,phiW_c bs l (by simpa using h) (fun v hv=>hb v (by simp [hv])) (fun v hv=>hl v (by simp [hv]))]
    rfl
theorem glue_labs_len:∀ l:List Int,(∀ v∈l,n64 v)→(glue (l.map labL)).length≤24 * l.length
  | [],_=>by simp [glue]
  | a::l,h=>by
    have:=glue_labs_len l (fun v hv=>h v (by simp [hv]))
    have ha:=h a (by simp)
    have:=digs_len a ha.1 ha.2
    simp [glue,labL]
    omega
theorem glue_phi_len:∀ bs l:List Int,(∀ v∈bs,n64 v)→(∀ v∈l,n64 v)→(glue (phiL bs l)).length≤48 * l.length∧(phiL bs l).length≤2 * l.length
  | [],l,_,_=>by simp [phiL,glue]
  | b::bs,[],_,_=>by simp [phiL,glue]
  | b::bs,a::l,hb,hl=>by
    have h1:=hb b (by simp)
    have h2:=hl a (by simp)
    have h3:=digs_len b h1.1 h1.2
    have h4:=digs_len a h2.1 h2.2
    have:=glue_phi_len bs l (fun v hv=>hb v (by simp [hv])) (fun v hv=>hl v (by simp [hv]))
    simp [phiL,glue,labL,valL]
    omega
theorem mk_id (nm:ByteArray):nm=mk nm.data.toList:=mk_data nm
theorem tail_bound (op n:Int) (l4 l5:List Int) (nm:ByteArray) (h:Tells op n l4 l5 nm):(glue (tailL op n l4 l5 nm.data.toList)).length≤48 * l4.length+24 * l5.length+nm.size+60∧(tailL op n l4 l5 nm.data.toList).length≤2 * l4.length+l5.length+3:=by
  have hd:=digs_len n h.hn.1 h.hn.2
  have hv:=glue_vals_len l4 h.h4
  have hb:=glue_labs_len l5 h.h5
  have hp:=glue_phi_len l5 l4 h.h5 h.h4
  have hz:=size_data nm
  unfold tailL
  split
  · simp [glue];omega
  split
  · simp [glue];omega
  split
  · cases hl:l4 with
    | nil=>simp [glue]
    | cons a l=>
      rw [hl] at hv
      simp [glue,valL] at hv ⊢
      omega
  split
  · omega
  split
  · rw [glue_app]
    split<;>simp [glue]<;>omega
  · rw [glue_app]
    simp
    omega
theorem tailW_c (op n:Int) (l4 l5:List Int) (nm:ByteArray) (h:Tells op n l4 l5 nm):tailW op n l4 l5 nm=some ((tailL op n l4 l5 nm.data.toList).map mk):=by
  have hd:=digs_len n h.hn.1 h.hn.2
  unfold tailW tailL
  split
  · rw [print_c n h.hn.1 h.hn.2];rfl
  split
  · simp only [List.map_cons,List.map_nil,← mk_id]
  split
  · next _ _ c=>
    cases hl:l4 with
    | nil=>exact absurd hl (h.mem c)
    | cons a l=>
      have ha:=h.h4 a (by rw [hl];simp)
      simp only
      rw [value_c a ha.1 ha.2,print_c n h.hn.1 h.hn.2,valsW_c l (fun v hv=>h.h4 v (by rw [hl];simp [hv]))]
      rfl
  split
  · next c=>exact phiW_c l5 l4 (h.phi c) h.h5 h.h4
  split
  · split
    · rw [valsW_c l4 h.h4]
      simp only [Option.bind_some,List.nil_append,List.map_cons,← mk_id]
    · rw [print_c n h.hn.1 h.hn.2,valsW_c l4 h.h4]
      simp only [Option.bind_some]
      rw [if_pos (by rw [mk_size];omega)]
      simp only [Option.bind_some,List.map_cons,List.map_append,List.map_nil]
      rw [← mk_id,show (⟨#[64]⟩:ByteArray)++mk (digs n)=mk (64::digs n) from mk_append [64] (digs n)]
  · rw [valsW_c l4 h.h4,labsW_c l5 h.h5]
    simp
theorem instr_c (op id n ty:Int) (l4 l5:List Int) (nm:ByteArray) (at_:Int) (hid:n64 id) (h:Tells op n l4 l5 nm):show_Instr.f op id n ty l4 l5 nm at_=some (mk (instrL op id n ty l4 l5 nm.data.toList)):=by
  have hw:=wordL_len op ty
  have hd:=digs_len id hid.1 hid.2
  obtain ⟨hb,hc⟩:=tail_bound op n l4 l5 nm h
  have h4:=h.len4
  have h5:=h.len5
  have h6:=h.size
  unfold show_Instr.f instrL baseL headW
  rw [tailW_c op n l4 l5 nm h]
  split
  · simp only [Option.bind_some,List.nil_append]
    rw [if_pos (by simp;omega)]
    exact line_c (wordL op ty) _ (by omega) (by simp;omega)
  · rw [value_c id hid.1 hid.2]
    simp only [Option.bind_some]
    rw [if_pos (by simp;omega)]
    have e:[mk (37::digs id),(⟨#[61]⟩:ByteArray)]++mk (wordL op ty)::(tailL op n l4 l5 nm.data.toList).map mk=(valL id::[61]::wordL op ty::tailL op n l4 l5 nm.data.toList).map mk:=rfl
    rw [e,line_c (valL id) _ (by simp;omega) (by simp [glue,valL];omega)]
    simp [glue,valL]
def insL (x:S39):List UInt8:=instrL x.f0 x.f1 x.f2 x.f3 x.f4 x.f5 x.f6.data.toList
def codeL (b:List (S39)):List UInt8:=b.flatMap fun x=>[32,32]++insL x++[10]
def blocksL:Int→List (List (S39))→List UInt8
  | _,[]=>[]
  | k,b::bs=>labL k++[58,10]++codeL b++blocksL (k+1) bs
def parL:List Int→List UInt8
  | []=>[]
  | a::l=>letterL a++glue (l.map letterL)
def headFL (nm:List UInt8) (l1:List Int) (rt:Int):List UInt8:=[102,117,110,99,32]++nm++[40]++parL l1++[41,32]++letterL rt++[32,123,10]
def funcL (f:S34):List UInt8:=headFL f.f0.data.toList f.f1 f.f2++blocksL 0 f.f3++[125,10]
def textL (fs:List (S34)):List UInt8:=fs.flatMap funcL
def TellI (x:S39):Prop:=n64 x.f1∧Tells x.f0 x.f2 x.f4 x.f5 x.f6∧smallI x
def TellB (b:List (S39)):Prop:=b.length≤150∧∀ x∈b,TellI x
def TellF (f:S34):Prop:=f.f0.size≤4529∧f.f1.length≤150∧f.f3.length≤150∧∀ b∈f.f3,TellB b
theorem ins_len {x:S39} (h:TellI x):(insL x).length≤60000:=by
  have h1:=(tail_bound _ _ _ _ _ h.2.1).1
  obtain ⟨s1,s2,s3⟩:=h.2.2
  have hw:=wordL_len x.f0 x.f3
  have hd:=digs_len x.f1 h.1.1 h.1.2
  unfold insL instrL baseL
  rw [List.length_append]
  split
  · omega
  · simp [valL];omega
theorem code_len:∀ (b:List (S39)),(∀ x∈b,TellI x)→(codeL b).length≤60003 * b.length
  | [],_=>by simp [codeL]
  | x::b,h=>by
    have h1:=ins_len (h x (by simp))
    have h2:=code_len b (fun y hy=>h y (by simp [hy]))
    unfold codeL at h2 ⊢
    rw [List.flatMap_cons]
    simp at h2 ⊢
    omega
theorem blocks_len:∀ (bs:List (List (S39))) (k:Int),0≤k→k+bs.length≤1000000→(∀ b∈bs,TellB b)→(blocksL k bs).length≤9001000 * bs.length
  | [],_,_,_,_=>by simp [blocksL]
  | b::bs,k,h0,h1,h=>by
    have hb:=h b (by simp)
    have h2:=code_len b hb.2
    have h3:=blocks_len bs (k+1) (by omega) (by simp at h1;omega) (fun y hy=>h y (by simp [hy]))
    have h4:=digs_len k (by omega) (by simp at h1;omega)
    have h5:=hb.1
    simp [blocksL,labL]
    omega
theorem glue_letters (l:List Int):(glue (l.map letterL)).length=2 * l.length:=by
  induction l with
  | nil=>rfl
  | cons a l ih=>
    have:=letterL_len a
    simp [glue,ih,this]
    omega
theorem par_len (l:List Int):(parL l).length≤2 * l.length:=by
  cases l with
  | nil=>simp [parL]
  | cons a l=>
    have:=letterL_len a
    have:=glue_letters l
    simp [parL]
    omega
theorem headF_len {f:S34} (h:TellF f):(headFL f.f0.data.toList f.f1 f.f2).length≤5000:=by
  have h1:=par_len f.f1
  have h2:=letterL_len f.f2
  have h3:=size_data f.f0
  have h4:=h.1
  have h5:=h.2.1
  simp [headFL] at h3 ⊢
  omega
theorem func_len {f:S34} (h:TellF f):(funcL f).length≤1350156000:=by
  have h1:=headF_len h
  have h3:=h.2.2.1
  have h2:=blocks_len f.f3 0 (Int.le_refl _) (by omega) h.2.2.2
  unfold funcL
  rw [List.length_append,List.length_append]
  simp
  omega
theorem text_len:∀ (fs:List (S34)),(∀ f∈fs,TellF f)→(textL fs).length≤1350156000 * fs.length
  | [],_=>by simp [textL]
  | f::fs,h=>by
    have h1:=func_len (h f (by simp))
    have h2:=text_len fs (fun y hy=>h y (by simp [hy]))
    unfold textL at h2 ⊢
    rw [List.flatMap_cons]
    simp at h2 ⊢
    omega
theorem insS_c {x:S39} (h:TellI x):instS x=some (mk (insL x)):=instr_c _ _ _ _ _ _ _ _ h.1 h.2.1
theorem shCode_c:∀ (b:List (S39)) (acc:List UInt8),(∀ x∈b,TellI x)→acc.length+(codeL b).length≤100000000000→shCode (mk acc) b=some (mk (acc++codeL b))
  | [],acc,_,_=>by simp [shCode,codeL]
  | x::b,acc,h,hl=>by
    have hx:=h x (by simp)
    have e:mk acc++lineS (mk (insL x))=mk (acc++([32,32]++insL x++[10])):=by
      unfold lineS
      rw [show (⟨#[32,32]⟩:ByteArray)=mk [32,32] from rfl,show (⟨#[10]⟩:ByteArray)=mk [10] from rfl,mk_append,mk_append,mk_append]
    have e2:codeL (x::b)=([32,32]++insL x++[10])++codeL b:=by unfold codeL;rw [List.flatMap_cons]
    rw [e2,List.length_append] at hl
    have h3:([32,32]++insL x++[10]:List UInt8).length=(insL x).length+3:=by simp
    simp only [shCode]
    rw [insS_c hx,Option.bind_some,if_pos (by rw [mk_size,mk_size];omega),e,shCode_c b _ (fun y hy=>h y (by simp [hy])) (by rw [List.length_append];omega),e2,List.append_assoc]
theorem shBlocks_c:∀ (bs:List (List (S39))) (k:Int) (acc:List UInt8),0≤k→k+bs.length≤1000000→(∀ b∈bs,TellB b)→acc.length+(blocksL k bs).length≤100000000000→shBlocks (mk acc) k bs=some (mk (acc++blocksL k bs))
  | [],_,acc,_,_,_,_=>by simp [shBlocks,blocksL]
  | b::bs,k,acc,h0,h1,h,hl=>by
    have hb:=h b (by simp)
    have h4:=digs_len k (by omega) (by simp at h1;omega)
    have e:mk acc++(mk (labL k)++(⟨#[58,10]⟩:ByteArray))=mk (acc++(labL k++[58,10])):=by
      rw [show (⟨#[58,10]⟩:ByteArray)=mk [58,10] from rfl,mk_append,mk_append]
    simp only [blocksL] at hl ⊢
    simp only [List.length_append,List.length_cons,List.length_nil] at hl
    simp only [shBlocks]
    rw [label_c k (by omega) (by simp at h1;omega),Option.bind_some]
    rw [if_pos (by rw [mk_size,mk_size];simp only [labL,List.length_cons] at hl ⊢;omega)]
    rw [show mk (98::digs k)=mk (labL k) from rfl,e,shCode_c b _ hb.2 (by simp only [List.length_append,List.length_cons,List.length_nil];omega),Option.bind_some,shBlocks_c bs (k+1) _ (by omega) (by simp at h1;omega) (fun y hy=>h y (by simp [hy])) (by simp only [List.length_append,List.length_cons,List.length_nil];omega)]
    simp
theorem letters_c (l:List Int) (hl:l.length≤150):show_line.f (lettersW l)=some (mk (parL l)):=by
  cases l with
  | nil=>
    show show_line.f []=_
    unfold show_line.f strings_Join.f
    rw [if_pos (by decide+kernel)]
    rfl
  | cons a l=>
    have h1:=letterL_len a
    have h2:=glue_letters l
    have e:lettersW (a::l)=(letterL a::l.map letterL).map mk:=by simp [lettersW]
    rw [e,line_c _ _ (by simp at hl ⊢;omega) (by simp at hl ⊢;omega)]
    rfl
theorem funcS_c {f:S34} (h:TellF f):funcS f=some (mk (funcL f)):=by
  have hh:=headF_len h
  have hp:=par_len f.f1
  have h1:=h.1
  have h2:=h.2.1
  have h3:=h.2.2.1
  have hl:=func_len h
  unfold funcS show_Func.f
  have hp2:(mk (parL f.f1)).size=(parL f.f1).length:=mk_size _
  rw [if_pos (by omega),letters_c f.f1 h.2.1,Option.bind_some,if_pos (by omega)]
  have e:funcH f.f0 (mk (parL f.f1)) (mk (letterL f.f2))=mk (headFL f.f0.data.toList f.f1 f.f2):=by
    unfold funcH headFL
    conv=>lhs;rw [mk_data f.f0]
    rw [show (⟨#[102,117,110,99,32]⟩:ByteArray)=mk [102,117,110,99,32] from rfl,show (⟨#[40]⟩:ByteArray)=mk [40] from rfl,show (⟨#[41,32]⟩:ByteArray)=mk [41,32] from rfl,show (⟨#[32,123,10]⟩:ByteArray)=mk [32,123,10] from rfl]
    simp only [mk_append]
  have hfl:(funcL f).length=(headFL f.f0.data.toList f.f1 f.f2).length+(blocksL 0 f.f3).length+2:=by unfold funcL;simp only [List.length_append,List.length_cons,List.length_nil]
  rw [e,shBlocks_c f.f3 0 _ (Int.le_refl _) (by omega) h.2.2.2 (by omega),Option.bind_some,if_pos (by rw [mk_size,List.length_append];omega)]
  rw [show (⟨#[125,10]⟩:ByteArray)=mk [125,10] from rfl,mk_append]
  rfl
theorem shText_c:∀ (fs:List (S34)) (acc:List UInt8),(∀ f∈fs,TellF f)→acc.length+(textL fs).length≤100000000000000→shText (mk acc) fs=some (mk (acc++textL fs))
  | [],acc,_,_=>by simp [shText,textL]
  | f::fs,acc,h,hl=>by
    have hx:=h f (by simp)
    have e2:textL (f::fs)=funcL f++textL fs:=by unfold textL;rw [List.flatMap_cons]
    rw [e2,List.length_append] at hl
    simp only [shText]
    rw [funcS_c hx,Option.bind_some,if_pos (by rw [mk_size,mk_size];omega),mk_append,shText_c fs _ (fun y hy=>h y (by simp [hy])) (by rw [List.length_append];omega),e2,List.append_assoc]
theorem text_c (fs:List (S34)) (hl:fs.length≤150) (h:∀ f∈fs,TellF f):show_Text.f fs=some (mk (textL fs)):=by
  have:=text_len fs h
  have e:=shText_c fs [] h (by simp;omega)
  rw [List.nil_append] at e
  exact e
theorem rins_ev {x:S39} (h:TellI x):Ev (fun k=>r07_Instr.f k x.f0 x.f1 x.f2 x.f3 x.f4 x.f5 x.f6 x.f7) (mk (insL x)):=rinstr_ev _ _ _ _ _ _ _ _ h.1 h.2.1
section
variable (nm : ByteArray) (l1 : List Int) (ty : Int) (bs : List (List (S39))) (at_ : Int)
theorem rf_l2 (j:Int) (hj0:0≤j) (hj1:j<(bs.length:Int)) (hl:bs.length≤150) (hb:TellB (rd_L4 bs j)) (R:ByteArray):∀ (m:Nat) (x:Int) (acc:List UInt8),0≤x→x≤((rd_L4 bs j).length:Int)→(rd_L4 bs j).length - x.toNat=m→acc.length+(codeL ((rd_L4 bs j).drop x.toNat)).length≤100000000000→
    Ev (fun k=>r07_Func.l1 k (mk (acc++codeL ((rd_L4 bs j).drop x.toNat))) (j+1) nm l1 ty bs at_) R→Ev (fun k=>r07_Func.l2 k (mk acc) j x nm l1 ty bs at_) R:=by
  generalize hB:rd_L4 bs j=b at *
  have hbl:=hb.1
  intro m
  induction m with
  | zero=>
    intro x acc h0 h1 hm hs hn
    rw [drop_none b x (by omega),show codeL ([]:List (S39))=[] from rfl,List.append_nil] at hn
    refine Ev.step (fun k=>?_) hn
    simp only [r07_Func.l2]
    rw [hB,if_pos hj0,if_pos hj1,if_neg (by omega),w64 (x:=j+1) (by omega) (by omega)]
  | succ m ih=>
    intro x acc h0 h1 hm hs hn
    have hlt:x<(b.length:Int):=by omega
    have hx:=hb.2 _ (mem_rd b z39 x h0 hlt)
    have hrd:rd_T39 b x=b.getD x.toNat z39:=rfl
    rw [drop_cons b x z39 h0 hlt,← hrd] at hs hn
    rw [← hrd] at hx
    have e2:codeL (rd_T39 b x::b.drop (x+1).toNat)=([32,32]++insL (rd_T39 b x)++[10])++codeL (b.drop (x+1).toNat):=by unfold codeL;rw [List.flatMap_cons]
    have h3:([32,32]++insL (rd_T39 b x)++[10]:List UInt8).length=(insL (rd_T39 b x)).length+3:=by simp
    rw [e2] at hs hn
    rw [List.length_append] at hs
    rw [← List.append_assoc] at hn
    have hnext:=ih (x+1) (acc++([32,32]++insL (rd_T39 b x)++[10])) (by omega) (by omega) (by omega) (by rw [List.length_append];omega) hn
    refine Ev.step (f:=fun k=>(r07_Instr.f k (rd_T39 b x).f0 (rd_T39 b x).f1 (rd_T39 b x).f2 (rd_T39 b x).f3 (rd_T39 b x).f4 (rd_T39 b x).f5 (rd_T39 b x).f6 (rd_T39 b x).f7).bind fun t=>if (mk acc++(⟨#[32,32]⟩:ByteArray)).size+t.size≤9223372036854775807 then (if ((mk acc++(⟨#[32,32]⟩:ByteArray))++t).size+1≤9223372036854775807 then r07_Func.l2 k (((mk acc++(⟨#[32,32]⟩:ByteArray))++t)++(⟨#[10]⟩:ByteArray)) j (x+1) nm l1 ty bs at_ else none) else none) (fun k=>?_) ?_
    · simp only [r07_Func.l2]
      rw [hB,if_pos hj0,if_pos hj1,if_pos hlt,if_pos (by rw [mk_size];omega),if_pos h0,w64 (x:=x+1) (by omega) (by omega)]
    · refine Ev.bind (rins_ev hx) ?_
      rw [show (⟨#[32,32]⟩:ByteArray)=mk [32,32] from rfl,show (⟨#[10]⟩:ByteArray)=mk [10] from rfl]
      simp only [mk_append,mk_size,List.length_append,List.length_cons,List.length_nil]
      rw [show acc++[32,32]++insL (rd_T39 b x)++[10]=acc++([32,32]++insL (rd_T39 b x)++[10]) by simp]
      exact ev_pos (by omega) (ev_pos (by omega) hnext)
theorem rf_l1 (hl:bs.length≤150) (hb:∀ b∈bs,TellB b):∀ (m:Nat) (j:Int) (acc:List UInt8),0≤j→j≤(bs.length:Int)→bs.length - j.toNat=m→acc.length+(blocksL j (bs.drop j.toNat)).length≤10000000000→
    Ev (fun k=>r07_Func.l1 k (mk acc) j nm l1 ty bs at_) (mk (acc++blocksL j (bs.drop j.toNat)++[125,10])):=by
  intro m
  induction m with
  | zero=>
    intro j acc h0 h1 hm hs
    rw [drop_none bs j (by omega)] at hs ⊢
    refine Ev.step (f:=fun _=>some (mk (acc++blocksL j []++[125,10]))) (fun k=>?_) (Ev.now _)
    simp only [r07_Func.l1]
    rw [if_neg (by omega),if_pos (by rw [mk_size];omega),show (⟨#[125,10]⟩:ByteArray)=mk [125,10] from rfl,mk_append,show blocksL j ([]:List (List (S39)))=[] from rfl,List.append_nil]
  | succ m ih=>
    intro j acc h0 h1 hm hs
    have hlt:j<(bs.length:Int):=by omega
    have hx:=hb _ (mem_rd bs [] j h0 hlt)
    have hrd:rd_L4 bs j=bs.getD j.toNat []:=rfl
    rw [drop_cons bs j [] h0 hlt,← hrd] at hs ⊢
    rw [← hrd] at hx
    have hd:=digs_len j (by omega) (by omega)
    simp only [blocksL] at hs ⊢
    simp only [List.length_append,labL,List.length_cons,List.length_nil] at hs
    have hnext:=ih (j+1) (acc++([98]++digs j++[58,10])++codeL (rd_L4 bs j)) (by omega) (by omega) (by omega) (by simp only [List.length_append,List.length_cons,List.length_nil];omega)
    have e:acc++([98]++digs j++[58,10])++codeL (rd_L4 bs j)++blocksL (j+1) (bs.drop (j+1).toNat)++[125,10]=acc++(labL j++[58,10]++codeL (rd_L4 bs j)++blocksL (j+1) (bs.drop (j+1).toNat))++[125,10]:=by simp [labL]
    rw [← e]
    have h2:=rf_l2 nm l1 ty bs at_ j h0 hlt hl hx _ _ 0 (acc++([98]++digs j++[58,10])) (by omega) (by omega) rfl (by rw [Int.toNat_zero,List.drop_zero];simp only [List.length_append,List.length_cons,List.length_nil];omega) (by rw [Int.toNat_zero,List.drop_zero];exact hnext)
    refine Ev.step (f:=fun k=>(r07_small.f k j).bind fun t=>if (mk acc++(⟨#[98]⟩:ByteArray)).size+t.size≤9223372036854775807 then (if ((mk acc++(⟨#[98]⟩:ByteArray))++t).size+2≤9223372036854775807 then r07_Func.l2 k (((mk acc++(⟨#[98]⟩:ByteArray))++t)++(⟨#[58,10]⟩:ByteArray)) j 0 nm l1 ty bs at_ else none) else none) (fun k=>?_) ?_
    · simp only [r07_Func.l1]
      rw [if_pos hlt,if_pos (by rw [mk_size];omega)]
    · refine Ev.bind (rsmall_ev j ⟨by omega,by omega⟩) ?_
      rw [show (⟨#[98]⟩:ByteArray)=mk [98] from rfl,show (⟨#[58,10]⟩:ByteArray)=mk [58,10] from rfl]
      simp only [mk_append,mk_size,List.length_append,List.length_cons,List.length_nil]
      rw [show acc++[98]++digs j++[58,10]=acc++([98]++digs j++[58,10]) by simp]
      exact ev_pos (by omega) (ev_pos (by omega) h2)
def parR:Int→List Int→List UInt8
  | _,[]=>[]
  | i,a::l=>(if i>0 then [32] else [])++letterL a++parR (i+1) l
theorem parR_pos:∀ (l:List Int) (i:Int),0<i→parR i l=glue (l.map letterL)
  | [],_,_=>rfl
  | a::l,i,h=>by
    simp only [parR,List.map_cons,glue]
    rw [if_pos h,parR_pos l (i+1) (by omega)]
    simp
theorem parR_eq (l:List Int):parR 0 l=parL l:=by
  cases l with
  | nil=>rfl
  | cons a l=>
    simp only [parR,parL]
    rw [if_neg (by decide),parR_pos l _ (by decide)]
    rfl
theorem rf_l0 (hl:bs.length≤150) (hb:∀ b∈bs,TellB b) (h1l:l1.length≤150):∀ (m:Nat) (i:Int) (acc:List UInt8),0≤i→i≤(l1.length:Int)→l1.length - i.toNat=m→acc.length≤10000+2 * i→
    Ev (fun k=>r07_Func.l0 k (mk acc) i nm l1 ty bs at_) (mk (acc++parR i (l1.drop i.toNat)++([41,32]++letterL ty++[32,123,10])++blocksL 0 bs++[125,10])):=by
  intro m
  induction m with
  | zero=>
    intro i acc h0 h1 hm hs
    rw [drop_none l1 i (by omega)]
    have ht:=letterL_len ty
    have hbl:=blocks_len bs 0 (Int.le_refl _) (by omega) hb
    have hn:=rf_l1 nm l1 ty bs at_ hl hb _ 0 (acc++([41,32]++letterL ty++[32,123,10])) (by omega) (by omega) rfl (by rw [Int.toNat_zero,List.drop_zero];simp only [List.length_append,List.length_cons,List.length_nil];omega)
    rw [Int.toNat_zero,List.drop_zero] at hn
    refine Ev.step (f:=fun k=>r07_Func.l1 k (mk (acc++([41,32]++letterL ty++[32,123,10]))) 0 nm l1 ty bs at_) (fun k=>?_) (by rw [show parR i []=[] from rfl,List.append_nil];exact hn)
    simp only [r07_Func.l0]
    rw [if_neg (by omega),if_pos (by rw [mk_size];omega),rletter_c,Option.bind_some,show (⟨#[41,32]⟩:ByteArray)=mk [41,32] from rfl,show (⟨#[32,123,10]⟩:ByteArray)=mk [32,123,10] from rfl]
    simp only [mk_append,mk_size,List.length_append,List.length_cons,List.length_nil]
    rw [if_pos (by omega),if_pos (by omega)]
    simp
  | succ m ih=>
    intro i acc h0 h1 hm hs
    have hlt:i<(l1.length:Int):=by omega
    have ht:=letterL_len (rd l1 i)
    have hrd:rd l1 i=l1.getD i.toNat 0:=rfl
    rw [drop_cons l1 i 0 h0 hlt,← hrd]
    simp only [parR]
    by_cases c:i>0
    · have hn:=ih (i+1) (acc++([32]++letterL (rd l1 i))) (by omega) (by omega) (by omega) (by simp only [List.length_append,List.length_cons,List.length_nil];omega)
      rw [if_pos c,show acc++([32]++letterL (rd l1 i)++parR (i+1) (l1.drop (i+1).toNat))=acc++([32]++letterL (rd l1 i))++parR (i+1) (l1.drop (i+1).toNat) by simp]
      refine Ev.step (fun k=>?_) hn
      simp only [r07_Func.l0]
      rw [if_pos hlt,if_pos c,if_pos (by rw [mk_size];omega),if_pos h0,rletter_c,Option.bind_some,show (⟨#[32]⟩:ByteArray)=mk [32] from rfl,w64 (x:=i+1) (by omega) (by omega)]
      simp only [mk_append,mk_size,List.length_append,List.length_cons,List.length_nil]
      rw [if_pos (by omega)]
      simp
    · have hn:=ih (i+1) (acc++letterL (rd l1 i)) (by omega) (by omega) (by omega) (by rw [List.length_append];omega)
      rw [if_neg c,List.nil_append,← List.append_assoc acc]
      refine Ev.step (fun k=>?_) hn
      simp only [r07_Func.l0]
      rw [if_pos hlt,if_neg c,if_pos h0,rletter_c,Option.bind_some,w64 (x:=i+1) (by omega) (by omega)]
      simp only [mk_append,mk_size]
      rw [if_pos (by omega)]
end
theorem rfunc_ev {f:S34} (h:TellF f):Ev (fun k=>r07_Func.f k f.f0 f.f1 f.f2 f.f3 f.f4) (mk (funcL f)):=by
  have hsz:=size_data f.f0
  have h1:=h.1
  have e:(((⟨#[102,117,110,99,32]⟩:ByteArray)++f.f0)++(⟨#[40]⟩:ByteArray))=mk ([102,117,110,99,32]++f.f0.data.toList++[40]):=by
    conv=>lhs;rw [mk_data f.f0]
    rw [show (⟨#[102,117,110,99,32]⟩:ByteArray)=mk [102,117,110,99,32] from rfl,show (⟨#[40]⟩:ByteArray)=mk [40] from rfl]
    simp only [mk_append]
  have e2:((⟨#[102,117,110,99,32]⟩:ByteArray)++f.f0).size=5+f.f0.size:=by
    rw [ByteArray.size_append];rfl
  have hn:=rf_l0 f.f0 f.f1 f.f2 f.f3 f.f4 h.2.2.1 h.2.2.2 h.2.1 _ 0 ([102,117,110,99,32]++f.f0.data.toList++[40]) (by omega) (by omega) rfl (by simp only [List.length_append,List.length_cons,List.length_nil];omega)
  rw [Int.toNat_zero,List.drop_zero,parR_eq] at hn
  unfold r07_Func.f
  refine ev_pos (by omega) (ev_pos (by omega) ?_)
  rw [e]
  have e3:[102,117,110,99,32]++f.f0.data.toList++[40]++parL f.f1++([41,32]++letterL f.f2++[32,123,10])++blocksL 0 f.f3++[125,10]=funcL f:=by
    unfold funcL headFL
    simp
  rw [e3] at hn
  exact hn
theorem rtext_l0 (fs:List (S34)) (hl:fs.length≤150) (h:∀ f∈fs,TellF f):∀ (m:Nat) (i:Int) (acc:List UInt8),0≤i→i≤(fs.length:Int)→fs.length - i.toNat=m→acc.length+(textL (fs.drop i.toNat)).length≤100000000000000→
    Ev (fun k=>r07_Text.l0 k (mk acc) i fs) (mk (acc++textL (fs.drop i.toNat))):=by
  intro m
  induction m with
  | zero=>
    intro i acc h0 h1 hm hs
    rw [drop_none fs i (by omega),show textL ([]:List (S34))=[] from rfl,List.append_nil]
    refine Ev.step (f:=fun _=>some (mk acc)) (fun k=>?_) (Ev.now _)
    simp only [r07_Text.l0]
    rw [if_neg (by omega)]
  | succ m ih=>
    intro i acc h0 h1 hm hs
    have hlt:i<(fs.length:Int):=by omega
    have hx:=h _ (mem_rd fs z34 i h0 hlt)
    have hrd:rd_T34 fs i=fs.getD i.toNat z34:=rfl
    rw [drop_cons fs i z34 h0 hlt,← hrd] at hs ⊢
    rw [← hrd] at hx
    have e2:textL (rd_T34 fs i::fs.drop (i+1).toNat)=funcL (rd_T34 fs i)++textL (fs.drop (i+1).toNat):=by unfold textL;rw [List.flatMap_cons]
    rw [e2] at hs ⊢
    rw [List.length_append] at hs
    have hn:=ih (i+1) (acc++funcL (rd_T34 fs i)) (by omega) (by omega) (by omega) (by rw [List.length_append];omega)
    rw [← List.append_assoc]
    refine Ev.step (f:=fun k=>(r07_Func.f k (rd_T34 fs i).f0 (rd_T34 fs i).f1 (rd_T34 fs i).f2 (rd_T34 fs i).f3 (rd_T34 fs i).f4).bind fun t=>if (mk acc).size+t.size≤9223372036854775807 then r07_Text.l0 k (mk acc++t) (i+1) fs else none) (fun k=>?_) ?_
    · simp only [r07_Text.l0]
      rw [if_pos hlt,if_pos h0,w64 (x:=i+1) (by omega) (by omega)]
    · refine Ev.bind (rfunc_ev hx) ?_
      rw [mk_append]
      exact ev_pos (by rw [mk_size,mk_size];omega) hn
theorem rtext_ev (fs:List (S34)) (hl:fs.length≤150) (h:∀ f∈fs,TellF f):Ev (fun k=>r07_Text.f k fs) (mk (textL fs)):=by
  have:=text_len fs h
  have e:=rtext_l0 fs hl h _ 0 [] (by omega) (by omega) rfl (by rw [Int.toNat_zero,List.drop_zero];simp;omega)
  rw [Int.toNat_zero,List.drop_zero,List.nil_append] at e
  exact e
end Go.Proofs.Ytkjdblbgmomieaa.PSh
end
section
namespace Go.Proofs.Ytkjdblbgmomieaa.PSh
open Go.RowKit Go.Proofs.YtkjdblbgmomieaaW.PrintWords Go.Proofs.YtkjdblbgmomieaaW.PrintLast Go.Proofs.YtkjdblbgmomieaaW.PrintMore Go.Proofs.Ytkjdblbgmomieaa.Str Go.Proofs.Ytkjdblbgmomieaa.Dig
set_option linter.unusedVariables false
set_option linter.unusedSimpArgs false
theorem idsC_zero {l:List Int} {c:Int} (h:idsC l c=0):(∀ a∈l,idOk a=true)∧c=0:=by
  unfold idsC at h
  by_cases q:l.all idOk=true
  · rw [if_pos q] at h;exact ⟨List.all_eq_true.1 q,h⟩
  · rw [if_neg q] at h;cases h
theorem labsC_zero {l:List Int} {c:Int} (h:labsC l c=0):∀ a∈l,labOk a=true:=by
  unfold labsC at h
  by_cases q:l.all labOk=true
  · exact List.all_eq_true.1 q
  · rw [if_neg q] at h;cases h
theorem tells_of {op id n ty:Int} {l4 l5:List Int} {nm:ByteArray} (h:chkC op id n ty l4 l5 nm=0) (hn:n64 n) (h4:l4.length≤603) (h5:l5.length≤603) (hs:nm.size≤4529):Tells op n l4 l5 nm:=by
  unfold chkC at h
  by_cases c1:preWord op ty=true
  · rw [if_pos c1] at h;cases h
  rw [if_neg c1] at h
  by_cases c2:preValue op id ty=true
  · rw [if_pos c2] at h;cases h
  rw [if_neg c2] at h
  by_cases c3:preArgs op (l4.length:Int) (l5.length:Int)=true
  · rw [if_pos c3] at h;cases h
  rw [if_neg c3] at h
  by_cases c4:preNum op n=true
  · rw [if_pos c4] at h;cases h
  rw [if_neg c4] at h
  obtain ⟨i4,hc⟩:=idsC_zero h
  have i5:=labsC_zero hc
  have c3:=Bool.eq_false_iff.mpr c3
  simp only [preArgs,Bool.or_eq_false_iff,bne_eq_false_iff_eq] at c3
  refine ⟨hn,by omega,by omega,by omega,fun v hv=>?_,fun v hv=>?_,fun g=>?_,fun g=>?_⟩
  · have:=i4 v hv
    simp only [idOk,Bool.and_eq_true,decide_eq_true_eq] at this
    exact ⟨by omega,by omega⟩
  · have:=i5 v hv
    simp only [labOk,Bool.and_eq_true,decide_eq_true_eq] at this
    exact ⟨by omega,by omega⟩
  · rintro rfl
    have g:op=11∨op=12∨op=15∨op=24∨op=13∨op=14:=by simpa [isOne,or_assoc] using g
    have:=c3.1
    rcases g with rfl | rfl | rfl | rfl | rfl | rfl<;>simp [argsC,ownArgs,argsB] at this<;>exact absurd this (by decide+kernel)
  · subst g
    have e1:=c3.1
    have e2:=c3.2
    simp [argsC,ownArgs,argsB,toC] at e1 e2
    omega
theorem whI_all:∀ (xs:List (S39)) (n:Int),(whI xs n).1=0→∀ x∈xs,chkI x=0
  | [],_,_,_,h=>by cases h
  | x::xs,n,h,y,hy=>by
    simp only [whI] at h
    by_cases c:4096<n+1
    · rw [if_pos c] at h;cases h
    · rw [if_neg c] at h
      by_cases c2:chkI x=0
      · rw [if_pos c2] at h
        rcases List.mem_cons.1 hy with rfl | hy
        · exact c2
        · exact whI_all xs _ h y hy
      · rw [if_neg c2] at h;exact absurd h c2
theorem whB_all:∀ (bs:List (List (S39))) (n:Int),(whB bs n).1=0→∀ b∈bs,∀ x∈b,chkI x=0
  | [],_,_,_,h=>by cases h
  | b::bs,n,h,y,hy=>by
    simp only [whB] at h
    by_cases c:(whI b n).1=0
    · rw [if_pos c] at h
      rcases List.mem_cons.1 hy with rfl | hy
      · exact whI_all _ _ c
      · exact whB_all bs _ h y hy
    · rw [if_neg c] at h;exact absurd h c
theorem whF_all:∀ (fs:List (S34)) (i n:Int),(whF fs i n).1=0→∀ f∈fs,∀ b∈f.f3,∀ x∈b,chkI x=0
  | [],_,_,_,_,h=>by cases h
  | f::fs,i,n,h,y,hy=>by
    simp only [whF] at h
    by_cases c:headC f i=0
    · rw [if_pos c] at h
      by_cases c2:(whB f.f3 n).1=0
      · rw [if_pos c2] at h
        rcases List.mem_cons.1 hy with rfl | hy
        · exact whB_all _ _ c2
        · exact whF_all fs _ _ h y hy
      · rw [if_neg c2] at h;exact absurd h c2
    · rw [if_neg c] at h;exact absurd h c
theorem tellF_of {f:S34} (ho:okF f) (hs:smallF f) (hid:∀ b∈f.f3,∀ x∈b,n64 x.f1) (hc:∀ b∈f.f3,∀ x∈b,chkI x=0):TellF f:=
  ⟨hs.1,hs.2.1,hs.2.2.1,fun b hb=>⟨(hs.2.2.2 b hb).1,fun x hx=>by
    have o:=(ho.2.2.2 b hb).2 x hx
    have s:=(hs.2.2.2 b hb).2 x hx
    exact ⟨hid b hb x hx,tells_of (hc b hb x hx) o.1 s.1 s.2.1 s.2.2,s⟩⟩⟩
end Go.Proofs.Ytkjdblbgmomieaa.PSh
end
section
namespace Go.Proofs.Ytkjdblbgmomieaa.Pure
open Go.RowKit Go.Proofs.Ytkjdblbgmomieaa.PSh Go.Proofs.Ytkjdblbgmomieaa.ShowWritesSaid Go.Proofs.YtkjdblbgmomieaaW.PrintWords Go.Proofs.YtkjdblbgmomieaaW.PrintLast Go.Proofs.Ytkjdblbgmomieaa.Str
set_option linter.unusedVariables false
theorem lit_i64 {a:Int} (h:(Lit.int .i64 a).wf=true):-9223372036854775808≤a∧a≤9223372036854775807:=by
  simpa [Lit.wf,IntKind.min,IntKind.max,IntKind.signed,IntKind.bits] using h
theorem okI_of {x:S39} (h:good39 x):okI x∧fitI x∧n64 x.f1:=by
  obtain ⟨h0,h1,h2,h3,h4,h5,h6,h7⟩:=h
  have e:=lit_i64 h2
  exact ⟨⟨e,by omega,by omega,by omega⟩,⟨by omega,by omega,by omega⟩,lit_i64 h1⟩
theorem okF_of {f:S34} (h:good34 f):okF f∧fitF f∧∀ b∈f.f3,∀ x∈b,n64 x.f1:=by
  obtain ⟨h0,h1,h2,h3,h4⟩:=h
  exact ⟨⟨by omega,by omega,by omega,fun b hb=>⟨by have:=(h3.2 b hb).1;omega,fun x hx=>(okI_of ((h3.2 b hb).2 x hx)).1⟩⟩,⟨h0,by omega,by omega,fun b hb x hx=>(okI_of ((h3.2 b hb).2 x hx)).2.1⟩,fun b hb x hx=>(okI_of ((h3.2 b hb).2 x hx)).2.2⟩
theorem all_late {α:Type} {Q:Nat→α→Prop}:∀ l:List α,(∀ x∈l,∃ K,∀ k,K≤k→Q k x)→∃ K,∀ k,K≤k→∀ x∈l,Q k x
  | [],_=>⟨0,fun _ _ _ h=>by cases h⟩
  | x::l,h=>by
    obtain ⟨K,hK⟩:=h x (by simp)
    obtain ⟨L,hL⟩:=all_late l (fun y hy=>h y (by simp [hy]))
    refine ⟨max K L,fun k hk y hy=>?_⟩
    rcases List.mem_cons.1 hy with rfl | hy
    · exact hK k (by omega)
    · exact hL k (by omega) y hy
theorem ins_late {x:S39} (h:TellI x):∃ K,∀ k,K≤k→∃ s,instS x=some s∧rinstS k x=some s:=by
  obtain ⟨K,hK⟩:=rins_ev h
  exact ⟨K,fun k hk=>⟨_,insS_c h,hK k hk⟩⟩
theorem func_late {f:S34} (h:TellF f):∃ K,∀ k,K≤k→tellF k f=true:=by
  obtain ⟨K,hK⟩:=rfunc_ev h
  obtain ⟨L,hL⟩:=all_late (Q:=fun k b=>∀ x∈b,∃ s,instS x=some s∧rinstS k x=some s) f.f3 (fun b hb=>all_late b fun x hx=>ins_late ((h.2.2.2 b hb).2 x hx))
  exact ⟨max K L,fun k hk=>tellF_iff.2 ⟨⟨_,funcS_c h,hK k (by omega)⟩,hL k (by omega)⟩⟩
theorem text_late (fs:List (S34)) (hl:fs.length≤150) (h:∀ f∈fs,TellF f):∃ K,∀ k,K≤k→tellP k fs=true:=by
  obtain ⟨K,hK⟩:=rtext_ev fs hl h
  obtain ⟨L,hL⟩:=all_late (Q:=fun k f=>tellF k f=true) fs (fun f hf=>func_late (h f hf))
  exact ⟨max K L,fun k hk=>tellP_iff.2 ⟨⟨_,text_c fs hl h,hK k (by omega)⟩,hL k (by omega)⟩⟩
theorem ShowWrites:ShowWrites.Good:=by
  intro p hp
  have op:okP p.f0:=⟨by have:=hp.1;omega,fun f hf=>(okF_of (hp.2 f hf)).1⟩
  obtain ⟨b,hb,hsm⟩:=light_small p.f0 op (fun f hf=>(okF_of (hp.2 f hf)).2.1) (by have:=hp.1;omega)
  refine Ev.rounds (r:=true) ?_
  unfold l07_ShowWrites.f
  refine Ev.bind hb ?_
  refine ev_if (fun c=>Ev.now _) (fun c=>?_)
  obtain ⟨hl,hs⟩:=hsm (by simpa using c)
  refine Ev.bind (rwhole_ev p.f0 op) ?_
  refine ev_if (fun c2=>?_) (fun c2=>Ev.now _)
  have hall:=whF_all p.f0 0 0 c2
  have ht:∀ f∈p.f0,TellF f:=fun f hf=>tellF_of (op.2 f hf) (hs f hf) (okF_of (hp.2 f hf)).2.2 (hall f hf)
  obtain ⟨K,hK⟩:=text_late p.f0 hl ht
  exact ⟨K,fun k hk=>if_pos (hK k hk)⟩
end Go.Proofs.Ytkjdblbgmomieaa.Pure
end
section
namespace Go.Proofs.Ytkjdblbgmomieaa.showWrites
set_option maxHeartbeats 4000000
set_option maxRecDepth 100000
open Go.ChangeShapes Go.WideShapes Go.ChangeAt Go.RowKit
open Go.ChangeMaps (open_string shut_string)
open Go.Proofs.Ytkjdblbgmomieaa.PSh Go.Proofs.Ytkjdblbgmomieaa.Open Go.Proofs.Ytkjdblbgmomieaa.ShowWritesSaid
set_option linter.unusedVariables false
theorem own:ownKnob Try.prog.godebug=none:=by kernel_rfl
theorem laidOut:laidOutB Try.prog=true:=by kernel_rfl
theorem lifted (os:Os) (started:os.Started) (H:Type) (enc:TypeId × Value→H):
    ReturnsInHanded {} Try.checked os 3 .any (Rows.showWritesSpec.pre6 enc Try.prog Try.f3 Rows.showWritesRow.domain false) (Rows.showWritesSpec.post enc Try.prog Try.f3 false true false false):=by
  refine returnsInHanded_of_change_sized (C:=Try.checked) own started (by kernel_rfl) Try.func3
    (ChangeSpec.witness6 (enc:=enc) (C:=Try.checked) false ⟨#[],#[(.agg #[(.slice none 0 0)])],[]⟩ 8 (by kernel_rfl) (by kernel_rfl) (by kernel_rfl) (by kernel_rfl)) ?_
  intro W base args ds gs before hval0 hW hcnd hsz0 _
  have hsz:(DataW.weightsEach Try.prog (Try.f3.params.toList++Rows.showWritesSpec.plain.varTypes Try.prog) (ds++gs)).all (·≤reachBytes)=true:=hsz0
  have hval:∀ (j:Nat) t v,Try.f3.params[j]?=some t→args[j]?=some v→Value.okWide Try.prog W .any base t v:=hval0
  have hW':=hW
  obtain ⟨p,q,hA0,hV,rfl,hfz,hnd⟩:=hW
  have hA:DataW.TrodAll enc Try.prog W 0 (fun _=>true) true Try.f3.params.toList args.toList ds p:=hA0
  rw [Try.params3] at hA hval hsz
  obtain ⟨v0,vs0,d0,ds0,p0,q0,hargs,rfl,rfl,h0,r0⟩:=trodAll_cons hA
  obtain ⟨rfl,rfl,rfl⟩:=trodAll_nil r0
  obtain rfl:args=#[v0]:=by cases args;simp_all
  obtain ⟨rfl,rfl⟩:=trodVars_none hV
  have k0:=h0
  have lt0:∀ x∈p0,x.block<W.heap.size:=by obtain ⟨m,hm⟩:=k0;exact DataW.trod_lt m _ _ _ hm
  have wt0:∀ n∈d0.weights Try.prog 24,n≤reachBytes:=fun n hn=>by simpa using List.all_eq_true.1 hsz n (DataW.weights_mem_each (j:=0) (t:=24) rfl rfl n hn)
  obtain ⟨fuel0,hf0⟩:=h0
  obtain ⟨a0,K0,y0⟩:=open24 enc W fuel0 _ _ hf0 wt0
  obtain ⟨cs0,rfl,_⟩:=okWide_struct Try.underlying24 (hval 0 24 v0 rfl rfl)
  obtain ⟨A0_0,c0_0,e0,l0_0,C0_0⟩:=k24_open (show k24.K W a0 cs0.toList from K0)
  have ea0:cs0=_:=(@Array.toArray_toList _ cs0).symm.trans (congrArg List.toArray e0)
  subst ea0
  clear hA0 hval0 hsz0 hsz
  obtain ⟨k,hk⟩:=Pure.ShowWrites a0 y0
  refine (l07_ShowWrites.calls k _ _ a0.f0 true W C0_0 l0_0 hk).mono ?_
  rintro e W' ⟨rfl,hd_⟩
  have bel:Below W.heap.size W W':=hd_
  exact ⟨_,rfl,_,_,_,[],_,[],hW',trodAll_mk1 (shut_bool Try.underlying4 _),(trodAll_cons_mk (Below.trod laidOut (by kernel_rfl) (of_decide_eq_true (by kernel_rfl)) k0 bel lt0) trodAll_mk0),rfl,bel.frame _,fun h=>by cases h⟩
theorem over:Rows.showWritesRow.holds Try.pinned (OpenSpec.ofChange Rows.showWritesSpec):=
  OpenClaim.holds_of_wide 3 Try.f3 rfl rfl rfl rfl rfl rfl rfl ⟨rfl,rfl,rfl,rfl,rfl⟩ rfl rfl rfl rfl rfl (by kernel_rfl) Try.func3 (by kernel_rfl)
    (of_decide_eq_true (by kernel_rfl)) (by unfold Func.isWrapper;first | (rw [if_pos (by decide+kernel)];kernel_rfl) | (rw [if_neg (by decide+kernel)];exact ⟨rfl,rfl⟩))
    (fun os started H enc _=>lifted os started H enc)
theorem proved:Rows.ShowWritesSaid:=over
#print axioms proved
end Go.Proofs.Ytkjdblbgmomieaa.showWrites
namespace Go.Proofs.Ytkjdblbgmomieaa
theorem showWrites_holds:Rows.ShowWritesSaid:=showWrites.proved
end Go.Proofs.Ytkjdblbgmomieaa
end
