/- A part of the proof of the laws of this seat. -/
import Derived.Test.YtgcemienebmdeaaGreatDoorP0
import Derived.Test.YtgcemienebmdeaaGreatDoorP1
import Derived.Deep.Slices
import Derived.Lib.SmallJoins
import Derived.SizedLaws
import Derived.Conc.Holds
import Derived.Leaving
import Derived.SevenTiedAt
import Derived.Test.YtgcemienebmdeaaGreatDoorP4
import Derived.Test.YtgcemienebmdeaaGreatDoorP2
import Derived.Lay
import Derived.Lib.LaidU8
import Derived.HandedShaped
import Derived.Shelf.Vars
import Derived.ChangeMaps5
set_option linter.unusedVariables false
set_option linter.unusedSimpArgs false
namespace Go.Sl
open Go Go.ChangeShapes Go.WideShapes Go.Deep Go.Sh
section
variable {H:Type} {enc:TypeId × Value→H} {P:Program} {W:World}
def Light (P:Program) (t:TypeId) (d:DataW H):Prop:=∀ n∈d.weights P t,n≤reachBytes
theorem light_arg {ts:List TypeId} {ds:List (DataW H)} (h:(DataW.weightsEach P ts ds).all (·≤reachBytes)=true) {j:Nat} {t:TypeId} {d:DataW H} (ht:ts[j]?=some t) (hd:ds[j]?=some d):Light P t d:=fun n hn=>by
  have:=List.all_eq_true.1 h _ (DataW.weights_mem_each ht hd n hn)
  simpa using this
theorem light_all {e:TypeId}:∀ {l:List (DataW H)} {d:DataW H},d∈l→∀ n∈d.weights P e,n∈DataW.weightsAll P e l:=by
  intro l
  induction l with
  | nil=>intro d h;simp at h
  | cons x r ih=>
    intro d h n hn;simp only [DataW.weightsAll,List.mem_append];rcases List.mem_cons.1 h with rfl | h
    · exact .inl hn
    · exact .inr (ih h n hn)
theorem light_elem {t e:TypeId} {elems sp:List (DataW H)} (ht:P.underlying t=some (.slice e)) (h:Light P t (.slice elems sp)):(elems.length+sp.length)*P.bytesOf e≤reachBytes∧(∀ d∈elems,Light P e d)∧∀ d∈sp,Light P e d:=by
  have e1:(DataW.slice elems sp).weights P t=(elems.length+sp.length)*P.bytesOf e::(DataW.weightsAll P e elems++DataW.weightsAll P e sp):=by simp [DataW.weights,ht]
  refine ⟨h _ (by rw [e1];exact List.mem_cons_self),fun d hd n hn=>h n ?_,fun d hd n hn=>h n ?_⟩
  · rw [e1];exact List.mem_cons_of_mem _ (List.mem_append_left _ (light_all hd n hn))
  · rw [e1];exact List.mem_cons_of_mem _ (List.mem_append_right _ (light_all hd n hn))
theorem addr_plain' {w:World} {a:Addr} {i:Nat} {v:Value} (hi:i=0) (h:w.cell? (a.add i)=some v):a=⟨a.block,a.off,none⟩:=by
  subst hi;have:=(JM h).1;cases a with
  | mk b o s=>
    unfold Addr.add at this;simp only [if_true] at this;subst this;rfl
theorem sl_of {α : Type} [Inhabited α] {sz : Nat} {cell : α → Nat → Value} {dflt : α} {Q : α → Prop} {t e : TypeId} {fuel : Nat} {v : Value} {d : DataW H} {p : List MemPlace} (ht : P.underlying t = some (.slice e)) (hc : P.cellsOf e = sz) (hs : 0 < sz) (hb : 0 < P.bytesOf e)
    (h:DataW.trod enc P W 0 (fun _=>true) true fuel t [v]=some (d,p)) (hl:Light P t d)
    (el:∀ n cs d p,cs.length=sz→DataW.trod enc P W 0 (fun _=>true) true n e cs=some (d,p)→Light P e d→∃ a:α,Q a∧∀ f,f<sz→cs[f]?=some (cell a f)):∃ xs:List α,IsSl sz cell dflt (QA W) v xs∧∀ x∈xs,Q x:=by
  rcases open_slice ht h with ⟨hcs,_⟩ | ⟨a,len,cap,m,n,D,Pl,hcs,_,hle,hm,hmm,hx,hel⟩
  · obtain rfl:=List.head_eq_of_cons_eq hcs
    exact ⟨[],IsSl.nil _,fun x hx=>by simp at hx⟩
  · obtain rfl:=List.head_eq_of_cons_eq hcs
    simp only [if_true] at hmm;subst hmm;simp only [Prod.mk.injEq] at hx;obtain ⟨rfl,rfl⟩:=hx;obtain ⟨l1,l2,l3⟩:=light_elem ht hl;simp only [List.length_map,List.length_range] at l1;have hr:len≤140737488355328:=by
      have:len*1≤(len+(m-len))*P.bytesOf e:=Nat.mul_le_mul (by omega) hb;simp only [reachBytes] at l1;omega
    have each:∀ i,i<len→∃ x:α,Q x∧∀ f,f<sz→W.cell? (a.add (i*sz+f))=some (cell x f):=fun i hi=>by
      obtain ⟨cs,h1,h2⟩:=hel i (by omega);rw [hc] at h1;obtain ⟨_,hlen,hcell⟩:=World.cells?_some h1;obtain ⟨x,hq,hxf⟩:=el n cs _ _ hlen h2 (l2 _ (List.mem_map.2 ⟨i,by simp [hi],rfl⟩));refine ⟨x,hq,fun f hf=>?_⟩;rw [← add_add,hcell f hf,hxf f hf]
    obtain ⟨g,hg⟩:=choose_lt each;refine ⟨(List.range len).map g,⟨some a,m,a.block,a.off,by simp,by simpa using hle,by simpa using hr,⟨fun h0=>?_,fun i hi f hf=>?_⟩⟩,fun x hx=>?_⟩
    · simp only [List.length_map,List.length_range] at h0
      exact congrArg some (addr_plain' (by simp) ((hg 0 h0).2 0 hs))
    · simp only [List.length_map,List.length_range] at hi
      have hcell:=(hg i hi).2 f hf;have e0:=addr_plain' (by simp) ((hg 0 (by omega)).2 0 hs);obtain ⟨h1,cs,T,fz,hb',hv⟩:=JM hcell;have e1:a.add (i*sz+f)=⟨a.block,a.off+(i*sz+f),none⟩:=by rw [e0];exact FP _ _ _
      rw [e1] at hb' hv;have e2:((List.range len).map g).getD i dflt=g i:=by simp [List.getD,hi]
      simp only [e2];exact ⟨rfl,cs,T,fz,hb',by rw [Nat.add_assoc];exact hv⟩
    · obtain ⟨i,hi,rfl⟩:=List.mem_map.1 hx
      exact (hg i (List.mem_range.1 hi)).1
theorem ints_of {t e : TypeId} {fuel : Nat} {v : Value} {d : DataW H} {p : List MemPlace} (ht : P.underlying t = some (.slice e)) (he : P.underlying e = some (.int .i64)) (hc : P.cellsOf e = 1) (hb : 0 < P.bytesOf e)
    (h:DataW.trod enc P W 0 (fun _=>true) true fuel t [v]=some (d,p)) (hl:Light P t d):∃ xs:List Int,CS (QA W) v xs:=by
  obtain ⟨xs,h1,_⟩:=sl_of (cell:=AN) (dflt:=(0:Int)) (Q:=fun _=>True) ht hc (by decide) hb h hl fun n cs d p hcs hd _=>by
    obtain ⟨z,rfl,_,_⟩:=DataW.trod_int he hd;exact ⟨z,trivial,fun f hf=>(show f=0 by omega)▸rfl⟩
  exact ⟨xs,h1⟩
instance:Inhabited Value:=⟨undef⟩
instance:Inhabited Car:=⟨noCar⟩
instance:Inhabited Shift:=⟨noShift⟩
theorem all_stay (hl : laidOutB P = true) {W' : World} {sp' : Nat → Bool} : ∀ {ts : List TypeId} {vs : List Value} {ds : List (DataW H)} {p : List MemPlace}, (∀ t ∈ ts, P.readableRec t = true ∧ t < P.types.size) → DataW.TrodAll enc P W 0 (fun _ => true) true ts vs ds p →
    (∀ x∈p,W.sameAt W' x)→(∀ x∈p,sp' x.block=true)→DataW.TrodAll enc P W' 0 sp' true ts vs ds p:=by
  intro ts
  induction ts with
  | nil=>intro vs ds p _ h _ _;obtain ⟨rfl,rfl,rfl⟩:=trodAll_nil h;exact rfl
  | cons t ts ih=>
    intro vs ds p hr h h1 h2;obtain ⟨v,vs',d,ds',q,q',rfl,rfl,rfl,g1,g2⟩:=trodAll_cons h
    exact ⟨q,q',WideElems.Trod_stays hl (hr t List.mem_cons_self).1 (hr t List.mem_cons_self).2 g1 (fun x hx=>h1 x (List.mem_append_left _ hx)) (fun x hx=>h2 x (List.mem_append_left _ hx)),
      ih (fun t ht=>hr t (List.mem_cons_of_mem _ ht)) g2 (fun x hx=>h1 x (List.mem_append_right _ hx)) (fun x hx=>h2 x (List.mem_append_right _ hx)),rfl⟩
end
end Go.Sl
namespace Go
open Go.Conc
theorem QC {a:Assume} {C:Checked} {os:Os} {f:FuncId} {r:Reach} {Pre:World→Array Value→Prop} {Post:World→Array Value→Value→World→Prop} (h:ReturnsInHanded a C os f r Pre Post):ReturnsInLeavingWide a C os f r Pre Post:=fun e=>by
  obtain ⟨h1,h2,h3,h4,h5⟩:=h e
  exact ⟨h1,h2,h3,h4,fun w tape i hf=>by
    obtain ⟨n,v,w',a1,a2,a3,a4,⟨j,last,e1,e2,q,ho,eh⟩,k⟩:=h5 w tape i hf
    exact ⟨n,v,w',a1,a2,a3,a4,⟨j,last,e1,e2,ho,onlyLeaving_of_quiet q,eh⟩,k⟩⟩
theorem card_goes (Lk : Looks) {p : Pinned} {s : OpenSpec} {c : OpenClaim} (kinds : List LaidKind) (tests : Bool) (har : Bool × String) (lk : Bool)
    (hc:c.holds p s) (hw:c.wfByText s=true) (htie:c.laidByTextAt Lk p kinds tests)
    (hst:c.start=.entering) (hnb:c.noBlocks=false∧c.again=false) (hm:p.checked.prog.mainIs=some (har.1,har.2.toList)) (hn:(!har.1&&har.2.isEmpty&&!lk)=false)
    (hl:∀ f fn,p.checked.prog.funcNamed c.func=some f→p.checked.prog.funcs[f]?=some fn→lk=p.checked.prog.looks []∧∀ (j:Nat) t,fn.params[j]?=some t→p.checked.prog.wantsStandIn t=false)
    (hg:true=c.goesBy p.checked.prog) :
    Claim7.holds p (.plain s) { stood:={ row:=c,standIns:=[],harness:=har,looks:=lk },kinds:=[],alts:=[],goes:=true,laidByText:=true,laidKinds:=kinds,laidTests:=tests,laidLooks:=Lk }:=by
  have h6:∀ r:OpenClaim,Claim7.isSixth { stood:={ row:=r,standIns:=[],harness:=har,looks:=lk },kinds:=[] }=false:=fun r=>by simpa [Claim7.isSixth] using hn
  exact ⟨Claim7.tied_new_at Lk kinds tests (Claim7.new_of_sixth hc har lk hst hnb hm (h6 c) hl) hw,(fun D hD=>by cases hD),htie,(fun h=>by cases h),hg⟩
end Go
namespace Go.Sl
open Go Go.ChangeShapes Go.WideShapes Go.Deep Go.Sh
section
variable {H:Type} {enc:TypeId × Value→H} {P:Program} {W:World}
instance:Inhabited Slip:=⟨AB⟩
instance:Inhabited Keep:=⟨AM⟩
end
open Go Go.ChangeShapes Go.WideShapes
section
variable {H:Type} {enc:TypeId × Value→H}
theorem PZ {a : Assume} {C : Checked} {os : Os} {f : FuncId} {fn : Func} {s : ChangeSpec} {conds : List PathCond} {apart fresh handsOn again : Bool} {X : World → Array Value → Prop}
    (hX:∀ (w w':World) (args:Array Value),w.heap=w'.heap→X w args→X w' args)
    (own:ownKnob C.prog.godebug=none) (started:os.Started) (noInit:C.prog.inits.idxOf? f=none) (hfn:C.prog.funcs[f]?=some fn)
    (witness:∃ (w:World) (tape:Tape) (i:Input),w.os=os∧(w.forCall tape i).Shaped C.prog∧i.vars=[]∧Input.okWide C.prog (w.forCall tape i) .any w.heap.size f i ∧
      ((s.pre enc C.prog fn conds apart (w.forCall tape i).memory i.args∧X (w.forCall tape i).memory i.args)∧sizedMet enc C.prog fn (OpenSpec.ofChange s) apart (w.forCall tape i).memory i.args)∧a.holds C.prog (lone (Frame.enter C.prog f i.args .normal) [] (w.forCall tape i)))
    (contract:∀ (W:World) (base:Nat) (args:Array Value) (ds gs:List (DataW H)) (before:List MemPlace),
      (∀ (j:Nat) t v,fn.params[j]?=some t→args[j]?=some v→Value.okWide C.prog W .any base t v) →
      DataW.Whole enc C.prog fn.params.toList s.vars apart W args.toList ds gs before →
      conds.all (PathCond.test C.prog ⟨fn.params.toList,ds,s.plain.varTypes C.prog,gs⟩)=true →
      (DataW.weightsEach C.prog (fn.params.toList++s.plain.varTypes C.prog) (ds++gs)).all (·≤reachBytes)=true→X W args→W.ShapedOpen C.prog →
      Calls C.prog f args W fun e W'=>∃ v,e=.returned v∧s.post enc C.prog fn apart fresh handsOn again W args v W') :
    ReturnsInHanded a C os f .any (fun w args=>(s.pre enc C.prog fn conds apart w args∧X w args)∧sizedMet enc C.prog fn (OpenSpec.ofChange s) apart w args) (s.post enc C.prog fn apart fresh handsOn again):=by
  refine returnsInHanded_of_calls own started noInit witness ?_;intro w tape i _ hsh _ hok hpre _;obtain ⟨_,_,_,fn',hfn',_,_,_,_,hval⟩:=hok;have e:fn'=fn:=Option.some.inj (hfn'.symm.trans hfn);subst e;obtain ⟨⟨⟨ds,gs,before,hw,hc⟩,hx⟩,hz⟩:=hpre;have hw':=DataW.Whole.of_heap (w':=w.forCall tape i) (by rfl) hw;refine (contract (w.forCall tape i) w.heap.size i.args ds gs before hval hw' hc (hz.weights hw) (hX _ _ _ (by rfl) hx) hsh).mono fun e W' ⟨v,he,hp⟩=>?_
  subst he;exact ChangeSpec.post_blind hp
end
theorem icell_of {W:World} {g off:Nat} {v:Value} (h:W.cell? ⟨g,off,none⟩=some v):ICell (QA W) ⟨g,off,none⟩ v:=by
  obtain ⟨h1,cs,T,fz,hb,hv⟩:=JM h;exact ⟨h1,cs,T,fz,hb,hv⟩
theorem var_stays {P:Program} {W w:World} {F:Seg} {n:String} {g:Nat} {cs:Array Value} (hg:P.globalNamed n=some g) (h:W.var? P n=some cs) (st:St (QA W) F w):w.var? P n=some cs:=by
  simp only [World.var?,hg,Option.bind_some] at h ⊢
  split at h
  · rename_i c T fz hb
    have:=st.imm g _ (show (QA W).blk g=some _ from hb);rw [this];exact h
  · cases h
theorem err_of {P:Program} {W:World} {n name:String} {g:Nat} {d:DataW Unit} {t:TypeId} {ms:Array (String × TypeId)} (hg:P.globalNamed n=some g) (ht:(P.globals[g]?).map (·.type)=some t) (hi:P.underlying t=some (.interface ms)) (h:Lib.VarReads P W n (.iface name d)):HasErr (QA W) g:=by
  obtain ⟨g',t',cs,fuel,p,h1,h2,h3,h4⟩:=h;obtain rfl:=Option.some.inj (hg.symm.trans h1);obtain rfl:=Option.some.inj (ht.symm.trans h2);obtain ⟨_,u,v,e,_,_⟩:=iface_of_trod hi h4;have hc:=World.var?_cell hg h3 0;have e0:cs[0]?=some (.iface u v):=by rw [← Array.getElem?_toList,e];rfl
  exact ⟨u,v,icell_of (hc.trans e0)⟩
end Go.Sl
namespace Go.Proofs.YtgcemienebmdeaaGreatDoor
open Go Go.ChangeShapes Go.WideShapes Go.RowKit Go.Sl
set_option maxRecDepth 100000
abbrev LT:List (String × DataW Unit):=[("math/bits.deBruijn32tab",Rows.laid_math_bits_deBruijn32tab),("math/bits.deBruijn64tab",Rows.laid_math_bits_deBruijn64tab),("internal/strconv.uint64pow10",Rows.laid_internal_strconv_uint64pow10),("unicode/utf8.acceptRanges",Rows.laid_unicode_utf8_acceptRanges),("errors.errorType",Rows.laid_errors_errorType),("strconv.ErrRange",Rows.laid_strconv_ErrRange),("strconv.ErrSyntax",Rows.laid_strconv_ErrSyntax),("unicode/utf8.first",Rows.laid_unicode_utf8_first)]
abbrev LD:List (String × DataW Unit):=[("math/bits.deBruijn32tab",Rows.laid_math_bits_deBruijn32tab),("math/bits.deBruijn64tab",Rows.laid_math_bits_deBruijn64tab),("internal/strconv.uint64pow10",Rows.laid_internal_strconv_uint64pow10),("unicode/utf8.acceptRanges",Rows.laid_unicode_utf8_acceptRanges),("strconv.ErrRange",Rows.laid_strconv_ErrRange),("strconv.ErrSyntax",Rows.laid_strconv_ErrSyntax),("unicode/utf8.first",Rows.laid_unicode_utf8_first)]
theorem LT_data:(LT.filter fun x=>x.2.handleName?.isNone)=LD:=by kernel_rfl
theorem LT_handle:(LT.filter fun x=>x.2.handleName?.isSome)=[("errors.errorType",Rows.laid_errors_errorType)]:=by kernel_rfl
noncomputable def MT (os:Os):World:=(laidWorld os).layVars Tryz.prog LD
theorem laidWorldT_os (os:Os):(MT os).os=os:=World.layVars_os _ _ _
theorem laidWorldT_met (os:Os) (args:Array Value):laidMetH Tryz.prog LT ((MT os).forCall (fun _ _=>0) ⟨#[],args,[]⟩).memory:=by
  refine laidMetH_of_parts ?_ (by rw [LT_handle];kernel_rfl);rw [LT_data];have e1:(LD.filter fun x=>(LD.map (·.1)).contains x.1)=LD:=List.filter_eq_self.2 fun x hx=>List.contains_iff_mem.2 (List.mem_map.2 ⟨x,hx,rfl⟩)
  have e2:(LD.filter fun x=>!(LD.map (·.1)).contains x.1)=[]:=List.filter_eq_nil_iff.2 fun x hx=>by rw [List.contains_iff_mem.2 (List.mem_map.2 ⟨x,hx,rfl⟩)];simp
  have h:laidMet Tryz.prog LD (MT os):=laidMet_layVars (w0:=laidWorld os) (LD.map (·.1)) [] (by rw [e1];rfl) (by rw [e1];kernel_rfl) (by rw [e1];kernel_rfl) (by rw [e2];exact LaidIn.none);exact h.of_heap (by simp [World.memory,World.forCall,Input.heap])
theorem tab_laid:(Rows.laid_internal_strconv_uint64pow10:DataW Unit)=Lib.tabData .u64 Lib.pow10Tab:=by kernel_rfl
theorem text_of_laid {W:World} (h:laidMetH Tryz.prog LT W) (hs:W.ShapedOpen Tryz.prog):Glob (QA W)∧TextG (QA W):=by
  unfold laidMetH at h;rw [LT_handle,LT_data] at h;have h':laidMet Tryz.prog LD W∧handlesMet Tryz.prog [("errors.errorType",Rows.laid_errors_errorType)] W:=h;refine ⟨handle_of_laid (show laidMet Tryz.prog [] W∧handlesMet Tryz.prog [("errors.errorType",Rows.laid_errors_errorType)] W from ⟨laidMet_nil _ _,h'.2⟩),?_,?_,?_,?_⟩
  · obtain ⟨g,t,cs,fuel,p,h1,h2,h3,h4⟩:=Lib.laidMet.reads h'.1 (n:="internal/strconv.uint64pow10") (d:=Rows.laid_internal_strconv_uint64pow10) (.tail _ (.tail _ (.head _)))
    have hg:Tryz.prog.globalNamed "internal/strconv.uint64pow10"=some 2:=by kernel_rfl
    obtain rfl:=Option.some.inj (hg.symm.trans h1);obtain rfl:t=257:=Option.some.inj (h2.symm.trans (by kernel_rfl));rw [tab_laid] at h4;have e:=Lib.cells_of_tab Tryz.underlying257 (e:=130) (n:=20) (by kernel_rfl) (by kernel_rfl) (by kernel_rfl) h4;intro F w st;unfold Lib.TabIs;rw [var_stays hg h3 st,← e]
  · obtain ⟨m,hm⟩:=cell_of_shapedOpen_int (g:=1) (t:=3) (zero:=#[.int .i64 0]) (k:=.i64) hs (of_decide_eq_true (by kernel_rfl)) (by kernel_rfl) rfl (by kernel_rfl) (by kernel_rfl) (by kernel_rfl)
    exact ⟨m,icell_of hm⟩
  · exact err_of (t:=139) (by kernel_rfl) (by kernel_rfl) Tryz.underlying139 (Lib.laidMet.reads h'.1 (n:="strconv.ErrSyntax") (d:=Rows.laid_strconv_ErrSyntax) (.tail _ (.tail _ (.tail _ (.tail _ (.tail _ (.head _)))))))
  · exact err_of (t:=139) (by kernel_rfl) (by kernel_rfl) Tryz.underlying139 (Lib.laidMet.reads h'.1 (n:="strconv.ErrRange") (d:=Rows.laid_strconv_ErrRange) (.tail _ (.tail _ (.tail _ (.tail _ (.head _))))))
end Go.Proofs.YtgcemienebmdeaaGreatDoor
