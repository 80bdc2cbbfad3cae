/- A yard is written as the document says, and what is read of any text is what the document reads. -/
import Derived.Test.YtcaocbhbofejnaaGreatDoorP5
import Derived.Test.YtcaocbhbofejnaaGreatDoorShuntTextsP6
import Derived.Lay
import Derived.Lib.LaidU8
import Derived.HandedShaped
import Derived.Shelf.Vars
import Derived.ChangeMaps5
import Derived.Test.YtcaocbhbofejnaaGreatDoorShuntTextsP7
import Derived.ChangeVars
import Derived.JoinedOf
import Derived.RowKit
import Derived.RowKitTokens
import Derived.LaidLaws
import Derived.LaidHandle
import Derived.Stop.Joined
import Derived.SevenTiedAt
import Derived.WideKeyArgs
import Derived.ProofKit
import Derived.SizedLaws
set_option linter.unusedVariables false
set_option linter.unusedSimpArgs false
namespace Go.Sl
open Go Go.ChangeShapes Go.WideShapes
section
variable {H:Type} {enc:TypeId × Value→H}
theorem OP {a : Assume} {C : Checked} {os : Os} {f : FuncId} {fn : Func} {s : ChangeSpec} {conds : List PathCond} {apart fresh handsOn again : Bool} {X : World → Array Value → Prop}
    (hX:∀ (w w':World) (args:Array Value),w.heap=w'.heap→X w args→X w' args)
    (own:ownKnob C.prog.godebug=none) (started:os.Started) (noInit:C.prog.inits.idxOf? f=none) (hfn:C.prog.funcs[f]?=some fn)
    (witness:∃ (w:World) (tape:Tape) (i:Input),w.os=os∧(w.forCall tape i).Shaped C.prog∧i.vars=[]∧Input.okWide C.prog (w.forCall tape i) .any w.heap.size f i ∧
      ((s.pre enc C.prog fn conds apart (w.forCall tape i).memory i.args∧X (w.forCall tape i).memory i.args)∧sizedMet enc C.prog fn (OpenSpec.ofChange s) apart (w.forCall tape i).memory i.args)∧a.holds C.prog (lone (Frame.enter C.prog f i.args .normal) [] (w.forCall tape i)))
    (contract:∀ (W:World) (base:Nat) (args:Array Value) (ds gs:List (DataW H)) (before:List MemPlace),
      (∀ (j:Nat) t v,fn.params[j]?=some t→args[j]?=some v→Value.okWide C.prog W .any base t v) →
      DataW.Whole enc C.prog fn.params.toList s.vars apart W args.toList ds gs before →
      conds.all (PathCond.test C.prog ⟨fn.params.toList,ds,s.plain.varTypes C.prog,gs⟩)=true →
      (DataW.weightsEach C.prog (fn.params.toList++s.plain.varTypes C.prog) (ds++gs)).all (·≤reachBytes)=true→X W args→W.ShapedOpen C.prog →
      Calls C.prog f args W fun e W'=>∃ v,e=.returned v∧s.post enc C.prog fn apart fresh handsOn again W args v W') :
    ReturnsInHanded a C os f .any (fun w args=>(s.pre enc C.prog fn conds apart w args∧X w args)∧sizedMet enc C.prog fn (OpenSpec.ofChange s) apart w args) (s.post enc C.prog fn apart fresh handsOn again):=by
  refine returnsInHanded_of_calls own started noInit witness ?_;intro w tape i _ hsh _ hok hpre _;obtain ⟨_,_,_,fn',hfn',_,_,_,_,hval⟩:=hok;have e:fn'=fn:=Option.some.inj (hfn'.symm.trans hfn);subst e;obtain ⟨⟨⟨ds,gs,before,hw,hc⟩,hx⟩,hz⟩:=hpre;have hw':=DataW.Whole.of_heap (w':=w.forCall tape i) (by rfl) hw;refine (contract (w.forCall tape i) w.heap.size i.args ds gs before hval hw' hc (hz.weights hw) (hX _ _ _ (by rfl) hx) hsh).mono fun e W' ⟨v,he,hp⟩=>?_
  subst he;exact ChangeSpec.post_blind hp
end
theorem icell_of {W:World} {g off:Nat} {v:Value} (h:W.cell? ⟨g,off,none⟩=some v):ICell (KX W) ⟨g,off,none⟩ v:=by
  obtain ⟨h1,cs,T,fz,hb,hv⟩:=JM h;exact ⟨h1,cs,T,fz,hb,hv⟩
theorem var_stays {P:Program} {W w:World} {F:Seg} {n:String} {g:Nat} {cs:Array Value} (hg:P.globalNamed n=some g) (h:W.var? P n=some cs) (st:St (KX W) F w):w.var? P n=some cs:=by
  simp only [World.var?,hg,Option.bind_some] at h ⊢
  split at h
  · rename_i c T fz hb
    have:=st.imm g _ (show (KX W).blk g=some _ from hb);rw [this];exact h
  · cases h
theorem err_of {P:Program} {W:World} {n name:String} {g:Nat} {d:DataW Unit} {t:TypeId} {ms:Array (String × TypeId)} (hg:P.globalNamed n=some g) (ht:(P.globals[g]?).map (·.type)=some t) (hi:P.underlying t=some (.interface ms)) (h:Lib.VarReads P W n (.iface name d)):HasErr (KX W) g:=by
  obtain ⟨g',t',cs,fuel,p,h1,h2,h3,h4⟩:=h;obtain rfl:=Option.some.inj (hg.symm.trans h1);obtain rfl:=Option.some.inj (ht.symm.trans h2);obtain ⟨_,u,v,e,_,_⟩:=iface_of_trod hi h4;have hc:=World.var?_cell hg h3 0;have e0:cs[0]?=some (.iface u v):=by rw [← Array.getElem?_toList,e];rfl
  exact ⟨u,v,icell_of (hc.trans e0)⟩
theorem byte_of {x:Int} (h:(Lit.int .u8 x).wf=true):∃ b:UInt8,x=(b.toNat:Int):=by
  simp only [Lit.wf,Bool.and_eq_true,decide_eq_true_eq] at h;have h1:IntKind.u8.min=0:=rfl;have h2:IntKind.u8.max=255:=rfl;rw [h1,h2] at h;refine ⟨UInt8.ofNat x.toNat,?_⟩;rw [UInt8.toNat_ofNat'];omega
end Go.Sl
namespace Go.Proofs.YtcaocbhbofejnaaGreatDoor
open Go Go.ChangeShapes Go.WideShapes Go.RowKit Go.Sl
set_option maxRecDepth 100000
abbrev LT:List (String × DataW Unit):=[("math/bits.deBruijn32tab",Rows.laid_math_bits_deBruijn32tab),("math/bits.deBruijn64tab",Rows.laid_math_bits_deBruijn64tab),("internal/strconv.uint64pow10",Rows.laid_internal_strconv_uint64pow10),("unicode/utf8.acceptRanges",Rows.laid_unicode_utf8_acceptRanges),("errors.errorType",Rows.laid_errors_errorType),("strconv.ErrRange",Rows.laid_strconv_ErrRange),("strconv.ErrSyntax",Rows.laid_strconv_ErrSyntax),("unicode/utf8.first",Rows.laid_unicode_utf8_first)]
abbrev LD:List (String × DataW Unit):=[("math/bits.deBruijn32tab",Rows.laid_math_bits_deBruijn32tab),("math/bits.deBruijn64tab",Rows.laid_math_bits_deBruijn64tab),("internal/strconv.uint64pow10",Rows.laid_internal_strconv_uint64pow10),("unicode/utf8.acceptRanges",Rows.laid_unicode_utf8_acceptRanges),("strconv.ErrRange",Rows.laid_strconv_ErrRange),("strconv.ErrSyntax",Rows.laid_strconv_ErrSyntax),("unicode/utf8.first",Rows.laid_unicode_utf8_first)]
theorem LT_data:(LT.filter fun x=>x.2.handleName?.isNone)=LD:=by kernel_rfl
theorem LT_handle:(LT.filter fun x=>x.2.handleName?.isSome)=[("errors.errorType",Rows.laid_errors_errorType)]:=by kernel_rfl
noncomputable def ME (os:Os):World:=(laidWorld os).layVars Tryz.prog LD
theorem laidWorldT_os (os:Os):(ME os).os=os:=World.layVars_os _ _ _
theorem laidWorldT_met (os:Os) (args:Array Value):laidMetH Tryz.prog LT ((ME os).forCall (fun _ _=>0) ⟨#[],args,[]⟩).memory:=by
  refine laidMetH_of_parts ?_ (by rw [LT_handle];kernel_rfl);rw [LT_data];have e1:(LD.filter fun x=>(LD.map (·.1)).contains x.1)=LD:=List.filter_eq_self.2 fun x hx=>List.contains_iff_mem.2 (List.mem_map.2 ⟨x,hx,rfl⟩)
  have e2:(LD.filter fun x=>!(LD.map (·.1)).contains x.1)=[]:=List.filter_eq_nil_iff.2 fun x hx=>by rw [List.contains_iff_mem.2 (List.mem_map.2 ⟨x,hx,rfl⟩)];simp
  have h:laidMet Tryz.prog LD (ME os):=laidMet_layVars (w0:=laidWorld os) (LD.map (·.1)) [] (by rw [e1];rfl) (by rw [e1];kernel_rfl) (by rw [e1];kernel_rfl) (by rw [e2];exact LaidIn.none);exact h.of_heap (by simp [World.memory,World.forCall,Input.heap])
theorem tab_laid:(Rows.laid_internal_strconv_uint64pow10:DataW Unit)=Lib.tabData .u64 Lib.pow10Tab:=by kernel_rfl
theorem text_of_laid {W:World} (h:laidMetH Tryz.prog LT W) (hs:W.ShapedOpen Tryz.prog):Glob (KX W)∧TextG (KX W):=by
  unfold laidMetH at h;rw [LT_handle,LT_data] at h;have h':laidMet Tryz.prog LD W∧handlesMet Tryz.prog [("errors.errorType",Rows.laid_errors_errorType)] W:=h;refine ⟨handle_of_laid (show laidMet Tryz.prog [] W∧handlesMet Tryz.prog [("errors.errorType",Rows.laid_errors_errorType)] W from ⟨laidMet_nil _ _,h'.2⟩),?_,?_,?_,?_⟩
  · obtain ⟨g,t,cs,fuel,p,h1,h2,h3,h4⟩:=Lib.laidMet.reads h'.1 (n:="internal/strconv.uint64pow10") (d:=Rows.laid_internal_strconv_uint64pow10) (.tail _ (.tail _ (.head _)))
    have hg:Tryz.prog.globalNamed "internal/strconv.uint64pow10"=some 2:=by kernel_rfl
    obtain rfl:=Option.some.inj (hg.symm.trans h1);obtain rfl:t=234:=Option.some.inj (h2.symm.trans (by kernel_rfl));rw [tab_laid] at h4;have e:=Lib.cells_of_tab Tryz.underlying234 (e:=93) (n:=20) (by kernel_rfl) (by kernel_rfl) (by kernel_rfl) h4;intro F w st;unfold Lib.TabIs;rw [var_stays hg h3 st,← e]
  · obtain ⟨m,hm⟩:=cell_of_shapedOpen_int (g:=1) (t:=3) (zero:=#[.int .i64 0]) (k:=.i64) hs (of_decide_eq_true (by kernel_rfl)) (by kernel_rfl) rfl (by kernel_rfl) (by kernel_rfl) (by kernel_rfl)
    exact ⟨m,icell_of hm⟩
  · exact err_of (t:=126) (by kernel_rfl) (by kernel_rfl) Tryz.underlying126 (Lib.laidMet.reads h'.1 (n:="strconv.ErrSyntax") (d:=Rows.laid_strconv_ErrSyntax) (.tail _ (.tail _ (.tail _ (.tail _ (.tail _ (.head _)))))))
  · exact err_of (t:=126) (by kernel_rfl) (by kernel_rfl) Tryz.underlying126 (Lib.laidMet.reads h'.1 (n:="strconv.ErrRange") (d:=Rows.laid_strconv_ErrRange) (.tail _ (.tail _ (.tail _ (.tail _ (.head _))))))
theorem law_lifted (os : Os) (started : os.Started) (H : Type) (enc : TypeId × Value → H) :
    ReturnsInHanded {} Tryz.checked os 16 .any (fun w args=>(Rows.shuntTextsSpec.pre enc Tryz.prog Tryz.f16 [] false w args∧laidMetH Tryz.prog LT w)∧sizedMet enc Tryz.prog Tryz.f16 (OpenSpec.ofChange Rows.shuntTextsSpec) false w args)
      (Rows.shuntTextsSpec.post enc Tryz.prog Tryz.f16 false true false false):=by
  refine OP (C:=Tryz.checked) (X:=fun w _=>laidMetH Tryz.prog LT w) (fun _ _ _ hh h=>h.of_heap hh) Row.own started (by kernel_rfl) Tryz.func16
    (ChangeSpec.witness_shaped (enc:=enc) (C:=Tryz.checked) (os:=os) (X:=fun w _=>laidMetH Tryz.prog LT w) false (ME os) #[.agg #[.slice none 0 0,.slice none 0 0,.slice none 0 0],.string ⟨#[]⟩,.slice none 0 0,.int .i64 0,.int .i64 0,.int .u8 0] 8 (laidWorldT_os os) (World.shaped_of_ZipB (by kernel_rfl) (by kernel_rfl)) (by kernel_rfl) (by kernel_rfl) (by kernel_rfl) (laidWorldT_met os _)) ?_
  intro W base args ds gs before hval0 hW _ hsz0 hL hsh
  have hsz:(DataW.weightsEach Tryz.prog (Tryz.f16.params.toList++Rows.shuntTextsSpec.plain.varTypes Tryz.prog) (ds++gs)).all (·≤reachBytes)=true:=hsz0
  have hval:∀ (j:Nat) t v,Tryz.f16.params[j]?=some t→args[j]?=some v→Value.okWide Tryz.prog W .any base t v:=hval0
  clear hsz0 hval0
  have hW':=hW
  obtain ⟨p,q,hA0,hV,rfl,hfz,hnd⟩:=hW
  have hA:DataW.TrodAll enc Tryz.prog W 0 (fun _=>true) true Tryz.f16.params.toList args.toList ds p:=hA0
  rw [Tryz.params16] at hA hval
  obtain ⟨v0,vs0,d0,ds0,p0,q0,ha0,rfl,hp0,h0,r0⟩:=trodAll_cons hA
  obtain ⟨v1,vs1,d1,ds1,p1,q1,ha1,rfl,hp1,h1,r1⟩:=trodAll_cons r0
  obtain ⟨v2,vs2,d2,ds2,p2,q2,ha2,rfl,hp2,h2,r2⟩:=trodAll_cons r1
  obtain ⟨v3,vs3,d3,ds3,p3,q3,ha3,rfl,hp3,h3,r3⟩:=trodAll_cons r2
  obtain ⟨v4,vs4,d4,ds4,p4,q4,ha4,rfl,hp4,h4,r4⟩:=trodAll_cons r3
  obtain ⟨v5,vs5,d5,ds5,p5,q5,ha5,rfl,hp5,h5,r5⟩:=trodAll_cons r4
  obtain ⟨hav,rfl,hpn⟩:=trodAll_nil r5
  have hargs:args=#[v0,v1,v2,v3,v4,v5]:=Array.toList_inj.1 (by rw [ha0,ha1,ha2,ha3,ha4,ha5,hav])
  subst hargs
  obtain ⟨rfl,rfl⟩:=trodVars_none hV
  have hgt:=text_of_laid hL hsh
  have hlt:∀ x∈p,x.block<W.heap.size:=fun x hx=>by simpa using hW'.lt x (List.mem_append_left _ hx)
  have hA2:=hA
  clear hA r0 r1 r2 r3 r4 r5 ha0 ha1 ha2 ha3 ha4 ha5 hav
  obtain ⟨cs0,rfl,hz0⟩:=okWide_struct Tryz.underlying26 (hval 0 26 v0 rfl rfl)
  obtain ⟨fu0,hf0⟩:=h0
  obtain ⟨Y0,hy0⟩:=yard_of (t:=26) (tc:=22) (tr:=23) (tt:=24) (c:=56) (i:=3) (cs:=cs0.toList) (by kernel_rfl) Tryz.underlying22 Tryz.underlying23 Tryz.underlying24 Tryz.underlying3 hf0 (light_arg hsz (j:=0) rfl rfl)
  rw [Array.toArray_toList] at hy0
  obtain ⟨s1,rfl,rfl,rfl,ws1⟩:=Go.ChangeMaps.open_string Tryz.underlying9 (hval 1 9 v1 rfl rfl) h1
  obtain ⟨a2,n2,c2,rfl⟩:=okWide_slice Tryz.underlying23 (hval 2 23 v2 rfl rfl)
  obtain ⟨fu2,hf2⟩:=h2
  obtain ⟨L2,hy2⟩:=ints_of (t:=23) (e:=3) Tryz.underlying23 Tryz.underlying3 (by kernel_rfl) (of_decide_eq_true (by kernel_rfl)) hf2 (light_arg hsz (j:=2) rfl rfl)
  obtain ⟨x3,rfl,rfl,rfl,wx3⟩:=open_int Tryz.underlying3 (hval 3 3 v3 rfl rfl) h3
  obtain ⟨x4,rfl,rfl,rfl,wx4⟩:=open_int Tryz.underlying3 (hval 4 3 v4 rfl rfl) h4
  obtain ⟨x5,rfl,rfl,rfl,wx5⟩:=open_int Tryz.underlying5 (hval 5 5 v5 rfl rfl) h5
  obtain ⟨b5,rfl⟩:=byte_of wx5
  refine (ShuntTexts_ct (KX W) _ Y0 s1.data.toList _ L2 x3 x4 b5 hy0 hy2 hgt.1 hgt.2 [] W (by simpa using st_immOf W)).mono fun e W' ⟨v,I',M',he,hle,⟨hv,hM⟩,st'⟩=>?_
  subst he
  subst hv
  obtain ⟨hsame,hos,hout⟩:=same_of_le hle st'
  have hk:∀ may:MemPlace→Prop,W.keptBut W' may:=fun may=>keptBut_same hsame hos hout
  refine ⟨_,rfl,?_⟩
  refine ⟨_,_,_,[],p,[],hW',?_,?_,?_,hk _,fun h=>by cases h⟩
  · exact trodAll_mk1 (shut_bool Tryz.underlying4 true)
  · exact all_stay Row.laidOut (fun t ht=>by have h1:=List.all_eq_true.1 (show ([26,9,23,3,3,5].all fun t=>Tryz.prog.readableRec t&&decide (t<Tryz.prog.types.size))=true by kernel_rfl) t ht;simpa using h1) hA2 (fun x hx=>sameAt_heap (hsame _ (hlt x hx))) (fun x hx=>by simpa using hlt x hx)
  · rfl
theorem Row.f2:(Rows.shuntTextsRow.inPlace == Tryz.pinned.checked.prog.inPlace 16)=true:=by kernel_rfl
theorem Row.f3:(Rows.shuntTextsRow.unfollowed == Tryz.pinned.checked.prog.unfollowed 16)=true:=by kernel_rfl
theorem Row.f4:(Rows.shuntTextsRow.recurses == Tryz.pinned.checked.prog.recurses 16)=true:=by kernel_rfl
theorem Row.f5:(Rows.shuntTextsRow.named == Tryz.pinned.checked.prog.varsNamed 16)=true:=by kernel_rfl
theorem Row.goes:false=Rows.shuntTextsRow.goesBy Tryz.pinned.checked.prog:=by kernel_rfl
theorem Row.joined:joinedFacts Tryz.pinned.checked.prog 16 Tryz.f16 Rows.shuntTextsSpec Rows.shuntTextsRow=true:=
  joined_of (by kernel_rfl) Row.laidOut Row.f2 Row.f3 Row.f4 Row.f5 (by kernel_rfl) (by kernel_rfl) Row.lifts Row.make (by kernel_rfl)
theorem f_holds:Rows.ShuntTextsSaid:=
  OpenClaim.holds_of_wide 16 Tryz.f16 rfl rfl rfl rfl rfl rfl rfl ⟨rfl,rfl,rfl,rfl,rfl⟩ rfl rfl rfl rfl rfl (by kernel_rfl) Tryz.func16 Row.joined
    (of_decide_eq_true (by kernel_rfl)) (by unfold Func.isWrapper;rw [if_neg (of_decide_eq_false (by kernel_rfl))];exact ⟨rfl,rfl⟩)
    (fun os started H enc _=>law_lifted os started H enc)
theorem card_holds:Rows.ShuntTextsCardSaid:=
  Claim7.holds_tied_plain_at .later [] [.data,.data,.data,.data,.handle,.sentinel,.sentinel,.pinned] true (true,"15b79f9888323760d9f05ab32c03ca1db0faea4ca720a3d6f842981fea83c54b") true
    f_holds (fun _ h=>by cases h) (by kernel_rfl) (fun _ h=>by cases h) shuntTexts_row_tie rfl ⟨rfl,rfl⟩ (by kernel_rfl) rfl
    (fun f fn hf hfn=>by
      obtain rfl:f=16:=Option.some.inj (hf.symm.trans (by kernel_rfl))
      obtain rfl:fn=Tryz.f16:=(Option.some.inj (Tryz.func16.symm.trans hfn)).symm
      exact ⟨Row.looks,fun j t ht=>by
        rw [Tryz.params16] at ht
        have h3:=List.all_eq_true.1 (show ([26,9,23,3,3,5].all fun t=>Tryz.prog.wantsStandIn t == false)=true by kernel_rfl) t (List.mem_of_getElem? (l:=[26,9,23,3,3,5]) (i:=j) (by simpa using ht))
        exact beq_iff_eq.1 h3⟩)
    Row.goes
#print axioms card_holds
end Go.Proofs.YtcaocbhbofejnaaGreatDoor
