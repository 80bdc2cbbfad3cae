/- For every book of linen, every slip, every two numbers and every list of numbers LinenStocks returns true, and changes nothing of them; no condition. -/
import Derived.Test.YtgcemienebmdeaaGreatLinenStocksP8
import Derived.Test.YtgcemienebmdeaaGreatLinenStocksP9
import Derived.Test.YtgcemienebmdeaaGreatRows
import Derived.ChangeVars
import Derived.JoinedOf
import Derived.RowKit
import Derived.RowKitTokens
import Derived.Stop.Joined
import Derived.WideKeyArgs
import Derived.ProofKit
import Derived.SizedLaws
set_option linter.unusedVariables false
set_option linter.unusedSimpArgs false
namespace Go.Proofs.YtgcemienebmdeaaGreat
open Go Go.ChangeShapes Go.WideShapes Go.RowKit Go.Sl Go.Sh
set_option maxRecDepth 100000
theorem Row.own:ownKnob Tryz.prog.godebug=none:=by kernel_rfl
theorem Row.laidOut:laidOutB Tryz.prog=true:=by kernel_rfl
theorem Row.cells:Tryz.prog.cellsOf 3=1:=by kernel_rfl
theorem Row.bytes:Tryz.prog.bytesOf 3=8:=by kernel_rfl
theorem Row.f2:(Rows.linenStocksRow.inPlace == Tryz.pinned.checked.prog.inPlace 7)=true:=by kernel_rfl
theorem Row.f3:(Rows.linenStocksRow.unfollowed == Tryz.pinned.checked.prog.unfollowed 7)=true:=by kernel_rfl
theorem Row.f4:(Rows.linenStocksRow.recurses == Tryz.pinned.checked.prog.recurses 7)=true:=by kernel_rfl
theorem Row.f5:(Rows.linenStocksRow.named == Tryz.pinned.checked.prog.varsNamed 7)=true:=by kernel_rfl
theorem Row.lifts:(false == Tryz.pinned.checked.prog.liftsFinal)=true:=by kernel_rfl
theorem Row.make:(Tryz.pinned.checked.prog.make == some Make.cut)=true:=by kernel_rfl
theorem Row.joined:joinedFacts Tryz.pinned.checked.prog 7 Tryz.f7 Rows.linenStocksSpec Rows.linenStocksRow=true:=
  joined_of (by kernel_rfl) Row.laidOut Row.f2 Row.f3 Row.f4 Row.f5 (by kernel_rfl) (by kernel_rfl) Row.lifts Row.make (by kernel_rfl)
theorem law_lifted (os : Os) (started : os.Started) (H : Type) (enc : TypeId × Value → H) :
    ReturnsInHanded {} Tryz.checked os 7 .any (Rows.linenStocksSpec.pre6 enc Tryz.prog Tryz.f7 Rows.linenStocksRow.domain false) (Rows.linenStocksSpec.post enc Tryz.prog Tryz.f7 false true false false):=by
  refine returnsInHanded_of_change_sized (C:=Tryz.checked) Row.own started (by kernel_rfl) Tryz.func7
    (ChangeSpec.witness6 (enc:=enc) (C:=Tryz.checked) false ⟨#[],#[.agg #[.int .i64 0,.int .i64 0,.slice none 0 0,.slice none 0 0,.slice none 0 0],.agg #[.int .i64 0,.int .i64 0,.int .i64 0,.int .i64 0,.int .i64 0,.int .i64 0,.bool false,.int .i64 0],.int .i64 0,.int .i64 0,.slice none 0 0],[]⟩ 8 (by kernel_rfl) (by kernel_rfl) (by kernel_rfl) (by kernel_rfl)) ?_
  intro W base args ds gs before hval0 hW _ hsz0 _
  have hsz:(DataW.weightsEach Tryz.prog (Tryz.f7.params.toList++Rows.linenStocksSpec.plain.varTypes Tryz.prog) (ds++gs)).all (·≤reachBytes)=true:=hsz0
  have hval:∀ (j:Nat) t v,Tryz.f7.params[j]?=some t→args[j]?=some v→Value.okWide Tryz.prog W .any base t v:=hval0
  clear hsz0 hval0
  have hW':=hW
  obtain ⟨p,q,hA0,hV,rfl,hfz,hnd⟩:=hW
  have hA:DataW.TrodAll enc Tryz.prog W 0 (fun _=>true) true Tryz.f7.params.toList args.toList ds p:=hA0
  rw [Tryz.params7] at hA hval
  obtain ⟨v0,vs0,d0,ds0,p0,q0,ha0,rfl,hp0,h0,r0⟩:=trodAll_cons hA
  obtain ⟨v1,vs1,d1,ds1,p1,q1,ha1,rfl,hp1,h1,r1⟩:=trodAll_cons r0
  obtain ⟨v2,vs2,d2,ds2,p2,q2,ha2,rfl,hp2,h2,r2⟩:=trodAll_cons r1
  obtain ⟨v3,vs3,d3,ds3,p3,q3,ha3,rfl,hp3,h3,r3⟩:=trodAll_cons r2
  obtain ⟨v4,vs4,d4,ds4,p4,q4,ha4,rfl,hp4,h4,r4⟩:=trodAll_cons r3
  obtain ⟨hav,rfl,hpn⟩:=trodAll_nil r4
  have hargs:args=#[v0,v1,v2,v3,v4]:=Array.toList_inj.1 (by rw [ha0,ha1,ha2,ha3,ha4,hav])
  subst hargs
  obtain ⟨rfl,rfl⟩:=trodVars_none hV
  have hlt:∀ x∈p,x.block<W.heap.size:=fun x hx=>by simpa using hW'.lt x (List.mem_append_left _ hx)
  have hA2:=hA
  clear hA r0 r1 r2 r3 r4 ha0 ha1 ha2 ha3 ha4 hav
  obtain ⟨cs0,rfl,hz0⟩:=okWide_struct Tryz.underlying26 (hval 0 26 v0 rfl rfl)
  obtain ⟨fu0,hf0⟩:=h0
  obtain ⟨Y0,hy0⟩:=lin_of (t:=26) (i:=3) (tr:=29) (tt:=22) (tk:=23) (k:=50) (ts:=24) (s:=28) (cs:=cs0.toList) (by kernel_rfl) Tryz.underlying22 Tryz.underlying29 Tryz.underlying3 Tryz.underlying23 Tryz.underlying24 hf0 (light_arg hsz (j:=0) rfl rfl)
  rw [Array.toArray_toList] at hy0
  obtain ⟨cs1,rfl,hz1⟩:=okWide_struct Tryz.underlying28 (hval 1 28 v1 rfl rfl)
  obtain ⟨fu1,hf1⟩:=h1
  obtain ⟨S1,hS1⟩:=slip_of (t:=28) (cs:=cs1.toList) (by kernel_rfl) hf1
  obtain rfl:cs1=#[.int .i64 S1.num,.int .i64 S1.hour,.int .i64 S1.kind,.int .i64 S1.place,.int .i64 S1.to,.int .i64 S1.sort,.bool S1.soil,.int .i64 S1.amt]:=by rw [← Array.toArray_toList (xs:=cs1),hS1];rfl
  obtain ⟨x2,rfl,rfl,rfl,wx2⟩:=open_int Tryz.underlying3 (hval 2 3 v2 rfl rfl) h2
  obtain ⟨x3,rfl,rfl,rfl,wx3⟩:=open_int Tryz.underlying3 (hval 3 3 v3 rfl rfl) h3
  obtain ⟨a4,n4,c4,rfl⟩:=okWide_slice Tryz.underlying29 (hval 4 29 v4 rfl rfl)
  obtain ⟨fu4,hf4⟩:=h4
  obtain ⟨L4,hy4⟩:=ints_of (t:=29) (e:=3) Tryz.underlying29 Tryz.underlying3 (by kernel_rfl) (of_decide_eq_true (by kernel_rfl)) hf4 (light_arg hsz (j:=4) rfl rfl)
  refine (LinenStocks_ct (QF W) _ Y0 S1 x2 x3 _ L4 hy0 hy4 [] W (by simpa using st_immOf W)).mono fun e W' ⟨v,I',M',he,hle,⟨hv,hM⟩,st'⟩=>?_
  subst he
  subst hv
  obtain ⟨hsame,hos,hout⟩:=same_of_le hle st'
  have hk:∀ may:MemPlace→Prop,W.keptBut W' may:=fun may=>keptBut_same hsame hos hout
  refine ⟨_,rfl,?_⟩
  refine ⟨_,_,_,[],p,[],hW',?_,?_,?_,hk _,fun h=>by cases h⟩
  · exact trodAll_mk1 (shut_bool Tryz.underlying4 true)
  · exact all_stay Row.laidOut (fun t ht=>by have h1:=List.all_eq_true.1 (show ([26,28,3,3,29].all fun t=>Tryz.prog.readableRec t&&decide (t<Tryz.prog.types.size))=true by kernel_rfl) t ht;simpa using h1) hA2 (fun x hx=>sameAt_heap (hsame _ (hlt x hx))) (fun x hx=>by simpa using hlt x hx)
  · rfl
theorem f_holds:Rows.LinenStocksSaid:=
  OpenClaim.holds_of_wide_leaving 7 Tryz.f7 rfl rfl rfl rfl rfl rfl rfl ⟨rfl,rfl,rfl,rfl,rfl⟩ rfl rfl rfl rfl rfl (by kernel_rfl) Tryz.func7 Row.joined
    (of_decide_eq_true (by kernel_rfl)) (by unfold Func.isWrapper;rw [if_neg (of_decide_eq_false (by kernel_rfl))];exact ⟨rfl,rfl⟩)
    (fun os started H enc _=>OY (law_lifted os started H enc))
#print axioms f_holds
end Go.Proofs.YtgcemienebmdeaaGreat
