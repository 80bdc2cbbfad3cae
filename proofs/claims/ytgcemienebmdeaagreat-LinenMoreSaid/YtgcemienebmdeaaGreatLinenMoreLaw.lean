/- For every two books, slip and list of numbers LinenMore returns true, and changes nothing of them; no condition. -/
import Derived.Test.YtgcemienebmdeaaGreatLinenMoreP8
import Derived.Test.YtgcemienebmdeaaGreatRows
import Derived.Conc.LeavingOf
import Derived.Test.YtgcemienebmdeaaGreatLinenMoreP5
import Derived.ChangeVars
import Derived.JoinedOf
import Derived.RowKit
import Derived.RowKitTokens
import Derived.Stop.Joined
import Derived.WideKeyArgs
import Derived.ProofKit
import Derived.SizedLaws
set_option linter.unusedVariables false
set_option linter.unusedSimpArgs false
namespace Go.Proofs.YtgcemienebmdeaaGreat
open Go Go.ChangeShapes Go.WideShapes Go.RowKit Go.Sl Go.Sh
set_option maxRecDepth 100000
theorem Row.own:ownKnob Tryz.prog.godebug=none:=by kernel_rfl
theorem Row.laidOut:laidOutB Tryz.prog=true:=by kernel_rfl
theorem Row.cells:Tryz.prog.cellsOf 3=1:=by kernel_rfl
theorem Row.bytes:Tryz.prog.bytesOf 3=8:=by kernel_rfl
theorem Row.f2:(Rows.linenMoreRow.inPlace == Tryz.pinned.checked.prog.inPlace 13)=true:=by kernel_rfl
theorem Row.f3:(Rows.linenMoreRow.unfollowed == Tryz.pinned.checked.prog.unfollowed 13)=true:=by kernel_rfl
theorem Row.f4:(Rows.linenMoreRow.recurses == Tryz.pinned.checked.prog.recurses 13)=true:=by kernel_rfl
theorem Row.f5:(Rows.linenMoreRow.named == Tryz.pinned.checked.prog.varsNamed 13)=true:=by kernel_rfl
theorem Row.lifts:(false == Tryz.pinned.checked.prog.liftsFinal)=true:=by kernel_rfl
theorem Row.make:(Tryz.pinned.checked.prog.make == some Make.cut)=true:=by kernel_rfl
theorem Row.joined:joinedFacts Tryz.pinned.checked.prog 13 Tryz.f13 Rows.linenMoreSpec Rows.linenMoreRow=true:=
  joined_of (by kernel_rfl) Row.laidOut Row.f2 Row.f3 Row.f4 Row.f5 (by kernel_rfl) (by kernel_rfl) Row.lifts Row.make (by kernel_rfl)
theorem law_lifted (os : Os) (started : os.Started) (H : Type) (enc : TypeId × Value → H) :
    ReturnsInLeavingWide {} Tryz.checked os 13 .any (Rows.linenMoreSpec.pre6 enc Tryz.prog Tryz.f13 Rows.linenMoreRow.domain false) (Rows.linenMoreSpec.post enc Tryz.prog Tryz.f13 false true false false):=by
  refine returnsInLeavingWide_of_change_sized (C:=Tryz.checked) Row.own started Tryz.func13
    (ChangeSpec.witness6 (enc:=enc) (C:=Tryz.checked) false ⟨#[],#[.agg #[.int .i64 0,.int .i64 0,.slice none 0 0,.slice none 0 0,.slice none 0 0],.agg #[.int .i64 0,.int .i64 0,.slice none 0 0,.slice none 0 0,.slice none 0 0],.agg #[.int .i64 0,.int .i64 0,.int .i64 0,.int .i64 0,.int .i64 0,.int .i64 0,.bool false,.int .i64 0],.slice none 0 0],[]⟩ 8 (by kernel_rfl) (by kernel_rfl) (by kernel_rfl) (by kernel_rfl)) ?_
  intro W base args ds gs before hval0 hW _ hsz0 _
  have hsz:(DataW.weightsEach Tryz.prog (Tryz.f13.params.toList++Rows.linenMoreSpec.plain.varTypes Tryz.prog) (ds++gs)).all (·≤reachBytes)=true:=hsz0
  have hval:∀ (j:Nat) t v,Tryz.f13.params[j]?=some t→args[j]?=some v→Value.okWide Tryz.prog W .any base t v:=hval0
  clear hsz0 hval0
  have hW':=hW
  obtain ⟨p,q,hA0,hV,rfl,hfz,hnd⟩:=hW
  have hA:DataW.TrodAll enc Tryz.prog W 0 (fun _=>true) true Tryz.f13.params.toList args.toList ds p:=hA0
  rw [Tryz.params13] at hA hval
  obtain ⟨v0,vs0,d0,ds0,p0,q0,ha0,rfl,hp0,h0,r0⟩:=trodAll_cons hA
  obtain ⟨v1,vs1,d1,ds1,p1,q1,ha1,rfl,hp1,h1,r1⟩:=trodAll_cons r0
  obtain ⟨v2,vs2,d2,ds2,p2,q2,ha2,rfl,hp2,h2,r2⟩:=trodAll_cons r1
  obtain ⟨v3,vs3,d3,ds3,p3,q3,ha3,rfl,hp3,h3,r3⟩:=trodAll_cons r2
  obtain ⟨hav,rfl,hpn⟩:=trodAll_nil r3
  have hargs:args=#[v0,v1,v2,v3]:=Array.toList_inj.1 (by rw [ha0,ha1,ha2,ha3,hav])
  subst hargs
  obtain ⟨rfl,rfl⟩:=trodVars_none hV
  have hlt:∀ x∈p,x.block<W.heap.size:=fun x hx=>by simpa using hW'.lt x (List.mem_append_left _ hx)
  have hA2:=hA
  clear hA r0 r1 r2 r3 ha0 ha1 ha2 ha3 hav
  obtain ⟨cs0,rfl,hz0⟩:=okWide_struct Tryz.underlying26 (hval 0 26 v0 rfl rfl)
  obtain ⟨fu0,hf0⟩:=h0
  obtain ⟨Y0,hy0⟩:=lin_of (t:=26) (i:=3) (tr:=29) (tt:=22) (tk:=23) (k:=50) (ts:=24) (s:=28) (cs:=cs0.toList) (by kernel_rfl) Tryz.underlying22 Tryz.underlying29 Tryz.underlying3 Tryz.underlying23 Tryz.underlying24 hf0 (light_arg hsz (j:=0) rfl rfl)
  rw [Array.toArray_toList] at hy0
  obtain ⟨cs1,rfl,hz1⟩:=okWide_struct Tryz.underlying26 (hval 1 26 v1 rfl rfl)
  obtain ⟨fu1,hf1⟩:=h1
  obtain ⟨Y1,hy1⟩:=lin_of (t:=26) (i:=3) (tr:=29) (tt:=22) (tk:=23) (k:=50) (ts:=24) (s:=28) (cs:=cs1.toList) (by kernel_rfl) Tryz.underlying22 Tryz.underlying29 Tryz.underlying3 Tryz.underlying23 Tryz.underlying24 hf1 (light_arg hsz (j:=1) rfl rfl)
  rw [Array.toArray_toList] at hy1
  obtain ⟨cs2,rfl,hz2⟩:=okWide_struct Tryz.underlying28 (hval 2 28 v2 rfl rfl)
  obtain ⟨fu2,hf2⟩:=h2
  obtain ⟨S2,hS2⟩:=slip_of (t:=28) (cs:=cs2.toList) (by kernel_rfl) hf2
  obtain rfl:cs2=#[.int .i64 S2.num,.int .i64 S2.hour,.int .i64 S2.kind,.int .i64 S2.place,.int .i64 S2.to,.int .i64 S2.sort,.bool S2.soil,.int .i64 S2.amt]:=by rw [← Array.toArray_toList (xs:=cs2),hS2];rfl
  obtain ⟨a3,n3,c3,rfl⟩:=okWide_slice Tryz.underlying29 (hval 3 29 v3 rfl rfl)
  obtain ⟨fu3,hf3⟩:=h3
  obtain ⟨L3,hy3⟩:=ints_of (t:=29) (e:=3) Tryz.underlying29 Tryz.underlying3 (by kernel_rfl) (of_decide_eq_true (by kernel_rfl)) hf3 (light_arg hsz (j:=3) rfl rfl)
  obtain ⟨M,last,o,W',t',g1,g2,g3,g4⟩:=run_good_ct (by kernel_rfl) (LinenMore_ct (RR W) _ Y0 _ Y1 S2 _ L3 hy0 hy1 hy3 ⟨rfl,rfl⟩) (st_immOf W) rfl
  refine ⟨M,last,o,W',t',g1,g2,g3,g4.mono fun e ⟨σ',I',M',hm,hle,⟨hv,hM⟩,st'⟩=>?_⟩
  subst hv
  obtain ⟨hsame,hos,hout⟩:=same_of_le hle st' hm
  have hk:∀ may:MemPlace→Prop,W.keptBut W' may:=fun may=>keptBut_same hsame hos hout
  refine ⟨_,_,_,[],p,[],hW',?_,?_,?_,hk _,fun h=>by cases h⟩
  · exact trodAll_mk1 (shut_bool Tryz.underlying4 true)
  · exact all_stay Row.laidOut (fun t ht=>by have h1:=List.all_eq_true.1 (show ([26,26,28,29].all fun t=>Tryz.prog.readableRec t&&decide (t<Tryz.prog.types.size))=true by kernel_rfl) t ht;simpa using h1) hA2 (fun x hx=>sameAt_heap (hsame _ (hlt x hx))) (fun x hx=>by simpa using hlt x hx)
  · rfl
theorem f_holds:Rows.LinenMoreSaid:=
  OpenClaim.holds_of_wide_leaving 13 Tryz.f13 rfl rfl rfl rfl rfl rfl rfl ⟨rfl,rfl,rfl,rfl,rfl⟩ rfl rfl rfl rfl rfl (by kernel_rfl) Tryz.func13 Row.joined
    (of_decide_eq_true (by kernel_rfl)) (by unfold Func.isWrapper;rw [if_neg (of_decide_eq_false (by kernel_rfl))];exact ⟨rfl,rfl⟩)
    (fun os started H enc _=>law_lifted os started H enc)
#print axioms f_holds
end Go.Proofs.YtgcemienebmdeaaGreat
