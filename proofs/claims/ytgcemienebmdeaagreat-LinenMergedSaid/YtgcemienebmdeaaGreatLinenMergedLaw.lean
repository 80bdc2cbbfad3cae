/- For every list of numbers LinenMerged returns true, and changes nothing of it; no condition. -/
import Derived.Test.YtgcemienebmdeaaGreatLinenMergedP8
import Derived.Test.YtgcemienebmdeaaGreatRows
import Derived.Conc.LeavingOf
import Derived.Test.YtgcemienebmdeaaGreatLinenMergedP3
import Derived.ChangeVars
import Derived.JoinedOf
import Derived.RowKit
import Derived.RowKitTokens
import Derived.Stop.Joined
import Derived.WideKeyArgs
import Derived.ProofKit
import Derived.SizedLaws
set_option linter.unusedVariables false
set_option linter.unusedSimpArgs false
namespace Go.Proofs.YtgcemienebmdeaaGreat
open Go Go.ChangeShapes Go.WideShapes Go.RowKit Go.Sl Go.Sh
set_option maxRecDepth 100000
theorem Row.own:ownKnob Tryz.prog.godebug=none:=by kernel_rfl
theorem Row.laidOut:laidOutB Tryz.prog=true:=by kernel_rfl
theorem Row.cells:Tryz.prog.cellsOf 3=1:=by kernel_rfl
theorem Row.bytes:Tryz.prog.bytesOf 3=8:=by kernel_rfl
theorem Row.f2:(Rows.linenMergedRow.inPlace == Tryz.pinned.checked.prog.inPlace 14)=true:=by kernel_rfl
theorem Row.f3:(Rows.linenMergedRow.unfollowed == Tryz.pinned.checked.prog.unfollowed 14)=true:=by kernel_rfl
theorem Row.f4:(Rows.linenMergedRow.recurses == Tryz.pinned.checked.prog.recurses 14)=true:=by kernel_rfl
theorem Row.f5:(Rows.linenMergedRow.named == Tryz.pinned.checked.prog.varsNamed 14)=true:=by kernel_rfl
theorem Row.lifts:(false == Tryz.pinned.checked.prog.liftsFinal)=true:=by kernel_rfl
theorem Row.make:(Tryz.pinned.checked.prog.make == some Make.cut)=true:=by kernel_rfl
theorem Row.joined:joinedFacts Tryz.pinned.checked.prog 14 Tryz.f14 Rows.linenMergedSpec Rows.linenMergedRow=true:=
  joined_of (by kernel_rfl) Row.laidOut Row.f2 Row.f3 Row.f4 Row.f5 (by kernel_rfl) (by kernel_rfl) Row.lifts Row.make (by kernel_rfl)
theorem law_lifted (os : Os) (started : os.Started) (H : Type) (enc : TypeId × Value → H) :
    ReturnsInLeavingWide {} Tryz.checked os 14 .any (Rows.linenMergedSpec.pre6 enc Tryz.prog Tryz.f14 Rows.linenMergedRow.domain false) (Rows.linenMergedSpec.post enc Tryz.prog Tryz.f14 false true false false):=by
  refine returnsInLeavingWide_of_change_sized (C:=Tryz.checked) Row.own started Tryz.func14
    (ChangeSpec.witness6 (enc:=enc) (C:=Tryz.checked) false ⟨#[],#[.slice none 0 0],[]⟩ 8 (by kernel_rfl) (by kernel_rfl) (by kernel_rfl) (by kernel_rfl)) ?_
  intro W base args ds gs before hval0 hW _ hsz0 _
  have hsz:(DataW.weightsEach Tryz.prog (Tryz.f14.params.toList++Rows.linenMergedSpec.plain.varTypes Tryz.prog) (ds++gs)).all (·≤reachBytes)=true:=hsz0
  have hval:∀ (j:Nat) t v,Tryz.f14.params[j]?=some t→args[j]?=some v→Value.okWide Tryz.prog W .any base t v:=hval0
  clear hsz0 hval0
  have hW':=hW
  obtain ⟨p,q,hA0,hV,rfl,hfz,hnd⟩:=hW
  have hA:DataW.TrodAll enc Tryz.prog W 0 (fun _=>true) true Tryz.f14.params.toList args.toList ds p:=hA0
  rw [Tryz.params14] at hA hval
  obtain ⟨v0,vs0,d0,ds0,p0,q0,ha0,rfl,hp0,h0,r0⟩:=trodAll_cons hA
  obtain ⟨hav,rfl,hpn⟩:=trodAll_nil r0
  have hargs:args=#[v0]:=Array.toList_inj.1 (by rw [ha0,hav])
  subst hargs
  obtain ⟨rfl,rfl⟩:=trodVars_none hV
  have hlt:∀ x∈p,x.block<W.heap.size:=fun x hx=>by simpa using hW'.lt x (List.mem_append_left _ hx)
  have hA2:=hA
  clear hA r0 ha0 hav
  obtain ⟨a0,n0,c0,rfl⟩:=okWide_slice Tryz.underlying29 (hval 0 29 v0 rfl rfl)
  obtain ⟨fu0,hf0⟩:=h0
  obtain ⟨L0,hy0⟩:=ints_of (t:=29) (e:=3) Tryz.underlying29 Tryz.underlying3 (by kernel_rfl) (of_decide_eq_true (by kernel_rfl)) hf0 (light_arg hsz (j:=0) rfl rfl)
  obtain ⟨M,last,o,W',t',g1,g2,g3,g4⟩:=run_good_ct (by kernel_rfl) (LinenMerged_ct (immOf W) _ L0 hy0 ⟨rfl,rfl⟩) (st_immOf W) rfl
  refine ⟨M,last,o,W',t',g1,g2,g3,g4.mono fun e ⟨σ',I',M',hm,hle,⟨hv,hM⟩,st'⟩=>?_⟩
  subst hv
  obtain ⟨hsame,hos,hout⟩:=same_of_le hle st' hm
  have hk:∀ may:MemPlace→Prop,W.keptBut W' may:=fun may=>keptBut_same hsame hos hout
  refine ⟨_,_,_,[],p,[],hW',?_,?_,?_,hk _,fun h=>by cases h⟩
  · exact trodAll_mk1 (shut_bool Tryz.underlying4 true)
  · exact all_stay Row.laidOut (fun t ht=>by have h1:=List.all_eq_true.1 (show ([29].all fun t=>Tryz.prog.readableRec t&&decide (t<Tryz.prog.types.size))=true by kernel_rfl) t ht;simpa using h1) hA2 (fun x hx=>sameAt_heap (hsame _ (hlt x hx))) (fun x hx=>by simpa using hlt x hx)
  · rfl
theorem f_holds:Rows.LinenMergedSaid:=
  OpenClaim.holds_of_wide_leaving 14 Tryz.f14 rfl rfl rfl rfl rfl rfl rfl ⟨rfl,rfl,rfl,rfl,rfl⟩ rfl rfl rfl rfl rfl (by kernel_rfl) Tryz.func14 Row.joined
    (of_decide_eq_true (by kernel_rfl)) (by unfold Func.isWrapper;rw [if_neg (of_decide_eq_false (by kernel_rfl))];exact ⟨rfl,rfl⟩)
    (fun os started H enc _=>law_lifted os started H enc)
#print axioms f_holds
end Go.Proofs.YtgcemienebmdeaaGreat
