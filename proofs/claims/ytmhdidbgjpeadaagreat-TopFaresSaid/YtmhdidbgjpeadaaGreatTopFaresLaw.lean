/- Sold berths, each paid for by the section, and paid back when given back, leave in the till just the fare of all sections that are held then, and the account balances to the last piece. -/
import Derived.Test.YtmhdidbgjpeadaaGreatTopFaresP7
import Derived.Test.YtmhdidbgjpeadaaGreatRows
import Derived.ChangeVars
import Derived.JoinedOf
import Derived.RowKit
import Derived.RowKitTokens
import Derived.Stop.Joined
import Derived.WideKeyArgs
import Derived.ProofKit
import Derived.SizedLaws
set_option linter.unusedVariables false
set_option linter.unusedSimpArgs false
namespace Go.Proofs.YtmhdidbgjpeadaaGreat
open Go Go.ChangeShapes Go.WideShapes Go.RowKit Go.Sl Go.Sh
set_option maxRecDepth 100000
theorem Row.own:ownKnob Tryz.prog.godebug=none:=by kernel_rfl
theorem Row.laidOut:laidOutB Tryz.prog=true:=by kernel_rfl
theorem Row.cells:Tryz.prog.cellsOf 3=1:=by kernel_rfl
theorem Row.bytes:Tryz.prog.bytesOf 3=8:=by kernel_rfl
theorem law_lifted (os : Os) (started : os.Started) (H : Type) (enc : TypeId × Value → H) :
    ReturnsInHanded {} Tryz.checked os 3 .any (Rows.topFaresSpec.pre6 enc Tryz.prog Tryz.f3 Rows.topFaresRow.domain false) (Rows.topFaresSpec.post enc Tryz.prog Tryz.f3 false true false false):=by
  refine returnsInHanded_of_change_sized (C:=Tryz.checked) Row.own started (by kernel_rfl) Tryz.func3
    (ChangeSpec.witness6 (enc:=enc) (C:=Tryz.checked) false ⟨#[],#[.slice none 0 0],[]⟩ 8 (by kernel_rfl) (by kernel_rfl) (by kernel_rfl) (by kernel_rfl)) ?_
  intro W base args ds gs before hval0 hW _ hsz0 _
  have hsz:(DataW.weightsEach Tryz.prog (Tryz.f3.params.toList++Rows.topFaresSpec.plain.varTypes Tryz.prog) (ds++gs)).all (·≤reachBytes)=true:=hsz0
  have hval:∀ (j:Nat) t v,Tryz.f3.params[j]?=some t→args[j]?=some v→Value.okWide Tryz.prog W .any base t v:=hval0
  clear hsz0 hval0
  have hW':=hW
  obtain ⟨p,q,hA0,hV,rfl,hfz,hnd⟩:=hW
  have hA:DataW.TrodAll enc Tryz.prog W 0 (fun _=>true) true Tryz.f3.params.toList args.toList ds p:=hA0
  rw [Tryz.params3] at hA hval
  obtain ⟨v0,vs0,d0,ds0,p0,q0,ha0,rfl,hp0,h0,r0⟩:=trodAll_cons hA
  obtain ⟨hav,rfl,hpn⟩:=trodAll_nil r0
  have hargs:args=#[v0]:=Array.toList_inj.1 (by rw [ha0,hav])
  subst hargs
  obtain ⟨rfl,rfl⟩:=trodVars_none hV
  have hlt:∀ x∈p,x.block<W.heap.size:=fun x hx=>by simpa using hW'.lt x (List.mem_append_left _ hx)
  have hA2:=hA
  clear hA r0 ha0 hav
  obtain ⟨a0,n0,c0,rfl⟩:=okWide_slice Tryz.underlying22 (hval 0 22 v0 rfl rfl)
  obtain ⟨fu0,hf0⟩:=h0
  obtain ⟨L0,hy0⟩:=ints_of (t:=22) (e:=3) Tryz.underlying22 Tryz.underlying3 (by kernel_rfl) (of_decide_eq_true (by kernel_rfl)) hf0 (light_arg hsz (j:=0) rfl rfl)
  refine (TopFares_ct (immOf W) _ L0 hy0 [] W (by simpa using st_immOf W)).mono fun e W' ⟨v,I',M',he,hle,⟨hv,hM⟩,st'⟩=>?_
  subst he
  subst hv
  obtain ⟨hsame,hos,hout⟩:=same_of_le hle st'
  have hk:∀ may:MemPlace→Prop,W.keptBut W' may:=fun may=>keptBut_same hsame hos hout
  refine ⟨_,rfl,?_⟩
  refine ⟨_,_,_,[],p,[],hW',?_,?_,?_,hk _,fun h=>by cases h⟩
  · exact trodAll_mk1 (shut_bool Tryz.underlying4 true)
  · exact all_stay Row.laidOut (fun t ht=>by have h1:=List.all_eq_true.1 (show ([22].all fun t=>Tryz.prog.readableRec t&&decide (t<Tryz.prog.types.size))=true by kernel_rfl) t ht;simpa using h1) hA2 (fun x hx=>sameAt_heap (hsame _ (hlt x hx))) (fun x hx=>by simpa using hlt x hx)
  · rfl
theorem f_holds:Rows.TopFaresSaid:=
  OpenClaim.holds_of_wide 3 Tryz.f3 rfl rfl rfl rfl rfl rfl rfl ⟨rfl,rfl,rfl,rfl,rfl⟩ rfl rfl rfl rfl rfl (by kernel_rfl) Tryz.func3 (by kernel_rfl)
    (of_decide_eq_true (by kernel_rfl)) (by unfold Func.isWrapper;rw [if_neg (of_decide_eq_false (by kernel_rfl))];exact ⟨rfl,rfl⟩)
    (fun os started H enc _=>law_lifted os started H enc)
#print axioms f_holds
end Go.Proofs.YtmhdidbgjpeadaaGreat
