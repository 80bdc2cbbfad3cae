/- A book of linen is read from its text, and what is read is written as it was. -/
import Derived.Test.YtgcemienebmdeaaGreatDoorLinenWrittenP8
import Derived.Test.YtgcemienebmdeaaGreatDoorP4
import Derived.Test.YtgcemienebmdeaaGreatDoorLinenWrittenP9
import Derived.ChangeVars
import Derived.JoinedOf
import Derived.RowKit
import Derived.RowKitTokens
import Derived.LaidLaws
import Derived.LaidHandle
import Derived.Stop.Joined
import Derived.SevenTiedAt
import Derived.WideKeyArgs
import Derived.ProofKit
import Derived.SizedLaws
set_option linter.unusedVariables false
set_option linter.unusedSimpArgs false
namespace Go.Proofs.YtgcemienebmdeaaGreatDoor
open Go Go.ChangeShapes Go.WideShapes Go.RowKit Go.Sl
set_option maxRecDepth 100000
theorem law_lifted (os : Os) (started : os.Started) (H : Type) (enc : TypeId × Value → H) :
    ReturnsInHanded {} Tryz.checked os 5 .any (fun w args=>(Rows.linenWrittenSpec.pre enc Tryz.prog Tryz.f5 [] false w args∧laidMetH Tryz.prog LT w)∧sizedMet enc Tryz.prog Tryz.f5 (OpenSpec.ofChange Rows.linenWrittenSpec) false w args)
      (Rows.linenWrittenSpec.post enc Tryz.prog Tryz.f5 false true false false):=by
  refine PZ (C:=Tryz.checked) (X:=fun w _=>laidMetH Tryz.prog LT w) (fun _ _ _ hh h=>h.of_heap hh) Row.own started (by kernel_rfl) Tryz.func5
    (ChangeSpec.witness_shaped (enc:=enc) (C:=Tryz.checked) (os:=os) (X:=fun w _=>laidMetH Tryz.prog LT w) false (MT os) #[.slice none 0 0,.string ⟨#[]⟩] 8 (laidWorldT_os os) (World.shaped_of_ZipB (by kernel_rfl) (by kernel_rfl)) (by kernel_rfl) (by kernel_rfl) (by kernel_rfl) (laidWorldT_met os _)) ?_
  intro W base args ds gs before hval0 hW _ hsz0 hL hsh
  have hsz:(DataW.weightsEach Tryz.prog (Tryz.f5.params.toList++Rows.linenWrittenSpec.plain.varTypes Tryz.prog) (ds++gs)).all (·≤reachBytes)=true:=hsz0
  have hval:∀ (j:Nat) t v,Tryz.f5.params[j]?=some t→args[j]?=some v→Value.okWide Tryz.prog W .any base t v:=hval0
  clear hsz0 hval0
  have hW':=hW
  obtain ⟨p,q,hA0,hV,rfl,hfz,hnd⟩:=hW
  have hA:DataW.TrodAll enc Tryz.prog W 0 (fun _=>true) true Tryz.f5.params.toList args.toList ds p:=hA0
  rw [Tryz.params5] at hA hval
  obtain ⟨v0,vs0,d0,ds0,p0,q0,ha0,rfl,hp0,h0,r0⟩:=trodAll_cons hA
  obtain ⟨v1,vs1,d1,ds1,p1,q1,ha1,rfl,hp1,h1,r1⟩:=trodAll_cons r0
  obtain ⟨hav,rfl,hpn⟩:=trodAll_nil r1
  have hargs:args=#[v0,v1]:=Array.toList_inj.1 (by rw [ha0,ha1,hav])
  subst hargs
  obtain ⟨rfl,rfl⟩:=trodVars_none hV
  have hgt:=text_of_laid hL hsh
  have hlt:∀ x∈p,x.block<W.heap.size:=fun x hx=>by simpa using hW'.lt x (List.mem_append_left _ hx)
  have hA2:=hA
  clear hA r0 r1 ha0 ha1 hav
  obtain ⟨a0,n0,c0,rfl⟩:=okWide_slice Tryz.underlying33 (hval 0 33 v0 rfl rfl)
  obtain ⟨fu0,hf0⟩:=h0
  obtain ⟨L0,hy0⟩:=ints_of (t:=33) (e:=3) Tryz.underlying33 Tryz.underlying3 (by kernel_rfl) (of_decide_eq_true (by kernel_rfl)) hf0 (light_arg hsz (j:=0) rfl rfl)
  obtain ⟨s1,rfl,rfl,rfl,ws1⟩:=Go.ChangeMaps.open_string Tryz.underlying9 (hval 1 9 v1 rfl rfl) h1
  refine (LinenWritten_ct (QA W) _ L0 s1.data.toList hy0 hgt.2 hgt.1 [] W (by simpa using st_immOf W)).mono fun e W' ⟨v,I',M',he,hle,⟨hv,hM⟩,st'⟩=>?_
  subst he
  subst hv
  obtain ⟨hsame,hos,hout⟩:=same_of_le hle st'
  have hk:∀ may:MemPlace→Prop,W.keptBut W' may:=fun may=>keptBut_same hsame hos hout
  refine ⟨_,rfl,?_⟩
  refine ⟨_,_,_,[],p,[],hW',?_,?_,?_,hk _,fun h=>by cases h⟩
  · exact trodAll_mk1 (shut_bool Tryz.underlying4 true)
  · exact all_stay Row.laidOut (fun t ht=>by have h1:=List.all_eq_true.1 (show ([33,9].all fun t=>Tryz.prog.readableRec t&&decide (t<Tryz.prog.types.size))=true by kernel_rfl) t ht;simpa using h1) hA2 (fun x hx=>sameAt_heap (hsame _ (hlt x hx))) (fun x hx=>by simpa using hlt x hx)
  · rfl
theorem Row.f2:(Rows.linenWrittenRow.inPlace == Tryz.pinned.checked.prog.inPlace 5)=true:=by kernel_rfl
theorem Row.f3:(Rows.linenWrittenRow.unfollowed == Tryz.pinned.checked.prog.unfollowed 5)=true:=by kernel_rfl
theorem Row.f4:(Rows.linenWrittenRow.recurses == Tryz.pinned.checked.prog.recurses 5)=true:=by kernel_rfl
theorem Row.f5:(Rows.linenWrittenRow.named == Tryz.pinned.checked.prog.varsNamed 5)=true:=by kernel_rfl
theorem Row.goes:true=Rows.linenWrittenRow.goesBy Tryz.pinned.checked.prog:=by kernel_rfl
theorem Row.joined:joinedFacts Tryz.pinned.checked.prog 5 Tryz.f5 Rows.linenWrittenSpec Rows.linenWrittenRow=true:=
  joined_of (by kernel_rfl) Row.laidOut Row.f2 Row.f3 Row.f4 Row.f5 (by kernel_rfl) (by kernel_rfl) Row.lifts Row.make (by kernel_rfl)
theorem f_holds:Rows.LinenWrittenSaid:=
  OpenClaim.holds_of_wide_leaving 5 Tryz.f5 rfl rfl rfl rfl rfl rfl rfl ⟨rfl,rfl,rfl,rfl,rfl⟩ rfl rfl rfl rfl rfl (by kernel_rfl) Tryz.func5 Row.joined
    (of_decide_eq_true (by kernel_rfl)) (by unfold Func.isWrapper;rw [if_neg (of_decide_eq_false (by kernel_rfl))];exact ⟨rfl,rfl⟩)
    (fun os started H enc _=>QC (law_lifted os started H enc))
theorem card_holds:Rows.LinenWrittenCardSaid:=
  card_goes .later [.data,.data,.data,.data,.handle,.sentinel,.sentinel,.pinned] true (true,"ea40bc547c8621efc91147a3f25ad1c9f176af31bd7b28efa531caa2c61ed689") true
    f_holds (by kernel_rfl) linenWritten_row_tie rfl ⟨rfl,rfl⟩ (by kernel_rfl) rfl
    (fun f fn hf hfn=>by
      obtain rfl:f=5:=Option.some.inj (hf.symm.trans (by kernel_rfl))
      obtain rfl:fn=Tryz.f5:=(Option.some.inj (Tryz.func5.symm.trans hfn)).symm
      exact ⟨Row.looks,fun j t ht=>by
        rw [Tryz.params5] at ht
        have h3:=List.all_eq_true.1 (show ([33,9].all fun t=>Tryz.prog.wantsStandIn t == false)=true by kernel_rfl) t (List.mem_of_getElem? (l:=[33,9]) (i:=j) (by simpa using ht))
        exact beq_iff_eq.1 h3⟩)
    Row.goes
#print axioms card_holds
end Go.Proofs.YtgcemienebmdeaaGreatDoor
