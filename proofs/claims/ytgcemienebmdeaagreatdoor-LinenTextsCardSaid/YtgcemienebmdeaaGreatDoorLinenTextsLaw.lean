/- For every book of linen, every text, every list of numbers, two numbers and a byte, LinenTexts returns true, and changes nothing of what it was given; no condition. -/
import Derived.Test.YtgcemienebmdeaaGreatDoorLinenTextsP9
import Derived.Test.YtgcemienebmdeaaGreatDoorP4
import Derived.ChangeVars
import Derived.JoinedOf
import Derived.RowKit
import Derived.RowKitTokens
import Derived.LaidLaws
import Derived.LaidHandle
import Derived.Stop.Joined
import Derived.SevenTiedAt
import Derived.WideKeyArgs
import Derived.ProofKit
import Derived.SizedLaws
set_option linter.unusedVariables false
set_option linter.unusedSimpArgs false
namespace Go.Proofs.YtgcemienebmdeaaGreatDoor
open Go Go.ChangeShapes Go.WideShapes Go.RowKit Go.Sl
set_option maxRecDepth 100000
theorem law_lifted (os : Os) (started : os.Started) (H : Type) (enc : TypeId × Value → H) :
    ReturnsInHanded {} Tryz.checked os 4 .any (fun w args=>(Rows.linenTextsSpec.pre enc Tryz.prog Tryz.f4 [] false w args∧laidMetH Tryz.prog LT w)∧sizedMet enc Tryz.prog Tryz.f4 (OpenSpec.ofChange Rows.linenTextsSpec) false w args)
      (Rows.linenTextsSpec.post enc Tryz.prog Tryz.f4 false true false false):=by
  refine RC (C:=Tryz.checked) (X:=fun w _=>laidMetH Tryz.prog LT w) (fun _ _ _ hh h=>h.of_heap hh) Row.own started (by kernel_rfl) Tryz.func4
    (ChangeSpec.witness_shaped (enc:=enc) (C:=Tryz.checked) (os:=os) (X:=fun w _=>laidMetH Tryz.prog LT w) false (NT os) #[.agg #[.int .i64 0,.int .i64 0,.slice none 0 0,.slice none 0 0,.slice none 0 0],.string ⟨#[]⟩,.slice none 0 0,.int .i64 0,.int .i64 0,.int .u8 0] 8 (laidWorldT_os os) (World.shaped_of_ZipB (by kernel_rfl) (by kernel_rfl)) (by kernel_rfl) (by kernel_rfl) (by kernel_rfl) (laidWorldT_met os _)) ?_
  intro W base args ds gs before hval0 hW _ hsz0 hL hsh
  have hsz:(DataW.weightsEach Tryz.prog (Tryz.f4.params.toList++Rows.linenTextsSpec.plain.varTypes Tryz.prog) (ds++gs)).all (·≤reachBytes)=true:=hsz0
  have hval:∀ (j:Nat) t v,Tryz.f4.params[j]?=some t→args[j]?=some v→Value.okWide Tryz.prog W .any base t v:=hval0
  clear hsz0 hval0
  have hW':=hW
  obtain ⟨p,q,hA0,hV,rfl,hfz,hnd⟩:=hW
  have hA:DataW.TrodAll enc Tryz.prog W 0 (fun _=>true) true Tryz.f4.params.toList args.toList ds p:=hA0
  rw [Tryz.params4] at hA hval
  obtain ⟨v0,vs0,d0,ds0,p0,q0,ha0,rfl,hp0,h0,r0⟩:=trodAll_cons hA
  obtain ⟨v1,vs1,d1,ds1,p1,q1,ha1,rfl,hp1,h1,r1⟩:=trodAll_cons r0
  obtain ⟨v2,vs2,d2,ds2,p2,q2,ha2,rfl,hp2,h2,r2⟩:=trodAll_cons r1
  obtain ⟨v3,vs3,d3,ds3,p3,q3,ha3,rfl,hp3,h3,r3⟩:=trodAll_cons r2
  obtain ⟨v4,vs4,d4,ds4,p4,q4,ha4,rfl,hp4,h4,r4⟩:=trodAll_cons r3
  obtain ⟨v5,vs5,d5,ds5,p5,q5,ha5,rfl,hp5,h5,r5⟩:=trodAll_cons r4
  obtain ⟨hav,rfl,hpn⟩:=trodAll_nil r5
  have hargs:args=#[v0,v1,v2,v3,v4,v5]:=Array.toList_inj.1 (by rw [ha0,ha1,ha2,ha3,ha4,ha5,hav])
  subst hargs
  obtain ⟨rfl,rfl⟩:=trodVars_none hV
  have hgt:=text_of_laid hL hsh
  have hlt:∀ x∈p,x.block<W.heap.size:=fun x hx=>by simpa using hW'.lt x (List.mem_append_left _ hx)
  have hA2:=hA
  clear hA r0 r1 r2 r3 r4 r5 ha0 ha1 ha2 ha3 ha4 ha5 hav
  obtain ⟨cs0,rfl,hz0⟩:=okWide_struct Tryz.underlying26 (hval 0 26 v0 rfl rfl)
  obtain ⟨fu0,hf0⟩:=h0
  obtain ⟨Y0,hy0⟩:=lin_of (t:=26) (i:=3) (tr:=33) (tt:=22) (tk:=23) (k:=75) (ts:=24) (s:=29) (cs:=cs0.toList) (by kernel_rfl) Tryz.underlying22 Tryz.underlying33 Tryz.underlying3 Tryz.underlying23 Tryz.underlying24 hf0 (light_arg hsz (j:=0) rfl rfl)
  rw [Array.toArray_toList] at hy0
  obtain ⟨s1,rfl,rfl,rfl,ws1⟩:=Go.ChangeMaps.open_string Tryz.underlying9 (hval 1 9 v1 rfl rfl) h1
  obtain ⟨a2,n2,c2,rfl⟩:=okWide_slice Tryz.underlying33 (hval 2 33 v2 rfl rfl)
  obtain ⟨fu2,hf2⟩:=h2
  obtain ⟨L2,hy2⟩:=ints_of (t:=33) (e:=3) Tryz.underlying33 Tryz.underlying3 (by kernel_rfl) (of_decide_eq_true (by kernel_rfl)) hf2 (light_arg hsz (j:=2) rfl rfl)
  obtain ⟨x3,rfl,rfl,rfl,wx3⟩:=open_int Tryz.underlying3 (hval 3 3 v3 rfl rfl) h3
  obtain ⟨x4,rfl,rfl,rfl,wx4⟩:=open_int Tryz.underlying3 (hval 4 3 v4 rfl rfl) h4
  obtain ⟨x5,rfl,rfl,rfl,wx5⟩:=open_int Tryz.underlying5 (hval 5 5 v5 rfl rfl) h5
  obtain ⟨b5,rfl⟩:=byte_of wx5
  refine (LinenTexts_ct (MC W) _ Y0 s1.data.toList _ L2 x3 x4 b5 hy0 hy2 hgt.2 hgt.1 [] W (by simpa using st_immOf W)).mono fun e W' ⟨v,I',M',he,hle,⟨hv,hM⟩,st'⟩=>?_
  subst he
  subst hv
  obtain ⟨hsame,hos,hout⟩:=same_of_le hle st'
  have hk:∀ may:MemPlace→Prop,W.keptBut W' may:=fun may=>keptBut_same hsame hos hout
  refine ⟨_,rfl,?_⟩
  refine ⟨_,_,_,[],p,[],hW',?_,?_,?_,hk _,fun h=>by cases h⟩
  · exact trodAll_mk1 (shut_bool Tryz.underlying4 true)
  · exact all_stay Row.laidOut (fun t ht=>by have h1:=List.all_eq_true.1 (show ([26,9,33,3,3,5].all fun t=>Tryz.prog.readableRec t&&decide (t<Tryz.prog.types.size))=true by kernel_rfl) t ht;simpa using h1) hA2 (fun x hx=>sameAt_heap (hsame _ (hlt x hx))) (fun x hx=>by simpa using hlt x hx)
  · rfl
theorem Row.f2:(Rows.linenTextsRow.inPlace == Tryz.pinned.checked.prog.inPlace 4)=true:=by kernel_rfl
theorem Row.f3:(Rows.linenTextsRow.unfollowed == Tryz.pinned.checked.prog.unfollowed 4)=true:=by kernel_rfl
theorem Row.f4:(Rows.linenTextsRow.recurses == Tryz.pinned.checked.prog.recurses 4)=true:=by kernel_rfl
theorem Row.f5:(Rows.linenTextsRow.named == Tryz.pinned.checked.prog.varsNamed 4)=true:=by kernel_rfl
theorem Row.goes:true=Rows.linenTextsRow.goesBy Tryz.pinned.checked.prog:=by kernel_rfl
theorem Row.joined:joinedFacts Tryz.pinned.checked.prog 4 Tryz.f4 Rows.linenTextsSpec Rows.linenTextsRow=true:=
  joined_of (by kernel_rfl) Row.laidOut Row.f2 Row.f3 Row.f4 Row.f5 (by kernel_rfl) (by kernel_rfl) Row.lifts Row.make (by kernel_rfl)
theorem f_holds:Rows.LinenTextsSaid:=
  OpenClaim.holds_of_wide_leaving 4 Tryz.f4 rfl rfl rfl rfl rfl rfl rfl ⟨rfl,rfl,rfl,rfl,rfl⟩ rfl rfl rfl rfl rfl (by kernel_rfl) Tryz.func4 Row.joined
    (of_decide_eq_true (by kernel_rfl)) (by unfold Func.isWrapper;rw [if_neg (of_decide_eq_false (by kernel_rfl))];exact ⟨rfl,rfl⟩)
    (fun os started H enc _=>RF (law_lifted os started H enc))
theorem card_holds:Rows.LinenTextsCardSaid:=
  card_goes .later [.data,.data,.data,.data,.handle,.sentinel,.sentinel,.pinned] true (true,"ea40bc547c8621efc91147a3f25ad1c9f176af31bd7b28efa531caa2c61ed689") true
    f_holds (by kernel_rfl) linenTexts_row_tie rfl ⟨rfl,rfl⟩ (by kernel_rfl) rfl
    (fun f fn hf hfn=>by
      obtain rfl:f=4:=Option.some.inj (hf.symm.trans (by kernel_rfl))
      obtain rfl:fn=Tryz.f4:=(Option.some.inj (Tryz.func4.symm.trans hfn)).symm
      exact ⟨Row.looks,fun j t ht=>by
        rw [Tryz.params4] at ht
        have h3:=List.all_eq_true.1 (show ([26,9,33,3,3,5].all fun t=>Tryz.prog.wantsStandIn t == false)=true by kernel_rfl) t (List.mem_of_getElem? (l:=[26,9,33,3,3,5]) (i:=j) (by simpa using ht))
        exact beq_iff_eq.1 h3⟩)
    Row.goes
#print axioms card_holds
end Go.Proofs.YtgcemienebmdeaaGreatDoor
