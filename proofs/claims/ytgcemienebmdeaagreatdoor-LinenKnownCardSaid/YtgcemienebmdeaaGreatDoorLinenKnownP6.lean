/- A part of the proof of the laws of this seat. -/
import Derived.Test.YtgcemienebmdeaaGreatDoorLinenKnownP2
import Derived.Test.YtgcemienebmdeaaGreatDoorLinenKnownP5
import Derived.Test.YtgcemienebmdeaaGreatDoorLinenKnownP3
import GoSem.Extern.BytealgMakeNoZero
import Derived.Lib.UnsafeStr
import Derived.Lib.Join
import Derived.Test.YtgcemienebmdeaaGreatDoorLinenKnownP4
import Derived.Test.YtgcemienebmdeaaGreatDoorLinenKnownP1
import Derived.Test.YtgcemienebmdeaaGreatDoorLinenKnownP0
import Derived.Conc.Beside
import Derived.Conc.CrowdComm
import Derived.Conc.LeavingOf
import Derived.LoopNIn
import Derived.Conc.Own2
set_option linter.unusedVariables false
set_option linter.unusedSimpArgs false
namespace Go.Proofs.YtgcemienebmdeaaGreatDoor
open Go Go.Sl Go.Sh
set_option maxRecDepth 100000
noncomputable def c_joined:=cod Tryz.f66
theorem HY (I:Imm) (wd:List UInt8) (z:Value) (xs:List Int) (z_f:DB I z xs) (h3:∀ x∈xs,0≤x∧x<100) (hw:wd.length≤1000∧xs.length≤1000):CtV Tryz.prog 66 #[sV wd,z] I (sV (jn wd xs)):=by
 obtain ⟨a1,a2,a8,b1,rfl,a9,b0,a3⟩:=id z_f;refine fr (args:=[_,_]) (N:=20) Tryz.func66 (fun F=>?_);show Run _ _ (c_joined []) _ _ [(0,_),(1,_)] _ _;refine rnm ?_;have h4:∀ x∈xs,0≤x∧x<1000:=fun x hx=>by have h5:=h3 x hx;omega
 refine rqr (sp 1 [(4,sV ([]:List UInt8))] (se (rq (rqr (sp 3 [(9,vI 0),(8,vI (↑(xs.length))),(7,vS a1 xs.length a2)] (CM 0 rfl (show (sV wd:Value)=sV (jn wd (xs.take 0)) from congrArg sV (jn_zero wd xs).symm) (se (rb 0 ?_))))))));refine rl (fun mz a w=>∃ k:Nat,(k≤xs.length)∧SD 20 [(0,sV (jn wd (xs.take k))),(9,vI ↑k),(4,sV ([]:List UInt8)),(7,vS a1 xs.length a2),(8,vI (↑(xs.length)))] I F a w (mz=xs.length-k)) ?_ ?_
 ·intro a w hS hD hW;exact ⟨_,0,Nat.zero_le _,hS.sub su,hD,hW,rfl⟩
 rintro mz a w ⟨k,hk,hS,hD,hW,rfl⟩
 refine AW hS hD hW ?_;clear hS hD hW a w;have a5:=jn_take_le (w:=wd) h4 k;refine rqr (sp 1 [(10,.bool (cmp .lss ↑k (↑(xs.length))))] (se (rq (rc 10 rfl (fun h1=>?_) (fun h1=>?_)))))
 ·
  have a0:=h1;have h1:=CQ h1;refine AM (NX (rq (rb 1 (rqr (sd (di 11 1 k a3.addr) (sd (dl 12 (EM a3 k (by omega))) (sp 1 [(6,vI (xs.getD k 0))] (se ?_))))))));have a7:=h3 _ (SB (xs:=xs) (k:=k) (by omega));have a6:(Lib.itoa (xs.getD k 0)).length≤3:=num_three (h4 _ (SB (xs:=xs) (k:=k) (by omega)));refine rr (sp 2 [(14,vI (xs.getD k 0)),(13,sV (jn wd (xs.take k)))] (sd (dc 15 (fun I' hI=>(ItoaC_ct I' (xs.getD k 0) (by omega) :))) (sd (dct 16 (.const (.string { data:=#[59] })) (.tmp 15) 9 rfl rfl) (sd (dct 17 (.tmp 13) (.tmp 16) 9 rfl rfl) (sp 1 [(0,sV ((jn wd (xs.take k))++(([59]:List UInt8)++(num (xs.getD k 0)))))] (ee (NB (NX (rr (sd (da 18 ↑k 1) (sp 1 [(9,vI (↑k+1))] (ee ?_))))))))))));refine AN (xs.length-(k+1)) (by omega) ?_;intro a w hS hD hW;exact ⟨k+1,by omega,hS.sub (.consE 0 rfl (congrArg sV (jn_step (by omega))) su),hD,hW,rfl⟩
 have a0:=h1;have h1:=CU h1;refine CH 0 (EP (EP (EB (NX (rqr (sp 2 [(4,sV (jn wd (xs.take k)))] (se (BB (rt1 4 rfl (IR _) ?_)))))))));exact ⟨congrArg sV (by rw [List.take_of_length_le (by omega)]),rfl⟩
end Go.Proofs.YtgcemienebmdeaaGreatDoor
namespace Go.Sl
open Go
section
variable {P:Program} [Jud P] {N:Nat} {ops:Array Oper} {i:Nat} {l:Sl} {I:Imm} {M:Seg} {ty:TypeId} {gd:Option (Nat × Bool)} {K:Sl→Imm→Seg→Prop} {κ:Type} [DecidableEq κ] {enc:κ→Value}
theorem IB {x y u : Operand} {T kt et r cl : Nat} {es : Array MapEntry} {kvs : List (κ × Value)} {k : κ} {v : Value} (n : Nat) (hop : EL ops N i = some (none, .insert T x y u, ty, gd)) (hg : EK ops l gd = some true)
    (hT:RL P T=some (kt,et)) (hK:KeyOk P kt enc) (hx:BK l x=some (.map (some r))) (hy:BK l y=some (enc k)) (hu:BK l u=some v) (hn:M[n]?=some (r,Obj.map es cl)) (hb:MapB enc es cl kvs)
    (h:∀ es' cl',MapB enc es' cl' (upd k v kvs)→K l I (M.set n (r,Obj.map es' cl'))):Stp P N ops i l I M K:=
  CI hop hg (known3 hx hy hu) (by
    obtain ⟨his,hbo⟩:=hb
    show wpL P (Instr.mapUpdate T (rho l x) (rho l y) (rho l u) >>= fun _=>pure Next.skip) _ I M
    rw [AU hx,AU hy,AU hu,AD]
    unfold Instr.mapUpdate
    rw [AD,AJ (JT hT)]
    show wpL P (Sem.getObj r _) _ I M
    refine ⟨_,.inl (List.mem_of_getElem? hn),rfl,?_⟩
    show wpL P (Instr.checkKey _ _ _ _ >>= _) _ I _
    rw [AD]
    refine hK.check _ _ _ _ _ ?_
    rw [AD]
    refine hK.find k es.toList kvs _ _ _ his ?_
    have hf:=NI k v kvs 0
    cases hkv:EU k kvs 0 with
    | none=>
      rw [hkv] at hf
      simp only at hf
      show wpL P (Sem.setObj r _ _) _ I M
      refine FC n rfl hn rfl ?_
      refine ⟨undef,.inr ⟨rfl,rfl⟩,h _ _ ⟨?_,hbo.push _ _⟩⟩
      rw [hf.1]
      exact NM his k v cl
    | some p=>
      obtain ⟨j,w⟩:=p
      rw [hkv] at hf
      simp only [Nat.sub_zero] at hf
      obtain ⟨_,h1,_,h2⟩:=hf
      obtain ⟨_,_,h3⟩:=PB k kvs 0 j w hkv
      rw [Nat.sub_zero] at h3
      obtain ⟨e,he,hek,hev⟩:=key_at his h3
      have hold:((es[j]?).map (·.key)).getD (enc k)=enc k:=by rw [he];exact hek
      show wpL P (Instr.keyThatStays (((es[j]?).map (·.key)).getD (enc k)) (enc k) >>= _) _ I M
      rw [AD,hold]
      refine NE ?_
      show wpL P (Sem.setObj r _ _) _ I M
      refine FC n rfl hn rfl ?_
      refine ⟨undef,.inr ⟨rfl,rfl⟩,h _ _ ⟨?_,hbo.modify _ _ (fun _=>rfl)⟩⟩
      rw [h1]
      exact PL his j k v _ rfl)
end
end Go.Sl
namespace Go.Sh
open Go Go.Sl
def strV (l:List (Int × List UInt8)):List (Int × Value):=l.map fun x=>(x.1,sV x.2)
def IsWords (I:Imm) (v:Value):Prop:=∃ r es cl,v=.map (some r)∧I.blk r=some (Obj.map es cl)∧MapB encI es cl (strV wordTab)
theorem getKv_word (k:Int):(KI k (strV wordTab)).getD (sV [])=sV (wordK k):=getKv_words k
theorem words_of {es:Array MapEntry} {cl:Nat} (h:MapB encI es cl (upd 6 (sV [115,99,114,97,112]) (upd 5 (sV [98,117,121]) (upd 4 (sV [99,111,117,110,116]) (upd 3 (sV [119,97,115,104]) (upd 2 (sV [117,115,101]) (upd (1:Int) (sV [109,111,118,101]) []))))))):MapB encI es cl (strV wordTab):=by
  rw [upd_words] at h;exact h
section
variable {P:Program} [Jud P] {N:Nat} {ops:Array Oper} {i:Nat} {l:Sl} {I:Imm} {R M:Seg} {d:Nat} {ty:TypeId} {gd:Option (Nat × Bool)} {K:Sl→Imm→Seg→Prop}
end
def KindAt (w:List UInt8) (k:Int) (todo:List (Int × List UInt8)):Prop:=(∀ y∈todo,y∈wordTab)∧(k=kindOf w∨k=0∧∀ y∈wordTab,y.2=w→y∈todo)
theorem KindAt.start (w:List UInt8):KindAt w 0 wordTab:=⟨fun _ h=>h,.inr ⟨rfl,fun _ h _=>h⟩⟩
end Go.Sh
namespace Go.Proofs.YtgcemienebmdeaaGreatDoor
open Go Go.Sl Go.Sh
set_option maxRecDepth 100000
noncomputable def c_words:=cod Tryz.f103
theorem words_ct (I:Imm):Ct Tryz.prog 103 #[] I ([]) (fun v I' M'=>∃ u:Value,v=u∧M'=[]∧IsWords I' u):=by
 refine fr (args:=[]) (N:=3) Tryz.func103 (fun F=>?_);show Run _ _ (c_words []) _ _ [] _ _;refine rnm (rqr ?_);refine sp 1 [(0,.map none)] (sn (sS (IC (d:=1) (T:=170) (ty:=170) (gd:=none) (by kernel_rfl) rfl (fun b1=>(sS (IB (x:=(.tmp 1)) (y:=(.const (vI 1))) (u:=(.const (.string { data:=#[109,111,118,101] }))) (T:=170) (kt:=3) (et:=9) (k:=(1:Int)) (v:=sV ([109,111,118,101]:List UInt8)) (kvs:=[]) 0 (ty:=0) (gd:=none) (by kernel_rfl) rfl (by kernel_rfl) (EN (DD (by kernel_rfl))) rfl rfl rfl rfl (MapB.nil encI 0) (fun b6 b0 a2=>(nm ?_))))))));refine sS (IB (x:=(.tmp 1)) (y:=(.const (vI 2))) (u:=(.const (.string { data:=#[117,115,101] }))) (T:=170) (kt:=3) (et:=9) (k:=(2:Int)) (v:=sV ([117,115,101]:List UInt8)) (kvs:=(upd (1:Int) (sV ([109,111,118,101]:List UInt8)) [])) 0 (ty:=0) (gd:=none) (by kernel_rfl) rfl (by kernel_rfl) (EN (DD (by kernel_rfl))) rfl rfl rfl rfl a2 (fun b7 b2 a3=>(nm ?_)));refine sS (IB (x:=(.tmp 1)) (y:=(.const (vI 3))) (u:=(.const (.string { data:=#[119,97,115,104] }))) (T:=170) (kt:=3) (et:=9) (k:=(3:Int)) (v:=sV ([119,97,115,104]:List UInt8)) (kvs:=(upd (2:Int) (sV ([117,115,101]:List UInt8)) (upd (1:Int) (sV ([109,111,118,101]:List UInt8)) []))) 0 (ty:=0) (gd:=none) (by kernel_rfl) rfl (by kernel_rfl) (EN (DD (by kernel_rfl))) rfl rfl rfl rfl a3 (fun b8 b3 a4=>(nm ?_)));refine sS (IB (x:=(.tmp 1)) (y:=(.const (vI 4))) (u:=(.const (.string { data:=#[99,111,117,110,116] }))) (T:=170) (kt:=3) (et:=9) (k:=(4:Int)) (v:=sV ([99,111,117,110,116]:List UInt8)) (kvs:=(upd (3:Int) (sV ([119,97,115,104]:List UInt8)) (upd (2:Int) (sV ([117,115,101]:List UInt8)) (upd (1:Int) (sV ([109,111,118,101]:List UInt8)) [])))) 0 (ty:=0) (gd:=none) (by kernel_rfl) rfl (by kernel_rfl) (EN (DD (by kernel_rfl))) rfl rfl rfl rfl a4 (fun b9 b4 a5=>(nm ?_)));refine sS (IB (x:=(.tmp 1)) (y:=(.const (vI 5))) (u:=(.const (.string { data:=#[98,117,121] }))) (T:=170) (kt:=3) (et:=9) (k:=(5:Int)) (v:=sV ([98,117,121]:List UInt8)) (kvs:=(upd (4:Int) (sV ([99,111,117,110,116]:List UInt8)) (upd (3:Int) (sV ([119,97,115,104]:List UInt8)) (upd (2:Int) (sV ([117,115,101]:List UInt8)) (upd (1:Int) (sV ([109,111,118,101]:List UInt8)) []))))) 0 (ty:=0) (gd:=none) (by kernel_rfl) rfl (by kernel_rfl) (EN (DD (by kernel_rfl))) rfl rfl rfl rfl a5 (fun c0 b5 a6=>(nm ?_)));refine sS (IB (x:=(.tmp 1)) (y:=(.const (vI 6))) (u:=(.const (.string { data:=#[115,99,114,97,112] }))) (T:=170) (kt:=3) (et:=9) (k:=(6:Int)) (v:=sV ([115,99,114,97,112]:List UInt8)) (kvs:=(upd (5:Int) (sV ([98,117,121]:List UInt8)) (upd (4:Int) (sV ([99,111,117,110,116]:List UInt8)) (upd (3:Int) (sV ([119,97,115,104]:List UInt8)) (upd (2:Int) (sV ([117,115,101]:List UInt8)) (upd (1:Int) (sV ([109,111,118,101]:List UInt8)) [])))))) 0 (ty:=0) (gd:=none) (by kernel_rfl) rfl (by kernel_rfl) (EN (DD (by kernel_rfl))) rfl rfl rfl rfl a6 (fun a9 a8 a7=>(nm ?_)));refine QD (b:=b1) (o:=Obj.map a9 a8) (M0:=(F)) (PR _) (fun I9 a0 a1=>(sp 2 [(0,.map (some b1))] (se (BB (rt1 0 rfl a0 ?_)))));exact ⟨_,rfl,rfl,⟨_,_,_,rfl,a1,words_of a7⟩⟩
noncomputable def c_slipLine:=cod Tryz.f67
theorem slipLineC_ct (I:Imm) (s:Slip) (hS:TwoS s):Ct Tryz.prog 67 #[.agg #[vI s.num,vI s.hour,vI s.kind,vI s.place,vI s.to,vI s.sort,.bool s.soil,vI s.amt]] I ([]) (fun v I' M'=>v=sV (slipT s)∧M'=[]):=by
 refine fr (args:=[_]) (N:=48) Tryz.func67 (fun F=>?_);show Run _ _ (c_slipLine []) _ _ [(0,_)] _ _;refine rnm ?_;have hLa:=sxA_le hS.three;have hLb:=sxB_le hS.three;have hLc:=sxC_le hS.three;have hLd:=sxD_le hS.three;have i6:=wordK_le s.kind;refine rqr (sS (sb 1 29 (AY s) (fun b1=>(sp 1 [(2,sV ([]:List UInt8))] (se (rq ?_))))));refine rdY (M:=((bX b1 (AY s) 29)::[])) (F0:=F) [(10,vI s.num),(12,vI s.hour),(14,vI s.place)] [10] [(10,15,.bs 3 3 #[vI s.num,vI s.hour,vI s.place])] 11 [(1,true),(2,true),(4,true),(5,true),(6,true),(7,true),(8,true),(9,true),(0,false),(3,true),(10,false)] (by simp only [AA,CA,NA,List.append_nil];exact PR _) (OI (alOk_bsL (ops:=FY (c_slipLine [1,0])) (i:=10) (d:=15) (by kernel_rfl) rfl (by kernel_rfl) (by kernel_rfl)) JH) ?_;refine BH (dpv 6 (vP b1 2)) ?_;refine PT (Rx:=((bX b1 (AY s) 29)::[])) (PR _) (dlb 7 0 2 b1 (vI s.kind)) ?_;refine BH (dpv 9 (vP b1 0)) ?_;refine PT (Rx:=((bX b1 (AY s) 29)::[])) (PR _) (dlb 10 0 0 b1 (vI s.num)) ?_;refine BH (dpv 11 (vP b1 1)) ?_;refine PT (Rx:=((bX b1 (AY s) 29)::[])) (PR _) (dlb 12 0 1 b1 (vI s.hour)) ?_;refine BH (dpv 13 (vP b1 3)) ?_;refine PT (Rx:=((bX b1 (AY s) 29)::[])) (PR _) (dlb 14 0 3 b1 (vI s.place)) ?_;refine EZ (Mx:=fun FX=>((bX b1 (AY s) 29)::FX)) rfl (fun FX=>by simp only [AA,CA,NA,List.append_nil];exact PR _) (fun FX=>?_);have c5:=words_ct I;refine id (sc (some 5) (F:=((bX b1 (AY s) 29)::FX)) (c5 :) (PR _) (fun i2 I3 i1 g0 h9=>?_));obtain ⟨u8,h5,h0,i0⟩:=h9;rw [h5,h0];clear h5 h0;have g6:=i0;obtain ⟨g8,i4,i3,rfl,a0,g7⟩:=id g6;refine HJ (M1:=((bX b1 (AY s) 29)::[])) (by exact (PR _)) (.part (PR _) (.none (.part (PR _) (.none (.part (PR _) (.none (.part (PR _) (.none .nil)))))))) ?_;show OFPX _ _ _ _ _ _ _ _ _ _ ((5,.map (some g8))::_) _ _;refine AG (HI (x:=(.tmp 5)) (y:=(.tmp 7)) (T:=170) (kt:=3) (et:=9) (k:=(s.kind:Int)) (kvs:=strV wordTab) (z:=sV []) (d:=8) (ty:=9) (gd:=none) (by kernel_rfl) rfl (by kernel_rfl) (EN (DD (by kernel_rfl))) rfl rfl (by kernel_rfl) (.inr a0) g7.1 (getKv_word (s.kind:Int))) ?_;refine ofx_bs rfl (fun c6=>?_);refine GM (BA (M':=((bX c6 #[vI s.num,vI s.hour,vI s.place] 3)::(bX b1 (AY s) 29)::F)) (fun w h=>by simpa only [AA,CA,NA,List.append_nil] using h) (nm ?_));refine pm (M':=((bX b1 (AY s) 29)::([(bX c6 #[vI s.num,vI s.hour,vI s.place] 3)]++F))) (PS _ _ _) ?_;have g1:Own 3 1 AK (vS (some ⟨c6,0,none⟩) 3 3) ([(s.num:Int),(s.hour:Int),(s.place:Int)]:List Int) [(bX c6 #[vI s.num,vI s.hour,vI s.place] 3)]:=Own.lit rfl rfl;refine sfz (A:=((bX b1 (AY s) 29)::F)) 0 g1 PM.symm (fun g9 b3 a6=>?_);replace a0:=b3.blk _ _ a0;obtain ⟨d0,d2,d1,d5,b7,d3,d4,d6⟩:=id a6;cases b7;refine sd (dc 16 (fun I' hI=>(HY I' (wordK (s.kind:Int)) _ _ (a6.mono hI) (by exact hS.abc) (by exact ⟨by first | omega | decide,by first | omega | simp⟩) :))) (sp 1 [(3,sV (jn (wordK (s.kind:Int)) ([(s.num:Int),(s.hour:Int),(s.place:Int)]:List Int)))] (CM 3 rfl (show (sV (jn (wordK (s.kind:Int)) ([(s.num:Int),(s.hour:Int),(s.place:Int)]:List Int)):Value)=sV (sxA s) from rfl) (se (rq ?_))));refine DS (fun a w=>∃ a5:Imm,(g9.le a5)∧SE 48 [(1,vP b1 0),(2,sV ([]:List UInt8)),(3,sV (sxB s))] a5 ((bX b1 (AY s) 29)::F) a w) ?_ ?_
 ·
  refine rqr (sp 1 [(17,vP b1 2)] (sd (dlb 18 0 2 b1 (vI s.kind)) (sp 1 [(19,.bool (cmp .eql s.kind 1))] (se (rc 19 rfl (fun h1=>?_) (fun h1=>?_))))))
  ·
   have f8:=h1;have h1:=BQ h1;refine rr (sp 2 [(21,vP b1 4),(20,sV (sxA s))] (sd (dlb 22 0 4 b1 (vI s.to)) (sS (sbs 23 3 1 #[vI s.to] (fun c7=>(pm (M':=((bX b1 (AY s) 29)::([(bX c7 #[vI s.to] 3)]++F))) (PS _ _ _) ?_))))));have g2:Own 3 1 AK (vS (some ⟨c7,0,none⟩) 1 1) ([(s.to:Int)]:List Int) [(bX c7 #[vI s.to] 3)]:=Own.lit rfl rfl;refine sfz (A:=((bX b1 (AY s) 29)::F)) 0 g2 PM.symm (fun h6 b4 a7=>?_);replace a0:=b4.blk _ _ a0;obtain ⟨d7,d9,d8,e2,b8,e0,e1,e3⟩:=id a7;cases b8;refine sd (dc 24 (fun I' hI=>(HY I' (sxA s) _ _ (a7.mono hI) (by exact one_two hS.to) (by exact ⟨by first | omega | decide,by first | omega | simp⟩) :))) (sp 1 [(3,sV (jn (sxA s) ([(s.to:Int)]:List Int)))] (ee ?_));exact AO (fun a w hS hD hW=>⟨h6,b4,hS.sub (sun 2 (.consE 3 rfl (congrArg sV (sxB_t h1)) (.nil _))),hD,hW⟩)
  have f8:=h1;have h1:=BV h1;refine AM ?_;exact AO (fun a w hS hD hW=>⟨g9,(IR _),hS.sub (sun 2 (.consE 3 rfl (congrArg sV (sxB_f h1)) (.nil _))),hD,hW⟩)
 rintro a w ⟨a5,b2,hS,hD,hW⟩
 refine AW hS hD hW ?_;clear hS hD hW a w;replace a0:=b2.blk _ _ a0;refine rqr (sp 2 [(26,vP b1 5),(25,sV (sxB s))] (sd (dlb 27 0 5 b1 (vI s.sort)) (sS (sbs 28 3 1 #[vI s.sort] (fun c8=>(pm (M':=((bX b1 (AY s) 29)::([(bX c8 #[vI s.sort] 3)]++F))) (PS _ _ _) ?_))))));have g3:Own 3 1 AK (vS (some ⟨c8,0,none⟩) 1 1) ([(s.sort:Int)]:List Int) [(bX c8 #[vI s.sort] 3)]:=Own.lit rfl rfl;refine sfz (A:=((bX b1 (AY s) 29)::F)) 0 g3 PM.symm (fun c2 b5 a8=>?_);replace a0:=b5.blk _ _ a0;obtain ⟨e4,e6,e5,e9,b9,e7,e8,f0⟩:=id a8;cases b9;refine sd (dc 29 (fun I' hI=>(HY I' (sxB s) _ _ (a8.mono hI) (by exact one_two hS.sort) (by exact ⟨by first | omega | decide,by first | omega | simp⟩) :))) (sp 1 [(3,sV (jn (sxB s) ([(s.sort:Int)]:List Int)))] (CM 3 rfl (show (sV (jn (sxB s) ([(s.sort:Int)]:List Int)):Value)=sV (sxC s) from rfl) (se (rq ?_))));refine DS (fun a w=>∃ a2:Imm,(c2.le a2)∧SE 48 [(1,vP b1 0),(2,sV ([]:List UInt8)),(3,sV (sxD s))] a2 ((bX b1 (AY s) 29)::F) a w) ?_ ?_
 ·
  refine rq ?_;refine DS (fun a w=>SE 48 [(1,vP b1 0),(2,sV ([]:List UInt8)),(3,sV (sxC s)),(37,.bool ((cmp .eql s.kind 1)||(cmp .eql s.kind 4)))] c2 ((bX b1 (AY s) 29)::F) a w) ?_ ?_
  ·
   refine rr (sp 1 [(30,vP b1 2)] (sd (dlb 31 0 2 b1 (vI s.kind)) (sp 2 [(33,.bool (cmp .eql s.kind 1))] ?_)));refine BU 33 rfl (fun h2=>?_) (fun h2=>?_)
   ·
    have b0:=h2;have b0:=BQ b0;refine sp 4 [(37,.bool true)] (ee ?_);refine AO (fun a w hS hD hW=>⟨hS.sub (sun 3 (.consE 37 rfl (congrArg Value.bool (by simp only [h2,kk])) (.nil _))),hD,hW⟩)
   have b0:=h2;have b0:=BV b0;refine sp 1 [(34,vP b1 2)] (sd (dlb 35 0 2 b1 (vI s.kind)) (sp 2 [(37,.bool (cmp .eql s.kind 4))] (ee ?_)));refine AO (fun a w hS hD hW=>⟨hS.sub (sun 3 (.consE 37 rfl (congrArg Value.bool (by simp only [h2,kk])) (.nil _))),hD,hW⟩)
  rintro a w ⟨hS,hD,hW⟩
  refine AW hS hD hW ?_;clear hS hD hW a w;refine rc 37 rfl (fun h3=>?_) (fun h3=>?_)
  ·
   have c1:=h3;have h7:s.kind=1∨s.kind=4:=by (have hq:=c1;simpa only [cmp,Bool.or_eq_true,decide_eq_true_eq] using hq)
   refine rqr (sp 1 [(4,sV ([59,99]:List UInt8))] (se (rq ?_)));refine DS (fun a w=>∃ a1:Imm,(c2.le a1)∧SE 48 [(1,vP b1 0),(2,sV ([]:List UInt8)),(3,sV (sxC s)),(4,sV (markT s))] a1 ((bX b1 (AY s) 29)::F) a w) ?_ ?_
   ·
    refine rqr (sp 1 [(38,vP b1 6)] (sd (dlb 39 0 6 b1 (.bool s.soil)) (se (rc 39 rfl (fun h4=>?_) (fun h4=>?_)))))
    ·
     have f9:=h4;refine rr (sp 1 [(4,sV ([59,115]:List UInt8))] (ee ?_));exact AO (fun a w hS hD hW=>⟨c2,(IR _),hS.sub (sun 3 (.consE 4 rfl (congrArg sV (markT_t h4)) (.nil _))),hD,hW⟩)
    have f9:=h4;refine AM ?_;exact AO (fun a w hS hD hW=>⟨c2,(IR _),hS.sub (sun 3 (.consE 4 rfl (congrArg sV (markT_f h4)) (.nil _))),hD,hW⟩)
   rintro a w ⟨a1,a4,hS,hD,hW⟩
   refine AW hS hD hW ?_;clear hS hD hW a w;replace a0:=a4.blk _ _ a0;refine rr (sp 2 [(41,sV (markT s)),(40,sV (sxC s))] (sd (det_cat (x:=(.tmp 40)) (y:=(.tmp 41)) (T:=9) (T':=9) (d:=42) (ty:=9) (gd:=none) (by kernel_rfl) rfl rfl rfl (by have:=markT_le s;omega)) (sp 1 [(3,sV ((sxC s)++(markT s)))] (ee ?_))));exact AO (fun a w hS hD hW=>⟨a1,a4,hS.sub (sun 2 (.consE 3 rfl (congrArg sV (sxD_t h7)) (.nil _))),hD,hW⟩)
  have c1:=h3;obtain ⟨c3,c4⟩:=or_f h3;have c3:=BV c3;have c4:=BV c4;have h8:¬ (s.kind=1∨s.kind=4):=by (have hq:=c1;simpa only [cmp,Bool.or_eq_false_iff,decide_eq_false_iff_not,not_or] using hq)
  refine AM ?_;exact AO (fun a w hS hD hW=>⟨c2,(IR _),hS.sub (sun 2 (.consE 3 rfl (congrArg sV (sxD_f h8)) (.nil _))),hD,hW⟩)
 rintro a w ⟨a2,a3,hS,hD,hW⟩
 refine AW hS hD hW ?_;clear hS hD hW a w;replace a0:=a3.blk _ _ a0;refine rqr (sp 2 [(44,vP b1 7),(43,sV (sxD s))] (sd (dlb 45 0 7 b1 (vI s.amt)) (sS (sbs 46 3 1 #[vI s.amt] (fun c9=>(pm (M':=((bX b1 (AY s) 29)::([(bX c9 #[vI s.amt] 3)]++F))) (PS _ _ _) ?_))))));have g4:Own 3 1 AK (vS (some ⟨c9,0,none⟩) 1 1) ([(s.amt:Int)]:List Int) [(bX c9 #[vI s.amt] 3)]:=Own.lit rfl rfl;refine sfz (A:=((bX b1 (AY s) 29)::F)) 0 g4 PM.symm (fun i5 b6 a9=>?_);replace a0:=b6.blk _ _ a0;obtain ⟨f1,f3,f2,f6,c0,f4,f5,f7⟩:=id a9;cases c0;refine sd (dc 47 (fun I' hI=>(HY I' (sxD s) _ _ (a9.mono hI) (by exact one_two hS.amt) (by exact ⟨by first | omega | decide,by first | omega | simp⟩) :))) (sp 1 [(2,sV (jn (sxD s) ([(s.amt:Int)]:List Int)))] (se (BB (GU 2 [] rfl (TC _ (TR _)) (IT (IT (IT (IT (IT g0 b3) b2) b5) a3) b6) ?_))));exact ⟨rfl,rfl⟩
end Go.Proofs.YtgcemienebmdeaaGreatDoor
namespace Go.Sl
open Go
section
variable {P:Program} [Jud P] {N:Nat} {ops:Array Oper} {i:Nat} {l:Sl} {I:Imm} {M:Seg} {ty:TypeId} {gd:Option (Nat × Bool)} {K:Sl→Imm→Seg→Prop}
omit [Jud P] in
theorem wpL_extern {fid : FuncId} {fn : Func} {e : Array Value → Sem Value} {args : Array Value} {Q : Next → Seg → Prop} (hf : P.funcs[fid]? = some fn) (hnm : (fn.name == "runtime.NumGoroutine") = false) (hb : fn.body.isNone = true) (hnx : (Extern.findNext fn).isNone = true)
    (he:Extern.find fn=some e) (h:wpL P (e args) (fun v M'=>Q (.value v) M') I M):wpL P (callFunc fid args) Q I M:=by
  have hnx':Extern.findNext fn=none:=by simpa using hnx
  unfold callFunc;show wpL P (match P.funcs[fid]? with | none=>_ | some fn=>_) _ I M;simp only [hf,hnm,hb,Bool.false_eq_true,if_false,if_true];show okMark (.extern fid)∧wpL P _ _ I M;refine ⟨trivial,?_⟩;simp only [hnx',he];show wpL P (e args >>= fun v=>pure (Next.value v)) _ I M;rw [AD];exact h
theorem stp_extern {d : Option Tmp} {f : Operand} {fid : FuncId} {fn : Func} {args : Array Operand} {tys : Array TypeId} {vals : List Value} {e : Array Value → Sem Value}
    (hop:EL ops N i=some (d,.call { callee:=.value f,args,argTypes:=tys },ty,gd)) (hg:EK ops l gd=some true) (hf:BK l f=some (.func (.func fid) #[] #[])) (hv:NT l args.toList=some vals)
    (hfn:P.funcs[fid]?=some fn) (hnm:(fn.name == "runtime.NumGoroutine")=false) (hb:fn.body.isNone=true) (hnx:(Extern.findNext fn).isNone=true) (he:Extern.find fn=some e)
    (h:wpL P (e vals.toArray) (fun v M'=>K (ups d v l) I M') I M):Stp P N ops i l I M K:=by
  obtain ⟨h1,h2⟩:=HF hv;refine CI hop hg ?_ ?_
  · intro x hx
    simp only [Op.operands,Call.operands] at hx;rcases Array.mem_append.1 hx with hx | hx
    · simp at hx;subst hx;exact DG hf
    · exact h1 x (by simpa using hx)
  · show wpL P (do let d ← resolve (rho l) { callee:=.value f,args,argTypes:=tys } ty;invoke d.target d.args) _ I M
    have e1:args.map (rho l)=vals.toArray:=by
      apply Array.ext'
      simp [h2]
    unfold resolve;simp only [e1,AU hf,Deferred.ofValue];show wpL P (callFunc fid ((#[]++vals.toArray)++#[])) _ I M;rw [Array.append_empty,Array.empty_append];exact wpL_extern hfn hnm hb hnx he (TP (fun v M' hK=>⟨v,.inl rfl,hK⟩) h)
omit [Jud P] in
theorem digits_size:∀ (n t:Nat) (acc:Array Value),(Extern.BytealgMakeNoZero.digits n t acc).size=n+acc.size:=by
  intro n
  induction n with
  | zero=>intro t acc;simp [Extern.BytealgMakeNoZero.digits]
  | succ n ih=>intro t acc;simp only [Extern.BytealgMakeNoZero.digits];rw [ih,Array.size_push];omega
omit [Jud P] in
theorem wpL_makeNoZero {E T : TypeId} {n : Nat} {rs ps : Array TypeId} {Q : Value → Seg → Prop} (hr : rs[0]? = some T) (hT : HU P T = some E) (hn : n ≤ 1000000)
    (h:∀ b c (sp:List Value),n≤c→sp.length=c→Q (.slice (some ⟨b,0,none⟩) n c) ((b,Obj.cells sp.toArray E (0,0))::M)):wpL P (Extern.BytealgMakeNoZero.makeNoZero ps rs #[.int .i64 (n:Int)]) Q I M:=by
  unfold Extern.BytealgMakeNoZero.makeNoZero;show wpL P (match rs[0]? with | some t=>_ | _=>_) Q I M;rw [hr];show wpL P (underlying T >>= _) _ I M;rw [AD,AJ (CT hT)];simp only;rw [if_neg (by simp;omega)];rw [AD];simp only [Int.toNat_natCast];show (if (Question.appendCap n 0 E).forced then _ else ∀ t,_);rw [if_neg (by simp [Question.forced])];intro t;have hcap:n≤Question.cut (.appendCap n 0 E) t:=by simp [Question.cut]
  generalize Question.cut (.appendCap n 0 E) t=c at hcap
  show wpL P (askRoom c >>= _) _ I M;rw [AD];have hask:∀ (n:Nat) (Q:Unit→Seg→Prop),Q () M→wpL P (askRoom n) Q I M:=fun n Q hq=>by
    unfold askRoom
    split
    · exact ⟨trivial,hq⟩
    · exact hq
  refine hask _ _ ?_;have fin:∀ u:Nat,wpL P (do let a ← newRow E (Extern.BytealgMakeNoZero.digits c u #[]);pure (Value.slice (some a) n c)) Q I M:=fun u=>by
    intro b;have e:(Extern.BytealgMakeNoZero.digits c u #[])=(Extern.BytealgMakeNoZero.digits c u #[]).toList.toArray:=by simp
    have:=h b c (Extern.BytealgMakeNoZero.digits c u #[]).toList hcap (by simp [digits_size]);rw [← e] at this;exact this
  rw [AD];show (if (Question.extern "internal/bytealg.MakeNoZero.bytes" 0).forced then _ else ∀ t,_)
  split
  · exact fin 0
  · intro u
    exact fin _
def byteC (x:UInt8):Value:=.int .u8 (x.toNat:Int)
omit [Jud P] in
theorem wpL_loadBytes {E b : Nat} {cs : Array Value} {fz : Nat × Nat} (hM : (b, Obj.cells cs E fz) ∈ M) : ∀ (bs : List UInt8) (off : Nat) (acc : ByteArray) (Q : ByteArray → Seg → Prop), (∀ k x, bs[k]? = some x → cs[off + k]? = some (byteC x)) →
    Q ⟨acc.data++bs.toArray⟩ M→wpL P (loadBytes ⟨b,off,none⟩ acc bs.length) Q I M:=by
  intro bs
  induction bs with
  | nil => intro off acc Q _ h; show Q acc M; have e : acc = ⟨acc.data ++ ([] : List UInt8).toArray⟩ := by simp
           rw [e];exact h
  | cons x bs ih=>
    intro off acc Q hc h;show wpL P (load ⟨b,off,none⟩ >>= _) Q I M;rw [AD];refine ⟨byteC x,⟨rfl,cs,E,fz,.inl hM,by simpa using hc 0 x rfl⟩,?_⟩;show wpL P (loadBytes ((⟨b,off,none⟩:Addr).add 1) (acc.push (x.toNat:Int).toNat.toUInt8) bs.length) Q I M;have e1:(⟨b,off,none⟩:Addr).add 1=⟨b,off+1,none⟩:=by simp [Addr.add]
    have e2:(x.toNat:Int).toNat.toUInt8=x:=by simp
    rw [e1,e2];refine ih (off+1) _ Q (fun k y hk=>by have:=hc (k+1) y (by simpa using hk);rw [← this];congr 1;omega) ?_;have e3:(acc.push x).data++bs.toArray=acc.data++(x::bs).toArray:=by
      show acc.data.push x++bs.toArray=_
      apply Array.ext'
      simp
    rw [e3];exact h
omit [Jud P] in
theorem TF {Tp T3 rt E b : Nat} {bs : List UInt8} {cs : Array Value} {Q : Value → Seg → Prop} (hTp : P.underlying Tp = some (.pointer E)) (hc : P.cellsOf E = 1) (h0 : bs ≠ []) (hlen : bs.length ≤ 140737488355328) (j : Nat) (hM : M[j]? = some (b, Obj.cells cs E (0, 0)))
    (hb:∀ (k:Nat) (x:UInt8),bs[k]?=some x→cs[k]?=some (byteC x)) (hsz:bs.length≤cs.size) (h:Q (.string ⟨bs.toArray⟩) (M.set j (b,.cells cs E (0,0+bs.length)))) :
    wpL P (Builtin.unsafeString_ #[Tp,T3] rt #[.pointer (some ⟨b,0,none⟩),.int .i64 (bs.length:Int)]) Q I M:=by
  have hl0:bs.length≠0:=by simpa using h0
  have hin:=List.mem_of_getElem? hM;unfold Builtin.unsafeString_;show wpL P (asInt (.int .i64 (bs.length:Int)) >>= _) Q I M;rw [AD];show wpL P (if (bs.length:Int)<0 then _ else _) Q I M;rw [if_neg (by omega)];show wpL P (if (bs.length:Int)>IntKind.i64.max then _ else _) Q I M
  rw [if_neg (by have : IntKind.i64.max = 9223372036854775807 := rfl
                 omega)]
  show wpL P (if (bs.length:Int)=0 then _ else _) Q I M;rw [if_neg (by omega)];show wpL P (elemOf Tp >>= _) Q I M;rw [AD];show wpL P (underlying Tp >>= _) _ I M;rw [AD,AJ hTp];show wpL P (variablesAt ⟨b,0,none⟩ E (bs.length:Int).toNat >>= _) Q I M;rw [AD];show ∃ o,Holds I M b o∧wpL P _ _ I M;refine ⟨.cells cs E (0,0),.inl hin,?_⟩;have hlies:liesAt P P.depth E (cs.size/P.cellsOf E) 0 E bs.length=true:=by
    rw [hc,Nat.div_one];exact Lib.liesAt_bytes hc _ _ hsz
  simp only [Int.toNat_natCast];show wpL P (if liesAt P P.depth E (cs.size/P.cellsOf E) 0 E bs.length=true then _ else _) Q I M;rw [hlies,if_pos rfl];show wpL P (loadBytes ⟨b,0,none⟩ .empty bs.length >>= _) Q I M;rw [AD];refine wpL_loadBytes hin bs 0 .empty _ (fun k x hk=>by rw [Nat.zero_add];exact hb k x hk) ?_;have e:(⟨(ByteArray.empty).data++bs.toArray⟩:ByteArray)=⟨bs.toArray⟩:=by simp
  rw [e];exact ⟨by omega,j,cs,E,hM,h⟩
def FJ (x:UInt8) (_:Nat):Value:=byteC x
theorem QS:∀ ys:List UInt8,BX 1 FJ ys=ys.map byteC
  | []=>rfl
  | x::r=>by
    have:=QS r;unfold BX at this ⊢;rw [List.flatMap_cons,this];rfl
omit [Jud P] in
theorem ST {n:Nat} {ys:List UInt8} {Q:Array Value→Seg→Prop} (hq:Q (BX 1 FJ ys).toArray M) (hn:n=ys.length:=by rfl):wpL P (Builtin.firstCells 1 n (sV ys)) Q I M:=by
  subst hn;show Q ((((⟨ys.toArray⟩:ByteArray).extract 0 ys.length).data.map fun b=>Value.int .u8 b.toNat)) M;have e:(((⟨ys.toArray⟩:ByteArray).extract 0 ys.length).data.map fun b=>Value.int .u8 b.toNat)=(BX 1 FJ ys).toArray:=by
    rw [show ((⟨ys.toArray⟩:ByteArray))=sB ys from rfl,sB_extract]
    apply Array.ext'
    rw [QS];simp [sB,byteC]
  rw [e];exact hq
variable {R:Seg}
theorem stp_appendS {d : Nat} {x y : Operand} {T T' E bs : Nat} {z : Value} {v : Value} {xs ys : List UInt8} {Ms Rest : Seg}
    (hop:EL ops N i=some (some d,.call { callee:=.builtin .append,args:=#[x,y],argTypes:=#[T,T'] },ty,gd)) (hg:EK ops l gd=some true)
    (hT:HU P T=some E) (hsz:DR P E=some 1) (hz:HK P E=some z) (hzc:z.cells.size=1) (hb:JD P E=some bs) (hbs:1≤bs∧bs≤256) (hT':P.underlying T'=some .string)
    (hx:BK l x=some v) (hy:BK l y=some (sV ys)) (own:Own E 1 FJ v xs Ms) (hM:M.Perm (Ms++Rest))
    (hneed:xs.length+ys.length≤274877906944)
    (next:∀ v' Ms',Own E 1 FJ v' (xs++ys) Ms'→K ((d,v')::l) I (Ms'++Rest)):Stp P N ops i l I M K:=by
  refine KD hop hg ?_ hM ?_
  · intro o ho
    simp only [Op.operands,Call.operands] at ho;simp at ho;rcases ho with rfl | rfl
    · exact DG hx
    · exact DG hy
  obtain ⟨av,cv,hv,hcv⟩:=own.shape;have hone:∀ c∈BX 1 FJ ys,CS c=true:=one_enc (fun _ _ _=>rfl) ys;have hinfo:∃ inf,P.info? E=some inf∧inf.bytes=bs:=by
    unfold JD at hb;cases hi:P.info? E with
    | none=>rw [hi] at hb;cases hb
    | some inf=>rw [hi] at hb;exact ⟨inf,rfl,by simpa using hb⟩
  obtain ⟨inf,hinf,hbytes⟩:=hinfo;have hly:(BX 1 FJ ys).length=ys.length*1:=BG 1 FJ ys;have hlx:(BX 1 FJ xs).length=xs.length*1:=BG 1 FJ xs;have honeY:=hone;have hsize:(⟨ys.toArray⟩:ByteArray).size=ys.length:=KB ys;have main:wpL P (Builtin.append_ #[T,T'] ty #[v,sV ys]) (fun r M'=>∃ M'',M''.Sublist M'∧∃ Ms',Own E 1 FJ r (xs++ys) Ms'∧M''=Ms'++Rest) I (Ms++Rest):=by
    unfold Builtin.append_;subst hv;simp only [List.getElem?_toArray,List.getElem?_cons_zero,List.getElem?_cons_succ,AD,AJ (CT hT),BL hsz,AJ hT',CL,Builtin.lenOf,hsize];simp only [Bool.false_eq_true,if_false,Bool.not_false,if_true,CL,false_or];rw [AD,CL]
    by_cases hroom:xs.length+ys.length≤cv
    · -- there is room
      rw [if_pos hroom,AD];refine ST ?_;rcases own with ⟨hv',hxs,hMs⟩ | ⟨b,c,sp,hv',hc,hMs,hlen⟩
      · simp only [Value.slice.injEq] at hv'
        obtain ⟨rfl,_,rfl⟩:=hv';subst hxs hMs;have hy0:ys=[]:=by simpa using hroom
        subst hy0;exact ⟨[]++Rest,List.Sublist.refl _,[],.inl ⟨rfl,rfl,rfl⟩,rfl⟩
      · simp only [Value.slice.injEq] at hv'
        obtain ⟨rfl,_,rfl⟩:=hv';subst hMs;show wpL P (storeCells (Addr.add ⟨b,0,none⟩ (xs.length*1)) (BX 1 FJ ys).toArray.toList >>= fun _=>pure (Value.slice (some ⟨b,0,none⟩) (xs.length+ys.length) _)) _ I _;rw [AD,GY,Nat.zero_add];have hsp:(BX 1 FJ ys).length≤sp.length:=by
          rw [List.length_append,hlx] at hlen;rw [hly];have:(xs.length+ys.length)*1≤cv*1:=Nat.mul_le_mul_right 1 hroom;rw [Nat.add_mul] at this;omega
        refine FR (T:=E) (k:=0) _ 0 _ (BX 1 FJ xs++sp).toArray _ (by simp) ?_ (fun c hc=>honeY c (by simpa using hc)) ?_
        · simp only [List.toList_toArray,List.size_toArray,List.length_append,hlx] at hsp ⊢
          omega
        have hset:=JN (BX 1 FJ ys) (BX 1 FJ xs) sp hsp;rw [hlx] at hset;have hset':KC (BX 1 FJ xs++sp).toArray (xs.length*1+0) (BX 1 FJ ys).toArray.toList=(BX 1 FJ (xs++ys)++sp.drop (BX 1 FJ ys).length).toArray:=by
          apply Array.ext'
          rw [Nat.add_zero];simp only [List.toList_toArray];rw [hset,HW]
        rw [hset'];refine ⟨_,List.Sublist.refl _,[(b,Obj.cells (BX 1 FJ (xs++ys)++sp.drop (BX 1 FJ ys).length).toArray E (0,0))],.inr ⟨b,cv,sp.drop (BX 1 FJ ys).length,by simp,by simpa using hroom,rfl,?_⟩,by simp⟩;rw [HW,List.length_append,List.length_append,List.length_drop];rw [List.length_append] at hlen;omega
    · -- a new array
      rw [if_neg hroom];have hcv':cv<xs.length+ys.length:=by omega
      rw [AD,CF hinf,if_neg (show ¬ (((xs.length+ys.length:Nat):Int)>IntKind.i64.max∧inf.bytes=0) from fun h=>by have:=h.2;omega)]
      rw [AD,CF hinf,if_neg (show ¬ (Builtin.nextslicecap (xs.length+ys.length) cv*inf.bytes>2 ^ 48) from fun h=>by
        have h1:=JZ hcv'
        have h2:Builtin.nextslicecap (xs.length+ys.length) cv*inf.bytes≤(2*(xs.length+ys.length)+1000)*256:=Nat.mul_le_mul h1 (by omega)
        omega)]
      rw [AD];show (if (Question.appendCap (xs.length+ys.length) cv E).forced then _ else ∀ t,_);rw [if_neg (by simp [Question.forced])];intro t;show wpL P (typeInfo E >>= _) _ I _;rw [AD,CF hinf,AD];have hask:∀ (n:Nat) (Q:Unit→Seg→Prop),Q () (Ms++Rest)→wpL P (askRoom n) Q I (Ms++Rest):=fun n Q hq=>by
        unfold askRoom
        split
        · exact ⟨trivial,hq⟩
        · exact hq
      refine hask _ _ ?_;have hold:Src I (Ms++Rest) (.slice av xs.length cv) xs.length (BX 1 FJ xs):=by
        rcases own with ⟨hv',hxs,hMs⟩ | ⟨b,c,sp,hv',hc,hMs,hlen⟩
        · subst hxs
          exact ⟨av,cv,rfl,.inl rfl⟩
        · simp only [Value.slice.injEq] at hv'
          obtain ⟨rfl,_,rfl⟩:=hv';subst hMs;refine ⟨_,_,rfl,.inr ⟨b,0,rfl,fun k u hk=>⟨rfl,(BX 1 FJ xs++sp).toArray,E,(0,0),.inl (by simp),?_⟩⟩⟩;simp only [Nat.zero_add,List.getElem?_toArray];rw [List.getElem?_append_left (List.getElem?_eq_some_iff.1 hk).1];exact hk
      rw [AD];refine IG hold hlx ?_;rw [AD];refine ST ?_;rw [AD,DI hz,AD];intro b;have hcap:xs.length+ys.length≤Question.cut (.appendCap (xs.length+ys.length) cv E) t:=by simp [Question.cut]
      generalize Question.cut (.appendCap (xs.length+ys.length) cv E) t=nc at hcap
      refine ⟨[(b,Obj.cells (BX 1 FJ (xs++ys)++(Builtin.zeroCells z.cells (nc-(xs.length+ys.length))).toList).toArray E (0,0))]++Rest,?_,_,.inr ⟨b,nc,_,by simp,by simpa using hcap,rfl,?_⟩,rfl⟩
      · have e : (BX 1 FJ xs).toArray ++ (BX 1 FJ ys).toArray ++ Builtin.zeroCells z.cells (nc - (xs.length + ys.length)) = (BX 1 FJ (xs ++ ys) ++ (Builtin.zeroCells z.cells (nc - (xs.length + ys.length))).toList).toArray := by
          apply Array.ext'
          simp [HW]
        rw [e];exact .cons_cons _ (List.sublist_append_right _ _)
      · have e1:(Builtin.zeroCells z.cells (nc-(xs.length+ys.length))).toList.length=(nc-(xs.length+ys.length))*1:=by rw [Array.length_toList,JF,hzc]
        have e2:=BG 1 FJ (xs++ys);rw [List.length_append,e1,e2,List.length_append,← Nat.add_mul,Nat.add_sub_cancel' hcap]
  unfold IJ execOp resolve;simp only [List.map_toArray,List.map_cons,List.map_nil,AU hx,AU hy];show wpL P (Builtin.append_ #[T,T'] ty #[v,sV ys] >>= fun x=>pure (Next.value x)) _ I _;refine CB ?_;refine TP (fun r M' ⟨M'',hsub,Ms',hown,e⟩=>?_) main;subst e;exact ⟨r,_,.inl rfl,hsub,next r Ms' hown⟩
omit [Jud P] in
theorem wpL_seenAt {b E off:Nat} {cs:Array Value} {fz:Nat × Nat} {Q:Addr→Seg→Prop} (hM:(b,Obj.cells cs E fz)∈M) (h:Q ⟨b,off,none⟩ M):wpL P (Conv.seenAt ⟨b,off,none⟩) Q I M:=by
  unfold Conv.seenAt;show wpL P (viewAt b >>= _) Q I M;rw [AD];unfold viewAt;show ∃ o,Holds I M b o∧wpL P _ _ I M;refine ⟨.cells cs E fz,.inl hM,?_⟩;exact h
omit [Jud P] in
theorem wpL_toUnsafe {src dst t n b E : Nat} {cs : Array Value} {fz : Nat × Nat} {Q : Value → Seg → Prop} (hs : P.underlying src = some (.pointer t)) (hd : P.underlying dst = some .unsafePointer) (ht : DR P t = some n) (h0 : 0 < n)
    (hM:(b,Obj.cells cs E fz)∈M) (hoff:0<cs.size) (h:Q (vP b 0) M):wpL P (convert src dst (vP b 0)) Q I M:=by
  unfold convert;show wpL P (underlying src >>= _) Q I M;rw [AD,AJ hs,AD,AJ hd];show wpL P (Conv.unsafePointer src dst (vP b 0)) Q I M;unfold Conv.unsafePointer;show wpL P (underlying src >>= _) Q I M;rw [AD,AJ hs,AD,AJ hd];show wpL P (Conv.seenAt ⟨b,0,none⟩ >>= _) Q I M;rw [AD];refine wpL_seenAt hM ?_;show wpL P (cellsIn b >>= _) Q I M;rw [AD];unfold cellsIn;show ∃ o,Holds I M b o∧wpL P _ _ I M;refine ⟨.cells cs E fz,.inl hM,?_⟩;show wpL P (sizeOf t >>= _) Q I M;rw [AD,BL ht];rw [if_neg]
  · exact h
  · intro hh
    have h1:n≠0:=by omega
    have h2:¬ (0≥cs.size):=by omega
    have h3:decide (0≥cs.size)=false:=decide_eq_false h2;simp only [h3,h1,Bool.false_and,decide_false,Bool.or_false,Bool.false_eq_true] at hh
omit [Jud P] in
theorem wpL_fromUnsafe {src dst u n b E : Nat} {cs : Array Value} {fz : Nat × Nat} {Q : Value → Seg → Prop} (hs : P.underlying src = some .unsafePointer) (hd : P.underlying dst = some (.pointer u)) (ht : DR P u = some n) (h0 : 0 < n)
    (hM:(b,Obj.cells cs E fz)∈M) (hl:liesAt P P.depth E (cs.size/P.cellsOf E) 0 u 1=true) (h:Q (vP b 0) M):wpL P (convert src dst (vP b 0)) Q I M:=by
  unfold convert;show wpL P (underlying src >>= _) Q I M;rw [AD,AJ hs,AD,AJ hd];show wpL P (Conv.unsafePointer src dst (vP b 0)) Q I M;unfold Conv.unsafePointer;show wpL P (underlying src >>= _) Q I M;rw [AD,AJ hs,AD,AJ hd];show wpL P (Conv.seenAt ⟨b,0,none⟩ >>= _) Q I M;rw [AD];refine wpL_seenAt hM ?_;show wpL P (sizeOf u >>= _) Q I M;rw [AD,BL ht];show wpL P (variablesAt ⟨b,0,none⟩ u 1 >>= _) Q I M;rw [AD];show ∃ o,Holds I M b o∧wpL P _ _ I M;refine ⟨.cells cs E fz,.inl hM,?_⟩;show wpL P (if (decide (n=0)||liesAt P P.depth E (cs.size/P.cellsOf E) 0 u 1)=true then _ else _) Q I M;rw [if_pos (by rw [hl];simp)];exact h
theorem stp_conv {d:Nat} {src dst:TypeId} {x:Operand} {u:Value} (hop:EL ops N i=some (some d,.convert src dst x,ty,gd)) (hg:EK ops l gd=some true) (hx:BK l x=some u) (h:wpL P (convert src dst u) (fun v M'=>K ((d,v)::l) I M') I M):Stp P N ops i l I M K:=by
  refine CI hop hg (JX hx) ?_;show wpL P (convert src dst (rho l x) >>= fun x=>pure (Next.value x)) _ I M;rw [AU hx];refine CB ?_;exact TP (fun v M' hK=>⟨v,.inl rfl,hK⟩) h
theorem det_neqPtr {R : Seg} {d b n : Nat} {x y : Operand} {T E : TypeId} (hop : EL ops N i = some (some d, .binOp .neq T x y T, ty, gd)) (hg : EK ops l gd = some true) (hT : P.underlying T = some (.pointer E)) (hsz : DR P E = some n) (h0 : 0 < n)
    (hx:BK l x=some (vP b 0)) (hy:BK l y=some (vP b 0)):Det P N ops i l I R d (.bool false):=
  FT hop hg (HO hx hy) fun I' M'=>by
    show wpL P ((do eqGuard .neq T x y (rho l x) (rho l y);binOp .neq T (rho l x) (rho l y)) >>= fun x=>pure (Next.value x)) _ I' M';rw [AU hx,AU hy];refine CB ?_;show wpL P (eqGuard .neq T x y (vP b 0) (vP b 0) >>= fun _=>binOp .neq T (vP b 0) (vP b 0)) _ I' M';rw [AD];show wpL P (Op.equalIn 10000 T (vP b 0) (vP b 0) >>= fun b=>pure (Value.bool !b)) _ I' M';rw [AD];unfold Op.equalIn;rw [AD,AJ hT];show wpL P (sizeOf E >>= _) _ I' M';rw [AD,BL hsz];rw [if_pos (by omega)];unfold sameAddr;rw [if_pos (by simp)];have e:((⟨b,0,none⟩:Addr) == ⟨b,0,none⟩)=true:=by simp
    rw [e];exact ⟨rfl,rfl⟩
theorem det_copy0 {R : Seg} {d c E sz : Nat} {a : Option Addr} {x y : Operand} {T T' : TypeId} (hop : EL ops N i = some (some d, .call { callee := .builtin .copy, args := #[x, y], argTypes := #[T, T'] }, ty, gd)) (hg : EK ops l gd = some true)
    (hT:HU P T=some E) (hsz:DR P E=some sz) (hx:BK l x=some (.slice a 0 c)) (hy:BK l y=some (.slice none 0 0)):Det P N ops i l I R d (.int .i64 0):=
  IZ (vals:=[.slice a 0 c,.slice none 0 0]) hop hg (HO hx hy) (by simp [AU hx,AU hy]) fun I' N' cs _=>by
    show wpL P (Builtin.copy_ #[T,T'] ty #[.slice a 0 c,.slice none 0 0] >>= fun x=>pure (Next.value x)) _ I' (R++N');refine CB ?_;unfold Builtin.copy_;show wpL P (underlying T >>= _) _ I' (R++N');rw [AD,AJ (CT hT)];show wpL P (sizeOf E >>= _) _ I' (R++N');rw [AD,BL hsz];cases a with
    | none=>exact ⟨rfl,rfl⟩
    | some a=>exact ⟨rfl,rfl⟩
theorem det_sliceData {R : Seg} {d n c : Nat} {a : Addr} {x : Operand} {T : TypeId} (hop : EL ops N i = some (some d, .call { callee := .builtin .unsafeSliceData, args := #[x], argTypes := #[T] }, ty, gd)) (hg : EK ops l gd = some true)
    (hx:BK l x=some (.slice (some a) n c)) (hc:c≠0):Det P N ops i l I R d (.pointer (some a)):=
  IZ (vals:=[.slice (some a) n c]) hop hg (JX hx) (by simp [AU hx]) fun I' N' cs _=>by
    show wpL P (Builtin.unsafeSliceData_ #[T] ty #[.slice (some a) n c] >>= fun x=>pure (Next.value x)) _ I' (R++N');refine CB ?_;unfold Builtin.unsafeSliceData_;show wpL P (if c≠0 then _ else _) _ I' (R++N');rw [if_pos hc];exact ⟨rfl,rfl⟩
theorem TD {d g E : Nat} {M0 : Seg} {bs : List UInt8} {cs : Array Value} {x y : Operand} {Tp T3 : TypeId} (hop : EL ops N i = some (some d, .call { callee := .builtin .unsafeString, args := #[x, y], argTypes := #[Tp, T3] }, ty, gd)) (hg : EK ops l gd = some true)
    (hTp:P.underlying Tp=some (.pointer E)) (hc:P.cellsOf E=1) (h0:bs≠[]) (hlen:bs.length≤140737488355328) (hx:BK l x=some (vP g 0)) (hy:BK l y=some (.int .i64 (bs.length:Int)))
    (hb:∀ (k:Nat) (x:UInt8),bs[k]?=some x→cs[k]?=some (byteC x)) (hsz:bs.length≤cs.size) (hM:M.Perm ((g,Obj.cells cs E (0,0))::M0)) (next:K ((d,sV bs)::l) I M0):Stp P N ops i l I M K:=by
  refine ND (vals:=[vP g 0,.int .i64 (bs.length:Int)]) hop hg (HO hx hy) (by simp [AU hx,AU hy]) hM fun cs'=>?_
  show wpL P (Builtin.unsafeString_ #[Tp,T3] ty #[vP g 0,.int .i64 (bs.length:Int)] >>= fun x=>pure (Next.value x)) _ I _;refine CB ?_;refine TF hTp hc h0 hlen 0 rfl hb hsz ?_;exact ⟨_,M0,.inl rfl,List.sublist_cons_self ..,next⟩
end
end Go.Sl
namespace Go.Proofs.YtgcemienebmdeaaGreatDoor
open Go Go.Sl Go.Sh
set_option maxRecDepth 100000
noncomputable def c_cc:=cod Tryz.f145
theorem copyCheck1 (I:Imm) (b:Nat) (v:Value):Ct Tryz.prog 145 #[vP b 0] I [bX b #[.pointer none,v] 174] (fun r _ M'=>r=.tuple #[]∧M'=[bX b #[vP b 0,v] 174]):=by
 refine fr (args:=[_]) (N:=20) Tryz.func145 (fun F=>?_);show Run _ _ (c_cc []) _ _ [(0,_)] _ _;refine rnm (rqr ?_);refine sp 3 [(4,vP b 0)] (sd (dlb 5 0 0 b (.pointer none)) (sp 1 [(6,.bool true)] (se (rct 6 rfl (rr ?_)))));refine sp 2 [(8,vP b 0),(7,vP b 0)] ?_;refine sS (stp_conv (d:=9) (src:=172) (dst:=182) (x:=.tmp 8) (ty:=182) (gd:=none) (by kernel_rfl) rfl rfl (wpL_toUnsafe (t:=174) (n:=2) (by kernel_rfl) (by kernel_rfl) (by kernel_rfl) (by decide) (List.mem_cons_self ..) (by simp) ?_));refine sS (stp_extern (d:=some 10) (f:=.func 165) (fid:=165) (args:=#[.tmp 9]) (tys:=#[182]) (vals:=[vP b 0]) (e:=Extern.AbiNoEscape.same) (ty:=182) (gd:=none) (by kernel_rfl) rfl rfl rfl Tryz.func165 (by kernel_rfl) (by kernel_rfl) (by kernel_rfl) (by kernel_rfl) ?_);show Sl.Seq _ _ _ _ _ _ ((10,vP b 0)::_) _ _;refine sS (stp_conv (d:=11) (src:=182) (dst:=172) (x:=.tmp 10) (ty:=172) (gd:=none) (by kernel_rfl) rfl rfl (wpL_fromUnsafe (u:=174) (n:=2) (by kernel_rfl) (by kernel_rfl) (by kernel_rfl) (by decide) (List.mem_cons_self ..) (by kernel_rfl) ?_));refine sp 2 [(13,vP b 0)] (sS (ss 0 0 b [vP b 0] [vP b 0,v] (_::_) (cs:=[.pointer none,v]) rfl rfl (ee ?_)));exact DP [bX b #[vP b 0,v] 174] (by kernel_rfl) (List.Sublist.refl _) (IR _) ⟨rfl,rfl⟩
theorem copyCheck2 (I:Imm) (b:Nat) (v:Value):Ct Tryz.prog 145 #[vP b 0] I [bX b #[vP b 0,v] 174] (fun r _ M'=>r=.tuple #[]∧M'=[bX b #[vP b 0,v] 174]):=by
 refine fr (args:=[_]) (N:=20) Tryz.func145 (fun F=>?_);show Run _ _ (c_cc []) _ _ [(0,_)] _ _;refine rnm (rqr ?_);refine sp 3 [(4,vP b 0)] (sd (dlb 5 0 0 b (vP b 0)) (sp 1 [(6,.bool false)] (se (rcf 6 rfl (rqr ?_)))));refine sp 3 [(16,vP b 0)] (sd (dlb 17 0 0 b (vP b 0)) (sp 1 [(18,vP b 0)] (sd (det_neqPtr (d:=19) (b:=b) (n:=2) (x:=.tmp 17) (y:=.tmp 18) (T:=172) (E:=174) (ty:=4) (gd:=none) (by kernel_rfl) rfl (by kernel_rfl) (by kernel_rfl) (by decide) rfl rfl) (se (rcf 19 rfl (AM ?_))))));exact DP [bX b #[vP b 0,v] 174] (by kernel_rfl) (List.Sublist.refl _) (IR _) ⟨rfl,rfl⟩
noncomputable def c_ws:=cod Tryz.f105
theorem OE (I:Imm) (b:Nat) (v:Value) (bs s:List UInt8) (Ms:Seg) (own:Own 5 1 FJ v bs Ms) (hl:bs.length+s.length≤274877906944):Ct Tryz.prog 105 #[vP b 0,sV s] I (bX b #[vP b 0,v] 174::Ms) (fun r _ M'=>∃ u v' Ms',r=.tuple #[u,.nilIface]∧M'=bX b #[vP b 0,v'] 174::Ms'∧Own 5 1 FJ v' (bs++s) Ms'):=by
 refine fr (args:=[_,_]) (N:=19) Tryz.func105 (fun F=>?_);show Run _ _ (c_ws []) _ _ [(0,_),(1,_)] _ _;refine rnm (rqr ?_);refine sp 2 [(5,.nilIface),(4,vI 0)] (sn (sp 1 [(6,vP b 0)] (sS (sc (some 7) (F:=Ms++F) (copyCheck2 I b v) (PR _) (fun r J M' hle hp=>?_)))));obtain ⟨rfl,rfl⟩:=hp;show Sl.Seq _ _ _ _ _ _ ((7,.tuple #[])::_) _ (bX b #[vP b 0,v] 174::(Ms++F));refine sn (sp 4 [(11,vP b 1),(8,vP b 0)] (sd (dlb 12 0 1 b v) (sp 1 [(13,sV s)] (sS (stp_appendS (d:=14) (x:=.tmp 12) (y:=.tmp 13) (T:=137) (T':=9) (E:=5) (bs:=1) (z:=.int .u8 0) (ty:=137) (gd:=none) (by kernel_rfl) rfl (by kernel_rfl) (by kernel_rfl) (by kernel_rfl) rfl (by kernel_rfl) (by decide) (by kernel_rfl) rfl rfl own (Rest:=bX b #[vP b 0,v] 174::F) PM.symm hl (fun v' Ms' own'=>?_))))));obtain ⟨a',c',rfl,_⟩:=own'.shape;refine pm (M':=bX b #[vP b 0,v] 174::(Ms'++F)) PM ?_;refine sp 2 [(16,vP b 1)] (sS (ss 0 1 b [.slice a' (bs++s).length c'] [vP b 0,.slice a' (bs++s).length c'] (_::_) (cs:=[vP b 0,v]) rfl rfl (sn ?_)));refine sp 1 [(17,sV s)] (sd (FP (d:=18) (x:=.tmp 17) (T:=9) (ty:=3) (gd:=none) (by kernel_rfl) rfl (by kernel_rfl) rfl) (sp 2 [(5,.nilIface),(4,.int .i64 ((⟨s.toArray⟩:ByteArray).size:Int))] (se (BB ?_))));exact rt2s 4 5 (bX b #[vP b 0,.slice a' (bs++s).length c'] 174::Ms') rfl rfl (by simp) hle ⟨_,_,_,rfl,rfl,own'⟩
noncomputable def c_gr:=cod Tryz.f146
theorem grow1 (I:Imm) (b n:Nat) (hn:n≤1000000):Ct Tryz.prog 146 #[vP b 0,vI n] I [bX b #[vP b 0,vN] 174] (fun r _ M'=>∃ v' Ms',r=.tuple #[]∧M'=bX b #[vP b 0,v'] 174::Ms'∧Own 5 1 FJ v' ([]:List UInt8) Ms'):=by
 refine fr (args:=[_,_]) (N:=30) Tryz.func146 (fun F=>?_);show Run _ _ (c_gr []) _ _ [(0,_),(1,_)] _ _;refine rnm (rq ?_);refine rd 14 [(0,true),(1,true),(2,true),(3,true),(4,true),(5,true),(6,true),(7,true),(9,true),(10,true),(11,true),(12,true),(13,true),(8,false)] [bX b #[vP b 0,vN] 174] F (ox 3 [(7,vP b 1)] ?_);refine AE (dlb 8 0 1 b vN) (ox 1 [(9,vI 0)] (AE (dmu 10 2 0) (ox 1 [(11,vI n)] (AE (da 12 0 n) (ox 3 [(16,vP b 1)] (AE (dlb 17 0 1 b vN) (ox 1 [(18,vI 0)] ?_)))))));refine CV (stp_extern (d:=some 13) (f:=.func 166) (fid:=166) (args:=#[.tmp 12]) (tys:=#[3]) (vals:=[.int .i64 (0+(n:Int))]) (e:=Extern.BytealgMakeNoZero.makeNoZero #[3] #[137]) (ty:=137) (gd:=none) (by kernel_rfl) rfl rfl rfl Tryz.func166 (by kernel_rfl) (by kernel_rfl) (by kernel_rfl) (by kernel_rfl) ?_);rw [Int.zero_add];refine wpL_makeNoZero (E:=5) (T:=137) (n:=n) rfl (by kernel_rfl) hn (fun g c zs hc hzs=>?_);refine AX (S':=(g,Obj.cells zs.toArray 5 (0,0))::F) (List.Perm.swap _ _ _) ?_;show OFP _ _ _ _ _ _ ((13,.slice (some ⟨g,0,none⟩) n c)::_) _ _;refine FS (sd (HN (d:=19) (x:=.tmp 13) (lo:=none) (hi:=some (.tmp 18)) (T:=137) (e:=5) (sz:=1) (ty:=137) (gd:=none) 0 0 (by kernel_rfl) rfl (by kernel_rfl) (by kernel_rfl) rfl (.inl ⟨rfl,rfl⟩) (.inr ⟨_,.i64,rfl,rfl⟩) (Nat.le_refl _) (Nat.zero_le _)) ?_);refine CM 19 rfl (show _=Value.slice (some ⟨g,0,none⟩) 0 c from by split <;> simp [Addr.add]) ?_;refine sp 1 [(4,.slice (some ⟨g,0,none⟩) 0 c)] (sn ?_);refine nm (sp 4 [(23,vP b 1),(20,.slice (some ⟨g,0,none⟩) 0 c)] (sd (dlb 24 0 1 b vN) (sd (det_copy0 (d:=25) (x:=.tmp 20) (y:=.tmp 24) (T:=137) (T':=137) (E:=5) (sz:=1) (ty:=3) (gd:=none) (by kernel_rfl) rfl (by kernel_rfl) (by kernel_rfl) rfl rfl) (se (rr ?_)))));refine sp 4 [(29,vP b 1),(27,.slice (some ⟨g,0,none⟩) 0 c)] (sS (ss 0 1 b [.slice (some ⟨g,0,none⟩) 0 c] [vP b 0,.slice (some ⟨g,0,none⟩) 0 c] (_::_) (cs:=[vP b 0,vN]) rfl rfl (ee ?_)));exact DP [bX b #[vP b 0,.slice (some ⟨g,0,none⟩) 0 c] 174,(g,Obj.cells zs.toArray 5 (0,0))] (by kernel_rfl) (List.Sublist.refl _) (IR _) ⟨_,[(g,Obj.cells zs.toArray 5 (0,0))],rfl,rfl,.inr ⟨g,c,zs,rfl,Nat.zero_le _,rfl,by simp [BX,hzs]⟩⟩
noncomputable def c_Gr:=cod Tryz.f104
theorem Grow1 (I:Imm) (b n:Nat) (h0:0<n) (hn:n≤1000000):Ct Tryz.prog 104 #[vP b 0,vI n] I [bX b #[.pointer none,vN] 174] (fun r _ M'=>∃ v' Ms',r=.tuple #[]∧M'=bX b #[vP b 0,v'] 174::Ms'∧Own 5 1 FJ v' ([]:List UInt8) Ms'):=by
 refine fr (args:=[_,_]) (N:=25) Tryz.func104 (fun F=>?_);show Run _ _ (c_Gr []) _ _ [(0,_),(1,_)] _ _;refine rnm (rqr ?_);refine sp 1 [(4,vP b 0)] (sS (sc (some 5) (F:=F) (copyCheck1 I b vN) (PR _) (fun r J M' hle hp=>?_)));obtain ⟨rfl,rfl⟩:=hp;show Sl.Seq _ _ _ _ _ _ ((5,.tuple #[])::_) _ (bX b #[vP b 0,vN] 174::F);refine se (rq (rqr (sp 1 [(6,vI n)] (sd (dcm 7 .lss n 0 false (by simp [cmp] <;> omega)) (se (rcf 7 rfl (AM (NX (rq ?_)))))))));refine rd0 13 (ox 3 [(11,vP b 1)] ?_);refine AE (dlb 12 0 1 b vN) (ox 4 [(16,vP b 1),(13,vI 0)] ?_);refine AE (dlb 17 0 1 b vN) (ox 1 [(18,vI 0)] ?_);refine AE (dsb 19 0 0) (ox 1 [(20,vI n)] ?_);refine AE (dcm 21 .lss (0-0) n true (by simp [cmp] <;> omega)) (BT (se (rct 21 rfl (rr ?_))));refine sp 2 [(23,vI n),(22,vP b 0)] (sS (sc (some 24) (F:=F) (grow1 J b n hn) (PR _) (fun r J2 M' hle2 hp=>?_)));obtain ⟨v',Ms',rfl,rfl,own⟩:=hp;show Sl.Seq _ _ _ _ _ _ ((24,.tuple #[])::_) _ (bX b #[vP b 0,v'] 174::(Ms'++F));exact ee (DP (bX b #[vP b 0,v'] 174::Ms') (by kernel_rfl) (by simp) (IT hle hle2) ⟨v',Ms',rfl,rfl,own⟩)
noncomputable def c_St:=cod Tryz.f106
theorem String1 (I:Imm) (b:Nat) (v:Value) (bs:List UInt8) (Ms:Seg) (own:Own 5 1 FJ v bs Ms) (h0:bs≠[]) (hl:bs.length≤1000000):Ct Tryz.prog 106 #[vP b 0] I (bX b #[vP b 0,v] 174::Ms) (fun r _ M'=>r=sV bs∧M'=[]):=by
 have hl0:bs.length≠0:=by simpa using h0
 rcases own with ⟨_,hbs,_⟩ | ⟨g,c,zs,rfl,hc,rfl,hlen⟩
 · exact absurd hbs h0
 have hel:(BX 1 FJ bs).length=bs.length:=by rw [BG,Nat.mul_one]
 refine fr (args:=[_]) (N:=14) Tryz.func106 (fun F=>?_);show Run _ _ (c_St []) _ _ [(0,_)] _ _;refine rnm (rqr ?_);refine sp 1 [(2,sV ([]:List UInt8))] (se (rq ?_));refine rd 11 [(0,true),(1,true),(2,true),(3,true),(4,true),(5,true),(6,true),(7,true),(8,true),(9,true),(10,false)] [bX b #[vP b 0,.slice (some ⟨g,0,none⟩) bs.length c] 174] ((g,Obj.cells (BX 1 FJ bs++zs).toArray 5 (0,0))::F) (ox 3 [(5,vP b 1)] ?_);refine AE (dlb 6 0 1 b (.slice (some ⟨g,0,none⟩) bs.length c)) (AE (det_sliceData (d:=7) (x:=.tmp 6) (T:=137) (ty:=219) (gd:=none) (by kernel_rfl) rfl rfl (by omega)) (ox 3 [(10,vP b 1)] ?_));refine AE (dlb 11 0 1 b (.slice (some ⟨g,0,none⟩) bs.length c)) (ox 1 [(12,.int .i64 (bs.length:Int))] ?_);refine CV (TD (d:=13) (g:=g) (E:=5) (bs:=bs) (x:=.tmp 7) (y:=.tmp 12) (Tp:=219) (T3:=3) (ty:=9) (gd:=none) (by kernel_rfl) rfl (by kernel_rfl) (by kernel_rfl) h0 (by omega) rfl rfl (fun k x hk=>?_) (by simp;omega) (List.Perm.swap _ _ _) ?_)
 · have hk':k<bs.length:=(List.getElem?_eq_some_iff.1 hk).1
   rw [QS];simp only [List.getElem?_toArray];rw [List.getElem?_append_left (by simpa using hk'),List.getElem?_map,hk];rfl
 refine AX (S':=F) (PR _) ?_;refine FS (sp 1 [(2,sV bs)] (se (BB ?_)));exact GU 2 [] rfl (TC _ (TR _)) (IR _) ⟨rfl,rfl⟩
theorem jt_len {s:List UInt8} (h1:1≤s.length∧s.length≤10):∀ l:List (List UInt8),(∀ x∈l,x.length≤100)→(Lib.joinTail s l).length≤110*l.length∧l.length≤(Lib.joinTail s l).length
  | [],_=>by simp [Lib.joinTail]
  | x::l,h=>by
    have:=jt_len h1 l fun y hy=>h y (List.mem_cons_of_mem _ hy)
    have hx:=h x (List.mem_cons_self ..);simp only [Lib.joinTail,List.map_cons,List.flatten_cons,List.length_append,List.length_cons] at this ⊢;omega
theorem jt_snoc (s:List UInt8) (l:List (List UInt8)) (x:List UInt8):Lib.joinTail s (l++[x])=Lib.joinTail s l++s++x:=by simp [Lib.joinTail]
theorem jt_next {xs:List (List UInt8)} {k:Nat} (h:k+1<xs.length):(xs.drop 1).take (k+1)=(xs.drop 1).take k++[xs.getD (k+1) []]:=by
  rw [BO (d:=[]) (xs:=xs.drop 1) (k:=k) (by rw [List.length_drop];omega)]
  congr 2
  simp [List.getD,Nat.add_comm]
theorem jt_all {xs:List (List UInt8)} {s:List UInt8} {k:Nat} (h2:2≤xs.length) (hk:xs.length-1≤k):xs.getD 0 []++Lib.joinTail s ((xs.drop 1).take k)=Lib.join xs s:=by
  rw [List.take_of_length_le (by rw [List.length_drop];omega)];cases xs with
  | nil=>simp at h2
  | cons x r=>rw [Lib.join_cons];rfl
noncomputable def c_Jo:=cod Tryz.f68
theorem Join1 (I : Imm) (v : Value) (xs : List (List UInt8)) (s : List UInt8) (hv : IsStrs I v xs) (h2 : 2 ≤ xs.length) (hl : xs.length ≤ 50) (hs : 1 ≤ s.length ∧ s.length ≤ 10) (hx : ∀ x ∈ xs, x.length ≤ 100) :
    Ct Tryz.prog 68 #[v,sV s] I [] (fun r _ M'=>r=sV (Lib.join xs s)∧M'=[]):=by
 obtain ⟨a,c,b0,o0,rfl,hc,hm,row⟩:=id hv;refine fr (args:=[_,_]) (N:=75) Tryz.func68 (fun F=>?_);show Run _ _ (c_Jo []) _ _ [(0,_),(1,_)] _ _;refine rnm (rqr ?_);refine sp 1 [(4,sV ([]:List UInt8))] (se (rq (rqr (sp 2 [(12,vI ↑xs.length)] (se (rb 0 (rqr ?_)))))));refine sd (dcm 14 .eql (↑xs.length) 0 false (by rw [JU];exact decide_eq_false (by omega))) (sp 1 [(13,.bool false)] (se (rcf 13 rfl (rqr ?_))));refine sd (dcm 16 .eql (↑xs.length) 1 false (by rw [JU];exact decide_eq_false (by omega))) (sp 1 [(15,.bool false)] (se (rcf 15 rfl (AM ?_))));refine NB (NX (rqr (sp 1 [(5,vI 0)] (se (rq (rqr ?_))))));refine sp 1 [(20,sV s)] (sd (FP (d:=21) (x:=.tmp 20) (T:=9) (ty:=3) (gd:=none) (by kernel_rfl) rfl (by kernel_rfl) rfl) ?_);refine CM 21 rfl (show _=vI s.length from congrArg (Value.int .i64) (congrArg Nat.cast (KB s))) ?_;refine sd (dcm 22 .gtr s.length 0 true (by simp only [cmp];exact decide_eq_true (by omega))) (se (rct 22 rfl (rq (rqr ?_))));refine sp 1 [(23,sV s)] (sd (FP (d:=24) (x:=.tmp 23) (T:=9) (ty:=3) (gd:=none) (by kernel_rfl) rfl (by kernel_rfl) rfl) ?_);refine CM 24 rfl (show _=vI s.length from congrArg (Value.int .i64) (congrArg Nat.cast (KB s))) ?_;refine sp 2 [(26,vI ↑xs.length)] (sd (dsb 27 ↑xs.length 1) ?_);have hq:(11:Int)≤9223372036854775807/((xs.length:Int)-1):=(Int.le_ediv_iff_mul_le (by omega)).2 (by omega);obtain ⟨p,hp,hp1,hp0⟩:∃ p:Nat,((s.length:Int)*((xs.length:Int)-1))=↑p∧p≤490∧1≤p:=⟨s.length*(xs.length-1),by rw [Int.natCast_mul,Int.natCast_sub (by omega)];rfl,by have:=Nat.mul_le_mul hs.2 (show xs.length-1≤49 by omega);omega,Nat.mul_pos (by omega) (by omega)⟩;refine sd (det_quo (d:=28) (x:=.const (vI 9223372036854775807)) (y:=.tmp 27) (T:=3) (T':=3) (ty:=3) (gd:=none) (by kernel_rfl) rfl rfl rfl ⟨by decide,by decide⟩ (by omega)) ?_;refine sd (dcm 29 .geq s.length (9223372036854775807/((xs.length:Int)-1)) false (by simp only [cmp];exact decide_eq_false (by omega))) (se (rcf 29 rfl (AM (NX (rr ?_)))));refine sp 2 [(32,sV s),(31,vI 0)] (sd (FP (d:=33) (x:=.tmp 32) (T:=9) (ty:=3) (gd:=none) (by kernel_rfl) rfl (by kernel_rfl) rfl) ?_);refine CM 33 rfl (show _=vI s.length from congrArg (Value.int .i64) (congrArg Nat.cast (KB s))) ?_;refine sp 2 [(35,vI ↑xs.length)] (sd (dsb 36 ↑xs.length 1) (sd (dmu 37 s.length (↑xs.length-1) (by rw [hp];omega)) (CM 37 rfl (show _=vI p from congrArg (Value.int .i64) hp) (sd (da 38 0 p) (sp 1 [(5,vI (0+↑p))] (ee ?_))))));refine NX (rq (rqr (sp 3 [(41,vI 0),(40,vI ↑xs.length),(39,vS a xs.length c)] (se (rb 1 ?_)))));refine rl (fun mz a' w=>∃ k q:Nat,k≤xs.length∧(p≤q∧q≤p+100*k)∧SD 75 [(41,vI ↑k),(5,vI ↑q),(40,vI ↑xs.length),(39,vS a xs.length c),(0,vS a xs.length c),(1,sV s)] I F a' w (mz=xs.length-k)) ?_ ?_
 · intro a' w hS hD hW
   refine ⟨_,0,p,Nat.zero_le _,by omega,hS.sub (.consE 41 rfl rfl (.consE 5 rfl (congrArg (Value.int .i64) (Int.zero_add _)) su)),hD,hW,rfl⟩
 rintro mz a' w ⟨k,q,hk,hq1,hS,hD,hW,rfl⟩
 refine AW hS hD hW ?_;clear hS hD hW a' w;refine rqr (sp 1 [(42,.bool (cmp .lss ↑k ↑xs.length))] (se (rq (rc 42 rfl (fun h1=>?_) (fun h1=>?_)))))
 · have h1:=CQ h1
   obtain ⟨x,hxe⟩:∃ x,x=xs.getD k []:=⟨_,rfl⟩;have hx1:x.length≤100:=by rw [hxe];exact hx _ (BJ (d:=[]) (by omega))
   refine AM (NX (rq (rb 2 (rqr (sd (di 43 1 k row.addr) (sd (dl 44 (hxe▸strs_get row k (by omega))) (sp 1 [(7,sV x)] (se (rq (rqr ?_))))))))));refine sp 1 [(45,sV x)] (sd (FP (d:=46) (x:=.tmp 45) (T:=9) (ty:=3) (gd:=none) (by kernel_rfl) rfl (by kernel_rfl) rfl) ?_);refine CM 46 rfl (show _=vI x.length from congrArg (Value.int .i64) (congrArg Nat.cast (KB x))) ?_;refine sp 1 [(47,vI q)] (sd (dsb 48 9223372036854775807 q) (sd (dcm 49 .gtr x.length (9223372036854775807-↑q) false (by simp only [cmp];exact decide_eq_false (by omega))) (se (rcf 49 rfl (AM (NX (rr ?_)))))));refine sp 2 [(52,sV x),(51,vI q)] (sd (FP (d:=53) (x:=.tmp 52) (T:=9) (ty:=3) (gd:=none) (by kernel_rfl) rfl (by kernel_rfl) rfl) ?_);refine CM 53 rfl (show _=vI x.length from congrArg (Value.int .i64) (congrArg Nat.cast (KB x))) ?_;refine sd (da 54 q x.length) (sp 1 [(5,vI (↑q+↑x.length))] (ee ?_));refine NB (NX (rr (sd (da 55 k 1) (sp 1 [(41,vI (↑k+1))] (ee ?_)))));refine AN (xs.length-(k+1)) (by omega) ?_;intro a' w hS hD hW;exact ⟨k+1,q+x.length,by omega,by omega,hS.sub su,hD,hW,rfl⟩
 have h1:=CU h1;refine CH 1 (EP (EP (EB (NX ?_))));refine rqr (sS (sal 8 174 #[.pointer none,vN] (fun b=>sn (sp 1 [(56,vI q)] (sS (sc (some 57) (F:=F) (Grow1 I b q (by omega) (by omega)) (PR _) (fun r J M' hle hp2=>?_)))))));obtain ⟨v1,M1,rfl,rfl,own1⟩:=hp2;show Sl.Seq _ _ _ _ _ _ ((57,.tuple #[])::_) _ (bX b #[vP b 0,v1] 174::(M1++F));obtain ⟨x0,hx0⟩:∃ x,x=xs.getD 0 []:=⟨_,rfl⟩;have hx01:x0.length≤100:=by rw [hx0];exact hx _ (BJ (d:=[]) (by omega))
 have ha:a=some ⟨b0,o0,none⟩:=row.addr (by omega);have row1:=row.mono hle;refine sn (sp 1 [(58,vS a xs.length c)] (sd (di 59 1 0 row.addr) (sd (dl 60 (hx0▸strs_get row1 0 (by omega))) (sS (sc (some 61) (F:=F) (OE J b v1 [] x0 M1 own1 (by simp;omega)) (PR _) (fun r J1 M' hle1 hp2=>?_))))));obtain ⟨u1,v2,M2,rfl,rfl,own2⟩:=hp2;rw [List.nil_append] at own2;show Sl.Seq _ _ _ _ _ _ ((61,.tuple #[u1,.nilIface])::_) _ (bX b #[vP b 0,v2] 174::(M2++F));refine se (rq (rqr (sp 1 [(62,vS a xs.length c)] ?_)));refine sd (HN (d:=63) (x:=.tmp 62) (lo:=some (.const (vI 1))) (hi:=none) (T:=68) (e:=9) (sz:=1) (ty:=68) (gd:=none) 1 xs.length (by kernel_rfl) rfl (by kernel_rfl) (by kernel_rfl) rfl (.inr ⟨_,.i64,rfl,rfl⟩) (.inl ⟨rfl,rfl⟩) (by omega) hc) ?_;refine CM 63 rfl (show _=Value.slice (some ⟨b0,o0+1,none⟩) (xs.length-1) (c-1) from by rw [if_neg (by omega),ha];simp [Addr.add]) ?_;have hjl:∀ k,k≤xs.length-1→(Lib.joinTail s ((xs.drop 1).take k)).length≤110*k∧k≤(Lib.joinTail s ((xs.drop 1).take k)).length:=fun k hk=>by
   have h:=jt_len hs ((xs.drop 1).take k) fun x hxm=>hx x (List.mem_of_mem_drop (List.mem_of_mem_take hxm))
   rw [List.length_take,List.length_drop,Nat.min_eq_left hk] at h;exact h
 refine sp 2 [(65,vI 0),(64,vI ↑(xs.length-1))] (se (rb 3 ?_));refine rl (fun mz a' w=>∃ k:Nat,∃ (J2:Imm) (v:Value) (M:Seg),k≤xs.length-1∧J1.le J2∧Own 5 1 FJ v (x0++Lib.joinTail s ((xs.drop 1).take k)) M∧SD 75 [(65,vI ↑k),(64,vI ↑(xs.length-1)),(63,.slice (some ⟨b0,o0+1,none⟩) (xs.length-1) (c-1)),(8,vP b 0),(1,sV s)] J2 (bX b #[vP b 0,v] 174::(M++F)) a' w (mz=xs.length-1-k)) ?_ ?_
 · intro a' w hS hD hW
   exact ⟨_,0,J1,v2,M2,Nat.zero_le _,IR _,by simpa [Lib.joinTail] using own2,hS.sub su,hD,hW,rfl⟩
 rintro mz a' w ⟨k,J2,v3,M3,hk,hle2,own3,hS,hD,hW,rfl⟩
 refine AW hS hD hW ?_;clear hS hD hW a' w;have row2:=(row1.mono hle1).mono hle2;have hkl:=hjl k hk;refine rqr (sp 1 [(66,.bool (cmp .lss ↑k ↑(xs.length-1)))] (se (rq (rc 66 rfl (fun h1=>?_) (fun h1=>?_)))))
 · have h1:=CQ h1
   obtain ⟨x,hxe⟩:∃ x,x=xs.getD (k+1) []:=⟨_,rfl⟩;have hx1:x.length≤100:=by rw [hxe];exact hx _ (BJ (d:=[]) (by omega))
   refine AM (NX (rq (rb 4 (rqr (sd (di 67 1 k (b:=b0) (off:=o0+1) (n:=xs.length-1) (a:=some ⟨b0,o0+1,none⟩) (fun _=>rfl)) (sd (dl 68 (hxe▸(show o0+(k+1)*1=o0+1+k*1 from by omega)▸strs_get row2 (k+1) (by omega))) (sp 1 [(10,sV x)] (sn ?_))))))));refine sp 1 [(69,sV s)] (sS (sc (some 70) (F:=F) (OE J2 b v3 _ s M3 own3 (by rw [List.length_append];omega)) (PR _) (fun r J3 M' hle3 hp2=>?_)));obtain ⟨u3,v4,M4,rfl,rfl,own4⟩:=hp2;show Sl.Seq _ _ _ _ _ _ ((70,.tuple #[u3,.nilIface])::_) _ (bX b #[vP b 0,v4] 174::(M4++F));refine se (rr (sp 1 [(71,sV x)] (sS (sc (some 72) (F:=F) (OE J3 b v4 _ x M4 own4 (by rw [List.length_append,List.length_append];omega)) (PR _) (fun r J4 M' hle4 hp2=>?_)))));obtain ⟨u5,v5,M5,rfl,rfl,own5⟩:=hp2;show Sl.Seq _ _ _ _ _ _ ((72,.tuple #[u5,.nilIface])::_) _ (bX b #[vP b 0,v5] 174::(M5++F));refine ee (NB (NX (rr (sd (da 73 k 1) (sp 1 [(65,vI (↑k+1))] (ee ?_))))));refine AN (xs.length-1-(k+1)) (by omega) ?_;intro a' w hS hD hW;refine ⟨k+1,J4,v5,M5,by omega,IT (IT hle2 hle3) hle4,?_,hS.sub su,hD,hW,rfl⟩;rw [jt_next (by omega),jt_snoc,← hxe]
   simpa [List.append_assoc] using own5
 have h1:=CU h1;refine CH 3 (EP (EP (EB (NX (rqr (sS (sc (some 74) (F:=F) (String1 J2 b v3 _ M3 own3 (fun e=>by rw [List.append_eq_nil_iff] at e;rw [e.2] at hkl;simp at hkl;omega) (by rw [List.length_append];omega)) (PR _) (fun r J3 M' hle3 hp2=>?_))))))));obtain ⟨rfl,rfl⟩:=hp2;show Sl.Seq _ _ _ _ _ _ ((74,sV (x0++Lib.joinTail s ((xs.drop 1).take k)))::_) _ F;refine sp 1 [(4,sV (x0++Lib.joinTail s ((xs.drop 1).take k)))] (se (BB ?_));exact rt1 4 rfl (IT (IT (IT hle hle1) hle2) hle3) ⟨by rw [hx0,jt_all h2 (by omega)],rfl⟩
theorem JoinC_ct (I:Imm) (v:Value) (xs:List (List UInt8)) (s:List UInt8) (hv:IsStrs I v xs) (h:(2≤xs.length∧xs.length≤50∧∀ x∈xs,x.length≤100)∧1≤s.length∧s.length≤10):CtV Tryz.prog 68 #[v,sV s] I (sV (Lib.join xs s)):=
  Join1 I v xs s hv h.1.1 h.1.2.1 h.2 h.1.2.2
noncomputable def c_Write:=cod Tryz.f26
set_option maxHeartbeats 1000000 in
theorem WriteC_ct (I:Imm) (l:Value) (L:Lin) (l_f:IsLin I l L) (ht:TwoL L):Ct Tryz.prog 26 #[l] I ([]) (fun v I' M'=>v=.tuple #[sV ((JE L).1),vI ((JE L).2)]∧M'=[]):=by
 obtain ⟨l1,l2,l3,rfl,f9,g0,g1⟩:=id l_f;obtain ⟨a0,a1,m2,m5,k7,rfl,m3,m4,c0,c3⟩:=id f9;obtain ⟨a2,a3,m6,m9,rfl,m7,m8,a8⟩:=id g0;obtain ⟨a4,a5,n0,n3,rfl,n1,n2,a6⟩:=id g1;refine fr (args:=[_]) (N:=74) Tryz.func26 (fun F=>?_);show Run _ _ (c_Write []) _ _ [(0,_)] _ _;refine rnm (rqr ?_);refine sS (sb 1 26 (AQ L (vS a0 L.start.length a1) (vS a2 L.keeps.length a3) (vS a4 L.slips.length a5)) (fun b1=>(sp 2 [(3,vI 0),(2,sV ([]:List UInt8))] (se (rq (rqr (sd (dnb 12 0 0 b1 (DE L (vS a0 L.start.length a1) (vS a2 L.keeps.length a3) (vS a4 L.slips.length a5))) (sd (dc 13 (fun I' hI=>(DJ I' _ L ((CN f9 g0 g1).mono hI) :))) (sp 1 [(4,vI (AH L))] (sn (sp 2 [(15,.bool (!(cmp .eql (AH L) 0)))] (se (rc 15 rfl (fun h1=>?_) (fun h1=>?_))))))))))))))
 ·
  have i4:=h1;have h1:=BV (BM h1);refine rqr (sp 3 [(3,vI (AH L)),(2,sV ([]:List UInt8))] (se (BB (RP (rt2s 2 3 [] rfl rfl (TC _ (TR _)) (IR _) ?_)))));exact ⟨(congrArg (fun p:List UInt8 × Int=>Value.tuple #[sV p.1,vI p.2]) (writeLE_bad h1).symm),rfl⟩
 have i4:=h1;have h1:=BQ (BE h1);have hz:AH L=0:=by omega
 have hg:GoodL L:=GG hz;have p2:=hg.start;have p3:=hg.places;have p4:=hg.sorts;have p5:=hg.keeps;have p6:=hg.slips;refine AM (NX (rqr (sp 1 [(17,vP b1 0)] (sd (dlb 18 0 0 b1 (vI L.places)) (sp 1 [(19,vP b1 1)] (sd (dlb 20 0 1 b1 (vI L.sorts)) (sS (sbs 21 3 2 #[vI L.places,vI L.sorts] (fun b3=>(pm (M':=((bX b1 (AQ L (vS a0 L.start.length a1) (vS a2 L.keeps.length a3) (vS a4 L.slips.length a5)) 26)::([(bX b3 #[vI L.places,vI L.sorts] 3)]++F))) (PS _ _ _) ?_))))))))));have l9:Own 3 1 AK (vS (some ⟨b3,0,none⟩) 2 2) ([(L.places:Int),(L.sorts:Int)]:List Int) [(bX b3 #[vI L.places,vI L.sorts] 3)]:=Own.lit rfl rfl;refine sfz (A:=((bX b1 (AQ L (vS a0 L.start.length a1) (vS a2 L.keeps.length a3) (vS a4 L.slips.length a5)) 26)::F)) 0 l9 PM.symm (fun I6 c2 d5=>?_);replace c0:=c0.mono c2;replace c3:=fun i hi=>(c3 i hi).mono c2
 replace a8:=a8.mono c2;replace a6:=a6.mono c2;obtain ⟨j9,k1,k0,k4,e6,k2,k3,k5⟩:=id d5;cases e6;refine sd (dc 22 (fun I' hI=>(HY I' ([108,105,110,101,110]:List UInt8) _ _ (d5.mono hI) (by exact hg.twoHead) (by exact ⟨by first | omega | decide,by first | omega | simp⟩) :))) (sS (sbs 23 9 1 #[sV (jn ([108,105,110,101,110]:List UInt8) ([(L.places:Int),(L.sorts:Int)]:List Int))] (fun b9=>(sp 1 [(5,vS (some ⟨b9,0,none⟩) 1 1)] (se (rq (rqr (sp 1 [(24,vP b1 2)] (sd (dlb 25 1 2 b1 (vS a0 L.start.length a1)) (sp 2 [(27,vI 0),(26,vI (↑(L.start.length)))] (se (rb 0 ?_))))))))))));refine rpm (M':=((bX b1 (AQ L (vS a0 L.start.length a1) (vS a2 L.keeps.length a3) (vS a4 L.slips.length a5)) 26)::([(bX b9 #[sV (jn ([108,105,110,101,110]:List UInt8) ([(L.places:Int),(L.sorts:Int)]:List Int))] 9)]++F))) (PS _ _ _) ?_;have i8:Own 9 1 KE (vS (some ⟨b9,0,none⟩) 1 1) ([((jn ([108,105,110,101,110]:List UInt8) ([(L.places:Int),(L.sorts:Int)]:List Int)):List UInt8)]:List (List UInt8)) [(bX b9 #[sV (jn ([108,105,110,101,110]:List UInt8) ([(L.places:Int),(L.sorts:Int)]:List Int))] 9)]:=Own.lit rfl rfl;refine rl (fun mz a w=>∃ J0:Imm,∃ k:Nat,∃ c7:Value,∃ a9:Seg,(I6.le J0)∧(k≤L.start.length)∧(Own 9 1 KE c7 (HT L k) a9)∧SD 74 [(5,c7),(27,vI ↑k),(1,vP b1 0),(2,sV ([]:List UInt8)),(3,vI 0),(25,vS a0 L.start.length a1),(26,vI (↑(L.start.length)))] J0 ((bX b1 (AQ L (vS a0 L.start.length a1) (vS a2 L.keeps.length a3) (vS a4 L.slips.length a5)) 26)::(a9++F)) a w (mz=L.start.length-k)) ?_ ?_
 ·intro a w hS hD hW;exact ⟨_,I6,0,vS (some ⟨b9,0,none⟩) 1 1,[(bX b9 #[sV (jn ([108,105,110,101,110]:List UInt8) ([(L.places:Int),(L.sorts:Int)]:List Int))] 9)],IR _,Nat.zero_le _,(show Own _ _ _ _ (HT L 0) _ from by rw [← starts_zero];exact i8),hS.sub su,hD,hW,rfl⟩
 rintro mz a w ⟨J0,k,c7,a9,hJ0,hk,c4,hS,hD,hW,rfl⟩
 refine AW hS hD hW ?_;replace c0:=c0.mono hJ0;replace c3:=fun i hi=>(c3 i hi).mono hJ0
 replace a8:=a8.mono hJ0;replace a6:=a6.mono hJ0;obtain ⟨b2,b4,rfl,g8⟩:=c4.shape;have p9:=starts_len L (k:=k) (by omega);refine rqr (sp 1 [(28,.bool (cmp .lss ↑k (↑(L.start.length))))] (se (rq (rc 28 rfl (fun h2=>?_) (fun h2=>?_)))))
 ·
  have i5:=h2;have h2:=CQ h2;refine AM (NX (rq (rb 1 (rqr (sd (di 29 1 k c0.addr) ?_)))));have d0:=c3 k (by omega);obtain ⟨d7,d8,k8,l4,d9,k9,l0,l5⟩:=id d0;rw [d9] at d0;refine sd (JG (dl 30 (IF c0 k (by omega))) d9) (sp 1 [(7,vS d7 (L.start.getD k []).length d8)] (se ?_));have k6:=BJ (d:=[]) (xs:=L.start) (k:=k) (by omega);have m0:=hg.twoRow k6;have p8:=hg.rows _ k6;refine rr (sp 2 [(32,vS d7 (L.start.getD k []).length d8),(31,vS b2 (HT L k).length b4)] (sd (dc 33 (fun I' hI=>(HY I' ([115,116,97,114,116]:List UInt8) _ _ (d0.mono hI) (by exact m0) (by exact ⟨by first | omega | decide,by first | omega | simp⟩) :))) (sS (sbs 34 9 1 #[sV (jn ([115,116,97,114,116]:List UInt8) (L.start.getD k []))] (fun o6=>(sS (sap (d:=35) 31 34 68 9 1 16 (sV ([]:List UInt8)) KE (HT L k) [((jn ([115,116,97,114,116]:List UInt8) (L.start.getD k [])):List UInt8)] a9 rfl rfl c4 (PU PM.symm) (ME _) (HG 0 rfl rfl) (fun q0 e2 f3=>(BA (M':=((bX b1 (AQ L (vS a0 L.start.length a1) (vS a2 L.keeps.length a3) (vS a4 L.slips.length a5)) 26)::(e2++F))) (fun w h=>(h.perm (PW PM)).sub (TC _ (TR _))) ?_)))))))));obtain ⟨g2,g5,rfl,n7⟩:=f3.shape;refine sp 1 [(5,vS g2 ((HT L k)++([((jn ([115,116,97,114,116]:List UInt8) (L.start.getD k [])):List UInt8)])).length g5)] (ee (NB (NX (rr (sd (da 36 ↑k 1) (sp 1 [(27,vI (↑k+1))] (ee ?_)))))));refine AN (L.start.length-(k+1)) (by omega) ?_;intro a w hS hD hW;exact ⟨J0,k+1,vS g2 ((HT L k)++([((jn ([115,116,97,114,116]:List UInt8) (L.start.getD k [])):List UInt8)])).length g5,e2,hJ0,by omega,((starts_snoc (L:=L) (k:=k) (by omega))▸f3),hS.sub su,hD,hW,rfl⟩
 have i5:=h2;have h2:=CU h2;refine CH 0 (EP (EP (EB (NX (rq (rqr (sp 1 [(37,vP b1 3)] (sd (dlb 38 0 3 b1 (vS a2 L.keeps.length a3)) (sp 2 [(40,vI 0),(39,vI (↑(L.keeps.length)))] (se (rb 2 ?_)))))))))));refine rl (fun mz a w=>∃ J1:Imm,∃ i:Nat,∃ c8:Value,∃ a7:Seg,(J0.le J1)∧(i≤L.keeps.length)∧(Own 9 1 KE c8 (IP L i) a7)∧SD 74 [(5,c8),(40,vI ↑i),(1,vP b1 0),(2,sV ([]:List UInt8)),(3,vI 0),(38,vS a2 L.keeps.length a3),(39,vI (↑(L.keeps.length)))] J1 ((bX b1 (AQ L (vS a0 L.start.length a1) (vS a2 L.keeps.length a3) (vS a4 L.slips.length a5)) 26)::(a7++F)) a w (mz=L.keeps.length-i)) ?_ ?_
 ·intro a w hS hD hW;exact ⟨_,J0,0,vS b2 (HT L k).length b4,a9,IR _,Nat.zero_le _,((starts_done (L:=L) (k:=k) (by omega))▸c4),hS.sub su,hD,hW,rfl⟩
 rintro mz a w ⟨J1,i,c8,a7,hJ1,hi,c5,hS,hD,hW,rfl⟩
 refine AW hS hD hW ?_;replace a8:=a8.mono hJ1;replace a6:=a6.mono hJ1;obtain ⟨b5,b6,rfl,g9⟩:=c5.shape;have p1:=keepsT_len L (k:=i) (by omega);refine rqr (sp 1 [(41,.bool (cmp .lss ↑i (↑(L.keeps.length))))] (se (rq (rc 41 rfl (fun h3=>?_) (fun h3=>?_)))))
 ·
  have i6:=h3;have h3:=CQ h3;refine AM (NX (rq (rb 3 (rqr (sd (di 42 3 i a8.addr) (sd (dln 43 42 75 (PH (L.keeps.getD i AL)) rfl (BI (vals:=IE) (fun _=>rfl) a8 i (by omega))) (sS (sal 9 75 #[vI 0,vI 0,vI 0] (fun d1=>(sS (ss 0 0 d1 (PH (L.keeps.getD i AL)) (PH (L.keeps.getD i AL)) (_::_::_) (cs:=[_,_,_]) rfl rfl (se ?_))))))))))));have l8:=hg.twoKeep ht (BJ (d:=AL) (xs:=L.keeps) (k:=i) (by omega));refine rr (sp 2 [(45,vP d1 0),(44,vS b5 (IP L i).length b6)] (sd (dlb 46 0 0 d1 (vI ((L.keeps.getD i AL).place))) (sp 1 [(47,vP d1 1)] (sd (dlb 48 0 1 d1 (vI ((L.keeps.getD i AL).hour))) (sp 1 [(49,vP d1 2)] (sd (dlb 50 0 2 d1 (vI ((L.keeps.getD i AL).who))) (sS (sbs 51 3 3 (keepA (L.keeps.getD i AL)) (fun h5=>(pm (M':=((bX d1 (keepA (L.keeps.getD i AL)) 75)::(bX b1 (AQ L (vS a0 L.start.length a1) (vS a2 L.keeps.length a3) (vS a4 L.slips.length a5)) 26)::([(bX h5 (keepA (L.keeps.getD i AL)) 3)]++(a7++F)))) ((PS _ _ _).trans (PC _ (PS _ _ _))) ?_))))))))));have i9:Own 3 1 AK (vS (some ⟨h5,0,none⟩) 3 3) ([((L.keeps.getD i AL).place:Int),((L.keeps.getD i AL).hour:Int),((L.keeps.getD i AL).who:Int)]:List Int) [(bX h5 (keepA (L.keeps.getD i AL)) 3)]:=Own.lit rfl rfl;refine sfz (A:=((bX d1 (keepA (L.keeps.getD i AL)) 75)::(bX b1 (AQ L (vS a0 L.start.length a1) (vS a2 L.keeps.length a3) (vS a4 L.slips.length a5)) 26)::(a7++F))) 0 i9 (PU PM.symm) (fun l6 d6 c1=>?_);replace a6:=a6.mono d6;obtain ⟨h7,h9,h8,i2,e0,i0,i1,i3⟩:=id c1;cases e0;refine sd (dc 52 (fun I' hI=>(HY I' ([107,101,101,112]:List UInt8) _ _ (c1.mono hI) (by exact l8) (by exact ⟨by first | omega | decide,by first | omega | simp⟩) :))) (sS (sbs 53 9 1 #[sV (jn ([107,101,101,112]:List UInt8) ([((L.keeps.getD i AL).place:Int),((L.keeps.getD i AL).hour:Int),((L.keeps.getD i AL).who:Int)]:List Int))] (fun o7=>(sS (sap (d:=54) 44 53 68 9 1 16 (sV ([]:List UInt8)) KE (IP L i) [((jn ([107,101,101,112]:List UInt8) ([((L.keeps.getD i AL).place:Int),((L.keeps.getD i AL).hour:Int),((L.keeps.getD i AL).who:Int)]:List Int)):List UInt8)] a7 rfl rfl c5 (PU (PU PM.symm)) (ME _) (HG 0 rfl rfl) (fun q1 e3 f4=>(BA (M':=((bX d1 (keepA (L.keeps.getD i AL)) 75)::(bX b1 (AQ L (vS a0 L.start.length a1) (vS a2 L.keeps.length a3) (vS a4 L.slips.length a5)) 26)::(e3++F))) (fun w h=>(h.perm (PW (PW PM))).sub (TC _ (TR _))) ?_)))))));obtain ⟨g3,g6,rfl,n8⟩:=f4.shape;refine sp 1 [(5,vS g3 ((IP L i)++([((jn ([107,101,101,112]:List UInt8) ([((L.keeps.getD i AL).place:Int),((L.keeps.getD i AL).hour:Int),((L.keeps.getD i AL).who:Int)]:List Int)):List UInt8)])).length g6)] (ee (NB (NX (rr (sd (da 55 ↑i 1) (sp 1 [(40,vI (↑i+1))] (ee ?_)))))));refine AN (L.keeps.length-(i+1)) (by omega) ?_;intro a w hS hD hW;exact ⟨l6,i+1,vS g3 ((IP L i)++([((jn ([107,101,101,112]:List UInt8) ([((L.keeps.getD i AL).place:Int),((L.keeps.getD i AL).hour:Int),((L.keeps.getD i AL).who:Int)]:List Int)):List UInt8)])).length g6,e3,(IT hJ1 d6),by omega,((keepsT_snoc (L:=L) (k:=i) (by omega))▸f4),hS.sub su,hD,(hW.perm (PR _)).sub (TC _ (TR _)),rfl⟩
 have i6:=h3;have h3:=CU h3;refine CH 2 (EP (EP (EB (NX (rq (rqr (sp 1 [(56,vP b1 4)] (sd (dlb 57 0 4 b1 (vS a4 L.slips.length a5)) (sp 2 [(59,vI 0),(58,vI (↑(L.slips.length)))] (se (rb 4 ?_)))))))))));refine rl (fun mz a w=>∃ J2:Imm,∃ j:Nat,∃ c9:Value,∃ b0:Seg,(J1.le J2)∧(j≤L.slips.length)∧(Own 9 1 KE c9 (GB L j) b0)∧SD 74 [(5,c9),(59,vI ↑j),(2,sV ([]:List UInt8)),(3,vI 0),(57,vS a4 L.slips.length a5),(58,vI (↑(L.slips.length)))] J2 ((bX b1 (AQ L (vS a0 L.start.length a1) (vS a2 L.keeps.length a3) (vS a4 L.slips.length a5)) 26)::(b0++F)) a w (mz=L.slips.length-j)) ?_ ?_
 ·intro a w hS hD hW;exact ⟨_,J1,0,vS b5 (IP L i).length b6,a7,IR _,Nat.zero_le _,((keepsT_done (L:=L) (k:=i) (by omega))▸c5),hS.sub su,hD,hW,rfl⟩
 rintro mz a w ⟨J2,j,c9,b0,hJ2,hj,c6,hS,hD,hW,rfl⟩
 refine AW hS hD hW ?_;replace a6:=a6.mono hJ2;obtain ⟨b7,b8,rfl,h0⟩:=c6.shape;have p7:=RI L (k:=j) (by omega);refine rqr (sp 1 [(60,.bool (cmp .lss ↑j (↑(L.slips.length))))] (se (rq (rc 60 rfl (fun h4=>?_) (fun h4=>?_)))))
 ·
  have i7:=h4;have h4:=CQ h4;refine AM (NX (rq (rb 5 (rqr (sd (di 61 8 j a6.addr) (sd (dln 62 61 29 (ET (L.slips.getD j AB)) rfl (BI (vals:=BW) (fun _=>rfl) a6 j (by omega))) (sS (sal 11 29 zSlpA (fun h6=>(sS (ss 0 0 h6 (ET (L.slips.getD j AB)) (ET (L.slips.getD j AB)) (_::_::_) (cs:=[_,_,_,_,_,_,_,_]) rfl rfl (se ?_))))))))))));have m1:=hg.twoS ht (BJ (d:=AB) (xs:=L.slips) (k:=j) (by omega));refine rr (sp 1 [(63,vS b7 (GB L j).length b8)] (sd (dnb 64 0 0 h6 (ET (L.slips.getD j AB))) ?_));have e7:=slipLineC_ct J2 (L.slips.getD j AB) (by exact m1);refine sS (sc (some 65) (e7 :) (.refl _) (fun o3 l7 o1 e9 j0=>?_));obtain ⟨f7,f1⟩:=j0;rw [f7,f1];clear f7 f1;refine nm ?_;refine sS (sbs 66 9 1 #[sV (slipT (L.slips.getD j AB))] (fun o8=>(sS (sap (d:=67) 63 66 68 9 1 16 (sV ([]:List UInt8)) KE (GB L j) [((slipT (L.slips.getD j AB)):List UInt8)] b0 rfl rfl c6 (PU (PU PM.symm)) (ME _) (HG 0 rfl rfl) (fun q2 e4 f5=>(BA (M':=((bX h6 (AY (L.slips.getD j AB)) 29)::(bX b1 (AQ L (vS a0 L.start.length a1) (vS a2 L.keeps.length a3) (vS a4 L.slips.length a5)) 26)::(e4++F))) (fun w h=>(h.perm (PW (PW PM))).sub (TC _ (TR _))) ?_))))));obtain ⟨g4,g7,rfl,n9⟩:=f5.shape;refine sp 1 [(5,vS g4 ((GB L j)++([((slipT (L.slips.getD j AB)):List UInt8)])).length g7)] (ee (NB (NX (rr (sd (da 68 ↑j 1) (sp 1 [(59,vI (↑j+1))] (ee ?_)))))));refine AN (L.slips.length-(j+1)) (by omega) ?_;intro a w hS hD hW;exact ⟨l7,j+1,vS g4 ((GB L j)++([((slipT (L.slips.getD j AB)):List UInt8)])).length g7,e4,(IT hJ2 e9),by omega,((slipsT_snoc (L:=L) (k:=j) (by omega))▸f5),hS.sub su,hD,(hW.perm (PR _)).sub (TC _ (TR _)),rfl⟩
 have i7:=h4;have h4:=CU h4;refine CH 4 (EP (EP (EB (NX (rqr (sp 1 [(69,vS b7 (GB L j).length b8)] (sS (sbs 70 9 1 #[sV ([99,111,117,110,116,101,100]:List UInt8)] (fun o9=>(sS (sap (d:=71) 69 70 68 9 1 16 (sV ([]:List UInt8)) KE (GB L j) [(([99,111,117,110,116,101,100]:List UInt8):List UInt8)] b0 rfl rfl c6 (PU PM.symm) (ME _) (HG 0 rfl rfl) (fun q3 e5 f6=>(BA (M':=((bX b1 (AQ L (vS a0 L.start.length a1) (vS a2 L.keeps.length a3) (vS a4 L.slips.length a5)) 26)::(e5++F))) (fun w h=>(h.perm (PW PM)).sub (TC _ (TR _))) ?_)))))))))))));obtain ⟨n5,n6,rfl,o0⟩:=f6.shape;have e1:GB L j++[[99,111,117,110,116,101,100]]=LJ L:=slipsT_done (by omega);have p0:=hg.joinLe;have e8:=ct_own (I:=J2) ([]:List UInt8) f6 (by simp only [LC,LN,LA,List.length_map,LK] <;> omega) (fun J hJ hs=>JoinC_ct J _ ((GB L j)++([(([99,111,117,110,116,101,100]:List UInt8):List UInt8)])) ([10]:List UInt8) hs (by rw [e1];exact ⟨hg.joins,by decide⟩));refine sS (sc (some 72) (F:=((bX b1 (AQ L (vS a0 L.start.length a1) (vS a2 L.keeps.length a3) (vS a4 L.slips.length a5)) 26)::F)) (e8 :) PM.symm (fun o4 o5 o2 f0 j1=>?_));obtain ⟨f8,f2⟩:=j1;rw [f8,f2];clear f8 f2;refine pm (M':=((bX b1 (AQ L (vS a0 L.start.length a1) (vS a2 L.keeps.length a3) (vS a4 L.slips.length a5)) 26)::(e5++F))) PM ?_;show Seq _ _ _ _ _ _ ((72,sV (Lib.join ((GB L j)++([(([99,111,117,110,116,101,100]:List UInt8):List UInt8)])) ([10]:List UInt8)))::_) _ _;refine sd (det_cat (x:=(.tmp 72)) (y:=(.const (.string { data:=#[10] }))) (T:=9) (T':=9) (d:=73) (ty:=9) (gd:=none) (by kernel_rfl) rfl rfl rfl (by rw [e1];simp only [LC,LN];omega)) (sp 2 [(3,vI 0),(2,sV ((Lib.join ((GB L j)++([(([99,111,117,110,116,101,100]:List UInt8):List UInt8)])) ([10]:List UInt8))++([10]:List UInt8)))] (se (BB ?_)));have hw:=writeLE_ok hz;refine EE (t:=2) (u:=3) [] (by kernel_rfl) rfl rfl (TC _ (TT (TR _) (TB _ _))) (IT (IT (IT (IT c2 hJ0) hJ1) hJ2) f0) ?_;exact ⟨(congrArg (fun p:List UInt8 × Int=>Value.tuple #[sV p.1,vI p.2]) (show (Lib.join (GB L j++[[99,111,117,110,116,101,100]]) [10]++[10],(0:Int))=JE L from by rw [hw,e1];rfl)),rfl⟩
noncomputable def c_EqKeepS_ct:=cod Tryz.f63
theorem EqKeepS_ct (I:Imm) (a:Value) (xs:List Keep) (b:Value) (ys:List Keep) (a_f:GK I a xs) (b_f:GK I b ys):CtV Tryz.prog 63 #[a,b] I (.bool (decide (xs=ys))):=by
 obtain ⟨a0,a1,b1,b4,rfl,b2,b3,a7⟩:=id a_f;obtain ⟨a2,a3,b5,b8,rfl,b6,b7,a8⟩:=id b_f;refine fr (args:=[_,_]) (N:=26) Tryz.func63 (fun F=>?_);show Run _ _ (c_EqKeepS_ct []) _ _ [(0,_),(1,_)] _ _;refine rnm (rqr ?_);refine sp 1 [(4,.bool false)] (se (rq (rqr (sp 5 [(10,.bool (!(cmp .eql (↑(xs.length)) (↑(ys.length)))))] (se (rc 10 rfl (fun h1=>?_) (fun h1=>?_)))))))
 ·
  have a4:=h1;have h1:=BV (BM h1);refine rqr (sp 1 [(4,.bool false)] (se (BB (RP (rt1 4 rfl (IR _) ?_)))));exact ⟨by rw [decide_eq_false (fun e=>h1 (by rw [e]))],rfl⟩
 have a4:=h1;have h1:=BQ (BE h1);refine AM (NX (rq (rqr (sp 3 [(13,vI 0),(12,vI (↑(xs.length)))] (se (rb 0 ?_))))));refine rl (fun mz a w=>∃ k:Nat,(k≤xs.length)∧(xs.length=ys.length)∧(xs.take k=ys.take k)∧SD 26 [(13,vI ↑k),(0,vS a0 xs.length a1),(1,vS a2 ys.length a3),(12,vI (↑(xs.length)))] I F a w (mz=xs.length-k)) ?_ ?_
 ·intro a w hS hD hW;exact ⟨_,0,Nat.zero_le _,by omega,rfl,hS.sub su,hD,hW,rfl⟩
 rintro mz a w ⟨k,hk,hl,ht,hS,hD,hW,rfl⟩
 refine AW hS hD hW ?_;clear hS hD hW a w;refine rqr (sp 1 [(14,.bool (cmp .lss ↑k (↑(xs.length))))] (se (rq (rc 14 rfl (fun h2=>?_) (fun h2=>?_)))))
 ·
  have a5:=h2;have h2:=CQ h2;refine AM (NX (rq (rb 1 (rqr (sp 2 [(5,vI ↑k)] (se (rq ?_)))))));refine rd0 8 (ox 2 [(17,vI ↑k),(16,vS a0 xs.length a1)] ?_);refine AE (di 18 3 k a7.addr) ?_;refine AE (dln 19 18 75 (PH (xs.getD k AL)) rfl (BI (vals:=IE) (fun _=>rfl) a7 k (by omega))) (ox 2 [(21,vI ↑k),(20,vS a2 ys.length a3)] ?_);refine AE (di 22 3 k a8.addr) ?_;refine AE (dln 23 22 75 (PH (ys.getD k AL)) rfl (BI (vals:=IE) (fun _=>rfl) a8 k (by omega))) ?_;refine BT (sd (HV (L:=[(0,.i .i64),(1,.i .i64),(2,.i .i64)]) (x:=(.tmp 19)) (y:=(.tmp 23)) (T:=75) (T':=75) (d:=24) (ty:=4) (gd:=none) (by kernel_rfl) rfl (by kernel_rfl) rfl rfl rfl (eqKeep (xs.getD k AL) (ys.getD k AL))) (se (rc 24 rfl (fun h3=>?_) (fun h3=>?_))))
  ·
   have a6:=h3;have h3:=QQ (BM h3);refine rqr (sp 1 [(4,.bool false)] (se (BB (RB (RP (RP (RB (RP (rt1 4 rfl (IR _) ?_)))))))));exact ⟨by rw [decide_eq_false (LZ hl h3)],rfl⟩
  have a6:=h3;have h3:=NR (BE h3);refine AM (NB (NX (rr (sd (da 25 ↑k 1) (sp 1 [(13,vI (↑k+1))] (ee ?_))))));refine AN (xs.length-(k+1)) (by omega) ?_;intro a w hS hD hW;exact ⟨k+1,by omega,hl,GX (d:=AL) hl ht (by omega) h3,hS.sub su,hD,hW,rfl⟩
 have a5:=h2;have h2:=CU h2;refine CH 0 (EP (EP (EB (NX (rqr (sp 1 [(4,.bool true)] (se (BB (rt1 4 rfl (IR _) ?_)))))))));exact ⟨by rw [decide_eq_true (JO hl ht (by omega))],rfl⟩
noncomputable def c_EqRowsF:=cod Tryz.f61
theorem EqRowsF_ct (I:Imm) (a:Value) (xs:List (List Int)) (b:Value) (ys:List (List Int)) (a_f:IsRows I a xs) (b_f:IsRows I b ys):CtV Tryz.prog 61 #[a,b,.func (.func 62) #[] #[]] I (.bool (decide (xs=ys))):=by
 obtain ⟨a8,a9,d3,d6,b8,rfl,d4,d5,b5,b9⟩:=id a_f;obtain ⟨b0,b1,d7,e0,c1,rfl,d8,d9,b6,c2⟩:=id b_f;refine fr (args:=[_,_,_]) (N:=32) Tryz.func61 (fun F=>?_);show Run _ _ (c_EqRowsF []) _ _ [(0,_),(1,_),(2,_)] _ _;refine rnm (rqr ?_);refine sp 1 [(6,.bool false)] (se (rq (rqr (sp 5 [(14,.bool (!(cmp .eql (↑(xs.length)) (↑(ys.length)))))] (se (rc 14 rfl (fun h1=>?_) (fun h1=>?_)))))))
 ·
  have b2:=h1;have h1:=BV (BM h1);refine rqr (sp 1 [(6,.bool false)] (se (BB (RP (rt1 6 rfl (IR _) ?_)))));exact ⟨by rw [decide_eq_false (fun e=>h1 (by rw [e]))],rfl⟩
 have b2:=h1;have h1:=BQ (BE h1);refine AM (NX (rq (rqr (sp 3 [(17,vI 0),(16,vI (↑(xs.length))),(15,vS a8 xs.length a9)] (se (rb 0 ?_))))));refine rl (fun mz a w=>∃ k:Nat,(k≤xs.length)∧(xs.length=ys.length)∧(xs.take k=ys.take k)∧SD 32 [(17,vI ↑k),(1,vS b0 ys.length b1),(2,.func (.func 62) #[] #[]),(15,vS a8 xs.length a9),(16,vI (↑(xs.length)))] I F a w (mz=xs.length-k)) ?_ ?_
 ·intro a w hS hD hW;exact ⟨_,0,Nat.zero_le _,by omega,rfl,hS.sub su,hD,hW,rfl⟩
 rintro mz a w ⟨k,hk,hl,ht,hS,hD,hW,rfl⟩
 refine AW hS hD hW ?_;clear hS hD hW a w;refine rqr (sp 1 [(18,.bool (cmp .lss ↑k (↑(xs.length))))] (se (rq (rc 18 rfl (fun h2=>?_) (fun h2=>?_)))))
 ·
  have b3:=h2;have h2:=CQ h2;refine AM (NX (rq (rb 1 (rqr (sp 1 [(19,vI ↑k)] (sd (di 20 1 k b5.addr) ?_))))));have a0:=b9 k (by omega);obtain ⟨a2,a3,c3,c6,a4,c4,c5,c7⟩:=id a0;rw [a4] at a0;refine sd (JG (dl 21 (IF b5 k (by omega))) a4) (sp 2 [(8,vS a2 (xs.getD k []).length a3),(7,vI ↑k)] (sn (sp 2 [(23,vI ↑k),(22,vS b0 ys.length b1)] (sd (di 24 1 k b6.addr) ?_))));have a1:=c2 k (by omega);obtain ⟨a5,a6,c8,d1,a7,c9,d0,d2⟩:=id a1;rw [a7] at a1;refine sd (JG (dl 25 (IF b6 k (by omega))) a7) (sp 1 [(9,vS a5 (ys.getD k []).length a6)] (sn (sp 3 [(28,vS a5 (ys.getD k []).length a6),(27,vS a2 (xs.getD k []).length a3),(26,.func (.func 62) #[] #[])] (sd (dc 29 (fun I' hI=>(slicesEqual_ct I' _ _ _ _ (a0.mono hI) (a1.mono hI) :))) (sp 1 [(30,.bool (!(decide ((xs.getD k [])=(ys.getD k [])))))] (se (rc 30 rfl (fun h3=>?_) (fun h3=>?_))))))))
  ·
   have b4:=h3;have h3:=QQ (BM h3);refine rqr (sp 1 [(6,.bool false)] (se (BB (RB (RP (RP (RB (RP (rt1 6 rfl (IR _) ?_)))))))));exact ⟨by rw [decide_eq_false (LZ hl h3)],rfl⟩
  have b4:=h3;have h3:=NR (BE h3);refine AM (NB (NX (rr (sd (da 31 ↑k 1) (sp 1 [(17,vI (↑k+1))] (ee ?_))))));refine AN (xs.length-(k+1)) (by omega) ?_;intro a w hS hD hW;exact ⟨k+1,by omega,hl,GX (d:=[]) hl ht (by omega) h3,hS.sub su,hD,hW,rfl⟩
 have b3:=h2;have h2:=CU h2;refine CH 0 (EP (EP (EB (NX (rqr (sp 1 [(6,.bool true)] (se (BB (rt1 6 rfl (IR _) ?_)))))))));exact ⟨by rw [decide_eq_true (JO hl ht (by omega))],rfl⟩
end Go.Proofs.YtgcemienebmdeaaGreatDoor
namespace Go.Sl
open Go
open Go.Conc (G)
inductive Tree
  | leaf
  | node (f:Go.World→Tree)
inductive Twig:Tree→Tree→Prop
  | mk (f:Go.World→Tree) (w:Go.World):Twig (f w) (.node f)
theorem acc_tree (x:Tree):Acc Twig x:=by
  induction x with
  | leaf=>exact ⟨_,fun y h=>by cases h⟩
  | node f ih=>exact ⟨_,fun y h=>by cases h with | mk _ w=>exact ih w⟩
def Red (l' l:List Tree):Prop:=∃ A x y B,l=A++x::B∧l'=A++y::B∧Twig y x
theorem acc_red (l:List Tree):Acc Red l:=by
  induction l with
  | nil=>exact ⟨_,fun l' ⟨A,x,y,B,e,_⟩=>by cases A <;> simp at e⟩
  | cons x l ih=>
    have hx:=acc_tree x
    induction hx generalizing l with
    | intro x _ ihx=>
      induction ih with
      | intro l hl ihl=>
        refine ⟨_,fun l' ⟨A,u,v,B,e1,e2,s⟩=>?_⟩;cases A with
        | nil=>
          simp only [List.nil_append,List.cons.injEq] at e1 e2;obtain ⟨rfl,rfl⟩:=e1;subst e2;exact ihx v s l ⟨_,hl⟩
        | cons a A=>
          simp only [List.cons_append,List.cons.injEq] at e1 e2;obtain ⟨rfl,rfl⟩:=e1;subst e2;exact ihl _ ⟨A,u,v,B,rfl,rfl,s⟩
def natT:Nat→Tree
  | 0=>.leaf
  | n+1=>.node fun _=>natT n
def NW (n:Nat) (τ:Nat→Tree):List Tree:=(List.range n).map τ
def setT (τ:Nat→Tree) (i:Nat) (x:Tree):Nat→Tree:=fun j=>if j=i then x else τ j
theorem LM (τ:Nat→Tree) (i:Nat) (x:Tree):setT τ i x i=x:=by simp [setT]
theorem JA (τ:Nat→Tree) {i j:Nat} (x:Tree) (h:j≠i):setT τ i x j=τ j:=by simp [setT,h]
theorem QV {n i:Nat} {τ:Nat→Tree} {y:Tree} (hi:i<n) (h:Twig y (τ i)):Red (NW n (setT τ i y)) (NW n τ):=by
  obtain ⟨m,rfl⟩:∃ m,n=i+(m+1):=⟨n-(i+1),by omega⟩;have split:List.range (i+(m+1))=List.range i++i::(List.range' (i+1) m):=by
    rw [List.range_eq_range',List.range_eq_range',← List.range'_append_1,List.range'_succ];simp
  refine ⟨(List.range i).map τ,τ i,y,(List.range' (i+1) m).map τ,?_,?_,h⟩
  · unfold NW;rw [split];simp
  · unfold NW
    rw [split,List.map_append,List.map_cons,LM]
    congr 1
    · exact List.map_congr_left fun j hj=>JA τ y (by have:=List.mem_range.1 hj;omega)
    · congr 1
      exact List.map_congr_left fun j hj=>JA τ y (by have:=List.mem_range'.1 hj;omega)
def Tr (P:Program) (Q:Cf→Prop):Tree→Cf→Prop
  | .leaf,c=>Q c
  | .node f,c=>∀ w,Mod c.σ w→∃ fr' cs' w' es σ',(∀ main,stepG P main (G c.fr c.cs) w=.go (G fr' cs') w' es)∧Guar c.σ w w' es σ'∧Tr P Q (f w) ⟨fr',cs',σ'⟩
theorem tr_one {P:Program} {c:Cf} {Q:Cf→Prop} (h:OneStep P c fun d=>∃ T,Tr P Q T d):∃ T,Tr P Q T c:=by
  have:∀ w,∃ T,Mod c.σ w→∃ fr' cs' w' es σ',(∀ main,stepG P main (G c.fr c.cs) w=.go (G fr' cs') w' es)∧Guar c.σ w w' es σ'∧Tr P Q T ⟨fr',cs',σ'⟩:=fun w=>by
    by_cases hw:Mod c.σ w
    · obtain ⟨fr',cs',w',es,σ',h1,h2,T,h3⟩:=h w hw
      exact ⟨T,fun _=>⟨fr',cs',w',es,σ',h1,h2,h3⟩⟩
    · exact ⟨.leaf,fun h=>absurd h hw⟩
  exact ⟨.node fun w=>Classical.choose (this w),fun w=>Classical.choose_spec (this w)⟩
theorem tr_bind {P:Program} {Q R:Cf→Prop} (k:∀ d,Q d→∃ T,Tr P R T d):∀ (T:Tree) (c:Cf),Tr P Q T c→∃ T,Tr P R T c:=by
  intro T
  induction T with
  | leaf=>exact fun c h=>k c h
  | node f ih=>
    intro c h;exact tr_one fun w hw=>let ⟨fr',cs',w',es,σ',h1,h2,h3⟩:=h w hw;⟨fr',cs',w',es,σ',h1,h2,ih w _ h3⟩
@[reducible] def JC (P:Program):Jud P where
  gets c Q:=∃ T,Tr P Q T c
  stop h:=⟨.leaf,h⟩
  bind h k:=let ⟨T,hT⟩:=h;tr_bind k T _ hT
  one h:=tr_one (h.mono fun _ hd=>⟨.leaf,hd⟩)
open Go Go.Conc
def locB:Loc→Option Nat
  | .cell a=>some a.block
  | .obj r=>some r
  | _=>none
def Kn (t:Trace) (g:Nat) (σ:GW):Prop:=∀ i a b,touchAt t i=some a→locB a.loc=some b→σ.blk b≠none→(a.write=true∨¬ σ.pub b)→Knows t g i
def Low (t:Trace) (n:Nat):Prop:=∀ op∈t,op.act.low n
theorem low_touch {x:MemAct} {a:Touch} {b n:Nat} (h:x.low n) (ha:x.touch?=some a) (hb:locB a.loc=some b):b<n:=by
  cases x with
  | access e=>
    simp only [MemAct.touch?,Option.some.injEq] at ha;subst ha;obtain ⟨loc,wr,sy⟩:=e;cases loc <;> simp only [locB,Option.some.injEq] at hb <;> first | (subst hb;exact h) | cases hb
  | mark m=>
    cases m <;> simp only [MemAct.touch?,Option.some.injEq] at ha <;> first | (subst ha;simp only [locB,Option.some.injEq] at hb;subst hb;exact h) | cases ha
  | _=>cases ha
theorem Low.at {t:Trace} {n i b:Nat} {a:Touch} (h:Low t n) (ha:touchAt t i=some a) (hb:locB a.loc=some b):b<n:=by
  obtain ⟨op,ho,hox⟩:=touch_of ha;exact low_touch (h op (mem_of_getElem? ho)) hox hb
theorem ev_touch {σ:GW} {e:Event} {x:Touch} (h:okEv σ e) (hx:(MemAct.ofEvent e).touch?=some x):∃ b,locB x.loc=some b∧σ.blk b≠none∧(x.write=true→¬ σ.pub b):=by
  obtain ⟨loc,wr,sy⟩:=e;cases loc with
  | cell a=>
    simp only [MemAct.ofEvent,MemAct.touch?,Option.some.injEq] at hx;subst hx;exact ⟨_,rfl,h.1,h.2⟩
  | obj r=>
    cases wr <;> cases sy <;> simp only [MemAct.ofEvent,MemAct.touch?,Option.some.injEq] at hx <;> first | (subst hx;exact ⟨_,rfl,h.1,h.2⟩) | cases hx
  | mark m=>cases m <;> first | (simp only [MemAct.ofEvent,MemAct.touch?] at hx;cases hx;done) | exact h.elim
  | output=>exact h.elim
  | goroutines=>exact h.elim
theorem ev_low {σ:GW} {w:Go.World} {e:Event} (h:okEv σ e) (hw:Mod σ w):(MemAct.ofEvent e).low w.heap.size:=by
  have lt:∀ b,σ.blk b≠none→b<w.heap.size:=fun b hb=>by
    cases hx:σ.blk b with
    | none=>exact absurd hx hb
    | some o=>exact (Array.getElem?_eq_some_iff.1 (hw.blk b o hx)).1
  obtain ⟨loc,wr,sy⟩:=e;cases loc with
  | cell a=>exact lt _ h.1
  | obj r=>cases wr <;> cases sy <;> exact lt _ h.1
  | mark m=>cases m <;> first | trivial | exact h.elim
  | output=>exact h.elim
  | goroutines=>exact h.elim
theorem ev_word {σ:GW} {e:Event} (h:okEv σ e) (m:Mark) (hm:MemAct.ofEvent e=.mark m):Neutral m:=by
  obtain ⟨loc,wr,sy⟩:=e;cases loc with
  | cell a=>cases hm
  | obj r=>cases wr <;> cases sy <;> cases hm
  | mark k=>cases k <;> first | (cases hm;rfl) | exact h.elim | (exact absurd (show false=true from h) (by decide))
  | output=>exact h.elim
  | goroutines=>exact h.elim
section
variable {t:Trace} {g j:Nat} {σ σ' τ:GW} {w w':Go.World} {es:Array Event} {fn:FuncId} {pos:String}
theorem words_own (h:Wordless t) (G:Guar σ w w' es σ'):Wordless (t++MemOp.ofEvents g fn pos es):=
  h.append fun op hop m hm=>by obtain ⟨e,he,rfl⟩:=Go.Conc.mem_ofEvents hop;exact ev_word (G.evs e he) m hm
theorem low_mono {n m:Nat} (h:Low t n) (hn:n≤m):Low t m:=fun op hop=>MemAct.low_mono hn (h op hop)
theorem low_own (h:Low t w.heap.size) (G:Guar σ w w' es σ'):Low (t++MemOp.ofEvents g fn pos es) w'.heap.size:=
  seen_app (low_mono h G.size) fun op hop=>by obtain ⟨e,he,rfl⟩:=Go.Conc.mem_ofEvents hop;exact ev_low (G.evs e he) G.mod
theorem kn_own (h:Kn t g σ) (hl:Low t w.heap.size) (G:Guar σ w w' es σ'):Kn (t++MemOp.ofEvents g fn pos es) g σ':=by
  intro i a b ha hb hk hp;obtain ⟨x,hx,hxa⟩:=touch_of ha;rcases getElem?_append_cases hx with ⟨hi,hx'⟩ | ⟨_,hxu⟩
  · have ha':touchAt t i=some a:=by rw [touchAt_of hx'];exact hxa
    have:=hl.at ha' hb;rcases G.new b hk with hk | hk
    · exact (h i a b ha' hb hk (by rw [← G.pub];exact hp)).app _
    · omega
  · obtain ⟨e,_,rfl⟩:=Go.Conc.mem_ofEvents hxu
    exact knows_own hx
theorem kn_other (h:Kn t j τ) (hτ:Mod τ w) (sep:∀ b,τ.blk b≠none→σ.blk b≠none→τ.pub b∧σ.pub b) (G:Guar σ w w' es σ'):Kn (t++MemOp.ofEvents g fn pos es) j τ:=by
  intro i a b ha hb hk hp;obtain ⟨x,hx,hxa⟩:=touch_of ha;rcases getElem?_append_cases hx with ⟨hi,hx'⟩ | ⟨_,hxu⟩
  · exact (h i a b (by rw [touchAt_of hx'];exact hxa) hb hk hp).app _
  · exfalso
    obtain ⟨e,he,rfl⟩:=Go.Conc.mem_ofEvents hxu;obtain ⟨b',h1,h2,h3⟩:=ev_touch (G.evs e he) hxa;rw [hb] at h1;cases h1;have hlt:b<w.heap.size:=by
      cases hx:τ.blk b with
      | none=>exact absurd hx hk
      | some o=>exact (Array.getElem?_eq_some_iff.1 (hτ.blk b o hx)).1
    rcases G.new b h2 with h4 | h4
    · obtain ⟨s1,s2⟩:=sep b hk h4
      rcases hp with hp | hp
      · exact h3 hp (by rw [G.pub];exact s2)
      · exact hp s1
    · omega
theorem kn_app {u:Trace} (h:Kn t j τ) (hu:∀ op∈u,op.act.touch?=none):Kn (t++u) j τ:=by
  intro i a b ha hb hk hp;obtain ⟨x,hx,hxa⟩:=touch_of ha;rcases getElem?_append_cases hx with ⟨hi,hx'⟩ | ⟨_,hxu⟩
  · exact (h i a b (by rw [touchAt_of hx'];exact hxa) hb hk hp).app _
  · rw [hu x hxu] at hxa;cases hxa
theorem clean_own {said:Bool} (h:¬ Race said t) (hk:Kn t g σ) (hl:Low t w.heap.size) (G:Guar σ w w' es σ'):¬ Race said (t++MemOp.ofEvents g fn pos es):=by
  refine noRace_append h (fun op hop=>by obtain ⟨e,_,rfl⟩:=Go.Conc.mem_ofEvents hop;rfl) fun i a ha op hop b hb hc=>?_
  obtain ⟨e,he,rfl⟩:=Go.Conc.mem_ofEvents hop;obtain ⟨n,h1,h2,h3⟩:=ev_touch (G.evs e he) hb;have hn:locB a.loc=some n:=by rw [hc.1];exact h1
  have:=hl.at ha hn;rcases G.new n h2 with h4 | h4
  · refine hk i a n ha hn h4 ?_
    rcases hc.2.2.1 with hw | hw
    · exact .inl hw
    · exact .inr (by rw [← G.pub];exact h3 hw)
  · omega
theorem OW {said:Bool} {u:Trace} (h:¬ Race said t) (hu:∀ op∈u,op.act.touch?=none):¬ Race said (t++u):=by
  rintro ⟨i,j,hij,⟨a,b,ha,hb,hc⟩,n1,n2⟩
  obtain ⟨x,hx,hxa⟩:=touch_of ha;obtain ⟨y,hy,hyb⟩:=touch_of hb;rcases getElem?_append_cases hy with ⟨hj,hy'⟩ | ⟨_,hyu⟩
  · have hi:i<t.size:=Nat.lt_trans hij hj
    have hx':t[i]?=some x:=by rw [← getElem?_append_old (u:=u) hi];exact hx
    exact h ⟨i,j,hij,⟨a,b,by simp [Trace.act?,hx',hxa],by simp [Trace.act?,hy',hyb],hc⟩,fun e=>n1 (hb_app u e),fun e=>n2 (hb_app u e)⟩
  · rw [hu y hyu] at hyb;cases hyb
end
def RS (P:Program) (r:Nat) (m:Value) (n:Nat) (c:Cf):Prop:=
  (∀ w,Mod c.σ w→∃ z,stepG P false (G c.fr c.cs) w=.comm (G c.fr c.cs) #[scase r m z] true .send w #[])∧QuitsIn P n (Go.Conc.served (G c.fr c.cs) undef)
def Wk (P:Program) (r:Nat) (m:Value):Tree→Cf→Prop
  | .leaf,_=>False
  | .node f, c => (∃ n, (∀ w, f w = natT n) ∧ RS P r m n c) ∨
      ∀ w,Mod c.σ w→∃ fr' cs' w' es σ',stepG P false (G c.fr c.cs) w=.go (G fr' cs') w' es∧Guar c.σ w w' es σ'∧Wk P r m (f w) ⟨fr',cs',σ'⟩
theorem wk_of_tr {P:Program} {r:Nat} {m:Value}:∀ (T:Tree) (c:Cf),Tr P (fun d=>∃ n,RS P r m n d) T c→∃ T,Wk P r m T c:=by
  intro T
  induction T with
  | leaf=>exact fun c ⟨n,h⟩=>⟨.node fun _=>natT n,.inl ⟨n,fun _=>rfl,h⟩⟩
  | node f ih=>
    intro c h;have:∀ w,∃ T,Mod c.σ w→∃ fr' cs' w' es σ',stepG P false (G c.fr c.cs) w=.go (G fr' cs') w' es∧Guar c.σ w w' es σ'∧Wk P r m T ⟨fr',cs',σ'⟩:=fun w=>by
      by_cases hw:Mod c.σ w
      · obtain ⟨fr',cs',w',es,σ',h1,h2,h3⟩:=h w hw
        obtain ⟨T,hT⟩:=ih w _ h3;exact ⟨T,fun _=>⟨fr',cs',w',es,σ',h1 false,h2,hT⟩⟩
      · exact ⟨.leaf,fun h=>absurd h hw⟩
    exact ⟨.node fun w=>Classical.choose (this w),.inr fun w=>Classical.choose_spec (this w)⟩
abbrev Acts:=Nat→Option (Cf × Value)
def HS (act:Acts) (i:Nat):Value:=match act i with | some x=>x.2 | none=>undef
def setA (act:Acts) (i:Nat) (x:Option (Cf × Value)):Acts:=fun j=>if j=i then x else act j
theorem BC (act:Acts) (i:Nat) (x:Option (Cf × Value)):setA act i x i=x:=by simp [setA]
theorem BP (act:Acts) {i j:Nat} (x:Option (Cf × Value)) (h:j≠i):setA act i x j=act j:=by simp [setA,h]
structure Ch (h:Gh) (σ:GW) (w:Go.World) (t:Trace) (act:Acts) (sent:List (Nat × Value)) (q:Nat) (tm:Bool) (L:List Nat):Prop where
  heap:w.heap[h.r]?=some (.chan h.cap (sent.map Prod.snd).toArray false (q+sent.length) q tm)
  free:σ.blk h.r=none
  nodup:L.Nodup
  mem:∀ i,i∈L↔act i≠none
  outs:h.outs.Perm (sent.map Prod.snd++L.map (HS act))
  room:h.outs.length≤h.cap
  said:∀ k g v,sent[k]?=some (g,v)→0<g∧act g=none∧∃ p,t.act? p=some (.send h.r (q+k))∧t.g? p=some g∧∀ i a,touchAt t i=some a→t.g? i=some g→Before t i p
def Chn (o:Option Gh) (σ:GW) (w:Go.World) (t:Trace) (act:Acts) (sent:List (Nat × Value)):Prop:=
  match o with
  | none=>(∀ i,act i=none)∧sent=[]
  | some h=>∃ q tm L,Ch h σ w t act sent q tm L
structure Fr (P:Program) (σ:GW) (g0:Goroutine) (gs:Array Goroutine) (w:Go.World) (t:Trace) (τ:Nat→Tree) (act:Acts) (sent:List (Nat × Value)):Prop where
  main:gs[0]?=some g0
  mod:Mod σ w
  leav:∀ (i:Nat) (g:Goroutine),0<i→gs[i]?=some g→act i=none→∃ k,τ i=natT k∧QuitsIn P k g
  work:∀ i d m,act i=some (d,m)→0<i∧gs[i]?=some (G d.fr d.cs)∧Mod d.σ w∧∃ h,σ.gh=some h∧Wk P h.r m (τ i) d∧d.σ.blk h.r=none
  sep0:∀ i d m,act i=some (d,m)→∀ b,d.σ.blk b≠none→σ.blk b≠none→d.σ.pub b∧σ.pub b
  sep:∀ i j d m e n,i≠j→act i=some (d,m)→act j=some (e,n)→∀ b,d.σ.blk b≠none→e.σ.blk b≠none→d.σ.pub b∧e.σ.pub b
  chan:Chn σ.gh σ w t act sent
  clean:∀ said,¬ Race said t
  words:Wordless t
  low:Low t w.heap.size
  kn0:Kn t 0 σ
  knw:∀ j d m,act j=some (d,m)→Kn t j d.σ
  all:∀ i a,touchAt t i=some a→Knows t 0 i∨∃ g,t.g? i=some g∧0<g∧(act g≠none∨∃ v,(g,v)∈sent)
  num:∀ g v,(g,v)∈sent→g<gs.size
theorem Mod.same {σ:GW} {w w':Go.World} (h:Mod σ w) (ho:w'.os=w.os) (ht:w'.tape=w.tape) (hu:w'.output=w.output) (hb:∀ b o,σ.blk b=some o→w'.heap[b]?=w.heap[b]?):Mod σ w':=
  ⟨ho.trans h.os,ht.trans h.tape,hu.trans h.output,fun b o hx=>by rw [hb b o hx];exact h.blk b o hx,h.known⟩
theorem Mod.lt {σ:GW} {w:Go.World} (h:Mod σ w) {b:Nat} (hb:σ.blk b≠none):b<w.heap.size:=by
  cases hx:σ.blk b with
  | none=>exact absurd hx hb
  | some o=>exact (Array.getElem?_eq_some_iff.1 (h.blk b o hx)).1
theorem mod_other {κ σ σ':GW} {w w':Go.World} {es:Array Event} (hκ:Mod κ w) (sep:∀ b,κ.blk b≠none→σ.blk b≠none→κ.pub b∧σ.pub b) (g:Guar σ w w' es σ'):Mod κ w':=
  hκ.same g.os g.tape g.output fun b o hb=>by
    refine g.frame b ?_ (hκ.lt (by simp [hb]));cases hx:σ.blk b with
    | none=>exact .inl rfl
    | some y=>exact .inr (sep b (by simp [hb]) (by simp [hx])).2
section
variable {P:Program} {σ:GW} {g0:Goroutine} {gs:Array Goroutine} {w w':Go.World} {t:Trace} {τ:Nat→Tree} {act:Acts} {sent:List (Nat × Value)}
theorem Fr.draw (F:Fr P σ g0 gs w t τ act sent) (d:Nat):Fr P σ g0 gs (w.at d) t τ act sent:=
  ⟨F.main,F.mod.same rfl rfl rfl fun _ _ _=>rfl,F.leav,fun i d m h=>let ⟨h1,h2,h3,h4⟩:=F.work i d m h;⟨h1,h2,h3.same rfl rfl rfl fun _ _ _=>rfl,h4⟩,F.sep0,F.sep,by
    have:=F.chan
    unfold Chn at *
    cases hg:σ.gh with
    | none=>rw [hg] at this;exact this
    | some h=>rw [hg] at this;obtain ⟨q,tm,L,c⟩:=this;exact ⟨q,tm,L,c.heap,c.free,c.nodup,c.mem,c.outs,c.room,c.said⟩,F.clean,F.words,F.low,F.kn0,F.knw,F.all,F.num⟩
theorem Fr.still (F:Fr P σ g0 gs w t τ act sent) {a a':Goroutine} (hm:woken P a a' w' g0=g0):∀ (j:Nat) (g:Goroutine),gs[j]?=some g→woken P a a' w' g=g:=by
  intro j g hg;rcases Nat.eq_zero_or_pos j with rfl | hj
  · rw [F.main] at hg;cases hg;exact hm
  · cases hx:act j with
    | none=>
      obtain ⟨k,_,hq⟩:=F.leav j g hj hg hx;unfold woken
      split
      · exact again_running _ hq.status
      · rfl
    | some x=>
      obtain ⟨d,m⟩:=x;obtain ⟨_,h2,_⟩:=F.work j d m hx;rw [h2] at hg;cases hg;exact woken_run rfl
theorem IL {f:Goroutine→Goroutine} (hf:∀ (j:Nat) (g:Goroutine),gs[j]?=some g→f g=g) {i:Nat} {x:Goroutine} {j:Nat} (hj:j≠i):((gs.map f).setIfInBounds i x)[j]?=gs[j]?:=by
  rw [Array.getElem?_setIfInBounds_ne (Ne.symm hj),Array.getElem?_map];cases hg:gs[j]? with
  | none=>rfl
  | some g=>rw [Option.map_some,hf j g hg]
theorem DO {i:Nat} {g:Goroutine} (h:gs[i]?=some g):i<gs.size:=(Array.getElem?_eq_some_iff.1 h).1
theorem Ch.keep {h : Gh} {σ' : GW} {t' : Trace} {act' : Acts} {q : Nat} {tm : Bool} {L : List Nat} {u : Trace} (c : Ch h σ w t act sent q tm L) (hh : w'.heap[h.r]? = w.heap[h.r]?) (hf : σ'.blk h.r = none) (ha : ∀ i, act' i ≠ none ↔ act i ≠ none) (hmsg : ∀ i, HS act' i = HS act i)
    (hu:∀ op∈u,op.act.touch?=none∨op.g=0∨act op.g≠none) (ht:t'=t++u):Ch h σ' w' t' act' sent q tm L:=by
  subst ht;refine ⟨by rw [hh];exact c.heap,hf,c.nodup,fun i=>by rw [c.mem,ha],?_,c.room,fun k g v hk=>?_⟩
  · have:L.map (HS act')=L.map (HS act):=List.map_congr_left fun i _=>hmsg i
    rw [this];exact c.outs
  · obtain ⟨h0,h1,p,h2,h3,h4⟩:=c.said k g v hk
    have hp:=lt_of_act? h2;refine ⟨h0,?_,p,by rw [act?_old hp];exact h2,by rw [g?_old hp];exact h3,fun i a hi hg=>?_⟩
    · cases hx:act' g with
      | none=>rfl
      | some y=>exact absurd h1 ((ha g).1 (by simp [hx]))
    · obtain ⟨x,hx,hxa⟩:=touch_of hi
      rcases getElem?_append_cases hx with ⟨hlt,hx'⟩ | ⟨_,hxu⟩
      · exact (h4 i a (by rw [touchAt_of hx'];exact hxa) (by rw [g?_old hlt] at hg;exact hg)).app u
      · exfalso
        have hgx:x.g=g:=by simp only [Trace.g?,hx,Option.map_some,Option.some.injEq] at hg;exact hg
        rcases hu x hxu with h | h | h
        · rw [h] at hxa;cases hxa
        · omega
        · rw [hgx] at h;exact h h1
theorem Chn.lt (F:Fr P σ g0 gs w t τ act sent) {h:Gh} (hg:σ.gh=some h):h.r<w.heap.size:=by
  have:=F.chan;unfold Chn at this;rw [hg] at this;obtain ⟨q,tm,L,c⟩:=this;exact (Array.getElem?_eq_some_iff.1 c.heap).1
theorem Chn.open (F:Fr P σ g0 gs w t τ act sent) {h:Gh} (hg:σ.gh=some h):∃ buf s q tm,w.heap[h.r]?=some (.chan h.cap buf false s q tm):=by
  have:=F.chan;unfold Chn at this;rw [hg] at this;obtain ⟨q,tm,L,c⟩:=this;exact ⟨_,_,_,_,c.heap⟩
theorem Fr.step0 {fr fr' : Frame} {cs cs' : List Frame} {es : Array Event} {σ' : GW} {fn : FuncId} {pos : String} (F : Fr P σ (G fr cs) gs w t τ act sent) (g : Guar σ w w' es σ') :
    Fr P σ' (G fr' cs') ((gs.map (woken P (G fr cs) (G fr' cs') w')).setIfInBounds 0 (G fr' cs')) w' (t++MemOp.ofEvents 0 fn pos es) τ act sent:=by
  have hst:=F.still (w':=w') (a:=G fr cs) (a':=G fr' cs') (woken_run rfl);have h0:=DO F.main;have up:∀ b,σ'.blk b≠none→b<w.heap.size→σ.blk b≠none:=fun b h1 h2=>(g.new b h1).resolve_right (by omega)
  refine ⟨by simp [h0],g.mod,fun i x hi hx ha=>?_,fun i d m ha=>?_,fun i d m ha b h1 h2=>?_,F.sep,?_,fun said=>clean_own (F.clean said) F.kn0 F.low g,words_own F.words g,low_own F.low g,kn_own F.kn0 F.low g,fun j d m ha=>?_,fun i a ha=>?_,fun g v hv=>by simpa using F.num g v hv⟩
  · rw [IL hst (by omega)] at hx;exact F.leav i x hi hx ha
  · obtain ⟨h1,h2,h3,h,h4,h5,h6⟩:=F.work i d m ha
    exact ⟨h1,by rw [IL hst (by omega)];exact h2,mod_other h3 (F.sep0 i d m ha) g,h,g.gh.trans h4,h5,h6⟩
  · have hlt:=(F.work i d m ha).2.2.1.lt h1
    rw [g.pub];exact F.sep0 i d m ha b h1 (up b h2 hlt)
  · have:=F.chan
    unfold Chn at *;rw [g.gh];cases hg:σ.gh with
    | none=>rw [hg] at this;exact this
    | some h=>
      have hlt:=Chn.lt F hg;rw [hg] at this;obtain ⟨q,tm,L,c⟩:=this;refine ⟨q,tm,L,c.keep (g.frame _ (.inl c.free) hlt) ?_ (fun _=>Iff.rfl) (fun _=>rfl) (u:=MemOp.ofEvents 0 fn pos es) (fun op hop=>by obtain ⟨e,_,rfl⟩:=Go.Conc.mem_ofEvents hop;exact .inr (.inl rfl)) rfl⟩;cases hx:σ'.blk h.r with
      | none=>rfl
      | some o=>exact absurd c.free (up _ (by simp [hx]) hlt)
  · exact kn_other (F.knw j d m ha) (F.work j d m ha).2.2.1 (F.sep0 j d m ha) g
  · obtain ⟨x,hx,hxa⟩:=touch_of ha
    rcases getElem?_append_cases hx with ⟨hi,hx'⟩ | ⟨_,hxu⟩
    · rcases F.all i a (by rw [touchAt_of hx'];exact hxa) with h | ⟨n,h1,h2⟩
      · exact .inl (h.app _)
      · exact .inr ⟨n,by rw [g?_old hi];exact h1,h2⟩
    · obtain ⟨e,_,rfl⟩:=Go.Conc.mem_ofEvents hxu
      exact .inl (knows_own hx)
theorem Fr.stepW {i : Nat} {d : Cf} {m : Value} {h : Gh} {fr' : Frame} {cs' : List Frame} {es : Array Event} {σ' : GW} {T : Tree} {fn : FuncId} {pos : String} (F : Fr P σ g0 gs w t τ act sent) (hi : act i = some (d, m)) (hg : σ.gh = some h) (g : Guar d.σ w w' es σ')
    (hT:Wk P h.r m T ⟨fr',cs',σ'⟩) (hm:woken P (G d.fr d.cs) (G fr' cs') w' g0=g0) :
    Fr P σ g0 ((gs.map (woken P (G d.fr d.cs) (G fr' cs') w')).setIfInBounds i (G fr' cs')) w' (t++MemOp.ofEvents i fn pos es) (setT τ i T) (setA act i (some (⟨fr',cs',σ'⟩,m))) sent:=by
  have hst:=F.still hm;obtain ⟨hpos,hgi,hmod,h',hg',hwk,hfree⟩:=F.work i d m hi;rw [hg] at hg';cases hg';have hilt:=DO hgi;have hrlt:=Chn.lt F hg;have up:∀ b,σ'.blk b≠none→b<w.heap.size→d.σ.blk b≠none:=fun b h1 h2=>(g.new b h1).resolve_right (by omega)
  have sep0':∀ b,σ.blk b≠none→d.σ.blk b≠none→σ.pub b∧d.σ.pub b:=fun b h1 h2=>(F.sep0 i d m hi b h2 h1).symm
  have hne:∀ j,setA act i (some (⟨fr',cs',σ'⟩,m)) j≠none↔act j≠none:=fun j=>by
    by_cases e:j=i
    · subst e;simp [BC,hi]
    · rw [BP _ _ e]
  refine ⟨by rw [IL hst (by omega)];exact F.main,mod_other F.mod sep0' g,fun j x hj hx ha=>?_,fun j e n ha=>?_,fun j e n ha b h1 h2=>?_,fun j k e n f o hjk ha hb b h1 h2=>?_,?_,fun said=>clean_own (F.clean said) (F.knw i d m hi) F.low g,words_own F.words g,low_own F.low g,kn_other F.kn0 F.mod sep0' g,fun j e n ha=>?_,fun j a ha=>?_,fun g v hv=>by simpa using F.num g v hv⟩
  · have hji:j≠i:=fun e=>by subst e;rw [BC] at ha;cases ha
    rw [BP _ _ hji] at ha;rw [IL hst hji] at hx;rw [JA _ _ hji];exact F.leav j x hj hx ha
  · by_cases e1:j=i
    · subst e1
      rw [BC] at ha;cases ha;refine ⟨hpos,by simp [hilt],g.mod,h,hg,by rw [LM];exact hT,?_⟩;cases hx:σ'.blk h.r with
      | none=>rfl
      | some o=>exact absurd hfree (up _ (by simp [hx]) hrlt)
    · rw [BP _ _ e1] at ha
      obtain ⟨k1,k2,k3,k4⟩:=F.work j e n ha;exact ⟨k1,by rw [IL hst e1];exact k2,mod_other k3 (F.sep j i e n d m e1 ha hi) g,by rw [JA _ _ e1];exact k4⟩
  · by_cases e1:j=i
    · subst e1
      rw [BC] at ha;cases ha;have:=F.sep0 j d m hi b (up b h1 (F.mod.lt h2)) h2;exact ⟨by rw [show (⟨fr',cs',σ'⟩:Cf).σ.pub=d.σ.pub from g.pub];exact this.1,this.2⟩
    · rw [BP _ _ e1] at ha
      exact F.sep0 j e n ha b h1 h2
  · by_cases e1:j=i
    · subst e1
      rw [BC] at ha;rw [BP _ _ (Ne.symm hjk)] at hb;cases ha;have:=F.sep j k d m f o hjk hi hb b (up b h1 ((F.work k f o hb).2.2.1.lt h2)) h2;exact ⟨by rw [show (⟨fr',cs',σ'⟩:Cf).σ.pub=d.σ.pub from g.pub];exact this.1,this.2⟩
    · rw [BP _ _ e1] at ha
      by_cases e2:k=i
      · subst e2
        rw [BC] at hb;cases hb;have:=F.sep j k e n d m hjk ha hi b h1 (up b h2 ((F.work j e n ha).2.2.1.lt h1));exact ⟨this.1,by rw [show (⟨fr',cs',σ'⟩:Cf).σ.pub=d.σ.pub from g.pub];exact this.2⟩
      · rw [BP _ _ e2] at hb
        exact F.sep j k e n f o hjk ha hb b h1 h2
  · have:=F.chan
    unfold Chn at *;rw [hg] at this ⊢;obtain ⟨q,tm,L,c⟩:=this;refine ⟨q,tm,L,c.keep (g.frame _ (.inl hfree) hrlt) c.free hne (fun j=>?_) (u:=MemOp.ofEvents i fn pos es) (fun op hop=>by obtain ⟨e,_,rfl⟩:=Go.Conc.mem_ofEvents hop;exact .inr (.inr (by simp [hi]))) rfl⟩
    by_cases e:j=i
    · subst e;simp [HS,BC,hi]
    · simp [HS,BP _ _ e]
  · by_cases e1:j=i
    · subst e1
      rw [BC] at ha;cases ha;exact kn_own (F.knw j d m hi) F.low g
    · rw [BP _ _ e1] at ha
      exact kn_other (F.knw j e n ha) (F.work j e n ha).2.2.1 (F.sep j i e n d m e1 ha hi) g
  · obtain ⟨x,hx,hxa⟩:=touch_of ha
    rcases getElem?_append_cases hx with ⟨hj,hx'⟩ | ⟨_,hxu⟩
    · rcases F.all j a (by rw [touchAt_of hx'];exact hxa) with h | ⟨n,h1,h2,h3⟩
      · exact .inl (h.app _)
      · exact .inr ⟨n,by rw [g?_old hj];exact h1,h2,h3.imp (hne n).2 id⟩
    · obtain ⟨e,_,rfl⟩:=Go.Conc.mem_ofEvents hxu
      exact .inr ⟨i,by simp [Trace.g?,hx],hpos,.inl (by simp [BC])⟩
theorem Fr.stepL {i k : Nat} {x x' : Goroutine} (F : Fr P σ g0 gs w t τ act sent) (hi : 0 < i) (hx : gs[i]? = some x) (ha : act i = none) (hq : QuitsIn P k x') (hm : woken P x x' w g0 = g0) :
    Fr P σ g0 ((gs.map (woken P x x' w)).setIfInBounds i x') w t (setT τ i (natT k)) act sent:=by
  have hst:=F.still hm;have hilt:=DO hx;refine ⟨by rw [IL hst (by omega)];exact F.main,F.mod,fun j y hj hy hb=>?_,fun j e n hb=>?_,F.sep0,F.sep,F.chan,F.clean,F.words,F.low,F.kn0,F.knw,F.all,fun g v hv=>by simpa using F.num g v hv⟩
  · by_cases e:j=i
    · subst e
      rw [Array.getElem?_setIfInBounds_self_of_lt (by simpa using hilt)] at hy;cases hy;exact ⟨k,LM _ _ _,hq⟩
    · rw [IL hst e] at hy
      rw [JA _ _ e];exact F.leav j y hj hy hb
  · have e1:j≠i:=fun e=>by rw [e,ha] at hb;cases hb
    obtain ⟨k1,k2,k3⟩:=F.work j e n hb;exact ⟨k1,by rw [IL hst e1];exact k2,by rw [JA _ _ e1];exact k3⟩
end
theorem erase_split {α:Type}:∀ {l:List α} {x:α},x∈l→∃ A B,l=A++x::B:=fun h=>List.append_of_mem h
section
variable {P:Program} {σ:GW} {g0:Goroutine} {gs:Array Goroutine} {w:Go.World} {t:Trace} {τ:Nat→Tree} {act:Acts} {sent:List (Nat × Value)}
theorem OM (w:Go.World) (c cap:Nat) (buf:Array Value) (cl:Bool) (s r:Nat) (tm:Bool) (h:c<w.heap.size):(w.setChan c cap buf cl s r tm).heap[c]?=some (.chan cap buf cl s r tm):=by simp [World.setChan,h]
theorem setChan_ne (w:Go.World) (c cap:Nat) (buf:Array Value) (cl:Bool) (s r:Nat) (tm:Bool) {b:Nat} (h:b≠c):(w.setChan c cap buf cl s r tm).heap[b]?=w.heap[b]?:=by
  simp only [World.setChan];rw [Array.getElem?_setIfInBounds_ne (Ne.symm h)]
theorem NC (w:Go.World) (c cap:Nat) (buf:Array Value) (cl:Bool) (s r:Nat) (tm:Bool):(w.setChan c cap buf cl s r tm).heap.size=w.heap.size:=by simp [World.setChan]
theorem HA {κ:GW} {c cap:Nat} {buf:Array Value} {cl:Bool} {s r:Nat} {tm:Bool} (h:Mod κ w) (hc:κ.blk c=none):Mod κ (w.setChan c cap buf cl s r tm):=
  h.same rfl rfl rfl fun b o hb=>setChan_ne w c cap buf cl s r tm fun e=>by rw [e,hc] at hb;cases hb
theorem TM {n:Nat} {u:Trace} (h:Low t n) (hu:∀ op∈u,op.act.low n):Low (t++u) n:=seen_app h hu
theorem NP {u:Trace} (h:Wordless t) (hu:∀ op∈u,∀ m,op.act≠.mark m):Wordless (t++u):=h.append fun op hop m hm=>absurd hm (hu op hop m)
theorem Fr.awake (F:Fr P σ g0 gs w t τ act sent) (h0:Go.Conc.awake g0):∀ g∈gs,Go.Conc.awake g:=by
  intro g hg;obtain ⟨i,hi,rfl⟩:=Array.mem_iff_getElem.1 hg;have hget:=Array.getElem?_eq_getElem hi;rcases Nat.eq_zero_or_pos i with rfl | hpos
  · have:=F.main
    rw [hget] at this;rw [Option.some.inj this];exact h0
  · cases hx:act i with
    | none=>
      obtain ⟨k,_,hq⟩:=F.leav i _ hpos hget hx;exact awake_of (hq.status.elim .inl fun x=>.inr (.inr x))
    | some x=>
      obtain ⟨d,m⟩:=x;have h2:=(F.work i d m hx).2.1;rw [hget] at h2;rw [Option.some.inj h2];exact awake_of (.inl rfl)
theorem Fr.offers (F:Fr P σ g0 gs w t τ act sent) (r:Nat) (b:Bool):∀ (j:Nat) (g:Goroutine),0<j→gs[j]?=some g→offersAt g r b=[]:=by
  intro j g hj hg;refine offersAt_of_not_blocked ?_ r b;cases hx:act j with
  | none=>
    obtain ⟨k,_,hq⟩:=F.leav j g hj hg hx;rcases hq.status with h | h <;> rw [h] <;> simp
  | some x=>
    obtain ⟨d,m⟩:=x;have h2:=(F.work j d m hx).2.1;rw [hg] at h2;rw [Option.some.inj h2];simp [G]
theorem Fr.send {i n : Nat} {d : Cf} {m : Value} {h : Gh} {s q : Nat} {buf : Array Value} {tm : Bool} {fn fn' : FuncId} {pos pos' : String} (F : Fr P σ g0 gs w t τ act sent) (hi : act i = some (d, m)) (hg : σ.gh = some h) (hq : QuitsIn P n (Go.Conc.served (G d.fr d.cs) undef))
    (hc:w.heap[h.r]?=some (.chan h.cap buf false s q tm)) :
    buf.size<h.cap∧Fr P σ g0 (gs.setIfInBounds i (Go.Conc.served (G d.fr d.cs) undef)) (w.setChan h.r h.cap (buf.push m) false (s+1) q tm)
      (t++#[{ g:=i,fn,pos,act:=.send h.r s },{ g:=i,fn:=fn',pos:=pos',act:=.sendDone h.r s }]) (setT τ i (natT n)) (setA act i none) (sent++[(i,m)]):=by
  obtain ⟨hpos,hgi,hmod,h',hg',hwk,hfree⟩:=F.work i d m hi;have hilt:=DO hgi;have hrlt:=Chn.lt F hg;have hch:=F.chan;unfold Chn at hch;rw [hg] at hch;obtain ⟨q',tm',L,c⟩:=hch;rw [c.heap] at hc;cases hc;have hiL:i∈L:=(c.mem i).2 (by simp [hi]);obtain ⟨A,B,rfl⟩:=erase_split hiL;have hlen:h.outs.length=sent.length+(A.length+(B.length+1)):=by
    have:=c.outs.length_eq
    simpa using this
  have hnd:=c.nodup;have hni:i∉A∧i∉B:=by
    have h1:=(List.nodup_append.1 hnd).2.2;have h2:=(List.nodup_cons.1 (List.nodup_append.1 hnd).2.1).1;exact ⟨fun h=>h1 i h i List.mem_cons_self rfl,h2⟩
  have hmsg:∀ j,j≠i→HS (setA act i none) j=HS act j:=fun j hj=>by simp [HS,BP _ _ hj]
  refine ⟨by have:=c.room;simp;omega,?_⟩;have hu:∀ op∈(#[{ g:=i,fn,pos,act:=.send h.r (q+sent.length) },{ g:=i,fn:=fn',pos:=pos',act:=.sendDone h.r (q+sent.length) }]:Trace),op.act.touch?=none:=by
    intro op hop;simp at hop;rcases hop with rfl | rfl <;> rfl
  refine ⟨by rw [Array.getElem?_setIfInBounds_ne (by omega)];exact F.main,HA F.mod c.free,fun j x hj hx ha=>?_,fun j e k ha=>?_,fun j e k ha=>?_,fun j l e k f o hjl ha hb=>?_,?_,fun said=>OW (F.clean said) hu,NP F.words (fun op hop k=>by simp at hop;rcases hop with rfl | rfl <;> simp),?_,kn_app F.kn0 hu,fun j e k ha=>?_,fun j a ha=>?_,fun g v hv=>by
    rcases List.mem_append.1 hv with hv | hv
    · simpa using F.num g v hv
    · simp at hv;simpa [hv.1] using hilt⟩
  · by_cases e:j=i
    · subst e
      rw [Array.getElem?_setIfInBounds_self_of_lt hilt] at hx;cases hx;exact ⟨n,LM _ _ _,hq⟩
    · rw [Array.getElem?_setIfInBounds_ne (Ne.symm e)] at hx
      rw [BP _ _ e] at ha;rw [JA _ _ e];exact F.leav j x hj hx ha
  · have e1:j≠i:=fun e=>by rw [e,BC] at ha;cases ha
    rw [BP _ _ e1] at ha;obtain ⟨k1,k2,k3,h2,k4,k5,k6⟩:=F.work j e k ha;rw [hg] at k4;cases k4;exact ⟨k1,by rw [Array.getElem?_setIfInBounds_ne (Ne.symm e1)];exact k2,HA k3 k6,h,hg,by rw [JA _ _ e1];exact k5,k6⟩
  · have e1:j≠i:=fun e=>by rw [e,BC] at ha;cases ha
    rw [BP _ _ e1] at ha;exact F.sep0 j e k ha
  · have e1:j≠i:=fun e=>by rw [e,BC] at ha;cases ha
    have e2:l≠i:=fun e=>by rw [e,BC] at hb;cases hb
    rw [BP _ _ e1] at ha;rw [BP _ _ e2] at hb;exact F.sep j l e k f o hjl ha hb
  · unfold Chn
    rw [hg];refine ⟨q,tm,A++B,⟨?_,c.free,?_,fun j=>?_,?_,c.room,fun k g v hk=>?_⟩⟩
    · rw [OM _ _ _ _ _ _ _ _ hrlt]
      have e1:((sent++[(i,m)]).map Prod.snd).toArray=(sent.map Prod.snd).toArray.push m:=by simp
      rw [e1];simp [Nat.add_assoc]
    · exact (List.nodup_cons.1 (List.perm_middle.nodup_iff.1 hnd)).2
    · by_cases e:j=i
      · subst e;simp [BC,hni]
      · rw [BP _ _ e,← c.mem j]
        simp [e]
    · have e1 : (A ++ B).map (HS (setA act i none)) = (A ++ B).map (HS act) := List.map_congr_left fun j hj => hmsg j fun e => by
        subst e;rcases List.mem_append.1 hj with h | h
        · exact hni.1 h
        · exact hni.2 h
      have e2:HS act i=m:=by simp [HS,hi]
      refine c.outs.trans ?_;rw [e1];simp only [List.map_append,List.map_cons,List.map_nil,e2,List.append_assoc,List.singleton_append];exact List.Perm.append_left _ List.perm_middle
    · by_cases hlt:k<sent.length
      · rw [List.getElem?_append_left hlt] at hk
        obtain ⟨g1,g2,p,g3,g4,g5⟩:=c.said k g v hk;have hp:=lt_of_act? g3;have e1:g≠i:=fun e=>by rw [e,hi] at g2;cases g2
        refine ⟨g1,by rw [BP _ _ e1];exact g2,p,by rw [act?_old hp];exact g3,by rw [g?_old hp];exact g4,fun j a hj hgj=>?_⟩;obtain ⟨x,hx,hxa⟩:=touch_of hj;rcases getElem?_append_cases hx with ⟨hjl,hx'⟩ | ⟨_,hxu⟩
        · exact (g5 j a (by rw [touchAt_of hx'];exact hxa) (by rw [g?_old hjl] at hgj;exact hgj)).app _
        · rw [hu x hxu] at hxa;cases hxa
      · have hk' : k = sent.length := by
          have:=(List.getElem?_eq_some_iff.1 hk).1;simp at this;omega
        subst hk';simp at hk;obtain ⟨rfl,rfl⟩:=hk;have hop:(t++#[({ g:=i,fn,pos,act:=.send h.r (q+sent.length) }:MemOp),{ g:=i,fn:=fn',pos:=pos',act:=.sendDone h.r (q+sent.length) }])[t.size]?=some { g:=i,fn,pos,act:=.send h.r (q+sent.length) }:=by
          rw [Array.getElem?_append_right (Nat.le_refl _)];simp
        refine ⟨hpos,BC _ _ _,t.size,by rw [act?_of hop],by simp only [Trace.g?,hop,Option.map_some],fun j a hj hgj=>?_⟩;obtain ⟨x,hx,hxa⟩:=touch_of hj;rcases getElem?_append_cases hx with ⟨hjl,hx'⟩ | ⟨_,hxu⟩
        · exact .inr (hb_po hjl hx hop (by simp only [Trace.g?,hx,Option.map_some,Option.some.injEq] at hgj;exact hgj))
        · rw [hu x hxu] at hxa;cases hxa
  · rw [NC]
    exact TM F.low fun op hop=>by simp at hop;rcases hop with rfl | rfl <;> exact hrlt
  · have e1:j≠i:=fun e=>by rw [e,BC] at ha;cases ha
    rw [BP _ _ e1] at ha;exact kn_app (F.knw j e k ha) hu
  · obtain ⟨x,hx,hxa⟩:=touch_of ha
    rcases getElem?_append_cases hx with ⟨hj,hx'⟩ | ⟨_,hxu⟩
    · rcases F.all j a (by rw [touchAt_of hx'];exact hxa) with h1 | ⟨k,h1,h2,h3⟩
      · exact .inl (h1.app _)
      · refine .inr ⟨k,by rw [g?_old hj];exact h1,h2,?_⟩
        by_cases e:k=i
        · subst e;exact .inr ⟨m,by simp⟩
        · rw [BP _ _ e]
          exact h3.imp id fun ⟨v,hv⟩=>⟨v,List.mem_append_left _ hv⟩
    · rw [hu x hxu] at hxa;cases hxa
def GW.outs (σ:GW) (h:Gh) (l:List Value):GW:={ σ with gh:=some { h with outs:=l } }
theorem Fr.recv {fr : Frame} {cs : List Frame} {h : Gh} {g : Nat} {v : Value} {rest : List (Nat × Value)} {outs : List Value} {s q : Nat} {buf : Array Value} {tm : Bool} {fn fn' : FuncId} {pos pos' : String} (F : Fr P σ g0 gs w t τ act ((g, v) :: rest)) (hg : σ.gh = some h)
    (hc:w.heap[h.r]?=some (.chan h.cap buf false s q tm)) (ho:h.outs.Perm (v::outs)) :
    Fr P (σ.outs h outs) (G fr cs) (gs.setIfInBounds 0 (G fr cs)) (w.setChan h.r h.cap (buf.extract 1 buf.size) false s (q+1) tm)
      (t++#[{ g:=0,fn,pos,act:=.recv h.r q h.cap },{ g:=0,fn:=fn',pos:=pos',act:=.recvDone h.r q }]) τ act rest:=by
  have h0:=DO F.main;have hrlt:=Chn.lt F hg;have hch:=F.chan;unfold Chn at hch;rw [hg] at hch;obtain ⟨q',tm',L,c⟩:=hch;rw [c.heap] at hc;cases hc;have hu:∀ op∈(#[{ g:=0,fn,pos,act:=.recv h.r q h.cap },{ g:=0,fn:=fn',pos:=pos',act:=.recvDone h.r q }]:Trace),op.act.touch?=none:=by
    intro op hop;simp at hop;rcases hop with rfl | rfl <;> rfl
  have hop:(t++#[({ g:=0,fn,pos,act:=.recv h.r q h.cap }:MemOp),{ g:=0,fn:=fn',pos:=pos',act:=.recvDone h.r q }])[t.size+1]?=some { g:=0,fn:=fn',pos:=pos',act:=.recvDone h.r q }:=by
    rw [Array.getElem?_append_right (by omega)];simp
  have hW:=NP F.words (u:=#[({ g:=0,fn,pos,act:=.recv h.r q h.cap }:MemOp),{ g:=0,fn:=fn',pos:=pos',act:=.recvDone h.r q }]) (fun op hop k=>by simp at hop;rcases hop with rfl | rfl <;> simp);refine ⟨by simp [h0],⟨(HA F.mod c.free).os,(HA F.mod c.free).tape,(HA F.mod c.free).output,(HA F.mod c.free).blk,F.mod.known⟩,fun j x hj hx ha=>?_,fun j e k ha=>?_,F.sep0,F.sep,?_,fun said=>OW (F.clean said) hu,hW,?_,kn_app F.kn0 hu,fun j e k ha=>kn_app (F.knw j e k ha) hu,fun j a ha=>?_,fun g v hv=>by simpa using F.num g v (List.mem_cons_of_mem _ hv)⟩
  · rw [Array.getElem?_setIfInBounds_ne (by omega)] at hx
    exact F.leav j x hj hx ha
  · obtain ⟨k1,k2,k3,h2,k4,k5,k6⟩:=F.work j e k ha
    rw [hg] at k4;cases k4;exact ⟨k1,by rw [Array.getElem?_setIfInBounds_ne (by omega)];exact k2,HA k3 k6,_,rfl,k5,k6⟩
  · refine ⟨q+1,tm,L,⟨?_,c.free,c.nodup,c.mem,?_,?_,fun k g' v' hk=>?_⟩⟩
    · show (w.setChan h.r h.cap _ false _ _ tm).heap[h.r]?=_
      rw [OM _ _ _ _ _ _ _ _ hrlt];simp only [List.map_cons,List.length_cons]
      congr 2
      · simp;exact List.take_of_length_le (by simp)
      · omega
    · have:=c.outs.symm.trans ho
      simp only [List.map_cons,List.cons_append] at this;exact (List.Perm.cons_inv this).symm
    · have:=ho.length_eq
      have hr:=c.room;simp at this;show outs.length≤h.cap;omega
    · obtain ⟨g1,g2,p,g3,g4,g5⟩:=c.said (k+1) g' v' (by simpa using hk)
      have hp:=lt_of_act? g3;refine ⟨g1,g2,p,by rw [act?_old hp,g3];congr 2;show _=q+1+k;omega,by rw [g?_old hp];exact g4,fun j a hj hgj=>?_⟩;obtain ⟨x,hx,hxa⟩:=touch_of hj;rcases getElem?_append_cases hx with ⟨hjl,hx'⟩ | ⟨_,hxu⟩
      · exact (g5 j a (by rw [touchAt_of hx'];exact hxa) (by rw [g?_old hjl] at hgj;exact hgj)).app _
      · rw [hu x hxu] at hxa;cases hxa
  · rw [NC]
    exact TM F.low fun op hop=>by simp at hop;rcases hop with rfl | rfl <;> exact hrlt
  · obtain ⟨x,hx,hxa⟩:=touch_of ha
    rcases getElem?_append_cases hx with ⟨hj,hx'⟩ | ⟨_,hxu⟩
    · rcases F.all j a (by rw [touchAt_of hx'];exact hxa) with h1 | ⟨k,h1,h2,h3⟩
      · exact .inl (h1.app _)
      · by_cases e:k=g∧act k=none
        · obtain ⟨e0,e⟩:=e
          obtain ⟨_,_,p,g3,g4,g5⟩:=c.said 0 g v rfl;have hp:=lt_of_act? g3;obtain ⟨y,hy,hya⟩:=Option.map_eq_some_iff.1 g3;refine .inl ⟨t.size+1,_,hop,rfl,.inr ?_⟩;refine ((g5 j a (by rw [touchAt_of hx'];exact hxa) (by rw [h1,e0])).app _).hb (.single (.inr ⟨.handOver (c:=h.r) (k:=q) (by rw [act?_old hp];simpa using g3) (by rw [act?_of hop]),?_,hW.heard hop⟩));exact hW.heard (by rw [getElem?_append_old hp];exact hy)
        · refine .inr ⟨k,by rw [g?_old hj];exact h1,h2,?_⟩
          rcases h3 with h3 | ⟨v',h3⟩
          · exact .inl h3
          · rcases List.mem_cons.1 h3 with h3 | h3
            · cases h3
              by_cases ha:act g=none
              · exact absurd ⟨rfl,ha⟩ e
              · exact .inl ha
            · exact .inr ⟨v',h3⟩
    · rw [hu x hxu] at hxa;cases hxa
theorem Fr.meet {i n : Nat} {d : Cf} {m : Value} {fr : Frame} {cs : List Frame} {h : Gh} {outs : List Value} {s q : Nat} {buf : Array Value} {tm : Bool} {fn fn' fn2 fn3 : FuncId} {pos pos' pos2 pos3 : String} (F : Fr P σ g0 gs w t τ act []) (hi : act i = some (d, m)) (hg : σ.gh = some h) (hq : QuitsIn P n (Go.Conc.served (G d.fr d.cs) undef))
    (hc:w.heap[h.r]?=some (.chan h.cap buf false s q tm)) (ho:h.outs.Perm (m::outs)) :
    Fr P (σ.outs h outs) (G fr cs) ((gs.setIfInBounds 0 (G fr cs)).setIfInBounds i (Go.Conc.served (G d.fr d.cs) undef)) (w.setChan h.r h.cap buf false (s+1) (q+1) tm)
      (t++#[{ g:=i,fn,pos,act:=.send h.r s },{ g:=0,fn:=fn2,pos:=pos2,act:=.recv h.r q h.cap },{ g:=i,fn:=fn',pos:=pos',act:=.sendDone h.r s },{ g:=0,fn:=fn3,pos:=pos3,act:=.recvDone h.r q }]) (setT τ i (natT n)) (setA act i none) []:=by
  obtain ⟨hpos,hgi,hmod,h',hg',hwk,hfree⟩:=F.work i d m hi;have h0:=DO F.main;have hilt:=DO hgi;have hrlt:=Chn.lt F hg;have hch:=F.chan;unfold Chn at hch;rw [hg] at hch;obtain ⟨q',tm',L,c⟩:=hch;rw [c.heap] at hc;cases hc;have hiL:i∈L:=(c.mem i).2 (by simp [hi]);obtain ⟨A,B,rfl⟩:=erase_split hiL;have hnd:=c.nodup;have hni:i∉A∧i∉B:=by
    have h1:=(List.nodup_append.1 hnd).2.2;have h2:=(List.nodup_cons.1 (List.nodup_append.1 hnd).2.1).1;exact ⟨fun h=>h1 i h i List.mem_cons_self rfl,h2⟩
  have hmsg:∀ j,j≠i→HS (setA act i none) j=HS act j:=fun j hj=>by simp [HS,BP _ _ hj]
  simp only [List.length_nil,Nat.add_zero]
  generalize hU:(#[{ g:=i,fn,pos,act:=.send h.r q },{ g:=0,fn:=fn2,pos:=pos2,act:=.recv h.r q h.cap },{ g:=i,fn:=fn',pos:=pos',act:=.sendDone h.r q },{ g:=0,fn:=fn3,pos:=pos3,act:=.recvDone h.r q }]:Trace)=U
  have hu:∀ op∈U,op.act.touch?=none:=by
    subst hU;intro op hop;simp at hop;rcases hop with rfl | rfl | rfl | rfl <;> rfl
  have hop1:(t++U)[t.size]?=some { g:=i,fn,pos,act:=.send h.r q }:=by
    subst hU;rw [Array.getElem?_append_right (by omega)];simp
  have hop2:(t++U)[t.size+3]?=some { g:=0,fn:=fn3,pos:=pos3,act:=.recvDone h.r q }:=by
    subst hU;rw [Array.getElem?_append_right (by omega)];simp
  have hW:=NP F.words (u:=U) (fun op hop k=>by subst hU;simp at hop;rcases hop with rfl | rfl | rfl | rfl <;> simp);refine ⟨by rw [Array.getElem?_setIfInBounds_ne (by omega)];simp [h0],⟨(HA F.mod c.free).os,(HA F.mod c.free).tape,(HA F.mod c.free).output,(HA F.mod c.free).blk,F.mod.known⟩,fun j x hj hx ha=>?_,fun j e k ha=>?_,fun j e k ha=>?_,fun j l e k f o hjl ha hb=>?_,?_,fun said=>OW (F.clean said) hu,hW,?_,kn_app F.kn0 hu,fun j e k ha=>?_,fun j a ha=>?_,fun g v hv=>by simp at hv⟩
  · by_cases e:j=i
    · subst e
      rw [Array.getElem?_setIfInBounds_self_of_lt (by simpa using hilt)] at hx;cases hx;exact ⟨n,LM _ _ _,hq⟩
    · rw [Array.getElem?_setIfInBounds_ne (Ne.symm e),Array.getElem?_setIfInBounds_ne (by omega)] at hx
      rw [BP _ _ e] at ha;rw [JA _ _ e];exact F.leav j x hj hx ha
  · have e1:j≠i:=fun e=>by rw [e,BC] at ha;cases ha
    rw [BP _ _ e1] at ha;obtain ⟨k1,k2,k3,h2,k4,k5,k6⟩:=F.work j e k ha;rw [hg] at k4;cases k4;exact ⟨k1,by rw [Array.getElem?_setIfInBounds_ne (Ne.symm e1),Array.getElem?_setIfInBounds_ne (by omega)];exact k2,HA k3 k6,_,rfl,by rw [JA _ _ e1];exact k5,k6⟩
  · have e1:j≠i:=fun e=>by rw [e,BC] at ha;cases ha
    rw [BP _ _ e1] at ha;exact F.sep0 j e k ha
  · have e1:j≠i:=fun e=>by rw [e,BC] at ha;cases ha
    have e2:l≠i:=fun e=>by rw [e,BC] at hb;cases hb
    rw [BP _ _ e1] at ha;rw [BP _ _ e2] at hb;exact F.sep j l e k f o hjl ha hb
  · refine ⟨q+1,tm,A++B,⟨?_,c.free,?_,fun j=>?_,?_,?_,fun k g v hk=>by simp at hk⟩⟩
    · show (w.setChan h.r h.cap _ false _ _ tm).heap[h.r]?=_
      rw [OM _ _ _ _ _ _ _ _ hrlt];simp
    · exact (List.nodup_cons.1 (List.perm_middle.nodup_iff.1 hnd)).2
    · by_cases e:j=i
      · subst e;simp [BC,hni]
      · rw [BP _ _ e,← c.mem j]
        simp [e]
    · have e1 : (A ++ B).map (HS (setA act i none)) = (A ++ B).map (HS act) := List.map_congr_left fun j hj => hmsg j fun e => by
        subst e;rcases List.mem_append.1 hj with h | h
        · exact hni.1 h
        · exact hni.2 h
      have e2:HS act i=m:=by simp [HS,hi]
      have h1:=c.outs.symm.trans ho;simp only [List.map_nil,List.nil_append,List.map_append,List.map_cons,e2] at h1;show outs.Perm _;rw [e1];simp only [List.map_nil,List.nil_append,List.map_append];exact (List.Perm.cons_inv (List.perm_middle.symm.trans h1)).symm
    · have:=ho.length_eq
      have hr:=c.room;simp at this;show outs.length≤h.cap;omega
  · rw [NC]
    exact TM F.low fun op hop=>by subst hU;simp at hop;rcases hop with rfl | rfl | rfl | rfl <;> exact hrlt
  · have e1:j≠i:=fun e=>by rw [e,BC] at ha;cases ha
    rw [BP _ _ e1] at ha;exact kn_app (F.knw j e k ha) hu
  · obtain ⟨x,hx,hxa⟩:=touch_of ha
    rcases getElem?_append_cases hx with ⟨hj,hx'⟩ | ⟨_,hxu⟩
    · rcases F.all j a (by rw [touchAt_of hx'];exact hxa) with h1 | ⟨k,h1,h2,h3⟩
      · exact .inl (h1.app _)
      · by_cases e:k=i
        · subst e
          have hxg:x.g=k:=by simp only [Trace.g?,hx',Option.map_some,Option.some.injEq] at h1;exact h1
          refine .inl ⟨t.size+3,_,hop2,rfl,.inr ?_⟩;exact (hb_po hj hx hop1 hxg).trans (.single (.inr ⟨.handOver (c:=h.r) (k:=q) (by rw [act?_of hop1]) (by rw [act?_of hop2]),hW.heard hop1,hW.heard hop2⟩))
        · refine .inr ⟨k,by rw [g?_old hj];exact h1,h2,?_⟩
          rw [BP _ _ e];exact h3
    · rw [hu x hxu] at hxa;cases hxa
end
def GW.share (σ:GW) (h:Gh) (m:Value):GW:={ σ with pub:=fun b=>σ.blk b≠none,gh:=some { h with outs:=m::h.outs } }
def GW.child (σ:GW):GW:={ σ with pub:=fun b=>σ.blk b≠none,gh:=none }
section
variable {P:Program} {σ:GW} {g0:Goroutine} {gs:Array Goroutine} {w:Go.World} {t:Trace} {τ:Nat→Tree} {act:Acts} {sent:List (Nat × Value)}
theorem Fr.spawn {fr fr' cf : Frame} {cs cs' ccs : List Frame} {h : Gh} {m : Value} {T : Tree} {fn fn' : FuncId} {pos pos' : String} (F : Fr P σ (G fr cs) gs w t τ act sent) (hg : σ.gh = some h) (hroom : h.outs.length < h.cap) (hT : Wk P h.r m T ⟨cf, ccs, σ.child⟩) :
    Fr P (σ.share h m) (G fr' cs') ((gs.setIfInBounds 0 (G fr' cs')).push (G cf ccs)) w ((t.push { g:=0,fn,pos,act:=.go gs.size }).push { g:=gs.size,fn:=fn',pos:=pos',act:=.start })
      (setT τ gs.size T) (setA act gs.size (some (⟨cf,ccs,σ.child⟩,m))) sent:=by
  have h0:=DO F.main;have hch:=F.chan;unfold Chn at hch;rw [hg] at hch;obtain ⟨q,tm,L,c⟩:=hch;have hnew:act gs.size=none:=by
    cases hx:act gs.size with
    | none=>rfl
    | some x=>
      obtain ⟨d,k⟩:=x;have:=DO (F.work _ d k hx).2.1;omega
  have hgp:∀ j g,((gs.setIfInBounds 0 (G fr' cs')).push (G cf ccs))[j]?=some g→0<j→j≠gs.size→gs[j]?=some g:=fun j g hj hp hne=>by
    rw [Array.getElem?_push] at hj
    split at hj
    · rename_i e;simp at e;omega
    · rwa [Array.getElem?_setIfInBounds_ne (by omega)] at hj
  have hpg:∀ j g,gs[j]?=some g→0<j→((gs.setIfInBounds 0 (G fr' cs')).push (G cf ccs))[j]?=some g:=fun j g hj hp=>by
    have:=DO hj;rw [Array.getElem?_push,if_neg (by simp;omega),Array.getElem?_setIfInBounds_ne (by omega)];exact hj
  have et:(t.push { g:=0,fn,pos,act:=.go gs.size }).push { g:=gs.size,fn:=fn',pos:=pos',act:=.start }=t++#[({ g:=0,fn,pos,act:=.go gs.size }:MemOp),{ g:=gs.size,fn:=fn',pos:=pos',act:=.start }]:=by
    apply Array.ext';simp
  rw [et]
  generalize hU:(#[({ g:=0,fn,pos,act:=.go gs.size }:MemOp),{ g:=gs.size,fn:=fn',pos:=pos',act:=.start }]:Trace)=U
  have hu:∀ op∈U,op.act.touch?=none:=by
    subst hU;intro op hop;simp at hop;rcases hop with rfl | rfl <;> rfl
  have hop1:(t++U)[t.size]?=some { g:=0,fn,pos,act:=.go gs.size }:=by
    subst hU;rw [Array.getElem?_append_right (by omega)];simp
  have hop2:(t++U)[t.size+1]?=some { g:=gs.size,fn:=fn',pos:=pos',act:=.start }:=by
    subst hU;rw [Array.getElem?_append_right (by omega)];simp
  have hW:=NP F.words (u:=U) (fun op hop k=>by subst hU;simp at hop;rcases hop with rfl | rfl <;> simp);have ne:∀ j d k,act j=some (d,k)→j≠gs.size:=fun j d k ha e=>by rw [e,hnew] at ha;cases ha
  refine ⟨?_,F.mod.same rfl rfl rfl (fun _ _ _=>rfl) |> fun hm=>⟨hm.os,hm.tape,hm.output,hm.blk,fun b hb=>hb⟩,fun j x hj hx ha=>?_,fun j e k ha=>?_,fun j e k ha b h1 h2=>?_,fun j l e k f o hjl ha hb b h1 h2=>?_,?_,fun said=>OW (F.clean said) hu,hW,?_,fun i a b ha hb hk hp=>?_,fun j e k ha=>?_,fun j a ha=>?_,fun g v hv=>by have:=F.num g v hv;simp;omega⟩
  · rw [Array.getElem?_push,if_neg (by simp;omega)];simp [h0]
  · by_cases e:j=gs.size
    · subst e;rw [BC] at ha;cases ha
    · rw [BP _ _ e] at ha
      rw [JA _ _ e];exact F.leav j x hj (hgp j x hx hj e) ha
  · by_cases e1:j=gs.size
    · subst e1
      rw [BC] at ha;cases ha;refine ⟨h0,?_,⟨F.mod.os,F.mod.tape,F.mod.output,F.mod.blk,fun b hb=>hb⟩,_,rfl,by rw [LM];exact hT,c.free⟩;rw [Array.getElem?_push,if_pos (by simp)]
    · rw [BP _ _ e1] at ha
      obtain ⟨k1,k2,k3,h2,k4,k5,k6⟩:=F.work j e k ha;rw [hg] at k4;cases k4;exact ⟨k1,hpg j _ k2 k1,k3,_,rfl,by rw [JA _ _ e1];exact k5,k6⟩
  · by_cases e1:j=gs.size
    · subst e1
      rw [BC] at ha;cases ha;exact ⟨h1,h2⟩
    · rw [BP _ _ e1] at ha
      exact ⟨(F.sep0 j e k ha b h1 h2).1,h2⟩
  · by_cases e1:j=gs.size
    · subst e1
      rw [BC] at ha;rw [BP _ _ (Ne.symm hjl)] at hb;cases ha;exact ⟨h1,(F.sep0 l f o hb b h2 h1).1⟩
    · rw [BP _ _ e1] at ha
      by_cases e2:l=gs.size
      · subst e2
        rw [BC] at hb;cases hb;exact ⟨(F.sep0 j e k ha b h1 h2).1,h2⟩
      · rw [BP _ _ e2] at hb
        exact F.sep j l e k f o hjl ha hb b h1 h2
  · have hni:gs.size∉L:=fun h=>(c.mem _).1 h hnew
    refine ⟨q,tm,gs.size::L,⟨c.heap,c.free,List.nodup_cons.2 ⟨hni,c.nodup⟩,fun j=>?_,?_,?_,fun k g v hk=>?_⟩⟩
    · by_cases e:j=gs.size
      · subst e;simp [BC]
      · rw [BP _ _ e,← c.mem j];simp [e]
    · have e1 : L.map (HS (setA act gs.size (some (⟨cf, ccs, σ.child⟩, m)))) = L.map (HS act) := List.map_congr_left fun j hj => by
        have:j≠gs.size:=fun e=>hni (e▸hj)
        simp [HS,BP _ _ this]
      have e2:HS (setA act gs.size (some (⟨cf,ccs,σ.child⟩,m))) gs.size=m:=by simp [HS,BC]
      show (m::h.outs).Perm _;rw [List.map_cons,e1,e2];exact (List.Perm.cons m c.outs).trans List.perm_middle.symm
    · show (m::h.outs).length≤h.cap
      simp;omega
    · obtain ⟨g1,g2,p,g3,g4,g5⟩:=c.said k g v hk
      have hp:=lt_of_act? g3;have hgz:g≠gs.size:=fun e=>by
        have:=F.num g v (List.mem_of_getElem? hk);omega
      refine ⟨g1,by rw [BP _ _ hgz];exact g2,p,by rw [act?_old hp];exact g3,by rw [g?_old hp];exact g4,fun j a hj hgj=>?_⟩;obtain ⟨x,hx,hxa⟩:=touch_of hj;rcases getElem?_append_cases hx with ⟨hjl,hx'⟩ | ⟨_,hxu⟩
      · exact (g5 j a (by rw [touchAt_of hx'];exact hxa) (by rw [g?_old hjl] at hgj;exact hgj)).app _
      · rw [hu x hxu] at hxa;cases hxa
  · exact TM F.low fun op hop=>by subst hU;simp at hop;rcases hop with rfl | rfl <;> trivial
  · rcases hp with hp | hp
    · obtain ⟨x,hx,hxa⟩:=touch_of ha
      rcases getElem?_append_cases hx with ⟨_,hx'⟩ | ⟨_,hxu⟩
      · exact (F.kn0 i a b (by rw [touchAt_of hx'];exact hxa) hb hk (.inl hp)).app _
      · rw [hu x hxu] at hxa;cases hxa
    · exact absurd hk hp
  · by_cases e1:j=gs.size
    · subst e1
      rw [BC] at ha;cases ha;intro i a b hi hb hk hp;rcases hp with hp | hp
      · obtain ⟨x,hx,hxa⟩:=touch_of hi
        rcases getElem?_append_cases hx with ⟨_,hx'⟩ | ⟨_,hxu⟩
        · have hkn:Knows (t++U) 0 i:=(F.kn0 i a b (by rw [touchAt_of hx'];exact hxa) hb hk (.inl hp)).app _
          obtain ⟨p,z,hz1,hz2,hz3⟩:=F.kn0 i a b (by rw [touchAt_of hx'];exact hxa) hb hk (.inl hp);have hplt:=lt_size_of_getElem? hz1;refine ⟨t.size+1,_,hop2,rfl,.inr ?_⟩;refine ((hz3.app U).hb (hb_po hplt (by rw [getElem?_append_old hplt];exact hz1) hop1 hz2)).trans (.single (.inr ⟨.spawn (child:=gs.size) (by rw [act?_of hop1]) (by rw [act?_of hop2]) (by simp only [Trace.g?,hop2,Option.map_some]),hW.heard hop1,hW.heard hop2⟩))
        · rw [hu x hxu] at hxa;cases hxa
      · exact absurd hk hp
    · rw [BP _ _ e1] at ha
      exact kn_app (F.knw j e k ha) hu
  · obtain ⟨x,hx,hxa⟩:=touch_of ha
    rcases getElem?_append_cases hx with ⟨hj,hx'⟩ | ⟨_,hxu⟩
    · rcases F.all j a (by rw [touchAt_of hx'];exact hxa) with h1 | ⟨k,h1,h2,h3⟩
      · exact .inl (h1.app _)
      · refine .inr ⟨k,by rw [g?_old hj];exact h1,h2,?_⟩
        by_cases e:k=gs.size
        · subst e;exact .inl (by simp [BC])
        · rw [BP _ _ e];exact h3
    · rw [hu x hxu] at hxa;cases hxa
def Reach (P:Program) (m:Machine) (t:Trace) (D:Machine→Trace→Prop):Prop:=∃ N m' t',runNT P N m t=(.next m',t')∧D m' t'
theorem Reach.now {m:Machine} {D:Machine→Trace→Prop} (h:D m t):Reach P m t D:=⟨0,m,t,rfl,h⟩
theorem Reach.step {m m1:Machine} {ops:Trace} {D:Machine→Trace→Prop} (hs:stepT P m=(.next m1,ops)) (h:Reach P m1 (t++ops) D):Reach P m t D:=by
  obtain ⟨N,m',t',h1,h2⟩:=h;exact ⟨N+1,m',t',by simp only [runNT,hs];exact h1,h2⟩
theorem Reach.trans {m:Machine} {D E:Machine→Trace→Prop} (h:Reach P m t D) (k:∀ m t,D m t→Reach P m t E):Reach P m t E:=by
  obtain ⟨N,m1,t1,h1,h2⟩:=h;obtain ⟨N2,m2,t2,h3,h4⟩:=k m1 t1 h2;refine ⟨N+N2,m2,t2,?_,h4⟩;clear h2 h4 k
  induction N generalizing m t with
  | zero=>simp only [runNT,Prod.mk.injEq,Stepped.next.injEq] at h1;obtain ⟨rfl,rfl⟩:=h1;rw [Nat.zero_add];exact h3
  | succ N ih=>
    rw [show N+1+N2=(N+N2)+1 by omega];simp only [runNT] at h1 ⊢;cases hs:stepT P m with
    | mk s ops=>
      rw [hs] at h1;cases s with
      | next m'=>exact ih h1
      | ended o w=>simp at h1
theorem Fr.park (F:Fr P σ g0 gs w t τ act sent) (g1:Goroutine):Fr P σ g1 (gs.setIfInBounds 0 g1) w t τ act sent:=by
  have h0:=DO F.main;refine ⟨by simp [h0],F.mod,fun j x hj hx ha=>F.leav j x hj (by rwa [Array.getElem?_setIfInBounds_ne (by omega)] at hx) ha,fun j d m ha=>?_,F.sep0,F.sep,F.chan,F.clean,F.words,F.low,F.kn0,F.knw,F.all,fun g v hv=>by simpa using F.num g v hv⟩;obtain ⟨k1,k2,k3⟩:=F.work j d m ha;exact ⟨k1,by rw [Array.getElem?_setIfInBounds_ne (by omega)];exact k2,k3⟩
theorem RE {i : Nat} {g : Goroutine} {sl : Option (Nat × Nat)} (F : Fr P σ g0 gs w t τ act sent) (hi : gs[i]? = some g) (hpos : 0 < i) (hrun : g.status = .running)
    (hm:∀ a a' w',(∀ h,σ.gh=some h→∃ buf s q tm,w'.heap[h.r]?=some (.chan h.cap buf false s q tm))→woken P a a' w' g0=g0) :
    (∃ gs' w' ops τ' act',runT P (crowd gs w sl) i=(.next (crowd gs' w' sl),ops)∧gs'.size=gs.size∧Red (NW gs.size τ') (NW gs.size τ)∧Fr P σ g0 gs' w' (t++ops) τ' act' sent) ∨
    (∃ d m h n f,act i=some (d,m)∧σ.gh=some h∧τ i=.node f∧(∀ w,f w=natT n)∧RS P h.r m n d∧g=G d.fr d.cs):=by
  have hilt:=DO hi;have hi0:(i == 0)=false:=by simp;omega
  cases hx:act i with
  | none=>
    obtain ⟨k,hk,hq⟩:=F.leav i g hpos hi hx;cases k with
    | zero=>rw [show g.status=.finished from hq] at hrun;cases hrun
    | succ k=>
      rcases hq with hq | ⟨_,g',hst,hq⟩
      · rw [hq] at hrun;cases hrun
      · refine .inl ⟨_,w,#[],setT τ i (natT k),act,runT_crowd_go (P:=P) hi (by rw [hi0];exact hst w),by simp,QV hilt (by rw [hk];exact Twig.mk (fun _=>natT k) w),?_⟩
        rw [Array.append_empty];exact F.stepL hpos hi hx hq (hm _ _ _ fun h hg=>Chn.open F hg)
  | some x=>
    obtain ⟨d,m⟩:=x;obtain ⟨_,k2,k3,h,k4,k5,k6⟩:=F.work i d m hx;rw [hi] at k2;obtain rfl:=Option.some.inj k2;cases hτ:τ i with
    | leaf=>rw [hτ] at k5;exact k5.elim
    | node f=>
      rw [hτ] at k5;rcases k5 with ⟨n,hf,hs⟩ | hs
      · exact .inr ⟨d,m,h,n,f,rfl,k4,rfl,hf,hs,rfl⟩
      · obtain ⟨fr',cs',w',es,σ',h1,h2,h3⟩:=hs w k3
        refine .inl ⟨_,w',_,setT τ i (f w),setA act i (some (⟨fr',cs',σ'⟩,m)),runT_crowd_go (P:=P) hi (by rw [hi0];exact h1),by simp,QV hilt (by rw [hτ];exact .mk _ w),?_⟩;refine F.stepW hx k4 h2 h3 (hm _ _ _ fun h' hg'=>?_);rw [k4] at hg';cases hg';obtain ⟨buf,s,q,tm,hc⟩:=Chn.open F k4;exact ⟨buf,s,q,tm,by rw [h2.frame _ (.inl k6) (Chn.lt F k4)];exact hc⟩
theorem others {fr : Frame} {cs : List Frame} {D : Machine → Trace → Prop}
    (hmain:∀ gs w sl t τ act sent,Fr P σ (G fr cs) gs w t τ act sent→∃ m ops,runT P (crowd gs w sl) 0=(.next m,ops)∧Reach P m (t++ops) D) :
    ∀ (l:List Tree),Acc Red l→∀ gs w sl t τ act sent,l=NW gs.size τ→Fr P σ (G fr cs) gs w t τ act sent→Reach P (crowd gs w sl) t D:=by
  intro l hl
  induction hl with
  | intro l _ ih=>
    intro gs w sl t τ act sent hlf F;obtain ⟨i,g,d,sl',hi,hrun,hst⟩:=crowd_pick (P:=P) (w:=w) (sl:=sl) (F.awake (awake_of (.inl rfl))) ⟨0,G fr cs,F.main,rfl⟩;have F':=F.draw d;rcases Nat.eq_zero_or_pos i with rfl | hpos
    · obtain ⟨m,ops,h1,h2⟩:=hmain gs (w.at d) sl' t τ act sent F'
      exact .step (hst.trans h1) h2
    · rcases RE (sl:=sl') F' hi hpos hrun (fun _ _ _ _=>woken_run rfl) with ⟨gs',w',ops,τ',act',h1,h2,h3,h4⟩ | ⟨e,m,h,n,f,h1,h2,h3,h4,⟨h5,h6⟩,rfl⟩
      · exact .step (hst.trans h1) (ih _ (hlf▸h3) gs' w' sl' _ τ' act' sent (by rw [h2]) h4)
      · obtain ⟨buf,s,q,tm,hc⟩:=Chn.open F' h2
        obtain ⟨hroom,F2⟩:=F'.send (fn:=e.fr.fn) (pos:=e.fr.place) (fn':=e.fr.fn) (pos':=e.fr.place) h1 h2 h6 hc;have hi0:(i == 0)=false:=by simp;omega
        obtain ⟨z,hz⟩:=h5 (w.at d) (F'.work i e m h1).2.2.1;have hp:partners (gs.setIfInBounds i ph) h.r false=[]:=partners_nil fun j x hj=>by
          rcases getElem?_stand gs i j x hj with ⟨_,rfl⟩ | ⟨_,hj'⟩
          · rfl
          · rcases Nat.eq_zero_or_pos j with rfl | hjp
            · rw [F'.main] at hj';cases hj'
              exact offersAt_of_not_blocked (by simp [G]) _ _
            · exact F'.offers h.r false j x hjp hj'
        have h7:=crowd_send_room (P:=P) (sl:=sl') hi (by rw [hi0];exact hz) hc hroom hp;refine .step (hst.trans h7) ?_;refine ih (NW gs.size (setT τ i (natT n))) (by rw [hlf];exact QV (DO hi) (by rw [h3,← h4 (w.at d)];exact .mk _ _)) _ _ _ _ (setT τ i (natT n)) (setA act i none) (sent++[(i,m)]) (by simp) ?_;exact F2
def At (P:Program) (Q:Cf→Prop) (m:Machine) (t:Trace):Prop:=∃ d gs w sl τ act sent,m=crowd gs w sl∧Fr P d.σ (G d.fr d.cs) gs w t τ act sent∧Q d
def QN (P:Program) (c:Cf) (Q:Cf→Prop):Prop:=∀ gs w sl t τ act sent,Fr P c.σ (G c.fr c.cs) gs w t τ act sent→Reach P (crowd gs w sl) t (At P Q)
theorem getsB_bind {c:Cf} {Q R:Cf→Prop} (h:QN P c Q) (k:∀ d,Q d→QN P d R):QN P c R:=fun gs w sl t τ act sent F=>
  (h gs w sl t τ act sent F).trans fun m t ⟨d,gs,w,sl,τ,act,sent,e,F',hd⟩=>e▸k d hd gs w sl t τ act sent F'
theorem getsB_one {c:Cf} {Q:Cf→Prop} (h:OneStep P c Q):QN P c Q:=fun gs w sl t τ act sent F=>
  others (fun gs w sl t τ act sent F=>by
    obtain ⟨fr',cs',w',es,σ',h1,h2,h3⟩:=h w F.mod
    exact ⟨_,_,runT_crowd_go (P:=P) F.main (h1 _),.now ⟨⟨fr',cs',σ'⟩,_,w',sl,τ,act,sent,rfl,F.step0 h2,h3⟩⟩) _ (acc_red _) gs w sl t τ act sent rfl F
@[reducible] def JB (P:Program):Jud P where
  gets:=QN P
  stop h:=fun gs w sl t τ act sent F=>.now ⟨_,gs,w,sl,τ,act,sent,rfl,F,h⟩
  bind:=getsB_bind
  one:=getsB_one
theorem getsB_go {fr fr' cf : Frame} {cs cs' ccs : List Frame} {h : Gh} {m : Value} {Q : Cf → Prop} (hg : σ.gh = some h) (hroom : h.outs.length < h.cap) (hs : ∀ w, Mod σ w → stepG P true (G fr cs) w = .spawn (G fr' cs') (G cf ccs) w #[])
    (hc:∃ T,Tr P (fun d=>∃ n,RS P h.r m n d) T ⟨cf,ccs,σ.child⟩) (k:QN P ⟨fr',cs',σ.share h m⟩ Q):QN P ⟨fr,cs,σ⟩ Q:=fun gs w sl t τ act sent F=>
  others (fun gs w sl t τ act sent F=>by
    obtain ⟨T,hT⟩:=hc
    obtain ⟨T,hT⟩:=wk_of_tr T _ hT
    refine ⟨_,_,runT_crowd_spawn (P:=P) F.main (hs w F.mod),?_⟩
    have F2:=F.spawn (fr':=fr') (cs':=cs') (cf:=cf) (ccs:=ccs) (m:=m) (T:=T) (fn:=fr.fn) (pos:=fr.place) (fn':=cf.fn) (pos':=fr.place) hg hroom hT
    refine k _ w sl _ (setT τ gs.size T) (setA act gs.size (some (⟨cf,ccs,σ.child⟩,m))) sent ?_
    have e:∀ (x y:MemOp),t++((MemOp.ofEvents 0 (G fr cs).frame.fn (G fr cs).frame.place #[]).push x |>.push y)=(t.push x).push y:=fun x y=>by
      apply Array.ext';simp [MemOp.ofEvents]
    rw [e]
    exact F2) _ (acc_red _) gs w sl t τ act sent rfl F
theorem waiting {fr : Frame} {cs : List Frame} {h : Gh} {z : Value} {D : Machine → Trace → Prop} (hg : σ.gh = some h) (hne : h.outs ≠ [])
    (hmeet:∀ gs w sl t τ act v outs,h.outs.Perm (v::outs)→Fr P (σ.outs h outs) (G (fr.finish v) cs) gs w t τ act []→Reach P (crowd gs w sl) t D) :
    ∀ (l:List Tree),Acc Red l→∀ gs w sl t τ act,l=NW gs.size τ→Fr P σ (parked (G fr cs) #[rcase h.r z] (.recv false)) gs w t τ act []→Reach P (crowd gs w sl) t D:=by
  intro l hl
  induction hl with
  | intro l _ ih=>
    intro gs w sl t τ act hlf F;have hch:=F.chan;unfold Chn at hch;rw [hg] at hch;obtain ⟨q,tm,L,c⟩:=hch;have hL:L≠[]:=fun e=>by
      have:=c.outs;rw [e] at this;exact hne (by simpa using this)
    obtain ⟨i0,hi0⟩:=List.exists_mem_of_ne_nil L hL;have hact:=(c.mem i0).1 hi0
    obtain ⟨i,g,d,sl',hi,hrun,hst⟩:=crowd_pick (P:=P) (w:=w) (sl:=sl) (F.awake (awake_of (.inr (.inl rfl)))) (by
      cases hx:act i0 with
      | none=>exact absurd hx hact
      | some x=>obtain ⟨d,m⟩:=x;exact ⟨i0,_,(F.work i0 d m hx).2.1,rfl⟩)
    have F':=F.draw d;have hpos:0<i:=by
      rcases Nat.eq_zero_or_pos i with rfl | h
      · rw [F.main] at hi;cases hi;cases hrun
      · exact h
    rcases RE (sl := sl') F' hi hpos hrun (fun a a' w' ho => by
        obtain ⟨buf,s,q,tm,hc⟩:=ho h hg
        exact woken_recv_open a a' hc) with ⟨gs',w',ops,τ',act',h1,h2,h3,h4⟩ | ⟨e,m,h',n,f,h1,h2,h3,h4,⟨h5,h6⟩,rfl⟩
    · exact .step (hst.trans h1) (ih _ (hlf▸h3) gs' w' sl' _ τ' act' (by rw [h2]) h4)
    · rw [hg] at h2;cases h2
      obtain ⟨buf,s,q2,tm2,hc⟩:=Chn.open F' hg;have hmem:m∈h.outs:=c.outs.mem_iff.2 (List.mem_append_right _ (List.mem_map.2 ⟨i,(c.mem i).2 (by simp [h1]),by simp [HS,h1]⟩));obtain ⟨A,B,hAB⟩:=List.append_of_mem hmem;have ho:h.outs.Perm (m::(A++B)):=by rw [hAB];exact List.perm_middle
      have F2:=F'.meet (fr:=fr.finish m) (cs:=cs) (fn:=e.fr.fn) (pos:=e.fr.place) (fn':=e.fr.fn) (pos':=e.fr.place) (fn2:=fr.fn) (pos2:=fr.place) (fn3:=fr.fn) (pos3:=fr.place) h1 hg h6 hc ho;have hi0:(i == 0)=false:=by simp;omega
      obtain ⟨z',hz⟩:=h5 (w.at d) (F'.work i e m h1).2.2.1;have hp:partners (gs.setIfInBounds i ph) h.r false=[(0,0)]:=by
        rw [partners_one (j:=0) (g:=parked (G fr cs) #[rcase h.r z] (.recv false)) (stand_get (by omega) F'.main) fun k x hk hx=>?_]
        · rw [offersAt_parked_recv,if_pos rfl];rfl
        · rcases getElem?_stand gs i k x hx with ⟨_,rfl⟩ | ⟨_,hx'⟩
          · rfl
          · exact F'.offers h.r false k x (by omega) hx'
      have h7:=crowd_send_meets (P:=P) (sl:=sl') (j:=0) hi (by rw [hi0];exact hz) hc (by omega) F'.main hp;refine .step (hst.trans h7) ?_;exact hmeet _ _ _ _ _ _ m (A++B) ho F2
theorem getsB_recv {fr : Frame} {cs : List Frame} {h : Gh} {z : Value} {Q : Cf → Prop} (hg : σ.gh = some h) (hne : h.outs ≠ []) (hs : ∀ w, Mod σ w → stepG P true (G fr cs) w = .comm (G fr cs) #[rcase h.r z] true (.recv false) w #[])
    (k:∀ v outs,h.outs.Perm (v::outs)→QN P ⟨fr.finish v,cs,σ.outs h outs⟩ Q):QN P ⟨fr,cs,σ⟩ Q:=fun gs w sl t τ act sent F=>
  others (fun gs w sl t τ act sent F=>by
    have hch:=F.chan
    unfold Chn at hch
    rw [hg] at hch
    obtain ⟨q,tm,L,c⟩:=hch
    cases hsent:sent with
    | nil=>
      subst hsent
      have hw:∀ cc∈(#[rcase h.r z]:Array CommCase),NoWays w (gs.setIfInBounds 0 ph) cc:=fun cc hcc=>by
        simp at hcc;subst hcc
        refine ⟨made_recv z c.heap,?_⟩
        have hp:partners (gs.setIfInBounds 0 ph) h.r true=[]:=partners_nil fun j x hj=>by
          rcases getElem?_stand gs 0 j x hj with ⟨_,rfl⟩ | ⟨hj0,hj'⟩
          · rfl
          · exact F.offers h.r true j x (by omega) hj'
        simp [ways,rcase,c.heap,hp]
      refine ⟨_,_,crowd_waits (P:=P) F.main (hs w F.mod) hw,?_⟩
      rw [show MemOp.ofEvents 0 (G fr cs).frame.fn (G fr cs).frame.place #[]=#[] from rfl,Array.append_empty]
      exact waiting hg hne (fun gs w sl t τ act v outs ho F=>k v outs ho gs w sl t τ act [] F) _ (acc_red _) _ _ _ _ τ act rfl (F.park _)
    | cons x rest=>
      subst hsent
      obtain ⟨g,v⟩:=x
      have ho:h.outs.Perm (v::(rest.map Prod.snd++L.map (HS act))):=c.outs
      have hp:partners (gs.setIfInBounds 0 ph) h.r true=[]:=partners_nil fun j x hj=>by
        rcases getElem?_stand gs 0 j x hj with ⟨_,rfl⟩ | ⟨hj0,hj'⟩
        · rfl
        · exact F.offers h.r true j x (by omega) hj'
      refine ⟨_,_,crowd_recv_buf (P:=P) F.main (hs w F.mod) c.heap (by simp) hp,?_⟩
      have F2:=F.recv (fr:=fr.finish v) (cs:=cs) (fn:=fr.fn) (pos:=fr.place) (fn':=fr.fn) (pos':=fr.place) hg c.heap ho
      exact k v _ ho _ _ _ _ τ act rest F2) _ (acc_red _) gs w sl t τ act sent rfl F
end
section
variable {P:Program} {σ:GW} {g0:Goroutine} {gs:Array Goroutine} {w:Go.World} {t:Trace} {τ:Nat→Tree} {act:Acts} {sent:List (Nat × Value)}
def GW.give (σ:GW) (r cap:Nat):GW:={ σ with blk:=fun b=>if b=r then none else σ.blk b,gh:=some ⟨r,cap,[]⟩ }
def GW.take (σ:GW) (h:Gh) (q:Nat) (tm:Bool):GW:={ σ with blk:=fun b=>if b=h.r then some (.chan h.cap #[] false q q tm) else σ.blk b,pub:=fun _=>False,gh:=none }
theorem Fr.give {r cap q:Nat} {tm:Bool} (F:Fr P σ g0 gs w t τ act sent) (hg:σ.gh=none) (hr:σ.blk r=some (.chan cap #[] false q q tm)) (hp:¬ σ.pub r):Fr P (σ.give r cap) g0 gs w t τ act sent:=by
  have hch:=F.chan;unfold Chn at hch;rw [hg] at hch;obtain ⟨hact,rfl⟩:=hch;have le:∀ b o,(σ.give r cap).blk b=some o→σ.blk b=some o:=fun b o hb=>by
    simp only [GW.give] at hb
    split at hb
    · cases hb
    · exact hb
  refine ⟨F.main,⟨F.mod.os,F.mod.tape,F.mod.output,fun b o hb=>F.mod.blk b o (le b o hb),fun b hb=>?_⟩,F.leav,fun i d m ha=>(by rw [hact] at ha;cases ha),fun i d m ha=>(by rw [hact] at ha;cases ha),fun i j d m e n _ ha=>(by rw [hact] at ha;cases ha),?_,F.clean,F.words,F.low,fun i a b ha hb hk hpb=>?_,fun i d m ha=>(by rw [hact] at ha;cases ha),F.all,F.num⟩
  · show (if b=r then none else σ.blk b)≠none
    have hb':σ.pub b:=hb;have hne:b≠r:=fun e=>by subst e;exact hp hb'
    rw [if_neg hne];exact F.mod.known b hb'
  · refine ⟨q,tm,[],⟨by simpa using F.mod.blk r _ hr,by simp [GW.give],by simp,fun i=>by simp [hact],by simp,by simp,fun k g v hk=>by simp at hk⟩⟩
  · refine F.kn0 i a b ha hb (fun e=>hk ?_) hpb
    show (if b=r then none else σ.blk b)=none
    split
    · rfl
    · exact e
theorem Fr.take {h:Gh} (F:Fr P σ g0 gs w t τ act sent) (hg:σ.gh=some h) (ho:h.outs=[]):∃ q tm,Fr P (σ.take h q tm) g0 gs w t τ act []:=by
  have hch:=F.chan;unfold Chn at hch;rw [hg] at hch;obtain ⟨q,tm,L,c⟩:=hch;have hnil:=c.outs;rw [ho] at hnil;have hn:=List.nil_perm.1 hnil;have hs:sent=[]:=by
    have:=(List.append_eq_nil_iff.1 hn).1;exact List.map_eq_nil_iff.1 this
  have hL:L=[]:=List.map_eq_nil_iff.1 (List.append_eq_nil_iff.1 hn).2;subst hs hL;have hact:∀ i,act i=none:=fun i=>by
    cases hx:act i with
    | none=>rfl
    | some x=>have:=(c.mem i).2 (by simp [hx]);simp at this
  refine ⟨q,tm,F.main,⟨F.mod.os,F.mod.tape,F.mod.output,fun b o hb=>?_,fun b hb=>hb.elim⟩,F.leav,fun i d m ha=>(by rw [hact] at ha;cases ha),fun i d m ha=>(by rw [hact] at ha;cases ha),fun i j d m e n _ ha=>(by rw [hact] at ha;cases ha),⟨hact,rfl⟩,F.clean,F.words,F.low,fun i a b ha hb hk hpb=>?_,fun i d m ha=>(by rw [hact] at ha;cases ha),F.all,F.num⟩
  · simp only [GW.take] at hb
    split at hb
    · rename_i e;subst e;cases hb;simpa using c.heap
    · exact F.mod.blk b o hb
  · rcases F.all i a ha with h1 | ⟨g,_,_,h2 | ⟨v,h2⟩⟩
    · exact h1
    · exact absurd (hact g) h2
    · simp at h2
theorem getsB_give {fr:Frame} {cs:List Frame} {r cap q:Nat} {tm:Bool} {Q:Cf→Prop} (hg:σ.gh=none) (hr:σ.blk r=some (.chan cap #[] false q q tm)) (hp:¬ σ.pub r) (k:QN P ⟨fr,cs,σ.give r cap⟩ Q):QN P ⟨fr,cs,σ⟩ Q:=
  fun gs w sl t τ act sent F=>k gs w sl t τ act sent (F.give hg hr hp)
theorem getsB_take {fr:Frame} {cs:List Frame} {h:Gh} {Q:Cf→Prop} (hg:σ.gh=some h) (ho:h.outs=[]) (k:∀ q tm,σ.blk h.r=none→QN P ⟨fr,cs,σ.take h q tm⟩ Q):QN P ⟨fr,cs,σ⟩ Q:=
  fun gs w sl t τ act sent F=>let ⟨q,tm,F'⟩:=F.take hg ho;k q tm (by
    have hch:=F.chan
    unfold Chn at hch
    rw [hg] at hch
    obtain ⟨_,_,_,c⟩:=hch
    exact c.free) gs w sl t τ act [] F'
def gw0 (W:Go.World):GW:={ os:=W.os,tape:=W.tape,output:=W.output,blk:=fun b=>W.heap[b]?,pub:=fun _=>False,gh:=none }
theorem mod_gw0 (W:Go.World):Mod (gw0 W) W:=⟨rfl,rfl,rfl,fun _ _ h=>h,fun _ h=>h.elim⟩
theorem fr_solo (P:Program) (g:Goroutine) (W:Go.World):Fr P (gw0 W) g #[g] W #[] (fun _=>.leaf) (fun _=>none) []:=
  ⟨rfl,mod_gw0 W,fun i x hi hx=>by have:=DO hx;simp at this;omega,fun _ _ _ h=>(by cases h),fun _ _ _ h=>(by cases h),fun _ _ _ _ _ _ _ h=>(by cases h),⟨fun _=>rfl,rfl⟩,fun said=>by rintro ⟨i,j,_,⟨a,b,ha,_⟩,_⟩;simp [Trace.act?] at ha,
    fun op h=>by simp at h,fun op h=>by simp at h,fun i a b ha=>by simp [touchAt,Trace.act?] at ha,fun _ _ _ h=>(by cases h),fun i a ha=>by simp [touchAt,Trace.act?] at ha,fun _ _ h=>by simp at h⟩
theorem RJ {f : FuncId} {fr : Frame} {R : Value → GW → Prop} (noInit : P.inits.idxOf? f = none) (h : Lv P f [] .normal R ⟨fr, [], σ⟩) (hw : Mod σ w) :
    ∃ v w' es σ',stepG P true (G fr []) w=.ended (.done v) w' es∧Guar σ w w' es σ'∧R v σ':=by
  obtain ⟨_,hfn,hm,hd,hk,fn,hf,hr⟩:=h;simp only at hfn hm hd hk hr;subst hfn;obtain ⟨v,w',es,σ',h1,h2,h3⟩:=hr w hw;have h0:=h1 #[];rw [Array.empty_append] at h0;refine ⟨v,w',seen P fr.fn es,σ',?_,h2.less fun e he=>KN he,h3⟩;simp only [G,stepG,hm,unwind,hd,hf,h0,doReturn,hk,GStep.after,Array.append_empty,Bool.not_true,Bool.false_eq_true,if_false,noInit]
theorem ending {f : FuncId} {fr : Frame} {R : Value → GW → Prop} (noInit : P.inits.idxOf? f = none) (h : Lv P f [] .normal R ⟨fr, [], σ⟩) (hg : σ.gh = none) :
    ∀ (l:List Tree),Acc Red l→∀ gs w sl t τ act sent,l=NW gs.size τ→Fr P σ (G fr []) gs w t τ act sent →
      ∃ N last o w' t',runNT P (N+1) (crowd gs w sl) t=(.ended o w',t')∧runN P N (crowd gs w sl)=.next last∧step P last=.ended o w'∧Go.Conc.Good P (fun v W'=>∃ σ',Mod σ' W'∧R v σ') last o w' t':=by
  intro l hl
  induction hl with
  | intro l _ ih=>
    intro gs w sl t τ act sent hlf F;obtain ⟨i,g,d,sl',hi,hrun,hst⟩:=crowd_pick (P:=P) (w:=w) (sl:=sl) (F.awake (awake_of (.inl rfl))) ⟨0,G fr [],F.main,rfl⟩;have F':=F.draw d;have hch:=F.chan;unfold Chn at hch;rw [hg] at hch;obtain ⟨hact,rfl⟩:=hch;rcases Nat.eq_zero_or_pos i with rfl | hpos
    · obtain ⟨v,w',es,σ',h1,h2,h3⟩:=RJ noInit h F'.mod
      have hrunT:=runT_many_ended (P:=P) (sl:=sl') F.main (show stepG P (0 == 0) (G fr []) (w.at d)=_ from h1);have F2:=F'.step0 (fr':=fr) (cs':=[]) (fn:=(G fr []).frame.fn) (pos:=(G fr []).frame.place) h2
      generalize hT:t++MemOp.ofEvents 0 (G fr []).frame.fn (G fr []).frame.place es=T at F2
      refine ⟨0,crowd gs w sl,.done v,w',T,?_,rfl,?_,v,rfl,⟨σ',h2.mod,h3⟩,F2.clean,fun i g hgi hne hc=>?_,⟨fun x hx=>?_,rfl⟩,fun j x hx hj=>?_⟩
      · simp only [runNT,hst,hrunT,hT]
      · simp only [step,hst,hrunT]
      · obtain ⟨x,hx,_⟩:=hc
        rcases F2.all i x hx with ⟨q,z,k1,k2,k3⟩ | ⟨n,_,_,k | ⟨v',k⟩⟩
        · rcases k3 with rfl | k3
          · simp only [Trace.g?,k1,Option.map_some,Option.some.injEq] at hgi
            exact absurd (hgi.symm.trans k2) hne
          · exact ⟨q,by simp only [Trace.g?,k1,Option.map_some,k2],k3⟩
        · exact absurd (hact n) k
        · simp at k
      · obtain ⟨j,hj⟩:=List.mem_iff_getElem?.1 hx
        rw [List.getElem?_drop] at hj;obtain ⟨k,_,hq⟩:=F.leav (1+j) x (by omega) (by simpa [crowd] using hj) (hact _);exact ⟨k,hq.leaves⟩
      · obtain ⟨k,_,hq⟩:=F.leav j x (by omega) hx (hact j)
        refine ⟨k,?_⟩;rw [F2.words.deaf];exact hq.hears _ 0
    · rcases RE (sl:=sl') F' hi hpos hrun (fun _ _ _ _=>woken_run rfl) with ⟨gs',w',ops,τ',act',h1,h2,h3,h4⟩ | ⟨e,m,h',n,f',h1,h2,_⟩
      · obtain ⟨N,last,o,w2,t',k1,k2,k3,k4⟩:=ih _ (hlf▸h3) gs' w' sl' _ τ' act' [] (by rw [h2]) h4
        have hs:=hst.trans h1;exact ⟨N+1,last,o,w2,t',by rw [runNT_succ_next hs];exact k1,by rw [runN_succ_next hs];exact k2,k3,k4⟩
      · rw [hact] at h1;cases h1
theorem run_good {f : FuncId} {args : Array Value} {W : Go.World} {R : Value → GW → Prop} (noInit : P.inits.idxOf? f = none) (h : @Calls P (JB P) f args (gw0 W) R) (hR : ∀ v σ, R v σ → σ.gh = none) :
    ∃ M last o w' t',runNT P (M+1) (solo (G (Frame.enter P f args .normal) []) W) #[]=(.ended o w',t')∧runN P M (solo (G (Frame.enter P f args .normal) []) W)=.next last∧step P last=.ended o w' ∧
      Go.Conc.Good P (fun v W'=>∃ σ',Mod σ' W'∧R v σ') last o w' t':=by
  have h1:=h [] #[G (Frame.enter P f args .normal) []] W none #[] (fun _=>.leaf) (fun _=>none) [] (fr_solo P _ W);obtain ⟨N,m,t,h1,d,gs,w,sl,τ,act,sent,rfl,F,hlv⟩:=h1;obtain ⟨fr,cs,σ⟩:=d;obtain rfl:cs=[]:=hlv.cs;have hgh:∀ w,Mod σ w→σ.gh=none:=fun w hw=>by
    obtain ⟨v,w',es,σ',_,h2,h3⟩:=RJ noInit hlv hw;rw [← h2.gh];exact hR v σ' h3
  obtain ⟨N2,last,o,w',t',k1,k2,k3,k4⟩:=ending noInit hlv (hgh w F.mod) _ (acc_red _) gs w sl t τ act sent rfl F;have h2:runN P N (solo (G (Frame.enter P f args .normal) []) W)=.next (crowd gs w sl):=by
    rw [← runNT_fst P N _ #[]];rw [show solo (G (Frame.enter P f args .normal) []) W=crowd #[G (Frame.enter P f args .normal) []] W none from rfl,h1]
  refine ⟨N+N2,last,o,w',t',?_,?_,k3,k4⟩
  · rw [Nat.add_assoc,runNT_add,show solo (G (Frame.enter P f args .normal) []) W=crowd #[G (Frame.enter P f args .normal) []] W none from rfl,h1];exact k1
  · rw [runN_add,h2];exact k2
end
open Go.Conc (G rcase born)
class Host (P:Program) [J:Jud P]:Prop where
  go:∀ {σ:GW} {fr fr' cf:Frame} {cs cs' ccs:List Frame} {h:Gh} {m:Value} {Q:Cf→Prop},σ.gh=some h→h.outs.length<h.cap→(∀ w,Mod σ w→stepG P true (G fr cs) w=.spawn (G fr' cs') (G cf ccs) w #[]) →
    (∃ T,Tr P (fun d=>∃ n,RS P h.r m n d) T ⟨cf,ccs,σ.child⟩)→J.gets ⟨fr',cs',σ.share h m⟩ Q→J.gets ⟨fr,cs,σ⟩ Q
  recv:∀ {σ:GW} {fr:Frame} {cs:List Frame} {h:Gh} {z:Value} {Q:Cf→Prop},σ.gh=some h→h.outs≠[]→(∀ w,Mod σ w→stepG P true (G fr cs) w=.comm (G fr cs) #[rcase h.r z] true (.recv false) w #[]) →
    (∀ v outs,h.outs.Perm (v::outs)→J.gets ⟨fr.finish v,cs,σ.outs h outs⟩ Q)→J.gets ⟨fr,cs,σ⟩ Q
  give:∀ {σ:GW} {fr:Frame} {cs:List Frame} {r cap q:Nat} {tm:Bool} {Q:Cf→Prop},σ.gh=none→σ.blk r=some (.chan cap #[] false q q tm)→¬ σ.pub r→J.gets ⟨fr,cs,σ.give r cap⟩ Q→J.gets ⟨fr,cs,σ⟩ Q
  take:∀ {σ:GW} {fr:Frame} {cs:List Frame} {h:Gh} {Q:Cf→Prop},σ.gh=some h→h.outs=[]→(∀ q tm,σ.blk h.r=none→J.gets ⟨fr,cs,σ.take h q tm⟩ Q)→J.gets ⟨fr,cs,σ⟩ Q
theorem host_JB (P:Program):@Host P (JB P):=@Host.mk P (JB P) getsB_go getsB_recv getsB_give getsB_take
structure CtB (P:Program) (f:FuncId) (args:Array Value) (I:Imm) (pre:Seg) (post:Value→Imm→Seg→Prop):Prop where
  all:∀ [Jud P] [Host P],CtA P f args I pre post
theorem Ct.b {P:Program} {f:FuncId} {args:Array Value} {I:Imm} {pre:Seg} {post:Value→Imm→Seg→Prop} (h:Ct P f args I pre post):CtB P f args I pre post:=⟨h.all⟩
theorem frB {P : Program} {f : FuncId} {fn : Func} {args : List Value} {I : Imm} {pre : Seg} {post : Value → Imm → Seg → Prop} {N : Nat} (hf : P.funcs[f]? = some fn)
    (h:∀ [Jud P] [Host P] (F:Seg),Run (ρ:=none) P N (LB fn) (RetQ P fn I post F) [] (FE 0 args) I (pre++F)) (hb:fn.body.isSome=true:=by kernel_rfl) (hN:fn.ntmps=N:=by kernel_rfl) (hle:Nat.ble args.length N=true:=by rfl):CtB P f args.toArray I pre post:=
  ⟨QU hf hb hN (Nat.le_of_ble_eq_true hle) h⟩
theorem run_good_ct {P : Program} {f : FuncId} {args : Array Value} {W : Go.World} {I : Imm} {post : Value → Imm → Seg → Prop} (noInit : P.inits.idxOf? f = none) (ct : CtB P f args I [] post) (st : St I [] (gw0 W)) (hg : I.gh = none) :
    ∃ M last o w' t',runNT P (M+1) (Go.Conc.solo (G (Frame.enter P f args .normal) []) W) #[]=(.ended o w',t')∧runN P M (Go.Conc.solo (G (Frame.enter P f args .normal) []) W)=.next last∧step P last=.ended o w' ∧
      Go.Conc.Good P (fun v W'=>∃ σ' I' M',Mod σ' W'∧I.le I'∧post v I' M'∧St I' M' σ') last o w' t':=by
  have h:=@CtB.all P f args I [] post ct (JB P) (host_JB P) [] (gw0 W) st;obtain ⟨M,last,o,w',t',h1,h2,h3,h4⟩:=run_good noInit h (fun v σ ⟨I',M',hle,_,st'⟩=>by rw [st'.gh,hle.gh];exact hg);exact ⟨M,last,o,w',t',h1,h2,h3,h4.mono fun v ⟨σ',hm,I',M',hle,hp,st'⟩=>⟨σ',I',M',hm,hle,hp,by simpa using st'⟩⟩
section
variable {ρ:Option Nat} {P:Program} [J:Jud P] {N:Nat} {ops:Array Oper} {Q:Exit→Act→GW→Prop} {ds:List Deferred} {i:Nat} {l:Sl} {I:Imm} {M:Seg} {ty:TypeId} {gd:Option (Nat × Bool)} {K:Sl→Imm→Seg→Prop}
theorem stp_callH [Host P] {d : Option Tmp} {f : Operand} {fid : FuncId} {args : Array Operand} {tys : Array TypeId} {vals cv : List Value} {pre F : Seg} {post : Value → Imm → Seg → Prop} {argv : Array Value}
    (hop:EL ops N i=some (d,.call { callee:=.value f,args,argTypes:=tys },ty,gd)) (hg:EK ops l gd=some true) (hf:BK l f=some (.func (.func fid) #[] cv.toArray)) (hv:NT l args.toList=some vals)
    (hc:CX P fid=true) (ha:(vals++cv).toArray=argv) (ct:CtB P fid argv I pre post) (hM:M.Perm (pre++F))
    (h:∀ v I' M',I.le I'→post v I' M'→K (ups d v l) I' (M'++F)):Stp P N ops i l I M K:=by
  obtain ⟨o,ho,rfl,he,rfl,rfl,hN,hs⟩:=FN hop;obtain ⟨h1,h2⟩:=HF hv;refine ⟨o,ho,hN,hs,hg,?_,fun w st=>?_⟩
  · rw [he]
    intro x hx;simp only [Op.operands,Call.operands] at hx;rcases Array.mem_append.1 hx with hx | hx
    · simp at hx;subst hx;exact DG hf
    · exact h1 x (by simpa using hx)
  · rw [FL,he]
    refine call_to (AU hf) h2 hc ?_;rw [ha];exact (ct.all F w (st.perm hM)).mono fun v w' ⟨I',M',hle,hp,st'⟩=>⟨I',M'++F,hle,st',h v I' M' hle hp⟩
def SeqM {ρ:Option Nat} (P:Program) [Jud P] (N:Nat) (ops:Array Oper) (Q:Exit→Act→GW→Prop) (ds:List Deferred) (i:Nat) (l:Sl) (I:Imm) (M:Seg):Prop:=
  ∀ a w,Slots N l a→a.defers=ds→St I M w→RO ρ P ops Q (List.range' i (ops.size-i)) a w
theorem RG (h:Seq (ρ:=ρ) P N ops Q ds i l I M):SeqM (ρ:=ρ) P N ops Q ds i l I M:=fun a w hS hD hW=>wpOps_of_R _ _ _ (h a w hS hD hW)
theorem run_regionM {c:Code} {id:Nat} (hc:c=.region id ops false) (h:SeqM (ρ:=ρ) P N ops Q ds 0 l I M):Run (ρ:=ρ) P N c Q ds l I M:=by
  subst hc;intro a w hS hD hW;have:=h a w hS hD hW;rw [Nat.sub_zero,← List.range_eq_range'] at this;exact wpc_region this
theorem QC {d:Nat} {v:Value} (h:Det P N ops i l I M d v) (next:SeqM (ρ:=ρ) P N ops Q ds (i+1) ((d,v)::l) I M):SeqM (ρ:=ρ) P N ops Q ds i l I M:=by
  obtain ⟨o,ho,hd,hN,hs,h⟩:=h;intro a w hS hD hW;have hlt:i<ops.size:=(Array.getElem?_eq_some_iff.1 ho).1;rw [LL hlt];have hag:∀ t∈o.looksAt ops,∀ u,look t l=some u→a.tmps[t]?=some u:=fun t _ u hu=>hS.get t u hu
  rcases h with ⟨hg,rfl⟩ | ⟨hg,hk,hr⟩
  · refine RR (by simp [ho,CK hg hag]) ?_
    simp only [ho,Option.bind_some,hd];exact next _ _ (hS.put hN _) (by rw [FB];exact hD) hW
  · refine wpOps_op ho (CK hg hag) ?_
    have:=hr I [] w (Imm.le.refl I) (by rw [List.append_nil];exact hW);rw [← LX hs hk hag] at this;refine HH hs.2 this fun u w' ⟨hu,hst⟩=>?_
    subst hu;rw [hd];exact next _ _ (hS.put hN _) (by rw [FB];exact hD) (by rw [List.append_nil] at hst;exact hst)
structure Shr (I:Imm) (M:Seg) (g:Option Gh) (J:Imm):Prop where
  os:J.os=I.os
  tape:J.tape=I.tape
  output:J.output=I.output
  blk:∀ b o,I.blk b=some o→J.blk b=some o
  mem:∀ b o,(b,o)∈M→J.blk b=some o
  gh:J.gh=g
def goAt (ops:Array Oper) (i:Nat):Option (Operand × TypeId):=
  match ops[i]? with
  | some o=>match o.op with
    | .go c=>match c.callee with
      | .value f=>if c.args.toList.isEmpty&&c.argTypes.toList.isEmpty&&o.dst.isNone&&o.guard.isNone then some (f,o.type) else none
      | _=>none
    | _=>none
  | none=>none
theorem goAt_spec {f:Operand} (h:goAt ops i=some (f,ty)):∃ o,ops[i]?=some o∧o.op=.go { callee:=.value f,args:=#[],argTypes:=#[] }∧o.dst=none∧o.guard=none∧o.type=ty:=by
  unfold goAt at h;cases ho:ops[i]? with
  | none=>rw [ho] at h;cases h
  | some o=>
    rw [ho] at h;simp only at h;cases hop:o.op with
    | go c=>
      rw [hop] at h;simp only at h;obtain ⟨cal,ar,at'⟩:=c;cases cal with
      | value f'=>
        simp only at h
        split at h
        · rename_i hc
          simp only [Bool.and_eq_true,List.isEmpty_iff,Option.isNone_iff_eq_none,Array.toList_eq_nil_iff] at hc;obtain ⟨⟨⟨e1,e2⟩,e3⟩,e4⟩:=hc;simp only [Option.some.injEq,Prod.mk.injEq] at h;subst e1 e2;exact ⟨o,rfl,by rw [h.1] at hop;exact hop,e3,e4,h.2⟩
        · cases h
      | _=>simp at h
    | _=>rw [hop] at h;simp at h
theorem seqM_go [Host P] {f : Operand} {cid : FuncId} {cv : List Value} {h : Gh} {m : Value} (hop : goAt ops i = some (f, ty)) (hf : BK l f = some (.func (.func cid) #[] cv.toArray)) (hI : I.gh = some h) (hroom : h.outs.length < h.cap)
    (hc:∀ Jc σ,Shr I M none Jc→St Jc [] σ→∃ T,Tr P (fun d=>∃ n,RS P h.r m n d) T ⟨(born P { target:=.fn (.func cid) cv.toArray,args:=#[] }).frame,[],σ⟩)
    (next:∀ J,Shr I M (some { h with outs:=m::h.outs }) J→SeqM (ρ:=ρ) P N ops Q ds (i+1) l J []):SeqM (ρ:=ρ) P N ops Q ds i l I M:=by
  obtain ⟨o,ho,hop2,hdst,hgd,rfl⟩:=goAt_spec hop;intro a w hS hD hW b k cs hb;have hlt:i<ops.size:=(Array.getElem?_eq_some_iff.1 ho).1;rw [LL hlt];have hw:Region.wanted o (yielded ops a.tmps)=true:=by simp [Region.wanted,hgd]
  have hg:w.gh=some h:=hW.gh.trans hI;have hfin:(b.atR a (.inRegion ops (i::List.range' (i+1) (ops.size-(i+1)))::k)).finish undef=b.atR (a.put o.dst undef) (.inRegion ops (List.range' (i+1) (ops.size-(i+1)))::k):=by
    rw [Frame.finish_atR,ho];rfl
  have hput:a.put o.dst undef=a:=by rw [hdst];rfl
  have stc:St { os:=w.os,tape:=w.tape,output:=w.output,blk:=w.blk,pub:=fun b=>w.blk b≠none,gh:=none } [] w.child:=⟨rfl,rfl,rfl,rfl,rfl,fun _ _ h=>h,fun _ _ h=>by simp at h,fun _ _ h=>by simp at h,by simp,fun _ _ h=>by simp at h⟩;have sts:St { os:=w.os,tape:=w.tape,output:=w.output,blk:=w.blk,pub:=fun b=>w.blk b≠none,gh:=some { h with outs:=m::h.outs } } [] (w.share h m):=⟨rfl,rfl,rfl,rfl,rfl,fun _ _ h=>h,fun _ _ h=>by simp at h,fun _ _ h=>by simp at h,by simp,fun _ _ h=>by simp at h⟩
  refine Host.go (P:=P) (cf:=(born P { target:=.fn (.func cid) cv.toArray,args:=#[] }).frame) (ccs:=[]) (fr':=b.atR a (.inRegion ops (List.range' (i+1) (ops.size-(i+1)))::k)) (cs':=cs) (m:=m) hg hroom (fun w1 _=>?_) (hc _ _ ⟨hW.os,hW.tape,hW.output,hW.imm,hW.mem,rfl⟩ stc)
    (next _ ⟨hW.os,hW.tape,hW.output,hW.imm,hW.mem,rfl⟩ a _ hS hD sts b k cs hb)
  have e1:o.semAt b.roundOf a.eval=pure (.spawn { target:=.fn (.func cid) cv.toArray,args:=#[] }):=by
    rw [Oper.semAt_eq _ _ o (fun c hc=>by rw [hop2] at hc;cases hc),FL,hop2];show (do pure (Next.spawn (← resolve a.eval { callee:=.value f,args:=#[],argTypes:=#[] } o.type)):Sem Next)=_;unfold resolve;simp [MP hS hf,Deferred.ofValue,pure_bind]
  rw [QE ho hw,e1];have hfin2:=hfin.trans (by rw [hput]);simp only [stepG.apply,if_true,pure,Sem.runT,GStep.after,born,hfin2,G];have hes:seen P (b.atR a (.inRegion ops (i::List.range' (i+1) (ops.size-(i+1)))::k)).fn #[]=#[]:=by simp [seen]
  simp [hes]
end
open Go.Conc (G rcase)
def tyChan (P:Program) (t:TypeId):Option TypeId:=
  match P.underlying t with
  | some (.chan _ e)=>some e
  | _=>none
def wpcL (ρ:Option Nat) (P:Program) [J:Jud P] (c:Code) (Q:Exit→Act→GW→Prop) (a:Act) (σ:GW):Prop:=
  ∀ (b:Frame) (k:List Item) (cs:List Frame),b.roundOf=ρ→gets P (b.atR a (.code c::.inLoop c::k)) cs σ (Arr Q b k cs)
theorem wpcL_of {ρ:Option Nat} {P:Program} [J:Jud P] {c:Code} {Q:Exit→Act→GW→Prop} {a:Act} {σ:GW} (h:wpc ρ P c (Exit.then (wpcL ρ P c Q) Q) a σ):wpcL ρ P c Q a σ:=by
  intro b k cs hb;refine J.bind (h b (.inLoop c::k) cs hb) fun d hd=>?_
  cases hd with
  | normal h=>exact CZ (fun main w=>by simp [G,stepG,stepG.exec,Frame.atR]) (h b k cs hb)
  | exit k₁ hk h=>exact J.stop (.exit k₁ (hk.trans (by simp [exitTo])) h)
  | goto k₁ hk h=>exact J.stop (.goto k₁ (hk.trans (by simp [gotoIn])) h)
  | ret k₁ h=>exact J.stop (.ret k₁ h)
theorem wpc_loopL {ρ:Option Nat} {P:Program} [J:Jud P] {c:Code} {Q:Exit→Act→GW→Prop} {a:Act} {σ:GW} (h:wpcL ρ P c Q a σ):wpc ρ P (.loop c) Q a σ:=fun b k cs hb=>
  CZ (fr':=b.atR a (.code c::.inLoop c::k)) (cs':=cs) (fun main w=>by simp [G,stepG,stepG.exec,Frame.atR]) (h b k cs hb)
section
variable {ρ:Option Nat} {P:Program} [J:Jud P] {N:Nat} {Q:Exit→Act→GW→Prop} {ds:List Deferred} {l:Sl} {I:Imm} {M:Seg} {C:List Nat→Code} {p:List Nat} {c:Code}
def RunL {ρ:Option Nat} (P:Program) [Jud P] (N:Nat) (c:Code) (Q:Exit→Act→GW→Prop) (ds:List Deferred) (l:Sl) (I:Imm) (M:Seg):Prop:=
  ∀ a w,Slots N l a→a.defers=ds→St I M w→wpcL ρ P c Q a w
theorem HR (h:Run (ρ:=ρ) P N c (Exit.then (wpcL ρ P c Q) Q) ds l I M):RunL (ρ:=ρ) P N c Q ds l I M:=fun a w hS hD hW=>wpcL_of (h a w hS hD hW)
theorem rL (h:RunL (ρ:=ρ) P N (C (p++[0])) Q ds l I M) (hc:C p=.loop (C (p++[0])):=by kernel_rfl):Run (ρ:=ρ) P N (C p) Q ds l I M:=fun a w hS hD hW=>by rw [hc];exact wpc_loopL (h a w hS hD hW)
theorem GS {Q':Exit→Act→GW→Prop} (h:RunL (ρ:=ρ) P N c Q ds l I M):Pst N (Exit.then (wpcL ρ P c Q) Q') .normal ds l I M:=h
end
section
variable {ρ:Option Nat} {P:Program} [J:Jud P] {N:Nat} {ops:Array Oper} {Q:Exit→Act→GW→Prop} {ds:List Deferred} {i d:Nat} {l:Sl} {I:Imm} {M:Seg} {ty:TypeId} {gd:Option (Nat × Bool)} {K:Sl→Imm→Seg→Prop} {c:Code}
theorem seqM_recv [Host P] {x : Operand} {T el : Nat} {z : Value} {h : Gh} (hop : EL ops N i = some (some d, .recv T x false, ty, none)) (hT : tyChan P T = some el) (hz : HK P el = some z)
    (hx:BK l x=some (.chan (some h.r))) (hI:I.gh=some h) (hne:h.outs≠[])
    (next:∀ v outs,h.outs.Perm (v::outs)→SeqM (ρ:=ρ) P N ops Q ds (i+1) ((d,v)::l) { I with gh:=some { h with outs:=outs } } M):SeqM (ρ:=ρ) P N ops Q ds i l I M:=by
  obtain ⟨o,ho,hd,hop2,hty,hgd,hN,hs⟩:=FN hop;intro a w hS hD hW b k cs hb;have hlt:i<ops.size:=(Array.getElem?_eq_some_iff.1 ho).1;rw [LL hlt];have hw:Region.wanted o (yielded ops a.tmps)=true:=by unfold Region.wanted;rw [hgd]
  have he:o.semAt b.roundOf a.eval=execOp a.eval o:=Oper.semAt_eq _ _ o hs.2;have hrun:∀ w1,(execOp a.eval o).runT P w1 #[]=(.ok (.comm #[rcase h.r z] true (.recv false)) w1,#[]):=fun w1=>by
    obtain ⟨dir,hu⟩:∃ dir,P.underlying T=some (.chan dir el):=by
      unfold tyChan at hT
      split at hT
      · cases hT;exact ⟨_,by assumption⟩
      · cases hT
    obtain ⟨inf,hi,hzi⟩:∃ inf,P.info? el=some inf∧inf.zero=some z:=by
      unfold HK at hz;cases hI:P.info? el with
      | none=>rw [hI] at hz;cases hz
      | some inf=>rw [hI] at hz;exact ⟨inf,rfl,hz⟩
    rw [FL,hop2];have e1:(IJ a.eval (.recv T x false) o.type).run P w1=.ok (.comm #[rcase h.r z] true (.recv false)) w1:=by
      simp [IJ,execOp,underlying,zeroValue,typeInfo,hu,hi,hzi,MP hS hx,rcase]
    have e2:(IJ a.eval (.recv T x false) o.type).events P w1 #[]=#[]:=by
      simp [IJ,execOp,underlying,zeroValue,typeInfo,hu,hi,hzi,MP hS hx,rcase]
    rw [Sem.runT_eq,e1,e2]
  refine Host.recv (P:=P) (z:=z) (hW.gh.trans hI) hne (fun w1 hw1=>?_) fun v outs hp=>?_
  · rw [QE ho hw,he]
    have hes:∀ f,seen P f #[]=#[]:=fun f=>by simp [seen]
    simp only [stepG.apply,if_true,hrun,GStep.after,G];simp [hes]
  · have hfin : (b.atR a (.inRegion ops (i :: List.range' (i + 1) (ops.size - (i + 1))) :: k)).finish v = b.atR (a.put o.dst v) (.inRegion ops (List.range' (i + 1) (ops.size - (i + 1))) :: k) := by
      rw [Frame.finish_atR,ho];rfl
    rw [hfin,hd];exact next v outs hp _ (w.outs h outs) (hS.put (hN d rfl) v) (by rw [FB];exact hD) ⟨hW.os,hW.tape,hW.output,hW.pub,rfl,hW.imm,hW.mem,hW.own,hW.nodup,hW.disj⟩ b k cs hb
theorem run_give [Host P] {r cap:Nat} {tm:Bool} {M':Seg} (hg:I.gh=none) (hM:M=(r,.chan cap #[] false 0 0 tm)::M') (next:Run (ρ:=ρ) P N c Q ds l { I with gh:=some ⟨r,cap,[]⟩ } M'):Run (ρ:=ρ) P N c Q ds l I M:=by
  subst hM;intro a w hS hD hW b k cs hb;refine Host.give (P:=P) (σ:=w) (q:=0) (tm:=tm) (cap:=cap) (r:=r) (hW.gh.trans hg) (hW.mem _ _ (List.mem_cons_self ..)) (by rw [hW.pub];exact hW.own _ _ (List.mem_cons_self ..)) (next a (w.give r cap) hS hD ⟨hW.os,hW.tape,hW.output,hW.pub,rfl,fun b' o hb'=>?_,fun b' o hm=>?_,fun b' o hm=>hW.own _ _ (List.mem_cons_of_mem _ hm),(List.nodup_cons.1 hW.nodup).2,fun b' o hm=>hW.disj _ _ (List.mem_cons_of_mem _ hm)⟩ b k cs hb)
  · have h1:=hW.disj _ _ (List.mem_cons_self ..)
    show (if b'=r then none else w.blk b')=some o;rw [if_neg (fun e=>by rw [e,h1] at hb';cases hb')];exact hW.imm _ _ hb'
  · have h1:=(List.nodup_cons.1 hW.nodup).1
    show (if b'=r then none else w.blk b')=some o;rw [if_neg (fun e=>h1 (by rw [← e];exact List.mem_map.2 ⟨_,hm,rfl⟩))];exact hW.mem _ _ (List.mem_cons_of_mem _ hm)
theorem run_take [Host P] {h : Gh} {F : Seg} {I0 : Imm} (hg : I.gh = some h) (ho : h.outs = []) (h0 : I0.gh = none) (hp : I0.pub = fun _ => False) (hos : I.os = I0.os) (htp : I.tape = I0.tape) (hout : I.output = I0.output)
    (hF:∀ b o,(b,o)∈F→I.blk b=some o∧I0.blk b=none) (hFn:(F.map Prod.fst).Nodup) (hI0:∀ b o,I0.blk b=some o→I.blk b=some o)
    (next:∀ q tm J,I0.le J→(∀ b o,I.blk b=some o→b≠h.r→(∀ o',(b,o')∉F)→J.blk b=some o)→Run (ρ:=ρ) P N c Q ds l J ((h.r,.chan h.cap #[] false q q tm)::(M++F))):Run (ρ:=ρ) P N c Q ds l I M:=by
  intro a w hS hD hW b k cs hb;refine Host.take (P:=P) (hW.gh.trans hg) ho fun q tm hfree=>?_
  have hr0:I0.blk h.r=none:=by
    cases hx:I0.blk h.r with
    | none=>rfl
    | some o=>rw [hW.imm _ _ (hI0 _ _ hx)] at hfree;cases hfree
  have hrF:∀ o,(h.r,o)∉F:=fun o hm=>by rw [hW.imm _ _ (hF _ _ hm).1] at hfree;cases hfree
  have hrM:∀ o,(h.r,o)∉M:=fun o hm=>by rw [hW.mem _ _ hm] at hfree;cases hfree
  let J:Imm:={ I0 with blk:=fun b=>if b=h.r∨b∈F.map Prod.fst then none else I.blk b }
  have hnF:∀ b o,I0.blk b=some o→¬ (b=h.r∨b∈F.map Prod.fst):=fun b o hb hh=>by
    rcases hh with rfl | hh
    · rw [hr0] at hb;cases hb
    · obtain ⟨⟨b',o'⟩,hm,rfl⟩:=List.mem_map.1 hh
      rw [(hF _ _ hm).2] at hb;cases hb
  refine next q tm J ⟨rfl,rfl,rfl,rfl,rfl,fun b o hb=>?_⟩ (fun b o hb hne hnf=>?_) a (w.take h q tm) hS hD ⟨?_,?_,?_,hp.symm,h0.symm,fun b o hb=>?_,fun b o hm=>?_,fun b o hm=>by show ¬ I0.pub b;rw [hp];exact id,?_,fun b o hm=>?_⟩ b k cs hb
  · show (if _ then none else I.blk b)=some o
    rw [if_neg (hnF b o hb)];exact hI0 b o hb
  · show (if _ then none else I.blk b)=some o
    rw [if_neg]
    · exact hb
    · rintro (e | hh)
      · exact hne e
      · obtain ⟨⟨b',o'⟩,hm,rfl⟩:=List.mem_map.1 hh
        exact hnf _ hm
  · exact hW.os.trans hos
  · exact hW.tape.trans htp
  · exact hW.output.trans hout
  · have hb':(if b=h.r∨b∈F.map Prod.fst then none else I.blk b)=some o:=hb
    split at hb'
    · cases hb'
    · rename_i hne
      show (if b=h.r then _ else w.blk b)=some o;rw [if_neg fun e=>hne (.inl e)];exact hW.imm _ _ hb'
  · show (if b=h.r then _ else w.blk b)=some o
    rcases List.mem_cons.1 hm with e | hm
    · cases e;rw [if_pos rfl]
    · have : b ≠ h.r := fun e => by
        subst e;rcases List.mem_append.1 hm with hm | hm
        · exact hrM _ hm
        · exact hrF _ hm
      rw [if_neg this];rcases List.mem_append.1 hm with hm | hm
      · exact hW.mem _ _ hm
      · exact hW.imm _ _ (hF _ _ hm).1
  · show (h.r::(M++F).map Prod.fst).Nodup
    rw [List.nodup_cons,List.map_append,List.nodup_append];refine ⟨fun hm=>?_,hW.nodup,hFn,fun x hx y hy e=>?_⟩
    · rcases List.mem_append.1 hm with hm | hm
      · obtain ⟨⟨b',o'⟩,hm,e⟩:=List.mem_map.1 hm
        simp only at e;subst e;exact hrM _ hm
      · obtain ⟨⟨b',o'⟩,hm,e⟩:=List.mem_map.1 hm
        simp only at e;subst e;exact hrF _ hm
    · subst e
      obtain ⟨⟨b1,o1⟩,h1,rfl⟩:=List.mem_map.1 hx;obtain ⟨⟨b2,o2⟩,h2,e2⟩:=List.mem_map.1 hy;simp only at e2;subst e2;have:=hW.disj _ _ h1;rw [(hF _ _ h2).1] at this;cases this
  · show (if b=h.r∨b∈F.map Prod.fst then none else I.blk b)=none
    rcases List.mem_cons.1 hm with e | hm
    · cases e;rw [if_pos (.inl rfl)]
    · rcases List.mem_append.1 hm with hm | hm
      · split
        · rfl
        · exact hW.disj _ _ hm
      · rw [if_pos (.inr (List.mem_map.2 ⟨_,hm,rfl⟩))]
theorem stp_close {M0 : Seg} {r cap s q : Nat} {tm : Bool} {buf : Array Value} {x : Operand} {tys : Array TypeId} {dst : Option Tmp} (hop : EL ops N i = some (dst, .call { callee := .builtin .close, args := #[x], argTypes := tys }, ty, gd)) (hg : EK ops l gd = some true)
    (hx:BK l x=some (.chan (some r))) (hM:M.Perm ((r,.chan cap buf false s q tm)::M0)) (next:K (ups dst (.tuple #[]) l) I M0):Stp P N ops i l I M K:=by
  refine ND (vals:=[.chan (some r)]) hop hg (JX hx) (by simp [AU hx]) hM fun cs=>?_
  show wpL P (Builtin.close_ tys ty #[.chan (some r)] >>= fun x=>pure (Next.value x)) _ I _;refine CB ?_;unfold Builtin.close_;show wpL P (Sem.getObj r _) _ I _;refine ⟨.chan cap buf false s q tm,.inl (List.mem_cons_self ..),rfl,?_⟩;show wpL P (Sem.setObj r _ _) _ I _;refine FC 0 rfl rfl rfl ?_;exact ⟨_,M0,.inl rfl,List.sublist_cons_self ..,next⟩
theorem stp_makeChan {x : Operand} {T el bs n : Nat} (hop : EL ops N i = some (some d, .makeChan T x, ty, gd)) (hg : EK ops l gd = some true) (hT : tyChan P T = some el) (hb : JD P el = some bs) (hbs : bs ≤ 256)
    (hx:BK l x=some (.int .i64 (n:Int))) (hn:n≤1000) (next:∀ b,K ((d,.chan (some b))::l) I ((b,Obj.chan n #[] false 0 0 false)::M)):Stp P N ops i l I M K:=by
  obtain ⟨dir,hu⟩:∃ dir,P.underlying T=some (.chan dir el):=by
    unfold tyChan at hT
    split at hT
    · cases hT;exact ⟨_,by assumption⟩
    · cases hT
  obtain ⟨inf,hi,hby⟩:∃ inf,P.info? el=some inf∧inf.bytes=bs:=by
    unfold JD at hb;cases hi:P.info? el with
    | none=>rw [hi] at hb;cases hb
    | some inf=>rw [hi] at hb;exact ⟨inf,rfl,by simpa using hb⟩
  refine CI hop hg (JX hx) ?_;show wpL P (Instr.makeChan T (rho l x) >>= fun x=>pure (Next.value x)) _ I M;refine CB ?_;rw [AU hx];unfold Instr.makeChan;show wpL P (underlying T >>= _) _ I M;rw [AD,AJ hu];show wpL P (typeInfo el >>= _) _ I M;rw [AD,CF hi];have h1:(inf.bytes:Int)*(n:Int)≤((256*1000:Nat):Int):=by
    rw [← Int.natCast_mul];exact Int.ofNat_le.2 (Nat.mul_le_mul (by omega) hn)
  have h2:¬ ((n:Int)<0∨(n:Int)>IntKind.i64.max∨(inf.bytes:Int)*(n:Int)>2 ^ 48-112):=by
    rintro (h | h | h)
    · omega
    · have:IntKind.i64.max=9223372036854775807:=by decide
      omega
    · omega
  rw [if_neg h2];intro b;exact ⟨_,.inl rfl,next b⟩
end
end Go.Sl
