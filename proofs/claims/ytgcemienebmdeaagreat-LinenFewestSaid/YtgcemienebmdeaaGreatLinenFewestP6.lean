/- A part of the proof of the laws of this seat. -/
import Derived.Test.YtgcemienebmdeaaGreatP2
import Derived.Test.YtgcemienebmdeaaGreatP4
import Derived.Test.YtgcemienebmdeaaGreatP3
import Derived.Test.YtgcemienebmdeaaGreatP1
import Derived.Test.YtgcemienebmdeaaGreatP5
set_option linter.unusedVariables false
set_option linter.unusedSimpArgs false
namespace Go.Sh
open Go Go.Sl
def ER (p:Sh.Event→Bool) (l:List Sh.Event):List Int:=(l.filter p).map fun e=>e.slip.num
section
variable {p:Sh.Event→Bool} {l:List Sh.Event} {x:Sh.Event}
theorem numsP_t (h:p x=true):ER p l++[x.slip.num]=ER p (l++[x]):=by unfold ER;rw [List.filter_append,List.map_append];simp [h]
theorem numsP_f (h:p x=false):ER p l=ER p (l++[x]):=by unfold ER;rw [List.filter_append,List.map_append];simp [h]
theorem numsP_len:(ER p l).length≤l.length:=by unfold ER;rw [List.length_map];exact List.length_filter_le _ _
end
def HJ (L:Lin):List Int × Int:=if AR L≠0 then ([],AR L) else (ER (fun x=>x.below) (BR L),0)
def orderE (L:Lin):List Int × Int:=if AR L≠0 then ([],AR L) else (ER (fun _=>true) (BR L),0)
section
variable {L:Lin}
theorem belowE_1 (h:AR L≠0):HJ L=([],AR L):=if_pos h
theorem OQ (h:AR L=0):HJ L=(ER (fun x=>x.below) (BR L),0):=if_neg (fun x=>x h)
theorem orderE_2 (h:AR L=0):orderE L=(ER (fun _=>true) (BR L),0):=if_neg (fun x=>x h)
end
end Go.Sh
namespace Go.Proofs.YtgcemienebmdeaaGreat
open Go Go.Sl Go.Sh
set_option maxRecDepth 100000
noncomputable def LG (p:List Nat):Code:=sub (AN Tryz.f71) p
theorem numbersOf_ct (I:Imm) (l:Value) (L:Lin) (fq_id:FuncId) (fq_cv:List Value) (pq:Sh.Event→Bool) (l_f:IsLin I l L) (fq_c:CQ Tryz.prog fq_id=true) (fq_h:∀ J,I.le J→∀ x:Sh.Event,CtV Tryz.prog fq_id (.agg #[vI x.slip.num,vI x.slip.hour,vI x.slip.kind,vI x.slip.place,vI x.slip.to,vI x.slip.sort,.bool x.slip.soil,vI x.slip.amt,vI x.gap,.bool x.below]::fq_cv).toArray J (.bool (pq x))) (hg:GoodL L):Ct Tryz.prog 71 #[l,.func (.func fq_id) #[] fq_cv.toArray] I ([]) (fun v I' M'=>∃ u:Value,∃ Ms:Seg,v=u∧M'=Ms∧Own 3 1 AJ u (ER pq (BR L)) Ms):=by
 obtain ⟨l1,l2,l3,k7,c3,c4,c5⟩:=id l_f;subst k7;obtain ⟨a3,a4,j1,j4,i7,h7,j2,j3,j5,j6⟩:=id c3;subst h7;obtain ⟨a5,a6,j7,k0,h8,j8,j9,k1⟩:=id c4;subst h8;obtain ⟨a7,a8,k2,k5,h9,k3,k4,k6⟩:=id c5;subst h9;refine HF (fn:=Tryz.f71) (args:=[_,_]) (N:=21) Tryz.func71 rfl (by kernel_rfl) (Nat.le_of_ble_eq_true rfl) (fun F=>?_);show Run _ _ (LG []) _ _ [(0,.agg #[vI (L.places),vI (L.sorts),vS a3 L.start.length a4,vS a5 L.keeps.length a6,vS a7 L.slips.length a8]),(1,.func (.func fq_id) #[] fq_cv.toArray)] _ _;refine rnm (rqr ?_);refine sS (sb 2 26 #[vI (L.places),vI (L.sorts),vS a3 L.start.length a4,vS a5 L.keeps.length a6,vS a7 L.slips.length a8] (fun b1=>(sS (sb 3 105 #[.func (.func fq_id) #[] fq_cv.toArray] (fun b3=>(sp 1 [(4,vN)] (sn (sS (sal 5 29 #[vN] (fun b5=>(se (rq (rq ?_)))))))))))));refine GH (b:=b3) (o:=Obj.cells #[.func (.func fq_id) #[] fq_cv.toArray] 105 (0,0)) (M0:=((bX b5 #[vN] 29)::(bX b1 #[vI (L.places),vI (L.sorts),vS a3 L.start.length a4,vS a5 L.keeps.length a6,vS a7 L.slips.length a8] 26)::F)) (PS _ _ _) (fun I7 b8 c2=>?_);replace c3:=c3.mono b8;replace c4:=c4.mono b8;replace c5:=c5.mono b8;replace fq_h:=MJ b8 fq_h;have m3:=hg.slips;refine rr (sd (dnb 7 1 0 b1 [vI (L.places),vI (L.sorts),vS a3 L.start.length a4,vS a5 L.keeps.length a6,vS a7 L.slips.length a8]) (sS (sc (some 8) (open_ct _ _ (L) (FA c3 c4 c5) :) (.refl _) (fun l5 m0 l0 b7 h5=>?_))));obtain ⟨i8,l7,l8,l9,d5,h0,g9,e2,d9,i1,i2⟩:=h5;rw [e2,d9];clear e2 d9;replace fq_h:=MJ b7 fq_h;replace c2:=b7.blk _ _ c2;have b0:=i1;obtain ⟨a2,c9,d1,d3⟩:=id b0;obtain ⟨e7,e9,e8,f2,e4,c8,f0,f1,f3,f4⟩:=id c9;subst c8;obtain ⟨f5,f7,f6,g0,d0,f8,f9,g1⟩:=id d1;subst d0;obtain ⟨g2,g4,g3,g7,d2,g5,g6,g8⟩:=id d3;subst d2;refine nm ?_;refine sS (sc (some 9) (JX _ (i8) :) (.refl _) (fun l6 m1 l4 a9 h6=>?_));obtain ⟨d6,d7,k8,i6,i5,e3,e0,b9,c0,c1,i3⟩:=h6;rw [e3,e0];clear e3 e0;replace fq_h:=MJ a9 fq_h;replace c2:=a9.blk _ _ c2;replace b0:=b0.mono a9;replace a2:=a9.blk _ _ a2;refine nm (se (rb 0 ?_))
 refine FO (α:=Sh.Event) (g:=(.tmp 9)) (ps:=#[10]) (assign:=LG [1,1,0,1,0,0]) (body:=LG [1,1,0,1,0,1]) (gf:=123) (cv:=[vP d6 0,vP d7 0]) (enc:=encEv) (seq:=(evs ((ET L)) (AD AC L.slips))) (R:=fun xs _ M=>EvR d5 ((ET L)) (AD AC L.slips) xs.length M) (Mr:=[(d5,Obj.map h0 g9)]) (M0:=((bX b5 #[vN] 29)::[])) (F0:=((bX b1 #[vI (L.places),vI (L.sorts),vS a3 L.start.length a4,vS a5 L.keeps.length a6,vS a7 L.slips.length a8] 26)::F))
  (fun xs I M=>∃ v Ms,M=(bX b5 #[v] 29)::Ms∧Own 3 1 AJ v (ER pq xs) Ms) (fun _ _ _ _=>False) (fun x k=>[(3,vP b3 0),(4,vN),(5,vP b5 0),(6,vP k 0)]) (fun x k=>[(bX k #[vI (x.slip.num),vI (x.slip.hour),vI (x.slip.kind),vI (x.slip.place),vI (x.slip.to),vI (x.slip.sort),.bool (x.slip.soil),vI (x.slip.amt),vI (x.gap),.bool (x.below)] 102)])
  (by kernel_rfl) rfl (by kernel_rfl) (fun _=>rfl) (by kernel_rfl) (GS _ i8 d6 d7 k8 d5 _ _ _ _ _ L ((ET L)) b0 b9 c0 c1 i3 hg.goodS hg.within) (fun xs I J M _ h=>h) (PR _) ⟨_,_,rfl,i2⟩ ⟨_,[],rfl,Own.nil _ _ _⟩ ?_ ?_ ?_ ?_
 ·intro Lq x I1 M1;refine NQ (l':=[(3,vP b3 0),(4,vN),(5,vP b5 0),(10,.agg #[vI (x.slip.num),vI (x.slip.hour),vI (x.slip.kind),vI (x.slip.place),vI (x.slip.to),vI (x.slip.sort),.bool (x.slip.soil),vI (x.slip.amt),vI (x.gap),.bool (x.below)])]) (.cons 3 rfl (.cons 4 rfl (.cons 5 rfl (.cons 10 rfl (.nil _))))) (rr (sS (sal 6 102 #[vI (0),vI (0),vI (0),vI (0),vI (0),vI (0),.bool (false),vI (0),vI (0),.bool (false)] (fun i4=>(sS (ss 0 0 i4 [vI (x.slip.num),vI (x.slip.hour),vI (x.slip.kind),vI (x.slip.place),vI (x.slip.to),vI (x.slip.sort),.bool (x.slip.soil),vI (x.slip.amt),vI (x.gap),.bool (x.below)] [vI (x.slip.num),vI (x.slip.hour),vI (x.slip.kind),vI (x.slip.place),vI (x.slip.to),vI (x.slip.sort),.bool (x.slip.soil),vI (x.slip.amt),vI (x.gap),.bool (x.below)] (_::_) (cs:=[_,_,_,_,_,_,_,_,_,_]) rfl rfl (ee ?_)))))));exact AP (fun a w hS hD hW=>⟨i4,hS.sub (.cons 3 rfl (.cons 4 rfl (.cons 5 rfl (.cons 6 rfl (.nil _))))),hD,hW⟩)
 ·intro Lq x k xs I1 Mr1 M1 F1 hpre hle1 hR1 hC1;replace fq_h:=MJ hle1 fq_h;replace c2:=hle1.blk _ _ c2;replace a2:=hle1.blk _ _ a2;replace b9:=hle1.blk _ _ b9;replace c0:=hle1.blk _ _ c0;replace c1:=hle1.blk _ _ c1;obtain ⟨i9,b4,rfl,b2⟩:=hC1;obtain ⟨a0,a1,b6,d8⟩:=b2.shape;subst b6;have m4:(ER pq xs).length+1≤1000:=by have h1:=hpre.length_le;have h2:=numsP_len (p:=pq) (l:=xs);have h3:=GA (L:=L);unfold BR at h3;rw [h3] at h1;simp only [LA,LC,LN] at h1;omega
  refine GI (M':=((bX k #[vI (x.slip.num),vI (x.slip.hour),vI (x.slip.kind),vI (x.slip.place),vI (x.slip.to),vI (x.slip.sort),.bool (x.slip.soil),vI (x.slip.amt),vI (x.gap),.bool (x.below)] 102)::(Mr1++(bX b5 #[vS a0 (ER pq xs).length a1] 29)::(b4++F1)))) (fun w h=>by simpa only [AA,CA,NA] using h) ?_;refine rpm (M':=((bX k #[vI (x.slip.num),vI (x.slip.hour),vI (x.slip.kind),vI (x.slip.place),vI (x.slip.to),vI (x.slip.sort),.bool (x.slip.soil),vI (x.slip.amt),vI (x.gap),.bool (x.below)] 102)::(bX b5 #[vS a0 (ER pq xs).length a1] 29)::(Mr1++(b4++F1)))) (PC _ PM) (rb 1 (rqr (sd (AY (v:=.func (.func fq_id) #[] fq_cv.toArray) (x:=(.tmp 3)) (T:=105) (d:=11) (ty:=105) (gd:=none) (by kernel_rfl) rfl (by kernel_rfl) rfl (AS c2 rfl)) (sd (dnb 12 0 0 k [vI (x.slip.num),vI (x.slip.hour),vI (x.slip.kind),vI (x.slip.place),vI (x.slip.to),vI (x.slip.sort),.bool (x.slip.soil),vI (x.slip.amt),vI (x.gap),.bool (x.below)]) (sd (LY (f:=(.tmp 11)) (fid:=fq_id) (args:=#[(.tmp 12)]) (tys:=#[102]) (cv:=fq_cv) (v:=.bool (pq x)) (d:=13) (ty:=4) (gd:=none) (by kernel_rfl) rfl rfl rfl fq_c rfl (fun I' hI=>fq_h I' hI x)) (se (rc 13 rfl (fun h1=>?_) (fun h1=>?_))))))))
  ·
   have h4:=h1;refine rr (sd (dlb 14 1 0 b5 (vS a0 (ER pq xs).length a1)) (sp 2 [(16,vP k 0),(15,vP k 0)] (sd (dlb 17 0 0 k (vI (x.slip.num))) (sS (sbs 18 3 1 #[vI (x.slip.num)] (fun m2=>(sS (AZ (d:=19) (x:=(.tmp 14)) (y:=(.tmp 18)) (T:=29) (T':=29) (E:=3) (E':=3) (sz:=1) (bs:=8) (z:=vI (0)) (cell:=AJ) (xs:=ER pq xs) (ys:=[(x.slip.num:Int)]) (Ms:=b4) (ty:=29) (gd:=none) (by kernel_rfl) rfl (by kernel_rfl) (by kernel_rfl) (by kernel_rfl) (by kernel_rfl) (by kernel_rfl) (by decide) (by kernel_rfl) rfl rfl (b2) (PU (PU (PU (PO _ _ _)))) (CW _) (DL 0 rfl rfl) (by first | omega | (simp only [LC,LN,LA,LK,LD];omega)) (fun m5 d4 e1=>(AW (M':=((bX k #[vI (x.slip.num),vI (x.slip.hour),vI (x.slip.kind),vI (x.slip.place),vI (x.slip.to),vI (x.slip.sort),.bool (x.slip.soil),vI (x.slip.amt),vI (x.gap),.bool (x.below)] 102)::(bX b5 #[vS a0 (ER pq xs).length a1] 29)::(d4++(Mr1++F1)))) (fun w h=>(h.perm (PW (PW PM))).sub (TC _ (TR _))) ?_))))))))));obtain ⟨c6,c7,i0,k9⟩:=e1.shape;subst i0;refine sS (ss 1 0 b5 [vS c6 ((ER pq xs)++([(x.slip.num:Int)])).length c7] [vS c6 ((ER pq xs)++([(x.slip.num:Int)])).length c7] (_::_::_) (cs:=[_]) rfl rfl (ee (NB (ppm (M':=((bX k #[vI (x.slip.num),vI (x.slip.hour),vI (x.slip.kind),vI (x.slip.place),vI (x.slip.to),vI (x.slip.sort),.bool (x.slip.soil),vI (x.slip.amt),vI (x.gap),.bool (x.below)] 102)::(Mr1++(bX b5 #[vS c6 ((ER pq xs)++([(x.slip.num:Int)])).length c7] 29)::(d4++F1)))) (PC _ (PU (PO _ _ _))) ?_))));refine FN (M':=(Mr1++((bX b5 #[vS c6 ((ER pq xs)++([(x.slip.num:Int)])).length c7] 29)::d4))) (IR _) ?_ (by simp only [AA,NA,CA];exact (TC _ (TR _)));exact ⟨Mr1,_,rfl,hR1,⟨_,_,rfl,numsP_t h1▸e1⟩⟩
  have h4:=h1;refine AO (NB (ppm (M':=((bX k #[vI (x.slip.num),vI (x.slip.hour),vI (x.slip.kind),vI (x.slip.place),vI (x.slip.to),vI (x.slip.sort),.bool (x.slip.soil),vI (x.slip.amt),vI (x.gap),.bool (x.below)] 102)::(Mr1++(bX b5 #[vS a0 (ER pq xs).length a1] 29)::(b4++F1)))) (PC _ (PM.symm)) ?_));refine FN (M':=(Mr1++((bX b5 #[vS a0 (ER pq xs).length a1] 29)::b4))) (IR _) ?_ (by simp only [AA,NA,CA];exact (TC _ (TR _)));exact ⟨Mr1,_,rfl,hR1,⟨_,_,rfl,numsP_f h1▸b2⟩⟩
 ·intro D I2 Mr2 M2 hle2 hR2 hC2;replace fq_h:=MJ hle2 fq_h;replace c2:=hle2.blk _ _ c2;replace a2:=hle2.blk _ _ a2;replace b9:=hle2.blk _ _ b9;replace c0:=hle2.blk _ _ c0;replace c1:=hle2.blk _ _ c1;obtain ⟨e6,e5,rfl,j0⟩:=EvR.full hR2 FU;obtain ⟨i9,b4,rfl,b2⟩:=hC2;obtain ⟨a0,a1,b6,d8⟩:=b2.shape;subst b6;refine JK (M':=((D,Obj.deferred (some []))::(d5,Obj.map e6 e5)::(bX b5 #[vS a0 (ER pq (evs (ET L) (AD AC L.slips))).length a1] 29)::(b4++(bX b1 #[vI (L.places),vI (L.sorts),vS a3 L.start.length a4,vS a5 L.keeps.length a6,vS a7 L.slips.length a8] 26)::F))) (fun w h=>by simpa only [AA,CA,NA] using h) (ppm (M':=((D,Obj.deferred (some []))::(d5,Obj.map e6 e5)::(bX b5 #[vS a0 (ER pq (evs (ET L) (AD AC L.slips))).length a1] 29)::(bX b1 #[vI (L.places),vI (L.sorts),vS a3 L.start.length a4,vS a5 L.keeps.length a6,vS a7 L.slips.length a8] 26)::(b4++F))) (PC _ (PC _ (PC _ PM))) (NB (NX (rqr (sd (dlb 20 2 0 b5 (vS a0 (ER pq (evs (ET L) (AD AC L.slips))).length a1)) (sp 1 [(4,vS a0 (ER pq (evs (ET L) (AD AC L.slips))).length a1)] (se (BL ?_))))))));refine EH (R:=((d5,Obj.map e6 e5)::(bX b5 #[vS a0 (ER pq (evs (ET L) (AD AC L.slips))).length a1] 29)::(bX b1 #[vI (L.places),vI (L.sorts),vS a3 L.start.length a4,vS a5 L.keeps.length a6,vS a7 L.slips.length a8] 26)::(b4++F))) [D] (.inl rfl) (PR _) (ppm (M':=((b4++(d5,Obj.map e6 e5)::(bX b5 #[vS a0 (ER pq (evs (ET L) (AD AC L.slips))).length a1] 29)::(bX b1 #[vI (L.places),vI (L.sorts),vS a3 L.start.length a4,vS a5 L.keeps.length a6,vS a7 L.slips.length a8] 26)::F))) (PU (PU (PM.symm))) (AH (t:=4) (b4) (by kernel_rfl) rfl (TA (TC _ (TC _ (TC _ (TR _)))) _) (IT (IT (IT b8 b7) a9) hle2) ?_));exact ⟨_,_,rfl,rfl,b2⟩
 intro D c xs I2 M2 hle2 hS2;exact hS2.elim
noncomputable def c_Below1 (p:List Nat):Code:=sub (AN Tryz.f72) p
theorem Below1_ct (I:Imm) (x:Sh.Event):CtV Tryz.prog 72 #[.agg #[vI x.slip.num,vI x.slip.hour,vI x.slip.kind,vI x.slip.place,vI x.slip.to,vI x.slip.sort,.bool x.slip.soil,vI x.slip.amt,vI x.gap,.bool x.below]] I (.bool (x.below)):=by
 refine fr (args:=[_]) (N:=5) Tryz.func72 (fun F=>?_);show Run _ _ (c_Below1 []) _ _ [(0,.agg #[vI (x.slip.num),vI (x.slip.hour),vI (x.slip.kind),vI (x.slip.place),vI (x.slip.to),vI (x.slip.sort),.bool (x.slip.soil),vI (x.slip.amt),vI (x.gap),.bool (x.below)])] _ _;refine rnm (rqr ?_);refine sS (sb 1 102 #[vI (x.slip.num),vI (x.slip.hour),vI (x.slip.kind),vI (x.slip.place),vI (x.slip.to),vI (x.slip.sort),.bool (x.slip.soil),vI (x.slip.amt),vI (x.gap),.bool (x.below)] (fun b1=>(sp 1 [(2,.bool (false))] (sn (sp 1 [(3,vP b1 9)] (sd (dlb 4 0 9 b1 (.bool (x.below))) (sp 1 [(2,.bool (x.below))] (se (BL (AH (t:=2) [] (by kernel_rfl) rfl (TC _ (TR _)) (IR _) ?_))))))))));exact ⟨rfl,rfl⟩
noncomputable def c_Below (p:List Nat):Code:=sub (AN Tryz.f24) p
theorem Below_ct (I:Imm) (l:Value) (L:Lin) (l_f:IsLin I l L):Ct Tryz.prog 24 #[l] I ([]) (fun v I' M'=>∃ u0:Value,∃ Ms0:Seg,v=.tuple #[u0,vI ((HJ L).2)]∧M'=Ms0∧Own 3 1 AJ u0 ((HJ L).1) Ms0):=by
 obtain ⟨l1,l2,l3,e0,a6,a7,a8⟩:=id l_f;subst e0;obtain ⟨a0,a1,c4,c7,c2,b4,c5,c6,c8,c9⟩:=id a6;subst b4;obtain ⟨a2,a3,d0,d3,b5,d1,d2,d4⟩:=id a7;subst b5;obtain ⟨a4,a5,d5,d8,b6,d6,d7,d9⟩:=id a8;subst b6;refine fr (args:=[_]) (N:=12) Tryz.func24 (fun F=>?_);show Run _ _ (c_Below []) _ _ [(0,.agg #[vI (L.places),vI (L.sorts),vS a0 L.start.length a1,vS a2 L.keeps.length a3,vS a4 L.slips.length a5])] _ _;refine rnm (rqr ?_);refine sS (sb 1 26 #[vI (L.places),vI (L.sorts),vS a0 L.start.length a1,vS a2 L.keeps.length a3,vS a4 L.slips.length a5] (fun b1=>(sp 2 [(3,vI (0)),(2,vN)] (se (rq (rqr (sd (dnb 5 0 0 b1 [vI (L.places),vI (L.sorts),vS a0 L.start.length a1,vS a2 L.keeps.length a3,vS a4 L.slips.length a5]) (sd (dc 6 (fun I' hI=>(IW I' _ (L) ((FA a6 a7 a8).mono hI) :))) (sp 1 [(4,vI ((AR L)))] (sn (sp 2 [(8,.bool (!(cmp .eql ((AR L)) (0))))] (se (rc 8 rfl (fun h1=>?_) (fun h1=>?_))))))))))))))
 ·
  have b2:=h1;have h1:=BW (CY h1);refine rqr (sp 3 [(3,vI ((AR L))),(2,vN)] (se (BL ((RP ?_)))));have hE:=belowE_1 (L:=L) h1;refine CS (t:=2) (u:=3) ([]) (by kernel_rfl) rfl rfl (TC _ (TR _)) (IR _) ?_;exact ⟨_,_,(by rw [hE]),rfl,((show []=(HJ L).1 from by rw [hE])▸Own.nil _ _ _)⟩
 have b2:=h1;have h1:=CC (CX h1);refine AO (NX (rq ?_));have hz:AR L=0:=by omega
 have hg:=KT hz;refine rr (sd (dnb 10 0 0 b1 [vI (L.places),vI (L.sorts),vS a0 L.start.length a1,vS a2 L.keeps.length a3,vS a4 L.slips.length a5]) (sS (sc (some 11) (numbersOf_ct _ _ (L) 72 ([]) (fun x:Sh.Event=>x.below) (FA a6 a7 a8) (by kernel_rfl) (fun J hJ x=>Below1_ct J x) (by assumption) :) (.refl _) (fun e2 I3 e1 b3 c3=>?_))));obtain ⟨u8,b0,c1,c0,a9⟩:=c3;rw [c1,c0];clear c1 c0;obtain ⟨b7,b8,b9,e3⟩:=a9.shape;subst b9;refine pm (M':=((bX b1 #[vI (L.places),vI (L.sorts),vS a0 L.start.length a1,vS a2 L.keeps.length a3,vS a4 L.slips.length a5] 26)::(b0++F))) PM (sp 2 [(3,vI (0)),(2,vS b7 (ER (fun x:Sh.Event=>x.below) (BR L)).length b8)] (se (BL ?_)));have hE:=OQ (L:=L) hz;refine ppm (M':=((b0++(bX b1 #[vI (L.places),vI (L.sorts),vS a0 L.start.length a1,vS a2 L.keeps.length a3,vS a4 L.slips.length a5] 26)::F))) (PM.symm) (CS (t:=2) (u:=3) (b0) (by kernel_rfl) rfl rfl (TA (TC _ (TR _)) _) b3 ?_);exact ⟨_,_,(by rw [hE]),rfl,((show ER _ (BR L)=(HJ L).1 from by rw [hE])▸a9)⟩
end Go.Proofs.YtgcemienebmdeaaGreat
namespace Go.Sh
open Go Go.Sl
section
variable {so:Int} {H H':Hs} {k:HKey} {v d:Int}
end
section
variable {L:Lin} {so hour:Int}
end
theorem inB_of {n lo hi:Int} (h:lo≤n∧n≤hi):¬ inB n lo hi=false:=by simp [inB,h.1,h.2]
theorem GB {L:Lin} (g:GoodL L):AR L=0:=by
  have h1:CT L=0:=by
    unfold CT;rw [if_neg (fun h=>h g.start),if_neg,if_neg]
    · rw [List.all_eq_true.2 (fun n hn => by
        obtain ⟨r,hr,hn⟩:=List.mem_flatten.1 hn
        simpa using inB_of (g.nums r hr n hn))];decide
    · rw [List.all_eq_true.2 (fun r hr=>decide_eq_true (g.rows r hr))];decide
  have h2:DO L=0:=by unfold DO;rw [if_neg (by have:=g.keeps;omega)];exact firstE_zero.2 g.keep
  unfold AR;rw [if_neg (inB_of g.places),if_neg (inB_of g.sorts),h1,h2,if_neg (fun h=>h rfl),if_neg (fun h=>h rfl),if_neg (by have:=g.slips;omega)];exact firstE_zero.2 g.slip
theorem gaps_fst {L:Lin} (g:GoodL L):(HB L).1=CJ (BR L):=by rw [gapsE_2 (GB g)]
section
variable {L:Lin} {G:List Gap} {so n X:Int} {i m k:Nat} {s:Slip}
end
section
variable {p kh to f h:Int} {ks:List Keep} {k:Nat}
end
section
variable {L:Lin} (g:GoodL L)
include g
omit g
theorem strictZ {l:List Int}:Strict cmpZ l:=⟨fun a _ b _ h=>by unfold cmpZ;omega,fun a _=>by unfold cmpZ;omega,fun a _ b _ d _ h1 h2=>by unfold cmpZ at *;omega⟩
theorem NE {l:List Int} (h:Asc' cmpZ l):l.Nodup:=h.imp fun hab e=>by subst e;unfold cmpZ at hab;omega
section
variable {i:Nat} (g:GoodL L) (hi:i<(AD AC L.slips).length)
include g hi
end
end
section
variable {L:Lin} {p who frm to:Int} {ks:List Keep} {k:Keep} {i m:Nat}
end
section
variable {L:Lin} {G:List Gap} {n:Int} {i k m:Nat}
variable (g:GoodL L) (hi:i<(sortS L.slips).length)
include g hi
end
section
variable {A:List Slip} {s:Slip} {k:Nat}
end
abbrev Ods:=List (Debt × Int)
def getO (k:Debt):Ods→Int
  | []=>0
  | x::r=>if x.1=k then x.2 else getO k r
def putO (k:Debt) (v:Int):Ods→Ods
  | []=>[(k,v)]
  | x::r=>if x.1=k then (k,v)::r else x::putO k v r
def okCells (k:Debt):Array Value:=#[.int .i64 k.who,.int .i64 k.sort,.int .i64 k.amt]
def encO (k:Debt):Value:=.agg (okCells k)
def intO (h:Ods):List (Debt × Value):=h.map fun x=>(x.1,.int .i64 x.2)
def MapO (es:Array MapEntry) (cl:Nat) (H:Ods):Prop:=MapB encO es cl (intO H)∧(H.map Prod.fst).Nodup
theorem MapO.nil (cl:Nat):MapO #[] cl []:=⟨MapB.nil _ _,by simp⟩
theorem putO_keys (k:Debt) (v:Int):∀ H:Ods,(putO k v H).map Prod.fst=if k∈H.map Prod.fst then H.map Prod.fst else H.map Prod.fst++[k]:=by
  intro H
  induction H with
  | nil=>rfl
  | cons x r ih=>
    simp only [putO]
    by_cases h:x.1=k
    · simp [h]
    · rw [if_neg h]
      simp only [List.map_cons,ih,List.mem_cons,Ne.symm h,false_or]
      split <;> simp
end Go.Sh
namespace Go.Sl
open Go Go.Sh
section
variable {P:Program} {N:Nat} {ops:Array Oper} {i:Nat} {l:Sl} {I:Imm} {M:Seg} {ty:TypeId} {gd:Option (Nat × Bool)} {K:Sl→Imm→Seg→Prop} {d:Nat}
end
end Go.Sl
namespace Go.Sh
open Go Go.Sl
def oweK (q:EvH):Debt:=⟨q.2.getD 0 0,q.1.slip.sort,0⟩
def owesS (O:Ods) (q:EvH):Ods:=if q.1.gap<0∧q.2.length=1 then putO (oweK q) (getO (oweK q) O-q.1.gap) O else O
def owesOf (l:List EvH):Ods:=l.foldl owesS []
def mkD (q:Debt × Int):Debt:=⟨q.1.who,q.1.sort,q.2⟩
def cmpDebt (a b:Debt):Int:=if a.who≠b.who then a.who-b.who else a.sort-b.sort
def owedE (L:Lin):List Debt × Int:=if AR L≠0 then ([],AR L) else (AD cmpDebt ((owesOf (JQ L)).map mkD),0)
section
variable {L:Lin} {xs:List EvH} {x:EvH}
theorem owedE_2 (h:AR L=0):owedE L=(AD cmpDebt ((owesOf (JQ L)).map mkD),0):=if_neg (fun x=>x h)
theorem lack_len:∀ {xs:List Sh.Event} {q:Hs × List EvH},((xs.foldl (gstep L) q).2).length≤q.2.length+xs.length:=by
  intro xs
  induction xs with
  | nil=>intro q;exact Nat.le_refl _
  | cons x r ih=>
    intro q;have h1:=ih (q:=gstep L q x);have h2:(gstep L q x).2.length≤q.2.length+1:=by
      unfold gstep;split
      · omega
      · simp only;split
        · simp
        · omega
    simp only [List.foldl_cons,List.length_cons];omega
variable (g:GoodL L)
include g
theorem lack_count:(JQ L).length≤8:=by
  have h1:=lack_len (L:=L) (xs:=BR L) (q:=([],[]));have h2:=GA (L:=L);have h3:=g.slips;unfold JQ EO;simp only [List.length_nil] at h1;omega
end
section
variable {O dn td:Ods}
theorem owes_len:∀ {xs:List EvH},(owesOf xs).length≤xs.length:=by
  have aux:∀ {xs:List EvH} {O:Ods},(xs.foldl owesS O).length≤O.length+xs.length:=by
    intro xs
    induction xs with
    | nil=>intro O;exact Nat.le_refl _
    | cons q r ih=>
      intro O;have h1:=ih (O:=owesS O q);have h2:(owesS O q).length≤O.length+1:=by
        unfold owesS;split
        · have h3:=congrArg List.length (putO_keys (oweK q) (getO (oweK q) O-q.1.gap) O)
          rw [List.length_map] at h3
          split at h3
          · rw [List.length_map] at h3;omega
          · rw [List.length_append,List.length_map,List.length_singleton] at h3;omega
        · omega
      simp only [List.foldl_cons,List.length_cons];omega
  intro xs;have:=aux (xs:=xs) (O:=[]);unfold owesOf;simp only [List.length_nil] at this;omega
end
def noLin:Lin:=⟨0,0,[],[],[]⟩
def EW (L:Lin) (ns:List Int) (i:Nat):Int:=if L.slips.any (fun x=>decide (x.num=ns.getD i 0))=false then 3 else if ns.getD i 0∈ns.take i then 4 else 0
def BV (L:Lin) (ns:List Int):Lin × Int:=
  if AR L≠0 then (noLin,AR L) else if DJ (EW L ns) ns.length≠0 then (noLin,DJ (EW L ns) ns.length) else (woL L ns,0)
section
variable {L:Lin} {ns:List Int} {s:Slip} {k:Nat}
theorem strikeE_1 (h:AR L≠0):BV L ns=(noLin,AR L):=if_pos h
theorem strikeE_2 (h:AR L=0) (hz:DJ (EW L ns) k=0) (hk:k<ns.length) (h3:L.slips.any (fun x=>decide (x.num=ns.getD k 0))=false):BV L ns=(noLin,3):=by
  have e:EW L ns k=3:=if_pos h3;have e2:=KQ hz (by rw [e];decide) hk;unfold BV;rw [if_neg (fun x=>x h),e2,e,if_pos (by decide)]
theorem strikeE_3 (h:AR L=0) (hz:DJ (EW L ns) k=0) (hk:k<ns.length) (h3:L.slips.any (fun x=>decide (x.num=ns.getD k 0))=true) (h4:ns.getD k 0∈ns.take k):BV L ns=(noLin,4):=by
  have e:EW L ns k=4:=by unfold EW;rw [if_neg (by rw [h3];decide),if_pos h4]
  have e2:=KQ hz (by rw [e];decide) hk;unfold BV;rw [if_neg (fun x=>x h),e2,e,if_pos (by decide)]
theorem strikeE_4 (h:AR L=0) (hz:DJ (EW L ns) k=0) (hk:ns.length≤k):BV L ns=(woL L ns,0):=by
  have e:DJ (EW L ns) ns.length=0:=firstE_zero.2 fun j hj=>firstE_zero.1 hz j (by omega)
  unfold BV;rw [if_neg (fun x=>x h),e,if_neg (fun x=>x rfl)]
theorem strike_next (hz:DJ (EW L ns) k=0) (h3:L.slips.any (fun x=>decide (x.num=ns.getD k 0))=true) (h4:¬ ns.getD k 0∈ns.take k):DJ (EW L ns) (k+1)=0:=
  LI hz (by unfold EW;rw [if_neg (by rw [h3];decide),if_neg h4])
end
structure SameB (A B:Lin):Prop where
  places:B.places=A.places
  sorts:B.sorts=A.sorts
  start:B.start=A.start
  keeps:B.keeps=A.keeps
  slips:B.slips.Perm A.slips
theorem good_of {A:Lin} (g:GoodL A) {l:List Slip} (hl:l.length≤8) (hs:∀ s∈l,DT A s=0) (ho:Once l):GoodL ⟨A.places,A.sorts,A.start,A.keeps,l⟩:=by
  refine ⟨g.places,g.sorts,g.start,g.rows,g.nums,g.keeps,g.keep,hl,fun k hk=>?_⟩;have hm:=BA (xs:=l) (d:=AB) hk;have h1:DT ⟨A.places,A.sorts,A.start,A.keeps,l⟩ (l.getD k AB)=0:=hs _ hm;unfold CN;simp only;rw [if_neg (fun x=>x h1),if_neg];intro h;unfold hasNum at h;obtain ⟨x,hx,e⟩:=List.any_eq_true.1 h;obtain ⟨j,hj,rfl⟩:=List.mem_iff_getElem.1 hx;rw [List.length_take] at hj;have e2:=of_decide_eq_true e;rw [List.getElem_take] at e2;have e3:l.getD k AB=l[k]:=by simp [List.getD,hk]
  rw [e3] at e2;have:=(List.getElem_inj (xs:=l.map Slip.num) (i:=j) (j:=k) (h₀:=by rw [List.length_map];omega) (h₁:=by rw [List.length_map];exact hk) ho).1 (by simpa using e2);omega
section
variable {A B:Lin} (g:GoodL A) (h:SameB A B)
include g h
omit g in
theorem SameB.wo (ns:List Int):SameB (woL A ns) (woL B ns):=⟨h.places,h.sorts,h.start,h.keeps,h.slips.filter _⟩
end
section
variable {L:Lin} {o:List Int} (ho:o.Perm ((List.range L.slips.length).map fun i:Nat=>(i:Int)))
include ho
end
section
variable {L:Lin} {o:List Int} {k:Nat} (ho:o.Perm ((List.range L.slips.length).map fun i:Nat=>(i:Int)))
include ho
end
section
variable {L:Lin} (g:GoodL L)
include g
theorem lens_all {n:Int} (hn:0≤n∧n≤200):(orderE L).1.length≤8∧(GX L n).1.length≤4∧(HB L).1.length≤8∧(owedE L).1.length≤8∧(HJ L).1.length≤8:=by
  have h0:=GA (L:=L);have h8:=g.slips;refine ⟨?_,?_,?_,?_,?_⟩
  · rw [orderE_2 (GB g)];have:=numsP_len (p:=fun _=>true) (l:=BR L);simp only;omega
  · have hb:inB n 0 200=true:=by simp [inB,hn.1,hn.2]
    have h1:=g.places;have h2:=g.sorts;rw [stockE_3 (k:=L.places.toNat) (s:=L.sorts.toNat) (GB g) hb (by omega) (by omega)];simp only;rw [KZ];omega
  · rw [gaps_fst g];have:=MC (l:=BR L);omega
  · rw [owedE_2 (GB g)];simp only;rw [(EG _).length_eq,List.length_map]
    have:=owes_len (xs:=JQ L);have:=lack_count g;omega
  · rw [OQ (GB g)];have:=numsP_len (p:=fun x=>x.below) (l:=BR L);simp only;omega
end
abbrev AscI (l:List Int):Prop:=l.Pairwise (·<·)
section
variable {L:Lin} {o:List Int} (g:GoodL L) (ha:AscI o) (hr:∀ x∈o,0≤x∧x<(L.slips.length:Int))
include hr
include g ha
end
section
variable {L:Lin} {o:List Int} {k:Nat}
variable (g:GoodL L) (ha:AscI o) (hr:∀ x∈o,0≤x∧x<(L.slips.length:Int))
include g ha hr
end
def FJ (l:List Slip):Nat→List Int
  | 0=>[]
  | n+1=>if l.any (fun x=>decide (x.num=(n:Int)+1))=true then FJ l n++[(n:Int)+1] else FJ l n
section
variable {l:List Slip} {n:Nat}
theorem numsTo_t (h:l.any (fun x=>decide (x.num=(n:Int)+1))=true):FJ l n++[(n:Int)+1]=FJ l (n+1):=(if_pos h).symm
theorem numsTo_f (h:l.any (fun x=>decide (x.num=(n:Int)+1))=false):FJ l n=FJ l (n+1):=(if_neg (by rw [h];decide)).symm
theorem numsTo_len:(FJ l n).length≤n:=by
  induction n with
  | zero=>exact Nat.le_refl _
  | succ n ih => simp only [FJ]; split
                 · simp only [List.length_append,List.length_singleton];omega
                 · omega
theorem numsTo_mem {x:Int}:∀ {n:Nat},x∈FJ l n↔1≤x∧x≤n∧∃ s∈l,s.num=x:=by
  intro n
  induction n with
  | zero=>simp only [FJ];exact ⟨fun h=>(by cases h),fun h=>by omega⟩
  | succ n ih=>
    have key:(1≤x∧x≤((n+1:Nat):Int)∧∃ s∈l,s.num=x)↔(1≤x∧x≤n∧∃ s∈l,s.num=x)∨(x=(n:Int)+1∧l.any (fun y=>decide (y.num=(n:Int)+1))=true):=by
      constructor
      · rintro ⟨h1,h2,s,h3,h4⟩
        by_cases e:x=(n:Int)+1
        · exact .inr ⟨e,List.any_eq_true.2 ⟨s,h3,by simp [h4,e]⟩⟩
        · exact .inl ⟨h1,by omega,s,h3,h4⟩
      · rintro (⟨h1,h2,h3⟩ | ⟨e,h3⟩)
        · exact ⟨h1,by omega,h3⟩
        · obtain ⟨s,h4,h5⟩:=List.any_eq_true.1 h3
          exact ⟨by omega,by omega,s,h4,by rw [e];exact of_decide_eq_true h5⟩
    rw [key,← ih];simp only [FJ]
    split
    · rename_i h;simp only [List.mem_append,List.mem_singleton];exact ⟨fun q=>q.elim .inl (fun e=>.inr ⟨e,h⟩),fun q=>q.elim .inl (fun e=>.inr e.1)⟩
    · rename_i h;exact ⟨.inl,fun q=>q.elim id (fun e=>absurd e.2 h)⟩
theorem numsTo_asc:Asc' cmpZ (FJ l n):=by
  induction n with
  | zero=>exact List.Pairwise.nil
  | succ n ih=>
    simp only [FJ];split
    · refine List.pairwise_append.2 ⟨ih,by simp,fun a ha b hb=>?_⟩
      have:=(numsTo_mem.1 ha).2.1;simp only [List.mem_singleton] at hb;subst hb;unfold cmpZ;omega
    · exact ih
end
theorem allN_asc {L:Lin} (g:GoodL L):Asc' cmpZ (BD L):=isort_sorted strictZ g.once
theorem numsTo_all {L:Lin} (g:GoodL L) {n:Nat} (hn:999≤n):FJ L.slips n=BD L:=by
  refine asc_unique strictZ ?_ numsTo_asc (allN_asc g);refine (List.perm_ext_iff_of_nodup (NE numsTo_asc) (NE (allN_asc g))).2 fun x=>?_
  unfold BD;rw [numsTo_mem,(EG _).mem_iff,List.mem_map]
  constructor
  · rintro ⟨_,_,s,h1,h2⟩;exact ⟨s,h1,h2⟩
  · rintro ⟨s,h1,rfl⟩
    have:=(NS (g.slipOf h1)).1;exact ⟨this.1,by omega,s,h1,rfl⟩
theorem right_len {L:Lin} (g:GoodL L):cmp .eql (((HB L).1.length:Int)+((HJ L).1.length:Int)) 0=IH L:=by
  rw [gaps_fst g,OQ (GB g)];show decide (((CJ (BR L)).length:Int)+((ER (fun x=>x.below) (BR L)).length:Int)=0)=_;unfold IH
  generalize BR L=E
  induction E with
  | nil=>rfl
  | cons e r ih=>
    have h1:(CJ (e::r)).length=(gapOf e).length+(CJ r).length:=by rw [show CJ (e::r)=gapOf e++CJ r from rfl,List.length_append]
    have h2:(ER (fun x=>x.below) (e::r)).length=(if e.below then 1 else 0)+(ER (fun x=>x.below) r).length:=by
      unfold ER;rw [List.filter_cons];split <;> simp <;> omega
    rw [List.all_cons,← ih,h1,h2];have h3:(gapOf e).length=if e.gap=0 then 0 else 1:=by unfold gapOf;by_cases q:e.gap=0 <;> simp [q]
    rw [h3];unfold evOk;cases e.below <;> by_cases q:e.gap=0 <;> simp [q,cmp] <;> omega
def AU (n:Nat):Nat→Nat→List (List Int)
  | 0,_=>[[]]
  | m+1,f=>(List.range' f (n-f)).flatMap fun i=>(AU n m (i+1)).map fun r=>(i:Int)::r
def KK (n m f c:Nat):List (List Int):=(List.range' f c).flatMap fun i=>(AU n m (i+1)).map fun r=>(i:Int)::r
theorem subs_props {n:Nat}:∀ {m f:Nat},∀ S∈AU n m f,S.length=m∧AscI S∧∀ q∈S,(f:Int)≤q∧q<n:=by
  intro m
  induction m with
  | zero=>intro f S hS;simp only [AU,List.mem_singleton] at hS;subst hS;exact ⟨rfl,List.Pairwise.nil,fun q hq=>by cases hq⟩
  | succ m ih=>
    intro f S hS;simp only [AU,List.mem_flatMap,List.mem_map] at hS;obtain ⟨i,hi,r,hr,rfl⟩:=hS;obtain ⟨h1,h2,h3⟩:=ih r hr;have hi2:=List.mem_range'_1.1 hi;refine ⟨by simp [h1],List.pairwise_cons.2 ⟨fun q hq=>by have:=h3 q hq;omega,h2⟩,fun q hq=>?_⟩;rcases List.mem_cons.1 hq with rfl | hq
    · omega
    · have:=h3 q hq;omega
theorem subsTo_snoc {n m f c:Nat}:KK n m f (c+1)=KK n m f c++(AU n m (f+c+1)).map fun r=>((f+c:Nat):Int)::r:=by
  unfold KK;rw [List.range'_1_concat,List.flatMap_append];simp
theorem subs_end {n m f c:Nat} (h:c=n-f):KK n m f c=AU n (m+1) f:=by subst h;rfl
theorem OX {n:Nat} (hn:n≤8):∀ {m f:Nat},(AU n m f).length≤8 ^ m:=by
  intro m
  induction m with
  | zero=>intro f;simp [AU]
  | succ m ih=>
    intro f;simp only [AU];refine Nat.le_trans (flat_count _ (8 ^ m) _ (fun i _=>by rw [List.length_map];exact ih)) ?_;rw [List.length_range',Nat.pow_succ,Nat.mul_comm];exact Nat.mul_le_mul_left _ (by omega)
theorem subsTo_few {n m f c:Nat} (hn:n≤8) (hc:c≤8):(KK n m f c).length≤8*8 ^ m:=by
  unfold KK;refine Nat.le_trans (flat_count _ (8 ^ m) _ (fun i _=>by rw [List.length_map];exact OX hn)) ?_;rw [List.length_range'];exact Nat.mul_le_mul_right _ hc
def BP (all:List Int) (S:List Int):List Int:=S.map fun q=>all.getD q.toNat 0
theorem find_flat {α β:Type} {p:β→Bool} {f:α→List β}:∀ {l:List α},(l.flatMap f).find? p=l.findSome? fun a=>(f a).find? p:=by
  intro l
  induction l with
  | nil=>rfl
  | cons a r ih=>
    rw [List.flatMap_cons,List.find?_append,List.findSome?_cons,ih];cases (f a).find? p <;> rfl
theorem find_map {α β:Type} {p:β→Bool} {f:α→β}:∀ {l:List α},(l.map f).find? p=(l.find? fun a=>p (f a)).map f:=by
  intro l
  induction l with
  | nil=>rfl
  | cons a r ih=>
    rw [List.map_cons,List.find?_cons,List.find?_cons,ih];cases p (f a) <;> rfl
section
variable {L:Lin} {all:List Int}
def Pb (L:Lin) (all b:List Int) (S:List Int):Bool:=IH (woL L (b++BP all S))
theorem grow_find:∀ {m:Nat} {b:List Int} {j:Nat},(DR L all m b j).2=((AU all.length m j).find? (Pb L all b)).isSome∧∀ S,(AU all.length m j).find? (Pb L all b)=some S→(DR L all m b j).1=b++BP all S:=by
  intro m
  induction m with
  | zero=>
    intro b j;have e:Pb L all b []=IH (woL L b):=by unfold Pb BP;simp
    simp only [DR,AU,List.find?_cons,List.find?_nil];rw [e];cases IH (woL L b) with
    | true=>exact ⟨rfl,fun S h=>by cases h;simp [BP]⟩
    | false=>exact ⟨rfl,fun S h=>by cases h⟩
  | succ m ih=>
    intro b j;simp only [DR,AU];rw [find_flat];have key:∀ (c j:Nat),(FI (fun i=>DR L all m (b++[all.getD i 0]) (i+1)) j c).2=((List.range' j c).findSome? fun i=>((AU all.length m (i+1)).map fun r=>(i:Int)::r).find? (Pb L all b)).isSome∧∀ S,((List.range' j c).findSome? fun i=>((AU all.length m (i+1)).map fun r=>(i:Int)::r).find? (Pb L all b))=some S→(FI (fun i=>DR L all m (b++[all.getD i 0]) (i+1)) j c).1=b++BP all S:=by
      intro c
      induction c with
      | zero=>intro j;exact ⟨rfl,fun S h=>by cases h⟩
      | succ c ihc=>
        intro j;rw [List.range'_succ,List.findSome?_cons];have hP:(fun a:List Int=>Pb L all b ((j:Int)::a))=Pb L all (b++[all.getD j 0]):=by
          funext S;unfold Pb BP;simp
        rw [find_map,hP];obtain ⟨i1,i2⟩:=ih (b:=b++[all.getD j 0]) (j:=j+1);simp only [FI];cases hf:(AU all.length m (j+1)).find? (Pb L all (b++[all.getD j 0])) with
        | some S=>
          rw [hf] at i1;replace i1:(DR L all m (b++[all.getD j 0]) (j+1)).2=true:=i1;rw [if_pos i1];refine ⟨rfl,fun T h=>?_⟩;simp only [Option.map_some] at h;cases h;show (DR L all m (b++[all.getD j 0]) (j+1)).1=_;rw [i2 S hf];unfold BP;simp
        | none=>
          rw [hf] at i1;replace i1:(DR L all m (b++[all.getD j 0]) (j+1)).2=false:=i1;rw [if_neg (by rw [i1];decide)];exact ihc (j+1)
    exact key _ _
theorem few_hit {m i:Nat} (g:GoodL L) (hm:m≤2) (hno:∀ m',m'<m→∀ S∈AU (BD L).length m' 0,Pb L (BD L) [] S=false) (hi:i<(AU (BD L).length m 0).length) (hni:∀ i',i'<i→Pb L (BD L) [] ((AU (BD L).length m 0).getD i' [])=false) (h:Pb L (BD L) [] ((AU (BD L).length m 0).getD i [])=true):CO L=(BP (BD L) ((AU (BD L).length m 0).getD i []),0):=by
  refine wrongE_2 (GB g) ?_;have hf:∀ m',m'<m→(DR L (BD L) m' [] 0).2=false:=fun m' h'=>by
    rw [(grow_find (L:=L) (all:=BD L) (m:=m') (b:=[]) (j:=0)).1,List.find?_eq_none.2 (fun S hS=>by rw [hno m' h' S hS];decide)];rfl
  have hs:(AU (BD L).length m 0).find? (Pb L (BD L) [])=some ((AU (BD L).length m 0).getD i []):=by
    have e:(AU (BD L).length m 0).getD i []=(AU (BD L).length m 0)[i]:=by simp [List.getD,hi]
    rw [List.find?_eq_some_iff_getElem];refine ⟨h,i,hi,e.symm,fun j hj=>?_⟩;have:=hni j hj;rw [show (AU (BD L).length m 0).getD j []=(AU (BD L).length m 0)[j] by simp [List.getD,show j<(AU (BD L).length m 0).length by omega]] at this;simp [this]
  obtain ⟨g1,g2⟩:=grow_find (L:=L) (all:=BD L) (m:=m) (b:=[]) (j:=0);rw [hs] at g1;replace g1:(DR L (BD L) m [] 0).2=true:=g1;have g3:=g2 _ hs;rw [List.nil_append] at g3;have aux:∀ c j,j≤m→m<j+c→FI (fun m=>DR L (BD L) m [] 0) j c=(BP (BD L) ((AU (BD L).length m 0).getD i []),true):=by
    intro c
    induction c with
    | zero=>intro j h1 h2;omega
    | succ c ih=>
      intro j h1 h2;simp only [FI]
      by_cases e:j=m
      · subst e;rw [if_pos g1,g3]
      · rw [if_neg (by rw [hf j (by omega)];decide)];exact ih (j+1) (by omega) (by omega)
  exact aux 3 0 (Nat.zero_le _) (by omega)
theorem few_none (g:GoodL L) (hno:∀ m',m'<3→∀ S∈AU (BD L).length m' 0,Pb L (BD L) [] S=false):CO L=([],11):=by
  refine wrongE_3 (GB g) ?_;have hf:∀ m',m'<3→(DR L (BD L) m' [] 0).2=false:=fun m' h'=>by
    rw [(grow_find (L:=L) (all:=BD L) (m:=m') (b:=[]) (j:=0)).1,List.find?_eq_none.2 (fun S hS=>by rw [hno m' h' S hS];decide)];rfl
  simp only [FI];rw [if_neg (by rw [hf 0 (by omega)];decide),if_neg (by rw [hf 1 (by omega)];decide),if_neg (by rw [hf 2 (by omega)];decide)]
variable (g:GoodL L) {S:List Int} (ha:AscI S) (hr:∀ q∈S,(0:Int)≤q∧q<(BD L).length)
include g ha hr
theorem pickN_once:(BP (BD L) S).Nodup:=by
  unfold BP;rw [List.Nodup,List.pairwise_map];refine List.Pairwise.imp_of_mem (fun {a b} hA hB hab e=>?_) ha;have h1:=hr a hA;have h2:=hr b hB;have hn:=NE (allN_asc g);have e3:(BD L)[a.toNat]'(by omega)=(BD L)[b.toNat]'(by omega):=by simpa [List.getD,show a.toNat<(BD L).length by omega,show b.toNat<(BD L).length by omega] using e
  have:=(List.getElem_inj hn).1 e3;omega
omit g ha in
theorem pickN_in:∀ x∈BP (BD L) S,∃ s∈L.slips,s.num=x:=fun x hx=>by
  obtain ⟨q,hq,rfl⟩:=List.mem_map.1 hx;have:=hr q hq;have hm:=BA (xs:=BD L) (d:=0) (show q.toNat<(BD L).length by omega);unfold BD at hm ⊢;have hm2:=(EG _).subset hm;obtain ⟨s,h1,h2⟩:=List.mem_map.1 hm2;exact ⟨s,h1,h2⟩
theorem strike_few:BV L (BP (BD L) S)=(woL L (BP (BD L) S),0):=by
  refine strikeE_4 (k:=(BP (BD L) S).length) (GB g) (firstE_zero.2 fun k hk=>?_) (Nat.le_refl _);have hm:=BA (xs:=BP (BD L) S) (d:=0) hk;obtain ⟨y,hy,e⟩:=pickN_in hr _ hm;unfold EW;rw [if_neg,if_neg]
  · intro h
    have ho:=pickN_once g ha hr;obtain ⟨j,hj,e2⟩:=List.mem_iff_getElem.1 h;rw [List.length_take] at hj;rw [List.getElem_take] at e2;have e3:(BP (BD L) S).getD k 0=(BP (BD L) S)[k]:=by simp [List.getD,hk]
    rw [e3] at e2;have:=(List.getElem_inj ho).1 e2;omega
  · intro h
    rw [List.any_eq_false] at h;exact h y hy (by simp [e])
theorem few_len:(woS L (BP (BD L) S)).length+S.length=L.slips.length:=by
  have ho:=pickN_once g ha hr;have h1:((L.slips.filter fun x=>decide (x.num∈BP (BD L) S)).map Slip.num).Perm (BP (BD L) S):=by
    have hn:((L.slips.filter fun x=>decide (x.num∈BP (BD L) S)).map Slip.num).Nodup:=g.once.sublist ((List.filter_sublist).map _);refine (List.perm_ext_iff_of_nodup hn ho).2 fun x=>?_
    rw [List.mem_map]
    constructor
    · rintro ⟨s,h1,rfl⟩;exact of_decide_eq_true (List.mem_filter.1 h1).2
    · intro h
      obtain ⟨s,h1,h2⟩:=pickN_in hr x h;exact ⟨s,List.mem_filter.2 ⟨h1,by simp [h2,h]⟩,h2⟩
  have h2:=h1.length_eq;rw [List.length_map] at h2;have h3:(BP (BD L) S).length=S.length:=by simp [BP]
  have h4:∀ {l:List Slip} {p:Slip→Bool},(l.filter p).length+(l.filter fun x=>!p x).length=l.length:=by
    intro l p
    induction l with
    | nil=>rfl
    | cons a r ih=>rw [List.filter_cons,List.filter_cons];cases p a <;> simp <;> omega
  have h5:=h4 (l:=L.slips) (p:=fun x=>decide (x.num∈BP (BD L) S));unfold woS;omega
omit ha hr in
theorem woL_good {ns:List Int}:GoodL (woL L ns):=by
  refine good_of g (Nat.le_trans (List.length_filter_le _ _) g.slips) (fun s hs=>g.slipOf (List.mem_filter.1 hs).1) ?_;exact g.once.sublist ((List.filter_sublist).map _)
end
theorem pickN_step {all S:List Int} {k:Nat} (hk:k<S.length):BP all (S.take k)++[all.getD (S.getD k 0).toNat 0]=BP all (S.take (k+1)):=by
  rw [BZ (d:=0) hk];unfold BP;rw [List.map_append];rfl
theorem pickN_len {all S:List Int}:(BP all S).length=S.length:=by simp [BP]
theorem few_next {L:Lin} {m i:Nat} (h:∀ i',i'<i→Pb L (BD L) [] ((AU (BD L).length m 0).getD i' [])=false) (h2:IH (woL L (BP (BD L) ((AU (BD L).length m 0).getD i [])))=false):∀ i',i'<i+1→Pb L (BD L) [] ((AU (BD L).length m 0).getD i' [])=false:=fun i' hi=>by
  by_cases e:i'=i
  · subst e;unfold Pb;rw [List.nil_append];exact h2
  · exact h i' (by omega)
theorem few_more {L:Lin} {m i:Nat} (hno:∀ m',m'<m→∀ S∈AU (BD L).length m' 0,Pb L (BD L) [] S=false) (h:∀ i',i'<i→Pb L (BD L) [] ((AU (BD L).length m 0).getD i' [])=false) (hi:(AU (BD L).length m 0).length≤i):∀ m',m'<m+1→∀ S∈AU (BD L).length m' 0,Pb L (BD L) [] S=false:=fun m' hm S hS=>by
  by_cases e:m'=m
  · subst e
    obtain ⟨k,hk,rfl⟩:=List.mem_iff_getElem.1 hS;have:=h k (by omega)
    rwa [show (AU (BD L).length m' 0).getD k []=(AU (BD L).length m' 0)[k] by simp [List.getD,hk]] at this
  · exact hno m' (by omega) S hS
theorem subs_row {n q f c i:Nat} (hi:i<(AU n q (f+c+1)).length):((AU n q (f+c+1)).take (i+1)).map (fun r=>((f:Int)+(c:Int))::r)=((AU n q (f+c+1)).take i).map (fun r=>((f:Int)+(c:Int))::r)++[((f:Int)+(c:Int))::(AU n q (f+c+1)).getD i []]:=by
  rw [BZ (d:=[]) hi,List.map_append];rfl
theorem subs_up {n q f c i:Nat} (hi:(AU n q (f+c+1)).length≤i):KK n q f c++((AU n q (f+c+1)).take i).map (fun r=>((f:Int)+(c:Int))::r)=KK n q f (c+1):=by
  rw [subsTo_snoc,List.take_of_length_le hi];simp
theorem subs_bound {n q f c i:Nat} (hn:n≤8) (hc:c<8) (hq:q≤1):(KK n q f c++((AU n q (f+c+1)).take i).map (fun r=>((f:Int)+(c:Int))::r)).length≤100:=by
  have h1:=subsTo_few (n:=n) (m:=q) (f:=f) (c:=c) hn (by omega);have h2:=OX (n:=n) hn (m:=q) (f:=f+c+1);have h3:8 ^ q≤8 ^ 1:=Nat.pow_le_pow_right (by decide) hq;rw [List.length_append,List.length_map,List.length_take];omega
end Go.Sh
namespace Go.Proofs.YtgcemienebmdeaaGreat
open Go Go.Sl Go.Sh
set_option maxRecDepth 100000
noncomputable def c_there (p:List Nat):Code:=sub (AN Tryz.f79) p
theorem there_ct (I:Imm) (z:Value) (xs:List Slip) (n:Int) (z_f:HI I z xs):CtV Tryz.prog 79 #[z,vI n] I (vI (LU (fun x:Slip=>decide (x.num=n)) xs)):=by
 obtain ⟨a3,a4,a6,a8,a7,a9,b0,a5⟩:=id z_f;subst a7;refine fr (args:=[_,_]) (N:=20) Tryz.func79 (fun F=>?_);show Run _ _ (c_there []) _ _ [(0,vS a3 xs.length a4),(1,vI (n))] _ _;refine rnm (rqr ?_);refine sp 1 [(4,vI (0))] (se (rq (rqr (sp 1 [(5,vI (0))] (se (rb 0 ?_))))));refine rl (fun mz a w=>∃ k:Nat,(k≤xs.length)∧(∀ j,j<k→(fun x:Slip=>decide (x.num=n)) (xs.getD j AB)=false)∧Slots 20 [(5,vI ↑k),(0,vS a3 xs.length a4),(1,vI (n))] a∧a.defers=[]∧St I (F) w∧mz=xs.length-k) ?_ ?_
 ·intro a w hS hD hW;exact ⟨_,0,Nat.zero_le _,(fun j hj=>by omega),hS.sub (.cons 5 rfl (.cons 0 rfl (.cons 1 rfl (.nil _)))),hD,hW,rfl⟩
 rintro mz a w ⟨k,hk,a2,hS,hD,hW,rfl⟩
 refine AV hS hD hW ?_;clear hS hD hW a w;refine rq (rqr (sp 4 [(9,.bool (cmp .lss (↑k) (↑(xs.length))))] (se (rc 9 rfl (fun h1=>?_) (fun h1=>?_)))))
 ·
  have a0:=h1;have h1:=CL h1;refine AO (NX (rq (rb 1 (rqr (sp 2 [(13,vI (↑k)),(12,vS a3 xs.length a4)] (sd (di 14 8 (k) a5.addr) (sp 1 [(15,.pointer (some ⟨a6,a8+k*8,none⟩))] (sd (dl 16 (rec_get a5 (k) (by omega) 0 (by decide) (v:=vI ((xs.getD (k) AB).num)) rfl)) (sp 2 [(18,.bool (cmp .eql ((xs.getD (k) AB).num) (n)))] (se (rc 18 rfl (fun h2=>?_) (fun h2=>?_))))))))))))
  ·
   have a1:=h2;have h2:=CC h2;refine rqr (sp 2 [(4,vI (↑k))] (se (BL ((RB (RP (RP (RB (RP (AH (t:=4) [] (by kernel_rfl) rfl (TR _) (IR _) ?_))))))))));exact ⟨congrArg (Value.int .i64) (idxF_hit (d:=AB) a2 (by omega) (decide_eq_true h2)).symm,rfl⟩
  have a1:=h2;have h2:=BW h2;refine AO (NB (NX (rr (sp 1 [(10,vI (↑k))] (sd (da 11 (↑k) (1)) (sp 1 [(5,vI (↑k+1))] (ee ?_)))))));refine AL (xs.length-(k+1)) (by omega) ?_;intro a w hS hD hW;exact ⟨k+1,by omega,JV a2 (decide_eq_false h2),hS.sub (.consE 5 rfl rfl (.cons 0 rfl (.cons 1 rfl (.nil _)))),hD,hW,rfl⟩
 have a0:=h1;have h1:=CV h1;refine CF 0 ((EP (EP (EB (NX (rqr (sp 1 [(4,vI ((-1)))] (se (BL (AH (t:=4) [] (by kernel_rfl) rfl (TR _) (IR _) ?_))))))))));exact ⟨congrArg (Value.int .i64) (idxF_miss (d:=AB) a2 (by omega)).symm,rfl⟩
noncomputable def c_Numbers (p:List Nat):Code:=sub (AN Tryz.f50) p
theorem Numbers_ct (I:Imm) (l:Value) (L:Lin) (l_f:IsLin I l L) (hg:GoodL L):Ct Tryz.prog 50 #[l] I ([]) (fun v I' M'=>∃ u:Value,∃ Ms:Seg,v=u∧M'=Ms∧Own 3 1 AJ u (BD L) Ms):=by
 obtain ⟨l1,l2,l3,e4,b9,c1,b2⟩:=id l_f;subst e4;obtain ⟨a6,a7,c8,d1,c5,b8,c9,d0,d2,d3⟩:=id b9;subst b8;obtain ⟨a8,a9,d4,d7,c0,d5,d6,d8⟩:=id c1;subst c0;obtain ⟨a4,a5,d9,e2,c2,e0,e1,e3⟩:=id b2;subst c2;refine fr (args:=[_]) (N:=19) Tryz.func50 (fun F=>?_);show Run _ _ (c_Numbers []) _ _ [(0,.agg #[vI (L.places),vI (L.sorts),vS a6 L.start.length a7,vS a8 L.keeps.length a9,vS a4 L.slips.length a5])] _ _;refine rnm (rqr ?_);refine sS (sb 1 26 #[vI (L.places),vI (L.sorts),vS a6 L.start.length a7,vS a8 L.keeps.length a9,vS a4 L.slips.length a5] (fun b1=>(sp 1 [(2,vN)] (sn (sp 1 [(3,vN)] (se (rq (rqr (sp 1 [(4,vI (1))] (CZ 4 rfl (show (vI (1):Value)=vI (↑(0:Nat)+1) from congrArg (Value.int .i64) rfl) (se (rb 0 ?_))))))))))));refine rl (fun mz a w=>∃ J0:Imm,∃ q:Nat,∃ b0:Value,∃ a0:Seg,(I.le J0)∧(q≤999)∧(Own 3 1 AJ b0 (FJ L.slips q) a0)∧Slots 19 [(3,b0),(4,vI (↑q+1)),(1,vP b1 0),(2,vN)] a∧a.defers=[]∧St J0 ((bX b1 #[vI (L.places),vI (L.sorts),vS a6 L.start.length a7,vS a8 L.keeps.length a9,vS a4 L.slips.length a5] 26)::(a0++F)) w∧mz=999-q) ?_ ?_
 ·intro a w hS hD hW;exact ⟨_,I,0,(vN),[],IR _,by omega,(Own.nil _ _ _),hS.sub (.cons 3 rfl (.cons 4 rfl (.cons 1 rfl (.cons 2 rfl (.nil _))))),hD,hW,rfl⟩
 rintro mz a w ⟨J0,q,b0,a0,hJ0,hq,a3,hS,hD,hW,rfl⟩
 refine AV hS hD hW ?_;clear hS hD hW a w;replace b2:=b2.mono hJ0;obtain ⟨a1,a2,b4,b6⟩:=a3.shape;subst b4;have e6:=numsTo_len (l:=L.slips) (n:=q);refine rq (rqr (sp 2 [(6,.bool (cmp .leq (↑q+1) (999)))] (se (rc 6 rfl (fun h1=>?_) (fun h1=>?_)))))
 ·
  have b7:=h1;have h1:=leq_t h1;refine AO (NX (rq (rb 1 (rqr (sp 1 [(9,vP b1 4)] (sd (dlb 10 0 4 b1 (vS a4 L.slips.length a5)) (sp 1 [(11,vI (↑q+1))] (sd (dc 12 (fun I' hI=>(there_ct I' _ _ (↑q+1) (b2.mono hI) :))) (sp 1 [(13,.bool (cmp .geq ((LU (fun x:Slip=>decide (x.num=(↑q+1))) L.slips)) (0)))] (se (rc 13 rfl (fun h2=>?_) (fun h2=>?_))))))))))))
  ·
   have b5:=h2;have h2:=geq_t h2;refine rr (sp 2 [(15,vI (↑q+1)),(14,vS a1 (FJ L.slips q).length a2)] (sS (sbs 16 3 1 #[vI (↑q+1)] (fun b3=>(sS (AZ (d:=17) (x:=(.tmp 14)) (y:=(.tmp 16)) (T:=29) (T':=29) (E:=3) (E':=3) (sz:=1) (bs:=8) (z:=vI (0)) (cell:=AJ) (xs:=FJ L.slips q) (ys:=[(↑q+1:Int)]) (Ms:=a0) (ty:=29) (gd:=none) (by kernel_rfl) rfl (by kernel_rfl) (by kernel_rfl) (by kernel_rfl) (by kernel_rfl) (by kernel_rfl) (by decide) (by kernel_rfl) rfl rfl (a3) (PU (PM.symm)) (CW _) (DL 0 rfl rfl) (by first | omega | (simp only [LC,LN];omega)) (fun v5 c3 c4=>(AW (M':=((bX b1 #[vI (L.places),vI (L.sorts),vS a6 L.start.length a7,vS a8 L.keeps.length a9,vS a4 L.slips.length a5] 26)::(c3++F))) (fun w h=>(h.perm (PW PM)).sub (TC _ (TR _))) ?_))))))));obtain ⟨c6,c7,e5,e7⟩:=c4.shape;subst e5;refine sp 1 [(3,vS c6 ((FJ L.slips q)++([(↑q+1:Int)])).length c7)] (ee (NB (NX (rr (sp 1 [(7,vI (↑q+1))] (sd (da 8 (↑q+1) (1)) (sp 1 [(4,vI ((↑q+1)+1))] (ee ?_))))))));refine AL (999-(q+1)) (by omega) ?_;intro a w hS hD hW;exact ⟨J0,q+1,vS c6 ((FJ L.slips q)++([(↑q+1:Int)])).length c7,c3,hJ0,by omega,(numsTo_t (idxF_any.symm.trans b5)▸c4),hS.sub (.consE 3 rfl rfl (.consE 4 rfl (congrArg (Value.int .i64) (by omega)) (.cons 1 rfl (.cons 2 rfl (.nil _))))),hD,hW,rfl⟩
  have b5:=h2;have h2:=geq_f h2;refine AO (NB (NX (rr (sp 1 [(7,vI (↑q+1))] (sd (da 8 (↑q+1) (1)) (sp 1 [(4,vI ((↑q+1)+1))] (ee ?_)))))));refine AL (999-(q+1)) (by omega) ?_;intro a w hS hD hW;exact ⟨J0,q+1,vS a1 (FJ L.slips q).length a2,a0,hJ0,by omega,(numsTo_f (idxF_any.symm.trans b5)▸a3),hS.sub (.consE 3 rfl rfl (.consE 4 rfl (congrArg (Value.int .i64) (by omega)) (.cons 1 rfl (.cons 2 rfl (.nil _))))),hD,hW,rfl⟩
 have b7:=h1;have h1:=leq_f h1;refine CF 0 ((EP (EP (EB (NX (rqr (sp 2 [(2,vS a1 (FJ L.slips q).length a2)] (se (BL (ppm (M':=((a0++(bX b1 #[vI (L.places),vI (L.sorts),vS a6 L.start.length a7,vS a8 L.keeps.length a9,vS a4 L.slips.length a5] 26)::F))) (PM.symm) (AH (t:=2) (a0) (by kernel_rfl) rfl (TA (TC _ (TR _)) _) hJ0 ?_)))))))))));exact ⟨_,_,rfl,rfl,((numsTo_all hg (n:=q) (by omega))▸a3)⟩
noncomputable def c_inOrder (p:List Nat):Code:=sub (AN Tryz.f52) p
theorem inOrder_ct (I:Imm) (l:Value) (L:Lin) (l_f:IsLin I l L) (hg:GoodL L):Ct Tryz.prog 52 #[l] I ([]) (fun v I' M'=>v=.bool (IH L)∧M'=[]):=by
 obtain ⟨l1,l2,l3,f0,a6,a7,a8⟩:=id l_f;subst f0;obtain ⟨a0,a1,d4,d7,d1,c3,d5,d6,d8,d9⟩:=id a6;subst c3;obtain ⟨a2,a3,e0,e3,c4,e1,e2,e4⟩:=id a7;subst c4;obtain ⟨a4,a5,e5,e8,c5,e6,e7,e9⟩:=id a8;subst c5;refine fr (args:=[_]) (N:=31) Tryz.func52 (fun F=>?_);show Run _ _ (c_inOrder []) _ _ [(0,.agg #[vI (L.places),vI (L.sorts),vS a0 L.start.length a1,vS a2 L.keeps.length a3,vS a4 L.slips.length a5])] _ _;refine rnm ?_;have hz:=GB hg;obtain ⟨_,_,m3,_,m5⟩:=lens_all hg (n:=0) ⟨by decide,by decide⟩;refine rqr (sS (sb 1 26 #[vI (L.places),vI (L.sorts),vS a0 L.start.length a1,vS a2 L.keeps.length a3,vS a4 L.slips.length a5] (fun b1=>(sp 1 [(2,.bool (false))] (sn (sd (dnb 8 0 0 b1 [vI (L.places),vI (L.sorts),vS a0 L.start.length a1,vS a2 L.keeps.length a3,vS a4 L.slips.length a5]) (sS (sc (some 9) (Gaps_ct _ _ (L) (FA a6 a7 a8) :) (.refl _) (fun f3 I3 f1 a9 d3=>?_)))))))));obtain ⟨f7,b5,d0,c9,c6⟩:=d3;rw [d0,c9];clear d0 c9;replace a6:=a6.mono a9;replace a7:=a7.mono a9;replace a8:=a8.mono a9;obtain ⟨b9,c0,c1,d2⟩:=c6.shape;subst c1;refine pm (M':=((bX b1 #[vI (L.places),vI (L.sorts),vS a0 L.start.length a1,vS a2 L.keeps.length a3,vS a4 L.slips.length a5] 26)::(b5++F))) PM (sp 5 [(4,vI (((HB L).2))),(3,vS b9 ((HB L).1).length c0)] (sn (sd (dnb 13 0 0 b1 [vI (L.places),vI (L.sorts),vS a0 L.start.length a1,vS a2 L.keeps.length a3,vS a4 L.slips.length a5]) (sS (sc (some 14) (Below_ct _ _ (L) (FA a6 a7 a8) :) (.refl _) (fun f4 f6 f2 b6 c2=>?_))))));obtain ⟨f5,b4,b8,b7,c7⟩:=c2;rw [b8,b7];clear b8 b7;obtain ⟨b0,b2,b3,c8⟩:=c7.shape;subst b3;refine pm (M':=((bX b1 #[vI (L.places),vI (L.sorts),vS a0 L.start.length a1,vS a2 L.keeps.length a3,vS a4 L.slips.length a5] 26)::(b4++(b5++F)))) PM (sp 5 [(6,vI (((HJ L).2))),(5,vS b0 ((HJ L).1).length b2)] (sn (sp 2 [(18,.bool (cmp .eql (((HB L).2)) (0)))] (CZ 18 rfl (show (.bool (cmp .eql (((HB L).2)) (0)):Value)=.bool (true) from congrArg Value.bool (by rw [gapsE_2 hz];rfl)) (sp 3 [(21,.bool (cmp .eql (((HJ L).2)) (0))),(19,.bool (true))] (CZ 21 rfl (show (.bool (cmp .eql (((HJ L).2)) (0)):Value)=.bool (true) from congrArg Value.bool (by rw [OQ hz];rfl)) (sp 6 [(27,vI (↑(((HJ L).1).length))),(25,vI (↑(((HB L).1).length))),(23,.bool (true))] (sd (da 28 (↑(((HB L).1).length)) (↑(((HJ L).1).length))) (sp 3 [(2,.bool (cmp .eql ((↑(((HB L).1).length))+(↑(((HJ L).1).length))) (0)))] (se (BL (AH (t:=2) [] (by kernel_rfl) rfl (TC _ (TT (TT (TR _) (TB _ _)) (TB _ _))) (IT a9 b6) ?_))))))))))));exact ⟨congrArg Value.bool (right_len hg),rfl⟩
def SubsAt (m:Nat):Prop:=∀ (I:Imm) (fo nn:Nat) (fi ni mi:Int) (hfi:fi=(fo:Int)) (hni:ni=(nn:Int)) (hmi:mi=(m:Int)) (hn8:nn≤8) (hf8:fo≤8) (hm2:m≤2),Ct Tryz.prog 51 #[vI fi,vI ni,vI mi] I [] (fun u I' M'=>∃ ws,Own 29 1 CD u ws M'∧RowsV I' ws (AU nn m fo))
noncomputable def c_Subsets (p:List Nat):Code:=sub (AN Tryz.f51) p
set_option maxHeartbeats 1000000 in
theorem subs_of (m:Nat) (ihm:∀ q,m=q+1→SubsAt q) (I:Imm) (fo nn:Nat) (fi ni mi:Int) (hfi:fi=(fo:Int)) (hni:ni=(nn:Int)) (hmi:mi=(m:Int)) (hn8:nn≤8) (hf8:fo≤8) (hm2:m≤2):Ct Tryz.prog 51 #[vI fi,vI ni,vI mi] I [] (fun u I' M'=>∃ ws,Own 29 1 CD u ws M'∧RowsV I' ws (AU nn m fo)):=by
 subst hfi hni hmi;refine fr (args:=[_,_,_]) (N:=43) Tryz.func51 (fun F=>?_);show Run _ _ (c_Subsets []) _ _ [(0,vI (↑fo)),(1,vI (↑nn)),(2,vI (↑m))] _ _;refine rnm (rqr ?_);refine sp 1 [(6,vN)] (se (rq (rqr (sp 2 [(12,.bool (cmp .eql (↑m) (0)))] (se (rc 12 rfl (fun h1=>?_) (fun h1=>?_)))))))
 ·
  have f3:=h1;have h1:=CC h1;refine rqr (sS (sbs 13 29 1 #[vN] (fun b1=>(sp 1 [(6,vS (some ⟨b1,0,none⟩) 1 1)] (se (BL ((RP (ppm (M':=(([(bX b1 #[vN] 29)]++F))) (PR _) ?_)))))))));have h4:Own 29 1 CD (vS (some ⟨b1,0,none⟩) 1 1) ([(vN:Value)]:List Value) [(bX b1 #[vN] 29)]:=Own.lit rfl rfl;have e2:=((RowsV.nil I).snoc (IsSl.nil _));simp only [NA,CA] at e2;refine AH (t:=6) ([(bX b1 #[vN] 29)]) (by kernel_rfl) rfl (TK _ (TR _)) (IR _) ?_;have h0:m=0:=by omega
  subst h0;exact ⟨_,h4,(show [[]]=AU nn 0 fo from rfl)▸e2⟩
 have f3:=h1;have h1:=BW h1;refine AO (NX (rq ?_));obtain ⟨q,hmq⟩:∃ q,m=q+1:=⟨m-1,by omega⟩;have ih:=ihm q hmq;refine rr (sp 1 [(7,vN)] (se (rq (rqr (sp 2 [(8,vI (↑fo))] (se (rb 0 ?_)))))));refine rl (fun mz a w=>∃ J0:Imm,∃ c:Nat,∃ c3:Value,∃ a2:Seg,∃ a3:List Value,(I.le J0)∧(c≤nn-fo)∧(RowsV J0 a3 (KK nn q fo c))∧(Own 29 1 CD c3 (a3) a2)∧Slots 43 [(7,c3),(8,vI (↑fo+↑c)),(1,vI (↑nn)),(2,vI (↑m)),(6,vN)] a∧a.defers=[]∧St J0 ((a2++F)) w∧mz=nn-fo-c) ?_ ?_
 ·intro a w hS hD hW;exact ⟨_,I,0,(vN),[],[],IR _,Nat.zero_le _,(RowsV.nil _),(Own.nil _ _ _),hS.sub (.cons 7 rfl (.cons 8 rfl (.cons 1 rfl (.cons 2 rfl (.cons 6 rfl (.nil _)))))),hD,hW,rfl⟩
 rintro mz a w ⟨J0,c,c3,a2,a3,hJ0,hc,a1,c1,hS,hD,hW,rfl⟩
 refine AV hS hD hW ?_;clear hS hD hW a w;obtain ⟨a8,a9,c7,e3⟩:=c1.shape;subst c7;have b3:=a1.1
 try simp only [LS,LA,LC,LN,LK] at b3
 refine rq (rqr (sp 3 [(17,.bool (cmp .lss (↑fo+↑c) (↑nn)))] (se (rc 17 rfl (fun h2=>?_) (fun h2=>?_)))))
 ·
  have f4:=h2;have h2:=CL h2;refine AO (NX (rq (rb 1 (rqr (sp 1 [(20,vI (↑fo+↑c))] (sd (da 21 (↑fo+↑c) (1)) (sp 2 [(23,vI (↑m)),(22,vI (↑nn))] (sd (dsb 24 (↑m) (1)) ?_))))))));have g9:=ih J0 (fo+c+1) nn (↑fo+↑c+1) ↑nn (↑m-1) (by omega) rfl (by omega) hn8 (by omega) (by omega);refine sS (GR (d:=some 25) (f:=(.func 51)) (fid:=51) (args:=#[(.tmp 21),(.tmp 22),(.tmp 24)]) (tys:=#[3,3,3]) (cv:=[]) (F:=((a2++F))) (ty:=22) (gd:=none) (by kernel_rfl) rfl rfl rfl (by kernel_rfl) rfl g9 (PR _) (fun i1 I5 d8 d5 h5=>?_));obtain ⟨b8,c9,c6⟩:=h5;replace a1:=a1.mono d5;obtain ⟨a4,a5,d3,f9⟩:=c9.shape;subst d3;have b7:=c6.1
  try simp only [LS,LA,LC,LN,LK] at b7
  refine nm ?_;show Seq _ _ _ _ _ _ ((25,vS a4 b8.length a5)::_) _ _;refine sp 1 [(9,vS a4 b8.length a5)] (sn (sp 1 [(10,vI (0))] (se (rb 2 ?_))));refine rl (fun mz a w=>∃ J1:Imm,∃ k:Nat,∃ c4:Value,∃ a6:Seg,∃ a0:List Value,(I5.le J1)∧(k≤(AU nn q (fo+c+1)).length)∧(RowsV J1 a0 (KK nn q fo c++(((AU nn q (fo+c+1)).take k).map fun r=>((fo:Int)+(c:Int))::r)))∧(Own 29 1 CD c4 (a0) a6)∧Slots 43 [(7,c4),(10,vI ↑k),(1,vI (↑nn)),(2,vI (↑m)),(6,vN),(8,vI (↑fo+↑c)),(9,vS a4 b8.length a5)] a∧a.defers=[]∧St J1 ((d8++(a6++F))) w∧mz=(AU nn q (fo+c+1)).length-k) ?_ ?_
  ·intro a w hS hD hW;exact ⟨_,I5,0,vS a8 a3.length a9,a2,a3,IR _,Nat.zero_le _,(show RowsV _ _ (_++[]) from by rw [List.append_nil];exact a1),c1,hS.sub (.cons 7 rfl (.cons 10 rfl (.cons 1 rfl (.cons 2 rfl (.cons 6 rfl (.cons 8 rfl (.cons 9 rfl (.nil _)))))))),hD,hW,rfl⟩
  rintro mz a w ⟨J1,k,c4,a6,a0,hJ1,hk,a7,c2,hS,hD,hW,rfl⟩
  refine AV hS hD hW ?_;clear hS hD hW a w;replace a1:=a1.mono hJ1;replace c6:=c6.mono hJ1;obtain ⟨b0,b2,c8,e4⟩:=c2.shape;subst c8;have b4:=a7.1
  try simp only [LS,LA,LC,LN,LK] at b4
  refine rq (rqr (sp 4 [(29,.bool (cmp .lss (↑k) (↑(b8.length))))] (se (rc 29 rfl (fun h3=>?_) (fun h3=>?_)))))
  ·
   have f5:=h3;have h3:=CL h3;refine AO (NX (rq (rb 3 ?_)));have i5:=OX (n:=nn) hn8 (m:=q) (f:=fo+c+1);have i3:8 ^ q≤8 ^ 1:=Nat.pow_le_pow_right (by decide) (by omega);have h7:=subs_bound (n:=nn) (q:=q) (f:=fo) (c:=c) (i:=k) hn8 (by omega) (by omega);have i4:=(subs_props _ (BA (xs:=AU nn q (fo+c+1)) (d:=[]) (k:=k) (by omega))).1;refine rr (sp 2 [(33,vI (↑fo+↑c)),(32,vS b0 a0.length b2)] (sS (sbs 34 3 1 #[vI (↑fo+↑c)] (fun e5=>(sp 2 [(36,vI (↑k)),(35,vS a4 b8.length a5)] ?_)))));obtain ⟨h8,d0⟩:=c9.row undef;refine sd (di 37 1 (k) d0.addr) ?_;have c5:=c6.2 (k) (by omega);obtain ⟨g0,g2,g1,g5,d1,g3,g4,g6⟩:=id c5;rw [d1] at c5;refine sd (EC (dl 38 (d0.get (k) (by omega) 0 (by decide) _ _ (fun x hx=>by simp [hx]))) d1) ?_;have f6:Own 3 1 AJ (vS (some ⟨e5,0,none⟩) 1 1) ([(↑fo+↑c:Int)]:List Int) [(bX e5 #[vI (↑fo+↑c)] 3)]:=Own.lit rfl rfl;refine sS (AZ (d:=39) (x:=(.tmp 34)) (y:=(.tmp 38)) (T:=29) (T':=29) (E:=3) (E':=3) (sz:=1) (bs:=8) (z:=vI (0)) (cell:=AJ) (xs:=([(↑fo+↑c:Int)]:List Int)) (ys:=(AU nn q (fo+c+1)).getD (k) []) (Ms:=[(bX e5 #[vI (↑fo+↑c)] 3)]) (ty:=29) (gd:=none) (by kernel_rfl) rfl (by kernel_rfl) (by kernel_rfl) (by kernel_rfl) (by kernel_rfl) (by kernel_rfl) (by decide) (by kernel_rfl) rfl rfl (f6) (PR _) (CW _) c5.src (by first | omega | (simp only [LC,LN];omega)) (fun i6 g8 d6=>(nm ?_)));obtain ⟨b9,c0,f7,h9⟩:=d6.shape;subst f7;refine sfz 0 d6 (.refl _) (fun g7 b6 b5=>?_);replace a1:=a1.mono b6;replace a7:=a7.mono b6;obtain ⟨e6,e8,e7,f1,d2,e9,f0,f2⟩:=id b5;cases d2;refine sS (sbs 40 29 1 #[vS b9 ((([(↑fo+↑c:Int)]:List Int))++((AU nn q (fo+c+1)).getD (k) [])).length c0] (fun i2=>(sS (AZ (d:=41) (x:=(.tmp 32)) (y:=(.tmp 40)) (T:=22) (T':=22) (E:=29) (E':=29) (sz:=1) (bs:=24) (z:=vN) (cell:=CD) (xs:=a0) (ys:=[(vS b9 ((([(↑fo+↑c:Int)]:List Int))++((AU nn q (fo+c+1)).getD (k) [])).length c0:Value)]) (Ms:=a6) (ty:=22) (gd:=none) (by kernel_rfl) rfl (by kernel_rfl) (by kernel_rfl) (by kernel_rfl) (by kernel_rfl) (by kernel_rfl) (by decide) (by kernel_rfl) rfl rfl (c2) (PU (PO _ _ _)) (HO rfl) (DL 0 rfl rfl) (by first | omega | (have h6:=h7;simp only [LA] at h6;simp only [LC,LN];omega)) (fun i7 d4 d7=>(AW (M':=((d4++(d8++F)))) (fun w h=>(h.perm PM).sub (TC _ (TR _))) ?_))))));obtain ⟨d9,e0,f8,i0⟩:=d7.shape;subst f8;have e1:=(a7).snoc b5;refine sp 1 [(7,vS d9 (a0++([(vS b9 ((([(↑fo+↑c:Int)]:List Int))++((AU nn q (fo+c+1)).getD (k) [])).length c0:Value)])).length e0)] (ee (NB (NX (rr (sp 1 [(30,vI (↑k))] (sd (da 31 (↑k) (1)) (sp 1 [(10,vI (↑k+1))] (ee ?_))))))));refine AL ((AU nn q (fo+c+1)).length-(k+1)) (by omega) ?_;intro a w hS hD hW;exact ⟨g7,k+1,vS d9 (a0++([(vS b9 ((([(↑fo+↑c:Int)]:List Int))++((AU nn q (fo+c+1)).getD (k) [])).length c0:Value)])).length e0,d4,a0++([(vS b9 ((([(↑fo+↑c:Int)]:List Int))++((AU nn q (fo+c+1)).getD (k) [])).length c0:Value)]),(IT hJ1 b6),by omega,(by rw [subs_row (by omega),← AA];exact e1),d7,hS.sub (.consE 7 rfl rfl (.consE 10 rfl rfl (.cons 1 rfl (.cons 2 rfl (.cons 6 rfl (.cons 8 rfl (.cons 9 rfl (.nil _)))))))),hD,hW.perm (PO _ _ _),rfl⟩
  have f5:=h3;have h3:=CV h3;refine CF 2 ((EP (EP (EB (NB (NX (rr (sp 1 [(18,vI (↑fo+↑c))] (sd (da 19 (↑fo+↑c) (1)) (sp 1 [(8,vI ((↑fo+↑c)+1))] (ee ?_)))))))))));refine AL (nn-fo-(c+1)) (by omega) ?_;intro a w hS hD hW;exact ⟨J1,c+1,vS b0 a0.length b2,a6,a0,(IT (IT hJ0 d5) hJ1),by omega,(by rw [← subs_up (n:=nn) (q:=q) (f:=fo) (c:=c) (i:=k) (by omega)];exact a7),c2,hS.sub (.consE 7 rfl rfl (.consE 8 rfl (congrArg (Value.int .i64) (by omega)) (.cons 1 rfl (.cons 2 rfl (.cons 6 rfl (.nil _)))))),hD,(hW.perm (PR _)).sub (TT (TR _) (TB _ _)),rfl⟩
 have f4:=h2;have h2:=CV h2;refine CF 0 ((EP (EP (EB (NX (rqr (sp 2 [(6,vS a8 a3.length a9)] (se (BL (AH (t:=6) (a2) (by kernel_rfl) rfl (TA (TR _) _) hJ0 ?_))))))))));subst hmq;exact ⟨_,c1,(subs_end (n:=nn) (m:=q) (f:=fo) (c:=c) (by omega))▸a1⟩
theorem subs_all (m:Nat):SubsAt m:=by
 induction m with
 | zero=>intro I fo nn fi ni mi hfi hni hmi hn8 hf8 hm2;exact subs_of 0 (fun q h=>by omega) I fo nn fi ni mi hfi hni hmi hn8 hf8 hm2
 | succ m ih=>intro I fo nn fi ni mi hfi hni hmi hn8 hf8 hm2;exact subs_of (m+1) (fun q h=>(show m=q by omega)▸ih) I fo nn fi ni mi hfi hni hmi hn8 hf8 hm2
noncomputable def c_CloneKeep (p:List Nat):Code:=sub (AN Tryz.f142) p
theorem CloneKeep_ct (I:Imm) (z:Value) (xs:List Keep) (z_f:GZ I z xs) (hl:xs.length≤1000000):Ct Tryz.prog 142 #[z] I ([]) (fun v I' M'=>∃ u:Value,∃ Ms:Seg,v=u∧M'=Ms∧Own 50 3 IA u (xs) Ms):=by
 obtain ⟨a2,a3,b3,b6,a9,b4,b5,b0⟩:=id z_f;subst a9;refine fr (args:=[_]) (N:=8) Tryz.func142 (fun F=>?_);show Run _ _ (c_CloneKeep []) _ _ [(0,vS a2 xs.length a3)] _ _;refine rnm (rqr ?_);refine sp 1 [(2,vN)] (se (rq (rqr (sp 1 [(3,vS a2 xs.length a3)] (sd (det_eqnil (e:=50) (x:=(.tmp 3)) (y:=(.const (vN))) (T:=23) (T':=23) (d:=4) (ty:=4) (gd:=none) (by kernel_rfl) rfl (by kernel_rfl) rfl rfl) (se (rc 4 rfl (fun h1=>?_) (fun h1=>?_))))))))
 ·
  have a0:=h1;refine rqr (sp 1 [(2,vN)] (se (BL ((RP ?_)))));obtain rfl:=b0.nil h1;refine AH (t:=2) ([]) (by kernel_rfl) rfl (TR _) (IR _) ?_;exact ⟨_,_,rfl,rfl,Own.nil _ _ _⟩
 have a0:=h1;refine AO (NX (rqr (sS (sbs 5 50 0 #[] (fun b1=>(sp 1 [(6,vS a2 xs.length a3)] ?_))))));have a5:Own 50 3 IA (vS (some ⟨b1,0,none⟩) 0 0) ([]:List Keep) [(bX b1 #[] 50)]:=Own.lit rfl rfl;refine sS (AZ (d:=7) (x:=(.tmp 5)) (y:=(.tmp 6)) (T:=23) (T':=23) (E:=50) (E':=50) (sz:=3) (bs:=24) (z:=.agg #[vI (0),vI (0),vI (0)]) (cell:=IA) (xs:=([]:List Keep)) (ys:=xs) (Ms:=[(bX b1 #[] 50)]) (ty:=23) (gd:=none) (by kernel_rfl) rfl (by kernel_rfl) (by kernel_rfl) (by kernel_rfl) (by kernel_rfl) (by kernel_rfl) (by decide) (by kernel_rfl) rfl rfl (a5) (PR _) (OH _) z_f.src (by first | omega | (simp only [LC,LN,LA,LK,LD];omega)) (fun v4 a4 a1=>?_));rw [NA] at a1;refine nm ?_;obtain ⟨a6,a7,a8,b2⟩:=a1.shape;subst a8;refine sp 1 [(2,vS a6 xs.length a7)] (se (BL (AH (t:=2) (a4) (by kernel_rfl) rfl (TA (TR _) _) (IR _) ?_)));exact ⟨_,_,rfl,rfl,a1⟩
noncomputable def c_copied (p:List Nat):Code:=sub (AN Tryz.f93) p
theorem copied_ct (I:Imm) (l:Value) (L:Lin) (l_f:IsLin I l L) (hg:GoodL L):Ct Tryz.prog 93 #[l] I ([]) (fun v I' M'=>∃ u1:Value,∃ u2:Value,∃ u3:Value,∃ Ms:Seg,v=.agg #[vI (L).places,vI (L).sorts,u1,u2,u3]∧M'=Ms∧IsRows I' u1 (L).start∧GZ I' u2 (L).keeps∧Own 28 8 BC u3 (L).slips Ms):=by
 obtain ⟨l1,l2,l3,n0,k1,c1,b6⟩:=id l_f;subst n0;obtain ⟨c7,c8,l6,l9,k6,k0,l7,l8,d5,e1⟩:=id k1;subst k0;obtain ⟨a8,a9,m0,m3,k2,m1,m2,m4⟩:=id c1;subst k2;obtain ⟨a5,a6,m5,m8,k3,m6,m7,m9⟩:=id b6;subst k3;refine fr (args:=[_]) (N:=32) Tryz.func93 (fun F=>?_);show Run _ _ (c_copied []) _ _ [(0,.agg #[vI (L.places),vI (L.sorts),vS c7 L.start.length c8,vS a8 L.keeps.length a9,vS a5 L.slips.length a6])] _ _;refine rnm ?_;have o7:=hg.places;have o8:=hg.start;have o9:=hg.keeps;have p0:=hg.slips;refine rqr (sS (sb 1 26 #[vI (L.places),vI (L.sorts),vS c7 L.start.length c8,vS a8 L.keeps.length a9,vS a5 L.slips.length a6] (fun b1=>(sS (sal 2 26 #[vI (0),vI (0),vN,vN,vN] (fun b3=>(sn (sp 1 [(6,vP b1 2)] (sd (dlb 7 1 2 b1 (vS c7 L.start.length c8)) (sp 1 [(3,vS c7 L.start.length c8)] (sn (sp 1 [(8,vP b1 2)] (sS (ss 1 2 b1 [vN] [vI (L.places),vI (L.sorts),vN,vS a8 L.keeps.length a9,vS a5 L.slips.length a6] (_::_::_) (cs:=[_,_,_,_,_]) rfl rfl (se (rq (rqr (sp 3 [(11,vI (0)),(10,vI (↑(L.start.length))),(9,vS c7 L.start.length c8)] (se (rb 0 ?_))))))))))))))))))));refine rl (fun mz a w=>∃ J0:Imm,∃ k:Nat,∃ c0:Value,∃ a4:Seg,∃ a0:List Value,(I.le J0)∧(k≤L.start.length)∧(RowsV J0 a0 (L.start.take k))∧(Own 29 1 CD c0 (a0) a4)∧Slots 32 [(11,vI ↑k),(1,vP b1 0),(2,vP b3 0),(9,vS c7 L.start.length c8),(10,vI (↑(L.start.length)))] a∧a.defers=[]∧St J0 ((bX b3 #[vI (0),vI (0),vN,vN,vN] 26)::(bX b1 #[vI (L.places),vI (L.sorts),c0,vS a8 L.keeps.length a9,vS a5 L.slips.length a6] 26)::(a4++F)) w∧mz=L.start.length-k) ?_ ?_
 ·intro a w hS hD hW;exact ⟨_,I,0,(vN),[],[],IR _,Nat.zero_le _,(RowsV.nil _),(Own.nil _ _ _),hS.sub (.cons 11 rfl (.cons 1 rfl (.cons 2 rfl (.cons 9 rfl (.cons 10 rfl (.nil _)))))),hD,hW,rfl⟩
 rintro mz a w ⟨J0,k,c0,a4,a0,hJ0,hk,a3,b9,hS,hD,hW,rfl⟩
 refine AV hS hD hW ?_;clear hS hD hW a w;replace d5:=d5.mono hJ0;replace e1:=fun i hi=>(e1 i hi).mono hJ0
 replace c1:=c1.mono hJ0;replace b6:=b6.mono hJ0;obtain ⟨a1,a2,c4,e4⟩:=b9.shape;subst c4;have c3:=a3.1
 try simp only [LS,LA,LC,LN,LK] at c3
 refine rqr (sp 1 [(12,.bool (cmp .lss (↑k) (↑(L.start.length))))] (se (rq (rc 12 rfl (fun h1=>?_) (fun h1=>?_)))))
 ·
  have j7:=h1;have h1:=CL h1;refine AO (NX (rq (rb 1 (rqr (sd (di 13 1 (k) d5.addr) ?_)))));have e5:=e1 (k) (by omega);obtain ⟨f8,f9,n2,n5,g0,n3,n4,n6⟩:=id e5;rw [g0] at e5;refine sd (EC (dl 14 (HC d5 (k) (by omega))) g0) (sp 1 [(5,vS f8 (L.start.getD (k) []).length f9)] (se ?_));refine rd 5 [(0,true),(1,true),(2,true),(3,false),(4,false)] ((bX b3 #[vI (0),vI (0),vN,vN,vN] 26)::(bX b1 #[vI (L.places),vI (L.sorts),vS a1 a0.length a2,vS a8 L.keeps.length a9,vS a5 L.slips.length a6] 26)::[]) ((a4++F)) (ox 1 [(15,vP b1 2)] ?_);refine AF (dlb 16 1 2 b1 (vS a1 a0.length a2)) (ox 1 [(17,vS f8 (L.start.getD (k) []).length f9)] ?_);refine OV (sc (some 18) (F:=((bX b3 #[vI (0),vI (0),vN,vN,vN] 26)::(bX b1 #[vI (L.places),vI (L.sorts),vS a1 a0.length a2,vS a8 L.keeps.length a9,vS a5 L.slips.length a6] 26)::(a4++F))) (NU _ _ _ e5 (by have hq:=hg.rows _ (BA (xs:=L.start) (d:=[]) (k:=k) (by omega));have p1:=hg.sorts;omega) :) (PR _) (fun o0 I6 n7 d4 l5=>?_));obtain ⟨p2,g5,k5,e8,f5⟩:=l5;rw [k5,e8];clear k5 e8;replace c1:=c1.mono d4;replace b6:=b6.mono d4;replace a3:=a3.mono d4;obtain ⟨b7,b8,g1,k7⟩:=f5.shape;subst g1;refine hk_mem (M':=((g5++(bX b3 #[vI (0),vI (0),vN,vN,vN] 26)::(bX b1 #[vI (L.places),vI (L.sorts),vS a1 a0.length a2,vS a8 L.keeps.length a9,vS a5 L.slips.length a6] 26)::(a4++F)))) (fun w h=>by simpa only [AA,CA,NA] using h) ?_;refine JA (B:=((bX b3 #[vI (0),vI (0),vN,vN,vN] 26)::(bX b1 #[vI (L.places),vI (L.sorts),vS a1 a0.length a2,vS a8 L.keeps.length a9,vS a5 L.slips.length a6] 26)::(a4++F))) 0 f5 (by first | omega | (simp only [LS,LC,LN,LA,LK,LD] <;> omega) | decide) (PR _) (PR _) (fun l0 c5 c9=>?_);replace c1:=c1.mono c5;replace b6:=b6.mono c5;replace a3:=a3.mono c5;obtain ⟨h6,h8,h7,i1,d8,h9,i0,i2⟩:=id c9;cases d8;refine NK ?_;refine DI (S':=((a4++F))) (PR _) ?_;show OFP _ _ _ _ _ _ ((18,vS b7 ((L.start.getD (k) [])).length b8)::_) _ _;refine HN (sbs 19 29 1 #[vS b7 ((L.start.getD (k) [])).length b8] (fun l4=>?_));refine DI (S':=((bX l4 #[vS b7 ((L.start.getD (k) [])).length b8] 29)::(a4++F))) ((PS _ _ _).trans (PC _ (PS _ _ _))) ?_;refine IP (nm (nm ?_));refine sS (AZ (d:=20) (x:=(.tmp 16)) (y:=(.tmp 19)) (T:=22) (T':=22) (E:=29) (E':=29) (sz:=1) (bs:=24) (z:=vN) (cell:=CD) (xs:=a0) (ys:=[(vS b7 ((L.start.getD (k) [])).length b8:Value)]) (Ms:=a4) (ty:=22) (gd:=none) (by kernel_rfl) rfl (by kernel_rfl) (by kernel_rfl) (by kernel_rfl) (by kernel_rfl) (by kernel_rfl) (by decide) (by kernel_rfl) rfl rfl (b9) (PU (PU (PM.symm))) (HO rfl) (DL 2 rfl rfl) (by first | omega | (have hq:=a3.1;simp only [LC,LN,LA,LK,LD] at hq ⊢;omega)) (fun p5 e6 f1=>(AW (M':=((bX b3 #[vI (0),vI (0),vN,vN,vN] 26)::(bX b1 #[vI (L.places),vI (L.sorts),vS a1 a0.length a2,vS a8 L.keeps.length a9,vS a5 L.slips.length a6] 26)::(e6++F))) (fun w h=>(h.perm (((PA _ ((PC _ (PS _ _ _)).trans (PS _ _ _))).trans PM).trans (PC _ (PW PM)))).sub (TC _ (TR _))) ?_)));obtain ⟨e2,e3,k4,n1⟩:=f1.shape;subst k4;have f4:=(a3).snoc c9;refine sp 1 [(21,vP b1 2)] (sS (ss 1 2 b1 [vS e2 (a0++([(vS b7 ((L.start.getD (k) [])).length b8:Value)])).length e3] [vI (L.places),vI (L.sorts),vS e2 (a0++([(vS b7 ((L.start.getD (k) [])).length b8:Value)])).length e3,vS a8 L.keeps.length a9,vS a5 L.slips.length a6] (_::_::_) (cs:=[_,_,_,_,_]) rfl rfl (ee (NB (NX (rr (sd (da 22 (↑k) (1)) (sp 1 [(11,vI (↑k+1))] (ee ?_)))))))));refine AL (L.start.length-(k+1)) (by omega) ?_;intro a w hS hD hW;exact ⟨l0,k+1,vS e2 (a0++([(vS b7 ((L.start.getD (k) [])).length b8:Value)])).length e3,e6,a0++([(vS b7 ((L.start.getD (k) [])).length b8:Value)]),(IT (IT hJ0 d4) c5),by omega,((BZ (d:=[]) (xs:=L.start) (k:=k) (by omega)).symm▸f4),f1,hS.sub (.consE 11 rfl rfl (.cons 1 rfl (.cons 2 rfl (.cons 9 rfl (.cons 10 rfl (.nil _)))))),hD,hW,rfl⟩
 have j7:=h1;have h1:=CV h1;refine CF 0 ((EP (EP (EB (NX (rq ?_))))));refine FB (B:=((bX b3 #[vI (0),vI (0),vN,vN,vN] 26)::(bX b1 #[vI (L.places),vI (L.sorts),vS a1 a0.length a2,vS a8 L.keeps.length a9,vS a5 L.slips.length a6] 26)::F)) undef b9 (by first | omega | (simp only [LS,LC,LN,LA,LK,LD] <;> omega) | decide) (PU (PM.symm)) (PR _) (fun o3 c6 d0=>?_);replace c1:=c1.mono c6;replace b6:=b6.mono c6;replace a3:=a3.mono c6;obtain ⟨i3,i5,i4,i8,d9,i6,i7,i9⟩:=id d0;cases d9;have a7:=a3.isRows d0;have e7:=a3.1;obtain ⟨g7,g9,g8,h3,g4,d7,h0,h2,h4,h5⟩:=id a7
 injection d7 with fr26_e1 fr26_e2 fr26_e3;subst fr26_e1;subst fr26_e3
 refine rd 7 [(0,true),(1,true),(3,true),(4,true),(2,false),(6,true),(5,false)] ((bX b3 #[vI (0),vI (0),vN,vN,vN] 26)::(bX b1 #[vI (L.places),vI (L.sorts),vS a1 a0.length a2,vS a8 L.keeps.length a9,vS a5 L.slips.length a6] 26)::[]) (F) (ox 1 [(23,vP b1 3)] ?_);refine AF (dlb 24 1 3 b1 (vS a8 L.keeps.length a9)) (ox 1 [(26,vP b1 4)] ?_);refine AF (dlb 27 1 4 b1 (vS a5 L.slips.length a6)) ?_;refine OV (sc (some 25) (F:=((bX b3 #[vI (0),vI (0),vN,vN,vN] 26)::(bX b1 #[vI (L.places),vI (L.sorts),vS a1 a0.length a2,vS a8 L.keeps.length a9,vS a5 L.slips.length a6] 26)::F)) (CloneKeep_ct _ _ _ c1 (by omega) :) (PR _) (fun o1 o4 n8 d1 j8=>?_));obtain ⟨p3,g6,f2,e9,f6⟩:=j8;rw [f2,e9];clear f2 e9;replace b6:=b6.mono d1;replace a7:=a7.mono d1;obtain ⟨b0,b2,g2,k8⟩:=f6.shape;subst g2;refine hk_mem (M':=((g6++(bX b3 #[vI (0),vI (0),vN,vN,vN] 26)::(bX b1 #[vI (L.places),vI (L.sorts),vS a1 a0.length a2,vS a8 L.keeps.length a9,vS a5 L.slips.length a6] 26)::F))) (fun w h=>by simpa only [AA,CA,NA] using h) ?_;refine JA (B:=((bX b3 #[vI (0),vI (0),vN,vN,vN] 26)::(bX b1 #[vI (L.places),vI (L.sorts),vS a1 a0.length a2,vS a8 L.keeps.length a9,vS a5 L.slips.length a6] 26)::F)) AQ f6 (by first | omega | (simp only [LS,LC,LN,LA,LK,LD] <;> omega) | decide) (PR _) (PR _) (fun o5 d2 c2=>?_);replace b6:=b6.mono d2;replace a7:=a7.mono d2;obtain ⟨j0,j2,j1,j5,e0,j3,j4,j6⟩:=id c2;cases e0;refine NK ?_;refine DI (S':=(F)) (PR _) ?_;show OFP _ _ _ _ _ _ ((25,vS b0 L.keeps.length b2)::_) _ _;refine ox 1 [(29,vP b1 3)] ?_;refine HN (sc (some 28) (F:=((bX b3 #[vI (0),vI (0),vN,vN,vN] 26)::(bX b1 #[vI (L.places),vI (L.sorts),vS a1 a0.length a2,vS a8 L.keeps.length a9,vS a5 L.slips.length a6] 26)::F)) (HS _ _ _ b6 (by omega) :) (PR _) (fun o2 o6 n9 d3 j9=>?_));obtain ⟨p4,d6,f3,f0,f7⟩:=j9;rw [f3,f0];clear f3 f0;replace a7:=a7.mono d3;replace c2:=c2.mono d3;obtain ⟨b4,b5,g3,k9⟩:=f7.shape;subst g3;refine DI (S':=((d6++F))) (PW PM) ?_;show OFP _ _ _ _ _ _ ((28,vS b4 L.slips.length b5)::_) _ _;refine IP (nm (nm ?_));refine sS (ss 1 3 b1 [vS b0 L.keeps.length b2] [vI (L.places),vI (L.sorts),vS a1 a0.length a2,vS b0 L.keeps.length b2,vS a5 L.slips.length a6] (_::_::_) (cs:=[_,_,_,_,_]) rfl rfl (sp 1 [(30,vP b1 4)] (sS (ss 1 4 b1 [vS b4 L.slips.length b5] [vI (L.places),vI (L.sorts),vS a1 a0.length a2,vS b0 L.keeps.length b2,vS b4 L.slips.length b5] (_::_::_) (cs:=[_,_,_,_,_]) rfl rfl (sn (sd (dnb 31 1 0 b1 [vI (L.places),vI (L.sorts),vS a1 a0.length a2,vS b0 L.keeps.length b2,vS b4 L.slips.length b5]) (sS (ss 0 0 b3 [vI (L.places),vI (L.sorts),vS a1 a0.length a2,vS b0 L.keeps.length b2,vS b4 L.slips.length b5] [vI (L.places),vI (L.sorts),vS a1 a0.length a2,vS b0 L.keeps.length b2,vS b4 L.slips.length b5] (_::_::_) (cs:=[_,_,_,_,_]) rfl rfl (se (BL (ppm (M':=((d6++(bX b3 #[vI (L.places),vI (L.sorts),vS a1 a0.length a2,vS b0 L.keeps.length b2,vS b4 L.slips.length b5] 26)::(bX b1 #[vI (L.places),vI (L.sorts),vS a1 a0.length a2,vS b0 L.keeps.length b2,vS b4 L.slips.length b5] 26)::F))) (PU (PM.symm)) (GG (t:=2) (T:=26) (n:=5) (d6) (by kernel_rfl) rfl (by kernel_rfl) rfl (BO (n:=5) (cs:=#[vI (L.places),vI (L.sorts),vS a1 a0.length a2,vS b0 L.keeps.length b2,vS b4 L.slips.length b5]) (b:=b3) (off:=0) (T:=26) (fz:=(0,0)) (vs:=[vI (L.places),vI (L.sorts),vS a1 a0.length a2,vS b0 L.keeps.length b2,vS b4 L.slips.length b5]) (by simp) rfl) (.inl ⟨by kernel_rfl,rfl⟩) (TA (TC _ (TC _ (TR _))) _) (IT (IT (IT (IT hJ0 c6) d1) d2) d3) ?_))))))))))));exact ⟨_,_,_,_,rfl,rfl,((JD (xs:=L.start) (k:=k) (by omega))▸a7),c2,f7⟩
noncomputable def c_Strike (p:List Nat):Code:=sub (AN Tryz.f39) p
theorem Strike_ct (I:Imm) (l:Value) (L:Lin) (ns:Value) (N:List Int) (l_f:IsLin I l L) (ns_f:BU I ns N):Ct Tryz.prog 39 #[l,ns] I ([]) (fun v I' M'=>∃ u0:Value,v=.tuple #[u0,vI ((BV L N).2)]∧M'=[]∧IsLin I' u0 ((BV L N).1)):=by
 obtain ⟨l1,l2,l3,o0,b8,b9,b6⟩:=id l_f;subst o0;obtain ⟨a2,a3,m4,m7,l5,g6,m5,m6,m8,m9⟩:=id b8;subst g6;obtain ⟨a4,a5,n0,n3,g7,n1,n2,n4⟩:=id b9;subst g7;obtain ⟨a0,a1,n5,n8,g8,n6,n7,n9⟩:=id b6;subst g8;obtain ⟨c1,c2,o1,o4,g9,o2,o3,c8⟩:=id ns_f;subst g9;refine fr (args:=[_,_]) (N:=42) Tryz.func39 (fun F=>?_);show Run _ _ (c_Strike []) _ _ [(0,.agg #[vI (L.places),vI (L.sorts),vS a2 L.start.length a3,vS a4 L.keeps.length a5,vS a0 L.slips.length a1]),(1,vS c1 N.length c2)] _ _;refine rnm (rqr ?_);refine sS (sb 2 26 #[vI (L.places),vI (L.sorts),vS a2 L.start.length a3,vS a4 L.keeps.length a5,vS a0 L.slips.length a1] (fun b1=>(sS (sal 4 26 #[vI (0),vI (0),vN,vN,vN] (fun b3=>(sp 1 [(5,vI (0))] (se (rq (rqr (sd (dnb 9 1 0 b1 [vI (L.places),vI (L.sorts),vS a2 L.start.length a3,vS a4 L.keeps.length a5,vS a0 L.slips.length a1]) (sd (dc 10 (fun I' hI=>(IW I' _ (L) ((FA b8 b9 b6).mono hI) :))) (sp 1 [(6,vI ((AR L)))] (sn (sp 2 [(12,.bool (!(cmp .eql ((AR L)) (0))))] (se (rc 12 rfl (fun h1=>?_) (fun h1=>?_)))))))))))))))))
 ·
  have g0:=h1;have h1:=BW (CY h1);refine rqr (sp 2 [(14,vI ((AR L))),(13,.agg #[vI (0),vI (0),vN,vN,vN])] (sS (ss 0 0 b3 [vI (0),vI (0),vN,vN,vN] [vI (0),vI (0),vN,vN,vN] (_::_::_) (cs:=[_,_,_,_,_]) rfl rfl (sp 1 [(5,vI ((AR L)))] (se (BL ((RP ?_))))))));have hE:=strikeE_1 (L:=L) (ns:=N) h1;refine KU (t:=4) (u:=5) (T:=26) (n:=5) [] (by kernel_rfl) rfl (by kernel_rfl) rfl (BO (n:=5) (cs:=#[vI (0),vI (0),vN,vN,vN]) (b:=b3) (off:=0) (T:=26) (fz:=(0,0)) (vs:=[vI (0),vI (0),vN,vN,vN]) (by simp) rfl) (.inl ⟨by kernel_rfl,rfl⟩) rfl (TC _ (TC _ (TR _))) (IR _) ?_;exact ⟨_,(by rw [hE]),rfl,((show (⟨0,0,[],[],[]⟩:Lin)=(BV L N).1 from by rw [hE];rfl)▸(FA (IsRows.nil _) (IsSl.nil _) (IsSl.nil _)))⟩
 have g0:=h1;have h1:=CC (CX h1);refine AO (NX (rq (rq ?_)));have hz:AR L=0:=by omega
 have hg:=KT hz;have q0:=hg.slips;refine rr (sp 3 [(17,vI (0)),(16,vI (↑(N.length))),(15,vS c1 N.length c2)] (se (rb 0 ?_)));refine rl (fun mz a w=>∃ J0:Imm,∃ k:Nat,(I.le J0)∧(k≤N.length)∧(DJ (EW L N) k=0)∧Slots 42 [(17,vI ↑k),(1,vS c1 N.length c2),(2,vP b1 0),(4,vP b3 0),(15,vS c1 N.length c2),(16,vI (↑(N.length)))] a∧a.defers=[]∧St J0 ((bX b3 #[vI (0),vI (0),vN,vN,vN] 26)::(bX b1 #[vI (L.places),vI (L.sorts),vS a2 L.start.length a3,vS a4 L.keeps.length a5,vS a0 L.slips.length a1] 26)::F) w∧mz=N.length-k) ?_ ?_
 ·intro a w hS hD hW;exact ⟨_,I,0,IR _,Nat.zero_le _,rfl,hS.sub (.cons 17 rfl (.cons 1 rfl (.cons 2 rfl (.cons 4 rfl (.cons 15 rfl (.cons 16 rfl (.nil _))))))),hD,hW,rfl⟩
 rintro mz a w ⟨J0,k,hJ0,hk,e9,hS,hD,hW,rfl⟩
 refine AV hS hD hW ?_;clear hS hD hW a w;replace b8:=b8.mono hJ0;replace b9:=b9.mono hJ0;replace b6:=b6.mono hJ0;replace ns_f:=ns_f.mono hJ0;replace c8:=c8.mono hJ0;refine rqr (sp 1 [(18,.bool (cmp .lss (↑k) (↑(N.length))))] (se (rq (rc 18 rfl (fun h2=>?_) (fun h2=>?_)))))
 ·
  have g1:=h2;have h2:=CL h2;refine AO (NX (rq (rb 1 (rqr (sp 1 [(19,vI (↑k))] (sd (di 20 1 (k) c8.addr) (sd (dl 21 (DN c8 (k) (by omega))) (sp 2 [(8,vI (N.getD (k) 0)),(7,vI (↑k))] (se (rb 2 (rq ?_)))))))))));refine rd 4 [(0,true),(1,true),(2,true),(3,false)] ((bX b3 #[vI (0),vI (0),vN,vN,vN] 26)::(bX b1 #[vI (L.places),vI (L.sorts),vS a2 L.start.length a3,vS a4 L.keeps.length a5,vS a0 L.slips.length a1] 26)::[]) (F) (ox 1 [(23,vP b1 4)] ?_);refine AF (dlb 24 1 4 b1 (vS a0 L.slips.length a1)) (ox 1 [(25,vI (N.getD (k) 0))] ?_);refine HN (sc (some 26) (F:=((bX b3 #[vI (0),vI (0),vN,vN,vN] 26)::(bX b1 #[vI (L.places),vI (L.sorts),vS a2 L.start.length a3,vS a4 L.keeps.length a5,vS a0 L.slips.length a1] 26)::F)) (LO _ (N.getD (k) 0) :) (PR _) (fun o8 I5 o5 b7 m3=>?_));obtain ⟨d1,l4,l0,h5⟩:=m3;rw [l4,l0];clear l4 l0;replace b8:=b8.mono b7;replace b9:=b9.mono b7;replace b6:=b6.mono b7;replace ns_f:=ns_f.mono b7;refine DI (S':=(F)) (PR _) ?_;show OFP _ _ _ _ _ _ ((26,.func (.func 129) #[] #[vP d1 0])::_) _ _;refine IP (nm (nm ?_));refine sd (dc 27 (fun I' hI=>(ConSlip_ct I' _ _ 129 ([vP d1 0]) (fun x=>decide (x.num=(N.getD (k) 0))) (b6.mono hI) (by kernel_rfl) (fun J hJ x=>num1_ct J x ((N.getD (k) 0)) d1 ((IT hI hJ).blk _ _ h5)) :))) (sp 2 [(22,.bool (!(L.slips.any (fun x=>decide (x.num=(N.getD (k) 0))))))] (se (rc 22 rfl (fun h3=>?_) (fun h3=>?_))))
  ·
   have g2:=h3;have h3:=CY h3;refine rqr (sp 1 [(29,.agg #[vI (0),vI (0),vN,vN,vN])] (sS (ss 0 0 b3 [vI (0),vI (0),vN,vN,vN] [vI (0),vI (0),vN,vN,vN] (_::_::_) (cs:=[_,_,_,_,_]) rfl rfl (sp 1 [(5,vI (3))] (se (BL ((RB (RB (RP (RP (RB (RP ?_)))))))))))));have hE:=strikeE_2 hz e9 (by omega) h3;refine KU (t:=4) (u:=5) (T:=26) (n:=5) [] (by kernel_rfl) rfl (by kernel_rfl) rfl (BO (n:=5) (cs:=#[vI (0),vI (0),vN,vN,vN]) (b:=b3) (off:=0) (T:=26) (fz:=(0,0)) (vs:=[vI (0),vI (0),vN,vN,vN]) (by simp) rfl) (.inl ⟨by kernel_rfl,rfl⟩) rfl (TC _ (TC _ (TR _))) (IT hJ0 b7) ?_;exact ⟨_,(by rw [hE]),rfl,((show (⟨0,0,[],[],[]⟩:Lin)=(BV L N).1 from by rw [hE];rfl)▸(FA (IsRows.nil _) (IsSl.nil _) (IsSl.nil _)))⟩
  have g2:=h3;have h3:=CX h3;refine rqr (sp 2 [(32,vI (↑k)),(31,vS c1 N.length c2)] ?_);have c4:=ns_f.cutHi (k) (by omega);obtain ⟨l6,l8,l7,m1,d0,l9,m0,m2⟩:=id c4;rw [d0] at c4;refine sd (EC (HK (x:=(.tmp 31)) (lo:=none) (hi:=(some (.tmp 32))) (T:=29) (e:=3) (sz:=1) (0) (k) (d:=33) (ty:=29) (gd:=none) (by kernel_rfl) rfl (by kernel_rfl) (by kernel_rfl) rfl (.inl ⟨rfl,rfl⟩) (.inr ⟨_,.i64,rfl,rfl⟩) (by omega) (by omega)) d0) (sp 1 [(34,vI (N.getD (k) 0))] (sd (dc 35 (fun I' hI=>(LF I' _ _ (N.getD (k) 0) (c4.mono hI) :))) (sp 1 [(30,.bool (decide ((N.getD (k) 0)∈(N.take (k)))))] (se (rc 30 rfl (fun h4=>?_) (fun h4=>?_))))))
  ·
   have g3:=h4;have h4:=dec_t h4;refine rqr (sp 1 [(36,.agg #[vI (0),vI (0),vN,vN,vN])] (sS (ss 0 0 b3 [vI (0),vI (0),vN,vN,vN] [vI (0),vI (0),vN,vN,vN] (_::_::_) (cs:=[_,_,_,_,_]) rfl rfl (sp 1 [(5,vI (4))] (se (BL ((RB (RB (RP (RP (RB (RP ?_)))))))))))));have hE:=strikeE_3 hz e9 (by omega) h3 h4;refine KU (t:=4) (u:=5) (T:=26) (n:=5) [] (by kernel_rfl) rfl (by kernel_rfl) rfl (BO (n:=5) (cs:=#[vI (0),vI (0),vN,vN,vN]) (b:=b3) (off:=0) (T:=26) (fz:=(0,0)) (vs:=[vI (0),vI (0),vN,vN,vN]) (by simp) rfl) (.inl ⟨by kernel_rfl,rfl⟩) rfl (TC _ (TC _ (TR _))) (IT hJ0 b7) ?_;exact ⟨_,(by rw [hE]),rfl,((show (⟨0,0,[],[],[]⟩:Lin)=(BV L N).1 from by rw [hE];rfl)▸(FA (IsRows.nil _) (IsSl.nil _) (IsSl.nil _)))⟩
  have g3:=h4;have h4:=dec_f h4;refine AO (NB (NB (NX (rr (sd (da 37 (↑k) (1)) (sp 1 [(17,vI (↑k+1))] (ee ?_)))))));refine AL (N.length-(k+1)) (by omega) ?_;intro a w hS hD hW;exact ⟨I5,k+1,(IT hJ0 b7),by omega,strike_next e9 h3 h4,hS.sub (.consE 17 rfl rfl (.cons 1 rfl (.cons 2 rfl (.cons 4 rfl (.cons 15 rfl (.cons 16 rfl (.nil _))))))),hD,hW,rfl⟩
 have g1:=h2;have h2:=CV h2;refine CF 0 ((EP (EP (EB (NX (rqr (sd (dnb 38 1 0 b1 [vI (L.places),vI (L.sorts),vS a2 L.start.length a3,vS a4 L.keeps.length a5,vS a0 L.slips.length a1]) (sS (sc (some 39) (copied_ct _ _ (L) (FA b8 b9 b6) (by assumption) :) (.refl _) (fun o9 p7 o6 c9 g4=>?_))))))))));obtain ⟨p1,p2,p3,f2,e2,e0,e5,e4,e6⟩:=g4;rw [e2,e0];clear e2 e0;replace ns_f:=ns_f.mono c9;have a6:=e5;have a7:=e4;obtain ⟨h6,h8,h7,i1,f0,d3,h9,i0,i2,i3⟩:=id a6;obtain ⟨i4,i6,i5,i9,d4,i7,i8,j0⟩:=id a7;subst d3;subst d4;obtain ⟨j1,j2,d5,j3⟩:=e6.shape;subst d5;refine pm (M':=((bX b3 #[vI (0),vI (0),vN,vN,vN] 26)::(bX b1 #[vI (L.places),vI (L.sorts),vS a2 L.start.length a3,vS a4 L.keeps.length a5,vS a0 L.slips.length a1] 26)::(f2++F))) (PW PM) (sfz (A:=((bX b3 #[vI (0),vI (0),vN,vN,vN] 26)::(bX b1 #[vI (L.places),vI (L.sorts),vS a2 L.start.length a3,vS a4 L.keeps.length a5,vS a0 L.slips.length a1] 26)::F)) AB e6 (PU (PM.symm)) (fun p8 c0 c3=>?_));replace ns_f:=ns_f.mono c0;replace a6:=a6.mono c0;replace a7:=a7.mono c0;obtain ⟨f3,f5,f4,f8,d2,f6,f7,f9⟩:=id c3;cases d2;refine sp 1 [(40,vS c1 N.length c2)] (sS (sc (some 41) (without_ct _ _ (L) _ _ (FA a6 a7 c3) ns_f (by assumption) :) (.refl _) (fun p0 p9 o7 d9 g5=>?_)));obtain ⟨q1,e3,e1,h0⟩:=g5;rw [e3,e1];clear e3 e1;have e8:=h0;obtain ⟨p4,p5,p6,e7,c5,c6,c7⟩:=id e8;subst e7;obtain ⟨a8,a9,j4,j7,f1,d6,j5,j6,j8,j9⟩:=id c5;subst d6;obtain ⟨b0,b2,k0,k3,d7,k1,k2,k4⟩:=id c6;subst d7;obtain ⟨b4,b5,k5,k8,d8,k6,k7,k9⟩:=id c7;subst d8;refine nm ?_;refine sS (ss 0 0 b3 [vI ((woL L N).places),vI ((woL L N).sorts),vS a8 ((woL L N).start).length a9,vS b0 ((woL L N).keeps).length b2,vS b4 ((woL L N).slips).length b5] [vI ((woL L N).places),vI ((woL L N).sorts),vS a8 ((woL L N).start).length a9,vS b0 ((woL L N).keeps).length b2,vS b4 ((woL L N).slips).length b5] (_::_::_) (cs:=[_,_,_,_,_]) rfl rfl (sp 1 [(5,vI (0))] (se (BL ?_))));have hE:=strikeE_4 hz e9 (by omega);refine KU (t:=4) (u:=5) (T:=26) (n:=5) [] (by kernel_rfl) rfl (by kernel_rfl) rfl (BO (n:=5) (cs:=#[vI ((woL L N).places),vI ((woL L N).sorts),vS a8 ((woL L N).start).length a9,vS b0 ((woL L N).keeps).length b2,vS b4 ((woL L N).slips).length b5]) (b:=b3) (off:=0) (T:=26) (fz:=(0,0)) (vs:=[vI ((woL L N).places),vI ((woL L N).sorts),vS a8 ((woL L N).start).length a9,vS b0 ((woL L N).keeps).length b2,vS b4 ((woL L N).slips).length b5]) (by simp) rfl) (.inl ⟨by kernel_rfl,rfl⟩) rfl (TC _ (TC _ (TR _))) (IT (IT (IT hJ0 c9) c0) d9) ?_;exact ⟨_,(by rw [hE]),rfl,((show woL L N=(BV L N).1 from by rw [hE])▸(FA c5 c6 c7))⟩
end Go.Proofs.YtgcemienebmdeaaGreat
namespace Go.Sh
open Go Go.Sl
def gAt (cs:List Car) (i:Nat):Int:=(cs.getD i noCar).grp
structure CarsInv (cs:List Car) (g l:Int):Prop where
  ok:∀ c∈cs,carErr c=0∧c.len≤3
  le:∀ i,i<cs.length→gAt cs i≤g
  run:∀ i j,i≤j→j<cs.length→gAt cs i=gAt cs j→gAt cs i≠0→∀ m,i≤m→m≤j→gAt cs m=gAt cs i
  g0:0≤g∧g≤3
  l0:0≤l∧l≤2
  last:0<l→1≤g∧(0<cs.length→gAt cs (cs.length-1)=g∨∀ i,i<cs.length→gAt cs i<g)
theorem CarsInv.nil:CarsInv [] 0 0:=⟨fun c h=>by simp at h,fun i h=>by simp at h,fun i j _ h=>by simp at h,by omega,by omega,fun h=>by omega⟩
theorem KR {cs:List Car} {c:Car} {i:Nat}:gAt (cs++[c]) i=if i<cs.length then gAt cs i else if i=cs.length then c.grp else 0:=by
  unfold gAt;simp only [List.getD]
  split
  · rename_i h;rw [List.getElem?_append_left h]
  · rename_i h
    rw [List.getElem?_append_right (by omega)]
    split
    · rename_i h2;simp [h2]
    · rename_i h2
      have:1≤i-cs.length:=by omega
      cases hh:i-cs.length with
      | zero=>omega
      | succ n=>simp [noCar]
theorem CarsInv.snoc {cs:List Car} {g l:Int} (h:CarsInv cs g l) {c:Car} (hc:carErr c=0∧c.len≤3) (hg:(0<l→c.grp=g)∧(¬ 0<l→c.grp=0)):CarsInv (cs++[c]) g (if 0<l then l-1 else l):=by
  have hg0:=h.g0;have hl0:=h.l0;have hle:c.grp≤g:=by by_cases hl:0<l;exact Int.le_of_eq (hg.1 hl);rw [hg.2 hl];omega
  refine ⟨fun x hx=>?_,fun i hi=>?_,?_,hg0,by split <;> omega,fun hl=>?_⟩
  · rcases List.mem_append.1 hx with hx | hx
    · exact h.ok x hx
    · simp at hx;subst hx;exact hc
  · rw [KR]
    split
    · rename_i h1;exact h.le i h1
    · split
      · exact hle
      · omega
  · intro i j hij hj e h0 m him hmj
    simp only [List.length_append,List.length_cons,List.length_nil] at hj;have A:∀ x,x<cs.length→gAt (cs++[c]) x=gAt cs x:=fun x hx=>by rw [KR,if_pos hx]
    have B:gAt (cs++[c]) cs.length=c.grp:=by rw [KR,if_neg (by omega),if_pos rfl]
    by_cases hj1:j<cs.length
    · rw [A i (by omega)] at e h0 ⊢
      rw [A j hj1] at e;rw [A m (by omega)];exact h.run i j hij hj1 e h0 m him hmj
    · have hj2:j=cs.length:=by omega
      subst hj2;rw [B] at e
      by_cases hi1:i<cs.length
      · rw [A i hi1] at e h0 ⊢
        by_cases hm1:m<cs.length
        · rw [A m hm1]
          by_cases hl:0<l
          · have hcg:=hg.1 hl
            rcases (h.last hl).2 (by omega) with hla | hla
            · exact h.run i (cs.length-1) (by omega) (by omega) (by rw [hla];omega) h0 m him (by omega)
            · have:=hla i hi1;omega
          · have:=hg.2 hl;omega
        · have hm2:m=cs.length:=by omega
          subst hm2;rw [B];exact e.symm
      · have hi2:i=cs.length:=by omega
        have hm2:m=i:=by omega
        rw [hm2]
  · have hl1 : 0 < l := by
      by_cases h1:0<l
      · exact h1
      · rw [if_neg h1] at hl;exact hl
    have:=h.last hl1;refine ⟨this.1,fun _=>.inl ?_⟩;have e:(cs++[c]).length-1=cs.length:=by simp
    rw [e,KR,if_neg (by omega),if_pos rfl];exact hg.1 hl1
structure Placed (cs:List Car) (T k a:Nat) (ts:List (List Int)):Prop where
  len:ts.length=T
  a0:a<T
  perm:ts.flatten.Perm (DF k)
  ex:∃ tr:Nat→Nat,(∀ i,i<T→ts.getD i []=(DF k).filter fun c=>decide (tr c.toNat=i))∧(∀ c,c<k→tr c<T)∧(∀ c,c+1<k→gAt cs (c+1)≠0→gAt cs (c+1)=gAt cs c→tr (c+1)=tr c)∧(0<k→tr (k-1)=a)
theorem mem_wholeL {n:Nat} {c:Int}:c∈DF n↔0≤c∧c<n:=by
  unfold DF;simp only [List.mem_map,List.mem_range]
  constructor
  · rintro ⟨i,hi,rfl⟩;omega
  · intro h;exact ⟨c.toNat,by omega,by omega⟩
theorem Placed.start {cs:List Car} {T:Nat} (hT:0<T):Placed cs T 0 0 (List.replicate T []):=by
  refine ⟨by simp,hT,by simp [DF],fun _=>0,fun i hi=>?_,fun c h=>by omega,fun c h=>by omega,fun h=>by omega⟩;simp [DF,List.getD,hi]
theorem ON:∀ (ts:List (List Int)) (a:Nat) (x:Int),a<ts.length→(ts.set a (ts.getD a []++[x])).flatten.Perm (ts.flatten++[x]):=by
  intro ts
  induction ts with
  | nil=>intro a x h;simp at h
  | cons t r ih=>
    intro a x h;cases a with
    | zero=>
      simp only [List.set_cons_zero,List.getD_cons_zero,List.flatten_cons,List.append_assoc];exact List.Perm.append_left t List.perm_append_comm
    | succ a=>
      simp only [List.set_cons_succ,List.getD_cons_succ,List.flatten_cons,List.append_assoc];exact List.Perm.append_left t (ih a x (by simpa using h))
theorem Placed.put {cs : List Car} {T k a a2 : Nat} {ts : List (List Int)} (h : Placed cs T k a ts) (h2 : a2 < T) (hs : k ≠ 0 → gAt cs k ≠ 0 → gAt cs k = gAt cs (k - 1) → a2 = a) :
    Placed cs T (k+1) a2 (ts.set a2 (ts.getD a2 []++[(k:Int)])):=by
  obtain ⟨tr,t1,t2,t3,t4⟩:=h.ex;have hl:=h.len;refine ⟨by rw [List.length_set];exact hl,h2,?_,fun c=>if c=k then a2 else tr c,fun i hi=>?_,fun c hc=>?_,fun c hc h0 he=>?_,fun _=>?_⟩
  · rw [LR]
    exact (ON ts a2 k (by omega)).trans (List.Perm.append_right _ h.perm)
  · have hf : (DF k).filter (fun c => decide ((if c.toNat = k then a2 else tr c.toNat) = i)) = ts.getD i [] := by
      rw [t1 i hi];refine List.filter_congr fun c hc=>?_
      have:=mem_wholeL.1 hc;rw [if_neg (by omega)]
    rw [LR,List.filter_append,hf]
    by_cases e:a2=i
    · subst e
      simp [List.getD,List.getElem?_set,hl,hi]
    · simp [List.getD,List.getElem?_set,e]
  · show (if c=k then a2 else tr c)<T
    split
    · exact h2
    · exact t2 c (by omega)
  · show (if c+1=k then a2 else tr (c+1))=(if c=k then a2 else tr c)
    by_cases e1:c+1=k
    · have e3:¬ c=k:=by omega
      rw [if_pos e1,if_neg e3];have:=hs (by omega) (by rw [← e1];exact h0) (by rw [← e1];exact he);rw [this,← t4 (by omega),← e1];rfl
    · have e3:¬ c=k:=by omega
      rw [if_neg e1,if_neg e3];exact t3 c (by omega) h0 he
  · simp
theorem sorted_prev {l:List Int} (hs:l.Pairwise (·<·)) {j:Nat} (hj:j<l.length) (hm:l.getD j 0-1∈l):0<j∧l.getD (j-1) 0=l.getD j 0-1:=by
  obtain ⟨m,hm1,hm2⟩:=List.mem_iff_getElem.1 hm;have hlt:∀ (x y:Nat) (hx:x<l.length) (hy:y<l.length),x<y→l.getD x 0<l.getD y 0:=fun x y hx hy h=>by
    have:=List.pairwise_iff_getElem.1 hs x y hx hy h
    simpa [List.getD,hx,hy] using this
  have e:l.getD m 0=l.getD j 0-1:=by simpa [List.getD,hm1] using hm2
  have h1:m<j:=by
    rcases Nat.lt_trichotomy m j with h | h | h
    · exact h
    · subst h;omega
    · have:=hlt j m hj hm1 h;omega
  rcases Nat.lt_or_ge m (j-1) with h2 | h2
  · have a:=hlt m (j-1) hm1 (by omega) h2
    have b:=hlt (j-1) j (by omega) hj (by omega);omega
  · have:m=j-1:=by omega
    subst this;exact ⟨by omega,e⟩
theorem wholeL_sorted (n:Nat):(DF n).Pairwise (·<·):=by
  unfold DF;rw [List.pairwise_map];exact List.pairwise_lt_range.imp fun h=>by omega
theorem Placed.groups {cs:List Car} {T a:Nat} {ts:List (List Int)} {g l:Int} (h:Placed cs T cs.length a ts) (hc:CarsInv cs g l):GrpFrom cs ts []:=by
  obtain ⟨tr,t1,t2,t3,t4⟩:=h.ex;have hmem:∀ i,i<T→∀ c,c∈ts.getD i []↔(0≤c∧c<cs.length)∧tr c.toNat=i:=fun i hi c=>by
    rw [t1 i hi,List.mem_filter,mem_wholeL,decide_eq_true_eq]
  have hgrp:∀ c:Int,grp cs c=gAt cs c.toNat:=fun c=>rfl
  have hrun:∀ n x:Nat,x+n<cs.length→gAt cs x≠0→gAt cs x=gAt cs (x+n)→tr (x+n)=tr x:=by
    intro n
    induction n with
    | zero=>intro x _ _ _;rfl
    | succ n ih=>
      intro x hx h0 e;have e1:gAt cs (x+n)=gAt cs x:=hc.run x (x+(n+1)) (by omega) hx e h0 (x+n) (by omega) (by omega);have:=ih x (by omega) h0 e1.symm;rw [← this];exact t3 (x+n) (by omega) (by rw [show x+n+1=x+(n+1) by omega,← e];exact h0) (by rw [show x+n+1=x+(n+1) by omega,← e,e1])
  have hrun2:∀ x y:Nat,x<cs.length→y<cs.length→gAt cs x≠0→gAt cs x=gAt cs y→tr x=tr y:=fun x y hx hy h0 e=>by
    rcases Nat.le_total x y with hxy | hxy
    · have:=hrun (y-x) x (by omega) h0 (by rw [show x+(y-x)=y by omega];exact e)
      rw [show x+(y-x)=y by omega] at this;exact this.symm
    · have:=hrun (x-y) y (by omega) (by rw [← e];exact h0) (by rw [show y+(x-y)=x by omega];exact e.symm)
      rw [show y+(x-y)=x by omega] at this;exact this
  intro i j hi hj h0 hm;rw [h.len] at hi;have hcm:(ts.getD i []).getD j 0∈ts.getD i []:=BA hj;obtain ⟨⟨c0,c1⟩,c2⟩:=(hmem i hi _).1 hcm
  generalize hcc:(ts.getD i []).getD j 0=c at hcm c0 c1 c2 h0 hm
  rcases hm with hm | ⟨c',hc',e⟩
  · simp at hm
  · rw [hgrp,hgrp] at e
    rw [hgrp] at h0;have hs:(ts.getD i []).Pairwise (·<·):=by rw [t1 i hi];exact (wholeL_sorted _).sublist List.filter_sublist
    have hc2:(0≤c'∧c'<cs.length)∧(tr c'.toNat<i∨c'∈(ts.getD i []).take j):=by
      rcases List.mem_append.1 hc' with hx | hx
      · obtain ⟨t,ht,hx⟩:=List.mem_flatten.1 hx
        obtain ⟨m,hm1,hm2⟩:=List.mem_iff_getElem.1 ht;have hm3:m<i∧m<ts.length:=by rw [List.length_take] at hm1;omega
        have e3:ts.getD m []=t:=by rw [← hm2];simp [List.getD,hm3.2]
        rw [← e3] at hx;obtain ⟨hb,ht2⟩:=(hmem m (by rw [← h.len];exact hm3.2) _).1 hx;exact ⟨hb,.inl (by omega)⟩
      · exact ⟨((hmem i hi _).1 (List.mem_of_mem_take hx)).1,.inr hx⟩
    obtain ⟨⟨d0,d1⟩,hd⟩:=hc2;have htr:=hrun2 c.toNat c'.toNat (by omega) (by omega) (by omega) e.symm;rcases hd with hd | hd
    · omega
    · obtain ⟨m,hm1,hm2⟩:=List.mem_iff_getElem.1 hd
      have hm3:m<j∧m<(ts.getD i []).length:=by rw [List.length_take] at hm1;omega
      have hlt:c'<c:=by
        have h1:=List.pairwise_iff_getElem.1 hs m j hm3.2 hj hm3.1;have e1:c'=(ts.getD i [])[m]:=by rw [← hm2];simp
        have e2:c=(ts.getD i [])[j]:=by rw [← hcc,List.getD,List.getElem?_eq_getElem hj];rfl
        rw [e1,e2];exact h1
      have e4:gAt cs (c.toNat-1)=gAt cs c'.toNat:=hc.run c'.toNat c.toNat (by omega) (by omega) e (by omega) (c.toNat-1) (by omega) (by omega);have e5:tr (c.toNat-1)=i:=by
        have:=hrun2 (c.toNat-1) c.toNat (by omega) (by omega) (by omega) (by omega);omega
      have hin:c-1∈ts.getD i []:=(hmem i hi _).2 ⟨by omega,by rw [show (c-1).toNat=c.toNat-1 by omega];exact e5⟩;have hp:=sorted_prev hs hj (by rw [hcc];exact hin);rw [hcc] at hp;unfold DA;have e6:((j:Int)-1).toNat=j-1:=by omega
      rw [show (↑j:Int).toNat=j by omega,e6,hp.2,hcc];have e7:inB ↑j 1 (↑(ts.getD i []).length-1)=true:=by simp only [inB,Bool.and_eq_true,decide_eq_true_eq];omega
      rw [e7];have e8:(JW cs c).grp=(JW cs (c-1)).grp:=by
        show gAt cs c.toNat=gAt cs (c-1).toNat;rw [show (c-1).toNat=c.toNat-1 by omega];omega
      rw [decide_eq_true (show 0<(JW cs c).grp from h0),decide_eq_true e8];rfl
structure Roomy (cs:List Car) (ts:List (List Int)) (k:Nat) (rm:List Int):Prop where
  len:rm.length=k
  ok:∀ n∈rm,0≤n∧n≤20
  fits:∀ i,i<k→lenOf cs (ts.getD i [])≤rm.getD i 0
theorem Roomy.nil (cs:List Car) (ts:List (List Int)):Roomy cs ts 0 []:=⟨rfl,fun n h=>by simp at h,fun i h=>by omega⟩
theorem Roomy.snoc {cs:List Car} {ts:List (List Int)} {k:Nat} {rm:List Int} (h:Roomy cs ts k rm) {n:Int} (hn:0≤n∧n≤20) (hf:lenOf cs (ts.getD k [])≤n):Roomy cs ts (k+1) (rm++[n]):=by
  have hl:=h.len;refine ⟨by simp [hl],fun x hx=>?_,fun i hi=>?_⟩
  · rcases List.mem_append.1 hx with hx | hx
    · exact h.ok x hx
    · simp at hx;subst hx;exact hn
  · by_cases e:i<k
    · have:=h.fits i e
      have e2:(rm++[n]).getD i 0=rm.getD i 0:=by simp only [List.getD];rw [List.getElem?_append_left (by omega)]
      rw [e2];exact this
    · have:i=k:=by omega
      subst this;have e2:(rm++[n]).getD i 0=n:=by simp only [List.getD];rw [List.getElem?_append_right (by omega),hl];simp
      rw [e2];exact hf
theorem Placed.tracks {cs:List Car} {T k a:Nat} {ts:List (List Int)} (h:Placed cs T k a ts):ts.flatten.length=k:=by rw [h.perm.length_eq,EN]
theorem Placed.tl {cs:List Car} {T k a:Nat} {ts:List (List Int)} (h:Placed cs T k a ts):∀ t∈ts,t.length≤k:=fun t ht=>by
  have:=GQ ht;rw [h.tracks] at this;exact this
theorem Placed.okAll {cs:List Car} {T a:Nat} {ts:List (List Int)} (h:Placed cs T cs.length a ts):OkAll cs ts:=fun t ht c hc=>
  mem_wholeL.1 (h.perm.mem_iff.1 (List.mem_flatten.2 ⟨t,ht,hc⟩))
theorem perm_sum {l m:List Int} (h:l.Perm m):l.sum=m.sum:=by
  induction h with
  | nil=>rfl
  | cons x _ ih=>simp [ih]
  | swap x y l=>simp only [List.sum_cons];omega
  | trans _ _ h1 h2=>exact h1.trans h2
theorem erase_perm {α:Type} {d:α} {l:List α} {i:Nat} (h:i<l.length):(l.getD i d::l.eraseIdx i).Perm l:=by
  have e:l=l.take i++l.getD i d::l.drop (i+1):=by rw [← LZ h,List.take_append_drop]
  rw [← erase_take];exact (List.perm_middle.symm).trans (List.Perm.of_eq e.symm)
structure Blk (cs:List Car) (bl:List (List Int)):Prop where
  one:∀ b∈bl,∀ x∈b,∀ y∈b,grp cs x=grp cs y
  apart:bl.Pairwise fun b c=>∀ x∈b,∀ y∈c,0<grp cs x→grp cs x≠grp cs y
theorem Blk.perm {cs:List Car} {bl bl':List (List Int)} (h:Blk cs bl) (p:bl.Perm bl'):Blk cs bl':=
  ⟨fun b hb=>h.one b (p.mem_iff.2 hb),(p.pairwise_iff (fun {b c} hbc x hx y hy h0 e=>hbc y hy x hx (by omega) e.symm)).1 h.apart⟩
def RowOk (cs:List Car) (t:List Int):Prop:=∀ k,k<t.length→0<grp cs (t.getD k 0)→(∃ c∈t.take k,grp cs c=grp cs (t.getD k 0))→0<k∧grp cs (t.getD (k-1) 0)=grp cs (t.getD k 0)
theorem OU {a b:List Int} {k:Nat}:(a++b).getD k 0=if k<a.length then a.getD k 0 else b.getD (k-a.length) 0:=by
  simp only [List.getD]
  split
  · rename_i h;rw [List.getElem?_append_left h]
  · rename_i h;rw [List.getElem?_append_right (by omega)]
theorem Blk.row {cs:List Car}:∀ {bl:List (List Int)},Blk cs bl→RowOk cs bl.flatten:=by
  intro bl
  induction bl with
  | nil=>intro _ k hk;simp at hk
  | cons b r ih=>
    intro h k hk h0 hc;have ih:=ih ⟨fun b hb=>h.one b (List.mem_cons_of_mem _ hb),(List.pairwise_cons.1 h.apart).2⟩;rw [List.flatten_cons] at hk h0 hc ⊢;obtain ⟨c,hc,e⟩:=hc
    by_cases hkb:k<b.length
    · have e0:(b++r.flatten).getD k 0=b.getD k 0:=by rw [OU,if_pos hkb]
      rw [List.take_append_of_le_length (by omega)] at hc;have hk0:0<k:=by
        rcases Nat.eq_zero_or_pos k with hz | hz
        · subst hz;simp at hc
        · exact hz
      refine ⟨hk0,?_⟩;rw [e0,OU,if_pos (by omega)];exact h.one b List.mem_cons_self _ (BA (by omega)) _ (BA hkb)
    · have e0:(b++r.flatten).getD k 0=r.flatten.getD (k-b.length) 0:=by rw [OU,if_neg hkb]
      rw [e0] at h0 e ⊢;have hk2:k-b.length<r.flatten.length:=by rw [List.length_append] at hk;omega
      have hmem:r.flatten.getD (k-b.length) 0∈r.flatten:=BA hk2;rw [List.take_append,List.take_of_length_le (by omega)] at hc;rcases List.mem_append.1 hc with hc | hc
      · exfalso
        obtain ⟨b2,hb2,hm2⟩:=List.mem_flatten.1 hmem;exact (List.pairwise_cons.1 h.apart).1 b2 hb2 c hc _ hm2 (by omega) e
      · obtain ⟨i1,i2⟩:=ih (k-b.length) hk2 h0 ⟨c,hc,e⟩
        refine ⟨by omega,?_⟩;rw [OU,if_neg (by omega),show k-1-b.length=k-b.length-1 by omega];exact i2
theorem coupled_of {cs:List Car} {t:List Int} {k:Nat} (hk:k<t.length) (h0:0<grp cs (t.getD k 0)) (h1:0<k) (e:grp cs (t.getD (k-1) 0)=grp cs (t.getD k 0)):DA cs t ↑k=true:=by
  rw [coupled_raw hk,show ((k:Int)-1).toNat=k-1 by omega,decide_eq_true (show 0<(k:Int) by omega),decide_eq_true (show 0<(JW cs (t.getD k 0)).grp from h0),decide_eq_true (show (JW cs (t.getD k 0)).grp=(JW cs (t.getD (k-1) 0)).grp from e.symm)];rfl
theorem coupled_to {cs:List Car} {t:List Int} {k:Nat} (hk:k<t.length) (h:DA cs t ↑k=true):0<k∧0<grp cs (t.getD k 0)∧grp cs (t.getD k 0)=grp cs (t.getD (k-1) 0):=by
  rw [coupled_raw hk,show ((k:Int)-1).toNat=k-1 by omega] at h;simp only [Bool.and_eq_true,decide_eq_true_eq] at h;exact ⟨by omega,h.2.1,h.2.2⟩
theorem blocks_blk {cs : List Car} {t : List Int} (h : ∀ k, k < t.length → 0 < grp cs (t.getD k 0) → (∃ c ∈ t.take k, grp cs c = grp cs (t.getD k 0)) → DA cs t ↑k = true) :
    ∀ k,k≤t.length→Blk cs (BK cs t k)∧(0<k→∃ ys y,BK cs t k=ys++[y]∧t.getD (k-1) 0∈y):=by
  intro k
  induction k with
  | zero=>intro _;exact ⟨⟨fun b hb=>by simp [BK] at hb,by simp [BK]⟩,fun h=>by omega⟩
  | succ k ih=>
    intro hk;obtain ⟨hb,hl⟩:=ih (by omega)
    by_cases hc:DA cs t ↑k=true
    · obtain ⟨c1,c2,c3⟩:=coupled_to (by omega) hc
      obtain ⟨ys,y,e,hy⟩:=hl c1;have e2:BK cs t (k+1)=ys++[y++[t.getD k 0]]:=by
        rw [blocksTo_yes hc,e];simp [List.getD]
      rw [e2];rw [e] at hb;have ho:=hb.one;have ha:=List.pairwise_append.1 hb.apart;refine ⟨⟨fun b hb2=>?_,List.pairwise_append.2 ⟨ha.1,by simp,fun b hb2 c hc2=>?_⟩⟩,fun _=>⟨ys,_,rfl,by simp⟩⟩
      · rcases List.mem_append.1 hb2 with hb2 | hb2
        · exact ho b (List.mem_append_left _ hb2)
        · have hb2:=List.mem_singleton.1 hb2
          subst hb2;have key:∀ x∈y++[t.getD k 0],grp cs x=grp cs (t.getD (k-1) 0):=fun x hx=>by
            rcases List.mem_append.1 hx with hx | hx
            · exact ho y (by simp) x hx _ hy
            · have hx:=List.mem_singleton.1 hx;subst hx;exact c3
          intro x hx z hz;rw [key x hx,key z hz]
      · have hc2:=List.mem_singleton.1 hc2
        subst hc2;intro x hx z hz h0;rcases List.mem_append.1 hz with hz | hz
        · exact ha.2.2 b hb2 y (by simp) x hx z hz h0
        · have hz:=List.mem_singleton.1 hz;subst hz
          rw [c3];exact ha.2.2 b hb2 y (by simp) x hx _ hy h0
    · have hc':DA cs t ↑k=false:=by simpa using hc
      rw [blocksTo_no hc'];refine ⟨⟨fun b hb2=>?_,List.pairwise_append.2 ⟨hb.apart,by simp,fun b hb2 c hc2=>?_⟩⟩,fun _=>⟨_,_,rfl,by simp⟩⟩
      · rcases List.mem_append.1 hb2 with hb2 | hb2
        · exact hb.one b hb2
        · have hb2:=List.mem_singleton.1 hb2
          subst hb2;intro x hx z hz;rw [List.mem_singleton.1 hx,List.mem_singleton.1 hz]
      · have hc2:=List.mem_singleton.1 hc2
        subst hc2;intro x hx z hz h0 e;have hz:=List.mem_singleton.1 hz;subst hz;refine hc (h k (by omega) (by omega) ⟨x,?_,e⟩);rw [← LW k (by omega)];exact List.mem_flatten.2 ⟨b,hb2,hx⟩
theorem rowsN_perm:∀ (n:Nat) (bl:List (List Int)),bl.length=n→∀ x∈rowsN n bl,∃ bl':List (List Int),bl'.Perm bl∧x=bl'.flatten:=by
  intro n
  induction n with
  | zero=>intro bl h x hx;simp [rowsN,ordN] at hx;subst hx;exact ⟨[],by rw [List.length_eq_zero_iff.1 h],rfl⟩
  | succ n ih=>
    intro bl h x hx;simp only [rowsN,ordN,ordFrom,List.mem_flatMap,List.mem_map] at hx;obtain ⟨i,hi,y,hy,rfl⟩:=hx;have hi:=List.mem_range'_1.1 hi;obtain ⟨bl',hp,rfl⟩:=ih _ (erase_len (k:=i) (by omega) h) y hy;refine ⟨bl.getD i []::bl',?_,rfl⟩;refine (List.Perm.cons _ hp).trans ?_;have hb:i<bl.length:=by omega
    exact erase_perm hb
theorem Fine.row {Y:Yard} (f:Fine Y) {r:List Int} (hr:r∈rowsN (HU Y.cars (trk Y 0)).length (HU Y.cars (trk Y 0))):Valid { Y with tracks:=Y.tracks.set 0 r }∧r.Perm (trk Y 0):=by
  have hlen:=f.len;have hr1:=f.room1;obtain ⟨t,ts,ht⟩:∃ t ts,Y.tracks=t::ts:=by
    cases hh:Y.tracks with
    | nil=>rw [hh] at hlen;simp at hlen;omega
    | cons t ts=>exact ⟨t,ts,rfl⟩
  have ht0:trk Y 0=t:=by show Y.tracks.getD 0 []=t;rw [ht];rfl
  rw [ht0] at hr ⊢;have hg:=groups_iff.1 f.groups;have hrow:∀ k,k<t.length→0<grp Y.cars (t.getD k 0)→(∃ c∈t.take k,grp Y.cars c=grp Y.cars (t.getD k 0))→DA Y.cars t ↑k=true:=fun k hk h0 hc=>by
    have:=hg 0 k (by rw [ht];simp) (by rw [ht];simpa using hk) (by rw [ht];simpa using h0) (.inr (by rw [ht];simpa using hc));rw [ht] at this;simpa using this
  obtain ⟨hb,_⟩:=blocks_blk hrow t.length (Nat.le_refl _);obtain ⟨bl',hp,rfl⟩:=rowsN_perm _ _ rfl r hr;have hflat:(HU Y.cars t).flatten=t:=by
    have:=LW (cs:=Y.cars) (t:=t) t.length (Nat.le_refl _);rw [List.take_length] at this;exact this
  have hperm:bl'.flatten.Perm t:=by
    have:=hp.flatten;rw [hflat] at this;exact this
  have hrok:=(Blk.perm hb hp.symm).row;refine ⟨Fine.valid ⟨f.cars,f.carOk,f.room1,f.room3,f.roomOk,by rw [List.length_set];exact f.len,?_,?_,?_,?_,?_⟩,hperm⟩
  all_goals simp only [ht,List.set_cons_zero]
  · intro x hx c hc
    have hok:=f.ok;rw [ht] at hok;rcases List.mem_cons.1 hx with e | hx
    · subst e;exact hok t List.mem_cons_self c (hperm.mem_iff.1 hc)
    · exact hok x (List.mem_cons_of_mem _ hx) c hc
  · have hn:=f.nodup
    rw [ht] at hn;rw [List.flatten_cons] at hn ⊢;exact (List.Perm.append_right _ hperm).nodup_iff.2 hn
  · intro k hk
    have hf:=f.fits;rw [ht] at hf;cases k with
    | zero=>
      have:=hf 0 (by simp);rw [List.getD_cons_zero] at this ⊢;have e:lenOf Y.cars bl'.flatten=lenOf Y.cars t:=by
        unfold lenOf;exact perm_sum (hperm.map _)
      rw [e];exact this
    | succ k=>simpa using hf (k+1) (by simpa using hk)
  · have ha:=f.all
    rw [ht] at ha;rw [List.flatten_cons,List.length_append] at ha ⊢;rw [hperm.length_eq];exact ha
  · refine groups_iff.2 ?_
    show GrpFrom Y.cars (bl'.flatten::ts) [];intro i k hi hk h0 hm;rcases hm with hm | ⟨c,hc,e⟩
    · simp at hm
    · cases i with
      | zero=>
        simp only [List.getD_cons_zero,List.take_zero,List.flatten_nil,List.nil_append] at hk h0 hc e ⊢;obtain ⟨h1,h2⟩:=hrok k hk h0 ⟨c,hc,e⟩;exact coupled_of hk h0 h1 h2
      | succ i=>
        have:=hg (i+1) k (by rw [ht];simpa using hi) (by rw [ht];simpa using hk) (by rw [ht];simpa using h0) (.inr ⟨c,by
          rw [ht]
          simp only [List.take_succ_cons,List.flatten_cons,List.getD_cons_succ,List.mem_append] at hc ⊢
          rcases hc with (hc | hc) | hc
          · exact .inl (.inl (hperm.mem_iff.1 hc))
          · exact .inl (.inr hc)
          · exact .inr hc,by rw [ht];simpa using e⟩)
        rw [ht] at this;simpa using this
section
variable {Y:Yard} {k:Nat}
end
section
variable {Y:Yard} {s:Shift} {k:Nat}
end
section
variable {Y:Yard} {goal:Yard→Bool} {d k:Nat} {ds:List Shift}
end
theorem deal_put {n k:Nat} (hk:k<n):(DF k++List.replicate (n-k) (0:Int)).set k (k:Int)=DF (k+1)++List.replicate (n-(k+1)) 0:=by
  rw [List.set_append_right _ _ (by rw [EN];omega),EN,Nat.sub_self,show n-k=(n-(k+1))+1 by omega,List.replicate_succ,List.set_cons_zero,LR];simp
theorem swap_perm {l:List Int} {i j:Nat} (hi:i<l.length) (hj:j<l.length):((l.set i (l.getD j 0)).set j (l.getD i 0)).Perm l:=by
  have e1:l.getD i 0=l[i]:=by simp [List.getD,hi]
  have e2:l.getD j 0=l[j]:=by simp [List.getD,hj]
  rw [e1,e2];exact List.set_set_perm hi hj
end Go.Sh
namespace Go.Sl
open Go
theorem own_val_int {E:TypeId} {v:Value} {M:Seg} {vs:List Value} {ys:List Int} (h:Own E 1 CD v vs M) (he:vs=ys.map fun n=>Value.int .i64 n):Own E 1 AJ v ys M:=by
  have e1:CI 1 CD vs=CI 1 AJ ys:=by
    rw [he,encL_vals];simp only [CI,AJ,List.range_one,List.map_cons,List.map_nil];exact List.map_eq_flatMap
  have e2:vs.length=ys.length:=by rw [he,List.length_map]
  rcases h with ⟨hv,hx,hM⟩ | ⟨b,c,sp,hv,hc,hM,hl⟩
  · refine .inl ⟨hv,?_,hM⟩
    rw [hx] at e2;exact List.length_eq_zero_iff.1 e2.symm
  · exact .inr ⟨b,c,sp,by rw [hv,e2],by rw [← e2];exact hc,by rw [← e1];exact hM,by rw [← e1];exact hl⟩
end Go.Sl
namespace Go.Sh
open Go Go.Sl
def yvD:Value × Value × Value:=(undef,undef,undef)
def YardsV (I:Imm) (xs:List (Value × Value × Value)) (Ys:List Yard):Prop:=xs.length=Ys.length∧∀ i,i<xs.length→IsYard I (.agg #[(xs.getD i yvD).1,(xs.getD i yvD).2.1,(xs.getD i yvD).2.2]) (Ys.getD i OG)
theorem YardsV.mono {I J:Imm} {xs:List (Value × Value × Value)} {Ys:List Yard} (h:YardsV I xs Ys) (le:I.le J):YardsV J xs Ys:=⟨h.1,fun i hi=>(h.2 i hi).mono le⟩
theorem YardsV.nil (I:Imm):YardsV I [] []:=⟨rfl,fun i hi=>by simp at hi⟩
theorem YardsV.snoc {I:Imm} {xs:List (Value × Value × Value)} {Ys:List Yard} {a b c:Value} {Y:Yard} (h:YardsV I xs Ys) (hY:IsYard I (.agg #[a,b,c]) Y):YardsV I (xs++[(a,b,c)]) (Ys++[Y]):=by
  refine ⟨by simp [h.1],fun i hi=>?_⟩;rw [List.length_append,List.length_singleton] at hi;have hl:=h.1
  by_cases hb:i<xs.length
  · have e1:(xs++[(a,b,c)]).getD i yvD=xs.getD i yvD:=by simp [List.getD,List.getElem?_append_left hb]
    have e2:(Ys++[Y]).getD i OG=Ys.getD i OG:=by simp [List.getD,List.getElem?_append_left (show i<Ys.length by omega)]
    rw [e1,e2];exact h.2 i hb
  · obtain rfl:i=xs.length:=by omega
    have e1:(xs++[(a,b,c)]).getD xs.length yvD=(a,b,c):=by simp [List.getD]
    have e2:(Ys++[Y]).getD xs.length OG=Y:=by simp [List.getD,hl]
    rw [e1,e2];exact hY
theorem YardsV.at {I : Imm} {xs : List (Value × Value × Value)} {Ys : List Yard} (h : YardsV I xs Ys) {i : Nat} (hi : i < xs.length) :
    ∃ a b c,xs.getD i yvD=(a,b,c)∧IsCars I a (Ys.getD i OG).cars∧BU I b (Ys.getD i OG).room∧IsRows I c (Ys.getD i OG).tracks:=by
  obtain ⟨v1,v2,v3,h1,h2,h3,h4⟩:=h.2 i hi;simp only [Value.agg.injEq] at h1;have e:=congrArg Array.toList h1;simp only [List.cons.injEq,and_true] at e;refine ⟨v1,v2,v3,?_,h2,h3,h4⟩;rw [← e.1,← e.2.1,← e.2.2]
def RowsS (I:Imm) (vs:List Value) (Ls:List (List Shift)):Prop:=vs.length=Ls.length∧∀ i,i<Ls.length→IsShifts I (vs.getD i undef) (Ls.getD i [])
theorem RowsS.mono {I J:Imm} {vs:List Value} {Ls:List (List Shift)} (h:RowsS I vs Ls) (le:I.le J):RowsS J vs Ls:=⟨h.1,fun i hi=>(h.2 i hi).mono le⟩
theorem RowsS.nil (I:Imm):RowsS I [] []:=⟨rfl,fun i hi=>by simp at hi⟩
theorem RowsS.snoc {I:Imm} {vs:List Value} {Ls:List (List Shift)} {v:Value} {l:List Shift} (h:RowsS I vs Ls) (hv:IsShifts I v l):RowsS I (vs++[v]) (Ls++[l]):=by
  have hl:=h.1;refine ⟨by simp [hl],fun i hi=>?_⟩;rw [List.length_append,List.length_singleton] at hi
  by_cases hb:i<Ls.length
  · have e1:(vs++[v]).getD i undef=vs.getD i undef:=by simp [List.getD,List.getElem?_append_left (show i<vs.length by omega)]
    have e2:(Ls++[l]).getD i []=Ls.getD i []:=by simp [List.getD,List.getElem?_append_left hb]
    rw [e1,e2];exact h.2 i hb
  · obtain rfl:i=Ls.length:=by omega
    have e1:(vs++[v]).getD Ls.length undef=v:=by simp [List.getD,← hl]
    have e2:(Ls++[l]).getD Ls.length []=l:=by simp [List.getD]
    rw [e1,e2];exact hv
structure Few (n:Nat) (Y:Yard):Prop where
  cars:Y.cars.length≤n
  room:Y.room.length≤n
  tracks:Y.tracks.length≤n
  each:∀ t∈Y.tracks,t.length≤n
theorem Fine.few {Y:Yard} (f:Fine Y):Few 20 Y:=by
  have h1:=f.cars;have h2:=f.room3;have h3:=f.len;refine ⟨by omega,by omega,by omega,fun t ht=>?_⟩;have:=GQ ht;have:=f.sum;omega
end Go.Sh
namespace Go.Sl
open Go
end Go.Sl
namespace Go.Sh
open Go Go.Sl
end Go.Sh
namespace Go.Sl
open Go
section
variable {P:Program} {N:Nat} {ops:Array Oper} {i d:Nat} {l:Sl} {I:Imm} {R:Seg} {ty:TypeId} {gd:Option (Nat × Bool)}
theorem det_remT {x y : Operand} {T T' : TypeId} {k : IntKind} {a b : Int} (hop : FM ops N i = some (some d, .binOp .rem T x y T', ty, gd)) (hg : EX ops l gd = some true)
    (hx:BS l x=some (.int k a)) (hy:BS l y=some (.int k b)) (hb:1≤b):Det P N ops i l I R d (.int k (a.tmod b)):=
  det_bin hop hg hx hy fun I' M'=>by
    have hne:b≠0:=by omega
    simp only [binOp,Op.intDiv,ne_eq,not_true_eq_false,if_false,if_neg hne];exact ⟨rfl,rfl⟩
end
theorem tmod_bounds {x:Int} {n:Nat} (hn:2≤n):-(n:Int)<x.tmod n∧x.tmod n<n:=
  ⟨by have:=Int.lt_tmod_of_pos x (show (0:Int)<n by omega);omega,Int.tmod_lt_of_pos x (by omega)⟩
theorem fold_nat {x:Int} {n:Nat} (hn:2≤n):∃ r:Nat,(x.tmod n+n)%(n:Int)=↑r∧r<n:=by
  have h1:=Int.emod_nonneg (x.tmod n+n) (show (n:Int)≠0 by omega);have h2:=Int.emod_lt_of_pos (x.tmod n+n) (show (0:Int)<n by omega);exact ⟨((x.tmod n+n)%(n:Int)).toNat,by omega,by omega⟩
end Go.Sl
namespace Go.Sh
open Go Go.Sl
end Go.Sh
namespace Go.Proofs.YtgcemienebmdeaaGreat
open Go Go.Sl Go.Sh
set_option maxRecDepth 100000
noncomputable def c_Deal (p:List Nat):Code:=sub (AN Tryz.f53) p
theorem Deal_ct (I:Imm) (p:Nat) (p_s:Int) (n:Nat) (hn:n≤1000):Ct Tryz.prog 53 #[vP p 0,vI ↑n] I ([(bX p #[.int .u64 (p_s)] 91)]) (fun v I' M'=>∃ p_t:Int,∃ l:List Int,∃ u:Value,∃ Ms:Seg,v=u∧M'=[(bX p #[.int .u64 (p_t)] 91)]++(Ms)∧(l.Perm (DF n))∧Own 3 1 AJ u (l) Ms):=by
 refine fr (args:=[_,_]) (N:=45) Tryz.func53 (fun F=>?_);show Run _ _ (c_Deal []) _ _ [(0,vP p 0),(1,vI (↑n))] _ _;refine rnm (rqr ?_);refine sp 1 [(4,vN)] (sn (sp 2 [(10,vI ((if (↑n:Int)<(0:Int) then 0 else ↑n)))] (CZ 10 rfl (show (vI ((if (↑n:Int)<(0:Int) then 0 else ↑n)):Value)=vI (↑n) from congrArg (Value.int .i64) (by split <;> omega)) (sS (MS (d:=11) (x:=(.tmp 10)) (T:=29) (E:=3) (bs:=8) (n:=n) (z:=vI (0)) (zv:=vI (0)) (ty:=29) (gd:=none) (by kernel_rfl) rfl (by kernel_rfl) (by kernel_rfl) (by kernel_rfl) rfl (by kernel_rfl) (by decide) rfl (by omega) (fun b1=>?_))))));have d5:Own 3 1 CD (vS (some ⟨b1,0,none⟩) n n) (List.replicate n (vI (0))) [(b1,Obj.cells (List.replicate n (vI (0))).toArray 3 (0,0))]:=Own.made _;obtain ⟨mS4,hmS4⟩:∃ X:Seg,X=[(b1,Obj.cells (List.replicate n (vI (0))).toArray 3 (0,0))]:=⟨_,rfl⟩;rw [← hmS4] at d5;refine AW (I':=I) (M':=((mS4++(bX p #[.int .u64 (p_s)] 91)::F))) (fun w h=>by rw [hmS4];exact h) (pm (M':=((bX p #[.int .u64 (p_s)] 91)::(mS4++F))) PM ?_);have d1:=own_val_int (ys:=List.replicate n (0:Int)) d5 (by rw [List.map_replicate]);refine sp 1 [(5,vS (some ⟨b1,0,none⟩) n n)] (se (rq (rqr (sp 1 [(6,vI (0))] (se (rb 0 ?_))))));refine rl (fun mz a w=>∃ k:Nat,∃ b2:Value,∃ a7:Seg,(k≤n)∧(Own 3 1 AJ b2 ((DF k++List.replicate (n-k) (0:Int))) a7)∧Slots 45 [(5,b2),(6,vI ↑k),(0,vP p 0),(1,vI (↑n)),(4,vN)] a∧a.defers=[]∧St I ((bX p #[.int .u64 (p_s)] 91)::(a7++F)) w∧mz=n-k) ?_ ?_
 ·intro a w hS hD hW;exact ⟨_,0,vS (some ⟨b1,0,none⟩) n n,mS4,Nat.zero_le _,(show Own _ _ _ _ (DF 0++List.replicate (n-0) (0:Int)) _ from d1),hS.sub (.cons 5 rfl (.cons 6 rfl (.cons 0 rfl (.cons 1 rfl (.cons 4 rfl (.nil _)))))),hD,hW,rfl⟩
 rintro mz a w ⟨k,b2,a7,hk,a8,hS,hD,hW,rfl⟩
 refine AV hS hD hW ?_;clear hS hD hW a w;obtain ⟨a5,a6,b4,c6⟩:=a8.shape;subst b4;have d7:=EN k;have e6:(DF k++List.replicate (n-k) (0:Int)).length=n:=by rw [LA,d7,List.length_replicate];omega
 refine rq (rqr (sp 3 [(14,.bool (cmp .lss (↑k) (↑n)))] (se (rc 14 rfl (fun h1=>?_) (fun h1=>?_)))))
 ·
  have c8:=h1;have h1:=CL h1;refine AO (NX (rq (rb 1 (rr (sp 3 [(19,vI (↑k)),(18,vI (↑k)),(17,vS a5 ((DF k++List.replicate (n-k) (0:Int))).length a6)] ?_)))));obtain ⟨e7,c5⟩:=a8.row 0;refine sd (di 20 1 (k) c5.addr) (sS (BG (T:=3) (x:=(.tmp 20)) (y:=(.tmp 19)) (rc:=fun i f=>AJ (((DF k++List.replicate (n-k) (0:Int))).getD i 0) f) 0 (k) 0 (↑k) (ty:=0) (gd:=none) (by kernel_rfl) rfl a8 c5 (by omega) (by decide) rfl rfl (by kernel_rfl) rfl rfl (by intro f hf;match f,hf with | 0,_=>rfl) (PM.symm) (fun d4 d6=>(pm (M':=((bX p #[.int .u64 (p_s)] 91)::(d4++F))) PM (ee (NB (NX (rr (sp 1 [(15,vI (↑k))] (sd (da 16 (↑k) (1)) (sp 1 [(6,vI (↑k+1))] (ee ?_))))))))))));refine AL (n-(k+1)) (by omega) ?_;intro a w hS hD hW;exact ⟨k+1,vS a5 ((DF k++List.replicate (n-k) (0:Int))).length a6,d4,by omega,(by rw [← deal_put (by omega)];exact d6),hS.sub (.consE 5 rfl rfl (.consE 6 rfl rfl (.cons 0 rfl (.cons 1 rfl (.cons 4 rfl (.nil _)))))),hD,hW,rfl⟩
 have c8:=h1;have h1:=CV h1;refine CF 0 ((EP (EP (EB (NX (rq (rqr (sp 1 [(21,vI (↑n))] (sd (dsb 22 (↑n) (1)) (sp 1 [(7,vI (↑n-1))] (se (rb 2 ?_))))))))))));refine rl (fun mz a w=>∃ J1:Imm,∃ k:Nat,∃ zs:List Int,∃ s:Int,∃ b3:Value,∃ a2:Seg,(I.le J1)∧(k≤n)∧(zs.Perm (DF n))∧(Own 3 1 AJ b3 (zs) a2)∧Slots 45 [(5,b3),(7,vI (↑k-1)),(0,vP p 0),(4,vN)] a∧a.defers=[]∧St J1 ((bX p #[.int .u64 (s)] 91)::(a2++F)) w∧mz=k+1) ?_ ?_
 ·intro a w hS hD hW;exact ⟨_,I,n,(DF n),p_s,vS a5 ((DF k++List.replicate (n-k) (0:Int))).length a6,a7,IR _,Nat.le_refl _,PR _,((show (DF k++List.replicate (n-k) (0:Int))=DF n from by rw [show k=n by omega,Nat.sub_self,List.replicate_zero,List.append_nil])▸a8),hS.sub (.cons 5 rfl (.cons 7 rfl (.cons 0 rfl (.cons 4 rfl (.nil _))))),hD,hW,rfl⟩
 rintro mz a w ⟨J1,k,zs,s,b3,a2,hJ1,hk,d3,a3,hS,hD,hW,rfl⟩
 refine AV hS hD hW ?_;clear hS hD hW a w;obtain ⟨a0,a1,b5,c7⟩:=a3.shape;subst b5;have d8:=d3.length_eq;rw [EN] at d8;refine rq (rqr (sp 2 [(24,.bool (cmp .gtr (↑k-1) (0)))] (se (rc 24 rfl (fun h2=>?_) (fun h2=>?_)))))
 ·
  have c9:=h2;have h2:=MG h2;refine AO (NX (rq (rb 3 (rqr (sp 2 [(28,vI (↑k-1)),(27,vP p 0)] (sS (sc (some 29) (F:=((a2++F))) (OL _ (p) (s) (↑k-1) (by omega) :) (.refl _) (fun e5 I9 e4 c1 d2=>?_))))))));obtain ⟨a4,a9,c4,c2,e3⟩:=d2;rw [c4,c2];clear c4 c2;refine nm ?_;refine sp 1 [(8,vI (↑a9))] (se ?_);refine rdX (M:=((bX p #[.int .u64 (a4)] 91)::(a2++[]))) (F0:=F) [] 14 [(0,true),(1,true),(2,true),(3,true),(4,true),(5,true),(6,true),(7,true),(8,true),(9,true),(10,true),(11,true),(12,true),(13,false)] (by simp only [AA,CA,NA,List.append_nil];exact PR _) HZ ?_;refine AG (AM (d:=30) (v:=vS a0 zs.length a1) (by kernel_rfl)) ?_;refine AG (AM (d:=31) (v:=vI (↑k-1)) (by kernel_rfl)) ?_;refine BB (AM (d:=32) (v:=vS a0 zs.length a1) (by kernel_rfl)) ?_;refine BB (AM (d:=33) (v:=vI (↑a9)) (by kernel_rfl)) ?_;refine AG (AM (d:=34) (v:=vS a0 zs.length a1) (by kernel_rfl)) ?_;refine AG (AM (d:=35) (v:=vI (↑a9)) (by kernel_rfl)) ?_;obtain ⟨d9,b6⟩:=a3.row 0;refine AG (di 36 1 (a9) b6.addr) ?_;refine AG (dl 37 (b6.get (a9) (by omega) 0 (by decide) _ _ (fun x hx=>by simp [hx]))) ?_;refine AG (AM (d:=38) (v:=vS a0 zs.length a1) (by kernel_rfl)) ?_;refine AG (AM (d:=39) (v:=vI (↑k-1)) (by kernel_rfl)) ?_;obtain ⟨e0,b7⟩:=a3.row 0;refine AG (diI 40 1 (↑k-1) b7.addr) ?_;refine AG (dl 41 (b7.get ((↑k-1:Int).toNat) (by omega) 0 (by decide) _ _ (fun x hx=>by simp [hx]))) ?_;obtain ⟨e1,b8⟩:=a3.row 0;refine AG (diI 42 1 (↑k-1) b8.addr) ?_;refine EM (Mx:=fun FX=>((bX p #[.int .u64 (a4)] 91)::(a2++FX))) rfl (fun FX=>by simp only [AA,CA,NA,List.append_nil];exact PR _) (fun FX=>?_);refine id (BG (T:=3) (x:=(.tmp 42)) (y:=(.tmp 37)) (rc:=fun i f=>AJ ((zs).getD i 0) f) 0 ((↑k-1:Int).toNat) 0 (zs.getD (a9) 0) (ty:=0) (gd:=none) (by kernel_rfl) rfl a3 b8 (by omega) (by decide) rfl rfl (by kernel_rfl) rfl rfl (by intro f hf;match f,hf with | 0,_=>rfl) (PM.symm) (fun b9 c3=>?_));refine GD (M1:=((bX p #[.int .u64 (a4)] 91)::(b9++[]))) (by simp only [AA,CA,NA,List.append_nil];exact PM) (.wait (by kernel_rfl) (.wait (by kernel_rfl) (.wait (by kernel_rfl) (.wait (by kernel_rfl) (.wait (by kernel_rfl) (.wait (by kernel_rfl) (.wait (by kernel_rfl) (.wait (by kernel_rfl) (.wait (by kernel_rfl) (.none (.none (.wait (by kernel_rfl) (.wait (by kernel_rfl) .nil))))))))))))) ?_;refine GC (AW (M':=((bX p #[.int .u64 (a4)] 91)::(b9++F))) (fun w h=>by simpa only [AA,CA,NA,List.append_nil] using h) (nm ?_));obtain ⟨e2,b0⟩:=c3.row 0;simp only [LS] at b0;refine sd (di 43 1 (a9) (fun _=>b0.addr (by omega)) (n:=zs.length)) (sS (BG (T:=3) (x:=(.tmp 43)) (y:=(.tmp 41)) (rc:=fun i f=>AJ ((zs.set ((↑k-1:Int).toNat) (zs.getD (a9) 0)).getD i 0) f) 0 (a9) 0 (zs.getD ((↑k-1:Int).toNat) 0) (ty:=0) (gd:=none) (by kernel_rfl) rfl c3 (by simpa only [LS] using b0) (by simp only [LS];omega) (by decide) rfl rfl (by kernel_rfl) rfl rfl (by intro f hf;match f,hf with | 0,_=>rfl) (PM.symm) (fun c0 d0=>(pm (M':=((bX p #[.int .u64 (a4)] 91)::(c0++F))) PM (ee (NB (NX (rr (sp 1 [(25,vI (↑k-1))] (sd (dsb 26 (↑k-1) (1)) (sp 1 [(7,vI ((↑k-1)-1))] (ee ?_))))))))))));refine AL (k-1+1) (by omega) ?_;intro a w hS hD hW;exact ⟨I9,k-1,(zs.set ((↑k-1:Int).toNat) (zs.getD (a9) 0)).set (a9) (zs.getD ((↑k-1:Int).toNat) 0),a4,vS a0 zs.length a1,c0,(IT hJ1 c1),by omega,(swap_perm (by omega) (by omega)).trans d3,d0,hS.sub (.consE 5 rfl rfl (.consE 7 rfl (congrArg (Value.int .i64) (by omega)) (.cons 0 rfl (.cons 4 rfl (.nil _))))),hD,hW,rfl⟩
 have c9:=h2;have h2:=gtr_f h2;refine CF 2 ((EP (EP (EB (NX (rqr (sp 2 [(4,vS a0 zs.length a1)] (se (BL (AH (t:=4) ([(bX p #[.int .u64 (s)] 91)]++(a2)) (by kernel_rfl) rfl (by simp only [AA,NA,CA];exact (TK _ (TA (TR _) _))) hJ1 ?_))))))))));exact ⟨_,_,_,_,rfl,rfl,d3,a3⟩
end Go.Proofs.YtgcemienebmdeaaGreat
namespace Go.Sh
open Go Go.Sl
def KeepsOf (P:Int) (r:Int) (ks:List Keep):Prop:=ks.length≤4∧∀ j,j<ks.length→let k:=ks.getD j AQ;(0≤k.place∧k.place≤P-1)∧(7*(r-j)≤k.hour∧k.hour≤7*(r-j)+6)∧(1≤k.who∧k.who≤9)
theorem KeepsOf.nil {P r:Int}:KeepsOf P r []:=⟨Nat.zero_le _,fun j hj=>absurd hj (Nat.not_lt_zero _)⟩
theorem KeepsOf.snoc {P r:Int} {ks:List Keep} {k:Keep} (h:KeepsOf P r ks) (hl:ks.length<4) (hp:0≤k.place∧k.place≤P-1) (hh:7*(r-ks.length)≤k.hour∧k.hour≤7*(r-ks.length)+6) (hw:1≤k.who∧k.who≤9):KeepsOf P r (ks++[k]):=by
  refine ⟨by simp;omega,fun j hj=>?_⟩;rcases Nat.lt_or_ge j ks.length with h1 | h1
  · have:=h.2 j h1
    simpa only [List.getD,List.getElem?_append_left h1] using this
  · have e:j=ks.length:=by simp at hj;omega
    subst e;have:(ks++[k]).getD ks.length AQ=k:=by simp [List.getD]
    rw [this];exact ⟨hp,hh,hw⟩
def SlipsOf (P Q:Int) (dl:List Int) (i:Nat) (sl:List Slip):Prop:=sl.length≤i∧(∀ s∈sl,∀ L:Lin,L.places=P→L.sorts=Q→DT L s=0)∧(sl.map (·.num)).Nodup∧∀ s∈sl,∃ j,j<i∧s.num=1+dl.getD j 0
theorem SlipsOf.nil {P Q:Int} {dl:List Int}:SlipsOf P Q dl 0 []:=⟨Nat.le_refl _,fun s hs=>absurd hs List.not_mem_nil,List.nodup_nil,fun s hs=>absurd hs List.not_mem_nil⟩
theorem SlipsOf.skip {P Q:Int} {dl:List Int} {i:Nat} {sl:List Slip} (h:SlipsOf P Q dl i sl):SlipsOf P Q dl (i+1) sl:=⟨by have:=h.1;omega,h.2.1,h.2.2.1,fun s hs=>by obtain ⟨j,h1,h2⟩:=h.2.2.2 s hs;exact ⟨j,by omega,h2⟩⟩
theorem SlipsOf.snoc {P Q:Int} {dl:List Int} {i:Nat} {sl:List Slip} {s:Slip} (h:SlipsOf P Q dl i sl) (hd:dl.Nodup) (hi:i<dl.length) (hn:s.num=1+dl.getD i 0) (hs:∀ L:Lin,L.places=P→L.sorts=Q→DT L s=0):SlipsOf P Q dl (i+1) (sl++[s]):=by
  refine ⟨by have:=h.1;simp;omega,fun t ht=>?_,?_,fun t ht=>?_⟩
  · rcases List.mem_append.1 ht with ht | ht
    · exact h.2.1 t ht
    · simp only [List.mem_singleton] at ht;subst ht;exact hs
  · rw [List.map_append,List.map_cons,List.map_nil]
    refine List.nodup_append.2 ⟨h.2.2.1,by simp,fun a ha b hb=>?_⟩;simp only [List.mem_singleton] at hb;obtain ⟨t,ht,rfl⟩:=List.mem_map.1 ha;obtain ⟨j,hj,e⟩:=h.2.2.2 t ht;intro e2;rw [hb,hn] at e2;have e3:dl.getD j 0=dl.getD i 0:=by omega
    have hj2:j<dl.length:=by omega
    have:j=i:=(List.getElem_inj (h₀:=hj2) (h₁:=hi) hd).1 (by simpa [List.getD,hj2,hi] using e3);omega
  · rcases List.mem_append.1 ht with ht | ht
    · obtain ⟨j,h1,h2⟩:=h.2.2.2 t ht;exact ⟨j,by omega,h2⟩
    · simp only [List.mem_singleton] at ht;subst ht;exact ⟨i,by omega,hn⟩
theorem HQ {P Q:Int} {s:Slip} (h1:1≤s.num∧s.num≤999) (h2:0≤s.hour∧s.hour≤200) (h3:1≤s.kind∧s.kind≤6) (h4:0≤s.place∧s.place≤P-1) (h5:s.kind=1→(0≤s.to∧s.to≤P-1)∧s.to≠s.place) (h6:s.kind≠1→s.to=0) (h7:0≤s.sort∧s.sort≤Q-1) (h8:s.soil=true→s.kind=1∨s.kind=4) (h9:s.kind=4∨1≤s.amt) (h10:0≤s.amt∧s.amt≤50):∀ L:Lin,L.places=P→L.sorts=Q→DT L s=0:=by
  intro L hP hQ;have t:∀ {n lo hi:Int},lo≤n∧n≤hi→¬ inB n lo hi=false:=fun h e=>by
    rw [show inB _ _ _=true from by simpa [inB] using h] at e;cases e
  unfold DT
  rw [hP,hQ,if_neg (t h1),if_neg (t h2),if_neg (t h3),if_neg (t h4),if_neg (fun e=>t (h5 e.1).1 e.2),if_neg (fun e=>(h5 e.1).2 e.2),if_neg (fun e=>e.2 (h6 e.1)),if_neg (t h7),
    if_neg (fun e=>(h8 e.1).elim e.2.1 e.2.2),if_neg (t (by split <;> omega))]
def RowsB (B:Int) (n:Nat) (xss:List (List Int)):Prop:=∀ r∈xss,r.length=n∧∀ x∈r,0≤x∧x≤B
theorem RowsB.nil {B:Int} {n:Nat}:RowsB B n []:=fun r hr=>by cases hr
theorem RowsB.snoc {B:Int} {n:Nat} {xss:List (List Int)} {r:List Int} (h:RowsB B n xss) (hl:r.length=n) (hr:∀ x∈r,0≤x∧x≤B):RowsB B n (xss++[r]):=fun q hq=>by
  rcases List.mem_append.1 hq with hq | hq
  · exact h q hq
  · simp only [List.mem_singleton] at hq;subst hq;exact ⟨hl,hr⟩
theorem RowsB.mono {B B':Int} {n:Nat} {xss:List (List Int)} (h:RowsB B n xss) (hb:B≤B'):RowsB B' n xss:=fun r hr=>⟨(h r hr).1,fun x hx=>by have:=(h r hr).2 x hx;omega⟩
theorem RowsB.set {B:Int} {n p i:Nat} {xss:List (List Int)} {v:Int} (h:RowsB B n xss) (hp:p<xss.length) (hv:0≤v∧v≤B):RowsB B n (xss.set p ((xss.getD p []).set i v)):=fun r hr=>by
  rcases List.mem_or_eq_of_mem_set hr with hr | rfl
  · exact h r hr
  · have h1:=h _ (BA (xs:=xss) (d:=[]) hp)
    refine ⟨by rw [List.length_set];exact h1.1,fun x hx=>?_⟩;rcases List.mem_or_eq_of_mem_set hx with hx | rfl
    · exact h1.2 x hx
    · exact hv
theorem RowsB.at {B:Int} {n p i:Nat} {xss:List (List Int)} (h:RowsB B n xss) (hp:p<xss.length) (hi:i<n):(xss.getD p []).length=n∧0≤(xss.getD p []).getD i 0∧(xss.getD p []).getD i 0≤B:=by
  have h1:=h _ (BA (xs:=xss) (d:=[]) hp);exact ⟨h1.1,h1.2 _ (BA (xs:=xss.getD p []) (d:=0) (by rw [h1.1];exact hi))⟩
theorem drawn_book {P Q:Int} {n:Nat} {st:List (List Int)} {ks:List Keep} {sl:List Slip} {r:Int} {dl:List Int} {i:Nat} (hP:1≤P∧P≤4) (hQ:1≤Q∧Q≤2) (hn:(n:Int)=Q) (hs:(st.length:Int)=P) (hr:RowsB 50 n st) (hr4:0≤r∧r≤4) (hkr:(ks.length:Int)≤r) (hk:KeepsOf P r ks) (hsl:SlipsOf P Q dl i sl) (hi:i≤8):GoodL ⟨P,Q,st,ks,sl⟩:=by
  have t:∀ {n lo hi:Int},lo≤n∧n≤hi→¬ inB n lo hi=false:=fun h e=>by
    rw [show inB _ _ _=true from by simpa [inB] using h] at e;cases e
  refine ⟨hP,hQ,hs,fun q hq=>by rw [(hr q hq).1,hn],fun q hq x hx=>(hr q hq).2 x hx,hk.1,fun k hk2=>?_,Nat.le_trans hsl.1 hi,fun k hk2=>?_⟩
  · obtain ⟨h1,h2,h3⟩:=hk.2 k hk2
    unfold FG;simp only;have hk3:(k:Int)<ks.length:=by exact_mod_cast hk2
    rw [if_neg (t h1),if_neg (t (by omega)),if_neg (t h3),if_neg];intro e;obtain ⟨x,hx,hx2⟩:=List.any_eq_true.1 e;obtain ⟨j,hj,rfl⟩:=List.mem_take_iff_getElem.1 hx;have hj2:j<ks.length:=by omega
    have h4:=(hk.2 j hj2).2.1;simp only [Bool.and_eq_true,decide_eq_true_eq] at hx2;have e4:(ks.getD j AQ)=ks[j]:=by simp [List.getD,hj2]
    rw [e4,hx2.2] at h4;have:j<k:=by omega
    omega
  · have h1:=hsl.2.1 _ (BA (xs:=sl) (d:=AB) hk2) ⟨P,Q,st,ks,sl⟩ rfl rfl
    unfold CN;rw [if_neg (fun h=>h h1),if_neg];intro e;unfold hasNum at e;obtain ⟨x,hx,hx2⟩:=List.any_eq_true.1 e;obtain ⟨j,hj,rfl⟩:=List.mem_take_iff_getElem.1 hx;have hj':j<min k sl.length:=hj;have hj2:j<sl.length:=by omega
    have hnd:=hsl.2.2.1;simp only [decide_eq_true_eq] at hx2;have:j=k:=(List.getElem_inj (h₀:=by simpa using hj2) (h₁:=by simpa using hk2) hnd).1 (by simpa [List.getD,hk2] using hx2);omega
end Go.Sh
namespace Go.Sl
open Go
theorem MR {α:Type} {d:α}:∀ (vs:List α) (i:Nat),vs.set i (vs.getD i d)=vs
  | [],_=>rfl
  | _::_,0=>rfl
  | v::vs,i+1=>by
    show v::vs.set i (vs.getD i d)=v::vs;rw [MR vs i]
theorem OwnEach.same {E:TypeId} {vs:List Value} {i:Nat} {v':Value} {xss:List (List Int)} {M:Seg} (h:OwnEach E (vs.set i v') xss M) (e:vs.getD i undef=v'):OwnEach E vs xss M:=by
  subst e;rwa [MR] at h
theorem fold_mod {x:Int} {n:Nat}:(x.tmod n+n)%(n:Int)=x%n:=by
  rw [Int.add_emod_right,Int.tmod_def,Int.sub_eq_add_neg,← Int.mul_neg,Int.add_mul_emod_self_left]
end Go.Sl
namespace Go.Sh
open Go Go.Sl
theorem inb_snoc {B:Int} {l:List Int} {x:Int} (h:∀ x∈l,0≤x∧x≤B) (hx:0≤x∧x≤B):∀ y∈l++[x],0≤y∧y≤B:=fun y hy=>by
  rcases List.mem_append.1 hy with hy | hy
  · exact h y hy
  · simp only [List.mem_singleton] at hy;subst hy;exact hx
theorem inb_snoc2 {B:Int} {l:List Int} {x y:Int} (h:∀ x∈l,0≤x∧x≤B) (hx:0≤x∧x≤B) (hy:0≤y∧y≤B):∀ z∈l++[x,y],0≤z∧z≤B:=fun z hz=>by
  rcases List.mem_append.1 hz with hz | hz
  · exact h z hz
  · simp only [List.mem_cons,List.not_mem_nil,or_false] at hz
    rcases hz with rfl | rfl
    · exact hx
    · exact hy
theorem GK {l:List Int} {n:Nat} (h:l.Perm (DF n)):l.Nodup:=by
  exact h.nodup_iff.2 (List.Pairwise.map (fun i:Nat=>(i:Int)) (fun a b hab e=>hab (by exact_mod_cast e)) List.nodup_range)
theorem deal_at {l:List Int} {n t:Nat} (h:l.Perm (DF n)) (ht:t<l.length):0≤l.getD t 0∧l.getD t 0<n:=by
  have h1:=h.mem_iff.1 (BA (xs:=l) (d:=0) ht);unfold DF at h1;obtain ⟨a,ha,e⟩:=List.mem_map.1 h1;have:=List.mem_range.1 ha;omega
def RowB (B:Int) (n:Nat) (r:List Int):Prop:=r.length=n∧∀ x∈r,0≤x∧x≤B
theorem RowB.set {B:Int} {n i:Nat} {r:List Int} {v:Int} (h:RowB B n r) (hv:0≤v∧v≤B):RowB B n (r.set i v):=⟨by rw [List.length_set];exact h.1,fun x hx=>by
  rcases List.mem_or_eq_of_mem_set hx with hx | rfl
  · exact h.2 x hx
  · exact hv⟩
theorem RowB.at {B:Int} {n i:Nat} {r:List Int} (h:RowB B n r) (hi:i<n):r.length=n∧0≤r.getD i 0∧r.getD i 0≤B:=⟨h.1,h.2 _ (BA (xs:=r) (d:=0) (by rw [h.1];exact hi))⟩
theorem RowsB.row {B:Int} {n p:Nat} {xss:List (List Int)} (h:RowsB B n xss) (hp:p<xss.length):RowB B n (xss.getD p []):=h _ (BA (xs:=xss) (d:=[]) hp)
theorem RowsB.put {B:Int} {n p:Nat} {xss:List (List Int)} {r:List Int} (h:RowsB B n xss) (hr:RowB B n r):RowsB B n (xss.set p r):=fun q hq=>by
  rcases List.mem_or_eq_of_mem_set hq with hq | rfl
  · exact h q hq
  · exact hr
theorem ix_yes {so:Bool} {k:Int} (h:(so||(cmp .eql k 3||cmp .eql k 6))=true) (hs:so=true→k=1∨k=4):k≠2:=by
  intro e;subst e;cases so
  · simp [cmp] at h
  · have:=hs rfl;omega
theorem ix_no {so:Bool} {k:Int} (h:(so||(cmp .eql k 3||cmp .eql k 6))=false):k≠3:=by
  intro e;subst e;cases so <;> simp [cmp] at h
theorem other_place {p r n:Nat} {f:Int} (hp:p<n) (hf:1≤f∧f≤n-1) (hr:(r:Int)=(p+f)%n):r≠p:=by
  intro e;subst e;have h1:((r:Int)+f)/n=0∨((r:Int)+f)/n=1:=by
    have h2:0≤((r:Int)+f)/n:=Int.ediv_nonneg (by omega) (by omega);have h3:((r:Int)+f)/n<2:=Int.ediv_lt_of_lt_mul (by omega) (by omega);omega
  have h4:=Int.emod_add_mul_ediv ((r:Int)+f) n;rcases h1 with h1 | h1 <;> rw [h1] at h4 <;> omega
theorem small_nums {P Q:Int} {dl:List Int} {i:Nat} {sl:List Slip} (h:SlipsOf P Q dl i sl) (hd:dl.Perm (DF 20)) (hi:i≤20):∀ s∈sl,s.num≤20:=fun s hs=>by
  obtain ⟨j,h1,h2⟩:=h.2.2.2 s hs;have h3:=hd.length_eq;rw [EN] at h3;have:=deal_at hd (t:=j) (by omega);omega
end Go.Sh
