/- A part of the proof of the laws of this seat. -/
import Derived.Test.YtgcemienebmdeaaGreatP3
import Derived.Test.YtgcemienebmdeaaGreatP4
import Derived.Test.YtgcemienebmdeaaGreatP2
import Derived.Test.YtgcemienebmdeaaGreatP1
set_option linter.unusedVariables false
set_option linter.unusedSimpArgs false
namespace Go.Sh
open Go Go.Sl
def GB (p:Sh.Event→Bool) (l:List Sh.Event):List Int:=(l.filter p).map fun e=>e.slip.num
section
variable {p:Sh.Event→Bool} {l:List Sh.Event} {x:Sh.Event}
theorem numsP_t (h:p x=true):GB p l++[x.slip.num]=GB p (l++[x]):=by unfold GB;rw [List.filter_append,List.map_append];simp [h]
theorem numsP_f (h:p x=false):GB p l=GB p (l++[x]):=by unfold GB;rw [List.filter_append,List.map_append];simp [h]
theorem numsP_len:(GB p l).length≤l.length:=by unfold GB;rw [List.length_map];exact List.length_filter_le _ _
end
def FL (L:Lin):List Int × Int:=if AS L≠0 then ([],AS L) else (GB (fun _=>true) (CX L),0)
section
variable {L:Lin}
theorem orderE_1 (h:AS L≠0):FL L=([],AS L):=if_pos h
theorem QP (h:AS L=0):FL L=(GB (fun _=>true) (CX L),0):=if_neg (fun x=>x h)
end
end Go.Sh
namespace Go.Proofs.YtgcemienebmdeaaGreat
open Go Go.Sl Go.Sh
set_option maxRecDepth 100000
noncomputable def MV (p:List Nat):Code:=sub (AQ Tryz.f71) p
theorem numbersOf_ct (I:Imm) (l:Value) (L:Lin) (fq_id:FuncId) (fq_cv:List Value) (pq:Sh.Event→Bool) (l_f:IsLin I l L) (fq_c:DO Tryz.prog fq_id=true) (fq_h:∀ J,I.le J→∀ x:Sh.Event,CtV Tryz.prog fq_id (.agg #[vI x.slip.num,vI x.slip.hour,vI x.slip.kind,vI x.slip.place,vI x.slip.to,vI x.slip.sort,.bool x.slip.soil,vI x.slip.amt,vI x.gap,.bool x.below]::fq_cv).toArray J (.bool (pq x))) (hg:GoodL L):Ct Tryz.prog 71 #[l,.func (.func fq_id) #[] fq_cv.toArray] I ([]) (fun v I' M'=>∃ u:Value,∃ Ms:Seg,v=u∧M'=Ms∧Own 3 1 AK u (GB pq (CX L)) Ms):=by
 obtain ⟨l1,l2,l3,k7,c3,c4,c5⟩:=id l_f;subst k7;obtain ⟨a3,a4,j1,j4,i7,h7,j2,j3,j5,j6⟩:=id c3;subst h7;obtain ⟨a5,a6,j7,k0,h8,j8,j9,k1⟩:=id c4;subst h8;obtain ⟨a7,a8,k2,k5,h9,k3,k4,k6⟩:=id c5;subst h9;refine IC (fn:=Tryz.f71) (args:=[_,_]) (N:=21) Tryz.func71 rfl (by kernel_rfl) (Nat.le_of_ble_eq_true rfl) (fun F=>?_);show Run _ _ (MV []) _ _ [(0,.agg #[vI (L.places),vI (L.sorts),vS a3 L.start.length a4,vS a5 L.keeps.length a6,vS a7 L.slips.length a8]),(1,.func (.func fq_id) #[] fq_cv.toArray)] _ _;refine rnm (rqr ?_);refine sS (sb 2 26 #[vI (L.places),vI (L.sorts),vS a3 L.start.length a4,vS a5 L.keeps.length a6,vS a7 L.slips.length a8] (fun b1=>(sS (sb 3 105 #[.func (.func fq_id) #[] fq_cv.toArray] (fun b3=>(sp 1 [(4,vN)] (sn (sS (sal 5 29 #[vN] (fun b5=>(se (rq (rq ?_)))))))))))));refine GW (b:=b3) (o:=Obj.cells #[.func (.func fq_id) #[] fq_cv.toArray] 105 (0,0)) (M0:=((bX b5 #[vN] 29)::(bX b1 #[vI (L.places),vI (L.sorts),vS a3 L.start.length a4,vS a5 L.keeps.length a6,vS a7 L.slips.length a8] 26)::F)) (PS _ _ _) (fun I7 b8 c2=>?_);replace c3:=c3.mono b8;replace c4:=c4.mono b8;replace c5:=c5.mono b8;replace fq_h:=NW b8 fq_h;have m3:=hg.slips;refine rr (sd (dnb 7 1 0 b1 [vI (L.places),vI (L.sorts),vS a3 L.start.length a4,vS a5 L.keeps.length a6,vS a7 L.slips.length a8]) (sS (sc (some 8) (open_ct _ _ (L) (DL c3 c4 c5) :) (.refl _) (fun l5 m0 l0 b7 h5=>?_))));obtain ⟨i8,l7,l8,l9,d5,h0,g9,e2,d9,i1,i2⟩:=h5;rw [e2,d9];clear e2 d9;replace fq_h:=NW b7 fq_h;replace c2:=b7.blk _ _ c2;have b0:=i1;obtain ⟨a2,c9,d1,d3⟩:=id b0;obtain ⟨e7,e9,e8,f2,e4,c8,f0,f1,f3,f4⟩:=id c9;subst c8;obtain ⟨f5,f7,f6,g0,d0,f8,f9,g1⟩:=id d1;subst d0;obtain ⟨g2,g4,g3,g7,d2,g5,g6,g8⟩:=id d3;subst d2;refine nm ?_;refine sS (sc (some 9) (LF _ (i8) :) (.refl _) (fun l6 m1 l4 a9 h6=>?_));obtain ⟨d6,d7,k8,i6,i5,e3,e0,b9,c0,c1,i3⟩:=h6;rw [e3,e0];clear e3 e0;replace fq_h:=NW a9 fq_h;replace c2:=a9.blk _ _ c2;replace b0:=b0.mono a9;replace a2:=a9.blk _ _ a2;refine nm (se (rb 0 ?_))
 refine GF (α:=Sh.Event) (g:=(.tmp 9)) (ps:=#[10]) (assign:=MV [1,1,0,1,0,0]) (body:=MV [1,1,0,1,0,1]) (gf:=123) (cv:=[vP d6 0,vP d7 0]) (enc:=encEv) (seq:=(evs ((CG L)) (AE AC L.slips))) (R:=fun xs _ M=>EvR d5 ((CG L)) (AE AC L.slips) xs.length M) (Mr:=[(d5,Obj.map h0 g9)]) (M0:=((bX b5 #[vN] 29)::[])) (F0:=((bX b1 #[vI (L.places),vI (L.sorts),vS a3 L.start.length a4,vS a5 L.keeps.length a6,vS a7 L.slips.length a8] 26)::F))
  (fun xs I M=>∃ v Ms,M=(bX b5 #[v] 29)::Ms∧Own 3 1 AK v (GB pq xs) Ms) (fun _ _ _ _=>False) (fun x k=>[(3,vP b3 0),(4,vN),(5,vP b5 0),(6,vP k 0)]) (fun x k=>[(bX k #[vI (x.slip.num),vI (x.slip.hour),vI (x.slip.kind),vI (x.slip.place),vI (x.slip.to),vI (x.slip.sort),.bool (x.slip.soil),vI (x.slip.amt),vI (x.gap),.bool (x.below)] 102)])
  (by kernel_rfl) rfl (by kernel_rfl) (fun _=>rfl) (by kernel_rfl) (HK _ i8 d6 d7 k8 d5 _ _ _ _ _ L ((CG L)) b0 b9 c0 c1 i3 hg.goodS hg.within) (fun xs I J M _ h=>h) (PR _) ⟨_,_,rfl,i2⟩ ⟨_,[],rfl,Own.nil _ _ _⟩ ?_ ?_ ?_ ?_
 ·intro Lq x I1 M1;refine PE (l':=[(3,vP b3 0),(4,vN),(5,vP b5 0),(10,.agg #[vI (x.slip.num),vI (x.slip.hour),vI (x.slip.kind),vI (x.slip.place),vI (x.slip.to),vI (x.slip.sort),.bool (x.slip.soil),vI (x.slip.amt),vI (x.gap),.bool (x.below)])]) (.cons 3 rfl (.cons 4 rfl (.cons 5 rfl (.cons 10 rfl (.nil _))))) (rr (sS (sal 6 102 #[vI (0),vI (0),vI (0),vI (0),vI (0),vI (0),.bool (false),vI (0),vI (0),.bool (false)] (fun i4=>(sS (ss 0 0 i4 [vI (x.slip.num),vI (x.slip.hour),vI (x.slip.kind),vI (x.slip.place),vI (x.slip.to),vI (x.slip.sort),.bool (x.slip.soil),vI (x.slip.amt),vI (x.gap),.bool (x.below)] [vI (x.slip.num),vI (x.slip.hour),vI (x.slip.kind),vI (x.slip.place),vI (x.slip.to),vI (x.slip.sort),.bool (x.slip.soil),vI (x.slip.amt),vI (x.gap),.bool (x.below)] (_::_) (cs:=[_,_,_,_,_,_,_,_,_,_]) rfl rfl (ee ?_)))))));exact AL (fun a w hS hD hW=>⟨i4,hS.sub (.cons 3 rfl (.cons 4 rfl (.cons 5 rfl (.cons 6 rfl (.nil _))))),hD,hW⟩)
 ·intro Lq x k xs I1 Mr1 M1 F1 hpre hle1 hR1 hC1;replace fq_h:=NW hle1 fq_h;replace c2:=hle1.blk _ _ c2;replace a2:=hle1.blk _ _ a2;replace b9:=hle1.blk _ _ b9;replace c0:=hle1.blk _ _ c0;replace c1:=hle1.blk _ _ c1;obtain ⟨i9,b4,rfl,b2⟩:=hC1;obtain ⟨a0,a1,b6,d8⟩:=b2.shape;subst b6;have m4:(GB pq xs).length+1≤1000:=by have h1:=hpre.length_le;have h2:=numsP_len (p:=pq) (l:=xs);have h3:=IJ (L:=L);unfold CX at h3;rw [h3] at h1;simp only [LA,LC,LN] at h1;omega
  refine GX (M':=((bX k #[vI (x.slip.num),vI (x.slip.hour),vI (x.slip.kind),vI (x.slip.place),vI (x.slip.to),vI (x.slip.sort),.bool (x.slip.soil),vI (x.slip.amt),vI (x.gap),.bool (x.below)] 102)::(Mr1++(bX b5 #[vS a0 (GB pq xs).length a1] 29)::(b4++F1)))) (fun w h=>by simpa only [AA,CA,NA] using h) ?_;refine rpm (M':=((bX k #[vI (x.slip.num),vI (x.slip.hour),vI (x.slip.kind),vI (x.slip.place),vI (x.slip.to),vI (x.slip.sort),.bool (x.slip.soil),vI (x.slip.amt),vI (x.gap),.bool (x.below)] 102)::(bX b5 #[vS a0 (GB pq xs).length a1] 29)::(Mr1++(b4++F1)))) (PC _ PM) (rb 1 (rqr (sd (BG (v:=.func (.func fq_id) #[] fq_cv.toArray) (x:=(.tmp 3)) (T:=105) (d:=11) (ty:=105) (gd:=none) (by kernel_rfl) rfl (by kernel_rfl) rfl (AZ c2 rfl)) (sd (dnb 12 0 0 k [vI (x.slip.num),vI (x.slip.hour),vI (x.slip.kind),vI (x.slip.place),vI (x.slip.to),vI (x.slip.sort),.bool (x.slip.soil),vI (x.slip.amt),vI (x.gap),.bool (x.below)]) (sd (NK (f:=(.tmp 11)) (fid:=fq_id) (args:=#[(.tmp 12)]) (tys:=#[102]) (cv:=fq_cv) (v:=.bool (pq x)) (d:=13) (ty:=4) (gd:=none) (by kernel_rfl) rfl rfl rfl fq_c rfl (fun I' hI=>fq_h I' hI x)) (se (rc 13 rfl (fun h1=>?_) (fun h1=>?_))))))))
  ·
   have h4:=h1;refine rr (sd (dlb 14 1 0 b5 (vS a0 (GB pq xs).length a1)) (sp 2 [(16,vP k 0),(15,vP k 0)] (sd (dlb 17 0 0 k (vI (x.slip.num))) (sS (sbs 18 3 1 #[vI (x.slip.num)] (fun m2=>(sS (BA (d:=19) (x:=(.tmp 14)) (y:=(.tmp 18)) (T:=29) (T':=29) (E:=3) (E':=3) (sz:=1) (bs:=8) (z:=vI (0)) (cell:=AK) (xs:=GB pq xs) (ys:=[(x.slip.num:Int)]) (Ms:=b4) (ty:=29) (gd:=none) (by kernel_rfl) rfl (by kernel_rfl) (by kernel_rfl) (by kernel_rfl) (by kernel_rfl) (by kernel_rfl) (by decide) (by kernel_rfl) rfl rfl (b2) (PU (PU (PU (PO _ _ _)))) (DG _) (DN 0 rfl rfl) (by first | omega | (simp only [LC,LN,LA,LK,LD];omega)) (fun m5 d4 e1=>(BC (M':=((bX k #[vI (x.slip.num),vI (x.slip.hour),vI (x.slip.kind),vI (x.slip.place),vI (x.slip.to),vI (x.slip.sort),.bool (x.slip.soil),vI (x.slip.amt),vI (x.gap),.bool (x.below)] 102)::(bX b5 #[vS a0 (GB pq xs).length a1] 29)::(d4++(Mr1++F1)))) (fun w h=>(h.perm (PW (PW PM))).sub (TC _ (TR _))) ?_))))))))));obtain ⟨c6,c7,i0,k9⟩:=e1.shape;subst i0;refine sS (ss 1 0 b5 [vS c6 ((GB pq xs)++([(x.slip.num:Int)])).length c7] [vS c6 ((GB pq xs)++([(x.slip.num:Int)])).length c7] (_::_::_) (cs:=[_]) rfl rfl (ee (NB (ppm (M':=((bX k #[vI (x.slip.num),vI (x.slip.hour),vI (x.slip.kind),vI (x.slip.place),vI (x.slip.to),vI (x.slip.sort),.bool (x.slip.soil),vI (x.slip.amt),vI (x.gap),.bool (x.below)] 102)::(Mr1++(bX b5 #[vS c6 ((GB pq xs)++([(x.slip.num:Int)])).length c7] 29)::(d4++F1)))) (PC _ (PU (PO _ _ _))) ?_))));refine GD (M':=(Mr1++((bX b5 #[vS c6 ((GB pq xs)++([(x.slip.num:Int)])).length c7] 29)::d4))) (IR _) ?_ (by simp only [AA,NA,CA];exact (TC _ (TR _)));exact ⟨Mr1,_,rfl,hR1,⟨_,_,rfl,numsP_t h1▸e1⟩⟩
  have h4:=h1;refine AO (NB (ppm (M':=((bX k #[vI (x.slip.num),vI (x.slip.hour),vI (x.slip.kind),vI (x.slip.place),vI (x.slip.to),vI (x.slip.sort),.bool (x.slip.soil),vI (x.slip.amt),vI (x.gap),.bool (x.below)] 102)::(Mr1++(bX b5 #[vS a0 (GB pq xs).length a1] 29)::(b4++F1)))) (PC _ (PM.symm)) ?_));refine GD (M':=(Mr1++((bX b5 #[vS a0 (GB pq xs).length a1] 29)::b4))) (IR _) ?_ (by simp only [AA,NA,CA];exact (TC _ (TR _)));exact ⟨Mr1,_,rfl,hR1,⟨_,_,rfl,numsP_f h1▸b2⟩⟩
 ·intro D I2 Mr2 M2 hle2 hR2 hC2;replace fq_h:=NW hle2 fq_h;replace c2:=hle2.blk _ _ c2;replace a2:=hle2.blk _ _ a2;replace b9:=hle2.blk _ _ b9;replace c0:=hle2.blk _ _ c0;replace c1:=hle2.blk _ _ c1;obtain ⟨e6,e5,rfl,j0⟩:=EvR.full hR2 GL;obtain ⟨i9,b4,rfl,b2⟩:=hC2;obtain ⟨a0,a1,b6,d8⟩:=b2.shape;subst b6;refine KJ (M':=((D,Obj.deferred (some []))::(d5,Obj.map e6 e5)::(bX b5 #[vS a0 (GB pq (evs (CG L) (AE AC L.slips))).length a1] 29)::(b4++(bX b1 #[vI (L.places),vI (L.sorts),vS a3 L.start.length a4,vS a5 L.keeps.length a6,vS a7 L.slips.length a8] 26)::F))) (fun w h=>by simpa only [AA,CA,NA] using h) (ppm (M':=((D,Obj.deferred (some []))::(d5,Obj.map e6 e5)::(bX b5 #[vS a0 (GB pq (evs (CG L) (AE AC L.slips))).length a1] 29)::(bX b1 #[vI (L.places),vI (L.sorts),vS a3 L.start.length a4,vS a5 L.keeps.length a6,vS a7 L.slips.length a8] 26)::(b4++F))) (PC _ (PC _ (PC _ PM))) (NB (NX (rqr (sd (dlb 20 2 0 b5 (vS a0 (GB pq (evs (CG L) (AE AC L.slips))).length a1)) (sp 1 [(4,vS a0 (GB pq (evs (CG L) (AE AC L.slips))).length a1)] (se (BH ?_))))))));refine EV (R:=((d5,Obj.map e6 e5)::(bX b5 #[vS a0 (GB pq (evs (CG L) (AE AC L.slips))).length a1] 29)::(bX b1 #[vI (L.places),vI (L.sorts),vS a3 L.start.length a4,vS a5 L.keeps.length a6,vS a7 L.slips.length a8] 26)::(b4++F))) [D] (.inl rfl) (PR _) (ppm (M':=((b4++(d5,Obj.map e6 e5)::(bX b5 #[vS a0 (GB pq (evs (CG L) (AE AC L.slips))).length a1] 29)::(bX b1 #[vI (L.places),vI (L.sorts),vS a3 L.start.length a4,vS a5 L.keeps.length a6,vS a7 L.slips.length a8] 26)::F))) (PU (PU (PM.symm))) (AG (t:=4) (b4) (by kernel_rfl) rfl (TA (TC _ (TC _ (TC _ (TR _)))) _) (IT (IT (IT b8 b7) a9) hle2) ?_));exact ⟨_,_,rfl,rfl,b2⟩
 intro D c xs I2 M2 hle2 hS2;exact hS2.elim
noncomputable def c_Order1 (p:List Nat):Code:=sub (AQ Tryz.f95) p
theorem Order1_ct (I:Imm) (x:Sh.Event):CtV Tryz.prog 95 #[.agg #[vI x.slip.num,vI x.slip.hour,vI x.slip.kind,vI x.slip.place,vI x.slip.to,vI x.slip.sort,.bool x.slip.soil,vI x.slip.amt,vI x.gap,.bool x.below]] I (.bool true):=by
 refine fr (args:=[_]) (N:=3) Tryz.func95 (fun F=>?_);show Run _ _ (c_Order1 []) _ _ [(0,.agg #[vI (x.slip.num),vI (x.slip.hour),vI (x.slip.kind),vI (x.slip.place),vI (x.slip.to),vI (x.slip.sort),.bool (x.slip.soil),vI (x.slip.amt),vI (x.gap),.bool (x.below)])] _ _;refine rnm (rqr ?_);refine sS (sb 1 102 #[vI (x.slip.num),vI (x.slip.hour),vI (x.slip.kind),vI (x.slip.place),vI (x.slip.to),vI (x.slip.sort),.bool (x.slip.soil),vI (x.slip.amt),vI (x.gap),.bool (x.below)] (fun b1=>(sp 1 [(2,.bool (false))] (sn (sp 1 [(2,.bool (true))] (se (BH (AG (t:=2) [] (by kernel_rfl) rfl (TC _ (TR _)) (IR _) ?_))))))));exact ⟨rfl,rfl⟩
noncomputable def c_Order (p:List Nat):Code:=sub (AQ Tryz.f41) p
theorem Order_ct (I:Imm) (l:Value) (L:Lin) (l_f:IsLin I l L):Ct Tryz.prog 41 #[l] I ([]) (fun v I' M'=>∃ u0:Value,∃ Ms0:Seg,v=.tuple #[u0,vI ((FL L).2)]∧M'=Ms0∧Own 3 1 AK u0 ((FL L).1) Ms0):=by
 obtain ⟨l1,l2,l3,e0,a6,a7,a8⟩:=id l_f;subst e0;obtain ⟨a0,a1,c4,c7,c2,b4,c5,c6,c8,c9⟩:=id a6;subst b4;obtain ⟨a2,a3,d0,d3,b5,d1,d2,d4⟩:=id a7;subst b5;obtain ⟨a4,a5,d5,d8,b6,d6,d7,d9⟩:=id a8;subst b6;refine fr (args:=[_]) (N:=12) Tryz.func41 (fun F=>?_);show Run _ _ (c_Order []) _ _ [(0,.agg #[vI (L.places),vI (L.sorts),vS a0 L.start.length a1,vS a2 L.keeps.length a3,vS a4 L.slips.length a5])] _ _;refine rnm (rqr ?_);refine sS (sb 1 26 #[vI (L.places),vI (L.sorts),vS a0 L.start.length a1,vS a2 L.keeps.length a3,vS a4 L.slips.length a5] (fun b1=>(sp 2 [(3,vI (0)),(2,vN)] (se (rq (rqr (sd (dnb 5 0 0 b1 [vI (L.places),vI (L.sorts),vS a0 L.start.length a1,vS a2 L.keeps.length a3,vS a4 L.slips.length a5]) (sd (dc 6 (fun I' hI=>(IG I' _ (L) ((DL a6 a7 a8).mono hI) :))) (sp 1 [(4,vI ((AS L)))] (sn (sp 2 [(8,.bool (!(cmp .eql ((AS L)) (0))))] (se (rc 8 rfl (fun h1=>?_) (fun h1=>?_))))))))))))))
 ·
  have b2:=h1;have h1:=BK (BQ h1);refine rqr (sp 3 [(3,vI ((AS L))),(2,vN)] (se (BH ((RP ?_)))));have hE:=orderE_1 (L:=L) h1;refine BS (t:=2) (u:=3) ([]) (by kernel_rfl) rfl rfl (TC _ (TR _)) (IR _) ?_;exact ⟨_,_,(by rw [hE]),rfl,((show []=(FL L).1 from by rw [hE])▸Own.nil _ _ _)⟩
 have b2:=h1;have h1:=BL (BJ h1);refine AO (NX (rq ?_));have hz:AS L=0:=by omega
 have hg:=GG hz;refine rr (sd (dnb 10 0 0 b1 [vI (L.places),vI (L.sorts),vS a0 L.start.length a1,vS a2 L.keeps.length a3,vS a4 L.slips.length a5]) (sS (sc (some 11) (numbersOf_ct _ _ (L) 95 ([]) (fun _:Sh.Event=>true) (DL a6 a7 a8) (by kernel_rfl) (fun J hJ x=>Order1_ct J x) (by assumption) :) (.refl _) (fun e2 I3 e1 b3 c3=>?_))));obtain ⟨u8,b0,c1,c0,a9⟩:=c3;rw [c1,c0];clear c1 c0;obtain ⟨b7,b8,b9,e3⟩:=a9.shape;subst b9;refine pm (M':=((bX b1 #[vI (L.places),vI (L.sorts),vS a0 L.start.length a1,vS a2 L.keeps.length a3,vS a4 L.slips.length a5] 26)::(b0++F))) PM (sp 2 [(3,vI (0)),(2,vS b7 (GB (fun _:Sh.Event=>true) (CX L)).length b8)] (se (BH ?_)));have hE:=QP (L:=L) hz;refine ppm (M':=((b0++(bX b1 #[vI (L.places),vI (L.sorts),vS a0 L.start.length a1,vS a2 L.keeps.length a3,vS a4 L.slips.length a5] 26)::F))) (PM.symm) (BS (t:=2) (u:=3) (b0) (by kernel_rfl) rfl rfl (TA (TC _ (TR _)) _) b3 ?_);exact ⟨_,_,(by rw [hE]),rfl,((show GB _ (CX L)=(FL L).1 from by rw [hE])▸a9)⟩
end Go.Proofs.YtgcemienebmdeaaGreat
namespace Go.Sh
open Go Go.Sl
def LY (so:Int):Hs→Int
  | []=>0
  | x::r=>(if x.1.so=so then x.2 else 0)+LY so r
section
variable {so:Int} {H H':Hs} {k:HKey} {v d:Int}
theorem sumK_append:LY so (H++H')=LY so H+LY so H':=by
  induction H with
  | nil=>simp [LY]
  | cons x r ih=>simp only [List.cons_append,LY,ih];omega
theorem sumK_perm (h:H.Perm H'):LY so H=LY so H':=by
  induction h with
  | nil=>rfl
  | cons x _ ih=>simp only [LY,ih]
  | swap x y l=>simp only [LY];omega
  | trans _ _ h1 h2=>exact h1.trans h2
theorem sumK_put:LY so (GV k v H)=LY so H+(if k.so=so then v-CQ k H else 0):=by
  induction H with
  | nil=>simp only [GV,LY,CQ];split <;> omega
  | cons x r ih=>
    simp only [GV,CQ]
    by_cases e:x.1=k
    · rw [if_pos e,if_pos e];simp only [LY];rw [e];split <;> omega
    · rw [if_neg e,if_neg e];simp only [LY];rw [ih];omega
theorem putH_len:(GV k v H).length≤H.length+1:=by
  induction H with
  | nil=>exact Nat.le_refl _
  | cons x r ih => simp only [GV]; split
                   · simp
                   · simp only [List.length_cons];omega
theorem sumK_bound {B:Int} (hB:0≤B) (h:∀ x∈H,-B≤x.2∧x.2≤B):-(B*H.length)≤LY so H∧LY so H≤B*H.length:=by
  induction H with
  | nil=>simp [LY]
  | cons x r ih=>
    have h1:=ih (fun y hy=>h y (by simp [hy]));have h2:=h x (by simp);simp only [LY,List.length_cons,Int.natCast_add,Int.natCast_one,Int.mul_add,Int.mul_one]
    split <;> omega
end
theorem evs_slips:∀ {S:List Slip} {H:Hs},(evs H S).map (fun e=>e.slip)=S:=by
  intro S
  induction S with
  | nil=>intro H;rfl
  | cons s r ih=>intro H;simp only [evs,List.map_cons,ih];rfl
theorem openRow_get {p:Int} {row:List Int} {H:Hs} {k:HKey}:∀ {j:Nat},(k.pl≠p∨(j:Int)≤k.so)→CQ k (FQ p row j H)=CQ k H:=by
  intro j
  induction j with
  | zero=>intro _;rfl
  | succ j ih=>
    intro h;simp only [FQ];rw [HH,if_neg,ih]
    · rcases h with h | h
      · exact .inl h
      · exact .inr (by omega)
    · intro e;subst e;simp only at h;omega
def EK (L:Lin) (so hour:Int):Int × Int:=
  if AS L≠0 then (0,AS L) else if inB so 0 (L.sorts-1)=false then (0,3) else if inB hour 0 200=false then (0,1) else (LY so (atH L hour),0)
section
variable {L:Lin} {so hour:Int}
theorem totalE_1 (h:AS L≠0):EK L so hour=(0,AS L):=if_pos h
theorem totalE_2 (h:AS L=0) (h2:inB so 0 (L.sorts-1)=false):EK L so hour=(0,3):=by unfold EK;rw [if_neg (fun x=>x h),if_pos h2]
theorem totalE_3 (h:AS L=0) (h2:inB so 0 (L.sorts-1)=true) (h3:inB hour 0 200=false):EK L so hour=(0,1):=by unfold EK;rw [if_neg (fun x=>x h),if_neg (by rw [h2];decide),if_pos h3]
theorem totalE_4 (h:AS L=0) (h2:inB so 0 (L.sorts-1)=true) (h3:inB hour 0 200=true):EK L so hour=(LY so (atH L hour),0):=by unfold EK;rw [if_neg (fun x=>x h),if_neg (by rw [h2];decide),if_neg (by rw [h3];decide)]
end
theorem doSlip_len {s:Slip} {H:Hs}:(doSlip s H).length≤H.length+2:=by
  have h1:∀ {k:HKey} {v:Int} {H:Hs},(ML k v H).length≤H.length+1:=fun {k v H}=>putH_len
  unfold doSlip
  repeat' split
  · exact Nat.le_trans h1 (Nat.succ_le_succ h1)
  · exact Nat.le_trans h1 (Nat.succ_le_succ h1)
  · exact Nat.le_trans h1 (Nat.succ_le_succ h1)
  · exact Nat.le_trans putH_len (Nat.le_succ _)
  · exact Nat.le_trans h1 (Nat.le_succ _)
  · exact Nat.le_trans h1 (Nat.le_succ _)
theorem aft_len:∀ {S:List Slip} {H:Hs},(aft H S).length≤H.length+2*S.length:=by
  intro S
  induction S with
  | nil=>intro H;exact Nat.le_refl _
  | cons s r ih=>
    intro H;have h1:=ih (H:=doSlip s H);have h2:=doSlip_len (s:=s) (H:=H);rw [show aft H (s::r)=aft (doSlip s H) r from rfl,List.length_cons];omega
theorem openRow_len {p:Int} {row:List Int} {H:Hs}:∀ {j:Nat},(FQ p row j H).length≤H.length+j:=by
  intro j
  induction j with
  | zero=>exact Nat.le_refl _
  | succ j ih=>simp only [FQ];exact Nat.le_trans putH_len (by omega)
theorem openTo_len {st:List (List Int)} (h:∀ r∈st,r.length≤2):∀ {i:Nat},i≤st.length→(GU st i).length≤2*i:=by
  intro i
  induction i with
  | zero=>intro _;exact Nat.le_refl _
  | succ i ih=>
    intro hi;have h1:=openRow_len (p:=(i:Int)) (row:=st.getD i []) (H:=GU st i) (j:=(st.getD i []).length);have h2:=ih (by omega);have h3:=h _ (BD (xs:=st) (d:=[]) (show i<st.length by omega));simp only [GU];omega
theorem atH_len {L:Lin} {n:Int} (g:GoodL L):(atH L n).length≤24:=by
  have h1:=aft_len (S:=AE AC (DB L n)) (H:=CG L);have h2:(CG L).length≤2*L.start.length:=openTo_len (fun r hr=>by have:=g.rows r hr;have:=g.sorts;omega) (Nat.le_refl _);have h3:(AE AC (DB L n)).length≤L.slips.length:=by rw [(EH _).length_eq];exact List.length_filter_le _ _
  have h4:=g.slips;have h5:=g.start;have h6:=g.places;unfold atH;omega
theorem atH_small {L:Lin} {n:Int} (g:GoodL L) (hn:((atH L n).map Prod.fst).Nodup):∀ x∈atH L n,-1000000≤x.2∧x.2≤1000000:=fun x hx=>by
  have hw:=((g.goodS.to n).sorted.within g.within (AE AC (DB L n)).length) x.1;rw [show (AE AC (atL L n).slips)=AE AC (DB L n) from rfl,List.take_length,show aft (CG L) (AE AC (DB L n))=atH L n from rfl,getH_mem hn hx] at hw;omega
theorem sum_cut {L:Lin} {n so:Int} {dn td A B:Hs} {y:HKey × Int} (g:GoodL L) (hn:((atH L n).map Prod.fst).Nodup) (hp:(dn++td).Perm (atH L n)) (e:td=A++y::B):(-24000000≤LY so dn∧LY so dn≤24000000)∧-1000000≤y.2∧y.2≤1000000:=by
  have hs:=atH_small g hn;have h1:=sumK_bound (so:=so) (H:=dn) (B:=1000000) (by omega) (fun x hx=>hs x (hp.subset (List.mem_append_left _ hx)));have h2:dn.length≤24:=by have:=hp.length_eq;have:=atH_len (n:=n) g;rw [List.length_append] at *;omega
  exact ⟨by omega,hs y (hp.subset (by rw [e];simp))⟩
theorem sumK_done {so:Int} {dn td H:Hs} (hp:(dn++td).Perm H) (h:td=[]):LY so dn=LY so H:=by subst h;rw [List.append_nil] at hp;exact sumK_perm hp
theorem sumK_snoc {so:Int} {dn:Hs} {y:HKey × Int}:LY so (dn++[y])=LY so dn+(if y.1.so=so then y.2 else 0):=by rw [sumK_append];simp [LY]
section
variable {L:Lin} {G:List Gap} {so n X:Int} {i m k:Nat} {s:Slip}
end
section
variable {p kh to f h:Int} {ks:List Keep} {k:Nat}
end
section
variable {L:Lin} (g:GoodL L)
include g
omit g
section
variable {i:Nat} (g:GoodL L) (hi:i<(AE AC L.slips).length)
include g hi
end
end
section
variable {L:Lin} {p who frm to:Int} {ks:List Keep} {k:Keep} {i m:Nat}
end
section
variable {L:Lin} {G:List Gap} {n:Int} {i k m:Nat}
variable (g:GoodL L) (hi:i<(BI L.slips).length)
include g hi
end
section
variable {A:List Slip} {s:Slip} {k:Nat}
end
abbrev Ods:=List (Debt × Int)
def okCells (k:Debt):Array Value:=#[.int .i64 k.who,.int .i64 k.sort,.int .i64 k.amt]
def encO (k:Debt):Value:=.agg (okCells k)
def intO (h:Ods):List (Debt × Value):=h.map fun x=>(x.1,.int .i64 x.2)
def MapO (es:Array MapEntry) (cl:Nat) (H:Ods):Prop:=MapB encO es cl (intO H)∧(H.map Prod.fst).Nodup
theorem MapO.nil (cl:Nat):MapO #[] cl []:=⟨MapB.nil _ _,by simp⟩
end Go.Sh
namespace Go.Sl
open Go Go.Sh
section
variable {P:Program} {N:Nat} {ops:Array Oper} {i:Nat} {l:Sl} {I:Imm} {M:Seg} {ty:TypeId} {gd:Option (Nat × Bool)} {K:Sl→Imm→Seg→Prop} {d:Nat}
end
end Go.Sl
namespace Go.Sh
open Go Go.Sl
section
variable {L:Lin} {xs:List EvH} {x:EvH}
variable (g:GoodL L)
include g
end
section
variable {O dn td:Ods}
end
section
variable {L:Lin} {ns:List Int} {s:Slip} {k:Nat}
end
structure SameB (A B:Lin):Prop where
  places:B.places=A.places
  sorts:B.sorts=A.sorts
  start:B.start=A.start
  keeps:B.keeps=A.keeps
  slips:B.slips.Perm A.slips
theorem good_of {A:Lin} (g:GoodL A) {l:List Slip} (hl:l.length≤8) (hs:∀ s∈l,DH A s=0) (ho:Once l):GoodL ⟨A.places,A.sorts,A.start,A.keeps,l⟩:=by
  refine ⟨g.places,g.sorts,g.start,g.rows,g.nums,g.keeps,g.keep,hl,fun k hk=>?_⟩;have hm:=BD (xs:=l) (d:=AB) hk;have h1:DH ⟨A.places,A.sorts,A.start,A.keeps,l⟩ (l.getD k AB)=0:=hs _ hm;unfold DA;simp only;rw [if_neg (fun x=>x h1),if_neg];intro h;unfold hasNum at h;obtain ⟨x,hx,e⟩:=List.any_eq_true.1 h;obtain ⟨j,hj,rfl⟩:=List.mem_iff_getElem.1 hx;rw [List.length_take] at hj;have e2:=of_decide_eq_true e;rw [List.getElem_take] at e2;have e3:l.getD k AB=l[k]:=by simp [List.getD,hk]
  rw [e3] at e2;have:=(List.getElem_inj (xs:=l.map Slip.num) (i:=j) (j:=k) (h₀:=by rw [List.length_map];omega) (h₁:=by rw [List.length_map];exact hk) ho).1 (by simpa using e2);omega
theorem SameB.eq {A B:Lin} (h:SameB A B):B=⟨A.places,A.sorts,A.start,A.keeps,B.slips⟩:=by
  cases B;obtain ⟨h1,h2,h3,h4,_⟩:=h;simp only at h1 h2 h3 h4;subst h1 h2 h3 h4;rfl
theorem goodB {A B:Lin} (g:GoodL A) (h:SameB A B):GoodL B:=by
  rw [h.eq];refine good_of g (by rw [h.slips.length_eq];exact g.slips) (fun s hs=>g.slipOf (h.slips.subset hs)) ?_;exact (once_perm h.slips).2 g.once
section
variable {A B:Lin} (g:GoodL A) (h:SameB A B)
include g h
omit g in
theorem SameB.wo (ns:List Int):SameB (woL A ns) (woL B ns):=⟨h.places,h.sorts,h.start,h.keeps,h.slips.filter _⟩
end
def KU (L:Lin) (o:List Int):List Slip:=o.map fun q=>L.slips.getD q.toNat AB
theorem pick_whole {L:Lin}:∀ n,n≤L.slips.length→KU L ((List.range n).map fun i:Nat=>(i:Int))=L.slips.take n:=by
  intro n
  induction n with
  | zero=>intro _;rfl
  | succ n ih=>
    intro hn;rw [List.range_succ,List.map_append];unfold KU at *;rw [List.map_append,ih (by omega),CE (d:=AB) (by omega)];simp
section
variable {L:Lin} {o:List Int} (ho:o.Perm ((List.range L.slips.length).map fun i:Nat=>(i:Int)))
include ho
theorem pick_perm:(KU L o).Perm L.slips:=by
  have h1:(KU L o).Perm (KU L ((List.range L.slips.length).map fun i:Nat=>(i:Int))):=ho.map _;rw [pick_whole _ (Nat.le_refl _),List.take_length] at h1;exact h1
theorem pick_same:SameB L ⟨L.places,L.sorts,L.start,L.keeps,KU L o⟩:=⟨rfl,rfl,rfl,rfl,pick_perm ho⟩
theorem pick_len:o.length=L.slips.length:=by rw [ho.length_eq,List.length_map,List.length_range]
theorem pick_rng {k:Nat} (hk:k<o.length):0≤o.getD k 0∧o.getD k 0<L.slips.length:=by
  have hm:=ho.subset (BD (xs:=o) (d:=0) hk);obtain ⟨i,hi,e⟩:=List.mem_map.1 hm;have:=List.mem_range.1 hi;omega
omit ho in
theorem OE {k:Nat} (hk:k≤o.length):(KU L (o.take k)).length=k:=by unfold KU;rw [List.length_map,List.length_take];omega
end
section
variable {L:Lin} {o:List Int} {k:Nat} (ho:o.Perm ((List.range L.slips.length).map fun i:Nat=>(i:Int)))
include ho
theorem pick_step (hk:k<L.slips.length):(KU L (o.take k)++L.slips.drop k).set k (L.slips.getD (o.getD k 0).toNat AB)=KU L (o.take (k+1))++L.slips.drop (k+1):=by
  have hl:=pick_len ho;have hlen:=OE (L:=L) (o:=o) (k:=k) (by omega);rw [List.set_append_right _ _ (by omega),hlen,Nat.sub_self,LB (d:=AB) hk];have hnext:KU L (o.take (k+1))=KU L (o.take k)++[L.slips.getD (o.getD k 0).toNat AB]:=by rw [CE (d:=0) (by omega)];unfold KU;rw [List.map_append];rfl
  rw [hnext];simp
theorem shuf_same (hk:L.slips.length≤k):SameB L ⟨L.places,L.sorts,L.start,L.keeps,KU L (o.take k)++L.slips.drop k⟩:=by
  have hl:=pick_len ho;rw [List.take_of_length_le (by omega),List.drop_of_length_le hk,List.append_nil];exact pick_same ho
end
section
variable {L:Lin} (g:GoodL L)
include g
end
abbrev AscI (l:List Int):Prop:=l.Pairwise (·<·)
section
variable {L:Lin} {o:List Int} (g:GoodL L) (ha:AscI o) (hr:∀ x∈o,0≤x∧x<(L.slips.length:Int))
include hr
include g ha
end
section
variable {L:Lin} {o:List Int} {k:Nat}
variable (g:GoodL L) (ha:AscI o) (hr:∀ x∈o,0≤x∧x<(L.slips.length:Int))
include g ha hr
end
section
variable {l:List Slip} {n:Nat}
end
section
variable {L:Lin} {all:List Int}
variable (g:GoodL L) {S:List Int} (ha:AscI S) (hr:∀ q∈S,(0:Int)≤q∧q<(allN L).length)
include g ha hr
end
end Go.Sh
namespace Go.Proofs.YtgcemienebmdeaaGreat
open Go Go.Sl Go.Sh
set_option maxRecDepth 100000
noncomputable def c_there (p:List Nat):Code:=sub (AQ Tryz.f79) p
theorem there_ct (I:Imm) (z:Value) (xs:List Slip) (n:Int) (z_f:GH I z xs):CtV Tryz.prog 79 #[z,vI n] I (vI (NG (fun x:Slip=>decide (x.num=n)) xs)):=by
 obtain ⟨a3,a4,a6,a8,a7,a9,b0,a5⟩:=id z_f;subst a7;refine fr (args:=[_,_]) (N:=20) Tryz.func79 (fun F=>?_);show Run _ _ (c_there []) _ _ [(0,vS a3 xs.length a4),(1,vI (n))] _ _;refine rnm (rqr ?_);refine sp 1 [(4,vI (0))] (se (rq (rqr (sp 1 [(5,vI (0))] (se (rb 0 ?_))))));refine rl (fun mz a w=>∃ k:Nat,(k≤xs.length)∧(∀ j,j<k→(fun x:Slip=>decide (x.num=n)) (xs.getD j AB)=false)∧Slots 20 [(5,vI ↑k),(0,vS a3 xs.length a4),(1,vI (n))] a∧a.defers=[]∧St I (F) w∧mz=xs.length-k) ?_ ?_
 ·intro a w hS hD hW;exact ⟨_,0,Nat.zero_le _,(fun j hj=>by omega),hS.sub (.cons 5 rfl (.cons 0 rfl (.cons 1 rfl (.nil _)))),hD,hW,rfl⟩
 rintro mz a w ⟨k,hk,a2,hS,hD,hW,rfl⟩
 refine AR hS hD hW ?_;clear hS hD hW a w;refine rq (rqr (sp 4 [(9,.bool (cmp .lss (↑k) (↑(xs.length))))] (se (rc 9 rfl (fun h1=>?_) (fun h1=>?_)))))
 ·
  have a0:=h1;have h1:=CF h1;refine AO (NX (rq (rb 1 (rqr (sp 2 [(13,vI (↑k)),(12,vS a3 xs.length a4)] (sd (di 14 8 (k) a5.addr) (sp 1 [(15,.pointer (some ⟨a6,a8+k*8,none⟩))] (sd (dl 16 (LV a5 (k) (by omega) 0 (by decide) (v:=vI ((xs.getD (k) AB).num)) rfl)) (sp 2 [(18,.bool (cmp .eql ((xs.getD (k) AB).num) (n)))] (se (rc 18 rfl (fun h2=>?_) (fun h2=>?_))))))))))))
  ·
   have a1:=h2;have h2:=BL h2;refine rqr (sp 2 [(4,vI (↑k))] (se (BH ((RB (RP (RP (RB (RP (AG (t:=4) [] (by kernel_rfl) rfl (TR _) (IR _) ?_))))))))));exact ⟨congrArg (Value.int .i64) (idxF_hit (d:=AB) a2 (by omega) (decide_eq_true h2)).symm,rfl⟩
  have a1:=h2;have h2:=BK h2;refine AO (NB (NX (rr (sp 1 [(10,vI (↑k))] (sd (da 11 (↑k) (1)) (sp 1 [(5,vI (↑k+1))] (ee ?_)))))));refine AN (xs.length-(k+1)) (by omega) ?_;intro a w hS hD hW;exact ⟨k+1,by omega,IH a2 (decide_eq_false h2),hS.sub (.consE 5 rfl rfl (.cons 0 rfl (.cons 1 rfl (.nil _)))),hD,hW,rfl⟩
 have a0:=h1;have h1:=CO h1;refine CB 0 ((EP (EP (EB (NX (rqr (sp 1 [(4,vI ((-1)))] (se (BH (AG (t:=4) [] (by kernel_rfl) rfl (TR _) (IR _) ?_))))))))));exact ⟨congrArg (Value.int .i64) (idxF_miss (d:=AB) a2 (by omega)).symm,rfl⟩
end Go.Proofs.YtgcemienebmdeaaGreat
namespace Go.Sh
open Go Go.Sl
def JM (L:Lin):Int:=bif !inB L.places 1 4||!inB L.sorts 1 2 then 1 else CU L
section
variable {L:Lin} {k m:Nat}
theorem PF (h:(!inB L.places 1 4||!inB L.sorts 1 2)=true):JM L=1:=by unfold JM;rw [h];rfl
theorem JX (h:(!inB L.places 1 4||!inB L.sorts 1 2)=false):JM L=CU L:=by unfold JM;rw [h];rfl
theorem startErr_3r (h:(L.start.length:Int)=L.places) (ha:(L.start.all fun r=>decide ((r.length:Int)=L.sorts))=true) (hk:k<L.start.length) (hm:m<(L.start.getD k []).length) (hb:inB ((L.start.getD k []).getD m 0) 0 50=false):CU L=1:=by
  unfold CU;rw [if_neg (fun x=>x h),if_neg (by rw [ha];decide),if_pos];rw [← Bool.not_eq_true,List.all_eq_true];intro hh;have h1:(L.start.getD k []).getD m 0∈L.start.flatten:=List.mem_flatten.2 ⟨_,BD (xs:=L.start) (d:=[]) hk,BD (xs:=L.start.getD k []) (d:=0) hm⟩;rw [hh _ h1] at hb;cases hb
theorem startErr_4r (h:(L.start.length:Int)=L.places) (ha:(L.start.all fun r=>decide ((r.length:Int)=L.sorts))=true) (hk:L.start.length≤k) (hb:∀ r∈L.start.take k,(r.all fun n=>inB n 0 50)=true):CU L=0:=by
  refine startErr_4 h ha (List.all_eq_true.2 fun n hn=>?_);obtain ⟨r,hr,hnr⟩:=List.mem_flatten.1 hn;rw [List.take_of_length_le hk] at hb;exact List.all_eq_true.1 (hb r hr) n hnr
theorem MI (h:JM L=0):(!inB L.places 1 4||!inB L.sorts 1 2)=false∧CU L=0∧(1≤L.places∧L.places≤4)∧(1≤L.sorts∧L.sorts≤2):=by
  cases e:(!inB L.places 1 4||!inB L.sorts 1 2) with
  | true=>rw [PF e] at h;cases h
  | false=>
    rw [JX e] at h;simp only [Bool.or_eq_false_iff,Bool.not_eq_false'] at e;exact ⟨rfl,h,CR e.1,CR e.2⟩
theorem linErr_r1 (h:¬ JM L=0):AS L=JM L:=by
  rw [JI];unfold linC;cases e:(!inB L.places 1 4||!inB L.sorts 1 2) with
  | true=>rw [PF e];rfl
  | false=>
    rw [JX e] at h ⊢;simp [cmp,h]
theorem linErr_r2 (h:JM L=0) (h2:¬ CT L=0):AS L=CT L:=by
  obtain ⟨e,e2,_⟩:=MI h;rw [JI];unfold linC;rw [e,e2];simp [cmp,h2]
theorem linErr_r3 (h:JM L=0) (h2:CT L=0) (h3:8<L.slips.length):AS L=6:=by
  obtain ⟨e,e2,_⟩:=MI h;have h4:(8:Int)<L.slips.length:=by omega
  rw [JI];unfold linC;rw [e,e2,h2];simp [cmp,h4]
theorem linErr_r4 {x:Int} (h:JM L=0) (h2:CT L=0) (h3:¬ 8<L.slips.length) (h0:FD (DA L) L.slips.length=x):AS L=x:=by
  obtain ⟨e,e2,_⟩:=MI h;have h4:¬ (8:Int)<L.slips.length:=by omega
  exact NZ h0 e (by rw [e2];rfl) (by rw [h2];rfl) (by simp [cmp,h4])
theorem keepErr_1r (h3:inB (L.keeps.getD k AJ).place 0 (L.places-1)=true) (h:(!inB (L.keeps.getD k AJ).hour 0 200||!inB (L.keeps.getD k AJ).who 1 9)=true):EU L k=1:=by
  cases h4:inB (L.keeps.getD k AJ).hour 0 200 with
  | false=>exact keepErr_1 h3 h4
  | true=>rw [h4] at h;exact keepErr_1b h3 h4 (by simpa using h)
theorem keepErr_45 (h:(!inB (L.keeps.getD k AJ).hour 0 200||!inB (L.keeps.getD k AJ).who 1 9)=false):inB (L.keeps.getD k AJ).hour 0 200=true∧inB (L.keeps.getD k AJ).who 1 9=true:=by
  simpa only [Bool.or_eq_false_iff,Bool.not_eq_false'] using h
theorem keepErr_4r (h3:inB (L.keeps.getD k AJ).place 0 (L.places-1)=true) (h:(!inB (L.keeps.getD k AJ).hour 0 200||!inB (L.keeps.getD k AJ).who 1 9)=false) (hk:k<L.keeps.length) (hm:m<k) (hb:(cmp .eql (L.keeps.getD m AJ).place (L.keeps.getD k AJ).place&&cmp .eql (L.keeps.getD m AJ).hour (L.keeps.getD k AJ).hour)=true):EU L k=4:=by
  obtain ⟨h4,h5⟩:=keepErr_45 h;refine keepErr_4 h3 h4 h5 (List.any_eq_true.2 ⟨L.keeps.getD m AJ,?_,by simpa only [MW] using hb⟩);rw [List.mem_take_iff_getElem];exact ⟨m,by omega,by simp [List.getD,show m<L.keeps.length by omega]⟩
theorem keepErr_0r (h3:inB (L.keeps.getD k AJ).place 0 (L.places-1)=true) (h:(!inB (L.keeps.getD k AJ).hour 0 200||!inB (L.keeps.getD k AJ).who 1 9)=false) (hb:∀ m,m<k→(cmp .eql (L.keeps.getD m AJ).place (L.keeps.getD k AJ).place&&cmp .eql (L.keeps.getD m AJ).hour (L.keeps.getD k AJ).hour)=false):EU L k=0:=by
  obtain ⟨h4,h5⟩:=keepErr_45 h;refine keepErr_ok h3 h4 h5 (List.any_eq_false.2 fun x hx=>?_);rw [List.mem_take_iff_getElem] at hx;obtain ⟨m,hm,rfl⟩:=hx;have:=hb m (by omega);rw [MW,MW,show L.keeps.getD m AJ=L.keeps[m] by simp [List.getD,show m<L.keeps.length by omega]] at this;rw [this];decide
end
def HU (L:Lin) (s:Slip):Int:=
  bif !inB s.num 1 999||!inB s.hour 0 200 then 1 else bif !inB s.kind 1 6 then 8
  else bif !inB s.place 0 (L.places-1) then 3
  else bif cmp .eql s.kind 1 then (bif !inB s.to 0 (L.places-1) then 3 else bif cmp .eql s.to s.place then 4 else bif !inB s.sort 0 (L.sorts-1) then 3
  else bif !inB s.amt (if s.kind=4 then 0 else 1) 50 then 1 else 0)
  else bif !cmp .eql s.to 0 then 1
  else bif !inB s.sort 0 (L.sorts-1) then 3
  else bif s.soil&&!cmp .eql s.kind 4 then 1
  else bif !inB s.amt (if s.kind=4 then 0 else 1) 50 then 1 else 0
theorem DR (L:Lin) (s:Slip):DH L s=HU L s:=by
  rw [FE];unfold OI HU;cases inB s.num 1 999 <;> cases inB s.hour 0 200 <;> cases cmp .eql s.kind 1 <;> cases s.soil <;> simp
end Go.Sh
namespace Go.Proofs.YtgcemienebmdeaaGreat
open Go Go.Sl Go.Sh
set_option maxRecDepth 100000
noncomputable def c_rcheckStart (p:List Nat):Code:=sub (AQ Tryz.f105) p
theorem rcheckStart_ct (I:Imm) (l:Value) (L:Lin) (l_f:IsLin I l L):CtV Tryz.prog 105 #[l] I (vI (JM L)):=by
 obtain ⟨l1,l2,l3,f2,d1,d3,d5⟩:=id l_f;subst f2;obtain ⟨a0,a1,d8,e1,d7,d0,d9,e0,a4,b3⟩:=id d1;subst d0;obtain ⟨a5,a6,e2,e5,d2,e3,e4,e6⟩:=id d3;subst d2;obtain ⟨a7,a8,e7,f0,d4,e8,e9,f1⟩:=id d5;subst d4;refine fr (args:=[_]) (N:=65) Tryz.func105 (fun F=>?_);show Run _ _ (c_rcheckStart []) _ _ [(0,.agg #[vI (L.places),vI (L.sorts),vS a0 L.start.length a1,vS a5 L.keeps.length a6,vS a7 L.slips.length a8])] _ _;refine rnm (rqr ?_);refine sS (sb 1 26 #[vI (L.places),vI (L.sorts),vS a0 L.start.length a1,vS a5 L.keeps.length a6,vS a7 L.slips.length a8] (fun b1=>(sp 1 [(2,vI (0))] (se (rq (rq ?_))))));refine CC (fun a w=>Slots 65 [(1,vP b1 0),(2,vI (0)),(15,.bool ((!(inB L.places 1 4))||(!(inB L.sorts 1 2))))] a∧a.defers=[]∧St I ((bX b1 #[vI (L.places),vI (L.sorts),vS a0 L.start.length a1,vS a5 L.keeps.length a6,vS a7 L.slips.length a8] 26)::F) w) ?_ ?_
 ·
  refine rr (sp 1 [(6,vP b1 0)] (sd (dlb 7 0 0 b1 (vI (L.places))) (sd (dc 8 (fun I' hI=>(CL I' (L.places) (1) (4) :))) (sp 2 [(10,.bool (!(inB L.places 1 4)))] ?_))));refine BE 10 rfl (fun h1=>?_) (fun h1=>?_)
  ·
   have a2:=h1;have a2:=BQ a2;have a9:=GA a2;refine sp 5 [(15,.bool (true))] (ee ?_);refine AL (fun a w hS hD hW=>⟨hS.sub (.cons 1 rfl (.cons 2 rfl (.consE 15 rfl (congrArg Value.bool (by simp only [h1,kA,kB,kC,kD,kE,kF,kG,kH,kI,kJ])) (.nil _)))),hD,hW⟩)
  have a2:=h1;have a2:=BJ a2;have a9:=CR a2;refine sp 1 [(11,vP b1 1)] (sd (dlb 12 0 1 b1 (vI (L.sorts))) (sd (dc 13 (fun I' hI=>(CL I' (L.sorts) (1) (2) :))) (sp 2 [(15,.bool (!(inB L.sorts 1 2)))] (ee ?_))));refine AL (fun a w hS hD hW=>⟨hS.sub (.cons 1 rfl (.cons 2 rfl (.consE 15 rfl (congrArg Value.bool (by simp only [h1,kA,kB,kC,kD,kE,kF,kG,kH,kI,kJ])) (.nil _)))),hD,hW⟩)
 rintro a w ⟨hS,hD,hW⟩
 refine AR hS hD hW ?_;clear hS hD hW a w;refine rc 15 rfl (fun h2=>?_) (fun h2=>?_)
 ·
  have a3:=h2;refine rqr (sp 1 [(2,vI (1))] (se (BH ((RP (AG (t:=2) [] (by kernel_rfl) rfl (TC _ (TR _)) (IR _) ?_))))));exact ⟨congrArg (Value.int .i64) (PF a3).symm,rfl⟩
 have a3:=h2;obtain ⟨b0,b2⟩:=or_f h2;have b0:=BJ b0;have c1:=CR b0;have b2:=BJ b2;have c2:=CR b2;refine AO (NX (rq (rqr (sp 1 [(16,vP b1 2)] (sd (dlb 17 0 2 b1 (vS a0 L.start.length a1)) (sp 2 [(19,vP b1 0),(18,vI (↑(L.start.length)))] (sd (dlb 20 0 0 b1 (vI (L.places))) (sp 1 [(21,.bool (!(cmp .eql (↑(L.start.length)) (L.places))))] (se (rc 21 rfl (fun h3=>?_) (fun h3=>?_)))))))))))
 ·
  have c3:=h3;have h3:=BK (BQ h3);refine rqr (sp 1 [(2,vI (2))] (se (BH ((RP (AG (t:=2) [] (by kernel_rfl) rfl (TC _ (TR _)) (IR _) ?_))))));exact ⟨congrArg (Value.int .i64) ((JX a3).trans (startErr_1 (by omega))).symm,rfl⟩
 have c3:=h3;have h3:=BL (BJ h3);refine AO (NX (rq (rqr (sp 1 [(3,vI (0))] (se (rb 0 ?_))))));refine rl (fun mz a w=>∃ k:Nat,(k≤L.start.length)∧(∀ r∈L.start.take k,(fun r=>decide ((r.length:Int)=L.sorts)) r=true)∧Slots 65 [(3,vI ↑k),(1,vP b1 0)] a∧a.defers=[]∧St I ((bX b1 #[vI (L.places),vI (L.sorts),vS a0 L.start.length a1,vS a5 L.keeps.length a6,vS a7 L.slips.length a8] 26)::F) w∧mz=L.start.length-k) ?_ ?_
 ·intro a w hS hD hW;exact ⟨_,0,Nat.zero_le _,(fun x h=>by simp at h),hS.sub (.cons 3 rfl (.cons 1 rfl (.nil _))),hD,hW,rfl⟩
 rintro mz a w ⟨k,hk,ha,hS,hD,hW,rfl⟩
 refine AR hS hD hW ?_;clear hS hD hW a w;refine rq (rqr (sp 2 [(23,vP b1 2),(22,vI (↑k))] (sd (dlb 24 0 2 b1 (vS a0 L.start.length a1)) (sp 2 [(26,.bool (cmp .lss (↑k) (↑(L.start.length))))] (se (rc 26 rfl (fun h4=>?_) (fun h4=>?_)))))))
 ·
  have c4:=h4;have h4:=CF h4;refine AO (NX (rq (rb 1 (rq ?_))));refine rd0 8 (ox 1 [(29,vP b1 2)] ?_);refine AD (dlb 30 0 2 b1 (vS a0 L.start.length a1)) (ox 1 [(31,vI (↑k))] ?_);refine AD (di 32 1 (k) a4.addr) ?_;have b5:=b3 (k) (by omega);obtain ⟨f3,f5,f4,f8,b4,f6,f7,f9⟩:=id b5;rw [b4] at b5;refine AD (BW (dl 33 (FB a4 (k) (by omega))) b4) (ox 2 [(35,vP b1 1),(34,vI (↑((L.start.getD (k) []).length)))] ?_);refine AD (dlb 36 0 1 b1 (vI (L.sorts))) ?_;refine AU (sp 1 [(37,.bool (!(cmp .eql (↑((L.start.getD (k) []).length)) (L.sorts))))] (se (rc 37 rfl (fun h5=>?_) (fun h5=>?_))))
  ·
   have c5:=h5;have h5:=BK (BQ h5);refine rqr (sp 1 [(2,vI (2))] (se (BH ((RB (RP (RP (RB (RP (AG (t:=2) [] (by kernel_rfl) rfl (TC _ (TR _)) (IR _) ?_))))))))));exact ⟨congrArg (Value.int .i64) ((JX a3).trans (startErr_2 (k:=k) (by omega) (by omega) h5)).symm,rfl⟩
  have c5:=h5;have h5:=BL (BJ h5);refine AO (NB (NX (rr (sp 1 [(27,vI (↑k))] (sd (da 28 (↑k) (1)) (sp 1 [(3,vI (↑k+1))] (ee ?_)))))));refine AN (L.start.length-(k+1)) (by omega) ?_;intro a w hS hD hW;exact ⟨k+1,by omega,MA (d:=[]) ha (by omega) (decide_eq_true h5),hS.sub (.consE 3 rfl rfl (.cons 1 rfl (.nil _))),hD,hW,rfl⟩
 have c4:=h4;have h4:=CO h4;refine CB 0 ((EP (EP (EB (NX (rq (rq ?_)))))));have d6:(L.start.all fun r=>decide ((r.length:Int)=L.sorts))=true:=QI ha (by omega);refine rr (sp 1 [(4,vI (0))] (se (rb 2 ?_)));refine rl (fun mz a w=>∃ i:Nat,(i≤L.start.length)∧(∀ r∈L.start.take i,(r.all fun n=>inB n 0 50)=true)∧Slots 65 [(4,vI ↑i),(1,vP b1 0)] a∧a.defers=[]∧St I ((bX b1 #[vI (L.places),vI (L.sorts),vS a0 L.start.length a1,vS a5 L.keeps.length a6,vS a7 L.slips.length a8] 26)::F) w∧mz=L.start.length-i) ?_ ?_
 ·intro a w hS hD hW;exact ⟨_,0,Nat.zero_le _,(fun x h=>by simp at h),hS.sub (.cons 4 rfl (.cons 1 rfl (.nil _))),hD,hW,rfl⟩
 rintro mz a w ⟨i,hi,hb,hS,hD,hW,rfl⟩
 refine AR hS hD hW ?_;clear hS hD hW a w;refine rq (rqr (sp 2 [(39,vP b1 2),(38,vI (↑i))] (sd (dlb 40 0 2 b1 (vS a0 L.start.length a1)) (sp 2 [(42,.bool (cmp .lss (↑i) (↑(L.start.length))))] (se (rc 42 rfl (fun h6=>?_) (fun h6=>?_)))))))
 ·
  have c6:=h6;have h6:=CF h6;refine AO (NX (rq (rb 3 (rqr (sp 1 [(5,vI (0))] (se (rb 4 ?_)))))));refine rl (fun mz a w=>∃ m:Nat,(m≤(L.start.getD i []).length)∧(∀ x∈(L.start.getD i []).take m,(fun n=>inB n 0 50) x=true)∧Slots 65 [(5,vI ↑m),(1,vP b1 0),(4,vI (↑i))] a∧a.defers=[]∧St I ((bX b1 #[vI (L.places),vI (L.sorts),vS a0 L.start.length a1,vS a5 L.keeps.length a6,vS a7 L.slips.length a8] 26)::F) w∧mz=(L.start.getD i []).length-m) ?_ ?_
  ·intro a w hS hD hW;exact ⟨_,0,Nat.zero_le _,(fun x h=>by simp at h),hS.sub (.cons 5 rfl (.cons 1 rfl (.cons 4 rfl (.nil _)))),hD,hW,rfl⟩
  rintro mz a w ⟨m,hm,hc,hS,hD,hW,rfl⟩
  refine AR hS hD hW ?_;clear hS hD hW a w;refine rq (rqr (sp 2 [(46,vP b1 2),(45,vI (↑m))] (sd (dlb 47 0 2 b1 (vS a0 L.start.length a1)) (sp 1 [(48,vI (↑i))] (sd (di 49 1 (i) a4.addr) ?_)))));have b7:=b3 (i) (by omega);obtain ⟨g0,g2,g1,g5,b6,g3,g4,g6⟩:=id b7;rw [b6] at b7;refine sd (BW (dl 50 (FB a4 (i) (by omega))) b6) (sp 2 [(52,.bool (cmp .lss (↑m) (↑((L.start.getD (i) []).length))))] (se (rc 52 rfl (fun h7=>?_) (fun h7=>?_))))
  ·
   have c7:=h7;have h7:=CF h7;refine AO (NX (rq (rb 5 (rqr (sp 1 [(55,vP b1 2)] (sd (dlb 56 0 2 b1 (vS a0 L.start.length a1)) (sp 1 [(57,vI (↑i))] (sd (di 58 1 (i) a4.addr) ?_))))))));have b9:=b3 (i) (by omega);obtain ⟨g7,g9,g8,i0,b8,h0,h9,c0⟩:=id b9;rw [b8] at b9;refine sd (BW (dl 59 (FB a4 (i) (by omega))) b8) (sp 1 [(60,vI (↑m))] (sd (di 61 1 (m) c0.addr) (sd (dl 62 (CK c0 (m) (by omega))) (sd (dc 63 (fun I' hI=>(CL I' ((L.start.getD (i) []).getD (m) 0) (0) (50) :))) (sp 1 [(64,.bool (!(inB ((L.start.getD (i) []).getD (m) 0) 0 50)))] (se (rc 64 rfl (fun h8=>?_) (fun h8=>?_))))))))
   ·
    have c9:=h8;have h8:=BQ h8;have c8:=GA h8;refine rqr (sp 1 [(2,vI (1))] (se (BH ((RB (RP (RP (RB (RB (RP (RP (RB (RP (AG (t:=2) [] (by kernel_rfl) rfl (TC _ (TR _)) (IR _) ?_))))))))))))));exact ⟨congrArg (Value.int .i64) ((JX a3).trans (startErr_3r (k:=i) (m:=m) (by omega) d6 (by omega) (by omega) h8)).symm,rfl⟩
   have c9:=h8;have h8:=BJ h8;have c8:=CR h8;refine AO (NB (NX (rr (sp 1 [(53,vI (↑m))] (sd (da 54 (↑m) (1)) (sp 1 [(5,vI (↑m+1))] (ee ?_)))))));refine AN ((L.start.getD i []).length-(m+1)) (by omega) ?_;intro a w hS hD hW;exact ⟨m+1,by omega,MA (d:=0) hc (by omega) h8,hS.sub (.consE 5 rfl rfl (.cons 1 rfl (.cons 4 rfl (.nil _)))),hD,hW,rfl⟩
  have c7:=h7;have h7:=CO h7;refine CB 4 ((EP (EP (EB (NB (NX (rr (sp 1 [(43,vI (↑i))] (sd (da 44 (↑i) (1)) (sp 1 [(4,vI (↑i+1))] (ee ?_)))))))))));refine AN (L.start.length-(i+1)) (by omega) ?_;intro a w hS hD hW;exact ⟨i+1,by omega,MA (d:=[]) hb (by omega) (QI hc (by omega)),hS.sub (.consE 4 rfl rfl (.cons 1 rfl (.nil _))),hD,hW,rfl⟩
 have c6:=h6;have h6:=CO h6;refine CB 2 ((EP (EP (EB (NX (rqr (sp 1 [(2,vI (0))] (se (BH (AG (t:=2) [] (by kernel_rfl) rfl (TC _ (TR _)) (IR _) ?_))))))))));exact ⟨congrArg (Value.int .i64) ((JX a3).trans (startErr_4r (k:=i) (by omega) d6 (by omega) hb)).symm,rfl⟩
noncomputable def c_rcheckKeeps (p:List Nat):Code:=sub (AQ Tryz.f106) p
theorem rcheckKeeps_ct (I:Imm) (l:Value) (L:Lin) (l_f:IsLin I l L) (hp:1≤L.places∧L.places≤4):CtV Tryz.prog 106 #[l] I (vI (CT L)):=by
 obtain ⟨l1,l2,l3,f0,c8,d0,d2⟩:=id l_f;subst f0;obtain ⟨a4,a5,d7,e0,d6,c7,d8,d9,e1,e2⟩:=id c8;subst c7;obtain ⟨a0,a1,b8,b9,c9,e3,e4,a2⟩:=id d0;subst c9;obtain ⟨a6,a7,e5,e8,d1,e6,e7,e9⟩:=id d2;subst d1;refine fr (args:=[_]) (N:=64) Tryz.func106 (fun F=>?_);show Run _ _ (c_rcheckKeeps []) _ _ [(0,.agg #[vI (L.places),vI (L.sorts),vS a4 L.start.length a5,vS a0 L.keeps.length a1,vS a6 L.slips.length a7])] _ _;refine rnm (rqr ?_);refine sS (sb 1 26 #[vI (L.places),vI (L.sorts),vS a4 L.start.length a5,vS a0 L.keeps.length a1,vS a6 L.slips.length a7] (fun b1=>(sp 1 [(2,vI (0))] (se (rq (rqr (sp 1 [(6,vP b1 3)] (sd (dlb 7 0 3 b1 (vS a0 L.keeps.length a1)) (sp 2 [(9,.bool (cmp .gtr (↑(L.keeps.length)) (4)))] (se (rc 9 rfl (fun h1=>?_) (fun h1=>?_))))))))))))
 ·
  have c0:=h1;have h1:=JW h1;refine rqr (sp 1 [(2,vI (6))] (se (BH ((RP (AG (t:=2) [] (by kernel_rfl) rfl (TC _ (TR _)) (IR _) ?_))))));exact ⟨congrArg (Value.int .i64) (NT (by omega)).symm,rfl⟩
 have c0:=h1;have h1:=MN h1;refine AO (NX (rq (rqr (sp 1 [(3,vI (0))] (se (rb 0 ?_))))));refine rl (fun mz a w=>∃ J0:Imm,∃ k:Nat,(I.le J0)∧(k≤L.keeps.length)∧(FD (EU L) k=0)∧Slots 64 [(3,vI ↑k),(1,vP b1 0)] a∧a.defers=[]∧St J0 ((bX b1 #[vI (L.places),vI (L.sorts),vS a4 L.start.length a5,vS a0 L.keeps.length a1,vS a6 L.slips.length a7] 26)::F) w∧mz=L.keeps.length-k) ?_ ?_
 ·intro a w hS hD hW;exact ⟨_,I,0,IR _,Nat.zero_le _,rfl,hS.sub (.cons 3 rfl (.cons 1 rfl (.nil _))),hD,hW,rfl⟩
 rintro mz a w ⟨J0,k,hJ0,hk,hz,hS,hD,hW,rfl⟩
 refine AR hS hD hW ?_;clear hS hD hW a w;replace a2:=a2.mono hJ0;refine rq (rqr (sp 2 [(11,vP b1 3),(10,vI (↑k))] (sd (dlb 12 0 3 b1 (vS a0 L.keeps.length a1)) (sp 2 [(14,.bool (cmp .lss (↑k) (↑(L.keeps.length))))] (se (rc 14 rfl (fun h2=>?_) (fun h2=>?_)))))))
 ·
  have c1:=h2;have h2:=CF h2;refine AO (NX (rq (rb 1 (rqr (sp 1 [(17,vP b1 3)] (sd (dlb 18 0 3 b1 (vS a0 L.keeps.length a1)) (sp 1 [(19,vI (↑k))] (sd (di 20 3 (k) a2.addr) (sd (BR (x:=(.tmp 20)) (T:=50) (n:=3) (vs:=[vI ((L.keeps.getD (k) AJ).place),vI ((L.keeps.getD (k) AJ).hour),vI ((L.keeps.getD (k) AJ).who)]) (d:=21) (ty:=50) (gd:=none) (by kernel_rfl) rfl (by kernel_rfl) (by kernel_rfl) rfl rfl (DQ (vals:=HY) (fun _=>rfl) a2 (k) (by omega))) (sS (sal 4 50 #[vI (0),vI (0),vI (0)] (fun b3=>(sS (ss 0 0 b3 [vI ((L.keeps.getD (k) AJ).place),vI ((L.keeps.getD (k) AJ).hour),vI ((L.keeps.getD (k) AJ).who)] [vI ((L.keeps.getD (k) AJ).place),vI ((L.keeps.getD (k) AJ).hour),vI ((L.keeps.getD (k) AJ).who)] (_::_::_) (cs:=[_,_,_]) rfl rfl (se (rq (rqr (sp 1 [(22,vP b3 0)] (sd (dlb 23 0 0 b3 (vI ((L.keeps.getD (k) AJ).place))) (sp 1 [(24,vP b1 0)] (sd (dlb 25 1 0 b1 (vI (L.places))) (sd (dsb 26 (L.places) (1)) (sd (dc 27 (fun I' hI=>(CL I' ((L.keeps.getD (k) AJ).place) (0) (L.places-1) :))) (sp 1 [(28,.bool (!(inB ((L.keeps.getD (k) AJ).place) 0 (L.places-1))))] (se (rc 28 rfl (fun h3=>?_) (fun h3=>?_)))))))))))))))))))))))))))
  ·
   have c3:=h3;have h3:=BQ h3;have c2:=GA h3;refine rqr (sp 1 [(2,vI (3))] (se (BH ((RP (RB (RP (RP (RB (RP (AG (t:=2) [] (by kernel_rfl) rfl (TC _ (TC _ (TR _))) hJ0 ?_)))))))))));exact ⟨congrArg (Value.int .i64) (FP (by omega) hz (by omega) (keepErr_3 h3) (by decide)).symm,rfl⟩
  have c3:=h3;have h3:=BJ h3;have c2:=CR h3;refine AO (NX (rq (rq ?_)));refine CC (fun a w=>Slots 64 [(1,vP b1 0),(3,vI (↑k)),(4,vP b3 0),(38,.bool ((!(inB ((L.keeps.getD (k) AJ).hour) 0 200))||(!(inB ((L.keeps.getD (k) AJ).who) 1 9))))] a∧a.defers=[]∧St J0 ((bX b3 #[vI ((L.keeps.getD (k) AJ).place),vI ((L.keeps.getD (k) AJ).hour),vI ((L.keeps.getD (k) AJ).who)] 50)::(bX b1 #[vI (L.places),vI (L.sorts),vS a4 L.start.length a5,vS a0 L.keeps.length a1,vS a6 L.slips.length a7] 26)::F) w) ?_ ?_
  ·
   refine rr (sp 1 [(29,vP b3 1)] (sd (dlb 30 0 1 b3 (vI ((L.keeps.getD (k) AJ).hour))) (sd (dc 31 (fun I' hI=>(CL I' ((L.keeps.getD (k) AJ).hour) (0) (200) :))) (sp 2 [(33,.bool (!(inB ((L.keeps.getD (k) AJ).hour) 0 200)))] ?_))));refine BE 33 rfl (fun h4=>?_) (fun h4=>?_)
   ·
    have a3:=h4;have a3:=BQ a3;have a9:=GA a3;refine sp 5 [(38,.bool (true))] (ee ?_);refine AL (fun a w hS hD hW=>⟨hS.sub (.cons 1 rfl (.cons 3 rfl (.cons 4 rfl (.consE 38 rfl (congrArg Value.bool (by simp only [h4,kA,kB,kC,kD,kE,kF,kG,kH,kI,kJ])) (.nil _))))),hD,hW⟩)
   have a3:=h4;have a3:=BJ a3;have a9:=CR a3;refine sp 1 [(34,vP b3 2)] (sd (dlb 35 0 2 b3 (vI ((L.keeps.getD (k) AJ).who))) (sd (dc 36 (fun I' hI=>(CL I' ((L.keeps.getD (k) AJ).who) (1) (9) :))) (sp 2 [(38,.bool (!(inB ((L.keeps.getD (k) AJ).who) 1 9)))] (ee ?_))));refine AL (fun a w hS hD hW=>⟨hS.sub (.cons 1 rfl (.cons 3 rfl (.cons 4 rfl (.consE 38 rfl (congrArg Value.bool (by simp only [h4,kA,kB,kC,kD,kE,kF,kG,kH,kI,kJ])) (.nil _))))),hD,hW⟩)
  rintro a w ⟨hS,hD,hW⟩
  refine AR hS hD hW ?_;clear hS hD hW a w;refine rc 38 rfl (fun h5=>?_) (fun h5=>?_)
  ·
   have b4:=h5;refine rqr (sp 1 [(2,vI (1))] (se (BH ((RP (RB (RP (RP (RB (RP (AG (t:=2) [] (by kernel_rfl) rfl (TC _ (TC _ (TR _))) hJ0 ?_)))))))))));exact ⟨congrArg (Value.int .i64) (FP (by omega) hz (by omega) (keepErr_1r h3 b4) (by decide)).symm,rfl⟩
  have b4:=h5;obtain ⟨b0,b2⟩:=or_f h5;have b0:=BJ b0;have c4:=CR b0;have b2:=BJ b2;have c5:=CR b2;refine AO (NX (rq ?_));have d5:=h3;have d3:=b4;refine rr (sp 1 [(5,vI (0))] (se (rb 2 ?_)));refine rl (fun mz a w=>∃ m:Nat,(m≤k)∧(∀ q,q<m→(cmp .eql (L.keeps.getD (q) AJ).place (L.keeps.getD (k) AJ).place&&cmp .eql (L.keeps.getD (q) AJ).hour (L.keeps.getD (k) AJ).hour)=false)∧Slots 64 [(5,vI ↑m),(1,vP b1 0),(3,vI (↑k)),(4,vP b3 0)] a∧a.defers=[]∧St J0 ((bX b3 #[vI ((L.keeps.getD (k) AJ).place),vI ((L.keeps.getD (k) AJ).hour),vI ((L.keeps.getD (k) AJ).who)] 50)::(bX b1 #[vI (L.places),vI (L.sorts),vS a4 L.start.length a5,vS a0 L.keeps.length a1,vS a6 L.slips.length a7] 26)::F) w∧mz=k-m) ?_ ?_
  ·intro a w hS hD hW;exact ⟨_,0,Nat.zero_le _,(fun q hq=>by omega),hS.sub (.cons 5 rfl (.cons 1 rfl (.cons 3 rfl (.cons 4 rfl (.nil _))))),hD,hW,rfl⟩
  rintro mz a w ⟨m,hm,d4,hS,hD,hW,rfl⟩
  refine AR hS hD hW ?_;clear hS hD hW a w;refine rq (rqr (sp 3 [(41,.bool (cmp .lss (↑m) (↑k)))] (se (rc 41 rfl (fun h6=>?_) (fun h6=>?_)))))
  ·
   have c6:=h6;have h6:=CF h6;refine AO (NX (rq (rb 3 (rq ?_))));refine CC (fun a w=>Slots 64 [(1,vP b1 0),(3,vI (↑k)),(4,vP b3 0),(5,vI (↑m)),(63,.bool ((cmp .eql ((L.keeps.getD (m) AJ).place) ((L.keeps.getD (k) AJ).place))&&(cmp .eql ((L.keeps.getD (m) AJ).hour) ((L.keeps.getD (k) AJ).hour))))] a∧a.defers=[]∧St J0 ((bX b3 #[vI ((L.keeps.getD (k) AJ).place),vI ((L.keeps.getD (k) AJ).hour),vI ((L.keeps.getD (k) AJ).who)] 50)::(bX b1 #[vI (L.places),vI (L.sorts),vS a4 L.start.length a5,vS a0 L.keeps.length a1,vS a6 L.slips.length a7] 26)::F) w) ?_ ?_
   ·
    refine rd0 18 (ox 1 [(44,vP b1 3)] ?_);refine AD (dlb 45 1 3 b1 (vS a0 L.keeps.length a1)) (ox 1 [(46,vI (↑m))] ?_);refine AD (di 47 3 (m) a2.addr) (ox 1 [(48,.pointer (some ⟨b8,b9+m*3,none⟩))] ?_);refine AD (dl 49 (LV a2 (m) (by omega) 0 (by decide) (v:=vI ((L.keeps.getD (m) AJ).place)) rfl)) (ox 1 [(50,vP b3 0)] ?_);refine AD (dlb 51 0 0 b3 (vI ((L.keeps.getD (k) AJ).place))) (ox 2 [(53,.bool (cmp .eql ((L.keeps.getD (m) AJ).place) ((L.keeps.getD (k) AJ).place)))] ?_);refine IQ 53 (fun h7=>?_) (fun h7=>?_)
    ·
     have a8:=h7;have a8:=BL a8;refine ox 1 [(54,vP b1 3)] ?_;refine AD (dlb 55 1 3 b1 (vS a0 L.keeps.length a1)) (ox 1 [(56,vI (↑m))] ?_);refine AD (di 57 3 (m) a2.addr) (ox 1 [(58,.pointer (some ⟨b8,b9+m*3+1,none⟩))] ?_);refine AD (dl 59 (LV a2 (m) (by omega) 1 (by decide) (v:=vI ((L.keeps.getD (m) AJ).hour)) rfl)) (ox 1 [(60,vP b3 1)] ?_);refine AD (dlb 61 0 1 b3 (vI ((L.keeps.getD (k) AJ).hour))) ?_;refine AU (sp 2 [(63,.bool (cmp .eql ((L.keeps.getD (m) AJ).hour) ((L.keeps.getD (k) AJ).hour)))] (ee ?_));refine AL (fun a w hS hD hW=>⟨hS.sub (.cons 1 rfl (.cons 3 rfl (.cons 4 rfl (.cons 5 rfl (.consE 63 rfl (congrArg Value.bool (by simp only [h7,kA,kB,kC,kD,kE,kF,kG,kH,kI,kJ])) (.nil _)))))),hD,hW⟩)
    have a8:=h7;have a8:=BK a8;refine ox 8 [(61,undef),(59,undef)] ?_;refine AU (sp 2 [(63,.bool (false))] (ee ?_));refine AL (fun a w hS hD hW=>⟨hS.sub (.cons 1 rfl (.cons 3 rfl (.cons 4 rfl (.cons 5 rfl (.consE 63 rfl (congrArg Value.bool (by simp only [h7,kA,kB,kC,kD,kE,kF,kG,kH,kI,kJ])) (.nil _)))))),hD,hW⟩)
   rintro a w ⟨hS,hD,hW⟩
   refine AR hS hD hW ?_;clear hS hD hW a w;refine rc 63 rfl (fun h8=>?_) (fun h8=>?_)
   ·
    have b5:=h8;obtain ⟨b6,b7⟩:=KS h8;have b6:=BL b6;have b7:=BL b7;refine rqr (sp 1 [(2,vI (4))] (se (BH ((RB (RP (RP (RB (RB (RP (RP (RB (RP (AG (t:=2) [] (by kernel_rfl) rfl (TC _ (TC _ (TR _))) hJ0 ?_))))))))))))));exact ⟨congrArg (Value.int .i64) (FP (by omega) hz (by omega) (keepErr_4r d5 d3 (by omega) (by omega) b5) (by decide)).symm,rfl⟩
   have b5:=h8;refine AO (NB (NX (rr (sp 1 [(42,vI (↑m))] (sd (da 43 (↑m) (1)) (sp 1 [(5,vI (↑m+1))] (ee ?_)))))));refine AN (k-(m+1)) (by omega) ?_;intro a w hS hD hW;exact ⟨m+1,by omega,IH d4 b5,hS.sub (.consE 5 rfl rfl (.cons 1 rfl (.cons 3 rfl (.cons 4 rfl (.nil _))))),hD,hW,rfl⟩
  have c6:=h6;have h6:=CO h6;refine CB 2 ((EP (EP (EB (NB (NX (rr (sp 1 [(15,vI (↑k))] (sd (da 16 (↑k) (1)) (sp 1 [(3,vI (↑k+1))] (ee ?_)))))))))));refine AN (L.keeps.length-(k+1)) (by omega) ?_;intro a w hS hD hW;exact ⟨J0,k+1,hJ0,by omega,KE hz (keepErr_0r d5 d3 (fun q hq=>d4 q (by omega))),hS.sub (.consE 3 rfl rfl (.cons 1 rfl (.nil _))),hD,(hW.perm (PR _)).sub (TC _ (TR _)),rfl⟩
 have c1:=h2;have h2:=CO h2;refine CB 0 ((EP (EP (EB (NX (rqr (sp 1 [(2,vI (0))] (se (BH (AG (t:=2) [] (by kernel_rfl) rfl (TC _ (TR _)) hJ0 ?_))))))))));exact ⟨congrArg (Value.int .i64) (NU (by omega) hz (by omega)).symm,rfl⟩
noncomputable def c_rcheckSlip (p:List Nat):Code:=sub (AQ Tryz.f107) p
theorem rcheckSlip_ct (I:Imm) (l:Value) (L:Lin) (s:Slip) (l_f:IsLin I l L) (hp:1≤L.places∧L.places≤4) (hq:1≤L.sorts∧L.sorts≤2):CtV Tryz.prog 107 #[l,.agg #[vI s.num,vI s.hour,vI s.kind,vI s.place,vI s.to,vI s.sort,.bool s.soil,vI s.amt]] I (vI (DH L s)):=by
 obtain ⟨l1,l2,l3,j1,f8,g0,g2⟩:=id l_f;subst j1;obtain ⟨b8,b9,g6,g9,g5,f7,g7,g8,h0,i0⟩:=id f8;subst f7;obtain ⟨c0,c1,i1,i4,f9,i2,i3,i5⟩:=id g0;subst f9;obtain ⟨c2,c3,i6,i9,g1,i7,i8,j0⟩:=id g2;subst g1;refine fr (args:=[_,_]) (N:=72) Tryz.func107 (fun F=>?_);show Run _ _ (c_rcheckSlip []) _ _ [(0,.agg #[vI (L.places),vI (L.sorts),vS b8 L.start.length b9,vS c0 L.keeps.length c1,vS c2 L.slips.length c3]),(1,.agg #[vI (s.num),vI (s.hour),vI (s.kind),vI (s.place),vI (s.to),vI (s.sort),.bool (s.soil),vI (s.amt)])] _ _;refine rnm (rqr ?_);refine sS (sb 2 26 #[vI (L.places),vI (L.sorts),vS b8 L.start.length b9,vS c0 L.keeps.length c1,vS c2 L.slips.length c3] (fun b1=>(sS (sb 3 28 #[vI (s.num),vI (s.hour),vI (s.kind),vI (s.place),vI (s.to),vI (s.sort),.bool (s.soil),vI (s.amt)] (fun b3=>(sp 1 [(4,vI (0))] (se (rq (rq ?_)))))))));refine CC (fun a w=>Slots 72 [(2,vP b1 0),(3,vP b3 0),(4,vI (0)),(15,.bool ((!(inB s.num 1 999))||(!(inB s.hour 0 200))))] a∧a.defers=[]∧St I ((bX b3 #[vI (s.num),vI (s.hour),vI (s.kind),vI (s.place),vI (s.to),vI (s.sort),.bool (s.soil),vI (s.amt)] 28)::(bX b1 #[vI (L.places),vI (L.sorts),vS b8 L.start.length b9,vS c0 L.keeps.length c1,vS c2 L.slips.length c3] 26)::F) w) ?_ ?_
 ·
  refine rr (sp 1 [(6,vP b3 0)] (sd (dlb 7 0 0 b3 (vI (s.num))) (sd (dc 8 (fun I' hI=>(CL I' (s.num) (1) (999) :))) (sp 2 [(10,.bool (!(inB s.num 1 999)))] ?_))));refine BE 10 rfl (fun h1=>?_) (fun h1=>?_)
  ·
   have b7:=h1;have b7:=BQ b7;have d4:=GA b7;refine sp 5 [(15,.bool (true))] (ee ?_);refine AL (fun a w hS hD hW=>⟨hS.sub (.cons 2 rfl (.cons 3 rfl (.cons 4 rfl (.consE 15 rfl (congrArg Value.bool (by simp only [h1,kA,kB,kC,kD,kE,kF,kG,kH,kI,kJ])) (.nil _))))),hD,hW⟩)
  have b7:=h1;have b7:=BJ b7;have d4:=CR b7;refine sp 1 [(11,vP b3 1)] (sd (dlb 12 0 1 b3 (vI (s.hour))) (sd (dc 13 (fun I' hI=>(CL I' (s.hour) (0) (200) :))) (sp 2 [(15,.bool (!(inB s.hour 0 200)))] (ee ?_))));refine AL (fun a w hS hD hW=>⟨hS.sub (.cons 2 rfl (.cons 3 rfl (.cons 4 rfl (.consE 15 rfl (congrArg Value.bool (by simp only [h1,kA,kB,kC,kD,kE,kF,kG,kH,kI,kJ])) (.nil _))))),hD,hW⟩)
 rintro a w ⟨hS,hD,hW⟩
 refine AR hS hD hW ?_;clear hS hD hW a w;refine rc 15 rfl (fun h2=>?_) (fun h2=>?_)
 ·
  have a0:=h2;refine rqr (sp 1 [(4,vI (1))] (se (BH ((RP (AG (t:=4) [] (by kernel_rfl) rfl (TC _ (TC _ (TR _))) (IR _) ?_))))));exact ⟨congrArg (Value.int .i64) (by first | (simp only [DR,HU,a0,cond_true,cond_false];done) | (exfalso;simp only [ Bool.not_true,Bool.and_false,Bool.false_and] at a0;cases a0)),rfl⟩
 have a0:=h2;obtain ⟨d5,d6⟩:=or_f h2;have d5:=BJ d5;have f0:=CR d5;have d6:=BJ d6;have f1:=CR d6;refine AO (NX (rq (rqr (sp 1 [(16,vP b3 2)] (sd (dlb 17 0 2 b3 (vI (s.kind))) (sd (dc 18 (fun I' hI=>(CL I' (s.kind) (1) (6) :))) (sp 1 [(19,.bool (!(inB s.kind 1 6)))] (se (rc 19 rfl (fun h3=>?_) (fun h3=>?_))))))))))
 ·
  have a1:=h3;have h3:=BQ h3;have f2:=GA h3;refine rqr (sp 1 [(4,vI (8))] (se (BH ((RP (AG (t:=4) [] (by kernel_rfl) rfl (TC _ (TC _ (TR _))) (IR _) ?_))))));exact ⟨congrArg (Value.int .i64) (by first | (simp only [DR,HU,a0,a1,cond_true,cond_false];done) | (exfalso;simp only [a0,Bool.not_true,Bool.and_false,Bool.false_and] at a1;cases a1)),rfl⟩
 have a1:=h3;have h3:=BJ h3;have f2:=CR h3;refine AO (NX (rq (rqr (sp 1 [(20,vP b3 3)] (sd (dlb 21 0 3 b3 (vI (s.place))) (sp 1 [(22,vP b1 0)] (sd (dlb 23 1 0 b1 (vI (L.places))) (sd (dsb 24 (L.places) (1)) (sd (dc 25 (fun I' hI=>(CL I' (s.place) (0) (L.places-1) :))) (sp 1 [(26,.bool (!(inB s.place 0 (L.places-1))))] (se (rc 26 rfl (fun h4=>?_) (fun h4=>?_)))))))))))))
 ·
  have a2:=h4;have h4:=BQ h4;have f3:=GA h4;refine rqr (sp 1 [(4,vI (3))] (se (BH ((RP (AG (t:=4) [] (by kernel_rfl) rfl (TC _ (TC _ (TR _))) (IR _) ?_))))));exact ⟨congrArg (Value.int .i64) (by first | (simp only [DR,HU,a0,a1,a2,cond_true,cond_false];done) | (exfalso;simp only [a0,a1,Bool.not_true,Bool.and_false,Bool.false_and] at a2;cases a2)),rfl⟩
 have a2:=h4;have h4:=BJ h4;have f3:=CR h4;refine AO (NX (rq (rqr (sp 1 [(27,vP b3 2)] (sd (dlb 28 0 2 b3 (vI (s.kind))) (sp 1 [(29,.bool (cmp .eql (s.kind) (1)))] (se (rc 29 rfl (fun h5=>?_) (fun h5=>?_)))))))))
 ·
  have a3:=h5;have h5:=BL h5;refine rq (rqr (sp 1 [(30,vP b3 4)] (sd (dlb 31 0 4 b3 (vI (s.to))) (sp 1 [(32,vP b1 0)] (sd (dlb 33 1 0 b1 (vI (L.places))) (sd (dsb 34 (L.places) (1)) (sd (dc 35 (fun I' hI=>(CL I' (s.to) (0) (L.places-1) :))) (sp 1 [(36,.bool (!(inB s.to 0 (L.places-1))))] (se (rc 36 rfl (fun h6=>?_) (fun h6=>?_)))))))))))
  ·
   have a7:=h6;have h6:=BQ h6;have f4:=GA h6;refine rqr (sp 1 [(4,vI (3))] (se (BH ((RP (RP (AG (t:=4) [] (by kernel_rfl) rfl (TC _ (TC _ (TR _))) (IR _) ?_)))))));exact ⟨congrArg (Value.int .i64) (by first | (simp only [DR,HU,a0,a1,a2,a3,a7,cond_true,cond_false];done) | (exfalso;simp only [a0,a1,a2,a3,Bool.not_true,Bool.and_false,Bool.false_and] at a7;cases a7)),rfl⟩
  have a7:=h6;have h6:=BJ h6;have f4:=CR h6;refine AO (NX (rqr (sp 1 [(37,vP b3 4)] (sd (dlb 38 0 4 b3 (vI (s.to))) (sp 1 [(39,vP b3 3)] (sd (dlb 40 0 3 b3 (vI (s.place))) (sp 1 [(41,.bool (cmp .eql (s.to) (s.place)))] (se (rc 41 rfl (fun h7=>?_) (fun h7=>?_))))))))))
  ·
   have a9:=h7;have h7:=BL h7;refine rqr (sp 1 [(4,vI (4))] (se (BH ((RP (AG (t:=4) [] (by kernel_rfl) rfl (TC _ (TC _ (TR _))) (IR _) ?_))))));exact ⟨congrArg (Value.int .i64) (by first | (simp only [DR,HU,a0,a1,a2,a3,a7,a9,cond_true,cond_false];done) | (exfalso;simp only [a0,a1,a2,a3,a7,Bool.not_true,Bool.and_false,Bool.false_and] at a9;cases a9)),rfl⟩
  have a9:=h7;have h7:=BK h7;refine AO (NX (rq (rqr (sp 1 [(45,vP b3 5)] (sd (dlb 46 0 5 b3 (vI (s.sort))) (sp 1 [(47,vP b1 1)] (sd (dlb 48 1 1 b1 (vI (L.sorts))) (sd (dsb 49 (L.sorts) (1)) (sd (dc 50 (fun I' hI=>(CL I' (s.sort) (0) (L.sorts-1) :))) (sp 1 [(51,.bool (!(inB s.sort 0 (L.sorts-1))))] (se (rc 51 rfl (fun h8=>?_) (fun h8=>?_)))))))))))))
  ·
   have b4:=h8;have h8:=BQ h8;have f5:=GA h8;refine rqr (sp 1 [(4,vI (3))] (se (BH ((RP (AG (t:=4) [] (by kernel_rfl) rfl (TC _ (TC _ (TR _))) (IR _) ?_))))));exact ⟨congrArg (Value.int .i64) (by first | (simp only [DR,HU,a0,a1,a2,a3,a7,a9,b4,cond_true,cond_false];done) | (exfalso;simp only [a0,a1,a2,a3,a7,a9,Bool.not_true,Bool.and_false,Bool.false_and] at b4;cases b4)),rfl⟩
  have b4:=h8;have h8:=BJ h8;have f5:=CR h8;refine AO (NX (rq (rq ?_)));refine CC (fun a w=>Slots 72 [(3,vP b3 0),(4,vI (0)),(63,.bool ((s.soil)&&((!(cmp .eql (s.kind) (1)))&&(!(cmp .eql (s.kind) (4))))))] a∧a.defers=[]∧St I ((bX b3 #[vI (s.num),vI (s.hour),vI (s.kind),vI (s.place),vI (s.to),vI (s.sort),.bool (s.soil),vI (s.amt)] 28)::(bX b1 #[vI (L.places),vI (L.sorts),vS b8 L.start.length b9,vS c0 L.keeps.length c1,vS c2 L.slips.length c3] 26)::F) w) ?_ ?_
  ·
   refine rr (sp 1 [(52,vP b3 6)] (sd (dlb 53 0 6 b3 (.bool (s.soil))) (sp 1 [(54,.bool (s.soil))] ?_)));refine BE 54 rfl (fun h9=>?_) (fun h9=>?_)
   ·
    have f6:=h9;refine sp 1 [(55,vP b3 2)] (sd (dlb 56 0 2 b3 (vI (s.kind))) (sp 3 [(59,.bool (!(cmp .eql (s.kind) (1))))] ?_));refine BE 59 rfl (fun d8=>?_) (fun d8=>?_)
    ·
     have b5:=d8;have b5:=BK (BQ b5);refine sp 1 [(60,vP b3 2)] (sd (dlb 61 0 2 b3 (vI (s.kind))) (sp 2 [(63,.bool (!(cmp .eql (s.kind) (4))))] (ee ?_)));refine AL (fun a w hS hD hW=>⟨hS.sub (.cons 3 rfl (.cons 4 rfl (.consE 63 rfl (congrArg Value.bool (by simp only [h9,d8,kA,kB,kC,kD,kE,kF,kG,kH,kI,kJ])) (.nil _)))),hD,hW⟩)
    have b5:=d8;have b5:=BL (BJ b5);refine sp 4 [(63,.bool (false))] (ee ?_);refine AL (fun a w hS hD hW=>⟨hS.sub (.cons 3 rfl (.cons 4 rfl (.consE 63 rfl (congrArg Value.bool (by simp only [h9,d8,kA,kB,kC,kD,kE,kF,kG,kH,kI,kJ])) (.nil _)))),hD,hW⟩)
   have f6:=h9;refine sp 9 [(63,.bool (false))] (ee ?_);refine AL (fun a w hS hD hW=>⟨hS.sub (.cons 3 rfl (.cons 4 rfl (.consE 63 rfl (congrArg Value.bool (by simp only [h9,kA,kB,kC,kD,kE,kF,kG,kH,kI,kJ])) (.nil _)))),hD,hW⟩)
  rintro a w ⟨hS,hD,hW⟩
  refine AR hS hD hW ?_;clear hS hD hW a w;refine rc 63 rfl (fun e8=>?_) (fun e8=>?_)
  ·
   have a8:=e8;obtain ⟨g3,d9⟩:=KS e8;obtain ⟨c4,c5⟩:=KS d9;have c4:=BK (BQ c4);have c5:=BK (BQ c5);refine rqr (sp 1 [(4,vI (1))] (se (BH ((RP (AG (t:=4) [] (by kernel_rfl) rfl (TC _ (TC _ (TR _))) (IR _) ?_))))));exact ⟨congrArg (Value.int .i64) (by first | (simp only [DR,HU,a0,a1,a2,a3,a7,a9,b4,a8,cond_true,cond_false];done) | (exfalso;simp only [a0,a1,a2,a3,a7,a9,b4,Bool.not_true,Bool.and_false,Bool.false_and] at a8;cases a8)),rfl⟩
  have a8:=e8;refine AO (NX (rqr (sp 1 [(5,vI (1))] (se (rq ?_)))));refine CC (fun a w=>Slots 72 [(3,vP b3 0),(4,vI (0)),(5,vI (if s.kind=4 then 0 else 1))] a∧a.defers=[]∧St I ((bX b3 #[vI (s.num),vI (s.hour),vI (s.kind),vI (s.place),vI (s.to),vI (s.sort),.bool (s.soil),vI (s.amt)] 28)::(bX b1 #[vI (L.places),vI (L.sorts),vS b8 L.start.length b9,vS c0 L.keeps.length c1,vS c2 L.slips.length c3] 26)::F) w) ?_ ?_
  ·
   refine rqr (sp 1 [(64,vP b3 2)] (sd (dlb 65 0 2 b3 (vI (s.kind))) (sp 1 [(66,.bool (cmp .eql (s.kind) (4)))] (se (rc 66 rfl (fun c8=>?_) (fun c8=>?_))))))
   ·
    have e0:=c8;have c8:=BL c8;refine rr (sp 1 [(5,vI (0))] (ee ?_));exact AL (fun a w hS hD hW=>⟨hS.sub (.cons 3 rfl (.cons 4 rfl (.consE 5 rfl (least_t c8) (.nil _)))),hD,hW⟩)
   have e0:=c8;have c8:=BK c8;refine AO ?_;exact AL (fun a w hS hD hW=>⟨hS.sub (.cons 3 rfl (.cons 4 rfl (.consE 5 rfl (least_f c8) (.nil _)))),hD,hW⟩)
  rintro a w ⟨hS,hD,hW⟩
  refine AR hS hD hW ?_;clear hS hD hW a w;refine rq (rqr (sp 1 [(67,vP b3 7)] (sd (dlb 68 0 7 b3 (vI (s.amt))) (sp 1 [(69,vI ((if s.kind=4 then 0 else 1)))] (sd (dc 70 (fun I' hI=>(CL I' (s.amt) ((if s.kind=4 then 0 else 1)) (50) :))) (sp 1 [(71,.bool (!(inB s.amt ((if s.kind=4 then 0 else 1)) 50)))] (se (rc 71 rfl (fun c9=>?_) (fun c9=>?_)))))))))
  ·
   have b0:=c9;have c9:=BQ c9;have e1:=GA c9;refine rqr (sp 1 [(4,vI (1))] (se (BH ((RP (AG (t:=4) [] (by kernel_rfl) rfl (TC _ (TC _ (TR _))) (IR _) ?_))))));exact ⟨congrArg (Value.int .i64) (by first | (simp only [DR,HU,a0,a1,a2,a3,a7,a9,b4,a8,b0,cond_true,cond_false];done) | (exfalso;simp only [a0,a1,a2,a3,a7,a9,b4,a8,Bool.not_true,Bool.and_false,Bool.false_and] at b0;cases b0)),rfl⟩
  have b0:=c9;have c9:=BJ c9;have e1:=CR c9;refine AO (NX (rqr (sp 1 [(4,vI (0))] (se (BH (AG (t:=4) [] (by kernel_rfl) rfl (TC _ (TC _ (TR _))) (IR _) ?_))))));exact ⟨congrArg (Value.int .i64) (by first | (simp only [DR,HU,a0,a1,a2,a3,a7,a9,b4,a8,b0,cond_true,cond_false];done) | (exfalso;simp only [a0,a1,a2,a3,a7,a9,b4,a8,Bool.not_true,Bool.and_false,Bool.false_and] at b0;cases b0)),rfl⟩
 have a3:=h5;have h5:=BK h5;refine rqr (sp 1 [(42,vP b3 4)] (sd (dlb 43 0 4 b3 (vI (s.to))) (sp 1 [(44,.bool (!(cmp .eql (s.to) (0))))] (se (rc 44 rfl (fun d3=>?_) (fun d3=>?_))))))
 ·
  have a4:=d3;have d3:=BK (BQ d3);refine rqr (sp 1 [(4,vI (1))] (se (BH ((RP (AG (t:=4) [] (by kernel_rfl) rfl (TC _ (TC _ (TR _))) (IR _) ?_))))));exact ⟨congrArg (Value.int .i64) (by first | (simp only [DR,HU,a0,a1,a2,a3,a4,cond_true,cond_false];done) | (exfalso;simp only [a0,a1,a2,a3,Bool.not_true,Bool.and_false,Bool.false_and] at a4;cases a4)),rfl⟩
 have a4:=d3;have d3:=BL (BJ d3);refine AO (NX (rq (rqr (sp 1 [(45,vP b3 5)] (sd (dlb 46 0 5 b3 (vI (s.sort))) (sp 1 [(47,vP b1 1)] (sd (dlb 48 1 1 b1 (vI (L.sorts))) (sd (dsb 49 (L.sorts) (1)) (sd (dc 50 (fun I' hI=>(CL I' (s.sort) (0) (L.sorts-1) :))) (sp 1 [(51,.bool (!(inB s.sort 0 (L.sorts-1))))] (se (rc 51 rfl (fun d0=>?_) (fun d0=>?_)))))))))))))
 ·
  have a6:=d0;have d0:=BQ d0;have e2:=GA d0;refine rqr (sp 1 [(4,vI (3))] (se (BH ((RP (AG (t:=4) [] (by kernel_rfl) rfl (TC _ (TC _ (TR _))) (IR _) ?_))))));exact ⟨congrArg (Value.int .i64) (by first | (simp only [DR,HU,a0,a1,a2,a3,a4,a6,cond_true,cond_false];done) | (exfalso;simp only [a0,a1,a2,a3,a4,Bool.not_true,Bool.and_false,Bool.false_and] at a6;cases a6)),rfl⟩
 have a6:=d0;have d0:=BJ d0;have e2:=CR d0;refine AO (NX (rq (rq ?_)));refine CC (fun a w=>Slots 72 [(3,vP b3 0),(4,vI (0)),(63,.bool ((s.soil)&&((!(cmp .eql (s.kind) (1)))&&(!(cmp .eql (s.kind) (4))))))] a∧a.defers=[]∧St I ((bX b3 #[vI (s.num),vI (s.hour),vI (s.kind),vI (s.place),vI (s.to),vI (s.sort),.bool (s.soil),vI (s.amt)] 28)::(bX b1 #[vI (L.places),vI (L.sorts),vS b8 L.start.length b9,vS c0 L.keeps.length c1,vS c2 L.slips.length c3] 26)::F) w) ?_ ?_
 ·
  refine rr (sp 1 [(52,vP b3 6)] (sd (dlb 53 0 6 b3 (.bool (s.soil))) (sp 1 [(54,.bool (s.soil))] ?_)));refine BE 54 rfl (fun d7=>?_) (fun d7=>?_)
  ·
   have e3:=d7;refine sp 1 [(55,vP b3 2)] (sd (dlb 56 0 2 b3 (vI (s.kind))) (sp 3 [(59,.bool (!(cmp .eql (s.kind) (1))))] ?_));refine BE 59 rfl (fun e4=>?_) (fun e4=>?_)
   ·
    have b6:=e4;have b6:=BK (BQ b6);refine sp 1 [(60,vP b3 2)] (sd (dlb 61 0 2 b3 (vI (s.kind))) (sp 2 [(63,.bool (!(cmp .eql (s.kind) (4))))] (ee ?_)));refine AL (fun a w hS hD hW=>⟨hS.sub (.cons 3 rfl (.cons 4 rfl (.consE 63 rfl (congrArg Value.bool (by simp only [d7,e4,kA,kB,kC,kD,kE,kF,kG,kH,kI,kJ])) (.nil _)))),hD,hW⟩)
   have b6:=e4;have b6:=BL (BJ b6);refine sp 4 [(63,.bool (false))] (ee ?_);refine AL (fun a w hS hD hW=>⟨hS.sub (.cons 3 rfl (.cons 4 rfl (.consE 63 rfl (congrArg Value.bool (by simp only [d7,e4,kA,kB,kC,kD,kE,kF,kG,kH,kI,kJ])) (.nil _)))),hD,hW⟩)
  have e3:=d7;refine sp 9 [(63,.bool (false))] (ee ?_);refine AL (fun a w hS hD hW=>⟨hS.sub (.cons 3 rfl (.cons 4 rfl (.consE 63 rfl (congrArg Value.bool (by simp only [d7,kA,kB,kC,kD,kE,kF,kG,kH,kI,kJ])) (.nil _)))),hD,hW⟩)
 rintro a w ⟨hS,hD,hW⟩
 refine AR hS hD hW ?_;clear hS hD hW a w;refine rc 63 rfl (fun e9=>?_) (fun e9=>?_)
 ·
  have a5:=e9;obtain ⟨g4,e5⟩:=KS e9;obtain ⟨c6,c7⟩:=KS e5;have c6:=BK (BQ c6);have c7:=BK (BQ c7);refine rqr (sp 1 [(4,vI (1))] (se (BH ((RP (AG (t:=4) [] (by kernel_rfl) rfl (TC _ (TC _ (TR _))) (IR _) ?_))))));simp only [a3,Bool.not_false,Bool.and_true,Bool.true_and] at a5;exact ⟨congrArg (Value.int .i64) (by first | (simp only [DR,HU,a0,a1,a2,a3,a4,a6,a5,cond_true,cond_false];done) | (exfalso;simp only [a0,a1,a2,a3,a4,a6,Bool.not_true,Bool.and_false,Bool.false_and] at a5;cases a5)),rfl⟩
 have a5:=e9;refine AO (NX (rqr (sp 1 [(5,vI (1))] (se (rq ?_)))));refine CC (fun a w=>Slots 72 [(3,vP b3 0),(4,vI (0)),(5,vI (if s.kind=4 then 0 else 1))] a∧a.defers=[]∧St I ((bX b3 #[vI (s.num),vI (s.hour),vI (s.kind),vI (s.place),vI (s.to),vI (s.sort),.bool (s.soil),vI (s.amt)] 28)::(bX b1 #[vI (L.places),vI (L.sorts),vS b8 L.start.length b9,vS c0 L.keeps.length c1,vS c2 L.slips.length c3] 26)::F) w) ?_ ?_
 ·
  refine rqr (sp 1 [(64,vP b3 2)] (sd (dlb 65 0 2 b3 (vI (s.kind))) (sp 1 [(66,.bool (cmp .eql (s.kind) (4)))] (se (rc 66 rfl (fun d1=>?_) (fun d1=>?_))))))
  ·
   have e6:=d1;have d1:=BL d1;refine rr (sp 1 [(5,vI (0))] (ee ?_));exact AL (fun a w hS hD hW=>⟨hS.sub (.cons 3 rfl (.cons 4 rfl (.consE 5 rfl (least_t d1) (.nil _)))),hD,hW⟩)
  have e6:=d1;have d1:=BK d1;refine AO ?_;exact AL (fun a w hS hD hW=>⟨hS.sub (.cons 3 rfl (.cons 4 rfl (.consE 5 rfl (least_f d1) (.nil _)))),hD,hW⟩)
 rintro a w ⟨hS,hD,hW⟩
 refine AR hS hD hW ?_;clear hS hD hW a w;refine rq (rqr (sp 1 [(67,vP b3 7)] (sd (dlb 68 0 7 b3 (vI (s.amt))) (sp 1 [(69,vI ((if s.kind=4 then 0 else 1)))] (sd (dc 70 (fun I' hI=>(CL I' (s.amt) ((if s.kind=4 then 0 else 1)) (50) :))) (sp 1 [(71,.bool (!(inB s.amt ((if s.kind=4 then 0 else 1)) 50)))] (se (rc 71 rfl (fun d2=>?_) (fun d2=>?_)))))))))
 ·
  have b2:=d2;have d2:=BQ d2;have e7:=GA d2;refine rqr (sp 1 [(4,vI (1))] (se (BH ((RP (AG (t:=4) [] (by kernel_rfl) rfl (TC _ (TC _ (TR _))) (IR _) ?_))))));simp only [a3,Bool.not_false,Bool.and_true,Bool.true_and] at a5;exact ⟨congrArg (Value.int .i64) (by first | (simp only [DR,HU,a0,a1,a2,a3,a4,a6,a5,b2,cond_true,cond_false];done) | (exfalso;simp only [a0,a1,a2,a3,a4,a6,a5,Bool.not_true,Bool.and_false,Bool.false_and] at b2;cases b2)),rfl⟩
 have b2:=d2;have d2:=BJ d2;have e7:=CR d2;refine AO (NX (rqr (sp 1 [(4,vI (0))] (se (BH (AG (t:=4) [] (by kernel_rfl) rfl (TC _ (TC _ (TR _))) (IR _) ?_))))));simp only [a3,Bool.not_false,Bool.and_true,Bool.true_and] at a5;exact ⟨congrArg (Value.int .i64) (by first | (simp only [DR,HU,a0,a1,a2,a3,a4,a6,a5,b2,cond_true,cond_false];done) | (exfalso;simp only [a0,a1,a2,a3,a4,a6,a5,Bool.not_true,Bool.and_false,Bool.false_and] at b2;cases b2)),rfl⟩
noncomputable def c_rCheck (p:List Nat):Code:=sub (AQ Tryz.f48) p
theorem OG (I:Imm) (l:Value) (L:Lin) (l_f:IsLin I l L):CtV Tryz.prog 48 #[l] I (vI (AS L)):=by
 obtain ⟨l1,l2,l3,d8,a5,a8,a2⟩:=id l_f;subst d8;obtain ⟨a3,a4,c5,c8,c4,b9,c6,c7,c9,d0⟩:=id a5;subst b9;obtain ⟨a6,a7,d1,d4,c0,d2,d3,d5⟩:=id a8;subst c0;obtain ⟨a0,a1,c1,c3,c2,d6,d7,a9⟩:=id a2;subst c2;refine fr (args:=[_]) (N:=50) Tryz.func48 (fun F=>?_);show Run _ _ (c_rCheck []) _ _ [(0,.agg #[vI (L.places),vI (L.sorts),vS a3 L.start.length a4,vS a6 L.keeps.length a7,vS a0 L.slips.length a1])] _ _;refine rnm (rqr ?_);refine sS (sb 1 26 #[vI (L.places),vI (L.sorts),vS a3 L.start.length a4,vS a6 L.keeps.length a7,vS a0 L.slips.length a1] (fun b1=>(sp 1 [(2,vI (0))] (se (rq (rqr (sd (dnb 7 0 0 b1 [vI (L.places),vI (L.sorts),vS a3 L.start.length a4,vS a6 L.keeps.length a7,vS a0 L.slips.length a1]) (sd (dc 8 (fun I' hI=>(rcheckStart_ct I' _ (L) ((DL a5 a8 a2).mono hI) :))) (sp 1 [(3,vI ((JM L)))] (sn (sp 2 [(10,.bool (!(cmp .eql ((JM L)) (0))))] (se (rc 10 rfl (fun h1=>?_) (fun h1=>?_))))))))))))))
 ·
  have b4:=h1;have h1:=BK (BQ h1);refine rqr (sp 2 [(2,vI ((JM L)))] (se (BH ((RP (AG (t:=2) [] (by kernel_rfl) rfl (TC _ (TR _)) (IR _) ?_))))));exact ⟨congrArg (Value.int .i64) (linErr_r1 h1).symm,rfl⟩
 have b4:=h1;have h1:=BL (BJ h1);refine AO (NX (rq (rq ?_)));obtain ⟨_,_,hp,hq⟩:=MI h1;refine rr (sd (dnb 12 0 0 b1 [vI (L.places),vI (L.sorts),vS a3 L.start.length a4,vS a6 L.keeps.length a7,vS a0 L.slips.length a1]) (sd (dc 13 (fun I' hI=>(rcheckKeeps_ct I' _ (L) ((DL a5 a8 a2).mono hI) (by omega) :))) (sp 1 [(4,vI ((CT L)))] (sn (sp 2 [(15,.bool (!(cmp .eql ((CT L)) (0))))] (se (rc 15 rfl (fun h2=>?_) (fun h2=>?_))))))))
 ·
  have b5:=h2;have h2:=BK (BQ h2);refine rqr (sp 2 [(2,vI ((CT L)))] (se (BH ((RP (AG (t:=2) [] (by kernel_rfl) rfl (TC _ (TR _)) (IR _) ?_))))));exact ⟨congrArg (Value.int .i64) (linErr_r2 h1 h2).symm,rfl⟩
 have b5:=h2;have h2:=BL (BJ h2);refine AO (NX (rq (rqr (sp 1 [(17,vP b1 4)] (sd (dlb 18 0 4 b1 (vS a0 L.slips.length a1)) (sp 2 [(20,.bool (cmp .gtr (↑(L.slips.length)) (8)))] (se (rc 20 rfl (fun h3=>?_) (fun h3=>?_)))))))))
 ·
  have b6:=h3;have h3:=JW h3;refine rqr (sp 1 [(2,vI (6))] (se (BH ((RP (AG (t:=2) [] (by kernel_rfl) rfl (TC _ (TR _)) (IR _) ?_))))));exact ⟨congrArg (Value.int .i64) (linErr_r3 h1 h2 (by omega)).symm,rfl⟩
 have b6:=h3;have h3:=MN h3;refine AO (NX (rq (rqr (sp 1 [(5,vI (0))] (se (rb 0 ?_))))));refine rl (fun mz a w=>∃ J0:Imm,∃ k:Nat,(I.le J0)∧(k≤L.slips.length)∧(FD (DA L) k=0)∧Slots 50 [(5,vI ↑k),(1,vP b1 0)] a∧a.defers=[]∧St J0 ((bX b1 #[vI (L.places),vI (L.sorts),vS a3 L.start.length a4,vS a6 L.keeps.length a7,vS a0 L.slips.length a1] 26)::F) w∧mz=L.slips.length-k) ?_ ?_
 ·intro a w hS hD hW;exact ⟨_,I,0,IR _,Nat.zero_le _,rfl,hS.sub (.cons 5 rfl (.cons 1 rfl (.nil _))),hD,hW,rfl⟩
 rintro mz a w ⟨J0,k,hJ0,hk,hz,hS,hD,hW,rfl⟩
 refine AR hS hD hW ?_;clear hS hD hW a w;replace a5:=a5.mono hJ0;replace a8:=a8.mono hJ0;replace a2:=a2.mono hJ0;replace a9:=a9.mono hJ0;refine rq (rqr (sp 2 [(22,vP b1 4),(21,vI (↑k))] (sd (dlb 23 0 4 b1 (vS a0 L.slips.length a1)) (sp 2 [(25,.bool (cmp .lss (↑k) (↑(L.slips.length))))] (se (rc 25 rfl (fun h4=>?_) (fun h4=>?_)))))))
 ·
  have b7:=h4;have h4:=CF h4;refine AO (NX (rq (rb 1 (rq (rq ?_)))));refine rd0 6 ?_;refine AD (dnb 28 0 0 b1 [vI (L.places),vI (L.sorts),vS a3 L.start.length a4,vS a6 L.keeps.length a7,vS a0 L.slips.length a1]) (ox 1 [(29,vP b1 4)] ?_);refine AD (dlb 30 0 4 b1 (vS a0 L.slips.length a1)) (ox 1 [(31,vI (↑k))] ?_);refine AD (di 32 8 (k) a9.addr) ?_;refine AD (BR (x:=(.tmp 32)) (T:=28) (n:=8) (vs:=[vI ((L.slips.getD (k) AB).num),vI ((L.slips.getD (k) AB).hour),vI ((L.slips.getD (k) AB).kind),vI ((L.slips.getD (k) AB).place),vI ((L.slips.getD (k) AB).to),vI ((L.slips.getD (k) AB).sort),.bool ((L.slips.getD (k) AB).soil),vI ((L.slips.getD (k) AB).amt)]) (d:=33) (ty:=28) (gd:=none) (by kernel_rfl) rfl (by kernel_rfl) (by kernel_rfl) rfl rfl (DQ (vals:=DD) (fun _=>rfl) a9 (k) (by omega))) ?_;refine AU (sd (dc 34 (fun I' hI=>(rcheckSlip_ct I' _ (L) (L.slips.getD (k) AB) ((DL a5 a8 a2).mono hI) (by omega) (by omega) :))) (sp 1 [(6,vI ((DH L (L.slips.getD (k) AB))))] (sn (sp 2 [(36,.bool (!(cmp .eql ((DH L (L.slips.getD (k) AB))) (0))))] (se (rc 36 rfl (fun h5=>?_) (fun h5=>?_)))))))
  ·
   have b8:=h5;have h5:=BK (BQ h5);refine rqr (sp 2 [(2,vI ((DH L (L.slips.getD (k) AB))))] (se (BH ((RP (RB (RP (RP (RB (RP (AG (t:=2) [] (by kernel_rfl) rfl (TC _ (TR _)) hJ0 ?_)))))))))));exact ⟨congrArg (Value.int .i64) (linErr_r4 h1 h2 (by omega) (OJ hz (by omega) (slipAt_bad h5) h5)).symm,rfl⟩
  have b8:=h5;have h5:=BL (BJ h5);refine AO (NX (rq ?_));refine rd0 10 (ox 1 [(38,vP b1 4)] ?_);refine AD (dlb 39 0 4 b1 (vS a0 L.slips.length a1)) (ox 1 [(40,vI (↑k))] ?_);have b2:=a2.cutHi (k) (by omega);obtain ⟨d9,e1,e0,e4,b3,e2,e3,e5⟩:=id b2;rw [b3] at b2;refine AD (BW (GR (x:=(.tmp 39)) (lo:=none) (hi:=(some (.tmp 40))) (T:=24) (e:=28) (sz:=8) (0) (k) (d:=41) (ty:=24) (gd:=none) (by kernel_rfl) rfl (by kernel_rfl) (by kernel_rfl) rfl (.inl ⟨rfl,rfl⟩) (.inr ⟨_,.i64,rfl,rfl⟩) (by omega) (by omega)) b3) (ox 1 [(42,vP b1 4)] ?_);refine AD (dlb 43 0 4 b1 (vS a0 L.slips.length a1)) (ox 1 [(44,vI (↑k))] ?_);refine AD (di 45 8 (k) a9.addr) (ox 1 [(46,.pointer (some ⟨c1,c3+k*8,none⟩))] ?_);refine AD (dl 47 (LV a9 (k) (by omega) 0 (by decide) (v:=vI ((L.slips.getD (k) AB).num)) rfl)) ?_;refine AU (sd (dc 48 (fun I' hI=>(there_ct I' _ _ ((L.slips.getD (k) AB).num) (b2.mono hI) :))) (sp 1 [(49,.bool (cmp .geq ((NG (fun x:Slip=>decide (x.num=((L.slips.getD (k) AB).num))) (L.slips.take (k)))) (0)))] (se (rc 49 rfl (fun h6=>?_) (fun h6=>?_)))))
  ·
   have b0:=h6;have h6:=geq_t h6;refine rqr (sp 1 [(2,vI (4))] (se (BH ((RB (RP (RP (RB (RP (AG (t:=2) [] (by kernel_rfl) rfl (TC _ (TR _)) hJ0 ?_))))))))));exact ⟨congrArg (Value.int .i64) (linErr_r4 h1 h2 (by omega) (OJ hz (by omega) (slipAt_dup h5 (idxF_any.symm.trans b0)) (by decide))).symm,rfl⟩
  have b0:=h6;have h6:=geq_f h6;refine AO (NB (NX (rr (sp 1 [(26,vI (↑k))] (sd (da 27 (↑k) (1)) (sp 1 [(5,vI (↑k+1))] (ee ?_)))))));refine AN (L.slips.length-(k+1)) (by omega) ?_;intro a w hS hD hW;exact ⟨J0,k+1,hJ0,by omega,KE hz (slipAt_ok h5 (idxF_any.symm.trans b0)),hS.sub (.consE 5 rfl rfl (.cons 1 rfl (.nil _))),hD,hW,rfl⟩
 have b7:=h4;have h4:=CO h4;refine CB 0 ((EP (EP (EB (NX (rqr (sp 1 [(2,vI (0))] (se (BH (AG (t:=2) [] (by kernel_rfl) rfl (TC _ (TR _)) hJ0 ?_))))))))));exact ⟨congrArg (Value.int .i64) (linErr_r4 h1 h2 (by omega) ((show k=L.slips.length by omega)▸hz)).symm,rfl⟩
end Go.Proofs.YtgcemienebmdeaaGreat
namespace Go.Sh
open Go Go.Sl
def KeepsOf (P:Int) (r:Int) (ks:List Keep):Prop:=ks.length≤4∧∀ j,j<ks.length→let k:=ks.getD j AJ;(0≤k.place∧k.place≤P-1)∧(7*(r-j)≤k.hour∧k.hour≤7*(r-j)+6)∧(1≤k.who∧k.who≤9)
theorem KeepsOf.nil {P r:Int}:KeepsOf P r []:=⟨Nat.zero_le _,fun j hj=>absurd hj (Nat.not_lt_zero _)⟩
theorem KeepsOf.snoc {P r:Int} {ks:List Keep} {k:Keep} (h:KeepsOf P r ks) (hl:ks.length<4) (hp:0≤k.place∧k.place≤P-1) (hh:7*(r-ks.length)≤k.hour∧k.hour≤7*(r-ks.length)+6) (hw:1≤k.who∧k.who≤9):KeepsOf P r (ks++[k]):=by
  refine ⟨by simp;omega,fun j hj=>?_⟩;rcases Nat.lt_or_ge j ks.length with h1 | h1
  · have:=h.2 j h1
    simpa only [List.getD,List.getElem?_append_left h1] using this
  · have e:j=ks.length:=by simp at hj;omega
    subst e;have:(ks++[k]).getD ks.length AJ=k:=by simp [List.getD]
    rw [this];exact ⟨hp,hh,hw⟩
def SlipsOf (P Q:Int) (dl:List Int) (i:Nat) (sl:List Slip):Prop:=sl.length≤i∧(∀ s∈sl,∀ L:Lin,L.places=P→L.sorts=Q→DH L s=0)∧(sl.map (·.num)).Nodup∧∀ s∈sl,∃ j,j<i∧s.num=1+dl.getD j 0
theorem SlipsOf.nil {P Q:Int} {dl:List Int}:SlipsOf P Q dl 0 []:=⟨Nat.le_refl _,fun s hs=>absurd hs List.not_mem_nil,List.nodup_nil,fun s hs=>absurd hs List.not_mem_nil⟩
theorem SlipsOf.skip {P Q:Int} {dl:List Int} {i:Nat} {sl:List Slip} (h:SlipsOf P Q dl i sl):SlipsOf P Q dl (i+1) sl:=⟨by have:=h.1;omega,h.2.1,h.2.2.1,fun s hs=>by obtain ⟨j,h1,h2⟩:=h.2.2.2 s hs;exact ⟨j,by omega,h2⟩⟩
theorem SlipsOf.snoc {P Q:Int} {dl:List Int} {i:Nat} {sl:List Slip} {s:Slip} (h:SlipsOf P Q dl i sl) (hd:dl.Nodup) (hi:i<dl.length) (hn:s.num=1+dl.getD i 0) (hs:∀ L:Lin,L.places=P→L.sorts=Q→DH L s=0):SlipsOf P Q dl (i+1) (sl++[s]):=by
  refine ⟨by have:=h.1;simp;omega,fun t ht=>?_,?_,fun t ht=>?_⟩
  · rcases List.mem_append.1 ht with ht | ht
    · exact h.2.1 t ht
    · simp only [List.mem_singleton] at ht;subst ht;exact hs
  · rw [List.map_append,List.map_cons,List.map_nil]
    refine List.nodup_append.2 ⟨h.2.2.1,by simp,fun a ha b hb=>?_⟩;simp only [List.mem_singleton] at hb;obtain ⟨t,ht,rfl⟩:=List.mem_map.1 ha;obtain ⟨j,hj,e⟩:=h.2.2.2 t ht;intro e2;rw [hb,hn] at e2;have e3:dl.getD j 0=dl.getD i 0:=by omega
    have hj2:j<dl.length:=by omega
    have:j=i:=(List.getElem_inj (h₀:=hj2) (h₁:=hi) hd).1 (by simpa [List.getD,hj2,hi] using e3);omega
  · rcases List.mem_append.1 ht with ht | ht
    · obtain ⟨j,h1,h2⟩:=h.2.2.2 t ht;exact ⟨j,by omega,h2⟩
    · simp only [List.mem_singleton] at ht;subst ht;exact ⟨i,by omega,hn⟩
theorem IW {P Q:Int} {s:Slip} (h1:1≤s.num∧s.num≤999) (h2:0≤s.hour∧s.hour≤200) (h3:1≤s.kind∧s.kind≤6) (h4:0≤s.place∧s.place≤P-1) (h5:s.kind=1→(0≤s.to∧s.to≤P-1)∧s.to≠s.place) (h6:s.kind≠1→s.to=0) (h7:0≤s.sort∧s.sort≤Q-1) (h8:s.soil=true→s.kind=1∨s.kind=4) (h9:s.kind=4∨1≤s.amt) (h10:0≤s.amt∧s.amt≤50):∀ L:Lin,L.places=P→L.sorts=Q→DH L s=0:=by
  intro L hP hQ;have t:∀ {n lo hi:Int},lo≤n∧n≤hi→¬ inB n lo hi=false:=fun h e=>by
    rw [show inB _ _ _=true from by simpa [inB] using h] at e;cases e
  unfold DH
  rw [hP,hQ,if_neg (t h1),if_neg (t h2),if_neg (t h3),if_neg (t h4),if_neg (fun e=>t (h5 e.1).1 e.2),if_neg (fun e=>(h5 e.1).2 e.2),if_neg (fun e=>e.2 (h6 e.1)),if_neg (t h7),
    if_neg (fun e=>(h8 e.1).elim e.2.1 e.2.2),if_neg (t (by split <;> omega))]
def RowsB (B:Int) (n:Nat) (xss:List (List Int)):Prop:=∀ r∈xss,r.length=n∧∀ x∈r,0≤x∧x≤B
theorem RowsB.nil {B:Int} {n:Nat}:RowsB B n []:=fun r hr=>by cases hr
theorem RowsB.snoc {B:Int} {n:Nat} {xss:List (List Int)} {r:List Int} (h:RowsB B n xss) (hl:r.length=n) (hr:∀ x∈r,0≤x∧x≤B):RowsB B n (xss++[r]):=fun q hq=>by
  rcases List.mem_append.1 hq with hq | hq
  · exact h q hq
  · simp only [List.mem_singleton] at hq;subst hq;exact ⟨hl,hr⟩
theorem RowsB.mono {B B':Int} {n:Nat} {xss:List (List Int)} (h:RowsB B n xss) (hb:B≤B'):RowsB B' n xss:=fun r hr=>⟨(h r hr).1,fun x hx=>by have:=(h r hr).2 x hx;omega⟩
theorem RowsB.set {B:Int} {n p i:Nat} {xss:List (List Int)} {v:Int} (h:RowsB B n xss) (hp:p<xss.length) (hv:0≤v∧v≤B):RowsB B n (xss.set p ((xss.getD p []).set i v)):=fun r hr=>by
  rcases List.mem_or_eq_of_mem_set hr with hr | rfl
  · exact h r hr
  · have h1:=h _ (BD (xs:=xss) (d:=[]) hp)
    refine ⟨by rw [List.length_set];exact h1.1,fun x hx=>?_⟩;rcases List.mem_or_eq_of_mem_set hx with hx | rfl
    · exact h1.2 x hx
    · exact hv
theorem RowsB.at {B:Int} {n p i:Nat} {xss:List (List Int)} (h:RowsB B n xss) (hp:p<xss.length) (hi:i<n):(xss.getD p []).length=n∧0≤(xss.getD p []).getD i 0∧(xss.getD p []).getD i 0≤B:=by
  have h1:=h _ (BD (xs:=xss) (d:=[]) hp);exact ⟨h1.1,h1.2 _ (BD (xs:=xss.getD p []) (d:=0) (by rw [h1.1];exact hi))⟩
theorem drawn_book {P Q:Int} {n:Nat} {st:List (List Int)} {ks:List Keep} {sl:List Slip} {r:Int} {dl:List Int} {i:Nat} (hP:1≤P∧P≤4) (hQ:1≤Q∧Q≤2) (hn:(n:Int)=Q) (hs:(st.length:Int)=P) (hr:RowsB 50 n st) (hr4:0≤r∧r≤4) (hkr:(ks.length:Int)≤r) (hk:KeepsOf P r ks) (hsl:SlipsOf P Q dl i sl) (hi:i≤8):GoodL ⟨P,Q,st,ks,sl⟩:=by
  have t:∀ {n lo hi:Int},lo≤n∧n≤hi→¬ inB n lo hi=false:=fun h e=>by
    rw [show inB _ _ _=true from by simpa [inB] using h] at e;cases e
  refine ⟨hP,hQ,hs,fun q hq=>by rw [(hr q hq).1,hn],fun q hq x hx=>(hr q hq).2 x hx,hk.1,fun k hk2=>?_,Nat.le_trans hsl.1 hi,fun k hk2=>?_⟩
  · obtain ⟨h1,h2,h3⟩:=hk.2 k hk2
    unfold EU;simp only;have hk3:(k:Int)<ks.length:=by exact_mod_cast hk2
    rw [if_neg (t h1),if_neg (t (by omega)),if_neg (t h3),if_neg];intro e;obtain ⟨x,hx,hx2⟩:=List.any_eq_true.1 e;obtain ⟨j,hj,rfl⟩:=List.mem_take_iff_getElem.1 hx;have hj2:j<ks.length:=by omega
    have h4:=(hk.2 j hj2).2.1;simp only [Bool.and_eq_true,decide_eq_true_eq] at hx2;have e4:(ks.getD j AJ)=ks[j]:=by simp [List.getD,hj2]
    rw [e4,hx2.2] at h4;have:j<k:=by omega
    omega
  · have h1:=hsl.2.1 _ (BD (xs:=sl) (d:=AB) hk2) ⟨P,Q,st,ks,sl⟩ rfl rfl
    unfold DA;rw [if_neg (fun h=>h h1),if_neg];intro e;unfold hasNum at e;obtain ⟨x,hx,hx2⟩:=List.any_eq_true.1 e;obtain ⟨j,hj,rfl⟩:=List.mem_take_iff_getElem.1 hx;have hj':j<min k sl.length:=hj;have hj2:j<sl.length:=by omega
    have hnd:=hsl.2.2.1;simp only [decide_eq_true_eq] at hx2;have:j=k:=(List.getElem_inj (h₀:=by simpa using hj2) (h₁:=by simpa using hk2) hnd).1 (by simpa [List.getD,hk2] using hx2);omega
def ixR (so:Nat) (b:Bool):Nat:=if b=true then 2*so+1 else 2*so
def putR (h:List (List Int)) (p i:Nat) (v:Int):List (List Int):=h.set p ((h.getD p []).set i v)
section
variable {H:Hs} {p v:Int} {j S P:Nat} {b:Bool}
theorem LW (hj:j<S):(AX H p S).getD (ixR j b) 0=CQ ⟨p,(j:Int),b⟩ H:=by
  induction S with
  | zero=>omega
  | succ S ih=>
    simp only [AX];have hl:=FS (H:=H) (p:=p) (j:=S)
    by_cases e:j=S
    · subst e
      cases b
      · simp [ixR,List.getD,List.getElem?_append_right,hl]
      · simp [ixR,List.getD,List.getElem?_append_right,hl]
    · have hi:ixR j b<(AX H p S).length:=by rw [hl];unfold ixR;split <;> omega
      rw [List.getD_eq_getElem?_getD,List.getElem?_append_left hi,← List.getD_eq_getElem?_getD];exact ih (by omega)
theorem ND {p:Nat} (hp:p<P):(AY H S P).getD p []=AX H (p:Int) S:=by
  induction P with
  | zero=>omega
  | succ P ih=>
    simp only [AY];have hl:=EA (H:=H) (s:=S) (k:=P)
    by_cases e:p=P
    · subst e;simp [List.getD,List.getElem?_append_right,hl]
    · rw [List.getD_eq_getElem?_getD,List.getElem?_append_left (by rw [hl];omega),← List.getD_eq_getElem?_getD]
      exact ih (by omega)
theorem stockRow_put (hj:j<S):AX (GV ⟨p,(j:Int),b⟩ v H) p S=(AX H p S).set (ixR j b) v:=by
  induction S with
  | zero=>omega
  | succ S ih=>
    simp only [AX,HH];have hl:=FS (H:=H) (p:=p) (j:=S)
    by_cases e:j=S
    · subst e
      have:∀ n,n≤j→AX (GV ⟨p,(j:Int),b⟩ v H) p n=AX H p n:=by
        intro n hn
        induction n with
        | zero=>rfl
        | succ n ihn=>
          simp only [AX,HH,HKey.mk.injEq];rw [ihn (by omega),if_neg (by omega),if_neg (by omega)]
      rw [this j (Nat.le_refl _),List.set_append_right _ _ (by rw [hl];unfold ixR;split <;> omega),hl];cases b <;> simp [ixR]
    · have hi:ixR j b<(AX H p S).length:=by rw [hl];unfold ixR;split <;> omega
      rw [ih (by omega),List.set_append_left _ _ hi];simp only [HKey.mk.injEq];rw [if_neg (by omega),if_neg (by omega)]
theorem MR {q:Int} (h:p≠q) {so:Int}:AX (GV ⟨q,so,b⟩ v H) p S=AX H p S:=by
  induction S with
  | zero=>rfl
  | succ S ih=>
    simp only [AX,HH,HKey.mk.injEq];rw [ih,if_neg (by omega),if_neg (by omega)]
theorem stockTo_put {p:Nat} (hp:p<P) (hj:j<S):AY (GV ⟨(p:Int),(j:Int),b⟩ v H) S P=putR (AY H S P) p (ixR j b) v:=by
  unfold putR;rw [ND hp]
  induction P with
  | zero=>omega
  | succ P ih=>
    simp only [AY];have hl:=EA (H:=H) (s:=S) (k:=P)
    by_cases e:p=P
    · subst e
      have:∀ n,n≤p→AY (GV ⟨(p:Int),(j:Int),b⟩ v H) S n=AY H S n:=by
        intro n hn
        induction n with
        | zero=>rfl
        | succ n ihn=>simp only [AY];rw [ihn (by omega),MR (by omega)]
      rw [this p (Nat.le_refl _),List.set_append_right _ _ (by rw [hl];exact Nat.le_refl _),hl,stockRow_put hj];simp
    · rw [ih (by omega),List.set_append_left _ _ (by rw [hl];omega),MR (by omega)]
end
theorem stock_at {H:Hs} {p so:Int} {b:Bool} {S P:Nat} (hp:0≤p∧p<P) (hs:0≤so∧so<S):((AY H S P).getD p.toNat []).getD (ixR so.toNat b) 0=CQ ⟨p,so,b⟩ H:=by
  rw [ND (by omega),show ((p.toNat:Nat):Int)=p by omega,LW (by omega),show ((so.toNat:Nat):Int)=so by omega]
theorem stock_put {H:Hs} {p so v:Int} {b:Bool} {S P:Nat} (hp:0≤p∧p<P) (hs:0≤so∧so<S):AY (GV ⟨p,so,b⟩ v H) S P=putR (AY H S P) p.toNat (ixR so.toNat b) v:=by
  have:=stockTo_put (H:=H) (v:=v) (b:=b) (p:=p.toNat) (j:=so.toNat) (S:=S) (P:=P) (by omega) (by omega);rw [← this,show ((p.toNat:Nat):Int)=p by omega,show ((so.toNat:Nat):Int)=so by omega]
theorem stock_add {H:Hs} {p so v:Int} {b:Bool} {S P:Nat} (hp:0≤p∧p<P) (hs:0≤so∧so<S):AY (ML ⟨p,so,b⟩ v H) S P=putR (AY H S P) p.toNat (ixR so.toNat b) (((AY H S P).getD p.toNat []).getD (ixR so.toNat b) 0+v):=by
  unfold ML;rw [stock_put hp hs,stock_at hp hs]
theorem ixR_le {n:Nat} {b:Bool}:ixR n b≤ixR n true:=by unfold ixR;cases b <;> simp
theorem at_t {so:Int} {b:Bool} (h:b=true) (h0:0≤so):2*so+1=((ixR so.toNat b:Nat):Int):=by subst h;unfold ixR;simp;omega
theorem at_f {so:Int} {b:Bool} (h:b=false) (h0:0≤so):2*so=((ixR so.toNat b:Nat):Int):=by subst h;unfold ixR;simp;omega
def RowsI (B:Int) (m:Nat) (X:List (List Int)):Prop:=∀ r∈X,m<r.length∧r.length≤1000∧∀ x∈r,-B≤x∧x≤B
section
variable {B B':Int} {m p i:Nat} {X:List (List Int)} {v:Int}
theorem RowsI.mono (h:RowsI B m X) (hb:B≤B'):RowsI B' m X:=fun r hr=>⟨(h r hr).1,(h r hr).2.1,fun x hx=>by have:=(h r hr).2.2 x hx;omega⟩
theorem RowsI.at (h:RowsI B m X) (hp:p<X.length):m<(X.getD p []).length∧(X.getD p []).length≤1000∧∀ i,i≤m→-B≤(X.getD p []).getD i 0∧(X.getD p []).getD i 0≤B:=by
  have h1:=h _ (BD (xs:=X) (d:=[]) hp);exact ⟨h1.1,h1.2.1,fun i hi=>h1.2.2 _ (BD (xs:=X.getD p []) (d:=0) (by omega))⟩
theorem RowsI.put (h:RowsI B m X) (hp:p<X.length) (hv:-B≤v∧v≤B):RowsI B m (putR X p i v):=fun r hr=>by
  rcases List.mem_or_eq_of_mem_set hr with hr | rfl
  · exact h r hr
  · have h1:=h _ (BD (xs:=X) (d:=[]) hp)
    refine ⟨by rw [List.length_set];exact h1.1,by rw [List.length_set];exact h1.2.1,fun x hx=>?_⟩;rcases List.mem_or_eq_of_mem_set hx with hx | rfl
    · exact h1.2.2 x hx
    · exact hv
theorem putR_len:(putR X p i v).length=X.length:=List.length_set ..
end
def addR (X:List (List Int)) (p i:Nat) (d:Int):List (List Int):=putR X p i ((X.getD p []).getD i 0+d)
def subR (X:List (List Int)) (p i:Nat) (d:Int):List (List Int):=putR X p i ((X.getD p []).getD i 0-d)
def JR (X:List (List Int)) (s:Slip):List (List Int):=
  if s.kind=1 then addR (subR X s.place.toNat (ixR s.sort.toNat s.soil) s.amt) s.to.toNat (ixR s.sort.toNat s.soil) s.amt
  else if s.kind=2 then addR (subR X s.place.toNat (ixR s.sort.toNat false) s.amt) s.place.toNat (ixR s.sort.toNat true) s.amt
  else if s.kind=3 then addR (subR X s.place.toNat (ixR s.sort.toNat true) s.amt) s.place.toNat (ixR s.sort.toNat false) s.amt
  else if s.kind=4 then putR X s.place.toNat (ixR s.sort.toNat s.soil) s.amt
  else if s.kind=5 then addR X s.place.toNat (ixR s.sort.toNat false) s.amt
  else subR X s.place.toNat (ixR s.sort.toNat true) s.amt
section
variable {X:List (List Int)} {s:Slip}
theorem done_1 (h:s.kind=1):addR (subR X s.place.toNat (ixR s.sort.toNat s.soil) s.amt) s.to.toNat (ixR s.sort.toNat s.soil) s.amt=JR X s:=(if_pos h).symm
theorem done_2 (h:s.kind=2):addR (subR X s.place.toNat (ixR s.sort.toNat false) s.amt) s.place.toNat (ixR s.sort.toNat true) s.amt=JR X s:=by unfold JR;rw [if_neg (by omega),if_pos h]
theorem done_3 (h:s.kind=3):addR (subR X s.place.toNat (ixR s.sort.toNat true) s.amt) s.place.toNat (ixR s.sort.toNat false) s.amt=JR X s:=by unfold JR;rw [if_neg (by omega),if_neg (by omega),if_pos h]
theorem done_4 (h:s.kind=4):putR X s.place.toNat (ixR s.sort.toNat s.soil) s.amt=JR X s:=by unfold JR;rw [if_neg (by omega),if_neg (by omega),if_neg (by omega),if_pos h]
theorem done_5 (h:s.kind=5):addR X s.place.toNat (ixR s.sort.toNat false) s.amt=JR X s:=by unfold JR;rw [if_neg (by omega),if_neg (by omega),if_neg (by omega),if_neg (by omega),if_pos h]
theorem done_6 (h:s.kind=6):subR X s.place.toNat (ixR s.sort.toNat true) s.amt=JR X s:=by unfold JR;rw [if_neg (by omega),if_neg (by omega),if_neg (by omega),if_neg (by omega),if_neg (by omega)]
end
section
variable {H:Hs} {S P:Nat} {p so d:Int} {b:Bool}
theorem MJ (hp:0≤p∧p<P) (hs:0≤so∧so<S):AY (ML ⟨p,so,b⟩ d H) S P=addR (AY H S P) p.toNat (ixR so.toNat b) d:=stock_add hp hs
theorem MK (hp:0≤p∧p<P) (hs:0≤so∧so<S):AY (ML ⟨p,so,b⟩ (-d) H) S P=subR (AY H S P) p.toNat (ixR so.toNat b) d:=by rw [stock_add hp hs,← Int.sub_eq_add_neg];rfl
theorem done_stock {s:Slip} (hp:0≤s.place∧s.place<P) (hs:0≤s.sort∧s.sort<S) (ht:s.kind=1→0≤s.to∧s.to<P):JR (AY H S P) s=AY (doSlip s H) S P:=by
  unfold JR doSlip
  split
  · rename_i h;rw [MJ (ht h) hs,MK hp hs]
  split
  · rw [MJ hp hs,MK hp hs]
  split
  · rw [MJ hp hs,MK hp hs]
  split
  · unfold keyOf;rw [stock_put hp hs]
  split
  · rw [MJ hp hs]
  · rw [MK hp hs]
theorem stockRow_all {B:Int} {p:Int} (h:∀ k,-B≤CQ k H∧CQ k H≤B):∀ x∈AX H p S,-B≤x∧x≤B:=by
  induction S with
  | zero=>intro x hx;cases hx
  | succ S ih=>
    intro x hx;simp only [AX,List.mem_append,List.mem_cons,List.not_mem_nil,or_false] at hx;rcases hx with hx | rfl | rfl
    · exact ih x hx
    · exact h _
    · exact h _
theorem QA {B:Int} {m:Nat} (h:∀ k,-B≤CQ k H∧CQ k H≤B) (hm:m<2*S) (hS:S≤2):RowsI B m (AY H S P):=by
  induction P with
  | zero=>intro r hr;cases hr
  | succ P ih=>
    intro r hr;simp only [AY,List.mem_append,List.mem_singleton] at hr;rcases hr with hr | rfl
    · exact ih r hr
    · have:=FS (H:=H) (p:=(P:Int)) (j:=S)
      exact ⟨by omega,by omega,stockRow_all h⟩
end
theorem openRow_hit {p:Int} {row:List Int} {H:Hs} {k:Nat}:∀ {j:Nat},k<j→CQ ⟨p,(k:Int),false⟩ (FQ p row j H)=row.getD k 0:=by
  intro j
  induction j with
  | zero=>omega
  | succ j ih=>
    intro h;simp only [FQ,HH,HKey.mk.injEq]
    by_cases e:k=j
    · subst e;simp
    · rw [if_neg (by omega),ih (by omega)]
theorem openRow_soil {p:Int} {row:List Int} {H:Hs} {q so:Int}:∀ {j:Nat},CQ ⟨q,so,true⟩ (FQ p row j H)=CQ ⟨q,so,true⟩ H:=by
  intro j
  induction j with
  | zero=>rfl
  | succ j ih=>simp only [FQ,HH,HKey.mk.injEq];rw [if_neg (by simp),ih]
theorem openTo_soil {st:List (List Int)} {q so:Int}:∀ {i:Nat},CQ ⟨q,so,true⟩ (GU st i)=0:=by
  intro i
  induction i with
  | zero=>rfl
  | succ i ih=>simp only [GU];rw [openRow_soil,ih]
theorem openTo_hit {st:List (List Int)} {p k:Nat} (hk:k<(st.getD p []).length):∀ {i:Nat},p<i→CQ ⟨(p:Int),(k:Int),false⟩ (GU st i)=(st.getD p []).getD k 0:=by
  intro i
  induction i with
  | zero=>omega
  | succ i ih=>
    intro h;simp only [GU]
    by_cases e:p=i
    · subst e;exact openRow_hit hk
    · rw [openRow_get (.inl (by simp only;omega)),ih (by omega)]
theorem open_row {L:Lin} {p k:Nat} (hp:p<L.start.length) (hk:k<(L.start.getD p []).length):AX (CG L) (p:Int) (k+1)=AX (CG L) (p:Int) k++[(L.start.getD p []).getD k 0,0]:=by
  simp only [AX];unfold CG;rw [openTo_hit hk hp,openTo_soil]
def OutK (P S:Int) (k:HKey):Prop:=¬ ((0≤k.pl∧k.pl<P)∧(0≤k.so∧k.so<S))
def ZeroOut (P S:Int) (H:Hs):Prop:=∀ k,OutK P S k→CQ k H=0
section
variable {P S:Int} {H:Hs}
theorem ZeroOut.put (h:ZeroOut P S H) {k:HKey} {v:Int} (hk:¬ OutK P S k):ZeroOut P S (GV k v H):=fun j hj=>by
  rw [HH];split
  · rename_i e;subst e;exact absurd hj hk
  · exact h j hj
theorem ZeroOut.row (h:ZeroOut P S H) {p:Int} {row:List Int} (hp:0≤p∧p<P):∀ {j:Nat},(j:Int)≤S→ZeroOut P S (FQ p row j H):=by
  intro j
  induction j with
  | zero=>intro _;exact h
  | succ j ih=>intro hj;exact (ih (by omega)).put (fun ho=>ho ⟨hp,by simp only;omega⟩)
theorem ZeroOut.open {L:Lin} (g:GoodL L):ZeroOut L.places L.sorts (CG L):=by
  have key:∀ i,i≤L.start.length→ZeroOut L.places L.sorts (GU L.start i):=by
    intro i
    induction i with
    | zero=>intro _ k _;rfl
    | succ i ih=>
      intro hi;have h1:=g.start;have h2:=g.rows _ (BD (xs:=L.start) (d:=[]) (show i<L.start.length by omega));exact (ih (by omega)).row (by omega) (by omega)
  exact key _ (Nat.le_refl _)
theorem ZeroOut.slip (h:ZeroOut P S H) {s:Slip} (hp:0≤s.place∧s.place<P) (hs:0≤s.sort∧s.sort<S) (ht:s.kind=1→0≤s.to∧s.to<P):ZeroOut P S (doSlip s H):=by
  have hk:∀ b,¬ OutK P S ⟨s.place,s.sort,b⟩:=fun b ho=>ho ⟨hp,hs⟩
  unfold doSlip
  split
  · rename_i e;exact (h.put (hk _)).put (fun ho=>ho ⟨ht e,hs⟩)
  split;· exact (h.put (hk _)).put (hk _)
  split;· exact (h.put (hk _)).put (hk _)
  split;· exact h.put (hk _)
  split;· exact h.put (hk _)
  exact h.put (hk _)
end
def OnceK (H:Hs):Prop:=(H.map Prod.fst).Nodup
theorem OnceK.put {H:Hs} (h:OnceK H) {k:HKey} {v:Int}:OnceK (GV k v H):=putH_once h
theorem OnceK.slip {H:Hs} (h:OnceK H) {s:Slip}:OnceK (doSlip s H):=by
  unfold doSlip
  split;· exact h.put.put
  split;· exact h.put.put
  split;· exact h.put.put
  split;· exact h.put
  split;· exact h.put
  exact h.put
theorem OnceK.open {L:Lin}:OnceK (CG L):=by
  have row:∀ {p:Int} {row:List Int} {H:Hs},OnceK H→∀ j,OnceK (FQ p row j H):=by
    intro p row H h j
    induction j with
    | zero=>exact h
    | succ j ih=>exact ih.put
  have key:∀ i,OnceK (GU L.start i):=by
    intro i
    induction i with
    | zero=>exact List.Pairwise.nil
    | succ i ih=>exact row ih _
  exact key _
def hsAt (L:Lin) (i:Nat):Hs:=aft (CG L) ((BI L.slips).take i)
def HP (L:Lin) (i:Nat):List (List Int):=AY (hsAt L i) L.sorts.toNat L.places.toNat
section
variable {L:Lin} {i:Nat} (g:GoodL L)
include g
omit g in
theorem sortS_at (hi:i<(BI L.slips).length):(BI L.slips).getD i AB∈L.slips:=(GN _).subset (BD hi)
theorem slip_at (hi:i<(BI L.slips).length):(0≤((BI L.slips).getD i AB).place∧((BI L.slips).getD i AB).place<L.places.toNat)∧(0≤((BI L.slips).getD i AB).sort∧((BI L.slips).getD i AB).sort<L.sorts.toNat)∧(((BI L.slips).getD i AB).kind=1→0≤((BI L.slips).getD i AB).to∧((BI L.slips).getD i AB).to<L.places.toNat)∧(0≤((BI L.slips).getD i AB).amt∧((BI L.slips).getD i AB).amt≤50)∧(1≤((BI L.slips).getD i AB).kind∧((BI L.slips).getD i AB).kind≤6):=by
  obtain ⟨_,_,h3,h4,h5,h6,h7⟩:=MH (g.slipOf (sortS_at hi));have h8:=g.places;have h9:=g.sorts;exact ⟨by omega,by omega,fun h=>by have:=h7 h;omega,h6,h3⟩
omit g in
theorem hsAt_next (hi:i<(BI L.slips).length):hsAt L (i+1)=doSlip ((BI L.slips).getD i AB) (hsAt L i):=by
  unfold hsAt;rw [CE (d:=AB) hi];unfold aft;rw [List.foldl_append];rfl
theorem rowsAt_next (hi:i<(BI L.slips).length):JR (HP L i) ((BI L.slips).getD i AB)=HP L (i+1):=by
  obtain ⟨h1,h2,h3,_⟩:=slip_at g hi;unfold HP;rw [done_stock h1 h2 h3,hsAt_next hi]
theorem rowsAt_in:RowsI 100000 (2*L.sorts.toNat-1) (HP L i):=by
  have h8:=g.places;have h9:=g.sorts;have hp:=g.goodS;have hw:Within 100000 (hsAt L i):=GoodS.within (S:=BI L.slips) (hp.perm (GN _)) g.within i;exact QA hw (by omega) (by omega)
omit g in
theorem rowsAt_len:(HP L i).length=L.places.toNat:=EA
end
theorem ixR_lt {so:Int} {b:Bool} {S:Nat} (h:0≤so∧so<S):ixR so.toNat b≤2*S-1:=by unfold ixR;split <;> omega
section
variable {L:Lin} {i:Nat}
end
section
variable {a r x y:Bool}
end
def gAt (cs:List Car) (i:Nat):Int:=(cs.getD i noCar).grp
structure CarsInv (cs:List Car) (g l:Int):Prop where
  ok:∀ c∈cs,carErr c=0∧c.len≤3
  le:∀ i,i<cs.length→gAt cs i≤g
  run:∀ i j,i≤j→j<cs.length→gAt cs i=gAt cs j→gAt cs i≠0→∀ m,i≤m→m≤j→gAt cs m=gAt cs i
  g0:0≤g∧g≤3
  l0:0≤l∧l≤2
  last:0<l→1≤g∧(0<cs.length→gAt cs (cs.length-1)=g∨∀ i,i<cs.length→gAt cs i<g)
theorem CarsInv.nil:CarsInv [] 0 0:=⟨fun c h=>by simp at h,fun i h=>by simp at h,fun i j _ h=>by simp at h,by omega,by omega,fun h=>by omega⟩
theorem ME {cs:List Car} {c:Car} {i:Nat}:gAt (cs++[c]) i=if i<cs.length then gAt cs i else if i=cs.length then c.grp else 0:=by
  unfold gAt;simp only [List.getD]
  split
  · rename_i h;rw [List.getElem?_append_left h]
  · rename_i h
    rw [List.getElem?_append_right (by omega)]
    split
    · rename_i h2;simp [h2]
    · rename_i h2
      have:1≤i-cs.length:=by omega
      cases hh:i-cs.length with
      | zero=>omega
      | succ n=>simp [noCar]
theorem CarsInv.snoc {cs:List Car} {g l:Int} (h:CarsInv cs g l) {c:Car} (hc:carErr c=0∧c.len≤3) (hg:(0<l→c.grp=g)∧(¬ 0<l→c.grp=0)):CarsInv (cs++[c]) g (if 0<l then l-1 else l):=by
  have hg0:=h.g0;have hl0:=h.l0;have hle:c.grp≤g:=by by_cases hl:0<l;exact Int.le_of_eq (hg.1 hl);rw [hg.2 hl];omega
  refine ⟨fun x hx=>?_,fun i hi=>?_,?_,hg0,by split <;> omega,fun hl=>?_⟩
  · rcases List.mem_append.1 hx with hx | hx
    · exact h.ok x hx
    · simp at hx;subst hx;exact hc
  · rw [ME]
    split
    · rename_i h1;exact h.le i h1
    · split
      · exact hle
      · omega
  · intro i j hij hj e h0 m him hmj
    simp only [List.length_append,List.length_cons,List.length_nil] at hj;have A:∀ x,x<cs.length→gAt (cs++[c]) x=gAt cs x:=fun x hx=>by rw [ME,if_pos hx]
    have B:gAt (cs++[c]) cs.length=c.grp:=by rw [ME,if_neg (by omega),if_pos rfl]
    by_cases hj1:j<cs.length
    · rw [A i (by omega)] at e h0 ⊢
      rw [A j hj1] at e;rw [A m (by omega)];exact h.run i j hij hj1 e h0 m him hmj
    · have hj2:j=cs.length:=by omega
      subst hj2;rw [B] at e
      by_cases hi1:i<cs.length
      · rw [A i hi1] at e h0 ⊢
        by_cases hm1:m<cs.length
        · rw [A m hm1]
          by_cases hl:0<l
          · have hcg:=hg.1 hl
            rcases (h.last hl).2 (by omega) with hla | hla
            · exact h.run i (cs.length-1) (by omega) (by omega) (by rw [hla];omega) h0 m him (by omega)
            · have:=hla i hi1;omega
          · have:=hg.2 hl;omega
        · have hm2:m=cs.length:=by omega
          subst hm2;rw [B];exact e.symm
      · have hi2:i=cs.length:=by omega
        have hm2:m=i:=by omega
        rw [hm2]
  · have hl1 : 0 < l := by
      by_cases h1:0<l
      · exact h1
      · rw [if_neg h1] at hl;exact hl
    have:=h.last hl1;refine ⟨this.1,fun _=>.inl ?_⟩;have e:(cs++[c]).length-1=cs.length:=by simp
    rw [e,ME,if_neg (by omega),if_pos rfl];exact hg.1 hl1
structure Placed (cs:List Car) (T k a:Nat) (ts:List (List Int)):Prop where
  len:ts.length=T
  a0:a<T
  perm:ts.flatten.Perm (EC k)
  ex:∃ tr:Nat→Nat,(∀ i,i<T→ts.getD i []=(EC k).filter fun c=>decide (tr c.toNat=i))∧(∀ c,c<k→tr c<T)∧(∀ c,c+1<k→gAt cs (c+1)≠0→gAt cs (c+1)=gAt cs c→tr (c+1)=tr c)∧(0<k→tr (k-1)=a)
theorem mem_wholeL {n:Nat} {c:Int}:c∈EC n↔0≤c∧c<n:=by
  unfold EC;simp only [List.mem_map,List.mem_range]
  constructor
  · rintro ⟨i,hi,rfl⟩;omega
  · intro h;exact ⟨c.toNat,by omega,by omega⟩
theorem Placed.start {cs:List Car} {T:Nat} (hT:0<T):Placed cs T 0 0 (List.replicate T []):=by
  refine ⟨by simp,hT,by simp [EC],fun _=>0,fun i hi=>?_,fun c h=>by omega,fun c h=>by omega,fun h=>by omega⟩;simp [EC,List.getD,hi]
theorem QE:∀ (ts:List (List Int)) (a:Nat) (x:Int),a<ts.length→(ts.set a (ts.getD a []++[x])).flatten.Perm (ts.flatten++[x]):=by
  intro ts
  induction ts with
  | nil=>intro a x h;simp at h
  | cons t r ih=>
    intro a x h;cases a with
    | zero=>
      simp only [List.set_cons_zero,List.getD_cons_zero,List.flatten_cons,List.append_assoc];exact List.Perm.append_left t List.perm_append_comm
    | succ a=>
      simp only [List.set_cons_succ,List.getD_cons_succ,List.flatten_cons,List.append_assoc];exact List.Perm.append_left t (ih a x (by simpa using h))
theorem Placed.put {cs : List Car} {T k a a2 : Nat} {ts : List (List Int)} (h : Placed cs T k a ts) (h2 : a2 < T) (hs : k ≠ 0 → gAt cs k ≠ 0 → gAt cs k = gAt cs (k - 1) → a2 = a) :
    Placed cs T (k+1) a2 (ts.set a2 (ts.getD a2 []++[(k:Int)])):=by
  obtain ⟨tr,t1,t2,t3,t4⟩:=h.ex;have hl:=h.len;refine ⟨by rw [List.length_set];exact hl,h2,?_,fun c=>if c=k then a2 else tr c,fun i hi=>?_,fun c hc=>?_,fun c hc h0 he=>?_,fun _=>?_⟩
  · rw [NF]
    exact (QE ts a2 k (by omega)).trans (List.Perm.append_right _ h.perm)
  · have hf : (EC k).filter (fun c => decide ((if c.toNat = k then a2 else tr c.toNat) = i)) = ts.getD i [] := by
      rw [t1 i hi];refine List.filter_congr fun c hc=>?_
      have:=mem_wholeL.1 hc;rw [if_neg (by omega)]
    rw [NF,List.filter_append,hf]
    by_cases e:a2=i
    · subst e
      simp [List.getD,List.getElem?_set,hl,hi]
    · simp [List.getD,List.getElem?_set,e]
  · show (if c=k then a2 else tr c)<T
    split
    · exact h2
    · exact t2 c (by omega)
  · show (if c+1=k then a2 else tr (c+1))=(if c=k then a2 else tr c)
    by_cases e1:c+1=k
    · have e3:¬ c=k:=by omega
      rw [if_pos e1,if_neg e3];have:=hs (by omega) (by rw [← e1];exact h0) (by rw [← e1];exact he);rw [this,← t4 (by omega),← e1];rfl
    · have e3:¬ c=k:=by omega
      rw [if_neg e1,if_neg e3];exact t3 c (by omega) h0 he
  · simp
theorem sorted_prev {l:List Int} (hs:l.Pairwise (·<·)) {j:Nat} (hj:j<l.length) (hm:l.getD j 0-1∈l):0<j∧l.getD (j-1) 0=l.getD j 0-1:=by
  obtain ⟨m,hm1,hm2⟩:=List.mem_iff_getElem.1 hm;have hlt:∀ (x y:Nat) (hx:x<l.length) (hy:y<l.length),x<y→l.getD x 0<l.getD y 0:=fun x y hx hy h=>by
    have:=List.pairwise_iff_getElem.1 hs x y hx hy h
    simpa [List.getD,hx,hy] using this
  have e:l.getD m 0=l.getD j 0-1:=by simpa [List.getD,hm1] using hm2
  have h1:m<j:=by
    rcases Nat.lt_trichotomy m j with h | h | h
    · exact h
    · subst h;omega
    · have:=hlt j m hj hm1 h;omega
  rcases Nat.lt_or_ge m (j-1) with h2 | h2
  · have a:=hlt m (j-1) hm1 (by omega) h2
    have b:=hlt (j-1) j (by omega) hj (by omega);omega
  · have:m=j-1:=by omega
    subst this;exact ⟨by omega,e⟩
theorem wholeL_sorted (n:Nat):(EC n).Pairwise (·<·):=by
  unfold EC;rw [List.pairwise_map];exact List.pairwise_lt_range.imp fun h=>by omega
theorem Placed.groups {cs:List Car} {T a:Nat} {ts:List (List Int)} {g l:Int} (h:Placed cs T cs.length a ts) (hc:CarsInv cs g l):GrpFrom cs ts []:=by
  obtain ⟨tr,t1,t2,t3,t4⟩:=h.ex;have hmem:∀ i,i<T→∀ c,c∈ts.getD i []↔(0≤c∧c<cs.length)∧tr c.toNat=i:=fun i hi c=>by
    rw [t1 i hi,List.mem_filter,mem_wholeL,decide_eq_true_eq]
  have hgrp:∀ c:Int,grp cs c=gAt cs c.toNat:=fun c=>rfl
  have hrun:∀ n x:Nat,x+n<cs.length→gAt cs x≠0→gAt cs x=gAt cs (x+n)→tr (x+n)=tr x:=by
    intro n
    induction n with
    | zero=>intro x _ _ _;rfl
    | succ n ih=>
      intro x hx h0 e;have e1:gAt cs (x+n)=gAt cs x:=hc.run x (x+(n+1)) (by omega) hx e h0 (x+n) (by omega) (by omega);have:=ih x (by omega) h0 e1.symm;rw [← this];exact t3 (x+n) (by omega) (by rw [show x+n+1=x+(n+1) by omega,← e];exact h0) (by rw [show x+n+1=x+(n+1) by omega,← e,e1])
  have hrun2:∀ x y:Nat,x<cs.length→y<cs.length→gAt cs x≠0→gAt cs x=gAt cs y→tr x=tr y:=fun x y hx hy h0 e=>by
    rcases Nat.le_total x y with hxy | hxy
    · have:=hrun (y-x) x (by omega) h0 (by rw [show x+(y-x)=y by omega];exact e)
      rw [show x+(y-x)=y by omega] at this;exact this.symm
    · have:=hrun (x-y) y (by omega) (by rw [← e];exact h0) (by rw [show y+(x-y)=x by omega];exact e.symm)
      rw [show y+(x-y)=x by omega] at this;exact this
  intro i j hi hj h0 hm;rw [h.len] at hi;have hcm:(ts.getD i []).getD j 0∈ts.getD i []:=BD hj;obtain ⟨⟨c0,c1⟩,c2⟩:=(hmem i hi _).1 hcm
  generalize hcc:(ts.getD i []).getD j 0=c at hcm c0 c1 c2 h0 hm
  rcases hm with hm | ⟨c',hc',e⟩
  · simp at hm
  · rw [hgrp,hgrp] at e
    rw [hgrp] at h0;have hs:(ts.getD i []).Pairwise (·<·):=by rw [t1 i hi];exact (wholeL_sorted _).sublist List.filter_sublist
    have hc2:(0≤c'∧c'<cs.length)∧(tr c'.toNat<i∨c'∈(ts.getD i []).take j):=by
      rcases List.mem_append.1 hc' with hx | hx
      · obtain ⟨t,ht,hx⟩:=List.mem_flatten.1 hx
        obtain ⟨m,hm1,hm2⟩:=List.mem_iff_getElem.1 ht;have hm3:m<i∧m<ts.length:=by rw [List.length_take] at hm1;omega
        have e3:ts.getD m []=t:=by rw [← hm2];simp [List.getD,hm3.2]
        rw [← e3] at hx;obtain ⟨hb,ht2⟩:=(hmem m (by rw [← h.len];exact hm3.2) _).1 hx;exact ⟨hb,.inl (by omega)⟩
      · exact ⟨((hmem i hi _).1 (List.mem_of_mem_take hx)).1,.inr hx⟩
    obtain ⟨⟨d0,d1⟩,hd⟩:=hc2;have htr:=hrun2 c.toNat c'.toNat (by omega) (by omega) (by omega) e.symm;rcases hd with hd | hd
    · omega
    · obtain ⟨m,hm1,hm2⟩:=List.mem_iff_getElem.1 hd
      have hm3:m<j∧m<(ts.getD i []).length:=by rw [List.length_take] at hm1;omega
      have hlt:c'<c:=by
        have h1:=List.pairwise_iff_getElem.1 hs m j hm3.2 hj hm3.1;have e1:c'=(ts.getD i [])[m]:=by rw [← hm2];simp
        have e2:c=(ts.getD i [])[j]:=by rw [← hcc,List.getD,List.getElem?_eq_getElem hj];rfl
        rw [e1,e2];exact h1
      have e4:gAt cs (c.toNat-1)=gAt cs c'.toNat:=hc.run c'.toNat c.toNat (by omega) (by omega) e (by omega) (c.toNat-1) (by omega) (by omega);have e5:tr (c.toNat-1)=i:=by
        have:=hrun2 (c.toNat-1) c.toNat (by omega) (by omega) (by omega) (by omega);omega
      have hin:c-1∈ts.getD i []:=(hmem i hi _).2 ⟨by omega,by rw [show (c-1).toNat=c.toNat-1 by omega];exact e5⟩;have hp:=sorted_prev hs hj (by rw [hcc];exact hin);rw [hcc] at hp;unfold DU;have e6:((j:Int)-1).toNat=j-1:=by omega
      rw [show (↑j:Int).toNat=j by omega,e6,hp.2,hcc];have e7:inB ↑j 1 (↑(ts.getD i []).length-1)=true:=by simp only [inB,Bool.and_eq_true,decide_eq_true_eq];omega
      rw [e7];have e8:(KZ cs c).grp=(KZ cs (c-1)).grp:=by
        show gAt cs c.toNat=gAt cs (c-1).toNat;rw [show (c-1).toNat=c.toNat-1 by omega];omega
      rw [decide_eq_true (show 0<(KZ cs c).grp from h0),decide_eq_true e8];rfl
structure Roomy (cs:List Car) (ts:List (List Int)) (k:Nat) (rm:List Int):Prop where
  len:rm.length=k
  ok:∀ n∈rm,0≤n∧n≤20
  fits:∀ i,i<k→lenOf cs (ts.getD i [])≤rm.getD i 0
theorem Roomy.nil (cs:List Car) (ts:List (List Int)):Roomy cs ts 0 []:=⟨rfl,fun n h=>by simp at h,fun i h=>by omega⟩
theorem Roomy.snoc {cs:List Car} {ts:List (List Int)} {k:Nat} {rm:List Int} (h:Roomy cs ts k rm) {n:Int} (hn:0≤n∧n≤20) (hf:lenOf cs (ts.getD k [])≤n):Roomy cs ts (k+1) (rm++[n]):=by
  have hl:=h.len;refine ⟨by simp [hl],fun x hx=>?_,fun i hi=>?_⟩
  · rcases List.mem_append.1 hx with hx | hx
    · exact h.ok x hx
    · simp at hx;subst hx;exact hn
  · by_cases e:i<k
    · have:=h.fits i e
      have e2:(rm++[n]).getD i 0=rm.getD i 0:=by simp only [List.getD];rw [List.getElem?_append_left (by omega)]
      rw [e2];exact this
    · have:i=k:=by omega
      subst this;have e2:(rm++[n]).getD i 0=n:=by simp only [List.getD];rw [List.getElem?_append_right (by omega),hl];simp
      rw [e2];exact hf
theorem Placed.tracks {cs:List Car} {T k a:Nat} {ts:List (List Int)} (h:Placed cs T k a ts):ts.flatten.length=k:=by rw [h.perm.length_eq,FC]
theorem Placed.tl {cs:List Car} {T k a:Nat} {ts:List (List Int)} (h:Placed cs T k a ts):∀ t∈ts,t.length≤k:=fun t ht=>by
  have:=HI ht;rw [h.tracks] at this;exact this
theorem Placed.okAll {cs:List Car} {T a:Nat} {ts:List (List Int)} (h:Placed cs T cs.length a ts):OkAll cs ts:=fun t ht c hc=>
  mem_wholeL.1 (h.perm.mem_iff.1 (List.mem_flatten.2 ⟨t,ht,hc⟩))
theorem perm_sum {l m:List Int} (h:l.Perm m):l.sum=m.sum:=by
  induction h with
  | nil=>rfl
  | cons x _ ih=>simp [ih]
  | swap x y l=>simp only [List.sum_cons];omega
  | trans _ _ h1 h2=>exact h1.trans h2
theorem erase_perm {α:Type} {d:α} {l:List α} {i:Nat} (h:i<l.length):(l.getD i d::l.eraseIdx i).Perm l:=by
  have e:l=l.take i++l.getD i d::l.drop (i+1):=by rw [← LB h,List.take_append_drop]
  rw [← erase_take];exact (List.perm_middle.symm).trans (List.Perm.of_eq e.symm)
structure Blk (cs:List Car) (bl:List (List Int)):Prop where
  one:∀ b∈bl,∀ x∈b,∀ y∈b,grp cs x=grp cs y
  apart:bl.Pairwise fun b c=>∀ x∈b,∀ y∈c,0<grp cs x→grp cs x≠grp cs y
theorem Blk.perm {cs:List Car} {bl bl':List (List Int)} (h:Blk cs bl) (p:bl.Perm bl'):Blk cs bl':=
  ⟨fun b hb=>h.one b (p.mem_iff.2 hb),(p.pairwise_iff (fun {b c} hbc x hx y hy h0 e=>hbc y hy x hx (by omega) e.symm)).1 h.apart⟩
def RowOk (cs:List Car) (t:List Int):Prop:=∀ k,k<t.length→0<grp cs (t.getD k 0)→(∃ c∈t.take k,grp cs c=grp cs (t.getD k 0))→0<k∧grp cs (t.getD (k-1) 0)=grp cs (t.getD k 0)
theorem QN {a b:List Int} {k:Nat}:(a++b).getD k 0=if k<a.length then a.getD k 0 else b.getD (k-a.length) 0:=by
  simp only [List.getD]
  split
  · rename_i h;rw [List.getElem?_append_left h]
  · rename_i h;rw [List.getElem?_append_right (by omega)]
theorem Blk.row {cs:List Car}:∀ {bl:List (List Int)},Blk cs bl→RowOk cs bl.flatten:=by
  intro bl
  induction bl with
  | nil=>intro _ k hk;simp at hk
  | cons b r ih=>
    intro h k hk h0 hc;have ih:=ih ⟨fun b hb=>h.one b (List.mem_cons_of_mem _ hb),(List.pairwise_cons.1 h.apart).2⟩;rw [List.flatten_cons] at hk h0 hc ⊢;obtain ⟨c,hc,e⟩:=hc
    by_cases hkb:k<b.length
    · have e0:(b++r.flatten).getD k 0=b.getD k 0:=by rw [QN,if_pos hkb]
      rw [List.take_append_of_le_length (by omega)] at hc;have hk0:0<k:=by
        rcases Nat.eq_zero_or_pos k with hz | hz
        · subst hz;simp at hc
        · exact hz
      refine ⟨hk0,?_⟩;rw [e0,QN,if_pos (by omega)];exact h.one b List.mem_cons_self _ (BD (by omega)) _ (BD hkb)
    · have e0:(b++r.flatten).getD k 0=r.flatten.getD (k-b.length) 0:=by rw [QN,if_neg hkb]
      rw [e0] at h0 e ⊢;have hk2:k-b.length<r.flatten.length:=by rw [List.length_append] at hk;omega
      have hmem:r.flatten.getD (k-b.length) 0∈r.flatten:=BD hk2;rw [List.take_append,List.take_of_length_le (by omega)] at hc;rcases List.mem_append.1 hc with hc | hc
      · exfalso
        obtain ⟨b2,hb2,hm2⟩:=List.mem_flatten.1 hmem;exact (List.pairwise_cons.1 h.apart).1 b2 hb2 c hc _ hm2 (by omega) e
      · obtain ⟨i1,i2⟩:=ih (k-b.length) hk2 h0 ⟨c,hc,e⟩
        refine ⟨by omega,?_⟩;rw [QN,if_neg (by omega),show k-1-b.length=k-b.length-1 by omega];exact i2
theorem coupled_of {cs:List Car} {t:List Int} {k:Nat} (hk:k<t.length) (h0:0<grp cs (t.getD k 0)) (h1:0<k) (e:grp cs (t.getD (k-1) 0)=grp cs (t.getD k 0)):DU cs t ↑k=true:=by
  rw [coupled_raw hk,show ((k:Int)-1).toNat=k-1 by omega,decide_eq_true (show 0<(k:Int) by omega),decide_eq_true (show 0<(KZ cs (t.getD k 0)).grp from h0),decide_eq_true (show (KZ cs (t.getD k 0)).grp=(KZ cs (t.getD (k-1) 0)).grp from e.symm)];rfl
theorem coupled_to {cs:List Car} {t:List Int} {k:Nat} (hk:k<t.length) (h:DU cs t ↑k=true):0<k∧0<grp cs (t.getD k 0)∧grp cs (t.getD k 0)=grp cs (t.getD (k-1) 0):=by
  rw [coupled_raw hk,show ((k:Int)-1).toNat=k-1 by omega] at h;simp only [Bool.and_eq_true,decide_eq_true_eq] at h;exact ⟨by omega,h.2.1,h.2.2⟩
theorem blocks_blk {cs : List Car} {t : List Int} (h : ∀ k, k < t.length → 0 < grp cs (t.getD k 0) → (∃ c ∈ t.take k, grp cs c = grp cs (t.getD k 0)) → DU cs t ↑k = true) :
    ∀ k,k≤t.length→Blk cs (BZ cs t k)∧(0<k→∃ ys y,BZ cs t k=ys++[y]∧t.getD (k-1) 0∈y):=by
  intro k
  induction k with
  | zero=>intro _;exact ⟨⟨fun b hb=>by simp [BZ] at hb,by simp [BZ]⟩,fun h=>by omega⟩
  | succ k ih=>
    intro hk;obtain ⟨hb,hl⟩:=ih (by omega)
    by_cases hc:DU cs t ↑k=true
    · obtain ⟨c1,c2,c3⟩:=coupled_to (by omega) hc
      obtain ⟨ys,y,e,hy⟩:=hl c1;have e2:BZ cs t (k+1)=ys++[y++[t.getD k 0]]:=by
        rw [blocksTo_yes hc,e];simp [List.getD]
      rw [e2];rw [e] at hb;have ho:=hb.one;have ha:=List.pairwise_append.1 hb.apart;refine ⟨⟨fun b hb2=>?_,List.pairwise_append.2 ⟨ha.1,by simp,fun b hb2 c hc2=>?_⟩⟩,fun _=>⟨ys,_,rfl,by simp⟩⟩
      · rcases List.mem_append.1 hb2 with hb2 | hb2
        · exact ho b (List.mem_append_left _ hb2)
        · have hb2:=List.mem_singleton.1 hb2
          subst hb2;have key:∀ x∈y++[t.getD k 0],grp cs x=grp cs (t.getD (k-1) 0):=fun x hx=>by
            rcases List.mem_append.1 hx with hx | hx
            · exact ho y (by simp) x hx _ hy
            · have hx:=List.mem_singleton.1 hx;subst hx;exact c3
          intro x hx z hz;rw [key x hx,key z hz]
      · have hc2:=List.mem_singleton.1 hc2
        subst hc2;intro x hx z hz h0;rcases List.mem_append.1 hz with hz | hz
        · exact ha.2.2 b hb2 y (by simp) x hx z hz h0
        · have hz:=List.mem_singleton.1 hz;subst hz
          rw [c3];exact ha.2.2 b hb2 y (by simp) x hx _ hy h0
    · have hc':DU cs t ↑k=false:=by simpa using hc
      rw [blocksTo_no hc'];refine ⟨⟨fun b hb2=>?_,List.pairwise_append.2 ⟨hb.apart,by simp,fun b hb2 c hc2=>?_⟩⟩,fun _=>⟨_,_,rfl,by simp⟩⟩
      · rcases List.mem_append.1 hb2 with hb2 | hb2
        · exact hb.one b hb2
        · have hb2:=List.mem_singleton.1 hb2
          subst hb2;intro x hx z hz;rw [List.mem_singleton.1 hx,List.mem_singleton.1 hz]
      · have hc2:=List.mem_singleton.1 hc2
        subst hc2;intro x hx z hz h0 e;have hz:=List.mem_singleton.1 hz;subst hz;refine hc (h k (by omega) (by omega) ⟨x,?_,e⟩);rw [← NI k (by omega)];exact List.mem_flatten.2 ⟨b,hb2,hx⟩
theorem rowsN_perm:∀ (n:Nat) (bl:List (List Int)),bl.length=n→∀ x∈rowsN n bl,∃ bl':List (List Int),bl'.Perm bl∧x=bl'.flatten:=by
  intro n
  induction n with
  | zero=>intro bl h x hx;simp [rowsN,ordN] at hx;subst hx;exact ⟨[],by rw [List.length_eq_zero_iff.1 h],rfl⟩
  | succ n ih=>
    intro bl h x hx;simp only [rowsN,ordN,ordFrom,List.mem_flatMap,List.mem_map] at hx;obtain ⟨i,hi,y,hy,rfl⟩:=hx;have hi:=List.mem_range'_1.1 hi;obtain ⟨bl',hp,rfl⟩:=ih _ (erase_len (k:=i) (by omega) h) y hy;refine ⟨bl.getD i []::bl',?_,rfl⟩;refine (List.Perm.cons _ hp).trans ?_;have hb:i<bl.length:=by omega
    exact erase_perm hb
theorem Fine.row {Y:Yard} (f:Fine Y) {r:List Int} (hr:r∈rowsN (JB Y.cars (trk Y 0)).length (JB Y.cars (trk Y 0))):Valid { Y with tracks:=Y.tracks.set 0 r }∧r.Perm (trk Y 0):=by
  have hlen:=f.len;have hr1:=f.room1;obtain ⟨t,ts,ht⟩:∃ t ts,Y.tracks=t::ts:=by
    cases hh:Y.tracks with
    | nil=>rw [hh] at hlen;simp at hlen;omega
    | cons t ts=>exact ⟨t,ts,rfl⟩
  have ht0:trk Y 0=t:=by show Y.tracks.getD 0 []=t;rw [ht];rfl
  rw [ht0] at hr ⊢;have hg:=groups_iff.1 f.groups;have hrow:∀ k,k<t.length→0<grp Y.cars (t.getD k 0)→(∃ c∈t.take k,grp Y.cars c=grp Y.cars (t.getD k 0))→DU Y.cars t ↑k=true:=fun k hk h0 hc=>by
    have:=hg 0 k (by rw [ht];simp) (by rw [ht];simpa using hk) (by rw [ht];simpa using h0) (.inr (by rw [ht];simpa using hc));rw [ht] at this;simpa using this
  obtain ⟨hb,_⟩:=blocks_blk hrow t.length (Nat.le_refl _);obtain ⟨bl',hp,rfl⟩:=rowsN_perm _ _ rfl r hr;have hflat:(JB Y.cars t).flatten=t:=by
    have:=NI (cs:=Y.cars) (t:=t) t.length (Nat.le_refl _);rw [List.take_length] at this;exact this
  have hperm:bl'.flatten.Perm t:=by
    have:=hp.flatten;rw [hflat] at this;exact this
  have hrok:=(Blk.perm hb hp.symm).row;refine ⟨Fine.valid ⟨f.cars,f.carOk,f.room1,f.room3,f.roomOk,by rw [List.length_set];exact f.len,?_,?_,?_,?_,?_⟩,hperm⟩
  all_goals simp only [ht,List.set_cons_zero]
  · intro x hx c hc
    have hok:=f.ok;rw [ht] at hok;rcases List.mem_cons.1 hx with e | hx
    · subst e;exact hok t List.mem_cons_self c (hperm.mem_iff.1 hc)
    · exact hok x (List.mem_cons_of_mem _ hx) c hc
  · have hn:=f.nodup
    rw [ht] at hn;rw [List.flatten_cons] at hn ⊢;exact (List.Perm.append_right _ hperm).nodup_iff.2 hn
  · intro k hk
    have hf:=f.fits;rw [ht] at hf;cases k with
    | zero=>
      have:=hf 0 (by simp);rw [List.getD_cons_zero] at this ⊢;have e:lenOf Y.cars bl'.flatten=lenOf Y.cars t:=by
        unfold lenOf;exact perm_sum (hperm.map _)
      rw [e];exact this
    | succ k=>simpa using hf (k+1) (by simpa using hk)
  · have ha:=f.all
    rw [ht] at ha;rw [List.flatten_cons,List.length_append] at ha ⊢;rw [hperm.length_eq];exact ha
  · refine groups_iff.2 ?_
    show GrpFrom Y.cars (bl'.flatten::ts) [];intro i k hi hk h0 hm;rcases hm with hm | ⟨c,hc,e⟩
    · simp at hm
    · cases i with
      | zero=>
        simp only [List.getD_cons_zero,List.take_zero,List.flatten_nil,List.nil_append] at hk h0 hc e ⊢;obtain ⟨h1,h2⟩:=hrok k hk h0 ⟨c,hc,e⟩;exact coupled_of hk h0 h1 h2
      | succ i=>
        have:=hg (i+1) k (by rw [ht];simpa using hi) (by rw [ht];simpa using hk) (by rw [ht];simpa using h0) (.inr ⟨c,by
          rw [ht]
          simp only [List.take_succ_cons,List.flatten_cons,List.getD_cons_succ,List.mem_append] at hc ⊢
          rcases hc with (hc | hc) | hc
          · exact .inl (.inl (hperm.mem_iff.1 hc))
          · exact .inl (.inr hc)
          · exact .inr hc,by rw [ht];simpa using e⟩)
        rw [ht] at this;simpa using this
section
variable {Y:Yard} {k:Nat}
end
def yvD:Value × Value × Value:=(undef,undef,undef)
def YardsV (I:Imm) (xs:List (Value × Value × Value)) (Ys:List Yard):Prop:=xs.length=Ys.length∧∀ i,i<xs.length→IsYard I (.agg #[(xs.getD i yvD).1,(xs.getD i yvD).2.1,(xs.getD i yvD).2.2]) (Ys.getD i PT)
theorem YardsV.mono {I J:Imm} {xs:List (Value × Value × Value)} {Ys:List Yard} (h:YardsV I xs Ys) (le:I.le J):YardsV J xs Ys:=⟨h.1,fun i hi=>(h.2 i hi).mono le⟩
theorem YardsV.nil (I:Imm):YardsV I [] []:=⟨rfl,fun i hi=>by simp at hi⟩
theorem YardsV.snoc {I:Imm} {xs:List (Value × Value × Value)} {Ys:List Yard} {a b c:Value} {Y:Yard} (h:YardsV I xs Ys) (hY:IsYard I (.agg #[a,b,c]) Y):YardsV I (xs++[(a,b,c)]) (Ys++[Y]):=by
  refine ⟨by simp [h.1],fun i hi=>?_⟩;rw [List.length_append,List.length_singleton] at hi;have hl:=h.1
  by_cases hb:i<xs.length
  · have e1:(xs++[(a,b,c)]).getD i yvD=xs.getD i yvD:=by simp [List.getD,List.getElem?_append_left hb]
    have e2:(Ys++[Y]).getD i PT=Ys.getD i PT:=by simp [List.getD,List.getElem?_append_left (show i<Ys.length by omega)]
    rw [e1,e2];exact h.2 i hb
  · obtain rfl:i=xs.length:=by omega
    have e1:(xs++[(a,b,c)]).getD xs.length yvD=(a,b,c):=by simp [List.getD]
    have e2:(Ys++[Y]).getD xs.length PT=Y:=by simp [List.getD,hl]
    rw [e1,e2];exact hY
theorem YardsV.at {I : Imm} {xs : List (Value × Value × Value)} {Ys : List Yard} (h : YardsV I xs Ys) {i : Nat} (hi : i < xs.length) :
    ∃ a b c,xs.getD i yvD=(a,b,c)∧IsCars I a (Ys.getD i PT).cars∧CJ I b (Ys.getD i PT).room∧IsRows I c (Ys.getD i PT).tracks:=by
  obtain ⟨v1,v2,v3,h1,h2,h3,h4⟩:=h.2 i hi;simp only [Value.agg.injEq] at h1;have e:=congrArg Array.toList h1;simp only [List.cons.injEq,and_true] at e;refine ⟨v1,v2,v3,?_,h2,h3,h4⟩;rw [← e.1,← e.2.1,← e.2.2]
def RowsS (I:Imm) (vs:List Value) (Ls:List (List Shift)):Prop:=vs.length=Ls.length∧∀ i,i<Ls.length→IsShifts I (vs.getD i undef) (Ls.getD i [])
theorem RowsS.mono {I J:Imm} {vs:List Value} {Ls:List (List Shift)} (h:RowsS I vs Ls) (le:I.le J):RowsS J vs Ls:=⟨h.1,fun i hi=>(h.2 i hi).mono le⟩
theorem RowsS.nil (I:Imm):RowsS I [] []:=⟨rfl,fun i hi=>by simp at hi⟩
theorem RowsS.snoc {I:Imm} {vs:List Value} {Ls:List (List Shift)} {v:Value} {l:List Shift} (h:RowsS I vs Ls) (hv:IsShifts I v l):RowsS I (vs++[v]) (Ls++[l]):=by
  have hl:=h.1;refine ⟨by simp [hl],fun i hi=>?_⟩;rw [List.length_append,List.length_singleton] at hi
  by_cases hb:i<Ls.length
  · have e1:(vs++[v]).getD i undef=vs.getD i undef:=by simp [List.getD,List.getElem?_append_left (show i<vs.length by omega)]
    have e2:(Ls++[l]).getD i []=Ls.getD i []:=by simp [List.getD,List.getElem?_append_left hb]
    rw [e1,e2];exact h.2 i hb
  · obtain rfl:i=Ls.length:=by omega
    have e1:(vs++[v]).getD Ls.length undef=v:=by simp [List.getD,← hl]
    have e2:(Ls++[l]).getD Ls.length []=l:=by simp [List.getD]
    rw [e1,e2];exact hv
structure Few (n:Nat) (Y:Yard):Prop where
  cars:Y.cars.length≤n
  room:Y.room.length≤n
  tracks:Y.tracks.length≤n
  each:∀ t∈Y.tracks,t.length≤n
theorem Fine.few {Y:Yard} (f:Fine Y):Few 20 Y:=by
  have h1:=f.cars;have h2:=f.room3;have h3:=f.len;refine ⟨by omega,by omega,by omega,fun t ht=>?_⟩;have:=HI ht;have:=f.sum;omega
end Go.Sh
namespace Go.Sl
open Go
end Go.Sl
namespace Go.Sh
open Go Go.Sl
end Go.Sh
namespace Go.Sl
open Go
section
variable {P:Program} {N:Nat} {ops:Array Oper} {i d:Nat} {l:Sl} {I:Imm} {R:Seg} {ty:TypeId} {gd:Option (Nat × Bool)}
theorem det_remT {x y : Operand} {T T' : TypeId} {k : IntKind} {a b : Int} (hop : FZ ops N i = some (some d, .binOp .rem T x y T', ty, gd)) (hg : FM ops l gd = some true)
    (hx:CI l x=some (.int k a)) (hy:CI l y=some (.int k b)) (hb:1≤b):Det P N ops i l I R d (.int k (a.tmod b)):=
  det_bin hop hg hx hy fun I' M'=>by
    have hne:b≠0:=by omega
    simp only [binOp,Op.intDiv,ne_eq,not_true_eq_false,if_false,if_neg hne];exact ⟨rfl,rfl⟩
end
theorem tmod_bounds {x:Int} {n:Nat} (hn:2≤n):-(n:Int)<x.tmod n∧x.tmod n<n:=
  ⟨by have:=Int.lt_tmod_of_pos x (show (0:Int)<n by omega);omega,Int.tmod_lt_of_pos x (by omega)⟩
theorem fold_nat {x:Int} {n:Nat} (hn:2≤n):∃ r:Nat,(x.tmod n+n)%(n:Int)=↑r∧r<n:=by
  have h1:=Int.emod_nonneg (x.tmod n+n) (show (n:Int)≠0 by omega);have h2:=Int.emod_lt_of_pos (x.tmod n+n) (show (0:Int)<n by omega);exact ⟨((x.tmod n+n)%(n:Int)).toNat,by omega,by omega⟩
end Go.Sl
namespace Go.Sh
open Go Go.Sl
end Go.Sh
namespace Go.Sl
open Go
theorem OH {α:Type} {d:α}:∀ (vs:List α) (i:Nat),vs.set i (vs.getD i d)=vs
  | [],_=>rfl
  | _::_,0=>rfl
  | v::vs,i+1=>by
    show v::vs.set i (vs.getD i d)=v::vs;rw [OH vs i]
theorem OwnEach.same {E:TypeId} {vs:List Value} {i:Nat} {v':Value} {xss:List (List Int)} {M:Seg} (h:OwnEach E (vs.set i v') xss M) (e:vs.getD i undef=v'):OwnEach E vs xss M:=by
  subst e;rwa [OH] at h
theorem fold_mod {x:Int} {n:Nat}:(x.tmod n+n)%(n:Int)=x%n:=by
  rw [Int.add_emod_right,Int.tmod_def,Int.sub_eq_add_neg,← Int.mul_neg,Int.add_mul_emod_self_left]
end Go.Sl
namespace Go.Sh
open Go Go.Sl
theorem inb_snoc {B:Int} {l:List Int} {x:Int} (h:∀ x∈l,0≤x∧x≤B) (hx:0≤x∧x≤B):∀ y∈l++[x],0≤y∧y≤B:=fun y hy=>by
  rcases List.mem_append.1 hy with hy | hy
  · exact h y hy
  · simp only [List.mem_singleton] at hy;subst hy;exact hx
theorem inb_snoc2 {B:Int} {l:List Int} {x y:Int} (h:∀ x∈l,0≤x∧x≤B) (hx:0≤x∧x≤B) (hy:0≤y∧y≤B):∀ z∈l++[x,y],0≤z∧z≤B:=fun z hz=>by
  rcases List.mem_append.1 hz with hz | hz
  · exact h z hz
  · simp only [List.mem_cons,List.not_mem_nil,or_false] at hz
    rcases hz with rfl | rfl
    · exact hx
    · exact hy
theorem HA {l:List Int} {n:Nat} (h:l.Perm (EC n)):l.Nodup:=by
  exact h.nodup_iff.2 (List.Pairwise.map (fun i:Nat=>(i:Int)) (fun a b hab e=>hab (by exact_mod_cast e)) List.nodup_range)
theorem deal_at {l:List Int} {n t:Nat} (h:l.Perm (EC n)) (ht:t<l.length):0≤l.getD t 0∧l.getD t 0<n:=by
  have h1:=h.mem_iff.1 (BD (xs:=l) (d:=0) ht);unfold EC at h1;obtain ⟨a,ha,e⟩:=List.mem_map.1 h1;have:=List.mem_range.1 ha;omega
def RowB (B:Int) (n:Nat) (r:List Int):Prop:=r.length=n∧∀ x∈r,0≤x∧x≤B
theorem RowB.set {B:Int} {n i:Nat} {r:List Int} {v:Int} (h:RowB B n r) (hv:0≤v∧v≤B):RowB B n (r.set i v):=⟨by rw [List.length_set];exact h.1,fun x hx=>by
  rcases List.mem_or_eq_of_mem_set hx with hx | rfl
  · exact h.2 x hx
  · exact hv⟩
theorem RowB.at {B:Int} {n i:Nat} {r:List Int} (h:RowB B n r) (hi:i<n):r.length=n∧0≤r.getD i 0∧r.getD i 0≤B:=⟨h.1,h.2 _ (BD (xs:=r) (d:=0) (by rw [h.1];exact hi))⟩
theorem RowsB.row {B:Int} {n p:Nat} {xss:List (List Int)} (h:RowsB B n xss) (hp:p<xss.length):RowB B n (xss.getD p []):=h _ (BD (xs:=xss) (d:=[]) hp)
theorem RowsB.put {B:Int} {n p:Nat} {xss:List (List Int)} {r:List Int} (h:RowsB B n xss) (hr:RowB B n r):RowsB B n (xss.set p r):=fun q hq=>by
  rcases List.mem_or_eq_of_mem_set hq with hq | rfl
  · exact h q hq
  · exact hr
theorem ix_yes {so:Bool} {k:Int} (h:(so||(cmp .eql k 3||cmp .eql k 6))=true) (hs:so=true→k=1∨k=4):k≠2:=by
  intro e;subst e;cases so
  · simp [cmp] at h
  · have:=hs rfl;omega
theorem ix_no {so:Bool} {k:Int} (h:(so||(cmp .eql k 3||cmp .eql k 6))=false):k≠3:=by
  intro e;subst e;cases so <;> simp [cmp] at h
theorem other_place {p r n:Nat} {f:Int} (hp:p<n) (hf:1≤f∧f≤n-1) (hr:(r:Int)=(p+f)%n):r≠p:=by
  intro e;subst e;have h1:((r:Int)+f)/n=0∨((r:Int)+f)/n=1:=by
    have h2:0≤((r:Int)+f)/n:=Int.ediv_nonneg (by omega) (by omega);have h3:((r:Int)+f)/n<2:=Int.ediv_lt_of_lt_mul (by omega) (by omega);omega
  have h4:=Int.emod_add_mul_ediv ((r:Int)+f) n;rcases h1 with h1 | h1 <;> rw [h1] at h4 <;> omega
theorem small_nums {P Q:Int} {dl:List Int} {i:Nat} {sl:List Slip} (h:SlipsOf P Q dl i sl) (hd:dl.Perm (EC 20)) (hi:i≤20):∀ s∈sl,s.num≤20:=fun s hs=>by
  obtain ⟨j,h1,h2⟩:=h.2.2.2 s hs;have h3:=hd.length_eq;rw [FC] at h3;have:=deal_at hd (t:=j) (by omega);omega
end Go.Sh
