/- A part of the proof of the laws of this seat. -/
import Derived.Test.YtgcemienebmdeaaGreatLinenMergedP4
import Derived.Test.YtgcemienebmdeaaGreatLinenMergedP2
import Derived.Test.YtgcemienebmdeaaGreatLinenMergedP3
set_option linter.unusedVariables false
set_option linter.unusedSimpArgs false
namespace Go.Proofs.YtgcemienebmdeaaGreat
open Go Go.Sl Go.Sh
set_option maxRecDepth 100000
def fidK (k:Int):Nat:=if k=1 then 117 else if k=2 then 118 else if k=3 then 119 else if k=4 then 120 else if k=5 then 121 else 122
theorem does_ct (I:Imm) (b:Nat) (b_1 b_2 b_3:Value) (b_r:Nat) (b_es:Array MapEntry) (b_cl:Nat) (L:Lin) (H:Hs) (s:Slip) (b_b:IsBook 134 I b b_1 b_2 b_3 b_r L) (b_is:MapH b_es b_cl H) (hH:Within 1000000 H) (ha:0≤s.amt∧s.amt≤50) (hk:1≤s.kind∧s.kind≤6):Ct Tryz.prog (fidK s.kind) #[vP b 0,.agg #[vI s.num,vI s.hour,vI s.kind,vI s.place,vI s.to,vI s.sort,.bool s.soil,vI s.amt]] I ([(b_r,Obj.map b_es b_cl)]) (fun v I' M'=>∃ b_et:Array MapEntry,∃ b_ct:Nat,v=.tuple #[]∧M'=[(b_r,Obj.map b_et b_ct)]∧MapH b_et b_ct (doSlip s H)):=by
 have e:s.kind=1∨s.kind=2∨s.kind=3∨s.kind=4∨s.kind=5∨s.kind=6:=by omega
 rcases e with e | e | e | e | e | e
 ·rw [doSlip_1 e,show fidK s.kind=117 by rw [e];rfl];exact bmove_ct I b b_1 b_2 b_3 b_r b_es b_cl L H s b_b b_is hH ha
 ·rw [doSlip_2 e,show fidK s.kind=118 by rw [e];rfl];exact buse_ct I b b_1 b_2 b_3 b_r b_es b_cl L H s b_b b_is hH ha
 ·rw [doSlip_3 e,show fidK s.kind=119 by rw [e];rfl];exact bwash_ct I b b_1 b_2 b_3 b_r b_es b_cl L H s b_b b_is hH ha
 ·rw [doSlip_4 e,show fidK s.kind=120 by rw [e];rfl];exact bcount_ct I b b_1 b_2 b_3 b_r b_es b_cl L H s b_b b_is hH ha
 ·rw [doSlip_5 e,show fidK s.kind=121 by rw [e];rfl];exact bbuy_ct I b b_1 b_2 b_3 b_r b_es b_cl L H s b_b b_is hH ha
 rw [doSlip_6 e,show fidK s.kind=122 by rw [e];rfl];exact bscrap_ct I b b_1 b_2 b_3 b_r b_es b_cl L H s b_b b_is hH ha
theorem fidK_ok (k:Int):CT Tryz.prog (fidK k)=true:=by
 unfold fidK
 repeat' split
 all_goals kernel_rfl
noncomputable def c_events1:=cod Tryz.f123
set_option maxHeartbeats 1000000 in
theorem HV (I0:Imm) (b b1 b2 m b_r:Nat) (b_1 b_2 b_3:Value) (des:Array MapEntry) (dcl:Nat) (L:Lin) (H:Hs) (b_b:IsBook 134 I0 b b_1 b_2 b_3 b_r L) (hb1:I0.blk b1=some (Obj.cells #[vP b 0] 98 (0,0))) (hb2:I0.blk b2=some (Obj.cells #[.map (some m)] 149 (0,0))) (hm:I0.blk m=some (Obj.map des dcl)) (hdes:MapIs encI des (fnTab fidK b)) (hgood:GoodS L.slips) (hw:Within 1000 H):IterP Tryz.prog 123 [vP b1 0,vP b2 0] encEv (evs H (AG AC L.slips)) (fun xs _ M=>EvR b_r H (AG AC L.slips) xs.length M) I0:=by
 intro _ L_ Cl Sp hmono hround I Mr M hI0 hR hCl;obtain ⟨c9,c8,rfl,g6⟩:=hR;replace b_b:=b_b.mono hI0;replace hb1:=hI0.blk _ _ hb1;replace hb2:=hI0.blk _ _ hb2;replace hm:=hI0.blk _ _ hm;obtain ⟨b9,e3,e5,c3⟩:=id b_b;obtain ⟨j7,j9,j8,k2,g5,rfl,k0,k1,k3,k4⟩:=id e3;obtain ⟨k5,k7,k6,l0,rfl,k8,k9,l1⟩:=id e5;obtain ⟨e6,e7,l2,l5,rfl,l3,l4,l6⟩:=id c3;refine frA (args:=[_,_,_]) (N:=72) Tryz.func123 (fun F=>?_);show Run _ _ (c_events1 []) _ _ [(0,_),(1,_),(2,_)] _ _;refine rmA (M':=((b_r,Obj.map c9 c8)::(M++F))) (rnm ?_);have n5:=hgood.sorted.len;refine rq ?_;refine rd 10 [(0,true),(1,true),(2,true),(3,true),(4,true),(9,true),(5,false),(6,true),(7,false),(8,true)] ((b_r,Obj.map c9 c8)::[]) (M++F) ?_;refine AD (dld 9 1 98 (vP b 0) rfl (AR hb1 rfl)) (ox 1 [(10,vP b 0)] ?_);refine AD (dfa 11 10 134 0 0 0 rfl) ?_;refine AD (dfa 12 11 26 4 4 0 rfl) ?_;refine AD (dld 13 12 24 (vS e6 L.slips.length e7) rfl (AR b9 rfl)) (ox 1 [(18,vI 0)] ?_);have i2:=byHour_ct I;refine HB (sc (some 14) (F:=((b_r,Obj.map c9 c8)::(M++F))) (i2 :) (PR _) (fun n8 I1 n7 b8 m8=>?_));obtain ⟨l9,l8⟩:=m8;rw [l9,l8];clear l9 l8;replace hb1:=b8.blk _ _ hb1;replace hb2:=b8.blk _ _ hb2;replace hm:=b8.blk _ _ hm;replace hCl:=hmono _ _ _ _ b8 hCl;replace b_b:=b_b.mono b8;replace b9:=b8.blk _ _ b9;replace c3:=c3.mono b8;refine CR (S':=(M++F)) (PR _) ?_;show OFP _ _ _ _ _ _ ((14,.agg #[.func (.func 150) #[] #[]])::_) _ _;refine ox 1 [(15,.func (.func 150) #[] #[])] ?_;have f0:=sorted_ct I1 _ _ c3 (by exact hgood.small) (by exact hgood.len);refine HB (sc (some 16) (F:=((b_r,Obj.map c9 c8)::(M++F))) (f0 :) (PR _) (fun n2 I9 m9 a7 i5=>?_));obtain ⟨n9,g4,f7,f3,g1⟩:=i5;rw [f7,f3];clear f7 f3;replace hb1:=a7.blk _ _ hb1;replace hb2:=a7.blk _ _ hb2;replace hm:=a7.blk _ _ hm;replace hCl:=hmono _ _ _ _ a7 hCl;replace b_b:=b_b.mono a7;replace b9:=a7.blk _ _ b9;obtain ⟨c6,c7,rfl,m0⟩:=g1.shape;refine CR (S':=(g4++(M++F))) PM ?_;show OFP _ _ _ _ _ _ ((16,vS c6 (AG AC L.slips).length c7)::_) _ _;refine ox 1 [(17,vI (↑((AG AC L.slips).length)))] ?_;refine HP (nm (nm (se (rb 0 ?_))));refine BS (B:=((b_r,Obj.map c9 c8)::(M++F))) AB g1 (by first | omega | (simp only [LS,LC,LN,LA,LK,LD] <;> omega) | decide) PM.symm (PR _) (fun j5 a8 e0=>?_);replace hb1:=a8.blk _ _ hb1;replace hb2:=a8.blk _ _ hb2;replace hm:=a8.blk _ _ hm;replace hCl:=hmono _ _ _ _ a8 hCl;replace b_b:=b_b.mono a8;replace b9:=a8.blk _ _ b9;obtain ⟨g9,h4,h0,h7,d9,h5,h6,c0⟩:=id e0;cases d9;refine rl (fun mz a w=>∃ J0:Imm,∃ k:Nat,∃ c2:Seg,∃ a3:Array MapEntry,∃ a2:Nat,(j5.le J0)∧(k≤(AG AC L.slips).length)∧(Cl ((evs H (AG AC L.slips)).take k) J0 c2)∧(MapH a3 a2 (aft H ((AG AC L.slips).take k)))∧SD 72 [(18,vI ↑k),(0,.func (.yield L_) #[] #[]),(1,vP b1 0),(2,vP b2 0),(16,vS c6 (AG AC L.slips).length c7),(17,vI (↑((AG AC L.slips).length)))] J0 ((b_r,Obj.map a3 a2)::(c2++F)) a w (mz=(AG AC L.slips).length-k)) ?_ ?_
 ·intro a w hS hD hW;exact ⟨_,j5,0,M,c9,c8,IR _,Nat.zero_le _,hCl,g6,hS.sub su,hD,hW,rfl⟩
 rintro mz a w ⟨J0,k,c2,a3,a2,hJ0,hk,hCl,a6,hS,hD,hW,rfl⟩
 refine AU hS hD hW ?_;replace hb1:=hJ0.blk _ _ hb1;replace hb2:=hJ0.blk _ _ hb2;replace hm:=hJ0.blk _ _ hm;replace b_b:=b_b.mono hJ0;replace b9:=hJ0.blk _ _ b9;replace c0:=c0.mono hJ0;refine rqr (sp 1 [(19,.bool (cmp .lss ↑k (↑((AG AC L.slips).length))))] (se (rq (rc 19 rfl (fun h1=>?_) (fun h1=>?_)))))
 ·
  have h8:=h1;have h1:=CI h1;refine AO (NX (rq (rb 1 (rqr (sd (di 20 8 k c0.addr) (sd (dln 21 20 28 (GX ((AG AC L.slips).getD k AB)) rfl (CE (vals:=DJ) (fun _=>rfl) c0 k (by omega))) (sS (sal 5 28 JK (fun a5=>(sS (ss 0 0 a5 (GX ((AG AC L.slips).getD k AB)) (GX ((AG AC L.slips).getD k AB)) (_::_::_) (cs:=[_,_,_,_,_,_,_,_]) rfl rfl (sn (sd (dnb 22 0 0 a5 (GX ((AG AC L.slips).getD k AB))) (sp 1 [(23,.agg #[vI (((AG AC L.slips).getD k AB).num),vI (((AG AC L.slips).getD k AB).hour),vI (((AG AC L.slips).getD k AB).kind),vI (((AG AC L.slips).getD k AB).place),vI (((AG AC L.slips).getD k AB).to),vI (((AG AC L.slips).getD k AB).sort),.bool (((AG AC L.slips).getD k AB).soil),vI (((AG AC L.slips).getD k AB).amt),vI 0,.bool false])] (sS (sal 6 102 #[vI 0,vI 0,vI 0,vI 0,vI 0,vI 0,.bool false,vI 0,vI 0,.bool false] (fun b4=>(sS (ss 0 0 b4 [vI (((AG AC L.slips).getD k AB).num),vI (((AG AC L.slips).getD k AB).hour),vI (((AG AC L.slips).getD k AB).kind),vI (((AG AC L.slips).getD k AB).place),vI (((AG AC L.slips).getD k AB).to),vI (((AG AC L.slips).getD k AB).sort),.bool (((AG AC L.slips).getD k AB).soil),vI (((AG AC L.slips).getD k AB).amt),vI 0,.bool false] [vI (((AG AC L.slips).getD k AB).num),vI (((AG AC L.slips).getD k AB).hour),vI (((AG AC L.slips).getD k AB).kind),vI (((AG AC L.slips).getD k AB).place),vI (((AG AC L.slips).getD k AB).to),vI (((AG AC L.slips).getD k AB).sort),.bool (((AG AC L.slips).getD k AB).soil),vI (((AG AC L.slips).getD k AB).amt),vI 0,.bool false] (_::_::_::_) (cs:=[_,_,_,_,_,_,_,_,_,_]) rfl rfl (se (rq ?_)))))))))))))))))))));refine DB (fun a w=>∃ gv:Int,((evOf (aft H ((AG AC L.slips).take k)) ((AG AC L.slips).getD k AB)).gap=gv)∧SE 72 [(0,.func (.yield L_) #[] #[]),(1,vP b1 0),(2,vP b2 0),(5,vP a5 0),(6,vP b4 0),(16,vS c6 (AG AC L.slips).length c7),(17,vI (↑((AG AC L.slips).length))),(18,vI ↑k)] J0 ((bX b4 #[vI (((AG AC L.slips).getD k AB).num),vI (((AG AC L.slips).getD k AB).hour),vI (((AG AC L.slips).getD k AB).kind),vI (((AG AC L.slips).getD k AB).place),vI (((AG AC L.slips).getD k AB).to),vI (((AG AC L.slips).getD k AB).sort),.bool (((AG AC L.slips).getD k AB).soil),vI (((AG AC L.slips).getD k AB).amt),vI gv,.bool false] 102)::(bX a5 (BK ((AG AC L.slips).getD k AB)) 28)::(b_r,Obj.map a3 a2)::(c2++F)) a w) ?_ ?_
  ·
   refine rqr (sp 1 [(24,vP a5 2)] (sd (dlb 25 1 2 a5 (vI (((AG AC L.slips).getD k AB).kind))) (sp 1 [(26,.bool (cmp .eql (((AG AC L.slips).getD k AB).kind) 4))] (se (rc 26 rfl (fun h2=>?_) (fun h2=>?_))))))
   ·
    have h9:=h2;have h2:=BG h2;refine rd0 14 (ox 1 [(27,vP a5 7)] ?_);refine AD (dlb 28 1 7 a5 (vI (((AG AC L.slips).getD k AB).amt))) ?_;refine AD (dld 29 1 98 (vP b 0) rfl (AR hb1 rfl)) (ox 1 [(30,vP b 0)] ?_);refine AD (dfa 31 30 134 1 5 0 rfl) ?_;refine AD (dld 32 31 132 (.map (some b_r)) rfl (AR b9 rfl)) (ox 1 [(33,vP a5 3)] ?_);refine AD (dlb 34 1 3 a5 (vI (((AG AC L.slips).getD k AB).place))) (ox 1 [(35,vP a5 5)] ?_);refine AD (dlb 36 1 5 a5 (vI (((AG AC L.slips).getD k AB).sort))) (ox 1 [(37,vP a5 6)] ?_);refine AD (dlb 38 1 6 a5 (.bool (((AG AC L.slips).getD k AB).soil))) (ox 1 [(39,.agg #[vI (((AG AC L.slips).getD k AB).place),vI (((AG AC L.slips).getD k AB).sort),.bool (((AG AC L.slips).getD k AB).soil)])] ?_);refine AD (HL (x:=(.tmp 32)) (y:=(.tmp 39)) (T:=132) (kt:=136) (et:=3) (k:=(⟨((AG AC L.slips).getD k AB).place,((AG AC L.slips).getD k AB).sort,((AG AC L.slips).getD k AB).soil⟩:HKey)) (z:=vI 0) (kvs:=intV (aft H ((AG AC L.slips).take k))) (d:=40) (ty:=3) (gd:=none) (by kernel_rfl) rfl (by kernel_rfl) (BD (by kernel_rfl) (by kernel_rfl)) rfl rfl (by kernel_rfl) (.inl (List.mem_of_getElem? (i:=2) rfl)) a6.1.1 (BQ (⟨((AG AC L.slips).getD k AB).place,((AG AC L.slips).getD k AB).sort,((AG AC L.slips).getD k AB).soil⟩:HKey) (aft H ((AG AC L.slips).take k)))) ?_;refine AY ?_;have i3:=hgood.sorted.ok _ (BA (k:=k) (d:=AB) (by omega));obtain ⟨⟨hgk1,hgk2⟩,⟨hgk3,hgk4⟩,hgk5⟩:=i3;have n6:=(hgood.sorted.within hw k) ⟨((AG AC L.slips).getD k AB).place,((AG AC L.slips).getD k AB).sort,((AG AC L.slips).getD k AB).soil⟩;refine sd (dsb 41 (((AG AC L.slips).getD k AB).amt) (DF (⟨((AG AC L.slips).getD k AB).place,((AG AC L.slips).getD k AB).sort,((AG AC L.slips).getD k AB).soil⟩:HKey) (aft H ((AG AC L.slips).take k)))) (sp 1 [(42,vP b4 8)] (sS (ss 0 8 b4 [vI ((((AG AC L.slips).getD k AB).amt)-(DF (⟨((AG AC L.slips).getD k AB).place,((AG AC L.slips).getD k AB).sort,((AG AC L.slips).getD k AB).soil⟩:HKey) (aft H ((AG AC L.slips).take k))))] [vI (((AG AC L.slips).getD k AB).num),vI (((AG AC L.slips).getD k AB).hour),vI (((AG AC L.slips).getD k AB).kind),vI (((AG AC L.slips).getD k AB).place),vI (((AG AC L.slips).getD k AB).to),vI (((AG AC L.slips).getD k AB).sort),.bool (((AG AC L.slips).getD k AB).soil),vI (((AG AC L.slips).getD k AB).amt),vI ((((AG AC L.slips).getD k AB).amt)-(DF (⟨((AG AC L.slips).getD k AB).place,((AG AC L.slips).getD k AB).sort,((AG AC L.slips).getD k AB).soil⟩:HKey) (aft H ((AG AC L.slips).take k)))),.bool false] (_::_::_::_) (cs:=[_,_,_,_,_,_,_,_,_,_]) rfl rfl (ee ?_))));exact AP (fun a w hS hD hW=>⟨((((AG AC L.slips).getD k AB).amt)-(DF (⟨((AG AC L.slips).getD k AB).place,((AG AC L.slips).getD k AB).sort,((AG AC L.slips).getD k AB).soil⟩:HKey) (aft H ((AG AC L.slips).take k)))),gap_t h2,hS.sub su,hD,hW⟩)
   have h9:=h2;have h2:=BN h2;refine AO ?_;exact AP (fun a w hS hD hW=>⟨(0),gap_f h2,hS.sub su,hD,hW⟩)
  rintro a w ⟨gv,m6,hS,hD,hW⟩
  refine AU hS hD hW ?_;refine rqr (sd (dld 43 1 98 (vP b 0) rfl (AR hb1 rfl)) ?_);have f1:=less_ct J0 b _ _ _ _ _ _ _ _ b_b a6;refine sS (sc (some 44) (F:=((bX b4 #[vI (((AG AC L.slips).getD k AB).num),vI (((AG AC L.slips).getD k AB).hour),vI (((AG AC L.slips).getD k AB).kind),vI (((AG AC L.slips).getD k AB).place),vI (((AG AC L.slips).getD k AB).to),vI (((AG AC L.slips).getD k AB).sort),.bool (((AG AC L.slips).getD k AB).soil),vI (((AG AC L.slips).getD k AB).amt),vI gv,.bool false] 102)::(bX a5 (BK ((AG AC L.slips).getD k AB)) 28)::(c2++F))) (f1 :) ((PC _ (PS _ _ _)).trans (PS _ _ _)) (fun n3 m1 n0 a9 i6=>?_));obtain ⟨c5,b6,b5,d0,f8,f4,j2,j3⟩:=i6;rw [f8,f4];clear f8 f4;replace hb1:=a9.blk _ _ hb1;replace hb2:=a9.blk _ _ hb2;replace hm:=a9.blk _ _ hm;replace b_b:=b_b.mono a9;replace b9:=a9.blk _ _ b9;replace hCl:=hmono _ _ _ _ a9 hCl;refine AW (M':=((b_r,Obj.map a3 a2)::(c5,Obj.map b6 b5)::(bX b4 #[vI (((AG AC L.slips).getD k AB).num),vI (((AG AC L.slips).getD k AB).hour),vI (((AG AC L.slips).getD k AB).kind),vI (((AG AC L.slips).getD k AB).place),vI (((AG AC L.slips).getD k AB).to),vI (((AG AC L.slips).getD k AB).sort),.bool (((AG AC L.slips).getD k AB).soil),vI (((AG AC L.slips).getD k AB).amt),vI gv,.bool false] 102)::(bX a5 (BK ((AG AC L.slips).getD k AB)) 28)::(c2++F))) (fun w h=>by simpa only [AA,CA,NA] using h) (nm ?_);refine sp 1 [(7,.map (some c5))] (se (rq ?_));have i3:=hgood.sorted.ok _ (BA (k:=k) (d:=AB) (by omega));obtain ⟨⟨hgk1,hgk2⟩,⟨hgk3,hgk4⟩,hgk5⟩:=i3;refine rr (sd (dld 45 2 149 (.map (some m)) rfl (AR hb2 rfl)) (sp 1 [(46,vP a5 2)] (sd (dlb 47 3 2 a5 (vI (((AG AC L.slips).getD k AB).kind))) (sd (HL (x:=(.tmp 45)) (y:=(.tmp 47)) (T:=149) (kt:=3) (et:=148) (k:=((AG AC L.slips).getD k AB).kind) (kvs:=fnTab fidK b) (z:=.nilFunc) (d:=48) (ty:=148) (gd:=none) (by kernel_rfl) rfl (by kernel_rfl) (IX (GU (by kernel_rfl))) rfl rfl (by kernel_rfl) (.inr hm) hdes (getKv_fn hgk1 hgk2)) (sd (dnb 49 3 0 a5 (GX ((AG AC L.slips).getD k AB))) (sS (stp_callB (d:=(some 50)) (f:=(.tmp 48)) (fid:=fidK ((AG AC L.slips).getD k AB).kind) (args:=#[(.tmp 49)]) (tys:=#[28]) (fs:=[vP b 0]) (cv:=[]) (F:=((c5,Obj.map b6 b5)::(bX b4 #[vI (((AG AC L.slips).getD k AB).num),vI (((AG AC L.slips).getD k AB).hour),vI (((AG AC L.slips).getD k AB).kind),vI (((AG AC L.slips).getD k AB).place),vI (((AG AC L.slips).getD k AB).to),vI (((AG AC L.slips).getD k AB).sort),.bool (((AG AC L.slips).getD k AB).soil),vI (((AG AC L.slips).getD k AB).amt),vI gv,.bool false] 102)::(bX a5 (BK ((AG AC L.slips).getD k AB)) 28)::(c2++F))) (ty:=0) (gd:=none) (by kernel_rfl) rfl rfl rfl (fidK_ok _) rfl (does_ct m1 b _ _ _ _ _ _ L (aft H ((AG AC L.slips).take k)) ((AG AC L.slips).getD k AB) b_b a6 ((hgood.sorted.within hw k).mono (by decide)) ⟨hgk3,hgk4⟩ ⟨hgk1,hgk2⟩) (PR _) (fun _ m2 _ b0 i7=>?_))))))));obtain ⟨d2,d1,rfl,rfl,d3⟩:=i7;replace hb1:=b0.blk _ _ hb1;replace hb2:=b0.blk _ _ hb2;replace hm:=b0.blk _ _ hm;replace b_b:=b_b.mono b0;replace b9:=b0.blk _ _ b9;replace hCl:=hmono _ _ _ _ b0 hCl;refine nm (se (rq (rqr ?_)));refine sd (dld 51 1 98 (vP b 0) rfl (AR hb1 rfl)) ?_;have f2:=less_ct m2 b _ _ _ _ _ _ _ _ b_b d3;refine sS (sc (some 52) (F:=((c5,Obj.map b6 b5)::(bX b4 #[vI (((AG AC L.slips).getD k AB).num),vI (((AG AC L.slips).getD k AB).hour),vI (((AG AC L.slips).getD k AB).kind),vI (((AG AC L.slips).getD k AB).place),vI (((AG AC L.slips).getD k AB).to),vI (((AG AC L.slips).getD k AB).sort),.bool (((AG AC L.slips).getD k AB).soil),vI (((AG AC L.slips).getD k AB).amt),vI gv,.bool false] 102)::(bX a5 (BK ((AG AC L.slips).getD k AB)) 28)::(c2++F))) (f2 :) (.refl _) (fun n4 m3 n1 b3 i8=>?_));obtain ⟨c1,b7,a1,g0,f9,f5,e1,j4⟩:=i8;rw [f9,f5];clear f9 f5;replace hb1:=b3.blk _ _ hb1;replace hb2:=b3.blk _ _ hb2;replace hm:=b3.blk _ _ hm;replace b9:=b3.blk _ _ b9;replace hCl:=hmono _ _ _ _ b3 hCl;refine AW (M':=((b_r,Obj.map d2 d1)::(c1,Obj.map b7 a1)::(c5,Obj.map b6 b5)::(bX b4 #[vI (((AG AC L.slips).getD k AB).num),vI (((AG AC L.slips).getD k AB).hour),vI (((AG AC L.slips).getD k AB).kind),vI (((AG AC L.slips).getD k AB).place),vI (((AG AC L.slips).getD k AB).to),vI (((AG AC L.slips).getD k AB).sort),.bool (((AG AC L.slips).getD k AB).soil),vI (((AG AC L.slips).getD k AB).amt),vI gv,.bool false] 102)::(bX a5 (BK ((AG AC L.slips).getD k AB)) 28)::(c2++F))) (fun w h=>by simpa only [AA,CA,NA] using h) (nm ?_);refine sS (stp_range (d:=53) (x:=(.tmp 52)) (T:=155) (kt:=136) (et:=4) (es:=b7) (cl:=a1) (ty:=0) (gd:=none) (by kernel_rfl) rfl (by kernel_rfl) rfl (.inl (List.mem_of_getElem? (i:=1) rfl)) (fun d7=>(se (rb 2 ?_))));refine rl (fun mz a w=>∃ dn:List HKey,∃ td:List HKey,∃ bl:Bool,∃ a4:Array Nat,((dn++td).Perm g0)∧((dn.any fun k=>!decide (k∈d0))=bl)∧(Go.Sl.Left MT b7 a4 (NF td))∧SD 72 [(0,.func (.yield L_) #[] #[]),(1,vP b1 0),(2,vP b2 0),(6,vP b4 0),(7,.map (some c5)),(16,vS c6 (AG AC L.slips).length c7),(17,vI (↑((AG AC L.slips).length))),(18,vI ↑k),(53,vP d7 0)] m3 ((d7,Obj.mapIter (some c1) a1 a4 a1)::(b_r,Obj.map d2 d1)::(c1,Obj.map b7 a1)::(c5,Obj.map b6 b5)::(bX b4 #[vI (((AG AC L.slips).getD k AB).num),vI (((AG AC L.slips).getD k AB).hour),vI (((AG AC L.slips).getD k AB).kind),vI (((AG AC L.slips).getD k AB).place),vI (((AG AC L.slips).getD k AB).to),vI (((AG AC L.slips).getD k AB).sort),.bool (((AG AC L.slips).getD k AB).soil),vI (((AG AC L.slips).getD k AB).amt),vI gv,.bool bl] 102)::(bX a5 (BK ((AG AC L.slips).getD k AB)) 28)::(c2++F)) a w (mz=td.length)) ?_ ?_
  ·intro a w hS hD hW;exact ⟨_,[],g0,false,#[],PR _,rfl,(Left.start e1.1),hS.sub su,hD,hW,rfl⟩
  rintro mz a w ⟨dn,td,bl,a4,i9,i1,d4,hS,hD,hW,rfl⟩
  refine AU hS hD hW ?_;refine rqr (sS (stp_nextK (d:=54) (x:=(.tmp 53)) (todo:=td) 0 (ty:=0) (gd:=none) (by kernel_rfl) rfl rfl rfl (.inl (List.mem_of_getElem? (i:=2) rfl)) e1.2 d4 (fun f6=>?_) (fun d5 a0 d6 g2 c4 d8 e9=>?_)))
  ·
   refine sp 1 [(55,.bool false)] (se (rq (rcf 55 rfl (BW 2 (EP (EP (EB (NX (rqr (sp 1 [(67,.func (.yield L_) #[] #[])] (sd (dnb 68 4 0 b4 [vI (((AG AC L.slips).getD k AB).num),vI (((AG AC L.slips).getD k AB).hour),vI (((AG AC L.slips).getD k AB).kind),vI (((AG AC L.slips).getD k AB).place),vI (((AG AC L.slips).getD k AB).to),vI (((AG AC L.slips).getD k AB).sort),.bool (((AG AC L.slips).getD k AB).soil),vI (((AG AC L.slips).getD k AB).amt),vI gv,.bool bl]) ?_)))))))))));have m4:=below_of j3 j4 i9 f6 d3.2;have m5:evOf (aft H ((AG AC L.slips).take k)) ((AG AC L.slips).getD k AB)=(⟨(AG AC L.slips).getD k AB,gv,bl⟩:Sh.Event):=evOf_mk m6 (m4.symm.trans i1);have j1:(evs H (AG AC L.slips)).take (k+1)=(evs H (AG AC L.slips)).take k++[(⟨(AG AC L.slips).getD k AB,gv,bl⟩:Sh.Event)]:=by rw [evs_take (by omega),m5]
   have j0:(evs H (AG AC L.slips)).take k++[(⟨(AG AC L.slips).getD k AB,gv,bl⟩:Sh.Event)] <+: (evs H (AG AC L.slips)):=by rw [← j1];exact List.take_prefix _ _
   have l7:((evs H (AG AC L.slips)).take k++[(⟨(AG AC L.slips).getD k AB,gv,bl⟩:Sh.Event)]).length=k+1:=by rw [← j1,LK,FU];omega
   have hRx:EvR b_r H (AG AC L.slips) ((evs H (AG AC L.slips)).take k++[(⟨(AG AC L.slips).getD k AB,gv,bl⟩:Sh.Event)]).length [(b_r,Obj.map d2 d1)]:=by rw [l7];exact ⟨_,_,rfl,by rw [aft_take (by omega)];exact d3⟩
   refine sS (stp_yield (d:=some 69) (f:=(.tmp 67)) (args:=#[(.tmp 68)]) (tys:=#[102]) (pre:=([(b_r,Obj.map d2 d1)]++c2)) (F:=((d7,Obj.mapIter (some c1) a1 a4 a1)::(c1,Obj.map b7 a1)::(c5,Obj.map b6 b5)::(bX b4 #[vI (((AG AC L.slips).getD k AB).num),vI (((AG AC L.slips).getD k AB).hour),vI (((AG AC L.slips).getD k AB).kind),vI (((AG AC L.slips).getD k AB).place),vI (((AG AC L.slips).getD k AB).to),vI (((AG AC L.slips).getD k AB).sort),.bool (((AG AC L.slips).getD k AB).soil),vI (((AG AC L.slips).getD k AB).amt),vI gv,.bool bl] 102)::(bX a5 (BK ((AG AC L.slips).getD k AB)) 28)::F)) (ty:=4) (gd:=none) (by kernel_rfl) rfl rfl rfl (hround ((evs H (AG AC L.slips)).take k) (⟨(AG AC L.slips).getD k AB,gv,bl⟩:Sh.Event) _ [(b_r,Obj.map d2 d1)] c2 j0 (IT (IT (IT (IT (IT (IT (IT hI0 b8) a7) a8) hJ0) a9) b0) b3) hRx hCl) (by simpa only [AA,CA,NA] using ((PS _ _ _).trans (PC _ (PU (PU (PU (PU PM.symm))))))) (fun yv IY MY hIY hYP=>?_));rcases hYP with ⟨rfl,Mr4,Mc4,rfl,q4,hCl4⟩ | ⟨rfl,hSp4⟩
   ·
    replace hb1:=hIY.blk _ _ hb1;replace hb2:=hIY.blk _ _ hb2;replace hm:=hIY.blk _ _ hm;replace b9:=hIY.blk _ _ b9;replace hCl:=hmono _ _ _ _ hIY hCl;replace hCl:=hCl4;rw [l7] at q4;obtain ⟨g8,g7,rfl,i4⟩:=q4;rw [← j1] at hCl;refine AW (M':=((b_r,Obj.map g8 g7)::(Mc4++(d7,Obj.mapIter (some c1) a1 a4 a1)::(c1,Obj.map b7 a1)::(c5,Obj.map b6 b5)::(bX b4 #[vI (((AG AC L.slips).getD k AB).num),vI (((AG AC L.slips).getD k AB).hour),vI (((AG AC L.slips).getD k AB).kind),vI (((AG AC L.slips).getD k AB).place),vI (((AG AC L.slips).getD k AB).to),vI (((AG AC L.slips).getD k AB).sort),.bool (((AG AC L.slips).getD k AB).soil),vI (((AG AC L.slips).getD k AB).amt),vI gv,.bool bl] 102)::(bX a5 (BK ((AG AC L.slips).getD k AB)) 28)::F))) (fun w h=>by simpa only [AA,CA,NA] using h) (pm (M':=((b_r,Obj.map g8 g7)::(d7,Obj.mapIter (some c1) a1 a4 a1)::(c1,Obj.map b7 a1)::(c5,Obj.map b6 b5)::(bX b4 #[vI (((AG AC L.slips).getD k AB).num),vI (((AG AC L.slips).getD k AB).hour),vI (((AG AC L.slips).getD k AB).kind),vI (((AG AC L.slips).getD k AB).place),vI (((AG AC L.slips).getD k AB).to),vI (((AG AC L.slips).getD k AB).sort),.bool (((AG AC L.slips).getD k AB).soil),vI (((AG AC L.slips).getD k AB).amt),vI gv,.bool bl] 102)::(bX a5 (BK ((AG AC L.slips).getD k AB)) 28)::(Mc4++F))) (PC _ (PW (PW (PW (PW PM))))) (sp 1 [(70,.bool (!(true)))] (se (rcf 70 rfl (AO (NB (NX (rr (sd (da 71 ↑k 1) (sp 1 [(18,vI (↑k+1))] (ee ?_)))))))))));refine AM ((AG AC L.slips).length-(k+1)) (by omega) ?_;intro a w hS hD hW;exact ⟨IY,k+1,Mc4,g8,g7,(IT (IT (IT (IT hJ0 a9) b0) b3) hIY),by omega,hCl,i4,hS.sub su,hD,(hW.perm ((PS _ _ _).trans (PC _ ((PS _ _ _).trans (PC _ ((PS _ _ _).trans (PC _ ((PS _ _ _).trans (PC _ (PS _ _ _)))))))))).sub (TC _ (TC _ (TC _ (TC _ (TC _ (TR _)))))),rfl⟩
   replace hb1:=hIY.blk _ _ hb1;replace hb2:=hIY.blk _ _ hb2;replace hm:=hIY.blk _ _ hm;replace b9:=hIY.blk _ _ b9;replace hCl:=hmono _ _ _ _ hIY hCl;refine AW (M':=(MY++(d7,Obj.mapIter (some c1) a1 a4 a1)::(c1,Obj.map b7 a1)::(c5,Obj.map b6 b5)::(bX b4 #[vI (((AG AC L.slips).getD k AB).num),vI (((AG AC L.slips).getD k AB).hour),vI (((AG AC L.slips).getD k AB).kind),vI (((AG AC L.slips).getD k AB).place),vI (((AG AC L.slips).getD k AB).to),vI (((AG AC L.slips).getD k AB).sort),.bool (((AG AC L.slips).getD k AB).soil),vI (((AG AC L.slips).getD k AB).amt),vI gv,.bool bl] 102)::(bX a5 (BK ((AG AC L.slips).getD k AB)) 28)::F)) (fun w h=>by simpa only [AA,CA,NA] using h) (pm (M':=((d7,Obj.mapIter (some c1) a1 a4 a1)::(c1,Obj.map b7 a1)::(c5,Obj.map b6 b5)::(bX b4 #[vI (((AG AC L.slips).getD k AB).num),vI (((AG AC L.slips).getD k AB).hour),vI (((AG AC L.slips).getD k AB).kind),vI (((AG AC L.slips).getD k AB).place),vI (((AG AC L.slips).getD k AB).to),vI (((AG AC L.slips).getD k AB).sort),.bool (((AG AC L.slips).getD k AB).soil),vI (((AG AC L.slips).getD k AB).amt),vI gv,.bool bl] 102)::(bX a5 (BK ((AG AC L.slips).getD k AB)) 28)::(MY++F))) (PW (PW (PW (PW PM)))) (sp 1 [(70,.bool (!(false)))] (se (rct 70 rfl (BC (RB (RP (RP (RB (ppm (M':=(MY++(d7,Obj.mapIter (some c1) a1 a4 a1)::(c1,Obj.map b7 a1)::(c5,Obj.map b6 b5)::(bX b4 #[vI (((AG AC L.slips).getD k AB).num),vI (((AG AC L.slips).getD k AB).hour),vI (((AG AC L.slips).getD k AB).kind),vI (((AG AC L.slips).getD k AB).place),vI (((AG AC L.slips).getD k AB).to),vI (((AG AC L.slips).getD k AB).sort),.bool (((AG AC L.slips).getD k AB).soil),vI (((AG AC L.slips).getD k AB).amt),vI gv,.bool bl] 102)::(bX a5 (BK ((AG AC L.slips).getD k AB)) 28)::F)) (PU (PU (PU (PU PM.symm)))) (pst_ret0 MY (by kernel_rfl) (TA (TC _ (TC _ (TC _ (TC _ (TC _ (TR _)))))) _) (IT (IT (IT (IT (IT (IT (IT b8 a7) a8) hJ0) a9) b0) b3) hIY) ?_)))))))))));exact .inr ⟨_,hSp4⟩
  show Seq _ _ _ _ _ _ ((54,.tuple #[.bool true,.agg #[vI a0.pl,vI a0.so,.bool a0.soil],.bool true])::_) _ _;refine nm ?_;refine sp 1 [(55,.bool true)] (se (rq (rct 55 rfl (AO (NX (rb 3 (rqr (sS (stp_entry (d:=56) (x:=(.tmp 53)) (enc:=MT) (y:=(a0,.bool true)) (ty:=0) (gd:=none) (by kernel_rfl) rfl rfl (List.mem_of_getElem? (i:=0) rfl) (.inl (List.mem_of_getElem? (i:=2) rfl)) e1.2 e9 ?_)))))))));show Seq _ _ _ _ _ _ ((56,.tuple #[.agg #[vI a0.pl,vI a0.so,.bool a0.soil],.bool true])::_) _ _;refine sp 1 [(57,.agg #[vI a0.pl,vI a0.so,.bool a0.soil])] (sS (sal 8 136 #[vI 0,vI 0,.bool false] (fun j6=>(sS (ss 0 0 j6 [vI a0.pl,vI a0.so,.bool a0.soil] [vI a0.pl,vI a0.so,.bool a0.soil] (_::_::_::_::_::_::_::_) (cs:=[_,_,_]) rfl rfl (se (rr (sp 1 [(58,vP b4 9)] (sd (dlb 59 5 9 b4 (.bool bl)) (sp 1 [(60,.bool bl)] ?_))))))))));refine BH 60 rfl (fun h3=>?_) (fun h3=>?_)
  ·
   have i0:=h3;refine sp 6 [(66,vP b4 9),(65,.bool true)] (sS (ss 5 9 b4 [.bool true] [vI (((AG AC L.slips).getD k AB).num),vI (((AG AC L.slips).getD k AB).hour),vI (((AG AC L.slips).getD k AB).kind),vI (((AG AC L.slips).getD k AB).place),vI (((AG AC L.slips).getD k AB).to),vI (((AG AC L.slips).getD k AB).sort),.bool (((AG AC L.slips).getD k AB).soil),vI (((AG AC L.slips).getD k AB).amt),vI gv,.bool true] (_::_::_::_::_::_::_::_) (cs:=[_,_,_,_,_,_,_,_,_,_]) rfl rfl (ee (NB ?_))));refine AM ((d5++d6).length) (tookK_len c4) ?_;intro a w hS hD hW;exact ⟨dn++[a0],d5++d6,_,g2,QP i9 c4,(by simp only [any_snoc,i1,h3,Bool.true_or,Bool.false_or]),d8,hS.sub su,hD,(hW.perm (PR _)).sub (TC _ (TR _)),rfl⟩
  have i0:=h3;refine sp 1 [(61,.map (some c5))] (sd (dnb 62 0 0 j6 [vI a0.pl,vI a0.so,.bool a0.soil]) (sd (HL (x:=(.tmp 61)) (y:=(.tmp 62)) (T:=155) (kt:=136) (et:=4) (k:=a0) (z:=.bool false) (kvs:=NF d0) (d:=63) (ty:=4) (gd:=(some (2,false))) (by kernel_rfl) (by kernel_rfl) (by kernel_rfl) (BD (by kernel_rfl) (by kernel_rfl)) rfl rfl (by kernel_rfl) (.inl (List.mem_of_getElem? (i:=4) rfl)) j2.1 (getKv_trues a0 d0)) (sp 3 [(66,vP b4 9),(65,.bool (!(decide (a0∈d0))))] (sS (ss 5 9 b4 [.bool (!(decide (a0∈d0)))] [vI (((AG AC L.slips).getD k AB).num),vI (((AG AC L.slips).getD k AB).hour),vI (((AG AC L.slips).getD k AB).kind),vI (((AG AC L.slips).getD k AB).place),vI (((AG AC L.slips).getD k AB).to),vI (((AG AC L.slips).getD k AB).sort),.bool (((AG AC L.slips).getD k AB).soil),vI (((AG AC L.slips).getD k AB).amt),vI gv,.bool (!(decide (a0∈d0)))] (_::_::_::_::_::_::_::_) (cs:=[_,_,_,_,_,_,_,_,_,_]) rfl rfl (ee (NB ?_)))))));refine AM ((d5++d6).length) (tookK_len c4) ?_;intro a w hS hD hW;exact ⟨dn++[a0],d5++d6,_,g2,QP i9 c4,(by simp only [any_snoc,i1,h3,Bool.true_or,Bool.false_or]),d8,hS.sub su,hD,(hW.perm (PR _)).sub (TC _ (TR _)),rfl⟩
 have h8:=h1;have h1:=CS h1;refine BW 0 (EP (EP (EB ?_)));refine EL ([(b_r,Obj.map a3 a2)]++(c2)) (by kernel_rfl) (by simp only [AA,NA,CA];exact (TK _ (TA (TR _) _))) (IT (IT (IT b8 a7) a8) hJ0) ?_;have m7:k=(AG AC L.slips).length:=by omega
 exact .inl ⟨[(b_r,Obj.map a3 a2)],c2,rfl,(show EvR b_r H (AG AC L.slips) (evs H (AG AC L.slips)).length _ from by rw [FU,← m7];exact ⟨_,_,rfl,a6⟩),(show (evs H (AG AC L.slips)).take k=(evs H (AG AC L.slips)) from List.take_of_length_le (by rw [FU];omega))▸hCl⟩
noncomputable def c_events:=cod Tryz.f69
theorem LZ (I:Imm) (b:Nat):Ct Tryz.prog 69 #[vP b 0] I ([]) (fun v I' M'=>∃ b1:Nat,∃ b2:Nat,∃ m:Nat,∃ des:Array MapEntry,∃ dcl:Nat,v=.func (.func 123) #[] #[vP b1 0,vP b2 0]∧M'=[]∧(I'.blk b1=some (Obj.cells #[vP b 0] 98 (0,0)))∧(I'.blk b2=some (Obj.cells #[.map (some m)] 149 (0,0)))∧(I'.blk m=some (Obj.map des dcl))∧(MapIs encI des (fnTab fidK b))):=by
 refine fr (args:=[_]) (N:=19) Tryz.func69 (fun F=>?_);show Run _ _ (c_events []) _ _ [(0,_)] _ _;refine rnm (rqr ?_);refine sS (sb 1 98 #[vP b 0] (fun b1=>(sp 1 [(2,.nilFunc)] (sn (sS (JF (d:=4) (T:=149) (ty:=149) (gd:=none) (by kernel_rfl) rfl (fun b3=>(sd (dlb 5 1 0 b1 (vP b 0)) (sp 1 [(6,.func (.func 117) #[vP b 0] #[])] (sS (IV (x:=(.tmp 4)) (y:=(.const (vI 1))) (u:=(.tmp 6)) (T:=149) (kt:=3) (et:=148) (k:=(1:Int)) (kvs:=[]) 0 (ty:=0) (gd:=none) (by kernel_rfl) rfl (by kernel_rfl) (IX (GU (by kernel_rfl))) rfl rfl rfl rfl (MapIs.nil encI) (fun c6 c1 b0=>(nm ?_)))))))))))));refine sd (dlb 7 1 0 b1 (vP b 0)) (sp 1 [(8,.func (.func 118) #[vP b 0] #[])] (sS (IV (x:=(.tmp 4)) (y:=(.const (vI 2))) (u:=(.tmp 8)) (T:=149) (kt:=3) (et:=148) (k:=(2:Int)) (kvs:=(upd (1:Int) (.func (.func 117) #[vP b 0] #[]) [])) 0 (ty:=0) (gd:=none) (by kernel_rfl) rfl (by kernel_rfl) (IX (GU (by kernel_rfl))) rfl rfl rfl rfl b0 (fun c7 c2 b4=>(nm ?_)))));refine sd (dlb 9 1 0 b1 (vP b 0)) (sp 1 [(10,.func (.func 119) #[vP b 0] #[])] (sS (IV (x:=(.tmp 4)) (y:=(.const (vI 3))) (u:=(.tmp 10)) (T:=149) (kt:=3) (et:=148) (k:=(3:Int)) (kvs:=(upd (2:Int) (.func (.func 118) #[vP b 0] #[]) (upd (1:Int) (.func (.func 117) #[vP b 0] #[]) []))) 0 (ty:=0) (gd:=none) (by kernel_rfl) rfl (by kernel_rfl) (IX (GU (by kernel_rfl))) rfl rfl rfl rfl b4 (fun c8 c3 b5=>(nm ?_)))));refine sd (dlb 11 1 0 b1 (vP b 0)) (sp 1 [(12,.func (.func 120) #[vP b 0] #[])] (sS (IV (x:=(.tmp 4)) (y:=(.const (vI 4))) (u:=(.tmp 12)) (T:=149) (kt:=3) (et:=148) (k:=(4:Int)) (kvs:=(upd (3:Int) (.func (.func 119) #[vP b 0] #[]) (upd (2:Int) (.func (.func 118) #[vP b 0] #[]) (upd (1:Int) (.func (.func 117) #[vP b 0] #[]) [])))) 0 (ty:=0) (gd:=none) (by kernel_rfl) rfl (by kernel_rfl) (IX (GU (by kernel_rfl))) rfl rfl rfl rfl b5 (fun c9 c4 b6=>(nm ?_)))));refine sd (dlb 13 1 0 b1 (vP b 0)) (sp 1 [(14,.func (.func 121) #[vP b 0] #[])] (sS (IV (x:=(.tmp 4)) (y:=(.const (vI 5))) (u:=(.tmp 14)) (T:=149) (kt:=3) (et:=148) (k:=(5:Int)) (kvs:=(upd (4:Int) (.func (.func 120) #[vP b 0] #[]) (upd (3:Int) (.func (.func 119) #[vP b 0] #[]) (upd (2:Int) (.func (.func 118) #[vP b 0] #[]) (upd (1:Int) (.func (.func 117) #[vP b 0] #[]) []))))) 0 (ty:=0) (gd:=none) (by kernel_rfl) rfl (by kernel_rfl) (IX (GU (by kernel_rfl))) rfl rfl rfl rfl b6 (fun d0 c5 b7=>(nm ?_)))));refine sd (dlb 15 1 0 b1 (vP b 0)) (sp 1 [(16,.func (.func 122) #[vP b 0] #[])] (sS (IV (x:=(.tmp 4)) (y:=(.const (vI 6))) (u:=(.tmp 16)) (T:=149) (kt:=3) (et:=148) (k:=(6:Int)) (kvs:=(upd (5:Int) (.func (.func 121) #[vP b 0] #[]) (upd (4:Int) (.func (.func 120) #[vP b 0] #[]) (upd (3:Int) (.func (.func 119) #[vP b 0] #[]) (upd (2:Int) (.func (.func 118) #[vP b 0] #[]) (upd (1:Int) (.func (.func 117) #[vP b 0] #[]) [])))))) 0 (ty:=0) (gd:=none) (by kernel_rfl) rfl (by kernel_rfl) (IX (GU (by kernel_rfl))) rfl rfl rfl rfl b7 (fun a4 a3 a6=>(nm ?_)))));refine sp 1 [(17,.map (some b3))] (sS (sal 3 149 #[.map none] (fun a8=>(sS (ss 0 0 a8 [.map (some b3)] [.map (some b3)] (_::_::_::_) (cs:=[_]) rfl rfl (se (rq ?_)))))));refine HF (b:=b1) (o:=Obj.cells #[vP b 0] 98 (0,0)) (M0:=((bX a8 #[.map (some b3)] 149)::(b3,Obj.map a4 a3)::F)) ((PC _ (PS _ _ _)).trans (PS _ _ _)) (fun b8 a7 a0=>?_);refine HF (b:=a8) (o:=Obj.cells #[.map (some b3)] 149 (0,0)) (M0:=((b3,Obj.map a4 a3)::F)) (PR _) (fun b9 a2 a5=>?_);replace a0:=a2.blk _ _ a0;refine HF (b:=b3) (o:=Obj.map a4 a3) (M0:=(F)) (PR _) (fun c0 a1 a9=>?_);replace a0:=a1.blk _ _ a0;replace a5:=a1.blk _ _ a5;refine rr (sp 2 [(2,.func (.func 123) #[] #[vP b1 0,vP a8 0])] (se (BC (rt1 2 rfl (IT (IT a7 a2) a1) ?_))));exact ⟨_,_,_,_,_,rfl,rfl,a0,a5,a9,fnTab_of (g:=fidK) a6⟩
noncomputable def c_at1:=cod Tryz.f144
theorem at1_ct (I:Imm) (x:Slip) (n:Int) (b:Nat) (hb:I.blk b=some (Obj.cells #[vI n] 3 (0,0))):CtV Tryz.prog 144 #[.agg #[vI x.num,vI x.hour,vI x.kind,vI x.place,vI x.to,vI x.sort,.bool x.soil,vI x.amt],vP b 0] I (.bool (decide (n<x.hour))):=by
 refine fr (args:=[_,_]) (N:=8) Tryz.func144 (fun F=>?_);show Run _ _ (c_at1 []) _ _ [(0,_),(1,_)] _ _;refine rnm (rqr ?_);refine sS (sb 2 28 (BK x) (fun b1=>(sp 1 [(3,.bool false)] (sn (sp 1 [(4,vP b1 1)] (sd (dlb 5 0 1 b1 (vI x.hour)) (sd (dld 6 1 3 (vI n) rfl (AR hb rfl)) (sp 2 [(3,.bool (cmp .gtr x.hour n))] (se (BC (FL 3 [] rfl (TC _ (TR _)) (IR _) ?_)))))))))));exact ⟨congrArg Value.bool (by simp only [cmp]),rfl⟩
noncomputable def c_at:=cod Tryz.f98
theorem at_ct (I:Imm) (l:Value) (L:Lin) (n:Int) (l_f:IsLin I l L) (hg:GoodL L):Ct Tryz.prog 98 #[l,vI n] I ([]) (fun v I' M'=>∃ u:Nat,∃ w1:Value,∃ w2:Value,∃ w3:Value,∃ r:Nat,∃ es:Array MapEntry,∃ cl:Nat,v=vP u 0∧M'=[(r,Obj.map es cl)]∧IsBook 134 I' u w1 w2 w3 r (atL L n)∧MapH es cl (atH L n)):=by
 obtain ⟨l1,l2,l3,rfl,a6,a7,e1⟩:=id l_f;obtain ⟨a2,a3,k1,k4,j5,rfl,k2,k3,k5,k6⟩:=id a6;obtain ⟨a4,a5,k7,l0,rfl,k8,k9,l4⟩:=id a7;obtain ⟨a9,b0,l5,l8,rfl,l6,l7,l9⟩:=id e1;refine IP (fn:=Tryz.f98) (args:=[_,_]) (N:=18) Tryz.func98 rfl (by kernel_rfl) (Nat.le_of_ble_eq_true rfl) (fun F=>?_);show Run _ _ (c_at []) _ _ [(0,_),(1,_)] _ _;refine rnm ?_;have n6:=hg.slips;have n7:(FD L n).length≤8:=Nat.le_trans (List.length_filter_le _ _) hg.slips;refine rqr (sS (sb 2 26 (AS L (vS a2 L.start.length a3) (vS a4 L.keeps.length a5) (vS a9 L.slips.length b0)) (fun b1=>(sS (sb 3 3 #[vI n] (fun b3=>(sp 1 [(4,.pointer none)] (sn (sp 1 [(6,vP b1 4)] (sd (dlb 7 1 4 b1 (vS a9 L.slips.length b0)) (sS (sc (some 8) (JL _ _ _ e1 (by omega) :) (.refl _) (fun m5 I5 m2 d3 k0=>?_)))))))))))));obtain ⟨n8,d1,j4,j3,e2⟩:=k0;rw [j4,j3];clear j4 j3;replace a6:=a6.mono d3;replace a7:=a7.mono d3;obtain ⟨e3,e4,rfl,j7⟩:=e2.shape;refine pm (M':=((bX b3 #[vI n] 3)::(bX b1 (AS L (vS a2 L.start.length a3) (vS a4 L.keeps.length a5) (vS a9 L.slips.length b0)) 26)::(d1++F))) (PW PM) ?_;refine SW (b:=b3) (o:=Obj.cells #[vI n] 3 (0,0)) (M0:=((bX b1 (AS L (vS a2 L.start.length a3) (vS a4 L.keeps.length a5) (vS a9 L.slips.length b0)) 26)::(d1++F))) (PR _) (fun j8 b8 a1=>?_);replace a6:=a6.mono b8;replace a7:=a7.mono b8;refine sp 1 [(9,.func (.func 144) #[] #[vP b3 0])] ?_;have j9:=DelSlip_ct j8 (vS e3 L.slips.length e4) L.slips d1 144 [vP b3 0] (fun x=>decide (n<x.hour)) e2 (by kernel_rfl) (fun J hJ x=>at1_ct J x n b3 (hJ.blk _ _ a1)) (by have:=hg.slips;omega);refine sS (JU (d:=some 10) (f:=(.func 138)) (fid:=138) (args:=#[(.tmp 8),(.tmp 9)]) (tys:=#[24,109]) (cv:=[]) (F:=((bX b1 (AS L (vS a2 L.start.length a3) (vS a4 L.keeps.length a5) (vS a9 L.slips.length b0)) 26)::F)) (ty:=24) (gd:=none) (by kernel_rfl) rfl rfl rfl (by kernel_rfl) rfl j9 PM.symm (fun m8 ID j6 c2 c3=>?_));replace c3:Own 28 8 AV m8 (FD L n) j6:=c3;replace a6:=a6.mono c2;replace a7:=a7.mono c2;replace a1:=c2.blk _ _ a1;obtain ⟨b2,b4,rfl,m9⟩:=c3.shape;refine pm (M':=((bX b1 (AS L (vS a2 L.start.length a3) (vS a4 L.keeps.length a5) (vS a9 L.slips.length b0)) 26)::(j6++F))) PM (sp 1 [(11,vP b1 4)] (sS (ss 0 4 b1 [vS b2 (FD L n).length b4] (CY L (vS a2 L.start.length a3) (vS a4 L.keeps.length a5) (vS b2 (FD L n).length b4)) (_::_) (cs:=[_,_,_,_,_]) rfl rfl (sn (sd (dnb 12 0 0 b1 (CY L (vS a2 L.start.length a3) (vS a4 L.keeps.length a5) (vS b2 (FD L n).length b4))) (sfz (A:=((bX b1 (AS L (vS a2 L.start.length a3) (vS a4 L.keeps.length a5) (vS b2 (FD L n).length b4)) 26)::F)) AB c3 PM.symm (fun n3 b5 b7=>?_)))))));replace a6:=a6.mono b5;replace a7:=a7.mono b5;replace a1:=b5.blk _ _ a1;obtain ⟨h4,h6,h5,h9,d2,h7,h8,i0⟩:=id b7;cases d2;refine sS (sc (some 13) (QN _ _ (⟨L.places,L.sorts,L.start,L.keeps,FD L n⟩:Lin) (CM a6 a7 b7) :) (.refl _) (fun m6 n4 m3 d0 i2=>?_));obtain ⟨e6,n0,n1,n2,d4,h2,h0,d9,d7,i7,i8⟩:=i2;rw [d9,d7];clear d9 d7;replace a1:=d0.blk _ _ a1;have a0:=i7;obtain ⟨a8,c5,c7,c9⟩:=id a0;obtain ⟨e8,f0,e9,f3,e7,rfl,f1,f2,f4,f5⟩:=id c5;obtain ⟨f6,f8,f7,g1,rfl,f9,g0,g2⟩:=id c7;obtain ⟨g3,g5,g4,g8,rfl,g6,g7,g9⟩:=id c9;refine nm ?_;refine sp 1 [(5,vP e6 0)] (se (rq (rqr (sp 1 [(14,vP e6 0)] (sS (sc (some 15) (LZ _ e6 :) (.refl _) (fun m7 n5 m4 b6 i3=>?_)))))));obtain ⟨d5,d6,m1,j2,j1,e0,d8,b9,c0,c1,i9⟩:=i3;rw [e0,d8];clear e0 d8;replace a1:=b6.blk _ _ a1;replace a0:=a0.mono b6;replace a8:=b6.blk _ _ a8;refine nm (se (rb 0 ?_))
 refine GH (α:=Sh.Event) (g:=(.tmp 15)) (ps:=#[16]) (assign:=c_at [1,1,1,0,1,0,0]) (body:=c_at [1,1,1,0,1,0,1]) (gf:=123) (cv:=[vP d5 0,vP d6 0]) (enc:=encEv) (seq:=(evs (EA (⟨L.places,L.sorts,L.start,L.keeps,FD L n⟩:Lin)) (AG AC (⟨L.places,L.sorts,L.start,L.keeps,FD L n⟩:Lin).slips))) (R:=fun xs _ M=>EvR d4 (EA (⟨L.places,L.sorts,L.start,L.keeps,FD L n⟩:Lin)) (AG AC (⟨L.places,L.sorts,L.start,L.keeps,FD L n⟩:Lin).slips) xs.length M) (Mr:=[(d4,Obj.map h2 h0)]) (M0:=([])) (F0:=((bX b1 (AS L (vS a2 L.start.length a3) (vS a4 L.keeps.length a5) (vS b2 (FD L n).length b4)) 26)::F))
  (fun _ _ M=>M=[]) (fun _ _ _ _=>False) (fun x k=>[(4,.pointer none)]) (fun x k=>[])
  (by kernel_rfl) rfl (by kernel_rfl) (fun _=>rfl) (by kernel_rfl) (HV _ e6 d5 d6 m1 d4 _ _ _ _ _ (⟨L.places,L.sorts,L.start,L.keeps,FD L n⟩:Lin) (EA (⟨L.places,L.sorts,L.start,L.keeps,FD L n⟩:Lin)) a0 b9 c0 c1 i9 (hg.goodS.to n) hg.within) (fun xs I J M _ h=>h) (PR _) ⟨_,_,rfl,i8⟩ rfl ?_ ?_ ?_ ?_
 ·intro Lq x I1 M1;refine OB (l':=[(4,.pointer none),(16,.agg (EM x))]) su (AO ?_);exact AP (fun a w hS hD hW=>⟨0,hS.sub su,hD,hW⟩)
 ·intro Lq x k xs I1 Mr1 M1 F1 hpre hle1 hR1 hC1;replace a1:=hle1.blk _ _ a1;replace a0:=a0.mono hle1;replace a8:=hle1.blk _ _ a8;replace b9:=hle1.blk _ _ b9;replace c0:=hle1.blk _ _ c0;replace c1:=hle1.blk _ _ c1;obtain rfl:=hC1;refine rmA (M':=(Mr1++F1)) (rnm (rb 1 (AO (NB ?_))));refine FJ (M':=(Mr1)) (IR _) ?_ (TR _);exact ⟨Mr1,[],(List.append_nil _).symm,hR1,rfl⟩
 ·intro D I2 Mr2 M2 hle2 hR2 hC2;replace a1:=hle2.blk _ _ a1;replace a0:=a0.mono hle2;replace a8:=hle2.blk _ _ a8;replace b9:=hle2.blk _ _ b9;replace c0:=hle2.blk _ _ c0;replace c1:=hle2.blk _ _ c1;obtain rfl:=hC2;obtain ⟨h3,h1,rfl,i1⟩:=EvR.full hR2 FU;refine KB (M':=((D,Obj.deferred (some []))::(d4,Obj.map h3 h1)::(bX b1 (AS L (vS a2 L.start.length a3) (vS a4 L.keeps.length a5) (vS b2 (FD L n).length b4)) 26)::F)) (fun w h=>by simpa only [AA,CA,NA] using h) (NB (NX (rqr (sp 2 [(4,vP e6 0)] (se (BC ?_))))));refine DS (R:=((d4,Obj.map h3 h1)::(bX b1 (AS L (vS a2 L.start.length a3) (vS a4 L.keeps.length a5) (vS b2 (FD L n).length b4)) 26)::F)) [D] (.inl rfl) (PR _) (FL 4 ([(d4,Obj.map h3 h1)]) rfl (TK _ (TC _ (TR _))) (IT (IT (IT (IT (IT (IT d3 b8) c2) b5) d0) b6) hle2) ?_);exact ⟨_,_,_,_,_,_,_,rfl,rfl,a0,i1⟩
 intro D c xs I2 M2 hle2 hS2;exact hS2.elim
noncomputable def c_CloneKeep:=cod Tryz.f142
theorem CloneKeep_ct (I:Imm) (z:Value) (xs:List Keep) (z_f:FR I z xs) (hl:xs.length≤1000000):Ct Tryz.prog 142 #[z] I ([]) (fun v I' M'=>∃ u:Value,∃ Ms:Seg,v=u∧M'=Ms∧Own 50 3 HS u xs Ms):=by
 obtain ⟨a2,a3,b3,b6,rfl,b4,b5,b0⟩:=id z_f;refine fr (args:=[_]) (N:=8) Tryz.func142 (fun F=>?_);show Run _ _ (c_CloneKeep []) _ _ [(0,_)] _ _;refine rnm (rqr ?_);refine sp 1 [(2,vN)] (se (rq (rqr (sp 1 [(3,vS a2 xs.length a3)] (sd (OM (e:=50) (x:=(.tmp 3)) (y:=(.const vN)) (T:=23) (T':=23) (d:=4) (ty:=4) (gd:=none) (by kernel_rfl) rfl (by kernel_rfl) rfl rfl) (se (rc 4 rfl (fun h1=>?_) (fun h1=>?_))))))))
 ·
  have a0:=h1;refine rqr (sp 1 [(2,vN)] (se (BC (RP ?_))));obtain rfl:=b0.nil h1;refine MX (t:=2) ([]) (by kernel_rfl) rfl (TR _) (IR _) ?_;exact ⟨_,_,rfl,rfl,Own.nil _ _ _⟩
 have a0:=h1;refine AO (NX (rqr (sS (sbs 5 50 0 #[] (fun b1=>(sp 1 [(6,vS a2 xs.length a3)] ?_))))));have a5:Own 50 3 HS (vS (some ⟨b1,0,none⟩) 0 0) ([]:List Keep) [(bX b1 #[] 50)]:=Own.lit rfl rfl;refine sS (sap (d:=7) 5 6 23 50 3 24 (.agg #[vI 0,vI 0,vI 0]) HS ([]:List Keep) xs [(bX b1 #[] 50)] rfl rfl a5 (PR _) (ML _) z_f.src (fun v4 a4 a1=>?_));rw [NA] at a1;refine nm ?_;obtain ⟨a6,a7,rfl,b2⟩:=a1.shape;refine sp 1 [(2,vS a6 xs.length a7)] (se (BC (FL 2 a4 rfl (TA (TR _) _) (IR _) ?_)));exact ⟨_,_,rfl,rfl,a1⟩
noncomputable def c_copied:=cod Tryz.f93
theorem copied_ct (I:Imm) (l:Value) (L:Lin) (l_f:IsLin I l L) (hg:GoodL L):Ct Tryz.prog 93 #[l] I ([]) (fun v I' M'=>∃ u1:Value,∃ u2:Value,∃ u3:Value,∃ Ms:Seg,v=.agg #[vI (L).places,vI (L).sorts,u1,u2,u3]∧M'=Ms∧IsRows I' u1 (L).start∧FR I' u2 (L).keeps∧Own 28 8 AV u3 (L).slips Ms):=by
 obtain ⟨l1,l2,l3,rfl,k1,c1,b6⟩:=id l_f;obtain ⟨c7,c8,l6,l9,k6,rfl,l7,l8,d5,e1⟩:=id k1;obtain ⟨a8,a9,m0,m3,rfl,m1,m2,m4⟩:=id c1;obtain ⟨a5,a6,m5,m8,rfl,m6,m7,m9⟩:=id b6;refine fr (args:=[_]) (N:=32) Tryz.func93 (fun F=>?_);show Run _ _ (c_copied []) _ _ [(0,_)] _ _;refine rnm ?_;have o7:=hg.places;have o8:=hg.start;have o9:=hg.keeps;have p0:=hg.slips;refine rqr (sS (sb 1 26 (AS L (vS c7 L.start.length c8) (vS a8 L.keeps.length a9) (vS a5 L.slips.length a6)) (fun b1=>(sS (sal 2 26 AN (fun b3=>(sn (sp 1 [(6,vP b1 2)] (sd (dlb 7 1 2 b1 (vS c7 L.start.length c8)) (sp 1 [(3,vS c7 L.start.length c8)] (sn (sp 1 [(8,vP b1 2)] (sS (ss 1 2 b1 [vN] (CY L vN (vS a8 L.keeps.length a9) (vS a5 L.slips.length a6)) (_::_::_) (cs:=[_,_,_,_,_]) rfl rfl (se (rq (rqr (sp 3 [(11,vI 0),(10,vI (↑(L.start.length))),(9,vS c7 L.start.length c8)] (se (rb 0 ?_))))))))))))))))))));refine rl (fun mz a w=>∃ J0:Imm,∃ k:Nat,∃ c0:Value,∃ a4:Seg,∃ a0:List Value,(I.le J0)∧(k≤L.start.length)∧(RowsV J0 a0 (L.start.take k))∧(Own 29 1 DL c0 a0 a4)∧SD 32 [(11,vI ↑k),(1,vP b1 0),(2,vP b3 0),(9,vS c7 L.start.length c8),(10,vI (↑(L.start.length)))] J0 ((bX b3 AN 26)::(bX b1 (AS L c0 (vS a8 L.keeps.length a9) (vS a5 L.slips.length a6)) 26)::(a4++F)) a w (mz=L.start.length-k)) ?_ ?_
 ·intro a w hS hD hW;exact ⟨_,I,0,(vN),[],[],IR _,Nat.zero_le _,(RowsV.nil _),(Own.nil _ _ _),hS.sub su,hD,hW,rfl⟩
 rintro mz a w ⟨J0,k,c0,a4,a0,hJ0,hk,a3,b9,hS,hD,hW,rfl⟩
 refine AU hS hD hW ?_;replace d5:=d5.mono hJ0;replace e1:=fun i hi=>(e1 i hi).mono hJ0
 replace c1:=c1.mono hJ0;replace b6:=b6.mono hJ0;obtain ⟨a1,a2,rfl,e4⟩:=b9.shape;have c3:=a3.1
 try simp only [LS,LA,LC,LN,LK] at c3
 refine rqr (sp 1 [(12,.bool (cmp .lss ↑k (↑(L.start.length))))] (se (rq (rc 12 rfl (fun h1=>?_) (fun h1=>?_)))))
 ·
  have j7:=h1;have h1:=CI h1;refine AO (NX (rq (rb 1 (rqr (sd (di 13 1 k d5.addr) ?_)))));have e5:=e1 k (by omega);obtain ⟨f8,f9,n2,n5,g0,n3,n4,n6⟩:=id e5;rw [g0] at e5;refine sd (EU (dl 14 (HT d5 k (by omega))) g0) (sp 1 [(5,vS f8 (L.start.getD k []).length f9)] (se ?_));refine rd 5 [(0,true),(1,true),(2,true),(3,false),(4,false)] ((bX b3 AN 26)::(bX b1 (AS L (vS a1 a0.length a2) (vS a8 L.keeps.length a9) (vS a5 L.slips.length a6)) 26)::[]) (a4++F) (ox 1 [(15,vP b1 2)] ?_);refine AD (dlb 16 1 2 b1 (vS a1 a0.length a2)) (ox 1 [(17,vS f8 (L.start.getD k []).length f9)] ?_);refine SU (sc (some 18) (F:=((bX b3 AN 26)::(bX b1 (AS L (vS a1 a0.length a2) (vS a8 L.keeps.length a9) (vS a5 L.slips.length a6)) 26)::(a4++F))) (QZ _ _ _ e5 (by have hq:=hg.rows _ (BA (xs:=L.start) (d:=[]) (k:=k) (by omega));have p1:=hg.sorts;omega) :) (PR _) (fun o0 I6 n7 d4 l5=>?_));obtain ⟨p2,g5,k5,e8,f5⟩:=l5;rw [k5,e8];clear k5 e8;replace c1:=c1.mono d4;replace b6:=b6.mono d4;replace a3:=a3.mono d4;obtain ⟨b7,b8,rfl,k7⟩:=f5.shape;refine RK (M':=(g5++(bX b3 AN 26)::(bX b1 (AS L (vS a1 a0.length a2) (vS a8 L.keeps.length a9) (vS a5 L.slips.length a6)) 26)::(a4++F))) (fun w h=>by simpa only [AA,CA,NA] using h) ?_;refine HY (B:=((bX b3 AN 26)::(bX b1 (AS L (vS a1 a0.length a2) (vS a8 L.keeps.length a9) (vS a5 L.slips.length a6)) 26)::(a4++F))) 0 f5 (by first | omega | (simp only [LS,LC,LN,LA,LK,LD] <;> omega) | decide) (PR _) (PR _) (fun l0 c5 c9=>?_);replace c1:=c1.mono c5;replace b6:=b6.mono c5;replace a3:=a3.mono c5;obtain ⟨h6,h8,h7,i1,d8,h9,i0,i2⟩:=id c9;cases d8;refine MC ?_;refine CR (S':=(a4++F)) (PR _) ?_;show OFP _ _ _ _ _ _ ((18,vS b7 (L.start.getD k []).length b8)::_) _ _;refine HB (sbs 19 29 1 #[vS b7 (L.start.getD k []).length b8] (fun l4=>?_));refine CR (S':=((bX l4 #[vS b7 (L.start.getD k []).length b8] 29)::(a4++F))) ((PS _ _ _).trans (PC _ (PS _ _ _))) ?_;refine HP (nm (nm ?_));refine sS (IU (d:=20) (x:=(.tmp 16)) (y:=(.tmp 19)) (T:=22) (T':=22) (E:=29) (E':=29) (sz:=1) (bs:=24) (z:=vN) (cell:=DL) (xs:=a0) (ys:=[(vS b7 (L.start.getD k []).length b8:Value)]) (Ms:=a4) (ty:=22) (gd:=none) (by kernel_rfl) rfl (by kernel_rfl) (by kernel_rfl) (by kernel_rfl) (by kernel_rfl) (by kernel_rfl) (by decide) (by kernel_rfl) rfl rfl b9 (PU (PU PM.symm)) (JD rfl) (DD 2 rfl rfl) (by first | omega | (have hq:=a3.1;simp only [LC,LN,LA,LK,LD] at hq ⊢;omega)) (fun p5 e6 f1=>(AW (M':=((bX b3 AN 26)::(bX b1 (AS L (vS a1 a0.length a2) (vS a8 L.keeps.length a9) (vS a5 L.slips.length a6)) 26)::(e6++F))) (fun w h=>(h.perm (((PA _ ((PC _ (PS _ _ _)).trans (PS _ _ _))).trans PM).trans (PC _ (PW PM)))).sub (TC _ (TR _))) ?_)));obtain ⟨e2,e3,rfl,n1⟩:=f1.shape;have f4:=(a3).snoc c9;refine sp 1 [(21,vP b1 2)] (sS (ss 1 2 b1 [vS e2 (a0++([(vS b7 (L.start.getD k []).length b8:Value)])).length e3] (CY L (vS e2 (a0++([(vS b7 (L.start.getD k []).length b8:Value)])).length e3) (vS a8 L.keeps.length a9) (vS a5 L.slips.length a6)) (_::_::_) (cs:=[_,_,_,_,_]) rfl rfl (ee (NB (NX (rr (sd (da 22 ↑k 1) (sp 1 [(11,vI (↑k+1))] (ee ?_)))))))));refine AM (L.start.length-(k+1)) (by omega) ?_;intro a w hS hD hW;exact ⟨l0,k+1,vS e2 (a0++([(vS b7 (L.start.getD k []).length b8:Value)])).length e3,e6,a0++([(vS b7 (L.start.getD k []).length b8:Value)]),(IT (IT hJ0 d4) c5),by omega,((BT (d:=[]) (xs:=L.start) (k:=k) (by omega)).symm▸f4),f1,hS.sub su,hD,hW,rfl⟩
 have j7:=h1;have h1:=CS h1;refine BW 0 (EP (EP (EB (NX (rq ?_)))));refine BS (B:=((bX b3 AN 26)::(bX b1 (AS L (vS a1 a0.length a2) (vS a8 L.keeps.length a9) (vS a5 L.slips.length a6)) 26)::F)) undef b9 (by first | omega | (simp only [LS,LC,LN,LA,LK,LD] <;> omega) | decide) (PU PM.symm) (PR _) (fun o3 c6 d0=>?_);replace c1:=c1.mono c6;replace b6:=b6.mono c6;replace a3:=a3.mono c6;obtain ⟨i3,i5,i4,i8,d9,i6,i7,i9⟩:=id d0;cases d9;have a7:=a3.isRows d0;have e7:=a3.1;obtain ⟨g7,g9,g8,h3,g4,d7,h0,h2,h4,h5⟩:=id a7
 injection d7 with fr26_e1 fr26_e2 fr26_e3;subst fr26_e1;subst fr26_e3
 refine rd 7 [(0,true),(1,true),(3,true),(4,true),(2,false),(6,true),(5,false)] ((bX b3 AN 26)::(bX b1 (AS L (vS a1 a0.length a2) (vS a8 L.keeps.length a9) (vS a5 L.slips.length a6)) 26)::[]) F (ox 1 [(23,vP b1 3)] ?_);refine AD (dlb 24 1 3 b1 (vS a8 L.keeps.length a9)) (ox 1 [(26,vP b1 4)] ?_);refine AD (dlb 27 1 4 b1 (vS a5 L.slips.length a6)) ?_;refine SU (sc (some 25) (F:=((bX b3 AN 26)::(bX b1 (AS L (vS a1 a0.length a2) (vS a8 L.keeps.length a9) (vS a5 L.slips.length a6)) 26)::F)) (CloneKeep_ct _ _ _ c1 (by omega) :) (PR _) (fun o1 o4 n8 d1 j8=>?_));obtain ⟨p3,g6,f2,e9,f6⟩:=j8;rw [f2,e9];clear f2 e9;replace b6:=b6.mono d1;replace a7:=a7.mono d1;obtain ⟨b0,b2,rfl,k8⟩:=f6.shape;refine RK (M':=(g6++(bX b3 AN 26)::(bX b1 (AS L (vS a1 a0.length a2) (vS a8 L.keeps.length a9) (vS a5 L.slips.length a6)) 26)::F)) (fun w h=>by simpa only [AA,CA,NA] using h) ?_;refine HY (B:=((bX b3 AN 26)::(bX b1 (AS L (vS a1 a0.length a2) (vS a8 L.keeps.length a9) (vS a5 L.slips.length a6)) 26)::F)) AQ f6 (by first | omega | (simp only [LS,LC,LN,LA,LK,LD] <;> omega) | decide) (PR _) (PR _) (fun o5 d2 c2=>?_);replace b6:=b6.mono d2;replace a7:=a7.mono d2;obtain ⟨j0,j2,j1,j5,e0,j3,j4,j6⟩:=id c2;cases e0;refine MC ?_;refine CR (S':=(F)) (PR _) ?_;show OFP _ _ _ _ _ _ ((25,vS b0 L.keeps.length b2)::_) _ _;refine ox 1 [(29,vP b1 3)] ?_;refine HB (sc (some 28) (F:=((bX b3 AN 26)::(bX b1 (AS L (vS a1 a0.length a2) (vS a8 L.keeps.length a9) (vS a5 L.slips.length a6)) 26)::F)) (JL _ _ _ b6 (by omega) :) (PR _) (fun o2 o6 n9 d3 j9=>?_));obtain ⟨p4,d6,f3,f0,f7⟩:=j9;rw [f3,f0];clear f3 f0;replace a7:=a7.mono d3;replace c2:=c2.mono d3;obtain ⟨b4,b5,rfl,k9⟩:=f7.shape;refine CR (S':=(d6++F)) (PW PM) ?_;show OFP _ _ _ _ _ _ ((28,vS b4 L.slips.length b5)::_) _ _;refine HP (nm (nm ?_));refine sS (ss 1 3 b1 [vS b0 L.keeps.length b2] (CY L (vS a1 a0.length a2) (vS b0 L.keeps.length b2) (vS a5 L.slips.length a6)) (_::_::_) (cs:=[_,_,_,_,_]) rfl rfl (sp 1 [(30,vP b1 4)] (sS (ss 1 4 b1 [vS b4 L.slips.length b5] (CY L (vS a1 a0.length a2) (vS b0 L.keeps.length b2) (vS b4 L.slips.length b5)) (_::_::_) (cs:=[_,_,_,_,_]) rfl rfl (sn (sd (dnb 31 1 0 b1 (CY L (vS a1 a0.length a2) (vS b0 L.keeps.length b2) (vS b4 L.slips.length b5))) (sS (ss 0 0 b3 (CY L (vS a1 a0.length a2) (vS b0 L.keeps.length b2) (vS b4 L.slips.length b5)) (CY L (vS a1 a0.length a2) (vS b0 L.keeps.length b2) (vS b4 L.slips.length b5)) (_::_::_) (cs:=[_,_,_,_,_]) rfl rfl (se (BC (ppm (M':=(d6++(bX b3 (AS L (vS a1 a0.length a2) (vS b0 L.keeps.length b2) (vS b4 L.slips.length b5)) 26)::(bX b1 (AS L (vS a1 a0.length a2) (vS b0 L.keeps.length b2) (vS b4 L.slips.length b5)) 26)::F)) (PU PM.symm) (GG (t:=2) (T:=26) (n:=5) d6 (by kernel_rfl) rfl (by kernel_rfl) rfl (GI (n:=5) (cs:=(AS L (vS a1 a0.length a2) (vS b0 L.keeps.length b2) (vS b4 L.slips.length b5))) (b:=b3) (off:=0) (T:=26) (fz:=(0,0)) (vs:=(CY L (vS a1 a0.length a2) (vS b0 L.keeps.length b2) (vS b4 L.slips.length b5))) (by simp) rfl) (.inl ⟨by kernel_rfl,rfl⟩) (TA (TC _ (TC _ (TR _))) _) (IT (IT (IT (IT hJ0 c6) d1) d2) d3) ?_))))))))))));exact ⟨_,_,_,_,rfl,rfl,((JG (xs:=L.start) (k:=k) (by omega))▸a7),c2,f7⟩
noncomputable def c_Merge:=cod Tryz.f58
set_option maxHeartbeats 1000000 in
theorem Merge_ct (I:Imm) (l:Value) (A:Lin) (m:Value) (B:Lin) (l_f:IsLin I l A) (m_f:IsLin I m B) (hlo:Lone I):CtB Tryz.prog 58 #[l,m] I ([]) (fun v I' M'=>∃ u0:Value,v=.tuple #[u0,vI ((AH A B).2)]∧M'=[]∧IsLin I' u0 ((AH A B).1)):=by
 obtain ⟨l1,l2,l3,rfl,d9,e0,c8⟩:=id l_f;obtain ⟨b4,b6,n3,n6,n1,rfl,n4,n5,n7,n8⟩:=id d9;obtain ⟨b8,b9,n9,o2,rfl,o0,o1,o3⟩:=id e0;obtain ⟨b0,b2,o4,o7,rfl,o5,o6,d1⟩:=id c8;obtain ⟨m1,m2,m3,rfl,e7,e8,g9⟩:=id m_f;obtain ⟨c3,c4,o9,p2,n2,rfl,p0,p1,p3,p4⟩:=id e7;obtain ⟨c5,c6,p5,p8,rfl,p6,p7,p9⟩:=id e8;obtain ⟨c0,c1,q0,q3,rfl,q1,q2,d4⟩:=id g9;refine frB (args:=[_,_]) (N:=88) Tryz.func58 (fun F=>?_);show Run _ _ (c_Merge []) _ _ [(0,_),(1,_)] _ _;refine rnm (rqr ?_);refine sS (sb 2 26 (AS A (vS b4 A.start.length b6) (vS b8 A.keeps.length b9) (vS b0 A.slips.length b2)) (fun b1=>(sS (sb 3 26 (AS B (vS c3 B.start.length c4) (vS c5 B.keeps.length c6) (vS c0 B.slips.length c1)) (fun b3=>(sS (sal 4 26 AN (fun b5=>(sp 1 [(5,vI 0)] (se (rq (rqr (sd (dnb 11 2 0 b1 (CY A (vS b4 A.start.length b6) (vS b8 A.keeps.length b9) (vS b0 A.slips.length b2))) (sd (dnb 12 1 0 b3 (CY B (vS c3 B.start.length c4) (vS c5 B.keeps.length c6) (vS c0 B.slips.length c1))) (sS (sbs 13 26 2 #[vI A.places,vI A.sorts,vS b4 A.start.length b6,vS b8 A.keeps.length b9,vS b0 A.slips.length b2,vI B.places,vI B.sorts,vS c3 B.start.length c4,vS c5 B.keeps.length c6,vS c0 B.slips.length c1] (fun b7=>(sS (scH (some 14) (F:=((bX b5 AN 26)::(bX b3 (AS B (vS c3 B.start.length c4) (vS c5 B.keeps.length c6) (vS c0 B.slips.length c1)) 26)::(bX b1 (AS A (vS b4 A.start.length b6) (vS b8 A.keeps.length b9) (vS b0 A.slips.length b2)) 26)::F)) (checkAll_ct I b7 A B _ _ _ _ _ _ d9 e0 c8 e7 e8 g9 hlo.gh hlo.pub :) (.refl _) (fun q9 I9 q6 a7 j8=>?_))))))))))))))))))));obtain ⟨g6,g2⟩:=j8;rw [g6,g2];clear g6 g2;replace d9:=d9.mono a7;replace e0:=e0.mono a7;replace c8:=c8.mono a7;replace d1:=d1.mono a7;replace e7:=e7.mono a7;replace e8:=e8.mono a7;replace d4:=d4.mono a7;replace hlo:=hlo.mono a7;refine nm ?_;show Seq _ _ _ _ _ _ ((14,vI (if AJ A=0 then AJ B else AJ A))::_) _ _;refine BM 14 rfl (show (vI (if AJ A=0 then AJ B else AJ A):Value)=vI (HJ A B) from congrArg (Value.int .i64) rfl) (sp 1 [(6,vI (HJ A B))] (sn (sp 2 [(16,.bool (!(cmp .eql (HJ A B) 0)))] (se (rc 16 rfl (fun h1=>?_) (fun h1=>?_))))))
 ·
  have j1:=h1;have h1:=BN (BP h1);refine rqr (sp 2 [(18,vI (HJ A B)),(17,.agg AN)] (sS (ss 0 0 b5 SL SL (_::_::_::_) (cs:=[_,_,_,_,_]) rfl rfl (sp 1 [(5,vI (HJ A B))] (se (BC (RP ?_)))))));have hE:=mergeE_1 (A:=A) (B:=B) h1;refine KI (t:=4) (u:=5) (T:=26) (n:=5) [] (by kernel_rfl) rfl (by kernel_rfl) rfl (GI (n:=5) (cs:=AN) (b:=b5) (off:=0) (T:=26) (fz:=(0,0)) (vs:=SL) (by simp) rfl) (.inl ⟨by kernel_rfl,rfl⟩) rfl (TC _ (TC _ (TC _ (TR _)))) a7 ?_;exact ⟨_,(by rw [hE]),rfl,((show (⟨0,0,[],[],[]⟩:Lin)=(AH A B).1 from by rw [hE];rfl)▸(CM (IsRows.nil _) (IsSl.nil _) (IsSl.nil _)))⟩
 have j1:=h1;have h1:=BG (BI h1);refine AO (NX (rq (rq ?_)));refine DB (fun a w=>SE 88 [(2,vP b1 0),(3,vP b3 0),(4,vP b5 0),(5,vI 0),(46,.bool ((!(cmp .eql A.places B.places))||((!(cmp .eql A.sorts B.sorts))||((!(decide (A.start=B.start)))||(!(decide (A.keeps=B.keeps)))))))] I9 ((bX b5 AN 26)::(bX b3 (AS B (vS c3 B.start.length c4) (vS c5 B.keeps.length c6) (vS c0 B.slips.length c1)) 26)::(bX b1 (AS A (vS b4 A.start.length b6) (vS b8 A.keeps.length b9) (vS b0 A.slips.length b2)) 26)::F) a w) ?_ ?_
 ·
  refine rr (sp 1 [(19,vP b1 0)] (sd (dlb 20 2 0 b1 (vI A.places)) (sp 1 [(21,vP b3 0)] (sd (dlb 22 1 0 b3 (vI B.places)) (sp 2 [(24,.bool (!(cmp .eql A.places B.places)))] ?_)))));refine BH 24 rfl (fun h2=>?_) (fun h2=>?_)
  ·
   have e2:=h2;have e2:=BN (BP e2);refine sp 22 [(46,.bool true)] (ee ?_);refine AP (fun a w hS hD hW=>⟨hS.sub (sun 4 (.consE 46 rfl (congrArg Value.bool (by simp only [h2,kk])) (.nil _))),hD,hW⟩)
  have e2:=h2;have e2:=BG (BI e2);refine sp 1 [(25,vP b1 1)] (sd (dlb 26 2 1 b1 (vI A.sorts)) (sp 1 [(27,vP b3 1)] (sd (dlb 28 1 1 b3 (vI B.sorts)) (sp 3 [(31,.bool (!(cmp .eql A.sorts B.sorts)))] ?_))));refine BH 31 rfl (fun h3=>?_) (fun h3=>?_)
  ·
   have e3:=h3;have e3:=BN (BP e3);refine sp 15 [(46,.bool true)] (ee ?_);refine AP (fun a w hS hD hW=>⟨hS.sub (sun 4 (.consE 46 rfl (congrArg Value.bool (by simp only [h2,h3,kk])) (.nil _))),hD,hW⟩)
  have e3:=h3;have e3:=BG (BI e3);refine sp 1 [(32,vP b1 2)] (sd (dlb 33 2 2 b1 (vS b4 A.start.length b6)) (sp 1 [(34,vP b3 2)] (sd (dlb 35 1 2 b3 (vS c3 B.start.length c4)) (sd (dc 36 (fun I' hI=>(EqRowsF_ct I' _ _ _ _ (d9.mono hI) (e7.mono hI) :))) (sp 3 [(39,.bool (!(decide (A.start=B.start))))] ?_)))));refine BH 39 rfl (fun h4=>?_) (fun h4=>?_)
  ·
   have e4:=h4;have e4:=SB (BP e4);refine sp 7 [(46,.bool true)] (ee ?_);refine AP (fun a w hS hD hW=>⟨hS.sub (sun 4 (.consE 46 rfl (congrArg Value.bool (by simp only [h2,h3,h4,kk])) (.nil _))),hD,hW⟩)
  have e4:=h4;have e4:=NT (BI e4);refine sp 1 [(40,vP b1 3)] (sd (dlb 41 2 3 b1 (vS b8 A.keeps.length b9)) (sp 1 [(42,vP b3 3)] (sd (dlb 43 1 3 b3 (vS c5 B.keeps.length c6)) (sd (dc 44 (fun I' hI=>(EqKeepS_ct I' _ _ _ _ (e0.mono hI) (e8.mono hI) :))) (sp 2 [(46,.bool (!(decide (A.keeps=B.keeps))))] (ee ?_))))));refine AP (fun a w hS hD hW=>⟨hS.sub (sun 4 (.consE 46 rfl (congrArg Value.bool (by simp only [h2,h3,h4,kk])) (.nil _))),hD,hW⟩)
 rintro a w ⟨hS,hD,hW⟩
 refine AU hS hD hW ?_;refine rc 46 rfl (fun h5=>?_) (fun h5=>?_)
 ·
  have j3:=h5;refine rqr (sp 1 [(47,.agg AN)] (sS (ss 0 0 b5 SL SL (_::_::_::_) (cs:=[_,_,_,_,_]) rfl rfl (sp 1 [(5,vI 12)] (se (BC (RP ?_)))))));have hE:=mergeE_2 (by omega) (head_no (by assumption));refine KI (t:=4) (u:=5) (T:=26) (n:=5) [] (by kernel_rfl) rfl (by kernel_rfl) rfl (GI (n:=5) (cs:=AN) (b:=b5) (off:=0) (T:=26) (fz:=(0,0)) (vs:=SL) (by simp) rfl) (.inl ⟨by kernel_rfl,rfl⟩) rfl (TC _ (TC _ (TC _ (TR _)))) a7 ?_;exact ⟨_,(by rw [hE]),rfl,((show (⟨0,0,[],[],[]⟩:Lin)=(AH A B).1 from by rw [hE];rfl)▸(CM (IsRows.nil _) (IsSl.nil _) (IsSl.nil _)))⟩
 have j3:=h5;obtain ⟨g1,j2⟩:=or_f h5;have g1:=BG (BI g1);obtain ⟨e5,f2⟩:=or_f j2;have e5:=BG (BI e5);obtain ⟨d2,d3⟩:=or_f f2;have d2:=NT (BI d2);have d3:=NT (BI d3);refine AO (NX (rq ?_));have hz:HJ A B=0:=by omega
 have hg:=II (two_0 hz).1;have n0:=II (two_0 hz).2;have r9:=hg.slips;have s0:=n0.slips;have r7:=hg.places;have r8:=hg.sorts;have k1:JS A B:=⟨by assumption,by assumption,by assumption,by assumption⟩;refine rr (sd (dnb 48 2 0 b1 (CY A (vS b4 A.start.length b6) (vS b8 A.keeps.length b9) (vS b0 A.slips.length b2))) (sS (sc (some 49) (copied_ct _ _ A (CM d9 e0 c8) (by assumption) :) (.refl _) (fun r0 m8 q7 c9 j9=>?_))));obtain ⟨r2,r3,r4,f9,g7,g3,i0,h0,i1⟩:=j9;rw [g7,g3];clear g7 g3;replace c8:=c8.mono c9;replace d1:=d1.mono c9;replace d4:=d4.mono c9;replace hlo:=hlo.mono c9;have a8:=i0;have a9:=h0;obtain ⟨a2,a3,l0,l6,i3,f6,l4,l5,l7,l8⟩:=id a8;obtain ⟨a4,a5,l9,m5,f7,m0,m4,m6⟩:=id a9;subst f6;subst f7;obtain ⟨d6,d7,rfl,m7⟩:=i1.shape;refine pm (M':=((bX b5 AN 26)::(bX b3 (AS B (vS c3 B.start.length c4) (vS c5 B.keeps.length c6) (vS c0 B.slips.length c1)) 26)::(bX b1 (AS A (vS b4 A.start.length b6) (vS b8 A.keeps.length b9) (vS b0 A.slips.length b2)) 26)::(f9++F))) (PW (PW PM)) (sS (sal 7 26 AN (fun d8=>(sS (ss 0 0 d8 (CY A (vS a2 A.start.length a3) (vS a4 A.keeps.length a5) (vS d6 A.slips.length d7)) (CY A (vS a2 A.start.length a3) (vS a4 A.keeps.length a5) (vS d6 A.slips.length d7)) (_::_::_::_::_) (cs:=[_,_,_,_,_]) rfl rfl (se (rq (rqr (sp 1 [(50,vP b3 4)] (sd (dlb 51 2 4 b3 (vS c0 B.slips.length c1)) (sp 2 [(53,vI 0),(52,vI (↑(B.slips.length)))] (se (rb 0 ?_)))))))))))));refine rl (fun mz a w=>∃ J0:Imm,∃ k:Nat,∃ d0:Value,∃ a6:Seg,(m8.le J0)∧(k≤B.slips.length)∧((B.slips.take k).any (LR A.slips)=false)∧(Own 28 8 AV d0 (A.slips++(B.slips.take k).filter (NE A.slips)) a6)∧SD 88 [(53,vI ↑k),(2,vP b1 0),(4,vP b5 0),(7,vP d8 0),(51,vS c0 B.slips.length c1),(52,vI (↑(B.slips.length)))] J0 ((bX d8 (AS A (vS a2 A.start.length a3) (vS a4 A.keeps.length a5) d0) 26)::(bX b5 AN 26)::(bX b3 (AS B (vS c3 B.start.length c4) (vS c5 B.keeps.length c6) (vS c0 B.slips.length c1)) 26)::(bX b1 (AS A (vS b4 A.start.length b6) (vS b8 A.keeps.length b9) (vS b0 A.slips.length b2)) 26)::(a6++F)) a w (mz=B.slips.length-k)) ?_ ?_
 ·intro a w hS hD hW;exact ⟨_,m8,0,vS d6 A.slips.length d7,f9,IR _,Nat.zero_le _,rfl,(by rw [List.take_zero,List.filter_nil,List.append_nil];exact i1),hS.sub su,hD,hW,rfl⟩
 rintro mz a w ⟨J0,k,d0,a6,hJ0,hk,i2,c2,hS,hD,hW,rfl⟩
 refine AU hS hD hW ?_;replace c8:=c8.mono hJ0;replace d1:=d1.mono hJ0;replace d4:=d4.mono hJ0;replace hlo:=hlo.mono hJ0;replace a8:=a8.mono hJ0;replace a9:=a9.mono hJ0;obtain ⟨a0,a1,rfl,f5⟩:=c2.shape;have s2:=mrg_len (k:=k) hg n0;refine rqr (sp 1 [(54,.bool (cmp .lss ↑k (↑(B.slips.length))))] (se (rq (rc 54 rfl (fun h6=>?_) (fun h6=>?_)))))
 ·
  have j4:=h6;have h6:=CI h6;refine AO (NX (rq (rb 1 (rqr (sd (di 55 8 k d4.addr) (sd (dln 56 55 28 (GX (B.slips.getD k AB)) rfl (CE (vals:=DJ) (fun _=>rfl) d4 k (by omega))) (sS (sal 9 28 JK (fun e9=>(sS (ss 0 0 e9 (GX (B.slips.getD k AB)) (GX (B.slips.getD k AB)) (_::_::_::_::_::_) (cs:=[_,_,_,_,_,_,_,_]) rfl rfl (se (rq ?_)))))))))))));refine rd 5 [(0,true),(1,true),(2,true),(3,true),(4,false)] ((bX e9 (BK (B.slips.getD k AB)) 28)::(bX d8 (AS A (vS a2 A.start.length a3) (vS a4 A.keeps.length a5) (vS a0 (A.slips++(B.slips.take k).filter (NE A.slips)).length a1)) 26)::(bX b5 AN 26)::(bX b3 (AS B (vS c3 B.start.length c4) (vS c5 B.keeps.length c6) (vS c0 B.slips.length c1)) 26)::(bX b1 (AS A (vS b4 A.start.length b6) (vS b8 A.keeps.length b9) (vS b0 A.slips.length b2)) 26)::[]) (a6++F) (ox 1 [(57,vP b1 4)] ?_);refine AD (dlb 58 4 4 b1 (vS b0 A.slips.length b2)) (ox 1 [(59,vP e9 0)] ?_);refine AD (dlb 60 0 0 e9 (vI ((B.slips.getD k AB).num))) ?_;refine HB (sc (some 61) (F:=((bX e9 (BK (B.slips.getD k AB)) 28)::(bX d8 (AS A (vS a2 A.start.length a3) (vS a4 A.keeps.length a5) (vS a0 (A.slips++(B.slips.take k).filter (NE A.slips)).length a1)) 26)::(bX b5 AN 26)::(bX b3 (AS B (vS c3 B.start.length c4) (vS c5 B.keeps.length c6) (vS c0 B.slips.length c1)) 26)::(bX b1 (AS A (vS b4 A.start.length b6) (vS b8 A.keeps.length b9) (vS b0 A.slips.length b2)) 26)::(a6++F))) (NZ _ ((B.slips.getD k AB).num) :) (PR _) (fun r1 m9 q8 c7 k0=>?_));obtain ⟨f0,g8,g4,k9⟩:=k0;rw [g8,g4];clear g8 g4;replace c8:=c8.mono c7;replace d1:=d1.mono c7;replace hlo:=hlo.mono c7;replace a8:=a8.mono c7;replace a9:=a9.mono c7;refine CR (S':=(a6++F)) (PR _) ?_;show OFP _ _ _ _ _ _ ((61,.func (.func 129) #[] #[vP f0 0])::_) _ _;refine HP (nm (nm ?_));refine sd (dc 62 (fun I' hI=>(MP I' _ _ 129 ([vP f0 0]) (fun x=>decide (x.num=((B.slips.getD k AB).num))) (c8.mono hI) (by kernel_rfl) (fun J hJ x=>num1_ct J x ((B.slips.getD k AB).num) f0 ((IT hI hJ).blk _ _ k9)) :))) (sp 1 [(10,vI (KX (fun x=>decide (x.num=((B.slips.getD k AB).num))) A.slips))] (se (rb 2 (rqr (sp 1 [(64,vI (KX (fun x=>decide (x.num=((B.slips.getD k AB).num))) A.slips))] ?_)))));obtain ⟨ix,hix⟩:∃ x:Int,x=idxN A.slips (B.slips.getD k AB):=⟨_,rfl⟩;refine BM 64 rfl (show (vI (KX (fun x=>decide (x.num=((B.slips.getD k AB).num))) A.slips):Value)=vI ix from congrArg (Value.int .i64) hix.symm) (sp 2 [(63,.bool (cmp .lss ix 0))] (se (rc 63 rfl (fun h7=>?_) (fun h7=>?_))))
  ·
   have j5:=h7;have h7:=CI h7;refine rr (sp 1 [(66,vP d8 4)] (sd (dlb 67 1 4 d8 (vS a0 (A.slips++(B.slips.take k).filter (NE A.slips)).length a1)) (sd (dnb 68 0 0 e9 (GX (B.slips.getD k AB))) (sS (sbs 69 28 1 (BK (B.slips.getD k AB)) (fun r6=>(sS (sap (d:=70) 67 69 24 28 8 64 (.agg JK) AV (A.slips++(B.slips.take k).filter (NE A.slips)) [B.slips.getD k AB] a6 rfl rfl c2 (PU (PU (PU (PU (PU PM.symm))))) (CJ _) (DD 0 rfl rfl) (fun s3 g0 g5=>(AW (M':=((bX e9 (BK (B.slips.getD k AB)) 28)::(bX d8 (AS A (vS a2 A.start.length a3) (vS a4 A.keeps.length a5) (vS a0 (A.slips++(B.slips.take k).filter (NE A.slips)).length a1)) 26)::(bX b5 AN 26)::(bX b3 (AS B (vS c3 B.start.length c4) (vS c5 B.keeps.length c6) (vS c0 B.slips.length c1)) 26)::(bX b1 (AS A (vS b4 A.start.length b6) (vS b8 A.keeps.length b9) (vS b0 A.slips.length b2)) 26)::(g0++F))) (fun w h=>(h.perm (PW (PW (PW (PW (PW PM)))))).sub (TC _ (TR _))) ?_))))))))));obtain ⟨f3,f4,rfl,q5⟩:=g5.shape;refine sp 1 [(71,vP d8 4)] (sS (ss 1 4 d8 [vS f3 ((A.slips++(B.slips.take k).filter (NE A.slips))++([B.slips.getD k AB])).length f4] (CY A (vS a2 A.start.length a3) (vS a4 A.keeps.length a5) (vS f3 ((A.slips++(B.slips.take k).filter (NE A.slips))++([B.slips.getD k AB])).length f4)) (_::_::_::_::_::_) (cs:=[_,_,_,_,_]) rfl rfl (ee (NB (NB (NX (rr (sd (da 81 ↑k 1) (sp 1 [(53,vI (↑k+1))] (ee ?_))))))))));refine AM (B.slips.length-(k+1)) (by omega) ?_;intro a w hS hD hW;exact ⟨m9,k+1,vS f3 ((A.slips++(B.slips.take k).filter (NE A.slips))++([B.slips.getD k AB])).length f4,g0,(IT hJ0 c7),by omega,mrg_any i2 (by omega) (clash_lt hix (by assumption)),(by rw [mrg_new hix (by omega) (by assumption)];exact g5),hS.sub su,hD,(hW.perm (PR _)).sub (TC _ (TR _)),rfl⟩
  have j5:=h7;have h7:=CS h7;refine rq ?_;have s1:0≤ix∧ix<A.slips.length:=by have hq:=idx_in (L:=A.slips) (p:=fun x=>decide (x.num=(B.slips.getD k AB).num));rw [show KX _ _=ix from hix.symm] at hq;exact hq (by omega)
  refine rd0 6 (ox 1 [(73,vP b1 4)] ?_);refine AD (dlb 74 4 4 b1 (vS b0 A.slips.length b2)) (ox 1 [(75,vI (KX (fun x=>decide (x.num=((B.slips.getD k AB).num))) A.slips))] ?_);refine OFP.sub 75 (show (vI (KX (fun x=>decide (x.num=((B.slips.getD k AB).num))) A.slips):Value)=vI ix from congrArg (Value.int .i64) hix.symm) ?_;refine AD (diI 76 8 ix d1.addr) ?_;refine AD (dln 77 76 28 (GX (A.slips.getD ((ix:Int).toNat) AB)) rfl (CE (vals:=DJ) (fun _=>rfl) d1 ((ix:Int).toNat) (by omega))) ?_;refine AD (dnb 78 0 0 e9 (GX (B.slips.getD k AB))) ?_;refine AY (sd (HM (L:=[(0,.i .i64),(1,.i .i64),(2,.i .i64),(3,.i .i64),(4,.i .i64),(5,.i .i64),(6,.b),(7,.i .i64)]) (x:=(.tmp 77)) (y:=(.tmp 78)) (T:=28) (T':=28) (d:=79) (ty:=4) (gd:=none) (by kernel_rfl) rfl (by kernel_rfl) rfl rfl rfl (eqSlip (A.slips.getD ((ix:Int).toNat) AB) (B.slips.getD k AB))) (sp 1 [(72,.bool (!(decide ((A.slips.getD ((ix:Int).toNat) AB)=(B.slips.getD k AB)))))] (se (rc 72 rfl (fun h8=>?_) (fun h8=>?_)))))
  ·
   have j6:=h8;have h8:=SB (BP h8);refine rqr (sp 1 [(80,.agg AN)] (sS (ss 2 0 b5 SL SL (_::_::_::_::_::_) (cs:=[_,_,_,_,_]) rfl rfl (sp 1 [(5,vI 4)] (se (BC (RB (RB (RP (RP (RB (RP ?_))))))))))));have hE:=mergeE_3 hz k1 hix (by omega) (by omega) h8;refine KI (t:=4) (u:=5) (T:=26) (n:=5) [] (by kernel_rfl) rfl (by kernel_rfl) rfl (GI (n:=5) (cs:=AN) (b:=b5) (off:=0) (T:=26) (fz:=(0,0)) (vs:=SL) (by simp) rfl) (.inl ⟨by kernel_rfl,rfl⟩) rfl (TC _ (TC _ (TC _ (TC _ (TC _ (TT (TR _) (TB _ _))))))) (IT (IT (IT a7 c9) hJ0) c7) ?_;exact ⟨_,(by rw [hE]),rfl,((show (⟨0,0,[],[],[]⟩:Lin)=(AH A B).1 from by rw [hE];rfl)▸(CM (IsRows.nil _) (IsSl.nil _) (IsSl.nil _)))⟩
  have j6:=h8;have h8:=NT (BI h8);refine AO (NB (NB (NX (rr (sd (da 81 ↑k 1) (sp 1 [(53,vI (↑k+1))] (ee ?_)))))));refine AM (B.slips.length-(k+1)) (by omega) ?_;intro a w hS hD hW;exact ⟨m9,k+1,vS a0 (A.slips++(B.slips.take k).filter (NE A.slips)).length a1,a6,(IT hJ0 c7),by omega,mrg_any i2 (by omega) (clash_eq hix h8),(by rw [mrg_old hix (by omega) (by omega)];exact c2),hS.sub su,hD,(hW.perm (PR _)).sub (TC _ (TR _)),rfl⟩
 have j4:=h6;have h6:=CS h6;refine BW 0 (EP (EP (EB (NX (rq (rqr (sp 1 [(82,vP d8 4)] (sd (dlb 83 0 4 d8 (vS a0 (A.slips++(B.slips.take k).filter (NE A.slips)).length a1)) (sp 2 [(85,.bool (cmp .gtr (↑((A.slips++(B.slips.take k).filter (NE A.slips)).length)) 8))] (se (rc 85 rfl (fun h9=>?_) (fun h9=>?_))))))))))))
 ·
  have j7:=h9;have h9:=MB h9;refine rqr (sp 1 [(86,.agg AN)] (sS (ss 1 0 b5 SL SL (_::_::_::_::_) (cs:=[_,_,_,_,_]) rfl rfl (sp 1 [(5,vI 6)] (se (BC (RP ?_)))))));have hE:=mergeE_4 hz k1 i2 (by omega) (by omega);refine KI (t:=4) (u:=5) (T:=26) (n:=5) [] (by kernel_rfl) rfl (by kernel_rfl) rfl (GI (n:=5) (cs:=AN) (b:=b5) (off:=0) (T:=26) (fz:=(0,0)) (vs:=SL) (by simp) rfl) (.inl ⟨by kernel_rfl,rfl⟩) rfl (TC _ (TC _ (TC _ (TC _ (TT (TR _) (TB _ _)))))) (IT (IT a7 c9) hJ0) ?_;exact ⟨_,(by rw [hE]),rfl,((show (⟨0,0,[],[],[]⟩:Lin)=(AH A B).1 from by rw [hE];rfl)▸(CM (IsRows.nil _) (IsSl.nil _) (IsSl.nil _)))⟩
 have j7:=h9;have h9:=SC h9;refine AO (NX (rq ?_));refine BS (B:=((bX d8 (AS A (vS a2 A.start.length a3) (vS a4 A.keeps.length a5) (vS a0 (A.slips++(B.slips.take k).filter (NE A.slips)).length a1)) 26)::(bX b5 AN 26)::(bX b3 (AS B (vS c3 B.start.length c4) (vS c5 B.keeps.length c6) (vS c0 B.slips.length c1)) 26)::(bX b1 (AS A (vS b4 A.start.length b6) (vS b8 A.keeps.length b9) (vS b0 A.slips.length b2)) 26)::F)) AB c2 (by first | omega | (simp only [LS,LC,LN,LA,LK,LD] <;> omega) | decide) (PU (PU (PU PM.symm))) (PR _) (fun r5 e6 e1=>?_);replace a8:=a8.mono e6;replace a9:=a9.mono e6;obtain ⟨i4,i6,i5,i9,f1,i7,i8,j0⟩:=id e1;cases f1;refine rr (sd (dnb 87 0 0 d8 (CY A (vS a2 A.start.length a3) (vS a4 A.keeps.length a5) (vS a0 (A.slips++(B.slips.take k).filter (NE A.slips)).length a1))) (sS (ss 1 0 b5 (CY A (vS a2 A.start.length a3) (vS a4 A.keeps.length a5) (vS a0 (A.slips++(B.slips.take k).filter (NE A.slips)).length a1)) (CY A (vS a2 A.start.length a3) (vS a4 A.keeps.length a5) (vS a0 (A.slips++(B.slips.take k).filter (NE A.slips)).length a1)) (_::_::_::_::_) (cs:=[_,_,_,_,_]) rfl rfl (sp 1 [(5,vI 0)] (se (BC ?_))))));have hE:=mergeE_5 hz k1 i2 (by omega) (by omega);refine KI (t:=4) (u:=5) (T:=26) (n:=5) [] (by kernel_rfl) rfl (by kernel_rfl) rfl (GI (n:=5) (cs:=(AS A (vS a2 A.start.length a3) (vS a4 A.keeps.length a5) (vS a0 (A.slips++(B.slips.take k).filter (NE A.slips)).length a1))) (b:=b5) (off:=0) (T:=26) (fz:=(0,0)) (vs:=(CY A (vS a2 A.start.length a3) (vS a4 A.keeps.length a5) (vS a0 (A.slips++(B.slips.take k).filter (NE A.slips)).length a1))) (by simp) rfl) (.inl ⟨by kernel_rfl,rfl⟩) rfl (TC _ (TC _ (TC _ (TC _ (TR _))))) (IT (IT (IT a7 c9) hJ0) e6) ?_;exact ⟨_,(by rw [hE]),rfl,((show (⟨A.places,A.sorts,A.start,A.keeps,A.slips++(B.slips.take k).filter (NE A.slips)⟩:Lin)=(AH A B).1 from by rw [hE];exact mrgL_k (by omega))▸(CM a8 a9 e1))⟩
end Go.Proofs.YtgcemienebmdeaaGreat
namespace Go.Sh
open Go Go.Sl
section
variable {p kh to f h:Int} {ks:List Keep} {k:Nat}
theorem kfold_spec (h0:∀ x∈ks,0≤x.hour):∀ k,k≤ks.length→(JZ p h (ks.take k)=(0,-1)∧∀ x∈ks.take k,x.place=p→¬ x.hour≤h)∨∃ x∈ks.take k,x.place=p∧x.hour≤h∧JZ p h (ks.take k)=(x.who,x.hour)∧∀ y∈ks.take k,y.place=p→y.hour≤h→y.hour≤x.hour:=by
  intro k
  induction k with
  | zero=>intro _;exact .inl ⟨rfl,fun x hx=>by simp at hx⟩
  | succ k ih=>
    intro hk;have hm:=BA (xs:=ks) (d:=AQ) (show k<ks.length by omega);have hin:∀ y,y∈ks.take (k+1)↔y∈ks.take k∨y=ks.getD k AQ:=fun y=>by rw [BT (d:=AQ) (by omega)];simp
    cases hc:(cmp .eql (ks.getD k AQ).place p&&(cmp .leq (ks.getD k AQ).hour h&&cmp .gtr (ks.getD k AQ).hour (JZ p h (ks.take k)).2)) with
    | true=>
      rw [← kfold_t (by omega) hc];simp only [KS,cmp_leq,cmp_gtr,Bool.and_eq_true,decide_eq_true_eq] at hc;refine .inr ⟨_,(hin _).2 (.inr rfl),hc.1,hc.2.1,rfl,fun y hy h1 h2=>?_⟩;rcases (hin y).1 hy with hy | rfl
      · rcases ih (by omega) with ⟨_,h3⟩ | ⟨x,_,_,_,h3,h4⟩
        · exact absurd h2 (h3 y hy h1)
        · have:=h4 y hy h1 h2;rw [h3] at hc;simp only at hc;omega
      · exact Int.le_refl _
    | false=>
      rw [← kfold_f (by omega) hc];have hn:¬ ((ks.getD k AQ).place=p∧(ks.getD k AQ).hour≤h∧(JZ p h (ks.take k)).2<(ks.getD k AQ).hour):=fun hh=>by
        simp only [KS,cmp_leq,cmp_gtr,hh.1,hh.2.1,hh.2.2,decide_true,Bool.and_self] at hc;cases hc
      rcases ih (by omega) with ⟨h2,h3⟩ | ⟨x,h1,h2,h5,h3,h4⟩
      · refine .inl ⟨h2,fun y hy h1 h4=>?_⟩
        rcases (hin y).1 hy with hy | rfl
        · exact h3 y hy h1 h4
        · refine hn ⟨h1,h4,?_⟩
          rw [h2];have:=h0 _ hm;simp only;omega
      · refine .inr ⟨x,(hin x).2 (.inl h1),h2,h5,h3,fun y hy h6 h7=>?_⟩
        rcases (hin y).1 hy with hy | rfl
        · exact h4 y hy h6 h7
        · rcases Int.lt_or_le x.hour (ks.getD k AQ).hour with h8 | h8
          · exact absurd ⟨h6,h7,by rw [h3];exact h8⟩ hn
          · exact h8
end
theorem keepErr_ok2 {L:Lin} {i:Nat} (h:FO L i=0):(0≤(L.keeps.getD i AQ).hour∧(L.keeps.getD i AQ).hour≤200)∧(1≤(L.keeps.getD i AQ).who∧(L.keeps.getD i AQ).who≤9)∧∀ x∈L.keeps.take i,¬ (x.place=(L.keeps.getD i AQ).place∧x.hour=(L.keeps.getD i AQ).hour):=by
  unfold FO at h;simp only at h
  split at h;· omega
  split at h;· omega
  rename_i h2
  split at h;· omega
  rename_i h3
  split at h;· omega
  rename_i h4
  refine ⟨FN (by simpa using h2),FN (by simpa using h3),fun x hx hh=>h4 (List.any_eq_true.2 ⟨x,hx,by simp [hh.1,hh.2]⟩)⟩
section
variable {L:Lin} (g:GoodL L)
include g
theorem GoodL.keepOf {x:Keep} (hx:x∈L.keeps):(0≤x.hour∧x.hour≤200)∧(1≤x.who∧x.who≤9):=by
  obtain ⟨k,hk,rfl⟩:=List.mem_iff_getElem.1 hx;have:=keepErr_ok2 (g.keep k hk);have e:L.keeps.getD k AQ=L.keeps[k]:=by simp [List.getD,hk]
  rw [e] at this;exact ⟨this.1,this.2.1⟩
theorem GoodL.keepOnce {x y:Keep} (hx:x∈L.keeps) (hy:y∈L.keeps) (h1:x.place=y.place) (h2:x.hour=y.hour):x=y:=by
  obtain ⟨i,hi,rfl⟩:=List.mem_iff_getElem.1 hx;obtain ⟨j,hj,rfl⟩:=List.mem_iff_getElem.1 hy;have aux:∀ i j (hi:i<L.keeps.length) (hj:j<L.keeps.length),i<j→¬ (L.keeps[i].place=L.keeps[j].place∧L.keeps[i].hour=L.keeps[j].hour):=fun i j hi hj hij hh=>by
    have:=(keepErr_ok2 (g.keep j hj)).2.2 L.keeps[i] (by rw [List.mem_take_iff_getElem];exact ⟨i,by omega,rfl⟩);have e:L.keeps.getD j AQ=L.keeps[j]:=by simp [List.getD,hj]
    rw [e] at this;exact this hh
  rcases Nat.lt_trichotomy i j with h | h | h
  · exact absurd ⟨h1,h2⟩ (aux i j hi hj h)
  · subst h;rfl
  · exact absurd ⟨h1.symm,h2.symm⟩ (aux j i hj hi h)
theorem keeper_iff {p h w:Int} (hw:w≠0):BL L p h=w↔∃ x∈L.keeps,x.place=p∧x.hour≤h∧x.who=w∧∀ y∈L.keeps,y.place=p→y.hour≤h→y.hour≤x.hour:=by
  have hs:=kfold_spec (p:=p) (h:=h) (ks:=L.keeps) (fun x hx=>(g.keepOf hx).1.1) L.keeps.length (Nat.le_refl _);rw [List.take_length] at hs;unfold BL
  constructor
  · intro hh
    rcases hs with ⟨h1,_⟩ | ⟨x,hx,h1,h2,h3,h4⟩
    · rw [h1] at hh;exact absurd hh.symm hw
    · rw [h3] at hh;exact ⟨x,hx,h1,h2,hh,h4⟩
  · rintro ⟨x,hx,h1,h2,h3,h4⟩
    rcases hs with ⟨_,h5⟩ | ⟨y,hy,h5,h6,h7,h8⟩
    · exact absurd h2 (h5 x hx h1)
    · have e:x=y:=g.keepOnce hx hy (by rw [h1,h5]) (by have:=h8 x hx h1 h2;have:=h4 y hy h5 h6;omega)
      subst e;rw [h7];exact h3
omit g in
theorem holdTo_mem {p since x:Int}:∀ {n:Nat},x∈BZ L p since n↔∃ h:Nat,h<n∧since≤h∧BL L p h=x∧x≠0:=by
  intro n
  induction n with
  | zero=>simp [BZ]
  | succ n ih=>
    have up:(∃ h:Nat,h<n+1∧since≤h∧BL L p h=x∧x≠0)↔(∃ h:Nat,h<n∧since≤h∧BL L p h=x∧x≠0)∨(since≤n∧BL L p n=x∧x≠0):=by
      constructor
      · rintro ⟨h,h1,h2⟩
        rcases Nat.lt_or_ge h n with h3 | h3
        · exact .inl ⟨h,h3,h2⟩
        · have:h=n:=by omega
          subst this;exact .inr h2
      · rintro (⟨h,h1,h2⟩ | h2)
        · exact ⟨h,by omega,h2⟩
        · exact ⟨n,by omega,h2⟩
    rw [up,← ih];simp only [BZ]
    split
    · rename_i h;exact ⟨.inl,fun q=>q.elim id (fun e=>by omega)⟩
    · split
      · rename_i h;exact ⟨.inl,fun q=>q.elim id (fun e=>absurd (e.2.1.symm.trans h) e.2.2)⟩
      · rename_i h1 h2
        split
        · rename_i h3;exact ⟨.inl,fun q=>q.elim id (fun e=>e.2.1▸h3)⟩
        · simp only [List.mem_append,List.mem_singleton]
          exact ⟨fun q=>q.elim .inl (fun e=>.inr ⟨by omega,e.symm,e▸h2⟩),fun q=>q.elim .inl (fun e=>.inr e.2.1.symm)⟩
omit g
theorem strictZ {l:List Int}:Strict cmpZ l:=⟨fun a _ b _ h=>by unfold cmpZ;omega,fun a _=>by unfold cmpZ;omega,fun a _ b _ d _ h1 h2=>by unfold cmpZ at *;omega⟩
theorem nodup_inj {α β:Type} {f:α→β} {l:List α} (h:(l.map f).Nodup):∀ a∈l,∀ b∈l,f a=f b→a=b:=by
  intro a ha b hb e
  induction l with
  | nil=>cases ha
  | cons x r ih=>
    rw [List.map_cons,List.nodup_cons] at h;rcases List.mem_cons.1 ha with rfl | ha1 <;> rcases List.mem_cons.1 hb with rfl | hb1
    · rfl
    · exact absurd (e▸List.mem_map_of_mem (f:=f) hb1) h.1
    · exact absurd (e▸List.mem_map_of_mem (f:=f) ha1) h.1
    · exact ih h.2 ha1 hb1
section
variable {i:Nat} (g:GoodL L) (hi:i<(AG AC L.slips).length)
include g hi
end
end
section
variable {L:Lin} {p who frm to:Int} {ks:List Keep} {k:Keep} {i m:Nat}
end
section
variable {L:Lin} {G:List Gap} {n:Int} {i k m:Nat}
variable (g:GoodL L) (hi:i<(sortS L.slips).length)
include g hi
end
section
variable {A:List Slip} {s:Slip} {k:Nat}
end
abbrev Ods:=List (Debt × Int)
def SS (k:Debt):Ods→Int
  | []=>0
  | x::r=>if x.1=k then x.2 else SS k r
def putO (k:Debt) (v:Int):Ods→Ods
  | []=>[(k,v)]
  | x::r=>if x.1=k then (k,v)::r else x::putO k v r
theorem getO_put {k j:Debt} {v:Int} {h:Ods}:SS j (putO k v h)=if j=k then v else SS j h:=by
  induction h with
  | nil=>simp only [putO,SS];by_cases e:j=k <;> simp [e,Ne.symm,eq_comm]
  | cons x r ih=>
    simp only [putO]
    split
    · rename_i e
      simp only [SS]
      by_cases e2:j=k
      · subst e2;simp
      · simp only [if_neg e2];rw [if_neg (Ne.symm e2),e,if_neg (Ne.symm e2)]
    · rename_i e
      simp only [SS]
      split
      · rename_i e2;rw [if_neg (fun e3=>e (e2.trans e3))]
      · exact ih
def okCells (k:Debt):Array Value:=#[.int .i64 k.who,.int .i64 k.sort,.int .i64 k.amt]
def encO (k:Debt):Value:=.agg (okCells k)
def flatO:List (Nat × SK):=[(0,.i .i64),(1,.i .i64),(2,.i .i64)]
theorem keyOk_debt {P:Program} {kt:TypeId} (h:KU P 4 kt=some (3,flatO)) (hagg:ED P kt=some true):KeyOk P kt encO:=
  keyOk_flat h (by decide) hagg okCells (fun _=>rfl) (fun _=>rfl) (fun a b=>by
    obtain ⟨a1,a2,a3⟩:=a;obtain ⟨b1,b2,b3⟩:=b
    show ((a1 == b1)&&((a2 == b2)&&((a3 == b3)&&true)))=decide ((⟨a1,a2,a3⟩:Debt)=⟨b1,b2,b3⟩)
    simp only [Bool.and_true,Debt.mk.injEq,Bool.decide_and];rfl)
def intO (h:Ods):List (Debt × Value):=h.map fun x=>(x.1,.int .i64 x.2)
theorem QH (k:Debt) (h:Ods):(KW k (intO h)).getD (.int .i64 0)=.int .i64 (SS k h):=by
  induction h with
  | nil=>rfl
  | cons x r ih => simp only [intO, List.map_cons, KW, SS] at ih ⊢; split; · rfl
                   · exact ih
theorem upd_intO (k:Debt) (v:Int) (h:Ods):upd k (.int .i64 v) (intO h)=intO (putO k v h):=by
  induction h with
  | nil=>rfl
  | cons x r ih => simp only [intO, List.map_cons, upd, putO] at ih ⊢; split; · rfl
                   · rw [ih];rfl
def MapO (es:Array MapEntry) (cl:Nat) (H:Ods):Prop:=MapB encO es cl (intO H)∧(H.map Prod.fst).Nodup
def EntO (es:Array MapEntry) (cl:Nat) (H:Ods) (k:Debt) (st:Nat):Prop:=MapB encO es cl (ent k (.int .i64 0) (intO H))∧Stamp es (ent k (.int .i64 0) (intO H)) st k∧(H.map Prod.fst).Nodup
theorem MapO.nil (cl:Nat):MapO #[] cl []:=⟨MapB.nil _ _,by simp⟩
theorem putO_keys (k:Debt) (v:Int):∀ H:Ods,(putO k v H).map Prod.fst=if k∈H.map Prod.fst then H.map Prod.fst else H.map Prod.fst++[k]:=by
  intro H
  induction H with
  | nil=>rfl
  | cons x r ih=>
    simp only [putO]
    by_cases h:x.1=k
    · simp [h]
    · rw [if_neg h]
      simp only [List.map_cons,ih,List.mem_cons,Ne.symm h,false_or]
      split <;> simp
theorem putO_once {k:Debt} {v:Int} {H:Ods} (h:(H.map Prod.fst).Nodup):((putO k v H).map Prod.fst).Nodup:=by
  rw [putO_keys]
  split
  · exact h
  · rename_i hk
    exact List.nodup_append.2 ⟨h,by simp,fun a ha b hb=>by
      simp only [List.mem_singleton] at hb
      intro e;rw [e,hb] at ha;exact hk ha⟩
end Go.Sh
namespace Go.Sl
open Go Go.Sh
section
variable {P:Program} [Jud P] {N:Nat} {ops:Array Oper} {i:Nat} {l:Sl} {I:Imm} {M:Seg} {ty:TypeId} {gd:Option (Nat × Bool)} {K:Sl→Imm→Seg→Prop} {d:Nat}
theorem stp_entO {x y : Operand} {T kt et r cl : Nat} {es : Array MapEntry} {H : Ods} {k : Debt} (n : Nat) (hop : FF ops N i = some (some d, .mapEntry T x y, ty, gd)) (hg : FA ops l gd = some true)
    (hT:SI P T=some (kt,et)) (hK:KeyOk P kt encO) (hx:BR l x=some (.map (some r))) (hy:BR l y=some (encO k)) (hz:HG P et=some (.int .i64 0)) (hn:M[n]?=some (r,Obj.map es cl)) (hb:MapO es cl H)
    (h:∀ es' cl' (st:Nat),EntO es' cl' H k st→K ((d,.tuple #[.int .i64 (SS k H),.int .i64 (st:Int)])::l) I (M.set n (r,Obj.map es' cl'))):Stp P N ops i l I M K:=
  RV n hop hg hT hK hx hy hz hn hb.1 fun es' cl' st h1 h2=>by
    rw [QH];exact h es' cl' st ⟨h1,h2,hb.2⟩
theorem stp_fillO {x y u : Operand} {T r cl st : Nat} {es : Array MapEntry} {H : Ods} {k : Debt} {v : Int} (n : Nat) (hop : FF ops N i = some (none, .entryStore T x y u, ty, gd)) (hg : FA ops l gd = some true)
    (hx:BR l x=some (.map (some r))) (hy:BR l y=some (.int .i64 (st:Int))) (hu:BR l u=some (.int .i64 v)) (hn:M[n]?=some (r,Obj.map es cl)) (hb:EntO es cl H k st)
    (h:∀ es',MapO es' cl (putO k v H)→K l I (M.set n (r,Obj.map es' cl))):Stp P N ops i l I M K:=
  NN (k:=k) n hop hg hx hy hu hn hb.1 hb.2.1 fun es' h'=>h es' ⟨by rw [upd_ent,upd_intO] at h';exact h',putO_once hb.2.2⟩
theorem stp_nextO {x : Operand} {r cl b : Nat} {es : Array MapEntry} {seen : Array Nat} {todo : Ods} (n : Nat) (hop : FF ops N i = some (some d, .next x false, ty, gd)) (hg : FA ops l gd = some true)
    (hx:BR l x=some (.pointer (some ⟨b,0,none⟩))) (hn:M[n]?=some (b,Obj.mapIter (some r) cl seen cl)) (hm:Holds I M r (.map es cl)) (hb:Borns es cl) (hl:Left encO es seen (intO todo))
    (h0:todo=[]→K ((d,.tuple #[.bool false])::l) I M)
    (h1:∀ A (y:Debt × Int) B seen',todo=A++y::B→Left encO es seen' (intO (A++B))→AtEntry encO es seen' (y.1,.int .i64 y.2)→K ((d,.tuple #[.bool true,encO y.1,.int .i64 y.2])::l) I (M.set n (b,Obj.mapIter (some r) cl seen' cl))):Stp P N ops i l I M K:=
  stp_next n hop hg hx hn hm hb hl (fun h=>h0 (by simpa [intO] using h)) fun A y B seen' e hl' ha=>by
    obtain ⟨A',y',B',rfl,rfl,rfl,rfl⟩:=map_cut (show todo.map _=A++y::B from e);exact h1 A' y' B' seen' rfl (by simpa [intO] using hl') ha
end
end Go.Sl
namespace Go.Sh
open Go Go.Sl
def oweK (q:EvH):Debt:=⟨q.2.getD 0 0,q.1.slip.sort,0⟩
def PD (O:Ods) (q:EvH):Ods:=if q.1.gap<0∧q.2.length=1 then putO (oweK q) (SS (oweK q) O-q.1.gap) O else O
def ER (l:List EvH):Ods:=l.foldl PD []
def mkD (q:Debt × Int):Debt:=⟨q.1.who,q.1.sort,q.2⟩
def EX (a b:Debt):Int:=if a.who≠b.who then a.who-b.who else a.sort-b.sort
def RF (s:Debt):Prop:=-1000000≤s.who∧s.who≤1000000∧-1000000≤s.sort∧s.sort≤1000000
def KA (L:Lin):List Debt × Int:=if AJ L≠0 then ([],AJ L) else (AG EX ((ER (EJ L)).map mkD),0)
section
variable {L:Lin} {xs:List EvH} {x:EvH}
theorem owesOf_snoc:ER (xs++[x])=PD (ER xs) x:=by unfold ER;rw [List.foldl_append];rfl
theorem owes_t (h:(cmp .lss x.1.gap 0&&cmp .eql (x.2.length:Int) 1)=true):putO ⟨x.2.getD 0 0,x.1.slip.sort,0⟩ (SS ⟨x.2.getD 0 0,x.1.slip.sort,0⟩ (ER xs)-x.1.gap) (ER xs)=ER (xs++[x]):=by
  simp only [cmp_lss,KS,Bool.and_eq_true,decide_eq_true_eq] at h;rw [owesOf_snoc];unfold PD;rw [if_pos ⟨h.1,by omega⟩];rfl
theorem owes_f (h:(cmp .lss x.1.gap 0&&cmp .eql (x.2.length:Int) 1)=false):ER xs=ER (xs++[x]):=by
  simp only [cmp_lss,KS,Bool.and_eq_false_iff,decide_eq_false_iff_not] at h;rw [owesOf_snoc];unfold PD;rw [if_neg (fun e=>by omega)]
theorem owedE_1 (h:AJ L≠0):KA L=([],AJ L):=if_pos h
theorem owedE_2 (h:AJ L=0):KA L=(AG EX ((ER (EJ L)).map mkD),0):=if_neg (fun x=>x h)
theorem lack_in {q:EvH}:∀ {i:Nat} {E:List Sh.Event},i≤E.length→q∈(EQ L (E.take i)).2→q.1∈E.take i∧q.1.gap≠0∧∃ s,q.2=DN L q.1.slip s:=by
  intro i
  induction i with
  | zero=>intro E _ hq;simp [EQ] at hq
  | succ i ih=>
    intro E hi hq;rw [BT (d:=noEvent) (by omega:i<E.length)] at hq ⊢;rw [IQ] at hq;unfold NV at hq
    split at hq
    · exact ⟨List.mem_append_left _ (ih (by omega) hq).1,(ih (by omega) hq).2⟩
    · simp only at hq
      split at hq
      · rename_i hg
        rcases List.mem_append.1 hq with hq | hq
        · exact ⟨List.mem_append_left _ (ih (by omega) hq).1,(ih (by omega) hq).2⟩
        · simp only [List.mem_singleton] at hq;subst hq;exact ⟨by simp,hg,_,rfl⟩
      · exact ⟨List.mem_append_left _ (ih (by omega) hq).1,(ih (by omega) hq).2⟩
theorem lack_len:∀ {xs:List Sh.Event} {q:Hs × List EvH},((xs.foldl (NV L) q).2).length≤q.2.length+xs.length:=by
  intro xs
  induction xs with
  | nil=>intro q;exact Nat.le_refl _
  | cons x r ih=>
    intro q;have h1:=ih (q:=NV L q x);have h2:(NV L q x).2.length≤q.2.length+1:=by
      unfold NV;split
      · omega
      · simp only;split
        · simp
        · omega
    simp only [List.foldl_cons,List.length_cons];omega
variable (g:GoodL L)
include g
theorem lack_count:(EJ L).length≤8:=by
  have h1:=lack_len (L:=L) (xs:=BF L) (q:=([],[]));have h2:=HA (L:=L);have h3:=g.slips;unfold EJ EQ;simp only [List.length_nil] at h1;omega
theorem lack_all {q:EvH} (hq:q∈EJ L):(-1000000≤q.1.gap∧q.1.gap≤1000000)∧(0≤q.1.slip.sort∧q.1.slip.sort≤1)∧∀ w∈q.2,1≤w∧w≤9:=by
  have h1:=lack_in (L:=L) (i:=(BF L).length) (E:=BF L) (Nat.le_refl _) (q:=q) (by rw [List.take_length];exact hq);rw [List.take_length] at h1;obtain ⟨h2,h3,s,h4⟩:=h1;have h5:=gap_small g ⟨q.1.slip.num,q.1.gap⟩ (List.mem_flatMap.2 ⟨q.1,h2,by unfold gapOf;rw [if_pos h3];simp⟩);have h6:=QT (g.slipOf ((CH _).subset (evs_slip h2)));have h7:=g.sorts;refine ⟨h5,by omega,fun w hw=>?_⟩;rw [h4] at hw;unfold DN at hw;have hw2:=(CH _).subset hw;obtain ⟨_,_,_,h8,h9⟩:=holdTo_mem.1 hw2;obtain ⟨k,hk,_,_,h10,_⟩:=(keeper_iff g h9).1 h8;have:=(g.keepOf hk).2;omega
theorem owes_keys:∀ {xs:List EvH},(∀ q∈xs,q∈EJ L)→∀ x∈ER xs,x.1.amt=0∧(1≤x.1.who∧x.1.who≤9)∧(0≤x.1.sort∧x.1.sort≤1):=by
  have aux:∀ {xs:List EvH} {O:Ods},(∀ q∈xs,q∈EJ L)→(∀ x∈O,x.1.amt=0∧(1≤x.1.who∧x.1.who≤9)∧(0≤x.1.sort∧x.1.sort≤1))→∀ x∈xs.foldl PD O,x.1.amt=0∧(1≤x.1.who∧x.1.who≤9)∧(0≤x.1.sort∧x.1.sort≤1):=by
    intro xs
    induction xs with
    | nil=>intro O _ h;exact h
    | cons q r ih=>
      intro O hq h;refine ih (fun y hy=>hq y (by simp [hy])) ?_;unfold PD
      split
      · rename_i hc
        intro x hx;have hk:x.1∈(putO (oweK q) (SS (oweK q) O-q.1.gap) O).map Prod.fst:=List.mem_map_of_mem hx;rw [putO_keys] at hk;have hl:=lack_all g (hq q (by simp));have hnew:x.1=oweK q→x.1.amt=0∧(1≤x.1.who∧x.1.who≤9)∧(0≤x.1.sort∧x.1.sort≤1):=fun e=>by
          rw [e];exact ⟨rfl,hl.2.2 _ (BA (d:=0) (by omega)),hl.2.1⟩
        have hold:x.1∈O.map Prod.fst→x.1.amt=0∧(1≤x.1.who∧x.1.who≤9)∧(0≤x.1.sort∧x.1.sort≤1):=fun e=>by
          obtain ⟨y,hy,e2⟩:=List.mem_map.1 e;rw [← e2];exact h y hy
        split at hk
        · exact hold hk
        · rcases List.mem_append.1 hk with hk | hk
          · exact hold hk
          · exact hnew (List.mem_singleton.1 hk)
      · exact h
  intro xs hq x hx;exact aux hq (fun x hx=>by cases hx) x hx
theorem owes_bound {k:Debt}:∀ {xs:List EvH},(∀ q∈xs,q∈EJ L)→0≤SS k (ER xs)∧SS k (ER xs)≤1000000*xs.length:=by
  have aux:∀ {xs:List EvH} {O:Ods} {B:Int},(∀ q∈xs,q∈EJ L)→(∀ k,0≤SS k O∧SS k O≤B)→∀ k,0≤SS k (xs.foldl PD O)∧SS k (xs.foldl PD O)≤B+1000000*xs.length:=by
    intro xs
    induction xs with
    | nil=>intro O B _ h k;have:=h k;simp only [List.foldl_nil,List.length_nil];omega
    | cons q r ih=>
      intro O B hq h k
      have:=ih (O:=PD O q) (B:=B+1000000) (fun y hy=>hq y (by simp [hy])) (fun j=>by
        have hl:=(lack_all g (hq q (by simp))).1
        unfold PD;split
        · rw [getO_put];have:=h j;have:=h (oweK q);split <;> omega
        · have:=h j;omega) k
      simp only [List.foldl_cons,List.length_cons,Int.natCast_add,Int.natCast_one];omega
  intro xs hq;have:=aux (O:=[]) (B:=0) hq (fun k=>by simp [SS]) k;unfold ER;omega
end
section
variable {O dn td:Ods}
theorem RW (hn:(O.map Prod.fst).Nodup) (ha:∀ x∈O,x.1.amt=0):Strict EX (O.map mkD):=by
  refine ⟨fun a ha' b hb' hne=>?_,fun a _=>?_,fun a _ b _ d _ h1 h2=>?_⟩
  · obtain ⟨p,hp,rfl⟩:=List.mem_map.1 ha'
    obtain ⟨q,hq,rfl⟩:=List.mem_map.1 hb'
    have:¬ (p.1.who=q.1.who∧p.1.sort=q.1.sort):=fun e=>hne (by
      have e1:p.1=q.1:=by
        have h1:=ha p hp;have h2:=ha q hq
        cases hp1:p.1;cases hq1:q.1
        rw [hp1,hq1] at e;rw [hp1] at h1;rw [hq1] at h2
        simp only at e h1 h2
        rw [e.1,e.2,h1,h2]
      have:=nodup_inj hn p hp q hq e1
      rw [this])
    unfold EX mkD;simp only
    split <;> split <;> omega
  · unfold EX;split <;> omega
  · unfold EX at *;split at h1 <;> split at h2 <;> split <;> omega
theorem nodup_debts (hn:(O.map Prod.fst).Nodup) (ha:∀ x∈O,x.1.amt=0):(O.map mkD).Nodup:=by
  have hs:=RW hn ha;rw [List.Nodup,List.pairwise_map];have h1:O.Pairwise fun a b=>a.1≠b.1:=List.pairwise_map.1 hn
  refine List.Pairwise.imp_of_mem (fun {a b} hA hB hab e=>hab ?_) h1;have h2:=ha a hA;have h3:=ha b hB;unfold mkD at e;simp only [Debt.mk.injEq] at e;cases ha1:a.1;cases hb1:b.1;rw [ha1] at h2 e;rw [hb1] at h3 e;simp only at h2 h3 e;rw [e.1,e.2.1,h2,h3]
theorem debts_sorted (hn:(O.map Prod.fst).Nodup) (ha:∀ x∈O,x.1.amt=0) (hp:(dn++td).Perm O) (ht:td=[]):AG EX (dn.map mkD)=AG EX (O.map mkD):=by
  subst ht;rw [List.append_nil] at hp;have hpm:(dn.map mkD).Perm (O.map mkD):=hp.map _;have hs:=RW hn ha;have hnd:=nodup_debts hn ha;exact PZ ((hs.perm hpm).perm (CH _)) ((CH _).trans (hpm.trans (CH _).symm)) (IA (hs.perm hpm) (hpm.nodup_iff.2 hnd)) (IA hs hnd)
theorem small_debts {L:Lin} (g:GoodL L) (hp:(dn++td).Perm (ER (EJ L))):∀ x∈dn.map mkD,RF x:=fun x hx=>by
  obtain ⟨q,hq,rfl⟩:=List.mem_map.1 hx;have:=owes_keys g (xs:=EJ L) (fun _ h=>h) q (hp.subset (List.mem_append_left _ hq));unfold RF mkD;simp only;omega
theorem owes_len:∀ {xs:List EvH},(ER xs).length≤xs.length:=by
  have aux:∀ {xs:List EvH} {O:Ods},(xs.foldl PD O).length≤O.length+xs.length:=by
    intro xs
    induction xs with
    | nil=>intro O;exact Nat.le_refl _
    | cons q r ih=>
      intro O;have h1:=ih (O:=PD O q);have h2:(PD O q).length≤O.length+1:=by
        unfold PD;split
        · have h3:=congrArg List.length (putO_keys (oweK q) (SS (oweK q) O-q.1.gap) O)
          rw [List.length_map] at h3
          split at h3
          · rw [List.length_map] at h3;omega
          · rw [List.length_append,List.length_map,List.length_singleton] at h3;omega
        · omega
      simp only [List.foldl_cons,List.length_cons];omega
  intro xs;have:=aux (xs:=xs) (O:=[]);unfold ER;simp only [List.length_nil] at this;omega
end
def FQ (p:Sh.Event→Bool) (l:List Sh.Event):List Int:=(l.filter p).map fun e=>e.slip.num
section
variable {p:Sh.Event→Bool} {l:List Sh.Event} {x:Sh.Event}
theorem numsP_t (h:p x=true):FQ p l++[x.slip.num]=FQ p (l++[x]):=by unfold FQ;rw [List.filter_append,List.map_append];simp [h]
theorem numsP_f (h:p x=false):FQ p l=FQ p (l++[x]):=by unfold FQ;rw [List.filter_append,List.map_append];simp [h]
theorem numsP_len:(FQ p l).length≤l.length:=by unfold FQ;rw [List.length_map];exact List.length_filter_le _ _
end
def FG (L:Lin):List Int × Int:=if AJ L≠0 then ([],AJ L) else (FQ (fun x=>x.below) (BF L),0)
def GD (L:Lin):List Int × Int:=if AJ L≠0 then ([],AJ L) else (FQ (fun _=>true) (BF L),0)
section
variable {L:Lin}
theorem belowE_1 (h:AJ L≠0):FG L=([],AJ L):=if_pos h
theorem OI (h:AJ L=0):FG L=(FQ (fun x=>x.below) (BF L),0):=if_neg (fun x=>x h)
theorem orderE_1 (h:AJ L≠0):GD L=([],AJ L):=if_pos h
theorem PB (h:AJ L=0):GD L=(FQ (fun _=>true) (BF L),0):=if_neg (fun x=>x h)
end
structure SameB (A B:Lin):Prop where
  places:B.places=A.places
  sorts:B.sorts=A.sorts
  start:B.start=A.start
  keeps:B.keeps=A.keeps
  slips:B.slips.Perm A.slips
theorem good_of {A:Lin} (g:GoodL A) {l:List Slip} (hl:l.length≤8) (hs:∀ s∈l,EC A s=0) (ho:Once l):GoodL ⟨A.places,A.sorts,A.start,A.keeps,l⟩:=by
  refine ⟨g.places,g.sorts,g.start,g.rows,g.nums,g.keeps,g.keep,hl,fun k hk=>?_⟩;have hm:=BA (xs:=l) (d:=AB) hk;have h1:EC ⟨A.places,A.sorts,A.start,A.keeps,l⟩ (l.getD k AB)=0:=hs _ hm;unfold DC;simp only;rw [if_neg (fun x=>x h1),if_neg];intro h;unfold hasNum at h;obtain ⟨x,hx,e⟩:=List.any_eq_true.1 h;obtain ⟨j,hj,rfl⟩:=List.mem_iff_getElem.1 hx;rw [List.length_take] at hj;have e2:=of_decide_eq_true e;rw [List.getElem_take] at e2;have e3:l.getD k AB=l[k]:=by simp [List.getD,hk]
  rw [e3] at e2;have:=(List.getElem_inj (xs:=l.map Slip.num) (i:=j) (j:=k) (h₀:=by rw [List.length_map];omega) (h₁:=by rw [List.length_map];exact hk) ho).1 (by simpa using e2);omega
theorem SameB.eq {A B:Lin} (h:SameB A B):B=⟨A.places,A.sorts,A.start,A.keeps,B.slips⟩:=by
  cases B;obtain ⟨h1,h2,h3,h4,_⟩:=h;simp only at h1 h2 h3 h4;subst h1 h2 h3 h4;rfl
theorem goodB {A B:Lin} (g:GoodL A) (h:SameB A B):GoodL B:=by
  rw [h.eq];refine good_of g (by rw [h.slips.length_eq];exact g.slips) (fun s hs=>g.slipOf (h.slips.subset hs)) ?_;exact (once_perm h.slips).2 g.once
section
variable {A B:Lin} (g:GoodL A) (h:SameB A B)
include g h
theorem LG:BF B=BF A:=by
  unfold BF EA;rw [h.start,show AG AC B.slips=AG AC A.slips from (LI (l:=A.slips) g.once h.slips.symm).symm]
theorem same_order:GD B=GD A:=by rw [PB (CK g),PB (CK (goodB g h)),LG g h]
theorem same_below:FG B=FG A:=by rw [OI (CK g),OI (CK (goodB g h)),LG g h]
theorem same_gaps:GV B=GV A:=by rw [gapsE_2 (CK g),gapsE_2 (CK (goodB g h)),LG g h]
theorem same_atH (n:Int):atH B n=atH A n:=by
  unfold atH EA FD;rw [h.start];have hp:(B.slips.filter fun x=>!decide (n<x.hour)).Perm (A.slips.filter fun x=>!decide (n<x.hour)):=h.slips.filter _;have ho:Once (A.slips.filter fun x=>!decide (n<x.hour)):=g.once.sublist ((List.filter_sublist).map _);rw [show AG AC (B.slips.filter fun x=>!decide (n<x.hour))=AG AC (A.slips.filter fun x=>!decide (n<x.hour)) from (LI ho hp.symm).symm]
theorem same_stock {n:Int} (hn:0≤n∧n≤200):EE B n=EE A n:=by
  have hb:inB n 0 200=true:=by simp [inB,hn.1,hn.2]
  have h1:=g.places;have h2:=g.sorts;rw [PI (k:=A.places.toNat) (s:=A.sorts.toNat) (CK g) hb (by omega) (by omega),PI (k:=A.places.toNat) (s:=A.sorts.toNat) (CK (goodB g h)) hb (by rw [h.places];omega) (by rw [h.sorts];omega),same_atH g h]
omit g in
theorem same_keeper (p n:Int):BL B p n=BL A p n:=by unfold BL;rw [h.keeps]
omit g in
theorem same_hold (p s:Int):∀ n,BZ B p s n=BZ A p s n:=by
  intro n
  induction n with
  | zero=>rfl
  | succ n ih=>simp only [BZ];rw [ih,same_keeper h]
omit g in
theorem same_gstep:NV B=NV A:=by
  funext q e;unfold NV DN;rw [show BZ B=BZ A from by funext p s n;exact same_hold h p s n]
theorem same_lack:EJ B=EJ A:=by unfold EJ EQ;rw [same_gstep h,LG g h]
theorem same_owed:KA B=KA A:=by rw [owedE_2 (CK g),owedE_2 (CK (goodB g h)),same_lack g h]
omit g in
theorem SameB.wo (ns:List Int):SameB (woL A ns) (woL B ns):=⟨h.places,h.sorts,h.start,h.keeps,h.slips.filter _⟩
theorem same_right (ns:List Int):NJ (woL B ns)=NJ (woL A ns):=by
  unfold NJ BF EA;have ho:Once (woL A ns).slips:=g.once.sublist ((List.filter_sublist).map _);rw [show (woL B ns).start=(woL A ns).start from h.start,show AG AC (woL B ns).slips=AG AC (woL A ns).slips from (LI ho (h.wo ns).slips.symm).symm]
theorem same_grow {all:List Int}:∀ m b j,EZ B all m b j=EZ A all m b j:=by
  intro m
  induction m with
  | zero=>intro b j;simp only [EZ];rw [same_right g h]
  | succ m ih=>intro b j;simp only [EZ];congr 1;funext i;exact ih _ _
theorem same_all:allN B=allN A:=by
  unfold allN;have hp:(B.slips.map (·.num)).Perm (A.slips.map (·.num)):=h.slips.map _;exact PZ (strictZ (l:=_)) ((CH _).trans (hp.trans (CH _).symm)) (IA strictZ (hp.nodup_iff.2 g.once)) (IA strictZ g.once)
theorem same_wrong:CG B=CG A:=by
  unfold CG;rw [CK g,CK (goodB g h),same_all g h];simp only [show (fun m=>EZ B (allN A) m [] 0)=fun m=>EZ A (allN A) m [] 0 from by funext m;exact same_grow g h m [] 0]
end
theorem wrong_err {L:Lin} (g:GoodL L):(CG L).2=0∨(CG L).2=11:=by
  unfold CG;rw [if_neg (fun x=>x (CK g))];split
  · exact .inl rfl
  · exact .inr rfl
section
variable {L:Lin} {o:List Int} (ho:o.Perm ((List.range L.slips.length).map fun i:Nat=>(i:Int)))
include ho
end
section
variable {L:Lin} {o:List Int} {k:Nat} (ho:o.Perm ((List.range L.slips.length).map fun i:Nat=>(i:Int)))
include ho
end
theorem stock_ok {L:Lin} {n:Int} (g:GoodL L) (hn:0≤n∧n≤200):(EE L n).2=0:=by
  have hb:inB n 0 200=true:=by simp [inB,hn.1,hn.2]
  have h1:=g.places;have h2:=g.sorts;rw [PI (k:=L.places.toNat) (s:=L.sorts.toNat) (CK g) hb (by omega) (by omega)]
section
variable {L:Lin} (g:GoodL L)
include g
theorem lens_all {n:Int} (hn:0≤n∧n≤200):(GD L).1.length≤8∧(EE L n).1.length≤4∧(GV L).1.length≤8∧(KA L).1.length≤8∧(FG L).1.length≤8:=by
  have h0:=HA (L:=L);have h8:=g.slips;refine ⟨?_,?_,?_,?_,?_⟩
  · rw [PB (CK g)];have:=numsP_len (p:=fun _=>true) (l:=BF L);simp only;omega
  · have hb:inB n 0 200=true:=by simp [inB,hn.1,hn.2]
    have h1:=g.places;have h2:=g.sorts;rw [PI (k:=L.places.toNat) (s:=L.sorts.toNat) (CK g) hb (by omega) (by omega)];simp only;rw [NM];omega
  · rw [gaps_fst g];have:=OP (l:=BF L);omega
  · rw [owedE_2 (CK g)];simp only;rw [(CH _).length_eq,List.length_map]
    have:=owes_len (xs:=EJ L);have:=lack_count g;omega
  · rw [OI (CK g)];have:=numsP_len (p:=fun x=>x.below) (l:=BF L);simp only;omega
end
structure Cov (S XA XB:List Slip):Prop where
  a:XA.Sublist S
  b:XB.Sublist S
  c:∀ s∈S,s∈XA∨s∈XB
abbrev CX (L:Lin) (X:List Slip):Lin:=⟨L.places,L.sorts,L.start,L.keeps,X⟩
section
variable {L:Lin} {XA XB:List Slip} {k:Nat}
theorem Cov.nil:Cov (L.slips.take 0) [] []:=⟨List.nil_sublist _,List.nil_sublist _,fun s h=>by simp at h⟩
theorem Cov.both (h:Cov (L.slips.take k) XA XB) (hk:k<L.slips.length):Cov (L.slips.take (k+1)) (XA++[L.slips.getD k AB]) (XB++[L.slips.getD k AB]):=by
  rw [BT (d:=AB) hk];refine ⟨h.a.append (List.Sublist.refl _),h.b.append (List.Sublist.refl _),fun s hs=>?_⟩;rcases List.mem_append.1 hs with hs | hs
  · exact (h.c s hs).imp (List.mem_append_left _) (List.mem_append_left _)
  · exact .inl (List.mem_append_right _ hs)
theorem Cov.left (h:Cov (L.slips.take k) XA XB) (hk:k<L.slips.length):Cov (L.slips.take (k+1)) (XA++[L.slips.getD k AB]) XB:=by
  rw [BT (d:=AB) hk];refine ⟨h.a.append (List.Sublist.refl _),h.b.trans (List.sublist_append_left _ _),fun s hs=>?_⟩;rcases List.mem_append.1 hs with hs | hs
  · exact (h.c s hs).imp (List.mem_append_left _) id
  · exact .inl (List.mem_append_right _ hs)
theorem Cov.right (h:Cov (L.slips.take k) XA XB) (hk:k<L.slips.length):Cov (L.slips.take (k+1)) XA (XB++[L.slips.getD k AB]):=by
  rw [BT (d:=AB) hk];refine ⟨h.a.trans (List.sublist_append_left _ _),h.b.append (List.Sublist.refl _),fun s hs=>?_⟩;rcases List.mem_append.1 hs with hs | hs
  · exact (h.c s hs).imp id (List.mem_append_left _)
  · exact .inr (List.mem_append_right _ hs)
theorem Cov.lenA (h:Cov (L.slips.take k) XA XB) (g:L.slips.length≤8):XA.length≤8∧XB.length≤8:=by
  have h1:=h.a.length_le;have h2:=h.b.length_le;rw [List.length_take] at h1 h2;omega
theorem Cov.whole (h:Cov (L.slips.take k) XA XB) (hk:L.slips.length≤k):Cov L.slips XA XB:=by rwa [List.take_of_length_le hk] at h
theorem Cov.symm {S:List Slip} (h:Cov S XA XB):Cov S XB XA:=⟨h.b,h.a,fun s hs=>(h.c s hs).symm⟩
variable (g:GoodL L)
include g
theorem part_good {X:List Slip} (h:X.Sublist L.slips):GoodL (CX L X):=
  good_of g (by have h1:=h.length_le;have h2:=g.slips;omega) (fun s hs=>g.slipOf (h.subset hs)) (g.once.sublist (h.map _))
theorem new_in (h:Cov L.slips XA XB) {s:Slip} (hs:s∈L.slips):idxN XA s<0↔s∉XA:=by
  constructor
  · intro h1 h2
    have:=idxF_neg h1;rw [List.any_eq_false] at this;exact this s h2 (by simp)
  · intro h1
    by_cases h2:idxN XA s<0
    · exact h2
    · exfalso
      obtain ⟨i,e,hi,hp,_⟩:=MD (d:=AB) (show 0≤idxN XA s by omega);have hm:=BA (xs:=XA) (d:=AB) hi;have:=once_inj g.once _ (h.a.subset hm) s hs (by simpa using hp);rw [this] at hm;exact h1 hm
theorem cov_perm (h:Cov L.slips XA XB):(mrgS XA XB).Perm L.slips:=by
  have hn:=once_nodup g.once;have hnd:(mrgS XA XB).Nodup:=by
    unfold mrgS;refine List.nodup_append.2 ⟨hn.sublist h.a,(hn.sublist h.b).sublist List.filter_sublist,fun a h1 b h2 e=>?_⟩;subst e;obtain ⟨h3,h4⟩:=List.mem_filter.1 h2;exact (new_in g h (h.b.subset h3)).1 (by simpa [NE] using h4) h1
  refine (List.perm_ext_iff_of_nodup hnd hn).2 fun x=>?_
  unfold mrgS;rw [List.mem_append]
  constructor
  · rintro (h1 | h1)
    · exact h.a.subset h1
    · exact h.b.subset (List.mem_filter.1 h1).1
  · intro hx
    by_cases h1:x∈XA
    · exact .inl h1
    · exact .inr (List.mem_filter.2 ⟨(h.c x hx).resolve_left h1,by simpa [NE] using (new_in g h hx).2 h1⟩)
theorem cov_merge (h:Cov L.slips XA XB):AH (CX L XA) (CX L XB)=(CX L (mrgS XA XB),0):=by
  have e1:=CK (part_good g h.a);have e2:=CK (part_good g h.b);have hz:HJ (CX L XA) (CX L XB)=0:=by unfold HJ;rw [if_pos e1];exact e2
  have hc:XB.any (LR XA)=false:=by
    rw [List.any_eq_false];intro s hs;unfold LR;rw [decide_eq_true_eq]
    rintro ⟨h1,h2⟩
    obtain ⟨i,e,hi,hp,_⟩:=MD (d:=AB) (show 0≤idxN XA s by omega);rw [show idxN XA s=(i:Int) from e,Int.toNat_natCast] at h2;have hm:=BA (xs:=XA) (d:=AB) hi;exact h2 (once_inj g.once _ (h.a.subset hm) s (h.b.subset hs) (by simpa using hp))
  have hl:=(cov_perm g h).length_eq;have h8:=g.slips;unfold AH;rw [if_neg (fun x=>x hz),if_neg (fun x=>x ⟨rfl,rfl,rfl,rfl⟩),if_neg (by rw [show (CX L XB).slips.any (LR (CX L XA).slips)=false from hc];decide),if_neg (show ¬ 8<(mrgS XA XB).length by omega)];rfl
theorem cov_same (h:Cov L.slips XA XB):SameB L (CX L (mrgS XA XB)):=⟨rfl,rfl,rfl,rfl,cov_perm g h⟩
theorem self_merge {X:List Slip} (h:SameB L (CX L X)):AH (CX L X) (CX L X)=(CX L X,0):=by
  have hg:=goodB g h;have hc:Cov (CX L X).slips X X:=⟨List.Sublist.refl _,List.Sublist.refl _,fun s hs=>.inl hs⟩;have e:=cov_merge hg hc;have:mrgS X X=X:=by
    unfold mrgS;rw [List.filter_eq_nil_iff.2,List.append_nil];intro s hs hn;exact (new_in hg hc hs).1 (by simpa [NE] using hn) hs
  rw [this] at e;exact e
end
end Go.Sh
namespace Go.Sl
open Go
section
variable {P:Program} [Jud P] {N:Nat} {ops:Array Oper} {L0:Sl} {i d:Nat} {ty:TypeId}
theorem alOk_mk {x : Operand} {T E bs n : Nat} {z zv : Value} (h1 : DO ops i = some d) (h0 : look d L0 = none) (h2 : supB ops i L0 = true) (hop : FF ops N i = some (some d, .makeSlice T x x, ty, none))
    (hT:JH P T=some E) (hsz:EF P E=some 1) (hz:HG P E=some z) (hzc:z.cells=#[zv]) (hb:KD P E=some bs) (hbs:1≤bs∧bs≤256)
    (hx:BR L0 x=some (.int .i64 (n:Int))) (hn:n≤1000000):AlOk P N ops L0 i d (.bs E n (List.replicate n zv).toArray):=
  ⟨h1,h0,supB_spec h2,fun I M=>LJ hop rfl hT hsz hz hzc hb hbs hx hn (fun b=>⟨b,rfl,rfl,rfl⟩)⟩
theorem alOk_clL {T:TypeId} {cs:Array Value} (h1:DO ops i=some d) (h0:look d L0=none) (h2:noLooks ops i=true) (h3:alAt P N ops L0 i=some (d,T,cs)):AlOk P N ops L0 i d (.cl T cs):=
  ⟨h1,h0,(fun t ht=>by rw [MJ h2] at ht;cases ht),fun I M=>sal d T cs (fun b=>⟨b,rfl,rfl,rfl⟩) h3⟩
end
theorem Own.madeI {E:TypeId} {b n:Nat}:Own E 1 AK (.slice (some ⟨b,0,none⟩) n n) (List.replicate n (0:Int)) [(b,Obj.cells (List.replicate n (Value.int .i64 0)).toArray E (0,0))]:=
  .inr ⟨b,n,[],by rw [List.length_replicate],by simp,by rw [List.append_nil];simp [CQ,AK,List.flatMap_replicate],by rw [List.append_nil,BV,List.length_replicate]⟩
end Go.Sl
namespace Go.Proofs.YtgcemienebmdeaaGreat
open Go Go.Sl Go.Sh
set_option maxRecDepth 100000
noncomputable def c_EqualDebts_ct:=cod Tryz.f34
theorem EqualDebts_ct (I:Imm) (a:Value) (xs:List Debt) (b:Value) (ys:List Debt) (a_f:IsDebts I a xs) (b_f:IsDebts I b ys):CtV Tryz.prog 34 #[a,b] I (.bool (decide (xs=ys))):=by
 obtain ⟨a0,a1,b1,b4,rfl,b2,b3,a7⟩:=id a_f;obtain ⟨a2,a3,b5,b8,rfl,b6,b7,a8⟩:=id b_f;refine fr (args:=[_,_]) (N:=26) Tryz.func34 (fun F=>?_);show Run _ _ (c_EqualDebts_ct []) _ _ [(0,_),(1,_)] _ _;refine rnm (rqr ?_);refine sp 1 [(4,.bool false)] (se (rq (rqr (sp 5 [(10,.bool (!(cmp .eql (↑(xs.length)) (↑(ys.length)))))] (se (rc 10 rfl (fun h1=>?_) (fun h1=>?_)))))))
 ·
  have a4:=h1;have h1:=BN (BP h1);refine rqr (sp 1 [(4,.bool false)] (se (BC (RP (rt1 4 rfl (IR _) ?_)))));exact ⟨by rw [decide_eq_false (fun e=>h1 (by rw [e]))],rfl⟩
 have a4:=h1;have h1:=BG (BI h1);refine AO (NX (rq (rqr (sp 1 [(5,vI 0)] (se (rb 0 ?_))))));refine rl (fun mz a w=>∃ k:Nat,(k≤xs.length)∧(xs.length=ys.length)∧(xs.take k=ys.take k)∧SD 26 [(5,vI ↑k),(0,vS a0 xs.length a1),(1,vS a2 ys.length a3)] I F a w (mz=xs.length-k)) ?_ ?_
 ·intro a w hS hD hW;exact ⟨_,0,Nat.zero_le _,by omega,rfl,hS.sub su,hD,hW,rfl⟩
 rintro mz a w ⟨k,hk,hl,ht,hS,hD,hW,rfl⟩
 refine AU hS hD hW ?_;clear hS hD hW a w;refine rq (rqr (sp 4 [(14,.bool (cmp .lss ↑k (↑(xs.length))))] (se (rc 14 rfl (fun h2=>?_) (fun h2=>?_)))))
 ·
  have a5:=h2;have h2:=CI h2;refine AO (NX (rq (rb 1 (rq ?_))));refine rd0 8 (ox 2 [(18,vI ↑k),(17,vS a0 xs.length a1)] ?_);refine AD (di 19 3 k a7.addr) ?_;refine AD (dln 20 19 61 [vI ((xs.getD k CZ).who),vI ((xs.getD k CZ).sort),vI ((xs.getD k CZ).amt)] rfl (CE (vals:=IG) (fun _=>rfl) a7 k (by omega))) (ox 2 [(22,vI ↑k),(21,vS a2 ys.length a3)] ?_);refine AD (di 23 3 k a8.addr) ?_;refine AD (dln 24 23 61 [vI ((ys.getD k CZ).who),vI ((ys.getD k CZ).sort),vI ((ys.getD k CZ).amt)] rfl (CE (vals:=IG) (fun _=>rfl) a8 k (by omega))) ?_;refine AY (sd (HM (L:=[(0,.i .i64),(1,.i .i64),(2,.i .i64)]) (x:=(.tmp 20)) (y:=(.tmp 24)) (T:=61) (T':=61) (d:=25) (ty:=4) (gd:=none) (by kernel_rfl) rfl (by kernel_rfl) rfl rfl rfl (eqDebt (xs.getD k CZ) (ys.getD k CZ))) (se (rc 25 rfl (fun h3=>?_) (fun h3=>?_))))
  ·
   have a6:=h3;have h3:=SB (BP h3);refine rqr (sp 1 [(4,.bool false)] (se (BC (RB (RP (RP (RB (RP (rt1 4 rfl (IR _) ?_)))))))));exact ⟨by rw [decide_eq_false (KV hl h3)],rfl⟩
  have a6:=h3;have h3:=NT (BI h3);refine AO (NB (NX (rr (sp 1 [(15,vI ↑k)] (sd (da 16 ↑k 1) (sp 1 [(5,vI (↑k+1))] (ee ?_)))))));refine AM (xs.length-(k+1)) (by omega) ?_;intro a w hS hD hW;exact ⟨k+1,by omega,hl,GJ (d:=CZ) hl ht (by omega) h3,hS.sub su,hD,hW,rfl⟩
 have a5:=h2;have h2:=CS h2;refine BW 0 (EP (EP (EB (NX (rqr (sp 1 [(4,.bool true)] (se (BC (rt1 4 rfl (IR _) ?_)))))))));exact ⟨by rw [decide_eq_true (IM hl ht (by omega))],rfl⟩
noncomputable def NQ:=cod Tryz.f21
theorem RC (I:Imm) (l:Value) (L:Lin) (l_f:IsLin I l L) (h1:L.start.length≤1000000) (h2:∀ x∈L.start,x.length≤1000000) (h3:L.keeps.length≤1000000) (h4:L.slips.length≤1000000):Ct Tryz.prog 21 #[l] I ([]) (fun v I' M'=>∃ u1:Value,∃ u2:Value,∃ u3:Value,∃ Ms:Seg,v=.agg #[vI (L).places,vI (L).sorts,u1,u2,u3]∧M'=Ms∧IsRows I' u1 (L).start∧FR I' u2 (L).keeps∧Own 28 8 AV u3 (L).slips Ms):=by
 obtain ⟨l1,l2,l3,rfl,d4,c3,c4⟩:=id l_f;obtain ⟨a6,a7,h8,i1,h5,rfl,h9,i0,i2,i3⟩:=id d4;obtain ⟨a4,a5,i4,i7,rfl,i5,i6,i8⟩:=id c3;obtain ⟨a2,a3,i9,j2,rfl,j0,j1,j3⟩:=id c4;refine fr (args:=[_]) (N:=18) Tryz.func21 (fun F=>?_);show Run _ _ (NQ []) _ _ [(0,_)] _ _;refine rnm (rqr ?_);refine sS (sb 1 26 (AS L (vS a6 L.start.length a7) (vS a4 L.keeps.length a5) (vS a2 L.slips.length a3)) (fun b1=>(sS (sal 2 26 AN (fun b3=>(se (rq ?_)))))));refine rdX (M:=((bX b3 AN 26)::(bX b1 (AS L (vS a6 L.start.length a7) (vS a4 L.keeps.length a5) (vS a2 L.slips.length a3)) 26)::[])) (F0:=F) [(3,6,.sl 50),(7,10,.sl 28)] 12 [(0,true),(1,true),(4,true),(5,true),(8,true),(9,true),(2,false),(11,true),(3,false),(6,false),(7,false),(10,false)] (by simp only [AA,CA,NA,List.append_nil];exact PR _) (JY (alOk_of (ops:=FC (NQ [1,0])) (i:=3) (d:=6) (by kernel_rfl) (by kernel_rfl) (by kernel_rfl)) (JY (alOk_of (ops:=FC (NQ [1,0])) (i:=7) (d:=10) (by kernel_rfl) (by kernel_rfl) (by kernel_rfl)) HI)) ?_;refine AF (dpv 3 (vP b1 2)) ?_;refine AF (dlb 4 1 2 b1 (vS a6 L.start.length a7)) ?_;refine AX (dpv 7 (vP b1 3)) ?_;refine MV (Rx:=((bX b1 (AS L (vS a6 L.start.length a7) (vS a4 L.keeps.length a5) (vS a2 L.slips.length a3)) 26)::[])) (PS _ _ _) (dlb 8 0 3 b1 (vS a4 L.keeps.length a5)) ?_;refine AX (dpv 11 (vP b1 4)) ?_;refine MV (Rx:=((bX b1 (AS L (vS a6 L.start.length a7) (vS a4 L.keeps.length a5) (vS a2 L.slips.length a3)) 26)::[])) (PS _ _ _) (dlb 12 0 4 b1 (vS a2 L.slips.length a3)) ?_;refine DA (Mx:=fun FX=>((bX b3 AN 26)::(bX b1 (AS L (vS a6 L.start.length a7) (vS a4 L.keeps.length a5) (vS a2 L.slips.length a3)) 26)::FX)) rfl (fun FX=>by simp only [AA,CA,NA,List.append_nil];exact PR _) (fun FX=>?_);refine id (sc (some 5) (F:=((bX b3 AN 26)::(bX b1 (AS L (vS a6 L.start.length a7) (vS a4 L.keeps.length a5) (vS a2 L.slips.length a3)) 26)::FX)) (CopyRows_ct _ _ _ d4 (by omega) (by assumption) :) (PR _) (fun j8 I5 j7 d0 h7=>?_));obtain ⟨k1,a8,b6,h0,g9,d5,c1⟩:=h7;rw [h0,g9];clear h0 g9;replace c3:=c3.mono d0;replace c4:=c4.mono d0;obtain ⟨a0,a1,rfl,h6⟩:=d5.shape;have c2:=c1.1
 try simp only [LS,LA,LC,LN,LK] at c2
 refine EV (M1:=((bX b3 AN 26)::(bX b1 (AS L (vS a6 L.start.length a7) (vS a4 L.keeps.length a5) (vS a2 L.slips.length a3)) 26)::(b6++[]))) (by simp only [AA,CA,NA,List.append_nil];exact (PW PM)) (.part (PS _ _ _) (.none (.part (PS _ _ _) (.none (.wt (.wt .nil)))))) ?_;show OFPX _ _ _ _ _ _ _ _ _ _ ((5,vS a0 a8.length a1)::_) _ _;refine AX (dpv 14 (vP b1 2)) ?_;refine ofx_al rfl (fun d7=>?_);refine DA (Mx:=fun FX=>((bX d7 #[] 50)::(bX b3 AN 26)::(bX b1 (AS L (vS a6 L.start.length a7) (vS a4 L.keeps.length a5) (vS a2 L.slips.length a3)) 26)::(b6++FX))) rfl (fun FX=>by simp only [AA,CA,NA,List.append_nil];exact PR _) (fun FX=>?_);have g2:Own 50 3 HS (vS (some ⟨d7,0,none⟩) 0 0) ([]:List Keep) [(bX d7 #[] 50)]:=Own.lit rfl rfl;refine id (sap (d:=9) 6 8 23 50 3 24 (.agg #[vI 0,vI 0,vI 0]) HS ([]:List Keep) L.keeps [(bX d7 #[] 50)] rfl rfl g2 (PR _) (ML _) c3.src (fun k2 b8 d1=>?_));rw [NA] at d1;refine EV (M1:=((bX b3 AN 26)::(bX b1 (AS L (vS a6 L.start.length a7) (vS a4 L.keeps.length a5) (vS a2 L.slips.length a3)) 26)::(b8++(b6++[])))) (by simp only [AA,CA,NA,List.append_nil];exact (PW PM)) (.none (.part (PS _ _ _) (.none (.wt (.wt (.wt (.wt .nil))))))) ?_;obtain ⟨a9,b0,rfl,j5⟩:=d1.shape;show OFPX _ _ _ _ _ _ _ _ _ _ ((9,vS a9 L.keeps.length b0)::_) _ _;refine ofx_al rfl (fun d8=>?_);refine DA (Mx:=fun FX=>((bX d8 #[] 28)::(bX b3 AN 26)::(bX b1 (AS L (vS a6 L.start.length a7) (vS a4 L.keeps.length a5) (vS a2 L.slips.length a3)) 26)::(b8++(b6++FX)))) rfl (fun FX=>by simp only [AA,CA,NA,List.append_nil];exact PR _) (fun FX=>?_);have g3:Own 28 8 AV (vS (some ⟨d8,0,none⟩) 0 0) ([]:List Slip) [(bX d8 #[] 28)]:=Own.lit rfl rfl;refine id (sap (d:=13) 10 12 24 28 8 64 (.agg JK) AV ([]:List Slip) L.slips [(bX d8 #[] 28)] rfl rfl g3 (PR _) (CJ _) c4.src (fun k3 b7 d2=>?_));rw [NA] at d2;refine EV (M1:=((bX b3 AN 26)::(bX b1 (AS L (vS a6 L.start.length a7) (vS a4 L.keeps.length a5) (vS a2 L.slips.length a3)) 26)::(b7++(b8++(b6++[]))))) (by simp only [AA,CA,NA,List.append_nil];exact (PW PM)) (.none (.wt (.wt (.wt (.wt (.wt (.wt .nil))))))) ?_;obtain ⟨b2,b4,rfl,j6⟩:=d2.shape;show OFPX _ _ _ _ _ _ _ _ _ _ ((13,vS b2 L.slips.length b4)::_) _ _;refine FP (AW (M':=((bX b3 AN 26)::(bX b1 (AS L (vS a6 L.start.length a7) (vS a4 L.keeps.length a5) (vS a2 L.slips.length a3)) 26)::(b7++(b8++(b6++F))))) (fun w h=>by simpa only [AA,CA,NA,List.append_nil] using h) (nm ?_));refine sS (ss 1 2 b1 [vS a0 a8.length a1] (CY L (vS a0 a8.length a1) (vS a4 L.keeps.length a5) (vS a2 L.slips.length a3)) (_::_::_) (cs:=[_,_,_,_,_]) rfl rfl (sp 1 [(15,vP b1 3)] (sS (ss 1 3 b1 [vS a9 L.keeps.length b0] (CY L (vS a0 a8.length a1) (vS a9 L.keeps.length b0) (vS a2 L.slips.length a3)) (_::_::_) (cs:=[_,_,_,_,_]) rfl rfl (sp 1 [(16,vP b1 4)] (sS (ss 1 4 b1 [vS b2 L.slips.length b4] (CY L (vS a0 a8.length a1) (vS a9 L.keeps.length b0) (vS b2 L.slips.length b4)) (_::_::_) (cs:=[_,_,_,_,_]) rfl rfl (se (rq ?_)))))))));refine BS (B:=((bX b3 AN 26)::(bX b1 (AS L (vS a0 a8.length a1) (vS a9 L.keeps.length b0) (vS b2 L.slips.length b4)) 26)::(b7++(b8++F)))) undef d5 (by first | omega | (simp only [LS,LC,LN,LA,LK,LD] <;> omega) | decide) (PU (PU (PV (PO _ _ _)))) (PR _) (fun j9 c5 b9=>?_);replace c1:=c1.mono c5;obtain ⟨e8,f0,e9,f3,c8,f1,f2,f4⟩:=id b9;cases c8;have b5:=c1.isRows b9;have d3:=c1.1;obtain ⟨e0,e2,e1,e5,d9,c7,e3,e4,e6,e7⟩:=id b5
 injection c7 with fr28_e1 fr28_e2 fr28_e3;subst fr28_e1;subst fr28_e3
 refine BS (B:=((bX b3 AN 26)::(bX b1 (AS L (vS a0 a8.length a1) (vS a9 L.keeps.length b0) (vS b2 L.slips.length b4)) 26)::(b7++F))) AQ d1 (by first | omega | (simp only [LS,LC,LN,LA,LK,LD] <;> omega) | decide) (PU (PU (PO _ _ _))) (PR _) (fun k0 c6 c0=>?_);replace b5:=b5.mono c6;obtain ⟨f5,f7,f6,g0,c9,f8,f9,g1⟩:=id c0;cases c9;refine rr (sd (dnb 17 1 0 b1 (CY L (vS a0 a8.length a1) (vS a9 L.keeps.length b0) (vS b2 L.slips.length b4))) (sS (ss 0 0 b3 (CY L (vS a0 a8.length a1) (vS a9 L.keeps.length b0) (vS b2 L.slips.length b4)) (CY L (vS a0 a8.length a1) (vS a9 L.keeps.length b0) (vS b2 L.slips.length b4)) (_::_::_) (cs:=[_,_,_,_,_]) rfl rfl (se (BC (ppm (M':=(b7++(bX b3 (AS L (vS a0 a8.length a1) (vS a9 L.keeps.length b0) (vS b2 L.slips.length b4)) 26)::(bX b1 (AS L (vS a0 a8.length a1) (vS a9 L.keeps.length b0) (vS b2 L.slips.length b4)) 26)::F)) (PU PM.symm) (GG (t:=2) (T:=26) (n:=5) b7 (by kernel_rfl) rfl (by kernel_rfl) rfl (GI (n:=5) (cs:=(AS L (vS a0 a8.length a1) (vS a9 L.keeps.length b0) (vS b2 L.slips.length b4))) (b:=b3) (off:=0) (T:=26) (fz:=(0,0)) (vs:=(CY L (vS a0 a8.length a1) (vS a9 L.keeps.length b0) (vS b2 L.slips.length b4))) (by simp) rfl) (.inl ⟨by kernel_rfl,rfl⟩) (TA (TC _ (TC _ (TR _))) _) (IT (IT d0 c5) c6) ?_)))))));exact ⟨_,_,_,_,rfl,rfl,b5,c0,d2⟩
noncomputable def c_owed1:=cod Tryz.f82
theorem owed1_ct (I:Imm) (a:Debt) (b:Debt) (hr:RF a∧RF b):CtV Tryz.prog 82 #[.agg #[vI a.who,vI a.sort,vI a.amt],.agg #[vI b.who,vI b.sort,vI b.amt]] I (vI (EX a b)):=by
 refine fr (args:=[_,_]) (N:=20) Tryz.func82 (fun F=>?_);show Run _ _ (c_owed1 []) _ _ [(0,_),(1,_)] _ _;refine rnm ?_;obtain ⟨⟨hr1,hr2,hr3,hr4⟩,hr5,hr6,hr7,hr8⟩:=hr;refine rqr (sS (sb 2 61 #[vI a.who,vI a.sort,vI a.amt] (fun b1=>(sS (sb 3 61 #[vI b.who,vI b.sort,vI b.amt] (fun b3=>(sp 1 [(4,vI 0)] (se (rq (rqr (sp 1 [(5,vP b1 0)] (sd (dlb 6 1 0 b1 (vI a.who)) (sp 1 [(7,vP b3 0)] (sd (dlb 8 0 0 b3 (vI b.who)) (sp 1 [(9,.bool (!(cmp .eql a.who b.who)))] (se (rc 9 rfl (fun h1=>?_) (fun h1=>?_))))))))))))))))))
 ·
  have a0:=h1;have h1:=BN (BP h1);refine rqr (sp 1 [(10,vP b1 0)] (sd (dlb 11 1 0 b1 (vI a.who)) (sp 1 [(12,vP b3 0)] (sd (dlb 13 0 0 b3 (vI b.who)) (sd (dsb 14 a.who b.who) (sp 1 [(4,vI (a.who-b.who))] (se (BC (RP (FL 4 [] rfl (TC _ (TC _ (TR _))) (IR _) ?_))))))))));exact ⟨congrArg (Value.int .i64) (if_pos h1).symm,rfl⟩
 have a0:=h1;have h1:=BG (BI h1);refine AO (NX (rqr (sp 1 [(15,vP b1 1)] (sd (dlb 16 1 1 b1 (vI a.sort)) (sp 1 [(17,vP b3 1)] (sd (dlb 18 0 1 b3 (vI b.sort)) (sd (dsb 19 a.sort b.sort) (sp 1 [(4,vI (a.sort-b.sort))] (se (BC (FL 4 [] rfl (TC _ (TC _ (TR _))) (IR _) ?_)))))))))));exact ⟨congrArg (Value.int .i64) (if_neg (fun x=>x h1)).symm,rfl⟩
noncomputable def c_insSortD:=cod Tryz.f167
theorem insSortD_ct (I:Imm) (d:Value) (xs:List Debt) (d_Ms:Seg) (u:Nat) (v:Nat) (d_h:Own 61 3 DG d xs d_Ms) (h0:u=0) (hb:v=xs.length) (hsm:∀ x∈xs,RF x) (hl:xs.length≤1000000):Ct Tryz.prog 167 #[d,vI ↑u,vI ↑v,.func (.func 82) #[] #[]] I d_Ms (fun v I' M'=>∃ d_Mt:Seg,v=.tuple #[]∧M'=d_Mt∧Own 61 3 DG d (AG EX xs) d_Mt):=by
 obtain ⟨a3,a4,rfl,c7⟩:=d_h.shape;refine fr (args:=[_,_,_,_]) (N:=53) Tryz.func167 (fun F=>?_);show Run _ _ (c_insSortD []) _ _ [(0,_),(1,_),(2,_),(3,_)] _ _;refine rnm (rqr ?_);refine sp 1 [(10,vI ↑u)] (sd (da 11 ↑u 1) (BM 11 rfl (show (vI (↑u+1):Value)=vI (↑(1:Nat)) from congrArg (Value.int .i64) (by omega)) (sp 1 [(8,vI (↑(1:Nat)))] (se (rb 0 ?_)))));refine rl (fun mz a w=>∃ i:Nat,∃ zs:List Debt,∃ a2:Seg,(1≤i)∧(InsI EX xs zs i)∧(zs.Perm xs)∧(Own 61 3 DG (vS a3 xs.length a4) zs a2)∧SD 53 [(0,(vS a3 xs.length a4)),(8,vI ↑i),(1,vI ↑u),(2,vI ↑v),(3,.func (.func 82) #[] #[])] I (a2++F) a w (mz=xs.length-i)) ?_ ?_
 ·intro a w hS hD hW;exact ⟨_,1,xs,d_Ms,Nat.le_refl _,InsI.start,PR _,d_h,hS.sub su,hD,hW,rfl⟩
 rintro mz a w ⟨i,zs,a2,c8,b1,c5,a8,hS,hD,hW,rfl⟩
 refine AU hS hD hW ?_;have d1:=b1.len;refine rq (rqr (sp 3 [(14,.bool (cmp .lss ↑i ↑v))] (se (rc 14 rfl (fun h1=>?_) (fun h1=>?_)))))
 ·
  have c1:=h1;have h1:=CI h1;refine AO (NX (rq (rb 1 (rqr (sp 2 [(9,vI ↑i)] (se (rb 2 ?_)))))));refine rl (fun mz a w=>∃ j:Nat,∃ ys:List Debt,∃ a0:Seg,(InsAt EX CZ xs ys i j)∧(ys.Perm xs)∧(Own 61 3 DG (vS a3 xs.length a4) ys a0)∧SD 53 [(0,(vS a3 xs.length a4)),(9,vI ↑j),(1,vI ↑u),(2,vI ↑v),(3,.func (.func 82) #[] #[]),(8,vI ↑i)] I (a0++F) a w (mz=j+1)) ?_ ?_
  ·intro a w hS hD hW;exact ⟨_,i,zs,a2,b1.into (by omega),c5,a8,hS.sub su,hD,hW,rfl⟩
  rintro mz a w ⟨j,ys,a0,b9,a7,a1,hS,hD,hW,rfl⟩
  refine AU hS hD hW ?_;have d0:=b9.len;have c9:=b9.1;refine rq (rq ?_);refine DB (fun a w=>SE 53 [(0,vS a3 xs.length a4),(1,vI ↑u),(2,vI ↑v),(3,.func (.func 82) #[] #[]),(8,vI ↑i),(9,vI ↑j),(34,.bool ((cmp .gtr ↑j ↑u)&&(cmp .lss (EX (ys.getD j CZ) (ys.getD ((↑j-1:Int).toNat) CZ)) 0)))] I (a0++F) a w) ?_ ?_
  ·
   refine rd0 14 (ox 4 [(21,.bool (cmp .gtr ↑j ↑u))] ?_);refine JA 21 (fun h2=>?_) (fun h2=>?_)
   ·
    have a5:=h2;have a5:=MB a5;refine ox 3 [(24,vI ↑j),(23,vS a3 xs.length a4),(22,.func (.func 82) #[] #[])] ?_;obtain ⟨d2,b5⟩:=a1.row CZ;refine AD (di 25 3 j (fun _=>b5.addr (by omega)) (n:=xs.length)) ?_;refine AD (dn 26 (HD (vals:=IG) (fun _=>rfl) b5 (fun x hx=>by simp [hx]) j (by omega))) (ox 2 [(28,vI ↑j),(27,vS a3 xs.length a4)] ?_);refine AD (dsb 29 ↑j 1) ?_;obtain ⟨d3,b6⟩:=a1.row CZ;refine AD (diI 30 3 (↑j-1) (fun _=>b6.addr (by omega)) (n:=xs.length)) ?_;refine AD (dn 31 (HD (vals:=IG) (fun _=>rfl) b6 (fun x hx=>by simp [hx]) ((↑j-1:Int).toNat) (by omega))) ?_;refine AY (sd (dc 32 (fun I' hI=>(owed1_ct I' (ys.getD j CZ) (ys.getD ((↑j-1:Int).toNat) CZ) (by exact ⟨hsm _ (a7.subset (BA (by omega))),hsm _ (a7.subset (BA (by omega)))⟩) :))) (sp 2 [(34,.bool (cmp .lss (EX (ys.getD j CZ) (ys.getD ((↑j-1:Int).toNat) CZ)) 0))] (ee ?_)));refine AP (fun a w hS hD hW=>⟨hS.sub (sun 6 (.consE 34 rfl (congrArg Value.bool (by simp only [h2,kk])) (.nil _))),hD,hW⟩)
   have a5:=h2;have a5:=SC a5;refine ox 10 [(31,undef),(26,undef),(22,undef)] ?_;refine AY (sp 3 [(34,.bool false)] (ee ?_));refine AP (fun a w hS hD hW=>⟨hS.sub (sun 6 (.consE 34 rfl (congrArg Value.bool (by simp only [h2,kk])) (.nil _))),hD,hW⟩)
  rintro a w ⟨hS,hD,hW⟩
  refine AU hS hD hW ?_;refine rc 34 rfl (fun h3=>?_) (fun h3=>?_)
  ·
   have c2:=h3;obtain ⟨b3,b0⟩:=PY h3;have b3:=MB b3;have b0:=CI b0;refine AO (NX (rq (rb 3 ?_)));refine rdX (M:=(a0++[])) (F0:=F) [] 16 [(0,true),(1,true),(2,true),(3,true),(4,true),(5,true),(6,true),(7,true),(8,true),(9,true),(10,true),(11,true),(12,true),(13,true),(14,true),(15,false)] (by simp only [AA,CA,NA,List.append_nil];exact PR _) HI ?_;refine AF (dpv 37 (vS a3 xs.length a4)) ?_;refine AF (dpv 38 (vI ↑j)) ?_;refine AX (dpv 39 (vS a3 xs.length a4)) ?_;refine AX (dpv 40 (vI ↑j)) ?_;refine AX (dsb 41 ↑j 1) ?_;refine AF (dpv 42 (vS a3 xs.length a4)) ?_;refine AF (dpv 43 (vI ↑j)) ?_;refine AF (dsb 44 ↑j 1) ?_;obtain ⟨d4,b7⟩:=a1.row CZ;refine AF (diI 45 3 (↑j-1) (fun _=>b7.addr (by omega)) (n:=xs.length)) ?_;refine AF (dn 46 (HD (vals:=IG) (fun _=>rfl) b7 (fun x hx=>by simp [hx]) ((↑j-1:Int).toNat) (by omega))) ?_;refine AF (dpv 47 (vS a3 xs.length a4)) ?_;refine AF (dpv 48 (vI ↑j)) ?_;obtain ⟨d5,b8⟩:=a1.row CZ;refine AF (di 49 3 j (fun _=>b8.addr (by omega)) (n:=xs.length)) ?_;refine AF (dn 50 (HD (vals:=IG) (fun _=>rfl) b8 (fun x hx=>by simp [hx]) j (by omega))) ?_;obtain ⟨d6,a9⟩:=a1.row CZ;refine AF (di 51 3 j (fun _=>a9.addr (by omega)) (n:=xs.length)) ?_;refine DA (Mx:=fun FX=>(a0++FX)) rfl (fun FX=>by simp only [AA,CA,NA,List.append_nil];exact PR _) (fun FX=>?_);refine id (FY (T:=61) (x:=(.tmp 51)) (y:=(.tmp 46)) (rc:=fun i f=>DG ((ys).getD i CZ) f) CZ j (ys.getD ((↑j-1:Int).toNat) CZ) (ty:=0) (gd:=none) (by kernel_rfl) rfl a1 a9 (by omega) rfl rfl (by kernel_rfl) rfl (one1_debt _) (PR _) (fun b2 b4=>?_));refine EV (M1:=(b2++[])) (by simp only [AA,CA,NA,List.append_nil];exact (PR _)) (.wt (.wt (.wt (.wt (.wt (.wt (.wt (.wt (.wt (.wt (.none (.none (.none (.wt (.wt .nil))))))))))))))) ?_;refine FP (AW (M':=(b2++F)) (fun w h=>by simpa only [AA,CA,NA,List.append_nil] using h) (nm ?_));obtain ⟨c6,a6⟩:=b4.row CZ;simp only [LS] at a6;refine sd (diI 52 3 (↑j-1) (fun _=>a6.addr (by omega)) (n:=xs.length)) (sS (FY (T:=61) (x:=(.tmp 52)) (y:=(.tmp 50)) (rc:=fun i f=>DG ((ys.set j (ys.getD ((↑j-1:Int).toNat) CZ)).getD i CZ) f) CZ ((↑j-1:Int).toNat) (ys.getD j CZ) (ty:=0) (gd:=none) (by kernel_rfl) rfl b4 (by simpa only [LS] using a6) (by simp only [LS];omega) rfl rfl (by kernel_rfl) rfl (one1_debt _) (PR _) (fun c0 c3=>(nm (ee (NB (NX (rr ?_))))))));refine sp 1 [(35,vI ↑j)] (sd (dsb 36 ↑j 1) (sp 1 [(9,vI (↑j-1))] (ee ?_)));refine AM ((↑j-1:Int).toNat+1) (by omega) ?_;intro a w hS hD hW;exact ⟨(↑j-1:Int).toNat,(ys.set j (ys.getD ((↑j-1:Int).toNat) CZ)).set ((↑j-1:Int).toNat) (ys.getD j CZ),c0,b9.step (by omega) b0,(swapG (by omega) (by omega)).trans a7,c3,hS.sub (.consE 0 rfl rfl (.consE 9 rfl (congrArg (Value.int .i64) (by omega)) su)),hD,hW,rfl⟩
  have c2:=h3;refine BW 2 (EP (EP (EB (NB (NX (rr (sp 1 [(15,vI ↑i)] (sd (da 16 ↑i 1) (sp 1 [(8,vI (↑i+1))] (ee ?_))))))))));refine AM (xs.length-(i+1)) (by omega) ?_;intro a w hS hD hW;exact ⟨i+1,ys,a0,by omega,b9.done2 h0 h3,a7,a1,hS.sub su,hD,hW,rfl⟩
 have c1:=h1;have h1:=CS h1;refine BW 0 (EP (EP (EB ?_)));refine EL a2 (by kernel_rfl) (TA (TR _) _) (IR _) ?_;exact ⟨_,rfl,rfl,((b1.done (by omega))▸a8)⟩
noncomputable def c_stableD:=cod Tryz.f152
theorem stableD_ct (I:Imm) (d:Value) (xs:List Debt) (d_Ms:Seg) (v:Nat) (d_h:Own 61 3 DG d xs d_Ms) (hb:v=xs.length) (hsm:∀ x∈xs,RF x) (hl:xs.length<20):Ct Tryz.prog 152 #[d,vI ↑v,.func (.func 82) #[] #[]] I d_Ms (fun v I' M'=>∃ d_Mt:Seg,v=.tuple #[]∧M'=d_Mt∧Own 61 3 DG d (AG EX xs) d_Mt):=by
 obtain ⟨a1,a2,rfl,b2⟩:=d_h.shape;refine fr (args:=[_,_,_]) (N:=63) Tryz.func152 (fun F=>?_);show Run _ _ (c_stableD []) _ _ [(0,_),(1,_),(2,_)] _ _;refine rnm (rqr ?_);refine sp 1 [(6,vI 20)] (sn (sp 3 [(8,vI 20),(7,vI 0)] (se (rq (rb 0 ?_)))));refine rl (fun mz a w=>∃ k:Nat,(k=0)∧SD 63 [(7,vI 0),(8,vI 20),(0,vS a1 xs.length a2),(1,vI ↑v),(2,.func (.func 82) #[] #[]),(6,vI 20)] I (d_Ms++F) a w (mz=k+1)) ?_ ?_
 ·intro a w hS hD hW;exact ⟨_,0,rfl,hS.sub su,hD,hW,rfl⟩
 rintro mz a w ⟨k,b0,hS,hD,hW,rfl⟩
 refine AU hS hD hW ?_;refine rq (rqr (sp 3 [(13,.bool (cmp .leq (↑(20:Nat)) ↑v))] (se (rc 13 rfl (fun h1=>?_) (fun h1=>?_)))))
 ·
  have a3:=h1;have h1:=leq_t h1;omega
 have a3:=h1;have h1:=leq_f h1;refine BW 0 (EP (EP (EB (NX (rqr (sp 4 [(26,.func (.func 82) #[] #[]),(25,vI ↑v),(24,vI (↑(0:Nat))),(23,vS a1 xs.length a2)] (sS (sc (some 27) (F:=(F)) (insSortD_ct _ _ _ _ 0 v d_h (by rfl) (by omega) (by exact hsm) (by omega) :) (.refl _) (fun b4 I1 b3 a5 b1=>?_)))))))));obtain ⟨a0,a8,a7,a6⟩:=b1;rw [a8,a7];clear a8 a7;refine nm (se (rb 2 ?_));refine rl (fun mz a w=>∃ k:Nat,(k=0)∧SD 63 [(6,vI 20),(0,vS a1 xs.length a2),(1,vI ↑v),(2,.func (.func 82) #[] #[])] I1 (a0++F) a w (mz=k+1)) ?_ ?_
 ·intro a w hS hD hW;exact ⟨_,0,rfl,hS.sub su,hD,hW,rfl⟩
 rintro mz a w ⟨k,b0,hS,hD,hW,rfl⟩
 refine AU hS hD hW ?_;refine rq (rqr (sp 3 [(30,.bool (cmp .lss (↑(20:Nat)) ↑v))] (se (rc 30 rfl (fun h2=>?_) (fun h2=>?_)))))
 ·
  have a4:=h2;have h2:=CI h2;omega
 have a4:=h2;have h2:=CS h2;refine BW 2 (EP (EP (EB ?_)));refine EL a0 (by kernel_rfl) (TA (TR _) _) a5 ?_;exact ⟨_,rfl,rfl,a6⟩
noncomputable def c_SortStableD:=cod Tryz.f135
theorem SortStableD_ct (I:Imm) (d:Value) (xs:List Debt) (d_Ms:Seg) (d_h:Own 61 3 DG d xs d_Ms) (hsm:∀ x∈xs,RF x) (hl:xs.length<20):Ct Tryz.prog 135 #[d,.func (.func 82) #[] #[]] I d_Ms (fun v I' M'=>∃ d_Mt:Seg,v=.tuple #[]∧M'=d_Mt∧Own 61 3 DG d (AG EX xs) d_Mt):=by
 obtain ⟨a3,a4,rfl,a9⟩:=d_h.shape;refine fr (args:=[_,_]) (N:=9) Tryz.func135 (fun F=>?_);show Run _ _ (c_SortStableD []) _ _ [(0,_),(1,_)] _ _;refine rnm (rr ?_);refine sp 4 [(7,.func (.func 82) #[] #[]),(6,vI (↑(xs.length))),(4,vS a3 xs.length a4)] (sS (sc (some 8) (F:=(F)) (stableD_ct _ _ _ _ xs.length d_h (by rfl) (by exact hsm) (by omega) :) (.refl _) (fun b1 I1 b0 a1 a8=>?_)));obtain ⟨a0,a6,a5,a2⟩:=a8;rw [a6,a5];clear a6 a5;refine nm (ee ?_);refine EL a0 (by kernel_rfl) (TA (TR _) _) a1 ?_;exact ⟨_,rfl,rfl,a2⟩
noncomputable def c_CloneDebt:=cod Tryz.f134
theorem CloneDebt_ct (I:Imm) (z:Value) (xs:List Debt) (z_f:IsDebts I z xs) (hl:xs.length≤1000000):Ct Tryz.prog 134 #[z] I ([]) (fun v I' M'=>∃ u:Value,∃ Ms:Seg,v=u∧M'=Ms∧Own 61 3 DG u xs Ms):=by
 obtain ⟨a2,a3,b3,b6,rfl,b4,b5,b0⟩:=id z_f;refine fr (args:=[_]) (N:=8) Tryz.func134 (fun F=>?_);show Run _ _ (c_CloneDebt []) _ _ [(0,_)] _ _;refine rnm (rqr ?_);refine sp 1 [(2,vN)] (se (rq (rqr (sp 1 [(3,vS a2 xs.length a3)] (sd (OM (e:=61) (x:=(.tmp 3)) (y:=(.const vN)) (T:=53) (T':=53) (d:=4) (ty:=4) (gd:=none) (by kernel_rfl) rfl (by kernel_rfl) rfl rfl) (se (rc 4 rfl (fun h1=>?_) (fun h1=>?_))))))))
 ·
  have a0:=h1;refine rqr (sp 1 [(2,vN)] (se (BC (RP ?_))));obtain rfl:=b0.nil h1;refine MX (t:=2) ([]) (by kernel_rfl) rfl (TR _) (IR _) ?_;exact ⟨_,_,rfl,rfl,Own.nil _ _ _⟩
 have a0:=h1;refine AO (NX (rqr (sS (sbs 5 61 0 #[] (fun b1=>(sp 1 [(6,vS a2 xs.length a3)] ?_))))));have a5:Own 61 3 DG (vS (some ⟨b1,0,none⟩) 0 0) ([]:List Debt) [(bX b1 #[] 61)]:=Own.lit rfl rfl;refine sS (sap (d:=7) 5 6 53 61 3 24 (.agg #[vI 0,vI 0,vI 0]) DG ([]:List Debt) xs [(bX b1 #[] 61)] rfl rfl a5 (PR _) (RR _) z_f.src (fun v4 a4 a1=>?_));rw [NA] at a1;refine nm ?_;obtain ⟨a6,a7,rfl,b2⟩:=a1.shape;refine sp 1 [(2,vS a6 xs.length a7)] (se (BC (FL 2 a4 rfl (TA (TR _) _) (IR _) ?_)));exact ⟨_,_,rfl,rfl,a1⟩
noncomputable def c_sortedD:=cod Tryz.f81
theorem sortedD_ct (I:Imm) (s:Value) (xs:List Debt) (s_f:IsDebts I s xs) (hsm:∀ x∈xs,RF x) (hl:xs.length<20):Ct Tryz.prog 81 #[s,.func (.func 82) #[] #[]] I ([]) (fun v I' M'=>∃ u:Value,∃ Ms:Seg,v=u∧M'=Ms∧Own 61 3 DG u (AG EX xs) Ms):=by
 obtain ⟨b3,b4,c4,c7,rfl,c5,c6,c8⟩:=id s_f;refine fr (args:=[_,_]) (N:=12) Tryz.func81 (fun F=>?_);show Run _ _ (c_sortedD []) _ _ [(0,_),(1,_)] _ _;refine rnm (rqr ?_);refine sp 1 [(4,vN)] (sn (sp 1 [(6,vS b3 xs.length b4)] (sS (sc (some 7) (CloneDebt_ct _ _ _ s_f (by omega) :) (.refl _) (fun c3 I1 b6 a7 b5=>?_)))));obtain ⟨u6,c2,b1,b0,b2⟩:=b5;rw [b1,b0];clear b1 b0;obtain ⟨a1,a2,rfl,c0⟩:=b2.shape;refine nm ?_;refine sp 1 [(5,vS a1 xs.length a2)] (sn (sp 2 [(9,.func (.func 82) #[] #[]),(8,vS a1 xs.length a2)] (sS (sc (some 10) (F:=(F)) (SortStableD_ct _ _ _ _ b2 (by exact hsm) (by omega) :) (.refl _) (fun b8 c1 b7 a3 a8=>?_)))));obtain ⟨a0,a5,a4,a6⟩:=a8;rw [a5,a4];clear a5 a4;refine nm (sn ?_);refine sp 2 [(4,vS a1 xs.length a2)] (se (BC (FL 4 a0 rfl (TA (TR _) _) (IT a7 a3) ?_)));exact ⟨_,_,rfl,rfl,a6⟩
noncomputable def c_isNaN:=cod Tryz.f174
theorem isNaN_ct (I:Imm) (x:Int):CtV Tryz.prog 174 #[vI x] I (.bool false):=by
 refine fr (args:=[_]) (N:=6) Tryz.func174 (fun F=>?_);show Run _ _ (c_isNaN []) _ _ [(0,_)] _ _;refine rnm (rqr ?_);refine sp 1 [(2,.bool false)] (sn (sp 4 [(2,.bool (!(cmp .eql x x)))] (se (BC (rt1 2 rfl (IR _) ?_)))));exact ⟨congrArg Value.bool (by simp [cmp]),rfl⟩
noncomputable def c_Less:=cod Tryz.f159
theorem Less_ct (I:Imm) (x:Int) (y:Int):CtV Tryz.prog 159 #[vI x,vI y] I (.bool (cmp .lss (cmpZ x y) 0)):=by
 refine fr (args:=[_,_]) (N:=17) Tryz.func159 (fun F=>?_);show Run _ _ (c_Less []) _ _ [(0,_),(1,_)] _ _;refine rnm (rqr ?_);refine sp 1 [(4,.bool false)] (se (rq ?_));refine DB (fun a w=>SE 17 [(4,.bool (cmp .lss x y))] I F a w) ?_ ?_
 ·
  refine rr (sp 1 [(5,vI x)] (sd (dc 6 (fun I' hI=>(isNaN_ct I' x :))) (sp 11 [(4,.bool (cmp .lss x y))] (ee ?_))));refine AP (fun a w hS hD hW=>⟨hS.sub su,hD,hW⟩)
 rintro a w ⟨hS,hD,hW⟩
 refine AU hS hD hW ?_;refine BC (rt1 4 rfl (IR _) ?_);exact ⟨congrArg Value.bool less_cmpZ,rfl⟩
noncomputable def c_Len64:=cod Tryz.f163
theorem Len64_ct (I:Imm) (m:Nat) (hm:m<200):Ct Tryz.prog 163 #[.int .u64 (m:Int)] I [] (fun v I' M'=>∃ z:Int,v=vI z∧M'=[]):=by
 refine fr (args:=[_]) (N:=25) Tryz.func163 (fun F=>?_);show Run _ _ (c_Len64 []) _ _ [(0,_)] _ _;refine rnm (rqr ?_);refine sp 1 [(2,vI 0)] (se (rq (rqr (sp 2 [(4,.bool (cmp .geq (m:Int) 4294967296))] (se (rc 4 rfl (fun h1=>?_) (fun h1=>?_)))))))
 ·
  have a0:=h1;have h1:=geq_t h1;omega
 have a0:=h1;have h1:=geq_f h1;refine AO (NX (rq (rqr (sp 2 [(8,.bool (cmp .geq (m:Int) 65536))] (se (rc 8 rfl (fun h2=>?_) (fun h2=>?_)))))))
 ·
  have a1:=h2;have h2:=geq_t h2;omega
 have a1:=h2;have h2:=geq_f h2;refine AO (NX (rq (rqr (sp 2 [(14,.bool (cmp .geq (m:Int) 256))] (se (rc 14 rfl (fun h3=>?_) (fun h3=>?_)))))))
 ·
  have a2:=h3;have h3:=geq_t h3;omega
 have a2:=h3;have h3:=geq_f h3;refine AO (NX (rqr (sp 3 [(21,.int .u8 (IntKind.u8.wrap (m:Int))),(19,vI 0)] (BM 21 rfl (show (.int .u8 (IntKind.u8.wrap (m:Int)):Value)=.int .u8 (m:Int) from congrArg (Value.int .u8) (u8_id (by omega))) (sd (det_indexS (x:=(.const (.string { data:=#[0,1,2,2,3,3,3,3,4,4,4,4,4,4,4,4,5,5,5,5,5,5,5,5,5,5,5,5,5,5,5,5,6,6,6,6,6,6,6,6,6,6,6,6,6,6,6,6,6,6,6,6,6,6,6,6,6,6,6,6,6,6,6,6,7,7,7,7,7,7,7,7,7,7,7,7,7,7,7,7,7,7,7,7,7,7,7,7,7,7,7,7,7,7,7,7,7,7,7,7,7,7,7,7,7,7,7,7,7,7,7,7,7,7,7,7,7,7,7,7,7,7,7,7,7,7,7,7,8,8,8,8,8,8,8,8,8,8,8,8,8,8,8,8,8,8,8,8,8,8,8,8,8,8,8,8,8,8,8,8,8,8,8,8,8,8,8,8,8,8,8,8,8,8,8,8,8,8,8,8,8,8,8,8,8,8,8,8,8,8,8,8,8,8,8,8,8,8,8,8,8,8,8,8,8,8,8,8,8,8,8,8,8,8,8,8,8,8,8,8,8,8,8,8,8,8,8,8,8,8,8,8,8,8,8,8,8,8,8,8,8,8,8,8,8,8,8,8,8,8,8,8,8,8,8,8] }))) (y:=(.tmp 21)) (T:=9) m (d:=22) (ty:=5) (gd:=none) (by kernel_rfl) rfl (by kernel_rfl) rfl rfl (by show m<256;omega)) ?_)))));obtain ⟨bz,hbz⟩:∃ z:Int,z=byteAt ([0,1,2,2,3,3,3,3,4,4,4,4,4,4,4,4,5,5,5,5,5,5,5,5,5,5,5,5,5,5,5,5,6,6,6,6,6,6,6,6,6,6,6,6,6,6,6,6,6,6,6,6,6,6,6,6,6,6,6,6,6,6,6,6,7,7,7,7,7,7,7,7,7,7,7,7,7,7,7,7,7,7,7,7,7,7,7,7,7,7,7,7,7,7,7,7,7,7,7,7,7,7,7,7,7,7,7,7,7,7,7,7,7,7,7,7,7,7,7,7,7,7,7,7,7,7,7,7,8,8,8,8,8,8,8,8,8,8,8,8,8,8,8,8,8,8,8,8,8,8,8,8,8,8,8,8,8,8,8,8,8,8,8,8,8,8,8,8,8,8,8,8,8,8,8,8,8,8,8,8,8,8,8,8,8,8,8,8,8,8,8,8,8,8,8,8,8,8,8,8,8,8,8,8,8,8,8,8,8,8,8,8,8,8,8,8,8,8,8,8,8,8,8,8,8,8,8,8,8,8,8,8,8,8,8,8,8,8,8,8,8,8,8,8,8,8,8,8,8,8,8,8,8,8,8,8]:List UInt8) m:=⟨_,rfl⟩;have a3:0≤bz∧bz≤255:=hbz▸byteAt_range;rw [← hbz];clear hbz;refine sp 1 [(23,vI (IntKind.i64.wrap bz))] (BM 23 rfl (show (vI (IntKind.i64.wrap bz):Value)=vI bz from congrArg (Value.int .i64) (PN (by omega))) (sd (da 24 0 bz) (sp 1 [(2,vI (0+bz))] (se (BC (rt1 2 rfl (IR _) ?_))))));exact ⟨_,rfl,rfl⟩
noncomputable def c_Len:=cod Tryz.f137
theorem Len_ct (I:Imm) (m:Nat) (hm:m<200):Ct Tryz.prog 137 #[.int .u64 (m:Int)] I [] (fun v I' M'=>∃ z:Int,v=vI z∧M'=[]):=by
 refine fr (args:=[_]) (N:=8) Tryz.func137 (fun F=>?_);show Run _ _ (c_Len []) _ _ [(0,_)] _ _;refine rnm (rqr ?_);refine sp 1 [(2,vI 0)] (se (rq ?_));refine NK (x:=c_Len [1,0,0]) (y:=c_Len [1,0,1]) (t:=(.const (.bool false))) (by kernel_rfl) rfl (AO (NX (rqr (sp 1 [(6,.int .u64 (m:Int))] (sS (sc (some 7) (F:=(F)) (Len64_ct I m (by omega) :) (.refl _) (fun _ I1 _ a0 a1=>?_)))))));obtain ⟨a2,rfl,rfl⟩:=a1;refine nm ?_;refine sp 1 [(2,vI a2)] (se (BC (rt1 2 rfl a0 ?_)));exact ⟨_,rfl,rfl⟩
noncomputable def c_insSortI:=cod Tryz.f153
theorem insSortI_ct (I:Imm) (d:Value) (xs:List Int) (d_Ms:Seg) (u:Nat) (v:Nat) (d_h:Own 3 1 AK d xs d_Ms) (h0:u=0) (hb:v=xs.length) (hl:xs.length≤1000000):Ct Tryz.prog 153 #[d,vI ↑u,vI ↑v] I d_Ms (fun v I' M'=>∃ d_Mt:Seg,v=.tuple #[]∧M'=d_Mt∧Own 3 1 AK d (AG cmpZ xs) d_Mt):=by
 obtain ⟨a3,a4,rfl,c5⟩:=d_h.shape;refine fr (args:=[_,_,_]) (N:=49) Tryz.func153 (fun F=>?_);show Run _ _ (c_insSortI []) _ _ [(0,_),(1,_),(2,_)] _ _;refine rnm (rqr ?_);refine sp 1 [(8,vI ↑u)] (sd (da 9 ↑u 1) (BM 9 rfl (show (vI (↑u+1):Value)=vI (↑(1:Nat)) from congrArg (Value.int .i64) (by omega)) (sp 1 [(6,vI (↑(1:Nat)))] (se (rb 0 ?_)))));refine rl (fun mz a w=>∃ i:Nat,∃ zs:List Int,∃ a2:Seg,(1≤i)∧(InsI cmpZ xs zs i)∧(Own 3 1 AK (vS a3 xs.length a4) zs a2)∧SD 49 [(0,(vS a3 xs.length a4)),(6,vI ↑i),(1,vI ↑u),(2,vI ↑v)] I (a2++F) a w (mz=xs.length-i)) ?_ ?_
 ·intro a w hS hD hW;exact ⟨_,1,xs,d_Ms,Nat.le_refl _,InsI.start,d_h,hS.sub su,hD,hW,rfl⟩
 rintro mz a w ⟨i,zs,a2,c6,a9,a7,hS,hD,hW,rfl⟩
 refine AU hS hD hW ?_;have c9:=a9.len;refine rq (rqr (sp 3 [(12,.bool (cmp .lss ↑i ↑v))] (se (rc 12 rfl (fun h1=>?_) (fun h1=>?_)))))
 ·
  have b9:=h1;have h1:=CI h1;refine AO (NX (rq (rb 1 (rqr (sp 2 [(7,vI ↑i)] (se (rb 2 ?_)))))));refine rl (fun mz a w=>∃ j:Nat,∃ ys:List Int,∃ a0:Seg,(InsAt cmpZ 0 xs ys i j)∧(Own 3 1 AK (vS a3 xs.length a4) ys a0)∧SD 49 [(0,(vS a3 xs.length a4)),(7,vI ↑j),(1,vI ↑u),(2,vI ↑v),(6,vI ↑i)] I (a0++F) a w (mz=j+1)) ?_ ?_
  ·intro a w hS hD hW;exact ⟨_,i,zs,a2,a9.into (by omega),a7,hS.sub su,hD,hW,rfl⟩
  rintro mz a w ⟨j,ys,a0,b7,a1,hS,hD,hW,rfl⟩
  refine AU hS hD hW ?_;have c8:=b7.len;have c7:=b7.1;refine rq (rq ?_);refine DB (fun a w=>SE 49 [(0,vS a3 xs.length a4),(1,vI ↑u),(2,vI ↑v),(6,vI ↑i),(7,vI ↑j),(30,.bool ((cmp .gtr ↑j ↑u)&&(cmp .lss (cmpZ (ys.getD j 0) (ys.getD ((↑j-1:Int).toNat) 0)) 0)))] I (a0++F) a w) ?_ ?_
  ·
   refine rd0 13 (ox 4 [(19,.bool (cmp .gtr ↑j ↑u))] ?_);refine JA 19 (fun h2=>?_) (fun h2=>?_)
   ·
    have a5:=h2;have a5:=MB a5;refine ox 2 [(21,vI ↑j),(20,vS a3 xs.length a4)] ?_;obtain ⟨d0,b3⟩:=a1.row 0;refine AD (di 22 1 j (fun _=>b3.addr (by omega)) (n:=xs.length)) ?_;refine AD (dl 23 (b3.get j (by omega) 0 (by decide) _ _ (fun x hx=>by simp [hx]))) (ox 2 [(25,vI ↑j),(24,vS a3 xs.length a4)] ?_);refine AD (dsb 26 ↑j 1) ?_;obtain ⟨d1,b4⟩:=a1.row 0;refine AD (diI 27 1 (↑j-1) (fun _=>b4.addr (by omega)) (n:=xs.length)) ?_;refine AD (dl 28 (b4.get ((↑j-1:Int).toNat) (by omega) 0 (by decide) _ _ (fun x hx=>by simp [hx]))) ?_;refine AY (sd (dc 29 (fun I' hI=>(Less_ct I' (ys.getD j 0) (ys.getD ((↑j-1:Int).toNat) 0) :))) (sp 1 [(30,.bool (cmp .lss (cmpZ (ys.getD j 0) (ys.getD ((↑j-1:Int).toNat) 0)) 0))] (ee ?_)));refine AP (fun a w hS hD hW=>⟨hS.sub (sun 5 (.consE 30 rfl (congrArg Value.bool (by simp only [h2,kk])) (.nil _))),hD,hW⟩)
   have a5:=h2;have a5:=SC a5;refine ox 9 [(28,undef),(23,undef)] ?_;refine AY (sp 2 [(30,.bool false)] (ee ?_));refine AP (fun a w hS hD hW=>⟨hS.sub (sun 5 (.consE 30 rfl (congrArg Value.bool (by simp only [h2,kk])) (.nil _))),hD,hW⟩)
  rintro a w ⟨hS,hD,hW⟩
  refine AU hS hD hW ?_;refine rc 30 rfl (fun h3=>?_) (fun h3=>?_)
  ·
   have c1:=h3;obtain ⟨b1,c0⟩:=PY h3;have b1:=MB b1;refine AO (NX (rq (rb 3 ?_)));refine rdX (M:=(a0++[])) (F0:=F) [] 16 [(0,true),(1,true),(2,true),(3,true),(4,true),(5,true),(6,true),(7,true),(8,true),(9,true),(10,true),(11,true),(12,true),(13,true),(14,true),(15,false)] (by simp only [AA,CA,NA,List.append_nil];exact PR _) HI ?_;refine AF (dpv 33 (vS a3 xs.length a4)) ?_;refine AF (dpv 34 (vI ↑j)) ?_;refine AX (dpv 35 (vS a3 xs.length a4)) ?_;refine AX (dpv 36 (vI ↑j)) ?_;refine AX (dsb 37 ↑j 1) ?_;refine AF (dpv 38 (vS a3 xs.length a4)) ?_;refine AF (dpv 39 (vI ↑j)) ?_;refine AF (dsb 40 ↑j 1) ?_;obtain ⟨d2,b5⟩:=a1.row 0;refine AF (diI 41 1 (↑j-1) (fun _=>b5.addr (by omega)) (n:=xs.length)) ?_;refine AF (dl 42 (b5.get ((↑j-1:Int).toNat) (by omega) 0 (by decide) _ _ (fun x hx=>by simp [hx]))) ?_;refine AF (dpv 43 (vS a3 xs.length a4)) ?_;refine AF (dpv 44 (vI ↑j)) ?_;obtain ⟨d3,b6⟩:=a1.row 0;refine AF (di 45 1 j (fun _=>b6.addr (by omega)) (n:=xs.length)) ?_;refine AF (dl 46 (b6.get j (by omega) 0 (by decide) _ _ (fun x hx=>by simp [hx]))) ?_;obtain ⟨d4,a8⟩:=a1.row 0;refine AF (di 47 1 j (fun _=>a8.addr (by omega)) (n:=xs.length)) ?_;refine DA (Mx:=fun FX=>(a0++FX)) rfl (fun FX=>by simp only [AA,CA,NA,List.append_nil];exact PR _) (fun FX=>?_);refine id (BJ (T:=3) (x:=(.tmp 47)) (y:=(.tmp 42)) (rc:=fun i f=>AK ((ys).getD i 0) f) 0 j 0 (ys.getD ((↑j-1:Int).toNat) 0) (ty:=0) (gd:=none) (by kernel_rfl) rfl a1 a8 (by omega) (by decide) rfl rfl (by kernel_rfl) rfl rfl (by intro f hf;match f,hf with | 0,_=>rfl) (PR _) (fun b0 b2=>?_));refine EV (M1:=(b0++[])) (by simp only [AA,CA,NA,List.append_nil];exact (PR _)) (.wt (.wt (.wt (.wt (.wt (.wt (.wt (.wt (.wt (.wt (.none (.none (.none (.wt (.wt .nil))))))))))))))) ?_;refine FP (AW (M':=(b0++F)) (fun w h=>by simpa only [AA,CA,NA,List.append_nil] using h) (nm ?_));obtain ⟨c4,a6⟩:=b2.row 0;simp only [LS] at a6;refine sd (diI 48 1 (↑j-1) (fun _=>a6.addr (by omega)) (n:=xs.length)) (sS (BJ (T:=3) (x:=(.tmp 48)) (y:=(.tmp 46)) (rc:=fun i f=>AK ((ys.set j (ys.getD ((↑j-1:Int).toNat) 0)).getD i 0) f) 0 ((↑j-1:Int).toNat) 0 (ys.getD j 0) (ty:=0) (gd:=none) (by kernel_rfl) rfl b2 (by simpa only [LS] using a6) (by simp only [LS];omega) (by decide) rfl rfl (by kernel_rfl) rfl rfl (by intro f hf;match f,hf with | 0,_=>rfl) (PR _) (fun b8 c2=>(nm (ee (NB (NX (rr ?_))))))));refine sp 1 [(31,vI ↑j)] (sd (dsb 32 ↑j 1) (sp 1 [(7,vI (↑j-1))] (ee ?_)));refine AM ((↑j-1:Int).toNat+1) (by omega) ?_;intro a w hS hD hW;exact ⟨(↑j-1:Int).toNat,(ys.set j (ys.getD ((↑j-1:Int).toNat) 0)).set ((↑j-1:Int).toNat) (ys.getD j 0),b8,b7.step (by omega) (CI c0),c2,hS.sub (.consE 0 rfl rfl (.consE 7 rfl (congrArg (Value.int .i64) (by omega)) su)),hD,hW,rfl⟩
  have c1:=h3;refine BW 2 (EP (EP (EB (NB (NX (rr (sp 1 [(13,vI ↑i)] (sd (da 14 ↑i 1) (sp 1 [(6,vI (↑i+1))] (ee ?_))))))))));refine AM (xs.length-(i+1)) (by omega) ?_;intro a w hS hD hW;exact ⟨i+1,ys,a0,by omega,b7.done2 h0 h3,a1,hS.sub su,hD,hW,rfl⟩
 have b9:=h1;have h1:=CS h1;refine BW 0 (EP (EP (EB ?_)));refine EL a2 (by kernel_rfl) (TA (TR _) _) (IR _) ?_;exact ⟨_,rfl,rfl,((a9.done (by omega))▸a7)⟩
noncomputable def c_pdq:=cod Tryz.f136
theorem pdq_ct (I:Imm) (d:Value) (xs:List Int) (d_Ms:Seg) (u:Nat) (v:Nat) (lim:Int) (d_h:Own 3 1 AK d xs d_Ms) (h0:u=0) (hb:v=xs.length) (hl:xs.length≤12):Ct Tryz.prog 136 #[d,vI ↑u,vI ↑v,vI lim] I d_Ms (fun v I' M'=>∃ d_Mt:Seg,v=.tuple #[]∧M'=d_Mt∧Own 3 1 AK d (AG cmpZ xs) d_Mt):=by
 obtain ⟨a1,a2,rfl,b0⟩:=d_h.shape;refine fr (args:=[_,_,_,_]) (N:=134) Tryz.func136 (fun F=>?_);show Run _ _ (c_pdq []) _ _ [(0,_),(1,_),(2,_),(3,_)] _ _;refine rnm (rqr ?_);refine sp 1 [(8,.bool true)] (sn (sp 1 [(9,.bool true)] (se (rb 0 ?_))));refine rl (fun mz a w=>∃ k:Nat,(k=0)∧SD 134 [(1,vI ↑u),(2,vI ↑v),(3,vI lim),(8,.bool true),(9,.bool true),(0,vS a1 xs.length a2)] I (d_Ms++F) a w (mz=k+1)) ?_ ?_
 ·intro a w hS hD hW;exact ⟨_,0,rfl,hS.sub su,hD,hW,rfl⟩
 rintro mz a w ⟨k,b1,hS,hD,hW,rfl⟩
 refine AU hS hD hW ?_;refine rb 1 (rqr (sp 2 [(20,vI ↑u),(19,vI ↑v)] (sd (dsb 21 ↑v ↑u) (sp 1 [(10,vI (↑v-↑u))] (se (rq (rqr (sp 2 [(23,.bool (cmp .leq (↑v-↑u) 12))] (se (rc 23 rfl (fun h1=>?_) (fun h1=>?_)))))))))))
 ·
  have a3:=h1;have h1:=leq_t h1;refine rqr (sp 3 [(26,vI ↑v),(25,vI ↑u),(24,vS a1 xs.length a2)] (sS (sc (some 27) (F:=(F)) (insSortI_ct _ _ _ _ u v d_h (by first | rfl | assumption) (by omega) (by omega) :) (.refl _) (fun b3 I1 b2 a4 a9=>?_))));obtain ⟨a0,a7,a6,a5⟩:=a9;rw [a7,a6];clear a7 a6;refine nm (se (BC ?_));refine (RP (RB (RP (RB (pst_ret0 a0 (by kernel_rfl) (TA (TR _) _) a4 ?_)))));exact ⟨_,rfl,rfl,a5⟩
 have a3:=h1;have h1:=leq_f h1;omega
noncomputable def c_SortI:=cod Tryz.f83
theorem SortI_ct (I:Imm) (d:Value) (xs:List Int) (d_Ms:Seg) (d_h:Own 3 1 AK d xs d_Ms) (hl:xs.length≤12):Ct Tryz.prog 83 #[d] I d_Ms (fun v I' M'=>∃ d_Mt:Seg,v=.tuple #[]∧M'=d_Mt∧Own 3 1 AK d (AG cmpZ xs) d_Mt):=by
 obtain ⟨a4,a5,rfl,b4⟩:=d_h.shape;refine fr (args:=[_]) (N:=11) Tryz.func83 (fun F=>?_);show Run _ _ (c_SortI []) _ _ [(0,_)] _ _;refine rnm (rqr ?_);refine sp 3 [(2,vI (↑(xs.length)))] (se (rr (sp 4 [(8,.int .u64 (IntKind.u64.wrap (↑(xs.length)))),(6,vI (↑(xs.length))),(5,vS a4 xs.length a5)] (BM 8 rfl (show (.int .u64 (IntKind.u64.wrap (↑(xs.length))):Value)=.int .u64 ↑xs.length from congrArg (Value.int .u64) (u64_id (by omega))) (sS (sc (some 9) (F:=(d_Ms++F)) (Len_ct I xs.length (by omega) :) (.refl _) (fun _ I1 _ a2 a9=>?_)))))));obtain ⟨b1,rfl,rfl⟩:=a9;refine nm ?_;refine sS (sc (some 10) (F:=(F)) (pdq_ct _ _ _ _ 0 xs.length b1 d_h (by rfl) (by omega) (by omega) :) (.refl _) (fun b3 I5 b2 a3 b0=>?_));obtain ⟨a0,a7,a6,a1⟩:=b0;rw [a7,a6];clear a7 a6;refine nm (ee ?_);refine EL a0 (by kernel_rfl) (TA (TR _) _) (IT a2 a3) ?_;exact ⟨_,rfl,rfl,a1⟩
noncomputable def c_keeper:=cod Tryz.f151
theorem keeper_ct (I:Imm) (b:Nat) (b_1 b_2 b_3:Value) (b_r:Nat) (L:Lin) (pl:Int) (hr:Int) (b_b:IsBook 134 I b b_1 b_2 b_3 b_r L):CtV Tryz.prog 151 #[vP b 0,vI pl,vI hr] I (vI (BL L pl hr)):=by
 obtain ⟨d8,a9,b2,b4⟩:=id b_b;obtain ⟨b9,c1,c0,c4,b6,rfl,c2,c3,c5,c6⟩:=id a9;obtain ⟨a0,a1,c7,d0,rfl,c8,c9,a7⟩:=id b2;obtain ⟨d1,d3,d2,d6,rfl,d4,d5,d7⟩:=id b4;refine fr (args:=[_,_,_]) (N:=43) Tryz.func151 (fun F=>?_);show Run _ _ (c_keeper []) _ _ [(0,_),(1,_),(2,_)] _ _;refine rnm (rqr ?_);refine sp 1 [(6,vI 0)] (sn (sp 2 [(8,vI (-1)),(7,vI 0)] (se (rq (rqr (sp 2 [(12,vP b 0)] (sd (dfa 13 12 134 0 0 0 rfl) (sd (dfa 14 13 26 3 3 0 rfl) (sd (dld 15 14 23 (vS a0 L.keeps.length a1) rfl (AR d8 rfl)) (sp 2 [(17,vI 0),(16,vI (↑(L.keeps.length)))] (se (rb 0 ?_))))))))))));refine rl (fun mz a w=>∃ k:Nat,(k≤L.keeps.length)∧SD 43 [(7,vI ((JZ pl hr (L.keeps.take k)).1)),(8,vI ((JZ pl hr (L.keeps.take k)).2)),(17,vI ↑k),(1,vI pl),(2,vI hr),(6,vI 0),(15,vS a0 L.keeps.length a1),(16,vI (↑(L.keeps.length)))] I F a w (mz=L.keeps.length-k)) ?_ ?_
 ·intro a w hS hD hW;exact ⟨_,0,Nat.zero_le _,hS.sub su,hD,hW,rfl⟩
 rintro mz a w ⟨k,hk,hS,hD,hW,rfl⟩
 refine AU hS hD hW ?_;refine rqr (sp 1 [(18,.bool (cmp .lss ↑k (↑(L.keeps.length))))] (se (rq (rc 18 rfl (fun h1=>?_) (fun h1=>?_)))))
 ·
  have b7:=h1;have h1:=CI h1;refine AO (NX (rq (rb 1 (rqr (sd (di 19 3 k a7.addr) (sd (dln 20 19 50 (keepL (L.keeps.getD k AQ)) rfl (CE (vals:=IH) (fun _=>rfl) a7 k (by omega))) (sS (sal 10 50 #[vI 0,vI 0,vI 0] (fun b1=>(sS (ss 0 0 b1 (keepL (L.keeps.getD k AQ)) (keepL (L.keeps.getD k AQ)) (_::_) (cs:=[_,_,_]) rfl rfl (se (rq ?_)))))))))))));refine DB (fun a w=>SE 43 [(1,vI pl),(2,vI hr),(6,vI 0),(7,vI ((JZ pl hr (L.keeps.take k)).1)),(8,vI ((JZ pl hr (L.keeps.take k)).2)),(10,vP b1 0),(15,vS a0 L.keeps.length a1),(16,vI (↑(L.keeps.length))),(17,vI ↑k),(36,.bool ((cmp .eql ((L.keeps.getD k AQ).place) pl)&&((cmp .leq ((L.keeps.getD k AQ).hour) hr)&&(cmp .gtr ((L.keeps.getD k AQ).hour) ((JZ pl hr (L.keeps.take k)).2)))))] I ((bX b1 (keepA (L.keeps.getD k AQ)) 50)::F) a w) ?_ ?_
  ·
   refine rr (sp 1 [(21,vP b1 0)] (sd (dlb 22 0 0 b1 (vI ((L.keeps.getD k AQ).place))) (sp 3 [(25,.bool (cmp .eql ((L.keeps.getD k AQ).place) pl))] ?_)));refine BH 25 rfl (fun h2=>?_) (fun h2=>?_)
   ·
    have a2:=h2;have a2:=BG a2;refine sp 1 [(26,vP b1 1)] (sd (dlb 27 0 1 b1 (vI ((L.keeps.getD k AQ).hour))) (sp 4 [(31,.bool (cmp .leq ((L.keeps.getD k AQ).hour) hr))] ?_));refine BH 31 rfl (fun h3=>?_) (fun h3=>?_)
    ·
     have a3:=h3;have a3:=leq_t a3;refine sp 1 [(32,vP b1 1)] (sd (dlb 33 0 1 b1 (vI ((L.keeps.getD k AQ).hour))) (sp 3 [(36,.bool (cmp .gtr ((L.keeps.getD k AQ).hour) ((JZ pl hr (L.keeps.take k)).2)))] (ee ?_)));refine AP (fun a w hS hD hW=>⟨hS.sub (sun 9 (.consE 36 rfl (congrArg Value.bool (by simp only [h2,h3,kk])) (.nil _))),hD,hW⟩)
    have a3:=h3;have a3:=leq_f a3;refine sp 5 [(36,.bool false)] (ee ?_);refine AP (fun a w hS hD hW=>⟨hS.sub (sun 9 (.consE 36 rfl (congrArg Value.bool (by simp only [h2,h3,kk])) (.nil _))),hD,hW⟩)
   have a2:=h2;have a2:=BN a2;refine sp 11 [(36,.bool false)] (ee ?_);refine AP (fun a w hS hD hW=>⟨hS.sub (sun 9 (.consE 36 rfl (congrArg Value.bool (by simp only [h2,kk])) (.nil _))),hD,hW⟩)
  rintro a w ⟨hS,hD,hW⟩
  refine AU hS hD hW ?_;refine rc 36 rfl (fun h4=>?_) (fun h4=>?_)
  ·
   have a6:=h4;obtain ⟨b5,b8⟩:=PY h4;have b5:=BG b5;obtain ⟨a4,a5⟩:=PY b8;have a4:=leq_t a4;have a5:=MB a5;refine rd0 5 (ox 1 [(37,vP b1 2)] ?_);refine AD (dlb 38 0 2 b1 (vI ((L.keeps.getD k AQ).who))) (ox 1 [(39,vP b1 1)] ?_);refine AD (dlb 40 0 1 b1 (vI ((L.keeps.getD k AQ).hour))) (ox 1 [(7,vI ((L.keeps.getD k AQ).who))] ?_);refine AY (sp 1 [(8,vI ((L.keeps.getD k AQ).hour))] (ee (NB (NX (rr (sd (da 41 ↑k 1) (sp 1 [(17,vI (↑k+1))] (ee ?_))))))));refine AM (L.keeps.length-(k+1)) (by omega) ?_;intro a w hS hD hW;exact ⟨k+1,by omega,hS.sub (.consE 7 rfl (congrArg (fun q:Int × Int=>Value.int .i64 q.1) (kfold_t (by omega) a6)) (.consE 8 rfl (congrArg (fun q:Int × Int=>Value.int .i64 q.2) (kfold_t (by omega) a6)) su)),hD,(hW.perm (PR _)).sub (TC _ (TR _)),rfl⟩
  have a6:=h4;refine AO (NB (NX (rr (sd (da 41 ↑k 1) (sp 1 [(17,vI (↑k+1))] (ee ?_))))));refine AM (L.keeps.length-(k+1)) (by omega) ?_;intro a w hS hD hW;exact ⟨k+1,by omega,hS.sub (.consE 7 rfl (congrArg (fun q:Int × Int=>Value.int .i64 q.1) (kfold_f (by omega) a6)) (.consE 8 rfl (congrArg (fun q:Int × Int=>Value.int .i64 q.2) (kfold_f (by omega) a6)) su)),hD,(hW.perm (PR _)).sub (TC _ (TR _)),rfl⟩
 have b7:=h1;have h1:=CS h1;refine BW 0 (EP (EP (EB (NX (rqr (sp 2 [(6,vI ((JZ pl hr (L.keeps.take k)).1))] (se (BC (rt1 6 rfl (IR _) ?_)))))))));exact ⟨congrArg (fun q:Int × Int=>Value.int .i64 q.1) (show JZ pl hr (L.keeps.take k)=JZ pl hr L.keeps from by rw [List.take_of_length_le (by omega)]),rfl⟩
noncomputable def c_holders:=cod Tryz.f131
theorem holders_ct (I:Imm) (b:Nat) (b_1 b_2 b_3:Value) (b_r:Nat) (L:Lin) (s:Slip) (snc:Int) (b_b:IsBook 134 I b b_1 b_2 b_3 b_r L) (hk4:L.keeps.length≤4) (hs:0≤s.hour∧s.hour≤200):Ct Tryz.prog 131 #[vP b 0,.agg #[vI s.num,vI s.hour,vI s.kind,vI s.place,vI s.to,vI s.sort,.bool s.soil,vI s.amt],vI snc] I ([]) (fun v I' M'=>∃ u:Value,∃ Ms:Seg,v=u∧M'=Ms∧Own 3 1 AK u (DN L s snc) Ms):=by
 obtain ⟨b3,b6,b8,c0⟩:=id b_b;obtain ⟨d3,d5,d4,d8,c9,rfl,d6,d7,d9,e0⟩:=id b6;obtain ⟨e1,e3,e2,e6,rfl,e4,e5,e7⟩:=id b8;obtain ⟨e8,f0,e9,f3,rfl,f1,f2,f4⟩:=id c0;refine fr (args:=[_,_,_]) (N:=41) Tryz.func131 (fun F=>?_);show Run _ _ (c_holders []) _ _ [(0,_),(1,_),(2,_)] _ _;refine rnm (rqr ?_);refine sS (sb 4 28 (BK s) (fun b1=>(sp 1 [(6,vN)] (se ?_))));refine run_scope (x:=c_holders [1,0]) (by kernel_rfl) (rqr (sp 1 [(7,vN)] (se (rq ?_))));refine rlab 0 (NX (rq (rqr (sp 1 [(10,vP b1 1)] (sd (dlb 11 0 1 b1 (vI s.hour)) (sd (da 12 s.hour 1) (sp 1 [(13,vI 0)] (se (rb 0 ?_)))))))));refine rl (fun mz a w=>∃ J0:Imm,∃ n:Nat,∃ a7:Value,∃ a2:Seg,(I.le J0)∧((n:Int)≤s.hour+1)∧(Own 3 1 AK a7 (BZ L s.place snc n) a2)∧SD 41 [(7,a7),(13,vI ↑n),(0,vP b 0),(2,vI snc),(4,vP b1 0),(6,vN),(12,vI (s.hour+1))] J0 ((bX b1 (BK s) 28)::(a2++F)) a w (mz=(s.hour+1).toNat-n)) ?_ ?_
 ·intro a w hS hD hW;exact ⟨_,I,0,(vN),[],IR _,by omega,(Own.nil _ _ _),hS.sub su,hD,hW,rfl⟩
 rintro mz a w ⟨J0,n,a7,a2,hJ0,hn,a3,hS,hD,hW,rfl⟩
 refine AU hS hD hW ?_;replace b_b:=b_b.mono hJ0;replace b3:=hJ0.blk _ _ b3;obtain ⟨a0,a1,rfl,c8⟩:=a3.shape;have g3:=holdTo_len (L:=L) (p:=s.place) (since:=snc) (n:=n) hk4;refine rqr (sp 1 [(14,.bool (cmp .lss ↑n (s.hour+1)))] (se (rq (rc 14 rfl (fun h1=>?_) (fun h1=>?_)))))
 ·
  have d0:=h1;have h1:=CI h1;refine AO (NX (rq (rb 1 (rqr (sp 2 [(8,vI ↑n)] (sn (sp 2 [(17,vP b1 3),(16,vP b 0)] (sd (dlb 18 0 3 b1 (vI s.place)) (sp 1 [(19,vI ↑n)] (sd (dc 20 (fun I' hI=>(keeper_ct I' b _ _ _ _ L s.place ↑n (b_b.mono hI) :))) (sp 1 [(9,vI (BL L s.place ↑n))] (se (rq (rqr (sp 4 [(24,.bool (cmp .lss ↑n snc))] ?_)))))))))))))));refine BH 24 rfl (fun h2=>?_) (fun h2=>?_)
  ·
   have a4:=h2;have a4:=CI a4;refine sp 8 [(32,.bool true)] (se (rct 32 rfl (BW 1 (EP (EB (NX (rr (sd (da 37 ↑n 1) (sp 1 [(13,vI (↑n+1))] (ee ?_))))))))));refine AM ((s.hour+1).toNat-(n+1)) (by omega) ?_;intro a w hS hD hW;exact ⟨J0,n+1,vS a0 (BZ L s.place snc n).length a1,a2,hJ0,by omega,(holdTo_1 (L:=L) (p:=s.place) (since:=snc) (n:=n) a4▸a3),hS.sub su,hD,hW,rfl⟩
  have a4:=h2;have a4:=CS a4;refine sp 4 [(28,.bool (cmp .eql (BL L s.place ↑n) 0))] ?_;refine BH 28 rfl (fun h3=>?_) (fun h3=>?_)
  ·
   have a5:=h3;have a5:=BG a5;refine sp 4 [(32,.bool true)] (se (rct 32 rfl (BW 1 (EP (EB (NX (rr (sd (da 37 ↑n 1) (sp 1 [(13,vI (↑n+1))] (ee ?_))))))))));refine AM ((s.hour+1).toNat-(n+1)) (by omega) ?_;intro a w hS hD hW;exact ⟨J0,n+1,vS a0 (BZ L s.place snc n).length a1,a2,hJ0,by omega,(holdTo_2 (L:=L) (p:=s.place) (since:=snc) (n:=n) (Int.not_lt.2 a4) a5▸a3),hS.sub su,hD,hW,rfl⟩
  have a5:=h3;have a5:=BN a5;refine sp 2 [(30,vI (BL L s.place ↑n)),(29,vS a0 (BZ L s.place snc n).length a1)] ?_;have c1:=ct_own (I:=J0) 0 a3 (by omega) (fun I' hI hs_l=>(Contains_ct I' _ _ (BL L s.place ↑n) hs_l :));refine sS (sc (some 31) (F:=((bX b1 (BK s) 28)::F)) (c1 :) PM.symm (fun g5 I3 g4 b2 f7=>?_));obtain ⟨f6,f5⟩:=f7;rw [f6,f5];clear f6 f5;replace b3:=b2.blk _ _ b3;refine pm (M':=((bX b1 (BK s) 28)::(a2++F))) PM ?_;show Seq _ _ _ _ _ _ ((31,.bool (decide ((BL L s.place ↑n)∈(BZ L s.place snc n))))::_) _ _;refine sp 1 [(32,.bool (decide ((BL L s.place ↑n)∈(BZ L s.place snc n))))] (se (rc 32 rfl (fun h4=>?_) (fun h4=>?_)))
  ·
   have b0:=h4;have h4:=NT h4;refine BW 1 (EP (EB (NX (rr (sd (da 37 ↑n 1) (sp 1 [(13,vI (↑n+1))] (ee ?_)))))));refine AM ((s.hour+1).toNat-(n+1)) (by omega) ?_;intro a w hS hD hW;exact ⟨I3,n+1,vS a0 (BZ L s.place snc n).length a1,a2,(IT hJ0 b2),by omega,(holdTo_3 (L:=L) (p:=s.place) (since:=snc) (n:=n) (Int.not_lt.2 a4) a5 (of_decide_eq_true b0)▸a3),hS.sub su,hD,hW,rfl⟩
  have b0:=h4;have h4:=SB h4;refine AO (NX (rr (sp 2 [(34,vI (BL L s.place ↑n)),(33,vS a0 (BZ L s.place snc n).length a1)] (sS (sbs 35 3 1 #[vI (BL L s.place ↑n)] (fun g2=>(sS (sap (d:=36) 33 35 29 3 1 8 (vI 0) AK (BZ L s.place snc n) [((BL L s.place ↑n):Int)] a2 rfl rfl a3 (PU PM.symm) (EI _) (DD 0 rfl rfl) (fun g6 b4 c3=>(AW (M':=((bX b1 (BK s) 28)::(b4++F))) (fun w h=>(h.perm (PW PM)).sub (TC _ (TR _))) ?_))))))))));obtain ⟨c5,c6,rfl,f8⟩:=c3.shape;refine sp 1 [(7,vS c5 ((BZ L s.place snc n)++([((BL L s.place ↑n):Int)])).length c6)] (ee (NB (NX (rr (sd (da 37 ↑n 1) (sp 1 [(13,vI (↑n+1))] (ee ?_)))))));refine AM ((s.hour+1).toNat-(n+1)) (by omega) ?_;intro a w hS hD hW;exact ⟨I3,n+1,vS c5 ((BZ L s.place snc n)++([((BL L s.place ↑n):Int)])).length c6,b4,(IT hJ0 b2),by omega,(holdTo_4 (L:=L) (p:=s.place) (since:=snc) (n:=n) (Int.not_lt.2 a4) a5 (of_decide_eq_false b0)▸c3),hS.sub su,hD,hW,rfl⟩
 have d0:=h1;have h1:=CS h1;refine BW 0 (EP (EP (EB (NX (rqr (sp 1 [(38,vS a0 (BZ L s.place snc n).length a1)] (sS (sc (some 39) (F:=((bX b1 (BK s) 28)::F)) (SortI_ct _ _ _ _ a3 (by omega) :) PM.symm (fun g0 g1 f9 a9 d1=>?_)))))))));obtain ⟨a6,c4,c2,c7⟩:=d1;rw [c4,c2];clear c4 c2;replace b3:=a9.blk _ _ b3;refine pm (M':=((bX b1 (BK s) 28)::(a6++F))) PM (sn (sp 2 [(6,vS a0 (BZ L s.place snc n).length a1)] (se (BC (pst_ret_scope (ppm (M':=(a6++(bX b1 (BK s) 28)::F)) PM.symm (FL 6 a6 rfl (TA (TC _ (TR _)) _) (IT hJ0 a9) ?_)))))));exact ⟨_,_,rfl,rfl,((holdersOf_at (L:=L) (s:=s) (since:=snc) (n:=n) (by omega))▸c7)⟩
noncomputable def c_gaps:=cod Tryz.f78
theorem gaps_ct (I:Imm) (b:Nat):Ct Tryz.prog 78 #[vP b 0] I ([]) (fun v I' M'=>∃ b1:Nat,v=.func (.func 130) #[] #[vP b1 0]∧M'=[]∧(I'.blk b1=some (Obj.cells #[vP b 0] 98 (0,0)))):=by
 refine fr (args:=[_]) (N:=4) Tryz.func78 (fun F=>?_);show Run _ _ (c_gaps []) _ _ [(0,_)] _ _;refine rnm (rqr ?_);refine sS (sb 1 98 #[vP b 0] (fun b1=>(sp 1 [(2,.nilFunc)] (se (rq ?_)))));refine HF (b:=b1) (o:=Obj.cells #[vP b 0] 98 (0,0)) (M0:=(F)) (PR _) (fun I3 a0 a1=>(rr (sp 2 [(2,.func (.func 130) #[] #[vP b1 0])] (se (BC (rt1 2 rfl a0 ?_))))));exact ⟨_,rfl,rfl,a1⟩
noncomputable def c_gaps1:=cod Tryz.f130
set_option maxHeartbeats 1000000 in
theorem gaps1_iter (I0:Imm) (b bk1 b_r:Nat) (b_1 b_2 b_3:Value) (L:Lin) (b_b:IsBook 134 I0 b b_1 b_2 b_3 b_r L) (hb1:I0.blk bk1=some (Obj.cells #[vP b 0] 98 (0,0))) (hg:GoodL L):IterE Tryz.prog 130 [vP bk1 0] encEvH Prod.fst (EJ L) (fun x I=>CF I (vS x.2.1 x.1.2.length x.2.2) x.1.2) (fun _ M=>∃ es cl,M=[(b_r,Obj.map es cl)]∧MapH es cl (EA L)) I0:=by
 intro _ L_ Cl Sp hmono hround I Mr M hI0 hR hCl;obtain ⟨d3,d2,rfl,e6⟩:=hR;replace b_b:=b_b.mono hI0;replace hb1:=hI0.blk _ _ hb1;have j6:=hg.keeps;obtain ⟨a8,c7,c9,d1⟩:=id b_b;obtain ⟨g4,g6,g5,g9,e5,rfl,g7,g8,h0,h5⟩:=id c7;obtain ⟨h6,h8,h7,i1,rfl,h9,i0,i2⟩:=id c9;obtain ⟨i3,i5,i4,i8,rfl,i6,i7,i9⟩:=id d1;refine fnMA_of_run (fn:=Tryz.f130) (args:=[_,_]) (N:=48) Tryz.func130 rfl (by kernel_rfl) (Nat.le_of_ble_eq_true rfl) (fun F=>?_);show Run _ _ (c_gaps1 []) _ _ [(0,_),(1,_)] _ _;refine rmA (M':=((b_r,Obj.map d3 d2)::(M++F))) (rnm (rqr ?_));refine sS (sb 2 159 #[.func (.yield L_) #[] #[]] (fun b1=>(sn (sS (JF (d:=7) (T:=132) (ty:=132) (gd:=none) (by kernel_rfl) rfl (fun b3=>(sS (sal 3 132 #[.map none] (fun b5=>(sS (ss 0 0 b5 [.map (some b3)] [.map (some b3)] (_::_::_::_::_) (cs:=[_]) rfl rfl (sn (sd (dld 8 1 98 (vP b 0) rfl (AR hb1 rfl)) ?_)))))))))))));have d4:=LZ I b;refine sS (sc (some 9) (d4 :) (.refl _) (fun k3 I7 k1 b0 j7=>?_));obtain ⟨c4,c5,k0,j1,j0,d8,d6,a2,a3,a4,g2⟩:=j7;rw [d8,d6];clear d8 d6;replace hb1:=b0.blk _ _ hb1;replace hCl:=hmono _ _ _ _ b0 hCl;replace b_b:=b_b.mono b0;replace a8:=b0.blk _ _ a8;refine nm (se (rb 0 ?_))
 refine GH (α:=Sh.Event) (g:=(.tmp 9)) (ps:=#[10]) (assign:=c_gaps1 [1,1,1,0,0]) (body:=c_gaps1 [1,1,1,0,1]) (gf:=123) (cv:=[vP c4 0,vP c5 0]) (enc:=encEv) (seq:=(evs (EA L) (AG AC L.slips))) (R:=fun xs _ M=>EvR b_r (EA L) (AG AC L.slips) xs.length M) (Mr:=[(b_r,Obj.map d3 d2)]) (M0:=((bX b1 #[.func (.yield L_) #[] #[]] 159)::(bX b5 #[.map (some b3)] 132)::(b3,Obj.map #[] 0)::M)) (F0:=(F))
  (fun xs I M=>∃ es cl Mc,M=(bX b1 #[.func (.yield L_) #[] #[]] 159)::(bX b5 #[.map (some b3)] 132)::(b3,Obj.map es cl)::Mc∧MapH es cl (EQ L xs).1∧Cl (EQ L xs).2 I Mc) (fun c _ I M=>c=Code.ret∧∃ ys,Sp ys I M) (fun x k=>[(1,vP bk1 0),(2,vP b1 0),(3,vP b5 0),(4,vP k 0)]) (fun x k=>[(bX k (EM x) 102)])
  (by kernel_rfl) rfl (by kernel_rfl) (fun _=>rfl) (by kernel_rfl) (HV _ b c4 c5 k0 b_r _ _ _ _ _ L (EA L) b_b a2 a3 a4 g2 hg.goodS hg.within) (fun xs I J M le ⟨es,cl,Mc,e,h1,h2⟩=>⟨es,cl,Mc,e,h1,hmono _ _ _ _ le h2⟩) (by simpa only [AA,CA,NA] using (((PC _ ((PC _ (PS _ _ _)).trans (PS _ _ _))).trans (PS _ _ _)).trans (PC _ ((PC _ (PS _ _ _)).trans (PS _ _ _))))) ⟨_,_,rfl,e6⟩ ⟨_,_,M,rfl,(MapH.nil _),hCl⟩ ?_ ?_ ?_ ?_
 ·intro Lq x I1 M1;refine OB (l':=[(1,vP bk1 0),(2,vP b1 0),(3,vP b5 0),(10,.agg (EM x))]) su (rr (sS (sal 4 102 #[vI 0,vI 0,vI 0,vI 0,vI 0,vI 0,.bool false,vI 0,vI 0,.bool false] (fun g3=>(sS (ss 0 0 g3 (evntL x) (evntL x) (_::_) (cs:=[_,_,_,_,_,_,_,_,_,_]) rfl rfl (ee ?_)))))));exact AP (fun a w hS hD hW=>⟨g3,hS.sub su,hD,hW⟩)
 ·intro Lq x k xs I1 Mr1 M1 F1 hpre hle1 hR1 hC1;replace hb1:=hle1.blk _ _ hb1;replace hCl:=hmono _ _ _ _ hle1 hCl;replace b_b:=b_b.mono hle1;replace a8:=hle1.blk _ _ a8;replace a2:=hle1.blk _ _ a2;replace a3:=hle1.blk _ _ a3;replace a4:=hle1.blk _ _ a4;obtain ⟨e3,e2,b2,rfl,c2,a7⟩:=hC1;have j9:=hg.ofEv hpre;refine rmA (M':=((bX k (EM x) 102)::(Mr1++(bX b1 #[.func (.yield L_) #[] #[]] 159)::(bX b5 #[.map (some b3)] 132)::(b3,Obj.map e3 e2)::(b2++F1)))) ?_;refine rpm (M':=((bX k (EM x) 102)::(bX b1 #[.func (.yield L_) #[] #[]] 159)::(bX b5 #[.map (some b3)] 132)::(b3,Obj.map e3 e2)::(Mr1++(b2++F1)))) (PC _ (PW (PW PM))) (rb 1 (rq (rqr (sp 2 [(12,vP k 2),(11,vP k 0)] (sd (dlb 13 0 2 k (vI x.slip.kind)) (sp 1 [(14,.bool (!(cmp .eql x.slip.kind 4)))] (se (rc 14 rfl (fun h1=>?_) (fun h1=>?_)))))))))
  ·
   have f8:=h1;have h1:=BN (BP h1);refine BW 1 (EP (EB (ppm (M':=((bX k (EM x) 102)::(Mr1++(bX b1 #[.func (.yield L_) #[] #[]] 159)::(bX b5 #[.map (some b3)] 132)::(b3,Obj.map e3 e2)::(b2++F1)))) (PC _ (PU (PU PM.symm))) ?_)));refine FJ (M':=(Mr1++((bX b1 #[.func (.yield L_) #[] #[]] 159)::(bX b5 #[.map (some b3)] 132)::(b3,Obj.map e3 e2)::b2))) (IR _) ?_ (by simp only [AA,NA,CA];exact (TC _ (TR _)));exact ⟨Mr1,_,rfl,hR1,⟨_,_,_,rfl,(gfold_1 (L:=L) (xs:=xs) h1▸c2),(gfold_1 (L:=L) (xs:=xs) h1▸a7)⟩⟩
  have f8:=h1;have h1:=BG (BI h1);refine AO (NX (rqr (sp 2 [(16,vP k 3),(15,vP k 0)] (sd (dlb 17 0 3 k (vI x.slip.place)) (sp 2 [(19,vP k 5),(18,vP k 0)] (sd (dlb 20 0 5 k (vI x.slip.sort)) (sp 2 [(22,vP k 6),(21,vP k 0)] (sd (dlb 23 0 6 k (.bool x.slip.soil)) (sp 1 [(24,.agg #[vI x.slip.place,vI x.slip.sort,.bool x.slip.soil])] (sS (sal 5 136 #[vI 0,vI 0,.bool false] (fun a9=>(sS (ss 0 0 a9 [vI x.slip.place,vI x.slip.sort,.bool x.slip.soil] [vI x.slip.place,vI x.slip.sort,.bool x.slip.soil] (_::_::_::_::_::_) (cs:=[_,_,_]) rfl rfl (sn (sd (dlb 25 3 0 b5 (.map (some b3))) (sd (dnb 26 0 0 a9 [vI x.slip.place,vI x.slip.sort,.bool x.slip.soil]) (sd (HL (x:=(.tmp 25)) (y:=(.tmp 26)) (T:=132) (kt:=136) (et:=3) (k:=(⟨x.slip.place,x.slip.sort,x.slip.soil⟩:HKey)) (z:=vI 0) (kvs:=intV ((EQ L xs).1)) (d:=27) (ty:=3) (gd:=none) (by kernel_rfl) rfl (by kernel_rfl) (BD (by kernel_rfl) (by kernel_rfl)) rfl rfl (by kernel_rfl) (.inl (List.mem_of_getElem? (i:=4) rfl)) c2.1.1 (BQ (⟨x.slip.place,x.slip.sort,x.slip.soil⟩:HKey) ((EQ L xs).1))) (sp 1 [(6,vI (DF (⟨x.slip.place,x.slip.sort,x.slip.soil⟩:HKey) ((EQ L xs).1)))] (sn (sd (dlb 28 3 0 b5 (.map (some b3))) (sd (dnb 29 0 0 a9 [vI x.slip.place,vI x.slip.sort,.bool x.slip.soil]) (sp 2 [(31,vP k 1),(30,vP k 0)] (sd (dlb 32 1 1 k (vI x.slip.hour)) (sS (stp_putH (x:=(.tmp 28)) (y:=(.tmp 29)) (u:=(.tmp 32)) (T:=132) (kt:=136) (et:=3) (k:=(⟨x.slip.place,x.slip.sort,x.slip.soil⟩:HKey)) (H:=(EQ L xs).1) (v:=x.slip.hour) 4 (ty:=0) (gd:=none) (by kernel_rfl) rfl (by kernel_rfl) (BD (by kernel_rfl) (by kernel_rfl)) rfl rfl rfl rfl c2 (fun a6 a5 b8=>(nm (se (rq ?_))))))))))))))))))))))))))))));rcases Bool.eq_false_or_eq_true (!(cmp .eql x.gap 0)) with h2 | h2
  ·
   refine rd 12 [(0,true),(1,true),(2,true),(3,true),(4,true),(5,true),(6,true),(7,true),(8,true),(9,true),(10,false),(11,true)] ((bX a9 #[vI x.slip.place,vI x.slip.sort,.bool x.slip.soil] 136)::(bX k (EM x) 102)::(bX b1 #[.func (.yield L_) #[] #[]] 159)::(bX b5 #[.map (some b3)] 132)::(b3,Obj.map a6 a5)::[]) (Mr1++(b2++F1)) (ox 1 [(33,vP k 8)] ?_);refine AD (dlb 34 1 8 k (vI x.gap)) (ox 2 [(36,.bool (!(cmp .eql x.gap 0))),(35,.bool (!(cmp .eql x.gap 0)))] ?_);refine JA 36 (fun h3=>?_) (fun h3=>?_)
   ·
    have c0:=h3;have c0:=BN (BP c0);refine AD (dlb 37 2 0 b1 (.func (.yield L_) #[] #[])) ?_;refine AD (dnb 38 1 0 k (evntL x)) ?_;refine AD (SP (v:=vP b 0) (x:=(.tmp 1)) (T:=98) (d:=39) (ty:=98) (gd:=(some (3,true))) (by kernel_rfl) (by kernel_rfl) (by kernel_rfl) rfl (AR hb1 rfl)) (ox 1 [(40,vP k 0)] ?_);refine AD (dnb 41 1 0 k (GX x.slip)) (ox 1 [(42,vI (DF (⟨x.slip.place,x.slip.sort,x.slip.soil⟩:HKey) ((EQ L xs).1)))] ?_);have d5:=holders_ct I1 b _ _ _ _ L (⟨x.slip.num,x.slip.hour,x.slip.kind,x.slip.place,x.slip.to,x.slip.sort,x.slip.soil,x.slip.amt⟩:Slip) (DF (⟨x.slip.place,x.slip.sort,x.slip.soil⟩:HKey) ((EQ L xs).1)) b_b (by omega) (by exact j9);refine SU (sc (some 43) (F:=((bX a9 #[vI x.slip.place,vI x.slip.sort,.bool x.slip.soil] 136)::(bX k (EM x) 102)::(bX b1 #[.func (.yield L_) #[] #[]] 159)::(bX b5 #[.map (some b3)] 132)::(b3,Obj.map a6 a5)::(Mr1++(b2++F1)))) (d5 :) (PR _) (fun k4 k5 k2 a0 g1=>?_));obtain ⟨k8,e4,d9,d7,e0⟩:=g1;rw [d9,d7];clear d9 d7;replace hb1:=a0.blk _ _ hb1;replace hCl:=hmono _ _ _ _ a0 hCl;replace a8:=a0.blk _ _ a8;replace a2:=a0.blk _ _ a2;replace a3:=a0.blk _ _ a3;replace a4:=a0.blk _ _ a4;replace a7:=hmono _ _ _ _ a0 a7;obtain ⟨b6,b7,rfl,j3⟩:=e0.shape;refine RK (M':=(e4++(bX a9 #[vI x.slip.place,vI x.slip.sort,.bool x.slip.soil] 136)::(bX k (EM x) 102)::(bX b1 #[.func (.yield L_) #[] #[]] 159)::(bX b5 #[.map (some b3)] 132)::(b3,Obj.map a6 a5)::(Mr1++(b2++F1)))) (fun w h=>by simpa only [AA,CA,NA] using h) ?_;have k7:(DN L (⟨x.slip.num,x.slip.hour,x.slip.kind,x.slip.place,x.slip.to,x.slip.sort,x.slip.soil,x.slip.amt⟩:Slip) (DF (⟨x.slip.place,x.slip.sort,x.slip.soil⟩:HKey) ((EQ L xs).1))).length≤4:=holdersOf_len j6;refine HY (B:=((bX a9 #[vI x.slip.place,vI x.slip.sort,.bool x.slip.soil] 136)::(bX k (EM x) 102)::(bX b1 #[.func (.yield L_) #[] #[]] 159)::(bX b5 #[.map (some b3)] 132)::(b3,Obj.map a6 a5)::(Mr1++(b2++F1)))) 0 e0 (by first | omega | (simp only [LS,LC,LN,LA,LK,LD] <;> omega) | decide) (PR _) (PR _) (fun k6 a1 b4=>?_);replace hb1:=a1.blk _ _ hb1;replace hCl:=hmono _ _ _ _ a1 hCl;replace a8:=a1.blk _ _ a8;replace a2:=a1.blk _ _ a2;replace a3:=a1.blk _ _ a3;replace a4:=a1.blk _ _ a4;replace a7:=hmono _ _ _ _ a1 a7;obtain ⟨f1,f3,f2,f6,b9,f4,f5,f7⟩:=id b4;cases b9;refine MC ?_;refine CR (S':=(Mr1++(b2++F1))) (PR _) ?_;show OFP _ _ _ _ _ _ ((43,vS b6 (DN L (⟨x.slip.num,x.slip.hour,x.slip.kind,x.slip.place,x.slip.to,x.slip.sort,x.slip.soil,x.slip.amt⟩:Slip) (DF (⟨x.slip.place,x.slip.sort,x.slip.soil⟩:HKey) ((EQ L xs).1))).length b7)::_) _ _;refine ox 1 [(44,.agg #[vI x.slip.num,vI x.slip.hour,vI x.slip.kind,vI x.slip.place,vI x.slip.to,vI x.slip.sort,.bool x.slip.soil,vI x.slip.amt,vI x.gap,.bool x.below,vS b6 (DN L (⟨x.slip.num,x.slip.hour,x.slip.kind,x.slip.place,x.slip.to,x.slip.sort,x.slip.soil,x.slip.amt⟩:Slip) (DF (⟨x.slip.place,x.slip.sort,x.slip.soil⟩:HKey) ((EQ L xs).1))).length b7])] ?_;refine HP (nm (nm ?_));have j2:(EQ L xs).2++[(x,DN L x.slip (DF ⟨x.slip.place,x.slip.sort,x.slip.soil⟩ (EQ L xs).1))]=(EQ L (xs++[x])).2:=gfold_4 h1 c0;have j8:(EQ L xs).2++[(x,DN L x.slip (DF ⟨x.slip.place,x.slip.sort,x.slip.soil⟩ (EQ L xs).1))] <+: EJ L:=by rw [j2];exact gfold_pre hpre
    refine sS (stp_yield (d:=some 45) (f:=(.tmp 37)) (args:=#[(.tmp 44)]) (tys:=#[115]) (pre:=([]++b2)) (F:=((bX a9 #[vI x.slip.place,vI x.slip.sort,.bool x.slip.soil] 136)::(bX k (EM x) 102)::(bX b1 #[.func (.yield L_) #[] #[]] 159)::(bX b5 #[.map (some b3)] 132)::(b3,Obj.map a6 a5)::(Mr1++F1))) (ty:=4) (gd:=(some (3,true))) (by kernel_rfl) (by kernel_rfl) rfl rfl (hround (EQ L xs).2 ((x,DN L x.slip (DF ⟨x.slip.place,x.slip.sort,x.slip.soil⟩ (EQ L xs).1)),(b6,b7)) _ [] b2 j8 (IT (IT hI0 b0) (IT hle1 (IT a0 a1))) b4 a7) (by simpa only [AA,CA,NA] using (PU (PU (PU (PU (PU (PO _ _ _))))))) (fun yv IY MY hIY hYP=>?_));rcases hYP with ⟨rfl,Mc4,hMe,hCl4⟩ | ⟨rfl,hSp4⟩
    ·
     replace hb1:=hIY.blk _ _ hb1;replace hCl:=hmono _ _ _ _ hIY hCl;replace a8:=hIY.blk _ _ a8;replace a2:=hIY.blk _ _ a2;replace a3:=hIY.blk _ _ a3;replace a4:=hIY.blk _ _ a4;replace a7:=hmono _ _ _ _ hIY a7;have hMf:Mc4=MY:=hMe.symm;subst hMf;clear hMe;rw [j2] at hCl4;refine AW (M':=(Mc4++(bX a9 #[vI x.slip.place,vI x.slip.sort,.bool x.slip.soil] 136)::(bX k (EM x) 102)::(bX b1 #[.func (.yield L_) #[] #[]] 159)::(bX b5 #[.map (some b3)] 132)::(b3,Obj.map a6 a5)::(Mr1++F1))) (fun w h=>by simpa only [AA,CA,NA] using h) (pm (M':=((bX a9 #[vI x.slip.place,vI x.slip.sort,.bool x.slip.soil] 136)::(bX k (EM x) 102)::(bX b1 #[.func (.yield L_) #[] #[]] 159)::(bX b5 #[.map (some b3)] 132)::(b3,Obj.map a6 a5)::(Mc4++(Mr1++F1)))) (PW (PW (PW (PW PM)))) (sp 2 [(47,.bool (!(true))),(46,.bool (!(true)))] (se (rcf 47 rfl (AO (NB (ppm (M':=((bX a9 #[vI x.slip.place,vI x.slip.sort,.bool x.slip.soil] 136)::(bX k (EM x) 102)::(Mr1++(bX b1 #[.func (.yield L_) #[] #[]] 159)::(bX b5 #[.map (some b3)] 132)::(b3,Obj.map a6 a5)::(Mc4++F1)))) (PC _ (PC _ (PU (PU (PU (PO _ _ _)))))) ?_)))))));refine FJ (M':=(Mr1++((bX b1 #[.func (.yield L_) #[] #[]] 159)::(bX b5 #[.map (some b3)] 132)::(b3,Obj.map a6 a5)::Mc4))) (IT (IT a0 a1) hIY) ?_ (by simp only [AA,NA,CA];exact (TC _ (TC _ (TR _))));exact ⟨Mr1,_,rfl,hR1,⟨_,_,_,rfl,((gfold_2 (L:=L) (xs:=xs) h1).symm▸b8),hCl4⟩⟩
    replace hb1:=hIY.blk _ _ hb1;replace hCl:=hmono _ _ _ _ hIY hCl;replace a8:=hIY.blk _ _ a8;replace a2:=hIY.blk _ _ a2;replace a3:=hIY.blk _ _ a3;replace a4:=hIY.blk _ _ a4;replace a7:=hmono _ _ _ _ hIY a7;refine AW (M':=(MY++(bX a9 #[vI x.slip.place,vI x.slip.sort,.bool x.slip.soil] 136)::(bX k (EM x) 102)::(bX b1 #[.func (.yield L_) #[] #[]] 159)::(bX b5 #[.map (some b3)] 132)::(b3,Obj.map a6 a5)::(Mr1++F1))) (fun w h=>by simpa only [AA,CA,NA] using h) (pm (M':=((bX a9 #[vI x.slip.place,vI x.slip.sort,.bool x.slip.soil] 136)::(bX k (EM x) 102)::(bX b1 #[.func (.yield L_) #[] #[]] 159)::(bX b5 #[.map (some b3)] 132)::(b3,Obj.map a6 a5)::(MY++(Mr1++F1)))) (PW (PW (PW (PW PM)))) (sp 2 [(47,.bool (!(false))),(46,.bool (!(false)))] (se (rct 47 rfl (BC (RB (ppm (M':=((bX a9 #[vI x.slip.place,vI x.slip.sort,.bool x.slip.soil] 136)::(bX k (EM x) 102)::(bX b1 #[.func (.yield L_) #[] #[]] 159)::(bX b5 #[.map (some b3)] 132)::(b3,Obj.map a6 a5)::(Mr1++(MY++F1)))) (PC _ (PC _ (PC _ (PC _ (PC _ (PO _ _ _)))))) ?_)))))));refine LB (M':=(MY)) (IT (IT a0 a1) hIY) ?_ (TC _ (TC _ (TC _ (TC _ (TC _ (TT (TR _) (TB _ _)))))));exact ⟨rfl,_,hSp4⟩
   exact absurd (h3.symm.trans h2) (by decide)
  refine rd0 12 (ox 1 [(33,vP k 8)] ?_);refine AD (dlb 34 1 8 k (vI x.gap)) (ox 2 [(36,.bool (!(cmp .eql x.gap 0))),(35,.bool (!(cmp .eql x.gap 0)))] ?_);refine JA 36 (fun h4=>?_) (fun h4=>?_)
  ·
   exact absurd (h4.symm.trans h2) (by decide)
  have c1:=h4;have c1:=BG (BI c1);refine ox 8 [(44,undef),(43,undef),(42,undef),(41,undef),(40,undef),(39,undef),(38,undef),(37,undef)] ?_;refine AY (sp 3 [(47,.bool false),(46,undef),(45,undef)] (se (rcf 47 rfl (AO (NB (ppm (M':=((bX a9 #[vI x.slip.place,vI x.slip.sort,.bool x.slip.soil] 136)::(bX k (EM x) 102)::(Mr1++(bX b1 #[.func (.yield L_) #[] #[]] 159)::(bX b5 #[.map (some b3)] 132)::(b3,Obj.map a6 a5)::(b2++F1)))) (PC _ (PC _ (PU (PU PM.symm)))) ?_))))));refine FJ (M':=(Mr1++((bX b1 #[.func (.yield L_) #[] #[]] 159)::(bX b5 #[.map (some b3)] 132)::(b3,Obj.map a6 a5)::b2))) (IR _) ?_ (by simp only [AA,NA,CA];exact (TC _ (TC _ (TR _))));exact ⟨Mr1,_,rfl,hR1,⟨_,_,_,rfl,((gfold_2 (L:=L) (xs:=xs) h1).symm▸b8),(gfold_3 (L:=L) (xs:=xs) h1 c1▸a7)⟩⟩
 ·intro D I2 Mr2 M2 hle2 hR2 hC2;replace hb1:=hle2.blk _ _ hb1;replace hCl:=hmono _ _ _ _ hle2 hCl;replace a8:=hle2.blk _ _ a8;replace a2:=hle2.blk _ _ a2;replace a3:=hle2.blk _ _ a3;replace a4:=hle2.blk _ _ a4;obtain ⟨f0,e8,rfl,j5⟩:=EvR.full hR2 FU;obtain ⟨e9,e7,c3,rfl,j4,f9⟩:=hC2;refine KB (M':=((D,Obj.deferred (some []))::(b_r,Obj.map f0 e8)::(bX b1 #[.func (.yield L_) #[] #[]] 159)::(bX b5 #[.map (some b3)] 132)::(b3,Obj.map e9 e7)::(c3++F))) (fun w h=>by simpa only [AA,CA,NA] using h) (NB ?_);refine DS (R:=((b_r,Obj.map f0 e8)::(bX b1 #[.func (.yield L_) #[] #[]] 159)::(bX b5 #[.map (some b3)] 132)::(b3,Obj.map e9 e7)::(c3++F))) [D] (.inr rfl) (PR _) (ppm (M':=(c3++(b_r,Obj.map f0 e8)::(bX b1 #[.func (.yield L_) #[] #[]] 159)::(bX b5 #[.map (some b3)] 132)::(b3,Obj.map e9 e7)::F)) (PU (PU (PU PM.symm))) ?_);refine EL c3 (by kernel_rfl) (TA (TC _ (TC _ (TC _ (TC _ (TR _))))) _) (IT b0 hle2) ?_;exact .inl ⟨[],c3,rfl,f9⟩
 intro D c xs I2 M2 hle2 hS2;replace hb1:=hle2.blk _ _ hb1;replace hCl:=hmono _ _ _ _ hle2 hCl;replace a8:=hle2.blk _ _ a8;replace a2:=hle2.blk _ _ a2;replace a3:=hle2.blk _ _ a3;replace a4:=hle2.blk _ _ a4;obtain ⟨rfl,k9,g0⟩:=hS2;refine rmA (M':=((D,Obj.deferred (some []))::(M2++F))) (rnm ?_);refine run_ret rfl (RB ?_);refine DS (R:=(M2++F)) [D] (.inl rfl) (PR _) (pst_ret0 M2 (by kernel_rfl) (TA (TR _) _) (IT b0 hle2) ?_);exact .inr ⟨_,g0⟩
end Go.Proofs.YtgcemienebmdeaaGreat
