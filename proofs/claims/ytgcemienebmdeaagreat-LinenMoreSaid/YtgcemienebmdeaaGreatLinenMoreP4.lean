/- A part of the proof of the laws of this seat. -/
import Derived.Test.YtgcemienebmdeaaGreatLinenMoreP3
import Derived.Test.YtgcemienebmdeaaGreatLinenMoreP2
set_option linter.unusedVariables false
set_option linter.unusedSimpArgs false
namespace Go.Proofs.YtgcemienebmdeaaGreat
open Go Go.Sl Go.Sh
set_option maxRecDepth 100000
def fidK (k:Int):Nat:=if k=1 then 117 else if k=2 then 118 else if k=3 then 119 else if k=4 then 120 else if k=5 then 121 else 122
theorem does_ct (I:Imm) (b:Nat) (b_1 b_2 b_3:Value) (b_r:Nat) (b_es:Array MapEntry) (b_cl:Nat) (L:Lin) (H:Hs) (s:Slip) (b_b:IsBook 134 I b b_1 b_2 b_3 b_r L) (b_is:MapH b_es b_cl H) (hH:Within 1000000 H) (ha:0≤s.amt∧s.amt≤50) (hk:1≤s.kind∧s.kind≤6):Ct Tryz.prog (fidK s.kind) #[vP b 0,.agg #[vI s.num,vI s.hour,vI s.kind,vI s.place,vI s.to,vI s.sort,.bool s.soil,vI s.amt]] I ([(b_r,Obj.map b_es b_cl)]) (fun v I' M'=>∃ b_et:Array MapEntry,∃ b_ct:Nat,v=.tuple #[]∧M'=[(b_r,Obj.map b_et b_ct)]∧MapH b_et b_ct (doSlip s H)):=by
 have e:s.kind=1∨s.kind=2∨s.kind=3∨s.kind=4∨s.kind=5∨s.kind=6:=by omega
 rcases e with e | e | e | e | e | e
 ·rw [doSlip_1 e,show fidK s.kind=117 by rw [e];rfl];exact bmove_ct I b b_1 b_2 b_3 b_r b_es b_cl L H s b_b b_is hH ha
 ·rw [doSlip_2 e,show fidK s.kind=118 by rw [e];rfl];exact buse_ct I b b_1 b_2 b_3 b_r b_es b_cl L H s b_b b_is hH ha
 ·rw [doSlip_3 e,show fidK s.kind=119 by rw [e];rfl];exact bwash_ct I b b_1 b_2 b_3 b_r b_es b_cl L H s b_b b_is hH ha
 ·rw [doSlip_4 e,show fidK s.kind=120 by rw [e];rfl];exact bcount_ct I b b_1 b_2 b_3 b_r b_es b_cl L H s b_b b_is hH ha
 ·rw [doSlip_5 e,show fidK s.kind=121 by rw [e];rfl];exact bbuy_ct I b b_1 b_2 b_3 b_r b_es b_cl L H s b_b b_is hH ha
 rw [doSlip_6 e,show fidK s.kind=122 by rw [e];rfl];exact bscrap_ct I b b_1 b_2 b_3 b_r b_es b_cl L H s b_b b_is hH ha
theorem fidK_ok (k:Int):DF Tryz.prog (fidK k)=true:=by
 unfold fidK
 repeat' split
 all_goals kernel_rfl
noncomputable def c_events1:=cod Tryz.f123
set_option maxHeartbeats 1000000 in
theorem JI (I0:Imm) (b b1 b2 m b_r:Nat) (b_1 b_2 b_3:Value) (des:Array MapEntry) (dcl:Nat) (L:Lin) (H:Hs) (b_b:IsBook 134 I0 b b_1 b_2 b_3 b_r L) (hb1:I0.blk b1=some (Obj.cells #[vP b 0] 98 (0,0))) (hb2:I0.blk b2=some (Obj.cells #[.map (some m)] 149 (0,0))) (hm:I0.blk m=some (Obj.map des dcl)) (hdes:MapIs encI des (fnTab fidK b)) (hgood:GoodS L.slips) (hw:Within 1000 H):IterP Tryz.prog 123 [vP b1 0,vP b2 0] encEv (evs H (AG AC L.slips)) (fun xs _ M=>EvR b_r H (AG AC L.slips) xs.length M) I0:=by
 intro _ L_ Cl Sp hmono hround I Mr M hI0 hR hCl;obtain ⟨c9,c8,rfl,g6⟩:=hR;replace b_b:=b_b.mono hI0;replace hb1:=hI0.blk _ _ hb1;replace hb2:=hI0.blk _ _ hb2;replace hm:=hI0.blk _ _ hm;obtain ⟨b9,e3,e5,c3⟩:=id b_b;obtain ⟨j7,j9,j8,k2,g5,rfl,k0,k1,k3,k4⟩:=id e3;obtain ⟨k5,k7,k6,l0,rfl,k8,k9,l1⟩:=id e5;obtain ⟨e6,e7,l2,l5,rfl,l3,l4,l6⟩:=id c3;refine frA (args:=[_,_,_]) (N:=72) Tryz.func123 (fun F=>?_);show Run _ _ (c_events1 []) _ _ [(0,_),(1,_),(2,_)] _ _;refine rmA (M':=((b_r,Obj.map c9 c8)::(M++F))) (rnm ?_);have n5:=hgood.sorted.len;refine rq ?_;refine rd 10 [(0,true),(1,true),(2,true),(3,true),(4,true),(9,true),(5,false),(6,true),(7,false),(8,true)] ((b_r,Obj.map c9 c8)::[]) (M++F) ?_;refine AD (dld 9 1 98 (vP b 0) rfl (AW hb1 rfl)) (ox 1 [(10,vP b 0)] ?_);refine AD (dfa 11 10 134 0 0 0 rfl) ?_;refine AD (dfa 12 11 26 4 4 0 rfl) ?_;refine AD (dld 13 12 24 (vS e6 L.slips.length e7) rfl (AW b9 rfl)) (ox 1 [(18,vI 0)] ?_);have i2:=byHour_ct I;refine GA (sc (some 14) (F:=((b_r,Obj.map c9 c8)::(M++F))) (i2 :) (PR _) (fun n8 I1 n7 b8 m8=>?_));obtain ⟨l9,l8⟩:=m8;rw [l9,l8];clear l9 l8;replace hb1:=b8.blk _ _ hb1;replace hb2:=b8.blk _ _ hb2;replace hm:=b8.blk _ _ hm;replace hCl:=hmono _ _ _ _ b8 hCl;replace b_b:=b_b.mono b8;replace b9:=b8.blk _ _ b9;replace c3:=c3.mono b8;refine CG (S':=(M++F)) (PR _) ?_;show OFP _ _ _ _ _ _ ((14,.agg #[.func (.func 150) #[] #[]])::_) _ _;refine ox 1 [(15,.func (.func 150) #[] #[])] ?_;have f0:=sorted_ct I1 _ _ c3 (by exact hgood.small) (by exact hgood.len);refine GA (sc (some 16) (F:=((b_r,Obj.map c9 c8)::(M++F))) (f0 :) (PR _) (fun n2 I9 m9 a7 i5=>?_));obtain ⟨n9,g4,f7,f3,g1⟩:=i5;rw [f7,f3];clear f7 f3;replace hb1:=a7.blk _ _ hb1;replace hb2:=a7.blk _ _ hb2;replace hm:=a7.blk _ _ hm;replace hCl:=hmono _ _ _ _ a7 hCl;replace b_b:=b_b.mono a7;replace b9:=a7.blk _ _ b9;obtain ⟨c6,c7,rfl,m0⟩:=g1.shape;refine CG (S':=(g4++(M++F))) PM ?_;show OFP _ _ _ _ _ _ ((16,vS c6 (AG AC L.slips).length c7)::_) _ _;refine ox 1 [(17,vI (↑((AG AC L.slips).length)))] ?_;refine GX (nm (nm (se (rb 0 ?_))));refine CN (B:=((b_r,Obj.map c9 c8)::(M++F))) AB g1 (by first | omega | (simp only [LS,LC,LN,LA,LK,LD] <;> omega) | decide) PM.symm (PR _) (fun j5 a8 e0=>?_);replace hb1:=a8.blk _ _ hb1;replace hb2:=a8.blk _ _ hb2;replace hm:=a8.blk _ _ hm;replace hCl:=hmono _ _ _ _ a8 hCl;replace b_b:=b_b.mono a8;replace b9:=a8.blk _ _ b9;obtain ⟨g9,h4,h0,h7,d9,h5,h6,c0⟩:=id e0;cases d9;refine rl (fun mz a w=>∃ J0:Imm,∃ k:Nat,∃ c2:Seg,∃ a3:Array MapEntry,∃ a2:Nat,(j5.le J0)∧(k≤(AG AC L.slips).length)∧(Cl ((evs H (AG AC L.slips)).take k) J0 c2)∧(MapH a3 a2 (aft H ((AG AC L.slips).take k)))∧SD 72 [(18,vI ↑k),(0,.func (.yield L_) #[] #[]),(1,vP b1 0),(2,vP b2 0),(16,vS c6 (AG AC L.slips).length c7),(17,vI (↑((AG AC L.slips).length)))] J0 ((b_r,Obj.map a3 a2)::(c2++F)) a w (mz=(AG AC L.slips).length-k)) ?_ ?_
 ·intro a w hS hD hW;exact ⟨_,j5,0,M,c9,c8,IR _,Nat.zero_le _,hCl,g6,hS.sub su,hD,hW,rfl⟩
 rintro mz a w ⟨J0,k,c2,a3,a2,hJ0,hk,hCl,a6,hS,hD,hW,rfl⟩
 refine AU hS hD hW ?_;replace hb1:=hJ0.blk _ _ hb1;replace hb2:=hJ0.blk _ _ hb2;replace hm:=hJ0.blk _ _ hm;replace b_b:=b_b.mono hJ0;replace b9:=hJ0.blk _ _ b9;replace c0:=c0.mono hJ0;refine rqr (sp 1 [(19,.bool (cmp .lss ↑k (↑((AG AC L.slips).length))))] (se (rq (rc 19 rfl (fun h1=>?_) (fun h1=>?_)))))
 ·
  have h8:=h1;have h1:=BX h1;refine AM (NX (rq (rb 1 (rqr (sd (di 20 8 k c0.addr) (sd (dln 21 20 28 (EU ((AG AC L.slips).getD k AB)) rfl (CB (vals:=CV) (fun _=>rfl) c0 k (by omega))) (sS (sal 5 28 IQ (fun a5=>(sS (ss 0 0 a5 (EU ((AG AC L.slips).getD k AB)) (EU ((AG AC L.slips).getD k AB)) (_::_::_) (cs:=[_,_,_,_,_,_,_,_]) rfl rfl (sn (sd (dnb 22 0 0 a5 (EU ((AG AC L.slips).getD k AB))) (sp 1 [(23,.agg #[vI (((AG AC L.slips).getD k AB).num),vI (((AG AC L.slips).getD k AB).hour),vI (((AG AC L.slips).getD k AB).kind),vI (((AG AC L.slips).getD k AB).place),vI (((AG AC L.slips).getD k AB).to),vI (((AG AC L.slips).getD k AB).sort),.bool (((AG AC L.slips).getD k AB).soil),vI (((AG AC L.slips).getD k AB).amt),vI 0,.bool false])] (sS (sal 6 102 #[vI 0,vI 0,vI 0,vI 0,vI 0,vI 0,.bool false,vI 0,vI 0,.bool false] (fun b4=>(sS (ss 0 0 b4 [vI (((AG AC L.slips).getD k AB).num),vI (((AG AC L.slips).getD k AB).hour),vI (((AG AC L.slips).getD k AB).kind),vI (((AG AC L.slips).getD k AB).place),vI (((AG AC L.slips).getD k AB).to),vI (((AG AC L.slips).getD k AB).sort),.bool (((AG AC L.slips).getD k AB).soil),vI (((AG AC L.slips).getD k AB).amt),vI 0,.bool false] [vI (((AG AC L.slips).getD k AB).num),vI (((AG AC L.slips).getD k AB).hour),vI (((AG AC L.slips).getD k AB).kind),vI (((AG AC L.slips).getD k AB).place),vI (((AG AC L.slips).getD k AB).to),vI (((AG AC L.slips).getD k AB).sort),.bool (((AG AC L.slips).getD k AB).soil),vI (((AG AC L.slips).getD k AB).amt),vI 0,.bool false] (_::_::_::_) (cs:=[_,_,_,_,_,_,_,_,_,_]) rfl rfl (se (rq ?_)))))))))))))))))))));refine BV (fun a w=>∃ gv:Int,((evOf (aft H ((AG AC L.slips).take k)) ((AG AC L.slips).getD k AB)).gap=gv)∧SE 72 [(0,.func (.yield L_) #[] #[]),(1,vP b1 0),(2,vP b2 0),(5,vP a5 0),(6,vP b4 0),(16,vS c6 (AG AC L.slips).length c7),(17,vI (↑((AG AC L.slips).length))),(18,vI ↑k)] J0 ((bX b4 #[vI (((AG AC L.slips).getD k AB).num),vI (((AG AC L.slips).getD k AB).hour),vI (((AG AC L.slips).getD k AB).kind),vI (((AG AC L.slips).getD k AB).place),vI (((AG AC L.slips).getD k AB).to),vI (((AG AC L.slips).getD k AB).sort),.bool (((AG AC L.slips).getD k AB).soil),vI (((AG AC L.slips).getD k AB).amt),vI gv,.bool false] 102)::(bX a5 (AV ((AG AC L.slips).getD k AB)) 28)::(b_r,Obj.map a3 a2)::(c2++F)) a w) ?_ ?_
  ·
   refine rqr (sp 1 [(24,vP a5 2)] (sd (dlb 25 1 2 a5 (vI (((AG AC L.slips).getD k AB).kind))) (sp 1 [(26,.bool (cmp .eql (((AG AC L.slips).getD k AB).kind) 4))] (se (rc 26 rfl (fun h2=>?_) (fun h2=>?_))))))
   ·
    have h9:=h2;have h2:=BE h2;refine rd0 14 (ox 1 [(27,vP a5 7)] ?_);refine AD (dlb 28 1 7 a5 (vI (((AG AC L.slips).getD k AB).amt))) ?_;refine AD (dld 29 1 98 (vP b 0) rfl (AW hb1 rfl)) (ox 1 [(30,vP b 0)] ?_);refine AD (dfa 31 30 134 1 5 0 rfl) ?_;refine AD (dld 32 31 132 (.map (some b_r)) rfl (AW b9 rfl)) (ox 1 [(33,vP a5 3)] ?_);refine AD (dlb 34 1 3 a5 (vI (((AG AC L.slips).getD k AB).place))) (ox 1 [(35,vP a5 5)] ?_);refine AD (dlb 36 1 5 a5 (vI (((AG AC L.slips).getD k AB).sort))) (ox 1 [(37,vP a5 6)] ?_);refine AD (dlb 38 1 6 a5 (.bool (((AG AC L.slips).getD k AB).soil))) (ox 1 [(39,.agg #[vI (((AG AC L.slips).getD k AB).place),vI (((AG AC L.slips).getD k AB).sort),.bool (((AG AC L.slips).getD k AB).soil)])] ?_);refine AD (HH (x:=(.tmp 32)) (y:=(.tmp 39)) (T:=132) (kt:=136) (et:=3) (k:=(⟨((AG AC L.slips).getD k AB).place,((AG AC L.slips).getD k AB).sort,((AG AC L.slips).getD k AB).soil⟩:HKey)) (z:=vI 0) (kvs:=intV (aft H ((AG AC L.slips).take k))) (d:=40) (ty:=3) (gd:=none) (by kernel_rfl) rfl (by kernel_rfl) (BK (by kernel_rfl) (by kernel_rfl)) rfl rfl (by kernel_rfl) (.inl (List.mem_of_getElem? (i:=2) rfl)) a6.1.1 (BT (⟨((AG AC L.slips).getD k AB).place,((AG AC L.slips).getD k AB).sort,((AG AC L.slips).getD k AB).soil⟩:HKey) (aft H ((AG AC L.slips).take k)))) ?_;refine BA ?_;have i3:=hgood.sorted.ok _ (BJ (k:=k) (d:=AB) (by omega));obtain ⟨⟨hgk1,hgk2⟩,⟨hgk3,hgk4⟩,hgk5⟩:=i3;have n6:=(hgood.sorted.within hw k) ⟨((AG AC L.slips).getD k AB).place,((AG AC L.slips).getD k AB).sort,((AG AC L.slips).getD k AB).soil⟩;refine sd (dsb 41 (((AG AC L.slips).getD k AB).amt) (DK (⟨((AG AC L.slips).getD k AB).place,((AG AC L.slips).getD k AB).sort,((AG AC L.slips).getD k AB).soil⟩:HKey) (aft H ((AG AC L.slips).take k)))) (sp 1 [(42,vP b4 8)] (sS (ss 0 8 b4 [vI ((((AG AC L.slips).getD k AB).amt)-(DK (⟨((AG AC L.slips).getD k AB).place,((AG AC L.slips).getD k AB).sort,((AG AC L.slips).getD k AB).soil⟩:HKey) (aft H ((AG AC L.slips).take k))))] [vI (((AG AC L.slips).getD k AB).num),vI (((AG AC L.slips).getD k AB).hour),vI (((AG AC L.slips).getD k AB).kind),vI (((AG AC L.slips).getD k AB).place),vI (((AG AC L.slips).getD k AB).to),vI (((AG AC L.slips).getD k AB).sort),.bool (((AG AC L.slips).getD k AB).soil),vI (((AG AC L.slips).getD k AB).amt),vI ((((AG AC L.slips).getD k AB).amt)-(DK (⟨((AG AC L.slips).getD k AB).place,((AG AC L.slips).getD k AB).sort,((AG AC L.slips).getD k AB).soil⟩:HKey) (aft H ((AG AC L.slips).take k)))),.bool false] (_::_::_::_) (cs:=[_,_,_,_,_,_,_,_,_,_]) rfl rfl (ee ?_))));exact AL (fun a w hS hD hW=>⟨((((AG AC L.slips).getD k AB).amt)-(DK (⟨((AG AC L.slips).getD k AB).place,((AG AC L.slips).getD k AB).sort,((AG AC L.slips).getD k AB).soil⟩:HKey) (aft H ((AG AC L.slips).take k)))),gap_t h2,hS.sub su,hD,hW⟩)
   have h9:=h2;have h2:=BG h2;refine AM ?_;exact AL (fun a w hS hD hW=>⟨(0),gap_f h2,hS.sub su,hD,hW⟩)
  rintro a w ⟨gv,m6,hS,hD,hW⟩
  refine AU hS hD hW ?_;refine rqr (sd (dld 43 1 98 (vP b 0) rfl (AW hb1 rfl)) ?_);have f1:=less_ct J0 b _ _ _ _ _ _ _ _ b_b a6;refine sS (sc (some 44) (F:=((bX b4 #[vI (((AG AC L.slips).getD k AB).num),vI (((AG AC L.slips).getD k AB).hour),vI (((AG AC L.slips).getD k AB).kind),vI (((AG AC L.slips).getD k AB).place),vI (((AG AC L.slips).getD k AB).to),vI (((AG AC L.slips).getD k AB).sort),.bool (((AG AC L.slips).getD k AB).soil),vI (((AG AC L.slips).getD k AB).amt),vI gv,.bool false] 102)::(bX a5 (AV ((AG AC L.slips).getD k AB)) 28)::(c2++F))) (f1 :) ((PC _ (PS _ _ _)).trans (PS _ _ _)) (fun n3 m1 n0 a9 i6=>?_));obtain ⟨c5,b6,b5,d0,f8,f4,j2,j3⟩:=i6;rw [f8,f4];clear f8 f4;replace hb1:=a9.blk _ _ hb1;replace hb2:=a9.blk _ _ hb2;replace hm:=a9.blk _ _ hm;replace b_b:=b_b.mono a9;replace b9:=a9.blk _ _ b9;replace hCl:=hmono _ _ _ _ a9 hCl;refine AZ (M':=((b_r,Obj.map a3 a2)::(c5,Obj.map b6 b5)::(bX b4 #[vI (((AG AC L.slips).getD k AB).num),vI (((AG AC L.slips).getD k AB).hour),vI (((AG AC L.slips).getD k AB).kind),vI (((AG AC L.slips).getD k AB).place),vI (((AG AC L.slips).getD k AB).to),vI (((AG AC L.slips).getD k AB).sort),.bool (((AG AC L.slips).getD k AB).soil),vI (((AG AC L.slips).getD k AB).amt),vI gv,.bool false] 102)::(bX a5 (AV ((AG AC L.slips).getD k AB)) 28)::(c2++F))) (fun w h=>by simpa only [AA,CA,NA] using h) (nm ?_);refine sp 1 [(7,.map (some c5))] (se (rq ?_));have i3:=hgood.sorted.ok _ (BJ (k:=k) (d:=AB) (by omega));obtain ⟨⟨hgk1,hgk2⟩,⟨hgk3,hgk4⟩,hgk5⟩:=i3;refine rr (sd (dld 45 2 149 (.map (some m)) rfl (AW hb2 rfl)) (sp 1 [(46,vP a5 2)] (sd (dlb 47 3 2 a5 (vI (((AG AC L.slips).getD k AB).kind))) (sd (HH (x:=(.tmp 45)) (y:=(.tmp 47)) (T:=149) (kt:=3) (et:=148) (k:=((AG AC L.slips).getD k AB).kind) (kvs:=fnTab fidK b) (z:=.nilFunc) (d:=48) (ty:=148) (gd:=none) (by kernel_rfl) rfl (by kernel_rfl) (IW (GU (by kernel_rfl))) rfl rfl (by kernel_rfl) (.inr hm) hdes (getKv_fn hgk1 hgk2)) (sd (dnb 49 3 0 a5 (EU ((AG AC L.slips).getD k AB))) (sS (stp_callB (d:=(some 50)) (f:=(.tmp 48)) (fid:=fidK ((AG AC L.slips).getD k AB).kind) (args:=#[(.tmp 49)]) (tys:=#[28]) (fs:=[vP b 0]) (cv:=[]) (F:=((c5,Obj.map b6 b5)::(bX b4 #[vI (((AG AC L.slips).getD k AB).num),vI (((AG AC L.slips).getD k AB).hour),vI (((AG AC L.slips).getD k AB).kind),vI (((AG AC L.slips).getD k AB).place),vI (((AG AC L.slips).getD k AB).to),vI (((AG AC L.slips).getD k AB).sort),.bool (((AG AC L.slips).getD k AB).soil),vI (((AG AC L.slips).getD k AB).amt),vI gv,.bool false] 102)::(bX a5 (AV ((AG AC L.slips).getD k AB)) 28)::(c2++F))) (ty:=0) (gd:=none) (by kernel_rfl) rfl rfl rfl (fidK_ok _) rfl (does_ct m1 b _ _ _ _ _ _ L (aft H ((AG AC L.slips).take k)) ((AG AC L.slips).getD k AB) b_b a6 ((hgood.sorted.within hw k).mono (by decide)) ⟨hgk3,hgk4⟩ ⟨hgk1,hgk2⟩) (PR _) (fun _ m2 _ b0 i7=>?_))))))));obtain ⟨d2,d1,rfl,rfl,d3⟩:=i7;replace hb1:=b0.blk _ _ hb1;replace hb2:=b0.blk _ _ hb2;replace hm:=b0.blk _ _ hm;replace b_b:=b_b.mono b0;replace b9:=b0.blk _ _ b9;replace hCl:=hmono _ _ _ _ b0 hCl;refine nm (se (rq (rqr ?_)));refine sd (dld 51 1 98 (vP b 0) rfl (AW hb1 rfl)) ?_;have f2:=less_ct m2 b _ _ _ _ _ _ _ _ b_b d3;refine sS (sc (some 52) (F:=((c5,Obj.map b6 b5)::(bX b4 #[vI (((AG AC L.slips).getD k AB).num),vI (((AG AC L.slips).getD k AB).hour),vI (((AG AC L.slips).getD k AB).kind),vI (((AG AC L.slips).getD k AB).place),vI (((AG AC L.slips).getD k AB).to),vI (((AG AC L.slips).getD k AB).sort),.bool (((AG AC L.slips).getD k AB).soil),vI (((AG AC L.slips).getD k AB).amt),vI gv,.bool false] 102)::(bX a5 (AV ((AG AC L.slips).getD k AB)) 28)::(c2++F))) (f2 :) (.refl _) (fun n4 m3 n1 b3 i8=>?_));obtain ⟨c1,b7,a1,g0,f9,f5,e1,j4⟩:=i8;rw [f9,f5];clear f9 f5;replace hb1:=b3.blk _ _ hb1;replace hb2:=b3.blk _ _ hb2;replace hm:=b3.blk _ _ hm;replace b9:=b3.blk _ _ b9;replace hCl:=hmono _ _ _ _ b3 hCl;refine AZ (M':=((b_r,Obj.map d2 d1)::(c1,Obj.map b7 a1)::(c5,Obj.map b6 b5)::(bX b4 #[vI (((AG AC L.slips).getD k AB).num),vI (((AG AC L.slips).getD k AB).hour),vI (((AG AC L.slips).getD k AB).kind),vI (((AG AC L.slips).getD k AB).place),vI (((AG AC L.slips).getD k AB).to),vI (((AG AC L.slips).getD k AB).sort),.bool (((AG AC L.slips).getD k AB).soil),vI (((AG AC L.slips).getD k AB).amt),vI gv,.bool false] 102)::(bX a5 (AV ((AG AC L.slips).getD k AB)) 28)::(c2++F))) (fun w h=>by simpa only [AA,CA,NA] using h) (nm ?_);refine sS (stp_range (d:=53) (x:=(.tmp 52)) (T:=155) (kt:=136) (et:=4) (es:=b7) (cl:=a1) (ty:=0) (gd:=none) (by kernel_rfl) rfl (by kernel_rfl) rfl (.inl (List.mem_of_getElem? (i:=1) rfl)) (fun d7=>(se (rb 2 ?_))));refine rl (fun mz a w=>∃ dn:List HKey,∃ td:List HKey,∃ bl:Bool,∃ a4:Array Nat,((dn++td).Perm g0)∧((dn.any fun k=>!decide (k∈d0))=bl)∧(Go.Sl.Left MU b7 a4 (NH td))∧SD 72 [(0,.func (.yield L_) #[] #[]),(1,vP b1 0),(2,vP b2 0),(6,vP b4 0),(7,.map (some c5)),(16,vS c6 (AG AC L.slips).length c7),(17,vI (↑((AG AC L.slips).length))),(18,vI ↑k),(53,vP d7 0)] m3 ((d7,Obj.mapIter (some c1) a1 a4 a1)::(b_r,Obj.map d2 d1)::(c1,Obj.map b7 a1)::(c5,Obj.map b6 b5)::(bX b4 #[vI (((AG AC L.slips).getD k AB).num),vI (((AG AC L.slips).getD k AB).hour),vI (((AG AC L.slips).getD k AB).kind),vI (((AG AC L.slips).getD k AB).place),vI (((AG AC L.slips).getD k AB).to),vI (((AG AC L.slips).getD k AB).sort),.bool (((AG AC L.slips).getD k AB).soil),vI (((AG AC L.slips).getD k AB).amt),vI gv,.bool bl] 102)::(bX a5 (AV ((AG AC L.slips).getD k AB)) 28)::(c2++F)) a w (mz=td.length)) ?_ ?_
  ·intro a w hS hD hW;exact ⟨_,[],g0,false,#[],PR _,rfl,(Left.start e1.1),hS.sub su,hD,hW,rfl⟩
  rintro mz a w ⟨dn,td,bl,a4,i9,i1,d4,hS,hD,hW,rfl⟩
  refine AU hS hD hW ?_;refine rqr (sS (stp_nextK (d:=54) (x:=(.tmp 53)) (todo:=td) 0 (ty:=0) (gd:=none) (by kernel_rfl) rfl rfl rfl (.inl (List.mem_of_getElem? (i:=2) rfl)) e1.2 d4 (fun f6=>?_) (fun d5 a0 d6 g2 c4 d8 e9=>?_)))
  ·
   refine sp 1 [(55,.bool false)] (se (rq (rcf 55 rfl (BR 2 (EP (EP (EB (NX (rqr (sp 1 [(67,.func (.yield L_) #[] #[])] (sd (dnb 68 4 0 b4 [vI (((AG AC L.slips).getD k AB).num),vI (((AG AC L.slips).getD k AB).hour),vI (((AG AC L.slips).getD k AB).kind),vI (((AG AC L.slips).getD k AB).place),vI (((AG AC L.slips).getD k AB).to),vI (((AG AC L.slips).getD k AB).sort),.bool (((AG AC L.slips).getD k AB).soil),vI (((AG AC L.slips).getD k AB).amt),vI gv,.bool bl]) ?_)))))))))));have m4:=below_of j3 j4 i9 f6 d3.2;have m5:evOf (aft H ((AG AC L.slips).take k)) ((AG AC L.slips).getD k AB)=(⟨(AG AC L.slips).getD k AB,gv,bl⟩:Sh.Event):=evOf_mk m6 (m4.symm.trans i1);have j1:(evs H (AG AC L.slips)).take (k+1)=(evs H (AG AC L.slips)).take k++[(⟨(AG AC L.slips).getD k AB,gv,bl⟩:Sh.Event)]:=by rw [evs_take (by omega),m5]
   have j0:(evs H (AG AC L.slips)).take k++[(⟨(AG AC L.slips).getD k AB,gv,bl⟩:Sh.Event)] <+: (evs H (AG AC L.slips)):=by rw [← j1];exact List.take_prefix _ _
   have l7:((evs H (AG AC L.slips)).take k++[(⟨(AG AC L.slips).getD k AB,gv,bl⟩:Sh.Event)]).length=k+1:=by rw [← j1,LK,HI];omega
   have hRx:EvR b_r H (AG AC L.slips) ((evs H (AG AC L.slips)).take k++[(⟨(AG AC L.slips).getD k AB,gv,bl⟩:Sh.Event)]).length [(b_r,Obj.map d2 d1)]:=by rw [l7];exact ⟨_,_,rfl,by rw [aft_take (by omega)];exact d3⟩
   refine sS (stp_yield (d:=some 69) (f:=(.tmp 67)) (args:=#[(.tmp 68)]) (tys:=#[102]) (pre:=([(b_r,Obj.map d2 d1)]++c2)) (F:=((d7,Obj.mapIter (some c1) a1 a4 a1)::(c1,Obj.map b7 a1)::(c5,Obj.map b6 b5)::(bX b4 #[vI (((AG AC L.slips).getD k AB).num),vI (((AG AC L.slips).getD k AB).hour),vI (((AG AC L.slips).getD k AB).kind),vI (((AG AC L.slips).getD k AB).place),vI (((AG AC L.slips).getD k AB).to),vI (((AG AC L.slips).getD k AB).sort),.bool (((AG AC L.slips).getD k AB).soil),vI (((AG AC L.slips).getD k AB).amt),vI gv,.bool bl] 102)::(bX a5 (AV ((AG AC L.slips).getD k AB)) 28)::F)) (ty:=4) (gd:=none) (by kernel_rfl) rfl rfl rfl (hround ((evs H (AG AC L.slips)).take k) (⟨(AG AC L.slips).getD k AB,gv,bl⟩:Sh.Event) _ [(b_r,Obj.map d2 d1)] c2 j0 (IT (IT (IT (IT (IT (IT (IT hI0 b8) a7) a8) hJ0) a9) b0) b3) hRx hCl) (by simpa only [AA,CA,NA] using ((PS _ _ _).trans (PC _ (PU (PU (PU (PU PM.symm))))))) (fun yv IY MY hIY hYP=>?_));rcases hYP with ⟨rfl,Mr4,Mc4,rfl,q4,hCl4⟩ | ⟨rfl,hSp4⟩
   ·
    replace hb1:=hIY.blk _ _ hb1;replace hb2:=hIY.blk _ _ hb2;replace hm:=hIY.blk _ _ hm;replace b9:=hIY.blk _ _ b9;replace hCl:=hmono _ _ _ _ hIY hCl;replace hCl:=hCl4;rw [l7] at q4;obtain ⟨g8,g7,rfl,i4⟩:=q4;rw [← j1] at hCl;refine AZ (M':=((b_r,Obj.map g8 g7)::(Mc4++(d7,Obj.mapIter (some c1) a1 a4 a1)::(c1,Obj.map b7 a1)::(c5,Obj.map b6 b5)::(bX b4 #[vI (((AG AC L.slips).getD k AB).num),vI (((AG AC L.slips).getD k AB).hour),vI (((AG AC L.slips).getD k AB).kind),vI (((AG AC L.slips).getD k AB).place),vI (((AG AC L.slips).getD k AB).to),vI (((AG AC L.slips).getD k AB).sort),.bool (((AG AC L.slips).getD k AB).soil),vI (((AG AC L.slips).getD k AB).amt),vI gv,.bool bl] 102)::(bX a5 (AV ((AG AC L.slips).getD k AB)) 28)::F))) (fun w h=>by simpa only [AA,CA,NA] using h) (pm (M':=((b_r,Obj.map g8 g7)::(d7,Obj.mapIter (some c1) a1 a4 a1)::(c1,Obj.map b7 a1)::(c5,Obj.map b6 b5)::(bX b4 #[vI (((AG AC L.slips).getD k AB).num),vI (((AG AC L.slips).getD k AB).hour),vI (((AG AC L.slips).getD k AB).kind),vI (((AG AC L.slips).getD k AB).place),vI (((AG AC L.slips).getD k AB).to),vI (((AG AC L.slips).getD k AB).sort),.bool (((AG AC L.slips).getD k AB).soil),vI (((AG AC L.slips).getD k AB).amt),vI gv,.bool bl] 102)::(bX a5 (AV ((AG AC L.slips).getD k AB)) 28)::(Mc4++F))) (PC _ (PW (PW (PW (PW PM))))) (sp 1 [(70,.bool (!(true)))] (se (rcf 70 rfl (AM (NB (NX (rr (sd (da 71 ↑k 1) (sp 1 [(18,vI (↑k+1))] (ee ?_)))))))))));refine AO ((AG AC L.slips).length-(k+1)) (by omega) ?_;intro a w hS hD hW;exact ⟨IY,k+1,Mc4,g8,g7,(IT (IT (IT (IT hJ0 a9) b0) b3) hIY),by omega,hCl,i4,hS.sub su,hD,(hW.perm ((PS _ _ _).trans (PC _ ((PS _ _ _).trans (PC _ ((PS _ _ _).trans (PC _ ((PS _ _ _).trans (PC _ (PS _ _ _)))))))))).sub (TC _ (TC _ (TC _ (TC _ (TC _ (TR _)))))),rfl⟩
   replace hb1:=hIY.blk _ _ hb1;replace hb2:=hIY.blk _ _ hb2;replace hm:=hIY.blk _ _ hm;replace b9:=hIY.blk _ _ b9;replace hCl:=hmono _ _ _ _ hIY hCl;refine AZ (M':=(MY++(d7,Obj.mapIter (some c1) a1 a4 a1)::(c1,Obj.map b7 a1)::(c5,Obj.map b6 b5)::(bX b4 #[vI (((AG AC L.slips).getD k AB).num),vI (((AG AC L.slips).getD k AB).hour),vI (((AG AC L.slips).getD k AB).kind),vI (((AG AC L.slips).getD k AB).place),vI (((AG AC L.slips).getD k AB).to),vI (((AG AC L.slips).getD k AB).sort),.bool (((AG AC L.slips).getD k AB).soil),vI (((AG AC L.slips).getD k AB).amt),vI gv,.bool bl] 102)::(bX a5 (AV ((AG AC L.slips).getD k AB)) 28)::F)) (fun w h=>by simpa only [AA,CA,NA] using h) (pm (M':=((d7,Obj.mapIter (some c1) a1 a4 a1)::(c1,Obj.map b7 a1)::(c5,Obj.map b6 b5)::(bX b4 #[vI (((AG AC L.slips).getD k AB).num),vI (((AG AC L.slips).getD k AB).hour),vI (((AG AC L.slips).getD k AB).kind),vI (((AG AC L.slips).getD k AB).place),vI (((AG AC L.slips).getD k AB).to),vI (((AG AC L.slips).getD k AB).sort),.bool (((AG AC L.slips).getD k AB).soil),vI (((AG AC L.slips).getD k AB).amt),vI gv,.bool bl] 102)::(bX a5 (AV ((AG AC L.slips).getD k AB)) 28)::(MY++F))) (PW (PW (PW (PW PM)))) (sp 1 [(70,.bool (!(false)))] (se (rct 70 rfl (BD (RB (RP (RP (RB (ppm (M':=(MY++(d7,Obj.mapIter (some c1) a1 a4 a1)::(c1,Obj.map b7 a1)::(c5,Obj.map b6 b5)::(bX b4 #[vI (((AG AC L.slips).getD k AB).num),vI (((AG AC L.slips).getD k AB).hour),vI (((AG AC L.slips).getD k AB).kind),vI (((AG AC L.slips).getD k AB).place),vI (((AG AC L.slips).getD k AB).to),vI (((AG AC L.slips).getD k AB).sort),.bool (((AG AC L.slips).getD k AB).soil),vI (((AG AC L.slips).getD k AB).amt),vI gv,.bool bl] 102)::(bX a5 (AV ((AG AC L.slips).getD k AB)) 28)::F)) (PU (PU (PU (PU PM.symm)))) (pst_ret0 MY (by kernel_rfl) (TA (TC _ (TC _ (TC _ (TC _ (TC _ (TR _)))))) _) (IT (IT (IT (IT (IT (IT (IT b8 a7) a8) hJ0) a9) b0) b3) hIY) ?_)))))))))));exact .inr ⟨_,hSp4⟩
  show Seq _ _ _ _ _ _ ((54,.tuple #[.bool true,.agg #[vI a0.pl,vI a0.so,.bool a0.soil],.bool true])::_) _ _;refine nm ?_;refine sp 1 [(55,.bool true)] (se (rq (rct 55 rfl (AM (NX (rb 3 (rqr (sS (stp_entry (d:=56) (x:=(.tmp 53)) (enc:=MU) (y:=(a0,.bool true)) (ty:=0) (gd:=none) (by kernel_rfl) rfl rfl (List.mem_of_getElem? (i:=0) rfl) (.inl (List.mem_of_getElem? (i:=2) rfl)) e1.2 e9 ?_)))))))));show Seq _ _ _ _ _ _ ((56,.tuple #[.agg #[vI a0.pl,vI a0.so,.bool a0.soil],.bool true])::_) _ _;refine sp 1 [(57,.agg #[vI a0.pl,vI a0.so,.bool a0.soil])] (sS (sal 8 136 #[vI 0,vI 0,.bool false] (fun j6=>(sS (ss 0 0 j6 [vI a0.pl,vI a0.so,.bool a0.soil] [vI a0.pl,vI a0.so,.bool a0.soil] (_::_::_::_::_::_::_::_) (cs:=[_,_,_]) rfl rfl (se (rr (sp 1 [(58,vP b4 9)] (sd (dlb 59 5 9 b4 (.bool bl)) (sp 1 [(60,.bool bl)] ?_))))))))));refine BB 60 rfl (fun h3=>?_) (fun h3=>?_)
  ·
   have i0:=h3;refine sp 6 [(66,vP b4 9),(65,.bool true)] (sS (ss 5 9 b4 [.bool true] [vI (((AG AC L.slips).getD k AB).num),vI (((AG AC L.slips).getD k AB).hour),vI (((AG AC L.slips).getD k AB).kind),vI (((AG AC L.slips).getD k AB).place),vI (((AG AC L.slips).getD k AB).to),vI (((AG AC L.slips).getD k AB).sort),.bool (((AG AC L.slips).getD k AB).soil),vI (((AG AC L.slips).getD k AB).amt),vI gv,.bool true] (_::_::_::_::_::_::_::_) (cs:=[_,_,_,_,_,_,_,_,_,_]) rfl rfl (ee (NB ?_))));refine AO ((d5++d6).length) (tookK_len c4) ?_;intro a w hS hD hW;exact ⟨dn++[a0],d5++d6,_,g2,permK_took i9 c4,(by simp only [any_snoc,i1,h3,Bool.true_or,Bool.false_or]),d8,hS.sub su,hD,(hW.perm (PR _)).sub (TC _ (TR _)),rfl⟩
  have i0:=h3;refine sp 1 [(61,.map (some c5))] (sd (dnb 62 0 0 j6 [vI a0.pl,vI a0.so,.bool a0.soil]) (sd (HH (x:=(.tmp 61)) (y:=(.tmp 62)) (T:=155) (kt:=136) (et:=4) (k:=a0) (z:=.bool false) (kvs:=NH d0) (d:=63) (ty:=4) (gd:=(some (2,false))) (by kernel_rfl) (by kernel_rfl) (by kernel_rfl) (BK (by kernel_rfl) (by kernel_rfl)) rfl rfl (by kernel_rfl) (.inl (List.mem_of_getElem? (i:=4) rfl)) j2.1 (getKv_trues a0 d0)) (sp 3 [(66,vP b4 9),(65,.bool (!(decide (a0∈d0))))] (sS (ss 5 9 b4 [.bool (!(decide (a0∈d0)))] [vI (((AG AC L.slips).getD k AB).num),vI (((AG AC L.slips).getD k AB).hour),vI (((AG AC L.slips).getD k AB).kind),vI (((AG AC L.slips).getD k AB).place),vI (((AG AC L.slips).getD k AB).to),vI (((AG AC L.slips).getD k AB).sort),.bool (((AG AC L.slips).getD k AB).soil),vI (((AG AC L.slips).getD k AB).amt),vI gv,.bool (!(decide (a0∈d0)))] (_::_::_::_::_::_::_::_) (cs:=[_,_,_,_,_,_,_,_,_,_]) rfl rfl (ee (NB ?_)))))));refine AO ((d5++d6).length) (tookK_len c4) ?_;intro a w hS hD hW;exact ⟨dn++[a0],d5++d6,_,g2,permK_took i9 c4,(by simp only [any_snoc,i1,h3,Bool.true_or,Bool.false_or]),d8,hS.sub su,hD,(hW.perm (PR _)).sub (TC _ (TR _)),rfl⟩
 have h8:=h1;have h1:=CF h1;refine BR 0 (EP (EP (EB ?_)));refine FT ([(b_r,Obj.map a3 a2)]++(c2)) (by kernel_rfl) (by simp only [AA,NA,CA];exact (TK _ (TA (TR _) _))) (IT (IT (IT b8 a7) a8) hJ0) ?_;have m7:k=(AG AC L.slips).length:=by omega
 exact .inl ⟨[(b_r,Obj.map a3 a2)],c2,rfl,(show EvR b_r H (AG AC L.slips) (evs H (AG AC L.slips)).length _ from by rw [HI,← m7];exact ⟨_,_,rfl,a6⟩),(show (evs H (AG AC L.slips)).take k=(evs H (AG AC L.slips)) from List.take_of_length_le (by rw [HI];omega))▸hCl⟩
noncomputable def c_events:=cod Tryz.f69
theorem OL (I:Imm) (b:Nat):Ct Tryz.prog 69 #[vP b 0] I ([]) (fun v I' M'=>∃ b1:Nat,∃ b2:Nat,∃ m:Nat,∃ des:Array MapEntry,∃ dcl:Nat,v=.func (.func 123) #[] #[vP b1 0,vP b2 0]∧M'=[]∧(I'.blk b1=some (Obj.cells #[vP b 0] 98 (0,0)))∧(I'.blk b2=some (Obj.cells #[.map (some m)] 149 (0,0)))∧(I'.blk m=some (Obj.map des dcl))∧(MapIs encI des (fnTab fidK b))):=by
 refine fr (args:=[_]) (N:=19) Tryz.func69 (fun F=>?_);show Run _ _ (c_events []) _ _ [(0,_)] _ _;refine rnm (rqr ?_);refine sS (sb 1 98 #[vP b 0] (fun b1=>(sp 1 [(2,.nilFunc)] (sn (sS (LB (d:=4) (T:=149) (ty:=149) (gd:=none) (by kernel_rfl) rfl (fun b3=>(sd (dlb 5 1 0 b1 (vP b 0)) (sp 1 [(6,.func (.func 117) #[vP b 0] #[])] (sS (IU (x:=(.tmp 4)) (y:=(.const (vI 1))) (u:=(.tmp 6)) (T:=149) (kt:=3) (et:=148) (k:=(1:Int)) (kvs:=[]) 0 (ty:=0) (gd:=none) (by kernel_rfl) rfl (by kernel_rfl) (IW (GU (by kernel_rfl))) rfl rfl rfl rfl (MapIs.nil encI) (fun c6 c1 b0=>(nm ?_)))))))))))));refine sd (dlb 7 1 0 b1 (vP b 0)) (sp 1 [(8,.func (.func 118) #[vP b 0] #[])] (sS (IU (x:=(.tmp 4)) (y:=(.const (vI 2))) (u:=(.tmp 8)) (T:=149) (kt:=3) (et:=148) (k:=(2:Int)) (kvs:=(upd (1:Int) (.func (.func 117) #[vP b 0] #[]) [])) 0 (ty:=0) (gd:=none) (by kernel_rfl) rfl (by kernel_rfl) (IW (GU (by kernel_rfl))) rfl rfl rfl rfl b0 (fun c7 c2 b4=>(nm ?_)))));refine sd (dlb 9 1 0 b1 (vP b 0)) (sp 1 [(10,.func (.func 119) #[vP b 0] #[])] (sS (IU (x:=(.tmp 4)) (y:=(.const (vI 3))) (u:=(.tmp 10)) (T:=149) (kt:=3) (et:=148) (k:=(3:Int)) (kvs:=(upd (2:Int) (.func (.func 118) #[vP b 0] #[]) (upd (1:Int) (.func (.func 117) #[vP b 0] #[]) []))) 0 (ty:=0) (gd:=none) (by kernel_rfl) rfl (by kernel_rfl) (IW (GU (by kernel_rfl))) rfl rfl rfl rfl b4 (fun c8 c3 b5=>(nm ?_)))));refine sd (dlb 11 1 0 b1 (vP b 0)) (sp 1 [(12,.func (.func 120) #[vP b 0] #[])] (sS (IU (x:=(.tmp 4)) (y:=(.const (vI 4))) (u:=(.tmp 12)) (T:=149) (kt:=3) (et:=148) (k:=(4:Int)) (kvs:=(upd (3:Int) (.func (.func 119) #[vP b 0] #[]) (upd (2:Int) (.func (.func 118) #[vP b 0] #[]) (upd (1:Int) (.func (.func 117) #[vP b 0] #[]) [])))) 0 (ty:=0) (gd:=none) (by kernel_rfl) rfl (by kernel_rfl) (IW (GU (by kernel_rfl))) rfl rfl rfl rfl b5 (fun c9 c4 b6=>(nm ?_)))));refine sd (dlb 13 1 0 b1 (vP b 0)) (sp 1 [(14,.func (.func 121) #[vP b 0] #[])] (sS (IU (x:=(.tmp 4)) (y:=(.const (vI 5))) (u:=(.tmp 14)) (T:=149) (kt:=3) (et:=148) (k:=(5:Int)) (kvs:=(upd (4:Int) (.func (.func 120) #[vP b 0] #[]) (upd (3:Int) (.func (.func 119) #[vP b 0] #[]) (upd (2:Int) (.func (.func 118) #[vP b 0] #[]) (upd (1:Int) (.func (.func 117) #[vP b 0] #[]) []))))) 0 (ty:=0) (gd:=none) (by kernel_rfl) rfl (by kernel_rfl) (IW (GU (by kernel_rfl))) rfl rfl rfl rfl b6 (fun d0 c5 b7=>(nm ?_)))));refine sd (dlb 15 1 0 b1 (vP b 0)) (sp 1 [(16,.func (.func 122) #[vP b 0] #[])] (sS (IU (x:=(.tmp 4)) (y:=(.const (vI 6))) (u:=(.tmp 16)) (T:=149) (kt:=3) (et:=148) (k:=(6:Int)) (kvs:=(upd (5:Int) (.func (.func 121) #[vP b 0] #[]) (upd (4:Int) (.func (.func 120) #[vP b 0] #[]) (upd (3:Int) (.func (.func 119) #[vP b 0] #[]) (upd (2:Int) (.func (.func 118) #[vP b 0] #[]) (upd (1:Int) (.func (.func 117) #[vP b 0] #[]) [])))))) 0 (ty:=0) (gd:=none) (by kernel_rfl) rfl (by kernel_rfl) (IW (GU (by kernel_rfl))) rfl rfl rfl rfl b7 (fun a4 a3 a6=>(nm ?_)))));refine sp 1 [(17,.map (some b3))] (sS (sal 3 149 #[.map none] (fun a8=>(sS (ss 0 0 a8 [.map (some b3)] [.map (some b3)] (_::_::_::_) (cs:=[_]) rfl rfl (se (rq ?_)))))));refine HT (b:=b1) (o:=Obj.cells #[vP b 0] 98 (0,0)) (M0:=((bX a8 #[.map (some b3)] 149)::(b3,Obj.map a4 a3)::F)) ((PC _ (PS _ _ _)).trans (PS _ _ _)) (fun b8 a7 a0=>?_);refine HT (b:=a8) (o:=Obj.cells #[.map (some b3)] 149 (0,0)) (M0:=((b3,Obj.map a4 a3)::F)) (PR _) (fun b9 a2 a5=>?_);replace a0:=a2.blk _ _ a0;refine HT (b:=b3) (o:=Obj.map a4 a3) (M0:=(F)) (PR _) (fun c0 a1 a9=>?_);replace a0:=a1.blk _ _ a0;replace a5:=a1.blk _ _ a5;refine rr (sp 2 [(2,.func (.func 123) #[] #[vP b1 0,vP a8 0])] (se (BD (rt1 2 rfl (IT (IT a7 a2) a1) ?_))));exact ⟨_,_,_,_,_,rfl,rfl,a0,a5,a9,fnTab_of (g:=fidK) a6⟩
end Go.Proofs.YtgcemienebmdeaaGreat
namespace Go.Sh
open Go Go.Sl
structure GoodL (L:Lin):Prop where
  places:1≤L.places∧L.places≤4
  sorts:1≤L.sorts∧L.sorts≤2
  start:(L.start.length:Int)=L.places
  rows:∀ r∈L.start,(r.length:Int)=L.sorts
  nums:∀ r∈L.start,∀ n∈r,0≤n∧n≤50
  keeps:L.keeps.length≤4
  keep:∀ k,k<L.keeps.length→EQ L k=0
  slips:L.slips.length≤8
  slip:∀ k,k<L.slips.length→CU L k=0
theorem all_of {α:Type} {p:α→Bool} {l:List α} (h:¬ l.all p=false):∀ x∈l,p x=true:=List.all_eq_true.1 (by simpa using h)
theorem HS {L:Lin} (h:AK L=0):GoodL L:=by
  unfold AK at h
  split at h;· omega
  rename_i h1
  split at h;· omega
  rename_i h2
  split at h;· omega
  rename_i h3
  split at h;· omega
  rename_i h4
  split at h;· omega
  rename_i h5
  have h3:CP L=0:=Decidable.not_not.1 h3;have h4:CO L=0:=Decidable.not_not.1 h4;unfold CP at h3
  split at h3;· omega
  rename_i a1
  split at h3;· omega
  rename_i a2
  split at h3;· omega
  rename_i a3
  unfold CO at h4
  split at h4;· omega
  rename_i b1
  refine ⟨DB (by simpa using h1),DB (by simpa using h2),Decidable.not_not.1 a1,fun r hr=>of_decide_eq_true (all_of a2 r hr),fun r hr n hn=>DB (all_of a3 n (List.mem_flatten.2 ⟨r,hr,hn⟩)),by omega,firstE_zero.1 h4,by omega,firstE_zero.1 h⟩
theorem slipErr_ok {L:Lin} {s:Slip} (h:BP L s=0):(1≤s.num∧s.num≤999)∧(0≤s.hour∧s.hour≤200)∧(1≤s.kind∧s.kind≤6)∧(0≤s.place∧s.place≤L.places-1)∧(0≤s.sort∧s.sort≤L.sorts-1)∧(0≤s.amt∧s.amt≤50)∧(s.kind=1→0≤s.to∧s.to≤L.places-1∧s.to≠s.place):=by
  unfold BP at h
  split at h;· omega
  rename_i h1
  split at h;· omega
  rename_i h2
  split at h;· omega
  rename_i h3
  split at h;· omega
  rename_i h4
  split at h;· omega
  rename_i h5
  split at h;· omega
  rename_i h6
  split at h;· omega
  split at h;· omega
  rename_i h8
  split at h;· omega
  by_cases h10:inB s.amt (if s.kind=4 then 0 else 1) 50=false
  · rw [if_pos h10] at h;omega
  have e:∀ {b:Bool},¬ b=false→b=true:=fun hb=>by simpa using hb
  refine ⟨DB (e h1),DB (e h2),DB (e h3),DB (e h4),DB (e h8),?_,fun hk=>?_⟩
  · have:=DB (e h10)
    split at this <;> omega
  · have h5:inB s.to 0 (L.places-1)=true:=e fun hh=>h5 ⟨hk,hh⟩
    have:=DB h5;exact ⟨this.1,this.2,fun hh=>h6 ⟨hk,hh⟩⟩
section
variable {L:Lin} (g:GoodL L)
include g
theorem GoodL.slipAt {k:Nat} (hk:k<L.slips.length):BP L (L.slips.getD k AB)=0:=by
  have:=g.slip k hk;unfold CU at this
  split at this
  · rename_i h;exact absurd this h
  · rename_i h;exact Decidable.not_not.1 h
theorem GoodL.slipOf {s:Slip} (hs:s∈L.slips):BP L s=0:=by
  obtain ⟨k,hk,rfl⟩:=List.mem_iff_getElem.1 hs;have:=g.slipAt hk
  simpa [List.getD,hk] using this
theorem GoodL.goodS:GoodS L.slips:=⟨by have:=g.slips;omega,fun s hs=>by
  obtain ⟨h1,h2,h3,h4,h5,h6,_⟩:=slipErr_ok (g.slipOf hs)
  exact ⟨h3,h6,by omega,by omega,by omega,by omega⟩⟩
theorem GoodL.once:(L.slips.map (·.num)).Nodup:=by
  rw [List.Nodup,List.pairwise_iff_getElem];intro i j hi hj hij e;rw [List.length_map] at hi hj;have:=g.slip j hj;unfold CU at this
  split at this
  · rename_i h;exact absurd this h
  · split at this
    · omega
    · rename_i h
      refine h ?_;unfold hasNum;refine List.any_eq_true.2 ⟨L.slips[i],?_,?_⟩
      · rw [List.mem_take_iff_getElem];exact ⟨i,by omega,rfl⟩
      · simp only [List.getElem_map] at e
        simpa [List.getD,hj] using e
omit g in
theorem openRow_within {B:Int} {p:Int} {row:List Int} (hB:0≤B) (hr:∀ n∈row,0≤n∧n≤B):∀ {j:Nat} {H:Hs},Within B H→Within B (QK p row j H):=by
  intro j
  induction j with
  | zero=>intro H h;exact h
  | succ j ih=>
    intro H h;refine (ih h).put ?_ ?_ (Int.le_refl _)
    · rcases Nat.lt_or_ge j row.length with hj | hj
      · have:=hr _ (BJ (xs:=row) (d:=0) hj);omega
      · have:row.getD j 0=0:=by simp [List.getD,hj]
        omega
    · rcases Nat.lt_or_ge j row.length with hj | hj
      · exact (hr _ (BJ (xs:=row) (d:=0) hj)).2
      · have:row.getD j 0=0:=by simp [List.getD,hj]
        omega
omit g in
theorem openTo_within {B:Int} {st:List (List Int)} (hB:0≤B) (hr:∀ r∈st,∀ n∈r,0≤n∧n≤B):∀ {i:Nat},i≤st.length→Within B (OY st i):=by
  intro i
  induction i with
  | zero=>intro _ k;show -B≤(0:Int)∧(0:Int)≤B;omega
  | succ i ih=>intro hi;exact openRow_within hB (hr _ (BJ (xs:=st) (d:=[]) hi)) (ih (by omega))
theorem GoodL.within:Within 1000 (HE L):=(openTo_within (B:=50) (by omega) g.nums (Nat.le_refl _)).mono (by omega)
end
def DZ (H:Hs) (p:Int):Nat→List Int
  | 0=>[]
  | j+1=>DZ H p j++[DK ⟨p,(j:Int),false⟩ H,DK ⟨p,(j:Int),true⟩ H]
def OA (H:Hs) (s:Nat):Nat→List (List Int)
  | 0=>[]
  | k+1=>OA H s k++[DZ H (k:Int) s]
def IL (L:Lin) (hour:Int):List (List Int) × Int:=
  if AK L≠0 then ([],AK L) else if inB hour 0 200=false then ([],1) else (OA (atH L hour) L.sorts.toNat L.places.toNat,0)
theorem stockRow_length {H:Hs} {p:Int} {j:Nat}:(DZ H p j).length=2*j:=by induction j with
  | zero=>rfl
  | succ j ih=>simp only [DZ,List.length_append,ih,List.length_cons,List.length_nil];omega
theorem stockTo_length {H:Hs} {s k:Nat}:(OA H s k).length=k:=by induction k with
  | zero=>rfl
  | succ k ih=>simp only [OA,List.length_append,ih,List.length_cons,List.length_nil]
theorem stockE_1 {L:Lin} {hour:Int} (h:AK L≠0):IL L hour=([],AK L):=if_pos h
theorem stockE_2 {L:Lin} {hour:Int} (h:AK L=0) (h2:inB hour 0 200=false):IL L hour=([],1):=by unfold IL;rw [if_neg (fun x=>x h),if_pos h2]
theorem stockE_3 {L:Lin} {hour:Int} {k s:Nat} (h:AK L=0) (h2:inB hour 0 200=true) (hk:(k:Int)=L.places) (hs:(s:Int)=L.sorts):IL L hour=(OA (atH L hour) s k,0):=by
  unfold IL;rw [if_neg (fun x=>x h),if_neg (by rw [h2];decide),← hk,← hs];rfl
def gapOf (e:Event):List Gap:=if e.gap≠0 then [⟨e.slip.num,e.gap⟩] else []
def DT (l:List Event):List Gap:=l.flatMap gapOf
def HR (L:Lin):List Event:=evs (HE L) (AG AC L.slips)
def ON (L:Lin):List Gap × Int:=if AK L≠0 then ([],AK L) else (DT (HR L),0)
theorem gapsOf_snoc {l:List Event} {e:Event}:DT (l++[e])=DT l++gapOf e:=by simp [DT]
theorem gapsOf_t {l:List Event} {e:Event} (h:e.gap≠0):DT l++[⟨e.slip.num,e.gap⟩]=DT (l++[e]):=by rw [gapsOf_snoc];unfold gapOf;rw [if_pos h]
theorem gapsOf_f {l:List Event} {e:Event} (h:e.gap=0):DT l=DT (l++[e]):=by rw [gapsOf_snoc];unfold gapOf;rw [if_neg (fun x=>x h),List.append_nil]
theorem gapsOf_length:∀ {l:List Event},(DT l).length≤l.length:=by
  intro l
  induction l with
  | nil=>exact Nat.le_refl _
  | cons x r ih=>
    show (gapOf x++DT r).length≤_;rw [List.length_append,List.length_cons];have:(gapOf x).length≤1:=by unfold gapOf;split <;> simp
    omega
theorem gapsE_1 {L:Lin} (h:AK L≠0):ON L=([],AK L):=if_pos h
theorem gapsE_2 {L:Lin} (h:AK L=0):ON L=(DT (HR L),0):=if_neg (fun x=>x h)
theorem eventsOf_length {L:Lin}:(HR L).length=L.slips.length:=by unfold HR;rw [HI];exact (GR _).length_eq
end Go.Sh
namespace Go.Proofs.YtgcemienebmdeaaGreat
open Go Go.Sl Go.Sh
set_option maxRecDepth 100000
noncomputable def c_at1:=cod Tryz.f144
theorem at1_ct (I:Imm) (x:Slip) (n:Int) (b:Nat) (hb:I.blk b=some (Obj.cells #[vI n] 3 (0,0))):CtV Tryz.prog 144 #[.agg #[vI x.num,vI x.hour,vI x.kind,vI x.place,vI x.to,vI x.sort,.bool x.soil,vI x.amt],vP b 0] I (.bool (decide (n<x.hour))):=by
 refine fr (args:=[_,_]) (N:=8) Tryz.func144 (fun F=>?_);show Run _ _ (c_at1 []) _ _ [(0,_),(1,_)] _ _;refine rnm (rqr ?_);refine sS (sb 2 28 (AV x) (fun b1=>(sp 1 [(3,.bool false)] (sn (sp 1 [(4,vP b1 1)] (sd (dlb 5 0 1 b1 (vI x.hour)) (sd (dld 6 1 3 (vI n) rfl (AW hb rfl)) (sp 2 [(3,.bool (cmp .gtr x.hour n))] (se (BD (DL 3 [] rfl (TC _ (TR _)) (IR _) ?_)))))))))));exact ⟨congrArg Value.bool (by simp only [cmp]),rfl⟩
noncomputable def c_at:=cod Tryz.f98
theorem at_ct (I:Imm) (l:Value) (L:Lin) (n:Int) (l_f:IsLin I l L) (hg:GoodL L):Ct Tryz.prog 98 #[l,vI n] I ([]) (fun v I' M'=>∃ u:Nat,∃ w1:Value,∃ w2:Value,∃ w3:Value,∃ r:Nat,∃ es:Array MapEntry,∃ cl:Nat,v=vP u 0∧M'=[(r,Obj.map es cl)]∧IsBook 134 I' u w1 w2 w3 r (atL L n)∧MapH es cl (atH L n)):=by
 obtain ⟨l1,l2,l3,rfl,a6,a7,e1⟩:=id l_f;obtain ⟨a2,a3,k1,k4,j5,rfl,k2,k3,k5,k6⟩:=id a6;obtain ⟨a4,a5,k7,l0,rfl,k8,k9,l4⟩:=id a7;obtain ⟨a9,b0,l5,l8,rfl,l6,l7,l9⟩:=id e1;refine MV (fn:=Tryz.f98) (args:=[_,_]) (N:=18) Tryz.func98 rfl (by kernel_rfl) (Nat.le_of_ble_eq_true rfl) (fun F=>?_);show Run _ _ (c_at []) _ _ [(0,_),(1,_)] _ _;refine rnm ?_;have n6:=hg.slips;have n7:(FL L n).length≤8:=Nat.le_trans (List.length_filter_le _ _) hg.slips;refine rqr (sS (sb 2 26 (AH L (vS a2 L.start.length a3) (vS a4 L.keeps.length a5) (vS a9 L.slips.length b0)) (fun b1=>(sS (sb 3 3 #[vI n] (fun b3=>(sp 1 [(4,.pointer none)] (sn (sp 1 [(6,vP b1 4)] (sd (dlb 7 1 4 b1 (vS a9 L.slips.length b0)) (sS (sc (some 8) (JF _ _ _ e1 (by omega) :) (.refl _) (fun m5 I5 m2 d3 k0=>?_)))))))))))));obtain ⟨n8,d1,j4,j3,e2⟩:=k0;rw [j4,j3];clear j4 j3;replace a6:=a6.mono d3;replace a7:=a7.mono d3;obtain ⟨e3,e4,rfl,j7⟩:=e2.shape;refine pm (M':=((bX b3 #[vI n] 3)::(bX b1 (AH L (vS a2 L.start.length a3) (vS a4 L.keeps.length a5) (vS a9 L.slips.length b0)) 26)::(d1++F))) (PW PM) ?_;refine SG (b:=b3) (o:=Obj.cells #[vI n] 3 (0,0)) (M0:=((bX b1 (AH L (vS a2 L.start.length a3) (vS a4 L.keeps.length a5) (vS a9 L.slips.length b0)) 26)::(d1++F))) (PR _) (fun j8 b8 a1=>?_);replace a6:=a6.mono b8;replace a7:=a7.mono b8;refine sp 1 [(9,.func (.func 144) #[] #[vP b3 0])] ?_;have j9:=DelSlip_ct j8 (vS e3 L.slips.length e4) L.slips d1 144 [vP b3 0] (fun x=>decide (n<x.hour)) e2 (by kernel_rfl) (fun J hJ x=>at1_ct J x n b3 (hJ.blk _ _ a1)) (by have:=hg.slips;omega);refine sS (JU (d:=some 10) (f:=(.func 138)) (fid:=138) (args:=#[(.tmp 8),(.tmp 9)]) (tys:=#[24,109]) (cv:=[]) (F:=((bX b1 (AH L (vS a2 L.start.length a3) (vS a4 L.keeps.length a5) (vS a9 L.slips.length b0)) 26)::F)) (ty:=24) (gd:=none) (by kernel_rfl) rfl rfl rfl (by kernel_rfl) rfl j9 PM.symm (fun m8 ID j6 c2 c3=>?_));replace c3:Own 28 8 AX m8 (FL L n) j6:=c3;replace a6:=a6.mono c2;replace a7:=a7.mono c2;replace a1:=c2.blk _ _ a1;obtain ⟨b2,b4,rfl,m9⟩:=c3.shape;refine pm (M':=((bX b1 (AH L (vS a2 L.start.length a3) (vS a4 L.keeps.length a5) (vS a9 L.slips.length b0)) 26)::(j6++F))) PM (sp 1 [(11,vP b1 4)] (sS (ss 0 4 b1 [vS b2 (FL L n).length b4] (BQ L (vS a2 L.start.length a3) (vS a4 L.keeps.length a5) (vS b2 (FL L n).length b4)) (_::_) (cs:=[_,_,_,_,_]) rfl rfl (sn (sd (dnb 12 0 0 b1 (BQ L (vS a2 L.start.length a3) (vS a4 L.keeps.length a5) (vS b2 (FL L n).length b4))) (sfz (A:=((bX b1 (AH L (vS a2 L.start.length a3) (vS a4 L.keeps.length a5) (vS b2 (FL L n).length b4)) 26)::F)) AB c3 PM.symm (fun n3 b5 b7=>?_)))))));replace a6:=a6.mono b5;replace a7:=a7.mono b5;replace a1:=b5.blk _ _ a1;obtain ⟨h4,h6,h5,h9,d2,h7,h8,i0⟩:=id b7;cases d2;refine sS (sc (some 13) (open_ct _ _ (⟨L.places,L.sorts,L.start,L.keeps,FL L n⟩:Lin) (BL a6 a7 b7) :) (.refl _) (fun m6 n4 m3 d0 i2=>?_));obtain ⟨e6,n0,n1,n2,d4,h2,h0,d9,d7,i7,i8⟩:=i2;rw [d9,d7];clear d9 d7;replace a1:=d0.blk _ _ a1;have a0:=i7;obtain ⟨a8,c5,c7,c9⟩:=id a0;obtain ⟨e8,f0,e9,f3,e7,rfl,f1,f2,f4,f5⟩:=id c5;obtain ⟨f6,f8,f7,g1,rfl,f9,g0,g2⟩:=id c7;obtain ⟨g3,g5,g4,g8,rfl,g6,g7,g9⟩:=id c9;refine nm ?_;refine sp 1 [(5,vP e6 0)] (se (rq (rqr (sp 1 [(14,vP e6 0)] (sS (sc (some 15) (OL _ e6 :) (.refl _) (fun m7 n5 m4 b6 i3=>?_)))))));obtain ⟨d5,d6,m1,j2,j1,e0,d8,b9,c0,c1,i9⟩:=i3;rw [e0,d8];clear e0 d8;replace a1:=b6.blk _ _ a1;replace a0:=a0.mono b6;replace a8:=b6.blk _ _ a8;refine nm (se (rb 0 ?_))
 refine HU (α:=Sh.Event) (g:=(.tmp 15)) (ps:=#[16]) (assign:=c_at [1,1,1,0,1,0,0]) (body:=c_at [1,1,1,0,1,0,1]) (gf:=123) (cv:=[vP d5 0,vP d6 0]) (enc:=encEv) (seq:=(evs (HE (⟨L.places,L.sorts,L.start,L.keeps,FL L n⟩:Lin)) (AG AC (⟨L.places,L.sorts,L.start,L.keeps,FL L n⟩:Lin).slips))) (R:=fun xs _ M=>EvR d4 (HE (⟨L.places,L.sorts,L.start,L.keeps,FL L n⟩:Lin)) (AG AC (⟨L.places,L.sorts,L.start,L.keeps,FL L n⟩:Lin).slips) xs.length M) (Mr:=[(d4,Obj.map h2 h0)]) (M0:=([])) (F0:=((bX b1 (AH L (vS a2 L.start.length a3) (vS a4 L.keeps.length a5) (vS b2 (FL L n).length b4)) 26)::F))
  (fun _ _ M=>M=[]) (fun _ _ _ _=>False) (fun x k=>[(4,.pointer none)]) (fun x k=>[])
  (by kernel_rfl) rfl (by kernel_rfl) (fun _=>rfl) (by kernel_rfl) (JI _ e6 d5 d6 m1 d4 _ _ _ _ _ (⟨L.places,L.sorts,L.start,L.keeps,FL L n⟩:Lin) (HE (⟨L.places,L.sorts,L.start,L.keeps,FL L n⟩:Lin)) a0 b9 c0 c1 i9 (hg.goodS.to n) hg.within) (fun xs I J M _ h=>h) (PR _) ⟨_,_,rfl,i8⟩ rfl ?_ ?_ ?_ ?_
 ·intro Lq x I1 M1;refine run_sub (l':=[(4,.pointer none),(16,.agg (GC x))]) su (AM ?_);exact AL (fun a w hS hD hW=>⟨0,hS.sub su,hD,hW⟩)
 ·intro Lq x k xs I1 Mr1 M1 F1 hpre hle1 hR1 hC1;replace a1:=hle1.blk _ _ a1;replace a0:=a0.mono hle1;replace a8:=hle1.blk _ _ a8;replace b9:=hle1.blk _ _ b9;replace c0:=hle1.blk _ _ c0;replace c1:=hle1.blk _ _ c1;obtain rfl:=hC1;refine rmA (M':=(Mr1++F1)) (rnm (rb 1 (AM (NB ?_))));refine IB (M':=(Mr1)) (IR _) ?_ (TR _);exact ⟨Mr1,[],(List.append_nil _).symm,hR1,rfl⟩
 ·intro D I2 Mr2 M2 hle2 hR2 hC2;replace a1:=hle2.blk _ _ a1;replace a0:=a0.mono hle2;replace a8:=hle2.blk _ _ a8;replace b9:=hle2.blk _ _ b9;replace c0:=hle2.blk _ _ c0;replace c1:=hle2.blk _ _ c1;obtain rfl:=hC2;obtain ⟨h3,h1,rfl,i1⟩:=EvR.full hR2 HI;refine MN (M':=((D,Obj.deferred (some []))::(d4,Obj.map h3 h1)::(bX b1 (AH L (vS a2 L.start.length a3) (vS a4 L.keeps.length a5) (vS b2 (FL L n).length b4)) 26)::F)) (fun w h=>by simpa only [AA,CA,NA] using h) (NB (NX (rqr (sp 2 [(4,vP e6 0)] (se (BD ?_))))));refine FD (R:=((d4,Obj.map h3 h1)::(bX b1 (AH L (vS a2 L.start.length a3) (vS a4 L.keeps.length a5) (vS b2 (FL L n).length b4)) 26)::F)) [D] (.inl rfl) (PR _) (DL 4 ([(d4,Obj.map h3 h1)]) rfl (TK _ (TC _ (TR _))) (IT (IT (IT (IT (IT (IT d3 b8) c2) b5) d0) b6) hle2) ?_);exact ⟨_,_,_,_,_,_,_,rfl,rfl,a0,i1⟩
 intro D c xs I2 M2 hle2 hS2;exact hS2.elim
end Go.Proofs.YtgcemienebmdeaaGreat
namespace Go.Sh
open Go Go.Sl
section
variable {p:Sh.Event→Bool} {l:List Sh.Event} {x:Sh.Event}
end
section
variable {L:Lin}
end
end Go.Sh
namespace Go.Proofs.YtgcemienebmdeaaGreat
open Go Go.Sl Go.Sh
set_option maxRecDepth 100000
end Go.Proofs.YtgcemienebmdeaaGreat
namespace Go.Sl
open Go
def IterE {α β:Type} (P:Program) (gf:FuncId) (cv:List Value) (enc:β→List Value) (pr:β→α) (seq:List α) (E:β→Imm→Prop) (R:Imm→Seg→Prop) (I0:Imm):Prop:=
  ∀ [Jud P] (L:Nat) (Cl Sp:List α→Imm→Seg→Prop),(∀ xs I J M,I.le J→Cl xs I M→Cl xs J M) →
    (∀ xs x I Mr M,(xs++[pr x]) <+: seq→I0.le I→E x I→Cl xs I M→Yt P L (enc x).toArray I (Mr++M) (fun v I' M'=>(v=.bool true∧∃ M2,M'=Mr++M2∧Cl (xs++[pr x]) I' M2)∨(v=.bool false∧Sp (xs++[pr x]) I' M'))) →
    ∀ I Mr M,I0.le I→R I Mr→Cl [] I M→CtA P gf (.func (.yield L) #[] #[]::cv).toArray I (Mr++M) (fun _ I' M'=>(∃ Mr' M2,M'=Mr'++M2∧Cl seq I' M2)∨(∃ xs,Sp xs I' M'))
section
variable {ρ:Option Nat} {P:Program} [Jud P] {N:Nat} {ops:Array Oper} {i:Nat} {l:Sl} {I:Imm} {R M:Seg} {ty:TypeId} {gd:Option (Nat × Bool)} {K:Sl→Imm→Seg→Prop} {Q:Exit→Act→GW→Prop} {ds:List Deferred}
theorem run_rangeFuncE {α β : Type} {c : Code} {g : Operand} {ps : Array Tmp} {assign body : Code} {gf : FuncId} {cv : List Value} {enc : β → List Value} {pr : β → α} {seq : List α} {E : β → Imm → Prop} {R : Imm → Seg → Prop} {Mr M0 F0 : Seg}
    (Cl:List α→Imm→Seg→Prop) (Sp:Code→List α→Imm→Seg→Prop) (sl:β→Nat→Sl) (mm:β→Nat→Seg)
    (hc:c=.rangeFunc g ps assign body) (hg:CE l g=some (.func (.func gf) #[] cv.toArray)) (hcall:DF P gf=true) (hps:∀ x,(enc x).length=ps.size) (hpN:ps.all (fun t=>Nat.blt t N)=true)
    (it:IterE P gf cv enc pr seq E R I)
    (hmono:∀ xs I J M,I.le J→Cl xs I M→Cl xs J M)
    (hM:M.Perm (Mr++(M0++F0))) (hr:R I Mr) (h0:Cl [] I M0)
    (hassign:∀ L x I1 M1,Run (ρ:=some L) P N assign (Exit.then (fun a w=>∃ k,Slots N (sl x k) a∧a.defers=[]∧St I1 (mm x k++M1) w) (fun _ _ _=>False)) [] (putAll (ps.toList.zip (enc x)) l) I1 M1)
    (hbody:∀ L x k xs I1 Mr1 M1 F1,(xs++[pr x]) <+: seq→I.le I1→E x I1→Cl xs I1 M1 →
      Run (ρ:=some L) P N body (RoundQ I1 (fun o I' M'=>match o with | none=>∃ M2,M'=Mr1++M2∧Cl (xs++[pr x]) I' M2 | some c=>Sp c (xs++[pr x]) I' M') F1) [] (sl x k) I1 (mm x k++(Mr1++(M1++F1))))
    (hdone:∀ D I' Mr' M',I.le I'→Cl seq I' M'→Pst N Q .normal (mark D::ds) l I' ((D,.deferred (some []))::(Mr'++(M'++F0))))
    (hstop:∀ D c xs I' M',I.le I'→Sp c xs I' M'→Run (ρ:=none) P N c Q (mark D::ds) l I' ((D,.deferred (some []))::(M'++F0))) :
    Run (ρ:=none) P N c Q ds l I M:=by
  subst hc;intro a w hS hD hW;refine PN (LX hS hg) (fun args σ K hk=>KQ hcall args σ K hk) fun fn=>?_
  have hent:wpL P (Instr.enterLoop fn a.tmps ps assign body none) (fun lm M'=>∃ D L,lm=(L,[mark D])∧M'=(L,.loop { state:=.ready,pending:=none,fn,tmps:=a.tmps,params:=ps,assign,body,defers:=D })::(D,.deferred (some []))::(Mr++(M0++F0))) I (Mr++(M0++F0)):=
    fun D L=>⟨D,L,rfl,rfl⟩
  refine (IF _ _ I _ w hent (hW.perm hM)).mono ?_
  rintro lm w1 ⟨M',⟨D,L,rfl,rfl⟩,hW2⟩
  obtain ⟨rec,hrec⟩:∃ rec:LoopState→Option Code→Loop,rec=fun st pe=>{ state:=st,pending:=pe,fn,tmps:=a.tmps,params:=ps,assign,body,defers:=D }:=⟨_,rfl⟩
  have hst:∀ st pe,(rec st pe).state=st:=by rw [hrec];intros;rfl
  have hpe:∀ st pe,(rec st pe).pending=pe:=by rw [hrec];intros;rfl
  have hset:∀ st pe st',{ rec st pe with state:=st' }=rec st' pe:=by rw [hrec];intros;rfl
  have hset2:∀ st pe st' pe',{ rec st pe with state:=st',pending:=pe' }=rec st' pe':=by rw [hrec];intros;rfl
  replace hW2:St I ((L,.loop (rec .ready none))::(D,.deferred (some []))::(Mr++(M0++F0))) w1:=by rw [hrec];exact hW2
  have hit:=it L (fun xs I M=>∃ M0,M=(L,.loop (rec .ready none))::(D,.deferred (some []))::M0∧Cl xs I M0)
    (fun xs I M=>∃ c M0,M=(L,.loop (rec .done (some c)))::(D,.deferred (some []))::M0∧Sp c xs I M0)
    (fun xs I J M le ⟨M0,e,h⟩=>⟨M0,e,hmono xs I J M0 le h⟩) ?_ I Mr ((L,.loop (rec .ready none))::(D,.deferred (some []))::M0) (Imm.le.refl I) hr ⟨M0,rfl,h0⟩
  · have e1:(#[Value.func (.yield L) #[] #[]]++cv.toArray)=(.func (.yield L) #[] #[]::cv).toArray:=by simp
    show Calls P gf (#[Value.func (.yield L) #[] #[]]++cv.toArray) w1 _;rw [e1];refine (hit F0 w1 (hW2.perm ?_)).mono ?_
    · rw [List.append_assoc]
      exact ((List.perm_middle (l₁:=Mr)).trans (.cons _ (List.perm_middle (l₁:=Mr)))).symm
    · rintro v w' ⟨I',M',hle,hp,st⟩
      rcases hp with ⟨Mr',M2,rfl,M3,rfl,hcl⟩ | ⟨xs,c,M3,rfl,hsp⟩
      · have st2 := st.perm (show ((Mr' ++ ((L, Obj.loop (rec .ready none)) :: (D, .deferred (some [])) :: M3)) ++ F0).Perm ((L, Obj.loop (rec .ready none)) :: (D, .deferred (some [])) :: (Mr' ++ (M3 ++ F0))) by
          rw [List.append_assoc]
          exact (List.perm_middle (l₁:=Mr')).trans (.cons _ (List.perm_middle (l₁:=Mr'))))
        refine (IF _ (fun jump M''=>jump=none∧∃ o,M''=(L,o)::(D,.deferred (some []))::(Mr'++(M3++F0))) I' _ w' (LI (by rw [hst];simp) ⟨hpe _ _,_,rfl⟩) st2).mono ?_
        rintro jump w3 ⟨M'',⟨rfl,o,rfl⟩,st3⟩
        exact hdone D I' Mr' M3 hle hcl _ _ ⟨hS.size,hS.get⟩ (by show [mark D]++a.defers=_;rw [hD];rfl) st3.drop
      · refine (IF _ (fun jump M''=>jump=some c∧∃ o,M''=(L,o)::(D,.deferred (some []))::(M3++F0)) I' _ w' (LI (by rw [hst];simp) ⟨hpe _ _,_,rfl⟩) st).mono ?_
        rintro jump w3 ⟨M'',⟨rfl,o,rfl⟩,st3⟩
        exact hstop D c xs I' M3 hle hsp _ _ ⟨hS.size,hS.get⟩ (by show [mark D]++a.defers=_;rw [hD];rfl) st3.drop
  · rintro xs x I1 Mr1 M1' hpre hle hR ⟨M1,rfl,hcl⟩ F1 w2 st
    have hfold:((ps.zip (enc x).toArray).foldl (fun tmps (t,a)=>tmps.setIfInBounds t a) a.tmps)=(ps.toList.zip (enc x)).foldl (fun t (x:Tmp × Value)=>t.setIfInBounds x.1 x.2) a.tmps:=by
      rw [← Array.foldl_toList];simp
    refine (IF _ (fun n M''=>n=.round L fn ((ps.toList.zip (enc x)).foldl (fun t (x:Tmp × Value)=>t.setIfInBounds x.1 x.2) a.tmps) assign body∧M''=_) I1 _ w2 (wpL_yield (r:=rec .ready none) (by simp) (by rw [hrec];simpa using hps x) ⟨by rw [← hfold,hrec],rfl⟩) st).mono ?_
    rintro n w2' ⟨M'',⟨rfl,rfl⟩,st⟩
    refine ⟨_,_,assign,body,rfl,RH ?_⟩;refine ND (hassign L x I1 _ _ w2' (slots_fold (ps.toList.zip (enc x)) l a.tmps ⟨hS.size,hS.get⟩ ?_) rfl st) ?_
    · intro y hy'
      have:=(List.of_mem_zip (show (y.1,y.2)∈ps.toList.zip (enc x) from hy')).1;have h3:=Array.all_eq_true'.1 hpN y.1 (by simpa using this);exact Nat.le_of_ble_eq_true h3
    · rintro e a1 w3 hq
      cases e with
      | normal=>
        obtain ⟨k,hS3,hD3,st3⟩:=hq;have st4:St I1 ((L,.loop (rec .ready none))::(mm x k++(Mr1++(M1++((D,.deferred (some []))::F1))))) w3:=st3.perm ((List.Perm.append_left (mm x k) perm3).trans List.perm_middle);refine (IF _ (fun _ M''=>M''=(L,.loop (rec .busy none))::(mm x k++(Mr1++(M1++((D,.deferred (some []))::F1))))) I1 _ w3 (NP (hst _ _) (by rw [hset])) st4).mono ?_
        rintro _ w4 ⟨M'',rfl,st4'⟩
        have st5:St I1 (mm x k++(Mr1++(M1++((L,.loop (rec .busy none))::(D,.deferred (some []))::F1)))) w4:=by
          refine st4'.perm ?_;refine (List.perm_middle (l₁:=mm x k)).symm.trans (List.Perm.append_left (mm x k) ?_);have:=(perm3 (A:=Mr1) (B:=M1) (C:=F1) (x:=(L,Obj.loop (rec .busy none))) (y:=(D,Obj.deferred (some [])))).symm;refine this.trans ?_;rw [List.append_assoc];refine List.Perm.append_left Mr1 ?_;show ((L,Obj.loop (rec .busy none))::(D,.deferred (some []))::(M1++F1)).Perm _;exact ((List.perm_middle (l₁:=M1)).trans (.cons _ (List.perm_middle (l₁:=M1)))).symm
        refine ND (hbody L x k xs I1 Mr1 M1 _ hpre hle hR hcl a1 _ hS3 hD3 st5) ?_
        have fin : ∀ (jump : Option Code) (I' : Imm) (M' : Seg) (w6 : GW), St I' (M' ++ ((L, .loop (rec .busy none)) :: (D, .deferred (some [])) :: F1)) w6 →
            SemTo P (Instr.endRound L jump) w6 fun v w7=>v=.bool jump.isNone∧St I' ((L,.loop (rec (if jump.isNone then .ready else .done) jump))::(M'++((D,.deferred (some []))::F1))) w7:=fun jump I' M' w6 st6=>by
          refine (IF _ (fun v M''=>v=.bool jump.isNone∧M''=(L,.loop (rec (if jump.isNone then .ready else .done) jump))::(M'++((D,.deferred (some []))::F1))) I' _ w6 (RK jump ⟨rfl,by rw [hset2]⟩) (st6.perm perm4)).mono ?_
          rintro v w7 ⟨M'',⟨h1,rfl⟩,st7⟩
          exact ⟨h1,st7⟩
        rintro e a6 w6 hq6
        have stop : ∀ (c : Code), (∃ I' M', I1.le I' ∧ Sp c (xs ++ [pr x]) I' M' ∧ St I' (M' ++ ((L, .loop (rec .busy none)) :: (D, .deferred (some [])) :: F1)) w6) →
            SemTo P (Instr.endRound L (some c)) w6 (RQ I1 (fun v I' M'=>(v=.bool true∧∃ M2,M'=Mr1++M2∧∃ M0,M2=(L,.loop (rec .ready none))::(D,.deferred (some []))::M0∧Cl (xs++[pr x]) I' M0) ∨
              (v=.bool false∧∃ c M0,M'=(L,.loop (rec .done (some c)))::(D,.deferred (some []))::M0∧Sp c (xs++[pr x]) I' M0)) F1):=by
          rintro c ⟨I',M',hle',hp,st6⟩
          refine (fin (some c) I' M' w6 st6).mono ?_
          rintro v w7 ⟨rfl,h2⟩
          exact ⟨I',_,hle',.inr ⟨rfl,c,M',rfl,hp⟩,h2.perm (.cons _ List.perm_middle)⟩
        cases e with
        | normal=>
          obtain ⟨I',M',hle',⟨M2,rfl,hcl'⟩,st6⟩:=hq6;refine (fin none I' _ w6 st6).mono ?_
          rintro v w7 ⟨rfl,h2⟩
          refine ⟨I',_,hle',.inl ⟨rfl,_,rfl,M2,rfl,hcl'⟩,h2.perm ?_⟩;rw [List.append_assoc];exact perm3.symm
        | ret=>exact stop .ret hq6
        | exit id=>exact stop (.exit id) hq6
        | goto t=>exact stop (.goto t) hq6
        | panic ch=>exact hq6.elim
        | outgrown=>exact hq6.elim
      | exit id=>exact hq.elim
      | goto t=>exact hq.elim
      | ret=>exact hq.elim
      | panic ch=>exact hq.elim
      | outgrown=>exact hq.elim
end
end Go.Sl
namespace Go.Sh
open Go Go.Sl
def kstep (p h:Int) (q:Int × Int) (k:Keep):Int × Int:=bif cmp .eql k.place p&&(cmp .leq k.hour h&&cmp .gtr k.hour q.2) then (k.who,k.hour) else q
def MF (p h:Int) (ks:List Keep):Int × Int:=ks.foldl (kstep p h) (0,-1)
def CT (L:Lin) (p h:Int):Int:=(MF p h L.keeps).1
section
variable {p h:Int} {ks:List Keep} {k:Nat}
theorem kfold_t (hk:k<ks.length) (hc:(cmp .eql (ks.getD k AN).place p&&(cmp .leq (ks.getD k AN).hour h&&cmp .gtr (ks.getD k AN).hour (MF p h (ks.take k)).2))=true):((ks.getD k AN).who,(ks.getD k AN).hour)=MF p h (ks.take (k+1)):=by
  rw [CH (d:=AN) hk];unfold MF at *;rw [List.foldl_append];simp only [List.foldl_cons,List.foldl_nil,kstep];rw [hc];rfl
theorem kfold_f (hk:k<ks.length) (hc:(cmp .eql (ks.getD k AN).place p&&(cmp .leq (ks.getD k AN).hour h&&cmp .gtr (ks.getD k AN).hour (MF p h (ks.take k)).2))=false):MF p h (ks.take k)=MF p h (ks.take (k+1)):=by
  rw [CH (d:=AN) hk];unfold MF at *;rw [List.foldl_append];simp only [List.foldl_cons,List.foldl_nil,kstep];rw [hc];rfl
theorem kfold_who:∀ {ks:List Keep} {q:Int × Int},(ks.foldl (kstep p h) q).1=q.1∨(ks.foldl (kstep p h) q).1∈ks.map (·.who):=by
  intro ks
  induction ks with
  | nil=>intro q;exact .inl rfl
  | cons x r ih=>
    intro q;simp only [List.foldl_cons,List.map_cons,List.mem_cons];rcases ih (q:=kstep p h q x) with e | e
    · rw [e];unfold kstep;cases (cmp .eql x.place p&&(cmp .leq x.hour h&&cmp .gtr x.hour q.2)) with
      | true=>exact .inr (.inl rfl)
      | false=>exact .inl rfl
    · exact .inr (.inr e)
end
theorem keeperOf_mem {L:Lin} {p h:Int} (hn:CT L p h≠0):CT L p h∈L.keeps.map (·.who):=by
  rcases kfold_who (p:=p) (h:=h) (ks:=L.keeps) (q:=(0,-1)) with e | e
  · exact absurd e hn
  · exact e
def CZ (L:Lin) (p since:Int):Nat→List Int
  | 0=>[]
  | n+1=>if (n:Int)<since then CZ L p since n else if CT L p n=0 then CZ L p since n else if CT L p n∈CZ L p since n then CZ L p since n else CZ L p since n++[CT L p n]
section
variable {L:Lin} {p since:Int} {n:Nat}
theorem holdTo_1 (h:(n:Int)<since):CZ L p since n=CZ L p since (n+1):=(if_pos h).symm
theorem holdTo_2 (h:¬ (n:Int)<since) (h2:CT L p n=0):CZ L p since n=CZ L p since (n+1):=by simp only [CZ];rw [if_neg h,if_pos h2]
theorem holdTo_3 (h:¬ (n:Int)<since) (h2:¬ CT L p n=0) (h3:CT L p n∈CZ L p since n):CZ L p since n=CZ L p since (n+1):=by simp only [CZ];rw [if_neg h,if_neg h2,if_pos h3]
theorem holdTo_4 (h:¬ (n:Int)<since) (h2:¬ CT L p n=0) (h3:¬ CT L p n∈CZ L p since n):CZ L p since n++[CT L p n]=CZ L p since (n+1):=by simp only [CZ];rw [if_neg h,if_neg h2,if_neg h3]
theorem holdTo_once:∀ n,(CZ L p since n).Nodup∧∀ x∈CZ L p since n,x∈L.keeps.map (·.who):=by
  intro n
  induction n with
  | zero=>exact ⟨List.nodup_nil,fun x hx=>by cases hx⟩
  | succ n ih=>
    simp only [CZ]
    split
    · exact ih
    split
    · exact ih
    rename_i h2
    split
    · exact ih
    · rename_i h3
      refine ⟨List.nodup_append.2 ⟨ih.1,by simp,fun a ha b hb=>?_⟩,fun x hx=>?_⟩
      · simp only [List.mem_singleton] at hb;intro e;rw [e,hb] at ha;exact h3 ha
      · rcases List.mem_append.1 hx with hx | hx
        · exact ih.2 x hx
        · simp only [List.mem_singleton] at hx;subst hx;exact keeperOf_mem h2
omit p since n in
theorem once_len:∀ {l m:List Int},l.Nodup→(∀ x∈l,x∈m)→l.length≤m.length:=by
  intro l
  induction l with
  | nil=>intro m _ _;exact Nat.zero_le _
  | cons x r ih=>
    intro m hn hs;have hn2:=List.nodup_cons.1 hn;have hx:=hs x (by simp);have:=ih (m:=m.erase x) hn2.2 (fun y hy=>(List.mem_erase_of_ne (fun e=>hn2.1 (by rw [← e];exact hy))).2 (hs y (by simp [hy])));rw [List.length_erase_of_mem hx] at this;have h0:=List.length_pos_of_mem hx;rw [List.length_cons];omega
theorem holdTo_len (hk:L.keeps.length≤4):(CZ L p since n).length≤4:=by
  have:=once_len (holdTo_once (L:=L) (p:=p) (since:=since) n).1 (holdTo_once n).2;rw [List.length_map] at this;omega
end
def EO (L:Lin) (s:Slip) (since:Int):List Int:=AG cmpZ (CZ L s.place since (s.hour+1).toNat)
theorem holdersOf_len {L:Lin} {s:Slip} {since:Int} (hk:L.keeps.length≤4):(EO L s since).length≤4:=by unfold EO;rw [(GR _).length_eq];exact holdTo_len hk
theorem holdersOf_at {L:Lin} {s:Slip} {since:Int} {n:Nat} (h:(n:Int)=s.hour+1):AG cmpZ (CZ L s.place since n)=EO L s since:=by unfold EO;rw [← h];rfl
abbrev EvH:=Sh.Event × List Int
def gstep (L:Lin) (q:Hs × List EvH) (e:Sh.Event):Hs × List EvH:=
  if e.slip.kind≠4 then q else (KA (keyOf e.slip) e.slip.hour q.1,if e.gap≠0 then q.2++[(e,EO L e.slip (DK (keyOf e.slip) q.1))] else q.2)
def FI (L:Lin) (l:List Sh.Event):Hs × List EvH:=l.foldl (gstep L) ([],[])
def lackOf (L:Lin):List EvH:=(FI L (HR L)).2
section
variable {L:Lin} {xs ys:List Sh.Event} {x:Sh.Event}
theorem KH:FI L (xs++[x])=gstep L (FI L xs) x:=by unfold FI;rw [List.foldl_append];rfl
theorem gfold_1 (h:x.slip.kind≠4):FI L xs=FI L (xs++[x]):=by rw [KH];unfold gstep;rw [if_pos h]
theorem gfold_2 (h:x.slip.kind=4):(FI L (xs++[x])).1=KA ⟨x.slip.place,x.slip.sort,x.slip.soil⟩ x.slip.hour (FI L xs).1:=by rw [KH];unfold gstep;rw [if_neg (fun e=>e h)];rfl
theorem gfold_3 (h:x.slip.kind=4) (h2:x.gap=0):(FI L xs).2=(FI L (xs++[x])).2:=by rw [KH];unfold gstep;rw [if_neg (fun e=>e h)];simp only;rw [if_neg (fun e=>e h2)]
theorem gfold_4 (h:x.slip.kind=4) (h2:x.gap≠0):(FI L xs).2++[(x,EO L x.slip (DK ⟨x.slip.place,x.slip.sort,x.slip.soil⟩ (FI L xs).1))]=(FI L (xs++[x])).2:=by rw [KH];unfold gstep;rw [if_neg (fun e=>e h)];simp only;rw [if_pos h2];rfl
theorem gfold_more:∀ {ys xs:List Sh.Event},(FI L xs).2 <+: (FI L (xs++ys)).2:=by
  intro ys
  induction ys with
  | nil=>intro xs;rw [List.append_nil];exact List.prefix_refl _
  | cons y r ih=>
    intro xs;have h1:(FI L xs).2 <+: (FI L (xs++[y])).2:=by
      rw [KH];unfold gstep
      split
      · exact List.prefix_refl _
      · simp only;split
        · exact List.prefix_append _ _
        · exact List.prefix_refl _
    have h2:=ih (xs:=xs++[y]);rw [List.append_assoc] at h2;exact h1.trans h2
theorem gfold_pre (h:xs <+: ys):(FI L xs).2 <+: (FI L ys).2:=by obtain ⟨r,rfl⟩:=h;exact gfold_more
end
def encEvH (q:EvH × (Option Addr × Nat)):List Value:=[.agg #[.int .i64 q.1.1.slip.num,.int .i64 q.1.1.slip.hour,.int .i64 q.1.1.slip.kind,.int .i64 q.1.1.slip.place,.int .i64 q.1.1.slip.to,.int .i64 q.1.1.slip.sort,.bool q.1.1.slip.soil,.int .i64 q.1.1.slip.amt,.int .i64 q.1.1.gap,.bool q.1.1.below,.slice q.2.1 q.1.2.length q.2.2]]
theorem evs_slip:∀ {S:List Slip} {H:Hs} {x:Sh.Event},x∈evs H S→x.slip∈S:=by
  intro S
  induction S with
  | nil=>intro H x hx;cases hx
  | cons s r ih=>
    intro H x hx;simp only [evs] at hx;rcases List.mem_cons.1 hx with rfl | hx
    · exact List.mem_cons_self
    · exact List.mem_cons_of_mem _ (ih hx)
theorem GoodL.ofEv {L:Lin} (g:GoodL L) {xs:List Sh.Event} {x:Sh.Event} {H:Hs} (h:(xs++[x]) <+: evs H (AG AC L.slips)):0≤x.slip.hour∧x.slip.hour≤200:=
  (slipErr_ok (g.slipOf ((GR _).subset (evs_slip (h.subset (List.mem_append_right _ List.mem_cons_self)))))).2.1
def RF (n:Int) (l:List EvH):Option (List Int):=(l.find? fun q=>decide (q.1.slip.num=n)).map Prod.snd
theorem lackAt_hit {n:Int} {l xs:List EvH} {x:EvH} (h:(xs++[x]) <+: l) (hn:∀ q∈xs,q.1.slip.num≠n) (hx:x.1.slip.num=n):RF n l=some x.2:=by
  obtain ⟨r,rfl⟩:=h;unfold RF;rw [List.append_assoc,List.find?_append,List.find?_eq_none.2 (fun q hq=>by simpa using hn q hq)];simp [hx]
theorem lackAt_none {n:Int} {l:List EvH} (hn:∀ q∈l,q.1.slip.num≠n):RF n l=none:=by
  unfold RF;rw [List.find?_eq_none.2 (fun q hq=>by simpa using hn q hq)];rfl
def CS (L:Lin) (n:Int):List Int × Int:=
  if AK L≠0 then ([],AK L) else if JK (fun x:Slip=>decide (x.num=n)) L.slips<0 then ([],3)
  else if (L.slips.getD (JK (fun x:Slip=>decide (x.num=n)) L.slips).toNat AB).kind≠4 then ([],8)
  else match RF n (lackOf L) with
    | some h=>(h,0)
    | none=>([],11)
section
variable {L:Lin} {n:Int} {i:Nat}
theorem holdersE_1 (h:AK L≠0):CS L n=([],AK L):=if_pos h
theorem holdersE_2 (h:AK L=0) (h2:JK (fun x:Slip=>decide (x.num=n)) L.slips<0):CS L n=([],3):=by unfold CS;rw [if_neg (fun x=>x h),if_pos h2]
theorem holdersE_3 (h:AK L=0) (h2:JK (fun x:Slip=>decide (x.num=n)) L.slips=(i:Int)) (h3:¬ (L.slips.getD i AB).kind=4):CS L n=([],8):=by
  unfold CS;rw [if_neg (fun x=>x h),h2,if_neg (by omega),Int.toNat_natCast,if_pos h3]
theorem holdersE_4 {l:List Int} (h:AK L=0) (h2:JK (fun x:Slip=>decide (x.num=n)) L.slips=(i:Int)) (h3:(L.slips.getD i AB).kind=4) (h4:RF n (lackOf L)=some l):CS L n=(l,0):=by
  unfold CS;rw [if_neg (fun x=>x h),h2,if_neg (by omega),Int.toNat_natCast,if_neg (fun x=>x h3),h4]
theorem holdersE_5 (h:AK L=0) (h2:JK (fun x:Slip=>decide (x.num=n)) L.slips=(i:Int)) (h3:(L.slips.getD i AB).kind=4) (h4:RF n (lackOf L)=none):CS L n=([],11):=by
  unfold CS;rw [if_neg (fun x=>x h),h2,if_neg (by omega),Int.toNat_natCast,if_neg (fun x=>x h3),h4]
end
theorem ne_snoc {α:Type} {p:α→Prop} {xs:List α} {x:α} (h:∀ q∈xs,p q) (hx:p x):∀ q∈xs++[x],p q:=fun q hq=>by
  rcases List.mem_append.1 hq with hq | hq
  · exact h q hq
  · simp only [List.mem_singleton] at hq;subst hq;exact hx
def evOk (e:Sh.Event):Bool:=cmp .eql e.gap 0&&!e.below
def rightE (L:Lin):Bool:=(HR L).all evOk
theorem rightE_no {L:Lin} {xs:List Sh.Event} {x:Sh.Event} (h:(xs++[x]) <+: HR L) (hx:evOk x=false):rightE L=false:=by
  unfold rightE;cases e:(HR L).all evOk with
  | false=>rfl
  | true=>
    have:=List.all_eq_true.1 e x (h.subset (by simp));rw [hx] at this;cases this
theorem rightE_yes {L:Lin} (h:∀ x∈HR L,evOk x=true):rightE L=true:=List.all_eq_true.2 h
def woS (L:Lin) (ns:List Int):List Slip:=L.slips.filter fun x=>!decide (x.num∈ns)
def woL (L:Lin) (ns:List Int):Lin:=⟨L.places,L.sorts,L.start,L.keeps,woS L ns⟩
theorem GoodL.wo {L:Lin} (g:GoodL L) {ns:List Int}:GoodS (woL L ns).slips:=g.goodS.sub (List.length_filter_le _ _) fun x hx=>(List.mem_filter.1 hx).1
theorem GoodL.woW {L:Lin} (g:GoodL L) {ns:List Int}:Within 1000 (HE (woL L ns)):=g.within
def IV (f:Nat→List Int × Bool) (j:Nat):Nat→List Int × Bool
  | 0=>([],false)
  | k+1=>if (f j).2=true then ((f j).1,true) else IV f (j+1) k
def FZ (L:Lin) (all:List Int):Nat→List Int→Nat→List Int × Bool
  | 0,begun,_=>(begun,rightE (woL L begun))
  | m+1,begun,j=>IV (fun i=>FZ L all m (begun++[all.getD i 0]) (i+1)) j (all.length-j)
section
variable {f:Nat→List Int × Bool} {i n:Nat}
theorem firstW_hit (hi:i<n) (h:(f i).2=true):IV f i (n-i)=((f i).1,true):=by
  obtain ⟨k,hk⟩:∃ k,n-i=k+1:=⟨n-i-1,by omega⟩;rw [hk];simp only [IV];rw [if_pos h]
theorem firstW_miss (hi:i<n) (h:(f i).2=false):IV f i (n-i)=IV f (i+1) (n-(i+1)):=by
  obtain ⟨k,hk⟩:∃ k,n-i=k+1:=⟨n-i-1,by omega⟩;rw [hk,show n-(i+1)=k by omega];simp only [IV];rw [if_neg (by rw [h];decide)]
theorem firstW_none (hi:n≤i):IV f i (n-i)=([],false):=by rw [show n-i=0 by omega];rfl
end
def allN (L:Lin):List Int:=AG cmpZ (L.slips.map (·.num))
def IG (L:Lin):List Int × Int:=
  if AK L≠0 then ([],AK L)
  else if (IV (fun m=>FZ L (allN L) m [] 0) 0 3).2=true then ((IV (fun m=>FZ L (allN L) m [] 0) 0 3).1,0) else ([],11)
theorem wrongE_1 {L:Lin} (h:AK L≠0):IG L=([],AK L):=if_pos h
theorem wrongE_2 {L:Lin} {l:List Int} (h:AK L=0) (h2:IV (fun m=>FZ L (allN L) m [] 0) 0 3=(l,true)):IG L=(l,0):=by unfold IG;rw [if_neg (fun x=>x h),h2,if_pos rfl]
theorem wrongE_3 {L:Lin} (h:AK L=0) (h2:IV (fun m=>FZ L (allN L) m [] 0) 0 3=([],false)):IG L=([],11):=by unfold IG;rw [if_neg (fun x=>x h),h2,if_neg (by decide)]
theorem allN_len {L:Lin}:(allN L).length=L.slips.length:=by unfold allN;rw [(GR _).length_eq,List.length_map]
section
variable {so:Int} {H H':Hs} {k:HKey} {v d:Int}
end
section
variable {L:Lin} {so hour:Int}
end
section
variable {L:Lin} {G:List Gap} {so n X:Int} {i m k:Nat} {s:Slip}
end
section
variable {p kh to f h:Int} {ks:List Keep} {k:Nat}
end
section
variable {L:Lin} (g:GoodL L)
include g
omit g
section
variable {i:Nat} (g:GoodL L) (hi:i<(AG AC L.slips).length)
include g hi
end
end
section
variable {L:Lin} {p who frm to:Int} {ks:List Keep} {k:Keep} {i m:Nat}
end
section
variable {L:Lin} {G:List Gap} {n:Int} {i k m:Nat}
variable (g:GoodL L) (hi:i<(sortS L.slips).length)
include g hi
end
section
variable {A:List Slip} {s:Slip} {k:Nat}
end
abbrev Ods:=List (Debt × Int)
def okCells (k:Debt):Array Value:=#[.int .i64 k.who,.int .i64 k.sort,.int .i64 k.amt]
def encO (k:Debt):Value:=.agg (okCells k)
def intO (h:Ods):List (Debt × Value):=h.map fun x=>(x.1,.int .i64 x.2)
def MapO (es:Array MapEntry) (cl:Nat) (H:Ods):Prop:=MapB encO es cl (intO H)∧(H.map Prod.fst).Nodup
theorem MapO.nil (cl:Nat):MapO #[] cl []:=⟨MapB.nil _ _,by simp⟩
end Go.Sh
namespace Go.Sl
open Go Go.Sh
section
variable {P:Program} [Jud P] {N:Nat} {ops:Array Oper} {i:Nat} {l:Sl} {I:Imm} {M:Seg} {ty:TypeId} {gd:Option (Nat × Bool)} {K:Sl→Imm→Seg→Prop} {d:Nat}
end
end Go.Sl
namespace Go.Sh
open Go Go.Sl
section
variable {L:Lin} {xs:List EvH} {x:EvH}
variable (g:GoodL L)
include g
end
section
variable {O dn td:Ods}
end
def LU:Lin:=⟨0,0,[],[],[]⟩
def lateL (L:Lin) (s:Slip):Lin:=⟨L.places,L.sorts,L.start,L.keeps,L.slips++[s]⟩
def AS (L:Lin) (s:Slip):Lin × Int:=
  if AK L≠0 then (LU,AK L) else if 8≤L.slips.length then (LU,6) else if BP L s≠0 then (LU,BP L s)
  else if L.slips.any (fun x=>decide (x.num=s.num))=true then (LU,4) else (lateL L s,0)
section
variable {L:Lin} {ns:List Int} {s:Slip} {k:Nat}
theorem lateE_1 (h:AK L≠0):AS L s=(LU,AK L):=if_pos h
theorem lateE_2 (h:AK L=0) (h2:8≤L.slips.length):AS L s=(LU,6):=by unfold AS;rw [if_neg (fun x=>x h),if_pos h2]
theorem lateE_3 (h:AK L=0) (h2:¬ 8≤L.slips.length) (h3:BP L s≠0):AS L s=(LU,BP L s):=by unfold AS;rw [if_neg (fun x=>x h),if_neg h2,if_pos h3]
theorem lateE_4 (h:AK L=0) (h2:¬ 8≤L.slips.length) (h3:BP L s=0) (h4:L.slips.any (fun x=>decide (x.num=s.num))=true):AS L s=(LU,4):=by unfold AS;rw [if_neg (fun x=>x h),if_neg h2,if_neg (fun x=>x h3),if_pos h4]
theorem lateE_5 (h:AK L=0) (h2:¬ 8≤L.slips.length) (h3:BP L s=0) (h4:L.slips.any (fun x=>decide (x.num=s.num))=false):AS L s=(lateL L s,0):=by unfold AS;rw [if_neg (fun x=>x h),if_neg h2,if_neg (fun x=>x h3),if_neg (by rw [h4];decide)]
end
structure SameB (A B:Lin):Prop where
  places:B.places=A.places
  sorts:B.sorts=A.sorts
  start:B.start=A.start
  keeps:B.keeps=A.keeps
  slips:B.slips.Perm A.slips
theorem good_of {A:Lin} (g:GoodL A) {l:List Slip} (hl:l.length≤8) (hs:∀ s∈l,BP A s=0) (ho:Once l):GoodL ⟨A.places,A.sorts,A.start,A.keeps,l⟩:=by
  refine ⟨g.places,g.sorts,g.start,g.rows,g.nums,g.keeps,g.keep,hl,fun k hk=>?_⟩;have hm:=BJ (xs:=l) (d:=AB) hk;have h1:BP ⟨A.places,A.sorts,A.start,A.keeps,l⟩ (l.getD k AB)=0:=hs _ hm;unfold CU;simp only;rw [if_neg (fun x=>x h1),if_neg];intro h;unfold hasNum at h;obtain ⟨x,hx,e⟩:=List.any_eq_true.1 h;obtain ⟨j,hj,rfl⟩:=List.mem_iff_getElem.1 hx;rw [List.length_take] at hj;have e2:=of_decide_eq_true e;rw [List.getElem_take] at e2;have e3:l.getD k AB=l[k]:=by simp [List.getD,hk]
  rw [e3] at e2;have:=(List.getElem_inj (xs:=l.map Slip.num) (i:=j) (j:=k) (h₀:=by rw [List.length_map];omega) (h₁:=by rw [List.length_map];exact hk) ho).1 (by simpa using e2);omega
theorem SameB.eq {A B:Lin} (h:SameB A B):B=⟨A.places,A.sorts,A.start,A.keeps,B.slips⟩:=by
  cases B;obtain ⟨h1,h2,h3,h4,_⟩:=h;simp only at h1 h2 h3 h4;subst h1 h2 h3 h4;rfl
theorem goodB {A B:Lin} (g:GoodL A) (h:SameB A B):GoodL B:=by
  rw [h.eq];refine good_of g (by rw [h.slips.length_eq];exact g.slips) (fun s hs=>g.slipOf (h.slips.subset hs)) ?_;exact (once_perm h.slips).2 g.once
section
variable {A B:Lin} (g:GoodL A) (h:SameB A B)
include g h
end
def LV (L:Lin) (o:List Int):List Slip:=o.map fun q=>L.slips.getD q.toNat AB
theorem pick_whole {L:Lin}:∀ n,n≤L.slips.length→LV L ((List.range n).map fun i:Nat=>(i:Int))=L.slips.take n:=by
  intro n
  induction n with
  | zero=>intro _;rfl
  | succ n ih=>
    intro hn;rw [List.range_succ,List.map_append];unfold LV at *;rw [List.map_append,ih (by omega),CH (d:=AB) (by omega)];simp
section
variable {L:Lin} {o:List Int} (ho:o.Perm ((List.range L.slips.length).map fun i:Nat=>(i:Int)))
include ho
theorem pick_perm:(LV L o).Perm L.slips:=by
  have h1:(LV L o).Perm (LV L ((List.range L.slips.length).map fun i:Nat=>(i:Int))):=ho.map _;rw [pick_whole _ (Nat.le_refl _),List.take_length] at h1;exact h1
theorem pick_same:SameB L ⟨L.places,L.sorts,L.start,L.keeps,LV L o⟩:=⟨rfl,rfl,rfl,rfl,pick_perm ho⟩
theorem pick_len:o.length=L.slips.length:=by rw [ho.length_eq,List.length_map,List.length_range]
theorem pick_rng {k:Nat} (hk:k<o.length):0≤o.getD k 0∧o.getD k 0<L.slips.length:=by
  have hm:=ho.subset (BJ (xs:=o) (d:=0) hk);obtain ⟨i,hi,e⟩:=List.mem_map.1 hm;have:=List.mem_range.1 hi;omega
omit ho in
theorem OZ {k:Nat} (hk:k≤o.length):(LV L (o.take k)).length=k:=by unfold LV;rw [List.length_map,List.length_take];omega
end
section
variable {L:Lin} {o:List Int} {k:Nat} (ho:o.Perm ((List.range L.slips.length).map fun i:Nat=>(i:Int)))
include ho
theorem pick_step (hk:k<L.slips.length):(LV L (o.take k)++L.slips.drop k).set k (L.slips.getD (o.getD k 0).toNat AB)=LV L (o.take (k+1))++L.slips.drop (k+1):=by
  have hl:=pick_len ho;have hlen:=OZ (L:=L) (o:=o) (k:=k) (by omega);rw [List.set_append_right _ _ (by omega),hlen,Nat.sub_self,drop_cons (d:=AB) hk];have hnext:LV L (o.take (k+1))=LV L (o.take k)++[L.slips.getD (o.getD k 0).toNat AB]:=by rw [CH (d:=0) (by omega)];unfold LV;rw [List.map_append];rfl
  rw [hnext];simp
theorem shuf_same (hk:L.slips.length≤k):SameB L ⟨L.places,L.sorts,L.start,L.keeps,LV L (o.take k)++L.slips.drop k⟩:=by
  have hl:=pick_len ho;rw [List.take_of_length_le (by omega),List.drop_of_length_le hk,List.append_nil];exact pick_same ho
end
section
variable {L:Lin} (g:GoodL L)
include g
end
abbrev AscI (l:List Int):Prop:=l.Pairwise (·<·)
section
variable {L:Lin} {o:List Int} (g:GoodL L) (ha:AscI o) (hr:∀ x∈o,0≤x∧x<(L.slips.length:Int))
include hr
include g ha
end
section
variable {L:Lin} {o:List Int} {k:Nat}
variable (g:GoodL L) (ha:AscI o) (hr:∀ x∈o,0≤x∧x<(L.slips.length:Int))
include g ha hr
end
section
variable {l:List Slip} {n:Nat}
end
section
variable {L:Lin} {all:List Int}
variable (g:GoodL L) {S:List Int} (ha:AscI S) (hr:∀ q∈S,(0:Int)≤q∧q<(allN L).length)
include g ha hr
end
end Go.Sh
namespace Go.Proofs.YtgcemienebmdeaaGreat
open Go Go.Sl Go.Sh
set_option maxRecDepth 100000
noncomputable def c_Gaps:=cod Tryz.f22
theorem Gaps_ct (I:Imm) (l:Value) (L:Lin) (l_f:IsLin I l L):Ct Tryz.prog 22 #[l] I ([]) (fun v I' M'=>∃ u0:Value,∃ Ms0:Seg,v=.tuple #[u0,vI ((ON L).2)]∧M'=Ms0∧Own 59 2 QF u0 ((ON L).1) Ms0):=by
 obtain ⟨l1,l2,l3,rfl,c8,c9,d0⟩:=id l_f;obtain ⟨a2,a3,i9,j2,i4,rfl,j0,j1,j3,j4⟩:=id c8;obtain ⟨a4,a5,j5,j8,rfl,j6,j7,j9⟩:=id c9;obtain ⟨a6,a7,k0,k3,rfl,k1,k2,k4⟩:=id d0;refine MV (fn:=Tryz.f22) (args:=[_]) (N:=29) Tryz.func22 rfl (by kernel_rfl) (Nat.le_of_ble_eq_true rfl) (fun F=>?_);show Run _ _ (c_Gaps []) _ _ [(0,_)] _ _;refine rnm (rqr ?_);refine sS (sb 1 26 (AH L (vS a2 L.start.length a3) (vS a4 L.keeps.length a5) (vS a6 L.slips.length a7)) (fun b1=>(sp 2 [(3,vI 0),(2,vN)] (se (rq (rqr (sd (dnb 7 0 0 b1 (BQ L (vS a2 L.start.length a3) (vS a4 L.keeps.length a5) (vS a6 L.slips.length a7))) (sd (dc 8 (fun I' hI=>(KD I' _ L ((BL c8 c9 d0).mono hI) :))) (sp 1 [(4,vI (AK L))] (sn (sp 2 [(10,.bool (!(cmp .eql (AK L) 0)))] (se (rc 10 rfl (fun h1=>?_) (fun h1=>?_))))))))))))))
 ·
  have g5:=h1;have h1:=BG (BF h1);refine rqr (sp 3 [(3,vI (AK L)),(2,vN)] (se (BD (RP ?_))));have hE:=gapsE_1 (L:=L) h1;refine FD (R:=((bX b1 (AH L (vS a2 L.start.length a3) (vS a4 L.keeps.length a5) (vS a6 L.slips.length a7)) 26)::F)) [] (.inl rfl) (PR _) (rt2s 2 3 ([]) rfl rfl (TC _ (TR _)) (IR _) ?_);exact ⟨_,_,(by rw [hE]),rfl,((show []=(ON L).1 from by rw [hE])▸Own.nil _ _ _)⟩
 have g5:=h1;have h1:=BE (BC h1);refine AM (NX (rqr (sS (sal 5 39 #[vN] (fun b3=>(se (rq (rq ?_))))))));have hz:AK L=0:=by omega
 have hg:=HS hz;have m0:=hg.slips;refine rr (sd (dnb 12 1 0 b1 (BQ L (vS a2 L.start.length a3) (vS a4 L.keeps.length a5) (vS a6 L.slips.length a7))) (sS (sc (some 13) (open_ct _ _ L (BL c8 c9 d0) :) (.refl _) (fun l0 I5 k8 g7 i8=>?_))));obtain ⟨i5,l5,l6,l7,d1,g4,g3,i3,i2,h6,h7⟩:=i8;rw [i3,i2];clear i3 i2;have a9:=h6;obtain ⟨a8,c2,c4,c6⟩:=id a9;obtain ⟨e1,e3,e2,e6,d8,rfl,e4,e5,e7,e8⟩:=id c2;obtain ⟨e9,f1,f0,f4,rfl,f2,f3,f5⟩:=id c4;obtain ⟨f6,f8,f7,g1,rfl,f9,g0,g2⟩:=id c6;refine nm ?_;refine sS (sc (some 14) (OL _ i5 :) (.refl _) (fun l4 l8 k9 b5 g8=>?_));obtain ⟨d2,d3,k6,i1,i0,d7,d5,b6,b7,b8,h8⟩:=g8;rw [d7,d5];clear d7 d5;replace a9:=a9.mono b5;replace a8:=b5.blk _ _ a8;refine nm (se (rb 0 ?_))
 refine HU (α:=Sh.Event) (g:=(.tmp 14)) (ps:=#[15]) (assign:=c_Gaps [1,1,1,0,1,0,0]) (body:=c_Gaps [1,1,1,0,1,0,1]) (gf:=123) (cv:=[vP d2 0,vP d3 0]) (enc:=encEv) (seq:=(evs (HE L) (AG AC L.slips))) (R:=fun xs _ M=>EvR d1 (HE L) (AG AC L.slips) xs.length M) (Mr:=[(d1,Obj.map g4 g3)]) (M0:=((bX b3 #[vN] 39)::[])) (F0:=((bX b1 (AH L (vS a2 L.start.length a3) (vS a4 L.keeps.length a5) (vS a6 L.slips.length a7)) 26)::F))
  (fun xs I M=>∃ v Ms,M=(bX b3 #[v] 39)::Ms∧Own 59 2 QF v (DT xs) Ms) (fun _ _ _ _=>False) (fun x k=>[(2,vN),(3,vI 0),(5,vP b3 0),(6,vP k 0)]) (fun x k=>[(bX k (GC x) 102)])
  (by kernel_rfl) rfl (by kernel_rfl) (fun _=>rfl) (by kernel_rfl) (JI _ i5 d2 d3 k6 d1 _ _ _ _ _ L (HE L) a9 b6 b7 b8 h8 hg.goodS hg.within) (fun xs I J M _ h=>h) (PR _) ⟨_,_,rfl,h7⟩ ⟨_,[],rfl,Own.nil _ _ _⟩ ?_ ?_ ?_ ?_
 ·intro Lq x I1 M1;refine run_sub (l':=[(2,vN),(3,vI 0),(5,vP b3 0),(15,.agg (GC x))]) su (rr (sS (sal 6 102 #[vI 0,vI 0,vI 0,vI 0,vI 0,vI 0,.bool false,vI 0,vI 0,.bool false] (fun h9=>(sS (ss 0 0 h9 (evntL x) (evntL x) (_::_) (cs:=[_,_,_,_,_,_,_,_,_,_]) rfl rfl (ee ?_)))))));exact AL (fun a w hS hD hW=>⟨h9,hS.sub su,hD,hW⟩)
 ·intro Lq x k xs I1 Mr1 M1 F1 hpre hle1 hR1 hC1;replace a8:=hle1.blk _ _ a8;replace b6:=hle1.blk _ _ b6;replace b7:=hle1.blk _ _ b7;replace b8:=hle1.blk _ _ b8;obtain ⟨i6,b2,rfl,b0⟩:=hC1;obtain ⟨a0,a1,rfl,d4⟩:=b0.shape;have m1:(DT xs).length+1≤1000:=by have h1:=hpre.length_le;have h2:=gapsOf_length (l:=xs);have h3:=eventsOf_length (L:=L);unfold HR at h3;rw [h3] at h1;simp only [LA,LC,LN] at h1;omega
  refine rmA (M':=((bX k (GC x) 102)::(Mr1++(bX b3 #[vS a0 (DT xs).length a1] 39)::(b2++F1)))) ?_;refine rpm (M':=((bX k (GC x) 102)::(bX b3 #[vS a0 (DT xs).length a1] 39)::(Mr1++(b2++F1)))) (PC _ PM) (rb 1 (rqr (sp 1 [(16,vP k 8)] (sd (dlb 17 0 8 k (vI x.gap)) (sp 1 [(18,.bool (!(cmp .eql x.gap 0)))] (se (rc 18 rfl (fun h2=>?_) (fun h2=>?_))))))))
  ·
   have g6:=h2;have h2:=BG (BF h2);refine rr (sd (dlb 19 1 0 b3 (vS a0 (DT xs).length a1)) (sp 2 [(21,vP k 0),(20,vP k 0)] (sd (dlb 22 0 0 k (vI x.slip.num)) (sp 1 [(23,vP k 8)] (sd (dlb 24 0 8 k (vI x.gap)) (sp 1 [(25,.agg #[vI x.slip.num,vI x.gap])] (sS (sbs 26 59 1 #[vI x.slip.num,vI x.gap] (fun l9=>(sS (sap (d:=27) 19 26 39 59 2 16 (.agg #[vI 0,vI 0]) QF (DT xs) [(⟨x.slip.num,x.gap⟩:Gap)] b2 rfl rfl b0 (PU (PU (PU (PO _ _ _)))) (one_gapCell _) (DI 0 rfl rfl) (fun m2 c7 d6=>(AZ (M':=((bX k (GC x) 102)::(bX b3 #[vS a0 (DT xs).length a1] 39)::(c7++(Mr1++F1)))) (fun w h=>(h.perm (PW (PW PM))).sub (TC _ (TR _))) ?_)))))))))))));obtain ⟨b9,c0,rfl,k7⟩:=d6.shape;refine sS (ss 1 0 b3 [vS b9 ((DT xs)++([(⟨x.slip.num,x.gap⟩:Gap)])).length c0] [vS b9 ((DT xs)++([(⟨x.slip.num,x.gap⟩:Gap)])).length c0] (_::_::_) (cs:=[_]) rfl rfl (ee (NB (ppm (M':=((bX k (GC x) 102)::(Mr1++(bX b3 #[vS b9 ((DT xs)++([(⟨x.slip.num,x.gap⟩:Gap)])).length c0] 39)::(c7++F1)))) (PC _ (PU (PO _ _ _))) ?_))));refine IB (M':=(Mr1++((bX b3 #[vS b9 ((DT xs)++([(⟨x.slip.num,x.gap⟩:Gap)])).length c0] 39)::c7))) (IR _) ?_ (by simp only [AA,NA,CA];exact (TC _ (TR _)));exact ⟨Mr1,_,rfl,hR1,⟨_,_,rfl,gapsOf_t h2▸d6⟩⟩
  have g6:=h2;have h2:=BE (BC h2);refine AM (NB (ppm (M':=((bX k (GC x) 102)::(Mr1++(bX b3 #[vS a0 (DT xs).length a1] 39)::(b2++F1)))) (PC _ PM.symm) ?_));refine IB (M':=(Mr1++((bX b3 #[vS a0 (DT xs).length a1] 39)::b2))) (IR _) ?_ (by simp only [AA,NA,CA];exact (TC _ (TR _)));exact ⟨Mr1,_,rfl,hR1,⟨_,_,rfl,gapsOf_f h2▸b0⟩⟩
 ·intro D I2 Mr2 M2 hle2 hR2 hC2;replace a8:=hle2.blk _ _ a8;replace b6:=hle2.blk _ _ b6;replace b7:=hle2.blk _ _ b7;replace b8:=hle2.blk _ _ b8;obtain ⟨e0,d9,rfl,i7⟩:=EvR.full hR2 HI;obtain ⟨i6,b2,rfl,b0⟩:=hC2;obtain ⟨a0,a1,rfl,d4⟩:=b0.shape;refine MN (M':=((D,Obj.deferred (some []))::(d1,Obj.map e0 d9)::(bX b3 #[vS a0 (DT (evs (HE L) (AG AC L.slips))).length a1] 39)::(b2++(bX b1 (AH L (vS a2 L.start.length a3) (vS a4 L.keeps.length a5) (vS a6 L.slips.length a7)) 26)::F))) (fun w h=>by simpa only [AA,CA,NA] using h) (ppm (M':=((D,Obj.deferred (some []))::(d1,Obj.map e0 d9)::(bX b3 #[vS a0 (DT (evs (HE L) (AG AC L.slips))).length a1] 39)::(bX b1 (AH L (vS a2 L.start.length a3) (vS a4 L.keeps.length a5) (vS a6 L.slips.length a7)) 26)::(b2++F))) (PC _ (PC _ (PC _ PM))) (NB (NX (rqr (sd (dlb 28 2 0 b3 (vS a0 (DT (evs (HE L) (AG AC L.slips))).length a1)) (sp 2 [(3,vI 0),(2,vS a0 (DT (evs (HE L) (AG AC L.slips))).length a1)] (se (BD ?_))))))));have hE:=gapsE_2 (L:=L) hz;refine FD (R:=((d1,Obj.map e0 d9)::(bX b3 #[vS a0 (DT (evs (HE L) (AG AC L.slips))).length a1] 39)::(bX b1 (AH L (vS a2 L.start.length a3) (vS a4 L.keeps.length a5) (vS a6 L.slips.length a7)) 26)::(b2++F))) [D] (.inl rfl) (PR _) (ppm (M':=(b2++(d1,Obj.map e0 d9)::(bX b3 #[vS a0 (DT (evs (HE L) (AG AC L.slips))).length a1] 39)::(bX b1 (AH L (vS a2 L.start.length a3) (vS a4 L.keeps.length a5) (vS a6 L.slips.length a7)) 26)::F)) (PU (PU PM.symm)) (rt2s 2 3 b2 rfl rfl (TA (TC _ (TC _ (TC _ (TR _)))) _) (IT (IT g7 b5) hle2) ?_));exact ⟨_,_,(by rw [hE];rfl),rfl,((show DT (evs (HE L) (AG AC L.slips))=(ON L).1 from by rw [hE];rfl)▸b0)⟩
 intro D c xs I2 M2 hle2 hS2;exact hS2.elim
noncomputable def c_there:=cod Tryz.f79
theorem there_ct (I:Imm) (z:Value) (xs:List Slip) (n:Int) (z_f:FY I z xs):CtV Tryz.prog 79 #[z,vI n] I (vI (JK (fun x:Slip=>decide (x.num=n)) xs)):=by
 obtain ⟨a3,a4,a6,a8,rfl,a9,b0,a5⟩:=id z_f;refine fr (args:=[_,_]) (N:=20) Tryz.func79 (fun F=>?_);show Run _ _ (c_there []) _ _ [(0,_),(1,_)] _ _;refine rnm (rqr ?_);refine sp 1 [(4,vI 0)] (se (rq (rqr (sp 1 [(5,vI 0)] (se (rb 0 ?_))))));refine rl (fun mz a w=>∃ k:Nat,(k≤xs.length)∧(∀ j,j<k→(fun x:Slip=>decide (x.num=n)) (xs.getD j AB)=false)∧SD 20 [(5,vI ↑k),(0,vS a3 xs.length a4),(1,vI n)] I F a w (mz=xs.length-k)) ?_ ?_
 ·intro a w hS hD hW;exact ⟨_,0,Nat.zero_le _,(fun j hj=>by omega),hS.sub su,hD,hW,rfl⟩
 rintro mz a w ⟨k,hk,a2,hS,hD,hW,rfl⟩
 refine AU hS hD hW ?_;refine rq (rqr (sp 4 [(9,.bool (cmp .lss ↑k (↑(xs.length))))] (se (rc 9 rfl (fun h1=>?_) (fun h1=>?_)))))
 ·
  have a0:=h1;have h1:=BX h1;refine AM (NX (rq (rb 1 (rqr (sp 2 [(13,vI ↑k),(12,vS a3 xs.length a4)] (sd (di 14 8 k a5.addr) (sp 1 [(15,.pointer (some ⟨a6,a8+k*8,none⟩))] (sd (dl 16 (NY a5 k (by omega) 0 (by decide) (v:=vI ((xs.getD k AB).num)) rfl)) (sp 2 [(18,.bool (cmp .eql ((xs.getD k AB).num) n))] (se (rc 18 rfl (fun h2=>?_) (fun h2=>?_))))))))))))
  ·
   have a1:=h2;have h2:=BE h2;refine rqr (sp 2 [(4,vI ↑k)] (se (BD (RB (RP (RP (RB (RP (rt1 4 rfl (IR _) ?_)))))))));exact ⟨congrArg (Value.int .i64) (idxF_hit (d:=AB) a2 (by omega) (decide_eq_true h2)).symm,rfl⟩
  have a1:=h2;have h2:=BG h2;refine AM (NB (NX (rr (sp 1 [(10,vI ↑k)] (sd (da 11 ↑k 1) (sp 1 [(5,vI (↑k+1))] (ee ?_)))))));refine AO (xs.length-(k+1)) (by omega) ?_;intro a w hS hD hW;exact ⟨k+1,by omega,KE a2 (decide_eq_false h2),hS.sub su,hD,hW,rfl⟩
 have a0:=h1;have h1:=CF h1;refine BR 0 (EP (EP (EB (NX (rqr (sp 1 [(4,vI (-1))] (se (BD (rt1 4 rfl (IR _) ?_)))))))));exact ⟨congrArg (Value.int .i64) (idxF_miss (d:=AB) a2 (by omega)).symm,rfl⟩
end Go.Proofs.YtgcemienebmdeaaGreat
namespace Go.Sh
open Go Go.Sl
def JT (L:Lin):Int:=bif !inB L.places 1 4||!inB L.sorts 1 2 then 1 else CP L
section
variable {L:Lin} {k m:Nat}
theorem QO (h:(!inB L.places 1 4||!inB L.sorts 1 2)=true):JT L=1:=by unfold JT;rw [h];rfl
theorem KK (h:(!inB L.places 1 4||!inB L.sorts 1 2)=false):JT L=CP L:=by unfold JT;rw [h];rfl
theorem startErr_3r (h:(L.start.length:Int)=L.places) (ha:(L.start.all fun r=>decide ((r.length:Int)=L.sorts))=true) (hk:k<L.start.length) (hm:m<(L.start.getD k []).length) (hb:inB ((L.start.getD k []).getD m 0) 0 50=false):CP L=1:=by
  unfold CP;rw [if_neg (fun x=>x h),if_neg (by rw [ha];decide),if_pos];rw [← Bool.not_eq_true,List.all_eq_true];intro hh;have h1:(L.start.getD k []).getD m 0∈L.start.flatten:=List.mem_flatten.2 ⟨_,BJ (xs:=L.start) (d:=[]) hk,BJ (xs:=L.start.getD k []) (d:=0) hm⟩;rw [hh _ h1] at hb;cases hb
theorem startErr_4r (h:(L.start.length:Int)=L.places) (ha:(L.start.all fun r=>decide ((r.length:Int)=L.sorts))=true) (hk:L.start.length≤k) (hb:∀ r∈L.start.take k,(r.all fun n=>inB n 0 50)=true):CP L=0:=by
  refine startErr_4 h ha (List.all_eq_true.2 fun n hn=>?_);obtain ⟨r,hr,hnr⟩:=List.mem_flatten.1 hn;rw [List.take_of_length_le hk] at hb;exact List.all_eq_true.1 (hb r hr) n hnr
theorem MZ (h:JT L=0):(!inB L.places 1 4||!inB L.sorts 1 2)=false∧CP L=0∧(1≤L.places∧L.places≤4)∧(1≤L.sorts∧L.sorts≤2):=by
  cases e:(!inB L.places 1 4||!inB L.sorts 1 2) with
  | true=>rw [QO e] at h;cases h
  | false=>
    rw [KK e] at h;simp only [Bool.or_eq_false_iff,Bool.not_eq_false'] at e;exact ⟨rfl,h,DB e.1,DB e.2⟩
theorem linErr_r1 (h:¬ JT L=0):AK L=JT L:=by
  rw [JM];unfold linC;cases e:(!inB L.places 1 4||!inB L.sorts 1 2) with
  | true=>rw [QO e];rfl
  | false=>
    rw [KK e] at h ⊢;simp [cmp,h]
theorem linErr_r2 (h:JT L=0) (h2:¬ CO L=0):AK L=CO L:=by
  obtain ⟨e,e2,_⟩:=MZ h;rw [JM];unfold linC;rw [e,e2];simp [cmp,h2]
theorem linErr_r3 (h:JT L=0) (h2:CO L=0) (h3:8<L.slips.length):AK L=6:=by
  obtain ⟨e,e2,_⟩:=MZ h;have h4:(8:Int)<L.slips.length:=by omega
  rw [JM];unfold linC;rw [e,e2,h2];simp [cmp,h4]
theorem linErr_r4 {x:Int} (h:JT L=0) (h2:CO L=0) (h3:¬ 8<L.slips.length) (h0:FB (CU L) L.slips.length=x):AK L=x:=by
  obtain ⟨e,e2,_⟩:=MZ h;have h4:¬ (8:Int)<L.slips.length:=by omega
  exact OU h0 e (by rw [e2];rfl) (by rw [h2];rfl) (by simp [cmp,h4])
theorem keepErr_1r (h3:inB (L.keeps.getD k AN).place 0 (L.places-1)=true) (h:(!inB (L.keeps.getD k AN).hour 0 200||!inB (L.keeps.getD k AN).who 1 9)=true):EQ L k=1:=by
  cases h4:inB (L.keeps.getD k AN).hour 0 200 with
  | false=>exact keepErr_1 h3 h4
  | true=>rw [h4] at h;exact keepErr_1b h3 h4 (by simpa using h)
theorem keepErr_45 (h:(!inB (L.keeps.getD k AN).hour 0 200||!inB (L.keeps.getD k AN).who 1 9)=false):inB (L.keeps.getD k AN).hour 0 200=true∧inB (L.keeps.getD k AN).who 1 9=true:=by
  simpa only [Bool.or_eq_false_iff,Bool.not_eq_false'] using h
theorem keepErr_4r (h3:inB (L.keeps.getD k AN).place 0 (L.places-1)=true) (h:(!inB (L.keeps.getD k AN).hour 0 200||!inB (L.keeps.getD k AN).who 1 9)=false) (hk:k<L.keeps.length) (hm:m<k) (hb:(cmp .eql (L.keeps.getD m AN).place (L.keeps.getD k AN).place&&cmp .eql (L.keeps.getD m AN).hour (L.keeps.getD k AN).hour)=true):EQ L k=4:=by
  obtain ⟨h4,h5⟩:=keepErr_45 h;refine keepErr_4 h3 h4 h5 (List.any_eq_true.2 ⟨L.keeps.getD m AN,?_,by simpa only [KR] using hb⟩);rw [List.mem_take_iff_getElem];exact ⟨m,by omega,by simp [List.getD,show m<L.keeps.length by omega]⟩
theorem keepErr_0r (h3:inB (L.keeps.getD k AN).place 0 (L.places-1)=true) (h:(!inB (L.keeps.getD k AN).hour 0 200||!inB (L.keeps.getD k AN).who 1 9)=false) (hb:∀ m,m<k→(cmp .eql (L.keeps.getD m AN).place (L.keeps.getD k AN).place&&cmp .eql (L.keeps.getD m AN).hour (L.keeps.getD k AN).hour)=false):EQ L k=0:=by
  obtain ⟨h4,h5⟩:=keepErr_45 h;refine keepErr_ok h3 h4 h5 (List.any_eq_false.2 fun x hx=>?_);rw [List.mem_take_iff_getElem] at hx;obtain ⟨m,hm,rfl⟩:=hx;have:=hb m (by omega);rw [KR,KR,show L.keeps.getD m AN=L.keeps[m] by simp [List.getD,show m<L.keeps.length by omega]] at this;rw [this];decide
end
def IK (L:Lin) (s:Slip):Int:=
  bif !inB s.num 1 999||!inB s.hour 0 200 then 1 else bif !inB s.kind 1 6 then 8
  else bif !inB s.place 0 (L.places-1) then 3
  else bif cmp .eql s.kind 1 then (bif !inB s.to 0 (L.places-1) then 3 else bif cmp .eql s.to s.place then 4 else bif !inB s.sort 0 (L.sorts-1) then 3
  else bif !inB s.amt (if s.kind=4 then 0 else 1) 50 then 1 else 0)
  else bif !cmp .eql s.to 0 then 1
  else bif !inB s.sort 0 (L.sorts-1) then 3
  else bif s.soil&&!cmp .eql s.kind 4 then 1
  else bif !inB s.amt (if s.kind=4 then 0 else 1) 50 then 1 else 0
theorem DO (L:Lin) (s:Slip):BP L s=IK L s:=by
  rw [FE];unfold PH IK;cases inB s.num 1 999 <;> cases inB s.hour 0 200 <;> cases cmp .eql s.kind 1 <;> cases s.soil <;> simp
end Go.Sh
namespace Go.Proofs.YtgcemienebmdeaaGreat
open Go Go.Sl Go.Sh
set_option maxRecDepth 100000
noncomputable def c_rcheckStart:=cod Tryz.f105
theorem rcheckStart_ct (I:Imm) (l:Value) (L:Lin) (l_f:IsLin I l L):CtV Tryz.prog 105 #[l] I (vI (JT L)):=by
 obtain ⟨l1,l2,l3,rfl,d1,d3,d5⟩:=id l_f;obtain ⟨a0,a1,d8,e1,d7,rfl,d9,e0,a4,b3⟩:=id d1;obtain ⟨a5,a6,e2,e5,rfl,e3,e4,e6⟩:=id d3;obtain ⟨a7,a8,e7,f0,rfl,e8,e9,f1⟩:=id d5;refine fr (args:=[_]) (N:=65) Tryz.func105 (fun F=>?_);show Run _ _ (c_rcheckStart []) _ _ [(0,_)] _ _;refine rnm (rqr ?_);refine sS (sb 1 26 (AH L (vS a0 L.start.length a1) (vS a5 L.keeps.length a6) (vS a7 L.slips.length a8)) (fun b1=>(sp 1 [(2,vI 0)] (se (rq (rq ?_))))));refine BV (fun a w=>SE 65 [(1,vP b1 0),(2,vI 0),(15,.bool ((!(inB L.places 1 4))||(!(inB L.sorts 1 2))))] I ((bX b1 (AH L (vS a0 L.start.length a1) (vS a5 L.keeps.length a6) (vS a7 L.slips.length a8)) 26)::F) a w) ?_ ?_
 ·
  refine rr (sp 1 [(6,vP b1 0)] (sd (dlb 7 0 0 b1 (vI L.places)) (sd (dc 8 (fun I' hI=>(DA I' L.places 1 4 :))) (sp 2 [(10,.bool (!(inB L.places 1 4)))] ?_))));refine BB 10 rfl (fun h1=>?_) (fun h1=>?_)
  ·
   have a2:=h1;have a2:=BF a2;have a9:=HK a2;refine sp 5 [(15,.bool true)] (ee ?_);refine AL (fun a w hS hD hW=>⟨hS.sub (sun 2 (.consE 15 rfl (congrArg Value.bool (by simp only [h1,kk])) (.nil _))),hD,hW⟩)
  have a2:=h1;have a2:=BC a2;have a9:=DB a2;refine sp 1 [(11,vP b1 1)] (sd (dlb 12 0 1 b1 (vI L.sorts)) (sd (dc 13 (fun I' hI=>(DA I' L.sorts 1 2 :))) (sp 2 [(15,.bool (!(inB L.sorts 1 2)))] (ee ?_))));refine AL (fun a w hS hD hW=>⟨hS.sub (sun 2 (.consE 15 rfl (congrArg Value.bool (by simp only [h1,kk])) (.nil _))),hD,hW⟩)
 rintro a w ⟨hS,hD,hW⟩
 refine AU hS hD hW ?_;refine rc 15 rfl (fun h2=>?_) (fun h2=>?_)
 ·
  have a3:=h2;refine rqr (sp 1 [(2,vI 1)] (se (BD (RP (DL 2 [] rfl (TC _ (TR _)) (IR _) ?_)))));exact ⟨congrArg (Value.int .i64) (QO a3).symm,rfl⟩
 have a3:=h2;obtain ⟨b0,b2⟩:=or_f h2;have b0:=BC b0;have c1:=DB b0;have b2:=BC b2;have c2:=DB b2;refine AM (NX (rq (rqr (sp 1 [(16,vP b1 2)] (sd (dlb 17 0 2 b1 (vS a0 L.start.length a1)) (sp 2 [(19,vP b1 0),(18,vI (↑(L.start.length)))] (sd (dlb 20 0 0 b1 (vI L.places)) (sp 1 [(21,.bool (!(cmp .eql (↑(L.start.length)) L.places)))] (se (rc 21 rfl (fun h3=>?_) (fun h3=>?_)))))))))))
 ·
  have c3:=h3;have h3:=BG (BF h3);refine rqr (sp 1 [(2,vI 2)] (se (BD (RP (DL 2 [] rfl (TC _ (TR _)) (IR _) ?_)))));exact ⟨congrArg (Value.int .i64) ((KK a3).trans (startErr_1 (by omega))).symm,rfl⟩
 have c3:=h3;have h3:=BE (BC h3);refine AM (NX (rq (rqr (sp 1 [(3,vI 0)] (se (rb 0 ?_))))));refine rl (fun mz a w=>∃ k:Nat,(k≤L.start.length)∧(∀ r∈L.start.take k,(fun r=>decide ((r.length:Int)=L.sorts)) r=true)∧SD 65 [(3,vI ↑k),(1,vP b1 0)] I ((bX b1 (AH L (vS a0 L.start.length a1) (vS a5 L.keeps.length a6) (vS a7 L.slips.length a8)) 26)::F) a w (mz=L.start.length-k)) ?_ ?_
 ·intro a w hS hD hW;exact ⟨_,0,Nat.zero_le _,(fun x h=>by simp at h),hS.sub su,hD,hW,rfl⟩
 rintro mz a w ⟨k,hk,ha,hS,hD,hW,rfl⟩
 refine AU hS hD hW ?_;refine rq (rqr (sp 2 [(23,vP b1 2),(22,vI ↑k)] (sd (dlb 24 0 2 b1 (vS a0 L.start.length a1)) (sp 2 [(26,.bool (cmp .lss ↑k (↑(L.start.length))))] (se (rc 26 rfl (fun h4=>?_) (fun h4=>?_)))))))
 ·
  have c4:=h4;have h4:=BX h4;refine AM (NX (rq (rb 1 (rq ?_))));refine rd0 8 (ox 1 [(29,vP b1 2)] ?_);refine AD (dlb 30 0 2 b1 (vS a0 L.start.length a1)) (ox 1 [(31,vI ↑k)] ?_);refine AD (di 32 1 k a4.addr) ?_;have b5:=b3 k (by omega);obtain ⟨f3,f5,f4,f8,b4,f6,f7,f9⟩:=id b5;rw [b4] at b5;refine AD (DE (dl 33 (DY a4 k (by omega))) b4) (ox 2 [(35,vP b1 1),(34,vI (↑((L.start.getD k []).length)))] ?_);refine AD (dlb 36 0 1 b1 (vI L.sorts)) ?_;refine BA (sp 1 [(37,.bool (!(cmp .eql (↑((L.start.getD k []).length)) L.sorts)))] (se (rc 37 rfl (fun h5=>?_) (fun h5=>?_))))
  ·
   have c5:=h5;have h5:=BG (BF h5);refine rqr (sp 1 [(2,vI 2)] (se (BD (RB (RP (RP (RB (RP (DL 2 [] rfl (TC _ (TR _)) (IR _) ?_)))))))));exact ⟨congrArg (Value.int .i64) ((KK a3).trans (startErr_2 (k:=k) (by omega) (by omega) h5)).symm,rfl⟩
  have c5:=h5;have h5:=BE (BC h5);refine AM (NB (NX (rr (sp 1 [(27,vI ↑k)] (sd (da 28 ↑k 1) (sp 1 [(3,vI (↑k+1))] (ee ?_)))))));refine AO (L.start.length-(k+1)) (by omega) ?_;intro a w hS hD hW;exact ⟨k+1,by omega,MS (d:=[]) ha (by omega) (decide_eq_true h5),hS.sub su,hD,hW,rfl⟩
 have c4:=h4;have h4:=CF h4;refine BR 0 (EP (EP (EB (NX (rq (rq ?_))))));have d6:(L.start.all fun r=>decide ((r.length:Int)=L.sorts))=true:=RU ha (by omega);refine rr (sp 1 [(4,vI 0)] (se (rb 2 ?_)));refine rl (fun mz a w=>∃ i:Nat,(i≤L.start.length)∧(∀ r∈L.start.take i,(r.all fun n=>inB n 0 50)=true)∧SD 65 [(4,vI ↑i),(1,vP b1 0)] I ((bX b1 (AH L (vS a0 L.start.length a1) (vS a5 L.keeps.length a6) (vS a7 L.slips.length a8)) 26)::F) a w (mz=L.start.length-i)) ?_ ?_
 ·intro a w hS hD hW;exact ⟨_,0,Nat.zero_le _,(fun x h=>by simp at h),hS.sub su,hD,hW,rfl⟩
 rintro mz a w ⟨i,hi,hb,hS,hD,hW,rfl⟩
 refine AU hS hD hW ?_;refine rq (rqr (sp 2 [(39,vP b1 2),(38,vI ↑i)] (sd (dlb 40 0 2 b1 (vS a0 L.start.length a1)) (sp 2 [(42,.bool (cmp .lss ↑i (↑(L.start.length))))] (se (rc 42 rfl (fun h6=>?_) (fun h6=>?_)))))))
 ·
  have c6:=h6;have h6:=BX h6;refine AM (NX (rq (rb 3 (rqr (sp 1 [(5,vI 0)] (se (rb 4 ?_)))))));refine rl (fun mz a w=>∃ m:Nat,(m≤(L.start.getD i []).length)∧(∀ x∈(L.start.getD i []).take m,(fun n=>inB n 0 50) x=true)∧SD 65 [(5,vI ↑m),(1,vP b1 0),(4,vI ↑i)] I ((bX b1 (AH L (vS a0 L.start.length a1) (vS a5 L.keeps.length a6) (vS a7 L.slips.length a8)) 26)::F) a w (mz=(L.start.getD i []).length-m)) ?_ ?_
  ·intro a w hS hD hW;exact ⟨_,0,Nat.zero_le _,(fun x h=>by simp at h),hS.sub su,hD,hW,rfl⟩
  rintro mz a w ⟨m,hm,hc,hS,hD,hW,rfl⟩
  refine AU hS hD hW ?_;refine rq (rqr (sp 2 [(46,vP b1 2),(45,vI ↑m)] (sd (dlb 47 0 2 b1 (vS a0 L.start.length a1)) (sp 1 [(48,vI ↑i)] (sd (di 49 1 i a4.addr) ?_)))));have b7:=b3 i (by omega);obtain ⟨g0,g2,g1,g5,b6,g3,g4,g6⟩:=id b7;rw [b6] at b7;refine sd (DE (dl 50 (DY a4 i (by omega))) b6) (sp 2 [(52,.bool (cmp .lss ↑m (↑((L.start.getD i []).length))))] (se (rc 52 rfl (fun h7=>?_) (fun h7=>?_))))
  ·
   have c7:=h7;have h7:=BX h7;refine AM (NX (rq (rb 5 (rqr (sp 1 [(55,vP b1 2)] (sd (dlb 56 0 2 b1 (vS a0 L.start.length a1)) (sp 1 [(57,vI ↑i)] (sd (di 58 1 i a4.addr) ?_))))))));have b9:=b3 i (by omega);obtain ⟨g7,g9,g8,i0,b8,h0,h9,c0⟩:=id b9;rw [b8] at b9;refine sd (DE (dl 59 (DY a4 i (by omega))) b8) (sp 1 [(60,vI ↑m)] (sd (di 61 1 m c0.addr) (sd (dl 62 (DG c0 m (by omega))) (sd (dc 63 (fun I' hI=>(DA I' ((L.start.getD i []).getD m 0) 0 50 :))) (sp 1 [(64,.bool (!(inB ((L.start.getD i []).getD m 0) 0 50)))] (se (rc 64 rfl (fun h8=>?_) (fun h8=>?_))))))))
   ·
    have c9:=h8;have h8:=BF h8;have c8:=HK h8;refine rqr (sp 1 [(2,vI 1)] (se (BD (RB (RP (RP (RB (RB (RP (RP (RB (RP (DL 2 [] rfl (TC _ (TR _)) (IR _) ?_)))))))))))));exact ⟨congrArg (Value.int .i64) ((KK a3).trans (startErr_3r (k:=i) (m:=m) (by omega) d6 (by omega) (by omega) h8)).symm,rfl⟩
   have c9:=h8;have h8:=BC h8;have c8:=DB h8;refine AM (NB (NX (rr (sp 1 [(53,vI ↑m)] (sd (da 54 ↑m 1) (sp 1 [(5,vI (↑m+1))] (ee ?_)))))));refine AO ((L.start.getD i []).length-(m+1)) (by omega) ?_;intro a w hS hD hW;exact ⟨m+1,by omega,MS (d:=0) hc (by omega) h8,hS.sub su,hD,hW,rfl⟩
  have c7:=h7;have h7:=CF h7;refine BR 4 (EP (EP (EB (NB (NX (rr (sp 1 [(43,vI ↑i)] (sd (da 44 ↑i 1) (sp 1 [(4,vI (↑i+1))] (ee ?_))))))))));refine AO (L.start.length-(i+1)) (by omega) ?_;intro a w hS hD hW;exact ⟨i+1,by omega,MS (d:=[]) hb (by omega) (RU hc (by omega)),hS.sub su,hD,hW,rfl⟩
 have c6:=h6;have h6:=CF h6;refine BR 2 (EP (EP (EB (NX (rqr (sp 1 [(2,vI 0)] (se (BD (DL 2 [] rfl (TC _ (TR _)) (IR _) ?_)))))))));exact ⟨congrArg (Value.int .i64) ((KK a3).trans (startErr_4r (k:=i) (by omega) d6 (by omega) hb)).symm,rfl⟩
noncomputable def c_rcheckKeeps:=cod Tryz.f106
theorem rcheckKeeps_ct (I:Imm) (l:Value) (L:Lin) (l_f:IsLin I l L) (hp:1≤L.places∧L.places≤4):CtV Tryz.prog 106 #[l] I (vI (CO L)):=by
 obtain ⟨l1,l2,l3,rfl,c8,d0,d2⟩:=id l_f;obtain ⟨a4,a5,d7,e0,d6,rfl,d8,d9,e1,e2⟩:=id c8;obtain ⟨a0,a1,b8,b9,rfl,e3,e4,a2⟩:=id d0;obtain ⟨a6,a7,e5,e8,rfl,e6,e7,e9⟩:=id d2;refine fr (args:=[_]) (N:=64) Tryz.func106 (fun F=>?_);show Run _ _ (c_rcheckKeeps []) _ _ [(0,_)] _ _;refine rnm (rqr ?_);refine sS (sb 1 26 (AH L (vS a4 L.start.length a5) (vS a0 L.keeps.length a1) (vS a6 L.slips.length a7)) (fun b1=>(sp 1 [(2,vI 0)] (se (rq (rqr (sp 1 [(6,vP b1 3)] (sd (dlb 7 0 3 b1 (vS a0 L.keeps.length a1)) (sp 2 [(9,.bool (cmp .gtr (↑(L.keeps.length)) 4))] (se (rc 9 rfl (fun h1=>?_) (fun h1=>?_))))))))))))
 ·
  have c0:=h1;have h1:=JY h1;refine rqr (sp 1 [(2,vI 6)] (se (BD (RP (DL 2 [] rfl (TC _ (TR _)) (IR _) ?_)))));exact ⟨congrArg (Value.int .i64) (OR (by omega)).symm,rfl⟩
 have c0:=h1;have h1:=MB h1;refine AM (NX (rq (rqr (sp 1 [(3,vI 0)] (se (rb 0 ?_))))));refine rl (fun mz a w=>∃ J0:Imm,∃ k:Nat,(I.le J0)∧(k≤L.keeps.length)∧(FB (EQ L) k=0)∧SD 64 [(3,vI ↑k),(1,vP b1 0)] J0 ((bX b1 (AH L (vS a4 L.start.length a5) (vS a0 L.keeps.length a1) (vS a6 L.slips.length a7)) 26)::F) a w (mz=L.keeps.length-k)) ?_ ?_
 ·intro a w hS hD hW;exact ⟨_,I,0,IR _,Nat.zero_le _,rfl,hS.sub su,hD,hW,rfl⟩
 rintro mz a w ⟨J0,k,hJ0,hk,hz,hS,hD,hW,rfl⟩
 refine AU hS hD hW ?_;replace a2:=a2.mono hJ0;refine rq (rqr (sp 2 [(11,vP b1 3),(10,vI ↑k)] (sd (dlb 12 0 3 b1 (vS a0 L.keeps.length a1)) (sp 2 [(14,.bool (cmp .lss ↑k (↑(L.keeps.length))))] (se (rc 14 rfl (fun h2=>?_) (fun h2=>?_)))))))
 ·
  have c1:=h2;have h2:=BX h2;refine AM (NX (rq (rb 1 (rqr (sp 1 [(17,vP b1 3)] (sd (dlb 18 0 3 b1 (vS a0 L.keeps.length a1)) (sp 1 [(19,vI ↑k)] (sd (di 20 3 k a2.addr) (sd (dln 21 20 50 (NG (L.keeps.getD k AN)) rfl (CB (vals:=FS) (fun _=>rfl) a2 k (by omega))) (sS (sal 4 50 #[vI 0,vI 0,vI 0] (fun b3=>(sS (ss 0 0 b3 (NG (L.keeps.getD k AN)) (NG (L.keeps.getD k AN)) (_::_::_) (cs:=[_,_,_]) rfl rfl (se (rq (rqr (sp 1 [(22,vP b3 0)] (sd (dlb 23 0 0 b3 (vI ((L.keeps.getD k AN).place))) (sp 1 [(24,vP b1 0)] (sd (dlb 25 1 0 b1 (vI L.places)) (sd (dsb 26 L.places 1) (sd (dc 27 (fun I' hI=>(DA I' ((L.keeps.getD k AN).place) 0 (L.places-1) :))) (sp 1 [(28,.bool (!(inB ((L.keeps.getD k AN).place) 0 (L.places-1))))] (se (rc 28 rfl (fun h3=>?_) (fun h3=>?_)))))))))))))))))))))))))))
  ·
   have c3:=h3;have h3:=BF h3;have c2:=HK h3;refine rqr (sp 1 [(2,vI 3)] (se (BD (RP (RB (RP (RP (RB (RP (DL 2 [] rfl (TC _ (TC _ (TR _))) hJ0 ?_))))))))));exact ⟨congrArg (Value.int .i64) (FP (by omega) hz (by omega) (keepErr_3 h3) (by decide)).symm,rfl⟩
  have c3:=h3;have h3:=BC h3;have c2:=DB h3;refine AM (NX (rq (rq ?_)));refine BV (fun a w=>SE 64 [(1,vP b1 0),(3,vI ↑k),(4,vP b3 0),(38,.bool ((!(inB ((L.keeps.getD k AN).hour) 0 200))||(!(inB ((L.keeps.getD k AN).who) 1 9))))] J0 ((bX b3 (keepA (L.keeps.getD k AN)) 50)::(bX b1 (AH L (vS a4 L.start.length a5) (vS a0 L.keeps.length a1) (vS a6 L.slips.length a7)) 26)::F) a w) ?_ ?_
  ·
   refine rr (sp 1 [(29,vP b3 1)] (sd (dlb 30 0 1 b3 (vI ((L.keeps.getD k AN).hour))) (sd (dc 31 (fun I' hI=>(DA I' ((L.keeps.getD k AN).hour) 0 200 :))) (sp 2 [(33,.bool (!(inB ((L.keeps.getD k AN).hour) 0 200)))] ?_))));refine BB 33 rfl (fun h4=>?_) (fun h4=>?_)
   ·
    have a3:=h4;have a3:=BF a3;have a9:=HK a3;refine sp 5 [(38,.bool true)] (ee ?_);refine AL (fun a w hS hD hW=>⟨hS.sub (sun 3 (.consE 38 rfl (congrArg Value.bool (by simp only [h4,kk])) (.nil _))),hD,hW⟩)
   have a3:=h4;have a3:=BC a3;have a9:=DB a3;refine sp 1 [(34,vP b3 2)] (sd (dlb 35 0 2 b3 (vI ((L.keeps.getD k AN).who))) (sd (dc 36 (fun I' hI=>(DA I' ((L.keeps.getD k AN).who) 1 9 :))) (sp 2 [(38,.bool (!(inB ((L.keeps.getD k AN).who) 1 9)))] (ee ?_))));refine AL (fun a w hS hD hW=>⟨hS.sub (sun 3 (.consE 38 rfl (congrArg Value.bool (by simp only [h4,kk])) (.nil _))),hD,hW⟩)
  rintro a w ⟨hS,hD,hW⟩
  refine AU hS hD hW ?_;refine rc 38 rfl (fun h5=>?_) (fun h5=>?_)
  ·
   have b4:=h5;refine rqr (sp 1 [(2,vI 1)] (se (BD (RP (RB (RP (RP (RB (RP (DL 2 [] rfl (TC _ (TC _ (TR _))) hJ0 ?_))))))))));exact ⟨congrArg (Value.int .i64) (FP (by omega) hz (by omega) (keepErr_1r h3 b4) (by decide)).symm,rfl⟩
  have b4:=h5;obtain ⟨b0,b2⟩:=or_f h5;have b0:=BC b0;have c4:=DB b0;have b2:=BC b2;have c5:=DB b2;refine AM (NX (rq ?_));have d5:=h3;have d3:=b4;refine rr (sp 1 [(5,vI 0)] (se (rb 2 ?_)));refine rl (fun mz a w=>∃ m:Nat,(m≤k)∧(∀ q,q<m→(cmp .eql (L.keeps.getD q AN).place (L.keeps.getD k AN).place&&cmp .eql (L.keeps.getD q AN).hour (L.keeps.getD k AN).hour)=false)∧SD 64 [(5,vI ↑m),(1,vP b1 0),(3,vI ↑k),(4,vP b3 0)] J0 ((bX b3 (keepA (L.keeps.getD k AN)) 50)::(bX b1 (AH L (vS a4 L.start.length a5) (vS a0 L.keeps.length a1) (vS a6 L.slips.length a7)) 26)::F) a w (mz=k-m)) ?_ ?_
  ·intro a w hS hD hW;exact ⟨_,0,Nat.zero_le _,(fun q hq=>by omega),hS.sub su,hD,hW,rfl⟩
  rintro mz a w ⟨m,hm,d4,hS,hD,hW,rfl⟩
  refine AU hS hD hW ?_;refine rq (rqr (sp 3 [(41,.bool (cmp .lss ↑m ↑k))] (se (rc 41 rfl (fun h6=>?_) (fun h6=>?_)))))
  ·
   have c6:=h6;have h6:=BX h6;refine AM (NX (rq (rb 3 (rq ?_))));refine BV (fun a w=>SE 64 [(1,vP b1 0),(3,vI ↑k),(4,vP b3 0),(5,vI ↑m),(63,.bool ((cmp .eql ((L.keeps.getD m AN).place) ((L.keeps.getD k AN).place))&&(cmp .eql ((L.keeps.getD m AN).hour) ((L.keeps.getD k AN).hour))))] J0 ((bX b3 (keepA (L.keeps.getD k AN)) 50)::(bX b1 (AH L (vS a4 L.start.length a5) (vS a0 L.keeps.length a1) (vS a6 L.slips.length a7)) 26)::F) a w) ?_ ?_
   ·
    refine rd0 18 (ox 1 [(44,vP b1 3)] ?_);refine AD (dlb 45 1 3 b1 (vS a0 L.keeps.length a1)) (ox 1 [(46,vI ↑m)] ?_);refine AD (di 47 3 m a2.addr) (ox 1 [(48,.pointer (some ⟨b8,b9+m*3,none⟩))] ?_);refine AD (dl 49 (NY a2 m (by omega) 0 (by decide) (v:=vI ((L.keeps.getD m AN).place)) rfl)) (ox 1 [(50,vP b3 0)] ?_);refine AD (dlb 51 0 0 b3 (vI ((L.keeps.getD k AN).place))) (ox 2 [(53,.bool (cmp .eql ((L.keeps.getD m AN).place) ((L.keeps.getD k AN).place)))] ?_);refine IA 53 (fun h7=>?_) (fun h7=>?_)
    ·
     have a8:=h7;have a8:=BE a8;refine ox 1 [(54,vP b1 3)] ?_;refine AD (dlb 55 1 3 b1 (vS a0 L.keeps.length a1)) (ox 1 [(56,vI ↑m)] ?_);refine AD (di 57 3 m a2.addr) (ox 1 [(58,.pointer (some ⟨b8,b9+m*3+1,none⟩))] ?_);refine AD (dl 59 (NY a2 m (by omega) 1 (by decide) (v:=vI ((L.keeps.getD m AN).hour)) rfl)) (ox 1 [(60,vP b3 1)] ?_);refine AD (dlb 61 0 1 b3 (vI ((L.keeps.getD k AN).hour))) ?_;refine BA (sp 2 [(63,.bool (cmp .eql ((L.keeps.getD m AN).hour) ((L.keeps.getD k AN).hour)))] (ee ?_));refine AL (fun a w hS hD hW=>⟨hS.sub (sun 4 (.consE 63 rfl (congrArg Value.bool (by simp only [h7,kk])) (.nil _))),hD,hW⟩)
    have a8:=h7;have a8:=BG a8;refine ox 8 [(61,undef),(59,undef)] ?_;refine BA (sp 2 [(63,.bool false)] (ee ?_));refine AL (fun a w hS hD hW=>⟨hS.sub (sun 4 (.consE 63 rfl (congrArg Value.bool (by simp only [h7,kk])) (.nil _))),hD,hW⟩)
   rintro a w ⟨hS,hD,hW⟩
   refine AU hS hD hW ?_;refine rc 63 rfl (fun h8=>?_) (fun h8=>?_)
   ·
    have b5:=h8;obtain ⟨b6,b7⟩:=LQ h8;have b6:=BE b6;have b7:=BE b7;refine rqr (sp 1 [(2,vI 4)] (se (BD (RB (RP (RP (RB (RB (RP (RP (RB (RP (DL 2 [] rfl (TC _ (TC _ (TR _))) hJ0 ?_)))))))))))));exact ⟨congrArg (Value.int .i64) (FP (by omega) hz (by omega) (keepErr_4r d5 d3 (by omega) (by omega) b5) (by decide)).symm,rfl⟩
   have b5:=h8;refine AM (NB (NX (rr (sp 1 [(42,vI ↑m)] (sd (da 43 ↑m 1) (sp 1 [(5,vI (↑m+1))] (ee ?_)))))));refine AO (k-(m+1)) (by omega) ?_;intro a w hS hD hW;exact ⟨m+1,by omega,KE d4 b5,hS.sub su,hD,hW,rfl⟩
  have c6:=h6;have h6:=CF h6;refine BR 2 (EP (EP (EB (NB (NX (rr (sp 1 [(15,vI ↑k)] (sd (da 16 ↑k 1) (sp 1 [(3,vI (↑k+1))] (ee ?_))))))))));refine AO (L.keeps.length-(k+1)) (by omega) ?_;intro a w hS hD hW;exact ⟨J0,k+1,hJ0,by omega,KT hz (keepErr_0r d5 d3 (fun q hq=>d4 q (by omega))),hS.sub su,hD,(hW.perm (PR _)).sub (TC _ (TR _)),rfl⟩
 have c1:=h2;have h2:=CF h2;refine BR 0 (EP (EP (EB (NX (rqr (sp 1 [(2,vI 0)] (se (BD (DL 2 [] rfl (TC _ (TR _)) hJ0 ?_)))))))));exact ⟨congrArg (Value.int .i64) (OS (by omega) hz (by omega)).symm,rfl⟩
noncomputable def c_rcheckSlip:=cod Tryz.f107
theorem PD (I:Imm) (l:Value) (L:Lin) (s:Slip) (l_f:IsLin I l L) (hp:1≤L.places∧L.places≤4) (hq:1≤L.sorts∧L.sorts≤2):CtV Tryz.prog 107 #[l,.agg #[vI s.num,vI s.hour,vI s.kind,vI s.place,vI s.to,vI s.sort,.bool s.soil,vI s.amt]] I (vI (BP L s)):=by
 obtain ⟨l1,l2,l3,rfl,f8,g0,g2⟩:=id l_f;obtain ⟨b8,b9,g6,g9,g5,rfl,g7,g8,h0,i0⟩:=id f8;obtain ⟨c0,c1,i1,i4,rfl,i2,i3,i5⟩:=id g0;obtain ⟨c2,c3,i6,i9,rfl,i7,i8,j0⟩:=id g2;refine fr (args:=[_,_]) (N:=72) Tryz.func107 (fun F=>?_);show Run _ _ (c_rcheckSlip []) _ _ [(0,_),(1,_)] _ _;refine rnm (rqr ?_);refine sS (sb 2 26 (AH L (vS b8 L.start.length b9) (vS c0 L.keeps.length c1) (vS c2 L.slips.length c3)) (fun b1=>(sS (sb 3 28 (AV s) (fun b3=>(sp 1 [(4,vI 0)] (se (rq (rq ?_)))))))));refine BV (fun a w=>SE 72 [(2,vP b1 0),(3,vP b3 0),(4,vI 0),(15,.bool ((!(inB s.num 1 999))||(!(inB s.hour 0 200))))] I ((bX b3 (AV s) 28)::(bX b1 (AH L (vS b8 L.start.length b9) (vS c0 L.keeps.length c1) (vS c2 L.slips.length c3)) 26)::F) a w) ?_ ?_
 ·
  refine rr (sp 1 [(6,vP b3 0)] (sd (dlb 7 0 0 b3 (vI s.num)) (sd (dc 8 (fun I' hI=>(DA I' s.num 1 999 :))) (sp 2 [(10,.bool (!(inB s.num 1 999)))] ?_))));refine BB 10 rfl (fun h1=>?_) (fun h1=>?_)
  ·
   have b7:=h1;have b7:=BF b7;have d4:=HK b7;refine sp 5 [(15,.bool true)] (ee ?_);refine AL (fun a w hS hD hW=>⟨hS.sub (sun 3 (.consE 15 rfl (congrArg Value.bool (by simp only [h1,kk])) (.nil _))),hD,hW⟩)
  have b7:=h1;have b7:=BC b7;have d4:=DB b7;refine sp 1 [(11,vP b3 1)] (sd (dlb 12 0 1 b3 (vI s.hour)) (sd (dc 13 (fun I' hI=>(DA I' s.hour 0 200 :))) (sp 2 [(15,.bool (!(inB s.hour 0 200)))] (ee ?_))));refine AL (fun a w hS hD hW=>⟨hS.sub (sun 3 (.consE 15 rfl (congrArg Value.bool (by simp only [h1,kk])) (.nil _))),hD,hW⟩)
 rintro a w ⟨hS,hD,hW⟩
 refine AU hS hD hW ?_;refine rc 15 rfl (fun h2=>?_) (fun h2=>?_)
 ·
  have a0:=h2;refine rqr (sp 1 [(4,vI 1)] (se (BD (RP (DL 4 [] rfl (TC _ (TC _ (TR _))) (IR _) ?_)))));exact ⟨congrArg (Value.int .i64) (by first | (simp only [DO,IK,a0,cond_true,cond_false];done) | (exfalso;simp only [ Bool.not_true,Bool.and_false,Bool.false_and] at a0;cases a0)),rfl⟩
 have a0:=h2;obtain ⟨d5,d6⟩:=or_f h2;have d5:=BC d5;have f0:=DB d5;have d6:=BC d6;have f1:=DB d6;refine AM (NX (rq (rqr (sp 1 [(16,vP b3 2)] (sd (dlb 17 0 2 b3 (vI s.kind)) (sd (dc 18 (fun I' hI=>(DA I' s.kind 1 6 :))) (sp 1 [(19,.bool (!(inB s.kind 1 6)))] (se (rc 19 rfl (fun h3=>?_) (fun h3=>?_))))))))))
 ·
  have a1:=h3;have h3:=BF h3;have f2:=HK h3;refine rqr (sp 1 [(4,vI 8)] (se (BD (RP (DL 4 [] rfl (TC _ (TC _ (TR _))) (IR _) ?_)))));exact ⟨congrArg (Value.int .i64) (by first | (simp only [DO,IK,a0,a1,cond_true,cond_false];done) | (exfalso;simp only [a0,Bool.not_true,Bool.and_false,Bool.false_and] at a1;cases a1)),rfl⟩
 have a1:=h3;have h3:=BC h3;have f2:=DB h3;refine AM (NX (rq (rqr (sp 1 [(20,vP b3 3)] (sd (dlb 21 0 3 b3 (vI s.place)) (sp 1 [(22,vP b1 0)] (sd (dlb 23 1 0 b1 (vI L.places)) (sd (dsb 24 L.places 1) (sd (dc 25 (fun I' hI=>(DA I' s.place 0 (L.places-1) :))) (sp 1 [(26,.bool (!(inB s.place 0 (L.places-1))))] (se (rc 26 rfl (fun h4=>?_) (fun h4=>?_)))))))))))))
 ·
  have a2:=h4;have h4:=BF h4;have f3:=HK h4;refine rqr (sp 1 [(4,vI 3)] (se (BD (RP (DL 4 [] rfl (TC _ (TC _ (TR _))) (IR _) ?_)))));exact ⟨congrArg (Value.int .i64) (by first | (simp only [DO,IK,a0,a1,a2,cond_true,cond_false];done) | (exfalso;simp only [a0,a1,Bool.not_true,Bool.and_false,Bool.false_and] at a2;cases a2)),rfl⟩
 have a2:=h4;have h4:=BC h4;have f3:=DB h4;refine AM (NX (rq (rqr (sp 1 [(27,vP b3 2)] (sd (dlb 28 0 2 b3 (vI s.kind)) (sp 1 [(29,.bool (cmp .eql s.kind 1))] (se (rc 29 rfl (fun h5=>?_) (fun h5=>?_)))))))))
 ·
  have a3:=h5;have h5:=BE h5;refine rq (rqr (sp 1 [(30,vP b3 4)] (sd (dlb 31 0 4 b3 (vI s.to)) (sp 1 [(32,vP b1 0)] (sd (dlb 33 1 0 b1 (vI L.places)) (sd (dsb 34 L.places 1) (sd (dc 35 (fun I' hI=>(DA I' s.to 0 (L.places-1) :))) (sp 1 [(36,.bool (!(inB s.to 0 (L.places-1))))] (se (rc 36 rfl (fun h6=>?_) (fun h6=>?_)))))))))))
  ·
   have a7:=h6;have h6:=BF h6;have f4:=HK h6;refine rqr (sp 1 [(4,vI 3)] (se (BD (RP (RP (DL 4 [] rfl (TC _ (TC _ (TR _))) (IR _) ?_))))));exact ⟨congrArg (Value.int .i64) (by first | (simp only [DO,IK,a0,a1,a2,a3,a7,cond_true,cond_false];done) | (exfalso;simp only [a0,a1,a2,a3,Bool.not_true,Bool.and_false,Bool.false_and] at a7;cases a7)),rfl⟩
  have a7:=h6;have h6:=BC h6;have f4:=DB h6;refine AM (NX (rqr (sp 1 [(37,vP b3 4)] (sd (dlb 38 0 4 b3 (vI s.to)) (sp 1 [(39,vP b3 3)] (sd (dlb 40 0 3 b3 (vI s.place)) (sp 1 [(41,.bool (cmp .eql s.to s.place))] (se (rc 41 rfl (fun h7=>?_) (fun h7=>?_))))))))))
  ·
   have a9:=h7;have h7:=BE h7;refine rqr (sp 1 [(4,vI 4)] (se (BD (RP (DL 4 [] rfl (TC _ (TC _ (TR _))) (IR _) ?_)))));exact ⟨congrArg (Value.int .i64) (by first | (simp only [DO,IK,a0,a1,a2,a3,a7,a9,cond_true,cond_false];done) | (exfalso;simp only [a0,a1,a2,a3,a7,Bool.not_true,Bool.and_false,Bool.false_and] at a9;cases a9)),rfl⟩
  have a9:=h7;have h7:=BG h7;refine AM (NX (rq (rqr (sp 1 [(45,vP b3 5)] (sd (dlb 46 0 5 b3 (vI s.sort)) (sp 1 [(47,vP b1 1)] (sd (dlb 48 1 1 b1 (vI L.sorts)) (sd (dsb 49 L.sorts 1) (sd (dc 50 (fun I' hI=>(DA I' s.sort 0 (L.sorts-1) :))) (sp 1 [(51,.bool (!(inB s.sort 0 (L.sorts-1))))] (se (rc 51 rfl (fun h8=>?_) (fun h8=>?_)))))))))))))
  ·
   have b4:=h8;have h8:=BF h8;have f5:=HK h8;refine rqr (sp 1 [(4,vI 3)] (se (BD (RP (DL 4 [] rfl (TC _ (TC _ (TR _))) (IR _) ?_)))));exact ⟨congrArg (Value.int .i64) (by first | (simp only [DO,IK,a0,a1,a2,a3,a7,a9,b4,cond_true,cond_false];done) | (exfalso;simp only [a0,a1,a2,a3,a7,a9,Bool.not_true,Bool.and_false,Bool.false_and] at b4;cases b4)),rfl⟩
  have b4:=h8;have h8:=BC h8;have f5:=DB h8;refine AM (NX (rq (rq ?_)));refine BV (fun a w=>SE 72 [(3,vP b3 0),(4,vI 0),(63,.bool ((s.soil)&&((!(cmp .eql s.kind 1))&&(!(cmp .eql s.kind 4)))))] I ((bX b3 (AV s) 28)::(bX b1 (AH L (vS b8 L.start.length b9) (vS c0 L.keeps.length c1) (vS c2 L.slips.length c3)) 26)::F) a w) ?_ ?_
  ·
   refine rr (sp 1 [(52,vP b3 6)] (sd (dlb 53 0 6 b3 (.bool s.soil)) (sp 1 [(54,.bool s.soil)] ?_)));refine BB 54 rfl (fun h9=>?_) (fun h9=>?_)
   ·
    have f6:=h9;refine sp 1 [(55,vP b3 2)] (sd (dlb 56 0 2 b3 (vI s.kind)) (sp 3 [(59,.bool (!(cmp .eql s.kind 1)))] ?_));refine BB 59 rfl (fun d8=>?_) (fun d8=>?_)
    ·
     have b5:=d8;have b5:=BG (BF b5);refine sp 1 [(60,vP b3 2)] (sd (dlb 61 0 2 b3 (vI s.kind)) (sp 2 [(63,.bool (!(cmp .eql s.kind 4)))] (ee ?_)));refine AL (fun a w hS hD hW=>⟨hS.sub (sun 2 (.consE 63 rfl (congrArg Value.bool (by simp only [h9,d8,kk])) (.nil _))),hD,hW⟩)
    have b5:=d8;have b5:=BE (BC b5);refine sp 4 [(63,.bool false)] (ee ?_);refine AL (fun a w hS hD hW=>⟨hS.sub (sun 2 (.consE 63 rfl (congrArg Value.bool (by simp only [h9,d8,kk])) (.nil _))),hD,hW⟩)
   have f6:=h9;refine sp 9 [(63,.bool false)] (ee ?_);refine AL (fun a w hS hD hW=>⟨hS.sub (sun 2 (.consE 63 rfl (congrArg Value.bool (by simp only [h9,kk])) (.nil _))),hD,hW⟩)
  rintro a w ⟨hS,hD,hW⟩
  refine AU hS hD hW ?_;refine rc 63 rfl (fun e8=>?_) (fun e8=>?_)
  ·
   have a8:=e8;obtain ⟨g3,d9⟩:=LQ e8;obtain ⟨c4,c5⟩:=LQ d9;have c4:=BG (BF c4);have c5:=BG (BF c5);refine rqr (sp 1 [(4,vI 1)] (se (BD (RP (DL 4 [] rfl (TC _ (TC _ (TR _))) (IR _) ?_)))));exact ⟨congrArg (Value.int .i64) (by first | (simp only [DO,IK,a0,a1,a2,a3,a7,a9,b4,a8,cond_true,cond_false];done) | (exfalso;simp only [a0,a1,a2,a3,a7,a9,b4,Bool.not_true,Bool.and_false,Bool.false_and] at a8;cases a8)),rfl⟩
  have a8:=e8;refine AM (NX (rqr (sp 1 [(5,vI 1)] (se (rq ?_)))));refine BV (fun a w=>SE 72 [(3,vP b3 0),(4,vI 0),(5,vI (if s.kind=4 then 0 else 1))] I ((bX b3 (AV s) 28)::(bX b1 (AH L (vS b8 L.start.length b9) (vS c0 L.keeps.length c1) (vS c2 L.slips.length c3)) 26)::F) a w) ?_ ?_
  ·
   refine rqr (sp 1 [(64,vP b3 2)] (sd (dlb 65 0 2 b3 (vI s.kind)) (sp 1 [(66,.bool (cmp .eql s.kind 4))] (se (rc 66 rfl (fun c8=>?_) (fun c8=>?_))))))
   ·
    have e0:=c8;have c8:=BE c8;refine rr (sp 1 [(5,vI 0)] (ee ?_));exact AL (fun a w hS hD hW=>⟨hS.sub (sun 2 (.consE 5 rfl (least_t c8) (.nil _))),hD,hW⟩)
   have e0:=c8;have c8:=BG c8;refine AM ?_;exact AL (fun a w hS hD hW=>⟨hS.sub (sun 2 (.consE 5 rfl (least_f c8) (.nil _))),hD,hW⟩)
  rintro a w ⟨hS,hD,hW⟩
  refine AU hS hD hW ?_;refine rq (rqr (sp 1 [(67,vP b3 7)] (sd (dlb 68 0 7 b3 (vI s.amt)) (sp 1 [(69,vI (if s.kind=4 then 0 else 1))] (sd (dc 70 (fun I' hI=>(DA I' s.amt (if s.kind=4 then 0 else 1) 50 :))) (sp 1 [(71,.bool (!(inB s.amt (if s.kind=4 then 0 else 1) 50)))] (se (rc 71 rfl (fun c9=>?_) (fun c9=>?_)))))))))
  ·
   have b0:=c9;have c9:=BF c9;have e1:=HK c9;refine rqr (sp 1 [(4,vI 1)] (se (BD (RP (DL 4 [] rfl (TC _ (TC _ (TR _))) (IR _) ?_)))));exact ⟨congrArg (Value.int .i64) (by first | (simp only [DO,IK,a0,a1,a2,a3,a7,a9,b4,a8,b0,cond_true,cond_false];done) | (exfalso;simp only [a0,a1,a2,a3,a7,a9,b4,a8,Bool.not_true,Bool.and_false,Bool.false_and] at b0;cases b0)),rfl⟩
  have b0:=c9;have c9:=BC c9;have e1:=DB c9;refine AM (NX (rqr (sp 1 [(4,vI 0)] (se (BD (DL 4 [] rfl (TC _ (TC _ (TR _))) (IR _) ?_))))));exact ⟨congrArg (Value.int .i64) (by first | (simp only [DO,IK,a0,a1,a2,a3,a7,a9,b4,a8,b0,cond_true,cond_false];done) | (exfalso;simp only [a0,a1,a2,a3,a7,a9,b4,a8,Bool.not_true,Bool.and_false,Bool.false_and] at b0;cases b0)),rfl⟩
 have a3:=h5;have h5:=BG h5;refine rqr (sp 1 [(42,vP b3 4)] (sd (dlb 43 0 4 b3 (vI s.to)) (sp 1 [(44,.bool (!(cmp .eql s.to 0)))] (se (rc 44 rfl (fun d3=>?_) (fun d3=>?_))))))
 ·
  have a4:=d3;have d3:=BG (BF d3);refine rqr (sp 1 [(4,vI 1)] (se (BD (RP (DL 4 [] rfl (TC _ (TC _ (TR _))) (IR _) ?_)))));exact ⟨congrArg (Value.int .i64) (by first | (simp only [DO,IK,a0,a1,a2,a3,a4,cond_true,cond_false];done) | (exfalso;simp only [a0,a1,a2,a3,Bool.not_true,Bool.and_false,Bool.false_and] at a4;cases a4)),rfl⟩
 have a4:=d3;have d3:=BE (BC d3);refine AM (NX (rq (rqr (sp 1 [(45,vP b3 5)] (sd (dlb 46 0 5 b3 (vI s.sort)) (sp 1 [(47,vP b1 1)] (sd (dlb 48 1 1 b1 (vI L.sorts)) (sd (dsb 49 L.sorts 1) (sd (dc 50 (fun I' hI=>(DA I' s.sort 0 (L.sorts-1) :))) (sp 1 [(51,.bool (!(inB s.sort 0 (L.sorts-1))))] (se (rc 51 rfl (fun d0=>?_) (fun d0=>?_)))))))))))))
 ·
  have a6:=d0;have d0:=BF d0;have e2:=HK d0;refine rqr (sp 1 [(4,vI 3)] (se (BD (RP (DL 4 [] rfl (TC _ (TC _ (TR _))) (IR _) ?_)))));exact ⟨congrArg (Value.int .i64) (by first | (simp only [DO,IK,a0,a1,a2,a3,a4,a6,cond_true,cond_false];done) | (exfalso;simp only [a0,a1,a2,a3,a4,Bool.not_true,Bool.and_false,Bool.false_and] at a6;cases a6)),rfl⟩
 have a6:=d0;have d0:=BC d0;have e2:=DB d0;refine AM (NX (rq (rq ?_)));refine BV (fun a w=>SE 72 [(3,vP b3 0),(4,vI 0),(63,.bool ((s.soil)&&((!(cmp .eql s.kind 1))&&(!(cmp .eql s.kind 4)))))] I ((bX b3 (AV s) 28)::(bX b1 (AH L (vS b8 L.start.length b9) (vS c0 L.keeps.length c1) (vS c2 L.slips.length c3)) 26)::F) a w) ?_ ?_
 ·
  refine rr (sp 1 [(52,vP b3 6)] (sd (dlb 53 0 6 b3 (.bool s.soil)) (sp 1 [(54,.bool s.soil)] ?_)));refine BB 54 rfl (fun d7=>?_) (fun d7=>?_)
  ·
   have e3:=d7;refine sp 1 [(55,vP b3 2)] (sd (dlb 56 0 2 b3 (vI s.kind)) (sp 3 [(59,.bool (!(cmp .eql s.kind 1)))] ?_));refine BB 59 rfl (fun e4=>?_) (fun e4=>?_)
   ·
    have b6:=e4;have b6:=BG (BF b6);refine sp 1 [(60,vP b3 2)] (sd (dlb 61 0 2 b3 (vI s.kind)) (sp 2 [(63,.bool (!(cmp .eql s.kind 4)))] (ee ?_)));refine AL (fun a w hS hD hW=>⟨hS.sub (sun 2 (.consE 63 rfl (congrArg Value.bool (by simp only [d7,e4,kk])) (.nil _))),hD,hW⟩)
   have b6:=e4;have b6:=BE (BC b6);refine sp 4 [(63,.bool false)] (ee ?_);refine AL (fun a w hS hD hW=>⟨hS.sub (sun 2 (.consE 63 rfl (congrArg Value.bool (by simp only [d7,e4,kk])) (.nil _))),hD,hW⟩)
  have e3:=d7;refine sp 9 [(63,.bool false)] (ee ?_);refine AL (fun a w hS hD hW=>⟨hS.sub (sun 2 (.consE 63 rfl (congrArg Value.bool (by simp only [d7,kk])) (.nil _))),hD,hW⟩)
 rintro a w ⟨hS,hD,hW⟩
 refine AU hS hD hW ?_;refine rc 63 rfl (fun e9=>?_) (fun e9=>?_)
 ·
  have a5:=e9;obtain ⟨g4,e5⟩:=LQ e9;obtain ⟨c6,c7⟩:=LQ e5;have c6:=BG (BF c6);have c7:=BG (BF c7);refine rqr (sp 1 [(4,vI 1)] (se (BD (RP (DL 4 [] rfl (TC _ (TC _ (TR _))) (IR _) ?_)))));simp only [a3,Bool.not_false,Bool.and_true,Bool.true_and] at a5;exact ⟨congrArg (Value.int .i64) (by first | (simp only [DO,IK,a0,a1,a2,a3,a4,a6,a5,cond_true,cond_false];done) | (exfalso;simp only [a0,a1,a2,a3,a4,a6,Bool.not_true,Bool.and_false,Bool.false_and] at a5;cases a5)),rfl⟩
 have a5:=e9;refine AM (NX (rqr (sp 1 [(5,vI 1)] (se (rq ?_)))));refine BV (fun a w=>SE 72 [(3,vP b3 0),(4,vI 0),(5,vI (if s.kind=4 then 0 else 1))] I ((bX b3 (AV s) 28)::(bX b1 (AH L (vS b8 L.start.length b9) (vS c0 L.keeps.length c1) (vS c2 L.slips.length c3)) 26)::F) a w) ?_ ?_
 ·
  refine rqr (sp 1 [(64,vP b3 2)] (sd (dlb 65 0 2 b3 (vI s.kind)) (sp 1 [(66,.bool (cmp .eql s.kind 4))] (se (rc 66 rfl (fun d1=>?_) (fun d1=>?_))))))
  ·
   have e6:=d1;have d1:=BE d1;refine rr (sp 1 [(5,vI 0)] (ee ?_));exact AL (fun a w hS hD hW=>⟨hS.sub (sun 2 (.consE 5 rfl (least_t d1) (.nil _))),hD,hW⟩)
  have e6:=d1;have d1:=BG d1;refine AM ?_;exact AL (fun a w hS hD hW=>⟨hS.sub (sun 2 (.consE 5 rfl (least_f d1) (.nil _))),hD,hW⟩)
 rintro a w ⟨hS,hD,hW⟩
 refine AU hS hD hW ?_;refine rq (rqr (sp 1 [(67,vP b3 7)] (sd (dlb 68 0 7 b3 (vI s.amt)) (sp 1 [(69,vI (if s.kind=4 then 0 else 1))] (sd (dc 70 (fun I' hI=>(DA I' s.amt (if s.kind=4 then 0 else 1) 50 :))) (sp 1 [(71,.bool (!(inB s.amt (if s.kind=4 then 0 else 1) 50)))] (se (rc 71 rfl (fun d2=>?_) (fun d2=>?_)))))))))
 ·
  have b2:=d2;have d2:=BF d2;have e7:=HK d2;refine rqr (sp 1 [(4,vI 1)] (se (BD (RP (DL 4 [] rfl (TC _ (TC _ (TR _))) (IR _) ?_)))));simp only [a3,Bool.not_false,Bool.and_true,Bool.true_and] at a5;exact ⟨congrArg (Value.int .i64) (by first | (simp only [DO,IK,a0,a1,a2,a3,a4,a6,a5,b2,cond_true,cond_false];done) | (exfalso;simp only [a0,a1,a2,a3,a4,a6,a5,Bool.not_true,Bool.and_false,Bool.false_and] at b2;cases b2)),rfl⟩
 have b2:=d2;have d2:=BC d2;have e7:=DB d2;refine AM (NX (rqr (sp 1 [(4,vI 0)] (se (BD (DL 4 [] rfl (TC _ (TC _ (TR _))) (IR _) ?_))))));simp only [a3,Bool.not_false,Bool.and_true,Bool.true_and] at a5;exact ⟨congrArg (Value.int .i64) (by first | (simp only [DO,IK,a0,a1,a2,a3,a4,a6,a5,b2,cond_true,cond_false];done) | (exfalso;simp only [a0,a1,a2,a3,a4,a6,a5,Bool.not_true,Bool.and_false,Bool.false_and] at b2;cases b2)),rfl⟩
noncomputable def c_rCheck:=cod Tryz.f48
theorem rCheck_ct (I:Imm) (l:Value) (L:Lin) (l_f:IsLin I l L):CtV Tryz.prog 48 #[l] I (vI (AK L)):=by
 obtain ⟨l1,l2,l3,rfl,a5,a8,a2⟩:=id l_f;obtain ⟨a3,a4,c5,c8,c4,rfl,c6,c7,c9,d0⟩:=id a5;obtain ⟨a6,a7,d1,d4,rfl,d2,d3,d5⟩:=id a8;obtain ⟨a0,a1,c1,c3,rfl,d6,d7,a9⟩:=id a2;refine fr (args:=[_]) (N:=50) Tryz.func48 (fun F=>?_);show Run _ _ (c_rCheck []) _ _ [(0,_)] _ _;refine rnm (rqr ?_);refine sS (sb 1 26 (AH L (vS a3 L.start.length a4) (vS a6 L.keeps.length a7) (vS a0 L.slips.length a1)) (fun b1=>(sp 1 [(2,vI 0)] (se (rq (rqr (sd (dnb 7 0 0 b1 (BQ L (vS a3 L.start.length a4) (vS a6 L.keeps.length a7) (vS a0 L.slips.length a1))) (sd (dc 8 (fun I' hI=>(rcheckStart_ct I' _ L ((BL a5 a8 a2).mono hI) :))) (sp 1 [(3,vI (JT L))] (sn (sp 2 [(10,.bool (!(cmp .eql (JT L) 0)))] (se (rc 10 rfl (fun h1=>?_) (fun h1=>?_))))))))))))))
 ·
  have b4:=h1;have h1:=BG (BF h1);refine rqr (sp 2 [(2,vI (JT L))] (se (BD (RP (DL 2 [] rfl (TC _ (TR _)) (IR _) ?_)))));exact ⟨congrArg (Value.int .i64) (linErr_r1 h1).symm,rfl⟩
 have b4:=h1;have h1:=BE (BC h1);refine AM (NX (rq (rq ?_)));obtain ⟨_,_,hp,hq⟩:=MZ h1;refine rr (sd (dnb 12 0 0 b1 (BQ L (vS a3 L.start.length a4) (vS a6 L.keeps.length a7) (vS a0 L.slips.length a1))) (sd (dc 13 (fun I' hI=>(rcheckKeeps_ct I' _ L ((BL a5 a8 a2).mono hI) (by omega) :))) (sp 1 [(4,vI (CO L))] (sn (sp 2 [(15,.bool (!(cmp .eql (CO L) 0)))] (se (rc 15 rfl (fun h2=>?_) (fun h2=>?_))))))))
 ·
  have b5:=h2;have h2:=BG (BF h2);refine rqr (sp 2 [(2,vI (CO L))] (se (BD (RP (DL 2 [] rfl (TC _ (TR _)) (IR _) ?_)))));exact ⟨congrArg (Value.int .i64) (linErr_r2 h1 h2).symm,rfl⟩
 have b5:=h2;have h2:=BE (BC h2);refine AM (NX (rq (rqr (sp 1 [(17,vP b1 4)] (sd (dlb 18 0 4 b1 (vS a0 L.slips.length a1)) (sp 2 [(20,.bool (cmp .gtr (↑(L.slips.length)) 8))] (se (rc 20 rfl (fun h3=>?_) (fun h3=>?_)))))))))
 ·
  have b6:=h3;have h3:=JY h3;refine rqr (sp 1 [(2,vI 6)] (se (BD (RP (DL 2 [] rfl (TC _ (TR _)) (IR _) ?_)))));exact ⟨congrArg (Value.int .i64) (linErr_r3 h1 h2 (by omega)).symm,rfl⟩
 have b6:=h3;have h3:=MB h3;refine AM (NX (rq (rqr (sp 1 [(5,vI 0)] (se (rb 0 ?_))))));refine rl (fun mz a w=>∃ J0:Imm,∃ k:Nat,(I.le J0)∧(k≤L.slips.length)∧(FB (CU L) k=0)∧SD 50 [(5,vI ↑k),(1,vP b1 0)] J0 ((bX b1 (AH L (vS a3 L.start.length a4) (vS a6 L.keeps.length a7) (vS a0 L.slips.length a1)) 26)::F) a w (mz=L.slips.length-k)) ?_ ?_
 ·intro a w hS hD hW;exact ⟨_,I,0,IR _,Nat.zero_le _,rfl,hS.sub su,hD,hW,rfl⟩
 rintro mz a w ⟨J0,k,hJ0,hk,hz,hS,hD,hW,rfl⟩
 refine AU hS hD hW ?_;replace a5:=a5.mono hJ0;replace a8:=a8.mono hJ0;replace a2:=a2.mono hJ0;replace a9:=a9.mono hJ0;refine rq (rqr (sp 2 [(22,vP b1 4),(21,vI ↑k)] (sd (dlb 23 0 4 b1 (vS a0 L.slips.length a1)) (sp 2 [(25,.bool (cmp .lss ↑k (↑(L.slips.length))))] (se (rc 25 rfl (fun h4=>?_) (fun h4=>?_)))))))
 ·
  have b7:=h4;have h4:=BX h4;refine AM (NX (rq (rb 1 (rq (rq ?_)))));refine rd0 6 ?_;refine AD (dnb 28 0 0 b1 (BQ L (vS a3 L.start.length a4) (vS a6 L.keeps.length a7) (vS a0 L.slips.length a1))) (ox 1 [(29,vP b1 4)] ?_);refine AD (dlb 30 0 4 b1 (vS a0 L.slips.length a1)) (ox 1 [(31,vI ↑k)] ?_);refine AD (di 32 8 k a9.addr) ?_;refine AD (dln 33 32 28 (EU (L.slips.getD k AB)) rfl (CB (vals:=CV) (fun _=>rfl) a9 k (by omega))) ?_;refine BA (sd (dc 34 (fun I' hI=>(PD I' _ L (L.slips.getD k AB) ((BL a5 a8 a2).mono hI) (by omega) (by omega) :))) (sp 1 [(6,vI (BP L (L.slips.getD k AB)))] (sn (sp 2 [(36,.bool (!(cmp .eql (BP L (L.slips.getD k AB)) 0)))] (se (rc 36 rfl (fun h5=>?_) (fun h5=>?_)))))))
  ·
   have b8:=h5;have h5:=BG (BF h5);refine rqr (sp 2 [(2,vI (BP L (L.slips.getD k AB)))] (se (BD (RP (RB (RP (RP (RB (RP (DL 2 [] rfl (TC _ (TR _)) hJ0 ?_))))))))));exact ⟨congrArg (Value.int .i64) (linErr_r4 h1 h2 (by omega) (PI hz (by omega) (slipAt_bad h5) h5)).symm,rfl⟩
  have b8:=h5;have h5:=BE (BC h5);refine AM (NX (rq ?_));refine rd0 10 (ox 1 [(38,vP b1 4)] ?_);refine AD (dlb 39 0 4 b1 (vS a0 L.slips.length a1)) (ox 1 [(40,vI ↑k)] ?_);have b2:=a2.cutHi k (by omega);obtain ⟨d9,e1,e0,e4,b3,e2,e3,e5⟩:=id b2;rw [b3] at b2;refine AD (DE (HW (x:=(.tmp 39)) (lo:=none) (hi:=(some (.tmp 40))) (T:=24) (e:=28) (sz:=8) 0 k (d:=41) (ty:=24) (gd:=none) (by kernel_rfl) rfl (by kernel_rfl) (by kernel_rfl) rfl (.inl ⟨rfl,rfl⟩) (.inr ⟨_,.i64,rfl,rfl⟩) (by omega) (by omega)) b3) (ox 1 [(42,vP b1 4)] ?_);refine AD (dlb 43 0 4 b1 (vS a0 L.slips.length a1)) (ox 1 [(44,vI ↑k)] ?_);refine AD (di 45 8 k a9.addr) (ox 1 [(46,.pointer (some ⟨c1,c3+k*8,none⟩))] ?_);refine AD (dl 47 (NY a9 k (by omega) 0 (by decide) (v:=vI ((L.slips.getD k AB).num)) rfl)) ?_;refine BA (sd (dc 48 (fun I' hI=>(there_ct I' _ _ ((L.slips.getD k AB).num) (b2.mono hI) :))) (sp 1 [(49,.bool (cmp .geq (JK (fun x:Slip=>decide (x.num=((L.slips.getD k AB).num))) (L.slips.take k)) 0))] (se (rc 49 rfl (fun h6=>?_) (fun h6=>?_)))))
  ·
   have b0:=h6;have h6:=geq_t h6;refine rqr (sp 1 [(2,vI 4)] (se (BD (RB (RP (RP (RB (RP (DL 2 [] rfl (TC _ (TR _)) hJ0 ?_)))))))));exact ⟨congrArg (Value.int .i64) (linErr_r4 h1 h2 (by omega) (PI hz (by omega) (slipAt_dup h5 (idxF_any.symm.trans b0)) (by decide))).symm,rfl⟩
  have b0:=h6;have h6:=geq_f h6;refine AM (NB (NX (rr (sp 1 [(26,vI ↑k)] (sd (da 27 ↑k 1) (sp 1 [(5,vI (↑k+1))] (ee ?_)))))));refine AO (L.slips.length-(k+1)) (by omega) ?_;intro a w hS hD hW;exact ⟨J0,k+1,hJ0,by omega,KT hz (slipAt_ok h5 (idxF_any.symm.trans b0)),hS.sub su,hD,hW,rfl⟩
 have b7:=h4;have h4:=CF h4;refine BR 0 (EP (EP (EB (NX (rqr (sp 1 [(2,vI 0)] (se (BD (DL 2 [] rfl (TC _ (TR _)) hJ0 ?_)))))))));exact ⟨congrArg (Value.int .i64) (linErr_r4 h1 h2 (by omega) ((show k=L.slips.length by omega)▸hz)).symm,rfl⟩
noncomputable def c_CloneKeep:=cod Tryz.f142
theorem CloneKeep_ct (I:Imm) (z:Value) (xs:List Keep) (z_f:EV I z xs) (hl:xs.length≤1000000):Ct Tryz.prog 142 #[z] I ([]) (fun v I' M'=>∃ u:Value,∃ Ms:Seg,v=u∧M'=Ms∧Own 50 3 FR u xs Ms):=by
 obtain ⟨a2,a3,b3,b6,rfl,b4,b5,b0⟩:=id z_f;refine fr (args:=[_]) (N:=8) Tryz.func142 (fun F=>?_);show Run _ _ (c_CloneKeep []) _ _ [(0,_)] _ _;refine rnm (rqr ?_);refine sp 1 [(2,vN)] (se (rq (rqr (sp 1 [(3,vS a2 xs.length a3)] (sd (det_eqnil (e:=50) (x:=(.tmp 3)) (y:=(.const vN)) (T:=23) (T':=23) (d:=4) (ty:=4) (gd:=none) (by kernel_rfl) rfl (by kernel_rfl) rfl rfl) (se (rc 4 rfl (fun h1=>?_) (fun h1=>?_))))))))
 ·
  have a0:=h1;refine rqr (sp 1 [(2,vN)] (se (BD (RP ?_))));obtain rfl:=b0.nil h1;refine PB (t:=2) ([]) (by kernel_rfl) rfl (TR _) (IR _) ?_;exact ⟨_,_,rfl,rfl,Own.nil _ _ _⟩
 have a0:=h1;refine AM (NX (rqr (sS (sbs 5 50 0 #[] (fun b1=>(sp 1 [(6,vS a2 xs.length a3)] ?_))))));have a5:Own 50 3 FR (vS (some ⟨b1,0,none⟩) 0 0) ([]:List Keep) [(bX b1 #[] 50)]:=Own.lit rfl rfl;refine sS (sap (d:=7) 5 6 23 50 3 24 (.agg #[vI 0,vI 0,vI 0]) FR ([]:List Keep) xs [(bX b1 #[] 50)] rfl rfl a5 (PR _) (JR _) z_f.src (fun v4 a4 a1=>?_));rw [NA] at a1;refine nm ?_;obtain ⟨a6,a7,rfl,b2⟩:=a1.shape;refine sp 1 [(2,vS a6 xs.length a7)] (se (BD (DL 2 a4 rfl (TA (TR _) _) (IR _) ?_)));exact ⟨_,_,rfl,rfl,a1⟩
noncomputable def c_copied:=cod Tryz.f93
theorem copied_ct (I:Imm) (l:Value) (L:Lin) (l_f:IsLin I l L) (hg:GoodL L):Ct Tryz.prog 93 #[l] I ([]) (fun v I' M'=>∃ u1:Value,∃ u2:Value,∃ u3:Value,∃ Ms:Seg,v=.agg #[vI (L).places,vI (L).sorts,u1,u2,u3]∧M'=Ms∧IsRows I' u1 (L).start∧EV I' u2 (L).keeps∧Own 28 8 AX u3 (L).slips Ms):=by
 obtain ⟨l1,l2,l3,rfl,k1,c1,b6⟩:=id l_f;obtain ⟨c7,c8,l6,l9,k6,rfl,l7,l8,d5,e1⟩:=id k1;obtain ⟨a8,a9,m0,m3,rfl,m1,m2,m4⟩:=id c1;obtain ⟨a5,a6,m5,m8,rfl,m6,m7,m9⟩:=id b6;refine fr (args:=[_]) (N:=32) Tryz.func93 (fun F=>?_);show Run _ _ (c_copied []) _ _ [(0,_)] _ _;refine rnm ?_;have o7:=hg.places;have o8:=hg.start;have o9:=hg.keeps;have p0:=hg.slips;refine rqr (sS (sb 1 26 (AH L (vS c7 L.start.length c8) (vS a8 L.keeps.length a9) (vS a5 L.slips.length a6)) (fun b1=>(sS (sal 2 26 AJ (fun b3=>(sn (sp 1 [(6,vP b1 2)] (sd (dlb 7 1 2 b1 (vS c7 L.start.length c8)) (sp 1 [(3,vS c7 L.start.length c8)] (sn (sp 1 [(8,vP b1 2)] (sS (ss 1 2 b1 [vN] (BQ L vN (vS a8 L.keeps.length a9) (vS a5 L.slips.length a6)) (_::_::_) (cs:=[_,_,_,_,_]) rfl rfl (se (rq (rqr (sp 3 [(11,vI 0),(10,vI (↑(L.start.length))),(9,vS c7 L.start.length c8)] (se (rb 0 ?_))))))))))))))))))));refine rl (fun mz a w=>∃ J0:Imm,∃ k:Nat,∃ c0:Value,∃ a4:Seg,∃ a0:List Value,(I.le J0)∧(k≤L.start.length)∧(RowsV J0 a0 (L.start.take k))∧(Own 29 1 CX c0 a0 a4)∧SD 32 [(11,vI ↑k),(1,vP b1 0),(2,vP b3 0),(9,vS c7 L.start.length c8),(10,vI (↑(L.start.length)))] J0 ((bX b3 AJ 26)::(bX b1 (AH L c0 (vS a8 L.keeps.length a9) (vS a5 L.slips.length a6)) 26)::(a4++F)) a w (mz=L.start.length-k)) ?_ ?_
 ·intro a w hS hD hW;exact ⟨_,I,0,(vN),[],[],IR _,Nat.zero_le _,(RowsV.nil _),(Own.nil _ _ _),hS.sub su,hD,hW,rfl⟩
 rintro mz a w ⟨J0,k,c0,a4,a0,hJ0,hk,a3,b9,hS,hD,hW,rfl⟩
 refine AU hS hD hW ?_;replace d5:=d5.mono hJ0;replace e1:=fun i hi=>(e1 i hi).mono hJ0
 replace c1:=c1.mono hJ0;replace b6:=b6.mono hJ0;obtain ⟨a1,a2,rfl,e4⟩:=b9.shape;have c3:=a3.1
 try simp only [LS,LA,LC,LN,LK] at c3
 refine rqr (sp 1 [(12,.bool (cmp .lss ↑k (↑(L.start.length))))] (se (rq (rc 12 rfl (fun h1=>?_) (fun h1=>?_)))))
 ·
  have j7:=h1;have h1:=BX h1;refine AM (NX (rq (rb 1 (rqr (sd (di 13 1 k d5.addr) ?_)))));have e5:=e1 k (by omega);obtain ⟨f8,f9,n2,n5,g0,n3,n4,n6⟩:=id e5;rw [g0] at e5;refine sd (DE (dl 14 (DY d5 k (by omega))) g0) (sp 1 [(5,vS f8 (L.start.getD k []).length f9)] (se ?_));refine rd 5 [(0,true),(1,true),(2,true),(3,false),(4,false)] ((bX b3 AJ 26)::(bX b1 (AH L (vS a1 a0.length a2) (vS a8 L.keeps.length a9) (vS a5 L.slips.length a6)) 26)::[]) (a4++F) (ox 1 [(15,vP b1 2)] ?_);refine AD (dlb 16 1 2 b1 (vS a1 a0.length a2)) (ox 1 [(17,vS f8 (L.start.getD k []).length f9)] ?_);refine OX (sc (some 18) (F:=((bX b3 AJ 26)::(bX b1 (AH L (vS a1 a0.length a2) (vS a8 L.keeps.length a9) (vS a5 L.slips.length a6)) 26)::(a4++F))) (QU _ _ _ e5 (by have hq:=hg.rows _ (BJ (xs:=L.start) (d:=[]) (k:=k) (by omega));have p1:=hg.sorts;omega) :) (PR _) (fun o0 I6 n7 d4 l5=>?_));obtain ⟨p2,g5,k5,e8,f5⟩:=l5;rw [k5,e8];clear k5 e8;replace c1:=c1.mono d4;replace b6:=b6.mono d4;replace a3:=a3.mono d4;obtain ⟨b7,b8,rfl,k7⟩:=f5.shape;refine NK (M':=(g5++(bX b3 AJ 26)::(bX b1 (AH L (vS a1 a0.length a2) (vS a8 L.keeps.length a9) (vS a5 L.slips.length a6)) 26)::(a4++F))) (fun w h=>by simpa only [AA,CA,NA] using h) ?_;refine GD (B:=((bX b3 AJ 26)::(bX b1 (AH L (vS a1 a0.length a2) (vS a8 L.keeps.length a9) (vS a5 L.slips.length a6)) 26)::(a4++F))) 0 f5 (by first | omega | (simp only [LS,LC,LN,LA,LK,LD] <;> omega) | decide) (PR _) (PR _) (fun l0 c5 c9=>?_);replace c1:=c1.mono c5;replace b6:=b6.mono c5;replace a3:=a3.mono c5;obtain ⟨h6,h8,h7,i1,d8,h9,i0,i2⟩:=id c9;cases d8;refine JZ ?_;refine CG (S':=(a4++F)) (PR _) ?_;show OFP _ _ _ _ _ _ ((18,vS b7 (L.start.getD k []).length b8)::_) _ _;refine GA (sbs 19 29 1 #[vS b7 (L.start.getD k []).length b8] (fun l4=>?_));refine CG (S':=((bX l4 #[vS b7 (L.start.getD k []).length b8] 29)::(a4++F))) ((PS _ _ _).trans (PC _ (PS _ _ _))) ?_;refine GX (nm (nm ?_));refine sS (HO (d:=20) (x:=(.tmp 16)) (y:=(.tmp 19)) (T:=22) (T':=22) (E:=29) (E':=29) (sz:=1) (bs:=24) (z:=vN) (cell:=CX) (xs:=a0) (ys:=[(vS b7 (L.start.getD k []).length b8:Value)]) (Ms:=a4) (ty:=22) (gd:=none) (by kernel_rfl) rfl (by kernel_rfl) (by kernel_rfl) (by kernel_rfl) (by kernel_rfl) (by kernel_rfl) (by decide) (by kernel_rfl) rfl rfl b9 (PU (PU PM.symm)) (HM rfl) (DI 2 rfl rfl) (by first | omega | (have hq:=a3.1;simp only [LC,LN,LA,LK,LD] at hq ⊢;omega)) (fun p5 e6 f1=>(AZ (M':=((bX b3 AJ 26)::(bX b1 (AH L (vS a1 a0.length a2) (vS a8 L.keeps.length a9) (vS a5 L.slips.length a6)) 26)::(e6++F))) (fun w h=>(h.perm (((PA _ ((PC _ (PS _ _ _)).trans (PS _ _ _))).trans PM).trans (PC _ (PW PM)))).sub (TC _ (TR _))) ?_)));obtain ⟨e2,e3,rfl,n1⟩:=f1.shape;have f4:=(a3).snoc c9;refine sp 1 [(21,vP b1 2)] (sS (ss 1 2 b1 [vS e2 (a0++([(vS b7 (L.start.getD k []).length b8:Value)])).length e3] (BQ L (vS e2 (a0++([(vS b7 (L.start.getD k []).length b8:Value)])).length e3) (vS a8 L.keeps.length a9) (vS a5 L.slips.length a6)) (_::_::_) (cs:=[_,_,_,_,_]) rfl rfl (ee (NB (NX (rr (sd (da 22 ↑k 1) (sp 1 [(11,vI (↑k+1))] (ee ?_)))))))));refine AO (L.start.length-(k+1)) (by omega) ?_;intro a w hS hD hW;exact ⟨l0,k+1,vS e2 (a0++([(vS b7 (L.start.getD k []).length b8:Value)])).length e3,e6,a0++([(vS b7 (L.start.getD k []).length b8:Value)]),(IT (IT hJ0 d4) c5),by omega,((CH (d:=[]) (xs:=L.start) (k:=k) (by omega)).symm▸f4),f1,hS.sub su,hD,hW,rfl⟩
 have j7:=h1;have h1:=CF h1;refine BR 0 (EP (EP (EB (NX (rq ?_)))));refine CN (B:=((bX b3 AJ 26)::(bX b1 (AH L (vS a1 a0.length a2) (vS a8 L.keeps.length a9) (vS a5 L.slips.length a6)) 26)::F)) undef b9 (by first | omega | (simp only [LS,LC,LN,LA,LK,LD] <;> omega) | decide) (PU PM.symm) (PR _) (fun o3 c6 d0=>?_);replace c1:=c1.mono c6;replace b6:=b6.mono c6;replace a3:=a3.mono c6;obtain ⟨i3,i5,i4,i8,d9,i6,i7,i9⟩:=id d0;cases d9;have a7:=a3.isRows d0;have e7:=a3.1;obtain ⟨g7,g9,g8,h3,g4,d7,h0,h2,h4,h5⟩:=id a7
 injection d7 with fr26_e1 fr26_e2 fr26_e3;subst fr26_e1;subst fr26_e3
 refine rd 7 [(0,true),(1,true),(3,true),(4,true),(2,false),(6,true),(5,false)] ((bX b3 AJ 26)::(bX b1 (AH L (vS a1 a0.length a2) (vS a8 L.keeps.length a9) (vS a5 L.slips.length a6)) 26)::[]) F (ox 1 [(23,vP b1 3)] ?_);refine AD (dlb 24 1 3 b1 (vS a8 L.keeps.length a9)) (ox 1 [(26,vP b1 4)] ?_);refine AD (dlb 27 1 4 b1 (vS a5 L.slips.length a6)) ?_;refine OX (sc (some 25) (F:=((bX b3 AJ 26)::(bX b1 (AH L (vS a1 a0.length a2) (vS a8 L.keeps.length a9) (vS a5 L.slips.length a6)) 26)::F)) (CloneKeep_ct _ _ _ c1 (by omega) :) (PR _) (fun o1 o4 n8 d1 j8=>?_));obtain ⟨p3,g6,f2,e9,f6⟩:=j8;rw [f2,e9];clear f2 e9;replace b6:=b6.mono d1;replace a7:=a7.mono d1;obtain ⟨b0,b2,rfl,k8⟩:=f6.shape;refine NK (M':=(g6++(bX b3 AJ 26)::(bX b1 (AH L (vS a1 a0.length a2) (vS a8 L.keeps.length a9) (vS a5 L.slips.length a6)) 26)::F)) (fun w h=>by simpa only [AA,CA,NA] using h) ?_;refine GD (B:=((bX b3 AJ 26)::(bX b1 (AH L (vS a1 a0.length a2) (vS a8 L.keeps.length a9) (vS a5 L.slips.length a6)) 26)::F)) AN f6 (by first | omega | (simp only [LS,LC,LN,LA,LK,LD] <;> omega) | decide) (PR _) (PR _) (fun o5 d2 c2=>?_);replace b6:=b6.mono d2;replace a7:=a7.mono d2;obtain ⟨j0,j2,j1,j5,e0,j3,j4,j6⟩:=id c2;cases e0;refine JZ ?_;refine CG (S':=(F)) (PR _) ?_;show OFP _ _ _ _ _ _ ((25,vS b0 L.keeps.length b2)::_) _ _;refine ox 1 [(29,vP b1 3)] ?_;refine GA (sc (some 28) (F:=((bX b3 AJ 26)::(bX b1 (AH L (vS a1 a0.length a2) (vS a8 L.keeps.length a9) (vS a5 L.slips.length a6)) 26)::F)) (JF _ _ _ b6 (by omega) :) (PR _) (fun o2 o6 n9 d3 j9=>?_));obtain ⟨p4,d6,f3,f0,f7⟩:=j9;rw [f3,f0];clear f3 f0;replace a7:=a7.mono d3;replace c2:=c2.mono d3;obtain ⟨b4,b5,rfl,k9⟩:=f7.shape;refine CG (S':=(d6++F)) (PW PM) ?_;show OFP _ _ _ _ _ _ ((28,vS b4 L.slips.length b5)::_) _ _;refine GX (nm (nm ?_));refine sS (ss 1 3 b1 [vS b0 L.keeps.length b2] (BQ L (vS a1 a0.length a2) (vS b0 L.keeps.length b2) (vS a5 L.slips.length a6)) (_::_::_) (cs:=[_,_,_,_,_]) rfl rfl (sp 1 [(30,vP b1 4)] (sS (ss 1 4 b1 [vS b4 L.slips.length b5] (BQ L (vS a1 a0.length a2) (vS b0 L.keeps.length b2) (vS b4 L.slips.length b5)) (_::_::_) (cs:=[_,_,_,_,_]) rfl rfl (sn (sd (dnb 31 1 0 b1 (BQ L (vS a1 a0.length a2) (vS b0 L.keeps.length b2) (vS b4 L.slips.length b5))) (sS (ss 0 0 b3 (BQ L (vS a1 a0.length a2) (vS b0 L.keeps.length b2) (vS b4 L.slips.length b5)) (BQ L (vS a1 a0.length a2) (vS b0 L.keeps.length b2) (vS b4 L.slips.length b5)) (_::_::_) (cs:=[_,_,_,_,_]) rfl rfl (se (BD (ppm (M':=(d6++(bX b3 (AH L (vS a1 a0.length a2) (vS b0 L.keeps.length b2) (vS b4 L.slips.length b5)) 26)::(bX b1 (AH L (vS a1 a0.length a2) (vS b0 L.keeps.length b2) (vS b4 L.slips.length b5)) 26)::F)) (PU PM.symm) (ES (t:=2) (T:=26) (n:=5) d6 (by kernel_rfl) rfl (by kernel_rfl) rfl (BN (n:=5) (cs:=(AH L (vS a1 a0.length a2) (vS b0 L.keeps.length b2) (vS b4 L.slips.length b5))) (b:=b3) (off:=0) (T:=26) (fz:=(0,0)) (vs:=(BQ L (vS a1 a0.length a2) (vS b0 L.keeps.length b2) (vS b4 L.slips.length b5))) (by simp) rfl) (.inl ⟨by kernel_rfl,rfl⟩) (TA (TC _ (TC _ (TR _))) _) (IT (IT (IT (IT hJ0 c6) d1) d2) d3) ?_))))))))))));exact ⟨_,_,_,_,rfl,rfl,((IE (xs:=L.start) (k:=k) (by omega))▸a7),c2,f7⟩
noncomputable def c_rcopied:=cod Tryz.f108
theorem rcopied_ct (I:Imm) (l:Value) (L:Lin) (l_f:IsLin I l L) (hg:GoodL L):Ct Tryz.prog 108 #[l] I ([]) (fun v I' M'=>∃ u1:Value,∃ u2:Value,∃ u3:Value,∃ Ms:Seg,v=.agg #[vI (L).places,vI (L).sorts,u1,u2,u3]∧M'=Ms∧IsRows I' u1 (L).start∧EV I' u2 (L).keeps∧Own 28 8 AX u3 (L).slips Ms):=by
 obtain ⟨l1,l2,l3,rfl,j1,c1,b5⟩:=id l_f;obtain ⟨c5,c6,k4,k7,j7,rfl,k5,k6,d2,e1⟩:=id j1;obtain ⟨a7,a8,k8,l4,rfl,k9,l0,l5⟩:=id c1;obtain ⟨a5,a6,l6,l9,rfl,l7,l8,m0⟩:=id b5;refine fr (args:=[_]) (N:=36) Tryz.func108 (fun F=>?_);show Run _ _ (c_rcopied []) _ _ [(0,_)] _ _;refine rnm ?_;have n5:=hg.places;have n6:=hg.start;have n7:=hg.keeps;have n8:=hg.slips;refine rqr (sS (sb 1 26 (AH L (vS c5 L.start.length c6) (vS a7 L.keeps.length a8) (vS a5 L.slips.length a6)) (fun b1=>(sS (sal 2 26 AJ (fun b3=>(sn (sp 1 [(5,vP b1 2)] (sd (dlb 6 1 2 b1 (vS c5 L.start.length c6)) (sp 1 [(3,vS c5 L.start.length c6)] (sn (sp 1 [(7,vP b1 2)] (sS (ss 1 2 b1 [vN] (BQ L vN (vS a7 L.keeps.length a8) (vS a5 L.slips.length a6)) (_::_::_) (cs:=[_,_,_,_,_]) rfl rfl (se (rq (rqr (sp 1 [(4,vI 0)] (se (rb 0 ?_))))))))))))))))))));refine rl (fun mz a w=>∃ J0:Imm,∃ k:Nat,∃ b4:Value,∃ a3:Seg,∃ a2:List Value,(I.le J0)∧(k≤L.start.length)∧(RowsV J0 a2 (L.start.take k))∧(Own 29 1 CX b4 a2 a3)∧SD 36 [(4,vI ↑k),(1,vP b1 0),(2,vP b3 0),(3,vS c5 L.start.length c6)] J0 ((bX b3 AJ 26)::(bX b1 (AH L b4 (vS a7 L.keeps.length a8) (vS a5 L.slips.length a6)) 26)::(a3++F)) a w (mz=L.start.length-k)) ?_ ?_
 ·intro a w hS hD hW;exact ⟨_,I,0,(vN),[],[],IR _,Nat.zero_le _,(RowsV.nil _),(Own.nil _ _ _),hS.sub su,hD,hW,rfl⟩
 rintro mz a w ⟨J0,k,b4,a3,a2,hJ0,hk,a4,b2,hS,hD,hW,rfl⟩
 refine AU hS hD hW ?_;replace d2:=d2.mono hJ0;replace e1:=fun i hi=>(e1 i hi).mono hJ0
 replace c1:=c1.mono hJ0;replace b5:=b5.mono hJ0;obtain ⟨a0,a1,rfl,e4⟩:=b2.shape;have c0:=a4.1
 try simp only [LS,LA,LC,LN,LK] at c0
 have k2:k<L.start.length→(L.start.getD k []).length≤2:=fun hq=>by have h1:=hg.rows _ (BJ (xs:=L.start) (d:=[]) hq);have h2:=hg.sorts;omega
 refine rq (rqr (sp 4 [(11,.bool (cmp .lss ↑k (↑(L.start.length))))] (se (rc 11 rfl (fun h1=>?_) (fun h1=>?_)))))
 ·
  have i6:=h1;have h1:=BX h1;refine AM (NX (rq (rb 1 ?_)));have k3:=k2 (by omega);refine rd 9 [(0,true),(1,true),(3,true),(4,true),(5,true),(6,true),(2,false),(7,false),(8,false)] ((bX b3 AJ 26)::(bX b1 (AH L (vS a0 a2.length a1) (vS a7 L.keeps.length a8) (vS a5 L.slips.length a6)) 26)::[]) (a3++F) (ox 1 [(14,vP b1 2)] ?_);refine AD (dlb 15 1 2 b1 (vS a0 a2.length a1)) (ox 2 [(18,vI ↑k),(17,vS c5 L.start.length c6)] ?_);refine AD (di 19 1 k d2.addr) ?_;have e5:=e1 k (by omega);obtain ⟨m6,m8,m7,n1,f1,m9,n0,n2⟩:=id e5;rw [f1] at e5;refine AD (DE (dl 20 (DY d2 k (by omega))) f1) ?_;refine GA (sbs 16 3 0 #[] (fun b6=>?_));refine CG (S':=((bX b6 #[] 3)::(a3++F))) ((PS _ _ _).trans (PC _ (PS _ _ _))) ?_;have k1:Own 3 1 AQ (vS (some ⟨b6,0,none⟩) 0 0) ([]:List Int) [(bX b6 #[] 3)]:=Own.lit rfl rfl;refine OX (sap (d:=21) 16 20 29 3 1 8 (vI 0) AQ ([]:List Int) (L.start.getD k []) [(bX b6 #[] 3)] rfl rfl k1 (show List.Perm ((bX b3 AJ 26)::(bX b1 (AH L (vS a0 a2.length a1) (vS a7 L.keeps.length a8) (vS a5 L.slips.length a6)) 26)::(bX b6 #[] 3)::(a3++F)) ((bX b6 #[] 3)::(bX b3 AJ 26)::(bX b1 (AH L (vS a0 a2.length a1) (vS a7 L.keeps.length a8) (vS a5 L.slips.length a6)) 26)::(a3++F)) from ((PC _ (PS _ _ _)).trans (PS _ _ _))) (EK _) e5.src (fun v9 j9 i9=>?_));rw [NA] at i9;obtain ⟨d3,d4,rfl,n9⟩:=i9.shape;refine NK (M':=(j9++(bX b3 AJ 26)::(bX b1 (AH L (vS a0 a2.length a1) (vS a7 L.keeps.length a8) (vS a5 L.slips.length a6)) 26)::(a3++F))) (fun w h=>h) ?_;refine GD (B:=((bX b3 AJ 26)::(bX b1 (AH L (vS a0 a2.length a1) (vS a7 L.keeps.length a8) (vS a5 L.slips.length a6)) 26)::(a3++F))) 0 i9 (by first | omega | (simp only [LS,LC,LN,LA,LK,LD] <;> omega) | decide) (PR _) (PR _) (fun j8 c3 c7=>?_);replace c1:=c1.mono c3;replace b5:=b5.mono c3;replace a4:=a4.mono c3;obtain ⟨g3,g5,g4,g8,d6,g6,g7,g9⟩:=id c7;cases d6;refine JZ ?_;refine CG (S':=(a3++F)) (PR _) ?_;show OFP _ _ _ _ _ _ ((21,vS d3 (L.start.getD k []).length d4)::_) _ _;refine GA (sbs 22 29 1 #[vS d3 (L.start.getD k []).length d4] (fun k0=>?_));refine CG (S':=((bX k0 #[vS d3 (L.start.getD k []).length d4] 29)::(a3++F))) ((PS _ _ _).trans (PC _ (PS _ _ _))) ?_;refine GX (nm (nm ?_));refine sS (HO (d:=23) (x:=(.tmp 15)) (y:=(.tmp 22)) (T:=22) (T':=22) (E:=29) (E':=29) (sz:=1) (bs:=24) (z:=vN) (cell:=CX) (xs:=a2) (ys:=[(vS d3 (L.start.getD k []).length d4:Value)]) (Ms:=a3) (ty:=22) (gd:=none) (by kernel_rfl) rfl (by kernel_rfl) (by kernel_rfl) (by kernel_rfl) (by kernel_rfl) (by kernel_rfl) (by decide) (by kernel_rfl) rfl rfl b2 (PU (PU PM.symm)) (HM rfl) (DI 2 rfl rfl) (by first | omega | (have hq:=a4.1;simp only [LC,LN,LA,LK,LD] at hq ⊢;omega)) (fun o0 e6 e9=>(AZ (M':=((bX b3 AJ 26)::(bX b1 (AH L (vS a0 a2.length a1) (vS a7 L.keeps.length a8) (vS a5 L.slips.length a6)) 26)::(e6++F))) (fun w h=>(h.perm (((PA _ ((PC _ (PS _ _ _)).trans (PS _ _ _))).trans PM).trans (PC _ (PW PM)))).sub (TC _ (TR _))) ?_)));obtain ⟨e2,e3,rfl,m3⟩:=e9.shape;have f0:=(a4).snoc c7;refine sp 1 [(24,vP b1 2)] (sS (ss 1 2 b1 [vS e2 (a2++([(vS d3 (L.start.getD k []).length d4:Value)])).length e3] (BQ L (vS e2 (a2++([(vS d3 (L.start.getD k []).length d4:Value)])).length e3) (vS a7 L.keeps.length a8) (vS a5 L.slips.length a6)) (_::_::_) (cs:=[_,_,_,_,_]) rfl rfl (ee (NB (NX (rr (sp 1 [(12,vI ↑k)] (sd (da 13 ↑k 1) (sp 1 [(4,vI (↑k+1))] (ee ?_))))))))));refine AO (L.start.length-(k+1)) (by omega) ?_;intro a w hS hD hW;exact ⟨j8,k+1,vS e2 (a2++([(vS d3 (L.start.getD k []).length d4:Value)])).length e3,e6,a2++([(vS d3 (L.start.getD k []).length d4:Value)]),(IT hJ0 c3),by omega,((CH (d:=[]) (xs:=L.start) (k:=k) (by omega)).symm▸f0),e9,hS.sub su,hD,hW,rfl⟩
 have i6:=h1;have h1:=CF h1;refine BR 0 (EP (EP (EB (NX (rq ?_)))));refine CN (B:=((bX b3 AJ 26)::(bX b1 (AH L (vS a0 a2.length a1) (vS a7 L.keeps.length a8) (vS a5 L.slips.length a6)) 26)::F)) undef b2 (by first | omega | (simp only [LS,LC,LN,LA,LK,LD] <;> omega) | decide) (PU PM.symm) (PR _) (fun n3 c4 c8=>?_);replace c1:=c1.mono c4;replace b5:=b5.mono c4;replace a4:=a4.mono c4;obtain ⟨h0,h4,h3,h7,d7,h5,h6,h8⟩:=id c8;cases d7;have b9:=a4.isRows c8;have e8:=a4.1;obtain ⟨f5,f7,f6,g0,f3,d5,f8,f9,g1,g2⟩:=id b9
 injection d5 with fr20_e1 fr20_e2 fr20_e3;subst fr20_e1;subst fr20_e3
 refine rdX (M:=((bX b3 AJ 26)::(bX b1 (AH L (vS a0 a2.length a1) (vS a7 L.keeps.length a8) (vS a5 L.slips.length a6)) 26)::[])) (F0:=F) [(4,29,.sl 28)] 9 [(1,true),(2,true),(5,true),(6,true),(0,false),(3,false),(8,true),(4,false),(7,false)] (by simp only [AA,CA,NA,List.append_nil];exact PR _) (FO (alOk_of (ops:=EC (c_rcopied [1,1,1,1,0])) (i:=4) (d:=29) (by kernel_rfl) (by kernel_rfl) (by kernel_rfl)) FV) ?_;refine AY (dpv 26 (vP b1 3)) ?_;refine ED (Rx:=((bX b1 (AH L (vS a0 a2.length a1) (vS a7 L.keeps.length a8) (vS a5 L.slips.length a6)) 26)::[])) (PS _ _ _) (dlb 27 0 3 b1 (vS a7 L.keeps.length a8)) ?_;refine AY (dpv 30 (vP b1 4)) ?_;refine ED (Rx:=((bX b1 (AH L (vS a0 a2.length a1) (vS a7 L.keeps.length a8) (vS a5 L.slips.length a6)) 26)::[])) (PS _ _ _) (dlb 31 0 4 b1 (vS a5 L.slips.length a6)) ?_;refine CI (Mx:=fun FX=>((bX b3 AJ 26)::(bX b1 (AH L (vS a0 a2.length a1) (vS a7 L.keeps.length a8) (vS a5 L.slips.length a6)) 26)::FX)) rfl (fun FX=>by simp only [AA,CA,NA,List.append_nil];exact PR _) (fun FX=>?_);refine id (sbs 25 50 0 #[] (fun e7=>?_));refine DV (M1:=((bX e7 #[] 50)::(bX b3 AJ 26)::(bX b1 (AH L (vS a0 a2.length a1) (vS a7 L.keeps.length a8) (vS a5 L.slips.length a6)) 26)::[])) (by exact (PR _)) (.part ((PC _ (PS _ _ _)).trans (PS _ _ _)) (.none (.part ((PC _ (PS _ _ _)).trans (PS _ _ _)) (.none .nil)))) ?_;refine CI (Mx:=fun FX=>((bX e7 #[] 50)::(bX b3 AJ 26)::(bX b1 (AH L (vS a0 a2.length a1) (vS a7 L.keeps.length a8) (vS a5 L.slips.length a6)) 26)::FX)) rfl (fun FX=>by simp only [AA,CA,NA,List.append_nil];exact PR _) (fun FX=>?_);have i7:Own 50 3 FR (vS (some ⟨e7,0,none⟩) 0 0) ([]:List Keep) [(bX e7 #[] 50)]:=Own.lit rfl rfl;refine stp_hk (sap (d:=28) 25 27 23 50 3 24 (.agg #[vI 0,vI 0,vI 0]) FR ([]:List Keep) L.keeps [(bX e7 #[] 50)] rfl rfl i7 (PR _) (JR _) c1.src (fun o1 f4 d9=>?_));rw [NA] at d9;obtain ⟨a9,b0,rfl,m4⟩:=d9.shape;refine NK (M':=(f4++(bX b3 AJ 26)::(bX b1 (AH L (vS a0 a2.length a1) (vS a7 L.keeps.length a8) (vS a5 L.slips.length a6)) 26)::FX)) (fun w h=>h) ?_;refine GD (B:=((bX b3 AJ 26)::(bX b1 (AH L (vS a0 a2.length a1) (vS a7 L.keeps.length a8) (vS a5 L.slips.length a6)) 26)::FX)) AN d9 (by first | omega | (simp only [LS,LC,LN,LA,LK,LD] <;> omega) | decide) (PR _) (PR _) (fun n4 d0 c9=>?_);replace b5:=b5.mono d0;replace b9:=b9.mono d0;obtain ⟨h9,i1,i0,i4,d8,i2,i3,i5⟩:=id c9;cases d8;refine JZ ?_;refine DV (M1:=((bX b3 AJ 26)::(bX b1 (AH L (vS a0 a2.length a1) (vS a7 L.keeps.length a8) (vS a5 L.slips.length a6)) 26)::[])) (by exact (PR _)) (.part (PS _ _ _) (.none (.wt (.wt .nil)))) ?_;show OFPX _ _ _ _ _ _ _ _ _ _ ((28,vS a9 L.keeps.length b0)::_) _ _;refine AY (dpv 33 (vP b1 3)) ?_;refine ofx_al rfl (fun f2=>?_);refine CI (Mx:=fun FX=>((bX f2 #[] 28)::(bX b3 AJ 26)::(bX b1 (AH L (vS a0 a2.length a1) (vS a7 L.keeps.length a8) (vS a5 L.slips.length a6)) 26)::FX)) rfl (fun FX=>by simp only [AA,CA,NA,List.append_nil];exact PR _) (fun FX=>?_);have i8:Own 28 8 AX (vS (some ⟨f2,0,none⟩) 0 0) ([]:List Slip) [(bX f2 #[] 28)]:=Own.lit rfl rfl;refine id (sap (d:=32) 29 31 24 28 8 64 (.agg IQ) AX ([]:List Slip) L.slips [(bX f2 #[] 28)] rfl rfl i8 (PR _) (CD _) b5.src (fun o2 d1 e0=>?_));rw [NA] at e0;refine DV (M1:=((bX b3 AJ 26)::(bX b1 (AH L (vS a0 a2.length a1) (vS a7 L.keeps.length a8) (vS a5 L.slips.length a6)) 26)::(d1++[]))) (by simp only [AA,CA,NA,List.append_nil];exact (PW PM)) (.none (.wt (.wt (.wt (.wt .nil))))) ?_;obtain ⟨b7,b8,rfl,m5⟩:=e0.shape;show OFPX _ _ _ _ _ _ _ _ _ _ ((32,vS b7 L.slips.length b8)::_) _ _;refine ER (AZ (M':=((bX b3 AJ 26)::(bX b1 (AH L (vS a0 a2.length a1) (vS a7 L.keeps.length a8) (vS a5 L.slips.length a6)) 26)::(d1++F))) (fun w h=>by simpa only [AA,CA,NA,List.append_nil] using h) (nm ?_));refine sS (ss 1 3 b1 [vS a9 L.keeps.length b0] (BQ L (vS a0 a2.length a1) (vS a9 L.keeps.length b0) (vS a5 L.slips.length a6)) (_::_::_) (cs:=[_,_,_,_,_]) rfl rfl (sp 1 [(34,vP b1 4)] (sS (ss 1 4 b1 [vS b7 L.slips.length b8] (BQ L (vS a0 a2.length a1) (vS a9 L.keeps.length b0) (vS b7 L.slips.length b8)) (_::_::_) (cs:=[_,_,_,_,_]) rfl rfl (sn (sd (dnb 35 1 0 b1 (BQ L (vS a0 a2.length a1) (vS a9 L.keeps.length b0) (vS b7 L.slips.length b8))) (sS (ss 0 0 b3 (BQ L (vS a0 a2.length a1) (vS a9 L.keeps.length b0) (vS b7 L.slips.length b8)) (BQ L (vS a0 a2.length a1) (vS a9 L.keeps.length b0) (vS b7 L.slips.length b8)) (_::_::_) (cs:=[_,_,_,_,_]) rfl rfl (se (BD (ppm (M':=(d1++(bX b3 (AH L (vS a0 a2.length a1) (vS a9 L.keeps.length b0) (vS b7 L.slips.length b8)) 26)::(bX b1 (AH L (vS a0 a2.length a1) (vS a9 L.keeps.length b0) (vS b7 L.slips.length b8)) 26)::F)) (PU PM.symm) (ES (t:=2) (T:=26) (n:=5) d1 (by kernel_rfl) rfl (by kernel_rfl) rfl (BN (n:=5) (cs:=(AH L (vS a0 a2.length a1) (vS a9 L.keeps.length b0) (vS b7 L.slips.length b8))) (b:=b3) (off:=0) (T:=26) (fz:=(0,0)) (vs:=(BQ L (vS a0 a2.length a1) (vS a9 L.keeps.length b0) (vS b7 L.slips.length b8))) (by simp) rfl) (.inl ⟨by kernel_rfl,rfl⟩) (TA (TC _ (TC _ (TR _))) _) (IT (IT hJ0 c4) d0) ?_))))))))))));exact ⟨_,_,_,_,rfl,rfl,((IE (xs:=L.start) (k:=k) (by omega))▸b9),c9,e0⟩
end Go.Proofs.YtgcemienebmdeaaGreat
namespace Go.Sh
open Go Go.Sl
def GS (A B:Lin):Int:=if AK A=0 then AK B else AK A
def GL (A B:Lin):Prop:=A.places=B.places∧A.sorts=B.sorts∧A.start=B.start∧A.keeps=B.keeps
instance (A B:Lin):Decidable (GL A B):=inferInstanceAs (Decidable (_∧_))
abbrev idxN (A:List Slip) (s:Slip):Int:=JK (fun x=>decide (x.num=s.num)) A
def NI (A:List Slip) (s:Slip):Bool:=decide (¬ idxN A s<0∧A.getD (idxN A s).toNat AB≠s)
def IM (A:List Slip) (s:Slip):Bool:=decide (idxN A s<0)
def mrgS (A B:List Slip):List Slip:=A++B.filter (IM A)
def mrgL (A B:Lin):Lin:=⟨A.places,A.sorts,A.start,A.keeps,mrgS A.slips B.slips⟩
def AR (A B:Lin):Lin × Int:=
  if GS A B≠0 then (LU,GS A B) else if ¬ GL A B then (LU,12) else if B.slips.any (NI A.slips)=true then (LU,4)
  else if 8<(mrgS A.slips B.slips).length then (LU,6) else (mrgL A B,0)
section
variable {A B:Lin} {k:Nat}
theorem two_0 (h:GS A B=0):AK A=0∧AK B=0:=by
  unfold GS at h
  split at h
  · exact ⟨by assumption,h⟩
  · omega
theorem mergeE_1 (h:GS A B≠0):AR A B=(LU,GS A B):=if_pos h
theorem mergeE_2 (h:GS A B=0) (h2:¬ GL A B):AR A B=(LU,12):=by unfold AR;rw [if_neg (fun x=>x h),if_pos h2]
theorem mergeE_3 (h:GS A B=0) (h2:GL A B) {ix:Int} (hix:ix=idxN A.slips (B.slips.getD k AB)) (hk:k<B.slips.length) (h3:¬ ix<0) (h4:A.slips.getD ix.toNat AB≠B.slips.getD k AB):AR A B=(LU,4):=by
  subst hix;unfold AR;rw [if_neg (fun x=>x h),if_neg (fun x=>x h2),if_pos];exact List.any_eq_true.2 ⟨_,BJ (d:=AB) hk,decide_eq_true ⟨h3,h4⟩⟩
theorem mergeE_4 (h:GS A B=0) (h2:GL A B) (hn:(B.slips.take k).any (NI A.slips)=false) (hk:B.slips.length≤k) (h3:8<(A.slips++(B.slips.take k).filter (IM A.slips)).length):AR A B=(LU,6):=by
  rw [List.take_of_length_le hk] at hn h3;unfold AR;rw [if_neg (fun x=>x h),if_neg (fun x=>x h2),if_neg (by rw [hn];decide),if_pos (show 8<(mrgS A.slips B.slips).length from h3)]
theorem mergeE_5 (h:GS A B=0) (h2:GL A B) (hn:(B.slips.take k).any (NI A.slips)=false) (hk:B.slips.length≤k) (h3:¬ 8<(A.slips++(B.slips.take k).filter (IM A.slips)).length):AR A B=(mrgL A B,0):=by
  rw [List.take_of_length_le hk] at hn h3;unfold AR;rw [if_neg (fun x=>x h),if_neg (fun x=>x h2),if_neg (by rw [hn];decide),if_neg (show ¬ 8<(mrgS A.slips B.slips).length from h3)]
theorem mrg_any (hn:(B.slips.take k).any (NI A.slips)=false) (hk:k<B.slips.length) (hc:NI A.slips (B.slips.getD k AB)=false):(B.slips.take (k+1)).any (NI A.slips)=false:=by
  rw [CH (d:=AB) hk,List.any_append,hn,List.any_cons,hc];rfl
theorem clash_lt {ix:Int} (hix:ix=idxN A.slips (B.slips.getD k AB)) (h:ix<0):NI A.slips (B.slips.getD k AB)=false:=by
  subst hix;exact decide_eq_false fun x=>x.1 h
theorem clash_eq {ix:Int} (hix:ix=idxN A.slips (B.slips.getD k AB)) (h:A.slips.getD ix.toNat AB=B.slips.getD k AB):NI A.slips (B.slips.getD k AB)=false:=by
  subst hix;exact decide_eq_false fun x=>x.2 h
theorem mrg_new {ix:Int} (hix:ix=idxN A.slips (B.slips.getD k AB)) (hk:k<B.slips.length) (h:ix<0):A.slips++(B.slips.take (k+1)).filter (IM A.slips)=A.slips++(B.slips.take k).filter (IM A.slips)++[B.slips.getD k AB]:=by
  subst hix;rw [CH (d:=AB) hk,List.filter_append,List.filter_cons_of_pos (by exact decide_eq_true h),List.filter_nil,List.append_assoc]
theorem mrg_old {ix:Int} (hix:ix=idxN A.slips (B.slips.getD k AB)) (hk:k<B.slips.length) (h:¬ ix<0):A.slips++(B.slips.take (k+1)).filter (IM A.slips)=A.slips++(B.slips.take k).filter (IM A.slips):=by
  subst hix;rw [CH (d:=AB) hk,List.filter_append,List.filter_cons_of_neg (by simpa [IM] using h),List.filter_nil,List.append_nil]
theorem idx_in {L:List Slip} {p:Slip→Bool} (h:¬ JK p L<0):0≤JK p L∧JK p L<L.length:=by
  obtain ⟨i,e,h1,_⟩:=idxF_spec (d:=AB) (show 0≤JK p L by omega);omega
theorem head_no (h:((!(cmp .eql A.places B.places))||((!(cmp .eql A.sorts B.sorts))||((!(decide (A.start=B.start)))||(!(decide (A.keeps=B.keeps))))))=true):¬ GL A B:=by
  rintro ⟨h1,h2,h3,h4⟩
  rw [h1,h2,h3,h4] at h;simp [KR] at h
theorem head_no2 (h:((!(cmp .eql A.places B.places))||((!(cmp .eql A.sorts B.sorts))||(!(cmp .eql (A.keeps.length:Int) B.keeps.length))))=true):¬ GL A B:=by
  rintro ⟨h1,h2,h3,h4⟩
  rw [h1,h2,h4] at h;simp [KR] at h
theorem alike_row {q:Nat} (hl:A.start.length=B.start.length) (ht:A.start.take k=B.start.take k) (hk:k<A.start.length) (hrl:(A.start.getD k []).length=(B.start.getD k []).length) (hti:(A.start.getD k []).take q=(B.start.getD k []).take q) (hq:(A.start.getD k []).length≤q):A.start.take (k+1)=B.start.take (k+1):=
  FF (d:=[]) hl ht hk (HC hrl hti hq)
theorem mergeE_1a (h:AK A≠0):AR A B=(LU,AK A):=by
  have e:GS A B=AK A:=if_neg h;rw [mergeE_1 (by rw [e];exact h),e]
theorem mergeE_1b (h:AK A=0) (h2:AK B≠0):AR A B=(LU,AK B):=by
  have e:GS A B=AK B:=if_pos h;rw [mergeE_1 (by rw [e];exact h2),e]
theorem clash_f {ix:Int} {x y:Slip} (h:(cmp .geq ix 0&&!decide (x=y))=false) (hn:¬ ix<0):x=y:=by
  have e:cmp .geq ix 0=true:=by simp [cmp];omega
  rw [e] at h
  simpa using h
theorem mrgL_k (hk:B.slips.length≤k):(⟨A.places,A.sorts,A.start,A.keeps,A.slips++(B.slips.take k).filter (IM A.slips)⟩:Lin)=mrgL A B:=by
  rw [List.take_of_length_le hk];rfl
theorem mrg_len (g:GoodL A) (g2:GoodL B):(A.slips++(B.slips.take k).filter (IM A.slips)).length≤16:=by
  have h1:=g.slips;have h2:=g2.slips;have h3:=List.length_filter_le (IM A.slips) (B.slips.take k);rw [List.length_take] at h3;rw [List.length_append];omega
end
end Go.Sh
namespace Go.Proofs.YtgcemienebmdeaaGreat
open Go Go.Sl Go.Sh
set_option maxRecDepth 100000
noncomputable def c_rLate:=cod Tryz.f57
theorem rLate_ct (I:Imm) (l:Value) (L:Lin) (s:Slip) (l_f:IsLin I l L):Ct Tryz.prog 57 #[l,.agg #[vI s.num,vI s.hour,vI s.kind,vI s.place,vI s.to,vI s.sort,.bool s.soil,vI s.amt]] I ([]) (fun v I' M'=>∃ u0:Value,v=.tuple #[u0,vI ((AS L s).2)]∧M'=[]∧IsLin I' u0 ((AS L s).1)):=by
 obtain ⟨l1,l2,l3,rfl,c2,c3,c1⟩:=id l_f;obtain ⟨b4,b6,g7,h0,g5,rfl,g8,g9,h5,h6⟩:=id c2;obtain ⟨b7,b8,h7,i0,rfl,h8,h9,i1⟩:=id c3;obtain ⟨a8,a9,i2,i5,rfl,i3,i4,i6⟩:=id c1;refine fr (args:=[_,_]) (N:=42) Tryz.func57 (fun F=>?_);show Run _ _ (c_rLate []) _ _ [(0,_),(1,_)] _ _;refine rnm (rqr ?_);refine sS (sb 2 26 (AH L (vS b4 L.start.length b6) (vS b7 L.keeps.length b8) (vS a8 L.slips.length a9)) (fun b1=>(sS (sb 3 28 (AV s) (fun b3=>(sS (sal 4 26 AJ (fun b5=>(sp 1 [(5,vI 0)] (se (rq (rqr (sd (dnb 8 2 0 b1 (BQ L (vS b4 L.start.length b6) (vS b7 L.keeps.length b8) (vS a8 L.slips.length a9))) (sd (dc 9 (fun I' hI=>(rCheck_ct I' _ L ((BL c2 c3 c1).mono hI) :))) (sp 1 [(6,vI (AK L))] (sn (sp 2 [(11,.bool (!(cmp .eql (AK L) 0)))] (se (rc 11 rfl (fun h1=>?_) (fun h1=>?_))))))))))))))))))))
 ·
  have e5:=h1;have h1:=BG (BF h1);refine rqr (sp 2 [(13,vI (AK L)),(12,.agg AJ)] (sS (ss 0 0 b5 DP DP (_::_::_::_) (cs:=[_,_,_,_,_]) rfl rfl (sp 1 [(5,vI (AK L))] (se (BD (RP ?_)))))));have hE:=lateE_1 (L:=L) (s:=s) h1;refine BU (t:=4) (u:=5) (T:=26) (n:=5) [] (by kernel_rfl) rfl (by kernel_rfl) rfl (BN (n:=5) (cs:=AJ) (b:=b5) (off:=0) (T:=26) (fz:=(0,0)) (vs:=DP) (by simp) rfl) (.inl ⟨by kernel_rfl,rfl⟩) rfl (TC _ (TC _ (TC _ (TR _)))) (IR _) ?_;exact ⟨_,(by rw [hE]),rfl,((show (⟨0,0,[],[],[]⟩:Lin)=(AS L s).1 from by rw [hE];rfl)▸(BL (IsRows.nil _) (IsSl.nil _) (IsSl.nil _)))⟩
 have e5:=h1;have h1:=BE (BC h1);refine AM (NX (rq (rq ?_)));have hz:AK L=0:=by omega
 have hg:=HS hz;have j7:=hg.slips;have j8:=hg.places;have j6:=hg.sorts;refine rr (sp 1 [(14,vP b1 4)] (sd (dlb 15 2 4 b1 (vS a8 L.slips.length a9)) (sp 2 [(17,.bool (cmp .geq (↑(L.slips.length)) 8))] (se (rc 17 rfl (fun h2=>?_) (fun h2=>?_))))))
 ·
  have e6:=h2;have h2:=geq_t h2;refine rqr (sp 1 [(18,.agg AJ)] (sS (ss 0 0 b5 DP DP (_::_::_::_) (cs:=[_,_,_,_,_]) rfl rfl (sp 1 [(5,vI 6)] (se (BD (RP ?_)))))));have hE:=lateE_2 (s:=s) hz (by omega);refine BU (t:=4) (u:=5) (T:=26) (n:=5) [] (by kernel_rfl) rfl (by kernel_rfl) rfl (BN (n:=5) (cs:=AJ) (b:=b5) (off:=0) (T:=26) (fz:=(0,0)) (vs:=DP) (by simp) rfl) (.inl ⟨by kernel_rfl,rfl⟩) rfl (TC _ (TC _ (TC _ (TR _)))) (IR _) ?_;exact ⟨_,(by rw [hE]),rfl,((show (⟨0,0,[],[],[]⟩:Lin)=(AS L s).1 from by rw [hE];rfl)▸(BL (IsRows.nil _) (IsSl.nil _) (IsSl.nil _)))⟩
 have e6:=h2;have h2:=geq_f h2;refine AM (NX (rq (rqr (sd (dnb 19 2 0 b1 (BQ L (vS b4 L.start.length b6) (vS b7 L.keeps.length b8) (vS a8 L.slips.length a9))) (sd (dnb 20 1 0 b3 (EU s)) (sd (dc 21 (fun I' hI=>(PD I' _ L s ((BL c2 c3 c1).mono hI) (by omega) (by omega) :))) (sp 1 [(7,vI (BP L s))] (sn (sp 2 [(23,.bool (!(cmp .eql (BP L s) 0)))] (se (rc 23 rfl (fun h3=>?_) (fun h3=>?_))))))))))))
 ·
  have e7:=h3;have h3:=BG (BF h3);refine rqr (sp 2 [(25,vI (BP L s)),(24,.agg AJ)] (sS (ss 0 0 b5 DP DP (_::_::_::_) (cs:=[_,_,_,_,_]) rfl rfl (sp 1 [(5,vI (BP L s))] (se (BD (RP ?_)))))));have hE:=lateE_3 hz (by omega) h3;refine BU (t:=4) (u:=5) (T:=26) (n:=5) [] (by kernel_rfl) rfl (by kernel_rfl) rfl (BN (n:=5) (cs:=AJ) (b:=b5) (off:=0) (T:=26) (fz:=(0,0)) (vs:=DP) (by simp) rfl) (.inl ⟨by kernel_rfl,rfl⟩) rfl (TC _ (TC _ (TC _ (TR _)))) (IR _) ?_;exact ⟨_,(by rw [hE]),rfl,((show (⟨0,0,[],[],[]⟩:Lin)=(AS L s).1 from by rw [hE];rfl)▸(BL (IsRows.nil _) (IsSl.nil _) (IsSl.nil _)))⟩
 have e7:=h3;have h3:=BE (BC h3);refine AM (NX (rq (rqr (sp 1 [(26,vP b1 4)] (sd (dlb 27 2 4 b1 (vS a8 L.slips.length a9)) (sp 1 [(28,vP b3 0)] (sd (dlb 29 1 0 b3 (vI s.num)) (sd (dc 30 (fun I' hI=>(there_ct I' _ _ s.num (c1.mono hI) :))) (sp 1 [(31,.bool (cmp .geq (JK (fun x:Slip=>decide (x.num=s.num)) L.slips) 0))] (se (rc 31 rfl (fun h4=>?_) (fun h4=>?_))))))))))))
 ·
  have c5:=h4;have h4:=geq_t h4;refine rqr (sp 1 [(32,.agg AJ)] (sS (ss 0 0 b5 DP DP (_::_::_::_) (cs:=[_,_,_,_,_]) rfl rfl (sp 1 [(5,vI 4)] (se (BD (RP ?_)))))));have hE:=lateE_4 hz (by omega) (by omega) (idxF_any.symm.trans c5);refine BU (t:=4) (u:=5) (T:=26) (n:=5) [] (by kernel_rfl) rfl (by kernel_rfl) rfl (BN (n:=5) (cs:=AJ) (b:=b5) (off:=0) (T:=26) (fz:=(0,0)) (vs:=DP) (by simp) rfl) (.inl ⟨by kernel_rfl,rfl⟩) rfl (TC _ (TC _ (TC _ (TR _)))) (IR _) ?_;exact ⟨_,(by rw [hE]),rfl,((show (⟨0,0,[],[],[]⟩:Lin)=(AS L s).1 from by rw [hE];rfl)▸(BL (IsRows.nil _) (IsSl.nil _) (IsSl.nil _)))⟩
 have c5:=h4;have h4:=geq_f h4;refine AM (NX (rqr (sd (dnb 33 2 0 b1 (BQ L (vS b4 L.start.length b6) (vS b7 L.keeps.length b8) (vS a8 L.slips.length a9))) (sS (sc (some 34) (rcopied_ct _ _ L (BL c2 c3 c1) (by assumption) :) (.refl _) (fun j0 I7 i9 e8 g6=>?_))))));obtain ⟨j1,j2,j3,c9,d2,d0,d4,d3,d5⟩:=g6;rw [d2,d0];clear d2 d0;have a4:=d4;have a5:=d3;obtain ⟨a0,a1,f3,f6,d6,c6,f4,f5,f7,f8⟩:=id a4;obtain ⟨a2,a3,f9,g2,c7,g0,g1,g3⟩:=id a5;subst c6;subst c7;obtain ⟨a6,a7,rfl,g4⟩:=d5.shape;refine pm (M':=((bX b5 AJ 26)::(bX b3 (AV s) 28)::(bX b1 (AH L (vS b4 L.start.length b6) (vS b7 L.keeps.length b8) (vS a8 L.slips.length a9)) 26)::(c9++F))) (PW (PW PM)) (sS (ss 2 0 b1 (BQ L (vS a0 L.start.length a1) (vS a2 L.keeps.length a3) (vS a6 L.slips.length a7)) (BQ L (vS a0 L.start.length a1) (vS a2 L.keeps.length a3) (vS a6 L.slips.length a7)) (_::_::_::_) (cs:=[_,_,_,_,_]) rfl rfl (sn (sp 1 [(35,vP b1 4)] (sd (dlb 36 2 4 b1 (vS a6 L.slips.length a7)) (sd (dnb 37 1 0 b3 (EU s)) (sS (sbs 38 28 1 (AV s) (fun j5=>(sS (sap (d:=39) 36 38 24 28 8 64 (.agg IQ) AX L.slips [s] c9 rfl rfl d5 (PU (PU (PU PM.symm))) (CD _) (DI 0 rfl rfl) (fun j9 d7 d1=>(AZ (M':=((bX b5 AJ 26)::(bX b3 (AV s) 28)::(bX b1 (AH L (vS a0 L.start.length a1) (vS a2 L.keeps.length a3) (vS a6 L.slips.length a7)) 26)::(d7++F))) (fun w h=>(h.perm (PW (PW (PW PM)))).sub (TC _ (TR _))) ?_)))))))))))));obtain ⟨b0,b2,rfl,i8⟩:=d1.shape;refine sp 1 [(40,vP b1 4)] (sS (ss 2 4 b1 [vS b0 (L.slips++([s])).length b2] (BQ L (vS a0 L.start.length a1) (vS a2 L.keeps.length a3) (vS b0 (L.slips++([s])).length b2)) (_::_::_::_) (cs:=[_,_,_,_,_]) rfl rfl (se (rq ?_))));refine CN (B:=((bX b5 AJ 26)::(bX b3 (AV s) 28)::(bX b1 (AH L (vS a0 L.start.length a1) (vS a2 L.keeps.length a3) (vS b0 (L.slips++([s])).length b2)) 26)::F)) AB d1 (by first | omega | (simp only [LS,LC,LN,LA,LK,LD] <;> omega) | decide) (PU (PU PM.symm)) (PR _) (fun j4 c0 b9=>?_);replace a4:=a4.mono c0;replace a5:=a5.mono c0;obtain ⟨d8,e0,d9,e3,c4,e1,e2,e4⟩:=id b9;cases c4;refine rr (sd (dnb 41 2 0 b1 (BQ L (vS a0 L.start.length a1) (vS a2 L.keeps.length a3) (vS b0 (L.slips++([s])).length b2))) (sS (ss 0 0 b5 (BQ L (vS a0 L.start.length a1) (vS a2 L.keeps.length a3) (vS b0 (L.slips++([s])).length b2)) (BQ L (vS a0 L.start.length a1) (vS a2 L.keeps.length a3) (vS b0 (L.slips++([s])).length b2)) (_::_::_::_) (cs:=[_,_,_,_,_]) rfl rfl (sp 1 [(5,vI 0)] (se (BD ?_))))));have hE:=lateE_5 hz (by omega) (by omega) (idxF_any.symm.trans c5);refine BU (t:=4) (u:=5) (T:=26) (n:=5) [] (by kernel_rfl) rfl (by kernel_rfl) rfl (BN (n:=5) (cs:=(AH L (vS a0 L.start.length a1) (vS a2 L.keeps.length a3) (vS b0 (L.slips++([s])).length b2))) (b:=b5) (off:=0) (T:=26) (fz:=(0,0)) (vs:=(BQ L (vS a0 L.start.length a1) (vS a2 L.keeps.length a3) (vS b0 (L.slips++([s])).length b2))) (by simp) rfl) (.inl ⟨by kernel_rfl,rfl⟩) rfl (TC _ (TC _ (TC _ (TR _)))) (IT e8 c0) ?_;exact ⟨_,(by rw [hE]),rfl,((show (⟨L.places,L.sorts,L.start,L.keeps,L.slips++[s]⟩:Lin)=(AS L s).1 from by rw [hE];rfl)▸(BL a4 a5 b9))⟩
noncomputable def c_ralike:=cod Tryz.f113
theorem ralike_ct (I:Imm) (l:Value) (A:Lin) (m:Value) (B:Lin) (l_f:IsLin I l A) (m_f:IsLin I m B) (hg:GoodL A) (hg2:GoodL B):CtV Tryz.prog 113 #[l,m] I (.bool (decide (GL A B))):=by
 obtain ⟨l1,l2,l3,rfl,e0,e2,e4⟩:=id l_f;obtain ⟨a0,a1,g2,g5,f7,rfl,g3,g4,b8,c0⟩:=id e0;obtain ⟨a2,a3,g6,g9,rfl,g7,g8,c1⟩:=id e2;obtain ⟨a8,a9,h0,i1,rfl,h9,i0,i2⟩:=id e4;obtain ⟨m1,m2,m3,rfl,e6,e9,f1⟩:=id m_f;obtain ⟨a6,a7,i4,i7,f8,rfl,i5,i6,c2,e7⟩:=id e6;obtain ⟨a4,a5,i8,j1,rfl,i9,j0,c3⟩:=id e9;obtain ⟨b0,b2,j2,j5,rfl,j3,j4,j6⟩:=id f1;refine fr (args:=[_,_]) (N:=81) Tryz.func113 (fun F=>?_);show Run _ _ (c_ralike []) _ _ [(0,_),(1,_)] _ _;refine rnm (rqr ?_);refine sS (sb 2 26 (AH A (vS a0 A.start.length a1) (vS a2 A.keeps.length a3) (vS a8 A.slips.length a9)) (fun b1=>(sS (sb 3 26 (AH B (vS a6 B.start.length a7) (vS a4 B.keeps.length a5) (vS b0 B.slips.length b2)) (fun b3=>(sp 1 [(4,.bool false)] (se (rq (rq ?_)))))))));refine BV (fun a w=>SE 81 [(2,vP b1 0),(3,vP b3 0),(4,.bool false),(28,.bool ((!(cmp .eql A.places B.places))||((!(cmp .eql A.sorts B.sorts))||(!(cmp .eql (↑(A.keeps.length)) (↑(B.keeps.length)))))))] I ((bX b3 (AH B (vS a6 B.start.length a7) (vS a4 B.keeps.length a5) (vS b0 B.slips.length b2)) 26)::(bX b1 (AH A (vS a0 A.start.length a1) (vS a2 A.keeps.length a3) (vS a8 A.slips.length a9)) 26)::F) a w) ?_ ?_
 ·
  refine rr (sp 1 [(8,vP b1 0)] (sd (dlb 9 1 0 b1 (vI A.places)) (sp 1 [(10,vP b3 0)] (sd (dlb 11 0 0 b3 (vI B.places)) (sp 2 [(13,.bool (!(cmp .eql A.places B.places)))] ?_)))));refine BB 13 rfl (fun h1=>?_) (fun h1=>?_)
  ·
   have b4:=h1;have b4:=BG (BF b4);refine sp 15 [(28,.bool true)] (ee ?_);refine AL (fun a w hS hD hW=>⟨hS.sub (sun 3 (.consE 28 rfl (congrArg Value.bool (by simp only [h1,kk])) (.nil _))),hD,hW⟩)
  have b4:=h1;have b4:=BE (BC b4);refine sp 1 [(14,vP b1 1)] (sd (dlb 15 1 1 b1 (vI A.sorts)) (sp 1 [(16,vP b3 1)] (sd (dlb 17 0 1 b3 (vI B.sorts)) (sp 3 [(20,.bool (!(cmp .eql A.sorts B.sorts)))] ?_))));refine BB 20 rfl (fun h2=>?_) (fun h2=>?_)
  ·
   have b5:=h2;have b5:=BG (BF b5);refine sp 8 [(28,.bool true)] (ee ?_);refine AL (fun a w hS hD hW=>⟨hS.sub (sun 3 (.consE 28 rfl (congrArg Value.bool (by simp only [h1,h2,kk])) (.nil _))),hD,hW⟩)
  have b5:=h2;have b5:=BE (BC b5);refine sp 1 [(21,vP b1 3)] (sd (dlb 22 1 3 b1 (vS a2 A.keeps.length a3)) (sp 2 [(24,vP b3 3),(23,vI (↑(A.keeps.length)))] (sd (dlb 25 0 3 b3 (vS a4 B.keeps.length a5)) (sp 3 [(28,.bool (!(cmp .eql (↑(A.keeps.length)) (↑(B.keeps.length)))))] (ee ?_)))));refine AL (fun a w hS hD hW=>⟨hS.sub (sun 3 (.consE 28 rfl (congrArg Value.bool (by simp only [h1,h2,kk])) (.nil _))),hD,hW⟩)
 rintro a w ⟨hS,hD,hW⟩
 refine AU hS hD hW ?_;refine rc 28 rfl (fun h3=>?_) (fun h3=>?_)
 ·
  have d3:=h3;refine rqr (sp 1 [(4,.bool false)] (se (BD (RP (DL 4 [] rfl (TC _ (TC _ (TR _))) (IR _) ?_)))));exact ⟨congrArg Value.bool (decide_eq_false (head_no2 (by assumption))).symm,rfl⟩
 have d3:=h3;obtain ⟨b9,d2⟩:=or_f h3;have b9:=BE (BC b9);obtain ⟨b6,b7⟩:=or_f d2;have b6:=BE (BC b6);have b7:=BE (BC b7);refine AM (NX (rq (rq ?_)));have f9:A.places=B.places:=by assumption
 have g0:A.sorts=B.sorts:=by assumption
 have f2:A.keeps.length=B.keeps.length:=by omega
 have f4:A.start.length=B.start.length:=by have h1:=hg.start;have h2:=hg2.start;omega
 refine rr (sp 1 [(5,vI 0)] (se (rb 0 ?_)));refine rl (fun mz a w=>∃ k:Nat,(k≤A.start.length)∧(A.start.take k=B.start.take k)∧SD 81 [(5,vI ↑k),(2,vP b1 0),(3,vP b3 0)] I ((bX b3 (AH B (vS a6 B.start.length a7) (vS a4 B.keeps.length a5) (vS b0 B.slips.length b2)) 26)::(bX b1 (AH A (vS a0 A.start.length a1) (vS a2 A.keeps.length a3) (vS a8 A.slips.length a9)) 26)::F) a w (mz=A.start.length-k)) ?_ ?_
 ·intro a w hS hD hW;exact ⟨_,0,Nat.zero_le _,rfl,hS.sub su,hD,hW,rfl⟩
 rintro mz a w ⟨k,hk,ht,hS,hD,hW,rfl⟩
 refine AU hS hD hW ?_;refine rq (rqr (sp 2 [(30,vP b1 2),(29,vI ↑k)] (sd (dlb 31 1 2 b1 (vS a0 A.start.length a1)) (sp 2 [(33,.bool (cmp .lss ↑k (↑(A.start.length))))] (se (rc 33 rfl (fun h4=>?_) (fun h4=>?_)))))))
 ·
  have d4:=h4;have h4:=BX h4;refine AM (NX (rq (rb 1 (rq ?_))));have f3:(A.start.getD k []).length=(B.start.getD k []).length:=by have h1:=hg.rows _ (BJ (xs:=A.start) (d:=[]) (k:=k) (by omega));have h2:=hg2.rows _ (BJ (xs:=B.start) (d:=[]) (k:=k) (by omega));omega
  refine rr (sp 1 [(6,vI 0)] (se (rb 2 ?_)));refine rl (fun mz a w=>∃ q:Nat,(q≤(A.start.getD k []).length)∧((A.start.getD k []).take q=(B.start.getD k []).take q)∧SD 81 [(6,vI ↑q),(2,vP b1 0),(3,vP b3 0),(5,vI ↑k)] I ((bX b3 (AH B (vS a6 B.start.length a7) (vS a4 B.keeps.length a5) (vS b0 B.slips.length b2)) 26)::(bX b1 (AH A (vS a0 A.start.length a1) (vS a2 A.keeps.length a3) (vS a8 A.slips.length a9)) 26)::F) a w (mz=(A.start.getD k []).length-q)) ?_ ?_
  ·intro a w hS hD hW;exact ⟨_,0,Nat.zero_le _,rfl,hS.sub su,hD,hW,rfl⟩
  rintro mz a w ⟨q,hq,f5,hS,hD,hW,rfl⟩
  refine AU hS hD hW ?_;refine rq (rqr (sp 2 [(37,vP b1 2),(36,vI ↑q)] (sd (dlb 38 1 2 b1 (vS a0 A.start.length a1)) (sp 1 [(39,vI ↑k)] (sd (di 40 1 k b8.addr) ?_)))));have c5:=c0 k (by omega);obtain ⟨j8,k0,j9,k3,c4,k1,k2,k4⟩:=id c5;rw [c4] at c5;refine sd (DE (dl 41 (DY b8 k (by omega))) c4) (sp 2 [(43,.bool (cmp .lss ↑q (↑((A.start.getD k []).length))))] (se (rc 43 rfl (fun h5=>?_) (fun h5=>?_))))
  ·
   have d5:=h5;have h5:=BX h5;refine AM (NX (rq (rb 3 (rq ?_))));refine rd0 16 (ox 1 [(46,vP b1 2)] ?_);refine AD (dlb 47 1 2 b1 (vS a0 A.start.length a1)) (ox 1 [(48,vI ↑k)] ?_);refine AD (di 49 1 k b8.addr) ?_;have c7:=c0 k (by omega);obtain ⟨k5,k7,k6,l0,c6,k8,k9,c8⟩:=id c7;rw [c6] at c7;refine AD (DE (dl 50 (DY b8 k (by omega))) c6) (ox 1 [(51,vI ↑q)] ?_);refine AD (di 52 1 q c8.addr) ?_;refine AD (dl 53 (DG c8 q (by omega))) (ox 1 [(54,vP b3 2)] ?_);refine AD (dlb 55 0 2 b3 (vS a6 B.start.length a7)) (ox 1 [(56,vI ↑k)] ?_);refine AD (di 57 1 k c2.addr) ?_;have d0:=e7 k (by omega);obtain ⟨l4,l6,l5,l9,c9,l7,l8,d1⟩:=id d0;rw [c9] at d0;refine AD (DE (dl 58 (DY c2 k (by omega))) c9) (ox 1 [(59,vI ↑q)] ?_);refine AD (di 60 1 q d1.addr) ?_;refine AD (dl 61 (DG d1 q (by omega))) ?_;refine BA (sp 1 [(62,.bool (!(cmp .eql ((A.start.getD k []).getD q 0) ((B.start.getD k []).getD q 0))))] (se (rc 62 rfl (fun h6=>?_) (fun h6=>?_))))
   ·
    have d6:=h6;have h6:=BG (BF h6);refine rqr (sp 1 [(4,.bool false)] (se (BD (RB (RP (RP (RB (RB (RP (RP (RB (RP (DL 4 [] rfl (TC _ (TC _ (TR _))) (IR _) ?_)))))))))))));exact ⟨congrArg Value.bool (decide_eq_false (fun e=>h6 (by rw [e.2.2.1]))).symm,rfl⟩
   have d6:=h6;have h6:=BE (BC h6);refine AM (NB (NX (rr (sp 1 [(44,vI ↑q)] (sd (da 45 ↑q 1) (sp 1 [(6,vI (↑q+1))] (ee ?_)))))));refine AO ((A.start.getD k []).length-(q+1)) (by omega) ?_;intro a w hS hD hW;exact ⟨q+1,by omega,FF (d:=0) f3 f5 (by omega) h6,hS.sub su,hD,hW,rfl⟩
  have d5:=h5;have h5:=CF h5;refine BR 2 (EP (EP (EB (NB (NX (rr (sp 1 [(34,vI ↑k)] (sd (da 35 ↑k 1) (sp 1 [(5,vI (↑k+1))] (ee ?_))))))))));refine AO (A.start.length-(k+1)) (by omega) ?_;intro a w hS hD hW;exact ⟨k+1,by omega,alike_row f4 ht (by omega) f3 f5 (by omega),hS.sub su,hD,hW,rfl⟩
 have d4:=h4;have h4:=CF h4;refine BR 0 (EP (EP (EB (NX (rq (rq ?_))))));have g1:A.start=B.start:=HC f4 ht (by omega);refine rr (sp 1 [(7,vI 0)] (se (rb 4 ?_)));refine rl (fun mz a w=>∃ m:Nat,(m≤A.keeps.length)∧(A.keeps.take m=B.keeps.take m)∧SD 81 [(7,vI ↑m),(2,vP b1 0),(3,vP b3 0)] I ((bX b3 (AH B (vS a6 B.start.length a7) (vS a4 B.keeps.length a5) (vS b0 B.slips.length b2)) 26)::(bX b1 (AH A (vS a0 A.start.length a1) (vS a2 A.keeps.length a3) (vS a8 A.slips.length a9)) 26)::F) a w (mz=A.keeps.length-m)) ?_ ?_
 ·intro a w hS hD hW;exact ⟨_,0,Nat.zero_le _,rfl,hS.sub su,hD,hW,rfl⟩
 rintro mz a w ⟨m,hm,f6,hS,hD,hW,rfl⟩
 refine AU hS hD hW ?_;refine rq (rqr (sp 2 [(64,vP b1 3),(63,vI ↑m)] (sd (dlb 65 1 3 b1 (vS a2 A.keeps.length a3)) (sp 2 [(67,.bool (cmp .lss ↑m (↑(A.keeps.length))))] (se (rc 67 rfl (fun h7=>?_) (fun h7=>?_)))))))
 ·
  have d7:=h7;have h7:=BX h7;refine AM (NX (rq (rb 5 (rq ?_))));refine rd0 10 (ox 1 [(70,vP b1 3)] ?_);refine AD (dlb 71 1 3 b1 (vS a2 A.keeps.length a3)) (ox 1 [(72,vI ↑m)] ?_);refine AD (di 73 3 m c1.addr) ?_;refine AD (dln 74 73 50 (NG (A.keeps.getD m AN)) rfl (CB (vals:=FS) (fun _=>rfl) c1 m (by omega))) (ox 1 [(75,vP b3 3)] ?_);refine AD (dlb 76 0 3 b3 (vS a4 B.keeps.length a5)) (ox 1 [(77,vI ↑m)] ?_);refine AD (di 78 3 m c3.addr) ?_;refine AD (dln 79 78 50 (NG (B.keeps.getD m AN)) rfl (CB (vals:=FS) (fun _=>rfl) c3 m (by omega))) ?_;refine BA (sd (GQ (L:=[(0,.i .i64),(1,.i .i64),(2,.i .i64)]) (x:=(.tmp 74)) (y:=(.tmp 79)) (T:=50) (T':=50) (d:=80) (ty:=4) (gd:=none) (by kernel_rfl) rfl (by kernel_rfl) rfl rfl rfl (eqKeep (A.keeps.getD m AN) (B.keeps.getD m AN))) (se (rc 80 rfl (fun h8=>?_) (fun h8=>?_))))
  ·
   have d8:=h8;have h8:=OH (BF h8);refine rqr (sp 1 [(4,.bool false)] (se (BD (RB (RP (RP (RB (RP (DL 4 [] rfl (TC _ (TC _ (TR _))) (IR _) ?_)))))))));exact ⟨congrArg Value.bool (decide_eq_false (fun e=>h8 (by rw [e.2.2.2]))).symm,rfl⟩
  have d8:=h8;have h8:=NE (BC h8);refine AM (NB (NX (rr (sp 1 [(68,vI ↑m)] (sd (da 69 ↑m 1) (sp 1 [(7,vI (↑m+1))] (ee ?_)))))));refine AO (A.keeps.length-(m+1)) (by omega) ?_;intro a w hS hD hW;exact ⟨m+1,by omega,FF (d:=AN) f2 f6 (by omega) h8,hS.sub su,hD,hW,rfl⟩
 have d7:=h7;have h7:=CF h7;refine BR 4 (EP (EP (EB (NX (rqr (sp 1 [(4,.bool true)] (se (BD (DL 4 [] rfl (TC _ (TC _ (TR _))) (IR _) ?_)))))))));exact ⟨congrArg Value.bool (decide_eq_true ⟨f9,g0,g1,HC f2 f6 (by omega)⟩).symm,rfl⟩
end Go.Proofs.YtgcemienebmdeaaGreat
