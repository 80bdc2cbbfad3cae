/- A part of the proof of the laws of this seat. -/
import Derived.Test.YtgcemienebmdeaaGreatLinenMoreP4
import Derived.Test.YtgcemienebmdeaaGreatLinenMoreP2
import Derived.Test.YtgcemienebmdeaaGreatLinenMoreP1
import Derived.Test.YtgcemienebmdeaaGreatLinenMoreP3
import Derived.Test.YtgcemienebmdeaaGreatLinenMoreP0
import Derived.Conc.Beside
import Derived.Conc.CrowdComm
import Derived.Conc.LeavingOf
import Derived.LoopNIn
import Derived.Conc.Own2
set_option linter.unusedVariables false
set_option linter.unusedSimpArgs false
namespace Go.Proofs.YtgcemienebmdeaaGreat
open Go Go.Sl Go.Sh
set_option maxRecDepth 100000
noncomputable def c_rMerge:=cod Tryz.f59
set_option maxHeartbeats 1000000 in
theorem rMerge_ct (I:Imm) (l:Value) (A:Lin) (m:Value) (B:Lin) (l_f:IsLin I l A) (m_f:IsLin I m B):Ct Tryz.prog 59 #[l,m] I ([]) (fun v I' M'=>∃ u0:Value,v=.tuple #[u0,vI ((AR A B).2)]∧M'=[]∧IsLin I' u0 ((AR A B).1)):=by
 obtain ⟨l1,l2,l3,rfl,d7,d8,c7⟩:=id l_f;obtain ⟨b7,b8,l7,m0,k8,rfl,l8,l9,m4,m5⟩:=id d7;obtain ⟨b9,c0,m6,m9,rfl,m7,m8,n0⟩:=id d8;obtain ⟨b0,b2,n1,n4,rfl,n2,n3,d3⟩:=id c7;obtain ⟨m1,m2,m3,rfl,e0,e1,e2⟩:=id m_f;obtain ⟨c2,c3,n6,n9,k9,rfl,n7,n8,o0,o1⟩:=id e0;obtain ⟨c4,c5,o2,o5,rfl,o3,o4,o6⟩:=id e1;obtain ⟨a7,a8,i9,j1,rfl,o7,o8,c6⟩:=id e2;refine fr (args:=[_,_]) (N:=80) Tryz.func59 (fun F=>?_);show Run _ _ (c_rMerge []) _ _ [(0,_),(1,_)] _ _;refine rnm (rqr ?_);refine sS (sb 2 26 (AH A (vS b7 A.start.length b8) (vS b9 A.keeps.length c0) (vS b0 A.slips.length b2)) (fun b1=>(sS (sb 3 26 (AH B (vS c2 B.start.length c3) (vS c4 B.keeps.length c5) (vS a7 B.slips.length a8)) (fun b3=>(sS (sal 4 26 AJ (fun b5=>(sp 1 [(5,vI 0)] (se (rq (rqr (sd (dnb 11 2 0 b1 (BQ A (vS b7 A.start.length b8) (vS b9 A.keeps.length c0) (vS b0 A.slips.length b2))) (sd (dc 12 (fun I' hI=>(rCheck_ct I' _ A ((BL d7 d8 c7).mono hI) :))) (sp 1 [(6,vI (AK A))] (sn (sp 2 [(14,.bool (!(cmp .eql (AK A) 0)))] (se (rc 14 rfl (fun h1=>?_) (fun h1=>?_))))))))))))))))))))
 ·
  have g8:=h1;have h1:=BG (BF h1);refine rqr (sp 2 [(16,vI (AK A)),(15,.agg AJ)] (sS (ss 0 0 b5 DP DP (_::_::_::_) (cs:=[_,_,_,_,_]) rfl rfl (sp 1 [(5,vI (AK A))] (se (BD (RP ?_)))))));have hE:=mergeE_1a (B:=B) h1;refine BU (t:=4) (u:=5) (T:=26) (n:=5) [] (by kernel_rfl) rfl (by kernel_rfl) rfl (BN (n:=5) (cs:=AJ) (b:=b5) (off:=0) (T:=26) (fz:=(0,0)) (vs:=DP) (by simp) rfl) (.inl ⟨by kernel_rfl,rfl⟩) rfl (TC _ (TC _ (TC _ (TR _)))) (IR _) ?_;exact ⟨_,(by rw [hE]),rfl,((show (⟨0,0,[],[],[]⟩:Lin)=(AR A B).1 from by rw [hE];rfl)▸(BL (IsRows.nil _) (IsSl.nil _) (IsSl.nil _)))⟩
 have g8:=h1;have h1:=BE (BC h1);refine AM (NX (rq (rqr (sd (dnb 17 1 0 b3 (BQ B (vS c2 B.start.length c3) (vS c4 B.keeps.length c5) (vS a7 B.slips.length a8))) (sd (dc 18 (fun I' hI=>(rCheck_ct I' _ B ((BL e0 e1 e2).mono hI) :))) (sp 1 [(7,vI (AK B))] (sn (sp 2 [(20,.bool (!(cmp .eql (AK B) 0)))] (se (rc 20 rfl (fun h2=>?_) (fun h2=>?_)))))))))))
 ·
  have g9:=h2;have h2:=BG (BF h2);refine rqr (sp 2 [(22,vI (AK B)),(21,.agg AJ)] (sS (ss 0 0 b5 DP DP (_::_::_::_) (cs:=[_,_,_,_,_]) rfl rfl (sp 1 [(5,vI (AK B))] (se (BD (RP ?_)))))));have hE:=mergeE_1b (by omega) h2;refine BU (t:=4) (u:=5) (T:=26) (n:=5) [] (by kernel_rfl) rfl (by kernel_rfl) rfl (BN (n:=5) (cs:=AJ) (b:=b5) (off:=0) (T:=26) (fz:=(0,0)) (vs:=DP) (by simp) rfl) (.inl ⟨by kernel_rfl,rfl⟩) rfl (TC _ (TC _ (TC _ (TR _)))) (IR _) ?_;exact ⟨_,(by rw [hE]),rfl,((show (⟨0,0,[],[],[]⟩:Lin)=(AR A B).1 from by rw [hE];rfl)▸(BL (IsRows.nil _) (IsSl.nil _) (IsSl.nil _)))⟩
 have g9:=h2;have h2:=BE (BC h2);refine AM (NX (rq (rq ?_)));have k6:AK A=0:=by omega
 have k7:AK B=0:=by omega
 have hz:GS A B=0:=by unfold GS;rw [if_pos k6];exact k7
 have hg:=HS k6;have k5:=HS k7;have p9:=hg.slips;have q0:=k5.slips;have p7:=hg.places;have p8:=hg.sorts;refine rr (sd (dnb 23 2 0 b1 (BQ A (vS b7 A.start.length b8) (vS b9 A.keeps.length c0) (vS b0 A.slips.length b2))) (sd (dnb 24 1 0 b3 (BQ B (vS c2 B.start.length c3) (vS c4 B.keeps.length c5) (vS a7 B.slips.length a8))) (sd (dc 25 (fun I' hI=>(ralike_ct I' _ A _ B ((BL d7 d8 c7).mono hI) ((BL e0 e1 e2).mono hI) (by assumption) (by assumption) :))) (sp 1 [(26,.bool (!(decide (GL A B))))] (se (rc 26 rfl (fun h3=>?_) (fun h3=>?_)))))))
 ·
  have h0:=h3;have h3:=OH (BF h3);refine rqr (sp 1 [(27,.agg AJ)] (sS (ss 0 0 b5 DP DP (_::_::_::_) (cs:=[_,_,_,_,_]) rfl rfl (sp 1 [(5,vI 12)] (se (BD (RP ?_)))))));have hE:=mergeE_2 hz h3;refine BU (t:=4) (u:=5) (T:=26) (n:=5) [] (by kernel_rfl) rfl (by kernel_rfl) rfl (BN (n:=5) (cs:=AJ) (b:=b5) (off:=0) (T:=26) (fz:=(0,0)) (vs:=DP) (by simp) rfl) (.inl ⟨by kernel_rfl,rfl⟩) rfl (TC _ (TC _ (TC _ (TR _)))) (IR _) ?_;exact ⟨_,(by rw [hE]),rfl,((show (⟨0,0,[],[],[]⟩:Lin)=(AR A B).1 from by rw [hE];rfl)▸(BL (IsRows.nil _) (IsSl.nil _) (IsSl.nil _)))⟩
 have h0:=h3;have h3:=NE (BC h3);refine AM (NX (rq ?_));have i3:GL A B:=by assumption
 refine rr (sd (dnb 28 2 0 b1 (BQ A (vS b7 A.start.length b8) (vS b9 A.keeps.length c0) (vS b0 A.slips.length b2))) (sS (sc (some 29) (rcopied_ct _ _ A (BL d7 d8 c7) (by assumption) :) (.refl _) (fun p2 I7 p1 d2 l6=>?_))));obtain ⟨p3,p4,p5,e9,f5,f3,f7,f6,f8⟩:=l6;rw [f5,f3];clear f5 f3;replace c7:=c7.mono d2;replace d3:=d3.mono d2;replace c6:=c6.mono d2;have b4:=f7;have b6:=f6;obtain ⟨a2,a3,j3,j6,g0,e6,j4,j5,j7,j8⟩:=id b4;obtain ⟨a4,a5,j9,k2,e7,k0,k1,k3⟩:=id b6;subst e6;subst e7;obtain ⟨d0,d1,rfl,k4⟩:=f8.shape;refine pm (M':=((bX b5 AJ 26)::(bX b3 (AH B (vS c2 B.start.length c3) (vS c4 B.keeps.length c5) (vS a7 B.slips.length a8)) 26)::(bX b1 (AH A (vS b7 A.start.length b8) (vS b9 A.keeps.length c0) (vS b0 A.slips.length b2)) 26)::(e9++F))) (PW (PW PM)) (sS (sal 8 26 AJ (fun c8=>(sS (ss 0 0 c8 (BQ A (vS a2 A.start.length a3) (vS a4 A.keeps.length a5) (vS d0 A.slips.length d1)) (BQ A (vS a2 A.start.length a3) (vS a4 A.keeps.length a5) (vS d0 A.slips.length d1)) (_::_::_::_::_) (cs:=[_,_,_,_,_]) rfl rfl (se (rq (rqr (sp 1 [(9,vI 0)] (se (rb 0 ?_)))))))))));refine rl (fun mz a w=>∃ J0:Imm,∃ k:Nat,∃ c1:Value,∃ a6:Seg,(I7.le J0)∧(k≤B.slips.length)∧((B.slips.take k).any (NI A.slips)=false)∧(Own 28 8 AX c1 (A.slips++(B.slips.take k).filter (IM A.slips)) a6)∧SD 80 [(9,vI ↑k),(2,vP b1 0),(3,vP b3 0),(4,vP b5 0),(8,vP c8 0)] J0 ((bX c8 (AH A (vS a2 A.start.length a3) (vS a4 A.keeps.length a5) c1) 26)::(bX b5 AJ 26)::(bX b3 (AH B (vS c2 B.start.length c3) (vS c4 B.keeps.length c5) (vS a7 B.slips.length a8)) 26)::(bX b1 (AH A (vS b7 A.start.length b8) (vS b9 A.keeps.length c0) (vS b0 A.slips.length b2)) 26)::(a6++F)) a w (mz=B.slips.length-k)) ?_ ?_
 ·intro a w hS hD hW;exact ⟨_,I7,0,vS d0 A.slips.length d1,e9,IR _,Nat.zero_le _,rfl,(by rw [List.take_zero,List.filter_nil,List.append_nil];exact f8),hS.sub su,hD,hW,rfl⟩
 rintro mz a w ⟨J0,k,c1,a6,hJ0,hk,f9,a9,hS,hD,hW,rfl⟩
 refine AU hS hD hW ?_;replace c7:=c7.mono hJ0;replace d3:=d3.mono hJ0;replace c6:=c6.mono hJ0;replace b4:=b4.mono hJ0;replace b6:=b6.mono hJ0;obtain ⟨a0,a1,rfl,e5⟩:=a9.shape;have q1:=mrg_len (k:=k) hg k5;refine rq (rqr (sp 2 [(31,vP b3 4),(30,vI ↑k)] (sd (dlb 32 2 4 b3 (vS a7 B.slips.length a8)) (sp 2 [(34,.bool (cmp .lss ↑k (↑(B.slips.length))))] (se (rc 34 rfl (fun h4=>?_) (fun h4=>?_)))))))
 ·
  have h9:=h4;have h4:=BX h4;refine AM (NX (rq (rb 1 (rq ?_))));refine rd0 8 (ox 1 [(37,vP b1 4)] ?_);refine AD (dlb 38 3 4 b1 (vS b0 A.slips.length b2)) (ox 1 [(39,vP b3 4)] ?_);refine AD (dlb 40 2 4 b3 (vS a7 B.slips.length a8)) (ox 1 [(41,vI ↑k)] ?_);refine AD (di 42 8 k c6.addr) (ox 1 [(43,.pointer (some ⟨i9,j1+k*8,none⟩))] ?_);refine AD (dl 44 (NY c6 k (by omega) 0 (by decide) (v:=vI ((B.slips.getD k AB).num)) rfl)) ?_;refine BA (sd (dc 45 (fun I' hI=>(there_ct I' _ _ ((B.slips.getD k AB).num) (c7.mono hI) :))) ?_);obtain ⟨ix,hix⟩:∃ x:Int,x=idxN A.slips (B.slips.getD k AB):=⟨_,rfl⟩;refine EE 45 rfl (show (vI (JK (fun x:Slip=>decide (x.num=((B.slips.getD k AB).num))) A.slips):Value)=vI ix from congrArg (Value.int .i64) hix.symm) ?_;have l4:¬ ix<0→0≤ix∧ix<A.slips.length:=by have hq:=idx_in (L:=A.slips) (p:=fun x=>decide (x.num=(B.slips.getD k AB).num));rw [show JK _ _=ix from hix.symm] at hq;exact hq
  refine sp 1 [(10,vI ix)] (se (rq (rq ?_)));refine BV (fun a w=>SE 80 [(2,vP b1 0),(3,vP b3 0),(4,vP b5 0),(8,vP c8 0),(9,vI ↑k),(10,vI ix),(60,.bool ((cmp .geq ix 0)&&(!(decide ((A.slips.getD ((ix:Int).toNat) AB)=(B.slips.getD k AB))))))] J0 ((bX c8 (AH A (vS a2 A.start.length a3) (vS a4 A.keeps.length a5) (vS a0 (A.slips++(B.slips.take k).filter (IM A.slips)).length a1)) 26)::(bX b5 AJ 26)::(bX b3 (AH B (vS c2 B.start.length c3) (vS c4 B.keeps.length c5) (vS a7 B.slips.length a8)) 26)::(bX b1 (AH A (vS b7 A.start.length b8) (vS b9 A.keeps.length c0) (vS b0 A.slips.length b2)) 26)::(a6++F)) a w) ?_ ?_
  ·
   refine rd0 13 (ox 3 [(48,.bool (cmp .geq ix 0))] ?_);refine IA 48 (fun h5=>?_) (fun h5=>?_)
   ·
    have d5:=h5;have d5:=geq_t d5;refine ox 1 [(49,vP b1 4)] ?_;refine AD (dlb 50 3 4 b1 (vS b0 A.slips.length b2)) (ox 1 [(51,vI ix)] ?_);have l5:=l4 (by omega);refine AD (diI 52 8 ix d3.addr) ?_;refine AD (KG (x:=(.tmp 52)) (T:=28) (n:=8) (vs:=(EU (A.slips.getD ((ix:Int).toNat) AB))) (d:=53) (ty:=28) (gd:=(some (2,true))) (by kernel_rfl) (by kernel_rfl) (by kernel_rfl) (by kernel_rfl) rfl rfl (CB (vals:=CV) (fun _=>rfl) d3 ((ix:Int).toNat) (by omega))) (ox 1 [(54,vP b3 4)] ?_);refine AD (dlb 55 2 4 b3 (vS a7 B.slips.length a8)) (ox 1 [(56,vI ↑k)] ?_);refine AD (di 57 8 k c6.addr) ?_;refine AD (KG (x:=(.tmp 57)) (T:=28) (n:=8) (vs:=(EU (B.slips.getD k AB))) (d:=58) (ty:=28) (gd:=(some (2,true))) (by kernel_rfl) (by kernel_rfl) (by kernel_rfl) (by kernel_rfl) rfl rfl (CB (vals:=CV) (fun _=>rfl) c6 k (by omega))) ?_;refine BA (sd (GQ (L:=[(0,.i .i64),(1,.i .i64),(2,.i .i64),(3,.i .i64),(4,.i .i64),(5,.i .i64),(6,.b),(7,.i .i64)]) (x:=(.tmp 53)) (y:=(.tmp 58)) (T:=28) (T':=28) (d:=59) (ty:=4) (gd:=(some (2,true))) (by kernel_rfl) (by kernel_rfl) (by kernel_rfl) rfl rfl rfl (eqSlip (A.slips.getD ((ix:Int).toNat) AB) (B.slips.getD k AB))) (sp 1 [(60,.bool (!(decide ((A.slips.getD ((ix:Int).toNat) AB)=(B.slips.getD k AB)))))] (ee ?_)));refine AL (fun a w hS hD hW=>⟨hS.sub (sun 6 (.consE 60 rfl (congrArg Value.bool (by simp only [h5,kk])) (.nil _))),hD,hW⟩)
   have d5:=h5;have d5:=geq_f d5;refine ox 10 [(58,undef),(53,undef)] ?_;refine BA (sp 2 [(60,.bool false)] (ee ?_));refine AL (fun a w hS hD hW=>⟨hS.sub (sun 6 (.consE 60 rfl (congrArg Value.bool (by simp only [h5,kk])) (.nil _))),hD,hW⟩)
  rintro a w ⟨hS,hD,hW⟩
  refine AU hS hD hW ?_;refine rc 60 rfl (fun h6=>?_) (fun h6=>?_)
  ·
   have i0:=h6;obtain ⟨f1,f2⟩:=LQ h6;have f1:=geq_t f1;have f2:=OH (BF f2);refine rqr (sp 1 [(61,.agg AJ)] (sS (ss 1 0 b5 DP DP (_::_::_::_::_) (cs:=[_,_,_,_,_]) rfl rfl (sp 1 [(5,vI 4)] (se (BD (RP (RB (RP (RP (RB (RP ?_))))))))))));have hE:=mergeE_3 hz i3 hix (by omega) (by omega) (by assumption);refine BU (t:=4) (u:=5) (T:=26) (n:=5) [] (by kernel_rfl) rfl (by kernel_rfl) rfl (BN (n:=5) (cs:=AJ) (b:=b5) (off:=0) (T:=26) (fz:=(0,0)) (vs:=DP) (by simp) rfl) (.inl ⟨by kernel_rfl,rfl⟩) rfl (TC _ (TC _ (TC _ (TC _ (TT (TR _) (TB _ _)))))) (IT d2 hJ0) ?_;exact ⟨_,(by rw [hE]),rfl,((show (⟨0,0,[],[],[]⟩:Lin)=(AR A B).1 from by rw [hE];rfl)▸(BL (IsRows.nil _) (IsSl.nil _) (IsSl.nil _)))⟩
  have i0:=h6;refine AM (NX (rqr (sp 2 [(63,.bool (cmp .lss ix 0))] (se (rc 63 rfl (fun h7=>?_) (fun h7=>?_))))))
  ·
   have i1:=h7;have h7:=BX h7;refine rd 8 [(0,true),(1,true),(2,true),(3,true),(4,true),(5,true),(6,true),(7,false)] ((bX c8 (AH A (vS a2 A.start.length a3) (vS a4 A.keeps.length a5) (vS a0 (A.slips++(B.slips.take k).filter (IM A.slips)).length a1)) 26)::(bX b5 AJ 26)::(bX b3 (AH B (vS c2 B.start.length c3) (vS c4 B.keeps.length c5) (vS a7 B.slips.length a8)) 26)::(bX b1 (AH A (vS b7 A.start.length b8) (vS b9 A.keeps.length c0) (vS b0 A.slips.length b2)) 26)::[]) (a6++F) (ox 1 [(64,vP c8 4)] ?_);refine AD (dlb 65 0 4 c8 (vS a0 (A.slips++(B.slips.take k).filter (IM A.slips)).length a1)) (ox 1 [(66,vP b3 4)] ?_);refine AD (dlb 67 2 4 b3 (vS a7 B.slips.length a8)) (ox 1 [(68,vI ↑k)] ?_);refine AD (di 69 8 k c6.addr) ?_;refine AD (dln 70 69 28 (EU (B.slips.getD k AB)) rfl (CB (vals:=CV) (fun _=>rfl) c6 k (by omega))) ?_;refine GA (sbs 71 28 1 (AV (B.slips.getD k AB)) (fun l0=>?_));refine CG (S':=((bX l0 (AV (B.slips.getD k AB)) 28)::(a6++F))) ((PS _ _ _).trans (PC _ ((PS _ _ _).trans (PC _ ((PS _ _ _).trans (PC _ (PS _ _ _))))))) ?_;refine GX (nm (nm ?_));refine sS (sap (d:=72) 65 71 24 28 8 64 (.agg IQ) AX (A.slips++(B.slips.take k).filter (IM A.slips)) [B.slips.getD k AB] a6 rfl rfl a9 (PU (PU (PU (PU PM.symm)))) (CD _) (DI 4 rfl rfl) (fun q2 f0 f4=>(AZ (M':=((bX c8 (AH A (vS a2 A.start.length a3) (vS a4 A.keeps.length a5) (vS a0 (A.slips++(B.slips.take k).filter (IM A.slips)).length a1)) 26)::(bX b5 AJ 26)::(bX b3 (AH B (vS c2 B.start.length c3) (vS c4 B.keeps.length c5) (vS a7 B.slips.length a8)) 26)::(bX b1 (AH A (vS b7 A.start.length b8) (vS b9 A.keeps.length c0) (vS b0 A.slips.length b2)) 26)::(f0++F))) (fun w h=>(h.perm (((PA _ ((PC _ ((PC _ ((PC _ (PS _ _ _)).trans (PS _ _ _))).trans (PS _ _ _))).trans (PS _ _ _))).trans PM).trans (PC _ (PW (PW (PW PM)))))).sub (TC _ (TR _))) ?_)));obtain ⟨e3,e4,rfl,p0⟩:=f4.shape;refine sp 1 [(73,vP c8 4)] (sS (ss 0 4 c8 [vS e3 ((A.slips++(B.slips.take k).filter (IM A.slips))++([B.slips.getD k AB])).length e4] (BQ A (vS a2 A.start.length a3) (vS a4 A.keeps.length a5) (vS e3 ((A.slips++(B.slips.take k).filter (IM A.slips))++([B.slips.getD k AB])).length e4)) (_::_::_::_::_) (cs:=[_,_,_,_,_]) rfl rfl (ee (NB (NX (rr (sp 1 [(35,vI ↑k)] (sd (da 36 ↑k 1) (sp 1 [(9,vI (↑k+1))] (ee ?_))))))))));refine AO (B.slips.length-(k+1)) (by omega) ?_;intro a w hS hD hW;exact ⟨J0,k+1,vS e3 ((A.slips++(B.slips.take k).filter (IM A.slips))++([B.slips.getD k AB])).length e4,f0,hJ0,by omega,mrg_any f9 (by omega) (clash_lt hix (by omega)),(by rw [mrg_new hix (by omega) (by omega)];exact f4),hS.sub su,hD,hW,rfl⟩
  have i1:=h7;have h7:=CF h7;refine AM (NB (NX (rr (sp 1 [(35,vI ↑k)] (sd (da 36 ↑k 1) (sp 1 [(9,vI (↑k+1))] (ee ?_)))))));refine AO (B.slips.length-(k+1)) (by omega) ?_;intro a w hS hD hW;exact ⟨J0,k+1,vS a0 (A.slips++(B.slips.take k).filter (IM A.slips)).length a1,a6,hJ0,by omega,mrg_any f9 (by omega) (clash_eq hix (clash_f (by assumption) (by omega))),(by rw [mrg_old hix (by omega) (by omega)];exact a9),hS.sub su,hD,hW,rfl⟩
 have h9:=h4;have h4:=CF h4;refine BR 0 (EP (EP (EB (NX (rq (rqr (sp 1 [(74,vP c8 4)] (sd (dlb 75 0 4 c8 (vS a0 (A.slips++(B.slips.take k).filter (IM A.slips)).length a1)) (sp 2 [(77,.bool (cmp .gtr (↑((A.slips++(B.slips.take k).filter (IM A.slips)).length)) 8))] (se (rc 77 rfl (fun h8=>?_) (fun h8=>?_))))))))))))
 ·
  have i2:=h8;have h8:=JY h8;refine rqr (sp 1 [(78,.agg AJ)] (sS (ss 1 0 b5 DP DP (_::_::_::_::_) (cs:=[_,_,_,_,_]) rfl rfl (sp 1 [(5,vI 6)] (se (BD (RP ?_)))))));have hE:=mergeE_4 hz i3 f9 (by omega) (by omega);refine BU (t:=4) (u:=5) (T:=26) (n:=5) [] (by kernel_rfl) rfl (by kernel_rfl) rfl (BN (n:=5) (cs:=AJ) (b:=b5) (off:=0) (T:=26) (fz:=(0,0)) (vs:=DP) (by simp) rfl) (.inl ⟨by kernel_rfl,rfl⟩) rfl (TC _ (TC _ (TC _ (TC _ (TT (TR _) (TB _ _)))))) (IT d2 hJ0) ?_;exact ⟨_,(by rw [hE]),rfl,((show (⟨0,0,[],[],[]⟩:Lin)=(AR A B).1 from by rw [hE];rfl)▸(BL (IsRows.nil _) (IsSl.nil _) (IsSl.nil _)))⟩
 have i2:=h8;have h8:=MB h8;refine AM (NX (rq ?_));refine CN (B:=((bX c8 (AH A (vS a2 A.start.length a3) (vS a4 A.keeps.length a5) (vS a0 (A.slips++(B.slips.take k).filter (IM A.slips)).length a1)) 26)::(bX b5 AJ 26)::(bX b3 (AH B (vS c2 B.start.length c3) (vS c4 B.keeps.length c5) (vS a7 B.slips.length a8)) 26)::(bX b1 (AH A (vS b7 A.start.length b8) (vS b9 A.keeps.length c0) (vS b0 A.slips.length b2)) 26)::F)) AB a9 (by first | omega | (simp only [LS,LC,LN,LA,LK,LD] <;> omega) | decide) (PU (PU (PU PM.symm))) (PR _) (fun p6 d6 d4=>?_);replace b4:=b4.mono d6;replace b6:=b6.mono d6;obtain ⟨g1,g3,g2,g6,d9,g4,g5,g7⟩:=id d4;cases d9;refine rr (sd (dnb 79 0 0 c8 (BQ A (vS a2 A.start.length a3) (vS a4 A.keeps.length a5) (vS a0 (A.slips++(B.slips.take k).filter (IM A.slips)).length a1))) (sS (ss 1 0 b5 (BQ A (vS a2 A.start.length a3) (vS a4 A.keeps.length a5) (vS a0 (A.slips++(B.slips.take k).filter (IM A.slips)).length a1)) (BQ A (vS a2 A.start.length a3) (vS a4 A.keeps.length a5) (vS a0 (A.slips++(B.slips.take k).filter (IM A.slips)).length a1)) (_::_::_::_::_) (cs:=[_,_,_,_,_]) rfl rfl (sp 1 [(5,vI 0)] (se (BD ?_))))));have hE:=mergeE_5 hz i3 f9 (by omega) (by omega);refine BU (t:=4) (u:=5) (T:=26) (n:=5) [] (by kernel_rfl) rfl (by kernel_rfl) rfl (BN (n:=5) (cs:=(AH A (vS a2 A.start.length a3) (vS a4 A.keeps.length a5) (vS a0 (A.slips++(B.slips.take k).filter (IM A.slips)).length a1))) (b:=b5) (off:=0) (T:=26) (fz:=(0,0)) (vs:=(BQ A (vS a2 A.start.length a3) (vS a4 A.keeps.length a5) (vS a0 (A.slips++(B.slips.take k).filter (IM A.slips)).length a1))) (by simp) rfl) (.inl ⟨by kernel_rfl,rfl⟩) rfl (TC _ (TC _ (TC _ (TC _ (TR _))))) (IT (IT d2 hJ0) d6) ?_;exact ⟨_,(by rw [hE]),rfl,((show (⟨A.places,A.sorts,A.start,A.keeps,A.slips++(B.slips.take k).filter (IM A.slips)⟩:Lin)=(AR A B).1 from by rw [hE];exact mrgL_k (by omega))▸(BL b4 b6 d4))⟩
noncomputable def c_EqKeepS_ct:=cod Tryz.f112
theorem EqKeepS_ct (I:Imm) (a:Value) (xs:List Keep) (b:Value) (ys:List Keep) (a_f:EV I a xs) (b_f:EV I b ys):CtV Tryz.prog 112 #[a,b] I (.bool (decide (xs=ys))):=by
 obtain ⟨a0,a1,b1,b4,rfl,b2,b3,a7⟩:=id a_f;obtain ⟨a2,a3,b5,b8,rfl,b6,b7,a8⟩:=id b_f;refine fr (args:=[_,_]) (N:=26) Tryz.func112 (fun F=>?_);show Run _ _ (c_EqKeepS_ct []) _ _ [(0,_),(1,_)] _ _;refine rnm (rqr ?_);refine sp 1 [(4,.bool false)] (se (rq (rqr (sp 5 [(10,.bool (!(cmp .eql (↑(xs.length)) (↑(ys.length)))))] (se (rc 10 rfl (fun h1=>?_) (fun h1=>?_)))))))
 ·
  have a4:=h1;have h1:=BG (BF h1);refine rqr (sp 1 [(4,.bool false)] (se (BD (RP (rt1 4 rfl (IR _) ?_)))));exact ⟨by rw [decide_eq_false (fun e=>h1 (by rw [e]))],rfl⟩
 have a4:=h1;have h1:=BE (BC h1);refine AM (NX (rq (rqr (sp 3 [(13,vI 0),(12,vI (↑(xs.length)))] (se (rb 0 ?_))))));refine rl (fun mz a w=>∃ k:Nat,(k≤xs.length)∧(xs.length=ys.length)∧(xs.take k=ys.take k)∧SD 26 [(13,vI ↑k),(0,vS a0 xs.length a1),(1,vS a2 ys.length a3),(12,vI (↑(xs.length)))] I F a w (mz=xs.length-k)) ?_ ?_
 ·intro a w hS hD hW;exact ⟨_,0,Nat.zero_le _,by omega,rfl,hS.sub su,hD,hW,rfl⟩
 rintro mz a w ⟨k,hk,hl,ht,hS,hD,hW,rfl⟩
 refine AU hS hD hW ?_;clear hS hD hW a w;refine rqr (sp 1 [(14,.bool (cmp .lss ↑k (↑(xs.length))))] (se (rq (rc 14 rfl (fun h2=>?_) (fun h2=>?_)))))
 ·
  have a5:=h2;have h2:=BX h2;refine AM (NX (rq (rb 1 (rqr (sp 2 [(5,vI ↑k)] (se (rq ?_)))))));refine rd0 8 (ox 2 [(17,vI ↑k),(16,vS a0 xs.length a1)] ?_);refine AD (di 18 3 k a7.addr) ?_;refine AD (dln 19 18 50 (NG (xs.getD k AN)) rfl (CB (vals:=FS) (fun _=>rfl) a7 k (by omega))) (ox 2 [(21,vI ↑k),(20,vS a2 ys.length a3)] ?_);refine AD (di 22 3 k a8.addr) ?_;refine AD (dln 23 22 50 (NG (ys.getD k AN)) rfl (CB (vals:=FS) (fun _=>rfl) a8 k (by omega))) ?_;refine BA (sd (GQ (L:=[(0,.i .i64),(1,.i .i64),(2,.i .i64)]) (x:=(.tmp 19)) (y:=(.tmp 23)) (T:=50) (T':=50) (d:=24) (ty:=4) (gd:=none) (by kernel_rfl) rfl (by kernel_rfl) rfl rfl rfl (eqKeep (xs.getD k AN) (ys.getD k AN))) (se (rc 24 rfl (fun h3=>?_) (fun h3=>?_))))
  ·
   have a6:=h3;have h3:=OH (BF h3);refine rqr (sp 1 [(4,.bool false)] (se (BD (RB (RP (RP (RB (RP (rt1 4 rfl (IR _) ?_)))))))));exact ⟨by rw [decide_eq_false (LZ hl h3)],rfl⟩
  have a6:=h3;have h3:=NE (BC h3);refine AM (NB (NX (rr (sd (da 25 ↑k 1) (sp 1 [(13,vI (↑k+1))] (ee ?_))))));refine AO (xs.length-(k+1)) (by omega) ?_;intro a w hS hD hW;exact ⟨k+1,by omega,hl,FF (d:=AN) hl ht (by omega) h3,hS.sub su,hD,hW,rfl⟩
 have a5:=h2;have h2:=CF h2;refine BR 0 (EP (EP (EB (NX (rqr (sp 1 [(4,.bool true)] (se (BD (rt1 4 rfl (IR _) ?_)))))))));exact ⟨by rw [decide_eq_true (HC hl ht (by omega))],rfl⟩
noncomputable def c_EqRowsF:=cod Tryz.f110
theorem EqRowsF_ct (I:Imm) (a:Value) (xs:List (List Int)) (b:Value) (ys:List (List Int)) (a_f:IsRows I a xs) (b_f:IsRows I b ys):CtV Tryz.prog 110 #[a,b,.func (.func 111) #[] #[]] I (.bool (decide (xs=ys))):=by
 obtain ⟨a8,a9,d3,d6,b8,rfl,d4,d5,b5,b9⟩:=id a_f;obtain ⟨b0,b1,d7,e0,c1,rfl,d8,d9,b6,c2⟩:=id b_f;refine fr (args:=[_,_,_]) (N:=32) Tryz.func110 (fun F=>?_);show Run _ _ (c_EqRowsF []) _ _ [(0,_),(1,_),(2,_)] _ _;refine rnm (rqr ?_);refine sp 1 [(6,.bool false)] (se (rq (rqr (sp 5 [(14,.bool (!(cmp .eql (↑(xs.length)) (↑(ys.length)))))] (se (rc 14 rfl (fun h1=>?_) (fun h1=>?_)))))))
 ·
  have b2:=h1;have h1:=BG (BF h1);refine rqr (sp 1 [(6,.bool false)] (se (BD (RP (rt1 6 rfl (IR _) ?_)))));exact ⟨by rw [decide_eq_false (fun e=>h1 (by rw [e]))],rfl⟩
 have b2:=h1;have h1:=BE (BC h1);refine AM (NX (rq (rqr (sp 3 [(17,vI 0),(16,vI (↑(xs.length))),(15,vS a8 xs.length a9)] (se (rb 0 ?_))))));refine rl (fun mz a w=>∃ k:Nat,(k≤xs.length)∧(xs.length=ys.length)∧(xs.take k=ys.take k)∧SD 32 [(17,vI ↑k),(1,vS b0 ys.length b1),(2,.func (.func 111) #[] #[]),(15,vS a8 xs.length a9),(16,vI (↑(xs.length)))] I F a w (mz=xs.length-k)) ?_ ?_
 ·intro a w hS hD hW;exact ⟨_,0,Nat.zero_le _,by omega,rfl,hS.sub su,hD,hW,rfl⟩
 rintro mz a w ⟨k,hk,hl,ht,hS,hD,hW,rfl⟩
 refine AU hS hD hW ?_;clear hS hD hW a w;refine rqr (sp 1 [(18,.bool (cmp .lss ↑k (↑(xs.length))))] (se (rq (rc 18 rfl (fun h2=>?_) (fun h2=>?_)))))
 ·
  have b3:=h2;have h2:=BX h2;refine AM (NX (rq (rb 1 (rqr (sp 1 [(19,vI ↑k)] (sd (di 20 1 k b5.addr) ?_))))));have a0:=b9 k (by omega);obtain ⟨a2,a3,c3,c6,a4,c4,c5,c7⟩:=id a0;rw [a4] at a0;refine sd (DE (dl 21 (DY b5 k (by omega))) a4) (sp 2 [(8,vS a2 (xs.getD k []).length a3),(7,vI ↑k)] (sn (sp 2 [(23,vI ↑k),(22,vS b0 ys.length b1)] (sd (di 24 1 k b6.addr) ?_))));have a1:=c2 k (by omega);obtain ⟨a5,a6,c8,d1,a7,c9,d0,d2⟩:=id a1;rw [a7] at a1;refine sd (DE (dl 25 (DY b6 k (by omega))) a7) (sp 1 [(9,vS a5 (ys.getD k []).length a6)] (sn (sp 3 [(28,vS a5 (ys.getD k []).length a6),(27,vS a2 (xs.getD k []).length a3),(26,.func (.func 111) #[] #[])] (sd (dc 29 (fun I' hI=>(slicesEqual_ct I' _ _ _ _ (a0.mono hI) (a1.mono hI) :))) (sp 1 [(30,.bool (!(decide ((xs.getD k [])=(ys.getD k [])))))] (se (rc 30 rfl (fun h3=>?_) (fun h3=>?_))))))))
  ·
   have b4:=h3;have h3:=OH (BF h3);refine rqr (sp 1 [(6,.bool false)] (se (BD (RB (RP (RP (RB (RP (rt1 6 rfl (IR _) ?_)))))))));exact ⟨by rw [decide_eq_false (LZ hl h3)],rfl⟩
  have b4:=h3;have h3:=NE (BC h3);refine AM (NB (NX (rr (sd (da 31 ↑k 1) (sp 1 [(17,vI (↑k+1))] (ee ?_))))));refine AO (xs.length-(k+1)) (by omega) ?_;intro a w hS hD hW;exact ⟨k+1,by omega,hl,FF (d:=[]) hl ht (by omega) h3,hS.sub su,hD,hW,rfl⟩
 have b3:=h2;have h2:=CF h2;refine BR 0 (EP (EP (EB (NX (rqr (sp 1 [(6,.bool true)] (se (BD (rt1 6 rfl (IR _) ?_)))))))));exact ⟨by rw [decide_eq_true (HC hl ht (by omega))],rfl⟩
end Go.Proofs.YtgcemienebmdeaaGreat
namespace Go.Sl
open Go
open Go.Conc (G)
inductive Tree
  | leaf
  | node (f:Go.World→Tree)
inductive Twig:Tree→Tree→Prop
  | mk (f:Go.World→Tree) (w:Go.World):Twig (f w) (.node f)
theorem acc_tree (x:Tree):Acc Twig x:=by
  induction x with
  | leaf=>exact ⟨_,fun y h=>by cases h⟩
  | node f ih=>exact ⟨_,fun y h=>by cases h with | mk _ w=>exact ih w⟩
def Red (l' l:List Tree):Prop:=∃ A x y B,l=A++x::B∧l'=A++y::B∧Twig y x
theorem acc_red (l:List Tree):Acc Red l:=by
  induction l with
  | nil=>exact ⟨_,fun l' ⟨A,x,y,B,e,_⟩=>by cases A <;> simp at e⟩
  | cons x l ih=>
    have hx:=acc_tree x
    induction hx generalizing l with
    | intro x _ ihx=>
      induction ih with
      | intro l hl ihl=>
        refine ⟨_,fun l' ⟨A,u,v,B,e1,e2,s⟩=>?_⟩;cases A with
        | nil=>
          simp only [List.nil_append,List.cons.injEq] at e1 e2;obtain ⟨rfl,rfl⟩:=e1;subst e2;exact ihx v s l ⟨_,hl⟩
        | cons a A=>
          simp only [List.cons_append,List.cons.injEq] at e1 e2;obtain ⟨rfl,rfl⟩:=e1;subst e2;exact ihl _ ⟨A,u,v,B,rfl,rfl,s⟩
def natT:Nat→Tree
  | 0=>.leaf
  | n+1=>.node fun _=>natT n
def NJ (n:Nat) (τ:Nat→Tree):List Tree:=(List.range n).map τ
def setT (τ:Nat→Tree) (i:Nat) (x:Tree):Nat→Tree:=fun j=>if j=i then x else τ j
theorem KJ (τ:Nat→Tree) (i:Nat) (x:Tree):setT τ i x i=x:=by simp [setT]
theorem II (τ:Nat→Tree) {i j:Nat} (x:Tree) (h:j≠i):setT τ i x j=τ j:=by simp [setT,h]
theorem QE {n i:Nat} {τ:Nat→Tree} {y:Tree} (hi:i<n) (h:Twig y (τ i)):Red (NJ n (setT τ i y)) (NJ n τ):=by
  obtain ⟨m,rfl⟩:∃ m,n=i+(m+1):=⟨n-(i+1),by omega⟩;have split:List.range (i+(m+1))=List.range i++i::(List.range' (i+1) m):=by
    rw [List.range_eq_range',List.range_eq_range',← List.range'_append_1,List.range'_succ];simp
  refine ⟨(List.range i).map τ,τ i,y,(List.range' (i+1) m).map τ,?_,?_,h⟩
  · unfold NJ;rw [split];simp
  · unfold NJ
    rw [split,List.map_append,List.map_cons,KJ]
    congr 1
    · exact List.map_congr_left fun j hj=>II τ y (by have:=List.mem_range.1 hj;omega)
    · congr 1
      exact List.map_congr_left fun j hj=>II τ y (by have:=List.mem_range'.1 hj;omega)
def Tr (P:Program) (Q:Cf→Prop):Tree→Cf→Prop
  | .leaf,c=>Q c
  | .node f,c=>∀ w,Mod c.σ w→∃ fr' cs' w' es σ',(∀ main,stepG P main (G c.fr c.cs) w=.go (G fr' cs') w' es)∧Guar c.σ w w' es σ'∧Tr P Q (f w) ⟨fr',cs',σ'⟩
theorem tr_one {P:Program} {c:Cf} {Q:Cf→Prop} (h:OneStep P c fun d=>∃ T,Tr P Q T d):∃ T,Tr P Q T c:=by
  have:∀ w,∃ T,Mod c.σ w→∃ fr' cs' w' es σ',(∀ main,stepG P main (G c.fr c.cs) w=.go (G fr' cs') w' es)∧Guar c.σ w w' es σ'∧Tr P Q T ⟨fr',cs',σ'⟩:=fun w=>by
    by_cases hw:Mod c.σ w
    · obtain ⟨fr',cs',w',es,σ',h1,h2,T,h3⟩:=h w hw
      exact ⟨T,fun _=>⟨fr',cs',w',es,σ',h1,h2,h3⟩⟩
    · exact ⟨.leaf,fun h=>absurd h hw⟩
  exact ⟨.node fun w=>Classical.choose (this w),fun w=>Classical.choose_spec (this w)⟩
theorem tr_bind {P:Program} {Q R:Cf→Prop} (k:∀ d,Q d→∃ T,Tr P R T d):∀ (T:Tree) (c:Cf),Tr P Q T c→∃ T,Tr P R T c:=by
  intro T
  induction T with
  | leaf=>exact fun c h=>k c h
  | node f ih=>
    intro c h;exact tr_one fun w hw=>let ⟨fr',cs',w',es,σ',h1,h2,h3⟩:=h w hw;⟨fr',cs',w',es,σ',h1,h2,ih w _ h3⟩
@[reducible] def JC (P:Program):Jud P where
  gets c Q:=∃ T,Tr P Q T c
  stop h:=⟨.leaf,h⟩
  bind h k:=let ⟨T,hT⟩:=h;tr_bind k T _ hT
  one h:=tr_one (h.mono fun _ hd=>⟨.leaf,hd⟩)
open Go Go.Conc
def locB:Loc→Option Nat
  | .cell a=>some a.block
  | .obj r=>some r
  | _=>none
def Kn (t:Trace) (g:Nat) (σ:GW):Prop:=∀ i a b,touchAt t i=some a→locB a.loc=some b→σ.blk b≠none→(a.write=true∨¬ σ.pub b)→Knows t g i
def Low (t:Trace) (n:Nat):Prop:=∀ op∈t,op.act.low n
theorem low_touch {x:MemAct} {a:Touch} {b n:Nat} (h:x.low n) (ha:x.touch?=some a) (hb:locB a.loc=some b):b<n:=by
  cases x with
  | access e=>
    simp only [MemAct.touch?,Option.some.injEq] at ha;subst ha;obtain ⟨loc,wr,sy⟩:=e;cases loc <;> simp only [locB,Option.some.injEq] at hb <;> first | (subst hb;exact h) | cases hb
  | mark m=>
    cases m <;> simp only [MemAct.touch?,Option.some.injEq] at ha <;> first | (subst ha;simp only [locB,Option.some.injEq] at hb;subst hb;exact h) | cases ha
  | _=>cases ha
theorem Low.at {t:Trace} {n i b:Nat} {a:Touch} (h:Low t n) (ha:touchAt t i=some a) (hb:locB a.loc=some b):b<n:=by
  obtain ⟨op,ho,hox⟩:=touch_of ha;exact low_touch (h op (mem_of_getElem? ho)) hox hb
theorem ev_touch {σ:GW} {e:Event} {x:Touch} (h:okEv σ e) (hx:(MemAct.ofEvent e).touch?=some x):∃ b,locB x.loc=some b∧σ.blk b≠none∧(x.write=true→¬ σ.pub b):=by
  obtain ⟨loc,wr,sy⟩:=e;cases loc with
  | cell a=>
    simp only [MemAct.ofEvent,MemAct.touch?,Option.some.injEq] at hx;subst hx;exact ⟨_,rfl,h.1,h.2⟩
  | obj r=>
    cases wr <;> cases sy <;> simp only [MemAct.ofEvent,MemAct.touch?,Option.some.injEq] at hx <;> first | (subst hx;exact ⟨_,rfl,h.1,h.2⟩) | cases hx
  | mark m=>cases m <;> first | (simp only [MemAct.ofEvent,MemAct.touch?] at hx;cases hx;done) | exact h.elim
  | output=>exact h.elim
  | goroutines=>exact h.elim
theorem ev_low {σ:GW} {w:Go.World} {e:Event} (h:okEv σ e) (hw:Mod σ w):(MemAct.ofEvent e).low w.heap.size:=by
  have lt:∀ b,σ.blk b≠none→b<w.heap.size:=fun b hb=>by
    cases hx:σ.blk b with
    | none=>exact absurd hx hb
    | some o=>exact (Array.getElem?_eq_some_iff.1 (hw.blk b o hx)).1
  obtain ⟨loc,wr,sy⟩:=e;cases loc with
  | cell a=>exact lt _ h.1
  | obj r=>cases wr <;> cases sy <;> exact lt _ h.1
  | mark m=>cases m <;> first | trivial | exact h.elim
  | output=>exact h.elim
  | goroutines=>exact h.elim
theorem ev_word {σ:GW} {e:Event} (h:okEv σ e) (m:Mark) (hm:MemAct.ofEvent e=.mark m):Neutral m:=by
  obtain ⟨loc,wr,sy⟩:=e;cases loc with
  | cell a=>cases hm
  | obj r=>cases wr <;> cases sy <;> cases hm
  | mark k=>cases k <;> first | (cases hm;rfl) | exact h.elim
  | output=>exact h.elim
  | goroutines=>exact h.elim
section
variable {t:Trace} {g j:Nat} {σ σ' τ:GW} {w w':Go.World} {es:Array Event} {fn:FuncId} {pos:String}
theorem words_own (h:Wordless t) (G:Guar σ w w' es σ'):Wordless (t++MemOp.ofEvents g fn pos es):=
  h.append fun op hop m hm=>by obtain ⟨e,he,rfl⟩:=Go.Conc.mem_ofEvents hop;exact ev_word (G.evs e he) m hm
theorem low_mono {n m:Nat} (h:Low t n) (hn:n≤m):Low t m:=fun op hop=>MemAct.low_mono hn (h op hop)
theorem low_own (h:Low t w.heap.size) (G:Guar σ w w' es σ'):Low (t++MemOp.ofEvents g fn pos es) w'.heap.size:=
  seen_app (low_mono h G.size) fun op hop=>by obtain ⟨e,he,rfl⟩:=Go.Conc.mem_ofEvents hop;exact ev_low (G.evs e he) G.mod
theorem kn_own (h:Kn t g σ) (hl:Low t w.heap.size) (G:Guar σ w w' es σ'):Kn (t++MemOp.ofEvents g fn pos es) g σ':=by
  intro i a b ha hb hk hp;obtain ⟨x,hx,hxa⟩:=touch_of ha;rcases getElem?_append_cases hx with ⟨hi,hx'⟩ | ⟨_,hxu⟩
  · have ha':touchAt t i=some a:=by rw [touchAt_of hx'];exact hxa
    have:=hl.at ha' hb;rcases G.new b hk with hk | hk
    · exact (h i a b ha' hb hk (by rw [← G.pub];exact hp)).app _
    · omega
  · obtain ⟨e,_,rfl⟩:=Go.Conc.mem_ofEvents hxu
    exact knows_own hx
theorem kn_other (h:Kn t j τ) (hτ:Mod τ w) (sep:∀ b,τ.blk b≠none→σ.blk b≠none→τ.pub b∧σ.pub b) (G:Guar σ w w' es σ'):Kn (t++MemOp.ofEvents g fn pos es) j τ:=by
  intro i a b ha hb hk hp;obtain ⟨x,hx,hxa⟩:=touch_of ha;rcases getElem?_append_cases hx with ⟨hi,hx'⟩ | ⟨_,hxu⟩
  · exact (h i a b (by rw [touchAt_of hx'];exact hxa) hb hk hp).app _
  · exfalso
    obtain ⟨e,he,rfl⟩:=Go.Conc.mem_ofEvents hxu;obtain ⟨b',h1,h2,h3⟩:=ev_touch (G.evs e he) hxa;rw [hb] at h1;cases h1;have hlt:b<w.heap.size:=by
      cases hx:τ.blk b with
      | none=>exact absurd hx hk
      | some o=>exact (Array.getElem?_eq_some_iff.1 (hτ.blk b o hx)).1
    rcases G.new b h2 with h4 | h4
    · obtain ⟨s1,s2⟩:=sep b hk h4
      rcases hp with hp | hp
      · exact h3 hp (by rw [G.pub];exact s2)
      · exact hp s1
    · omega
theorem kn_app {u:Trace} (h:Kn t j τ) (hu:∀ op∈u,op.act.touch?=none):Kn (t++u) j τ:=by
  intro i a b ha hb hk hp;obtain ⟨x,hx,hxa⟩:=touch_of ha;rcases getElem?_append_cases hx with ⟨hi,hx'⟩ | ⟨_,hxu⟩
  · exact (h i a b (by rw [touchAt_of hx'];exact hxa) hb hk hp).app _
  · rw [hu x hxu] at hxa;cases hxa
theorem clean_own {said:Bool} (h:¬ Race said t) (hk:Kn t g σ) (hl:Low t w.heap.size) (G:Guar σ w w' es σ'):¬ Race said (t++MemOp.ofEvents g fn pos es):=by
  refine noRace_append h (fun op hop=>by obtain ⟨e,_,rfl⟩:=Go.Conc.mem_ofEvents hop;rfl) fun i a ha op hop b hb hc=>?_
  obtain ⟨e,he,rfl⟩:=Go.Conc.mem_ofEvents hop;obtain ⟨n,h1,h2,h3⟩:=ev_touch (G.evs e he) hb;have hn:locB a.loc=some n:=by rw [hc.1];exact h1
  have:=hl.at ha hn;rcases G.new n h2 with h4 | h4
  · refine hk i a n ha hn h4 ?_
    rcases hc.2.2.1 with hw | hw
    · exact .inl hw
    · exact .inr (by rw [← G.pub];exact h3 hw)
  · omega
theorem OG {said:Bool} {u:Trace} (h:¬ Race said t) (hu:∀ op∈u,op.act.touch?=none):¬ Race said (t++u):=by
  rintro ⟨i,j,hij,⟨a,b,ha,hb,hc⟩,n1,n2⟩
  obtain ⟨x,hx,hxa⟩:=touch_of ha;obtain ⟨y,hy,hyb⟩:=touch_of hb;rcases getElem?_append_cases hy with ⟨hj,hy'⟩ | ⟨_,hyu⟩
  · have hi:i<t.size:=Nat.lt_trans hij hj
    have hx':t[i]?=some x:=by rw [← getElem?_append_old (u:=u) hi];exact hx
    exact h ⟨i,j,hij,⟨a,b,by simp [Trace.act?,hx',hxa],by simp [Trace.act?,hy',hyb],hc⟩,fun e=>n1 (hb_app u e),fun e=>n2 (hb_app u e)⟩
  · rw [hu y hyu] at hyb;cases hyb
end
def QT (P:Program) (r:Nat) (m:Value) (n:Nat) (c:Cf):Prop:=
  (∀ w,Mod c.σ w→∃ z,stepG P false (G c.fr c.cs) w=.comm (G c.fr c.cs) #[scase r m z] true .send w #[])∧QuitsIn P n (Go.Conc.served (G c.fr c.cs) undef)
def Wk (P:Program) (r:Nat) (m:Value):Tree→Cf→Prop
  | .leaf,_=>False
  | .node f, c => (∃ n, (∀ w, f w = natT n) ∧ QT P r m n c) ∨
      ∀ w,Mod c.σ w→∃ fr' cs' w' es σ',stepG P false (G c.fr c.cs) w=.go (G fr' cs') w' es∧Guar c.σ w w' es σ'∧Wk P r m (f w) ⟨fr',cs',σ'⟩
theorem wk_of_tr {P:Program} {r:Nat} {m:Value}:∀ (T:Tree) (c:Cf),Tr P (fun d=>∃ n,QT P r m n d) T c→∃ T,Wk P r m T c:=by
  intro T
  induction T with
  | leaf=>exact fun c ⟨n,h⟩=>⟨.node fun _=>natT n,.inl ⟨n,fun _=>rfl,h⟩⟩
  | node f ih=>
    intro c h;have:∀ w,∃ T,Mod c.σ w→∃ fr' cs' w' es σ',stepG P false (G c.fr c.cs) w=.go (G fr' cs') w' es∧Guar c.σ w w' es σ'∧Wk P r m T ⟨fr',cs',σ'⟩:=fun w=>by
      by_cases hw:Mod c.σ w
      · obtain ⟨fr',cs',w',es,σ',h1,h2,h3⟩:=h w hw
        obtain ⟨T,hT⟩:=ih w _ h3;exact ⟨T,fun _=>⟨fr',cs',w',es,σ',h1 false,h2,hT⟩⟩
      · exact ⟨.leaf,fun h=>absurd h hw⟩
    exact ⟨.node fun w=>Classical.choose (this w),.inr fun w=>Classical.choose_spec (this w)⟩
abbrev Acts:=Nat→Option (Cf × Value)
def HD (act:Acts) (i:Nat):Value:=match act i with | some x=>x.2 | none=>undef
def setA (act:Acts) (i:Nat) (x:Option (Cf × Value)):Acts:=fun j=>if j=i then x else act j
theorem BH (act:Acts) (i:Nat) (x:Option (Cf × Value)):setA act i x i=x:=by simp [setA]
theorem BS (act:Acts) {i j:Nat} (x:Option (Cf × Value)) (h:j≠i):setA act i x j=act j:=by simp [setA,h]
structure Ch (h:Gh) (σ:GW) (w:Go.World) (t:Trace) (act:Acts) (sent:List (Nat × Value)) (q:Nat) (tm:Bool) (L:List Nat):Prop where
  heap:w.heap[h.r]?=some (.chan h.cap (sent.map Prod.snd).toArray false (q+sent.length) q tm)
  free:σ.blk h.r=none
  nodup:L.Nodup
  mem:∀ i,i∈L↔act i≠none
  outs:h.outs.Perm (sent.map Prod.snd++L.map (HD act))
  room:h.outs.length≤h.cap
  said:∀ k g v,sent[k]?=some (g,v)→0<g∧act g=none∧∃ p,t.act? p=some (.send h.r (q+k))∧t.g? p=some g∧∀ i a,touchAt t i=some a→t.g? i=some g→Before t i p
def Chn (o:Option Gh) (σ:GW) (w:Go.World) (t:Trace) (act:Acts) (sent:List (Nat × Value)):Prop:=
  match o with
  | none=>(∀ i,act i=none)∧sent=[]
  | some h=>∃ q tm L,Ch h σ w t act sent q tm L
structure Fr (P:Program) (σ:GW) (g0:Goroutine) (gs:Array Goroutine) (w:Go.World) (t:Trace) (τ:Nat→Tree) (act:Acts) (sent:List (Nat × Value)):Prop where
  main:gs[0]?=some g0
  mod:Mod σ w
  leav:∀ (i:Nat) (g:Goroutine),0<i→gs[i]?=some g→act i=none→∃ k,τ i=natT k∧QuitsIn P k g
  work:∀ i d m,act i=some (d,m)→0<i∧gs[i]?=some (G d.fr d.cs)∧Mod d.σ w∧∃ h,σ.gh=some h∧Wk P h.r m (τ i) d∧d.σ.blk h.r=none
  sep0:∀ i d m,act i=some (d,m)→∀ b,d.σ.blk b≠none→σ.blk b≠none→d.σ.pub b∧σ.pub b
  sep:∀ i j d m e n,i≠j→act i=some (d,m)→act j=some (e,n)→∀ b,d.σ.blk b≠none→e.σ.blk b≠none→d.σ.pub b∧e.σ.pub b
  chan:Chn σ.gh σ w t act sent
  clean:∀ said,¬ Race said t
  words:Wordless t
  low:Low t w.heap.size
  kn0:Kn t 0 σ
  knw:∀ j d m,act j=some (d,m)→Kn t j d.σ
  all:∀ i a,touchAt t i=some a→Knows t 0 i∨∃ g,t.g? i=some g∧0<g∧(act g≠none∨∃ v,(g,v)∈sent)
  num:∀ g v,(g,v)∈sent→g<gs.size
theorem Mod.same {σ:GW} {w w':Go.World} (h:Mod σ w) (ho:w'.os=w.os) (ht:w'.tape=w.tape) (hu:w'.output=w.output) (hb:∀ b o,σ.blk b=some o→w'.heap[b]?=w.heap[b]?):Mod σ w':=
  ⟨ho.trans h.os,ht.trans h.tape,hu.trans h.output,fun b o hx=>by rw [hb b o hx];exact h.blk b o hx,h.known⟩
theorem Mod.lt {σ:GW} {w:Go.World} (h:Mod σ w) {b:Nat} (hb:σ.blk b≠none):b<w.heap.size:=by
  cases hx:σ.blk b with
  | none=>exact absurd hx hb
  | some o=>exact (Array.getElem?_eq_some_iff.1 (h.blk b o hx)).1
theorem mod_other {κ σ σ':GW} {w w':Go.World} {es:Array Event} (hκ:Mod κ w) (sep:∀ b,κ.blk b≠none→σ.blk b≠none→κ.pub b∧σ.pub b) (g:Guar σ w w' es σ'):Mod κ w':=
  hκ.same g.os g.tape g.output fun b o hb=>by
    refine g.frame b ?_ (hκ.lt (by simp [hb]));cases hx:σ.blk b with
    | none=>exact .inl rfl
    | some y=>exact .inr (sep b (by simp [hb]) (by simp [hx])).2
section
variable {P:Program} {σ:GW} {g0:Goroutine} {gs:Array Goroutine} {w w':Go.World} {t:Trace} {τ:Nat→Tree} {act:Acts} {sent:List (Nat × Value)}
theorem Fr.draw (F:Fr P σ g0 gs w t τ act sent) (d:Nat):Fr P σ g0 gs (w.at d) t τ act sent:=
  ⟨F.main,F.mod.same rfl rfl rfl fun _ _ _=>rfl,F.leav,fun i d m h=>let ⟨h1,h2,h3,h4⟩:=F.work i d m h;⟨h1,h2,h3.same rfl rfl rfl fun _ _ _=>rfl,h4⟩,F.sep0,F.sep,by
    have:=F.chan
    unfold Chn at *
    cases hg:σ.gh with
    | none=>rw [hg] at this;exact this
    | some h=>rw [hg] at this;obtain ⟨q,tm,L,c⟩:=this;exact ⟨q,tm,L,c.heap,c.free,c.nodup,c.mem,c.outs,c.room,c.said⟩,F.clean,F.words,F.low,F.kn0,F.knw,F.all,F.num⟩
theorem Fr.still (F:Fr P σ g0 gs w t τ act sent) {a a':Goroutine} (hm:woken P a a' w' g0=g0):∀ (j:Nat) (g:Goroutine),gs[j]?=some g→woken P a a' w' g=g:=by
  intro j g hg;rcases Nat.eq_zero_or_pos j with rfl | hj
  · rw [F.main] at hg;cases hg;exact hm
  · cases hx:act j with
    | none=>
      obtain ⟨k,_,hq⟩:=F.leav j g hj hg hx;unfold woken
      split
      · exact again_running _ hq.status
      · rfl
    | some x=>
      obtain ⟨d,m⟩:=x;obtain ⟨_,h2,_⟩:=F.work j d m hx;rw [h2] at hg;cases hg;exact woken_run rfl
theorem HY {f:Goroutine→Goroutine} (hf:∀ (j:Nat) (g:Goroutine),gs[j]?=some g→f g=g) {i:Nat} {x:Goroutine} {j:Nat} (hj:j≠i):((gs.map f).setIfInBounds i x)[j]?=gs[j]?:=by
  rw [Array.getElem?_setIfInBounds_ne (Ne.symm hj),Array.getElem?_map];cases hg:gs[j]? with
  | none=>rfl
  | some g=>rw [Option.map_some,hf j g hg]
theorem DN {i:Nat} {g:Goroutine} (h:gs[i]?=some g):i<gs.size:=(Array.getElem?_eq_some_iff.1 h).1
theorem Ch.keep {h : Gh} {σ' : GW} {t' : Trace} {act' : Acts} {q : Nat} {tm : Bool} {L : List Nat} {u : Trace} (c : Ch h σ w t act sent q tm L) (hh : w'.heap[h.r]? = w.heap[h.r]?) (hf : σ'.blk h.r = none) (ha : ∀ i, act' i ≠ none ↔ act i ≠ none) (hmsg : ∀ i, HD act' i = HD act i)
    (hu:∀ op∈u,op.act.touch?=none∨op.g=0∨act op.g≠none) (ht:t'=t++u):Ch h σ' w' t' act' sent q tm L:=by
  subst ht;refine ⟨by rw [hh];exact c.heap,hf,c.nodup,fun i=>by rw [c.mem,ha],?_,c.room,fun k g v hk=>?_⟩
  · have:L.map (HD act')=L.map (HD act):=List.map_congr_left fun i _=>hmsg i
    rw [this];exact c.outs
  · obtain ⟨h0,h1,p,h2,h3,h4⟩:=c.said k g v hk
    have hp:=lt_of_act? h2;refine ⟨h0,?_,p,by rw [act?_old hp];exact h2,by rw [g?_old hp];exact h3,fun i a hi hg=>?_⟩
    · cases hx:act' g with
      | none=>rfl
      | some y=>exact absurd h1 ((ha g).1 (by simp [hx]))
    · obtain ⟨x,hx,hxa⟩:=touch_of hi
      rcases getElem?_append_cases hx with ⟨hlt,hx'⟩ | ⟨_,hxu⟩
      · exact (h4 i a (by rw [touchAt_of hx'];exact hxa) (by rw [g?_old hlt] at hg;exact hg)).app u
      · exfalso
        have hgx:x.g=g:=by simp only [Trace.g?,hx,Option.map_some,Option.some.injEq] at hg;exact hg
        rcases hu x hxu with h | h | h
        · rw [h] at hxa;cases hxa
        · omega
        · rw [hgx] at h;exact h h1
theorem Chn.lt (F:Fr P σ g0 gs w t τ act sent) {h:Gh} (hg:σ.gh=some h):h.r<w.heap.size:=by
  have:=F.chan;unfold Chn at this;rw [hg] at this;obtain ⟨q,tm,L,c⟩:=this;exact (Array.getElem?_eq_some_iff.1 c.heap).1
theorem Chn.open (F:Fr P σ g0 gs w t τ act sent) {h:Gh} (hg:σ.gh=some h):∃ buf s q tm,w.heap[h.r]?=some (.chan h.cap buf false s q tm):=by
  have:=F.chan;unfold Chn at this;rw [hg] at this;obtain ⟨q,tm,L,c⟩:=this;exact ⟨_,_,_,_,c.heap⟩
theorem Fr.step0 {fr fr' : Frame} {cs cs' : List Frame} {es : Array Event} {σ' : GW} {fn : FuncId} {pos : String} (F : Fr P σ (G fr cs) gs w t τ act sent) (g : Guar σ w w' es σ') :
    Fr P σ' (G fr' cs') ((gs.map (woken P (G fr cs) (G fr' cs') w')).setIfInBounds 0 (G fr' cs')) w' (t++MemOp.ofEvents 0 fn pos es) τ act sent:=by
  have hst:=F.still (w':=w') (a:=G fr cs) (a':=G fr' cs') (woken_run rfl);have h0:=DN F.main;have up:∀ b,σ'.blk b≠none→b<w.heap.size→σ.blk b≠none:=fun b h1 h2=>(g.new b h1).resolve_right (by omega)
  refine ⟨by simp [h0],g.mod,fun i x hi hx ha=>?_,fun i d m ha=>?_,fun i d m ha b h1 h2=>?_,F.sep,?_,fun said=>clean_own (F.clean said) F.kn0 F.low g,words_own F.words g,low_own F.low g,kn_own F.kn0 F.low g,fun j d m ha=>?_,fun i a ha=>?_,fun g v hv=>by simpa using F.num g v hv⟩
  · rw [HY hst (by omega)] at hx;exact F.leav i x hi hx ha
  · obtain ⟨h1,h2,h3,h,h4,h5,h6⟩:=F.work i d m ha
    exact ⟨h1,by rw [HY hst (by omega)];exact h2,mod_other h3 (F.sep0 i d m ha) g,h,g.gh.trans h4,h5,h6⟩
  · have hlt:=(F.work i d m ha).2.2.1.lt h1
    rw [g.pub];exact F.sep0 i d m ha b h1 (up b h2 hlt)
  · have:=F.chan
    unfold Chn at *;rw [g.gh];cases hg:σ.gh with
    | none=>rw [hg] at this;exact this
    | some h=>
      have hlt:=Chn.lt F hg;rw [hg] at this;obtain ⟨q,tm,L,c⟩:=this;refine ⟨q,tm,L,c.keep (g.frame _ (.inl c.free) hlt) ?_ (fun _=>Iff.rfl) (fun _=>rfl) (u:=MemOp.ofEvents 0 fn pos es) (fun op hop=>by obtain ⟨e,_,rfl⟩:=Go.Conc.mem_ofEvents hop;exact .inr (.inl rfl)) rfl⟩;cases hx:σ'.blk h.r with
      | none=>rfl
      | some o=>exact absurd c.free (up _ (by simp [hx]) hlt)
  · exact kn_other (F.knw j d m ha) (F.work j d m ha).2.2.1 (F.sep0 j d m ha) g
  · obtain ⟨x,hx,hxa⟩:=touch_of ha
    rcases getElem?_append_cases hx with ⟨hi,hx'⟩ | ⟨_,hxu⟩
    · rcases F.all i a (by rw [touchAt_of hx'];exact hxa) with h | ⟨n,h1,h2⟩
      · exact .inl (h.app _)
      · exact .inr ⟨n,by rw [g?_old hi];exact h1,h2⟩
    · obtain ⟨e,_,rfl⟩:=Go.Conc.mem_ofEvents hxu
      exact .inl (knows_own hx)
theorem Fr.stepW {i : Nat} {d : Cf} {m : Value} {h : Gh} {fr' : Frame} {cs' : List Frame} {es : Array Event} {σ' : GW} {T : Tree} {fn : FuncId} {pos : String} (F : Fr P σ g0 gs w t τ act sent) (hi : act i = some (d, m)) (hg : σ.gh = some h) (g : Guar d.σ w w' es σ')
    (hT:Wk P h.r m T ⟨fr',cs',σ'⟩) (hm:woken P (G d.fr d.cs) (G fr' cs') w' g0=g0) :
    Fr P σ g0 ((gs.map (woken P (G d.fr d.cs) (G fr' cs') w')).setIfInBounds i (G fr' cs')) w' (t++MemOp.ofEvents i fn pos es) (setT τ i T) (setA act i (some (⟨fr',cs',σ'⟩,m))) sent:=by
  have hst:=F.still hm;obtain ⟨hpos,hgi,hmod,h',hg',hwk,hfree⟩:=F.work i d m hi;rw [hg] at hg';cases hg';have hilt:=DN hgi;have hrlt:=Chn.lt F hg;have up:∀ b,σ'.blk b≠none→b<w.heap.size→d.σ.blk b≠none:=fun b h1 h2=>(g.new b h1).resolve_right (by omega)
  have sep0':∀ b,σ.blk b≠none→d.σ.blk b≠none→σ.pub b∧d.σ.pub b:=fun b h1 h2=>(F.sep0 i d m hi b h2 h1).symm
  have hne:∀ j,setA act i (some (⟨fr',cs',σ'⟩,m)) j≠none↔act j≠none:=fun j=>by
    by_cases e:j=i
    · subst e;simp [BH,hi]
    · rw [BS _ _ e]
  refine ⟨by rw [HY hst (by omega)];exact F.main,mod_other F.mod sep0' g,fun j x hj hx ha=>?_,fun j e n ha=>?_,fun j e n ha b h1 h2=>?_,fun j k e n f o hjk ha hb b h1 h2=>?_,?_,fun said=>clean_own (F.clean said) (F.knw i d m hi) F.low g,words_own F.words g,low_own F.low g,kn_other F.kn0 F.mod sep0' g,fun j e n ha=>?_,fun j a ha=>?_,fun g v hv=>by simpa using F.num g v hv⟩
  · have hji:j≠i:=fun e=>by subst e;rw [BH] at ha;cases ha
    rw [BS _ _ hji] at ha;rw [HY hst hji] at hx;rw [II _ _ hji];exact F.leav j x hj hx ha
  · by_cases e1:j=i
    · subst e1
      rw [BH] at ha;cases ha;refine ⟨hpos,by simp [hilt],g.mod,h,hg,by rw [KJ];exact hT,?_⟩;cases hx:σ'.blk h.r with
      | none=>rfl
      | some o=>exact absurd hfree (up _ (by simp [hx]) hrlt)
    · rw [BS _ _ e1] at ha
      obtain ⟨k1,k2,k3,k4⟩:=F.work j e n ha;exact ⟨k1,by rw [HY hst e1];exact k2,mod_other k3 (F.sep j i e n d m e1 ha hi) g,by rw [II _ _ e1];exact k4⟩
  · by_cases e1:j=i
    · subst e1
      rw [BH] at ha;cases ha;have:=F.sep0 j d m hi b (up b h1 (F.mod.lt h2)) h2;exact ⟨by rw [show (⟨fr',cs',σ'⟩:Cf).σ.pub=d.σ.pub from g.pub];exact this.1,this.2⟩
    · rw [BS _ _ e1] at ha
      exact F.sep0 j e n ha b h1 h2
  · by_cases e1:j=i
    · subst e1
      rw [BH] at ha;rw [BS _ _ (Ne.symm hjk)] at hb;cases ha;have:=F.sep j k d m f o hjk hi hb b (up b h1 ((F.work k f o hb).2.2.1.lt h2)) h2;exact ⟨by rw [show (⟨fr',cs',σ'⟩:Cf).σ.pub=d.σ.pub from g.pub];exact this.1,this.2⟩
    · rw [BS _ _ e1] at ha
      by_cases e2:k=i
      · subst e2
        rw [BH] at hb;cases hb;have:=F.sep j k e n d m hjk ha hi b h1 (up b h2 ((F.work j e n ha).2.2.1.lt h1));exact ⟨this.1,by rw [show (⟨fr',cs',σ'⟩:Cf).σ.pub=d.σ.pub from g.pub];exact this.2⟩
      · rw [BS _ _ e2] at hb
        exact F.sep j k e n f o hjk ha hb b h1 h2
  · have:=F.chan
    unfold Chn at *;rw [hg] at this ⊢;obtain ⟨q,tm,L,c⟩:=this;refine ⟨q,tm,L,c.keep (g.frame _ (.inl hfree) hrlt) c.free hne (fun j=>?_) (u:=MemOp.ofEvents i fn pos es) (fun op hop=>by obtain ⟨e,_,rfl⟩:=Go.Conc.mem_ofEvents hop;exact .inr (.inr (by simp [hi]))) rfl⟩
    by_cases e:j=i
    · subst e;simp [HD,BH,hi]
    · simp [HD,BS _ _ e]
  · by_cases e1:j=i
    · subst e1
      rw [BH] at ha;cases ha;exact kn_own (F.knw j d m hi) F.low g
    · rw [BS _ _ e1] at ha
      exact kn_other (F.knw j e n ha) (F.work j e n ha).2.2.1 (F.sep j i e n d m e1 ha hi) g
  · obtain ⟨x,hx,hxa⟩:=touch_of ha
    rcases getElem?_append_cases hx with ⟨hj,hx'⟩ | ⟨_,hxu⟩
    · rcases F.all j a (by rw [touchAt_of hx'];exact hxa) with h | ⟨n,h1,h2,h3⟩
      · exact .inl (h.app _)
      · exact .inr ⟨n,by rw [g?_old hj];exact h1,h2,h3.imp (hne n).2 id⟩
    · obtain ⟨e,_,rfl⟩:=Go.Conc.mem_ofEvents hxu
      exact .inr ⟨i,by simp [Trace.g?,hx],hpos,.inl (by simp [BH])⟩
theorem Fr.stepL {i k : Nat} {x x' : Goroutine} (F : Fr P σ g0 gs w t τ act sent) (hi : 0 < i) (hx : gs[i]? = some x) (ha : act i = none) (hq : QuitsIn P k x') (hm : woken P x x' w g0 = g0) :
    Fr P σ g0 ((gs.map (woken P x x' w)).setIfInBounds i x') w t (setT τ i (natT k)) act sent:=by
  have hst:=F.still hm;have hilt:=DN hx;refine ⟨by rw [HY hst (by omega)];exact F.main,F.mod,fun j y hj hy hb=>?_,fun j e n hb=>?_,F.sep0,F.sep,F.chan,F.clean,F.words,F.low,F.kn0,F.knw,F.all,fun g v hv=>by simpa using F.num g v hv⟩
  · by_cases e:j=i
    · subst e
      rw [Array.getElem?_setIfInBounds_self_of_lt (by simpa using hilt)] at hy;cases hy;exact ⟨k,KJ _ _ _,hq⟩
    · rw [HY hst e] at hy
      rw [II _ _ e];exact F.leav j y hj hy hb
  · have e1:j≠i:=fun e=>by rw [e,ha] at hb;cases hb
    obtain ⟨k1,k2,k3⟩:=F.work j e n hb;exact ⟨k1,by rw [HY hst e1];exact k2,by rw [II _ _ e1];exact k3⟩
end
theorem erase_split {α:Type}:∀ {l:List α} {x:α},x∈l→∃ A B,l=A++x::B:=fun h=>List.append_of_mem h
section
variable {P:Program} {σ:GW} {g0:Goroutine} {gs:Array Goroutine} {w:Go.World} {t:Trace} {τ:Nat→Tree} {act:Acts} {sent:List (Nat × Value)}
theorem NZ (w:Go.World) (c cap:Nat) (buf:Array Value) (cl:Bool) (s r:Nat) (tm:Bool) (h:c<w.heap.size):(w.setChan c cap buf cl s r tm).heap[c]?=some (.chan cap buf cl s r tm):=by simp [World.setChan,h]
theorem setChan_ne (w:Go.World) (c cap:Nat) (buf:Array Value) (cl:Bool) (s r:Nat) (tm:Bool) {b:Nat} (h:b≠c):(w.setChan c cap buf cl s r tm).heap[b]?=w.heap[b]?:=by
  simp only [World.setChan];rw [Array.getElem?_setIfInBounds_ne (Ne.symm h)]
theorem MP (w:Go.World) (c cap:Nat) (buf:Array Value) (cl:Bool) (s r:Nat) (tm:Bool):(w.setChan c cap buf cl s r tm).heap.size=w.heap.size:=by simp [World.setChan]
theorem GK {κ:GW} {c cap:Nat} {buf:Array Value} {cl:Bool} {s r:Nat} {tm:Bool} (h:Mod κ w) (hc:κ.blk c=none):Mod κ (w.setChan c cap buf cl s r tm):=
  h.same rfl rfl rfl fun b o hb=>setChan_ne w c cap buf cl s r tm fun e=>by rw [e,hc] at hb;cases hb
theorem SC {n:Nat} {u:Trace} (h:Low t n) (hu:∀ op∈u,op.act.low n):Low (t++u) n:=seen_app h hu
theorem NC {u:Trace} (h:Wordless t) (hu:∀ op∈u,∀ m,op.act≠.mark m):Wordless (t++u):=h.append fun op hop m hm=>absurd hm (hu op hop m)
theorem Fr.awake (F:Fr P σ g0 gs w t τ act sent) (h0:Go.Conc.awake g0):∀ g∈gs,Go.Conc.awake g:=by
  intro g hg;obtain ⟨i,hi,rfl⟩:=Array.mem_iff_getElem.1 hg;have hget:=Array.getElem?_eq_getElem hi;rcases Nat.eq_zero_or_pos i with rfl | hpos
  · have:=F.main
    rw [hget] at this;rw [Option.some.inj this];exact h0
  · cases hx:act i with
    | none=>
      obtain ⟨k,_,hq⟩:=F.leav i _ hpos hget hx;exact awake_of (hq.status.elim .inl fun x=>.inr (.inr x))
    | some x=>
      obtain ⟨d,m⟩:=x;have h2:=(F.work i d m hx).2.1;rw [hget] at h2;rw [Option.some.inj h2];exact awake_of (.inl rfl)
theorem Fr.offers (F:Fr P σ g0 gs w t τ act sent) (r:Nat) (b:Bool):∀ (j:Nat) (g:Goroutine),0<j→gs[j]?=some g→offersAt g r b=[]:=by
  intro j g hj hg;refine offersAt_of_not_blocked ?_ r b;cases hx:act j with
  | none=>
    obtain ⟨k,_,hq⟩:=F.leav j g hj hg hx;rcases hq.status with h | h <;> rw [h] <;> simp
  | some x=>
    obtain ⟨d,m⟩:=x;have h2:=(F.work j d m hx).2.1;rw [hg] at h2;rw [Option.some.inj h2];simp [G]
theorem Fr.send {i n : Nat} {d : Cf} {m : Value} {h : Gh} {s q : Nat} {buf : Array Value} {tm : Bool} {fn fn' : FuncId} {pos pos' : String} (F : Fr P σ g0 gs w t τ act sent) (hi : act i = some (d, m)) (hg : σ.gh = some h) (hq : QuitsIn P n (Go.Conc.served (G d.fr d.cs) undef))
    (hc:w.heap[h.r]?=some (.chan h.cap buf false s q tm)) :
    buf.size<h.cap∧Fr P σ g0 (gs.setIfInBounds i (Go.Conc.served (G d.fr d.cs) undef)) (w.setChan h.r h.cap (buf.push m) false (s+1) q tm)
      (t++#[{ g:=i,fn,pos,act:=.send h.r s },{ g:=i,fn:=fn',pos:=pos',act:=.sendDone h.r s }]) (setT τ i (natT n)) (setA act i none) (sent++[(i,m)]):=by
  obtain ⟨hpos,hgi,hmod,h',hg',hwk,hfree⟩:=F.work i d m hi;have hilt:=DN hgi;have hrlt:=Chn.lt F hg;have hch:=F.chan;unfold Chn at hch;rw [hg] at hch;obtain ⟨q',tm',L,c⟩:=hch;rw [c.heap] at hc;cases hc;have hiL:i∈L:=(c.mem i).2 (by simp [hi]);obtain ⟨A,B,rfl⟩:=erase_split hiL;have hlen:h.outs.length=sent.length+(A.length+(B.length+1)):=by
    have:=c.outs.length_eq
    simpa using this
  have hnd:=c.nodup;have hni:i∉A∧i∉B:=by
    have h1:=(List.nodup_append.1 hnd).2.2;have h2:=(List.nodup_cons.1 (List.nodup_append.1 hnd).2.1).1;exact ⟨fun h=>h1 i h i List.mem_cons_self rfl,h2⟩
  have hmsg:∀ j,j≠i→HD (setA act i none) j=HD act j:=fun j hj=>by simp [HD,BS _ _ hj]
  refine ⟨by have:=c.room;simp;omega,?_⟩;have hu:∀ op∈(#[{ g:=i,fn,pos,act:=.send h.r (q+sent.length) },{ g:=i,fn:=fn',pos:=pos',act:=.sendDone h.r (q+sent.length) }]:Trace),op.act.touch?=none:=by
    intro op hop;simp at hop;rcases hop with rfl | rfl <;> rfl
  refine ⟨by rw [Array.getElem?_setIfInBounds_ne (by omega)];exact F.main,GK F.mod c.free,fun j x hj hx ha=>?_,fun j e k ha=>?_,fun j e k ha=>?_,fun j l e k f o hjl ha hb=>?_,?_,fun said=>OG (F.clean said) hu,NC F.words (fun op hop k=>by simp at hop;rcases hop with rfl | rfl <;> simp),?_,kn_app F.kn0 hu,fun j e k ha=>?_,fun j a ha=>?_,fun g v hv=>by
    rcases List.mem_append.1 hv with hv | hv
    · simpa using F.num g v hv
    · simp at hv;simpa [hv.1] using hilt⟩
  · by_cases e:j=i
    · subst e
      rw [Array.getElem?_setIfInBounds_self_of_lt hilt] at hx;cases hx;exact ⟨n,KJ _ _ _,hq⟩
    · rw [Array.getElem?_setIfInBounds_ne (Ne.symm e)] at hx
      rw [BS _ _ e] at ha;rw [II _ _ e];exact F.leav j x hj hx ha
  · have e1:j≠i:=fun e=>by rw [e,BH] at ha;cases ha
    rw [BS _ _ e1] at ha;obtain ⟨k1,k2,k3,h2,k4,k5,k6⟩:=F.work j e k ha;rw [hg] at k4;cases k4;exact ⟨k1,by rw [Array.getElem?_setIfInBounds_ne (Ne.symm e1)];exact k2,GK k3 k6,h,hg,by rw [II _ _ e1];exact k5,k6⟩
  · have e1:j≠i:=fun e=>by rw [e,BH] at ha;cases ha
    rw [BS _ _ e1] at ha;exact F.sep0 j e k ha
  · have e1:j≠i:=fun e=>by rw [e,BH] at ha;cases ha
    have e2:l≠i:=fun e=>by rw [e,BH] at hb;cases hb
    rw [BS _ _ e1] at ha;rw [BS _ _ e2] at hb;exact F.sep j l e k f o hjl ha hb
  · unfold Chn
    rw [hg];refine ⟨q,tm,A++B,⟨?_,c.free,?_,fun j=>?_,?_,c.room,fun k g v hk=>?_⟩⟩
    · rw [NZ _ _ _ _ _ _ _ _ hrlt]
      have e1:((sent++[(i,m)]).map Prod.snd).toArray=(sent.map Prod.snd).toArray.push m:=by simp
      rw [e1];simp [Nat.add_assoc]
    · exact (List.nodup_cons.1 (List.perm_middle.nodup_iff.1 hnd)).2
    · by_cases e:j=i
      · subst e;simp [BH,hni]
      · rw [BS _ _ e,← c.mem j]
        simp [e]
    · have e1 : (A ++ B).map (HD (setA act i none)) = (A ++ B).map (HD act) := List.map_congr_left fun j hj => hmsg j fun e => by
        subst e;rcases List.mem_append.1 hj with h | h
        · exact hni.1 h
        · exact hni.2 h
      have e2:HD act i=m:=by simp [HD,hi]
      refine c.outs.trans ?_;rw [e1];simp only [List.map_append,List.map_cons,List.map_nil,e2,List.append_assoc,List.singleton_append];exact List.Perm.append_left _ List.perm_middle
    · by_cases hlt:k<sent.length
      · rw [List.getElem?_append_left hlt] at hk
        obtain ⟨g1,g2,p,g3,g4,g5⟩:=c.said k g v hk;have hp:=lt_of_act? g3;have e1:g≠i:=fun e=>by rw [e,hi] at g2;cases g2
        refine ⟨g1,by rw [BS _ _ e1];exact g2,p,by rw [act?_old hp];exact g3,by rw [g?_old hp];exact g4,fun j a hj hgj=>?_⟩;obtain ⟨x,hx,hxa⟩:=touch_of hj;rcases getElem?_append_cases hx with ⟨hjl,hx'⟩ | ⟨_,hxu⟩
        · exact (g5 j a (by rw [touchAt_of hx'];exact hxa) (by rw [g?_old hjl] at hgj;exact hgj)).app _
        · rw [hu x hxu] at hxa;cases hxa
      · have hk' : k = sent.length := by
          have:=(List.getElem?_eq_some_iff.1 hk).1;simp at this;omega
        subst hk';simp at hk;obtain ⟨rfl,rfl⟩:=hk;have hop:(t++#[({ g:=i,fn,pos,act:=.send h.r (q+sent.length) }:MemOp),{ g:=i,fn:=fn',pos:=pos',act:=.sendDone h.r (q+sent.length) }])[t.size]?=some { g:=i,fn,pos,act:=.send h.r (q+sent.length) }:=by
          rw [Array.getElem?_append_right (Nat.le_refl _)];simp
        refine ⟨hpos,BH _ _ _,t.size,by rw [act?_of hop],by simp only [Trace.g?,hop,Option.map_some],fun j a hj hgj=>?_⟩;obtain ⟨x,hx,hxa⟩:=touch_of hj;rcases getElem?_append_cases hx with ⟨hjl,hx'⟩ | ⟨_,hxu⟩
        · exact .inr (hb_po hjl hx hop (by simp only [Trace.g?,hx,Option.map_some,Option.some.injEq] at hgj;exact hgj))
        · rw [hu x hxu] at hxa;cases hxa
  · rw [MP]
    exact SC F.low fun op hop=>by simp at hop;rcases hop with rfl | rfl <;> exact hrlt
  · have e1:j≠i:=fun e=>by rw [e,BH] at ha;cases ha
    rw [BS _ _ e1] at ha;exact kn_app (F.knw j e k ha) hu
  · obtain ⟨x,hx,hxa⟩:=touch_of ha
    rcases getElem?_append_cases hx with ⟨hj,hx'⟩ | ⟨_,hxu⟩
    · rcases F.all j a (by rw [touchAt_of hx'];exact hxa) with h1 | ⟨k,h1,h2,h3⟩
      · exact .inl (h1.app _)
      · refine .inr ⟨k,by rw [g?_old hj];exact h1,h2,?_⟩
        by_cases e:k=i
        · subst e;exact .inr ⟨m,by simp⟩
        · rw [BS _ _ e]
          exact h3.imp id fun ⟨v,hv⟩=>⟨v,List.mem_append_left _ hv⟩
    · rw [hu x hxu] at hxa;cases hxa
def GW.outs (σ:GW) (h:Gh) (l:List Value):GW:={ σ with gh:=some { h with outs:=l } }
theorem Fr.recv {fr : Frame} {cs : List Frame} {h : Gh} {g : Nat} {v : Value} {rest : List (Nat × Value)} {outs : List Value} {s q : Nat} {buf : Array Value} {tm : Bool} {fn fn' : FuncId} {pos pos' : String} (F : Fr P σ g0 gs w t τ act ((g, v) :: rest)) (hg : σ.gh = some h)
    (hc:w.heap[h.r]?=some (.chan h.cap buf false s q tm)) (ho:h.outs.Perm (v::outs)) :
    Fr P (σ.outs h outs) (G fr cs) (gs.setIfInBounds 0 (G fr cs)) (w.setChan h.r h.cap (buf.extract 1 buf.size) false s (q+1) tm)
      (t++#[{ g:=0,fn,pos,act:=.recv h.r q h.cap },{ g:=0,fn:=fn',pos:=pos',act:=.recvDone h.r q }]) τ act rest:=by
  have h0:=DN F.main;have hrlt:=Chn.lt F hg;have hch:=F.chan;unfold Chn at hch;rw [hg] at hch;obtain ⟨q',tm',L,c⟩:=hch;rw [c.heap] at hc;cases hc;have hu:∀ op∈(#[{ g:=0,fn,pos,act:=.recv h.r q h.cap },{ g:=0,fn:=fn',pos:=pos',act:=.recvDone h.r q }]:Trace),op.act.touch?=none:=by
    intro op hop;simp at hop;rcases hop with rfl | rfl <;> rfl
  have hop:(t++#[({ g:=0,fn,pos,act:=.recv h.r q h.cap }:MemOp),{ g:=0,fn:=fn',pos:=pos',act:=.recvDone h.r q }])[t.size+1]?=some { g:=0,fn:=fn',pos:=pos',act:=.recvDone h.r q }:=by
    rw [Array.getElem?_append_right (by omega)];simp
  have hW:=NC F.words (u:=#[({ g:=0,fn,pos,act:=.recv h.r q h.cap }:MemOp),{ g:=0,fn:=fn',pos:=pos',act:=.recvDone h.r q }]) (fun op hop k=>by simp at hop;rcases hop with rfl | rfl <;> simp);refine ⟨by simp [h0],⟨(GK F.mod c.free).os,(GK F.mod c.free).tape,(GK F.mod c.free).output,(GK F.mod c.free).blk,F.mod.known⟩,fun j x hj hx ha=>?_,fun j e k ha=>?_,F.sep0,F.sep,?_,fun said=>OG (F.clean said) hu,hW,?_,kn_app F.kn0 hu,fun j e k ha=>kn_app (F.knw j e k ha) hu,fun j a ha=>?_,fun g v hv=>by simpa using F.num g v (List.mem_cons_of_mem _ hv)⟩
  · rw [Array.getElem?_setIfInBounds_ne (by omega)] at hx
    exact F.leav j x hj hx ha
  · obtain ⟨k1,k2,k3,h2,k4,k5,k6⟩:=F.work j e k ha
    rw [hg] at k4;cases k4;exact ⟨k1,by rw [Array.getElem?_setIfInBounds_ne (by omega)];exact k2,GK k3 k6,_,rfl,k5,k6⟩
  · refine ⟨q+1,tm,L,⟨?_,c.free,c.nodup,c.mem,?_,?_,fun k g' v' hk=>?_⟩⟩
    · show (w.setChan h.r h.cap _ false _ _ tm).heap[h.r]?=_
      rw [NZ _ _ _ _ _ _ _ _ hrlt];simp only [List.map_cons,List.length_cons]
      congr 2
      · simp;exact List.take_of_length_le (by simp)
      · omega
    · have:=c.outs.symm.trans ho
      simp only [List.map_cons,List.cons_append] at this;exact (List.Perm.cons_inv this).symm
    · have:=ho.length_eq
      have hr:=c.room;simp at this;show outs.length≤h.cap;omega
    · obtain ⟨g1,g2,p,g3,g4,g5⟩:=c.said (k+1) g' v' (by simpa using hk)
      have hp:=lt_of_act? g3;refine ⟨g1,g2,p,by rw [act?_old hp,g3];congr 2;show _=q+1+k;omega,by rw [g?_old hp];exact g4,fun j a hj hgj=>?_⟩;obtain ⟨x,hx,hxa⟩:=touch_of hj;rcases getElem?_append_cases hx with ⟨hjl,hx'⟩ | ⟨_,hxu⟩
      · exact (g5 j a (by rw [touchAt_of hx'];exact hxa) (by rw [g?_old hjl] at hgj;exact hgj)).app _
      · rw [hu x hxu] at hxa;cases hxa
  · rw [MP]
    exact SC F.low fun op hop=>by simp at hop;rcases hop with rfl | rfl <;> exact hrlt
  · obtain ⟨x,hx,hxa⟩:=touch_of ha
    rcases getElem?_append_cases hx with ⟨hj,hx'⟩ | ⟨_,hxu⟩
    · rcases F.all j a (by rw [touchAt_of hx'];exact hxa) with h1 | ⟨k,h1,h2,h3⟩
      · exact .inl (h1.app _)
      · by_cases e:k=g∧act k=none
        · obtain ⟨e0,e⟩:=e
          obtain ⟨_,_,p,g3,g4,g5⟩:=c.said 0 g v rfl;have hp:=lt_of_act? g3;obtain ⟨y,hy,hya⟩:=Option.map_eq_some_iff.1 g3;refine .inl ⟨t.size+1,_,hop,rfl,.inr ?_⟩;refine ((g5 j a (by rw [touchAt_of hx'];exact hxa) (by rw [h1,e0])).app _).hb (.single (.inr ⟨.handOver (c:=h.r) (k:=q) (by rw [act?_old hp];simpa using g3) (by rw [act?_of hop]),?_,hW.heard hop⟩));exact hW.heard (by rw [getElem?_append_old hp];exact hy)
        · refine .inr ⟨k,by rw [g?_old hj];exact h1,h2,?_⟩
          rcases h3 with h3 | ⟨v',h3⟩
          · exact .inl h3
          · rcases List.mem_cons.1 h3 with h3 | h3
            · cases h3
              by_cases ha:act g=none
              · exact absurd ⟨rfl,ha⟩ e
              · exact .inl ha
            · exact .inr ⟨v',h3⟩
    · rw [hu x hxu] at hxa;cases hxa
theorem Fr.meet {i n : Nat} {d : Cf} {m : Value} {fr : Frame} {cs : List Frame} {h : Gh} {outs : List Value} {s q : Nat} {buf : Array Value} {tm : Bool} {fn fn' fn2 fn3 : FuncId} {pos pos' pos2 pos3 : String} (F : Fr P σ g0 gs w t τ act []) (hi : act i = some (d, m)) (hg : σ.gh = some h) (hq : QuitsIn P n (Go.Conc.served (G d.fr d.cs) undef))
    (hc:w.heap[h.r]?=some (.chan h.cap buf false s q tm)) (ho:h.outs.Perm (m::outs)) :
    Fr P (σ.outs h outs) (G fr cs) ((gs.setIfInBounds 0 (G fr cs)).setIfInBounds i (Go.Conc.served (G d.fr d.cs) undef)) (w.setChan h.r h.cap buf false (s+1) (q+1) tm)
      (t++#[{ g:=i,fn,pos,act:=.send h.r s },{ g:=0,fn:=fn2,pos:=pos2,act:=.recv h.r q h.cap },{ g:=i,fn:=fn',pos:=pos',act:=.sendDone h.r s },{ g:=0,fn:=fn3,pos:=pos3,act:=.recvDone h.r q }]) (setT τ i (natT n)) (setA act i none) []:=by
  obtain ⟨hpos,hgi,hmod,h',hg',hwk,hfree⟩:=F.work i d m hi;have h0:=DN F.main;have hilt:=DN hgi;have hrlt:=Chn.lt F hg;have hch:=F.chan;unfold Chn at hch;rw [hg] at hch;obtain ⟨q',tm',L,c⟩:=hch;rw [c.heap] at hc;cases hc;have hiL:i∈L:=(c.mem i).2 (by simp [hi]);obtain ⟨A,B,rfl⟩:=erase_split hiL;have hnd:=c.nodup;have hni:i∉A∧i∉B:=by
    have h1:=(List.nodup_append.1 hnd).2.2;have h2:=(List.nodup_cons.1 (List.nodup_append.1 hnd).2.1).1;exact ⟨fun h=>h1 i h i List.mem_cons_self rfl,h2⟩
  have hmsg:∀ j,j≠i→HD (setA act i none) j=HD act j:=fun j hj=>by simp [HD,BS _ _ hj]
  simp only [List.length_nil,Nat.add_zero]
  generalize hU:(#[{ g:=i,fn,pos,act:=.send h.r q },{ g:=0,fn:=fn2,pos:=pos2,act:=.recv h.r q h.cap },{ g:=i,fn:=fn',pos:=pos',act:=.sendDone h.r q },{ g:=0,fn:=fn3,pos:=pos3,act:=.recvDone h.r q }]:Trace)=U
  have hu:∀ op∈U,op.act.touch?=none:=by
    subst hU;intro op hop;simp at hop;rcases hop with rfl | rfl | rfl | rfl <;> rfl
  have hop1:(t++U)[t.size]?=some { g:=i,fn,pos,act:=.send h.r q }:=by
    subst hU;rw [Array.getElem?_append_right (by omega)];simp
  have hop2:(t++U)[t.size+3]?=some { g:=0,fn:=fn3,pos:=pos3,act:=.recvDone h.r q }:=by
    subst hU;rw [Array.getElem?_append_right (by omega)];simp
  have hW:=NC F.words (u:=U) (fun op hop k=>by subst hU;simp at hop;rcases hop with rfl | rfl | rfl | rfl <;> simp);refine ⟨by rw [Array.getElem?_setIfInBounds_ne (by omega)];simp [h0],⟨(GK F.mod c.free).os,(GK F.mod c.free).tape,(GK F.mod c.free).output,(GK F.mod c.free).blk,F.mod.known⟩,fun j x hj hx ha=>?_,fun j e k ha=>?_,fun j e k ha=>?_,fun j l e k f o hjl ha hb=>?_,?_,fun said=>OG (F.clean said) hu,hW,?_,kn_app F.kn0 hu,fun j e k ha=>?_,fun j a ha=>?_,fun g v hv=>by simp at hv⟩
  · by_cases e:j=i
    · subst e
      rw [Array.getElem?_setIfInBounds_self_of_lt (by simpa using hilt)] at hx;cases hx;exact ⟨n,KJ _ _ _,hq⟩
    · rw [Array.getElem?_setIfInBounds_ne (Ne.symm e),Array.getElem?_setIfInBounds_ne (by omega)] at hx
      rw [BS _ _ e] at ha;rw [II _ _ e];exact F.leav j x hj hx ha
  · have e1:j≠i:=fun e=>by rw [e,BH] at ha;cases ha
    rw [BS _ _ e1] at ha;obtain ⟨k1,k2,k3,h2,k4,k5,k6⟩:=F.work j e k ha;rw [hg] at k4;cases k4;exact ⟨k1,by rw [Array.getElem?_setIfInBounds_ne (Ne.symm e1),Array.getElem?_setIfInBounds_ne (by omega)];exact k2,GK k3 k6,_,rfl,by rw [II _ _ e1];exact k5,k6⟩
  · have e1:j≠i:=fun e=>by rw [e,BH] at ha;cases ha
    rw [BS _ _ e1] at ha;exact F.sep0 j e k ha
  · have e1:j≠i:=fun e=>by rw [e,BH] at ha;cases ha
    have e2:l≠i:=fun e=>by rw [e,BH] at hb;cases hb
    rw [BS _ _ e1] at ha;rw [BS _ _ e2] at hb;exact F.sep j l e k f o hjl ha hb
  · refine ⟨q+1,tm,A++B,⟨?_,c.free,?_,fun j=>?_,?_,?_,fun k g v hk=>by simp at hk⟩⟩
    · show (w.setChan h.r h.cap _ false _ _ tm).heap[h.r]?=_
      rw [NZ _ _ _ _ _ _ _ _ hrlt];simp
    · exact (List.nodup_cons.1 (List.perm_middle.nodup_iff.1 hnd)).2
    · by_cases e:j=i
      · subst e;simp [BH,hni]
      · rw [BS _ _ e,← c.mem j]
        simp [e]
    · have e1 : (A ++ B).map (HD (setA act i none)) = (A ++ B).map (HD act) := List.map_congr_left fun j hj => hmsg j fun e => by
        subst e;rcases List.mem_append.1 hj with h | h
        · exact hni.1 h
        · exact hni.2 h
      have e2:HD act i=m:=by simp [HD,hi]
      have h1:=c.outs.symm.trans ho;simp only [List.map_nil,List.nil_append,List.map_append,List.map_cons,e2] at h1;show outs.Perm _;rw [e1];simp only [List.map_nil,List.nil_append,List.map_append];exact (List.Perm.cons_inv (List.perm_middle.symm.trans h1)).symm
    · have:=ho.length_eq
      have hr:=c.room;simp at this;show outs.length≤h.cap;omega
  · rw [MP]
    exact SC F.low fun op hop=>by subst hU;simp at hop;rcases hop with rfl | rfl | rfl | rfl <;> exact hrlt
  · have e1:j≠i:=fun e=>by rw [e,BH] at ha;cases ha
    rw [BS _ _ e1] at ha;exact kn_app (F.knw j e k ha) hu
  · obtain ⟨x,hx,hxa⟩:=touch_of ha
    rcases getElem?_append_cases hx with ⟨hj,hx'⟩ | ⟨_,hxu⟩
    · rcases F.all j a (by rw [touchAt_of hx'];exact hxa) with h1 | ⟨k,h1,h2,h3⟩
      · exact .inl (h1.app _)
      · by_cases e:k=i
        · subst e
          have hxg:x.g=k:=by simp only [Trace.g?,hx',Option.map_some,Option.some.injEq] at h1;exact h1
          refine .inl ⟨t.size+3,_,hop2,rfl,.inr ?_⟩;exact (hb_po hj hx hop1 hxg).trans (.single (.inr ⟨.handOver (c:=h.r) (k:=q) (by rw [act?_of hop1]) (by rw [act?_of hop2]),hW.heard hop1,hW.heard hop2⟩))
        · refine .inr ⟨k,by rw [g?_old hj];exact h1,h2,?_⟩
          rw [BS _ _ e];exact h3
    · rw [hu x hxu] at hxa;cases hxa
end
def GW.share (σ:GW) (h:Gh) (m:Value):GW:={ σ with pub:=fun b=>σ.blk b≠none,gh:=some { h with outs:=m::h.outs } }
def GW.child (σ:GW):GW:={ σ with pub:=fun b=>σ.blk b≠none,gh:=none }
section
variable {P:Program} {σ:GW} {g0:Goroutine} {gs:Array Goroutine} {w:Go.World} {t:Trace} {τ:Nat→Tree} {act:Acts} {sent:List (Nat × Value)}
theorem Fr.spawn {fr fr' cf : Frame} {cs cs' ccs : List Frame} {h : Gh} {m : Value} {T : Tree} {fn fn' : FuncId} {pos pos' : String} (F : Fr P σ (G fr cs) gs w t τ act sent) (hg : σ.gh = some h) (hroom : h.outs.length < h.cap) (hT : Wk P h.r m T ⟨cf, ccs, σ.child⟩) :
    Fr P (σ.share h m) (G fr' cs') ((gs.setIfInBounds 0 (G fr' cs')).push (G cf ccs)) w ((t.push { g:=0,fn,pos,act:=.go gs.size }).push { g:=gs.size,fn:=fn',pos:=pos',act:=.start })
      (setT τ gs.size T) (setA act gs.size (some (⟨cf,ccs,σ.child⟩,m))) sent:=by
  have h0:=DN F.main;have hch:=F.chan;unfold Chn at hch;rw [hg] at hch;obtain ⟨q,tm,L,c⟩:=hch;have hnew:act gs.size=none:=by
    cases hx:act gs.size with
    | none=>rfl
    | some x=>
      obtain ⟨d,k⟩:=x;have:=DN (F.work _ d k hx).2.1;omega
  have hgp:∀ j g,((gs.setIfInBounds 0 (G fr' cs')).push (G cf ccs))[j]?=some g→0<j→j≠gs.size→gs[j]?=some g:=fun j g hj hp hne=>by
    rw [Array.getElem?_push] at hj
    split at hj
    · rename_i e;simp at e;omega
    · rwa [Array.getElem?_setIfInBounds_ne (by omega)] at hj
  have hpg:∀ j g,gs[j]?=some g→0<j→((gs.setIfInBounds 0 (G fr' cs')).push (G cf ccs))[j]?=some g:=fun j g hj hp=>by
    have:=DN hj;rw [Array.getElem?_push,if_neg (by simp;omega),Array.getElem?_setIfInBounds_ne (by omega)];exact hj
  have et:(t.push { g:=0,fn,pos,act:=.go gs.size }).push { g:=gs.size,fn:=fn',pos:=pos',act:=.start }=t++#[({ g:=0,fn,pos,act:=.go gs.size }:MemOp),{ g:=gs.size,fn:=fn',pos:=pos',act:=.start }]:=by
    apply Array.ext';simp
  rw [et]
  generalize hU:(#[({ g:=0,fn,pos,act:=.go gs.size }:MemOp),{ g:=gs.size,fn:=fn',pos:=pos',act:=.start }]:Trace)=U
  have hu:∀ op∈U,op.act.touch?=none:=by
    subst hU;intro op hop;simp at hop;rcases hop with rfl | rfl <;> rfl
  have hop1:(t++U)[t.size]?=some { g:=0,fn,pos,act:=.go gs.size }:=by
    subst hU;rw [Array.getElem?_append_right (by omega)];simp
  have hop2:(t++U)[t.size+1]?=some { g:=gs.size,fn:=fn',pos:=pos',act:=.start }:=by
    subst hU;rw [Array.getElem?_append_right (by omega)];simp
  have hW:=NC F.words (u:=U) (fun op hop k=>by subst hU;simp at hop;rcases hop with rfl | rfl <;> simp);have ne:∀ j d k,act j=some (d,k)→j≠gs.size:=fun j d k ha e=>by rw [e,hnew] at ha;cases ha
  refine ⟨?_,F.mod.same rfl rfl rfl (fun _ _ _=>rfl) |> fun hm=>⟨hm.os,hm.tape,hm.output,hm.blk,fun b hb=>hb⟩,fun j x hj hx ha=>?_,fun j e k ha=>?_,fun j e k ha b h1 h2=>?_,fun j l e k f o hjl ha hb b h1 h2=>?_,?_,fun said=>OG (F.clean said) hu,hW,?_,fun i a b ha hb hk hp=>?_,fun j e k ha=>?_,fun j a ha=>?_,fun g v hv=>by have:=F.num g v hv;simp;omega⟩
  · rw [Array.getElem?_push,if_neg (by simp;omega)];simp [h0]
  · by_cases e:j=gs.size
    · subst e;rw [BH] at ha;cases ha
    · rw [BS _ _ e] at ha
      rw [II _ _ e];exact F.leav j x hj (hgp j x hx hj e) ha
  · by_cases e1:j=gs.size
    · subst e1
      rw [BH] at ha;cases ha;refine ⟨h0,?_,⟨F.mod.os,F.mod.tape,F.mod.output,F.mod.blk,fun b hb=>hb⟩,_,rfl,by rw [KJ];exact hT,c.free⟩;rw [Array.getElem?_push,if_pos (by simp)]
    · rw [BS _ _ e1] at ha
      obtain ⟨k1,k2,k3,h2,k4,k5,k6⟩:=F.work j e k ha;rw [hg] at k4;cases k4;exact ⟨k1,hpg j _ k2 k1,k3,_,rfl,by rw [II _ _ e1];exact k5,k6⟩
  · by_cases e1:j=gs.size
    · subst e1
      rw [BH] at ha;cases ha;exact ⟨h1,h2⟩
    · rw [BS _ _ e1] at ha
      exact ⟨(F.sep0 j e k ha b h1 h2).1,h2⟩
  · by_cases e1:j=gs.size
    · subst e1
      rw [BH] at ha;rw [BS _ _ (Ne.symm hjl)] at hb;cases ha;exact ⟨h1,(F.sep0 l f o hb b h2 h1).1⟩
    · rw [BS _ _ e1] at ha
      by_cases e2:l=gs.size
      · subst e2
        rw [BH] at hb;cases hb;exact ⟨(F.sep0 j e k ha b h1 h2).1,h2⟩
      · rw [BS _ _ e2] at hb
        exact F.sep j l e k f o hjl ha hb b h1 h2
  · have hni:gs.size∉L:=fun h=>(c.mem _).1 h hnew
    refine ⟨q,tm,gs.size::L,⟨c.heap,c.free,List.nodup_cons.2 ⟨hni,c.nodup⟩,fun j=>?_,?_,?_,fun k g v hk=>?_⟩⟩
    · by_cases e:j=gs.size
      · subst e;simp [BH]
      · rw [BS _ _ e,← c.mem j];simp [e]
    · have e1 : L.map (HD (setA act gs.size (some (⟨cf, ccs, σ.child⟩, m)))) = L.map (HD act) := List.map_congr_left fun j hj => by
        have:j≠gs.size:=fun e=>hni (e▸hj)
        simp [HD,BS _ _ this]
      have e2:HD (setA act gs.size (some (⟨cf,ccs,σ.child⟩,m))) gs.size=m:=by simp [HD,BH]
      show (m::h.outs).Perm _;rw [List.map_cons,e1,e2];exact (List.Perm.cons m c.outs).trans List.perm_middle.symm
    · show (m::h.outs).length≤h.cap
      simp;omega
    · obtain ⟨g1,g2,p,g3,g4,g5⟩:=c.said k g v hk
      have hp:=lt_of_act? g3;have hgz:g≠gs.size:=fun e=>by
        have:=F.num g v (List.mem_of_getElem? hk);omega
      refine ⟨g1,by rw [BS _ _ hgz];exact g2,p,by rw [act?_old hp];exact g3,by rw [g?_old hp];exact g4,fun j a hj hgj=>?_⟩;obtain ⟨x,hx,hxa⟩:=touch_of hj;rcases getElem?_append_cases hx with ⟨hjl,hx'⟩ | ⟨_,hxu⟩
      · exact (g5 j a (by rw [touchAt_of hx'];exact hxa) (by rw [g?_old hjl] at hgj;exact hgj)).app _
      · rw [hu x hxu] at hxa;cases hxa
  · exact SC F.low fun op hop=>by subst hU;simp at hop;rcases hop with rfl | rfl <;> trivial
  · rcases hp with hp | hp
    · obtain ⟨x,hx,hxa⟩:=touch_of ha
      rcases getElem?_append_cases hx with ⟨_,hx'⟩ | ⟨_,hxu⟩
      · exact (F.kn0 i a b (by rw [touchAt_of hx'];exact hxa) hb hk (.inl hp)).app _
      · rw [hu x hxu] at hxa;cases hxa
    · exact absurd hk hp
  · by_cases e1:j=gs.size
    · subst e1
      rw [BH] at ha;cases ha;intro i a b hi hb hk hp;rcases hp with hp | hp
      · obtain ⟨x,hx,hxa⟩:=touch_of hi
        rcases getElem?_append_cases hx with ⟨_,hx'⟩ | ⟨_,hxu⟩
        · have hkn:Knows (t++U) 0 i:=(F.kn0 i a b (by rw [touchAt_of hx'];exact hxa) hb hk (.inl hp)).app _
          obtain ⟨p,z,hz1,hz2,hz3⟩:=F.kn0 i a b (by rw [touchAt_of hx'];exact hxa) hb hk (.inl hp);have hplt:=lt_size_of_getElem? hz1;refine ⟨t.size+1,_,hop2,rfl,.inr ?_⟩;refine ((hz3.app U).hb (hb_po hplt (by rw [getElem?_append_old hplt];exact hz1) hop1 hz2)).trans (.single (.inr ⟨.spawn (child:=gs.size) (by rw [act?_of hop1]) (by rw [act?_of hop2]) (by simp only [Trace.g?,hop2,Option.map_some]),hW.heard hop1,hW.heard hop2⟩))
        · rw [hu x hxu] at hxa;cases hxa
      · exact absurd hk hp
    · rw [BS _ _ e1] at ha
      exact kn_app (F.knw j e k ha) hu
  · obtain ⟨x,hx,hxa⟩:=touch_of ha
    rcases getElem?_append_cases hx with ⟨hj,hx'⟩ | ⟨_,hxu⟩
    · rcases F.all j a (by rw [touchAt_of hx'];exact hxa) with h1 | ⟨k,h1,h2,h3⟩
      · exact .inl (h1.app _)
      · refine .inr ⟨k,by rw [g?_old hj];exact h1,h2,?_⟩
        by_cases e:k=gs.size
        · subst e;exact .inl (by simp [BH])
        · rw [BS _ _ e];exact h3
    · rw [hu x hxu] at hxa;cases hxa
def Reach (P:Program) (m:Machine) (t:Trace) (D:Machine→Trace→Prop):Prop:=∃ N m' t',runNT P N m t=(.next m',t')∧D m' t'
theorem Reach.now {m:Machine} {D:Machine→Trace→Prop} (h:D m t):Reach P m t D:=⟨0,m,t,rfl,h⟩
theorem Reach.step {m m1:Machine} {ops:Trace} {D:Machine→Trace→Prop} (hs:stepT P m=(.next m1,ops)) (h:Reach P m1 (t++ops) D):Reach P m t D:=by
  obtain ⟨N,m',t',h1,h2⟩:=h;exact ⟨N+1,m',t',by simp only [runNT,hs];exact h1,h2⟩
theorem Reach.trans {m:Machine} {D E:Machine→Trace→Prop} (h:Reach P m t D) (k:∀ m t,D m t→Reach P m t E):Reach P m t E:=by
  obtain ⟨N,m1,t1,h1,h2⟩:=h;obtain ⟨N2,m2,t2,h3,h4⟩:=k m1 t1 h2;refine ⟨N+N2,m2,t2,?_,h4⟩;clear h2 h4 k
  induction N generalizing m t with
  | zero=>simp only [runNT,Prod.mk.injEq,Stepped.next.injEq] at h1;obtain ⟨rfl,rfl⟩:=h1;rw [Nat.zero_add];exact h3
  | succ N ih=>
    rw [show N+1+N2=(N+N2)+1 by omega];simp only [runNT] at h1 ⊢;cases hs:stepT P m with
    | mk s ops=>
      rw [hs] at h1;cases s with
      | next m'=>exact ih h1
      | ended o w=>simp at h1
theorem Fr.park (F:Fr P σ g0 gs w t τ act sent) (g1:Goroutine):Fr P σ g1 (gs.setIfInBounds 0 g1) w t τ act sent:=by
  have h0:=DN F.main;refine ⟨by simp [h0],F.mod,fun j x hj hx ha=>F.leav j x hj (by rwa [Array.getElem?_setIfInBounds_ne (by omega)] at hx) ha,fun j d m ha=>?_,F.sep0,F.sep,F.chan,F.clean,F.words,F.low,F.kn0,F.knw,F.all,fun g v hv=>by simpa using F.num g v hv⟩;obtain ⟨k1,k2,k3⟩:=F.work j d m ha;exact ⟨k1,by rw [Array.getElem?_setIfInBounds_ne (by omega)];exact k2,k3⟩
theorem QL {i : Nat} {g : Goroutine} {sl : Option (Nat × Nat)} (F : Fr P σ g0 gs w t τ act sent) (hi : gs[i]? = some g) (hpos : 0 < i) (hrun : g.status = .running)
    (hm:∀ a a' w',(∀ h,σ.gh=some h→∃ buf s q tm,w'.heap[h.r]?=some (.chan h.cap buf false s q tm))→woken P a a' w' g0=g0) :
    (∃ gs' w' ops τ' act',runT P (crowd gs w sl) i=(.next (crowd gs' w' sl),ops)∧gs'.size=gs.size∧Red (NJ gs.size τ') (NJ gs.size τ)∧Fr P σ g0 gs' w' (t++ops) τ' act' sent) ∨
    (∃ d m h n f,act i=some (d,m)∧σ.gh=some h∧τ i=.node f∧(∀ w,f w=natT n)∧QT P h.r m n d∧g=G d.fr d.cs):=by
  have hilt:=DN hi;have hi0:(i == 0)=false:=by simp;omega
  cases hx:act i with
  | none=>
    obtain ⟨k,hk,hq⟩:=F.leav i g hpos hi hx;cases k with
    | zero=>rw [show g.status=.finished from hq] at hrun;cases hrun
    | succ k=>
      rcases hq with hq | ⟨_,g',hst,hq⟩
      · rw [hq] at hrun;cases hrun
      · refine .inl ⟨_,w,#[],setT τ i (natT k),act,runT_crowd_go (P:=P) hi (by rw [hi0];exact hst w),by simp,QE hilt (by rw [hk];exact Twig.mk (fun _=>natT k) w),?_⟩
        rw [Array.append_empty];exact F.stepL hpos hi hx hq (hm _ _ _ fun h hg=>Chn.open F hg)
  | some x=>
    obtain ⟨d,m⟩:=x;obtain ⟨_,k2,k3,h,k4,k5,k6⟩:=F.work i d m hx;rw [hi] at k2;obtain rfl:=Option.some.inj k2;cases hτ:τ i with
    | leaf=>rw [hτ] at k5;exact k5.elim
    | node f=>
      rw [hτ] at k5;rcases k5 with ⟨n,hf,hs⟩ | hs
      · exact .inr ⟨d,m,h,n,f,rfl,k4,rfl,hf,hs,rfl⟩
      · obtain ⟨fr',cs',w',es,σ',h1,h2,h3⟩:=hs w k3
        refine .inl ⟨_,w',_,setT τ i (f w),setA act i (some (⟨fr',cs',σ'⟩,m)),runT_crowd_go (P:=P) hi (by rw [hi0];exact h1),by simp,QE hilt (by rw [hτ];exact .mk _ w),?_⟩;refine F.stepW hx k4 h2 h3 (hm _ _ _ fun h' hg'=>?_);rw [k4] at hg';cases hg';obtain ⟨buf,s,q,tm,hc⟩:=Chn.open F k4;exact ⟨buf,s,q,tm,by rw [h2.frame _ (.inl k6) (Chn.lt F k4)];exact hc⟩
theorem others {fr : Frame} {cs : List Frame} {D : Machine → Trace → Prop}
    (hmain:∀ gs w sl t τ act sent,Fr P σ (G fr cs) gs w t τ act sent→∃ m ops,runT P (crowd gs w sl) 0=(.next m,ops)∧Reach P m (t++ops) D) :
    ∀ (l:List Tree),Acc Red l→∀ gs w sl t τ act sent,l=NJ gs.size τ→Fr P σ (G fr cs) gs w t τ act sent→Reach P (crowd gs w sl) t D:=by
  intro l hl
  induction hl with
  | intro l _ ih=>
    intro gs w sl t τ act sent hlf F;obtain ⟨i,g,d,sl',hi,hrun,hst⟩:=crowd_pick (P:=P) (w:=w) (sl:=sl) (F.awake (awake_of (.inl rfl))) ⟨0,G fr cs,F.main,rfl⟩;have F':=F.draw d;rcases Nat.eq_zero_or_pos i with rfl | hpos
    · obtain ⟨m,ops,h1,h2⟩:=hmain gs (w.at d) sl' t τ act sent F'
      exact .step (hst.trans h1) h2
    · rcases QL (sl:=sl') F' hi hpos hrun (fun _ _ _ _=>woken_run rfl) with ⟨gs',w',ops,τ',act',h1,h2,h3,h4⟩ | ⟨e,m,h,n,f,h1,h2,h3,h4,⟨h5,h6⟩,rfl⟩
      · exact .step (hst.trans h1) (ih _ (hlf▸h3) gs' w' sl' _ τ' act' sent (by rw [h2]) h4)
      · obtain ⟨buf,s,q,tm,hc⟩:=Chn.open F' h2
        obtain ⟨hroom,F2⟩:=F'.send (fn:=e.fr.fn) (pos:=e.fr.place) (fn':=e.fr.fn) (pos':=e.fr.place) h1 h2 h6 hc;have hi0:(i == 0)=false:=by simp;omega
        obtain ⟨z,hz⟩:=h5 (w.at d) (F'.work i e m h1).2.2.1;have hp:partners (gs.setIfInBounds i ph) h.r false=[]:=partners_nil fun j x hj=>by
          rcases getElem?_stand gs i j x hj with ⟨_,rfl⟩ | ⟨_,hj'⟩
          · rfl
          · rcases Nat.eq_zero_or_pos j with rfl | hjp
            · rw [F'.main] at hj';cases hj'
              exact offersAt_of_not_blocked (by simp [G]) _ _
            · exact F'.offers h.r false j x hjp hj'
        have h7:=crowd_send_room (P:=P) (sl:=sl') hi (by rw [hi0];exact hz) hc hroom hp;refine .step (hst.trans h7) ?_;refine ih (NJ gs.size (setT τ i (natT n))) (by rw [hlf];exact QE (DN hi) (by rw [h3,← h4 (w.at d)];exact .mk _ _)) _ _ _ _ (setT τ i (natT n)) (setA act i none) (sent++[(i,m)]) (by simp) ?_;exact F2
def At (P:Program) (Q:Cf→Prop) (m:Machine) (t:Trace):Prop:=∃ d gs w sl τ act sent,m=crowd gs w sl∧Fr P d.σ (G d.fr d.cs) gs w t τ act sent∧Q d
def PX (P:Program) (c:Cf) (Q:Cf→Prop):Prop:=∀ gs w sl t τ act sent,Fr P c.σ (G c.fr c.cs) gs w t τ act sent→Reach P (crowd gs w sl) t (At P Q)
theorem getsB_bind {c:Cf} {Q R:Cf→Prop} (h:PX P c Q) (k:∀ d,Q d→PX P d R):PX P c R:=fun gs w sl t τ act sent F=>
  (h gs w sl t τ act sent F).trans fun m t ⟨d,gs,w,sl,τ,act,sent,e,F',hd⟩=>e▸k d hd gs w sl t τ act sent F'
theorem getsB_one {c:Cf} {Q:Cf→Prop} (h:OneStep P c Q):PX P c Q:=fun gs w sl t τ act sent F=>
  others (fun gs w sl t τ act sent F=>by
    obtain ⟨fr',cs',w',es,σ',h1,h2,h3⟩:=h w F.mod
    exact ⟨_,_,runT_crowd_go (P:=P) F.main (h1 _),.now ⟨⟨fr',cs',σ'⟩,_,w',sl,τ,act,sent,rfl,F.step0 h2,h3⟩⟩) _ (acc_red _) gs w sl t τ act sent rfl F
@[reducible] def JB (P:Program):Jud P where
  gets:=PX P
  stop h:=fun gs w sl t τ act sent F=>.now ⟨_,gs,w,sl,τ,act,sent,rfl,F,h⟩
  bind:=getsB_bind
  one:=getsB_one
theorem getsB_go {fr fr' cf : Frame} {cs cs' ccs : List Frame} {h : Gh} {m : Value} {Q : Cf → Prop} (hg : σ.gh = some h) (hroom : h.outs.length < h.cap) (hs : ∀ w, Mod σ w → stepG P true (G fr cs) w = .spawn (G fr' cs') (G cf ccs) w #[])
    (hc:∃ T,Tr P (fun d=>∃ n,QT P h.r m n d) T ⟨cf,ccs,σ.child⟩) (k:PX P ⟨fr',cs',σ.share h m⟩ Q):PX P ⟨fr,cs,σ⟩ Q:=fun gs w sl t τ act sent F=>
  others (fun gs w sl t τ act sent F=>by
    obtain ⟨T,hT⟩:=hc
    obtain ⟨T,hT⟩:=wk_of_tr T _ hT
    refine ⟨_,_,runT_crowd_spawn (P:=P) F.main (hs w F.mod),?_⟩
    have F2:=F.spawn (fr':=fr') (cs':=cs') (cf:=cf) (ccs:=ccs) (m:=m) (T:=T) (fn:=fr.fn) (pos:=fr.place) (fn':=cf.fn) (pos':=fr.place) hg hroom hT
    refine k _ w sl _ (setT τ gs.size T) (setA act gs.size (some (⟨cf,ccs,σ.child⟩,m))) sent ?_
    have e:∀ (x y:MemOp),t++((MemOp.ofEvents 0 (G fr cs).frame.fn (G fr cs).frame.place #[]).push x |>.push y)=(t.push x).push y:=fun x y=>by
      apply Array.ext';simp [MemOp.ofEvents]
    rw [e]
    exact F2) _ (acc_red _) gs w sl t τ act sent rfl F
theorem waiting {fr : Frame} {cs : List Frame} {h : Gh} {z : Value} {D : Machine → Trace → Prop} (hg : σ.gh = some h) (hne : h.outs ≠ [])
    (hmeet:∀ gs w sl t τ act v outs,h.outs.Perm (v::outs)→Fr P (σ.outs h outs) (G (fr.finish v) cs) gs w t τ act []→Reach P (crowd gs w sl) t D) :
    ∀ (l:List Tree),Acc Red l→∀ gs w sl t τ act,l=NJ gs.size τ→Fr P σ (parked (G fr cs) #[rcase h.r z] (.recv false)) gs w t τ act []→Reach P (crowd gs w sl) t D:=by
  intro l hl
  induction hl with
  | intro l _ ih=>
    intro gs w sl t τ act hlf F;have hch:=F.chan;unfold Chn at hch;rw [hg] at hch;obtain ⟨q,tm,L,c⟩:=hch;have hL:L≠[]:=fun e=>by
      have:=c.outs;rw [e] at this;exact hne (by simpa using this)
    obtain ⟨i0,hi0⟩:=List.exists_mem_of_ne_nil L hL;have hact:=(c.mem i0).1 hi0
    obtain ⟨i,g,d,sl',hi,hrun,hst⟩:=crowd_pick (P:=P) (w:=w) (sl:=sl) (F.awake (awake_of (.inr (.inl rfl)))) (by
      cases hx:act i0 with
      | none=>exact absurd hx hact
      | some x=>obtain ⟨d,m⟩:=x;exact ⟨i0,_,(F.work i0 d m hx).2.1,rfl⟩)
    have F':=F.draw d;have hpos:0<i:=by
      rcases Nat.eq_zero_or_pos i with rfl | h
      · rw [F.main] at hi;cases hi;cases hrun
      · exact h
    rcases QL (sl := sl') F' hi hpos hrun (fun a a' w' ho => by
        obtain ⟨buf,s,q,tm,hc⟩:=ho h hg
        exact woken_recv_open a a' hc) with ⟨gs',w',ops,τ',act',h1,h2,h3,h4⟩ | ⟨e,m,h',n,f,h1,h2,h3,h4,⟨h5,h6⟩,rfl⟩
    · exact .step (hst.trans h1) (ih _ (hlf▸h3) gs' w' sl' _ τ' act' (by rw [h2]) h4)
    · rw [hg] at h2;cases h2
      obtain ⟨buf,s,q2,tm2,hc⟩:=Chn.open F' hg;have hmem:m∈h.outs:=c.outs.mem_iff.2 (List.mem_append_right _ (List.mem_map.2 ⟨i,(c.mem i).2 (by simp [h1]),by simp [HD,h1]⟩));obtain ⟨A,B,hAB⟩:=List.append_of_mem hmem;have ho:h.outs.Perm (m::(A++B)):=by rw [hAB];exact List.perm_middle
      have F2:=F'.meet (fr:=fr.finish m) (cs:=cs) (fn:=e.fr.fn) (pos:=e.fr.place) (fn':=e.fr.fn) (pos':=e.fr.place) (fn2:=fr.fn) (pos2:=fr.place) (fn3:=fr.fn) (pos3:=fr.place) h1 hg h6 hc ho;have hi0:(i == 0)=false:=by simp;omega
      obtain ⟨z',hz⟩:=h5 (w.at d) (F'.work i e m h1).2.2.1;have hp:partners (gs.setIfInBounds i ph) h.r false=[(0,0)]:=by
        rw [partners_one (j:=0) (g:=parked (G fr cs) #[rcase h.r z] (.recv false)) (stand_get (by omega) F'.main) fun k x hk hx=>?_]
        · rw [offersAt_parked_recv,if_pos rfl];rfl
        · rcases getElem?_stand gs i k x hx with ⟨_,rfl⟩ | ⟨_,hx'⟩
          · rfl
          · exact F'.offers h.r false k x (by omega) hx'
      have h7:=crowd_send_meets (P:=P) (sl:=sl') (j:=0) hi (by rw [hi0];exact hz) hc (by omega) F'.main hp;refine .step (hst.trans h7) ?_;exact hmeet _ _ _ _ _ _ m (A++B) ho F2
theorem getsB_recv {fr : Frame} {cs : List Frame} {h : Gh} {z : Value} {Q : Cf → Prop} (hg : σ.gh = some h) (hne : h.outs ≠ []) (hs : ∀ w, Mod σ w → stepG P true (G fr cs) w = .comm (G fr cs) #[rcase h.r z] true (.recv false) w #[])
    (k:∀ v outs,h.outs.Perm (v::outs)→PX P ⟨fr.finish v,cs,σ.outs h outs⟩ Q):PX P ⟨fr,cs,σ⟩ Q:=fun gs w sl t τ act sent F=>
  others (fun gs w sl t τ act sent F=>by
    have hch:=F.chan
    unfold Chn at hch
    rw [hg] at hch
    obtain ⟨q,tm,L,c⟩:=hch
    cases hsent:sent with
    | nil=>
      subst hsent
      have hw:∀ cc∈(#[rcase h.r z]:Array CommCase),NoWays w (gs.setIfInBounds 0 ph) cc:=fun cc hcc=>by
        simp at hcc;subst hcc
        refine ⟨made_recv z c.heap,?_⟩
        have hp:partners (gs.setIfInBounds 0 ph) h.r true=[]:=partners_nil fun j x hj=>by
          rcases getElem?_stand gs 0 j x hj with ⟨_,rfl⟩ | ⟨hj0,hj'⟩
          · rfl
          · exact F.offers h.r true j x (by omega) hj'
        simp [ways,rcase,c.heap,hp]
      refine ⟨_,_,crowd_waits (P:=P) F.main (hs w F.mod) hw,?_⟩
      rw [show MemOp.ofEvents 0 (G fr cs).frame.fn (G fr cs).frame.place #[]=#[] from rfl,Array.append_empty]
      exact waiting hg hne (fun gs w sl t τ act v outs ho F=>k v outs ho gs w sl t τ act [] F) _ (acc_red _) _ _ _ _ τ act rfl (F.park _)
    | cons x rest=>
      subst hsent
      obtain ⟨g,v⟩:=x
      have ho:h.outs.Perm (v::(rest.map Prod.snd++L.map (HD act))):=c.outs
      have hp:partners (gs.setIfInBounds 0 ph) h.r true=[]:=partners_nil fun j x hj=>by
        rcases getElem?_stand gs 0 j x hj with ⟨_,rfl⟩ | ⟨hj0,hj'⟩
        · rfl
        · exact F.offers h.r true j x (by omega) hj'
      refine ⟨_,_,crowd_recv_buf (P:=P) F.main (hs w F.mod) c.heap (by simp) hp,?_⟩
      have F2:=F.recv (fr:=fr.finish v) (cs:=cs) (fn:=fr.fn) (pos:=fr.place) (fn':=fr.fn) (pos':=fr.place) hg c.heap ho
      exact k v _ ho _ _ _ _ τ act rest F2) _ (acc_red _) gs w sl t τ act sent rfl F
end
section
variable {P:Program} {σ:GW} {g0:Goroutine} {gs:Array Goroutine} {w:Go.World} {t:Trace} {τ:Nat→Tree} {act:Acts} {sent:List (Nat × Value)}
def GW.give (σ:GW) (r cap:Nat):GW:={ σ with blk:=fun b=>if b=r then none else σ.blk b,gh:=some ⟨r,cap,[]⟩ }
def GW.take (σ:GW) (h:Gh) (q:Nat) (tm:Bool):GW:={ σ with blk:=fun b=>if b=h.r then some (.chan h.cap #[] false q q tm) else σ.blk b,pub:=fun _=>False,gh:=none }
theorem Fr.give {r cap q:Nat} {tm:Bool} (F:Fr P σ g0 gs w t τ act sent) (hg:σ.gh=none) (hr:σ.blk r=some (.chan cap #[] false q q tm)) (hp:¬ σ.pub r):Fr P (σ.give r cap) g0 gs w t τ act sent:=by
  have hch:=F.chan;unfold Chn at hch;rw [hg] at hch;obtain ⟨hact,rfl⟩:=hch;have le:∀ b o,(σ.give r cap).blk b=some o→σ.blk b=some o:=fun b o hb=>by
    simp only [GW.give] at hb
    split at hb
    · cases hb
    · exact hb
  refine ⟨F.main,⟨F.mod.os,F.mod.tape,F.mod.output,fun b o hb=>F.mod.blk b o (le b o hb),fun b hb=>?_⟩,F.leav,fun i d m ha=>(by rw [hact] at ha;cases ha),fun i d m ha=>(by rw [hact] at ha;cases ha),fun i j d m e n _ ha=>(by rw [hact] at ha;cases ha),?_,F.clean,F.words,F.low,fun i a b ha hb hk hpb=>?_,fun i d m ha=>(by rw [hact] at ha;cases ha),F.all,F.num⟩
  · show (if b=r then none else σ.blk b)≠none
    have hb':σ.pub b:=hb;have hne:b≠r:=fun e=>by subst e;exact hp hb'
    rw [if_neg hne];exact F.mod.known b hb'
  · refine ⟨q,tm,[],⟨by simpa using F.mod.blk r _ hr,by simp [GW.give],by simp,fun i=>by simp [hact],by simp,by simp,fun k g v hk=>by simp at hk⟩⟩
  · refine F.kn0 i a b ha hb (fun e=>hk ?_) hpb
    show (if b=r then none else σ.blk b)=none
    split
    · rfl
    · exact e
theorem Fr.take {h:Gh} (F:Fr P σ g0 gs w t τ act sent) (hg:σ.gh=some h) (ho:h.outs=[]):∃ q tm,Fr P (σ.take h q tm) g0 gs w t τ act []:=by
  have hch:=F.chan;unfold Chn at hch;rw [hg] at hch;obtain ⟨q,tm,L,c⟩:=hch;have hnil:=c.outs;rw [ho] at hnil;have hn:=List.nil_perm.1 hnil;have hs:sent=[]:=by
    have:=(List.append_eq_nil_iff.1 hn).1;exact List.map_eq_nil_iff.1 this
  have hL:L=[]:=List.map_eq_nil_iff.1 (List.append_eq_nil_iff.1 hn).2;subst hs hL;have hact:∀ i,act i=none:=fun i=>by
    cases hx:act i with
    | none=>rfl
    | some x=>have:=(c.mem i).2 (by simp [hx]);simp at this
  refine ⟨q,tm,F.main,⟨F.mod.os,F.mod.tape,F.mod.output,fun b o hb=>?_,fun b hb=>hb.elim⟩,F.leav,fun i d m ha=>(by rw [hact] at ha;cases ha),fun i d m ha=>(by rw [hact] at ha;cases ha),fun i j d m e n _ ha=>(by rw [hact] at ha;cases ha),⟨hact,rfl⟩,F.clean,F.words,F.low,fun i a b ha hb hk hpb=>?_,fun i d m ha=>(by rw [hact] at ha;cases ha),F.all,F.num⟩
  · simp only [GW.take] at hb
    split at hb
    · rename_i e;subst e;cases hb;simpa using c.heap
    · exact F.mod.blk b o hb
  · rcases F.all i a ha with h1 | ⟨g,_,_,h2 | ⟨v,h2⟩⟩
    · exact h1
    · exact absurd (hact g) h2
    · simp at h2
theorem getsB_give {fr:Frame} {cs:List Frame} {r cap q:Nat} {tm:Bool} {Q:Cf→Prop} (hg:σ.gh=none) (hr:σ.blk r=some (.chan cap #[] false q q tm)) (hp:¬ σ.pub r) (k:PX P ⟨fr,cs,σ.give r cap⟩ Q):PX P ⟨fr,cs,σ⟩ Q:=
  fun gs w sl t τ act sent F=>k gs w sl t τ act sent (F.give hg hr hp)
theorem getsB_take {fr:Frame} {cs:List Frame} {h:Gh} {Q:Cf→Prop} (hg:σ.gh=some h) (ho:h.outs=[]) (k:∀ q tm,σ.blk h.r=none→PX P ⟨fr,cs,σ.take h q tm⟩ Q):PX P ⟨fr,cs,σ⟩ Q:=
  fun gs w sl t τ act sent F=>let ⟨q,tm,F'⟩:=F.take hg ho;k q tm (by
    have hch:=F.chan
    unfold Chn at hch
    rw [hg] at hch
    obtain ⟨_,_,_,c⟩:=hch
    exact c.free) gs w sl t τ act [] F'
def gw0 (W:Go.World):GW:={ os:=W.os,tape:=W.tape,output:=W.output,blk:=fun b=>W.heap[b]?,pub:=fun _=>False,gh:=none }
theorem mod_gw0 (W:Go.World):Mod (gw0 W) W:=⟨rfl,rfl,rfl,fun _ _ h=>h,fun _ h=>h.elim⟩
theorem fr_solo (P:Program) (g:Goroutine) (W:Go.World):Fr P (gw0 W) g #[g] W #[] (fun _=>.leaf) (fun _=>none) []:=
  ⟨rfl,mod_gw0 W,fun i x hi hx=>by have:=DN hx;simp at this;omega,fun _ _ _ h=>(by cases h),fun _ _ _ h=>(by cases h),fun _ _ _ _ _ _ _ h=>(by cases h),⟨fun _=>rfl,rfl⟩,fun said=>by rintro ⟨i,j,_,⟨a,b,ha,_⟩,_⟩;simp [Trace.act?] at ha,
    fun op h=>by simp at h,fun op h=>by simp at h,fun i a b ha=>by simp [touchAt,Trace.act?] at ha,fun _ _ _ h=>(by cases h),fun i a ha=>by simp [touchAt,Trace.act?] at ha,fun _ _ h=>by simp at h⟩
theorem step_ended {f : FuncId} {fr : Frame} {R : Value → GW → Prop} (noInit : P.inits.idxOf? f = none) (h : Lv P f [] .normal R ⟨fr, [], σ⟩) (hw : Mod σ w) :
    ∃ v w' es σ',stepG P true (G fr []) w=.ended (.done v) w' es∧Guar σ w w' es σ'∧R v σ':=by
  obtain ⟨_,hfn,hm,hd,hk,fn,hf,hr⟩:=h;simp only at hfn hm hd hk hr;subst hfn;obtain ⟨v,w',es,σ',h1,h2,h3⟩:=hr w hw;have h0:=h1 #[];rw [Array.empty_append] at h0;refine ⟨v,w',seen P fr.fn es,σ',?_,h2.less fun e he=>JO he,h3⟩;simp only [G,stepG,hm,unwind,hd,hf,h0,doReturn,hk,GStep.after,Array.append_empty,Bool.not_true,Bool.false_eq_true,if_false,noInit]
theorem ending {f : FuncId} {fr : Frame} {R : Value → GW → Prop} (noInit : P.inits.idxOf? f = none) (h : Lv P f [] .normal R ⟨fr, [], σ⟩) (hg : σ.gh = none) :
    ∀ (l:List Tree),Acc Red l→∀ gs w sl t τ act sent,l=NJ gs.size τ→Fr P σ (G fr []) gs w t τ act sent →
      ∃ N last o w' t',runNT P (N+1) (crowd gs w sl) t=(.ended o w',t')∧runN P N (crowd gs w sl)=.next last∧step P last=.ended o w'∧Go.Conc.Good P (fun v W'=>∃ σ',Mod σ' W'∧R v σ') last o w' t':=by
  intro l hl
  induction hl with
  | intro l _ ih=>
    intro gs w sl t τ act sent hlf F;obtain ⟨i,g,d,sl',hi,hrun,hst⟩:=crowd_pick (P:=P) (w:=w) (sl:=sl) (F.awake (awake_of (.inl rfl))) ⟨0,G fr [],F.main,rfl⟩;have F':=F.draw d;have hch:=F.chan;unfold Chn at hch;rw [hg] at hch;obtain ⟨hact,rfl⟩:=hch;rcases Nat.eq_zero_or_pos i with rfl | hpos
    · obtain ⟨v,w',es,σ',h1,h2,h3⟩:=step_ended noInit h F'.mod
      have hrunT:=runT_many_ended (P:=P) (sl:=sl') F.main (show stepG P (0 == 0) (G fr []) (w.at d)=_ from h1);have F2:=F'.step0 (fr':=fr) (cs':=[]) (fn:=(G fr []).frame.fn) (pos:=(G fr []).frame.place) h2
      generalize hT:t++MemOp.ofEvents 0 (G fr []).frame.fn (G fr []).frame.place es=T at F2
      refine ⟨0,crowd gs w sl,.done v,w',T,?_,rfl,?_,v,rfl,⟨σ',h2.mod,h3⟩,F2.clean,fun i g hgi hne hc=>?_,⟨fun x hx=>?_,rfl⟩,fun j x hx hj=>?_⟩
      · simp only [runNT,hst,hrunT,hT]
      · simp only [step,hst,hrunT]
      · obtain ⟨x,hx,_⟩:=hc
        rcases F2.all i x hx with ⟨q,z,k1,k2,k3⟩ | ⟨n,_,_,k | ⟨v',k⟩⟩
        · rcases k3 with rfl | k3
          · simp only [Trace.g?,k1,Option.map_some,Option.some.injEq] at hgi
            exact absurd (hgi.symm.trans k2) hne
          · exact ⟨q,by simp only [Trace.g?,k1,Option.map_some,k2],k3⟩
        · exact absurd (hact n) k
        · simp at k
      · obtain ⟨j,hj⟩:=List.mem_iff_getElem?.1 hx
        rw [List.getElem?_drop] at hj;obtain ⟨k,_,hq⟩:=F.leav (1+j) x (by omega) (by simpa [crowd] using hj) (hact _);exact ⟨k,hq.leaves⟩
      · obtain ⟨k,_,hq⟩:=F.leav j x (by omega) hx (hact j)
        refine ⟨k,?_⟩;rw [F2.words.deaf];exact hq.hears _ 0
    · rcases QL (sl:=sl') F' hi hpos hrun (fun _ _ _ _=>woken_run rfl) with ⟨gs',w',ops,τ',act',h1,h2,h3,h4⟩ | ⟨e,m,h',n,f',h1,h2,_⟩
      · obtain ⟨N,last,o,w2,t',k1,k2,k3,k4⟩:=ih _ (hlf▸h3) gs' w' sl' _ τ' act' [] (by rw [h2]) h4
        have hs:=hst.trans h1;exact ⟨N+1,last,o,w2,t',by rw [runNT_succ_next hs];exact k1,by rw [runN_succ_next hs];exact k2,k3,k4⟩
      · rw [hact] at h1;cases h1
theorem run_good {f : FuncId} {args : Array Value} {W : Go.World} {R : Value → GW → Prop} (noInit : P.inits.idxOf? f = none) (h : @Calls P (JB P) f args (gw0 W) R) (hR : ∀ v σ, R v σ → σ.gh = none) :
    ∃ M last o w' t',runNT P (M+1) (solo (G (Frame.enter P f args .normal) []) W) #[]=(.ended o w',t')∧runN P M (solo (G (Frame.enter P f args .normal) []) W)=.next last∧step P last=.ended o w' ∧
      Go.Conc.Good P (fun v W'=>∃ σ',Mod σ' W'∧R v σ') last o w' t':=by
  have h1:=h [] #[G (Frame.enter P f args .normal) []] W none #[] (fun _=>.leaf) (fun _=>none) [] (fr_solo P _ W);obtain ⟨N,m,t,h1,d,gs,w,sl,τ,act,sent,rfl,F,hlv⟩:=h1;obtain ⟨fr,cs,σ⟩:=d;obtain rfl:cs=[]:=hlv.cs;have hgh:∀ w,Mod σ w→σ.gh=none:=fun w hw=>by
    obtain ⟨v,w',es,σ',_,h2,h3⟩:=step_ended noInit hlv hw;rw [← h2.gh];exact hR v σ' h3
  obtain ⟨N2,last,o,w',t',k1,k2,k3,k4⟩:=ending noInit hlv (hgh w F.mod) _ (acc_red _) gs w sl t τ act sent rfl F;have h2:runN P N (solo (G (Frame.enter P f args .normal) []) W)=.next (crowd gs w sl):=by
    rw [← runNT_fst P N _ #[]];rw [show solo (G (Frame.enter P f args .normal) []) W=crowd #[G (Frame.enter P f args .normal) []] W none from rfl,h1]
  refine ⟨N+N2,last,o,w',t',?_,?_,k3,k4⟩
  · rw [Nat.add_assoc,runNT_add,show solo (G (Frame.enter P f args .normal) []) W=crowd #[G (Frame.enter P f args .normal) []] W none from rfl,h1];exact k1
  · rw [runN_add,h2];exact k2
end
open Go.Conc (G rcase born)
class Host (P:Program) [J:Jud P]:Prop where
  go:∀ {σ:GW} {fr fr' cf:Frame} {cs cs' ccs:List Frame} {h:Gh} {m:Value} {Q:Cf→Prop},σ.gh=some h→h.outs.length<h.cap→(∀ w,Mod σ w→stepG P true (G fr cs) w=.spawn (G fr' cs') (G cf ccs) w #[]) →
    (∃ T,Tr P (fun d=>∃ n,QT P h.r m n d) T ⟨cf,ccs,σ.child⟩)→J.gets ⟨fr',cs',σ.share h m⟩ Q→J.gets ⟨fr,cs,σ⟩ Q
  recv:∀ {σ:GW} {fr:Frame} {cs:List Frame} {h:Gh} {z:Value} {Q:Cf→Prop},σ.gh=some h→h.outs≠[]→(∀ w,Mod σ w→stepG P true (G fr cs) w=.comm (G fr cs) #[rcase h.r z] true (.recv false) w #[]) →
    (∀ v outs,h.outs.Perm (v::outs)→J.gets ⟨fr.finish v,cs,σ.outs h outs⟩ Q)→J.gets ⟨fr,cs,σ⟩ Q
  give:∀ {σ:GW} {fr:Frame} {cs:List Frame} {r cap q:Nat} {tm:Bool} {Q:Cf→Prop},σ.gh=none→σ.blk r=some (.chan cap #[] false q q tm)→¬ σ.pub r→J.gets ⟨fr,cs,σ.give r cap⟩ Q→J.gets ⟨fr,cs,σ⟩ Q
  take:∀ {σ:GW} {fr:Frame} {cs:List Frame} {h:Gh} {Q:Cf→Prop},σ.gh=some h→h.outs=[]→(∀ q tm,σ.blk h.r=none→J.gets ⟨fr,cs,σ.take h q tm⟩ Q)→J.gets ⟨fr,cs,σ⟩ Q
theorem host_JB (P:Program):@Host P (JB P):=@Host.mk P (JB P) getsB_go getsB_recv getsB_give getsB_take
structure CtB (P:Program) (f:FuncId) (args:Array Value) (I:Imm) (pre:Seg) (post:Value→Imm→Seg→Prop):Prop where
  all:∀ [Jud P] [Host P],CtA P f args I pre post
theorem Ct.b {P:Program} {f:FuncId} {args:Array Value} {I:Imm} {pre:Seg} {post:Value→Imm→Seg→Prop} (h:Ct P f args I pre post):CtB P f args I pre post:=⟨h.all⟩
theorem frB {P : Program} {f : FuncId} {fn : Func} {args : List Value} {I : Imm} {pre : Seg} {post : Value → Imm → Seg → Prop} {N : Nat} (hf : P.funcs[f]? = some fn)
    (h:∀ [Jud P] [Host P] (F:Seg),Run (ρ:=none) P N (JG fn) (RetQ P fn I post F) [] (EW 0 args) I (pre++F)) (hb:fn.body.isSome=true:=by kernel_rfl) (hN:fn.ntmps=N:=by kernel_rfl) (hle:Nat.ble args.length N=true:=by rfl):CtB P f args.toArray I pre post:=
  ⟨QD hf hb hN (Nat.le_of_ble_eq_true hle) h⟩
theorem run_good_ct {P : Program} {f : FuncId} {args : Array Value} {W : Go.World} {I : Imm} {post : Value → Imm → Seg → Prop} (noInit : P.inits.idxOf? f = none) (ct : CtB P f args I [] post) (st : St I [] (gw0 W)) (hg : I.gh = none) :
    ∃ M last o w' t',runNT P (M+1) (Go.Conc.solo (G (Frame.enter P f args .normal) []) W) #[]=(.ended o w',t')∧runN P M (Go.Conc.solo (G (Frame.enter P f args .normal) []) W)=.next last∧step P last=.ended o w' ∧
      Go.Conc.Good P (fun v W'=>∃ σ' I' M',Mod σ' W'∧I.le I'∧post v I' M'∧St I' M' σ') last o w' t':=by
  have h:=@CtB.all P f args I [] post ct (JB P) (host_JB P) [] (gw0 W) st;obtain ⟨M,last,o,w',t',h1,h2,h3,h4⟩:=run_good noInit h (fun v σ ⟨I',M',hle,_,st'⟩=>by rw [st'.gh,hle.gh];exact hg);exact ⟨M,last,o,w',t',h1,h2,h3,h4.mono fun v ⟨σ',hm,I',M',hle,hp,st'⟩=>⟨σ',I',M',hm,hle,hp,by simpa using st'⟩⟩
section
variable {ρ:Option Nat} {P:Program} [J:Jud P] {N:Nat} {ops:Array Oper} {Q:Exit→Act→GW→Prop} {ds:List Deferred} {i:Nat} {l:Sl} {I:Imm} {M:Seg} {ty:TypeId} {gd:Option (Nat × Bool)} {K:Sl→Imm→Seg→Prop}
theorem stp_callH [Host P] {d : Option Tmp} {f : Operand} {fid : FuncId} {args : Array Operand} {tys : Array TypeId} {vals cv : List Value} {pre F : Seg} {post : Value → Imm → Seg → Prop} {argv : Array Value}
    (hop:FJ ops N i=some (d,.call { callee:=.value f,args,argTypes:=tys },ty,gd)) (hg:FH ops l gd=some true) (hf:CE l f=some (.func (.func fid) #[] cv.toArray)) (hv:NW l args.toList=some vals)
    (hc:DF P fid=true) (ha:(vals++cv).toArray=argv) (ct:CtB P fid argv I pre post) (hM:M.Perm (pre++F))
    (h:∀ v I' M',I.le I'→post v I' M'→K (ups d v l) I' (M'++F)):Stp P N ops i l I M K:=by
  obtain ⟨o,ho,rfl,he,rfl,rfl,hN,hs⟩:=FC hop;obtain ⟨h1,h2⟩:=HN hv;refine ⟨o,ho,hN,hs,hg,?_,fun w st=>?_⟩
  · rw [he]
    intro x hx;simp only [Op.operands,Call.operands] at hx;rcases Array.mem_append.1 hx with hx | hx
    · simp at hx;subst hx;exact EL hf
    · exact h1 x (by simpa using hx)
  · rw [FA,he]
    refine call_to (BI hf) h2 hc ?_;rw [ha];exact (ct.all F w (st.perm hM)).mono fun v w' ⟨I',M',hle,hp,st'⟩=>⟨I',M'++F,hle,st',h v I' M' hle hp⟩
def SeqM {ρ:Option Nat} (P:Program) [Jud P] (N:Nat) (ops:Array Oper) (Q:Exit→Act→GW→Prop) (ds:List Deferred) (i:Nat) (l:Sl) (I:Imm) (M:Seg):Prop:=
  ∀ a w,Slots N l a→a.defers=ds→St I M w→QR ρ P ops Q (List.range' i (ops.size-i)) a w
theorem QN (h:Seq (ρ:=ρ) P N ops Q ds i l I M):SeqM (ρ:=ρ) P N ops Q ds i l I M:=fun a w hS hD hW=>wpOps_of_R _ _ _ (h a w hS hD hW)
theorem run_regionM {c:Code} {id:Nat} (hc:c=.region id ops false) (h:SeqM (ρ:=ρ) P N ops Q ds 0 l I M):Run (ρ:=ρ) P N c Q ds l I M:=by
  subst hc;intro a w hS hD hW;have:=h a w hS hD hW;rw [Nat.sub_zero,← List.range_eq_range'] at this;exact wpc_region this
theorem PF {d:Nat} {v:Value} (h:Det P N ops i l I M d v) (next:SeqM (ρ:=ρ) P N ops Q ds (i+1) ((d,v)::l) I M):SeqM (ρ:=ρ) P N ops Q ds i l I M:=by
  obtain ⟨o,ho,hd,hN,hs,h⟩:=h;intro a w hS hD hW;have hlt:i<ops.size:=(Array.getElem?_eq_some_iff.1 ho).1;rw [KI hlt];have hag:∀ t∈o.looksAt ops,∀ u,look t l=some u→a.tmps[t]?=some u:=fun t _ u hu=>hS.get t u hu
  rcases h with ⟨hg,rfl⟩ | ⟨hg,hk,hr⟩
  · refine QS (by simp [ho,CM hg hag]) ?_
    simp only [ho,Option.bind_some,hd];exact next _ _ (hS.put hN _) (by rw [ET];exact hD) hW
  · refine wpOps_op ho (CM hg hag) ?_
    have:=hr I [] w (Imm.le.refl I) (by rw [List.append_nil];exact hW);rw [← KS hs hk hag] at this;refine GP hs.2 this fun u w' ⟨hu,hst⟩=>?_
    subst hu;rw [hd];exact next _ _ (hS.put hN _) (by rw [ET];exact hD) (by rw [List.append_nil] at hst;exact hst)
structure Shr (I:Imm) (M:Seg) (g:Option Gh) (J:Imm):Prop where
  os:J.os=I.os
  tape:J.tape=I.tape
  output:J.output=I.output
  blk:∀ b o,I.blk b=some o→J.blk b=some o
  mem:∀ b o,(b,o)∈M→J.blk b=some o
  gh:J.gh=g
def goAt (ops:Array Oper) (i:Nat):Option (Operand × TypeId):=
  match ops[i]? with
  | some o=>match o.op with
    | .go c=>match c.callee with
      | .value f=>if c.args.toList.isEmpty&&c.argTypes.toList.isEmpty&&o.dst.isNone&&o.guard.isNone then some (f,o.type) else none
      | _=>none
    | _=>none
  | none=>none
theorem goAt_spec {f:Operand} (h:goAt ops i=some (f,ty)):∃ o,ops[i]?=some o∧o.op=.go { callee:=.value f,args:=#[],argTypes:=#[] }∧o.dst=none∧o.guard=none∧o.type=ty:=by
  unfold goAt at h;cases ho:ops[i]? with
  | none=>rw [ho] at h;cases h
  | some o=>
    rw [ho] at h;simp only at h;cases hop:o.op with
    | go c=>
      rw [hop] at h;simp only at h;obtain ⟨cal,ar,at'⟩:=c;cases cal with
      | value f'=>
        simp only at h
        split at h
        · rename_i hc
          simp only [Bool.and_eq_true,List.isEmpty_iff,Option.isNone_iff_eq_none,Array.toList_eq_nil_iff] at hc;obtain ⟨⟨⟨e1,e2⟩,e3⟩,e4⟩:=hc;simp only [Option.some.injEq,Prod.mk.injEq] at h;subst e1 e2;exact ⟨o,rfl,by rw [h.1] at hop;exact hop,e3,e4,h.2⟩
        · cases h
      | _=>simp at h
    | _=>rw [hop] at h;simp at h
theorem seqM_go [Host P] {f : Operand} {cid : FuncId} {cv : List Value} {h : Gh} {m : Value} (hop : goAt ops i = some (f, ty)) (hf : CE l f = some (.func (.func cid) #[] cv.toArray)) (hI : I.gh = some h) (hroom : h.outs.length < h.cap)
    (hc:∀ Jc σ,Shr I M none Jc→St Jc [] σ→∃ T,Tr P (fun d=>∃ n,QT P h.r m n d) T ⟨(born P { target:=.fn (.func cid) cv.toArray,args:=#[] }).frame,[],σ⟩)
    (next:∀ J,Shr I M (some { h with outs:=m::h.outs }) J→SeqM (ρ:=ρ) P N ops Q ds (i+1) l J []):SeqM (ρ:=ρ) P N ops Q ds i l I M:=by
  obtain ⟨o,ho,hop2,hdst,hgd,rfl⟩:=goAt_spec hop;intro a w hS hD hW b k cs hb;have hlt:i<ops.size:=(Array.getElem?_eq_some_iff.1 ho).1;rw [KI hlt];have hw:Region.wanted o (yielded ops a.tmps)=true:=by simp [Region.wanted,hgd]
  have hg:w.gh=some h:=hW.gh.trans hI;have hfin:(b.atR a (.inRegion ops (i::List.range' (i+1) (ops.size-(i+1)))::k)).finish undef=b.atR (a.put o.dst undef) (.inRegion ops (List.range' (i+1) (ops.size-(i+1)))::k):=by
    rw [Frame.finish_atR,ho];rfl
  have hput:a.put o.dst undef=a:=by rw [hdst];rfl
  have stc:St { os:=w.os,tape:=w.tape,output:=w.output,blk:=w.blk,pub:=fun b=>w.blk b≠none,gh:=none } [] w.child:=⟨rfl,rfl,rfl,rfl,rfl,fun _ _ h=>h,fun _ _ h=>by simp at h,fun _ _ h=>by simp at h,by simp,fun _ _ h=>by simp at h⟩;have sts:St { os:=w.os,tape:=w.tape,output:=w.output,blk:=w.blk,pub:=fun b=>w.blk b≠none,gh:=some { h with outs:=m::h.outs } } [] (w.share h m):=⟨rfl,rfl,rfl,rfl,rfl,fun _ _ h=>h,fun _ _ h=>by simp at h,fun _ _ h=>by simp at h,by simp,fun _ _ h=>by simp at h⟩
  refine Host.go (P:=P) (cf:=(born P { target:=.fn (.func cid) cv.toArray,args:=#[] }).frame) (ccs:=[]) (fr':=b.atR a (.inRegion ops (List.range' (i+1) (ops.size-(i+1)))::k)) (cs':=cs) (m:=m) hg hroom (fun w1 _=>?_) (hc _ _ ⟨hW.os,hW.tape,hW.output,hW.imm,hW.mem,rfl⟩ stc)
    (next _ ⟨hW.os,hW.tape,hW.output,hW.imm,hW.mem,rfl⟩ a _ hS hD sts b k cs hb)
  have e1:o.semAt b.roundOf a.eval=pure (.spawn { target:=.fn (.func cid) cv.toArray,args:=#[] }):=by
    rw [Oper.semAt_eq _ _ o (fun c hc=>by rw [hop2] at hc;cases hc),FA,hop2];show (do pure (Next.spawn (← resolve a.eval { callee:=.value f,args:=#[],argTypes:=#[] } o.type)):Sem Next)=_;unfold resolve;simp [LX hS hf,Deferred.ofValue,pure_bind]
  rw [PJ ho hw,e1];have hfin2:=hfin.trans (by rw [hput]);simp only [stepG.apply,if_true,pure,Sem.runT,GStep.after,born,hfin2,G];have hes:seen P (b.atR a (.inRegion ops (i::List.range' (i+1) (ops.size-(i+1)))::k)).fn #[]=#[]:=by simp [seen]
  simp [hes]
end
open Go.Conc (G rcase)
def tyChan (P:Program) (t:TypeId):Option TypeId:=
  match P.underlying t with
  | some (.chan _ e)=>some e
  | _=>none
def wpcL (ρ:Option Nat) (P:Program) [J:Jud P] (c:Code) (Q:Exit→Act→GW→Prop) (a:Act) (σ:GW):Prop:=
  ∀ (b:Frame) (k:List Item) (cs:List Frame),b.roundOf=ρ→gets P (b.atR a (.code c::.inLoop c::k)) cs σ (Arr Q b k cs)
theorem wpcL_of {ρ:Option Nat} {P:Program} [J:Jud P] {c:Code} {Q:Exit→Act→GW→Prop} {a:Act} {σ:GW} (h:wpc ρ P c (Exit.then (wpcL ρ P c Q) Q) a σ):wpcL ρ P c Q a σ:=by
  intro b k cs hb;refine J.bind (h b (.inLoop c::k) cs hb) fun d hd=>?_
  cases hd with
  | normal h=>exact CY (fun main w=>by simp [G,stepG,stepG.exec,Frame.atR]) (h b k cs hb)
  | exit k₁ hk h=>exact J.stop (.exit k₁ (hk.trans (by simp [exitTo])) h)
  | goto k₁ hk h=>exact J.stop (.goto k₁ (hk.trans (by simp [gotoIn])) h)
  | ret k₁ h=>exact J.stop (.ret k₁ h)
theorem wpc_loopL {ρ:Option Nat} {P:Program} [J:Jud P] {c:Code} {Q:Exit→Act→GW→Prop} {a:Act} {σ:GW} (h:wpcL ρ P c Q a σ):wpc ρ P (.loop c) Q a σ:=fun b k cs hb=>
  CY (fr':=b.atR a (.code c::.inLoop c::k)) (cs':=cs) (fun main w=>by simp [G,stepG,stepG.exec,Frame.atR]) (h b k cs hb)
section
variable {ρ:Option Nat} {P:Program} [J:Jud P] {N:Nat} {Q:Exit→Act→GW→Prop} {ds:List Deferred} {l:Sl} {I:Imm} {M:Seg} {C:List Nat→Code} {p:List Nat} {c:Code}
def RunL {ρ:Option Nat} (P:Program) [Jud P] (N:Nat) (c:Code) (Q:Exit→Act→GW→Prop) (ds:List Deferred) (l:Sl) (I:Imm) (M:Seg):Prop:=
  ∀ a w,Slots N l a→a.defers=ds→St I M w→wpcL ρ P c Q a w
theorem HA (h:Run (ρ:=ρ) P N c (Exit.then (wpcL ρ P c Q) Q) ds l I M):RunL (ρ:=ρ) P N c Q ds l I M:=fun a w hS hD hW=>wpcL_of (h a w hS hD hW)
theorem rL (h:RunL (ρ:=ρ) P N (C (p++[0])) Q ds l I M) (hc:C p=.loop (C (p++[0])):=by kernel_rfl):Run (ρ:=ρ) P N (C p) Q ds l I M:=fun a w hS hD hW=>by rw [hc];exact wpc_loopL (h a w hS hD hW)
theorem GG {Q':Exit→Act→GW→Prop} (h:RunL (ρ:=ρ) P N c Q ds l I M):Pst N (Exit.then (wpcL ρ P c Q) Q') .normal ds l I M:=h
end
section
variable {ρ:Option Nat} {P:Program} [J:Jud P] {N:Nat} {ops:Array Oper} {Q:Exit→Act→GW→Prop} {ds:List Deferred} {i d:Nat} {l:Sl} {I:Imm} {M:Seg} {ty:TypeId} {gd:Option (Nat × Bool)} {K:Sl→Imm→Seg→Prop} {c:Code}
theorem seqM_recv [Host P] {x : Operand} {T el : Nat} {z : Value} {h : Gh} (hop : FJ ops N i = some (some d, .recv T x false, ty, none)) (hT : tyChan P T = some el) (hz : HF P el = some z)
    (hx:CE l x=some (.chan (some h.r))) (hI:I.gh=some h) (hne:h.outs≠[])
    (next:∀ v outs,h.outs.Perm (v::outs)→SeqM (ρ:=ρ) P N ops Q ds (i+1) ((d,v)::l) { I with gh:=some { h with outs:=outs } } M):SeqM (ρ:=ρ) P N ops Q ds i l I M:=by
  obtain ⟨o,ho,hd,hop2,hty,hgd,hN,hs⟩:=FC hop;intro a w hS hD hW b k cs hb;have hlt:i<ops.size:=(Array.getElem?_eq_some_iff.1 ho).1;rw [KI hlt];have hw:Region.wanted o (yielded ops a.tmps)=true:=by unfold Region.wanted;rw [hgd]
  have he:o.semAt b.roundOf a.eval=execOp a.eval o:=Oper.semAt_eq _ _ o hs.2;have hrun:∀ w1,(execOp a.eval o).runT P w1 #[]=(.ok (.comm #[rcase h.r z] true (.recv false)) w1,#[]):=fun w1=>by
    obtain ⟨dir,hu⟩:∃ dir,P.underlying T=some (.chan dir el):=by
      unfold tyChan at hT
      split at hT
      · cases hT;exact ⟨_,by assumption⟩
      · cases hT
    obtain ⟨inf,hi,hzi⟩:∃ inf,P.info? el=some inf∧inf.zero=some z:=by
      unfold HF at hz;cases hI:P.info? el with
      | none=>rw [hI] at hz;cases hz
      | some inf=>rw [hI] at hz;exact ⟨inf,rfl,hz⟩
    rw [FA,hop2];have e1:(IJ a.eval (.recv T x false) o.type).run P w1=.ok (.comm #[rcase h.r z] true (.recv false)) w1:=by
      simp [IJ,execOp,underlying,zeroValue,typeInfo,hu,hi,hzi,LX hS hx,rcase]
    have e2:(IJ a.eval (.recv T x false) o.type).events P w1 #[]=#[]:=by
      simp [IJ,execOp,underlying,zeroValue,typeInfo,hu,hi,hzi,LX hS hx,rcase]
    rw [Sem.runT_eq,e1,e2]
  refine Host.recv (P:=P) (z:=z) (hW.gh.trans hI) hne (fun w1 hw1=>?_) fun v outs hp=>?_
  · rw [PJ ho hw,he]
    have hes:∀ f,seen P f #[]=#[]:=fun f=>by simp [seen]
    simp only [stepG.apply,if_true,hrun,GStep.after,G];simp [hes]
  · have hfin : (b.atR a (.inRegion ops (i :: List.range' (i + 1) (ops.size - (i + 1))) :: k)).finish v = b.atR (a.put o.dst v) (.inRegion ops (List.range' (i + 1) (ops.size - (i + 1))) :: k) := by
      rw [Frame.finish_atR,ho];rfl
    rw [hfin,hd];exact next v outs hp _ (w.outs h outs) (hS.put (hN d rfl) v) (by rw [ET];exact hD) ⟨hW.os,hW.tape,hW.output,hW.pub,rfl,hW.imm,hW.mem,hW.own,hW.nodup,hW.disj⟩ b k cs hb
theorem run_give [Host P] {r cap:Nat} {tm:Bool} {M':Seg} (hg:I.gh=none) (hM:M=(r,.chan cap #[] false 0 0 tm)::M') (next:Run (ρ:=ρ) P N c Q ds l { I with gh:=some ⟨r,cap,[]⟩ } M'):Run (ρ:=ρ) P N c Q ds l I M:=by
  subst hM;intro a w hS hD hW b k cs hb;refine Host.give (P:=P) (σ:=w) (q:=0) (tm:=tm) (cap:=cap) (r:=r) (hW.gh.trans hg) (hW.mem _ _ (List.mem_cons_self ..)) (by rw [hW.pub];exact hW.own _ _ (List.mem_cons_self ..)) (next a (w.give r cap) hS hD ⟨hW.os,hW.tape,hW.output,hW.pub,rfl,fun b' o hb'=>?_,fun b' o hm=>?_,fun b' o hm=>hW.own _ _ (List.mem_cons_of_mem _ hm),(List.nodup_cons.1 hW.nodup).2,fun b' o hm=>hW.disj _ _ (List.mem_cons_of_mem _ hm)⟩ b k cs hb)
  · have h1:=hW.disj _ _ (List.mem_cons_self ..)
    show (if b'=r then none else w.blk b')=some o;rw [if_neg (fun e=>by rw [e,h1] at hb';cases hb')];exact hW.imm _ _ hb'
  · have h1:=(List.nodup_cons.1 hW.nodup).1
    show (if b'=r then none else w.blk b')=some o;rw [if_neg (fun e=>h1 (by rw [← e];exact List.mem_map.2 ⟨_,hm,rfl⟩))];exact hW.mem _ _ (List.mem_cons_of_mem _ hm)
theorem run_take [Host P] {h : Gh} {F : Seg} {I0 : Imm} (hg : I.gh = some h) (ho : h.outs = []) (h0 : I0.gh = none) (hp : I0.pub = fun _ => False) (hos : I.os = I0.os) (htp : I.tape = I0.tape) (hout : I.output = I0.output)
    (hF:∀ b o,(b,o)∈F→I.blk b=some o∧I0.blk b=none) (hFn:(F.map Prod.fst).Nodup) (hI0:∀ b o,I0.blk b=some o→I.blk b=some o)
    (next:∀ q tm J,I0.le J→(∀ b o,I.blk b=some o→b≠h.r→(∀ o',(b,o')∉F)→J.blk b=some o)→Run (ρ:=ρ) P N c Q ds l J ((h.r,.chan h.cap #[] false q q tm)::(M++F))):Run (ρ:=ρ) P N c Q ds l I M:=by
  intro a w hS hD hW b k cs hb;refine Host.take (P:=P) (hW.gh.trans hg) ho fun q tm hfree=>?_
  have hr0:I0.blk h.r=none:=by
    cases hx:I0.blk h.r with
    | none=>rfl
    | some o=>rw [hW.imm _ _ (hI0 _ _ hx)] at hfree;cases hfree
  have hrF:∀ o,(h.r,o)∉F:=fun o hm=>by rw [hW.imm _ _ (hF _ _ hm).1] at hfree;cases hfree
  have hrM:∀ o,(h.r,o)∉M:=fun o hm=>by rw [hW.mem _ _ hm] at hfree;cases hfree
  let J:Imm:={ I0 with blk:=fun b=>if b=h.r∨b∈F.map Prod.fst then none else I.blk b }
  have hnF:∀ b o,I0.blk b=some o→¬ (b=h.r∨b∈F.map Prod.fst):=fun b o hb hh=>by
    rcases hh with rfl | hh
    · rw [hr0] at hb;cases hb
    · obtain ⟨⟨b',o'⟩,hm,rfl⟩:=List.mem_map.1 hh
      rw [(hF _ _ hm).2] at hb;cases hb
  refine next q tm J ⟨rfl,rfl,rfl,rfl,rfl,fun b o hb=>?_⟩ (fun b o hb hne hnf=>?_) a (w.take h q tm) hS hD ⟨?_,?_,?_,hp.symm,h0.symm,fun b o hb=>?_,fun b o hm=>?_,fun b o hm=>by show ¬ I0.pub b;rw [hp];exact id,?_,fun b o hm=>?_⟩ b k cs hb
  · show (if _ then none else I.blk b)=some o
    rw [if_neg (hnF b o hb)];exact hI0 b o hb
  · show (if _ then none else I.blk b)=some o
    rw [if_neg]
    · exact hb
    · rintro (e | hh)
      · exact hne e
      · obtain ⟨⟨b',o'⟩,hm,rfl⟩:=List.mem_map.1 hh
        exact hnf _ hm
  · exact hW.os.trans hos
  · exact hW.tape.trans htp
  · exact hW.output.trans hout
  · have hb':(if b=h.r∨b∈F.map Prod.fst then none else I.blk b)=some o:=hb
    split at hb'
    · cases hb'
    · rename_i hne
      show (if b=h.r then _ else w.blk b)=some o;rw [if_neg fun e=>hne (.inl e)];exact hW.imm _ _ hb'
  · show (if b=h.r then _ else w.blk b)=some o
    rcases List.mem_cons.1 hm with e | hm
    · cases e;rw [if_pos rfl]
    · have : b ≠ h.r := fun e => by
        subst e;rcases List.mem_append.1 hm with hm | hm
        · exact hrM _ hm
        · exact hrF _ hm
      rw [if_neg this];rcases List.mem_append.1 hm with hm | hm
      · exact hW.mem _ _ hm
      · exact hW.imm _ _ (hF _ _ hm).1
  · show (h.r::(M++F).map Prod.fst).Nodup
    rw [List.nodup_cons,List.map_append,List.nodup_append];refine ⟨fun hm=>?_,hW.nodup,hFn,fun x hx y hy e=>?_⟩
    · rcases List.mem_append.1 hm with hm | hm
      · obtain ⟨⟨b',o'⟩,hm,e⟩:=List.mem_map.1 hm
        simp only at e;subst e;exact hrM _ hm
      · obtain ⟨⟨b',o'⟩,hm,e⟩:=List.mem_map.1 hm
        simp only at e;subst e;exact hrF _ hm
    · subst e
      obtain ⟨⟨b1,o1⟩,h1,rfl⟩:=List.mem_map.1 hx;obtain ⟨⟨b2,o2⟩,h2,e2⟩:=List.mem_map.1 hy;simp only at e2;subst e2;have:=hW.disj _ _ h1;rw [(hF _ _ h2).1] at this;cases this
  · show (if b=h.r∨b∈F.map Prod.fst then none else I.blk b)=none
    rcases List.mem_cons.1 hm with e | hm
    · cases e;rw [if_pos (.inl rfl)]
    · rcases List.mem_append.1 hm with hm | hm
      · split
        · rfl
        · exact hW.disj _ _ hm
      · rw [if_pos (.inr (List.mem_map.2 ⟨_,hm,rfl⟩))]
theorem stp_close {M0 : Seg} {r cap s q : Nat} {tm : Bool} {buf : Array Value} {x : Operand} {tys : Array TypeId} {dst : Option Tmp} (hop : FJ ops N i = some (dst, .call { callee := .builtin .close, args := #[x], argTypes := tys }, ty, gd)) (hg : FH ops l gd = some true)
    (hx:CE l x=some (.chan (some r))) (hM:M.Perm ((r,.chan cap buf false s q tm)::M0)) (next:K (ups dst (.tuple #[]) l) I M0):Stp P N ops i l I M K:=by
  refine RJ (vals:=[.chan (some r)]) hop hg (MG hx) (by simp [BI hx]) hM fun cs=>?_
  show wpL P (Builtin.close_ tys ty #[.chan (some r)] >>= fun x=>pure (Next.value x)) _ I _;refine DX ?_;unfold Builtin.close_;show wpL P (Sem.getObj r _) _ I _;refine ⟨.chan cap buf false s q tm,.inl (List.mem_cons_self ..),rfl,?_⟩;show wpL P (Sem.setObj r _ _) _ I _;refine FU 0 rfl rfl rfl ?_;exact ⟨_,M0,.inl rfl,List.sublist_cons_self ..,next⟩
theorem stp_makeChan {x : Operand} {T el bs n : Nat} (hop : FJ ops N i = some (some d, .makeChan T x, ty, gd)) (hg : FH ops l gd = some true) (hT : tyChan P T = some el) (hb : KB P el = some bs) (hbs : bs ≤ 256)
    (hx:CE l x=some (.int .i64 (n:Int))) (hn:n≤1000) (next:∀ b,K ((d,.chan (some b))::l) I ((b,Obj.chan n #[] false 0 0 false)::M)):Stp P N ops i l I M K:=by
  obtain ⟨dir,hu⟩:∃ dir,P.underlying T=some (.chan dir el):=by
    unfold tyChan at hT
    split at hT
    · cases hT;exact ⟨_,by assumption⟩
    · cases hT
  obtain ⟨inf,hi,hby⟩:∃ inf,P.info? el=some inf∧inf.bytes=bs:=by
    unfold KB at hb;cases hi:P.info? el with
    | none=>rw [hi] at hb;cases hb
    | some inf=>rw [hi] at hb;exact ⟨inf,rfl,by simpa using hb⟩
  refine DD hop hg (MG hx) ?_;show wpL P (Instr.makeChan T (rho l x) >>= fun x=>pure (Next.value x)) _ I M;refine DX ?_;rw [BI hx];unfold Instr.makeChan;show wpL P (underlying T >>= _) _ I M;rw [AE,AP hu];show wpL P (typeInfo el >>= _) _ I M;rw [AE,DJ hi];have h1:(inf.bytes:Int)*(n:Int)≤((256*1000:Nat):Int):=by
    rw [← Int.natCast_mul];exact Int.ofNat_le.2 (Nat.mul_le_mul (by omega) hn)
  have h2:¬ ((n:Int)<0∨(n:Int)>IntKind.i64.max∨(inf.bytes:Int)*(n:Int)>2 ^ 48-112):=by
    rintro (h | h | h)
    · omega
    · have:IntKind.i64.max=9223372036854775807:=by decide
      omega
    · omega
  rw [if_neg h2];intro b;exact ⟨_,.inl rfl,next b⟩
end
open Go.Conc (G rcase scase born QuitsIn)
section
variable {P:Program} [J:Jud P] {N:Nat} {ops:Array Oper} {R:Seg} {ds:List Deferred} {b:Frame} {k:List Item} {cs:List Frame} {G':Cf→Prop}
theorem gets_op {a : Act} {σ : GW} {i : Nat} {rest : List Nat} {o : Oper} (ho : ops[i]? = some o) (hw : Region.wanted o (yielded ops a.tmps) = true)
    (h:wpOp b.roundOf P o a σ fun a' σ'=>gets P (b.atR a' (.inRegion ops rest::k)) cs σ' G'):gets P (b.atR a (.inRegion ops (i::rest)::k)) cs σ G':=by
  have hfin:∀ v,(b.atR a (.inRegion ops (i::rest)::k)).finish v=b.atR (a.put o.dst v) (.inRegion ops rest::k):=by
    intro v;rw [Frame.finish_atR,ho];rfl
  refine QG (fun main w=>PJ ho hw) (fun d r x k e=>by simp [Frame.atR] at e) ?_;refine h.mono fun n σ' hn=>?_
  cases n with
  | value v=>show gets P (Frame.finish _ v) cs σ' _;rw [hfin];exact hn
  | skip=>show gets P (Frame.finish _ undef) cs σ' _;rw [hfin];exact hn
  | defer d=>
    show gets P (Frame.finish _ undef) cs σ' _;have:({ b.atR a (.inRegion ops (i::rest)::k) with defers:=d::a.defers }:Frame).finish undef=b.atR ({ a with defers:=d::a.defers }.put o.dst undef) (.inRegion ops rest::k):=by
      have:=Frame.finish_atR b { a with defers:=d::a.defers } ops i rest k undef;rw [ho] at this;exact this
    exact this▸hn
  | enter f args=>exact J.bind (hn (b.atR a (.inRegion ops (i::rest)::k)::cs)) fun d hd=>QH hd fun v σ' hv=>by rw [hfin];exact hv
  | round l f tmps assign body=>
    refine J.bind (hn (b.atR a (.inRegion ops (i::rest)::k)) cs) fun d hd=>?_
    obtain ⟨fr,cs',σ⟩:=d;obtain ⟨v,h1,h2,h3⟩:=hd;simp only at h1 h2 h3;subst h2 h3;rw [hfin];exact h1
  | _=>exact hn.elim
theorem gets_det {a : Act} {w : GW} {l : Sl} {I : Imm} {i d : Nat} {v : Value} {rest : List Nat} (h : Det P N ops i l I R d v) (hS : Slots N l a) (hD : a.defers = ds) (hW : St I R w)
    (next:∀ a' w',Slots N ((d,v)::l) a'→a'.defers=ds→St I R w'→gets P (b.atR a' (.inRegion ops rest::k)) cs w' G'):gets P (b.atR a (.inRegion ops (i::rest)::k)) cs w G':=by
  obtain ⟨o,ho,hd,hN,hs,h⟩:=h;have hag:∀ t∈o.looksAt ops,∀ u,look t l=some u→a.tmps[t]?=some u:=fun t _ u hu=>hS.get t u hu
  rcases h with ⟨hg,rfl⟩ | ⟨hg,hk,hr⟩
  · have hw:=CM hg hag
    refine CY (fr':=b.atR (a.put o.dst undef) (.inRegion ops rest::k)) (cs':=cs) (fun main w=>?_) (next _ _ (by rw [hd];exact hS.put hN _) (by rw [ET];exact hD) hW);have e:((ops[i]?).map (Region.wanted · (yielded ops a.tmps))).getD false=false:=by rw [ho];exact hw
    have e2:(ops[i]?).bind (·.dst)=o.dst:=by rw [ho];rfl
    rw [← e2,← Frame.finish_atR];simp only [Frame.atR] at *;simp [G,stepG,stepG.exec,e]
  · refine gets_op ho (CM hg hag) ?_
    have:=hr I [] w (Imm.le.refl I) (by rw [List.append_nil];exact hW);rw [← KS hs hk hag] at this;refine GP hs.2 this fun u w' ⟨hu,hst⟩=>?_
    subst hu;rw [hd];exact next _ _ (hS.put hN _) (by rw [ET];exact hD) (by rw [List.append_nil] at hst;exact hst)
theorem gets_any {n : Nat} (hsz : ops.size = n + 1) (hlt : ∀ j o, ops[j]? = some o → ∀ e ∈ o.after, Region.binds .any e = true → e.on < j) (hw : ∀ i, i < n → wt ops n i = true) (dv : Nat → Nat × Value) (l0 : Sl) {I : Imm}
    (hbase:∀ i,i<n→look (dv i).1 l0=none) (hinj:∀ i j,i<n→j<n→(dv i).1=(dv j).1→i=j)
    (hdet:∀ i l,i<n→(∀ t v,look t l0=some v→look t l=some v)→(∀ o,ops[i]?=some o→∀ e∈o.after,Region.binds .any e=true→look (dv e.on).1 l=some (dv e.on).2)→Det P N ops i l I R (dv i).1 (dv i).2)
    (hG:∀ l a σ,Slots N l a→a.defers=ds→St I R σ→(∀ t v,look t l0=some v→look t l=some v)→(∀ j,j<n→look (dv j).1 l=some (dv j).2)→gets P (b.atR a (.inRegion ops [n]::k)) cs σ G') :
    ∀ (fuel t:Nat) (listed:Array Bool) (l:Sl) (a:Act) (σ:GW),listed.size=n+1→listed.count false=fuel→¬ GB listed n→QV ops listed→Slots N l a→a.defers=ds→St I R σ →
      (∀ t v,look t l0=some v→look t l=some v)→(∀ j,j<n→GB listed j→look (dv j).1 l=some (dv j).2) →
      gets P (b.atR a (.inRegion ops (Region.linearise.go .any ops fuel t listed [])::k)) cs σ G':=by
  intro fuel
  induction fuel with
  | zero=>
    intro t listed l a σ hl hc hn
    exfalso
    refine hn ?_;have hlt:n<listed.size:=by omega
    have:false∉listed:=Array.count_eq_zero.1 hc;unfold GB;rw [Array.getD_eq_getD_getElem?,Array.getElem?_eq_getElem hlt];simp only [Option.getD_some];cases hx:listed[n] with
    | true=>rfl
    | false=>exact absurd (hx▸Array.getElem_mem hlt) this
  | succ fuel ih=>
    intro t listed l a σ hl hc hn hcl hS hD hW hk0 hk;simp only [Region.linearise.go]
    change gets P (b.atR a (.inRegion ops (match (Region.ready .any ops listed)[t%(Region.ready .any ops listed).length]? with
      | some i=>Region.linearise.go .any ops fuel (t/(Region.ready .any ops listed).length) (listed.setIfInBounds i true) [i]
      | none=>[].reverse)::k)) cs σ G'
    cases hi:(Region.ready .any ops listed)[t%(Region.ready .any ops listed).length]? with
    | none=>
      have hnil:Region.ready .any ops listed=[]:=by
        cases hr:Region.ready .any ops listed with
        | nil=>rfl
        | cons x xs=>
          rw [hr] at hi;have hlt:t%(x::xs).length<(x::xs).length:=Nat.mod_lt _ (by simp);simp at hi;simp at hlt;omega
      exfalso
      refine hn ?_;have all:∀ j,j<n+1→GB listed j:=by
        intro j
        induction j using Nat.strongRecOn with
        | _ j ihj=>
          intro hj;rcases Classical.em (GB listed j) with h | h
          · exact h
          · exfalso
            have:j∈Region.ready .any ops listed:=mem_ready.2 ⟨by
              unfold GB at h
              have hlt:j<listed.size:=by omega
              simp [hlt] at h ⊢
              exact h,ops[j]'(by omega),by simp,fun e he hb=>ihj e.on (hlt j _ (by simp) e he hb) (by have:=hlt j _ (Array.getElem?_eq_getElem (by omega)) e he hb;omega)⟩
            rw [hnil] at this;cases this
      exact all n (by omega)
    | some i=>
      have him:=List.mem_of_getElem? hi;obtain ⟨hnd,o,ho,hall⟩:=DH him;have hil:i<n+1:=by rw [← hsz];exact (Array.getElem?_eq_some_iff.1 ho).1
      have hcl':=KF hcl him (by omega);have hcount:(listed.setIfInBounds i true).count false=fuel:=by
        have hi':i<listed.size:=by omega
        have e:listed[i]=false:=by simpa [hi'] using hnd
        rw [Array.setIfInBounds_def,dif_pos hi',Array.count_set,e,hc];simp
      simp only [];rw [linearise_go_acc,List.reverse_singleton,List.singleton_append]
      by_cases hin:i=n
      · subst hin
        have hdone:∀ j,j<i→GB listed j:=fun j hj=>JE hcl i j (fun o' ho'=>by rw [ho] at ho';cases ho';exact hall) (hw j hj)
        have hf:fuel=0:=by
          rw [← hcount];refine Array.count_eq_zero.2 fun hm=>?_
          obtain ⟨j,hj,e⟩:=Array.mem_iff_getElem.1 hm
          have hd:GB (listed.setIfInBounds i true) j:=(GJ (by omega)).2 (by
            simp at hj
            by_cases h:j=i
            · exact .inl h
            · exact .inr (hdone j (by omega)))
          unfold GB at hd;rw [Array.getD_eq_getD_getElem?,Array.getElem?_eq_getElem hj,e] at hd;cases hd
        subst hf;simp only [Region.linearise.go,List.reverse_nil];exact hG l a σ hS hD hW hk0 fun j hj=>hk j hj (hdone j hj)
      · have hlt':i<n:=by omega
        refine gets_det (hdet i l hlt' hk0 fun o' ho' e he hb=>?_) hS hD hW fun a' w' hS' hD' hW'=>?_
        · rw [ho] at ho';cases ho'
          exact hk e.on (by have:=hlt i o ho e he hb;omega) (hall e he hb)
        · refine ih _ _ _ a' w' (by simpa using hl) hcount (fun h=>?_) hcl' hS' hD' hW' (fun t v ht=>?_) fun j hj hd=>?_
          · rcases (GJ (by omega)).1 h with h | h
            · exact hin h.symm
            · exact hn h
          · have hne:(dv i).1≠t:=fun e=>by rw [← e,hbase i hlt'] at ht;cases ht
            rw [BM hne];exact hk0 t v ht
          · rcases (GJ (by omega)).1 hd with rfl | h
            · exact CR _ _ _
            · by_cases e:i=j
              · subst e;exact CR _ _ _
              · rw [BM fun h2=>e (hinj i j hlt' hj h2)];exact hk j hj h
end
theorem born_send {P : Program} {cid : FuncId} {fn : Func} {N id n r : Nat} {ops : Array Oper} {cv : List Value} {m : Value} {x y : Operand} {ty : TypeId} {I : Imm} {σ : GW}
    (hf:P.funcs[cid]?=some fn) (hcb:DF P cid=true) (hb:fn.body=some (.region id ops true)) (hres:fn.results=#[]) (hN:fn.ntmps=N) (hle:cv.length≤N) (hmx:P.follows .mixedOrders=true)
    (hsz:ops.size=n+1) (hlt:∀ j o,ops[j]?=some o→∀ e∈o.after,Region.binds .any e=true→e.on<j) (hw:∀ i,i<n→wt ops n i=true) (dv:Nat→Nat × Value)
    (hbase:∀ i,i<n→look (dv i).1 (EW 0 cv)=none) (hinj:∀ i j,i<n→j<n→(dv i).1=(dv j).1→i=j)
    (hdet:∀ [Jud P],∀ i l,i<n→(∀ t v,look t (EW 0 cv)=some v→look t l=some v)→(∀ o,ops[i]?=some o→∀ e∈o.after,Region.binds .any e=true→look (dv e.on).1 l=some (dv e.on).2)→Det P N ops i l I [] (dv i).1 (dv i).2)
    (hop:FJ ops N n=some (none,.send x y,ty,none)) (hx:∀ l,(∀ j,j<n→look (dv j).1 l=some (dv j).2)→CE l x=some (.chan (some r))∧CE l y=some m) (hW:St I [] σ) :
    ∃ T,Tr P (fun d=>∃ n,QT P r m n d) T ⟨(born P { target:=.fn (.func cid) cv.toArray,args:=#[] }).frame,[],σ⟩:=by
  letI J:Jud P:=JC P
  show J.gets _ _
  let f0:Frame:={ (default:Frame) with fn:=P.funcs.size,defers:=[],mode:=.panicking [goexitEntry] }
  let b:Frame:={ (default:Frame) with fn:=cid,kind:=.deferred,roundOf:=none }
  have henter:Frame.enter P cid cv.toArray .deferred=b.atR { tmps:=cv.toArray++Array.replicate (fn.ntmps-cv.toArray.size) undef,defers:=[] } [.code (.region id ops true)]:=by
    simp [Frame.enter,Frame.atR,hf,hb,b]
  refine CY (fr':=Frame.enter P cid cv.toArray .deferred) (cs':=[f0]) (fun main w=>?_) ?_
  · have hnm : (fn.name == "runtime.NumGoroutine") = false := by
      unfold DF at hcb;rw [hf] at hcb;simp only [Bool.and_eq_true,Bool.not_eq_true'] at hcb;exact hcb.1
    have hrun:(callFunc cid cv.toArray).run P w=.ok (.enter cid cv.toArray) w:=by
      have:=hnm;simp at this;simp [callFunc,hf,hb,this]
    have hev:(callFunc cid cv.toArray).events P w #[]=#[]:=by
      have:=hnm;simp at this;simp [callFunc,hf,hb,this]
    have hse:∀ f,seen P f #[]=#[]:=fun f=>by simp [seen]
    simp [G,stepG,unwind,callDeferred,invoke,born,f0,GStep.after,hse,hrun,hev]
  rw [henter];have hS:Slots N (EW 0 cv) { tmps:=cv.toArray++Array.replicate (fn.ntmps-cv.toArray.size) undef,defers:=[] }:=by
    refine ⟨?_,fun t v hv=>?_⟩
    · simp;omega
    obtain ⟨_,h2⟩:=KU cv 0 t v hv;rw [Nat.sub_zero] at h2;have hlt:t<cv.length:=(List.getElem?_eq_some_iff.1 h2).1;rw [Array.getElem?_append_left (by simpa using hlt)]
    simpa using h2
  refine J.bind (J.one (Q:=fun d=>∃ t,d=⟨b.atR { tmps:=cv.toArray++Array.replicate (fn.ntmps-cv.toArray.size) undef,defers:=[] } (.inRegion ops (Region.schedule (P.follows .mixedOrders) ops t)::[]),[f0],σ⟩) fun w hw=>
    ⟨b.atR _ (.inRegion ops (Region.schedule (P.follows .mixedOrders) ops (w.tape w.drawn (.order b.fn id)))::[]),[f0],{ w with drawn:=w.drawn+1 },#[],σ,
      fun main=>by simp [G,stepG,stepG.exec,Frame.atR,choose,Sem.run,Question.forced,Question.cut],
      ⟨⟨hw.os,hw.tape,hw.output,hw.blk,hw.known⟩,rfl,rfl,Nat.le_refl _,fun _ _ _=>rfl,fun _ h=>.inl h,fun _ h=>h,rfl,rfl,rfl,fun e he=>by simp at he⟩,⟨_,rfl⟩⟩) fun d ⟨t,hd⟩=>hd▸?_
  simp only [Region.schedule,hmx,Bool.true_or,if_true];have hdn:∀ k,¬ GB (Array.replicate ops.size false) k:=fun k hk=>by
    unfold GB at hk;rw [Array.getD_eq_getD_getElem?] at hk
    by_cases h:k<ops.size
    · simp [h] at hk
    · simp [h] at hk
  refine gets_any hsz hlt hw dv (EW 0 cv) hbase hinj hdet (fun l a σ' hS' hD' hW' hk0 hk=>J.stop ?_) ops.size t (Array.replicate ops.size false) _ _ _ (by simp [hsz]) (by simp) (hdn _) (fun k hk=>absurd hk (hdn k)) hS rfl hW (fun _ _ h=>h) fun j _ h=>absurd h (hdn j)
  obtain ⟨hx,hy⟩:=hx l hk;obtain ⟨o,ho,hd,hop2,hty,hgd,hN',hs⟩:=FC hop;have hwn:Region.wanted o (yielded ops a.tmps)=true:=by unfold Region.wanted;rw [hgd]
  refine ⟨4,fun w hw=>?_,?_⟩
  · have he : o.semAt b.roundOf a.eval = pure (.comm #[scase r m (.tuple #[])] true .send) := by
      rw [Oper.semAt_eq _ _ o hs.2,FA,hop2];simp [IJ,execOp,LX hS' hx,LX hS' hy,scase]
    refine ⟨.tuple #[],?_⟩;rw [PJ ho hwn,he];simp only [stepG.apply,if_true,pure,Sem.runT,GStep.after,G];simp [seen]
  · have hfin : (b.atR a (.inRegion ops [n] :: [])).finish undef = b.atR a [.inRegion ops []] := by
      rw [Frame.finish_atR,ho];show b.atR (a.put o.dst undef) _=_;rw [hd];rfl
    have e:Go.Conc.served (G (b.atR a (.inRegion ops [n]::[])) [f0]) undef=G (b.atR a [.inRegion ops []]) [f0]:=by
      show ({ frame:=(b.atR a (.inRegion ops [n]::[])).finish undef,callers:=[f0],status:=.running,dying:=none }:Goroutine)=_;rw [hfin];rfl
    show QuitsIn P 4 (Go.Conc.served (G (b.atR a (.inRegion ops [n]::[])) [f0]) undef);rw [e];refine .inr ⟨rfl,G (b.atR a []) [f0],fun w=>by simp [G,stepG,stepG.exec,Frame.atR],?_⟩;refine .inr ⟨rfl,G { b.atR a [] with mode:=.returning } [f0],fun w=>by simp [G,stepG,stepG.exec,Frame.atR,b],?_⟩;refine .inr ⟨rfl,G f0 [],fun w=>?_,?_⟩
    · simp [G,stepG,unwind,Frame.atR,hD',hf,results,hres,doReturn,b,f0,GStep.after,seen,goexitEntry]
    refine .inr ⟨rfl,{ G f0 [] with status:=.finished },fun w=>?_,rfl⟩;simp [G,stepG,unwind,f0,goexitEntry,Frame.catches,show (default:Frame).todo=[] from rfl]
theorem run_facts {ρ:Option Nat} {P:Program} [Jud P] {N:Nat} {c:Code} {Q:Exit→Act→GW→Prop} {ds:List Deferred} {l:Sl} {I:Imm} {M:Seg} (h:∀ w,St I M w→Run (ρ:=ρ) P N c Q ds l I M):Run (ρ:=ρ) P N c Q ds l I M:=fun a w hS hD hW=>h w hW a w hS hD hW
theorem two_perm {α:Type} {a b x:α} {xs:List α} (h:[a,b].Perm (x::xs)):(x=a∧xs=[b])∨(x=b∧xs=[a]):=by
  have hl:=h.length_eq
  match xs,hl with
  | [y],_=>
    have hx:x∈[a,b]:=h.mem_iff.2 (List.mem_cons_self ..);rcases List.mem_cons.1 hx with rfl | hx
    · have:=List.perm_singleton.1 (h.cons_inv).symm
      exact .inl ⟨rfl,this⟩
    · have hx:x=b:=by simpa using hx
      subst hx;have h2:[x,a].Perm (x::[y]):=(List.Perm.swap a x []).trans h;have:=List.perm_singleton.1 (h2.cons_inv).symm;exact .inr ⟨rfl,this⟩
theorem one_perm {α:Type} {a x:α} {xs:List α} (h:[a].Perm (x::xs)):x=a∧xs=[]:=by
  have:=List.singleton_perm.1 h;cases this;exact ⟨rfl,rfl⟩
theorem rrM {ρ:Option Nat} {P:Program} [Jud P] {N:Nat} {C:List Nat→Code} {p:List Nat} {Q:Exit→Act→GW→Prop} {ds:List Deferred} {l:Sl} {I:Imm} {M:Seg} (h:SeqM (ρ:=ρ) P N (EC (C p)) Q ds 0 l I M) (hc:QI (C p)=true:=by kernel_rfl):Run (ρ:=ρ) P N (C p) Q ds l I M:=by
  obtain ⟨id,e⟩:=RE hc;exact run_regionM e h
def edgesOk (ops:Array Oper):Bool:=(List.range ops.size).all fun j=>match ops[j]? with | some o=>o.after.all (fun e=>!Region.binds .any e||Nat.blt e.on j) | none=>true
theorem edges_lt {ops:Array Oper} (h:edgesOk ops=true):∀ j o,ops[j]?=some o→∀ e∈o.after,Region.binds .any e=true→e.on<j:=by
  intro j o ho e he hb;have hlt:j<ops.size:=(Array.getElem?_eq_some_iff.1 ho).1;have h1:=List.all_eq_true.1 h j (List.mem_range.2 hlt);simp only [ho] at h1;have h2:=Array.all_eq_true_iff_forall_mem.1 h1 e he;rw [hb] at h2
  simpa using h2
def wtOk (ops:Array Oper) (n:Nat):Bool:=(List.range n).all (wt ops n)
theorem wt_lt {ops:Array Oper} {n:Nat} (h:wtOk ops n=true):∀ i,i<n→wt ops n i=true:=fun i hi=>List.all_eq_true.1 h i (List.mem_range.2 hi)
def edgeAt (ops:Array Oper) (j i:Nat):Bool:=match ops[j]? with | some o=>o.after.any (fun e=>Nat.beq e.on i&&Region.binds .any e) | none=>false
theorem edge_get {ops:Array Oper} {j i:Nat} {p:Nat→Prop} (h:edgeAt ops j i=true) (hd:∀ o,ops[j]?=some o→∀ e∈o.after,Region.binds .any e=true→p e.on):p i:=by
  unfold edgeAt at h;cases ho:ops[j]? with
  | none=>rw [ho] at h;cases h
  | some o=>
    rw [ho] at h;simp only [Array.any_eq_true'] at h;obtain ⟨e,he,h⟩:=h;rw [Bool.and_eq_true] at h;have:=Nat.eq_of_beq_eq_true h.1;subst this;exact hd o ho e he h.2
end Go.Sl
namespace Go.Proofs.YtgcemienebmdeaaGreat
open Go Go.Sl Go.Sh
open Go.Conc (born)
set_option maxRecDepth 100000
theorem checker {I : Imm} {σ : GW} {r b3 b4 b5 : Nat} {k : Int} {L : Lin} {u1 u2 u3 : Value} (h3 : I.blk b3 = some (Obj.cells #[.chan (some r)] 174 (0, 0))) (h4 : I.blk b4 = some (Obj.cells #[vI k] 3 (0, 0))) (h5 : I.blk b5 = some (Obj.cells (AH L u1 u2 u3) 26 (0, 0)))
    (hL:IsLin I (.agg (AH L u1 u2 u3)) L) (hW:St I [] σ) :
    ∃ T,Tr Tryz.prog (fun d=>∃ n,QT Tryz.prog r (.agg #[vI k,vI (AK L)]) n d) T ⟨(born Tryz.prog { target:=.fn (.func 148) [vP b3 0,vP b4 0,vP b5 0].toArray,args:=#[] }).frame,[],σ⟩:=by
  refine born_send (fn:=Tryz.f148) (N:=8) (id:=0) (n:=5) (r:=r) (ops:=EC (cod Tryz.f148 [])) (m:=.agg #[vI k,vI (AK L)]) (x:=.tmp 3) (y:=.tmp 7) (ty:=0) Tryz.func148 (by kernel_rfl) (by kernel_rfl) (by kernel_rfl) (by kernel_rfl) (Nat.le_of_ble_eq_true rfl) (by kernel_rfl) (by kernel_rfl) (edges_lt (by kernel_rfl)) (wt_lt (by kernel_rfl))
    (fun i=>[(3,.chan (some r)),(4,vI k),(5,.agg (AH L u1 u2 u3)),(6,vI (AK L)),(7,.agg #[vI k,vI (AK L)])].getD i (0,undef)) ?_ ?_ ?_ (by kernel_rfl) ?_ hW
  · intro i hi
    match i,hi with
    | 0,_ | 1,_ | 2,_ | 3,_ | 4,_=>rfl
  · have e : ∀ i, i < 5 → ([(3, Value.chan (some r)), (4, vI k), (5, .agg (AH L u1 u2 u3)), (6, vI (AK L)), (7, .agg #[vI k, vI (AK L)])].getD i (0, undef)).1 = i + 3 := by
      intro i hi
      match i,hi with
      | 0,_ | 1,_ | 2,_ | 3,_ | 4,_=>rfl
    intro i j hi hj h;have h1:=e i hi;have h2:=e j hj;omega
  · intro _ i l hi h0 hd
    match i,hi with
    | 0,_=>exact dld 3 0 174 (.chan (some r)) (h0 0 _ rfl) (AW h3 rfl)
    | 1,_=>exact dld 4 1 3 (vI k) (h0 1 _ rfl) (AW h4 rfl)
    | 2,_=>exact dln 5 2 26 (BQ L u1 u2 u3) (h0 2 _ rfl) (QM (n:=5) h5 rfl)
    | 3,_=>
      have h5':Go.Sl.look 5 l=some (.agg (AH L u1 u2 u3)):=edge_get (i:=2) (p:=fun q=>Go.Sl.look (List.getD _ q (0,undef)).1 l=some (List.getD _ q (0,undef)).2) (by kernel_rfl) hd;exact OI (f:=.func 47) (args:=#[.tmp 5]) (tys:=#[26]) (ty:=40) (gd:=none) (vals:=[.agg (AH L u1 u2 u3)]) (cv:=[]) (by kernel_rfl) rfl rfl (by simp [NW,CE,h5']) (by kernel_rfl) rfl (fun I' hI=>KD I' _ L (hL.mono hI))
    | 4,_=>
      have h4':Go.Sl.look 4 l=some (vI k):=edge_get (i:=1) (p:=fun q=>Go.Sl.look (List.getD _ q (0,undef)).1 l=some (List.getD _ q (0,undef)).2) (by kernel_rfl) hd;have h6':Go.Sl.look 6 l=some (vI (AK L)):=edge_get (i:=3) (p:=fun q=>Go.Sl.look (List.getD _ q (0,undef)).1 l=some (List.getD _ q (0,undef)).2) (by kernel_rfl) hd;exact det_build (T:=176) (parts:=#[(0,.tmp 4),(1,.tmp 6)]) (ty:=176) (gd:=none) (vals:=[(0,vI k),(1,vI (AK L))]) (by kernel_rfl) rfl (by intro x hx;simp [Op.operands] at hx;rcases hx with rfl | rfl;exact ⟨_,h4'⟩;exact ⟨_,h6'⟩) (by simp [rho,CE,h4',h6']) (fun x=>by kernel_rfl)
  · intro l h
    exact ⟨h 0 (by omega),h 4 (by omega)⟩
section
variable {I J:Imm} (hb:∀ b o,I.blk b=some o→J.blk b=some o)
include hb
theorem row_more {sz:Nat} {a:Option Addr} {b o n:Nat} {cell:Nat→Nat→Value} (h:Row sz I a b o n cell):Row sz J a b o n cell:=
  ⟨h.addr,fun i hi f hf=>ICell.mono (I:={ J with blk:=I.blk }) (h.get i hi f hf) ⟨rfl,rfl,rfl,rfl,rfl,hb⟩⟩
theorem sl_more {α:Type} {sz:Nat} {cell:α→Nat→Value} {dflt:α} {v:Value} {xs:List α} (h:IsSl sz cell dflt I v xs):IsSl sz cell dflt J v xs:=by
  obtain ⟨a,c,b,o,h1,h2,h3,h4⟩:=h;exact ⟨a,c,b,o,h1,h2,h3,row_more hb h4⟩
theorem rows_more {v:Value} {xs:List (List Int)} (h:IsRows I v xs):IsRows J v xs:=by
  obtain ⟨a,c,b,o,vs,h1,h2,h3,h4,h5⟩:=h;exact ⟨a,c,b,o,vs,h1,h2,h3,row_more hb h4,fun i hi=>sl_more hb (h5 i hi)⟩
theorem lin_more {v:Value} {L:Lin} (h:IsLin I v L):IsLin J v L:=by
  obtain ⟨v1,v2,v3,h1,h2,h3,h4⟩:=h;exact ⟨v1,v2,v3,h1,rows_more hb h2,sl_more hb h3,sl_more hb h4⟩
end
noncomputable def c_checkAll:=cod Tryz.f109
theorem checkAll_ct (I : Imm) (B : Nat) (A C : Lin) (u1 u2 u3 v1 v2 v3 : Value) (hA1 : IsRows I u1 A.start) (hA2 : EV I u2 A.keeps) (hA3 : FY I u3 A.slips) (hC1 : IsRows I v1 C.start) (hC2 : EV I v2 C.keeps) (hC3 : FY I v3 C.slips) (hg : I.gh = none) (hp : I.pub = fun _ => False) :
    CtB Tryz.prog 109 #[vS (some ⟨B,0,none⟩) 2 2] I [bX B #[vI A.places,vI A.sorts,u1,u2,u3,vI C.places,vI C.sorts,v1,v2,v3] 26] (fun v _ M'=>v=vI (if AK A=0 then AK C else AK A)∧M'=[]):=by
 have hA:=BL (p:=A.places) (s:=A.sorts) hA1 hA2 hA3;have hC:=BL (p:=C.places) (s:=C.sorts) hC1 hC2 hC3;obtain ⟨a1,n1,k1,q1,s1,rfl,_⟩:=id hA1;obtain ⟨a2,n2,k2,q2,rfl,_⟩:=id hA2;obtain ⟨a3,n3,k3,q3,rfl,_⟩:=id hA3;obtain ⟨c1,m1,j1,p1,t1,rfl,_⟩:=id hC1;obtain ⟨c2,m2,j2,p2,rfl,_⟩:=id hC2;obtain ⟨c3,m3,j3,p3,rfl,_⟩:=id hC3;refine frB (args:=[_]) (N:=49) Tryz.func109 (fun F=>?_);show Run _ _ (c_checkAll []) _ _ [(0,_)] _ _;refine rnm (rqr ?_);refine sp 1 [(2,vI 0)] (sn (sp 2 [(11,vI 2),(10,vS (some ⟨B,0,none⟩) 2 2)] (sS (stp_makeChan (d:=12) (x:=.tmp 11) (T:=174) (el:=176) (bs:=16) (n:=2) (ty:=174) (gd:=none) (by kernel_rfl) rfl (by kernel_rfl) (by kernel_rfl) (by decide) rfl (by decide) (fun r=>?_)))));refine sS (sal 3 174 #[.chan none] (fun b3=>(sS (ss 0 0 b3 [.chan (some r)] [.chan (some r)] (_::_) (cs:=[_]) rfl rfl (se ?_)))));refine rpm (PS _ _ _) (run_facts fun w0 hW0=>run_give hg rfl ?_);refine rq (rqr (sp 3 [(15,vI 0),(14,vI 2),(13,vS (some ⟨B,0,none⟩) 2 2)] (se (rb 0 (rL ?_)))));refine HA (rqr (sp 1 [(16,.bool true)] (se (rq (rct 16 rfl (AM (NX (rq (rb 1 (rqr ?_))))))))));refine sp 1 [(17,vI 0)] (sd (di 18 5 0 (b:=B) (off:=0) (n:=2) (a:=some ⟨B,0,none⟩) (fun _=>rfl)) (sd (dnb 19 1 0 B (BQ A (vS a1 A.start.length n1) (vS a2 A.keeps.length n2) (vS a3 A.slips.length n3))) (sS (sal 4 3 #[vI 0] (fun b4=>sS (sal 5 26 AJ (fun b5=>?_)))))));refine sS (ss 1 0 b4 [vI 0] [vI 0] (_::_::_) (cs:=[_]) rfl rfl (sS (ss 0 0 b5 (BQ A (vS a1 A.start.length n1) (vS a2 A.keeps.length n2) (vS a3 A.slips.length n3)) (BQ A (vS a1 A.start.length n1) (vS a2 A.keeps.length n2) (vS a3 A.slips.length n3)) (_::_) (cs:=[_,_,_,_,_]) rfl rfl (se ?_))));refine rrM (PF (dpv 20 (.func (.func 148) #[] #[vP b3 0,vP b4 0,vP b5 0])) (seqM_go (f:=.tmp 20) (ty:=0) (cid:=148) (cv:=[vP b3 0,vP b4 0,vP b5 0]) (h:=⟨r,2,[]⟩) (m:=.agg #[vI 0,vI (AK A)]) (by kernel_rfl) rfl rfl (Nat.le_of_ble_eq_true rfl) (fun Jc σ hJ st=>checker (hJ.mem _ _ (by simp)) (hJ.mem _ _ (by simp)) (hJ.mem _ _ (by simp)) (lin_more (I:=I) hJ.blk hA) st) (fun J1 hJ1=>QN (ee ?_))));refine NB (NX (rr (sd (da 21 0 1) (sp 1 [(15,vI 1)] (ee ?_)))));have hB:=hJ1.mem B _ (.tail _ (.tail _ (.tail _ (.head _))));have hb3:=hJ1.mem b3 _ (.tail _ (.tail _ (.head _)));refine GG (HA (rqr (sp 1 [(16,.bool true)] (se (rq (rct 16 rfl (AM (NX (rq (rb 1 (rqr ?_)))))))))));refine sp 1 [(17,vI 1)] (sd (di 18 5 1 (b:=B) (off:=0) (n:=2) (a:=some ⟨B,0,none⟩) (fun _=>rfl)) (sd (dn 19 (vs:=(BQ C (vS c1 C.start.length m1) (vS c2 C.keeps.length m2) (vS c3 C.slips.length m3))) (QM (off:=0+1*5) (n:=5) hB rfl)) (sS (sal 4 3 #[vI 0] (fun b6=>sS (sal 5 26 AJ (fun b7=>?_)))))));refine sS (ss 1 0 b6 [vI 1] [vI 1] (_::_::_) (cs:=[_]) rfl rfl (sS (ss 0 0 b7 (BQ C (vS c1 C.start.length m1) (vS c2 C.keeps.length m2) (vS c3 C.slips.length m3)) (BQ C (vS c1 C.start.length m1) (vS c2 C.keeps.length m2) (vS c3 C.slips.length m3)) (_::_) (cs:=[_,_,_,_,_]) rfl rfl (se ?_))));refine rrM (PF (dpv 20 (.func (.func 148) #[] #[vP b3 0,vP b6 0,vP b7 0])) (seqM_go (f:=.tmp 20) (ty:=0) (cid:=148) (cv:=[vP b3 0,vP b6 0,vP b7 0]) (h:=⟨r,2,[.agg #[vI 0,vI (AK A)]]⟩) (m:=.agg #[vI 1,vI (AK C)]) (by kernel_rfl) rfl hJ1.gh (Nat.le_of_ble_eq_true rfl) (fun Jc σ hJ st=>checker (hJ.blk _ _ hb3) (hJ.mem _ _ (by simp)) (hJ.mem _ _ (by simp)) (lin_more (I:=I) (fun b o h=>hJ.blk _ _ (hJ1.blk _ _ h)) hC) st) (fun J2 hJ2=>QN (ee ?_))));refine NB (NX (rr (sd (da 21 1 1) (sp 1 [(15,vI 2)] (ee ?_)))));refine GG (HA (rqr (sp 1 [(16,.bool false)] (se (rq (rcf 16 rfl (BR 0 ?_)))))))
 repeat refine EP ?_
 refine EB (NX ?_);have hnd:=hW0.nodup;simp only [List.map_cons,List.nodup_cons,List.mem_cons,not_or] at hnd;have hFn:=hnd.2.2.2;have hne3:b3≠r:=fun h=>hnd.1.1 h.symm
 have hnF3:∀ o',(b3,o')∉F:=fun o' h=>hnd.2.1.2 (List.mem_map.2 ⟨_,h,rfl⟩)
 have hI0:∀ b o,I.blk b=some o→J2.blk b=some o:=fun b o h=>hJ2.blk _ _ (hJ1.blk _ _ h)
 have hF0:∀ b o,(b,o)∈F→J2.blk b=some o:=fun b o h=>hJ2.blk _ _ (hJ1.mem b o (by simp [h]))
 have hb3:=hJ2.blk _ _ hb3;have hos:J2.os=I.os:=hJ2.os.trans hJ1.os;have htp:J2.tape=I.tape:=hJ2.tape.trans hJ1.tape;have hout:J2.output=I.output:=hJ2.output.trans hJ1.output;have hgh:=hJ2.gh;clear hJ2 hJ1 hB;refine rqr (sp 2 [(23,vI 2)] ?_);refine sS (LF (d:=24) (x:=.tmp 23) (T:=177) (E:=40) (bs:=8) (n:=2) (z:=vI 0) (zv:=vI 0) (ty:=177) (gd:=none) (by kernel_rfl) rfl (by kernel_rfl) (by kernel_rfl) (by kernel_rfl) rfl (by kernel_rfl) (by decide) rfl (by omega) (fun e=>?_));refine sp 1 [(6,vS (some ⟨e,0,none⟩) 2 2)] (se (rq (rqr (sp 3 [(27,vI 0),(26,vI 2),(25,vS (some ⟨B,0,none⟩) 2 2)] (se (rb 2 (rL ?_)))))));refine HA (rqr (sp 1 [(28,.bool true)] (se (rq (rct 28 rfl (AM (NX (rq (rb 3 (rq ?_))))))))));refine rrM (PF (dld 29 3 174 (.chan (some r)) rfl (AW hb3 rfl)) (seqM_recv (d:=30) (x:=.tmp 29) (T:=174) (el:=176) (z:=.agg #[vI 0,vI 0]) (ty:=176) (h:=⟨r,2,[(.agg #[vI 1,vI (AK C)]),(.agg #[vI 0,vI (AK A)])]⟩) (by kernel_rfl) (by kernel_rfl) (by kernel_rfl) rfl hgh (by simp) (fun v outs hv=>?_)));rcases two_perm hv with ⟨rfl,rfl⟩ | ⟨rfl,rfl⟩
 ·
  refine QN (sS (sal 7 176 #[vI 0,vI 0] (fun b8=>?_)));refine sS (ss 0 0 b8 [vI 1,vI (AK C)] [vI 1,vI (AK C)] (_::_) (cs:=[_,_]) rfl rfl (se ?_));refine rr (sp 2 [(32,vP b8 0),(31,vS (some ⟨e,0,none⟩) 2 2)] (sd (dlb 33 0 0 b8 (vI 1)) (sp 1 [(34,vP b8 1)] (sd (dlb 35 0 1 b8 (vI (AK C))) (sd (di 36 1 1 (b:=e) (off:=0) (n:=2) (a:=some ⟨e,0,none⟩) (fun _=>rfl)) (sS (ss 1 1 e [vI (AK C)] [vI 0,vI (AK C)] (_::_::_) (cs:=[_,_]) rfl rfl (ee ?_))))))));refine NB (NX (rr (sd (da 37 0 1) (sp 1 [(27,vI 1)] (ee ?_)))));refine GG (HA (rqr (sp 1 [(28,.bool true)] (se (rq (rct 28 rfl (AM (NX (rq (rb 3 (rq ?_)))))))))));refine rrM (PF (dld 29 3 174 (.chan (some r)) rfl (AW hb3 rfl)) (seqM_recv (d:=30) (x:=.tmp 29) (T:=174) (el:=176) (z:=.agg #[vI 0,vI 0]) (ty:=176) (h:=⟨r,2,[(.agg #[vI 0,vI (AK A)])]⟩) (by kernel_rfl) (by kernel_rfl) (by kernel_rfl) rfl rfl (by simp) (fun v outs hv=>?_)));obtain ⟨rfl,rfl⟩:=one_perm hv;refine QN (sS (sal 7 176 #[vI 0,vI 0] (fun b9=>?_)));refine sS (ss 0 0 b9 [vI 0,vI (AK A)] [vI 0,vI (AK A)] (_::_) (cs:=[_,_]) rfl rfl (se ?_));refine rr (sp 2 [(32,vP b9 0),(31,vS (some ⟨e,0,none⟩) 2 2)] (sd (dlb 33 0 0 b9 (vI 0)) (sp 1 [(34,vP b9 1)] (sd (dlb 35 0 1 b9 (vI (AK A))) (sd (di 36 1 0 (b:=e) (off:=0) (n:=2) (a:=some ⟨e,0,none⟩) (fun _=>rfl)) (sS (ss 2 0 e [vI (AK A)] [vI (AK A),vI (AK C)] (_::_::_::_) (cs:=[_,_]) rfl rfl (ee ?_))))))));refine NB (NX (rr (sd (da 37 1 1) (sp 1 [(27,vI 2)] (ee ?_)))));refine GG (HA (rqr (sp 1 [(28,.bool false)] (se (rq (rcf 28 rfl (BR 2 ?_)))))))
  repeat refine EP ?_
  refine EB (NX ?_);refine run_take (h:=⟨r,2,[]⟩) (F:=F) (I0:=I) rfl rfl hg hp hos htp hout (fun b o h=>⟨hF0 b o h,hW0.disj b o (.tail _ (.tail _ (.tail _ h)))⟩) hFn hI0 (fun q tm J hle hJ=>?_);have hb3:J.blk b3=some _:=hJ b3 _ hb3 hne3 hnF3;refine rqr (sd (dld 38 3 174 (.chan (some r)) rfl (AW hb3 rfl)) (sS (stp_close (x:=.tmp 38) (tys:=#[174]) (dst:=none) (ty:=0) (gd:=none) (by kernel_rfl) rfl rfl (PR _) (se ?_))));refine rnm (rq (rqr (sp 3 [(41,vI 0),(40,vI 2),(39,vS (some ⟨e,0,none⟩) 2 2)] (se (rb 4 (rL ?_))))));refine HA (rqr (sp 1 [(42,.bool true)] (se (rq (rct 42 rfl (AM (NX (rq (rb 5 (rqr ?_))))))))));refine sd (di 43 1 0 (b:=e) (off:=0) (n:=2) (a:=some ⟨e,0,none⟩) (fun _=>rfl)) (sd (dlb 44 2 0 e (vI (AK A))) (sp 1 [(9,vI (AK A))] (sn (sp 2 [(46,.bool (!(cmp .eql (AK A) 0))),(45,vI (AK A))] (se (rc 46 rfl (fun h0=>?_) (fun h0=>?_)))))))
  · refine rqr (sp 2 [(2,vI (AK A)),(47,vI (AK A))] (se (BD ?_)))
    repeat first | refine RP ?_ | refine RB ?_
    have h0:=BG (BF h0);exact DL 2 [] rfl (TC _ (TC _ (TC _ (TR _)))) hle ⟨by simp [h0],rfl⟩
  have h0:=BE (BC h0);refine AM (NB (NX (rr (sd (da 48 0 1) (sp 1 [(41,vI 1)] (ee ?_))))));refine GG (HA (rqr (sp 1 [(42,.bool true)] (se (rq (rct 42 rfl (AM (NX (rq (rb 5 (rqr ?_)))))))))));refine sd (di 43 1 1 (b:=e) (off:=0) (n:=2) (a:=some ⟨e,0,none⟩) (fun _=>rfl)) (sd (dlb 44 2 1 e (vI (AK C))) (sp 1 [(9,vI (AK C))] (sn (sp 2 [(46,.bool (!(cmp .eql (AK C) 0))),(45,vI (AK C))] (se (rc 46 rfl (fun h1=>?_) (fun h1=>?_)))))))
  · refine rqr (sp 2 [(2,vI (AK C)),(47,vI (AK C))] (se (BD ?_)))
    repeat first | refine RP ?_ | refine RB ?_
    have h1:=BG (BF h1);exact DL 2 [] rfl (TC _ (TC _ (TC _ (TR _)))) hle ⟨by simp [h0,h1],rfl⟩
  have h1:=BE (BC h1);refine AM (NB (NX (rr (sd (da 48 1 1) (sp 1 [(41,vI 2)] (ee ?_))))));refine GG (HA (rqr (sp 1 [(42,.bool false)] (se (rq (rcf 42 rfl (BR 4 ?_)))))))
  repeat refine EP ?_
  refine EB (NX (rqr (sp 1 [(2,vI 0)] (se (BD ?_)))));exact DL 2 [] rfl (TC _ (TC _ (TC _ (TR _)))) hle ⟨by simp [h0,h1],rfl⟩
 ·
  refine QN (sS (sal 7 176 #[vI 0,vI 0] (fun b8=>?_)));refine sS (ss 0 0 b8 [vI 0,vI (AK A)] [vI 0,vI (AK A)] (_::_) (cs:=[_,_]) rfl rfl (se ?_));refine rr (sp 2 [(32,vP b8 0),(31,vS (some ⟨e,0,none⟩) 2 2)] (sd (dlb 33 0 0 b8 (vI 0)) (sp 1 [(34,vP b8 1)] (sd (dlb 35 0 1 b8 (vI (AK A))) (sd (di 36 1 0 (b:=e) (off:=0) (n:=2) (a:=some ⟨e,0,none⟩) (fun _=>rfl)) (sS (ss 1 0 e [vI (AK A)] [vI (AK A),vI 0] (_::_::_) (cs:=[_,_]) rfl rfl (ee ?_))))))));refine NB (NX (rr (sd (da 37 0 1) (sp 1 [(27,vI 1)] (ee ?_)))));refine GG (HA (rqr (sp 1 [(28,.bool true)] (se (rq (rct 28 rfl (AM (NX (rq (rb 3 (rq ?_)))))))))));refine rrM (PF (dld 29 3 174 (.chan (some r)) rfl (AW hb3 rfl)) (seqM_recv (d:=30) (x:=.tmp 29) (T:=174) (el:=176) (z:=.agg #[vI 0,vI 0]) (ty:=176) (h:=⟨r,2,[(.agg #[vI 1,vI (AK C)])]⟩) (by kernel_rfl) (by kernel_rfl) (by kernel_rfl) rfl rfl (by simp) (fun v outs hv=>?_)));obtain ⟨rfl,rfl⟩:=one_perm hv;refine QN (sS (sal 7 176 #[vI 0,vI 0] (fun b9=>?_)));refine sS (ss 0 0 b9 [vI 1,vI (AK C)] [vI 1,vI (AK C)] (_::_) (cs:=[_,_]) rfl rfl (se ?_));refine rr (sp 2 [(32,vP b9 0),(31,vS (some ⟨e,0,none⟩) 2 2)] (sd (dlb 33 0 0 b9 (vI 1)) (sp 1 [(34,vP b9 1)] (sd (dlb 35 0 1 b9 (vI (AK C))) (sd (di 36 1 1 (b:=e) (off:=0) (n:=2) (a:=some ⟨e,0,none⟩) (fun _=>rfl)) (sS (ss 2 1 e [vI (AK C)] [vI (AK A),vI (AK C)] (_::_::_::_) (cs:=[_,_]) rfl rfl (ee ?_))))))));refine NB (NX (rr (sd (da 37 1 1) (sp 1 [(27,vI 2)] (ee ?_)))));refine GG (HA (rqr (sp 1 [(28,.bool false)] (se (rq (rcf 28 rfl (BR 2 ?_)))))))
  repeat refine EP ?_
  refine EB (NX ?_);refine run_take (h:=⟨r,2,[]⟩) (F:=F) (I0:=I) rfl rfl hg hp hos htp hout (fun b o h=>⟨hF0 b o h,hW0.disj b o (.tail _ (.tail _ (.tail _ h)))⟩) hFn hI0 (fun q tm J hle hJ=>?_);have hb3:J.blk b3=some _:=hJ b3 _ hb3 hne3 hnF3;refine rqr (sd (dld 38 3 174 (.chan (some r)) rfl (AW hb3 rfl)) (sS (stp_close (x:=.tmp 38) (tys:=#[174]) (dst:=none) (ty:=0) (gd:=none) (by kernel_rfl) rfl rfl (PR _) (se ?_))));refine rnm (rq (rqr (sp 3 [(41,vI 0),(40,vI 2),(39,vS (some ⟨e,0,none⟩) 2 2)] (se (rb 4 (rL ?_))))));refine HA (rqr (sp 1 [(42,.bool true)] (se (rq (rct 42 rfl (AM (NX (rq (rb 5 (rqr ?_))))))))));refine sd (di 43 1 0 (b:=e) (off:=0) (n:=2) (a:=some ⟨e,0,none⟩) (fun _=>rfl)) (sd (dlb 44 2 0 e (vI (AK A))) (sp 1 [(9,vI (AK A))] (sn (sp 2 [(46,.bool (!(cmp .eql (AK A) 0))),(45,vI (AK A))] (se (rc 46 rfl (fun h0=>?_) (fun h0=>?_)))))))
  · refine rqr (sp 2 [(2,vI (AK A)),(47,vI (AK A))] (se (BD ?_)))
    repeat first | refine RP ?_ | refine RB ?_
    have h0:=BG (BF h0);exact DL 2 [] rfl (TC _ (TC _ (TC _ (TR _)))) hle ⟨by simp [h0],rfl⟩
  have h0:=BE (BC h0);refine AM (NB (NX (rr (sd (da 48 0 1) (sp 1 [(41,vI 1)] (ee ?_))))));refine GG (HA (rqr (sp 1 [(42,.bool true)] (se (rq (rct 42 rfl (AM (NX (rq (rb 5 (rqr ?_)))))))))));refine sd (di 43 1 1 (b:=e) (off:=0) (n:=2) (a:=some ⟨e,0,none⟩) (fun _=>rfl)) (sd (dlb 44 2 1 e (vI (AK C))) (sp 1 [(9,vI (AK C))] (sn (sp 2 [(46,.bool (!(cmp .eql (AK C) 0))),(45,vI (AK C))] (se (rc 46 rfl (fun h1=>?_) (fun h1=>?_)))))))
  · refine rqr (sp 2 [(2,vI (AK C)),(47,vI (AK C))] (se (BD ?_)))
    repeat first | refine RP ?_ | refine RB ?_
    have h1:=BG (BF h1);exact DL 2 [] rfl (TC _ (TC _ (TC _ (TR _)))) hle ⟨by simp [h0,h1],rfl⟩
  have h1:=BE (BC h1);refine AM (NB (NX (rr (sd (da 48 1 1) (sp 1 [(41,vI 2)] (ee ?_))))));refine GG (HA (rqr (sp 1 [(42,.bool false)] (se (rq (rcf 42 rfl (BR 4 ?_)))))))
  repeat refine EP ?_
  refine EB (NX (rqr (sp 1 [(2,vI 0)] (se (BD ?_)))));exact DL 2 [] rfl (TC _ (TC _ (TC _ (TR _)))) hle ⟨by simp [h0,h1],rfl⟩
end Go.Proofs.YtgcemienebmdeaaGreat
namespace Go.Sl
open Go
structure Lone (I:Imm):Prop where
  gh:I.gh=none
  pub:I.pub=fun _=>False
theorem Lone.mono {I J:Imm} (h:Lone I) (le:I.le J):Lone J:=⟨le.gh.trans h.gh,le.pub.trans h.pub⟩
section
variable {P:Program} [J:Jud P] [Host P] {N:Nat} {ops:Array Oper} {i:Nat} {l:Sl} {I:Imm} {M:Seg}
theorem scH (d : Option Tmp) {K : Sl → Imm → Seg → Prop} {fid : FuncId} {argv : Array Value} {pre F : Seg} {post : Value → Imm → Seg → Prop} (ct : CtB P fid argv I pre post) (hM : M.Perm (pre ++ F))
    (hk:∀ v I' M',I.le I'→post v I' M'→K (ups d v l) I' (M'++F)) (h:clAt P N ops l i=some (d,fid,argv):=by kernel_rfl):Stp P N ops i l I M K:=by
  obtain ⟨f,args,tys,ty,gd,vals,cv,h1,h2,h3,h4,h5,h6⟩:=clAt_spec h;exact stp_callH h1 h2 h3 h4 h5 h6 ct hM hk
end
end Go.Sl
namespace Go.Proofs.YtgcemienebmdeaaGreat
open Go Go.Sl Go.Sh
set_option maxRecDepth 100000
noncomputable def c_Merge:=cod Tryz.f58
set_option maxHeartbeats 1000000 in
theorem Merge_ct (I:Imm) (l:Value) (A:Lin) (m:Value) (B:Lin) (l_f:IsLin I l A) (m_f:IsLin I m B) (hlo:Lone I):CtB Tryz.prog 58 #[l,m] I ([]) (fun v I' M'=>∃ u0:Value,v=.tuple #[u0,vI ((AR A B).2)]∧M'=[]∧IsLin I' u0 ((AR A B).1)):=by
 obtain ⟨l1,l2,l3,rfl,d9,e0,c8⟩:=id l_f;obtain ⟨b4,b6,n3,n6,n1,rfl,n4,n5,n7,n8⟩:=id d9;obtain ⟨b8,b9,n9,o2,rfl,o0,o1,o3⟩:=id e0;obtain ⟨b0,b2,o4,o7,rfl,o5,o6,d1⟩:=id c8;obtain ⟨m1,m2,m3,rfl,e7,e8,g9⟩:=id m_f;obtain ⟨c3,c4,o9,p2,n2,rfl,p0,p1,p3,p4⟩:=id e7;obtain ⟨c5,c6,p5,p8,rfl,p6,p7,p9⟩:=id e8;obtain ⟨c0,c1,q0,q3,rfl,q1,q2,d4⟩:=id g9;refine frB (args:=[_,_]) (N:=88) Tryz.func58 (fun F=>?_);show Run _ _ (c_Merge []) _ _ [(0,_),(1,_)] _ _;refine rnm (rqr ?_);refine sS (sb 2 26 (AH A (vS b4 A.start.length b6) (vS b8 A.keeps.length b9) (vS b0 A.slips.length b2)) (fun b1=>(sS (sb 3 26 (AH B (vS c3 B.start.length c4) (vS c5 B.keeps.length c6) (vS c0 B.slips.length c1)) (fun b3=>(sS (sal 4 26 AJ (fun b5=>(sp 1 [(5,vI 0)] (se (rq (rqr (sd (dnb 11 2 0 b1 (BQ A (vS b4 A.start.length b6) (vS b8 A.keeps.length b9) (vS b0 A.slips.length b2))) (sd (dnb 12 1 0 b3 (BQ B (vS c3 B.start.length c4) (vS c5 B.keeps.length c6) (vS c0 B.slips.length c1))) (sS (sbs 13 26 2 #[vI A.places,vI A.sorts,vS b4 A.start.length b6,vS b8 A.keeps.length b9,vS b0 A.slips.length b2,vI B.places,vI B.sorts,vS c3 B.start.length c4,vS c5 B.keeps.length c6,vS c0 B.slips.length c1] (fun b7=>(sS (scH (some 14) (F:=((bX b5 AJ 26)::(bX b3 (AH B (vS c3 B.start.length c4) (vS c5 B.keeps.length c6) (vS c0 B.slips.length c1)) 26)::(bX b1 (AH A (vS b4 A.start.length b6) (vS b8 A.keeps.length b9) (vS b0 A.slips.length b2)) 26)::F)) (checkAll_ct I b7 A B _ _ _ _ _ _ d9 e0 c8 e7 e8 g9 hlo.gh hlo.pub :) (.refl _) (fun q9 I9 q6 a7 j8=>?_))))))))))))))))))));obtain ⟨g6,g2⟩:=j8;rw [g6,g2];clear g6 g2;replace d9:=d9.mono a7;replace e0:=e0.mono a7;replace c8:=c8.mono a7;replace d1:=d1.mono a7;replace e7:=e7.mono a7;replace e8:=e8.mono a7;replace d4:=d4.mono a7;replace hlo:=hlo.mono a7;refine nm ?_;show Seq _ _ _ _ _ _ ((14,vI (if AK A=0 then AK B else AK A))::_) _ _;refine EE 14 rfl (show (vI (if AK A=0 then AK B else AK A):Value)=vI (GS A B) from congrArg (Value.int .i64) rfl) (sp 1 [(6,vI (GS A B))] (sn (sp 2 [(16,.bool (!(cmp .eql (GS A B) 0)))] (se (rc 16 rfl (fun h1=>?_) (fun h1=>?_))))))
 ·
  have j1:=h1;have h1:=BG (BF h1);refine rqr (sp 2 [(18,vI (GS A B)),(17,.agg AJ)] (sS (ss 0 0 b5 DP DP (_::_::_::_) (cs:=[_,_,_,_,_]) rfl rfl (sp 1 [(5,vI (GS A B))] (se (BD (RP ?_)))))));have hE:=mergeE_1 (A:=A) (B:=B) h1;refine BU (t:=4) (u:=5) (T:=26) (n:=5) [] (by kernel_rfl) rfl (by kernel_rfl) rfl (BN (n:=5) (cs:=AJ) (b:=b5) (off:=0) (T:=26) (fz:=(0,0)) (vs:=DP) (by simp) rfl) (.inl ⟨by kernel_rfl,rfl⟩) rfl (TC _ (TC _ (TC _ (TR _)))) a7 ?_;exact ⟨_,(by rw [hE]),rfl,((show (⟨0,0,[],[],[]⟩:Lin)=(AR A B).1 from by rw [hE];rfl)▸(BL (IsRows.nil _) (IsSl.nil _) (IsSl.nil _)))⟩
 have j1:=h1;have h1:=BE (BC h1);refine AM (NX (rq (rq ?_)));refine BV (fun a w=>SE 88 [(2,vP b1 0),(3,vP b3 0),(4,vP b5 0),(5,vI 0),(46,.bool ((!(cmp .eql A.places B.places))||((!(cmp .eql A.sorts B.sorts))||((!(decide (A.start=B.start)))||(!(decide (A.keeps=B.keeps)))))))] I9 ((bX b5 AJ 26)::(bX b3 (AH B (vS c3 B.start.length c4) (vS c5 B.keeps.length c6) (vS c0 B.slips.length c1)) 26)::(bX b1 (AH A (vS b4 A.start.length b6) (vS b8 A.keeps.length b9) (vS b0 A.slips.length b2)) 26)::F) a w) ?_ ?_
 ·
  refine rr (sp 1 [(19,vP b1 0)] (sd (dlb 20 2 0 b1 (vI A.places)) (sp 1 [(21,vP b3 0)] (sd (dlb 22 1 0 b3 (vI B.places)) (sp 2 [(24,.bool (!(cmp .eql A.places B.places)))] ?_)))));refine BB 24 rfl (fun h2=>?_) (fun h2=>?_)
  ·
   have e2:=h2;have e2:=BG (BF e2);refine sp 22 [(46,.bool true)] (ee ?_);refine AL (fun a w hS hD hW=>⟨hS.sub (sun 4 (.consE 46 rfl (congrArg Value.bool (by simp only [h2,kk])) (.nil _))),hD,hW⟩)
  have e2:=h2;have e2:=BE (BC e2);refine sp 1 [(25,vP b1 1)] (sd (dlb 26 2 1 b1 (vI A.sorts)) (sp 1 [(27,vP b3 1)] (sd (dlb 28 1 1 b3 (vI B.sorts)) (sp 3 [(31,.bool (!(cmp .eql A.sorts B.sorts)))] ?_))));refine BB 31 rfl (fun h3=>?_) (fun h3=>?_)
  ·
   have e3:=h3;have e3:=BG (BF e3);refine sp 15 [(46,.bool true)] (ee ?_);refine AL (fun a w hS hD hW=>⟨hS.sub (sun 4 (.consE 46 rfl (congrArg Value.bool (by simp only [h2,h3,kk])) (.nil _))),hD,hW⟩)
  have e3:=h3;have e3:=BE (BC e3);refine sp 1 [(32,vP b1 2)] (sd (dlb 33 2 2 b1 (vS b4 A.start.length b6)) (sp 1 [(34,vP b3 2)] (sd (dlb 35 1 2 b3 (vS c3 B.start.length c4)) (sd (dc 36 (fun I' hI=>(EqRowsF_ct I' _ _ _ _ (d9.mono hI) (e7.mono hI) :))) (sp 3 [(39,.bool (!(decide (A.start=B.start))))] ?_)))));refine BB 39 rfl (fun h4=>?_) (fun h4=>?_)
  ·
   have e4:=h4;have e4:=OH (BF e4);refine sp 7 [(46,.bool true)] (ee ?_);refine AL (fun a w hS hD hW=>⟨hS.sub (sun 4 (.consE 46 rfl (congrArg Value.bool (by simp only [h2,h3,h4,kk])) (.nil _))),hD,hW⟩)
  have e4:=h4;have e4:=NE (BC e4);refine sp 1 [(40,vP b1 3)] (sd (dlb 41 2 3 b1 (vS b8 A.keeps.length b9)) (sp 1 [(42,vP b3 3)] (sd (dlb 43 1 3 b3 (vS c5 B.keeps.length c6)) (sd (dc 44 (fun I' hI=>(EqKeepS_ct I' _ _ _ _ (e0.mono hI) (e8.mono hI) :))) (sp 2 [(46,.bool (!(decide (A.keeps=B.keeps))))] (ee ?_))))));refine AL (fun a w hS hD hW=>⟨hS.sub (sun 4 (.consE 46 rfl (congrArg Value.bool (by simp only [h2,h3,h4,kk])) (.nil _))),hD,hW⟩)
 rintro a w ⟨hS,hD,hW⟩
 refine AU hS hD hW ?_;refine rc 46 rfl (fun h5=>?_) (fun h5=>?_)
 ·
  have j3:=h5;refine rqr (sp 1 [(47,.agg AJ)] (sS (ss 0 0 b5 DP DP (_::_::_::_) (cs:=[_,_,_,_,_]) rfl rfl (sp 1 [(5,vI 12)] (se (BD (RP ?_)))))));have hE:=mergeE_2 (by omega) (head_no (by assumption));refine BU (t:=4) (u:=5) (T:=26) (n:=5) [] (by kernel_rfl) rfl (by kernel_rfl) rfl (BN (n:=5) (cs:=AJ) (b:=b5) (off:=0) (T:=26) (fz:=(0,0)) (vs:=DP) (by simp) rfl) (.inl ⟨by kernel_rfl,rfl⟩) rfl (TC _ (TC _ (TC _ (TR _)))) a7 ?_;exact ⟨_,(by rw [hE]),rfl,((show (⟨0,0,[],[],[]⟩:Lin)=(AR A B).1 from by rw [hE];rfl)▸(BL (IsRows.nil _) (IsSl.nil _) (IsSl.nil _)))⟩
 have j3:=h5;obtain ⟨g1,j2⟩:=or_f h5;have g1:=BE (BC g1);obtain ⟨e5,f2⟩:=or_f j2;have e5:=BE (BC e5);obtain ⟨d2,d3⟩:=or_f f2;have d2:=NE (BC d2);have d3:=NE (BC d3);refine AM (NX (rq ?_));have hz:GS A B=0:=by omega
 have hg:=HS (two_0 hz).1;have n0:=HS (two_0 hz).2;have r9:=hg.slips;have s0:=n0.slips;have r7:=hg.places;have r8:=hg.sorts;have k1:GL A B:=⟨by assumption,by assumption,by assumption,by assumption⟩;refine rr (sd (dnb 48 2 0 b1 (BQ A (vS b4 A.start.length b6) (vS b8 A.keeps.length b9) (vS b0 A.slips.length b2))) (sS (sc (some 49) (copied_ct _ _ A (BL d9 e0 c8) (by assumption) :) (.refl _) (fun r0 m8 q7 c9 j9=>?_))));obtain ⟨r2,r3,r4,f9,g7,g3,i0,h0,i1⟩:=j9;rw [g7,g3];clear g7 g3;replace c8:=c8.mono c9;replace d1:=d1.mono c9;replace d4:=d4.mono c9;replace hlo:=hlo.mono c9;have a8:=i0;have a9:=h0;obtain ⟨a2,a3,l0,l6,i3,f6,l4,l5,l7,l8⟩:=id a8;obtain ⟨a4,a5,l9,m5,f7,m0,m4,m6⟩:=id a9;subst f6;subst f7;obtain ⟨d6,d7,rfl,m7⟩:=i1.shape;refine pm (M':=((bX b5 AJ 26)::(bX b3 (AH B (vS c3 B.start.length c4) (vS c5 B.keeps.length c6) (vS c0 B.slips.length c1)) 26)::(bX b1 (AH A (vS b4 A.start.length b6) (vS b8 A.keeps.length b9) (vS b0 A.slips.length b2)) 26)::(f9++F))) (PW (PW PM)) (sS (sal 7 26 AJ (fun d8=>(sS (ss 0 0 d8 (BQ A (vS a2 A.start.length a3) (vS a4 A.keeps.length a5) (vS d6 A.slips.length d7)) (BQ A (vS a2 A.start.length a3) (vS a4 A.keeps.length a5) (vS d6 A.slips.length d7)) (_::_::_::_::_) (cs:=[_,_,_,_,_]) rfl rfl (se (rq (rqr (sp 1 [(50,vP b3 4)] (sd (dlb 51 2 4 b3 (vS c0 B.slips.length c1)) (sp 2 [(53,vI 0),(52,vI (↑(B.slips.length)))] (se (rb 0 ?_)))))))))))));refine rl (fun mz a w=>∃ J0:Imm,∃ k:Nat,∃ d0:Value,∃ a6:Seg,(m8.le J0)∧(k≤B.slips.length)∧((B.slips.take k).any (NI A.slips)=false)∧(Own 28 8 AX d0 (A.slips++(B.slips.take k).filter (IM A.slips)) a6)∧SD 88 [(53,vI ↑k),(2,vP b1 0),(4,vP b5 0),(7,vP d8 0),(51,vS c0 B.slips.length c1),(52,vI (↑(B.slips.length)))] J0 ((bX d8 (AH A (vS a2 A.start.length a3) (vS a4 A.keeps.length a5) d0) 26)::(bX b5 AJ 26)::(bX b3 (AH B (vS c3 B.start.length c4) (vS c5 B.keeps.length c6) (vS c0 B.slips.length c1)) 26)::(bX b1 (AH A (vS b4 A.start.length b6) (vS b8 A.keeps.length b9) (vS b0 A.slips.length b2)) 26)::(a6++F)) a w (mz=B.slips.length-k)) ?_ ?_
 ·intro a w hS hD hW;exact ⟨_,m8,0,vS d6 A.slips.length d7,f9,IR _,Nat.zero_le _,rfl,(by rw [List.take_zero,List.filter_nil,List.append_nil];exact i1),hS.sub su,hD,hW,rfl⟩
 rintro mz a w ⟨J0,k,d0,a6,hJ0,hk,i2,c2,hS,hD,hW,rfl⟩
 refine AU hS hD hW ?_;replace c8:=c8.mono hJ0;replace d1:=d1.mono hJ0;replace d4:=d4.mono hJ0;replace hlo:=hlo.mono hJ0;replace a8:=a8.mono hJ0;replace a9:=a9.mono hJ0;obtain ⟨a0,a1,rfl,f5⟩:=c2.shape;have s2:=mrg_len (k:=k) hg n0;refine rqr (sp 1 [(54,.bool (cmp .lss ↑k (↑(B.slips.length))))] (se (rq (rc 54 rfl (fun h6=>?_) (fun h6=>?_)))))
 ·
  have j4:=h6;have h6:=BX h6;refine AM (NX (rq (rb 1 (rqr (sd (di 55 8 k d4.addr) (sd (dln 56 55 28 (EU (B.slips.getD k AB)) rfl (CB (vals:=CV) (fun _=>rfl) d4 k (by omega))) (sS (sal 9 28 IQ (fun e9=>(sS (ss 0 0 e9 (EU (B.slips.getD k AB)) (EU (B.slips.getD k AB)) (_::_::_::_::_::_) (cs:=[_,_,_,_,_,_,_,_]) rfl rfl (se (rq ?_)))))))))))));refine rd 5 [(0,true),(1,true),(2,true),(3,true),(4,false)] ((bX e9 (AV (B.slips.getD k AB)) 28)::(bX d8 (AH A (vS a2 A.start.length a3) (vS a4 A.keeps.length a5) (vS a0 (A.slips++(B.slips.take k).filter (IM A.slips)).length a1)) 26)::(bX b5 AJ 26)::(bX b3 (AH B (vS c3 B.start.length c4) (vS c5 B.keeps.length c6) (vS c0 B.slips.length c1)) 26)::(bX b1 (AH A (vS b4 A.start.length b6) (vS b8 A.keeps.length b9) (vS b0 A.slips.length b2)) 26)::[]) (a6++F) (ox 1 [(57,vP b1 4)] ?_);refine AD (dlb 58 4 4 b1 (vS b0 A.slips.length b2)) (ox 1 [(59,vP e9 0)] ?_);refine AD (dlb 60 0 0 e9 (vI ((B.slips.getD k AB).num))) ?_;refine GA (sc (some 61) (F:=((bX e9 (AV (B.slips.getD k AB)) 28)::(bX d8 (AH A (vS a2 A.start.length a3) (vS a4 A.keeps.length a5) (vS a0 (A.slips++(B.slips.take k).filter (IM A.slips)).length a1)) 26)::(bX b5 AJ 26)::(bX b3 (AH B (vS c3 B.start.length c4) (vS c5 B.keeps.length c6) (vS c0 B.slips.length c1)) 26)::(bX b1 (AH A (vS b4 A.start.length b6) (vS b8 A.keeps.length b9) (vS b0 A.slips.length b2)) 26)::(a6++F))) (KW _ ((B.slips.getD k AB).num) :) (PR _) (fun r1 m9 q8 c7 k0=>?_));obtain ⟨f0,g8,g4,k9⟩:=k0;rw [g8,g4];clear g8 g4;replace c8:=c8.mono c7;replace d1:=d1.mono c7;replace hlo:=hlo.mono c7;replace a8:=a8.mono c7;replace a9:=a9.mono c7;refine CG (S':=(a6++F)) (PR _) ?_;show OFP _ _ _ _ _ _ ((61,.func (.func 129) #[] #[vP f0 0])::_) _ _;refine GX (nm (nm ?_));refine sd (dc 62 (fun I' hI=>(MR I' _ _ 129 ([vP f0 0]) (fun x=>decide (x.num=((B.slips.getD k AB).num))) (c8.mono hI) (by kernel_rfl) (fun J hJ x=>num1_ct J x ((B.slips.getD k AB).num) f0 ((IT hI hJ).blk _ _ k9)) :))) (sp 1 [(10,vI (JK (fun x=>decide (x.num=((B.slips.getD k AB).num))) A.slips))] (se (rb 2 (rqr (sp 1 [(64,vI (JK (fun x=>decide (x.num=((B.slips.getD k AB).num))) A.slips))] ?_)))));obtain ⟨ix,hix⟩:∃ x:Int,x=idxN A.slips (B.slips.getD k AB):=⟨_,rfl⟩;refine EE 64 rfl (show (vI (JK (fun x=>decide (x.num=((B.slips.getD k AB).num))) A.slips):Value)=vI ix from congrArg (Value.int .i64) hix.symm) (sp 2 [(63,.bool (cmp .lss ix 0))] (se (rc 63 rfl (fun h7=>?_) (fun h7=>?_))))
  ·
   have j5:=h7;have h7:=BX h7;refine rr (sp 1 [(66,vP d8 4)] (sd (dlb 67 1 4 d8 (vS a0 (A.slips++(B.slips.take k).filter (IM A.slips)).length a1)) (sd (dnb 68 0 0 e9 (EU (B.slips.getD k AB))) (sS (sbs 69 28 1 (AV (B.slips.getD k AB)) (fun r6=>(sS (sap (d:=70) 67 69 24 28 8 64 (.agg IQ) AX (A.slips++(B.slips.take k).filter (IM A.slips)) [B.slips.getD k AB] a6 rfl rfl c2 (PU (PU (PU (PU (PU PM.symm))))) (CD _) (DI 0 rfl rfl) (fun s3 g0 g5=>(AZ (M':=((bX e9 (AV (B.slips.getD k AB)) 28)::(bX d8 (AH A (vS a2 A.start.length a3) (vS a4 A.keeps.length a5) (vS a0 (A.slips++(B.slips.take k).filter (IM A.slips)).length a1)) 26)::(bX b5 AJ 26)::(bX b3 (AH B (vS c3 B.start.length c4) (vS c5 B.keeps.length c6) (vS c0 B.slips.length c1)) 26)::(bX b1 (AH A (vS b4 A.start.length b6) (vS b8 A.keeps.length b9) (vS b0 A.slips.length b2)) 26)::(g0++F))) (fun w h=>(h.perm (PW (PW (PW (PW (PW PM)))))).sub (TC _ (TR _))) ?_))))))))));obtain ⟨f3,f4,rfl,q5⟩:=g5.shape;refine sp 1 [(71,vP d8 4)] (sS (ss 1 4 d8 [vS f3 ((A.slips++(B.slips.take k).filter (IM A.slips))++([B.slips.getD k AB])).length f4] (BQ A (vS a2 A.start.length a3) (vS a4 A.keeps.length a5) (vS f3 ((A.slips++(B.slips.take k).filter (IM A.slips))++([B.slips.getD k AB])).length f4)) (_::_::_::_::_::_) (cs:=[_,_,_,_,_]) rfl rfl (ee (NB (NB (NX (rr (sd (da 81 ↑k 1) (sp 1 [(53,vI (↑k+1))] (ee ?_))))))))));refine AO (B.slips.length-(k+1)) (by omega) ?_;intro a w hS hD hW;exact ⟨m9,k+1,vS f3 ((A.slips++(B.slips.take k).filter (IM A.slips))++([B.slips.getD k AB])).length f4,g0,(IT hJ0 c7),by omega,mrg_any i2 (by omega) (clash_lt hix (by assumption)),(by rw [mrg_new hix (by omega) (by assumption)];exact g5),hS.sub su,hD,(hW.perm (PR _)).sub (TC _ (TR _)),rfl⟩
  have j5:=h7;have h7:=CF h7;refine rq ?_;have s1:0≤ix∧ix<A.slips.length:=by have hq:=idx_in (L:=A.slips) (p:=fun x=>decide (x.num=(B.slips.getD k AB).num));rw [show JK _ _=ix from hix.symm] at hq;exact hq (by omega)
  refine rd0 6 (ox 1 [(73,vP b1 4)] ?_);refine AD (dlb 74 4 4 b1 (vS b0 A.slips.length b2)) (ox 1 [(75,vI (JK (fun x=>decide (x.num=((B.slips.getD k AB).num))) A.slips))] ?_);refine OFP.sub 75 (show (vI (JK (fun x=>decide (x.num=((B.slips.getD k AB).num))) A.slips):Value)=vI ix from congrArg (Value.int .i64) hix.symm) ?_;refine AD (diI 76 8 ix d1.addr) ?_;refine AD (dln 77 76 28 (EU (A.slips.getD ((ix:Int).toNat) AB)) rfl (CB (vals:=CV) (fun _=>rfl) d1 ((ix:Int).toNat) (by omega))) ?_;refine AD (dnb 78 0 0 e9 (EU (B.slips.getD k AB))) ?_;refine BA (sd (GQ (L:=[(0,.i .i64),(1,.i .i64),(2,.i .i64),(3,.i .i64),(4,.i .i64),(5,.i .i64),(6,.b),(7,.i .i64)]) (x:=(.tmp 77)) (y:=(.tmp 78)) (T:=28) (T':=28) (d:=79) (ty:=4) (gd:=none) (by kernel_rfl) rfl (by kernel_rfl) rfl rfl rfl (eqSlip (A.slips.getD ((ix:Int).toNat) AB) (B.slips.getD k AB))) (sp 1 [(72,.bool (!(decide ((A.slips.getD ((ix:Int).toNat) AB)=(B.slips.getD k AB)))))] (se (rc 72 rfl (fun h8=>?_) (fun h8=>?_)))))
  ·
   have j6:=h8;have h8:=OH (BF h8);refine rqr (sp 1 [(80,.agg AJ)] (sS (ss 2 0 b5 DP DP (_::_::_::_::_::_) (cs:=[_,_,_,_,_]) rfl rfl (sp 1 [(5,vI 4)] (se (BD (RB (RB (RP (RP (RB (RP ?_))))))))))));have hE:=mergeE_3 hz k1 hix (by omega) (by omega) h8;refine BU (t:=4) (u:=5) (T:=26) (n:=5) [] (by kernel_rfl) rfl (by kernel_rfl) rfl (BN (n:=5) (cs:=AJ) (b:=b5) (off:=0) (T:=26) (fz:=(0,0)) (vs:=DP) (by simp) rfl) (.inl ⟨by kernel_rfl,rfl⟩) rfl (TC _ (TC _ (TC _ (TC _ (TC _ (TT (TR _) (TB _ _))))))) (IT (IT (IT a7 c9) hJ0) c7) ?_;exact ⟨_,(by rw [hE]),rfl,((show (⟨0,0,[],[],[]⟩:Lin)=(AR A B).1 from by rw [hE];rfl)▸(BL (IsRows.nil _) (IsSl.nil _) (IsSl.nil _)))⟩
  have j6:=h8;have h8:=NE (BC h8);refine AM (NB (NB (NX (rr (sd (da 81 ↑k 1) (sp 1 [(53,vI (↑k+1))] (ee ?_)))))));refine AO (B.slips.length-(k+1)) (by omega) ?_;intro a w hS hD hW;exact ⟨m9,k+1,vS a0 (A.slips++(B.slips.take k).filter (IM A.slips)).length a1,a6,(IT hJ0 c7),by omega,mrg_any i2 (by omega) (clash_eq hix h8),(by rw [mrg_old hix (by omega) (by omega)];exact c2),hS.sub su,hD,(hW.perm (PR _)).sub (TC _ (TR _)),rfl⟩
 have j4:=h6;have h6:=CF h6;refine BR 0 (EP (EP (EB (NX (rq (rqr (sp 1 [(82,vP d8 4)] (sd (dlb 83 0 4 d8 (vS a0 (A.slips++(B.slips.take k).filter (IM A.slips)).length a1)) (sp 2 [(85,.bool (cmp .gtr (↑((A.slips++(B.slips.take k).filter (IM A.slips)).length)) 8))] (se (rc 85 rfl (fun h9=>?_) (fun h9=>?_))))))))))))
 ·
  have j7:=h9;have h9:=JY h9;refine rqr (sp 1 [(86,.agg AJ)] (sS (ss 1 0 b5 DP DP (_::_::_::_::_) (cs:=[_,_,_,_,_]) rfl rfl (sp 1 [(5,vI 6)] (se (BD (RP ?_)))))));have hE:=mergeE_4 hz k1 i2 (by omega) (by omega);refine BU (t:=4) (u:=5) (T:=26) (n:=5) [] (by kernel_rfl) rfl (by kernel_rfl) rfl (BN (n:=5) (cs:=AJ) (b:=b5) (off:=0) (T:=26) (fz:=(0,0)) (vs:=DP) (by simp) rfl) (.inl ⟨by kernel_rfl,rfl⟩) rfl (TC _ (TC _ (TC _ (TC _ (TT (TR _) (TB _ _)))))) (IT (IT a7 c9) hJ0) ?_;exact ⟨_,(by rw [hE]),rfl,((show (⟨0,0,[],[],[]⟩:Lin)=(AR A B).1 from by rw [hE];rfl)▸(BL (IsRows.nil _) (IsSl.nil _) (IsSl.nil _)))⟩
 have j7:=h9;have h9:=MB h9;refine AM (NX (rq ?_));refine CN (B:=((bX d8 (AH A (vS a2 A.start.length a3) (vS a4 A.keeps.length a5) (vS a0 (A.slips++(B.slips.take k).filter (IM A.slips)).length a1)) 26)::(bX b5 AJ 26)::(bX b3 (AH B (vS c3 B.start.length c4) (vS c5 B.keeps.length c6) (vS c0 B.slips.length c1)) 26)::(bX b1 (AH A (vS b4 A.start.length b6) (vS b8 A.keeps.length b9) (vS b0 A.slips.length b2)) 26)::F)) AB c2 (by first | omega | (simp only [LS,LC,LN,LA,LK,LD] <;> omega) | decide) (PU (PU (PU PM.symm))) (PR _) (fun r5 e6 e1=>?_);replace a8:=a8.mono e6;replace a9:=a9.mono e6;obtain ⟨i4,i6,i5,i9,f1,i7,i8,j0⟩:=id e1;cases f1;refine rr (sd (dnb 87 0 0 d8 (BQ A (vS a2 A.start.length a3) (vS a4 A.keeps.length a5) (vS a0 (A.slips++(B.slips.take k).filter (IM A.slips)).length a1))) (sS (ss 1 0 b5 (BQ A (vS a2 A.start.length a3) (vS a4 A.keeps.length a5) (vS a0 (A.slips++(B.slips.take k).filter (IM A.slips)).length a1)) (BQ A (vS a2 A.start.length a3) (vS a4 A.keeps.length a5) (vS a0 (A.slips++(B.slips.take k).filter (IM A.slips)).length a1)) (_::_::_::_::_) (cs:=[_,_,_,_,_]) rfl rfl (sp 1 [(5,vI 0)] (se (BD ?_))))));have hE:=mergeE_5 hz k1 i2 (by omega) (by omega);refine BU (t:=4) (u:=5) (T:=26) (n:=5) [] (by kernel_rfl) rfl (by kernel_rfl) rfl (BN (n:=5) (cs:=(AH A (vS a2 A.start.length a3) (vS a4 A.keeps.length a5) (vS a0 (A.slips++(B.slips.take k).filter (IM A.slips)).length a1))) (b:=b5) (off:=0) (T:=26) (fz:=(0,0)) (vs:=(BQ A (vS a2 A.start.length a3) (vS a4 A.keeps.length a5) (vS a0 (A.slips++(B.slips.take k).filter (IM A.slips)).length a1))) (by simp) rfl) (.inl ⟨by kernel_rfl,rfl⟩) rfl (TC _ (TC _ (TC _ (TC _ (TR _))))) (IT (IT (IT a7 c9) hJ0) e6) ?_;exact ⟨_,(by rw [hE]),rfl,((show (⟨A.places,A.sorts,A.start,A.keeps,A.slips++(B.slips.take k).filter (IM A.slips)⟩:Lin)=(AR A B).1 from by rw [hE];exact mrgL_k (by omega))▸(BL a8 a9 e1))⟩
end Go.Proofs.YtgcemienebmdeaaGreat
namespace Go.Sh
open Go Go.Sl
structure SmallL (L:Lin):Prop where
  start:L.start.length≤20
  rows:∀ r∈L.start,r.length≤20
  keeps:L.keeps.length≤20
  slips:L.slips.length≤20
structure FitL (L:Lin):Prop where
  start:L.start.length≤1000000
  rows:∀ r∈L.start,r.length≤1000000
  keeps:L.keeps.length≤1000000
  slips:L.slips.length≤1000000
theorem SmallL.fit {L:Lin} (h:SmallL L):FitL L:=⟨by have:=h.start;omega,fun r hr=>by have:=h.rows r hr;omega,by have:=h.keeps;omega,by have:=h.slips;omega⟩
theorem GoodL.fit {L:Lin} (h:GoodL L):FitL L:=⟨by have h1:=h.start;have h2:=h.places;omega,fun r hr=>by have h1:=h.rows r hr;have h2:=h.sorts;omega,by have:=h.keeps;omega,by have:=h.slips;omega⟩
def IH (L:Lin) (s:Slip):Lin:=⟨L.places,L.sorts,L.start,L.keeps,L.slips++[s]⟩
theorem addS_fit {L:Lin} {s:Slip} (h:GoodL L):FitL (IH L s):=⟨h.fit.start,h.fit.rows,h.fit.keeps,by show (L.slips++[s]).length≤_;have:=h.slips;rw [List.length_append,List.length_singleton];omega⟩
section
variable {A B L:Lin} {k:Nat}
theorem large_end (ha:∀ r∈L.start.take k,r.length≤20) (hx:(cmp .lss (k:Int) L.start.length&&cmp .lss (k:Int) 20)=false) (hq:(cmp .gtr (L.start.length:Int) 20||(cmp .gtr (L.keeps.length:Int) 20||cmp .gtr (L.slips.length:Int) 20))=false):SmallL L:=by
  simp only [cmp,Bool.or_eq_false_iff,decide_eq_false_iff_not,Bool.and_eq_false_iff] at hx hq;have hk:L.start.length≤k:=by omega
  rw [List.take_of_length_le hk] at ha;exact ⟨by omega,ha,by omega,by omega⟩
theorem lin_eq (h:(!cmp .eql A.places B.places||(!cmp .eql A.sorts B.sorts||(!decide (A.start=B.start)||!cmp .eql (A.keeps.length:Int) B.keeps.length)))=false) (hl:A.keeps.length=B.keeps.length) (ht:A.keeps.take k=B.keeps.take k) (hk:A.keeps.length≤k):decide (A.slips=B.slips)=decide (A=B):=by
  rw [List.take_of_length_le hk,List.take_of_length_le (by omega)] at ht;simp only [KR,Bool.or_eq_false_iff,Bool.not_eq_false',decide_eq_true_eq] at h;obtain ⟨h1,h2,h3,_⟩:=h;obtain ⟨a1,a2,a3,a4,a5⟩:=A;obtain ⟨b1,b2,b3,b4,b5⟩:=B;simp only at *;subst h1 h2 h3 ht;simp
theorem lin_ne (h:(!cmp .eql A.places B.places||(!cmp .eql A.sorts B.sorts||(!decide (A.start=B.start)||!cmp .eql (A.keeps.length:Int) B.keeps.length)))=true):decide (A=B)=false:=decide_eq_false fun e=>by subst e;simp [cmp] at h
end
structure Cov (S XA XB:List Slip):Prop where
  a:XA.Sublist S
  b:XB.Sublist S
  c:∀ s∈S,s∈XA∨s∈XB
abbrev withS (L:Lin) (X:List Slip):Lin:=⟨L.places,L.sorts,L.start,L.keeps,X⟩
section
variable {L:Lin} {XA XB:List Slip} {k:Nat}
theorem Cov.nil:Cov (L.slips.take 0) [] []:=⟨List.nil_sublist _,List.nil_sublist _,fun s h=>by simp at h⟩
theorem Cov.symm {S:List Slip} (h:Cov S XA XB):Cov S XB XA:=⟨h.b,h.a,fun s hs=>(h.c s hs).symm⟩
variable (g:GoodL L)
include g
theorem part_good {X:List Slip} (h:X.Sublist L.slips):GoodL (withS L X):=
  good_of g (by have h1:=h.length_le;have h2:=g.slips;omega) (fun s hs=>g.slipOf (h.subset hs)) (g.once.sublist (h.map _))
end
theorem fits5 {A B C D E:Lin} (h1:FitL A) (h2:FitL B) (h3:FitL C) (h4:FitL D) (h5:FitL E):∀ Z∈[A,B,C,D,E],FitL Z:=fun Z hZ=>by
  simp only [List.mem_cons,List.not_mem_nil,or_false] at hZ;rcases hZ with rfl | rfl | rfl | rfl | rfl <;> assumption
end Go.Sh
namespace Go.Sl
open Go
section
variable {P:Program} [Jud P] {N:Nat} {ops:Array Oper} {L0:Sl} {i d:Nat} {ty:TypeId}
theorem alOk_mk {x : Operand} {T E bs n : Nat} {z zv : Value} (h1 : DQ ops i = some d) (h0 : look d L0 = none) (h2 : supB ops i L0 = true) (hop : FJ ops N i = some (some d, .makeSlice T x x, ty, none))
    (hT:JA P T=some E) (hsz:EG P E=some 1) (hz:HF P E=some z) (hzc:z.cells=#[zv]) (hb:KB P E=some bs) (hbs:1≤bs∧bs≤256)
    (hx:CE L0 x=some (.int .i64 (n:Int))) (hn:n≤1000000):RM P N ops L0 i d (.bs E n (List.replicate n zv).toArray):=
  ⟨h1,h0,supB_spec h2,fun I M=>LF hop rfl hT hsz hz hzc hb hbs hx hn (fun b=>⟨b,rfl,rfl,rfl⟩)⟩
theorem alOk_clL {T:TypeId} {cs:Array Value} (h1:DQ ops i=some d) (h0:look d L0=none) (h2:noLooks ops i=true) (h3:alAt P N ops L0 i=some (d,T,cs)):RM P N ops L0 i d (.cl T cs):=
  ⟨h1,h0,(fun t ht=>by rw [MJ h2] at ht;cases ht),fun I M=>sal d T cs (fun b=>⟨b,rfl,rfl,rfl⟩) h3⟩
end
theorem Own.madeI {E:TypeId} {b n:Nat}:Own E 1 AQ (.slice (some ⟨b,0,none⟩) n n) (List.replicate n (0:Int)) [(b,Obj.cells (List.replicate n (Value.int .i64 0)).toArray E (0,0))]:=
  .inr ⟨b,n,[],by rw [List.length_replicate],by simp,by rw [List.append_nil];simp [CW,AQ,List.flatMap_replicate],by rw [List.append_nil,CC,List.length_replicate]⟩
end Go.Sl
