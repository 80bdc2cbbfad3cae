/- A part of the proof of the laws of this seat. -/
import Derived.Test.YtgcemienebmdeaaGreatLinenMoreP2
import Derived.Test.YtgcemienebmdeaaGreatLinenMoreP4
import Derived.Test.YtgcemienebmdeaaGreatLinenMoreP5
import Derived.Test.YtgcemienebmdeaaGreatLinenMoreP1
set_option linter.unusedVariables false
set_option linter.unusedSimpArgs false
namespace Go.Proofs.YtgcemienebmdeaaGreat
open Go Go.Sl Go.Sh
set_option maxRecDepth 100000
noncomputable def NQ:=cod Tryz.f21
theorem HV (I:Imm) (l:Value) (L:Lin) (l_f:IsLin I l L) (h1:L.start.length≤1000000) (h2:∀ x∈L.start,x.length≤1000000) (h3:L.keeps.length≤1000000) (h4:L.slips.length≤1000000):Ct Tryz.prog 21 #[l] I ([]) (fun v I' M'=>∃ u1:Value,∃ u2:Value,∃ u3:Value,∃ Ms:Seg,v=.agg #[vI (L).places,vI (L).sorts,u1,u2,u3]∧M'=Ms∧IsRows I' u1 (L).start∧EV I' u2 (L).keeps∧Own 28 8 AX u3 (L).slips Ms):=by
 obtain ⟨l1,l2,l3,rfl,d4,c3,c4⟩:=id l_f;obtain ⟨a6,a7,h8,i1,h5,rfl,h9,i0,i2,i3⟩:=id d4;obtain ⟨a4,a5,i4,i7,rfl,i5,i6,i8⟩:=id c3;obtain ⟨a2,a3,i9,j2,rfl,j0,j1,j3⟩:=id c4;refine fr (args:=[_]) (N:=18) Tryz.func21 (fun F=>?_);show Run _ _ (NQ []) _ _ [(0,_)] _ _;refine rnm (rqr ?_);refine sS (sb 1 26 (AH L (vS a6 L.start.length a7) (vS a4 L.keeps.length a5) (vS a2 L.slips.length a3)) (fun b1=>(sS (sal 2 26 AJ (fun b3=>(se (rq ?_)))))));refine rdX (M:=((bX b3 AJ 26)::(bX b1 (AH L (vS a6 L.start.length a7) (vS a4 L.keeps.length a5) (vS a2 L.slips.length a3)) 26)::[])) (F0:=F) [(3,6,.sl 50),(7,10,.sl 28)] 12 [(0,true),(1,true),(4,true),(5,true),(8,true),(9,true),(2,false),(11,true),(3,false),(6,false),(7,false),(10,false)] (by simp only [AA,CA,NA,List.append_nil];exact PR _) (FO (alOk_of (ops:=EC (NQ [1,0])) (i:=3) (d:=6) (by kernel_rfl) (by kernel_rfl) (by kernel_rfl)) (FO (alOk_of (ops:=EC (NQ [1,0])) (i:=7) (d:=10) (by kernel_rfl) (by kernel_rfl) (by kernel_rfl)) FV)) ?_;refine AF (dpv 3 (vP b1 2)) ?_;refine AF (dlb 4 1 2 b1 (vS a6 L.start.length a7)) ?_;refine AY (dpv 7 (vP b1 3)) ?_;refine ED (Rx:=((bX b1 (AH L (vS a6 L.start.length a7) (vS a4 L.keeps.length a5) (vS a2 L.slips.length a3)) 26)::[])) (PS _ _ _) (dlb 8 0 3 b1 (vS a4 L.keeps.length a5)) ?_;refine AY (dpv 11 (vP b1 4)) ?_;refine ED (Rx:=((bX b1 (AH L (vS a6 L.start.length a7) (vS a4 L.keeps.length a5) (vS a2 L.slips.length a3)) 26)::[])) (PS _ _ _) (dlb 12 0 4 b1 (vS a2 L.slips.length a3)) ?_;refine CI (Mx:=fun FX=>((bX b3 AJ 26)::(bX b1 (AH L (vS a6 L.start.length a7) (vS a4 L.keeps.length a5) (vS a2 L.slips.length a3)) 26)::FX)) rfl (fun FX=>by simp only [AA,CA,NA,List.append_nil];exact PR _) (fun FX=>?_);refine id (sc (some 5) (F:=((bX b3 AJ 26)::(bX b1 (AH L (vS a6 L.start.length a7) (vS a4 L.keeps.length a5) (vS a2 L.slips.length a3)) 26)::FX)) (CopyRows_ct _ _ _ d4 (by omega) (by assumption) :) (PR _) (fun j8 I5 j7 d0 h7=>?_));obtain ⟨k1,a8,b6,h0,g9,d5,c1⟩:=h7;rw [h0,g9];clear h0 g9;replace c3:=c3.mono d0;replace c4:=c4.mono d0;obtain ⟨a0,a1,rfl,h6⟩:=d5.shape;have c2:=c1.1
 try simp only [LS,LA,LC,LN,LK] at c2
 refine DV (M1:=((bX b3 AJ 26)::(bX b1 (AH L (vS a6 L.start.length a7) (vS a4 L.keeps.length a5) (vS a2 L.slips.length a3)) 26)::(b6++[]))) (by simp only [AA,CA,NA,List.append_nil];exact (PW PM)) (.part (PS _ _ _) (.none (.part (PS _ _ _) (.none (.wt (.wt .nil)))))) ?_;show OFPX _ _ _ _ _ _ _ _ _ _ ((5,vS a0 a8.length a1)::_) _ _;refine AY (dpv 14 (vP b1 2)) ?_;refine ofx_al rfl (fun d7=>?_);refine CI (Mx:=fun FX=>((bX d7 #[] 50)::(bX b3 AJ 26)::(bX b1 (AH L (vS a6 L.start.length a7) (vS a4 L.keeps.length a5) (vS a2 L.slips.length a3)) 26)::(b6++FX))) rfl (fun FX=>by simp only [AA,CA,NA,List.append_nil];exact PR _) (fun FX=>?_);have g2:Own 50 3 FR (vS (some ⟨d7,0,none⟩) 0 0) ([]:List Keep) [(bX d7 #[] 50)]:=Own.lit rfl rfl;refine id (sap (d:=9) 6 8 23 50 3 24 (.agg #[vI 0,vI 0,vI 0]) FR ([]:List Keep) L.keeps [(bX d7 #[] 50)] rfl rfl g2 (PR _) (JR _) c3.src (fun k2 b8 d1=>?_));rw [NA] at d1;refine DV (M1:=((bX b3 AJ 26)::(bX b1 (AH L (vS a6 L.start.length a7) (vS a4 L.keeps.length a5) (vS a2 L.slips.length a3)) 26)::(b8++(b6++[])))) (by simp only [AA,CA,NA,List.append_nil];exact (PW PM)) (.none (.part (PS _ _ _) (.none (.wt (.wt (.wt (.wt .nil))))))) ?_;obtain ⟨a9,b0,rfl,j5⟩:=d1.shape;show OFPX _ _ _ _ _ _ _ _ _ _ ((9,vS a9 L.keeps.length b0)::_) _ _;refine ofx_al rfl (fun d8=>?_);refine CI (Mx:=fun FX=>((bX d8 #[] 28)::(bX b3 AJ 26)::(bX b1 (AH L (vS a6 L.start.length a7) (vS a4 L.keeps.length a5) (vS a2 L.slips.length a3)) 26)::(b8++(b6++FX)))) rfl (fun FX=>by simp only [AA,CA,NA,List.append_nil];exact PR _) (fun FX=>?_);have g3:Own 28 8 AX (vS (some ⟨d8,0,none⟩) 0 0) ([]:List Slip) [(bX d8 #[] 28)]:=Own.lit rfl rfl;refine id (sap (d:=13) 10 12 24 28 8 64 (.agg IQ) AX ([]:List Slip) L.slips [(bX d8 #[] 28)] rfl rfl g3 (PR _) (CD _) c4.src (fun k3 b7 d2=>?_));rw [NA] at d2;refine DV (M1:=((bX b3 AJ 26)::(bX b1 (AH L (vS a6 L.start.length a7) (vS a4 L.keeps.length a5) (vS a2 L.slips.length a3)) 26)::(b7++(b8++(b6++[]))))) (by simp only [AA,CA,NA,List.append_nil];exact (PW PM)) (.none (.wt (.wt (.wt (.wt (.wt (.wt .nil))))))) ?_;obtain ⟨b2,b4,rfl,j6⟩:=d2.shape;show OFPX _ _ _ _ _ _ _ _ _ _ ((13,vS b2 L.slips.length b4)::_) _ _;refine ER (AZ (M':=((bX b3 AJ 26)::(bX b1 (AH L (vS a6 L.start.length a7) (vS a4 L.keeps.length a5) (vS a2 L.slips.length a3)) 26)::(b7++(b8++(b6++F))))) (fun w h=>by simpa only [AA,CA,NA,List.append_nil] using h) (nm ?_));refine sS (ss 1 2 b1 [vS a0 a8.length a1] (BQ L (vS a0 a8.length a1) (vS a4 L.keeps.length a5) (vS a2 L.slips.length a3)) (_::_::_) (cs:=[_,_,_,_,_]) rfl rfl (sp 1 [(15,vP b1 3)] (sS (ss 1 3 b1 [vS a9 L.keeps.length b0] (BQ L (vS a0 a8.length a1) (vS a9 L.keeps.length b0) (vS a2 L.slips.length a3)) (_::_::_) (cs:=[_,_,_,_,_]) rfl rfl (sp 1 [(16,vP b1 4)] (sS (ss 1 4 b1 [vS b2 L.slips.length b4] (BQ L (vS a0 a8.length a1) (vS a9 L.keeps.length b0) (vS b2 L.slips.length b4)) (_::_::_) (cs:=[_,_,_,_,_]) rfl rfl (se (rq ?_)))))))));refine CN (B:=((bX b3 AJ 26)::(bX b1 (AH L (vS a0 a8.length a1) (vS a9 L.keeps.length b0) (vS b2 L.slips.length b4)) 26)::(b7++(b8++F)))) undef d5 (by first | omega | (simp only [LS,LC,LN,LA,LK,LD] <;> omega) | decide) (PU (PU (PV (PO _ _ _)))) (PR _) (fun j9 c5 b9=>?_);replace c1:=c1.mono c5;obtain ⟨e8,f0,e9,f3,c8,f1,f2,f4⟩:=id b9;cases c8;have b5:=c1.isRows b9;have d3:=c1.1;obtain ⟨e0,e2,e1,e5,d9,c7,e3,e4,e6,e7⟩:=id b5
 injection c7 with fr28_e1 fr28_e2 fr28_e3;subst fr28_e1;subst fr28_e3
 refine CN (B:=((bX b3 AJ 26)::(bX b1 (AH L (vS a0 a8.length a1) (vS a9 L.keeps.length b0) (vS b2 L.slips.length b4)) 26)::(b7++F))) AN d1 (by first | omega | (simp only [LS,LC,LN,LA,LK,LD] <;> omega) | decide) (PU (PU (PO _ _ _))) (PR _) (fun k0 c6 c0=>?_);replace b5:=b5.mono c6;obtain ⟨f5,f7,f6,g0,c9,f8,f9,g1⟩:=id c0;cases c9;refine rr (sd (dnb 17 1 0 b1 (BQ L (vS a0 a8.length a1) (vS a9 L.keeps.length b0) (vS b2 L.slips.length b4))) (sS (ss 0 0 b3 (BQ L (vS a0 a8.length a1) (vS a9 L.keeps.length b0) (vS b2 L.slips.length b4)) (BQ L (vS a0 a8.length a1) (vS a9 L.keeps.length b0) (vS b2 L.slips.length b4)) (_::_::_) (cs:=[_,_,_,_,_]) rfl rfl (se (BD (ppm (M':=(b7++(bX b3 (AH L (vS a0 a8.length a1) (vS a9 L.keeps.length b0) (vS b2 L.slips.length b4)) 26)::(bX b1 (AH L (vS a0 a8.length a1) (vS a9 L.keeps.length b0) (vS b2 L.slips.length b4)) 26)::F)) (PU PM.symm) (ES (t:=2) (T:=26) (n:=5) b7 (by kernel_rfl) rfl (by kernel_rfl) rfl (BN (n:=5) (cs:=(AH L (vS a0 a8.length a1) (vS a9 L.keeps.length b0) (vS b2 L.slips.length b4))) (b:=b3) (off:=0) (T:=26) (fz:=(0,0)) (vs:=(BQ L (vS a0 a8.length a1) (vS a9 L.keeps.length b0) (vS b2 L.slips.length b4))) (by simp) rfl) (.inl ⟨by kernel_rfl,rfl⟩) (TA (TC _ (TC _ (TR _))) _) (IT (IT d0 c5) c6) ?_)))))));exact ⟨_,_,_,_,rfl,rfl,b5,c0,d2⟩
end Go.Proofs.YtgcemienebmdeaaGreat
namespace Go.Sh
open Go Go.Sl
def linD:Lin:=⟨0,0,[],[],[]⟩
def lvD:Int × Int × Value × Value × Value:=(0,0,undef,undef,undef)
def lvCell (t:Int × Int × Value × Value × Value):Nat→Value
  | 0=>.int .i64 t.1
  | 1=>.int .i64 t.2.1
  | 2=>t.2.2.1
  | 3=>t.2.2.2.1
  | _=>t.2.2.2.2
def LinsV (I:Imm) (xs:List (Int × Int × Value × Value × Value)) (Ls:List Lin):Prop:=xs.length=Ls.length∧∀ i,i<xs.length→IsLin I (.agg #[.int .i64 (xs.getD i lvD).1,.int .i64 (xs.getD i lvD).2.1,(xs.getD i lvD).2.2.1,(xs.getD i lvD).2.2.2.1,(xs.getD i lvD).2.2.2.2]) (Ls.getD i linD)
theorem LinsV.mono {I J:Imm} {xs:List (Int × Int × Value × Value × Value)} {Ls:List Lin} (h:LinsV I xs Ls) (le:I.le J):LinsV J xs Ls:=⟨h.1,fun i hi=>(h.2 i hi).mono le⟩
theorem LinsV.nil (I:Imm):LinsV I [] []:=⟨rfl,fun i hi=>by simp at hi⟩
theorem LinsV.snoc {I:Imm} {xs:List (Int × Int × Value × Value × Value)} {Ls:List Lin} {p q:Int} {a b c:Value} {L:Lin} (h:LinsV I xs Ls) (hL:IsLin I (.agg #[.int .i64 p,.int .i64 q,a,b,c]) L):LinsV I (xs++[(p,q,a,b,c)]) (Ls++[L]):=by
  refine ⟨by simp [h.1],fun i hi=>?_⟩;rw [List.length_append,List.length_singleton] at hi;have hl:=h.1
  by_cases hb:i<xs.length
  · have e1:(xs++[(p,q,a,b,c)]).getD i lvD=xs.getD i lvD:=by simp [List.getD,List.getElem?_append_left hb]
    have e2:(Ls++[L]).getD i linD=Ls.getD i linD:=by simp [List.getD,List.getElem?_append_left (show i<Ls.length by omega)]
    rw [e1,e2];exact h.2 i hb
  · obtain rfl:i=xs.length:=by omega
    have e1:(xs++[(p,q,a,b,c)]).getD xs.length lvD=(p,q,a,b,c):=by simp [List.getD]
    have e2:(Ls++[L]).getD xs.length linD=L:=by simp [List.getD,hl]
    rw [e1,e2];exact hL
theorem LinsV.at {I : Imm} {xs : List (Int × Int × Value × Value × Value)} {Ls : List Lin} (h : LinsV I xs Ls) {i : Nat} (hi : i < xs.length) :
    ∃ (Y:Lin) (a b c:Value),xs.getD i lvD=(Y.places,Y.sorts,a,b,c)∧Y∈Ls∧IsRows I a Y.start∧EV I b Y.keeps∧FY I c Y.slips:=by
  obtain ⟨v1,v2,v3,h1,h2,h3,h4⟩:=h.2 i hi;simp only [Value.agg.injEq] at h1;have e:=congrArg Array.toList h1;simp only [List.cons.injEq,Value.int.injEq,true_and,and_true] at e;refine ⟨Ls.getD i linD,v1,v2,v3,?_,BJ (by rw [← h.1];exact hi),h2,h3,h4⟩;rw [← e.1,← e.2.1,← e.2.2.1,← e.2.2.2.1,← e.2.2.2.2]
theorem KV {I:Imm} {a:Option Addr} {b o n:Nat} {xs:List (Int × Int × Value × Value × Value)} (h:Row 5 I a b o n (fun i f=>lvCell (xs.getD i lvD) f)) {M:Seg} (i:Nat) (hi:i<n) {p q:Int} {v1 v2 v3:Value} (he:xs.getD i lvD=(p,q,v1,v2,v3)):SeesN I M b (o+i*5) [.int .i64 p,.int .i64 q,v1,v2,v3]:=fun k v hv=>by
  have hk:k<5:=(List.getElem?_eq_some_iff.1 hv).1;have hc:=h.get i hi k hk;rw [he] at hc
  match k,hk with
  | 0,_=>exact (Option.some.inj hv)▸hc.sees
  | 1,_=>exact (Option.some.inj hv)▸hc.sees
  | 2,_=>exact (Option.some.inj hv)▸hc.sees
  | 3,_=>exact (Option.some.inj hv)▸hc.sees
  | 4,_=>exact (Option.some.inj hv)▸hc.sees
end Go.Sh
namespace Go.Sl
open Go
section
variable {ρ:Option Nat} {P:Program} [Jud P] {N:Nat} {ops:Array Oper} {i:Nat} {l:Sl} {I:Imm} {R M:Seg} {d:Nat} {ty:TypeId} {gd:Option (Nat × Bool)}
end
end Go.Sl
namespace Go.Proofs.YtgcemienebmdeaaGreat
open Go Go.Sl Go.Sh
set_option maxRecDepth 100000
noncomputable def c_EqualSlips_ct:=cod Tryz.f74
theorem EqualSlips_ct (I:Imm) (a:Value) (xs:List Slip) (b:Value) (ys:List Slip) (a_f:FY I a xs) (b_f:FY I b ys):CtV Tryz.prog 74 #[a,b] I (.bool (decide (xs=ys))):=by
 obtain ⟨a0,a1,b1,b4,rfl,b2,b3,a7⟩:=id a_f;obtain ⟨a2,a3,b5,b8,rfl,b6,b7,a8⟩:=id b_f;refine fr (args:=[_,_]) (N:=26) Tryz.func74 (fun F=>?_);show Run _ _ (c_EqualSlips_ct []) _ _ [(0,_),(1,_)] _ _;refine rnm (rqr ?_);refine sp 1 [(4,.bool false)] (se (rq (rqr (sp 5 [(10,.bool (!(cmp .eql (↑(xs.length)) (↑(ys.length)))))] (se (rc 10 rfl (fun h1=>?_) (fun h1=>?_)))))))
 ·
  have a4:=h1;have h1:=BG (BF h1);refine rqr (sp 1 [(4,.bool false)] (se (BD (RP (rt1 4 rfl (IR _) ?_)))));exact ⟨by rw [decide_eq_false (fun e=>h1 (by rw [e]))],rfl⟩
 have a4:=h1;have h1:=BE (BC h1);refine AM (NX (rq (rqr (sp 1 [(5,vI 0)] (se (rb 0 ?_))))));refine rl (fun mz a w=>∃ k:Nat,(k≤xs.length)∧(xs.length=ys.length)∧(xs.take k=ys.take k)∧SD 26 [(5,vI ↑k),(0,vS a0 xs.length a1),(1,vS a2 ys.length a3)] I F a w (mz=xs.length-k)) ?_ ?_
 ·intro a w hS hD hW;exact ⟨_,0,Nat.zero_le _,by omega,rfl,hS.sub su,hD,hW,rfl⟩
 rintro mz a w ⟨k,hk,hl,ht,hS,hD,hW,rfl⟩
 refine AU hS hD hW ?_;clear hS hD hW a w;refine rq (rqr (sp 4 [(14,.bool (cmp .lss ↑k (↑(xs.length))))] (se (rc 14 rfl (fun h2=>?_) (fun h2=>?_)))))
 ·
  have a5:=h2;have h2:=BX h2;refine AM (NX (rq (rb 1 (rq ?_))));refine rd0 8 (ox 2 [(18,vI ↑k),(17,vS a0 xs.length a1)] ?_);refine AD (di 19 8 k a7.addr) ?_;refine AD (dln 20 19 28 (EU (xs.getD k AB)) rfl (CB (vals:=CV) (fun _=>rfl) a7 k (by omega))) (ox 2 [(22,vI ↑k),(21,vS a2 ys.length a3)] ?_);refine AD (di 23 8 k a8.addr) ?_;refine AD (dln 24 23 28 (EU (ys.getD k AB)) rfl (CB (vals:=CV) (fun _=>rfl) a8 k (by omega))) ?_;refine BA (sd (GQ (L:=[(0,.i .i64),(1,.i .i64),(2,.i .i64),(3,.i .i64),(4,.i .i64),(5,.i .i64),(6,.b),(7,.i .i64)]) (x:=(.tmp 20)) (y:=(.tmp 24)) (T:=28) (T':=28) (d:=25) (ty:=4) (gd:=none) (by kernel_rfl) rfl (by kernel_rfl) rfl rfl rfl (eqSlip (xs.getD k AB) (ys.getD k AB))) (se (rc 25 rfl (fun h3=>?_) (fun h3=>?_))))
  ·
   have a6:=h3;have h3:=OH (BF h3);refine rqr (sp 1 [(4,.bool false)] (se (BD (RB (RP (RP (RB (RP (rt1 4 rfl (IR _) ?_)))))))));exact ⟨by rw [decide_eq_false (LZ hl h3)],rfl⟩
  have a6:=h3;have h3:=NE (BC h3);refine AM (NB (NX (rr (sp 1 [(15,vI ↑k)] (sd (da 16 ↑k 1) (sp 1 [(5,vI (↑k+1))] (ee ?_)))))));refine AO (xs.length-(k+1)) (by omega) ?_;intro a w hS hD hW;exact ⟨k+1,by omega,hl,FF (d:=AB) hl ht (by omega) h3,hS.sub su,hD,hW,rfl⟩
 have a5:=h2;have h2:=CF h2;refine BR 0 (EP (EP (EB (NX (rqr (sp 1 [(4,.bool true)] (se (BD (rt1 4 rfl (IR _) ?_)))))))));exact ⟨by rw [decide_eq_true (HC hl ht (by omega))],rfl⟩
noncomputable def c_EqualLinens:=cod Tryz.f28
theorem HP (I:Imm) (l:Value) (A:Lin) (m:Value) (B:Lin) (l_f:IsLin I l A) (m_f:IsLin I m B):CtV Tryz.prog 28 #[l,m] I (.bool (decide (A=B))):=by
 obtain ⟨l1,l2,l3,rfl,c3,d4,c5⟩:=id l_f;obtain ⟨b0,b2,e2,e5,e0,rfl,e3,e4,e6,e7⟩:=id c3;obtain ⟨a2,a3,e8,f1,rfl,e9,f0,c4⟩:=id d4;obtain ⟨b4,b5,f2,f5,rfl,f3,f4,f6⟩:=id c5;obtain ⟨m1,m2,m3,rfl,c6,d8,c8⟩:=id m_f;obtain ⟨b6,b7,f8,g1,e1,rfl,f9,g0,g2,g3⟩:=id c6;obtain ⟨a4,a5,g4,g7,rfl,g5,g6,c7⟩:=id d8;obtain ⟨b8,b9,g8,h7,rfl,g9,h0,h8⟩:=id c8;refine fr (args:=[_,_]) (N:=58) Tryz.func28 (fun F=>?_);show Run _ _ (c_EqualLinens []) _ _ [(0,_),(1,_)] _ _;refine rnm (rqr ?_);refine sS (sb 2 26 (AH A (vS b0 A.start.length b2) (vS a2 A.keeps.length a3) (vS b4 A.slips.length b5)) (fun b1=>(sS (sb 3 26 (AH B (vS b6 B.start.length b7) (vS a4 B.keeps.length a5) (vS b8 B.slips.length b9)) (fun b3=>(sp 1 [(4,.bool false)] (se (rq (rq ?_)))))))));refine BV (fun a w=>SE 58 [(2,vP b1 0),(3,vP b3 0),(4,.bool false),(34,.bool ((!(cmp .eql A.places B.places))||((!(cmp .eql A.sorts B.sorts))||((!(decide (A.start=B.start)))||(!(cmp .eql (↑(A.keeps.length)) (↑(B.keeps.length))))))))] I ((bX b3 (AH B (vS b6 B.start.length b7) (vS a4 B.keeps.length a5) (vS b8 B.slips.length b9)) 26)::(bX b1 (AH A (vS b0 A.start.length b2) (vS a2 A.keeps.length a3) (vS b4 A.slips.length b5)) 26)::F) a w) ?_ ?_
 ·
  refine rr (sp 1 [(6,vP b1 0)] (sd (dlb 7 1 0 b1 (vI A.places)) (sp 1 [(8,vP b3 0)] (sd (dlb 9 0 0 b3 (vI B.places)) (sp 2 [(11,.bool (!(cmp .eql A.places B.places)))] ?_)))));refine BB 11 rfl (fun h1=>?_) (fun h1=>?_)
  ·
   have a6:=h1;have a6:=BG (BF a6);refine sp 23 [(34,.bool true)] (ee ?_);refine AL (fun a w hS hD hW=>⟨hS.sub (sun 3 (.consE 34 rfl (congrArg Value.bool (by simp only [h1,kk])) (.nil _))),hD,hW⟩)
  have a6:=h1;have a6:=BE (BC a6);refine sp 1 [(12,vP b1 1)] (sd (dlb 13 1 1 b1 (vI A.sorts)) (sp 1 [(14,vP b3 1)] (sd (dlb 15 0 1 b3 (vI B.sorts)) (sp 3 [(18,.bool (!(cmp .eql A.sorts B.sorts)))] ?_))));refine BB 18 rfl (fun h2=>?_) (fun h2=>?_)
  ·
   have a7:=h2;have a7:=BG (BF a7);refine sp 16 [(34,.bool true)] (ee ?_);refine AL (fun a w hS hD hW=>⟨hS.sub (sun 3 (.consE 34 rfl (congrArg Value.bool (by simp only [h1,h2,kk])) (.nil _))),hD,hW⟩)
  have a7:=h2;have a7:=BE (BC a7);refine sp 1 [(19,vP b1 2)] (sd (dlb 20 1 2 b1 (vS b0 A.start.length b2)) (sp 1 [(21,vP b3 2)] (sd (dlb 22 0 2 b3 (vS b6 B.start.length b7)) (sd (dc 23 (fun I' hI=>(QX I' _ _ _ _ (c3.mono hI) (c6.mono hI) :))) (sp 3 [(26,.bool (!(decide (A.start=B.start))))] ?_)))));refine BB 26 rfl (fun h3=>?_) (fun h3=>?_)
  ·
   have a8:=h3;have a8:=OH (BF a8);refine sp 8 [(34,.bool true)] (ee ?_);refine AL (fun a w hS hD hW=>⟨hS.sub (sun 3 (.consE 34 rfl (congrArg Value.bool (by simp only [h1,h2,h3,kk])) (.nil _))),hD,hW⟩)
  have a8:=h3;have a8:=NE (BC a8);refine sp 1 [(27,vP b1 3)] (sd (dlb 28 1 3 b1 (vS a2 A.keeps.length a3)) (sp 2 [(30,vP b3 3),(29,vI (↑(A.keeps.length)))] (sd (dlb 31 0 3 b3 (vS a4 B.keeps.length a5)) (sp 3 [(34,.bool (!(cmp .eql (↑(A.keeps.length)) (↑(B.keeps.length)))))] (ee ?_)))));refine AL (fun a w hS hD hW=>⟨hS.sub (sun 3 (.consE 34 rfl (congrArg Value.bool (by simp only [h1,h2,h3,kk])) (.nil _))),hD,hW⟩)
 rintro a w ⟨hS,hD,hW⟩
 refine AU hS hD hW ?_;refine rc 34 rfl (fun h4=>?_) (fun h4=>?_)
 ·
  have c1:=h4;refine rqr (sp 1 [(4,.bool false)] (se (BD (RP (DL 4 [] rfl (TC _ (TC _ (TR _))) (IR _) ?_)))));exact ⟨congrArg Value.bool ((lin_ne c1).symm),rfl⟩
 have c1:=h4;obtain ⟨c2,c9⟩:=or_f h4;have c2:=BE (BC c2);obtain ⟨a9,c0⟩:=or_f c9;have a9:=BE (BC a9);obtain ⟨a0,a1⟩:=or_f c0;have a0:=NE (BC a0);have a1:=BE (BC a1);refine AM (NX (rq (rq ?_)));have hEk:=c1;refine rr (sp 1 [(5,vI 0)] (se (rb 0 ?_)));refine rl (fun mz a w=>∃ k:Nat,(k≤A.keeps.length)∧(A.keeps.length=B.keeps.length)∧(A.keeps.take k=B.keeps.take k)∧SD 58 [(5,vI ↑k),(2,vP b1 0),(3,vP b3 0)] I ((bX b3 (AH B (vS b6 B.start.length b7) (vS a4 B.keeps.length a5) (vS b8 B.slips.length b9)) 26)::(bX b1 (AH A (vS b0 A.start.length b2) (vS a2 A.keeps.length a3) (vS b4 A.slips.length b5)) 26)::F) a w (mz=A.keeps.length-k)) ?_ ?_
 ·intro a w hS hD hW;exact ⟨_,0,Nat.zero_le _,by omega,rfl,hS.sub su,hD,hW,rfl⟩
 rintro mz a w ⟨k,hk,hl,ht,hS,hD,hW,rfl⟩
 refine AU hS hD hW ?_;refine rq (rqr (sp 2 [(36,vP b1 3),(35,vI ↑k)] (sd (dlb 37 1 3 b1 (vS a2 A.keeps.length a3)) (sp 2 [(39,.bool (cmp .lss ↑k (↑(A.keeps.length))))] (se (rc 39 rfl (fun h5=>?_) (fun h5=>?_)))))))
 ·
  have d0:=h5;have h5:=BX h5;refine AM (NX (rq (rb 1 (rq ?_))));refine rd0 10 (ox 1 [(42,vP b1 3)] ?_);refine AD (dlb 43 1 3 b1 (vS a2 A.keeps.length a3)) (ox 1 [(44,vI ↑k)] ?_);refine AD (di 45 3 k c4.addr) ?_;refine AD (dln 46 45 50 (NG (A.keeps.getD k AN)) rfl (CB (vals:=FS) (fun _=>rfl) c4 k (by omega))) (ox 1 [(47,vP b3 3)] ?_);refine AD (dlb 48 0 3 b3 (vS a4 B.keeps.length a5)) (ox 1 [(49,vI ↑k)] ?_);refine AD (di 50 3 k c7.addr) ?_;refine AD (dln 51 50 50 (NG (B.keeps.getD k AN)) rfl (CB (vals:=FS) (fun _=>rfl) c7 k (by omega))) ?_;refine BA (sd (GQ (L:=[(0,.i .i64),(1,.i .i64),(2,.i .i64)]) (x:=(.tmp 46)) (y:=(.tmp 51)) (T:=50) (T':=50) (d:=52) (ty:=4) (gd:=none) (by kernel_rfl) rfl (by kernel_rfl) rfl rfl rfl (eqKeep (A.keeps.getD k AN) (B.keeps.getD k AN))) (se (rc 52 rfl (fun h6=>?_) (fun h6=>?_))))
  ·
   have d1:=h6;have h6:=OH (BF h6);refine rqr (sp 1 [(4,.bool false)] (se (BD (RB (RP (RP (RB (RP (DL 4 [] rfl (TC _ (TC _ (TR _))) (IR _) ?_)))))))));exact ⟨congrArg Value.bool ((decide_eq_false (fun e=>h6 (by rw [e]))).symm),rfl⟩
  have d1:=h6;have h6:=NE (BC h6);refine AM (NB (NX (rr (sp 1 [(40,vI ↑k)] (sd (da 41 ↑k 1) (sp 1 [(5,vI (↑k+1))] (ee ?_)))))));refine AO (A.keeps.length-(k+1)) (by omega) ?_;intro a w hS hD hW;exact ⟨k+1,by omega,hl,FF (d:=AN) hl ht (by omega) h6,hS.sub su,hD,hW,rfl⟩
 have d0:=h5;have h5:=CF h5;refine BR 0 (EP (EP (EB (NX (rqr (sp 1 [(53,vP b1 4)] (sd (dlb 54 1 4 b1 (vS b4 A.slips.length b5)) (sp 1 [(55,vP b3 4)] (sd (dlb 56 0 4 b3 (vS b8 B.slips.length b9)) (sd (dc 57 (fun I' hI=>(EqualSlips_ct I' _ _ _ _ (c5.mono hI) (c8.mono hI) :))) (sp 1 [(4,.bool (decide (A.slips=B.slips)))] (se (BD (DL 4 [] rfl (TC _ (TC _ (TR _))) (IR _) ?_))))))))))))));exact ⟨congrArg Value.bool (lin_eq hEk hl ht (by omega)),rfl⟩
noncomputable def c_large:=cod Tryz.f15
theorem large_ct (I:Imm) (l:Value) (L:Lin) (l_f:IsLin I l L):Ct Tryz.prog 15 #[l] I ([]) (fun v I' M'=>∃ lg:Bool,v=.bool lg∧M'=[]∧(lg=false→SmallL L)):=by
 obtain ⟨l1,l2,l3,rfl,b8,c1,c3⟩:=id l_f;obtain ⟨a0,a1,c5,c8,c4,rfl,c6,c7,b3,b9⟩:=id b8;obtain ⟨a2,a3,c9,d2,rfl,d0,d1,d3⟩:=id c1;obtain ⟨a4,a5,d4,d7,rfl,d5,d6,d8⟩:=id c3;refine fr (args:=[_]) (N:=38) Tryz.func15 (fun F=>?_);show Run _ _ (c_large []) _ _ [(0,_)] _ _;refine rnm (rqr ?_);refine sS (sb 1 26 (AH L (vS a0 L.start.length a1) (vS a2 L.keeps.length a3) (vS a4 L.slips.length a5)) (fun b1=>(sp 1 [(2,.bool false)] (se (rq (rqr (sp 1 [(3,vI 0)] (se (rb 0 ?_)))))))));refine rl (fun mz a w=>∃ k:Nat,(k≤L.start.length)∧(∀ r∈L.start.take k,r.length≤20)∧SD 38 [(3,vI ↑k),(1,vP b1 0)] I ((bX b1 (AH L (vS a0 L.start.length a1) (vS a2 L.keeps.length a3) (vS a4 L.slips.length a5)) 26)::F) a w (mz=L.start.length-k)) ?_ ?_
 ·intro a w hS hD hW;exact ⟨_,0,Nat.zero_le _,(fun x h=>by simp at h),hS.sub su,hD,hW,rfl⟩
 rintro mz a w ⟨k,hk,ha,hS,hD,hW,rfl⟩
 refine AU hS hD hW ?_;refine rq (rq ?_);refine BV (fun a w=>SE 38 [(1,vP b1 0),(3,vI ↑k),(12,.bool ((cmp .lss ↑k (↑(L.start.length)))&&(cmp .lss ↑k 20)))] I ((bX b1 (AH L (vS a0 L.start.length a1) (vS a2 L.keeps.length a3) (vS a4 L.slips.length a5)) 26)::F) a w) ?_ ?_
 ·
  refine rr (sp 2 [(5,vP b1 2),(4,vI ↑k)] (sd (dlb 6 0 2 b1 (vS a0 L.start.length a1)) (sp 3 [(9,.bool (cmp .lss ↑k (↑(L.start.length))))] ?_)));refine BB 9 rfl (fun h1=>?_) (fun h1=>?_)
  ·
   have a6:=h1;have a6:=BX a6;refine sp 3 [(12,.bool (cmp .lss ↑k 20))] (ee ?_);refine AL (fun a w hS hD hW=>⟨hS.sub (sun 2 (.consE 12 rfl (congrArg Value.bool (by simp only [h1,kk])) (.nil _))),hD,hW⟩)
  have a6:=h1;have a6:=CF a6;refine sp 3 [(12,.bool false)] (ee ?_);refine AL (fun a w hS hD hW=>⟨hS.sub (sun 2 (.consE 12 rfl (congrArg Value.bool (by simp only [h1,kk])) (.nil _))),hD,hW⟩)
 rintro a w ⟨hS,hD,hW⟩
 refine AU hS hD hW ?_;refine rc 12 rfl (fun h2=>?_) (fun h2=>?_)
 ·
  have b2:=h2;obtain ⟨a9,b0⟩:=LQ h2;have a9:=BX a9;have b0:=BX b0;refine AM (NX (rq (rb 1 (rqr (sp 1 [(15,vP b1 2)] (sd (dlb 16 0 2 b1 (vS a0 L.start.length a1)) (sp 1 [(17,vI ↑k)] (sd (di 18 1 k b3.addr) ?_))))))));have b5:=b9 k (by omega);obtain ⟨e0,e2,e1,e5,b4,e3,e4,e6⟩:=id b5;rw [b4] at b5;refine sd (DE (dl 19 (DY b3 k (by omega))) b4) (sp 2 [(21,.bool (cmp .gtr (↑((L.start.getD k []).length)) 20))] (se (rc 21 rfl (fun h3=>?_) (fun h3=>?_))))
  ·
   have b6:=h3;have h3:=JY h3;refine rqr (sp 1 [(2,.bool true)] (se (BD (RB (RP (RP (RB (RP (DL 2 [] rfl (TC _ (TR _)) (IR _) ?_)))))))));exact ⟨true,rfl,rfl,fun hq=>absurd hq (by decide)⟩
  have b6:=h3;have h3:=MB h3;refine AM (NB (NX (rr (sp 1 [(13,vI ↑k)] (sd (da 14 ↑k 1) (sp 1 [(3,vI (↑k+1))] (ee ?_)))))));refine AO (L.start.length-(k+1)) (by omega) ?_;intro a w hS hD hW;exact ⟨k+1,by omega,MS (d:=[]) ha (by omega) (by omega),hS.sub su,hD,hW,rfl⟩
 have b2:=h2;refine BR 0 (EP (EP (EB (NX (rq ?_)))));refine BV (fun a w=>SE 38 [(2,.bool ((cmp .gtr (↑(L.start.length)) 20)||((cmp .gtr (↑(L.keeps.length)) 20)||(cmp .gtr (↑(L.slips.length)) 20))))] I ((bX b1 (AH L (vS a0 L.start.length a1) (vS a2 L.keeps.length a3) (vS a4 L.slips.length a5)) 26)::F) a w) ?_ ?_
 ·
  refine rr (sp 1 [(22,vP b1 2)] (sd (dlb 23 0 2 b1 (vS a0 L.start.length a1)) (sp 3 [(26,.bool (cmp .gtr (↑(L.start.length)) 20))] ?_)));refine BB 26 rfl (fun h4=>?_) (fun h4=>?_)
  ·
   have a7:=h4;have a7:=JY a7;refine sp 12 [(2,.bool true)] (ee ?_);refine AL (fun a w hS hD hW=>⟨hS.sub (.consE 2 rfl (congrArg Value.bool (by simp only [h4,kk])) (.nil _)),hD,hW⟩)
  have a7:=h4;have a7:=MB a7;refine sp 1 [(27,vP b1 3)] (sd (dlb 28 0 3 b1 (vS a2 L.keeps.length a3)) (sp 4 [(32,.bool (cmp .gtr (↑(L.keeps.length)) 20))] ?_));refine BB 32 rfl (fun h5=>?_) (fun h5=>?_)
  ·
   have a8:=h5;have a8:=JY a8;refine sp 6 [(2,.bool true)] (ee ?_);refine AL (fun a w hS hD hW=>⟨hS.sub (.consE 2 rfl (congrArg Value.bool (by simp only [h4,h5,kk])) (.nil _)),hD,hW⟩)
  have a8:=h5;have a8:=MB a8;refine sp 1 [(33,vP b1 4)] (sd (dlb 34 0 4 b1 (vS a4 L.slips.length a5)) (sp 4 [(2,.bool (cmp .gtr (↑(L.slips.length)) 20))] (ee ?_)));refine AL (fun a w hS hD hW=>⟨hS.sub (.consE 2 rfl (congrArg Value.bool (by simp only [h4,h5,kk])) (.nil _)),hD,hW⟩)
 rintro a w ⟨hS,hD,hW⟩
 refine AU hS hD hW ?_;refine BD (DL 2 [] rfl (TC _ (TR _)) (IR _) ?_);exact ⟨_,rfl,rfl,fun hq=>large_end ha b2 hq⟩
noncomputable def c_with:=cod Tryz.f20
theorem with_ct (I:Imm) (l:Value) (L:Lin) (s:Slip) (l_f:IsLin I l L) (hg:GoodL L):Ct Tryz.prog 20 #[l,.agg #[vI s.num,vI s.hour,vI s.kind,vI s.place,vI s.to,vI s.sort,.bool s.soil,vI s.amt]] I ([]) (fun v I' M'=>∃ u:Value,v=u∧M'=[]∧IsLin I' u (IH L s)):=by
 obtain ⟨l1,l2,l3,rfl,c9,d0,d1⟩:=id l_f;obtain ⟨b4,b6,g3,g6,g1,rfl,g4,g5,g7,g8⟩:=id c9;obtain ⟨b7,b8,g9,h2,rfl,h0,h1,h3⟩:=id d0;obtain ⟨b9,c0,h4,h7,rfl,h5,h6,h8⟩:=id d1;refine fr (args:=[_,_]) (N:=14) Tryz.func20 (fun F=>?_);show Run _ _ (c_with []) _ _ [(0,_),(1,_)] _ _;refine rnm ?_;obtain ⟨i9,j0,j1,j2⟩:=hg.fit;have i8:=hg.slips;refine rqr (sS (sb 2 26 (AH L (vS b4 L.start.length b6) (vS b7 L.keeps.length b8) (vS b9 L.slips.length c0)) (fun b1=>(sS (sb 3 28 (AV s) (fun b3=>(sS (sal 4 26 AJ (fun b5=>(sn (sd (dnb 5 2 0 b1 (BQ L (vS b4 L.start.length b6) (vS b7 L.keeps.length b8) (vS b9 L.slips.length c0))) (sS (sc (some 6) (HV _ _ L (BL c9 d0 d1) (by assumption) (by assumption) (by assumption) (by assumption) :) (.refl _) (fun i2 I7 i1 e4 g2=>?_))))))))))))));obtain ⟨i3,i4,i5,c5,c8,c6,d3,d2,d4⟩:=g2;rw [c8,c6];clear c8 c6;have a4:=d3;have a5:=d2;obtain ⟨a0,a1,e9,f2,d5,c2,f0,f1,f3,f4⟩:=id a4;obtain ⟨a2,a3,f5,f8,c3,f6,f7,f9⟩:=id a5;subst c2;subst c3;obtain ⟨a6,a7,rfl,g0⟩:=d4.shape;refine pm (M':=((bX b5 AJ 26)::(bX b3 (AV s) 28)::(bX b1 (AH L (vS b4 L.start.length b6) (vS b7 L.keeps.length b8) (vS b9 L.slips.length c0)) 26)::(c5++F))) (PW (PW PM)) (sS (ss 2 0 b1 (BQ L (vS a0 L.start.length a1) (vS a2 L.keeps.length a3) (vS a6 L.slips.length a7)) (BQ L (vS a0 L.start.length a1) (vS a2 L.keeps.length a3) (vS a6 L.slips.length a7)) (_::_::_::_) (cs:=[_,_,_,_,_]) rfl rfl (sn (sp 1 [(7,vP b1 4)] (sd (dlb 8 2 4 b1 (vS a6 L.slips.length a7)) (sd (dnb 9 1 0 b3 (EU s)) (sS (sbs 10 28 1 (AV s) (fun i7=>(sS (sap (d:=11) 8 10 24 28 8 64 (.agg IQ) AX L.slips [s] c5 rfl rfl d4 (PU (PU (PU PM.symm))) (CD _) (DI 0 rfl rfl) (fun j3 d6 c7=>(AZ (M':=((bX b5 AJ 26)::(bX b3 (AV s) 28)::(bX b1 (AH L (vS a0 L.start.length a1) (vS a2 L.keeps.length a3) (vS a6 L.slips.length a7)) 26)::(d6++F))) (fun w h=>(h.perm (PW (PW (PW PM)))).sub (TC _ (TR _))) ?_)))))))))))));obtain ⟨a8,a9,rfl,i0⟩:=c7.shape;refine sp 1 [(12,vP b1 4)] (sS (ss 2 4 b1 [vS a8 (L.slips++([s])).length a9] (BQ L (vS a0 L.start.length a1) (vS a2 L.keeps.length a3) (vS a8 (L.slips++([s])).length a9)) (_::_::_::_) (cs:=[_,_,_,_,_]) rfl rfl (se (rq ?_))));refine CN (B:=((bX b5 AJ 26)::(bX b3 (AV s) 28)::(bX b1 (AH L (vS a0 L.start.length a1) (vS a2 L.keeps.length a3) (vS a8 (L.slips++([s])).length a9)) 26)::F)) AB c7 (by first | omega | (simp only [LS,LC,LN,LA,LK,LD] <;> omega) | decide) (PU (PU PM.symm)) (PR _) (fun i6 b2 b0=>?_);replace a4:=a4.mono b2;replace a5:=a5.mono b2;obtain ⟨d7,d9,d8,e2,c1,e0,e1,e3⟩:=id b0;cases c1;refine rr (sd (dnb 13 2 0 b1 (BQ L (vS a0 L.start.length a1) (vS a2 L.keeps.length a3) (vS a8 (L.slips++([s])).length a9))) (sS (ss 0 0 b5 (BQ L (vS a0 L.start.length a1) (vS a2 L.keeps.length a3) (vS a8 (L.slips++([s])).length a9)) (BQ L (vS a0 L.start.length a1) (vS a2 L.keeps.length a3) (vS a8 (L.slips++([s])).length a9)) (_::_::_::_) (cs:=[_,_,_,_,_]) rfl rfl (se (BD (ES (t:=4) (T:=26) (n:=5) [] (by kernel_rfl) rfl (by kernel_rfl) rfl (BN (n:=5) (cs:=(AH L (vS a0 L.start.length a1) (vS a2 L.keeps.length a3) (vS a8 (L.slips++([s])).length a9))) (b:=b5) (off:=0) (T:=26) (fz:=(0,0)) (vs:=(BQ L (vS a0 L.start.length a1) (vS a2 L.keeps.length a3) (vS a8 (L.slips++([s])).length a9))) (by simp) rfl) (.inl ⟨by kernel_rfl,rfl⟩) (TC _ (TC _ (TC _ (TR _)))) (IT e4 b2) ?_))))));exact ⟨_,rfl,rfl,(BL a4 a5 b0)⟩
end Go.Proofs.YtgcemienebmdeaaGreat
namespace Go.Sh
open Go Go.Sl
def gAt (cs:List Car) (i:Nat):Int:=(cs.getD i noCar).grp
structure CarsInv (cs:List Car) (g l:Int):Prop where
  ok:∀ c∈cs,carErr c=0∧c.len≤3
  le:∀ i,i<cs.length→gAt cs i≤g
  run:∀ i j,i≤j→j<cs.length→gAt cs i=gAt cs j→gAt cs i≠0→∀ m,i≤m→m≤j→gAt cs m=gAt cs i
  g0:0≤g∧g≤3
  l0:0≤l∧l≤2
  last:0<l→1≤g∧(0<cs.length→gAt cs (cs.length-1)=g∨∀ i,i<cs.length→gAt cs i<g)
theorem CarsInv.nil:CarsInv [] 0 0:=⟨fun c h=>by simp at h,fun i h=>by simp at h,fun i j _ h=>by simp at h,by omega,by omega,fun h=>by omega⟩
structure Placed (cs:List Car) (T k a:Nat) (ts:List (List Int)):Prop where
  len:ts.length=T
  a0:a<T
  perm:ts.flatten.Perm (EH k)
  ex:∃ tr:Nat→Nat,(∀ i,i<T→ts.getD i []=(EH k).filter fun c=>decide (tr c.toNat=i))∧(∀ c,c<k→tr c<T)∧(∀ c,c+1<k→gAt cs (c+1)≠0→gAt cs (c+1)=gAt cs c→tr (c+1)=tr c)∧(0<k→tr (k-1)=a)
theorem mem_wholeL {n:Nat} {c:Int}:c∈EH n↔0≤c∧c<n:=by
  unfold EH;simp only [List.mem_map,List.mem_range]
  constructor
  · rintro ⟨i,hi,rfl⟩;omega
  · intro h;exact ⟨c.toNat,by omega,by omega⟩
theorem sorted_prev {l:List Int} (hs:l.Pairwise (·<·)) {j:Nat} (hj:j<l.length) (hm:l.getD j 0-1∈l):0<j∧l.getD (j-1) 0=l.getD j 0-1:=by
  obtain ⟨m,hm1,hm2⟩:=List.mem_iff_getElem.1 hm;have hlt:∀ (x y:Nat) (hx:x<l.length) (hy:y<l.length),x<y→l.getD x 0<l.getD y 0:=fun x y hx hy h=>by
    have:=List.pairwise_iff_getElem.1 hs x y hx hy h
    simpa [List.getD,hx,hy] using this
  have e:l.getD m 0=l.getD j 0-1:=by simpa [List.getD,hm1] using hm2
  have h1:m<j:=by
    rcases Nat.lt_trichotomy m j with h | h | h
    · exact h
    · subst h;omega
    · have:=hlt j m hj hm1 h;omega
  rcases Nat.lt_or_ge m (j-1) with h2 | h2
  · have a:=hlt m (j-1) hm1 (by omega) h2
    have b:=hlt (j-1) j (by omega) hj (by omega);omega
  · have:m=j-1:=by omega
    subst this;exact ⟨by omega,e⟩
theorem wholeL_sorted (n:Nat):(EH n).Pairwise (·<·):=by
  unfold EH;rw [List.pairwise_map];exact List.pairwise_lt_range.imp fun h=>by omega
theorem Placed.groups {cs:List Car} {T a:Nat} {ts:List (List Int)} {g l:Int} (h:Placed cs T cs.length a ts) (hc:CarsInv cs g l):GrpFrom cs ts []:=by
  obtain ⟨tr,t1,t2,t3,t4⟩:=h.ex;have hmem:∀ i,i<T→∀ c,c∈ts.getD i []↔(0≤c∧c<cs.length)∧tr c.toNat=i:=fun i hi c=>by
    rw [t1 i hi,List.mem_filter,mem_wholeL,decide_eq_true_eq]
  have hgrp:∀ c:Int,grp cs c=gAt cs c.toNat:=fun c=>rfl
  have hrun:∀ n x:Nat,x+n<cs.length→gAt cs x≠0→gAt cs x=gAt cs (x+n)→tr (x+n)=tr x:=by
    intro n
    induction n with
    | zero=>intro x _ _ _;rfl
    | succ n ih=>
      intro x hx h0 e;have e1:gAt cs (x+n)=gAt cs x:=hc.run x (x+(n+1)) (by omega) hx e h0 (x+n) (by omega) (by omega);have:=ih x (by omega) h0 e1.symm;rw [← this];exact t3 (x+n) (by omega) (by rw [show x+n+1=x+(n+1) by omega,← e];exact h0) (by rw [show x+n+1=x+(n+1) by omega,← e,e1])
  have hrun2:∀ x y:Nat,x<cs.length→y<cs.length→gAt cs x≠0→gAt cs x=gAt cs y→tr x=tr y:=fun x y hx hy h0 e=>by
    rcases Nat.le_total x y with hxy | hxy
    · have:=hrun (y-x) x (by omega) h0 (by rw [show x+(y-x)=y by omega];exact e)
      rw [show x+(y-x)=y by omega] at this;exact this.symm
    · have:=hrun (x-y) y (by omega) (by rw [← e];exact h0) (by rw [show y+(x-y)=x by omega];exact e.symm)
      rw [show y+(x-y)=x by omega] at this;exact this
  intro i j hi hj h0 hm;rw [h.len] at hi;have hcm:(ts.getD i []).getD j 0∈ts.getD i []:=BJ hj;obtain ⟨⟨c0,c1⟩,c2⟩:=(hmem i hi _).1 hcm
  generalize hcc:(ts.getD i []).getD j 0=c at hcm c0 c1 c2 h0 hm
  rcases hm with hm | ⟨c',hc',e⟩
  · simp at hm
  · rw [hgrp,hgrp] at e
    rw [hgrp] at h0;have hs:(ts.getD i []).Pairwise (·<·):=by rw [t1 i hi];exact (wholeL_sorted _).sublist List.filter_sublist
    have hc2:(0≤c'∧c'<cs.length)∧(tr c'.toNat<i∨c'∈(ts.getD i []).take j):=by
      rcases List.mem_append.1 hc' with hx | hx
      · obtain ⟨t,ht,hx⟩:=List.mem_flatten.1 hx
        obtain ⟨m,hm1,hm2⟩:=List.mem_iff_getElem.1 ht;have hm3:m<i∧m<ts.length:=by rw [List.length_take] at hm1;omega
        have e3:ts.getD m []=t:=by rw [← hm2];simp [List.getD,hm3.2]
        rw [← e3] at hx;obtain ⟨hb,ht2⟩:=(hmem m (by rw [← h.len];exact hm3.2) _).1 hx;exact ⟨hb,.inl (by omega)⟩
      · exact ⟨((hmem i hi _).1 (List.mem_of_mem_take hx)).1,.inr hx⟩
    obtain ⟨⟨d0,d1⟩,hd⟩:=hc2;have htr:=hrun2 c.toNat c'.toNat (by omega) (by omega) (by omega) e.symm;rcases hd with hd | hd
    · omega
    · obtain ⟨m,hm1,hm2⟩:=List.mem_iff_getElem.1 hd
      have hm3:m<j∧m<(ts.getD i []).length:=by rw [List.length_take] at hm1;omega
      have hlt:c'<c:=by
        have h1:=List.pairwise_iff_getElem.1 hs m j hm3.2 hj hm3.1;have e1:c'=(ts.getD i [])[m]:=by rw [← hm2];simp
        have e2:c=(ts.getD i [])[j]:=by rw [← hcc,List.getD,List.getElem?_eq_getElem hj];rfl
        rw [e1,e2];exact h1
      have e4:gAt cs (c.toNat-1)=gAt cs c'.toNat:=hc.run c'.toNat c.toNat (by omega) (by omega) e (by omega) (c.toNat-1) (by omega) (by omega);have e5:tr (c.toNat-1)=i:=by
        have:=hrun2 (c.toNat-1) c.toNat (by omega) (by omega) (by omega) (by omega);omega
      have hin:c-1∈ts.getD i []:=(hmem i hi _).2 ⟨by omega,by rw [show (c-1).toNat=c.toNat-1 by omega];exact e5⟩;have hp:=sorted_prev hs hj (by rw [hcc];exact hin);rw [hcc] at hp;unfold NS;have e6:((j:Int)-1).toNat=j-1:=by omega
      rw [show (↑j:Int).toNat=j by omega,e6,hp.2,hcc];have e7:inB ↑j 1 (↑(ts.getD i []).length-1)=true:=by simp only [inB,Bool.and_eq_true,decide_eq_true_eq];omega
      rw [e7];have e8:(carAt cs c).grp=(carAt cs (c-1)).grp:=by
        show gAt cs c.toNat=gAt cs (c-1).toNat;rw [show (c-1).toNat=c.toNat-1 by omega];omega
      rw [decide_eq_true (show 0<(carAt cs c).grp from h0),decide_eq_true e8];rfl
structure Roomy (cs:List Car) (ts:List (List Int)) (k:Nat) (rm:List Int):Prop where
  len:rm.length=k
  ok:∀ n∈rm,0≤n∧n≤20
  fits:∀ i,i<k→lenOf cs (ts.getD i [])≤rm.getD i 0
theorem Roomy.nil (cs:List Car) (ts:List (List Int)):Roomy cs ts 0 []:=⟨rfl,fun n h=>by simp at h,fun i h=>by omega⟩
theorem Placed.tracks {cs:List Car} {T k a:Nat} {ts:List (List Int)} (h:Placed cs T k a ts):ts.flatten.length=k:=by rw [h.perm.length_eq,EZ]
structure Blk (cs:List Car) (bl:List (List Int)):Prop where
  one:∀ b∈bl,∀ x∈b,∀ y∈b,grp cs x=grp cs y
  apart:bl.Pairwise fun b c=>∀ x∈b,∀ y∈c,0<grp cs x→grp cs x≠grp cs y
theorem Blk.perm {cs:List Car} {bl bl':List (List Int)} (h:Blk cs bl) (p:bl.Perm bl'):Blk cs bl':=
  ⟨fun b hb=>h.one b (p.mem_iff.2 hb),(p.pairwise_iff (fun {b c} hbc x hx y hy h0 e=>hbc y hy x hx (by omega) e.symm)).1 h.apart⟩
def stepL (Y:Yard) (leave:List Int) (least:Int) (o:List Int):Int:=
  if lastP leave o=true then (if (fewestE Y o).2=0∧(least<0∨((fewestE Y o).1.length:Int)<least) then ((fewestE Y o).1.length:Int) else least) else least
section
variable {Y:Yard} {k:Nat}
end
section
variable {Y:Yard} {s:Shift} {k:Nat}
end
section
variable {Y:Yard} {goal:Yard→Bool} {d k:Nat} {ds:List Shift}
end
theorem deal_put {n k:Nat} (hk:k<n):(EH k++List.replicate (n-k) (0:Int)).set k (k:Int)=EH (k+1)++List.replicate (n-(k+1)) 0:=by
  rw [List.set_append_right _ _ (by rw [EZ];omega),EZ,Nat.sub_self,show n-k=(n-(k+1))+1 by omega,List.replicate_succ,List.set_cons_zero,wholeL_succ];simp
theorem swap_perm {l:List Int} {i j:Nat} (hi:i<l.length) (hj:j<l.length):((l.set i (l.getD j 0)).set j (l.getD i 0)).Perm l:=by
  have e1:l.getD i 0=l[i]:=by simp [List.getD,hi]
  have e2:l.getD j 0=l[j]:=by simp [List.getD,hj]
  rw [e1,e2];exact List.set_set_perm hi hj
end Go.Sh
namespace Go.Sl
open Go
theorem own_val_int {E:TypeId} {v:Value} {M:Seg} {vs:List Value} {ys:List Int} (h:Own E 1 CX v vs M) (he:vs=ys.map fun n=>Value.int .i64 n):Own E 1 AQ v ys M:=by
  have e1:CW 1 CX vs=CW 1 AQ ys:=by
    rw [he,encL_vals];simp only [CW,AQ,List.range_one,List.map_cons,List.map_nil];exact List.map_eq_flatMap
  have e2:vs.length=ys.length:=by rw [he,List.length_map]
  rcases h with ⟨hv,hx,hM⟩ | ⟨b,c,sp,hv,hc,hM,hl⟩
  · refine .inl ⟨hv,?_,hM⟩
    rw [hx] at e2;exact List.length_eq_zero_iff.1 e2.symm
  · exact .inr ⟨b,c,sp,by rw [hv,e2],by rw [← e2];exact hc,by rw [← e1];exact hM,by rw [← e1];exact hl⟩
end Go.Sl
namespace Go.Sh
open Go Go.Sl
def yvD:Value × Value × Value:=(undef,undef,undef)
def YardsV (I:Imm) (xs:List (Value × Value × Value)) (Ys:List Yard):Prop:=xs.length=Ys.length∧∀ i,i<xs.length→IsYard I (.agg #[(xs.getD i yvD).1,(xs.getD i yvD).2.1,(xs.getD i yvD).2.2]) (Ys.getD i noYard)
theorem YardsV.nil (I:Imm):YardsV I [] []:=⟨rfl,fun i hi=>by simp at hi⟩
theorem YardsV.at {I : Imm} {xs : List (Value × Value × Value)} {Ys : List Yard} (h : YardsV I xs Ys) {i : Nat} (hi : i < xs.length) :
    ∃ a b c,xs.getD i yvD=(a,b,c)∧IsCars I a (Ys.getD i noYard).cars∧CK I b (Ys.getD i noYard).room∧IsRows I c (Ys.getD i noYard).tracks:=by
  obtain ⟨v1,v2,v3,h1,h2,h3,h4⟩:=h.2 i hi;simp only [Value.agg.injEq] at h1;have e:=congrArg Array.toList h1;simp only [List.cons.injEq,and_true] at e;refine ⟨v1,v2,v3,?_,h2,h3,h4⟩;rw [← e.1,← e.2.1,← e.2.2]
def RowsS (I:Imm) (vs:List Value) (Ls:List (List Shift)):Prop:=vs.length=Ls.length∧∀ i,i<Ls.length→IsShifts I (vs.getD i undef) (Ls.getD i [])
theorem RowsS.nil (I:Imm):RowsS I [] []:=⟨rfl,fun i hi=>by simp at hi⟩
end Go.Sh
namespace Go.Sl
open Go
end Go.Sl
namespace Go.Sh
open Go Go.Sl
end Go.Sh
namespace Go.Sl
open Go
section
variable {P:Program} [Jud P] {N:Nat} {ops:Array Oper} {i d:Nat} {l:Sl} {I:Imm} {R:Seg} {ty:TypeId} {gd:Option (Nat × Bool)}
theorem det_remT {x y : Operand} {T T' : TypeId} {k : IntKind} {a b : Int} (hop : FJ ops N i = some (some d, .binOp .rem T x y T', ty, gd)) (hg : FH ops l gd = some true)
    (hx:CE l x=some (.int k a)) (hy:CE l y=some (.int k b)) (hb:1≤b):Det P N ops i l I R d (.int k (a.tmod b)):=
  det_bin hop hg hx hy fun I' M'=>by
    have hne:b≠0:=by omega
    simp only [binOp,Op.intDiv,ne_eq,not_true_eq_false,if_false,if_neg hne];exact ⟨rfl,rfl⟩
end
theorem tmod_bounds {x:Int} {n:Nat} (hn:2≤n):-(n:Int)<x.tmod n∧x.tmod n<n:=
  ⟨by have:=Int.lt_tmod_of_pos x (show (0:Int)<n by omega);omega,Int.tmod_lt_of_pos x (by omega)⟩
theorem fold_nat {x:Int} {n:Nat} (hn:2≤n):∃ r:Nat,(x.tmod n+n)%(n:Int)=↑r∧r<n:=by
  have h1:=Int.emod_nonneg (x.tmod n+n) (show (n:Int)≠0 by omega);have h2:=Int.emod_lt_of_pos (x.tmod n+n) (show (0:Int)<n by omega);exact ⟨((x.tmod n+n)%(n:Int)).toNat,by omega,by omega⟩
end Go.Sl
namespace Go.Sh
open Go Go.Sl
end Go.Sh
namespace Go.Proofs.YtgcemienebmdeaaGreat
open Go Go.Sl Go.Sh
set_option maxRecDepth 100000
noncomputable def c_Deal:=cod Tryz.f53
theorem Deal_ct (I:Imm) (p:Nat) (p_s:Int) (n:Nat) (hn:n≤1000):Ct Tryz.prog 53 #[vP p 0,vI ↑n] I ([(bX p #[.int .u64 p_s] 91)]) (fun v I' M'=>∃ p_t:Int,∃ l:List Int,∃ u:Value,∃ Ms:Seg,v=u∧M'=[(bX p #[.int .u64 p_t] 91)]++(Ms)∧(l.Perm (EH n))∧Own 3 1 AQ u l Ms):=by
 refine fr (args:=[_,_]) (N:=45) Tryz.func53 (fun F=>?_);show Run _ _ (c_Deal []) _ _ [(0,_),(1,_)] _ _;refine rnm (rqr ?_);refine sp 1 [(4,vN)] (sn (sp 2 [(10,vI (if (↑n:Int)<(0:Int) then 0 else ↑n))] (EE 10 rfl (show (vI (if (↑n:Int)<(0:Int) then 0 else ↑n):Value)=vI ↑n from congrArg (Value.int .i64) (by split <;> omega)) (sS (LF (d:=11) (x:=(.tmp 10)) (T:=29) (E:=3) (bs:=8) (n:=n) (z:=vI 0) (zv:=vI 0) (ty:=29) (gd:=none) (by kernel_rfl) rfl (by kernel_rfl) (by kernel_rfl) (by kernel_rfl) rfl (by kernel_rfl) (by decide) rfl (by omega) (fun b1=>?_))))));have d5:Own 3 1 CX (vS (some ⟨b1,0,none⟩) n n) (List.replicate n (vI 0)) [(b1,Obj.cells (List.replicate n (vI 0)).toArray 3 (0,0))]:=Own.made _;obtain ⟨mS4,hmS4⟩:∃ X:Seg,X=[(b1,Obj.cells (List.replicate n (vI 0)).toArray 3 (0,0))]:=⟨_,rfl⟩;rw [← hmS4] at d5;refine AZ (I':=I) (M':=(mS4++(bX p #[.int .u64 p_s] 91)::F)) (fun w h=>by rw [hmS4];exact h) (pm (M':=((bX p #[.int .u64 p_s] 91)::(mS4++F))) PM ?_);have d1:=own_val_int (ys:=List.replicate n (0:Int)) d5 (by rw [List.map_replicate]);refine sp 1 [(5,vS (some ⟨b1,0,none⟩) n n)] (se (rq (rqr (sp 1 [(6,vI 0)] (se (rb 0 ?_))))));refine rl (fun mz a w=>∃ k:Nat,∃ b2:Value,∃ a7:Seg,(k≤n)∧(Own 3 1 AQ b2 (EH k++List.replicate (n-k) (0:Int)) a7)∧SD 45 [(5,b2),(6,vI ↑k),(0,vP p 0),(1,vI ↑n),(4,vN)] I ((bX p #[.int .u64 p_s] 91)::(a7++F)) a w (mz=n-k)) ?_ ?_
 ·intro a w hS hD hW;exact ⟨_,0,vS (some ⟨b1,0,none⟩) n n,mS4,Nat.zero_le _,(show Own _ _ _ _ (EH 0++List.replicate (n-0) (0:Int)) _ from d1),hS.sub su,hD,hW,rfl⟩
 rintro mz a w ⟨k,b2,a7,hk,a8,hS,hD,hW,rfl⟩
 refine AU hS hD hW ?_;obtain ⟨a5,a6,rfl,c6⟩:=a8.shape;have d7:=EZ k;have e6:(EH k++List.replicate (n-k) (0:Int)).length=n:=by rw [LA,d7,List.length_replicate];omega
 refine rq (rqr (sp 3 [(14,.bool (cmp .lss ↑k ↑n))] (se (rc 14 rfl (fun h1=>?_) (fun h1=>?_)))))
 ·
  have c8:=h1;have h1:=BX h1;refine AM (NX (rq (rb 1 (rr (sp 3 [(19,vI ↑k),(18,vI ↑k),(17,vS a5 (EH k++List.replicate (n-k) (0:Int)).length a6)] ?_)))));obtain ⟨e7,c5⟩:=a8.row 0;refine sd (di 20 1 k c5.addr) (sS (BO (T:=3) (x:=(.tmp 20)) (y:=(.tmp 19)) (rc:=fun i f=>AQ ((EH k++List.replicate (n-k) (0:Int)).getD i 0) f) 0 k 0 ↑k (ty:=0) (gd:=none) (by kernel_rfl) rfl a8 c5 (by omega) (by decide) rfl rfl (by kernel_rfl) rfl rfl (by intro f hf;match f,hf with | 0,_=>rfl) PM.symm (fun d4 d6=>(pm (M':=((bX p #[.int .u64 p_s] 91)::(d4++F))) PM (ee (NB (NX (rr (sp 1 [(15,vI ↑k)] (sd (da 16 ↑k 1) (sp 1 [(6,vI (↑k+1))] (ee ?_))))))))))));refine AO (n-(k+1)) (by omega) ?_;intro a w hS hD hW;exact ⟨k+1,vS a5 (EH k++List.replicate (n-k) (0:Int)).length a6,d4,by omega,(by rw [← deal_put (by omega)];exact d6),hS.sub su,hD,hW,rfl⟩
 have c8:=h1;have h1:=CF h1;refine BR 0 (EP (EP (EB (NX (rq (rqr (sp 1 [(21,vI ↑n)] (sd (dsb 22 ↑n 1) (sp 1 [(7,vI (↑n-1))] (se (rb 2 ?_)))))))))));refine rl (fun mz a w=>∃ J1:Imm,∃ k:Nat,∃ zs:List Int,∃ s:Int,∃ b3:Value,∃ a2:Seg,(I.le J1)∧(k≤n)∧(zs.Perm (EH n))∧(Own 3 1 AQ b3 zs a2)∧SD 45 [(5,b3),(7,vI (↑k-1)),(0,vP p 0),(4,vN)] J1 ((bX p #[.int .u64 s] 91)::(a2++F)) a w (mz=k+1)) ?_ ?_
 ·intro a w hS hD hW;exact ⟨_,I,n,(EH n),p_s,vS a5 (EH k++List.replicate (n-k) (0:Int)).length a6,a7,IR _,Nat.le_refl _,PR _,((show (EH k++List.replicate (n-k) (0:Int))=EH n from by rw [show k=n by omega,Nat.sub_self,List.replicate_zero,List.append_nil])▸a8),hS.sub su,hD,hW,rfl⟩
 rintro mz a w ⟨J1,k,zs,s,b3,a2,hJ1,hk,d3,a3,hS,hD,hW,rfl⟩
 refine AU hS hD hW ?_;obtain ⟨a0,a1,rfl,c7⟩:=a3.shape;have d8:=d3.length_eq;rw [EZ] at d8;refine rq (rqr (sp 2 [(24,.bool (cmp .gtr (↑k-1) 0))] (se (rc 24 rfl (fun h2=>?_) (fun h2=>?_)))))
 ·
  have c9:=h2;have h2:=JY h2;refine AM (NX (rq (rb 3 (rqr (sp 2 [(28,vI (↑k-1)),(27,vP p 0)] (sS (sc (some 29) (F:=(a2++F)) (PZ _ p s (↑k-1) (by omega) :) (.refl _) (fun e5 I9 e4 c1 d2=>?_))))))));obtain ⟨a4,a9,c4,c2,e3⟩:=d2;rw [c4,c2];clear c4 c2;refine nm ?_;refine sp 1 [(8,vI ↑a9)] (se ?_);refine rdX (M:=((bX p #[.int .u64 a4] 91)::(a2++[]))) (F0:=F) [] 14 [(0,true),(1,true),(2,true),(3,true),(4,true),(5,true),(6,true),(7,true),(8,true),(9,true),(10,true),(11,true),(12,true),(13,false)] (by simp only [AA,CA,NA,List.append_nil];exact PR _) FV ?_;refine AF (dpv 30 (vS a0 zs.length a1)) ?_;refine AF (dpv 31 (vI (↑k-1))) ?_;refine AY (dpv 32 (vS a0 zs.length a1)) ?_;refine AY (dpv 33 (vI ↑a9)) ?_;refine AF (dpv 34 (vS a0 zs.length a1)) ?_;refine AF (dpv 35 (vI ↑a9)) ?_;obtain ⟨d9,b6⟩:=a3.row 0;refine AF (di 36 1 a9 b6.addr) ?_;refine AF (dl 37 (b6.get a9 (by omega) 0 (by decide) _ _ (fun x hx=>by simp [hx]))) ?_;refine AF (dpv 38 (vS a0 zs.length a1)) ?_;refine AF (dpv 39 (vI (↑k-1))) ?_;obtain ⟨e0,b7⟩:=a3.row 0;refine AF (diI 40 1 (↑k-1) b7.addr) ?_;refine AF (dl 41 (b7.get ((↑k-1:Int).toNat) (by omega) 0 (by decide) _ _ (fun x hx=>by simp [hx]))) ?_;obtain ⟨e1,b8⟩:=a3.row 0;refine AF (diI 42 1 (↑k-1) b8.addr) ?_;refine CI (Mx:=fun FX=>((bX p #[.int .u64 a4] 91)::(a2++FX))) rfl (fun FX=>by simp only [AA,CA,NA,List.append_nil];exact PR _) (fun FX=>?_);refine id (BO (T:=3) (x:=(.tmp 42)) (y:=(.tmp 37)) (rc:=fun i f=>AQ ((zs).getD i 0) f) 0 ((↑k-1:Int).toNat) 0 (zs.getD a9 0) (ty:=0) (gd:=none) (by kernel_rfl) rfl a3 b8 (by omega) (by decide) rfl rfl (by kernel_rfl) rfl rfl (by intro f hf;match f,hf with | 0,_=>rfl) PM.symm (fun b9 c3=>?_));refine DV (M1:=((bX p #[.int .u64 a4] 91)::(b9++[]))) (by simp only [AA,CA,NA,List.append_nil];exact PM) (.wt (.wt (.wt (.wt (.wt (.wt (.wt (.wt (.wt (.none (.none (.wt (.wt .nil))))))))))))) ?_;refine ER (AZ (M':=((bX p #[.int .u64 a4] 91)::(b9++F))) (fun w h=>by simpa only [AA,CA,NA,List.append_nil] using h) (nm ?_));obtain ⟨e2,b0⟩:=c3.row 0;simp only [LS] at b0;refine sd (di 43 1 a9 (fun _=>b0.addr (by omega)) (n:=zs.length)) (sS (BO (T:=3) (x:=(.tmp 43)) (y:=(.tmp 41)) (rc:=fun i f=>AQ ((zs.set ((↑k-1:Int).toNat) (zs.getD a9 0)).getD i 0) f) 0 a9 0 (zs.getD ((↑k-1:Int).toNat) 0) (ty:=0) (gd:=none) (by kernel_rfl) rfl c3 (by simpa only [LS] using b0) (by simp only [LS];omega) (by decide) rfl rfl (by kernel_rfl) rfl rfl (by intro f hf;match f,hf with | 0,_=>rfl) PM.symm (fun c0 d0=>(pm (M':=((bX p #[.int .u64 a4] 91)::(c0++F))) PM (ee (NB (NX (rr (sp 1 [(25,vI (↑k-1))] (sd (dsb 26 (↑k-1) 1) (sp 1 [(7,vI ((↑k-1)-1))] (ee ?_))))))))))));refine AO (k-1+1) (by omega) ?_;intro a w hS hD hW;exact ⟨I9,k-1,(zs.set ((↑k-1:Int).toNat) (zs.getD a9 0)).set a9 (zs.getD ((↑k-1:Int).toNat) 0),a4,vS a0 zs.length a1,c0,(IT hJ1 c1),by omega,(swap_perm (by omega) (by omega)).trans d3,d0,hS.sub (.consE 5 rfl rfl (.consE 7 rfl (congrArg (Value.int .i64) (by omega)) su)),hD,hW,rfl⟩
 have c9:=h2;have h2:=MB h2;refine BR 2 (EP (EP (EB (NX (rqr (sp 2 [(4,vS a0 zs.length a1)] (se (BD (DL 4 ([(bX p #[.int .u64 s] 91)]++(a2)) rfl (by simp only [AA,NA,CA];exact (TK _ (TA (TR _) _))) hJ1 ?_)))))))));exact ⟨_,_,_,_,rfl,rfl,d3,a3⟩
noncomputable def c_Shuffled:=cod Tryz.f18
theorem Shuffled_ct (I:Imm) (p:Nat) (p_s:Int) (l:Value) (L:Lin) (l_f:IsLin I l L) (hg:GoodL L):Ct Tryz.prog 18 #[vP p 0,l] I ([(bX p #[.int .u64 p_s] 91)]) (fun v I' M'=>∃ p_t:Int,∃ B:Lin,∃ u:Value,v=u∧M'=[(bX p #[.int .u64 p_t] 91)]∧(SameB L B)∧IsLin I' u B):=by
 obtain ⟨l1,l2,l3,rfl,c4,c5,c6⟩:=id l_f;obtain ⟨a9,b0,j2,j5,i8,rfl,j3,j4,j6,j7⟩:=id c4;obtain ⟨b2,b4,j8,k1,rfl,j9,k0,k2⟩:=id c5;obtain ⟨a6,a7,k3,k6,rfl,k4,k5,c2⟩:=id c6;refine fr (args:=[_,_]) (N:=34) Tryz.func18 (fun F=>?_);show Run _ _ (c_Shuffled []) _ _ [(0,_),(1,_)] _ _;refine rnm ?_;have m2:L.start.length≤1000000:=by have h1:=hg.start;have h2:=hg.places;omega
 have m3:∀ x∈L.start,x.length≤1000000:=fun x hx=>by have h1:=hg.rows x hx;have h2:=hg.sorts;omega
 have m4:L.keeps.length≤1000000:=by have h1:=hg.keeps;omega
 have m5:L.slips.length≤1000000:=by have h1:=hg.slips;omega
 have m1:=hg.slips;refine rqr (sS (sb 3 26 (AH L (vS a9 L.start.length b0) (vS b2 L.keeps.length b4) (vS a6 L.slips.length a7)) (fun b1=>(sS (sal 4 26 AJ (fun b3=>(sn (sp 2 [(9,vP b1 4),(8,vP p 0)] (sd (dlb 10 1 4 b1 (vS a6 L.slips.length a7)) (sp 1 [(11,vI (↑(L.slips.length)))] (sS (sc (some 12) (F:=((bX b3 AJ 26)::(bX b1 (AH L (vS a9 L.start.length b0) (vS b2 L.keeps.length b4) (vS a6 L.slips.length a7)) 26)::F)) (Deal_ct _ p p_s L.slips.length (by omega) :) ((PC _ (PS _ _ _)).trans (PS _ _ _)) (fun l4 I5 k9 d0 j1=>?_)))))))))))));obtain ⟨a8,b8,m9,e0,i7,i6,h3,e7⟩:=j1;rw [i7,i6];clear i7 i6;replace c4:=c4.mono d0;replace c5:=c5.mono d0;replace c6:=c6.mono d0;replace c2:=c2.mono d0;obtain ⟨d1,d2,rfl,i9⟩:=e7.shape;refine AZ (M':=((bX p #[.int .u64 a8] 91)::(e0++(bX b3 AJ 26)::(bX b1 (AH L (vS a9 L.start.length b0) (vS b2 L.keeps.length b4) (vS a6 L.slips.length a7)) 26)::F))) (fun w h=>by simpa only [AA,CA,NA] using h) (pm (M':=((bX p #[.int .u64 a8] 91)::(bX b3 AJ 26)::(bX b1 (AH L (vS a9 L.start.length b0) (vS b2 L.keeps.length b4) (vS a6 L.slips.length a7)) 26)::(e0++F))) (PC _ (PW PM)) ?_);have f0:=h3;have m6:=pick_len f0;refine sfz (A:=((bX p #[.int .u64 a8] 91)::(bX b3 AJ 26)::(bX b1 (AH L (vS a9 L.start.length b0) (vS b2 L.keeps.length b4) (vS a6 L.slips.length a7)) 26)::F)) 0 e7 (PU (PU PM.symm)) (fun l9 c1 d6=>?_);replace c4:=c4.mono c1;replace c5:=c5.mono c1;replace c6:=c6.mono c1;replace c2:=c2.mono c1;obtain ⟨f2,f4,f3,f7,d5,f5,f6,b7⟩:=id d6;cases d5;refine sp 1 [(5,vS d1 b8.length d2)] (sn (sd (dnb 13 2 0 b1 (BQ L (vS a9 L.start.length b0) (vS b2 L.keeps.length b4) (vS a6 L.slips.length a7))) (sS (sc (some 14) (HV _ _ L (BL c4 c5 c6) (by assumption) (by assumption) (by assumption) (by assumption) :) (.refl _) (fun l5 j0 l0 c8 g7=>?_)))));obtain ⟨l6,l7,l8,e1,e4,e3,e6,e5,e8⟩:=g7;rw [e4,e3];clear e4 e3;replace c2:=c2.mono c8;replace b7:=b7.mono c8;have b9:=e6;have c0:=e5;obtain ⟨a2,a3,h4,h7,f1,d7,h5,h6,h8,h9⟩:=id b9;obtain ⟨a4,a5,i0,i3,d8,i1,i2,i4⟩:=id c0;subst d7;subst d8;obtain ⟨a0,a1,rfl,i5⟩:=e8.shape;refine pm (M':=((bX p #[.int .u64 a8] 91)::(bX b3 AJ 26)::(bX b1 (AH L (vS a9 L.start.length b0) (vS b2 L.keeps.length b4) (vS a6 L.slips.length a7)) 26)::(e1++F))) (PW (PW PM)) (sS (sal 6 26 AJ (fun d3=>(sS (ss 0 0 d3 (BQ L (vS a2 L.start.length a3) (vS a4 L.keeps.length a5) (vS a0 L.slips.length a1)) (BQ L (vS a2 L.start.length a3) (vS a4 L.keeps.length a5) (vS a0 L.slips.length a1)) (_::_::_::_::_) (cs:=[_,_,_,_,_]) rfl rfl (se (rq (rqr (sp 1 [(7,vI 0)] (se (rb 0 ?_)))))))))));refine rl (fun mz a w=>∃ k:Nat,∃ b5:Seg,(k≤L.slips.length)∧(Own 28 8 AX (vS a0 L.slips.length a1) (LV L (b8.take k)++L.slips.drop k) b5)∧SD 34 [(7,vI ↑k),(3,vP b1 0),(4,vP b3 0),(5,vS d1 b8.length d2),(6,vP d3 0)] j0 ((bX d3 (AH L (vS a2 L.start.length a3) (vS a4 L.keeps.length a5) (vS a0 L.slips.length a1)) 26)::(bX p #[.int .u64 a8] 91)::(bX b3 AJ 26)::(bX b1 (AH L (vS a9 L.start.length b0) (vS b2 L.keeps.length b4) (vS a6 L.slips.length a7)) 26)::(b5++F)) a w (mz=L.slips.length-k)) ?_ ?_
 ·intro a w hS hD hW;exact ⟨_,0,e1,Nat.zero_le _,e8,hS.sub su,hD,hW,rfl⟩
 rintro mz a w ⟨k,b5,hk,b6,hS,hD,hW,rfl⟩
 refine AU hS hD hW ?_;have m8:(LV L (b8.take k)++L.slips.drop k).length=L.slips.length:=by rw [LA,OZ (by omega),LD];omega
 refine rq (rqr (sp 4 [(18,.bool (cmp .lss ↑k (↑(b8.length))))] (se (rc 18 rfl (fun h1=>?_) (fun h1=>?_)))))
 ·
  have g5:=h1;have h1:=BX h1;refine AM (NX (rq (rb 1 ?_)));have m7:=pick_rng f0 (k:=k) (by omega);refine rd0 11 (ox 1 [(21,vP d3 4)] ?_);refine AD (dlb 22 0 4 d3 (vS a0 L.slips.length a1)) (ox 2 [(24,vP b1 4),(23,vI ↑k)] ?_);refine AD (dlb 25 3 4 b1 (vS a6 L.slips.length a7)) (ox 2 [(27,vI ↑k),(26,vS d1 b8.length d2)] ?_);refine AD (di 28 1 k b7.addr) ?_;refine AD (dl 29 (DG b7 k (by omega))) ?_;refine AD (diI 30 8 (b8.getD k 0) c2.addr) ?_;refine AD (dln 31 30 28 (EU (L.slips.getD ((b8.getD k 0:Int).toNat) AB)) rfl (CB (vals:=CV) (fun _=>rfl) c2 ((b8.getD k 0:Int).toNat) (by omega))) ?_;refine BA ?_;obtain ⟨k8,d4⟩:=b6.row AB;refine sd (di 32 8 k (fun _=>d4.addr (by omega)) (n:=L.slips.length)) (sS (HB (T:=28) (x:=(.tmp 32)) (y:=(.tmp 31)) (rc:=fun i f=>AX ((LV L (b8.take k)++L.slips.drop k).getD i AB) f) AB k (L.slips.getD ((b8.getD k 0:Int).toNat) AB) (ty:=0) (gd:=none) (by kernel_rfl) rfl b6 d4 (by omega) rfl rfl (by kernel_rfl) rfl (ML _) (PU (PU (PU PM.symm))) (fun e2 g6=>(pm (M':=((bX d3 (AH L (vS a2 L.start.length a3) (vS a4 L.keeps.length a5) (vS a0 L.slips.length a1)) 26)::(bX p #[.int .u64 a8] 91)::(bX b3 AJ 26)::(bX b1 (AH L (vS a9 L.start.length b0) (vS b2 L.keeps.length b4) (vS a6 L.slips.length a7)) 26)::(e2++F))) (PW (PW (PW PM))) (ee (NB (NX (rr (sp 1 [(19,vI ↑k)] (sd (da 20 ↑k 1) (sp 1 [(7,vI (↑k+1))] (ee ?_))))))))))));refine AO (L.slips.length-(k+1)) (by omega) ?_;intro a w hS hD hW;exact ⟨k+1,e2,by omega,(by rw [← pick_step f0 (by omega)];exact g6),hS.sub su,hD,hW,rfl⟩
 have g5:=h1;have h1:=CF h1;refine BR 0 (EP (EP (EB (NX (rq ?_)))));refine CN (B:=((bX d3 (AH L (vS a2 L.start.length a3) (vS a4 L.keeps.length a5) (vS a0 L.slips.length a1)) 26)::(bX p #[.int .u64 a8] 91)::(bX b3 AJ 26)::(bX b1 (AH L (vS a9 L.start.length b0) (vS b2 L.keeps.length b4) (vS a6 L.slips.length a7)) 26)::F)) AB b6 (by first | omega | (simp only [LS,LC,LN,LA,LK,LD] <;> omega) | decide) (PU (PU (PU PM.symm))) (PR _) (fun m0 c9 c3=>?_);replace b9:=b9.mono c9;replace c0:=c0.mono c9;obtain ⟨f8,g0,f9,g3,c7,g1,g2,g4⟩:=id c3
 first | cases c7 | (injection c7 with fz42_e1 fz42_e2 fz42_e3;subst fz42_e1;subst fz42_e3;try rw [← fz42_e2] at c3)
 refine rr (sd (dnb 33 0 0 d3 (BQ L (vS a2 L.start.length a3) (vS a4 L.keeps.length a5) (vS a0 L.slips.length a1))) (sS (ss 2 0 b3 (BQ L (vS a2 L.start.length a3) (vS a4 L.keeps.length a5) (vS a0 L.slips.length a1)) (BQ L (vS a2 L.start.length a3) (vS a4 L.keeps.length a5) (vS a0 L.slips.length a1)) (_::_::_::_::_) (cs:=[_,_,_,_,_]) rfl rfl (se (BD (ppm (PS _ _ _) (ES (t:=4) (T:=26) (n:=5) ([(bX p #[.int .u64 a8] 91)]) (by kernel_rfl) rfl (by kernel_rfl) rfl (BN (n:=5) (cs:=(AH L (vS a2 L.start.length a3) (vS a4 L.keeps.length a5) (vS a0 L.slips.length a1))) (b:=b3) (off:=0) (T:=26) (fz:=(0,0)) (vs:=(BQ L (vS a2 L.start.length a3) (vS a4 L.keeps.length a5) (vS a0 L.slips.length a1))) (by simp) rfl) (.inl ⟨by kernel_rfl,rfl⟩) (TK _ (TC _ (TC _ (TC _ (TR _))))) (IT (IT (IT d0 c1) c8) c9) ?_)))))));exact ⟨_,⟨L.places,L.sorts,L.start,L.keeps,(LV L (b8.take k)++L.slips.drop k)⟩,_,rfl,rfl,shuf_same f0 (by omega),(BL b9 c0 c3)⟩
end Go.Proofs.YtgcemienebmdeaaGreat
namespace Go.Sh
open Go Go.Sl
def KeepsOf (P:Int) (r:Int) (ks:List Keep):Prop:=ks.length≤4∧∀ j,j<ks.length→let k:=ks.getD j AN;(0≤k.place∧k.place≤P-1)∧(7*(r-j)≤k.hour∧k.hour≤7*(r-j)+6)∧(1≤k.who∧k.who≤9)
theorem KeepsOf.nil {P r:Int}:KeepsOf P r []:=⟨Nat.zero_le _,fun j hj=>absurd hj (Nat.not_lt_zero _)⟩
theorem KeepsOf.snoc {P r:Int} {ks:List Keep} {k:Keep} (h:KeepsOf P r ks) (hl:ks.length<4) (hp:0≤k.place∧k.place≤P-1) (hh:7*(r-ks.length)≤k.hour∧k.hour≤7*(r-ks.length)+6) (hw:1≤k.who∧k.who≤9):KeepsOf P r (ks++[k]):=by
  refine ⟨by simp;omega,fun j hj=>?_⟩;rcases Nat.lt_or_ge j ks.length with h1 | h1
  · have:=h.2 j h1
    simpa only [List.getD,List.getElem?_append_left h1] using this
  · have e:j=ks.length:=by simp at hj;omega
    subst e;have:(ks++[k]).getD ks.length AN=k:=by simp [List.getD]
    rw [this];exact ⟨hp,hh,hw⟩
def SlipsOf (P Q:Int) (dl:List Int) (i:Nat) (sl:List Slip):Prop:=sl.length≤i∧(∀ s∈sl,∀ L:Lin,L.places=P→L.sorts=Q→BP L s=0)∧(sl.map (·.num)).Nodup∧∀ s∈sl,∃ j,j<i∧s.num=1+dl.getD j 0
theorem SlipsOf.nil {P Q:Int} {dl:List Int}:SlipsOf P Q dl 0 []:=⟨Nat.le_refl _,fun s hs=>absurd hs List.not_mem_nil,List.nodup_nil,fun s hs=>absurd hs List.not_mem_nil⟩
theorem SlipsOf.skip {P Q:Int} {dl:List Int} {i:Nat} {sl:List Slip} (h:SlipsOf P Q dl i sl):SlipsOf P Q dl (i+1) sl:=⟨by have:=h.1;omega,h.2.1,h.2.2.1,fun s hs=>by obtain ⟨j,h1,h2⟩:=h.2.2.2 s hs;exact ⟨j,by omega,h2⟩⟩
theorem SlipsOf.snoc {P Q:Int} {dl:List Int} {i:Nat} {sl:List Slip} {s:Slip} (h:SlipsOf P Q dl i sl) (hd:dl.Nodup) (hi:i<dl.length) (hn:s.num=1+dl.getD i 0) (hs:∀ L:Lin,L.places=P→L.sorts=Q→BP L s=0):SlipsOf P Q dl (i+1) (sl++[s]):=by
  refine ⟨by have:=h.1;simp;omega,fun t ht=>?_,?_,fun t ht=>?_⟩
  · rcases List.mem_append.1 ht with ht | ht
    · exact h.2.1 t ht
    · simp only [List.mem_singleton] at ht;subst ht;exact hs
  · rw [List.map_append,List.map_cons,List.map_nil]
    refine List.nodup_append.2 ⟨h.2.2.1,by simp,fun a ha b hb=>?_⟩;simp only [List.mem_singleton] at hb;obtain ⟨t,ht,rfl⟩:=List.mem_map.1 ha;obtain ⟨j,hj,e⟩:=h.2.2.2 t ht;intro e2;rw [hb,hn] at e2;have e3:dl.getD j 0=dl.getD i 0:=by omega
    have hj2:j<dl.length:=by omega
    have:j=i:=(List.getElem_inj (h₀:=hj2) (h₁:=hi) hd).1 (by simpa [List.getD,hj2,hi] using e3);omega
  · rcases List.mem_append.1 ht with ht | ht
    · obtain ⟨j,h1,h2⟩:=h.2.2.2 t ht;exact ⟨j,by omega,h2⟩
    · simp only [List.mem_singleton] at ht;subst ht;exact ⟨i,by omega,hn⟩
theorem IZ {P Q:Int} {s:Slip} (h1:1≤s.num∧s.num≤999) (h2:0≤s.hour∧s.hour≤200) (h3:1≤s.kind∧s.kind≤6) (h4:0≤s.place∧s.place≤P-1) (h5:s.kind=1→(0≤s.to∧s.to≤P-1)∧s.to≠s.place) (h6:s.kind≠1→s.to=0) (h7:0≤s.sort∧s.sort≤Q-1) (h8:s.soil=true→s.kind=1∨s.kind=4) (h9:s.kind=4∨1≤s.amt) (h10:0≤s.amt∧s.amt≤50):∀ L:Lin,L.places=P→L.sorts=Q→BP L s=0:=by
  intro L hP hQ;have t:∀ {n lo hi:Int},lo≤n∧n≤hi→¬ inB n lo hi=false:=fun h e=>by
    rw [show inB _ _ _=true from by simpa [inB] using h] at e;cases e
  unfold BP
  rw [hP,hQ,if_neg (t h1),if_neg (t h2),if_neg (t h3),if_neg (t h4),if_neg (fun e=>t (h5 e.1).1 e.2),if_neg (fun e=>(h5 e.1).2 e.2),if_neg (fun e=>e.2 (h6 e.1)),if_neg (t h7),
    if_neg (fun e=>(h8 e.1).elim e.2.1 e.2.2),if_neg (t (by split <;> omega))]
def RowsB (B:Int) (n:Nat) (xss:List (List Int)):Prop:=∀ r∈xss,r.length=n∧∀ x∈r,0≤x∧x≤B
theorem RowsB.nil {B:Int} {n:Nat}:RowsB B n []:=fun r hr=>by cases hr
theorem RowsB.snoc {B:Int} {n:Nat} {xss:List (List Int)} {r:List Int} (h:RowsB B n xss) (hl:r.length=n) (hr:∀ x∈r,0≤x∧x≤B):RowsB B n (xss++[r]):=fun q hq=>by
  rcases List.mem_append.1 hq with hq | hq
  · exact h q hq
  · simp only [List.mem_singleton] at hq;subst hq;exact ⟨hl,hr⟩
theorem RowsB.mono {B B':Int} {n:Nat} {xss:List (List Int)} (h:RowsB B n xss) (hb:B≤B'):RowsB B' n xss:=fun r hr=>⟨(h r hr).1,fun x hx=>by have:=(h r hr).2 x hx;omega⟩
theorem RowsB.set {B:Int} {n p i:Nat} {xss:List (List Int)} {v:Int} (h:RowsB B n xss) (hp:p<xss.length) (hv:0≤v∧v≤B):RowsB B n (xss.set p ((xss.getD p []).set i v)):=fun r hr=>by
  rcases List.mem_or_eq_of_mem_set hr with hr | rfl
  · exact h r hr
  · have h1:=h _ (BJ (xs:=xss) (d:=[]) hp)
    refine ⟨by rw [List.length_set];exact h1.1,fun x hx=>?_⟩;rcases List.mem_or_eq_of_mem_set hx with hx | rfl
    · exact h1.2 x hx
    · exact hv
theorem RowsB.at {B:Int} {n p i:Nat} {xss:List (List Int)} (h:RowsB B n xss) (hp:p<xss.length) (hi:i<n):(xss.getD p []).length=n∧0≤(xss.getD p []).getD i 0∧(xss.getD p []).getD i 0≤B:=by
  have h1:=h _ (BJ (xs:=xss) (d:=[]) hp);exact ⟨h1.1,h1.2 _ (BJ (xs:=xss.getD p []) (d:=0) (by rw [h1.1];exact hi))⟩
theorem drawn_book {P Q:Int} {n:Nat} {st:List (List Int)} {ks:List Keep} {sl:List Slip} {r:Int} {dl:List Int} {i:Nat} (hP:1≤P∧P≤4) (hQ:1≤Q∧Q≤2) (hn:(n:Int)=Q) (hs:(st.length:Int)=P) (hr:RowsB 50 n st) (hr4:0≤r∧r≤4) (hkr:(ks.length:Int)≤r) (hk:KeepsOf P r ks) (hsl:SlipsOf P Q dl i sl) (hi:i≤8):GoodL ⟨P,Q,st,ks,sl⟩:=by
  have t:∀ {n lo hi:Int},lo≤n∧n≤hi→¬ inB n lo hi=false:=fun h e=>by
    rw [show inB _ _ _=true from by simpa [inB] using h] at e;cases e
  refine ⟨hP,hQ,hs,fun q hq=>by rw [(hr q hq).1,hn],fun q hq x hx=>(hr q hq).2 x hx,hk.1,fun k hk2=>?_,Nat.le_trans hsl.1 hi,fun k hk2=>?_⟩
  · obtain ⟨h1,h2,h3⟩:=hk.2 k hk2
    unfold EQ;simp only;have hk3:(k:Int)<ks.length:=by exact_mod_cast hk2
    rw [if_neg (t h1),if_neg (t (by omega)),if_neg (t h3),if_neg];intro e;obtain ⟨x,hx,hx2⟩:=List.any_eq_true.1 e;obtain ⟨j,hj,rfl⟩:=List.mem_take_iff_getElem.1 hx;have hj2:j<ks.length:=by omega
    have h4:=(hk.2 j hj2).2.1;simp only [Bool.and_eq_true,decide_eq_true_eq] at hx2;have e4:(ks.getD j AN)=ks[j]:=by simp [List.getD,hj2]
    rw [e4,hx2.2] at h4;have:j<k:=by omega
    omega
  · have h1:=hsl.2.1 _ (BJ (xs:=sl) (d:=AB) hk2) ⟨P,Q,st,ks,sl⟩ rfl rfl
    unfold CU;rw [if_neg (fun h=>h h1),if_neg];intro e;unfold hasNum at e;obtain ⟨x,hx,hx2⟩:=List.any_eq_true.1 e;obtain ⟨j,hj,rfl⟩:=List.mem_take_iff_getElem.1 hx;have hj':j<min k sl.length:=hj;have hj2:j<sl.length:=by omega
    have hnd:=hsl.2.2.1;simp only [decide_eq_true_eq] at hx2;have:j=k:=(List.getElem_inj (h₀:=by simpa using hj2) (h₁:=by simpa using hk2) hnd).1 (by simpa [List.getD,hk2] using hx2);omega
end Go.Sh
namespace Go.Sl
open Go
theorem PG {α:Type} {d:α}:∀ (vs:List α) (i:Nat),vs.set i (vs.getD i d)=vs
  | [],_=>rfl
  | _::_,0=>rfl
  | v::vs,i+1=>by
    show v::vs.set i (vs.getD i d)=v::vs;rw [PG vs i]
theorem OwnEach.same {E:TypeId} {vs:List Value} {i:Nat} {v':Value} {xss:List (List Int)} {M:Seg} (h:OwnEach E (vs.set i v') xss M) (e:vs.getD i undef=v'):OwnEach E vs xss M:=by
  subst e;rwa [PG] at h
theorem fold_mod {x:Int} {n:Nat}:(x.tmod n+n)%(n:Int)=x%n:=by
  rw [Int.add_emod_right,Int.tmod_def,Int.sub_eq_add_neg,← Int.mul_neg,Int.add_mul_emod_self_left]
end Go.Sl
namespace Go.Sh
open Go Go.Sl
theorem inb_snoc {B:Int} {l:List Int} {x:Int} (h:∀ x∈l,0≤x∧x≤B) (hx:0≤x∧x≤B):∀ y∈l++[x],0≤y∧y≤B:=fun y hy=>by
  rcases List.mem_append.1 hy with hy | hy
  · exact h y hy
  · simp only [List.mem_singleton] at hy;subst hy;exact hx
theorem inb_snoc2 {B:Int} {l:List Int} {x y:Int} (h:∀ x∈l,0≤x∧x≤B) (hx:0≤x∧x≤B) (hy:0≤y∧y≤B):∀ z∈l++[x,y],0≤z∧z≤B:=fun z hz=>by
  rcases List.mem_append.1 hz with hz | hz
  · exact h z hz
  · simp only [List.mem_cons,List.not_mem_nil,or_false] at hz
    rcases hz with rfl | rfl
    · exact hx
    · exact hy
theorem HG {l:List Int} {n:Nat} (h:l.Perm (EH n)):l.Nodup:=by
  exact h.nodup_iff.2 (List.Pairwise.map (fun i:Nat=>(i:Int)) (fun a b hab e=>hab (by exact_mod_cast e)) List.nodup_range)
theorem deal_at {l:List Int} {n t:Nat} (h:l.Perm (EH n)) (ht:t<l.length):0≤l.getD t 0∧l.getD t 0<n:=by
  have h1:=h.mem_iff.1 (BJ (xs:=l) (d:=0) ht);unfold EH at h1;obtain ⟨a,ha,e⟩:=List.mem_map.1 h1;have:=List.mem_range.1 ha;omega
def RowB (B:Int) (n:Nat) (r:List Int):Prop:=r.length=n∧∀ x∈r,0≤x∧x≤B
theorem RowB.set {B:Int} {n i:Nat} {r:List Int} {v:Int} (h:RowB B n r) (hv:0≤v∧v≤B):RowB B n (r.set i v):=⟨by rw [List.length_set];exact h.1,fun x hx=>by
  rcases List.mem_or_eq_of_mem_set hx with hx | rfl
  · exact h.2 x hx
  · exact hv⟩
theorem RowB.at {B:Int} {n i:Nat} {r:List Int} (h:RowB B n r) (hi:i<n):r.length=n∧0≤r.getD i 0∧r.getD i 0≤B:=⟨h.1,h.2 _ (BJ (xs:=r) (d:=0) (by rw [h.1];exact hi))⟩
theorem RowsB.row {B:Int} {n p:Nat} {xss:List (List Int)} (h:RowsB B n xss) (hp:p<xss.length):RowB B n (xss.getD p []):=h _ (BJ (xs:=xss) (d:=[]) hp)
theorem RowsB.put {B:Int} {n p:Nat} {xss:List (List Int)} {r:List Int} (h:RowsB B n xss) (hr:RowB B n r):RowsB B n (xss.set p r):=fun q hq=>by
  rcases List.mem_or_eq_of_mem_set hq with hq | rfl
  · exact h q hq
  · exact hr
theorem ix_yes {so:Bool} {k:Int} (h:(so||(cmp .eql k 3||cmp .eql k 6))=true) (hs:so=true→k=1∨k=4):k≠2:=by
  intro e;subst e;cases so
  · simp [cmp] at h
  · have:=hs rfl;omega
theorem ix_no {so:Bool} {k:Int} (h:(so||(cmp .eql k 3||cmp .eql k 6))=false):k≠3:=by
  intro e;subst e;cases so <;> simp [cmp] at h
theorem other_place {p r n:Nat} {f:Int} (hp:p<n) (hf:1≤f∧f≤n-1) (hr:(r:Int)=(p+f)%n):r≠p:=by
  intro e;subst e;have h1:((r:Int)+f)/n=0∨((r:Int)+f)/n=1:=by
    have h2:0≤((r:Int)+f)/n:=Int.ediv_nonneg (by omega) (by omega);have h3:((r:Int)+f)/n<2:=Int.ediv_lt_of_lt_mul (by omega) (by omega);omega
  have h4:=Int.emod_add_mul_ediv ((r:Int)+f) n;rcases h1 with h1 | h1 <;> rw [h1] at h4 <;> omega
theorem small_nums {P Q:Int} {dl:List Int} {i:Nat} {sl:List Slip} (h:SlipsOf P Q dl i sl) (hd:dl.Perm (EH 20)) (hi:i≤20):∀ s∈sl,s.num≤20:=fun s hs=>by
  obtain ⟨j,h1,h2⟩:=h.2.2.2 s hs;have h3:=hd.length_eq;rw [EZ] at h3;have:=deal_at hd (t:=j) (by omega);omega
end Go.Sh
namespace Go.Proofs.YtgcemienebmdeaaGreat
open Go Go.Sl Go.Sh
set_option maxRecDepth 100000
noncomputable def c_Fold:=cod Tryz.f66
theorem Foldx_ct (I:Imm) (x:Int) (n:Nat) (hn:n≤1000000):Ct Tryz.prog 66 #[vI x,vI ↑n] I ([]) (fun v I' M'=>∃ r:Nat,v=vI ↑r∧M'=[]∧((r=0∨r<n)∧(2≤n→(r:Int)=x%n))):=by
 refine fr (args:=[_,_]) (N:=14) Tryz.func66 (fun F=>?_);show Run _ _ (c_Fold []) _ _ [(0,_),(1,_)] _ _;refine rnm (rqr ?_);refine sp 1 [(4,vI 0)] (se (rq (rqr (sp 2 [(6,.bool (cmp .lss ↑n 2))] (se (rc 6 rfl (fun h1=>?_) (fun h1=>?_)))))))
 ·
  have a0:=h1;have h1:=BX h1;refine rqr (sp 1 [(4,vI 0)] (se (BD (RP (rt1 4 rfl (IR _) ?_)))));exact ⟨0,rfl,rfl,⟨.inl rfl,fun hq=>by omega⟩⟩
 have a0:=h1;have h1:=CF h1;refine AM (NX (rqr (sp 2 [(8,vI ↑n),(7,vI x)] (sd (det_remT (x:=(.tmp 7)) (y:=(.tmp 8)) (T:=3) (T':=3) (d:=9) (ty:=3) (gd:=none) (by kernel_rfl) rfl rfl rfl (by omega)) (sp 1 [(10,vI ↑n)] ?_)))));have hq:=tmod_bounds (x:=x) (n:=n) (by omega);refine sd (da 11 (Int.tmod x ↑n) ↑n) (sp 1 [(12,vI ↑n)] (sd (det_rem (x:=(.tmp 11)) (y:=(.tmp 12)) (T:=3) (T':=3) (d:=13) (ty:=3) (gd:=none) (by kernel_rfl) rfl rfl rfl (by omega) (by omega)) ?_));obtain ⟨r,hr,a1⟩:=fold_nat (x:=x) (n:=n) (by omega);have a2:(r:Int)=x%n:=hr▸fold_mod;refine EE 13 rfl (show (vI (((Int.tmod x ↑n)+↑n)%↑n):Value)=vI ↑r from congrArg (Value.int .i64) hr) (sp 1 [(4,vI ↑r)] (se (BD (rt1 4 rfl (IR _) ?_))));exact ⟨r,rfl,rfl,⟨.inr a1,fun _=>a2⟩⟩
noncomputable def c_LinenOf:=cod Tryz.f19
set_option maxHeartbeats 1000000 in
theorem LinenOf_ct (I:Imm) (p:Nat) (p_s:Int) (n1:Int) (n2:Int):Ct Tryz.prog 19 #[vP p 0,vI n1,vI n2] I ([(bX p #[.int .u64 p_s] 91)]) (fun v I' M'=>∃ p_t:Int,∃ L:Lin,∃ u:Value,v=u∧M'=[(bX p #[.int .u64 p_t] 91)]∧(GoodL L)∧(∀ s∈L.slips,s.num≤20)∧IsLin I' u L):=by
 refine fr (args:=[_,_,_]) (N:=346) Tryz.func19 (fun F=>?_);show Run _ _ (c_LinenOf []) _ _ [(0,_),(1,_),(2,_)] _ _;refine rnm (rqr ?_);refine sS (sal 6 26 AJ (fun b1=>(sn (sp 1 [(22,vP p 0)] ?_))));have Q5:=PT I p p_s 1 4 (by omega) (by omega);refine sS (sc (some 23) (F:=((bX b1 AJ 26)::F)) (Q5 :) (PS _ _ _) (fun a8p I3 a8i a2r hp5=>?_));obtain ⟨a3i,r9,hv6,hm7,a7z⟩:=hp5;rw [hv6,hm7];clear hv6 hm7;refine nm ?_;obtain ⟨Pn,hPn,hPn2⟩:∃ z:Nat,(r9)=↑z∧1≤z∧z≤4:=⟨(r9).toNat,by omega,by omega,by omega⟩;refine EE 23 rfl (show (vI (r9):Value)=vI ↑Pn from congrArg (Value.int .i64) hPn) (sp 1 [(24,vP p 0)] ?_);have Q6:=PT I3 p a3i 1 2 (by omega) (by omega);refine sS (sc (some 25) (F:=((bX b1 AJ 26)::F)) (Q6 :) (.refl _) (fun a8q I14 a8j R1 a2s=>?_));obtain ⟨Y1,r20,V7,R4,a8a⟩:=a2s;rw [V7,R4];clear V7 R4;refine nm ?_;obtain ⟨Qn,hQn,hQn2⟩:∃ z:Nat,(r20)=↑z∧1≤z∧z≤2:=⟨(r20).toNat,by omega,by omega,by omega⟩;refine EE 25 rfl (show (vI (r20):Value)=vI ↑Qn from congrArg (Value.int .i64) hQn) (sp 1 [(26,.agg #[vI ↑Pn,vI ↑Qn,vN,vN,vN])] (sS (sal 7 26 AJ (fun b5=>(sS (ss 0 0 b5 [vI ↑Pn,vI ↑Qn,vN,vN,vN] [vI ↑Pn,vI ↑Qn,vN,vN,vN] (_::_::_::_) (cs:=[_,_,_,_,_]) rfl rfl (sn (sp 1 [(8,vN)] (se (rq (rqr (sp 1 [(9,vI 0)] (se (rb 0 ?_))))))))))))));refine rl (fun mz a w=>∃ J0:Imm,∃ i:Nat,∃ sx:List (List Int),∃ hx:List (List Int),∃ sv:Value,∃ b7:List Value,∃ tM:Seg,∃ fM:Seg,∃ hv:Value,∃ f5:List Value,∃ hM:Seg,∃ gM:Seg,∃ bs:Int,(I14.le J0)∧(i≤Pn)∧(sx.length=i∧hx.length=i)∧(RowsB 20 Qn sx)∧(RowsB 100 (2*Qn) hx)∧(Own 29 1 CX sv b7 tM)∧(OwnEach 3 b7 sx fM)∧(Own 29 1 CX hv f5 hM)∧(OwnEach 3 f5 hx gM)∧SD 346 [(8,hv),(9,vI ↑i),(0,vP p 0),(1,vI n1),(2,vI n2),(6,vP b1 0),(7,vP b5 0)] J0 ((bX b5 #[vI ↑Pn,vI ↑Qn,sv,vN,vN] 26)::(bX p #[.int .u64 bs] 91)::(bX b1 AJ 26)::(tM++(fM++(hM++(gM++F))))) a w (mz=Pn-i)) ?_ ?_
 ·intro a w hS hD hW;exact ⟨_,I14,0,[],[],(vN),[],[],[],(vN),[],[],[],Y1,IR _,Nat.zero_le _,⟨rfl,rfl⟩,RowsB.nil,RowsB.nil,Own.nil _ _ _,OwnEach.nil,Own.nil _ _ _,OwnEach.nil,hS.sub su,hD,hW,rfl⟩
 rintro mz a w ⟨J0,i,sx,hx,sv,b7,tM,fM,hv,f5,hM,gM,bs,hJ0,hi,hln,hrs,hrh,hso,hse,m8,hhe,hS,hD,hW,rfl⟩
 refine AU hS hD hW ?_;obtain ⟨b3,b4,rfl,a8x⟩:=hso.shape;have a8y:=hse.length;obtain ⟨e1,e2,rfl,a7s⟩:=m8.shape;have a7t:=hhe.length;obtain ⟨hl1,hl2⟩:=hln;refine rq (rqr (sp 2 [(28,vP b5 0),(27,vI ↑i)] (sd (dlb 29 0 0 b5 (vI ↑Pn)) (sp 1 [(30,.bool (cmp .lss ↑i ↑Pn))] (se (rc 30 rfl (fun h1=>?_) (fun h1=>?_)))))))
 ·
  have a2i:=h1;have h1:=BX h1;refine AM (NX (rq (rb 1 (rqr (sp 2 [(11,vN),(10,vN)] (se (rq (rqr (sp 1 [(12,vI 0)] (se (rb 2 ?_)))))))))));refine rl (fun mz a w=>∃ J1:Imm,∃ k:Nat,∃ ra:List Int,∃ rz:List Int,∃ t7:Int,∃ l1:Value,∃ e9:Seg,∃ l2:Value,∃ d7:Seg,(J0.le J1)∧(k≤Qn)∧(ra.length=k∧rz.length=2*k)∧(∀ x∈ra,0≤x∧x≤20)∧(∀ x∈rz,0≤x∧x≤100)∧(Own 3 1 AQ l1 ra e9)∧(Own 3 1 AQ l2 rz d7)∧SD 346 [(10,l1),(11,l2),(12,vI ↑k),(0,vP p 0),(1,vI n1),(2,vI n2),(6,vP b1 0),(7,vP b5 0),(8,vS e1 f5.length e2),(9,vI ↑i)] J1 ((bX b5 #[vI ↑Pn,vI ↑Qn,vS b3 b7.length b4,vN,vN] 26)::(bX p #[.int .u64 t7] 91)::(bX b1 AJ 26)::(tM++(fM++(hM++(gM++(e9++(d7++F))))))) a w (mz=Qn-k)) ?_ ?_
  ·intro a w hS hD hW;exact ⟨_,J0,0,[],[],bs,(vN),[],(vN),[],IR _,Nat.zero_le _,⟨rfl,rfl⟩,(fun x hx=>by cases hx),(fun x hx=>by cases hx),(Own.nil _ _ _),(Own.nil _ _ _),hS.sub su,hD,hW,rfl⟩
  rintro mz a w ⟨J1,k,ra,rz,t7,l1,e9,l2,d7,hJ1,hk,hrl,hra,hrb,k5,k6,hS,hD,hW,rfl⟩
  refine AU hS hD hW ?_;obtain ⟨d1,d2,rfl,X9⟩:=k5.shape;obtain ⟨d9,e0,rfl,Y0⟩:=k6.shape;obtain ⟨a7n,a7o⟩:=hrl;refine rq (rqr (sp 2 [(34,vP b5 1),(33,vI ↑k)] (sd (dlb 35 0 1 b5 (vI ↑Qn)) (sp 1 [(36,.bool (cmp .lss ↑k ↑Qn))] (se (rc 36 rfl (fun h2=>?_) (fun h2=>?_)))))))
  ·
   have a2j:=h2;have h2:=BX h2;refine AM (NX (rq (rb 3 (rqr (sp 1 [(39,vP p 0)] ?_)))));have Q7:=PZ J1 p t7 20 (by omega);refine sS (sc (some 40) (F:=((bX b5 #[vI ↑Pn,vI ↑Qn,vS b3 b7.length b4,vN,vN] 26)::(bX b1 AJ 26)::(tM++(fM++(hM++(gM++(e9++(d7++F)))))))) (Q7 :) (PS _ _ _) (fun a8r I27 a8k R2 a2t=>?_));obtain ⟨t5,m9,V8,R5,a8b⟩:=a2t;rw [V8,R5];clear V8 R5;refine nm ?_;refine sp 1 [(13,vI ↑m9)] (se (rr (sp 2 [(42,vI ↑m9),(41,vS d1 ra.length d2)] (sS (sbs 43 3 1 #[vI ↑m9] (fun b38=>(sS (sap (d:=44) 41 43 29 3 1 8 (vI 0) AQ ra [(↑m9:Int)] e9 rfl rfl k5 (PU (PU (PU (PU (PV (PV (PV (PO _ _ _)))))))) (EK _) (DI 0 rfl rfl) (fun v40 C4 T8=>(AZ (M':=((bX p #[.int .u64 t5] 91)::(bX b5 #[vI ↑Pn,vI ↑Qn,vS b3 b7.length b4,vN,vN] 26)::(bX b1 AJ 26)::(C4++(tM++(fM++(hM++(gM++(d7++F)))))))) (fun w h=>(h.perm (PW (PW (PW PM)))).sub (TC _ (TR _))) ?_))))))))));obtain ⟨W3,W8,rfl,a7u⟩:=T8.shape;refine sp 2 [(46,vI ↑m9),(45,vS d9 rz.length e0)] (sS (sbs 47 3 2 #[vI ↑m9,vI 0] (fun b41=>(sS (sap (d:=48) 45 47 29 3 1 8 (vI 0) AQ rz [(↑m9:Int),(0:Int)] d7 rfl rfl k6 (PU (PU (PU (PU (PV (PV (PV (PV (PO _ _ _))))))))) (EK _) (DI 0 rfl rfl) (fun v43 M4 T9=>(AZ (M':=((bX p #[.int .u64 t5] 91)::(bX b5 #[vI ↑Pn,vI ↑Qn,vS b3 b7.length b4,vN,vN] 26)::(bX b1 AJ 26)::(M4++(C4++(tM++(fM++(hM++(gM++F)))))))) (fun w h=>(h.perm (PW (PW (PW PM)))).sub (TC _ (TR _))) ?_)))))));obtain ⟨W4,W9,rfl,a7v⟩:=T9.shape;refine sp 2 [(11,vS W4 (rz++([(↑m9:Int),(0:Int)])).length W9),(10,vS W3 (ra++([(↑m9:Int)])).length W8)] (ee (NB (NX (rr (sp 1 [(37,vI ↑k)] (sd (da 38 ↑k 1) (sp 1 [(12,vI (↑k+1))] (ee ?_))))))));refine AO (Qn-(k+1)) (by omega) ?_;intro a w hS hD hW;exact ⟨I27,k+1,ra++([(↑m9:Int)]),rz++([(↑m9:Int),(0:Int)]),t5,vS W3 (ra++([(↑m9:Int)])).length W8,C4,vS W4 (rz++([(↑m9:Int),(0:Int)])).length W9,M4,(IT hJ1 R2),by omega,⟨by simp only [LA,LC,LN];omega,by simp only [LA,LC,LN];omega⟩,inb_snoc hra (by omega),inb_snoc2 hrb (by omega) (by omega),T8,T9,hS.sub su,hD,hW.perm ((PS _ _ _).trans (PC _ (PC _ (PC _ ((PV (PO _ _ _)).trans (PA _ ((PV (PO _ _ _)).trans (PA _ ((PV (PO _ _ _)).trans (PA _ ((PV (PO _ _ _)).trans (PA _ (PO _ _ _))))))))))))),rfl⟩
  have a2j:=h2;have h2:=CF h2;refine BR 2 (EP (EP (EB (NX (rr (sp 1 [(49,vP b5 2)] (sd (dlb 50 0 2 b5 (vS b3 b7.length b4)) (sp 1 [(51,vS d1 ra.length d2)] (sS (sbs 52 29 1 #[vS d1 ra.length d2] (fun b44=>(sS (sap (d:=53) 50 52 22 29 1 24 vN CX b7 [(vS d1 ra.length d2:Value)] tM rfl rfl hso (PU (PU (PU PM.symm))) (HM rfl) (DI 0 rfl rfl) (fun v46 j1 U0=>(AZ (M':=((bX b5 #[vI ↑Pn,vI ↑Qn,vS b3 b7.length b4,vN,vN] 26)::(bX p #[.int .u64 t7] 91)::(bX b1 AJ 26)::(j1++(fM++(hM++(gM++(e9++(d7++F)))))))) (fun w h=>(h.perm (PW (PW (PW PM)))).sub (TC _ (TR _))) ?_)))))))))))))));obtain ⟨J9,K0,rfl,a7x⟩:=U0.shape;have x5:=OwnEach.snoc hse k5;obtain ⟨eM46,heM46_d⟩:∃ X,X=fM++e9:=⟨_,rfl⟩;rw [← heM46_d] at x5;refine AZ (I':=J1) (M':=(eM46++(bX b5 #[vI ↑Pn,vI ↑Qn,vS b3 b7.length b4,vN,vN] 26)::(bX p #[.int .u64 t7] 91)::(bX b1 AJ 26)::(j1++(hM++(gM++(d7++F)))))) (fun w h=>?_) ?_
  ·have h2:=h.perm ((PU (PU (PU (PO _ _ _)))).trans (PA _ (PU (PU (PU (PV (PV (PO _ _ _))))))));simp only [← AA] at h2;have h3:=St.permL (A':=eM46) (A:=fM++e9) (by simpa only [AA,List.append_nil] using (heM46_d▸PR _)) (by simpa only [AA] using h2)
   simpa only [AA] using h3
  refine pm (M':=((bX b5 #[vI ↑Pn,vI ↑Qn,vS b3 b7.length b4,vN,vN] 26)::(bX p #[.int .u64 t7] 91)::(bX b1 AJ 26)::(eM46++(j1++(hM++(gM++(d7++F))))))) (PW (PW PM)) (sp 2 [(55,vS d9 rz.length e0),(54,vS e1 f5.length e2)] (sS (sbs 56 29 1 #[vS d9 rz.length e0] (fun b47=>(sS (sap (d:=57) 54 56 22 29 1 24 vN CX f5 [(vS d9 rz.length e0:Value)] hM rfl rfl m8 (PU (PU (PU (PU (PV (PO _ _ _)))))) (HM rfl) (DI 0 rfl rfl) (fun v49 u0 U1=>(AZ (M':=((bX b5 #[vI ↑Pn,vI ↑Qn,vS b3 b7.length b4,vN,vN] 26)::(bX p #[.int .u64 t7] 91)::(bX b1 AJ 26)::(u0++(eM46++(j1++(gM++(d7++F))))))) (fun w h=>(h.perm (PW (PW (PW PM)))).sub (TC _ (TR _))) ?_))))))));obtain ⟨W5,X0,rfl,a7y⟩:=U1.shape;have x6:=OwnEach.snoc hhe k6;obtain ⟨eM49,heM49_d⟩:∃ X,X=gM++d7:=⟨_,rfl⟩;rw [← heM49_d] at x6;refine AZ (I':=J1) (M':=(eM49++(bX b5 #[vI ↑Pn,vI ↑Qn,vS b3 b7.length b4,vN,vN] 26)::(bX p #[.int .u64 t7] 91)::(bX b1 AJ 26)::(u0++(eM46++(j1++F))))) (fun w h=>?_) ?_
  ·have h2:=h.perm ((PU (PU (PU (PV (PV (PO _ _ _)))))).trans (PA _ (PU (PU (PU (PV (PV (PO _ _ _))))))));simp only [← AA] at h2;have h3:=St.permL (A':=eM49) (A:=gM++d7) (by simpa only [AA,List.append_nil] using (heM49_d▸PR _)) (by simpa only [AA] using h2)
   simpa only [AA] using h3
  refine pm (M':=((bX b5 #[vI ↑Pn,vI ↑Qn,vS b3 b7.length b4,vN,vN] 26)::(bX p #[.int .u64 t7] 91)::(bX b1 AJ 26)::(eM49++(u0++(eM46++(j1++F)))))) (PW (PW PM)) (sp 1 [(58,vP b5 2)] (sS (ss 0 2 b5 [vS J9 (b7++([(vS d1 ra.length d2:Value)])).length K0] [vI ↑Pn,vI ↑Qn,vS J9 (b7++([(vS d1 ra.length d2:Value)])).length K0,vN,vN] (_::_::_::_) (cs:=[_,_,_,_,_]) rfl rfl (sp 1 [(8,vS W5 (f5++([(vS d9 rz.length e0:Value)])).length X0)] (ee (NB (NX (rr (sp 1 [(31,vI ↑i)] (sd (da 32 ↑i 1) (sp 1 [(9,vI (↑i+1))] (ee ?_))))))))))));refine AO (Pn-(i+1)) (by omega) ?_;intro a w hS hD hW;exact ⟨J1,i+1,sx++[ra],hx++[rz],(vS J9 (b7++([(vS d1 ra.length d2:Value)])).length K0),b7++([(vS d1 ra.length d2:Value)]),j1,eM46,(vS W5 (f5++([(vS d9 rz.length e0:Value)])).length X0),f5++([(vS d9 rz.length e0:Value)]),u0,eM49,t7,(IT hJ0 hJ1),by omega,⟨by simp only [LA,LC,LN];omega,by simp only [LA,LC,LN];omega⟩,hrs.snoc (by omega) hra,hrh.snoc (by omega) hrb,U0,x5,U1,x6,hS.sub su,hD,hW.perm (PC _ (PC _ (PC _ ((PV (PV (PO _ _ _))).trans (PA _ ((PV (PO _ _ _)).trans (PA _ (PO _ _ _)))))))),rfl⟩
 have a2i:=h1;have h1:=CF h1;refine BR 0 (EP (EP (EB (NX (rq (rq ?_))))));have hiP:Pn=i:=by omega
 subst hiP;refine rn_freezeEach (B:=((bX b5 #[vI ↑Pn,vI ↑Qn,vS b3 b7.length b4,vN,vN] 26)::(bX p #[.int .u64 bs] 91)::(bX b1 AJ 26)::(tM++(hM++(gM++F))))) hse (by intro xs hq;have:=(hrs xs hq).1;omega) (PU (PU (PU (PO _ _ _)))) (PR _) (fun I50 R3 j0=>?_);have n0:=j0.1
 try simp only [LS,LA,LC,LN,LK] at n0
 refine CN (B:=((bX b5 #[vI ↑Pn,vI ↑Qn,vS b3 b7.length b4,vN,vN] 26)::(bX p #[.int .u64 bs] 91)::(bX b1 AJ 26)::(hM++(gM++F)))) undef hso (by first | omega | (simp only [LS,LC,LN,LA,LK,LD] <;> omega) | decide) (PU (PU PM.symm)) (PR _) (fun I53 x7 n5=>?_);replace j0:=j0.mono x7;obtain ⟨a1z,a2b,a2a,a2e,C9,a2c,a2d,a2f⟩:=id n5;cases C9;have b0:=j0.isRows n5;have P0:=j0.1;obtain ⟨a1q,a1s,a1r,a1v,Z4,C8,a1t,a1u,a1x,a1y⟩:=id b0
 injection C8 with fr56_e1 fr56_e2 fr56_e3;subst fr56_e1;subst fr56_e3
 refine rr (sp 1 [(59,vP p 0)] ?_);have Q8:=PZ I53 p bs 4 (by omega);refine sS (sc (some 60) (F:=((bX b5 #[vI ↑Pn,vI ↑Qn,vS b3 b7.length b4,vN,vN] 26)::(bX b1 AJ 26)::(hM++(gM++F)))) (Q8 :) (PS _ _ _) (fun a8s I57 a8l x8 a2u=>?_));obtain ⟨Y2,f7,V9,R6,a8c⟩:=a2u;rw [V9,R6];clear V9 R6;replace b0:=b0.mono x8;refine nm ?_;refine sp 1 [(14,vI ↑f7)] (EE 14 rfl (show (vI ↑f7:Value)=vI (↑f7-↑(0:Nat)) from congrArg (Value.int .i64) (by omega)) (se (rb 4 ?_)));refine rl (fun mz a w=>∃ J2:Imm,∃ c:Nat,∃ ks:List Keep,∃ M5:Int,∃ g3:Value,∃ d8:Seg,(I57.le J2)∧((c:Int)≤↑f7)∧(ks.length=c)∧(KeepsOf Pn ↑f7 ks)∧(Own 50 3 FR g3 ks d8)∧SD 346 [(14,vI (↑f7-↑c)),(0,vP p 0),(1,vI n1),(2,vI n2),(6,vP b1 0),(7,vP b5 0),(8,vS e1 f5.length e2)] J2 ((bX p #[.int .u64 M5] 91)::(bX b5 #[vI ↑Pn,vI ↑Qn,vS b3 b7.length b4,g3,vN] 26)::(bX b1 AJ 26)::(hM++(gM++(d8++F)))) a w (mz=(↑f7:Int).toNat-c)) ?_ ?_
 ·intro a w hS hD hW;exact ⟨_,I57,0,[],Y2,(vN),[],IR _,by omega,rfl,KeepsOf.nil,(Own.nil _ _ _),hS.sub su,hD,hW,rfl⟩
 rintro mz a w ⟨J2,c,ks,M5,g3,d8,hJ2,hc,hkl,hks,g2,hS,hD,hW,rfl⟩
 refine AU hS hD hW ?_;replace b0:=b0.mono hJ2;obtain ⟨a0,a1,rfl,K1⟩:=g2.shape;refine rq (rqr (sp 2 [(62,.bool (cmp .gtr (↑f7-↑c) 0))] (se (rc 62 rfl (fun h3=>?_) (fun h3=>?_)))))
 ·
  have a2k:=h3;have h3:=JY h3;refine AM (NX (rq (rb 5 (rqr (sp 2 [(66,vP b5 0),(65,vP p 0)] (sd (dlb 67 1 0 b5 (vI ↑Pn)) (sd (dsb 68 ↑Pn 1) ?_)))))));have Q9:=PZ J2 p M5 (↑Pn-1) (by omega);refine sS (sc (some 69) (F:=((bX b5 #[vI ↑Pn,vI ↑Qn,vS b3 b7.length b4,vS a0 ks.length a1,vN] 26)::(bX b1 AJ 26)::(hM++(gM++(d8++F))))) (Q9 :) (.refl _) (fun a8t I68 a8m x9 a2v=>?_));obtain ⟨Y3,p4,W0,R7,a8d⟩:=a2v;rw [W0,R7];clear W0 R7;replace b0:=b0.mono x9;refine nm ?_;refine sp 1 [(70,vI (↑f7-↑c))] (sd (dmu 71 7 (↑f7-↑c)) (sp 1 [(72,vP p 0)] ?_));have R0:=PZ I68 p Y3 6 (by omega);refine sS (sc (some 73) (F:=((bX b5 #[vI ↑Pn,vI ↑Qn,vS b3 b7.length b4,vS a0 ks.length a1,vN] 26)::(bX b1 AJ 26)::(hM++(gM++(d8++F))))) (R0 :) (.refl _) (fun a8u I79 a8n y0 a2x=>?_));obtain ⟨Y4,n3,W1,R8,a8e⟩:=a2x;rw [W1,R8];clear W1 R8;replace b0:=b0.mono y0;refine nm ?_;refine sd (da 74 (7*(↑f7-↑c)) ↑n3) (sp 1 [(75,vP p 0)] ?_);have D9:=PT I79 p Y4 1 4 (by omega) (by omega);refine sS (sc (some 76) (F:=((bX b5 #[vI ↑Pn,vI ↑Qn,vS b3 b7.length b4,vS a0 ks.length a1,vN] 26)::(bX b1 AJ 26)::(hM++(gM++(d8++F))))) (D9 :) (.refl _) (fun a8v I90 a8o y1 a2y=>?_));obtain ⟨C1,t6,W2,R9,a8f⟩:=a2y;rw [W2,R9];clear W2 R9;replace b0:=b0.mono y1;refine nm ?_;refine sp 1 [(77,.agg #[vI ↑p4,vI ((7*(↑f7-↑c))+↑n3),vI (t6)])] (sS (sal 15 50 #[vI 0,vI 0,vI 0] (fun C5=>(sS (ss 0 0 C5 [vI ↑p4,vI ((7*(↑f7-↑c))+↑n3),vI (t6)] [vI ↑p4,vI ((7*(↑f7-↑c))+↑n3),vI (t6)] (_::_::_::_::_) (cs:=[_,_,_]) rfl rfl (se (rr (sp 1 [(78,vP b5 3)] (sd (dlb 79 2 3 b5 (vS a0 ks.length a1)) (sd (dnb 80 0 0 C5 [vI ↑p4,vI ((7*(↑f7-↑c))+↑n3),vI (t6)]) (sS (sbs 81 50 1 #[vI ↑p4,vI ((7*(↑f7-↑c))+↑n3),vI (t6)] (fun a6z=>(sS (sap (d:=82) 79 81 23 50 3 24 (.agg #[vI 0,vI 0,vI 0]) FR ks [(⟨↑p4,(7*(↑f7-↑c))+↑n3,(t6)⟩:Keep)] d8 rfl rfl g2 (PU (PU (PU (PU (PU (PV (PO _ _ _))))))) (JR _) (DI 0 rfl rfl) (fun a9a v0 z7=>(AZ (M':=((bX C5 #[vI ↑p4,vI ((7*(↑f7-↑c))+↑n3),vI (t6)] 50)::(bX p #[.int .u64 C1] 91)::(bX b5 #[vI ↑Pn,vI ↑Qn,vS b3 b7.length b4,vS a0 ks.length a1,vN] 26)::(bX b1 AJ 26)::(v0++(hM++(gM++F))))) (fun w h=>(h.perm (PW (PW (PW (PW PM))))).sub (TC _ (TR _))) ?_)))))))))))))))));obtain ⟨p5,q3,rfl,a4u⟩:=z7.shape;refine sp 1 [(83,vP b5 3)] (sS (ss 2 3 b5 [vS p5 (ks++([(⟨↑p4,(7*(↑f7-↑c))+↑n3,(t6)⟩:Keep)])).length q3] [vI ↑Pn,vI ↑Qn,vS b3 b7.length b4,vS p5 (ks++([(⟨↑p4,(7*(↑f7-↑c))+↑n3,(t6)⟩:Keep)])).length q3,vN] (_::_::_::_::_) (cs:=[_,_,_,_,_]) rfl rfl (ee (NB (NX (rr (sp 1 [(63,vI (↑f7-↑c))] (sd (dsb 64 (↑f7-↑c) 1) (sp 1 [(14,vI ((↑f7-↑c)-1))] (ee ?_))))))))));refine AO ((↑f7:Int).toNat-(c+1)) (by omega) ?_;intro a w hS hD hW;exact ⟨I90,c+1,ks++([(⟨↑p4,(7*(↑f7-↑c))+↑n3,(t6)⟩:Keep)]),C1,vS p5 (ks++([(⟨↑p4,(7*(↑f7-↑c))+↑n3,(t6)⟩:Keep)])).length q3,v0,(IT (IT (IT hJ2 x9) y0) y1),by omega,by rw [LA,hkl];rfl,hks.snoc (by omega) (by dsimp only;omega) (by rw [hkl];dsimp only;omega) (by dsimp only;omega),z7,hS.sub (.consE 14 rfl (congrArg (Value.int .i64) (by omega)) su),hD,(hW.perm (PC _ (PC _ (PC _ (PC _ ((PO _ _ _).trans (PA _ (PO _ _ _)))))))).sub (TC _ (TR _)),rfl⟩
 have a2k:=h3;have h3:=MB h3;refine BR 4 (EP (EP (EB (NX (rq ?_)))));refine CN (B:=((bX p #[.int .u64 M5] 91)::(bX b5 #[vI ↑Pn,vI ↑Qn,vS b3 b7.length b4,vS a0 ks.length a1,vN] 26)::(bX b1 AJ 26)::(hM++(gM++F)))) AN g2 (by first | omega | (simp only [LS,LC,LN,LA,LK,LD] <;> omega) | decide) (PU (PU (PU (PV (PO _ _ _))))) (PR _) (fun a1f p2 b2=>?_);replace b0:=b0.mono p2;obtain ⟨Z5,Z7,Z6,a0a,u1,Z8,Z9,a0b⟩:=id b2;cases u1;refine rr (sp 1 [(16,vI 0)] (sn (sp 1 [(84,vP p 0)] ?_)));have E0:=Deal_ct a1f p M5 20 (by omega);refine sS (sc (some 85) (F:=((bX b5 #[vI ↑Pn,vI ↑Qn,vS b3 b7.length b4,vS a0 ks.length a1,vN] 26)::(bX b1 AJ 26)::(hM++(gM++F)))) (E0 :) (.refl _) (fun a6a a6p a5k j4 U2=>?_));obtain ⟨g8,a8,a8z,v1,A6,y2,Y5,C2⟩:=U2;rw [A6,y2];clear A6 y2;replace b0:=b0.mono j4;replace b2:=b2.mono j4;obtain ⟨e7,e8,rfl,a3l⟩:=C2.shape;refine AZ (M':=((bX p #[.int .u64 g8] 91)::(v1++(bX b5 #[vI ↑Pn,vI ↑Qn,vS b3 b7.length b4,vS a0 ks.length a1,vN] 26)::(bX b1 AJ 26)::(hM++(gM++F))))) (fun w h=>by simpa only [AA,CA,NA] using h) (pm (M':=((bX p #[.int .u64 g8] 91)::(bX b5 #[vI ↑Pn,vI ↑Qn,vS b3 b7.length b4,vS a0 ks.length a1,vN] 26)::(bX b1 AJ 26)::(v1++(hM++(gM++F))))) (PC _ (PW PM)) (sp 1 [(17,vS e7 a8.length e8)] (se (rq (rq ?_)))));have t8:=Y5;have hdl:(a8).length=20:=t8.length_eq.trans (EZ 20);refine CN (B:=((bX p #[.int .u64 g8] 91)::(bX b5 #[vI ↑Pn,vI ↑Qn,vS b3 b7.length b4,vS a0 ks.length a1,vN] 26)::(bX b1 AJ 26)::(hM++(gM++F)))) 0 C2 (by first | omega | (simp only [LS,LC,LN,LA,LK,LD] <;> omega) | decide) (PU (PU PM.symm)) (PR _) (fun M0 j5 u3=>?_);replace b0:=b0.mono j5;replace b2:=b2.mono j5;obtain ⟨a0c,a0e,a0d,a0h,u2,a0f,a0g,c5⟩:=id u3;cases u2;refine rr (sp 1 [(18,vI 0)] (se (rb 6 ?_)));refine rl (fun mz a w=>∃ J3:Imm,∃ t:Nat,∃ h:Int,∃ sl:List Slip,∃ hy:List (List Int),∃ yM:Seg,∃ M6:Int,∃ g4:Value,∃ a5:Seg,(M0.le J3)∧(t≤8)∧(0≤h∧h≤10*t)∧(SlipsOf Pn Qn a8 t sl)∧(hy.length=Pn)∧(RowsB (100+50*t) (2*Qn) hy)∧(OwnEach 3 f5 hy yM)∧(Own 28 8 AX g4 sl a5)∧SD 346 [(16,vI h),(18,vI ↑t),(0,vP p 0),(1,vI n1),(2,vI n2),(6,vP b1 0),(7,vP b5 0),(8,vS e1 f5.length e2),(17,vS e7 a8.length e8)] J3 ((bX p #[.int .u64 M6] 91)::(bX b5 #[vI ↑Pn,vI ↑Qn,vS b3 b7.length b4,vS a0 ks.length a1,g4] 26)::(bX b1 AJ 26)::(hM++(yM++(a5++F)))) a w (mz=8-t)) ?_ ?_
 ·intro a w hS hD hW;exact ⟨_,M0,0,0,[],hx,gM,g8,(vN),[],IR _,Nat.zero_le _,(by omega),SlipsOf.nil,hl2,hrh.mono (by omega),hhe,(Own.nil _ _ _),hS.sub su,hD,hW,rfl⟩
 rintro mz a w ⟨J3,t,h,sl,hy,yM,M6,g4,a5,hJ3,ht,hh,m6,p3,k3,hye,c0,hS,hD,hW,rfl⟩
 refine AU hS hD hW ?_;replace b0:=b0.mono hJ3;replace b2:=b2.mono hJ3;replace c5:=c5.mono hJ3;obtain ⟨a2,a3,rfl,K2⟩:=c0.shape;obtain ⟨hh1,hh2⟩:=hh;have a7q:=m6.1;have hns:=fun hq:t<(a8).length=>deal_at t8 hq
 refine rq (rqr (sp 4 [(89,.bool (cmp .lss ↑t (if (8:Int)<(n1:Int) then 8 else n1)))] (se (rc 89 rfl (fun h4=>?_) (fun h4=>?_)))))
 ·
  have a2l:=h4;have h4:=BX h4;refine AM (NX (rq (rb 7 (rq (rqr (sp 1 [(92,vP p 0)] ?_))))));have E1:=OC J3 p M6 1 5 (by omega);refine sS (sc (some 93) (F:=((bX b5 #[vI ↑Pn,vI ↑Qn,vS b3 b7.length b4,vS a0 ks.length a1,vS a2 sl.length a3] 26)::(bX b1 AJ 26)::(hM++(yM++(a5++F))))) (E1 :) (.refl _) (fun a6b M2 a5l c6 U3=>?_));obtain ⟨t4,a8g,A7,y3⟩:=U3;rw [A7,y3];clear A7 y3;replace b0:=b0.mono c6;replace b2:=b2.mono c6;replace c5:=c5.mono c6;refine nm (se ?_);refine rc 93 rfl (fun h5=>?_) (fun h5=>?_)
  ·
   have a2m:=h5;refine BR 7 (EP (EB (NX (rr (sp 1 [(90,vI ↑t)] (sd (da 91 ↑t 1) (sp 1 [(18,vI (↑t+1))] (ee ?_))))))));refine AO (8-(t+1)) (by omega) ?_;intro a w hS hD hW;exact ⟨M2,t+1,h,sl,hy,yM,t4,vS a2 sl.length a3,a5,(IT hJ3 c6),by omega,(by omega),m6.skip,by simpa only [LS] using p3,(by have d0:=k3.mono (B':=100+50*((t+1:Nat):Int)) (by omega);repeat' (first | exact d0 | refine RowsB.put ?_ ?_ | refine RowB.set ?_ ?_ | refine RowsB.row ?_ ?_ | omega | (simp only [LS];omega))),hye,c0,hS.sub su,hD,hW,rfl⟩
  have a2m:=h5;refine AM (NX (rqr (sp 3 [(96,vP p 0),(95,vP p 0),(94,vI h)] ?_)));have E2:=PZ M2 p t4 9 (by omega);refine sS (sc (some 97) (F:=((bX b5 #[vI ↑Pn,vI ↑Qn,vS b3 b7.length b4,vS a0 ks.length a1,vS a2 sl.length a3] 26)::(bX b1 AJ 26)::(hM++(yM++(a5++F))))) (E2 :) (.refl _) (fun a6c a6q a5m c7 U4=>?_));obtain ⟨l5,u7,A8,y4,a5d⟩:=U4;rw [A8,y4];clear A8 y4;replace b0:=b0.mono c7;replace b2:=b2.mono c7;replace c5:=c5.mono c7;refine nm ?_;refine sS (sbs 98 3 2 #[vI 0,vI ↑u7] (fun C6=>(pm (M':=((bX p #[.int .u64 l5] 91)::(bX b5 #[vI ↑Pn,vI ↑Qn,vS b3 b7.length b4,vS a0 ks.length a1,vS a2 sl.length a3] 26)::(bX b1 AJ 26)::([(bX C6 #[vI 0,vI ↑u7] 3)]++(hM++(yM++(a5++F)))))) ((PS _ _ _).trans (PC _ ((PS _ _ _).trans (PC _ (PS _ _ _))))) ?_)));have T0:Own 3 1 AQ (vS (some ⟨C6,0,none⟩) 2 2) ([(0:Int),(↑u7:Int)]:List Int) [(bX C6 #[vI 0,vI ↑u7] 3)]:=Own.lit rfl rfl;refine sfz (A:=((bX p #[.int .u64 l5] 91)::(bX b5 #[vI ↑Pn,vI ↑Qn,vS b3 b7.length b4,vS a0 ks.length a1,vS a2 sl.length a3] 26)::(bX b1 AJ 26)::(hM++(yM++(a5++F))))) 0 T0 (PU (PU PM.symm)) (fun a1g c8 m1=>?_);replace b0:=b0.mono c8;replace b2:=b2.mono c8;replace c5:=c5.mono c8;obtain ⟨a0i,a0k,a0j,a0n,u4,a0l,a0m,a0o⟩:=id m1;cases u4;have E3:=One_ct a1g p l5 _ _ m1 (by simp);refine sS (sc (some 99) (F:=((bX b5 #[vI ↑Pn,vI ↑Qn,vS b3 b7.length b4,vS a0 ks.length a1,vS a2 sl.length a3] 26)::(bX b1 AJ 26)::(hM++(yM++(a5++F))))) (E3 :) (.refl _) (fun a6d a6r a5n c9 U5=>?_));obtain ⟨f2,e3,A9,y5,Y6⟩:=U5;rw [A9,y5];clear A9 y5;replace b0:=b0.mono c9;replace b2:=b2.mono c9;replace c5:=c5.mono c9;refine nm ?_;have hk2:0≤(e3)∧(e3)≤9:=by
   have hq:=Y6;simp only [List.mem_cons,List.not_mem_nil,or_false] at hq;omega
  refine sd (da 100 h (e3)) (sp 1 [(16,vI (h+(e3)))] (se (rq ?_)));have hnt:=hns (by omega);refine rdX (M:=((bX p #[.int .u64 f2] 91)::(bX b5 #[vI ↑Pn,vI ↑Qn,vS b3 b7.length b4,vS a0 ks.length a1,vS a2 sl.length a3] 26)::(bX b1 AJ 26)::(hM++(yM++(a5++[]))))) (F0:=F) [(20,19,.cl 28 IQ)] 21 [(0,true),(1,true),(2,true),(3,true),(4,true),(5,true),(6,true),(9,true),(10,true),(11,true),(12,true),(14,true),(15,true),(16,true),(17,true),(7,false),(8,false),(13,false),(18,false),(19,true),(20,false)] (by simp only [AA,CA,NA,List.append_nil];exact PR _) (FO (alOk_cl (ops:=EC (c_LinenOf [1,1,1,1,1,1,1,0,1,0,0,1,0,0,1,1,0])) (i:=20) (d:=19) (by kernel_rfl) (by kernel_rfl) (by kernel_rfl)) FV) ?_;refine AY (dpv 101 (vS e7 a8.length e8)) ?_;refine AY (dpv 102 (vI ↑t)) ?_;refine AY (di 103 1 t c5.addr) ?_;refine AY (dl 104 (DG c5 t (by omega))) ?_;refine AY (da 105 1 (a8.getD t 0)) ?_;refine AY (dpv 106 (vI (h+(e3)))) ?_;refine AY (dpv 107 (vP p 0)) ?_;refine AY (dpv 110 (vP p 0)) ?_;refine AY (dpv 111 (vP b5 0)) ?_;refine ED (Rx:=((bX b5 #[vI ↑Pn,vI ↑Qn,vS b3 b7.length b4,vS a0 ks.length a1,vS a2 sl.length a3] 26)::[])) (PS _ _ _) (dlb 112 0 0 b5 (vI ↑Pn)) ?_;refine AY (dsb 113 ↑Pn 1) ?_;refine AY (dpv 115 (vP p 0)) ?_;refine AY (dpv 116 (vP b5 1)) ?_;refine ED (Rx:=((bX b5 #[vI ↑Pn,vI ↑Qn,vS b3 b7.length b4,vS a0 ks.length a1,vS a2 sl.length a3] 26)::[])) (PS _ _ _) (dlb 117 0 1 b5 (vI ↑Qn)) ?_;refine AY (dsb 118 ↑Qn 1) ?_;refine CI (Mx:=fun FX=>((bX p #[.int .u64 f2] 91)::(bX b5 #[vI ↑Pn,vI ↑Qn,vS b3 b7.length b4,vS a0 ks.length a1,vS a2 sl.length a3] 26)::(bX b1 AJ 26)::(hM++(yM++(a5++FX))))) rfl (fun FX=>by simp only [AA,CA,NA,List.append_nil];exact PR _) (fun FX=>?_);refine stp_hk (sbs 108 3 10 #[vI 1,vI 1,vI 2,vI 2,vI 3,vI 4,vI 4,vI 4,vI 5,vI 6] (fun C7=>?_));refine NK (M':=((bX p #[.int .u64 f2] 91)::(bX b5 #[vI ↑Pn,vI ↑Qn,vS b3 b7.length b4,vS a0 ks.length a1,vS a2 sl.length a3] 26)::(bX b1 AJ 26)::([(bX C7 #[vI 1,vI 1,vI 2,vI 2,vI 3,vI 4,vI 4,vI 4,vI 5,vI 6] 3)]++(hM++(yM++(a5++FX)))))) (fun w h=>h.perm ((PS _ _ _).trans (PC _ ((PS _ _ _).trans (PC _ (PS _ _ _)))))) ?_;have T1:Own 3 1 AQ (vS (some ⟨C7,0,none⟩) 10 10) ([(1:Int),(1:Int),(2:Int),(2:Int),(3:Int),(4:Int),(4:Int),(4:Int),(5:Int),(6:Int)]:List Int) [(bX C7 #[vI 1,vI 1,vI 2,vI 2,vI 3,vI 4,vI 4,vI 4,vI 5,vI 6] 3)]:=Own.lit rfl rfl;refine GD (B:=((bX p #[.int .u64 f2] 91)::(bX b5 #[vI ↑Pn,vI ↑Qn,vS b3 b7.length b4,vS a0 ks.length a1,vS a2 sl.length a3] 26)::(bX b1 AJ 26)::(hM++(yM++(a5++FX))))) 0 T1 (by first | omega | (simp only [LS,LC,LN,LA,LK,LD] <;> omega) | decide) (PU (PU PM.symm)) (PR _) (fun a1h d3 m2=>?_);replace b0:=b0.mono d3;replace b2:=b2.mono d3;obtain ⟨a0p,a0r,a0q,a0u,u5,a0s,a0t,a0v⟩:=id m2;cases u5;refine JZ ?_;refine DV (M1:=((bX p #[.int .u64 f2] 91)::(bX b5 #[vI ↑Pn,vI ↑Qn,vS b3 b7.length b4,vS a0 ks.length a1,vS a2 sl.length a3] 26)::(bX b1 AJ 26)::(hM++(yM++(a5++[]))))) (by simp only [AA,CA,NA,List.append_nil];exact (PR _)) (.none (.part (PS _ _ _) (.none (.none (.none (.part (PS _ _ _) (.none (.none (.none (.none (.none (.none (.none (.none (.none .nil))))))))))))))) ?_;refine CI (Mx:=fun FX=>((bX p #[.int .u64 f2] 91)::(bX b5 #[vI ↑Pn,vI ↑Qn,vS b3 b7.length b4,vS a0 ks.length a1,vS a2 sl.length a3] 26)::(bX b1 AJ 26)::(hM++(yM++(a5++FX))))) rfl (fun FX=>by simp only [AA,CA,NA,List.append_nil];exact PR _) (fun FX=>?_);have E4:=One_ct a1h p f2 _ _ m2 (by simp);refine id (sc (some 109) (F:=((bX b5 #[vI ↑Pn,vI ↑Qn,vS b3 b7.length b4,vS a0 ks.length a1,vS a2 sl.length a3] 26)::(bX b1 AJ 26)::(hM++(yM++(a5++FX))))) (E4 :) (PR _) (fun a6e a1i a5o d4 U6=>?_));obtain ⟨l6,a7,B0,y6,Y7⟩:=U6;rw [B0,y6];clear B0 y6;replace b0:=b0.mono d4;replace b2:=b2.mono d4;refine DV (M1:=((bX p #[.int .u64 l6] 91)::(bX b5 #[vI ↑Pn,vI ↑Qn,vS b3 b7.length b4,vS a0 ks.length a1,vS a2 sl.length a3] 26)::(bX b1 AJ 26)::(hM++(yM++(a5++[]))))) (by simp only [AA,CA,NA,List.append_nil];exact (PR _)) (.none (.part (PS _ _ _) (.none (.none (.none (.part (PS _ _ _) (.none (.none (.wt (.none (.none (.none (.none (.none (.none .nil))))))))))))))) ?_;show OFPX _ _ _ _ _ _ _ _ _ _ ((109,vI (a7))::_) _ _;have hkd:1≤(a7)∧(a7)≤6:=by
   have hq:=Y7;simp only [List.mem_cons,List.not_mem_nil,or_false] at hq;omega
  refine CI (Mx:=fun FX=>((bX p #[.int .u64 l6] 91)::(bX b5 #[vI ↑Pn,vI ↑Qn,vS b3 b7.length b4,vS a0 ks.length a1,vS a2 sl.length a3] 26)::(bX b1 AJ 26)::(hM++(yM++(a5++FX))))) rfl (fun FX=>by simp only [AA,CA,NA,List.append_nil];exact PR _) (fun FX=>?_);have E5:=PZ a1i p l6 (↑Pn-1) (by omega);refine id (sc (some 114) (F:=((bX b5 #[vI ↑Pn,vI ↑Qn,vS b3 b7.length b4,vS a0 ks.length a1,vS a2 sl.length a3] 26)::(bX b1 AJ 26)::(hM++(yM++(a5++FX))))) (E5 :) (PR _) (fun a6f a1j a5p d5 U7=>?_));obtain ⟨l7,a4,B1,y7,a5e⟩:=U7;rw [B1,y7];clear B1 y7;replace b0:=b0.mono d5;replace b2:=b2.mono d5;refine DV (M1:=((bX p #[.int .u64 l7] 91)::(bX b5 #[vI ↑Pn,vI ↑Qn,vS b3 b7.length b4,vS a0 ks.length a1,vS a2 sl.length a3] 26)::(bX b1 AJ 26)::(hM++(yM++(a5++[]))))) (by simp only [AA,CA,NA,List.append_nil];exact (PR _)) (.none (.part (PS _ _ _) (.none (.none (.wt (.wt (.wt (.wt (.wt (.none (.none (.none (.none (.none (.none .nil))))))))))))))) ?_;show OFPX _ _ _ _ _ _ _ _ _ _ ((114,vI ↑a4)::_) _ _;refine CI (Mx:=fun FX=>((bX p #[.int .u64 l7] 91)::(bX b5 #[vI ↑Pn,vI ↑Qn,vS b3 b7.length b4,vS a0 ks.length a1,vS a2 sl.length a3] 26)::(bX b1 AJ 26)::(hM++(yM++(a5++FX))))) rfl (fun FX=>by simp only [AA,CA,NA,List.append_nil];exact PR _) (fun FX=>?_);have E6:=PZ a1j p l7 (↑Qn-1) (by omega);refine id (sc (some 119) (F:=((bX b5 #[vI ↑Pn,vI ↑Qn,vS b3 b7.length b4,vS a0 ks.length a1,vS a2 sl.length a3] 26)::(bX b1 AJ 26)::(hM++(yM++(a5++FX))))) (E6 :) (PR _) (fun a6g m7 a5q d6 U8=>?_));obtain ⟨f3,a9,B2,y8,a5f⟩:=U8;rw [B2,y8];clear B2 y8;replace b0:=b0.mono d6;replace b2:=b2.mono d6;refine DV (M1:=((bX p #[.int .u64 f3] 91)::(bX b5 #[vI ↑Pn,vI ↑Qn,vS b3 b7.length b4,vS a0 ks.length a1,vS a2 sl.length a3] 26)::(bX b1 AJ 26)::(hM++(yM++(a5++[]))))) (by simp only [AA,CA,NA,List.append_nil];exact (PR _)) (.wt (.wt (.wt (.wt (.wt (.wt (.wt (.wt (.wt (.none (.none (.none (.none (.none (.none .nil))))))))))))))) ?_;show OFPX _ _ _ _ _ _ _ _ _ _ ((119,vI ↑a9)::_) _ _;refine AF (dpv 120 (.agg #[vI (1+(a8.getD t 0)),vI (h+(e3)),vI (a7),vI ↑a4,vI 0,vI ↑a9,.bool false,vI 0])) ?_;refine ofx_ac rfl (fun a6=>?_);refine ER (AZ (M':=((bX a6 IQ 28)::(bX p #[.int .u64 f3] 91)::(bX b5 #[vI ↑Pn,vI ↑Qn,vS b3 b7.length b4,vS a0 ks.length a1,vS a2 sl.length a3] 26)::(bX b1 AJ 26)::(hM++(yM++(a5++F))))) (fun w h=>by simpa only [AA,CA,NA,List.append_nil] using h) (nm ?_));refine sS (ss 0 0 a6 [vI (1+(a8.getD t 0)),vI (h+(e3)),vI (a7),vI ↑a4,vI 0,vI ↑a9,.bool false,vI 0] [vI (1+(a8.getD t 0)),vI (h+(e3)),vI (a7),vI ↑a4,vI 0,vI ↑a9,.bool false,vI 0] (_::_::_::_::_) (cs:=[_,_,_,_,_,_,_,_]) rfl rfl (se (rq ?_)));refine BV (fun a w=>∃ h2:Int,(0≤h2∧h2≤10*(t+1))∧SE 346 [(0,vP p 0),(1,vI n1),(2,vI n2),(6,vP b1 0),(7,vP b5 0),(8,vS e1 f5.length e2),(16,vI h2),(17,vS e7 a8.length e8),(18,vI ↑t),(19,vP a6 0)] m7 ((bX a6 #[vI (1+(a8.getD t 0)),vI h2,vI (a7),vI ↑a4,vI 0,vI ↑a9,.bool false,vI 0] 28)::(bX p #[.int .u64 f3] 91)::(bX b5 #[vI ↑Pn,vI ↑Qn,vS b3 b7.length b4,vS a0 ks.length a1,vS a2 sl.length a3] 26)::(bX b1 AJ 26)::(hM++(yM++(a5++F)))) a w) ?_ ?_
  ·
   refine rq ?_;refine BV (fun a w=>SE 346 [(0,vP p 0),(1,vI n1),(2,vI n2),(6,vP b1 0),(7,vP b5 0),(8,vS e1 f5.length e2),(16,vI (h+(e3))),(17,vS e7 a8.length e8),(18,vI ↑t),(19,vP a6 0),(152,.bool ((cmp .gtr (↑(sl.length)) 0)&&((cmp .eql (h+(e3)) ((sl.getD (((↑(sl.length))-1:Int).toNat) AB).hour))&&(cmp .lss (1+(a8.getD t 0)) ((sl.getD (((↑(sl.length))-1:Int).toNat) AB).num)))))] m7 ((bX a6 #[vI (1+(a8.getD t 0)),vI (h+(e3)),vI (a7),vI ↑a4,vI 0,vI ↑a9,.bool false,vI 0] 28)::(bX p #[.int .u64 f3] 91)::(bX b5 #[vI ↑Pn,vI ↑Qn,vS b3 b7.length b4,vS a0 ks.length a1,vS a2 sl.length a3] 26)::(bX b1 AJ 26)::(hM++(yM++(a5++F)))) a w) ?_ ?_
   ·
    refine rd0 30 (ox 1 [(121,vP b5 4)] ?_);refine AD (dlb 122 2 4 b5 (vS a2 sl.length a3)) (ox 3 [(125,.bool (cmp .gtr (↑(sl.length)) 0))] ?_);refine IA 125 (fun h6=>?_) (fun h6=>?_)
    ·
     have n7:=h6;have n7:=JY n7;refine ox 1 [(126,vP a6 1)] ?_;refine AD (dlb 127 0 1 a6 (vI (h+(e3)))) (ox 1 [(128,vP b5 4)] ?_);refine AD (dlb 129 2 4 b5 (vS a2 sl.length a3)) (ox 1 [(130,vP b5 4)] ?_);refine AD (dlb 131 2 4 b5 (vS a2 sl.length a3)) (ox 1 [(132,vI (↑(sl.length)))] ?_);refine AD (dsb 133 (↑(sl.length)) 1) ?_;obtain ⟨W6,r1⟩:=c0.row AB;refine AD (diI 134 8 ((↑(sl.length))-1) r1.addr) (ox 1 [(135,.pointer (some ⟨W6,0+(((↑(sl.length))-1:Int).toNat)*8+1,none⟩))] ?_);refine AD (dl 136 (r1.get (((↑(sl.length))-1:Int).toNat) (by omega) 1 (by decide) _ _ (fun x hx=>by simp [hx]))) (ox 3 [(139,.bool (cmp .eql (h+(e3)) ((sl.getD (((↑(sl.length))-1:Int).toNat) AB).hour)))] ?_);refine IA 139 (fun h7=>?_) (fun h7=>?_)
     ·
      have n8:=h7;have n8:=BE n8;refine ox 1 [(140,vP a6 0)] ?_;refine AD (dlb 141 0 0 a6 (vI (1+(a8.getD t 0)))) (ox 1 [(142,vP b5 4)] ?_);refine AD (dlb 143 2 4 b5 (vS a2 sl.length a3)) (ox 1 [(144,vP b5 4)] ?_);refine AD (dlb 145 2 4 b5 (vS a2 sl.length a3)) (ox 1 [(146,vI (↑(sl.length)))] ?_);refine AD (dsb 147 (↑(sl.length)) 1) ?_;obtain ⟨W7,r2⟩:=c0.row AB;refine AD (diI 148 8 ((↑(sl.length))-1) r2.addr) (ox 1 [(149,.pointer (some ⟨W7,0+(((↑(sl.length))-1:Int).toNat)*8,none⟩))] ?_);refine AD (dl 150 (r2.get (((↑(sl.length))-1:Int).toNat) (by omega) 0 (by decide) _ _ (fun x hx=>by simp [hx]))) ?_;refine BA (sp 2 [(152,.bool (cmp .lss (1+(a8.getD t 0)) ((sl.getD (((↑(sl.length))-1:Int).toNat) AB).num)))] (ee ?_));refine AL (fun a w hS hD hW=>⟨hS.sub (sun 10 (.consE 152 rfl (congrArg Value.bool (by simp only [h6,h7,kk])) (.nil _))),hD,hW⟩)
     have n8:=h7;have n8:=BG n8;refine ox 11 [(150,undef),(141,undef)] ?_;refine BA (sp 2 [(152,.bool false)] (ee ?_));refine AL (fun a w hS hD hW=>⟨hS.sub (sun 10 (.consE 152 rfl (congrArg Value.bool (by simp only [h6,h7,kk])) (.nil _))),hD,hW⟩)
    have n7:=h6;have n7:=MB n7;refine ox 25 [(150,undef),(141,undef),(139,.bool false)] ?_;refine BA (sp 2 [(152,.bool false)] (ee ?_));refine AL (fun a w hS hD hW=>⟨hS.sub (sun 10 (.consE 152 rfl (congrArg Value.bool (by simp only [h6,kk])) (.nil _))),hD,hW⟩)
   rintro a w ⟨hS,hD,hW⟩
   refine AU hS hD hW ?_;refine rc 152 rfl (fun h8=>?_) (fun h8=>?_)
   ·
    have a2o:=h8;obtain ⟨Q4,a2n⟩:=LQ h8;have Q4:=JY Q4;obtain ⟨n9,o0⟩:=LQ a2n;have n9:=BE n9;have o0:=BX o0;refine rqr (sp 1 [(153,vI (h+(e3)))] (sd (da 154 (h+(e3)) 1) (sp 1 [(16,vI ((h+(e3))+1))] (se (rr (sp 2 [(156,vP a6 1),(155,vI ((h+(e3))+1))] (sS (ss 0 1 a6 [vI ((h+(e3))+1)] [vI (1+(a8.getD t 0)),vI ((h+(e3))+1),vI (a7),vI ↑a4,vI 0,vI ↑a9,.bool false,vI 0] (_::_::_::_::_) (cs:=[_,_,_,_,_,_,_,_]) rfl rfl (ee ?_)))))))));exact AL (fun a w hS hD hW=>⟨((h+(e3))+1),(by omega),hS.sub su,hD,hW⟩)
   have a2o:=h8;refine AM ?_;exact AL (fun a w hS hD hW=>⟨(h+(e3)),(by omega),hS.sub su,hD,hW⟩)
  rintro a w ⟨h2,hh3,hS,hD,hW⟩
  refine AU hS hD hW ?_;refine rq ?_;refine BV (fun a w=>∃ e5:Imm,∃ so:Bool,∃ K8:Int,(m7.le e5)∧(so=true→(a7)=1∨(a7)=4)∧SE 346 [(0,vP p 0),(1,vI n1),(2,vI n2),(6,vP b1 0),(7,vP b5 0),(8,vS e1 f5.length e2),(16,vI h2),(17,vS e7 a8.length e8),(18,vI ↑t),(19,vP a6 0)] e5 ((bX a6 #[vI (1+(a8.getD t 0)),vI h2,vI (a7),vI ↑a4,vI 0,vI ↑a9,.bool so,vI 0] 28)::(bX p #[.int .u64 K8] 91)::(bX b5 #[vI ↑Pn,vI ↑Qn,vS b3 b7.length b4,vS a0 ks.length a1,vS a2 sl.length a3] 26)::(bX b1 AJ 26)::(hM++(yM++(a5++F)))) a w) ?_ ?_
  ·
   refine rr (sp 1 [(157,vP a6 2)] (sd (dlb 158 0 2 a6 (vI (a7))) (sp 2 [(160,.bool (cmp .eql (a7) 1))] ?_)));refine BB 160 rfl (fun h9=>?_) (fun h9=>?_)
   ·
    have o1:=h9;have o1:=BE o1;refine sp 6 [(166,vP p 0),(165,.bool true)] ?_;have E7:=OC m7 p f3 1 2 (by omega);refine sS (sc (some 167) (F:=((bX a6 #[vI (1+(a8.getD t 0)),vI h2,vI (a7),vI ↑a4,vI 0,vI ↑a9,.bool false,vI 0] 28)::(bX b5 #[vI ↑Pn,vI ↑Qn,vS b3 b7.length b4,vS a0 ks.length a1,vS a2 sl.length a3] 26)::(bX b1 AJ 26)::(hM++(yM++(a5++F))))) (E7 :) (PS _ _ _) (fun a6h a1k a5r j6 U9=>?_));obtain ⟨K3,u8,B3,y9⟩:=U9;rw [B3,y9];clear B3 y9;replace b0:=b0.mono j6;replace b2:=b2.mono j6;refine nm ?_;refine sp 2 [(169,vP a6 6),(168,.bool u8)] (sS (ss 1 6 a6 [.bool u8] [vI (1+(a8.getD t 0)),vI h2,vI (a7),vI ↑a4,vI 0,vI ↑a9,.bool u8,vI 0] (_::_::_::_::_) (cs:=[_,_,_,_,_,_,_,_]) rfl rfl (ee ?_)));exact AL (fun a w hS hD hW=>⟨a1k,u8,K3,j6,(fun hq=>by first | omega | cases hq),hS.sub su,hD,hW.perm (PS _ _ _)⟩)
   have o1:=h9;have o1:=BG o1;refine sp 1 [(161,vP a6 2)] (sd (dlb 162 0 2 a6 (vI (a7))) (sp 3 [(165,.bool (cmp .eql (a7) 4))] ?_));refine BB 165 rfl (fun h10=>?_) (fun h10=>?_)
   ·
    have i8:=h10;have i8:=BE i8;refine sp 1 [(166,vP p 0)] ?_;have E8:=OC m7 p f3 1 2 (by omega);refine sS (sc (some 167) (F:=((bX a6 #[vI (1+(a8.getD t 0)),vI h2,vI (a7),vI ↑a4,vI 0,vI ↑a9,.bool false,vI 0] 28)::(bX b5 #[vI ↑Pn,vI ↑Qn,vS b3 b7.length b4,vS a0 ks.length a1,vS a2 sl.length a3] 26)::(bX b1 AJ 26)::(hM++(yM++(a5++F))))) (E8 :) (PS _ _ _) (fun a6i a1l a5s j7 V0=>?_));obtain ⟨K4,u9,B4,z0⟩:=V0;rw [B4,z0];clear B4 z0;replace b0:=b0.mono j7;replace b2:=b2.mono j7;refine nm ?_;refine sp 2 [(169,vP a6 6),(168,.bool u9)] (sS (ss 1 6 a6 [.bool u9] [vI (1+(a8.getD t 0)),vI h2,vI (a7),vI ↑a4,vI 0,vI ↑a9,.bool u9,vI 0] (_::_::_::_::_) (cs:=[_,_,_,_,_,_,_,_]) rfl rfl (ee ?_)));exact AL (fun a w hS hD hW=>⟨a1l,u9,K4,j7,(fun hq=>by first | omega | cases hq),hS.sub su,hD,hW.perm (PS _ _ _)⟩)
   have i8:=h10;have i8:=BG i8;refine sp 4 [(169,vP a6 6),(168,.bool false)] (sS (ss 0 6 a6 [.bool false] [vI (1+(a8.getD t 0)),vI h2,vI (a7),vI ↑a4,vI 0,vI ↑a9,.bool false,vI 0] (_::_::_::_::_) (cs:=[_,_,_,_,_,_,_,_]) rfl rfl (ee ?_)));exact AL (fun a w hS hD hW=>⟨m7,false,f3,(IR _),(fun hq=>by first | omega | cases hq),hS.sub su,hD,hW⟩)
  rintro a w ⟨e5,so,K8,c1,g0,hS,hD,hW⟩
  refine AU hS hD hW ?_;replace b0:=b0.mono c1;replace b2:=b2.mono c1;refine rq ?_;refine BV (fun a w=>∃ c4:Imm,∃ tn:Nat,∃ j2:Int,(e5.le c4)∧(((a7)=1→tn<Pn∧tn≠a4)∧((a7)≠1→tn=0))∧SE 346 [(0,vP p 0),(1,vI n1),(2,vI n2),(6,vP b1 0),(7,vP b5 0),(8,vS e1 f5.length e2),(16,vI h2),(17,vS e7 a8.length e8),(18,vI ↑t),(19,vP a6 0)] c4 ((bX a6 #[vI (1+(a8.getD t 0)),vI h2,vI (a7),vI ↑a4,vI ↑tn,vI ↑a9,.bool so,vI 0] 28)::(bX p #[.int .u64 j2] 91)::(bX b5 #[vI ↑Pn,vI ↑Qn,vS b3 b7.length b4,vS a0 ks.length a1,vS a2 sl.length a3] 26)::(bX b1 AJ 26)::(hM++(yM++(a5++F)))) a w) ?_ ?_
  ·
   refine rqr (sp 1 [(170,vP a6 2)] (sd (dlb 171 0 2 a6 (vI (a7))) (sp 1 [(172,.bool (cmp .eql (a7) 1))] (se (rc 172 rfl (fun D0=>?_) (fun D0=>?_))))))
   ·
    have P1:=D0;have D0:=BE D0;refine rq (rqr (sp 1 [(173,vP b5 0)] (sd (dlb 174 2 0 b5 (vI ↑Pn)) (sp 1 [(175,.bool (cmp .eql ↑Pn 1))] (se (rc 175 rfl (fun D1=>?_) (fun D1=>?_)))))))
    ·
     have P2:=D1;have D1:=BE D1;refine BR 7 (EP (EP (EB (NX (rr (sp 1 [(90,vI ↑t)] (sd (da 91 ↑t 1) (sp 1 [(18,vI (↑t+1))] (ee ?_)))))))));refine AO (8-(t+1)) (by omega) ?_;intro a w hS hD hW;exact ⟨e5,t+1,h2,sl,hy,yM,K8,vS a2 sl.length a3,a5,(IT (IT (IT (IT (IT (IT (IT (IT (IT hJ3 c6) c7) c8) c9) d3) d4) d5) d6) c1),by omega,(by omega),m6.skip,by simpa only [LS] using p3,(by have d0:=k3.mono (B':=100+50*((t+1:Nat):Int)) (by omega);repeat' (first | exact d0 | refine RowsB.put ?_ ?_ | refine RowB.set ?_ ?_ | refine RowsB.row ?_ ?_ | omega | (simp only [LS];omega))),hye,c0,hS.sub su,hD,(hW.perm (PR _)).sub (TC _ (TR _)),rfl⟩
    have P2:=D1;have D1:=BG D1;refine AM (NX ?_);refine rpm (PC _ ((PS _ _ _).trans (PC _ (PS _ _ _)))) ?_;refine rd 10 [(0,true),(1,true),(2,true),(3,true),(4,true),(5,true),(8,true),(9,true),(6,false),(7,true)] ((bX a6 #[vI (1+(a8.getD t 0)),vI h2,vI (a7),vI ↑a4,vI 0,vI ↑a9,.bool so,vI 0] 28)::(bX b5 #[vI ↑Pn,vI ↑Qn,vS b3 b7.length b4,vS a0 ks.length a1,vS a2 sl.length a3] 26)::(bX b1 AJ 26)::[]) ((bX p #[.int .u64 K8] 91)::(hM++(yM++(a5++F)))) (ox 1 [(176,vP a6 3)] ?_);refine AD (dlb 177 0 3 a6 (vI ↑a4)) (ox 2 [(179,vP b5 0),(178,vP p 0)] ?_);refine AD (dlb 180 1 0 b5 (vI ↑Pn)) ?_;refine AD (dsb 181 ↑Pn 1) (ox 1 [(184,vP b5 0)] ?_);refine AD (dlb 185 1 0 b5 (vI ↑Pn)) ?_;have E9:=PT e5 p K8 1 (↑Pn-1) (by omega) (by omega);refine GA (sc (some 182) (F:=((bX a6 #[vI (1+(a8.getD t 0)),vI h2,vI (a7),vI ↑a4,vI 0,vI ↑a9,.bool so,vI 0] 28)::(bX b5 #[vI ↑Pn,vI ↑Qn,vS b3 b7.length b4,vS a0 ks.length a1,vS a2 sl.length a3] 26)::(bX b1 AJ 26)::(hM++(yM++(a5++F))))) (E9 :) ((PC _ ((PC _ (PS _ _ _)).trans (PS _ _ _))).trans (PS _ _ _)) (fun a6j a1m a5t j8 V1=>?_));obtain ⟨g9,K5,B5,z1,a5g⟩:=V1;rw [B5,z1];clear B5 z1;replace b0:=b0.mono j8;replace b2:=b2.mono j8;refine CG (S':=((bX p #[.int .u64 g9] 91)::(hM++(yM++(a5++F))))) (show List.Perm ((bX p #[.int .u64 g9] 91)::(bX a6 #[vI (1+(a8.getD t 0)),vI h2,vI (a7),vI ↑a4,vI 0,vI ↑a9,.bool so,vI 0] 28)::(bX b5 #[vI ↑Pn,vI ↑Qn,vS b3 b7.length b4,vS a0 ks.length a1,vS a2 sl.length a3] 26)::(bX b1 AJ 26)::(hM++(yM++(a5++F)))) ((bX a6 #[vI (1+(a8.getD t 0)),vI h2,vI (a7),vI ↑a4,vI 0,vI ↑a9,.bool so,vI 0] 28)::(bX b5 #[vI ↑Pn,vI ↑Qn,vS b3 b7.length b4,vS a0 ks.length a1,vS a2 sl.length a3] 26)::(bX b1 AJ 26)::(bX p #[.int .u64 g9] 91)::(hM++(yM++(a5++F)))) from ((PS _ _ _).trans (PC _ ((PS _ _ _).trans (PC _ (PS _ _ _)))))) ?_;show OFP _ _ _ _ _ _ ((182,vI (K5))::_) _ _;refine AD (da 183 ↑a4 (K5)) ?_;refine GX (nm (nm ?_));have G0:=Foldx_ct a1m (↑a4+(K5)) Pn (by omega);refine sS (sc (some 186) (G0 :) (.refl _) (fun a6k a1n a5u j9 V2=>?_));obtain ⟨K6,B6,z2,C3⟩:=V2;rw [B6,z2];clear B6 z2;replace b0:=b0.mono j9;replace b2:=b2.mono j9;refine nm ?_;refine sp 1 [(187,vP a6 4)] (sS (ss 0 4 a6 [vI ↑K6] [vI (1+(a8.getD t 0)),vI h2,vI (a7),vI ↑a4,vI ↑K6,vI ↑a9,.bool so,vI 0] (_::_::_::_::_) (cs:=[_,_,_,_,_,_,_,_]) rfl rfl (ee ?_)));exact AL (fun a w hS hD hW=>⟨a1n,K6,g9,(IT j8 j9),⟨fun _=>⟨by have hq:=C3;omega,other_place (by omega) (by omega) (C3.2 (by omega))⟩,fun hq=>absurd (by omega) hq⟩,hS.sub su,hD,hW.perm (PC _ ((PC _ (PS _ _ _)).trans (PS _ _ _)))⟩)
   have P1:=D0;have D0:=BG D0;refine AM ?_;exact AL (fun a w hS hD hW=>⟨e5,0,K8,(IR _),⟨fun hq=>absurd hq (by omega),fun _=>rfl⟩,hS.sub su,hD,hW⟩)
  rintro a w ⟨c4,tn,j2,c2,k4,hS,hD,hW⟩
  refine AU hS hD hW ?_;replace b0:=b0.mono c2;replace b2:=b2.mono c2;refine rqr (sp 1 [(188,vP a6 5)] (sd (dlb 189 0 5 a6 (vI ↑a9)) (sd (dmu 190 2 ↑a9) (EE 190 rfl (show (vI (2*↑a9):Value)=vI (↑(2*a9)) from congrArg (Value.int .i64) (by omega)) (sp 1 [(20,vI (↑(2*a9)))] (se (rq ?_)))))));refine BV (fun a w=>∃ ix:Nat,(ix<2*Qn∧((a7)=2→ix=2*a9)∧((a7)=3→ix=2*a9+1))∧SE 346 [(0,vP p 0),(1,vI n1),(2,vI n2),(6,vP b1 0),(7,vP b5 0),(8,vS e1 f5.length e2),(16,vI h2),(17,vS e7 a8.length e8),(18,vI ↑t),(19,vP a6 0),(20,vI ↑ix)] c4 ((bX a6 #[vI (1+(a8.getD t 0)),vI h2,vI (a7),vI ↑a4,vI ↑tn,vI ↑a9,.bool so,vI 0] 28)::(bX p #[.int .u64 j2] 91)::(bX b5 #[vI ↑Pn,vI ↑Qn,vS b3 b7.length b4,vS a0 ks.length a1,vS a2 sl.length a3] 26)::(bX b1 AJ 26)::(hM++(yM++(a5++F)))) a w) ?_ ?_
  ·
   refine rq ?_;refine BV (fun a w=>SE 346 [(0,vP p 0),(1,vI n1),(2,vI n2),(6,vP b1 0),(7,vP b5 0),(8,vS e1 f5.length e2),(16,vI h2),(17,vS e7 a8.length e8),(18,vI ↑t),(19,vP a6 0),(20,vI (↑(2*a9))),(202,.bool ((so)||((cmp .eql (a7) 3)||(cmp .eql (a7) 6))))] c4 ((bX a6 #[vI (1+(a8.getD t 0)),vI h2,vI (a7),vI ↑a4,vI ↑tn,vI ↑a9,.bool so,vI 0] 28)::(bX p #[.int .u64 j2] 91)::(bX b5 #[vI ↑Pn,vI ↑Qn,vS b3 b7.length b4,vS a0 ks.length a1,vS a2 sl.length a3] 26)::(bX b1 AJ 26)::(hM++(yM++(a5++F)))) a w) ?_ ?_
   ·
    refine rr (sp 1 [(191,vP a6 6)] (sd (dlb 192 0 6 a6 (.bool so)) (sp 1 [(193,.bool so)] ?_)));refine BB 193 rfl (fun K9=>?_) (fun K9=>?_)
    ·
     have P3:=K9;refine sp 9 [(202,.bool true)] (ee ?_);refine AL (fun a w hS hD hW=>⟨hS.sub (sun 11 (.consE 202 rfl (congrArg Value.bool (by simp only [K9,kk])) (.nil _))),hD,hW⟩)
    have P3:=K9;refine sp 1 [(194,vP a6 2)] (sd (dlb 195 0 2 a6 (vI (a7))) (sp 3 [(198,.bool (cmp .eql (a7) 3))] ?_));refine BB 198 rfl (fun P4=>?_) (fun P4=>?_)
    ·
     have i9:=P4;have i9:=BE i9;refine sp 4 [(202,.bool true)] (ee ?_);refine AL (fun a w hS hD hW=>⟨hS.sub (sun 11 (.consE 202 rfl (congrArg Value.bool (by simp only [K9,P4,kk])) (.nil _))),hD,hW⟩)
    have i9:=P4;have i9:=BG i9;refine sp 1 [(199,vP a6 2)] (sd (dlb 200 0 2 a6 (vI (a7))) (sp 2 [(202,.bool (cmp .eql (a7) 6))] (ee ?_)));refine AL (fun a w hS hD hW=>⟨hS.sub (sun 11 (.consE 202 rfl (congrArg Value.bool (by simp only [K9,P4,kk])) (.nil _))),hD,hW⟩)
   rintro a w ⟨hS,hD,hW⟩
   refine AU hS hD hW ?_;refine rc 202 rfl (fun h15=>?_) (fun h15=>?_)
   ·
    have n6:=h15;refine rr (sp 1 [(203,vI (↑(2*a9)))] (sd (da 204 (↑(2*a9)) 1) (EE 204 rfl (show (vI ((↑(2*a9))+1):Value)=vI (↑(2*a9+1)) from congrArg (Value.int .i64) (by omega)) (sp 1 [(20,vI (↑(2*a9+1)))] (ee ?_)))));exact AL (fun a w hS hD hW=>⟨(2*a9+1),(by have hz:=ix_yes n6 g0;refine ⟨by omega,fun hq=>?_,fun hq=>?_⟩ <;> omega),hS.sub su,hD,hW⟩)
   have n6:=h15;obtain ⟨a3o,P5⟩:=or_f h15;obtain ⟨m4,m5⟩:=or_f P5;have m4:=BG m4;have m5:=BG m5;refine AM ?_;exact AL (fun a w hS hD hW=>⟨(2*a9),(by have hz:=ix_no n6;refine ⟨by omega,fun hq=>?_,fun hq=>?_⟩ <;> omega),hS.sub su,hD,hW⟩)
  rintro a w ⟨ix,hix,hS,hD,hW⟩
  refine AU hS hD hW ?_;refine rq ?_;obtain ⟨e6,c3,e4,M8,f4⟩:=OwnEach.pull hye a4 (by omega);obtain ⟨Y8,Y9,b8,Z0⟩:=e4.shape;rw [b8] at e4;refine FW (M':=(e6++(c3++(bX a6 #[vI (1+(a8.getD t 0)),vI h2,vI (a7),vI ↑a4,vI ↑tn,vI ↑a9,.bool so,vI 0] 28)::(bX p #[.int .u64 j2] 91)::(bX b5 #[vI ↑Pn,vI ↑Qn,vS b3 b7.length b4,vS a0 ks.length a1,vS a2 sl.length a3] 26)::(bX b1 AJ 26)::(hM++(a5++F))))) (fun w h=>?_) ?_
  ·have h2:=h.perm (PU (PU (PU (PU (PO _ _ _)))));have h3:=St.permL (A':=e6++c3) (A:=yM) (by simpa only [AA,List.append_nil] using M8) (by simpa only [AA] using h2)
   simpa only [AA] using h3
  refine FW (M':=((bX a6 #[vI (1+(a8.getD t 0)),vI h2,vI (a7),vI ↑a4,vI ↑tn,vI ↑a9,.bool so,vI 0] 28)::(bX p #[.int .u64 j2] 91)::(bX b5 #[vI ↑Pn,vI ↑Qn,vS b3 b7.length b4,vS a0 ks.length a1,vS a2 sl.length a3] 26)::(bX b1 AJ 26)::(e6++(c3++(hM++(a5++F)))))) (fun w h=>h.perm (((PA _ PM).trans PM).trans (PC _ (((PA _ PM).trans PM).trans (PC _ (((PA _ PM).trans PM).trans (PC _ ((PA _ PM).trans PM)))))))) ?_;have a7p:=k3.at (p:=a4) (i:=ix) (by omega) (by omega);refine rr (sp 2 [(206,vP a6 3),(205,vS e1 f5.length e2)] (sd (dlb 207 0 3 a6 (vI ↑a4)) ?_));obtain ⟨a3y,r3⟩:=m8.row undef;refine sd (di 208 1 a4 r3.addr) (sd (DE (dl 209 (r3.get a4 (by omega) 0 (by decide) _ _ (fun x hx=>by simp [hx]))) b8) (sp 1 [(210,vI ↑ix)] ?_));obtain ⟨a3z,r4⟩:=e4.row 0;refine sd (di 211 1 ix r4.addr) (sd (dl 212 (r4.get ix (by omega) 0 (by decide) _ _ (fun x hx=>by simp [hx]))) (sp 1 [(21,vI ((hy.getD a4 []).getD ix 0))] (se (rq (rqr (sp 1 [(213,vP a6 2)] (sd (dlb 214 0 2 a6 (vI (a7))) (se (rb 8 (rqr (sp 2 [(299,.bool (cmp .eql (a7) 5))] (se (rc 299 rfl (fun D2=>?_) (fun D2=>?_))))))))))))))
  ·
   have P6:=D2;have D2:=BE D2;refine rqr (sp 1 [(301,vP p 0)] ?_);have G1:=PT c4 p j2 1 9 (by omega) (by omega);refine sS (sc (some 302) (F:=((bX a6 #[vI (1+(a8.getD t 0)),vI h2,vI (a7),vI ↑a4,vI ↑tn,vI ↑a9,.bool so,vI 0] 28)::(bX b5 #[vI ↑Pn,vI ↑Qn,vS b3 b7.length b4,vS a0 ks.length a1,vS a2 sl.length a3] 26)::(bX b1 AJ 26)::(e6++(c3++(hM++(a5++F)))))) (G1 :) (PS _ _ _) (fun a6l a1o a5v k0 V3=>?_));obtain ⟨g5,f0,B7,z3,a5h⟩:=V3;rw [B7,z3];clear B7 z3;replace b0:=b0.mono k0;replace b2:=b2.mono k0;refine nm ?_;refine sp 1 [(303,vP a6 7)] (sS (ss 1 7 a6 [vI (f0)] [vI (1+(a8.getD t 0)),vI h2,vI (a7),vI ↑a4,vI ↑tn,vI ↑a9,.bool so,vI (f0)] (_::_::_::_::_) (cs:=[_,_,_,_,_,_,_,_]) rfl rfl (se ?_)));refine rd0 10 (ox 2 [(305,vP a6 3),(304,vS e1 f5.length e2)] ?_);refine AD (dlb 306 1 3 a6 (vI ↑a4)) ?_;obtain ⟨a4a,r5⟩:=m8.row undef;refine AD (di 307 1 a4 r5.addr) ?_;refine AD (DE (dl 308 (r5.get a4 (by omega) 0 (by decide) _ _ (fun x hx=>by simp [hx]))) b8) (ox 3 [(311,vP a6 7),(310,vI ((hy.getD a4 []).getD ix 0)),(309,vI ↑ix)] ?_);refine AD (dlb 312 1 7 a6 (vI (f0))) ?_;refine AD (da 313 ((hy.getD a4 []).getD ix 0) (f0)) ?_;refine BA ?_;obtain ⟨a4b,r6⟩:=e4.row 0;refine sd (di 314 1 ix r6.addr) (sS (BO (T:=3) (x:=(.tmp 314)) (y:=(.tmp 313)) (rc:=fun i f=>AQ ((hy.getD a4 []).getD i 0) f) 0 ix 0 (((hy.getD a4 []).getD ix 0)+(f0)) (ty:=0) (gd:=none) (by kernel_rfl) rfl e4 r6 (by omega) (by decide) rfl rfl (by kernel_rfl) rfl rfl (by intro f hf;match f,hf with | 0,_=>rfl) (PU (PU (PU PM.symm))) (fun v2 T2=>(pm (M':=((bX p #[.int .u64 g5] 91)::(bX a6 #[vI (1+(a8.getD t 0)),vI h2,vI (a7),vI ↑a4,vI ↑tn,vI ↑a9,.bool so,vI (f0)] 28)::(bX b5 #[vI ↑Pn,vI ↑Qn,vS b3 b7.length b4,vS a0 ks.length a1,vS a2 sl.length a3] 26)::(bX b1 AJ 26)::(v2++(c3++(hM++(a5++F)))))) (PW (PW (PW PM))) (ee (NB (NX ?_)))))));obtain ⟨h0,o2,M9⟩:=f4 _ _ _ T2;have G5:=o2.same b8;refine FW (M':=(h0++(bX p #[.int .u64 g5] 91)::(bX a6 #[vI (1+(a8.getD t 0)),vI h2,vI (a7),vI ↑a4,vI ↑tn,vI ↑a9,.bool so,vI (f0)] 28)::(bX b5 #[vI ↑Pn,vI ↑Qn,vS b3 b7.length b4,vS a0 ks.length a1,vS a2 sl.length a3] 26)::(bX b1 AJ 26)::(hM++(a5++F)))) (fun w h=>?_) ?_
   ·have h2:=h.perm ((PU (PU (PU PM.symm))).trans (PA _ (PU (PU (PU PM.symm)))));simp only [← AA] at h2;have h3:=St.permL (A':=h0) (A:=v2++c3) (by simpa only [AA,List.append_nil] using M9.symm) (by simpa only [AA] using h2)
    simpa only [AA] using h3
   refine FW (M':=((bX p #[.int .u64 g5] 91)::(bX a6 #[vI (1+(a8.getD t 0)),vI h2,vI (a7),vI ↑a4,vI ↑tn,vI ↑a9,.bool so,vI (f0)] 28)::(bX b5 #[vI ↑Pn,vI ↑Qn,vS b3 b7.length b4,vS a0 ks.length a1,vS a2 sl.length a3] 26)::(bX b1 AJ 26)::(h0++(hM++(a5++F))))) (fun w h=>h.perm (PW (PW (PW PM)))) (rr (sp 1 [(339,vP b5 4)] (sd (dlb 340 2 4 b5 (vS a2 sl.length a3)) (sd (dnb 341 1 0 a6 [vI (1+(a8.getD t 0)),vI h2,vI (a7),vI ↑a4,vI ↑tn,vI ↑a9,.bool so,vI (f0)]) (sS (sbs 342 28 1 #[vI (1+(a8.getD t 0)),vI h2,vI (a7),vI ↑a4,vI ↑tn,vI ↑a9,.bool so,vI (f0)] (fun a7a=>(sS (sap (d:=343) 340 342 24 28 8 64 (.agg IQ) AX sl [(⟨1+(a8.getD t 0),h2,(a7),↑a4,↑tn,↑a9,so,(f0)⟩:Slip)] a5 rfl rfl c0 (PU (PU (PU (PU (PU (PV (PO _ _ _))))))) (CD _) (DI 0 rfl rfl) (fun a9b v3 z8=>(AZ (M':=((bX p #[.int .u64 g5] 91)::(bX a6 #[vI (1+(a8.getD t 0)),vI h2,vI (a7),vI ↑a4,vI ↑tn,vI ↑a9,.bool so,vI (f0)] 28)::(bX b5 #[vI ↑Pn,vI ↑Qn,vS b3 b7.length b4,vS a0 ks.length a1,vS a2 sl.length a3] 26)::(bX b1 AJ 26)::(v3++(h0++(hM++F))))) (fun w h=>(h.perm (PW (PW (PW (PW PM))))).sub (TC _ (TR _))) ?_)))))))))));obtain ⟨p6,q4,rfl,a4v⟩:=z8.shape;refine sp 1 [(344,vP b5 4)] (sS (ss 2 4 b5 [vS p6 (sl++([(⟨1+(a8.getD t 0),h2,(a7),↑a4,↑tn,↑a9,so,(f0)⟩:Slip)])).length q4] [vI ↑Pn,vI ↑Qn,vS b3 b7.length b4,vS a0 ks.length a1,vS p6 (sl++([(⟨1+(a8.getD t 0),h2,(a7),↑a4,↑tn,↑a9,so,(f0)⟩:Slip)])).length q4] (_::_::_::_::_) (cs:=[_,_,_,_,_]) rfl rfl (ee (NB (NX (rr (sp 1 [(90,vI ↑t)] (sd (da 91 ↑t 1) (sp 1 [(18,vI (↑t+1))] (ee ?_))))))))));refine AO (8-(t+1)) (by omega) ?_;intro a w hS hD hW;exact ⟨a1o,t+1,h2,sl++([(⟨1+(a8.getD t 0),h2,(a7),↑a4,↑tn,↑a9,so,(f0)⟩:Slip)]),hy.set a4 ((hy.getD a4 []).set ix (((hy.getD a4 []).getD ix 0)+(f0))),h0,g5,vS p6 (sl++([(⟨1+(a8.getD t 0),h2,(a7),↑a4,↑tn,↑a9,so,(f0)⟩:Slip)])).length q4,v3,(IT (IT (IT (IT (IT (IT (IT (IT (IT (IT (IT hJ3 c6) c7) c8) c9) d3) d4) d5) d6) c1) c2) k0),by omega,(by omega),m6.snoc (HG t8) (by omega) rfl (IZ (by dsimp only;omega) (by dsimp only;omega) (by dsimp only;omega) (by dsimp only;omega) (fun hq=>by dsimp only at hq ⊢;have hz:=k4.1 hq;omega) (fun hq=>by dsimp only at hq ⊢;have hz:=k4.2 hq;omega) (by dsimp only;omega) g0 (by dsimp only;omega) (by dsimp only;omega)),by simpa only [LS] using p3,(by have d0:=k3.mono (B':=100+50*((t+1:Nat):Int)) (by omega);repeat' (first | exact d0 | refine RowsB.put ?_ ?_ | refine RowB.set ?_ ?_ | refine RowsB.row ?_ ?_ | omega | (simp only [LS];omega))),G5,z8,hS.sub su,hD,(hW.perm ((PS _ _ _).trans (PC _ (PC _ (PC _ (PC _ ((PV (PO _ _ _)).trans (PA _ (PO _ _ _))))))))).sub (TC _ (TR _)),rfl⟩
  have P6:=D2;have D2:=BG D2;refine rqr (sp 2 [(315,.bool (cmp .eql (a7) 4))] (se (rc 315 rfl (fun D3=>?_) (fun D3=>?_))))
  ·
   have P7:=D3;have D3:=BE D3;refine rq (rqr (sp 2 [(318,.bool (cmp .gtr ((hy.getD a4 []).getD ix 0) 50))] (se (rc 318 rfl (fun D4=>?_) (fun D4=>?_)))))
   ·
    have P8:=D4;have D4:=JY D4;refine BR 7 (EP (NM (by decide) (EP (EB (NX (rr (sp 1 [(90,vI ↑t)] (sd (da 91 ↑t 1) (sp 1 [(18,vI (↑t+1))] (ee ?_))))))))));obtain ⟨l8,o3,O0⟩:=f4 _ _ _ e4;have G6:=o3.same b8;refine MN (I':=c4) (M':=(l8++(bX a6 #[vI (1+(a8.getD t 0)),vI h2,vI (a7),vI ↑a4,vI ↑tn,vI ↑a9,.bool so,vI 0] 28)::(bX p #[.int .u64 j2] 91)::(bX b5 #[vI ↑Pn,vI ↑Qn,vS b3 b7.length b4,vS a0 ks.length a1,vS a2 sl.length a3] 26)::(bX b1 AJ 26)::(hM++(a5++F)))) (fun w h=>?_) ?_
    ·have h2:=h.perm ((PU (PU (PU PM.symm))).trans (PA _ (PU (PU (PU PM.symm)))));simp only [← AA] at h2;have h3:=St.permL (A':=l8) (A:=e6++c3) (by simpa only [AA,List.append_nil] using O0.symm) (by simpa only [AA] using h2)
     simpa only [AA] using h3
    refine ppm (M':=((bX a6 #[vI (1+(a8.getD t 0)),vI h2,vI (a7),vI ↑a4,vI ↑tn,vI ↑a9,.bool so,vI 0] 28)::(bX p #[.int .u64 j2] 91)::(bX b5 #[vI ↑Pn,vI ↑Qn,vS b3 b7.length b4,vS a0 ks.length a1,vS a2 sl.length a3] 26)::(bX b1 AJ 26)::(l8++(hM++(a5++F))))) (PW (PW (PW PM))) ?_;refine AO (8-(t+1)) (by omega) ?_;intro a w hS hD hW;exact ⟨c4,t+1,h2,sl,hy.set a4 (hy.getD a4 []),l8,j2,vS a2 sl.length a3,a5,(IT (IT (IT (IT (IT (IT (IT (IT (IT (IT hJ3 c6) c7) c8) c9) d3) d4) d5) d6) c1) c2),by omega,(by omega),m6.skip,by simpa only [LS] using p3,(by have d0:=k3.mono (B':=100+50*((t+1:Nat):Int)) (by omega);repeat' (first | exact d0 | refine RowsB.put ?_ ?_ | refine RowB.set ?_ ?_ | refine RowsB.row ?_ ?_ | omega | (simp only [LS];omega))),G6,c0,hS.sub su,hD,(hW.perm (PC _ (PC _ (PC _ (PC _ (PO _ _ _)))))).sub (TC _ (TR _)),rfl⟩
   have P8:=D4;have D4:=MB D4;refine AM (NX (rqr (sp 2 [(320,vP a6 7),(319,vI ((hy.getD a4 []).getD ix 0))] (sS (ss 0 7 a6 [vI ((hy.getD a4 []).getD ix 0)] [vI (1+(a8.getD t 0)),vI h2,vI (a7),vI ↑a4,vI ↑tn,vI ↑a9,.bool so,vI ((hy.getD a4 []).getD ix 0)] (_::_::_::_::_) (cs:=[_,_,_,_,_,_,_,_]) rfl rfl (se (rq (rqr (sp 2 [(322,vI n2),(321,vP p 0)] ?_)))))))));have G2:=OC c4 p j2 n2 10 (by omega);refine sS (sc (some 323) (F:=((bX a6 #[vI (1+(a8.getD t 0)),vI h2,vI (a7),vI ↑a4,vI ↑tn,vI ↑a9,.bool so,vI ((hy.getD a4 []).getD ix 0)] 28)::(bX b5 #[vI ↑Pn,vI ↑Qn,vS b3 b7.length b4,vS a0 ks.length a1,vS a2 sl.length a3] 26)::(bX b1 AJ 26)::(e6++(c3++(hM++(a5++F)))))) (G2 :) (PS _ _ _) (fun a6m M3 a5x g7 V4=>?_));obtain ⟨f8,a8h,B8,z4⟩:=V4;rw [B8,z4];clear B8 z4;replace b0:=b0.mono g7;replace b2:=b2.mono g7;refine nm (se ?_);refine rc 323 rfl (fun h19=>?_) (fun h19=>?_)
   ·
    have P9:=h19;refine rr (sp 2 [(325,vI ((hy.getD a4 []).getD ix 0)),(324,vP p 0)] (sd (da 326 ((hy.getD a4 []).getD ix 0) 3) (sp 1 [(327,vI (if (((hy.getD a4 []).getD ix 0)+3:Int)<(50:Int) then ((hy.getD a4 []).getD ix 0)+3 else 50))] ?_)));have G3:=PZ M3 p f8 (if (((hy.getD a4 []).getD ix 0)+3:Int)<(50:Int) then ((hy.getD a4 []).getD ix 0)+3 else 50) (by omega);refine sS (sc (some 328) (F:=((bX a6 #[vI (1+(a8.getD t 0)),vI h2,vI (a7),vI ↑a4,vI ↑tn,vI ↑a9,.bool so,vI ((hy.getD a4 []).getD ix 0)] 28)::(bX b5 #[vI ↑Pn,vI ↑Qn,vS b3 b7.length b4,vS a0 ks.length a1,vS a2 sl.length a3] 26)::(bX b1 AJ 26)::(e6++(c3++(hM++(a5++F)))))) (G3 :) (.refl _) (fun a6n a1p a5y k1 V5=>?_));obtain ⟨g6,f1,B9,z5,a5i⟩:=V5;rw [B9,z5];clear B9 z5;replace b0:=b0.mono k1;replace b2:=b2.mono k1;refine nm ?_;refine sp 1 [(329,vP a6 7)] (sS (ss 1 7 a6 [vI ↑f1] [vI (1+(a8.getD t 0)),vI h2,vI (a7),vI ↑a4,vI ↑tn,vI ↑a9,.bool so,vI ↑f1] (_::_::_::_::_) (cs:=[_,_,_,_,_,_,_,_]) rfl rfl (se ?_)));refine rd0 8 (ox 2 [(331,vP a6 3),(330,vS e1 f5.length e2)] ?_);refine AD (dlb 332 1 3 a6 (vI ↑a4)) ?_;obtain ⟨a4c,r7⟩:=m8.row undef;refine AD (di 333 1 a4 r7.addr) ?_;refine AD (DE (dl 334 (r7.get a4 (by omega) 0 (by decide) _ _ (fun x hx=>by simp [hx]))) b8) (ox 2 [(336,vP a6 7),(335,vI ↑ix)] ?_);refine AD (dlb 337 1 7 a6 (vI ↑f1)) ?_;refine BA ?_;obtain ⟨a4d,r8⟩:=e4.row 0;refine sd (di 338 1 ix r8.addr) (sS (BO (T:=3) (x:=(.tmp 338)) (y:=(.tmp 337)) (rc:=fun i f=>AQ ((hy.getD a4 []).getD i 0) f) 0 ix 0 ↑f1 (ty:=0) (gd:=none) (by kernel_rfl) rfl e4 r8 (by omega) (by decide) rfl rfl (by kernel_rfl) rfl rfl (by intro f hf;match f,hf with | 0,_=>rfl) (PU (PU (PU PM.symm))) (fun v4 T3=>(pm (M':=((bX p #[.int .u64 g6] 91)::(bX a6 #[vI (1+(a8.getD t 0)),vI h2,vI (a7),vI ↑a4,vI ↑tn,vI ↑a9,.bool so,vI ↑f1] 28)::(bX b5 #[vI ↑Pn,vI ↑Qn,vS b3 b7.length b4,vS a0 ks.length a1,vS a2 sl.length a3] 26)::(bX b1 AJ 26)::(v4++(c3++(hM++(a5++F)))))) (PW (PW (PW PM))) (ee (NB (NX ?_)))))));obtain ⟨i0,o4,O1⟩:=f4 _ _ _ T3;have G7:=o4.same b8;refine FW (M':=(i0++(bX p #[.int .u64 g6] 91)::(bX a6 #[vI (1+(a8.getD t 0)),vI h2,vI (a7),vI ↑a4,vI ↑tn,vI ↑a9,.bool so,vI ↑f1] 28)::(bX b5 #[vI ↑Pn,vI ↑Qn,vS b3 b7.length b4,vS a0 ks.length a1,vS a2 sl.length a3] 26)::(bX b1 AJ 26)::(hM++(a5++F)))) (fun w h=>?_) ?_
    ·have h2:=h.perm ((PU (PU (PU PM.symm))).trans (PA _ (PU (PU (PU PM.symm)))));simp only [← AA] at h2;have h3:=St.permL (A':=i0) (A:=v4++c3) (by simpa only [AA,List.append_nil] using O1.symm) (by simpa only [AA] using h2)
     simpa only [AA] using h3
    refine FW (M':=((bX p #[.int .u64 g6] 91)::(bX a6 #[vI (1+(a8.getD t 0)),vI h2,vI (a7),vI ↑a4,vI ↑tn,vI ↑a9,.bool so,vI ↑f1] 28)::(bX b5 #[vI ↑Pn,vI ↑Qn,vS b3 b7.length b4,vS a0 ks.length a1,vS a2 sl.length a3] 26)::(bX b1 AJ 26)::(i0++(hM++(a5++F))))) (fun w h=>h.perm (PW (PW (PW PM)))) (rr (sp 1 [(339,vP b5 4)] (sd (dlb 340 2 4 b5 (vS a2 sl.length a3)) (sd (dnb 341 1 0 a6 [vI (1+(a8.getD t 0)),vI h2,vI (a7),vI ↑a4,vI ↑tn,vI ↑a9,.bool so,vI ↑f1]) (sS (sbs 342 28 1 #[vI (1+(a8.getD t 0)),vI h2,vI (a7),vI ↑a4,vI ↑tn,vI ↑a9,.bool so,vI ↑f1] (fun a7b=>(sS (sap (d:=343) 340 342 24 28 8 64 (.agg IQ) AX sl [(⟨1+(a8.getD t 0),h2,(a7),↑a4,↑tn,↑a9,so,↑f1⟩:Slip)] a5 rfl rfl c0 (PU (PU (PU (PU (PU (PV (PO _ _ _))))))) (CD _) (DI 0 rfl rfl) (fun a9c v5 z9=>(AZ (M':=((bX p #[.int .u64 g6] 91)::(bX a6 #[vI (1+(a8.getD t 0)),vI h2,vI (a7),vI ↑a4,vI ↑tn,vI ↑a9,.bool so,vI ↑f1] 28)::(bX b5 #[vI ↑Pn,vI ↑Qn,vS b3 b7.length b4,vS a0 ks.length a1,vS a2 sl.length a3] 26)::(bX b1 AJ 26)::(v5++(i0++(hM++F))))) (fun w h=>(h.perm (PW (PW (PW (PW PM))))).sub (TC _ (TR _))) ?_)))))))))));obtain ⟨p7,q5,rfl,a4x⟩:=z9.shape;refine sp 1 [(344,vP b5 4)] (sS (ss 2 4 b5 [vS p7 (sl++([(⟨1+(a8.getD t 0),h2,(a7),↑a4,↑tn,↑a9,so,↑f1⟩:Slip)])).length q5] [vI ↑Pn,vI ↑Qn,vS b3 b7.length b4,vS a0 ks.length a1,vS p7 (sl++([(⟨1+(a8.getD t 0),h2,(a7),↑a4,↑tn,↑a9,so,↑f1⟩:Slip)])).length q5] (_::_::_::_::_) (cs:=[_,_,_,_,_]) rfl rfl (ee (NB (NX (rr (sp 1 [(90,vI ↑t)] (sd (da 91 ↑t 1) (sp 1 [(18,vI (↑t+1))] (ee ?_))))))))));refine AO (8-(t+1)) (by omega) ?_;intro a w hS hD hW;exact ⟨a1p,t+1,h2,sl++([(⟨1+(a8.getD t 0),h2,(a7),↑a4,↑tn,↑a9,so,↑f1⟩:Slip)]),hy.set a4 ((hy.getD a4 []).set ix ↑f1),i0,g6,vS p7 (sl++([(⟨1+(a8.getD t 0),h2,(a7),↑a4,↑tn,↑a9,so,↑f1⟩:Slip)])).length q5,v5,(IT (IT (IT (IT (IT (IT (IT (IT (IT (IT (IT (IT hJ3 c6) c7) c8) c9) d3) d4) d5) d6) c1) c2) g7) k1),by omega,(by omega),m6.snoc (HG t8) (by omega) rfl (IZ (by dsimp only;omega) (by dsimp only;omega) (by dsimp only;omega) (by dsimp only;omega) (fun hq=>by dsimp only at hq ⊢;have hz:=k4.1 hq;omega) (fun hq=>by dsimp only at hq ⊢;have hz:=k4.2 hq;omega) (by dsimp only;omega) g0 (by dsimp only;omega) (by dsimp only;omega)),by simpa only [LS] using p3,(by have d0:=k3.mono (B':=100+50*((t+1:Nat):Int)) (by omega);repeat' (first | exact d0 | refine RowsB.put ?_ ?_ | refine RowB.set ?_ ?_ | refine RowsB.row ?_ ?_ | omega | (simp only [LS];omega))),G7,z9,hS.sub su,hD,(hW.perm ((PS _ _ _).trans (PC _ (PC _ (PC _ (PC _ ((PV (PO _ _ _)).trans (PA _ (PO _ _ _))))))))).sub (TC _ (TR _)),rfl⟩
   have P9:=h19;refine AM (NX ?_);refine rd0 8 (ox 2 [(331,vP a6 3),(330,vS e1 f5.length e2)] ?_);refine AD (dlb 332 1 3 a6 (vI ↑a4)) ?_;obtain ⟨a4e,s0⟩:=m8.row undef;refine AD (di 333 1 a4 s0.addr) ?_;refine AD (DE (dl 334 (s0.get a4 (by omega) 0 (by decide) _ _ (fun x hx=>by simp [hx]))) b8) (ox 2 [(336,vP a6 7),(335,vI ↑ix)] ?_);refine AD (dlb 337 1 7 a6 (vI ((hy.getD a4 []).getD ix 0))) ?_;refine BA ?_;obtain ⟨a4f,s1⟩:=e4.row 0;refine sd (di 338 1 ix s1.addr) (sS (BO (T:=3) (x:=(.tmp 338)) (y:=(.tmp 337)) (rc:=fun i f=>AQ ((hy.getD a4 []).getD i 0) f) 0 ix 0 ((hy.getD a4 []).getD ix 0) (ty:=0) (gd:=none) (by kernel_rfl) rfl e4 s1 (by omega) (by decide) rfl rfl (by kernel_rfl) rfl rfl (by intro f hf;match f,hf with | 0,_=>rfl) (PU (PU (PU PM.symm))) (fun v6 T4=>(pm (M':=((bX p #[.int .u64 f8] 91)::(bX a6 #[vI (1+(a8.getD t 0)),vI h2,vI (a7),vI ↑a4,vI ↑tn,vI ↑a9,.bool so,vI ((hy.getD a4 []).getD ix 0)] 28)::(bX b5 #[vI ↑Pn,vI ↑Qn,vS b3 b7.length b4,vS a0 ks.length a1,vS a2 sl.length a3] 26)::(bX b1 AJ 26)::(v6++(c3++(hM++(a5++F)))))) (PW (PW (PW PM))) (ee (NB (NX ?_)))))));obtain ⟨i1,o5,O2⟩:=f4 _ _ _ T4;have G8:=o5.same b8;refine FW (M':=(i1++(bX p #[.int .u64 f8] 91)::(bX a6 #[vI (1+(a8.getD t 0)),vI h2,vI (a7),vI ↑a4,vI ↑tn,vI ↑a9,.bool so,vI ((hy.getD a4 []).getD ix 0)] 28)::(bX b5 #[vI ↑Pn,vI ↑Qn,vS b3 b7.length b4,vS a0 ks.length a1,vS a2 sl.length a3] 26)::(bX b1 AJ 26)::(hM++(a5++F)))) (fun w h=>?_) ?_
   ·have h2:=h.perm ((PU (PU (PU PM.symm))).trans (PA _ (PU (PU (PU PM.symm)))));simp only [← AA] at h2;have h3:=St.permL (A':=i1) (A:=v6++c3) (by simpa only [AA,List.append_nil] using O2.symm) (by simpa only [AA] using h2)
    simpa only [AA] using h3
   refine FW (M':=((bX p #[.int .u64 f8] 91)::(bX a6 #[vI (1+(a8.getD t 0)),vI h2,vI (a7),vI ↑a4,vI ↑tn,vI ↑a9,.bool so,vI ((hy.getD a4 []).getD ix 0)] 28)::(bX b5 #[vI ↑Pn,vI ↑Qn,vS b3 b7.length b4,vS a0 ks.length a1,vS a2 sl.length a3] 26)::(bX b1 AJ 26)::(i1++(hM++(a5++F))))) (fun w h=>h.perm (PW (PW (PW PM)))) (rr (sp 1 [(339,vP b5 4)] (sd (dlb 340 2 4 b5 (vS a2 sl.length a3)) (sd (dnb 341 1 0 a6 [vI (1+(a8.getD t 0)),vI h2,vI (a7),vI ↑a4,vI ↑tn,vI ↑a9,.bool so,vI ((hy.getD a4 []).getD ix 0)]) (sS (sbs 342 28 1 #[vI (1+(a8.getD t 0)),vI h2,vI (a7),vI ↑a4,vI ↑tn,vI ↑a9,.bool so,vI ((hy.getD a4 []).getD ix 0)] (fun a7c=>(sS (sap (d:=343) 340 342 24 28 8 64 (.agg IQ) AX sl [(⟨1+(a8.getD t 0),h2,(a7),↑a4,↑tn,↑a9,so,(hy.getD a4 []).getD ix 0⟩:Slip)] a5 rfl rfl c0 (PU (PU (PU (PU (PU (PV (PO _ _ _))))))) (CD _) (DI 0 rfl rfl) (fun a9d v7 A0=>(AZ (M':=((bX p #[.int .u64 f8] 91)::(bX a6 #[vI (1+(a8.getD t 0)),vI h2,vI (a7),vI ↑a4,vI ↑tn,vI ↑a9,.bool so,vI ((hy.getD a4 []).getD ix 0)] 28)::(bX b5 #[vI ↑Pn,vI ↑Qn,vS b3 b7.length b4,vS a0 ks.length a1,vS a2 sl.length a3] 26)::(bX b1 AJ 26)::(v7++(i1++(hM++F))))) (fun w h=>(h.perm (PW (PW (PW (PW PM))))).sub (TC _ (TR _))) ?_)))))))))));obtain ⟨p8,q6,rfl,a4y⟩:=A0.shape;refine sp 1 [(344,vP b5 4)] (sS (ss 2 4 b5 [vS p8 (sl++([(⟨1+(a8.getD t 0),h2,(a7),↑a4,↑tn,↑a9,so,(hy.getD a4 []).getD ix 0⟩:Slip)])).length q6] [vI ↑Pn,vI ↑Qn,vS b3 b7.length b4,vS a0 ks.length a1,vS p8 (sl++([(⟨1+(a8.getD t 0),h2,(a7),↑a4,↑tn,↑a9,so,(hy.getD a4 []).getD ix 0⟩:Slip)])).length q6] (_::_::_::_::_) (cs:=[_,_,_,_,_]) rfl rfl (ee (NB (NX (rr (sp 1 [(90,vI ↑t)] (sd (da 91 ↑t 1) (sp 1 [(18,vI (↑t+1))] (ee ?_))))))))));refine AO (8-(t+1)) (by omega) ?_;intro a w hS hD hW;exact ⟨M3,t+1,h2,sl++([(⟨1+(a8.getD t 0),h2,(a7),↑a4,↑tn,↑a9,so,(hy.getD a4 []).getD ix 0⟩:Slip)]),hy.set a4 ((hy.getD a4 []).set ix ((hy.getD a4 []).getD ix 0)),i1,f8,vS p8 (sl++([(⟨1+(a8.getD t 0),h2,(a7),↑a4,↑tn,↑a9,so,(hy.getD a4 []).getD ix 0⟩:Slip)])).length q6,v7,(IT (IT (IT (IT (IT (IT (IT (IT (IT (IT (IT hJ3 c6) c7) c8) c9) d3) d4) d5) d6) c1) c2) g7),by omega,(by omega),m6.snoc (HG t8) (by omega) rfl (IZ (by dsimp only;omega) (by dsimp only;omega) (by dsimp only;omega) (by dsimp only;omega) (fun hq=>by dsimp only at hq ⊢;have hz:=k4.1 hq;omega) (fun hq=>by dsimp only at hq ⊢;have hz:=k4.2 hq;omega) (by dsimp only;omega) g0 (by dsimp only;omega) (by dsimp only;omega)),by simpa only [LS] using p3,(by have d0:=k3.mono (B':=100+50*((t+1:Nat):Int)) (by omega);repeat' (first | exact d0 | refine RowsB.put ?_ ?_ | refine RowB.set ?_ ?_ | refine RowsB.row ?_ ?_ | omega | (simp only [LS];omega))),G8,A0,hS.sub su,hD,(hW.perm ((PS _ _ _).trans (PC _ (PC _ (PC _ (PC _ ((PV (PO _ _ _)).trans (PA _ (PO _ _ _))))))))).sub (TC _ (TR _)),rfl⟩
  have P7:=D3;have D3:=BG D3;refine rq (rqr (sp 2 [(216,.bool (cmp .eql ((hy.getD a4 []).getD ix 0) 0))] (se (rc 216 rfl (fun D5=>?_) (fun D5=>?_)))))
  ·
   have Q0:=D5;have D5:=BE D5;refine BR 7 (EP (NM (by decide) (EP (EB (NX (rr (sp 1 [(90,vI ↑t)] (sd (da 91 ↑t 1) (sp 1 [(18,vI (↑t+1))] (ee ?_))))))))));obtain ⟨l9,o6,O3⟩:=f4 _ _ _ e4;have G9:=o6.same b8;refine MN (I':=c4) (M':=(l9++(bX a6 #[vI (1+(a8.getD t 0)),vI h2,vI (a7),vI ↑a4,vI ↑tn,vI ↑a9,.bool so,vI 0] 28)::(bX p #[.int .u64 j2] 91)::(bX b5 #[vI ↑Pn,vI ↑Qn,vS b3 b7.length b4,vS a0 ks.length a1,vS a2 sl.length a3] 26)::(bX b1 AJ 26)::(hM++(a5++F)))) (fun w h=>?_) ?_
   ·have h2:=h.perm ((PU (PU (PU PM.symm))).trans (PA _ (PU (PU (PU PM.symm)))));simp only [← AA] at h2;have h3:=St.permL (A':=l9) (A:=e6++c3) (by simpa only [AA,List.append_nil] using O3.symm) (by simpa only [AA] using h2)
    simpa only [AA] using h3
   refine ppm (M':=((bX a6 #[vI (1+(a8.getD t 0)),vI h2,vI (a7),vI ↑a4,vI ↑tn,vI ↑a9,.bool so,vI 0] 28)::(bX p #[.int .u64 j2] 91)::(bX b5 #[vI ↑Pn,vI ↑Qn,vS b3 b7.length b4,vS a0 ks.length a1,vS a2 sl.length a3] 26)::(bX b1 AJ 26)::(l9++(hM++(a5++F))))) (PW (PW (PW PM))) ?_;refine AO (8-(t+1)) (by omega) ?_;intro a w hS hD hW;exact ⟨c4,t+1,h2,sl,hy.set a4 (hy.getD a4 []),l9,j2,vS a2 sl.length a3,a5,(IT (IT (IT (IT (IT (IT (IT (IT (IT (IT hJ3 c6) c7) c8) c9) d3) d4) d5) d6) c1) c2),by omega,(by omega),m6.skip,by simpa only [LS] using p3,(by have d0:=k3.mono (B':=100+50*((t+1:Nat):Int)) (by omega);repeat' (first | exact d0 | refine RowsB.put ?_ ?_ | refine RowB.set ?_ ?_ | refine RowsB.row ?_ ?_ | omega | (simp only [LS];omega))),G9,c0,hS.sub su,hD,(hW.perm (PC _ (PC _ (PC _ (PC _ (PO _ _ _)))))).sub (TC _ (TR _)),rfl⟩
  have Q0:=D5;have D5:=BG D5;refine AM (NX (rqr (sp 3 [(219,vI (if ((hy.getD a4 []).getD ix 0:Int)<(50:Int) then (hy.getD a4 []).getD ix 0 else 50)),(217,vP p 0)] ?_)));have G4:=PT c4 p j2 1 (if ((hy.getD a4 []).getD ix 0:Int)<(50:Int) then (hy.getD a4 []).getD ix 0 else 50) (by omega) (by omega);refine sS (sc (some 220) (F:=((bX a6 #[vI (1+(a8.getD t 0)),vI h2,vI (a7),vI ↑a4,vI ↑tn,vI ↑a9,.bool so,vI 0] 28)::(bX b5 #[vI ↑Pn,vI ↑Qn,vS b3 b7.length b4,vS a0 ks.length a1,vS a2 sl.length a3] 26)::(bX b1 AJ 26)::(e6++(c3++(hM++(a5++F)))))) (G4 :) (PS _ _ _) (fun a6o t9 a5z f6 V6=>?_));obtain ⟨b9,b6,C0,z6,a5j⟩:=V6;rw [C0,z6];clear C0 z6;replace b0:=b0.mono f6;replace b2:=b2.mono f6;refine nm ?_;refine sp 1 [(221,vP a6 7)] (sS (ss 1 7 a6 [vI (b6)] [vI (1+(a8.getD t 0)),vI h2,vI (a7),vI ↑a4,vI ↑tn,vI ↑a9,.bool so,vI (b6)] (_::_::_::_::_) (cs:=[_,_,_,_,_,_,_,_]) rfl rfl (se (rq ?_))));refine rd0 10 (ox 2 [(223,vP a6 3),(222,vS e1 f5.length e2)] ?_);refine AD (dlb 224 1 3 a6 (vI ↑a4)) ?_;obtain ⟨a4g,s2⟩:=m8.row undef;refine AD (di 225 1 a4 s2.addr) ?_;refine AD (DE (dl 226 (s2.get a4 (by omega) 0 (by decide) _ _ (fun x hx=>by simp [hx]))) b8) (ox 3 [(229,vP a6 7),(228,vI ((hy.getD a4 []).getD ix 0)),(227,vI ↑ix)] ?_);refine AD (dlb 230 1 7 a6 (vI (b6))) ?_;refine AD (dsb 231 ((hy.getD a4 []).getD ix 0) (b6)) ?_;refine BA ?_;obtain ⟨a4h,s3⟩:=e4.row 0;refine sd (di 232 1 ix s3.addr) (sS (BO (T:=3) (x:=(.tmp 232)) (y:=(.tmp 231)) (rc:=fun i f=>AQ ((hy.getD a4 []).getD i 0) f) 0 ix 0 (((hy.getD a4 []).getD ix 0)-(b6)) (ty:=0) (gd:=none) (by kernel_rfl) rfl e4 s3 (by omega) (by decide) rfl rfl (by kernel_rfl) rfl rfl (by intro f hf;match f,hf with | 0,_=>rfl) (PU (PU (PU PM.symm))) (fun n4 f9=>(pm (M':=((bX p #[.int .u64 b9] 91)::(bX a6 #[vI (1+(a8.getD t 0)),vI h2,vI (a7),vI ↑a4,vI ↑tn,vI ↑a9,.bool so,vI (b6)] 28)::(bX b5 #[vI ↑Pn,vI ↑Qn,vS b3 b7.length b4,vS a0 ks.length a1,vS a2 sl.length a3] 26)::(bX b1 AJ 26)::(n4++(c3++(hM++(a5++F)))))) (PW (PW (PW PM))) (sn (sp 1 [(233,vP a6 2)] (sd (dlb 234 1 2 a6 (vI (a7))) (se (rb 9 (rqr (sp 2 [(235,.bool (cmp .eql (a7) 1))] (se (rc 235 rfl (fun D6=>?_) (fun D6=>?_))))))))))))))
  ·
   have Q1:=D6;have D6:=BE D6;have a7r:=k4.1 (by omega);obtain ⟨m0,o7,O4⟩:=f4 _ _ _ f9;have J4:=o7.same b8;refine FW (M':=(m0++(bX p #[.int .u64 b9] 91)::(bX a6 #[vI (1+(a8.getD t 0)),vI h2,vI (a7),vI ↑a4,vI ↑tn,vI ↑a9,.bool so,vI (b6)] 28)::(bX b5 #[vI ↑Pn,vI ↑Qn,vS b3 b7.length b4,vS a0 ks.length a1,vS a2 sl.length a3] 26)::(bX b1 AJ 26)::(hM++(a5++F)))) (fun w h=>?_) ?_
   ·have h2:=h.perm ((PU (PU (PU PM.symm))).trans (PA _ (PU (PU (PU PM.symm)))));simp only [← AA] at h2;have h3:=St.permL (A':=m0) (A:=n4++c3) (by simpa only [AA,List.append_nil] using O4.symm) (by simpa only [AA] using h2)
    simpa only [AA] using h3
   refine FW (M':=((bX p #[.int .u64 b9] 91)::(bX a6 #[vI (1+(a8.getD t 0)),vI h2,vI (a7),vI ↑a4,vI ↑tn,vI ↑a9,.bool so,vI (b6)] 28)::(bX b5 #[vI ↑Pn,vI ↑Qn,vS b3 b7.length b4,vS a0 ks.length a1,vS a2 sl.length a3] 26)::(bX b1 AJ 26)::(m0++(hM++(a5++F))))) (fun w h=>h.perm (PW (PW (PW PM)))) ?_;obtain ⟨j3,i6,i7,O5,M7⟩:=OwnEach.pull J4 tn (by simp only [LS];omega);obtain ⟨Z1,Z2,g1,Z3⟩:=i7.shape;rw [g1] at i7;refine FW (M':=(j3++(i6++(bX p #[.int .u64 b9] 91)::(bX a6 #[vI (1+(a8.getD t 0)),vI h2,vI (a7),vI ↑a4,vI ↑tn,vI ↑a9,.bool so,vI (b6)] 28)::(bX b5 #[vI ↑Pn,vI ↑Qn,vS b3 b7.length b4,vS a0 ks.length a1,vS a2 sl.length a3] 26)::(bX b1 AJ 26)::(hM++(a5++F))))) (fun w h=>?_) ?_
   ·have h2:=h.perm (PU (PU (PU PM.symm)));have h3:=St.permL (A':=j3++i6) (A:=m0) (by simpa only [AA,List.append_nil] using O5) (by simpa only [AA] using h2)
    simpa only [AA] using h3
   refine FW (M':=((bX p #[.int .u64 b9] 91)::(bX a6 #[vI (1+(a8.getD t 0)),vI h2,vI (a7),vI ↑a4,vI ↑tn,vI ↑a9,.bool so,vI (b6)] 28)::(bX b5 #[vI ↑Pn,vI ↑Qn,vS b3 b7.length b4,vS a0 ks.length a1,vS a2 sl.length a3] 26)::(bX b1 AJ 26)::(j3++(i6++(hM++(a5++F)))))) (fun w h=>h.perm (((PA _ PM).trans PM).trans (PC _ (((PA _ PM).trans PM).trans (PC _ (((PA _ PM).trans PM).trans (PC _ ((PA _ PM).trans PM)))))))) ?_;have A5:=RowB.at (B:=100+50*t) (n:=2*Qn) (r:=(hy.set a4 ((hy.getD a4 []).set ix (((hy.getD a4 []).getD ix 0)-(b6)))).getD tn []) (i:=ix) (by have d0:=k3.mono (B':=100+50*(t:Int)) (by omega);repeat' (first | exact d0 | refine RowsB.put ?_ ?_ | refine RowB.set ?_ ?_ | refine RowsB.row ?_ ?_ | omega | (simp only [LS];omega))) (by omega);refine rd0 17 (ox 2 [(238,vP a6 4),(237,vS e1 f5.length e2)] ?_);refine AD (dlb 239 1 4 a6 (vI ↑tn)) ?_;obtain ⟨a4i,s4⟩:=m8.row undef;refine AD (di 240 1 tn s4.addr) ?_;refine AD (DE (dl 241 (s4.get tn (by omega) 0 (by decide) _ _ (fun x hx=>by simp [hx]))) g1) (ox 3 [(244,vP a6 4),(243,vS e1 f5.length e2),(242,vI ↑ix)] ?_);refine AD (dlb 245 1 4 a6 (vI ↑tn)) ?_;obtain ⟨a4j,s5⟩:=m8.row undef;refine AD (di 246 1 tn s5.addr) ?_;refine AD (DE (dl 247 (s5.get tn (by omega) 0 (by decide) _ _ (fun x hx=>by simp [hx]))) g1) (ox 1 [(248,vI ↑ix)] ?_);obtain ⟨a4k,s6⟩:=i7.row 0;refine AD (di 249 1 ix s6.addr) ?_;refine AD (dl 250 (s6.get ix (by omega) 0 (by decide) _ _ (fun x hx=>by simp [hx]))) (ox 1 [(251,vP a6 7)] ?_);refine AD (dlb 252 1 7 a6 (vI (b6))) ?_;refine AD (da 253 (((hy.set a4 ((hy.getD a4 []).set ix (((hy.getD a4 []).getD ix 0)-(b6)))).getD tn []).getD ix 0) (b6)) ?_;refine BA ?_;obtain ⟨a4l,s7⟩:=i7.row 0;refine sd (di 254 1 ix s7.addr) (sS (BO (T:=3) (x:=(.tmp 254)) (y:=(.tmp 253)) (rc:=fun i f=>AQ (((hy.set a4 ((hy.getD a4 []).set ix (((hy.getD a4 []).getD ix 0)-(b6)))).getD tn []).getD i 0) f) 0 ix 0 ((((hy.set a4 ((hy.getD a4 []).set ix (((hy.getD a4 []).getD ix 0)-(b6)))).getD tn []).getD ix 0)+(b6)) (ty:=0) (gd:=none) (by kernel_rfl) rfl i7 s7 (by omega) (by decide) rfl rfl (by kernel_rfl) rfl rfl (by intro f hf;match f,hf with | 0,_=>rfl) (PU (PU (PU PM.symm))) (fun v8 T5=>(pm (M':=((bX p #[.int .u64 b9] 91)::(bX a6 #[vI (1+(a8.getD t 0)),vI h2,vI (a7),vI ↑a4,vI ↑tn,vI ↑a9,.bool so,vI (b6)] 28)::(bX b5 #[vI ↑Pn,vI ↑Qn,vS b3 b7.length b4,vS a0 ks.length a1,vS a2 sl.length a3] 26)::(bX b1 AJ 26)::(v8++(i6++(hM++(a5++F)))))) (PW (PW (PW PM))) (ee (NB (NB (NX ?_))))))));obtain ⟨i2,o8,O6⟩:=M7 _ _ _ T5;have J5:=o8.same g1;refine FW (M':=(i2++(bX p #[.int .u64 b9] 91)::(bX a6 #[vI (1+(a8.getD t 0)),vI h2,vI (a7),vI ↑a4,vI ↑tn,vI ↑a9,.bool so,vI (b6)] 28)::(bX b5 #[vI ↑Pn,vI ↑Qn,vS b3 b7.length b4,vS a0 ks.length a1,vS a2 sl.length a3] 26)::(bX b1 AJ 26)::(hM++(a5++F)))) (fun w h=>?_) ?_
   ·have h2:=h.perm ((PU (PU (PU PM.symm))).trans (PA _ (PU (PU (PU PM.symm)))));simp only [← AA] at h2;have h3:=St.permL (A':=i2) (A:=v8++i6) (by simpa only [AA,List.append_nil] using O6.symm) (by simpa only [AA] using h2)
    simpa only [AA] using h3
   refine FW (M':=((bX p #[.int .u64 b9] 91)::(bX a6 #[vI (1+(a8.getD t 0)),vI h2,vI (a7),vI ↑a4,vI ↑tn,vI ↑a9,.bool so,vI (b6)] 28)::(bX b5 #[vI ↑Pn,vI ↑Qn,vS b3 b7.length b4,vS a0 ks.length a1,vS a2 sl.length a3] 26)::(bX b1 AJ 26)::(i2++(hM++(a5++F))))) (fun w h=>h.perm (PW (PW (PW PM)))) (rr (sp 1 [(339,vP b5 4)] (sd (dlb 340 2 4 b5 (vS a2 sl.length a3)) (sd (dnb 341 1 0 a6 [vI (1+(a8.getD t 0)),vI h2,vI (a7),vI ↑a4,vI ↑tn,vI ↑a9,.bool so,vI (b6)]) (sS (sbs 342 28 1 #[vI (1+(a8.getD t 0)),vI h2,vI (a7),vI ↑a4,vI ↑tn,vI ↑a9,.bool so,vI (b6)] (fun a7d=>(sS (sap (d:=343) 340 342 24 28 8 64 (.agg IQ) AX sl [(⟨1+(a8.getD t 0),h2,(a7),↑a4,↑tn,↑a9,so,(b6)⟩:Slip)] a5 rfl rfl c0 (PU (PU (PU (PU (PU (PV (PO _ _ _))))))) (CD _) (DI 0 rfl rfl) (fun a9e v9 A1=>(AZ (M':=((bX p #[.int .u64 b9] 91)::(bX a6 #[vI (1+(a8.getD t 0)),vI h2,vI (a7),vI ↑a4,vI ↑tn,vI ↑a9,.bool so,vI (b6)] 28)::(bX b5 #[vI ↑Pn,vI ↑Qn,vS b3 b7.length b4,vS a0 ks.length a1,vS a2 sl.length a3] 26)::(bX b1 AJ 26)::(v9++(i2++(hM++F))))) (fun w h=>(h.perm (PW (PW (PW (PW PM))))).sub (TC _ (TR _))) ?_)))))))))));obtain ⟨p9,q7,rfl,a4z⟩:=A1.shape;refine sp 1 [(344,vP b5 4)] (sS (ss 2 4 b5 [vS p9 (sl++([(⟨1+(a8.getD t 0),h2,(a7),↑a4,↑tn,↑a9,so,(b6)⟩:Slip)])).length q7] [vI ↑Pn,vI ↑Qn,vS b3 b7.length b4,vS a0 ks.length a1,vS p9 (sl++([(⟨1+(a8.getD t 0),h2,(a7),↑a4,↑tn,↑a9,so,(b6)⟩:Slip)])).length q7] (_::_::_::_::_) (cs:=[_,_,_,_,_]) rfl rfl (ee (NB (NX (rr (sp 1 [(90,vI ↑t)] (sd (da 91 ↑t 1) (sp 1 [(18,vI (↑t+1))] (ee ?_))))))))));refine AO (8-(t+1)) (by omega) ?_;intro a w hS hD hW;exact ⟨t9,t+1,h2,sl++([(⟨1+(a8.getD t 0),h2,(a7),↑a4,↑tn,↑a9,so,(b6)⟩:Slip)]),(hy.set a4 ((hy.getD a4 []).set ix (((hy.getD a4 []).getD ix 0)-(b6)))).set tn (((hy.set a4 ((hy.getD a4 []).set ix (((hy.getD a4 []).getD ix 0)-(b6)))).getD tn []).set ix ((((hy.set a4 ((hy.getD a4 []).set ix (((hy.getD a4 []).getD ix 0)-(b6)))).getD tn []).getD ix 0)+(b6))),i2,b9,vS p9 (sl++([(⟨1+(a8.getD t 0),h2,(a7),↑a4,↑tn,↑a9,so,(b6)⟩:Slip)])).length q7,v9,(IT (IT (IT (IT (IT (IT (IT (IT (IT (IT (IT hJ3 c6) c7) c8) c9) d3) d4) d5) d6) c1) c2) f6),by omega,(by omega),m6.snoc (HG t8) (by omega) rfl (IZ (by dsimp only;omega) (by dsimp only;omega) (by dsimp only;omega) (by dsimp only;omega) (fun hq=>by dsimp only at hq ⊢;have hz:=k4.1 hq;omega) (fun hq=>by dsimp only at hq ⊢;have hz:=k4.2 hq;omega) (by dsimp only;omega) g0 (by dsimp only;omega) (by dsimp only;omega)),by simpa only [LS] using p3,(by have d0:=k3.mono (B':=100+50*((t+1:Nat):Int)) (by omega);repeat' (first | exact d0 | refine RowsB.put ?_ ?_ | refine RowB.set ?_ ?_ | refine RowsB.row ?_ ?_ | omega | (simp only [LS];omega))),J5,A1,hS.sub su,hD,(hW.perm ((PS _ _ _).trans (PC _ (PC _ (PC _ (PC _ ((PV (PO _ _ _)).trans (PA _ (PO _ _ _))))))))).sub (TC _ (TR _)),rfl⟩
  have Q1:=D6;have D6:=BG D6;refine rqr (sp 2 [(255,.bool (cmp .eql (a7) 2))] (se (rc 255 rfl (fun D7=>?_) (fun D7=>?_))))
  ·
   have Q2:=D7;have D7:=BE D7;have a2q:=hix.2.1 (by omega);have A5:=RowB.at (B:=100+50*t) (n:=2*Qn) (r:=(hy.getD a4 []).set ix (((hy.getD a4 []).getD ix 0)-(b6))) (i:=ix+1) (by have d0:=k3.mono (B':=100+50*(t:Int)) (by omega);repeat' (first | exact d0 | refine RowsB.put ?_ ?_ | refine RowB.set ?_ ?_ | refine RowsB.row ?_ ?_ | omega | (simp only [LS];omega))) (by omega);refine rd0 19 (ox 2 [(258,vP a6 3),(257,vS e1 f5.length e2)] ?_);refine AD (dlb 259 1 3 a6 (vI ↑a4)) ?_;obtain ⟨a4m,s8⟩:=m8.row undef;refine AD (di 260 1 a4 s8.addr) ?_;refine AD (DE (dl 261 (s8.get a4 (by omega) 0 (by decide) _ _ (fun x hx=>by simp [hx]))) b8) (ox 1 [(262,vI ↑ix)] ?_);refine AD (da 263 ↑ix 1) (ox 2 [(265,vP a6 3),(264,vS e1 f5.length e2)] ?_);refine AD (dlb 266 1 3 a6 (vI ↑a4)) ?_;obtain ⟨a4n,s9⟩:=m8.row undef;refine AD (di 267 1 a4 s9.addr) ?_;refine AD (DE (dl 268 (s9.get a4 (by omega) 0 (by decide) _ _ (fun x hx=>by simp [hx]))) b8) (ox 1 [(269,vI ↑ix)] ?_);refine AD (da 270 ↑ix 1) ?_;obtain ⟨a4o,k7⟩:=f9.row 0;simp only [LS] at k7;refine AD (di 271 1 (ix+1) (fun _=>k7.addr (by omega)) (n:=(hy.getD a4 []).length)) ?_;refine AD (dl 272 (k7.get (ix+1) (by omega) 0 (by decide) _ _ (fun x hx=>by simp [hx]))) (ox 1 [(273,vP a6 7)] ?_);refine AD (dlb 274 1 7 a6 (vI (b6))) ?_;refine AD (da 275 (((hy.getD a4 []).set ix (((hy.getD a4 []).getD ix 0)-(b6))).getD (ix+1) 0) (b6)) ?_;refine BA ?_;obtain ⟨a4p,k8⟩:=f9.row 0;simp only [LS] at k8;refine sd (di 276 1 (ix+1) (fun _=>k8.addr (by omega)) (n:=(hy.getD a4 []).length)) (sS (BO (T:=3) (x:=(.tmp 276)) (y:=(.tmp 275)) (rc:=fun i f=>AQ (((hy.getD a4 []).set ix (((hy.getD a4 []).getD ix 0)-(b6))).getD i 0) f) 0 (ix+1) 0 ((((hy.getD a4 []).set ix (((hy.getD a4 []).getD ix 0)-(b6))).getD (ix+1) 0)+(b6)) (ty:=0) (gd:=none) (by kernel_rfl) rfl f9 (by simpa only [LS] using k8) (by simp only [LS];omega) (by decide) rfl rfl (by kernel_rfl) rfl rfl (by intro f hf;match f,hf with | 0,_=>rfl) (PU (PU (PU PM.symm))) (fun x0 T6=>(pm (M':=((bX p #[.int .u64 b9] 91)::(bX a6 #[vI (1+(a8.getD t 0)),vI h2,vI (a7),vI ↑a4,vI ↑tn,vI ↑a9,.bool so,vI (b6)] 28)::(bX b5 #[vI ↑Pn,vI ↑Qn,vS b3 b7.length b4,vS a0 ks.length a1,vS a2 sl.length a3] 26)::(bX b1 AJ 26)::(x0++(c3++(hM++(a5++F)))))) (PW (PW (PW PM))) (ee (NB (NB (NX ?_))))))));obtain ⟨i3,o9,O7⟩:=f4 _ _ _ T6;have J6:=o9.same b8;refine FW (M':=(i3++(bX p #[.int .u64 b9] 91)::(bX a6 #[vI (1+(a8.getD t 0)),vI h2,vI (a7),vI ↑a4,vI ↑tn,vI ↑a9,.bool so,vI (b6)] 28)::(bX b5 #[vI ↑Pn,vI ↑Qn,vS b3 b7.length b4,vS a0 ks.length a1,vS a2 sl.length a3] 26)::(bX b1 AJ 26)::(hM++(a5++F)))) (fun w h=>?_) ?_
   ·have h2:=h.perm ((PU (PU (PU PM.symm))).trans (PA _ (PU (PU (PU PM.symm)))));simp only [← AA] at h2;have h3:=St.permL (A':=i3) (A:=x0++c3) (by simpa only [AA,List.append_nil] using O7.symm) (by simpa only [AA] using h2)
    simpa only [AA] using h3
   refine FW (M':=((bX p #[.int .u64 b9] 91)::(bX a6 #[vI (1+(a8.getD t 0)),vI h2,vI (a7),vI ↑a4,vI ↑tn,vI ↑a9,.bool so,vI (b6)] 28)::(bX b5 #[vI ↑Pn,vI ↑Qn,vS b3 b7.length b4,vS a0 ks.length a1,vS a2 sl.length a3] 26)::(bX b1 AJ 26)::(i3++(hM++(a5++F))))) (fun w h=>h.perm (PW (PW (PW PM)))) (rr (sp 1 [(339,vP b5 4)] (sd (dlb 340 2 4 b5 (vS a2 sl.length a3)) (sd (dnb 341 1 0 a6 [vI (1+(a8.getD t 0)),vI h2,vI (a7),vI ↑a4,vI ↑tn,vI ↑a9,.bool so,vI (b6)]) (sS (sbs 342 28 1 #[vI (1+(a8.getD t 0)),vI h2,vI (a7),vI ↑a4,vI ↑tn,vI ↑a9,.bool so,vI (b6)] (fun a7e=>(sS (sap (d:=343) 340 342 24 28 8 64 (.agg IQ) AX sl [(⟨1+(a8.getD t 0),h2,(a7),↑a4,↑tn,↑a9,so,(b6)⟩:Slip)] a5 rfl rfl c0 (PU (PU (PU (PU (PU (PV (PO _ _ _))))))) (CD _) (DI 0 rfl rfl) (fun a9f x1 A2=>(AZ (M':=((bX p #[.int .u64 b9] 91)::(bX a6 #[vI (1+(a8.getD t 0)),vI h2,vI (a7),vI ↑a4,vI ↑tn,vI ↑a9,.bool so,vI (b6)] 28)::(bX b5 #[vI ↑Pn,vI ↑Qn,vS b3 b7.length b4,vS a0 ks.length a1,vS a2 sl.length a3] 26)::(bX b1 AJ 26)::(x1++(i3++(hM++F))))) (fun w h=>(h.perm (PW (PW (PW (PW PM))))).sub (TC _ (TR _))) ?_)))))))))));obtain ⟨q0,q8,rfl,a5a⟩:=A2.shape;refine sp 1 [(344,vP b5 4)] (sS (ss 2 4 b5 [vS q0 (sl++([(⟨1+(a8.getD t 0),h2,(a7),↑a4,↑tn,↑a9,so,(b6)⟩:Slip)])).length q8] [vI ↑Pn,vI ↑Qn,vS b3 b7.length b4,vS a0 ks.length a1,vS q0 (sl++([(⟨1+(a8.getD t 0),h2,(a7),↑a4,↑tn,↑a9,so,(b6)⟩:Slip)])).length q8] (_::_::_::_::_) (cs:=[_,_,_,_,_]) rfl rfl (ee (NB (NX (rr (sp 1 [(90,vI ↑t)] (sd (da 91 ↑t 1) (sp 1 [(18,vI (↑t+1))] (ee ?_))))))))));refine AO (8-(t+1)) (by omega) ?_;intro a w hS hD hW;exact ⟨t9,t+1,h2,sl++([(⟨1+(a8.getD t 0),h2,(a7),↑a4,↑tn,↑a9,so,(b6)⟩:Slip)]),hy.set a4 (((hy.getD a4 []).set ix (((hy.getD a4 []).getD ix 0)-(b6))).set (ix+1) ((((hy.getD a4 []).set ix (((hy.getD a4 []).getD ix 0)-(b6))).getD (ix+1) 0)+(b6))),i3,b9,vS q0 (sl++([(⟨1+(a8.getD t 0),h2,(a7),↑a4,↑tn,↑a9,so,(b6)⟩:Slip)])).length q8,x1,(IT (IT (IT (IT (IT (IT (IT (IT (IT (IT (IT hJ3 c6) c7) c8) c9) d3) d4) d5) d6) c1) c2) f6),by omega,(by omega),m6.snoc (HG t8) (by omega) rfl (IZ (by dsimp only;omega) (by dsimp only;omega) (by dsimp only;omega) (by dsimp only;omega) (fun hq=>by dsimp only at hq ⊢;have hz:=k4.1 hq;omega) (fun hq=>by dsimp only at hq ⊢;have hz:=k4.2 hq;omega) (by dsimp only;omega) g0 (by dsimp only;omega) (by dsimp only;omega)),by simpa only [LS] using p3,(by have d0:=k3.mono (B':=100+50*((t+1:Nat):Int)) (by omega);repeat' (first | exact d0 | refine RowsB.put ?_ ?_ | refine RowB.set ?_ ?_ | refine RowsB.row ?_ ?_ | omega | (simp only [LS];omega))),J6,A2,hS.sub su,hD,(hW.perm ((PS _ _ _).trans (PC _ (PC _ (PC _ (PC _ ((PV (PO _ _ _)).trans (PA _ (PO _ _ _))))))))).sub (TC _ (TR _)),rfl⟩
  have Q2:=D7;have D7:=BG D7;refine rqr (sp 2 [(277,.bool (cmp .eql (a7) 3))] (se (rc 277 rfl (fun D8=>?_) (fun D8=>?_))))
  ·
   have Q3:=D8;have D8:=BE D8;have a2q:=hix.2.2 (by omega);have A5:=RowB.at (B:=100+50*t) (n:=2*Qn) (r:=(hy.getD a4 []).set ix (((hy.getD a4 []).getD ix 0)-(b6))) (i:=(↑ix-1:Int).toNat) (by have d0:=k3.mono (B':=100+50*(t:Int)) (by omega);repeat' (first | exact d0 | refine RowsB.put ?_ ?_ | refine RowB.set ?_ ?_ | refine RowsB.row ?_ ?_ | omega | (simp only [LS];omega))) (by omega);refine rd0 19 (ox 2 [(280,vP a6 3),(279,vS e1 f5.length e2)] ?_);refine AD (dlb 281 1 3 a6 (vI ↑a4)) ?_;obtain ⟨a4q,t0⟩:=m8.row undef;refine AD (di 282 1 a4 t0.addr) ?_;refine AD (DE (dl 283 (t0.get a4 (by omega) 0 (by decide) _ _ (fun x hx=>by simp [hx]))) b8) (ox 1 [(284,vI ↑ix)] ?_);refine AD (dsb 285 ↑ix 1) (ox 2 [(287,vP a6 3),(286,vS e1 f5.length e2)] ?_);refine AD (dlb 288 1 3 a6 (vI ↑a4)) ?_;obtain ⟨a4r,t1⟩:=m8.row undef;refine AD (di 289 1 a4 t1.addr) ?_;refine AD (DE (dl 290 (t1.get a4 (by omega) 0 (by decide) _ _ (fun x hx=>by simp [hx]))) b8) (ox 1 [(291,vI ↑ix)] ?_);refine AD (dsb 292 ↑ix 1) ?_;obtain ⟨a4s,k9⟩:=f9.row 0;simp only [LS] at k9;refine AD (diI 293 1 (↑ix-1) (fun _=>k9.addr (by omega)) (n:=(hy.getD a4 []).length)) ?_;refine AD (dl 294 (k9.get ((↑ix-1:Int).toNat) (by omega) 0 (by decide) _ _ (fun x hx=>by simp [hx]))) (ox 1 [(295,vP a6 7)] ?_);refine AD (dlb 296 1 7 a6 (vI (b6))) ?_;refine AD (da 297 (((hy.getD a4 []).set ix (((hy.getD a4 []).getD ix 0)-(b6))).getD ((↑ix-1:Int).toNat) 0) (b6)) ?_;refine BA ?_;obtain ⟨a4t,l0⟩:=f9.row 0;simp only [LS] at l0;refine sd (diI 298 1 (↑ix-1) (fun _=>l0.addr (by omega)) (n:=(hy.getD a4 []).length)) (sS (BO (T:=3) (x:=(.tmp 298)) (y:=(.tmp 297)) (rc:=fun i f=>AQ (((hy.getD a4 []).set ix (((hy.getD a4 []).getD ix 0)-(b6))).getD i 0) f) 0 ((↑ix-1:Int).toNat) 0 ((((hy.getD a4 []).set ix (((hy.getD a4 []).getD ix 0)-(b6))).getD ((↑ix-1:Int).toNat) 0)+(b6)) (ty:=0) (gd:=none) (by kernel_rfl) rfl f9 (by simpa only [LS] using l0) (by simp only [LS];omega) (by decide) rfl rfl (by kernel_rfl) rfl rfl (by intro f hf;match f,hf with | 0,_=>rfl) (PU (PU (PU PM.symm))) (fun x2 T7=>(pm (M':=((bX p #[.int .u64 b9] 91)::(bX a6 #[vI (1+(a8.getD t 0)),vI h2,vI (a7),vI ↑a4,vI ↑tn,vI ↑a9,.bool so,vI (b6)] 28)::(bX b5 #[vI ↑Pn,vI ↑Qn,vS b3 b7.length b4,vS a0 ks.length a1,vS a2 sl.length a3] 26)::(bX b1 AJ 26)::(x2++(c3++(hM++(a5++F)))))) (PW (PW (PW PM))) (ee (NB (NB (NX ?_))))))));obtain ⟨i4,p0,O8⟩:=f4 _ _ _ T7;have J7:=p0.same b8;refine FW (M':=(i4++(bX p #[.int .u64 b9] 91)::(bX a6 #[vI (1+(a8.getD t 0)),vI h2,vI (a7),vI ↑a4,vI ↑tn,vI ↑a9,.bool so,vI (b6)] 28)::(bX b5 #[vI ↑Pn,vI ↑Qn,vS b3 b7.length b4,vS a0 ks.length a1,vS a2 sl.length a3] 26)::(bX b1 AJ 26)::(hM++(a5++F)))) (fun w h=>?_) ?_
   ·have h2:=h.perm ((PU (PU (PU PM.symm))).trans (PA _ (PU (PU (PU PM.symm)))));simp only [← AA] at h2;have h3:=St.permL (A':=i4) (A:=x2++c3) (by simpa only [AA,List.append_nil] using O8.symm) (by simpa only [AA] using h2)
    simpa only [AA] using h3
   refine FW (M':=((bX p #[.int .u64 b9] 91)::(bX a6 #[vI (1+(a8.getD t 0)),vI h2,vI (a7),vI ↑a4,vI ↑tn,vI ↑a9,.bool so,vI (b6)] 28)::(bX b5 #[vI ↑Pn,vI ↑Qn,vS b3 b7.length b4,vS a0 ks.length a1,vS a2 sl.length a3] 26)::(bX b1 AJ 26)::(i4++(hM++(a5++F))))) (fun w h=>h.perm (PW (PW (PW PM)))) (rr (sp 1 [(339,vP b5 4)] (sd (dlb 340 2 4 b5 (vS a2 sl.length a3)) (sd (dnb 341 1 0 a6 [vI (1+(a8.getD t 0)),vI h2,vI (a7),vI ↑a4,vI ↑tn,vI ↑a9,.bool so,vI (b6)]) (sS (sbs 342 28 1 #[vI (1+(a8.getD t 0)),vI h2,vI (a7),vI ↑a4,vI ↑tn,vI ↑a9,.bool so,vI (b6)] (fun a7f=>(sS (sap (d:=343) 340 342 24 28 8 64 (.agg IQ) AX sl [(⟨1+(a8.getD t 0),h2,(a7),↑a4,↑tn,↑a9,so,(b6)⟩:Slip)] a5 rfl rfl c0 (PU (PU (PU (PU (PU (PV (PO _ _ _))))))) (CD _) (DI 0 rfl rfl) (fun a9g x3 A3=>(AZ (M':=((bX p #[.int .u64 b9] 91)::(bX a6 #[vI (1+(a8.getD t 0)),vI h2,vI (a7),vI ↑a4,vI ↑tn,vI ↑a9,.bool so,vI (b6)] 28)::(bX b5 #[vI ↑Pn,vI ↑Qn,vS b3 b7.length b4,vS a0 ks.length a1,vS a2 sl.length a3] 26)::(bX b1 AJ 26)::(x3++(i4++(hM++F))))) (fun w h=>(h.perm (PW (PW (PW (PW PM))))).sub (TC _ (TR _))) ?_)))))))))));obtain ⟨q1,q9,rfl,a5b⟩:=A3.shape;refine sp 1 [(344,vP b5 4)] (sS (ss 2 4 b5 [vS q1 (sl++([(⟨1+(a8.getD t 0),h2,(a7),↑a4,↑tn,↑a9,so,(b6)⟩:Slip)])).length q9] [vI ↑Pn,vI ↑Qn,vS b3 b7.length b4,vS a0 ks.length a1,vS q1 (sl++([(⟨1+(a8.getD t 0),h2,(a7),↑a4,↑tn,↑a9,so,(b6)⟩:Slip)])).length q9] (_::_::_::_::_) (cs:=[_,_,_,_,_]) rfl rfl (ee (NB (NX (rr (sp 1 [(90,vI ↑t)] (sd (da 91 ↑t 1) (sp 1 [(18,vI (↑t+1))] (ee ?_))))))))));refine AO (8-(t+1)) (by omega) ?_;intro a w hS hD hW;exact ⟨t9,t+1,h2,sl++([(⟨1+(a8.getD t 0),h2,(a7),↑a4,↑tn,↑a9,so,(b6)⟩:Slip)]),hy.set a4 (((hy.getD a4 []).set ix (((hy.getD a4 []).getD ix 0)-(b6))).set ((↑ix-1:Int).toNat) ((((hy.getD a4 []).set ix (((hy.getD a4 []).getD ix 0)-(b6))).getD ((↑ix-1:Int).toNat) 0)+(b6))),i4,b9,vS q1 (sl++([(⟨1+(a8.getD t 0),h2,(a7),↑a4,↑tn,↑a9,so,(b6)⟩:Slip)])).length q9,x3,(IT (IT (IT (IT (IT (IT (IT (IT (IT (IT (IT hJ3 c6) c7) c8) c9) d3) d4) d5) d6) c1) c2) f6),by omega,(by omega),m6.snoc (HG t8) (by omega) rfl (IZ (by dsimp only;omega) (by dsimp only;omega) (by dsimp only;omega) (by dsimp only;omega) (fun hq=>by dsimp only at hq ⊢;have hz:=k4.1 hq;omega) (fun hq=>by dsimp only at hq ⊢;have hz:=k4.2 hq;omega) (by dsimp only;omega) g0 (by dsimp only;omega) (by dsimp only;omega)),by simpa only [LS] using p3,(by have d0:=k3.mono (B':=100+50*((t+1:Nat):Int)) (by omega);repeat' (first | exact d0 | refine RowsB.put ?_ ?_ | refine RowB.set ?_ ?_ | refine RowsB.row ?_ ?_ | omega | (simp only [LS];omega))),J7,A3,hS.sub su,hD,(hW.perm ((PS _ _ _).trans (PC _ (PC _ (PC _ (PC _ ((PV (PO _ _ _)).trans (PA _ (PO _ _ _))))))))).sub (TC _ (TR _)),rfl⟩
  have Q3:=D8;have D8:=BG D8;refine AM (NB (NB (NX ?_)));obtain ⟨i5,p1,O9⟩:=f4 _ _ _ f9;have J8:=p1.same b8;refine FW (M':=(i5++(bX p #[.int .u64 b9] 91)::(bX a6 #[vI (1+(a8.getD t 0)),vI h2,vI (a7),vI ↑a4,vI ↑tn,vI ↑a9,.bool so,vI (b6)] 28)::(bX b5 #[vI ↑Pn,vI ↑Qn,vS b3 b7.length b4,vS a0 ks.length a1,vS a2 sl.length a3] 26)::(bX b1 AJ 26)::(hM++(a5++F)))) (fun w h=>?_) ?_
  ·have h2:=h.perm ((PU (PU (PU PM.symm))).trans (PA _ (PU (PU (PU PM.symm)))));simp only [← AA] at h2;have h3:=St.permL (A':=i5) (A:=n4++c3) (by simpa only [AA,List.append_nil] using O9.symm) (by simpa only [AA] using h2)
   simpa only [AA] using h3
  refine FW (M':=((bX p #[.int .u64 b9] 91)::(bX a6 #[vI (1+(a8.getD t 0)),vI h2,vI (a7),vI ↑a4,vI ↑tn,vI ↑a9,.bool so,vI (b6)] 28)::(bX b5 #[vI ↑Pn,vI ↑Qn,vS b3 b7.length b4,vS a0 ks.length a1,vS a2 sl.length a3] 26)::(bX b1 AJ 26)::(i5++(hM++(a5++F))))) (fun w h=>h.perm (PW (PW (PW PM)))) (rr (sp 1 [(339,vP b5 4)] (sd (dlb 340 2 4 b5 (vS a2 sl.length a3)) (sd (dnb 341 1 0 a6 [vI (1+(a8.getD t 0)),vI h2,vI (a7),vI ↑a4,vI ↑tn,vI ↑a9,.bool so,vI (b6)]) (sS (sbs 342 28 1 #[vI (1+(a8.getD t 0)),vI h2,vI (a7),vI ↑a4,vI ↑tn,vI ↑a9,.bool so,vI (b6)] (fun a7g=>(sS (sap (d:=343) 340 342 24 28 8 64 (.agg IQ) AX sl [(⟨1+(a8.getD t 0),h2,(a7),↑a4,↑tn,↑a9,so,(b6)⟩:Slip)] a5 rfl rfl c0 (PU (PU (PU (PU (PU (PV (PO _ _ _))))))) (CD _) (DI 0 rfl rfl) (fun a9h x4 A4=>(AZ (M':=((bX p #[.int .u64 b9] 91)::(bX a6 #[vI (1+(a8.getD t 0)),vI h2,vI (a7),vI ↑a4,vI ↑tn,vI ↑a9,.bool so,vI (b6)] 28)::(bX b5 #[vI ↑Pn,vI ↑Qn,vS b3 b7.length b4,vS a0 ks.length a1,vS a2 sl.length a3] 26)::(bX b1 AJ 26)::(x4++(i5++(hM++F))))) (fun w h=>(h.perm (PW (PW (PW (PW PM))))).sub (TC _ (TR _))) ?_)))))))))));obtain ⟨q2,r0,rfl,a5c⟩:=A4.shape;refine sp 1 [(344,vP b5 4)] (sS (ss 2 4 b5 [vS q2 (sl++([(⟨1+(a8.getD t 0),h2,(a7),↑a4,↑tn,↑a9,so,(b6)⟩:Slip)])).length r0] [vI ↑Pn,vI ↑Qn,vS b3 b7.length b4,vS a0 ks.length a1,vS q2 (sl++([(⟨1+(a8.getD t 0),h2,(a7),↑a4,↑tn,↑a9,so,(b6)⟩:Slip)])).length r0] (_::_::_::_::_) (cs:=[_,_,_,_,_]) rfl rfl (ee (NB (NX (rr (sp 1 [(90,vI ↑t)] (sd (da 91 ↑t 1) (sp 1 [(18,vI (↑t+1))] (ee ?_))))))))));refine AO (8-(t+1)) (by omega) ?_;intro a w hS hD hW;exact ⟨t9,t+1,h2,sl++([(⟨1+(a8.getD t 0),h2,(a7),↑a4,↑tn,↑a9,so,(b6)⟩:Slip)]),hy.set a4 ((hy.getD a4 []).set ix (((hy.getD a4 []).getD ix 0)-(b6))),i5,b9,vS q2 (sl++([(⟨1+(a8.getD t 0),h2,(a7),↑a4,↑tn,↑a9,so,(b6)⟩:Slip)])).length r0,x4,(IT (IT (IT (IT (IT (IT (IT (IT (IT (IT (IT hJ3 c6) c7) c8) c9) d3) d4) d5) d6) c1) c2) f6),by omega,(by omega),m6.snoc (HG t8) (by omega) rfl (IZ (by dsimp only;omega) (by dsimp only;omega) (by dsimp only;omega) (by dsimp only;omega) (fun hq=>by dsimp only at hq ⊢;have hz:=k4.1 hq;omega) (fun hq=>by dsimp only at hq ⊢;have hz:=k4.2 hq;omega) (by dsimp only;omega) g0 (by dsimp only;omega) (by dsimp only;omega)),by simpa only [LS] using p3,(by have d0:=k3.mono (B':=100+50*((t+1:Nat):Int)) (by omega);repeat' (first | exact d0 | refine RowsB.put ?_ ?_ | refine RowB.set ?_ ?_ | refine RowsB.row ?_ ?_ | omega | (simp only [LS];omega))),J8,A4,hS.sub su,hD,(hW.perm ((PS _ _ _).trans (PC _ (PC _ (PC _ (PC _ ((PV (PO _ _ _)).trans (PA _ (PO _ _ _))))))))).sub (TC _ (TR _)),rfl⟩
 have a2l:=h4;have h4:=CF h4;refine BR 6 (EP (EP (EB (NX (rq ?_)))));refine CN (B:=((bX p #[.int .u64 M6] 91)::(bX b5 #[vI ↑Pn,vI ↑Qn,vS b3 b7.length b4,vS a0 ks.length a1,vS a2 sl.length a3] 26)::(bX b1 AJ 26)::(hM++(yM++F)))) AB c0 (by first | omega | (simp only [LS,LC,LN,LA,LK,LD] <;> omega) | decide) (PU (PU (PU (PV (PO _ _ _))))) (PR _) (fun a6t k2 m3=>?_);replace b0:=b0.mono k2;replace b2:=b2.mono k2;obtain ⟨a0x,a0z,a0y,a1c,u6,a1a,a1b,a1d⟩:=id m3;cases u6;refine rr (sd (dnb 345 1 0 b5 [vI ↑Pn,vI ↑Qn,vS b3 b7.length b4,vS a0 ks.length a1,vS a2 sl.length a3]) (sS (ss 2 0 b1 [vI ↑Pn,vI ↑Qn,vS b3 b7.length b4,vS a0 ks.length a1,vS a2 sl.length a3] [vI ↑Pn,vI ↑Qn,vS b3 b7.length b4,vS a0 ks.length a1,vS a2 sl.length a3] (_::_::_::_) (cs:=[_,_,_,_,_]) rfl rfl (se (BD (ES (t:=6) (T:=26) (n:=5) ([(bX p #[.int .u64 M6] 91)]) (by kernel_rfl) rfl (by kernel_rfl) rfl (snm [vI ↑Pn,vI ↑Qn,vS b3 b7.length b4,vS a0 ks.length a1,vS a2 sl.length a3] b1 26) (.inl ⟨by kernel_rfl,rfl⟩) (TK _ (TC _ (TC _ (TT (TT (TR _) (TB _ _)) (TB _ _))))) (IT (IT (IT (IT (IT (IT (IT (IT (IT (IT (IT a2r R1) hJ0) R3) x7) x8) hJ2) p2) j4) j5) hJ3) k2) ?_))))));exact ⟨_,⟨Pn,Qn,sx,ks,sl⟩,_,rfl,rfl,drawn_book (r:=↑f7) (dl:=a8) (i:=t) (by omega) (by omega) rfl (by omega) (hrs.mono (by omega)) (by omega) (by omega) hks m6 ht,small_nums m6 t8 (by omega),(BL b0 b2 m3)⟩
end Go.Proofs.YtgcemienebmdeaaGreat
namespace Go.Sh
open Go Go.Sl
section
variable {n m h:Nat} {left:Int} {g l:List Int}
def balF (n m h:Nat) (left:Int) (g l:List Int) (b:Nat):Option (List Cart):=
  (CL n m h (left-(b+1:Nat)) (less (pF n (m+1)) (b+1) g) (less (pT n (m+1)) (b+1) l)).map (fun r=>(⟨(pF n (m+1):Int),(pT n (m+1):Int),(b:Int)+1⟩:Cart)::r)
theorem MW:CL n m 0 left g l=if left=0 then some [] else none:=by cases m <;> rfl
theorem growD_few (hl:left<(h:Int)+1):CL n (m+1) (h+1) left g l=none:=if_pos hl
theorem growD_eq (hl:¬ left<(h:Int)+1):CL n (m+1) (h+1) left g l=(match (List.range (most n (m+1) g l)).findSome? (balF n m h left g l) with | some x=>some x | none=>CL n m (h+1) left g l):=if_neg hl
def BalNo (n m h:Nat) (left:Int) (g l:List Int) (j:Nat):Prop:=∀ b,b+1<j→balF n m h left g l b=none
theorem BalNo.start:BalNo n m h left g l 1:=fun b hb=>by omega
abbrev JJ (n m h:Nat) (left:Int) (g l:List Int) (j:Nat):Option (List Cart):=CL n m h (left-(j:Int)) (less (pF n (m+1)) j g) (less (pT n (m+1)) j l)
theorem BalNo.next {j:Nat} (hn:BalNo n m h left g l j) (h1:1≤j) (hs:(JJ n m h left g l j).isSome=false):BalNo n m h left g l (j+1):=fun b hb=>by
  by_cases e:b+1=j
  · subst e
    unfold balF;rw [Option.map_eq_none_iff];cases hx:JJ n m h left g l (b+1) with
    | none=>exact hx
    | some x=>rw [hx] at hs;cases hs
  · exact hn b (by omega)
theorem grow_hit {j : Nat} (hl : ¬ left < (h : Int) + 1) (hn : BalNo n m h left g l j) (h1 : 1 ≤ j) (h2 : (j : Int) ≤ most n (m + 1) g l) (hs : (JJ n m h left g l j).isSome = true) :
    CL n (m+1) (h+1) left g l=some (⟨(pF n (m+1):Int),(pT n (m+1):Int),(j:Int)⟩::(JJ n m h left g l j).getD []):=by
  obtain ⟨r,hr⟩:=Option.isSome_iff_exists.1 hs;obtain ⟨b,rfl⟩:∃ b,j=b+1:=⟨j-1,by omega⟩;rw [growD_eq hl,JX (k:=b) (r:=⟨(pF n (m+1):Int),(pT n (m+1):Int),((b+1:Nat):Int)⟩::r) (fun i hi=>hn i (by omega)) ?_ (by omega),hr]
  · rfl
  · unfold balF;rw [show CL n m h (left-((b+1:Nat):Int)) (less (pF n (m+1)) (b+1) g) (less (pT n (m+1)) (b+1) l)=some r from hr];rfl
theorem grow_miss {j:Nat} (hl:¬ left<(h:Int)+1) (hn:BalNo n m h left g l j) (h2:¬ (j:Int)≤most n (m+1) g l):CL n (m+1) (h+1) left g l=CL n m (h+1) left g l:=by
  rw [growD_eq hl,GM (fun i hi=>hn i (by omega))]
theorem less_back {k b:Nat} {l:List Int}:(less k b l).set k ((less k b l).getD k 0+(b:Int))=l:=by
  unfold less
  by_cases hk:k<l.length
  · rw [List.set_set]
    have:(l.set k (l.getD k 0-(b:Int))).getD k 0+(b:Int)=l.getD k 0:=by simp [List.getD,hk]
    rw [this]
    apply List.ext_getElem?
    intro i;rw [List.getElem?_set]
    split
    · rename_i e;subst e;simp [List.getD,hk]
    · rfl
  · have e:l.set k (l.getD k 0-(b:Int))=l:=List.set_eq_of_length_le (by omega)
    rw [e];exact List.set_eq_of_length_le (by omega)
end
theorem grow_len {n:Nat}:∀ (m h:Nat) (left:Int) (g l:List Int) (z:List Cart),CL n m h left g l=some z→z.length=h:=by
  intro m
  induction m with
  | zero=>
    intro h left g l z e;cases h with
    | zero=>rw [MW] at e;split at e <;> simp at e;subst e;rfl
    | succ h=>cases e
  | succ m ih=>
    intro h left g l z e;cases h with
    | zero=>rw [MW] at e;split at e <;> simp at e;subst e;rfl
    | succ h=>
      by_cases hl:left<(h:Int)+1
      · rw [growD_few hl] at e;cases e
      · rw [growD_eq hl] at e
        split at e
        · rename_i x hx
          obtain ⟨b,_,hb⟩:=List.exists_of_findSome?_eq_some hx;cases e;unfold balF at hb;obtain ⟨r,hr,rfl⟩:=Option.map_eq_some_iff.1 hb;simp [ih _ _ _ _ _ hr]
        · exact ih _ _ _ _ _ e
theorem grow_getD_len {n m h:Nat} {left:Int} {g l:List Int}:((CL n m h left g l).getD []).length≤h:=by
  cases e:CL n m h left g l with
  | none=>simp
  | some z=>simp [grow_len _ _ _ _ _ _ e]
structure GrowOk (n:Nat) (left:Int) (g l:List Int):Prop where
  n4:n≤4
  gl:g.length=n
  ll:l.length=n
  g0:∀ x∈g,0≤x∧x≤50
  l0:∀ x∈l,0≤x∧x≤50
  sum:left=l.sum
theorem sum_le {c:Int}:∀ {l:List Int},(∀ x∈l,x≤c)→l.sum≤l.length*c:=by
  intro l
  induction l with
  | nil=>intro _;simp
  | cons x r ih=>
    intro h;have h1:=h x (by simp);have h2:=ih (fun y hy=>h y (by simp [hy]));simp only [List.sum_cons,List.length_cons];rw [show ((r.length+1:Nat):Int)*c=r.length*c+c by rw [Int.natCast_add,Int.add_mul];omega];omega
theorem GrowOk.left {n:Nat} {left:Int} {g l:List Int} (o:GrowOk n left g l):0≤left∧left≤200:=by
  have h1:=KL (fun x hx=>(o.l0 x hx).1);have h2:=sum_le (c:=50) (fun x hx=>(o.l0 x hx).2);have h3:=o.n4;have h4:=o.ll;have h5:=o.sum;omega
theorem GrowOk.at {n:Nat} {left:Int} {g l:List Int} (o:GrowOk n left g l) (k:Nat):0≤g.getD k 0∧g.getD k 0≤50∧0≤l.getD k 0∧l.getD k 0≤50:=by
  have hz:∀ {q:List Int},(∀ x∈q,0≤x∧x≤50)→0≤q.getD k 0∧q.getD k 0≤50:=fun {q} h=>by
    by_cases hk:k<q.length
    · exact h _ (BJ hk)
    · simp [List.getD,List.getElem?_eq_none (Nat.le_of_not_lt hk)]
  exact ⟨(hz o.g0).1,(hz o.g0).2,(hz o.l0).1,(hz o.l0).2⟩
theorem GrowOk.less {n m j:Nat} {left:Int} {g l:List Int} (o:GrowOk n left g l) (h1:1≤j) (h2:(j:Int)≤most n (m+1) g l):GrowOk n (left-(j:Int)) (less (pF n (m+1)) j g) (less (pT n (m+1)) j l):=by
  obtain ⟨b,rfl⟩:∃ b,j=b+1:=⟨j-1,by omega⟩;obtain ⟨h3,h4⟩:=most_lt (n:=n) (m:=m+1) (g:=g) (l:=l) (b:=b) (by omega);have e1:∀ {k:Nat} {q:List Int},(∀ x∈q,0≤x∧x≤50)→((b:Int)+1≤q.getD k 0)→∀ x∈Sh.less k (b+1) q,0≤x∧x≤50:=fun {k q} h hb x hx=>by
    rcases List.mem_or_eq_of_mem_set hx with h5 | rfl
    · exact h x h5
    · have hk : k < q.length := by
        rcases Nat.lt_or_ge k q.length with h | h
        · exact h
        · simp [List.getD,List.getElem?_eq_none h] at hb;omega
      have:=h _ (BJ (d:=0) hk);omega
  exact ⟨o.n4,by rw [EY];exact o.gl,by rw [EY];exact o.ll,e1 o.g0 h3,e1 o.l0 h4,by rw [OT h4,o.sum]⟩
theorem most_int {n m:Nat} {left:Int} {g l:List Int} (o:GrowOk n left g l):(if l.getD (pT n m) 0<g.getD (pF n m) 0 then l.getD (pT n m) 0 else g.getD (pF n m) 0)=((most n m g l:Nat):Int):=by
  have h1:=(o.at (pF n m)).1;have h2:=(o.at (pT n m)).2.2.1;unfold most;omega
def EM (F:Nat→Int) (n k:Nat):List Int:=(List.range n).map fun i=>if i<k then F i else 0
section
variable {F:Nat→Int} {n k:Nat}
theorem HJ:(EM F n k).length=n:=by simp [EM]
theorem fill_zero:List.replicate n (0:Int)=EM F n 0:=by
  apply List.ext_getElem?;intro i;unfold EM
  by_cases h:i<n
  · simp [h]
  · simp [h]
theorem fill_set (hk:k<n):(EM F n k).set k (F k)=EM F n (k+1):=by
  apply List.ext_getElem?;intro i
  rw [List.getElem?_set]
  by_cases e:k=i
  · subst e;simp [EM,hk]
  · rw [if_neg e];unfold EM
    by_cases h:i<n
    · simp only [List.getElem?_map,List.getElem?_range h,Option.map_some]
      by_cases h2:i<k
      · rw [if_pos h2,if_pos (by omega)]
      · rw [if_neg h2,if_neg (by omega)]
    · simp [h]
theorem fill_skip (h0:F k=0):EM F n k=EM F n (k+1):=by
  unfold EM;refine List.map_congr_left fun i _=>?_
  by_cases h2:i<k
  · rw [if_pos h2,if_pos (by omega)]
  · rw [if_neg h2]
    by_cases h3:i=k
    · subst h3;rw [if_pos (by omega),h0]
    · rw [if_neg (by omega)]
theorem fill_at (hk:k<n):(EM F n (k+1)).getD k 0=F k:=by simp [EM,List.getD,hk]
theorem fill_done:EM F n n=(List.range n).map F:=by
  unfold EM;refine List.map_congr_left fun i hi=>?_
  rw [if_pos (List.mem_range.1 hi)]
def GV (F:Nat→Int):Nat→Int
  | 0=>0
  | k+1=>GV F k+F k
theorem sumTo_eq:∀ n,GV F n=((List.range n).map F).sum:=by
  intro n
  induction n with
  | zero=>rfl
  | succ n ih=>rw [GV,ih,List.range_succ,List.map_append,List.sum_append];simp
theorem sumTo_le {c:Int} (h:∀ i,0≤F i∧F i≤c):∀ k,0≤GV F k∧GV F k≤k*c:=by
  intro k
  induction k with
  | zero=>simp [GV]
  | succ k ih=>
    have:=h k;rw [GV,show ((k+1:Nat):Int)*c=k*c+c by rw [Int.natCast_add,Int.add_mul];omega];omega
end
section
variable {h nd:List Int} {b:Int} {k:Nat}
theorem div_give (hk:k<h.length) (e:nd.getD k 0≤h.getD k 0):(EM (CQ h nd b) h.length k).set k ((h.getD k 0-nd.getD k 0)/b)=EM (CQ h nd b) h.length (k+1)∧EM (EI h nd b) h.length k=EM (EI h nd b) h.length (k+1):=by
  refine ⟨?_,fill_skip (if_pos e)⟩;rw [← fill_set hk,CQ,if_pos e]
theorem div_get (hk:k<h.length) (e:¬ nd.getD k 0≤h.getD k 0):(EM (EI h nd b) h.length k).set k ((nd.getD k 0-h.getD k 0+b-1)/b)=EM (EI h nd b) h.length (k+1)∧EM (CQ h nd b) h.length k=EM (CQ h nd b) h.length (k+1):=by
  refine ⟨?_,fill_skip (if_neg e)⟩;rw [← fill_set hk,EI,if_neg e]
theorem Pool.bound (hp:Pool h nd b) (i:Nat):(0≤CQ h nd b i∧CQ h nd b i≤50)∧(0≤EI h nd b i∧EI h nd b i≤50):=by
  by_cases hi:i<h.length
  · have h1:=DB (hp.each i hi).1;have h2:=DB (hp.each i hi).2
    exact ⟨⟨OO hp.bale.1 i,giveOf_le hp.bale.1 (by decide) h1.2 h2.1⟩,⟨RC hp.bale.1 i,getOf_le hp.bale.1 (by decide) h2.2 h1.1⟩⟩
  · have e1:h.getD i 0=0:=by simp [List.getD,List.getElem?_eq_none (Nat.le_of_not_lt hi)]
    have e2:nd.getD i 0=0:=by have:=hp.same;simp [List.getD,List.getElem?_eq_none (show nd.length≤i by omega)]
    simp only [CQ,EI,e1,e2];simp
theorem Pool.at (hp:Pool h nd b) {i:Nat} (hi:i<h.length):0≤h.getD i 0∧h.getD i 0≤50∧0≤nd.getD i 0∧nd.getD i 0≤50:=by
  have h1:=DB (hp.each i hi).1;have h2:=DB (hp.each i hi).2;exact ⟨h1.1,h1.2,h2.1,h2.2⟩
theorem Pool.grow (hp:Pool h nd b):GrowOk h.length (FQ h nd b).sum (FN h nd b) (FQ h nd b):=by
  refine ⟨hp.few,OP,RD,fun x hx=>?_,fun x hx=>?_,rfl⟩
  · obtain ⟨i,_,rfl⟩:=List.mem_map.1 hx;exact (hp.bound i).1
  · obtain ⟨i,_,rfl⟩:=List.mem_map.1 hx;exact (hp.bound i).2
theorem gives_sum:GV (CQ h nd b) h.length=(FN h nd b).sum:=sumTo_eq _
theorem gets_sum:GV (EI h nd b) h.length=(FQ h nd b).sum:=sumTo_eq _
end
section
variable {n k:Nat} {g l:List Int}
theorem first_some (hn:0<n) (hg:g.length=n) (hl:l.length=n) (g0:∀ x∈g,0≤x) (l0:∀ x∈l,0≤x) (hs:¬ g.sum<l.sum):firstD n g l≠none:=by
  rw [firstD_best l0];cases hL:DM n (n*n) g l with
  | nil=>exact absurd ((lists_none hn hg hl g0 l0).1 hL) hs
  | cons x r=>simp
theorem first_more (hex:firstD n g l≠none) (hno:∀ j,j<k→CL n (n*n) j l.sum g l=none) (hs:(CL n (n*n) k l.sum g l).isSome=false):k+1≤n*n:=by
  refine Nat.le_of_not_lt fun hk=>hex (GM fun j hj=>?_)
  by_cases e:j<k
  · exact hno j e
  · obtain rfl:j=k:=by omega
    cases hx:CL n (n*n) j l.sum g l with
    | none=>rfl
    | some x=>rw [hx] at hs;cases hs
theorem divD_hit (hno:∀ j,j<k→CL n (n*n) j l.sum g l=none) (hk:k≤n*n) (hs:(CL n (n*n) k l.sum g l).isSome=true):firstD n g l=CL n (n*n) k l.sum g l:=by
  obtain ⟨r,hr⟩:=Option.isSome_iff_exists.1 hs;rw [hr];exact JX hno hr (by omega)
theorem none_next (hno:∀ j,j<k→CL n (n*n) j l.sum g l=none) (hs:(CL n (n*n) k l.sum g l).isSome=false):∀ j,j<k+1→CL n (n*n) j l.sum g l=none:=
  KE hno (by cases hx:CL n (n*n) k l.sum g l with | none=>rfl | some x=>rw [hx] at hs;cases hs)
end
theorem divE_bad {h nd:List Int} {b:Int} (e:DR h nd b≠0):divE h nd b=([],DR h nd b):=if_pos e
theorem divE_none {h nd:List Int} {b:Int} (e:DR h nd b=0) (hs:(FN h nd b).sum<(FQ h nd b).sum):divE h nd b=([],11):=by unfold divE;rw [if_neg (by omega),if_pos hs]
theorem divE_ok {h nd:List Int} {b:Int} (e:DR h nd b=0) (hs:¬ (FN h nd b).sum<(FQ h nd b).sum):divE h nd b=((firstD h.length (FN h nd b) (FQ h nd b)).getD [],0):=by unfold divE;rw [if_neg (by omega),if_neg hs]
def CartsV (I:Imm) (vs:List Value) (xss:List (List Cart)):Prop:=vs.length=xss.length∧∀ i,i<xss.length→IsCarts I (vs.getD i undef) (xss.getD i [])
theorem CartsV.nil (I:Imm):CartsV I [] []:=⟨rfl,fun i hi=>by simp at hi⟩
theorem CartsV.append {I:Imm} {vs ws:List Value} {xss yss:List (List Cart)} (h:CartsV I vs xss) (k:CartsV I ws yss):CartsV I (vs++ws) (xss++yss):=by
  have h1:=h.1;refine ⟨by simp [h.1,k.1],fun i hi=>?_⟩;simp only [List.length_append] at hi
  by_cases e:i<xss.length
  · have:=h.2 i e
    simp only [List.getD] at this ⊢;rw [List.getElem?_append_left (by omega),List.getElem?_append_left e];exact this
  · have:=k.2 (i-xss.length) (by omega)
    simp only [List.getD] at this ⊢;rw [List.getElem?_append_right (by omega),List.getElem?_append_right (by omega),h1];exact this
theorem CartsV.one {I:Imm} {vs:List Value} {xss:List (List Cart)} (h:CartsV I vs xss):vs.all DC=true:=by
  rw [List.all_eq_true];intro v hv;obtain ⟨i,hi,rfl⟩:=List.mem_iff_getElem.1 hv;have:=h.2 i (h.1▸hi);obtain ⟨a,c,b,o,e,_⟩:=this;rw [List.getD,List.getElem?_eq_getElem hi] at e;simp only [Option.getD_some] at e;rw [e];rfl
section
variable {n q fr to c:Nat} {g l:List Int}
end
section
variable {h nd:List Int} {b:Int} {k:Nat}
end
def bookL:Lin:=⟨2,1,[[10],[0]],[⟨1,2,5⟩],[⟨1,1,1,0,1,0,false,6⟩,⟨2,3,2,1,0,0,false,4⟩,⟨3,5,4,1,0,0,false,1⟩,⟨4,5,4,1,0,0,true,4⟩,⟨6,6,1,1,0,0,true,4⟩]⟩
def turnedL:Lin:=⟨2,1,[[10],[0]],[⟨1,2,5⟩],[⟨6,6,1,1,0,0,true,4⟩,⟨4,5,4,1,0,0,true,4⟩,⟨3,5,4,1,0,0,false,1⟩,⟨2,3,2,1,0,0,false,4⟩,⟨1,1,1,0,1,0,false,6⟩]⟩
theorem ex_stock:IL turnedL 9=([[4,4],[1,0]],0):=by decide +kernel
theorem ex_gaps:ON bookL=([⟨3,-1⟩],0):=by decide +kernel
theorem ex_hold:CS bookL 3=([5],0):=by decide +kernel
theorem ex_wrong:IG bookL=([3],0):=by decide +kernel
theorem ex_div:divE [7,0,3] [2,4,3] 2=([⟨0,1,2⟩],0):=by decide +kernel
theorem turn_step {l:List Slip} {k:Nat} (hk:k<l.length):(l.reverse.take k++l.drop k).set k (l.getD (l.length-1-k) AB)=l.reverse.take (k+1)++l.drop (k+1):=by
  rw [List.set_append_right _ _ (by rw [List.length_take,List.length_reverse];omega)];rw [List.length_take,List.length_reverse,Nat.min_eq_left (by omega),Nat.sub_self];rw [List.drop_eq_getElem_cons hk,List.set_cons_zero,CH (d:=AB) (by rw [List.length_reverse];exact hk)];have e:l.reverse.getD k AB=l.getD (l.length-1-k) AB:=by
    simp only [List.getD];rw [List.getElem?_reverse hk]
  rw [e];simp
end Go.Sh
