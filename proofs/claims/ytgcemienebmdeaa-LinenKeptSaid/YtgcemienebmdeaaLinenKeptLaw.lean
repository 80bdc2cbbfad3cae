/- For every list of numbers LinenKept returns true, and changes nothing of it; no condition. -/
import Derived.Test.YtgcemienebmdeaaP4
import Derived.Test.YtgcemienebmdeaaLinenKeptP6
import Derived.Test.YtgcemienebmdeaaP5
import Derived.Test.YtgcemienebmdeaaP0
import Derived.ChangeSame
import Derived.ChangeSlices
import Derived.WideShapes
import Derived.JoinedOf
import Derived.Test.YtgcemienebmdeaaP1
import Derived.Deep.Slices
import Derived.Lib.SmallJoins
import Derived.SizedLaws
import Derived.Test.YtgcemienebmdeaaRows
import Derived.ChangeVars
import Derived.RowKit
import Derived.RowKitTokens
import Derived.Stop.Joined
import Derived.WideKeyArgs
import Derived.ProofKit
set_option linter.unusedVariables false
set_option linter.unusedSimpArgs false
namespace Go.Proofs.Ytgcemienebmdeaa
open Go Go.Sl Go.Sh
set_option maxRecDepth 100000
noncomputable def c_Total (p:List Nat):Code:=sub (AQ Try.f28) p
theorem Total_ct (I:Imm) (l:Value) (L:Lin) (sx:Int) (n:Int) (l_f:IsLin I l L):Ct Try.prog 28 #[l,vI sx,vI n] I ([]) (fun v I' M'=>v=.tuple #[vI ((GO L sx n).1),vI ((GO L sx n).2)]∧M'=[]):=by
 obtain ⟨l1,l2,l3,j3,b7,b8,b9⟩:=id l_f;subst j3;obtain ⟨a3,a4,h7,i0,h5,d9,h8,h9,i1,i2⟩:=id b7;subst d9;obtain ⟨a5,a6,i3,i6,e0,i4,i5,i7⟩:=id b8;subst e0;obtain ⟨a7,a8,i8,j1,e1,i9,j0,j2⟩:=id b9;subst e1;refine fr (args:=[_,_,_]) (N:=48) Try.func28 (fun F=>?_);show Run _ _ (c_Total []) _ _ [(0,.agg #[vI (L.places),vI (L.sorts),vS a3 L.start.length a4,vS a5 L.keeps.length a6,vS a7 L.slips.length a8]),(1,vI (sx)),(2,vI (n))] _ _;refine rnm (rqr ?_);refine sS (sb 3 40 #[vI (L.places),vI (L.sorts),vS a3 L.start.length a4,vS a5 L.keeps.length a6,vS a7 L.slips.length a8] (fun b1=>(sp 2 [(7,vI (0)),(6,vI (0))] (se (rq (rqr (sd (dnb 12 0 0 b1 [vI (L.places),vI (L.sorts),vS a3 L.start.length a4,vS a5 L.keeps.length a6,vS a7 L.slips.length a8]) (sd (dc 13 (fun I' hI=>(JN I' _ (L) ((HC b7 b8 b9).mono hI) :))) (sp 1 [(8,vI ((AY L)))] (sn (sp 2 [(15,.bool (!(cmp .eql ((AY L)) (0))))] (se (rc 15 rfl (fun h1=>?_) (fun h1=>?_))))))))))))))
 ·
  have d2:=h1;have h1:=BU (CP h1);refine rqr (sp 3 [(7,vI ((AY L))),(6,vI (0))] (se (BQ ((RP ?_)))));have hE:=totalE_1 (L:=L) (so:=sx) (hour:=n) h1;refine CH (t:=6) (u:=7) [] (by kernel_rfl) rfl rfl (TC _ (TR _)) (IR _) ?_;exact ⟨(by rw [hE]),rfl⟩
 have d2:=h1;have h1:=BV (CO h1);refine AO (NX (rq (rb 0 (rq ?_))));have hz:AY L=0:=by omega
 have hg:=LZ hz;have j8:=hg.places;have j9:=hg.sorts;refine rr (sp 2 [(19,vP b1 1),(18,vI (sx))] (sd (dlb 20 0 1 b1 (vI (L.sorts))) (sd (dsb 21 (L.sorts) (1)) (sd (dc 22 (fun I' hI=>(IV I' (sx) (0) (L.sorts-1) :))) (sp 2 [(17,.bool (!(inB sx 0 (L.sorts-1))))] (se (rc 17 rfl (fun h2=>?_) (fun h2=>?_))))))))
 ·
  have d4:=h2;have h2:=CP h2;have d3:=JT h2;refine rqr (sp 2 [(7,vI (3)),(6,vI (0))] (se (BQ ((RB (RP ?_))))));have hE:=totalE_2 (L:=L) (so:=sx) (hour:=n) (by omega) h2;refine CH (t:=6) (u:=7) [] (by kernel_rfl) rfl rfl (TC _ (TR _)) (IR _) ?_;exact ⟨(by rw [hE]),rfl⟩
 have d4:=h2;have h2:=CO h2;have d3:=DX h2;refine rqr (sp 1 [(25,vI (n))] (sd (dc 26 (fun I' hI=>(IV I' (n) (0) (200) :))) (sp 2 [(24,.bool (!(inB n 0 200)))] (se (rc 24 rfl (fun h3=>?_) (fun h3=>?_))))))
 ·
  have d6:=h3;have h3:=CP h3;have d5:=JT h3;refine rqr (sp 2 [(7,vI (1)),(6,vI (0))] (se (BQ ((RB (RP ?_))))));have hE:=totalE_3 (L:=L) (so:=sx) (hour:=n) (by omega) h2 h3;refine CH (t:=6) (u:=7) [] (by kernel_rfl) rfl rfl (TC _ (TR _)) (IR _) ?_;exact ⟨(by rw [hE]),rfl⟩
 have d6:=h3;have h3:=CO h3;have d5:=DX h3;refine AO (NB (NX (rqr (sp 1 [(9,vI (0))] (se (rq (rqr (sd (dnb 28 0 0 b1 [vI (L.places),vI (L.sorts),vS a3 L.start.length a4,vS a5 L.keeps.length a6,vS a7 L.slips.length a8]) (sp 1 [(29,vI (n))] (sS (sc (some 30) (at_ct _ _ (L) (n) (HC b7 b8 b9) (by assumption) :) (.refl _) (fun j5 I3 j4 d8 h6=>?_))))))))))));obtain ⟨u8,k0,j6,j7,e3,b6,a9,h0,g9,e2,b2⟩:=h6;rw [h0,g9];clear h0 g9;have g6:=e2;obtain ⟨g7,c1,c3,c5⟩:=id g6;obtain ⟨e4,e6,e5,e9,d0,c0,e7,e8,f0,f1⟩:=id c1;subst c0;obtain ⟨f2,f4,f3,f7,c2,f5,f6,f8⟩:=id c3;subst c2;obtain ⟨f9,g1,g0,g4,c4,g2,g3,g5⟩:=id c5;subst c4;refine nm ?_;refine sp 1 [(31,vP u8 0)] (sd (AU (x:=(.tmp 31)) (T:=103) (k:=1) (o:=5) (d:=32) (ty:=0) (gd:=none) (by kernel_rfl) rfl (by kernel_rfl) rfl) (sd (AV (v:=.map (some e3)) (x:=(.tmp 32)) (T:=101) (d:=33) (ty:=101) (gd:=none) (by kernel_rfl) rfl (by kernel_rfl) rfl (AR g7 rfl)) (sS (stp_range (d:=34) (x:=(.tmp 33)) (T:=101) (kt:=106) (et:=3) (es:=b6) (cl:=a9) (ty:=0) (gd:=none) (by kernel_rfl) rfl (by kernel_rfl) rfl (.inl (List.mem_of_getElem? (i:=0) rfl)) (fun g8=>(se (rb 1 ?_)))))));refine rl (fun mz a w=>∃ dn:Hs,∃ td:Hs,∃ a2:Array Nat,((dn++td).Perm (atH L n))∧(Go.Sl.Left JK b6 a2 (intV td))∧Slots 48 [(9,vI (HG sx dn)),(1,vI (sx)),(6,vI (0)),(7,vI (0)),(34,vP g8 0)] a∧a.defers=[]∧St I3 ((g8,Obj.mapIter (some e3) a9 a2 a9)::(e3,Obj.map b6 a9)::(bX b1 #[vI (L.places),vI (L.sorts),vS a3 L.start.length a4,vS a5 L.keeps.length a6,vS a7 L.slips.length a8] 40)::F) w∧mz=td.length) ?_ ?_
 ·intro a w hS hD hW;exact ⟨_,[],(atH L n),#[],PR _,(Left.start b2.1.1),hS.sub (.cons 9 rfl (.cons 1 rfl (.cons 6 rfl (.cons 7 rfl (.cons 34 rfl (.nil _)))))),hD,hW,rfl⟩
 rintro mz a w ⟨dn,td,a2,c9,b0,hS,hD,hW,rfl⟩
 refine AS hS hD hW ?_;clear hS hD hW a w;refine rqr (sS (stp_nextH (d:=35) (x:=(.tmp 34)) (todo:=td) 0 (ty:=0) (gd:=none) (by kernel_rfl) rfl rfl rfl (.inl (List.mem_of_getElem? (i:=1) rfl)) b2.1.2 b0 (fun c7=>?_) (fun b3 a0 b4 c8 a1 b5 c6=>?_)))
 ·
  refine sp 1 [(36,.bool (false))] (se (rq (rcf 36 rfl (CE 1 ((EP (EP (EB (NX (rqr (sp 3 [(7,vI (0)),(6,vI (HG sx dn))] (se (BQ ?_)))))))))))));have hE:=totalE_4 hz h2 h3;have hS:=sumK_done (so:=sx) c9 c7;refine CH (t:=6) (u:=7) [] (by kernel_rfl) rfl rfl (TC _ (TC _ (TC _ (TR _)))) d8 ?_;exact ⟨(by rw [hE,hS]),rfl⟩
 show Seq _ _ _ _ _ _ ((35,.tuple #[.bool (true),.agg #[vI (a0.1.pl),vI (a0.1.so),.bool (a0.1.soil)],vI (a0.2)])::_) _ _;refine nm ?_;refine sp 1 [(36,.bool (true))] (se (rq (rct 36 rfl (AO (NX (rb 2 (rqr (sS (stp_entry (d:=37) (x:=(.tmp 34)) (enc:=JK) (y:=(a0.1,vI a0.2)) (ty:=0) (gd:=none) (by kernel_rfl) rfl rfl (List.mem_of_getElem? (i:=0) rfl) (.inl (List.mem_of_getElem? (i:=1) rfl)) b2.1.2 c6 ?_)))))))));show Seq _ _ _ _ _ _ ((37,.tuple #[.agg #[vI (a0.1.pl),vI (a0.1.so),.bool (a0.1.soil)],vI (a0.2)])::_) _ _;refine sp 2 [(39,vI (a0.2)),(38,.agg #[vI (a0.1.pl),vI (a0.1.so),.bool (a0.1.soil)])] (sS (sal 10 106 #[vI (0),vI (0),.bool (false)] (fun d1=>(sS (ss 0 0 d1 [vI (a0.1.pl),vI (a0.1.so),.bool (a0.1.soil)] [vI (a0.1.pl),vI (a0.1.so),.bool (a0.1.soil)] (_::_::_::_::_) (cs:=[_,_,_]) rfl rfl (sp 1 [(11,vI (a0.2))] (sn (sp 1 [(40,vP d1 1)] (sd (dlb 41 0 1 d1 (vI (a0.1.so))) (sp 2 [(43,.bool (cmp .eql (a0.1.so) (sx)))] (se (rc 43 rfl (fun h4=>?_) (fun h4=>?_)))))))))))))
 ·
  have d7:=h4;have h4:=BV h4;have hq:=sum_cut (so:=sx) hg b2.2 c9 a1;refine rr (sp 2 [(45,vI (a0.2)),(44,vI (HG sx dn))] (sd (da 46 (HG sx dn) (a0.2)) (sp 1 [(9,vI ((HG sx dn)+a0.2))] (ee (NB ?_)))));refine AL ((b3++b4).length) (OD a1) ?_;intro a w hS hD hW;exact ⟨dn++[a0],b3++b4,c8,ME c9 a1,b5,hS.sub (.consE 9 rfl (congrArg (Value.int .i64) (by rw [sumK_snoc,if_pos (by omega)])) (.cons 1 rfl (.cons 6 rfl (.cons 7 rfl (.cons 34 rfl (.nil _)))))),hD,(hW.perm (PR _)).sub (TC _ (TR _)),rfl⟩
 have d7:=h4;have h4:=BU h4;refine AO (NB ?_);refine AL ((b3++b4).length) (OD a1) ?_;intro a w hS hD hW;exact ⟨dn++[a0],b3++b4,c8,ME c9 a1,b5,hS.sub (.consE 9 rfl (congrArg (Value.int .i64) (by rw [sumK_snoc,if_neg (by omega)];omega)) (.cons 1 rfl (.cons 6 rfl (.cons 7 rfl (.cons 34 rfl (.nil _)))))),hD,(hW.perm (PR _)).sub (TC _ (TR _)),rfl⟩
noncomputable def c_LinenKept (p:List Nat):Code:=sub (AQ Try.f6) p
set_option maxHeartbeats 1000000 in
theorem LinenKept_ct (I:Imm) (x1:Value) (ns:List Int) (x1_f:BW I x1 ns):Ct Try.prog 6 #[x1] I ([]) (fun v I' M'=>v=.bool (true)∧M'=[]):=by
 obtain ⟨f2,f3,m8,n1,j7,m9,n0,n2⟩:=id x1_f;subst j7;refine fr (args:=[_]) (N:=111) Try.func6 (fun F=>?_);show Run _ _ (c_LinenKept []) _ _ [(0,vS f2 ns.length f3)] _ _;refine rnm (rqr ?_);refine sp 1 [(2,.bool (false))] (sn (sp 1 [(14,vS f2 ns.length f3)] ?_));have d3:=NewBag_ct I _ _ x1_f;refine sS (sc (some 15) (d3 :) (.refl _) (fun o6 I1 o5 g8 l4=>?_));obtain ⟨u6,m7,k0,j9⟩:=l4;rw [k0,j9];clear k0 j9;refine nm ?_;have d4:=LinenOf_ct I1 (u6) (m7) (8) (3);refine sS (sc (some 16) (F:=(F)) (d4 :) (.refl _) (fun l9 k7 l5 d8 g9=>?_));obtain ⟨b9,a0,o7,e5,e1,i2,i1⟩:=g9;rw [e5,e1];clear e5 e1;have f1:=i1;obtain ⟨m4,m5,m6,f0,a7,a8,a9⟩:=id f1;subst f0;obtain ⟨a3,a4,i4,i7,f4,c9,i5,i6,b2,b4⟩:=id a7;subst c9;obtain ⟨a5,a6,i8,j1,d0,i9,j0,j2⟩:=id a8;subst d0;obtain ⟨a1,a2,j3,j6,d1,j4,j5,b3⟩:=id a9;subst d1;refine nm ?_;have hg:=i2;have hz:=good_err hg;have n6:=hg.places;have n7:=hg.sorts;have n8:=hg.start;have n9:=hg.slips;refine sS (sal 3 40 #[vI (0),vI (0),vN,vN,vN] (fun b6=>(sS (ss 0 0 b6 [vI (a0.places),vI (a0.sorts),vS a3 a0.start.length a4,vS a5 a0.keeps.length a6,vS a1 a0.slips.length a2] [vI (a0.places),vI (a0.sorts),vS a3 a0.start.length a4,vS a5 a0.keeps.length a6,vS a1 a0.slips.length a2] (_::_::_) (cs:=[_,_,_,_,_]) rfl rfl (sn (sd (dnb 18 0 0 b6 [vI (a0.places),vI (a0.sorts),vS a3 a0.start.length a4,vS a5 a0.keeps.length a6,vS a1 a0.slips.length a2]) ?_))))));have d5:=Gaps_ct k7 _ (a0) (HC a7 a8 a9);refine sS (sc (some 19) (d5 :) (.refl _) (fun m0 n3 l6 b7 h0=>?_));obtain ⟨m3,d2,e6,e2,e9⟩:=h0;rw [e6,e2];clear e6 e2;replace a7:=a7.mono b7;replace b2:=b2.mono b7;replace b4:=fun i hi=>(b4 i hi).mono b7
 replace a8:=a8.mono b7;replace a9:=a9.mono b7;replace b3:=b3.mono b7;obtain ⟨b0,b1,c8,i3⟩:=e9.shape;subst c8;refine pm (M':=((bX b6 #[vI (a0.places),vI (a0.sorts),vS a3 a0.start.length a4,vS a5 a0.keeps.length a6,vS a1 a0.slips.length a2] 40)::(bX u6 #[.int .u64 (b9)] 71)::(d2++F))) (PW PM) (sp 5 [(5,vI (((BP a0).2))),(4,vS b0 ((BP a0).1).length b1)] (se (rq (rqr (sp 1 [(22,vI (((BP a0).2)))] (sd (dcm 23 .neq (((BP a0).2)) (0) false (by rw [gapsE_2 hz];rfl)) (se (rcf 23 rfl (AO (NX (rq (rq ?_))))))))))));have o1:(BP a0).1.length≤8:=by rw [NZ hg];have h1:=IQ (l:=BB a0);have h2:=GY (L:=a0);omega
 refine GM (B:=((bX b6 #[vI (a0.places),vI (a0.sorts),vS a3 a0.start.length a4,vS a5 a0.keeps.length a6,vS a1 a0.slips.length a2] 40)::(bX u6 #[.int .u64 (b9)] 71)::F)) GS e9 (by first | omega | (simp only [LS,LC,LN,LA,LK,LD] <;> omega) | decide) (PU (PM.symm)) (PR _) (fun j8 b8 c7=>?_);replace a7:=a7.mono b8;replace b2:=b2.mono b8;replace b4:=fun i hi=>(b4 i hi).mono b8
 replace a8:=a8.mono b8;replace a9:=a9.mono b8;replace b3:=b3.mono b8;obtain ⟨f5,f7,c1,c2,c6,f8,f9,b5⟩:=id c7;cases c6;refine rr (sp 1 [(6,vI (0))] (se (rb 0 ?_)));refine rl (fun mz a w=>∃ J0:Imm,∃ k:Nat,(j8.le J0)∧((k:Int)≤a0.sorts)∧Slots 111 [(6,vI ↑k),(3,vP b6 0),(4,vS b0 ((BP a0).1).length b1)] a∧a.defers=[]∧St J0 ((bX b6 #[vI (a0.places),vI (a0.sorts),vS a3 a0.start.length a4,vS a5 a0.keeps.length a6,vS a1 a0.slips.length a2] 40)::(bX u6 #[.int .u64 (b9)] 71)::F) w∧mz=(a0.sorts).toNat-k) ?_ ?_
 ·intro a w hS hD hW;exact ⟨_,j8,0,IR _,by omega,hS.sub (.cons 6 rfl (.cons 3 rfl (.cons 4 rfl (.nil _)))),hD,hW,rfl⟩
 rintro mz a w ⟨J0,k,hJ0,hk,hS,hD,hW,rfl⟩
 refine AS hS hD hW ?_;clear hS hD hW a w;replace a7:=a7.mono hJ0;replace b2:=b2.mono hJ0;replace b4:=fun i hi=>(b4 i hi).mono hJ0
 replace a8:=a8.mono hJ0;replace a9:=a9.mono hJ0;replace b3:=b3.mono hJ0;replace b5:=b5.mono hJ0;refine rq (rqr (sp 2 [(25,vP b6 1),(24,vI (↑k))] (sd (dlb 26 0 1 b6 (vI (a0.sorts))) (sp 1 [(27,.bool (cmp .lss (↑k) (a0.sorts)))] (se (rc 27 rfl (fun h1=>?_) (fun h1=>?_)))))))
 ·
  have g0:=h1;have h1:=CQ h1;refine AO (NX (rq (rb 1 (rqr (sp 1 [(7,vI (0))] (se (rq (rqr (sp 1 [(8,vI (0))] (se (rb 2 ?_)))))))))));refine rl (fun mz a w=>∃ i:Nat,((i:Int)≤a0.places)∧Slots 111 [(7,vI (BN k a0.start i)),(8,vI ↑i),(3,vP b6 0),(4,vS b0 ((BP a0).1).length b1),(6,vI (↑k))] a∧a.defers=[]∧St J0 ((bX b6 #[vI (a0.places),vI (a0.sorts),vS a3 a0.start.length a4,vS a5 a0.keeps.length a6,vS a1 a0.slips.length a2] 40)::(bX u6 #[.int .u64 (b9)] 71)::F) w∧mz=a0.start.length-i) ?_ ?_
  ·intro a w hS hD hW;exact ⟨_,0,by omega,hS.sub (.cons 7 rfl (.cons 8 rfl (.cons 3 rfl (.cons 4 rfl (.cons 6 rfl (.nil _)))))),hD,hW,rfl⟩
  rintro mz a w ⟨i,hi,hS,hD,hW,rfl⟩
  refine AS hS hD hW ?_;clear hS hD hW a w;refine rq (rqr (sp 2 [(31,vP b6 0),(30,vI (↑i))] (sd (dlb 32 0 0 b6 (vI (a0.places))) (sp 1 [(33,.bool (cmp .lss (↑i) (a0.places)))] (se (rc 33 rfl (fun h2=>?_) (fun h2=>?_)))))))
  ·
   have g1:=h2;have h2:=CQ h2;refine AO (NX (rq (rb 3 ?_)));have o3:=hg.rows _ (AZ (xs:=a0.start) (d:=[]) (k:=i) (by omega));have n5:=KW (so:=k) (k:=i) hg;have k9:=KW (so:=k) (k:=i+1) hg;rw [KD (by omega)] at k9;refine rr (sp 2 [(37,vP b6 2),(36,vI (BN k a0.start i))] (sd (dlb 38 0 2 b6 (vS a3 a0.start.length a4)) (sp 1 [(39,vI (↑i))] (sd (di 40 1 (i) b2.addr) ?_))));have c4:=b4 (i) (by omega);obtain ⟨k1,k3,k2,k6,c3,k4,k5,c5⟩:=id c4;rw [c3] at c4;refine sd (EO (dl 41 (JB b2 (i) (by omega))) c3) (sp 1 [(42,vI (↑k))] (sd (di 43 1 (k) c5.addr) (sd (dl 44 (DR c5 (k) (by omega))) (sd (da 45 (BN k a0.start i) ((a0.start.getD (i) []).getD (k) 0)) (sp 1 [(7,vI ((BN k a0.start i)+((a0.start.getD (i) []).getD (k) 0)))] (ee (NB (NX (rr (sp 1 [(34,vI (↑i))] (sd (da 35 (↑i) (1)) (sp 1 [(8,vI (↑i+1))] (ee ?_)))))))))))));refine AL (a0.start.length-(i+1)) (by omega) ?_;intro a w hS hD hW;exact ⟨i+1,by omega,hS.sub (.consE 7 rfl (congrArg (Value.int .i64) ((KD (by omega)).symm)) (.consE 8 rfl rfl (.cons 3 rfl (.cons 4 rfl (.cons 6 rfl (.nil _)))))),hD,hW,rfl⟩
  have g1:=h2;have h2:=DB h2;refine CE 2 ((EP (EP (EB (NX (rq (rqr (sp 1 [(9,vI (0))] (DM 7 rfl (show (vI (BN k a0.start i):Value)=vI (BN k a0.start a0.start.length+EM ↑k (BP a0).1 (a0.slips.take 0)) from congrArg (Value.int .i64) (by rw [show i=a0.start.length by omega];exact dueTo_0)) (se (rb 4 ?_)))))))))));refine rl (fun mz a w=>∃ i:Nat,(i≤a0.slips.length)∧Slots 111 [(7,vI (BN k a0.start a0.start.length+EM ↑k (BP a0).1 (a0.slips.take i))),(9,vI ↑i),(3,vP b6 0),(4,vS b0 ((BP a0).1).length b1),(6,vI (↑k))] a∧a.defers=[]∧St J0 ((bX b6 #[vI (a0.places),vI (a0.sorts),vS a3 a0.start.length a4,vS a5 a0.keeps.length a6,vS a1 a0.slips.length a2] 40)::(bX u6 #[.int .u64 (b9)] 71)::F) w∧mz=a0.slips.length-i) ?_ ?_
  ·intro a w hS hD hW;exact ⟨_,0,Nat.zero_le _,hS.sub (.cons 7 rfl (.cons 9 rfl (.cons 3 rfl (.cons 4 rfl (.cons 6 rfl (.nil _)))))),hD,hW,rfl⟩
  rintro mz a w ⟨i,hi,hS,hD,hW,rfl⟩
  refine AS hS hD hW ?_;clear hS hD hW a w;refine rq (rqr (sp 2 [(47,vP b6 4),(46,vI (↑i))] (sd (dlb 48 0 4 b6 (vS a1 a0.slips.length a2)) (sp 2 [(50,.bool (cmp .lss (↑i) (↑(a0.slips.length))))] (se (rc 50 rfl (fun h3=>?_) (fun h3=>?_)))))))
  ·
   have g2:=h3;have h3:=CQ h3;refine AO (NX (rq (rb 5 (rqr (sp 1 [(53,vP b6 4)] (sd (dlb 54 0 4 b6 (vS a1 a0.slips.length a2)) (sp 1 [(55,vI (↑i))] (sd (di 56 8 (i) b3.addr) (sd (DC (x:=(.tmp 56)) (T:=47) (n:=8) (vs:=[vI ((a0.slips.getD (i) AB).num),vI ((a0.slips.getD (i) AB).hour),vI ((a0.slips.getD (i) AB).kind),vI ((a0.slips.getD (i) AB).place),vI ((a0.slips.getD (i) AB).to),vI ((a0.slips.getD (i) AB).sort),.bool ((a0.slips.getD (i) AB).soil),vI ((a0.slips.getD (i) AB).amt)]) (d:=57) (ty:=47) (gd:=none) (by kernel_rfl) rfl (by kernel_rfl) (by kernel_rfl) rfl rfl (EW (vals:=EL) (fun _=>rfl) b3 (i) (by omega))) (sS (sal 10 47 #[vI (0),vI (0),vI (0),vI (0),vI (0),vI (0),.bool (false),vI (0)] (fun c0=>(sS (ss 0 0 c0 [vI ((a0.slips.getD (i) AB).num),vI ((a0.slips.getD (i) AB).hour),vI ((a0.slips.getD (i) AB).kind),vI ((a0.slips.getD (i) AB).place),vI ((a0.slips.getD (i) AB).to),vI ((a0.slips.getD (i) AB).sort),.bool ((a0.slips.getD (i) AB).soil),vI ((a0.slips.getD (i) AB).amt)] [vI ((a0.slips.getD (i) AB).num),vI ((a0.slips.getD (i) AB).hour),vI ((a0.slips.getD (i) AB).kind),vI ((a0.slips.getD (i) AB).place),vI ((a0.slips.getD (i) AB).to),vI ((a0.slips.getD (i) AB).sort),.bool ((a0.slips.getD (i) AB).soil),vI ((a0.slips.getD (i) AB).amt)] (_::_::_::_) (cs:=[_,_,_,_,_,_,_,_]) rfl rfl (se (rq (rqr (sp 1 [(58,vP c0 5)] (sd (dlb 59 0 5 c0 (vI ((a0.slips.getD (i) AB).sort))) (sp 2 [(61,.bool (!(cmp .eql ((a0.slips.getD (i) AB).sort) (↑k))))] (se (rc 61 rfl (fun h4=>?_) (fun h4=>?_)))))))))))))))))))))))
   ·
    have g3:=h4;have h4:=BU (CP h4);refine CE 5 ((EP (EB (NX (rr (sp 1 [(51,vI (↑i))] (sd (da 52 (↑i) (1)) (sp 1 [(9,vI (↑i+1))] (ee ?_)))))))));refine AL (a0.slips.length-(i+1)) (by omega) ?_;intro a w hS hD hW;exact ⟨i+1,by omega,hS.sub (.consE 7 rfl (congrArg (Value.int .i64) (dueTo_f (by omega) (by omega))) (.consE 9 rfl rfl (.cons 3 rfl (.cons 4 rfl (.cons 6 rfl (.nil _)))))),hD,(hW.perm (PR _)).sub (TC _ (TR _)),rfl⟩
   have g3:=h4;have h4:=BV (CO h4);refine AO (NX (rq ?_));refine DE (fun a w=>Slots 111 [(3,vP b6 0),(4,vS b0 ((BP a0).1).length b1),(6,vI (↑k)),(7,vI (BN k a0.start a0.start.length+EM ↑k (BP a0).1 (a0.slips.take i)+dueS (a0.slips.getD (i) AB))),(9,vI (↑i)),(10,vP c0 0)] a∧a.defers=[]∧St J0 ((bX c0 #[vI ((a0.slips.getD (i) AB).num),vI ((a0.slips.getD (i) AB).hour),vI ((a0.slips.getD (i) AB).kind),vI ((a0.slips.getD (i) AB).place),vI ((a0.slips.getD (i) AB).to),vI ((a0.slips.getD (i) AB).sort),.bool ((a0.slips.getD (i) AB).soil),vI ((a0.slips.getD (i) AB).amt)] 47)::(bX b6 #[vI (a0.places),vI (a0.sorts),vS a3 a0.start.length a4,vS a5 a0.keeps.length a6,vS a1 a0.slips.length a2] 40)::(bX u6 #[.int .u64 (b9)] 71)::F) w) ?_ ?_
   ·
    refine rq ?_;have o2:=kept_bounds (k:=k) (so:=↑k) (i:=i) (n:=0) (m:=0) hg;have l0:=dueS_small (i:=i) hg (by omega);have o4:=(GA (hg.slipAt (k:=i) (by omega))).2.2.2.2.2.1;refine rr (sp 1 [(62,vP c0 2)] (sd (dlb 63 0 2 c0 (vI ((a0.slips.getD (i) AB).kind))) (se (rb 6 (rqr (sp 2 [(64,.bool (cmp .eql ((a0.slips.getD (i) AB).kind) (5)))] (se (rc 64 rfl (fun h5=>?_) (fun h5=>?_)))))))))
    ·
     have g4:=h5;have h5:=BV h5;refine rr (sp 2 [(67,vP c0 7),(66,vI (BN k a0.start a0.start.length+EM ↑k (BP a0).1 (a0.slips.take i)))] (sd (dlb 68 0 7 c0 (vI ((a0.slips.getD (i) AB).amt))) (sd (da 69 (BN k a0.start a0.start.length+EM ↑k (BP a0).1 (a0.slips.take i)) ((a0.slips.getD (i) AB).amt)) (sp 1 [(7,vI ((BN k a0.start a0.start.length+EM ↑k (BP a0).1 (a0.slips.take i))+((a0.slips.getD (i) AB).amt)))] (ee (NB ?_))))));exact AN (fun a w hS hD hW=>⟨hS.sub (.cons 3 rfl (.cons 4 rfl (.cons 6 rfl (.consE 7 rfl (congrArg (Value.int .i64) (dueS_5 (by omega))) (.cons 9 rfl (.cons 10 rfl (.nil _))))))),hD,hW⟩)
    have g4:=h5;have h5:=BU h5;refine rqr (sp 2 [(70,.bool (cmp .eql ((a0.slips.getD (i) AB).kind) (6)))] (se (rc 70 rfl (fun h6=>?_) (fun h6=>?_))))
    ·
     have g5:=h6;have h6:=BV h6;refine rr (sp 2 [(73,vP c0 7),(72,vI (BN k a0.start a0.start.length+EM ↑k (BP a0).1 (a0.slips.take i)))] (sd (dlb 74 0 7 c0 (vI ((a0.slips.getD (i) AB).amt))) (sd (dsb 75 (BN k a0.start a0.start.length+EM ↑k (BP a0).1 (a0.slips.take i)) ((a0.slips.getD (i) AB).amt)) (sp 1 [(7,vI ((BN k a0.start a0.start.length+EM ↑k (BP a0).1 (a0.slips.take i))-((a0.slips.getD (i) AB).amt)))] (ee (NB ?_))))));exact AN (fun a w hS hD hW=>⟨hS.sub (.cons 3 rfl (.cons 4 rfl (.cons 6 rfl (.consE 7 rfl (congrArg (Value.int .i64) (dueS_6 (by omega))) (.cons 9 rfl (.cons 10 rfl (.nil _))))))),hD,hW⟩)
    have g5:=h6;have h6:=BU h6;refine AO (NB ?_);exact AN (fun a w hS hD hW=>⟨hS.sub (.cons 3 rfl (.cons 4 rfl (.cons 6 rfl (.consE 7 rfl (congrArg (Value.int .i64) (dueS_0 (by omega) (by omega))) (.cons 9 rfl (.cons 10 rfl (.nil _))))))),hD,hW⟩)
   rintro a w ⟨hS,hD,hW⟩
   refine AS hS hD hW ?_;clear hS hD hW a w;refine rqr (sp 1 [(11,vI (0))] (DM 7 rfl (show (vI (BN k a0.start a0.start.length+EM ↑k (BP a0).1 (a0.slips.take i)+dueS (a0.slips.getD (i) AB)):Value)=vI (BN k a0.start a0.start.length+EM ↑k (BP a0).1 (a0.slips.take i)+dueS (a0.slips.getD (i) AB)+LQ (a0.slips.getD (i) AB).num ((BP a0).1.take 0)) from congrArg (Value.int .i64) gsum_0) (se (rb 7 ?_))));refine rl (fun mz a w=>∃ m:Nat,(m≤(BP a0).1.length)∧Slots 111 [(7,vI (BN k a0.start a0.start.length+EM ↑k (BP a0).1 (a0.slips.take i)+dueS (a0.slips.getD (i) AB)+LQ (a0.slips.getD (i) AB).num ((BP a0).1.take m))),(11,vI ↑m),(3,vP b6 0),(4,vS b0 ((BP a0).1).length b1),(6,vI (↑k)),(9,vI (↑i)),(10,vP c0 0)] a∧a.defers=[]∧St J0 ((bX c0 #[vI ((a0.slips.getD (i) AB).num),vI ((a0.slips.getD (i) AB).hour),vI ((a0.slips.getD (i) AB).kind),vI ((a0.slips.getD (i) AB).place),vI ((a0.slips.getD (i) AB).to),vI ((a0.slips.getD (i) AB).sort),.bool ((a0.slips.getD (i) AB).soil),vI ((a0.slips.getD (i) AB).amt)] 47)::(bX b6 #[vI (a0.places),vI (a0.sorts),vS a3 a0.start.length a4,vS a5 a0.keeps.length a6,vS a1 a0.slips.length a2] 40)::(bX u6 #[.int .u64 (b9)] 71)::F) w∧mz=(BP a0).1.length-m) ?_ ?_
   ·intro a w hS hD hW;exact ⟨_,0,Nat.zero_le _,hS.sub (.cons 7 rfl (.cons 11 rfl (.cons 3 rfl (.cons 4 rfl (.cons 6 rfl (.cons 9 rfl (.cons 10 rfl (.nil _)))))))),hD,hW,rfl⟩
   rintro mz a w ⟨m,hm,hS,hD,hW,rfl⟩
   refine AS hS hD hW ?_;clear hS hD hW a w;refine rq (rqr (sp 4 [(79,.bool (cmp .lss (↑m) (↑(((BP a0).1).length))))] (se (rc 79 rfl (fun h7=>?_) (fun h7=>?_)))))
   ·
    have g6:=h7;have h7:=CQ h7;refine AO (NX (rq (rb 8 (rq ?_))));refine rd0 7 (ox 2 [(83,vI (↑m)),(82,vS b0 ((BP a0).1).length b1)] ?_);refine AF (di 84 2 (m) b5.addr) (ox 1 [(85,.pointer (some ⟨c1,c2+m*2,none⟩))] ?_);refine AF (dl 86 (rec_get b5 (m) (by omega) 0 (by decide) (v:=vI ((((BP a0).1).getD (m) GS).num)) rfl)) (ox 1 [(87,vP c0 0)] ?_);refine AF (dlb 88 0 0 c0 (vI ((a0.slips.getD (i) AB).num))) ?_;refine BF (sp 1 [(89,.bool (cmp .eql ((((BP a0).1).getD (m) GS).num) ((a0.slips.getD (i) AB).num)))] (se (rc 89 rfl (fun h8=>?_) (fun h8=>?_))))
    ·
     have g7:=h8;have h8:=BV h8;have l0:=dueS_small (i:=i) hg (by omega);have l3:=kept_bounds (k:=k) (so:=↑k) (i:=i) (n:=(a0.slips.getD (i) AB).num) (m:=m) hg;have o0:=gap_bound (m:=m) hg (by omega);refine rr (sp 3 [(92,vI (↑m)),(91,vS b0 ((BP a0).1).length b1),(90,vI (BN k a0.start a0.start.length+EM ↑k (BP a0).1 (a0.slips.take i)+dueS (a0.slips.getD (i) AB)+LQ (a0.slips.getD (i) AB).num ((BP a0).1.take m)))] (sd (di 93 2 (m) b5.addr) (sp 1 [(94,.pointer (some ⟨c1,c2+m*2+1,none⟩))] (sd (dl 95 (rec_get b5 (m) (by omega) 1 (by decide) (v:=vI ((((BP a0).1).getD (m) GS).amt)) rfl)) (sd (da 96 (BN k a0.start a0.start.length+EM ↑k (BP a0).1 (a0.slips.take i)+dueS (a0.slips.getD (i) AB)+LQ (a0.slips.getD (i) AB).num ((BP a0).1.take m)) ((((BP a0).1).getD (m) GS).amt)) (sp 1 [(7,vI ((BN k a0.start a0.start.length+EM ↑k (BP a0).1 (a0.slips.take i)+dueS (a0.slips.getD (i) AB)+LQ (a0.slips.getD (i) AB).num ((BP a0).1.take m))+((((BP a0).1).getD (m) GS).amt)))] (ee (NB (NX (rr (sp 1 [(80,vI (↑m))] (sd (da 81 (↑m) (1)) (sp 1 [(11,vI (↑m+1))] (ee ?_))))))))))))));refine AL ((BP a0).1.length-(m+1)) (by omega) ?_;intro a w hS hD hW;exact ⟨m+1,by omega,hS.sub (.consE 7 rfl (congrArg (Value.int .i64) (gsum_t (by omega) (by omega))) (.consE 11 rfl rfl (.cons 3 rfl (.cons 4 rfl (.cons 6 rfl (.cons 9 rfl (.cons 10 rfl (.nil _)))))))),hD,hW,rfl⟩
    have g7:=h8;have h8:=BU h8;refine AO (NB (NX (rr (sp 1 [(80,vI (↑m))] (sd (da 81 (↑m) (1)) (sp 1 [(11,vI (↑m+1))] (ee ?_)))))));refine AL ((BP a0).1.length-(m+1)) (by omega) ?_;intro a w hS hD hW;exact ⟨m+1,by omega,hS.sub (.consE 7 rfl (congrArg (Value.int .i64) (gsum_f (by omega) (by omega))) (.consE 11 rfl rfl (.cons 3 rfl (.cons 4 rfl (.cons 6 rfl (.cons 9 rfl (.cons 10 rfl (.nil _)))))))),hD,hW,rfl⟩
   have g6:=h7;have h7:=DB h7;refine CE 7 ((EP (EP (EB (NB (NX (rr (sp 1 [(51,vI (↑i))] (sd (da 52 (↑i) (1)) (sp 1 [(9,vI (↑i+1))] (ee ?_)))))))))));refine AL (a0.slips.length-(i+1)) (by omega) ?_;intro a w hS hD hW;exact ⟨i+1,by omega,hS.sub (.consE 7 rfl (congrArg (Value.int .i64) (dueTo_t (by omega) (by omega) (by omega))) (.consE 9 rfl rfl (.cons 3 rfl (.cons 4 rfl (.cons 6 rfl (.nil _)))))),hD,(hW.perm (PR _)).sub (TC _ (TR _)),rfl⟩
  have g2:=h3;have h3:=DB h3;refine CE 4 ((EP (EP (EB (NX (rq ?_))))));obtain ⟨l1,l2⟩:=kept_end (k:=k) (i:=i) hg (by omega) (by omega);refine rr (sd (dnb 98 0 0 b6 [vI (a0.places),vI (a0.sorts),vS a3 a0.start.length a4,vS a5 a0.keeps.length a6,vS a1 a0.slips.length a2]) (sp 1 [(99,vI (↑k))] ?_));have d6:=Total_ct J0 _ (a0) (↑k) (200) (HC a7 a8 a9);refine sS (sc (some 100) (d6 :) (.refl _) (fun m1 k8 l7 d9 h9=>?_));obtain ⟨e7,e3⟩:=h9;rw [e7,e3];clear e7 e3;refine nm ?_;refine sp 5 [(13,vI (((GO a0 ↑k 200).2))),(12,vI (((GO a0 ↑k 200).1)))] (sn (sp 2 [(104,.bool (!(cmp .eql (((GO a0 ↑k 200).2)) (0))))] (DM 104 rfl (show (.bool (!(cmp .eql (((GO a0 ↑k 200).2)) (0))):Value)=.bool (false) from congrArg Value.bool (by rw [l2];rfl)) (sp 4 [(108,.bool (!(cmp .eql (((GO a0 ↑k 200).1)) (BN k a0.start a0.start.length+EM ↑k (BP a0).1 (a0.slips.take i))))),(105,.bool (false))] (DM 108 rfl (show (.bool (!(cmp .eql (((GO a0 ↑k 200).1)) (BN k a0.start a0.start.length+EM ↑k (BP a0).1 (a0.slips.take i)))):Value)=.bool (false) from congrArg Value.bool (by rw [l1];simp [cmp])) (sp 1 [(109,.bool (false))] (se (rcf 109 rfl (AO (NB (NX (rr (sp 1 [(28,vI (↑k))] (sd (da 29 (↑k) (1)) (sp 1 [(6,vI (↑k+1))] (ee ?_))))))))))))))));refine AL ((a0.sorts).toNat-(k+1)) (by omega) ?_;intro a w hS hD hW;exact ⟨k8,k+1,(IT hJ0 d9),by omega,hS.sub (.consE 6 rfl rfl (.cons 3 rfl (.cons 4 rfl (.nil _)))),hD,hW,rfl⟩
 have g0:=h1;have h1:=DB h1;refine CE 0 ((EP (EP (EB (NX (rqr ?_))))));have d7:=counting_ct J0;refine sS (sc (some 110) (d7 :) (.refl _) (fun m2 n4 l8 e0 i0=>?_));obtain ⟨e8,e4⟩:=i0;rw [e8,e4];clear e8 e4;refine nm ?_;refine sp 1 [(2,.bool (true))] (se (BQ (AH (t:=2) [] (by kernel_rfl) rfl (TC _ (TC _ (TR _))) (IT (IT (IT (IT (IT g8 d8) b7) b8) hJ0) e0) ?_)));exact ⟨rfl,rfl⟩
end Go.Proofs.Ytgcemienebmdeaa
namespace Go.Sl
open Go Go.ChangeShapes Go.WideShapes
def immOf (W:World):Imm:=⟨W.os,W.tape,W.output,fun b=>W.heap[b]?⟩
theorem st_immOf (W:World):St (immOf W) [] W:=⟨rfl,rfl,rfl,fun _ _ h=>h,fun _ _ h=>by simp at h,by simp,fun _ _ h=>by simp at h⟩
theorem NN {W:World} {a:Addr} {v:Value} (h:W.cell? a=some v):a.spot=none∧∃ cs T fz,W.heap[a.block]?=some (.cells cs T fz)∧cs[a.off]?=some v:=by
  unfold World.cell? at h
  split at h
  · rename_i cs T fz hb
    split at h
    · cases h
    · rename_i hs
      refine ⟨by cases hx:a.spot with | none=>rfl | some _=>rw [hx] at hs;simp at hs,cs,T,fz,hb,h⟩
  · cases h
theorem same_of_le {W W':World} {J:Imm} {M:Seg} (le:(immOf W).le J) (st:St J M W'):(∀ b,b<W.heap.size→W'.heap[b]?=W.heap[b]?)∧W'.os=W.os∧W'.output=W.output:=by
  refine ⟨fun b hb=>?_,st.os.trans le.os,st.output.trans le.output⟩;have h:(immOf W).blk b=some W.heap[b]:=by show W.heap[b]?=_;simp [hb]
  rw [st.imm b _ (le.blk b _ h)];exact h.symm
theorem keptBut_same {W W':World} {may:MemPlace→Prop} (h:∀ b,b<W.heap.size→W'.heap[b]?=W.heap[b]?) (ho:W'.os=W.os) (hu:W'.output=W.output):W.keptBut W' may:=by
  refine ⟨ho,hu,fun i hi=>?_⟩;rw [h i hi];have:W.heap[i]?=some W.heap[i]:=by simp [hi]
  rw [this];cases W.heap[i] <;> simp
theorem sameAt_heap {W W':World} {p:MemPlace} (h:W'.heap[p.block]?=W.heap[p.block]?):W.sameAt W' p:=by
  cases p <;> simp only [MemPlace.block] at h <;> simp [World.sameAt,World.cell?,World.frozen?,h]
end Go.Sl
namespace Go
end Go
namespace Go.Sl
open Go Go.ChangeShapes Go.WideShapes Go.Deep Go.Sh
section
variable {H:Type} {enc:TypeId × Value→H} {P:Program} {W:World}
def Light (P:Program) (t:TypeId) (d:DataW H):Prop:=∀ n∈d.weights P t,n≤reachBytes
theorem light_arg {ts:List TypeId} {ds:List (DataW H)} (h:(DataW.weightsEach P ts ds).all (·≤reachBytes)=true) {j:Nat} {t:TypeId} {d:DataW H} (ht:ts[j]?=some t) (hd:ds[j]?=some d):Light P t d:=fun n hn=>by
  have:=List.all_eq_true.1 h _ (DataW.weights_mem_each ht hd n hn)
  simpa using this
theorem light_all {e:TypeId}:∀ {l:List (DataW H)} {d:DataW H},d∈l→∀ n∈d.weights P e,n∈DataW.weightsAll P e l:=by
  intro l
  induction l with
  | nil=>intro d h;simp at h
  | cons x r ih=>
    intro d h n hn;simp only [DataW.weightsAll,List.mem_append];rcases List.mem_cons.1 h with rfl | h
    · exact .inl hn
    · exact .inr (ih h n hn)
theorem light_elem {t e:TypeId} {elems sp:List (DataW H)} (ht:P.underlying t=some (.slice e)) (h:Light P t (.slice elems sp)):(elems.length+sp.length)*P.bytesOf e≤reachBytes∧(∀ d∈elems,Light P e d)∧∀ d∈sp,Light P e d:=by
  have e1:(DataW.slice elems sp).weights P t=(elems.length+sp.length)*P.bytesOf e::(DataW.weightsAll P e elems++DataW.weightsAll P e sp):=by simp [DataW.weights,ht]
  refine ⟨h _ (by rw [e1];exact List.mem_cons_self),fun d hd n hn=>h n ?_,fun d hd n hn=>h n ?_⟩
  · rw [e1];exact List.mem_cons_of_mem _ (List.mem_append_left _ (light_all hd n hn))
  · rw [e1];exact List.mem_cons_of_mem _ (List.mem_append_right _ (light_all hd n hn))
theorem addr_plain' {w:World} {a:Addr} {i:Nat} {v:Value} (hi:i=0) (h:w.cell? (a.add i)=some v):a=⟨a.block,a.off,none⟩:=by
  subst hi;have:=(NN h).1;cases a with
  | mk b o s=>
    unfold Addr.add at this;simp only [if_true] at this;subst this;rfl
theorem sl_of {α : Type} [Inhabited α] {sz : Nat} {cell : α → Nat → Value} {dflt : α} {Q : α → Prop} {t e : TypeId} {fuel : Nat} {v : Value} {d : DataW H} {p : List MemPlace} (ht : P.underlying t = some (.slice e)) (hc : P.cellsOf e = sz) (hs : 0 < sz) (hb : 0 < P.bytesOf e)
    (h:DataW.trod enc P W 0 (fun _=>true) true fuel t [v]=some (d,p)) (hl:Light P t d)
    (el:∀ n cs d p,cs.length=sz→DataW.trod enc P W 0 (fun _=>true) true n e cs=some (d,p)→Light P e d→∃ a:α,Q a∧∀ f,f<sz→cs[f]?=some (cell a f)):∃ xs:List α,IsSl sz cell dflt (immOf W) v xs∧∀ x∈xs,Q x:=by
  rcases open_slice ht h with ⟨hcs,_⟩ | ⟨a,len,cap,m,n,D,Pl,hcs,_,hle,hm,hmm,hx,hel⟩
  · obtain rfl:=List.head_eq_of_cons_eq hcs
    exact ⟨[],IsSl.nil _,fun x hx=>by simp at hx⟩
  · obtain rfl:=List.head_eq_of_cons_eq hcs
    simp only [if_true] at hmm;subst hmm;simp only [Prod.mk.injEq] at hx;obtain ⟨rfl,rfl⟩:=hx;obtain ⟨l1,l2,l3⟩:=light_elem ht hl;simp only [List.length_map,List.length_range] at l1;have hr:len≤140737488355328:=by
      have:len*1≤(len+(m-len))*P.bytesOf e:=Nat.mul_le_mul (by omega) hb;simp only [reachBytes] at l1;omega
    have each:∀ i,i<len→∃ x:α,Q x∧∀ f,f<sz→W.cell? (a.add (i*sz+f))=some (cell x f):=fun i hi=>by
      obtain ⟨cs,h1,h2⟩:=hel i (by omega);rw [hc] at h1;obtain ⟨_,hlen,hcell⟩:=World.cells?_some h1;obtain ⟨x,hq,hxf⟩:=el n cs _ _ hlen h2 (l2 _ (List.mem_map.2 ⟨i,by simp [hi],rfl⟩));refine ⟨x,hq,fun f hf=>?_⟩;rw [← add_add,hcell f hf,hxf f hf]
    obtain ⟨g,hg⟩:=choose_lt each;refine ⟨(List.range len).map g,⟨some a,m,a.block,a.off,by simp,by simpa using hle,by simpa using hr,⟨fun h0=>?_,fun i hi f hf=>?_⟩⟩,fun x hx=>?_⟩
    · simp only [List.length_map,List.length_range] at h0
      exact congrArg some (addr_plain' (by simp) ((hg 0 h0).2 0 hs))
    · simp only [List.length_map,List.length_range] at hi
      have hcell:=(hg i hi).2 f hf;have e0:=addr_plain' (by simp) ((hg 0 (by omega)).2 0 hs);obtain ⟨h1,cs,T,fz,hb',hv⟩:=NN hcell;have e1:a.add (i*sz+f)=⟨a.block,a.off+(i*sz+f),none⟩:=by rw [e0];exact EU _ _ _
      rw [e1] at hb' hv;have e2:((List.range len).map g).getD i dflt=g i:=by simp [List.getD,hi]
      simp only [e2];exact ⟨rfl,cs,T,fz,hb',by rw [Nat.add_assoc];exact hv⟩
    · obtain ⟨i,hi,rfl⟩:=List.mem_map.1 hx
      exact (hg i (List.mem_range.1 hi)).1
theorem ints_of {t e : TypeId} {fuel : Nat} {v : Value} {d : DataW H} {p : List MemPlace} (ht : P.underlying t = some (.slice e)) (he : P.underlying e = some (.int .i64)) (hc : P.cellsOf e = 1) (hb : 0 < P.bytesOf e)
    (h:DataW.trod enc P W 0 (fun _=>true) true fuel t [v]=some (d,p)) (hl:Light P t d):∃ xs:List Int,BW (immOf W) v xs:=by
  obtain ⟨xs,h1,_⟩:=sl_of (cell:=AK) (dflt:=(0:Int)) (Q:=fun _=>True) ht hc (by decide) hb h hl fun n cs d p hcs hd _=>by
    obtain ⟨z,rfl,_,_⟩:=DataW.trod_int he hd;exact ⟨z,trivial,fun f hf=>(show f=0 by omega)▸rfl⟩
  exact ⟨xs,h1⟩
instance:Inhabited Value:=⟨undef⟩
instance:Inhabited Car:=⟨noCar⟩
instance:Inhabited Shift:=⟨noShift⟩
theorem all_stay (hl : laidOutB P = true) {W' : World} {sp' : Nat → Bool} : ∀ {ts : List TypeId} {vs : List Value} {ds : List (DataW H)} {p : List MemPlace}, (∀ t ∈ ts, P.readableRec t = true ∧ t < P.types.size) → DataW.TrodAll enc P W 0 (fun _ => true) true ts vs ds p →
    (∀ x∈p,W.sameAt W' x)→(∀ x∈p,sp' x.block=true)→DataW.TrodAll enc P W' 0 sp' true ts vs ds p:=by
  intro ts
  induction ts with
  | nil=>intro vs ds p _ h _ _;obtain ⟨rfl,rfl,rfl⟩:=trodAll_nil h;exact rfl
  | cons t ts ih=>
    intro vs ds p hr h h1 h2;obtain ⟨v,vs',d,ds',q,q',rfl,rfl,rfl,g1,g2⟩:=trodAll_cons h
    exact ⟨q,q',WideElems.Trod_stays hl (hr t List.mem_cons_self).1 (hr t List.mem_cons_self).2 g1 (fun x hx=>h1 x (List.mem_append_left _ hx)) (fun x hx=>h2 x (List.mem_append_left _ hx)),
      ih (fun t ht=>hr t (List.mem_cons_of_mem _ ht)) g2 (fun x hx=>h1 x (List.mem_append_right _ hx)) (fun x hx=>h2 x (List.mem_append_right _ hx)),rfl⟩
end
end Go.Sl
namespace Go.Proofs.Ytgcemienebmdeaa
open Go Go.ChangeShapes Go.WideShapes Go.RowKit Go.Sl Go.Sh
set_option maxRecDepth 100000
theorem Row.own:ownKnob Try.prog.godebug=none:=by kernel_rfl
theorem Row.laidOut:laidOutB Try.prog=true:=by kernel_rfl
theorem Row.cells:Try.prog.cellsOf 3=1:=by kernel_rfl
theorem Row.bytes:Try.prog.bytesOf 3=8:=by kernel_rfl
theorem law_lifted (os : Os) (started : os.Started) (H : Type) (enc : TypeId × Value → H) :
    ReturnsInHanded {} Try.checked os 6 .any (Rows.linenKeptSpec.pre6 enc Try.prog Try.f6 Rows.linenKeptRow.domain false) (Rows.linenKeptSpec.post enc Try.prog Try.f6 false true false false):=by
  refine returnsInHanded_of_change_sized (C:=Try.checked) Row.own started (by kernel_rfl) Try.func6
    (ChangeSpec.witness6 (enc:=enc) (C:=Try.checked) false ⟨#[],#[.slice none 0 0],[]⟩ 8 (by kernel_rfl) (by kernel_rfl) (by kernel_rfl) (by kernel_rfl)) ?_
  intro W base args ds gs before hval0 hW _ hsz0 _
  have hsz:(DataW.weightsEach Try.prog (Try.f6.params.toList++Rows.linenKeptSpec.plain.varTypes Try.prog) (ds++gs)).all (·≤reachBytes)=true:=hsz0
  have hval:∀ (j:Nat) t v,Try.f6.params[j]?=some t→args[j]?=some v→Value.okWide Try.prog W .any base t v:=hval0
  clear hsz0 hval0
  have hW':=hW
  obtain ⟨p,q,hA0,hV,rfl,hfz,hnd⟩:=hW
  have hA:DataW.TrodAll enc Try.prog W 0 (fun _=>true) true Try.f6.params.toList args.toList ds p:=hA0
  rw [Try.params6] at hA hval
  obtain ⟨v0,vs0,d0,ds0,p0,q0,ha0,rfl,hp0,h0,r0⟩:=trodAll_cons hA
  obtain ⟨hav,rfl,hpn⟩:=trodAll_nil r0
  have hargs:args=#[v0]:=Array.toList_inj.1 (by rw [ha0,hav])
  subst hargs
  obtain ⟨rfl,rfl⟩:=trodVars_none hV
  have hlt:∀ x∈p,x.block<W.heap.size:=fun x hx=>by simpa using hW'.lt x (List.mem_append_left _ hx)
  have hA2:=hA
  clear hA r0 ha0 hav
  obtain ⟨a0,n0,c0,rfl⟩:=okWide_slice Try.underlying22 (hval 0 22 v0 rfl rfl)
  obtain ⟨fu0,hf0⟩:=h0
  obtain ⟨L0,hy0⟩:=ints_of (t:=22) (e:=3) Try.underlying22 Try.underlying3 (by kernel_rfl) (of_decide_eq_true (by kernel_rfl)) hf0 (light_arg hsz (j:=0) rfl rfl)
  refine (LinenKept_ct (immOf W) _ L0 hy0 [] W (by simpa using st_immOf W)).mono fun e W' ⟨v,I',M',he,hle,⟨hv,hM⟩,st'⟩=>?_
  subst he
  subst hv
  obtain ⟨hsame,hos,hout⟩:=same_of_le hle st'
  have hk:∀ may:MemPlace→Prop,W.keptBut W' may:=fun may=>keptBut_same hsame hos hout
  refine ⟨_,rfl,?_⟩
  refine ⟨_,_,_,[],p,[],hW',?_,?_,?_,hk _,fun h=>by cases h⟩
  · exact trodAll_mk1 (shut_bool Try.underlying4 true)
  · exact all_stay Row.laidOut (fun t ht=>by have h1:=List.all_eq_true.1 (show ([22].all fun t=>Try.prog.readableRec t&&decide (t<Try.prog.types.size))=true by kernel_rfl) t ht;simpa using h1) hA2 (fun x hx=>sameAt_heap (hsame _ (hlt x hx))) (fun x hx=>by simpa using hlt x hx)
  · rfl
theorem f_holds:Rows.LinenKeptSaid:=
  OpenClaim.holds_of_wide 6 Try.f6 rfl rfl rfl rfl rfl rfl rfl ⟨rfl,rfl,rfl,rfl,rfl⟩ rfl rfl rfl rfl rfl (by kernel_rfl) Try.func6 (by kernel_rfl)
    (of_decide_eq_true (by kernel_rfl)) (by unfold Func.isWrapper;rw [if_neg (of_decide_eq_false (by kernel_rfl))];exact ⟨rfl,rfl⟩)
    (fun os started H enc _=>law_lifted os started H enc)
#print axioms f_holds
end Go.Proofs.Ytgcemienebmdeaa
