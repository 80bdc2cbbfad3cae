/- A part of the proof of the laws of this seat. -/
import Derived.Test.YtgcemienebmdeaaGreatLinenMergedP3
import Derived.Test.YtgcemienebmdeaaGreatLinenMergedP2
import Derived.Test.YtgcemienebmdeaaGreatLinenMergedP1
set_option linter.unusedVariables false
set_option linter.unusedSimpArgs false
namespace Go.Proofs.YtgcemienebmdeaaGreat
open Go Go.Sl Go.Sh
open Go.Conc (born)
set_option maxRecDepth 100000
theorem checker {I : Imm} {σ : GW} {r b3 b4 b5 : Nat} {k : Int} {L : Lin} {u1 u2 u3 : Value} (h3 : I.blk b3 = some (Obj.cells #[.chan (some r)] 174 (0, 0))) (h4 : I.blk b4 = some (Obj.cells #[vI k] 3 (0, 0))) (h5 : I.blk b5 = some (Obj.cells (AS L u1 u2 u3) 26 (0, 0)))
    (hL:IsLin I (.agg (AS L u1 u2 u3)) L) (hW:St I [] σ) :
    ∃ T,Tr Tryz.prog (fun d=>∃ n,QY Tryz.prog r (.agg #[vI k,vI (AJ L)]) n d) T ⟨(born Tryz.prog { target:=.fn (.func 148) [vP b3 0,vP b4 0,vP b5 0].toArray,args:=#[] }).frame,[],σ⟩:=by
  refine born_send (fn:=Tryz.f148) (N:=8) (id:=0) (n:=5) (r:=r) (ops:=FC (cod Tryz.f148 [])) (m:=.agg #[vI k,vI (AJ L)]) (x:=.tmp 3) (y:=.tmp 7) (ty:=0) Tryz.func148 (by kernel_rfl) (by kernel_rfl) (by kernel_rfl) (by kernel_rfl) (Nat.le_of_ble_eq_true rfl) (by kernel_rfl) (by kernel_rfl) (edges_lt (by kernel_rfl)) (wt_lt (by kernel_rfl))
    (fun i=>[(3,.chan (some r)),(4,vI k),(5,.agg (AS L u1 u2 u3)),(6,vI (AJ L)),(7,.agg #[vI k,vI (AJ L)])].getD i (0,undef)) ?_ ?_ ?_ (by kernel_rfl) ?_ hW
  · intro i hi
    match i,hi with
    | 0,_ | 1,_ | 2,_ | 3,_ | 4,_=>rfl
  · have e : ∀ i, i < 5 → ([(3, Value.chan (some r)), (4, vI k), (5, .agg (AS L u1 u2 u3)), (6, vI (AJ L)), (7, .agg #[vI k, vI (AJ L)])].getD i (0, undef)).1 = i + 3 := by
      intro i hi
      match i,hi with
      | 0,_ | 1,_ | 2,_ | 3,_ | 4,_=>rfl
    intro i j hi hj h;have h1:=e i hi;have h2:=e j hj;omega
  · intro _ i l hi h0 hd
    match i,hi with
    | 0,_=>exact dld 3 0 174 (.chan (some r)) (h0 0 _ rfl) (AR h3 rfl)
    | 1,_=>exact dld 4 1 3 (vI k) (h0 1 _ rfl) (AR h4 rfl)
    | 2,_=>exact dln 5 2 26 (CY L u1 u2 u3) (h0 2 _ rfl) (QQ (n:=5) h5 rfl)
    | 3,_=>
      have h5':Go.Sl.look 5 l=some (.agg (AS L u1 u2 u3)):=edge_get (i:=2) (p:=fun q=>Go.Sl.look (List.getD _ q (0,undef)).1 l=some (List.getD _ q (0,undef)).2) (by kernel_rfl) hd;exact MR (f:=.func 47) (args:=#[.tmp 5]) (tys:=#[26]) (ty:=40) (gd:=none) (vals:=[.agg (AS L u1 u2 u3)]) (cv:=[]) (by kernel_rfl) rfl rfl (by simp [OA,BR,h5']) (by kernel_rfl) rfl (fun I' hI=>HU I' _ L (hL.mono hI))
    | 4,_=>
      have h4':Go.Sl.look 4 l=some (vI k):=edge_get (i:=1) (p:=fun q=>Go.Sl.look (List.getD _ q (0,undef)).1 l=some (List.getD _ q (0,undef)).2) (by kernel_rfl) hd;have h6':Go.Sl.look 6 l=some (vI (AJ L)):=edge_get (i:=3) (p:=fun q=>Go.Sl.look (List.getD _ q (0,undef)).1 l=some (List.getD _ q (0,undef)).2) (by kernel_rfl) hd;exact det_build (T:=176) (parts:=#[(0,.tmp 4),(1,.tmp 6)]) (ty:=176) (gd:=none) (vals:=[(0,vI k),(1,vI (AJ L))]) (by kernel_rfl) rfl (by intro x hx;simp [Op.operands] at hx;rcases hx with rfl | rfl;exact ⟨_,h4'⟩;exact ⟨_,h6'⟩) (by simp [rho,BR,h4',h6']) (fun x=>by kernel_rfl)
  · intro l h
    exact ⟨h 0 (by omega),h 4 (by omega)⟩
section
variable {I J:Imm} (hb:∀ b o,I.blk b=some o→J.blk b=some o)
include hb
theorem row_more {sz:Nat} {a:Option Addr} {b o n:Nat} {cell:Nat→Nat→Value} (h:Row sz I a b o n cell):Row sz J a b o n cell:=
  ⟨h.addr,fun i hi f hf=>ICell.mono (I:={ J with blk:=I.blk }) (h.get i hi f hf) ⟨rfl,rfl,rfl,rfl,rfl,hb⟩⟩
theorem sl_more {α:Type} {sz:Nat} {cell:α→Nat→Value} {dflt:α} {v:Value} {xs:List α} (h:IsSl sz cell dflt I v xs):IsSl sz cell dflt J v xs:=by
  obtain ⟨a,c,b,o,h1,h2,h3,h4⟩:=h;exact ⟨a,c,b,o,h1,h2,h3,row_more hb h4⟩
theorem rows_more {v:Value} {xs:List (List Int)} (h:IsRows I v xs):IsRows J v xs:=by
  obtain ⟨a,c,b,o,vs,h1,h2,h3,h4,h5⟩:=h;exact ⟨a,c,b,o,vs,h1,h2,h3,row_more hb h4,fun i hi=>sl_more hb (h5 i hi)⟩
theorem lin_more {v:Value} {L:Lin} (h:IsLin I v L):IsLin J v L:=by
  obtain ⟨v1,v2,v3,h1,h2,h3,h4⟩:=h;exact ⟨v1,v2,v3,h1,rows_more hb h2,sl_more hb h3,sl_more hb h4⟩
end
noncomputable def c_checkAll:=cod Tryz.f109
theorem checkAll_ct (I : Imm) (B : Nat) (A C : Lin) (u1 u2 u3 v1 v2 v3 : Value) (hA1 : IsRows I u1 A.start) (hA2 : FR I u2 A.keeps) (hA3 : GZ I u3 A.slips) (hC1 : IsRows I v1 C.start) (hC2 : FR I v2 C.keeps) (hC3 : GZ I v3 C.slips) (hg : I.gh = none) (hp : I.pub = fun _ => False) :
    CtB Tryz.prog 109 #[vS (some ⟨B,0,none⟩) 2 2] I [bX B #[vI A.places,vI A.sorts,u1,u2,u3,vI C.places,vI C.sorts,v1,v2,v3] 26] (fun v _ M'=>v=vI (if AJ A=0 then AJ C else AJ A)∧M'=[]):=by
 have hA:=CM (p:=A.places) (s:=A.sorts) hA1 hA2 hA3;have hC:=CM (p:=C.places) (s:=C.sorts) hC1 hC2 hC3;obtain ⟨a1,n1,k1,q1,s1,rfl,_⟩:=id hA1;obtain ⟨a2,n2,k2,q2,rfl,_⟩:=id hA2;obtain ⟨a3,n3,k3,q3,rfl,_⟩:=id hA3;obtain ⟨c1,m1,j1,p1,t1,rfl,_⟩:=id hC1;obtain ⟨c2,m2,j2,p2,rfl,_⟩:=id hC2;obtain ⟨c3,m3,j3,p3,rfl,_⟩:=id hC3;refine frB (args:=[_]) (N:=49) Tryz.func109 (fun F=>?_);show Run _ _ (c_checkAll []) _ _ [(0,_)] _ _;refine rnm (rqr ?_);refine sp 1 [(2,vI 0)] (sn (sp 2 [(11,vI 2),(10,vS (some ⟨B,0,none⟩) 2 2)] (sS (stp_makeChan (d:=12) (x:=.tmp 11) (T:=174) (el:=176) (bs:=16) (n:=2) (ty:=174) (gd:=none) (by kernel_rfl) rfl (by kernel_rfl) (by kernel_rfl) (by decide) rfl (by decide) (fun r=>?_)))));refine sS (sal 3 174 #[.chan none] (fun b3=>(sS (ss 0 0 b3 [.chan (some r)] [.chan (some r)] (_::_) (cs:=[_]) rfl rfl (se ?_)))));refine rpm (PS _ _ _) (run_facts fun w0 hW0=>run_give hg rfl ?_);refine rq (rqr (sp 3 [(15,vI 0),(14,vI 2),(13,vS (some ⟨B,0,none⟩) 2 2)] (se (rb 0 (rL ?_)))));refine HE (rqr (sp 1 [(16,.bool true)] (se (rq (rct 16 rfl (AO (NX (rq (rb 1 (rqr ?_))))))))));refine sp 1 [(17,vI 0)] (sd (di 18 5 0 (b:=B) (off:=0) (n:=2) (a:=some ⟨B,0,none⟩) (fun _=>rfl)) (sd (dnb 19 1 0 B (CY A (vS a1 A.start.length n1) (vS a2 A.keeps.length n2) (vS a3 A.slips.length n3))) (sS (sal 4 3 #[vI 0] (fun b4=>sS (sal 5 26 AN (fun b5=>?_)))))));refine sS (ss 1 0 b4 [vI 0] [vI 0] (_::_::_) (cs:=[_]) rfl rfl (sS (ss 0 0 b5 (CY A (vS a1 A.start.length n1) (vS a2 A.keeps.length n2) (vS a3 A.slips.length n3)) (CY A (vS a1 A.start.length n1) (vS a2 A.keeps.length n2) (vS a3 A.slips.length n3)) (_::_) (cs:=[_,_,_,_,_]) rfl rfl (se ?_))));refine rrM (PF (dpv 20 (.func (.func 148) #[] #[vP b3 0,vP b4 0,vP b5 0])) (seqM_go (f:=.tmp 20) (ty:=0) (cid:=148) (cv:=[vP b3 0,vP b4 0,vP b5 0]) (h:=⟨r,2,[]⟩) (m:=.agg #[vI 0,vI (AJ A)]) (by kernel_rfl) rfl rfl (Nat.le_of_ble_eq_true rfl) (fun Jc σ hJ st=>checker (hJ.mem _ _ (by simp)) (hJ.mem _ _ (by simp)) (hJ.mem _ _ (by simp)) (lin_more (I:=I) hJ.blk hA) st) (fun J1 hJ1=>QR (ee ?_))));refine NB (NX (rr (sd (da 21 0 1) (sp 1 [(15,vI 1)] (ee ?_)))));have hB:=hJ1.mem B _ (.tail _ (.tail _ (.tail _ (.head _))));have hb3:=hJ1.mem b3 _ (.tail _ (.tail _ (.head _)));refine GF (HE (rqr (sp 1 [(16,.bool true)] (se (rq (rct 16 rfl (AO (NX (rq (rb 1 (rqr ?_)))))))))));refine sp 1 [(17,vI 1)] (sd (di 18 5 1 (b:=B) (off:=0) (n:=2) (a:=some ⟨B,0,none⟩) (fun _=>rfl)) (sd (dn 19 (vs:=(CY C (vS c1 C.start.length m1) (vS c2 C.keeps.length m2) (vS c3 C.slips.length m3))) (QQ (off:=0+1*5) (n:=5) hB rfl)) (sS (sal 4 3 #[vI 0] (fun b6=>sS (sal 5 26 AN (fun b7=>?_)))))));refine sS (ss 1 0 b6 [vI 1] [vI 1] (_::_::_) (cs:=[_]) rfl rfl (sS (ss 0 0 b7 (CY C (vS c1 C.start.length m1) (vS c2 C.keeps.length m2) (vS c3 C.slips.length m3)) (CY C (vS c1 C.start.length m1) (vS c2 C.keeps.length m2) (vS c3 C.slips.length m3)) (_::_) (cs:=[_,_,_,_,_]) rfl rfl (se ?_))));refine rrM (PF (dpv 20 (.func (.func 148) #[] #[vP b3 0,vP b6 0,vP b7 0])) (seqM_go (f:=.tmp 20) (ty:=0) (cid:=148) (cv:=[vP b3 0,vP b6 0,vP b7 0]) (h:=⟨r,2,[.agg #[vI 0,vI (AJ A)]]⟩) (m:=.agg #[vI 1,vI (AJ C)]) (by kernel_rfl) rfl hJ1.gh (Nat.le_of_ble_eq_true rfl) (fun Jc σ hJ st=>checker (hJ.blk _ _ hb3) (hJ.mem _ _ (by simp)) (hJ.mem _ _ (by simp)) (lin_more (I:=I) (fun b o h=>hJ.blk _ _ (hJ1.blk _ _ h)) hC) st) (fun J2 hJ2=>QR (ee ?_))));refine NB (NX (rr (sd (da 21 1 1) (sp 1 [(15,vI 2)] (ee ?_)))));refine GF (HE (rqr (sp 1 [(16,.bool false)] (se (rq (rcf 16 rfl (BW 0 ?_)))))))
 repeat refine EP ?_
 refine EB (NX ?_);have hnd:=hW0.nodup;simp only [List.map_cons,List.nodup_cons,List.mem_cons,not_or] at hnd;have hFn:=hnd.2.2.2;have hne3:b3≠r:=fun h=>hnd.1.1 h.symm
 have hnF3:∀ o',(b3,o')∉F:=fun o' h=>hnd.2.1.2 (List.mem_map.2 ⟨_,h,rfl⟩)
 have hI0:∀ b o,I.blk b=some o→J2.blk b=some o:=fun b o h=>hJ2.blk _ _ (hJ1.blk _ _ h)
 have hF0:∀ b o,(b,o)∈F→J2.blk b=some o:=fun b o h=>hJ2.blk _ _ (hJ1.mem b o (by simp [h]))
 have hb3:=hJ2.blk _ _ hb3;have hos:J2.os=I.os:=hJ2.os.trans hJ1.os;have htp:J2.tape=I.tape:=hJ2.tape.trans hJ1.tape;have hout:J2.output=I.output:=hJ2.output.trans hJ1.output;have hgh:=hJ2.gh;clear hJ2 hJ1 hB;refine rqr (sp 2 [(23,vI 2)] ?_);refine sS (LJ (d:=24) (x:=.tmp 23) (T:=177) (E:=40) (bs:=8) (n:=2) (z:=vI 0) (zv:=vI 0) (ty:=177) (gd:=none) (by kernel_rfl) rfl (by kernel_rfl) (by kernel_rfl) (by kernel_rfl) rfl (by kernel_rfl) (by decide) rfl (by omega) (fun e=>?_));refine sp 1 [(6,vS (some ⟨e,0,none⟩) 2 2)] (se (rq (rqr (sp 3 [(27,vI 0),(26,vI 2),(25,vS (some ⟨B,0,none⟩) 2 2)] (se (rb 2 (rL ?_)))))));refine HE (rqr (sp 1 [(28,.bool true)] (se (rq (rct 28 rfl (AO (NX (rq (rb 3 (rq ?_))))))))));refine rrM (PF (dld 29 3 174 (.chan (some r)) rfl (AR hb3 rfl)) (seqM_recv (d:=30) (x:=.tmp 29) (T:=174) (el:=176) (z:=.agg #[vI 0,vI 0]) (ty:=176) (h:=⟨r,2,[(.agg #[vI 1,vI (AJ C)]),(.agg #[vI 0,vI (AJ A)])]⟩) (by kernel_rfl) (by kernel_rfl) (by kernel_rfl) rfl hgh (by simp) (fun v outs hv=>?_)));rcases two_perm hv with ⟨rfl,rfl⟩ | ⟨rfl,rfl⟩
 ·
  refine QR (sS (sal 7 176 #[vI 0,vI 0] (fun b8=>?_)));refine sS (ss 0 0 b8 [vI 1,vI (AJ C)] [vI 1,vI (AJ C)] (_::_) (cs:=[_,_]) rfl rfl (se ?_));refine rr (sp 2 [(32,vP b8 0),(31,vS (some ⟨e,0,none⟩) 2 2)] (sd (dlb 33 0 0 b8 (vI 1)) (sp 1 [(34,vP b8 1)] (sd (dlb 35 0 1 b8 (vI (AJ C))) (sd (di 36 1 1 (b:=e) (off:=0) (n:=2) (a:=some ⟨e,0,none⟩) (fun _=>rfl)) (sS (ss 1 1 e [vI (AJ C)] [vI 0,vI (AJ C)] (_::_::_) (cs:=[_,_]) rfl rfl (ee ?_))))))));refine NB (NX (rr (sd (da 37 0 1) (sp 1 [(27,vI 1)] (ee ?_)))));refine GF (HE (rqr (sp 1 [(28,.bool true)] (se (rq (rct 28 rfl (AO (NX (rq (rb 3 (rq ?_)))))))))));refine rrM (PF (dld 29 3 174 (.chan (some r)) rfl (AR hb3 rfl)) (seqM_recv (d:=30) (x:=.tmp 29) (T:=174) (el:=176) (z:=.agg #[vI 0,vI 0]) (ty:=176) (h:=⟨r,2,[(.agg #[vI 0,vI (AJ A)])]⟩) (by kernel_rfl) (by kernel_rfl) (by kernel_rfl) rfl rfl (by simp) (fun v outs hv=>?_)));obtain ⟨rfl,rfl⟩:=one_perm hv;refine QR (sS (sal 7 176 #[vI 0,vI 0] (fun b9=>?_)));refine sS (ss 0 0 b9 [vI 0,vI (AJ A)] [vI 0,vI (AJ A)] (_::_) (cs:=[_,_]) rfl rfl (se ?_));refine rr (sp 2 [(32,vP b9 0),(31,vS (some ⟨e,0,none⟩) 2 2)] (sd (dlb 33 0 0 b9 (vI 0)) (sp 1 [(34,vP b9 1)] (sd (dlb 35 0 1 b9 (vI (AJ A))) (sd (di 36 1 0 (b:=e) (off:=0) (n:=2) (a:=some ⟨e,0,none⟩) (fun _=>rfl)) (sS (ss 2 0 e [vI (AJ A)] [vI (AJ A),vI (AJ C)] (_::_::_::_) (cs:=[_,_]) rfl rfl (ee ?_))))))));refine NB (NX (rr (sd (da 37 1 1) (sp 1 [(27,vI 2)] (ee ?_)))));refine GF (HE (rqr (sp 1 [(28,.bool false)] (se (rq (rcf 28 rfl (BW 2 ?_)))))))
  repeat refine EP ?_
  refine EB (NX ?_);refine run_take (h:=⟨r,2,[]⟩) (F:=F) (I0:=I) rfl rfl hg hp hos htp hout (fun b o h=>⟨hF0 b o h,hW0.disj b o (.tail _ (.tail _ (.tail _ h)))⟩) hFn hI0 (fun q tm J hle hJ=>?_);have hb3:J.blk b3=some _:=hJ b3 _ hb3 hne3 hnF3;refine rqr (sd (dld 38 3 174 (.chan (some r)) rfl (AR hb3 rfl)) (sS (stp_close (x:=.tmp 38) (tys:=#[174]) (dst:=none) (ty:=0) (gd:=none) (by kernel_rfl) rfl rfl (PR _) (se ?_))));refine rnm (rq (rqr (sp 3 [(41,vI 0),(40,vI 2),(39,vS (some ⟨e,0,none⟩) 2 2)] (se (rb 4 (rL ?_))))));refine HE (rqr (sp 1 [(42,.bool true)] (se (rq (rct 42 rfl (AO (NX (rq (rb 5 (rqr ?_))))))))));refine sd (di 43 1 0 (b:=e) (off:=0) (n:=2) (a:=some ⟨e,0,none⟩) (fun _=>rfl)) (sd (dlb 44 2 0 e (vI (AJ A))) (sp 1 [(9,vI (AJ A))] (sn (sp 2 [(46,.bool (!(cmp .eql (AJ A) 0))),(45,vI (AJ A))] (se (rc 46 rfl (fun h0=>?_) (fun h0=>?_)))))))
  · refine rqr (sp 2 [(2,vI (AJ A)),(47,vI (AJ A))] (se (BC ?_)))
    repeat first | refine RP ?_ | refine RB ?_
    have h0:=BN (BP h0);exact FL 2 [] rfl (TC _ (TC _ (TC _ (TR _)))) hle ⟨by simp [h0],rfl⟩
  have h0:=BG (BI h0);refine AO (NB (NX (rr (sd (da 48 0 1) (sp 1 [(41,vI 1)] (ee ?_))))));refine GF (HE (rqr (sp 1 [(42,.bool true)] (se (rq (rct 42 rfl (AO (NX (rq (rb 5 (rqr ?_)))))))))));refine sd (di 43 1 1 (b:=e) (off:=0) (n:=2) (a:=some ⟨e,0,none⟩) (fun _=>rfl)) (sd (dlb 44 2 1 e (vI (AJ C))) (sp 1 [(9,vI (AJ C))] (sn (sp 2 [(46,.bool (!(cmp .eql (AJ C) 0))),(45,vI (AJ C))] (se (rc 46 rfl (fun h1=>?_) (fun h1=>?_)))))))
  · refine rqr (sp 2 [(2,vI (AJ C)),(47,vI (AJ C))] (se (BC ?_)))
    repeat first | refine RP ?_ | refine RB ?_
    have h1:=BN (BP h1);exact FL 2 [] rfl (TC _ (TC _ (TC _ (TR _)))) hle ⟨by simp [h0,h1],rfl⟩
  have h1:=BG (BI h1);refine AO (NB (NX (rr (sd (da 48 1 1) (sp 1 [(41,vI 2)] (ee ?_))))));refine GF (HE (rqr (sp 1 [(42,.bool false)] (se (rq (rcf 42 rfl (BW 4 ?_)))))))
  repeat refine EP ?_
  refine EB (NX (rqr (sp 1 [(2,vI 0)] (se (BC ?_)))));exact FL 2 [] rfl (TC _ (TC _ (TC _ (TR _)))) hle ⟨by simp [h0,h1],rfl⟩
 ·
  refine QR (sS (sal 7 176 #[vI 0,vI 0] (fun b8=>?_)));refine sS (ss 0 0 b8 [vI 0,vI (AJ A)] [vI 0,vI (AJ A)] (_::_) (cs:=[_,_]) rfl rfl (se ?_));refine rr (sp 2 [(32,vP b8 0),(31,vS (some ⟨e,0,none⟩) 2 2)] (sd (dlb 33 0 0 b8 (vI 0)) (sp 1 [(34,vP b8 1)] (sd (dlb 35 0 1 b8 (vI (AJ A))) (sd (di 36 1 0 (b:=e) (off:=0) (n:=2) (a:=some ⟨e,0,none⟩) (fun _=>rfl)) (sS (ss 1 0 e [vI (AJ A)] [vI (AJ A),vI 0] (_::_::_) (cs:=[_,_]) rfl rfl (ee ?_))))))));refine NB (NX (rr (sd (da 37 0 1) (sp 1 [(27,vI 1)] (ee ?_)))));refine GF (HE (rqr (sp 1 [(28,.bool true)] (se (rq (rct 28 rfl (AO (NX (rq (rb 3 (rq ?_)))))))))));refine rrM (PF (dld 29 3 174 (.chan (some r)) rfl (AR hb3 rfl)) (seqM_recv (d:=30) (x:=.tmp 29) (T:=174) (el:=176) (z:=.agg #[vI 0,vI 0]) (ty:=176) (h:=⟨r,2,[(.agg #[vI 1,vI (AJ C)])]⟩) (by kernel_rfl) (by kernel_rfl) (by kernel_rfl) rfl rfl (by simp) (fun v outs hv=>?_)));obtain ⟨rfl,rfl⟩:=one_perm hv;refine QR (sS (sal 7 176 #[vI 0,vI 0] (fun b9=>?_)));refine sS (ss 0 0 b9 [vI 1,vI (AJ C)] [vI 1,vI (AJ C)] (_::_) (cs:=[_,_]) rfl rfl (se ?_));refine rr (sp 2 [(32,vP b9 0),(31,vS (some ⟨e,0,none⟩) 2 2)] (sd (dlb 33 0 0 b9 (vI 1)) (sp 1 [(34,vP b9 1)] (sd (dlb 35 0 1 b9 (vI (AJ C))) (sd (di 36 1 1 (b:=e) (off:=0) (n:=2) (a:=some ⟨e,0,none⟩) (fun _=>rfl)) (sS (ss 2 1 e [vI (AJ C)] [vI (AJ A),vI (AJ C)] (_::_::_::_) (cs:=[_,_]) rfl rfl (ee ?_))))))));refine NB (NX (rr (sd (da 37 1 1) (sp 1 [(27,vI 2)] (ee ?_)))));refine GF (HE (rqr (sp 1 [(28,.bool false)] (se (rq (rcf 28 rfl (BW 2 ?_)))))))
  repeat refine EP ?_
  refine EB (NX ?_);refine run_take (h:=⟨r,2,[]⟩) (F:=F) (I0:=I) rfl rfl hg hp hos htp hout (fun b o h=>⟨hF0 b o h,hW0.disj b o (.tail _ (.tail _ (.tail _ h)))⟩) hFn hI0 (fun q tm J hle hJ=>?_);have hb3:J.blk b3=some _:=hJ b3 _ hb3 hne3 hnF3;refine rqr (sd (dld 38 3 174 (.chan (some r)) rfl (AR hb3 rfl)) (sS (stp_close (x:=.tmp 38) (tys:=#[174]) (dst:=none) (ty:=0) (gd:=none) (by kernel_rfl) rfl rfl (PR _) (se ?_))));refine rnm (rq (rqr (sp 3 [(41,vI 0),(40,vI 2),(39,vS (some ⟨e,0,none⟩) 2 2)] (se (rb 4 (rL ?_))))));refine HE (rqr (sp 1 [(42,.bool true)] (se (rq (rct 42 rfl (AO (NX (rq (rb 5 (rqr ?_))))))))));refine sd (di 43 1 0 (b:=e) (off:=0) (n:=2) (a:=some ⟨e,0,none⟩) (fun _=>rfl)) (sd (dlb 44 2 0 e (vI (AJ A))) (sp 1 [(9,vI (AJ A))] (sn (sp 2 [(46,.bool (!(cmp .eql (AJ A) 0))),(45,vI (AJ A))] (se (rc 46 rfl (fun h0=>?_) (fun h0=>?_)))))))
  · refine rqr (sp 2 [(2,vI (AJ A)),(47,vI (AJ A))] (se (BC ?_)))
    repeat first | refine RP ?_ | refine RB ?_
    have h0:=BN (BP h0);exact FL 2 [] rfl (TC _ (TC _ (TC _ (TR _)))) hle ⟨by simp [h0],rfl⟩
  have h0:=BG (BI h0);refine AO (NB (NX (rr (sd (da 48 0 1) (sp 1 [(41,vI 1)] (ee ?_))))));refine GF (HE (rqr (sp 1 [(42,.bool true)] (se (rq (rct 42 rfl (AO (NX (rq (rb 5 (rqr ?_)))))))))));refine sd (di 43 1 1 (b:=e) (off:=0) (n:=2) (a:=some ⟨e,0,none⟩) (fun _=>rfl)) (sd (dlb 44 2 1 e (vI (AJ C))) (sp 1 [(9,vI (AJ C))] (sn (sp 2 [(46,.bool (!(cmp .eql (AJ C) 0))),(45,vI (AJ C))] (se (rc 46 rfl (fun h1=>?_) (fun h1=>?_)))))))
  · refine rqr (sp 2 [(2,vI (AJ C)),(47,vI (AJ C))] (se (BC ?_)))
    repeat first | refine RP ?_ | refine RB ?_
    have h1:=BN (BP h1);exact FL 2 [] rfl (TC _ (TC _ (TC _ (TR _)))) hle ⟨by simp [h0,h1],rfl⟩
  have h1:=BG (BI h1);refine AO (NB (NX (rr (sd (da 48 1 1) (sp 1 [(41,vI 2)] (ee ?_))))));refine GF (HE (rqr (sp 1 [(42,.bool false)] (se (rq (rcf 42 rfl (BW 4 ?_)))))))
  repeat refine EP ?_
  refine EB (NX (rqr (sp 1 [(2,vI 0)] (se (BC ?_)))));exact FL 2 [] rfl (TC _ (TC _ (TC _ (TR _)))) hle ⟨by simp [h0,h1],rfl⟩
end Go.Proofs.YtgcemienebmdeaaGreat
namespace Go.Sl
open Go
structure Lone (I:Imm):Prop where
  gh:I.gh=none
  pub:I.pub=fun _=>False
theorem Lone.mono {I J:Imm} (h:Lone I) (le:I.le J):Lone J:=⟨le.gh.trans h.gh,le.pub.trans h.pub⟩
section
variable {P:Program} [J:Jud P] [Host P] {N:Nat} {ops:Array Oper} {i:Nat} {l:Sl} {I:Imm} {M:Seg}
theorem scH (d : Option Tmp) {K : Sl → Imm → Seg → Prop} {fid : FuncId} {argv : Array Value} {pre F : Seg} {post : Value → Imm → Seg → Prop} (ct : CtB P fid argv I pre post) (hM : M.Perm (pre ++ F))
    (hk:∀ v I' M',I.le I'→post v I' M'→K (ups d v l) I' (M'++F)) (h:clAt P N ops l i=some (d,fid,argv):=by kernel_rfl):Stp P N ops i l I M K:=by
  obtain ⟨f,args,tys,ty,gd,vals,cv,h1,h2,h3,h4,h5,h6⟩:=clAt_spec h;exact stp_callH h1 h2 h3 h4 h5 h6 ct hM hk
end
end Go.Sl
namespace Go.Sh
open Go Go.Sl
section
variable {α:Type} {c:α→α→Int} {l zs:List α} {i j m:Nat} {d:α}
def InsI (c:α→α→Int) (l zs:List α) (i:Nat):Prop:=zs=AG c (l.take i)++l.drop i
def InsAt (c:α→α→Int) (d:α) (l zs:List α) (i j:Nat):Prop:=
  j≤i∧i<l.length∧zs=(AG c (l.take i)).take j++l.getD i d::((AG c (l.take i)).drop j++l.drop (i+1))∧∀ z∈(AG c (l.take i)).drop j,c (l.getD i d) z<0
theorem EH (h:i≤l.length):(AG c (l.take i)).length=i:=by rw [(CH _).length_eq,List.length_take];omega
theorem InsI.start:InsI c l l 1:=by
  unfold InsI;cases l with
  | nil=>rfl
  | cons x r=>rfl
theorem InsI.len (h:InsI c l zs i):zs.length=l.length:=by
  rw [h,List.length_append,(CH _).length_eq,List.length_take,List.length_drop];omega
theorem InsI.into (h:InsI c l zs i) (hi:i<l.length):InsAt c d l zs i i:=by
  have hl:=EH (c:=c) (Nat.le_of_lt hi);refine ⟨Nat.le_refl _,hi,?_,?_⟩
  · rw [h,List.take_of_length_le (l:=AG c (l.take i)) (by omega),List.drop_of_length_le (l:=AG c (l.take i)) (by omega),List.drop_eq_getElem_cons hi]
    simp [List.getD,hi]
  · rw [List.drop_of_length_le (by omega)];intro z hz;cases hz
theorem InsI.done (h:InsI c l zs i) (hi:l.length≤i):zs=AG c l:=by
  rw [h,List.take_of_length_le hi,List.drop_of_length_le hi,List.append_nil]
theorem swapG {l:List α} {i j:Nat} {d:α} (hi:i<l.length) (hj:j<l.length):((l.set i (l.getD j d)).set j (l.getD i d)).Perm l:=by
  have e1:l.getD i d=l[i]:=by simp [List.getD,hi]
  have e2:l.getD j d=l[j]:=by simp [List.getD,hj]
  rw [e1,e2];exact List.set_set_perm hi hj
theorem InsAt.len (h:InsAt c d l zs i j):zs.length=l.length:=by
  obtain ⟨h1,h2,h3,_⟩:=h;have hl:=EH (c:=c) (Nat.le_of_lt h2);rw [h3];simp only [List.length_append,List.length_cons,List.length_take,List.length_drop,hl];omega
theorem InsAt.at_j (h:InsAt c d l zs i j):zs.getD j d=l.getD i d:=by
  obtain ⟨h1,h2,h3,_⟩:=h;have hl:=EH (c:=c) (Nat.le_of_lt h2);rw [h3,List.getD_eq_getElem?_getD,List.getElem?_append_right (by rw [List.length_take];omega)];rw [show j-((AG c (l.take i)).take j).length=0 by rw [List.length_take];omega];rfl
theorem InsAt.at_m (h:InsAt c d l zs i j) (hm:m<j):zs.getD m d=(AG c (l.take i)).getD m d:=by
  obtain ⟨h1,h2,h3,_⟩:=h;have hl:=EH (c:=c) (Nat.le_of_lt h2);rw [h3,List.getD_eq_getElem?_getD,List.getElem?_append_left (by rw [List.length_take];omega),List.getElem?_take_of_lt hm,← List.getD_eq_getElem?_getD]
theorem InsAt.step (h:InsAt c d l zs i j) (hm:m+1=j) (hlt:c (zs.getD j d) (zs.getD m d)<0):InsAt c d l ((zs.set j (zs.getD m d)).set m (zs.getD j d)) i m:=by
  rw [h.at_j,h.at_m (m:=m) (by omega)] at hlt ⊢;obtain ⟨h1,h2,h3,h4⟩:=h;have hl:=EH (c:=c) (Nat.le_of_lt h2);unfold InsAt
  generalize AG c (l.take i)=q at h3 h4 hl hlt ⊢
  generalize l.getD i d=x at h3 h4 hlt ⊢
  have hmq:m<q.length:=by omega
  have hd:q.drop m=q.getD m d::q.drop (m+1):=by rw [List.drop_eq_getElem_cons hmq];simp [List.getD,hmq]
  refine ⟨by omega,h2,?_,?_⟩
  · subst hm
    rw [BT (d:=d) hmq] at h3;rw [h3,List.set_append_right _ _ (by simp;omega),show m+1-(q.take m++[q.getD m d]).length=0 by simp;omega,List.set_cons_zero,List.append_assoc,List.set_append_right _ _ (by simp;omega),show m-(q.take m).length=0 by simp;omega,List.singleton_append,List.set_cons_zero,hd];rfl
  · rw [hd]
    intro z hz;rcases List.mem_cons.1 hz with rfl | hz
    · exact hlt
    · rw [hm] at hz;exact h4 z hz
theorem InsAt.done (h:InsAt c d l zs i j) (hs:j=0∨¬ c (zs.getD j d) (zs.getD (j-1) d)<0):InsI c l zs (i+1):=by
  rcases Nat.eq_zero_or_pos j with h0 | h0
  · obtain ⟨h1,h2,h3,h4⟩:=h
    unfold InsI;rw [isort_take (d:=d) h2,insB_at d _ _ j (by rw [EH (Nat.le_of_lt h2)];exact h1) h4 (.inl h0),h3];simp
  · rw [h.at_j,h.at_m (m:=j-1) (by omega)] at hs
    obtain ⟨h1,h2,h3,h4⟩:=h;unfold InsI;rw [isort_take (d:=d) h2,insB_at d _ _ j (by rw [EH (Nat.le_of_lt h2)];exact h1) h4 hs,h3];simp
theorem InsAt.done2 {u:Nat} (h:InsAt c d l zs i j) (hu:u=0) (hb:(cmp .gtr (j:Int) (u:Int)&&cmp .lss (c (zs.getD j d) (zs.getD ((j:Int)-1).toNat d)) 0)=false):InsI c l zs (i+1):=by
  subst hu;refine h.done ?_;rcases Nat.eq_zero_or_pos j with h0 | h0
  · exact .inl h0
  · refine .inr ?_
    rw [show ((j:Int)-1).toNat=j-1 by omega] at hb;simp only [cmp,Bool.and_eq_false_iff,decide_eq_false_iff_not] at hb;rcases hb with hb | hb
    · omega
    · omega
end
def RG (s:Slip):Prop:=-1000000≤s.hour∧s.hour≤1000000∧-1000000≤s.num∧s.num≤1000000
def cmpZ (x y:Int):Int:=x-y
theorem less_cmpZ {x y:Int}:cmp .lss x y=cmp .lss (cmpZ x y) 0:=by
  show decide (x<y)=decide (x-y<0);exact decide_eq_decide.2 (by omega)
theorem u8_id {m:Nat} (h:m<256):IntKind.u8.wrap (m:Int)=m:=by
  have h1:IntKind.u8.signed=false:=rfl;have h2:IntKind.u8.bits=8:=rfl;simp only [IntKind.wrap,h1,h2,Bool.false_and,Bool.false_eq_true,if_false];omega
theorem u64_id {m:Nat} (h:m<1000000):IntKind.u64.wrap (m:Int)=m:=by
  have h1:IntKind.u64.signed=false:=rfl;have h2:IntKind.u64.bits=64:=rfl;simp only [IntKind.wrap,h1,h2,Bool.false_and,Bool.false_eq_true,if_false];omega
theorem byteAt_range {s:List UInt8} {j:Nat}:0≤byteAt s j∧byteAt s j≤255:=by
  unfold byteAt;have:=(s.getD j 0).toNat_lt;omega
end Go.Sh
namespace Go.Sl
open Go
structure Borns (es:Array MapEntry) (cl:Nat):Prop where
  once:(es.toList.map (·.born)).Nodup
  lt:∀ e∈es.toList,e.born<cl
def MapB {κ:Type} (enc:κ→Value) (es:Array MapEntry) (cl:Nat) (kvs:List (κ × Value)):Prop:=MapIs enc es kvs∧Borns es cl
theorem MapB.nil {κ:Type} (enc:κ→Value) (cl:Nat):MapB enc #[] cl []:=⟨rfl,by simp,fun _ h=>by simp at h⟩
theorem Borns.push {es:Array MapEntry} {cl:Nat} (h:Borns es cl) (k v:Value):Borns (es.push { key:=k,val:=v,born:=cl }) (cl+1):=by
  refine ⟨?_,fun e he=>?_⟩
  · simp only [Array.toList_push,List.map_append,List.map_cons,List.map_nil]
    refine List.nodup_append.2 ⟨h.once,by simp,fun a ha b hb=>?_⟩;obtain ⟨e,he,rfl⟩:=List.mem_map.1 ha;simp at hb;subst hb;have:=h.lt e he;omega
  · simp only [Array.toList_push,List.mem_append,List.mem_singleton] at he
    rcases he with he | rfl
    · have:=h.lt e he;omega
    · show cl<cl+1;omega
theorem modify_born (es:Array MapEntry) (j:Nat) (f:MapEntry→MapEntry) (hf:∀ e,(f e).born=e.born):(es.modify j f).toList.map (·.born)=es.toList.map (·.born):=by
  apply List.ext_getElem?
  intro n;simp only [List.getElem?_map,Array.getElem?_toList,Array.getElem?_modify]
  split
  · cases es[n]? <;> simp [hf]
  · rfl
theorem Borns.modify {es:Array MapEntry} {cl:Nat} (h:Borns es cl) (j:Nat) (f:MapEntry→MapEntry) (hf:∀ e,(f e).born=e.born):Borns (es.modify j f) cl:=by
  refine ⟨by rw [modify_born _ _ _ hf];exact h.once,fun e he=>?_⟩;have:e.born∈(es.modify j f).toList.map (·.born):=List.mem_map_of_mem he;rw [modify_born _ _ _ hf] at this;obtain ⟨e',he',e1⟩:=List.mem_map.1 this;rw [← e1];exact h.lt e' he'
def ent {κ:Type} [DecidableEq κ] (k:κ) (z:Value):List (κ × Value)→List (κ × Value)
  | []=>[(k,z)]
  | x::r=>if x.1=k then x::r else x::ent k z r
section
variable {κ:Type} [DecidableEq κ]
theorem getKv_ent (k:κ) (z:Value):∀ kvs:List (κ × Value),(KW k (ent k z kvs)).getD z=(KW k kvs).getD z:=by
  intro kvs
  induction kvs with
  | nil=>simp [ent,KW]
  | cons x r ih=>simp only [ent];split <;> simp_all [KW]
theorem upd_ent (k:κ) (z v:Value):∀ kvs:List (κ × Value),upd k v (ent k z kvs)=upd k v kvs:=by
  intro kvs
  induction kvs with
  | nil=>simp [ent,upd]
  | cons x r ih=>simp only [ent];split <;> simp_all [upd]
theorem findKv_ent (k : κ) (z : Value) : ∀ (kvs : List (κ × Value)) (i : Nat), (match EO k kvs i with
    | some (j,u)=>ent k z kvs=kvs∧EO k (ent k z kvs) i=some (j,u)
    | none=>ent k z kvs=kvs++[(k,z)]∧EO k (ent k z kvs) i=some (i+kvs.length,z)):=by
  intro kvs
  induction kvs with
  | nil=>intro i;simp [EO,ent]
  | cons x r ih=>
    intro i;simp only [EO,ent]
    by_cases h:x.1=k
    · simp [h,EO]
    · simp only [if_neg h]
      have:=ih (i+1);cases hf:EO k r (i+1) with
      | none=>
        rw [hf] at this;obtain ⟨h1,h2⟩:=this;refine ⟨by rw [h1];rfl,?_⟩;show (if x.1=k then some (i,x.2) else EO k (ent k z r) (i+1))=_;rw [if_neg h,h2,List.length_cons];congr 2;omega
      | some p=>
        rw [hf] at this;obtain ⟨h1,h2⟩:=this;refine ⟨by rw [h1],?_⟩;show (if x.1=k then some (i,x.2) else EO k (ent k z r) (i+1))=_;rw [if_neg h,h2]
theorem findKv_lt (k:κ):∀ (kvs:List (κ × Value)) (i j:Nat) (u:Value),EO k kvs i=some (j,u)→i≤j∧j-i<kvs.length∧kvs[j-i]?=some (k,u):=by
  intro kvs
  induction kvs with
  | nil=>intro i j u h;cases h
  | cons x r ih=>
    intro i j u h;simp only [EO] at h
    split at h
    · rename_i e
      cases h;simp [← e]
    · obtain ⟨h1,h2,h3⟩:=ih _ _ _ h
      refine ⟨by omega,by simp;omega,?_⟩;rw [show j-i=(j-(i+1))+1 by omega];simpa using h3
end
theorem key_at {κ:Type} {enc:κ→Value} {es:Array MapEntry} {kvs:List (κ × Value)} (his:MapIs enc es kvs) {j:Nat} {k:κ} {u:Value} (h:kvs[j]?=some (k,u)):∃ e,es[j]?=some e∧e.key=enc k∧e.val=u:=by
  have:=congrArg (fun l=>l[j]?) his;simp only [List.getElem?_map,Array.getElem?_toList,h,Option.map_some,ND] at this;cases he:es[j]? with
  | none=>rw [he] at this;cases this
  | some e=>rw [he] at this;simp only [Option.map_some,Option.some.injEq,Prod.mk.injEq] at this;exact ⟨e,rfl,this.1,this.2⟩
def Stamp {κ:Type} [DecidableEq κ] (es:Array MapEntry) (kvs:List (κ × Value)) (st:Nat) (k:κ):Prop:=∃ j u,EO k kvs 0=some (j,u)∧(es[j]?).map (·.born)=some st
section
variable {ρ:Option Nat} {P:Program} [Jud P] {N:Nat} {ops:Array Oper} {i:Nat} {l:Sl} {I:Imm} {R M:Seg} {d:Nat} {ty:TypeId} {gd:Option (Nat × Bool)} {K:Sl→Imm→Seg→Prop}
variable {κ:Type} [DecidableEq κ] {enc:κ→Value}
theorem set_same {es:Array MapEntry} {j:Nat} {e:MapEntry} (h:es[j]?=some e) {key:Value} (hk:key=e.key):es.modify j (fun e=>{ e with key })=es:=by
  apply Array.ext_getElem?
  intro n;rw [Array.getElem?_modify]
  split
  · rename_i e1;subst e1 hk;rw [h];rfl
  · rfl
theorem RZ {P:Program} {a:Value} {Q:Value→Seg→Prop} (h:Q a M):wpL P (Instr.keyThatStays a a) Q I M:=by
  unfold Instr.keyThatStays
  split
  · exact h
  · rw [AE]
    show (if (Question.extern "map.whichKeyStays" 2).forced then _ else ∀ t,_)
    split
    · show Q _ M;split <;> exact h
    · intro t;show Q _ M;split <;> exact h
theorem RV {x y : Operand} {T kt et r cl : Nat} {es : Array MapEntry} {kvs : List (κ × Value)} {k : κ} {z : Value} (n : Nat) (hop : FF ops N i = some (some d, .mapEntry T x y, ty, gd)) (hg : FA ops l gd = some true)
    (hT:SI P T=some (kt,et)) (hK:KeyOk P kt enc) (hx:BR l x=some (.map (some r))) (hy:BR l y=some (enc k)) (hz:HG P et=some z) (hn:M[n]?=some (r,Obj.map es cl)) (hb:MapB enc es cl kvs)
    (h:∀ es' cl' (st:Nat),MapB enc es' cl' (ent k z kvs)→Stamp es' (ent k z kvs) st k→K ((d,.tuple #[(KW k kvs).getD z,.int .i64 (st:Int)])::l) I (M.set n (r,Obj.map es' cl'))):Stp P N ops i l I M K:=
  CV hop hg (JP hx hy) (by
    obtain ⟨his,hbo⟩:=hb
    show wpL P (Instr.mapEntry T (rho l x) (rho l y) >>= fun x=>pure (Next.value x)) _ I M
    rw [BB hx,BB hy]
    refine DV ?_
    unfold Instr.mapEntry
    rw [AE,AL (KN hT)]
    show wpL P (Sem.getObj r _) _ I M
    refine ⟨_,.inl (List.mem_of_getElem? hn),rfl,?_⟩
    show wpL P (Instr.checkKey _ _ _ _ >>= _) _ I _
    rw [AE]
    refine hK.check _ _ _ _ _ ?_
    rw [AE]
    refine hK.find k es.toList kvs _ _ _ his ?_
    have hf:=findKv_ent k z kvs 0
    have hgk:=findKv_get k kvs 0
    cases hkv:EO k kvs 0 with
    | none=>
      rw [hkv] at hf hgk
      simp only at hf
      simp only [Option.map_none] at hgk
      show wpL P (zeroValue et >>= _) _ I M
      rw [AE,DQ hz]
      show wpL P (Sem.setObj r _ _) _ I M
      refine FZ n rfl hn rfl ?_
      refine ⟨_,.inl rfl,?_⟩
      have h1:=h (es.push { key:=enc k,val:=z,born:=cl }) (cl+1) cl ⟨by rw [hf.1];exact QL his k z cl,hbo.push _ _⟩ ⟨_,_,hf.2,by
        have hs:=MapIs.size his
        rw [Nat.zero_add,← hs];simp⟩
      rw [← hgk] at h1
      exact h1
    | some p=>
      obtain ⟨j,w⟩:=p
      rw [hkv] at hf hgk
      simp only at hf
      simp only [Option.map_some] at hgk
      obtain ⟨_,_,h3⟩:=findKv_lt k kvs 0 j w hkv
      rw [Nat.sub_zero] at h3
      obtain ⟨e,he,hek,hev⟩:=key_at his h3
      have hold:((es[j]?).map (·.key)).getD (enc k)=enc k:=by rw [he];exact hek
      show wpL P (Instr.keyThatStays (((es[j]?).map (·.key)).getD (enc k)) (enc k) >>= _) _ I M
      rw [AE,hold]
      refine RZ ?_
      show wpL P (Sem.setObj r _ _) _ I M
      refine FZ n rfl hn rfl ?_
      refine ⟨_,.inl rfl,?_⟩
      rw [set_same he hek.symm]
      have h1:=h es cl e.born ⟨by rw [hf.1];exact his,hbo⟩ ⟨_,_,hf.2,by rw [he];rfl⟩
      rw [← hgk] at h1
      rw [he]
      exact h1)
theorem NN {x y u : Operand} {T r cl st : Nat} {es : Array MapEntry} {kvs : List (κ × Value)} {k : κ} {v : Value} (n : Nat) (hop : FF ops N i = some (none, .entryStore T x y u, ty, gd)) (hg : FA ops l gd = some true)
    (hx:BR l x=some (.map (some r))) (hy:BR l y=some (.int .i64 (st:Int))) (hu:BR l u=some v) (hn:M[n]?=some (r,Obj.map es cl)) (hb:MapB enc es cl kvs) (hst:Stamp es kvs st k)
    (h:∀ es',MapB enc es' cl (upd k v kvs)→K l I (M.set n (r,Obj.map es' cl))):Stp P N ops i l I M K:=
  CV hop hg (known3 hx hy hu) (by
    obtain ⟨his,hbo⟩:=hb
    obtain ⟨j,w,hj,hs⟩:=hst
    show wpL P (Instr.entryStore T (rho l x) (rho l y) (rho l u) >>= fun _=>pure Next.skip) _ I M
    rw [BB hx,BB hy,BB hu,AE]
    unfold Instr.entryStore
    show wpL P (Sem.getObj r _) _ I M
    refine ⟨_,.inl (List.mem_of_getElem? hn),rfl,?_⟩
    obtain ⟨_,_,h3⟩:=findKv_lt k kvs 0 j w hj
    rw [Nat.sub_zero] at h3
    obtain ⟨e,he,hek,hev⟩:=key_at his h3
    rw [he] at hs
    simp only [Option.map_some,Option.some.injEq] at hs
    have hjl:j<es.size:=(Array.getElem?_eq_some_iff.1 he).1
    have hej:es[j]=e:=(Array.getElem?_eq_some_iff.1 he).2
    have hfi:es.findIdx? (fun e=>(e.born:Int) == (st:Int))=some j:=by
      rw [Array.findIdx?_eq_some_iff_getElem]
      refine ⟨hjl,by rw [hej,hs];simp,fun q hq=>?_⟩
      have hne:es[q].born≠st:=fun e1=>by
        have h4:(es.toList.map (·.born))[q]'(by simp;omega)=(es.toList.map (·.born))[j]'(by simpa using hjl):=by simp [e1,hej,hs]
        have:=(List.getElem_inj hbo.once).1 h4
        omega
      simp only [Bool.not_eq_true,beq_eq_false_iff_ne,ne_eq]
      intro e1;exact hne (by omega)
    show wpL P (match es.findIdx? (fun e=>(e.born:Int) == (st:Int)) with
      | some i=>Go.setObj r (.map (es.modify i fun e=>{ e with val:=v }) cl)
      | none=>unsupported (.noEntry "instr/MapEntry.the entry is gone")) _ I M
    rw [hfi]
    show wpL P (Sem.setObj r _ _) _ I M
    refine FZ n rfl hn rfl ?_
    refine ⟨undef,.inr ⟨rfl,rfl⟩,h _ ⟨?_,hbo.modify _ _ (fun _=>rfl)⟩⟩
    have hq:=QD k v kvs 0
    rw [hj] at hq
    simp only [Nat.sub_zero] at hq
    rw [hq.2.1]
    have e2:es.modify j (fun e=>{ e with val:=v })=es.modify j (fun e=>{ e with key:=enc k,val:=v }):=by
      apply Array.ext_getElem?
      intro q
      rw [Array.getElem?_modify,Array.getElem?_modify]
      split
      · rename_i e1;subst e1;rw [he];simp [hek]
      · rfl
    rw [e2]
    exact mapIs_set his j k v (enc k) rfl)
end
def MG (seen:Array Nat) (e:MapEntry):Bool:=!seen.contains e.born
def Left {κ:Type} (enc:κ→Value) (es:Array MapEntry) (seen:Array Nat) (todo:List (κ × Value)):Prop:=(es.toList.filter (MG seen)).map (fun e=>(e.key,e.val))=todo.map (ND enc)
def AtEntry {κ:Type} (enc:κ→Value) (es:Array MapEntry) (seen:Array Nat) (x:κ × Value):Prop:=∃ e,e∈es.toList∧seen.back?=some e.born∧e.key=enc x.1∧e.val=x.2
theorem Left.start {κ:Type} {enc:κ→Value} {es:Array MapEntry} {kvs:List (κ × Value)} (h:MapIs enc es kvs):Left enc es #[] kvs:=by
  unfold Left;have:es.toList.filter (MG #[])=es.toList:=List.filter_eq_self.2 fun e _=>by simp [MG]
  rw [this];exact h
theorem born_inj {es:Array MapEntry} {cl:Nat} (h:Borns es cl) {e e':MapEntry} (he:e∈es.toList) (he':e'∈es.toList) (hb:e.born=e'.born):e=e':=by
  obtain ⟨a,ha,rfl⟩:=List.mem_iff_getElem.1 he;obtain ⟨b,hb',rfl⟩:=List.mem_iff_getElem.1 he';have:a=b:=(List.getElem_inj (h₀:=by simpa using ha) (h₁:=by simpa using hb') h.once).1 (by simpa using hb);subst this;rfl
theorem new_push {es:Array MapEntry} {cl:Nat} (h:Borns es cl) {seen:Array Nat} {A B:List MapEntry} {e:MapEntry} (hs:es.toList.filter (MG seen)=A++e::B):es.toList.filter (MG (seen.push e.born))=A++B:=by
  have hnd:(es.toList.map (·.born)).Nodup:=h.once;have hsub:(A++e::B).Sublist es.toList:=by rw [← hs];exact List.filter_sublist
  have hn2:((A++e::B).map (·.born)).Nodup:=(hsub.map _).nodup hnd;have e1:es.toList.filter (MG (seen.push e.born))=(es.toList.filter (MG seen)).filter (fun x=>!(x.born == e.born)):=by
    rw [List.filter_filter];refine List.filter_congr fun x _=>?_
    simp only [MG,Array.contains_push,Bool.not_or];rw [Bool.and_comm]
  rw [e1,hs,List.filter_append,List.filter_cons];rw [List.map_append,List.map_cons] at hn2;have hd:=List.nodup_append.1 hn2;have hd2:=List.nodup_cons.1 hd.2.1;have hA:A.filter (fun x=>!(x.born == e.born))=A:=List.filter_eq_self.2 fun x hx=>by
    have:=hd.2.2 x.born (List.mem_map_of_mem hx) e.born (by simp)
    simpa using this
  have hB:B.filter (fun x=>!(x.born == e.born))=B:=List.filter_eq_self.2 fun x hx=>by
    have:x.born≠e.born:=fun e2=>hd2.1 (by rw [← e2];exact List.mem_map_of_mem hx)
    simpa using this
  rw [hA,hB];simp
section
variable {P:Program} [Jud P] {N:Nat} {ops:Array Oper} {i:Nat} {l:Sl} {I:Imm} {R M:Seg} {d:Nat} {ty:TypeId} {gd:Option (Nat × Bool)} {K:Sl→Imm→Seg→Prop}
theorem stp_range {x : Operand} {T kt et r cl : Nat} {es : Array MapEntry} (hop : FF ops N i = some (some d, .range T x, ty, gd)) (hg : FA ops l gd = some true) (hT : SI P T = some (kt, et)) (hx : BR l x = some (.map (some r))) (hm : Holds I M r (.map es cl))
    (h:∀ b,K ((d,.pointer (some ⟨b,0,none⟩))::l) I ((b,Obj.mapIter (some r) cl #[] cl)::M)):Stp P N ops i l I M K:=
  CV hop hg (MH hx) (by
    show wpL P (Instr.range T (rho l x) >>= fun x=>pure (Next.value x)) _ I M
    rw [BB hx]
    refine DV ?_
    unfold Instr.range
    rw [AE,AL (KN hT)]
    show wpL P (Sem.getObj r _) _ I M
    exact ⟨_,hm,rfl,fun b=>⟨_,.inl rfl,h b⟩⟩)
theorem stp_next {κ : Type} {enc : κ → Value} {x : Operand} {r cl b : Nat} {es : Array MapEntry} {seen : Array Nat} {todo : List (κ × Value)} (n : Nat) (hop : FF ops N i = some (some d, .next x false, ty, gd)) (hg : FA ops l gd = some true)
    (hx:BR l x=some (.pointer (some ⟨b,0,none⟩))) (hn:M[n]?=some (b,Obj.mapIter (some r) cl seen cl)) (hm:Holds I M r (.map es cl)) (hb:Borns es cl) (hl:Left enc es seen todo)
    (h0:todo=[]→K ((d,.tuple #[.bool false])::l) I M)
    (h1:∀ A y B seen',todo=A++y::B→Left enc es seen' (A++B)→AtEntry enc es seen' y→K ((d,.tuple #[.bool true,enc y.1,y.2])::l) I (M.set n (b,Obj.mapIter (some r) cl seen' cl))):Stp P N ops i l I M K:=
  CV hop hg (MH hx) (by
    show wpL P (Instr.next (rho l x) false ty >>= fun x=>pure (Next.value x)) _ I M
    rw [BB hx]
    refine DV ?_
    unfold Instr.next
    show wpL P (Sem.getObj b _) _ I M
    refine ⟨_,.inl (List.mem_of_getElem? hn),rfl,?_⟩
    show wpL P (Sem.getObj r _) _ I M
    refine ⟨_,hm,rfl,?_⟩
    have hc:(!seen.isEmpty&&!es.isEmpty&&es.all (fun (e:MapEntry)=>decide (e.born≥cl)))=false:=by
      rcases Nat.eq_zero_or_pos es.size with hz | hz
      · have:es.isEmpty=true:=by simpa [Array.isEmpty] using hz
        rw [this];simp
      · have : es.all (fun (e : MapEntry) => decide (e.born ≥ cl)) = false := by
          rw [Array.all_eq_false]
          refine ⟨0,hz,?_⟩
          have:=hb.lt es[0] (by simp)
          simp;omega
        rw [this];simp
    show wpL P (if (!seen.isEmpty&&!es.isEmpty&&es.all (fun (e:MapEntry)=>decide (e.born≥cl)))=true then _ else _) _ I M
    rw [hc]
    simp only [Bool.false_eq_true,if_false]
    have hold:(es.filter (MG seen)).filter (fun (e:MapEntry)=>decide (e.born<cl))=es.filter (MG seen):=by
      rw [Array.filter_eq_self];intro e he
      have:=hb.lt e (by simpa using (Array.mem_filter.1 he).1);simpa using this
    have hnew:(es.filter (MG seen)).filter (fun (e:MapEntry)=>decide (e.born≥cl))=#[]:=by
      rw [Array.filter_eq_empty_iff];intro e he
      have:=hb.lt e (by simpa using (Array.mem_filter.1 he).1);simp;omega
    have e0:(fun e:MapEntry=>!seen.contains e.born)=MG seen:=rfl
    rw [e0]
    rw [hold,hnew,Array.append_empty]
    have hfl:(es.filter (MG seen)).toList=es.toList.filter (MG seen):=by simp
    generalize hL:es.filter (MG seen)=L at hfl
    have take : ∀ (q : Nat), q < L.size → wpL P (match (L.map some)[q]? with
        | some (some e)=>(do
          Go.setObj b (.mapIter (some r) cl (seen.push e.born) cl)
          pure (Value.tuple #[.bool true,e.key,e.val]))
        | some none=>pure (.tuple #[.bool false])
        | none=>stuck "Next: no such candidate") (fun v M'=>∃ u,(Next.value v=.value u∨(Next.value v=.skip∧u=undef))∧K ((d,u)::l) I M') I M:=fun q hq=>by
      have hget:(L.map some)[q]?=some (some L[q]):=by simp [hq]
      rw [hget]
      have hsp:es.toList.filter (MG seen)=L.toList.take q++L[q]::L.toList.drop (q+1):=by
        rw [← hfl]
        have:=List.drop_eq_getElem_cons (l:=L.toList) (i:=q) (by simpa using hq)
        rw [show L[q]=L.toList[q]'(by simpa using hq) from by simp,← this,List.take_append_drop]
      have hl2:(L.toList.take q++L[q]::L.toList.drop (q+1)).map (fun e=>(e.key,e.val))=todo.map (ND enc):=by rw [← hsp];exact hl
      have hlen:todo.length=L.size:=by
        have:=congrArg List.length hl2
        simp only [List.length_map,List.length_append,List.length_take,List.length_cons,List.length_drop,Array.length_toList] at this
        omega
      have hspt:todo=todo.take q++todo[q]'(by omega)::todo.drop (q+1):=by
        have:=List.drop_eq_getElem_cons (l:=todo) (i:=q) (by omega)
        rw [← this,List.take_append_drop]
      rw [hspt,List.map_append,List.map_append,List.map_cons,List.map_cons] at hl2
      have hk:(L.toList.take q).map (fun e=>(e.key,e.val))=(todo.take q).map (ND enc)∧(L[q].key,L[q].val)::(L.toList.drop (q+1)).map (fun e=>(e.key,e.val))=ND enc (todo[q]'(by omega))::(todo.drop (q+1)).map (ND enc):=
        List.append_inj hl2 (by simp;omega)
      obtain ⟨k1,k2⟩:=hk
      simp only [List.cons.injEq,ND,Prod.mk.injEq] at k2
      obtain ⟨⟨k3,k4⟩,k5⟩:=k2
      have hmem:L[q]∈es.toList:=by
        have:L[q]∈es.toList.filter (MG seen):=by rw [hsp];simp
        exact (List.mem_filter.1 this).1
      show wpL P (Sem.setObj b _ _) _ I M
      refine FZ n rfl hn rfl ?_
      refine ⟨_,.inl rfl,?_⟩
      rw [k3,k4]
      refine h1 (todo.take q) (todo[q]'(by omega)) (todo.drop (q+1)) (seen.push L[q].born) hspt ?_ ⟨L[q],hmem,by simp,k3,k4⟩
      unfold Left
      rw [new_push hb hsp,List.map_append,List.map_append,k1,k5]
    by_cases hz:L.size=0
    · have hLe:L=#[]:=Array.size_eq_zero_iff.1 hz
      subst hLe
      have ht:todo=[]:=by
        unfold Left at hl
        rw [← hfl] at hl
        simpa using hl.symm
      have:((if (#[]:Array MapEntry).isEmpty=true then #[none] else #[])++Array.map some (#[]:Array MapEntry))=#[none]:=by simp
      rw [this,AE]
      show (if (Question.mapNext 1).forced=true then _ else _)
      rw [if_pos (by decide)]
      exact ⟨_,.inl rfl,h0 ht⟩
    · have : ((if L.isEmpty = true then #[none] else #[]) ++ Array.map some L) = L.map some := by
        have:L.isEmpty=false:=by simpa [Array.isEmpty] using hz
        rw [this];simp
      rw [this,AE,Array.size_map]
      show (if (Question.mapNext L.size).forced=true then _ else ∀ t,_)
      split
      · exact take 0 (by omega)
      · intro t
        exact take (t%L.size) (Nat.mod_lt _ (by omega)))
theorem stp_entry {κ : Type} {enc : κ → Value} {x : Operand} {r cl b : Nat} {es : Array MapEntry} {seen : Array Nat} {y : κ × Value} (hop : FF ops N i = some (some d, .entry x, ty, gd)) (hg : FA ops l gd = some true)
    (hx:BR l x=some (.pointer (some ⟨b,0,none⟩))) (hn:(b,Obj.mapIter (some r) cl seen cl)∈M) (hm:Holds I M r (.map es cl)) (hb:Borns es cl) (ha:AtEntry enc es seen y)
    (h:K ((d,.tuple #[enc y.1,y.2])::l) I M):Stp P N ops i l I M K:=
  CV hop hg (MH hx) (by
    obtain ⟨e,he,hbk,k1,k2⟩:=ha
    show wpL P (Instr.entry (rho l x) >>= fun x=>pure (Next.value x)) _ I M
    rw [BB hx]
    refine DV ?_
    unfold Instr.entry
    show wpL P (Sem.getObj b _) _ I M
    refine ⟨_,.inl hn,rfl,?_⟩
    dsimp only [Sem.bind]
    rw [hbk]
    show wpL P (Sem.getObj r _) _ I M
    refine ⟨_,hm,rfl,?_⟩
    dsimp only [Sem.bind]
    rw [if_neg (by simp)]
    have hf:es.find? (fun x=>x.born == e.born)=some e:=by
      rw [← Array.find?_toList]
      cases hq:es.toList.find? (fun x=>x.born == e.born) with
      | none=>have:=List.find?_eq_none.1 hq e he;simp at this
      | some e'=>
        have h1:=List.find?_some hq;have h2:=List.mem_of_find?_eq_some hq
        rw [born_inj hb h2 he (by simpa using h1)]
    rw [hf]
    refine ⟨_,.inl rfl,?_⟩
    rw [k1,k2];exact h)
end
end Go.Sl
namespace Go.Sh
open Go Go.Sl
def hkCells (k:HKey):Array Value:=#[.int .i64 k.pl,.int .i64 k.so,.bool k.soil]
def MT (k:HKey):Value:=.agg (hkCells k)
def flatH:List (Nat × SK):=[(0,.i .i64),(1,.i .i64),(2,.b)]
theorem BD {P:Program} {kt:TypeId} (h:KU P 4 kt=some (3,flatH)) (hagg:ED P kt=some true):KeyOk P kt MT:=
  keyOk_flat h (by decide) hagg hkCells (fun _=>rfl) (fun _=>rfl) (fun a b=>by
    obtain ⟨a1,a2,a3⟩:=a;obtain ⟨b1,b2,b3⟩:=b
    show ((a1 == b1)&&((a2 == b2)&&((a3 == b3)&&true)))=decide ((⟨a1,a2,a3⟩:HKey)=⟨b1,b2,b3⟩)
    simp only [Bool.and_true,HKey.mk.injEq,Bool.decide_and];rfl)
def intV (h:Hs):List (HKey × Value):=h.map fun x=>(x.1,.int .i64 x.2)
theorem BQ (k:HKey) (h:Hs):(KW k (intV h)).getD (.int .i64 0)=.int .i64 (DF k h):=by
  induction h with
  | nil=>rfl
  | cons x r ih => simp only [intV, List.map_cons, KW, DF] at ih ⊢; split; · rfl
                   · exact ih
theorem upd_intV (k:HKey) (v:Int) (h:Hs):upd k (.int .i64 v) (intV h)=intV (KC k v h):=by
  induction h with
  | nil=>rfl
  | cons x r ih => simp only [intV, List.map_cons, upd, KC] at ih ⊢; split; · rfl
                   · rw [ih];rfl
end Go.Sh
namespace Go.Sl
open Go
def LkPr {κ:Type} [DecidableEq κ] (r:Nat) (enc:κ→Value) (k:κ) (z v:Value):Seg→Prop:=fun X=>∃ es cl kvs,X=[(r,Obj.map es cl)]∧MapIs enc es kvs∧(KW k kvs).getD z=v
section
variable {P:Program} [Jud P] {N:Nat} {ops:Array Oper} {i:Nat} {l:Sl} {I:Imm} {d:Nat} {ty:TypeId} {gd:Option (Nat × Bool)} {κ:Type} [DecidableEq κ] {enc:κ→Value}
theorem EY {x y : Operand} {T kt et r : Nat} {k : κ} {z v : Value} (hop : FF ops N i = some (some d, .lookup T x y false, ty, gd)) (hg : FA ops l gd = some true)
    (hT:SI P T=some (kt,et)) (hK:KeyOk P kt enc) (hx:BR l x=some (.map (some r))) (hy:BR l y=some (enc k)) (hz:HG P et=some z):∀ X,LkPr r enc k z v X→Det P N ops i l I X d v:=by
  rintro X ⟨es,cl,kvs,rfl,h1,h2⟩
  exact HL (cl:=cl) hop hg hT hK hx hy hz (.inl (by simp)) h1 h2
theorem KY {r cl:Nat} {es:Array MapEntry} {kvs:List (κ × Value)} {k:κ} {z v:Value} (h:MapB enc es cl kvs) (hv:(KW k kvs).getD z=v):LkPr r enc k z v [(r,Obj.map es cl)]:=⟨es,cl,kvs,rfl,h.1,hv⟩
theorem IJ {r cl:Nat} {es:Array MapEntry} {kvs:List (κ × Value)} {k k':κ} {z v:Value} (h:MapB enc es cl (ent k z kvs)) (hk:k'=k) (hv:(KW k' kvs).getD z=v):LkPr r enc k' z v [(r,Obj.map es cl)]:=⟨es,cl,_,rfl,h.1,by subst hk;rw [getKv_ent];exact hv⟩
end
section
variable {P:Program} [Jud P] {N:Nat} {ops:Array Oper} {i:Nat} {l:Sl} {I:Imm} {M:Seg} {ty:TypeId} {gd:Option (Nat × Bool)} {K:Sl→Imm→Seg→Prop} {κ:Type} [DecidableEq κ] {enc:κ→Value}
theorem NO {x y u : Operand} {T kt et r cl : Nat} {es : Array MapEntry} {kvs : List (κ × Value)} {k : κ} {v : Value} (n : Nat) (hop : FF ops N i = some (none, .mapUpdate T x y u, ty, gd)) (hg : FA ops l gd = some true)
    (hT:SI P T=some (kt,et)) (hK:KeyOk P kt enc) (hx:BR l x=some (.map (some r))) (hy:BR l y=some (enc k)) (hu:BR l u=some v) (hn:M[n]?=some (r,Obj.map es cl)) (hb:MapB enc es cl kvs)
    (h:∀ es' cl',MapB enc es' cl' (upd k v kvs)→K l I (M.set n (r,Obj.map es' cl'))):Stp P N ops i l I M K:=
  CV hop hg (known3 hx hy hu) (by
    obtain ⟨his,hbo⟩:=hb
    show wpL P (Instr.mapUpdate T (rho l x) (rho l y) (rho l u) >>= fun _=>pure Next.skip) _ I M
    rw [BB hx,BB hy,BB hu,AE]
    unfold Instr.mapUpdate
    rw [AE,AL (KN hT)]
    show wpL P (Sem.getObj r _) _ I M
    refine ⟨_,.inl (List.mem_of_getElem? hn),rfl,?_⟩
    show wpL P (Instr.checkKey _ _ _ _ >>= _) _ I _
    rw [AE]
    refine hK.check _ _ _ _ _ ?_
    rw [AE]
    refine hK.find k es.toList kvs _ _ _ his ?_
    have hf:=QD k v kvs 0
    cases hkv:EO k kvs 0 with
    | none=>
      rw [hkv] at hf
      simp only at hf
      show wpL P (Sem.setObj r _ _) _ I M
      refine FZ n rfl hn rfl ?_
      refine ⟨undef,.inr ⟨rfl,rfl⟩,h _ _ ⟨?_,hbo.push _ _⟩⟩
      rw [hf.1]
      exact QL his k v cl
    | some p=>
      obtain ⟨j,w⟩:=p
      rw [hkv] at hf
      simp only [Nat.sub_zero] at hf
      obtain ⟨_,h1,_,h2⟩:=hf
      obtain ⟨_,_,h3⟩:=findKv_lt k kvs 0 j w hkv
      rw [Nat.sub_zero] at h3
      obtain ⟨e,he,hek,hev⟩:=key_at his h3
      have hold:((es[j]?).map (·.key)).getD (enc k)=enc k:=by rw [he];exact hek
      show wpL P (Instr.keyThatStays (((es[j]?).map (·.key)).getD (enc k)) (enc k) >>= _) _ I M
      rw [AE,hold]
      refine RZ ?_
      show wpL P (Sem.setObj r _ _) _ I M
      refine FZ n rfl hn rfl ?_
      refine ⟨undef,.inr ⟨rfl,rfl⟩,h _ _ ⟨?_,hbo.modify _ _ (fun _=>rfl)⟩⟩
      rw [h1]
      exact mapIs_set his j k v _ rfl)
end
end Go.Sl
namespace Go.Sh
open Go Go.Sl
def MapH (es:Array MapEntry) (cl:Nat) (H:Hs):Prop:=MapB MT es cl (intV H)∧(H.map Prod.fst).Nodup
def EntH (es:Array MapEntry) (cl:Nat) (H:Hs) (k:HKey) (st:Nat):Prop:=MapB MT es cl (ent k (.int .i64 0) (intV H))∧Stamp es (ent k (.int .i64 0) (intV H)) st k∧(H.map Prod.fst).Nodup
theorem MapH.nil (cl:Nat):MapH #[] cl []:=⟨MapB.nil _ _,by simp⟩
theorem putH_keys (k:HKey) (v:Int):∀ H:Hs,(KC k v H).map Prod.fst=if k∈H.map Prod.fst then H.map Prod.fst else H.map Prod.fst++[k]:=by
  intro H
  induction H with
  | nil=>rfl
  | cons x r ih=>
    simp only [KC]
    by_cases h:x.1=k
    · simp [h]
    · rw [if_neg h]
      simp only [List.map_cons,ih,List.mem_cons,Ne.symm h,false_or]
      split <;> simp
theorem putH_once {k:HKey} {v:Int} {H:Hs} (h:(H.map Prod.fst).Nodup):((KC k v H).map Prod.fst).Nodup:=by
  rw [putH_keys]
  split
  · exact h
  · rename_i hk
    exact List.nodup_append.2 ⟨h,by simp,fun a ha b hb=>by
      simp only [List.mem_singleton] at hb
      intro e;rw [e,hb] at ha;exact hk ha⟩
theorem getH_mem {H:Hs} (h:(H.map Prod.fst).Nodup) {x:HKey × Int} (hx:x∈H):DF x.1 H=x.2:=by
  induction H with
  | nil=>cases hx
  | cons y r ih=>
    rw [List.map_cons,List.nodup_cons] at h;simp only [DF];rcases List.mem_cons.1 hx with rfl | hx
    · rw [if_pos rfl]
    · rw [if_neg (fun e=>h.1 (by rw [e];exact List.mem_map_of_mem hx)),ih h.2 hx]
theorem mem_getH {H:Hs} {k:HKey} (h:DF k H≠0):(k,DF k H)∈H:=by
  induction H with
  | nil=>exact absurd rfl h
  | cons y r ih=>
    simp only [DF] at h ⊢
    by_cases e:y.1=k
    · rw [if_pos e];subst e;exact List.mem_cons_self
    · rw [if_neg e] at h ⊢;exact List.mem_cons_of_mem _ (ih h)
theorem falls_iff {h g:Hs} (hg:(g.map Prod.fst).Nodup):falls h g=true↔∃ k,DF k g<0∧0≤DF k h:=by
  unfold falls;simp only [List.any_eq_true,Bool.and_eq_true,decide_eq_true_eq]
  constructor
  · rintro ⟨x,hx,h1,h2⟩;exact ⟨x.1,by rw [getH_mem hg hx];exact h1,h2⟩
  · rintro ⟨k,h1,h2⟩;exact ⟨_,mem_getH (by omega),h1,h2⟩
def Negs (ks:List HKey) (H:Hs):Prop:=∀ k,k∈ks↔DF k H<0
end Go.Sh
namespace Go.Sl
open Go Go.Sh
section
variable {P:Program} [Jud P] {N:Nat} {ops:Array Oper} {i:Nat} {l:Sl} {I:Imm} {M:Seg} {ty:TypeId} {gd:Option (Nat × Bool)} {K:Sl→Imm→Seg→Prop} {d:Nat}
theorem stp_putH {x y u : Operand} {T kt et r cl : Nat} {es : Array MapEntry} {H : Hs} {k : HKey} {v : Int} (n : Nat) (hop : FF ops N i = some (none, .mapUpdate T x y u, ty, gd)) (hg : FA ops l gd = some true)
    (hT:SI P T=some (kt,et)) (hK:KeyOk P kt MT) (hx:BR l x=some (.map (some r))) (hy:BR l y=some (MT k)) (hu:BR l u=some (.int .i64 v)) (hn:M[n]?=some (r,Obj.map es cl)) (hb:MapH es cl H)
    (h:∀ es' cl',MapH es' cl' (KC k v H)→K l I (M.set n (r,Obj.map es' cl'))):Stp P N ops i l I M K:=
  NO n hop hg hT hK hx hy hu hn hb.1 fun es' cl' h'=>h es' cl' ⟨upd_intV k v H▸h',putH_once hb.2⟩
theorem JV {x y : Operand} {T kt et r cl : Nat} {es : Array MapEntry} {H : Hs} {k : HKey} (n : Nat) (hop : FF ops N i = some (some d, .mapEntry T x y, ty, gd)) (hg : FA ops l gd = some true)
    (hT:SI P T=some (kt,et)) (hK:KeyOk P kt MT) (hx:BR l x=some (.map (some r))) (hy:BR l y=some (MT k)) (hz:HG P et=some (.int .i64 0)) (hn:M[n]?=some (r,Obj.map es cl)) (hb:MapH es cl H)
    (h:∀ es' cl' (st:Nat),EntH es' cl' H k st→K ((d,.tuple #[.int .i64 (DF k H),.int .i64 (st:Int)])::l) I (M.set n (r,Obj.map es' cl'))):Stp P N ops i l I M K:=
  RV n hop hg hT hK hx hy hz hn hb.1 fun es' cl' st h1 h2=>by
    rw [BQ];exact h es' cl' st ⟨h1,h2,hb.2⟩
theorem IB {x y u : Operand} {T r cl st : Nat} {es : Array MapEntry} {H : Hs} {k : HKey} {v : Int} (n : Nat) (hop : FF ops N i = some (none, .entryStore T x y u, ty, gd)) (hg : FA ops l gd = some true)
    (hx:BR l x=some (.map (some r))) (hy:BR l y=some (.int .i64 (st:Int))) (hu:BR l u=some (.int .i64 v)) (hn:M[n]?=some (r,Obj.map es cl)) (hb:EntH es cl H k st)
    (h:∀ es',MapH es' cl (KC k v H)→K l I (M.set n (r,Obj.map es' cl))):Stp P N ops i l I M K:=
  NN (k:=k) n hop hg hx hy hu hn hb.1 hb.2.1 fun es' h'=>h es' ⟨by rw [upd_ent,upd_intV] at h';exact h',putH_once hb.2.2⟩
theorem map_cut {α β:Type} {f:α→β} {l:List α} {A B:List β} {y:β} (h:l.map f=A++y::B):∃ A' y' B',l=A'++y'::B'∧A=A'.map f∧y=f y'∧B=B'.map f:=by
  obtain ⟨A',R,rfl,h1,h2⟩:=List.map_eq_append_iff.1 h;obtain ⟨y',B',rfl,h3,h4⟩:=List.map_eq_cons_iff.1 h2;exact ⟨A',y',B',rfl,h1.symm,h3.symm,h4.symm⟩
theorem stp_nextH {x : Operand} {r cl b : Nat} {es : Array MapEntry} {seen : Array Nat} {todo : Hs} (n : Nat) (hop : FF ops N i = some (some d, .next x false, ty, gd)) (hg : FA ops l gd = some true)
    (hx:BR l x=some (.pointer (some ⟨b,0,none⟩))) (hn:M[n]?=some (b,Obj.mapIter (some r) cl seen cl)) (hm:Holds I M r (.map es cl)) (hb:Borns es cl) (hl:Left MT es seen (intV todo))
    (h0:todo=[]→K ((d,.tuple #[.bool false])::l) I M)
    (h1:∀ A (y:HKey × Int) B seen',todo=A++y::B→Left MT es seen' (intV (A++B))→AtEntry MT es seen' (y.1,.int .i64 y.2)→K ((d,.tuple #[.bool true,MT y.1,.int .i64 y.2])::l) I (M.set n (b,Obj.mapIter (some r) cl seen' cl))):Stp P N ops i l I M K:=
  stp_next n hop hg hx hn hm hb hl (fun h=>h0 (by simpa [intV] using h)) fun A y B seen' e hl' ha=>by
    obtain ⟨A',y',B',rfl,rfl,rfl,rfl⟩:=map_cut (show todo.map _=A++y::B from e);exact h1 A' y' B' seen' rfl (by simpa [intV] using hl') ha
theorem stp_nextK {x : Operand} {r cl b : Nat} {es : Array MapEntry} {seen : Array Nat} {todo : List HKey} (n : Nat) (hop : FF ops N i = some (some d, .next x false, ty, gd)) (hg : FA ops l gd = some true)
    (hx:BR l x=some (.pointer (some ⟨b,0,none⟩))) (hn:M[n]?=some (b,Obj.mapIter (some r) cl seen cl)) (hm:Holds I M r (.map es cl)) (hb:Borns es cl) (hl:Left MT es seen (NF todo))
    (h0:todo=[]→K ((d,.tuple #[.bool false])::l) I M)
    (h1:∀ A (y:HKey) B seen',todo=A++y::B→Left MT es seen' (NF (A++B))→AtEntry MT es seen' (y,.bool true)→K ((d,.tuple #[.bool true,MT y,.bool true])::l) I (M.set n (b,Obj.mapIter (some r) cl seen' cl))):Stp P N ops i l I M K:=
  stp_next n hop hg hx hn hm hb hl (fun h=>h0 (by simpa [NF] using h)) fun A y B seen' e hl' ha=>by
    obtain ⟨A',y',B',rfl,rfl,rfl,rfl⟩:=map_cut (show todo.map _=A++y::B from e);exact h1 A' y' B' seen' rfl (by simpa [NF] using hl') ha
theorem stp_setTrue {x y u : Operand} {T kt et r cl : Nat} {es : Array MapEntry} {ks : List HKey} {k : HKey} (n : Nat) (hop : FF ops N i = some (none, .mapUpdate T x y u, ty, gd)) (hg : FA ops l gd = some true)
    (hT:SI P T=some (kt,et)) (hK:KeyOk P kt MT) (hx:BR l x=some (.map (some r))) (hy:BR l y=some (MT k)) (hu:BR l u=some (.bool true)) (hn:M[n]?=some (r,Obj.map es cl)) (hb:MapB MT es cl (NF ks))
    (h:∀ es' cl',MapB MT es' cl' (NF (if k∈ks then ks else ks++[k]))→K l I (M.set n (r,Obj.map es' cl'))):Stp P N ops i l I M K:=
  NO n hop hg hT hK hx hy hu hn hb fun es' cl' h'=>h es' cl' (by rw [upd_trues] at h';exact h')
end
end Go.Sl
namespace Go.Sh
open Go Go.Sl
def IsBook (T:TypeId) (I:Imm) (b:Nat) (v1 v2 v3:Value) (r:Nat) (L:Lin):Prop:=
  I.blk b=some (Obj.cells #[.int .i64 L.places,.int .i64 L.sorts,v1,v2,v3,.map (some r)] T (0,0))∧IsRows I v1 L.start∧FR I v2 L.keeps∧GZ I v3 L.slips
theorem IsBook.mono {T:TypeId} {I J:Imm} {b:Nat} {v1 v2 v3:Value} {r:Nat} {L:Lin} (h:IsBook T I b v1 v2 v3 r L) (le:I.le J):IsBook T J b v1 v2 v3 r L:=
  ⟨le.blk _ _ h.1,h.2.1.mono le,h.2.2.1.mono le,h.2.2.2.mono le⟩
def NegP (ks:List HKey) (dn:Hs):Prop:=∀ k,k∈ks↔∃ x∈dn,x.1=k∧x.2<0
section
variable {ks:List HKey} {dn A B todo H:Hs} {y:HKey × Int}
theorem NegP.nil:NegP [] []:=fun k=>by simp
theorem NegP.skip (h:NegP ks dn) (hy:¬ y.2<0):NegP ks (dn++[y]):=fun k=>by
  rw [h k]
  constructor
  · rintro ⟨x,hx,h1⟩;exact ⟨x,by simp [hx],h1⟩
  · rintro ⟨x,hx,h1,h2⟩
    rcases List.mem_append.1 hx with hx | hx
    · exact ⟨x,hx,h1,h2⟩
    · simp only [List.mem_singleton] at hx;subst hx;exact absurd h2 hy
theorem NegP.add (h:NegP ks dn) (hy:y.2<0):NegP (if y.1∈ks then ks else ks++[y.1]) (dn++[y]):=fun k=>by
  have e:k∈(if y.1∈ks then ks else ks++[y.1])↔k∈ks∨k=y.1:=by
    split
    · rename_i hk;exact ⟨.inl,fun q=>q.elim id (fun e=>e▸hk)⟩
    · simp
  rw [e,h k]
  constructor
  · rintro (⟨x,hx,h1⟩ | rfl)
    · exact ⟨x,by simp [hx],h1⟩
    · exact ⟨y,by simp,rfl,hy⟩
  · rintro ⟨x,hx,h1,h2⟩
    rcases List.mem_append.1 hx with hx | hx
    · exact .inl ⟨x,hx,h1,h2⟩
    · simp only [List.mem_singleton] at hx;subst hx;exact .inr h1.symm
theorem perm_took (h:(dn++todo).Perm H) (e:todo=A++y::B):((dn++[y])++(A++B)).Perm H:=by
  subst e;refine List.Perm.trans ?_ h;rw [List.append_assoc];exact List.Perm.append_left _ (List.perm_middle (l₁:=A)).symm
theorem took_len (e:todo=A++y::B):(A++B).length<todo.length:=by subst e;simp
theorem NegP.done (h:NegP ks dn) (hp:(dn++todo).Perm H) (he:todo=[]) (hn:(H.map Prod.fst).Nodup):Negs ks H:=fun k=>by
  subst he;rw [List.append_nil] at hp;rw [h k]
  constructor
  · rintro ⟨x,hx,rfl,h2⟩;rw [getH_mem hn (hp.mem_iff.1 hx)];exact h2
  · intro hk;exact ⟨_,hp.mem_iff.2 (mem_getH (by omega)),rfl,hk⟩
end
end Go.Sh
namespace Go.Sl
open Go
def IterP {α:Type} (P:Program) (gf:FuncId) (cv:List Value) (enc:α→List Value) (seq:List α) (R:List α→Imm→Seg→Prop) (I0:Imm):Prop:=
  ∀ [Jud P] (L:Nat) (Cl Sp:List α→Imm→Seg→Prop),(∀ xs I J M,I.le J→Cl xs I M→Cl xs J M) →
    (∀ xs x I Mr M,(xs++[x]) <+: seq→I0.le I→R (xs++[x]) I Mr→Cl xs I M→Yt P L (enc x).toArray I (Mr++M) (fun v I' M'=>(v=.bool true∧∃ Mr' M2,M'=Mr'++M2∧R (xs++[x]) I' Mr'∧Cl (xs++[x]) I' M2)∨(v=.bool false∧Sp (xs++[x]) I' M'))) →
    ∀ I Mr M,I0.le I→R [] I Mr→Cl [] I M→CtA P gf (.func (.yield L) #[] #[]::cv).toArray I (Mr++M) (fun _ I' M'=>(∃ Mr' M2,M'=Mr'++M2∧R seq I' Mr'∧Cl seq I' M2)∨(∃ xs,Sp xs I' M'))
section
variable {ρ:Option Nat} {P:Program} [Jud P] {N:Nat} {ops:Array Oper} {i:Nat} {l:Sl} {I:Imm} {R M:Seg} {ty:TypeId} {gd:Option (Nat × Bool)} {K:Sl→Imm→Seg→Prop} {Q:Exit→Act→GW→Prop} {ds:List Deferred}
theorem GH {α : Type} {c : Code} {g : Operand} {ps : Array Tmp} {assign body : Code} {gf : FuncId} {cv : List Value} {enc : α → List Value} {seq : List α} {R : List α → Imm → Seg → Prop} {Mr M0 F0 : Seg}
    (Cl:List α→Imm→Seg→Prop) (Sp:Code→List α→Imm→Seg→Prop) (sl:α→Nat→Sl) (mm:α→Nat→Seg)
    (hc:c=.rangeFunc g ps assign body) (hg:BR l g=some (.func (.func gf) #[] cv.toArray)) (hcall:CT P gf=true) (hps:∀ x,(enc x).length=ps.size) (hpN:ps.all (fun t=>Nat.blt t N)=true)
    (it:IterP P gf cv enc seq R I)
    (hmono:∀ xs I J M,I.le J→Cl xs I M→Cl xs J M)
    (hM:M.Perm (Mr++(M0++F0))) (hr:R [] I Mr) (h0:Cl [] I M0)
    (hassign:∀ L x I1 M1,Run (ρ:=some L) P N assign (Exit.then (fun a w=>∃ k,Slots N (sl x k) a∧a.defers=[]∧St I1 (mm x k++M1) w) (fun _ _ _=>False)) [] (putAll (ps.toList.zip (enc x)) l) I1 M1)
    (hbody:∀ L x k xs I1 Mr1 M1 F1,(xs++[x]) <+: seq→I.le I1→R (xs++[x]) I1 Mr1→Cl xs I1 M1 →
      Run (ρ:=some L) P N body (RoundQ I1 (fun o I' M'=>match o with | none=>∃ Mr' M2,M'=Mr'++M2∧R (xs++[x]) I' Mr'∧Cl (xs++[x]) I' M2 | some c=>Sp c (xs++[x]) I' M') F1) [] (sl x k) I1 (mm x k++(Mr1++(M1++F1))))
    (hdone:∀ D I' Mr' M',I.le I'→R seq I' Mr'→Cl seq I' M'→Pst N Q .normal (mark D::ds) l I' ((D,.deferred (some []))::(Mr'++(M'++F0))))
    (hstop:∀ D c xs I' M',I.le I'→Sp c xs I' M'→Run (ρ:=none) P N c Q (mark D::ds) l I' ((D,.deferred (some []))::(M'++F0))) :
    Run (ρ:=none) P N c Q ds l I M:=by
  subst hc;intro a w hS hD hW;refine PL (LY hS hg) (fun args σ K hk=>KR hcall args σ K hk) fun fn=>?_
  have hent:wpL P (Instr.enterLoop fn a.tmps ps assign body none) (fun lm M'=>∃ D L,lm=(L,[mark D])∧M'=(L,.loop { state:=.ready,pending:=none,fn,tmps:=a.tmps,params:=ps,assign,body,defers:=D })::(D,.deferred (some []))::(Mr++(M0++F0))) I (Mr++(M0++F0)):=
    fun D L=>⟨D,L,rfl,rfl⟩
  refine (IC _ _ I _ w hent (hW.perm hM)).mono ?_
  rintro lm w1 ⟨M',⟨D,L,rfl,rfl⟩,hW2⟩
  obtain ⟨rec,hrec⟩:∃ rec:LoopState→Option Code→Loop,rec=fun st pe=>{ state:=st,pending:=pe,fn,tmps:=a.tmps,params:=ps,assign,body,defers:=D }:=⟨_,rfl⟩
  have hst:∀ st pe,(rec st pe).state=st:=by rw [hrec];intros;rfl
  have hpe:∀ st pe,(rec st pe).pending=pe:=by rw [hrec];intros;rfl
  have hset:∀ st pe st',{ rec st pe with state:=st' }=rec st' pe:=by rw [hrec];intros;rfl
  have hset2:∀ st pe st' pe',{ rec st pe with state:=st',pending:=pe' }=rec st' pe':=by rw [hrec];intros;rfl
  replace hW2:St I ((L,.loop (rec .ready none))::(D,.deferred (some []))::(Mr++(M0++F0))) w1:=by rw [hrec];exact hW2
  have hit:=it L (fun xs I M=>∃ M0,M=(L,.loop (rec .ready none))::(D,.deferred (some []))::M0∧Cl xs I M0)
    (fun xs I M=>∃ c M0,M=(L,.loop (rec .done (some c)))::(D,.deferred (some []))::M0∧Sp c xs I M0)
    (fun xs I J M le ⟨M0,e,h⟩=>⟨M0,e,hmono xs I J M0 le h⟩) ?_ I Mr ((L,.loop (rec .ready none))::(D,.deferred (some []))::M0) (Imm.le.refl I) hr ⟨M0,rfl,h0⟩
  · have e1:(#[Value.func (.yield L) #[] #[]]++cv.toArray)=(.func (.yield L) #[] #[]::cv).toArray:=by simp
    show Calls P gf (#[Value.func (.yield L) #[] #[]]++cv.toArray) w1 _;rw [e1];refine (hit F0 w1 (hW2.perm ?_)).mono ?_
    · rw [List.append_assoc]
      exact ((List.perm_middle (l₁:=Mr)).trans (.cons _ (List.perm_middle (l₁:=Mr)))).symm
    · rintro v w' ⟨I',M',hle,hp,st⟩
      rcases hp with ⟨Mr',M2,rfl,hR,M3,rfl,hcl⟩ | ⟨xs,c,M3,rfl,hsp⟩
      · have st2 := st.perm (show ((Mr' ++ ((L, Obj.loop (rec .ready none)) :: (D, .deferred (some [])) :: M3)) ++ F0).Perm ((L, Obj.loop (rec .ready none)) :: (D, .deferred (some [])) :: (Mr' ++ (M3 ++ F0))) by
          rw [List.append_assoc]
          exact (List.perm_middle (l₁:=Mr')).trans (.cons _ (List.perm_middle (l₁:=Mr'))))
        refine (IC _ (fun jump M''=>jump=none∧∃ o,M''=(L,o)::(D,.deferred (some []))::(Mr'++(M3++F0))) I' _ w' (LO (by rw [hst];simp) ⟨hpe _ _,_,rfl⟩) st2).mono ?_
        rintro jump w3 ⟨M'',⟨rfl,o,rfl⟩,st3⟩
        exact hdone D I' Mr' M3 hle hR hcl _ _ ⟨hS.size,hS.get⟩ (by show [mark D]++a.defers=_;rw [hD];rfl) st3.drop
      · refine (IC _ (fun jump M''=>jump=some c∧∃ o,M''=(L,o)::(D,.deferred (some []))::(M3++F0)) I' _ w' (LO (by rw [hst];simp) ⟨hpe _ _,_,rfl⟩) st).mono ?_
        rintro jump w3 ⟨M'',⟨rfl,o,rfl⟩,st3⟩
        exact hstop D c xs I' M3 hle hsp _ _ ⟨hS.size,hS.get⟩ (by show [mark D]++a.defers=_;rw [hD];rfl) st3.drop
  · rintro xs x I1 Mr1 M1' hpre hle hR ⟨M1,rfl,hcl⟩ F1 w2 st
    have hfold:((ps.zip (enc x).toArray).foldl (fun tmps (t,a)=>tmps.setIfInBounds t a) a.tmps)=(ps.toList.zip (enc x)).foldl (fun t (x:Tmp × Value)=>t.setIfInBounds x.1 x.2) a.tmps:=by
      rw [← Array.foldl_toList];simp
    refine (IC _ (fun n M''=>n=.round L fn ((ps.toList.zip (enc x)).foldl (fun t (x:Tmp × Value)=>t.setIfInBounds x.1 x.2) a.tmps) assign body∧M''=_) I1 _ w2 (wpL_yield (r:=rec .ready none) (by simp) (by rw [hrec];simpa using hps x) ⟨by rw [← hfold,hrec],rfl⟩) st).mono ?_
    rintro n w2' ⟨M'',⟨rfl,rfl⟩,st⟩
    refine ⟨_,_,assign,body,rfl,RS ?_⟩;refine NC (hassign L x I1 _ _ w2' (slots_fold (ps.toList.zip (enc x)) l a.tmps ⟨hS.size,hS.get⟩ ?_) rfl st) ?_
    · intro y hy'
      have:=(List.of_mem_zip (show (y.1,y.2)∈ps.toList.zip (enc x) from hy')).1;have h3:=Array.all_eq_true'.1 hpN y.1 (by simpa using this);exact Nat.le_of_ble_eq_true h3
    · rintro e a1 w3 hq
      cases e with
      | normal=>
        obtain ⟨k,hS3,hD3,st3⟩:=hq;have st4:St I1 ((L,.loop (rec .ready none))::(mm x k++(Mr1++(M1++((D,.deferred (some []))::F1))))) w3:=st3.perm ((List.Perm.append_left (mm x k) perm3).trans List.perm_middle);refine (IC _ (fun _ M''=>M''=(L,.loop (rec .busy none))::(mm x k++(Mr1++(M1++((D,.deferred (some []))::F1))))) I1 _ w3 (NP (hst _ _) (by rw [hset])) st4).mono ?_
        rintro _ w4 ⟨M'',rfl,st4'⟩
        have st5:St I1 (mm x k++(Mr1++(M1++((L,.loop (rec .busy none))::(D,.deferred (some []))::F1)))) w4:=by
          refine st4'.perm ?_;refine (List.perm_middle (l₁:=mm x k)).symm.trans (List.Perm.append_left (mm x k) ?_);have:=(perm3 (A:=Mr1) (B:=M1) (C:=F1) (x:=(L,Obj.loop (rec .busy none))) (y:=(D,Obj.deferred (some [])))).symm;refine this.trans ?_;rw [List.append_assoc];refine List.Perm.append_left Mr1 ?_;show ((L,Obj.loop (rec .busy none))::(D,.deferred (some []))::(M1++F1)).Perm _;exact ((List.perm_middle (l₁:=M1)).trans (.cons _ (List.perm_middle (l₁:=M1)))).symm
        refine NC (hbody L x k xs I1 Mr1 M1 _ hpre hle hR hcl a1 _ hS3 hD3 st5) ?_
        have fin : ∀ (jump : Option Code) (I' : Imm) (M' : Seg) (w6 : GW), St I' (M' ++ ((L, .loop (rec .busy none)) :: (D, .deferred (some [])) :: F1)) w6 →
            SemTo P (Instr.endRound L jump) w6 fun v w7=>v=.bool jump.isNone∧St I' ((L,.loop (rec (if jump.isNone then .ready else .done) jump))::(M'++((D,.deferred (some []))::F1))) w7:=fun jump I' M' w6 st6=>by
          refine (IC _ (fun v M''=>v=.bool jump.isNone∧M''=(L,.loop (rec (if jump.isNone then .ready else .done) jump))::(M'++((D,.deferred (some []))::F1))) I' _ w6 (RY jump ⟨rfl,by rw [hset2]⟩) (st6.perm perm4)).mono ?_
          rintro v w7 ⟨M'',⟨h1,rfl⟩,st7⟩
          exact ⟨h1,st7⟩
        rintro e a6 w6 hq6
        have stop : ∀ (c : Code), (∃ I' M', I1.le I' ∧ Sp c (xs ++ [x]) I' M' ∧ St I' (M' ++ ((L, .loop (rec .busy none)) :: (D, .deferred (some [])) :: F1)) w6) →
            SemTo P (Instr.endRound L (some c)) w6 (RQ I1 (fun v I' M'=>(v=.bool true∧∃ Mr' M2,M'=Mr'++M2∧R (xs++[x]) I' Mr'∧∃ M0,M2=(L,.loop (rec .ready none))::(D,.deferred (some []))::M0∧Cl (xs++[x]) I' M0) ∨
              (v=.bool false∧∃ c M0,M'=(L,.loop (rec .done (some c)))::(D,.deferred (some []))::M0∧Sp c (xs++[x]) I' M0)) F1):=by
          rintro c ⟨I',M',hle',hp,st6⟩
          refine (fin (some c) I' M' w6 st6).mono ?_
          rintro v w7 ⟨rfl,h2⟩
          exact ⟨I',_,hle',.inr ⟨rfl,c,M',rfl,hp⟩,h2.perm (.cons _ List.perm_middle)⟩
        cases e with
        | normal=>
          obtain ⟨I',M',hle',⟨Mr',M2,rfl,hR',hcl'⟩,st6⟩:=hq6;refine (fin none I' _ w6 st6).mono ?_
          rintro v w7 ⟨rfl,h2⟩
          refine ⟨I',_,hle',.inl ⟨rfl,Mr',_,rfl,hR',M2,rfl,hcl'⟩,h2.perm ?_⟩;rw [List.append_assoc];exact perm3.symm
        | ret=>exact stop .ret hq6
        | exit id=>exact stop (.exit id) hq6
        | goto t=>exact stop (.goto t) hq6
        | panic ch=>exact hq6.elim
        | outgrown=>exact hq6.elim
      | exit id=>exact hq.elim
      | goto t=>exact hq.elim
      | ret=>exact hq.elim
      | panic ch=>exact hq.elim
      | outgrown=>exact hq.elim
end
section
variable {P:Program} [Jud P] {N:Nat} {ops:Array Oper} {i:Nat} {l:Sl} {I:Imm} {M:Seg} {ty:TypeId} {gd:Option (Nat × Bool)} {K:Sl→Imm→Seg→Prop}
theorem call_toB {P : Program} {f : Operand} {fid : FuncId} {args : Array Operand} {tys : Array TypeId} {fs vals cv : List Value} {ρ : Operand → Value} {w : GW} {Q : Next → GW → Prop} (hf : ρ f = .func (.func fid) fs.toArray cv.toArray) (hvals : args.toList.map ρ = vals) (hc : CT P fid = true)
    (hk:Q (.enter fid (fs++vals++cv).toArray) w):SemTo P (IF ρ (.call { callee:=.value f,args,argTypes:=tys }) ty) w Q:=by
  have e:args.map ρ=vals.toArray:=by apply Array.ext';simp [hvals]
  show SemTo P (do let d ← resolve ρ { callee:=.value f,args,argTypes:=tys } ty;invoke d.target d.args:Sem Next) w Q;unfold resolve;simp only [e,hf,Deferred.ofValue];show SemTo P (callFunc fid ((fs.toArray++vals.toArray)++cv.toArray)) w Q;refine KR hc _ _ _ ?_
  simpa using hk
theorem stp_callB {d : Option Tmp} {f : Operand} {fid : FuncId} {args : Array Operand} {tys : Array TypeId} {fs vals cv : List Value} {pre F : Seg} {post : Value → Imm → Seg → Prop} {argv : Array Value}
    (hop:FF ops N i=some (d,.call { callee:=.value f,args,argTypes:=tys },ty,gd)) (hg:FA ops l gd=some true) (hf:BR l f=some (.func (.func fid) fs.toArray cv.toArray)) (hv:OA l args.toList=some vals)
    (hc:CT P fid=true) (ha:(fs++vals++cv).toArray=argv) (ct:Ct P fid argv I pre post) (hM:M.Perm (pre++F))
    (h:∀ v I' M',I.le I'→post v I' M'→K (ups d v l) I' (M'++F)):Stp P N ops i l I M K:=by
  obtain ⟨o,ho,rfl,he,rfl,rfl,hN,hs⟩:=FI hop;obtain ⟨h1,h2⟩:=HQ hv;refine ⟨o,ho,hN,hs,hg,?_,fun w st=>?_⟩
  · rw [he]
    intro x hx;simp only [Op.operands,Call.operands] at hx;rcases Array.mem_append.1 hx with hx | hx
    · simp at hx;subst hx;exact EK hf
    · exact h1 x (by simpa using hx)
  · rw [FH,he]
    refine call_toB (BB hf) h2 hc ?_;rw [ha];exact (ct.all F w (st.perm hM)).mono fun v w' ⟨I',M',hle,hp,st'⟩=>⟨I',M'++F,hle,st',h v I' M' hle hp⟩
end
end Go.Sl
namespace Go.Sh
open Go Go.Sl
def doFn (g:Int→FuncId) (b:Nat) (k:Int):Value:=.func (.func (g k)) #[.pointer (some ⟨b,0,none⟩)] #[]
def fnTab (g:Int→FuncId) (b:Nat):List (Int × Value):=[(1,doFn g b 1),(2,doFn g b 2),(3,doFn g b 3),(4,doFn g b 4),(5,doFn g b 5),(6,doFn g b 6)]
theorem getKv_fn {g:Int→FuncId} {b:Nat} {k:Int} (h1:1≤k) (h2:k≤6):(KW k (fnTab g b)).getD .nilFunc=doFn g b k:=by
  have:k=1∨k=2∨k=3∨k=4∨k=5∨k=6:=by omega
  rcases this with rfl | rfl | rfl | rfl | rfl | rfl <;> rfl
section
variable {s:Slip} {H:Hs}
theorem doSlip_1 (e:s.kind=1):doSlip s H=PP ⟨s.to,s.sort,s.soil⟩ s.amt (PP ⟨s.place,s.sort,s.soil⟩ (-s.amt) H):=by unfold doSlip;rw [if_pos e]
theorem doSlip_2 (e:s.kind=2):doSlip s H=PP ⟨s.place,s.sort,true⟩ s.amt (PP ⟨s.place,s.sort,false⟩ (-s.amt) H):=by unfold doSlip;rw [if_neg (by omega),if_pos e]
theorem doSlip_3 (e:s.kind=3):doSlip s H=PP ⟨s.place,s.sort,false⟩ s.amt (PP ⟨s.place,s.sort,true⟩ (-s.amt) H):=by unfold doSlip;rw [if_neg (by omega),if_neg (by omega),if_pos e]
theorem doSlip_4 (e:s.kind=4):doSlip s H=KC ⟨s.place,s.sort,s.soil⟩ s.amt H:=by unfold doSlip;rw [if_neg (by omega),if_neg (by omega),if_neg (by omega),if_pos e];rfl
theorem doSlip_5 (e:s.kind=5):doSlip s H=PP ⟨s.place,s.sort,false⟩ s.amt H:=by unfold doSlip;rw [if_neg (by omega),if_neg (by omega),if_neg (by omega),if_neg (by omega),if_pos e]
theorem doSlip_6 (e:s.kind=6):doSlip s H=PP ⟨s.place,s.sort,true⟩ (-s.amt) H:=by unfold doSlip;rw [if_neg (by omega),if_neg (by omega),if_neg (by omega),if_neg (by omega),if_neg (by omega)]
end
structure GoodS (l:List Slip):Prop where
  len:l.length<20
  ok:∀ s∈l,(1≤s.kind∧s.kind≤6)∧(0≤s.amt∧s.amt≤50)∧RG s
theorem GoodS.sub {l l':List Slip} (h:GoodS l) (hl:l'.length≤l.length) (hm:∀ x∈l',x∈l):GoodS l':=⟨Nat.lt_of_le_of_lt hl h.len,fun s hs=>h.ok s (hm s hs)⟩
theorem GoodS.perm {l l':List Slip} (h:GoodS l) (p:l'.Perm l):GoodS l':=h.sub (Nat.le_of_eq p.length_eq) fun x hx=>p.subset hx
theorem GoodS.sorted {l:List Slip} (h:GoodS l):GoodS (AG AC l):=h.perm (CH l)
theorem GoodS.small {l:List Slip} (h:GoodS l):∀ x∈l,RG x:=fun x hx=>(h.ok x hx).2.2
section
variable {S:List Slip} {H:Hs} {k:Nat}
theorem FU:∀ {S:List Slip} {H:Hs},(evs H S).length=S.length:=by
  intro S
  induction S with
  | nil=>intro H;rfl
  | cons s r ih=>intro H;simp only [evs,List.length_cons,ih]
theorem evs_take:∀ {S:List Slip} {H:Hs} {k:Nat},k<S.length→(evs H S).take (k+1)=(evs H S).take k++[evOf (aft H (S.take k)) (S.getD k AB)]:=by
  intro S
  induction S with
  | nil=>intro H k h;simp at h
  | cons s r ih=>
    intro H k h;cases k with
    | zero=>rfl
    | succ k=>
      have:=ih (H:=doSlip s H) (k:=k) (by simpa using h);simp only [evs,List.take_succ_cons,this,List.cons_append];rfl
theorem aft_take (h:k<S.length):aft H (S.take (k+1))=doSlip (S.getD k AB) (aft H (S.take k)):=by
  rw [BT (d:=AB) h];unfold aft;rw [List.foldl_append];rfl
theorem aft_within {B:Int} (hB:0≤B) (hg:∀ s∈S,0≤s.amt∧s.amt≤50):∀ {H:Hs},Within B H→Within (B+100*S.length) (aft H S):=by
  induction S generalizing B with
  | nil=>intro H h;simpa [aft] using h
  | cons s r ih=>
    intro H h;have h1:=hg s (by simp);have:=ih (B:=B+100) (by omega) (fun x hx=>hg x (by simp [hx])) (h.doSlip h1.1 h1.2 hB);rw [show B+100*((s::r).length:Int)=B+100+100*(r.length:Int) by rw [List.length_cons];omega];exact this
theorem Within.mono {B B':Int} {H:Hs} (h:Within B H) (hb:B≤B'):Within B' H:=fun k=>by have:=h k;omega
theorem GoodS.within (hg:GoodS S) (h:Within 1000 H) (k:Nat):Within 100000 (aft H (S.take k)):=by
  have hl:=hg.len;refine (aft_within (by omega) (fun s hs=>(hg.ok s (List.mem_of_mem_take hs)).2.1) h).mono ?_;have:(S.take k).length≤S.length:=by rw [List.length_take];omega
  omega
end
theorem below_of {ks0 ks1:List HKey} {h g:Hs} {dn td:List HKey} (h0:Negs ks0 h) (h1:Negs ks1 g) (hp:(dn++td).Perm ks1) (ht:td=[]) (hn:(g.map Prod.fst).Nodup):(dn.any fun k=>!decide (k∈ks0))=falls h g:=by
  subst ht;rw [List.append_nil] at hp;rw [Bool.eq_iff_iff,falls_iff hn];simp only [List.any_eq_true,Bool.not_eq_true',decide_eq_false_iff_not]
  constructor
  · rintro ⟨k,hk,hk2⟩
    exact ⟨k,(h1 k).1 (hp.mem_iff.1 hk),Int.not_lt.1 fun hlt=>hk2 ((h0 k).2 hlt)⟩
  · rintro ⟨k,hk,hk2⟩
    exact ⟨k,hp.mem_iff.2 ((h1 k).2 hk),fun hm=>by have:=(h0 k).1 hm;omega⟩
theorem any_snoc {α:Type} {p:α→Bool} {l:List α} {x:α}:(l++[x]).any p=(l.any p||p x):=by simp
def EvR (r:Nat) (H:Hs) (S:List Slip) (n:Nat) (M:Seg):Prop:=∃ es cl,M=[(r,Obj.map es cl)]∧MapH es cl (aft H (S.take n))
def encEv (e:Event):List Value:=[.agg #[.int .i64 e.slip.num,.int .i64 e.slip.hour,.int .i64 e.slip.kind,.int .i64 e.slip.place,.int .i64 e.slip.to,.int .i64 e.slip.sort,.bool e.slip.soil,.int .i64 e.slip.amt,.int .i64 e.gap,.bool e.below]]
theorem evOf_mk {h:Hs} {s:Slip} {g:Int} {b:Bool} (h1:(evOf h s).gap=g) (h2:falls h (doSlip s h)=b):evOf h s=⟨s,g,b⟩:=by subst h1;subst h2;rfl
theorem gap_t {h:Hs} {s:Slip} (e:s.kind=4):(evOf h s).gap=s.amt-DF ⟨s.place,s.sort,s.soil⟩ h:=if_pos e
theorem gap_f {h:Hs} {s:Slip} (e:¬ s.kind=4):(evOf h s).gap=0:=if_neg e
theorem QP {α:Type} {dn todo A B H:List α} {y:α} (h:(dn++todo).Perm H) (e:todo=A++y::B):((dn++[y])++(A++B)).Perm H:=by
  subst e;refine List.Perm.trans ?_ h;rw [List.append_assoc];exact List.Perm.append_left _ (List.perm_middle (l₁:=A)).symm
theorem tookK_len {α:Type} {todo A B:List α} {y:α} (e:todo=A++y::B):(A++B).length<todo.length:=by subst e;simp
theorem fnTab_of {g:Int→FuncId} {b:Nat} {es:Array MapEntry} (h:MapIs encI es (upd (6:Int) (doFn g b 6) (upd (5:Int) (doFn g b 5) (upd (4:Int) (doFn g b 4) (upd (3:Int) (doFn g b 3) (upd (2:Int) (doFn g b 2) (upd (1:Int) (doFn g b 1) []))))))):MapIs encI es (fnTab g b):=by
  have e:(upd (6:Int) (doFn g b 6) (upd (5:Int) (doFn g b 5) (upd (4:Int) (doFn g b 4) (upd (3:Int) (doFn g b 3) (upd (2:Int) (doFn g b 2) (upd (1:Int) (doFn g b 1) []))))))=fnTab g b:=by simp [upd,fnTab]
  rw [e] at h;exact h
section
variable {α:Type} {p:α→Bool} {xs zs:List α} {i j:Nat} {d:α}
theorem idxF_ge:-1≤KX p xs:=by unfold KX;cases xs.findIdx? p <;> simp <;> omega
theorem filter_noneD (h:KX p xs=-1):xs.filter (fun x=>!p x)=xs:=by
  have:=idxF_neg (p:=p) (l:=xs) (by omega);rw [List.any_eq_false] at this;exact List.filter_eq_self.2 fun x hx=>by simpa using this x hx
def DelI (p:α→Bool) (xs zs:List α) (i j:Nat):Prop:=zs.length=xs.length∧i<j∧j≤xs.length∧zs.take i=(xs.take j).filter (fun x=>!p x)∧zs.drop j=xs.drop j
theorem DelI.start (hi:i<xs.length) (hp:p (xs.getD i d)=true) (hb:∀ j,j<i→p (xs.getD j d)=false):DelI p xs xs i (i+1):=by
  refine ⟨rfl,by omega,hi,?_,rfl⟩;rw [BT (d:=d) hi,List.filter_append];have h1:(xs.take i).filter (fun x=>!p x)=xs.take i:=List.filter_eq_self.2 fun x hx=>by
    obtain ⟨q,hq,rfl⟩:=List.mem_iff_getElem.1 hx;rw [List.length_take] at hq;have:=hb q (by omega);simp only [List.getElem_take]
    simpa [List.getD,show q<xs.length by omega] using this
  rw [h1];simp only [List.filter_cons,hp,List.filter_nil];simp
theorem DelI.at_j (h:DelI p xs zs i j) (hj:j<xs.length):zs.getD j d=xs.getD j d:=by
  obtain ⟨h1,h2,h3,h4,h5⟩:=h;have e:(zs.drop j)[0]?=(xs.drop j)[0]?:=by rw [h5]
  simp only [List.getElem?_drop,Nat.add_zero] at e;rw [List.getD_eq_getElem?_getD,List.getD_eq_getElem?_getD,e]
theorem drop_next (h:zs.drop j=xs.drop j):zs.drop (j+1)=xs.drop (j+1):=by
  rw [← List.drop_drop,← List.drop_drop,h]
theorem DelI.skip (h:DelI p xs zs i j) (hj:j<xs.length) (hp:p (zs.getD j d)=true):DelI p xs zs i (j+1):=by
  rw [h.at_j hj] at hp;obtain ⟨h1,h2,h3,h4,h5⟩:=h;refine ⟨h1,by omega,hj,?_,drop_next h5⟩;rw [BT (d:=d) hj,List.filter_append,← h4];simp only [List.filter_cons,hp,List.filter_nil];simp
theorem DelI.keep (h:DelI p xs zs i j) (hj:j<xs.length) (hp:p (zs.getD j d)=false):DelI p xs (zs.set i (zs.getD j d)) (i+1) (j+1):=by
  rw [h.at_j hj] at hp ⊢;obtain ⟨h1,h2,h3,h4,h5⟩:=h;refine ⟨by rw [List.length_set,h1],by omega,hj,?_,?_⟩
  · rw [BT (d:=d) hj,List.filter_append,← h4,BT (d:=d) (by rw [List.length_set];omega)]
    simp only [List.filter_cons,hp,List.filter_nil];have e1:(zs.set i (xs.getD j d)).take i=zs.take i:=by rw [List.take_set_of_le (Nat.le_refl _)]
    have e2:(zs.set i (xs.getD j d)).getD i d=xs.getD j d:=by rw [List.getD_eq_getElem?_getD,List.getElem?_set_self (by omega)];rfl
    rw [e1,e2];simp
  · rw [List.drop_set_of_lt (by omega)];exact drop_next h5
theorem DelI.done (h:DelI p xs zs i j) (hj:j=xs.length):zs.take i=xs.filter (fun x=>!p x):=by
  obtain ⟨h1,h2,h3,h4,h5⟩:=h;rw [h4,hj,List.take_length]
end
def FD (L:Lin) (h:Int):List Slip:=L.slips.filter fun x=>!decide (h<x.hour)
def atL (L:Lin) (h:Int):Lin:=⟨L.places,L.sorts,L.start,L.keeps,FD L h⟩
def atH (L:Lin) (h:Int):Hs:=aft (EA L) (AG AC (FD L h))
theorem GoodS.to {L:Lin} (hg:GoodS L.slips) (h:Int):GoodS (atL L h).slips:=hg.sub (List.length_filter_le _ _) fun x hx=>(List.mem_filter.1 hx).1
theorem EvR.full {r:Nat} {H:Hs} {S:List Slip} {M:Seg} {n:Nat} (h:EvR r H S n M) (hn:n=S.length):∃ es cl,M=[(r,Obj.map es cl)]∧MapH es cl (aft H S):=by
  obtain ⟨es,cl,h1,h2⟩:=h;rw [hn,List.take_length] at h2;exact ⟨es,cl,h1,h2⟩
structure GoodL (L:Lin):Prop where
  places:1≤L.places∧L.places≤4
  sorts:1≤L.sorts∧L.sorts≤2
  start:(L.start.length:Int)=L.places
  rows:∀ r∈L.start,(r.length:Int)=L.sorts
  nums:∀ r∈L.start,∀ n∈r,0≤n∧n≤50
  keeps:L.keeps.length≤4
  keep:∀ k,k<L.keeps.length→FO L k=0
  slips:L.slips.length≤8
  slip:∀ k,k<L.slips.length→DC L k=0
theorem all_of {α:Type} {p:α→Bool} {l:List α} (h:¬ l.all p=false):∀ x∈l,p x=true:=List.all_eq_true.1 (by simpa using h)
theorem II {L:Lin} (h:AJ L=0):GoodL L:=by
  unfold AJ at h
  split at h;· omega
  rename_i h1
  split at h;· omega
  rename_i h2
  split at h;· omega
  rename_i h3
  split at h;· omega
  rename_i h4
  split at h;· omega
  rename_i h5
  have h3:DK L=0:=Decidable.not_not.1 h3;have h4:DX L=0:=Decidable.not_not.1 h4;unfold DK at h3
  split at h3;· omega
  rename_i a1
  split at h3;· omega
  rename_i a2
  split at h3;· omega
  rename_i a3
  unfold DX at h4
  split at h4;· omega
  rename_i b1
  refine ⟨FN (by simpa using h1),FN (by simpa using h2),Decidable.not_not.1 a1,fun r hr=>of_decide_eq_true (all_of a2 r hr),fun r hr n hn=>FN (all_of a3 n (List.mem_flatten.2 ⟨r,hr,hn⟩)),by omega,firstE_zero.1 h4,by omega,firstE_zero.1 h⟩
theorem QT {L:Lin} {s:Slip} (h:EC L s=0):(1≤s.num∧s.num≤999)∧(0≤s.hour∧s.hour≤200)∧(1≤s.kind∧s.kind≤6)∧(0≤s.place∧s.place≤L.places-1)∧(0≤s.sort∧s.sort≤L.sorts-1)∧(0≤s.amt∧s.amt≤50)∧(s.kind=1→0≤s.to∧s.to≤L.places-1∧s.to≠s.place):=by
  unfold EC at h
  split at h;· omega
  rename_i h1
  split at h;· omega
  rename_i h2
  split at h;· omega
  rename_i h3
  split at h;· omega
  rename_i h4
  split at h;· omega
  rename_i h5
  split at h;· omega
  rename_i h6
  split at h;· omega
  split at h;· omega
  rename_i h8
  split at h;· omega
  by_cases h10:inB s.amt (if s.kind=4 then 0 else 1) 50=false
  · rw [if_pos h10] at h;omega
  have e:∀ {b:Bool},¬ b=false→b=true:=fun hb=>by simpa using hb
  refine ⟨FN (e h1),FN (e h2),FN (e h3),FN (e h4),FN (e h8),?_,fun hk=>?_⟩
  · have:=FN (e h10)
    split at this <;> omega
  · have h5:inB s.to 0 (L.places-1)=true:=e fun hh=>h5 ⟨hk,hh⟩
    have:=FN h5;exact ⟨this.1,this.2,fun hh=>h6 ⟨hk,hh⟩⟩
section
variable {L:Lin} (g:GoodL L)
include g
theorem GoodL.slipAt {k:Nat} (hk:k<L.slips.length):EC L (L.slips.getD k AB)=0:=by
  have:=g.slip k hk;unfold DC at this
  split at this
  · rename_i h;exact absurd this h
  · rename_i h;exact Decidable.not_not.1 h
theorem GoodL.slipOf {s:Slip} (hs:s∈L.slips):EC L s=0:=by
  obtain ⟨k,hk,rfl⟩:=List.mem_iff_getElem.1 hs;have:=g.slipAt hk
  simpa [List.getD,hk] using this
theorem GoodL.goodS:GoodS L.slips:=⟨by have:=g.slips;omega,fun s hs=>by
  obtain ⟨h1,h2,h3,h4,h5,h6,_⟩:=QT (g.slipOf hs)
  exact ⟨h3,h6,by omega,by omega,by omega,by omega⟩⟩
theorem GoodL.once:(L.slips.map (·.num)).Nodup:=by
  rw [List.Nodup,List.pairwise_iff_getElem];intro i j hi hj hij e;rw [List.length_map] at hi hj;have:=g.slip j hj;unfold DC at this
  split at this
  · rename_i h;exact absurd this h
  · split at this
    · omega
    · rename_i h
      refine h ?_;unfold hasNum;refine List.any_eq_true.2 ⟨L.slips[i],?_,?_⟩
      · rw [List.mem_take_iff_getElem];exact ⟨i,by omega,rfl⟩
      · simp only [List.getElem_map] at e
        simpa [List.getD,hj] using e
omit g in
theorem openRow_within {B:Int} {p:Int} {row:List Int} (hB:0≤B) (hr:∀ n∈row,0≤n∧n≤B):∀ {j:Nat} {H:Hs},Within B H→Within B (QM p row j H):=by
  intro j
  induction j with
  | zero=>intro H h;exact h
  | succ j ih=>
    intro H h;refine (ih h).put ?_ ?_ (Int.le_refl _)
    · rcases Nat.lt_or_ge j row.length with hj | hj
      · have:=hr _ (BA (xs:=row) (d:=0) hj);omega
      · have:row.getD j 0=0:=by simp [List.getD,hj]
        omega
    · rcases Nat.lt_or_ge j row.length with hj | hj
      · exact (hr _ (BA (xs:=row) (d:=0) hj)).2
      · have:row.getD j 0=0:=by simp [List.getD,hj]
        omega
omit g in
theorem openTo_within {B:Int} {st:List (List Int)} (hB:0≤B) (hr:∀ r∈st,∀ n∈r,0≤n∧n≤B):∀ {i:Nat},i≤st.length→Within B (OZ st i):=by
  intro i
  induction i with
  | zero=>intro _ k;show -B≤(0:Int)∧(0:Int)≤B;omega
  | succ i ih=>intro hi;exact openRow_within hB (hr _ (BA (xs:=st) (d:=[]) hi)) (ih (by omega))
theorem GoodL.within:Within 1000 (EA L):=(openTo_within (B:=50) (by omega) g.nums (Nat.le_refl _)).mono (by omega)
end
def DY (H:Hs) (p:Int):Nat→List Int
  | 0=>[]
  | j+1=>DY H p j++[DF ⟨p,(j:Int),false⟩ H,DF ⟨p,(j:Int),true⟩ H]
def OD (H:Hs) (s:Nat):Nat→List (List Int)
  | 0=>[]
  | k+1=>OD H s k++[DY H (k:Int) s]
def EE (L:Lin) (hour:Int):List (List Int) × Int:=
  if AJ L≠0 then ([],AJ L) else if inB hour 0 200=false then ([],1) else (OD (atH L hour) L.sorts.toNat L.places.toNat,0)
theorem stockRow_length {H:Hs} {p:Int} {j:Nat}:(DY H p j).length=2*j:=by induction j with
  | zero=>rfl
  | succ j ih=>simp only [DY,List.length_append,ih,List.length_cons,List.length_nil];omega
theorem NM {H:Hs} {s k:Nat}:(OD H s k).length=k:=by induction k with
  | zero=>rfl
  | succ k ih=>simp only [OD,List.length_append,ih,List.length_cons,List.length_nil]
theorem stockE_1 {L:Lin} {hour:Int} (h:AJ L≠0):EE L hour=([],AJ L):=if_pos h
theorem stockE_2 {L:Lin} {hour:Int} (h:AJ L=0) (h2:inB hour 0 200=false):EE L hour=([],1):=by unfold EE;rw [if_neg (fun x=>x h),if_pos h2]
theorem PI {L:Lin} {hour:Int} {k s:Nat} (h:AJ L=0) (h2:inB hour 0 200=true) (hk:(k:Int)=L.places) (hs:(s:Int)=L.sorts):EE L hour=(OD (atH L hour) s k,0):=by
  unfold EE;rw [if_neg (fun x=>x h),if_neg (by rw [h2];decide),← hk,← hs];rfl
def gapOf (e:Event):List Gap:=if e.gap≠0 then [⟨e.slip.num,e.gap⟩] else []
def DM (l:List Event):List Gap:=l.flatMap gapOf
def BF (L:Lin):List Event:=evs (EA L) (AG AC L.slips)
def GV (L:Lin):List Gap × Int:=if AJ L≠0 then ([],AJ L) else (DM (BF L),0)
theorem gapsOf_snoc {l:List Event} {e:Event}:DM (l++[e])=DM l++gapOf e:=by simp [DM]
theorem gapsOf_t {l:List Event} {e:Event} (h:e.gap≠0):DM l++[⟨e.slip.num,e.gap⟩]=DM (l++[e]):=by rw [gapsOf_snoc];unfold gapOf;rw [if_pos h]
theorem gapsOf_f {l:List Event} {e:Event} (h:e.gap=0):DM l=DM (l++[e]):=by rw [gapsOf_snoc];unfold gapOf;rw [if_neg (fun x=>x h),List.append_nil]
theorem OP:∀ {l:List Event},(DM l).length≤l.length:=by
  intro l
  induction l with
  | nil=>exact Nat.le_refl _
  | cons x r ih=>
    show (gapOf x++DM r).length≤_;rw [List.length_append,List.length_cons];have:(gapOf x).length≤1:=by unfold gapOf;split <;> simp
    omega
theorem gapsE_1 {L:Lin} (h:AJ L≠0):GV L=([],AJ L):=if_pos h
theorem gapsE_2 {L:Lin} (h:AJ L=0):GV L=(DM (BF L),0):=if_neg (fun x=>x h)
theorem HA {L:Lin}:(BF L).length=L.slips.length:=by unfold BF;rw [FU];exact (CH _).length_eq
end Go.Sh
namespace Go.Sl
open Go
def IterE {α β:Type} (P:Program) (gf:FuncId) (cv:List Value) (enc:β→List Value) (pr:β→α) (seq:List α) (E:β→Imm→Prop) (R:Imm→Seg→Prop) (I0:Imm):Prop:=
  ∀ [Jud P] (L:Nat) (Cl Sp:List α→Imm→Seg→Prop),(∀ xs I J M,I.le J→Cl xs I M→Cl xs J M) →
    (∀ xs x I Mr M,(xs++[pr x]) <+: seq→I0.le I→E x I→Cl xs I M→Yt P L (enc x).toArray I (Mr++M) (fun v I' M'=>(v=.bool true∧∃ M2,M'=Mr++M2∧Cl (xs++[pr x]) I' M2)∨(v=.bool false∧Sp (xs++[pr x]) I' M'))) →
    ∀ I Mr M,I0.le I→R I Mr→Cl [] I M→CtA P gf (.func (.yield L) #[] #[]::cv).toArray I (Mr++M) (fun _ I' M'=>(∃ Mr' M2,M'=Mr'++M2∧Cl seq I' M2)∨(∃ xs,Sp xs I' M'))
section
variable {ρ:Option Nat} {P:Program} [Jud P] {N:Nat} {ops:Array Oper} {i:Nat} {l:Sl} {I:Imm} {R M:Seg} {ty:TypeId} {gd:Option (Nat × Bool)} {K:Sl→Imm→Seg→Prop} {Q:Exit→Act→GW→Prop} {ds:List Deferred}
theorem NL {α β : Type} {c : Code} {g : Operand} {ps : Array Tmp} {assign body : Code} {gf : FuncId} {cv : List Value} {enc : β → List Value} {pr : β → α} {seq : List α} {E : β → Imm → Prop} {R : Imm → Seg → Prop} {Mr M0 F0 : Seg}
    (Cl:List α→Imm→Seg→Prop) (Sp:Code→List α→Imm→Seg→Prop) (sl:β→Nat→Sl) (mm:β→Nat→Seg)
    (hc:c=.rangeFunc g ps assign body) (hg:BR l g=some (.func (.func gf) #[] cv.toArray)) (hcall:CT P gf=true) (hps:∀ x,(enc x).length=ps.size) (hpN:ps.all (fun t=>Nat.blt t N)=true)
    (it:IterE P gf cv enc pr seq E R I)
    (hmono:∀ xs I J M,I.le J→Cl xs I M→Cl xs J M)
    (hM:M.Perm (Mr++(M0++F0))) (hr:R I Mr) (h0:Cl [] I M0)
    (hassign:∀ L x I1 M1,Run (ρ:=some L) P N assign (Exit.then (fun a w=>∃ k,Slots N (sl x k) a∧a.defers=[]∧St I1 (mm x k++M1) w) (fun _ _ _=>False)) [] (putAll (ps.toList.zip (enc x)) l) I1 M1)
    (hbody:∀ L x k xs I1 Mr1 M1 F1,(xs++[pr x]) <+: seq→I.le I1→E x I1→Cl xs I1 M1 →
      Run (ρ:=some L) P N body (RoundQ I1 (fun o I' M'=>match o with | none=>∃ M2,M'=Mr1++M2∧Cl (xs++[pr x]) I' M2 | some c=>Sp c (xs++[pr x]) I' M') F1) [] (sl x k) I1 (mm x k++(Mr1++(M1++F1))))
    (hdone:∀ D I' Mr' M',I.le I'→Cl seq I' M'→Pst N Q .normal (mark D::ds) l I' ((D,.deferred (some []))::(Mr'++(M'++F0))))
    (hstop:∀ D c xs I' M',I.le I'→Sp c xs I' M'→Run (ρ:=none) P N c Q (mark D::ds) l I' ((D,.deferred (some []))::(M'++F0))) :
    Run (ρ:=none) P N c Q ds l I M:=by
  subst hc;intro a w hS hD hW;refine PL (LY hS hg) (fun args σ K hk=>KR hcall args σ K hk) fun fn=>?_
  have hent:wpL P (Instr.enterLoop fn a.tmps ps assign body none) (fun lm M'=>∃ D L,lm=(L,[mark D])∧M'=(L,.loop { state:=.ready,pending:=none,fn,tmps:=a.tmps,params:=ps,assign,body,defers:=D })::(D,.deferred (some []))::(Mr++(M0++F0))) I (Mr++(M0++F0)):=
    fun D L=>⟨D,L,rfl,rfl⟩
  refine (IC _ _ I _ w hent (hW.perm hM)).mono ?_
  rintro lm w1 ⟨M',⟨D,L,rfl,rfl⟩,hW2⟩
  obtain ⟨rec,hrec⟩:∃ rec:LoopState→Option Code→Loop,rec=fun st pe=>{ state:=st,pending:=pe,fn,tmps:=a.tmps,params:=ps,assign,body,defers:=D }:=⟨_,rfl⟩
  have hst:∀ st pe,(rec st pe).state=st:=by rw [hrec];intros;rfl
  have hpe:∀ st pe,(rec st pe).pending=pe:=by rw [hrec];intros;rfl
  have hset:∀ st pe st',{ rec st pe with state:=st' }=rec st' pe:=by rw [hrec];intros;rfl
  have hset2:∀ st pe st' pe',{ rec st pe with state:=st',pending:=pe' }=rec st' pe':=by rw [hrec];intros;rfl
  replace hW2:St I ((L,.loop (rec .ready none))::(D,.deferred (some []))::(Mr++(M0++F0))) w1:=by rw [hrec];exact hW2
  have hit:=it L (fun xs I M=>∃ M0,M=(L,.loop (rec .ready none))::(D,.deferred (some []))::M0∧Cl xs I M0)
    (fun xs I M=>∃ c M0,M=(L,.loop (rec .done (some c)))::(D,.deferred (some []))::M0∧Sp c xs I M0)
    (fun xs I J M le ⟨M0,e,h⟩=>⟨M0,e,hmono xs I J M0 le h⟩) ?_ I Mr ((L,.loop (rec .ready none))::(D,.deferred (some []))::M0) (Imm.le.refl I) hr ⟨M0,rfl,h0⟩
  · have e1:(#[Value.func (.yield L) #[] #[]]++cv.toArray)=(.func (.yield L) #[] #[]::cv).toArray:=by simp
    show Calls P gf (#[Value.func (.yield L) #[] #[]]++cv.toArray) w1 _;rw [e1];refine (hit F0 w1 (hW2.perm ?_)).mono ?_
    · rw [List.append_assoc]
      exact ((List.perm_middle (l₁:=Mr)).trans (.cons _ (List.perm_middle (l₁:=Mr)))).symm
    · rintro v w' ⟨I',M',hle,hp,st⟩
      rcases hp with ⟨Mr',M2,rfl,M3,rfl,hcl⟩ | ⟨xs,c,M3,rfl,hsp⟩
      · have st2 := st.perm (show ((Mr' ++ ((L, Obj.loop (rec .ready none)) :: (D, .deferred (some [])) :: M3)) ++ F0).Perm ((L, Obj.loop (rec .ready none)) :: (D, .deferred (some [])) :: (Mr' ++ (M3 ++ F0))) by
          rw [List.append_assoc]
          exact (List.perm_middle (l₁:=Mr')).trans (.cons _ (List.perm_middle (l₁:=Mr'))))
        refine (IC _ (fun jump M''=>jump=none∧∃ o,M''=(L,o)::(D,.deferred (some []))::(Mr'++(M3++F0))) I' _ w' (LO (by rw [hst];simp) ⟨hpe _ _,_,rfl⟩) st2).mono ?_
        rintro jump w3 ⟨M'',⟨rfl,o,rfl⟩,st3⟩
        exact hdone D I' Mr' M3 hle hcl _ _ ⟨hS.size,hS.get⟩ (by show [mark D]++a.defers=_;rw [hD];rfl) st3.drop
      · refine (IC _ (fun jump M''=>jump=some c∧∃ o,M''=(L,o)::(D,.deferred (some []))::(M3++F0)) I' _ w' (LO (by rw [hst];simp) ⟨hpe _ _,_,rfl⟩) st).mono ?_
        rintro jump w3 ⟨M'',⟨rfl,o,rfl⟩,st3⟩
        exact hstop D c xs I' M3 hle hsp _ _ ⟨hS.size,hS.get⟩ (by show [mark D]++a.defers=_;rw [hD];rfl) st3.drop
  · rintro xs x I1 Mr1 M1' hpre hle hR ⟨M1,rfl,hcl⟩ F1 w2 st
    have hfold:((ps.zip (enc x).toArray).foldl (fun tmps (t,a)=>tmps.setIfInBounds t a) a.tmps)=(ps.toList.zip (enc x)).foldl (fun t (x:Tmp × Value)=>t.setIfInBounds x.1 x.2) a.tmps:=by
      rw [← Array.foldl_toList];simp
    refine (IC _ (fun n M''=>n=.round L fn ((ps.toList.zip (enc x)).foldl (fun t (x:Tmp × Value)=>t.setIfInBounds x.1 x.2) a.tmps) assign body∧M''=_) I1 _ w2 (wpL_yield (r:=rec .ready none) (by simp) (by rw [hrec];simpa using hps x) ⟨by rw [← hfold,hrec],rfl⟩) st).mono ?_
    rintro n w2' ⟨M'',⟨rfl,rfl⟩,st⟩
    refine ⟨_,_,assign,body,rfl,RS ?_⟩;refine NC (hassign L x I1 _ _ w2' (slots_fold (ps.toList.zip (enc x)) l a.tmps ⟨hS.size,hS.get⟩ ?_) rfl st) ?_
    · intro y hy'
      have:=(List.of_mem_zip (show (y.1,y.2)∈ps.toList.zip (enc x) from hy')).1;have h3:=Array.all_eq_true'.1 hpN y.1 (by simpa using this);exact Nat.le_of_ble_eq_true h3
    · rintro e a1 w3 hq
      cases e with
      | normal=>
        obtain ⟨k,hS3,hD3,st3⟩:=hq;have st4:St I1 ((L,.loop (rec .ready none))::(mm x k++(Mr1++(M1++((D,.deferred (some []))::F1))))) w3:=st3.perm ((List.Perm.append_left (mm x k) perm3).trans List.perm_middle);refine (IC _ (fun _ M''=>M''=(L,.loop (rec .busy none))::(mm x k++(Mr1++(M1++((D,.deferred (some []))::F1))))) I1 _ w3 (NP (hst _ _) (by rw [hset])) st4).mono ?_
        rintro _ w4 ⟨M'',rfl,st4'⟩
        have st5:St I1 (mm x k++(Mr1++(M1++((L,.loop (rec .busy none))::(D,.deferred (some []))::F1)))) w4:=by
          refine st4'.perm ?_;refine (List.perm_middle (l₁:=mm x k)).symm.trans (List.Perm.append_left (mm x k) ?_);have:=(perm3 (A:=Mr1) (B:=M1) (C:=F1) (x:=(L,Obj.loop (rec .busy none))) (y:=(D,Obj.deferred (some [])))).symm;refine this.trans ?_;rw [List.append_assoc];refine List.Perm.append_left Mr1 ?_;show ((L,Obj.loop (rec .busy none))::(D,.deferred (some []))::(M1++F1)).Perm _;exact ((List.perm_middle (l₁:=M1)).trans (.cons _ (List.perm_middle (l₁:=M1)))).symm
        refine NC (hbody L x k xs I1 Mr1 M1 _ hpre hle hR hcl a1 _ hS3 hD3 st5) ?_
        have fin : ∀ (jump : Option Code) (I' : Imm) (M' : Seg) (w6 : GW), St I' (M' ++ ((L, .loop (rec .busy none)) :: (D, .deferred (some [])) :: F1)) w6 →
            SemTo P (Instr.endRound L jump) w6 fun v w7=>v=.bool jump.isNone∧St I' ((L,.loop (rec (if jump.isNone then .ready else .done) jump))::(M'++((D,.deferred (some []))::F1))) w7:=fun jump I' M' w6 st6=>by
          refine (IC _ (fun v M''=>v=.bool jump.isNone∧M''=(L,.loop (rec (if jump.isNone then .ready else .done) jump))::(M'++((D,.deferred (some []))::F1))) I' _ w6 (RY jump ⟨rfl,by rw [hset2]⟩) (st6.perm perm4)).mono ?_
          rintro v w7 ⟨M'',⟨h1,rfl⟩,st7⟩
          exact ⟨h1,st7⟩
        rintro e a6 w6 hq6
        have stop : ∀ (c : Code), (∃ I' M', I1.le I' ∧ Sp c (xs ++ [pr x]) I' M' ∧ St I' (M' ++ ((L, .loop (rec .busy none)) :: (D, .deferred (some [])) :: F1)) w6) →
            SemTo P (Instr.endRound L (some c)) w6 (RQ I1 (fun v I' M'=>(v=.bool true∧∃ M2,M'=Mr1++M2∧∃ M0,M2=(L,.loop (rec .ready none))::(D,.deferred (some []))::M0∧Cl (xs++[pr x]) I' M0) ∨
              (v=.bool false∧∃ c M0,M'=(L,.loop (rec .done (some c)))::(D,.deferred (some []))::M0∧Sp c (xs++[pr x]) I' M0)) F1):=by
          rintro c ⟨I',M',hle',hp,st6⟩
          refine (fin (some c) I' M' w6 st6).mono ?_
          rintro v w7 ⟨rfl,h2⟩
          exact ⟨I',_,hle',.inr ⟨rfl,c,M',rfl,hp⟩,h2.perm (.cons _ List.perm_middle)⟩
        cases e with
        | normal=>
          obtain ⟨I',M',hle',⟨M2,rfl,hcl'⟩,st6⟩:=hq6;refine (fin none I' _ w6 st6).mono ?_
          rintro v w7 ⟨rfl,h2⟩
          refine ⟨I',_,hle',.inl ⟨rfl,_,rfl,M2,rfl,hcl'⟩,h2.perm ?_⟩;rw [List.append_assoc];exact perm3.symm
        | ret=>exact stop .ret hq6
        | exit id=>exact stop (.exit id) hq6
        | goto t=>exact stop (.goto t) hq6
        | panic ch=>exact hq6.elim
        | outgrown=>exact hq6.elim
      | exit id=>exact hq.elim
      | goto t=>exact hq.elim
      | ret=>exact hq.elim
      | panic ch=>exact hq.elim
      | outgrown=>exact hq.elim
end
end Go.Sl
namespace Go.Sh
open Go Go.Sl
def kstep (p h:Int) (q:Int × Int) (k:Keep):Int × Int:=bif cmp .eql k.place p&&(cmp .leq k.hour h&&cmp .gtr k.hour q.2) then (k.who,k.hour) else q
def JZ (p h:Int) (ks:List Keep):Int × Int:=ks.foldl (kstep p h) (0,-1)
def BL (L:Lin) (p h:Int):Int:=(JZ p h L.keeps).1
section
variable {p h:Int} {ks:List Keep} {k:Nat}
theorem kfold_t (hk:k<ks.length) (hc:(cmp .eql (ks.getD k AQ).place p&&(cmp .leq (ks.getD k AQ).hour h&&cmp .gtr (ks.getD k AQ).hour (JZ p h (ks.take k)).2))=true):((ks.getD k AQ).who,(ks.getD k AQ).hour)=JZ p h (ks.take (k+1)):=by
  rw [BT (d:=AQ) hk];unfold JZ at *;rw [List.foldl_append];simp only [List.foldl_cons,List.foldl_nil,kstep];rw [hc];rfl
theorem kfold_f (hk:k<ks.length) (hc:(cmp .eql (ks.getD k AQ).place p&&(cmp .leq (ks.getD k AQ).hour h&&cmp .gtr (ks.getD k AQ).hour (JZ p h (ks.take k)).2))=false):JZ p h (ks.take k)=JZ p h (ks.take (k+1)):=by
  rw [BT (d:=AQ) hk];unfold JZ at *;rw [List.foldl_append];simp only [List.foldl_cons,List.foldl_nil,kstep];rw [hc];rfl
theorem kfold_who:∀ {ks:List Keep} {q:Int × Int},(ks.foldl (kstep p h) q).1=q.1∨(ks.foldl (kstep p h) q).1∈ks.map (·.who):=by
  intro ks
  induction ks with
  | nil=>intro q;exact .inl rfl
  | cons x r ih=>
    intro q;simp only [List.foldl_cons,List.map_cons,List.mem_cons];rcases ih (q:=kstep p h q x) with e | e
    · rw [e];unfold kstep;cases (cmp .eql x.place p&&(cmp .leq x.hour h&&cmp .gtr x.hour q.2)) with
      | true=>exact .inr (.inl rfl)
      | false=>exact .inl rfl
    · exact .inr (.inr e)
end
theorem keeperOf_mem {L:Lin} {p h:Int} (hn:BL L p h≠0):BL L p h∈L.keeps.map (·.who):=by
  rcases kfold_who (p:=p) (h:=h) (ks:=L.keeps) (q:=(0,-1)) with e | e
  · exact absurd e hn
  · exact e
def BZ (L:Lin) (p since:Int):Nat→List Int
  | 0=>[]
  | n+1=>if (n:Int)<since then BZ L p since n else if BL L p n=0 then BZ L p since n else if BL L p n∈BZ L p since n then BZ L p since n else BZ L p since n++[BL L p n]
section
variable {L:Lin} {p since:Int} {n:Nat}
theorem holdTo_1 (h:(n:Int)<since):BZ L p since n=BZ L p since (n+1):=(if_pos h).symm
theorem holdTo_2 (h:¬ (n:Int)<since) (h2:BL L p n=0):BZ L p since n=BZ L p since (n+1):=by simp only [BZ];rw [if_neg h,if_pos h2]
theorem holdTo_3 (h:¬ (n:Int)<since) (h2:¬ BL L p n=0) (h3:BL L p n∈BZ L p since n):BZ L p since n=BZ L p since (n+1):=by simp only [BZ];rw [if_neg h,if_neg h2,if_pos h3]
theorem holdTo_4 (h:¬ (n:Int)<since) (h2:¬ BL L p n=0) (h3:¬ BL L p n∈BZ L p since n):BZ L p since n++[BL L p n]=BZ L p since (n+1):=by simp only [BZ];rw [if_neg h,if_neg h2,if_neg h3]
theorem holdTo_once:∀ n,(BZ L p since n).Nodup∧∀ x∈BZ L p since n,x∈L.keeps.map (·.who):=by
  intro n
  induction n with
  | zero=>exact ⟨List.nodup_nil,fun x hx=>by cases hx⟩
  | succ n ih=>
    simp only [BZ]
    split
    · exact ih
    split
    · exact ih
    rename_i h2
    split
    · exact ih
    · rename_i h3
      refine ⟨List.nodup_append.2 ⟨ih.1,by simp,fun a ha b hb=>?_⟩,fun x hx=>?_⟩
      · simp only [List.mem_singleton] at hb;intro e;rw [e,hb] at ha;exact h3 ha
      · rcases List.mem_append.1 hx with hx | hx
        · exact ih.2 x hx
        · simp only [List.mem_singleton] at hx;subst hx;exact keeperOf_mem h2
omit p since n in
theorem once_len:∀ {l m:List Int},l.Nodup→(∀ x∈l,x∈m)→l.length≤m.length:=by
  intro l
  induction l with
  | nil=>intro m _ _;exact Nat.zero_le _
  | cons x r ih=>
    intro m hn hs;have hn2:=List.nodup_cons.1 hn;have hx:=hs x (by simp);have:=ih (m:=m.erase x) hn2.2 (fun y hy=>(List.mem_erase_of_ne (fun e=>hn2.1 (by rw [← e];exact hy))).2 (hs y (by simp [hy])));rw [List.length_erase_of_mem hx] at this;have h0:=List.length_pos_of_mem hx;rw [List.length_cons];omega
theorem holdTo_len (hk:L.keeps.length≤4):(BZ L p since n).length≤4:=by
  have:=once_len (holdTo_once (L:=L) (p:=p) (since:=since) n).1 (holdTo_once n).2;rw [List.length_map] at this;omega
end
def DN (L:Lin) (s:Slip) (since:Int):List Int:=AG cmpZ (BZ L s.place since (s.hour+1).toNat)
theorem holdersOf_len {L:Lin} {s:Slip} {since:Int} (hk:L.keeps.length≤4):(DN L s since).length≤4:=by unfold DN;rw [(CH _).length_eq];exact holdTo_len hk
theorem holdersOf_at {L:Lin} {s:Slip} {since:Int} {n:Nat} (h:(n:Int)=s.hour+1):AG cmpZ (BZ L s.place since n)=DN L s since:=by unfold DN;rw [← h];rfl
abbrev EvH:=Sh.Event × List Int
def NV (L:Lin) (q:Hs × List EvH) (e:Sh.Event):Hs × List EvH:=
  if e.slip.kind≠4 then q else (KC (keyOf e.slip) e.slip.hour q.1,if e.gap≠0 then q.2++[(e,DN L e.slip (DF (keyOf e.slip) q.1))] else q.2)
def EQ (L:Lin) (l:List Sh.Event):Hs × List EvH:=l.foldl (NV L) ([],[])
def EJ (L:Lin):List EvH:=(EQ L (BF L)).2
section
variable {L:Lin} {xs ys:List Sh.Event} {x:Sh.Event}
theorem IQ:EQ L (xs++[x])=NV L (EQ L xs) x:=by unfold EQ;rw [List.foldl_append];rfl
theorem gfold_1 (h:x.slip.kind≠4):EQ L xs=EQ L (xs++[x]):=by rw [IQ];unfold NV;rw [if_pos h]
theorem gfold_2 (h:x.slip.kind=4):(EQ L (xs++[x])).1=KC ⟨x.slip.place,x.slip.sort,x.slip.soil⟩ x.slip.hour (EQ L xs).1:=by rw [IQ];unfold NV;rw [if_neg (fun e=>e h)];rfl
theorem gfold_3 (h:x.slip.kind=4) (h2:x.gap=0):(EQ L xs).2=(EQ L (xs++[x])).2:=by rw [IQ];unfold NV;rw [if_neg (fun e=>e h)];simp only;rw [if_neg (fun e=>e h2)]
theorem gfold_4 (h:x.slip.kind=4) (h2:x.gap≠0):(EQ L xs).2++[(x,DN L x.slip (DF ⟨x.slip.place,x.slip.sort,x.slip.soil⟩ (EQ L xs).1))]=(EQ L (xs++[x])).2:=by rw [IQ];unfold NV;rw [if_neg (fun e=>e h)];simp only;rw [if_pos h2];rfl
theorem gfold_more:∀ {ys xs:List Sh.Event},(EQ L xs).2 <+: (EQ L (xs++ys)).2:=by
  intro ys
  induction ys with
  | nil=>intro xs;rw [List.append_nil];exact List.prefix_refl _
  | cons y r ih=>
    intro xs;have h1:(EQ L xs).2 <+: (EQ L (xs++[y])).2:=by
      rw [IQ];unfold NV
      split
      · exact List.prefix_refl _
      · simp only;split
        · exact List.prefix_append _ _
        · exact List.prefix_refl _
    have h2:=ih (xs:=xs++[y]);rw [List.append_assoc] at h2;exact h1.trans h2
theorem gfold_pre (h:xs <+: ys):(EQ L xs).2 <+: (EQ L ys).2:=by obtain ⟨r,rfl⟩:=h;exact gfold_more
end
def encEvH (q:EvH × (Option Addr × Nat)):List Value:=[.agg #[.int .i64 q.1.1.slip.num,.int .i64 q.1.1.slip.hour,.int .i64 q.1.1.slip.kind,.int .i64 q.1.1.slip.place,.int .i64 q.1.1.slip.to,.int .i64 q.1.1.slip.sort,.bool q.1.1.slip.soil,.int .i64 q.1.1.slip.amt,.int .i64 q.1.1.gap,.bool q.1.1.below,.slice q.2.1 q.1.2.length q.2.2]]
theorem evs_slip:∀ {S:List Slip} {H:Hs} {x:Sh.Event},x∈evs H S→x.slip∈S:=by
  intro S
  induction S with
  | nil=>intro H x hx;cases hx
  | cons s r ih=>
    intro H x hx;simp only [evs] at hx;rcases List.mem_cons.1 hx with rfl | hx
    · exact List.mem_cons_self
    · exact List.mem_cons_of_mem _ (ih hx)
theorem GoodL.ofEv {L:Lin} (g:GoodL L) {xs:List Sh.Event} {x:Sh.Event} {H:Hs} (h:(xs++[x]) <+: evs H (AG AC L.slips)):0≤x.slip.hour∧x.slip.hour≤200:=
  (QT (g.slipOf ((CH _).subset (evs_slip (h.subset (List.mem_append_right _ List.mem_cons_self)))))).2.1
def RM (n:Int) (l:List EvH):Option (List Int):=(l.find? fun q=>decide (q.1.slip.num=n)).map Prod.snd
theorem lackAt_hit {n:Int} {l xs:List EvH} {x:EvH} (h:(xs++[x]) <+: l) (hn:∀ q∈xs,q.1.slip.num≠n) (hx:x.1.slip.num=n):RM n l=some x.2:=by
  obtain ⟨r,rfl⟩:=h;unfold RM;rw [List.append_assoc,List.find?_append,List.find?_eq_none.2 (fun q hq=>by simpa using hn q hq)];simp [hx]
theorem lackAt_none {n:Int} {l:List EvH} (hn:∀ q∈l,q.1.slip.num≠n):RM n l=none:=by
  unfold RM;rw [List.find?_eq_none.2 (fun q hq=>by simpa using hn q hq)];rfl
def CO (L:Lin) (n:Int):List Int × Int:=
  if AJ L≠0 then ([],AJ L) else if KX (fun x:Slip=>decide (x.num=n)) L.slips<0 then ([],3)
  else if (L.slips.getD (KX (fun x:Slip=>decide (x.num=n)) L.slips).toNat AB).kind≠4 then ([],8)
  else match RM n (EJ L) with
    | some h=>(h,0)
    | none=>([],11)
section
variable {L:Lin} {n:Int} {i:Nat}
theorem holdersE_1 (h:AJ L≠0):CO L n=([],AJ L):=if_pos h
theorem holdersE_2 (h:AJ L=0) (h2:KX (fun x:Slip=>decide (x.num=n)) L.slips<0):CO L n=([],3):=by unfold CO;rw [if_neg (fun x=>x h),if_pos h2]
theorem holdersE_3 (h:AJ L=0) (h2:KX (fun x:Slip=>decide (x.num=n)) L.slips=(i:Int)) (h3:¬ (L.slips.getD i AB).kind=4):CO L n=([],8):=by
  unfold CO;rw [if_neg (fun x=>x h),h2,if_neg (by omega),Int.toNat_natCast,if_pos h3]
theorem holdersE_4 {l:List Int} (h:AJ L=0) (h2:KX (fun x:Slip=>decide (x.num=n)) L.slips=(i:Int)) (h3:(L.slips.getD i AB).kind=4) (h4:RM n (EJ L)=some l):CO L n=(l,0):=by
  unfold CO;rw [if_neg (fun x=>x h),h2,if_neg (by omega),Int.toNat_natCast,if_neg (fun x=>x h3),h4]
theorem holdersE_5 (h:AJ L=0) (h2:KX (fun x:Slip=>decide (x.num=n)) L.slips=(i:Int)) (h3:(L.slips.getD i AB).kind=4) (h4:RM n (EJ L)=none):CO L n=([],11):=by
  unfold CO;rw [if_neg (fun x=>x h),h2,if_neg (by omega),Int.toNat_natCast,if_neg (fun x=>x h3),h4]
end
theorem ne_snoc {α:Type} {p:α→Prop} {xs:List α} {x:α} (h:∀ q∈xs,p q) (hx:p x):∀ q∈xs++[x],p q:=fun q hq=>by
  rcases List.mem_append.1 hq with hq | hq
  · exact h q hq
  · simp only [List.mem_singleton] at hq;subst hq;exact hx
def evOk (e:Sh.Event):Bool:=cmp .eql e.gap 0&&!e.below
def NJ (L:Lin):Bool:=(BF L).all evOk
theorem rightE_no {L:Lin} {xs:List Sh.Event} {x:Sh.Event} (h:(xs++[x]) <+: BF L) (hx:evOk x=false):NJ L=false:=by
  unfold NJ;cases e:(BF L).all evOk with
  | false=>rfl
  | true=>
    have:=List.all_eq_true.1 e x (h.subset (by simp));rw [hx] at this;cases this
theorem rightE_yes {L:Lin} (h:∀ x∈BF L,evOk x=true):NJ L=true:=List.all_eq_true.2 h
def woS (L:Lin) (ns:List Int):List Slip:=L.slips.filter fun x=>!decide (x.num∈ns)
def woL (L:Lin) (ns:List Int):Lin:=⟨L.places,L.sorts,L.start,L.keeps,woS L ns⟩
theorem GoodL.wo {L:Lin} (g:GoodL L) {ns:List Int}:GoodS (woL L ns).slips:=g.goodS.sub (List.length_filter_le _ _) fun x hx=>(List.mem_filter.1 hx).1
theorem GoodL.woW {L:Lin} (g:GoodL L) {ns:List Int}:Within 1000 (EA (woL L ns)):=g.within
def IW (f:Nat→List Int × Bool) (j:Nat):Nat→List Int × Bool
  | 0=>([],false)
  | k+1=>if (f j).2=true then ((f j).1,true) else IW f (j+1) k
def EZ (L:Lin) (all:List Int):Nat→List Int→Nat→List Int × Bool
  | 0,begun,_=>(begun,NJ (woL L begun))
  | m+1,begun,j=>IW (fun i=>EZ L all m (begun++[all.getD i 0]) (i+1)) j (all.length-j)
section
variable {f:Nat→List Int × Bool} {i n:Nat}
theorem firstW_hit (hi:i<n) (h:(f i).2=true):IW f i (n-i)=((f i).1,true):=by
  obtain ⟨k,hk⟩:∃ k,n-i=k+1:=⟨n-i-1,by omega⟩;rw [hk];simp only [IW];rw [if_pos h]
theorem firstW_miss (hi:i<n) (h:(f i).2=false):IW f i (n-i)=IW f (i+1) (n-(i+1)):=by
  obtain ⟨k,hk⟩:∃ k,n-i=k+1:=⟨n-i-1,by omega⟩;rw [hk,show n-(i+1)=k by omega];simp only [IW];rw [if_neg (by rw [h];decide)]
theorem firstW_none (hi:n≤i):IW f i (n-i)=([],false):=by rw [show n-i=0 by omega];rfl
end
def allN (L:Lin):List Int:=AG cmpZ (L.slips.map (·.num))
def CG (L:Lin):List Int × Int:=
  if AJ L≠0 then ([],AJ L)
  else if (IW (fun m=>EZ L (allN L) m [] 0) 0 3).2=true then ((IW (fun m=>EZ L (allN L) m [] 0) 0 3).1,0) else ([],11)
theorem wrongE_1 {L:Lin} (h:AJ L≠0):CG L=([],AJ L):=if_pos h
theorem wrongE_2 {L:Lin} {l:List Int} (h:AJ L=0) (h2:IW (fun m=>EZ L (allN L) m [] 0) 0 3=(l,true)):CG L=(l,0):=by unfold CG;rw [if_neg (fun x=>x h),h2,if_pos rfl]
theorem wrongE_3 {L:Lin} (h:AJ L=0) (h2:IW (fun m=>EZ L (allN L) m [] 0) 0 3=([],false)):CG L=([],11):=by unfold CG;rw [if_neg (fun x=>x h),h2,if_neg (by decide)]
theorem allN_len {L:Lin}:(allN L).length=L.slips.length:=by unfold allN;rw [(CH _).length_eq,List.length_map]
section
variable {so:Int} {H H':Hs} {k:HKey} {v d:Int}
end
section
variable {L:Lin} {so hour:Int}
end
theorem inB_of {n lo hi:Int} (h:lo≤n∧n≤hi):¬ inB n lo hi=false:=by simp [inB,h.1,h.2]
theorem CK {L:Lin} (g:GoodL L):AJ L=0:=by
  have h1:DK L=0:=by
    unfold DK;rw [if_neg (fun h=>h g.start),if_neg,if_neg]
    · rw [List.all_eq_true.2 (fun n hn => by
        obtain ⟨r,hr,hn⟩:=List.mem_flatten.1 hn
        simpa using inB_of (g.nums r hr n hn))];decide
    · rw [List.all_eq_true.2 (fun r hr=>decide_eq_true (g.rows r hr))];decide
  have h2:DX L=0:=by unfold DX;rw [if_neg (by have:=g.keeps;omega)];exact firstE_zero.2 g.keep
  unfold AJ;rw [if_neg (inB_of g.places),if_neg (inB_of g.sorts),h1,h2,if_neg (fun h=>h rfl),if_neg (fun h=>h rfl),if_neg (by have:=g.slips;omega)];exact firstE_zero.2 g.slip
theorem gap_small {L:Lin} (g:GoodL L):∀ x∈DM (BF L),-1000000≤x.amt∧x.amt≤1000000:=by
  intro x hx;obtain ⟨e,he,hx⟩:=List.mem_flatMap.1 hx;unfold gapOf at hx
  split at hx
  · simp only [List.mem_singleton] at hx;subst hx
    obtain ⟨k,hk,rfl⟩:=List.mem_iff_getElem.1 he;have hk2:k<(AG AC L.slips).length:=by unfold BF at hk;rwa [FU] at hk
    have ht:=evs_take (H:=EA L) hk2;have e3:(BF L)[k]=evOf (aft (EA L) ((AG AC L.slips).take k)) ((AG AC L.slips).getD k AB):=by
      have h1:((evs (EA L) (AG AC L.slips)).take (k+1))[k]?=some (evOf (aft (EA L) ((AG AC L.slips).take k)) ((AG AC L.slips).getD k AB)):=by
        have hk3:k<(evs (EA L) (AG AC L.slips)).length:=hk;rw [ht,List.getElem?_append_right (by rw [List.length_take];omega),List.length_take,Nat.min_eq_left (by omega)];simp
      rw [List.getElem?_take_of_lt (by omega)] at h1;exact (List.getElem?_eq_some_iff.1 h1).2
    rw [e3];have hw:=(g.goodS.sorted.within g.within k) (keyOf ((AG AC L.slips).getD k AB));have ha:=(g.goodS.sorted.ok _ (BA (d:=AB) hk2)).2.1;simp only [evOf];split <;> omega
  · cases hx
theorem gaps_fst {L:Lin} (g:GoodL L):(GV L).1=DM (BF L):=by rw [gapsE_2 (CK g)]
section
variable {L:Lin} {G:List Gap} {so n X:Int} {i m k:Nat} {s:Slip}
end
def noLin:Lin:=⟨0,0,[],[],[]⟩
section
variable {L:Lin} {ns:List Int} {s:Slip} {k:Nat}
end
def HJ (A B:Lin):Int:=if AJ A=0 then AJ B else AJ A
def JS (A B:Lin):Prop:=A.places=B.places∧A.sorts=B.sorts∧A.start=B.start∧A.keeps=B.keeps
instance (A B:Lin):Decidable (JS A B):=inferInstanceAs (Decidable (_∧_))
abbrev idxN (A:List Slip) (s:Slip):Int:=KX (fun x=>decide (x.num=s.num)) A
def LR (A:List Slip) (s:Slip):Bool:=decide (¬ idxN A s<0∧A.getD (idxN A s).toNat AB≠s)
def NE (A:List Slip) (s:Slip):Bool:=decide (idxN A s<0)
def mrgS (A B:List Slip):List Slip:=A++B.filter (NE A)
def mrgL (A B:Lin):Lin:=⟨A.places,A.sorts,A.start,A.keeps,mrgS A.slips B.slips⟩
def AH (A B:Lin):Lin × Int:=
  if HJ A B≠0 then (noLin,HJ A B) else if ¬ JS A B then (noLin,12) else if B.slips.any (LR A.slips)=true then (noLin,4)
  else if 8<(mrgS A.slips B.slips).length then (noLin,6) else (mrgL A B,0)
section
variable {A B:Lin} {k:Nat}
theorem two_0 (h:HJ A B=0):AJ A=0∧AJ B=0:=by
  unfold HJ at h
  split at h
  · exact ⟨by assumption,h⟩
  · omega
theorem mergeE_1 (h:HJ A B≠0):AH A B=(noLin,HJ A B):=if_pos h
theorem mergeE_2 (h:HJ A B=0) (h2:¬ JS A B):AH A B=(noLin,12):=by unfold AH;rw [if_neg (fun x=>x h),if_pos h2]
theorem mergeE_3 (h:HJ A B=0) (h2:JS A B) {ix:Int} (hix:ix=idxN A.slips (B.slips.getD k AB)) (hk:k<B.slips.length) (h3:¬ ix<0) (h4:A.slips.getD ix.toNat AB≠B.slips.getD k AB):AH A B=(noLin,4):=by
  subst hix;unfold AH;rw [if_neg (fun x=>x h),if_neg (fun x=>x h2),if_pos];exact List.any_eq_true.2 ⟨_,BA (d:=AB) hk,decide_eq_true ⟨h3,h4⟩⟩
theorem mergeE_4 (h:HJ A B=0) (h2:JS A B) (hn:(B.slips.take k).any (LR A.slips)=false) (hk:B.slips.length≤k) (h3:8<(A.slips++(B.slips.take k).filter (NE A.slips)).length):AH A B=(noLin,6):=by
  rw [List.take_of_length_le hk] at hn h3;unfold AH;rw [if_neg (fun x=>x h),if_neg (fun x=>x h2),if_neg (by rw [hn];decide),if_pos (show 8<(mrgS A.slips B.slips).length from h3)]
theorem mergeE_5 (h:HJ A B=0) (h2:JS A B) (hn:(B.slips.take k).any (LR A.slips)=false) (hk:B.slips.length≤k) (h3:¬ 8<(A.slips++(B.slips.take k).filter (NE A.slips)).length):AH A B=(mrgL A B,0):=by
  rw [List.take_of_length_le hk] at hn h3;unfold AH;rw [if_neg (fun x=>x h),if_neg (fun x=>x h2),if_neg (by rw [hn];decide),if_neg (show ¬ 8<(mrgS A.slips B.slips).length from h3)]
theorem mrg_any (hn:(B.slips.take k).any (LR A.slips)=false) (hk:k<B.slips.length) (hc:LR A.slips (B.slips.getD k AB)=false):(B.slips.take (k+1)).any (LR A.slips)=false:=by
  rw [BT (d:=AB) hk,List.any_append,hn,List.any_cons,hc];rfl
theorem clash_lt {ix:Int} (hix:ix=idxN A.slips (B.slips.getD k AB)) (h:ix<0):LR A.slips (B.slips.getD k AB)=false:=by
  subst hix;exact decide_eq_false fun x=>x.1 h
theorem clash_eq {ix:Int} (hix:ix=idxN A.slips (B.slips.getD k AB)) (h:A.slips.getD ix.toNat AB=B.slips.getD k AB):LR A.slips (B.slips.getD k AB)=false:=by
  subst hix;exact decide_eq_false fun x=>x.2 h
theorem mrg_new {ix:Int} (hix:ix=idxN A.slips (B.slips.getD k AB)) (hk:k<B.slips.length) (h:ix<0):A.slips++(B.slips.take (k+1)).filter (NE A.slips)=A.slips++(B.slips.take k).filter (NE A.slips)++[B.slips.getD k AB]:=by
  subst hix;rw [BT (d:=AB) hk,List.filter_append,List.filter_cons_of_pos (by exact decide_eq_true h),List.filter_nil,List.append_assoc]
theorem mrg_old {ix:Int} (hix:ix=idxN A.slips (B.slips.getD k AB)) (hk:k<B.slips.length) (h:¬ ix<0):A.slips++(B.slips.take (k+1)).filter (NE A.slips)=A.slips++(B.slips.take k).filter (NE A.slips):=by
  subst hix;rw [BT (d:=AB) hk,List.filter_append,List.filter_cons_of_neg (by simpa [NE] using h),List.filter_nil,List.append_nil]
theorem idx_in {L:List Slip} {p:Slip→Bool} (h:¬ KX p L<0):0≤KX p L∧KX p L<L.length:=by
  obtain ⟨i,e,h1,_⟩:=MD (d:=AB) (show 0≤KX p L by omega);omega
theorem head_no (h:((!(cmp .eql A.places B.places))||((!(cmp .eql A.sorts B.sorts))||((!(decide (A.start=B.start)))||(!(decide (A.keeps=B.keeps))))))=true):¬ JS A B:=by
  rintro ⟨h1,h2,h3,h4⟩
  rw [h1,h2,h3,h4] at h;simp [KS] at h
theorem mrgL_k (hk:B.slips.length≤k):(⟨A.places,A.sorts,A.start,A.keeps,A.slips++(B.slips.take k).filter (NE A.slips)⟩:Lin)=mrgL A B:=by
  rw [List.take_of_length_le hk];rfl
theorem mrg_len (g:GoodL A) (g2:GoodL B):(A.slips++(B.slips.take k).filter (NE A.slips)).length≤16:=by
  have h1:=g.slips;have h2:=g2.slips;have h3:=List.length_filter_le (NE A.slips) (B.slips.take k);rw [List.length_take] at h3;rw [List.length_append];omega
end
end Go.Sh
namespace Go.Proofs.YtgcemienebmdeaaGreat
open Go Go.Sl Go.Sh
set_option maxRecDepth 100000
noncomputable def c_open:=cod Tryz.f68
theorem QN (I:Imm) (l:Value) (L:Lin) (l_f:IsLin I l L):Ct Tryz.prog 68 #[l] I ([]) (fun v I' M'=>∃ u:Nat,∃ w1:Value,∃ w2:Value,∃ w3:Value,∃ r:Nat,∃ es:Array MapEntry,∃ cl:Nat,v=vP u 0∧M'=[(r,Obj.map es cl)]∧IsBook 134 I' u w1 w2 w3 r L∧MapH es cl (EA L)):=by
 obtain ⟨l1,l2,l3,rfl,b8,c0,c1⟩:=id l_f;obtain ⟨a0,a1,e0,e3,d5,rfl,e1,e2,b9,c5⟩:=id b8;obtain ⟨a6,a7,e4,e7,rfl,e5,e6,e8⟩:=id c0;obtain ⟨a8,a9,e9,f2,rfl,f0,f1,f3⟩:=id c1;refine fr (args:=[_]) (N:=38) Tryz.func68 (fun F=>?_);show Run _ _ (c_open []) _ _ [(0,_)] _ _;refine rnm (rqr ?_);refine sS (sb 1 26 (AS L (vS a0 L.start.length a1) (vS a6 L.keeps.length a7) (vS a8 L.slips.length a9)) (fun b1=>(sp 1 [(2,.pointer none)] (sn (sd (dnb 8 0 0 b1 (CY L (vS a0 L.start.length a1) (vS a6 L.keeps.length a7) (vS a8 L.slips.length a9))) (sS (JF (d:=9) (T:=132) (ty:=132) (gd:=none) (by kernel_rfl) rfl (fun b3=>(sp 1 [(10,.agg #[vI L.places,vI L.sorts,vS a0 L.start.length a1,vS a6 L.keeps.length a7,vS a8 L.slips.length a9,.map (some b3)])] (sS (sb 11 134 #[vI L.places,vI L.sorts,vS a0 L.start.length a1,vS a6 L.keeps.length a7,vS a8 L.slips.length a9,.map (some b3)] (fun b5=>(sp 1 [(3,vP b5 0)] ?_)))))))))))));refine SW (b:=b5) (o:=Obj.cells #[vI L.places,vI L.sorts,vS a0 L.start.length a1,vS a6 L.keeps.length a7,vS a8 L.slips.length a9,.map (some b3)] 134 (0,0)) (M0:=((b3,Obj.map #[] 0)::(bX b1 (AS L (vS a0 L.start.length a1) (vS a6 L.keeps.length a7) (vS a8 L.slips.length a9)) 26)::F)) (PR _) (fun I7 b4 d4=>?_);replace b8:=b8.mono b4;replace b9:=b9.mono b4;replace c5:=fun i hi=>(c5 i hi).mono b4
 replace c0:=c0.mono b4;replace c1:=c1.mono b4;refine se (rq (rqr (sp 1 [(12,vP b1 2)] (sd (dlb 13 1 2 b1 (vS a0 L.start.length a1)) (sp 2 [(15,vI 0),(14,vI (↑(L.start.length)))] (se (rb 0 ?_)))))));refine rl (fun mz a w=>∃ k:Nat,∃ a3:Array MapEntry,∃ a2:Nat,(k≤L.start.length)∧(MapH a3 a2 (OZ L.start k))∧SD 38 [(15,vI ↑k),(2,.pointer none),(3,vP b5 0),(13,vS a0 L.start.length a1),(14,vI (↑(L.start.length)))] I7 ((b3,Obj.map a3 a2)::(bX b1 (AS L (vS a0 L.start.length a1) (vS a6 L.keeps.length a7) (vS a8 L.slips.length a9)) 26)::F) a w (mz=L.start.length-k)) ?_ ?_
 ·intro a w hS hD hW;exact ⟨_,0,#[],0,Nat.zero_le _,(MapH.nil _),hS.sub su,hD,hW,rfl⟩
 rintro mz a w ⟨k,a3,a2,hk,b0,hS,hD,hW,rfl⟩
 refine AU hS hD hW ?_;refine rqr (sp 1 [(16,.bool (cmp .lss ↑k (↑(L.start.length))))] (se (rq (rc 16 rfl (fun h1=>?_) (fun h1=>?_)))))
 ·
  have c9:=h1;have h1:=CI h1;refine AO (NX (rq (rb 1 (rqr (sp 1 [(17,vI ↑k)] (sd (di 18 1 k b9.addr) ?_))))));have c3:=c5 k (by omega);obtain ⟨b6,b7,d6,d9,c2,d7,d8,c4⟩:=id c3;rw [c2] at c3;refine sd (EU (dl 19 (HT b9 k (by omega))) c2) (sp 2 [(5,vS b6 (L.start.getD k []).length b7),(4,vI ↑k)] (sn (sp 3 [(22,vI 0),(21,vI (↑((L.start.getD k []).length))),(20,vS b6 (L.start.getD k []).length b7)] (se (rb 2 ?_)))));refine rl (fun mz a w=>∃ j:Nat,∃ a5:Array MapEntry,∃ a4:Nat,(j≤(L.start.getD k []).length)∧(MapH a5 a4 (QM ↑k (L.start.getD k []) j (OZ L.start k)))∧SD 38 [(22,vI ↑j),(2,.pointer none),(3,vP b5 0),(4,vI ↑k),(13,vS a0 L.start.length a1),(14,vI (↑(L.start.length))),(15,vI ↑k),(20,vS b6 (L.start.getD k []).length b7),(21,vI (↑((L.start.getD k []).length)))] I7 ((b3,Obj.map a5 a4)::(bX b1 (AS L (vS a0 L.start.length a1) (vS a6 L.keeps.length a7) (vS a8 L.slips.length a9)) 26)::F) a w (mz=(L.start.getD k []).length-j)) ?_ ?_
  ·intro a w hS hD hW;exact ⟨_,0,a3,a2,Nat.zero_le _,b0,hS.sub su,hD,hW,rfl⟩
  rintro mz a w ⟨j,a5,a4,hj,b2,hS,hD,hW,rfl⟩
  refine AU hS hD hW ?_;refine rqr (sp 1 [(23,.bool (cmp .lss ↑j (↑((L.start.getD k []).length))))] (se (rq (rc 23 rfl (fun h2=>?_) (fun h2=>?_)))))
  ·
   have d0:=h2;have h2:=CI h2;refine AO (NX (rq (rb 3 (rqr (sp 1 [(24,vI ↑j)] (sd (di 25 1 j c4.addr) (sd (dl 26 (DW c4 j (by omega))) (sp 2 [(7,vI ((L.start.getD k []).getD j 0)),(6,vI ↑j)] (se (rr (sp 2 [(28,vP b5 0)] (sd (dfa 29 28 134 1 5 0 rfl) (sd (dld 30 29 132 (.map (some b3)) rfl (AR d4 rfl)) (sp 4 [(34,vI ((L.start.getD k []).getD j 0)),(33,.agg #[vI ↑k,vI ↑j,.bool false])] (sS (stp_putH (x:=(.tmp 30)) (y:=(.tmp 33)) (u:=(.tmp 34)) (T:=132) (kt:=136) (et:=3) (k:=(⟨↑k,↑j,false⟩:HKey)) (H:=QM ↑k (L.start.getD k []) j (OZ L.start k)) (v:=(L.start.getD k []).getD j 0) 0 (ty:=0) (gd:=none) (by kernel_rfl) rfl (by kernel_rfl) (BD (by kernel_rfl) (by kernel_rfl)) rfl rfl rfl rfl b2 (fun c8 c7 c6=>(nm (ee (NB (NX (rr ?_))))))))))))))))))))));refine sd (da 35 ↑j 1) (sp 1 [(22,vI (↑j+1))] (ee ?_));refine AM ((L.start.getD k []).length-(j+1)) (by omega) ?_;intro a w hS hD hW;exact ⟨j+1,c8,c7,by omega,c6,hS.sub su,hD,hW,rfl⟩
  have d0:=h2;have h2:=CS h2;refine BW 2 (EP (EP (EB (NB (NX (rr (sd (da 36 ↑k 1) (sp 1 [(15,vI (↑k+1))] (ee ?_)))))))));refine AM (L.start.length-(k+1)) (by omega) ?_;intro a w hS hD hW;exact ⟨k+1,a5,a4,by omega,(openTo_done (st:=L.start) (k:=k) (j:=j) (by omega)▸b2),hS.sub su,hD,hW,rfl⟩
 have c9:=h1;have h1:=CS h1;refine BW 0 (EP (EP (EB (NX (rqr (sp 2 [(2,vP b5 0)] (se (BC (FL 2 ([(b3,Obj.map a3 a2)]) rfl (TK _ (TC _ (TR _))) b4 ?_)))))))));exact ⟨_,_,_,_,_,_,_,rfl,rfl,⟨d4,b8,c0,c1⟩,((openH_at (L:=L) (k:=k) (by omega))▸b0)⟩
noncomputable def c_DelSlip:=cod Tryz.f138
theorem DelSlip_ct (I:Imm) (v:Value) (xs:List Slip) (s_Ms:Seg) (f_id:FuncId) (f_cv:List Value) (p:Slip→Bool) (own:Own 28 8 AV v xs s_Ms) (f_c:CT Tryz.prog f_id=true) (f_h:∀ J,I.le J→∀ x:Slip,CtV Tryz.prog f_id (.agg #[vI x.num,vI x.hour,vI x.kind,vI x.place,vI x.to,vI x.sort,.bool x.soil,vI x.amt]::f_cv).toArray J (.bool (p x))) (hl:xs.length≤1000):Ct Tryz.prog 138 #[v,.func (.func f_id) #[] f_cv.toArray] I s_Ms (fun u I' M'=>Own 28 8 AV u (xs.filter fun x=>!p x) M'):=by
 obtain ⟨a2,a3,rfl,d3⟩:=own.shape;refine fr (args:=[_,_]) (N:=42) Tryz.func138 (fun F=>?_);show Run _ _ (c_DelSlip []) _ _ [(0,_),(1,_)] _ _;refine rnm (rqr ?_);refine sp 1 [(4,vN)] (sn (sp 2 [(9,.func (.func f_id) #[] f_cv.toArray),(8,vS a2 xs.length a3)] ?_));have b3:=ct_own (I:=I) AB own (by omega) (fun I' hI hs_l=>(MP I' _ _ f_id f_cv p hs_l f_c (OT hI f_h) :));refine sS (sc (some 10) (F:=(F)) (b3 :) (.refl _) (fun d2 I1 d1 a6 c3=>?_));obtain ⟨b7,b6⟩:=c3;rw [b7,b6];clear b7 b6;replace f_h:=OT a6 f_h;refine nm ?_;show Seq _ _ _ _ _ _ ((10,vI (KX p xs))::_) _ _;refine sp 1 [(5,vI (KX p xs))] (se (rq (rqr (sp 2 [(12,.bool (cmp .eql (KX p xs) (-1)))] (se (rc 12 rfl (fun h1=>?_) (fun h1=>?_)))))))
 ·
  have b0:=h1;have h1:=BG h1;refine rqr (sp 2 [(4,vS a2 xs.length a3)] (se (BC (RP (FL 4 s_Ms rfl (TA (TR _) _) a6 ?_)))));exact (filter_noneD h1).symm▸own
 have b0:=h1;have h1:=BN h1;refine AO (NX (rq (rq ?_)));have c6:=idxF_ge (p:=p) (xs:=xs);obtain ⟨i0,b9,c0,c1,c2⟩:=MD (p:=p) (l:=xs) (d:=AB) (by omega);rw [b9];refine rr (sp 1 [(14,vI ↑i0)] (sd (da 15 ↑i0 1) (sp 1 [(6,vI (↑i0+1))] (se (rb 0 ?_)))));refine rl (fun mz a w=>∃ i:Nat,∃ j:Nat,∃ zs:List Slip,∃ a1:Seg,(DelI p xs zs i j)∧(Own 28 8 AV (vS a2 xs.length a3) zs a1)∧SD 42 [(0,(vS a2 xs.length a3)),(5,vI ↑i),(6,vI ↑j),(1,.func (.func f_id) #[] f_cv.toArray),(4,vN)] I1 (a1++F) a w (mz=xs.length-j)) ?_ ?_
 ·intro a w hS hD hW;exact ⟨_,i0,i0+1,xs,s_Ms,DelI.start (d:=AB) c0 c1 c2,own,hS.sub su,hD,hW,rfl⟩
 rintro mz a w ⟨i,j,zs,a1,a9,a0,hS,hD,hW,rfl⟩
 refine AU hS hD hW ?_;clear hS hD hW a w;obtain ⟨c9,c7,c8,_,_⟩:=id a9;refine rq (rqr (sp 4 [(19,.bool (cmp .lss ↑j (↑(xs.length))))] (se (rc 19 rfl (fun h2=>?_) (fun h2=>?_)))))
 ·
  have b1:=h2;have h2:=CI h2;refine AO (NX (rq (rb 1 (rqr (sp 2 [(23,vI ↑j),(22,vS a2 xs.length a3)] ?_)))));obtain ⟨d0,a4⟩:=a0.row AB;refine sd (di 24 8 j (fun _=>a4.addr (by omega)) (n:=xs.length)) (sd (dn 25 (HD (vals:=DJ) (fun _=>rfl) a4 (fun x hx=>by simp [hx]) j (by omega))) (sS (sal 7 28 JK (fun a8=>(sS (ss 0 0 a8 (GX (zs.getD j AB)) (GX (zs.getD j AB)) (_::_) (cs:=[_,_,_,_,_,_,_,_]) rfl rfl (sn (sp 1 [(26,.func (.func f_id) #[] f_cv.toArray)] (sd (dnb 27 0 0 a8 (GX (zs.getD j AB))) (sd (MR (f:=(.tmp 26)) (fid:=f_id) (args:=#[(.tmp 27)]) (tys:=#[28]) (cv:=f_cv) (v:=.bool (p (zs.getD j AB))) (d:=28) (ty:=4) (gd:=none) (by kernel_rfl) rfl rfl rfl f_c rfl (fun I' hI=>f_h I' hI (zs.getD j AB))) (sp 1 [(29,.bool (!(p (zs.getD j AB))))] (se (rc 29 rfl (fun h3=>?_) (fun h3=>?_))))))))))))))
  ·
   have b2:=h3;have h3:=BP h3;refine rqr (sp 2 [(31,vI ↑i),(30,vS a2 xs.length a3)] (sd (dnb 32 0 0 a8 (GX (zs.getD j AB))) ?_));obtain ⟨c4,a5⟩:=a0.row AB;refine sd (di 33 8 i (fun _=>a5.addr (by omega)) (n:=xs.length)) (sS (FY (T:=28) (x:=(.tmp 33)) (y:=(.tmp 32)) (rc:=fun i f=>AV ((zs).getD i AB) f) AB i (zs.getD j AB) (ty:=0) (gd:=none) (by kernel_rfl) rfl a0 a5 (by omega) rfl rfl (by kernel_rfl) rfl (OY _) PM.symm (fun a7 b4=>(pm (M':=((bX a8 (BK (zs.getD j AB)) 28)::(a7++F))) PM (se (rr (sp 1 [(34,vI ↑i)] (sd (da 35 ↑i 1) (sp 1 [(5,vI (↑i+1))] (ee (NB (NX (rr (sp 1 [(20,vI ↑j)] (sd (da 21 ↑j 1) (sp 1 [(6,vI (↑j+1))] (ee ?_)))))))))))))))));refine AM (xs.length-(j+1)) (by omega) ?_;intro a w hS hD hW;exact ⟨i+1,j+1,zs.set i (zs.getD j AB),a7,a9.keep (by omega) h3,b4,hS.sub su,hD,(hW.perm (PR _)).sub (TC _ (TR _)),rfl⟩
  have b2:=h3;have h3:=BI h3;refine AO (NB (NX (rr (sp 1 [(20,vI ↑j)] (sd (da 21 ↑j 1) (sp 1 [(6,vI (↑j+1))] (ee ?_)))))));refine AM (xs.length-(j+1)) (by omega) ?_;intro a w hS hD hW;exact ⟨i,j+1,zs,a1,a9.skip (by omega) h3,a0,hS.sub su,hD,(hW.perm (PR _)).sub (TC _ (TR _)),rfl⟩
 have b1:=h2;have h2:=CS h2;refine BW 0 (EP (EP (EB (NX (rqr (sp 2 [(37,vI ↑i),(36,vS a2 xs.length a3)] (sd (KH (x:=(.tmp 36)) (lo:=some (.tmp 37)) (hi:=none) (T:=24) (e:=28) (sz:=8) i xs.length (d:=38) (ty:=24) (gd:=none) (by kernel_rfl) rfl (by kernel_rfl) (by kernel_rfl) rfl (.inr ⟨_,.i64,rfl,rfl⟩) (.inl ⟨rfl,rfl⟩) (by omega) (by omega)) (sS (stp_clearTail (x:=(.tmp 38)) (T:=24) (E:=28) (sz:=8) (z:=.agg JK) (dst:=none) (cell:=AV) (a:=a2) (n:=xs.length) (c:=a3) (k:=i) (xs:=zs) (ty:=0) (gd:=none) (by kernel_rfl) rfl (by kernel_rfl) (by kernel_rfl) rfl (by decide) (by decide) a0 (by omega) rfl (PR _) (fun b8 b5=>?_))))))))));rw [a9.done (by omega)] at b5;refine nm (sn ?_);refine sp 2 [(40,vI ↑i),(39,vS a2 xs.length a3)] (sd (EU (KH (x:=(.tmp 39)) (lo:=none) (hi:=some (.tmp 40)) (T:=24) (e:=28) (sz:=8) 0 i (d:=41) (ty:=24) (gd:=none) (by kernel_rfl) rfl (by kernel_rfl) (by kernel_rfl) rfl (.inl ⟨rfl,rfl⟩) (.inr ⟨_,.i64,rfl,rfl⟩) (by omega) (by omega)) b5.cutE) (sp 1 [(4,vS a2 i a3)] (se (BC (FL 4 b8 rfl (TA (TR _) _) a6 ?_)))));exact b5
noncomputable def c_bmove:=cod Tryz.f117
theorem bmove_ct (I:Imm) (b:Nat) (b_1 b_2 b_3:Value) (b_r:Nat) (b_es:Array MapEntry) (b_cl:Nat) (L:Lin) (H:Hs) (s:Slip) (b_b:IsBook 134 I b b_1 b_2 b_3 b_r L) (b_is:MapH b_es b_cl H) (hH:Within 1000000 H) (ha:0≤s.amt∧s.amt≤50):Ct Tryz.prog 117 #[vP b 0,.agg #[vI s.num,vI s.hour,vI s.kind,vI s.place,vI s.to,vI s.sort,.bool s.soil,vI s.amt]] I ([(b_r,Obj.map b_es b_cl)]) (fun v I' M'=>∃ b_et:Array MapEntry,∃ b_ct:Nat,v=.tuple #[]∧M'=[(b_r,Obj.map b_et b_ct)]∧MapH b_et b_ct (PP ⟨s.to,s.sort,s.soil⟩ s.amt (PP ⟨s.place,s.sort,s.soil⟩ (-s.amt) H))):=by
 obtain ⟨d6,a1,a3,a5⟩:=id b_b;obtain ⟨b4,b6,b5,b9,b0,rfl,b7,b8,c0,c1⟩:=id a1;obtain ⟨c2,c4,c3,c7,rfl,c5,c6,c8⟩:=id a3;obtain ⟨c9,d1,d0,d4,rfl,d2,d3,d5⟩:=id a5;refine fr (args:=[_,_]) (N:=38) Tryz.func117 (fun F=>?_);show Run _ _ (c_bmove []) _ _ [(0,_),(1,_)] _ _;refine rnm (rqr ?_);refine sS (sb 3 28 (BK s) (fun b1=>(se (rq ?_))));refine rdX (M:=((bX b1 (BK s) 28)::(b_r,Obj.map b_es b_cl)::[])) (F0:=F) [] 17 [(0,true),(1,true),(2,true),(3,true),(4,true),(5,true),(6,true),(7,true),(8,true),(9,true),(10,true),(11,true),(12,true),(13,true),(14,true),(15,false),(16,true)] (by simp only [AA,CA,NA,List.append_nil];exact PR _) HI ?_;refine AF (dpv 4 (vP b 0)) ?_;refine AF (dpv 5 (vP b 0)) ?_;refine AF (dfa 6 5 134 1 5 0 rfl) ?_;refine AF (dld 7 6 132 (.map (some b_r)) rfl (AR d6 rfl)) ?_;refine AF (dpv 8 (vP b1 3)) ?_;refine AF (dlb 9 0 3 b1 (vI s.place)) ?_;refine AF (dpv 10 (vP b1 5)) ?_;refine AF (dlb 11 0 5 b1 (vI s.sort)) ?_;refine AF (dpv 12 (vP b1 6)) ?_;refine AF (dlb 13 0 6 b1 (.bool s.soil)) ?_;refine AF (dpv 14 (.agg #[vI s.place,vI s.sort,.bool s.soil])) ?_;refine IK (LkPr b_r MT (⟨s.place,s.sort,s.soil⟩:HKey) (vI 0) (vI (DF (⟨s.place,s.sort,s.soil⟩:HKey) H))) (KY b_is.1 (BQ (⟨s.place,s.sort,s.soil⟩:HKey) H)) (PS _ _ _) (EY (x:=(.tmp 7)) (y:=(.tmp 14)) (T:=132) (kt:=136) (et:=3) (k:=(⟨s.place,s.sort,s.soil⟩:HKey)) (z:=vI 0) (d:=15) (ty:=3) (gd:=none) (by kernel_rfl) rfl (by kernel_rfl) (BD (by kernel_rfl) (by kernel_rfl)) rfl rfl (by kernel_rfl)) ?_;refine AF (dpv 16 (vP b1 7)) ?_;refine AF (dlb 17 0 7 b1 (vI s.amt)) ?_;have e4:=hH ⟨s.place,s.sort,s.soil⟩;refine AX (dsb 18 (DF (⟨s.place,s.sort,s.soil⟩:HKey) H) s.amt) ?_;refine DA (Mx:=fun FX=>((bX b1 (BK s) 28)::(b_r,Obj.map b_es b_cl)::FX)) rfl (fun FX=>by simp only [AA,CA,NA,List.append_nil];exact PR _) (fun FX=>?_);refine id (JV (d:=19) (x:=(.tmp 7)) (y:=(.tmp 14)) (T:=132) (kt:=136) (et:=3) (k:=(⟨s.place,s.sort,s.soil⟩:HKey)) (H:=H) 1 (ty:=0) (gd:=none) (by kernel_rfl) rfl (by kernel_rfl) (BD (by kernel_rfl) (by kernel_rfl)) rfl rfl (by kernel_rfl) rfl b_is (fun d7 a9 e0 a6=>?_));refine EV (M1:=((bX b1 (BK s) 28)::(b_r,Obj.map d7 a9)::[])) (by exact (PR _)) (.none (.wt (.wt (.other (IJ a6.1 rfl (BQ (⟨s.place,s.sort,s.soil⟩:HKey) H)) (PS _ _ _) (.wt (.wt (.wt (.wt (.wt (.wt (.wt (.wt (.wt (.wt (.wt .nil))))))))))))))) ?_;show OFPX _ _ _ _ _ _ _ _ _ _ ((19,.tuple #[vI (DF (⟨s.place,s.sort,s.soil⟩:HKey) H),vI ↑e0])::_) _ _;refine AF (dpv 20 (vI ↑e0)) ?_;refine FP (AW (M':=((bX b1 (BK s) 28)::(b_r,Obj.map d7 a9)::F)) (fun w h=>by simpa only [AA,CA,NA,List.append_nil] using h) (nm ?_));refine sS (IB (x:=(.tmp 7)) (y:=(.tmp 20)) (u:=(.tmp 18)) (T:=132) (k:=(⟨s.place,s.sort,s.soil⟩:HKey)) (v:=(DF (⟨s.place,s.sort,s.soil⟩:HKey) H)-s.amt) 1 (ty:=0) (gd:=none) (by kernel_rfl) rfl rfl rfl rfl rfl a6 (fun d8 a7=>(nm (se ?_))));refine rdX (M:=((bX b1 (BK s) 28)::(b_r,Obj.map d8 a9)::[])) (F0:=F) [] 17 [(0,true),(1,true),(2,true),(3,true),(4,true),(5,true),(6,true),(7,true),(8,true),(9,true),(10,true),(11,true),(12,true),(13,true),(14,true),(15,false),(16,true)] (by simp only [AA,CA,NA,List.append_nil];exact PR _) HI ?_;refine AF (dpv 21 (vP b 0)) ?_;refine AF (dpv 22 (vP b 0)) ?_;refine AF (dfa 23 22 134 1 5 0 rfl) ?_;refine AF (dld 24 23 132 (.map (some b_r)) rfl (AR d6 rfl)) ?_;refine AF (dpv 25 (vP b1 4)) ?_;refine AF (dlb 26 0 4 b1 (vI s.to)) ?_;refine AF (dpv 27 (vP b1 5)) ?_;refine AF (dlb 28 0 5 b1 (vI s.sort)) ?_;refine AF (dpv 29 (vP b1 6)) ?_;refine AF (dlb 30 0 6 b1 (.bool s.soil)) ?_;refine AF (dpv 31 (.agg #[vI s.to,vI s.sort,.bool s.soil])) ?_;refine IK (LkPr b_r MT (⟨s.to,s.sort,s.soil⟩:HKey) (vI 0) (vI (DF (⟨s.to,s.sort,s.soil⟩:HKey) (KC (⟨s.place,s.sort,s.soil⟩:HKey) ((DF (⟨s.place,s.sort,s.soil⟩:HKey) H)-s.amt) H)))) (KY a7.1 (BQ (⟨s.to,s.sort,s.soil⟩:HKey) (KC (⟨s.place,s.sort,s.soil⟩:HKey) ((DF (⟨s.place,s.sort,s.soil⟩:HKey) H)-s.amt) H))) (PS _ _ _) (EY (x:=(.tmp 24)) (y:=(.tmp 31)) (T:=132) (kt:=136) (et:=3) (k:=(⟨s.to,s.sort,s.soil⟩:HKey)) (z:=vI 0) (d:=32) (ty:=3) (gd:=none) (by kernel_rfl) rfl (by kernel_rfl) (BD (by kernel_rfl) (by kernel_rfl)) rfl rfl (by kernel_rfl)) ?_;refine AF (dpv 33 (vP b1 7)) ?_;refine AF (dlb 34 0 7 b1 (vI s.amt)) ?_;have e3:=(hH.add (k:=⟨s.place,s.sort,s.soil⟩) (d:=-s.amt) (by omega) (by omega)) ⟨s.to,s.sort,s.soil⟩;rw [show PP ⟨s.place,s.sort,s.soil⟩ (-s.amt) H=KC ⟨s.place,s.sort,s.soil⟩ (DF ⟨s.place,s.sort,s.soil⟩ H-s.amt) H from rfl] at e3;refine AX (da 35 (DF (⟨s.to,s.sort,s.soil⟩:HKey) (KC (⟨s.place,s.sort,s.soil⟩:HKey) ((DF (⟨s.place,s.sort,s.soil⟩:HKey) H)-s.amt) H)) s.amt) ?_;refine DA (Mx:=fun FX=>((bX b1 (BK s) 28)::(b_r,Obj.map d8 a9)::FX)) rfl (fun FX=>by simp only [AA,CA,NA,List.append_nil];exact PR _) (fun FX=>?_);refine id (JV (d:=36) (x:=(.tmp 24)) (y:=(.tmp 31)) (T:=132) (kt:=136) (et:=3) (k:=(⟨s.to,s.sort,s.soil⟩:HKey)) (H:=KC (⟨s.place,s.sort,s.soil⟩:HKey) ((DF (⟨s.place,s.sort,s.soil⟩:HKey) H)-s.amt) H) 1 (ty:=0) (gd:=none) (by kernel_rfl) rfl (by kernel_rfl) (BD (by kernel_rfl) (by kernel_rfl)) rfl rfl (by kernel_rfl) rfl a7 (fun d9 b2 e1 a8=>?_));refine EV (M1:=((bX b1 (BK s) 28)::(b_r,Obj.map d9 b2)::[])) (by exact (PR _)) (.none (.wt (.wt (.other (IJ a8.1 rfl (BQ (⟨s.to,s.sort,s.soil⟩:HKey) (KC (⟨s.place,s.sort,s.soil⟩:HKey) ((DF (⟨s.place,s.sort,s.soil⟩:HKey) H)-s.amt) H))) (PS _ _ _) (.wt (.wt (.wt (.wt (.wt (.wt (.wt (.wt (.wt (.wt (.wt .nil))))))))))))))) ?_;show OFPX _ _ _ _ _ _ _ _ _ _ ((36,.tuple #[vI (DF (⟨s.to,s.sort,s.soil⟩:HKey) (KC (⟨s.place,s.sort,s.soil⟩:HKey) ((DF (⟨s.place,s.sort,s.soil⟩:HKey) H)-s.amt) H)),vI ↑e1])::_) _ _;refine AF (dpv 37 (vI ↑e1)) ?_;refine FP (AW (M':=((bX b1 (BK s) 28)::(b_r,Obj.map d9 b2)::F)) (fun w h=>by simpa only [AA,CA,NA,List.append_nil] using h) (nm ?_));refine sS (IB (x:=(.tmp 24)) (y:=(.tmp 37)) (u:=(.tmp 35)) (T:=132) (k:=(⟨s.to,s.sort,s.soil⟩:HKey)) (v:=(DF (⟨s.to,s.sort,s.soil⟩:HKey) (KC (⟨s.place,s.sort,s.soil⟩:HKey) ((DF (⟨s.place,s.sort,s.soil⟩:HKey) H)-s.amt) H))+s.amt) 1 (ty:=0) (gd:=none) (by kernel_rfl) rfl rfl rfl rfl rfl a8 (fun e2 b3=>(nm (ee ?_))));refine ppm (PS _ _ _) ?_;refine EL ([(b_r,Obj.map e2 b2)]) (by kernel_rfl) (TK _ (TC _ (TR _))) (IR _) ?_;exact ⟨_,_,rfl,rfl,b3⟩
noncomputable def c_buse:=cod Tryz.f118
theorem buse_ct (I:Imm) (b:Nat) (b_1 b_2 b_3:Value) (b_r:Nat) (b_es:Array MapEntry) (b_cl:Nat) (L:Lin) (H:Hs) (s:Slip) (b_b:IsBook 134 I b b_1 b_2 b_3 b_r L) (b_is:MapH b_es b_cl H) (hH:Within 1000000 H) (ha:0≤s.amt∧s.amt≤50):Ct Tryz.prog 118 #[vP b 0,.agg #[vI s.num,vI s.hour,vI s.kind,vI s.place,vI s.to,vI s.sort,.bool s.soil,vI s.amt]] I ([(b_r,Obj.map b_es b_cl)]) (fun v I' M'=>∃ b_et:Array MapEntry,∃ b_ct:Nat,v=.tuple #[]∧M'=[(b_r,Obj.map b_et b_ct)]∧MapH b_et b_ct (PP ⟨s.place,s.sort,true⟩ s.amt (PP ⟨s.place,s.sort,false⟩ (-s.amt) H))):=by
 obtain ⟨d6,a1,a3,a5⟩:=id b_b;obtain ⟨b4,b6,b5,b9,b0,rfl,b7,b8,c0,c1⟩:=id a1;obtain ⟨c2,c4,c3,c7,rfl,c5,c6,c8⟩:=id a3;obtain ⟨c9,d1,d0,d4,rfl,d2,d3,d5⟩:=id a5;refine fr (args:=[_,_]) (N:=34) Tryz.func118 (fun F=>?_);show Run _ _ (c_buse []) _ _ [(0,_),(1,_)] _ _;refine rnm (rqr ?_);refine sS (sb 3 28 (BK s) (fun b1=>(se (rq ?_))));refine rdX (M:=((bX b1 (BK s) 28)::(b_r,Obj.map b_es b_cl)::[])) (F0:=F) [] 15 [(0,true),(1,true),(2,true),(3,true),(4,true),(5,true),(6,true),(7,true),(8,true),(9,true),(10,true),(11,true),(12,true),(13,false),(14,true)] (by simp only [AA,CA,NA,List.append_nil];exact PR _) HI ?_;refine AF (dpv 4 (vP b 0)) ?_;refine AF (dpv 5 (vP b 0)) ?_;refine AF (dfa 6 5 134 1 5 0 rfl) ?_;refine AF (dld 7 6 132 (.map (some b_r)) rfl (AR d6 rfl)) ?_;refine AF (dpv 8 (vP b1 3)) ?_;refine AF (dlb 9 0 3 b1 (vI s.place)) ?_;refine AF (dpv 10 (vP b1 5)) ?_;refine AF (dlb 11 0 5 b1 (vI s.sort)) ?_;refine AF (dpv 12 (.agg #[vI s.place,vI s.sort,.bool false])) ?_;refine IK (LkPr b_r MT (⟨s.place,s.sort,false⟩:HKey) (vI 0) (vI (DF (⟨s.place,s.sort,false⟩:HKey) H))) (KY b_is.1 (BQ (⟨s.place,s.sort,false⟩:HKey) H)) (PS _ _ _) (EY (x:=(.tmp 7)) (y:=(.tmp 12)) (T:=132) (kt:=136) (et:=3) (k:=(⟨s.place,s.sort,false⟩:HKey)) (z:=vI 0) (d:=13) (ty:=3) (gd:=none) (by kernel_rfl) rfl (by kernel_rfl) (BD (by kernel_rfl) (by kernel_rfl)) rfl rfl (by kernel_rfl)) ?_;refine AF (dpv 14 (vP b1 7)) ?_;refine AF (dlb 15 0 7 b1 (vI s.amt)) ?_;have e4:=hH ⟨s.place,s.sort,false⟩;refine AX (dsb 16 (DF (⟨s.place,s.sort,false⟩:HKey) H) s.amt) ?_;refine DA (Mx:=fun FX=>((bX b1 (BK s) 28)::(b_r,Obj.map b_es b_cl)::FX)) rfl (fun FX=>by simp only [AA,CA,NA,List.append_nil];exact PR _) (fun FX=>?_);refine id (JV (d:=17) (x:=(.tmp 7)) (y:=(.tmp 12)) (T:=132) (kt:=136) (et:=3) (k:=(⟨s.place,s.sort,false⟩:HKey)) (H:=H) 1 (ty:=0) (gd:=none) (by kernel_rfl) rfl (by kernel_rfl) (BD (by kernel_rfl) (by kernel_rfl)) rfl rfl (by kernel_rfl) rfl b_is (fun d7 a9 e0 a6=>?_));refine EV (M1:=((bX b1 (BK s) 28)::(b_r,Obj.map d7 a9)::[])) (by exact (PR _)) (.none (.wt (.wt (.other (IJ a6.1 rfl (BQ (⟨s.place,s.sort,false⟩:HKey) H)) (PS _ _ _) (.wt (.wt (.wt (.wt (.wt (.wt (.wt (.wt (.wt .nil))))))))))))) ?_;show OFPX _ _ _ _ _ _ _ _ _ _ ((17,.tuple #[vI (DF (⟨s.place,s.sort,false⟩:HKey) H),vI ↑e0])::_) _ _;refine AF (dpv 18 (vI ↑e0)) ?_;refine FP (AW (M':=((bX b1 (BK s) 28)::(b_r,Obj.map d7 a9)::F)) (fun w h=>by simpa only [AA,CA,NA,List.append_nil] using h) (nm ?_));refine sS (IB (x:=(.tmp 7)) (y:=(.tmp 18)) (u:=(.tmp 16)) (T:=132) (k:=(⟨s.place,s.sort,false⟩:HKey)) (v:=(DF (⟨s.place,s.sort,false⟩:HKey) H)-s.amt) 1 (ty:=0) (gd:=none) (by kernel_rfl) rfl rfl rfl rfl rfl a6 (fun d8 a7=>(nm (se ?_))));refine rdX (M:=((bX b1 (BK s) 28)::(b_r,Obj.map d8 a9)::[])) (F0:=F) [] 15 [(0,true),(1,true),(2,true),(3,true),(4,true),(5,true),(6,true),(7,true),(8,true),(9,true),(10,true),(11,true),(12,true),(13,false),(14,true)] (by simp only [AA,CA,NA,List.append_nil];exact PR _) HI ?_;refine AF (dpv 19 (vP b 0)) ?_;refine AF (dpv 20 (vP b 0)) ?_;refine AF (dfa 21 20 134 1 5 0 rfl) ?_;refine AF (dld 22 21 132 (.map (some b_r)) rfl (AR d6 rfl)) ?_;refine AF (dpv 23 (vP b1 3)) ?_;refine AF (dlb 24 0 3 b1 (vI s.place)) ?_;refine AF (dpv 25 (vP b1 5)) ?_;refine AF (dlb 26 0 5 b1 (vI s.sort)) ?_;refine AF (dpv 27 (.agg #[vI s.place,vI s.sort,.bool true])) ?_;refine IK (LkPr b_r MT (⟨s.place,s.sort,true⟩:HKey) (vI 0) (vI (DF (⟨s.place,s.sort,true⟩:HKey) (KC (⟨s.place,s.sort,false⟩:HKey) ((DF (⟨s.place,s.sort,false⟩:HKey) H)-s.amt) H)))) (KY a7.1 (BQ (⟨s.place,s.sort,true⟩:HKey) (KC (⟨s.place,s.sort,false⟩:HKey) ((DF (⟨s.place,s.sort,false⟩:HKey) H)-s.amt) H))) (PS _ _ _) (EY (x:=(.tmp 22)) (y:=(.tmp 27)) (T:=132) (kt:=136) (et:=3) (k:=(⟨s.place,s.sort,true⟩:HKey)) (z:=vI 0) (d:=28) (ty:=3) (gd:=none) (by kernel_rfl) rfl (by kernel_rfl) (BD (by kernel_rfl) (by kernel_rfl)) rfl rfl (by kernel_rfl)) ?_;refine AF (dpv 29 (vP b1 7)) ?_;refine AF (dlb 30 0 7 b1 (vI s.amt)) ?_;have e3:=(hH.add (k:=⟨s.place,s.sort,false⟩) (d:=-s.amt) (by omega) (by omega)) ⟨s.place,s.sort,true⟩;rw [show PP ⟨s.place,s.sort,false⟩ (-s.amt) H=KC ⟨s.place,s.sort,false⟩ (DF ⟨s.place,s.sort,false⟩ H-s.amt) H from rfl] at e3;refine AX (da 31 (DF (⟨s.place,s.sort,true⟩:HKey) (KC (⟨s.place,s.sort,false⟩:HKey) ((DF (⟨s.place,s.sort,false⟩:HKey) H)-s.amt) H)) s.amt) ?_;refine DA (Mx:=fun FX=>((bX b1 (BK s) 28)::(b_r,Obj.map d8 a9)::FX)) rfl (fun FX=>by simp only [AA,CA,NA,List.append_nil];exact PR _) (fun FX=>?_);refine id (JV (d:=32) (x:=(.tmp 22)) (y:=(.tmp 27)) (T:=132) (kt:=136) (et:=3) (k:=(⟨s.place,s.sort,true⟩:HKey)) (H:=KC (⟨s.place,s.sort,false⟩:HKey) ((DF (⟨s.place,s.sort,false⟩:HKey) H)-s.amt) H) 1 (ty:=0) (gd:=none) (by kernel_rfl) rfl (by kernel_rfl) (BD (by kernel_rfl) (by kernel_rfl)) rfl rfl (by kernel_rfl) rfl a7 (fun d9 b2 e1 a8=>?_));refine EV (M1:=((bX b1 (BK s) 28)::(b_r,Obj.map d9 b2)::[])) (by exact (PR _)) (.none (.wt (.wt (.other (IJ a8.1 rfl (BQ (⟨s.place,s.sort,true⟩:HKey) (KC (⟨s.place,s.sort,false⟩:HKey) ((DF (⟨s.place,s.sort,false⟩:HKey) H)-s.amt) H))) (PS _ _ _) (.wt (.wt (.wt (.wt (.wt (.wt (.wt (.wt (.wt .nil))))))))))))) ?_;show OFPX _ _ _ _ _ _ _ _ _ _ ((32,.tuple #[vI (DF (⟨s.place,s.sort,true⟩:HKey) (KC (⟨s.place,s.sort,false⟩:HKey) ((DF (⟨s.place,s.sort,false⟩:HKey) H)-s.amt) H)),vI ↑e1])::_) _ _;refine AF (dpv 33 (vI ↑e1)) ?_;refine FP (AW (M':=((bX b1 (BK s) 28)::(b_r,Obj.map d9 b2)::F)) (fun w h=>by simpa only [AA,CA,NA,List.append_nil] using h) (nm ?_));refine sS (IB (x:=(.tmp 22)) (y:=(.tmp 33)) (u:=(.tmp 31)) (T:=132) (k:=(⟨s.place,s.sort,true⟩:HKey)) (v:=(DF (⟨s.place,s.sort,true⟩:HKey) (KC (⟨s.place,s.sort,false⟩:HKey) ((DF (⟨s.place,s.sort,false⟩:HKey) H)-s.amt) H))+s.amt) 1 (ty:=0) (gd:=none) (by kernel_rfl) rfl rfl rfl rfl rfl a8 (fun e2 b3=>(nm (ee ?_))));refine ppm (PS _ _ _) ?_;refine EL ([(b_r,Obj.map e2 b2)]) (by kernel_rfl) (TK _ (TC _ (TR _))) (IR _) ?_;exact ⟨_,_,rfl,rfl,b3⟩
noncomputable def c_bwash:=cod Tryz.f119
theorem bwash_ct (I:Imm) (b:Nat) (b_1 b_2 b_3:Value) (b_r:Nat) (b_es:Array MapEntry) (b_cl:Nat) (L:Lin) (H:Hs) (s:Slip) (b_b:IsBook 134 I b b_1 b_2 b_3 b_r L) (b_is:MapH b_es b_cl H) (hH:Within 1000000 H) (ha:0≤s.amt∧s.amt≤50):Ct Tryz.prog 119 #[vP b 0,.agg #[vI s.num,vI s.hour,vI s.kind,vI s.place,vI s.to,vI s.sort,.bool s.soil,vI s.amt]] I ([(b_r,Obj.map b_es b_cl)]) (fun v I' M'=>∃ b_et:Array MapEntry,∃ b_ct:Nat,v=.tuple #[]∧M'=[(b_r,Obj.map b_et b_ct)]∧MapH b_et b_ct (PP ⟨s.place,s.sort,false⟩ s.amt (PP ⟨s.place,s.sort,true⟩ (-s.amt) H))):=by
 obtain ⟨d6,a1,a3,a5⟩:=id b_b;obtain ⟨b4,b6,b5,b9,b0,rfl,b7,b8,c0,c1⟩:=id a1;obtain ⟨c2,c4,c3,c7,rfl,c5,c6,c8⟩:=id a3;obtain ⟨c9,d1,d0,d4,rfl,d2,d3,d5⟩:=id a5;refine fr (args:=[_,_]) (N:=34) Tryz.func119 (fun F=>?_);show Run _ _ (c_bwash []) _ _ [(0,_),(1,_)] _ _;refine rnm (rqr ?_);refine sS (sb 3 28 (BK s) (fun b1=>(se (rq ?_))));refine rdX (M:=((bX b1 (BK s) 28)::(b_r,Obj.map b_es b_cl)::[])) (F0:=F) [] 15 [(0,true),(1,true),(2,true),(3,true),(4,true),(5,true),(6,true),(7,true),(8,true),(9,true),(10,true),(11,true),(12,true),(13,false),(14,true)] (by simp only [AA,CA,NA,List.append_nil];exact PR _) HI ?_;refine AF (dpv 4 (vP b 0)) ?_;refine AF (dpv 5 (vP b 0)) ?_;refine AF (dfa 6 5 134 1 5 0 rfl) ?_;refine AF (dld 7 6 132 (.map (some b_r)) rfl (AR d6 rfl)) ?_;refine AF (dpv 8 (vP b1 3)) ?_;refine AF (dlb 9 0 3 b1 (vI s.place)) ?_;refine AF (dpv 10 (vP b1 5)) ?_;refine AF (dlb 11 0 5 b1 (vI s.sort)) ?_;refine AF (dpv 12 (.agg #[vI s.place,vI s.sort,.bool true])) ?_;refine IK (LkPr b_r MT (⟨s.place,s.sort,true⟩:HKey) (vI 0) (vI (DF (⟨s.place,s.sort,true⟩:HKey) H))) (KY b_is.1 (BQ (⟨s.place,s.sort,true⟩:HKey) H)) (PS _ _ _) (EY (x:=(.tmp 7)) (y:=(.tmp 12)) (T:=132) (kt:=136) (et:=3) (k:=(⟨s.place,s.sort,true⟩:HKey)) (z:=vI 0) (d:=13) (ty:=3) (gd:=none) (by kernel_rfl) rfl (by kernel_rfl) (BD (by kernel_rfl) (by kernel_rfl)) rfl rfl (by kernel_rfl)) ?_;refine AF (dpv 14 (vP b1 7)) ?_;refine AF (dlb 15 0 7 b1 (vI s.amt)) ?_;have e4:=hH ⟨s.place,s.sort,true⟩;refine AX (dsb 16 (DF (⟨s.place,s.sort,true⟩:HKey) H) s.amt) ?_;refine DA (Mx:=fun FX=>((bX b1 (BK s) 28)::(b_r,Obj.map b_es b_cl)::FX)) rfl (fun FX=>by simp only [AA,CA,NA,List.append_nil];exact PR _) (fun FX=>?_);refine id (JV (d:=17) (x:=(.tmp 7)) (y:=(.tmp 12)) (T:=132) (kt:=136) (et:=3) (k:=(⟨s.place,s.sort,true⟩:HKey)) (H:=H) 1 (ty:=0) (gd:=none) (by kernel_rfl) rfl (by kernel_rfl) (BD (by kernel_rfl) (by kernel_rfl)) rfl rfl (by kernel_rfl) rfl b_is (fun d7 a9 e0 a6=>?_));refine EV (M1:=((bX b1 (BK s) 28)::(b_r,Obj.map d7 a9)::[])) (by exact (PR _)) (.none (.wt (.wt (.other (IJ a6.1 rfl (BQ (⟨s.place,s.sort,true⟩:HKey) H)) (PS _ _ _) (.wt (.wt (.wt (.wt (.wt (.wt (.wt (.wt (.wt .nil))))))))))))) ?_;show OFPX _ _ _ _ _ _ _ _ _ _ ((17,.tuple #[vI (DF (⟨s.place,s.sort,true⟩:HKey) H),vI ↑e0])::_) _ _;refine AF (dpv 18 (vI ↑e0)) ?_;refine FP (AW (M':=((bX b1 (BK s) 28)::(b_r,Obj.map d7 a9)::F)) (fun w h=>by simpa only [AA,CA,NA,List.append_nil] using h) (nm ?_));refine sS (IB (x:=(.tmp 7)) (y:=(.tmp 18)) (u:=(.tmp 16)) (T:=132) (k:=(⟨s.place,s.sort,true⟩:HKey)) (v:=(DF (⟨s.place,s.sort,true⟩:HKey) H)-s.amt) 1 (ty:=0) (gd:=none) (by kernel_rfl) rfl rfl rfl rfl rfl a6 (fun d8 a7=>(nm (se ?_))));refine rdX (M:=((bX b1 (BK s) 28)::(b_r,Obj.map d8 a9)::[])) (F0:=F) [] 15 [(0,true),(1,true),(2,true),(3,true),(4,true),(5,true),(6,true),(7,true),(8,true),(9,true),(10,true),(11,true),(12,true),(13,false),(14,true)] (by simp only [AA,CA,NA,List.append_nil];exact PR _) HI ?_;refine AF (dpv 19 (vP b 0)) ?_;refine AF (dpv 20 (vP b 0)) ?_;refine AF (dfa 21 20 134 1 5 0 rfl) ?_;refine AF (dld 22 21 132 (.map (some b_r)) rfl (AR d6 rfl)) ?_;refine AF (dpv 23 (vP b1 3)) ?_;refine AF (dlb 24 0 3 b1 (vI s.place)) ?_;refine AF (dpv 25 (vP b1 5)) ?_;refine AF (dlb 26 0 5 b1 (vI s.sort)) ?_;refine AF (dpv 27 (.agg #[vI s.place,vI s.sort,.bool false])) ?_;refine IK (LkPr b_r MT (⟨s.place,s.sort,false⟩:HKey) (vI 0) (vI (DF (⟨s.place,s.sort,false⟩:HKey) (KC (⟨s.place,s.sort,true⟩:HKey) ((DF (⟨s.place,s.sort,true⟩:HKey) H)-s.amt) H)))) (KY a7.1 (BQ (⟨s.place,s.sort,false⟩:HKey) (KC (⟨s.place,s.sort,true⟩:HKey) ((DF (⟨s.place,s.sort,true⟩:HKey) H)-s.amt) H))) (PS _ _ _) (EY (x:=(.tmp 22)) (y:=(.tmp 27)) (T:=132) (kt:=136) (et:=3) (k:=(⟨s.place,s.sort,false⟩:HKey)) (z:=vI 0) (d:=28) (ty:=3) (gd:=none) (by kernel_rfl) rfl (by kernel_rfl) (BD (by kernel_rfl) (by kernel_rfl)) rfl rfl (by kernel_rfl)) ?_;refine AF (dpv 29 (vP b1 7)) ?_;refine AF (dlb 30 0 7 b1 (vI s.amt)) ?_;have e3:=(hH.add (k:=⟨s.place,s.sort,true⟩) (d:=-s.amt) (by omega) (by omega)) ⟨s.place,s.sort,false⟩;rw [show PP ⟨s.place,s.sort,true⟩ (-s.amt) H=KC ⟨s.place,s.sort,true⟩ (DF ⟨s.place,s.sort,true⟩ H-s.amt) H from rfl] at e3;refine AX (da 31 (DF (⟨s.place,s.sort,false⟩:HKey) (KC (⟨s.place,s.sort,true⟩:HKey) ((DF (⟨s.place,s.sort,true⟩:HKey) H)-s.amt) H)) s.amt) ?_;refine DA (Mx:=fun FX=>((bX b1 (BK s) 28)::(b_r,Obj.map d8 a9)::FX)) rfl (fun FX=>by simp only [AA,CA,NA,List.append_nil];exact PR _) (fun FX=>?_);refine id (JV (d:=32) (x:=(.tmp 22)) (y:=(.tmp 27)) (T:=132) (kt:=136) (et:=3) (k:=(⟨s.place,s.sort,false⟩:HKey)) (H:=KC (⟨s.place,s.sort,true⟩:HKey) ((DF (⟨s.place,s.sort,true⟩:HKey) H)-s.amt) H) 1 (ty:=0) (gd:=none) (by kernel_rfl) rfl (by kernel_rfl) (BD (by kernel_rfl) (by kernel_rfl)) rfl rfl (by kernel_rfl) rfl a7 (fun d9 b2 e1 a8=>?_));refine EV (M1:=((bX b1 (BK s) 28)::(b_r,Obj.map d9 b2)::[])) (by exact (PR _)) (.none (.wt (.wt (.other (IJ a8.1 rfl (BQ (⟨s.place,s.sort,false⟩:HKey) (KC (⟨s.place,s.sort,true⟩:HKey) ((DF (⟨s.place,s.sort,true⟩:HKey) H)-s.amt) H))) (PS _ _ _) (.wt (.wt (.wt (.wt (.wt (.wt (.wt (.wt (.wt .nil))))))))))))) ?_;show OFPX _ _ _ _ _ _ _ _ _ _ ((32,.tuple #[vI (DF (⟨s.place,s.sort,false⟩:HKey) (KC (⟨s.place,s.sort,true⟩:HKey) ((DF (⟨s.place,s.sort,true⟩:HKey) H)-s.amt) H)),vI ↑e1])::_) _ _;refine AF (dpv 33 (vI ↑e1)) ?_;refine FP (AW (M':=((bX b1 (BK s) 28)::(b_r,Obj.map d9 b2)::F)) (fun w h=>by simpa only [AA,CA,NA,List.append_nil] using h) (nm ?_));refine sS (IB (x:=(.tmp 22)) (y:=(.tmp 33)) (u:=(.tmp 31)) (T:=132) (k:=(⟨s.place,s.sort,false⟩:HKey)) (v:=(DF (⟨s.place,s.sort,false⟩:HKey) (KC (⟨s.place,s.sort,true⟩:HKey) ((DF (⟨s.place,s.sort,true⟩:HKey) H)-s.amt) H))+s.amt) 1 (ty:=0) (gd:=none) (by kernel_rfl) rfl rfl rfl rfl rfl a8 (fun e2 b3=>(nm (ee ?_))));refine ppm (PS _ _ _) ?_;refine EL ([(b_r,Obj.map e2 b2)]) (by kernel_rfl) (TK _ (TC _ (TR _))) (IR _) ?_;exact ⟨_,_,rfl,rfl,b3⟩
noncomputable def c_bcount:=cod Tryz.f120
theorem bcount_ct (I:Imm) (b:Nat) (b_1 b_2 b_3:Value) (b_r:Nat) (b_es:Array MapEntry) (b_cl:Nat) (L:Lin) (H:Hs) (s:Slip) (b_b:IsBook 134 I b b_1 b_2 b_3 b_r L) (b_is:MapH b_es b_cl H) (hH:Within 1000000 H) (ha:0≤s.amt∧s.amt≤50):Ct Tryz.prog 120 #[vP b 0,.agg #[vI s.num,vI s.hour,vI s.kind,vI s.place,vI s.to,vI s.sort,.bool s.soil,vI s.amt]] I ([(b_r,Obj.map b_es b_cl)]) (fun v I' M'=>∃ b_et:Array MapEntry,∃ b_ct:Nat,v=.tuple #[]∧M'=[(b_r,Obj.map b_et b_ct)]∧MapH b_et b_ct (KC ⟨s.place,s.sort,s.soil⟩ s.amt H)):=by
 obtain ⟨d1,a1,a3,a5⟩:=id b_b;obtain ⟨a8,b0,a9,b4,a6,rfl,b2,b3,b5,b6⟩:=id a1;obtain ⟨b7,b9,b8,c2,rfl,c0,c1,c3⟩:=id a3;obtain ⟨c4,c6,c5,c9,rfl,c7,c8,d0⟩:=id a5;refine fr (args:=[_,_]) (N:=17) Tryz.func120 (fun F=>?_);show Run _ _ (c_bcount []) _ _ [(0,_),(1,_)] _ _;refine rnm (rqr ?_);refine sS (sb 3 28 (BK s) (fun b1=>(se ?_)));refine rd0 13 (ox 2 [(5,vP b 0)] ?_);refine AD (dfa 6 5 134 1 5 0 rfl) ?_;refine AD (dld 7 6 132 (.map (some b_r)) rfl (AR d1 rfl)) (ox 1 [(8,vP b1 3)] ?_);refine AD (dlb 9 0 3 b1 (vI s.place)) (ox 1 [(10,vP b1 5)] ?_);refine AD (dlb 11 0 5 b1 (vI s.sort)) (ox 1 [(12,vP b1 6)] ?_);refine AD (dlb 13 0 6 b1 (.bool s.soil)) (ox 2 [(15,vP b1 7),(14,.agg #[vI s.place,vI s.sort,.bool s.soil])] ?_);refine AD (dlb 16 0 7 b1 (vI s.amt)) ?_;refine AY (sS (stp_putH (x:=(.tmp 7)) (y:=(.tmp 14)) (u:=(.tmp 16)) (T:=132) (kt:=136) (et:=3) (k:=(⟨s.place,s.sort,s.soil⟩:HKey)) (H:=H) (v:=s.amt) 1 (ty:=0) (gd:=none) (by kernel_rfl) rfl (by kernel_rfl) (BD (by kernel_rfl) (by kernel_rfl)) rfl rfl rfl rfl b_is (fun d3 d2 a7=>(nm (ee ?_)))));refine ppm (PS _ _ _) ?_;refine EL ([(b_r,Obj.map d3 d2)]) (by kernel_rfl) (TK _ (TC _ (TR _))) (IR _) ?_;exact ⟨_,_,rfl,rfl,a7⟩
noncomputable def c_bbuy:=cod Tryz.f121
theorem bbuy_ct (I:Imm) (b:Nat) (b_1 b_2 b_3:Value) (b_r:Nat) (b_es:Array MapEntry) (b_cl:Nat) (L:Lin) (H:Hs) (s:Slip) (b_b:IsBook 134 I b b_1 b_2 b_3 b_r L) (b_is:MapH b_es b_cl H) (hH:Within 1000000 H) (ha:0≤s.amt∧s.amt≤50):Ct Tryz.prog 121 #[vP b 0,.agg #[vI s.num,vI s.hour,vI s.kind,vI s.place,vI s.to,vI s.sort,.bool s.soil,vI s.amt]] I ([(b_r,Obj.map b_es b_cl)]) (fun v I' M'=>∃ b_et:Array MapEntry,∃ b_ct:Nat,v=.tuple #[]∧M'=[(b_r,Obj.map b_et b_ct)]∧MapH b_et b_ct (PP ⟨s.place,s.sort,false⟩ s.amt H)):=by
 obtain ⟨d5,a1,a3,a5⟩:=id b_b;obtain ⟨b0,b3,b2,b6,a7,rfl,b4,b5,b7,b8⟩:=id a1;obtain ⟨b9,c1,c0,c4,rfl,c2,c3,c5⟩:=id a3;obtain ⟨c6,c8,c7,d1,rfl,c9,d0,d2⟩:=id a5;refine fr (args:=[_,_]) (N:=19) Tryz.func121 (fun F=>?_);show Run _ _ (c_bbuy []) _ _ [(0,_),(1,_)] _ _;refine rnm (rqr ?_);refine sS (sb 3 28 (BK s) (fun b1=>(se ?_)));refine rdX (M:=((bX b1 (BK s) 28)::(b_r,Obj.map b_es b_cl)::[])) (F0:=F) [] 15 [(0,true),(1,true),(2,true),(3,true),(4,true),(5,true),(6,true),(7,true),(8,true),(9,true),(10,true),(11,true),(12,true),(13,false),(14,true)] (by simp only [AA,CA,NA,List.append_nil];exact PR _) HI ?_;refine AF (dpv 4 (vP b 0)) ?_;refine AF (dpv 5 (vP b 0)) ?_;refine AF (dfa 6 5 134 1 5 0 rfl) ?_;refine AF (dld 7 6 132 (.map (some b_r)) rfl (AR d5 rfl)) ?_;refine AF (dpv 8 (vP b1 3)) ?_;refine AF (dlb 9 0 3 b1 (vI s.place)) ?_;refine AF (dpv 10 (vP b1 5)) ?_;refine AF (dlb 11 0 5 b1 (vI s.sort)) ?_;refine AF (dpv 12 (.agg #[vI s.place,vI s.sort,.bool false])) ?_;refine IK (LkPr b_r MT (⟨s.place,s.sort,false⟩:HKey) (vI 0) (vI (DF (⟨s.place,s.sort,false⟩:HKey) H))) (KY b_is.1 (BQ (⟨s.place,s.sort,false⟩:HKey) H)) (PS _ _ _) (EY (x:=(.tmp 7)) (y:=(.tmp 12)) (T:=132) (kt:=136) (et:=3) (k:=(⟨s.place,s.sort,false⟩:HKey)) (z:=vI 0) (d:=13) (ty:=3) (gd:=none) (by kernel_rfl) rfl (by kernel_rfl) (BD (by kernel_rfl) (by kernel_rfl)) rfl rfl (by kernel_rfl)) ?_;refine AF (dpv 14 (vP b1 7)) ?_;refine AF (dlb 15 0 7 b1 (vI s.amt)) ?_;have d7:=hH ⟨s.place,s.sort,false⟩;refine AX (da 16 (DF (⟨s.place,s.sort,false⟩:HKey) H) s.amt) ?_;refine DA (Mx:=fun FX=>((bX b1 (BK s) 28)::(b_r,Obj.map b_es b_cl)::FX)) rfl (fun FX=>by simp only [AA,CA,NA,List.append_nil];exact PR _) (fun FX=>?_);refine id (JV (d:=17) (x:=(.tmp 7)) (y:=(.tmp 12)) (T:=132) (kt:=136) (et:=3) (k:=(⟨s.place,s.sort,false⟩:HKey)) (H:=H) 1 (ty:=0) (gd:=none) (by kernel_rfl) rfl (by kernel_rfl) (BD (by kernel_rfl) (by kernel_rfl)) rfl rfl (by kernel_rfl) rfl b_is (fun d3 a8 d4 a6=>?_));refine EV (M1:=((bX b1 (BK s) 28)::(b_r,Obj.map d3 a8)::[])) (by exact (PR _)) (.none (.wt (.wt (.other (IJ a6.1 rfl (BQ (⟨s.place,s.sort,false⟩:HKey) H)) (PS _ _ _) (.wt (.wt (.wt (.wt (.wt (.wt (.wt (.wt (.wt .nil))))))))))))) ?_;show OFPX _ _ _ _ _ _ _ _ _ _ ((17,.tuple #[vI (DF (⟨s.place,s.sort,false⟩:HKey) H),vI ↑d4])::_) _ _;refine AF (dpv 18 (vI ↑d4)) ?_;refine FP (AW (M':=((bX b1 (BK s) 28)::(b_r,Obj.map d3 a8)::F)) (fun w h=>by simpa only [AA,CA,NA,List.append_nil] using h) (nm ?_));refine sS (IB (x:=(.tmp 7)) (y:=(.tmp 18)) (u:=(.tmp 16)) (T:=132) (k:=(⟨s.place,s.sort,false⟩:HKey)) (v:=(DF (⟨s.place,s.sort,false⟩:HKey) H)+s.amt) 1 (ty:=0) (gd:=none) (by kernel_rfl) rfl rfl rfl rfl rfl a6 (fun d6 a9=>(nm (ee ?_))));refine ppm (PS _ _ _) ?_;refine EL ([(b_r,Obj.map d6 a8)]) (by kernel_rfl) (TK _ (TC _ (TR _))) (IR _) ?_;exact ⟨_,_,rfl,rfl,a9⟩
noncomputable def c_bscrap:=cod Tryz.f122
theorem bscrap_ct (I:Imm) (b:Nat) (b_1 b_2 b_3:Value) (b_r:Nat) (b_es:Array MapEntry) (b_cl:Nat) (L:Lin) (H:Hs) (s:Slip) (b_b:IsBook 134 I b b_1 b_2 b_3 b_r L) (b_is:MapH b_es b_cl H) (hH:Within 1000000 H) (ha:0≤s.amt∧s.amt≤50):Ct Tryz.prog 122 #[vP b 0,.agg #[vI s.num,vI s.hour,vI s.kind,vI s.place,vI s.to,vI s.sort,.bool s.soil,vI s.amt]] I ([(b_r,Obj.map b_es b_cl)]) (fun v I' M'=>∃ b_et:Array MapEntry,∃ b_ct:Nat,v=.tuple #[]∧M'=[(b_r,Obj.map b_et b_ct)]∧MapH b_et b_ct (PP ⟨s.place,s.sort,true⟩ (-s.amt) H)):=by
 obtain ⟨d5,a1,a3,a5⟩:=id b_b;obtain ⟨b0,b3,b2,b6,a7,rfl,b4,b5,b7,b8⟩:=id a1;obtain ⟨b9,c1,c0,c4,rfl,c2,c3,c5⟩:=id a3;obtain ⟨c6,c8,c7,d1,rfl,c9,d0,d2⟩:=id a5;refine fr (args:=[_,_]) (N:=19) Tryz.func122 (fun F=>?_);show Run _ _ (c_bscrap []) _ _ [(0,_),(1,_)] _ _;refine rnm (rqr ?_);refine sS (sb 3 28 (BK s) (fun b1=>(se ?_)));refine rdX (M:=((bX b1 (BK s) 28)::(b_r,Obj.map b_es b_cl)::[])) (F0:=F) [] 15 [(0,true),(1,true),(2,true),(3,true),(4,true),(5,true),(6,true),(7,true),(8,true),(9,true),(10,true),(11,true),(12,true),(13,false),(14,true)] (by simp only [AA,CA,NA,List.append_nil];exact PR _) HI ?_;refine AF (dpv 4 (vP b 0)) ?_;refine AF (dpv 5 (vP b 0)) ?_;refine AF (dfa 6 5 134 1 5 0 rfl) ?_;refine AF (dld 7 6 132 (.map (some b_r)) rfl (AR d5 rfl)) ?_;refine AF (dpv 8 (vP b1 3)) ?_;refine AF (dlb 9 0 3 b1 (vI s.place)) ?_;refine AF (dpv 10 (vP b1 5)) ?_;refine AF (dlb 11 0 5 b1 (vI s.sort)) ?_;refine AF (dpv 12 (.agg #[vI s.place,vI s.sort,.bool true])) ?_;refine IK (LkPr b_r MT (⟨s.place,s.sort,true⟩:HKey) (vI 0) (vI (DF (⟨s.place,s.sort,true⟩:HKey) H))) (KY b_is.1 (BQ (⟨s.place,s.sort,true⟩:HKey) H)) (PS _ _ _) (EY (x:=(.tmp 7)) (y:=(.tmp 12)) (T:=132) (kt:=136) (et:=3) (k:=(⟨s.place,s.sort,true⟩:HKey)) (z:=vI 0) (d:=13) (ty:=3) (gd:=none) (by kernel_rfl) rfl (by kernel_rfl) (BD (by kernel_rfl) (by kernel_rfl)) rfl rfl (by kernel_rfl)) ?_;refine AF (dpv 14 (vP b1 7)) ?_;refine AF (dlb 15 0 7 b1 (vI s.amt)) ?_;have d7:=hH ⟨s.place,s.sort,true⟩;refine AX (dsb 16 (DF (⟨s.place,s.sort,true⟩:HKey) H) s.amt) ?_;refine DA (Mx:=fun FX=>((bX b1 (BK s) 28)::(b_r,Obj.map b_es b_cl)::FX)) rfl (fun FX=>by simp only [AA,CA,NA,List.append_nil];exact PR _) (fun FX=>?_);refine id (JV (d:=17) (x:=(.tmp 7)) (y:=(.tmp 12)) (T:=132) (kt:=136) (et:=3) (k:=(⟨s.place,s.sort,true⟩:HKey)) (H:=H) 1 (ty:=0) (gd:=none) (by kernel_rfl) rfl (by kernel_rfl) (BD (by kernel_rfl) (by kernel_rfl)) rfl rfl (by kernel_rfl) rfl b_is (fun d3 a8 d4 a6=>?_));refine EV (M1:=((bX b1 (BK s) 28)::(b_r,Obj.map d3 a8)::[])) (by exact (PR _)) (.none (.wt (.wt (.other (IJ a6.1 rfl (BQ (⟨s.place,s.sort,true⟩:HKey) H)) (PS _ _ _) (.wt (.wt (.wt (.wt (.wt (.wt (.wt (.wt (.wt .nil))))))))))))) ?_;show OFPX _ _ _ _ _ _ _ _ _ _ ((17,.tuple #[vI (DF (⟨s.place,s.sort,true⟩:HKey) H),vI ↑d4])::_) _ _;refine AF (dpv 18 (vI ↑d4)) ?_;refine FP (AW (M':=((bX b1 (BK s) 28)::(b_r,Obj.map d3 a8)::F)) (fun w h=>by simpa only [AA,CA,NA,List.append_nil] using h) (nm ?_));refine sS (IB (x:=(.tmp 7)) (y:=(.tmp 18)) (u:=(.tmp 16)) (T:=132) (k:=(⟨s.place,s.sort,true⟩:HKey)) (v:=(DF (⟨s.place,s.sort,true⟩:HKey) H)-s.amt) 1 (ty:=0) (gd:=none) (by kernel_rfl) rfl rfl rfl rfl rfl a6 (fun d6 a9=>(nm (ee ?_))));refine ppm (PS _ _ _) ?_;refine EL ([(b_r,Obj.map d6 a8)]) (by kernel_rfl) (TK _ (TC _ (TR _))) (IR _) ?_;exact ⟨_,_,rfl,rfl,a9⟩
noncomputable def c_less:=cod Tryz.f126
theorem less_ct (I:Imm) (b:Nat) (b_1 b_2 b_3:Value) (b_r:Nat) (b_es:Array MapEntry) (b_cl:Nat) (L:Lin) (H:Hs) (b_b:IsBook 134 I b b_1 b_2 b_3 b_r L) (b_is:MapH b_es b_cl H):Ct Tryz.prog 126 #[vP b 0] I ([(b_r,Obj.map b_es b_cl)]) (fun v I' M'=>∃ r:Nat,∃ es:Array MapEntry,∃ cl:Nat,∃ ks:List HKey,v=.map (some r)∧M'=[(b_r,Obj.map b_es b_cl)]++([(r,Obj.map es cl)])∧MapB MT es cl (NF ks)∧Negs ks H):=by
 obtain ⟨e9,a8,b0,b4⟩:=id b_b;obtain ⟨c6,c8,c7,d1,b9,rfl,c9,d0,d2,d3⟩:=id a8;obtain ⟨d4,d6,d5,d9,rfl,d7,d8,e0⟩:=id b0;obtain ⟨e1,e3,e2,e6,rfl,e4,e5,e7⟩:=id b4;refine fr (args:=[_]) (N:=22) Tryz.func126 (fun F=>?_);show Run _ _ (c_less []) _ _ [(0,_)] _ _;refine rnm (rqr ?_);refine sp 1 [(2,.map none)] (sn (sS (JF (d:=6) (T:=155) (ty:=155) (gd:=none) (by kernel_rfl) rfl (fun b1=>(sp 1 [(3,.map (some b1))] (se (rq (rqr (sp 2 [(8,vP b 0)] (sd (dfa 9 8 134 1 5 0 rfl) (sd (dld 10 9 132 (.map (some b_r)) rfl (AR e9 rfl)) (sS (stp_range (d:=11) (x:=(.tmp 10)) (T:=132) (kt:=136) (et:=3) (es:=b_es) (cl:=b_cl) (ty:=0) (gd:=none) (by kernel_rfl) rfl (by kernel_rfl) rfl (.inl (List.mem_of_getElem? (i:=1) rfl)) (fun b3=>(se (rb 0 ?_))))))))))))))));refine rl (fun mz a w=>∃ dn:Hs,∃ td:Hs,∃ ks:List HKey,∃ a2:Array MapEntry,∃ a1:Nat,∃ a4:Array Nat,((dn++td).Perm H)∧(NegP ks dn)∧(MapB MT a2 a1 (NF ks))∧(Go.Sl.Left MT b_es a4 (intV td))∧SD 22 [(2,.map none),(3,.map (some b1)),(11,vP b3 0)] I ((b3,Obj.mapIter (some b_r) b_cl a4 b_cl)::(b1,Obj.map a2 a1)::(b_r,Obj.map b_es b_cl)::F) a w (mz=td.length)) ?_ ?_
 ·intro a w hS hD hW;exact ⟨_,[],H,[],#[],0,#[],PR _,NegP.nil,(show MapB MT #[] 0 (NF []) from MapB.nil _ _),(Left.start b_is.1.1),hS.sub su,hD,hW,rfl⟩
 rintro mz a w ⟨dn,td,ks,a2,a1,a4,c5,c4,a3,a5,hS,hD,hW,rfl⟩
 refine AU hS hD hW ?_;refine rqr (sS (stp_nextH (d:=12) (x:=(.tmp 11)) (todo:=td) 0 (ty:=0) (gd:=none) (by kernel_rfl) rfl rfl rfl (.inl (List.mem_of_getElem? (i:=2) rfl)) b_is.1.2 a5 (fun c3=>?_) (fun b7 a0 b8 e8 a6 b5 c1=>?_)))
 ·
  refine sp 1 [(13,.bool false)] (se (rq (rcf 13 rfl (BW 0 (EP (EP (EB (NX (rqr (sp 2 [(2,.map (some b1))] (se (BC (ppm (((PC _ (PS _ _ _)).trans (PS _ _ _)).trans (PC _ (PS _ _ _))) (FL 2 ([(b_r,Obj.map b_es b_cl)]++([(b1,Obj.map a2 a1)])) rfl (by simp only [AA,NA,CA];exact (TK _ (TK _ (TC _ (TR _))))) (IR _) ?_))))))))))))));exact ⟨_,_,_,_,rfl,rfl,a3,c4.done c5 c3 b_is.2⟩
 show Seq _ _ _ _ _ _ ((12,.tuple #[.bool true,.agg #[vI a0.1.pl,vI a0.1.so,.bool a0.1.soil],vI a0.2])::_) _ _;refine nm ?_;refine sp 1 [(13,.bool true)] (se (rq (rct 13 rfl (AO (NX (rb 1 (rqr (sS (stp_entry (d:=14) (x:=(.tmp 11)) (enc:=MT) (y:=(a0.1,vI a0.2)) (ty:=0) (gd:=none) (by kernel_rfl) rfl rfl (List.mem_of_getElem? (i:=0) rfl) (.inl (List.mem_of_getElem? (i:=2) rfl)) b_is.1.2 c1 ?_)))))))));show Seq _ _ _ _ _ _ ((14,.tuple #[.agg #[vI a0.1.pl,vI a0.1.so,.bool a0.1.soil],vI a0.2])::_) _ _;refine sp 2 [(16,vI a0.2),(15,.agg #[vI a0.1.pl,vI a0.1.so,.bool a0.1.soil])] (sS (sal 4 136 #[vI 0,vI 0,.bool false] (fun b6=>(sS (ss 0 0 b6 [vI a0.1.pl,vI a0.1.so,.bool a0.1.soil] [vI a0.1.pl,vI a0.1.so,.bool a0.1.soil] (_::_::_::_::_) (cs:=[_,_,_]) rfl rfl (sp 1 [(5,vI a0.2)] (sn (sp 2 [(18,.bool (cmp .lss a0.2 0))] (se (rc 18 rfl (fun h1=>?_) (fun h1=>?_)))))))))))
 ·
  have c0:=h1;have h1:=CI h1;refine rr (sp 1 [(19,.map (some b1))] (sd (dnb 20 0 0 b6 [vI a0.1.pl,vI a0.1.so,.bool a0.1.soil]) (sS (stp_setTrue (x:=(.tmp 19)) (y:=(.tmp 20)) (u:=(.const (.bool true))) (T:=155) (kt:=136) (et:=4) (k:=a0.1) (ks:=ks) 2 (ty:=0) (gd:=none) (by kernel_rfl) rfl (by kernel_rfl) (BD (by kernel_rfl) (by kernel_rfl)) rfl rfl rfl rfl a3 (fun f1 f0 c2=>(nm (ee (NB ?_))))))));refine AM ((b7++b8).length) (took_len a6) ?_;intro a w hS hD hW;exact ⟨dn++[a0],b7++b8,_,f1,f0,e8,perm_took c5 a6,c4.add (by omega),c2,b5,hS.sub su,hD,(hW.perm (PR _)).sub (TC _ (TR _)),rfl⟩
 have c0:=h1;have h1:=CS h1;refine AO (NB ?_);refine AM ((b7++b8).length) (took_len a6) ?_;intro a w hS hD hW;exact ⟨dn++[a0],b7++b8,_,a2,a1,e8,perm_took c5 a6,c4.skip (by omega),a3,b5,hS.sub su,hD,(hW.perm (PR _)).sub (TC _ (TR _)),rfl⟩
noncomputable def c_byHour1:=cod Tryz.f150
theorem byHour1_ct (I:Imm) (a:Slip) (b:Slip) (hr:RG a∧RG b):CtV Tryz.prog 150 #[.agg #[vI a.num,vI a.hour,vI a.kind,vI a.place,vI a.to,vI a.sort,.bool a.soil,vI a.amt],.agg #[vI b.num,vI b.hour,vI b.kind,vI b.place,vI b.to,vI b.sort,.bool b.soil,vI b.amt]] I (vI (AC a b)):=by
 refine fr (args:=[_,_]) (N:=20) Tryz.func150 (fun F=>?_);show Run _ _ (c_byHour1 []) _ _ [(0,_),(1,_)] _ _;refine rnm ?_;obtain ⟨⟨hr1,hr2,hr3,hr4⟩,hr5,hr6,hr7,hr8⟩:=hr;refine rqr (sS (sb 2 28 (BK a) (fun b1=>(sS (sb 3 28 (BK b) (fun b3=>(sp 1 [(4,vI 0)] (se (rq (rqr (sp 1 [(5,vP b1 1)] (sd (dlb 6 1 1 b1 (vI a.hour)) (sp 1 [(7,vP b3 1)] (sd (dlb 8 0 1 b3 (vI b.hour)) (sp 1 [(9,.bool (!(cmp .eql a.hour b.hour)))] (se (rc 9 rfl (fun h1=>?_) (fun h1=>?_))))))))))))))))))
 ·
  have a0:=h1;have h1:=BN (BP h1);refine rqr (sp 1 [(10,vP b1 1)] (sd (dlb 11 1 1 b1 (vI a.hour)) (sp 1 [(12,vP b3 1)] (sd (dlb 13 0 1 b3 (vI b.hour)) (sd (dsb 14 a.hour b.hour) (sp 1 [(4,vI (a.hour-b.hour))] (se (BC (RP (FL 4 [] rfl (TC _ (TC _ (TR _))) (IR _) ?_))))))))));exact ⟨congrArg (Value.int .i64) (if_pos h1).symm,rfl⟩
 have a0:=h1;have h1:=BG (BI h1);refine AO (NX (rqr (sp 1 [(15,vP b1 0)] (sd (dlb 16 1 0 b1 (vI a.num)) (sp 1 [(17,vP b3 0)] (sd (dlb 18 0 0 b3 (vI b.num)) (sd (dsb 19 a.num b.num) (sp 1 [(4,vI (a.num-b.num))] (se (BC (FL 4 [] rfl (TC _ (TC _ (TR _))) (IR _) ?_)))))))))));exact ⟨congrArg (Value.int .i64) (if_neg (fun x=>x h1)).symm,rfl⟩
noncomputable def c_insSort:=cod Tryz.f175
theorem insSort_ct (I:Imm) (d:Value) (xs:List Slip) (d_Ms:Seg) (u:Nat) (v:Nat) (d_h:Own 28 8 AV d xs d_Ms) (h0:u=0) (hb:v=xs.length) (hsm:∀ x∈xs,RG x) (hl:xs.length≤1000000):Ct Tryz.prog 175 #[d,vI ↑u,vI ↑v,.func (.func 150) #[] #[]] I d_Ms (fun v I' M'=>∃ d_Mt:Seg,v=.tuple #[]∧M'=d_Mt∧Own 28 8 AV d (AG AC xs) d_Mt):=by
 obtain ⟨a3,a4,rfl,c7⟩:=d_h.shape;refine fr (args:=[_,_,_,_]) (N:=53) Tryz.func175 (fun F=>?_);show Run _ _ (c_insSort []) _ _ [(0,_),(1,_),(2,_),(3,_)] _ _;refine rnm (rqr ?_);refine sp 1 [(10,vI ↑u)] (sd (da 11 ↑u 1) (BM 11 rfl (show (vI (↑u+1):Value)=vI (↑(1:Nat)) from congrArg (Value.int .i64) (by omega)) (sp 1 [(8,vI (↑(1:Nat)))] (se (rb 0 ?_)))));refine rl (fun mz a w=>∃ i:Nat,∃ zs:List Slip,∃ a2:Seg,(1≤i)∧(InsI AC xs zs i)∧(zs.Perm xs)∧(Own 28 8 AV (vS a3 xs.length a4) zs a2)∧SD 53 [(0,(vS a3 xs.length a4)),(8,vI ↑i),(1,vI ↑u),(2,vI ↑v),(3,.func (.func 150) #[] #[])] I (a2++F) a w (mz=xs.length-i)) ?_ ?_
 ·intro a w hS hD hW;exact ⟨_,1,xs,d_Ms,Nat.le_refl _,InsI.start,PR _,d_h,hS.sub su,hD,hW,rfl⟩
 rintro mz a w ⟨i,zs,a2,c8,b1,c5,a8,hS,hD,hW,rfl⟩
 refine AU hS hD hW ?_;have d1:=b1.len;refine rq (rqr (sp 3 [(14,.bool (cmp .lss ↑i ↑v))] (se (rc 14 rfl (fun h1=>?_) (fun h1=>?_)))))
 ·
  have c1:=h1;have h1:=CI h1;refine AO (NX (rq (rb 1 (rqr (sp 2 [(9,vI ↑i)] (se (rb 2 ?_)))))));refine rl (fun mz a w=>∃ j:Nat,∃ ys:List Slip,∃ a0:Seg,(InsAt AC AB xs ys i j)∧(ys.Perm xs)∧(Own 28 8 AV (vS a3 xs.length a4) ys a0)∧SD 53 [(0,(vS a3 xs.length a4)),(9,vI ↑j),(1,vI ↑u),(2,vI ↑v),(3,.func (.func 150) #[] #[]),(8,vI ↑i)] I (a0++F) a w (mz=j+1)) ?_ ?_
  ·intro a w hS hD hW;exact ⟨_,i,zs,a2,b1.into (by omega),c5,a8,hS.sub su,hD,hW,rfl⟩
  rintro mz a w ⟨j,ys,a0,b9,a7,a1,hS,hD,hW,rfl⟩
  refine AU hS hD hW ?_;have d0:=b9.len;have c9:=b9.1;refine rq (rq ?_);refine DB (fun a w=>SE 53 [(0,vS a3 xs.length a4),(1,vI ↑u),(2,vI ↑v),(3,.func (.func 150) #[] #[]),(8,vI ↑i),(9,vI ↑j),(34,.bool ((cmp .gtr ↑j ↑u)&&(cmp .lss (AC (ys.getD j AB) (ys.getD ((↑j-1:Int).toNat) AB)) 0)))] I (a0++F) a w) ?_ ?_
  ·
   refine rd0 14 (ox 4 [(21,.bool (cmp .gtr ↑j ↑u))] ?_);refine JA 21 (fun h2=>?_) (fun h2=>?_)
   ·
    have a5:=h2;have a5:=MB a5;refine ox 3 [(24,vI ↑j),(23,vS a3 xs.length a4),(22,.func (.func 150) #[] #[])] ?_;obtain ⟨d2,b5⟩:=a1.row AB;refine AD (di 25 8 j (fun _=>b5.addr (by omega)) (n:=xs.length)) ?_;refine AD (dn 26 (HD (vals:=DJ) (fun _=>rfl) b5 (fun x hx=>by simp [hx]) j (by omega))) (ox 2 [(28,vI ↑j),(27,vS a3 xs.length a4)] ?_);refine AD (dsb 29 ↑j 1) ?_;obtain ⟨d3,b6⟩:=a1.row AB;refine AD (diI 30 8 (↑j-1) (fun _=>b6.addr (by omega)) (n:=xs.length)) ?_;refine AD (dn 31 (HD (vals:=DJ) (fun _=>rfl) b6 (fun x hx=>by simp [hx]) ((↑j-1:Int).toNat) (by omega))) ?_;refine AY (sd (dc 32 (fun I' hI=>(byHour1_ct I' (ys.getD j AB) (ys.getD ((↑j-1:Int).toNat) AB) (by exact ⟨hsm _ (a7.subset (BA (by omega))),hsm _ (a7.subset (BA (by omega)))⟩) :))) (sp 2 [(34,.bool (cmp .lss (AC (ys.getD j AB) (ys.getD ((↑j-1:Int).toNat) AB)) 0))] (ee ?_)));refine AP (fun a w hS hD hW=>⟨hS.sub (sun 6 (.consE 34 rfl (congrArg Value.bool (by simp only [h2,kk])) (.nil _))),hD,hW⟩)
   have a5:=h2;have a5:=SC a5;refine ox 10 [(31,undef),(26,undef),(22,undef)] ?_;refine AY (sp 3 [(34,.bool false)] (ee ?_));refine AP (fun a w hS hD hW=>⟨hS.sub (sun 6 (.consE 34 rfl (congrArg Value.bool (by simp only [h2,kk])) (.nil _))),hD,hW⟩)
  rintro a w ⟨hS,hD,hW⟩
  refine AU hS hD hW ?_;refine rc 34 rfl (fun h3=>?_) (fun h3=>?_)
  ·
   have c2:=h3;obtain ⟨b3,b0⟩:=PY h3;have b3:=MB b3;have b0:=CI b0;refine AO (NX (rq (rb 3 ?_)));refine rdX (M:=(a0++[])) (F0:=F) [] 16 [(0,true),(1,true),(2,true),(3,true),(4,true),(5,true),(6,true),(7,true),(8,true),(9,true),(10,true),(11,true),(12,true),(13,true),(14,true),(15,false)] (by simp only [AA,CA,NA,List.append_nil];exact PR _) HI ?_;refine AF (dpv 37 (vS a3 xs.length a4)) ?_;refine AF (dpv 38 (vI ↑j)) ?_;refine AX (dpv 39 (vS a3 xs.length a4)) ?_;refine AX (dpv 40 (vI ↑j)) ?_;refine AX (dsb 41 ↑j 1) ?_;refine AF (dpv 42 (vS a3 xs.length a4)) ?_;refine AF (dpv 43 (vI ↑j)) ?_;refine AF (dsb 44 ↑j 1) ?_;obtain ⟨d4,b7⟩:=a1.row AB;refine AF (diI 45 8 (↑j-1) (fun _=>b7.addr (by omega)) (n:=xs.length)) ?_;refine AF (dn 46 (HD (vals:=DJ) (fun _=>rfl) b7 (fun x hx=>by simp [hx]) ((↑j-1:Int).toNat) (by omega))) ?_;refine AF (dpv 47 (vS a3 xs.length a4)) ?_;refine AF (dpv 48 (vI ↑j)) ?_;obtain ⟨d5,b8⟩:=a1.row AB;refine AF (di 49 8 j (fun _=>b8.addr (by omega)) (n:=xs.length)) ?_;refine AF (dn 50 (HD (vals:=DJ) (fun _=>rfl) b8 (fun x hx=>by simp [hx]) j (by omega))) ?_;obtain ⟨d6,a9⟩:=a1.row AB;refine AF (di 51 8 j (fun _=>a9.addr (by omega)) (n:=xs.length)) ?_;refine DA (Mx:=fun FX=>(a0++FX)) rfl (fun FX=>by simp only [AA,CA,NA,List.append_nil];exact PR _) (fun FX=>?_);refine id (FY (T:=28) (x:=(.tmp 51)) (y:=(.tmp 46)) (rc:=fun i f=>AV ((ys).getD i AB) f) AB j (ys.getD ((↑j-1:Int).toNat) AB) (ty:=0) (gd:=none) (by kernel_rfl) rfl a1 a9 (by omega) rfl rfl (by kernel_rfl) rfl (OY _) (PR _) (fun b2 b4=>?_));refine EV (M1:=(b2++[])) (by simp only [AA,CA,NA,List.append_nil];exact (PR _)) (.wt (.wt (.wt (.wt (.wt (.wt (.wt (.wt (.wt (.wt (.none (.none (.none (.wt (.wt .nil))))))))))))))) ?_;refine FP (AW (M':=(b2++F)) (fun w h=>by simpa only [AA,CA,NA,List.append_nil] using h) (nm ?_));obtain ⟨c6,a6⟩:=b4.row AB;simp only [LS] at a6;refine sd (diI 52 8 (↑j-1) (fun _=>a6.addr (by omega)) (n:=xs.length)) (sS (FY (T:=28) (x:=(.tmp 52)) (y:=(.tmp 50)) (rc:=fun i f=>AV ((ys.set j (ys.getD ((↑j-1:Int).toNat) AB)).getD i AB) f) AB ((↑j-1:Int).toNat) (ys.getD j AB) (ty:=0) (gd:=none) (by kernel_rfl) rfl b4 (by simpa only [LS] using a6) (by simp only [LS];omega) rfl rfl (by kernel_rfl) rfl (OY _) (PR _) (fun c0 c3=>(nm (ee (NB (NX (rr ?_))))))));refine sp 1 [(35,vI ↑j)] (sd (dsb 36 ↑j 1) (sp 1 [(9,vI (↑j-1))] (ee ?_)));refine AM ((↑j-1:Int).toNat+1) (by omega) ?_;intro a w hS hD hW;exact ⟨(↑j-1:Int).toNat,(ys.set j (ys.getD ((↑j-1:Int).toNat) AB)).set ((↑j-1:Int).toNat) (ys.getD j AB),c0,b9.step (by omega) b0,(swapG (by omega) (by omega)).trans a7,c3,hS.sub (.consE 0 rfl rfl (.consE 9 rfl (congrArg (Value.int .i64) (by omega)) su)),hD,hW,rfl⟩
  have c2:=h3;refine BW 2 (EP (EP (EB (NB (NX (rr (sp 1 [(15,vI ↑i)] (sd (da 16 ↑i 1) (sp 1 [(8,vI (↑i+1))] (ee ?_))))))))));refine AM (xs.length-(i+1)) (by omega) ?_;intro a w hS hD hW;exact ⟨i+1,ys,a0,by omega,b9.done2 h0 h3,a7,a1,hS.sub su,hD,hW,rfl⟩
 have c1:=h1;have h1:=CS h1;refine BW 0 (EP (EP (EB ?_)));refine EL a2 (by kernel_rfl) (TA (TR _) _) (IR _) ?_;exact ⟨_,rfl,rfl,((b1.done (by omega))▸a8)⟩
noncomputable def c_stable:=cod Tryz.f166
theorem stable_ct (I:Imm) (d:Value) (xs:List Slip) (d_Ms:Seg) (v:Nat) (d_h:Own 28 8 AV d xs d_Ms) (hb:v=xs.length) (hsm:∀ x∈xs,RG x) (hl:xs.length<20):Ct Tryz.prog 166 #[d,vI ↑v,.func (.func 150) #[] #[]] I d_Ms (fun v I' M'=>∃ d_Mt:Seg,v=.tuple #[]∧M'=d_Mt∧Own 28 8 AV d (AG AC xs) d_Mt):=by
 obtain ⟨a1,a2,rfl,b2⟩:=d_h.shape;refine fr (args:=[_,_,_]) (N:=63) Tryz.func166 (fun F=>?_);show Run _ _ (c_stable []) _ _ [(0,_),(1,_),(2,_)] _ _;refine rnm (rqr ?_);refine sp 1 [(6,vI 20)] (sn (sp 3 [(8,vI 20),(7,vI 0)] (se (rq (rb 0 ?_)))));refine rl (fun mz a w=>∃ k:Nat,(k=0)∧SD 63 [(7,vI 0),(8,vI 20),(0,vS a1 xs.length a2),(1,vI ↑v),(2,.func (.func 150) #[] #[]),(6,vI 20)] I (d_Ms++F) a w (mz=k+1)) ?_ ?_
 ·intro a w hS hD hW;exact ⟨_,0,rfl,hS.sub su,hD,hW,rfl⟩
 rintro mz a w ⟨k,b0,hS,hD,hW,rfl⟩
 refine AU hS hD hW ?_;refine rq (rqr (sp 3 [(13,.bool (cmp .leq (↑(20:Nat)) ↑v))] (se (rc 13 rfl (fun h1=>?_) (fun h1=>?_)))))
 ·
  have a3:=h1;have h1:=leq_t h1;omega
 have a3:=h1;have h1:=leq_f h1;refine BW 0 (EP (EP (EB (NX (rqr (sp 4 [(26,.func (.func 150) #[] #[]),(25,vI ↑v),(24,vI (↑(0:Nat))),(23,vS a1 xs.length a2)] (sS (sc (some 27) (F:=(F)) (insSort_ct _ _ _ _ 0 v d_h (by rfl) (by omega) (by exact hsm) (by omega) :) (.refl _) (fun b4 I1 b3 a5 b1=>?_)))))))));obtain ⟨a0,a8,a7,a6⟩:=b1;rw [a8,a7];clear a8 a7;refine nm (se (rb 2 ?_));refine rl (fun mz a w=>∃ k:Nat,(k=0)∧SD 63 [(6,vI 20),(0,vS a1 xs.length a2),(1,vI ↑v),(2,.func (.func 150) #[] #[])] I1 (a0++F) a w (mz=k+1)) ?_ ?_
 ·intro a w hS hD hW;exact ⟨_,0,rfl,hS.sub su,hD,hW,rfl⟩
 rintro mz a w ⟨k,b0,hS,hD,hW,rfl⟩
 refine AU hS hD hW ?_;refine rq (rqr (sp 3 [(30,.bool (cmp .lss (↑(20:Nat)) ↑v))] (se (rc 30 rfl (fun h2=>?_) (fun h2=>?_)))))
 ·
  have a4:=h2;have h2:=CI h2;omega
 have a4:=h2;have h2:=CS h2;refine BW 2 (EP (EP (EB ?_)));refine EL a0 (by kernel_rfl) (TA (TR _) _) a5 ?_;exact ⟨_,rfl,rfl,a6⟩
noncomputable def c_SortStable:=cod Tryz.f149
theorem SortStable_ct (I:Imm) (d:Value) (xs:List Slip) (d_Ms:Seg) (d_h:Own 28 8 AV d xs d_Ms) (hsm:∀ x∈xs,RG x) (hl:xs.length<20):Ct Tryz.prog 149 #[d,.func (.func 150) #[] #[]] I d_Ms (fun v I' M'=>∃ d_Mt:Seg,v=.tuple #[]∧M'=d_Mt∧Own 28 8 AV d (AG AC xs) d_Mt):=by
 obtain ⟨a3,a4,rfl,a9⟩:=d_h.shape;refine fr (args:=[_,_]) (N:=9) Tryz.func149 (fun F=>?_);show Run _ _ (c_SortStable []) _ _ [(0,_),(1,_)] _ _;refine rnm (rr ?_);refine sp 4 [(7,.func (.func 150) #[] #[]),(6,vI (↑(xs.length))),(4,vS a3 xs.length a4)] (sS (sc (some 8) (F:=(F)) (stable_ct _ _ _ _ xs.length d_h (by rfl) (by exact hsm) (by omega) :) (.refl _) (fun b1 I1 b0 a1 a8=>?_)));obtain ⟨a0,a6,a5,a2⟩:=a8;rw [a6,a5];clear a6 a5;refine nm (ee ?_);refine EL a0 (by kernel_rfl) (TA (TR _) _) a1 ?_;exact ⟨_,rfl,rfl,a2⟩
noncomputable def c_CloneSlip:=cod Tryz.f139
theorem JL (I:Imm) (z:Value) (xs:List Slip) (z_f:GZ I z xs) (hl:xs.length≤1000000):Ct Tryz.prog 139 #[z] I ([]) (fun v I' M'=>∃ u:Value,∃ Ms:Seg,v=u∧M'=Ms∧Own 28 8 AV u xs Ms):=by
 obtain ⟨a2,a3,b3,b6,rfl,b4,b5,b0⟩:=id z_f;refine fr (args:=[_]) (N:=8) Tryz.func139 (fun F=>?_);show Run _ _ (c_CloneSlip []) _ _ [(0,_)] _ _;refine rnm (rqr ?_);refine sp 1 [(2,vN)] (se (rq (rqr (sp 1 [(3,vS a2 xs.length a3)] (sd (OM (e:=28) (x:=(.tmp 3)) (y:=(.const vN)) (T:=24) (T':=24) (d:=4) (ty:=4) (gd:=none) (by kernel_rfl) rfl (by kernel_rfl) rfl rfl) (se (rc 4 rfl (fun h1=>?_) (fun h1=>?_))))))))
 ·
  have a0:=h1;refine rqr (sp 1 [(2,vN)] (se (BC (RP ?_))));obtain rfl:=b0.nil h1;refine MX (t:=2) ([]) (by kernel_rfl) rfl (TR _) (IR _) ?_;exact ⟨_,_,rfl,rfl,Own.nil _ _ _⟩
 have a0:=h1;refine AO (NX (rqr (sS (sbs 5 28 0 #[] (fun b1=>(sp 1 [(6,vS a2 xs.length a3)] ?_))))));have a5:Own 28 8 AV (vS (some ⟨b1,0,none⟩) 0 0) ([]:List Slip) [(bX b1 #[] 28)]:=Own.lit rfl rfl;refine sS (sap (d:=7) 5 6 24 28 8 64 (.agg JK) AV ([]:List Slip) xs [(bX b1 #[] 28)] rfl rfl a5 (PR _) (CJ _) z_f.src (fun v4 a4 a1=>?_));rw [NA] at a1;refine nm ?_;obtain ⟨a6,a7,rfl,b2⟩:=a1.shape;refine sp 1 [(2,vS a6 xs.length a7)] (se (BC (FL 2 a4 rfl (TA (TR _) _) (IR _) ?_)));exact ⟨_,_,rfl,rfl,a1⟩
noncomputable def c_sorted:=cod Tryz.f124
theorem sorted_ct (I:Imm) (s:Value) (xs:List Slip) (s_f:GZ I s xs) (hsm:∀ x∈xs,RG x) (hl:xs.length<20):Ct Tryz.prog 124 #[s,.func (.func 150) #[] #[]] I ([]) (fun v I' M'=>∃ u:Value,∃ Ms:Seg,v=u∧M'=Ms∧Own 28 8 AV u (AG AC xs) Ms):=by
 obtain ⟨b3,b4,c4,c7,rfl,c5,c6,c8⟩:=id s_f;refine fr (args:=[_,_]) (N:=12) Tryz.func124 (fun F=>?_);show Run _ _ (c_sorted []) _ _ [(0,_),(1,_)] _ _;refine rnm (rqr ?_);refine sp 1 [(4,vN)] (sn (sp 1 [(6,vS b3 xs.length b4)] (sS (sc (some 7) (JL _ _ _ s_f (by omega) :) (.refl _) (fun c3 I1 b6 a7 b5=>?_)))));obtain ⟨u6,c2,b1,b0,b2⟩:=b5;rw [b1,b0];clear b1 b0;obtain ⟨a1,a2,rfl,c0⟩:=b2.shape;refine nm ?_;refine sp 1 [(5,vS a1 xs.length a2)] (sn (sp 2 [(9,.func (.func 150) #[] #[]),(8,vS a1 xs.length a2)] (sS (sc (some 10) (F:=(F)) (SortStable_ct _ _ _ _ b2 (by exact hsm) (by omega) :) (.refl _) (fun b8 c1 b7 a3 a8=>?_)))));obtain ⟨a0,a5,a4,a6⟩:=a8;rw [a5,a4];clear a5 a4;refine nm (sn ?_);refine sp 2 [(4,vS a1 xs.length a2)] (se (BC (FL 4 a0 rfl (TA (TR _) _) (IT a7 a3) ?_)));exact ⟨_,_,rfl,rfl,a6⟩
noncomputable def c_byHour:=cod Tryz.f125
theorem byHour_ct (I:Imm):Ct Tryz.prog 125 #[] I ([]) (fun v I' M'=>v=.agg #[.func (.func 150) #[] #[]]∧M'=[]):=by
 refine fr (args:=[]) (N:=2) Tryz.func125 (fun F=>?_);show Run _ _ (c_byHour []) _ _ [] _ _;refine rnm (rqr ?_);refine sS (sal 0 153 #[.nilFunc] (fun b1=>(sn (sp 1 [(1,.agg #[.func (.func 150) #[] #[]])] (sS (ss 0 0 b1 [.func (.func 150) #[] #[]] [.func (.func 150) #[] #[]] (_::_) (cs:=[_]) rfl rfl (se (BC (GG (t:=0) (T:=153) (n:=1) [] (by kernel_rfl) rfl (by kernel_rfl) rfl (snm [.func (.func 150) #[] #[]] b1 153) (.inl ⟨by kernel_rfl,rfl⟩) (TC _ (TR _)) (IR _) ?_)))))))));exact ⟨rfl,rfl⟩
end Go.Proofs.YtgcemienebmdeaaGreat
