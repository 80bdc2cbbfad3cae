/- A part of the proof of the laws of this seat. -/
import Derived.Test.YtgcemienebmdeaaGreatP2
import Derived.Test.YtgcemienebmdeaaGreatP1
set_option linter.unusedVariables false
set_option linter.unusedSimpArgs false
namespace Go.Sh
open Go Go.Sl
def gAt (cs:List Car) (i:Nat):Int:=(cs.getD i noCar).grp
structure CarsInv (cs:List Car) (g l:Int):Prop where
  ok:∀ c∈cs,carErr c=0∧c.len≤3
  le:∀ i,i<cs.length→gAt cs i≤g
  run:∀ i j,i≤j→j<cs.length→gAt cs i=gAt cs j→gAt cs i≠0→∀ m,i≤m→m≤j→gAt cs m=gAt cs i
  g0:0≤g∧g≤3
  l0:0≤l∧l≤2
  last:0<l→1≤g∧(0<cs.length→gAt cs (cs.length-1)=g∨∀ i,i<cs.length→gAt cs i<g)
theorem CarsInv.nil:CarsInv [] 0 0:=⟨fun c h=>by simp at h,fun i h=>by simp at h,fun i j _ h=>by simp at h,by omega,by omega,fun h=>by omega⟩
structure Placed (cs:List Car) (T k a:Nat) (ts:List (List Int)):Prop where
  len:ts.length=T
  a0:a<T
  perm:ts.flatten.Perm (DO k)
  ex:∃ tr:Nat→Nat,(∀ i,i<T→ts.getD i []=(DO k).filter fun c=>decide (tr c.toNat=i))∧(∀ c,c<k→tr c<T)∧(∀ c,c+1<k→gAt cs (c+1)≠0→gAt cs (c+1)=gAt cs c→tr (c+1)=tr c)∧(0<k→tr (k-1)=a)
theorem mem_wholeL {n:Nat} {c:Int}:c∈DO n↔0≤c∧c<n:=by
  unfold DO;simp only [List.mem_map,List.mem_range]
  constructor
  · rintro ⟨i,hi,rfl⟩;omega
  · intro h;exact ⟨c.toNat,by omega,by omega⟩
theorem Placed.start {cs:List Car} {T:Nat} (hT:0<T):Placed cs T 0 0 (List.replicate T []):=by
  refine ⟨by simp,hT,by simp [DO],fun _=>0,fun i hi=>?_,fun c h=>by omega,fun c h=>by omega,fun h=>by omega⟩;simp [DO,List.getD,hi]
theorem sorted_prev {l:List Int} (hs:l.Pairwise (·<·)) {j:Nat} (hj:j<l.length) (hm:l.getD j 0-1∈l):0<j∧l.getD (j-1) 0=l.getD j 0-1:=by
  obtain ⟨m,hm1,hm2⟩:=List.mem_iff_getElem.1 hm;have hlt:∀ (x y:Nat) (hx:x<l.length) (hy:y<l.length),x<y→l.getD x 0<l.getD y 0:=fun x y hx hy h=>by
    have:=List.pairwise_iff_getElem.1 hs x y hx hy h
    simpa [List.getD,hx,hy] using this
  have e:l.getD m 0=l.getD j 0-1:=by simpa [List.getD,hm1] using hm2
  have h1:m<j:=by
    rcases Nat.lt_trichotomy m j with h | h | h
    · exact h
    · subst h;omega
    · have:=hlt j m hj hm1 h;omega
  rcases Nat.lt_or_ge m (j-1) with h2 | h2
  · have a:=hlt m (j-1) hm1 (by omega) h2
    have b:=hlt (j-1) j (by omega) hj (by omega);omega
  · have:m=j-1:=by omega
    subst this;exact ⟨by omega,e⟩
theorem wholeL_sorted (n:Nat):(DO n).Pairwise (·<·):=by
  unfold DO;rw [List.pairwise_map];exact List.pairwise_lt_range.imp fun h=>by omega
theorem Placed.groups {cs:List Car} {T a:Nat} {ts:List (List Int)} {g l:Int} (h:Placed cs T cs.length a ts) (hc:CarsInv cs g l):GrpFrom cs ts []:=by
  obtain ⟨tr,t1,t2,t3,t4⟩:=h.ex;have hmem:∀ i,i<T→∀ c,c∈ts.getD i []↔(0≤c∧c<cs.length)∧tr c.toNat=i:=fun i hi c=>by
    rw [t1 i hi,List.mem_filter,mem_wholeL,decide_eq_true_eq]
  have hgrp:∀ c:Int,grp cs c=gAt cs c.toNat:=fun c=>rfl
  have hrun:∀ n x:Nat,x+n<cs.length→gAt cs x≠0→gAt cs x=gAt cs (x+n)→tr (x+n)=tr x:=by
    intro n
    induction n with
    | zero=>intro x _ _ _;rfl
    | succ n ih=>
      intro x hx h0 e;have e1:gAt cs (x+n)=gAt cs x:=hc.run x (x+(n+1)) (by omega) hx e h0 (x+n) (by omega) (by omega);have:=ih x (by omega) h0 e1.symm;rw [← this];exact t3 (x+n) (by omega) (by rw [show x+n+1=x+(n+1) by omega,← e];exact h0) (by rw [show x+n+1=x+(n+1) by omega,← e,e1])
  have hrun2:∀ x y:Nat,x<cs.length→y<cs.length→gAt cs x≠0→gAt cs x=gAt cs y→tr x=tr y:=fun x y hx hy h0 e=>by
    rcases Nat.le_total x y with hxy | hxy
    · have:=hrun (y-x) x (by omega) h0 (by rw [show x+(y-x)=y by omega];exact e)
      rw [show x+(y-x)=y by omega] at this;exact this.symm
    · have:=hrun (x-y) y (by omega) (by rw [← e];exact h0) (by rw [show y+(x-y)=x by omega];exact e.symm)
      rw [show y+(x-y)=x by omega] at this;exact this
  intro i j hi hj h0 hm;rw [h.len] at hi;have hcm:(ts.getD i []).getD j 0∈ts.getD i []:=BD hj;obtain ⟨⟨c0,c1⟩,c2⟩:=(hmem i hi _).1 hcm
  generalize hcc:(ts.getD i []).getD j 0=c at hcm c0 c1 c2 h0 hm
  rcases hm with hm | ⟨c',hc',e⟩
  · simp at hm
  · rw [hgrp,hgrp] at e
    rw [hgrp] at h0;have hs:(ts.getD i []).Pairwise (·<·):=by rw [t1 i hi];exact (wholeL_sorted _).sublist List.filter_sublist
    have hc2:(0≤c'∧c'<cs.length)∧(tr c'.toNat<i∨c'∈(ts.getD i []).take j):=by
      rcases List.mem_append.1 hc' with hx | hx
      · obtain ⟨t,ht,hx⟩:=List.mem_flatten.1 hx
        obtain ⟨m,hm1,hm2⟩:=List.mem_iff_getElem.1 ht;have hm3:m<i∧m<ts.length:=by rw [List.length_take] at hm1;omega
        have e3:ts.getD m []=t:=by rw [← hm2];simp [List.getD,hm3.2]
        rw [← e3] at hx;obtain ⟨hb,ht2⟩:=(hmem m (by rw [← h.len];exact hm3.2) _).1 hx;exact ⟨hb,.inl (by omega)⟩
      · exact ⟨((hmem i hi _).1 (List.mem_of_mem_take hx)).1,.inr hx⟩
    obtain ⟨⟨d0,d1⟩,hd⟩:=hc2;have htr:=hrun2 c.toNat c'.toNat (by omega) (by omega) (by omega) e.symm;rcases hd with hd | hd
    · omega
    · obtain ⟨m,hm1,hm2⟩:=List.mem_iff_getElem.1 hd
      have hm3:m<j∧m<(ts.getD i []).length:=by rw [List.length_take] at hm1;omega
      have hlt:c'<c:=by
        have h1:=List.pairwise_iff_getElem.1 hs m j hm3.2 hj hm3.1;have e1:c'=(ts.getD i [])[m]:=by rw [← hm2];simp
        have e2:c=(ts.getD i [])[j]:=by rw [← hcc,List.getD,List.getElem?_eq_getElem hj];rfl
        rw [e1,e2];exact h1
      have e4:gAt cs (c.toNat-1)=gAt cs c'.toNat:=hc.run c'.toNat c.toNat (by omega) (by omega) e (by omega) (c.toNat-1) (by omega) (by omega);have e5:tr (c.toNat-1)=i:=by
        have:=hrun2 (c.toNat-1) c.toNat (by omega) (by omega) (by omega) (by omega);omega
      have hin:c-1∈ts.getD i []:=(hmem i hi _).2 ⟨by omega,by rw [show (c-1).toNat=c.toNat-1 by omega];exact e5⟩;have hp:=sorted_prev hs hj (by rw [hcc];exact hin);rw [hcc] at hp;unfold LW;have e6:((j:Int)-1).toNat=j-1:=by omega
      rw [show (↑j:Int).toNat=j by omega,e6,hp.2,hcc];have e7:inB ↑j 1 (↑(ts.getD i []).length-1)=true:=by simp only [inB,Bool.and_eq_true,decide_eq_true_eq];omega
      rw [e7];have e8:(carAt cs c).grp=(carAt cs (c-1)).grp:=by
        show gAt cs c.toNat=gAt cs (c-1).toNat;rw [show (c-1).toNat=c.toNat-1 by omega];omega
      rw [decide_eq_true (show 0<(carAt cs c).grp from h0),decide_eq_true e8];rfl
structure Roomy (cs:List Car) (ts:List (List Int)) (k:Nat) (rm:List Int):Prop where
  len:rm.length=k
  ok:∀ n∈rm,0≤n∧n≤20
  fits:∀ i,i<k→lenOf cs (ts.getD i [])≤rm.getD i 0
theorem Roomy.nil (cs:List Car) (ts:List (List Int)):Roomy cs ts 0 []:=⟨rfl,fun n h=>by simp at h,fun i h=>by omega⟩
theorem Placed.tracks {cs:List Car} {T k a:Nat} {ts:List (List Int)} (h:Placed cs T k a ts):ts.flatten.length=k:=by rw [h.perm.length_eq,EU]
structure Blk (cs:List Car) (bl:List (List Int)):Prop where
  one:∀ b∈bl,∀ x∈b,∀ y∈b,grp cs x=grp cs y
  apart:bl.Pairwise fun b c=>∀ x∈b,∀ y∈c,0<grp cs x→grp cs x≠grp cs y
theorem Blk.perm {cs:List Car} {bl bl':List (List Int)} (h:Blk cs bl) (p:bl.Perm bl'):Blk cs bl':=
  ⟨fun b hb=>h.one b (p.mem_iff.2 hb),(p.pairwise_iff (fun {b c} hbc x hx y hy h0 e=>hbc y hy x hx (by omega) e.symm)).1 h.apart⟩
section
variable {Y:Yard} {k:Nat}
end
section
variable {Y:Yard} {s:Shift} {k:Nat}
end
section
variable {Y:Yard} {goal:Yard→Bool} {d k:Nat} {ds:List Shift}
end
theorem deal_put {n k:Nat} (hk:k<n):(DO k++List.replicate (n-k) (0:Int)).set k (k:Int)=DO (k+1)++List.replicate (n-(k+1)) 0:=by
  rw [List.set_append_right _ _ (by rw [EU];omega),EU,Nat.sub_self,show n-k=(n-(k+1))+1 by omega,List.replicate_succ,List.set_cons_zero,wholeL_succ];simp
theorem swap_perm {l:List Int} {i j:Nat} (hi:i<l.length) (hj:j<l.length):((l.set i (l.getD j 0)).set j (l.getD i 0)).Perm l:=by
  have e1:l.getD i 0=l[i]:=by simp [List.getD,hi]
  have e2:l.getD j 0=l[j]:=by simp [List.getD,hj]
  rw [e1,e2];exact List.set_set_perm hi hj
end Go.Sh
namespace Go.Sl
open Go
theorem own_val_int {E:TypeId} {v:Value} {M:Seg} {vs:List Value} {ys:List Int} (h:Own E 1 DT v vs M) (he:vs=ys.map fun n=>Value.int .i64 n):Own E 1 AJ v ys M:=by
  have e1:CJ 1 DT vs=CJ 1 AJ ys:=by
    rw [he,encL_vals];simp only [CJ,AJ,List.range_one,List.map_cons,List.map_nil];exact List.map_eq_flatMap
  have e2:vs.length=ys.length:=by rw [he,List.length_map]
  rcases h with ⟨hv,hx,hM⟩ | ⟨b,c,sp,hv,hc,hM,hl⟩
  · refine .inl ⟨hv,?_,hM⟩
    rw [hx] at e2;exact List.length_eq_zero_iff.1 e2.symm
  · exact .inr ⟨b,c,sp,by rw [hv,e2],by rw [← e2];exact hc,by rw [← e1];exact hM,by rw [← e1];exact hl⟩
end Go.Sl
namespace Go.Sh
open Go Go.Sl
def yvD:Value × Value × Value:=(undef,undef,undef)
def YardsV (I:Imm) (xs:List (Value × Value × Value)) (Ys:List Yard):Prop:=xs.length=Ys.length∧∀ i,i<xs.length→IsYard I (.agg #[(xs.getD i yvD).1,(xs.getD i yvD).2.1,(xs.getD i yvD).2.2]) (Ys.getD i noYard)
theorem YardsV.nil (I:Imm):YardsV I [] []:=⟨rfl,fun i hi=>by simp at hi⟩
theorem YardsV.at {I : Imm} {xs : List (Value × Value × Value)} {Ys : List Yard} (h : YardsV I xs Ys) {i : Nat} (hi : i < xs.length) :
    ∃ a b c,xs.getD i yvD=(a,b,c)∧IsCars I a (Ys.getD i noYard).cars∧CG I b (Ys.getD i noYard).room∧IsRows I c (Ys.getD i noYard).tracks:=by
  obtain ⟨v1,v2,v3,h1,h2,h3,h4⟩:=h.2 i hi;simp only [Value.agg.injEq] at h1;have e:=congrArg Array.toList h1;simp only [List.cons.injEq,and_true] at e;refine ⟨v1,v2,v3,?_,h2,h3,h4⟩;rw [← e.1,← e.2.1,← e.2.2]
def RowsS (I:Imm) (vs:List Value) (Ls:List (List Shift)):Prop:=vs.length=Ls.length∧∀ i,i<Ls.length→IsShifts I (vs.getD i undef) (Ls.getD i [])
theorem RowsS.nil (I:Imm):RowsS I [] []:=⟨rfl,fun i hi=>by simp at hi⟩
end Go.Sh
namespace Go.Sl
open Go
end Go.Sl
namespace Go.Sh
open Go Go.Sl
end Go.Sh
namespace Go.Sl
open Go
section
variable {P:Program} {N:Nat} {ops:Array Oper} {i d:Nat} {l:Sl} {I:Imm} {R:Seg} {ty:TypeId} {gd:Option (Nat × Bool)}
theorem det_remT {x y : Operand} {T T' : TypeId} {k : IntKind} {a b : Int} (hop : FR ops N i = some (some d, .binOp .rem T x y T', ty, gd)) (hg : FA ops l gd = some true)
    (hx:BS l x=some (.int k a)) (hy:BS l y=some (.int k b)) (hb:1≤b):Det P N ops i l I R d (.int k (a.tmod b)):=
  det_bin hop hg hx hy fun I' M'=>by
    have hne:b≠0:=by omega
    simp only [binOp,Op.intDiv,ne_eq,not_true_eq_false,if_false,if_neg hne];exact ⟨rfl,rfl⟩
end
theorem tmod_bounds {x:Int} {n:Nat} (hn:2≤n):-(n:Int)<x.tmod n∧x.tmod n<n:=
  ⟨by have:=Int.lt_tmod_of_pos x (show (0:Int)<n by omega);omega,Int.tmod_lt_of_pos x (by omega)⟩
theorem fold_nat {x:Int} {n:Nat} (hn:2≤n):∃ r:Nat,(x.tmod n+n)%(n:Int)=↑r∧r<n:=by
  have h1:=Int.emod_nonneg (x.tmod n+n) (show (n:Int)≠0 by omega);have h2:=Int.emod_lt_of_pos (x.tmod n+n) (show (0:Int)<n by omega);exact ⟨((x.tmod n+n)%(n:Int)).toNat,by omega,by omega⟩
end Go.Sl
namespace Go.Sh
open Go Go.Sl
end Go.Sh
namespace Go.Proofs.YtgcemienebmdeaaGreat
open Go Go.Sl Go.Sh
set_option maxRecDepth 100000
noncomputable def c_Deal (p:List Nat):Code:=sub (AQ Tryz.f53) p
theorem Deal_ct (I:Imm) (p:Nat) (p_s:Int) (n:Nat) (hn:n≤1000):Ct Tryz.prog 53 #[vP p 0,vI ↑n] I ([(bX p #[.int .u64 (p_s)] 91)]) (fun v I' M'=>∃ p_t:Int,∃ l:List Int,∃ u:Value,∃ Ms:Seg,v=u∧M'=[(bX p #[.int .u64 (p_t)] 91)]++(Ms)∧(l.Perm (DO n))∧Own 3 1 AJ u (l) Ms):=by
 refine fr (args:=[_,_]) (N:=45) Tryz.func53 (fun F=>?_);show Run _ _ (c_Deal []) _ _ [(0,vP p 0),(1,vI (↑n))] _ _;refine rnm (rqr ?_);refine sp 1 [(4,vN)] (sn (sp 2 [(10,vI ((if (↑n:Int)<(0:Int) then 0 else ↑n)))] (CN 10 rfl (show (vI ((if (↑n:Int)<(0:Int) then 0 else ↑n)):Value)=vI (↑n) from congrArg (Value.int .i64) (by split <;> omega)) (sS (NI (d:=11) (x:=(.tmp 10)) (T:=29) (E:=3) (bs:=8) (n:=n) (z:=vI (0)) (zv:=vI (0)) (ty:=29) (gd:=none) (by kernel_rfl) rfl (by kernel_rfl) (by kernel_rfl) (by kernel_rfl) rfl (by kernel_rfl) (by decide) rfl (by omega) (fun b1=>?_))))));have d5:Own 3 1 DT (vS (some ⟨b1,0,none⟩) n n) (List.replicate n (vI (0))) [(b1,Obj.cells (List.replicate n (vI (0))).toArray 3 (0,0))]:=Own.made _;obtain ⟨mS4,hmS4⟩:∃ X:Seg,X=[(b1,Obj.cells (List.replicate n (vI (0))).toArray 3 (0,0))]:=⟨_,rfl⟩;rw [← hmS4] at d5;refine AY (I':=I) (M':=((mS4++(bX p #[.int .u64 (p_s)] 91)::F))) (fun w h=>by rw [hmS4];exact h) (pm (M':=((bX p #[.int .u64 (p_s)] 91)::(mS4++F))) PM ?_);have d1:=own_val_int (ys:=List.replicate n (0:Int)) d5 (by rw [List.map_replicate]);refine sp 1 [(5,vS (some ⟨b1,0,none⟩) n n)] (se (rq (rqr (sp 1 [(6,vI (0))] (se (rb 0 ?_))))));refine rl (fun mz a w=>∃ k:Nat,∃ b2:Value,∃ a7:Seg,(k≤n)∧(Own 3 1 AJ b2 ((DO k++List.replicate (n-k) (0:Int))) a7)∧Slots 45 [(5,b2),(6,vI ↑k),(0,vP p 0),(1,vI (↑n)),(4,vN)] a∧a.defers=[]∧St I ((bX p #[.int .u64 (p_s)] 91)::(a7++F)) w∧mz=n-k) ?_ ?_
 ·intro a w hS hD hW;exact ⟨_,0,vS (some ⟨b1,0,none⟩) n n,mS4,Nat.zero_le _,(show Own _ _ _ _ (DO 0++List.replicate (n-0) (0:Int)) _ from d1),hS.sub (.cons 5 rfl (.cons 6 rfl (.cons 0 rfl (.cons 1 rfl (.cons 4 rfl (.nil _)))))),hD,hW,rfl⟩
 rintro mz a w ⟨k,b2,a7,hk,a8,hS,hD,hW,rfl⟩
 refine AW hS hD hW ?_;clear hS hD hW a w;obtain ⟨a5,a6,b4,c6⟩:=a8.shape;subst b4;have d7:=EU k;have e6:(DO k++List.replicate (n-k) (0:Int)).length=n:=by rw [LA,d7,List.length_replicate];omega
 refine rq (rqr (sp 3 [(14,.bool (cmp .lss (↑k) (↑n)))] (se (rc 14 rfl (fun h1=>?_) (fun h1=>?_)))))
 ·
  have c8:=h1;have h1:=CO h1;refine AR (NX (rq (rb 1 (rr (sp 3 [(19,vI (↑k)),(18,vI (↑k)),(17,vS a5 ((DO k++List.replicate (n-k) (0:Int))).length a6)] ?_)))));obtain ⟨e7,c5⟩:=a8.row 0;refine sd (di 20 1 (k) c5.addr) (sS (BK (T:=3) (x:=(.tmp 20)) (y:=(.tmp 19)) (rc:=fun i f=>AJ (((DO k++List.replicate (n-k) (0:Int))).getD i 0) f) 0 (k) 0 (↑k) (ty:=0) (gd:=none) (by kernel_rfl) rfl a8 c5 (by omega) (by decide) rfl rfl (by kernel_rfl) rfl rfl (by intro f hf;match f,hf with | 0,_=>rfl) (PM.symm) (fun d4 d6=>(pm (M':=((bX p #[.int .u64 (p_s)] 91)::(d4++F))) PM (ee (NB (NX (rr (sp 1 [(15,vI (↑k))] (sd (da 16 (↑k) (1)) (sp 1 [(6,vI (↑k+1))] (ee ?_))))))))))));refine AN (n-(k+1)) (by omega) ?_;intro a w hS hD hW;exact ⟨k+1,vS a5 ((DO k++List.replicate (n-k) (0:Int))).length a6,d4,by omega,(by rw [← deal_put (by omega)];exact d6),hS.sub (.consE 5 rfl rfl (.consE 6 rfl rfl (.cons 0 rfl (.cons 1 rfl (.cons 4 rfl (.nil _)))))),hD,hW,rfl⟩
 have c8:=h1;have h1:=CY h1;refine CL 0 ((EP (EP (EB (NX (rq (rqr (sp 1 [(21,vI (↑n))] (sd (dsb 22 (↑n) (1)) (sp 1 [(7,vI (↑n-1))] (se (rb 2 ?_))))))))))));refine rl (fun mz a w=>∃ J1:Imm,∃ k:Nat,∃ zs:List Int,∃ s:Int,∃ b3:Value,∃ a2:Seg,(I.le J1)∧(k≤n)∧(zs.Perm (DO n))∧(Own 3 1 AJ b3 (zs) a2)∧Slots 45 [(5,b3),(7,vI (↑k-1)),(0,vP p 0),(4,vN)] a∧a.defers=[]∧St J1 ((bX p #[.int .u64 (s)] 91)::(a2++F)) w∧mz=k+1) ?_ ?_
 ·intro a w hS hD hW;exact ⟨_,I,n,(DO n),p_s,vS a5 ((DO k++List.replicate (n-k) (0:Int))).length a6,a7,IR _,Nat.le_refl _,PR _,((show (DO k++List.replicate (n-k) (0:Int))=DO n from by rw [show k=n by omega,Nat.sub_self,List.replicate_zero,List.append_nil])▸a8),hS.sub (.cons 5 rfl (.cons 7 rfl (.cons 0 rfl (.cons 4 rfl (.nil _))))),hD,hW,rfl⟩
 rintro mz a w ⟨J1,k,zs,s,b3,a2,hJ1,hk,d3,a3,hS,hD,hW,rfl⟩
 refine AW hS hD hW ?_;clear hS hD hW a w;obtain ⟨a0,a1,b5,c7⟩:=a3.shape;subst b5;have d8:=d3.length_eq;rw [EU] at d8;refine rq (rqr (sp 2 [(24,.bool (cmp .gtr (↑k-1) (0)))] (se (rc 24 rfl (fun h2=>?_) (fun h2=>?_)))))
 ·
  have c9:=h2;have h2:=LF h2;refine AR (NX (rq (rb 3 (rqr (sp 2 [(28,vI (↑k-1)),(27,vP p 0)] (sS (sc (some 29) (F:=((a2++F))) (MH _ (p) (s) (↑k-1) (by omega) :) (.refl _) (fun e5 I9 e4 c1 d2=>?_))))))));obtain ⟨a4,a9,c4,c2,e3⟩:=d2;rw [c4,c2];clear c4 c2;refine nm ?_;refine sp 1 [(8,vI (↑a9))] (se ?_);refine rdX (M:=((bX p #[.int .u64 (a4)] 91)::(a2++[]))) (F0:=F) [] 14 [(0,true),(1,true),(2,true),(3,true),(4,true),(5,true),(6,true),(7,true),(8,true),(9,true),(10,true),(11,true),(12,true),(13,false)] (by simp only [AA,CA,NA,List.append_nil];exact PR _) HE ?_;refine AG (AL (d:=30) (v:=vS a0 zs.length a1) (by kernel_rfl)) ?_;refine AG (AL (d:=31) (v:=vI (↑k-1)) (by kernel_rfl)) ?_;refine AV (AL (d:=32) (v:=vS a0 zs.length a1) (by kernel_rfl)) ?_;refine AV (AL (d:=33) (v:=vI (↑a9)) (by kernel_rfl)) ?_;refine AG (AL (d:=34) (v:=vS a0 zs.length a1) (by kernel_rfl)) ?_;refine AG (AL (d:=35) (v:=vI (↑a9)) (by kernel_rfl)) ?_;obtain ⟨d9,b6⟩:=a3.row 0;refine AG (di 36 1 (a9) b6.addr) ?_;refine AG (dl 37 (b6.get (a9) (by omega) 0 (by decide) _ _ (fun x hx=>by simp [hx]))) ?_;refine AG (AL (d:=38) (v:=vS a0 zs.length a1) (by kernel_rfl)) ?_;refine AG (AL (d:=39) (v:=vI (↑k-1)) (by kernel_rfl)) ?_;obtain ⟨e0,b7⟩:=a3.row 0;refine AG (diI 40 1 (↑k-1) b7.addr) ?_;refine AG (dl 41 (b7.get ((↑k-1:Int).toNat) (by omega) 0 (by decide) _ _ (fun x hx=>by simp [hx]))) ?_;obtain ⟨e1,b8⟩:=a3.row 0;refine AG (diI 42 1 (↑k-1) b8.addr) ?_;refine DB (Mx:=fun FX=>((bX p #[.int .u64 (a4)] 91)::(a2++FX))) rfl (fun FX=>by simp only [AA,CA,NA,List.append_nil];exact PR _) (fun FX=>?_);refine id (BK (T:=3) (x:=(.tmp 42)) (y:=(.tmp 37)) (rc:=fun i f=>AJ ((zs).getD i 0) f) 0 ((↑k-1:Int).toNat) 0 (zs.getD (a9) 0) (ty:=0) (gd:=none) (by kernel_rfl) rfl a3 b8 (by omega) (by decide) rfl rfl (by kernel_rfl) rfl rfl (by intro f hf;match f,hf with | 0,_=>rfl) (PM.symm) (fun b9 c3=>?_));refine FD (M1:=((bX p #[.int .u64 (a4)] 91)::(b9++[]))) (by simp only [AA,CA,NA,List.append_nil];exact PM) (.wait (by kernel_rfl) (.wait (by kernel_rfl) (.wait (by kernel_rfl) (.wait (by kernel_rfl) (.wait (by kernel_rfl) (.wait (by kernel_rfl) (.wait (by kernel_rfl) (.wait (by kernel_rfl) (.wait (by kernel_rfl) (.none (.none (.wait (by kernel_rfl) (.wait (by kernel_rfl) .nil))))))))))))) ?_;refine FF (AY (M':=((bX p #[.int .u64 (a4)] 91)::(b9++F))) (fun w h=>by simpa only [AA,CA,NA,List.append_nil] using h) (nm ?_));obtain ⟨e2,b0⟩:=c3.row 0;simp only [LS] at b0;refine sd (di 43 1 (a9) (fun _=>b0.addr (by omega)) (n:=zs.length)) (sS (BK (T:=3) (x:=(.tmp 43)) (y:=(.tmp 41)) (rc:=fun i f=>AJ ((zs.set ((↑k-1:Int).toNat) (zs.getD (a9) 0)).getD i 0) f) 0 (a9) 0 (zs.getD ((↑k-1:Int).toNat) 0) (ty:=0) (gd:=none) (by kernel_rfl) rfl c3 (by simpa only [LS] using b0) (by simp only [LS];omega) (by decide) rfl rfl (by kernel_rfl) rfl rfl (by intro f hf;match f,hf with | 0,_=>rfl) (PM.symm) (fun c0 d0=>(pm (M':=((bX p #[.int .u64 (a4)] 91)::(c0++F))) PM (ee (NB (NX (rr (sp 1 [(25,vI (↑k-1))] (sd (dsb 26 (↑k-1) (1)) (sp 1 [(7,vI ((↑k-1)-1))] (ee ?_))))))))))));refine AN (k-1+1) (by omega) ?_;intro a w hS hD hW;exact ⟨I9,k-1,(zs.set ((↑k-1:Int).toNat) (zs.getD (a9) 0)).set (a9) (zs.getD ((↑k-1:Int).toNat) 0),a4,vS a0 zs.length a1,c0,(IT hJ1 c1),by omega,(swap_perm (by omega) (by omega)).trans d3,d0,hS.sub (.consE 5 rfl rfl (.consE 7 rfl (congrArg (Value.int .i64) (by omega)) (.cons 0 rfl (.cons 4 rfl (.nil _))))),hD,hW,rfl⟩
 have c9:=h2;have h2:=PI h2;refine CL 2 ((EP (EP (EB (NX (rqr (sp 2 [(4,vS a0 zs.length a1)] (se (BM (AH (t:=4) ([(bX p #[.int .u64 (s)] 91)]++(a2)) (by kernel_rfl) rfl (by simp only [AA,NA,CA];exact (TK _ (TA (TR _) _))) hJ1 ?_))))))))));exact ⟨_,_,_,_,rfl,rfl,d3,a3⟩
end Go.Proofs.YtgcemienebmdeaaGreat
namespace Go.Sh
open Go Go.Sl
def KeepsOf (P:Int) (r:Int) (ks:List Keep):Prop:=ks.length≤4∧∀ j,j<ks.length→let k:=ks.getD j AP;(0≤k.place∧k.place≤P-1)∧(7*(r-j)≤k.hour∧k.hour≤7*(r-j)+6)∧(1≤k.who∧k.who≤9)
theorem KeepsOf.nil {P r:Int}:KeepsOf P r []:=⟨Nat.zero_le _,fun j hj=>absurd hj (Nat.not_lt_zero _)⟩
theorem KeepsOf.snoc {P r:Int} {ks:List Keep} {k:Keep} (h:KeepsOf P r ks) (hl:ks.length<4) (hp:0≤k.place∧k.place≤P-1) (hh:7*(r-ks.length)≤k.hour∧k.hour≤7*(r-ks.length)+6) (hw:1≤k.who∧k.who≤9):KeepsOf P r (ks++[k]):=by
  refine ⟨by simp;omega,fun j hj=>?_⟩;rcases Nat.lt_or_ge j ks.length with h1 | h1
  · have:=h.2 j h1
    simpa only [List.getD,List.getElem?_append_left h1] using this
  · have e:j=ks.length:=by simp at hj;omega
    subst e;have:(ks++[k]).getD ks.length AP=k:=by simp [List.getD]
    rw [this];exact ⟨hp,hh,hw⟩
def SlipsOf (P Q:Int) (dl:List Int) (i:Nat) (sl:List Slip):Prop:=sl.length≤i∧(∀ s∈sl,∀ L:Lin,L.places=P→L.sorts=Q→BV L s=0)∧(sl.map (·.num)).Nodup∧∀ s∈sl,∃ j,j<i∧s.num=1+dl.getD j 0
theorem SlipsOf.nil {P Q:Int} {dl:List Int}:SlipsOf P Q dl 0 []:=⟨Nat.le_refl _,fun s hs=>absurd hs List.not_mem_nil,List.nodup_nil,fun s hs=>absurd hs List.not_mem_nil⟩
theorem SlipsOf.skip {P Q:Int} {dl:List Int} {i:Nat} {sl:List Slip} (h:SlipsOf P Q dl i sl):SlipsOf P Q dl (i+1) sl:=⟨by have:=h.1;omega,h.2.1,h.2.2.1,fun s hs=>by obtain ⟨j,h1,h2⟩:=h.2.2.2 s hs;exact ⟨j,by omega,h2⟩⟩
theorem SlipsOf.snoc {P Q:Int} {dl:List Int} {i:Nat} {sl:List Slip} {s:Slip} (h:SlipsOf P Q dl i sl) (hd:dl.Nodup) (hi:i<dl.length) (hn:s.num=1+dl.getD i 0) (hs:∀ L:Lin,L.places=P→L.sorts=Q→BV L s=0):SlipsOf P Q dl (i+1) (sl++[s]):=by
  refine ⟨by have:=h.1;simp;omega,fun t ht=>?_,?_,fun t ht=>?_⟩
  · rcases List.mem_append.1 ht with ht | ht
    · exact h.2.1 t ht
    · simp only [List.mem_singleton] at ht;subst ht;exact hs
  · rw [List.map_append,List.map_cons,List.map_nil]
    refine List.nodup_append.2 ⟨h.2.2.1,by simp,fun a ha b hb=>?_⟩;simp only [List.mem_singleton] at hb;obtain ⟨t,ht,rfl⟩:=List.mem_map.1 ha;obtain ⟨j,hj,e⟩:=h.2.2.2 t ht;intro e2;rw [hb,hn] at e2;have e3:dl.getD j 0=dl.getD i 0:=by omega
    have hj2:j<dl.length:=by omega
    have:j=i:=(List.getElem_inj (h₀:=hj2) (h₁:=hi) hd).1 (by simpa [List.getD,hj2,hi] using e3);omega
  · rcases List.mem_append.1 ht with ht | ht
    · obtain ⟨j,h1,h2⟩:=h.2.2.2 t ht;exact ⟨j,by omega,h2⟩
    · simp only [List.mem_singleton] at ht;subst ht;exact ⟨i,by omega,hn⟩
theorem HZ {P Q:Int} {s:Slip} (h1:1≤s.num∧s.num≤999) (h2:0≤s.hour∧s.hour≤200) (h3:1≤s.kind∧s.kind≤6) (h4:0≤s.place∧s.place≤P-1) (h5:s.kind=1→(0≤s.to∧s.to≤P-1)∧s.to≠s.place) (h6:s.kind≠1→s.to=0) (h7:0≤s.sort∧s.sort≤Q-1) (h8:s.soil=true→s.kind=1∨s.kind=4) (h9:s.kind=4∨1≤s.amt) (h10:0≤s.amt∧s.amt≤50):∀ L:Lin,L.places=P→L.sorts=Q→BV L s=0:=by
  intro L hP hQ;have t:∀ {n lo hi:Int},lo≤n∧n≤hi→¬ inB n lo hi=false:=fun h e=>by
    rw [show inB _ _ _=true from by simpa [inB] using h] at e;cases e
  unfold BV
  rw [hP,hQ,if_neg (t h1),if_neg (t h2),if_neg (t h3),if_neg (t h4),if_neg (fun e=>t (h5 e.1).1 e.2),if_neg (fun e=>(h5 e.1).2 e.2),if_neg (fun e=>e.2 (h6 e.1)),if_neg (t h7),
    if_neg (fun e=>(h8 e.1).elim e.2.1 e.2.2),if_neg (t (by split <;> omega))]
def RowsB (B:Int) (n:Nat) (xss:List (List Int)):Prop:=∀ r∈xss,r.length=n∧∀ x∈r,0≤x∧x≤B
theorem RowsB.nil {B:Int} {n:Nat}:RowsB B n []:=fun r hr=>by cases hr
theorem RowsB.snoc {B:Int} {n:Nat} {xss:List (List Int)} {r:List Int} (h:RowsB B n xss) (hl:r.length=n) (hr:∀ x∈r,0≤x∧x≤B):RowsB B n (xss++[r]):=fun q hq=>by
  rcases List.mem_append.1 hq with hq | hq
  · exact h q hq
  · simp only [List.mem_singleton] at hq;subst hq;exact ⟨hl,hr⟩
theorem RowsB.mono {B B':Int} {n:Nat} {xss:List (List Int)} (h:RowsB B n xss) (hb:B≤B'):RowsB B' n xss:=fun r hr=>⟨(h r hr).1,fun x hx=>by have:=(h r hr).2 x hx;omega⟩
theorem RowsB.set {B:Int} {n p i:Nat} {xss:List (List Int)} {v:Int} (h:RowsB B n xss) (hp:p<xss.length) (hv:0≤v∧v≤B):RowsB B n (xss.set p ((xss.getD p []).set i v)):=fun r hr=>by
  rcases List.mem_or_eq_of_mem_set hr with hr | rfl
  · exact h r hr
  · have h1:=h _ (BD (xs:=xss) (d:=[]) hp)
    refine ⟨by rw [List.length_set];exact h1.1,fun x hx=>?_⟩;rcases List.mem_or_eq_of_mem_set hx with hx | rfl
    · exact h1.2 x hx
    · exact hv
theorem RowsB.at {B:Int} {n p i:Nat} {xss:List (List Int)} (h:RowsB B n xss) (hp:p<xss.length) (hi:i<n):(xss.getD p []).length=n∧0≤(xss.getD p []).getD i 0∧(xss.getD p []).getD i 0≤B:=by
  have h1:=h _ (BD (xs:=xss) (d:=[]) hp);exact ⟨h1.1,h1.2 _ (BD (xs:=xss.getD p []) (d:=0) (by rw [h1.1];exact hi))⟩
theorem drawn_book {P Q:Int} {n:Nat} {st:List (List Int)} {ks:List Keep} {sl:List Slip} {r:Int} {dl:List Int} {i:Nat} (hP:1≤P∧P≤4) (hQ:1≤Q∧Q≤2) (hn:(n:Int)=Q) (hs:(st.length:Int)=P) (hr:RowsB 50 n st) (hr4:0≤r∧r≤4) (hkr:(ks.length:Int)≤r) (hk:KeepsOf P r ks) (hsl:SlipsOf P Q dl i sl) (hi:i≤8):GoodL ⟨P,Q,st,ks,sl⟩:=by
  have t:∀ {n lo hi:Int},lo≤n∧n≤hi→¬ inB n lo hi=false:=fun h e=>by
    rw [show inB _ _ _=true from by simpa [inB] using h] at e;cases e
  refine ⟨hP,hQ,hs,fun q hq=>by rw [(hr q hq).1,hn],fun q hq x hx=>(hr q hq).2 x hx,hk.1,fun k hk2=>?_,Nat.le_trans hsl.1 hi,fun k hk2=>?_⟩
  · obtain ⟨h1,h2,h3⟩:=hk.2 k hk2
    unfold FC;simp only;have hk3:(k:Int)<ks.length:=by exact_mod_cast hk2
    rw [if_neg (t h1),if_neg (t (by omega)),if_neg (t h3),if_neg];intro e;obtain ⟨x,hx,hx2⟩:=List.any_eq_true.1 e;obtain ⟨j,hj,rfl⟩:=List.mem_take_iff_getElem.1 hx;have hj2:j<ks.length:=by omega
    have h4:=(hk.2 j hj2).2.1;simp only [Bool.and_eq_true,decide_eq_true_eq] at hx2;have e4:(ks.getD j AP)=ks[j]:=by simp [List.getD,hj2]
    rw [e4,hx2.2] at h4;have:j<k:=by omega
    omega
  · have h1:=hsl.2.1 _ (BD (xs:=sl) (d:=AB) hk2) ⟨P,Q,st,ks,sl⟩ rfl rfl
    unfold CQ;rw [if_neg (fun h=>h h1),if_neg];intro e;unfold hasNum at e;obtain ⟨x,hx,hx2⟩:=List.any_eq_true.1 e;obtain ⟨j,hj,rfl⟩:=List.mem_take_iff_getElem.1 hx;have hj':j<min k sl.length:=hj;have hj2:j<sl.length:=by omega
    have hnd:=hsl.2.2.1;simp only [decide_eq_true_eq] at hx2;have:j=k:=(List.getElem_inj (h₀:=by simpa using hj2) (h₁:=by simpa using hk2) hnd).1 (by simpa [List.getD,hk2] using hx2);omega
end Go.Sh
namespace Go.Sl
open Go
theorem HN {α:Type} {d:α}:∀ (vs:List α) (i:Nat),vs.set i (vs.getD i d)=vs
  | [],_=>rfl
  | _::_,0=>rfl
  | v::vs,i+1=>by
    show v::vs.set i (vs.getD i d)=v::vs;rw [HN vs i]
theorem OwnEach.same {E:TypeId} {vs:List Value} {i:Nat} {v':Value} {xss:List (List Int)} {M:Seg} (h:OwnEach E (vs.set i v') xss M) (e:vs.getD i undef=v'):OwnEach E vs xss M:=by
  subst e;rwa [HN] at h
theorem fold_mod {x:Int} {n:Nat}:(x.tmod n+n)%(n:Int)=x%n:=by
  rw [Int.add_emod_right,Int.tmod_def,Int.sub_eq_add_neg,← Int.mul_neg,Int.add_mul_emod_self_left]
end Go.Sl
namespace Go.Sh
open Go Go.Sl
theorem inb_snoc {B:Int} {l:List Int} {x:Int} (h:∀ x∈l,0≤x∧x≤B) (hx:0≤x∧x≤B):∀ y∈l++[x],0≤y∧y≤B:=fun y hy=>by
  rcases List.mem_append.1 hy with hy | hy
  · exact h y hy
  · simp only [List.mem_singleton] at hy;subst hy;exact hx
theorem inb_snoc2 {B:Int} {l:List Int} {x y:Int} (h:∀ x∈l,0≤x∧x≤B) (hx:0≤x∧x≤B) (hy:0≤y∧y≤B):∀ z∈l++[x,y],0≤z∧z≤B:=fun z hz=>by
  rcases List.mem_append.1 hz with hz | hz
  · exact h z hz
  · simp only [List.mem_cons,List.not_mem_nil,or_false] at hz
    rcases hz with rfl | rfl
    · exact hx
    · exact hy
theorem GS {l:List Int} {n:Nat} (h:l.Perm (DO n)):l.Nodup:=by
  exact h.nodup_iff.2 (List.Pairwise.map (fun i:Nat=>(i:Int)) (fun a b hab e=>hab (by exact_mod_cast e)) List.nodup_range)
theorem deal_at {l:List Int} {n t:Nat} (h:l.Perm (DO n)) (ht:t<l.length):0≤l.getD t 0∧l.getD t 0<n:=by
  have h1:=h.mem_iff.1 (BD (xs:=l) (d:=0) ht);unfold DO at h1;obtain ⟨a,ha,e⟩:=List.mem_map.1 h1;have:=List.mem_range.1 ha;omega
def RowB (B:Int) (n:Nat) (r:List Int):Prop:=r.length=n∧∀ x∈r,0≤x∧x≤B
theorem RowB.set {B:Int} {n i:Nat} {r:List Int} {v:Int} (h:RowB B n r) (hv:0≤v∧v≤B):RowB B n (r.set i v):=⟨by rw [List.length_set];exact h.1,fun x hx=>by
  rcases List.mem_or_eq_of_mem_set hx with hx | rfl
  · exact h.2 x hx
  · exact hv⟩
theorem RowB.at {B:Int} {n i:Nat} {r:List Int} (h:RowB B n r) (hi:i<n):r.length=n∧0≤r.getD i 0∧r.getD i 0≤B:=⟨h.1,h.2 _ (BD (xs:=r) (d:=0) (by rw [h.1];exact hi))⟩
theorem RowsB.row {B:Int} {n p:Nat} {xss:List (List Int)} (h:RowsB B n xss) (hp:p<xss.length):RowB B n (xss.getD p []):=h _ (BD (xs:=xss) (d:=[]) hp)
theorem RowsB.put {B:Int} {n p:Nat} {xss:List (List Int)} {r:List Int} (h:RowsB B n xss) (hr:RowB B n r):RowsB B n (xss.set p r):=fun q hq=>by
  rcases List.mem_or_eq_of_mem_set hq with hq | rfl
  · exact h q hq
  · exact hr
theorem ix_yes {so:Bool} {k:Int} (h:(so||(cmp .eql k 3||cmp .eql k 6))=true) (hs:so=true→k=1∨k=4):k≠2:=by
  intro e;subst e;cases so
  · simp [cmp] at h
  · have:=hs rfl;omega
theorem ix_no {so:Bool} {k:Int} (h:(so||(cmp .eql k 3||cmp .eql k 6))=false):k≠3:=by
  intro e;subst e;cases so <;> simp [cmp] at h
theorem other_place {p r n:Nat} {f:Int} (hp:p<n) (hf:1≤f∧f≤n-1) (hr:(r:Int)=(p+f)%n):r≠p:=by
  intro e;subst e;have h1:((r:Int)+f)/n=0∨((r:Int)+f)/n=1:=by
    have h2:0≤((r:Int)+f)/n:=Int.ediv_nonneg (by omega) (by omega);have h3:((r:Int)+f)/n<2:=Int.ediv_lt_of_lt_mul (by omega) (by omega);omega
  have h4:=Int.emod_add_mul_ediv ((r:Int)+f) n;rcases h1 with h1 | h1 <;> rw [h1] at h4 <;> omega
theorem small_nums {P Q:Int} {dl:List Int} {i:Nat} {sl:List Slip} (h:SlipsOf P Q dl i sl) (hd:dl.Perm (DO 20)) (hi:i≤20):∀ s∈sl,s.num≤20:=fun s hs=>by
  obtain ⟨j,h1,h2⟩:=h.2.2.2 s hs;have h3:=hd.length_eq;rw [EU] at h3;have:=deal_at hd (t:=j) (by omega);omega
end Go.Sh
namespace Go.Proofs.YtgcemienebmdeaaGreat
open Go Go.Sl Go.Sh
set_option maxRecDepth 100000
noncomputable def c_Fold (p:List Nat):Code:=sub (AQ Tryz.f66) p
theorem Foldx_ct (I:Imm) (x:Int) (n:Nat) (hn:n≤1000000):Ct Tryz.prog 66 #[vI x,vI ↑n] I ([]) (fun v I' M'=>∃ r:Nat,v=vI (↑r)∧M'=[]∧((r=0∨r<n)∧(2≤n→(r:Int)=x%n))):=by
 refine fr (args:=[_,_]) (N:=14) Tryz.func66 (fun F=>?_);show Run _ _ (c_Fold []) _ _ [(0,vI (x)),(1,vI (↑n))] _ _;refine rnm (rqr ?_);refine sp 1 [(4,vI (0))] (se (rq (rqr (sp 2 [(6,.bool (cmp .lss (↑n) (2)))] (se (rc 6 rfl (fun h1=>?_) (fun h1=>?_)))))))
 ·
  have a0:=h1;have h1:=CO h1;refine rqr (sp 1 [(4,vI (0))] (se (BM ((RP (AH (t:=4) [] (by kernel_rfl) rfl (TR _) (IR _) ?_))))));exact ⟨0,rfl,rfl,⟨.inl rfl,fun hq=>by omega⟩⟩
 have a0:=h1;have h1:=CY h1;refine AR (NX (rqr (sp 2 [(8,vI (↑n)),(7,vI (x))] (sd (det_remT (x:=(.tmp 7)) (y:=(.tmp 8)) (T:=3) (T':=3) (d:=9) (ty:=3) (gd:=none) (by kernel_rfl) rfl rfl rfl (by omega)) (sp 1 [(10,vI (↑n))] ?_)))));have hq:=tmod_bounds (x:=x) (n:=n) (by omega);refine sd (da 11 (Int.tmod x ↑n) (↑n)) (sp 1 [(12,vI (↑n))] (sd (det_rem (x:=(.tmp 11)) (y:=(.tmp 12)) (T:=3) (T':=3) (d:=13) (ty:=3) (gd:=none) (by kernel_rfl) rfl rfl rfl (by omega) (by omega)) ?_));obtain ⟨r,hr,a1⟩:=fold_nat (x:=x) (n:=n) (by omega);have a2:(r:Int)=x%n:=hr▸fold_mod;refine CN 13 rfl (show (vI (((Int.tmod x ↑n)+↑n)%↑n):Value)=vI (↑r) from congrArg (Value.int .i64) hr) (sp 1 [(4,vI (↑r))] (se (BM (AH (t:=4) [] (by kernel_rfl) rfl (TR _) (IR _) ?_))));exact ⟨r,rfl,rfl,⟨.inr a1,fun _=>a2⟩⟩
end Go.Proofs.YtgcemienebmdeaaGreat
namespace Go.Sh
open Go Go.Sl
def ixR (so:Nat) (b:Bool):Nat:=if b=true then 2*so+1 else 2*so
def putR (h:List (List Int)) (p i:Nat) (v:Int):List (List Int):=h.set p ((h.getD p []).set i v)
section
variable {H:Hs} {p v:Int} {j S P:Nat} {b:Bool}
theorem stockRow_get (hj:j<S):(BH H p S).getD (ixR j b) 0=AX ⟨p,(j:Int),b⟩ H:=by
  induction S with
  | zero=>omega
  | succ S ih=>
    simp only [BH];have hl:=GP (H:=H) (p:=p) (j:=S)
    by_cases e:j=S
    · subst e
      cases b
      · simp [ixR,List.getD,List.getElem?_append_right,hl]
      · simp [ixR,List.getD,List.getElem?_append_right,hl]
    · have hi:ixR j b<(BH H p S).length:=by rw [hl];unfold ixR;split <;> omega
      rw [List.getD_eq_getElem?_getD,List.getElem?_append_left hi,← List.getD_eq_getElem?_getD];exact ih (by omega)
theorem MF {p:Nat} (hp:p<P):(BT H S P).getD p []=BH H (p:Int) S:=by
  induction P with
  | zero=>omega
  | succ P ih=>
    simp only [BT];have hl:=HB (H:=H) (s:=S) (k:=P)
    by_cases e:p=P
    · subst e;simp [List.getD,List.getElem?_append_right,hl]
    · rw [List.getD_eq_getElem?_getD,List.getElem?_append_left (by rw [hl];omega),← List.getD_eq_getElem?_getD]
      exact ih (by omega)
theorem stockRow_put (hj:j<S):BH (HI ⟨p,(j:Int),b⟩ v H) p S=(BH H p S).set (ixR j b) v:=by
  induction S with
  | zero=>omega
  | succ S ih=>
    simp only [BH,IF];have hl:=GP (H:=H) (p:=p) (j:=S)
    by_cases e:j=S
    · subst e
      have:∀ n,n≤j→BH (HI ⟨p,(j:Int),b⟩ v H) p n=BH H p n:=by
        intro n hn
        induction n with
        | zero=>rfl
        | succ n ihn=>
          simp only [BH,IF,HKey.mk.injEq];rw [ihn (by omega),if_neg (by omega),if_neg (by omega)]
      rw [this j (Nat.le_refl _),List.set_append_right _ _ (by rw [hl];unfold ixR;split <;> omega),hl];cases b <;> simp [ixR]
    · have hi:ixR j b<(BH H p S).length:=by rw [hl];unfold ixR;split <;> omega
      rw [ih (by omega),List.set_append_left _ _ hi];simp only [HKey.mk.injEq];rw [if_neg (by omega),if_neg (by omega)]
theorem LO {q:Int} (h:p≠q) {so:Int}:BH (HI ⟨q,so,b⟩ v H) p S=BH H p S:=by
  induction S with
  | zero=>rfl
  | succ S ih=>
    simp only [BH,IF,HKey.mk.injEq];rw [ih,if_neg (by omega),if_neg (by omega)]
theorem stockTo_put {p:Nat} (hp:p<P) (hj:j<S):BT (HI ⟨(p:Int),(j:Int),b⟩ v H) S P=putR (BT H S P) p (ixR j b) v:=by
  unfold putR;rw [MF hp]
  induction P with
  | zero=>omega
  | succ P ih=>
    simp only [BT];have hl:=HB (H:=H) (s:=S) (k:=P)
    by_cases e:p=P
    · subst e
      have:∀ n,n≤p→BT (HI ⟨(p:Int),(j:Int),b⟩ v H) S n=BT H S n:=by
        intro n hn
        induction n with
        | zero=>rfl
        | succ n ihn=>simp only [BT];rw [ihn (by omega),LO (by omega)]
      rw [this p (Nat.le_refl _),List.set_append_right _ _ (by rw [hl];exact Nat.le_refl _),hl,stockRow_put hj];simp
    · rw [ih (by omega),List.set_append_left _ _ (by rw [hl];omega),LO (by omega)]
end
theorem stock_at {H:Hs} {p so:Int} {b:Bool} {S P:Nat} (hp:0≤p∧p<P) (hs:0≤so∧so<S):((BT H S P).getD p.toNat []).getD (ixR so.toNat b) 0=AX ⟨p,so,b⟩ H:=by
  rw [MF (by omega),show ((p.toNat:Nat):Int)=p by omega,stockRow_get (by omega),show ((so.toNat:Nat):Int)=so by omega]
theorem stock_put {H:Hs} {p so v:Int} {b:Bool} {S P:Nat} (hp:0≤p∧p<P) (hs:0≤so∧so<S):BT (HI ⟨p,so,b⟩ v H) S P=putR (BT H S P) p.toNat (ixR so.toNat b) v:=by
  have:=stockTo_put (H:=H) (v:=v) (b:=b) (p:=p.toNat) (j:=so.toNat) (S:=S) (P:=P) (by omega) (by omega);rw [← this,show ((p.toNat:Nat):Int)=p by omega,show ((so.toNat:Nat):Int)=so by omega]
theorem stock_add {H:Hs} {p so v:Int} {b:Bool} {S P:Nat} (hp:0≤p∧p<P) (hs:0≤so∧so<S):BT (KZ ⟨p,so,b⟩ v H) S P=putR (BT H S P) p.toNat (ixR so.toNat b) (((BT H S P).getD p.toNat []).getD (ixR so.toNat b) 0+v):=by
  unfold KZ;rw [stock_put hp hs,stock_at hp hs]
def RowsI (B:Int) (m:Nat) (X:List (List Int)):Prop:=∀ r∈X,m<r.length∧r.length≤1000∧∀ x∈r,-B≤x∧x≤B
section
variable {B B':Int} {m p i:Nat} {X:List (List Int)} {v:Int}
theorem RowsI.at (h:RowsI B m X) (hp:p<X.length):m<(X.getD p []).length∧(X.getD p []).length≤1000∧∀ i,i≤m→-B≤(X.getD p []).getD i 0∧(X.getD p []).getD i 0≤B:=by
  have h1:=h _ (BD (xs:=X) (d:=[]) hp);exact ⟨h1.1,h1.2.1,fun i hi=>h1.2.2 _ (BD (xs:=X.getD p []) (d:=0) (by omega))⟩
end
def addR (X:List (List Int)) (p i:Nat) (d:Int):List (List Int):=putR X p i ((X.getD p []).getD i 0+d)
def subR (X:List (List Int)) (p i:Nat) (d:Int):List (List Int):=putR X p i ((X.getD p []).getD i 0-d)
def JG (X:List (List Int)) (s:Slip):List (List Int):=
  if s.kind=1 then addR (subR X s.place.toNat (ixR s.sort.toNat s.soil) s.amt) s.to.toNat (ixR s.sort.toNat s.soil) s.amt
  else if s.kind=2 then addR (subR X s.place.toNat (ixR s.sort.toNat false) s.amt) s.place.toNat (ixR s.sort.toNat true) s.amt
  else if s.kind=3 then addR (subR X s.place.toNat (ixR s.sort.toNat true) s.amt) s.place.toNat (ixR s.sort.toNat false) s.amt
  else if s.kind=4 then putR X s.place.toNat (ixR s.sort.toNat s.soil) s.amt
  else if s.kind=5 then addR X s.place.toNat (ixR s.sort.toNat false) s.amt
  else subR X s.place.toNat (ixR s.sort.toNat true) s.amt
section
variable {X:List (List Int)} {s:Slip}
theorem done_1 (h:s.kind=1):addR (subR X s.place.toNat (ixR s.sort.toNat s.soil) s.amt) s.to.toNat (ixR s.sort.toNat s.soil) s.amt=JG X s:=(if_pos h).symm
theorem done_2 (h:s.kind=2):addR (subR X s.place.toNat (ixR s.sort.toNat false) s.amt) s.place.toNat (ixR s.sort.toNat true) s.amt=JG X s:=by unfold JG;rw [if_neg (by omega),if_pos h]
theorem done_3 (h:s.kind=3):addR (subR X s.place.toNat (ixR s.sort.toNat true) s.amt) s.place.toNat (ixR s.sort.toNat false) s.amt=JG X s:=by unfold JG;rw [if_neg (by omega),if_neg (by omega),if_pos h]
theorem done_4 (h:s.kind=4):putR X s.place.toNat (ixR s.sort.toNat s.soil) s.amt=JG X s:=by unfold JG;rw [if_neg (by omega),if_neg (by omega),if_neg (by omega),if_pos h]
theorem done_5 (h:s.kind=5):addR X s.place.toNat (ixR s.sort.toNat false) s.amt=JG X s:=by unfold JG;rw [if_neg (by omega),if_neg (by omega),if_neg (by omega),if_neg (by omega),if_pos h]
theorem done_6 (h:s.kind=6):subR X s.place.toNat (ixR s.sort.toNat true) s.amt=JG X s:=by unfold JG;rw [if_neg (by omega),if_neg (by omega),if_neg (by omega),if_neg (by omega),if_neg (by omega)]
end
section
variable {H:Hs} {S P:Nat} {p so d:Int} {b:Bool}
theorem KX (hp:0≤p∧p<P) (hs:0≤so∧so<S):BT (KZ ⟨p,so,b⟩ d H) S P=addR (BT H S P) p.toNat (ixR so.toNat b) d:=stock_add hp hs
theorem KY (hp:0≤p∧p<P) (hs:0≤so∧so<S):BT (KZ ⟨p,so,b⟩ (-d) H) S P=subR (BT H S P) p.toNat (ixR so.toNat b) d:=by rw [stock_add hp hs,← Int.sub_eq_add_neg];rfl
theorem done_stock {s:Slip} (hp:0≤s.place∧s.place<P) (hs:0≤s.sort∧s.sort<S) (ht:s.kind=1→0≤s.to∧s.to<P):JG (BT H S P) s=BT (doSlip s H) S P:=by
  unfold JG doSlip
  split
  · rename_i h;rw [KX (ht h) hs,KY hp hs]
  split
  · rw [KX hp hs,KY hp hs]
  split
  · rw [KX hp hs,KY hp hs]
  split
  · unfold keyOf;rw [stock_put hp hs]
  split
  · rw [KX hp hs]
  · rw [KY hp hs]
end
section
variable {so:Int} {H H':Hs} {k:HKey} {v d:Int}
end
theorem openRow_get {p:Int} {row:List Int} {H:Hs} {k:HKey}:∀ {j:Nat},(k.pl≠p∨(j:Int)≤k.so)→AX k (GL p row j H)=AX k H:=by
  intro j
  induction j with
  | zero=>intro _;rfl
  | succ j ih=>
    intro h;simp only [GL];rw [IF,if_neg,ih]
    · rcases h with h | h
      · exact .inl h
      · exact .inr (by omega)
    · intro e;subst e;simp only at h;omega
section
variable {L:Lin} {so hour:Int}
end
theorem inB_of {n lo hi:Int} (h:lo≤n∧n≤hi):¬ inB n lo hi=false:=by simp [inB,h.1,h.2]
theorem IG {L:Lin} (g:GoodL L):AS L=0:=by
  have h1:CW L=0:=by
    unfold CW;rw [if_neg (fun h=>h g.start),if_neg,if_neg]
    · rw [List.all_eq_true.2 (fun n hn => by
        obtain ⟨r,hr,hn⟩:=List.mem_flatten.1 hn
        simpa using inB_of (g.nums r hr n hn))];decide
    · rw [List.all_eq_true.2 (fun r hr=>decide_eq_true (g.rows r hr))];decide
  have h2:DQ L=0:=by unfold DQ;rw [if_neg (by have:=g.keeps;omega)];exact firstE_zero.2 g.keep
  unfold AS;rw [if_neg (inB_of g.places),if_neg (inB_of g.sorts),h1,h2,if_neg (fun h=>h rfl),if_neg (fun h=>h rfl),if_neg (by have:=g.slips;omega)];exact firstE_zero.2 g.slip
theorem gap_small {L:Lin} (g:GoodL L):∀ x∈CD (BI L),-1000000≤x.amt∧x.amt≤1000000:=by
  intro x hx;obtain ⟨e,he,hx⟩:=List.mem_flatMap.1 hx;unfold MP at hx
  split at hx
  · simp only [List.mem_singleton] at hx;subst hx
    obtain ⟨k,hk,rfl⟩:=List.mem_iff_getElem.1 he;have hk2:k<(AD AC L.slips).length:=by unfold BI at hk;rwa [FJ] at hk
    have ht:=evs_take (H:=AM L) hk2;have e3:(BI L)[k]=evOf (aft (AM L) ((AD AC L.slips).take k)) ((AD AC L.slips).getD k AB):=by
      have h1:((evs (AM L) (AD AC L.slips)).take (k+1))[k]?=some (evOf (aft (AM L) ((AD AC L.slips).take k)) ((AD AC L.slips).getD k AB)):=by
        have hk3:k<(evs (AM L) (AD AC L.slips)).length:=hk;rw [ht,List.getElem?_append_right (by rw [List.length_take];omega),List.length_take,Nat.min_eq_left (by omega)];simp
      rw [List.getElem?_take_of_lt (by omega)] at h1;exact (List.getElem?_eq_some_iff.1 h1).2
    rw [e3];have hw:=(g.goodS.sorted.within g.within k) (keyOf ((AD AC L.slips).getD k AB));have ha:=(g.goodS.sorted.ok _ (BD (d:=AB) hk2)).2.1;simp only [evOf];split <;> omega
  · cases hx
section
variable {L:Lin} {G:List Gap} {so n X:Int} {i m k:Nat} {s:Slip}
end
def FM (p:Sh.Event→Bool) (l:List Sh.Event):List Int:=(l.filter p).map fun e=>e.slip.num
section
variable {p:Sh.Event→Bool} {l:List Sh.Event} {x:Sh.Event}
theorem numsP_t (h:p x=true):FM p l++[x.slip.num]=FM p (l++[x]):=by unfold FM;rw [List.filter_append,List.map_append];simp [h]
theorem numsP_f (h:p x=false):FM p l=FM p (l++[x]):=by unfold FM;rw [List.filter_append,List.map_append];simp [h]
theorem numsP_len:(FM p l).length≤l.length:=by unfold FM;rw [List.length_map];exact List.length_filter_le _ _
end
def GI (L:Lin):List Int × Int:=if AS L≠0 then ([],AS L) else (FM (fun x=>x.below) (BI L),0)
section
variable {L:Lin}
theorem belowE_1 (h:AS L≠0):GI L=([],AS L):=if_pos h
theorem belowE_2 (h:AS L=0):GI L=(FM (fun x=>x.below) (BI L),0):=if_neg (fun x=>x h)
end
section
variable {p kh to f h:Int} {ks:List Keep} {k:Nat}
theorem kfold_spec (h0:∀ x∈ks,0≤x.hour):∀ k,k≤ks.length→(IZ p h (ks.take k)=(0,-1)∧∀ x∈ks.take k,x.place=p→¬ x.hour≤h)∨∃ x∈ks.take k,x.place=p∧x.hour≤h∧IZ p h (ks.take k)=(x.who,x.hour)∧∀ y∈ks.take k,y.place=p→y.hour≤h→y.hour≤x.hour:=by
  intro k
  induction k with
  | zero=>intro _;exact .inl ⟨rfl,fun x hx=>by simp at hx⟩
  | succ k ih=>
    intro hk;have hm:=BD (xs:=ks) (d:=AP) (show k<ks.length by omega);have hin:∀ y,y∈ks.take (k+1)↔y∈ks.take k∨y=ks.getD k AP:=fun y=>by rw [CI (d:=AP) (by omega)];simp
    cases hc:(cmp .eql (ks.getD k AP).place p&&(cmp .leq (ks.getD k AP).hour h&&cmp .gtr (ks.getD k AP).hour (IZ p h (ks.take k)).2)) with
    | true=>
      rw [← kfold_t (by omega) hc];simp only [KH,cmp_leq,cmp_gtr,Bool.and_eq_true,decide_eq_true_eq] at hc;refine .inr ⟨_,(hin _).2 (.inr rfl),hc.1,hc.2.1,rfl,fun y hy h1 h2=>?_⟩;rcases (hin y).1 hy with hy | rfl
      · rcases ih (by omega) with ⟨_,h3⟩ | ⟨x,_,_,_,h3,h4⟩
        · exact absurd h2 (h3 y hy h1)
        · have:=h4 y hy h1 h2;rw [h3] at hc;simp only at hc;omega
      · exact Int.le_refl _
    | false=>
      rw [← kfold_f (by omega) hc];have hn:¬ ((ks.getD k AP).place=p∧(ks.getD k AP).hour≤h∧(IZ p h (ks.take k)).2<(ks.getD k AP).hour):=fun hh=>by
        simp only [KH,cmp_leq,cmp_gtr,hh.1,hh.2.1,hh.2.2,decide_true,Bool.and_self] at hc;cases hc
      rcases ih (by omega) with ⟨h2,h3⟩ | ⟨x,h1,h2,h5,h3,h4⟩
      · refine .inl ⟨h2,fun y hy h1 h4=>?_⟩
        rcases (hin y).1 hy with hy | rfl
        · exact h3 y hy h1 h4
        · refine hn ⟨h1,h4,?_⟩
          rw [h2];have:=h0 _ hm;simp only;omega
      · refine .inr ⟨x,(hin x).2 (.inl h1),h2,h5,h3,fun y hy h6 h7=>?_⟩
        rcases (hin y).1 hy with hy | rfl
        · exact h4 y hy h6 h7
        · rcases Int.lt_or_le x.hour (ks.getD k AP).hour with h8 | h8
          · exact absurd ⟨h6,h7,by rw [h3];exact h8⟩ hn
          · exact h8
end
theorem keepErr_ok2 {L:Lin} {i:Nat} (h:FC L i=0):(0≤(L.keeps.getD i AP).hour∧(L.keeps.getD i AP).hour≤200)∧(1≤(L.keeps.getD i AP).who∧(L.keeps.getD i AP).who≤9)∧∀ x∈L.keeps.take i,¬ (x.place=(L.keeps.getD i AP).place∧x.hour=(L.keeps.getD i AP).hour):=by
  unfold FC at h;simp only at h
  split at h;· omega
  split at h;· omega
  rename_i h2
  split at h;· omega
  rename_i h3
  split at h;· omega
  rename_i h4
  refine ⟨FB (by simpa using h2),FB (by simpa using h3),fun x hx hh=>h4 (List.any_eq_true.2 ⟨x,hx,by simp [hh.1,hh.2]⟩)⟩
section
variable {L:Lin} (g:GoodL L)
include g
theorem GoodL.keepOf {x:Keep} (hx:x∈L.keeps):(0≤x.hour∧x.hour≤200)∧(1≤x.who∧x.who≤9):=by
  obtain ⟨k,hk,rfl⟩:=List.mem_iff_getElem.1 hx;have:=keepErr_ok2 (g.keep k hk);have e:L.keeps.getD k AP=L.keeps[k]:=by simp [List.getD,hk]
  rw [e] at this;exact ⟨this.1,this.2.1⟩
theorem GoodL.keepOnce {x y:Keep} (hx:x∈L.keeps) (hy:y∈L.keeps) (h1:x.place=y.place) (h2:x.hour=y.hour):x=y:=by
  obtain ⟨i,hi,rfl⟩:=List.mem_iff_getElem.1 hx;obtain ⟨j,hj,rfl⟩:=List.mem_iff_getElem.1 hy;have aux:∀ i j (hi:i<L.keeps.length) (hj:j<L.keeps.length),i<j→¬ (L.keeps[i].place=L.keeps[j].place∧L.keeps[i].hour=L.keeps[j].hour):=fun i j hi hj hij hh=>by
    have:=(keepErr_ok2 (g.keep j hj)).2.2 L.keeps[i] (by rw [List.mem_take_iff_getElem];exact ⟨i,by omega,rfl⟩);have e:L.keeps.getD j AP=L.keeps[j]:=by simp [List.getD,hj]
    rw [e] at this;exact this hh
  rcases Nat.lt_trichotomy i j with h | h | h
  · exact absurd ⟨h1,h2⟩ (aux i j hi hj h)
  · subst h;rfl
  · exact absurd ⟨h1.symm,h2.symm⟩ (aux j i hj hi h)
theorem keeper_iff {p h w:Int} (hw:w≠0):BN L p h=w↔∃ x∈L.keeps,x.place=p∧x.hour≤h∧x.who=w∧∀ y∈L.keeps,y.place=p→y.hour≤h→y.hour≤x.hour:=by
  have hs:=kfold_spec (p:=p) (h:=h) (ks:=L.keeps) (fun x hx=>(g.keepOf hx).1.1) L.keeps.length (Nat.le_refl _);rw [List.take_length] at hs;unfold BN
  constructor
  · intro hh
    rcases hs with ⟨h1,_⟩ | ⟨x,hx,h1,h2,h3,h4⟩
    · rw [h1] at hh;exact absurd hh.symm hw
    · rw [h3] at hh;exact ⟨x,hx,h1,h2,hh,h4⟩
  · rintro ⟨x,hx,h1,h2,h3,h4⟩
    rcases hs with ⟨_,h5⟩ | ⟨y,hy,h5,h6,h7,h8⟩
    · exact absurd h2 (h5 x hx h1)
    · have e:x=y:=g.keepOnce hx hy (by rw [h1,h5]) (by have:=h8 x hx h1 h2;have:=h4 y hy h5 h6;omega)
      subst e;rw [h7];exact h3
omit g in
theorem holdTo_mem {p since x:Int}:∀ {n:Nat},x∈CF L p since n↔∃ h:Nat,h<n∧since≤h∧BN L p h=x∧x≠0:=by
  intro n
  induction n with
  | zero=>simp [CF]
  | succ n ih=>
    have up:(∃ h:Nat,h<n+1∧since≤h∧BN L p h=x∧x≠0)↔(∃ h:Nat,h<n∧since≤h∧BN L p h=x∧x≠0)∨(since≤n∧BN L p n=x∧x≠0):=by
      constructor
      · rintro ⟨h,h1,h2⟩
        rcases Nat.lt_or_ge h n with h3 | h3
        · exact .inl ⟨h,h3,h2⟩
        · have:h=n:=by omega
          subst this;exact .inr h2
      · rintro (⟨h,h1,h2⟩ | h2)
        · exact ⟨h,by omega,h2⟩
        · exact ⟨n,by omega,h2⟩
    rw [up,← ih];simp only [CF]
    split
    · rename_i h;exact ⟨.inl,fun q=>q.elim id (fun e=>by omega)⟩
    · split
      · rename_i h;exact ⟨.inl,fun q=>q.elim id (fun e=>absurd (e.2.1.symm.trans h) e.2.2)⟩
      · rename_i h1 h2
        split
        · rename_i h3;exact ⟨.inl,fun q=>q.elim id (fun e=>e.2.1▸h3)⟩
        · simp only [List.mem_append,List.mem_singleton]
          exact ⟨fun q=>q.elim .inl (fun e=>.inr ⟨by omega,e.symm,e▸h2⟩),fun q=>q.elim .inl (fun e=>.inr e.2.1.symm)⟩
omit g
theorem nodup_inj {α β:Type} {f:α→β} {l:List α} (h:(l.map f).Nodup):∀ a∈l,∀ b∈l,f a=f b→a=b:=by
  intro a ha b hb e
  induction l with
  | nil=>cases ha
  | cons x r ih=>
    rw [List.map_cons,List.nodup_cons] at h;rcases List.mem_cons.1 ha with rfl | ha1 <;> rcases List.mem_cons.1 hb with rfl | hb1
    · rfl
    · exact absurd (e▸List.mem_map_of_mem (f:=f) hb1) h.1
    · exact absurd (e▸List.mem_map_of_mem (f:=f) ha1) h.1
    · exact ih h.2 ha1 hb1
section
variable {i:Nat} (g:GoodL L) (hi:i<(AD AC L.slips).length)
include g hi
end
end
section
variable {L:Lin} {p who frm to:Int} {ks:List Keep} {k:Keep} {i m:Nat}
end
section
variable {L:Lin} {G:List Gap} {n:Int} {i k m:Nat}
variable (g:GoodL L) (hi:i<(sortS L.slips).length)
include g hi
end
section
variable {A:List Slip} {s:Slip} {k:Nat}
end
abbrev Ods:=List (Debt × Int)
def OS (k:Debt):Ods→Int
  | []=>0
  | x::r=>if x.1=k then x.2 else OS k r
def putO (k:Debt) (v:Int):Ods→Ods
  | []=>[(k,v)]
  | x::r=>if x.1=k then (k,v)::r else x::putO k v r
theorem getO_put {k j:Debt} {v:Int} {h:Ods}:OS j (putO k v h)=if j=k then v else OS j h:=by
  induction h with
  | nil=>simp only [putO,OS];by_cases e:j=k <;> simp [e,Ne.symm,eq_comm]
  | cons x r ih=>
    simp only [putO]
    split
    · rename_i e
      simp only [OS]
      by_cases e2:j=k
      · subst e2;simp
      · simp only [if_neg e2];rw [if_neg (Ne.symm e2),e,if_neg (Ne.symm e2)]
    · rename_i e
      simp only [OS]
      split
      · rename_i e2;rw [if_neg (fun e3=>e (e2.trans e3))]
      · exact ih
def okCells (k:Debt):Array Value:=#[.int .i64 k.who,.int .i64 k.sort,.int .i64 k.amt]
def encO (k:Debt):Value:=.agg (okCells k)
def flatO:List (Nat × SK):=[(0,.i .i64),(1,.i .i64),(2,.i .i64)]
theorem keyOk_debt {P:Program} {kt:TypeId} (h:JT P 4 kt=some (3,flatO)) (hagg:DY P kt=some true):KeyOk P kt encO:=
  keyOk_flat h (by decide) hagg okCells (fun _=>rfl) (fun _=>rfl) (fun a b=>by
    obtain ⟨a1,a2,a3⟩:=a;obtain ⟨b1,b2,b3⟩:=b
    show ((a1 == b1)&&((a2 == b2)&&((a3 == b3)&&true)))=decide ((⟨a1,a2,a3⟩:Debt)=⟨b1,b2,b3⟩)
    simp only [Bool.and_true,Debt.mk.injEq,Bool.decide_and];rfl)
def intO (h:Ods):List (Debt × Value):=h.map fun x=>(x.1,.int .i64 x.2)
theorem NY (k:Debt) (h:Ods):(JU k (intO h)).getD (.int .i64 0)=.int .i64 (OS k h):=by
  induction h with
  | nil=>rfl
  | cons x r ih => simp only [intO, List.map_cons, JU, OS] at ih ⊢; split; · rfl
                   · exact ih
theorem upd_intO (k:Debt) (v:Int) (h:Ods):upd k (.int .i64 v) (intO h)=intO (putO k v h):=by
  induction h with
  | nil=>rfl
  | cons x r ih => simp only [intO, List.map_cons, upd, putO] at ih ⊢; split; · rfl
                   · rw [ih];rfl
def MapO (es:Array MapEntry) (cl:Nat) (H:Ods):Prop:=MapB encO es cl (intO H)∧(H.map Prod.fst).Nodup
def EntO (es:Array MapEntry) (cl:Nat) (H:Ods) (k:Debt) (st:Nat):Prop:=MapB encO es cl (ent k (.int .i64 0) (intO H))∧Stamp es (ent k (.int .i64 0) (intO H)) st k∧(H.map Prod.fst).Nodup
theorem MapO.nil (cl:Nat):MapO #[] cl []:=⟨MapB.nil _ _,by simp⟩
theorem putO_keys (k:Debt) (v:Int):∀ H:Ods,(putO k v H).map Prod.fst=if k∈H.map Prod.fst then H.map Prod.fst else H.map Prod.fst++[k]:=by
  intro H
  induction H with
  | nil=>rfl
  | cons x r ih=>
    simp only [putO]
    by_cases h:x.1=k
    · simp [h]
    · rw [if_neg h]
      simp only [List.map_cons,ih,List.mem_cons,Ne.symm h,false_or]
      split <;> simp
theorem putO_once {k:Debt} {v:Int} {H:Ods} (h:(H.map Prod.fst).Nodup):((putO k v H).map Prod.fst).Nodup:=by
  rw [putO_keys]
  split
  · exact h
  · rename_i hk
    exact List.nodup_append.2 ⟨h,by simp,fun a ha b hb=>by
      simp only [List.mem_singleton] at hb
      intro e;rw [e,hb] at ha;exact hk ha⟩
end Go.Sh
namespace Go.Sl
open Go Go.Sh
section
variable {P:Program} {N:Nat} {ops:Array Oper} {i:Nat} {l:Sl} {I:Imm} {M:Seg} {ty:TypeId} {gd:Option (Nat × Bool)} {K:Sl→Imm→Seg→Prop} {d:Nat}
theorem stp_entO {x y : Operand} {T kt et r cl : Nat} {es : Array MapEntry} {H : Ods} {k : Debt} (n : Nat) (hop : FR ops N i = some (some d, .mapEntry T x y, ty, gd)) (hg : FA ops l gd = some true)
    (hT:PL P T=some (kt,et)) (hK:KeyOk P kt encO) (hx:BS l x=some (.map (some r))) (hy:BS l y=some (encO k)) (hz:HJ P et=some (.int .i64 0)) (hn:M[n]?=some (r,Obj.map es cl)) (hb:MapO es cl H)
    (h:∀ es' cl' (st:Nat),EntO es' cl' H k st→K ((d,.tuple #[.int .i64 (OS k H),.int .i64 (st:Int)])::l) I (M.set n (r,Obj.map es' cl'))):Stp P N ops i l I M K:=
  PE n hop hg hT hK hx hy hz hn hb.1 fun es' cl' st h1 h2=>by
    rw [NY];exact h es' cl' st ⟨h1,h2,hb.2⟩
theorem stp_fillO {x y u : Operand} {T r cl st : Nat} {es : Array MapEntry} {H : Ods} {k : Debt} {v : Int} (n : Nat) (hop : FR ops N i = some (none, .entryStore T x y u, ty, gd)) (hg : FA ops l gd = some true)
    (hx:BS l x=some (.map (some r))) (hy:BS l y=some (.int .i64 (st:Int))) (hu:BS l u=some (.int .i64 v)) (hn:M[n]?=some (r,Obj.map es cl)) (hb:EntO es cl H k st)
    (h:∀ es',MapO es' cl (putO k v H)→K l I (M.set n (r,Obj.map es' cl))):Stp P N ops i l I M K:=
  LP (k:=k) n hop hg hx hy hu hn hb.1 hb.2.1 fun es' h'=>h es' ⟨by rw [upd_ent,upd_intO] at h';exact h',putO_once hb.2.2⟩
theorem stp_nextO {x : Operand} {r cl b : Nat} {es : Array MapEntry} {seen : Array Nat} {todo : Ods} (n : Nat) (hop : FR ops N i = some (some d, .next x false, ty, gd)) (hg : FA ops l gd = some true)
    (hx:BS l x=some (.pointer (some ⟨b,0,none⟩))) (hn:M[n]?=some (b,Obj.mapIter (some r) cl seen cl)) (hm:Holds I M r (.map es cl)) (hb:Borns es cl) (hl:Left encO es seen (intO todo))
    (h0:todo=[]→K ((d,.tuple #[.bool false])::l) I M)
    (h1:∀ A (y:Debt × Int) B seen',todo=A++y::B→Left encO es seen' (intO (A++B))→AtEntry encO es seen' (y.1,.int .i64 y.2)→K ((d,.tuple #[.bool true,encO y.1,.int .i64 y.2])::l) I (M.set n (b,Obj.mapIter (some r) cl seen' cl))):Stp P N ops i l I M K:=
  stp_next n hop hg hx hn hm hb hl (fun h=>h0 (by simpa [intO] using h)) fun A y B seen' e hl' ha=>by
    obtain ⟨A',y',B',rfl,rfl,rfl,rfl⟩:=map_cut (show todo.map _=A++y::B from e);exact h1 A' y' B' seen' rfl (by simpa [intO] using hl') ha
end
end Go.Sl
namespace Go.Sh
open Go Go.Sl
def oweK (q:EvH):Debt:=⟨q.2.getD 0 0,q.1.slip.sort,0⟩
def NH (O:Ods) (q:EvH):Ods:=if q.1.gap<0∧q.2.length=1 then putO (oweK q) (OS (oweK q) O-q.1.gap) O else O
def EK (l:List EvH):Ods:=l.foldl NH []
def mkD (q:Debt × Int):Debt:=⟨q.1.who,q.1.sort,q.2⟩
def EN (a b:Debt):Int:=if a.who≠b.who then a.who-b.who else a.sort-b.sort
def OO (s:Debt):Prop:=-1000000≤s.who∧s.who≤1000000∧-1000000≤s.sort∧s.sort≤1000000
def LG (L:Lin):List Debt × Int:=if AS L≠0 then ([],AS L) else (AD EN ((EK (EJ L)).map mkD),0)
section
variable {L:Lin} {xs:List EvH} {x:EvH}
theorem owesOf_snoc:EK (xs++[x])=NH (EK xs) x:=by unfold EK;rw [List.foldl_append];rfl
theorem owes_t (h:(cmp .lss x.1.gap 0&&cmp .eql (x.2.length:Int) 1)=true):putO ⟨x.2.getD 0 0,x.1.slip.sort,0⟩ (OS ⟨x.2.getD 0 0,x.1.slip.sort,0⟩ (EK xs)-x.1.gap) (EK xs)=EK (xs++[x]):=by
  simp only [cmp_lss,KH,Bool.and_eq_true,decide_eq_true_eq] at h;rw [owesOf_snoc];unfold NH;rw [if_pos ⟨h.1,by omega⟩];rfl
theorem owes_f (h:(cmp .lss x.1.gap 0&&cmp .eql (x.2.length:Int) 1)=false):EK xs=EK (xs++[x]):=by
  simp only [cmp_lss,KH,Bool.and_eq_false_iff,decide_eq_false_iff_not] at h;rw [owesOf_snoc];unfold NH;rw [if_neg (fun e=>by omega)]
theorem owedE_1 (h:AS L≠0):LG L=([],AS L):=if_pos h
theorem owedE_2 (h:AS L=0):LG L=(AD EN ((EK (EJ L)).map mkD),0):=if_neg (fun x=>x h)
theorem lack_in {q:EvH}:∀ {i:Nat} {E:List Sh.Event},i≤E.length→q∈(EI L (E.take i)).2→q.1∈E.take i∧q.1.gap≠0∧∃ s,q.2=DJ L q.1.slip s:=by
  intro i
  induction i with
  | zero=>intro E _ hq;simp [EI] at hq
  | succ i ih=>
    intro E hi hq;rw [CI (d:=noEvent) (by omega:i<E.length)] at hq ⊢;rw [HP] at hq;unfold MU at hq
    split at hq
    · exact ⟨List.mem_append_left _ (ih (by omega) hq).1,(ih (by omega) hq).2⟩
    · simp only at hq
      split at hq
      · rename_i hg
        rcases List.mem_append.1 hq with hq | hq
        · exact ⟨List.mem_append_left _ (ih (by omega) hq).1,(ih (by omega) hq).2⟩
        · simp only [List.mem_singleton] at hq;subst hq;exact ⟨by simp,hg,_,rfl⟩
      · exact ⟨List.mem_append_left _ (ih (by omega) hq).1,(ih (by omega) hq).2⟩
theorem lack_len:∀ {xs:List Sh.Event} {q:Hs × List EvH},((xs.foldl (MU L) q).2).length≤q.2.length+xs.length:=by
  intro xs
  induction xs with
  | nil=>intro q;exact Nat.le_refl _
  | cons x r ih=>
    intro q;have h1:=ih (q:=MU L q x);have h2:(MU L q x).2.length≤q.2.length+1:=by
      unfold MU;split
      · omega
      · simp only;split
        · simp
        · omega
    simp only [List.foldl_cons,List.length_cons];omega
variable (g:GoodL L)
include g
theorem lack_count:(EJ L).length≤8:=by
  have h1:=lack_len (L:=L) (xs:=BI L) (q:=([],[]));have h2:=GJ (L:=L);have h3:=g.slips;unfold EJ EI;simp only [List.length_nil] at h1;omega
theorem lack_all {q:EvH} (hq:q∈EJ L):(-1000000≤q.1.gap∧q.1.gap≤1000000)∧(0≤q.1.slip.sort∧q.1.slip.sort≤1)∧∀ w∈q.2,1≤w∧w≤9:=by
  have h1:=lack_in (L:=L) (i:=(BI L).length) (E:=BI L) (Nat.le_refl _) (q:=q) (by rw [List.take_length];exact hq);rw [List.take_length] at h1;obtain ⟨h2,h3,s,h4⟩:=h1;have h5:=gap_small g ⟨q.1.slip.num,q.1.gap⟩ (List.mem_flatMap.2 ⟨q.1,h2,by unfold MP;rw [if_pos h3];simp⟩);have h6:=JK (g.slipOf ((CU _).subset (evs_slip h2)));have h7:=g.sorts;refine ⟨h5,by omega,fun w hw=>?_⟩;rw [h4] at hw;unfold DJ at hw;have hw2:=(CU _).subset hw;obtain ⟨_,_,_,h8,h9⟩:=holdTo_mem.1 hw2;obtain ⟨k,hk,_,_,h10,_⟩:=(keeper_iff g h9).1 h8;have:=(g.keepOf hk).2;omega
theorem owes_keys:∀ {xs:List EvH},(∀ q∈xs,q∈EJ L)→∀ x∈EK xs,x.1.amt=0∧(1≤x.1.who∧x.1.who≤9)∧(0≤x.1.sort∧x.1.sort≤1):=by
  have aux:∀ {xs:List EvH} {O:Ods},(∀ q∈xs,q∈EJ L)→(∀ x∈O,x.1.amt=0∧(1≤x.1.who∧x.1.who≤9)∧(0≤x.1.sort∧x.1.sort≤1))→∀ x∈xs.foldl NH O,x.1.amt=0∧(1≤x.1.who∧x.1.who≤9)∧(0≤x.1.sort∧x.1.sort≤1):=by
    intro xs
    induction xs with
    | nil=>intro O _ h;exact h
    | cons q r ih=>
      intro O hq h;refine ih (fun y hy=>hq y (by simp [hy])) ?_;unfold NH
      split
      · rename_i hc
        intro x hx;have hk:x.1∈(putO (oweK q) (OS (oweK q) O-q.1.gap) O).map Prod.fst:=List.mem_map_of_mem hx;rw [putO_keys] at hk;have hl:=lack_all g (hq q (by simp));have hnew:x.1=oweK q→x.1.amt=0∧(1≤x.1.who∧x.1.who≤9)∧(0≤x.1.sort∧x.1.sort≤1):=fun e=>by
          rw [e];exact ⟨rfl,hl.2.2 _ (BD (d:=0) (by omega)),hl.2.1⟩
        have hold:x.1∈O.map Prod.fst→x.1.amt=0∧(1≤x.1.who∧x.1.who≤9)∧(0≤x.1.sort∧x.1.sort≤1):=fun e=>by
          obtain ⟨y,hy,e2⟩:=List.mem_map.1 e;rw [← e2];exact h y hy
        split at hk
        · exact hold hk
        · rcases List.mem_append.1 hk with hk | hk
          · exact hold hk
          · exact hnew (List.mem_singleton.1 hk)
      · exact h
  intro xs hq x hx;exact aux hq (fun x hx=>by cases hx) x hx
theorem owes_bound {k:Debt}:∀ {xs:List EvH},(∀ q∈xs,q∈EJ L)→0≤OS k (EK xs)∧OS k (EK xs)≤1000000*xs.length:=by
  have aux:∀ {xs:List EvH} {O:Ods} {B:Int},(∀ q∈xs,q∈EJ L)→(∀ k,0≤OS k O∧OS k O≤B)→∀ k,0≤OS k (xs.foldl NH O)∧OS k (xs.foldl NH O)≤B+1000000*xs.length:=by
    intro xs
    induction xs with
    | nil=>intro O B _ h k;have:=h k;simp only [List.foldl_nil,List.length_nil];omega
    | cons q r ih=>
      intro O B hq h k
      have:=ih (O:=NH O q) (B:=B+1000000) (fun y hy=>hq y (by simp [hy])) (fun j=>by
        have hl:=(lack_all g (hq q (by simp))).1
        unfold NH;split
        · rw [getO_put];have:=h j;have:=h (oweK q);split <;> omega
        · have:=h j;omega) k
      simp only [List.foldl_cons,List.length_cons,Int.natCast_add,Int.natCast_one];omega
  intro xs hq;have:=aux (O:=[]) (B:=0) hq (fun k=>by simp [OS]) k;unfold EK;omega
end
section
variable {O dn td:Ods}
theorem PF (hn:(O.map Prod.fst).Nodup) (ha:∀ x∈O,x.1.amt=0):Strict EN (O.map mkD):=by
  refine ⟨fun a ha' b hb' hne=>?_,fun a _=>?_,fun a _ b _ d _ h1 h2=>?_⟩
  · obtain ⟨p,hp,rfl⟩:=List.mem_map.1 ha'
    obtain ⟨q,hq,rfl⟩:=List.mem_map.1 hb'
    have:¬ (p.1.who=q.1.who∧p.1.sort=q.1.sort):=fun e=>hne (by
      have e1:p.1=q.1:=by
        have h1:=ha p hp;have h2:=ha q hq
        cases hp1:p.1;cases hq1:q.1
        rw [hp1,hq1] at e;rw [hp1] at h1;rw [hq1] at h2
        simp only at e h1 h2
        rw [e.1,e.2,h1,h2]
      have:=nodup_inj hn p hp q hq e1
      rw [this])
    unfold EN mkD;simp only
    split <;> split <;> omega
  · unfold EN;split <;> omega
  · unfold EN at *;split at h1 <;> split at h2 <;> split <;> omega
theorem nodup_debts (hn:(O.map Prod.fst).Nodup) (ha:∀ x∈O,x.1.amt=0):(O.map mkD).Nodup:=by
  have hs:=PF hn ha;rw [List.Nodup,List.pairwise_map];have h1:O.Pairwise fun a b=>a.1≠b.1:=List.pairwise_map.1 hn
  refine List.Pairwise.imp_of_mem (fun {a b} hA hB hab e=>hab ?_) h1;have h2:=ha a hA;have h3:=ha b hB;unfold mkD at e;simp only [Debt.mk.injEq] at e;cases ha1:a.1;cases hb1:b.1;rw [ha1] at h2 e;rw [hb1] at h3 e;simp only at h2 h3 e;rw [e.1,e.2.1,h2,h3]
theorem debts_sorted (hn:(O.map Prod.fst).Nodup) (ha:∀ x∈O,x.1.amt=0) (hp:(dn++td).Perm O) (ht:td=[]):AD EN (dn.map mkD)=AD EN (O.map mkD):=by
  subst ht;rw [List.append_nil] at hp;have hpm:(dn.map mkD).Perm (O.map mkD):=hp.map _;have hs:=PF hn ha;have hnd:=nodup_debts hn ha;exact asc_unique ((hs.perm hpm).perm (CU _)) ((CU _).trans (hpm.trans (CU _).symm)) (KO (hs.perm hpm) (hpm.nodup_iff.2 hnd)) (KO hs hnd)
theorem small_debts {L:Lin} (g:GoodL L) (hp:(dn++td).Perm (EK (EJ L))):∀ x∈dn.map mkD,OO x:=fun x hx=>by
  obtain ⟨q,hq,rfl⟩:=List.mem_map.1 hx;have:=owes_keys g (xs:=EJ L) (fun _ h=>h) q (hp.subset (List.mem_append_left _ hq));unfold OO mkD;simp only;omega
theorem owes_len:∀ {xs:List EvH},(EK xs).length≤xs.length:=by
  have aux:∀ {xs:List EvH} {O:Ods},(xs.foldl NH O).length≤O.length+xs.length:=by
    intro xs
    induction xs with
    | nil=>intro O;exact Nat.le_refl _
    | cons q r ih=>
      intro O;have h1:=ih (O:=NH O q);have h2:(NH O q).length≤O.length+1:=by
        unfold NH;split
        · have h3:=congrArg List.length (putO_keys (oweK q) (OS (oweK q) O-q.1.gap) O)
          rw [List.length_map] at h3
          split at h3
          · rw [List.length_map] at h3;omega
          · rw [List.length_append,List.length_map,List.length_singleton] at h3;omega
        · omega
      simp only [List.foldl_cons,List.length_cons];omega
  intro xs;have:=aux (xs:=xs) (O:=[]);unfold EK;simp only [List.length_nil] at this;omega
end
def noLin:Lin:=⟨0,0,[],[],[]⟩
def lateL (L:Lin) (s:Slip):Lin:=⟨L.places,L.sorts,L.start,L.keeps,L.slips++[s]⟩
def BP (L:Lin) (s:Slip):Lin × Int:=
  if AS L≠0 then (noLin,AS L) else if 8≤L.slips.length then (noLin,6) else if BV L s≠0 then (noLin,BV L s)
  else if L.slips.any (fun x=>decide (x.num=s.num))=true then (noLin,4) else (lateL L s,0)
section
variable {L:Lin} {ns:List Int} {s:Slip} {k:Nat}
theorem lateE_1 (h:AS L≠0):BP L s=(noLin,AS L):=if_pos h
theorem lateE_2 (h:AS L=0) (h2:8≤L.slips.length):BP L s=(noLin,6):=by unfold BP;rw [if_neg (fun x=>x h),if_pos h2]
theorem lateE_3 (h:AS L=0) (h2:¬ 8≤L.slips.length) (h3:BV L s≠0):BP L s=(noLin,BV L s):=by unfold BP;rw [if_neg (fun x=>x h),if_neg h2,if_pos h3]
theorem lateE_4 (h:AS L=0) (h2:¬ 8≤L.slips.length) (h3:BV L s=0) (h4:L.slips.any (fun x=>decide (x.num=s.num))=true):BP L s=(noLin,4):=by unfold BP;rw [if_neg (fun x=>x h),if_neg h2,if_neg (fun x=>x h3),if_pos h4]
theorem lateE_5 (h:AS L=0) (h2:¬ 8≤L.slips.length) (h3:BV L s=0) (h4:L.slips.any (fun x=>decide (x.num=s.num))=false):BP L s=(lateL L s,0):=by unfold BP;rw [if_neg (fun x=>x h),if_neg h2,if_neg (fun x=>x h3),if_neg (by rw [h4];decide)]
end
structure SameB (A B:Lin):Prop where
  places:B.places=A.places
  sorts:B.sorts=A.sorts
  start:B.start=A.start
  keeps:B.keeps=A.keeps
  slips:B.slips.Perm A.slips
theorem good_of {A:Lin} (g:GoodL A) {l:List Slip} (hl:l.length≤8) (hs:∀ s∈l,BV A s=0) (ho:Once l):GoodL ⟨A.places,A.sorts,A.start,A.keeps,l⟩:=by
  refine ⟨g.places,g.sorts,g.start,g.rows,g.nums,g.keeps,g.keep,hl,fun k hk=>?_⟩;have hm:=BD (xs:=l) (d:=AB) hk;have h1:BV ⟨A.places,A.sorts,A.start,A.keeps,l⟩ (l.getD k AB)=0:=hs _ hm;unfold CQ;simp only;rw [if_neg (fun x=>x h1),if_neg];intro h;unfold hasNum at h;obtain ⟨x,hx,e⟩:=List.any_eq_true.1 h;obtain ⟨j,hj,rfl⟩:=List.mem_iff_getElem.1 hx;rw [List.length_take] at hj;have e2:=of_decide_eq_true e;rw [List.getElem_take] at e2;have e3:l.getD k AB=l[k]:=by simp [List.getD,hk]
  rw [e3] at e2;have:=(List.getElem_inj (xs:=l.map Slip.num) (i:=j) (j:=k) (h₀:=by rw [List.length_map];omega) (h₁:=by rw [List.length_map];exact hk) ho).1 (by simpa using e2);omega
section
variable {A B:Lin} (g:GoodL A) (h:SameB A B)
include g h
end
section
variable {L:Lin} {o:List Int} (ho:o.Perm ((List.range L.slips.length).map fun i:Nat=>(i:Int)))
include ho
end
section
variable {L:Lin} {o:List Int} {k:Nat} (ho:o.Perm ((List.range L.slips.length).map fun i:Nat=>(i:Int)))
include ho
end
section
variable {L:Lin} (g:GoodL L)
include g
end
theorem openRow_hit {p:Int} {row:List Int} {H:Hs} {k:Nat}:∀ {j:Nat},k<j→AX ⟨p,(k:Int),false⟩ (GL p row j H)=row.getD k 0:=by
  intro j
  induction j with
  | zero=>omega
  | succ j ih=>
    intro h;simp only [GL,IF,HKey.mk.injEq]
    by_cases e:k=j
    · subst e;simp
    · rw [if_neg (by omega),ih (by omega)]
theorem openRow_soil {p:Int} {row:List Int} {H:Hs} {q so:Int}:∀ {j:Nat},AX ⟨q,so,true⟩ (GL p row j H)=AX ⟨q,so,true⟩ H:=by
  intro j
  induction j with
  | zero=>rfl
  | succ j ih=>simp only [GL,IF,HKey.mk.injEq];rw [if_neg (by simp),ih]
theorem openTo_soil {st:List (List Int)} {q so:Int}:∀ {i:Nat},AX ⟨q,so,true⟩ (FG st i)=0:=by
  intro i
  induction i with
  | zero=>rfl
  | succ i ih=>simp only [FG];rw [openRow_soil,ih]
theorem openTo_hit {st:List (List Int)} {p k:Nat} (hk:k<(st.getD p []).length):∀ {i:Nat},p<i→AX ⟨(p:Int),(k:Int),false⟩ (FG st i)=(st.getD p []).getD k 0:=by
  intro i
  induction i with
  | zero=>omega
  | succ i ih=>
    intro h;simp only [FG]
    by_cases e:p=i
    · subst e;exact openRow_hit hk
    · rw [openRow_get (.inl (by simp only;omega)),ih (by omega)]
section
variable {P S:Int} {H:Hs}
end
def OnceK (H:Hs):Prop:=(H.map Prod.fst).Nodup
theorem OnceK.put {H:Hs} (h:OnceK H) {k:HKey} {v:Int}:OnceK (HI k v H):=putH_once h
theorem OnceK.slip {H:Hs} (h:OnceK H) {s:Slip}:OnceK (doSlip s H):=by
  unfold doSlip
  split;· exact h.put.put
  split;· exact h.put.put
  split;· exact h.put.put
  split;· exact h.put
  split;· exact h.put
  exact h.put
theorem OnceK.open {L:Lin}:OnceK (AM L):=by
  have row:∀ {p:Int} {row:List Int} {H:Hs},OnceK H→∀ j,OnceK (GL p row j H):=by
    intro p row H h j
    induction j with
    | zero=>exact h
    | succ j ih=>exact ih.put
  have key:∀ i,OnceK (FG L.start i):=by
    intro i
    induction i with
    | zero=>exact List.Pairwise.nil
    | succ i ih=>exact row ih _
  exact key _
section
variable {L:Lin} {i:Nat} (g:GoodL L)
include g
end
section
variable {L:Lin} {i:Nat}
end
section
variable {a r x y:Bool}
end
section
variable {L:Lin} {k:Nat} {n:Int}
end
section
variable {P:Nat} {H:Hs}
end
section
variable {L:Lin} {so n:Int} (g:GoodL L)
include g
end
abbrev AscI (l:List Int):Prop:=l.Pairwise (·<·)
section
variable {L:Lin} {o:List Int} (g:GoodL L) (ha:AscI o) (hr:∀ x∈o,0≤x∧x<(L.slips.length:Int))
include hr
include g ha
end
section
variable {L:Lin} {o:List Int} {k:Nat}
variable (g:GoodL L) (ha:AscI o) (hr:∀ x∈o,0≤x∧x<(L.slips.length:Int))
include g ha hr
end
section
variable {l:List Slip} {n:Nat}
end
def GG (n:Nat):Nat→Nat→List (List Int)
  | 0,_=>[[]]
  | m+1,f=>(List.range' f (n-f)).flatMap fun i=>(GG n m (i+1)).map fun r=>(i:Int)::r
def OG (all:List Int) (S:List Int):List Int:=S.map fun q=>all.getD q.toNat 0
theorem find_flat {α β:Type} {p:β→Bool} {f:α→List β}:∀ {l:List α},(l.flatMap f).find? p=l.findSome? fun a=>(f a).find? p:=by
  intro l
  induction l with
  | nil=>rfl
  | cons a r ih=>
    rw [List.flatMap_cons,List.find?_append,List.findSome?_cons,ih];cases (f a).find? p <;> rfl
theorem find_map {α β:Type} {p:β→Bool} {f:α→β}:∀ {l:List α},(l.map f).find? p=(l.find? fun a=>p (f a)).map f:=by
  intro l
  induction l with
  | nil=>rfl
  | cons a r ih=>
    rw [List.map_cons,List.find?_cons,List.find?_cons,ih];cases p (f a) <;> rfl
section
variable {L:Lin} {all:List Int}
def Pb (L:Lin) (all b:List Int) (S:List Int):Bool:=JJ (woL L (b++OG all S))
theorem grow_find:∀ {m:Nat} {b:List Int} {j:Nat},(DS L all m b j).2=((GG all.length m j).find? (Pb L all b)).isSome∧∀ S,(GG all.length m j).find? (Pb L all b)=some S→(DS L all m b j).1=b++OG all S:=by
  intro m
  induction m with
  | zero=>
    intro b j;have e:Pb L all b []=JJ (woL L b):=by unfold Pb OG;simp
    simp only [DS,GG,List.find?_cons,List.find?_nil];rw [e];cases JJ (woL L b) with
    | true=>exact ⟨rfl,fun S h=>by cases h;simp [OG]⟩
    | false=>exact ⟨rfl,fun S h=>by cases h⟩
  | succ m ih=>
    intro b j;simp only [DS,GG];rw [find_flat];have key:∀ (c j:Nat),(GC (fun i=>DS L all m (b++[all.getD i 0]) (i+1)) j c).2=((List.range' j c).findSome? fun i=>((GG all.length m (i+1)).map fun r=>(i:Int)::r).find? (Pb L all b)).isSome∧∀ S,((List.range' j c).findSome? fun i=>((GG all.length m (i+1)).map fun r=>(i:Int)::r).find? (Pb L all b))=some S→(GC (fun i=>DS L all m (b++[all.getD i 0]) (i+1)) j c).1=b++OG all S:=by
      intro c
      induction c with
      | zero=>intro j;exact ⟨rfl,fun S h=>by cases h⟩
      | succ c ihc=>
        intro j;rw [List.range'_succ,List.findSome?_cons];have hP:(fun a:List Int=>Pb L all b ((j:Int)::a))=Pb L all (b++[all.getD j 0]):=by
          funext S;unfold Pb OG;simp
        rw [find_map,hP];obtain ⟨i1,i2⟩:=ih (b:=b++[all.getD j 0]) (j:=j+1);simp only [GC];cases hf:(GG all.length m (j+1)).find? (Pb L all (b++[all.getD j 0])) with
        | some S=>
          rw [hf] at i1;replace i1:(DS L all m (b++[all.getD j 0]) (j+1)).2=true:=i1;rw [if_pos i1];refine ⟨rfl,fun T h=>?_⟩;simp only [Option.map_some] at h;cases h;show (DS L all m (b++[all.getD j 0]) (j+1)).1=_;rw [i2 S hf];unfold OG;simp
        | none=>
          rw [hf] at i1;replace i1:(DS L all m (b++[all.getD j 0]) (j+1)).2=false:=i1;rw [if_neg (by rw [i1];decide)];exact ihc (j+1)
    exact key _ _
theorem few_hit {m i:Nat} (g:GoodL L) (hm:m≤2) (hno:∀ m',m'<m→∀ S∈GG (FW L).length m' 0,Pb L (FW L) [] S=false) (hi:i<(GG (FW L).length m 0).length) (hni:∀ i',i'<i→Pb L (FW L) [] ((GG (FW L).length m 0).getD i' [])=false) (h:Pb L (FW L) [] ((GG (FW L).length m 0).getD i [])=true):ED L=(OG (FW L) ((GG (FW L).length m 0).getD i []),0):=by
  refine wrongE_2 (IG g) ?_;have hf:∀ m',m'<m→(DS L (FW L) m' [] 0).2=false:=fun m' h'=>by
    rw [(grow_find (L:=L) (all:=FW L) (m:=m') (b:=[]) (j:=0)).1,List.find?_eq_none.2 (fun S hS=>by rw [hno m' h' S hS];decide)];rfl
  have hs:(GG (FW L).length m 0).find? (Pb L (FW L) [])=some ((GG (FW L).length m 0).getD i []):=by
    have e:(GG (FW L).length m 0).getD i []=(GG (FW L).length m 0)[i]:=by simp [List.getD,hi]
    rw [List.find?_eq_some_iff_getElem];refine ⟨h,i,hi,e.symm,fun j hj=>?_⟩;have:=hni j hj;rw [show (GG (FW L).length m 0).getD j []=(GG (FW L).length m 0)[j] by simp [List.getD,show j<(GG (FW L).length m 0).length by omega]] at this;simp [this]
  obtain ⟨g1,g2⟩:=grow_find (L:=L) (all:=FW L) (m:=m) (b:=[]) (j:=0);rw [hs] at g1;replace g1:(DS L (FW L) m [] 0).2=true:=g1;have g3:=g2 _ hs;rw [List.nil_append] at g3;have aux:∀ c j,j≤m→m<j+c→GC (fun m=>DS L (FW L) m [] 0) j c=(OG (FW L) ((GG (FW L).length m 0).getD i []),true):=by
    intro c
    induction c with
    | zero=>intro j h1 h2;omega
    | succ c ih=>
      intro j h1 h2;simp only [GC]
      by_cases e:j=m
      · subst e;rw [if_pos g1,g3]
      · rw [if_neg (by rw [hf j (by omega)];decide)];exact ih (j+1) (by omega) (by omega)
  exact aux 3 0 (Nat.zero_le _) (by omega)
variable (g:GoodL L) {S:List Int} (ha:AscI S) (hr:∀ q∈S,(0:Int)≤q∧q<(FW L).length)
include g ha hr
end
def choM:Nat→List Int→List (List Int)
  | 0,_=>[[]]
  | m+1,l=>(List.range l.length).flatMap fun i=>(choM m (l.drop (i+1))).map fun r=>l.getD i 0::r
section
variable {l:List Int} {m c i:Nat}
end
theorem cho_subs {all:List Int}:∀ {m f:Nat},choM m (all.drop f)=(GG all.length m f).map (OG all):=by
  intro m
  induction m with
  | zero=>intro f;rfl
  | succ m ih=>
    intro f;simp only [choM,GG,List.length_drop];rw [List.map_flatMap,List.range'_eq_map_range,List.flatMap_map]
    congr 1;funext i
    rw [List.drop_drop,show f+(i+1)=f+i+1 by omega,ih,List.map_map,List.map_map]
    congr 1;funext r
    simp only [Function.comp,OG,List.map_cons]
    congr 1
    rw [show ((f+i:Nat):Int).toNat=f+i by omega];simp [List.getD]
section
variable {L:Lin} {m i:Nat} (g:GoodL L)
theorem cho_all:choM m (FW L)=(GG (FW L).length m 0).map (OG (FW L)):=cho_subs (f:=0)
theorem LU:(choM m (FW L)).length=(GG (FW L).length m 0).length:=by rw [cho_all,List.length_map]
theorem cho_at (hi:i<(choM m (FW L)).length):(choM m (FW L)).getD i []=OG (FW L) ((GG (FW L).length m 0).getD i []):=by
  rw [LU] at hi;rw [cho_all];simp [List.getD,hi]
abbrev NoCho (L:Lin) (m i:Nat):Prop:=∀ i',i'<i→JJ (woL L ((choM m (FW L)).getD i' []))=false
theorem noCho_subs (h:NoCho L m i) (hi:i≤(choM m (FW L)).length):∀ i',i'<i→Pb L (FW L) [] ((GG (FW L).length m 0).getD i' [])=false:=fun i' h'=>by
  have:=h i' h';rw [cho_at (by omega)] at this;unfold Pb;rw [List.nil_append];exact this
abbrev NoChoTo (L:Lin) (m:Nat):Prop:=∀ m',m'<m→NoCho L m' (choM m' (FW L)).length
theorem noChoTo_subs (h:NoChoTo L m):∀ m',m'<m→∀ S∈GG (FW L).length m' 0,Pb L (FW L) [] S=false:=fun m' hm S hS=>by
  obtain ⟨k,hk,rfl⟩:=List.mem_iff_getElem.1 hS;have:=noCho_subs (h m' hm) (Nat.le_refl _) k (by rw [LU];exact hk)
  rwa [show (GG (FW L).length m' 0).getD k []=(GG (FW L).length m' 0)[k] by simp [List.getD,hk]] at this
include g
theorem cho_hit (hm:m≤2) (hno:NoChoTo L m) (hi:i<(choM m (FW L)).length) (hni:NoCho L m i) (h:JJ (woL L ((choM m (FW L)).getD i []))=true):ED L=((choM m (FW L)).getD i [],0):=by
  rw [cho_at hi];refine few_hit g hm (noChoTo_subs hno) (by rwa [LU] at hi) (noCho_subs hni (Nat.le_of_lt hi)) ?_;rw [cho_at hi] at h;unfold Pb;rw [List.nil_append];exact h
end
section
variable {L:Lin} {n amt:Int} {h S:List Int} {s:Slip} {l:List Slip} {G:List Gap} {i j:Nat}
end
section
variable {S:List Int} {n:Nat}
end
structure Rel (S:List Int) (O:Ods):Prop where
  len:S.length=20
  zero:S.getD 0 0=0∧S.getD 1 0=0
  at_:∀ i:Nat,2≤i→i<20→S.getD i 0=OS ⟨(i:Int)/2,(i:Int)%2,0⟩ O
  pos:∀ x∈O,0<x.2
  nod:(O.map Prod.fst).Nodup
  nn:∀ k,0≤OS k O
theorem Rel.start:Rel (List.replicate 20 0) []:=⟨by simp,by decide,fun i _ h2=>by
  show (List.replicate 20 (0:Int)).getD i 0=0
  rw [List.getD_eq_getElem?_getD,List.getElem?_replicate,if_pos h2];rfl,fun x hx=>(by cases hx),List.nodup_nil,fun k=>Int.le_refl _⟩
def gapQ (q:EvH):Gap:=⟨q.1.slip.num,q.1.gap⟩
theorem lack_gaps {L:Lin}:∀ (S:List Slip) (H:Hs) (q:Hs × List EvH),((evs H S).foldl (MU L) q).2.map gapQ=q.2.map gapQ++CD (evs H S):=by
  intro S
  induction S with
  | nil=>intro H q;simp [evs,CD]
  | cons s r ih=>
    intro H q;simp only [evs,List.foldl_cons];rw [ih,show CD (evOf H s::evs (doSlip s H) r)=MP (evOf H s)++CD (evs (doSlip s H) r) from rfl,← List.append_assoc]
    congr 1
    unfold MU MP
    by_cases e:(evOf H s).slip.kind=4
    · rw [if_neg (fun h=>h e)];simp only
      by_cases e2:(evOf H s).gap≠0
      · rw [if_pos e2,if_pos e2,List.map_append];rfl
      · rw [if_neg e2,if_neg e2,List.append_nil]
    · rw [if_pos e]
      have e0:(evOf H s).gap=0:=gap_f e;rw [if_neg (fun h=>h e0),List.append_nil]
theorem lack_map {L:Lin}:(EJ L).map gapQ=CD (BI L):=by
  have:=lack_gaps (L:=L) (AD AC L.slips) (AM L) ([],[])
  simpa [EJ,EI,BI] using this
section
variable {L:Lin} (g:GoodL L)
include g
end
section
variable {S:List Int} {n:Nat}
end
def ilv:List Int→List Int
  | []=>[]
  | x::r=>x::0::ilv r
theorem ilv_snoc {l:List Int} {x:Int}:ilv (l++[x])=ilv l++[x,0]:=by
  induction l with
  | nil=>rfl
  | cons y r ih=>simp only [List.cons_append,ilv,ih]
theorem stock_open {sx:List (List Int)} {P Q:Nat} (hl:sx.length=P) (hr:∀ r∈sx,r.length=Q):BT (FG sx P) Q P=sx.map ilv:=by
  have row:∀ {p:Nat},p<P→∀ j,j≤Q→BH (FG sx P) (p:Int) j=ilv ((sx.getD p []).take j):=by
    intro p hp j;have hrl:=hr _ (BD (xs:=sx) (d:=[]) (show p<sx.length by omega))
    induction j with
    | zero=>intro _;simp [BH,ilv]
    | succ j ih=>
      intro hj;simp only [BH];rw [openTo_hit (by omega) hp,openTo_soil,CI (d:=0) (by omega),ilv_snoc,ih (by omega)]
  have key:∀ k,k≤P→BT (FG sx P) Q k=(sx.take k).map ilv:=by
    intro k
    induction k with
    | zero=>intro _;simp [BT]
    | succ k ih=>
      intro hk;have hrl:=hr _ (BD (xs:=sx) (d:=[]) (show k<sx.length by omega));simp only [BT];rw [ih (by omega),row (by omega) Q (Nat.le_refl _),CI (d:=[]) (show k<sx.length by omega),List.map_append];have e:(sx.getD k []).take Q=sx.getD k []:=List.take_of_length_le (by omega);rw [e];rfl
  have:=key P (Nat.le_refl _)
  rwa [List.take_of_length_le (by omega)] at this
def NonN (H:Hs):Prop:=∀ k,0≤AX k H
section
variable {H:Hs}
theorem NonN.put (h:NonN H) {k:HKey} {v:Int} (hv:0≤v):NonN (HI k v H):=fun j=>by
  rw [IF];split
  · exact hv
  · exact h j
theorem NonN.open {st:List (List Int)} (h:∀ r∈st,∀ x∈r,0≤x):∀ {i:Nat},i≤st.length→NonN (FG st i):=by
  have row:∀ {p:Int} {r:List Int} {H:Hs},(∀ x∈r,0≤x)→NonN H→∀ j,NonN (GL p r j H):=by
    intro p r H hr hH j
    induction j with
    | zero=>exact hH
    | succ j ih=>
      refine ih.put ?_;rcases Nat.lt_or_ge j r.length with hj | hj
      · exact hr _ (BD (d:=0) hj)
      · simp [List.getD,hj]
  intro i
  induction i with
  | zero=>intro _ k;exact Int.le_refl _
  | succ i ih=>intro hi;exact row (h _ (BD (d:=[]) (by omega))) (ih (by omega)) _
theorem NonN.falls {K:Hs} (h:NonN K) (ho:OnceK K):falls H K=false:=by
  rw [← Bool.not_eq_true,falls_iff ho]
  rintro ⟨k,h1,_⟩
  have:=h k;omega
theorem aft_snoc {l:List Slip} {s:Slip}:aft H (l++[s])=doSlip s (aft H l):=by unfold aft;rw [List.foldl_append];rfl
theorem evs_snoc {l:List Slip} {s:Slip}:∀ {H:Hs},evs H (l++[s])=evs H l++[evOf (aft H l) s]:=by
  induction l with
  | nil=>intro H;rfl
  | cons x r ih=>intro H;simp only [List.cons_append,evs,ih];rfl
end
def NP (s:Slip):Bool:=s.soil||(cmp .eql s.kind 3||cmp .eql s.kind 6)
def cellR (X:List (List Int)) (s:Slip):Int:=(X.getD s.place.toNat []).getD (ixR s.sort.toNat (NP s)) 0
structure TrueS (P Q:Nat) (H0:Hs) (hh:Int) (sl:List Slip) (hy:List (List Int)):Prop where
  rows:hy=BT (aft H0 sl) Q P
  nn:NonN (aft H0 sl)
  once:OnceK (aft H0 sl)
  ok:(evs H0 sl).all evOk=true
  asc:Asc' AC sl
  hr:∀ s∈sl,s.hour≤hh
theorem TrueS.start {P Q:Nat} {st:List (List Int)} (hl:st.length=P) (hr:∀ r∈st,r.length=Q) (h0:∀ r∈st,∀ x∈r,0≤x):TrueS P Q (FG st P) 0 [] (st.map ilv):=by
  refine ⟨(stock_open hl hr).symm,NonN.open h0 (by omega),?_,rfl,List.Pairwise.nil,fun s hs=>by cases hs⟩;have:=OnceK.open (L:=⟨0,0,st,[],[]⟩);unfold AM at this;simp only [hl] at this;exact this
theorem TrueS.mono {P Q:Nat} {H0:Hs} {hh h2:Int} {sl:List Slip} {hy:List (List Int)} (t:TrueS P Q H0 hh sl hy) (h:hh≤h2):TrueS P Q H0 h2 sl hy:=⟨t.rows,t.nn,t.once,t.ok,t.asc,fun s hs=>by have:=t.hr s hs;omega⟩
theorem TrueS.add {P Q : Nat} {H0 : Hs} {hh : Int} {sl : List Slip} {hy hz : List (List Int)} {s : Slip} (t : TrueS P Q H0 hh sl hy) (hp : 0 ≤ s.place ∧ s.place < P) (hs : 0 ≤ s.sort ∧ s.sort < Q) (ht : s.kind = 1 → 0 ≤ s.to ∧ s.to < P) (hk : 1 ≤ s.kind ∧ s.kind ≤ 6) (ha : 0 ≤ s.amt) (hb : s.soil = true → s.kind = 1 ∨ s.kind = 4)
    (hm:s.kind=4→s.amt=cellR hy s) (hc:s.kind≠4→s.kind≠5→s.amt≤cellR hy s) (hz':hz=JG hy s) (hhs:hh≤s.hour) (hn:∀ x∈sl,x.hour=s.hour→x.num<s.num):TrueS P Q H0 s.hour (sl++[s]) hz:=by
  have hcell:cellR hy s=AX ⟨s.place,s.sort,NP s⟩ (aft H0 sl):=by unfold cellR;rw [t.rows];exact stock_at hp hs
  rw [hcell] at hm hc;have hon:OnceK (doSlip s (aft H0 sl)):=t.once.slip;have hk6:s.kind=1∨s.kind=2∨s.kind=3∨s.kind=4∨s.kind=5∨s.kind=6:=by omega
  have hsb:∀ {b:Bool},NP s=b→AX ⟨s.place,s.sort,NP s⟩ (aft H0 sl)=AX ⟨s.place,s.sort,b⟩ (aft H0 sl):=fun e=>by rw [e]
  have hns:s.kind≠1→s.kind≠4→s.soil=false:=fun h1 h2=>by
    cases e:s.soil with
    | false=>rfl
    | true=>rcases hb e with h | h <;> omega
  have hnn:NonN (doSlip s (aft H0 sl)):=by
    have tn:=t.nn;have add:∀ {H:Hs} {k:HKey} {d:Int},NonN H→0≤AX k H+d→NonN (KZ k d H):=fun h1 h2=>h1.put h2
    rcases hk6 with e | e | e | e | e | e
    · have hb1:NP s=s.soil:=by unfold NP;simp [cmp,e]
      have:=hc (by omega) (by omega);rw [hsb hb1] at this;rw [doSlip_1 e];have h1:=add tn (k:=⟨s.place,s.sort,s.soil⟩) (d:=-s.amt) (by omega);exact add h1 (by have:=h1 ⟨s.to,s.sort,s.soil⟩;omega)
    · have hb1:NP s=false:=by unfold NP;rw [hns (by omega) (by omega)];simp [cmp,e]
      have:=hc (by omega) (by omega);rw [hsb hb1] at this;rw [doSlip_2 e];have h1:=add tn (k:=⟨s.place,s.sort,false⟩) (d:=-s.amt) (by omega);exact add h1 (by have:=h1 ⟨s.place,s.sort,true⟩;omega)
    · have hb1:NP s=true:=by unfold NP;simp [cmp,e]
      have:=hc (by omega) (by omega);rw [hsb hb1] at this;rw [doSlip_3 e];have h1:=add tn (k:=⟨s.place,s.sort,true⟩) (d:=-s.amt) (by omega);exact add h1 (by have:=h1 ⟨s.place,s.sort,false⟩;omega)
    · rw [doSlip_4 e];exact tn.put ha
    · rw [doSlip_5 e];exact add tn (by have:=tn ⟨s.place,s.sort,false⟩;omega)
    · have hb1:NP s=true:=by unfold NP;simp [cmp,e]
      have:=hc (by omega) (by omega);rw [hsb hb1] at this;rw [doSlip_6 e];exact add tn (by omega)
  refine ⟨?_,?_,?_,?_,?_,?_⟩
  · rw [aft_snoc,hz',t.rows];exact done_stock hp hs ht
  · rw [aft_snoc];exact hnn
  · rw [aft_snoc];exact hon
  · rw [evs_snoc,List.all_append,t.ok]
    simp only [List.all_cons,List.all_nil,Bool.and_true,Bool.true_and];have hf:falls (aft H0 sl) (doSlip s (aft H0 sl))=false:=hnn.falls hon;have hg:(evOf (aft H0 sl) s).gap=0:=by
      by_cases e:s.kind=4
      · have hb1:NP s=s.soil:=by unfold NP;simp [cmp,e]
        have:=hm e;rw [hsb hb1] at this;rw [gap_t e];omega
      · exact gap_f e
    unfold evOk;rw [hg,show (evOf (aft H0 sl) s).below=false from hf];rfl
  · refine List.pairwise_append.2 ⟨t.asc,List.pairwise_singleton _ _,fun x hx y hy=>?_⟩
    simp only [List.mem_singleton] at hy;subst hy;rw [cmpSlip_lt];have h1:=t.hr x hx
    by_cases e:x.hour=y.hour
    · exact .inr ⟨e,hn x hx e⟩
    · exact .inl (by omega)
  · intro x hx
    rcases List.mem_append.1 hx with h | h
    · have:=t.hr x h;omega
    · simp only [List.mem_singleton] at h;subst h;exact Int.le_refl _
structure TrueB (L:Lin):Prop where
  good:GoodL L
  nums:∀ s∈L.slips,s.num≤20
  few:L.slips.length≤7
  ok:(evs (AM L) L.slips).all evOk=true
  asc:Asc' AC L.slips
  nn:NonN (aft (AM L) L.slips)
theorem TrueS.book {P Q:Nat} {hh:Int} {st:List (List Int)} {ks:List Keep} {sl:List Slip} {hy:List (List Int)} (t:TrueS P Q (FG st P) hh sl hy) (hl:st.length=P) (g:GoodL ⟨P,Q,st,ks,sl⟩) (hn:∀ s∈sl,s.num≤20) (hf:sl.length≤7):TrueB ⟨P,Q,st,ks,sl⟩:=by
  have e:AM ⟨P,Q,st,ks,sl⟩=FG st P:=by unfold AM;rw [hl]
  exact ⟨g,hn,hf,by rw [e];exact t.ok,t.asc,by rw [e];exact t.nn⟩
section
variable {L:Lin} (t:TrueB L)
include t
theorem TrueB.sort:AD AC L.slips=L.slips:=(PB t.good.once (List.Perm.refl _) t.asc).symm
theorem TrueB.events:BI L=evs (AM L) L.slips:=by unfold BI;rw [t.sort]
theorem TrueB.each:∀ e∈BI L,e.gap=0∧e.below=false:=fun e he=>by
  have h:=t.ok;rw [← t.events,List.all_eq_true] at h;have:=h e he;unfold evOk at this;simp only [KH,Bool.and_eq_true,decide_eq_true_eq,Bool.not_eq_true'] at this;exact this
theorem TrueB.noGap:CD (BI L)=[]:=by
  have h:=t.each;unfold CD;rw [List.flatMap_eq_nil_iff];intro e he;unfold MP;rw [if_neg (fun x=>x (h e he).1)]
theorem TrueB.gaps:EW L=([],0):=by rw [gapsE_2 (IG t.good),t.noGap]
theorem TrueB.below:GI L=([],0):=by
  rw [belowE_2 (IG t.good)];have:FM (fun x=>x.below) (BI L)=[]:=by
    unfold FM;rw [List.filter_eq_nil_iff.2 (fun e he=>by rw [(t.each e he).2];decide)];rfl
  rw [this]
theorem TrueB.lack:EJ L=[]:=by
  have:=lack_map (L:=L);rw [t.noGap] at this;exact List.map_eq_nil_iff.1 this
theorem TrueB.owed:LG L=([],0):=by rw [owedE_2 (IG t.good),t.lack];rfl
theorem TrueB.wrong:ED L=([],0):=by
  refine cho_hit t.good (m:=0) (i:=0) (by omega) (fun m' h=>by omega) (by simp [choM]) (fun i' h=>by omega) ?_;have e:woL L ((choM 0 (FW L)).getD 0 [])=L:=by
    have e2:woS L []=L.slips:=List.filter_eq_self.2 fun _ _=>rfl
    show (⟨L.places,L.sorts,L.start,L.keeps,woS L []⟩:Lin)=L;rw [e2]
  rw [e];unfold JJ;rw [t.events];exact t.ok
theorem TrueB.all200:EL L 200=L.slips:=by
  unfold EL;rw [List.filter_eq_self];intro s hs;have:=(JK (t.good.slipOf hs)).2.1;simp;omega
theorem TrueB.at200:atH L 200=aft (AM L) L.slips:=by unfold atH;rw [t.all200,t.sort]
theorem TrueB.here {p so:Int} {b:Bool} (hp:0≤p∧p<L.places) (hs:0≤so∧so<L.sorts):((BT (atH L 200) L.sorts.toNat L.places.toNat).getD p.toNat []).getD (ixR so.toNat b) 0=AX ⟨p,so,b⟩ (aft (AM L) L.slips)∧0≤AX ⟨p,so,b⟩ (aft (AM L) L.slips)∧AX ⟨p,so,b⟩ (aft (AM L) L.slips)≤100000:=by
  refine ⟨?_,t.nn _,?_⟩
  · rw [t.at200];exact stock_at (by omega) (by omega)
  · have:=GoodS.within (S:=L.slips) t.good.goodS t.good.within L.slips.length ⟨p,so,b⟩
    rw [List.take_length] at this;exact this.2
theorem TrueB.late {s:Slip} (hnum:s.num=900) (hh:s.hour=200) (hk:s.kind=4) (hp:0≤s.place∧s.place<L.places) (hs:0≤s.sort∧s.sort<L.sorts) (hto:s.to=0) (ha:0≤s.amt∧s.amt≤50):BP L s=(lateL L s,0)∧EW (lateL L s)=((if s.amt=AX (keyOf s) (aft (AM L) L.slips) then [] else [⟨900,s.amt-AX (keyOf s) (aft (AM L) L.slips)⟩]),0):=by
  have g:=t.good;have h8:=t.few;have hP:=g.places;have hQ:=g.sorts;have he:∀ L':Lin,L'.places=L.places→L'.sorts=L.sorts→BV L' s=0:=HZ (by omega) (by omega) (by omega) (by omega) (fun h=>by omega) (fun _=>hto) (by omega) (fun _=>.inr hk) (.inl hk) (by omega);have hno:∀ x∈L.slips,x.num≠s.num:=fun x hx e=>by have:=t.nums x hx;omega
  have hl:BP L s=(lateL L s,0):=lateE_5 (IG g) (by omega) (he L rfl rfl) (List.any_eq_false.2 fun x hx e=>hno x hx (of_decide_eq_true e));have hone:Once (L.slips++[s]):=by
    unfold Once;rw [List.map_append,List.nodup_append];refine ⟨g.once,List.pairwise_singleton _ _,fun a ha b hb=>?_⟩;obtain ⟨x,hx,rfl⟩:=List.mem_map.1 ha;simp only [List.map_cons,List.map_nil,List.mem_singleton] at hb;subst hb;exact hno x hx
  have g2:GoodL (lateL L s):=good_of g (l:=L.slips++[s]) (by simp;omega) (fun x hx=>by
    rcases List.mem_append.1 hx with h | h
    · exact g.slipOf h
    · simp only [List.mem_singleton] at h;subst h;exact he L rfl rfl) hone
  have hasc:Asc' AC (L.slips++[s]):=by
    refine List.pairwise_append.2 ⟨t.asc,List.pairwise_singleton _ _,fun x hx y hy=>?_⟩;simp only [List.mem_singleton] at hy;subst hy;rw [cmpSlip_lt];have h1:=(JK (g.slipOf hx)).2.1;have h2:=t.nums x hx
    by_cases e:x.hour=y.hour
    · exact .inr ⟨e,by omega⟩
    · exact .inl (by omega)
  have hev:BI (lateL L s)=BI L++[evOf (aft (AM L) L.slips) s]:=by
    unfold BI;rw [t.sort];show evs (AM L) (AD AC (L.slips++[s]))=_;rw [show AD AC (L.slips++[s])=L.slips++[s] from (PB hone (List.Perm.refl _) hasc).symm,evs_snoc]
  refine ⟨hl,?_⟩;rw [gapsE_2 (IG g2),hev];unfold CD;rw [List.flatMap_append,show (BI L).flatMap MP=[] from t.noGap];simp only [List.nil_append,List.flatMap_cons,List.flatMap_nil,List.append_nil];unfold MP;rw [gap_t hk];rw [show (evOf (aft (AM L) L.slips) s).slip=s from rfl,hnum]
  by_cases e:s.amt=AX (keyOf s) (aft (AM L) L.slips)
  · rw [if_pos e,if_neg (fun h=>h (by rw [show (⟨s.place,s.sort,s.soil⟩:HKey)=keyOf s from rfl,e];omega))]
  · rw [if_neg e,if_pos (fun h=>e (by rw [show (⟨s.place,s.sort,s.soil⟩:HKey)=keyOf s from rfl] at h;omega))];rfl
end
theorem SlipsOf.fresh {P Q:Int} {dl:List Int} {i:Nat} {sl:List Slip} (h:SlipsOf P Q dl i sl) (hd:dl.Nodup) (hi:i<dl.length):∀ x∈sl,x.num≠1+dl.getD i 0:=fun x hx e=>by
  obtain ⟨j,hj,hj2⟩:=h.2.2.2 x hx;have e2:dl.getD j 0=dl.getD i 0:=by omega
  have hjl:j<dl.length:=by omega
  have e3:dl[j]=dl[i]:=by simpa [List.getD,hjl,hi] using e2
  have:=(List.getElem_inj hd).1 e3;omega
section
variable {P Q:Nat} {H0:Hs} {hh h2 n:Int} {sl:List Slip} {hy:List (List Int)} (t:TrueS P Q H0 hh sl hy)
include t
theorem hour_yes (h:hh<h2):hh≤h2∧∀ x∈sl,x.hour=h2→x.num<n:=⟨by omega,fun x hx e=>by have:=t.hr x hx;omega⟩
theorem hour_no (hle:hh≤h2) (hd:∀ x∈sl,x.num≠n) (hc:(cmp .gtr (sl.length:Int) 0&&(cmp .eql h2 (sl.getD ((sl.length:Int)-1).toNat AB).hour&&cmp .lss n (sl.getD ((sl.length:Int)-1).toNat AB).num))=false):hh≤h2∧∀ x∈sl,x.hour=h2→x.num<n:=by
  refine ⟨hle,fun x hx e=>?_⟩;obtain ⟨i,hi,rfl⟩:=List.mem_iff_getElem.1 hx;have hl:((sl.length:Int)-1).toNat=sl.length-1:=by omega
  rw [hl] at hc;have hg:sl.getD (sl.length-1) AB=sl[sl.length-1]'(by omega):=by simp [List.getD,show sl.length-1<sl.length by omega]
  rw [hg] at hc;have hlast:=t.hr _ (List.getElem_mem (show sl.length-1<sl.length by omega));have hdl:=hd _ (List.getElem_mem (show sl.length-1<sl.length by omega));have hcmp:i<sl.length-1→AC sl[i] (sl[sl.length-1]'(by omega))<0:=fun h=>List.pairwise_iff_getElem.1 t.asc i (sl.length-1) hi (by omega) h
  have hle2:sl[i].hour≤(sl[sl.length-1]'(by omega)).hour∧(sl[i].hour=(sl[sl.length-1]'(by omega)).hour→sl[i].num≤(sl[sl.length-1]'(by omega)).num):=by
    by_cases e2:i=sl.length-1
    · subst e2;exact ⟨Int.le_refl _,fun _=>Int.le_refl _⟩
    · have:=cmpSlip_lt.1 (hcmp (by omega));omega
  have hn:¬ n<(sl[sl.length-1]'(by omega)).num:=by
    intro h;rw [show cmp .gtr (sl.length:Int) 0=true from decide_eq_true (by omega),show cmp .eql h2 (sl[sl.length-1]'(by omega)).hour=true from decide_eq_true (by omega),show cmp .lss n (sl[sl.length-1]'(by omega)).num=true from decide_eq_true h] at hc;cases hc
  omega
end
section
variable {X:List (List Int)} {p so ix tn:Nat} {s:Slip} (hp:s.place=(p:Int)) (hs:s.sort=(so:Int)) (hx:ix=ixR so (NP s)) (hb:s.soil=true→s.kind=1∨s.kind=4)
include hp hs hx
omit hx in
theorem cell_at (hx:ix=ixR so (NP s)):cellR X s=(X.getD p []).getD ix 0:=by unfold cellR;rw [hp,hs,hx];rfl
theorem trueZ_4 (hk:s.kind=4):X.set p ((X.getD p []).set ix s.amt)=JG X s:=by
  rw [← done_4 hk,hp,hs,hx,show NP s=s.soil by unfold NP;simp [cmp,hk]];rfl
theorem trueZ_1 (hk:s.kind=1) (ht:s.to=(tn:Int)):(X.set p ((X.getD p []).set ix ((X.getD p []).getD ix 0-s.amt))).set tn (((X.set p ((X.getD p []).set ix ((X.getD p []).getD ix 0-s.amt))).getD tn []).set ix (((X.set p ((X.getD p []).set ix ((X.getD p []).getD ix 0-s.amt))).getD tn []).getD ix 0+s.amt))=JG X s:=by
  rw [← done_1 hk,hp,hs,hx,ht,show NP s=s.soil by unfold NP;simp [cmp,hk]];rfl
include hb
theorem trueZ_5 (hk:s.kind=5):X.set p ((X.getD p []).set ix ((X.getD p []).getD ix 0+s.amt))=JG X s:=by
  have hso:s.soil=false:=by cases e:s.soil with | false=>rfl | true=>rcases hb e with h | h <;> omega
  rw [← done_5 hk,hp,hs,hx,show NP s=false by unfold NP;rw [hso];simp [cmp,hk]];rfl
omit hb in
theorem trueZ_6 (hk:s.kind=6):X.set p ((X.getD p []).set ix ((X.getD p []).getD ix 0-s.amt))=JG X s:=by
  rw [← done_6 hk,hp,hs,hx,show NP s=true by unfold NP;simp [cmp,hk]];rfl
omit hp hs hx hb in
theorem putR_at {v:Int} (hl:p<X.length):(putR X p ix v).getD p []=(X.getD p []).set ix v:=by unfold putR;rw [List.getD_eq_getElem?_getD,List.getElem?_set_self hl];rfl
omit hp hs hx hb in
theorem put_put {j:Nat} {v w:Int} (hl:p<X.length):X.set p (((X.getD p []).set ix v).set j w)=putR (putR X p ix v) p j w:=by
  unfold putR;rw [show (X.set p ((X.getD p []).set ix v)).getD p []=(X.getD p []).set ix v by rw [List.getD_eq_getElem?_getD,List.getElem?_set_self hl];rfl,List.set_set]
theorem trueZ_2 (hk:s.kind=2) (hl:p<X.length):X.set p (((X.getD p []).set ix ((X.getD p []).getD ix 0-s.amt)).set (ix+1) (((X.getD p []).set ix ((X.getD p []).getD ix 0-s.amt)).getD (ix+1) 0+s.amt))=JG X s:=by
  have hso:s.soil=false:=by cases e:s.soil with | false=>rfl | true=>rcases hb e with h | h <;> omega
  have h0:NP s=false:=by unfold NP;rw [hso];simp [cmp,hk]
  have e1:ix=2*so:=by rw [hx,h0];rfl
  rw [put_put hl,← done_2 hk,hp,hs];show _=putR (putR X p (ixR so false) ((X.getD p []).getD (ixR so false) 0-s.amt)) p (ixR so true) (((putR X p (ixR so false) ((X.getD p []).getD (ixR so false) 0-s.amt)).getD p []).getD (ixR so true) 0+s.amt);rw [show ixR so true=ix+1 by rw [e1];rfl,show ixR so false=ix by rw [e1];rfl,putR_at hl]
theorem trueZ_3 (hk:s.kind=3) (hl:p<X.length) {j:Nat} (hj:(j:Int)=ix-1):X.set p (((X.getD p []).set ix ((X.getD p []).getD ix 0-s.amt)).set j (((X.getD p []).set ix ((X.getD p []).getD ix 0-s.amt)).getD j 0+s.amt))=JG X s:=by
  have _:=hb;have h0:NP s=true:=by unfold NP;simp [cmp,hk]
  have e1:ix=2*so+1:=by rw [hx,h0];rfl
  have e2:j=2*so:=by omega
  rw [put_put hl,← done_3 hk,hp,hs];show _=putR (putR X p (ixR so true) ((X.getD p []).getD (ixR so true) 0-s.amt)) p (ixR so false) (((putR X p (ixR so true) ((X.getD p []).getD (ixR so true) 0-s.amt)).getD p []).getD (ixR so false) 0+s.amt);rw [show ixR so true=ix by rw [e1];rfl,show ixR so false=j by rw [e2];rfl,putR_at hl]
end
theorem TrueB.row {L:Lin} (t:TrueB L) {n so:Nat} (hn:(n:Int)<L.places) (hs:(so:Int)<L.sorts):(CZ L 200).2=0∧((CZ L 200).1.length:Int)=L.places∧(((CZ L 200).1.getD n []).length:Int)=2*L.sorts∧((CZ L 200).1.getD n []).getD (2*(so:Int)).toNat 0=AX ⟨n,so,false⟩ (aft (AM L) L.slips)∧((CZ L 200).1.getD n []).getD (2*(so:Int)+1).toNat 0=AX ⟨n,so,true⟩ (aft (AM L) L.slips)∧∀ b,0≤AX ⟨n,so,b⟩ (aft (AM L) L.slips)∧AX ⟨n,so,b⟩ (aft (AM L) L.slips)≤100000:=by
  have g:=t.good;have hP:=g.places;have hQ:=g.sorts;have e:CZ L 200=(BT (atH L 200) L.sorts.toNat L.places.toNat,0):=stockE_3 (IG g) (by decide) (by omega) (by omega);have hh:∀ b,_:=fun b=>t.here (p:=(n:Int)) (so:=(so:Int)) (b:=b) (by omega) (by omega)
  rw [e];refine ⟨rfl,by simp only [HB];omega,by simp only;rw [MF (by omega),GP];omega,?_,?_,fun b=>(hh b).2⟩
  · have:=(hh false).1
    rw [show (2*(so:Int)).toNat=ixR ((so:Int)).toNat false by unfold ixR;simp;omega];exact this
  · have:=(hh true).1
    rw [show (2*(so:Int)+1).toNat=ixR ((so:Int)).toNat true by unfold ixR;simp;omega];exact this
theorem here_big {x:Int} (h:(cmp .lss x 0||cmp .gtr x 50)=true) (h0:0≤x):0<x:=by
  simp only [cmp,Bool.or_eq_true,decide_eq_true_eq] at h;omega
theorem here_small {x:Int} (h:(cmp .lss x 0||cmp .gtr x 50)=false):x≤50:=by
  simp only [cmp,Bool.or_eq_false_iff,decide_eq_false_iff_not] at h;omega
end Go.Sh
