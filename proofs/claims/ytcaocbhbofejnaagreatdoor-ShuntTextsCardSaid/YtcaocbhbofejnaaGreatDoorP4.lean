/- A part of the proof of the laws of this seat. -/
import Derived.Test.YtcaocbhbofejnaaGreatDoorP3
import Derived.Test.YtcaocbhbofejnaaGreatDoorP1
import Derived.Test.YtcaocbhbofejnaaGreatDoorP2
set_option linter.unusedVariables false
set_option linter.unusedSimpArgs false
namespace Go.Sl
open Go
theorem St.permL {I:Imm} {A A' B:Seg} {w:World} (h:A.Perm A') (st:St I (A++B) w):St I (A'++B) w:=st.perm (List.Perm.append_right _ h)
section
variable {ρ:Option Nat} {P:Program} {N:Nat} {ds:List Deferred} {l:Sl} {I:Imm} {M A B eM:Seg} {Q:Exit→Act→World→Prop} {E:TypeId} {vs:List Value} {xss:List (List Int)}
theorem NY {c : Code} (h : OwnEach E vs xss eM) (hl : ∀ xs ∈ xss, xs.length ≤ 1000000) (hM : M.Perm (eM ++ A)) (hA : A.Perm B)
    (next:∀ J,I.le J→RowsV J vs xss→Run (ρ:=ρ) P N c Q ds l J B):Run (ρ:=ρ) P N c Q ds l I M:=fun a w hS hD hW=>by
  obtain ⟨J,h1,h2,h3⟩:=h.freeze (fun xs hx=>by have:=hl xs hx;omega) (hW.perm hM);exact next J h1 h2 a w hS hD (h3.perm hA)
end
end Go.Sl
namespace Go.Sh
open Go Go.Sl
theorem blocksTo_yesI {cs:List Car} {t:List Int} {k i:Nat} (h:CE cs t ↑k=true) (hi:i=(BF cs t k).length-1):BF cs t (k+1)=(BF cs t k).set i ((BF cs t k).getD i []++[t.getD k 0]):=by
  subst hi;exact PH h
theorem blocksTo_mem {cs:List Car} {t:List Int} {p:Int→Prop} (ht:∀ x∈t,p x):∀ k,k≤t.length→∀ b∈BF cs t k,∀ x∈b,p x:=by
  intro k
  induction k with
  | zero=>intro _ b hb;simp [BF] at hb
  | succ k ih=>
    intro hk b hb x hx;have ih:=ih (by omega);have hm:t.getD k 0∈t:=AJ (by omega);simp only [BF,stepB] at hb
    split at hb
    · rename_i hc
      have hp:=KE hc;rcases List.mem_or_eq_of_mem_set hb with hb | e
      · exact ih b hb x hx
      · subst e
        rcases List.mem_append.1 hx with hx | hx
        · have hm:(BF cs t k).getD ((BF cs t k).length-1) []∈BF cs t k:=AJ (by have:=(JD cs t k).2.1 (by omega);omega)
          exact ih _ hm x hx
        · simp at hx;subst hx;exact ht _ hm
    · rcases List.mem_append.1 hb with hb | hb
      · exact ih b hb x hx
      · simp at hb;subst hb;simp at hx;subst hx;exact ht _ hm
theorem NI {cs:List Car} {t:List Int}:∀ k,k≤t.length→(BF cs t k).flatten=t.take k:=by
  intro k
  induction k with
  | zero=>intro _;simp [BF]
  | succ k ih=>
    intro hk;have ih:=ih (by omega);rw [CF (d:=0) (by omega),← ih];simp only [BF,stepB]
    split
    · rename_i hc
      have hp:=KE hc;have hl:=(JD cs t k).2.1 (by omega);obtain ⟨ys,y,e⟩:∃ ys y,BF cs t k=ys++[y]:=by
        rcases List.eq_nil_or_concat (BF cs t k) with h | ⟨ys,y,h⟩
        · rw [h] at hl;simp at hl
        · exact ⟨ys,y,by rw [h,List.concat_eq_append]⟩
      rw [e];have e2:(ys++[y]).length-1=ys.length:=by simp
      rw [e2,List.set_append_right _ _ (Nat.le_refl _)];simp [List.getD]
    · simp
theorem growM_mem {bl:List (List Int)} {p:Int→Prop} (hb:∀ b∈bl,∀ x∈b,p x):∀ (n:Nat) (begun us:List Int),(∀ x∈begun,p x)→∀ l∈EH bl n begun us,∀ x∈l,p x:=by
  intro n
  induction n with
  | zero=>intro begun us h l hl x hx;simp [EH] at hl;subst hl;exact h x hx
  | succ n ih=>
    intro begun us h l hl x hx;simp only [EH,FI,List.mem_flatMap] at hl;obtain ⟨i,hi,hl⟩:=hl
    split at hl
    · simp at hl
    · refine ih _ _ (fun y hy=>?_) l hl x hx
      rcases List.mem_append.1 hy with hy | hy
      · exact h y hy
      · by_cases hi2:i<bl.length
        · exact hb _ (AJ hi2) y hy
        · simp [List.getD,List.getElem?_eq_none (Nat.le_of_not_lt hi2)] at hy
theorem growM_len {bl:List (List Int)} {m:Nat} (hb:∀ b∈bl,b.length≤m):∀ (n:Nat) (begun us:List Int),∀ l∈EH bl n begun us,l.length≤begun.length+m*n:=by
  intro n
  induction n with
  | zero=>intro begun us l hl;simp [EH] at hl;subst hl;simp
  | succ n ih=>
    intro begun us l hl;simp only [EH,FI,List.mem_flatMap] at hl;obtain ⟨i,hi,hl⟩:=hl
    split at hl
    · simp at hl
    · have h1:=ih _ _ l hl
      have h2:(bl.getD i []).length≤m:=by
        by_cases hi2:i<bl.length
        · exact hb _ (AJ hi2)
        · simp [List.getD,List.getElem?_eq_none (Nat.le_of_not_lt hi2)]
      rw [List.length_append] at h1;rw [Nat.mul_succ];omega
theorem flatMap_leAll {α β:Type} (f:α→List β) (m:Nat) (h:∀ x,(f x).length≤m):∀ l:List α,(l.flatMap f).length≤l.length*m:=by
  intro l
  induction l with
  | nil=>simp
  | cons x r ih=>have:=h x;simp only [List.flatMap_cons,List.length_append,List.length_cons,Nat.succ_mul];omega
theorem growM_count {bl:List (List Int)}:∀ (n:Nat) (begun us:List Int),(EH bl n begun us).length≤bl.length ^ n:=by
  intro n
  induction n with
  | zero=>intro begun us;simp [EH]
  | succ n ih=>
    intro begun us;simp only [EH,FI];refine Nat.le_trans (flatMap_leAll _ (bl.length ^ n) (fun i=>?_) _) (by simp [Nat.pow_succ,Nat.mul_comm])
    split
    · simp
    · exact ih _ _
theorem pigeon {us:List Int} {n:Nat} (h:us.length<n):∃ i:Nat,i<n∧¬ (i:Int)∈us:=by
  rcases Classical.em (∃ i:Nat,i<n∧¬ (i:Int)∈us) with h1 | h1
  · exact h1
  · exfalso
    have hs:(List.range n).map (fun k:Nat=>(k:Int)) ⊆ us:=fun c hc=>by
      obtain ⟨k,hk,rfl⟩:=List.mem_map.1 hc;rcases Classical.em ((k:Int)∈us) with h2 | h2
      · exact h2
      · exact absurd ⟨k,List.mem_range.1 hk,h2⟩ h1
    have hn:((List.range n).map (fun k:Nat=>(k:Int))).Nodup:=by
      refine List.pairwise_map.2 ((List.nodup_range (n:=n)).imp (fun hab e=>hab (by exact_mod_cast e)))
    have:=hn.length_le_of_subset hs;simp at this;omega
theorem growM_pos {bl:List (List Int)}:∀ (n:Nat) (begun us:List Int),us.length+n≤bl.length→0<(EH bl n begun us).length:=by
  intro n
  induction n with
  | zero=>intro begun us _;simp [EH]
  | succ n ih=>
    intro begun us h;obtain ⟨i,hi,hu⟩:=pigeon (us:=us) (n:=bl.length) (by omega);have h1:=ih (begun++bl.getD i []) (us++[(i:Int)]) (by simp;omega);obtain ⟨x,hx⟩:=List.exists_mem_of_length_pos h1;refine List.length_pos_of_mem (a:=x) ?_;simp only [EH,FI,List.mem_flatMap];exact ⟨i,List.mem_range'_1.2 ⟨Nat.zero_le _,by omega⟩,by rw [if_neg hu];exact hx⟩
structure WarmOk (Y:Yard):Prop where
  tl:(trk Y 0).length≤5
  ok:Ok Y.cars (trk Y 0)
  bl:(blocksOf Y.cars (trk Y 0)).length≤5
  each:∀ b∈blocksOf Y.cars (trk Y 0),b.length≤5
  many:(EH (blocksOf Y.cars (trk Y 0)) (blocksOf Y.cars (trk Y 0)).length [] []).length≤3125
  some:0<(EH (blocksOf Y.cars (trk Y 0)) (blocksOf Y.cars (trk Y 0)).length [] []).length
  okAll:∀ xs∈EH (blocksOf Y.cars (trk Y 0)) (blocksOf Y.cars (trk Y 0)).length [] [],Ok Y.cars xs∧xs.length≤1000000
theorem Fine.warm {Y:Yard} (h:Fine Y):WarmOk Y:=by
  have hr:=h.room1;have hl:=h.len;have ho:Ok Y.cars (trk Y 0):=h.ok.at 0 (by omega);have ht:(trk Y 0).length≤5:=by
    have:=(List.sublist_flatten_of_mem (AJ (d:=[]) (xs:=Y.tracks) (k:=0) (by omega))).length_le;exact Nat.le_trans this h.sum
  obtain ⟨b1,b2,b3⟩:=JD Y.cars (trk Y 0) (trk Y 0).length;have hb1:(blocksOf Y.cars (trk Y 0)).length≤5:=Nat.le_trans b1 ht;have hb3:∀ b∈blocksOf Y.cars (trk Y 0),b.length≤5:=fun b hb=>Nat.le_trans (b3 b hb) ht
  refine ⟨ht,ho,hb1,hb3,?_,growM_pos _ _ _ (by simp),fun xs hx=>⟨fun c hc=>growM_mem (p:=fun c=>0≤c∧c<Y.cars.length) (blocksTo_mem (fun x hx=>ho x hx) _ (Nat.le_refl _)) _ _ _ (fun x hx=>by simp at hx) xs hx c hc,?_⟩⟩
  · refine Nat.le_trans (growM_count _ _ _) ?_
    match (blocksOf Y.cars (trk Y 0)).length,hb1 with
    | 0,_ | 1,_ | 2,_ | 3,_ | 4,_ | 5,_=>decide
  · have:=growM_len hb3 _ _ _ xs hx
    simp at this;omega
theorem warmE_bad {Y:Yard} (h:checkErr Y≠0):ND Y=([],0,checkErr Y):=if_neg h
theorem warmE_ok {Y : Yard} (h : Valid Y) : ND Y = (let os := EH (blocksOf Y.cars (trk Y 0)) (blocksOf Y.cars (trk Y 0)).length [] []
     let m:=OS (EY Y.cars) (os.drop 1) (os.getD 0 [])
     (m,((FZ Y.cars m).length:Int),0)):=if_pos h
theorem minF_mem {f:List Int→List Int→Int}:∀ (l:List (List Int)) (m:List Int),OS f l m=m∨OS f l m∈l:=by
  intro l
  induction l with
  | nil=>intro m;exact .inl rfl
  | cons x r ih=>
    intro m;simp only [OS]
    split
    · rcases ih x with h | h
      · exact .inr (by rw [h];simp)
      · exact .inr (by simp [h])
    · rcases ih m with h | h
      · exact .inl h
      · exact .inr (by simp [h])
theorem minF_in {f:List Int→List Int→Int} {l:List (List Int)} (h:0<l.length):OS f (l.drop 1) (l.getD 0 [])∈l:=by
  cases l with
  | nil=>simp at h
  | cons x r=>rcases minF_mem (f:=f) r x with h | h <;> simp [h]
end Go.Sh
namespace Go.Proofs.YtcaocbhbofejnaaGreatDoor
open Go Go.Sl Go.Sh
set_option maxRecDepth 100000
noncomputable def c_Warm (p:List Nat):Code:=sub (AU Tryz.f48) p
theorem Warm_ct (I:Imm) (y:Value) (Y:Yard) (y_f:IsYard I y Y):Ct Tryz.prog 48 #[y] I ([]) (fun v I' M'=>∃ u0:Value,v=.tuple #[u0,vI ((ND Y).2.1),vI ((ND Y).2.2)]∧M'=[]∧BK I' u0 ((ND Y).1)):=by
 obtain ⟨y1,y2,y3,t8,a8,a9,b0⟩:=id y_f;subst t8;obtain ⟨a0,a1,s4,s7,o0,s5,s6,s8⟩:=id a8;subst o0;obtain ⟨a4,a5,s9,t2,o1,t0,t1,t3⟩:=id a9;subst o1;obtain ⟨a2,a3,t4,t7,p4,o2,t5,t6,i5,o3⟩:=id b0;subst o2;refine fr (args:=[_]) (N:=65) Tryz.func48 (fun F=>?_);show Run _ _ (c_Warm []) _ _ [(0,.agg #[vS a0 Y.cars.length a1,vS a4 Y.room.length a5,vS a2 Y.tracks.length a3])] _ _;refine rnm (rqr ?_);refine sS (sb 1 26 #[vS a0 Y.cars.length a1,vS a4 Y.room.length a5,vS a2 Y.tracks.length a3] (fun b1=>(sp 3 [(4,vI (0)),(3,vI (0)),(2,vN)] (se (rq (rqr (sd (dnb 12 0 0 b1 [vS a0 Y.cars.length a1,vS a4 Y.room.length a5,vS a2 Y.tracks.length a3]) (sd (dc 13 (fun I' hI=>(LX I' _ (Y) ((BS a8 a9 b0).mono hI) :))) (sp 1 [(5,vI ((checkErr Y)))] (sn (sp 2 [(15,.bool (!(cmp .eql ((checkErr Y)) (0))))] (se (rc 15 rfl (fun h1=>?_) (fun h1=>?_))))))))))))))
 ·
  have m6:=h1;have h1:=DE (CL h1);refine rqr (sp 4 [(4,vI ((checkErr Y))),(3,vI (0)),(2,vN)] (se (BO ((RP (JK (t:=2) (u:=3) (r:=4) [] (by kernel_rfl) rfl rfl rfl (TC _ (TR _)) (IR _) ?_))))));exact ⟨_,(congrArg (fun p:List Int × Int × Int=>Value.tuple #[vN,vI p.2.1,vI p.2.2]) (warmE_bad h1).symm),rfl,((show []=(ND Y).1 from (congrArg Prod.fst (warmE_bad h1)).symm)▸(IsSl.nil _))⟩
 have m6:=h1;have h1:=DF (BW h1);refine AH (NX (rqr (sS (sal 6 24 #[vN] (fun b3=>(se (rq ?_)))))));have n5:Valid Y:=by (show checkErr Y=0;omega)
 have m9:=n5.fine;have v1:=m9.room1;have v2:=m9.len;have f8:=m9.warm;have v4:(Y.tracks.getD (0) []).length≤5:=f8.tl;have v5:Ok Y.cars (Y.tracks.getD (0) []):=f8.ok;have q5:(blocksOf Y.cars (Y.tracks.getD (0) [])).length≤5:=f8.bl;have p0:∀ b∈blocksOf Y.cars (Y.tracks.getD (0) []),b.length≤5:=f8.each;have v6:(EH (blocksOf Y.cars (Y.tracks.getD (0) [])) (blocksOf Y.cars (Y.tracks.getD (0) [])).length [] []).length≤3125:=f8.many;have i9:0<(EH (blocksOf Y.cars (Y.tracks.getD (0) [])) (blocksOf Y.cars (Y.tracks.getD (0) [])).length [] []).length:=f8.some;have j0:∀ xs∈EH (blocksOf Y.cars (Y.tracks.getD (0) [])) (blocksOf Y.cars (Y.tracks.getD (0) [])).length [] [],Ok Y.cars xs∧xs.length≤1000000:=f8.okAll;refine rr (sp 1 [(17,vP b1 2)] (sd (dlb 18 1 2 b1 (vS a2 Y.tracks.length a3)) (sd (di 19 1 (0) i5.addr) ?_)));have g3:=o3 (0) (by omega);obtain ⟨e2,e3,q9,r2,i2,r0,r1,i3⟩:=id g3;rw [i2] at g3;refine sd (BL (dl 20 (CR i5 (0) (by omega))) i2) (sp 1 [(7,vS e2 (Y.tracks.getD (0) []).length e3)] (se (rq (rqr (sp 3 [(23,vI (0)),(22,vI (↑((Y.tracks.getD (0) []).length))),(21,vS e2 (Y.tracks.getD (0) []).length e3)] (se (rb 0 ?_)))))));refine rl (fun mz a w=>∃ k:Nat,∃ bv:Value,∃ vs:List Value,∃ bM:Seg,∃ eM:Seg,(k≤(Y.tracks.getD (0) []).length)∧(Own 23 1 AO bv vs bM)∧(OwnEach 3 vs (BF Y.cars (Y.tracks.getD (0) []) k) eM)∧Slots 65 [(23,vI ↑k),(1,vP b1 0),(2,vN),(3,vI (0)),(4,vI (0)),(6,vP b3 0),(7,vS e2 (Y.tracks.getD (0) []).length e3),(21,vS e2 (Y.tracks.getD (0) []).length e3),(22,vI (↑((Y.tracks.getD (0) []).length)))] a∧a.defers=[]∧St I ((bX b3 #[bv] 24)::(bX b1 #[vS a0 Y.cars.length a1,vS a4 Y.room.length a5,vS a2 Y.tracks.length a3] 26)::(bM++(eM++F))) w∧mz=(Y.tracks.getD (0) []).length-k) ?_ ?_
 ·intro a w hS hD hW;exact ⟨_,0,(vN),[],[],[],Nat.zero_le _,Own.nil _ _ _,OwnEach.nil,hS.sub (.cons 23 rfl (.cons 1 rfl (.cons 2 rfl (.cons 3 rfl (.cons 4 rfl (.cons 6 rfl (.cons 7 rfl (.cons 21 rfl (.cons 22 rfl (.nil _)))))))))),hD,hW,rfl⟩
 rintro mz a w ⟨k,bv,vs,bM,eM,hk,bo,h5,hS,hD,hW,rfl⟩
 refine AX hS hD hW ?_;clear hS hD hW a w;obtain ⟨a6,a7,j2,p9⟩:=bo.shape;subst j2;have u8:=h5.length;have o9:=JD Y.cars (Y.tracks.getD (0) []) k;refine rqr (sp 1 [(24,.bool (cmp .lss (↑k) (↑((Y.tracks.getD (0) []).length))))] (se (rq (rc 24 rfl (fun h2=>?_) (fun h2=>?_)))))
 ·
  have m7:=h2;have h2:=BZ h2;refine AH (NX (rq (rb 1 (rqr (sp 1 [(25,vI (↑k))] (sd (di 26 1 (k) i3.addr) (sd (dl 27 (BH i3 (k) (by omega))) (sp 2 [(9,vI ((Y.tracks.getD (0) []).getD (k) 0)),(8,vI (↑k))] (se (rq (rqr (sp 2 [(29,vP b1 0),(28,vS e2 (Y.tracks.getD (0) []).length e3)] (sd (dlb 30 1 0 b1 (vS a0 Y.cars.length a1)) (sp 1 [(31,vI (↑k))] (sd (dc 32 (fun I' hI=>(LZ I' _ _ _ _ (↑k) (g3.mono hI) (a8.mono hI) (by assumption) :))) (se (rc 32 rfl (fun h3=>?_) (fun h3=>?_))))))))))))))))))
  ·
   have m8:=h3;refine rq ?_;have u9:=KE h3;have u7:=o9.2.1 (by omega);have v0:=o9.2.2 _ (AJ (d:=[]) (xs:=BF Y.cars (Y.tracks.getD (0) []) k) (k:=((↑(vs.length))-1:Int).toNat) (by omega));obtain ⟨c3,d9,j3,q1,q0⟩:=OwnEach.pull h5 (((↑(vs.length))-1:Int).toNat) (by omega);obtain ⟨o4,o5,f0,o6⟩:=j3.shape;rw [f0] at j3;refine rn_mem (M':=((c3++(d9++(bX b3 #[vS a6 vs.length a7] 24)::(bX b1 #[vS a0 Y.cars.length a1,vS a4 Y.room.length a5,vS a2 Y.tracks.length a3] 26)::(bM++F))))) (fun w h=>?_) ?_
   ·have h2:=h.perm (PU (PU (PO _ _ _)));have h3:=St.permL (A':=c3++d9) (A:=eM) (by simpa only [AA,List.append_nil] using q1) (by simpa only [AA] using h2)
    simpa only [AA] using h3
   refine rn_mem (M':=((bX b3 #[vS a6 vs.length a7] 24)::(bX b1 #[vS a0 Y.cars.length a1,vS a4 Y.room.length a5,vS a2 Y.tracks.length a3] 26)::(c3++(d9++(bM++F))))) (fun w h=>h.perm (((PA _ PM).trans PM).trans (PC _ ((PA _ PM).trans PM)))) ?_;refine rpm (M':=((bX b3 #[vS a6 vs.length a7] 24)::(bX b1 #[vS a0 Y.cars.length a1,vS a4 Y.room.length a5,vS a2 Y.tracks.length a3] 26)::(bM++(c3++(d9++F))))) (PC _ (PC _ (PV (PO _ _ _)))) ?_;refine rd 13 [(0,true),(1,true),(2,true),(3,true),(4,true),(5,true),(6,true),(7,true),(8,true),(9,true),(10,true),(11,false),(12,false)] ((bX b3 #[vS a6 vs.length a7] 24)::(bX b1 #[vS a0 Y.cars.length a1,vS a4 Y.room.length a5,vS a2 Y.tracks.length a3] 26)::bM) ((c3++(d9++F))) ?_;refine AB (dlb 33 0 0 b3 (vS a6 vs.length a7)) ?_;refine AB (dlb 34 0 0 b3 (vS a6 vs.length a7)) (ox 1 [(35,vI (↑(vs.length)))] ?_);refine AB (dsb 36 (↑(vs.length)) (1)) ?_;refine AB (dlb 37 0 0 b3 (vS a6 vs.length a7)) ?_;refine AB (dlb 38 0 0 b3 (vS a6 vs.length a7)) (ox 1 [(39,vI (↑(vs.length)))] ?_);refine AB (dsb 40 (↑(vs.length)) (1)) ?_;obtain ⟨v7,i1⟩:=bo.row undef;refine AB (diI 41 1 ((↑(vs.length))-1) i1.addr) ?_;refine AB (BL (BM (x:=(.tmp 41)) (T:=23) (d:=42) (ty:=23) (gd:=none) (by kernel_rfl) rfl (by kernel_rfl) rfl (i1.get (((↑(vs.length))-1:Int).toNat) (by omega) 0 (by decide) _ _ (fun x hx=>by simp [hx]))) f0) (ox 1 [(43,vI ((Y.tracks.getD (0) []).getD (k) 0))] ?_);refine CK (sbs 44 3 1 #[vI ((Y.tracks.getD (0) []).getD (k) 0)] (fun b9=>?_));refine AW (S':=((bX b9 #[vI ((Y.tracks.getD (0) []).getD (k) 0)] 3)::(c3++(d9++F)))) ((PS _ _ _).trans (PC _ ((PS _ _ _).trans (PC _ (PM.symm))))) ?_;refine CK (AN (d:=45) (x:=(.tmp 42)) (y:=(.tmp 44)) (T:=23) (T':=23) (E:=3) (E':=3) (sz:=1) (bs:=8) (z:=vI (0)) (cell:=BA) (xs:=(BF Y.cars (Y.tracks.getD (0) []) k).getD (((↑(vs.length))-1:Int).toNat) []) (ys:=[((Y.tracks.getD (0) []).getD (k) 0:Int)]) (Ms:=c3) (ty:=23) (gd:=none) (by kernel_rfl) rfl (by kernel_rfl) (by kernel_rfl) (by kernel_rfl) (by kernel_rfl) (by kernel_rfl) (by decide) (by kernel_rfl) rfl rfl (j3) (show List.Perm ((bX b3 #[vS a6 vs.length a7] 24)::(bX b1 #[vS a0 Y.cars.length a1,vS a4 Y.room.length a5,vS a2 Y.tracks.length a3] 26)::(bM++(bX b9 #[vI ((Y.tracks.getD (0) []).getD (k) 0)] 3)::(c3++(d9++F)))) ((c3++(bX b3 #[vS a6 vs.length a7] 24)::(bX b1 #[vS a0 Y.cars.length a1,vS a4 Y.room.length a5,vS a2 Y.tracks.length a3] 26)::(bX b9 #[vI ((Y.tracks.getD (0) []).getD (k) 0)] 3)::(bM++(d9++F)))) from ((PU (PU (PV (PM.symm)))).trans (PA _ (PC _ (PC _ PM))))) (CH _) (CI 2 rfl rfl) (by first | omega | (simp only [LC,LN,LA,LK,LD];omega)) (fun v9 e5 h8=>?_));refine AW (S':=((bX b9 #[vI ((Y.tracks.getD (0) []).getD (k) 0)] 3)::(e5++(d9++F)))) (PW (PW ((PV (PM.symm)).trans (PA _ PM)))) ?_;obtain ⟨f9,g1,n6,q7⟩:=h8.shape;subst n6;show OFP _ _ _ _ _ _ ((45,vS f9 (((BF Y.cars (Y.tracks.getD (0) []) k).getD (((↑(vs.length))-1:Int).toNat) [])++([((Y.tracks.getD (0) []).getD (k) 0:Int)])).length g1)::_) _ _;refine FB (nm ?_);refine pm (M':=((bX b3 #[vS a6 vs.length a7] 24)::(bX b1 #[vS a0 Y.cars.length a1,vS a4 Y.room.length a5,vS a2 Y.tracks.length a3] 26)::(bX b9 #[vI ((Y.tracks.getD (0) []).getD (k) 0)] 3)::(bM++(e5++(d9++F))))) (PC _ (PC _ PM)) ?_;obtain ⟨q6,f2⟩:=bo.row undef;refine sd (diI 46 1 ((↑(vs.length))-1) f2.addr) (sS (FA (T:=23) (x:=(.tmp 46)) (y:=(.tmp 45)) (rc:=fun i f=>AO ((vs).getD i undef) f) undef (((↑(vs.length))-1:Int).toNat) 0 ((vS f9 (((BF Y.cars (Y.tracks.getD (0) []) k).getD (((↑(vs.length))-1:Int).toNat) [])++([((Y.tracks.getD (0) []).getD (k) 0:Int)])).length g1:Value)) (ty:=0) (gd:=none) (by kernel_rfl) rfl bo f2 (by omega) (by decide) rfl rfl (by kernel_rfl) rfl rfl (by intro f hf;match f,hf with | 0,_=>rfl) (PU (PU (PM.symm))) (fun e6 n0=>(pm (M':=((bX b3 #[vS a6 vs.length a7] 24)::(bX b1 #[vS a0 Y.cars.length a1,vS a4 Y.room.length a5,vS a2 Y.tracks.length a3] 26)::(bX b9 #[vI ((Y.tracks.getD (0) []).getD (k) 0)] 3)::(e6++(e5++(d9++F))))) (PW (PW PM)) ?_))));obtain ⟨e8,h6,j4⟩:=q0 _ _ _ h8;refine AR (I':=I) (M':=((e8++(bX b3 #[vS a6 vs.length a7] 24)::(bX b1 #[vS a0 Y.cars.length a1,vS a4 Y.room.length a5,vS a2 Y.tracks.length a3] 26)::(bX b9 #[vI ((Y.tracks.getD (0) []).getD (k) 0)] 3)::(e6++F)))) (fun w h=>?_) ?_
   ·have h2:=h.perm ((PU (PU (PU (PO _ _ _)))).trans (PA _ (PU (PU (PU (PO _ _ _))))));simp only [← AA] at h2;have h3:=St.permL (A':=e8) (A:=e5++d9) (by simpa only [AA,List.append_nil] using j4.symm) (by simpa only [AA] using h2)
    simpa only [AA] using h3
   refine pm (M':=((bX b3 #[vS a6 vs.length a7] 24)::(bX b1 #[vS a0 Y.cars.length a1,vS a4 Y.room.length a5,vS a2 Y.tracks.length a3] 26)::(bX b9 #[vI ((Y.tracks.getD (0) []).getD (k) 0)] 3)::(e8++(e6++F)))) (PW (PW PM)) (se (CC 1 ((EP (EB (NX (rr (sd (da 52 (↑k) (1)) (sp 1 [(23,vI (↑k+1))] (ee ?_))))))))));refine AG ((Y.tracks.getD (0) []).length-(k+1)) (by omega) ?_;intro a w hS hD hW;exact ⟨k+1,(vS a6 vs.length a7),vs.set (((↑(vs.length))-1:Int).toNat) ((vS f9 (((BF Y.cars (Y.tracks.getD (0) []) k).getD (((↑(vs.length))-1:Int).toNat) [])++([((Y.tracks.getD (0) []).getD (k) 0:Int)])).length g1:Value)),e6,e8,by omega,n0,(by rw [blocksTo_yesI (i:=((↑(vs.length))-1:Int).toNat) h3 (by omega)];exact h6),hS.sub (.consE 23 rfl rfl (.cons 1 rfl (.cons 2 rfl (.cons 3 rfl (.cons 4 rfl (.cons 6 rfl (.cons 7 rfl (.cons 21 rfl (.cons 22 rfl (.nil _)))))))))),hD,(hW.perm (((PC _ (PS _ _ _)).trans (PS _ _ _)).trans (PC _ (PC _ (PC _ (PO _ _ _)))))).sub (TC _ (TR _)),rfl⟩
  have m8:=h3;refine AH (NX (rr (sd (dlb 47 0 0 b3 (vS a6 vs.length a7)) (sp 1 [(48,vI ((Y.tracks.getD (0) []).getD (k) 0))] (sS (sbs 49 3 1 #[vI ((Y.tracks.getD (0) []).getD (k) 0)] (fun d3=>(sS (sbs 50 23 1 #[vS (some ⟨d3,0,none⟩) 1 1] (fun p8=>(pm (M':=((bX p8 #[vS (some ⟨d3,0,none⟩) 1 1] 23)::(bX b3 #[vS a6 vs.length a7] 24)::(bX b1 #[vS a0 Y.cars.length a1,vS a4 Y.room.length a5,vS a2 Y.tracks.length a3] 26)::([(bX d3 #[vI ((Y.tracks.getD (0) []).getD (k) 0)] 3)]++(bM++(eM++F))))) (PC _ ((PS _ _ _).trans (PC _ (PS _ _ _)))) ?_)))))))))));have n1:Own 3 1 BA (vS (some ⟨d3,0,none⟩) 1 1) ([((Y.tracks.getD (0) []).getD (k) 0:Int)]:List Int) [(bX d3 #[vI ((Y.tracks.getD (0) []).getD (k) 0)] 3)]:=Own.lit rfl rfl;refine sS (AN (d:=51) (x:=(.tmp 47)) (y:=(.tmp 50)) (T:=24) (T':=24) (E:=23) (E':=23) (sz:=1) (bs:=24) (z:=vN) (cell:=AO) (xs:=vs) (ys:=[(vS (some ⟨d3,0,none⟩) 1 1:Value)]) (Ms:=bM) (ty:=24) (gd:=none) (by kernel_rfl) rfl (by kernel_rfl) (by kernel_rfl) (by kernel_rfl) (by kernel_rfl) (by kernel_rfl) (by decide) (by kernel_rfl) rfl rfl (bo) (PU (PU (PU (PO _ _ _)))) (FD rfl) (CI 0 rfl rfl) (by first | omega | (simp only [LC,LN,LA,LK,LD];omega)) (fun x0 e7 h9=>(AR (M':=((bX b3 #[vS a6 vs.length a7] 24)::(bX b1 #[vS a0 Y.cars.length a1,vS a4 Y.room.length a5,vS a2 Y.tracks.length a3] 26)::(e7++([(bX d3 #[vI ((Y.tracks.getD (0) []).getD (k) 0)] 3)]++(eM++F))))) (fun w h=>(h.perm (PW (PW PM))).sub (TC _ (TR _))) ?_)));obtain ⟨g0,g2,n7,q8⟩:=h9.shape;subst n7;have f1:=OwnEach.snoc h5 n1;obtain ⟨eM20,heM20_d⟩:∃ X,X=eM++[(bX d3 #[vI ((Y.tracks.getD (0) []).getD (k) 0)] 3)]:=⟨_,rfl⟩;rw [← heM20_d] at f1;refine AR (I':=I) (M':=((eM20++(bX b3 #[vS a6 vs.length a7] 24)::(bX b1 #[vS a0 Y.cars.length a1,vS a4 Y.room.length a5,vS a2 Y.tracks.length a3] 26)::(e7++F)))) (fun w h=>?_) ?_
  ·have h2:=h.perm ((PU (PU (PV (PO _ _ _)))).trans (PA _ (PU (PU (PO _ _ _)))));simp only [← AA] at h2;have h3:=St.permL (A':=eM20) (A:=eM++[(bX d3 #[vI ((Y.tracks.getD (0) []).getD (k) 0)] 3)]) (by simpa only [AA,List.append_nil] using (heM20_d▸PR _)) (by simpa only [AA] using h2)
   simpa only [AA] using h3
  refine pm (M':=((bX b3 #[vS a6 vs.length a7] 24)::(bX b1 #[vS a0 Y.cars.length a1,vS a4 Y.room.length a5,vS a2 Y.tracks.length a3] 26)::(eM20++(e7++F)))) (PW PM) (sS (ss 0 0 b3 [vS g0 (vs++([(vS (some ⟨d3,0,none⟩) 1 1:Value)])).length g2] [vS g0 (vs++([(vS (some ⟨d3,0,none⟩) 1 1:Value)])).length g2] (_::_::_) (cs:=[_]) rfl rfl (ee (NB (NX (rr (sd (da 52 (↑k) (1)) (sp 1 [(23,vI (↑k+1))] (ee ?_)))))))));refine AG ((Y.tracks.getD (0) []).length-(k+1)) (by omega) ?_;intro a w hS hD hW;exact ⟨k+1,(vS g0 (vs++([(vS (some ⟨d3,0,none⟩) 1 1:Value)])).length g2),vs++([(vS (some ⟨d3,0,none⟩) 1 1:Value)]),e7,eM20,by omega,h9,(by rw [blocksTo_no h3];exact f1),hS.sub (.consE 23 rfl rfl (.cons 1 rfl (.cons 2 rfl (.cons 3 rfl (.cons 4 rfl (.cons 6 rfl (.cons 7 rfl (.cons 21 rfl (.cons 22 rfl (.nil _)))))))))),hD,hW.perm (PC _ (PC _ (PO _ _ _))),rfl⟩
 have m7:=h2;have h2:=BX h2;refine CC 0 ((EP (EP (EB (NX (rq ?_))))));have q4:k=(Y.tracks.getD (0) []).length:=by omega
 rw [show BF Y.cars (Y.tracks.getD (0) []) k=blocksOf Y.cars (Y.tracks.getD (0) []) from by rw [q4];rfl] at h5;refine NY (B:=((bX b3 #[vS a6 vs.length a7] 24)::(bX b1 #[vS a0 Y.cars.length a1,vS a4 Y.room.length a5,vS a2 Y.tracks.length a3] 26)::(bM++F))) h5 (by intro xs hx;have:=p0 xs hx;omega) (PU (PU (PO _ _ _))) (PR _) (fun t9 d2 c8=>?_);replace a8:=a8.mono d2;replace a9:=a9.mono d2;replace b0:=b0.mono d2;have d6:=c8.1
 try simp only [LS,LA,LC,LN,LK] at d6
 refine rr (sS (sal 10 24 #[vN] (fun c2=>(sn (sS (sal 11 132 #[.nilFunc] (fun d4=>(sn (sp 1 [(53,.func (.func 101) #[] #[vP b3 0,vP c2 0,vP d4 0])] (sS (ss 0 0 d4 [.func (.func 101) #[] #[vP b3 0,vP c2 0,vP d4 0]] [.func (.func 101) #[] #[vP b3 0,vP c2 0,vP d4 0]] (_::_::_::_::_) (cs:=[_]) rfl rfl (se (rq ?_)))))))))))));refine HC (B:=((bX d4 #[.func (.func 101) #[] #[vP b3 0,vP c2 0,vP d4 0]] 132)::(bX c2 #[vN] 24)::(bX b3 #[vS a6 vs.length a7] 24)::(bX b1 #[vS a0 Y.cars.length a1,vS a4 Y.room.length a5,vS a2 Y.tracks.length a3] 26)::F)) undef bo (by first | omega | (simp only [LS,LC,LN,LA,LK,LD] <;> omega) | decide) (PU (PU (PU (PM.symm)))) (PR _) (fun u1 c5 e0=>?_);replace a8:=a8.mono c5;replace a9:=a9.mono c5;replace b0:=b0.mono c5;replace c8:=c8.mono c5;obtain ⟨l1,l3,l2,l6,f6,l4,l5,l7⟩:=id e0;cases f6;have b2:=c8.isRows e0;have g7:=c8.1;obtain ⟨j5,j7,j6,k0,i6,f4,j8,j9,k1,k2⟩:=id b2
 injection f4 with fr31_e1 fr31_e2 fr31_e3;subst fr31_e1;subst fr31_e3
 refine MG (b:=b3) (o:=Obj.cells #[vS a6 vs.length a7] 24 (0,0)) (M0:=((bX d4 #[.func (.func 101) #[] #[vP b3 0,vP c2 0,vP d4 0]] 132)::(bX c2 #[vN] 24)::(bX b1 #[vS a0 Y.cars.length a1,vS a4 Y.room.length a5,vS a2 Y.tracks.length a3] 26)::F)) ((PC _ (PS _ _ _)).trans (PS _ _ _)) (fun u2 c6 b4=>?_);replace a8:=a8.mono c6;replace a9:=a9.mono c6;replace b0:=b0.mono c6;replace b2:=b2.mono c6;refine MG (b:=d4) (o:=Obj.cells #[.func (.func 101) #[] #[vP b3 0,vP c2 0,vP d4 0]] 132 (0,0)) (M0:=((bX c2 #[vN] 24)::(bX b1 #[vS a0 Y.cars.length a1,vS a4 Y.room.length a5,vS a2 Y.tracks.length a3] 26)::F)) (PR _) (fun p5 c0 b5=>?_);replace a8:=a8.mono c0;replace a9:=a9.mono c0;replace b0:=b0.mono c0;replace b2:=b2.mono c0;replace b4:=c0.blk _ _ b4;refine rr (sd (BM (v:=.func (.func 101) #[] #[vP b3 0,vP c2 0,vP d4 0]) (x:=(.tmp 11)) (T:=132) (d:=54) (ty:=132) (gd:=none) (by kernel_rfl) rfl (by kernel_rfl) rfl (BE b5 rfl)) (sS (IZ (d:=55) (T:=133) (ty:=133) (gd:=none) (by kernel_rfl) rfl (fun f3=>?_))));have g9:=grow_all (blocksOf Y.cars (Y.tracks.getD (0) [])).length p5 (vN) [] f3 #[] 0 [] b3 c2 d4 _ (blocksOf Y.cars (Y.tracks.getD (0) [])) (vN) [] [] [] b4 b5 b2 (IsSl.nil _) (MapIs.nil _) (Own.nil _ _ _) (RowsV.nil _) (by simp) q5 p0 (by simp) (by simp only [LN];omega);refine sS (KL (d:=(some 56)) (f:=(.tmp 54)) (fid:=101) (args:=#[(.const (vN)),(.tmp 55)]) (tys:=#[23,133]) (cv:=[vP b3 0,vP c2 0,vP d4 0]) (F:=((bX b1 #[vS a0 Y.cars.length a1,vS a4 Y.room.length a5,vS a2 Y.tracks.length a3] 26)::F)) (ty:=0) (gd:=none) (by kernel_rfl) rfl rfl rfl (by kernel_rfl) rfl g9 (by simpa only [AA,CA,NA] using (PR _)) (fun r6 u3 r3 c1 n2=>?_));obtain ⟨g5,g4,u6,c9,o7,rfl,i8,q2,o8,g6⟩:=n2;replace a8:=a8.mono c1;replace a9:=a9.mono c1;replace b0:=b0.mono c1;replace b4:=c1.blk _ _ b4;replace b5:=c1.blk _ _ b5;rw [i8];clear i8;obtain ⟨d0,d1,m5,q3⟩:=o8.shape;subst m5;have e9:=g6.1
 try simp only [LS,LA,LC,LN,LK] at e9
 rw [NA] at g6;refine AR (M':=((f3,Obj.map g5 g4)::(bX c2 #[vS d0 c9.length d1] 24)::(o7++(bX b1 #[vS a0 Y.cars.length a1,vS a4 Y.room.length a5,vS a2 Y.tracks.length a3] 26)::F))) (fun w h=>by simpa only [AA,CA,NA] using h) (pm (M':=((f3,Obj.map g5 g4)::(bX c2 #[vS d0 c9.length d1] 24)::(bX b1 #[vS a0 Y.cars.length a1,vS a4 Y.room.length a5,vS a2 Y.tracks.length a3] 26)::(o7++F))) (PC _ (PC _ PM)) ?_);show Seq _ _ _ _ _ _ ((56,.tuple #[])::_) _ _;refine sn (sd (dlb 57 1 0 c2 (vS d0 c9.length d1)) (sp 1 [(58,.func (.func 104) #[] #[vP b1 0])] (sfz (A:=((f3,Obj.map g5 g4)::(bX c2 #[vS d0 c9.length d1] 24)::(bX b1 #[vS a0 Y.cars.length a1,vS a4 Y.room.length a5,vS a2 Y.tracks.length a3] 26)::F)) undef o8 (PU (PU (PM.symm))) (fun u4 b6 e1=>?_))));replace a8:=a8.mono b6;replace a9:=a9.mono b6;replace b0:=b0.mono b6;replace b4:=b6.blk _ _ b4;replace b5:=b6.blk _ _ b5;replace g6:=g6.mono b6;obtain ⟨l8,m0,l9,m3,f7,m1,m2,m4⟩:=id e1;cases f7;have c4:=g6.isRows e1;have g8:=g6.1;obtain ⟨k3,k5,k4,k8,i7,f5,k6,k7,k9,l0⟩:=id c4
 injection f5 with fr49_e1 fr49_e2 fr49_e3;subst fr49_e1;subst fr49_e3
 refine HE (b:=b1) (o:=Obj.cells #[vS a0 Y.cars.length a1,vS a4 Y.room.length a5,vS a2 Y.tracks.length a3] 26 (0,0)) (M0:=((f3,Obj.map g5 g4)::(bX c2 #[vS d0 c9.length d1] 24)::F)) ((PC _ (PS _ _ _)).trans (PS _ _ _)) (fun p6 b7 d5=>?_);replace a8:=a8.mono b7;replace a9:=a9.mono b7;replace b0:=b0.mono b7;replace b4:=b7.blk _ _ b4;replace b5:=b7.blk _ _ b5;replace c4:=c4.mono b7;have h0:=least_ct p6 _ (EH (blocksOf Y.cars (Y.tracks.getD (0) [])) (blocksOf Y.cars (Y.tracks.getD (0) [])).length [] []) b1 _ _ _ Y d5 a8 a9 b0 c4 i9 (by omega) j0;refine sS (KL (d:=(some 59)) (f:=(.func 103)) (fid:=103) (args:=#[(.tmp 57),(.tmp 58),(.func 106)]) (tys:=#[24,137,138]) (cv:=[]) (F:=((f3,Obj.map g5 g4)::(bX c2 #[vS d0 c9.length d1] 24)::F)) (ty:=23) (gd:=none) (by kernel_rfl) rfl rfl rfl (by kernel_rfl) rfl h0 (PR _) (fun r7 p7 r4 b8 n3=>?_));obtain ⟨i8,e4⟩:=n3;replace a8:=a8.mono b8;replace a9:=a9.mono b8;replace b0:=b0.mono b8;replace b4:=b8.blk _ _ b4;replace b5:=b8.blk _ _ b5;replace d5:=b8.blk _ _ d5;subst i8;obtain ⟨d7,d8,r9,s2,n9,s0,s1,s3⟩:=id e4;subst n9;refine nm ?_;show Seq _ _ _ _ _ _ ((59,vS d7 (OS (EY Y.cars) ((EH (blocksOf Y.cars (Y.tracks.getD (0) [])) (blocksOf Y.cars (Y.tracks.getD (0) [])).length [] []).drop 1) ((EH (blocksOf Y.cars (Y.tracks.getD (0) [])) (blocksOf Y.cars (Y.tracks.getD (0) [])).length [] []).getD 0 [])).length d8)::_) _ _;refine sp 1 [(2,vS d7 (OS (EY Y.cars) ((EH (blocksOf Y.cars (Y.tracks.getD (0) [])) (blocksOf Y.cars (Y.tracks.getD (0) [])).length [] []).drop 1) ((EH (blocksOf Y.cars (Y.tracks.getD (0) [])) (blocksOf Y.cars (Y.tracks.getD (0) [])).length [] []).getD 0 [])).length d8)] (sn (sp 1 [(60,vS d7 (OS (EY Y.cars) ((EH (blocksOf Y.cars (Y.tracks.getD (0) [])) (blocksOf Y.cars (Y.tracks.getD (0) [])).length [] []).drop 1) ((EH (blocksOf Y.cars (Y.tracks.getD (0) [])) (blocksOf Y.cars (Y.tracks.getD (0) [])).length [] []).getD 0 [])).length d8)] (sd (DS (x:=(.tmp 1)) (T:=26) (n:=3) (vs:=[vS a0 Y.cars.length a1,vS a4 Y.room.length a5,vS a2 Y.tracks.length a3]) (d:=61) (ty:=26) (gd:=none) (by kernel_rfl) rfl (by kernel_rfl) (by kernel_rfl) rfl rfl (OY (n:=3) d5 rfl)) (sp 1 [(62,vS d7 (OS (EY Y.cars) ((EH (blocksOf Y.cars (Y.tracks.getD (0) [])) (blocksOf Y.cars (Y.tracks.getD (0) [])).length [] []).drop 1) ((EH (blocksOf Y.cars (Y.tracks.getD (0) [])) (blocksOf Y.cars (Y.tracks.getD (0) [])).length [] []).getD 0 [])).length d8)] ?_))));have v3:=j0 _ (minF_in (f:=EY Y.cars) i9);have h4:=cold_ct p7 _ (Y) _ _ (BS a8 a9 b0) e4 (by exact (j0 _ (minF_in (f:=EY Y.cars) i9)).1) (by exact (j0 _ (minF_in (f:=EY Y.cars) i9)).2);refine sS (sc (some 63) (h4 :) (.refl _) (fun r8 u5 r5 c7 n4=>?_));obtain ⟨v8,j1,i0,h7,n8⟩:=n4;rw [i0,h7];clear i0 h7;replace b4:=c7.blk _ _ b4;replace b5:=c7.blk _ _ b5;replace d5:=c7.blk _ _ d5;replace e4:=e4.mono c7;obtain ⟨p1,p2,i4,p3⟩:=n8.shape;subst i4;refine pm (M':=((f3,Obj.map g5 g4)::(bX c2 #[vS d0 c9.length d1] 24)::(j1++F))) (PW PM) (sp 4 [(4,vI (0)),(3,vI (↑((FZ Y.cars (OS (EY Y.cars) ((EH (blocksOf Y.cars (Y.tracks.getD (0) [])) (blocksOf Y.cars (Y.tracks.getD (0) [])).length [] []).drop 1) ((EH (blocksOf Y.cars (Y.tracks.getD (0) [])) (blocksOf Y.cars (Y.tracks.getD (0) [])).length [] []).getD 0 []))).length))),(2,vS d7 (OS (EY Y.cars) ((EH (blocksOf Y.cars (Y.tracks.getD (0) [])) (blocksOf Y.cars (Y.tracks.getD (0) [])).length [] []).drop 1) ((EH (blocksOf Y.cars (Y.tracks.getD (0) [])) (blocksOf Y.cars (Y.tracks.getD (0) [])).length [] []).getD 0 [])).length d8)] (se (BO (JK (t:=2) (u:=3) (r:=4) [] (by kernel_rfl) rfl rfl rfl (TC _ (TC _ (TT (TR _) (TB _ _)))) (IT (IT (IT (IT (IT (IT (IT (IT d2 c5) c6) c0) c1) b6) b7) b8) c7) ?_))));exact ⟨_,(congrArg (fun p:List Int × Int × Int=>Value.tuple #[vS d7 p.1.length d8,vI p.2.1,vI p.2.2]) (warmE_ok n5).symm),rfl,((show OS (EY Y.cars) ((EH (blocksOf Y.cars (Y.tracks.getD (0) [])) (blocksOf Y.cars (Y.tracks.getD (0) [])).length [] []).drop 1) ((EH (blocksOf Y.cars (Y.tracks.getD (0) [])) (blocksOf Y.cars (Y.tracks.getD (0) [])).length [] []).getD 0 [])=(ND Y).1 from (congrArg Prod.fst (warmE_ok n5)).symm)▸e4)⟩
end Go.Proofs.YtcaocbhbofejnaaGreatDoor
namespace Go.Sl
open Go
section
variable {P:Program} {N:Nat} {ops:Array Oper} {i:Nat} {l:Sl} {I:Imm} {M:Seg} {ty:TypeId} {gd:Option (Nat × Bool)} {K:Sl→Imm→Seg→Prop} {κ:Type} [DecidableEq κ] {enc:κ→Value}
theorem stp_insert {x y u : Operand} {T kt et r cl : Nat} {es : Array MapEntry} {kvs : List (κ × Value)} {k : κ} {v : Value} (n : Nat) (hop : GL ops N i = some (none, .insert T x y u, ty, gd)) (hg : FR ops l gd = some true)
    (hT:tyMap P T=some (kt,et)) (hK:KeyOk P kt enc) (hx:CU l x=some (.map (some r))) (hy:CU l y=some (enc k)) (hu:CU l u=some v) (hn:M[n]?=some (r,Obj.map es cl)) (his:MapIs enc es kvs)
    (h:∀ es' cl',MapIs enc es' (upd k v kvs)→K l I (M.set n (r,Obj.map es' cl'))):Stp P N ops i l I M K:=
  FG hop hg (known3 hx hy hu) (by
    show wpL P (Instr.mapUpdate T (rho l x) (rho l y) (rho l u) >>= fun _=>pure Next.skip) _ I M
    rw [BN hx,BN hy,BN hu,AC]
    unfold Instr.mapUpdate
    rw [AC,AF (KB hT)]
    show wpL P (Sem.getObj r _) _ I M
    refine ⟨_,.inl (List.mem_of_getElem? hn),rfl,?_⟩
    show wpL P (Instr.checkKey _ _ _ _ >>= _) _ I _
    rw [AC]
    refine hK.check _ _ _ _ _ ?_
    rw [AC]
    refine hK.find k es.toList kvs _ _ _ his ?_
    have hf:=ON k v kvs 0
    cases hkv:HZ k kvs 0 with
    | none=>
      rw [hkv] at hf
      simp only at hf
      show wpL P (Sem.setObj r _ _) _ I M
      refine IF n rfl hn rfl ?_
      refine ⟨undef,.inr ⟨rfl,rfl⟩,h _ _ ?_⟩
      rw [hf.1]
      exact mapIs_push his k v cl
    | some p=>
      obtain ⟨j,w⟩:=p
      rw [hkv] at hf
      simp only [Nat.sub_zero] at hf
      obtain ⟨_,h1,_,h2⟩:=hf
      have hold:((es[j]?).map (·.key)).getD (enc k)=enc k:=by
        have:=congrArg (fun l=>(l[j]?).map Prod.fst) his
        simp only [List.getElem?_map,Array.getElem?_toList,Option.map_map] at this
        cases he:es[j]? with
        | none=>rfl
        | some e=>
          rw [he] at this
          cases hq:kvs[j]? with
          | none=>rw [hq] at this;simp at this
          | some q=>
            rw [hq] at this h2
            simp [entOf] at this h2
            simp [this,h2]
      have key:∀ key,key=enc k→wpL P (Sem.setObj r (.map (es.modify j fun e=>{ e with key,val:=v }) cl) (Sem.pure ())) (fun _ M'=>wpL P (pure Next.skip) (fun n M'=>∃ v,(n=.value v∨(n=.skip∧v=undef))∧K (ups none v l) I M') I M') I M:=fun key hkey=>by
        refine IF n rfl hn rfl ?_
        refine ⟨undef,.inr ⟨rfl,rfl⟩,h _ _ ?_⟩
        rw [h1]
        exact mapIs_set his j k v key hkey
      show wpL P (Instr.keyThatStays (((es[j]?).map (·.key)).getD (enc k)) (enc k) >>= _) _ I M
      rw [AC,hold]
      unfold Instr.keyThatStays
      split
      · exact key _ rfl
      · rw [AC]
        show (if (Question.extern "map.whichKeyStays" 2).forced then _ else ∀ t,_)
        split
        · refine key _ ?_;split <;> rfl
        · intro t;refine key _ ?_;split <;> rfl)
end
theorem decI_t {p:Prop} {i:Decidable p} (h:@decide p i=true):p:=of_decide_eq_true h
theorem decI_f {p:Prop} {i:Decidable p} (h:@decide p i=false):¬ p:=of_decide_eq_false h
def NoR:Imm→Seg→Prop:=fun _ M=>M=[]
end Go.Sl
namespace Go.Sh
open Go Go.Sl
def YardH (T:TypeId) (I:Imm) (v:Value) (Y:Yard):Prop:=
  ∃ b v1 v2 v3,v=.pointer (some ⟨b,0,none⟩)∧I.blk b=some (Obj.cells #[v1,v2,v3] T (0,0))∧EZ I v1 Y.cars∧BK I v2 Y.room∧IsRows I v3 Y.tracks
theorem YardH.mono {T:TypeId} {I J:Imm} {v:Value} {Y:Yard} (h:YardH T I v Y) (le:I.le J):YardH T J v Y:=by
  obtain ⟨b,v1,v2,v3,h1,h2,h3,h4,h5⟩:=h;exact ⟨b,v1,v2,v3,h1,le.blk _ _ h2,h3.mono le,h4.mono le,h5.mono le⟩
def YardsH (T:TypeId) (I:Imm) (vs:List Value) (zs:List Yard):Prop:=vs.length=zs.length∧∀ i,i<zs.length→YardH T I (vs.getD i undef) (zs.getD i AP)
theorem YardsH.mono {T:TypeId} {I J:Imm} {vs:List Value} {zs:List Yard} (h:YardsH T I vs zs) (le:I.le J):YardsH T J vs zs:=⟨h.1,fun i hi=>(h.2 i hi).mono le⟩
theorem YardsH.nil (T:TypeId) (I:Imm):YardsH T I [] []:=⟨rfl,fun i hi=>by simp at hi⟩
theorem YardsH.snoc {T:TypeId} {I:Imm} {vs:List Value} {zs:List Yard} (h:YardsH T I vs zs) {v:Value} {Z:Yard} (hz:YardH T I v Z):YardsH T I (vs++[v]) (zs++[Z]):=by
  refine ⟨by simp [h.1],fun i hi=>?_⟩;have hl:=h.1
  by_cases e:i<zs.length
  · have:=h.2 i e
    simp only [List.getD] at this ⊢;rw [List.getElem?_append_left (by omega),List.getElem?_append_left e];exact this
  · simp only [List.length_append,List.length_cons,List.length_nil] at hi
    have e2:i=zs.length:=by omega
    subst e2;simp only [List.getD];rw [List.getElem?_append_right (by omega),List.getElem?_append_right (by omega),hl]
    simpa using hz
theorem YardH.mk {T : TypeId} {I : Imm} {b : Nat} {v1 v2 v3 : Value} {Y : Yard} (h2 : I.blk b = some (Obj.cells #[v1, v2, v3] T (0, 0))) (h3 : EZ I v1 Y.cars) (h4 : BK I v2 Y.room) (h5 : IsRows I v3 Y.tracks) :
    YardH T I (.pointer (some ⟨b,0,none⟩)) Y:=⟨b,v1,v2,v3,rfl,h2,h3,h4,h5⟩
structure VisOk (A:Yard) (s:List Place × List Yard):Prop where
  met:∃ m:List Yard,s.1=m.map BC∧(∀ y∈m,Kin A y)∧(m.map Yard.tracks).Nodup
  kin:∀ y∈s.2,Kin A y
  le:s.2.length≤s.1.length
theorem VisOk.count {A:Yard} {s:List Place × List Yard} (h:VisOk A s) (f:Fine A):s.1.length≤5000∧s.2.length≤5000:=by
  obtain ⟨m,e,hk,hn⟩:=h.met;have hs:m.map Yard.tracks ⊆ allCuts A.tracks.length 5 A.tracks.flatten:=fun t ht=>by
    obtain ⟨y,hy,rfl⟩:=List.mem_map.1 ht;exact kin_mem f (hk y hy) f.sum
  have:=hn.length_le_of_subset hs;rw [List.length_map,allCuts_length] at this;have hf:fact A.tracks.flatten.length≤120:=by
    match A.tracks.flatten.length,f.sum with
    | 0,_ | 1,_ | 2,_ | 3,_ | 4,_ | 5,_=>decide
  have h2:fact A.tracks.flatten.length*((5+1)*(5+1))≤120*36:=Nat.mul_le_mul_right 36 hf;have h3:s.1.length=m.length:=by rw [e,List.length_map]
  have:=h.le;omega
theorem VisOk.visit {A:Yard} {s:List Place × List Yard} {z:Yard} (h:VisOk A s) (f:Fine A) (hz:Kin A z):VisOk A (visit s z):=by
  obtain ⟨m,e,hk,hn⟩:=h.met;have hle:=h.le;unfold Go.Sh.visit
  split
  · exact h
  · rename_i hm
    refine ⟨⟨m++[z],by simp [e],fun y hy=>?_,?_⟩,fun y hy=>?_,by simp only [List.length_append,List.length_cons,List.length_nil];omega⟩
    · rcases List.mem_append.1 hy with hy | hy
      · exact hk y hy
      · simp at hy;subst hy;exact hz
    · rw [List.map_append]
      refine List.nodup_append.2 ⟨hn,by simp,fun a ha b hb=>?_⟩;simp at hb;subst hb;intro e2;obtain ⟨y,hy,rfl⟩:=List.mem_map.1 ha;have:=kin_tracks (hk y hy) hz e2;subst this;exact hm (e▸List.mem_map_of_mem hy)
    · rcases List.mem_append.1 hy with hy | hy
      · exact h.kin y hy
      · simp at hy;subst hy;exact hz
theorem VisOk.visitAll {A:Yard} (f:Fine A):∀ (zs:List Yard) (s:List Place × List Yard),VisOk A s→(∀ z∈zs,Kin A z)→VisOk A (visitAll zs s):=by
  intro zs
  induction zs with
  | nil=>intro s h _;exact h
  | cons z r ih=>intro s h hk;exact ih _ (h.visit f (hk z List.mem_cons_self)) (fun y hy=>hk y (List.mem_cons_of_mem _ hy))
theorem VisOk.fresh {A:Yard} {s:List Place × List Yard} (h:VisOk A s):VisOk A (s.1,[]):=⟨h.met,fun y hy=>by simp at hy,Nat.zero_le _⟩
theorem VisOk.start (A:Yard):VisOk A ([BC A],[A]):=⟨⟨[A],rfl,fun y hy=>by simp at hy;subst hy;exact Kin.refl _,by simp⟩,fun y hy=>by simp at hy;subst hy;exact Kin.refl _,by simp⟩
def visJ (met:List Place) (now:List Yard) (j:Nat):List Place × List Yard:=visitAll ((now.take j).flatMap nexts) (met,[])
theorem visJ_zero (met:List Place) (now:List Yard):visJ met now 0=(met,[]):=by simp [visJ,visitAll]
theorem visJ_succ {met:List Place} {now:List Yard} {j:Nat} (h:j<now.length):visJ met now (j+1)=visitAll (nexts (now.getD j AP)) (visJ met now j):=by
  unfold visJ;rw [CF (d:=AP) h,List.flatMap_append,LV];simp
theorem visJ_done {met:List Place} {now:List Yard} {j:Nat} (h:now.length≤j):visJ met now j=roundM now met:=by
  unfold visJ roundM;rw [DT h]
def visX (s:List Place × List Yard) (x:Yard) (xs:List Shift):List Place × List Yard:=visitAll (xs.map (moved x)) s
theorem OE (s:List Place × List Yard) (x:Yard) (xs:List Shift) (d:Shift):visX s x (xs++[d])=visit (visX s x xs) (moved x d):=by
  unfold visX;rw [List.map_append,LV];rfl
theorem VisOk.j {A:Yard} (f:Fine A) {met:List Place} {now:List Yard} (h:VisOk A (met,now)) (j:Nat):VisOk A (visJ met now j):=
  VisOk.visitAll f _ _ h.fresh (flat_kin fun y hy=>h.kin y (List.mem_of_mem_take hy))
theorem VisOk.x {A:Yard} (f:Fine A) {s:List Place × List Yard} {x:Yard} (h:VisOk A s) (hx:Kin A x) {xs:List Shift} (hp:xs <+: draws x):VisOk A (visX s x xs):=
  VisOk.visitAll f _ _ h fun y hy=>by
    obtain ⟨d,hd,rfl⟩:=List.mem_map.1 hy;exact hx.moved (GY (hp.subset hd))
theorem VisOk.round {A:Yard} (f:Fine A) {met:List Place} {now:List Yard} (h:VisOk A (met,now)):VisOk A (roundM now met):=VisOk.visitAll f _ _ h.fresh (flat_kin h.kin)
def ML (Y:Yard) (d:Int):Int × Int:=if checkErr Y=0 then (if inB d 0 4 then (reach Y d.toNat,0) else (0,1)) else (0,checkErr Y)
theorem reachE_bad {Y:Yard} {d:Int} (h:checkErr Y≠0):ML Y d=(0,checkErr Y):=if_neg h
theorem reachE_far {Y:Yard} {d:Int} (h:Valid Y) (hd:inB d 0 4=false):ML Y d=(0,1):=(if_pos h).trans (if_neg (by rw [hd];simp))
theorem reachE_ok {Y:Yard} {d:Int} (h:Valid Y) (hd:inB d 0 4=true):ML Y d=(reach Y d.toNat,0):=(if_pos h).trans (if_pos hd)
theorem visit_old {s:List Place × List Yard} {z:Yard} (h:BC z∈s.1):visit s z=s:=if_pos h
theorem visit_new {s:List Place × List Yard} {z:Yard} (h:¬ BC z∈s.1):visit s z=(s.1++[BC z],s.2++[z]):=if_neg h
theorem reach_step {met:List Place} {zs:List Yard} {d k j:Nat} (hk:k<d) (hj:zs.length≤j):PP (d-k) met zs=PP (d-(k+1)) (visJ met zs j).1 (visJ met zs j).2:=by
  rw [visJ_done hj,show d-k=(d-(k+1))+1 by omega];rfl
theorem reach_end {Y:Yard} {met:List Place} {zs:List Yard} {d k:Nat} (h:PP d [BC Y] [Y]=PP (d-k) met zs) (hk:d≤k):reach Y d=(met.length:Int):=by
  unfold reach;rw [h,show d-k=0 by omega];rfl
theorem prefix_left {α:Type} {xs ys:List α} {x:α} (h:(xs++[x]) <+: ys):xs <+: ys:=(List.prefix_append xs [x]).trans h
theorem Kin.lens {A Y:Yard} (f:Fine A) (k:Kin A Y):Y.cars.length≤1000000∧Y.room.length≤1000000∧Y.tracks.length≤1000000:=by
  have:=k.cars5 f;have:=k.len3 f;have:=f.room3;rw [k.room];omega
end Go.Sh
namespace Go.Proofs.YtcaocbhbofejnaaGreatDoor
open Go Go.Sl Go.Sh
set_option maxRecDepth 100000
noncomputable def c_mayh (p:List Nat):Code:=sub (AU Tryz.f92) p
theorem mayh_ct (I:Imm) (y:Nat) (y_1 y_2 y_3:Value) (Y:Yard) (s:Shift) (y_b:I.blk y=some (Obj.cells #[y_1,y_2,y_3] 110 (0,0))) (y_1f:EZ I y_1 Y.cars) (y_2f:BK I y_2 Y.room) (y_3f:IsRows I y_3 Y.tracks) (ho:OkAll Y.cars Y.tracks) (hs:Small Y.cars) (hl:Y.room.length=Y.tracks.length) (hq:∀ t∈Y.tracks,t.length≤1000000):Ct Tryz.prog 92 #[vP y 0,.agg #[vI s.frm,vI s.to,vI s.many]] I ([]) (fun v I' M'=>v=KU (CJ Y s)∧M'=[]):=by
 have a2:=y_1f;obtain ⟨a5,a6,d8,e1,c3,d9,e0,e2⟩:=id a2;subst c3;have c7:=y_2f;obtain ⟨c4,c5,e3,e6,c6,e4,e5,a9⟩:=id c7;subst c6;have c9:=y_3f;obtain ⟨a3,a4,e7,f0,d7,c8,e8,e9,a1,a7⟩:=id c9;subst c8;have a0:(Y.tracks).length=(Y.tracks).length:=rfl;refine fr (args:=[_,_]) (N:=120) Tryz.func92 (fun F=>?_);show Run _ _ (c_mayh []) _ _ [(0,vP y 0),(1,.agg #[vI (s.frm),vI (s.to),vI (s.many)])] _ _;refine rnm (rqr ?_);refine sS (sb 3 52 #[vI (s.frm),vI (s.to),vI (s.many)] (fun b1=>(sp 1 [(4,.nilIface)] (se (rq (rqr (sp 2 [(9,vP y 0)] (sd (BD (x:=(.tmp 9)) (T:=110) (k:=0) (o:=0) (d:=10) (ty:=0) (gd:=none) (by kernel_rfl) rfl (by kernel_rfl) rfl) (sd (BD (x:=(.tmp 10)) (T:=26) (k:=2) (o:=2) (d:=11) (ty:=0) (gd:=none) (by kernel_rfl) rfl (by kernel_rfl) rfl) (sd (BM (v:=vS a3 Y.tracks.length a4) (x:=(.tmp 11)) (T:=24) (d:=12) (ty:=24) (gd:=none) (by kernel_rfl) rfl (by kernel_rfl) rfl (BE y_b rfl)) (sp 2 [(5,vI (↑(Y.tracks.length)))] (se (rb 0 (rq (rqr (sp 1 [(15,vP b1 0)] (sd (dlb 16 0 0 b1 (vI (s.frm))) (sp 1 [(17,vI (↑(Y.tracks.length)))] (sd (dsb 18 (↑(Y.tracks.length)) (1)) (sd (dc 19 (fun I' hI=>(OQ I' (s.frm) (0) ((↑(Y.tracks.length))-1) :))) (sp 2 [(14,.bool (!(inB s.frm 0 ((↑(Y.tracks.length))-1))))] (se (rc 14 rfl (fun h1=>?_) (fun h1=>?_))))))))))))))))))))))))
 ·
  have b6:=h1;have h1:=CL h1;have d0:=LF h1;refine AH (NX ?_);refine run_re 14 rfl (congrArg Value.bool b6) (rct 14 rfl (rqr (sp 3 [(4,.iface 167 (.agg #[vI (3)]))] (se (BO ((RB (RP (AE (t:=4) [] (by kernel_rfl) rfl (TC _ (TR _)) (IR _) ?_)))))))));exact ⟨(show KU 3=_ from congrArg KU (mayErr_1 a0 h1).symm),rfl⟩
 have b6:=h1;have h1:=BW h1;have d0:=inB_t h1;refine rr (sp 1 [(21,vP b1 1)] (sd (dlb 22 0 1 b1 (vI (s.to))) (sp 1 [(23,vI (↑(Y.tracks.length)))] (sd (dsb 24 (↑(Y.tracks.length)) (1)) (sd (dc 25 (fun I' hI=>(OQ I' (s.to) (0) ((↑(Y.tracks.length))-1) :))) (sp 2 [(14,.bool (!(inB s.to 0 ((↑(Y.tracks.length))-1))))] (se (rc 14 rfl (fun h2=>?_) (fun h2=>?_)))))))))
 ·
  have d2:=h2;have h2:=CL h2;have d1:=LF h2;refine rqr (sp 3 [(4,.iface 167 (.agg #[vI (3)]))] (se (BO ((RB (RP (AE (t:=4) [] (by kernel_rfl) rfl (TC _ (TR _)) (IR _) ?_)))))));exact ⟨(show KU 3=_ from congrArg KU (mayErr_2 a0 h1 h2).symm),rfl⟩
 have d2:=h2;have h2:=BW h2;have d1:=inB_t h2;refine rqr (sp 1 [(30,vP b1 0)] (sd (dlb 31 0 0 b1 (vI (s.frm))) (sp 1 [(32,vP b1 1)] (sd (dlb 33 0 1 b1 (vI (s.to))) (sp 2 [(29,.bool (cmp .eql (s.frm) (s.to)))] (se (rc 29 rfl (fun h3=>?_) (fun h3=>?_))))))))
 ·
  have d3:=h3;have h3:=DF h3;refine rqr (sp 3 [(4,.iface 167 (.agg #[vI (4)]))] (se (BO ((RB (RP (AE (t:=4) [] (by kernel_rfl) rfl (TC _ (TR _)) (IR _) ?_)))))));exact ⟨(show KU 4=_ from congrArg KU (mayErr_3 a0 h1 h2 h3).symm),rfl⟩
 have d3:=h3;have h3:=DE h3;refine rqr (sp 1 [(38,vP b1 2)] (sd (dlb 39 0 2 b1 (vI (s.many))) (sp 2 [(37,.bool (cmp .lss (s.many) (1)))] (se (rc 37 rfl (fun h4=>?_) (fun h4=>?_))))))
 ·
  have d4:=h4;have h4:=BZ h4;refine rqr (sp 3 [(4,.iface 167 (.agg #[vI (7)]))] (se (BO ((RB (RP (AE (t:=4) [] (by kernel_rfl) rfl (TC _ (TR _)) (IR _) ?_)))))));exact ⟨(show KU 7=_ from congrArg KU (mayErr_4 a0 h1 h2 (by omega) (by omega)).symm),rfl⟩
 have d4:=h4;have h4:=BX h4;refine rq ?_;refine rd0 12 (ox 1 [(44,vP b1 2)] ?_);refine AB (dlb 45 0 2 b1 (vI (s.many))) (ox 2 [(47,vP y 0)] ?_);refine AB (BD (x:=(.tmp 47)) (T:=110) (k:=0) (o:=0) (d:=48) (ty:=0) (gd:=none) (by kernel_rfl) rfl (by kernel_rfl) rfl) ?_;refine AB (BD (x:=(.tmp 48)) (T:=26) (k:=2) (o:=2) (d:=49) (ty:=0) (gd:=none) (by kernel_rfl) rfl (by kernel_rfl) rfl) ?_;refine AB (BM (v:=vS a3 Y.tracks.length a4) (x:=(.tmp 49)) (T:=24) (d:=50) (ty:=24) (gd:=none) (by kernel_rfl) rfl (by kernel_rfl) rfl (BE y_b rfl)) (ox 1 [(51,vP b1 0)] ?_);refine AB (dlb 52 0 0 b1 (vI (s.frm))) ?_;refine AB (diI 53 1 (s.frm) a1.addr) ?_;have b9:=a7 ((s.frm:Int).toNat) (by omega);obtain ⟨f2,f4,f3,f7,b8,f5,f6,f8⟩:=id b9;rw [b8] at b9;refine AB (BL (dl 54 (CR a1 ((s.frm:Int).toNat) (by omega))) b8) (ox 1 [(55,vI (↑((Y.tracks.getD ((s.frm:Int).toNat) []).length)))] ?_);refine BT (sp 2 [(43,.bool (cmp .gtr (s.many) (↑((Y.tracks.getD ((s.frm:Int).toNat) []).length))))] (se (rc 43 rfl (fun h5=>?_) (fun h5=>?_))))
 ·
  have d5:=h5;have h5:=HU h5;refine rqr (sp 3 [(4,.iface 167 (.agg #[vI (6)]))] (se (BO ((RB (RP (AE (t:=4) [] (by kernel_rfl) rfl (TC _ (TR _)) (IR _) ?_)))))));exact ⟨(show KU 6=_ from congrArg KU (mayErr_5 a0 h1 h2 (by omega) (by omega) h5).symm),rfl⟩
 have d5:=h5;have h5:=HG h5;refine AH (NB (NX (rq ?_)));refine rd0 7 (ox 2 [(60,vP y 0)] ?_);refine AB (BD (x:=(.tmp 60)) (T:=110) (k:=0) (o:=0) (d:=61) (ty:=0) (gd:=none) (by kernel_rfl) rfl (by kernel_rfl) rfl) ?_;refine AB (BD (x:=(.tmp 61)) (T:=26) (k:=2) (o:=2) (d:=62) (ty:=0) (gd:=none) (by kernel_rfl) rfl (by kernel_rfl) rfl) ?_;refine AB (BM (v:=vS a3 Y.tracks.length a4) (x:=(.tmp 62)) (T:=24) (d:=63) (ty:=24) (gd:=none) (by kernel_rfl) rfl (by kernel_rfl) rfl (BE y_b rfl)) (ox 1 [(64,vP b1 0)] ?_);refine AB (dlb 65 0 0 b1 (vI (s.frm))) ?_;refine BT (sd (diI 66 1 (s.frm) a1.addr) ?_);have a8:=a7 ((s.frm:Int).toNat) (by omega);obtain ⟨b2,b3,f9,g2,c0,g0,g1,g3⟩:=id a8;rw [c0] at a8;refine sd (BL (dl 67 (CR a1 ((s.frm:Int).toNat) (by omega))) c0) (sp 1 [(6,vS b2 (Y.tracks.getD ((s.frm:Int).toNat) []).length b3)] (sn (sp 3 [(70,vP b1 2),(69,vI (↑((Y.tracks.getD ((s.frm:Int).toNat) []).length)))] (sd (dlb 71 0 2 b1 (vI (s.many))) (sd (dsb 72 (↑((Y.tracks.getD ((s.frm:Int).toNat) []).length)) (s.many)) (sp 1 [(7,vI ((↑((Y.tracks.getD ((s.frm:Int).toNat) []).length))-s.many))] (se (rq (rq ?_)))))))));refine DQ (fun a w=>Slots 120 [(4,.nilIface),(117,.bool ((CE Y.cars (Y.tracks.getD ((s.frm:Int).toNat) []) ((↑((Y.tracks.getD ((s.frm:Int).toNat) []).length))-s.many))||(cmp .gtr (((lenOf Y.cars ((Y.tracks.getD ((s.frm:Int).toNat) []).drop (((↑((Y.tracks.getD ((s.frm).toNat) []).length):Int)-s.many).toNat))))+((lenOf Y.cars (Y.tracks.getD ((s.to:Int).toNat) [])))) (Y.room.getD ((s.to:Int).toNat) 0))))] a∧a.defers=[]∧St I ((bX b1 #[vI (s.frm),vI (s.to),vI (s.many)] 52)::F) w) ?_ ?_
 ·
  refine rd0 43 (ox 3 [(75,vP y 0),(73,vS b2 (Y.tracks.getD ((s.frm:Int).toNat) []).length b3)] ?_);refine AB (BD (x:=(.tmp 75)) (T:=110) (k:=0) (o:=0) (d:=76) (ty:=0) (gd:=none) (by kernel_rfl) rfl (by kernel_rfl) rfl) ?_;refine AB (BD (x:=(.tmp 76)) (T:=26) (k:=0) (o:=0) (d:=77) (ty:=0) (gd:=none) (by kernel_rfl) rfl (by kernel_rfl) rfl) ?_;refine AB (BM (v:=vS a5 Y.cars.length a6) (x:=(.tmp 77)) (T:=22) (d:=78) (ty:=22) (gd:=none) (by kernel_rfl) rfl (by kernel_rfl) rfl (BE y_b rfl)) (ox 1 [(79,vI ((↑((Y.tracks.getD ((s.frm:Int).toNat) []).length))-s.many))] ?_)
  skip
  refine AB (dc 80 (fun I' hI=>(LZ I' _ _ _ _ ((↑((Y.tracks.getD ((s.frm:Int).toNat) []).length))-s.many) (a8.mono hI) (a2.mono hI) (by exact ho.at s.frm.toNat (by omega)) :))) (ox 1 [(81,.bool (CE Y.cars (Y.tracks.getD ((s.frm:Int).toNat) []) ((↑((Y.tracks.getD ((s.frm:Int).toNat) []).length))-s.many)))] ?_);refine JY 81 (fun h6=>?_) (fun h6=>?_)
  ·
   have d6:=h6;refine ox 34 [(115,undef),(106,undef)] ?_;refine BT (sp 2 [(117,.bool (true))] (ee ?_));refine AL (fun a w hS hD hW=>⟨hS.sub (.cons 4 rfl (.consE 117 rfl (congrArg Value.bool (by simp only [h6,kA,kB,kC,kD,kE,kF,kG,kH,kI,kJ])) (.nil _))),hD,hW⟩)
  have d6:=h6;refine ox 2 [(83,vI ((↑((Y.tracks.getD ((s.frm:Int).toNat) []).length))-s.many)),(82,vS b2 (Y.tracks.getD ((s.frm:Int).toNat) []).length b3)] ?_;have b5:=a8.cutLo (((↑((Y.tracks.getD ((s.frm).toNat) []).length):Int)-s.many).toNat) (by omega);obtain ⟨h8,i0,h9,i3,c2,i1,i2,i4⟩:=id b5;rw [c2] at b5;refine AB (BL (EA (x:=(.tmp 82)) (lo:=(some (.tmp 83))) (hi:=none) (T:=130) (e:=3) (sz:=1) (((↑((Y.tracks.getD ((s.frm).toNat) []).length):Int)-s.many).toNat) ((Y.tracks.getD ((s.frm:Int).toNat) []).length) (d:=84) (ty:=130) (gd:=(some (8,false))) (by kernel_rfl) (by kernel_rfl) (by kernel_rfl) (by kernel_rfl) rfl (.inr ⟨_,.i64,rfl,(MF rfl (by omega))⟩) (.inl ⟨rfl,rfl⟩) (by omega) (by omega)) c2) (ox 2 [(86,vP y 0)] ?_);refine AB (BD (x:=(.tmp 86)) (T:=110) (k:=0) (o:=0) (d:=87) (ty:=0) (gd:=(some (8,false))) (by kernel_rfl) (by kernel_rfl) (by kernel_rfl) rfl) ?_;refine AB (BD (x:=(.tmp 87)) (T:=26) (k:=0) (o:=0) (d:=88) (ty:=0) (gd:=(some (8,false))) (by kernel_rfl) (by kernel_rfl) (by kernel_rfl) rfl) ?_;refine AB (BM (v:=vS a5 Y.cars.length a6) (x:=(.tmp 88)) (T:=22) (d:=89) (ty:=22) (gd:=(some (8,false))) (by kernel_rfl) (by kernel_rfl) (by kernel_rfl) rfl (BE y_b rfl)) ?_;refine AB (dc 90 (fun I' hI=>(long_ct I' _ _ _ _ (b5.mono hI) (a2.mono hI) (by exact (ho.at s.frm.toNat (by omega)).drop _) (by assumption) :))) (ox 2 [(92,vP y 0)] ?_);refine AB (BD (x:=(.tmp 92)) (T:=110) (k:=0) (o:=0) (d:=93) (ty:=0) (gd:=(some (8,false))) (by kernel_rfl) (by kernel_rfl) (by kernel_rfl) rfl) ?_;refine AB (BD (x:=(.tmp 93)) (T:=26) (k:=2) (o:=2) (d:=94) (ty:=0) (gd:=(some (8,false))) (by kernel_rfl) (by kernel_rfl) (by kernel_rfl) rfl) ?_;refine AB (BM (v:=vS a3 Y.tracks.length a4) (x:=(.tmp 94)) (T:=24) (d:=95) (ty:=24) (gd:=(some (8,false))) (by kernel_rfl) (by kernel_rfl) (by kernel_rfl) rfl (BE y_b rfl)) (ox 1 [(96,vP b1 1)] ?_);refine AB (dlb 97 0 1 b1 (vI (s.to))) ?_;refine AB (diI 98 1 (s.to) a1.addr) ?_;have b4:=a7 ((s.to:Int).toNat) (by omega);obtain ⟨g4,g6,g5,g9,c1,g7,g8,h0⟩:=id b4;rw [c1] at b4;refine AB (BL (dl 99 (CR a1 ((s.to:Int).toNat) (by omega))) c1) (ox 2 [(101,vP y 0)] ?_);refine AB (BD (x:=(.tmp 101)) (T:=110) (k:=0) (o:=0) (d:=102) (ty:=0) (gd:=(some (8,false))) (by kernel_rfl) (by kernel_rfl) (by kernel_rfl) rfl) ?_;refine AB (BD (x:=(.tmp 102)) (T:=26) (k:=0) (o:=0) (d:=103) (ty:=0) (gd:=(some (8,false))) (by kernel_rfl) (by kernel_rfl) (by kernel_rfl) rfl) ?_;refine AB (BM (v:=vS a5 Y.cars.length a6) (x:=(.tmp 103)) (T:=22) (d:=104) (ty:=22) (gd:=(some (8,false))) (by kernel_rfl) (by kernel_rfl) (by kernel_rfl) rfl (BE y_b rfl)) ?_;refine AB (dc 105 (fun I' hI=>(long_ct I' _ _ _ _ (b4.mono hI) (a2.mono hI) (by exact ho.at s.to.toNat (by omega)) (by assumption) :))) ?_;refine AB (da 106 ((lenOf Y.cars ((Y.tracks.getD ((s.frm:Int).toNat) []).drop (((↑((Y.tracks.getD ((s.frm).toNat) []).length):Int)-s.many).toNat)))) ((lenOf Y.cars (Y.tracks.getD ((s.to:Int).toNat) []))) (hr:=by have q1:=GI hs ((Y.tracks.getD s.frm.toNat []).drop ((↑((Y.tracks.getD ((s.frm).toNat) []).length):Int)-s.many).toNat);have q2:=GI hs (Y.tracks.getD s.to.toNat []);have q3:=hq _ (AJ (d:=[]) (xs:=Y.tracks) (k:=s.frm.toNat) (by omega));have q4:=hq _ (AJ (d:=[]) (xs:=Y.tracks) (k:=s.to.toNat) (by omega));simp only [LD] at q1;omega)) (ox 2 [(108,vP y 0)] ?_);refine AB (BD (x:=(.tmp 108)) (T:=110) (k:=0) (o:=0) (d:=109) (ty:=0) (gd:=(some (8,false))) (by kernel_rfl) (by kernel_rfl) (by kernel_rfl) rfl) ?_;refine AB (BD (x:=(.tmp 109)) (T:=26) (k:=1) (o:=1) (d:=110) (ty:=0) (gd:=(some (8,false))) (by kernel_rfl) (by kernel_rfl) (by kernel_rfl) rfl) ?_;refine AB (BM (v:=vS c4 Y.room.length c5) (x:=(.tmp 110)) (T:=23) (d:=111) (ty:=23) (gd:=(some (8,false))) (by kernel_rfl) (by kernel_rfl) (by kernel_rfl) rfl (BE y_b rfl)) (ox 1 [(112,vP b1 1)] ?_);refine AB (dlb 113 0 1 b1 (vI (s.to))) ?_;refine AB (diI 114 1 (s.to) a9.addr) ?_;refine AB (dl 115 (BH a9 ((s.to:Int).toNat) (by omega))) ?_;refine BT (sp 2 [(117,.bool (cmp .gtr (((lenOf Y.cars ((Y.tracks.getD ((s.frm:Int).toNat) []).drop (((↑((Y.tracks.getD ((s.frm).toNat) []).length):Int)-s.many).toNat))))+((lenOf Y.cars (Y.tracks.getD ((s.to:Int).toNat) [])))) (Y.room.getD ((s.to:Int).toNat) 0)))] (ee ?_));refine AL (fun a w hS hD hW=>⟨hS.sub (.cons 4 rfl (.consE 117 rfl (congrArg Value.bool (by simp only [h6,kA,kB,kC,kD,kE,kF,kG,kH,kI,kJ])) (.nil _))),hD,hW⟩)
 rintro a w ⟨hS,hD,hW⟩
 refine AX hS hD hW ?_;clear hS hD hW a w;refine rc 117 rfl (fun h7=>?_) (fun h7=>?_)
 ·
  have b0:=h7;refine rqr (sp 3 [(4,.iface 167 (.agg #[vI (9)]))] (se (BO ((RP (AE (t:=4) [] (by kernel_rfl) rfl (TC _ (TR _)) (IR _) ?_))))));exact ⟨(show KU 9=_ from congrArg KU (mayErr_6 a0 h1 h2 (by omega) (by omega) (Int.not_lt.2 h5) b0).symm),rfl⟩
 have b0:=h7;obtain ⟨f1,b7⟩:=or_f h7;have b7:=HG b7;refine AH (NX (rqr (sp 1 [(4,.nilIface)] (se (BO (AE (t:=4) [] (by kernel_rfl) rfl (TC _ (TR _)) (IR _) ?_))))));exact ⟨(show KU 0=_ from congrArg KU (mayErr_7 a0 h1 h2 (by omega) (by omega) (Int.not_lt.2 h5) b0).symm),rfl⟩
noncomputable def c_shifts1h (p:List Nat):Code:=sub (AU Tryz.f135) p
set_option maxHeartbeats 1000000 in
theorem shifts1h_iter (I0:Imm) (y by_ bm:Nat) (y_1 y_2 y_3:Value) (Y:Yard) (hG:Glob I0) (hy:I0.blk by_=some (Obj.cells #[vP y 0] 108 (0,0))) (hm:I0.blk bm=some (Obj.cells #[.func (.func 92) #[] #[]] 164 (0,0))) (y_b:I0.blk y=some (Obj.cells #[y_1,y_2,y_3] 110 (0,0))) (y_1f:EZ I0 y_1 Y.cars) (y_2f:BK I0 y_2 Y.room) (y_3f:IsRows I0 y_3 Y.tracks) (hgood:GoodY Y) (h3:Y.tracks.length≤1000000):IterCt Tryz.prog 135 [vP by_ 0,vP bm 0] encS (draws Y) NoR I0:=by
 intro L Cl Sp hmono hround I Mr M hI0 hR hCl;obtain rfl:Mr=[]:=hR;replace hy:=hI0.blk _ _ hy;replace hm:=hI0.blk _ _ hm;replace y_b:=hI0.blk _ _ y_b;replace y_1f:=y_1f.mono hI0;replace y_2f:=y_2f.mono hI0;replace y_3f:=y_3f.mono hI0;have a0:=y_1f;obtain ⟨d4,d6,d5,d9,b9,d7,d8,e0⟩:=id a0;subst b9;have a1:=y_2f;obtain ⟨e1,e3,e2,e6,c0,e4,e5,e7⟩:=id a1;subst c0;have a2:=y_3f;obtain ⟨a7,a8,e8,f1,c8,c1,e9,f0,a3,a4⟩:=id a2;subst c1;have c2:(Y.tracks).length=(Y.tracks).length:=rfl;refine fr (args:=[_,_,_]) (N:=56) Tryz.func135 (fun F=>?_);show Run _ _ (c_shifts1h []) _ _ [(0,.func (.yield L) #[] #[]),(1,vP by_ 0),(2,vP bm 0)] _ _;refine HY (M':=((M++F))) (fun w h=>by simpa only [AA,CA,NA] using h) (rnm ?_);have g1:=hgood.le;refine rqr (sd (BM (v:=vP y 0) (x:=(.tmp 1)) (T:=108) (d:=8) (ty:=108) (gd:=none) (by kernel_rfl) rfl (by kernel_rfl) rfl (BE hy rfl)) (sp 1 [(9,vP y 0)] (sd (BD (x:=(.tmp 9)) (T:=110) (k:=0) (o:=0) (d:=10) (ty:=0) (gd:=none) (by kernel_rfl) rfl (by kernel_rfl) rfl) (sd (BD (x:=(.tmp 10)) (T:=26) (k:=2) (o:=2) (d:=11) (ty:=0) (gd:=none) (by kernel_rfl) rfl (by kernel_rfl) rfl) (sd (BM (v:=vS a7 Y.tracks.length a8) (x:=(.tmp 11)) (T:=24) (d:=12) (ty:=24) (gd:=none) (by kernel_rfl) rfl (by kernel_rfl) rfl (BE y_b rfl)) (sp 2 [(14,vI (0)),(13,vI (↑(Y.tracks.length)))] (se (rb 0 ?_))))))));refine rl (fun mz a w=>∃ J0:Imm,∃ k:Nat,∃ b7:List Shift,∃ b1:Seg,(I.le J0)∧(k≤Y.tracks.length)∧(b7++JF Y k=draws Y)∧(Cl b7 J0 b1)∧Slots 56 [(14,vI ↑k),(0,.func (.yield L) #[] #[]),(1,vP by_ 0),(2,vP bm 0),(13,vI (↑(Y.tracks.length)))] a∧a.defers=[]∧St J0 ((b1++F)) w∧mz=Y.tracks.length-k) ?_ ?_
 ·intro a w hS hD hW;exact ⟨_,I,0,[],M,IR _,Nat.zero_le _,rfl,hCl,hS.sub (.cons 14 rfl (.cons 0 rfl (.cons 1 rfl (.cons 2 rfl (.cons 13 rfl (.nil _)))))),hD,hW,rfl⟩
 rintro mz a w ⟨J0,k,b7,b1,hJ0,hk,d2,hCl,hS,hD,hW,rfl⟩
 refine AX hS hD hW ?_;clear hS hD hW a w;replace hy:=hJ0.blk _ _ hy;replace hm:=hJ0.blk _ _ hm;replace a0:=a0.mono hJ0;replace a1:=a1.mono hJ0;replace a2:=a2.mono hJ0;replace a3:=a3.mono hJ0;replace a4:=fun i hi=>(a4 i hi).mono hJ0
 replace y_b:=hJ0.blk _ _ y_b;refine rqr (sp 1 [(15,.bool (cmp .lss (↑k) (↑(Y.tracks.length))))] (se (rq (rc 15 rfl (fun h1=>?_) (fun h1=>?_)))))
 ·
  have c4:=h1;have h1:=BZ h1;refine AH (NX (rq (rb 1 (rqr (sp 2 [(4,vI (↑k))] (sn (sd (BM (v:=vP y 0) (x:=(.tmp 1)) (T:=108) (d:=17) (ty:=108) (gd:=none) (by kernel_rfl) rfl (by kernel_rfl) rfl (BE hy rfl)) (sp 1 [(18,vP y 0)] (sd (BD (x:=(.tmp 18)) (T:=110) (k:=0) (o:=0) (d:=19) (ty:=0) (gd:=none) (by kernel_rfl) rfl (by kernel_rfl) rfl) (sd (BD (x:=(.tmp 19)) (T:=26) (k:=2) (o:=2) (d:=20) (ty:=0) (gd:=none) (by kernel_rfl) rfl (by kernel_rfl) rfl) (sd (BM (v:=vS a7 Y.tracks.length a8) (x:=(.tmp 20)) (T:=24) (d:=21) (ty:=24) (gd:=none) (by kernel_rfl) rfl (by kernel_rfl) rfl (BE y_b rfl)) (sp 2 [(23,vI (0)),(22,vI (↑(Y.tracks.length)))] (se (rb 2 ?_))))))))))))));refine rl (fun mz a w=>∃ J1:Imm,∃ t:Nat,∃ b8:List Shift,∃ b3:Seg,(J0.le J1)∧(t≤Y.tracks.length)∧(b8++(IH Y k t++JF Y (k+1))=draws Y)∧(Cl b8 J1 b3)∧Slots 56 [(23,vI ↑t),(0,.func (.yield L) #[] #[]),(1,vP by_ 0),(2,vP bm 0),(4,vI (↑k)),(13,vI (↑(Y.tracks.length))),(14,vI (↑k)),(22,vI (↑(Y.tracks.length)))] a∧a.defers=[]∧St J1 ((b3++F)) w∧mz=Y.tracks.length-t) ?_ ?_
  ·intro a w hS hD hW;exact ⟨_,J0,0,b7,b1,IR _,Nat.zero_le _,by rw [← d2,drawsY_step (Y:=Y) (f:=k) (by omega)],hCl,hS.sub (.cons 23 rfl (.cons 0 rfl (.cons 1 rfl (.cons 2 rfl (.cons 4 rfl (.cons 13 rfl (.cons 14 rfl (.cons 22 rfl (.nil _))))))))),hD,hW,rfl⟩
  rintro mz a w ⟨J1,t,b8,b3,hJ1,ht,d3,hCl,hS,hD,hW,rfl⟩
  refine AX hS hD hW ?_;clear hS hD hW a w;replace hy:=hJ1.blk _ _ hy;replace hm:=hJ1.blk _ _ hm;replace a0:=a0.mono hJ1;replace a1:=a1.mono hJ1;replace a2:=a2.mono hJ1;replace a3:=a3.mono hJ1;replace a4:=fun i hi=>(a4 i hi).mono hJ1
  replace y_b:=hJ1.blk _ _ y_b;refine rqr (sp 1 [(24,.bool (cmp .lss (↑t) (↑(Y.tracks.length))))] (se (rq (rc 24 rfl (fun h2=>?_) (fun h2=>?_)))))
  ·
   have c5:=h2;have h2:=BZ h2;refine AH (NX (rq (rb 3 (rqr (sp 2 [(5,vI (↑t))] (sn (sp 1 [(6,vI (1))] (se (rb 4 ?_)))))))));refine rl (fun mz a w=>∃ J2:Imm,∃ j:Nat,∃ a9:List Shift,∃ b0:Seg,(J1.le J2)∧(j≤(Y.tracks.getD (k) []).length)∧(a9++(FW Y k t j++(IH Y k (t+1)++JF Y (k+1)))=draws Y)∧(Cl a9 J2 b0)∧Slots 56 [(6,vI (↑j+1)),(0,.func (.yield L) #[] #[]),(1,vP by_ 0),(2,vP bm 0),(4,vI (↑k)),(5,vI (↑t)),(13,vI (↑(Y.tracks.length))),(14,vI (↑k)),(22,vI (↑(Y.tracks.length))),(23,vI (↑t))] a∧a.defers=[]∧St J2 ((b0++F)) w∧mz=(Y.tracks.getD (k) []).length-j) ?_ ?_
   ·intro a w hS hD hW;exact ⟨_,J1,0,b8,b3,IR _,Nat.zero_le _,by rw [← d3,drawsF_step (Y:=Y) (f:=k) (t:=t) (by omega),AA],hCl,hS.sub (.cons 6 rfl (.cons 0 rfl (.cons 1 rfl (.cons 2 rfl (.cons 4 rfl (.cons 5 rfl (.cons 13 rfl (.cons 14 rfl (.cons 22 rfl (.cons 23 rfl (.nil _))))))))))),hD,hW,rfl⟩
   rintro mz a w ⟨J2,j,a9,b0,hJ2,hj,c3,hCl,hS,hD,hW,rfl⟩
   refine AX hS hD hW ?_;clear hS hD hW a w;replace hy:=hJ2.blk _ _ hy;replace hm:=hJ2.blk _ _ hm;replace a0:=a0.mono hJ2;replace a1:=a1.mono hJ2;replace a2:=a2.mono hJ2;replace a3:=a3.mono hJ2;replace a4:=fun i hi=>(a4 i hi).mono hJ2
   replace y_b:=hJ2.blk _ _ y_b;refine rq (rqr (sp 1 [(26,vI (↑j+1))] (sd (BM (v:=vP y 0) (x:=(.tmp 1)) (T:=108) (d:=27) (ty:=108) (gd:=none) (by kernel_rfl) rfl (by kernel_rfl) rfl (BE hy rfl)) (sp 1 [(28,vP y 0)] (sd (BD (x:=(.tmp 28)) (T:=110) (k:=0) (o:=0) (d:=29) (ty:=0) (gd:=none) (by kernel_rfl) rfl (by kernel_rfl) rfl) (sd (BD (x:=(.tmp 29)) (T:=26) (k:=2) (o:=2) (d:=30) (ty:=0) (gd:=none) (by kernel_rfl) rfl (by kernel_rfl) rfl) (sd (BM (v:=vS a7 Y.tracks.length a8) (x:=(.tmp 30)) (T:=24) (d:=31) (ty:=24) (gd:=none) (by kernel_rfl) rfl (by kernel_rfl) rfl (BE y_b rfl)) (sp 1 [(32,vI (↑k))] (sd (di 33 1 (k) a3.addr) ?_)))))))));have b6:=a4 (k) (by omega);obtain ⟨f3,f5,f4,f8,b5,f6,f7,f9⟩:=id b6;rw [b5] at b6;refine sd (BL (dl 34 (CR a3 (k) (by omega))) b5) (sp 2 [(36,.bool (cmp .leq (↑j+1) (↑((Y.tracks.getD (k) []).length))))] (se (rc 36 rfl (fun h3=>?_) (fun h3=>?_))))
   ·
    have c6:=h3;have h3:=leq_t h3;refine AH (NX (rq (rb 5 (rqr (sp 4 [(42,.agg #[vI (↑k),vI (↑t),vI (↑j+1)])] (sS (sal 7 52 #[vI (0),vI (0),vI (0)] (fun b2=>(sS (ss 0 0 b2 [vI (↑k),vI (↑t),vI (↑j+1)] [vI (↑k),vI (↑t),vI (↑j+1)] (_::_) (cs:=[_,_,_]) rfl rfl (sn (sd (BM (v:=.func (.func 92) #[] #[]) (x:=(.tmp 2)) (T:=164) (d:=43) (ty:=164) (gd:=none) (by kernel_rfl) rfl (by kernel_rfl) rfl (BE hm rfl)) (sd (BM (v:=vP y 0) (x:=(.tmp 1)) (T:=108) (d:=44) (ty:=108) (gd:=none) (by kernel_rfl) rfl (by kernel_rfl) rfl (BE hy rfl)) (sd (dnb 45 0 0 b2 [vI (↑k),vI (↑t),vI (↑j+1)]) ?_))))))))))))));have b4:=mayh_ct J2 (y) _ _ _ (Y) ((⟨↑k,↑t,↑j+1⟩:Shift)) y_b a0 a1 a2 (by exact hgood.ok) (by exact hgood.small) (by exact hgood.len) (by exact hgood.le);refine sS (sc (some 46) (b4 :) (.refl _) (fun g2 I4 g0 a5 f2=>?_));obtain ⟨d1,c9⟩:=f2;rw [d1,c9];clear d1 c9;replace hy:=a5.blk _ _ hy;replace hm:=a5.blk _ _ hm;replace y_b:=a5.blk _ _ y_b;replace hCl:=hmono _ _ _ _ a5 hCl;refine nm ?_;refine sd (MN (x:=(.tmp 46)) (T:=126) (T':=126) (d:=47) (ty:=4) (gd:=none) (by kernel_rfl) rfl (by kernel_rfl) rfl (isNI_err _)) (sp 1 [(48,.bool (decide ((CJ Y ((⟨↑k,↑t,↑j+1⟩:Shift)))=0)))] ?_);refine AY 48 rfl (fun h4=>?_) (fun h4=>?_)
    ·
     have a6:=h4;have a6:=FT a6;refine sp 1 [(49,.func (.yield L) #[] #[])] (sd (dnb 50 0 0 b2 [vI (↑k),vI (↑t),vI (↑j+1)]) ?_);have d0:CJ Y (mk3 k t (j+1))=0:=a6;have c7:a9++[mk3 k t (j+1)] <+: draws Y:=⟨_,by rw [← c3,KF (by omega) d0];simp;rfl⟩;refine sS (stp_yield (d:=some 51) (f:=(.tmp 49)) (args:=#[.tmp 50]) (tys:=#[52]) (pre:=([]++b0)) (F:=((bX b2 #[vI (↑k),vI (↑t),vI (↑j+1)] 52)::F)) (ty:=4) (gd:=(some (5,true))) (by kernel_rfl) (by kernel_rfl) rfl rfl (hround a9 (mk3 k t (j+1)) _ [] b0 c7 (IT (IT (IT (IT hI0 hJ0) hJ1) hJ2) a5) rfl hCl) (by simpa only [AA,CA,NA] using (PM.symm)) (fun yv IY MY hIY hYP=>?_));rcases hYP with ⟨rfl,Mr4,Mc4,rfl,hR4,hCl4⟩ | ⟨rfl,hSp4⟩
     ·
      obtain rfl:Mr4=[]:=hR4;replace hy:=hIY.blk _ _ hy;replace hm:=hIY.blk _ _ hm;replace y_b:=hIY.blk _ _ y_b;replace hCl:=hmono _ _ _ _ hIY hCl;replace hCl:=hCl4;refine AR (M':=((Mc4++(bX b2 #[vI (↑k),vI (↑t),vI (↑j+1)] 52)::F))) (fun w h=>by simpa only [AA,CA,NA] using h) (pm (M':=((bX b2 #[vI (↑k),vI (↑t),vI (↑j+1)] 52)::(Mc4++F))) PM (sp 2 [(53,.bool (!(true)))] (se (rcf 53 rfl (AH (NB (NX (rr (sp 1 [(37,vI (↑j+1))] (sd (da 38 (↑j+1) (1)) (sp 1 [(6,vI ((↑j+1)+1))] (ee ?_))))))))))));refine AG ((Y.tracks.getD (k) []).length-(j+1)) (by omega) ?_;intro a w hS hD hW;exact ⟨IY,j+1,a9++[mk3 k t (j+1)],Mc4,(IT (IT hJ2 a5) hIY),by omega,by rw [← c3,KF (by omega) d0];simp,hCl,hS.sub (.consE 6 rfl rfl (.cons 0 rfl (.cons 1 rfl (.cons 2 rfl (.cons 4 rfl (.cons 5 rfl (.cons 13 rfl (.cons 14 rfl (.cons 22 rfl (.cons 23 rfl (.nil _))))))))))),hD,(hW.perm (PR _)).sub (TC _ (TR _)),rfl⟩
     replace hy:=hIY.blk _ _ hy;replace hm:=hIY.blk _ _ hm;replace y_b:=hIY.blk _ _ y_b;replace hCl:=hmono _ _ _ _ hIY hCl;refine AR (M':=((MY++(bX b2 #[vI (↑k),vI (↑t),vI (↑j+1)] 52)::F))) (fun w h=>by simpa only [AA,CA,NA] using h) (pm (M':=((bX b2 #[vI (↑k),vI (↑t),vI (↑j+1)] 52)::(MY++F))) PM (sp 2 [(53,.bool (!(false)))] (se (rct 53 rfl (BO ((RB (RP (RP (RB (RB (RP (RP (RB (RB (RP (RP (RB (ppm (M':=((MY++(bX b2 #[vI (↑k),vI (↑t),vI (↑j+1)] 52)::F))) (PM.symm) (pst_ret0 (MY) (by kernel_rfl) (TA (TC _ (TR _)) _) (IT (IT (IT (IT hJ0 hJ1) hJ2) a5) hIY) ?_))))))))))))))))))));exact .inr ⟨_,hSp4⟩
    have a6:=h4;have a6:=GH a6;refine sp 5 [(53,.bool (false))] (se (rcf 53 rfl (AH (NB (NX (rr (sp 1 [(37,vI (↑j+1))] (sd (da 38 (↑j+1) (1)) (sp 1 [(6,vI ((↑j+1)+1))] (ee ?_))))))))));refine AG ((Y.tracks.getD (k) []).length-(j+1)) (by omega) ?_;intro a w hS hD hW;exact ⟨I4,j+1,a9,b0,(IT hJ2 a5),by omega,by rw [← c3,drawsFT_no (by omega) (show CJ Y (mk3 k t (j+1))≠0 from a6)],hCl,hS.sub (.consE 6 rfl rfl (.cons 0 rfl (.cons 1 rfl (.cons 2 rfl (.cons 4 rfl (.cons 5 rfl (.cons 13 rfl (.cons 14 rfl (.cons 22 rfl (.cons 23 rfl (.nil _))))))))))),hD,(hW.perm (PR _)).sub (TC _ (TR _)),rfl⟩
   have c6:=h3;have h3:=leq_f h3;refine CC 4 ((EP (EP (EB (NB (NX (rr (sd (da 54 (↑t) (1)) (sp 1 [(23,vI (↑t+1))] (ee ?_))))))))));refine AG (Y.tracks.length-(t+1)) (by omega) ?_;intro a w hS hD hW;exact ⟨J2,t+1,a9,b0,(IT hJ1 hJ2),by omega,by rw [← c3,PI (Y:=Y) (f:=k) (t:=t) (k:=j) (by omega),NA],hCl,hS.sub (.consE 23 rfl rfl (.cons 0 rfl (.cons 1 rfl (.cons 2 rfl (.cons 4 rfl (.cons 13 rfl (.cons 14 rfl (.cons 22 rfl (.nil _))))))))),hD,hW,rfl⟩
  have c5:=h2;have h2:=BX h2;refine CC 2 ((EP (EP (EB (NB (NX (rr (sd (da 55 (↑k) (1)) (sp 1 [(14,vI (↑k+1))] (ee ?_))))))))));refine AG (Y.tracks.length-(k+1)) (by omega) ?_;intro a w hS hD hW;exact ⟨J1,k+1,b8,b3,(IT hJ0 hJ1),by omega,by rw [← d3,drawsF_done (Y:=Y) (f:=k) (t:=t) (by omega),NA],hCl,hS.sub (.consE 14 rfl rfl (.cons 0 rfl (.cons 1 rfl (.cons 2 rfl (.cons 13 rfl (.nil _)))))),hD,hW,rfl⟩
 have c4:=h1;have h1:=BX h1;refine CC 0 ((EP (EP (EB ?_))));refine NV (b1) (by kernel_rfl) (TA (TR _) _) hJ0 ?_;exact .inl ⟨[],b1,rfl,rfl,(show b7=draws Y by rw [← d2,drawsY_done (Y:=Y) (f:=k) (by omega),List.append_nil])▸hCl⟩
noncomputable def c_Reach (p:List Nat):Code:=sub (AU Tryz.f28) p
set_option maxHeartbeats 2000000 in
theorem Reach_ct (I:Imm) (y:Value) (Y:Yard) (dr:Int) (y_f:IsYard I y Y) (hG:Glob I):Ct Tryz.prog 28 #[y,vI dr] I ([]) (fun v I' M'=>v=.tuple #[vI ((ML Y dr).1),vI ((ML Y dr).2)]∧M'=[]):=by
 obtain ⟨y1,y2,y3,R6,o2,o3,o4⟩:=id y_f;subst R6;obtain ⟨b0,b2,Q0,Q3,G0,Q1,Q2,Q4⟩:=id o2;subst G0;obtain ⟨b3,b4,Q5,Q8,G1,Q6,Q7,Q9⟩:=id o3;subst G1;obtain ⟨b5,b6,R0,R3,K3,G2,R1,R2,R4,R5⟩:=id o4;subst G2;refine OO (fn:=Tryz.f28) (args:=[_,_]) (N:=73) Tryz.func28 rfl (by kernel_rfl) (Nat.le_of_ble_eq_true rfl) (fun F=>?_);show Run _ _ (c_Reach []) _ _ [(0,.agg #[vS b0 Y.cars.length b2,vS b3 Y.room.length b4,vS b5 Y.tracks.length b6]),(1,vI (dr))] _ _;refine rnm (rqr ?_);refine sS (sb 2 26 #[vS b0 Y.cars.length b2,vS b3 Y.room.length b4,vS b5 Y.tracks.length b6] (fun b1=>(sp 2 [(5,vI (0)),(4,vI (0))] (se (rq (rqr (sd (dnb 16 0 0 b1 [vS b0 Y.cars.length b2,vS b3 Y.room.length b4,vS b5 Y.tracks.length b6]) (sd (dc 17 (fun I' hI=>(LX I' _ (Y) ((BS o2 o3 o4).mono hI) :))) (sp 1 [(6,vI ((checkErr Y)))] (sn (sp 2 [(19,.bool (!(cmp .eql ((checkErr Y)) (0))))] (se (rc 19 rfl (fun h1=>?_) (fun h1=>?_))))))))))))))
 ·
  have B3:=h1;have h1:=DE (CL h1);refine rqr (sp 3 [(5,vI ((checkErr Y))),(4,vI (0))] (se (BO ((RP ?_)))));refine HS (R:=((bX b1 #[vS b0 Y.cars.length b2,vS b3 Y.room.length b4,vS b5 Y.tracks.length b6] 26)::F)) [] (.inl rfl) (PR _) (CY (t:=4) (u:=5) [] (by kernel_rfl) rfl rfl (TC _ (TR _)) (IR _) ?_);exact ⟨(congrArg (fun p:Int × Int=>Value.tuple #[vI p.1,vI p.2]) (reachE_bad h1).symm),rfl⟩
 have B3:=h1;have h1:=DF (BW h1);refine AH (NX (rq (rq ?_)));have r0:Valid Y:=by (show checkErr Y=0;omega)
 have i3:=r0.fine;have l5:=r0.good;have T4:=r0.lens;refine rr (sp 1 [(21,vI (dr))] (sd (dc 22 (fun I' hI=>(OQ I' (dr) (0) (4) :))) (sp 1 [(23,.bool (!(inB dr 0 4)))] (se (rc 23 rfl (fun h2=>?_) (fun h2=>?_))))))
 ·
  have B5:=h2;have h2:=CL h2;have B4:=LF h2;refine rqr (sp 2 [(5,vI (1)),(4,vI (0))] (se (BO ((RP ?_)))));refine HS (R:=((bX b1 #[vS b0 Y.cars.length b2,vS b3 Y.room.length b4,vS b5 Y.tracks.length b6] 26)::F)) [] (.inl rfl) (PR _) (CY (t:=4) (u:=5) [] (by kernel_rfl) rfl rfl (TC _ (TR _)) (IR _) ?_);exact ⟨(congrArg (fun p:Int × Int=>Value.tuple #[vI p.1,vI p.2]) (reachE_far r0 h2).symm),rfl⟩
 have B5:=h2;have h2:=BW h2;have B4:=inB_t h2;have C1:inB dr 0 4=true:=h2;refine AH (NX (rq ?_));obtain ⟨d,hdd⟩:∃ d:Nat,dr=↑d:=⟨dr.toNat,by have:=inB_t C1;omega⟩;have T3:=inB_t C1;refine rr (sd (dnb 24 0 0 b1 [vS b0 Y.cars.length b2,vS b3 Y.room.length b4,vS b5 Y.tracks.length b6]) ?_);have p4:=LB I _ (Y) (BS o2 o3 o4) (by omega) (by omega) (by omega) (by exact l5.le);refine sS (sc (some 25) (p4 :) (.refl _) (fun P1 I3 O7 q1 M8=>?_));obtain ⟨P5,l0,J6,g3,J8,f2,e8,G7,G4,r5,r6,o0,f3⟩:=M8;rw [G7,G4];clear G7 G4;replace hG:=hG.mono q1;obtain ⟨f0,f1,o1,E7⟩:=r5.shape;subst o1;obtain ⟨d9,e0,k4,v8⟩:=r6.shape;subst k4;obtain ⟨e1,e2,k6,x0⟩:=o0.shape;subst k6;have j3:=f3.1
 try simp only [LS,LA,LC,LN,LK] at j3
 refine AR (M':=((l0++(g3++(e8++(bX b1 #[vS b0 Y.cars.length b2,vS b3 Y.room.length b4,vS b5 Y.tracks.length b6] 26)::F))))) (fun w h=>by simpa only [AA,CA,NA] using h) (pm (M':=((bX b1 #[vS b0 Y.cars.length b2,vS b3 Y.room.length b4,vS b5 Y.tracks.length b6] 26)::(l0++(g3++(e8++F))))) ((PA _ ((PA _ PM).trans PM)).trans PM) (sfz (A:=((bX b1 #[vS b0 Y.cars.length b2,vS b3 Y.room.length b4,vS b5 Y.tracks.length b6] 26)::(g3++(e8++F)))) AD r5 (PM.symm) (fun R7 j0 a4=>?_)));replace hG:=hG.mono j0;replace f3:=f3.mono j0;obtain ⟨z2,z4,z3,z7,m3,z5,z6,z8⟩:=id a4;cases m3;refine sfz (A:=((bX b1 #[vS b0 Y.cars.length b2,vS b3 Y.room.length b4,vS b5 Y.tracks.length b6] 26)::(e8++F))) 0 r6 (PM.symm) (fun K8 h8 c4=>?_);replace hG:=hG.mono h8;replace f3:=f3.mono h8;replace a4:=a4.mono h8;obtain ⟨z9,A1,A0,A4,m4,A2,A3,A5⟩:=id c4;cases m4;refine sp 1 [(26,.agg #[vS f0 Y.cars.length f1,vS d9 Y.room.length e0,vS e1 f2.length e2])] (sS (sb 27 110 #[vS f0 Y.cars.length f1,vS d9 Y.room.length e0,vS e1 f2.length e2] (fun g5=>(sp 1 [(7,vP g5 0)] (sn (sS (IZ (d:=28) (T:=115) (ty:=115) (gd:=none) (by kernel_rfl) rfl (fun d0=>(sp 1 [(29,vP g5 0)] ?_)))))))));have p5:=where_ct K8 (g5) _ _ _ _ _ (Y) a4 c4 o0 f3 (by exact l5.ok) (by exact i3.cars) (by omega);refine sS (sc (some 30) (F:=((d0,Obj.map #[] 0)::(bX b1 #[vS b0 Y.cars.length b2,vS b3 Y.room.length b4,vS b5 Y.tracks.length b6] 26)::F)) (p5 :) ((PS _ _ _).trans (PC _ (PU (PM.symm)))) (fun P2 R8 O8 f8 C6=>?_));obtain ⟨q7,q2⟩:=C6;rw [q7,q2];clear q7 q2;replace hG:=hG.mono f8;replace f3:=f3.mono f8;replace a4:=a4.mono f8;replace c4:=c4.mono f8;refine AR (M':=((bX g5 #[vS f0 Y.cars.length f1,vS d9 Y.room.length e0,vS e1 f2.length e2] 110)::(e8++(d0,Obj.map #[] 0)::(bX b1 #[vS b0 Y.cars.length b2,vS b3 Y.room.length b4,vS b5 Y.tracks.length b6] 26)::F))) (fun w h=>by simpa only [AA,CA,NA] using h) (pm (M':=((bX g5 #[vS f0 Y.cars.length f1,vS d9 Y.room.length e0,vS e1 f2.length e2] 110)::(d0,Obj.map #[] 0)::(bX b1 #[vS b0 Y.cars.length b2,vS b3 Y.room.length b4,vS b5 Y.tracks.length b6] 26)::(e8++F))) (PC _ (PW PM)) (sS (stp_insert (x:=(.tmp 28)) (y:=(.tmp 30)) (u:=(.const (.bool true))) (T:=115) (kt:=113) (et:=4) (k:=(BC Y)) (kvs:=GE ([])) 1 (ty:=0) (gd:=none) (by kernel_rfl) rfl (by kernel_rfl) (IL (by kernel_rfl) (by kernel_rfl)) rfl rfl rfl rfl (MapIs.nil _) (fun i7 i6 i9=>?_))));rw [LU] at i9;rw [if_neg (by simp)] at i9;refine nm ?_;refine sp 1 [(31,.map (some d0))] (sS (sal 8 115 #[.map none] (fun l1=>(sS (ss 0 0 l1 [.map (some d0)] [.map (some d0)] (_::_::_::_::_) (cs:=[_]) rfl rfl (se (rq ?_)))))));refine HC (B:=((bX l1 #[.map (some d0)] 115)::(bX g5 #[vS f0 Y.cars.length f1,vS d9 Y.room.length e0,vS e1 f2.length e2] 110)::(d0,Obj.map i7 i6)::(bX b1 #[vS b0 Y.cars.length b2,vS b3 Y.room.length b4,vS b5 Y.tracks.length b6] 26)::F)) undef o0 (by first | omega | (simp only [LS,LC,LN,LA,LK,LD] <;> omega) | decide) (PU (PU (PU (PM.symm)))) (PR _) (fun R9 f9 i8=>?_);replace hG:=hG.mono f9;replace f3:=f3.mono f9;replace a4:=a4.mono f9;replace c4:=c4.mono f9;obtain ⟨A6,A8,A7,B1,m5,A9,B0,B2⟩:=id i8;cases m5;have e9:=f3.isRows i8;have p2:=f3.1;obtain ⟨y4,y6,y5,y9,t3,m2,y7,y8,z0,z1⟩:=id e9
 injection m2 with fr46_e1 fr46_e2 fr46_e3;subst fr46_e1;subst fr46_e3
 refine MG (b:=g5) (o:=Obj.cells #[vS f0 Y.cars.length f1,vS d9 Y.room.length e0,vS e1 f2.length e2] 110 (0,0)) (M0:=((bX l1 #[.map (some d0)] 115)::(d0,Obj.map i7 i6)::(bX b1 #[vS b0 Y.cars.length b2,vS b3 Y.room.length b4,vS b5 Y.tracks.length b6] 26)::F)) (PS _ _ _) (fun T0 g0 a2=>?_);replace hG:=hG.mono g0;replace a4:=a4.mono g0;replace c4:=c4.mono g0;replace e9:=e9.mono g0;refine MG (b:=l1) (o:=Obj.cells #[.map (some d0)] 115 (0,0)) (M0:=((d0,Obj.map i7 i6)::(bX b1 #[vS b0 Y.cars.length b2,vS b3 Y.room.length b4,vS b5 Y.tracks.length b6] 26)::F)) (PR _) (fun y0 f5 a3=>?_);replace hG:=hG.mono f5;replace a4:=a4.mono f5;replace c4:=c4.mono f5;replace e9:=e9.mono f5;replace a2:=f5.blk _ _ a2;refine rr (sp 1 [(32,vP g5 0)] (sS (sbs 33 108 1 #[vP g5 0] (fun o5=>(sp 1 [(9,vS (some ⟨o5,0,none⟩) 1 1)] (se (rq (rq ?_))))))));refine rn_mem (M':=((d0,Obj.map i7 i6)::(bX b1 #[vS b0 Y.cars.length b2,vS b3 Y.room.length b4,vS b5 Y.tracks.length b6] 26)::([(bX o5 #[vP g5 0] 108)]++F))) (fun w h=>h.perm ((PS _ _ _).trans (PC _ (PS _ _ _)))) ?_;have C5:Own 108 1 AO (vS (some ⟨o5,0,none⟩) 1 1) ([(vP g5 0:Value)]:List Value) [(bX o5 #[vP g5 0] 108)]:=Own.lit rfl rfl;have i1:YardsH 110 y0 [vP g5 0] [Y]:=(YardsH.nil _ _).snoc (YardH.mk a2 a4 c4 e9);refine rr (sp 1 [(34,vI (dr))] (DN 34 rfl (show (vI (dr):Value)=vI (↑d) from congrArg (Value.int .i64) hdd) (sp 1 [(35,vI (0))] (se (rb 0 ?_)))));refine rl (fun mz a w=>∃ J0:Imm,∃ k:Nat,∃ nv:Value,∃ i4:List Value,∃ nM:Seg,∃ zs:List Yard,∃ g9:List Sh.Place,∃ es:Array MapEntry,∃ cl:Nat,∃ Ds:List Nat,(y0.le J0)∧(k≤d)∧(PP d [BC Y] [Y]=PP (d-k) g9 zs)∧(VisOk Y (g9,zs))∧(Own 108 1 AO nv i4 nM)∧(YardsH 110 J0 i4 zs)∧(MapIs encP es (GE g9))∧Slots 73 [(9,nv),(35,vI ↑k),(4,vI (0)),(5,vI (0)),(8,vP l1 0),(34,vI (↑d))] a∧a.defers=Ds.map Sl.mark∧St J0 ((d0,Obj.map es cl)::(bX b1 #[vS b0 Y.cars.length b2,vS b3 Y.room.length b4,vS b5 Y.tracks.length b6] 26)::(nM++(Sl.blocksOf Ds++F))) w∧mz=d-k) ?_ ?_
 ·intro a w hS hD hW;exact ⟨_,y0,0,(vS (some ⟨o5,0,none⟩) 1 1),([(vP g5 0:Value)]:List Value),[(bX o5 #[vP g5 0] 108)],[Y],[BC Y],i7,i6,[],IR _,Nat.zero_le _,rfl,VisOk.start Y,C5,i1,i9,hS.sub (.cons 9 rfl (.cons 35 rfl (.cons 4 rfl (.cons 5 rfl (.cons 8 rfl (.cons 34 rfl (.nil _))))))),hD,hW,rfl⟩
 rintro mz a w ⟨J0,k,nv,i4,nM,zs,g9,es,cl,Ds,hJ0,hk,hr,v5,no,i1,p9,hS,hD,hW,rfl⟩
 refine AX hS hD hW ?_;clear hS hD hW a w;replace hG:=hG.mono hJ0;replace a2:=hJ0.blk _ _ a2;replace a3:=hJ0.blk _ _ a3;obtain ⟨n8,n9,E6,O5⟩:=no.shape;subst E6;have T6:=i1.1;have T8:zs.length≤5000:=(v5.count i3).2;refine rqr (sp 1 [(36,.bool (cmp .lss (↑k) (↑d)))] (se (rq (rc 36 rfl (fun h3=>?_) (fun h3=>?_)))))
 ·
  have B6:=h3;have h3:=BZ h3;refine AH (NX (rq (rb 1 (rqr (sS (sal 10 116 #[vN] (fun e4=>(se (rq (rqr (sp 3 [(39,vI (0)),(38,vI (↑(i4.length))),(37,vS n8 i4.length n9)] (se (rb 2 ?_)))))))))))));refine rl (fun mz a w=>∃ J1:Imm,∃ j:Nat,∃ xv:Value,∃ k8:List Value,∃ xM:Seg,∃ o6:Array MapEntry,∃ p0:Nat,∃ j8:List Nat,(J0.le J1)∧(j≤zs.length)∧(Own 108 1 AO xv k8 xM)∧(YardsH 110 J1 k8 (visJ g9 zs j).2)∧(MapIs encP o6 (GE (visJ g9 zs j).1))∧Slots 73 [(39,vI ↑j),(4,vI (0)),(5,vI (0)),(8,vP l1 0),(9,vS n8 i4.length n9),(10,vP e4 0),(34,vI (↑d)),(35,vI (↑k)),(37,vS n8 i4.length n9),(38,vI (↑(i4.length)))] a∧a.defers=j8.map Sl.mark∧St J1 ((bX e4 #[xv] 116)::(d0,Obj.map o6 p0)::(bX b1 #[vS b0 Y.cars.length b2,vS b3 Y.room.length b4,vS b5 Y.tracks.length b6] 26)::(nM++(Sl.blocksOf j8++(xM++F)))) w∧mz=zs.length-j) ?_ ?_
  ·intro a w hS hD hW;exact ⟨_,J0,0,(vN),[],[],es,cl,Ds,IR _,Nat.zero_le _,Own.nil _ _ _,(by rw [visJ_zero];exact YardsH.nil _ _),(by rw [visJ_zero];exact p9),hS.sub (.cons 39 rfl (.cons 4 rfl (.cons 5 rfl (.cons 8 rfl (.cons 9 rfl (.cons 10 rfl (.cons 34 rfl (.cons 35 rfl (.cons 37 rfl (.cons 38 rfl (.nil _))))))))))),hD,hW,rfl⟩
  rintro mz a w ⟨J1,j,xv,k8,xM,o6,p0,j8,hJ1,hj,xo,xh,p8,hS,hD,hW,rfl⟩
  refine AX hS hD hW ?_;clear hS hD hW a w;replace hG:=hG.mono hJ1;replace a2:=hJ1.blk _ _ a2;replace a3:=hJ1.blk _ _ a3;replace i1:=i1.mono hJ1;obtain ⟨j6,j7,E9,P9⟩:=xo.shape;subst E9;refine rqr (sp 1 [(40,.bool (cmp .lss (↑j) (↑(i4.length))))] (se (rq (rc 40 rfl (fun h4=>?_) (fun h4=>?_)))))
  ·
   have B7:=h4;have h4:=BZ h4;refine AH (NX (rq (rb 3 (rqr ?_))));obtain ⟨O6,m1⟩:=no.row undef;refine sd (di 41 1 (j) m1.addr) ?_;obtain ⟨xb,O2,O3,O4,E5,b7,r1,r2,r3⟩:=i1.2 (j) (by omega);have d1:=r1;obtain ⟨m9,n0,C9,D2,n1,D0,D1,D3⟩:=id d1;subst n1;have d2:=r2;obtain ⟨n2,n3,D4,D7,n4,D5,D6,D8⟩:=id d2;subst n4;have d3:=r3;obtain ⟨n5,n6,D9,E2,v6,n7,E0,E1,E3,E4⟩:=id d3;subst n7;have o8:((zs.getD (j) AP).tracks).length=((zs.getD (j) AP).tracks).length:=rfl;refine sd (BL (dl 42 (m1.get (j) (by omega) 0 (by decide) _ _ (fun x hx=>by simp [hx]))) E5) (sS (sal 12 108 #[.pointer none] (fun s2=>(sS (ss 0 0 s2 [vP xb 0] [vP xb 0] (_::_::_::_::_) (cs:=[_]) rfl rfl (se (rq ?_)))))));have q0:Kin Y (zs.getD (j) AP):=v5.kin _ (AJ (d:=AP) (xs:=zs) (k:=j) (by omega));have B9:=Kin.good i3 q0;have M7:=q0.lens i3;have M5:=q0.cars5 i3;have O0:VisOk Y (visJ g9 zs j):=v5.j i3 j;refine MG (b:=s2) (o:=Obj.cells #[vP xb 0] 108 (0,0)) (M0:=((bX e4 #[vS j6 k8.length j7] 116)::(d0,Obj.map o6 p0)::(bX b1 #[vS b0 Y.cars.length b2,vS b3 Y.room.length b4,vS b5 Y.tracks.length b6] 26)::(nM++(Sl.blocksOf j8++(xM++F))))) (PR _) (fun K9 e5 c7=>?_);replace hG:=hG.mono e5;replace a2:=e5.blk _ _ a2;replace a3:=e5.blk _ _ a3;replace xh:=xh.mono e5;replace d1:=d1.mono e5;replace d2:=d2.mono e5;replace d3:=d3.mono e5;replace b7:=e5.blk _ _ b7;refine rr (sd (BM (v:=vP xb 0) (x:=(.tmp 12)) (T:=108) (d:=43) (ty:=108) (gd:=none) (by kernel_rfl) rfl (by kernel_rfl) rfl (BE c7 rfl)) ?_);have p6:=shifts_ct K9 (xb);refine sS (sc (some 44) (p6 :) (.refl _) (fun P3 M3 O9 e3 C7=>?_));obtain ⟨l2,o9,q8,q3,d4,d5⟩:=C7;rw [q8,q3];clear q8 q3;replace hG:=hG.mono e3;replace a2:=e3.blk _ _ a2;replace a3:=e3.blk _ _ a3;replace xh:=xh.mono e3;replace d1:=d1.mono e3;replace d2:=d2.mono e3;replace d3:=d3.mono e3;replace b7:=e3.blk _ _ b7;replace c7:=e3.blk _ _ c7;refine nm (se (rb 4 ?_))
   refine NZ (α:=Shift) (g:=(.tmp 44)) (ps:=#[45]) (assign:=c_Reach [1,1,1,1,1,1,0,1,0,0,1,1,0,0,1,0,1,0,0,1,1,0,0,1,1,0,0]) (body:=c_Reach [1,1,1,1,1,1,0,1,0,0,1,1,0,0,1,0,1,0,0,1,1,0,0,1,1,0,1]) (gf:=135) (cv:=[vP l2 0,vP o9 0]) (enc:=encS) (seq:=draws (zs.getD (j) AP)) (R:=NoR) (Mr:=[]) (M0:=((d0,Obj.map o6 p0)::(bX e4 #[vS j6 k8.length j7] 116)::xM)) (F0:=((bX b1 #[vS b0 Y.cars.length b2,vS b3 Y.room.length b4,vS b5 Y.tracks.length b6] 26)::(nM++(Sl.blocksOf j8++F))))
    (fun xs I M=>∃ es cl nv i4 nM,M=(d0,Obj.map es cl)::(bX e4 #[nv] 116)::nM∧MapIs encP es (GE (visX (visJ g9 zs j) (zs.getD (j) AP) xs).1)∧Own 108 1 AO nv i4 nM∧YardsH 110 I i4 (visX (visJ g9 zs j) (zs.getD (j) AP) xs).2) (fun _ _ _ _=>False) (fun x k=>[(4,vI (0)),(5,vI (0)),(8,vP l1 0),(10,vP e4 0),(12,vP s2 0),(13,vP k 0)]) (fun x k=>[(bX k #[vI (x.frm),vI (x.to),vI (x.many)] 52)])
    (by kernel_rfl) rfl (by kernel_rfl) (fun _=>rfl) (by kernel_rfl) (shifts1h_iter M3 xb l2 o9 _ _ _ (zs.getD (j) AP) hG d4 d5 b7 d1 d2 d3 B9 M7.2.2) ((fun xs I J M hle ⟨a,b,c,d,e,h1,h2,h3,h4⟩=>⟨a,b,c,d,e,h1,h2,h3,h4.mono hle⟩)) (by simpa only [AA,CA,NA] using ((PS _ _ _).trans (PC _ (PC _ (PU (PV (PO _ _ _))))))) rfl ⟨_,_,_,_,_,rfl,p8,xo,xh⟩ ?_ ?_ ?_ ?_
   ·intro L x I1 M1;refine run_sub (l':=[(4,vI (0)),(5,vI (0)),(8,vP l1 0),(10,vP e4 0),(12,vP s2 0),(45,.agg #[vI (x.frm),vI (x.to),vI (x.many)])]) (.cons 4 rfl (.cons 5 rfl (.cons 8 rfl (.cons 10 rfl (.cons 12 rfl (.cons 45 rfl (.nil _))))))) (rr (sS (sal 13 52 #[vI (0),vI (0),vI (0)] (fun G3=>(sS (ss 0 0 G3 [vI (x.frm),vI (x.to),vI (x.many)] [vI (x.frm),vI (x.to),vI (x.many)] (_::_) (cs:=[_,_,_]) rfl rfl (ee ?_)))))));exact AL (fun a w hS hD hW=>⟨G3,hS.sub (.cons 4 rfl (.cons 5 rfl (.cons 8 rfl (.cons 10 rfl (.cons 12 rfl (.cons 13 rfl (.nil _))))))),hD,hW⟩)
   ·intro L x k xs I1 Mr1 M1 F1 hpre hle1 hR1 hC1;replace a2:=hle1.blk _ _ a2;replace a3:=hle1.blk _ _ a3;replace xh:=xh.mono hle1;replace d1:=d1.mono hle1;replace d2:=d2.mono hle1;replace d3:=d3.mono hle1;replace b7:=hle1.blk _ _ b7;replace c7:=hle1.blk _ _ c7;replace d4:=hle1.blk _ _ d4;replace d5:=hle1.blk _ _ d5;obtain rfl:Mr1=[]:=hR1;obtain ⟨g7,g6,T9,c9,g2,rfl,m8,E8,g1⟩:=hC1;obtain ⟨a5,a6,s0,K1⟩:=E8.shape;subst s0;have G5:CJ (zs.getD (j) AP) x=0:=GY (NP hpre);have O1:VisOk Y (visX (visJ g9 zs j) (zs.getD (j) AP) xs):=VisOk.x i3 O0 q0 (prefix_left hpre);have T2:=(O1.count i3).2;have T7:=g1.1;have C3:Kin Y (moved (zs.getD (j) AP) x):=q0.moved G5;have M6:=Kin.good i3 C3;have T5:=C3.lens i3;have C0:=C3.cars5 i3;have C4:=mayErr_ok G5;refine HY (M':=((bX k #[vI (x.frm),vI (x.to),vI (x.many)] 52)::(d0,Obj.map g7 g6)::(bX e4 #[vS a5 c9.length a6] 116)::(g2++F1))) (fun w h=>by simpa only [AA,CA,NA] using h) (rnm (rb 5 (rqr ?_)));refine sd (BM (v:=vP xb 0) (x:=(.tmp 12)) (T:=108) (d:=46) (ty:=108) (gd:=none) (by kernel_rfl) rfl (by kernel_rfl) rfl (BE c7 rfl)) (sp 1 [(47,vP xb 0)] (sd (BD (x:=(.tmp 47)) (T:=110) (k:=0) (o:=0) (d:=48) (ty:=0) (gd:=none) (by kernel_rfl) rfl (by kernel_rfl) rfl) (sd (DS (x:=(.tmp 48)) (T:=26) (n:=3) (vs:=[vS m9 ((zs.getD (j) AP).cars).length n0,vS n2 ((zs.getD (j) AP).room).length n3,vS n5 ((zs.getD (j) AP).tracks).length n6]) (d:=49) (ty:=26) (gd:=none) (by kernel_rfl) rfl (by kernel_rfl) (by kernel_rfl) rfl rfl (OY (n:=3) b7 rfl)) ?_)));have p7:=LB I1 _ (zs.getD (j) AP) (BS d1 d2 d3) (by omega) (by omega) (by omega) (by exact B9.le);refine sS (sc (some 50) (p7 :) (.refl _) (fun P4 T1 P0 e6 C8=>?_));obtain ⟨J5,i5,J7,g4,J9,d6,f6,q9,q4,r7,r8,r9,i2⟩:=C8;rw [q9,q4];clear q9 q4;replace a2:=e6.blk _ _ a2;replace a3:=e6.blk _ _ a3;replace b7:=e6.blk _ _ b7;replace c7:=e6.blk _ _ c7;replace d4:=e6.blk _ _ d4;replace d5:=e6.blk _ _ d5;replace g1:=g1.mono e6;obtain ⟨b8,b9,k3,v7⟩:=r7.shape;subst k3;obtain ⟨c0,c1,k5,v9⟩:=r8.shape;subst k5;obtain ⟨c2,c3,k7,x1⟩:=r9.shape;subst k7;have j4:=i2.1
    try simp only [LS,LA,LC,LN,LK] at j4
    refine AR (M':=((i5++(g4++(f6++(bX k #[vI (x.frm),vI (x.to),vI (x.many)] 52)::(d0,Obj.map g7 g6)::(bX e4 #[vS a5 c9.length a6] 116)::(g2++F1)))))) (fun w h=>by simpa only [AA,CA,NA] using h) (pm (M':=((bX k #[vI (x.frm),vI (x.to),vI (x.many)] 52)::(d0,Obj.map g7 g6)::(bX e4 #[vS a5 c9.length a6] 116)::(i5++(g4++(f6++(g2++F1)))))) (((PA _ ((PA _ PM).trans PM)).trans PM).trans (PC _ (((PA _ ((PA _ PM).trans PM)).trans PM).trans (PC _ ((PA _ ((PA _ PM).trans PM)).trans PM))))) (sfz (A:=((bX k #[vI (x.frm),vI (x.to),vI (x.many)] 52)::(d0,Obj.map g7 g6)::(bX e4 #[vS a5 c9.length a6] 116)::(g4++(f6++(g2++F1))))) AD r7 (PU (PU (PM.symm))) (fun K4 c8 a0=>?_)));replace a2:=c8.blk _ _ a2;replace a3:=c8.blk _ _ a3;replace b7:=c8.blk _ _ b7;replace c7:=c8.blk _ _ c7;replace d4:=c8.blk _ _ d4;replace d5:=c8.blk _ _ d5;replace g1:=g1.mono c8;replace i2:=i2.mono c8;obtain ⟨t4,t6,t5,t9,k1,t7,t8,u0⟩:=id a0;cases k1;refine sfz (A:=((bX k #[vI (x.frm),vI (x.to),vI (x.many)] 52)::(d0,Obj.map g7 g6)::(bX e4 #[vS a5 c9.length a6] 116)::(f6++(g2++F1)))) 0 r8 (PU (PU (PM.symm))) (fun x8 c5 a1=>?_);replace a2:=c5.blk _ _ a2;replace a3:=c5.blk _ _ a3;replace b7:=c5.blk _ _ b7;replace c7:=c5.blk _ _ c7;replace d4:=c5.blk _ _ d4;replace d5:=c5.blk _ _ d5;replace g1:=g1.mono c5;replace i2:=i2.mono c5;replace a0:=a0.mono c5;obtain ⟨u1,u3,u2,u6,k2,u4,u5,u7⟩:=id a1;cases k2;refine sp 1 [(51,.agg #[vS b8 (((zs.getD (j) AP)).cars).length b9,vS c0 (((zs.getD (j) AP)).room).length c1,vS c2 d6.length c3])] (sS (sb 52 110 #[vS b8 (((zs.getD (j) AP)).cars).length b9,vS c0 (((zs.getD (j) AP)).room).length c1,vS c2 d6.length c3] (fun d7=>(sp 1 [(14,vP d7 0)] (sn (sp 1 [(53,vP d7 0)] (sd (dnb 54 1 0 k [vI (x.frm),vI (x.to),vI (x.many)]) ?_)))))));have m6:=move_ct x8 (d7) _ _ _ _ _ (((zs.getD (j) AP))) (x) a0 a1 r9 i2 (by exact C4.1) (by exact C4.2.1) (by exact C4.2.2) (by exact B9.le);refine sS (sc (some 55) (F:=((bX k #[vI (x.frm),vI (x.to),vI (x.many)] 52)::(d0,Obj.map g7 g6)::(bX e4 #[vS a5 c9.length a6] 116)::(g2++F1))) (m6 :) (PC _ (PU (PU (PM.symm)))) (fun J3 x9 G9 c6 q5=>?_));obtain ⟨x7,e7,l9,l6,h0,d8⟩:=q5;rw [l9,l6];clear l9 l6;replace a2:=c6.blk _ _ a2;replace a3:=c6.blk _ _ a3;replace b7:=c6.blk _ _ b7;replace c7:=c6.blk _ _ c7;replace d4:=c6.blk _ _ d4;replace d5:=c6.blk _ _ d5;replace g1:=g1.mono c6;replace a0:=a0.mono c6;replace a1:=a1.mono c6;obtain ⟨x2,x3,x4,x5⟩:=id h0.shape;have h6:=d8.1
    try simp only [LS,LA,LC,LN,LK] at h6
    refine AR (M':=((bX d7 #[vS b8 (((zs.getD (j) AP)).cars).length b9,vS c0 (((zs.getD (j) AP)).room).length c1,vS c2 d6.length c3] 110)::(e7++(bX k #[vI (x.frm),vI (x.to),vI (x.many)] 52)::(d0,Obj.map g7 g6)::(bX e4 #[vS a5 c9.length a6] 116)::(g2++F1)))) (fun w h=>by simpa only [AA,CA,NA] using h) (pm (M':=((bX d7 #[vS b8 (((zs.getD (j) AP)).cars).length b9,vS c0 (((zs.getD (j) AP)).room).length c1,vS c2 d6.length c3] 110)::(bX k #[vI (x.frm),vI (x.to),vI (x.many)] 52)::(d0,Obj.map g7 g6)::(bX e4 #[vS a5 c9.length a6] 116)::(e7++(g2++F1)))) (PC _ (PW (PW PM))) (sn (sp 1 [(56,vP d7 0)] ?_)));have m7:=where_ct x9 (d7) _ _ _ _ _ (moved (((zs.getD (j) AP))) x) a0 a1 h0 d8 (by exact M6.ok) (by exact C0) (by omega);refine sS (sc (some 57) (F:=((bX k #[vI (x.frm),vI (x.to),vI (x.many)] 52)::(d0,Obj.map g7 g6)::(bX e4 #[vS a5 c9.length a6] 116)::(g2++F1))) (m7 :) (PC _ (PU (PU (PM.symm)))) (fun J4 K5 J2 a7 q6=>?_));obtain ⟨m0,l7⟩:=q6;rw [m0,l7];clear m0 l7;replace a2:=a7.blk _ _ a2;replace a3:=a7.blk _ _ a3;replace b7:=a7.blk _ _ b7;replace c7:=a7.blk _ _ c7;replace d4:=a7.blk _ _ d4;replace d5:=a7.blk _ _ d5;replace g1:=g1.mono a7;replace a0:=a0.mono a7;replace a1:=a1.mono a7;replace d8:=d8.mono a7;refine AR (M':=((bX d7 #[vS b8 (((zs.getD (j) AP)).cars).length b9,vS c0 (((zs.getD (j) AP)).room).length c1,vS c2 d6.length c3] 110)::(e7++(bX k #[vI (x.frm),vI (x.to),vI (x.many)] 52)::(d0,Obj.map g7 g6)::(bX e4 #[vS a5 c9.length a6] 116)::(g2++F1)))) (fun w h=>by simpa only [AA,CA,NA] using h) (pm (M':=((bX d7 #[vS b8 (((zs.getD (j) AP)).cars).length b9,vS c0 (((zs.getD (j) AP)).room).length c1,vS c2 d6.length c3] 110)::(bX k #[vI (x.frm),vI (x.to),vI (x.many)] 52)::(d0,Obj.map g7 g6)::(bX e4 #[vS a5 c9.length a6] 116)::(e7++(g2++F1)))) (PC _ (PW (PW PM))) (sS (sal 15 113 #[vI (0),vI (0),vI (0),vI (0),vI (0),vI (0),vI (0),vI (0),vI (0),vI (0)] (fun j9=>(sS (OZ (T:=113) (x:=(.tmp 15)) (y:=(.tmp 57)) (n:=10) (vs:=BJ (BC (moved (((zs.getD (j) AP))) x)).val) (M':=((j9,Obj.cells (BJ (BC (moved (((zs.getD (j) AP))) x)).val) 113 (0,0))::(bX d7 #[vS b8 (((zs.getD (j) AP)).cars).length b9,vS c0 (((zs.getD (j) AP)).room).length c1,vS c2 d6.length c3] 110)::(bX k #[vI (x.frm),vI (x.to),vI (x.many)] 52)::(d0,Obj.map g7 g6)::(bX e4 #[vS a5 c9.length a6] 116)::(e7++(g2++F1)))) 0 (ty:=0) (gd:=none) (by kernel_rfl) rfl rfl rfl (by kernel_rfl) rfl (FN _) (MX _) rfl (rfl) rfl (se (rq ?_))))))));refine HC (B:=((j9,Obj.cells (BJ (BC (moved (((zs.getD (j) AP))) x)).val) 113 (0,0))::(bX d7 #[vS b8 (((zs.getD (j) AP)).cars).length b9,vS c0 (((zs.getD (j) AP)).room).length c1,vS c2 d6.length c3] 110)::(bX k #[vI (x.frm),vI (x.to),vI (x.many)] 52)::(d0,Obj.map g7 g6)::(bX e4 #[vS a5 c9.length a6] 116)::(g2++F1))) undef h0 (by first | omega | (simp only [LS,LC,LN,LA,LK,LD] <;> omega) | decide) (PU (PU (PU (PU (PM.symm))))) (PR _) (fun K6 a8 f7=>?_);replace a2:=a8.blk _ _ a2;replace a3:=a8.blk _ _ a3;replace b7:=a8.blk _ _ b7;replace c7:=a8.blk _ _ c7;replace d4:=a8.blk _ _ d4;replace d5:=a8.blk _ _ d5;replace g1:=g1.mono a8;replace a0:=a0.mono a8;replace a1:=a1.mono a8;replace d8:=d8.mono a8;obtain ⟨u8,v0,u9,v3,h7,v1,v2,v4⟩:=id f7
    first | cases h7 | (injection h7 with fz133_e1 fz133_e2 fz133_e3;subst fz133_e1;subst fz133_e3;try rw [← fz133_e2] at f7)
    have f4:=d8.isRows f7;have o7:=d8.1;obtain ⟨s5,s7,s6,t0,p1,k0,s8,s9,t1,t2⟩:=id f4
    injection k0 with fr134_e1 fr134_e2 fr134_e3;subst fr134_e1;subst fr134_e3
    refine MG (b:=d7) (o:=Obj.cells #[vS b8 (((zs.getD (j) AP)).cars).length b9,vS c0 (((zs.getD (j) AP)).room).length c1,vS c2 d6.length c3] 110 (0,0)) (M0:=((j9,Obj.cells (BJ (BC (moved (((zs.getD (j) AP))) x)).val) 113 (0,0))::(bX k #[vI (x.frm),vI (x.to),vI (x.many)] 52)::(d0,Obj.map g7 g6)::(bX e4 #[vS a5 c9.length a6] 116)::(g2++F1))) (PS _ _ _) (fun K7 a9 p3=>?_);replace a2:=a9.blk _ _ a2;replace a3:=a9.blk _ _ a3;replace b7:=a9.blk _ _ b7;replace c7:=a9.blk _ _ c7;replace d4:=a9.blk _ _ d4;replace d5:=a9.blk _ _ d5;replace g1:=g1.mono a9;replace a0:=a0.mono a9;replace a1:=a1.mono a9;replace f4:=f4.mono a9;refine rr (sd (BM (v:=.map (some d0)) (x:=(.tmp 8)) (T:=115) (d:=58) (ty:=115) (gd:=none) (by kernel_rfl) rfl (by kernel_rfl) rfl (BE a3 rfl)) (sd (LE (x:=(.tmp 15)) (T:=113) (n:=10) (d:=59) (ty:=113) (gd:=none) (by kernel_rfl) rfl (by kernel_rfl) (by kernel_rfl) (FN _) rfl (.inl (List.mem_of_getElem? (i:=0) rfl))) (sd (MA (x:=(.tmp 58)) (y:=(.tmp 59)) (T:=115) (kt:=113) (et:=4) (k:=(BC (moved (((zs.getD (j) AP))) x))) (kvs:=GE ((visX (visJ g9 zs j) (zs.getD (j) AP) xs).1)) (z:=.bool false) (d:=60) (ty:=4) (gd:=none) (by kernel_rfl) rfl (by kernel_rfl) (IL (by kernel_rfl) (by kernel_rfl)) rfl rfl (by kernel_rfl) (.inl (List.mem_of_getElem? (i:=2) rfl)) m8 (KG _ _)) (sd (det_not (x:=(.tmp 60)) (T:=4) (d:=61) (ty:=4) (gd:=none) (by kernel_rfl) rfl rfl) (se (rc 61 rfl (fun h5=>?_) (fun h5=>?_)))))))
    ·
     have B8:=h5;have h5:=decI_f (CL h5);refine rqr (sd (BM (v:=.map (some d0)) (x:=(.tmp 8)) (T:=115) (d:=62) (ty:=115) (gd:=none) (by kernel_rfl) rfl (by kernel_rfl) rfl (BE a3 rfl)) (sd (LE (x:=(.tmp 15)) (T:=113) (n:=10) (d:=63) (ty:=113) (gd:=none) (by kernel_rfl) rfl (by kernel_rfl) (by kernel_rfl) (FN _) rfl (.inl (List.mem_of_getElem? (i:=0) rfl))) (sS (HF (x:=(.tmp 62)) (y:=(.tmp 63)) (u:=(.const (.bool true))) (T:=115) (kt:=113) (et:=4) (k:=(BC (moved (((zs.getD (j) AP))) x))) (kvs:=GE ((visX (visJ g9 zs j) (zs.getD (j) AP) xs).1)) 2 (ty:=0) (gd:=none) (by kernel_rfl) rfl (by kernel_rfl) (IL (by kernel_rfl) (by kernel_rfl)) rfl rfl rfl rfl m8 (fun l4 l3 g8=>?_)))));rw [LU] at g8;rw [if_neg h5] at g8;refine nm (se (rr ?_));refine sd (dlb 64 3 0 e4 (vS a5 c9.length a6)) (sp 1 [(65,vP d7 0)] (sS (sbs 66 108 1 #[vP d7 0] (fun M4=>(sS (AN (d:=67) (x:=(.tmp 64)) (y:=(.tmp 66)) (T:=116) (T':=116) (E:=108) (E':=108) (sz:=1) (bs:=8) (z:=.pointer none) (cell:=AO) (xs:=c9) (ys:=[(vP d7 0:Value)]) (Ms:=g2) (ty:=116) (gd:=none) (by kernel_rfl) rfl (by kernel_rfl) (by kernel_rfl) (by kernel_rfl) (by kernel_rfl) (by kernel_rfl) (by decide) (by kernel_rfl) rfl rfl (E8) (PU (PU (PU (PU (PM.symm))))) (FD rfl) (CI 0 rfl rfl) (by first | omega | (simp only [LC,LN,LA,LK,LD];omega)) (fun P6 k9 l8=>(AR (M':=((j9,Obj.cells (BJ (BC (moved (((zs.getD (j) AP))) x)).val) 113 (0,0))::(bX k #[vI (x.frm),vI (x.to),vI (x.many)] 52)::(d0,Obj.map l4 l3)::(bX e4 #[vS a5 c9.length a6] 116)::(k9++F1))) (fun w h=>(h.perm (PW (PW (PW (PW PM))))).sub (TC _ (TR _))) ?_))))))));obtain ⟨j1,j2,r4,G8⟩:=l8.shape;subst r4;have P7:=g1.snoc (YardH.mk (Y:=moved (zs.getD (j) AP) x) p3 a0 a1 f4);refine sS (ss 3 0 e4 [vS j1 (c9++([(vP d7 0:Value)])).length j2] [vS j1 (c9++([(vP d7 0:Value)])).length j2] (_::_::_::_::_) (cs:=[_]) rfl rfl (ee (NB ?_)));refine pst_round (M':=((d0,Obj.map l4 l3)::(bX e4 #[vS j1 (c9++([(vP d7 0:Value)])).length j2] 116)::k9)) (IT (IT (IT (IT (IT (IT e6 c8) c5) c6) a7) a8) a9) ?_ (by simp only [AA,NA,CA];exact (TC _ (TC _ (TR _))));exact ⟨[],_,rfl,rfl,⟨_,_,_,_,_,rfl,(by rw [OE,visit_new h5];exact g8),l8,(by rw [OE,visit_new h5];exact P7)⟩⟩
    have B8:=h5;have h5:=decI_t (BW h5);refine AH (NB ?_);refine pst_round (M':=((d0,Obj.map g7 g6)::(bX e4 #[vS a5 c9.length a6] 116)::g2)) (IT (IT (IT (IT (IT (IT e6 c8) c5) c6) a7) a8) a9) ?_ (by simp only [AA,NA,CA];exact (TC _ (TC _ (TR _))));exact ⟨[],_,rfl,rfl,⟨_,_,_,_,_,rfl,(by rw [OE,visit_old h5];exact m8),E8,(by rw [OE,visit_old h5];exact g1)⟩⟩
   ·intro D I2 Mr2 M2 hle2 hR2 hC2;replace a2:=hle2.blk _ _ a2;replace a3:=hle2.blk _ _ a3;replace xh:=xh.mono hle2;replace b7:=hle2.blk _ _ b7;replace c7:=hle2.blk _ _ c7;replace d4:=hle2.blk _ _ d4;replace d5:=hle2.blk _ _ d5;obtain rfl:Mr2=[]:=hR2;obtain ⟨s4,s3,U0,j5,x6,rfl,C2,K0,P8⟩:=hC2;obtain ⟨h9,i0,s1,K2⟩:=K0.shape;subst s1;refine pst_mem (M':=((D,Obj.deferred (some []))::(d0,Obj.map s4 s3)::(bX e4 #[vS h9 j5.length i0] 116)::(x6++(bX b1 #[vS b0 Y.cars.length b2,vS b3 Y.room.length b4,vS b5 Y.tracks.length b6] 26)::(nM++(Sl.blocksOf j8++F))))) (fun w h=>by simpa only [AA,CA,NA] using h) (ppm (M':=((D,Obj.deferred (some []))::(d0,Obj.map s4 s3)::(bX e4 #[vS h9 j5.length i0] 116)::(bX b1 #[vS b0 Y.cars.length b2,vS b3 Y.room.length b4,vS b5 Y.tracks.length b6] 26)::(x6++(nM++(Sl.blocksOf j8++F))))) (PC _ (PC _ (PC _ PM))) (NB (NB (NX (rr (sd (da 68 (↑j) (1)) (sp 1 [(39,vI (↑j+1))] (ee (ppm (M':=((Sl.blocksOf (D::j8)++(d0,Obj.map s4 s3)::(bX e4 #[vS h9 j5.length i0] 116)::(bX b1 #[vS b0 Y.cars.length b2,vS b3 Y.room.length b4,vS b5 Y.tracks.length b6] 26)::(x6++(nM++F))))) (PC _ (PU (PU (PU (PV (PO _ _ _)))))) ?_)))))))));refine AG (zs.length-(j+1)) (by omega) ?_;intro a w hS hD hW;exact ⟨I2,j+1,(vS h9 j5.length i0),j5,x6,s4,s3,D::j8,(IT (IT (IT hJ1 e5) e3) hle2),by omega,K0,(by rw [visJ_succ (by omega)];exact P8),(by rw [visJ_succ (by omega)];exact C2),hS.sub (.consE 39 rfl rfl (.cons 4 rfl (.cons 5 rfl (.cons 8 rfl (.cons 9 rfl (.cons 10 rfl (.cons 34 rfl (.cons 35 rfl (.cons 37 rfl (.cons 38 rfl (.nil _))))))))))),hD,hW.perm (((PA _ (PS _ _ _)).trans PM).trans (PC _ (PW (PW (PV (PO _ _ _)))))),rfl⟩
   intro D c xs I2 M2 hle2 hS2;exact hS2.elim
  have B7:=h4;have h4:=BX h4;refine CC 2 ((EP (EP (EB (NX (rr (sd (dlb 69 0 0 e4 (vS j6 k8.length j7)) (sp 1 [(9,vS j6 k8.length j7)] (ee (NB (NX (rr (sd (da 70 (↑k) (1)) (sp 1 [(35,vI (↑k+1))] (ee ?_)))))))))))))));refine AG (d-(k+1)) (by omega) ?_;intro a w hS hD hW;exact ⟨J1,k+1,(vS j6 k8.length j7),k8,xM,(visJ g9 zs j).2,(visJ g9 zs j).1,o6,p0,j8,(IT hJ0 hJ1),by omega,hr.trans (reach_step (by omega) (by omega)),(v5.j i3 j),xo,xh,p8,hS.sub (.consE 9 rfl rfl (.consE 35 rfl rfl (.cons 4 rfl (.cons 5 rfl (.cons 8 rfl (.cons 34 rfl (.nil _))))))),hD,(hW.perm (PC _ ((PU (PM.symm)).trans (PA _ (PC _ (PC _ (PO _ _ _))))))).sub (TC _ (TT (TR _) (TB _ _))),rfl⟩
 have B6:=h3;have h3:=BX h3;refine CC 0 ((EP (EP (EB (NX (rqr (sd (BM (v:=.map (some d0)) (x:=(.tmp 8)) (T:=115) (d:=71) (ty:=115) (gd:=none) (by kernel_rfl) rfl (by kernel_rfl) rfl (BE a3 rfl)) (sd (BL (MO (x:=(.tmp 71)) (T:=115) (K:=113) (E:=4) (d:=72) (ty:=3) (gd:=none) (by kernel_rfl) rfl (by kernel_rfl) rfl (.inl (List.mem_of_getElem? (i:=0) rfl))) (congrArg (fun n:Nat=>Value.int .i64 ↑n) ((MapIs.size p9).trans (LQ _)))) (sp 2 [(5,vI (0)),(4,vI (↑(g9.length)))] (se (BO ?_)))))))))));have M9:=reach_end hr (by omega);have G6:=reachE_ok r0 C1;rw [show dr.toNat=d by omega,M9] at G6;refine HS (R:=((d0,Obj.map es cl)::(bX b1 #[vS b0 Y.cars.length b2,vS b3 Y.room.length b4,vS b5 Y.tracks.length b6] 26)::(nM++F))) (Ds) (.inl rfl) (PU (PU (PO _ _ _))) (CY (t:=4) (u:=5) [] (by kernel_rfl) rfl rfl (TC _ (TC _ (TT (TR _) (TB _ _)))) (IT (IT (IT (IT (IT (IT (IT q1 j0) h8) f8) f9) g0) f5) hJ0) ?_);exact ⟨(congrArg (fun p:Int × Int=>Value.tuple #[vI p.1,vI p.2]) G6.symm),rfl⟩
end Go.Proofs.YtcaocbhbofejnaaGreatDoor
namespace Go.Sl
open Go
theorem IsRows.split {I:Imm} {v:Value} {xss:List (List Int)} (h:IsRows I v xss):∃ vs:List Value,PG I v vs∧RowsV I vs xss:=by
  obtain ⟨a,c,b,o,f,h1,h2,h3,h4,h5⟩:=h;have hl:((List.range xss.length).map f).length=xss.length:=by simp
  have hg:∀ i,i<xss.length→((List.range xss.length).map f).getD i undef=f i:=fun i hi=>by simp [List.getD,hi]
  refine ⟨(List.range xss.length).map f,⟨a,c,b,o,by rw [hl];exact h1,by rw [hl];exact h2,by rw [hl];exact h3,?_⟩,hl,fun i hi=>by rw [hg i hi];exact h5 i hi⟩;rw [hl];refine ⟨h4.addr,fun i hi g hg2=>?_⟩;have:=h4.get i hi g hg2;show ICell I _ (((List.range xss.length).map f).getD i undef);rw [hg i hi];exact this
theorem RowsV.take {I:Imm} {vs:List Value} {xss:List (List Int)} (h:RowsV I vs xss) (k:Nat):RowsV I (vs.take k) (xss.take k):=by
  refine ⟨by simp [h.1],fun i hi=>?_⟩;have hi2:i<k∧i<xss.length:=by rw [List.length_take] at hi;omega
  have:=h.2 i hi2.2;simp only [List.getD] at this ⊢;rw [List.getElem?_take_of_lt hi2.1,List.getElem?_take_of_lt hi2.1];exact this
theorem RowsV.drop {I:Imm} {vs:List Value} {xss:List (List Int)} (h:RowsV I vs xss) (k:Nat):RowsV I (vs.drop k) (xss.drop k):=by
  refine ⟨by simp [h.1],fun i hi=>?_⟩;have hi2:k+i<xss.length:=by simp at hi;omega
  have:=h.2 (k+i) hi2;simp only [List.getD] at this ⊢;rw [List.getElem?_drop,List.getElem?_drop];exact this
theorem RowsV.append {I:Imm} {vs ws:List Value} {xss yss:List (List Int)} (h:RowsV I vs xss) (k:RowsV I ws yss):RowsV I (vs++ws) (xss++yss):=by
  have h1:=h.1;refine ⟨by simp [h.1,k.1],fun i hi=>?_⟩;simp only [List.length_append] at hi
  by_cases e:i<xss.length
  · have:=h.2 i e
    simp only [List.getD] at this ⊢;rw [List.getElem?_append_left (by omega),List.getElem?_append_left e];exact this
  · have:=k.2 (i-xss.length) (by omega)
    simp only [List.getD] at this ⊢;rw [List.getElem?_append_right (by omega),List.getElem?_append_right (by omega),h1];exact this
end Go.Sl
namespace Go.Sh
open Go Go.Sl
section
variable {xs ys:List Int} {k:Nat}
end
def GS (n:Nat):List Int:=(List.range n).map fun i:Nat=>(i:Int)
theorem NE (n:Nat):GS (n+1)=GS n++[(n:Int)]:=by simp [GS,List.range_succ]
theorem wholeL_length (n:Nat):(GS n).length=n:=by simp [GS]
section
variable {o l:List Int} {k:Nat}
end
section
variable {α β:Type}
def IQ (f:α→β→β) (d:α) (bl:List α) (rec:List α→List β) (k:Nat):List β:=(List.range' k (bl.length-k)).flatMap fun i=>(rec (bl.eraseIdx i)).map (f (bl.getD i d))
def ordN (f:α→β→β) (d:α) (z:β):Nat→List α→List β
  | 0,_=>[z]
  | n+1,bl=>IQ f d bl (ordN f d z n) 0
variable {f:α→β→β} {d:α} {bl:List α} {rec:List α→List β} {k:Nat}
theorem ordFrom_go (hk:k<bl.length):IQ f d bl rec k=(rec (bl.eraseIdx k)).map (f (bl.getD k d))++IQ f d bl rec (k+1):=by
  unfold IQ;rw [FU hk];simp
theorem ordFrom_done (hk:bl.length≤k):IQ f d bl rec k=[]:=by
  unfold IQ;rw [show bl.length-k=0 by omega];rfl
theorem map_step {xs:List β} {g:β→β} {j:Nat} {b:β} (hj:j<xs.length):(xs.drop j).map g=g (xs.getD j b)::(xs.drop (j+1)).map g:=by
  rw [BR (d:=b) hj];rfl
theorem map_end {xs:List β} {g:β→β} {j:Nat} (hj:xs.length≤j):(xs.drop j).map g=[]:=by rw [DA hj];rfl
theorem MB {k:Nat}:bl.take k++bl.drop (k+1)=bl.eraseIdx k:=(List.eraseIdx_eq_take_drop_succ ..).symm
theorem JV {n:Nat} (hk:k<bl.length) (h:bl.length=n+1):(bl.eraseIdx k).length=n:=by rw [List.length_eraseIdx,if_pos hk];omega
theorem ordN_count:∀ (n:Nat) (bl:List α) {z:β},bl.length=n→(ordN f d z n bl).length=fact n:=by
  intro n
  induction n with
  | zero=>intro bl z _;rfl
  | succ n ih=>
    intro bl z h;simp only [ordN,IQ,List.length_flatMap,List.length_map];have e:(List.range' 0 (bl.length-0)).map (fun i=>(ordN f d z n (bl.eraseIdx i)).length)=(List.range' 0 (bl.length-0)).map fun _=>fact n:=by
      refine List.map_congr_left fun i hi=>?_
      have:=List.mem_range'_1.1 hi;exact ih _ (JV (by omega) h)
    rw [e,List.map_const',List.sum_replicate_nat,List.length_range',h];simp [fact]
end
def FY:Nat→List (List Int)→List (List Int):=ordN (fun b r=>b++r) [] []
theorem fact_le5 {n:Nat} (h:n≤5):fact n≤120:=by
  match n,h with
  | 0,_ | 1,_ | 2,_ | 3,_ | 4,_ | 5,_=>decide
theorem rowsN_len {m:Nat}:∀ (n:Nat) (bl:List (List Int)),bl.length=n→(∀ b∈bl,b.length≤m)→∀ x∈FY n bl,x.length≤m*n:=by
  intro n
  induction n with
  | zero=>intro bl _ _ x hx;simp [FY,ordN] at hx;subst hx;simp
  | succ n ih=>
    intro bl h hb x hx;simp only [FY,ordN,IQ,List.mem_flatMap,List.mem_map] at hx;obtain ⟨i,hi,y,hy,rfl⟩:=hx;have hi:=List.mem_range'_1.1 hi;have h1:=ih _ (JV (by omega) h) (fun b hb2=>hb b (List.mem_of_mem_eraseIdx hb2)) y hy;have h2:=hb _ (AJ (d:=[]) (xs:=bl) (k:=i) (by omega));rw [List.length_append,Nat.mul_succ];omega
def exYard:Yard:=⟨[⟨2,30,25,0,true,false⟩,⟨1,20,10,0,false,true⟩,⟨2,40,30,1,true,true⟩,⟨1,10,0,1,false,true⟩],[10,3,2],[[0,1,2,3],[],[]]⟩
def exFour:List Shift:=[⟨0,1,2⟩,⟨0,2,1⟩,⟨1,0,2⟩,⟨2,0,1⟩]
theorem coupled_raw {cs:List Car} {t:List Int} {k:Nat} (hk:k<t.length):CE cs t ↑k=(decide (0<(k:Int))&&(decide (0<(FJ cs (t.getD k 0)).grp)&&decide ((FJ cs (t.getD k 0)).grp=(FJ cs (t.getD ((k:Int)-1).toNat 0)).grp))):=by
  unfold CE inB;have e1:(↑k:Int).toNat=k:=by omega
  rw [e1,Bool.and_assoc];have e3:(decide ((1:Int)≤↑k)&&decide ((↑k:Int)≤↑t.length-1))=decide (0<(k:Int)):=by
    by_cases h:0<(k:Int)
    · have h1:(1:Int)≤↑k:=by omega
      have h2:(↑k:Int)≤↑t.length-1:=by omega
      rw [decide_eq_true h,decide_eq_true h1,decide_eq_true h2];rfl
    · have h1:¬ (1:Int)≤↑k:=by omega
      rw [decide_eq_false h,decide_eq_false h1];rfl
  rw [e3]
end Go.Sh
namespace Go.Sl
open Go
theorem RowsV.one {I:Imm} {vs:List Value} {xss:List (List Int)} (h:RowsV I vs xss):vs.all FC=true:=by
  rw [List.all_eq_true];intro v hv;obtain ⟨i,hi,rfl⟩:=List.mem_iff_getElem.1 hv;have:=h.2 i (h.1▸hi);obtain ⟨a,c,b,o,e,_⟩:=this;rw [List.getD,List.getElem?_eq_getElem hi] at e;simp only [Option.getD_some] at e;rw [e];rfl
end Go.Sl
namespace Go.Proofs.YtcaocbhbofejnaaGreatDoor
open Go Go.Sl Go.Sh
set_option maxRecDepth 100000
noncomputable def c_drawl (p:List Nat):Code:=sub (AU Tryz.f49) p
theorem NJ (I:Imm) (f:Int) (t:Int) (m:Int):Ct Tryz.prog 49 #[vI f,vI t,vI m] I ([]) (fun v I' M'=>v=.agg #[vI ((⟨f,t,m⟩:Shift)).frm,vI ((⟨f,t,m⟩:Shift)).to,vI ((⟨f,t,m⟩:Shift)).many]∧M'=[]):=by
 refine fr (args:=[_,_,_]) (N:=11) Tryz.func49 (fun F=>?_);show Run _ _ (c_drawl []) _ _ [(0,vI (f)),(1,vI (t)),(2,vI (m))] _ _;refine rnm (rqr ?_);refine sS (sal 6 52 #[vI (0),vI (0),vI (0)] (fun b1=>(sn (sp 4 [(10,.agg #[vI (f),vI (t),vI (m)])] (sS (ss 0 0 b1 [vI (f),vI (t),vI (m)] [vI (f),vI (t),vI (m)] (_::_) (cs:=[_,_,_]) rfl rfl (se (BO (JZ (t:=6) (T:=52) (n:=3) [] (by kernel_rfl) rfl (by kernel_rfl) rfl (BG (n:=3) (cs:=#[vI (f),vI (t),vI (m)]) (b:=b1) (off:=0) (T:=52) (fz:=(0,0)) (vs:=[vI (f),vI (t),vI (m)]) (by simp) rfl) (.inl ⟨by kernel_rfl,rfl⟩) (TC _ (TR _)) (IR _) ?_)))))))));exact ⟨rfl,rfl⟩
noncomputable def c_four (p:List Nat):Code:=sub (AU Tryz.f69) p
theorem four_ct (I:Imm):Ct Tryz.prog 69 #[] I ([]) (fun v I' M'=>∃ u:Value,∃ Ms:Seg,v=u∧M'=Ms∧Own 52 3 DL u (exFour) Ms):=by
 refine fr (args:=[]) (N:=6) Tryz.func69 (fun F=>?_);show Run _ _ (c_four []) _ _ [] _ _;refine rnm (rqr ?_);refine sp 1 [(0,vN)] (sn (sS (sc (some 1) (NJ _ (0) (1) (2) :) (.refl _) (fun c7 I1 c6 a9 b7=>?_))));obtain ⟨b6,b5⟩:=b7;rw [b6,b5];clear b6 b5;refine nm ?_;refine sS (sc (some 2) (NJ _ (0) (2) (1) :) (.refl _) (fun c1 I8 b8 b0 b2=>?_));obtain ⟨a6,a3⟩:=b2;rw [a6,a3];clear a6 a3;refine nm ?_;refine sS (sc (some 3) (NJ _ (1) (0) (2) :) (.refl _) (fun c2 c4 b9 a1 b3=>?_));obtain ⟨a7,a4⟩:=b3;rw [a7,a4];clear a7 a4;refine nm ?_;refine sS (sc (some 4) (NJ _ (2) (0) (1) :) (.refl _) (fun c3 c5 c0 a2 b4=>?_));obtain ⟨a8,a5⟩:=b4;rw [a8,a5];clear a8 a5;refine nm ?_;refine sS (sbs 5 52 4 #[vI (((⟨0,1,2⟩:Shift)).frm),vI (((⟨0,1,2⟩:Shift)).to),vI (((⟨0,1,2⟩:Shift)).many),vI (((⟨0,2,1⟩:Shift)).frm),vI (((⟨0,2,1⟩:Shift)).to),vI (((⟨0,2,1⟩:Shift)).many),vI (((⟨1,0,2⟩:Shift)).frm),vI (((⟨1,0,2⟩:Shift)).to),vI (((⟨1,0,2⟩:Shift)).many),vI (((⟨2,0,1⟩:Shift)).frm),vI (((⟨2,0,1⟩:Shift)).to),vI (((⟨2,0,1⟩:Shift)).many)] (fun a0=>(pm (M':=(([(bX a0 #[vI (((⟨0,1,2⟩:Shift)).frm),vI (((⟨0,1,2⟩:Shift)).to),vI (((⟨0,1,2⟩:Shift)).many),vI (((⟨0,2,1⟩:Shift)).frm),vI (((⟨0,2,1⟩:Shift)).to),vI (((⟨0,2,1⟩:Shift)).many),vI (((⟨1,0,2⟩:Shift)).frm),vI (((⟨1,0,2⟩:Shift)).to),vI (((⟨1,0,2⟩:Shift)).many),vI (((⟨2,0,1⟩:Shift)).frm),vI (((⟨2,0,1⟩:Shift)).to),vI (((⟨2,0,1⟩:Shift)).many)] 52)]++F))) (PR _) ?_)));have b1:Own 52 3 DL (vS (some ⟨a0,0,none⟩) 4 4) ([(⟨0,1,2⟩:Shift),(⟨0,2,1⟩:Shift),(⟨1,0,2⟩:Shift),(⟨2,0,1⟩:Shift)]:List Shift) [(bX a0 #[vI (((⟨0,1,2⟩:Shift)).frm),vI (((⟨0,1,2⟩:Shift)).to),vI (((⟨0,1,2⟩:Shift)).many),vI (((⟨0,2,1⟩:Shift)).frm),vI (((⟨0,2,1⟩:Shift)).to),vI (((⟨0,2,1⟩:Shift)).many),vI (((⟨1,0,2⟩:Shift)).frm),vI (((⟨1,0,2⟩:Shift)).to),vI (((⟨1,0,2⟩:Shift)).many),vI (((⟨2,0,1⟩:Shift)).frm),vI (((⟨2,0,1⟩:Shift)).to),vI (((⟨2,0,1⟩:Shift)).many)] 52)]:=Own.lit rfl rfl;refine sp 1 [(0,vS (some ⟨a0,0,none⟩) 4 4)] (se (BO (AE (t:=0) ([(bX a0 #[vI (((⟨0,1,2⟩:Shift)).frm),vI (((⟨0,1,2⟩:Shift)).to),vI (((⟨0,1,2⟩:Shift)).many),vI (((⟨0,2,1⟩:Shift)).frm),vI (((⟨0,2,1⟩:Shift)).to),vI (((⟨0,2,1⟩:Shift)).many),vI (((⟨1,0,2⟩:Shift)).frm),vI (((⟨1,0,2⟩:Shift)).to),vI (((⟨1,0,2⟩:Shift)).many),vI (((⟨2,0,1⟩:Shift)).frm),vI (((⟨2,0,1⟩:Shift)).to),vI (((⟨2,0,1⟩:Shift)).many)] 52)]) (by kernel_rfl) rfl (TK _ (TR _)) (IT (IT (IT a9 b0) a1) a2) ?_)));exact ⟨_,_,rfl,rfl,b1⟩
noncomputable def c_yard (p:List Nat):Code:=sub (AU Tryz.f68) p
theorem yard_ct (I:Imm):Ct Tryz.prog 68 #[] I ([]) (fun v I' M'=>∃ u_0:Value,∃ Ms_0:Seg,∃ u_1:Value,∃ Ms_1:Seg,∃ u_2:Value,∃ ws_2:List Value,∃ Ms_2:Seg,v=.agg #[u_0,u_1,u_2]∧M'=Ms_0++(Ms_1++(Ms_2))∧Own 56 6 CV u_0 ((exYard).cars) Ms_0∧Own 3 1 BA u_1 ((exYard).room) Ms_1∧Own 23 1 AO u_2 ws_2 Ms_2∧RowsV I' ws_2 ((exYard).tracks)):=by
 refine fr (args:=[]) (N:=10) Tryz.func68 (fun F=>?_);show Run _ _ (c_yard []) _ _ [] _ _;refine rnm (rqr ?_);refine sS (sal 0 26 #[vN,vN,vN] (fun b1=>(sn (sp 4 [(4,.agg #[vI (1),vI (10),vI (0),vI (1),.bool (false),.bool (true)]),(3,.agg #[vI (2),vI (40),vI (30),vI (1),.bool (true),.bool (true)]),(2,.agg #[vI (1),vI (20),vI (10),vI (0),.bool (false),.bool (true)]),(1,.agg #[vI (2),vI (30),vI (25),vI (0),.bool (true),.bool (false)])] (sS (sbs 5 56 4 #[vI (2),vI (30),vI (25),vI (0),.bool (true),.bool (false),vI (1),vI (20),vI (10),vI (0),.bool (false),.bool (true),vI (2),vI (40),vI (30),vI (1),.bool (true),.bool (true),vI (1),vI (10),vI (0),vI (1),.bool (false),.bool (true)] (fun b3=>(sS (sbs 6 3 3 #[vI (10),vI (3),vI (2)] (fun b5=>(sS (sbs 7 3 4 #[vI (0),vI (1),vI (2),vI (3)] (fun b7=>(pm (M':=((bX b5 #[vI (10),vI (3),vI (2)] 3)::(bX b3 #[vI (2),vI (30),vI (25),vI (0),.bool (true),.bool (false),vI (1),vI (20),vI (10),vI (0),.bool (false),.bool (true),vI (2),vI (40),vI (30),vI (1),.bool (true),.bool (true),vI (1),vI (10),vI (0),vI (1),.bool (false),.bool (true)] 56)::(bX b1 #[vN,vN,vN] 26)::([(bX b7 #[vI (0),vI (1),vI (2),vI (3)] 3)]++F))) ((PS _ _ _).trans (PC _ ((PS _ _ _).trans (PC _ (PS _ _ _))))) ?_))))))))))))));have c0:Own 3 1 BA (vS (some ⟨b7,0,none⟩) 4 4) ([(0:Int),(1:Int),(2:Int),(3:Int)]:List Int) [(bX b7 #[vI (0),vI (1),vI (2),vI (3)] 3)]:=Own.lit rfl rfl;refine sfz (A:=((bX b5 #[vI (10),vI (3),vI (2)] 3)::(bX b3 #[vI (2),vI (30),vI (25),vI (0),.bool (true),.bool (false),vI (1),vI (20),vI (10),vI (0),.bool (false),.bool (true),vI (2),vI (40),vI (30),vI (1),.bool (true),.bool (true),vI (1),vI (10),vI (0),vI (1),.bool (false),.bool (true)] 56)::(bX b1 #[vN,vN,vN] 26)::F)) 0 c0 (PU (PU (PM.symm))) (fun b9 a4 a1=>?_);obtain ⟨a5,a7,a6,b0,a3,a8,a9,b2⟩:=id a1;cases a3;refine sS (sbs 8 23 3 #[vS (some ⟨b7,0,none⟩) 4 4,vN,vN] (fun a0=>(pm (M':=((bX a0 #[vS (some ⟨b7,0,none⟩) 4 4,vN,vN] 23)::(bX b5 #[vI (10),vI (3),vI (2)] 3)::(bX b1 #[vN,vN,vN] 26)::([(bX b3 #[vI (2),vI (30),vI (25),vI (0),.bool (true),.bool (false),vI (1),vI (20),vI (10),vI (0),.bool (false),.bool (true),vI (2),vI (40),vI (30),vI (1),.bool (true),.bool (true),vI (1),vI (10),vI (0),vI (1),.bool (false),.bool (true)] 56)]++F))) (PC _ (PC _ (PS _ _ _))) ?_)));have b4:Own 56 6 CV (vS (some ⟨b3,0,none⟩) 4 4) ([(⟨2,30,25,0,true,false⟩:Car),(⟨1,20,10,0,false,true⟩:Car),(⟨2,40,30,1,true,true⟩:Car),(⟨1,10,0,1,false,true⟩:Car)]:List Car) [(bX b3 #[vI (2),vI (30),vI (25),vI (0),.bool (true),.bool (false),vI (1),vI (20),vI (10),vI (0),.bool (false),.bool (true),vI (2),vI (40),vI (30),vI (1),.bool (true),.bool (true),vI (1),vI (10),vI (0),vI (1),.bool (false),.bool (true)] 56)]:=Own.lit rfl rfl;refine pm (M':=((bX a0 #[vS (some ⟨b7,0,none⟩) 4 4,vN,vN] 23)::(bX b1 #[vN,vN,vN] 26)::([(bX b5 #[vI (10),vI (3),vI (2)] 3)]++([(bX b3 #[vI (2),vI (30),vI (25),vI (0),.bool (true),.bool (false),vI (1),vI (20),vI (10),vI (0),.bool (false),.bool (true),vI (2),vI (40),vI (30),vI (1),.bool (true),.bool (true),vI (1),vI (10),vI (0),vI (1),.bool (false),.bool (true)] 56)]++F)))) (PC _ (PS _ _ _)) ?_;have b6:Own 3 1 BA (vS (some ⟨b5,0,none⟩) 3 3) ([(10:Int),(3:Int),(2:Int)]:List Int) [(bX b5 #[vI (10),vI (3),vI (2)] 3)]:=Own.lit rfl rfl;refine pm (M':=((bX b1 #[vN,vN,vN] 26)::([(bX a0 #[vS (some ⟨b7,0,none⟩) 4 4,vN,vN] 23)]++([(bX b5 #[vI (10),vI (3),vI (2)] 3)]++([(bX b3 #[vI (2),vI (30),vI (25),vI (0),.bool (true),.bool (false),vI (1),vI (20),vI (10),vI (0),.bool (false),.bool (true),vI (2),vI (40),vI (30),vI (1),.bool (true),.bool (true),vI (1),vI (10),vI (0),vI (1),.bool (false),.bool (true)] 56)]++F))))) (PS _ _ _) ?_;have b8:Own 23 1 AO (vS (some ⟨a0,0,none⟩) 3 3) ([(vS (some ⟨b7,0,none⟩) 4 4:Value),(vN:Value),(vN:Value)]:List Value) [(bX a0 #[vS (some ⟨b7,0,none⟩) 4 4,vN,vN] 23)]:=Own.lit rfl rfl;have a2:=((((RowsV.nil b9).snoc a1).snoc (IsSl.nil _)).snoc (IsSl.nil _));simp only [NA,CA] at a2;refine sp 1 [(9,.agg #[vS (some ⟨b3,0,none⟩) 4 4,vS (some ⟨b5,0,none⟩) 3 3,vS (some ⟨a0,0,none⟩) 3 3])] (sS (ss 0 0 b1 [vS (some ⟨b3,0,none⟩) 4 4,vS (some ⟨b5,0,none⟩) 3 3,vS (some ⟨a0,0,none⟩) 3 3] [vS (some ⟨b3,0,none⟩) 4 4,vS (some ⟨b5,0,none⟩) 3 3,vS (some ⟨a0,0,none⟩) 3 3] (_::_) (cs:=[_,_,_]) rfl rfl (se (BO (ppm (M':=(([(bX b3 #[vI (2),vI (30),vI (25),vI (0),.bool (true),.bool (false),vI (1),vI (20),vI (10),vI (0),.bool (false),.bool (true),vI (2),vI (40),vI (30),vI (1),.bool (true),.bool (true),vI (1),vI (10),vI (0),vI (1),.bool (false),.bool (true)] 56)]++([(bX b5 #[vI (10),vI (3),vI (2)] 3)]++([(bX a0 #[vS (some ⟨b7,0,none⟩) 4 4,vN,vN] 23)]++(bX b1 #[vS (some ⟨b3,0,none⟩) 4 4,vS (some ⟨b5,0,none⟩) 3 3,vS (some ⟨a0,0,none⟩) 3 3] 26)::F))))) ((PU (PV (PO _ _ _))).trans (PA _ ((PU (PO _ _ _)).trans (PA _ (PM.symm))))) (JZ (t:=0) (T:=26) (n:=3) ([(bX b3 #[vI (2),vI (30),vI (25),vI (0),.bool (true),.bool (false),vI (1),vI (20),vI (10),vI (0),.bool (false),.bool (true),vI (2),vI (40),vI (30),vI (1),.bool (true),.bool (true),vI (1),vI (10),vI (0),vI (1),.bool (false),.bool (true)] 56)]++([(bX b5 #[vI (10),vI (3),vI (2)] 3)]++([(bX a0 #[vS (some ⟨b7,0,none⟩) 4 4,vN,vN] 23)]))) (by kernel_rfl) rfl (by kernel_rfl) rfl (BG (n:=3) (cs:=#[vS (some ⟨b3,0,none⟩) 4 4,vS (some ⟨b5,0,none⟩) 3 3,vS (some ⟨a0,0,none⟩) 3 3]) (b:=b1) (off:=0) (T:=26) (fz:=(0,0)) (vs:=[vS (some ⟨b3,0,none⟩) 4 4,vS (some ⟨b5,0,none⟩) 3 3,vS (some ⟨a0,0,none⟩) 3 3]) (by simp) rfl) (.inl ⟨by kernel_rfl,rfl⟩) (by simp only [AA,NA,CA];exact (TK _ (TK _ (TK _ (TC _ (TR _)))))) a4 ?_))))));exact ⟨_,_,_,_,_,_,_,rfl,rfl,b4,b6,b8,a2⟩
def RowsAt (m:Nat):Prop:=∀ (I:Imm) (b:Value) (bl:List (List Int)) (n:Nat) (b_f:IsRows I b bl) (hn:bl.length=n) (h5:n≤5) (hel:∀ x∈bl,x.length≤5),n=m→Ct Tryz.prog 116 #[b] I ([]) (fun v I' M'=>∃ u:Value,∃ ws:List Value,∃ Ms:Seg,v=u∧M'=Ms∧Own 23 1 AO u ws Ms∧RowsV I' ws (FY n bl))
noncomputable def c_Rows (p:List Nat):Code:=sub (AU Tryz.f116) p
set_option maxHeartbeats 1000000 in
theorem rows_of (I:Imm) (b:Value) (bl:List (List Int)) (n:Nat) (b_f:IsRows I b bl) (hn:bl.length=n) (h5:n≤5) (hel:∀ x∈bl,x.length≤5) (ht:∀ m,m+1=n→RowsAt m):Ct Tryz.prog 116 #[b] I ([]) (fun v I' M'=>∃ u:Value,∃ ws:List Value,∃ Ms:Seg,v=u∧M'=Ms∧Own 23 1 AO u ws Ms∧RowsV I' ws (FY n bl)):=by
 obtain ⟨c1,c7,c6⟩:=IsRows.split b_f;obtain ⟨c2,c3,o8,p1,i9,o9,p0,a5⟩:=id c7;subst i9;have e5:=c6.1
 try simp only [LS,LA,LC,LN,LK] at e5
 refine fr (args:=[_]) (N:=49) Tryz.func116 (fun F=>?_);show Run _ _ (c_Rows []) _ _ [(0,vS c2 c1.length c3)] _ _;refine rnm (rqr ?_);refine sp 1 [(2,vN)] (se (rq (rqr (sp 3 [(9,.bool (cmp .eql (↑(c1.length)) (0)))] (se (rc 9 rfl (fun h1=>?_) (fun h1=>?_)))))))
 ·
  have l2:=h1;have h1:=DF h1;have p4:n=0:=by omega
  refine rqr (sS (sbs 10 23 1 #[vN] (fun b1=>(pm (M':=(([(bX b1 #[vN] 23)]++F))) (PR _) ?_))));have p5:Own 23 1 AO (vS (some ⟨b1,0,none⟩) 1 1) ([(vN:Value)]:List Value) [(bX b1 #[vN] 23)]:=Own.lit rfl rfl;have h8:=((RowsV.nil I).snoc (IsSl.nil _));simp only [NA,CA] at h8;refine sp 1 [(2,vS (some ⟨b1,0,none⟩) 1 1)] (se (BO ((RP (AE (t:=2) ([(bX b1 #[vN] 23)]) (by kernel_rfl) rfl (TK _ (TR _)) (IR _) ?_)))));exact ⟨_,_,_,rfl,rfl,p5,((show [[]]=FY n bl from by rw [p4];rfl)▸h8)⟩
 have l2:=h1;have h1:=DE h1;obtain ⟨m,hnm⟩:∃ m,n=m+1:=⟨n-1,by omega⟩;have hs:=ht m (by omega);have s1:=ordN_count (f:=fun b r=>b++r) (d:=[]) (z:=[]) (m+1) bl (by omega);have s2:=fact_le5 (n:=m+1) (by omega);have s0:(FY (m+1) bl).length≤120:=by (show (ordN _ _ _ _ _).length≤120);omega
 refine AH (NX (rqr (sp 1 [(3,vN)] (se (rq (rqr (sp 1 [(4,vI (0))] (se (rb 0 ?_)))))))));refine rl (fun mz a w=>∃ J0:Imm,∃ k:Nat,∃ i0:List (List Int),∃ d8:Value,∃ a3:Seg,∃ a7:List Value,(I.le J0)∧(k≤bl.length)∧(FY (m+1) bl=i0++IQ (fun b r=>b++r) [] bl (FY m) k)∧(RowsV J0 a7 (i0))∧(Own 23 1 AO d8 (a7) a3)∧Slots 49 [(3,d8),(4,vI ↑k),(0,vS c2 c1.length c3),(2,vN)] a∧a.defers=[]∧St J0 ((a3++F)) w∧mz=bl.length-k) ?_ ?_
 ·intro a w hS hD hW;exact ⟨_,I,0,[],(vN),[],[],IR _,Nat.zero_le _,rfl,(RowsV.nil _),(Own.nil _ _ _),hS.sub (.cons 3 rfl (.cons 4 rfl (.cons 0 rfl (.cons 2 rfl (.nil _))))),hD,hW,rfl⟩
 rintro mz a w ⟨J0,k,i0,d8,a3,a7,hJ0,hk,hr,a1,d2,hS,hD,hW,rfl⟩
 refine AX hS hD hW ?_;clear hS hD hW a w;replace c7:=c7.mono hJ0;replace a5:=a5.mono hJ0;replace c6:=c6.mono hJ0;obtain ⟨b6,b7,e6,i6⟩:=d2.shape;subst e6;have c4:=a1.1
 try simp only [LS,LA,LC,LN,LK] at c4
 refine rq (rqr (sp 4 [(14,.bool (cmp .lss (↑k) (↑(c1.length))))] (se (rc 14 rfl (fun h2=>?_) (fun h2=>?_)))))
 ·
  have l3:=h2;have h2:=BZ h2;refine AH (NX (rq (rb 1 (rq ?_))));refine rd 9 [(1,true),(2,true),(3,true),(5,true),(6,true),(7,true),(8,true),(0,false),(4,false)] ([]) ((a3++F)) (ox 2 [(19,vI (↑k)),(18,vS c2 c1.length c3)] ?_);have g0:=c7.cutHi (k) (by omega);obtain ⟨q6,q8,q7,r1,i2,q9,r0,r2⟩:=id g0;rw [i2] at g0;have f8:=c6.take (k);have d5:=f8.1
  try simp only [LS,LA,LC,LN,LK] at d5
  refine AB (BL (EA (x:=(.tmp 18)) (lo:=none) (hi:=(some (.tmp 19))) (T:=24) (e:=23) (sz:=1) (0) (k) (d:=20) (ty:=24) (gd:=none) (by kernel_rfl) rfl (by kernel_rfl) (by kernel_rfl) rfl (.inl ⟨rfl,rfl⟩) (.inr ⟨_,.i64,rfl,rfl⟩) (by omega) (by omega)) i2) (ox 2 [(23,vI (↑k)),(22,vS c2 c1.length c3)] ?_);refine AB (da 24 (↑k) (1)) ?_;have g1:=c7.cutLo (k+1) (by omega);obtain ⟨r3,r5,r4,r8,i3,r6,r7,r9⟩:=id g1;rw [i3] at g1;have f9:=c6.drop (k+1);have d6:=f9.1
  try simp only [LS,LA,LC,LN,LK] at d6
  refine AB (BL (EA (x:=(.tmp 22)) (lo:=(some (.tmp 24))) (hi:=none) (T:=24) (e:=23) (sz:=1) (k+1) (c1.length) (d:=25) (ty:=24) (gd:=none) (by kernel_rfl) rfl (by kernel_rfl) (by kernel_rfl) rfl (.inr ⟨_,.i64,rfl,rfl⟩) (.inl ⟨rfl,rfl⟩) (by omega) (by omega)) i3) ?_;refine CK (sbs 17 23 0 #[] (fun b9=>?_));refine AW (S':=((bX b9 #[] 23)::(a3++F))) (PR _) ?_;have l5:Own 23 1 AO (vS (some ⟨b9,0,none⟩) 0 0) ([]:List Value) [(bX b9 #[] 23)]:=Own.lit rfl rfl;refine CK (AN (d:=21) (x:=(.tmp 17)) (y:=(.tmp 20)) (T:=24) (T':=24) (E:=23) (E':=23) (sz:=1) (bs:=24) (z:=vN) (cell:=AO) (xs:=([]:List Value)) (ys:=c1.take (k)) (Ms:=[(bX b9 #[] 23)]) (ty:=24) (gd:=none) (by kernel_rfl) rfl (by kernel_rfl) (by kernel_rfl) (by kernel_rfl) (by kernel_rfl) (by kernel_rfl) (by decide) (by kernel_rfl) rfl rfl (l5) (PR _) (FD f8.one) g0.src (by first | omega | (simp only [LC,LN,LA,LK,LD];omega)) (fun s8 g3 f6=>?_));rw [NA] at f6;refine AW (S':=((g3++(a3++F)))) (PR _) ?_;obtain ⟨l9,m1,m3,p9⟩:=f6.shape;subst m3;show OFP _ _ _ _ _ _ ((21,vS l9 (c1.take (k)).length m1)::_) _ _;have d4:=(RowsV.nil _).append f8;simp only [NA] at d4;refine FB (nm (nm ?_));refine sS (AN (d:=26) (x:=(.tmp 21)) (y:=(.tmp 25)) (T:=24) (T':=24) (E:=23) (E':=23) (sz:=1) (bs:=24) (z:=vN) (cell:=AO) (xs:=c1.take (k)) (ys:=c1.drop (k+1)) (Ms:=g3) (ty:=24) (gd:=none) (by kernel_rfl) rfl (by kernel_rfl) (by kernel_rfl) (by kernel_rfl) (by kernel_rfl) (by kernel_rfl) (by decide) (by kernel_rfl) rfl rfl (f6) (PR _) (FD f9.one) g1.src (by first | omega | (have hq:=d4.1;simp only [LC,LN,LA,LK,LD] at hq ⊢;omega)) (fun s9 o7 g8=>(nm ?_)));obtain ⟨p6,p8,m4,q0⟩:=g8.shape;subst m4;have b5:=(d4).append f9;refine sfz undef g8 (.refl _) (fun o5 b2 c9=>?_);replace a5:=a5.mono b2;replace c6:=c6.mono b2;replace a1:=a1.mono b2;replace b5:=b5.mono b2;obtain ⟨j8,k0,j9,k3,f4,k1,k2,k4⟩:=id c9;cases f4;have c8:=b5.isRows c9;have g5:=b5.1;obtain ⟨j0,j2,j1,j5,i5,f3,j3,j4,j6,j7⟩:=id c8
  injection f3 with fr19_e1 fr19_e2 fr19_e3;subst fr19_e1;subst fr19_e3
  have g6:=hs o5 _ _ (m) c8 (by rw [MB];exact JV (by omega) (by omega)) (by omega) (by rw [MB];exact fun x hx=>hel x (List.mem_of_mem_eraseIdx hx)) (by rfl);refine sS (sc (some 27) (F:=((a3++F))) (g6 :) (.refl _) (fun q5 m8 q4 b4 l7=>?_));obtain ⟨s7,e8,a8,h4,g7,i1,b3⟩:=l7;rw [h4,g7];clear h4 g7;replace a5:=a5.mono b4;replace c6:=c6.mono b4;replace a1:=a1.mono b4;obtain ⟨e2,e3,i4,o4⟩:=i1.shape;subst i4;have a4:=b3.1
  try simp only [LS,LA,LC,LN,LK] at a4
  refine nm ?_;rw [MB] at b3;have a4:=b3.1
  try simp only [LS,LA,LC,LN,LK] at a4
  have s6:=b3.1;have s3:=ordN_count (f:=fun b r=>b++r) (d:=[]) (z:=[]) m (bl.eraseIdx k) (JV (k:=k) (by omega) (by omega));have s5:=fact_le5 (n:=m) (by omega);have s4:(FY m (bl.eraseIdx k)).length≤120:=by (show (ordN _ _ _ _ _).length≤120);omega
  refine sp 1 [(5,vS e2 e8.length e3)] (sn (sp 1 [(6,vI (0))] (se (rb 2 ?_))));refine rl (fun mz a w=>∃ J1:Imm,∃ j:Nat,∃ d7:List (List Int),∃ d9:Value,∃ a0:Seg,∃ a2:List Value,(m8.le J1)∧(j≤(FY m (bl.eraseIdx k)).length)∧(FY (m+1) bl=d7++(((FY m (bl.eraseIdx k)).drop j).map (fun r=>bl.getD k []++r)++IQ (fun b r=>b++r) [] bl (FY m) (k+1)))∧(RowsV J1 a2 (d7))∧(Own 23 1 AO d9 (a2) a0)∧Slots 49 [(3,d9),(6,vI ↑j),(0,vS c2 c1.length c3),(2,vN),(4,vI (↑k)),(5,vS e2 e8.length e3)] a∧a.defers=[]∧St J1 ((a8++(a0++F))) w∧mz=(FY m (bl.eraseIdx k)).length-j) ?_ ?_
  ·intro a w hS hD hW;exact ⟨_,m8,0,i0,vS b6 a7.length b7,a3,a7,IR _,Nat.zero_le _,hr.trans (by rw [ordFrom_go (by omega),List.drop_zero]),a1,d2,hS.sub (.cons 3 rfl (.cons 6 rfl (.cons 0 rfl (.cons 2 rfl (.cons 4 rfl (.cons 5 rfl (.nil _))))))),hD,hW,rfl⟩
  rintro mz a w ⟨J1,j,d7,d9,a0,a2,hJ1,hj,l8,a6,d3,hS,hD,hW,rfl⟩
  refine AX hS hD hW ?_;clear hS hD hW a w;replace a5:=a5.mono hJ1;replace c6:=c6.mono hJ1;replace a1:=a1.mono hJ1;replace b3:=b3.mono hJ1;obtain ⟨b8,c0,e7,i7⟩:=d3.shape;subst e7;have c5:=a6.1
  try simp only [LS,LA,LC,LN,LK] at c5
  refine rq (rqr (sp 4 [(31,.bool (cmp .lss (↑j) (↑(e8.length))))] (se (rc 31 rfl (fun h3=>?_) (fun h3=>?_)))))
  ·
   have l4:=h3;have h3:=BZ h3;refine AH (NX (rq (rb 3 ?_)));have p2:=hel _ (AJ (d:=[]) (xs:=bl) (k:=k) (by omega));have p3:=rowsN_len (m:=5) m (bl.eraseIdx k) (JV (k:=k) (by omega) (by omega)) (fun x hx=>hel x (List.mem_of_mem_eraseIdx hx)) _ (AJ (d:=[]) (xs:=(FY m (bl.eraseIdx k))) (k:=j) (by omega));have m9:=congrArg List.length l8;rw [map_step (b:=[]) (by omega)] at m9;simp only [LA,LC] at m9;refine rd 13 [(0,true),(2,true),(3,true),(4,true),(5,true),(7,true),(8,true),(9,true),(10,true),(1,false),(6,false),(11,false),(12,false)] (a8) ((a0++F)) (ox 3 [(37,vI (↑k)),(36,vS c2 c1.length c3),(34,vS b8 a2.length c0)] ?_);refine AB (di 38 1 (k) a5.addr) ?_;have e0:=c6.2 (k) (by omega);obtain ⟨n0,n2,n1,n5,f0,n3,n4,n6⟩:=id e0;rw [f0] at e0;refine AB (BL (dl 39 (vals_get a5 (k) (by omega))) f0) (ox 2 [(42,vI (↑j)),(41,vS e2 e8.length e3)] ?_);obtain ⟨p7,e9⟩:=i1.row undef;refine AB (di 43 1 (j) e9.addr) ?_;have e1:=b3.2 (j) (by omega);obtain ⟨n7,n9,n8,o2,f1,o0,o1,o3⟩:=id e1;rw [f1] at e1;refine AB (BL (dl 44 (e9.get (j) (by omega) 0 (by decide) _ _ (fun x hx=>by simp [hx]))) f1) ?_;refine CK (sbs 35 3 0 #[] (fun g2=>?_));refine AW (S':=((bX g2 #[] 3)::(a0++F))) (PM.symm) ?_;have l6:Own 3 1 BA (vS (some ⟨g2,0,none⟩) 0 0) ([]:List Int) [(bX g2 #[] 3)]:=Own.lit rfl rfl;refine CK (AN (d:=40) (x:=(.tmp 35)) (y:=(.tmp 39)) (T:=23) (T':=23) (E:=3) (E':=3) (sz:=1) (bs:=8) (z:=vI (0)) (cell:=BA) (xs:=([]:List Int)) (ys:=bl.getD (k) []) (Ms:=[(bX g2 #[] 3)]) (ty:=23) (gd:=none) (by kernel_rfl) rfl (by kernel_rfl) (by kernel_rfl) (by kernel_rfl) (by kernel_rfl) (by kernel_rfl) (by decide) (by kernel_rfl) rfl rfl (l6) (show List.Perm ((a8++(bX g2 #[] 3)::(a0++F))) ((bX g2 #[] 3)::(a8++(a0++F))) from PM) (CH _) e0.src (by first | omega | (simp only [LC,LN,LA,LK,LD];omega)) (fun t0 e4 f7=>?_));rw [NA] at f7;refine AW (S':=((e4++(a0++F)))) (PO _ _ _) ?_;obtain ⟨m0,m2,m5,q1⟩:=f7.shape;subst m5;show OFP _ _ _ _ _ _ ((40,vS m0 (bl.getD (k) []).length m2)::_) _ _;refine CK (AN (d:=45) (x:=(.tmp 40)) (y:=(.tmp 44)) (T:=23) (T':=23) (E:=3) (E':=3) (sz:=1) (bs:=8) (z:=vI (0)) (cell:=BA) (xs:=bl.getD (k) []) (ys:=((FY m (bl.eraseIdx k))).getD (j) []) (Ms:=e4) (ty:=23) (gd:=none) (by kernel_rfl) rfl (by kernel_rfl) (by kernel_rfl) (by kernel_rfl) (by kernel_rfl) (by kernel_rfl) (by decide) (by kernel_rfl) rfl rfl (f7) (show List.Perm ((a8++(e4++(a0++F)))) ((e4++(a8++(a0++F)))) from (PO _ _ _)) (CH _) e1.src (by first | omega | (simp only [LC,LN,LA,LK,LD];omega)) (fun t1 f2 g9=>?_));refine AW (S':=((f2++(a0++F)))) (PO _ _ _) ?_;obtain ⟨a9,b0,m6,q2⟩:=g9.shape;subst m6;show OFP _ _ _ _ _ _ ((45,vS a9 ((bl.getD (k) [])++(((FY m (bl.eraseIdx k))).getD (j) [])).length b0)::_) _ _;refine CK (sbs 46 23 1 #[vS a9 ((bl.getD (k) [])++(((FY m (bl.eraseIdx k))).getD (j) [])).length b0] (fun i8=>?_));refine AW (S':=((bX i8 #[vS a9 ((bl.getD (k) [])++(((FY m (bl.eraseIdx k))).getD (j) [])).length b0] 23)::(f2++(a0++F)))) (PM.symm) ?_;refine FB (nm ?_);refine pm (M':=((bX i8 #[vS a9 ((bl.getD (k) [])++(((FY m (bl.eraseIdx k))).getD (j) [])).length b0] 23)::(a8++(f2++(a0++F))))) PM (sfz (A:=((bX i8 #[vS a9 ((bl.getD (k) [])++(((FY m (bl.eraseIdx k))).getD (j) [])).length b0] 23)::(a8++(a0++F)))) 0 g9 (PU (PO _ _ _)) (fun o6 d1 d0=>?_));replace a1:=a1.mono d1;replace a6:=a6.mono d1;obtain ⟨k5,k7,k6,l0,f5,k8,k9,l1⟩:=id d0;cases f5;refine sS (AN (d:=47) (x:=(.tmp 34)) (y:=(.tmp 46)) (T:=24) (T':=24) (E:=23) (E':=23) (sz:=1) (bs:=24) (z:=vN) (cell:=AO) (xs:=a2) (ys:=[(vS a9 ((bl.getD (k) [])++(((FY m (bl.eraseIdx k))).getD (j) [])).length b0:Value)]) (Ms:=a0) (ty:=24) (gd:=none) (by kernel_rfl) rfl (by kernel_rfl) (by kernel_rfl) (by kernel_rfl) (by kernel_rfl) (by kernel_rfl) (by decide) (by kernel_rfl) rfl rfl (d3) (PU (PO _ _ _)) (FD rfl) (CI 0 rfl rfl) (by first | omega | (have hq:=a6.1;simp only [LC,LN,LA,LK,LD] at hq ⊢;omega)) (fun t2 g4 h0=>(AR (M':=((g4++(a8++F)))) (fun w h=>(h.perm PM).sub (TC _ (TR _))) ?_)));obtain ⟨h6,h7,m7,q3⟩:=h0.shape;subst m7;have h9:=(a6).snoc d0;refine sp 1 [(3,vS h6 (a2++([(vS a9 ((bl.getD (k) [])++(((FY m (bl.eraseIdx k))).getD (j) [])).length b0:Value)])).length h7)] (ee (NB (NX (rr (sp 1 [(32,vI (↑j))] (sd (da 33 (↑j) (1)) (sp 1 [(6,vI (↑j+1))] (ee ?_))))))));refine AG ((FY m (bl.eraseIdx k)).length-(j+1)) (by omega) ?_;intro a w hS hD hW;exact ⟨o6,j+1,d7++[(bl.getD (k) [])++(((FY m (bl.eraseIdx k))).getD (j) [])],vS h6 (a2++([(vS a9 ((bl.getD (k) [])++(((FY m (bl.eraseIdx k))).getD (j) [])).length b0:Value)])).length h7,g4,a2++([(vS a9 ((bl.getD (k) [])++(((FY m (bl.eraseIdx k))).getD (j) [])).length b0:Value)]),(IT hJ1 d1),by omega,l8.trans (by rw [map_step (b:=[]) (by omega)];simp only [AA,CA,NA]),h9,h0,hS.sub (.consE 3 rfl rfl (.consE 6 rfl rfl (.cons 0 rfl (.cons 2 rfl (.cons 4 rfl (.cons 5 rfl (.nil _))))))),hD,hW.perm (PO _ _ _),rfl⟩
  have l4:=h3;have h3:=BX h3;refine CC 2 ((EP (EP (EB (NB (NX (rr (sp 1 [(15,vI (↑k))] (sd (da 16 (↑k) (1)) (sp 1 [(4,vI (↑k+1))] (ee ?_)))))))))));refine AG (bl.length-(k+1)) (by omega) ?_;intro a w hS hD hW;exact ⟨J1,k+1,d7,vS b8 a2.length c0,a0,a2,(IT (IT (IT hJ0 b2) b4) hJ1),by omega,l8.trans (by rw [map_end (by omega),NA]),a6,d3,hS.sub (.consE 3 rfl rfl (.consE 4 rfl rfl (.cons 0 rfl (.cons 2 rfl (.nil _))))),hD,(hW.perm (PR _)).sub (TT (TR _) (TB _ _)),rfl⟩
 have l3:=h2;have h2:=BX h2;refine CC 0 ((EP (EP (EB (NX (rqr (sp 2 [(2,vS b6 a7.length b7)] (se (BO (AE (t:=2) (a3) (by kernel_rfl) rfl (TA (TR _) _) hJ0 ?_))))))))));exact ⟨_,_,_,rfl,rfl,d2,((show i0=FY n bl from by rw [hnm,hr,ordFrom_done (by omega),List.append_nil])▸a1)⟩
end Go.Proofs.YtcaocbhbofejnaaGreatDoor
namespace Go.Sh
open Go Go.Sl
set_option maxRecDepth 100000
theorem ex_warm:ND exYard=([0,2,3,1],1,0):=by decide +kernel
theorem ex_reach:ML exYard 3=(4,0):=by decide +kernel
theorem ex_draw:(CD exYard [⟨0,1,2⟩]).2=0∧(CD exYard [⟨0,1,2⟩]).1.tracks=[[0,1],[2,3],[]]:=by decide +kernel
theorem ex_fewest:(DG exYard [0,2,3,1]).1=exFour∧(DG exYard [0,2,3,1]).2=0:=by decide +kernel
theorem ex_lacks:(GX exYard [1,2,3,0]).1=[1,2]∧(GX exYard [1,2,3,0]).2=0:=by decide +kernel
end Go.Sh
namespace Go.Proofs.YtcaocbhbofejnaaGreatDoor
open Go Go.Sl Go.Sh
set_option maxRecDepth 100000
noncomputable def c_shunting (p:List Nat):Code:=sub (AU Tryz.f19) p
set_option maxHeartbeats 2000000 in
theorem shunting_ct (I:Imm) (hG:Glob I):Ct Tryz.prog 19 #[] I ([]) (fun v I' M'=>v=.bool (true)∧M'=[]):=by
 refine fr (args:=[]) (N:=90) Tryz.func19 (fun F=>?_);show Run _ _ (c_shunting []) _ _ [] _ _;refine rnm ?_;have hx1:exYard.tracks.length=3:=rfl;have hx2:exYard.cars.length=4:=rfl;have hx3:exYard.room.length=3:=rfl;refine rqr (sp 1 [(0,.bool (false))] (sn ?_));have v6:=yard_ct I;refine sS (sc (some 13) (v6 :) (.refl _) (fun a7d I1 a6y x1 hp3=>?_));obtain ⟨a7l,p4,a7m,p5,a5z,a4z,i9,hv4,hm5,z4,z5,z6,d7⟩:=hp3;rw [hv4,hm5];clear hv4 hm5;replace hG:=hG.mono x1;obtain ⟨a4m,a4n,u3,a4o⟩:=z4.shape;subst u3;obtain ⟨a4s,a4t,u4,a4u⟩:=z5.shape;subst u4;obtain ⟨a0r,a0s,p1,a0t⟩:=z6.shape;subst p1;have k6:=d7.1
 try simp only [LS,LA,LC,LN,LK] at k6
 refine AR (M':=((p4++(p5++(i9++F))))) (fun w h=>by simpa only [AA,CA,NA] using h) (nm ?_);have v7:=NJ I1 (0) (1) (2);refine sS (sc (some 14) (F:=((p4++(p5++(i9++F))))) (v7 :) (.refl _) (fun a7e I20 a6z j7 a3z=>?_));obtain ⟨y8,x2⟩:=a3z;rw [y8,x2];clear y8 x2;replace hG:=hG.mono j7;replace d7:=d7.mono j7;refine nm ?_;refine sfz AD z4 (.refl _) (fun I28 k2 b9=>?_);replace hG:=hG.mono k2;replace d7:=d7.mono k2;obtain ⟨a1z,a2b,a2a,a2e,s5,a2c,a2d,a2f⟩:=id b9;cases s5;refine sfz 0 z5 (.refl _) (fun I31 h8 e6=>?_);replace hG:=hG.mono h8;replace d7:=d7.mono h8;replace b9:=b9.mono h8;obtain ⟨a2g,a2i,a2h,a2l,s6,a2j,a2k,a2m⟩:=id e6;cases s6;refine sfz undef z6 (.refl _) (fun I34 f3 j1=>?_);replace hG:=hG.mono f3;replace d7:=d7.mono f3;replace b9:=b9.mono f3;replace e6:=e6.mono f3;obtain ⟨a2n,a2p,a2o,a2s,s7,a2q,a2r,a2t⟩:=id j1;cases s7;have j0:=d7.isRows j1;have v4:=d7.1;obtain ⟨a1i,a1k,a1j,a1n,J1,s3,a1l,a1m,a1o,a1p⟩:=id j0
 injection s3 with fr37_e1 fr37_e2 fr37_e3;subst fr37_e1;subst fr37_e3
 have v8:=Draw_ct I34 _ (exYard) ((⟨0,1,2⟩:Shift)) (BS b9 e6 j0) (by first | exact hG | exact hG.mono hI);refine sS (sc (some 15) (v8 :) (.refl _) (fun a7f I38 a7a p6 a4a=>?_));obtain ⟨a7i,y9,x3,a4e⟩:=a4a;rw [y9,x3];clear y9 x3;replace hG:=hG.mono p6;have u0:=a4e;obtain ⟨a5t,a5u,a5v,t9,o5,o7,a0⟩:=id u0;subst t9;obtain ⟨a3,a4,Z5,Z8,o4,Z6,Z7,Z9⟩:=id o5;subst o4;obtain ⟨a5,a6,a0a,a0d,o6,a0b,a0c,a0e⟩:=id o7;subst o6;obtain ⟨a1,a2,a0f,a0i,A1,o8,a0g,a0h,a0j,a0k⟩:=id a0;subst o8;refine nm ?_;refine sp 3 [(17,vI (((CD exYard [((⟨0,1,2⟩:Shift))]).2))),(16,.agg #[vS a3 (((CD exYard [((⟨0,1,2⟩:Shift))]).1).cars).length a4,vS a5 (((CD exYard [((⟨0,1,2⟩:Shift))]).1).room).length a6,vS a1 (((CD exYard [((⟨0,1,2⟩:Shift))]).1).tracks).length a2])] (sS (sal 1 26 #[vN,vN,vN] (fun b1=>(sS (ss 0 0 b1 [vS a3 (((CD exYard [((⟨0,1,2⟩:Shift))]).1).cars).length a4,vS a5 (((CD exYard [((⟨0,1,2⟩:Shift))]).1).room).length a6,vS a1 (((CD exYard [((⟨0,1,2⟩:Shift))]).1).tracks).length a2] [vS a3 (((CD exYard [((⟨0,1,2⟩:Shift))]).1).cars).length a4,vS a5 (((CD exYard [((⟨0,1,2⟩:Shift))]).1).room).length a6,vS a1 (((CD exYard [((⟨0,1,2⟩:Shift))]).1).tracks).length a2] (_::_) (cs:=[_,_,_]) rfl rfl (sp 1 [(2,vI (((CD exYard [((⟨0,1,2⟩:Shift))]).2)))] (DN 2 rfl (show (vI (((CD exYard [((⟨0,1,2⟩:Shift))]).2)):Value)=vI (0) from congrArg (Value.int .i64) (ex_draw.1)) (sn ?_))))))));have v9:=yard_ct I38;refine sS (sc (some 19) (v9 :) (.refl _) (fun a7g I50 a7b k3 a4b=>?_));obtain ⟨a5x,i8,a5y,f5,a6a,a5a,e3,z0,x4,z7,z8,z9,f2⟩:=a4b;rw [z0,x4];clear z0 x4;replace hG:=hG.mono k3;replace a0:=a0.mono k3;obtain ⟨a0l,a0m,o9,a0n⟩:=z7.shape;subst o9;obtain ⟨a0o,a0p,p0,a0q⟩:=z8.shape;subst p0;obtain ⟨a0u,a0v,p2,a0x⟩:=z9.shape;subst p2;have k7:=f2.1
 try simp only [LS,LA,LC,LN,LK] at k7
 refine AR (M':=((i8++(f5++(e3++(bX b1 #[vS a3 (((CD exYard [((⟨0,1,2⟩:Shift))]).1).cars).length a4,vS a5 (((CD exYard [((⟨0,1,2⟩:Shift))]).1).room).length a6,vS a1 (((CD exYard [((⟨0,1,2⟩:Shift))]).1).tracks).length a2] 26)::F))))) (fun w h=>by simpa only [AA,CA,NA] using h) (pm (M':=((bX b1 #[vS a3 (((CD exYard [((⟨0,1,2⟩:Shift))]).1).cars).length a4,vS a5 (((CD exYard [((⟨0,1,2⟩:Shift))]).1).room).length a6,vS a1 (((CD exYard [((⟨0,1,2⟩:Shift))]).1).tracks).length a2] 26)::(i8++(f5++(e3++F))))) ((PA _ ((PA _ PM).trans PM)).trans PM) (sS (sbs 20 3 4 #[vI (0),vI (2),vI (3),vI (1)] (fun u5=>(sfz (A:=((bX u5 #[vI (0),vI (2),vI (3),vI (1)] 3)::(bX b1 #[vS a3 (((CD exYard [((⟨0,1,2⟩:Shift))]).1).cars).length a4,vS a5 (((CD exYard [((⟨0,1,2⟩:Shift))]).1).room).length a6,vS a1 (((CD exYard [((⟨0,1,2⟩:Shift))]).1).tracks).length a2] 26)::(f5++(e3++F)))) AD z7 (PU (PM.symm)) (fun I71 h9 b2=>?_))))));replace hG:=hG.mono h9;replace a0:=a0.mono h9;replace f2:=f2.mono h9;obtain ⟨a2u,a2x,a2v,a3a,s8,a2y,a2z,a3b⟩:=id b2;cases s8;refine sfz (A:=((bX u5 #[vI (0),vI (2),vI (3),vI (1)] 3)::(bX b1 #[vS a3 (((CD exYard [((⟨0,1,2⟩:Shift))]).1).cars).length a4,vS a5 (((CD exYard [((⟨0,1,2⟩:Shift))]).1).room).length a6,vS a1 (((CD exYard [((⟨0,1,2⟩:Shift))]).1).tracks).length a2] 26)::(e3++F))) 0 z8 (PU (PM.symm)) (fun I74 f4 c0=>?_);replace hG:=hG.mono f4;replace a0:=a0.mono f4;replace f2:=f2.mono f4;replace b2:=b2.mono f4;obtain ⟨a3c,a3e,a3d,a3h,s9,a3f,a3g,a3i⟩:=id c0;cases s9;refine sfz (A:=((bX u5 #[vI (0),vI (2),vI (3),vI (1)] 3)::(bX b1 #[vS a3 (((CD exYard [((⟨0,1,2⟩:Shift))]).1).cars).length a4,vS a5 (((CD exYard [((⟨0,1,2⟩:Shift))]).1).room).length a6,vS a1 (((CD exYard [((⟨0,1,2⟩:Shift))]).1).tracks).length a2] 26)::F)) undef z9 (PU (PM.symm)) (fun I77 d8 j2=>?_);replace hG:=hG.mono d8;replace a0:=a0.mono d8;replace f2:=f2.mono d8;replace b2:=b2.mono d8;replace c0:=c0.mono d8;obtain ⟨a3j,a3l,a3k,a3o,t0,a3m,a3n,a3p⟩:=id j2;cases t0;have e5:=f2.isRows j2;have v5:=f2.1;obtain ⟨a1q,a1s,a1r,a1v,J2,s4,a1t,a1u,a1x,a1y⟩:=id e5
 injection s4 with fr80_e1 fr80_e2 fr80_e3;subst fr80_e1;subst fr80_e3
 refine pm (M':=((bX b1 #[vS a3 (((CD exYard [((⟨0,1,2⟩:Shift))]).1).cars).length a4,vS a5 (((CD exYard [((⟨0,1,2⟩:Shift))]).1).room).length a6,vS a1 (((CD exYard [((⟨0,1,2⟩:Shift))]).1).tracks).length a2] 26)::([(bX u5 #[vI (0),vI (2),vI (3),vI (1)] 3)]++F))) (PS _ _ _) ?_;have a3y:Own 3 1 BA (vS (some ⟨u5,0,none⟩) 4 4) ([(0:Int),(2:Int),(3:Int),(1:Int)]:List Int) [(bX u5 #[vI (0),vI (2),vI (3),vI (1)] 3)]:=Own.lit rfl rfl;refine sfz (A:=((bX b1 #[vS a3 (((CD exYard [((⟨0,1,2⟩:Shift))]).1).cars).length a4,vS a5 (((CD exYard [((⟨0,1,2⟩:Shift))]).1).room).length a6,vS a1 (((CD exYard [((⟨0,1,2⟩:Shift))]).1).tracks).length a2] 26)::F)) 0 a3y (PM.symm) (fun I82 d9 j3=>?_);replace hG:=hG.mono d9;replace a0:=a0.mono d9;replace b2:=b2.mono d9;replace c0:=c0.mono d9;replace e5:=e5.mono d9;obtain ⟨a3q,a3s,a3r,a3v,t1,a3t,a3u,a3x⟩:=id j3;cases t1;have x0:=Fewest_ct I82 _ (exYard) _ _ (BS b2 c0 e5) j3 (by first | exact hG | exact hG.mono hI);refine sS (sc (some 21) (x0 :) (.refl _) (fun a7h I85 a7c k4 a4c=>?_));obtain ⟨a7j,a9,z1,x5,A0⟩:=a4c;rw [z1,x5];clear z1 x5;replace hG:=hG.mono k4;replace a0:=a0.mono k4;obtain ⟨k8,k9,u1,a4f⟩:=A0.shape;subst u1;refine pm (M':=((bX b1 #[vS a3 (((CD exYard [((⟨0,1,2⟩:Shift))]).1).cars).length a4,vS a5 (((CD exYard [((⟨0,1,2⟩:Shift))]).1).room).length a6,vS a1 (((CD exYard [((⟨0,1,2⟩:Shift))]).1).tracks).length a2] 26)::(a9++F))) PM (sp 5 [(4,vI (((DG exYard (([(0:Int),(2:Int),(3:Int),(1:Int)]:List Int))).2))),(3,vS k8 ((DG exYard (([(0:Int),(2:Int),(3:Int),(1:Int)]:List Int))).1).length k9)] (DN 4 rfl (show (vI (((DG exYard (([(0:Int),(2:Int),(3:Int),(1:Int)]:List Int))).2)):Value)=vI (0) from congrArg (Value.int .i64) (ex_fewest.2)) (sn ?_)));have t2:=yard_ct I85;refine sS (sc (some 25) (t2 :) (.refl _) (fun a5k I96 a5d k5 a4d=>?_));obtain ⟨a4j,g3,a4p,e0,a4v,a0y,c4,z2,p7,r0,r1,r2,b6⟩:=a4d;rw [z2,p7];clear z2 p7;replace hG:=hG.mono k5;replace a0:=a0.mono k5;obtain ⟨A2,A3,l0,A4⟩:=r0.shape;subst l0;obtain ⟨B1,B2,l3,B3⟩:=r1.shape;subst l3;obtain ⟨C0,C1,l6,C2⟩:=r2.shape;subst l6;have i5:=b6.1
 try simp only [LS,LA,LC,LN,LK] at i5
 refine AR (M':=((g3++(e0++(c4++(bX b1 #[vS a3 (((CD exYard [((⟨0,1,2⟩:Shift))]).1).cars).length a4,vS a5 (((CD exYard [((⟨0,1,2⟩:Shift))]).1).room).length a6,vS a1 (((CD exYard [((⟨0,1,2⟩:Shift))]).1).tracks).length a2] 26)::(a9++F)))))) (fun w h=>by simpa only [AA,CA,NA] using h) (pm (M':=((bX b1 #[vS a3 (((CD exYard [((⟨0,1,2⟩:Shift))]).1).cars).length a4,vS a5 (((CD exYard [((⟨0,1,2⟩:Shift))]).1).room).length a6,vS a1 (((CD exYard [((⟨0,1,2⟩:Shift))]).1).tracks).length a2] 26)::(g3++(e0++(c4++(a9++F)))))) ((PA _ ((PA _ PM).trans PM)).trans PM) (sS (sbs 26 3 4 #[vI (1),vI (2),vI (3),vI (0)] (fun i4=>(sfz (A:=((bX i4 #[vI (1),vI (2),vI (3),vI (0)] 3)::(bX b1 #[vS a3 (((CD exYard [((⟨0,1,2⟩:Shift))]).1).cars).length a4,vS a5 (((CD exYard [((⟨0,1,2⟩:Shift))]).1).room).length a6,vS a1 (((CD exYard [((⟨0,1,2⟩:Shift))]).1).tracks).length a2] 26)::(e0++(c4++(a9++F))))) AD r0 (PU (PM.symm)) (fun a6b e7 b0=>?_))))));replace hG:=hG.mono e7;replace a0:=a0.mono e7;replace b6:=b6.mono e7;obtain ⟨J3,J5,J4,J8,m4,J6,J7,J9⟩:=id b0;cases m4;refine sfz (A:=((bX i4 #[vI (1),vI (2),vI (3),vI (0)] 3)::(bX b1 #[vS a3 (((CD exYard [((⟨0,1,2⟩:Shift))]).1).cars).length a4,vS a5 (((CD exYard [((⟨0,1,2⟩:Shift))]).1).room).length a6,vS a1 (((CD exYard [((⟨0,1,2⟩:Shift))]).1).tracks).length a2] 26)::(c4++(a9++F)))) 0 r1 (PU (PM.symm)) (fun a6c d3 b3=>?_);replace hG:=hG.mono d3;replace a0:=a0.mono d3;replace b6:=b6.mono d3;replace b0:=b0.mono d3;obtain ⟨K0,K2,K1,K5,m5,K3,K4,K6⟩:=id b3;cases m5;refine sfz (A:=((bX i4 #[vI (1),vI (2),vI (3),vI (0)] 3)::(bX b1 #[vS a3 (((CD exYard [((⟨0,1,2⟩:Shift))]).1).cars).length a4,vS a5 (((CD exYard [((⟨0,1,2⟩:Shift))]).1).room).length a6,vS a1 (((CD exYard [((⟨0,1,2⟩:Shift))]).1).tracks).length a2] 26)::(a9++F))) undef r2 (PU (PM.symm)) (fun a6d c1 g9=>?_);replace hG:=hG.mono c1;replace a0:=a0.mono c1;replace b6:=b6.mono c1;replace b0:=b0.mono c1;replace b3:=b3.mono c1;obtain ⟨K7,K9,K8,M2,m6,M0,M1,M3⟩:=id g9;cases m6;have c7:=b6.isRows g9;have u6:=b6.1;obtain ⟨C9,D1,D0,D4,v0,m0,D2,D3,D5,D6⟩:=id c7
 injection m0 with fr126_e1 fr126_e2 fr126_e3;subst fr126_e1;subst fr126_e3
 refine pm (M':=((bX b1 #[vS a3 (((CD exYard [((⟨0,1,2⟩:Shift))]).1).cars).length a4,vS a5 (((CD exYard [((⟨0,1,2⟩:Shift))]).1).room).length a6,vS a1 (((CD exYard [((⟨0,1,2⟩:Shift))]).1).tracks).length a2] 26)::([(bX i4 #[vI (1),vI (2),vI (3),vI (0)] 3)]++(a9++F)))) (PS _ _ _) ?_;have x6:Own 3 1 BA (vS (some ⟨i4,0,none⟩) 4 4) ([(1:Int),(2:Int),(3:Int),(0:Int)]:List Int) [(bX i4 #[vI (1),vI (2),vI (3),vI (0)] 3)]:=Own.lit rfl rfl;refine sfz (A:=((bX b1 #[vS a3 (((CD exYard [((⟨0,1,2⟩:Shift))]).1).cars).length a4,vS a5 (((CD exYard [((⟨0,1,2⟩:Shift))]).1).room).length a6,vS a1 (((CD exYard [((⟨0,1,2⟩:Shift))]).1).tracks).length a2] 26)::(a9++F))) 0 x6 (PM.symm) (fun a1b c2 h0=>?_);replace hG:=hG.mono c2;replace a0:=a0.mono c2;replace b0:=b0.mono c2;replace b3:=b3.mono c2;replace c7:=c7.mono c2;obtain ⟨M4,M6,M5,M9,m7,M7,M8,O0⟩:=id h0;cases m7;have t3:=Lacks_ct a1b _ (exYard) _ _ (BS b0 b3 c7) h0 (by first | exact hG | exact hG.mono hI);refine sS (sc (some 27) (t3 :) (.refl _) (fun a5l a1c a5e f7 y2=>?_));obtain ⟨a5r,a8,q4,p8,r3⟩:=y2;rw [q4,p8];clear q4 p8;replace hG:=hG.mono f7;replace a0:=a0.mono f7;obtain ⟨i0,i1,o2,Y9⟩:=r3.shape;subst o2;refine pm (M':=((bX b1 #[vS a3 (((CD exYard [((⟨0,1,2⟩:Shift))]).1).cars).length a4,vS a5 (((CD exYard [((⟨0,1,2⟩:Shift))]).1).room).length a6,vS a1 (((CD exYard [((⟨0,1,2⟩:Shift))]).1).tracks).length a2] 26)::(a8++(a9++F)))) PM (sp 5 [(6,vI (((GX exYard (([(1:Int),(2:Int),(3:Int),(0:Int)]:List Int))).2))),(5,vS i0 ((GX exYard (([(1:Int),(2:Int),(3:Int),(0:Int)]:List Int))).1).length i1)] (DN 6 rfl (show (vI (((GX exYard (([(1:Int),(2:Int),(3:Int),(0:Int)]:List Int))).2)):Value)=vI (0) from congrArg (Value.int .i64) (ex_lacks.2)) (sn ?_)));have t4:=yard_ct a1c;refine sS (sc (some 31) (t4 :) (.refl _) (fun a5m a6e a5f f8 y3=>?_));obtain ⟨a4k,g4,a4q,e1,a4x,a0z,c5,q5,p9,r4,r5,r6,b7⟩:=y3;rw [q5,p9];clear q5 p9;replace hG:=hG.mono f8;replace a0:=a0.mono f8;obtain ⟨A5,A6,l1,A7⟩:=r4.shape;subst l1;obtain ⟨B4,B5,l4,B6⟩:=r5.shape;subst l4;obtain ⟨C3,C4,l7,C5⟩:=r6.shape;subst l7;have i6:=b7.1
 try simp only [LS,LA,LC,LN,LK] at i6
 refine AR (M':=((g4++(e1++(c5++(bX b1 #[vS a3 (((CD exYard [((⟨0,1,2⟩:Shift))]).1).cars).length a4,vS a5 (((CD exYard [((⟨0,1,2⟩:Shift))]).1).room).length a6,vS a1 (((CD exYard [((⟨0,1,2⟩:Shift))]).1).tracks).length a2] 26)::(a8++(a9++F))))))) (fun w h=>by simpa only [AA,CA,NA] using h) (pm (M':=((bX b1 #[vS a3 (((CD exYard [((⟨0,1,2⟩:Shift))]).1).cars).length a4,vS a5 (((CD exYard [((⟨0,1,2⟩:Shift))]).1).room).length a6,vS a1 (((CD exYard [((⟨0,1,2⟩:Shift))]).1).tracks).length a2] 26)::(g4++(e1++(c5++(a8++(a9++F))))))) ((PA _ ((PA _ PM).trans PM)).trans PM) (sfz (A:=((bX b1 #[vS a3 (((CD exYard [((⟨0,1,2⟩:Shift))]).1).cars).length a4,vS a5 (((CD exYard [((⟨0,1,2⟩:Shift))]).1).room).length a6,vS a1 (((CD exYard [((⟨0,1,2⟩:Shift))]).1).tracks).length a2] 26)::(e1++(c5++(a8++(a9++F)))))) AD r4 (PM.symm) (fun a6f e8 b4=>?_)));replace hG:=hG.mono e8;replace a0:=a0.mono e8;replace b7:=b7.mono e8;obtain ⟨O1,O3,O2,O6,m8,O4,O5,O7⟩:=id b4;cases m8;refine sfz (A:=((bX b1 #[vS a3 (((CD exYard [((⟨0,1,2⟩:Shift))]).1).cars).length a4,vS a5 (((CD exYard [((⟨0,1,2⟩:Shift))]).1).room).length a6,vS a1 (((CD exYard [((⟨0,1,2⟩:Shift))]).1).tracks).length a2] 26)::(c5++(a8++(a9++F))))) 0 r5 (PM.symm) (fun a6g d4 c8=>?_);replace hG:=hG.mono d4;replace a0:=a0.mono d4;replace b7:=b7.mono d4;replace b4:=b4.mono d4;obtain ⟨O8,P0,O9,P3,m9,P1,P2,P4⟩:=id c8;cases m9;refine sfz (A:=((bX b1 #[vS a3 (((CD exYard [((⟨0,1,2⟩:Shift))]).1).cars).length a4,vS a5 (((CD exYard [((⟨0,1,2⟩:Shift))]).1).room).length a6,vS a1 (((CD exYard [((⟨0,1,2⟩:Shift))]).1).tracks).length a2] 26)::(a8++(a9++F)))) undef r6 (PM.symm) (fun a1d c3 h1=>?_);replace hG:=hG.mono c3;replace a0:=a0.mono c3;replace b7:=b7.mono c3;replace b4:=b4.mono c3;replace c8:=c8.mono c3;obtain ⟨P5,P7,P6,Q0,n0,P8,P9,Q1⟩:=id h1;cases n0;have g6:=b7.isRows h1;have u7:=b7.1;obtain ⟨D7,D9,D8,E2,v1,m1,E0,E1,E3,E4⟩:=id g6
 injection m1 with fr170_e1 fr170_e2 fr170_e3;subst fr170_e1;subst fr170_e3
 have t5:=Reach_ct a1d _ (exYard) (3) (BS b4 c8 g6) (by first | exact hG | exact hG.mono hI);refine sS (sc (some 32) (t5 :) (.refl _) (fun a5n a1e a5g j4 y4=>?_));obtain ⟨q6,q0⟩:=y4;rw [q6,q0];clear q6 q0;replace a0:=a0.mono j4;refine nm ?_;refine sp 5 [(8,vI (((ML exYard 3).2))),(7,vI (((ML exYard 3).1)))] (DN 7 rfl (show (vI (((ML exYard 3).1)):Value)=vI (4) from congrArg (Value.int .i64) (congrArg Prod.fst ex_reach)) (DN 8 rfl (show (vI (((ML exYard 3).2)):Value)=vI (0) from congrArg (Value.int .i64) (congrArg Prod.snd ex_reach)) (sn ?_)));have t6:=yard_ct a1e;refine sS (sc (some 36) (t6 :) (.refl _) (fun a5o a6h a5h j5 y5=>?_));obtain ⟨a4l,g5,a4r,e2,a4y,a1a,c6,q7,q1,r7,r8,r9,b8⟩:=y5;rw [q7,q1];clear q7 q1;replace a0:=a0.mono j5;obtain ⟨A8,A9,l2,B0⟩:=r7.shape;subst l2;obtain ⟨B7,B8,l5,B9⟩:=r8.shape;subst l5;obtain ⟨C6,C7,l8,C8⟩:=r9.shape;subst l8;have i7:=b8.1
 try simp only [LS,LA,LC,LN,LK] at i7
 refine AR (M':=((g5++(e2++(c6++(bX b1 #[vS a3 (((CD exYard [((⟨0,1,2⟩:Shift))]).1).cars).length a4,vS a5 (((CD exYard [((⟨0,1,2⟩:Shift))]).1).room).length a6,vS a1 (((CD exYard [((⟨0,1,2⟩:Shift))]).1).tracks).length a2] 26)::(a8++(a9++F))))))) (fun w h=>by simpa only [AA,CA,NA] using h) (pm (M':=((bX b1 #[vS a3 (((CD exYard [((⟨0,1,2⟩:Shift))]).1).cars).length a4,vS a5 (((CD exYard [((⟨0,1,2⟩:Shift))]).1).room).length a6,vS a1 (((CD exYard [((⟨0,1,2⟩:Shift))]).1).tracks).length a2] 26)::(g5++(e2++(c6++(a8++(a9++F))))))) ((PA _ ((PA _ PM).trans PM)).trans PM) (sfz (A:=((bX b1 #[vS a3 (((CD exYard [((⟨0,1,2⟩:Shift))]).1).cars).length a4,vS a5 (((CD exYard [((⟨0,1,2⟩:Shift))]).1).room).length a6,vS a1 (((CD exYard [((⟨0,1,2⟩:Shift))]).1).tracks).length a2] 26)::(e2++(c6++(a8++(a9++F)))))) AD r7 (PM.symm) (fun a6i f9 b5=>?_)));replace a0:=a0.mono f9;replace b8:=b8.mono f9;obtain ⟨Q2,Q4,Q3,Q7,n1,Q5,Q6,Q8⟩:=id b5;cases n1;refine sfz (A:=((bX b1 #[vS a3 (((CD exYard [((⟨0,1,2⟩:Shift))]).1).cars).length a4,vS a5 (((CD exYard [((⟨0,1,2⟩:Shift))]).1).room).length a6,vS a1 (((CD exYard [((⟨0,1,2⟩:Shift))]).1).tracks).length a2] 26)::(c6++(a8++(a9++F))))) 0 r8 (PM.symm) (fun a6j e9 c9=>?_);replace a0:=a0.mono e9;replace b8:=b8.mono e9;replace b5:=b5.mono e9;obtain ⟨Q9,R1,R0,R4,n2,R2,R3,R5⟩:=id c9;cases n2;refine sfz (A:=((bX b1 #[vS a3 (((CD exYard [((⟨0,1,2⟩:Shift))]).1).cars).length a4,vS a5 (((CD exYard [((⟨0,1,2⟩:Shift))]).1).room).length a6,vS a1 (((CD exYard [((⟨0,1,2⟩:Shift))]).1).tracks).length a2] 26)::(a8++(a9++F)))) undef r9 (PM.symm) (fun a1f d5 h2=>?_);replace a0:=a0.mono d5;replace b8:=b8.mono d5;replace b5:=b5.mono d5;replace c9:=c9.mono d5;obtain ⟨R6,R8,R7,T1,n3,R9,T0,T2⟩:=id h2;cases n3;have g7:=b8.isRows h2;have u8:=b8.1;obtain ⟨E5,E7,E6,G0,v2,m2,E8,E9,G1,G2⟩:=id g7
 injection m2 with fr207_e1 fr207_e2 fr207_e3;subst fr207_e1;subst fr207_e3
 have t7:=Warm_ct a1f _ (exYard) (BS b5 c9 g7);refine sS (sc (some 37) (t7 :) (.refl _) (fun a5p a6k a5i j6 y6=>?_));obtain ⟨a5s,q8,q2,z3⟩:=y6;rw [q8,q2];clear q8 q2;replace a0:=a0.mono j6;have a7:=z3;obtain ⟨i2,i3,Z0,Z3,o3,Z1,Z2,Z4⟩:=id a7;subst o3;refine nm ?_;refine sp 7 [(11,vI (((ND exYard).2.2))),(10,vI (((ND exYard).2.1))),(9,vS i2 ((ND exYard).1).length i3)] (DN 10 rfl (show (vI (((ND exYard).2.1)):Value)=vI (1) from congrArg (Value.int .i64) (congrArg (fun p=>p.2.1) ex_warm)) (DN 11 rfl (show (vI (((ND exYard).2.2)):Value)=vI (0) from congrArg (Value.int .i64) (congrArg (fun p=>p.2.2) ex_warm)) (sn (sp 1 [(41,vI (0))] (sd (dcm 42 .eql (0) (0) true (by rfl)) (sp 2 [(44,vI (0)),(43,.bool (true))] (sd (dcm 45 .eql (0) (0) true (by rfl)) (sp 3 [(48,vI (0)),(47,.bool (true))] (sd (dcm 49 .eql (0) (0) true (by rfl)) (sp 3 [(52,vI (0)),(51,.bool (true))] (sd (dcm 53 .eql (0) (0) true (by rfl)) (sp 3 [(56,vI (0)),(55,.bool (true))] (sd (dcm 57 .eql (0) (0) true (by rfl)) (sp 3 [(60,vI (4)),(59,.bool (true))] (sd (dcm 61 .eql (4) (4) true (by rfl)) (sp 3 [(64,vI (1)),(63,.bool (true))] (sd (dcm 65 .eql (1) (1) true (by rfl)) (sp 3 [(68,vP b1 2),(67,.bool (true))] (sd (dlb 69 0 2 b1 (vS a1 (((CD exYard [((⟨0,1,2⟩:Shift))]).1).tracks).length a2)) (sS (sbs 70 3 2 #[vI (0),vI (1)] (fun f6=>(sS (sbs 71 3 2 #[vI (2),vI (3)] (fun e4=>(pm (M':=((bX e4 #[vI (2),vI (3)] 3)::(bX b1 #[vS a3 (((CD exYard [((⟨0,1,2⟩:Shift))]).1).cars).length a4,vS a5 (((CD exYard [((⟨0,1,2⟩:Shift))]).1).room).length a6,vS a1 (((CD exYard [((⟨0,1,2⟩:Shift))]).1).tracks).length a2] 26)::([(bX f6 #[vI (0),vI (1)] 3)]++(a8++(a9++F))))) (PC _ (PS _ _ _)) ?_))))))))))))))))))))))))));have x7:Own 3 1 BA (vS (some ⟨f6,0,none⟩) 2 2) ([(0:Int),(1:Int)]:List Int) [(bX f6 #[vI (0),vI (1)] 3)]:=Own.lit rfl rfl;refine sfz (A:=((bX e4 #[vI (2),vI (3)] 3)::(bX b1 #[vS a3 (((CD exYard [((⟨0,1,2⟩:Shift))]).1).cars).length a4,vS a5 (((CD exYard [((⟨0,1,2⟩:Shift))]).1).room).length a6,vS a1 (((CD exYard [((⟨0,1,2⟩:Shift))]).1).tracks).length a2] 26)::(a8++(a9++F)))) 0 x7 (PU (PM.symm)) (fun a6l g0 d0=>?_);replace a0:=a0.mono g0;replace a7:=a7.mono g0;obtain ⟨T3,T5,T4,T8,n4,T6,T7,T9⟩:=id d0;cases n4;refine pm (M':=((bX b1 #[vS a3 (((CD exYard [((⟨0,1,2⟩:Shift))]).1).cars).length a4,vS a5 (((CD exYard [((⟨0,1,2⟩:Shift))]).1).room).length a6,vS a1 (((CD exYard [((⟨0,1,2⟩:Shift))]).1).tracks).length a2] 26)::([(bX e4 #[vI (2),vI (3)] 3)]++(a8++(a9++F))))) (PS _ _ _) ?_;have x8:Own 3 1 BA (vS (some ⟨e4,0,none⟩) 2 2) ([(2:Int),(3:Int)]:List Int) [(bX e4 #[vI (2),vI (3)] 3)]:=Own.lit rfl rfl;refine sfz (A:=((bX b1 #[vS a3 (((CD exYard [((⟨0,1,2⟩:Shift))]).1).cars).length a4,vS a5 (((CD exYard [((⟨0,1,2⟩:Shift))]).1).room).length a6,vS a1 (((CD exYard [((⟨0,1,2⟩:Shift))]).1).tracks).length a2] 26)::(a8++(a9++F)))) 0 x8 (PM.symm) (fun a1g f0 h3=>?_);replace a0:=a0.mono f0;replace a7:=a7.mono f0;replace d0:=d0.mono f0;obtain ⟨U0,U2,U1,U5,n5,U3,U4,U6⟩:=id h3;cases n5;refine sS (sbs 72 23 3 #[vS (some ⟨f6,0,none⟩) 2 2,vS (some ⟨e4,0,none⟩) 2 2,vN] (fun s1=>(pm (M':=((bX b1 #[vS a3 (((CD exYard [((⟨0,1,2⟩:Shift))]).1).cars).length a4,vS a5 (((CD exYard [((⟨0,1,2⟩:Shift))]).1).room).length a6,vS a1 (((CD exYard [((⟨0,1,2⟩:Shift))]).1).tracks).length a2] 26)::([(bX s1 #[vS (some ⟨f6,0,none⟩) 2 2,vS (some ⟨e4,0,none⟩) 2 2,vN] 23)]++(a8++(a9++F))))) (PS _ _ _) ?_)));have x9:Own 23 1 AO (vS (some ⟨s1,0,none⟩) 3 3) ([(vS (some ⟨f6,0,none⟩) 2 2:Value),(vS (some ⟨e4,0,none⟩) 2 2:Value),(vN:Value)]:List Value) [(bX s1 #[vS (some ⟨f6,0,none⟩) 2 2,vS (some ⟨e4,0,none⟩) 2 2,vN] 23)]:=Own.lit rfl rfl;have d6:=((((RowsV.nil a1g).snoc d0).snoc h3).snoc (IsSl.nil _));simp only [NA,CA] at d6;refine sfz (A:=((bX b1 #[vS a3 (((CD exYard [((⟨0,1,2⟩:Shift))]).1).cars).length a4,vS a5 (((CD exYard [((⟨0,1,2⟩:Shift))]).1).room).length a6,vS a1 (((CD exYard [((⟨0,1,2⟩:Shift))]).1).tracks).length a2] 26)::(a8++(a9++F)))) undef x9 (PM.symm) (fun a1h f1 h4=>?_);replace a0:=a0.mono f1;replace a7:=a7.mono f1;replace d6:=d6.mono f1;obtain ⟨U7,U9,U8,V2,n6,V0,V1,V3⟩:=id h4;cases n6;have g8:=d6.isRows h4;have u9:=d6.1;obtain ⟨G3,G5,G4,G8,v3,m3,G6,G7,G9,J0⟩:=id g8
 injection m3 with fr237_e1 fr237_e2 fr237_e3;subst fr237_e1;subst fr237_e3
 refine sd (dc 73 (fun I' hI=>(PF I' _ _ _ _ (a0.mono hI) (g8.mono hI) :))) (DN 73 rfl (show (.bool (decide ((((CD exYard [((⟨0,1,2⟩:Shift))]).1).tracks)=([([(0:Int),(1:Int)]:List Int),([(2:Int),(3:Int)]:List Int),[]]))):Value)=.bool (true) from congrArg Value.bool (decide_eq_true (ex_draw.2))) (sp 3 [(76,vS k8 ((DG exYard (([(0:Int),(2:Int),(3:Int),(1:Int)]:List Int))).1).length k9),(75,.bool (true))] ?_));have t8:=four_ct a1h;refine sS (sc (some 77) (t8 :) (.refl _) (fun a5q a6m a5j j8 y7=>?_));obtain ⟨a7k,p3,q9,q3,s0⟩:=y7;rw [q9,q3];clear q9 q3;replace a7:=a7.mono j8;obtain ⟨a4g,a4h,u2,a4i⟩:=s0.shape;subst u2;refine pm (M':=((bX b1 #[vS a3 (((CD exYard [((⟨0,1,2⟩:Shift))]).1).cars).length a4,vS a5 (((CD exYard [((⟨0,1,2⟩:Shift))]).1).room).length a6,vS a1 (((CD exYard [((⟨0,1,2⟩:Shift))]).1).tracks).length a2] 26)::(p3++(a8++(a9++F))))) PM ?_;have hfl:((DG exYard [0,2,3,1]).1).length≤4:=by rw [ex_fewest.1];decide
 refine sfz (A:=((bX b1 #[vS a3 (((CD exYard [((⟨0,1,2⟩:Shift))]).1).cars).length a4,vS a5 (((CD exYard [((⟨0,1,2⟩:Shift))]).1).room).length a6,vS a1 (((CD exYard [((⟨0,1,2⟩:Shift))]).1).tracks).length a2] 26)::(p3++(a8++F)))) BB A0 (PU (PV (PO _ _ _))) (fun a6n j9 d1=>?_);replace a7:=a7.mono j9;obtain ⟨V4,V6,V5,V9,n7,V7,V8,W0⟩:=id d1;cases n7;refine sfz (A:=((bX b1 #[vS a3 (((CD exYard [((⟨0,1,2⟩:Shift))]).1).cars).length a4,vS a5 (((CD exYard [((⟨0,1,2⟩:Shift))]).1).room).length a6,vS a1 (((CD exYard [((⟨0,1,2⟩:Shift))]).1).tracks).length a2] 26)::(a8++F))) BB s0 (PM.symm) (fun a6o g1 h5=>?_);replace a7:=a7.mono g1;replace d1:=d1.mono g1;obtain ⟨W1,W3,W2,W6,n8,W4,W5,W7⟩:=id h5;cases n8;refine sd (dc 78 (fun I' hI=>(EqualShifts_ct I' _ _ _ _ (d1.mono hI) (h5.mono hI) :))) (DN 78 rfl (show (.bool (decide (((DG exYard (([(0:Int),(2:Int),(3:Int),(1:Int)]:List Int))).1)=exFour)):Value)=.bool (true) from congrArg Value.bool (decide_eq_true (ex_fewest.1))) (sp 3 [(81,vS i0 ((GX exYard (([(1:Int),(2:Int),(3:Int),(0:Int)]:List Int))).1).length i1),(80,.bool (true))] (sS (sbs 82 3 2 #[vI (1),vI (2)] (fun l9=>?_)))));have hll:((GX exYard [1,2,3,0]).1).length≤4:=by rw [ex_lacks.1];decide
 refine sfz (A:=((bX l9 #[vI (1),vI (2)] 3)::(bX b1 #[vS a3 (((CD exYard [((⟨0,1,2⟩:Shift))]).1).cars).length a4,vS a5 (((CD exYard [((⟨0,1,2⟩:Shift))]).1).room).length a6,vS a1 (((CD exYard [((⟨0,1,2⟩:Shift))]).1).tracks).length a2] 26)::F)) 0 r3 (PU (PM.symm)) (fun a6p k0 d2=>?_);replace a7:=a7.mono k0;obtain ⟨W8,X0,W9,X3,n9,X1,X2,X4⟩:=id d2;cases n9;refine pm (M':=((bX b1 #[vS a3 (((CD exYard [((⟨0,1,2⟩:Shift))]).1).cars).length a4,vS a5 (((CD exYard [((⟨0,1,2⟩:Shift))]).1).room).length a6,vS a1 (((CD exYard [((⟨0,1,2⟩:Shift))]).1).tracks).length a2] 26)::([(bX l9 #[vI (1),vI (2)] 3)]++F))) (PS _ _ _) ?_;have y0:Own 3 1 BA (vS (some ⟨l9,0,none⟩) 2 2) ([(1:Int),(2:Int)]:List Int) [(bX l9 #[vI (1),vI (2)] 3)]:=Own.lit rfl rfl;refine sfz (A:=((bX b1 #[vS a3 (((CD exYard [((⟨0,1,2⟩:Shift))]).1).cars).length a4,vS a5 (((CD exYard [((⟨0,1,2⟩:Shift))]).1).room).length a6,vS a1 (((CD exYard [((⟨0,1,2⟩:Shift))]).1).tracks).length a2] 26)::F)) 0 y0 (PM.symm) (fun a6q g2 h6=>?_);replace a7:=a7.mono g2;replace d2:=d2.mono g2;obtain ⟨X5,X7,X6,Y0,o0,X8,X9,Y1⟩:=id h6;cases o0;refine sd (dc 83 (fun I' hI=>(JA I' _ _ _ _ (d2.mono hI) (h6.mono hI) :))) (DN 83 rfl (show (.bool (decide (((GX exYard (([(1:Int),(2:Int),(3:Int),(0:Int)]:List Int))).1)=(([(1:Int),(2:Int)]:List Int)))):Value)=.bool (true) from congrArg Value.bool (decide_eq_true (ex_lacks.1))) (sp 3 [(86,vS i2 ((ND exYard).1).length i3),(85,.bool (true))] (sS (sbs 87 3 4 #[vI (0),vI (2),vI (3),vI (1)] (fun s2=>(pm (M':=((bX b1 #[vS a3 (((CD exYard [((⟨0,1,2⟩:Shift))]).1).cars).length a4,vS a5 (((CD exYard [((⟨0,1,2⟩:Shift))]).1).room).length a6,vS a1 (((CD exYard [((⟨0,1,2⟩:Shift))]).1).tracks).length a2] 26)::([(bX s2 #[vI (0),vI (2),vI (3),vI (1)] 3)]++F))) (PS _ _ _) ?_))))));have y1:Own 3 1 BA (vS (some ⟨s2,0,none⟩) 4 4) ([(0:Int),(2:Int),(3:Int),(1:Int)]:List Int) [(bX s2 #[vI (0),vI (2),vI (3),vI (1)] 3)]:=Own.lit rfl rfl;refine sfz (A:=((bX b1 #[vS a3 (((CD exYard [((⟨0,1,2⟩:Shift))]).1).cars).length a4,vS a5 (((CD exYard [((⟨0,1,2⟩:Shift))]).1).room).length a6,vS a1 (((CD exYard [((⟨0,1,2⟩:Shift))]).1).tracks).length a2] 26)::F)) 0 y1 (PM.symm) (fun a6r k1 h7=>?_);replace a7:=a7.mono k1;obtain ⟨Y2,Y4,Y3,Y7,o1,Y5,Y6,Y8⟩:=id h7;cases o1;refine sd (dc 88 (fun I' hI=>(JA I' _ _ _ _ (a7.mono hI) (h7.mono hI) :))) (DN 88 rfl (show (.bool (decide (((ND exYard).1)=(([(0:Int),(2:Int),(3:Int),(1:Int)]:List Int)))):Value)=.bool (true) from congrArg Value.bool (decide_eq_true (congrArg Prod.fst ex_warm))) (sp 2 [(0,.bool (true))] (se (BO (AE (t:=0) [] (by kernel_rfl) rfl (TC _ (TR _)) (IT (IT (IT (IT (IT (IT (IT (IT (IT (IT (IT (IT (IT (IT (IT (IT (IT (IT (IT (IT (IT (IT (IT (IT (IT (IT (IT (IT (IT (IT (IT (IT (IT (IT (IT (IT x1 j7) k2) h8) f3) p6) k3) h9) f4) d8) d9) k4) k5) e7) d3) c1) c2) f7) f8) e8) d4) c3) j4) j5) f9) e9) d5) j6) g0) f0) f1) j8) j9) g1) k0) g2) k1) ?_)))));exact ⟨rfl,rfl⟩
end Go.Proofs.YtcaocbhbofejnaaGreatDoor
namespace Go.Sl
open Go
section
variable {P:Program} {N:Nat} {ops:Array Oper} {i:Nat} {l:Sl} {I:Imm} {R M:Seg} {ty:TypeId} {gd:Option (Nat × Bool)} {K:Sl→Imm→Seg→Prop} {d:Nat}
theorem stp_makeSlice {x : Operand} {T E bs n : Nat} {z zv : Value} (hop : GL ops N i = some (some d, .makeSlice T x x, ty, gd)) (hg : FR ops l gd = some true)
    (hT:KS P T=some E) (hsz:DY P E=some 1) (hz:LR P E=some z) (hzc:z.cells=#[zv]) (hb:PB P E=some bs) (hbs:1≤bs∧bs≤256)
    (hx:CU l x=some (.int .i64 (n:Int))) (hn:n≤1000000)
    (next:∀ b,K ((d,.slice (some ⟨b,0,none⟩) n n)::l) I ((b,Obj.cells (List.replicate n zv).toArray E (0,0))::M)):Stp P N ops i l I M K:=by
  have hinfo:∃ inf,P.info? E=some inf∧inf.bytes=bs:=by
    unfold PB at hb;cases hi:P.info? E with
    | none=>rw [hi] at hb;cases hb
    | some inf=>rw [hi] at hb;exact ⟨inf,rfl,by simpa using hb⟩
  obtain ⟨inf,hinf,hbytes⟩:=hinfo;refine FG hop hg (GW hx hx) ?_;show wpL P (Instr.makeSlice T (rho l x) (rho l x) >>= fun x=>pure (Next.value x)) _ I M;refine DM ?_;rw [BN hx];have hw:IntKind.i64.wrap (n:Int)=(n:Int):=wrap64_id ⟨by omega,by omega⟩;have hbig:¬ ((inf.bytes:Int)*(n:Int)>2 ^ 48):=by
    have h1:inf.bytes*n≤256*1000000:=Nat.mul_le_mul (by omega) hn;have h2:((inf.bytes*n:Nat):Int)≤((256*1000000:Nat):Int):=Int.ofNat_le.2 h1;rw [Int.natCast_mul] at h2;omega
  unfold Instr.makeSlice;rw [AC,AF (ER hT)];show wpL P (pure (n:Int) >>= _) _ I M;rw [AC,DC];show wpL P (pure (n:Int) >>= _) _ I M;rw [AC,DC,AC,DZ hinf];simp only [hw];have hc:(decide ((n:Int)<0)||decide ((inf.bytes:Int)*(n:Int)>2 ^ 48)||decide ((n:Int)<0)||decide ((n:Int)>(n:Int)))=false:=by
    rw [decide_eq_false (show ¬ (n:Int)<0 by omega),decide_eq_false hbig,decide_eq_false (show ¬ (n:Int)>n by omega)];rfl
  rw [if_neg (by rw [hc];simp)];rw [AC];have hask:∀ (n:Nat) (Q:Unit→Seg→Prop),Q () M→wpL P (askRoom n) Q I M:=fun n Q hq=>by
    unfold askRoom
    split <;> exact hq
  refine hask _ _ ?_;rw [AC,CX hsz];simp only [Int.toNat_natCast,Nat.mul_one]
  by_cases h0:n=0
  · rw [if_pos h0,AC,DC,AC]
    intro b;refine ⟨_,.inl rfl,?_⟩;have e:(Array.range n).map (fun k=>(#[]:Array Value)[k%(#[]:Array Value).size]!)=(List.replicate n zv).toArray:=by subst h0;simp
    rw [e];exact next b
  rw [if_neg h0,AC,EQ hz,AC,DC,AC];intro b;refine ⟨_,.inl rfl,?_⟩;have e:(Array.range n).map (fun k=>z.cells[k%z.cells.size]!)=(List.replicate n zv).toArray:=by
    rw [hzc]
    apply Array.ext
    · simp
    · intro i h1 h2
      simp [Nat.mod_one]
  rw [e];exact next b
end
theorem encL_vals (vs:List Value):FH 1 AO vs=vs:=by
  induction vs with
  | nil=>rfl
  | cons v r ih=>
    have:FH 1 AO (v::r)=[v]++FH 1 AO r:=by simp [FH,AO]
    rw [this,ih];rfl
theorem Own.made {E:TypeId} {b n:Nat} (z:Value):Own E 1 AO (.slice (some ⟨b,0,none⟩) n n) (List.replicate n z) [(b,Obj.cells (List.replicate n z).toArray E (0,0))]:=
  .inr ⟨b,n,[],by simp,by simp,by rw [encL_vals];simp,by simp [encL_vals]⟩
structure Lent (I J:Imm) (Ms:Seg):Prop where
  free:∀ b o,(b,o)∈Ms→I.blk b=none
  held:∀ b o,(b,o)∈Ms→J.blk b=some o
  nodup:(Ms.map Prod.fst).Nodup
theorem Lent.mono {I J K:Imm} {Ms:Seg} (h:Lent I J Ms) (le:J.le K):Lent I K Ms:=⟨h.free,fun b o hm=>le.blk _ _ (h.held b o hm),h.nodup⟩
theorem Own.lend {α : Type} {E : TypeId} {sz : Nat} {cell : α → Nat → Value} {v : Value} {xs : List α} {Ms M : Seg} {I : Imm} {w : World} (dflt : α) (h : Own E sz cell v xs Ms) (hl : xs.length ≤ 140737488355328) (st : St I (Ms ++ M) w) :
    ∃ J,I.le J∧IsSl sz cell dflt J v xs∧Lent I J Ms∧St J M w:=by
  rcases h with ⟨rfl,rfl,rfl⟩ | ⟨b,c,sp,rfl,h,rfl,hc⟩
  · exact ⟨I,Imm.le.refl I,⟨none,0,0,0,rfl,Nat.le_refl _,by simp,⟨fun h=>by simp at h,fun i hi=>by simp at hi⟩⟩,⟨fun _ _ h=>by simp at h,fun _ _ h=>by simp at h,by simp⟩,st⟩
  · have hb:I.blk b=none:=st.disj b (Obj.cells (FH sz cell xs++sp).toArray E (0,0)) (by simp)
    refine ⟨I.add b _,Imm.le_add hb,⟨_,c,b,0,rfl,h,hl,⟨fun _=>rfl,fun i hi f hf=>⟨rfl,_,E,(0,0),Imm.add_same I b _,?_⟩⟩⟩,⟨fun b' o hm=>?_,fun b' o hm=>?_,by simp⟩,St.freeze st⟩
    · have hlt : i * sz + f < (FH sz cell xs).length := by
        rw [EC];have:i*sz+sz≤xs.length*sz:=by rw [← Nat.succ_mul];exact Nat.mul_le_mul_right _ hi
        omega
      simp only [List.getElem?_toArray,Nat.zero_add];rw [List.getElem?_append_left hlt];exact QH sz cell dflt xs i f hi hf
    · have:=List.mem_singleton.1 hm;cases this;exact hb
    · have:=List.mem_singleton.1 hm;cases this;exact Imm.add_same I b _
theorem St.thaw {I J:Imm} {M Ms:Seg} {w:World} (h:Lent I J Ms) (le:I.le J) (st:St J M w):∃ K,I.le K∧St K (Ms++M) w:=by
  have hk:∀ b,b∈Ms.map Prod.fst→∃ o,(b,o)∈Ms:=fun b hb=>by
    obtain ⟨⟨c,o⟩,hm,e⟩:=List.mem_map.1 hb;cases e;exact ⟨o,hm⟩
  refine ⟨{ J with blk:=fun b=>if b∈Ms.map Prod.fst then none else J.blk b },⟨le.os,le.tape,le.output,fun b o hb=>?_⟩,⟨st.os,st.tape,st.output,fun b o hb=>?_,fun b o hm=>?_,?_,fun b o hm=>?_⟩⟩
  · show (if b∈Ms.map Prod.fst then none else J.blk b)=some o
    rw [if_neg]
    · exact le.blk b o hb
    · intro hm
      obtain ⟨o2,h2⟩:=hk b hm;rw [h.free b o2 h2] at hb;cases hb
  · change (if b∈Ms.map Prod.fst then none else J.blk b)=some o at hb
    split at hb
    · cases hb
    · exact st.imm b o hb
  · rcases List.mem_append.1 hm with hm | hm
    · exact st.imm b o (h.held b o hm)
    · exact st.mem b o hm
  · rw [List.map_append]
    refine List.nodup_append.2 ⟨h.nodup,st.nodup,fun a ha b hb e=>?_⟩;subst e;obtain ⟨o,ho⟩:=hk a ha;obtain ⟨⟨c,o2⟩,hm,e⟩:=List.mem_map.1 hb;cases e;have:=st.disj _ _ hm;rw [h.held _ _ ho] at this;cases this
  · show (if b∈Ms.map Prod.fst then none else J.blk b)=none
    rcases List.mem_append.1 hm with hm | hm
    · rw [if_pos (List.mem_map_of_mem (f:=Prod.fst) hm)]
    · split
      · rfl
      · exact st.disj b o hm
section
variable {ρ:Option Nat} {P:Program} {N:Nat} {ds:List Deferred} {l:Sl} {I:Imm} {M A B Ms:Seg} {Q:Exit→Act→World→Prop} {c:Code}
end
end Go.Sl
namespace Go.Sh
open Go Go.Sl
def gAt (cs:List Car) (i:Nat):Int:=(cs.getD i AD).grp
structure CarsInv (cs:List Car) (g l:Int):Prop where
  ok:∀ c∈cs,CW c=0∧c.len≤3
  le:∀ i,i<cs.length→gAt cs i≤g
  run:∀ i j,i≤j→j<cs.length→gAt cs i=gAt cs j→gAt cs i≠0→∀ m,i≤m→m≤j→gAt cs m=gAt cs i
  g0:0≤g∧g≤3
  l0:0≤l∧l≤2
  last:0<l→1≤g∧(0<cs.length→gAt cs (cs.length-1)=g∨∀ i,i<cs.length→gAt cs i<g)
theorem CarsInv.nil:CarsInv [] 0 0:=⟨fun c h=>by simp at h,fun i h=>by simp at h,fun i j _ h=>by simp at h,by omega,by omega,fun h=>by omega⟩
theorem CarsInv.group {cs:List Car} {g l l':Int} (h:CarsInv cs g l) (hg:g<3) (hl:1≤l'∧l'≤2):CarsInv cs (g+1) l':=by
  have:=h.g0;refine ⟨h.ok,fun i hi=>by have:=h.le i hi;omega,h.run,by omega,by omega,fun _=>⟨by omega,fun _=>.inr fun i hi=>by have:=h.le i hi;omega⟩⟩
theorem MD {cs:List Car} {c:Car} {i:Nat}:gAt (cs++[c]) i=if i<cs.length then gAt cs i else if i=cs.length then c.grp else 0:=by
  unfold gAt;simp only [List.getD]
  split
  · rename_i h;rw [List.getElem?_append_left h]
  · rename_i h
    rw [List.getElem?_append_right (by omega)]
    split
    · rename_i h2;simp [h2]
    · rename_i h2
      have:1≤i-cs.length:=by omega
      cases hh:i-cs.length with
      | zero=>omega
      | succ n=>simp [AD]
theorem CarsInv.snoc {cs:List Car} {g l:Int} (h:CarsInv cs g l) {c:Car} (hc:CW c=0∧c.len≤3) (hg:(0<l→c.grp=g)∧(¬ 0<l→c.grp=0)):CarsInv (cs++[c]) g (if 0<l then l-1 else l):=by
  have hg0:=h.g0;have hl0:=h.l0;have hle:c.grp≤g:=by by_cases hl:0<l;exact Int.le_of_eq (hg.1 hl);rw [hg.2 hl];omega
  refine ⟨fun x hx=>?_,fun i hi=>?_,?_,hg0,by split <;> omega,fun hl=>?_⟩
  · rcases List.mem_append.1 hx with hx | hx
    · exact h.ok x hx
    · simp at hx;subst hx;exact hc
  · rw [MD]
    split
    · rename_i h1;exact h.le i h1
    · split
      · exact hle
      · omega
  · intro i j hij hj e h0 m him hmj
    simp only [List.length_append,List.length_cons,List.length_nil] at hj;have A:∀ x,x<cs.length→gAt (cs++[c]) x=gAt cs x:=fun x hx=>by rw [MD,if_pos hx]
    have B:gAt (cs++[c]) cs.length=c.grp:=by rw [MD,if_neg (by omega),if_pos rfl]
    by_cases hj1:j<cs.length
    · rw [A i (by omega)] at e h0 ⊢
      rw [A j hj1] at e;rw [A m (by omega)];exact h.run i j hij hj1 e h0 m him hmj
    · have hj2:j=cs.length:=by omega
      subst hj2;rw [B] at e
      by_cases hi1:i<cs.length
      · rw [A i hi1] at e h0 ⊢
        by_cases hm1:m<cs.length
        · rw [A m hm1]
          by_cases hl:0<l
          · have hcg:=hg.1 hl
            rcases (h.last hl).2 (by omega) with hla | hla
            · exact h.run i (cs.length-1) (by omega) (by omega) (by rw [hla];omega) h0 m him (by omega)
            · have:=hla i hi1;omega
          · have:=hg.2 hl;omega
        · have hm2:m=cs.length:=by omega
          subst hm2;rw [B];exact e.symm
      · have hi2:i=cs.length:=by omega
        have hm2:m=i:=by omega
        rw [hm2]
  · have hl1 : 0 < l := by
      by_cases h1:0<l
      · exact h1
      · rw [if_neg h1] at hl;exact hl
    have:=h.last hl1;refine ⟨this.1,fun _=>.inl ?_⟩;have e:(cs++[c]).length-1=cs.length:=by simp
    rw [e,MD,if_neg (by omega),if_pos rfl];exact hg.1 hl1
structure Placed (cs:List Car) (T k a:Nat) (ts:List (List Int)):Prop where
  len:ts.length=T
  a0:a<T
  perm:ts.flatten.Perm (GS k)
  ex:∃ tr:Nat→Nat,(∀ i,i<T→ts.getD i []=(GS k).filter fun c=>decide (tr c.toNat=i))∧(∀ c,c<k→tr c<T)∧(∀ c,c+1<k→gAt cs (c+1)≠0→gAt cs (c+1)=gAt cs c→tr (c+1)=tr c)∧(0<k→tr (k-1)=a)
theorem mem_wholeL {n:Nat} {c:Int}:c∈GS n↔0≤c∧c<n:=by
  unfold GS;simp only [List.mem_map,List.mem_range]
  constructor
  · rintro ⟨i,hi,rfl⟩;omega
  · intro h;exact ⟨c.toNat,by omega,by omega⟩
theorem Placed.start {cs:List Car} {T:Nat} (hT:0<T):Placed cs T 0 0 (List.replicate T []):=by
  refine ⟨by simp,hT,by simp [GS],fun _=>0,fun i hi=>?_,fun c h=>by omega,fun c h=>by omega,fun h=>by omega⟩;simp [GS,List.getD,hi]
theorem QA:∀ (ts:List (List Int)) (a:Nat) (x:Int),a<ts.length→(ts.set a (ts.getD a []++[x])).flatten.Perm (ts.flatten++[x]):=by
  intro ts
  induction ts with
  | nil=>intro a x h;simp at h
  | cons t r ih=>
    intro a x h;cases a with
    | zero=>
      simp only [List.set_cons_zero,List.getD_cons_zero,List.flatten_cons,List.append_assoc];exact List.Perm.append_left t List.perm_append_comm
    | succ a=>
      simp only [List.set_cons_succ,List.getD_cons_succ,List.flatten_cons,List.append_assoc];exact List.Perm.append_left t (ih a x (by simpa using h))
theorem Placed.put {cs : List Car} {T k a a2 : Nat} {ts : List (List Int)} (h : Placed cs T k a ts) (h2 : a2 < T) (hs : k ≠ 0 → gAt cs k ≠ 0 → gAt cs k = gAt cs (k - 1) → a2 = a) :
    Placed cs T (k+1) a2 (ts.set a2 (ts.getD a2 []++[(k:Int)])):=by
  obtain ⟨tr,t1,t2,t3,t4⟩:=h.ex;have hl:=h.len;refine ⟨by rw [List.length_set];exact hl,h2,?_,fun c=>if c=k then a2 else tr c,fun i hi=>?_,fun c hc=>?_,fun c hc h0 he=>?_,fun _=>?_⟩
  · rw [NE]
    exact (QA ts a2 k (by omega)).trans (List.Perm.append_right _ h.perm)
  · have hf : (GS k).filter (fun c => decide ((if c.toNat = k then a2 else tr c.toNat) = i)) = ts.getD i [] := by
      rw [t1 i hi];refine List.filter_congr fun c hc=>?_
      have:=mem_wholeL.1 hc;rw [if_neg (by omega)]
    rw [NE,List.filter_append,hf]
    by_cases e:a2=i
    · subst e
      simp [List.getD,List.getElem?_set,hl,hi]
    · simp [List.getD,List.getElem?_set,e]
  · show (if c=k then a2 else tr c)<T
    split
    · exact h2
    · exact t2 c (by omega)
  · show (if c+1=k then a2 else tr (c+1))=(if c=k then a2 else tr c)
    by_cases e1:c+1=k
    · have e3:¬ c=k:=by omega
      rw [if_pos e1,if_neg e3];have:=hs (by omega) (by rw [← e1];exact h0) (by rw [← e1];exact he);rw [this,← t4 (by omega),← e1];rfl
    · have e3:¬ c=k:=by omega
      rw [if_neg e1,if_neg e3];exact t3 c (by omega) h0 he
  · simp
theorem sorted_prev {l:List Int} (hs:l.Pairwise (·<·)) {j:Nat} (hj:j<l.length) (hm:l.getD j 0-1∈l):0<j∧l.getD (j-1) 0=l.getD j 0-1:=by
  obtain ⟨m,hm1,hm2⟩:=List.mem_iff_getElem.1 hm;have hlt:∀ (x y:Nat) (hx:x<l.length) (hy:y<l.length),x<y→l.getD x 0<l.getD y 0:=fun x y hx hy h=>by
    have:=List.pairwise_iff_getElem.1 hs x y hx hy h
    simpa [List.getD,hx,hy] using this
  have e:l.getD m 0=l.getD j 0-1:=by simpa [List.getD,hm1] using hm2
  have h1:m<j:=by
    rcases Nat.lt_trichotomy m j with h | h | h
    · exact h
    · subst h;omega
    · have:=hlt j m hj hm1 h;omega
  rcases Nat.lt_or_ge m (j-1) with h2 | h2
  · have a:=hlt m (j-1) hm1 (by omega) h2
    have b:=hlt (j-1) j (by omega) hj (by omega);omega
  · have:m=j-1:=by omega
    subst this;exact ⟨by omega,e⟩
theorem KN (n:Nat):(GS n).Pairwise (·<·):=by
  unfold GS;rw [List.pairwise_map];exact List.pairwise_lt_range.imp fun h=>by omega
theorem Placed.groups {cs:List Car} {T a:Nat} {ts:List (List Int)} {g l:Int} (h:Placed cs T cs.length a ts) (hc:CarsInv cs g l):GrpFrom cs ts []:=by
  obtain ⟨tr,t1,t2,t3,t4⟩:=h.ex;have hmem:∀ i,i<T→∀ c,c∈ts.getD i []↔(0≤c∧c<cs.length)∧tr c.toNat=i:=fun i hi c=>by
    rw [t1 i hi,List.mem_filter,mem_wholeL,decide_eq_true_eq]
  have hgrp:∀ c:Int,grp cs c=gAt cs c.toNat:=fun c=>rfl
  have hrun:∀ n x:Nat,x+n<cs.length→gAt cs x≠0→gAt cs x=gAt cs (x+n)→tr (x+n)=tr x:=by
    intro n
    induction n with
    | zero=>intro x _ _ _;rfl
    | succ n ih=>
      intro x hx h0 e;have e1:gAt cs (x+n)=gAt cs x:=hc.run x (x+(n+1)) (by omega) hx e h0 (x+n) (by omega) (by omega);have:=ih x (by omega) h0 e1.symm;rw [← this];exact t3 (x+n) (by omega) (by rw [show x+n+1=x+(n+1) by omega,← e];exact h0) (by rw [show x+n+1=x+(n+1) by omega,← e,e1])
  have hrun2:∀ x y:Nat,x<cs.length→y<cs.length→gAt cs x≠0→gAt cs x=gAt cs y→tr x=tr y:=fun x y hx hy h0 e=>by
    rcases Nat.le_total x y with hxy | hxy
    · have:=hrun (y-x) x (by omega) h0 (by rw [show x+(y-x)=y by omega];exact e)
      rw [show x+(y-x)=y by omega] at this;exact this.symm
    · have:=hrun (x-y) y (by omega) (by rw [← e];exact h0) (by rw [show y+(x-y)=x by omega];exact e.symm)
      rw [show y+(x-y)=x by omega] at this;exact this
  intro i j hi hj h0 hm;rw [h.len] at hi;have hcm:(ts.getD i []).getD j 0∈ts.getD i []:=AJ hj;obtain ⟨⟨c0,c1⟩,c2⟩:=(hmem i hi _).1 hcm
  generalize hcc:(ts.getD i []).getD j 0=c at hcm c0 c1 c2 h0 hm
  rcases hm with hm | ⟨c',hc',e⟩
  · simp at hm
  · rw [hgrp,hgrp] at e
    rw [hgrp] at h0;have hs:(ts.getD i []).Pairwise (·<·):=by rw [t1 i hi];exact (KN _).sublist List.filter_sublist
    have hc2:(0≤c'∧c'<cs.length)∧(tr c'.toNat<i∨c'∈(ts.getD i []).take j):=by
      rcases List.mem_append.1 hc' with hx | hx
      · obtain ⟨t,ht,hx⟩:=List.mem_flatten.1 hx
        obtain ⟨m,hm1,hm2⟩:=List.mem_iff_getElem.1 ht;have hm3:m<i∧m<ts.length:=by rw [List.length_take] at hm1;omega
        have e3:ts.getD m []=t:=by rw [← hm2];simp [List.getD,hm3.2]
        rw [← e3] at hx;obtain ⟨hb,ht2⟩:=(hmem m (by rw [← h.len];exact hm3.2) _).1 hx;exact ⟨hb,.inl (by omega)⟩
      · exact ⟨((hmem i hi _).1 (List.mem_of_mem_take hx)).1,.inr hx⟩
    obtain ⟨⟨d0,d1⟩,hd⟩:=hc2;have htr:=hrun2 c.toNat c'.toNat (by omega) (by omega) (by omega) e.symm;rcases hd with hd | hd
    · omega
    · obtain ⟨m,hm1,hm2⟩:=List.mem_iff_getElem.1 hd
      have hm3:m<j∧m<(ts.getD i []).length:=by rw [List.length_take] at hm1;omega
      have hlt:c'<c:=by
        have h1:=List.pairwise_iff_getElem.1 hs m j hm3.2 hj hm3.1;have e1:c'=(ts.getD i [])[m]:=by rw [← hm2];simp
        have e2:c=(ts.getD i [])[j]:=by rw [← hcc,List.getD,List.getElem?_eq_getElem hj];rfl
        rw [e1,e2];exact h1
      have e4:gAt cs (c.toNat-1)=gAt cs c'.toNat:=hc.run c'.toNat c.toNat (by omega) (by omega) e (by omega) (c.toNat-1) (by omega) (by omega);have e5:tr (c.toNat-1)=i:=by
        have:=hrun2 (c.toNat-1) c.toNat (by omega) (by omega) (by omega) (by omega);omega
      have hin:c-1∈ts.getD i []:=(hmem i hi _).2 ⟨by omega,by rw [show (c-1).toNat=c.toNat-1 by omega];exact e5⟩;have hp:=sorted_prev hs hj (by rw [hcc];exact hin);rw [hcc] at hp;unfold CE;have e6:((j:Int)-1).toNat=j-1:=by omega
      rw [show (↑j:Int).toNat=j by omega,e6,hp.2,hcc];have e7:inB ↑j 1 (↑(ts.getD i []).length-1)=true:=by simp only [inB,Bool.and_eq_true,decide_eq_true_eq];omega
      rw [e7];have e8:(FJ cs c).grp=(FJ cs (c-1)).grp:=by
        show gAt cs c.toNat=gAt cs (c-1).toNat;rw [show (c-1).toNat=c.toNat-1 by omega];omega
      rw [decide_eq_true (show 0<(FJ cs c).grp from h0),decide_eq_true e8];rfl
structure Roomy (cs:List Car) (ts:List (List Int)) (k:Nat) (rm:List Int):Prop where
  len:rm.length=k
  ok:∀ n∈rm,0≤n∧n≤20
  fits:∀ i,i<k→lenOf cs (ts.getD i [])≤rm.getD i 0
theorem Roomy.nil (cs:List Car) (ts:List (List Int)):Roomy cs ts 0 []:=⟨rfl,fun n h=>by simp at h,fun i h=>by omega⟩
theorem Roomy.snoc {cs:List Car} {ts:List (List Int)} {k:Nat} {rm:List Int} (h:Roomy cs ts k rm) {n:Int} (hn:0≤n∧n≤20) (hf:lenOf cs (ts.getD k [])≤n):Roomy cs ts (k+1) (rm++[n]):=by
  have hl:=h.len;refine ⟨by simp [hl],fun x hx=>?_,fun i hi=>?_⟩
  · rcases List.mem_append.1 hx with hx | hx
    · exact h.ok x hx
    · simp at hx;subst hx;exact hn
  · by_cases e:i<k
    · have:=h.fits i e
      have e2:(rm++[n]).getD i 0=rm.getD i 0:=by simp only [List.getD];rw [List.getElem?_append_left (by omega)]
      rw [e2];exact this
    · have:i=k:=by omega
      subst this;have e2:(rm++[n]).getD i 0=n:=by simp only [List.getD];rw [List.getElem?_append_right (by omega),hl];simp
      rw [e2];exact hf
theorem carAt_len {cs:List Car} {g l:Int} (h:CarsInv cs g l) (c:Int):0≤(FJ cs c).len∧(FJ cs c).len≤3:=by
  unfold FJ
  by_cases hc:c.toNat<cs.length
  · have h1:=h.ok _ (AJ (d:=AD) hc)
    have:=carOk_range h1.1;omega
  · simp [List.getD,List.getElem?_eq_none (Nat.le_of_not_lt hc),AD]
theorem lenOf_3 {cs:List Car} {g l:Int} (h:CarsInv cs g l) (t:List Int):0≤lenOf cs t∧lenOf cs t≤3*t.length:=by
  induction t with
  | nil=>simp [lenOf]
  | cons c t ih=>
    have:=carAt_len h c;simp only [lenOf,List.map_cons,List.sum_cons,List.length_cons] at ih ⊢;omega
theorem Placed.tracks {cs:List Car} {T k a:Nat} {ts:List (List Int)} (h:Placed cs T k a ts):ts.flatten.length=k:=by rw [h.perm.length_eq,wholeL_length]
theorem Placed.tlen {cs:List Car} {T k a:Nat} {ts:List (List Int)} (h:Placed cs T k a ts) (i:Nat):(ts.getD i []).length≤k:=by
  by_cases hi:i<ts.length
  · have:=DW (AJ (d:=[]) hi)
    rw [h.tracks] at this;exact this
  · simp [List.getD,List.getElem?_eq_none (Nat.le_of_not_lt hi)]
theorem drawn_valid {cs:List Car} {T a:Nat} {ts:List (List Int)} {rm:List Int} {g l:Int} (hc:CarsInv cs g l) (hp:Placed cs T cs.length a ts) (hr:Roomy cs ts T rm) (h5:cs.length≤5) (h3:T≤3):Valid ⟨cs,rm,ts⟩:=by
  have hT:=hp.a0;refine Fine.valid ⟨h5,fun c hx=>(hc.ok c hx).1,by show 0<rm.length;rw [hr.len];omega,by show rm.length≤3;rw [hr.len];exact h3,fun n hn=>?_,by show ts.length=rm.length;rw [hr.len,hp.len],fun t ht c hc2=>?_,?_,fun k hk=>hr.fits k (by rw [← hp.len];exact hk),by show cs.length≤ts.flatten.length;rw [hp.tracks];exact Nat.le_refl _,groups_iff.2 (hp.groups hc)⟩
  · have:=hr.ok n hn;simp [inB];omega
  · have:c∈GS cs.length:=hp.perm.mem_iff.1 (List.mem_flatten.2 ⟨t,ht,hc2⟩)
    exact mem_wholeL.1 this
  · show ts.flatten.Nodup
    exact (hp.perm.nodup_iff).2 ((KN _).imp fun h e=>by omega)
theorem HO {a b c d:Int} {p h:Bool} (h1:1≤a∧a≤3) (h2:1≤b∧b≤60) (h3:0≤c∧c≤b) (h4:0≤d∧d≤3):CW ⟨a,b,c,d,p,h⟩=0∧a≤3:=by
  refine ⟨?_,h1.2⟩;unfold CW;rw [if_pos];simp only [inB,Bool.and_eq_true,decide_eq_true_eq];omega
theorem Placed.tl {cs:List Car} {T k a:Nat} {ts:List (List Int)} (h:Placed cs T k a ts):∀ t∈ts,t.length≤k:=fun t ht=>by
  have:=DW ht;rw [h.tracks] at this;exact this
theorem Placed.okAll {cs:List Car} {T a:Nat} {ts:List (List Int)} (h:Placed cs T cs.length a ts):OkAll cs ts:=fun t ht c hc=>
  mem_wholeL.1 (h.perm.mem_iff.1 (List.mem_flatten.2 ⟨t,ht,hc⟩))
end Go.Sh
