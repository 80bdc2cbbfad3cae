/- A part of the proof of the laws of this seat. -/
import Derived.Test.YtgcemienebmdeaaP2
import Derived.Test.YtgcemienebmdeaaP1
set_option linter.unusedVariables false
set_option linter.unusedSimpArgs false
namespace Go.Sh
open Go Go.Sl
def gAt (cs:List Car) (i:Nat):Int:=(cs.getD i noCar).grp
structure CarsInv (cs:List Car) (g l:Int):Prop where
  ok:∀ c∈cs,carErr c=0∧c.len≤3
  le:∀ i,i<cs.length→gAt cs i≤g
  run:∀ i j,i≤j→j<cs.length→gAt cs i=gAt cs j→gAt cs i≠0→∀ m,i≤m→m≤j→gAt cs m=gAt cs i
  g0:0≤g∧g≤3
  l0:0≤l∧l≤2
  last:0<l→1≤g∧(0<cs.length→gAt cs (cs.length-1)=g∨∀ i,i<cs.length→gAt cs i<g)
theorem CarsInv.nil:CarsInv [] 0 0:=⟨fun c h=>by simp at h,fun i h=>by simp at h,fun i j _ h=>by simp at h,by omega,by omega,fun h=>by omega⟩
theorem KI {cs:List Car} {c:Car} {i:Nat}:gAt (cs++[c]) i=if i<cs.length then gAt cs i else if i=cs.length then c.grp else 0:=by
  unfold gAt;simp only [List.getD]
  split
  · rename_i h;rw [List.getElem?_append_left h]
  · rename_i h
    rw [List.getElem?_append_right (by omega)]
    split
    · rename_i h2;simp [h2]
    · rename_i h2
      have:1≤i-cs.length:=by omega
      cases hh:i-cs.length with
      | zero=>omega
      | succ n=>simp [noCar]
theorem CarsInv.snoc {cs:List Car} {g l:Int} (h:CarsInv cs g l) {c:Car} (hc:carErr c=0∧c.len≤3) (hg:(0<l→c.grp=g)∧(¬ 0<l→c.grp=0)):CarsInv (cs++[c]) g (if 0<l then l-1 else l):=by
  have hg0:=h.g0;have hl0:=h.l0;have hle:c.grp≤g:=by by_cases hl:0<l;exact Int.le_of_eq (hg.1 hl);rw [hg.2 hl];omega
  refine ⟨fun x hx=>?_,fun i hi=>?_,?_,hg0,by split <;> omega,fun hl=>?_⟩
  · rcases List.mem_append.1 hx with hx | hx
    · exact h.ok x hx
    · simp at hx;subst hx;exact hc
  · rw [KI]
    split
    · rename_i h1;exact h.le i h1
    · split
      · exact hle
      · omega
  · intro i j hij hj e h0 m him hmj
    simp only [List.length_append,List.length_cons,List.length_nil] at hj;have A:∀ x,x<cs.length→gAt (cs++[c]) x=gAt cs x:=fun x hx=>by rw [KI,if_pos hx]
    have B:gAt (cs++[c]) cs.length=c.grp:=by rw [KI,if_neg (by omega),if_pos rfl]
    by_cases hj1:j<cs.length
    · rw [A i (by omega)] at e h0 ⊢
      rw [A j hj1] at e;rw [A m (by omega)];exact h.run i j hij hj1 e h0 m him hmj
    · have hj2:j=cs.length:=by omega
      subst hj2;rw [B] at e
      by_cases hi1:i<cs.length
      · rw [A i hi1] at e h0 ⊢
        by_cases hm1:m<cs.length
        · rw [A m hm1]
          by_cases hl:0<l
          · have hcg:=hg.1 hl
            rcases (h.last hl).2 (by omega) with hla | hla
            · exact h.run i (cs.length-1) (by omega) (by omega) (by rw [hla];omega) h0 m him (by omega)
            · have:=hla i hi1;omega
          · have:=hg.2 hl;omega
        · have hm2:m=cs.length:=by omega
          subst hm2;rw [B];exact e.symm
      · have hi2:i=cs.length:=by omega
        have hm2:m=i:=by omega
        rw [hm2]
  · have hl1 : 0 < l := by
      by_cases h1:0<l
      · exact h1
      · rw [if_neg h1] at hl;exact hl
    have:=h.last hl1;refine ⟨this.1,fun _=>.inl ?_⟩;have e:(cs++[c]).length-1=cs.length:=by simp
    rw [e,KI,if_neg (by omega),if_pos rfl];exact hg.1 hl1
structure Placed (cs:List Car) (T k a:Nat) (ts:List (List Int)):Prop where
  len:ts.length=T
  a0:a<T
  perm:ts.flatten.Perm (DG k)
  ex:∃ tr:Nat→Nat,(∀ i,i<T→ts.getD i []=(DG k).filter fun c=>decide (tr c.toNat=i))∧(∀ c,c<k→tr c<T)∧(∀ c,c+1<k→gAt cs (c+1)≠0→gAt cs (c+1)=gAt cs c→tr (c+1)=tr c)∧(0<k→tr (k-1)=a)
theorem mem_wholeL {n:Nat} {c:Int}:c∈DG n↔0≤c∧c<n:=by
  unfold DG;simp only [List.mem_map,List.mem_range]
  constructor
  · rintro ⟨i,hi,rfl⟩;omega
  · intro h;exact ⟨c.toNat,by omega,by omega⟩
theorem Placed.start {cs:List Car} {T:Nat} (hT:0<T):Placed cs T 0 0 (List.replicate T []):=by
  refine ⟨by simp,hT,by simp [DG],fun _=>0,fun i hi=>?_,fun c h=>by omega,fun c h=>by omega,fun h=>by omega⟩;simp [DG,List.getD,hi]
theorem NR:∀ (ts:List (List Int)) (a:Nat) (x:Int),a<ts.length→(ts.set a (ts.getD a []++[x])).flatten.Perm (ts.flatten++[x]):=by
  intro ts
  induction ts with
  | nil=>intro a x h;simp at h
  | cons t r ih=>
    intro a x h;cases a with
    | zero=>
      simp only [List.set_cons_zero,List.getD_cons_zero,List.flatten_cons,List.append_assoc];exact List.Perm.append_left t List.perm_append_comm
    | succ a=>
      simp only [List.set_cons_succ,List.getD_cons_succ,List.flatten_cons,List.append_assoc];exact List.Perm.append_left t (ih a x (by simpa using h))
theorem Placed.put {cs : List Car} {T k a a2 : Nat} {ts : List (List Int)} (h : Placed cs T k a ts) (h2 : a2 < T) (hs : k ≠ 0 → gAt cs k ≠ 0 → gAt cs k = gAt cs (k - 1) → a2 = a) :
    Placed cs T (k+1) a2 (ts.set a2 (ts.getD a2 []++[(k:Int)])):=by
  obtain ⟨tr,t1,t2,t3,t4⟩:=h.ex;have hl:=h.len;refine ⟨by rw [List.length_set];exact hl,h2,?_,fun c=>if c=k then a2 else tr c,fun i hi=>?_,fun c hc=>?_,fun c hc h0 he=>?_,fun _=>?_⟩
  · rw [KZ]
    exact (NR ts a2 k (by omega)).trans (List.Perm.append_right _ h.perm)
  · have hf : (DG k).filter (fun c => decide ((if c.toNat = k then a2 else tr c.toNat) = i)) = ts.getD i [] := by
      rw [t1 i hi];refine List.filter_congr fun c hc=>?_
      have:=mem_wholeL.1 hc;rw [if_neg (by omega)]
    rw [KZ,List.filter_append,hf]
    by_cases e:a2=i
    · subst e
      simp [List.getD,List.getElem?_set,hl,hi]
    · simp [List.getD,List.getElem?_set,e]
  · show (if c=k then a2 else tr c)<T
    split
    · exact h2
    · exact t2 c (by omega)
  · show (if c+1=k then a2 else tr (c+1))=(if c=k then a2 else tr c)
    by_cases e1:c+1=k
    · have e3:¬ c=k:=by omega
      rw [if_pos e1,if_neg e3];have:=hs (by omega) (by rw [← e1];exact h0) (by rw [← e1];exact he);rw [this,← t4 (by omega),← e1];rfl
    · have e3:¬ c=k:=by omega
      rw [if_neg e1,if_neg e3];exact t3 c (by omega) h0 he
  · simp
theorem sorted_prev {l:List Int} (hs:l.Pairwise (·<·)) {j:Nat} (hj:j<l.length) (hm:l.getD j 0-1∈l):0<j∧l.getD (j-1) 0=l.getD j 0-1:=by
  obtain ⟨m,hm1,hm2⟩:=List.mem_iff_getElem.1 hm;have hlt:∀ (x y:Nat) (hx:x<l.length) (hy:y<l.length),x<y→l.getD x 0<l.getD y 0:=fun x y hx hy h=>by
    have:=List.pairwise_iff_getElem.1 hs x y hx hy h
    simpa [List.getD,hx,hy] using this
  have e:l.getD m 0=l.getD j 0-1:=by simpa [List.getD,hm1] using hm2
  have h1:m<j:=by
    rcases Nat.lt_trichotomy m j with h | h | h
    · exact h
    · subst h;omega
    · have:=hlt j m hj hm1 h;omega
  rcases Nat.lt_or_ge m (j-1) with h2 | h2
  · have a:=hlt m (j-1) hm1 (by omega) h2
    have b:=hlt (j-1) j (by omega) hj (by omega);omega
  · have:m=j-1:=by omega
    subst this;exact ⟨by omega,e⟩
theorem wholeL_sorted (n:Nat):(DG n).Pairwise (·<·):=by
  unfold DG;rw [List.pairwise_map];exact List.pairwise_lt_range.imp fun h=>by omega
theorem Placed.groups {cs:List Car} {T a:Nat} {ts:List (List Int)} {g l:Int} (h:Placed cs T cs.length a ts) (hc:CarsInv cs g l):GrpFrom cs ts []:=by
  obtain ⟨tr,t1,t2,t3,t4⟩:=h.ex;have hmem:∀ i,i<T→∀ c,c∈ts.getD i []↔(0≤c∧c<cs.length)∧tr c.toNat=i:=fun i hi c=>by
    rw [t1 i hi,List.mem_filter,mem_wholeL,decide_eq_true_eq]
  have hgrp:∀ c:Int,grp cs c=gAt cs c.toNat:=fun c=>rfl
  have hrun:∀ n x:Nat,x+n<cs.length→gAt cs x≠0→gAt cs x=gAt cs (x+n)→tr (x+n)=tr x:=by
    intro n
    induction n with
    | zero=>intro x _ _ _;rfl
    | succ n ih=>
      intro x hx h0 e;have e1:gAt cs (x+n)=gAt cs x:=hc.run x (x+(n+1)) (by omega) hx e h0 (x+n) (by omega) (by omega);have:=ih x (by omega) h0 e1.symm;rw [← this];exact t3 (x+n) (by omega) (by rw [show x+n+1=x+(n+1) by omega,← e];exact h0) (by rw [show x+n+1=x+(n+1) by omega,← e,e1])
  have hrun2:∀ x y:Nat,x<cs.length→y<cs.length→gAt cs x≠0→gAt cs x=gAt cs y→tr x=tr y:=fun x y hx hy h0 e=>by
    rcases Nat.le_total x y with hxy | hxy
    · have:=hrun (y-x) x (by omega) h0 (by rw [show x+(y-x)=y by omega];exact e)
      rw [show x+(y-x)=y by omega] at this;exact this.symm
    · have:=hrun (x-y) y (by omega) (by rw [← e];exact h0) (by rw [show y+(x-y)=x by omega];exact e.symm)
      rw [show y+(x-y)=x by omega] at this;exact this
  intro i j hi hj h0 hm;rw [h.len] at hi;have hcm:(ts.getD i []).getD j 0∈ts.getD i []:=AZ hj;obtain ⟨⟨c0,c1⟩,c2⟩:=(hmem i hi _).1 hcm
  generalize hcc:(ts.getD i []).getD j 0=c at hcm c0 c1 c2 h0 hm
  rcases hm with hm | ⟨c',hc',e⟩
  · simp at hm
  · rw [hgrp,hgrp] at e
    rw [hgrp] at h0;have hs:(ts.getD i []).Pairwise (·<·):=by rw [t1 i hi];exact (wholeL_sorted _).sublist List.filter_sublist
    have hc2:(0≤c'∧c'<cs.length)∧(tr c'.toNat<i∨c'∈(ts.getD i []).take j):=by
      rcases List.mem_append.1 hc' with hx | hx
      · obtain ⟨t,ht,hx⟩:=List.mem_flatten.1 hx
        obtain ⟨m,hm1,hm2⟩:=List.mem_iff_getElem.1 ht;have hm3:m<i∧m<ts.length:=by rw [List.length_take] at hm1;omega
        have e3:ts.getD m []=t:=by rw [← hm2];simp [List.getD,hm3.2]
        rw [← e3] at hx;obtain ⟨hb,ht2⟩:=(hmem m (by rw [← h.len];exact hm3.2) _).1 hx;exact ⟨hb,.inl (by omega)⟩
      · exact ⟨((hmem i hi _).1 (List.mem_of_mem_take hx)).1,.inr hx⟩
    obtain ⟨⟨d0,d1⟩,hd⟩:=hc2;have htr:=hrun2 c.toNat c'.toNat (by omega) (by omega) (by omega) e.symm;rcases hd with hd | hd
    · omega
    · obtain ⟨m,hm1,hm2⟩:=List.mem_iff_getElem.1 hd
      have hm3:m<j∧m<(ts.getD i []).length:=by rw [List.length_take] at hm1;omega
      have hlt:c'<c:=by
        have h1:=List.pairwise_iff_getElem.1 hs m j hm3.2 hj hm3.1;have e1:c'=(ts.getD i [])[m]:=by rw [← hm2];simp
        have e2:c=(ts.getD i [])[j]:=by rw [← hcc,List.getD,List.getElem?_eq_getElem hj];rfl
        rw [e1,e2];exact h1
      have e4:gAt cs (c.toNat-1)=gAt cs c'.toNat:=hc.run c'.toNat c.toNat (by omega) (by omega) e (by omega) (c.toNat-1) (by omega) (by omega);have e5:tr (c.toNat-1)=i:=by
        have:=hrun2 (c.toNat-1) c.toNat (by omega) (by omega) (by omega) (by omega);omega
      have hin:c-1∈ts.getD i []:=(hmem i hi _).2 ⟨by omega,by rw [show (c-1).toNat=c.toNat-1 by omega];exact e5⟩;have hp:=sorted_prev hs hj (by rw [hcc];exact hin);rw [hcc] at hp;unfold CT;have e6:((j:Int)-1).toNat=j-1:=by omega
      rw [show (↑j:Int).toNat=j by omega,e6,hp.2,hcc];have e7:inB ↑j 1 (↑(ts.getD i []).length-1)=true:=by simp only [inB,Bool.and_eq_true,decide_eq_true_eq];omega
      rw [e7];have e8:(JO cs c).grp=(JO cs (c-1)).grp:=by
        show gAt cs c.toNat=gAt cs (c-1).toNat;rw [show (c-1).toNat=c.toNat-1 by omega];omega
      rw [decide_eq_true (show 0<(JO cs c).grp from h0),decide_eq_true e8];rfl
structure Roomy (cs:List Car) (ts:List (List Int)) (k:Nat) (rm:List Int):Prop where
  len:rm.length=k
  ok:∀ n∈rm,0≤n∧n≤20
  fits:∀ i,i<k→lenOf cs (ts.getD i [])≤rm.getD i 0
theorem Roomy.nil (cs:List Car) (ts:List (List Int)):Roomy cs ts 0 []:=⟨rfl,fun n h=>by simp at h,fun i h=>by omega⟩
theorem Roomy.snoc {cs:List Car} {ts:List (List Int)} {k:Nat} {rm:List Int} (h:Roomy cs ts k rm) {n:Int} (hn:0≤n∧n≤20) (hf:lenOf cs (ts.getD k [])≤n):Roomy cs ts (k+1) (rm++[n]):=by
  have hl:=h.len;refine ⟨by simp [hl],fun x hx=>?_,fun i hi=>?_⟩
  · rcases List.mem_append.1 hx with hx | hx
    · exact h.ok x hx
    · simp at hx;subst hx;exact hn
  · by_cases e:i<k
    · have:=h.fits i e
      have e2:(rm++[n]).getD i 0=rm.getD i 0:=by simp only [List.getD];rw [List.getElem?_append_left (by omega)]
      rw [e2];exact this
    · have:i=k:=by omega
      subst this;have e2:(rm++[n]).getD i 0=n:=by simp only [List.getD];rw [List.getElem?_append_right (by omega),hl];simp
      rw [e2];exact hf
theorem Placed.tracks {cs:List Car} {T k a:Nat} {ts:List (List Int)} (h:Placed cs T k a ts):ts.flatten.length=k:=by rw [h.perm.length_eq,EX]
theorem Placed.tl {cs:List Car} {T k a:Nat} {ts:List (List Int)} (h:Placed cs T k a ts):∀ t∈ts,t.length≤k:=fun t ht=>by
  have:=GD ht;rw [h.tracks] at this;exact this
theorem Placed.okAll {cs:List Car} {T a:Nat} {ts:List (List Int)} (h:Placed cs T cs.length a ts):OkAll cs ts:=fun t ht c hc=>
  mem_wholeL.1 (h.perm.mem_iff.1 (List.mem_flatten.2 ⟨t,ht,hc⟩))
theorem perm_sum {l m:List Int} (h:l.Perm m):l.sum=m.sum:=by
  induction h with
  | nil=>rfl
  | cons x _ ih=>simp [ih]
  | swap x y l=>simp only [List.sum_cons];omega
  | trans _ _ h1 h2=>exact h1.trans h2
theorem erase_perm {α:Type} {d:α} {l:List α} {i:Nat} (h:i<l.length):(l.getD i d::l.eraseIdx i).Perm l:=by
  have e:l=l.take i++l.getD i d::l.drop (i+1):=by rw [← LH h,List.take_append_drop]
  rw [← erase_take];exact (List.perm_middle.symm).trans (List.Perm.of_eq e.symm)
structure Blk (cs:List Car) (bl:List (List Int)):Prop where
  one:∀ b∈bl,∀ x∈b,∀ y∈b,grp cs x=grp cs y
  apart:bl.Pairwise fun b c=>∀ x∈b,∀ y∈c,0<grp cs x→grp cs x≠grp cs y
theorem Blk.perm {cs:List Car} {bl bl':List (List Int)} (h:Blk cs bl) (p:bl.Perm bl'):Blk cs bl':=
  ⟨fun b hb=>h.one b (p.mem_iff.2 hb),(p.pairwise_iff (fun {b c} hbc x hx y hy h0 e=>hbc y hy x hx (by omega) e.symm)).1 h.apart⟩
def RowOk (cs:List Car) (t:List Int):Prop:=∀ k,k<t.length→0<grp cs (t.getD k 0)→(∃ c∈t.take k,grp cs c=grp cs (t.getD k 0))→0<k∧grp cs (t.getD (k-1) 0)=grp cs (t.getD k 0)
theorem OA {a b:List Int} {k:Nat}:(a++b).getD k 0=if k<a.length then a.getD k 0 else b.getD (k-a.length) 0:=by
  simp only [List.getD]
  split
  · rename_i h;rw [List.getElem?_append_left h]
  · rename_i h;rw [List.getElem?_append_right (by omega)]
theorem Blk.row {cs:List Car}:∀ {bl:List (List Int)},Blk cs bl→RowOk cs bl.flatten:=by
  intro bl
  induction bl with
  | nil=>intro _ k hk;simp at hk
  | cons b r ih=>
    intro h k hk h0 hc;have ih:=ih ⟨fun b hb=>h.one b (List.mem_cons_of_mem _ hb),(List.pairwise_cons.1 h.apart).2⟩;rw [List.flatten_cons] at hk h0 hc ⊢;obtain ⟨c,hc,e⟩:=hc
    by_cases hkb:k<b.length
    · have e0:(b++r.flatten).getD k 0=b.getD k 0:=by rw [OA,if_pos hkb]
      rw [List.take_append_of_le_length (by omega)] at hc;have hk0:0<k:=by
        rcases Nat.eq_zero_or_pos k with hz | hz
        · subst hz;simp at hc
        · exact hz
      refine ⟨hk0,?_⟩;rw [e0,OA,if_pos (by omega)];exact h.one b List.mem_cons_self _ (AZ (by omega)) _ (AZ hkb)
    · have e0:(b++r.flatten).getD k 0=r.flatten.getD (k-b.length) 0:=by rw [OA,if_neg hkb]
      rw [e0] at h0 e ⊢;have hk2:k-b.length<r.flatten.length:=by rw [List.length_append] at hk;omega
      have hmem:r.flatten.getD (k-b.length) 0∈r.flatten:=AZ hk2;rw [List.take_append,List.take_of_length_le (by omega)] at hc;rcases List.mem_append.1 hc with hc | hc
      · exfalso
        obtain ⟨b2,hb2,hm2⟩:=List.mem_flatten.1 hmem;exact (List.pairwise_cons.1 h.apart).1 b2 hb2 c hc _ hm2 (by omega) e
      · obtain ⟨i1,i2⟩:=ih (k-b.length) hk2 h0 ⟨c,hc,e⟩
        refine ⟨by omega,?_⟩;rw [OA,if_neg (by omega),show k-1-b.length=k-b.length-1 by omega];exact i2
theorem coupled_of {cs:List Car} {t:List Int} {k:Nat} (hk:k<t.length) (h0:0<grp cs (t.getD k 0)) (h1:0<k) (e:grp cs (t.getD (k-1) 0)=grp cs (t.getD k 0)):CT cs t ↑k=true:=by
  rw [coupled_raw hk,show ((k:Int)-1).toNat=k-1 by omega,decide_eq_true (show 0<(k:Int) by omega),decide_eq_true (show 0<(JO cs (t.getD k 0)).grp from h0),decide_eq_true (show (JO cs (t.getD k 0)).grp=(JO cs (t.getD (k-1) 0)).grp from e.symm)];rfl
theorem coupled_to {cs:List Car} {t:List Int} {k:Nat} (hk:k<t.length) (h:CT cs t ↑k=true):0<k∧0<grp cs (t.getD k 0)∧grp cs (t.getD k 0)=grp cs (t.getD (k-1) 0):=by
  rw [coupled_raw hk,show ((k:Int)-1).toNat=k-1 by omega] at h;simp only [Bool.and_eq_true,decide_eq_true_eq] at h;exact ⟨by omega,h.2.1,h.2.2⟩
theorem blocks_blk {cs : List Car} {t : List Int} (h : ∀ k, k < t.length → 0 < grp cs (t.getD k 0) → (∃ c ∈ t.take k, grp cs c = grp cs (t.getD k 0)) → CT cs t ↑k = true) :
    ∀ k,k≤t.length→Blk cs (BK cs t k)∧(0<k→∃ ys y,BK cs t k=ys++[y]∧t.getD (k-1) 0∈y):=by
  intro k
  induction k with
  | zero=>intro _;exact ⟨⟨fun b hb=>by simp [BK] at hb,by simp [BK]⟩,fun h=>by omega⟩
  | succ k ih=>
    intro hk;obtain ⟨hb,hl⟩:=ih (by omega)
    by_cases hc:CT cs t ↑k=true
    · obtain ⟨c1,c2,c3⟩:=coupled_to (by omega) hc
      obtain ⟨ys,y,e,hy⟩:=hl c1;have e2:BK cs t (k+1)=ys++[y++[t.getD k 0]]:=by
        rw [blocksTo_yes hc,e];simp [List.getD]
      rw [e2];rw [e] at hb;have ho:=hb.one;have ha:=List.pairwise_append.1 hb.apart;refine ⟨⟨fun b hb2=>?_,List.pairwise_append.2 ⟨ha.1,by simp,fun b hb2 c hc2=>?_⟩⟩,fun _=>⟨ys,_,rfl,by simp⟩⟩
      · rcases List.mem_append.1 hb2 with hb2 | hb2
        · exact ho b (List.mem_append_left _ hb2)
        · have hb2:=List.mem_singleton.1 hb2
          subst hb2;have key:∀ x∈y++[t.getD k 0],grp cs x=grp cs (t.getD (k-1) 0):=fun x hx=>by
            rcases List.mem_append.1 hx with hx | hx
            · exact ho y (by simp) x hx _ hy
            · have hx:=List.mem_singleton.1 hx;subst hx;exact c3
          intro x hx z hz;rw [key x hx,key z hz]
      · have hc2:=List.mem_singleton.1 hc2
        subst hc2;intro x hx z hz h0;rcases List.mem_append.1 hz with hz | hz
        · exact ha.2.2 b hb2 y (by simp) x hx z hz h0
        · have hz:=List.mem_singleton.1 hz;subst hz
          rw [c3];exact ha.2.2 b hb2 y (by simp) x hx _ hy h0
    · have hc':CT cs t ↑k=false:=by simpa using hc
      rw [blocksTo_no hc'];refine ⟨⟨fun b hb2=>?_,List.pairwise_append.2 ⟨hb.apart,by simp,fun b hb2 c hc2=>?_⟩⟩,fun _=>⟨_,_,rfl,by simp⟩⟩
      · rcases List.mem_append.1 hb2 with hb2 | hb2
        · exact hb.one b hb2
        · have hb2:=List.mem_singleton.1 hb2
          subst hb2;intro x hx z hz;rw [List.mem_singleton.1 hx,List.mem_singleton.1 hz]
      · have hc2:=List.mem_singleton.1 hc2
        subst hc2;intro x hx z hz h0 e;have hz:=List.mem_singleton.1 hz;subst hz;refine hc (h k (by omega) (by omega) ⟨x,?_,e⟩);rw [← LF k (by omega)];exact List.mem_flatten.2 ⟨b,hb2,hx⟩
theorem rowsN_perm:∀ (n:Nat) (bl:List (List Int)),bl.length=n→∀ x∈rowsN n bl,∃ bl':List (List Int),bl'.Perm bl∧x=bl'.flatten:=by
  intro n
  induction n with
  | zero=>intro bl h x hx;simp [rowsN,ordN] at hx;subst hx;exact ⟨[],by rw [List.length_eq_zero_iff.1 h],rfl⟩
  | succ n ih=>
    intro bl h x hx;simp only [rowsN,ordN,ordFrom,List.mem_flatMap,List.mem_map] at hx;obtain ⟨i,hi,y,hy,rfl⟩:=hx;have hi:=List.mem_range'_1.1 hi;obtain ⟨bl',hp,rfl⟩:=ih _ (erase_len (k:=i) (by omega) h) y hy;refine ⟨bl.getD i []::bl',?_,rfl⟩;refine (List.Perm.cons _ hp).trans ?_;have hb:i<bl.length:=by omega
    exact erase_perm hb
theorem Fine.row {Y:Yard} (f:Fine Y) {r:List Int} (hr:r∈rowsN (HH Y.cars (trk Y 0)).length (HH Y.cars (trk Y 0))):Valid { Y with tracks:=Y.tracks.set 0 r }∧r.Perm (trk Y 0):=by
  have hlen:=f.len;have hr1:=f.room1;obtain ⟨t,ts,ht⟩:∃ t ts,Y.tracks=t::ts:=by
    cases hh:Y.tracks with
    | nil=>rw [hh] at hlen;simp at hlen;omega
    | cons t ts=>exact ⟨t,ts,rfl⟩
  have ht0:trk Y 0=t:=by show Y.tracks.getD 0 []=t;rw [ht];rfl
  rw [ht0] at hr ⊢;have hg:=groups_iff.1 f.groups;have hrow:∀ k,k<t.length→0<grp Y.cars (t.getD k 0)→(∃ c∈t.take k,grp Y.cars c=grp Y.cars (t.getD k 0))→CT Y.cars t ↑k=true:=fun k hk h0 hc=>by
    have:=hg 0 k (by rw [ht];simp) (by rw [ht];simpa using hk) (by rw [ht];simpa using h0) (.inr (by rw [ht];simpa using hc));rw [ht] at this;simpa using this
  obtain ⟨hb,_⟩:=blocks_blk hrow t.length (Nat.le_refl _);obtain ⟨bl',hp,rfl⟩:=rowsN_perm _ _ rfl r hr;have hflat:(HH Y.cars t).flatten=t:=by
    have:=LF (cs:=Y.cars) (t:=t) t.length (Nat.le_refl _);rw [List.take_length] at this;exact this
  have hperm:bl'.flatten.Perm t:=by
    have:=hp.flatten;rw [hflat] at this;exact this
  have hrok:=(Blk.perm hb hp.symm).row;refine ⟨Fine.valid ⟨f.cars,f.carOk,f.room1,f.room3,f.roomOk,by rw [List.length_set];exact f.len,?_,?_,?_,?_,?_⟩,hperm⟩
  all_goals simp only [ht,List.set_cons_zero]
  · intro x hx c hc
    have hok:=f.ok;rw [ht] at hok;rcases List.mem_cons.1 hx with e | hx
    · subst e;exact hok t List.mem_cons_self c (hperm.mem_iff.1 hc)
    · exact hok x (List.mem_cons_of_mem _ hx) c hc
  · have hn:=f.nodup
    rw [ht] at hn;rw [List.flatten_cons] at hn ⊢;exact (List.Perm.append_right _ hperm).nodup_iff.2 hn
  · intro k hk
    have hf:=f.fits;rw [ht] at hf;cases k with
    | zero=>
      have:=hf 0 (by simp);rw [List.getD_cons_zero] at this ⊢;have e:lenOf Y.cars bl'.flatten=lenOf Y.cars t:=by
        unfold lenOf;exact perm_sum (hperm.map _)
      rw [e];exact this
    | succ k=>simpa using hf (k+1) (by simpa using hk)
  · have ha:=f.all
    rw [ht] at ha;rw [List.flatten_cons,List.length_append] at ha ⊢;rw [hperm.length_eq];exact ha
  · refine groups_iff.2 ?_
    show GrpFrom Y.cars (bl'.flatten::ts) [];intro i k hi hk h0 hm;rcases hm with hm | ⟨c,hc,e⟩
    · simp at hm
    · cases i with
      | zero=>
        simp only [List.getD_cons_zero,List.take_zero,List.flatten_nil,List.nil_append] at hk h0 hc e ⊢;obtain ⟨h1,h2⟩:=hrok k hk h0 ⟨c,hc,e⟩;exact coupled_of hk h0 h1 h2
      | succ i=>
        have:=hg (i+1) k (by rw [ht];simpa using hi) (by rw [ht];simpa using hk) (by rw [ht];simpa using h0) (.inr ⟨c,by
          rw [ht]
          simp only [List.take_succ_cons,List.flatten_cons,List.getD_cons_succ,List.mem_append] at hc ⊢
          rcases hc with (hc | hc) | hc
          · exact .inl (.inl (hperm.mem_iff.1 hc))
          · exact .inl (.inr hc)
          · exact .inr hc,by rw [ht];simpa using e⟩)
        rw [ht] at this;simpa using this
section
variable {Y:Yard} {k:Nat}
end
section
variable {Y:Yard} {s:Shift} {k:Nat}
end
section
variable {Y:Yard} {goal:Yard→Bool} {d k:Nat} {ds:List Shift}
end
theorem deal_put {n k:Nat} (hk:k<n):(DG k++List.replicate (n-k) (0:Int)).set k (k:Int)=DG (k+1)++List.replicate (n-(k+1)) 0:=by
  rw [List.set_append_right _ _ (by rw [EX];omega),EX,Nat.sub_self,show n-k=(n-(k+1))+1 by omega,List.replicate_succ,List.set_cons_zero,KZ];simp
theorem swap_perm {l:List Int} {i j:Nat} (hi:i<l.length) (hj:j<l.length):((l.set i (l.getD j 0)).set j (l.getD i 0)).Perm l:=by
  have e1:l.getD i 0=l[i]:=by simp [List.getD,hi]
  have e2:l.getD j 0=l[j]:=by simp [List.getD,hj]
  rw [e1,e2];exact List.set_set_perm hi hj
end Go.Sh
namespace Go.Sl
open Go
theorem own_val_int {E:TypeId} {v:Value} {M:Seg} {vs:List Value} {ys:List Int} (h:Own E 1 DK v vs M) (he:vs=ys.map fun n=>Value.int .i64 n):Own E 1 AK v ys M:=by
  have e1:CF 1 DK vs=CF 1 AK ys:=by
    rw [he,encL_vals];simp only [CF,AK,List.range_one,List.map_cons,List.map_nil];exact List.map_eq_flatMap
  have e2:vs.length=ys.length:=by rw [he,List.length_map]
  rcases h with ⟨hv,hx,hM⟩ | ⟨b,c,sp,hv,hc,hM,hl⟩
  · refine .inl ⟨hv,?_,hM⟩
    rw [hx] at e2;exact List.length_eq_zero_iff.1 e2.symm
  · exact .inr ⟨b,c,sp,by rw [hv,e2],by rw [← e2];exact hc,by rw [← e1];exact hM,by rw [← e1];exact hl⟩
end Go.Sl
namespace Go.Sh
open Go Go.Sl
def yvD:Value × Value × Value:=(undef,undef,undef)
def YardsV (I:Imm) (xs:List (Value × Value × Value)) (Ys:List Yard):Prop:=xs.length=Ys.length∧∀ i,i<xs.length→IsYard I (.agg #[(xs.getD i yvD).1,(xs.getD i yvD).2.1,(xs.getD i yvD).2.2]) (Ys.getD i NM)
theorem YardsV.mono {I J:Imm} {xs:List (Value × Value × Value)} {Ys:List Yard} (h:YardsV I xs Ys) (le:I.le J):YardsV J xs Ys:=⟨h.1,fun i hi=>(h.2 i hi).mono le⟩
theorem YardsV.nil (I:Imm):YardsV I [] []:=⟨rfl,fun i hi=>by simp at hi⟩
theorem YardsV.snoc {I:Imm} {xs:List (Value × Value × Value)} {Ys:List Yard} {a b c:Value} {Y:Yard} (h:YardsV I xs Ys) (hY:IsYard I (.agg #[a,b,c]) Y):YardsV I (xs++[(a,b,c)]) (Ys++[Y]):=by
  refine ⟨by simp [h.1],fun i hi=>?_⟩;rw [List.length_append,List.length_singleton] at hi;have hl:=h.1
  by_cases hb:i<xs.length
  · have e1:(xs++[(a,b,c)]).getD i yvD=xs.getD i yvD:=by simp [List.getD,List.getElem?_append_left hb]
    have e2:(Ys++[Y]).getD i NM=Ys.getD i NM:=by simp [List.getD,List.getElem?_append_left (show i<Ys.length by omega)]
    rw [e1,e2];exact h.2 i hb
  · obtain rfl:i=xs.length:=by omega
    have e1:(xs++[(a,b,c)]).getD xs.length yvD=(a,b,c):=by simp [List.getD]
    have e2:(Ys++[Y]).getD xs.length NM=Y:=by simp [List.getD,hl]
    rw [e1,e2];exact hY
theorem YardsV.at {I : Imm} {xs : List (Value × Value × Value)} {Ys : List Yard} (h : YardsV I xs Ys) {i : Nat} (hi : i < xs.length) :
    ∃ a b c,xs.getD i yvD=(a,b,c)∧IsCars I a (Ys.getD i NM).cars∧BW I b (Ys.getD i NM).room∧IsRows I c (Ys.getD i NM).tracks:=by
  obtain ⟨v1,v2,v3,h1,h2,h3,h4⟩:=h.2 i hi;simp only [Value.agg.injEq] at h1;have e:=congrArg Array.toList h1;simp only [List.cons.injEq,and_true] at e;refine ⟨v1,v2,v3,?_,h2,h3,h4⟩;rw [← e.1,← e.2.1,← e.2.2]
def RowsS (I:Imm) (vs:List Value) (Ls:List (List Shift)):Prop:=vs.length=Ls.length∧∀ i,i<Ls.length→IsShifts I (vs.getD i undef) (Ls.getD i [])
theorem RowsS.mono {I J:Imm} {vs:List Value} {Ls:List (List Shift)} (h:RowsS I vs Ls) (le:I.le J):RowsS J vs Ls:=⟨h.1,fun i hi=>(h.2 i hi).mono le⟩
theorem RowsS.nil (I:Imm):RowsS I [] []:=⟨rfl,fun i hi=>by simp at hi⟩
theorem RowsS.snoc {I:Imm} {vs:List Value} {Ls:List (List Shift)} {v:Value} {l:List Shift} (h:RowsS I vs Ls) (hv:IsShifts I v l):RowsS I (vs++[v]) (Ls++[l]):=by
  have hl:=h.1;refine ⟨by simp [hl],fun i hi=>?_⟩;rw [List.length_append,List.length_singleton] at hi
  by_cases hb:i<Ls.length
  · have e1:(vs++[v]).getD i undef=vs.getD i undef:=by simp [List.getD,List.getElem?_append_left (show i<vs.length by omega)]
    have e2:(Ls++[l]).getD i []=Ls.getD i []:=by simp [List.getD,List.getElem?_append_left hb]
    rw [e1,e2];exact h.2 i hb
  · obtain rfl:i=Ls.length:=by omega
    have e1:(vs++[v]).getD Ls.length undef=v:=by simp [List.getD,← hl]
    have e2:(Ls++[l]).getD Ls.length []=l:=by simp [List.getD]
    rw [e1,e2];exact hv
structure Few (n:Nat) (Y:Yard):Prop where
  cars:Y.cars.length≤n
  room:Y.room.length≤n
  tracks:Y.tracks.length≤n
  each:∀ t∈Y.tracks,t.length≤n
theorem Fine.few {Y:Yard} (f:Fine Y):Few 20 Y:=by
  have h1:=f.cars;have h2:=f.room3;have h3:=f.len;refine ⟨by omega,by omega,by omega,fun t ht=>?_⟩;have:=GD ht;have:=f.sum;omega
end Go.Sh
namespace Go.Sl
open Go
end Go.Sl
namespace Go.Sh
open Go Go.Sl
end Go.Sh
namespace Go.Sl
open Go
section
variable {P:Program} {N:Nat} {ops:Array Oper} {i d:Nat} {l:Sl} {I:Imm} {R:Seg} {ty:TypeId} {gd:Option (Nat × Bool)}
theorem det_remT {x y : Operand} {T T' : TypeId} {k : IntKind} {a b : Int} (hop : FD ops N i = some (some d, .binOp .rem T x y T', ty, gd)) (hg : EN ops l gd = some true)
    (hx:BS l x=some (.int k a)) (hy:BS l y=some (.int k b)) (hb:1≤b):Det P N ops i l I R d (.int k (a.tmod b)):=
  det_bin hop hg hx hy fun I' M'=>by
    have hne:b≠0:=by omega
    simp only [binOp,Op.intDiv,ne_eq,not_true_eq_false,if_false,if_neg hne];exact ⟨rfl,rfl⟩
end
theorem tmod_bounds {x:Int} {n:Nat} (hn:2≤n):-(n:Int)<x.tmod n∧x.tmod n<n:=
  ⟨by have:=Int.lt_tmod_of_pos x (show (0:Int)<n by omega);omega,Int.tmod_lt_of_pos x (by omega)⟩
theorem fold_nat {x:Int} {n:Nat} (hn:2≤n):∃ r:Nat,(x.tmod n+n)%(n:Int)=↑r∧r<n:=by
  have h1:=Int.emod_nonneg (x.tmod n+n) (show (n:Int)≠0 by omega);have h2:=Int.emod_lt_of_pos (x.tmod n+n) (show (0:Int)<n by omega);exact ⟨((x.tmod n+n)%(n:Int)).toNat,by omega,by omega⟩
end Go.Sl
namespace Go.Sh
open Go Go.Sl
end Go.Sh
namespace Go.Proofs.Ytgcemienebmdeaa
open Go Go.Sl Go.Sh
set_option maxRecDepth 100000
noncomputable def c_Deal (p:List Nat):Code:=sub (AQ Try.f41) p
theorem Deal_ct (I:Imm) (p:Nat) (p_s:Int) (n:Nat) (hn:n≤1000):Ct Try.prog 41 #[vP p 0,vI ↑n] I ([(bX p #[.int .u64 (p_s)] 71)]) (fun v I' M'=>∃ p_t:Int,∃ l:List Int,∃ u:Value,∃ Ms:Seg,v=u∧M'=[(bX p #[.int .u64 (p_t)] 71)]++(Ms)∧(l.Perm (DG n))∧Own 3 1 AK u (l) Ms):=by
 refine fr (args:=[_,_]) (N:=45) Try.func41 (fun F=>?_);show Run _ _ (c_Deal []) _ _ [(0,vP p 0),(1,vI (↑n))] _ _;refine rnm (rqr ?_);refine sp 1 [(4,vN)] (sn (sp 2 [(10,vI ((if (↑n:Int)<(0:Int) then 0 else ↑n)))] (DM 10 rfl (show (vI ((if (↑n:Int)<(0:Int) then 0 else ↑n)):Value)=vI (↑n) from congrArg (Value.int .i64) (by split <;> omega)) (sS (MG (d:=11) (x:=(.tmp 10)) (T:=22) (E:=3) (bs:=8) (n:=n) (z:=vI (0)) (zv:=vI (0)) (ty:=22) (gd:=none) (by kernel_rfl) rfl (by kernel_rfl) (by kernel_rfl) (by kernel_rfl) rfl (by kernel_rfl) (by decide) rfl (by omega) (fun b1=>?_))))));have d5:Own 3 1 DK (vS (some ⟨b1,0,none⟩) n n) (List.replicate n (vI (0))) [(b1,Obj.cells (List.replicate n (vI (0))).toArray 3 (0,0))]:=Own.made _;obtain ⟨mS4,hmS4⟩:∃ X:Seg,X=[(b1,Obj.cells (List.replicate n (vI (0))).toArray 3 (0,0))]:=⟨_,rfl⟩;rw [← hmS4] at d5;refine AX (I':=I) (M':=((mS4++(bX p #[.int .u64 (p_s)] 71)::F))) (fun w h=>by rw [hmS4];exact h) (pm (M':=((bX p #[.int .u64 (p_s)] 71)::(mS4++F))) PM ?_);have d1:=own_val_int (ys:=List.replicate n (0:Int)) d5 (by rw [List.map_replicate]);refine sp 1 [(5,vS (some ⟨b1,0,none⟩) n n)] (se (rq (rqr (sp 1 [(6,vI (0))] (se (rb 0 ?_))))));refine rl (fun mz a w=>∃ k:Nat,∃ b2:Value,∃ a7:Seg,(k≤n)∧(Own 3 1 AK b2 ((DG k++List.replicate (n-k) (0:Int))) a7)∧Slots 45 [(5,b2),(6,vI ↑k),(0,vP p 0),(1,vI (↑n)),(4,vN)] a∧a.defers=[]∧St I ((bX p #[.int .u64 (p_s)] 71)::(a7++F)) w∧mz=n-k) ?_ ?_
 ·intro a w hS hD hW;exact ⟨_,0,vS (some ⟨b1,0,none⟩) n n,mS4,Nat.zero_le _,(show Own _ _ _ _ (DG 0++List.replicate (n-0) (0:Int)) _ from d1),hS.sub (.cons 5 rfl (.cons 6 rfl (.cons 0 rfl (.cons 1 rfl (.cons 4 rfl (.nil _)))))),hD,hW,rfl⟩
 rintro mz a w ⟨k,b2,a7,hk,a8,hS,hD,hW,rfl⟩
 refine AS hS hD hW ?_;clear hS hD hW a w;obtain ⟨a5,a6,b4,c6⟩:=a8.shape;subst b4;have d7:=EX k;have e6:(DG k++List.replicate (n-k) (0:Int)).length=n:=by rw [LA,d7,List.length_replicate];omega
 refine rq (rqr (sp 3 [(14,.bool (cmp .lss (↑k) (↑n)))] (se (rc 14 rfl (fun h1=>?_) (fun h1=>?_)))))
 ·
  have c8:=h1;have h1:=CQ h1;refine AO (NX (rq (rb 1 (rr (sp 3 [(19,vI (↑k)),(18,vI (↑k)),(17,vS a5 ((DG k++List.replicate (n-k) (0:Int))).length a6)] ?_)))));obtain ⟨e7,c5⟩:=a8.row 0;refine sd (di 20 1 (k) c5.addr) (sS (BE (T:=3) (x:=(.tmp 20)) (y:=(.tmp 19)) (rc:=fun i f=>AK (((DG k++List.replicate (n-k) (0:Int))).getD i 0) f) 0 (k) 0 (↑k) (ty:=0) (gd:=none) (by kernel_rfl) rfl a8 c5 (by omega) (by decide) rfl rfl (by kernel_rfl) rfl rfl (by intro f hf;match f,hf with | 0,_=>rfl) (PM.symm) (fun d4 d6=>(pm (M':=((bX p #[.int .u64 (p_s)] 71)::(d4++F))) PM (ee (NB (NX (rr (sp 1 [(15,vI (↑k))] (sd (da 16 (↑k) (1)) (sp 1 [(6,vI (↑k+1))] (ee ?_))))))))))));refine AL (n-(k+1)) (by omega) ?_;intro a w hS hD hW;exact ⟨k+1,vS a5 ((DG k++List.replicate (n-k) (0:Int))).length a6,d4,by omega,(by rw [← deal_put (by omega)];exact d6),hS.sub (.consE 5 rfl rfl (.consE 6 rfl rfl (.cons 0 rfl (.cons 1 rfl (.cons 4 rfl (.nil _)))))),hD,hW,rfl⟩
 have c8:=h1;have h1:=DB h1;refine CE 0 ((EP (EP (EB (NX (rq (rqr (sp 1 [(21,vI (↑n))] (sd (dsb 22 (↑n) (1)) (sp 1 [(7,vI (↑n-1))] (se (rb 2 ?_))))))))))));refine rl (fun mz a w=>∃ J1:Imm,∃ k:Nat,∃ zs:List Int,∃ s:Int,∃ b3:Value,∃ a2:Seg,(I.le J1)∧(k≤n)∧(zs.Perm (DG n))∧(Own 3 1 AK b3 (zs) a2)∧Slots 45 [(5,b3),(7,vI (↑k-1)),(0,vP p 0),(4,vN)] a∧a.defers=[]∧St J1 ((bX p #[.int .u64 (s)] 71)::(a2++F)) w∧mz=k+1) ?_ ?_
 ·intro a w hS hD hW;exact ⟨_,I,n,(DG n),p_s,vS a5 ((DG k++List.replicate (n-k) (0:Int))).length a6,a7,IR _,Nat.le_refl _,PR _,((show (DG k++List.replicate (n-k) (0:Int))=DG n from by rw [show k=n by omega,Nat.sub_self,List.replicate_zero,List.append_nil])▸a8),hS.sub (.cons 5 rfl (.cons 7 rfl (.cons 0 rfl (.cons 4 rfl (.nil _))))),hD,hW,rfl⟩
 rintro mz a w ⟨J1,k,zs,s,b3,a2,hJ1,hk,d3,a3,hS,hD,hW,rfl⟩
 refine AS hS hD hW ?_;clear hS hD hW a w;obtain ⟨a0,a1,b5,c7⟩:=a3.shape;subst b5;have d8:=d3.length_eq;rw [EX] at d8;refine rq (rqr (sp 2 [(24,.bool (cmp .gtr (↑k-1) (0)))] (se (rc 24 rfl (fun h2=>?_) (fun h2=>?_)))))
 ·
  have c9:=h2;have h2:=LR h2;refine AO (NX (rq (rb 3 (rqr (sp 2 [(28,vI (↑k-1)),(27,vP p 0)] (sS (sc (some 29) (F:=((a2++F))) (NP _ (p) (s) (↑k-1) (by omega) :) (.refl _) (fun e5 I9 e4 c1 d2=>?_))))))));obtain ⟨a4,a9,c4,c2,e3⟩:=d2;rw [c4,c2];clear c4 c2;refine nm ?_;refine sp 1 [(8,vI (↑a9))] (se ?_);refine rdX (M:=((bX p #[.int .u64 (a4)] 71)::(a2++[]))) (F0:=F) [] 14 [(0,true),(1,true),(2,true),(3,true),(4,true),(5,true),(6,true),(7,true),(8,true),(9,true),(10,true),(11,true),(12,true),(13,false)] (by simp only [AA,CA,NA,List.append_nil];exact PR _) HN ?_;refine AG (AM (d:=30) (v:=vS a0 zs.length a1) (by kernel_rfl)) ?_;refine AG (AM (d:=31) (v:=vI (↑k-1)) (by kernel_rfl)) ?_;refine AW (AM (d:=32) (v:=vS a0 zs.length a1) (by kernel_rfl)) ?_;refine AW (AM (d:=33) (v:=vI (↑a9)) (by kernel_rfl)) ?_;refine AG (AM (d:=34) (v:=vS a0 zs.length a1) (by kernel_rfl)) ?_;refine AG (AM (d:=35) (v:=vI (↑a9)) (by kernel_rfl)) ?_;obtain ⟨d9,b6⟩:=a3.row 0;refine AG (di 36 1 (a9) b6.addr) ?_;refine AG (dl 37 (b6.get (a9) (by omega) 0 (by decide) _ _ (fun x hx=>by simp [hx]))) ?_;refine AG (AM (d:=38) (v:=vS a0 zs.length a1) (by kernel_rfl)) ?_;refine AG (AM (d:=39) (v:=vI (↑k-1)) (by kernel_rfl)) ?_;obtain ⟨e0,b7⟩:=a3.row 0;refine AG (diI 40 1 (↑k-1) b7.addr) ?_;refine AG (dl 41 (b7.get ((↑k-1:Int).toNat) (by omega) 0 (by decide) _ _ (fun x hx=>by simp [hx]))) ?_;obtain ⟨e1,b8⟩:=a3.row 0;refine AG (diI 42 1 (↑k-1) b8.addr) ?_;refine EE (Mx:=fun FX=>((bX p #[.int .u64 (a4)] 71)::(a2++FX))) rfl (fun FX=>by simp only [AA,CA,NA,List.append_nil];exact PR _) (fun FX=>?_);refine id (BE (T:=3) (x:=(.tmp 42)) (y:=(.tmp 37)) (rc:=fun i f=>AK ((zs).getD i 0) f) 0 ((↑k-1:Int).toNat) 0 (zs.getD (a9) 0) (ty:=0) (gd:=none) (by kernel_rfl) rfl a3 b8 (by omega) (by decide) rfl rfl (by kernel_rfl) rfl rfl (by intro f hf;match f,hf with | 0,_=>rfl) (PM.symm) (fun b9 c3=>?_));refine FQ (M1:=((bX p #[.int .u64 (a4)] 71)::(b9++[]))) (by simp only [AA,CA,NA,List.append_nil];exact PM) (.wait (by kernel_rfl) (.wait (by kernel_rfl) (.wait (by kernel_rfl) (.wait (by kernel_rfl) (.wait (by kernel_rfl) (.wait (by kernel_rfl) (.wait (by kernel_rfl) (.wait (by kernel_rfl) (.wait (by kernel_rfl) (.none (.none (.wait (by kernel_rfl) (.wait (by kernel_rfl) .nil))))))))))))) ?_;refine FP (AX (M':=((bX p #[.int .u64 (a4)] 71)::(b9++F))) (fun w h=>by simpa only [AA,CA,NA,List.append_nil] using h) (nm ?_));obtain ⟨e2,b0⟩:=c3.row 0;simp only [LS] at b0;refine sd (di 43 1 (a9) (fun _=>b0.addr (by omega)) (n:=zs.length)) (sS (BE (T:=3) (x:=(.tmp 43)) (y:=(.tmp 41)) (rc:=fun i f=>AK ((zs.set ((↑k-1:Int).toNat) (zs.getD (a9) 0)).getD i 0) f) 0 (a9) 0 (zs.getD ((↑k-1:Int).toNat) 0) (ty:=0) (gd:=none) (by kernel_rfl) rfl c3 (by simpa only [LS] using b0) (by simp only [LS];omega) (by decide) rfl rfl (by kernel_rfl) rfl rfl (by intro f hf;match f,hf with | 0,_=>rfl) (PM.symm) (fun c0 d0=>(pm (M':=((bX p #[.int .u64 (a4)] 71)::(c0++F))) PM (ee (NB (NX (rr (sp 1 [(25,vI (↑k-1))] (sd (dsb 26 (↑k-1) (1)) (sp 1 [(7,vI ((↑k-1)-1))] (ee ?_))))))))))));refine AL (k-1+1) (by omega) ?_;intro a w hS hD hW;exact ⟨I9,k-1,(zs.set ((↑k-1:Int).toNat) (zs.getD (a9) 0)).set (a9) (zs.getD ((↑k-1:Int).toNat) 0),a4,vS a0 zs.length a1,c0,(IT hJ1 c1),by omega,(swap_perm (by omega) (by omega)).trans d3,d0,hS.sub (.consE 5 rfl rfl (.consE 7 rfl (congrArg (Value.int .i64) (by omega)) (.cons 0 rfl (.cons 4 rfl (.nil _))))),hD,hW,rfl⟩
 have c9:=h2;have h2:=gtr_f h2;refine CE 2 ((EP (EP (EB (NX (rqr (sp 2 [(4,vS a0 zs.length a1)] (se (BQ (AH (t:=4) ([(bX p #[.int .u64 (s)] 71)]++(a2)) (by kernel_rfl) rfl (by simp only [AA,NA,CA];exact (TK _ (TA (TR _) _))) hJ1 ?_))))))))));exact ⟨_,_,_,_,rfl,rfl,d3,a3⟩
end Go.Proofs.Ytgcemienebmdeaa
namespace Go.Sh
open Go Go.Sl
def KeepsOf (P:Int) (r:Int) (ks:List Keep):Prop:=ks.length≤4∧∀ j,j<ks.length→let k:=ks.getD j AP;(0≤k.place∧k.place≤P-1)∧(7*(r-j)≤k.hour∧k.hour≤7*(r-j)+6)∧(1≤k.who∧k.who≤9)
theorem KeepsOf.nil {P r:Int}:KeepsOf P r []:=⟨Nat.zero_le _,fun j hj=>absurd hj (Nat.not_lt_zero _)⟩
theorem KeepsOf.snoc {P r:Int} {ks:List Keep} {k:Keep} (h:KeepsOf P r ks) (hl:ks.length<4) (hp:0≤k.place∧k.place≤P-1) (hh:7*(r-ks.length)≤k.hour∧k.hour≤7*(r-ks.length)+6) (hw:1≤k.who∧k.who≤9):KeepsOf P r (ks++[k]):=by
  refine ⟨by simp;omega,fun j hj=>?_⟩;rcases Nat.lt_or_ge j ks.length with h1 | h1
  · have:=h.2 j h1
    simpa only [List.getD,List.getElem?_append_left h1] using this
  · have e:j=ks.length:=by simp at hj;omega
    subst e;have:(ks++[k]).getD ks.length AP=k:=by simp [List.getD]
    rw [this];exact ⟨hp,hh,hw⟩
def SlipsOf (P Q:Int) (dl:List Int) (i:Nat) (sl:List Slip):Prop:=sl.length≤i∧(∀ s∈sl,∀ L:Lin,L.places=P→L.sorts=Q→DW L s=0)∧(sl.map (·.num)).Nodup∧∀ s∈sl,∃ j,j<i∧s.num=1+dl.getD j 0
theorem SlipsOf.nil {P Q:Int} {dl:List Int}:SlipsOf P Q dl 0 []:=⟨Nat.le_refl _,fun s hs=>absurd hs List.not_mem_nil,List.nodup_nil,fun s hs=>absurd hs List.not_mem_nil⟩
theorem SlipsOf.skip {P Q:Int} {dl:List Int} {i:Nat} {sl:List Slip} (h:SlipsOf P Q dl i sl):SlipsOf P Q dl (i+1) sl:=⟨by have:=h.1;omega,h.2.1,h.2.2.1,fun s hs=>by obtain ⟨j,h1,h2⟩:=h.2.2.2 s hs;exact ⟨j,by omega,h2⟩⟩
theorem SlipsOf.snoc {P Q:Int} {dl:List Int} {i:Nat} {sl:List Slip} {s:Slip} (h:SlipsOf P Q dl i sl) (hd:dl.Nodup) (hi:i<dl.length) (hn:s.num=1+dl.getD i 0) (hs:∀ L:Lin,L.places=P→L.sorts=Q→DW L s=0):SlipsOf P Q dl (i+1) (sl++[s]):=by
  refine ⟨by have:=h.1;simp;omega,fun t ht=>?_,?_,fun t ht=>?_⟩
  · rcases List.mem_append.1 ht with ht | ht
    · exact h.2.1 t ht
    · simp only [List.mem_singleton] at ht;subst ht;exact hs
  · rw [List.map_append,List.map_cons,List.map_nil]
    refine List.nodup_append.2 ⟨h.2.2.1,by simp,fun a ha b hb=>?_⟩;simp only [List.mem_singleton] at hb;obtain ⟨t,ht,rfl⟩:=List.mem_map.1 ha;obtain ⟨j,hj,e⟩:=h.2.2.2 t ht;intro e2;rw [hb,hn] at e2;have e3:dl.getD j 0=dl.getD i 0:=by omega
    have hj2:j<dl.length:=by omega
    have:j=i:=(List.getElem_inj (h₀:=hj2) (h₁:=hi) hd).1 (by simpa [List.getD,hj2,hi] using e3);omega
  · rcases List.mem_append.1 ht with ht | ht
    · obtain ⟨j,h1,h2⟩:=h.2.2.2 t ht;exact ⟨j,by omega,h2⟩
    · simp only [List.mem_singleton] at ht;subst ht;exact ⟨i,by omega,hn⟩
theorem HE {P Q:Int} {s:Slip} (h1:1≤s.num∧s.num≤999) (h2:0≤s.hour∧s.hour≤200) (h3:1≤s.kind∧s.kind≤6) (h4:0≤s.place∧s.place≤P-1) (h5:s.kind=1→(0≤s.to∧s.to≤P-1)∧s.to≠s.place) (h6:s.kind≠1→s.to=0) (h7:0≤s.sort∧s.sort≤Q-1) (h8:s.soil=true→s.kind=1∨s.kind=4) (h9:s.kind=4∨1≤s.amt) (h10:0≤s.amt∧s.amt≤50):∀ L:Lin,L.places=P→L.sorts=Q→DW L s=0:=by
  intro L hP hQ;have t:∀ {n lo hi:Int},lo≤n∧n≤hi→¬ inB n lo hi=false:=fun h e=>by
    rw [show inB _ _ _=true from by simpa [inB] using h] at e;cases e
  unfold DW
  rw [hP,hQ,if_neg (t h1),if_neg (t h2),if_neg (t h3),if_neg (t h4),if_neg (fun e=>t (h5 e.1).1 e.2),if_neg (fun e=>(h5 e.1).2 e.2),if_neg (fun e=>e.2 (h6 e.1)),if_neg (t h7),
    if_neg (fun e=>(h8 e.1).elim e.2.1 e.2.2),if_neg (t (by split <;> omega))]
def RowsB (B:Int) (n:Nat) (xss:List (List Int)):Prop:=∀ r∈xss,r.length=n∧∀ x∈r,0≤x∧x≤B
theorem RowsB.nil {B:Int} {n:Nat}:RowsB B n []:=fun r hr=>by cases hr
theorem RowsB.snoc {B:Int} {n:Nat} {xss:List (List Int)} {r:List Int} (h:RowsB B n xss) (hl:r.length=n) (hr:∀ x∈r,0≤x∧x≤B):RowsB B n (xss++[r]):=fun q hq=>by
  rcases List.mem_append.1 hq with hq | hq
  · exact h q hq
  · simp only [List.mem_singleton] at hq;subst hq;exact ⟨hl,hr⟩
theorem RowsB.mono {B B':Int} {n:Nat} {xss:List (List Int)} (h:RowsB B n xss) (hb:B≤B'):RowsB B' n xss:=fun r hr=>⟨(h r hr).1,fun x hx=>by have:=(h r hr).2 x hx;omega⟩
theorem RowsB.set {B:Int} {n p i:Nat} {xss:List (List Int)} {v:Int} (h:RowsB B n xss) (hp:p<xss.length) (hv:0≤v∧v≤B):RowsB B n (xss.set p ((xss.getD p []).set i v)):=fun r hr=>by
  rcases List.mem_or_eq_of_mem_set hr with hr | rfl
  · exact h r hr
  · have h1:=h _ (AZ (xs:=xss) (d:=[]) hp)
    refine ⟨by rw [List.length_set];exact h1.1,fun x hx=>?_⟩;rcases List.mem_or_eq_of_mem_set hx with hx | rfl
    · exact h1.2 x hx
    · exact hv
theorem RowsB.at {B:Int} {n p i:Nat} {xss:List (List Int)} (h:RowsB B n xss) (hp:p<xss.length) (hi:i<n):(xss.getD p []).length=n∧0≤(xss.getD p []).getD i 0∧(xss.getD p []).getD i 0≤B:=by
  have h1:=h _ (AZ (xs:=xss) (d:=[]) hp);exact ⟨h1.1,h1.2 _ (AZ (xs:=xss.getD p []) (d:=0) (by rw [h1.1];exact hi))⟩
theorem drawn_book {P Q:Int} {n:Nat} {st:List (List Int)} {ks:List Keep} {sl:List Slip} {r:Int} {dl:List Int} {i:Nat} (hP:1≤P∧P≤4) (hQ:1≤Q∧Q≤2) (hn:(n:Int)=Q) (hs:(st.length:Int)=P) (hr:RowsB 50 n st) (hr4:0≤r∧r≤4) (hkr:(ks.length:Int)≤r) (hk:KeepsOf P r ks) (hsl:SlipsOf P Q dl i sl) (hi:i≤8):GoodL ⟨P,Q,st,ks,sl⟩:=by
  have t:∀ {n lo hi:Int},lo≤n∧n≤hi→¬ inB n lo hi=false:=fun h e=>by
    rw [show inB _ _ _=true from by simpa [inB] using h] at e;cases e
  refine ⟨hP,hQ,hs,fun q hq=>by rw [(hr q hq).1,hn],fun q hq x hx=>(hr q hq).2 x hx,hk.1,fun k hk2=>?_,Nat.le_trans hsl.1 hi,fun k hk2=>?_⟩
  · obtain ⟨h1,h2,h3⟩:=hk.2 k hk2
    unfold FA;simp only;have hk3:(k:Int)<ks.length:=by exact_mod_cast hk2
    rw [if_neg (t h1),if_neg (t (by omega)),if_neg (t h3),if_neg];intro e;obtain ⟨x,hx,hx2⟩:=List.any_eq_true.1 e;obtain ⟨j,hj,rfl⟩:=List.mem_take_iff_getElem.1 hx;have hj2:j<ks.length:=by omega
    have h4:=(hk.2 j hj2).2.1;simp only [Bool.and_eq_true,decide_eq_true_eq] at hx2;have e4:(ks.getD j AP)=ks[j]:=by simp [List.getD,hj2]
    rw [e4,hx2.2] at h4;have:j<k:=by omega
    omega
  · have h1:=hsl.2.1 _ (AZ (xs:=sl) (d:=AB) hk2) ⟨P,Q,st,ks,sl⟩ rfl rfl
    unfold CR;rw [if_neg (fun h=>h h1),if_neg];intro e;unfold hasNum at e;obtain ⟨x,hx,hx2⟩:=List.any_eq_true.1 e;obtain ⟨j,hj,rfl⟩:=List.mem_take_iff_getElem.1 hx;have hj':j<min k sl.length:=hj;have hj2:j<sl.length:=by omega
    have hnd:=hsl.2.2.1;simp only [decide_eq_true_eq] at hx2;have:j=k:=(List.getElem_inj (h₀:=by simpa using hj2) (h₁:=by simpa using hk2) hnd).1 (by simpa [List.getD,hk2] using hx2);omega
end Go.Sh
namespace Go.Sl
open Go
theorem MF {α:Type} {d:α}:∀ (vs:List α) (i:Nat),vs.set i (vs.getD i d)=vs
  | [],_=>rfl
  | _::_,0=>rfl
  | v::vs,i+1=>by
    show v::vs.set i (vs.getD i d)=v::vs;rw [MF vs i]
theorem OwnEach.same {E:TypeId} {vs:List Value} {i:Nat} {v':Value} {xss:List (List Int)} {M:Seg} (h:OwnEach E (vs.set i v') xss M) (e:vs.getD i undef=v'):OwnEach E vs xss M:=by
  subst e;rwa [MF] at h
theorem fold_mod {x:Int} {n:Nat}:(x.tmod n+n)%(n:Int)=x%n:=by
  rw [Int.add_emod_right,Int.tmod_def,Int.sub_eq_add_neg,← Int.mul_neg,Int.add_mul_emod_self_left]
end Go.Sl
namespace Go.Sh
open Go Go.Sl
theorem inb_snoc {B:Int} {l:List Int} {x:Int} (h:∀ x∈l,0≤x∧x≤B) (hx:0≤x∧x≤B):∀ y∈l++[x],0≤y∧y≤B:=fun y hy=>by
  rcases List.mem_append.1 hy with hy | hy
  · exact h y hy
  · simp only [List.mem_singleton] at hy;subst hy;exact hx
theorem inb_snoc2 {B:Int} {l:List Int} {x y:Int} (h:∀ x∈l,0≤x∧x≤B) (hx:0≤x∧x≤B) (hy:0≤y∧y≤B):∀ z∈l++[x,y],0≤z∧z≤B:=fun z hz=>by
  rcases List.mem_append.1 hz with hz | hz
  · exact h z hz
  · simp only [List.mem_cons,List.not_mem_nil,or_false] at hz
    rcases hz with rfl | rfl
    · exact hx
    · exact hy
theorem FT {l:List Int} {n:Nat} (h:l.Perm (DG n)):l.Nodup:=by
  exact h.nodup_iff.2 (List.Pairwise.map (fun i:Nat=>(i:Int)) (fun a b hab e=>hab (by exact_mod_cast e)) List.nodup_range)
theorem deal_at {l:List Int} {n t:Nat} (h:l.Perm (DG n)) (ht:t<l.length):0≤l.getD t 0∧l.getD t 0<n:=by
  have h1:=h.mem_iff.1 (AZ (xs:=l) (d:=0) ht);unfold DG at h1;obtain ⟨a,ha,e⟩:=List.mem_map.1 h1;have:=List.mem_range.1 ha;omega
def RowB (B:Int) (n:Nat) (r:List Int):Prop:=r.length=n∧∀ x∈r,0≤x∧x≤B
theorem RowB.set {B:Int} {n i:Nat} {r:List Int} {v:Int} (h:RowB B n r) (hv:0≤v∧v≤B):RowB B n (r.set i v):=⟨by rw [List.length_set];exact h.1,fun x hx=>by
  rcases List.mem_or_eq_of_mem_set hx with hx | rfl
  · exact h.2 x hx
  · exact hv⟩
theorem RowB.at {B:Int} {n i:Nat} {r:List Int} (h:RowB B n r) (hi:i<n):r.length=n∧0≤r.getD i 0∧r.getD i 0≤B:=⟨h.1,h.2 _ (AZ (xs:=r) (d:=0) (by rw [h.1];exact hi))⟩
theorem RowsB.row {B:Int} {n p:Nat} {xss:List (List Int)} (h:RowsB B n xss) (hp:p<xss.length):RowB B n (xss.getD p []):=h _ (AZ (xs:=xss) (d:=[]) hp)
theorem RowsB.put {B:Int} {n p:Nat} {xss:List (List Int)} {r:List Int} (h:RowsB B n xss) (hr:RowB B n r):RowsB B n (xss.set p r):=fun q hq=>by
  rcases List.mem_or_eq_of_mem_set hq with hq | rfl
  · exact h q hq
  · exact hr
theorem ix_yes {so:Bool} {k:Int} (h:(so||(cmp .eql k 3||cmp .eql k 6))=true) (hs:so=true→k=1∨k=4):k≠2:=by
  intro e;subst e;cases so
  · simp [cmp] at h
  · have:=hs rfl;omega
theorem ix_no {so:Bool} {k:Int} (h:(so||(cmp .eql k 3||cmp .eql k 6))=false):k≠3:=by
  intro e;subst e;cases so <;> simp [cmp] at h
theorem other_place {p r n:Nat} {f:Int} (hp:p<n) (hf:1≤f∧f≤n-1) (hr:(r:Int)=(p+f)%n):r≠p:=by
  intro e;subst e;have h1:((r:Int)+f)/n=0∨((r:Int)+f)/n=1:=by
    have h2:0≤((r:Int)+f)/n:=Int.ediv_nonneg (by omega) (by omega);have h3:((r:Int)+f)/n<2:=Int.ediv_lt_of_lt_mul (by omega) (by omega);omega
  have h4:=Int.emod_add_mul_ediv ((r:Int)+f) n;rcases h1 with h1 | h1 <;> rw [h1] at h4 <;> omega
end Go.Sh
namespace Go.Proofs.Ytgcemienebmdeaa
open Go Go.Sl Go.Sh
set_option maxRecDepth 100000
noncomputable def c_Fold (p:List Nat):Code:=sub (AQ Try.f37) p
theorem Foldx_ct (I:Imm) (x:Int) (n:Nat) (hn:n≤1000000):Ct Try.prog 37 #[vI x,vI ↑n] I ([]) (fun v I' M'=>∃ r:Nat,v=vI (↑r)∧M'=[]∧((r=0∨r<n)∧(2≤n→(r:Int)=x%n))):=by
 refine fr (args:=[_,_]) (N:=14) Try.func37 (fun F=>?_);show Run _ _ (c_Fold []) _ _ [(0,vI (x)),(1,vI (↑n))] _ _;refine rnm (rqr ?_);refine sp 1 [(4,vI (0))] (se (rq (rqr (sp 2 [(6,.bool (cmp .lss (↑n) (2)))] (se (rc 6 rfl (fun h1=>?_) (fun h1=>?_)))))))
 ·
  have a0:=h1;have h1:=CQ h1;refine rqr (sp 1 [(4,vI (0))] (se (BQ ((RP (AH (t:=4) [] (by kernel_rfl) rfl (TR _) (IR _) ?_))))));exact ⟨0,rfl,rfl,⟨.inl rfl,fun hq=>by omega⟩⟩
 have a0:=h1;have h1:=DB h1;refine AO (NX (rqr (sp 2 [(8,vI (↑n)),(7,vI (x))] (sd (det_remT (x:=(.tmp 7)) (y:=(.tmp 8)) (T:=3) (T':=3) (d:=9) (ty:=3) (gd:=none) (by kernel_rfl) rfl rfl rfl (by omega)) (sp 1 [(10,vI (↑n))] ?_)))));have hq:=tmod_bounds (x:=x) (n:=n) (by omega);refine sd (da 11 (Int.tmod x ↑n) (↑n)) (sp 1 [(12,vI (↑n))] (sd (det_rem (x:=(.tmp 11)) (y:=(.tmp 12)) (T:=3) (T':=3) (d:=13) (ty:=3) (gd:=none) (by kernel_rfl) rfl rfl rfl (by omega) (by omega)) ?_));obtain ⟨r,hr,a1⟩:=fold_nat (x:=x) (n:=n) (by omega);have a2:(r:Int)=x%n:=hr▸fold_mod;refine DM 13 rfl (show (vI (((Int.tmod x ↑n)+↑n)%↑n):Value)=vI (↑r) from congrArg (Value.int .i64) hr) (sp 1 [(4,vI (↑r))] (se (BQ (AH (t:=4) [] (by kernel_rfl) rfl (TR _) (IR _) ?_))));exact ⟨r,rfl,rfl,⟨.inr a1,fun _=>a2⟩⟩
noncomputable def c_LinenOf (p:List Nat):Code:=sub (AQ Try.f17) p
set_option maxHeartbeats 1000000 in
theorem LinenOf_ct (I:Imm) (p:Nat) (p_s:Int) (n1:Int) (n2:Int):Ct Try.prog 17 #[vP p 0,vI n1,vI n2] I ([(bX p #[.int .u64 (p_s)] 71)]) (fun v I' M'=>∃ p_t:Int,∃ L:Lin,∃ u:Value,v=u∧M'=[(bX p #[.int .u64 (p_t)] 71)]∧(GoodL L)∧IsLin I' u (L)):=by
 refine fr (args:=[_,_,_]) (N:=346) Try.func17 (fun F=>?_);show Run _ _ (c_LinenOf []) _ _ [(0,vP p 0),(1,vI (n1)),(2,vI (n2))] _ _;refine rnm (rqr ?_);refine sS (sal 6 40 #[vI (0),vI (0),vN,vN,vN] (fun b1=>(sn (sp 1 [(22,vP p 0)] ?_))));have Q5:=MN I (p) (p_s) (1) (4) (by omega) (by omega);refine sS (sc (some 23) (F:=((bX b1 #[vI (0),vI (0),vN,vN,vN] 40)::F)) (Q5 :) (PS _ _ _) (fun a8p I3 a8i a2r hp5=>?_));obtain ⟨a3i,r9,hv6,hm7,a7z⟩:=hp5;rw [hv6,hm7];clear hv6 hm7;refine nm ?_;obtain ⟨Pn,hPn,hPn2⟩:∃ z:Nat,(r9)=↑z∧1≤z∧z≤4:=⟨((r9)).toNat,by omega,by omega,by omega⟩;refine DM 23 rfl (show (vI ((r9)):Value)=vI (↑Pn) from congrArg (Value.int .i64) hPn) (sp 1 [(24,vP p 0)] ?_);have Q6:=MN I3 (p) (a3i) (1) (2) (by omega) (by omega);refine sS (sc (some 25) (F:=((bX b1 #[vI (0),vI (0),vN,vN,vN] 40)::F)) (Q6 :) (.refl _) (fun a8q I14 a8j R1 a2s=>?_));obtain ⟨Y1,r20,V7,R4,a8a⟩:=a2s;rw [V7,R4];clear V7 R4;refine nm ?_;obtain ⟨Qn,hQn,hQn2⟩:∃ z:Nat,(r20)=↑z∧1≤z∧z≤2:=⟨((r20)).toNat,by omega,by omega,by omega⟩;refine DM 25 rfl (show (vI ((r20)):Value)=vI (↑Qn) from congrArg (Value.int .i64) hQn) (sp 1 [(26,.agg #[vI (↑Pn),vI (↑Qn),vN,vN,vN])] (sS (sal 7 40 #[vI (0),vI (0),vN,vN,vN] (fun b5=>(sS (ss 0 0 b5 [vI (↑Pn),vI (↑Qn),vN,vN,vN] [vI (↑Pn),vI (↑Qn),vN,vN,vN] (_::_::_::_) (cs:=[_,_,_,_,_]) rfl rfl (sn (sp 1 [(8,vN)] (se (rq (rqr (sp 1 [(9,vI (0))] (se (rb 0 ?_))))))))))))));refine rl (fun mz a w=>∃ J0:Imm,∃ i:Nat,∃ sx:List (List Int),∃ hx:List (List Int),∃ sv:Value,∃ b7:List Value,∃ tM:Seg,∃ fM:Seg,∃ hv:Value,∃ f5:List Value,∃ hM:Seg,∃ gM:Seg,∃ bs:Int,(I14.le J0)∧(i≤Pn)∧(sx.length=i∧hx.length=i)∧(RowsB 20 Qn sx)∧(RowsB 100 (2*Qn) hx)∧(Own 22 1 DK sv b7 tM)∧(OwnEach 3 b7 sx fM)∧(Own 22 1 DK hv f5 hM)∧(OwnEach 3 f5 hx gM)∧Slots 346 [(8,hv),(9,vI ↑i),(0,vP p 0),(1,vI (n1)),(2,vI (n2)),(6,vP b1 0),(7,vP b5 0)] a∧a.defers=[]∧St J0 ((bX b5 #[vI (↑Pn),vI (↑Qn),sv,vN,vN] 40)::(bX p #[.int .u64 (bs)] 71)::(bX b1 #[vI (0),vI (0),vN,vN,vN] 40)::(tM++(fM++(hM++(gM++F))))) w∧mz=Pn-i) ?_ ?_
 ·intro a w hS hD hW;exact ⟨_,I14,0,[],[],(vN),[],[],[],(vN),[],[],[],Y1,IR _,Nat.zero_le _,⟨rfl,rfl⟩,RowsB.nil,RowsB.nil,Own.nil _ _ _,OwnEach.nil,Own.nil _ _ _,OwnEach.nil,hS.sub (.cons 8 rfl (.cons 9 rfl (.cons 0 rfl (.cons 1 rfl (.cons 2 rfl (.cons 6 rfl (.cons 7 rfl (.nil _)))))))),hD,hW,rfl⟩
 rintro mz a w ⟨J0,i,sx,hx,sv,b7,tM,fM,hv,f5,hM,gM,bs,hJ0,hi,hln,hrs,hrh,hso,hse,m7,hhe,hS,hD,hW,rfl⟩
 refine AS hS hD hW ?_;clear hS hD hW a w;obtain ⟨b3,b4,a3k,a8x⟩:=hso.shape;subst a3k;have a8y:=hse.length;obtain ⟨e1,e2,a3c,a7s⟩:=m7.shape;subst a3c;have a7t:=hhe.length;obtain ⟨hl1,hl2⟩:=hln;refine rq (rqr (sp 2 [(28,vP b5 0),(27,vI (↑i))] (sd (dlb 29 0 0 b5 (vI (↑Pn))) (sp 1 [(30,.bool (cmp .lss (↑i) (↑Pn)))] (se (rc 30 rfl (fun h1=>?_) (fun h1=>?_)))))))
 ·
  have a2i:=h1;have h1:=CQ h1;refine AO (NX (rq (rb 1 (rqr (sp 2 [(11,vN),(10,vN)] (se (rq (rqr (sp 1 [(12,vI (0))] (se (rb 2 ?_)))))))))));refine rl (fun mz a w=>∃ J1:Imm,∃ k:Nat,∃ ra:List Int,∃ rz:List Int,∃ t7:Int,∃ l1:Value,∃ e9:Seg,∃ l2:Value,∃ d7:Seg,(J0.le J1)∧(k≤Qn)∧(ra.length=k∧rz.length=2*k)∧((∀ x∈ra,0≤x∧x≤20))∧((∀ x∈rz,0≤x∧x≤100))∧(Own 3 1 AK l1 (ra) e9)∧(Own 3 1 AK l2 (rz) d7)∧Slots 346 [(10,l1),(11,l2),(12,vI ↑k),(0,vP p 0),(1,vI (n1)),(2,vI (n2)),(6,vP b1 0),(7,vP b5 0),(8,vS e1 f5.length e2),(9,vI (↑i))] a∧a.defers=[]∧St J1 ((bX b5 #[vI (↑Pn),vI (↑Qn),vS b3 b7.length b4,vN,vN] 40)::(bX p #[.int .u64 (t7)] 71)::(bX b1 #[vI (0),vI (0),vN,vN,vN] 40)::(tM++(fM++(hM++(gM++(e9++(d7++F))))))) w∧mz=Qn-k) ?_ ?_
  ·intro a w hS hD hW;exact ⟨_,J0,0,[],[],bs,(vN),[],(vN),[],IR _,Nat.zero_le _,⟨rfl,rfl⟩,(fun x hx=>by cases hx),(fun x hx=>by cases hx),(Own.nil _ _ _),(Own.nil _ _ _),hS.sub (.cons 10 rfl (.cons 11 rfl (.cons 12 rfl (.cons 0 rfl (.cons 1 rfl (.cons 2 rfl (.cons 6 rfl (.cons 7 rfl (.cons 8 rfl (.cons 9 rfl (.nil _))))))))))),hD,hW,rfl⟩
  rintro mz a w ⟨J1,k,ra,rz,t7,l1,e9,l2,d7,hJ1,hk,hrl,hra,hrb,k5,k6,hS,hD,hW,rfl⟩
  refine AS hS hD hW ?_;clear hS hD hW a w;obtain ⟨d1,d2,t2,X9⟩:=k5.shape;subst t2;obtain ⟨d9,e0,t3,Y0⟩:=k6.shape;subst t3;obtain ⟨a7n,a7o⟩:=hrl;refine rq (rqr (sp 2 [(34,vP b5 1),(33,vI (↑k))] (sd (dlb 35 0 1 b5 (vI (↑Qn))) (sp 1 [(36,.bool (cmp .lss (↑k) (↑Qn)))] (se (rc 36 rfl (fun h2=>?_) (fun h2=>?_)))))))
  ·
   have a2j:=h2;have h2:=CQ h2;refine AO (NX (rq (rb 3 (rqr (sp 1 [(39,vP p 0)] ?_)))));have Q7:=NP J1 (p) (t7) (20) (by omega);refine sS (sc (some 40) (F:=((bX b5 #[vI (↑Pn),vI (↑Qn),vS b3 b7.length b4,vN,vN] 40)::(bX b1 #[vI (0),vI (0),vN,vN,vN] 40)::(tM++(fM++(hM++(gM++(e9++(d7++F)))))))) (Q7 :) (PS _ _ _) (fun a8r I27 a8k R2 a2t=>?_));obtain ⟨t5,m9,V8,R5,a8b⟩:=a2t;rw [V8,R5];clear V8 R5;refine nm ?_;refine sp 1 [(13,vI (↑m9))] (se (rr (sp 2 [(42,vI (↑m9)),(41,vS d1 ra.length d2)] (sS (sbs 43 3 1 #[vI (↑m9)] (fun b38=>(sS (BH (d:=44) (x:=(.tmp 41)) (y:=(.tmp 43)) (T:=22) (T':=22) (E:=3) (E':=3) (sz:=1) (bs:=8) (z:=vI (0)) (cell:=AK) (xs:=ra) (ys:=[(↑m9:Int)]) (Ms:=e9) (ty:=22) (gd:=none) (by kernel_rfl) rfl (by kernel_rfl) (by kernel_rfl) (by kernel_rfl) (by kernel_rfl) (by kernel_rfl) (by decide) (by kernel_rfl) rfl rfl (k5) (PU (PU (PU (PU (PV (PV (PV (PO _ _ _)))))))) (ES _) (EJ 0 rfl rfl) (by first | omega | (simp only [LC,LN,LA,LK,LD];omega)) (fun v40 C4 T8=>(AX (M':=((bX p #[.int .u64 (t5)] 71)::(bX b5 #[vI (↑Pn),vI (↑Qn),vS b3 b7.length b4,vN,vN] 40)::(bX b1 #[vI (0),vI (0),vN,vN,vN] 40)::(C4++(tM++(fM++(hM++(gM++(d7++F)))))))) (fun w h=>(h.perm (PW (PW (PW PM)))).sub (TC _ (TR _))) ?_))))))))));obtain ⟨W3,W8,a3e,a7u⟩:=T8.shape;subst a3e;refine sp 2 [(46,vI (↑m9)),(45,vS d9 rz.length e0)] (sS (sbs 47 3 2 #[vI (↑m9),vI (0)] (fun b41=>(sS (BH (d:=48) (x:=(.tmp 45)) (y:=(.tmp 47)) (T:=22) (T':=22) (E:=3) (E':=3) (sz:=1) (bs:=8) (z:=vI (0)) (cell:=AK) (xs:=rz) (ys:=[(↑m9:Int),(0:Int)]) (Ms:=d7) (ty:=22) (gd:=none) (by kernel_rfl) rfl (by kernel_rfl) (by kernel_rfl) (by kernel_rfl) (by kernel_rfl) (by kernel_rfl) (by decide) (by kernel_rfl) rfl rfl (k6) (PU (PU (PU (PU (PV (PV (PV (PV (PO _ _ _))))))))) (ES _) (EJ 0 rfl rfl) (by first | omega | (simp only [LC,LN,LA,LK,LD];omega)) (fun v43 M4 T9=>(AX (M':=((bX p #[.int .u64 (t5)] 71)::(bX b5 #[vI (↑Pn),vI (↑Qn),vS b3 b7.length b4,vN,vN] 40)::(bX b1 #[vI (0),vI (0),vN,vN,vN] 40)::(M4++(C4++(tM++(fM++(hM++(gM++F)))))))) (fun w h=>(h.perm (PW (PW (PW PM)))).sub (TC _ (TR _))) ?_)))))));obtain ⟨W4,W9,a3f,a7v⟩:=T9.shape;subst a3f;refine sp 2 [(11,vS W4 (rz++([(↑m9:Int),(0:Int)])).length W9),(10,vS W3 (ra++([(↑m9:Int)])).length W8)] (ee (NB (NX (rr (sp 1 [(37,vI (↑k))] (sd (da 38 (↑k) (1)) (sp 1 [(12,vI (↑k+1))] (ee ?_))))))));refine AL (Qn-(k+1)) (by omega) ?_;intro a w hS hD hW;exact ⟨I27,k+1,ra++([(↑m9:Int)]),rz++([(↑m9:Int),(0:Int)]),t5,vS W3 (ra++([(↑m9:Int)])).length W8,C4,vS W4 (rz++([(↑m9:Int),(0:Int)])).length W9,M4,(IT hJ1 R2),by omega,⟨by simp only [LA,LC,LN];omega,by simp only [LA,LC,LN];omega⟩,inb_snoc hra (by omega),inb_snoc2 hrb (by omega) (by omega),T8,T9,hS.sub (.consE 10 rfl rfl (.consE 11 rfl rfl (.consE 12 rfl rfl (.cons 0 rfl (.cons 1 rfl (.cons 2 rfl (.cons 6 rfl (.cons 7 rfl (.cons 8 rfl (.cons 9 rfl (.nil _))))))))))),hD,hW.perm ((PS _ _ _).trans (PC _ (PC _ (PC _ ((PV (PO _ _ _)).trans (PA _ ((PV (PO _ _ _)).trans (PA _ ((PV (PO _ _ _)).trans (PA _ ((PV (PO _ _ _)).trans (PA _ (PO _ _ _))))))))))))),rfl⟩
  have a2j:=h2;have h2:=DB h2;refine CE 2 ((EP (EP (EB (NX (rr (sp 1 [(49,vP b5 2)] (sd (dlb 50 0 2 b5 (vS b3 b7.length b4)) (sp 1 [(51,vS d1 ra.length d2)] (sS (sbs 52 22 1 #[vS d1 ra.length d2] (fun b44=>(sS (BH (d:=53) (x:=(.tmp 50)) (y:=(.tmp 52)) (T:=29) (T':=29) (E:=22) (E':=22) (sz:=1) (bs:=24) (z:=vN) (cell:=DK) (xs:=b7) (ys:=[(vS d1 ra.length d2:Value)]) (Ms:=tM) (ty:=29) (gd:=none) (by kernel_rfl) rfl (by kernel_rfl) (by kernel_rfl) (by kernel_rfl) (by kernel_rfl) (by kernel_rfl) (by decide) (by kernel_rfl) rfl rfl (hso) (PU (PU (PU (PM.symm)))) (KV rfl) (EJ 0 rfl rfl) (by first | omega | (simp only [LC,LN,LA,LK,LD];omega)) (fun v46 j1 U0=>(AX (M':=((bX b5 #[vI (↑Pn),vI (↑Qn),vS b3 b7.length b4,vN,vN] 40)::(bX p #[.int .u64 (t7)] 71)::(bX b1 #[vI (0),vI (0),vN,vN,vN] 40)::(j1++(fM++(hM++(gM++(e9++(d7++F)))))))) (fun w h=>(h.perm (PW (PW (PW PM)))).sub (TC _ (TR _))) ?_))))))))))))))));obtain ⟨J9,K0,a3g,a7x⟩:=U0.shape;subst a3g;have x5:=OwnEach.snoc hse k5;obtain ⟨eM46,heM46_d⟩:∃ X,X=fM++e9:=⟨_,rfl⟩;rw [← heM46_d] at x5;refine AX (I':=J1) (M':=((eM46++(bX b5 #[vI (↑Pn),vI (↑Qn),vS b3 b7.length b4,vN,vN] 40)::(bX p #[.int .u64 (t7)] 71)::(bX b1 #[vI (0),vI (0),vN,vN,vN] 40)::(j1++(hM++(gM++(d7++F))))))) (fun w h=>?_) ?_
  ·have h2:=h.perm ((PU (PU (PU (PO _ _ _)))).trans (PA _ (PU (PU (PU (PV (PV (PO _ _ _))))))));simp only [← AA] at h2;have h3:=St.permL (A':=eM46) (A:=fM++e9) (by simpa only [AA,List.append_nil] using (heM46_d▸PR _)) (by simpa only [AA] using h2)
   simpa only [AA] using h3
  refine pm (M':=((bX b5 #[vI (↑Pn),vI (↑Qn),vS b3 b7.length b4,vN,vN] 40)::(bX p #[.int .u64 (t7)] 71)::(bX b1 #[vI (0),vI (0),vN,vN,vN] 40)::(eM46++(j1++(hM++(gM++(d7++F))))))) (PW (PW PM)) (sp 2 [(55,vS d9 rz.length e0),(54,vS e1 f5.length e2)] (sS (sbs 56 22 1 #[vS d9 rz.length e0] (fun b47=>(sS (BH (d:=57) (x:=(.tmp 54)) (y:=(.tmp 56)) (T:=29) (T':=29) (E:=22) (E':=22) (sz:=1) (bs:=24) (z:=vN) (cell:=DK) (xs:=f5) (ys:=[(vS d9 rz.length e0:Value)]) (Ms:=hM) (ty:=29) (gd:=none) (by kernel_rfl) rfl (by kernel_rfl) (by kernel_rfl) (by kernel_rfl) (by kernel_rfl) (by kernel_rfl) (by decide) (by kernel_rfl) rfl rfl (m7) (PU (PU (PU (PU (PV (PO _ _ _)))))) (KV rfl) (EJ 0 rfl rfl) (by first | omega | (simp only [LC,LN,LA,LK,LD];omega)) (fun v49 t9 U1=>(AX (M':=((bX b5 #[vI (↑Pn),vI (↑Qn),vS b3 b7.length b4,vN,vN] 40)::(bX p #[.int .u64 (t7)] 71)::(bX b1 #[vI (0),vI (0),vN,vN,vN] 40)::(t9++(eM46++(j1++(gM++(d7++F))))))) (fun w h=>(h.perm (PW (PW (PW PM)))).sub (TC _ (TR _))) ?_))))))));obtain ⟨W5,X0,a3h,a7y⟩:=U1.shape;subst a3h;have x6:=OwnEach.snoc hhe k6;obtain ⟨eM49,heM49_d⟩:∃ X,X=gM++d7:=⟨_,rfl⟩;rw [← heM49_d] at x6;refine AX (I':=J1) (M':=((eM49++(bX b5 #[vI (↑Pn),vI (↑Qn),vS b3 b7.length b4,vN,vN] 40)::(bX p #[.int .u64 (t7)] 71)::(bX b1 #[vI (0),vI (0),vN,vN,vN] 40)::(t9++(eM46++(j1++F)))))) (fun w h=>?_) ?_
  ·have h2:=h.perm ((PU (PU (PU (PV (PV (PO _ _ _)))))).trans (PA _ (PU (PU (PU (PV (PV (PO _ _ _))))))));simp only [← AA] at h2;have h3:=St.permL (A':=eM49) (A:=gM++d7) (by simpa only [AA,List.append_nil] using (heM49_d▸PR _)) (by simpa only [AA] using h2)
   simpa only [AA] using h3
  refine pm (M':=((bX b5 #[vI (↑Pn),vI (↑Qn),vS b3 b7.length b4,vN,vN] 40)::(bX p #[.int .u64 (t7)] 71)::(bX b1 #[vI (0),vI (0),vN,vN,vN] 40)::(eM49++(t9++(eM46++(j1++F)))))) (PW (PW PM)) (sp 1 [(58,vP b5 2)] (sS (ss 0 2 b5 [vS J9 (b7++([(vS d1 ra.length d2:Value)])).length K0] [vI (↑Pn),vI (↑Qn),vS J9 (b7++([(vS d1 ra.length d2:Value)])).length K0,vN,vN] (_::_::_::_) (cs:=[_,_,_,_,_]) rfl rfl (sp 1 [(8,vS W5 (f5++([(vS d9 rz.length e0:Value)])).length X0)] (ee (NB (NX (rr (sp 1 [(31,vI (↑i))] (sd (da 32 (↑i) (1)) (sp 1 [(9,vI (↑i+1))] (ee ?_))))))))))));refine AL (Pn-(i+1)) (by omega) ?_;intro a w hS hD hW;exact ⟨J1,i+1,sx++[ra],hx++[rz],(vS J9 (b7++([(vS d1 ra.length d2:Value)])).length K0),b7++([(vS d1 ra.length d2:Value)]),j1,eM46,(vS W5 (f5++([(vS d9 rz.length e0:Value)])).length X0),f5++([(vS d9 rz.length e0:Value)]),t9,eM49,t7,(IT hJ0 hJ1),by omega,⟨by simp only [LA,LC,LN];omega,by simp only [LA,LC,LN];omega⟩,hrs.snoc (by omega) hra,hrh.snoc (by omega) hrb,U0,x5,U1,x6,hS.sub (.consE 8 rfl rfl (.consE 9 rfl rfl (.cons 0 rfl (.cons 1 rfl (.cons 2 rfl (.cons 6 rfl (.cons 7 rfl (.nil _)))))))),hD,hW.perm (PC _ (PC _ (PC _ ((PV (PV (PO _ _ _))).trans (PA _ ((PV (PO _ _ _)).trans (PA _ (PO _ _ _)))))))),rfl⟩
 have a2i:=h1;have h1:=DB h1;refine CE 0 ((EP (EP (EB (NX (rq (rq ?_)))))));have hiP:Pn=i:=by omega
 subst hiP;refine rn_freezeEach (B:=((bX b5 #[vI (↑Pn),vI (↑Qn),vS b3 b7.length b4,vN,vN] 40)::(bX p #[.int .u64 (bs)] 71)::(bX b1 #[vI (0),vI (0),vN,vN,vN] 40)::(tM++(hM++(gM++F))))) hse (by intro xs hq;have:=(hrs xs hq).1;omega) (PU (PU (PU (PO _ _ _)))) (PR _) (fun I50 R3 j0=>?_);have n0:=j0.1
 try simp only [LS,LA,LC,LN,LK] at n0
 refine GM (B:=((bX b5 #[vI (↑Pn),vI (↑Qn),vS b3 b7.length b4,vN,vN] 40)::(bX p #[.int .u64 (bs)] 71)::(bX b1 #[vI (0),vI (0),vN,vN,vN] 40)::(hM++(gM++F)))) undef hso (by first | omega | (simp only [LS,LC,LN,LA,LK,LD] <;> omega) | decide) (PU (PU (PM.symm))) (PR _) (fun I53 x7 n5=>?_);replace j0:=j0.mono x7;obtain ⟨a1z,a2b,a2a,a2e,C9,a2c,a2d,a2f⟩:=id n5;cases C9;have b0:=j0.isRows n5;have P0:=j0.1;obtain ⟨a1q,a1s,a1r,a1v,Z4,C8,a1t,a1u,a1x,a1y⟩:=id b0
 injection C8 with fr56_e1 fr56_e2 fr56_e3;subst fr56_e1;subst fr56_e3
 refine rr (sp 1 [(59,vP p 0)] ?_);have Q8:=NP I53 (p) (bs) (4) (by omega);refine sS (sc (some 60) (F:=((bX b5 #[vI (↑Pn),vI (↑Qn),vS b3 b7.length b4,vN,vN] 40)::(bX b1 #[vI (0),vI (0),vN,vN,vN] 40)::(hM++(gM++F)))) (Q8 :) (PS _ _ _) (fun a8s I57 a8l x8 a2u=>?_));obtain ⟨Y2,f7,V9,R6,a8c⟩:=a2u;rw [V9,R6];clear V9 R6;replace b0:=b0.mono x8;refine nm ?_;refine sp 1 [(14,vI (↑f7))] (DM 14 rfl (show (vI (↑f7):Value)=vI (↑f7-↑(0:Nat)) from congrArg (Value.int .i64) (by omega)) (se (rb 4 ?_)));refine rl (fun mz a w=>∃ J2:Imm,∃ c:Nat,∃ ks:List Keep,∃ M5:Int,∃ g3:Value,∃ d8:Seg,(I57.le J2)∧((c:Int)≤↑f7)∧(ks.length=c)∧(KeepsOf Pn (↑f7) ks)∧(Own 79 3 LU g3 (ks) d8)∧Slots 346 [(14,vI (↑f7-↑c)),(0,vP p 0),(1,vI (n1)),(2,vI (n2)),(6,vP b1 0),(7,vP b5 0),(8,vS e1 f5.length e2)] a∧a.defers=[]∧St J2 ((bX p #[.int .u64 (M5)] 71)::(bX b5 #[vI (↑Pn),vI (↑Qn),vS b3 b7.length b4,g3,vN] 40)::(bX b1 #[vI (0),vI (0),vN,vN,vN] 40)::(hM++(gM++(d8++F)))) w∧mz=(↑f7:Int).toNat-c) ?_ ?_
 ·intro a w hS hD hW;exact ⟨_,I57,0,[],Y2,(vN),[],IR _,by omega,rfl,KeepsOf.nil,(Own.nil _ _ _),hS.sub (.cons 14 rfl (.cons 0 rfl (.cons 1 rfl (.cons 2 rfl (.cons 6 rfl (.cons 7 rfl (.cons 8 rfl (.nil _)))))))),hD,hW,rfl⟩
 rintro mz a w ⟨J2,c,ks,M5,g3,d8,hJ2,hc,hkl,hks,g2,hS,hD,hW,rfl⟩
 refine AS hS hD hW ?_;clear hS hD hW a w;replace b0:=b0.mono hJ2;obtain ⟨a0,a1,l3,K1⟩:=g2.shape;subst l3;refine rq (rqr (sp 2 [(62,.bool (cmp .gtr (↑f7-↑c) (0)))] (se (rc 62 rfl (fun h3=>?_) (fun h3=>?_)))))
 ·
  have a2k:=h3;have h3:=LR h3;refine AO (NX (rq (rb 5 (rqr (sp 2 [(66,vP b5 0),(65,vP p 0)] (sd (dlb 67 1 0 b5 (vI (↑Pn))) (sd (dsb 68 (↑Pn) (1)) ?_)))))));have Q9:=NP J2 (p) (M5) (↑Pn-1) (by omega);refine sS (sc (some 69) (F:=((bX b5 #[vI (↑Pn),vI (↑Qn),vS b3 b7.length b4,vS a0 ks.length a1,vN] 40)::(bX b1 #[vI (0),vI (0),vN,vN,vN] 40)::(hM++(gM++(d8++F))))) (Q9 :) (.refl _) (fun a8t I68 a8m x9 a2v=>?_));obtain ⟨Y3,p4,W0,R7,a8d⟩:=a2v;rw [W0,R7];clear W0 R7;replace b0:=b0.mono x9;refine nm ?_;refine sp 1 [(70,vI (↑f7-↑c))] (sd (dmu 71 (7) (↑f7-↑c)) (sp 1 [(72,vP p 0)] ?_));have R0:=NP I68 (p) (Y3) (6) (by omega);refine sS (sc (some 73) (F:=((bX b5 #[vI (↑Pn),vI (↑Qn),vS b3 b7.length b4,vS a0 ks.length a1,vN] 40)::(bX b1 #[vI (0),vI (0),vN,vN,vN] 40)::(hM++(gM++(d8++F))))) (R0 :) (.refl _) (fun a8u I79 a8n y0 a2x=>?_));obtain ⟨Y4,n3,W1,R8,a8e⟩:=a2x;rw [W1,R8];clear W1 R8;replace b0:=b0.mono y0;refine nm ?_;refine sd (da 74 (7*(↑f7-↑c)) (↑n3)) (sp 1 [(75,vP p 0)] ?_);have D9:=MN I79 (p) (Y4) (1) (4) (by omega) (by omega);refine sS (sc (some 76) (F:=((bX b5 #[vI (↑Pn),vI (↑Qn),vS b3 b7.length b4,vS a0 ks.length a1,vN] 40)::(bX b1 #[vI (0),vI (0),vN,vN,vN] 40)::(hM++(gM++(d8++F))))) (D9 :) (.refl _) (fun a8v I90 a8o y1 a2y=>?_));obtain ⟨C1,t6,W2,R9,a8f⟩:=a2y;rw [W2,R9];clear W2 R9;replace b0:=b0.mono y1;refine nm ?_;refine sp 1 [(77,.agg #[vI (↑p4),vI ((7*(↑f7-↑c))+↑n3),vI ((t6))])] (sS (sal 15 79 #[vI (0),vI (0),vI (0)] (fun C5=>(sS (ss 0 0 C5 [vI (↑p4),vI ((7*(↑f7-↑c))+↑n3),vI ((t6))] [vI (↑p4),vI ((7*(↑f7-↑c))+↑n3),vI ((t6))] (_::_::_::_::_) (cs:=[_,_,_]) rfl rfl (se (rr (sp 1 [(78,vP b5 3)] (sd (dlb 79 2 3 b5 (vS a0 ks.length a1)) (sd (dnb 80 0 0 C5 [vI (↑p4),vI ((7*(↑f7-↑c))+↑n3),vI ((t6))]) (sS (sbs 81 79 1 #[vI (↑p4),vI ((7*(↑f7-↑c))+↑n3),vI ((t6))] (fun a6z=>(sS (BH (d:=82) (x:=(.tmp 79)) (y:=(.tmp 81)) (T:=37) (T':=37) (E:=79) (E':=79) (sz:=3) (bs:=24) (z:=.agg #[vI (0),vI (0),vI (0)]) (cell:=LU) (xs:=ks) (ys:=[(⟨↑p4,(7*(↑f7-↑c))+↑n3,(t6)⟩:Keep)]) (Ms:=d8) (ty:=37) (gd:=none) (by kernel_rfl) rfl (by kernel_rfl) (by kernel_rfl) (by kernel_rfl) (by kernel_rfl) (by kernel_rfl) (by decide) (by kernel_rfl) rfl rfl (g2) (PU (PU (PU (PU (PU (PV (PO _ _ _))))))) (one_keepCell _) (EJ 0 rfl rfl) (by first | omega | (simp only [LC,LN,LA,LK,LD];omega)) (fun a9a v0 z7=>(AX (M':=((bX C5 #[vI (↑p4),vI ((7*(↑f7-↑c))+↑n3),vI ((t6))] 79)::(bX p #[.int .u64 (C1)] 71)::(bX b5 #[vI (↑Pn),vI (↑Qn),vS b3 b7.length b4,vS a0 ks.length a1,vN] 40)::(bX b1 #[vI (0),vI (0),vN,vN,vN] 40)::(v0++(hM++(gM++F))))) (fun w h=>(h.perm (PW (PW (PW (PW PM))))).sub (TC _ (TR _))) ?_)))))))))))))))));obtain ⟨p5,q3,X1,a4u⟩:=z7.shape;subst X1;refine sp 1 [(83,vP b5 3)] (sS (ss 2 3 b5 [vS p5 (ks++([(⟨↑p4,(7*(↑f7-↑c))+↑n3,(t6)⟩:Keep)])).length q3] [vI (↑Pn),vI (↑Qn),vS b3 b7.length b4,vS p5 (ks++([(⟨↑p4,(7*(↑f7-↑c))+↑n3,(t6)⟩:Keep)])).length q3,vN] (_::_::_::_::_) (cs:=[_,_,_,_,_]) rfl rfl (ee (NB (NX (rr (sp 1 [(63,vI (↑f7-↑c))] (sd (dsb 64 (↑f7-↑c) (1)) (sp 1 [(14,vI ((↑f7-↑c)-1))] (ee ?_))))))))));refine AL ((↑f7:Int).toNat-(c+1)) (by omega) ?_;intro a w hS hD hW;exact ⟨I90,c+1,ks++([(⟨↑p4,(7*(↑f7-↑c))+↑n3,(t6)⟩:Keep)]),C1,vS p5 (ks++([(⟨↑p4,(7*(↑f7-↑c))+↑n3,(t6)⟩:Keep)])).length q3,v0,(IT (IT (IT hJ2 x9) y0) y1),by omega,by rw [LA,hkl];rfl,hks.snoc (by omega) (by dsimp only;omega) (by rw [hkl];dsimp only;omega) (by dsimp only;omega),z7,hS.sub (.consE 14 rfl (congrArg (Value.int .i64) (by omega)) (.cons 0 rfl (.cons 1 rfl (.cons 2 rfl (.cons 6 rfl (.cons 7 rfl (.cons 8 rfl (.nil _)))))))),hD,(hW.perm (PC _ (PC _ (PC _ (PC _ ((PO _ _ _).trans (PA _ (PO _ _ _)))))))).sub (TC _ (TR _)),rfl⟩
 have a2k:=h3;have h3:=gtr_f h3;refine CE 4 ((EP (EP (EB (NX (rq ?_))))));refine GM (B:=((bX p #[.int .u64 (M5)] 71)::(bX b5 #[vI (↑Pn),vI (↑Qn),vS b3 b7.length b4,vS a0 ks.length a1,vN] 40)::(bX b1 #[vI (0),vI (0),vN,vN,vN] 40)::(hM++(gM++F)))) AP g2 (by first | omega | (simp only [LS,LC,LN,LA,LK,LD] <;> omega) | decide) (PU (PU (PU (PV (PO _ _ _))))) (PR _) (fun a1f p2 b2=>?_);replace b0:=b0.mono p2;obtain ⟨Z5,Z7,Z6,a0a,u0,Z8,Z9,a0b⟩:=id b2;cases u0;refine rr (sp 1 [(16,vI (0))] (sn (sp 1 [(84,vP p 0)] ?_)));have E0:=Deal_ct a1f (p) (M5) (20) (by omega);refine sS (sc (some 85) (F:=((bX b5 #[vI (↑Pn),vI (↑Qn),vS b3 b7.length b4,vS a0 ks.length a1,vN] 40)::(bX b1 #[vI (0),vI (0),vN,vN,vN] 40)::(hM++(gM++F)))) (E0 :) (.refl _) (fun a6a a6p a5k j4 U2=>?_));obtain ⟨g8,a8,a8z,v1,A6,y2,Y5,C2⟩:=U2;rw [A6,y2];clear A6 y2;replace b0:=b0.mono j4;replace b2:=b2.mono j4;obtain ⟨e7,e8,K7,a3l⟩:=C2.shape;subst K7;refine AX (M':=((bX p #[.int .u64 (g8)] 71)::(v1++(bX b5 #[vI (↑Pn),vI (↑Qn),vS b3 b7.length b4,vS a0 ks.length a1,vN] 40)::(bX b1 #[vI (0),vI (0),vN,vN,vN] 40)::(hM++(gM++F))))) (fun w h=>by simpa only [AA,CA,NA] using h) (pm (M':=((bX p #[.int .u64 (g8)] 71)::(bX b5 #[vI (↑Pn),vI (↑Qn),vS b3 b7.length b4,vS a0 ks.length a1,vN] 40)::(bX b1 #[vI (0),vI (0),vN,vN,vN] 40)::(v1++(hM++(gM++F))))) (PC _ (PW PM)) (sp 1 [(17,vS e7 a8.length e8)] (se (rq (rq ?_)))));have u6:=Y5;have hdl:(a8).length=20:=u6.length_eq.trans (EX 20);refine GM (B:=((bX p #[.int .u64 (g8)] 71)::(bX b5 #[vI (↑Pn),vI (↑Qn),vS b3 b7.length b4,vS a0 ks.length a1,vN] 40)::(bX b1 #[vI (0),vI (0),vN,vN,vN] 40)::(hM++(gM++F)))) 0 C2 (by first | omega | (simp only [LS,LC,LN,LA,LK,LD] <;> omega) | decide) (PU (PU (PM.symm))) (PR _) (fun M0 j5 u2=>?_);replace b0:=b0.mono j5;replace b2:=b2.mono j5;obtain ⟨a0c,a0e,a0d,a0h,u1,a0f,a0g,c5⟩:=id u2;cases u1;refine rr (sp 1 [(18,vI (0))] (se (rb 6 ?_)));refine rl (fun mz a w=>∃ J3:Imm,∃ t:Nat,∃ h:Int,∃ sl:List Slip,∃ hy:List (List Int),∃ yM:Seg,∃ M6:Int,∃ g4:Value,∃ a5:Seg,(M0.le J3)∧(t≤8)∧(0≤h∧h≤10*t)∧(SlipsOf Pn Qn (a8) t sl)∧(hy.length=Pn)∧(RowsB (100+50*t) (2*Qn) hy)∧(OwnEach 3 f5 hy yM)∧(Own 47 8 BA g4 (sl) a5)∧Slots 346 [(16,vI h),(18,vI ↑t),(0,vP p 0),(1,vI (n1)),(2,vI (n2)),(6,vP b1 0),(7,vP b5 0),(8,vS e1 f5.length e2),(17,vS e7 a8.length e8)] a∧a.defers=[]∧St J3 ((bX p #[.int .u64 (M6)] 71)::(bX b5 #[vI (↑Pn),vI (↑Qn),vS b3 b7.length b4,vS a0 ks.length a1,g4] 40)::(bX b1 #[vI (0),vI (0),vN,vN,vN] 40)::(hM++(yM++(a5++F)))) w∧mz=8-t) ?_ ?_
 ·intro a w hS hD hW;exact ⟨_,M0,0,0,[],hx,gM,g8,(vN),[],IR _,Nat.zero_le _,(by omega),SlipsOf.nil,hl2,hrh.mono (by omega),hhe,(Own.nil _ _ _),hS.sub (.cons 16 rfl (.cons 18 rfl (.cons 0 rfl (.cons 1 rfl (.cons 2 rfl (.cons 6 rfl (.cons 7 rfl (.cons 8 rfl (.cons 17 rfl (.nil _)))))))))),hD,hW,rfl⟩
 rintro mz a w ⟨J3,t,h,sl,hy,yM,M6,g4,a5,hJ3,ht,hh,m8,p3,k3,hye,c0,hS,hD,hW,rfl⟩
 refine AS hS hD hW ?_;clear hS hD hW a w;replace b0:=b0.mono hJ3;replace b2:=b2.mono hJ3;replace c5:=c5.mono hJ3;obtain ⟨a2,a3,l4,K2⟩:=c0.shape;subst l4;obtain ⟨hh1,hh2⟩:=hh;have a7q:=m8.1;have hns:=fun hq:t<(a8).length=>deal_at u6 hq
 refine rq (rqr (sp 4 [(89,.bool (cmp .lss (↑t) ((if (8:Int)<(n1:Int) then 8 else n1))))] (se (rc 89 rfl (fun h4=>?_) (fun h4=>?_)))))
 ·
  have a2l:=h4;have h4:=CQ h4;refine AO (NX (rq (rb 7 (rq (rqr (sp 1 [(92,vP p 0)] ?_))))));have E1:=LB J3 (p) (M6) (1) (5) (by omega);refine sS (sc (some 93) (F:=((bX b5 #[vI (↑Pn),vI (↑Qn),vS b3 b7.length b4,vS a0 ks.length a1,vS a2 sl.length a3] 40)::(bX b1 #[vI (0),vI (0),vN,vN,vN] 40)::(hM++(yM++(a5++F))))) (E1 :) (.refl _) (fun a6b M2 a5l c6 U3=>?_));obtain ⟨t4,a8g,A7,y3⟩:=U3;rw [A7,y3];clear A7 y3;replace b0:=b0.mono c6;replace b2:=b2.mono c6;replace c5:=c5.mono c6;refine nm (se ?_);refine rc 93 rfl (fun h5=>?_) (fun h5=>?_)
  ·
   have a2m:=h5;refine CE 7 ((EP (EB (NX (rr (sp 1 [(90,vI (↑t))] (sd (da 91 (↑t) (1)) (sp 1 [(18,vI (↑t+1))] (ee ?_)))))))));refine AL (8-(t+1)) (by omega) ?_;intro a w hS hD hW;exact ⟨M2,t+1,h,sl,hy,yM,t4,vS a2 sl.length a3,a5,(IT hJ3 c6),by omega,(by omega),m8.skip,by simpa only [LS] using p3,(by have d0:=k3.mono (B':=100+50*((t+1:Nat):Int)) (by omega);repeat' (first | exact d0 | refine RowsB.put ?_ ?_ | refine RowB.set ?_ ?_ | refine RowsB.row ?_ ?_ | omega | (simp only [LS];omega))),hye,c0,hS.sub (.consE 16 rfl rfl (.consE 18 rfl rfl (.cons 0 rfl (.cons 1 rfl (.cons 2 rfl (.cons 6 rfl (.cons 7 rfl (.cons 8 rfl (.cons 17 rfl (.nil _)))))))))),hD,hW,rfl⟩
  have a2m:=h5;refine AO (NX (rqr (sp 3 [(96,vP p 0),(95,vP p 0),(94,vI (h))] ?_)));have E2:=NP M2 (p) (t4) (9) (by omega);refine sS (sc (some 97) (F:=((bX b5 #[vI (↑Pn),vI (↑Qn),vS b3 b7.length b4,vS a0 ks.length a1,vS a2 sl.length a3] 40)::(bX b1 #[vI (0),vI (0),vN,vN,vN] 40)::(hM++(yM++(a5++F))))) (E2 :) (.refl _) (fun a6c a6q a5m c7 U4=>?_));obtain ⟨l5,u7,A8,y4,a5d⟩:=U4;rw [A8,y4];clear A8 y4;replace b0:=b0.mono c7;replace b2:=b2.mono c7;replace c5:=c5.mono c7;refine nm ?_;refine sS (sbs 98 3 2 #[vI (0),vI (↑u7)] (fun C6=>(pm (M':=((bX p #[.int .u64 (l5)] 71)::(bX b5 #[vI (↑Pn),vI (↑Qn),vS b3 b7.length b4,vS a0 ks.length a1,vS a2 sl.length a3] 40)::(bX b1 #[vI (0),vI (0),vN,vN,vN] 40)::([(bX C6 #[vI (0),vI (↑u7)] 3)]++(hM++(yM++(a5++F)))))) ((PS _ _ _).trans (PC _ ((PS _ _ _).trans (PC _ (PS _ _ _))))) ?_)));have T0:Own 3 1 AK (vS (some ⟨C6,0,none⟩) 2 2) ([(0:Int),(↑u7:Int)]:List Int) [(bX C6 #[vI (0),vI (↑u7)] 3)]:=Own.lit rfl rfl;refine sfz (A:=((bX p #[.int .u64 (l5)] 71)::(bX b5 #[vI (↑Pn),vI (↑Qn),vS b3 b7.length b4,vS a0 ks.length a1,vS a2 sl.length a3] 40)::(bX b1 #[vI (0),vI (0),vN,vN,vN] 40)::(hM++(yM++(a5++F))))) 0 T0 (PU (PU (PM.symm))) (fun a1g c8 m1=>?_);replace b0:=b0.mono c8;replace b2:=b2.mono c8;replace c5:=c5.mono c8;obtain ⟨a0i,a0k,a0j,a0n,u3,a0l,a0m,a0o⟩:=id m1;cases u3;have E3:=One_ct a1g (p) (l5) _ _ m1 (by simp);refine sS (sc (some 99) (F:=((bX b5 #[vI (↑Pn),vI (↑Qn),vS b3 b7.length b4,vS a0 ks.length a1,vS a2 sl.length a3] 40)::(bX b1 #[vI (0),vI (0),vN,vN,vN] 40)::(hM++(yM++(a5++F))))) (E3 :) (.refl _) (fun a6d a6r a5n c9 U5=>?_));obtain ⟨f2,e3,A9,y5,Y6⟩:=U5;rw [A9,y5];clear A9 y5;replace b0:=b0.mono c9;replace b2:=b2.mono c9;replace c5:=c5.mono c9;refine nm ?_;have hk2:0≤(e3)∧(e3)≤9:=by
   have hq:=Y6;simp only [List.mem_cons,List.not_mem_nil,or_false] at hq;omega
  refine sd (da 100 (h) ((e3))) (sp 1 [(16,vI (h+((e3))))] (se (rq ?_)));have hnt:=hns (by omega);refine rdX (M:=((bX p #[.int .u64 (f2)] 71)::(bX b5 #[vI (↑Pn),vI (↑Qn),vS b3 b7.length b4,vS a0 ks.length a1,vS a2 sl.length a3] 40)::(bX b1 #[vI (0),vI (0),vN,vN,vN] 40)::(hM++(yM++(a5++[]))))) (F0:=F) [(20,19,.cl 47 #[vI (0),vI (0),vI (0),vI (0),vI (0),vI (0),.bool (false),vI (0)])] 21 [(0,true),(1,true),(2,true),(3,true),(4,true),(5,true),(6,true),(9,true),(10,true),(11,true),(12,true),(14,true),(15,true),(16,true),(17,true),(7,false),(8,false),(13,false),(18,false),(19,true),(20,false)] (by simp only [AA,CA,NA,List.append_nil];exact PR _) (MT (alOk_cl (ops:=FB (c_LinenOf [1,1,1,1,1,1,1,0,1,0,0,1,0,0,1,1,0])) (i:=20) (d:=19) (by kernel_rfl) (by kernel_rfl) (by kernel_rfl)) HN) ?_;refine AW (AM (d:=101) (v:=vS e7 a8.length e8) (by kernel_rfl)) ?_;refine AW (AM (d:=102) (v:=vI (↑t)) (by kernel_rfl)) ?_;refine AW (di 103 1 (t) c5.addr) ?_;refine AW (dl 104 (DR c5 (t) (by omega))) ?_;refine AW (da 105 (1) (a8.getD (t) 0)) ?_;refine AW (AM (d:=106) (v:=vI (h+((e3)))) (by kernel_rfl)) ?_;refine AW (AM (d:=107) (v:=vP p 0) (by kernel_rfl)) ?_;refine AW (AM (d:=110) (v:=vP p 0) (by kernel_rfl)) ?_;refine AW (AM (d:=111) (v:=vP b5 0) (by kernel_rfl)) ?_;refine ofx_part (Rx:=((bX b5 #[vI (↑Pn),vI (↑Qn),vS b3 b7.length b4,vS a0 ks.length a1,vS a2 sl.length a3] 40)::[])) (PS _ _ _) (dlb 112 0 0 b5 (vI (↑Pn))) ?_;refine AW (dsb 113 (↑Pn) (1)) ?_;refine AW (AM (d:=115) (v:=vP p 0) (by kernel_rfl)) ?_;refine AW (AM (d:=116) (v:=vP b5 1) (by kernel_rfl)) ?_;refine ofx_part (Rx:=((bX b5 #[vI (↑Pn),vI (↑Qn),vS b3 b7.length b4,vS a0 ks.length a1,vS a2 sl.length a3] 40)::[])) (PS _ _ _) (dlb 117 0 1 b5 (vI (↑Qn))) ?_;refine AW (dsb 118 (↑Qn) (1)) ?_;refine EE (Mx:=fun FX=>((bX p #[.int .u64 (f2)] 71)::(bX b5 #[vI (↑Pn),vI (↑Qn),vS b3 b7.length b4,vS a0 ks.length a1,vS a2 sl.length a3] 40)::(bX b1 #[vI (0),vI (0),vN,vN,vN] 40)::(hM++(yM++(a5++FX))))) rfl (fun FX=>by simp only [AA,CA,NA,List.append_nil];exact PR _) (fun FX=>?_);refine stp_hk (sbs 108 3 10 #[vI (1),vI (1),vI (2),vI (2),vI (3),vI (4),vI (4),vI (4),vI (5),vI (6)] (fun C7=>?_));refine hk_mem (M':=((bX p #[.int .u64 (f2)] 71)::(bX b5 #[vI (↑Pn),vI (↑Qn),vS b3 b7.length b4,vS a0 ks.length a1,vS a2 sl.length a3] 40)::(bX b1 #[vI (0),vI (0),vN,vN,vN] 40)::([(bX C7 #[vI (1),vI (1),vI (2),vI (2),vI (3),vI (4),vI (4),vI (4),vI (5),vI (6)] 3)]++(hM++(yM++(a5++FX)))))) (fun w h=>h.perm ((PS _ _ _).trans (PC _ ((PS _ _ _).trans (PC _ (PS _ _ _)))))) ?_;have T1:Own 3 1 AK (vS (some ⟨C7,0,none⟩) 10 10) ([(1:Int),(1:Int),(2:Int),(2:Int),(3:Int),(4:Int),(4:Int),(4:Int),(5:Int),(6:Int)]:List Int) [(bX C7 #[vI (1),vI (1),vI (2),vI (2),vI (3),vI (4),vI (4),vI (4),vI (5),vI (6)] 3)]:=Own.lit rfl rfl;refine LT (B:=((bX p #[.int .u64 (f2)] 71)::(bX b5 #[vI (↑Pn),vI (↑Qn),vS b3 b7.length b4,vS a0 ks.length a1,vS a2 sl.length a3] 40)::(bX b1 #[vI (0),vI (0),vN,vN,vN] 40)::(hM++(yM++(a5++FX))))) 0 T1 (by first | omega | (simp only [LS,LC,LN,LA,LK,LD] <;> omega) | decide) (PU (PU (PM.symm))) (PR _) (fun a1h d3 m2=>?_);replace b0:=b0.mono d3;replace b2:=b2.mono d3;obtain ⟨a0p,a0r,a0q,a0u,u4,a0s,a0t,a0v⟩:=id m2;cases u4;refine hk_done ?_;refine FQ (M1:=((bX p #[.int .u64 (f2)] 71)::(bX b5 #[vI (↑Pn),vI (↑Qn),vS b3 b7.length b4,vS a0 ks.length a1,vS a2 sl.length a3] 40)::(bX b1 #[vI (0),vI (0),vN,vN,vN] 40)::(hM++(yM++(a5++[]))))) (by simp only [AA,CA,NA,List.append_nil];exact (PR _)) (.none (.part (PS _ _ _) (.none (.none (.none (.part (PS _ _ _) (.none (.none (.none (.none (.none (.none (.none (.none (.none .nil))))))))))))))) ?_;refine EE (Mx:=fun FX=>((bX p #[.int .u64 (f2)] 71)::(bX b5 #[vI (↑Pn),vI (↑Qn),vS b3 b7.length b4,vS a0 ks.length a1,vS a2 sl.length a3] 40)::(bX b1 #[vI (0),vI (0),vN,vN,vN] 40)::(hM++(yM++(a5++FX))))) rfl (fun FX=>by simp only [AA,CA,NA,List.append_nil];exact PR _) (fun FX=>?_);have E4:=One_ct a1h (p) (f2) _ _ m2 (by simp);refine id (sc (some 109) (F:=((bX b5 #[vI (↑Pn),vI (↑Qn),vS b3 b7.length b4,vS a0 ks.length a1,vS a2 sl.length a3] 40)::(bX b1 #[vI (0),vI (0),vN,vN,vN] 40)::(hM++(yM++(a5++FX))))) (E4 :) (PR _) (fun a6e a1i a5o d4 U6=>?_));obtain ⟨l6,a7,B0,y6,Y7⟩:=U6;rw [B0,y6];clear B0 y6;replace b0:=b0.mono d4;replace b2:=b2.mono d4;refine FQ (M1:=((bX p #[.int .u64 (l6)] 71)::(bX b5 #[vI (↑Pn),vI (↑Qn),vS b3 b7.length b4,vS a0 ks.length a1,vS a2 sl.length a3] 40)::(bX b1 #[vI (0),vI (0),vN,vN,vN] 40)::(hM++(yM++(a5++[]))))) (by simp only [AA,CA,NA,List.append_nil];exact (PR _)) (.none (.part (PS _ _ _) (.none (.none (.none (.part (PS _ _ _) (.none (.none (.wait (by kernel_rfl) (.none (.none (.none (.none (.none (.none .nil))))))))))))))) ?_;show OFPX _ _ _ _ _ _ _ _ _ _ ((109,vI ((a7)))::_) _ _;have hkd:1≤(a7)∧(a7)≤6:=by
   have hq:=Y7;simp only [List.mem_cons,List.not_mem_nil,or_false] at hq;omega
  refine EE (Mx:=fun FX=>((bX p #[.int .u64 (l6)] 71)::(bX b5 #[vI (↑Pn),vI (↑Qn),vS b3 b7.length b4,vS a0 ks.length a1,vS a2 sl.length a3] 40)::(bX b1 #[vI (0),vI (0),vN,vN,vN] 40)::(hM++(yM++(a5++FX))))) rfl (fun FX=>by simp only [AA,CA,NA,List.append_nil];exact PR _) (fun FX=>?_);have E5:=NP a1i (p) (l6) (↑Pn-1) (by omega);refine id (sc (some 114) (F:=((bX b5 #[vI (↑Pn),vI (↑Qn),vS b3 b7.length b4,vS a0 ks.length a1,vS a2 sl.length a3] 40)::(bX b1 #[vI (0),vI (0),vN,vN,vN] 40)::(hM++(yM++(a5++FX))))) (E5 :) (PR _) (fun a6f a1j a5p d5 U7=>?_));obtain ⟨l7,a4,B1,y7,a5e⟩:=U7;rw [B1,y7];clear B1 y7;replace b0:=b0.mono d5;replace b2:=b2.mono d5;refine FQ (M1:=((bX p #[.int .u64 (l7)] 71)::(bX b5 #[vI (↑Pn),vI (↑Qn),vS b3 b7.length b4,vS a0 ks.length a1,vS a2 sl.length a3] 40)::(bX b1 #[vI (0),vI (0),vN,vN,vN] 40)::(hM++(yM++(a5++[]))))) (by simp only [AA,CA,NA,List.append_nil];exact (PR _)) (.none (.part (PS _ _ _) (.none (.none (.wait (by kernel_rfl) (.wait (by kernel_rfl) (.wait (by kernel_rfl) (.wait (by kernel_rfl) (.wait (by kernel_rfl) (.none (.none (.none (.none (.none (.none .nil))))))))))))))) ?_;show OFPX _ _ _ _ _ _ _ _ _ _ ((114,vI (↑a4))::_) _ _;refine EE (Mx:=fun FX=>((bX p #[.int .u64 (l7)] 71)::(bX b5 #[vI (↑Pn),vI (↑Qn),vS b3 b7.length b4,vS a0 ks.length a1,vS a2 sl.length a3] 40)::(bX b1 #[vI (0),vI (0),vN,vN,vN] 40)::(hM++(yM++(a5++FX))))) rfl (fun FX=>by simp only [AA,CA,NA,List.append_nil];exact PR _) (fun FX=>?_);have E6:=NP a1j (p) (l7) (↑Qn-1) (by omega);refine id (sc (some 119) (F:=((bX b5 #[vI (↑Pn),vI (↑Qn),vS b3 b7.length b4,vS a0 ks.length a1,vS a2 sl.length a3] 40)::(bX b1 #[vI (0),vI (0),vN,vN,vN] 40)::(hM++(yM++(a5++FX))))) (E6 :) (PR _) (fun a6g m6 a5q d6 U8=>?_));obtain ⟨f3,a9,B2,y8,a5f⟩:=U8;rw [B2,y8];clear B2 y8;replace b0:=b0.mono d6;replace b2:=b2.mono d6;refine FQ (M1:=((bX p #[.int .u64 (f3)] 71)::(bX b5 #[vI (↑Pn),vI (↑Qn),vS b3 b7.length b4,vS a0 ks.length a1,vS a2 sl.length a3] 40)::(bX b1 #[vI (0),vI (0),vN,vN,vN] 40)::(hM++(yM++(a5++[]))))) (by simp only [AA,CA,NA,List.append_nil];exact (PR _)) (.wait (by kernel_rfl) (.wait (by kernel_rfl) (.wait (by kernel_rfl) (.wait (by kernel_rfl) (.wait (by kernel_rfl) (.wait (by kernel_rfl) (.wait (by kernel_rfl) (.wait (by kernel_rfl) (.wait (by kernel_rfl) (.none (.none (.none (.none (.none (.none .nil))))))))))))))) ?_;show OFPX _ _ _ _ _ _ _ _ _ _ ((119,vI (↑a9))::_) _ _;refine AG (AM (d:=120) (v:=.agg #[vI (1+(a8.getD (t) 0)),vI (h+((e3))),vI ((a7)),vI (↑a4),vI (0),vI (↑a9),.bool (false),vI (0)]) (by kernel_rfl)) ?_;refine ofx_ac rfl (fun a6=>?_);refine FP (AX (M':=((bX a6 #[vI (0),vI (0),vI (0),vI (0),vI (0),vI (0),.bool (false),vI (0)] 47)::(bX p #[.int .u64 (f3)] 71)::(bX b5 #[vI (↑Pn),vI (↑Qn),vS b3 b7.length b4,vS a0 ks.length a1,vS a2 sl.length a3] 40)::(bX b1 #[vI (0),vI (0),vN,vN,vN] 40)::(hM++(yM++(a5++F))))) (fun w h=>by simpa only [AA,CA,NA,List.append_nil] using h) (nm ?_));refine sS (ss 0 0 a6 [vI (1+(a8.getD (t) 0)),vI (h+((e3))),vI ((a7)),vI (↑a4),vI (0),vI (↑a9),.bool (false),vI (0)] [vI (1+(a8.getD (t) 0)),vI (h+((e3))),vI ((a7)),vI (↑a4),vI (0),vI (↑a9),.bool (false),vI (0)] (_::_::_::_::_) (cs:=[_,_,_,_,_,_,_,_]) rfl rfl (se (rq ?_)));refine DE (fun a w=>∃ h2:Int,(0≤h2∧h2≤10*(t+1))∧Slots 346 [(0,vP p 0),(1,vI (n1)),(2,vI (n2)),(6,vP b1 0),(7,vP b5 0),(8,vS e1 f5.length e2),(16,vI h2),(17,vS e7 a8.length e8),(18,vI (↑t)),(19,vP a6 0)] a∧a.defers=[]∧St m6 ((bX a6 #[vI (1+(a8.getD (t) 0)),vI (h2),vI ((a7)),vI (↑a4),vI (0),vI (↑a9),.bool (false),vI (0)] 47)::(bX p #[.int .u64 (f3)] 71)::(bX b5 #[vI (↑Pn),vI (↑Qn),vS b3 b7.length b4,vS a0 ks.length a1,vS a2 sl.length a3] 40)::(bX b1 #[vI (0),vI (0),vN,vN,vN] 40)::(hM++(yM++(a5++F)))) w) ?_ ?_
  ·
   refine rq ?_;refine DE (fun a w=>Slots 346 [(0,vP p 0),(1,vI (n1)),(2,vI (n2)),(6,vP b1 0),(7,vP b5 0),(8,vS e1 f5.length e2),(16,vI (h+((e3)))),(17,vS e7 a8.length e8),(18,vI (↑t)),(19,vP a6 0),(152,.bool ((cmp .gtr (↑(sl.length)) (0))&&((cmp .eql (h+((e3))) ((sl.getD (((↑(sl.length))-1:Int).toNat) AB).hour))&&(cmp .lss (1+(a8.getD (t) 0)) ((sl.getD (((↑(sl.length))-1:Int).toNat) AB).num)))))] a∧a.defers=[]∧St m6 ((bX a6 #[vI (1+(a8.getD (t) 0)),vI (h+((e3))),vI ((a7)),vI (↑a4),vI (0),vI (↑a9),.bool (false),vI (0)] 47)::(bX p #[.int .u64 (f3)] 71)::(bX b5 #[vI (↑Pn),vI (↑Qn),vS b3 b7.length b4,vS a0 ks.length a1,vS a2 sl.length a3] 40)::(bX b1 #[vI (0),vI (0),vN,vN,vN] 40)::(hM++(yM++(a5++F)))) w) ?_ ?_
   ·
    refine rd0 30 (ox 1 [(121,vP b5 4)] ?_);refine AF (dlb 122 2 4 b5 (vS a2 sl.length a3)) (ox 3 [(125,.bool (cmp .gtr (↑(sl.length)) (0)))] ?_);refine IH 125 (fun h6=>?_) (fun h6=>?_)
    ·
     have n7:=h6;have n7:=LR n7;refine ox 1 [(126,vP a6 1)] ?_;refine AF (dlb 127 0 1 a6 (vI (h+((e3))))) (ox 1 [(128,vP b5 4)] ?_);refine AF (dlb 129 2 4 b5 (vS a2 sl.length a3)) (ox 1 [(130,vP b5 4)] ?_);refine AF (dlb 131 2 4 b5 (vS a2 sl.length a3)) (ox 1 [(132,vI (↑(sl.length)))] ?_);refine AF (dsb 133 (↑(sl.length)) (1)) ?_;obtain ⟨W6,r1⟩:=c0.row AB;refine AF (diI 134 8 ((↑(sl.length))-1) r1.addr) (ox 1 [(135,.pointer (some ⟨W6,0+(((↑(sl.length))-1:Int).toNat)*8+1,none⟩))] ?_);refine AF (dl 136 (r1.get (((↑(sl.length))-1:Int).toNat) (by omega) 1 (by decide) _ _ (fun x hx=>by simp [hx]))) (ox 3 [(139,.bool (cmp .eql (h+((e3))) ((sl.getD (((↑(sl.length))-1:Int).toNat) AB).hour)))] ?_);refine IH 139 (fun h7=>?_) (fun h7=>?_)
     ·
      have n8:=h7;have n8:=BV n8;refine ox 1 [(140,vP a6 0)] ?_;refine AF (dlb 141 0 0 a6 (vI (1+(a8.getD (t) 0)))) (ox 1 [(142,vP b5 4)] ?_);refine AF (dlb 143 2 4 b5 (vS a2 sl.length a3)) (ox 1 [(144,vP b5 4)] ?_);refine AF (dlb 145 2 4 b5 (vS a2 sl.length a3)) (ox 1 [(146,vI (↑(sl.length)))] ?_);refine AF (dsb 147 (↑(sl.length)) (1)) ?_;obtain ⟨W7,r2⟩:=c0.row AB;refine AF (diI 148 8 ((↑(sl.length))-1) r2.addr) (ox 1 [(149,.pointer (some ⟨W7,0+(((↑(sl.length))-1:Int).toNat)*8,none⟩))] ?_);refine AF (dl 150 (r2.get (((↑(sl.length))-1:Int).toNat) (by omega) 0 (by decide) _ _ (fun x hx=>by simp [hx]))) ?_;refine BF (sp 2 [(152,.bool (cmp .lss (1+(a8.getD (t) 0)) ((sl.getD (((↑(sl.length))-1:Int).toNat) AB).num)))] (ee ?_));refine AN (fun a w hS hD hW=>⟨hS.sub (.cons 0 rfl (.cons 1 rfl (.cons 2 rfl (.cons 6 rfl (.cons 7 rfl (.cons 8 rfl (.cons 16 rfl (.cons 17 rfl (.cons 18 rfl (.cons 19 rfl (.consE 152 rfl (congrArg Value.bool (by simp only [h6,h7,kA,kB,kC,kD,kE,kF,kG,kH,kI,kJ])) (.nil _)))))))))))),hD,hW⟩)
     have n8:=h7;have n8:=BU n8;refine ox 11 [(150,undef),(141,undef)] ?_;refine BF (sp 2 [(152,.bool (false))] (ee ?_));refine AN (fun a w hS hD hW=>⟨hS.sub (.cons 0 rfl (.cons 1 rfl (.cons 2 rfl (.cons 6 rfl (.cons 7 rfl (.cons 8 rfl (.cons 16 rfl (.cons 17 rfl (.cons 18 rfl (.cons 19 rfl (.consE 152 rfl (congrArg Value.bool (by simp only [h6,h7,kA,kB,kC,kD,kE,kF,kG,kH,kI,kJ])) (.nil _)))))))))))),hD,hW⟩)
    have n7:=h6;have n7:=gtr_f n7;refine ox 25 [(150,undef),(141,undef),(139,.bool (false))] ?_;refine BF (sp 2 [(152,.bool (false))] (ee ?_));refine AN (fun a w hS hD hW=>⟨hS.sub (.cons 0 rfl (.cons 1 rfl (.cons 2 rfl (.cons 6 rfl (.cons 7 rfl (.cons 8 rfl (.cons 16 rfl (.cons 17 rfl (.cons 18 rfl (.cons 19 rfl (.consE 152 rfl (congrArg Value.bool (by simp only [h6,kA,kB,kC,kD,kE,kF,kG,kH,kI,kJ])) (.nil _)))))))))))),hD,hW⟩)
   rintro a w ⟨hS,hD,hW⟩
   refine AS hS hD hW ?_;clear hS hD hW a w;refine rc 152 rfl (fun h8=>?_) (fun h8=>?_)
   ·
    have a2o:=h8;obtain ⟨Q4,a2n⟩:=and_t h8;have Q4:=LR Q4;obtain ⟨n9,o0⟩:=and_t a2n;have n9:=BV n9;have o0:=CQ o0;refine rqr (sp 1 [(153,vI (h+((e3))))] (sd (da 154 (h+((e3))) (1)) (sp 1 [(16,vI ((h+((e3)))+1))] (se (rr (sp 2 [(156,vP a6 1),(155,vI ((h+((e3)))+1))] (sS (ss 0 1 a6 [vI ((h+((e3)))+1)] [vI (1+(a8.getD (t) 0)),vI ((h+((e3)))+1),vI ((a7)),vI (↑a4),vI (0),vI (↑a9),.bool (false),vI (0)] (_::_::_::_::_) (cs:=[_,_,_,_,_,_,_,_]) rfl rfl (ee ?_)))))))));exact AN (fun a w hS hD hW=>⟨((h+((e3)))+1),(by omega),hS.sub (.cons 0 rfl (.cons 1 rfl (.cons 2 rfl (.cons 6 rfl (.cons 7 rfl (.cons 8 rfl (.consE 16 rfl rfl (.cons 17 rfl (.cons 18 rfl (.cons 19 rfl (.nil _))))))))))),hD,hW⟩)
   have a2o:=h8;refine AO ?_;exact AN (fun a w hS hD hW=>⟨(h+((e3))),(by omega),hS.sub (.cons 0 rfl (.cons 1 rfl (.cons 2 rfl (.cons 6 rfl (.cons 7 rfl (.cons 8 rfl (.consE 16 rfl rfl (.cons 17 rfl (.cons 18 rfl (.cons 19 rfl (.nil _))))))))))),hD,hW⟩)
  rintro a w ⟨h2,hh3,hS,hD,hW⟩
  refine AS hS hD hW ?_;clear hS hD hW a w;refine rq ?_;refine DE (fun a w=>∃ e5:Imm,∃ so:Bool,∃ K8:Int,(m6.le e5)∧(so=true→(a7)=1∨(a7)=4)∧Slots 346 [(0,vP p 0),(1,vI (n1)),(2,vI (n2)),(6,vP b1 0),(7,vP b5 0),(8,vS e1 f5.length e2),(16,vI (h2)),(17,vS e7 a8.length e8),(18,vI (↑t)),(19,vP a6 0)] a∧a.defers=[]∧St e5 ((bX a6 #[vI (1+(a8.getD (t) 0)),vI (h2),vI ((a7)),vI (↑a4),vI (0),vI (↑a9),.bool (so),vI (0)] 47)::(bX p #[.int .u64 (K8)] 71)::(bX b5 #[vI (↑Pn),vI (↑Qn),vS b3 b7.length b4,vS a0 ks.length a1,vS a2 sl.length a3] 40)::(bX b1 #[vI (0),vI (0),vN,vN,vN] 40)::(hM++(yM++(a5++F)))) w) ?_ ?_
  ·
   refine rr (sp 1 [(157,vP a6 2)] (sd (dlb 158 0 2 a6 (vI ((a7)))) (sp 2 [(160,.bool (cmp .eql ((a7)) (1)))] ?_)));refine BX 160 rfl (fun h9=>?_) (fun h9=>?_)
   ·
    have o1:=h9;have o1:=BV o1;refine sp 6 [(166,vP p 0),(165,.bool (true))] ?_;have E7:=LB m6 (p) (f3) (1) (2) (by omega);refine sS (sc (some 167) (F:=((bX a6 #[vI (1+(a8.getD (t) 0)),vI (h2),vI ((a7)),vI (↑a4),vI (0),vI (↑a9),.bool (false),vI (0)] 47)::(bX b5 #[vI (↑Pn),vI (↑Qn),vS b3 b7.length b4,vS a0 ks.length a1,vS a2 sl.length a3] 40)::(bX b1 #[vI (0),vI (0),vN,vN,vN] 40)::(hM++(yM++(a5++F))))) (E7 :) (PS _ _ _) (fun a6h a1k a5r j6 U9=>?_));obtain ⟨K3,u8,B3,y9⟩:=U9;rw [B3,y9];clear B3 y9;replace b0:=b0.mono j6;replace b2:=b2.mono j6;refine nm ?_;refine sp 2 [(169,vP a6 6),(168,.bool (u8))] (sS (ss 1 6 a6 [.bool (u8)] [vI (1+(a8.getD (t) 0)),vI (h2),vI ((a7)),vI (↑a4),vI (0),vI (↑a9),.bool (u8),vI (0)] (_::_::_::_::_) (cs:=[_,_,_,_,_,_,_,_]) rfl rfl (ee ?_)));exact AN (fun a w hS hD hW=>⟨a1k,u8,K3,j6,(fun hq=>by first | omega | cases hq),hS.sub (.cons 0 rfl (.cons 1 rfl (.cons 2 rfl (.cons 6 rfl (.cons 7 rfl (.cons 8 rfl (.cons 16 rfl (.cons 17 rfl (.cons 18 rfl (.cons 19 rfl (.nil _))))))))))),hD,hW.perm (PS _ _ _)⟩)
   have o1:=h9;have o1:=BU o1;refine sp 1 [(161,vP a6 2)] (sd (dlb 162 0 2 a6 (vI ((a7)))) (sp 3 [(165,.bool (cmp .eql ((a7)) (4)))] ?_));refine BX 165 rfl (fun h10=>?_) (fun h10=>?_)
   ·
    have i8:=h10;have i8:=BV i8;refine sp 1 [(166,vP p 0)] ?_;have E8:=LB m6 (p) (f3) (1) (2) (by omega);refine sS (sc (some 167) (F:=((bX a6 #[vI (1+(a8.getD (t) 0)),vI (h2),vI ((a7)),vI (↑a4),vI (0),vI (↑a9),.bool (false),vI (0)] 47)::(bX b5 #[vI (↑Pn),vI (↑Qn),vS b3 b7.length b4,vS a0 ks.length a1,vS a2 sl.length a3] 40)::(bX b1 #[vI (0),vI (0),vN,vN,vN] 40)::(hM++(yM++(a5++F))))) (E8 :) (PS _ _ _) (fun a6i a1l a5s j7 V0=>?_));obtain ⟨K4,u9,B4,z0⟩:=V0;rw [B4,z0];clear B4 z0;replace b0:=b0.mono j7;replace b2:=b2.mono j7;refine nm ?_;refine sp 2 [(169,vP a6 6),(168,.bool (u9))] (sS (ss 1 6 a6 [.bool (u9)] [vI (1+(a8.getD (t) 0)),vI (h2),vI ((a7)),vI (↑a4),vI (0),vI (↑a9),.bool (u9),vI (0)] (_::_::_::_::_) (cs:=[_,_,_,_,_,_,_,_]) rfl rfl (ee ?_)));exact AN (fun a w hS hD hW=>⟨a1l,u9,K4,j7,(fun hq=>by first | omega | cases hq),hS.sub (.cons 0 rfl (.cons 1 rfl (.cons 2 rfl (.cons 6 rfl (.cons 7 rfl (.cons 8 rfl (.cons 16 rfl (.cons 17 rfl (.cons 18 rfl (.cons 19 rfl (.nil _))))))))))),hD,hW.perm (PS _ _ _)⟩)
   have i8:=h10;have i8:=BU i8;refine sp 4 [(169,vP a6 6),(168,.bool (false))] (sS (ss 0 6 a6 [.bool (false)] [vI (1+(a8.getD (t) 0)),vI (h2),vI ((a7)),vI (↑a4),vI (0),vI (↑a9),.bool (false),vI (0)] (_::_::_::_::_) (cs:=[_,_,_,_,_,_,_,_]) rfl rfl (ee ?_)));exact AN (fun a w hS hD hW=>⟨m6,false,f3,(IR _),(fun hq=>by first | omega | cases hq),hS.sub (.cons 0 rfl (.cons 1 rfl (.cons 2 rfl (.cons 6 rfl (.cons 7 rfl (.cons 8 rfl (.cons 16 rfl (.cons 17 rfl (.cons 18 rfl (.cons 19 rfl (.nil _))))))))))),hD,hW⟩)
  rintro a w ⟨e5,so,K8,c1,g0,hS,hD,hW⟩
  refine AS hS hD hW ?_;clear hS hD hW a w;replace b0:=b0.mono c1;replace b2:=b2.mono c1;refine rq ?_;refine DE (fun a w=>∃ c4:Imm,∃ tn:Nat,∃ j2:Int,(e5.le c4)∧(((a7)=1→tn<Pn∧tn≠a4)∧((a7)≠1→tn=0))∧Slots 346 [(0,vP p 0),(1,vI (n1)),(2,vI (n2)),(6,vP b1 0),(7,vP b5 0),(8,vS e1 f5.length e2),(16,vI (h2)),(17,vS e7 a8.length e8),(18,vI (↑t)),(19,vP a6 0)] a∧a.defers=[]∧St c4 ((bX a6 #[vI (1+(a8.getD (t) 0)),vI (h2),vI ((a7)),vI (↑a4),vI (↑tn),vI (↑a9),.bool (so),vI (0)] 47)::(bX p #[.int .u64 (j2)] 71)::(bX b5 #[vI (↑Pn),vI (↑Qn),vS b3 b7.length b4,vS a0 ks.length a1,vS a2 sl.length a3] 40)::(bX b1 #[vI (0),vI (0),vN,vN,vN] 40)::(hM++(yM++(a5++F)))) w) ?_ ?_
  ·
   refine rqr (sp 1 [(170,vP a6 2)] (sd (dlb 171 0 2 a6 (vI ((a7)))) (sp 1 [(172,.bool (cmp .eql ((a7)) (1)))] (se (rc 172 rfl (fun D0=>?_) (fun D0=>?_))))))
   ·
    have P1:=D0;have D0:=BV D0;refine rq (rqr (sp 1 [(173,vP b5 0)] (sd (dlb 174 2 0 b5 (vI (↑Pn))) (sp 1 [(175,.bool (cmp .eql (↑Pn) (1)))] (se (rc 175 rfl (fun D1=>?_) (fun D1=>?_)))))))
    ·
     have P2:=D1;have D1:=BV D1;refine CE 7 ((EP (EP (EB (NX (rr (sp 1 [(90,vI (↑t))] (sd (da 91 (↑t) (1)) (sp 1 [(18,vI (↑t+1))] (ee ?_))))))))));refine AL (8-(t+1)) (by omega) ?_;intro a w hS hD hW;exact ⟨e5,t+1,h2,sl,hy,yM,K8,vS a2 sl.length a3,a5,(IT (IT (IT (IT (IT (IT (IT (IT (IT hJ3 c6) c7) c8) c9) d3) d4) d5) d6) c1),by omega,(by omega),m8.skip,by simpa only [LS] using p3,(by have d0:=k3.mono (B':=100+50*((t+1:Nat):Int)) (by omega);repeat' (first | exact d0 | refine RowsB.put ?_ ?_ | refine RowB.set ?_ ?_ | refine RowsB.row ?_ ?_ | omega | (simp only [LS];omega))),hye,c0,hS.sub (.consE 16 rfl rfl (.consE 18 rfl rfl (.cons 0 rfl (.cons 1 rfl (.cons 2 rfl (.cons 6 rfl (.cons 7 rfl (.cons 8 rfl (.cons 17 rfl (.nil _)))))))))),hD,(hW.perm (PR _)).sub (TC _ (TR _)),rfl⟩
    have P2:=D1;have D1:=BU D1;refine AO (NX ?_);refine rpm (PC _ ((PS _ _ _).trans (PC _ (PS _ _ _)))) ?_;refine rd 10 [(0,true),(1,true),(2,true),(3,true),(4,true),(5,true),(8,true),(9,true),(6,false),(7,true)] ((bX a6 #[vI (1+(a8.getD (t) 0)),vI (h2),vI ((a7)),vI (↑a4),vI (0),vI (↑a9),.bool (so),vI (0)] 47)::(bX b5 #[vI (↑Pn),vI (↑Qn),vS b3 b7.length b4,vS a0 ks.length a1,vS a2 sl.length a3] 40)::(bX b1 #[vI (0),vI (0),vN,vN,vN] 40)::[]) ((bX p #[.int .u64 (K8)] 71)::(hM++(yM++(a5++F)))) (ox 1 [(176,vP a6 3)] ?_);refine AF (dlb 177 0 3 a6 (vI (↑a4))) (ox 2 [(179,vP b5 0),(178,vP p 0)] ?_);refine AF (dlb 180 1 0 b5 (vI (↑Pn))) ?_;refine AF (dsb 181 (↑Pn) (1)) (ox 1 [(184,vP b5 0)] ?_);refine AF (dlb 185 1 0 b5 (vI (↑Pn))) ?_;have E9:=MN e5 (p) (K8) (1) (↑Pn-1) (by omega) (by omega);refine JY (sc (some 182) (F:=((bX a6 #[vI (1+(a8.getD (t) 0)),vI (h2),vI ((a7)),vI (↑a4),vI (0),vI (↑a9),.bool (so),vI (0)] 47)::(bX b5 #[vI (↑Pn),vI (↑Qn),vS b3 b7.length b4,vS a0 ks.length a1,vS a2 sl.length a3] 40)::(bX b1 #[vI (0),vI (0),vN,vN,vN] 40)::(hM++(yM++(a5++F))))) (E9 :) ((PC _ ((PC _ (PS _ _ _)).trans (PS _ _ _))).trans (PS _ _ _)) (fun a6j a1m a5t j8 V1=>?_));obtain ⟨g9,K5,B5,z1,a5g⟩:=V1;rw [B5,z1];clear B5 z1;replace b0:=b0.mono j8;replace b2:=b2.mono j8;refine FJ (S':=((bX p #[.int .u64 (g9)] 71)::(hM++(yM++(a5++F))))) (show List.Perm ((bX p #[.int .u64 (g9)] 71)::(bX a6 #[vI (1+(a8.getD (t) 0)),vI (h2),vI ((a7)),vI (↑a4),vI (0),vI (↑a9),.bool (so),vI (0)] 47)::(bX b5 #[vI (↑Pn),vI (↑Qn),vS b3 b7.length b4,vS a0 ks.length a1,vS a2 sl.length a3] 40)::(bX b1 #[vI (0),vI (0),vN,vN,vN] 40)::(hM++(yM++(a5++F)))) ((bX a6 #[vI (1+(a8.getD (t) 0)),vI (h2),vI ((a7)),vI (↑a4),vI (0),vI (↑a9),.bool (so),vI (0)] 47)::(bX b5 #[vI (↑Pn),vI (↑Qn),vS b3 b7.length b4,vS a0 ks.length a1,vS a2 sl.length a3] 40)::(bX b1 #[vI (0),vI (0),vN,vN,vN] 40)::(bX p #[.int .u64 (g9)] 71)::(hM++(yM++(a5++F)))) from ((PS _ _ _).trans (PC _ ((PS _ _ _).trans (PC _ (PS _ _ _)))))) ?_;show OFP _ _ _ _ _ _ ((182,vI ((K5)))::_) _ _;refine AF (da 183 (↑a4) ((K5))) ?_;refine KU (nm (nm ?_));have G0:=Foldx_ct a1m (↑a4+((K5))) (Pn) (by omega);refine sS (sc (some 186) (G0 :) (.refl _) (fun a6k a1n a5u j9 V2=>?_));obtain ⟨K6,B6,z2,C3⟩:=V2;rw [B6,z2];clear B6 z2;replace b0:=b0.mono j9;replace b2:=b2.mono j9;refine nm ?_;refine sp 1 [(187,vP a6 4)] (sS (ss 0 4 a6 [vI (↑K6)] [vI (1+(a8.getD (t) 0)),vI (h2),vI ((a7)),vI (↑a4),vI (↑K6),vI (↑a9),.bool (so),vI (0)] (_::_::_::_::_) (cs:=[_,_,_,_,_,_,_,_]) rfl rfl (ee ?_)));exact AN (fun a w hS hD hW=>⟨a1n,K6,g9,(IT j8 j9),⟨fun _=>⟨by have hq:=C3;omega,other_place (by omega) (by omega) (C3.2 (by omega))⟩,fun hq=>absurd (by omega) hq⟩,hS.sub (.cons 0 rfl (.cons 1 rfl (.cons 2 rfl (.cons 6 rfl (.cons 7 rfl (.cons 8 rfl (.cons 16 rfl (.cons 17 rfl (.cons 18 rfl (.cons 19 rfl (.nil _))))))))))),hD,hW.perm (PC _ ((PC _ (PS _ _ _)).trans (PS _ _ _)))⟩)
   have P1:=D0;have D0:=BU D0;refine AO ?_;exact AN (fun a w hS hD hW=>⟨e5,0,K8,(IR _),⟨fun hq=>absurd hq (by omega),fun _=>rfl⟩,hS.sub (.cons 0 rfl (.cons 1 rfl (.cons 2 rfl (.cons 6 rfl (.cons 7 rfl (.cons 8 rfl (.cons 16 rfl (.cons 17 rfl (.cons 18 rfl (.cons 19 rfl (.nil _))))))))))),hD,hW⟩)
  rintro a w ⟨c4,tn,j2,c2,k4,hS,hD,hW⟩
  refine AS hS hD hW ?_;clear hS hD hW a w;replace b0:=b0.mono c2;replace b2:=b2.mono c2;refine rqr (sp 1 [(188,vP a6 5)] (sd (dlb 189 0 5 a6 (vI (↑a9))) (sd (dmu 190 (2) (↑a9)) (DM 190 rfl (show (vI (2*↑a9):Value)=vI (↑(2*a9)) from congrArg (Value.int .i64) (by omega)) (sp 1 [(20,vI (↑(2*a9)))] (se (rq ?_)))))));refine DE (fun a w=>∃ ix:Nat,(ix<2*Qn∧((a7)=2→ix=2*a9)∧((a7)=3→ix=2*a9+1))∧Slots 346 [(0,vP p 0),(1,vI (n1)),(2,vI (n2)),(6,vP b1 0),(7,vP b5 0),(8,vS e1 f5.length e2),(16,vI (h2)),(17,vS e7 a8.length e8),(18,vI (↑t)),(19,vP a6 0),(20,vI ↑ix)] a∧a.defers=[]∧St c4 ((bX a6 #[vI (1+(a8.getD (t) 0)),vI (h2),vI ((a7)),vI (↑a4),vI (↑tn),vI (↑a9),.bool (so),vI (0)] 47)::(bX p #[.int .u64 (j2)] 71)::(bX b5 #[vI (↑Pn),vI (↑Qn),vS b3 b7.length b4,vS a0 ks.length a1,vS a2 sl.length a3] 40)::(bX b1 #[vI (0),vI (0),vN,vN,vN] 40)::(hM++(yM++(a5++F)))) w) ?_ ?_
  ·
   refine rq ?_;refine DE (fun a w=>Slots 346 [(0,vP p 0),(1,vI (n1)),(2,vI (n2)),(6,vP b1 0),(7,vP b5 0),(8,vS e1 f5.length e2),(16,vI (h2)),(17,vS e7 a8.length e8),(18,vI (↑t)),(19,vP a6 0),(20,vI (↑(2*a9))),(202,.bool ((so)||((cmp .eql ((a7)) (3))||(cmp .eql ((a7)) (6)))))] a∧a.defers=[]∧St c4 ((bX a6 #[vI (1+(a8.getD (t) 0)),vI (h2),vI ((a7)),vI (↑a4),vI (↑tn),vI (↑a9),.bool (so),vI (0)] 47)::(bX p #[.int .u64 (j2)] 71)::(bX b5 #[vI (↑Pn),vI (↑Qn),vS b3 b7.length b4,vS a0 ks.length a1,vS a2 sl.length a3] 40)::(bX b1 #[vI (0),vI (0),vN,vN,vN] 40)::(hM++(yM++(a5++F)))) w) ?_ ?_
   ·
    refine rr (sp 1 [(191,vP a6 6)] (sd (dlb 192 0 6 a6 (.bool (so))) (sp 1 [(193,.bool (so))] ?_)));refine BX 193 rfl (fun K9=>?_) (fun K9=>?_)
    ·
     have P3:=K9;refine sp 9 [(202,.bool (true))] (ee ?_);refine AN (fun a w hS hD hW=>⟨hS.sub (.cons 0 rfl (.cons 1 rfl (.cons 2 rfl (.cons 6 rfl (.cons 7 rfl (.cons 8 rfl (.cons 16 rfl (.cons 17 rfl (.cons 18 rfl (.cons 19 rfl (.cons 20 rfl (.consE 202 rfl (congrArg Value.bool (by simp only [K9,kA,kB,kC,kD,kE,kF,kG,kH,kI,kJ])) (.nil _))))))))))))),hD,hW⟩)
    have P3:=K9;refine sp 1 [(194,vP a6 2)] (sd (dlb 195 0 2 a6 (vI ((a7)))) (sp 3 [(198,.bool (cmp .eql ((a7)) (3)))] ?_));refine BX 198 rfl (fun P4=>?_) (fun P4=>?_)
    ·
     have i9:=P4;have i9:=BV i9;refine sp 4 [(202,.bool (true))] (ee ?_);refine AN (fun a w hS hD hW=>⟨hS.sub (.cons 0 rfl (.cons 1 rfl (.cons 2 rfl (.cons 6 rfl (.cons 7 rfl (.cons 8 rfl (.cons 16 rfl (.cons 17 rfl (.cons 18 rfl (.cons 19 rfl (.cons 20 rfl (.consE 202 rfl (congrArg Value.bool (by simp only [K9,P4,kA,kB,kC,kD,kE,kF,kG,kH,kI,kJ])) (.nil _))))))))))))),hD,hW⟩)
    have i9:=P4;have i9:=BU i9;refine sp 1 [(199,vP a6 2)] (sd (dlb 200 0 2 a6 (vI ((a7)))) (sp 2 [(202,.bool (cmp .eql ((a7)) (6)))] (ee ?_)));refine AN (fun a w hS hD hW=>⟨hS.sub (.cons 0 rfl (.cons 1 rfl (.cons 2 rfl (.cons 6 rfl (.cons 7 rfl (.cons 8 rfl (.cons 16 rfl (.cons 17 rfl (.cons 18 rfl (.cons 19 rfl (.cons 20 rfl (.consE 202 rfl (congrArg Value.bool (by simp only [K9,P4,kA,kB,kC,kD,kE,kF,kG,kH,kI,kJ])) (.nil _))))))))))))),hD,hW⟩)
   rintro a w ⟨hS,hD,hW⟩
   refine AS hS hD hW ?_;clear hS hD hW a w;refine rc 202 rfl (fun h15=>?_) (fun h15=>?_)
   ·
    have n6:=h15;refine rr (sp 1 [(203,vI (↑(2*a9)))] (sd (da 204 (↑(2*a9)) (1)) (DM 204 rfl (show (vI ((↑(2*a9))+1):Value)=vI (↑(2*a9+1)) from congrArg (Value.int .i64) (by omega)) (sp 1 [(20,vI (↑(2*a9+1)))] (ee ?_)))));exact AN (fun a w hS hD hW=>⟨(2*a9+1),(by have hz:=ix_yes n6 g0;refine ⟨by omega,fun hq=>?_,fun hq=>?_⟩ <;> omega),hS.sub (.cons 0 rfl (.cons 1 rfl (.cons 2 rfl (.cons 6 rfl (.cons 7 rfl (.cons 8 rfl (.cons 16 rfl (.cons 17 rfl (.cons 18 rfl (.cons 19 rfl (.consE 20 rfl rfl (.nil _)))))))))))),hD,hW⟩)
   have n6:=h15;obtain ⟨a3o,P5⟩:=or_f h15;obtain ⟨m4,m5⟩:=or_f P5;have m4:=BU m4;have m5:=BU m5;refine AO ?_;exact AN (fun a w hS hD hW=>⟨(2*a9),(by have hz:=ix_no n6;refine ⟨by omega,fun hq=>?_,fun hq=>?_⟩ <;> omega),hS.sub (.cons 0 rfl (.cons 1 rfl (.cons 2 rfl (.cons 6 rfl (.cons 7 rfl (.cons 8 rfl (.cons 16 rfl (.cons 17 rfl (.cons 18 rfl (.cons 19 rfl (.consE 20 rfl rfl (.nil _)))))))))))),hD,hW⟩)
  rintro a w ⟨ix,hix,hS,hD,hW⟩
  refine AS hS hD hW ?_;clear hS hD hW a w;refine rq ?_;obtain ⟨e6,c3,e4,M8,f4⟩:=OwnEach.pull hye (a4) (by omega);obtain ⟨Y8,Y9,b8,Z0⟩:=e4.shape;rw [b8] at e4;refine FL (M':=((e6++(c3++(bX a6 #[vI (1+(a8.getD (t) 0)),vI (h2),vI ((a7)),vI (↑a4),vI (↑tn),vI (↑a9),.bool (so),vI (0)] 47)::(bX p #[.int .u64 (j2)] 71)::(bX b5 #[vI (↑Pn),vI (↑Qn),vS b3 b7.length b4,vS a0 ks.length a1,vS a2 sl.length a3] 40)::(bX b1 #[vI (0),vI (0),vN,vN,vN] 40)::(hM++(a5++F)))))) (fun w h=>?_) ?_
  ·have h2:=h.perm (PU (PU (PU (PU (PO _ _ _)))));have h3:=St.permL (A':=e6++c3) (A:=yM) (by simpa only [AA,List.append_nil] using M8) (by simpa only [AA] using h2)
   simpa only [AA] using h3
  refine FL (M':=((bX a6 #[vI (1+(a8.getD (t) 0)),vI (h2),vI ((a7)),vI (↑a4),vI (↑tn),vI (↑a9),.bool (so),vI (0)] 47)::(bX p #[.int .u64 (j2)] 71)::(bX b5 #[vI (↑Pn),vI (↑Qn),vS b3 b7.length b4,vS a0 ks.length a1,vS a2 sl.length a3] 40)::(bX b1 #[vI (0),vI (0),vN,vN,vN] 40)::(e6++(c3++(hM++(a5++F)))))) (fun w h=>h.perm (((PA _ PM).trans PM).trans (PC _ (((PA _ PM).trans PM).trans (PC _ (((PA _ PM).trans PM).trans (PC _ ((PA _ PM).trans PM)))))))) ?_;have a7p:=k3.at (p:=a4) (i:=ix) (by omega) (by omega);refine rr (sp 2 [(206,vP a6 3),(205,vS e1 f5.length e2)] (sd (dlb 207 0 3 a6 (vI (↑a4))) ?_));obtain ⟨a3y,r3⟩:=m7.row undef;refine sd (di 208 1 (a4) r3.addr) (sd (EO (dl 209 (r3.get (a4) (by omega) 0 (by decide) _ _ (fun x hx=>by simp [hx]))) b8) (sp 1 [(210,vI (↑ix))] ?_));obtain ⟨a3z,r4⟩:=e4.row 0;refine sd (di 211 1 (ix) r4.addr) (sd (dl 212 (r4.get (ix) (by omega) 0 (by decide) _ _ (fun x hx=>by simp [hx]))) (sp 1 [(21,vI ((hy.getD (a4) []).getD (ix) 0))] (se (rq (rqr (sp 1 [(213,vP a6 2)] (sd (dlb 214 0 2 a6 (vI ((a7)))) (se (rb 8 (rqr (sp 2 [(299,.bool (cmp .eql ((a7)) (5)))] (se (rc 299 rfl (fun D2=>?_) (fun D2=>?_))))))))))))))
  ·
   have P6:=D2;have D2:=BV D2;refine rqr (sp 1 [(301,vP p 0)] ?_);have G1:=MN c4 (p) (j2) (1) (9) (by omega) (by omega);refine sS (sc (some 302) (F:=((bX a6 #[vI (1+(a8.getD (t) 0)),vI (h2),vI ((a7)),vI (↑a4),vI (↑tn),vI (↑a9),.bool (so),vI (0)] 47)::(bX b5 #[vI (↑Pn),vI (↑Qn),vS b3 b7.length b4,vS a0 ks.length a1,vS a2 sl.length a3] 40)::(bX b1 #[vI (0),vI (0),vN,vN,vN] 40)::(e6++(c3++(hM++(a5++F)))))) (G1 :) (PS _ _ _) (fun a6l a1o a5v k0 V3=>?_));obtain ⟨g5,f0,B7,z3,a5h⟩:=V3;rw [B7,z3];clear B7 z3;replace b0:=b0.mono k0;replace b2:=b2.mono k0;refine nm ?_;refine sp 1 [(303,vP a6 7)] (sS (ss 1 7 a6 [vI ((f0))] [vI (1+(a8.getD (t) 0)),vI (h2),vI ((a7)),vI (↑a4),vI (↑tn),vI (↑a9),.bool (so),vI ((f0))] (_::_::_::_::_) (cs:=[_,_,_,_,_,_,_,_]) rfl rfl (se ?_)));refine rd0 10 (ox 2 [(305,vP a6 3),(304,vS e1 f5.length e2)] ?_);refine AF (dlb 306 1 3 a6 (vI (↑a4))) ?_;obtain ⟨a4a,r5⟩:=m7.row undef;refine AF (di 307 1 (a4) r5.addr) ?_;refine AF (EO (dl 308 (r5.get (a4) (by omega) 0 (by decide) _ _ (fun x hx=>by simp [hx]))) b8) (ox 3 [(311,vP a6 7),(310,vI ((hy.getD (a4) []).getD (ix) 0)),(309,vI (↑ix))] ?_);refine AF (dlb 312 1 7 a6 (vI ((f0)))) ?_;refine AF (da 313 ((hy.getD (a4) []).getD (ix) 0) ((f0))) ?_;refine BF ?_;obtain ⟨a4b,r6⟩:=e4.row 0;refine sd (di 314 1 (ix) r6.addr) (sS (BE (T:=3) (x:=(.tmp 314)) (y:=(.tmp 313)) (rc:=fun i f=>AK ((hy.getD (a4) []).getD i 0) f) 0 (ix) 0 (((hy.getD (a4) []).getD (ix) 0)+((f0))) (ty:=0) (gd:=none) (by kernel_rfl) rfl e4 r6 (by omega) (by decide) rfl rfl (by kernel_rfl) rfl rfl (by intro f hf;match f,hf with | 0,_=>rfl) (PU (PU (PU (PM.symm)))) (fun v2 T2=>(pm (M':=((bX p #[.int .u64 (g5)] 71)::(bX a6 #[vI (1+(a8.getD (t) 0)),vI (h2),vI ((a7)),vI (↑a4),vI (↑tn),vI (↑a9),.bool (so),vI ((f0))] 47)::(bX b5 #[vI (↑Pn),vI (↑Qn),vS b3 b7.length b4,vS a0 ks.length a1,vS a2 sl.length a3] 40)::(bX b1 #[vI (0),vI (0),vN,vN,vN] 40)::(v2++(c3++(hM++(a5++F)))))) (PW (PW (PW PM))) (ee (NB (NX ?_)))))));obtain ⟨h0,o2,M9⟩:=f4 _ _ _ T2;have G5:=o2.same b8;refine FL (M':=((h0++(bX p #[.int .u64 (g5)] 71)::(bX a6 #[vI (1+(a8.getD (t) 0)),vI (h2),vI ((a7)),vI (↑a4),vI (↑tn),vI (↑a9),.bool (so),vI ((f0))] 47)::(bX b5 #[vI (↑Pn),vI (↑Qn),vS b3 b7.length b4,vS a0 ks.length a1,vS a2 sl.length a3] 40)::(bX b1 #[vI (0),vI (0),vN,vN,vN] 40)::(hM++(a5++F))))) (fun w h=>?_) ?_
   ·have h2:=h.perm ((PU (PU (PU (PM.symm)))).trans (PA _ (PU (PU (PU (PM.symm))))));simp only [← AA] at h2;have h3:=St.permL (A':=h0) (A:=v2++c3) (by simpa only [AA,List.append_nil] using M9.symm) (by simpa only [AA] using h2)
    simpa only [AA] using h3
   refine FL (M':=((bX p #[.int .u64 (g5)] 71)::(bX a6 #[vI (1+(a8.getD (t) 0)),vI (h2),vI ((a7)),vI (↑a4),vI (↑tn),vI (↑a9),.bool (so),vI ((f0))] 47)::(bX b5 #[vI (↑Pn),vI (↑Qn),vS b3 b7.length b4,vS a0 ks.length a1,vS a2 sl.length a3] 40)::(bX b1 #[vI (0),vI (0),vN,vN,vN] 40)::(h0++(hM++(a5++F))))) (fun w h=>h.perm (PW (PW (PW PM)))) (rr (sp 1 [(339,vP b5 4)] (sd (dlb 340 2 4 b5 (vS a2 sl.length a3)) (sd (dnb 341 1 0 a6 [vI (1+(a8.getD (t) 0)),vI (h2),vI ((a7)),vI (↑a4),vI (↑tn),vI (↑a9),.bool (so),vI ((f0))]) (sS (sbs 342 47 1 #[vI (1+(a8.getD (t) 0)),vI (h2),vI ((a7)),vI (↑a4),vI (↑tn),vI (↑a9),.bool (so),vI ((f0))] (fun a7a=>(sS (BH (d:=343) (x:=(.tmp 340)) (y:=(.tmp 342)) (T:=38) (T':=38) (E:=47) (E':=47) (sz:=8) (bs:=64) (z:=.agg #[vI (0),vI (0),vI (0),vI (0),vI (0),vI (0),.bool (false),vI (0)]) (cell:=BA) (xs:=sl) (ys:=[(⟨1+(a8.getD (t) 0),h2,(a7),↑a4,↑tn,↑a9,so,(f0)⟩:Slip)]) (Ms:=a5) (ty:=38) (gd:=none) (by kernel_rfl) rfl (by kernel_rfl) (by kernel_rfl) (by kernel_rfl) (by kernel_rfl) (by kernel_rfl) (by decide) (by kernel_rfl) rfl rfl (c0) (PU (PU (PU (PU (PU (PV (PO _ _ _))))))) (DZ _) (EJ 0 rfl rfl) (by first | omega | (simp only [LC,LN,LA,LK,LD];omega)) (fun a9b v3 z8=>(AX (M':=((bX p #[.int .u64 (g5)] 71)::(bX a6 #[vI (1+(a8.getD (t) 0)),vI (h2),vI ((a7)),vI (↑a4),vI (↑tn),vI (↑a9),.bool (so),vI ((f0))] 47)::(bX b5 #[vI (↑Pn),vI (↑Qn),vS b3 b7.length b4,vS a0 ks.length a1,vS a2 sl.length a3] 40)::(bX b1 #[vI (0),vI (0),vN,vN,vN] 40)::(v3++(h0++(hM++F))))) (fun w h=>(h.perm (PW (PW (PW (PW PM))))).sub (TC _ (TR _))) ?_)))))))))));obtain ⟨p6,q4,X2,a4v⟩:=z8.shape;subst X2;refine sp 1 [(344,vP b5 4)] (sS (ss 2 4 b5 [vS p6 (sl++([(⟨1+(a8.getD (t) 0),h2,(a7),↑a4,↑tn,↑a9,so,(f0)⟩:Slip)])).length q4] [vI (↑Pn),vI (↑Qn),vS b3 b7.length b4,vS a0 ks.length a1,vS p6 (sl++([(⟨1+(a8.getD (t) 0),h2,(a7),↑a4,↑tn,↑a9,so,(f0)⟩:Slip)])).length q4] (_::_::_::_::_) (cs:=[_,_,_,_,_]) rfl rfl (ee (NB (NX (rr (sp 1 [(90,vI (↑t))] (sd (da 91 (↑t) (1)) (sp 1 [(18,vI (↑t+1))] (ee ?_))))))))));refine AL (8-(t+1)) (by omega) ?_;intro a w hS hD hW;exact ⟨a1o,t+1,h2,sl++([(⟨1+(a8.getD (t) 0),h2,(a7),↑a4,↑tn,↑a9,so,(f0)⟩:Slip)]),hy.set (a4) ((hy.getD (a4) []).set (ix) (((hy.getD (a4) []).getD (ix) 0)+((f0)))),h0,g5,vS p6 (sl++([(⟨1+(a8.getD (t) 0),h2,(a7),↑a4,↑tn,↑a9,so,(f0)⟩:Slip)])).length q4,v3,(IT (IT (IT (IT (IT (IT (IT (IT (IT (IT (IT hJ3 c6) c7) c8) c9) d3) d4) d5) d6) c1) c2) k0),by omega,(by omega),m8.snoc (FT u6) (by omega) rfl (HE (by dsimp only;omega) (by dsimp only;omega) (by dsimp only;omega) (by dsimp only;omega) (fun hq=>by dsimp only at hq ⊢;have hz:=k4.1 hq;omega) (fun hq=>by dsimp only at hq ⊢;have hz:=k4.2 hq;omega) (by dsimp only;omega) g0 (by dsimp only;omega) (by dsimp only;omega)),by simpa only [LS] using p3,(by have d0:=k3.mono (B':=100+50*((t+1:Nat):Int)) (by omega);repeat' (first | exact d0 | refine RowsB.put ?_ ?_ | refine RowB.set ?_ ?_ | refine RowsB.row ?_ ?_ | omega | (simp only [LS];omega))),G5,z8,hS.sub (.consE 16 rfl rfl (.consE 18 rfl rfl (.cons 0 rfl (.cons 1 rfl (.cons 2 rfl (.cons 6 rfl (.cons 7 rfl (.cons 8 rfl (.cons 17 rfl (.nil _)))))))))),hD,(hW.perm ((PS _ _ _).trans (PC _ (PC _ (PC _ (PC _ ((PV (PO _ _ _)).trans (PA _ (PO _ _ _))))))))).sub (TC _ (TR _)),rfl⟩
  have P6:=D2;have D2:=BU D2;refine rqr (sp 2 [(315,.bool (cmp .eql ((a7)) (4)))] (se (rc 315 rfl (fun D3=>?_) (fun D3=>?_))))
  ·
   have P7:=D3;have D3:=BV D3;refine rq (rqr (sp 2 [(318,.bool (cmp .gtr ((hy.getD (a4) []).getD (ix) 0) (50)))] (se (rc 318 rfl (fun D4=>?_) (fun D4=>?_)))))
   ·
    have P8:=D4;have D4:=LR D4;refine CE 7 ((EP (KN (by decide) (EP (EB (NX (rr (sp 1 [(90,vI (↑t))] (sd (da 91 (↑t) (1)) (sp 1 [(18,vI (↑t+1))] (ee ?_)))))))))));obtain ⟨l8,o3,O0⟩:=f4 _ _ _ e4;have G6:=o3.same b8;refine KB (I':=c4) (M':=((l8++(bX a6 #[vI (1+(a8.getD (t) 0)),vI (h2),vI ((a7)),vI (↑a4),vI (↑tn),vI (↑a9),.bool (so),vI (0)] 47)::(bX p #[.int .u64 (j2)] 71)::(bX b5 #[vI (↑Pn),vI (↑Qn),vS b3 b7.length b4,vS a0 ks.length a1,vS a2 sl.length a3] 40)::(bX b1 #[vI (0),vI (0),vN,vN,vN] 40)::(hM++(a5++F))))) (fun w h=>?_) ?_
    ·have h2:=h.perm ((PU (PU (PU (PM.symm)))).trans (PA _ (PU (PU (PU (PM.symm))))));simp only [← AA] at h2;have h3:=St.permL (A':=l8) (A:=e6++c3) (by simpa only [AA,List.append_nil] using O0.symm) (by simpa only [AA] using h2)
     simpa only [AA] using h3
    refine ppm (M':=((bX a6 #[vI (1+(a8.getD (t) 0)),vI (h2),vI ((a7)),vI (↑a4),vI (↑tn),vI (↑a9),.bool (so),vI (0)] 47)::(bX p #[.int .u64 (j2)] 71)::(bX b5 #[vI (↑Pn),vI (↑Qn),vS b3 b7.length b4,vS a0 ks.length a1,vS a2 sl.length a3] 40)::(bX b1 #[vI (0),vI (0),vN,vN,vN] 40)::(l8++(hM++(a5++F))))) (PW (PW (PW PM))) ?_;refine AL (8-(t+1)) (by omega) ?_;intro a w hS hD hW;exact ⟨c4,t+1,h2,sl,hy.set (a4) (hy.getD (a4) []),l8,j2,vS a2 sl.length a3,a5,(IT (IT (IT (IT (IT (IT (IT (IT (IT (IT hJ3 c6) c7) c8) c9) d3) d4) d5) d6) c1) c2),by omega,(by omega),m8.skip,by simpa only [LS] using p3,(by have d0:=k3.mono (B':=100+50*((t+1:Nat):Int)) (by omega);repeat' (first | exact d0 | refine RowsB.put ?_ ?_ | refine RowB.set ?_ ?_ | refine RowsB.row ?_ ?_ | omega | (simp only [LS];omega))),G6,c0,hS.sub (.consE 16 rfl rfl (.consE 18 rfl rfl (.cons 0 rfl (.cons 1 rfl (.cons 2 rfl (.cons 6 rfl (.cons 7 rfl (.cons 8 rfl (.cons 17 rfl (.nil _)))))))))),hD,(hW.perm (PC _ (PC _ (PC _ (PC _ (PO _ _ _)))))).sub (TC _ (TR _)),rfl⟩
   have P8:=D4;have D4:=gtr_f D4;refine AO (NX (rqr (sp 2 [(320,vP a6 7),(319,vI ((hy.getD (a4) []).getD (ix) 0))] (sS (ss 0 7 a6 [vI ((hy.getD (a4) []).getD (ix) 0)] [vI (1+(a8.getD (t) 0)),vI (h2),vI ((a7)),vI (↑a4),vI (↑tn),vI (↑a9),.bool (so),vI ((hy.getD (a4) []).getD (ix) 0)] (_::_::_::_::_) (cs:=[_,_,_,_,_,_,_,_]) rfl rfl (se (rq (rqr (sp 2 [(322,vI (n2)),(321,vP p 0)] ?_)))))))));have G2:=LB c4 (p) (j2) (n2) (10) (by omega);refine sS (sc (some 323) (F:=((bX a6 #[vI (1+(a8.getD (t) 0)),vI (h2),vI ((a7)),vI (↑a4),vI (↑tn),vI (↑a9),.bool (so),vI ((hy.getD (a4) []).getD (ix) 0)] 47)::(bX b5 #[vI (↑Pn),vI (↑Qn),vS b3 b7.length b4,vS a0 ks.length a1,vS a2 sl.length a3] 40)::(bX b1 #[vI (0),vI (0),vN,vN,vN] 40)::(e6++(c3++(hM++(a5++F)))))) (G2 :) (PS _ _ _) (fun a6m M3 a5x g7 V4=>?_));obtain ⟨f8,a8h,B8,z4⟩:=V4;rw [B8,z4];clear B8 z4;replace b0:=b0.mono g7;replace b2:=b2.mono g7;refine nm (se ?_);refine rc 323 rfl (fun h19=>?_) (fun h19=>?_)
   ·
    have P9:=h19;refine rr (sp 2 [(325,vI ((hy.getD (a4) []).getD (ix) 0)),(324,vP p 0)] (sd (da 326 ((hy.getD (a4) []).getD (ix) 0) (3)) (sp 1 [(327,vI ((if (((hy.getD (a4) []).getD (ix) 0)+3:Int)<(50:Int) then ((hy.getD (a4) []).getD (ix) 0)+3 else 50)))] ?_)));have G3:=NP M3 (p) (f8) ((if (((hy.getD (a4) []).getD (ix) 0)+3:Int)<(50:Int) then ((hy.getD (a4) []).getD (ix) 0)+3 else 50)) (by omega);refine sS (sc (some 328) (F:=((bX a6 #[vI (1+(a8.getD (t) 0)),vI (h2),vI ((a7)),vI (↑a4),vI (↑tn),vI (↑a9),.bool (so),vI ((hy.getD (a4) []).getD (ix) 0)] 47)::(bX b5 #[vI (↑Pn),vI (↑Qn),vS b3 b7.length b4,vS a0 ks.length a1,vS a2 sl.length a3] 40)::(bX b1 #[vI (0),vI (0),vN,vN,vN] 40)::(e6++(c3++(hM++(a5++F)))))) (G3 :) (.refl _) (fun a6n a1p a5y k1 V5=>?_));obtain ⟨g6,f1,B9,z5,a5i⟩:=V5;rw [B9,z5];clear B9 z5;replace b0:=b0.mono k1;replace b2:=b2.mono k1;refine nm ?_;refine sp 1 [(329,vP a6 7)] (sS (ss 1 7 a6 [vI (↑f1)] [vI (1+(a8.getD (t) 0)),vI (h2),vI ((a7)),vI (↑a4),vI (↑tn),vI (↑a9),.bool (so),vI (↑f1)] (_::_::_::_::_) (cs:=[_,_,_,_,_,_,_,_]) rfl rfl (se ?_)));refine rd0 8 (ox 2 [(331,vP a6 3),(330,vS e1 f5.length e2)] ?_);refine AF (dlb 332 1 3 a6 (vI (↑a4))) ?_;obtain ⟨a4c,r7⟩:=m7.row undef;refine AF (di 333 1 (a4) r7.addr) ?_;refine AF (EO (dl 334 (r7.get (a4) (by omega) 0 (by decide) _ _ (fun x hx=>by simp [hx]))) b8) (ox 2 [(336,vP a6 7),(335,vI (↑ix))] ?_);refine AF (dlb 337 1 7 a6 (vI (↑f1))) ?_;refine BF ?_;obtain ⟨a4d,r8⟩:=e4.row 0;refine sd (di 338 1 (ix) r8.addr) (sS (BE (T:=3) (x:=(.tmp 338)) (y:=(.tmp 337)) (rc:=fun i f=>AK ((hy.getD (a4) []).getD i 0) f) 0 (ix) 0 (↑f1) (ty:=0) (gd:=none) (by kernel_rfl) rfl e4 r8 (by omega) (by decide) rfl rfl (by kernel_rfl) rfl rfl (by intro f hf;match f,hf with | 0,_=>rfl) (PU (PU (PU (PM.symm)))) (fun v4 T3=>(pm (M':=((bX p #[.int .u64 (g6)] 71)::(bX a6 #[vI (1+(a8.getD (t) 0)),vI (h2),vI ((a7)),vI (↑a4),vI (↑tn),vI (↑a9),.bool (so),vI (↑f1)] 47)::(bX b5 #[vI (↑Pn),vI (↑Qn),vS b3 b7.length b4,vS a0 ks.length a1,vS a2 sl.length a3] 40)::(bX b1 #[vI (0),vI (0),vN,vN,vN] 40)::(v4++(c3++(hM++(a5++F)))))) (PW (PW (PW PM))) (ee (NB (NX ?_)))))));obtain ⟨i0,o4,O1⟩:=f4 _ _ _ T3;have G7:=o4.same b8;refine FL (M':=((i0++(bX p #[.int .u64 (g6)] 71)::(bX a6 #[vI (1+(a8.getD (t) 0)),vI (h2),vI ((a7)),vI (↑a4),vI (↑tn),vI (↑a9),.bool (so),vI (↑f1)] 47)::(bX b5 #[vI (↑Pn),vI (↑Qn),vS b3 b7.length b4,vS a0 ks.length a1,vS a2 sl.length a3] 40)::(bX b1 #[vI (0),vI (0),vN,vN,vN] 40)::(hM++(a5++F))))) (fun w h=>?_) ?_
    ·have h2:=h.perm ((PU (PU (PU (PM.symm)))).trans (PA _ (PU (PU (PU (PM.symm))))));simp only [← AA] at h2;have h3:=St.permL (A':=i0) (A:=v4++c3) (by simpa only [AA,List.append_nil] using O1.symm) (by simpa only [AA] using h2)
     simpa only [AA] using h3
    refine FL (M':=((bX p #[.int .u64 (g6)] 71)::(bX a6 #[vI (1+(a8.getD (t) 0)),vI (h2),vI ((a7)),vI (↑a4),vI (↑tn),vI (↑a9),.bool (so),vI (↑f1)] 47)::(bX b5 #[vI (↑Pn),vI (↑Qn),vS b3 b7.length b4,vS a0 ks.length a1,vS a2 sl.length a3] 40)::(bX b1 #[vI (0),vI (0),vN,vN,vN] 40)::(i0++(hM++(a5++F))))) (fun w h=>h.perm (PW (PW (PW PM)))) (rr (sp 1 [(339,vP b5 4)] (sd (dlb 340 2 4 b5 (vS a2 sl.length a3)) (sd (dnb 341 1 0 a6 [vI (1+(a8.getD (t) 0)),vI (h2),vI ((a7)),vI (↑a4),vI (↑tn),vI (↑a9),.bool (so),vI (↑f1)]) (sS (sbs 342 47 1 #[vI (1+(a8.getD (t) 0)),vI (h2),vI ((a7)),vI (↑a4),vI (↑tn),vI (↑a9),.bool (so),vI (↑f1)] (fun a7b=>(sS (BH (d:=343) (x:=(.tmp 340)) (y:=(.tmp 342)) (T:=38) (T':=38) (E:=47) (E':=47) (sz:=8) (bs:=64) (z:=.agg #[vI (0),vI (0),vI (0),vI (0),vI (0),vI (0),.bool (false),vI (0)]) (cell:=BA) (xs:=sl) (ys:=[(⟨1+(a8.getD (t) 0),h2,(a7),↑a4,↑tn,↑a9,so,↑f1⟩:Slip)]) (Ms:=a5) (ty:=38) (gd:=none) (by kernel_rfl) rfl (by kernel_rfl) (by kernel_rfl) (by kernel_rfl) (by kernel_rfl) (by kernel_rfl) (by decide) (by kernel_rfl) rfl rfl (c0) (PU (PU (PU (PU (PU (PV (PO _ _ _))))))) (DZ _) (EJ 0 rfl rfl) (by first | omega | (simp only [LC,LN,LA,LK,LD];omega)) (fun a9c v5 z9=>(AX (M':=((bX p #[.int .u64 (g6)] 71)::(bX a6 #[vI (1+(a8.getD (t) 0)),vI (h2),vI ((a7)),vI (↑a4),vI (↑tn),vI (↑a9),.bool (so),vI (↑f1)] 47)::(bX b5 #[vI (↑Pn),vI (↑Qn),vS b3 b7.length b4,vS a0 ks.length a1,vS a2 sl.length a3] 40)::(bX b1 #[vI (0),vI (0),vN,vN,vN] 40)::(v5++(i0++(hM++F))))) (fun w h=>(h.perm (PW (PW (PW (PW PM))))).sub (TC _ (TR _))) ?_)))))))))));obtain ⟨p7,q5,X3,a4x⟩:=z9.shape;subst X3;refine sp 1 [(344,vP b5 4)] (sS (ss 2 4 b5 [vS p7 (sl++([(⟨1+(a8.getD (t) 0),h2,(a7),↑a4,↑tn,↑a9,so,↑f1⟩:Slip)])).length q5] [vI (↑Pn),vI (↑Qn),vS b3 b7.length b4,vS a0 ks.length a1,vS p7 (sl++([(⟨1+(a8.getD (t) 0),h2,(a7),↑a4,↑tn,↑a9,so,↑f1⟩:Slip)])).length q5] (_::_::_::_::_) (cs:=[_,_,_,_,_]) rfl rfl (ee (NB (NX (rr (sp 1 [(90,vI (↑t))] (sd (da 91 (↑t) (1)) (sp 1 [(18,vI (↑t+1))] (ee ?_))))))))));refine AL (8-(t+1)) (by omega) ?_;intro a w hS hD hW;exact ⟨a1p,t+1,h2,sl++([(⟨1+(a8.getD (t) 0),h2,(a7),↑a4,↑tn,↑a9,so,↑f1⟩:Slip)]),hy.set (a4) ((hy.getD (a4) []).set (ix) ↑f1),i0,g6,vS p7 (sl++([(⟨1+(a8.getD (t) 0),h2,(a7),↑a4,↑tn,↑a9,so,↑f1⟩:Slip)])).length q5,v5,(IT (IT (IT (IT (IT (IT (IT (IT (IT (IT (IT (IT hJ3 c6) c7) c8) c9) d3) d4) d5) d6) c1) c2) g7) k1),by omega,(by omega),m8.snoc (FT u6) (by omega) rfl (HE (by dsimp only;omega) (by dsimp only;omega) (by dsimp only;omega) (by dsimp only;omega) (fun hq=>by dsimp only at hq ⊢;have hz:=k4.1 hq;omega) (fun hq=>by dsimp only at hq ⊢;have hz:=k4.2 hq;omega) (by dsimp only;omega) g0 (by dsimp only;omega) (by dsimp only;omega)),by simpa only [LS] using p3,(by have d0:=k3.mono (B':=100+50*((t+1:Nat):Int)) (by omega);repeat' (first | exact d0 | refine RowsB.put ?_ ?_ | refine RowB.set ?_ ?_ | refine RowsB.row ?_ ?_ | omega | (simp only [LS];omega))),G7,z9,hS.sub (.consE 16 rfl rfl (.consE 18 rfl rfl (.cons 0 rfl (.cons 1 rfl (.cons 2 rfl (.cons 6 rfl (.cons 7 rfl (.cons 8 rfl (.cons 17 rfl (.nil _)))))))))),hD,(hW.perm ((PS _ _ _).trans (PC _ (PC _ (PC _ (PC _ ((PV (PO _ _ _)).trans (PA _ (PO _ _ _))))))))).sub (TC _ (TR _)),rfl⟩
   have P9:=h19;refine AO (NX ?_);refine rd0 8 (ox 2 [(331,vP a6 3),(330,vS e1 f5.length e2)] ?_);refine AF (dlb 332 1 3 a6 (vI (↑a4))) ?_;obtain ⟨a4e,s0⟩:=m7.row undef;refine AF (di 333 1 (a4) s0.addr) ?_;refine AF (EO (dl 334 (s0.get (a4) (by omega) 0 (by decide) _ _ (fun x hx=>by simp [hx]))) b8) (ox 2 [(336,vP a6 7),(335,vI (↑ix))] ?_);refine AF (dlb 337 1 7 a6 (vI ((hy.getD (a4) []).getD (ix) 0))) ?_;refine BF ?_;obtain ⟨a4f,s1⟩:=e4.row 0;refine sd (di 338 1 (ix) s1.addr) (sS (BE (T:=3) (x:=(.tmp 338)) (y:=(.tmp 337)) (rc:=fun i f=>AK ((hy.getD (a4) []).getD i 0) f) 0 (ix) 0 ((hy.getD (a4) []).getD (ix) 0) (ty:=0) (gd:=none) (by kernel_rfl) rfl e4 s1 (by omega) (by decide) rfl rfl (by kernel_rfl) rfl rfl (by intro f hf;match f,hf with | 0,_=>rfl) (PU (PU (PU (PM.symm)))) (fun v6 T4=>(pm (M':=((bX p #[.int .u64 (f8)] 71)::(bX a6 #[vI (1+(a8.getD (t) 0)),vI (h2),vI ((a7)),vI (↑a4),vI (↑tn),vI (↑a9),.bool (so),vI ((hy.getD (a4) []).getD (ix) 0)] 47)::(bX b5 #[vI (↑Pn),vI (↑Qn),vS b3 b7.length b4,vS a0 ks.length a1,vS a2 sl.length a3] 40)::(bX b1 #[vI (0),vI (0),vN,vN,vN] 40)::(v6++(c3++(hM++(a5++F)))))) (PW (PW (PW PM))) (ee (NB (NX ?_)))))));obtain ⟨i1,o5,O2⟩:=f4 _ _ _ T4;have G8:=o5.same b8;refine FL (M':=((i1++(bX p #[.int .u64 (f8)] 71)::(bX a6 #[vI (1+(a8.getD (t) 0)),vI (h2),vI ((a7)),vI (↑a4),vI (↑tn),vI (↑a9),.bool (so),vI ((hy.getD (a4) []).getD (ix) 0)] 47)::(bX b5 #[vI (↑Pn),vI (↑Qn),vS b3 b7.length b4,vS a0 ks.length a1,vS a2 sl.length a3] 40)::(bX b1 #[vI (0),vI (0),vN,vN,vN] 40)::(hM++(a5++F))))) (fun w h=>?_) ?_
   ·have h2:=h.perm ((PU (PU (PU (PM.symm)))).trans (PA _ (PU (PU (PU (PM.symm))))));simp only [← AA] at h2;have h3:=St.permL (A':=i1) (A:=v6++c3) (by simpa only [AA,List.append_nil] using O2.symm) (by simpa only [AA] using h2)
    simpa only [AA] using h3
   refine FL (M':=((bX p #[.int .u64 (f8)] 71)::(bX a6 #[vI (1+(a8.getD (t) 0)),vI (h2),vI ((a7)),vI (↑a4),vI (↑tn),vI (↑a9),.bool (so),vI ((hy.getD (a4) []).getD (ix) 0)] 47)::(bX b5 #[vI (↑Pn),vI (↑Qn),vS b3 b7.length b4,vS a0 ks.length a1,vS a2 sl.length a3] 40)::(bX b1 #[vI (0),vI (0),vN,vN,vN] 40)::(i1++(hM++(a5++F))))) (fun w h=>h.perm (PW (PW (PW PM)))) (rr (sp 1 [(339,vP b5 4)] (sd (dlb 340 2 4 b5 (vS a2 sl.length a3)) (sd (dnb 341 1 0 a6 [vI (1+(a8.getD (t) 0)),vI (h2),vI ((a7)),vI (↑a4),vI (↑tn),vI (↑a9),.bool (so),vI ((hy.getD (a4) []).getD (ix) 0)]) (sS (sbs 342 47 1 #[vI (1+(a8.getD (t) 0)),vI (h2),vI ((a7)),vI (↑a4),vI (↑tn),vI (↑a9),.bool (so),vI ((hy.getD (a4) []).getD (ix) 0)] (fun a7c=>(sS (BH (d:=343) (x:=(.tmp 340)) (y:=(.tmp 342)) (T:=38) (T':=38) (E:=47) (E':=47) (sz:=8) (bs:=64) (z:=.agg #[vI (0),vI (0),vI (0),vI (0),vI (0),vI (0),.bool (false),vI (0)]) (cell:=BA) (xs:=sl) (ys:=[(⟨1+(a8.getD (t) 0),h2,(a7),↑a4,↑tn,↑a9,so,(hy.getD (a4) []).getD (ix) 0⟩:Slip)]) (Ms:=a5) (ty:=38) (gd:=none) (by kernel_rfl) rfl (by kernel_rfl) (by kernel_rfl) (by kernel_rfl) (by kernel_rfl) (by kernel_rfl) (by decide) (by kernel_rfl) rfl rfl (c0) (PU (PU (PU (PU (PU (PV (PO _ _ _))))))) (DZ _) (EJ 0 rfl rfl) (by first | omega | (simp only [LC,LN,LA,LK,LD];omega)) (fun a9d v7 A0=>(AX (M':=((bX p #[.int .u64 (f8)] 71)::(bX a6 #[vI (1+(a8.getD (t) 0)),vI (h2),vI ((a7)),vI (↑a4),vI (↑tn),vI (↑a9),.bool (so),vI ((hy.getD (a4) []).getD (ix) 0)] 47)::(bX b5 #[vI (↑Pn),vI (↑Qn),vS b3 b7.length b4,vS a0 ks.length a1,vS a2 sl.length a3] 40)::(bX b1 #[vI (0),vI (0),vN,vN,vN] 40)::(v7++(i1++(hM++F))))) (fun w h=>(h.perm (PW (PW (PW (PW PM))))).sub (TC _ (TR _))) ?_)))))))))));obtain ⟨p8,q6,X4,a4y⟩:=A0.shape;subst X4;refine sp 1 [(344,vP b5 4)] (sS (ss 2 4 b5 [vS p8 (sl++([(⟨1+(a8.getD (t) 0),h2,(a7),↑a4,↑tn,↑a9,so,(hy.getD (a4) []).getD (ix) 0⟩:Slip)])).length q6] [vI (↑Pn),vI (↑Qn),vS b3 b7.length b4,vS a0 ks.length a1,vS p8 (sl++([(⟨1+(a8.getD (t) 0),h2,(a7),↑a4,↑tn,↑a9,so,(hy.getD (a4) []).getD (ix) 0⟩:Slip)])).length q6] (_::_::_::_::_) (cs:=[_,_,_,_,_]) rfl rfl (ee (NB (NX (rr (sp 1 [(90,vI (↑t))] (sd (da 91 (↑t) (1)) (sp 1 [(18,vI (↑t+1))] (ee ?_))))))))));refine AL (8-(t+1)) (by omega) ?_;intro a w hS hD hW;exact ⟨M3,t+1,h2,sl++([(⟨1+(a8.getD (t) 0),h2,(a7),↑a4,↑tn,↑a9,so,(hy.getD (a4) []).getD (ix) 0⟩:Slip)]),hy.set (a4) ((hy.getD (a4) []).set (ix) ((hy.getD (a4) []).getD (ix) 0)),i1,f8,vS p8 (sl++([(⟨1+(a8.getD (t) 0),h2,(a7),↑a4,↑tn,↑a9,so,(hy.getD (a4) []).getD (ix) 0⟩:Slip)])).length q6,v7,(IT (IT (IT (IT (IT (IT (IT (IT (IT (IT (IT hJ3 c6) c7) c8) c9) d3) d4) d5) d6) c1) c2) g7),by omega,(by omega),m8.snoc (FT u6) (by omega) rfl (HE (by dsimp only;omega) (by dsimp only;omega) (by dsimp only;omega) (by dsimp only;omega) (fun hq=>by dsimp only at hq ⊢;have hz:=k4.1 hq;omega) (fun hq=>by dsimp only at hq ⊢;have hz:=k4.2 hq;omega) (by dsimp only;omega) g0 (by dsimp only;omega) (by dsimp only;omega)),by simpa only [LS] using p3,(by have d0:=k3.mono (B':=100+50*((t+1:Nat):Int)) (by omega);repeat' (first | exact d0 | refine RowsB.put ?_ ?_ | refine RowB.set ?_ ?_ | refine RowsB.row ?_ ?_ | omega | (simp only [LS];omega))),G8,A0,hS.sub (.consE 16 rfl rfl (.consE 18 rfl rfl (.cons 0 rfl (.cons 1 rfl (.cons 2 rfl (.cons 6 rfl (.cons 7 rfl (.cons 8 rfl (.cons 17 rfl (.nil _)))))))))),hD,(hW.perm ((PS _ _ _).trans (PC _ (PC _ (PC _ (PC _ ((PV (PO _ _ _)).trans (PA _ (PO _ _ _))))))))).sub (TC _ (TR _)),rfl⟩
  have P7:=D3;have D3:=BU D3;refine rq (rqr (sp 2 [(216,.bool (cmp .eql ((hy.getD (a4) []).getD (ix) 0) (0)))] (se (rc 216 rfl (fun D5=>?_) (fun D5=>?_)))))
  ·
   have Q0:=D5;have D5:=BV D5;refine CE 7 ((EP (KN (by decide) (EP (EB (NX (rr (sp 1 [(90,vI (↑t))] (sd (da 91 (↑t) (1)) (sp 1 [(18,vI (↑t+1))] (ee ?_)))))))))));obtain ⟨l9,o6,O3⟩:=f4 _ _ _ e4;have G9:=o6.same b8;refine KB (I':=c4) (M':=((l9++(bX a6 #[vI (1+(a8.getD (t) 0)),vI (h2),vI ((a7)),vI (↑a4),vI (↑tn),vI (↑a9),.bool (so),vI (0)] 47)::(bX p #[.int .u64 (j2)] 71)::(bX b5 #[vI (↑Pn),vI (↑Qn),vS b3 b7.length b4,vS a0 ks.length a1,vS a2 sl.length a3] 40)::(bX b1 #[vI (0),vI (0),vN,vN,vN] 40)::(hM++(a5++F))))) (fun w h=>?_) ?_
   ·have h2:=h.perm ((PU (PU (PU (PM.symm)))).trans (PA _ (PU (PU (PU (PM.symm))))));simp only [← AA] at h2;have h3:=St.permL (A':=l9) (A:=e6++c3) (by simpa only [AA,List.append_nil] using O3.symm) (by simpa only [AA] using h2)
    simpa only [AA] using h3
   refine ppm (M':=((bX a6 #[vI (1+(a8.getD (t) 0)),vI (h2),vI ((a7)),vI (↑a4),vI (↑tn),vI (↑a9),.bool (so),vI (0)] 47)::(bX p #[.int .u64 (j2)] 71)::(bX b5 #[vI (↑Pn),vI (↑Qn),vS b3 b7.length b4,vS a0 ks.length a1,vS a2 sl.length a3] 40)::(bX b1 #[vI (0),vI (0),vN,vN,vN] 40)::(l9++(hM++(a5++F))))) (PW (PW (PW PM))) ?_;refine AL (8-(t+1)) (by omega) ?_;intro a w hS hD hW;exact ⟨c4,t+1,h2,sl,hy.set (a4) (hy.getD (a4) []),l9,j2,vS a2 sl.length a3,a5,(IT (IT (IT (IT (IT (IT (IT (IT (IT (IT hJ3 c6) c7) c8) c9) d3) d4) d5) d6) c1) c2),by omega,(by omega),m8.skip,by simpa only [LS] using p3,(by have d0:=k3.mono (B':=100+50*((t+1:Nat):Int)) (by omega);repeat' (first | exact d0 | refine RowsB.put ?_ ?_ | refine RowB.set ?_ ?_ | refine RowsB.row ?_ ?_ | omega | (simp only [LS];omega))),G9,c0,hS.sub (.consE 16 rfl rfl (.consE 18 rfl rfl (.cons 0 rfl (.cons 1 rfl (.cons 2 rfl (.cons 6 rfl (.cons 7 rfl (.cons 8 rfl (.cons 17 rfl (.nil _)))))))))),hD,(hW.perm (PC _ (PC _ (PC _ (PC _ (PO _ _ _)))))).sub (TC _ (TR _)),rfl⟩
  have Q0:=D5;have D5:=BU D5;refine AO (NX (rqr (sp 3 [(219,vI ((if ((hy.getD (a4) []).getD (ix) 0:Int)<(50:Int) then (hy.getD (a4) []).getD (ix) 0 else 50))),(217,vP p 0)] ?_)));have G4:=MN c4 (p) (j2) (1) ((if ((hy.getD (a4) []).getD (ix) 0:Int)<(50:Int) then (hy.getD (a4) []).getD (ix) 0 else 50)) (by omega) (by omega);refine sS (sc (some 220) (F:=((bX a6 #[vI (1+(a8.getD (t) 0)),vI (h2),vI ((a7)),vI (↑a4),vI (↑tn),vI (↑a9),.bool (so),vI (0)] 47)::(bX b5 #[vI (↑Pn),vI (↑Qn),vS b3 b7.length b4,vS a0 ks.length a1,vS a2 sl.length a3] 40)::(bX b1 #[vI (0),vI (0),vN,vN,vN] 40)::(e6++(c3++(hM++(a5++F)))))) (G4 :) (PS _ _ _) (fun a6o t8 a5z f6 V6=>?_));obtain ⟨b9,b6,C0,z6,a5j⟩:=V6;rw [C0,z6];clear C0 z6;replace b0:=b0.mono f6;replace b2:=b2.mono f6;refine nm ?_;refine sp 1 [(221,vP a6 7)] (sS (ss 1 7 a6 [vI ((b6))] [vI (1+(a8.getD (t) 0)),vI (h2),vI ((a7)),vI (↑a4),vI (↑tn),vI (↑a9),.bool (so),vI ((b6))] (_::_::_::_::_) (cs:=[_,_,_,_,_,_,_,_]) rfl rfl (se (rq ?_))));refine rd0 10 (ox 2 [(223,vP a6 3),(222,vS e1 f5.length e2)] ?_);refine AF (dlb 224 1 3 a6 (vI (↑a4))) ?_;obtain ⟨a4g,s2⟩:=m7.row undef;refine AF (di 225 1 (a4) s2.addr) ?_;refine AF (EO (dl 226 (s2.get (a4) (by omega) 0 (by decide) _ _ (fun x hx=>by simp [hx]))) b8) (ox 3 [(229,vP a6 7),(228,vI ((hy.getD (a4) []).getD (ix) 0)),(227,vI (↑ix))] ?_);refine AF (dlb 230 1 7 a6 (vI ((b6)))) ?_;refine AF (dsb 231 ((hy.getD (a4) []).getD (ix) 0) ((b6))) ?_;refine BF ?_;obtain ⟨a4h,s3⟩:=e4.row 0;refine sd (di 232 1 (ix) s3.addr) (sS (BE (T:=3) (x:=(.tmp 232)) (y:=(.tmp 231)) (rc:=fun i f=>AK ((hy.getD (a4) []).getD i 0) f) 0 (ix) 0 (((hy.getD (a4) []).getD (ix) 0)-((b6))) (ty:=0) (gd:=none) (by kernel_rfl) rfl e4 s3 (by omega) (by decide) rfl rfl (by kernel_rfl) rfl rfl (by intro f hf;match f,hf with | 0,_=>rfl) (PU (PU (PU (PM.symm)))) (fun n4 f9=>(pm (M':=((bX p #[.int .u64 (b9)] 71)::(bX a6 #[vI (1+(a8.getD (t) 0)),vI (h2),vI ((a7)),vI (↑a4),vI (↑tn),vI (↑a9),.bool (so),vI ((b6))] 47)::(bX b5 #[vI (↑Pn),vI (↑Qn),vS b3 b7.length b4,vS a0 ks.length a1,vS a2 sl.length a3] 40)::(bX b1 #[vI (0),vI (0),vN,vN,vN] 40)::(n4++(c3++(hM++(a5++F)))))) (PW (PW (PW PM))) (sn (sp 1 [(233,vP a6 2)] (sd (dlb 234 1 2 a6 (vI ((a7)))) (se (rb 9 (rqr (sp 2 [(235,.bool (cmp .eql ((a7)) (1)))] (se (rc 235 rfl (fun D6=>?_) (fun D6=>?_))))))))))))))
  ·
   have Q1:=D6;have D6:=BV D6;have a7r:=k4.1 (by omega);obtain ⟨m0,o7,O4⟩:=f4 _ _ _ f9;have J4:=o7.same b8;refine FL (M':=((m0++(bX p #[.int .u64 (b9)] 71)::(bX a6 #[vI (1+(a8.getD (t) 0)),vI (h2),vI ((a7)),vI (↑a4),vI (↑tn),vI (↑a9),.bool (so),vI ((b6))] 47)::(bX b5 #[vI (↑Pn),vI (↑Qn),vS b3 b7.length b4,vS a0 ks.length a1,vS a2 sl.length a3] 40)::(bX b1 #[vI (0),vI (0),vN,vN,vN] 40)::(hM++(a5++F))))) (fun w h=>?_) ?_
   ·have h2:=h.perm ((PU (PU (PU (PM.symm)))).trans (PA _ (PU (PU (PU (PM.symm))))));simp only [← AA] at h2;have h3:=St.permL (A':=m0) (A:=n4++c3) (by simpa only [AA,List.append_nil] using O4.symm) (by simpa only [AA] using h2)
    simpa only [AA] using h3
   refine FL (M':=((bX p #[.int .u64 (b9)] 71)::(bX a6 #[vI (1+(a8.getD (t) 0)),vI (h2),vI ((a7)),vI (↑a4),vI (↑tn),vI (↑a9),.bool (so),vI ((b6))] 47)::(bX b5 #[vI (↑Pn),vI (↑Qn),vS b3 b7.length b4,vS a0 ks.length a1,vS a2 sl.length a3] 40)::(bX b1 #[vI (0),vI (0),vN,vN,vN] 40)::(m0++(hM++(a5++F))))) (fun w h=>h.perm (PW (PW (PW PM)))) ?_;obtain ⟨j3,i6,i7,O5,M7⟩:=OwnEach.pull J4 (tn) (by simp only [LS];omega);obtain ⟨Z1,Z2,g1,Z3⟩:=i7.shape;rw [g1] at i7;refine FL (M':=((j3++(i6++(bX p #[.int .u64 (b9)] 71)::(bX a6 #[vI (1+(a8.getD (t) 0)),vI (h2),vI ((a7)),vI (↑a4),vI (↑tn),vI (↑a9),.bool (so),vI ((b6))] 47)::(bX b5 #[vI (↑Pn),vI (↑Qn),vS b3 b7.length b4,vS a0 ks.length a1,vS a2 sl.length a3] 40)::(bX b1 #[vI (0),vI (0),vN,vN,vN] 40)::(hM++(a5++F)))))) (fun w h=>?_) ?_
   ·have h2:=h.perm (PU (PU (PU (PM.symm))));have h3:=St.permL (A':=j3++i6) (A:=m0) (by simpa only [AA,List.append_nil] using O5) (by simpa only [AA] using h2)
    simpa only [AA] using h3
   refine FL (M':=((bX p #[.int .u64 (b9)] 71)::(bX a6 #[vI (1+(a8.getD (t) 0)),vI (h2),vI ((a7)),vI (↑a4),vI (↑tn),vI (↑a9),.bool (so),vI ((b6))] 47)::(bX b5 #[vI (↑Pn),vI (↑Qn),vS b3 b7.length b4,vS a0 ks.length a1,vS a2 sl.length a3] 40)::(bX b1 #[vI (0),vI (0),vN,vN,vN] 40)::(j3++(i6++(hM++(a5++F)))))) (fun w h=>h.perm (((PA _ PM).trans PM).trans (PC _ (((PA _ PM).trans PM).trans (PC _ (((PA _ PM).trans PM).trans (PC _ ((PA _ PM).trans PM)))))))) ?_;have A5:=RowB.at (B:=100+50*t) (n:=2*Qn) (r:=(hy.set (a4) ((hy.getD (a4) []).set (ix) (((hy.getD (a4) []).getD (ix) 0)-((b6))))).getD (tn) []) (i:=ix) (by have d0:=k3.mono (B':=100+50*(t:Int)) (by omega);repeat' (first | exact d0 | refine RowsB.put ?_ ?_ | refine RowB.set ?_ ?_ | refine RowsB.row ?_ ?_ | omega | (simp only [LS];omega))) (by omega);refine rd0 17 (ox 2 [(238,vP a6 4),(237,vS e1 f5.length e2)] ?_);refine AF (dlb 239 1 4 a6 (vI (↑tn))) ?_;obtain ⟨a4i,s4⟩:=m7.row undef;refine AF (di 240 1 (tn) s4.addr) ?_;refine AF (EO (dl 241 (s4.get (tn) (by omega) 0 (by decide) _ _ (fun x hx=>by simp [hx]))) g1) (ox 3 [(244,vP a6 4),(243,vS e1 f5.length e2),(242,vI (↑ix))] ?_);refine AF (dlb 245 1 4 a6 (vI (↑tn))) ?_;obtain ⟨a4j,s5⟩:=m7.row undef;refine AF (di 246 1 (tn) s5.addr) ?_;refine AF (EO (dl 247 (s5.get (tn) (by omega) 0 (by decide) _ _ (fun x hx=>by simp [hx]))) g1) (ox 1 [(248,vI (↑ix))] ?_);obtain ⟨a4k,s6⟩:=i7.row 0;refine AF (di 249 1 (ix) s6.addr) ?_;refine AF (dl 250 (s6.get (ix) (by omega) 0 (by decide) _ _ (fun x hx=>by simp [hx]))) (ox 1 [(251,vP a6 7)] ?_);refine AF (dlb 252 1 7 a6 (vI ((b6)))) ?_;refine AF (da 253 (((hy.set (a4) ((hy.getD (a4) []).set (ix) (((hy.getD (a4) []).getD (ix) 0)-((b6))))).getD (tn) []).getD (ix) 0) ((b6))) ?_;refine BF ?_;obtain ⟨a4l,s7⟩:=i7.row 0;refine sd (di 254 1 (ix) s7.addr) (sS (BE (T:=3) (x:=(.tmp 254)) (y:=(.tmp 253)) (rc:=fun i f=>AK (((hy.set (a4) ((hy.getD (a4) []).set (ix) (((hy.getD (a4) []).getD (ix) 0)-((b6))))).getD (tn) []).getD i 0) f) 0 (ix) 0 ((((hy.set (a4) ((hy.getD (a4) []).set (ix) (((hy.getD (a4) []).getD (ix) 0)-((b6))))).getD (tn) []).getD (ix) 0)+((b6))) (ty:=0) (gd:=none) (by kernel_rfl) rfl i7 s7 (by omega) (by decide) rfl rfl (by kernel_rfl) rfl rfl (by intro f hf;match f,hf with | 0,_=>rfl) (PU (PU (PU (PM.symm)))) (fun v8 T5=>(pm (M':=((bX p #[.int .u64 (b9)] 71)::(bX a6 #[vI (1+(a8.getD (t) 0)),vI (h2),vI ((a7)),vI (↑a4),vI (↑tn),vI (↑a9),.bool (so),vI ((b6))] 47)::(bX b5 #[vI (↑Pn),vI (↑Qn),vS b3 b7.length b4,vS a0 ks.length a1,vS a2 sl.length a3] 40)::(bX b1 #[vI (0),vI (0),vN,vN,vN] 40)::(v8++(i6++(hM++(a5++F)))))) (PW (PW (PW PM))) (ee (NB (NB (NX ?_))))))));obtain ⟨i2,o8,O6⟩:=M7 _ _ _ T5;have J5:=o8.same g1;refine FL (M':=((i2++(bX p #[.int .u64 (b9)] 71)::(bX a6 #[vI (1+(a8.getD (t) 0)),vI (h2),vI ((a7)),vI (↑a4),vI (↑tn),vI (↑a9),.bool (so),vI ((b6))] 47)::(bX b5 #[vI (↑Pn),vI (↑Qn),vS b3 b7.length b4,vS a0 ks.length a1,vS a2 sl.length a3] 40)::(bX b1 #[vI (0),vI (0),vN,vN,vN] 40)::(hM++(a5++F))))) (fun w h=>?_) ?_
   ·have h2:=h.perm ((PU (PU (PU (PM.symm)))).trans (PA _ (PU (PU (PU (PM.symm))))));simp only [← AA] at h2;have h3:=St.permL (A':=i2) (A:=v8++i6) (by simpa only [AA,List.append_nil] using O6.symm) (by simpa only [AA] using h2)
    simpa only [AA] using h3
   refine FL (M':=((bX p #[.int .u64 (b9)] 71)::(bX a6 #[vI (1+(a8.getD (t) 0)),vI (h2),vI ((a7)),vI (↑a4),vI (↑tn),vI (↑a9),.bool (so),vI ((b6))] 47)::(bX b5 #[vI (↑Pn),vI (↑Qn),vS b3 b7.length b4,vS a0 ks.length a1,vS a2 sl.length a3] 40)::(bX b1 #[vI (0),vI (0),vN,vN,vN] 40)::(i2++(hM++(a5++F))))) (fun w h=>h.perm (PW (PW (PW PM)))) (rr (sp 1 [(339,vP b5 4)] (sd (dlb 340 2 4 b5 (vS a2 sl.length a3)) (sd (dnb 341 1 0 a6 [vI (1+(a8.getD (t) 0)),vI (h2),vI ((a7)),vI (↑a4),vI (↑tn),vI (↑a9),.bool (so),vI ((b6))]) (sS (sbs 342 47 1 #[vI (1+(a8.getD (t) 0)),vI (h2),vI ((a7)),vI (↑a4),vI (↑tn),vI (↑a9),.bool (so),vI ((b6))] (fun a7d=>(sS (BH (d:=343) (x:=(.tmp 340)) (y:=(.tmp 342)) (T:=38) (T':=38) (E:=47) (E':=47) (sz:=8) (bs:=64) (z:=.agg #[vI (0),vI (0),vI (0),vI (0),vI (0),vI (0),.bool (false),vI (0)]) (cell:=BA) (xs:=sl) (ys:=[(⟨1+(a8.getD (t) 0),h2,(a7),↑a4,↑tn,↑a9,so,(b6)⟩:Slip)]) (Ms:=a5) (ty:=38) (gd:=none) (by kernel_rfl) rfl (by kernel_rfl) (by kernel_rfl) (by kernel_rfl) (by kernel_rfl) (by kernel_rfl) (by decide) (by kernel_rfl) rfl rfl (c0) (PU (PU (PU (PU (PU (PV (PO _ _ _))))))) (DZ _) (EJ 0 rfl rfl) (by first | omega | (simp only [LC,LN,LA,LK,LD];omega)) (fun a9e v9 A1=>(AX (M':=((bX p #[.int .u64 (b9)] 71)::(bX a6 #[vI (1+(a8.getD (t) 0)),vI (h2),vI ((a7)),vI (↑a4),vI (↑tn),vI (↑a9),.bool (so),vI ((b6))] 47)::(bX b5 #[vI (↑Pn),vI (↑Qn),vS b3 b7.length b4,vS a0 ks.length a1,vS a2 sl.length a3] 40)::(bX b1 #[vI (0),vI (0),vN,vN,vN] 40)::(v9++(i2++(hM++F))))) (fun w h=>(h.perm (PW (PW (PW (PW PM))))).sub (TC _ (TR _))) ?_)))))))))));obtain ⟨p9,q7,X5,a4z⟩:=A1.shape;subst X5;refine sp 1 [(344,vP b5 4)] (sS (ss 2 4 b5 [vS p9 (sl++([(⟨1+(a8.getD (t) 0),h2,(a7),↑a4,↑tn,↑a9,so,(b6)⟩:Slip)])).length q7] [vI (↑Pn),vI (↑Qn),vS b3 b7.length b4,vS a0 ks.length a1,vS p9 (sl++([(⟨1+(a8.getD (t) 0),h2,(a7),↑a4,↑tn,↑a9,so,(b6)⟩:Slip)])).length q7] (_::_::_::_::_) (cs:=[_,_,_,_,_]) rfl rfl (ee (NB (NX (rr (sp 1 [(90,vI (↑t))] (sd (da 91 (↑t) (1)) (sp 1 [(18,vI (↑t+1))] (ee ?_))))))))));refine AL (8-(t+1)) (by omega) ?_;intro a w hS hD hW;exact ⟨t8,t+1,h2,sl++([(⟨1+(a8.getD (t) 0),h2,(a7),↑a4,↑tn,↑a9,so,(b6)⟩:Slip)]),(hy.set (a4) ((hy.getD (a4) []).set (ix) (((hy.getD (a4) []).getD (ix) 0)-((b6))))).set (tn) (((hy.set (a4) ((hy.getD (a4) []).set (ix) (((hy.getD (a4) []).getD (ix) 0)-((b6))))).getD (tn) []).set (ix) ((((hy.set (a4) ((hy.getD (a4) []).set (ix) (((hy.getD (a4) []).getD (ix) 0)-((b6))))).getD (tn) []).getD (ix) 0)+((b6)))),i2,b9,vS p9 (sl++([(⟨1+(a8.getD (t) 0),h2,(a7),↑a4,↑tn,↑a9,so,(b6)⟩:Slip)])).length q7,v9,(IT (IT (IT (IT (IT (IT (IT (IT (IT (IT (IT hJ3 c6) c7) c8) c9) d3) d4) d5) d6) c1) c2) f6),by omega,(by omega),m8.snoc (FT u6) (by omega) rfl (HE (by dsimp only;omega) (by dsimp only;omega) (by dsimp only;omega) (by dsimp only;omega) (fun hq=>by dsimp only at hq ⊢;have hz:=k4.1 hq;omega) (fun hq=>by dsimp only at hq ⊢;have hz:=k4.2 hq;omega) (by dsimp only;omega) g0 (by dsimp only;omega) (by dsimp only;omega)),by simpa only [LS] using p3,(by have d0:=k3.mono (B':=100+50*((t+1:Nat):Int)) (by omega);repeat' (first | exact d0 | refine RowsB.put ?_ ?_ | refine RowB.set ?_ ?_ | refine RowsB.row ?_ ?_ | omega | (simp only [LS];omega))),J5,A1,hS.sub (.consE 16 rfl rfl (.consE 18 rfl rfl (.cons 0 rfl (.cons 1 rfl (.cons 2 rfl (.cons 6 rfl (.cons 7 rfl (.cons 8 rfl (.cons 17 rfl (.nil _)))))))))),hD,(hW.perm ((PS _ _ _).trans (PC _ (PC _ (PC _ (PC _ ((PV (PO _ _ _)).trans (PA _ (PO _ _ _))))))))).sub (TC _ (TR _)),rfl⟩
  have Q1:=D6;have D6:=BU D6;refine rqr (sp 2 [(255,.bool (cmp .eql ((a7)) (2)))] (se (rc 255 rfl (fun D7=>?_) (fun D7=>?_))))
  ·
   have Q2:=D7;have D7:=BV D7;have a2q:=hix.2.1 (by omega);have A5:=RowB.at (B:=100+50*t) (n:=2*Qn) (r:=(hy.getD (a4) []).set (ix) (((hy.getD (a4) []).getD (ix) 0)-((b6)))) (i:=ix+1) (by have d0:=k3.mono (B':=100+50*(t:Int)) (by omega);repeat' (first | exact d0 | refine RowsB.put ?_ ?_ | refine RowB.set ?_ ?_ | refine RowsB.row ?_ ?_ | omega | (simp only [LS];omega))) (by omega);refine rd0 19 (ox 2 [(258,vP a6 3),(257,vS e1 f5.length e2)] ?_);refine AF (dlb 259 1 3 a6 (vI (↑a4))) ?_;obtain ⟨a4m,s8⟩:=m7.row undef;refine AF (di 260 1 (a4) s8.addr) ?_;refine AF (EO (dl 261 (s8.get (a4) (by omega) 0 (by decide) _ _ (fun x hx=>by simp [hx]))) b8) (ox 1 [(262,vI (↑ix))] ?_);refine AF (da 263 (↑ix) (1)) (ox 2 [(265,vP a6 3),(264,vS e1 f5.length e2)] ?_);refine AF (dlb 266 1 3 a6 (vI (↑a4))) ?_;obtain ⟨a4n,s9⟩:=m7.row undef;refine AF (di 267 1 (a4) s9.addr) ?_;refine AF (EO (dl 268 (s9.get (a4) (by omega) 0 (by decide) _ _ (fun x hx=>by simp [hx]))) b8) (ox 1 [(269,vI (↑ix))] ?_);refine AF (da 270 (↑ix) (1)) ?_;obtain ⟨a4o,k7⟩:=f9.row 0;simp only [LS] at k7;refine AF (di 271 1 (ix+1) (fun _=>k7.addr (by omega)) (n:=(hy.getD (a4) []).length)) ?_;refine AF (dl 272 (k7.get (ix+1) (by omega) 0 (by decide) _ _ (fun x hx=>by simp [hx]))) (ox 1 [(273,vP a6 7)] ?_);refine AF (dlb 274 1 7 a6 (vI ((b6)))) ?_;refine AF (da 275 (((hy.getD (a4) []).set (ix) (((hy.getD (a4) []).getD (ix) 0)-((b6)))).getD (ix+1) 0) ((b6))) ?_;refine BF ?_;obtain ⟨a4p,k8⟩:=f9.row 0;simp only [LS] at k8;refine sd (di 276 1 (ix+1) (fun _=>k8.addr (by omega)) (n:=(hy.getD (a4) []).length)) (sS (BE (T:=3) (x:=(.tmp 276)) (y:=(.tmp 275)) (rc:=fun i f=>AK (((hy.getD (a4) []).set (ix) (((hy.getD (a4) []).getD (ix) 0)-((b6)))).getD i 0) f) 0 (ix+1) 0 ((((hy.getD (a4) []).set (ix) (((hy.getD (a4) []).getD (ix) 0)-((b6)))).getD (ix+1) 0)+((b6))) (ty:=0) (gd:=none) (by kernel_rfl) rfl f9 (by simpa only [LS] using k8) (by simp only [LS];omega) (by decide) rfl rfl (by kernel_rfl) rfl rfl (by intro f hf;match f,hf with | 0,_=>rfl) (PU (PU (PU (PM.symm)))) (fun x0 T6=>(pm (M':=((bX p #[.int .u64 (b9)] 71)::(bX a6 #[vI (1+(a8.getD (t) 0)),vI (h2),vI ((a7)),vI (↑a4),vI (↑tn),vI (↑a9),.bool (so),vI ((b6))] 47)::(bX b5 #[vI (↑Pn),vI (↑Qn),vS b3 b7.length b4,vS a0 ks.length a1,vS a2 sl.length a3] 40)::(bX b1 #[vI (0),vI (0),vN,vN,vN] 40)::(x0++(c3++(hM++(a5++F)))))) (PW (PW (PW PM))) (ee (NB (NB (NX ?_))))))));obtain ⟨i3,o9,O7⟩:=f4 _ _ _ T6;have J6:=o9.same b8;refine FL (M':=((i3++(bX p #[.int .u64 (b9)] 71)::(bX a6 #[vI (1+(a8.getD (t) 0)),vI (h2),vI ((a7)),vI (↑a4),vI (↑tn),vI (↑a9),.bool (so),vI ((b6))] 47)::(bX b5 #[vI (↑Pn),vI (↑Qn),vS b3 b7.length b4,vS a0 ks.length a1,vS a2 sl.length a3] 40)::(bX b1 #[vI (0),vI (0),vN,vN,vN] 40)::(hM++(a5++F))))) (fun w h=>?_) ?_
   ·have h2:=h.perm ((PU (PU (PU (PM.symm)))).trans (PA _ (PU (PU (PU (PM.symm))))));simp only [← AA] at h2;have h3:=St.permL (A':=i3) (A:=x0++c3) (by simpa only [AA,List.append_nil] using O7.symm) (by simpa only [AA] using h2)
    simpa only [AA] using h3
   refine FL (M':=((bX p #[.int .u64 (b9)] 71)::(bX a6 #[vI (1+(a8.getD (t) 0)),vI (h2),vI ((a7)),vI (↑a4),vI (↑tn),vI (↑a9),.bool (so),vI ((b6))] 47)::(bX b5 #[vI (↑Pn),vI (↑Qn),vS b3 b7.length b4,vS a0 ks.length a1,vS a2 sl.length a3] 40)::(bX b1 #[vI (0),vI (0),vN,vN,vN] 40)::(i3++(hM++(a5++F))))) (fun w h=>h.perm (PW (PW (PW PM)))) (rr (sp 1 [(339,vP b5 4)] (sd (dlb 340 2 4 b5 (vS a2 sl.length a3)) (sd (dnb 341 1 0 a6 [vI (1+(a8.getD (t) 0)),vI (h2),vI ((a7)),vI (↑a4),vI (↑tn),vI (↑a9),.bool (so),vI ((b6))]) (sS (sbs 342 47 1 #[vI (1+(a8.getD (t) 0)),vI (h2),vI ((a7)),vI (↑a4),vI (↑tn),vI (↑a9),.bool (so),vI ((b6))] (fun a7e=>(sS (BH (d:=343) (x:=(.tmp 340)) (y:=(.tmp 342)) (T:=38) (T':=38) (E:=47) (E':=47) (sz:=8) (bs:=64) (z:=.agg #[vI (0),vI (0),vI (0),vI (0),vI (0),vI (0),.bool (false),vI (0)]) (cell:=BA) (xs:=sl) (ys:=[(⟨1+(a8.getD (t) 0),h2,(a7),↑a4,↑tn,↑a9,so,(b6)⟩:Slip)]) (Ms:=a5) (ty:=38) (gd:=none) (by kernel_rfl) rfl (by kernel_rfl) (by kernel_rfl) (by kernel_rfl) (by kernel_rfl) (by kernel_rfl) (by decide) (by kernel_rfl) rfl rfl (c0) (PU (PU (PU (PU (PU (PV (PO _ _ _))))))) (DZ _) (EJ 0 rfl rfl) (by first | omega | (simp only [LC,LN,LA,LK,LD];omega)) (fun a9f x1 A2=>(AX (M':=((bX p #[.int .u64 (b9)] 71)::(bX a6 #[vI (1+(a8.getD (t) 0)),vI (h2),vI ((a7)),vI (↑a4),vI (↑tn),vI (↑a9),.bool (so),vI ((b6))] 47)::(bX b5 #[vI (↑Pn),vI (↑Qn),vS b3 b7.length b4,vS a0 ks.length a1,vS a2 sl.length a3] 40)::(bX b1 #[vI (0),vI (0),vN,vN,vN] 40)::(x1++(i3++(hM++F))))) (fun w h=>(h.perm (PW (PW (PW (PW PM))))).sub (TC _ (TR _))) ?_)))))))))));obtain ⟨q0,q8,X6,a5a⟩:=A2.shape;subst X6;refine sp 1 [(344,vP b5 4)] (sS (ss 2 4 b5 [vS q0 (sl++([(⟨1+(a8.getD (t) 0),h2,(a7),↑a4,↑tn,↑a9,so,(b6)⟩:Slip)])).length q8] [vI (↑Pn),vI (↑Qn),vS b3 b7.length b4,vS a0 ks.length a1,vS q0 (sl++([(⟨1+(a8.getD (t) 0),h2,(a7),↑a4,↑tn,↑a9,so,(b6)⟩:Slip)])).length q8] (_::_::_::_::_) (cs:=[_,_,_,_,_]) rfl rfl (ee (NB (NX (rr (sp 1 [(90,vI (↑t))] (sd (da 91 (↑t) (1)) (sp 1 [(18,vI (↑t+1))] (ee ?_))))))))));refine AL (8-(t+1)) (by omega) ?_;intro a w hS hD hW;exact ⟨t8,t+1,h2,sl++([(⟨1+(a8.getD (t) 0),h2,(a7),↑a4,↑tn,↑a9,so,(b6)⟩:Slip)]),hy.set (a4) (((hy.getD (a4) []).set (ix) (((hy.getD (a4) []).getD (ix) 0)-((b6)))).set (ix+1) ((((hy.getD (a4) []).set (ix) (((hy.getD (a4) []).getD (ix) 0)-((b6)))).getD (ix+1) 0)+((b6)))),i3,b9,vS q0 (sl++([(⟨1+(a8.getD (t) 0),h2,(a7),↑a4,↑tn,↑a9,so,(b6)⟩:Slip)])).length q8,x1,(IT (IT (IT (IT (IT (IT (IT (IT (IT (IT (IT hJ3 c6) c7) c8) c9) d3) d4) d5) d6) c1) c2) f6),by omega,(by omega),m8.snoc (FT u6) (by omega) rfl (HE (by dsimp only;omega) (by dsimp only;omega) (by dsimp only;omega) (by dsimp only;omega) (fun hq=>by dsimp only at hq ⊢;have hz:=k4.1 hq;omega) (fun hq=>by dsimp only at hq ⊢;have hz:=k4.2 hq;omega) (by dsimp only;omega) g0 (by dsimp only;omega) (by dsimp only;omega)),by simpa only [LS] using p3,(by have d0:=k3.mono (B':=100+50*((t+1:Nat):Int)) (by omega);repeat' (first | exact d0 | refine RowsB.put ?_ ?_ | refine RowB.set ?_ ?_ | refine RowsB.row ?_ ?_ | omega | (simp only [LS];omega))),J6,A2,hS.sub (.consE 16 rfl rfl (.consE 18 rfl rfl (.cons 0 rfl (.cons 1 rfl (.cons 2 rfl (.cons 6 rfl (.cons 7 rfl (.cons 8 rfl (.cons 17 rfl (.nil _)))))))))),hD,(hW.perm ((PS _ _ _).trans (PC _ (PC _ (PC _ (PC _ ((PV (PO _ _ _)).trans (PA _ (PO _ _ _))))))))).sub (TC _ (TR _)),rfl⟩
  have Q2:=D7;have D7:=BU D7;refine rqr (sp 2 [(277,.bool (cmp .eql ((a7)) (3)))] (se (rc 277 rfl (fun D8=>?_) (fun D8=>?_))))
  ·
   have Q3:=D8;have D8:=BV D8;have a2q:=hix.2.2 (by omega);have A5:=RowB.at (B:=100+50*t) (n:=2*Qn) (r:=(hy.getD (a4) []).set (ix) (((hy.getD (a4) []).getD (ix) 0)-((b6)))) (i:=(↑ix-1:Int).toNat) (by have d0:=k3.mono (B':=100+50*(t:Int)) (by omega);repeat' (first | exact d0 | refine RowsB.put ?_ ?_ | refine RowB.set ?_ ?_ | refine RowsB.row ?_ ?_ | omega | (simp only [LS];omega))) (by omega);refine rd0 19 (ox 2 [(280,vP a6 3),(279,vS e1 f5.length e2)] ?_);refine AF (dlb 281 1 3 a6 (vI (↑a4))) ?_;obtain ⟨a4q,t0⟩:=m7.row undef;refine AF (di 282 1 (a4) t0.addr) ?_;refine AF (EO (dl 283 (t0.get (a4) (by omega) 0 (by decide) _ _ (fun x hx=>by simp [hx]))) b8) (ox 1 [(284,vI (↑ix))] ?_);refine AF (dsb 285 (↑ix) (1)) (ox 2 [(287,vP a6 3),(286,vS e1 f5.length e2)] ?_);refine AF (dlb 288 1 3 a6 (vI (↑a4))) ?_;obtain ⟨a4r,t1⟩:=m7.row undef;refine AF (di 289 1 (a4) t1.addr) ?_;refine AF (EO (dl 290 (t1.get (a4) (by omega) 0 (by decide) _ _ (fun x hx=>by simp [hx]))) b8) (ox 1 [(291,vI (↑ix))] ?_);refine AF (dsb 292 (↑ix) (1)) ?_;obtain ⟨a4s,k9⟩:=f9.row 0;simp only [LS] at k9;refine AF (diI 293 1 (↑ix-1) (fun _=>k9.addr (by omega)) (n:=(hy.getD (a4) []).length)) ?_;refine AF (dl 294 (k9.get ((↑ix-1:Int).toNat) (by omega) 0 (by decide) _ _ (fun x hx=>by simp [hx]))) (ox 1 [(295,vP a6 7)] ?_);refine AF (dlb 296 1 7 a6 (vI ((b6)))) ?_;refine AF (da 297 (((hy.getD (a4) []).set (ix) (((hy.getD (a4) []).getD (ix) 0)-((b6)))).getD ((↑ix-1:Int).toNat) 0) ((b6))) ?_;refine BF ?_;obtain ⟨a4t,l0⟩:=f9.row 0;simp only [LS] at l0;refine sd (diI 298 1 (↑ix-1) (fun _=>l0.addr (by omega)) (n:=(hy.getD (a4) []).length)) (sS (BE (T:=3) (x:=(.tmp 298)) (y:=(.tmp 297)) (rc:=fun i f=>AK (((hy.getD (a4) []).set (ix) (((hy.getD (a4) []).getD (ix) 0)-((b6)))).getD i 0) f) 0 ((↑ix-1:Int).toNat) 0 ((((hy.getD (a4) []).set (ix) (((hy.getD (a4) []).getD (ix) 0)-((b6)))).getD ((↑ix-1:Int).toNat) 0)+((b6))) (ty:=0) (gd:=none) (by kernel_rfl) rfl f9 (by simpa only [LS] using l0) (by simp only [LS];omega) (by decide) rfl rfl (by kernel_rfl) rfl rfl (by intro f hf;match f,hf with | 0,_=>rfl) (PU (PU (PU (PM.symm)))) (fun x2 T7=>(pm (M':=((bX p #[.int .u64 (b9)] 71)::(bX a6 #[vI (1+(a8.getD (t) 0)),vI (h2),vI ((a7)),vI (↑a4),vI (↑tn),vI (↑a9),.bool (so),vI ((b6))] 47)::(bX b5 #[vI (↑Pn),vI (↑Qn),vS b3 b7.length b4,vS a0 ks.length a1,vS a2 sl.length a3] 40)::(bX b1 #[vI (0),vI (0),vN,vN,vN] 40)::(x2++(c3++(hM++(a5++F)))))) (PW (PW (PW PM))) (ee (NB (NB (NX ?_))))))));obtain ⟨i4,p0,O8⟩:=f4 _ _ _ T7;have J7:=p0.same b8;refine FL (M':=((i4++(bX p #[.int .u64 (b9)] 71)::(bX a6 #[vI (1+(a8.getD (t) 0)),vI (h2),vI ((a7)),vI (↑a4),vI (↑tn),vI (↑a9),.bool (so),vI ((b6))] 47)::(bX b5 #[vI (↑Pn),vI (↑Qn),vS b3 b7.length b4,vS a0 ks.length a1,vS a2 sl.length a3] 40)::(bX b1 #[vI (0),vI (0),vN,vN,vN] 40)::(hM++(a5++F))))) (fun w h=>?_) ?_
   ·have h2:=h.perm ((PU (PU (PU (PM.symm)))).trans (PA _ (PU (PU (PU (PM.symm))))));simp only [← AA] at h2;have h3:=St.permL (A':=i4) (A:=x2++c3) (by simpa only [AA,List.append_nil] using O8.symm) (by simpa only [AA] using h2)
    simpa only [AA] using h3
   refine FL (M':=((bX p #[.int .u64 (b9)] 71)::(bX a6 #[vI (1+(a8.getD (t) 0)),vI (h2),vI ((a7)),vI (↑a4),vI (↑tn),vI (↑a9),.bool (so),vI ((b6))] 47)::(bX b5 #[vI (↑Pn),vI (↑Qn),vS b3 b7.length b4,vS a0 ks.length a1,vS a2 sl.length a3] 40)::(bX b1 #[vI (0),vI (0),vN,vN,vN] 40)::(i4++(hM++(a5++F))))) (fun w h=>h.perm (PW (PW (PW PM)))) (rr (sp 1 [(339,vP b5 4)] (sd (dlb 340 2 4 b5 (vS a2 sl.length a3)) (sd (dnb 341 1 0 a6 [vI (1+(a8.getD (t) 0)),vI (h2),vI ((a7)),vI (↑a4),vI (↑tn),vI (↑a9),.bool (so),vI ((b6))]) (sS (sbs 342 47 1 #[vI (1+(a8.getD (t) 0)),vI (h2),vI ((a7)),vI (↑a4),vI (↑tn),vI (↑a9),.bool (so),vI ((b6))] (fun a7f=>(sS (BH (d:=343) (x:=(.tmp 340)) (y:=(.tmp 342)) (T:=38) (T':=38) (E:=47) (E':=47) (sz:=8) (bs:=64) (z:=.agg #[vI (0),vI (0),vI (0),vI (0),vI (0),vI (0),.bool (false),vI (0)]) (cell:=BA) (xs:=sl) (ys:=[(⟨1+(a8.getD (t) 0),h2,(a7),↑a4,↑tn,↑a9,so,(b6)⟩:Slip)]) (Ms:=a5) (ty:=38) (gd:=none) (by kernel_rfl) rfl (by kernel_rfl) (by kernel_rfl) (by kernel_rfl) (by kernel_rfl) (by kernel_rfl) (by decide) (by kernel_rfl) rfl rfl (c0) (PU (PU (PU (PU (PU (PV (PO _ _ _))))))) (DZ _) (EJ 0 rfl rfl) (by first | omega | (simp only [LC,LN,LA,LK,LD];omega)) (fun a9g x3 A3=>(AX (M':=((bX p #[.int .u64 (b9)] 71)::(bX a6 #[vI (1+(a8.getD (t) 0)),vI (h2),vI ((a7)),vI (↑a4),vI (↑tn),vI (↑a9),.bool (so),vI ((b6))] 47)::(bX b5 #[vI (↑Pn),vI (↑Qn),vS b3 b7.length b4,vS a0 ks.length a1,vS a2 sl.length a3] 40)::(bX b1 #[vI (0),vI (0),vN,vN,vN] 40)::(x3++(i4++(hM++F))))) (fun w h=>(h.perm (PW (PW (PW (PW PM))))).sub (TC _ (TR _))) ?_)))))))))));obtain ⟨q1,q9,X7,a5b⟩:=A3.shape;subst X7;refine sp 1 [(344,vP b5 4)] (sS (ss 2 4 b5 [vS q1 (sl++([(⟨1+(a8.getD (t) 0),h2,(a7),↑a4,↑tn,↑a9,so,(b6)⟩:Slip)])).length q9] [vI (↑Pn),vI (↑Qn),vS b3 b7.length b4,vS a0 ks.length a1,vS q1 (sl++([(⟨1+(a8.getD (t) 0),h2,(a7),↑a4,↑tn,↑a9,so,(b6)⟩:Slip)])).length q9] (_::_::_::_::_) (cs:=[_,_,_,_,_]) rfl rfl (ee (NB (NX (rr (sp 1 [(90,vI (↑t))] (sd (da 91 (↑t) (1)) (sp 1 [(18,vI (↑t+1))] (ee ?_))))))))));refine AL (8-(t+1)) (by omega) ?_;intro a w hS hD hW;exact ⟨t8,t+1,h2,sl++([(⟨1+(a8.getD (t) 0),h2,(a7),↑a4,↑tn,↑a9,so,(b6)⟩:Slip)]),hy.set (a4) (((hy.getD (a4) []).set (ix) (((hy.getD (a4) []).getD (ix) 0)-((b6)))).set ((↑ix-1:Int).toNat) ((((hy.getD (a4) []).set (ix) (((hy.getD (a4) []).getD (ix) 0)-((b6)))).getD ((↑ix-1:Int).toNat) 0)+((b6)))),i4,b9,vS q1 (sl++([(⟨1+(a8.getD (t) 0),h2,(a7),↑a4,↑tn,↑a9,so,(b6)⟩:Slip)])).length q9,x3,(IT (IT (IT (IT (IT (IT (IT (IT (IT (IT (IT hJ3 c6) c7) c8) c9) d3) d4) d5) d6) c1) c2) f6),by omega,(by omega),m8.snoc (FT u6) (by omega) rfl (HE (by dsimp only;omega) (by dsimp only;omega) (by dsimp only;omega) (by dsimp only;omega) (fun hq=>by dsimp only at hq ⊢;have hz:=k4.1 hq;omega) (fun hq=>by dsimp only at hq ⊢;have hz:=k4.2 hq;omega) (by dsimp only;omega) g0 (by dsimp only;omega) (by dsimp only;omega)),by simpa only [LS] using p3,(by have d0:=k3.mono (B':=100+50*((t+1:Nat):Int)) (by omega);repeat' (first | exact d0 | refine RowsB.put ?_ ?_ | refine RowB.set ?_ ?_ | refine RowsB.row ?_ ?_ | omega | (simp only [LS];omega))),J7,A3,hS.sub (.consE 16 rfl rfl (.consE 18 rfl rfl (.cons 0 rfl (.cons 1 rfl (.cons 2 rfl (.cons 6 rfl (.cons 7 rfl (.cons 8 rfl (.cons 17 rfl (.nil _)))))))))),hD,(hW.perm ((PS _ _ _).trans (PC _ (PC _ (PC _ (PC _ ((PV (PO _ _ _)).trans (PA _ (PO _ _ _))))))))).sub (TC _ (TR _)),rfl⟩
  have Q3:=D8;have D8:=BU D8;refine AO (NB (NB (NX ?_)));obtain ⟨i5,p1,O9⟩:=f4 _ _ _ f9;have J8:=p1.same b8;refine FL (M':=((i5++(bX p #[.int .u64 (b9)] 71)::(bX a6 #[vI (1+(a8.getD (t) 0)),vI (h2),vI ((a7)),vI (↑a4),vI (↑tn),vI (↑a9),.bool (so),vI ((b6))] 47)::(bX b5 #[vI (↑Pn),vI (↑Qn),vS b3 b7.length b4,vS a0 ks.length a1,vS a2 sl.length a3] 40)::(bX b1 #[vI (0),vI (0),vN,vN,vN] 40)::(hM++(a5++F))))) (fun w h=>?_) ?_
  ·have h2:=h.perm ((PU (PU (PU (PM.symm)))).trans (PA _ (PU (PU (PU (PM.symm))))));simp only [← AA] at h2;have h3:=St.permL (A':=i5) (A:=n4++c3) (by simpa only [AA,List.append_nil] using O9.symm) (by simpa only [AA] using h2)
   simpa only [AA] using h3
  refine FL (M':=((bX p #[.int .u64 (b9)] 71)::(bX a6 #[vI (1+(a8.getD (t) 0)),vI (h2),vI ((a7)),vI (↑a4),vI (↑tn),vI (↑a9),.bool (so),vI ((b6))] 47)::(bX b5 #[vI (↑Pn),vI (↑Qn),vS b3 b7.length b4,vS a0 ks.length a1,vS a2 sl.length a3] 40)::(bX b1 #[vI (0),vI (0),vN,vN,vN] 40)::(i5++(hM++(a5++F))))) (fun w h=>h.perm (PW (PW (PW PM)))) (rr (sp 1 [(339,vP b5 4)] (sd (dlb 340 2 4 b5 (vS a2 sl.length a3)) (sd (dnb 341 1 0 a6 [vI (1+(a8.getD (t) 0)),vI (h2),vI ((a7)),vI (↑a4),vI (↑tn),vI (↑a9),.bool (so),vI ((b6))]) (sS (sbs 342 47 1 #[vI (1+(a8.getD (t) 0)),vI (h2),vI ((a7)),vI (↑a4),vI (↑tn),vI (↑a9),.bool (so),vI ((b6))] (fun a7g=>(sS (BH (d:=343) (x:=(.tmp 340)) (y:=(.tmp 342)) (T:=38) (T':=38) (E:=47) (E':=47) (sz:=8) (bs:=64) (z:=.agg #[vI (0),vI (0),vI (0),vI (0),vI (0),vI (0),.bool (false),vI (0)]) (cell:=BA) (xs:=sl) (ys:=[(⟨1+(a8.getD (t) 0),h2,(a7),↑a4,↑tn,↑a9,so,(b6)⟩:Slip)]) (Ms:=a5) (ty:=38) (gd:=none) (by kernel_rfl) rfl (by kernel_rfl) (by kernel_rfl) (by kernel_rfl) (by kernel_rfl) (by kernel_rfl) (by decide) (by kernel_rfl) rfl rfl (c0) (PU (PU (PU (PU (PU (PV (PO _ _ _))))))) (DZ _) (EJ 0 rfl rfl) (by first | omega | (simp only [LC,LN,LA,LK,LD];omega)) (fun a9h x4 A4=>(AX (M':=((bX p #[.int .u64 (b9)] 71)::(bX a6 #[vI (1+(a8.getD (t) 0)),vI (h2),vI ((a7)),vI (↑a4),vI (↑tn),vI (↑a9),.bool (so),vI ((b6))] 47)::(bX b5 #[vI (↑Pn),vI (↑Qn),vS b3 b7.length b4,vS a0 ks.length a1,vS a2 sl.length a3] 40)::(bX b1 #[vI (0),vI (0),vN,vN,vN] 40)::(x4++(i5++(hM++F))))) (fun w h=>(h.perm (PW (PW (PW (PW PM))))).sub (TC _ (TR _))) ?_)))))))))));obtain ⟨q2,r0,X8,a5c⟩:=A4.shape;subst X8;refine sp 1 [(344,vP b5 4)] (sS (ss 2 4 b5 [vS q2 (sl++([(⟨1+(a8.getD (t) 0),h2,(a7),↑a4,↑tn,↑a9,so,(b6)⟩:Slip)])).length r0] [vI (↑Pn),vI (↑Qn),vS b3 b7.length b4,vS a0 ks.length a1,vS q2 (sl++([(⟨1+(a8.getD (t) 0),h2,(a7),↑a4,↑tn,↑a9,so,(b6)⟩:Slip)])).length r0] (_::_::_::_::_) (cs:=[_,_,_,_,_]) rfl rfl (ee (NB (NX (rr (sp 1 [(90,vI (↑t))] (sd (da 91 (↑t) (1)) (sp 1 [(18,vI (↑t+1))] (ee ?_))))))))));refine AL (8-(t+1)) (by omega) ?_;intro a w hS hD hW;exact ⟨t8,t+1,h2,sl++([(⟨1+(a8.getD (t) 0),h2,(a7),↑a4,↑tn,↑a9,so,(b6)⟩:Slip)]),hy.set (a4) ((hy.getD (a4) []).set (ix) (((hy.getD (a4) []).getD (ix) 0)-((b6)))),i5,b9,vS q2 (sl++([(⟨1+(a8.getD (t) 0),h2,(a7),↑a4,↑tn,↑a9,so,(b6)⟩:Slip)])).length r0,x4,(IT (IT (IT (IT (IT (IT (IT (IT (IT (IT (IT hJ3 c6) c7) c8) c9) d3) d4) d5) d6) c1) c2) f6),by omega,(by omega),m8.snoc (FT u6) (by omega) rfl (HE (by dsimp only;omega) (by dsimp only;omega) (by dsimp only;omega) (by dsimp only;omega) (fun hq=>by dsimp only at hq ⊢;have hz:=k4.1 hq;omega) (fun hq=>by dsimp only at hq ⊢;have hz:=k4.2 hq;omega) (by dsimp only;omega) g0 (by dsimp only;omega) (by dsimp only;omega)),by simpa only [LS] using p3,(by have d0:=k3.mono (B':=100+50*((t+1:Nat):Int)) (by omega);repeat' (first | exact d0 | refine RowsB.put ?_ ?_ | refine RowB.set ?_ ?_ | refine RowsB.row ?_ ?_ | omega | (simp only [LS];omega))),J8,A4,hS.sub (.consE 16 rfl rfl (.consE 18 rfl rfl (.cons 0 rfl (.cons 1 rfl (.cons 2 rfl (.cons 6 rfl (.cons 7 rfl (.cons 8 rfl (.cons 17 rfl (.nil _)))))))))),hD,(hW.perm ((PS _ _ _).trans (PC _ (PC _ (PC _ (PC _ ((PV (PO _ _ _)).trans (PA _ (PO _ _ _))))))))).sub (TC _ (TR _)),rfl⟩
 have a2l:=h4;have h4:=DB h4;refine CE 6 ((EP (EP (EB (NX (rq ?_))))));refine GM (B:=((bX p #[.int .u64 (M6)] 71)::(bX b5 #[vI (↑Pn),vI (↑Qn),vS b3 b7.length b4,vS a0 ks.length a1,vS a2 sl.length a3] 40)::(bX b1 #[vI (0),vI (0),vN,vN,vN] 40)::(hM++(yM++F)))) AB c0 (by first | omega | (simp only [LS,LC,LN,LA,LK,LD] <;> omega) | decide) (PU (PU (PU (PV (PO _ _ _))))) (PR _) (fun a6t k2 m3=>?_);replace b0:=b0.mono k2;replace b2:=b2.mono k2;obtain ⟨a0x,a0z,a0y,a1c,u5,a1a,a1b,a1d⟩:=id m3;cases u5;refine rr (sd (dnb 345 1 0 b5 [vI (↑Pn),vI (↑Qn),vS b3 b7.length b4,vS a0 ks.length a1,vS a2 sl.length a3]) (sS (ss 2 0 b1 [vI (↑Pn),vI (↑Qn),vS b3 b7.length b4,vS a0 ks.length a1,vS a2 sl.length a3] [vI (↑Pn),vI (↑Qn),vS b3 b7.length b4,vS a0 ks.length a1,vS a2 sl.length a3] (_::_::_::_) (cs:=[_,_,_,_,_]) rfl rfl (se (BQ (GK (t:=6) (T:=40) (n:=5) ([(bX p #[.int .u64 (M6)] 71)]) (by kernel_rfl) rfl (by kernel_rfl) rfl (CJ (n:=5) (cs:=#[vI (↑Pn),vI (↑Qn),vS b3 b7.length b4,vS a0 ks.length a1,vS a2 sl.length a3]) (b:=b1) (off:=0) (T:=40) (fz:=(0,0)) (vs:=[vI (↑Pn),vI (↑Qn),vS b3 b7.length b4,vS a0 ks.length a1,vS a2 sl.length a3]) (by simp) rfl) (.inl ⟨by kernel_rfl,rfl⟩) (TK _ (TC _ (TC _ (TT (TT (TR _) (TB _ _)) (TB _ _))))) (IT (IT (IT (IT (IT (IT (IT (IT (IT (IT (IT a2r R1) hJ0) R3) x7) x8) hJ2) p2) j4) j5) hJ3) k2) ?_))))));exact ⟨_,⟨Pn,Qn,sx,ks,sl⟩,_,rfl,rfl,drawn_book (r:=↑f7) (dl:=a8) (i:=t) (by omega) (by omega) rfl (by omega) (hrs.mono (by omega)) (by omega) (by omega) hks m8 ht,(HC b0 b2 m3)⟩
end Go.Proofs.Ytgcemienebmdeaa
namespace Go.Sh
open Go Go.Sl
def HG (so:Int):Hs→Int
  | []=>0
  | x::r=>(if x.1.so=so then x.2 else 0)+HG so r
section
variable {so:Int} {H H':Hs} {k:HKey} {v d:Int}
theorem sumK_append:HG so (H++H')=HG so H+HG so H':=by
  induction H with
  | nil=>simp [HG]
  | cons x r ih=>simp only [List.cons_append,HG,ih];omega
theorem sumK_perm (h:H.Perm H'):HG so H=HG so H':=by
  induction h with
  | nil=>rfl
  | cons x _ ih=>simp only [HG,ih]
  | swap x y l=>simp only [HG];omega
  | trans _ _ h1 h2=>exact h1.trans h2
theorem sumK_put:HG so (GV k v H)=HG so H+(if k.so=so then v-CG k H else 0):=by
  induction H with
  | nil=>simp only [GV,HG,CG];split <;> omega
  | cons x r ih=>
    simp only [GV,CG]
    by_cases e:x.1=k
    · rw [if_pos e,if_pos e];simp only [HG];rw [e];split <;> omega
    · rw [if_neg e,if_neg e];simp only [HG];rw [ih];omega
theorem HW:HG so (KQ k d H)=HG so H+(if k.so=so then d else 0):=by
  unfold KQ;rw [sumK_put];split <;> omega
theorem putH_len:(GV k v H).length≤H.length+1:=by
  induction H with
  | nil=>exact Nat.le_refl _
  | cons x r ih => simp only [GV]; split
                   · simp
                   · simp only [List.length_cons];omega
theorem sumK_bound {B:Int} (hB:0≤B) (h:∀ x∈H,-B≤x.2∧x.2≤B):-(B*H.length)≤HG so H∧HG so H≤B*H.length:=by
  induction H with
  | nil=>simp [HG]
  | cons x r ih=>
    have h1:=ih (fun y hy=>h y (by simp [hy]));have h2:=h x (by simp);simp only [HG,List.length_cons,Int.natCast_add,Int.natCast_one,Int.mul_add,Int.mul_one]
    split <;> omega
end
def dueS (s:Slip):Int:=if s.kind=5 then s.amt else if s.kind=6 then -s.amt else 0
theorem sumK_do {so:Int} {s:Slip} {H:Hs} (hk:1≤s.kind∧s.kind≤6):HG so (doSlip s H)=HG so H+(if s.sort=so then dueS s+(evOf H s).gap else 0):=by
  unfold dueS;rcases (by omega:s.kind=1∨s.kind=2∨s.kind=3∨s.kind=4∨s.kind=5∨s.kind=6) with e | e | e | e | e | e
  · have e4:¬ s.kind=4:=by omega
    have e5:¬ s.kind=5:=by omega
    have e6:¬ s.kind=6:=by omega
    rw [doSlip_1 e,gap_f e4,HW,HW,if_neg e5,if_neg e6];simp only;split <;> omega
  · have e4:¬ s.kind=4:=by omega
    have e5:¬ s.kind=5:=by omega
    have e6:¬ s.kind=6:=by omega
    rw [doSlip_2 e,gap_f e4,HW,HW,if_neg e5,if_neg e6];simp only;split <;> omega
  · have e4:¬ s.kind=4:=by omega
    have e5:¬ s.kind=5:=by omega
    have e6:¬ s.kind=6:=by omega
    rw [doSlip_3 e,gap_f e4,HW,HW,if_neg e5,if_neg e6];simp only;split <;> omega
  · have e5:¬ s.kind=5:=by omega
    have e6:¬ s.kind=6:=by omega
    rw [doSlip_4 e,gap_t e,sumK_put,if_neg e5,if_neg e6];simp only;split <;> omega
  · have e4:¬ s.kind=4:=by omega
    rw [doSlip_5 e,gap_f e4,HW,if_pos e];simp only;split <;> omega
  · have e4:¬ s.kind=4:=by omega
    have e5:¬ s.kind=5:=by omega
    rw [doSlip_6 e,gap_f e4,HW,if_neg e5,if_pos e];simp only;split <;> omega
def dueE (so:Int) (e:Sh.Event):Int:=if e.slip.sort=so then dueS e.slip+e.gap else 0
theorem sumK_aft {so:Int}:∀ {S:List Slip} {H:Hs},(∀ s∈S,1≤s.kind∧s.kind≤6)→HG so (aft H S)=HG so H+((evs H S).map (dueE so)).sum:=by
  intro S
  induction S with
  | nil=>intro H _;simp [aft,evs]
  | cons s r ih=>
    intro H h;rw [show aft H (s::r)=aft (doSlip s H) r from rfl,ih (fun x hx=>h x (by simp [hx])),sumK_do (h s (by simp))];simp only [evs,List.map_cons,List.sum_cons];rw [show dueE so (evOf H s)=if s.sort=so then dueS s+(evOf H s).gap else 0 from rfl];omega
def gapP (n:Int) (g:Gap):Int:=if g.num=n then g.amt else 0
def LQ (n:Int) (l:List Gap):Int:=(l.map (gapP n)).sum
theorem IU {n:Int} {l m:List Gap}:LQ n (l++m)=LQ n l+LQ n m:=by unfold LQ;rw [List.map_append,List.sum_append]
theorem gsum_gapOf {n:Int} {e:Sh.Event}:LQ n (NS e)=if e.slip.num=n then e.gap else 0:=by
  unfold NS
  by_cases h:e.gap≠0
  · rw [if_pos h];simp [LQ,gapP]
  · rw [if_neg h];have:e.gap=0:=Decidable.not_not.1 h
    rw [this];simp [LQ]
theorem gsum_zero {n:Int}:∀ {E:List Sh.Event},(∀ x∈E,x.slip.num≠n)→LQ n (BI E)=0:=by
  intro E
  induction E with
  | nil=>intro _;rfl
  | cons x r ih=>
    intro h;rw [show BI (x::r)=NS x++BI r from rfl,IU,gsum_gapOf,if_neg (h x (by simp)),ih (fun y hy=>h y (by simp [hy]))];rfl
theorem gsum_of:∀ {E:List Sh.Event},(E.map fun e=>e.slip.num).Nodup→∀ e∈E,LQ e.slip.num (BI E)=e.gap:=by
  intro E
  induction E with
  | nil=>intro _ e he;cases he
  | cons x r ih=>
    intro hn e he;rw [List.map_cons,List.nodup_cons] at hn;rw [show BI (x::r)=NS x++BI r from rfl,IU,gsum_gapOf];rcases List.mem_cons.1 he with rfl | he
    · rw [if_pos rfl,gsum_zero (fun y hy hh=>hn.1 (by rw [← hh];exact List.mem_map_of_mem (f:=fun e:Sh.Event=>e.slip.num) hy))];omega
    · rw [if_neg (fun hh=>hn.1 (by rw [hh];exact List.mem_map_of_mem (f:=fun e:Sh.Event=>e.slip.num) he)),ih hn.2 e he];omega
theorem evs_slips:∀ {S:List Slip} {H:Hs},(evs H S).map (fun e=>e.slip)=S:=by
  intro S
  induction S with
  | nil=>intro H;rfl
  | cons s r ih=>intro H;simp only [evs,List.map_cons,ih];rfl
def dueG (so:Int) (G:List Gap) (s:Slip):Int:=if s.sort=so then dueS s+LQ s.num G else 0
def EM (so:Int) (G:List Gap) (l:List Slip):Int:=(l.map (dueG so G)).sum
theorem sum_perm {α:Type} {f:α→Int} {l m:List α} (h:l.Perm m):(l.map f).sum=(m.map f).sum:=by
  induction h with
  | nil=>rfl
  | cons x _ ih=>simp only [List.map_cons,List.sum_cons,ih]
  | swap x y l=>simp only [List.map_cons,List.sum_cons];omega
  | trans _ _ h1 h2=>exact h1.trans h2
def BN (so:Nat) (st:List (List Int)) (i:Nat):Int:=((st.take i).map fun r=>r.getD so 0).sum
theorem KD {so i:Nat} {st:List (List Int)} (hi:i<st.length):BN so st (i+1)=BN so st i+(st.getD i []).getD so 0:=by
  unfold BN;rw [BO (d:=[]) hi,List.map_append,List.sum_append];simp
theorem openRow_get {p:Int} {row:List Int} {H:Hs} {k:HKey}:∀ {j:Nat},(k.pl≠p∨(j:Int)≤k.so)→CG k (FY p row j H)=CG k H:=by
  intro j
  induction j with
  | zero=>intro _;rfl
  | succ j ih=>
    intro h;simp only [FY];rw [getH_put,if_neg,ih]
    · rcases h with h | h
      · exact .inl h
      · exact .inr (by omega)
    · intro e;subst e;simp only at h;omega
theorem openTo_get {st:List (List Int)} {k:HKey}:∀ {i:Nat},(i:Int)≤k.pl→CG k (GJ st i)=0:=by
  intro i
  induction i with
  | zero=>intro _;rfl
  | succ i ih=>intro h;simp only [GJ];rw [openRow_get (.inl (by omega)),ih (by omega)]
theorem sumK_row {p:Int} {row:List Int} {so:Nat} {H:Hs} (h0:CG ⟨p,so,false⟩ H=0) (hz:∀ j:Nat,CG ⟨p,j,false⟩ H=0):∀ {j:Nat},HG so (FY p row j H)=HG so H+(if so<j then row.getD so 0 else 0):=by
  intro j
  induction j with
  | zero=>simp [FY]
  | succ j ih=>
    simp only [FY];rw [sumK_put,ih,openRow_get (.inr (Int.le_refl _)),hz j]
    by_cases e:so=j
    · subst e;simp
    · have e3:¬ ((j:Int)=(so:Int)):=by omega
      simp only;rw [if_neg e3]
      by_cases e2:so<j
      · rw [if_pos e2,if_pos (by omega)];omega
      · rw [if_neg e2,if_neg (by omega)];omega
theorem sumK_open {st:List (List Int)} {so:Nat}:∀ {i:Nat},i≤st.length→HG so (GJ st i)=BN so st i:=by
  intro i
  induction i with
  | zero=>intro _;simp [GJ,HG,BN]
  | succ i ih=>
    intro hi;rw [KD (by omega),← ih (by omega)];simp only [GJ];rw [sumK_row (openTo_get (Int.le_refl _)) (fun j=>openTo_get (Int.le_refl _))]
    split
    · rfl
    · rename_i h;generalize st.getD i []=r at h ⊢;rw [show r.getD so 0=0 by simp [List.getD,show r.length≤so by omega]]
def GO (L:Lin) (so hour:Int):Int × Int:=
  if AY L≠0 then (0,AY L) else if inB so 0 (L.sorts-1)=false then (0,3) else if inB hour 0 200=false then (0,1) else (HG so (atH L hour),0)
section
variable {L:Lin} {so hour:Int}
theorem totalE_1 (h:AY L≠0):GO L so hour=(0,AY L):=if_pos h
theorem totalE_2 (h:AY L=0) (h2:inB so 0 (L.sorts-1)=false):GO L so hour=(0,3):=by unfold GO;rw [if_neg (fun x=>x h),if_pos h2]
theorem totalE_3 (h:AY L=0) (h2:inB so 0 (L.sorts-1)=true) (h3:inB hour 0 200=false):GO L so hour=(0,1):=by unfold GO;rw [if_neg (fun x=>x h),if_neg (by rw [h2];decide),if_pos h3]
theorem totalE_4 (h:AY L=0) (h2:inB so 0 (L.sorts-1)=true) (h3:inB hour 0 200=true):GO L so hour=(HG so (atH L hour),0):=by unfold GO;rw [if_neg (fun x=>x h),if_neg (by rw [h2];decide),if_neg (by rw [h3];decide)]
end
theorem evs_nums {L:Lin} (g:GoodL L):((BB L).map fun e=>e.slip.num).Nodup:=by
  have h1:(BB L).map (fun e=>e.slip.num)=((BB L).map fun e=>e.slip).map (·.num):=by rw [List.map_map];rfl
  rw [h1,BB,evs_slips];exact ((DL L.slips).map _).nodup_iff.2 g.once
theorem kept_all {L:Lin} {so:Nat} (g:GoodL L) (hp:(L.start.length:Int)=L.places):HG so (atH L 200)=BN so L.start L.start.length+EM so (BI (BB L)) L.slips:=by
  have hs:CV L 200=L.slips:=List.filter_eq_self.2 fun x hx=>by
    have:=(GA (g.slipOf hx)).2.1;simp;omega
  have hk:∀ s∈AD AC L.slips,1≤s.kind∧s.kind≤6:=fun s hs=>(GA (g.slipOf ((DL _).subset hs))).2.2.1
  unfold atH;rw [hs,sumK_aft hk];rw [show HG so (EI L)=BN so L.start L.start.length from sumK_open (Nat.le_refl _)];have e1:EM so (BI (BB L)) L.slips=EM so (BI (BB L)) ((BB L).map fun e=>e.slip):=by
    unfold EM;rw [show (BB L).map (fun e=>e.slip)=AD AC L.slips from evs_slips];exact (sum_perm (DL _)).symm
  rw [e1];unfold EM;rw [List.map_map];have e2:(BB L).map (dueG so (BI (BB L)) ∘ fun e=>e.slip)=(BB L).map (dueE so):=List.map_congr_left fun e he=>by
    simp only [Function.comp,dueG,dueE];rw [gsum_of (evs_nums g) e he]
  rw [e2];rfl
theorem inB_of {n lo hi:Int} (h:lo≤n∧n≤hi):¬ inB n lo hi=false:=by simp [inB,h.1,h.2]
theorem good_err {L:Lin} (g:GoodL L):AY L=0:=by
  have h1:CM L=0:=by
    unfold CM;rw [if_neg (fun h=>h g.start),if_neg,if_neg]
    · rw [List.all_eq_true.2 (fun n hn => by
        obtain ⟨r,hr,hn⟩:=List.mem_flatten.1 hn
        simpa using inB_of (g.nums r hr n hn))];decide
    · rw [List.all_eq_true.2 (fun r hr=>decide_eq_true (g.rows r hr))];decide
  have h2:DH L=0:=by unfold DH;rw [if_neg (by have:=g.keeps;omega)];exact firstE_zero.2 g.keep
  unfold AY;rw [if_neg (inB_of g.places),if_neg (inB_of g.sorts),h1,h2,if_neg (fun h=>h rfl),if_neg (fun h=>h rfl),if_neg (by have:=g.slips;omega)];exact firstE_zero.2 g.slip
theorem doSlip_len {s:Slip} {H:Hs}:(doSlip s H).length≤H.length+2:=by
  have h1:∀ {k:HKey} {v:Int} {H:Hs},(KQ k v H).length≤H.length+1:=fun {k v H}=>putH_len
  unfold doSlip
  repeat' split
  · exact Nat.le_trans h1 (Nat.succ_le_succ h1)
  · exact Nat.le_trans h1 (Nat.succ_le_succ h1)
  · exact Nat.le_trans h1 (Nat.succ_le_succ h1)
  · exact Nat.le_trans putH_len (Nat.le_succ _)
  · exact Nat.le_trans h1 (Nat.le_succ _)
  · exact Nat.le_trans h1 (Nat.le_succ _)
theorem aft_len:∀ {S:List Slip} {H:Hs},(aft H S).length≤H.length+2*S.length:=by
  intro S
  induction S with
  | nil=>intro H;exact Nat.le_refl _
  | cons s r ih=>
    intro H;have h1:=ih (H:=doSlip s H);have h2:=doSlip_len (s:=s) (H:=H);rw [show aft H (s::r)=aft (doSlip s H) r from rfl,List.length_cons];omega
theorem openRow_len {p:Int} {row:List Int} {H:Hs}:∀ {j:Nat},(FY p row j H).length≤H.length+j:=by
  intro j
  induction j with
  | zero=>exact Nat.le_refl _
  | succ j ih=>simp only [FY];exact Nat.le_trans putH_len (by omega)
theorem openTo_len {st:List (List Int)} (h:∀ r∈st,r.length≤2):∀ {i:Nat},i≤st.length→(GJ st i).length≤2*i:=by
  intro i
  induction i with
  | zero=>intro _;exact Nat.le_refl _
  | succ i ih=>
    intro hi;have h1:=openRow_len (p:=(i:Int)) (row:=st.getD i []) (H:=GJ st i) (j:=(st.getD i []).length);have h2:=ih (by omega);have h3:=h _ (AZ (xs:=st) (d:=[]) (show i<st.length by omega));simp only [GJ];omega
theorem atH_len {L:Lin} {n:Int} (g:GoodL L):(atH L n).length≤24:=by
  have h1:=aft_len (S:=AD AC (CV L n)) (H:=EI L);have h2:(EI L).length≤2*L.start.length:=openTo_len (fun r hr=>by have:=g.rows r hr;have:=g.sorts;omega) (Nat.le_refl _);have h3:(AD AC (CV L n)).length≤L.slips.length:=by rw [(DL _).length_eq];exact List.length_filter_le _ _
  have h4:=g.slips;have h5:=g.start;have h6:=g.places;unfold atH;omega
theorem atH_small {L:Lin} {n:Int} (g:GoodL L) (hn:((atH L n).map Prod.fst).Nodup):∀ x∈atH L n,-1000000≤x.2∧x.2≤1000000:=fun x hx=>by
  have hw:=((g.goodS.to n).sorted.within g.within (AD AC (CV L n)).length) x.1;rw [show (AD AC (atL L n).slips)=AD AC (CV L n) from rfl,List.take_length,show aft (EI L) (AD AC (CV L n))=atH L n from rfl,getH_mem hn hx] at hw;omega
theorem sum_cut {L:Lin} {n so:Int} {dn td A B:Hs} {y:HKey × Int} (g:GoodL L) (hn:((atH L n).map Prod.fst).Nodup) (hp:(dn++td).Perm (atH L n)) (e:td=A++y::B):(-24000000≤HG so dn∧HG so dn≤24000000)∧-1000000≤y.2∧y.2≤1000000:=by
  have hs:=atH_small g hn;have h1:=sumK_bound (so:=so) (H:=dn) (B:=1000000) (by omega) (fun x hx=>hs x (hp.subset (List.mem_append_left _ hx)));have h2:dn.length≤24:=by have:=hp.length_eq;have:=atH_len (n:=n) g;rw [List.length_append] at *;omega
  exact ⟨by omega,hs y (hp.subset (by rw [e];simp))⟩
theorem sumK_done {so:Int} {dn td H:Hs} (hp:(dn++td).Perm H) (h:td=[]):HG so dn=HG so H:=by subst h;rw [List.append_nil] at hp;exact sumK_perm hp
theorem sumK_snoc {so:Int} {dn:Hs} {y:HKey × Int}:HG so (dn++[y])=HG so dn+(if y.1.so=so then y.2 else 0):=by rw [sumK_append];simp [HG]
theorem MZ {α:Type} {f:α→Int} {B:Int}:∀ {l:List α},(∀ x∈l,-B≤f x∧f x≤B)→-(B*l.length)≤(l.map f).sum∧(l.map f).sum≤B*l.length:=by
  intro l
  induction l with
  | nil=>intro _;simp
  | cons x r ih=>
    intro h;have h1:=ih (fun y hy=>h y (by simp [hy]));have h2:=h x (by simp);simp only [List.map_cons,List.sum_cons,List.length_cons,Int.natCast_add,Int.natCast_one,Int.mul_add,Int.mul_one];omega
theorem gap_small {L:Lin} (g:GoodL L):∀ x∈BI (BB L),-1000000≤x.amt∧x.amt≤1000000:=by
  intro x hx;obtain ⟨e,he,hx⟩:=List.mem_flatMap.1 hx;unfold NS at hx
  split at hx
  · simp only [List.mem_singleton] at hx;subst hx
    obtain ⟨k,hk,rfl⟩:=List.mem_iff_getElem.1 he;have hk2:k<(AD AC L.slips).length:=by unfold BB at hk;rwa [FI] at hk
    have ht:=evs_take (H:=EI L) hk2;have e3:(BB L)[k]=evOf (aft (EI L) ((AD AC L.slips).take k)) ((AD AC L.slips).getD k AB):=by
      have h1:((evs (EI L) (AD AC L.slips)).take (k+1))[k]?=some (evOf (aft (EI L) ((AD AC L.slips).take k)) ((AD AC L.slips).getD k AB)):=by
        have hk3:k<(evs (EI L) (AD AC L.slips)).length:=hk;rw [ht,List.getElem?_append_right (by rw [List.length_take];omega),List.length_take,Nat.min_eq_left (by omega)];simp
      rw [List.getElem?_take_of_lt (by omega)] at h1;exact (List.getElem?_eq_some_iff.1 h1).2
    rw [e3];have hw:=(g.goodS.sorted.within g.within k) (keyOf ((AD AC L.slips).getD k AB));have ha:=(g.goodS.sorted.ok _ (AZ (d:=AB) hk2)).2.1;simp only [evOf];split <;> omega
  · cases hx
theorem gsum_small {L:Lin} {n:Int} {k:Nat} (g:GoodL L):-8000000≤LQ n ((BI (BB L)).take k)∧LQ n ((BI (BB L)).take k)≤8000000:=by
  have h:=MZ (f:=gapP n) (B:=1000000) (l:=(BI (BB L)).take k) (fun x hx=>by
    have:=gap_small g x (List.mem_of_mem_take hx)
    unfold gapP;split <;> omega)
  have hl:((BI (BB L)).take k).length≤8:=by
    have h1:=IQ (l:=BB L);have h2:=GY (L:=L);have h3:=g.slips;rw [List.length_take];omega
  unfold LQ;omega
theorem due_small {L:Lin} {so:Int} {k:Nat} (g:GoodL L):-80000000≤EM so (BI (BB L)) (L.slips.take k)∧EM so (BI (BB L)) (L.slips.take k)≤80000000:=by
  have h:=MZ (f:=dueG so (BI (BB L))) (B:=9000000) (l:=L.slips.take k) (fun x hx=>by
    have h1:=gsum_small (n:=x.num) (k:=(BI (BB L)).length) g
    rw [List.take_length] at h1
    have h2:=(GA (g.slipOf (List.mem_of_mem_take hx))).2.2.2.2.2.1
    unfold dueG dueS
    repeat' split
    all_goals omega)
  have hl:(L.slips.take k).length≤8:=by have h3:=g.slips;rw [List.length_take];omega
  unfold EM;omega
theorem KW {L:Lin} {so k:Nat} (g:GoodL L):-1000≤BN so L.start k∧BN so L.start k≤1000:=by
  have h:=MZ (f:=fun r:List Int=>r.getD so 0) (B:=50) (l:=L.start.take k) (fun x hx=>by
    have hr:=g.nums x (List.mem_of_mem_take hx)
    rcases Nat.lt_or_ge so x.length with hj | hj
    · have:=hr _ (AZ (xs:=x) (d:=0) hj);omega
    · have:x.getD so 0=0:=by simp [List.getD,hj]
      omega)
  have hl:(L.start.take k).length≤4:=by have h3:=g.start;have h4:=g.places;rw [List.length_take];omega
  unfold BN;omega
theorem NZ {L:Lin} (g:GoodL L):(BP L).1=BI (BB L):=by rw [gapsE_2 (good_err g)]
section
variable {L:Lin} {G:List Gap} {so n X:Int} {i m k:Nat} {s:Slip}
theorem dueS_5 (h:s.kind=5):X+s.amt=X+dueS s:=by unfold dueS;rw [if_pos h]
theorem dueS_6 (h:s.kind=6):X-s.amt=X+dueS s:=by unfold dueS;rw [if_neg (by omega),if_pos h];omega
theorem dueS_0 (h:¬ s.kind=5) (h2:¬ s.kind=6):X=X+dueS s:=by unfold dueS;rw [if_neg h,if_neg h2];omega
theorem dueS_small (g:GoodL L) (hi:i<L.slips.length):-50≤dueS (L.slips.getD i AB)∧dueS (L.slips.getD i AB)≤50:=by
  have h2:=(GA (g.slipAt hi)).2.2.2.2.2.1;unfold dueS;repeat' split
  all_goals omega
theorem gsum_t (hm:m<G.length) (h:(G.getD m GS).num=n):X+LQ n (G.take m)+(G.getD m GS).amt=X+LQ n (G.take (m+1)):=by
  rw [BO (d:=GS) hm,IU];simp only [LQ,List.map_cons,List.map_nil,List.sum_cons,List.sum_nil,gapP];rw [if_pos h];omega
theorem gsum_f (hm:m<G.length) (h:¬ (G.getD m GS).num=n):X+LQ n (G.take m)=X+LQ n (G.take (m+1)):=by
  rw [BO (d:=GS) hm,IU];simp only [LQ,List.map_cons,List.map_nil,List.sum_cons,List.sum_nil,gapP];rw [if_neg h];omega
theorem gsum_0:X=X+LQ n (G.take 0):=by simp [LQ]
theorem dueTo_0 {l:List Slip}:X=X+EM so G (l.take 0):=by simp [EM]
theorem dueTo_t {l:List Slip} (hi:i<l.length) (h:(l.getD i AB).sort=so) (hm:G.length≤m):X+EM so G (l.take i)+dueS (l.getD i AB)+LQ (l.getD i AB).num (G.take m)=X+EM so G (l.take (i+1)):=by
  rw [BO (d:=AB) hi];unfold EM;rw [List.map_append,List.sum_append,List.take_of_length_le hm];simp only [List.map_cons,List.map_nil,List.sum_cons,List.sum_nil,dueG];rw [if_pos h];omega
theorem dueTo_f {l:List Slip} (hi:i<l.length) (h:¬ (l.getD i AB).sort=so):X+EM so G (l.take i)=X+EM so G (l.take (i+1)):=by
  rw [BO (d:=AB) hi];unfold EM;rw [List.map_append,List.sum_append];simp only [List.map_cons,List.map_nil,List.sum_cons,List.sum_nil,dueG];rw [if_neg h];omega
theorem kept_bounds (g:GoodL L):(-1000≤BN k L.start L.start.length∧BN k L.start L.start.length≤1000)∧(-80000000≤EM so (BP L).1 (L.slips.take i)∧EM so (BP L).1 (L.slips.take i)≤80000000)∧(-8000000≤LQ n ((BP L).1.take m)∧LQ n ((BP L).1.take m)≤8000000):=by
  rw [NZ g];exact ⟨KW g,due_small g,gsum_small g⟩
theorem gap_bound (g:GoodL L) (hm:m<(BP L).1.length):-1000000≤((BP L).1.getD m GS).amt∧((BP L).1.getD m GS).amt≤1000000:=by
  rw [NZ g] at hm ⊢;exact gap_small g _ (AZ (d:=GS) hm)
theorem kept_end (g:GoodL L) (hk:(k:Int)<L.sorts) (hi:L.slips.length≤i):(GO L k 200).1=BN k L.start L.start.length+EM k (BP L).1 (L.slips.take i)∧(GO L k 200).2=0:=by
  rw [totalE_4 (good_err g) (by simp [inB];omega) (by decide),NZ g,List.take_of_length_le hi];exact ⟨kept_all g g.start,rfl⟩
end
end Go.Sh
