/- Linen is divided as the reference divides it. -/
import Derived.Test.YtgcemienebmdeaaP3
import Derived.Test.YtgcemienebmdeaaP2
import Derived.Test.YtgcemienebmdeaaP1
import Derived.Test.YtgcemienebmdeaaP5
import Derived.Test.YtgcemienebmdeaaP0
import Derived.ChangeSame
import Derived.ChangeSlices
import Derived.WideShapes
import Derived.JoinedOf
import Derived.Deep.Slices
import Derived.Lib.SmallJoins
import Derived.SizedLaws
import Derived.Test.YtgcemienebmdeaaRows
import Derived.ChangeVars
import Derived.RowKit
import Derived.RowKitTokens
import Derived.Stop.Joined
import Derived.WideKeyArgs
import Derived.ProofKit
set_option linter.unusedVariables false
set_option linter.unusedSimpArgs false
namespace Go.Sh
open Go Go.Sl
def Low (h nd:List Int) (b:Int):Prop:=BF h nd b=0→∀ i,i<h.length→h.getD i 0≤14
theorem low_small {h nd:List Int} {b:Int} (hs:∀ x∈h,0≤x∧x≤14):Low h nd b:=fun _ i hi=>(hs _ (BC (xs:=h) (d:=0) hi)).2
theorem low_light {h nd:List Int} {b:Int} (hv:∀ i,i<h.length→i<nd.length→¬ (14<h.getD i 0∧h.getD i 0≤50)):Low h nd b:=fun he i hi=>by
  have hp:=MD he;have:=hv i hi (by rw [hp.same];exact hi);have h2:=DK (hp.each i hi).1;omega
theorem low_nil {h:List Int} {b:Int}:Low h [] b:=fun he i hi=>by
  have hp:=MD he;have:=hp.same;simp at this;omega
theorem low_five {h nd ph pn t1 t2 t3 : List Int} {b pb : Int} {k : Nat} (hk : k < 5) (h0 : k = 0 → Low h nd b) (hp : ∀ x ∈ ph, 0 ≤ x ∧ x ≤ 14) (ht : ∀ x ∈ t1, 0 ≤ x ∧ x ≤ 14) :
    Low (([h,ph,t1,ph,h]:List (List Int)).getD k []) (([nd,pn,t2,t3,[]]:List (List Int)).getD k []) (([b,pb,pb,b,b]:List Int).getD k 0):=by
  have:k=0∨k=1∨k=2∨k=3∨k=4:=by omega
  rcases this with rfl | rfl | rfl | rfl | rfl
  · exact h0 rfl
  · exact low_small hp
  · exact low_small ht
  · exact low_small hp
  · exact low_nil
theorem five_len {h ph t1:List Int} {k:Nat} (h1:h.length≤20) (h2:ph.length≤20) (h3:t1.length≤20) {l:List (List Int)} (hl:∀ x∈l,x=h∨x=ph∨x=t1∨x=[]):(l.getD k []).length≤20:=by
  rcases Nat.lt_or_ge k l.length with hk | hk
  · rcases hl _ (BC (xs:=l) (d:=[]) hk) with e | e | e | e <;> rw [e] <;> first | assumption | simp
  · have:l.getD k []=[]:=by simp [List.getD,hk]
    rw [this];simp
theorem small_snoc {l:List Int} {n:Nat} (h:∀ x∈l,0≤x∧x≤14) (hn:n=0∨(n:Int)≤14):∀ x∈l++[(n:Int)],0≤x∧x≤14:=fun x hx=>by
  rcases List.mem_append.1 hx with hx | hx
  · exact h x hx
  · simp only [List.mem_singleton] at hx;subst hx;omega
theorem heavy_next {h:List Int} {c:Nat} {B:Bool} (hn:∀ i,i<c→¬ (14<h.getD i 0∧h.getD i 0≤50)) (hb:(bif cmp .gtr (h.getD c 0) 14 then cmp .leq (h.getD c 0) 50||B else B)=false):∀ i,i<c+1→¬ (14<h.getD i 0∧h.getD i 0≤50):=by
  intro i hi;rcases Nat.lt_or_ge i c with h1 | h1
  · exact hn i h1
  · have:i=c:=by omega
    subst this
    rintro ⟨h2,h3⟩
    rw [show cmp .gtr (h.getD i 0) 14=true from decide_eq_true (by omega),show cmp .leq (h.getD i 0) 50=true from decide_eq_true h3] at hb;cases hb
theorem heavy_end {h nd:List Int} {c i:Nat} (hb:(cmp .lss (c:Int) (h.length:Int)&&cmp .lss (c:Int) (nd.length:Int))=false) (h1:i<h.length) (h2:i<nd.length):i<c:=by
  simp only [cmp,Bool.and_eq_false_iff,decide_eq_false_iff_not] at hb;omega
theorem five_len2 {a b c d:List Int} {k:Nat} (h1:a.length≤20) (h2:b.length≤20) (h3:c.length≤20) (h4:d.length≤20):(([a,b,c,d,[]]:List (List Int)).getD k []).length≤20:=by
  match k with
  | 0=>exact h1
  | 1=>exact h2
  | 2=>exact h3
  | 3=>exact h4
  | 4=>exact Nat.zero_le _
  | k+5=>exact Nat.zero_le _
theorem divE_len (h nd:List Int) (b:Int):(JA h nd b).1.length≤16:=by
  rw [div_ref];unfold DB
  split
  · exact Nat.zero_le _
  · rename_i he
    have hp:=MD (Decidable.not_not.1 he)
    split
    · exact Nat.zero_le _
    · rename_i x r hL
      obtain ⟨A,B,e,_,_⟩:=bestL_first r x;have hm:IW r x∈AM h.length (h.length*h.length) (BD h nd b) (BT h nd b):=by rw [hL,e];simp
      have h1:=lists_lenM hm;have h2:h.length*h.length≤4*4:=Nat.mul_le_mul hp.few hp.few;show (IW r x).length≤16;omega
def gAt (cs:List Car) (i:Nat):Int:=(cs.getD i noCar).grp
structure CarsInv (cs:List Car) (g l:Int):Prop where
  ok:∀ c∈cs,carErr c=0∧c.len≤3
  le:∀ i,i<cs.length→gAt cs i≤g
  run:∀ i j,i≤j→j<cs.length→gAt cs i=gAt cs j→gAt cs i≠0→∀ m,i≤m→m≤j→gAt cs m=gAt cs i
  g0:0≤g∧g≤3
  l0:0≤l∧l≤2
  last:0<l→1≤g∧(0<cs.length→gAt cs (cs.length-1)=g∨∀ i,i<cs.length→gAt cs i<g)
theorem CarsInv.nil:CarsInv [] 0 0:=⟨fun c h=>by simp at h,fun i h=>by simp at h,fun i j _ h=>by simp at h,by omega,by omega,fun h=>by omega⟩
theorem JX {cs:List Car} {c:Car} {i:Nat}:gAt (cs++[c]) i=if i<cs.length then gAt cs i else if i=cs.length then c.grp else 0:=by
  unfold gAt;simp only [List.getD]
  split
  · rename_i h;rw [List.getElem?_append_left h]
  · rename_i h
    rw [List.getElem?_append_right (by omega)]
    split
    · rename_i h2;simp [h2]
    · rename_i h2
      have:1≤i-cs.length:=by omega
      cases hh:i-cs.length with
      | zero=>omega
      | succ n=>simp [noCar]
theorem CarsInv.snoc {cs:List Car} {g l:Int} (h:CarsInv cs g l) {c:Car} (hc:carErr c=0∧c.len≤3) (hg:(0<l→c.grp=g)∧(¬ 0<l→c.grp=0)):CarsInv (cs++[c]) g (if 0<l then l-1 else l):=by
  have hg0:=h.g0;have hl0:=h.l0;have hle:c.grp≤g:=by by_cases hl:0<l;exact Int.le_of_eq (hg.1 hl);rw [hg.2 hl];omega
  refine ⟨fun x hx=>?_,fun i hi=>?_,?_,hg0,by split <;> omega,fun hl=>?_⟩
  · rcases List.mem_append.1 hx with hx | hx
    · exact h.ok x hx
    · simp at hx;subst hx;exact hc
  · rw [JX]
    split
    · rename_i h1;exact h.le i h1
    · split
      · exact hle
      · omega
  · intro i j hij hj e h0 m him hmj
    simp only [List.length_append,List.length_cons,List.length_nil] at hj;have A:∀ x,x<cs.length→gAt (cs++[c]) x=gAt cs x:=fun x hx=>by rw [JX,if_pos hx]
    have B:gAt (cs++[c]) cs.length=c.grp:=by rw [JX,if_neg (by omega),if_pos rfl]
    by_cases hj1:j<cs.length
    · rw [A i (by omega)] at e h0 ⊢
      rw [A j hj1] at e;rw [A m (by omega)];exact h.run i j hij hj1 e h0 m him hmj
    · have hj2:j=cs.length:=by omega
      subst hj2;rw [B] at e
      by_cases hi1:i<cs.length
      · rw [A i hi1] at e h0 ⊢
        by_cases hm1:m<cs.length
        · rw [A m hm1]
          by_cases hl:0<l
          · have hcg:=hg.1 hl
            rcases (h.last hl).2 (by omega) with hla | hla
            · exact h.run i (cs.length-1) (by omega) (by omega) (by rw [hla];omega) h0 m him (by omega)
            · have:=hla i hi1;omega
          · have:=hg.2 hl;omega
        · have hm2:m=cs.length:=by omega
          subst hm2;rw [B];exact e.symm
      · have hi2:i=cs.length:=by omega
        have hm2:m=i:=by omega
        rw [hm2]
  · have hl1 : 0 < l := by
      by_cases h1:0<l
      · exact h1
      · rw [if_neg h1] at hl;exact hl
    have:=h.last hl1;refine ⟨this.1,fun _=>.inl ?_⟩;have e:(cs++[c]).length-1=cs.length:=by simp
    rw [e,JX,if_neg (by omega),if_pos rfl];exact hg.1 hl1
structure Placed (cs:List Car) (T k a:Nat) (ts:List (List Int)):Prop where
  len:ts.length=T
  a0:a<T
  perm:ts.flatten.Perm (HM k)
  ex:∃ tr:Nat→Nat,(∀ i,i<T→ts.getD i []=(HM k).filter fun c=>decide (tr c.toNat=i))∧(∀ c,c<k→tr c<T)∧(∀ c,c+1<k→gAt cs (c+1)≠0→gAt cs (c+1)=gAt cs c→tr (c+1)=tr c)∧(0<k→tr (k-1)=a)
theorem mem_wholeL {n:Nat} {c:Int}:c∈HM n↔0≤c∧c<n:=by
  unfold HM;simp only [List.mem_map,List.mem_range]
  constructor
  · rintro ⟨i,hi,rfl⟩;omega
  · intro h;exact ⟨c.toNat,by omega,by omega⟩
theorem Placed.start {cs:List Car} {T:Nat} (hT:0<T):Placed cs T 0 0 (List.replicate T []):=by
  refine ⟨by simp,hT,by simp [HM],fun _=>0,fun i hi=>?_,fun c h=>by omega,fun c h=>by omega,fun h=>by omega⟩;simp [HM,List.getD,hi]
theorem MU:∀ (ts:List (List Int)) (a:Nat) (x:Int),a<ts.length→(ts.set a (ts.getD a []++[x])).flatten.Perm (ts.flatten++[x]):=by
  intro ts
  induction ts with
  | nil=>intro a x h;simp at h
  | cons t r ih=>
    intro a x h;cases a with
    | zero=>
      simp only [List.set_cons_zero,List.getD_cons_zero,List.flatten_cons,List.append_assoc];exact List.Perm.append_left t List.perm_append_comm
    | succ a=>
      simp only [List.set_cons_succ,List.getD_cons_succ,List.flatten_cons,List.append_assoc];exact List.Perm.append_left t (ih a x (by simpa using h))
theorem Placed.put {cs : List Car} {T k a a2 : Nat} {ts : List (List Int)} (h : Placed cs T k a ts) (h2 : a2 < T) (hs : k ≠ 0 → gAt cs k ≠ 0 → gAt cs k = gAt cs (k - 1) → a2 = a) :
    Placed cs T (k+1) a2 (ts.set a2 (ts.getD a2 []++[(k:Int)])):=by
  obtain ⟨tr,t1,t2,t3,t4⟩:=h.ex;have hl:=h.len;refine ⟨by rw [List.length_set];exact hl,h2,?_,fun c=>if c=k then a2 else tr c,fun i hi=>?_,fun c hc=>?_,fun c hc h0 he=>?_,fun _=>?_⟩
  · rw [wholeL_succ]
    exact (MU ts a2 k (by omega)).trans (List.Perm.append_right _ h.perm)
  · have hf : (HM k).filter (fun c => decide ((if c.toNat = k then a2 else tr c.toNat) = i)) = ts.getD i [] := by
      rw [t1 i hi];refine List.filter_congr fun c hc=>?_
      have:=mem_wholeL.1 hc;rw [if_neg (by omega)]
    rw [wholeL_succ,List.filter_append,hf]
    by_cases e:a2=i
    · subst e
      simp [List.getD,List.getElem?_set,hl,hi]
    · simp [List.getD,List.getElem?_set,e]
  · show (if c=k then a2 else tr c)<T
    split
    · exact h2
    · exact t2 c (by omega)
  · show (if c+1=k then a2 else tr (c+1))=(if c=k then a2 else tr c)
    by_cases e1:c+1=k
    · have e3:¬ c=k:=by omega
      rw [if_pos e1,if_neg e3];have:=hs (by omega) (by rw [← e1];exact h0) (by rw [← e1];exact he);rw [this,← t4 (by omega),← e1];rfl
    · have e3:¬ c=k:=by omega
      rw [if_neg e1,if_neg e3];exact t3 c (by omega) h0 he
  · simp
theorem sorted_prev {l:List Int} (hs:l.Pairwise (·<·)) {j:Nat} (hj:j<l.length) (hm:l.getD j 0-1∈l):0<j∧l.getD (j-1) 0=l.getD j 0-1:=by
  obtain ⟨m,hm1,hm2⟩:=List.mem_iff_getElem.1 hm;have hlt:∀ (x y:Nat) (hx:x<l.length) (hy:y<l.length),x<y→l.getD x 0<l.getD y 0:=fun x y hx hy h=>by
    have:=List.pairwise_iff_getElem.1 hs x y hx hy h
    simpa [List.getD,hx,hy] using this
  have e:l.getD m 0=l.getD j 0-1:=by simpa [List.getD,hm1] using hm2
  have h1:m<j:=by
    rcases Nat.lt_trichotomy m j with h | h | h
    · exact h
    · subst h;omega
    · have:=hlt j m hj hm1 h;omega
  rcases Nat.lt_or_ge m (j-1) with h2 | h2
  · have a:=hlt m (j-1) hm1 (by omega) h2
    have b:=hlt (j-1) j (by omega) hj (by omega);omega
  · have:m=j-1:=by omega
    subst this;exact ⟨by omega,e⟩
theorem wholeL_sorted (n:Nat):(HM n).Pairwise (·<·):=by
  unfold HM;rw [List.pairwise_map];exact List.pairwise_lt_range.imp fun h=>by omega
theorem Placed.groups {cs:List Car} {T a:Nat} {ts:List (List Int)} {g l:Int} (h:Placed cs T cs.length a ts) (hc:CarsInv cs g l):GrpFrom cs ts []:=by
  obtain ⟨tr,t1,t2,t3,t4⟩:=h.ex;have hmem:∀ i,i<T→∀ c,c∈ts.getD i []↔(0≤c∧c<cs.length)∧tr c.toNat=i:=fun i hi c=>by
    rw [t1 i hi,List.mem_filter,mem_wholeL,decide_eq_true_eq]
  have hgrp:∀ c:Int,grp cs c=gAt cs c.toNat:=fun c=>rfl
  have hrun:∀ n x:Nat,x+n<cs.length→gAt cs x≠0→gAt cs x=gAt cs (x+n)→tr (x+n)=tr x:=by
    intro n
    induction n with
    | zero=>intro x _ _ _;rfl
    | succ n ih=>
      intro x hx h0 e;have e1:gAt cs (x+n)=gAt cs x:=hc.run x (x+(n+1)) (by omega) hx e h0 (x+n) (by omega) (by omega);have:=ih x (by omega) h0 e1.symm;rw [← this];exact t3 (x+n) (by omega) (by rw [show x+n+1=x+(n+1) by omega,← e];exact h0) (by rw [show x+n+1=x+(n+1) by omega,← e,e1])
  have hrun2:∀ x y:Nat,x<cs.length→y<cs.length→gAt cs x≠0→gAt cs x=gAt cs y→tr x=tr y:=fun x y hx hy h0 e=>by
    rcases Nat.le_total x y with hxy | hxy
    · have:=hrun (y-x) x (by omega) h0 (by rw [show x+(y-x)=y by omega];exact e)
      rw [show x+(y-x)=y by omega] at this;exact this.symm
    · have:=hrun (x-y) y (by omega) (by rw [← e];exact h0) (by rw [show y+(x-y)=x by omega];exact e.symm)
      rw [show y+(x-y)=x by omega] at this;exact this
  intro i j hi hj h0 hm;rw [h.len] at hi;have hcm:(ts.getD i []).getD j 0∈ts.getD i []:=BC hj;obtain ⟨⟨c0,c1⟩,c2⟩:=(hmem i hi _).1 hcm
  generalize hcc:(ts.getD i []).getD j 0=c at hcm c0 c1 c2 h0 hm
  rcases hm with hm | ⟨c',hc',e⟩
  · simp at hm
  · rw [hgrp,hgrp] at e
    rw [hgrp] at h0;have hs:(ts.getD i []).Pairwise (·<·):=by rw [t1 i hi];exact (wholeL_sorted _).sublist List.filter_sublist
    have hc2:(0≤c'∧c'<cs.length)∧(tr c'.toNat<i∨c'∈(ts.getD i []).take j):=by
      rcases List.mem_append.1 hc' with hx | hx
      · obtain ⟨t,ht,hx⟩:=List.mem_flatten.1 hx
        obtain ⟨m,hm1,hm2⟩:=List.mem_iff_getElem.1 ht;have hm3:m<i∧m<ts.length:=by rw [List.length_take] at hm1;omega
        have e3:ts.getD m []=t:=by rw [← hm2];simp [List.getD,hm3.2]
        rw [← e3] at hx;obtain ⟨hb,ht2⟩:=(hmem m (by rw [← h.len];exact hm3.2) _).1 hx;exact ⟨hb,.inl (by omega)⟩
      · exact ⟨((hmem i hi _).1 (List.mem_of_mem_take hx)).1,.inr hx⟩
    obtain ⟨⟨d0,d1⟩,hd⟩:=hc2;have htr:=hrun2 c.toNat c'.toNat (by omega) (by omega) (by omega) e.symm;rcases hd with hd | hd
    · omega
    · obtain ⟨m,hm1,hm2⟩:=List.mem_iff_getElem.1 hd
      have hm3:m<j∧m<(ts.getD i []).length:=by rw [List.length_take] at hm1;omega
      have hlt:c'<c:=by
        have h1:=List.pairwise_iff_getElem.1 hs m j hm3.2 hj hm3.1;have e1:c'=(ts.getD i [])[m]:=by rw [← hm2];simp
        have e2:c=(ts.getD i [])[j]:=by rw [← hcc,List.getD,List.getElem?_eq_getElem hj];rfl
        rw [e1,e2];exact h1
      have e4:gAt cs (c.toNat-1)=gAt cs c'.toNat:=hc.run c'.toNat c.toNat (by omega) (by omega) e (by omega) (c.toNat-1) (by omega) (by omega);have e5:tr (c.toNat-1)=i:=by
        have:=hrun2 (c.toNat-1) c.toNat (by omega) (by omega) (by omega) (by omega);omega
      have hin:c-1∈ts.getD i []:=(hmem i hi _).2 ⟨by omega,by rw [show (c-1).toNat=c.toNat-1 by omega];exact e5⟩;have hp:=sorted_prev hs hj (by rw [hcc];exact hin);rw [hcc] at hp;unfold CR;have e6:((j:Int)-1).toNat=j-1:=by omega
      rw [show (↑j:Int).toNat=j by omega,e6,hp.2,hcc];have e7:inB ↑j 1 (↑(ts.getD i []).length-1)=true:=by simp only [inB,Bool.and_eq_true,decide_eq_true_eq];omega
      rw [e7];have e8:(JD cs c).grp=(JD cs (c-1)).grp:=by
        show gAt cs c.toNat=gAt cs (c-1).toNat;rw [show (c-1).toNat=c.toNat-1 by omega];omega
      rw [decide_eq_true (show 0<(JD cs c).grp from h0),decide_eq_true e8];rfl
structure Roomy (cs:List Car) (ts:List (List Int)) (k:Nat) (rm:List Int):Prop where
  len:rm.length=k
  ok:∀ n∈rm,0≤n∧n≤20
  fits:∀ i,i<k→lenOf cs (ts.getD i [])≤rm.getD i 0
theorem Roomy.nil (cs:List Car) (ts:List (List Int)):Roomy cs ts 0 []:=⟨rfl,fun n h=>by simp at h,fun i h=>by omega⟩
theorem Roomy.snoc {cs:List Car} {ts:List (List Int)} {k:Nat} {rm:List Int} (h:Roomy cs ts k rm) {n:Int} (hn:0≤n∧n≤20) (hf:lenOf cs (ts.getD k [])≤n):Roomy cs ts (k+1) (rm++[n]):=by
  have hl:=h.len;refine ⟨by simp [hl],fun x hx=>?_,fun i hi=>?_⟩
  · rcases List.mem_append.1 hx with hx | hx
    · exact h.ok x hx
    · simp at hx;subst hx;exact hn
  · by_cases e:i<k
    · have:=h.fits i e
      have e2:(rm++[n]).getD i 0=rm.getD i 0:=by simp only [List.getD];rw [List.getElem?_append_left (by omega)]
      rw [e2];exact this
    · have:i=k:=by omega
      subst this;have e2:(rm++[n]).getD i 0=n:=by simp only [List.getD];rw [List.getElem?_append_right (by omega),hl];simp
      rw [e2];exact hf
theorem Placed.tracks {cs:List Car} {T k a:Nat} {ts:List (List Int)} (h:Placed cs T k a ts):ts.flatten.length=k:=by rw [h.perm.length_eq,wholeL_length]
theorem Placed.tl {cs:List Car} {T k a:Nat} {ts:List (List Int)} (h:Placed cs T k a ts):∀ t∈ts,t.length≤k:=fun t ht=>by
  have:=FV ht;rw [h.tracks] at this;exact this
theorem Placed.okAll {cs:List Car} {T a:Nat} {ts:List (List Int)} (h:Placed cs T cs.length a ts):OkAll cs ts:=fun t ht c hc=>
  mem_wholeL.1 (h.perm.mem_iff.1 (List.mem_flatten.2 ⟨t,ht,hc⟩))
theorem perm_sum {l m:List Int} (h:l.Perm m):l.sum=m.sum:=by
  induction h with
  | nil=>rfl
  | cons x _ ih=>simp [ih]
  | swap x y l=>simp only [List.sum_cons];omega
  | trans _ _ h1 h2=>exact h1.trans h2
theorem erase_perm {α:Type} {d:α} {l:List α} {i:Nat} (h:i<l.length):(l.getD i d::l.eraseIdx i).Perm l:=by
  have e:l=l.take i++l.getD i d::l.drop (i+1):=by rw [← KQ h,List.take_append_drop]
  rw [← erase_take];exact (List.perm_middle.symm).trans (List.Perm.of_eq e.symm)
structure Blk (cs:List Car) (bl:List (List Int)):Prop where
  one:∀ b∈bl,∀ x∈b,∀ y∈b,grp cs x=grp cs y
  apart:bl.Pairwise fun b c=>∀ x∈b,∀ y∈c,0<grp cs x→grp cs x≠grp cs y
theorem Blk.perm {cs:List Car} {bl bl':List (List Int)} (h:Blk cs bl) (p:bl.Perm bl'):Blk cs bl':=
  ⟨fun b hb=>h.one b (p.mem_iff.2 hb),(p.pairwise_iff (fun {b c} hbc x hx y hy h0 e=>hbc y hy x hx (by omega) e.symm)).1 h.apart⟩
def RowOk (cs:List Car) (t:List Int):Prop:=∀ k,k<t.length→0<grp cs (t.getD k 0)→(∃ c∈t.take k,grp cs c=grp cs (t.getD k 0))→0<k∧grp cs (t.getD (k-1) 0)=grp cs (t.getD k 0)
theorem ND {a b:List Int} {k:Nat}:(a++b).getD k 0=if k<a.length then a.getD k 0 else b.getD (k-a.length) 0:=by
  simp only [List.getD]
  split
  · rename_i h;rw [List.getElem?_append_left h]
  · rename_i h;rw [List.getElem?_append_right (by omega)]
theorem Blk.row {cs:List Car}:∀ {bl:List (List Int)},Blk cs bl→RowOk cs bl.flatten:=by
  intro bl
  induction bl with
  | nil=>intro _ k hk;simp at hk
  | cons b r ih=>
    intro h k hk h0 hc;have ih:=ih ⟨fun b hb=>h.one b (List.mem_cons_of_mem _ hb),(List.pairwise_cons.1 h.apart).2⟩;rw [List.flatten_cons] at hk h0 hc ⊢;obtain ⟨c,hc,e⟩:=hc
    by_cases hkb:k<b.length
    · have e0:(b++r.flatten).getD k 0=b.getD k 0:=by rw [ND,if_pos hkb]
      rw [List.take_append_of_le_length (by omega)] at hc;have hk0:0<k:=by
        rcases Nat.eq_zero_or_pos k with hz | hz
        · subst hz;simp at hc
        · exact hz
      refine ⟨hk0,?_⟩;rw [e0,ND,if_pos (by omega)];exact h.one b List.mem_cons_self _ (BC (by omega)) _ (BC hkb)
    · have e0:(b++r.flatten).getD k 0=r.flatten.getD (k-b.length) 0:=by rw [ND,if_neg hkb]
      rw [e0] at h0 e ⊢;have hk2:k-b.length<r.flatten.length:=by rw [List.length_append] at hk;omega
      have hmem:r.flatten.getD (k-b.length) 0∈r.flatten:=BC hk2;rw [List.take_append,List.take_of_length_le (by omega)] at hc;rcases List.mem_append.1 hc with hc | hc
      · exfalso
        obtain ⟨b2,hb2,hm2⟩:=List.mem_flatten.1 hmem;exact (List.pairwise_cons.1 h.apart).1 b2 hb2 c hc _ hm2 (by omega) e
      · obtain ⟨i1,i2⟩:=ih (k-b.length) hk2 h0 ⟨c,hc,e⟩
        refine ⟨by omega,?_⟩;rw [ND,if_neg (by omega),show k-1-b.length=k-b.length-1 by omega];exact i2
theorem coupled_of {cs:List Car} {t:List Int} {k:Nat} (hk:k<t.length) (h0:0<grp cs (t.getD k 0)) (h1:0<k) (e:grp cs (t.getD (k-1) 0)=grp cs (t.getD k 0)):CR cs t ↑k=true:=by
  rw [coupled_raw hk,show ((k:Int)-1).toNat=k-1 by omega,decide_eq_true (show 0<(k:Int) by omega),decide_eq_true (show 0<(JD cs (t.getD k 0)).grp from h0),decide_eq_true (show (JD cs (t.getD k 0)).grp=(JD cs (t.getD (k-1) 0)).grp from e.symm)];rfl
theorem coupled_to {cs:List Car} {t:List Int} {k:Nat} (hk:k<t.length) (h:CR cs t ↑k=true):0<k∧0<grp cs (t.getD k 0)∧grp cs (t.getD k 0)=grp cs (t.getD (k-1) 0):=by
  rw [coupled_raw hk,show ((k:Int)-1).toNat=k-1 by omega] at h;simp only [Bool.and_eq_true,decide_eq_true_eq] at h;exact ⟨by omega,h.2.1,h.2.2⟩
theorem blocks_blk {cs : List Car} {t : List Int} (h : ∀ k, k < t.length → 0 < grp cs (t.getD k 0) → (∃ c ∈ t.take k, grp cs c = grp cs (t.getD k 0)) → CR cs t ↑k = true) :
    ∀ k,k≤t.length→Blk cs (BL cs t k)∧(0<k→∃ ys y,BL cs t k=ys++[y]∧t.getD (k-1) 0∈y):=by
  intro k
  induction k with
  | zero=>intro _;exact ⟨⟨fun b hb=>by simp [BL] at hb,by simp [BL]⟩,fun h=>by omega⟩
  | succ k ih=>
    intro hk;obtain ⟨hb,hl⟩:=ih (by omega)
    by_cases hc:CR cs t ↑k=true
    · obtain ⟨c1,c2,c3⟩:=coupled_to (by omega) hc
      obtain ⟨ys,y,e,hy⟩:=hl c1;have e2:BL cs t (k+1)=ys++[y++[t.getD k 0]]:=by
        rw [blocksTo_yes hc,e];simp [List.getD]
      rw [e2];rw [e] at hb;have ho:=hb.one;have ha:=List.pairwise_append.1 hb.apart;refine ⟨⟨fun b hb2=>?_,List.pairwise_append.2 ⟨ha.1,by simp,fun b hb2 c hc2=>?_⟩⟩,fun _=>⟨ys,_,rfl,by simp⟩⟩
      · rcases List.mem_append.1 hb2 with hb2 | hb2
        · exact ho b (List.mem_append_left _ hb2)
        · have hb2:=List.mem_singleton.1 hb2
          subst hb2;have key:∀ x∈y++[t.getD k 0],grp cs x=grp cs (t.getD (k-1) 0):=fun x hx=>by
            rcases List.mem_append.1 hx with hx | hx
            · exact ho y (by simp) x hx _ hy
            · have hx:=List.mem_singleton.1 hx;subst hx;exact c3
          intro x hx z hz;rw [key x hx,key z hz]
      · have hc2:=List.mem_singleton.1 hc2
        subst hc2;intro x hx z hz h0;rcases List.mem_append.1 hz with hz | hz
        · exact ha.2.2 b hb2 y (by simp) x hx z hz h0
        · have hz:=List.mem_singleton.1 hz;subst hz
          rw [c3];exact ha.2.2 b hb2 y (by simp) x hx _ hy h0
    · have hc':CR cs t ↑k=false:=by simpa using hc
      rw [blocksTo_no hc'];refine ⟨⟨fun b hb2=>?_,List.pairwise_append.2 ⟨hb.apart,by simp,fun b hb2 c hc2=>?_⟩⟩,fun _=>⟨_,_,rfl,by simp⟩⟩
      · rcases List.mem_append.1 hb2 with hb2 | hb2
        · exact hb.one b hb2
        · have hb2:=List.mem_singleton.1 hb2
          subst hb2;intro x hx z hz;rw [List.mem_singleton.1 hx,List.mem_singleton.1 hz]
      · have hc2:=List.mem_singleton.1 hc2
        subst hc2;intro x hx z hz h0 e;have hz:=List.mem_singleton.1 hz;subst hz;refine hc (h k (by omega) (by omega) ⟨x,?_,e⟩);rw [← KO k (by omega)];exact List.mem_flatten.2 ⟨b,hb2,hx⟩
theorem rowsN_perm:∀ (n:Nat) (bl:List (List Int)),bl.length=n→∀ x∈rowsN n bl,∃ bl':List (List Int),bl'.Perm bl∧x=bl'.flatten:=by
  intro n
  induction n with
  | zero=>intro bl h x hx;simp [rowsN,ordN] at hx;subst hx;exact ⟨[],by rw [List.length_eq_zero_iff.1 h],rfl⟩
  | succ n ih=>
    intro bl h x hx;simp only [rowsN,ordN,ordFrom,List.mem_flatMap,List.mem_map] at hx;obtain ⟨i,hi,y,hy,rfl⟩:=hx;have hi:=List.mem_range'_1.1 hi;obtain ⟨bl',hp,rfl⟩:=ih _ (erase_len (k:=i) (by omega) h) y hy;refine ⟨bl.getD i []::bl',?_,rfl⟩;refine (List.Perm.cons _ hp).trans ?_;have hb:i<bl.length:=by omega
    exact erase_perm hb
theorem Fine.row {Y:Yard} (f:Fine Y) {r:List Int} (hr:r∈rowsN (GX Y.cars (trk Y 0)).length (GX Y.cars (trk Y 0))):Valid { Y with tracks:=Y.tracks.set 0 r }∧r.Perm (trk Y 0):=by
  have hlen:=f.len;have hr1:=f.room1;obtain ⟨t,ts,ht⟩:∃ t ts,Y.tracks=t::ts:=by
    cases hh:Y.tracks with
    | nil=>rw [hh] at hlen;simp at hlen;omega
    | cons t ts=>exact ⟨t,ts,rfl⟩
  have ht0:trk Y 0=t:=by show Y.tracks.getD 0 []=t;rw [ht];rfl
  rw [ht0] at hr ⊢;have hg:=groups_iff.1 f.groups;have hrow:∀ k,k<t.length→0<grp Y.cars (t.getD k 0)→(∃ c∈t.take k,grp Y.cars c=grp Y.cars (t.getD k 0))→CR Y.cars t ↑k=true:=fun k hk h0 hc=>by
    have:=hg 0 k (by rw [ht];simp) (by rw [ht];simpa using hk) (by rw [ht];simpa using h0) (.inr (by rw [ht];simpa using hc));rw [ht] at this;simpa using this
  obtain ⟨hb,_⟩:=blocks_blk hrow t.length (Nat.le_refl _);obtain ⟨bl',hp,rfl⟩:=rowsN_perm _ _ rfl r hr;have hflat:(GX Y.cars t).flatten=t:=by
    have:=KO (cs:=Y.cars) (t:=t) t.length (Nat.le_refl _);rw [List.take_length] at this;exact this
  have hperm:bl'.flatten.Perm t:=by
    have:=hp.flatten;rw [hflat] at this;exact this
  have hrok:=(Blk.perm hb hp.symm).row;refine ⟨Fine.valid ⟨f.cars,f.carOk,f.room1,f.room3,f.roomOk,by rw [List.length_set];exact f.len,?_,?_,?_,?_,?_⟩,hperm⟩
  all_goals simp only [ht,List.set_cons_zero]
  · intro x hx c hc
    have hok:=f.ok;rw [ht] at hok;rcases List.mem_cons.1 hx with e | hx
    · subst e;exact hok t List.mem_cons_self c (hperm.mem_iff.1 hc)
    · exact hok x (List.mem_cons_of_mem _ hx) c hc
  · have hn:=f.nodup
    rw [ht] at hn;rw [List.flatten_cons] at hn ⊢;exact (List.Perm.append_right _ hperm).nodup_iff.2 hn
  · intro k hk
    have hf:=f.fits;rw [ht] at hf;cases k with
    | zero=>
      have:=hf 0 (by simp);rw [List.getD_cons_zero] at this ⊢;have e:lenOf Y.cars bl'.flatten=lenOf Y.cars t:=by
        unfold lenOf;exact perm_sum (hperm.map _)
      rw [e];exact this
    | succ k=>simpa using hf (k+1) (by simpa using hk)
  · have ha:=f.all
    rw [ht] at ha;rw [List.flatten_cons,List.length_append] at ha ⊢;rw [hperm.length_eq];exact ha
  · refine groups_iff.2 ?_
    show GrpFrom Y.cars (bl'.flatten::ts) [];intro i k hi hk h0 hm;rcases hm with hm | ⟨c,hc,e⟩
    · simp at hm
    · cases i with
      | zero=>
        simp only [List.getD_cons_zero,List.take_zero,List.flatten_nil,List.nil_append] at hk h0 hc e ⊢;obtain ⟨h1,h2⟩:=hrok k hk h0 ⟨c,hc,e⟩;exact coupled_of hk h0 h1 h2
      | succ i=>
        have:=hg (i+1) k (by rw [ht];simpa using hi) (by rw [ht];simpa using hk) (by rw [ht];simpa using h0) (.inr ⟨c,by
          rw [ht]
          simp only [List.take_succ_cons,List.flatten_cons,List.getD_cons_succ,List.mem_append] at hc ⊢
          rcases hc with (hc | hc) | hc
          · exact .inl (.inl (hperm.mem_iff.1 hc))
          · exact .inl (.inr hc)
          · exact .inr hc,by rw [ht];simpa using e⟩)
        rw [ht] at this;simpa using this
section
variable {Y:Yard} {k:Nat}
end
def yvD:Value × Value × Value:=(undef,undef,undef)
def YardsV (I:Imm) (xs:List (Value × Value × Value)) (Ys:List Yard):Prop:=xs.length=Ys.length∧∀ i,i<xs.length→IsYard I (.agg #[(xs.getD i yvD).1,(xs.getD i yvD).2.1,(xs.getD i yvD).2.2]) (Ys.getD i MO)
theorem YardsV.mono {I J:Imm} {xs:List (Value × Value × Value)} {Ys:List Yard} (h:YardsV I xs Ys) (le:I.le J):YardsV J xs Ys:=⟨h.1,fun i hi=>(h.2 i hi).mono le⟩
theorem YardsV.nil (I:Imm):YardsV I [] []:=⟨rfl,fun i hi=>by simp at hi⟩
theorem YardsV.snoc {I:Imm} {xs:List (Value × Value × Value)} {Ys:List Yard} {a b c:Value} {Y:Yard} (h:YardsV I xs Ys) (hY:IsYard I (.agg #[a,b,c]) Y):YardsV I (xs++[(a,b,c)]) (Ys++[Y]):=by
  refine ⟨by simp [h.1],fun i hi=>?_⟩;rw [List.length_append,List.length_singleton] at hi;have hl:=h.1
  by_cases hb:i<xs.length
  · have e1:(xs++[(a,b,c)]).getD i yvD=xs.getD i yvD:=by simp [List.getD,List.getElem?_append_left hb]
    have e2:(Ys++[Y]).getD i MO=Ys.getD i MO:=by simp [List.getD,List.getElem?_append_left (show i<Ys.length by omega)]
    rw [e1,e2];exact h.2 i hb
  · obtain rfl:i=xs.length:=by omega
    have e1:(xs++[(a,b,c)]).getD xs.length yvD=(a,b,c):=by simp [List.getD]
    have e2:(Ys++[Y]).getD xs.length MO=Y:=by simp [List.getD,hl]
    rw [e1,e2];exact hY
theorem YardsV.at {I : Imm} {xs : List (Value × Value × Value)} {Ys : List Yard} (h : YardsV I xs Ys) {i : Nat} (hi : i < xs.length) :
    ∃ a b c,xs.getD i yvD=(a,b,c)∧IsCars I a (Ys.getD i MO).cars∧AX I b (Ys.getD i MO).room∧IsRows I c (Ys.getD i MO).tracks:=by
  obtain ⟨v1,v2,v3,h1,h2,h3,h4⟩:=h.2 i hi;simp only [Value.agg.injEq] at h1;have e:=congrArg Array.toList h1;simp only [List.cons.injEq,and_true] at e;refine ⟨v1,v2,v3,?_,h2,h3,h4⟩;rw [← e.1,← e.2.1,← e.2.2]
def RowsS (I:Imm) (vs:List Value) (Ls:List (List Shift)):Prop:=vs.length=Ls.length∧∀ i,i<Ls.length→IsShifts I (vs.getD i undef) (Ls.getD i [])
theorem RowsS.mono {I J:Imm} {vs:List Value} {Ls:List (List Shift)} (h:RowsS I vs Ls) (le:I.le J):RowsS J vs Ls:=⟨h.1,fun i hi=>(h.2 i hi).mono le⟩
theorem RowsS.nil (I:Imm):RowsS I [] []:=⟨rfl,fun i hi=>by simp at hi⟩
theorem RowsS.snoc {I:Imm} {vs:List Value} {Ls:List (List Shift)} {v:Value} {l:List Shift} (h:RowsS I vs Ls) (hv:IsShifts I v l):RowsS I (vs++[v]) (Ls++[l]):=by
  have hl:=h.1;refine ⟨by simp [hl],fun i hi=>?_⟩;rw [List.length_append,List.length_singleton] at hi
  by_cases hb:i<Ls.length
  · have e1:(vs++[v]).getD i undef=vs.getD i undef:=by simp [List.getD,List.getElem?_append_left (show i<vs.length by omega)]
    have e2:(Ls++[l]).getD i []=Ls.getD i []:=by simp [List.getD,List.getElem?_append_left hb]
    rw [e1,e2];exact h.2 i hb
  · obtain rfl:i=Ls.length:=by omega
    have e1:(vs++[v]).getD Ls.length undef=v:=by simp [List.getD,← hl]
    have e2:(Ls++[l]).getD Ls.length []=l:=by simp [List.getD]
    rw [e1,e2];exact hv
structure Few (n:Nat) (Y:Yard):Prop where
  cars:Y.cars.length≤n
  room:Y.room.length≤n
  tracks:Y.tracks.length≤n
  each:∀ t∈Y.tracks,t.length≤n
theorem Fine.few {Y:Yard} (f:Fine Y):Few 20 Y:=by
  have h1:=f.cars;have h2:=f.room3;have h3:=f.len;refine ⟨by omega,by omega,by omega,fun t ht=>?_⟩;have:=FV ht;have:=f.sum;omega
end Go.Sh
namespace Go.Sl
open Go
end Go.Sl
namespace Go.Sh
open Go Go.Sl
end Go.Sh
namespace Go.Sl
open Go
section
variable {P:Program} {N:Nat} {ops:Array Oper} {i d:Nat} {l:Sl} {I:Imm} {R:Seg} {ty:TypeId} {gd:Option (Nat × Bool)}
theorem det_remT {x y : Operand} {T T' : TypeId} {k : IntKind} {a b : Int} (hop : ES ops N i = some (some d, .binOp .rem T x y T', ty, gd)) (hg : EF ops l gd = some true)
    (hx:BR l x=some (.int k a)) (hy:BR l y=some (.int k b)) (hb:1≤b):Det P N ops i l I R d (.int k (a.tmod b)):=
  det_bin hop hg hx hy fun I' M'=>by
    have hne:b≠0:=by omega
    simp only [binOp,Op.intDiv,ne_eq,not_true_eq_false,if_false,if_neg hne];exact ⟨rfl,rfl⟩
end
theorem tmod_bounds {x:Int} {n:Nat} (hn:2≤n):-(n:Int)<x.tmod n∧x.tmod n<n:=
  ⟨by have:=Int.lt_tmod_of_pos x (show (0:Int)<n by omega);omega,Int.tmod_lt_of_pos x (by omega)⟩
theorem fold_nat {x:Int} {n:Nat} (hn:2≤n):∃ r:Nat,(x.tmod n+n)%(n:Int)=↑r∧r<n:=by
  have h1:=Int.emod_nonneg (x.tmod n+n) (show (n:Int)≠0 by omega);have h2:=Int.emod_lt_of_pos (x.tmod n+n) (show (0:Int)<n by omega);exact ⟨((x.tmod n+n)%(n:Int)).toNat,by omega,by omega⟩
end Go.Sl
namespace Go.Sh
open Go Go.Sl
end Go.Sh
namespace Go.Proofs.Ytgcemienebmdeaa
open Go Go.Sl Go.Sh
set_option maxRecDepth 100000
noncomputable def c_Fold (p:List Nat):Code:=sub (AP Try.f37) p
theorem Fold_ct (I:Imm) (x:Int) (n:Nat) (hn:n≤1000000):Ct Try.prog 37 #[vI x,vI ↑n] I ([]) (fun v I' M'=>∃ r:Nat,v=vI (↑r)∧M'=[]∧(r=0∨r<n)):=by
 refine fr (args:=[_,_]) (N:=14) Try.func37 (fun F=>?_);show Run _ _ (c_Fold []) _ _ [(0,vI (x)),(1,vI (↑n))] _ _;refine rnm (rqr ?_);refine sp 1 [(4,vI (0))] (se (rq (rqr (sp 2 [(6,.bool (cmp .lss (↑n) (2)))] (se (rc 6 rfl (fun h1=>?_) (fun h1=>?_)))))))
 ·
  have a0:=h1;have h1:=CD h1;refine rqr (sp 1 [(4,vI (0))] (se (BM ((RP (AH (t:=4) [] (by kernel_rfl) rfl (TR _) (IR _) ?_))))));exact ⟨0,rfl,rfl,.inl rfl⟩
 have a0:=h1;have h1:=CP h1;refine AQ (NX (rqr (sp 2 [(8,vI (↑n)),(7,vI (x))] (sd (det_remT (x:=(.tmp 7)) (y:=(.tmp 8)) (T:=3) (T':=3) (d:=9) (ty:=3) (gd:=none) (by kernel_rfl) rfl rfl rfl (by omega)) (sp 1 [(10,vI (↑n))] ?_)))));have hq:=tmod_bounds (x:=x) (n:=n) (by omega);refine sd (da 11 (Int.tmod x ↑n) (↑n)) (sp 1 [(12,vI (↑n))] (sd (det_rem (x:=(.tmp 11)) (y:=(.tmp 12)) (T:=3) (T':=3) (d:=13) (ty:=3) (gd:=none) (by kernel_rfl) rfl rfl rfl (by omega) (by omega)) ?_));obtain ⟨r,hr,a1⟩:=fold_nat (x:=x) (n:=n) (by omega);refine DW 13 rfl (show (vI (((Int.tmod x ↑n)+↑n)%↑n):Value)=vI (↑r) from congrArg (Value.int .i64) hr) (sp 1 [(4,vI (↑r))] (se (BM (AH (t:=4) [] (by kernel_rfl) rfl (TR _) (IR _) ?_))));exact ⟨r,rfl,rfl,.inr a1⟩
noncomputable def c_poolOf (p:List Nat):Code:=sub (AP Try.f9) p
theorem poolOf_ct (I:Imm) (p:Nat) (p_s:Int):Ct Try.prog 9 #[vP p 0] I ([(bX p #[.int .u64 (p_s)] 71)]) (fun v I' M'=>∃ p_t:Int,∃ h:List Int,∃ nd:List Int,∃ b:Int,∃ u0:Value,∃ Ms0:Seg,∃ u1:Value,∃ Ms1:Seg,v=.tuple #[u0,u1,vI (b)]∧M'=[(bX p #[.int .u64 (p_t)] 71)]++(Ms0++(Ms1))∧((∀ x∈h,0≤x∧x≤14)∧h.length≤4∧nd.length≤4)∧Own 3 1 AK u0 (h) Ms0∧Own 3 1 AK u1 (nd) Ms1):=by
 refine fr (args:=[_]) (N:=28) Try.func9 (fun F=>?_);show Run _ _ (c_poolOf []) _ _ [(0,vP p 0)] _ _;refine rnm (rqr ?_);refine sp 3 [(4,vI (0)),(3,vN),(2,vN)] (sn (sp 2 [(6,vN),(5,vN)] (se (rq (rqr (sp 1 [(8,vP p 0)] (sS (sc (some 9) (F:=(F)) (From_ct _ (p) (p_s) (1) (4) (by omega) (by omega) :) (.refl _) (fun h2 I1 f8 d8 f2=>?_)))))))));obtain ⟨e4,r7,e8,e6,h0⟩:=f2;rw [e8,e6];clear e8 e6;refine nm ?_;refine sp 1 [(7,vI ((r7)))] (DW 7 rfl (show (vI ((r7)):Value)=vI ((r7)-↑(0:Nat)) from congrArg (Value.int .i64) (by omega)) (se (rb 0 ?_)));refine rl (fun mz a w=>∃ J0:Imm,∃ c:Nat,∃ hs:List Int,∃ ns:List Int,∃ d6:Int,∃ a8:Value,∃ a1:Seg,∃ a9:Value,∃ a0:Seg,(I1.le J0)∧((c:Int)≤(r7))∧(hs.length=c)∧(ns.length=c)∧((∀ x∈hs,0≤x∧x≤14))∧(Own 3 1 AK a8 (hs) a1)∧(Own 3 1 AK a9 (ns) a0)∧Slots 28 [(5,a8),(6,a9),(7,vI ((r7)-↑c)),(0,vP p 0),(2,vN),(3,vN),(4,vI (0))] a∧a.defers=[]∧St J0 ((bX p #[.int .u64 (d6)] 71)::(a1++(a0++F))) w∧mz=((r7)).toNat-c) ?_ ?_
 ·intro a w hS hD hW;exact ⟨_,I1,0,[],[],e4,(vN),[],(vN),[],IR _,by omega,rfl,rfl,(fun x hx=>by simp at hx),(Own.nil _ _ _),(Own.nil _ _ _),hS.sub (.cons 5 rfl (.cons 6 rfl (.cons 7 rfl (.cons 0 rfl (.cons 2 rfl (.cons 3 rfl (.cons 4 rfl (.nil _)))))))),hD,hW,rfl⟩
 rintro mz a w ⟨J0,c,hs,ns,d6,a8,a1,a9,a0,hJ0,hc,f0,f1,e7,a6,a7,hS,hD,hW,rfl⟩
 refine AU hS hD hW ?_;clear hS hD hW a w;obtain ⟨a2,a3,b1,d4⟩:=a6.shape;subst b1;obtain ⟨a4,a5,b2,d5⟩:=a7.shape;subst b2;refine rq (rqr (sp 2 [(11,.bool (cmp .gtr ((r7)-↑c) (0)))] (se (rc 11 rfl (fun h1=>?_) (fun h1=>?_)))))
 ·
  have d7:=h1;have h1:=KA h1;refine AQ (NX (rq (rb 1 (rr (sp 2 [(15,vP p 0),(14,vS a2 hs.length a3)] (sS (sc (some 16) (F:=((a1++(a0++F)))) (Up_ct _ (p) (d6) (14) (by omega) :) (.refl _) (fun g3 g6 g0 b6 d9=>?_))))))));obtain ⟨b3,c7,c4,b9,e5⟩:=d9;rw [c4,b9];clear c4 b9;refine nm ?_;refine sS (sbs 17 3 1 #[vI (↑c7)] (fun g8=>(sS (BK (d:=18) (x:=(.tmp 14)) (y:=(.tmp 17)) (T:=22) (T':=22) (E:=3) (E':=3) (sz:=1) (bs:=8) (z:=vI (0)) (cell:=AK) (xs:=hs) (ys:=[(↑c7:Int)]) (Ms:=a1) (ty:=22) (gd:=none) (by kernel_rfl) rfl (by kernel_rfl) (by kernel_rfl) (by kernel_rfl) (by kernel_rfl) (by kernel_rfl) (by decide) (by kernel_rfl) rfl rfl (a6) (PU (PM.symm)) (BZ _) (GI 0 rfl rfl) (by first | omega | (simp only [LC,LN];omega)) (fun h3 b0 c2=>(BG (M':=((bX p #[.int .u64 (b3)] 71)::(b0++(a0++F)))) (fun w h=>(h.perm (PW PM)).sub (TC _ (TR _))) ?_))))));obtain ⟨c9,d1,e2,f3⟩:=c2.shape;subst e2;refine sp 2 [(20,vP p 0),(19,vS a4 ns.length a5)] (sS (sc (some 21) (F:=((b0++(a0++F)))) (Up_ct _ (p) (b3) (10) (by omega) :) (.refl _) (fun g4 e9 g1 b7 e0=>?_)));obtain ⟨b4,c8,c5,c0,f5⟩:=e0;rw [c5,c0];clear c5 c0;refine nm ?_;refine sS (sbs 22 3 1 #[vI (↑c8)] (fun g9=>(sS (BK (d:=23) (x:=(.tmp 19)) (y:=(.tmp 22)) (T:=22) (T':=22) (E:=3) (E':=3) (sz:=1) (bs:=8) (z:=vI (0)) (cell:=AK) (xs:=ns) (ys:=[(↑c8:Int)]) (Ms:=a0) (ty:=22) (gd:=none) (by kernel_rfl) rfl (by kernel_rfl) (by kernel_rfl) (by kernel_rfl) (by kernel_rfl) (by kernel_rfl) (by decide) (by kernel_rfl) rfl rfl (a7) (PU (PU (PO _ _ _))) (BZ _) (GI 0 rfl rfl) (by first | omega | (simp only [LC,LN];omega)) (fun h4 b5 c3=>(BG (M':=((bX p #[.int .u64 (b4)] 71)::(b5++(b0++F)))) (fun w h=>(h.perm (PW PM)).sub (TC _ (TR _))) ?_))))));obtain ⟨d0,d2,e3,f4⟩:=c3.shape;subst e3;refine sp 2 [(6,vS d0 (ns++([(↑c8:Int)])).length d2),(5,vS c9 (hs++([(↑c7:Int)])).length d1)] (ee (NB (NX (rr (sp 1 [(12,vI ((r7)-↑c))] (sd (dsb 13 ((r7)-↑c) (1)) (sp 1 [(7,vI (((r7)-↑c)-1))] (ee ?_))))))));refine AN (((r7)).toNat-(c+1)) (by omega) ?_;intro a w hS hD hW;exact ⟨e9,c+1,hs++([(↑c7:Int)]),ns++([(↑c8:Int)]),b4,vS c9 (hs++([(↑c7:Int)])).length d1,b0,vS d0 (ns++([(↑c8:Int)])).length d2,b5,(IT (IT hJ0 b6) b7),by omega,by rw [LA,f0];rfl,by rw [LA,f1];rfl,small_snoc e7 e5,c2,c3,hS.sub (.consE 5 rfl rfl (.consE 6 rfl rfl (.consE 7 rfl (congrArg (Value.int .i64) (by omega)) (.cons 0 rfl (.cons 2 rfl (.cons 3 rfl (.cons 4 rfl (.nil _)))))))),hD,hW.perm (PC _ (PO _ _ _)),rfl⟩
 have d7:=h1;have h1:=KG h1;refine CG 0 ((EP (EP (EB (NX (rqr (sp 3 [(26,vP p 0),(25,vS a4 ns.length a5),(24,vS a2 hs.length a3)] (sS (sc (some 27) (F:=((a1++(a0++F)))) (From_ct _ (p) (d6) (1) (4) (by omega) (by omega) :) (.refl _) (fun g5 g7 g2 b8 e1=>?_))))))))));obtain ⟨d3,f7,c6,c1,f6⟩:=e1;rw [c6,c1];clear c6 c1;refine nm ?_;refine sp 3 [(4,vI ((f7))),(3,vS a4 ns.length a5),(2,vS a2 hs.length a3)] (se (BM (pst_ret3 (t:=2) (u:=3) (r:=4) ([(bX p #[.int .u64 (d3)] 71)]++(a1++(a0))) (by kernel_rfl) rfl rfl rfl (by simp only [AA,NA,CA];exact (TK _ (TA (TA (TR _) _) _))) (IT (IT d8 hJ0) b8) ?_)));exact ⟨_,_,_,_,_,_,_,_,rfl,rfl,⟨e7,by omega,by omega⟩,a6,a7⟩
noncomputable def c_tight (p:List Nat):Code:=sub (AP Try.f10) p
theorem tight_ct (I:Imm) (a:Value) (l:List Int) (a_f:AX I a l):Ct Try.prog 10 #[a] I ([]) (fun v I' M'=>∃ t:List Int,∃ u:Value,∃ Ms:Seg,v=u∧M'=Ms∧((∀ x∈t,0≤x∧x≤14)∧t.length≤4)∧Own 3 1 AK u (t) Ms):=by
 obtain ⟨b3,b4,c7,d0,c3,c8,c9,b5⟩:=id a_f;subst c3;refine fr (args:=[_]) (N:=24) Try.func10 (fun F=>?_);show Run _ _ (c_tight []) _ _ [(0,vS b3 l.length b4)] _ _;refine rnm (rqr ?_);refine sp 1 [(2,vN)] (sn (sp 1 [(3,vN)] (se (rq (rqr (sp 1 [(4,vI (0))] (se (rb 0 ?_))))))));refine rl (fun mz a w=>∃ J0:Imm,∃ c:Nat,∃ ts:List Int,∃ a5:Value,∃ a0:Seg,(I.le J0)∧(c≤l.length)∧(c≤4)∧(ts.length=c)∧((∀ x∈ts,0≤x∧x≤14))∧(Own 3 1 AK a5 (ts) a0)∧Slots 24 [(3,a5),(4,vI ↑c),(0,vS b3 l.length b4),(2,vN)] a∧a.defers=[]∧St J0 ((a0++F)) w∧mz=l.length-c) ?_ ?_
 ·intro a w hS hD hW;exact ⟨_,I,0,[],(vN),[],IR _,Nat.zero_le _,Nat.zero_le _,rfl,(fun x hx=>by simp at hx),(Own.nil _ _ _),hS.sub (.cons 3 rfl (.cons 4 rfl (.cons 0 rfl (.cons 2 rfl (.nil _))))),hD,hW,rfl⟩
 rintro mz a w ⟨J0,c,ts,a5,a0,hJ0,hc,d2,c4,c1,a4,hS,hD,hW,rfl⟩
 refine AU hS hD hW ?_;clear hS hD hW a w;replace b5:=b5.mono hJ0;obtain ⟨a1,a2,a6,b6⟩:=a4.shape;subst a6;refine rq (rq ?_);refine DC (fun a w=>Slots 24 [(0,vS b3 l.length b4),(2,vN),(3,vS a1 ts.length a2),(4,vI (↑c)),(12,.bool ((cmp .lss (↑c) (↑(l.length)))&&(cmp .lss (↑c) (4))))] a∧a.defers=[]∧St J0 ((a0++F)) w) ?_ ?_
 ·
  refine rr (sp 5 [(9,.bool (cmp .lss (↑c) (↑(l.length))))] ?_);refine BB 9 rfl (fun h1=>?_) (fun h1=>?_)
  ·
   have a3:=h1;have a3:=CD a3;refine sp 3 [(12,.bool (cmp .lss (↑c) (4)))] (ee ?_);refine AO (fun a w hS hD hW=>⟨hS.sub (.cons 0 rfl (.cons 2 rfl (.cons 3 rfl (.cons 4 rfl (.consE 12 rfl (congrArg Value.bool (by simp only [h1,kA,kB,kC,kD,kE,kF,kG,kH,kI,kJ])) (.nil _)))))),hD,hW⟩)
  have a3:=h1;have a3:=CP a3;refine sp 3 [(12,.bool (false))] (ee ?_);refine AO (fun a w hS hD hW=>⟨hS.sub (.cons 0 rfl (.cons 2 rfl (.cons 3 rfl (.cons 4 rfl (.consE 12 rfl (congrArg Value.bool (by simp only [h1,kA,kB,kC,kD,kE,kF,kG,kH,kI,kJ])) (.nil _)))))),hD,hW⟩)
 rintro a w ⟨hS,hD,hW⟩
 refine AU hS hD hW ?_;clear hS hD hW a w;refine rc 12 rfl (fun h2=>?_) (fun h2=>?_)
 ·
  have b7:=h2;obtain ⟨a8,a9⟩:=MS h2;have a8:=CD a8;have a9:=CD a9;refine AQ (NX (rq (rb 1 (rr (sp 3 [(17,vI (↑c)),(16,vS b3 l.length b4),(15,vS a1 ts.length a2)] (sd (di 18 1 (c) b5.addr) (sd (dl 19 (BA b5 (c) (by omega))) (sS (sc (some 20) (F:=((a0++F))) (Fold_ct _ (l.getD (c) 0) (15) (by omega) :) (.refl _) (fun d5 I1 d4 b8 c5=>?_))))))))));obtain ⟨r6,c2,c0,d3⟩:=c5;rw [c2,c0];clear c2 c0;refine nm ?_;refine sS (sbs 21 3 1 #[vI (↑r6)] (fun d1=>(sS (BK (d:=22) (x:=(.tmp 15)) (y:=(.tmp 21)) (T:=22) (T':=22) (E:=3) (E':=3) (sz:=1) (bs:=8) (z:=vI (0)) (cell:=AK) (xs:=ts) (ys:=[(↑r6:Int)]) (Ms:=a0) (ty:=22) (gd:=none) (by kernel_rfl) rfl (by kernel_rfl) (by kernel_rfl) (by kernel_rfl) (by kernel_rfl) (by kernel_rfl) (by decide) (by kernel_rfl) rfl rfl (a4) (PM.symm) (BZ _) (GI 0 rfl rfl) (by first | omega | (simp only [LC,LN];omega)) (fun d6 a7 b0=>(BG (M':=((a7++F))) (fun w h=>(h.perm PM).sub (TC _ (TR _))) ?_))))));obtain ⟨b1,b2,b9,c6⟩:=b0.shape;subst b9;refine sp 1 [(3,vS b1 (ts++([(↑r6:Int)])).length b2)] (ee (NB (NX (rr (sp 1 [(13,vI (↑c))] (sd (da 14 (↑c) (1)) (sp 1 [(4,vI (↑c+1))] (ee ?_))))))));refine AN (l.length-(c+1)) (by omega) ?_;intro a w hS hD hW;exact ⟨I1,c+1,ts++([(↑r6:Int)]),vS b1 (ts++([(↑r6:Int)])).length b2,a7,(IT hJ0 b8),by omega,by omega,by rw [LA,c4];rfl,small_snoc c1 (by omega),b0,hS.sub (.consE 3 rfl rfl (.consE 4 rfl rfl (.cons 0 rfl (.cons 2 rfl (.nil _))))),hD,hW,rfl⟩
 have b7:=h2;refine CG 0 ((EP (EP (EB (NX (rqr (sp 2 [(2,vS a1 ts.length a2)] (se (BM (AH (t:=2) (a0) (by kernel_rfl) rfl (TA (TR _) _) hJ0 ?_))))))))));exact ⟨_,_,_,rfl,rfl,⟨c1,by omega⟩,a4⟩
noncomputable def c_heavy (p:List Nat):Code:=sub (AP Try.f11) p
theorem heavy_ct (I:Imm) (a:Value) (h:List Int) (b:Value) (nd:List Int) (a_f:AX I a h) (b_f:AX I b nd):Ct Try.prog 11 #[a,b] I ([]) (fun v I' M'=>∃ hv:Bool,v=.bool (hv)∧M'=[]∧(hv=false→∀ i,i<h.length→i<nd.length→¬ (14<h.getD i 0∧h.getD i 0≤50))):=by
 obtain ⟨a8,a9,b8,c1,b6,b9,c0,b4⟩:=id a_f;subst b6;obtain ⟨a5,a6,c2,c5,b7,c3,c4,a7⟩:=id b_f;subst b7;refine fr (args:=[_,_]) (N:=44) Try.func11 (fun F=>?_);show Run _ _ (c_heavy []) _ _ [(0,vS a8 h.length a9),(1,vS a5 nd.length a6)] _ _;refine rnm (rqr ?_);refine sp 1 [(4,.bool (false))] (se (rq (rqr (sp 1 [(5,vI (0))] (se (rb 0 ?_))))));refine rl (fun mz a w=>∃ c:Nat,(c≤h.length)∧(∀ i,i<c→¬ (14<h.getD i 0∧h.getD i 0≤50))∧Slots 44 [(5,vI ↑c),(0,vS a8 h.length a9),(1,vS a5 nd.length a6)] a∧a.defers=[]∧St I (F) w∧mz=h.length-c) ?_ ?_
 ·intro a w hS hD hW;exact ⟨_,0,Nat.zero_le _,(fun i hi=>by omega),hS.sub (.cons 5 rfl (.cons 0 rfl (.cons 1 rfl (.nil _)))),hD,hW,rfl⟩
 rintro mz a w ⟨c,hc,b5,hS,hD,hW,rfl⟩
 refine AU hS hD hW ?_;clear hS hD hW a w;refine rq (rq ?_);refine DC (fun a w=>Slots 44 [(0,vS a8 h.length a9),(1,vS a5 nd.length a6),(5,vI (↑c)),(15,.bool ((cmp .lss (↑c) (↑(h.length)))&&(cmp .lss (↑c) (↑(nd.length)))))] a∧a.defers=[]∧St I (F) w) ?_ ?_
 ·
  refine rr (sp 5 [(10,.bool (cmp .lss (↑c) (↑(h.length))))] ?_);refine BB 10 rfl (fun h1=>?_) (fun h1=>?_)
  ·
   have a0:=h1;have a0:=CD a0;refine sp 5 [(15,.bool (cmp .lss (↑c) (↑(nd.length))))] (ee ?_);refine AO (fun a w hS hD hW=>⟨hS.sub (.cons 0 rfl (.cons 1 rfl (.cons 5 rfl (.consE 15 rfl (congrArg Value.bool (by simp only [h1,kA,kB,kC,kD,kE,kF,kG,kH,kI,kJ])) (.nil _))))),hD,hW⟩)
  have a0:=h1;have a0:=CP a0;refine sp 5 [(15,.bool (false))] (ee ?_);refine AO (fun a w hS hD hW=>⟨hS.sub (.cons 0 rfl (.cons 1 rfl (.cons 5 rfl (.consE 15 rfl (congrArg Value.bool (by simp only [h1,kA,kB,kC,kD,kE,kF,kG,kH,kI,kJ])) (.nil _))))),hD,hW⟩)
 rintro a w ⟨hS,hD,hW⟩
 refine AU hS hD hW ?_;clear hS hD hW a w;refine rc 15 rfl (fun h2=>?_) (fun h2=>?_)
 ·
  have b2:=h2;obtain ⟨b0,b1⟩:=MS h2;have b0:=CD b0;have b1:=CD b1;refine AQ (NX (rq (rb 1 (rq ?_))));refine DC (fun a w=>Slots 44 [(0,vS a8 h.length a9),(1,vS a5 nd.length a6),(5,vI (↑c)),(43,.bool (bif (cmp .gtr (h.getD (c) 0) (14)) then ((cmp .leq (h.getD (c) 0) (50))||((cmp .gtr (nd.getD (c) 0) (14))&&(cmp .leq (nd.getD (c) 0) (50)))) else ((cmp .gtr (nd.getD (c) 0) (14))&&(cmp .leq (nd.getD (c) 0) (50)))))] a∧a.defers=[]∧St I (F) w) ?_ ?_
  ·
   refine rr (sp 2 [(19,vI (↑c)),(18,vS a8 h.length a9)] (sd (di 20 1 (c) b4.addr) (sd (dl 21 (BA b4 (c) (by omega))) (sp 2 [(23,.bool (cmp .gtr (h.getD (c) 0) (14)))] ?_))));refine BB 23 rfl (fun h3=>?_) (fun h3=>?_)
   ·
    have a1:=h3;have a1:=KA a1;refine sp 2 [(25,vI (↑c)),(24,vS a8 h.length a9)] (sd (di 26 1 (c) b4.addr) (sd (dl 27 (BA b4 (c) (by omega))) (sp 3 [(30,.bool (cmp .leq (h.getD (c) 0) (50)))] ?_)));refine BB 30 rfl (fun h4=>?_) (fun h4=>?_)
    ·
     have a2:=h4;have a2:=leq_t a2;refine sp 13 [(43,.bool (true))] (ee ?_);refine AO (fun a w hS hD hW=>⟨hS.sub (.cons 0 rfl (.cons 1 rfl (.cons 5 rfl (.consE 43 rfl (congrArg Value.bool (by simp only [h3,h4,kA,kB,kC,kD,kE,kF,kG,kH,kI,kJ])) (.nil _))))),hD,hW⟩)
    have a2:=h4;have a2:=leq_f a2;refine sp 2 [(32,vI (↑c)),(31,vS a5 nd.length a6)] (sd (di 33 1 (c) a7.addr) (sd (dl 34 (BA a7 (c) (by omega))) (sp 2 [(36,.bool (cmp .gtr (nd.getD (c) 0) (14)))] ?_)));refine BB 36 rfl (fun h5=>?_) (fun h5=>?_)
    ·
     have a3:=h5;have a3:=KA a3;refine sp 2 [(38,vI (↑c)),(37,vS a5 nd.length a6)] (sd (di 39 1 (c) a7.addr) (sd (dl 40 (BA a7 (c) (by omega))) (sp 3 [(43,.bool (cmp .leq (nd.getD (c) 0) (50)))] (ee ?_))));refine AO (fun a w hS hD hW=>⟨hS.sub (.cons 0 rfl (.cons 1 rfl (.cons 5 rfl (.consE 43 rfl (congrArg Value.bool (by simp only [h3,h4,h5,kA,kB,kC,kD,kE,kF,kG,kH,kI,kJ])) (.nil _))))),hD,hW⟩)
    have a3:=h5;have a3:=KG a3;refine sp 7 [(43,.bool (false))] (ee ?_);refine AO (fun a w hS hD hW=>⟨hS.sub (.cons 0 rfl (.cons 1 rfl (.cons 5 rfl (.consE 43 rfl (congrArg Value.bool (by simp only [h3,h4,h5,kA,kB,kC,kD,kE,kF,kG,kH,kI,kJ])) (.nil _))))),hD,hW⟩)
   have a1:=h3;have a1:=KG a1;refine sp 9 [(32,vI (↑c)),(31,vS a5 nd.length a6),(30,.bool (false))] (sd (di 33 1 (c) a7.addr) (sd (dl 34 (BA a7 (c) (by omega))) (sp 2 [(36,.bool (cmp .gtr (nd.getD (c) 0) (14)))] ?_)));refine BB 36 rfl (fun h6=>?_) (fun h6=>?_)
   ·
    have a4:=h6;have a4:=KA a4;refine sp 2 [(38,vI (↑c)),(37,vS a5 nd.length a6)] (sd (di 39 1 (c) a7.addr) (sd (dl 40 (BA a7 (c) (by omega))) (sp 3 [(43,.bool (cmp .leq (nd.getD (c) 0) (50)))] (ee ?_))));refine AO (fun a w hS hD hW=>⟨hS.sub (.cons 0 rfl (.cons 1 rfl (.cons 5 rfl (.consE 43 rfl (congrArg Value.bool (by simp only [h3,h6,kA,kB,kC,kD,kE,kF,kG,kH,kI,kJ])) (.nil _))))),hD,hW⟩)
   have a4:=h6;have a4:=KG a4;refine sp 7 [(43,.bool (false))] (ee ?_);refine AO (fun a w hS hD hW=>⟨hS.sub (.cons 0 rfl (.cons 1 rfl (.cons 5 rfl (.consE 43 rfl (congrArg Value.bool (by simp only [h3,h6,kA,kB,kC,kD,kE,kF,kG,kH,kI,kJ])) (.nil _))))),hD,hW⟩)
  rintro a w ⟨hS,hD,hW⟩
  refine AU hS hD hW ?_;clear hS hD hW a w;refine rc 43 rfl (fun h7=>?_) (fun h7=>?_)
  ·
   have b3:=h7;refine rqr (sp 1 [(4,.bool (true))] (se (BM ((RB (RP (RP (RB (RP (AH (t:=4) [] (by kernel_rfl) rfl (TR _) (IR _) ?_))))))))));exact ⟨true,rfl,rfl,fun hq=>absurd hq (by decide)⟩
  have b3:=h7;refine AQ (NB (NX (rr (sp 1 [(16,vI (↑c))] (sd (da 17 (↑c) (1)) (sp 1 [(5,vI (↑c+1))] (ee ?_)))))));refine AN (h.length-(c+1)) (by omega) ?_;intro a w hS hD hW;exact ⟨c+1,by omega,heavy_next b5 b3,hS.sub (.consE 5 rfl rfl (.cons 0 rfl (.cons 1 rfl (.nil _)))),hD,hW,rfl⟩
 have b2:=h2;refine CG 0 ((EP (EP (EB (NX (rqr (sp 1 [(4,.bool (false))] (se (BM (AH (t:=4) [] (by kernel_rfl) rfl (TR _) (IR _) ?_))))))))));exact ⟨false,rfl,rfl,fun _ i h1 h2=>b5 i (heavy_end b2 h1 h2)⟩
def ListsAt (n m:Nat):Prop:=∀ (I:Imm) (gv:Value) (g:List Int) (lv:Value) (l:List Int) (fo to:Nat) (fi ti:Int) (hfi:fi=(fo:Int)) (hti:ti=(to:Int)) (gv_f:AX I gv g) (lv_f:AX I lv l) (hgl:g.length=n) (hll:l.length=n) (hto:to≤n) (hfl:fo≤n) (hfr:fo*n+to+m=n*n) (hn:1≤n∧n≤4) (hB:(AM n m g l).length≤100000) (hgb:∀ x∈g,0≤x∧x≤50) (hlb:∀ x∈l,0≤x∧x≤50),Ct Try.prog 26 #[gv,lv,vI fi,vI ti] I [] (fun u I' M'=>∃ ws,Own 31 1 DM u ws M'∧CartsV I' ws (AM n m g l))
noncomputable def c_Lists (p:List Nat):Code:=sub (AP Try.f26) p
set_option maxHeartbeats 1000000 in
theorem lists_of (n m:Nat) (ihm:∀ q,m=q+1→ListsAt n q) (I:Imm) (gv:Value) (g:List Int) (lv:Value) (l:List Int) (fo to:Nat) (fi ti:Int) (hfi:fi=(fo:Int)) (hti:ti=(to:Int)) (gv_f:AX I gv g) (lv_f:AX I lv l) (hgl:g.length=n) (hll:l.length=n) (hto:to≤n) (hfl:fo≤n) (hfr:fo*n+to+m=n*n) (hn:1≤n∧n≤4) (hB:(AM n m g l).length≤100000) (hgb:∀ x∈g,0≤x∧x≤50) (hlb:∀ x∈l,0≤x∧x≤50) (ihs:to=n→fo<n→Ct Try.prog 26 #[gv,lv,vI ((fo:Int)+1),vI 0] I [] (fun u I' M'=>∃ ws,Own 31 1 DM u ws M'∧CartsV I' ws (AM n m g l))):Ct Try.prog 26 #[gv,lv,vI fi,vI ti] I [] (fun u I' M'=>∃ ws,Own 31 1 DM u ws M'∧CartsV I' ws (AM n m g l)):=by
 subst hfi hti;obtain ⟨b2,b3,q9,r2,m7,r0,r1,d3⟩:=id gv_f;obtain ⟨a9,b0,r7,s0,o4,r8,r9,b8⟩:=id lv_f;subst m7;subst o4;refine fr (args:=[_,_,_,_]) (N:=114) Try.func26 (fun F=>?_);show Run _ _ (c_Lists []) _ _ [(0,vS b2 g.length b3),(1,vS a9 l.length b0),(2,vI (↑fo)),(3,vI (↑to))] _ _;refine rnm (rqr ?_);refine sp 1 [(8,vN)] (se (rq (rqr (sp 4 [(19,.bool (cmp .eql (↑fo) (↑(g.length))))] (se (rc 19 rfl (fun h1=>?_) (fun h1=>?_)))))))
 ·
  have m8:=h1;have h1:=CO h1;refine rq (rqr (sp 1 [(9,vI (0))] (se (rb 0 ?_))));refine rl (fun mz a w=>∃ k:Nat,(k≤l.length)∧(∀ x∈l.take k,x≤0)∧Slots 114 [(9,vI ↑k),(0,vS b2 g.length b3),(1,vS a9 l.length b0),(2,vI (↑fo)),(3,vI (↑to))] a∧a.defers=[]∧St I (F) w∧mz=l.length-k) ?_ ?_
  ·intro a w hS hD hW;exact ⟨_,0,Nat.zero_le _,(fun x hx=>by simp at hx),hS.sub (.cons 9 rfl (.cons 0 rfl (.cons 1 rfl (.cons 2 rfl (.cons 3 rfl (.nil _)))))),hD,hW,rfl⟩
  rintro mz a w ⟨k,hk,p6,hS,hD,hW,rfl⟩
  refine AU hS hD hW ?_;clear hS hD hW a w;refine rq (rqr (sp 4 [(23,.bool (cmp .lss (↑k) (↑(l.length))))] (se (rc 23 rfl (fun h2=>?_) (fun h2=>?_)))))
  ·
   have m9:=h2;have h2:=CD h2;refine AQ (NX (rq (rb 1 (rqr (sp 2 [(27,vI (↑k)),(26,vS a9 l.length b0)] (sd (di 28 1 (k) b8.addr) (sd (dl 29 (BA b8 (k) (by omega))) (sp 1 [(30,.bool (cmp .gtr (l.getD (k) 0) (0)))] (se (rc 30 rfl (fun h3=>?_) (fun h3=>?_)))))))))))
   ·
    have n0:=h3;have h3:=KA h3;refine rqr (sp 1 [(8,vN)] (se (BM ((RB (RP (RP (RB (RP (RP (AH (t:=8) ([]) (by kernel_rfl) rfl (TR _) (IR _) ?_)))))))))));have n5:m=0:=m_zero (by omega) hfr;subst n5;exact ⟨_,Own.nil _ _ _,(show []=AM n 0 g l from (lists_zf (k:=k) (by omega) (by omega)).symm)▸CartsV.nil _⟩
   have n0:=h3;have h3:=KG h3;refine AQ (NB (NX (rr (sp 1 [(24,vI (↑k))] (sd (da 25 (↑k) (1)) (sp 1 [(9,vI (↑k+1))] (ee ?_)))))));refine AN (l.length-(k+1)) (by omega) ?_;intro a w hS hD hW;exact ⟨k+1,by omega,le_snoc p6 (by omega) (by omega),hS.sub (.consE 9 rfl rfl (.cons 0 rfl (.cons 1 rfl (.cons 2 rfl (.cons 3 rfl (.nil _)))))),hD,hW,rfl⟩
  have m9:=h2;have h2:=CP h2;refine CG 0 ((EP (EP (EB (NX (rqr (sS (sbs 31 31 1 #[vN] (fun b1=>(sp 1 [(8,vS (some ⟨b1,0,none⟩) 1 1)] (se (BM ((RP (ppm (M':=(([(bX b1 #[vN] 31)]++F))) (PR _) ?_)))))))))))))));have r5:Own 31 1 DM (vS (some ⟨b1,0,none⟩) 1 1) ([(vN:Value)]:List Value) [(bX b1 #[vN] 31)]:=Own.lit rfl rfl;have k2:=((CartsV.nil I).snoc (IsSl.nil _));simp only [NA,CA] at k2;refine AH (t:=8) ([(bX b1 #[vN] 31)]) (by kernel_rfl) rfl (TK _ (TR _)) (IR _) ?_;have n5:m=0:=m_zero (by omega) hfr;subst n5;exact ⟨_,r5,(show [[]]=AM n 0 g l from (lists_zt (fun x hx=>p6 x (by rw [List.take_of_length_le (by omega)];exact hx))).symm)▸k2⟩
 have m8:=h1;have h1:=CN h1;refine AQ (NX (rq (rqr (sp 4 [(35,.bool (cmp .eql (↑to) (↑(g.length))))] (se (rc 35 rfl (fun h4=>?_) (fun h4=>?_)))))))
 ·
  have n1:=h4;have h4:=CO h4;refine rqr (sp 3 [(38,vI (↑fo)),(37,vS a9 l.length b0),(36,vS b2 g.length b3)] (sd (da 39 (↑fo) (1)) ?_));have j4:=ihs (by omega) (by omega);refine sS (EW (d:=some 40) (f:=(.func 26)) (fid:=26) (args:=#[(.tmp 36),(.tmp 37),(.tmp 39),(.const (vI 0))]) (tys:=#[22,22,3,3]) (cv:=[]) (F:=(F)) (ty:=59) (gd:=none) (by kernel_rfl) rfl rfl rfl (by kernel_rfl) rfl j4 (PR _) (fun t1 I5 o3 d8 r6=>?_));obtain ⟨j9,f8,j8⟩:=r6;replace gv_f:=gv_f.mono d8;replace d3:=d3.mono d8;replace lv_f:=lv_f.mono d8;replace b8:=b8.mono d8;obtain ⟨e9,f0,i3,p2⟩:=f8.shape;subst i3;have e2:=j8.1
  try simp only [LS,LA,LC,LN,LK] at e2
  refine nm ?_;show Seq _ _ _ _ _ _ ((40,vS e9 j9.length f0)::_) _ _;refine sp 1 [(8,vS e9 j9.length f0)] (se (BM ((RP (AH (t:=8) (o3) (by kernel_rfl) rfl (TA (TR _) _) d8 ?_)))));exact ⟨_,f8,j8⟩
 have n1:=h4;have h4:=CN h4;refine AQ (NX (rq ?_));have i1:to<n:=by omega
 have n4:fo<n:=by omega
 obtain ⟨q,rfl⟩:=m_pos n4 i1 hfr;have ih:=ihm q rfl;obtain ⟨hB1,hB2⟩:=lists_parts hfr i1 hB;have r4:n*n≤16:=Nat.mul_le_mul hn.2 hn.2;have t6:=hgb _ (BC (xs:=g) (d:=0) (k:=fo) (by omega));have t8:=hlb _ (BC (xs:=l) (d:=0) (k:=to) (by omega));refine rr (sp 1 [(10,vN)] (se (rq (rqr (sp 1 [(11,vI (1))] (se (rb 2 ?_)))))));refine rl (fun mz a w=>∃ J1:Imm,∃ c:Nat,∃ c9:Value,∃ a1:Seg,∃ a3:List Value,(I.le J1)∧(c≤(min (g.getD fo 0) (l.getD to 0)).toNat)∧(CartsV J1 a3 (JI n q fo to g l c))∧(Own 31 1 DM c9 (a3) a1)∧Slots 114 [(10,c9),(11,vI (↑c+1)),(0,vS b2 g.length b3),(1,vS a9 l.length b0),(2,vI (↑fo)),(3,vI (↑to)),(8,vN)] a∧a.defers=[]∧St J1 ((a1++F)) w∧mz=(min (g.getD fo 0) (l.getD to 0)).toNat-c) ?_ ?_
 ·intro a w hS hD hW;exact ⟨_,I,0,(vN),[],[],IR _,Nat.zero_le _,(CartsV.nil _),(Own.nil _ _ _),hS.sub (.cons 10 rfl (.cons 11 rfl (.cons 0 rfl (.cons 1 rfl (.cons 2 rfl (.cons 3 rfl (.cons 8 rfl (.nil _)))))))),hD,hW,rfl⟩
 rintro mz a w ⟨J1,c,c9,a1,a3,hJ1,hc,a0,c5,hS,hD,hW,rfl⟩
 refine AU hS hD hW ?_;clear hS hD hW a w;replace gv_f:=gv_f.mono hJ1;replace d3:=d3.mono hJ1;replace lv_f:=lv_f.mono hJ1;replace b8:=b8.mono hJ1;obtain ⟨a7,a8,e6,k5⟩:=c5.shape;subst e6;have c7:=a0.1
 try simp only [LS,LA,LC,LN,LK] at c7
 refine rq (rq ?_);refine DC (fun a w=>Slots 114 [(0,vS b2 g.length b3),(1,vS a9 l.length b0),(2,vI (↑fo)),(3,vI (↑to)),(8,vN),(10,vS a7 a3.length a8),(11,vI (↑c+1)),(54,.bool ((cmp .leq (↑c+1) (g.getD (fo) 0))&&(cmp .leq (↑c+1) (l.getD (to) 0))))] a∧a.defers=[]∧St J1 ((a1++F)) w) ?_ ?_
 ·
  refine rr (sp 3 [(43,vI (↑fo)),(42,vS b2 g.length b3),(41,vI (↑c+1))] (sd (di 44 1 (fo) d3.addr) (sd (dl 45 (BA d3 (fo) (by omega))) (sp 2 [(47,.bool (cmp .leq (↑c+1) (g.getD (fo) 0)))] ?_))));refine BB 47 rfl (fun h5=>?_) (fun h5=>?_)
  ·
   have d7:=h5;have d7:=leq_t d7;refine sp 3 [(50,vI (↑to)),(49,vS a9 l.length b0),(48,vI (↑c+1))] (sd (di 51 1 (to) b8.addr) (sd (dl 52 (BA b8 (to) (by omega))) (sp 2 [(54,.bool (cmp .leq (↑c+1) (l.getD (to) 0)))] (ee ?_))));refine AO (fun a w hS hD hW=>⟨hS.sub (.cons 0 rfl (.cons 1 rfl (.cons 2 rfl (.cons 3 rfl (.cons 8 rfl (.cons 10 rfl (.cons 11 rfl (.consE 54 rfl (congrArg Value.bool (by simp only [h5,kA,kB,kC,kD,kE,kF,kG,kH,kI,kJ])) (.nil _))))))))),hD,hW⟩)
  have d7:=h5;have d7:=leq_f d7;refine sp 7 [(54,.bool (false))] (ee ?_);refine AO (fun a w hS hD hW=>⟨hS.sub (.cons 0 rfl (.cons 1 rfl (.cons 2 rfl (.cons 3 rfl (.cons 8 rfl (.cons 10 rfl (.cons 11 rfl (.consE 54 rfl (congrArg Value.bool (by simp only [h5,kA,kB,kC,kD,kE,kF,kG,kH,kI,kJ])) (.nil _))))))))),hD,hW⟩)
 rintro a w ⟨hS,hD,hW⟩
 refine AU hS hD hW ?_;clear hS hD hW a w;refine rc 54 rfl (fun h6=>?_) (fun h6=>?_)
 ·
  have j3:=h6;obtain ⟨j1,j2⟩:=MS h6;have j1:=leq_t j1;have j2:=leq_t j2;refine AQ (NX (rq (rb 3 (rqr (sS (sbs 57 3 0 #[] (fun k9=>(sp 1 [(58,vS b2 g.length b3)] ?_))))))));have n6:Own 3 1 AK (vS (some ⟨k9,0,none⟩) 0 0) ([]:List Int) [(bX k9 #[] 3)]:=Own.lit rfl rfl;refine sS (BK (d:=59) (x:=(.tmp 57)) (y:=(.tmp 58)) (T:=22) (T':=22) (E:=3) (E':=3) (sz:=1) (bs:=8) (z:=vI (0)) (cell:=AK) (xs:=([]:List Int)) (ys:=g) (Ms:=[(bX k9 #[] 3)]) (ty:=22) (gd:=none) (by kernel_rfl) rfl (by kernel_rfl) (by kernel_rfl) (by kernel_rfl) (by kernel_rfl) (by kernel_rfl) (by decide) (by kernel_rfl) rfl rfl (n6) (PR _) (BZ _) gv_f.src (by first | omega | (simp only [LC,LN,LA,LK,LD];omega)) (fun u1 i8 d9=>?_));rw [NA] at d9;refine nm ?_;obtain ⟨f3,f5,o7,s6⟩:=d9.shape;subst o7;refine sS (sbs 60 3 0 #[] (fun l0=>(sp 1 [(61,vS a9 l.length b0)] ?_)));have n7:Own 3 1 AK (vS (some ⟨l0,0,none⟩) 0 0) ([]:List Int) [(bX l0 #[] 3)]:=Own.lit rfl rfl;refine sS (BK (d:=62) (x:=(.tmp 60)) (y:=(.tmp 61)) (T:=22) (T':=22) (E:=3) (E':=3) (sz:=1) (bs:=8) (z:=vI (0)) (cell:=AK) (xs:=([]:List Int)) (ys:=l) (Ms:=[(bX l0 #[] 3)]) (ty:=22) (gd:=none) (by kernel_rfl) rfl (by kernel_rfl) (by kernel_rfl) (by kernel_rfl) (by kernel_rfl) (by kernel_rfl) (by decide) (by kernel_rfl) rfl rfl (n7) (PR _) (BZ _) lv_f.src (by first | omega | (simp only [LC,LN,LA,LK,LD];omega)) (fun u2 f1 e0=>?_));rw [NA] at e0;refine nm ?_;obtain ⟨f4,f6,o8,s7⟩:=e0.shape;subst o8;refine sp 2 [(13,vS f4 l.length f6),(12,vS f3 g.length f5)] (se (rq ?_));refine rdX (M:=((f1++(i8++(a1++[]))))) (F0:=F) [] 18 [(0,true),(1,true),(2,true),(3,true),(4,true),(5,true),(6,true),(7,true),(8,true),(9,true),(10,true),(11,true),(12,true),(13,true),(14,true),(15,true),(16,true),(17,false)] (by simp only [AA,CA,NA,List.append_nil];exact PR _) HW ?_;refine AG (AL (d:=63) (v:=vS f3 g.length f5) (by kernel_rfl)) ?_;refine AG (AL (d:=64) (v:=vI (↑fo)) (by kernel_rfl)) ?_;refine BO (AL (d:=65) (v:=vS f4 l.length f6) (by kernel_rfl)) ?_;refine BO (AL (d:=66) (v:=vI (↑to)) (by kernel_rfl)) ?_;refine AG (AL (d:=67) (v:=vS f3 g.length f5) (by kernel_rfl)) ?_;refine AG (AL (d:=68) (v:=vI (↑fo)) (by kernel_rfl)) ?_;obtain ⟨s1,g1⟩:=d9.row 0;refine AG (di 69 1 (fo) g1.addr) ?_;refine AG (dl 70 (g1.get (fo) (by omega) 0 (by decide) _ _ (fun x hx=>by simp [hx]))) ?_;refine AG (AL (d:=71) (v:=vI (↑c+1)) (by kernel_rfl)) ?_;refine AG (dsb 72 (g.getD (fo) 0) (↑c+1)) ?_;refine AG (AL (d:=73) (v:=vS f4 l.length f6) (by kernel_rfl)) ?_;refine AG (AL (d:=74) (v:=vI (↑to)) (by kernel_rfl)) ?_;obtain ⟨s2,g2⟩:=e0.row 0;refine AG (di 75 1 (to) g2.addr) ?_;refine AG (dl 76 (g2.get (to) (by omega) 0 (by decide) _ _ (fun x hx=>by simp [hx]))) ?_;refine BO (AL (d:=77) (v:=vI (↑c+1)) (by kernel_rfl)) ?_;refine BO (dsb 78 (l.getD (to) 0) (↑c+1)) ?_;obtain ⟨s3,g3⟩:=d9.row 0;refine AG (di 79 1 (fo) g3.addr) ?_;refine FA (Mx:=fun FX=>((f1++(i8++(a1++FX))))) rfl (fun FX=>by simp only [AA,CA,NA,List.append_nil];exact PR _) (fun FX=>?_);refine id (CV (T:=3) (x:=(.tmp 79)) (y:=(.tmp 72)) (rc:=fun i f=>AK ((g).getD i 0) f) 0 (fo) 0 ((g.getD (fo) 0)-(↑c+1)) (ty:=0) (gd:=none) (by kernel_rfl) rfl d9 g3 (by omega) (by decide) rfl rfl (by kernel_rfl) rfl rfl (by intro f hf;match f,hf with | 0,_=>rfl) (PO _ _ _) (fun i9 n8=>?_));refine GT (M1:=((i9++(f1++(a1++[]))))) (by simp only [AA,CA,NA,List.append_nil];exact (PR _)) (.wait (by kernel_rfl) (.none (.none (.wait (by kernel_rfl) (.wait (by kernel_rfl) (.wait (by kernel_rfl) (.wait (by kernel_rfl) (.wait (by kernel_rfl) (.wait (by kernel_rfl) (.wait (by kernel_rfl) (.wait (by kernel_rfl) (.wait (by kernel_rfl) (.wait (by kernel_rfl) (.none (.none (.wait (by kernel_rfl) (.wait (by kernel_rfl) .nil))))))))))))))))) ?_;refine FQ (BG (M':=((i9++(f1++(a1++F))))) (fun w h=>by simpa only [AA,CA,NA,List.append_nil] using h) (nm ?_));obtain ⟨s4,g4⟩:=e0.row 0;refine sd (di 80 1 (to) g4.addr) (sS (CV (T:=3) (x:=(.tmp 80)) (y:=(.tmp 78)) (rc:=fun i f=>AK ((l).getD i 0) f) 0 (to) 0 ((l.getD (to) 0)-(↑c+1)) (ty:=0) (gd:=none) (by kernel_rfl) rfl e0 g4 (by omega) (by decide) rfl rfl (by kernel_rfl) rfl rfl (by intro f hf;match f,hf with | 0,_=>rfl) (PO _ _ _) (fun k7 n9=>(nm (sn ?_)))));refine sp 4 [(84,vI (↑to)),(83,vI (↑fo)),(82,vS f4 l.length f6),(81,vS f3 g.length f5)] (sd (da 85 (↑to) (1)) (sfz (A:=((k7++(a1++F)))) 0 n8 (PO _ _ _) (fun t4 d1 a6=>?_)));replace gv_f:=gv_f.mono d1;replace lv_f:=lv_f.mono d1;replace a0:=a0.mono d1;obtain ⟨l2,l4,l3,l5,c2,g7,g8,g9⟩:=id a6;simp only [LS] at c2 g7 g8 g9
  first | cases c2 | (injection c2 with fz33_e1 fz33_e2 fz33_e3;subst fz33_e1;subst fz33_e3;try rw [← fz33_e2] at a6)
  refine sfz 0 n9 (.refl _) (fun q5 b6 c4=>?_);replace gv_f:=gv_f.mono b6;replace lv_f:=lv_f.mono b6;replace a0:=a0.mono b6;replace a6:=a6.mono b6;obtain ⟨l6,l8,l7,l9,c3,h0,h8,h9⟩:=id c4;simp only [LS] at c3 h0 h8 h9
  first | cases c3 | (injection c3 with fz36_e1 fz36_e2 fz36_e3;subst fz36_e1;subst fz36_e3;try rw [← fz36_e2] at c4)
  have r3:c<(min (g.getD fo 0) (l.getD to 0)).toNat:=by omega
  have t7:=haul_part (n:=n) (q:=q) (B:=100000) (fr:=fo) (to:=to) (g:=g) (l:=l) (by omega) r3;have j4:=ih q5 _ (less fo (c+1) g) _ (less to (c+1) l) fo (to+1) (↑fo) (↑to+1) rfl (by omega) a6 c4 (by rw [less_lenR];exact hgl) (by rw [less_lenR];exact hll) (by omega) (by omega) (by omega) hn (by omega) (less_bound hgb (by omega)) (less_bound hlb (by omega));refine sS (EW (d:=some 86) (f:=(.func 26)) (fid:=26) (args:=#[(.tmp 81),(.tmp 82),(.tmp 83),(.tmp 85)]) (tys:=#[22,22,3,3]) (cv:=[]) (F:=((a1++F))) (ty:=59) (gd:=none) (by kernel_rfl) rfl rfl rfl (by kernel_rfl) rfl j4 (PR _) (fun t2 p5 e1 d2 o1=>?_));obtain ⟨b9,f9,f2⟩:=o1;replace gv_f:=gv_f.mono d2;replace lv_f:=lv_f.mono d2;replace a0:=a0.mono d2;obtain ⟨b4,b5,i4,p3⟩:=f9.shape;subst i4;have e3:=f2.1
  try simp only [LS,LA,LC,LN,LK] at e3
  refine nm ?_;show Seq _ _ _ _ _ _ ((86,vS b4 b9.length b5)::_) _ _;refine sp 1 [(14,vS b4 b9.length b5)] (sn (sp 1 [(15,vI (0))] (se (rb 4 ?_))));refine rl (fun mz a w=>∃ J2:Imm,∃ i:Nat,∃ d0:Value,∃ a4:Seg,∃ a2:List Value,(p5.le J2)∧(i≤(AM n q (less fo (c+1) g) (less to (c+1) l)).length)∧(CartsV J2 a2 (JI n q fo to g l c++(((AM n q (less fo (c+1) g) (less to (c+1) l)).take i).map fun r=>(⟨(fo:Int),(to:Int),(c:Int)+1⟩:Cart)::r)))∧(Own 31 1 DM d0 (a2) a4)∧Slots 114 [(10,d0),(15,vI ↑i),(0,vS b2 g.length b3),(1,vS a9 l.length b0),(2,vI (↑fo)),(3,vI (↑to)),(8,vN),(11,vI (↑c+1)),(14,vS b4 b9.length b5)] a∧a.defers=[]∧St J2 ((e1++(a4++F))) w∧mz=(AM n q (less fo (c+1) g) (less to (c+1) l)).length-i) ?_ ?_
  ·intro a w hS hD hW;exact ⟨_,p5,0,vS a7 a3.length a8,a1,a3,IR _,Nat.zero_le _,(show CartsV _ _ (_++[]) from by rw [List.append_nil];exact a0),c5,hS.sub (.cons 10 rfl (.cons 15 rfl (.cons 0 rfl (.cons 1 rfl (.cons 2 rfl (.cons 3 rfl (.cons 8 rfl (.cons 11 rfl (.cons 14 rfl (.nil _)))))))))),hD,hW,rfl⟩
  rintro mz a w ⟨J2,i,d0,a4,a2,hJ2,hi,a5,c6,hS,hD,hW,rfl⟩
  refine AU hS hD hW ?_;clear hS hD hW a w;replace gv_f:=gv_f.mono hJ2;replace lv_f:=lv_f.mono hJ2;replace a0:=a0.mono hJ2;replace f2:=f2.mono hJ2;obtain ⟨c0,c1,e7,k6⟩:=c6.shape;subst e7;have c8:=a5.1
  try simp only [LS,LA,LC,LN,LK] at c8
  refine rq (rqr (sp 4 [(90,.bool (cmp .lss (↑i) (↑(b9.length))))] (se (rc 90 rfl (fun h7=>?_) (fun h7=>?_)))))
  ·
   have n2:=h7;have h7:=CD h7;refine AQ (NX (rq (rb 5 (rr (sp 5 [(97,.agg #[vI (↑fo),vI (↑to),vI (↑c+1)]),(93,vS c0 a2.length c1)] (sS (sbs 98 58 1 #[vI (↑fo),vI (↑to),vI (↑c+1)] (fun l1=>(sp 2 [(100,vI (↑i)),(99,vS b4 b9.length b5)] ?_)))))))));obtain ⟨s5,g5⟩:=f9.row undef;refine sd (di 101 1 (i) g5.addr) ?_;have e8:=f2.2 (i) (by omega);obtain ⟨p8,q0,p9,q3,g6,q1,q2,q4⟩:=id e8;rw [g6] at e8;refine sd (DR (dl 102 (g5.get (i) (by omega) 0 (by decide) _ _ (fun x hx=>by simp [hx]))) g6) ?_;have u0:=lists_lenM (BC (xs:=AM n q (less fo (c+1) g) (less to (c+1) l)) (d:=[]) (k:=i) (by omega));have o0:Own 58 3 FS (vS (some ⟨l1,0,none⟩) 1 1) ([(⟨↑fo,↑to,↑c+1⟩:Cart)]:List Cart) [(bX l1 #[vI (↑fo),vI (↑to),vI (↑c+1)] 58)]:=Own.lit rfl rfl;refine sS (BK (d:=103) (x:=(.tmp 98)) (y:=(.tmp 102)) (T:=31) (T':=31) (E:=58) (E':=58) (sz:=3) (bs:=24) (z:=.agg #[vI (0),vI (0),vI (0)]) (cell:=FS) (xs:=([(⟨↑fo,↑to,↑c+1⟩:Cart)]:List Cart)) (ys:=(AM n q (less fo (c+1) g) (less to (c+1) l)).getD (i) []) (Ms:=[(bX l1 #[vI (↑fo),vI (↑to),vI (↑c+1)] 58)]) (ty:=31) (gd:=none) (by kernel_rfl) rfl (by kernel_rfl) (by kernel_rfl) (by kernel_rfl) (by kernel_rfl) (by kernel_rfl) (by decide) (by kernel_rfl) rfl rfl (o0) (PR _) (MP _) e8.src (by first | omega | (simp only [LC,LN,LA,LK,LD];omega)) (fun u3 q7 j5=>(nm ?_)));obtain ⟨d4,d5,o9,s8⟩:=j5.shape;subst o9;refine sS (sbs 104 31 1 #[vS d4 ((([(⟨↑fo,↑to,↑c+1⟩:Cart)]:List Cart))++((AM n q (less fo (c+1) g) (less to (c+1) l)).getD (i) [])).length d5] (fun q8=>(sfz (A:=((bX q8 #[vS d4 ((([(⟨↑fo,↑to,↑c+1⟩:Cart)]:List Cart))++((AM n q (less fo (c+1) g) (less to (c+1) l)).getD (i) [])).length d5] 31)::(e1++(a4++F)))) GS j5 (PM.symm) (fun q6 b7 d6=>?_))));replace gv_f:=gv_f.mono b7;replace lv_f:=lv_f.mono b7;replace a0:=a0.mono b7;replace a5:=a5.mono b7;obtain ⟨m0,m2,m1,m5,i0,m3,m4,m6⟩:=id d6;cases i0;refine sS (BK (d:=105) (x:=(.tmp 93)) (y:=(.tmp 104)) (T:=59) (T':=59) (E:=31) (E':=31) (sz:=1) (bs:=24) (z:=vN) (cell:=DM) (xs:=a2) (ys:=[(vS d4 ((([(⟨↑fo,↑to,↑c+1⟩:Cart)]:List Cart))++((AM n q (less fo (c+1) g) (less to (c+1) l)).getD (i) [])).length d5:Value)]) (Ms:=a4) (ty:=59) (gd:=none) (by kernel_rfl) rfl (by kernel_rfl) (by kernel_rfl) (by kernel_rfl) (by kernel_rfl) (by kernel_rfl) (by decide) (by kernel_rfl) rfl rfl (c6) (PU (PO _ _ _)) (KJ rfl) (GI 0 rfl rfl) (by first | omega | (have hq:=a5.1;simp only [LA,List.length_map,LK] at hq;simp only [LC,LN];omega)) (fun u4 j0 j6=>(BG (M':=((j0++(e1++F)))) (fun w h=>(h.perm PM).sub (TC _ (TR _))) ?_)));obtain ⟨k0,k1,p0,s9⟩:=j6.shape;subst p0;have k3:=(a5).snoc d6;refine sp 1 [(10,vS k0 (a2++([(vS d4 ((([(⟨↑fo,↑to,↑c+1⟩:Cart)]:List Cart))++((AM n q (less fo (c+1) g) (less to (c+1) l)).getD (i) [])).length d5:Value)])).length k1)] (ee (NB (NX (rr (sp 1 [(91,vI (↑i))] (sd (da 92 (↑i) (1)) (sp 1 [(15,vI (↑i+1))] (ee ?_))))))));refine AN ((AM n q (less fo (c+1) g) (less to (c+1) l)).length-(i+1)) (by omega) ?_;intro a w hS hD hW;exact ⟨q6,i+1,vS k0 (a2++([(vS d4 ((([(⟨↑fo,↑to,↑c+1⟩:Cart)]:List Cart))++((AM n q (less fo (c+1) g) (less to (c+1) l)).getD (i) [])).length d5:Value)])).length k1,j0,a2++([(vS d4 ((([(⟨↑fo,↑to,↑c+1⟩:Cart)]:List Cart))++((AM n q (less fo (c+1) g) (less to (c+1) l)).getD (i) [])).length d5:Value)]),(IT hJ2 b7),by omega,(by rw [haul_take (by omega),← AA];exact k3),j6,hS.sub (.consE 10 rfl rfl (.consE 15 rfl rfl (.cons 0 rfl (.cons 1 rfl (.cons 2 rfl (.cons 3 rfl (.cons 8 rfl (.cons 11 rfl (.cons 14 rfl (.nil _)))))))))),hD,hW.perm (PO _ _ _),rfl⟩
  have n2:=h7;have h7:=CP h7;refine CG 4 ((EP (EP (EB (NB (NX (rr (sp 1 [(55,vI (↑c+1))] (sd (da 56 (↑c+1) (1)) (sp 1 [(11,vI ((↑c+1)+1))] (ee ?_)))))))))));refine AN ((min (g.getD fo 0) (l.getD to 0)).toNat-(c+1)) (by omega) ?_;intro a w hS hD hW;exact ⟨J2,c+1,vS c0 a2.length c1,a4,a2,(IT (IT (IT (IT hJ1 d1) b6) d2) hJ2),by omega,(by rw [LZ];unfold haulF;have hq:=a5;rw [List.take_of_length_le (show _≤i by omega)] at hq;exact hq),c6,hS.sub (.consE 10 rfl rfl (.consE 11 rfl rfl (.cons 0 rfl (.cons 1 rfl (.cons 2 rfl (.cons 3 rfl (.cons 8 rfl (.nil _)))))))),hD,(hW.perm (PR _)).sub (TT (TR _) (TB _ _)),rfl⟩
 have j3:=h6;refine CG 2 ((EP (EP (EB (NX (rqr (sp 5 [(110,vI (↑to)),(109,vI (↑fo)),(108,vS a9 l.length b0),(107,vS b2 g.length b3),(106,vS a7 a3.length a8)] (sd (da 111 (↑to) (1)) ?_))))))));have j4:=ih J1 _ g _ l fo (to+1) (↑fo) (↑to+1) rfl (by omega) gv_f lv_f hgl hll (by omega) (by omega) (by omega) hn hB1 hgb hlb;refine sS (EW (d:=some 112) (f:=(.func 26)) (fid:=26) (args:=#[(.tmp 107),(.tmp 108),(.tmp 109),(.tmp 111)]) (tys:=#[22,22,3,3]) (cv:=[]) (F:=((a1++F))) (ty:=59) (gd:=none) (by kernel_rfl) rfl rfl rfl (by kernel_rfl) rfl j4 (PR _) (fun t3 t5 p7 f7 o2=>?_));obtain ⟨e5,g0,i2⟩:=o2;replace a0:=a0.mono f7;obtain ⟨i5,i6,i7,p4⟩:=g0.shape;subst i7;have e4:=i2.1
 try simp only [LS,LA,LC,LN,LK] at e4
 refine nm ?_;show Seq _ _ _ _ _ _ ((112,vS i5 e5.length i6)::_) _ _;refine sS (BK (d:=113) (x:=(.tmp 106)) (y:=(.tmp 112)) (T:=59) (T':=59) (E:=31) (E':=31) (sz:=1) (bs:=24) (z:=vN) (cell:=DM) (xs:=a3) (ys:=e5) (Ms:=a1) (ty:=59) (gd:=none) (by kernel_rfl) rfl (by kernel_rfl) (by kernel_rfl) (by kernel_rfl) (by kernel_rfl) (by kernel_rfl) (by decide) (by kernel_rfl) rfl rfl (c5) (PO _ _ _) (KJ i2.one) (g0.src (fun x hx=>by simp [hx])) (by first | omega | (have t9:=hauls_mono (n:=n) (q:=q) (fr:=fo) (to:=to) (g:=g) (l:=l) hc;omega)) (fun u5 k8 j7=>(nm ?_)));obtain ⟨o5,o6,p1,t0⟩:=j7.shape;subst p1;have k4:=(a0).append i2;refine sp 1 [(8,vS o5 (a3++e5).length o6)] (se (BM (AH (t:=8) (k8) (by kernel_rfl) rfl (TA (TT (TR _) (TB _ _)) _) (IT hJ1 f7) ?_)));have n3:(min (g.getD fo 0) (l.getD to 0)).toNat=c:=by have hq:=j3;simp only [cmp,Bool.and_eq_false_iff,decide_eq_false_iff_not] at hq;rcases hq with hq | hq <;> omega
 exact ⟨_,j7,(lists_succ (g:=g) (l:=l) (c:=c) hfr i1 n3)▸k4⟩
theorem lists_all (n m:Nat):ListsAt n m:=by
 have a0:∀ m,(∀ q,m=q+1→ListsAt n q)→∀ (I:Imm) (gv:Value) (g:List Int) (lv:Value) (l:List Int) (fo to:Nat) (fi ti:Int) (hfi:fi=(fo:Int)) (hti:ti=(to:Int)) (gv_f:AX I gv g) (lv_f:AX I lv l) (hgl:g.length=n) (hll:l.length=n) (hto:to≤n) (hfl:fo≤n) (hfr:fo*n+to+m=n*n) (hn:1≤n∧n≤4) (hB:(AM n m g l).length≤100000) (hgb:∀ x∈g,0≤x∧x≤50) (hlb:∀ x∈l,0≤x∧x≤50),¬ (to=n∧fo<n)→Ct Try.prog 26 #[gv,lv,vI fi,vI ti] I [] (fun u I' M'=>∃ ws,Own 31 1 DM u ws M'∧CartsV I' ws (AM n m g l)):=by
  intro m ihm I gv g lv l fo to fi ti hfi hti gv_f lv_f hgl hll hto hfl hfr hn hB hgb hlb hh;exact lists_of n m ihm I gv g lv l fo to fi ti hfi hti gv_f lv_f hgl hll hto hfl hfr hn hB hgb hlb (fun h1 h2=>absurd ⟨h1,h2⟩ hh)
 have up:∀ m,(∀ q,m=q+1→ListsAt n q)→ListsAt n m:=by
  intro m ihm I gv g lv l fo to fi ti hfi hti gv_f lv_f hgl hll hto hfl hfr hn hB hgb hlb;refine lists_of n m ihm I gv g lv l fo to fi ti hfi hti gv_f lv_f hgl hll hto hfl hfr hn hB hgb hlb (fun h1 h2=>?_);exact a0 m ihm I gv g lv l (fo+1) 0 _ _ (by omega) rfl gv_f lv_f hgl hll (Nat.zero_le _) h2 (by rw [Nat.succ_mul];omega) hn hB hgb hlb (fun h=>by omega)
 induction m with
 | zero=>exact up 0 (fun q h=>by omega)
 | succ m ih=>exact up (m+1) (fun q h=>(show m=q by omega)▸ih)
noncomputable def c_checkPool (p:List Nat):Code:=sub (AP Try.f40) p
theorem checkPool_ct (I:Imm) (a:Value) (h:List Int) (c:Value) (nd:List Int) (b:Int) (a_f:AX I a h) (c_f:AX I c nd):CtV Try.prog 40 #[a,c,vI b] I (vI (BF h nd b)):=by
 obtain ⟨a4,a5,c1,c4,b9,c2,c3,b7⟩:=id a_f;subst b9;obtain ⟨a6,a7,c5,c8,c0,c6,c7,b8⟩:=id c_f;subst c0;refine fr (args:=[_,_,_]) (N:=42) Try.func40 (fun F=>?_);show Run _ _ (c_checkPool []) _ _ [(0,vS a4 h.length a5),(1,vS a6 nd.length a7),(2,vI (b))] _ _;refine rnm (rqr ?_);refine sp 1 [(6,vI (0))] (se (rq (rqr (sp 3 [(10,.bool (cmp .eql (↑(h.length)) (0)))] (se (rc 10 rfl (fun h1=>?_) (fun h1=>?_)))))))
 ·
  have a8:=h1;have h1:=CO h1;refine rqr (sp 1 [(6,vI (7))] (se (BM ((RP (AH (t:=6) [] (by kernel_rfl) rfl (TR _) (IR _) ?_))))));exact ⟨congrArg (Value.int .i64) (poolErr_1 (by omega)).symm,rfl⟩
 have a8:=h1;have h1:=CN h1;refine AQ (NX (rq (rqr (sp 3 [(13,.bool (cmp .gtr (↑(h.length)) (4)))] (se (rc 13 rfl (fun h2=>?_) (fun h2=>?_)))))))
 ·
  have a9:=h2;have h2:=KA h2;refine rqr (sp 1 [(6,vI (6))] (se (BM ((RP (AH (t:=6) [] (by kernel_rfl) rfl (TR _) (IR _) ?_))))));exact ⟨congrArg (Value.int .i64) (poolErr_2 (by omega)).symm,rfl⟩
 have a9:=h2;have h2:=KG h2;refine AQ (NX (rq (rqr (sp 5 [(18,.bool (!(cmp .eql (↑(nd.length)) (↑(h.length)))))] (se (rc 18 rfl (fun h3=>?_) (fun h3=>?_)))))))
 ·
  have b0:=h3;have h3:=CN (CL h3);refine rqr (sp 1 [(6,vI (2))] (se (BM ((RP (AH (t:=6) [] (by kernel_rfl) rfl (TR _) (IR _) ?_))))));exact ⟨congrArg (Value.int .i64) (poolErr_3 (by omega) (by omega) (by omega)).symm,rfl⟩
 have b0:=h3;have h3:=CO (CF h3);refine AQ (NX (rq (rqr (sp 1 [(7,vI (0))] (se (rb 0 ?_))))));refine rl (fun mz a w=>∃ k:Nat,(k≤h.length)∧(∀ i,i<k→inB (h.getD i 0) 0 50=true∧inB (nd.getD i 0) 0 50=true)∧Slots 42 [(7,vI ↑k),(0,vS a4 h.length a5),(1,vS a6 nd.length a7),(2,vI (b))] a∧a.defers=[]∧St I (F) w∧mz=h.length-k) ?_ ?_
 ·intro a w hS hD hW;exact ⟨_,0,Nat.zero_le _,(fun i hi=>by omega),hS.sub (.cons 7 rfl (.cons 0 rfl (.cons 1 rfl (.cons 2 rfl (.nil _))))),hD,hW,rfl⟩
 rintro mz a w ⟨k,hk,ha,hS,hD,hW,rfl⟩
 refine AU hS hD hW ?_;clear hS hD hW a w;refine rq (rqr (sp 4 [(22,.bool (cmp .lss (↑k) (↑(h.length))))] (se (rc 22 rfl (fun h4=>?_) (fun h4=>?_)))))
 ·
  have b1:=h4;have h4:=CD h4;refine AQ (NX (rq (rb 1 (rq ?_))));refine DC (fun a w=>Slots 42 [(0,vS a4 h.length a5),(1,vS a6 nd.length a7),(2,vI (b)),(7,vI (↑k)),(38,.bool ((!(inB (h.getD (k) 0) 0 50))||(!(inB (nd.getD (k) 0) 0 50))))] a∧a.defers=[]∧St I (F) w) ?_ ?_
  ·
   refine rr (sp 2 [(26,vI (↑k)),(25,vS a4 h.length a5)] (sd (di 27 1 (k) b7.addr) (sd (dl 28 (BA b7 (k) (by omega))) (sd (dc 29 (fun I' hI=>(LU I' (h.getD (k) 0) (0) (50) :))) (sp 2 [(31,.bool (!(inB (h.getD (k) 0) 0 50)))] ?_)))));refine BB 31 rfl (fun h5=>?_) (fun h5=>?_)
   ·
    have a0:=h5;have a0:=CL a0;have a3:=JJ a0;refine sp 7 [(38,.bool (true))] (ee ?_);refine AO (fun a w hS hD hW=>⟨hS.sub (.cons 0 rfl (.cons 1 rfl (.cons 2 rfl (.cons 7 rfl (.consE 38 rfl (congrArg Value.bool (by simp only [h5,kA,kB,kC,kD,kE,kF,kG,kH,kI,kJ])) (.nil _)))))),hD,hW⟩)
   have a0:=h5;have a0:=CF a0;have a3:=DK a0;refine sp 2 [(33,vI (↑k)),(32,vS a6 nd.length a7)] (sd (di 34 1 (k) b8.addr) (sd (dl 35 (BA b8 (k) (by omega))) (sd (dc 36 (fun I' hI=>(LU I' (nd.getD (k) 0) (0) (50) :))) (sp 2 [(38,.bool (!(inB (nd.getD (k) 0) 0 50)))] (ee ?_)))));refine AO (fun a w hS hD hW=>⟨hS.sub (.cons 0 rfl (.cons 1 rfl (.cons 2 rfl (.cons 7 rfl (.consE 38 rfl (congrArg Value.bool (by simp only [h5,kA,kB,kC,kD,kE,kF,kG,kH,kI,kJ])) (.nil _)))))),hD,hW⟩)
  rintro a w ⟨hS,hD,hW⟩
  refine AU hS hD hW ?_;clear hS hD hW a w;refine rc 38 rfl (fun h6=>?_) (fun h6=>?_)
  ·
   have b4:=h6;refine rqr (sp 1 [(6,vI (1))] (se (BM ((RB (RP (RP (RB (RP (AH (t:=6) [] (by kernel_rfl) rfl (TR _) (IR _) ?_))))))))));exact ⟨congrArg (Value.int .i64) (poolErr_4 (by omega) (by omega) (by omega) (i:=k) (by omega) h6).symm,rfl⟩
  have b4:=h6;obtain ⟨a1,a2⟩:=or_f h6;have a1:=CF a1;have b2:=DK a1;have a2:=CF a2;have b3:=DK a2;refine AQ (NB (NX (rr (sp 1 [(23,vI (↑k))] (sd (da 24 (↑k) (1)) (sp 1 [(7,vI (↑k+1))] (ee ?_)))))));refine AN (h.length-(k+1)) (by omega) ?_;intro a w hS hD hW;exact ⟨k+1,by omega,JC ha ⟨a1,a2⟩,hS.sub (.consE 7 rfl rfl (.cons 0 rfl (.cons 1 rfl (.cons 2 rfl (.nil _))))),hD,hW,rfl⟩
 have b1:=h4;have h4:=CP h4;refine CG 0 ((EP (EP (EB (NX (rq (rqr (sp 1 [(39,vI (b))] (sd (dc 40 (fun I' hI=>(LU I' (b) (1) (10) :))) (sp 1 [(41,.bool (!(inB b 1 10)))] (se (rc 41 rfl (fun h7=>?_) (fun h7=>?_)))))))))))))
 ·
  have b6:=h7;have h7:=CL h7;have b5:=JJ h7;refine rqr (sp 1 [(6,vI (1))] (se (BM ((RP (AH (t:=6) [] (by kernel_rfl) rfl (TR _) (IR _) ?_))))));exact ⟨congrArg (Value.int .i64) (poolErr_5 (by omega) (by omega) (by omega) (fun i hi=>ha i (by omega)) h7).symm,rfl⟩
 have b6:=h7;have h7:=CF h7;have b5:=DK h7;refine AQ (NX (rqr (sp 1 [(6,vI (0))] (se (BM (AH (t:=6) [] (by kernel_rfl) rfl (TR _) (IR _) ?_))))));exact ⟨congrArg (Value.int .i64) (poolErr_6 (by omega) (by omega) (by omega) (fun i hi=>ha i (by omega)) h7).symm,rfl⟩
noncomputable def c_RGives (p:List Nat):Code:=sub (AP Try.f22) p
theorem RGives_ct (I:Imm) (x:Value) (h:List Int) (y:Value) (nd:List Int) (b:Int) (x_f:AX I x h) (y_f:AX I y nd) (hp:Pool h nd b):Ct Try.prog 22 #[x,y,vI b] I ([]) (fun v I' M'=>∃ u:Value,∃ Ms:Seg,v=u∧M'=Ms∧Own 3 1 AK u (BD h nd b) Ms):=by
 obtain ⟨a8,a9,c9,d2,c0,d0,d1,b7⟩:=id x_f;subst c0;obtain ⟨b0,b2,d3,d6,c1,d4,d5,b8⟩:=id y_f;subst c1;refine fr (args:=[_,_,_]) (N:=31) Try.func22 (fun F=>?_);show Run _ _ (c_RGives []) _ _ [(0,vS a8 h.length a9),(1,vS b0 nd.length b2),(2,vI (b))] _ _;refine rnm ?_;have c3:=hp.some;have c4:=hp.few;have c5:=hp.same;have c6:=hp.bale;refine rqr (sp 1 [(6,vN)] (sn (sp 1 [(7,vN)] (se (rq (rqr (sp 1 [(8,vI (0))] (se (rb 0 ?_)))))))));refine rl (fun mz a w=>∃ k:Nat,∃ a4:Value,∃ a0:Seg,(k≤h.length)∧(Own 3 1 AK a4 ((List.range k).map (giveOf h nd b)) a0)∧Slots 31 [(7,a4),(8,vI ↑k),(0,vS a8 h.length a9),(1,vS b0 nd.length b2),(2,vI (b)),(6,vN)] a∧a.defers=[]∧St I ((a0++F)) w∧mz=h.length-k) ?_ ?_
 ·intro a w hS hD hW;exact ⟨_,0,(vN),[],Nat.zero_le _,(Own.nil _ _ _),hS.sub (.cons 7 rfl (.cons 8 rfl (.cons 0 rfl (.cons 1 rfl (.cons 2 rfl (.cons 6 rfl (.nil _))))))),hD,hW,rfl⟩
 rintro mz a w ⟨k,a4,a0,hk,a3,hS,hD,hW,rfl⟩
 refine AU hS hD hW ?_;clear hS hD hW a w;obtain ⟨a1,a2,a5,a6⟩:=a3.shape;subst a5;have c7:((List.range k).map (giveOf h nd b)).length=k:=by rw [List.length_map,List.length_range]
 refine rq (rqr (sp 4 [(12,.bool (cmp .lss (↑k) (↑(h.length))))] (se (rc 12 rfl (fun h1=>?_) (fun h1=>?_)))))
 ·
  have a7:=h1;have h1:=CD h1;refine AQ (NX (rq (rb 1 ?_)));have c2:=hp.at2 (k:=k) (by omega);refine rd 14 [(0,true),(1,true),(2,true),(3,true),(4,true),(5,true),(6,true),(7,true),(8,true),(9,true),(10,true),(11,true),(12,true),(13,false)] ([]) ((a0++F)) ?_
  skip
  refine ox 3 [(17,vI (↑k)),(16,vS a8 h.length a9),(15,vS a1 ((List.range k).map (giveOf h nd b)).length a2)] ?_;refine AF (di 18 1 (k) b7.addr) ?_;refine AF (dl 19 (BA b7 (k) (by omega))) (ox 2 [(21,vI (↑k)),(20,vS b0 nd.length b2)] ?_);refine AF (di 22 1 (k) b8.addr) ?_;refine AF (dl 23 (BA b8 (k) (by omega))) ?_;refine AF (dsb 24 (h.getD (k) 0) (nd.getD (k) 0)) (ox 2 [(26,vI (b)),(25,vI ((if (0:Int)<((h.getD (k) 0)-(nd.getD (k) 0):Int) then (h.getD (k) 0)-(nd.getD (k) 0) else 0)))] ?_);refine AF (det_quo (x:=(.tmp 25)) (y:=(.tmp 26)) (T:=3) (T':=3) (d:=27) (ty:=3) (gd:=none) (by kernel_rfl) rfl rfl rfl (by omega) (by omega)) ?_;refine OFP.sub 27 (show (vI (((if (0:Int)<((h.getD (k) 0)-(nd.getD (k) 0):Int) then (h.getD (k) 0)-(nd.getD (k) 0) else 0))/b):Value)=vI (giveOf h nd b k) from congrArg (Value.int .i64) (give_ref hp)) ?_;refine FP (sbs 28 3 1 #[vI (giveOf h nd b k)] (fun b1=>?_));refine CX (S':=((bX b1 #[vI (giveOf h nd b k)] 3)::(a0++F))) (PR _) ?_;refine GG (nm (nm ?_));refine sS (BK (d:=29) (x:=(.tmp 15)) (y:=(.tmp 28)) (T:=22) (T':=22) (E:=3) (E':=3) (sz:=1) (bs:=8) (z:=vI (0)) (cell:=AK) (xs:=(List.range k).map (giveOf h nd b)) (ys:=[(giveOf h nd b k:Int)]) (Ms:=a0) (ty:=22) (gd:=none) (by kernel_rfl) rfl (by kernel_rfl) (by kernel_rfl) (by kernel_rfl) (by kernel_rfl) (by kernel_rfl) (by decide) (by kernel_rfl) rfl rfl (a3) (PM.symm) (BZ _) (GI 0 rfl rfl) (by first | omega | (simp only [LC,LN];omega)) (fun v3 b3 b4=>(BG (M':=((b3++F))) (fun w h=>(h.perm PM).sub (TC _ (TR _))) ?_)));obtain ⟨b5,b6,b9,c8⟩:=b4.shape;subst b9;refine sp 1 [(7,vS b5 (((List.range k).map (giveOf h nd b))++([(giveOf h nd b k:Int)])).length b6)] (ee (NB (NX (rr (sp 1 [(13,vI (↑k))] (sd (da 14 (↑k) (1)) (sp 1 [(8,vI (↑k+1))] (ee ?_))))))));refine AN (h.length-(k+1)) (by omega) ?_;intro a w hS hD hW;exact ⟨k+1,vS b5 (((List.range k).map (giveOf h nd b))++([(giveOf h nd b k:Int)])).length b6,b3,by omega,(by rw [KC];exact b4),hS.sub (.consE 7 rfl rfl (.consE 8 rfl rfl (.cons 0 rfl (.cons 1 rfl (.cons 2 rfl (.cons 6 rfl (.nil _))))))),hD,hW,rfl⟩
 have a7:=h1;have h1:=CP h1;refine CG 0 ((EP (EP (EB (NX (rqr (sp 2 [(6,vS a1 ((List.range k).map (giveOf h nd b)).length a2)] (se (BM (AH (t:=6) (a0) (by kernel_rfl) rfl (TA (TR _) _) (IR _) ?_))))))))));exact ⟨_,_,rfl,rfl,((show (List.range k).map (giveOf h nd b)=BD h nd b from by rw [show k=h.length by omega];rfl)▸a3)⟩
noncomputable def c_RLacks (p:List Nat):Code:=sub (AP Try.f23) p
theorem RLacks_ct (I:Imm) (x:Value) (h:List Int) (y:Value) (nd:List Int) (b:Int) (x_f:AX I x h) (y_f:AX I y nd) (hp:Pool h nd b):Ct Try.prog 23 #[x,y,vI b] I ([]) (fun v I' M'=>∃ u:Value,∃ Ms:Seg,v=u∧M'=Ms∧Own 3 1 AK u (BT h nd b) Ms):=by
 obtain ⟨a8,a9,c9,d2,c0,d0,d1,b7⟩:=id x_f;subst c0;obtain ⟨b0,b2,d3,d6,c1,d4,d5,b8⟩:=id y_f;subst c1;refine fr (args:=[_,_,_]) (N:=34) Try.func23 (fun F=>?_);show Run _ _ (c_RLacks []) _ _ [(0,vS a8 h.length a9),(1,vS b0 nd.length b2),(2,vI (b))] _ _;refine rnm ?_;have c3:=hp.some;have c4:=hp.few;have c5:=hp.same;have c6:=hp.bale;refine rqr (sp 1 [(6,vN)] (sn (sp 1 [(7,vN)] (se (rq (rqr (sp 1 [(8,vI (0))] (se (rb 0 ?_)))))))));refine rl (fun mz a w=>∃ k:Nat,∃ a4:Value,∃ a0:Seg,(k≤h.length)∧(Own 3 1 AK a4 ((List.range k).map (getOf h nd b)) a0)∧Slots 34 [(7,a4),(8,vI ↑k),(0,vS a8 h.length a9),(1,vS b0 nd.length b2),(2,vI (b)),(6,vN)] a∧a.defers=[]∧St I ((a0++F)) w∧mz=h.length-k) ?_ ?_
 ·intro a w hS hD hW;exact ⟨_,0,(vN),[],Nat.zero_le _,(Own.nil _ _ _),hS.sub (.cons 7 rfl (.cons 8 rfl (.cons 0 rfl (.cons 1 rfl (.cons 2 rfl (.cons 6 rfl (.nil _))))))),hD,hW,rfl⟩
 rintro mz a w ⟨k,a4,a0,hk,a3,hS,hD,hW,rfl⟩
 refine AU hS hD hW ?_;clear hS hD hW a w;obtain ⟨a1,a2,a5,a6⟩:=a3.shape;subst a5;have c7:((List.range k).map (getOf h nd b)).length=k:=by rw [List.length_map,List.length_range]
 refine rq (rqr (sp 4 [(12,.bool (cmp .lss (↑k) (↑(h.length))))] (se (rc 12 rfl (fun h1=>?_) (fun h1=>?_)))))
 ·
  have a7:=h1;have h1:=CD h1;refine AQ (NX (rq (rb 1 ?_)));have c2:=hp.at2 (k:=k) (by omega);refine rd 17 [(0,true),(1,true),(2,true),(3,true),(4,true),(5,true),(6,true),(7,true),(8,true),(9,true),(10,true),(11,true),(12,true),(13,true),(14,true),(15,true),(16,false)] ([]) ((a0++F)) ?_
  skip
  refine ox 3 [(17,vI (↑k)),(16,vS b0 nd.length b2),(15,vS a1 ((List.range k).map (getOf h nd b)).length a2)] ?_;refine AF (di 18 1 (k) b8.addr) ?_;refine AF (dl 19 (BA b8 (k) (by omega))) (ox 2 [(21,vI (↑k)),(20,vS a8 h.length a9)] ?_);refine AF (di 22 1 (k) b7.addr) ?_;refine AF (dl 23 (BA b7 (k) (by omega))) ?_;refine AF (dsb 24 (nd.getD (k) 0) (h.getD (k) 0)) (ox 2 [(26,vI (b)),(25,vI ((if (0:Int)<((nd.getD (k) 0)-(h.getD (k) 0):Int) then (nd.getD (k) 0)-(h.getD (k) 0) else 0)))] ?_);refine AF (da 27 ((if (0:Int)<((nd.getD (k) 0)-(h.getD (k) 0):Int) then (nd.getD (k) 0)-(h.getD (k) 0) else 0)) (b)) ?_;refine AF (dsb 28 (((if (0:Int)<((nd.getD (k) 0)-(h.getD (k) 0):Int) then (nd.getD (k) 0)-(h.getD (k) 0) else 0))+b) (1)) (ox 1 [(29,vI (b))] ?_);refine AF (det_quo (x:=(.tmp 28)) (y:=(.tmp 29)) (T:=3) (T':=3) (d:=30) (ty:=3) (gd:=none) (by kernel_rfl) rfl rfl rfl (by omega) (by omega)) ?_;refine OFP.sub 30 (show (vI (((((if (0:Int)<((nd.getD (k) 0)-(h.getD (k) 0):Int) then (nd.getD (k) 0)-(h.getD (k) 0) else 0))+b)-1)/b):Value)=vI (getOf h nd b k) from congrArg (Value.int .i64) (get_ref hp)) ?_;refine FP (sbs 31 3 1 #[vI (getOf h nd b k)] (fun b1=>?_));refine CX (S':=((bX b1 #[vI (getOf h nd b k)] 3)::(a0++F))) (PR _) ?_;refine GG (nm (nm ?_));refine sS (BK (d:=32) (x:=(.tmp 15)) (y:=(.tmp 31)) (T:=22) (T':=22) (E:=3) (E':=3) (sz:=1) (bs:=8) (z:=vI (0)) (cell:=AK) (xs:=(List.range k).map (getOf h nd b)) (ys:=[(getOf h nd b k:Int)]) (Ms:=a0) (ty:=22) (gd:=none) (by kernel_rfl) rfl (by kernel_rfl) (by kernel_rfl) (by kernel_rfl) (by kernel_rfl) (by kernel_rfl) (by decide) (by kernel_rfl) rfl rfl (a3) (PM.symm) (BZ _) (GI 0 rfl rfl) (by first | omega | (simp only [LC,LN];omega)) (fun v3 b3 b4=>(BG (M':=((b3++F))) (fun w h=>(h.perm PM).sub (TC _ (TR _))) ?_)));obtain ⟨b5,b6,b9,c8⟩:=b4.shape;subst b9;refine sp 1 [(7,vS b5 (((List.range k).map (getOf h nd b))++([(getOf h nd b k:Int)])).length b6)] (ee (NB (NX (rr (sp 1 [(13,vI (↑k))] (sd (da 14 (↑k) (1)) (sp 1 [(8,vI (↑k+1))] (ee ?_))))))));refine AN (h.length-(k+1)) (by omega) ?_;intro a w hS hD hW;exact ⟨k+1,vS b5 (((List.range k).map (getOf h nd b))++([(getOf h nd b k:Int)])).length b6,b3,by omega,(by rw [KC];exact b4),hS.sub (.consE 7 rfl rfl (.consE 8 rfl rfl (.cons 0 rfl (.cons 1 rfl (.cons 2 rfl (.cons 6 rfl (.nil _))))))),hD,hW,rfl⟩
 have a7:=h1;have h1:=CP h1;refine CG 0 ((EP (EP (EB (NX (rqr (sp 2 [(6,vS a1 ((List.range k).map (getOf h nd b)).length a2)] (se (BM (AH (t:=6) (a0) (by kernel_rfl) rfl (TA (TR _) _) (IR _) ?_))))))))));exact ⟨_,_,rfl,rfl,((show (List.range k).map (getOf h nd b)=BT h nd b from by rw [show k=h.length by omega];rfl)▸a3)⟩
noncomputable def c_RDivide (p:List Nat):Code:=sub (AP Try.f14) p
theorem RDivide_ct (I:Imm) (x:Value) (h:List Int) (y:Value) (nd:List Int) (b:Int) (x_f:AX I x h) (y_f:AX I y nd) (hlow:BF h nd b=0→∀ i,i<h.length→h.getD i 0≤14):Ct Try.prog 14 #[x,y,vI b] I ([]) (fun v I' M'=>∃ u0:Value,v=.tuple #[u0,vI ((DB h nd b).2)]∧M'=[]∧LT I' u0 ((DB h nd b).1)):=by
 obtain ⟨d9,e0,m5,m8,l7,m6,m7,m9⟩:=id x_f;subst l7;obtain ⟨e1,e2,n0,n3,l8,n1,n2,n4⟩:=id y_f;subst l8;refine fr (args:=[_,_,_]) (N:=53) Try.func14 (fun F=>?_);show Run _ _ (c_RDivide []) _ _ [(0,vS d9 h.length e0),(1,vS e1 nd.length e2),(2,vI (b))] _ _;refine rnm (rqr ?_);refine sp 2 [(7,vI (0)),(6,vN)] (se (rq (rqr (sp 3 [(14,vI (b)),(13,vS e1 nd.length e2),(12,vS d9 h.length e0)] (sd (dc 15 (fun I' hI=>(checkPool_ct I' _ _ _ _ (b) (x_f.mono hI) (y_f.mono hI) :))) (sp 1 [(8,vI ((BF h nd b)))] (sn (sp 2 [(17,.bool (!(cmp .eql ((BF h nd b)) (0))))] (se (rc 17 rfl (fun h1=>?_) (fun h1=>?_)))))))))))
 ·
  have f9:=h1;have h1:=CN (CL h1);refine rqr (sp 3 [(7,vI ((BF h nd b))),(6,vN)] (se (BM ((RP ?_)))));have hE:=refDiv_1 h1;refine CE (t:=6) (u:=7) [] (by kernel_rfl) rfl rfl (TR _) (IR _) ?_;exact ⟨_,(by rw [hE]),rfl,((show []=(DB h nd b).1 from by rw [hE])▸(IsSl.nil _))⟩
 have f9:=h1;have h1:=CO (CF h1);refine AQ (NX (rq ?_));have he:BF h nd b=0:=by omega
 have hp:=MD he;have k3:=pool_few hp (hlow he);have k4:=hp.some;have k5:=hp.few;have m1:=FG (h:=h) (nd:=nd) (b:=b);have m2:=GA (h:=h) (nd:=nd) (b:=b);refine rr (sp 3 [(21,vI (b)),(20,vS e1 nd.length e2),(19,vS d9 h.length e0)] ?_);have d2:=RGives_ct I _ _ _ _ (b) x_f y_f (by assumption);refine sS (sc (some 22) (d2 :) (.refl _) (fun m3 I1 l0 b0 k6=>?_));obtain ⟨u6,j6,g9,g8,h0⟩:=k6;rw [g9,g8];clear g9 g8;replace x_f:=x_f.mono b0;replace y_f:=y_f.mono b0;obtain ⟨l4,l5,g6,l6⟩:=h0.shape;subst g6;refine nm ?_;refine sp 3 [(25,vI (b)),(24,vS e1 nd.length e2),(23,vS d9 h.length e0)] ?_;have d3:=RLacks_ct I1 _ _ _ _ (b) x_f y_f (by assumption);refine sS (sc (some 26) (F:=((j6++F))) (d3 :) (.refl _) (fun l2 l9 l1 b2 g3=>?_));obtain ⟨m4,e3,d5,d4,d7⟩:=g3;rw [d5,d4];clear d5 d4;obtain ⟨j2,j3,d8,j4⟩:=d7.shape;subst d8;refine nm ?_;refine sfz (A:=((e3++F))) 0 h0 (PO _ _ _) (fun m0 b3 a3=>?_);obtain ⟨e5,e7,e6,f0,c7,e8,e9,f1⟩:=id a3;cases c7;refine sfz 0 d7 (.refl _) (fun j5 a6 a5=>?_);replace a3:=a3.mono a6;obtain ⟨f2,f4,f3,f7,c8,f5,f6,f8⟩:=id a5;cases c8;have k2:=lists_all h.length (h.length*h.length) j5 _ (BD h nd b) _ (BT h nd b) 0 0 0 0 rfl rfl a3 a5 FG GA (Nat.zero_le _) (Nat.zero_le _) (by omega) ⟨k4,k5⟩ (by omega) hp.cap.1 hp.cap.2;refine sS (EW (d:=some 27) (f:=(.func 26)) (fid:=26) (args:=#[(.tmp 22),(.tmp 26),(.const (vI 0)),(.const (vI 0))]) (tys:=#[22,22,3,3]) (cv:=[]) (F:=(F)) (ty:=59) (gd:=none) (by kernel_rfl) rfl rfl rfl (by kernel_rfl) rfl k2 (PR _) (fun l3 g7 d6 b4 g4=>?_));obtain ⟨a2,a4,b1⟩:=g4;obtain ⟨a0,a1,c9,g5⟩:=a4.shape;subst c9;have a7:=b1.1
 try simp only [LS,LA,LC,LN,LK] at a7
 refine nm ?_;show Seq _ _ _ _ _ _ ((27,vS a0 a2.length a1)::_) _ _;refine sp 1 [(9,vS a0 a2.length a1)] (se (rq (rqr (sp 3 [(30,.bool (cmp .eql (↑(a2.length)) (0)))] (se (rc 30 rfl (fun h2=>?_) (fun h2=>?_)))))))
 ·
  have g0:=h2;have h2:=CO h2;refine rqr (sp 2 [(7,vI (11)),(6,vN)] (se (BM ((RP ?_)))));have hE:=refDiv_2 he (by omega);refine CE (t:=6) (u:=7) [] (by kernel_rfl) rfl rfl (TT (TR _) (TB _ _)) (IT (IT (IT (IT b0 b2) b3) a6) b4) ?_;exact ⟨_,(by rw [hE]),rfl,((show []=(DB h nd b).1 from by rw [hE])▸(IsSl.nil _))⟩
 have g0:=h2;have h2:=CN h2;refine AQ (NX (rqr (sp 1 [(31,vS a0 a2.length a1)] ?_)));obtain ⟨k7,b5⟩:=a4.row undef;refine sd (di 32 1 (0) b5.addr) ?_;have a8:=b1.2 (0) (by omega);obtain ⟨b8,b9,h5,h8,c0,h6,h7,h9⟩:=id a8;rw [c0] at a8;refine sd (DR (dl 33 (b5.get (0) (by omega) 0 (by decide) _ _ (fun x hx=>by simp [hx]))) c0) (sp 1 [(10,vS b8 ((AM h.length (h.length*h.length) (BD h nd b) (BT h nd b)).getD (0) []).length b9)] (se (rq (rqr (sp 1 [(11,vI (0))] (se (rb 0 ?_)))))));refine rl (fun mz a w=>∃ k:Nat,∃ bv:Value,(k≤(AM h.length (h.length*h.length) (BD h nd b) (BT h nd b)).length)∧(LT g7 bv (HS (AM h.length (h.length*h.length) (BD h nd b) (BT h nd b)) k))∧Slots 53 [(10,bv),(11,vI ↑k),(6,vN),(7,vI (0)),(9,vS a0 a2.length a1)] a∧a.defers=[]∧St g7 ((d6++F)) w∧mz=(AM h.length (h.length*h.length) (BD h nd b) (BT h nd b)).length-k) ?_ ?_
 ·intro a w hS hD hW;exact ⟨_,0,vS b8 ((AM h.length (h.length*h.length) (BD h nd b) (BT h nd b)).getD (0) []).length b9,Nat.zero_le _,a8,hS.sub (.cons 10 rfl (.cons 11 rfl (.cons 6 rfl (.cons 7 rfl (.cons 9 rfl (.nil _)))))),hD,hW,rfl⟩
 rintro mz a w ⟨k,bv,hk,c6,hS,hD,hW,rfl⟩
 refine AU hS hD hW ?_;clear hS hD hW a w;obtain ⟨d0,d1,j7,k0,e4,j8,j9,k1⟩:=id c6;subst e4;refine rq (rqr (sp 4 [(37,.bool (cmp .lss (↑k) (↑(a2.length))))] (se (rc 37 rfl (fun h3=>?_) (fun h3=>?_)))))
 ·
  have g1:=h3;have h3:=CD h3;refine AQ (NX (rq (rb 1 (rqr (sp 2 [(41,vI (↑k)),(40,vS a0 a2.length a1)] ?_)))));obtain ⟨k8,b6⟩:=a4.row undef;refine sd (di 42 1 (k) b6.addr) ?_;have c2:=b1.2 (k) (by omega);obtain ⟨i0,i2,i1,i5,c1,i3,i4,i6⟩:=id c2;rw [c1] at c2;refine sd (DR (dl 43 (b6.get (k) (by omega) 0 (by decide) _ _ (fun x hx=>by simp [hx]))) c1) (sp 4 [(47,.bool (cmp .lss (↑(((AM h.length (h.length*h.length) (BD h nd b) (BT h nd b)).getD (k) []).length)) (↑((HS (AM h.length (h.length*h.length) (BD h nd b) (BT h nd b)) k).length))))] (se (rc 47 rfl (fun h4=>?_) (fun h4=>?_))))
  ·
   have g2:=h4;have h4:=CD h4;refine rr (sp 2 [(49,vI (↑k)),(48,vS a0 a2.length a1)] ?_);obtain ⟨k9,b7⟩:=a4.row undef;refine sd (di 50 1 (k) b7.addr) ?_;have a9:=b1.2 (k) (by omega);obtain ⟨c3,c4,i7,j0,c5,i8,i9,j1⟩:=id a9;rw [c5] at a9;refine sd (DR (dl 51 (b7.get (k) (by omega) 0 (by decide) _ _ (fun x hx=>by simp [hx]))) c5) (sp 1 [(10,vS c3 ((AM h.length (h.length*h.length) (BD h nd b) (BT h nd b)).getD (k) []).length c4)] (ee (NB (NX (rr (sp 1 [(38,vI (↑k))] (sd (da 39 (↑k) (1)) (sp 1 [(11,vI (↑k+1))] (ee ?_)))))))));refine AN ((AM h.length (h.length*h.length) (BD h nd b) (BT h nd b)).length-(k+1)) (by omega) ?_;intro a w hS hD hW;exact ⟨k+1,vS c3 ((AM h.length (h.length*h.length) (BD h nd b) (BT h nd b)).getD (k) []).length c4,by omega,(by rw [bestTo_succ (by omega),if_pos (by omega)];exact a9),hS.sub (.consE 10 rfl rfl (.consE 11 rfl rfl (.cons 6 rfl (.cons 7 rfl (.cons 9 rfl (.nil _)))))),hD,hW,rfl⟩
  have g2:=h4;have h4:=CP h4;refine AQ (NB (NX (rr (sp 1 [(38,vI (↑k))] (sd (da 39 (↑k) (1)) (sp 1 [(11,vI (↑k+1))] (ee ?_)))))));refine AN ((AM h.length (h.length*h.length) (BD h nd b) (BT h nd b)).length-(k+1)) (by omega) ?_;intro a w hS hD hW;exact ⟨k+1,vS d0 (HS (AM h.length (h.length*h.length) (BD h nd b) (BT h nd b)) k).length d1,by omega,(by rw [bestTo_succ (by omega),if_neg (by omega)];exact c6),hS.sub (.consE 10 rfl rfl (.consE 11 rfl rfl (.cons 6 rfl (.cons 7 rfl (.cons 9 rfl (.nil _)))))),hD,hW,rfl⟩
 have g1:=h3;have h3:=CP h3;refine CG 0 ((EP (EP (EB (NX (rqr (sp 3 [(7,vI (0)),(6,vS d0 (HS (AM h.length (h.length*h.length) (BD h nd b) (BT h nd b)) k).length d1)] (se (BM ?_)))))))));have hE:=refDiv_3 (k:=k) he (by omega) (by omega);refine CE (t:=6) (u:=7) [] (by kernel_rfl) rfl rfl (TT (TR _) (TB _ _)) (IT (IT (IT (IT b0 b2) b3) a6) b4) ?_;exact ⟨_,(by rw [hE]),rfl,((show HS (AM h.length (h.length*h.length) (BD h nd b) (BT h nd b)) k=(DB h nd b).1 from by rw [hE])▸c6)⟩
noncomputable def c_LinenDivides (p:List Nat):Code:=sub (AP Try.f3) p
set_option maxHeartbeats 1000000 in
theorem LinenDivides_ct (I:Imm) (x1:Value) (h:List Int) (x2:Value) (nd:List Int) (b:Int) (x4:Value) (ns:List Int) (x1_f:AX I x1 h) (x2_f:AX I x2 nd) (x4_f:AX I x4 ns):Ct Try.prog 3 #[x1,x2,vI b,x4] I ([]) (fun v I' M'=>v=.bool (true)∧M'=[]):=by
 obtain ⟨b3,b4,a4q,a4t,a1t,a4r,a4s,a4u⟩:=id x1_f;subst a1t;obtain ⟨c4,c5,a4v,a4z,a1u,a4x,a4y,a5a⟩:=id x2_f;subst a1u;obtain ⟨u3,u4,a5b,a5e,a1v,a5c,a5d,a5f⟩:=id x4_f;subst a1v;refine fr (args:=[_,_,_,_]) (N:=137) Try.func3 (fun F=>?_);show Run _ _ (c_LinenDivides []) _ _ [(0,vS b3 h.length b4),(1,vS c4 nd.length c5),(2,vI (b)),(3,vS u3 ns.length u4)] _ _;refine rnm (rqr ?_);refine sp 1 [(8,.bool (false))] (se (rq (rq ?_)));refine DC (fun a w=>Slots 137 [(0,vS b3 h.length b4),(1,vS c4 nd.length c5),(2,vI (b)),(3,vS u3 ns.length u4),(8,.bool (false)),(30,.bool ((cmp .gtr (↑(h.length)) (20))||(cmp .gtr (↑(nd.length)) (20))))] a∧a.defers=[]∧St I (F) w) ?_ ?_
 ·
  refine rr (sp 4 [(26,.bool (cmp .gtr (↑(h.length)) (20)))] ?_);refine BB 26 rfl (fun h1=>?_) (fun h1=>?_)
  ·
   have l0:=h1;have l0:=KA l0;refine sp 4 [(30,.bool (true))] (ee ?_);refine AO (fun a w hS hD hW=>⟨hS.sub (.cons 0 rfl (.cons 1 rfl (.cons 2 rfl (.cons 3 rfl (.cons 8 rfl (.consE 30 rfl (congrArg Value.bool (by simp only [h1,kA,kB,kC,kD,kE,kF,kG,kH,kI,kJ])) (.nil _))))))),hD,hW⟩)
  have l0:=h1;have l0:=KG l0;refine sp 4 [(30,.bool (cmp .gtr (↑(nd.length)) (20)))] (ee ?_);refine AO (fun a w hS hD hW=>⟨hS.sub (.cons 0 rfl (.cons 1 rfl (.cons 2 rfl (.cons 3 rfl (.cons 8 rfl (.consE 30 rfl (congrArg Value.bool (by simp only [h1,kA,kB,kC,kD,kE,kF,kG,kH,kI,kJ])) (.nil _))))))),hD,hW⟩)
 rintro a w ⟨hS,hD,hW⟩
 refine AU hS hD hW ?_;clear hS hD hW a w;refine rc 30 rfl (fun h2=>?_) (fun h2=>?_)
 ·
  have T8:=h2;refine rqr ?_;have U0:=counting_ct I;refine sS (sc (some 31) (U0 :) (.refl _) (fun rv6 I1 rm7 o5 hp3=>?_));obtain ⟨hv4,hm5⟩:=hp3;rw [hv4,hm5];clear hv4 hm5;replace x1_f:=x1_f.mono o5;replace x2_f:=x2_f.mono o5;replace x4_f:=x4_f.mono o5;refine nm ?_;refine sp 1 [(8,.bool (true))] (se (BM ((RP (AH (t:=8) [] (by kernel_rfl) rfl (TR _) o5 ?_)))));exact ⟨rfl,rfl⟩
 have T8:=h2;obtain ⟨v1,v2⟩:=or_f h2;have v1:=KG v1;have v2:=KG v2;refine AQ (NX (rqr (sp 1 [(32,vS u3 ns.length u4)] ?_)));have v4:=NewBag_ct I _ _ x4_f;refine sS (sc (some 33) (v4 :) (.refl _) (fun a4f I9 a4a l2 U3=>?_));obtain ⟨c3,a1s,z2,x3⟩:=U3;rw [z2,x3];clear z2 x3;replace x1_f:=x1_f.mono l2;replace x2_f:=x2_f.mono l2;refine nm ?_;refine sp 1 [(9,vP c3 0)] (sn (sp 1 [(35,vP c3 0)] ?_));have v5:=poolOf_ct I9 (c3) (a1s);refine sS (sc (some 36) (F:=(F)) (v5 :) (.refl _) (fun a4g I19 a4b l3 U4=>?_));obtain ⟨a7,h3,a5,a6,a4k,j8,a4l,f9,z3,x5,U9,z9,A0⟩:=U4;rw [z3,x5];clear z3 x5;replace x1_f:=x1_f.mono l3;replace x2_f:=x2_f.mono l3;obtain ⟨a8,a9,t7,a1m⟩:=z9.shape;subst t7;obtain ⟨b7,b8,t8,a1n⟩:=A0.shape;subst t8;refine BG (M':=((bX c3 #[.int .u64 (a7)] 71)::(j8++(f9++F)))) (fun w h=>by simpa only [AA,CA,NA] using h) (nm ?_);obtain ⟨hps,hpl,hpn⟩:=U9;refine sp 7 [(12,vI ((a6))),(11,vS b7 a5.length b8),(10,vS a8 h3.length a9)] (sn (sp 3 [(42,vS b3 h.length b4),(41,vS a8 h3.length a9),(40,vS b3 h.length b4)] ?_));have v6:=tight_ct I19 _ _ x1_f;refine sS (sc (some 43) (v6 :) (.refl _) (fun a4h I37 a4c l4 U5=>?_));obtain ⟨b0,u43,n0,z4,x6,V0,A1⟩:=U5;rw [z4,x6];clear z4 x6;replace x1_f:=x1_f.mono l4;replace x2_f:=x2_f.mono l4;obtain ⟨d2,d3,A5,a3a⟩:=A1.shape;subst A5;refine pm (M':=((bX c3 #[.int .u64 (a7)] 71)::(n0++(j8++(f9++F))))) PM ?_;obtain ⟨U8,a3u⟩:=V0;refine sp 2 [(45,vS b3 h.length b4),(44,vS a8 h3.length a9)] (sS (sbs 46 22 5 #[vS b3 h.length b4,vS a8 h3.length a9,vS d2 b0.length d3,vS a8 h3.length a9,vS b3 h.length b4] (fun h9=>(sp 3 [(49,vS c4 nd.length c5),(48,vS b7 a5.length b8),(47,vS c4 nd.length c5)] ?_))));have v7:=tight_ct I37 _ _ x2_f;refine sS (sc (some 50) (v7 :) (.refl _) (fun a4i I52 a4d l5 U6=>?_));obtain ⟨b5,u58,k8,z5,x7,V1,A2⟩:=U6;rw [z5,x7];clear z5 x7;replace x1_f:=x1_f.mono l5;replace x2_f:=x2_f.mono l5;obtain ⟨d4,d5,A6,a3b⟩:=A2.shape;subst A6;refine pm (M':=((bX h9 #[vS b3 h.length b4,vS a8 h3.length a9,vS d2 b0.length d3,vS a8 h3.length a9,vS b3 h.length b4] 22)::(bX c3 #[.int .u64 (a7)] 71)::(k8++(n0++(j8++(f9++F)))))) (PW PM) ?_;obtain ⟨a3y,a3v⟩:=V1;refine sp 1 [(51,vS c4 nd.length c5)] ?_;have v8:=tight_ct I52 _ _ x2_f;refine sS (sc (some 52) (v8 :) (.refl _) (fun a4j I65 a4e l6 U7=>?_));obtain ⟨b6,u71,k9,z6,x8,V2,A3⟩:=U7;rw [z6,x8];clear z6 x8;replace x1_f:=x1_f.mono l6;replace x2_f:=x2_f.mono l6;obtain ⟨d6,d7,A7,a3c⟩:=A3.shape;subst A7;refine pm (M':=((bX h9 #[vS b3 h.length b4,vS a8 h3.length a9,vS d2 b0.length d3,vS a8 h3.length a9,vS b3 h.length b4] 22)::(bX c3 #[.int .u64 (a7)] 71)::(k9++(k8++(n0++(j8++(f9++F))))))) (PW PM) ?_;obtain ⟨a3z,a3x⟩:=V2;refine sS (sbs 53 22 5 #[vS c4 nd.length c5,vS b7 a5.length b8,vS d4 b5.length d5,vS d6 b6.length d7,vN] (fun i0=>(sp 5 [(58,vI (b)),(57,vI (b)),(56,vI ((a6))),(55,vI ((a6))),(54,vI (b))] (sS (sbs 59 3 5 #[vI (b),vI ((a6)),vI ((a6)),vI (b),vI (b)] (fun i1=>(sp 3 [(15,vS (some ⟨i1,0,none⟩) 5 5),(14,vS (some ⟨i0,0,none⟩) 5 5),(13,vS (some ⟨h9,0,none⟩) 5 5)] (se (rq (rq ?_))))))))));refine EI (B:=((bX i1 #[vI (b),vI ((a6)),vI ((a6)),vI (b),vI (b)] 3)::(bX i0 #[vS c4 nd.length c5,vS b7 a5.length b8,vS d4 b5.length d5,vS d6 b6.length d7,vN] 22)::(bX h9 #[vS b3 h.length b4,vS a8 h3.length a9,vS d2 b0.length d3,vS a8 h3.length a9,vS b3 h.length b4] 22)::(bX c3 #[.int .u64 (a7)] 71)::(k9++(k8++(n0++(f9++F)))))) 0 z9 (by first | omega | (simp only [LS,LC,LN,LA,LK,LD] <;> omega) | decide) (PU (PU (PU (PU (PV (PV (PO _ _ _))))))) (PR _) (fun I82 l7 c1=>?_);replace x1_f:=x1_f.mono l7;replace x2_f:=x2_f.mono l7;obtain ⟨P3,P5,P4,P8,s0,P6,P7,P9⟩:=id c1;cases s0;refine EI (B:=((bX i1 #[vI (b),vI ((a6)),vI ((a6)),vI (b),vI (b)] 3)::(bX i0 #[vS c4 nd.length c5,vS b7 a5.length b8,vS d4 b5.length d5,vS d6 b6.length d7,vN] 22)::(bX h9 #[vS b3 h.length b4,vS a8 h3.length a9,vS d2 b0.length d3,vS a8 h3.length a9,vS b3 h.length b4] 22)::(bX c3 #[.int .u64 (a7)] 71)::(k9++(k8++(f9++F))))) 0 A1 (by first | omega | (simp only [LS,LC,LN,LA,LK,LD] <;> omega) | decide) (PU (PU (PU (PU (PV (PO _ _ _)))))) (PR _) (fun I85 k3 c6=>?_);replace x1_f:=x1_f.mono k3;replace x2_f:=x2_f.mono k3;replace c1:=c1.mono k3;obtain ⟨Q0,Q2,Q1,Q5,s1,Q3,Q4,Q6⟩:=id c6;cases s1;refine EI (B:=((bX i1 #[vI (b),vI ((a6)),vI ((a6)),vI (b),vI (b)] 3)::(bX i0 #[vS c4 nd.length c5,vS b7 a5.length b8,vS d4 b5.length d5,vS d6 b6.length d7,vN] 22)::(bX h9 #[vS b3 h.length b4,vS a8 h3.length a9,vS d2 b0.length d3,vS a8 h3.length a9,vS b3 h.length b4] 22)::(bX c3 #[.int .u64 (a7)] 71)::(k9++(k8++F)))) 0 A0 (by first | omega | (simp only [LS,LC,LN,LA,LK,LD] <;> omega) | decide) (PU (PU (PU (PU (PV (PO _ _ _)))))) (PR _) (fun I88 i2 c7=>?_);replace x1_f:=x1_f.mono i2;replace x2_f:=x2_f.mono i2;replace c1:=c1.mono i2;replace c6:=c6.mono i2;obtain ⟨Q7,Q9,Q8,R2,s2,R0,R1,R3⟩:=id c7;cases s2;refine EI (B:=((bX i1 #[vI (b),vI ((a6)),vI ((a6)),vI (b),vI (b)] 3)::(bX i0 #[vS c4 nd.length c5,vS b7 a5.length b8,vS d4 b5.length d5,vS d6 b6.length d7,vN] 22)::(bX h9 #[vS b3 h.length b4,vS a8 h3.length a9,vS d2 b0.length d3,vS a8 h3.length a9,vS b3 h.length b4] 22)::(bX c3 #[.int .u64 (a7)] 71)::(k9++F))) 0 A2 (by first | omega | (simp only [LS,LC,LN,LA,LK,LD] <;> omega) | decide) (PU (PU (PU (PU (PO _ _ _))))) (PR _) (fun I91 g0 e6=>?_);replace x1_f:=x1_f.mono g0;replace x2_f:=x2_f.mono g0;replace c1:=c1.mono g0;replace c6:=c6.mono g0;replace c7:=c7.mono g0;obtain ⟨R4,R6,R5,R9,s3,R7,R8,T0⟩:=id e6;cases s3;refine EI (B:=((bX i1 #[vI (b),vI ((a6)),vI ((a6)),vI (b),vI (b)] 3)::(bX i0 #[vS c4 nd.length c5,vS b7 a5.length b8,vS d4 b5.length d5,vS d6 b6.length d7,vN] 22)::(bX h9 #[vS b3 h.length b4,vS a8 h3.length a9,vS d2 b0.length d3,vS a8 h3.length a9,vS b3 h.length b4] 22)::(bX c3 #[.int .u64 (a7)] 71)::F)) 0 A3 (by first | omega | (simp only [LS,LC,LN,LA,LK,LD] <;> omega) | decide) (PU (PU (PU (PM.symm)))) (PR _) (fun I94 f5 g3=>?_);replace x1_f:=x1_f.mono f5;replace x2_f:=x2_f.mono f5;replace c1:=c1.mono f5;replace c6:=c6.mono f5;replace c7:=c7.mono f5;replace e6:=e6.mono f5;obtain ⟨T1,T3,T2,T6,s4,T4,T5,T7⟩:=id g3;cases s4;refine rpm (M':=((bX i1 #[vI (b),vI ((a6)),vI ((a6)),vI (b),vI (b)] 3)::(bX i0 #[vS c4 nd.length c5,vS b7 a5.length b8,vS d4 b5.length d5,vS d6 b6.length d7,vN] 22)::(bX c3 #[.int .u64 (a7)] 71)::([(bX h9 #[vS b3 h.length b4,vS a8 h3.length a9,vS d2 b0.length d3,vS a8 h3.length a9,vS b3 h.length b4] 22)]++F))) (PC _ (PC _ (PS _ _ _))) ?_;have U2:Own 22 1 DM (vS (some ⟨h9,0,none⟩) 5 5) ([(vS b3 h.length b4:Value),(vS a8 h3.length a9:Value),(vS d2 b0.length d3:Value),(vS a8 h3.length a9:Value),(vS b3 h.length b4:Value)]:List Value) [(bX h9 #[vS b3 h.length b4,vS a8 h3.length a9,vS d2 b0.length d3,vS a8 h3.length a9,vS b3 h.length b4] 22)]:=Own.lit rfl rfl;have i3:=((((((RowsV.nil I94).snoc x1_f).snoc c1).snoc c6).snoc c1).snoc x1_f);simp only [NA,CA] at i3;refine EI (B:=((bX i1 #[vI (b),vI ((a6)),vI ((a6)),vI (b),vI (b)] 3)::(bX i0 #[vS c4 nd.length c5,vS b7 a5.length b8,vS d4 b5.length d5,vS d6 b6.length d7,vN] 22)::(bX c3 #[.int .u64 (a7)] 71)::F)) undef U2 (by first | omega | (simp only [LS,LC,LN,LA,LK,LD] <;> omega) | decide) (PU (PU (PM.symm))) (PR _) (fun I99 d8 j9=>?_);replace x1_f:=x1_f.mono d8;replace x2_f:=x2_f.mono d8;replace c7:=c7.mono d8;replace e6:=e6.mono d8;replace g3:=g3.mono d8;replace i3:=i3.mono d8;obtain ⟨C0,C2,C1,C5,n5,C3,C4,C6⟩:=id j9;cases n5;have n2:=i3.isRows j9;have u5:=i3.1;obtain ⟨A8,B0,A9,B3,u9,n1,B1,B2,a0,a2⟩:=id n2
 injection n1 with fr102_e1 fr102_e2 fr102_e3;subst fr102_e1;subst fr102_e3
 refine rpm (M':=((bX i1 #[vI (b),vI ((a6)),vI ((a6)),vI (b),vI (b)] 3)::(bX c3 #[.int .u64 (a7)] 71)::([(bX i0 #[vS c4 nd.length c5,vS b7 a5.length b8,vS d4 b5.length d5,vS d6 b6.length d7,vN] 22)]++F))) (PC _ (PS _ _ _)) ?_;have x9:Own 22 1 DM (vS (some ⟨i0,0,none⟩) 5 5) ([(vS c4 nd.length c5:Value),(vS b7 a5.length b8:Value),(vS d4 b5.length d5:Value),(vS d6 b6.length d7:Value),(vN:Value)]:List Value) [(bX i0 #[vS c4 nd.length c5,vS b7 a5.length b8,vS d4 b5.length d5,vS d6 b6.length d7,vN] 22)]:=Own.lit rfl rfl;have f6:=((((((RowsV.nil I99).snoc x2_f).snoc c7).snoc e6).snoc g3).snoc (IsSl.nil _));simp only [NA,CA] at f6;refine EI (B:=((bX i1 #[vI (b),vI ((a6)),vI ((a6)),vI (b),vI (b)] 3)::(bX c3 #[.int .u64 (a7)] 71)::F)) undef x9 (by first | omega | (simp only [LS,LC,LN,LA,LK,LD] <;> omega) | decide) (PU (PM.symm)) (PR _) (fun a3d e7 k0=>?_);replace x1_f:=x1_f.mono e7;replace x2_f:=x2_f.mono e7;replace a0:=a0.mono e7;replace a2:=fun i hi=>(a2 i hi).mono e7
 replace f6:=f6.mono e7;obtain ⟨C7,C9,C8,D2,n6,D0,D1,D3⟩:=id k0;cases n6;have n4:=f6.isRows k0;have u6:=f6.1;obtain ⟨B4,B6,B5,B9,v0,n3,B7,B8,a1,a3⟩:=id n4
 injection n3 with fr108_e1 fr108_e2 fr108_e3;subst fr108_e1;subst fr108_e3
 refine rpm (M':=((bX c3 #[.int .u64 (a7)] 71)::([(bX i1 #[vI (b),vI ((a6)),vI ((a6)),vI (b),vI (b)] 3)]++F))) (PS _ _ _) ?_;have y0:Own 3 1 AK (vS (some ⟨i1,0,none⟩) 5 5) ([(b:Int),((a6):Int),((a6):Int),(b:Int),(b:Int)]:List Int) [(bX i1 #[vI (b),vI ((a6)),vI ((a6)),vI (b),vI (b)] 3)]:=Own.lit rfl rfl;refine EI (B:=((bX c3 #[.int .u64 (a7)] 71)::F)) 0 y0 (by first | omega | (simp only [LS,LC,LN,LA,LK,LD] <;> omega) | decide) (PM.symm) (PR _) (fun u7 d9 n8=>?_);replace x1_f:=x1_f.mono d9;replace x2_f:=x2_f.mono d9;replace a0:=a0.mono d9;replace a2:=fun i hi=>(a2 i hi).mono d9
 replace a1:=a1.mono d9;replace a3:=fun i hi=>(a3 i hi).mono d9
 obtain ⟨D4,D6,D5,D9,n7,D7,D8,a4⟩:=id n8;cases n7;have hB5:(([(b:Int),((a6):Int),((a6):Int),(b:Int),(b:Int)]:List Int)).length=5:=rfl;have hbv:∀ k,k<5→(k=0→Low h nd b)→Low (([h,h3,b0,h3,h]).getD k []) (([nd,a5,b5,b6,[]]).getD k []) ((([(b:Int),((a6):Int),((a6):Int),(b:Int),(b:Int)]:List Int)).getD k 0):=fun k hk h0=>low_five hk h0 hps U8
 have v9:∀ k,(([h,h3,b0,h3,h]).getD k []).length≤20:=fun k=>five_len (h:=h) (ph:=h3) (t1:=b0) (by omega) (by omega) (by omega) (by simp)
 have x0:∀ k,(([nd,a5,b5,b6,[]]).getD k []).length≤20:=fun k=>five_len2 (by omega) (by omega) (by omega) (by omega)
 refine rr (sp 1 [(16,vI (0))] (se (rb 0 ?_)));refine rl (fun mz a w=>∃ J0:Imm,∃ k:Nat,(u7.le J0)∧(k≤5)∧Slots 137 [(16,vI ↑k),(0,vS b3 h.length b4),(1,vS c4 nd.length c5),(13,vS (some ⟨h9,0,none⟩) 5 5),(14,vS (some ⟨i0,0,none⟩) 5 5),(15,vS (some ⟨i1,0,none⟩) 5 5)] a∧a.defers=[]∧St J0 ((bX c3 #[.int .u64 (a7)] 71)::F) w∧mz=5-k) ?_ ?_
 ·intro a w hS hD hW;exact ⟨_,u7,0,IR _,by omega,hS.sub (.cons 16 rfl (.cons 0 rfl (.cons 1 rfl (.cons 13 rfl (.cons 14 rfl (.cons 15 rfl (.nil _))))))),hD,hW,rfl⟩
 rintro mz a w ⟨J0,k,hJ0,hk,hS,hD,hW,rfl⟩
 refine AU hS hD hW ?_;clear hS hD hW a w;replace x1_f:=x1_f.mono hJ0;replace x2_f:=x2_f.mono hJ0;replace a0:=a0.mono hJ0;replace a2:=fun i hi=>(a2 i hi).mono hJ0
 replace a1:=a1.mono hJ0;replace a3:=fun i hi=>(a3 i hi).mono hJ0
 replace a4:=a4.mono hJ0;refine rq (rqr (sp 4 [(63,.bool (cmp .lss (↑k) (↑(5))))] (se (rc 63 rfl (fun h4=>?_) (fun h4=>?_)))))
 ·
  have T9:=h4;have h4:=CD h4;refine AQ (NX (rq (rb 1 (rq (rqr (sp 3 [(68,.bool (cmp .eql (↑k) (0)))] ?_))))));refine BB 68 rfl (fun h5=>?_) (fun h5=>?_)
  ·
   have l1:=h5;have l1:=CO l1;refine sp 2 [(70,vS c4 nd.length c5),(69,vS b3 h.length b4)] ?_;have s5:=heavy_ct J0 _ _ _ _ x1_f x2_f;refine sS (sc (some 71) (s5 :) (.refl _) (fun a2l u8 a2b e0 y1=>?_));obtain ⟨z1,q4,p4,A4⟩:=y1;rw [q4,p4];clear q4 p4;replace a0:=a0.mono e0;replace a2:=fun i hi=>(a2 i hi).mono e0
   replace a1:=a1.mono e0;replace a3:=fun i hi=>(a3 i hi).mono e0
   replace a4:=a4.mono e0;refine nm ?_;have hhv:=A4;refine sp 1 [(72,.bool (z1))] (se (rc 72 rfl (fun h6=>?_) (fun h6=>?_)))
   ·
    have v3:=h6;refine CG 1 ((EP (EB (NX (rr (sp 1 [(64,vI (↑k))] (sd (da 65 (↑k) (1)) (sp 1 [(16,vI (↑k+1))] (ee ?_)))))))));refine AN (5-(k+1)) (by omega) ?_;intro a w hS hD hW;exact ⟨u8,k+1,(IT hJ0 e0),by omega,hS.sub (.consE 16 rfl rfl (.cons 0 rfl (.cons 1 rfl (.cons 13 rfl (.cons 14 rfl (.cons 15 rfl (.nil _))))))),hD,hW,rfl⟩
   have v3:=h6;refine AQ (NX (rq ?_));refine rd 9 [(0,true),(1,true),(2,true),(3,true),(5,true),(6,true),(7,true),(8,true),(4,false)] ((bX c3 #[.int .u64 (a7)] 71)::[]) (F) (ox 2 [(74,vI (↑k)),(73,vS (some ⟨h9,0,none⟩) 5 5)] ?_);refine AF (di 75 1 (k) a0.addr) ?_;have i4:=a2 (k) (by omega);obtain ⟨V3,V5,V4,V8,l8,V6,V7,V9⟩:=id i4;rw [l8] at i4;refine AF (DR (dl 76 (DF a0 (k) (by omega))) l8) (ox 2 [(79,vI (↑k)),(78,vS (some ⟨i0,0,none⟩) 5 5)] ?_);refine AF (di 80 1 (k) a1.addr) ?_;have f7:=a3 (k) (by omega);obtain ⟨W0,W2,W1,W5,l9,W3,W4,W6⟩:=id f7;rw [l9] at f7;refine AF (DR (dl 81 (DF a1 (k) (by omega))) l9) ?_;have s6:=IA u8 _ _ i4 (by have hq:=v9 k;omega);refine FP (sc (some 77) (F:=((bX c3 #[.int .u64 (a7)] 71)::F)) (s6 :) (PR _) (fun a2m O5 a2c e1 y2=>?_));obtain ⟨a4m,p0,q5,p5,r4⟩:=y2;rw [q5,p5];clear q5 p5;replace a0:=a0.mono e1;replace a2:=fun i hi=>(a2 i hi).mono e1
   replace a1:=a1.mono e1;replace a3:=fun i hi=>(a3 i hi).mono e1
   replace a4:=a4.mono e1;replace f7:=f7.mono e1;obtain ⟨g8,g9,t9,a1o⟩:=r4.shape;subst t9;refine CX (S':=((p0++F))) PM ?_;show OFP _ _ _ _ _ _ ((77,vS g8 ((([h,h3,b0,h3,h]).getD (k) [])).length g9)::_) _ _;refine GG (nm (nm ?_));have s7:=IA O5 _ _ f7 (by have hq:=x0 k;omega);refine sS (sc (some 82) (s7 :) (.refl _) (fun a2n a3e a2d e8 y3=>?_));obtain ⟨a4n,p1,q6,p6,r5⟩:=y3;rw [q6,p6];clear q6 p6;replace a0:=a0.mono e8;replace a2:=fun i hi=>(a2 i hi).mono e8
   replace a1:=a1.mono e8;replace a3:=fun i hi=>(a3 i hi).mono e8
   replace a4:=a4.mono e8;obtain ⟨j4,j5,u0,a1p⟩:=r5.shape;subst u0;refine pm (M':=((bX c3 #[.int .u64 (a7)] 71)::(p1++(p0++F)))) PM (sp 2 [(18,vS j4 ((([nd,a5,b5,b6,[]]).getD (k) [])).length j5),(17,vS g8 ((([h,h3,b0,h3,h]).getD (k) [])).length g9)] (sn (sp 4 [(87,vI (↑k)),(86,vS (some ⟨i1,0,none⟩) 5 5),(85,vS j4 ((([nd,a5,b5,b6,[]]).getD (k) [])).length j5),(84,vS g8 ((([h,h3,b0,h3,h]).getD (k) [])).length g9)] (sd (di 88 1 (k) a4.addr) (sd (dl 89 (BA a4 (k) (by omega))) (sfz (A:=((bX c3 #[.int .u64 (a7)] 71)::(p1++F))) 0 r4 (PU (PO _ _ _)) (fun a3f e9 b1=>?_)))))));replace a0:=a0.mono e9;replace a2:=fun i hi=>(a2 i hi).mono e9
   replace a1:=a1.mono e9;replace a3:=fun i hi=>(a3 i hi).mono e9
   replace a4:=a4.mono e9;obtain ⟨E0,E2,E1,E5,n9,E3,E4,E6⟩:=id b1;cases n9;refine sfz (A:=((bX c3 #[.int .u64 (a7)] 71)::F)) 0 r5 (PM.symm) (fun O6 e2 b9=>?_);replace a0:=a0.mono e2;replace a2:=fun i hi=>(a2 i hi).mono e2
   replace a1:=a1.mono e2;replace a3:=fun i hi=>(a3 i hi).mono e2
   replace a4:=a4.mono e2;replace b1:=b1.mono e2;obtain ⟨E7,E9,E8,G2,o0,G0,G1,G3⟩:=id b9;cases o0;have s8:=Divide_ct O6 _ _ _ _ ((([(b:Int),((a6):Int),((a6):Int),(b:Int),(b:Int)]:List Int)).getD (k) 0) b1 b9;refine sS (sc (some 90) (s8 :) (.refl _) (fun a2o O7 a2e c8 y4=>?_));obtain ⟨a2v,g1,q7,p7,r6⟩:=y4;rw [q7,p7];clear q7 p7;replace a0:=a0.mono c8;replace a2:=fun i hi=>(a2 i hi).mono c8
   replace a1:=a1.mono c8;replace a3:=fun i hi=>(a3 i hi).mono c8
   replace a4:=a4.mono c8;replace b1:=b1.mono c8;replace b9:=b9.mono c8;obtain ⟨k4,k5,o6,M3⟩:=r6.shape;subst o6;refine pm (M':=((bX c3 #[.int .u64 (a7)] 71)::(g1++F))) PM (sp 5 [(20,vI (((JA ((([h,h3,b0,h3,h]).getD (k) [])) ((([nd,a5,b5,b6,[]]).getD (k) [])) ((([(b:Int),((a6):Int),((a6):Int),(b:Int),(b:Int)]:List Int)).getD (k) 0)).2))),(19,vS k4 ((JA ((([h,h3,b0,h3,h]).getD (k) [])) ((([nd,a5,b5,b6,[]]).getD (k) [])) ((([(b:Int),((a6):Int),((a6):Int),(b:Int),(b:Int)]:List Int)).getD (k) 0)).1).length k5)] (se (rq ?_)));have U1:Low (([h,h3,b0,h3,h]).getD (k) []) (([nd,a5,b5,b6,[]]).getD (k) []) ((([(b:Int),((a6):Int),((a6):Int),(b:Int),(b:Int)]:List Int)).getD (k) 0):=hbv k (by omega) (fun hk0=>low_light (hhv v3));refine rd 17 [(0,true),(1,true),(2,true),(3,true),(4,true),(5,true),(6,true),(7,true),(8,true),(9,true),(10,true),(11,true),(12,false),(13,true),(14,true),(15,true),(16,true)] ((bX c3 #[.int .u64 (a7)] 71)::[]) ((g1++F)) (ox 2 [(95,vI (↑k)),(94,vS (some ⟨h9,0,none⟩) 5 5)] ?_);refine AF (di 96 1 (k) a0.addr) ?_;have i5:=a2 (k) (by omega);obtain ⟨W7,W9,W8,X2,m0,X0,X1,X3⟩:=id i5;rw [m0] at i5;refine AF (DR (dl 97 (DF a0 (k) (by omega))) m0) (ox 2 [(99,vI (↑k)),(98,vS (some ⟨i0,0,none⟩) 5 5)] ?_);refine AF (di 100 1 (k) a1.addr) ?_;have i6:=a3 (k) (by omega);obtain ⟨X4,X6,X5,X9,m1,X7,X8,Y0⟩:=id i6;rw [m1] at i6;refine AF (DR (dl 101 (DF a1 (k) (by omega))) m1) (ox 2 [(103,vI (↑k)),(102,vS (some ⟨i1,0,none⟩) 5 5)] ?_);refine AF (di 104 1 (k) a4.addr) ?_;refine AF (dl 105 (BA a4 (k) (by omega))) ?_;have s9:=RDivide_ct O7 _ _ _ _ ((([(b:Int),((a6):Int),((a6):Int),(b:Int),(b:Int)]:List Int)).getD (k) 0) i5 i6 (by exact U1);refine FP (sc (some 106) (F:=((bX c3 #[.int .u64 (a7)] 71)::(g1++F))) (s9 :) (PR _) (fun a2p a3g a2f c9 y5=>?_));obtain ⟨a2x,q8,p8,z7⟩:=y5;rw [q8,p8];clear q8 p8;replace a0:=a0.mono c9;replace a2:=fun i hi=>(a2 i hi).mono c9
   replace a1:=a1.mono c9;replace a3:=fun i hi=>(a3 i hi).mono c9
   replace a4:=a4.mono c9;replace b1:=b1.mono c9;replace b9:=b9.mono c9;have f2:=z7;obtain ⟨g4,g5,M4,M7,o7,M5,M6,M8⟩:=id f2;subst o7;refine CX (S':=((g1++F))) (PR _) ?_;show OFP _ _ _ _ _ _ ((106,.tuple #[vS g4 ((DB (([h,h3,b0,h3,h]).getD (k) []) (([nd,a5,b5,b6,[]]).getD (k) []) ((([(b:Int),((a6):Int),((a6):Int),(b:Int),(b:Int)]:List Int)).getD (k) 0)).1).length g5,vI (((DB (([h,h3,b0,h3,h]).getD (k) []) (([nd,a5,b5,b6,[]]).getD (k) []) ((([(b:Int),((a6):Int),((a6):Int),(b:Int),(b:Int)]:List Int)).getD (k) 0)).2))])::_) _ _;refine ox 4 [(21,vS g4 ((DB (([h,h3,b0,h3,h]).getD (k) []) (([nd,a5,b5,b6,[]]).getD (k) []) ((([(b:Int),((a6):Int),((a6):Int),(b:Int),(b:Int)]:List Int)).getD (k) 0)).1).length g5),(108,vI (((DB (([h,h3,b0,h3,h]).getD (k) []) (([nd,a5,b5,b6,[]]).getD (k) []) ((([(b:Int),((a6):Int),((a6):Int),(b:Int),(b:Int)]:List Int)).getD (k) 0)).2)))] ?_;refine GG (nm (nm ?_));refine sp 1 [(22,vI (((DB (([h,h3,b0,h3,h]).getD (k) []) (([nd,a5,b5,b6,[]]).getD (k) []) ((([(b:Int),((a6):Int),((a6):Int),(b:Int),(b:Int)]:List Int)).getD (k) 0)).2)))] (se (rq ?_));have hdl:=divE_len (([h,h3,b0,h3,h]).getD (k) []) (([nd,a5,b5,b6,[]]).getD (k) []) ((([(b:Int),((a6):Int),((a6):Int),(b:Int),(b:Int)]:List Int)).getD (k) 0);refine rr (sp 2 [(110,vI (((DB (([h,h3,b0,h3,h]).getD (k) []) (([nd,a5,b5,b6,[]]).getD (k) []) ((([(b:Int),((a6):Int),((a6):Int),(b:Int),(b:Int)]:List Int)).getD (k) 0)).2))),(109,vI (((JA ((([h,h3,b0,h3,h]).getD (k) [])) ((([nd,a5,b5,b6,[]]).getD (k) [])) ((([(b:Int),((a6):Int),((a6):Int),(b:Int),(b:Int)]:List Int)).getD (k) 0)).2)))] (sd (dcm 111 .neq (((JA ((([h,h3,b0,h3,h]).getD (k) [])) ((([nd,a5,b5,b6,[]]).getD (k) [])) ((([(b:Int),((a6):Int),((a6):Int),(b:Int),(b:Int)]:List Int)).getD (k) 0)).2)) (((DB (([h,h3,b0,h3,h]).getD (k) []) (([nd,a5,b5,b6,[]]).getD (k) []) ((([(b:Int),((a6):Int),((a6):Int),(b:Int),(b:Int)]:List Int)).getD (k) 0)).2)) false (by rw [div_ref];simp [cmp])) (sp 3 [(114,vS g4 ((DB (([h,h3,b0,h3,h]).getD (k) []) (([nd,a5,b5,b6,[]]).getD (k) []) ((([(b:Int),((a6):Int),((a6):Int),(b:Int),(b:Int)]:List Int)).getD (k) 0)).1).length g5),(113,vS k4 ((JA ((([h,h3,b0,h3,h]).getD (k) [])) ((([nd,a5,b5,b6,[]]).getD (k) [])) ((([(b:Int),((a6):Int),((a6):Int),(b:Int),(b:Int)]:List Int)).getD (k) 0)).1).length k5),(112,.bool (false))] (sfz (A:=((bX c3 #[.int .u64 (a7)] 71)::F)) GS r6 (PM.symm) (fun O8 c2 k1=>?_)))));replace a0:=a0.mono c2;replace a2:=fun i hi=>(a2 i hi).mono c2
   replace a1:=a1.mono c2;replace a3:=fun i hi=>(a3 i hi).mono c2
   replace a4:=a4.mono c2;replace b1:=b1.mono c2;replace b9:=b9.mono c2;replace f2:=f2.mono c2;obtain ⟨G4,G6,G5,G9,o1,G7,G8,J1⟩:=id k1;cases o1;refine sd (dc 115 (fun I' hI=>(IB I' _ _ _ _ (k1.mono hI) (f2.mono hI) :))) (DW 115 rfl (show (.bool (decide (((JA ((([h,h3,b0,h3,h]).getD (k) [])) ((([nd,a5,b5,b6,[]]).getD (k) [])) ((([(b:Int),((a6):Int),((a6):Int),(b:Int),(b:Int)]:List Int)).getD (k) 0)).1)=((DB (([h,h3,b0,h3,h]).getD (k) []) (([nd,a5,b5,b6,[]]).getD (k) []) ((([(b:Int),((a6):Int),((a6):Int),(b:Int),(b:Int)]:List Int)).getD (k) 0)).1))):Value)=.bool (true) from congrArg Value.bool (decide_eq_true (by rw [div_ref]))) (sp 6 [(121,vI (↑k)),(120,vS (some ⟨h9,0,none⟩) 5 5),(119,vS g8 ((([h,h3,b0,h3,h]).getD (k) [])).length g9),(118,.bool (!(true)))] (sd (di 122 1 (k) a0.addr) ?_)));have i7:=a2 (k) (by omega);obtain ⟨Y1,Y3,Y2,Y6,m2,Y4,Y5,Y7⟩:=id i7;rw [m2] at i7;refine sd (DR (dl 123 (DF a0 (k) (by omega))) m2) (sd (dc 124 (fun I' hI=>(EG I' _ _ _ _ (b1.mono hI) (i7.mono hI) :))) (DW 124 rfl (show (.bool (decide (((([h,h3,b0,h3,h]).getD (k) []))=(([h,h3,b0,h3,h]).getD (k) []))):Value)=.bool (true) from congrArg Value.bool (decide_eq_true rfl)) (sp 6 [(130,vI (↑k)),(129,vS (some ⟨i0,0,none⟩) 5 5),(128,vS j4 ((([nd,a5,b5,b6,[]]).getD (k) [])).length j5),(127,.bool (!(true)))] (sd (di 131 1 (k) a1.addr) ?_))));have i8:=a3 (k) (by omega);obtain ⟨Y8,Z0,Y9,Z3,m3,Z1,Z2,Z4⟩:=id i8;rw [m3] at i8;refine sd (DR (dl 132 (DF a1 (k) (by omega))) m3) (sd (dc 133 (fun I' hI=>(EG I' _ _ _ _ (b9.mono hI) (i8.mono hI) :))) (DW 133 rfl (show (.bool (decide (((([nd,a5,b5,b6,[]]).getD (k) []))=(([nd,a5,b5,b6,[]]).getD (k) []))):Value)=.bool (true) from congrArg Value.bool (decide_eq_true rfl)) (sp 2 [(135,.bool (!(true)))] (se (rcf 135 rfl (AQ (NB (NX (rr (sp 1 [(64,vI (↑k))] (sd (da 65 (↑k) (1)) (sp 1 [(16,vI (↑k+1))] (ee ?_)))))))))))));refine AN (5-(k+1)) (by omega) ?_;intro a w hS hD hW;exact ⟨O8,k+1,(IT (IT (IT (IT (IT (IT (IT (IT hJ0 e0) e1) e8) e9) e2) c8) c9) c2),by omega,hS.sub (.consE 16 rfl rfl (.cons 0 rfl (.cons 1 rfl (.cons 13 rfl (.cons 14 rfl (.cons 15 rfl (.nil _))))))),hD,hW,rfl⟩
  have l1:=h5;have l1:=CN l1;refine sp 4 [(72,.bool (false))] (se (rcf 72 rfl (AQ (NX (rq ?_)))));refine rd 9 [(0,true),(1,true),(2,true),(3,true),(5,true),(6,true),(7,true),(8,true),(4,false)] ((bX c3 #[.int .u64 (a7)] 71)::[]) (F) (ox 2 [(74,vI (↑k)),(73,vS (some ⟨h9,0,none⟩) 5 5)] ?_);refine AF (di 75 1 (k) a0.addr) ?_;have i9:=a2 (k) (by omega);obtain ⟨Z5,Z7,Z6,a0a,m4,Z8,Z9,a0b⟩:=id i9;rw [m4] at i9;refine AF (DR (dl 76 (DF a0 (k) (by omega))) m4) (ox 2 [(79,vI (↑k)),(78,vS (some ⟨i0,0,none⟩) 5 5)] ?_);refine AF (di 80 1 (k) a1.addr) ?_;have f8:=a3 (k) (by omega);obtain ⟨a0c,a0e,a0d,a0h,m5,a0f,a0g,a0i⟩:=id f8;rw [m5] at f8;refine AF (DR (dl 81 (DF a1 (k) (by omega))) m5) ?_;have t0:=IA J0 _ _ i9 (by have hq:=v9 k;omega);refine FP (sc (some 77) (F:=((bX c3 #[.int .u64 (a7)] 71)::F)) (t0 :) (PR _) (fun a2q O9 a2g e3 y6=>?_));obtain ⟨a4o,p2,q9,p9,r7⟩:=y6;rw [q9,p9];clear q9 p9;replace a0:=a0.mono e3;replace a2:=fun i hi=>(a2 i hi).mono e3
  replace a1:=a1.mono e3;replace a3:=fun i hi=>(a3 i hi).mono e3
  replace a4:=a4.mono e3;replace f8:=f8.mono e3;obtain ⟨h7,h8,u1,a1q⟩:=r7.shape;subst u1;refine CX (S':=((p2++F))) PM ?_;show OFP _ _ _ _ _ _ ((77,vS h7 ((([h,h3,b0,h3,h]).getD (k) [])).length h8)::_) _ _;refine GG (nm (nm ?_));have t2:=IA O9 _ _ f8 (by have hq:=x0 k;omega);refine sS (sc (some 82) (t2 :) (.refl _) (fun a2r a3i a2h f0 y7=>?_));obtain ⟨a4p,p3,r0,q0,r8⟩:=y7;rw [r0,q0];clear r0 q0;replace a0:=a0.mono f0;replace a2:=fun i hi=>(a2 i hi).mono f0
  replace a1:=a1.mono f0;replace a3:=fun i hi=>(a3 i hi).mono f0
  replace a4:=a4.mono f0;obtain ⟨j6,j7,u2,a1r⟩:=r8.shape;subst u2;refine pm (M':=((bX c3 #[.int .u64 (a7)] 71)::(p3++(p2++F)))) PM (sp 2 [(18,vS j6 ((([nd,a5,b5,b6,[]]).getD (k) [])).length j7),(17,vS h7 ((([h,h3,b0,h3,h]).getD (k) [])).length h8)] (sn (sp 4 [(87,vI (↑k)),(86,vS (some ⟨i1,0,none⟩) 5 5),(85,vS j6 ((([nd,a5,b5,b6,[]]).getD (k) [])).length j7),(84,vS h7 ((([h,h3,b0,h3,h]).getD (k) [])).length h8)] (sd (di 88 1 (k) a4.addr) (sd (dl 89 (BA a4 (k) (by omega))) (sfz (A:=((bX c3 #[.int .u64 (a7)] 71)::(p3++F))) 0 r7 (PU (PO _ _ _)) (fun a3j f1 b2=>?_)))))));replace a0:=a0.mono f1;replace a2:=fun i hi=>(a2 i hi).mono f1
  replace a1:=a1.mono f1;replace a3:=fun i hi=>(a3 i hi).mono f1
  replace a4:=a4.mono f1;obtain ⟨J2,J4,J3,J7,o2,J5,J6,J8⟩:=id b2;cases o2;refine sfz (A:=((bX c3 #[.int .u64 (a7)] 71)::F)) 0 r8 (PM.symm) (fun P0 e4 c0=>?_);replace a0:=a0.mono e4;replace a2:=fun i hi=>(a2 i hi).mono e4
  replace a1:=a1.mono e4;replace a3:=fun i hi=>(a3 i hi).mono e4
  replace a4:=a4.mono e4;replace b2:=b2.mono e4;obtain ⟨J9,K1,K0,K4,o3,K2,K3,K5⟩:=id c0;cases o3;have t3:=Divide_ct P0 _ _ _ _ ((([(b:Int),((a6):Int),((a6):Int),(b:Int),(b:Int)]:List Int)).getD (k) 0) b2 c0;refine sS (sc (some 90) (t3 :) (.refl _) (fun a2s P1 a2i d0 y8=>?_));obtain ⟨a2y,g2,r1,q1,r9⟩:=y8;rw [r1,q1];clear r1 q1;replace a0:=a0.mono d0;replace a2:=fun i hi=>(a2 i hi).mono d0
  replace a1:=a1.mono d0;replace a3:=fun i hi=>(a3 i hi).mono d0
  replace a4:=a4.mono d0;replace b2:=b2.mono d0;replace c0:=c0.mono d0;obtain ⟨k6,k7,o8,M9⟩:=r9.shape;subst o8;refine pm (M':=((bX c3 #[.int .u64 (a7)] 71)::(g2++F))) PM (sp 5 [(20,vI (((JA ((([h,h3,b0,h3,h]).getD (k) [])) ((([nd,a5,b5,b6,[]]).getD (k) [])) ((([(b:Int),((a6):Int),((a6):Int),(b:Int),(b:Int)]:List Int)).getD (k) 0)).2))),(19,vS k6 ((JA ((([h,h3,b0,h3,h]).getD (k) [])) ((([nd,a5,b5,b6,[]]).getD (k) [])) ((([(b:Int),((a6):Int),((a6):Int),(b:Int),(b:Int)]:List Int)).getD (k) 0)).1).length k7)] (se (rq ?_)));have U1:Low (([h,h3,b0,h3,h]).getD (k) []) (([nd,a5,b5,b6,[]]).getD (k) []) ((([(b:Int),((a6):Int),((a6):Int),(b:Int),(b:Int)]:List Int)).getD (k) 0):=hbv k (by omega) (fun hk0=>absurd hk0 (by omega));refine rd 17 [(0,true),(1,true),(2,true),(3,true),(4,true),(5,true),(6,true),(7,true),(8,true),(9,true),(10,true),(11,true),(12,false),(13,true),(14,true),(15,true),(16,true)] ((bX c3 #[.int .u64 (a7)] 71)::[]) ((g2++F)) (ox 2 [(95,vI (↑k)),(94,vS (some ⟨h9,0,none⟩) 5 5)] ?_);refine AF (di 96 1 (k) a0.addr) ?_;have j0:=a2 (k) (by omega);obtain ⟨a0j,a0l,a0k,a0o,m6,a0m,a0n,a0p⟩:=id j0;rw [m6] at j0;refine AF (DR (dl 97 (DF a0 (k) (by omega))) m6) (ox 2 [(99,vI (↑k)),(98,vS (some ⟨i0,0,none⟩) 5 5)] ?_);refine AF (di 100 1 (k) a1.addr) ?_;have j1:=a3 (k) (by omega);obtain ⟨a0q,a0s,a0r,a0v,m7,a0t,a0u,a0x⟩:=id j1;rw [m7] at j1;refine AF (DR (dl 101 (DF a1 (k) (by omega))) m7) (ox 2 [(103,vI (↑k)),(102,vS (some ⟨i1,0,none⟩) 5 5)] ?_);refine AF (di 104 1 (k) a4.addr) ?_;refine AF (dl 105 (BA a4 (k) (by omega))) ?_;have t4:=RDivide_ct P1 _ _ _ _ ((([(b:Int),((a6):Int),((a6):Int),(b:Int),(b:Int)]:List Int)).getD (k) 0) j0 j1 (by exact U1);refine FP (sc (some 106) (F:=((bX c3 #[.int .u64 (a7)] 71)::(g2++F))) (t4 :) (PR _) (fun a2t a3k a2j e5 y9=>?_));obtain ⟨a2z,r2,q2,z8⟩:=y9;rw [r2,q2];clear r2 q2;replace a0:=a0.mono e5;replace a2:=fun i hi=>(a2 i hi).mono e5
  replace a1:=a1.mono e5;replace a3:=fun i hi=>(a3 i hi).mono e5
  replace b2:=b2.mono e5;replace c0:=c0.mono e5;have f4:=z8;obtain ⟨g6,g7,O0,O3,o9,O1,O2,O4⟩:=id f4;subst o9;refine CX (S':=((g2++F))) (PR _) ?_;show OFP _ _ _ _ _ _ ((106,.tuple #[vS g6 ((DB (([h,h3,b0,h3,h]).getD (k) []) (([nd,a5,b5,b6,[]]).getD (k) []) ((([(b:Int),((a6):Int),((a6):Int),(b:Int),(b:Int)]:List Int)).getD (k) 0)).1).length g7,vI (((DB (([h,h3,b0,h3,h]).getD (k) []) (([nd,a5,b5,b6,[]]).getD (k) []) ((([(b:Int),((a6):Int),((a6):Int),(b:Int),(b:Int)]:List Int)).getD (k) 0)).2))])::_) _ _;refine ox 4 [(21,vS g6 ((DB (([h,h3,b0,h3,h]).getD (k) []) (([nd,a5,b5,b6,[]]).getD (k) []) ((([(b:Int),((a6):Int),((a6):Int),(b:Int),(b:Int)]:List Int)).getD (k) 0)).1).length g7),(108,vI (((DB (([h,h3,b0,h3,h]).getD (k) []) (([nd,a5,b5,b6,[]]).getD (k) []) ((([(b:Int),((a6):Int),((a6):Int),(b:Int),(b:Int)]:List Int)).getD (k) 0)).2)))] ?_;refine GG (nm (nm ?_));refine sp 1 [(22,vI (((DB (([h,h3,b0,h3,h]).getD (k) []) (([nd,a5,b5,b6,[]]).getD (k) []) ((([(b:Int),((a6):Int),((a6):Int),(b:Int),(b:Int)]:List Int)).getD (k) 0)).2)))] (se (rq ?_));have hdl:=divE_len (([h,h3,b0,h3,h]).getD (k) []) (([nd,a5,b5,b6,[]]).getD (k) []) ((([(b:Int),((a6):Int),((a6):Int),(b:Int),(b:Int)]:List Int)).getD (k) 0);refine rr (sp 2 [(110,vI (((DB (([h,h3,b0,h3,h]).getD (k) []) (([nd,a5,b5,b6,[]]).getD (k) []) ((([(b:Int),((a6):Int),((a6):Int),(b:Int),(b:Int)]:List Int)).getD (k) 0)).2))),(109,vI (((JA ((([h,h3,b0,h3,h]).getD (k) [])) ((([nd,a5,b5,b6,[]]).getD (k) [])) ((([(b:Int),((a6):Int),((a6):Int),(b:Int),(b:Int)]:List Int)).getD (k) 0)).2)))] (sd (dcm 111 .neq (((JA ((([h,h3,b0,h3,h]).getD (k) [])) ((([nd,a5,b5,b6,[]]).getD (k) [])) ((([(b:Int),((a6):Int),((a6):Int),(b:Int),(b:Int)]:List Int)).getD (k) 0)).2)) (((DB (([h,h3,b0,h3,h]).getD (k) []) (([nd,a5,b5,b6,[]]).getD (k) []) ((([(b:Int),((a6):Int),((a6):Int),(b:Int),(b:Int)]:List Int)).getD (k) 0)).2)) false (by rw [div_ref];simp [cmp])) (sp 3 [(114,vS g6 ((DB (([h,h3,b0,h3,h]).getD (k) []) (([nd,a5,b5,b6,[]]).getD (k) []) ((([(b:Int),((a6):Int),((a6):Int),(b:Int),(b:Int)]:List Int)).getD (k) 0)).1).length g7),(113,vS k6 ((JA ((([h,h3,b0,h3,h]).getD (k) [])) ((([nd,a5,b5,b6,[]]).getD (k) [])) ((([(b:Int),((a6):Int),((a6):Int),(b:Int),(b:Int)]:List Int)).getD (k) 0)).1).length k7),(112,.bool (false))] (sfz (A:=((bX c3 #[.int .u64 (a7)] 71)::F)) GS r9 (PM.symm) (fun P2 d1 k2=>?_)))));replace a0:=a0.mono d1;replace a2:=fun i hi=>(a2 i hi).mono d1
  replace a1:=a1.mono d1;replace a3:=fun i hi=>(a3 i hi).mono d1
  replace b2:=b2.mono d1;replace c0:=c0.mono d1;replace f4:=f4.mono d1;obtain ⟨K6,K8,K7,M1,o4,K9,M0,M2⟩:=id k2;cases o4;refine sd (dc 115 (fun I' hI=>(IB I' _ _ _ _ (k2.mono hI) (f4.mono hI) :))) (DW 115 rfl (show (.bool (decide (((JA ((([h,h3,b0,h3,h]).getD (k) [])) ((([nd,a5,b5,b6,[]]).getD (k) [])) ((([(b:Int),((a6):Int),((a6):Int),(b:Int),(b:Int)]:List Int)).getD (k) 0)).1)=((DB (([h,h3,b0,h3,h]).getD (k) []) (([nd,a5,b5,b6,[]]).getD (k) []) ((([(b:Int),((a6):Int),((a6):Int),(b:Int),(b:Int)]:List Int)).getD (k) 0)).1))):Value)=.bool (true) from congrArg Value.bool (decide_eq_true (by rw [div_ref]))) (sp 6 [(121,vI (↑k)),(120,vS (some ⟨h9,0,none⟩) 5 5),(119,vS h7 ((([h,h3,b0,h3,h]).getD (k) [])).length h8),(118,.bool (!(true)))] (sd (di 122 1 (k) a0.addr) ?_)));have j2:=a2 (k) (by omega);obtain ⟨a0y,a1a,a0z,a1d,m8,a1b,a1c,a1e⟩:=id j2;rw [m8] at j2;refine sd (DR (dl 123 (DF a0 (k) (by omega))) m8) (sd (dc 124 (fun I' hI=>(EG I' _ _ _ _ (b2.mono hI) (j2.mono hI) :))) (DW 124 rfl (show (.bool (decide (((([h,h3,b0,h3,h]).getD (k) []))=(([h,h3,b0,h3,h]).getD (k) []))):Value)=.bool (true) from congrArg Value.bool (decide_eq_true rfl)) (sp 6 [(130,vI (↑k)),(129,vS (some ⟨i0,0,none⟩) 5 5),(128,vS j6 ((([nd,a5,b5,b6,[]]).getD (k) [])).length j7),(127,.bool (!(true)))] (sd (di 131 1 (k) a1.addr) ?_))));have j3:=a3 (k) (by omega);obtain ⟨a1f,a1h,a1g,a1k,m9,a1i,a1j,a1l⟩:=id j3;rw [m9] at j3;refine sd (DR (dl 132 (DF a1 (k) (by omega))) m9) (sd (dc 133 (fun I' hI=>(EG I' _ _ _ _ (c0.mono hI) (j3.mono hI) :))) (DW 133 rfl (show (.bool (decide (((([nd,a5,b5,b6,[]]).getD (k) []))=(([nd,a5,b5,b6,[]]).getD (k) []))):Value)=.bool (true) from congrArg Value.bool (decide_eq_true rfl)) (sp 2 [(135,.bool (!(true)))] (se (rcf 135 rfl (AQ (NB (NX (rr (sp 1 [(64,vI (↑k))] (sd (da 65 (↑k) (1)) (sp 1 [(16,vI (↑k+1))] (ee ?_)))))))))))));refine AN (5-(k+1)) (by omega) ?_;intro a w hS hD hW;exact ⟨P2,k+1,(IT (IT (IT (IT (IT (IT (IT hJ0 e3) f0) f1) e4) d0) e5) d1),by omega,hS.sub (.consE 16 rfl rfl (.cons 0 rfl (.cons 1 rfl (.cons 13 rfl (.cons 14 rfl (.cons 15 rfl (.nil _))))))),hD,hW,rfl⟩
 have T9:=h4;have h4:=CP h4;refine CG 0 ((EP (EP (EB (NX (rqr ?_))))));have t5:=counting_ct J0;refine sS (sc (some 136) (t5 :) (.refl _) (fun a2u a3l a2k t6 z0=>?_));obtain ⟨r3,q3⟩:=z0;rw [r3,q3];clear r3 q3;refine nm ?_;refine sp 1 [(8,.bool (true))] (se (BM (AH (t:=8) [] (by kernel_rfl) rfl (TC _ (TR _)) (IT (IT (IT (IT (IT (IT (IT (IT (IT (IT (IT (IT (IT (IT l2 l3) l4) l5) l6) l7) k3) i2) g0) f5) d8) e7) d9) hJ0) t6) ?_)));exact ⟨rfl,rfl⟩
end Go.Proofs.Ytgcemienebmdeaa
namespace Go.Sl
open Go Go.ChangeShapes Go.WideShapes
def immOf (W:World):Imm:=⟨W.os,W.tape,W.output,fun b=>W.heap[b]?⟩
theorem st_immOf (W:World):St (immOf W) [] W:=⟨rfl,rfl,rfl,fun _ _ h=>h,fun _ _ h=>by simp at h,by simp,fun _ _ h=>by simp at h⟩
theorem MQ {W:World} {a:Addr} {v:Value} (h:W.cell? a=some v):a.spot=none∧∃ cs T fz,W.heap[a.block]?=some (.cells cs T fz)∧cs[a.off]?=some v:=by
  unfold World.cell? at h
  split at h
  · rename_i cs T fz hb
    split at h
    · cases h
    · rename_i hs
      refine ⟨by cases hx:a.spot with | none=>rfl | some _=>rw [hx] at hs;simp at hs,cs,T,fz,hb,h⟩
  · cases h
theorem same_of_le {W W':World} {J:Imm} {M:Seg} (le:(immOf W).le J) (st:St J M W'):(∀ b,b<W.heap.size→W'.heap[b]?=W.heap[b]?)∧W'.os=W.os∧W'.output=W.output:=by
  refine ⟨fun b hb=>?_,st.os.trans le.os,st.output.trans le.output⟩;have h:(immOf W).blk b=some W.heap[b]:=by show W.heap[b]?=_;simp [hb]
  rw [st.imm b _ (le.blk b _ h)];exact h.symm
theorem keptBut_same {W W':World} {may:MemPlace→Prop} (h:∀ b,b<W.heap.size→W'.heap[b]?=W.heap[b]?) (ho:W'.os=W.os) (hu:W'.output=W.output):W.keptBut W' may:=by
  refine ⟨ho,hu,fun i hi=>?_⟩;rw [h i hi];have:W.heap[i]?=some W.heap[i]:=by simp [hi]
  rw [this];cases W.heap[i] <;> simp
theorem sameAt_heap {W W':World} {p:MemPlace} (h:W'.heap[p.block]?=W.heap[p.block]?):W.sameAt W' p:=by
  cases p <;> simp only [MemPlace.block] at h <;> simp [World.sameAt,World.cell?,World.frozen?,h]
end Go.Sl
namespace Go
end Go
namespace Go.Sl
open Go Go.ChangeShapes Go.WideShapes Go.Deep Go.Sh
section
variable {H:Type} {enc:TypeId × Value→H} {P:Program} {W:World}
def Light (P:Program) (t:TypeId) (d:DataW H):Prop:=∀ n∈d.weights P t,n≤reachBytes
theorem light_arg {ts:List TypeId} {ds:List (DataW H)} (h:(DataW.weightsEach P ts ds).all (·≤reachBytes)=true) {j:Nat} {t:TypeId} {d:DataW H} (ht:ts[j]?=some t) (hd:ds[j]?=some d):Light P t d:=fun n hn=>by
  have:=List.all_eq_true.1 h _ (DataW.weights_mem_each ht hd n hn)
  simpa using this
theorem light_all {e:TypeId}:∀ {l:List (DataW H)} {d:DataW H},d∈l→∀ n∈d.weights P e,n∈DataW.weightsAll P e l:=by
  intro l
  induction l with
  | nil=>intro d h;simp at h
  | cons x r ih=>
    intro d h n hn;simp only [DataW.weightsAll,List.mem_append];rcases List.mem_cons.1 h with rfl | h
    · exact .inl hn
    · exact .inr (ih h n hn)
theorem light_elem {t e:TypeId} {elems sp:List (DataW H)} (ht:P.underlying t=some (.slice e)) (h:Light P t (.slice elems sp)):(elems.length+sp.length)*P.bytesOf e≤reachBytes∧(∀ d∈elems,Light P e d)∧∀ d∈sp,Light P e d:=by
  have e1:(DataW.slice elems sp).weights P t=(elems.length+sp.length)*P.bytesOf e::(DataW.weightsAll P e elems++DataW.weightsAll P e sp):=by simp [DataW.weights,ht]
  refine ⟨h _ (by rw [e1];exact List.mem_cons_self),fun d hd n hn=>h n ?_,fun d hd n hn=>h n ?_⟩
  · rw [e1];exact List.mem_cons_of_mem _ (List.mem_append_left _ (light_all hd n hn))
  · rw [e1];exact List.mem_cons_of_mem _ (List.mem_append_right _ (light_all hd n hn))
theorem addr_plain' {w:World} {a:Addr} {i:Nat} {v:Value} (hi:i=0) (h:w.cell? (a.add i)=some v):a=⟨a.block,a.off,none⟩:=by
  subst hi;have:=(MQ h).1;cases a with
  | mk b o s=>
    unfold Addr.add at this;simp only [if_true] at this;subst this;rfl
theorem sl_of {α : Type} [Inhabited α] {sz : Nat} {cell : α → Nat → Value} {dflt : α} {Q : α → Prop} {t e : TypeId} {fuel : Nat} {v : Value} {d : DataW H} {p : List MemPlace} (ht : P.underlying t = some (.slice e)) (hc : P.cellsOf e = sz) (hs : 0 < sz) (hb : 0 < P.bytesOf e)
    (h:DataW.trod enc P W 0 (fun _=>true) true fuel t [v]=some (d,p)) (hl:Light P t d)
    (el:∀ n cs d p,cs.length=sz→DataW.trod enc P W 0 (fun _=>true) true n e cs=some (d,p)→Light P e d→∃ a:α,Q a∧∀ f,f<sz→cs[f]?=some (cell a f)):∃ xs:List α,IsSl sz cell dflt (immOf W) v xs∧∀ x∈xs,Q x:=by
  rcases open_slice ht h with ⟨hcs,_⟩ | ⟨a,len,cap,m,n,D,Pl,hcs,_,hle,hm,hmm,hx,hel⟩
  · obtain rfl:=List.head_eq_of_cons_eq hcs
    exact ⟨[],IsSl.nil _,fun x hx=>by simp at hx⟩
  · obtain rfl:=List.head_eq_of_cons_eq hcs
    simp only [if_true] at hmm;subst hmm;simp only [Prod.mk.injEq] at hx;obtain ⟨rfl,rfl⟩:=hx;obtain ⟨l1,l2,l3⟩:=light_elem ht hl;simp only [List.length_map,List.length_range] at l1;have hr:len≤140737488355328:=by
      have:len*1≤(len+(m-len))*P.bytesOf e:=Nat.mul_le_mul (by omega) hb;simp only [reachBytes] at l1;omega
    have each:∀ i,i<len→∃ x:α,Q x∧∀ f,f<sz→W.cell? (a.add (i*sz+f))=some (cell x f):=fun i hi=>by
      obtain ⟨cs,h1,h2⟩:=hel i (by omega);rw [hc] at h1;obtain ⟨_,hlen,hcell⟩:=World.cells?_some h1;obtain ⟨x,hq,hxf⟩:=el n cs _ _ hlen h2 (l2 _ (List.mem_map.2 ⟨i,by simp [hi],rfl⟩));refine ⟨x,hq,fun f hf=>?_⟩;rw [← add_add,hcell f hf,hxf f hf]
    obtain ⟨g,hg⟩:=choose_lt each;refine ⟨(List.range len).map g,⟨some a,m,a.block,a.off,by simp,by simpa using hle,by simpa using hr,⟨fun h0=>?_,fun i hi f hf=>?_⟩⟩,fun x hx=>?_⟩
    · simp only [List.length_map,List.length_range] at h0
      exact congrArg some (addr_plain' (by simp) ((hg 0 h0).2 0 hs))
    · simp only [List.length_map,List.length_range] at hi
      have hcell:=(hg i hi).2 f hf;have e0:=addr_plain' (by simp) ((hg 0 (by omega)).2 0 hs);obtain ⟨h1,cs,T,fz,hb',hv⟩:=MQ hcell;have e1:a.add (i*sz+f)=⟨a.block,a.off+(i*sz+f),none⟩:=by rw [e0];exact EK _ _ _
      rw [e1] at hb' hv;have e2:((List.range len).map g).getD i dflt=g i:=by simp [List.getD,hi]
      simp only [e2];exact ⟨rfl,cs,T,fz,hb',by rw [Nat.add_assoc];exact hv⟩
    · obtain ⟨i,hi,rfl⟩:=List.mem_map.1 hx
      exact (hg i (List.mem_range.1 hi)).1
theorem ints_of {t e : TypeId} {fuel : Nat} {v : Value} {d : DataW H} {p : List MemPlace} (ht : P.underlying t = some (.slice e)) (he : P.underlying e = some (.int .i64)) (hc : P.cellsOf e = 1) (hb : 0 < P.bytesOf e)
    (h:DataW.trod enc P W 0 (fun _=>true) true fuel t [v]=some (d,p)) (hl:Light P t d):∃ xs:List Int,AX (immOf W) v xs:=by
  obtain ⟨xs,h1,_⟩:=sl_of (cell:=AK) (dflt:=(0:Int)) (Q:=fun _=>True) ht hc (by decide) hb h hl fun n cs d p hcs hd _=>by
    obtain ⟨z,rfl,_,_⟩:=DataW.trod_int he hd;exact ⟨z,trivial,fun f hf=>(show f=0 by omega)▸rfl⟩
  exact ⟨xs,h1⟩
instance:Inhabited Value:=⟨undef⟩
instance:Inhabited Car:=⟨noCar⟩
instance:Inhabited Shift:=⟨noShift⟩
theorem all_stay (hl : laidOutB P = true) {W' : World} {sp' : Nat → Bool} : ∀ {ts : List TypeId} {vs : List Value} {ds : List (DataW H)} {p : List MemPlace}, (∀ t ∈ ts, P.readableRec t = true ∧ t < P.types.size) → DataW.TrodAll enc P W 0 (fun _ => true) true ts vs ds p →
    (∀ x∈p,W.sameAt W' x)→(∀ x∈p,sp' x.block=true)→DataW.TrodAll enc P W' 0 sp' true ts vs ds p:=by
  intro ts
  induction ts with
  | nil=>intro vs ds p _ h _ _;obtain ⟨rfl,rfl,rfl⟩:=trodAll_nil h;exact rfl
  | cons t ts ih=>
    intro vs ds p hr h h1 h2;obtain ⟨v,vs',d,ds',q,q',rfl,rfl,rfl,g1,g2⟩:=trodAll_cons h
    exact ⟨q,q',WideElems.Trod_stays hl (hr t List.mem_cons_self).1 (hr t List.mem_cons_self).2 g1 (fun x hx=>h1 x (List.mem_append_left _ hx)) (fun x hx=>h2 x (List.mem_append_left _ hx)),
      ih (fun t ht=>hr t (List.mem_cons_of_mem _ ht)) g2 (fun x hx=>h1 x (List.mem_append_right _ hx)) (fun x hx=>h2 x (List.mem_append_right _ hx)),rfl⟩
end
end Go.Sl
namespace Go.Proofs.Ytgcemienebmdeaa
open Go Go.ChangeShapes Go.WideShapes Go.RowKit Go.Sl Go.Sh
set_option maxRecDepth 100000
theorem Row.own:ownKnob Try.prog.godebug=none:=by kernel_rfl
theorem Row.laidOut:laidOutB Try.prog=true:=by kernel_rfl
theorem Row.cells:Try.prog.cellsOf 3=1:=by kernel_rfl
theorem Row.bytes:Try.prog.bytesOf 3=8:=by kernel_rfl
theorem law_lifted (os : Os) (started : os.Started) (H : Type) (enc : TypeId × Value → H) :
    ReturnsInHanded {} Try.checked os 3 .any (Rows.linenDividesSpec.pre6 enc Try.prog Try.f3 Rows.linenDividesRow.domain false) (Rows.linenDividesSpec.post enc Try.prog Try.f3 false true false false):=by
  refine returnsInHanded_of_change_sized (C:=Try.checked) Row.own started (by kernel_rfl) Try.func3
    (ChangeSpec.witness6 (enc:=enc) (C:=Try.checked) false ⟨#[],#[.slice none 0 0,.slice none 0 0,.int .i64 0,.slice none 0 0],[]⟩ 8 (by kernel_rfl) (by kernel_rfl) (by kernel_rfl) (by kernel_rfl)) ?_
  intro W base args ds gs before hval0 hW _ hsz0 _
  have hsz:(DataW.weightsEach Try.prog (Try.f3.params.toList++Rows.linenDividesSpec.plain.varTypes Try.prog) (ds++gs)).all (·≤reachBytes)=true:=hsz0
  have hval:∀ (j:Nat) t v,Try.f3.params[j]?=some t→args[j]?=some v→Value.okWide Try.prog W .any base t v:=hval0
  clear hsz0 hval0
  have hW':=hW
  obtain ⟨p,q,hA0,hV,rfl,hfz,hnd⟩:=hW
  have hA:DataW.TrodAll enc Try.prog W 0 (fun _=>true) true Try.f3.params.toList args.toList ds p:=hA0
  rw [Try.params3] at hA hval
  obtain ⟨v0,vs0,d0,ds0,p0,q0,ha0,rfl,hp0,h0,r0⟩:=trodAll_cons hA
  obtain ⟨v1,vs1,d1,ds1,p1,q1,ha1,rfl,hp1,h1,r1⟩:=trodAll_cons r0
  obtain ⟨v2,vs2,d2,ds2,p2,q2,ha2,rfl,hp2,h2,r2⟩:=trodAll_cons r1
  obtain ⟨v3,vs3,d3,ds3,p3,q3,ha3,rfl,hp3,h3,r3⟩:=trodAll_cons r2
  obtain ⟨hav,rfl,hpn⟩:=trodAll_nil r3
  have hargs:args=#[v0,v1,v2,v3]:=Array.toList_inj.1 (by rw [ha0,ha1,ha2,ha3,hav])
  subst hargs
  obtain ⟨rfl,rfl⟩:=trodVars_none hV
  have hlt:∀ x∈p,x.block<W.heap.size:=fun x hx=>by simpa using hW'.lt x (List.mem_append_left _ hx)
  have hA2:=hA
  clear hA r0 r1 r2 r3 ha0 ha1 ha2 ha3 hav
  obtain ⟨a0,n0,c0,rfl⟩:=okWide_slice Try.underlying22 (hval 0 22 v0 rfl rfl)
  obtain ⟨fu0,hf0⟩:=h0
  obtain ⟨L0,hy0⟩:=ints_of (t:=22) (e:=3) Try.underlying22 Try.underlying3 (by kernel_rfl) (of_decide_eq_true (by kernel_rfl)) hf0 (light_arg hsz (j:=0) rfl rfl)
  obtain ⟨a1,n1,c1,rfl⟩:=okWide_slice Try.underlying22 (hval 1 22 v1 rfl rfl)
  obtain ⟨fu1,hf1⟩:=h1
  obtain ⟨L1,hy1⟩:=ints_of (t:=22) (e:=3) Try.underlying22 Try.underlying3 (by kernel_rfl) (of_decide_eq_true (by kernel_rfl)) hf1 (light_arg hsz (j:=1) rfl rfl)
  obtain ⟨x2,rfl,rfl,rfl,wx2⟩:=open_int Try.underlying3 (hval 2 3 v2 rfl rfl) h2
  obtain ⟨a3,n3,c3,rfl⟩:=okWide_slice Try.underlying22 (hval 3 22 v3 rfl rfl)
  obtain ⟨fu3,hf3⟩:=h3
  obtain ⟨L3,hy3⟩:=ints_of (t:=22) (e:=3) Try.underlying22 Try.underlying3 (by kernel_rfl) (of_decide_eq_true (by kernel_rfl)) hf3 (light_arg hsz (j:=3) rfl rfl)
  refine (LinenDivides_ct (immOf W) _ L0 _ L1 x2 _ L3 hy0 hy1 hy3 [] W (by simpa using st_immOf W)).mono fun e W' ⟨v,I',M',he,hle,⟨hv,hM⟩,st'⟩=>?_
  subst he
  subst hv
  obtain ⟨hsame,hos,hout⟩:=same_of_le hle st'
  have hk:∀ may:MemPlace→Prop,W.keptBut W' may:=fun may=>keptBut_same hsame hos hout
  refine ⟨_,rfl,?_⟩
  refine ⟨_,_,_,[],p,[],hW',?_,?_,?_,hk _,fun h=>by cases h⟩
  · exact trodAll_mk1 (shut_bool Try.underlying4 true)
  · exact all_stay Row.laidOut (fun t ht=>by have h1:=List.all_eq_true.1 (show ([22,22,3,22].all fun t=>Try.prog.readableRec t&&decide (t<Try.prog.types.size))=true by kernel_rfl) t ht;simpa using h1) hA2 (fun x hx=>sameAt_heap (hsame _ (hlt x hx))) (fun x hx=>by simpa using hlt x hx)
  · rfl
theorem f_holds:Rows.LinenDividesSaid:=
  OpenClaim.holds_of_wide 3 Try.f3 rfl rfl rfl rfl rfl rfl rfl ⟨rfl,rfl,rfl,rfl,rfl⟩ rfl rfl rfl rfl rfl (by kernel_rfl) Try.func3 (by kernel_rfl)
    (of_decide_eq_true (by kernel_rfl)) (by unfold Func.isWrapper;rw [if_neg (of_decide_eq_false (by kernel_rfl))];exact ⟨rfl,rfl⟩)
    (fun os started H enc _=>law_lifted os started H enc)
#print axioms f_holds
end Go.Proofs.Ytgcemienebmdeaa
