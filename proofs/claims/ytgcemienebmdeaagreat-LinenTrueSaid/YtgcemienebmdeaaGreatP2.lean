/- A part of the proof of the laws of this seat. -/
import Derived.Test.YtgcemienebmdeaaGreatP1
import Derived.Below
import Derived.Laws.Strings
set_option linter.unusedVariables false
set_option linter.unusedSimpArgs false
namespace Go.Sh
open Go Go.Sl
def DC (h nd:List Int) (b:Int):Int:=
  if h.length=0 then 7 else if 4<h.length then 6 else if nd.length≠h.length then 2
  else if ¬ (∀ i,i<h.length→inB (h.getD i 0) 0 50=true∧inB (nd.getD i 0) 0 50=true) then 1
  else if inB b 1 10=false then 1 else 0
def CE (h nd:List Int) (b:Int) (i:Nat):Int:=if nd.getD i 0≤h.getD i 0 then (h.getD i 0-nd.getD i 0)/b else 0
def DV (h nd:List Int) (b:Int) (i:Nat):Int:=if nd.getD i 0≤h.getD i 0 then 0 else (nd.getD i 0-h.getD i 0+b-1)/b
def FE (h nd:List Int) (b:Int):List Int:=(List.range h.length).map (CE h nd b)
def FL (h nd:List Int) (b:Int):List Int:=(List.range h.length).map (DV h nd b)
def pF (n m:Nat):Nat:=(n*n-m)/n
def pT (n m:Nat):Nat:=(n*n-m)%n
def most (n m:Nat) (g l:List Int):Nat:=(min (g.getD (pF n m) 0) (l.getD (pT n m) 0)).toNat
def less (k:Nat) (b:Nat) (l:List Int):List Int:=l.set k (l.getD k 0-(b:Int))
def CV (n:Nat):Nat→List Int→List Int→List (List Cart)
  | 0,_,l=>if (∀ x∈l,x≤0) then [[]] else []
  | m+1,g,l=>((List.range (most n (m+1) g l)).flatMap fun b=>(CV n m (less (pF n (m+1)) (b+1) g) (less (pT n (m+1)) (b+1) l)).map (fun r=>⟨(pF n (m+1):Int),(pT n (m+1):Int),(b:Int)+1⟩::r))++CV n m g l
def BX (n:Nat):Nat→Nat→Int→List Int→List Int→Option (List Cart)
  | _,0,left,_,_=>if left=0 then some [] else none
  | 0,_+1,_,_,_=>none
  | m+1,h+1,left,g,l=>
    if left<(h:Int)+1 then none
    else match (List.range (most n (m+1) g l)).findSome? (fun b=>(BX n m h (left-(b+1:Nat)) (less (pF n (m+1)) (b+1) g) (less (pT n (m+1)) (b+1) l)).map (fun r=>(⟨(pF n (m+1):Int),(pT n (m+1):Int),(b:Int)+1⟩:Cart)::r)) with
      | some x=>some x
      | none=>BX n m (h+1) left g l
theorem MZ {k b:Nat} {l:List Int} (hb:(b:Int)+1≤l.getD k 0):(less k (b+1) l).sum=l.sum-(b+1:Nat):=by
  have hk:k<l.length:=by
    rcases Nat.lt_or_ge k l.length with h | h
    · exact h
    · simp [List.getD,List.getElem?_eq_none h] at hb;omega
  unfold less
  induction l generalizing k with
  | nil=>simp at hk
  | cons x r ih=>
    cases k with
    | zero=>simp [List.getD];omega
    | succ k=>
      have e:(x::r).getD (k+1) 0=r.getD k 0:=by simp [List.getD]
      rw [e] at hb ⊢;have:=ih hb (by simpa using hk);simp only [List.set_cons_succ,List.sum_cons];omega
theorem FZ {k b:Nat} {l:List Int} (h:∀ x∈l,0≤x) (hb:(b:Int)≤l.getD k 0):∀ x∈less k b l,0≤x:=fun x hx=>by
  rcases List.mem_or_eq_of_mem_set hx with h1 | rfl
  · exact h x h1
  · omega
theorem most_lt {n m b:Nat} {g l:List Int} (h:b<most n m g l):(b:Int)+1≤g.getD (pF n m) 0∧(b:Int)+1≤l.getD (pT n m) 0:=by
  unfold most at h;omega
theorem JL:∀ {l:List Int},(∀ x∈l,0≤x)→0≤l.sum:=by
  intro l
  induction l with
  | nil=>intro _;simp
  | cons x r ih=>intro h;have:=ih (fun y hy=>h y (by simp [hy]));have:=h x (by simp);simp;omega
theorem KC:∀ {l:List Int},(∀ x∈l,0≤x)→(l.sum=0↔∀ x∈l,x≤0):=by
  intro l
  induction l with
  | nil=>intro _;simp
  | cons x r ih=>
    intro h;have h1:=JL (l:=r) (fun y hy=>h y (by simp [hy]));have h2:=h x (by simp);have:=ih (fun y hy=>h y (by simp [hy]));simp only [List.sum_cons,List.mem_cons,forall_eq_or_imp]
    constructor
    · intro e;exact ⟨by omega,this.1 (by omega)⟩
    · rintro ⟨e1,e2⟩;have:=this.2 e2;omega
theorem lists_sum {n:Nat}:∀ (m:Nat) (g l:List Int),(∀ x∈l,0≤x)→∀ z∈CV n m g l,(z.map Cart.bales).sum=l.sum∧(∀ c∈z,1≤c.bales):=by
  intro m
  induction m with
  | zero=>
    intro g l h z hz;simp only [CV] at hz
    split at hz
    · rename_i h0
      simp at hz;subst hz;exact ⟨((KC h).2 h0).symm,fun _ hc=>by simp at hc⟩
    · simp at hz
  | succ m ih=>
    intro g l h z hz;simp only [CV,List.mem_append,List.mem_flatMap,List.mem_range,List.mem_map] at hz;rcases hz with ⟨b,hb,r,hr,rfl⟩ | hz
    · obtain ⟨_,h2⟩:=most_lt hb
      obtain ⟨e1,e2⟩:=ih _ _ (FZ h (by omega)) r hr;rw [MZ h2] at e1;refine ⟨by simp only [List.map_cons,List.sum_cons,e1];omega,fun c hc=>?_⟩;rcases List.mem_cons.1 hc with rfl | hc
      · show (1:Int)≤(b:Int)+1;omega
      · exact e2 c hc
    · exact ih _ _ h z hz
theorem lists_len {n m:Nat} {g l:List Int} (h:∀ x∈l,0≤x) {z:List Cart} (hz:z∈CV n m g l):(z.length:Int)≤l.sum:=by
  obtain ⟨h1,h2⟩:=lists_sum m g l h z hz;rw [← h1];clear h1 hz
  induction z with
  | nil=>simp
  | cons c r ih=>have:=ih (fun c hc=>h2 c (by simp [hc]));have:=h2 c (by simp);simp;omega
theorem head_flat {α β:Type} (f:α→List β):∀ (l:List α),(l.flatMap f).head?=l.findSome? (fun a=>(f a).head?):=by
  intro l
  induction l with
  | nil=>rfl
  | cons a r ih=>
    simp only [List.flatMap_cons,List.head?_append,List.findSome?_cons,ih];cases (f a).head? <;> rfl
theorem findSome_congrD {α β:Type} {f g:α→Option β}:∀ {l:List α},(∀ a∈l,f a=g a)→l.findSome? f=l.findSome? g:=by
  intro l
  induction l with
  | nil=>intro _;rfl
  | cons a r ih=>intro h;simp only [List.findSome?_cons,h a (by simp),ih (fun b hb=>h b (by simp [hb]))]
theorem lists_nil {n:Nat}:∀ (m:Nat) (g l:List Int),((CV n m g l).filter fun z=>decide (z.length=0))=if (∀ x∈l,x≤0) then [[]] else []:=by
  intro m
  induction m with
  | zero=>intro g l;simp only [CV];split <;> simp
  | succ m ih=>
    intro g l;simp only [CV,List.filter_append,ih];have:(List.filter (fun z:List Cart=>decide (z.length=0)) ((List.range (most n (m+1) g l)).flatMap fun b=>(CV n m (less (pF n (m+1)) (b+1) g) (less (pT n (m+1)) (b+1) l)).map (fun r=>⟨(pF n (m+1):Int),(pT n (m+1):Int),(b:Int)+1⟩::r)))=[]:=by
      refine List.filter_eq_nil_iff.2 fun z hz=>?_
      simp only [List.mem_flatMap,List.mem_map] at hz;obtain ⟨b,_,r,_,rfl⟩:=hz;simp
    rw [this,List.nil_append]
theorem grow_head {n:Nat}:∀ (m h:Nat) (g l:List Int),(∀ x∈l,0≤x)→BX n m h l.sum g l=((CV n m g l).filter fun z=>decide (z.length=h)).head?:=by
  intro m
  induction m with
  | zero=>
    intro h g l hl;cases h with
    | zero=>
      rw [lists_nil];simp only [BX]
      by_cases e:l.sum=0
      · rw [if_pos e,if_pos ((KC hl).1 e)];rfl
      · rw [if_neg e,if_neg (fun x=>e ((KC hl).2 x))];rfl
    | succ h=>
      simp only [BX,CV]
      split <;> simp
  | succ m ih=>
    intro h g l hl;cases h with
    | zero=>
      rw [lists_nil];simp only [BX]
      by_cases e:l.sum=0
      · rw [if_pos e,if_pos ((KC hl).1 e)];rfl
      · rw [if_neg e,if_neg (fun x=>e ((KC hl).2 x))];rfl
    | succ h=>
      by_cases hs:l.sum<(h:Int)+1
      · rw [BX,if_pos hs,eq_comm,List.head?_eq_none_iff,List.filter_eq_nil_iff]
        intro z hz;have:=lists_len hl hz;simp;omega
      · rw [BX,if_neg hs,ih (h+1) g l hl]
        have e1 : (List.range (most n (m + 1) g l)).findSome? (fun b => (BX n m h (l.sum - (b + 1 : Nat)) (less (pF n (m + 1)) (b + 1) g) (less (pT n (m + 1)) (b + 1) l)).map (fun r => (⟨(pF n (m + 1) : Int), (pT n (m + 1) : Int), (b : Int) + 1⟩ : Cart) :: r))
           =(((List.range (most n (m+1) g l)).flatMap fun b=>(CV n m (less (pF n (m+1)) (b+1) g) (less (pT n (m+1)) (b+1) l)).map (fun r=>⟨(pF n (m+1):Int),(pT n (m+1):Int),(b:Int)+1⟩::r)).filter fun z:List Cart=>decide (z.length=h+1)).head?:=by
          rw [List.filter_flatMap,head_flat];refine findSome_congrD ?_;intro b hb;obtain ⟨_,h2⟩:=most_lt (List.mem_range.1 hb);have h3:=ih h (less (pF n (m+1)) (b+1) g) (less (pT n (m+1)) (b+1) l) (FZ hl (by omega));rw [MZ h2] at h3;rw [h3];simp only [List.filter_map,List.head?_map]
          congr 2
          refine List.filter_congr fun z _=>?_
          simp
        rw [e1];simp only [CV,List.filter_append,List.head?_append];cases (List.filter (fun z:List Cart=>decide (z.length=h+1)) ((List.range (most n (m+1) g l)).flatMap fun b=>(CV n m (less (pF n (m+1)) (b+1) g) (less (pT n (m+1)) (b+1) l)).map (fun r=>⟨(pF n (m+1):Int),(pT n (m+1):Int),(b:Int)+1⟩::r))).head? <;> rfl
theorem lists_short {n:Nat}:∀ (m:Nat) (g l:List Int),∀ z∈CV n m g l,z.length≤m:=by
  intro m
  induction m with
  | zero=>intro g l z hz;simp only [CV] at hz;split at hz <;> simp at hz;subst hz;simp
  | succ m ih=>
    intro g l z hz;simp only [CV,List.mem_append,List.mem_flatMap,List.mem_map] at hz;rcases hz with ⟨b,_,r,hr,rfl⟩ | hz
    · have:=ih _ _ r hr;simp;omega
    · have:=ih _ _ z hz;omega
def bestL:List (List Cart)→List Cart→List Cart
  | [],b=>b
  | x::r,b=>bestL r (if x.length<b.length then x else b)
theorem bestL_first:∀ (tl:List (List Cart)) (b:List Cart),∃ A B,b::tl=A++bestL tl b::B∧(∀ a∈A,(bestL tl b).length<a.length)∧(∀ c∈B,(bestL tl b).length≤c.length):=by
  intro tl
  induction tl with
  | nil=>intro b;exact ⟨[],[],rfl,by simp,by simp⟩
  | cons x r ih=>
    intro b;simp only [bestL]
    by_cases h:x.length<b.length
    · rw [if_pos h]
      obtain ⟨A,B,e,h1,h2⟩:=ih x;have h3:(bestL r x).length≤x.length:=by
        cases A with
        | nil=>simp only [List.nil_append,List.cons.injEq] at e;rw [← e.1];omega
        | cons a A=>simp only [List.cons_append,List.cons.injEq] at e;have:=h1 a (by simp);rw [← e.1] at this;omega
      refine ⟨b::A,B,by rw [e];rfl,fun a ha=>?_,h2⟩;rcases List.mem_cons.1 ha with rfl | ha
      · omega
      · exact h1 a ha
    · rw [if_neg h]
      obtain ⟨A,B,e,h1,h2⟩:=ih b;cases A with
      | nil=>
        simp only [List.nil_append,List.cons.injEq] at e;refine ⟨[],x::B,by rw [← e.1,e.2];rfl,by simp,fun c hc=>?_⟩;rcases List.mem_cons.1 hc with rfl | hc
        · rw [← e.1];omega
        · exact h2 c hc
      | cons a A=>
        simp only [List.cons_append,List.cons.injEq] at e;obtain ⟨e1,e2⟩:=e;subst e1;refine ⟨b::x::A,B,congrArg (fun z=>b::x::z) e2,fun c hc=>?_,h2⟩;have:=h1 b (by simp);rcases List.mem_cons.1 hc with rfl | hc
        · exact this
        · rcases List.mem_cons.1 hc with rfl | hc
          · omega
          · exact h1 c (by simp [hc])
theorem IX {β:Type} {f:Nat→Option β} {k:Nat} {r:β} (h:∀ j,j<k→f j=none) (hk:f k=some r):∀ {N:Nat},k<N→(List.range N).findSome? f=some r:=by
  intro N
  induction N with
  | zero=>intro h;omega
  | succ N ih=>
    intro hN;rw [List.range_succ,List.findSome?_append]
    by_cases e:k=N
    · subst e
      have:(List.range k).findSome? f=none:=List.findSome?_eq_none_iff.2 (fun j hj=>h j (List.mem_range.1 hj));rw [this];simp [hk]
    · rw [ih (by omega)];rfl
theorem FY {β:Type} {f:Nat→Option β} {N:Nat} (h:∀ j,j<N→f j=none):(List.range N).findSome? f=none:=List.findSome?_eq_none_iff.2 (fun j hj=>h j (List.mem_range.1 hj))
def firstD (n:Nat) (g l:List Int):Option (List Cart):=(List.range (n*n+1)).findSome? fun h=>BX n (n*n) h l.sum g l
theorem firstD_best {n:Nat} {g l:List Int} (hl:∀ x∈l,0≤x):firstD n g l=(match CV n (n*n) g l with | []=>none | x::r=>some (bestL r x)):=by
  unfold firstD;have hc:∀ h,BX n (n*n) h l.sum g l=((CV n (n*n) g l).filter fun z=>decide (z.length=h)).head?:=fun h=>grow_head _ h g l hl
  have hs:=lists_short (n:=n) (n*n) g l;cases hL:CV n (n*n) g l with
  | nil=>exact FY fun j _=>by rw [hc,hL];rfl
  | cons x r=>
    obtain ⟨A,B,e,h1,h2⟩:=bestL_first r x;have hm:bestL r x∈CV n (n*n) g l:=by rw [hL,e];simp
    refine IX (k:=(bestL r x).length) (fun j hj=>?_) ?_ (by have:=hs _ hm;omega)
    · rw [hc,hL,e,List.head?_eq_none_iff,List.filter_eq_nil_iff]
      intro z hz;simp only [List.mem_append,List.mem_cons] at hz;rcases hz with hz | rfl | hz
      · have:=h1 z hz;simp;omega
      · simp;omega
      · have:=h2 z hz;simp;omega
    · rw [hc,hL,e,List.filter_append]
      have:A.filter (fun z=>decide (z.length=(bestL r x).length))=[]:=List.filter_eq_nil_iff.2 fun z hz=>by have:=h1 z hz;simp;omega
      rw [this];simp
theorem pair_step {n m:Nat} (hm:m+1≤n*n):pF n (m+1)<n∧pT n (m+1)<n∧((pT n (m+1)+1<n∧pF n m=pF n (m+1)∧pT n m=pT n (m+1)+1)∨(pT n (m+1)+1=n∧pF n m=pF n (m+1)+1∧pT n m=0)):=by
  have hn:0<n:=by cases n with | zero=>simp at hm | succ n=>omega
  unfold pF pT;have e:n*n-m=(n*n-(m+1))+1:=by omega
  rw [e]
  generalize hp:n*n-(m+1)=p
  have h1:p<n*n:=by omega
  have h2:p/n<n:=(Nat.div_lt_iff_lt_mul hn).2 h1;have h3:p%n<n:=Nat.mod_lt _ hn;have h4:=Nat.div_add_mod p n;refine ⟨h2,h3,?_⟩
  by_cases h:p%n+1<n
  · refine .inl ⟨h,?_,?_⟩
    · rw [show p+1=(p%n+1)+n*(p/n) by omega,Nat.add_mul_div_left _ _ hn,Nat.div_eq_of_lt h];omega
    · rw [show p+1=(p%n+1)+n*(p/n) by omega,Nat.add_mul_mod_self_left,Nat.mod_eq_of_lt h]
  · refine .inr ⟨by omega,?_,?_⟩
    · rw [show p+1=0+n*(p/n+1) by rw [Nat.mul_add];omega,Nat.add_mul_div_left _ _ hn];simp
    · rw [show p+1=0+n*(p/n+1) by rw [Nat.mul_add];omega,Nat.add_mul_mod_self_left];simp
theorem less_zero (k:Nat) (l:List Int):less k 0 l=l:=by
  unfold less
  apply List.ext_getElem?
  intro i;rw [List.getElem?_set]
  split
  · rename_i e;subst e
    split
    · rename_i hk;simp [List.getD,hk]
    · rename_i hk;rw [List.getElem?_eq_none (by omega)]
  · rfl
theorem less_at {k b:Nat} {l:List Int} (hk:k<l.length):(less k b l).getD k 0=l.getD k 0-b:=by simp [less,List.getD,hk]
theorem less_ne {k j b:Nat} {l:List Int} (h:k≠j):(less k b l).getD j 0=l.getD j 0:=by simp [less,List.getD,List.getElem?_set_ne h]
theorem ER {k b:Nat} {l:List Int}:(less k b l).length=l.length:=by simp [less]
theorem drop_sum {f:Nat} {g:List Int} (hf:f<g.length):(g.drop f).sum=g.getD f 0+(g.drop (f+1)).sum:=by
  rw [List.drop_eq_getElem_cons hf,List.sum_cons];simp [List.getD,hf]
theorem drop_less {f b:Nat} {g:List Int}:(less f b g).drop (f+1)=g.drop (f+1):=by
  unfold less;rw [List.drop_set_of_lt (by omega)]
theorem lists_feas {n : Nat} : ∀ (m : Nat) (g l : List Int), m ≤ n * n → g.length = n → l.length = n → (∀ x ∈ g, 0 ≤ x) → (∀ x ∈ l, 0 ≤ x) → l.sum ≤ (g.drop (pF n m)).sum →
    (g.getD (pF n m) 0=0∨∀ c,c<pT n m→l.getD c 0=0)→CV n m g l≠[]:=by
  intro m
  induction m with
  | zero=>
    intro g l _ hg hl hg0 hl0 hs _;have hf:n≤pF n 0:=by
      unfold pF;rcases Nat.eq_zero_or_pos n with rfl | h
      · simp
      · rw [Nat.sub_zero,Nat.mul_div_cancel _ h];exact Nat.le_refl _
    rw [List.drop_of_length_le (by omega)] at hs;have h1:=JL hl0;simp only [List.sum_nil] at hs;simp only [CV];rw [if_pos ((KC hl0).1 (by omega))];simp
  | succ m ih=>
    intro g l hm hg hl hg0 hl0 hs hc;obtain ⟨hf,ht,hst⟩:=pair_step hm
    generalize hF:pF n (m+1)=f at *
    generalize hT:pT n (m+1)=t at *
    have hgf:0≤g.getD f 0:=hg0 _ (BD (by omega));have hlt:0≤l.getD t 0:=hl0 _ (BD (by omega))
    generalize hb:most n (m+1) g l=b
    have hb2:(b:Int)=min (g.getD f 0) (l.getD t 0):=by rw [← hb];unfold most;rw [hF,hT];omega
    have hne:CV n m (less f b g) (less t b l)≠[]→CV n (m+1) g l≠[]:=by
      intro h;simp only [CV];cases b with
      | zero=>
        rw [less_zero,less_zero] at h;simp only [hb,List.range_zero,List.flatMap_nil,List.nil_append];exact h
      | succ b=>
        obtain ⟨z,hz⟩:=List.exists_mem_of_ne_nil _ h;intro e;have:=List.append_eq_nil_iff.1 e;have hm2:=List.flatMap_eq_nil_iff.1 this.1 b (by rw [hb];simp);rw [hF,hT] at hm2;rw [List.map_eq_nil_iff] at hm2;rw [hm2] at hz;simp at hz
    refine hne (ih _ _ (by omega) (by rw [ER];exact hg) (by rw [ER];exact hl) (FZ hg0 (by omega)) (FZ hl0 (by omega)) ?_ ?_)
    all_goals (
      have e1:(less t b l).sum=l.sum-b:=by
        cases b with
        | zero=>rw [less_zero];simp
        | succ b=>exact MZ (by omega)
      have e2:(less f b g).getD f 0=g.getD f 0-b:=less_at (by omega)
      have e3:(less t b l).getD t 0=l.getD t 0-b:=less_at (by omega)
      have e4:((less f b g).drop f).sum=(g.drop f).sum-b:=by
        rw [drop_sum (by rw [ER];omega),drop_sum (show f<g.length by omega),e2,drop_less];omega
      have e5:∀ c,c<t→(less t b l).getD c 0=l.getD c 0:=fun c hc=>less_ne (by omega))
    · rcases hst with ⟨h1,h2,h3⟩ | ⟨h1,h2,h3⟩
      · rw [h2,e1,e4];omega
      · rw [h2]
        have e6:=drop_sum (g:=less f b g) (f:=f) (by rw [ER];omega)
        by_cases h0:(less f b g).getD f 0=0
        · rw [e1];omega
        · have hz : ∀ x ∈ less t b l, x ≤ 0 := fun x hx => by
            obtain ⟨i,hi,rfl⟩:=List.mem_iff_getElem.1 hx;have e7:(less t b l)[i]=(less t b l).getD i 0:=by simp [List.getD,hi]
            rw [e7];rw [ER] at hi
            by_cases e:i=t
            · subst e;omega
            · have:i<t:=by omega
              rw [e5 i this];rcases hc with hc | hc
              · omega
              · rw [hc i this];exact Int.le_refl _
          have h7:=(KC (FZ hl0 (by omega))).2 hz;rw [h7];exact JL fun x hx=>FZ hg0 (by omega) x (List.mem_of_mem_drop hx)
    · rcases hst with ⟨h1,h2,h3⟩ | ⟨h1,h2,h3⟩
      · rw [h2,h3]
        by_cases h0:(less f b g).getD f 0=0
        · exact .inl h0
        · refine .inr fun c hcc=>?_
          by_cases e:c=t
          · subst e;omega
          · rw [e5 c (by omega)]
            rcases hc with hc | hc
            · omega
            · exact hc c (by omega)
      · rw [h3];exact .inr fun c hc=>by omega
theorem lists_give {n:Nat}:∀ (m:Nat) (g l:List Int),(∀ x∈g,0≤x)→∀ z∈CV n m g l,(z.map Cart.bales).sum≤g.sum:=by
  intro m
  induction m with
  | zero=>
    intro g l h z hz;simp only [CV] at hz
    split at hz
    · simp at hz;subst hz;exact JL h
    · simp at hz
  | succ m ih=>
    intro g l h z hz;simp only [CV,List.mem_append,List.mem_flatMap,List.mem_range,List.mem_map] at hz;rcases hz with ⟨b,hb,r,hr,rfl⟩ | hz
    · obtain ⟨h1,_⟩:=most_lt hb
      have e1:=ih _ _ (FZ h (by omega)) r hr;rw [MZ h1] at e1;simp only [List.map_cons,List.sum_cons];omega
    · exact ih _ _ h z hz
theorem lists_none {n:Nat} (hn:0<n) {g l:List Int} (hg:g.length=n) (hl:l.length=n) (g0:∀ x∈g,0≤x) (l0:∀ x∈l,0≤x):CV n (n*n) g l=[]↔g.sum<l.sum:=by
  constructor
  · intro h
    refine Int.lt_of_not_ge fun hs=>lists_feas (n*n) g l (Nat.le_refl _) hg hl g0 l0 ?_ (.inr fun c hc=>?_) h
    · have:pF n (n*n)=0:=by unfold pF;simp
      rw [this,List.drop_zero];exact hs
    · have:pT n (n*n)=0:=by unfold pT;simp
      omega
  · intro h
    cases hL:CV n (n*n) g l with
    | nil=>rfl
    | cons z r=>
      have hz:z∈CV n (n*n) g l:=by rw [hL];simp
      have h1:=(lists_sum _ _ _ l0 z hz).1;have h2:=lists_give _ _ _ g0 z hz;omega
structure Pool (h nd:List Int) (b:Int):Prop where
  some:0<h.length
  few:h.length≤4
  same:nd.length=h.length
  each:∀ i,i<h.length→inB (h.getD i 0) 0 50=true∧inB (nd.getD i 0) 0 50=true
  bale:1≤b∧b≤10
theorem pool_of {h nd:List Int} {b:Int} (e:DC h nd b=0):Pool h nd b:=by
  unfold DC at e
  split at e
  · cases e
  split at e
  · cases e
  split at e
  · cases e
  split at e
  · cases e
  split at e
  · cases e
  rename_i h1 h2 h3 h4 h5
  exact ⟨by omega,by omega,by omega,Classical.not_not.1 h4,by simpa [inB] using h5⟩
section
variable {h nd:List Int} {b:Int}
theorem MS:(FE h nd b).length=h.length:=by simp [FE]
theorem OU:(FL h nd b).length=h.length:=by simp [FL]
theorem MR (hb:1≤b) (i:Nat):0≤CE h nd b i:=by
  unfold CE;split
  · exact Int.ediv_nonneg (by omega) (by omega)
  · exact Int.le_refl _
theorem OT (hb:1≤b) (i:Nat):0≤DV h nd b i:=by
  unfold DV;split
  · exact Int.le_refl _
  · exact Int.ediv_nonneg (by omega) (by omega)
theorem givesM_nonneg (hb:1≤b):∀ x∈FE h nd b,0≤x:=fun x hx=>by
  obtain ⟨i,_,rfl⟩:=List.mem_map.1 hx;exact MR hb i
theorem getsM_nonneg (hb:1≤b):∀ x∈FL h nd b,0≤x:=fun x hx=>by
  obtain ⟨i,_,rfl⟩:=List.mem_map.1 hx;exact OT hb i
theorem giveOf_le (hb:1≤b) {m:Int} {i:Nat} (hm:0≤m) (h1:h.getD i 0≤m) (h2:0≤nd.getD i 0):CE h nd b i≤m:=by
  unfold CE;split
  · rename_i e
    have:=Int.ediv_le_self (a:=h.getD i 0-nd.getD i 0) b (by omega);omega
  · exact hm
theorem getOf_le (hb:1≤b) {m:Int} {i:Nat} (hm:0≤m) (h1:nd.getD i 0≤m) (h2:0≤h.getD i 0):DV h nd b i≤m:=by
  unfold DV;split
  · exact hm
  · rename_i e
    refine Int.ediv_le_of_le_mul (by omega) ?_;have h4:(nd.getD i 0-h.getD i 0-1)*1≤(nd.getD i 0-h.getD i 0-1)*b:=Int.mul_le_mul_of_nonneg_left hb (by omega);have h6:(nd.getD i 0-h.getD i 0-1)*b=(nd.getD i 0-h.getD i 0)*b-b:=by rw [Int.sub_mul];omega
    have h7:(nd.getD i 0-h.getD i 0)*b≤m*b:=Int.mul_le_mul_of_nonneg_right (by omega) (by omega);omega
end
def divE (h nd:List Int) (b:Int):List Cart × Int:=
  if DC h nd b≠0 then ([],DC h nd b) else if (FE h nd b).sum<(FL h nd b).sum then ([],11) else ((firstD h.length (FE h nd b) (FL h nd b)).getD [],0)
section
variable {h nd:List Int} {b:Int}
theorem poolErr_1 (h0:h.length=0):DC h nd b=7:=if_pos h0
theorem poolErr_2 (h1:4<h.length):DC h nd b=6:=by unfold DC;rw [if_neg (by omega),if_pos h1]
theorem poolErr_3 (h0:¬ h.length=0) (h1:¬ 4<h.length) (h2:nd.length≠h.length):DC h nd b=2:=by unfold DC;rw [if_neg h0,if_neg h1,if_pos h2]
theorem poolErr_4 (h0:¬ h.length=0) (h1:¬ 4<h.length) (h2:nd.length=h.length) {i:Nat} (hi:i<h.length) (hb:(!inB (h.getD i 0) 0 50||!inB (nd.getD i 0) 0 50)=true):DC h nd b=1:=by
  unfold DC;rw [if_neg h0,if_neg h1,if_neg (by omega),if_pos];intro ha;obtain ⟨a1,a2⟩:=ha i hi;rw [a1,a2] at hb;cases hb
theorem poolErr_5 (h0:¬ h.length=0) (h1:¬ 4<h.length) (h2:nd.length=h.length) (ha:∀ i,i<h.length→inB (h.getD i 0) 0 50=true∧inB (nd.getD i 0) 0 50=true) (hb:inB b 1 10=false):DC h nd b=1:=by
  unfold DC;rw [if_neg h0,if_neg h1,if_neg (by omega),if_neg (fun x=>x ha),if_pos hb]
theorem poolErr_6 (h0:¬ h.length=0) (h1:¬ 4<h.length) (h2:nd.length=h.length) (ha:∀ i,i<h.length→inB (h.getD i 0) 0 50=true∧inB (nd.getD i 0) 0 50=true) (hb:inB b 1 10=true):DC h nd b=0:=by
  unfold DC;rw [if_neg h0,if_neg h1,if_neg (by omega),if_neg (fun x=>x ha),if_neg (by rw [hb];decide)]
theorem MI {p:Nat→Prop} {k:Nat} (h:∀ i,i<k→p i) (hk:p k):∀ i,i<k+1→p i:=fun i hi=>by
  by_cases e:i=k
  · subst e;exact hk
  · exact h i (by omega)
end
end Go.Sh
namespace Go.Proofs.YtgcemienebmdeaaGreat
open Go Go.Sl Go.Sh
set_option maxRecDepth 100000
noncomputable def cIn (p:List Nat):Code:=sub (AQ Tryz.f97) p
theorem KL (I:Imm) (n:Int) (lo:Int) (hi:Int):CtV Tryz.prog 97 #[vI n,vI lo,vI hi] I (.bool (inB n lo hi)):=by
 refine fr (args:=[_,_,_]) (N:=15) Tryz.func97 (fun F=>?_);show Run _ _ (cIn []) _ _ [(0,vI (n)),(1,vI (lo)),(2,vI (hi))] _ _;refine rnm (rqr ?_);refine sp 1 [(6,.bool (false))] (se (rq ?_));refine CP (fun a w=>Slots 15 [(6,.bool ((cmp .leq (lo) (n))&&(cmp .leq (n) (hi))))] a∧a.defers=[]∧St I (F) w) ?_ ?_
 ·
  refine rr (sp 4 [(10,.bool (cmp .leq (lo) (n)))] ?_);refine BU 10 rfl (fun h1=>?_) (fun h1=>?_)
  ·
   have a0:=h1;have a0:=leq_t a0;refine sp 5 [(6,.bool (cmp .leq (n) (hi)))] (ee ?_);refine AO (fun a w hS hD hW=>⟨hS.sub (.consE 6 rfl (congrArg Value.bool (by simp only [h1,kA,kB,kC,kD,kE,kF,kG,kH,kI,kJ])) (.nil _)),hD,hW⟩)
  have a0:=h1;have a0:=leq_f a0;refine sp 5 [(6,.bool (false))] (ee ?_);refine AO (fun a w hS hD hW=>⟨hS.sub (.consE 6 rfl (congrArg Value.bool (by simp only [h1,kA,kB,kC,kD,kE,kF,kG,kH,kI,kJ])) (.nil _)),hD,hW⟩)
 rintro a w ⟨hS,hD,hW⟩
 refine AW hS hD hW ?_;clear hS hD hW a w;refine BM (AH (t:=6) [] (by kernel_rfl) rfl (TR _) (IR _) ?_);exact ⟨by simp [inB,cmp],rfl⟩
noncomputable def c_checkDivide (p:List Nat):Code:=sub (AQ Tryz.f115) p
theorem checkDivide_ct (I:Imm) (a:Value) (h:List Int) (c:Value) (nd:List Int) (b:Int) (a_f:CG I a h) (c_f:CG I c nd):CtV Tryz.prog 115 #[a,c,vI b] I (vI (DC h nd b)):=by
 obtain ⟨a4,a5,c1,c4,b9,c2,c3,b7⟩:=id a_f;subst b9;obtain ⟨a6,a7,c5,c8,c0,c6,c7,b8⟩:=id c_f;subst c0;refine fr (args:=[_,_,_]) (N:=45) Tryz.func115 (fun F=>?_);show Run _ _ (c_checkDivide []) _ _ [(0,vS a4 h.length a5),(1,vS a6 nd.length a7),(2,vI (b))] _ _;refine rnm (rqr ?_);refine sp 1 [(6,vI (0))] (se (rq (rb 0 (rqr (sp 4 [(8,.bool (cmp .eql (↑(h.length)) (0)))] (se (rc 8 rfl (fun h1=>?_) (fun h1=>?_))))))))
 ·
  have a8:=h1;have h1:=CB h1;refine rqr (sp 1 [(6,vI (7))] (se (BM ((RB (RP (AH (t:=6) [] (by kernel_rfl) rfl (TR _) (IR _) ?_)))))));exact ⟨congrArg (Value.int .i64) (poolErr_1 (by omega)).symm,rfl⟩
 have a8:=h1;have h1:=BZ h1;refine rqr (sp 4 [(12,.bool (cmp .gtr (↑(h.length)) (4)))] (se (rc 12 rfl (fun h2=>?_) (fun h2=>?_))))
 ·
  have a9:=h2;have h2:=LF h2;refine rqr (sp 1 [(6,vI (6))] (se (BM ((RB (RP (AH (t:=6) [] (by kernel_rfl) rfl (TR _) (IR _) ?_)))))));exact ⟨congrArg (Value.int .i64) (poolErr_2 (by omega)).symm,rfl⟩
 have a9:=h2;have h2:=PI h2;refine rqr (sp 6 [(16,.bool (!(cmp .eql (↑(nd.length)) (↑(h.length)))))] (se (rc 16 rfl (fun h3=>?_) (fun h3=>?_))))
 ·
  have b0:=h3;have h3:=BZ (CS h3);refine rqr (sp 1 [(6,vI (2))] (se (BM ((RB (RP (AH (t:=6) [] (by kernel_rfl) rfl (TR _) (IR _) ?_)))))));exact ⟨congrArg (Value.int .i64) (poolErr_3 (by omega) (by omega) (by omega)).symm,rfl⟩
 have b0:=h3;have h3:=CB (CR h3);refine AR (NB (NX (rq (rqr (sp 3 [(24,vI (0)),(23,vI (↑(h.length)))] (se (rb 1 ?_)))))));refine rl (fun mz a w=>∃ k:Nat,(k≤h.length)∧(∀ i,i<k→inB (h.getD i 0) 0 50=true∧inB (nd.getD i 0) 0 50=true)∧Slots 45 [(24,vI ↑k),(0,vS a4 h.length a5),(1,vS a6 nd.length a7),(2,vI (b)),(23,vI (↑(h.length)))] a∧a.defers=[]∧St I (F) w∧mz=h.length-k) ?_ ?_
 ·intro a w hS hD hW;exact ⟨_,0,Nat.zero_le _,(fun i hi=>by omega),hS.sub (.cons 24 rfl (.cons 0 rfl (.cons 1 rfl (.cons 2 rfl (.cons 23 rfl (.nil _)))))),hD,hW,rfl⟩
 rintro mz a w ⟨k,hk,ha,hS,hD,hW,rfl⟩
 refine AW hS hD hW ?_;clear hS hD hW a w;refine rqr (sp 1 [(25,.bool (cmp .lss (↑k) (↑(h.length))))] (se (rq (rc 25 rfl (fun h4=>?_) (fun h4=>?_)))))
 ·
  have b1:=h4;have h4:=CO h4;refine AR (NX (rq (rb 2 (rqr (sp 2 [(7,vI (↑k))] (se (rq ?_)))))));refine CP (fun a w=>Slots 45 [(0,vS a4 h.length a5),(1,vS a6 nd.length a7),(2,vI (b)),(23,vI (↑(h.length))),(24,vI (↑k)),(40,.bool ((!(inB (h.getD (k) 0) 0 50))||(!(inB (nd.getD (k) 0) 0 50))))] a∧a.defers=[]∧St I (F) w) ?_ ?_
  ·
   refine rr (sp 2 [(28,vI (↑k)),(27,vS a4 h.length a5)] (sd (di 29 1 (k) b7.addr) (sd (dl 30 (DP b7 (k) (by omega))) (sd (dc 31 (fun I' hI=>(KL I' (h.getD (k) 0) (0) (50) :))) (sp 2 [(33,.bool (!(inB (h.getD (k) 0) 0 50)))] ?_)))));refine BU 33 rfl (fun h5=>?_) (fun h5=>?_)
   ·
    have a0:=h5;have a0:=CS a0;have a3:=MA a0;refine sp 7 [(40,.bool (true))] (ee ?_);refine AO (fun a w hS hD hW=>⟨hS.sub (.cons 0 rfl (.cons 1 rfl (.cons 2 rfl (.cons 23 rfl (.cons 24 rfl (.consE 40 rfl (congrArg Value.bool (by simp only [h5,kA,kB,kC,kD,kE,kF,kG,kH,kI,kJ])) (.nil _))))))),hD,hW⟩)
   have a0:=h5;have a0:=CR a0;have a3:=FB a0;refine sp 2 [(35,vI (↑k)),(34,vS a6 nd.length a7)] (sd (di 36 1 (k) b8.addr) (sd (dl 37 (DP b8 (k) (by omega))) (sd (dc 38 (fun I' hI=>(KL I' (nd.getD (k) 0) (0) (50) :))) (sp 2 [(40,.bool (!(inB (nd.getD (k) 0) 0 50)))] (ee ?_)))));refine AO (fun a w hS hD hW=>⟨hS.sub (.cons 0 rfl (.cons 1 rfl (.cons 2 rfl (.cons 23 rfl (.cons 24 rfl (.consE 40 rfl (congrArg Value.bool (by simp only [h5,kA,kB,kC,kD,kE,kF,kG,kH,kI,kJ])) (.nil _))))))),hD,hW⟩)
  rintro a w ⟨hS,hD,hW⟩
  refine AW hS hD hW ?_;clear hS hD hW a w;refine rc 40 rfl (fun h6=>?_) (fun h6=>?_)
  ·
   have b4:=h6;refine rqr (sp 1 [(6,vI (1))] (se (BM ((RB (RP (RP (RB (RP (AH (t:=6) [] (by kernel_rfl) rfl (TR _) (IR _) ?_))))))))));exact ⟨congrArg (Value.int .i64) (poolErr_4 (by omega) (by omega) (by omega) (i:=k) (by omega) h6).symm,rfl⟩
  have b4:=h6;obtain ⟨a1,a2⟩:=or_f h6;have a1:=CR a1;have b2:=FB a1;have a2:=CR a2;have b3:=FB a2;refine AR (NB (NX (rr (sd (da 41 (↑k) (1)) (sp 1 [(24,vI (↑k+1))] (ee ?_))))));refine AN (h.length-(k+1)) (by omega) ?_;intro a w hS hD hW;exact ⟨k+1,by omega,MI ha ⟨a1,a2⟩,hS.sub (.consE 24 rfl rfl (.cons 0 rfl (.cons 1 rfl (.cons 2 rfl (.cons 23 rfl (.nil _)))))),hD,hW,rfl⟩
 have b1:=h4;have h4:=CY h4;refine CL 1 ((EP (EP (EB (NX (rq (rqr (sp 1 [(42,vI (b))] (sd (dc 43 (fun I' hI=>(KL I' (b) (1) (10) :))) (sp 1 [(44,.bool (!(inB b 1 10)))] (se (rc 44 rfl (fun h7=>?_) (fun h7=>?_)))))))))))))
 ·
  have b6:=h7;have h7:=CS h7;have b5:=MA h7;refine rqr (sp 1 [(6,vI (1))] (se (BM ((RP (AH (t:=6) [] (by kernel_rfl) rfl (TR _) (IR _) ?_))))));exact ⟨congrArg (Value.int .i64) (poolErr_5 (by omega) (by omega) (by omega) (fun i hi=>ha i (by omega)) h7).symm,rfl⟩
 have b6:=h7;have h7:=CR h7;have b5:=FB h7;refine AR (NX (rqr (sp 1 [(6,vI (0))] (se (BM (AH (t:=6) [] (by kernel_rfl) rfl (TR _) (IR _) ?_))))));exact ⟨congrArg (Value.int .i64) (poolErr_6 (by omega) (by omega) (by omega) (fun i hi=>ha i (by omega)) h7).symm,rfl⟩
end Go.Proofs.YtgcemienebmdeaaGreat
namespace Go.Sh
open Go Go.Sl
section
variable {α:Type} {c:α→α→Int}
theorem insB_perm (x:α):∀ l:List α,(insB c x l).Perm (x::l):=by
  intro l
  induction l with
  | nil=>exact .refl _
  | cons y r ih=>
    simp only [insB]
    split
    · exact .refl _
    · exact (List.Perm.cons y ih).trans (.swap x y r)
theorem insB_at (d x:α):∀ (l:List α) (j:Nat),j≤l.length→(∀ z∈l.drop j,c x z<0)→(j=0∨¬ c x (l.getD (j-1) d)<0)→insB c x l=l.take j++x::l.drop j:=by
  intro l
  induction l with
  | nil=>intro j hj _ _;simp at hj;subst hj;rfl
  | cons y r ih=>
    intro j hj hd hs;cases j with
    | zero=>
      simp only [insB];simp only [List.drop_zero] at hd;rw [if_pos ⟨hd y (by simp),fun z hz=>hd z (by simp [hz])⟩];rfl
    | succ j=>
      have hs:¬ c x ((y::r).getD j d)<0:=by
        rcases hs with hs | hs
        · omega
        · exact hs
      simp only [insB];rw [if_neg]
      · rw [ih j (by simpa using hj) (by simpa using hd) ?_]
        · simp
        · cases j with
          | zero=>exact .inl rfl
          | succ j=>exact .inr (by simpa [List.getD] using hs)
      · rintro ⟨h1,h2⟩
        cases j with
        | zero=>exact hs (by simpa [List.getD] using h1)
        | succ j=>
          have hj2:j<r.length:=by simp at hj;omega
          exact hs (by simpa [List.getD,hj2] using h2 _ (List.getElem_mem hj2))
def AD (c:α→α→Int) (l:List α):List α:=l.foldl (fun p x=>insB c x p) []
theorem isort_perm_aux:∀ (l p:List α),(l.foldl (fun p x=>insB c x p) p).Perm (p++l):=by
  intro l
  induction l with
  | nil=>intro p;rw [List.append_nil];exact .refl _
  | cons x r ih=>
    intro p;exact (ih _).trans (((insB_perm x p).append_right r).trans (List.perm_middle.symm))
theorem CU (l:List α):(AD c l).Perm l:=isort_perm_aux l []
theorem isort_snoc (l:List α) (x:α):AD c (l++[x])=insB c x (AD c l):=by simp [AD]
theorem isort_take {l:List α} {k:Nat} {d:α} (hk:k<l.length):AD c (l.take (k+1))=insB c (l.getD k d) (AD c (l.take k)):=by
  rw [CI (d:=d) hk,isort_snoc]
structure Strict (c:α→α→Int) (l:List α):Prop where
  tri:∀ a∈l,∀ b∈l,a≠b→(c a b<0∨c b a<0)
  irr:∀ a∈l,¬ c a a<0
  trans:∀ a∈l,∀ b∈l,∀ d∈l,c a b<0→c b d<0→c a d<0
theorem Strict.perm {l l':List α} (h:Strict c l) (p:l'.Perm l):Strict c l':=
  ⟨fun a ha b hb=>h.tri a (p.subset ha) b (p.subset hb),fun a ha=>h.irr a (p.subset ha),fun a ha b hb d hd=>h.trans a (p.subset ha) b (p.subset hb) d (p.subset hd)⟩
theorem Strict.sub {l l':List α} (h:Strict c l) (p:∀ x∈l',x∈l):Strict c l':=
  ⟨fun a ha b hb=>h.tri a (p a ha) b (p b hb),fun a ha=>h.irr a (p a ha),fun a ha b hb d hd=>h.trans a (p a ha) b (p b hb) d (p d hd)⟩
abbrev Asc' (c:α→α→Int) (l:List α):Prop:=l.Pairwise fun a b=>c a b<0
theorem insB_sorted {x:α}:∀ {p:List α},Strict c (x::p)→x∉p→Asc' c p→Asc' c (insB c x p):=by
  intro p
  induction p with
  | nil=>intro _ _ _;simp [insB]
  | cons y r ih=>
    intro hs hx hp;simp only [insB];have hp':=List.pairwise_cons.1 hp
    split
    · rename_i h
      refine List.pairwise_cons.2 ⟨fun z hz=>?_,hp⟩;rcases List.mem_cons.1 hz with rfl | hz
      · exact h.1
      · exact h.2 z hz
    · rename_i h
      refine List.pairwise_cons.2 ⟨fun z hz=>?_,ih (hs.sub fun z hz=>?_) (fun hh=>hx (by simp [hh])) hp'.2⟩
      · have hz2:=(insB_perm x r).subset hz
        rcases List.mem_cons.1 hz2 with rfl | hz2
        · -- y comes ahead of x
          rcases hs.tri y (by simp) z (by simp) (fun e=>hx (by simp [e])) with h1 | h1
          · exact h1
          · exfalso
            refine h ⟨h1,fun w hw=>?_⟩;exact hs.trans z (by simp) y (by simp) w (by simp [hw]) h1 (hp'.1 w hw)
        · exact hp'.1 z hz2
      · rcases List.mem_cons.1 hz with rfl | hz
        · simp
        · simp [hz]
theorem PJ:∀ (l p:List α),Strict c (p++l)→(p++l).Nodup→Asc' c p→Asc' c (l.foldl (fun p x=>insB c x p) p):=by
  intro l
  induction l with
  | nil=>intro p _ _ h;exact h
  | cons x r ih=>
    intro p hs hn hp;have hq:(insB c x p++r).Perm (p++x::r):=((insB_perm x p).append_right r).trans List.perm_middle.symm;refine ih _ (hs.perm hq) (hq.nodup_iff.2 hn) (insB_sorted (hs.sub fun z hz=>?_) ?_ hp)
    · rcases List.mem_cons.1 hz with rfl | hz <;> simp_all
    · have:=(List.perm_middle (l₁:=p) (l₂:=r) (a:=x)).nodup_iff.1 hn
      exact fun hh=>(List.nodup_cons.1 this).1 (by simp [hh])
theorem KO {l:List α} (hs:Strict c l) (hn:l.Nodup):Asc' c (AD c l):=PJ l [] (by simpa using hs) (by simpa using hn) List.Pairwise.nil
theorem asc_unique:∀ {l l':List α},Strict c l→l.Perm l'→Asc' c l→Asc' c l'→l=l':=by
  intro l
  induction l with
  | nil=>intro l' _ p _ _;exact (List.nil_perm.1 p).symm
  | cons x r ih=>
    intro l' hs p h1 h2;cases l' with
    | nil=>exact (List.perm_nil.1 p)
    | cons y s=>
      have h1':=List.pairwise_cons.1 h1;have h2':=List.pairwise_cons.1 h2;have e:x=y:=by
        have hx:x∈y::s:=p.subset (by simp);have hy:y∈x::r:=p.symm.subset (by simp);rcases List.mem_cons.1 hx with e | hx
        · exact e
        rcases List.mem_cons.1 hy with e | hy
        · exact e.symm
        exfalso
        exact hs.irr x (by simp) (hs.trans x (by simp) y (by simp [hy]) x (by simp) (h1'.1 y hy) (h2'.1 x hx))
      subst e;rw [ih (hs.sub fun z hz=>by simp [hz]) (List.Perm.cons_inv p) h1'.2 h2'.2]
end
theorem cmpSlip_lt {a b:Slip}:AC a b<0↔a.hour<b.hour∨(a.hour=b.hour∧a.num<b.num):=by
  unfold AC
  by_cases e:a.hour=b.hour
  · rw [if_neg (fun h=>h e)];omega
  · rw [if_pos e];omega
abbrev Once (l:List Slip):Prop:=(l.map Slip.num).Nodup
theorem once_inj {l:List Slip} (h:Once l):∀ a∈l,∀ b∈l,a.num=b.num→a=b:=by
  intro a ha b hb e
  induction l with
  | nil=>cases ha
  | cons x r ih=>
    rw [Once,List.map_cons,List.nodup_cons] at h;rcases List.mem_cons.1 ha with rfl | ha1 <;> rcases List.mem_cons.1 hb with rfl | hb1
    · rfl
    · exact absurd (e▸List.mem_map_of_mem (f:=Slip.num) hb1) h.1
    · exact absurd (e▸List.mem_map_of_mem (f:=Slip.num) ha1) h.1
    · exact ih h.2 ha1 hb1
theorem once_nodup {l:List Slip} (h:Once l):l.Nodup:=(List.pairwise_map.1 h).imp fun hab e=>hab (by rw [e])
theorem PG {l:List Slip} (h:Once l):Strict AC l:=by
  refine ⟨fun a ha b hb hne=>?_,fun a _=>?_,fun a _ b _ d _ h1 h2=>?_⟩
  · rw [cmpSlip_lt,cmpSlip_lt]
    have h1:a.num≠b.num:=fun e=>hne (once_inj h a ha b hb e)
    omega
  · rw [cmpSlip_lt];omega
  · rw [cmpSlip_lt] at *;omega
def sortS (l:List Slip):List Slip:=AD AC l
theorem sortS_perm (l:List Slip):(sortS l).Perm l:=CU l
theorem sortS_asc {l:List Slip} (h:Once l):Asc' AC (sortS l):=KO (PG h) (once_nodup h)
theorem PB {l l':List Slip} (h:Once l) (p:l'.Perm l) (ha:Asc' AC l'):l'=sortS l:=
  asc_unique ((PG h).perm p) (p.trans (sortS_perm l).symm) ha (sortS_asc h)
end Go.Sh
namespace Go.Sl
open Go
abbrev sB (l:List UInt8):ByteArray:=⟨l.toArray⟩
abbrev sV (l:List UInt8):Value:=.string ⟨l.toArray⟩
theorem sB_size (a:List UInt8):(sB a).size=a.length:=by simp [sB,ByteArray.size]
section
variable {ρ:Option Nat} {P:Program} {N:Nat} {ops:Array Oper} {i:Nat} {l:Sl} {I:Imm} {R M:Seg} {d:Nat} {ty:TypeId} {gd:Option (Nat × Bool)}
end
theorem sB_get (l:List UInt8) (i:Nat):(sB l)[i]?=l[i]?:=by
  by_cases h:i<l.length
  · rw [getElem?_pos (sB l) i (by rw [sB_size];exact h),List.getElem?_eq_getElem h]
    rfl
  · rw [getElem?_neg (sB l) i (by rw [sB_size];exact h),List.getElem?_eq_none (by omega)]
section
variable {ρ:Option Nat} {P:Program} {N:Nat} {ops:Array Oper} {i:Nat} {l:Sl} {I:Imm} {R M:Seg} {d:Nat} {ty:TypeId} {gd:Option (Nat × Bool)}
def byteAt (s:List UInt8) (j:Nat):Int:=((s.getD j 0).toNat:Int)
theorem det_indexS {x y : Operand} {T : TypeId} {s : List UInt8} {k : IntKind} (j : Nat) (hop : FR ops N i = some (some d, .index T x y, ty, gd)) (hg : FA ops l gd = some true)
    (hT:P.underlying T=some .string) (hx:BS l x=some (sV s)) (hy:BS l y=some (.int k (j:Int))) (hj:j<s.length):Det P N ops i l I R d (.int .u8 (byteAt s j)):=
  GZ hop hg (IK hx hy) fun I' M'=>by
    show wpL P (Instr.index T (rho l x) (rho l y) >>= fun x=>pure (Next.value x)) _ I' M';rw [BG hx,BG hy];refine EA ?_;unfold Instr.index;show wpL P (underlying T >>= _) _ I' M';rw [AF,AK hT];simp only [if_pos (Int.natCast_nonneg j),Int.toNat_natCast];have e:(({ data:=s.toArray }:ByteArray)[j]?)=some s[j]:=by rw [show ({ data:=s.toArray }:ByteArray)=sB s from rfl,sB_get,List.getElem?_eq_getElem hj]
    rw [e];have e2:byteAt s j=(s[j].toNat:Int):=by simp [byteAt,List.getD_eq_getElem?_getD,List.getElem?_eq_getElem hj]
    rw [e2];exact ⟨rfl,rfl⟩
end
section
variable {ρ:Option Nat} {P:Program} {N:Nat} {ops:Array Oper} {i:Nat} {l:Sl} {I:Imm} {R M:Seg} {d:Nat} {ty:TypeId} {gd:Option (Nat × Bool)}
end
section
variable {P:Program} {N:Nat} {fn:Func} {I I₀:Imm} {post:Value→Imm→Seg→Prop} {F M:Seg} {l:Sl}
end
section
variable {ρ:Option Nat} {P:Program} {N:Nat} {ops:Array Oper} {i:Nat} {l:Sl} {I:Imm} {R M:Seg} {d:Nat} {ty:TypeId} {gd:Option (Nat × Bool)} {K:Sl→Imm→Seg→Prop}
end
end Go.Sl
namespace Go.Sh
open Go Go.Sl
section
variable {α:Type} {c:α→α→Int} {l zs:List α} {i j m:Nat} {d:α}
def InsI (c:α→α→Int) (l zs:List α) (i:Nat):Prop:=zs=AD c (l.take i)++l.drop i
def InsAt (c:α→α→Int) (d:α) (l zs:List α) (i j:Nat):Prop:=
  j≤i∧i<l.length∧zs=(AD c (l.take i)).take j++l.getD i d::((AD c (l.take i)).drop j++l.drop (i+1))∧∀ z∈(AD c (l.take i)).drop j,c (l.getD i d) z<0
theorem DW (h:i≤l.length):(AD c (l.take i)).length=i:=by rw [(CU _).length_eq,List.length_take];omega
theorem InsI.start:InsI c l l 1:=by
  unfold InsI;cases l with
  | nil=>rfl
  | cons x r=>rfl
theorem InsI.len (h:InsI c l zs i):zs.length=l.length:=by
  rw [h,List.length_append,(CU _).length_eq,List.length_take,List.length_drop];omega
theorem InsI.into (h:InsI c l zs i) (hi:i<l.length):InsAt c d l zs i i:=by
  have hl:=DW (c:=c) (Nat.le_of_lt hi);refine ⟨Nat.le_refl _,hi,?_,?_⟩
  · rw [h,List.take_of_length_le (l:=AD c (l.take i)) (by omega),List.drop_of_length_le (l:=AD c (l.take i)) (by omega),List.drop_eq_getElem_cons hi]
    simp [List.getD,hi]
  · rw [List.drop_of_length_le (by omega)];intro z hz;cases hz
theorem InsI.done (h:InsI c l zs i) (hi:l.length≤i):zs=AD c l:=by
  rw [h,List.take_of_length_le hi,List.drop_of_length_le hi,List.append_nil]
theorem swapG {l:List α} {i j:Nat} {d:α} (hi:i<l.length) (hj:j<l.length):((l.set i (l.getD j d)).set j (l.getD i d)).Perm l:=by
  have e1:l.getD i d=l[i]:=by simp [List.getD,hi]
  have e2:l.getD j d=l[j]:=by simp [List.getD,hj]
  rw [e1,e2];exact List.set_set_perm hi hj
theorem InsAt.len (h:InsAt c d l zs i j):zs.length=l.length:=by
  obtain ⟨h1,h2,h3,_⟩:=h;have hl:=DW (c:=c) (Nat.le_of_lt h2);rw [h3];simp only [List.length_append,List.length_cons,List.length_take,List.length_drop,hl];omega
theorem InsAt.at_j (h:InsAt c d l zs i j):zs.getD j d=l.getD i d:=by
  obtain ⟨h1,h2,h3,_⟩:=h;have hl:=DW (c:=c) (Nat.le_of_lt h2);rw [h3,List.getD_eq_getElem?_getD,List.getElem?_append_right (by rw [List.length_take];omega)];rw [show j-((AD c (l.take i)).take j).length=0 by rw [List.length_take];omega];rfl
theorem InsAt.at_m (h:InsAt c d l zs i j) (hm:m<j):zs.getD m d=(AD c (l.take i)).getD m d:=by
  obtain ⟨h1,h2,h3,_⟩:=h;have hl:=DW (c:=c) (Nat.le_of_lt h2);rw [h3,List.getD_eq_getElem?_getD,List.getElem?_append_left (by rw [List.length_take];omega),List.getElem?_take_of_lt hm,← List.getD_eq_getElem?_getD]
theorem InsAt.step (h:InsAt c d l zs i j) (hm:m+1=j) (hlt:c (zs.getD j d) (zs.getD m d)<0):InsAt c d l ((zs.set j (zs.getD m d)).set m (zs.getD j d)) i m:=by
  rw [h.at_j,h.at_m (m:=m) (by omega)] at hlt ⊢;obtain ⟨h1,h2,h3,h4⟩:=h;have hl:=DW (c:=c) (Nat.le_of_lt h2);unfold InsAt
  generalize AD c (l.take i)=q at h3 h4 hl hlt ⊢
  generalize l.getD i d=x at h3 h4 hlt ⊢
  have hmq:m<q.length:=by omega
  have hd:q.drop m=q.getD m d::q.drop (m+1):=by rw [List.drop_eq_getElem_cons hmq];simp [List.getD,hmq]
  refine ⟨by omega,h2,?_,?_⟩
  · subst hm
    rw [CI (d:=d) hmq] at h3;rw [h3,List.set_append_right _ _ (by simp;omega),show m+1-(q.take m++[q.getD m d]).length=0 by simp;omega,List.set_cons_zero,List.append_assoc,List.set_append_right _ _ (by simp;omega),show m-(q.take m).length=0 by simp;omega,List.singleton_append,List.set_cons_zero,hd];rfl
  · rw [hd]
    intro z hz;rcases List.mem_cons.1 hz with rfl | hz
    · exact hlt
    · rw [hm] at hz;exact h4 z hz
theorem InsAt.done (h:InsAt c d l zs i j) (hs:j=0∨¬ c (zs.getD j d) (zs.getD (j-1) d)<0):InsI c l zs (i+1):=by
  rcases Nat.eq_zero_or_pos j with h0 | h0
  · obtain ⟨h1,h2,h3,h4⟩:=h
    unfold InsI;rw [isort_take (d:=d) h2,insB_at d _ _ j (by rw [DW (Nat.le_of_lt h2)];exact h1) h4 (.inl h0),h3];simp
  · rw [h.at_j,h.at_m (m:=j-1) (by omega)] at hs
    obtain ⟨h1,h2,h3,h4⟩:=h;unfold InsI;rw [isort_take (d:=d) h2,insB_at d _ _ j (by rw [DW (Nat.le_of_lt h2)];exact h1) h4 hs,h3];simp
theorem InsAt.done2 {u:Nat} (h:InsAt c d l zs i j) (hu:u=0) (hb:(cmp .gtr (j:Int) (u:Int)&&cmp .lss (c (zs.getD j d) (zs.getD ((j:Int)-1).toNat d)) 0)=false):InsI c l zs (i+1):=by
  subst hu;refine h.done ?_;rcases Nat.eq_zero_or_pos j with h0 | h0
  · exact .inl h0
  · refine .inr ?_
    rw [show ((j:Int)-1).toNat=j-1 by omega] at hb;simp only [cmp,Bool.and_eq_false_iff,decide_eq_false_iff_not] at hb;rcases hb with hb | hb
    · omega
    · omega
end
def OP (s:Slip):Prop:=-1000000≤s.hour∧s.hour≤1000000∧-1000000≤s.num∧s.num≤1000000
def cmpZ (x y:Int):Int:=x-y
theorem less_cmpZ {x y:Int}:cmp .lss x y=cmp .lss (cmpZ x y) 0:=by
  show decide (x<y)=decide (x-y<0);exact decide_eq_decide.2 (by omega)
theorem u8_id {m:Nat} (h:m<256):IntKind.u8.wrap (m:Int)=m:=by
  have h1:IntKind.u8.signed=false:=rfl;have h2:IntKind.u8.bits=8:=rfl;simp only [IntKind.wrap,h1,h2,Bool.false_and,Bool.false_eq_true,if_false];omega
theorem u64_id {m:Nat} (h:m<1000000):IntKind.u64.wrap (m:Int)=m:=by
  have h1:IntKind.u64.signed=false:=rfl;have h2:IntKind.u64.bits=64:=rfl;simp only [IntKind.wrap,h1,h2,Bool.false_and,Bool.false_eq_true,if_false];omega
theorem byteAt_range {s:List UInt8} {j:Nat}:0≤byteAt s j∧byteAt s j≤255:=by
  unfold byteAt;have:=(s.getD j 0).toNat_lt;omega
end Go.Sh
namespace Go.Sl
open Go
theorem MX {Q:Imm→Prop} {I I':Imm} (le:I.le I') (h:∀ J,I.le J→Q J):∀ J,I'.le J→Q J:=fun J hJ=>h J (le.trans hJ)
end Go.Sl
namespace Go.Sh
open Go Go.Sl
section
variable {α:Type} {p:α→Bool} {l:List α} {d:α} {k:Nat}
def NO (p:α→Bool) (l:List α):Int:=match l.findIdx? p with
  | some i=>(i:Int)
  | none=>-1
theorem idxF_hit (h:∀ j,j<k→p (l.getD j d)=false) (hk:k<l.length) (hp:p (l.getD k d)=true):NO p l=k:=by
  have:l.findIdx? p=some k:=by
    rw [List.findIdx?_eq_some_iff_getElem];refine ⟨hk,by simpa [List.getD,hk] using hp,fun j hj=>?_⟩;have:=h j hj
    simpa [List.getD,show j<l.length by omega] using this
  unfold NO;rw [this]
theorem idxF_miss (h:∀ j,j<k→p (l.getD j d)=false) (hk:l.length≤k):NO p l=-1:=by
  have:l.findIdx? p=none:=by
    rw [List.findIdx?_eq_none_iff];intro x hx;obtain ⟨j,hj,rfl⟩:=List.mem_iff_getElem.1 hx;have:=h j (by omega)
    simpa [List.getD,hj] using this
  unfold NO;rw [this]
theorem idxF_any:cmp .geq (NO p l) 0=l.any p:=by
  unfold NO;cases h:l.findIdx? p with
  | none=>
    have:l.any p=false:=by
      rw [List.any_eq_false];intro x hx;have:=List.findIdx?_eq_none_iff.1 h x hx;simp [this]
    rw [this];decide
  | some i=>
    have:l.any p=true:=by
      rw [List.findIdx?_eq_some_iff_getElem] at h;obtain ⟨h1,h2,_⟩:=h;exact List.any_eq_true.2 ⟨_,List.getElem_mem h1,h2⟩
    rw [this];simp [cmp]
theorem idxF_spec (h:0≤NO p l):∃ i:Nat,NO p l=↑i∧i<l.length∧p (l.getD i d)=true∧∀ j,j<i→p (l.getD j d)=false:=by
  unfold NO at h ⊢;cases e:l.findIdx? p with
  | none=>rw [e] at h;simp at h
  | some i=>
    rw [List.findIdx?_eq_some_iff_getElem] at e;obtain ⟨h1,h2,h3⟩:=e;refine ⟨i,rfl,h1,by simpa [List.getD,h1] using h2,fun j hj=>?_⟩;have:=h3 j hj
    simpa [List.getD,show j<l.length by omega] using this
theorem idxF_neg (h:NO p l<0):l.any p=false:=by rw [← idxF_any];simp [cmp];omega
end
section
variable {L:Lin} {k:Nat}
theorem startErr_1 (h:¬ (L.start.length:Int)=L.places):CW L=2:=if_pos h
theorem all_at {α:Type} {p:α→Bool} {l:List α} {d:α} (hk:k<l.length) (h:l.all p=true):p (l.getD k d)=true:=by
  have:=List.all_eq_true.1 h (l.getD k d) (by simp [List.getD,hk]);exact this
theorem all_bad {α:Type} {p:α→Bool} {l:List α} {d:α} (hk:k<l.length) (h:p (l.getD k d)=false):l.all p=false:=by
  cases e:l.all p with
  | false=>rfl
  | true=>rw [all_at (d:=d) hk e] at h;cases h
theorem all_good {α:Type} {p:α→Bool} {l:List α} (h:∀ x∈l.take k,p x=true) (hk:l.length≤k):l.all p=true:=List.all_eq_true.2 fun x hx=>h x (by rw [List.take_of_length_le hk];exact hx)
theorem startErr_2 (h:(L.start.length:Int)=L.places) (hk:k<L.start.length) (hb:¬ ((L.start.getD k []).length:Int)=L.sorts):CW L=2:=by
  unfold CW;rw [if_neg (fun x=>x h),if_pos (all_bad (d:=[]) hk (decide_eq_false hb))]
theorem startErr_3 (h:(L.start.length:Int)=L.places) (ha:(L.start.all fun r=>decide ((r.length:Int)=L.sorts))=true) (hk:k<L.start.flatten.length) (hb:inB (L.start.flatten.getD k 0) 0 50=false):CW L=1:=by
  unfold CW;rw [if_neg (fun x=>x h),if_neg (by rw [ha];decide),if_pos (all_bad (d:=0) hk hb)]
theorem startErr_4 (h:(L.start.length:Int)=L.places) (ha:(L.start.all fun r=>decide ((r.length:Int)=L.sorts))=true) (hb:(L.start.flatten.all fun n=>inB n 0 50)=true):CW L=0:=by
  unfold CW;rw [if_neg (fun x=>x h),if_neg (by rw [ha];decide),if_neg (by rw [hb];decide)]
theorem flat_small {xss:List (List Int)} {m:Nat} (h:∀ r∈xss,r.length≤m):xss.flatten.length≤xss.length*m:=by
  induction xss with
  | nil=>simp
  | cons x r ih=>
    have h1:=h x (by simp);have h2:=ih (fun y hy=>h y (by simp [hy]));simp only [List.flatten_cons,List.length_append,List.length_cons,Nat.succ_mul];omega
theorem keepsErr_many (h:4<L.keeps.length):DQ L=6:=if_pos h
theorem IJ (h:¬ 4<L.keeps.length) (hz:FQ (FC L) k=0) (hk:k<L.keeps.length) {e:Int} (he:FC L k=e) (hne:e≠0):DQ L=e:=by
  unfold DQ;rw [if_neg h,firstE_hit hz (by rw [he];exact hne) hk,he]
theorem keepsErr_none (h:¬ 4<L.keeps.length) (hz:FQ (FC L) k=0) (hk:k=L.keeps.length):DQ L=0:=by unfold DQ;rw [if_neg h,← hk,hz]
section
variable (h3:inB (L.keeps.getD k AP).place 0 (L.places-1)=true) (h4:inB (L.keeps.getD k AP).hour 0 200=true)
theorem keepErr_3 (h:inB (L.keeps.getD k AP).place 0 (L.places-1)=false):FC L k=3:=if_pos h
include h3
theorem keepErr_1 (h:inB (L.keeps.getD k AP).hour 0 200=false):FC L k=1:=by unfold FC;rw [if_neg (by rw [h3];decide),if_pos h]
include h4
theorem keepErr_1b (h:inB (L.keeps.getD k AP).who 1 9=false):FC L k=1:=by unfold FC;rw [if_neg (by rw [h3];decide),if_neg (by rw [h4];decide),if_pos h]
variable (h5:inB (L.keeps.getD k AP).who 1 9=true)
include h5
theorem keepErr_4 (h:((L.keeps.take k).any fun x=>decide (x.place=(L.keeps.getD k AP).place)&&decide (x.hour=(L.keeps.getD k AP).hour))=true):FC L k=4:=by unfold FC;rw [if_neg (by rw [h3];decide),if_neg (by rw [h4];decide),if_neg (by rw [h5];decide),if_pos h]
theorem keepErr_ok (h:((L.keeps.take k).any fun x=>decide (x.place=(L.keeps.getD k AP).place)&&decide (x.hour=(L.keeps.getD k AP).hour))=false):FC L k=0:=by unfold FC;rw [if_neg (by rw [h3];decide),if_neg (by rw [h4];decide),if_neg (by rw [h5];decide),if_neg (by rw [h];decide)]
end
theorem least_t {k:Int} (h:k=4):Value.int .i64 0=.int .i64 (if k=4 then 0 else 1):=by rw [if_pos h]
theorem least_f {k:Int} (h:k≠4):Value.int .i64 1=.int .i64 (if k=4 then 0 else 1):=by rw [if_neg h]
def OI (L:Lin) (s:Slip):Int:=
  bif !inB s.num 1 999 then 1 else bif !inB s.hour 0 200 then 1 else bif !inB s.kind 1 6 then 8
  else bif !inB s.place 0 (L.places-1) then 3
  else bif cmp .eql s.kind 1&&!inB s.to 0 (L.places-1) then 3
  else bif cmp .eql s.kind 1&&cmp .eql s.to s.place then 4
  else bif !cmp .eql s.kind 1&&!cmp .eql s.to 0 then 1
  else bif !inB s.sort 0 (L.sorts-1) then 3
  else bif s.soil&&(!cmp .eql s.kind 1&&!cmp .eql s.kind 4) then 1
  else bif !inB s.amt (if s.kind=4 then 0 else 1) 50 then 1 else 0
theorem FH (L:Lin) (s:Slip):BV L s=OI L s:=by
  unfold BV OI;simp only [KH,Bool.cond_eq_ite,Bool.and_eq_true,Bool.not_eq_true',decide_eq_true_eq,decide_eq_false_iff_not]
end
section
variable {L:Lin} {k:Nat}
def linC (L:Lin):Int:=bif !inB L.places 1 4||!inB L.sorts 1 2 then 1 else bif !cmp .eql (CW L) 0 then CW L else bif !cmp .eql (DQ L) 0 then DQ L else bif cmp .gtr (L.slips.length:Int) 8 then 6 else FQ (CQ L) L.slips.length
theorem NC (L:Lin):AS L=linC L:=by
  unfold AS linC
  by_cases e:8<L.slips.length
  · have e2:(8:Int)<L.slips.length:=by omega
    cases inB L.places 1 4 <;> cases inB L.sorts 1 2 <;> simp [cmp,Bool.cond_eq_ite,e2,e]
  · have e2:¬ (8:Int)<L.slips.length:=by omega
    cases inB L.places 1 4 <;> cases inB L.sorts 1 2 <;> simp [cmp,Bool.cond_eq_ite,e2,e]
theorem linErr_at {x:Int} (h0:FQ (CQ L) L.slips.length=x) (h1:(!inB L.places 1 4||!inB L.sorts 1 2)=false) (h2:(!cmp .eql (CW L) 0)=false) (h3:(!cmp .eql (DQ L) 0)=false) (h4:cmp .gtr (L.slips.length:Int) 8=false):AS L=x:=by
  rw [NC];simp only [linC,h1,h2,h3,h4,cond_false,h0]
theorem slipAt_bad (h:BV L (L.slips.getD k AB)≠0):CQ L k=BV L (L.slips.getD k AB):=if_pos h
theorem slipAt_dup (h:BV L (L.slips.getD k AB)=0) (h2:hasNum (L.slips.getD k AB).num (L.slips.take k)=true):CQ L k=4:=by unfold CQ;rw [if_neg (fun x=>x h),if_pos h2]
theorem slipAt_ok (h:BV L (L.slips.getD k AB)=0) (h2:hasNum (L.slips.getD k AB).num (L.slips.take k)=false):CQ L k=0:=by unfold CQ;rw [if_neg (fun x=>x h),if_neg (by rw [h2];decide)]
theorem slips_hit (hz:FQ (CQ L) k=0) (hk:k<L.slips.length) {e:Int} (he:CQ L k=e) (hne:e≠0):FQ (CQ L) L.slips.length=e:=by rw [firstE_hit hz (by rw [he];exact hne) hk,he]
end
theorem openTo_done {st:List (List Int)} {k j:Nat} (h:j=(st.getD k []).length):GL (k:Int) (st.getD k []) j (FG st k)=FG st (k+1):=by subst h;rfl
theorem openH_at {L:Lin} {k:Nat} (h:k=L.start.length):FG L.start k=AM L:=by subst h;rfl
def Within (B:Int) (H:Hs):Prop:=∀ k,-B≤AX k H∧AX k H≤B
theorem Within.put {B B':Int} {H:Hs} (h:Within B H) {k:HKey} {v:Int} (h1:-B'≤v) (h2:v≤B') (hb:B≤B'):Within B' (HI k v H):=fun j=>by
  rw [IF];have:=h j;split <;> omega
theorem Within.add {B:Int} {H:Hs} (h:Within B H) {k:HKey} {d:Int} (h1:-50≤d) (h2:d≤50):Within (B+50) (KZ k d H):=h.put (by have:=h k;omega) (by have:=h k;omega) (by omega)
theorem Within.doSlip {B:Int} {H:Hs} (h:Within B H) {s:Slip} (h1:0≤s.amt) (h2:s.amt≤50) (hB:0≤B):Within (B+100) (doSlip s H):=by
  have up:∀ {H:Hs},Within (B+50) H→Within (B+100) H:=fun h k=>by have:=h k;omega
  have tw:∀ {H:Hs},Within (B+50+50) H→Within (B+100) H:=fun h k=>by have:=h k;omega
  unfold Sh.doSlip
  split
  · exact tw ((h.add (by omega) (by omega)).add (by omega) (by omega))
  split
  · exact tw ((h.add (by omega) (by omega)).add (by omega) (by omega))
  split
  · exact tw ((h.add (by omega) (by omega)).add (by omega) (by omega))
  split
  · exact up (h.put (by omega) (by omega) (by omega))
  split
  · exact up (h.add (by omega) (by omega))
  · exact up (h.add (by omega) (by omega))
end Go.Sh
namespace Go.Sl
open Go
theorem St.permL {I:Imm} {A A' B:Seg} {w:World} (h:A.Perm A') (st:St I (A++B) w):St I (A'++B) w:=st.perm (List.Perm.append_right _ h)
section
variable {ρ:Option Nat} {P:Program} {N:Nat} {ds:List Deferred} {l:Sl} {I:Imm} {M A B eM:Seg} {Q:Exit→Act→World→Prop} {E:TypeId} {vs:List Value} {xss:List (List Int)}
theorem rn_freezeEach {c : Code} (h : OwnEach E vs xss eM) (hl : ∀ xs ∈ xss, xs.length ≤ 1000000) (hM : M.Perm (eM ++ A)) (hA : A.Perm B)
    (next:∀ J,I.le J→RowsV J vs xss→Run (ρ:=ρ) P N c Q ds l J B):Run (ρ:=ρ) P N c Q ds l I M:=fun a w hS hD hW=>by
  obtain ⟨J,h1,h2,h3⟩:=h.freeze (fun xs hx=>by have:=hl xs hx;omega) (hW.perm hM);exact next J h1 h2 a w hS hD (h3.perm hA)
end
end Go.Sl
namespace Go.Sh
open Go Go.Sl
end Go.Sh
namespace Go.Sl
open Go
section
variable {P:Program} {N:Nat} {ops:Array Oper} {i:Nat} {l:Sl} {I:Imm} {M:Seg} {ty:TypeId} {gd:Option (Nat × Bool)} {K:Sl→Imm→Seg→Prop} {κ:Type} [DecidableEq κ] {enc:κ→Value}
theorem HR {x y u : Operand} {T kt et r cl : Nat} {es : Array MapEntry} {kvs : List (κ × Value)} {k : κ} {v : Value} (n : Nat) (hop : FR ops N i = some (none, .insert T x y u, ty, gd)) (hg : FA ops l gd = some true)
    (hT:PL P T=some (kt,et)) (hK:KeyOk P kt enc) (hx:BS l x=some (.map (some r))) (hy:BS l y=some (enc k)) (hu:BS l u=some v) (hn:M[n]?=some (r,Obj.map es cl)) (his:MapIs enc es kvs)
    (h:∀ es' cl',MapIs enc es' (upd k v kvs)→K l I (M.set n (r,Obj.map es' cl'))):Stp P N ops i l I M K:=
  CX hop hg (known3 hx hy hu) (by
    show wpL P (Instr.mapUpdate T (rho l x) (rho l y) (rho l u) >>= fun _=>pure Next.skip) _ I M
    rw [BG hx,BG hy,BG hu,AF]
    unfold Instr.mapUpdate
    rw [AF,AK (JN hT)]
    show wpL P (Sem.getObj r _) _ I M
    refine ⟨_,.inl (List.mem_of_getElem? hn),rfl,?_⟩
    show wpL P (Instr.checkKey _ _ _ _ >>= _) _ I _
    rw [AF]
    refine hK.check _ _ _ _ _ ?_
    rw [AF]
    refine hK.find k es.toList kvs _ _ _ his ?_
    have hf:=NW k v kvs 0
    cases hkv:EH k kvs 0 with
    | none=>
      rw [hkv] at hf
      simp only at hf
      show wpL P (Sem.setObj r _ _) _ I M
      refine GF n rfl hn rfl ?_
      refine ⟨undef,.inr ⟨rfl,rfl⟩,h _ _ ?_⟩
      rw [hf.1]
      exact OB his k v cl
    | some p=>
      obtain ⟨j,w⟩:=p
      rw [hkv] at hf
      simp only [Nat.sub_zero] at hf
      obtain ⟨_,h1,_,h2⟩:=hf
      have hold:((es[j]?).map (·.key)).getD (enc k)=enc k:=by
        have:=congrArg (fun l=>(l[j]?).map Prod.fst) his
        simp only [List.getElem?_map,Array.getElem?_toList,Option.map_map] at this
        cases he:es[j]? with
        | none=>rfl
        | some e=>
          rw [he] at this
          cases hq:kvs[j]? with
          | none=>rw [hq] at this;simp at this
          | some q=>
            rw [hq] at this h2
            simp [LB] at this h2
            simp [this,h2]
      have key:∀ key,key=enc k→wpL P (Sem.setObj r (.map (es.modify j fun e=>{ e with key,val:=v }) cl) (Sem.pure ())) (fun _ M'=>wpL P (pure Next.skip) (fun n M'=>∃ v,(n=.value v∨(n=.skip∧v=undef))∧K (ups none v l) I M') I M') I M:=fun key hkey=>by
        refine GF n rfl hn rfl ?_
        refine ⟨undef,.inr ⟨rfl,rfl⟩,h _ _ ?_⟩
        rw [h1]
        exact mapIs_set his j k v key hkey
      show wpL P (Instr.keyThatStays (((es[j]?).map (·.key)).getD (enc k)) (enc k) >>= _) _ I M
      rw [AF,hold]
      unfold Instr.keyThatStays
      split
      · exact key _ rfl
      · rw [AF]
        show (if (Question.extern "map.whichKeyStays" 2).forced then _ else ∀ t,_)
        split
        · refine key _ ?_;split <;> rfl
        · intro t;refine key _ ?_;split <;> rfl)
end
end Go.Sl
namespace Go.Sh
open Go Go.Sl
def YardH (T:TypeId) (I:Imm) (v:Value) (Y:Yard):Prop:=
  ∃ b v1 v2 v3,v=.pointer (some ⟨b,0,none⟩)∧I.blk b=some (Obj.cells #[v1,v2,v3] T (0,0))∧IsCars I v1 Y.cars∧CG I v2 Y.room∧IsRows I v3 Y.tracks
def YardsH (T:TypeId) (I:Imm) (vs:List Value) (zs:List Yard):Prop:=vs.length=zs.length∧∀ i,i<zs.length→YardH T I (vs.getD i undef) (zs.getD i noYard)
theorem YardsH.nil (T:TypeId) (I:Imm):YardsH T I [] []:=⟨rfl,fun i hi=>by simp at hi⟩
structure VisOk (A:Yard) (s:List JQ × List Yard):Prop where
  met:∃ m:List Yard,s.1=m.map placeOf∧(∀ y∈m,Kin A y)∧(m.map Yard.tracks).Nodup
  kin:∀ y∈s.2,Kin A y
  le:s.2.length≤s.1.length
theorem VisOk.visit {A:Yard} {s:List JQ × List Yard} {z:Yard} (h:VisOk A s) (f:Fine A) (hz:Kin A z):VisOk A (visit s z):=by
  obtain ⟨m,e,hk,hn⟩:=h.met;have hle:=h.le;unfold Go.Sh.visit
  split
  · exact h
  · rename_i hm
    refine ⟨⟨m++[z],by simp [e],fun y hy=>?_,?_⟩,fun y hy=>?_,by simp only [List.length_append,List.length_cons,List.length_nil];omega⟩
    · rcases List.mem_append.1 hy with hy | hy
      · exact hk y hy
      · simp at hy;subst hy;exact hz
    · rw [List.map_append]
      refine List.nodup_append.2 ⟨hn,by simp,fun a ha b hb=>?_⟩;simp at hb;subst hb;intro e2;obtain ⟨y,hy,rfl⟩:=List.mem_map.1 ha;have:=kin_tracks (hk y hy) hz e2;subst this;exact hm (e▸List.mem_map_of_mem hy)
    · rcases List.mem_append.1 hy with hy | hy
      · exact h.kin y hy
      · simp at hy;subst hy;exact hz
theorem VisOk.visitAll {A:Yard} (f:Fine A):∀ (zs:List Yard) (s:List JQ × List Yard),VisOk A s→(∀ z∈zs,Kin A z)→VisOk A (visitAll zs s):=by
  intro zs
  induction zs with
  | nil=>intro s h _;exact h
  | cons z r ih=>intro s h hk;exact ih _ (h.visit f (hk z List.mem_cons_self)) (fun y hy=>hk y (List.mem_cons_of_mem _ hy))
theorem VisOk.fresh {A:Yard} {s:List JQ × List Yard} (h:VisOk A s):VisOk A (s.1,[]):=⟨h.met,fun y hy=>by simp at hy,Nat.zero_le _⟩
theorem VisOk.start (A:Yard):VisOk A ([placeOf A],[A]):=⟨⟨[A],rfl,fun y hy=>by simp at hy;subst hy;exact Kin.refl _,by simp⟩,fun y hy=>by simp at hy;subst hy;exact Kin.refl _,by simp⟩
def visJ (met:List JQ) (now:List Yard) (j:Nat):List JQ × List Yard:=visitAll ((now.take j).flatMap nexts) (met,[])
def visX (s:List JQ × List Yard) (x:Yard) (xs:List Shift):List JQ × List Yard:=visitAll (xs.map (moved x)) s
theorem VisOk.j {A:Yard} (f:Fine A) {met:List JQ} {now:List Yard} (h:VisOk A (met,now)) (j:Nat):VisOk A (visJ met now j):=
  VisOk.visitAll f _ _ h.fresh (flat_kin fun y hy=>h.kin y (List.mem_of_mem_take hy))
theorem VisOk.x {A:Yard} (f:Fine A) {s:List JQ × List Yard} {x:Yard} (h:VisOk A s) (hx:Kin A x) {xs:List Shift} (hp:xs <+: draws x):VisOk A (visX s x xs):=
  VisOk.visitAll f _ _ h fun y hy=>by
    obtain ⟨d,hd,rfl⟩:=List.mem_map.1 hy;exact hx.moved (NE (hp.subset hd))
end Go.Sh
namespace Go.Sl
open Go
theorem IsRows.split {I:Imm} {v:Value} {xss:List (List Int)} (h:IsRows I v xss):∃ vs:List Value,IsVals I v vs∧RowsV I vs xss:=by
  obtain ⟨a,c,b,o,f,h1,h2,h3,h4,h5⟩:=h;have hl:((List.range xss.length).map f).length=xss.length:=by simp
  have hg:∀ i,i<xss.length→((List.range xss.length).map f).getD i undef=f i:=fun i hi=>by simp [List.getD,hi]
  refine ⟨(List.range xss.length).map f,⟨a,c,b,o,by rw [hl];exact h1,by rw [hl];exact h2,by rw [hl];exact h3,?_⟩,hl,fun i hi=>by rw [hg i hi];exact h5 i hi⟩;rw [hl];refine ⟨h4.addr,fun i hi g hg2=>?_⟩;have:=h4.get i hi g hg2;show ICell I _ (((List.range xss.length).map f).getD i undef);rw [hg i hi];exact this
theorem RowsV.take {I:Imm} {vs:List Value} {xss:List (List Int)} (h:RowsV I vs xss) (k:Nat):RowsV I (vs.take k) (xss.take k):=by
  refine ⟨by simp [h.1],fun i hi=>?_⟩;have hi2:i<k∧i<xss.length:=by rw [List.length_take] at hi;omega
  have:=h.2 i hi2.2;simp only [List.getD] at this ⊢;rw [List.getElem?_take_of_lt hi2.1,List.getElem?_take_of_lt hi2.1];exact this
theorem RowsV.drop {I:Imm} {vs:List Value} {xss:List (List Int)} (h:RowsV I vs xss) (k:Nat):RowsV I (vs.drop k) (xss.drop k):=by
  refine ⟨by simp [h.1],fun i hi=>?_⟩;have hi2:k+i<xss.length:=by simp at hi;omega
  have:=h.2 (k+i) hi2;simp only [List.getD] at this ⊢;rw [List.getElem?_drop,List.getElem?_drop];exact this
theorem RowsV.append {I:Imm} {vs ws:List Value} {xss yss:List (List Int)} (h:RowsV I vs xss) (k:RowsV I ws yss):RowsV I (vs++ws) (xss++yss):=by
  have h1:=h.1;refine ⟨by simp [h.1,k.1],fun i hi=>?_⟩;simp only [List.length_append] at hi
  by_cases e:i<xss.length
  · have:=h.2 i e
    simp only [List.getD] at this ⊢;rw [List.getElem?_append_left (by omega),List.getElem?_append_left e];exact this
  · have:=k.2 (i-xss.length) (by omega)
    simp only [List.getD] at this ⊢;rw [List.getElem?_append_right (by omega),List.getElem?_append_right (by omega),h1];exact this
end Go.Sl
namespace Go.Sh
open Go Go.Sl
section
variable {xs ys:List Int} {k:Nat}
end
def DO (n:Nat):List Int:=(List.range n).map fun i:Nat=>(i:Int)
theorem wholeL_succ (n:Nat):DO (n+1)=DO n++[(n:Int)]:=by simp [DO,List.range_succ]
theorem EU (n:Nat):(DO n).length=n:=by simp [DO]
section
variable {o l:List Int} {k:Nat}
end
section
variable {α β:Type}
variable {f:α→β→β} {d:α} {bl:List α} {rec:List α→List β} {k:Nat}
end
end Go.Sh
namespace Go.Sl
open Go
theorem RowsV.one {I:Imm} {vs:List Value} {xss:List (List Int)} (h:RowsV I vs xss):vs.all CK=true:=by
  rw [List.all_eq_true];intro v hv;obtain ⟨i,hi,rfl⟩:=List.mem_iff_getElem.1 hv;have:=h.2 i (h.1▸hi);obtain ⟨a,c,b,o,e,_⟩:=this;rw [List.getD,List.getElem?_eq_getElem hi] at e;simp only [Option.getD_some] at e;rw [e];rfl
section
variable {P:Program} {N:Nat} {ops:Array Oper} {i:Nat} {l:Sl} {I:Imm} {R M:Seg} {ty:TypeId} {gd:Option (Nat × Bool)} {K:Sl→Imm→Seg→Prop} {d:Nat}
theorem NI {x : Operand} {T E bs n : Nat} {z zv : Value} (hop : FR ops N i = some (some d, .makeSlice T x x, ty, gd)) (hg : FA ops l gd = some true)
    (hT:IW P T=some E) (hsz:EC P E=some 1) (hz:HJ P E=some z) (hzc:z.cells=#[zv]) (hb:MG P E=some bs) (hbs:1≤bs∧bs≤256)
    (hx:BS l x=some (.int .i64 (n:Int))) (hn:n≤1000000)
    (next:∀ b,K ((d,.slice (some ⟨b,0,none⟩) n n)::l) I ((b,Obj.cells (List.replicate n zv).toArray E (0,0))::M)):Stp P N ops i l I M K:=by
  have hinfo:∃ inf,P.info? E=some inf∧inf.bytes=bs:=by
    unfold MG at hb;cases hi:P.info? E with
    | none=>rw [hi] at hb;cases hb
    | some inf=>rw [hi] at hb;exact ⟨inf,rfl,by simpa using hb⟩
  obtain ⟨inf,hinf,hbytes⟩:=hinfo;refine CX hop hg (IK hx hx) ?_;show wpL P (Instr.makeSlice T (rho l x) (rho l x) >>= fun x=>pure (Next.value x)) _ I M;refine EA ?_;rw [BG hx];have hw:IntKind.i64.wrap (n:Int)=(n:Int):=NN ⟨by omega,by omega⟩;have hbig:¬ ((inf.bytes:Int)*(n:Int)>2 ^ 48):=by
    have h1:inf.bytes*n≤256*1000000:=Nat.mul_le_mul (by omega) hn;have h2:((inf.bytes*n:Nat):Int)≤((256*1000000:Nat):Int):=Int.ofNat_le.2 h1;rw [Int.natCast_mul] at h2;omega
  unfold Instr.makeSlice;rw [AF,AK (DN hT)];show wpL P (pure (n:Int) >>= _) _ I M;rw [AF,DR];show wpL P (pure (n:Int) >>= _) _ I M;rw [AF,DR,AF,DG hinf];simp only [hw];have hc:(decide ((n:Int)<0)||decide ((inf.bytes:Int)*(n:Int)>2 ^ 48)||decide ((n:Int)<0)||decide ((n:Int)>(n:Int)))=false:=by
    rw [decide_eq_false (show ¬ (n:Int)<0 by omega),decide_eq_false hbig,decide_eq_false (show ¬ (n:Int)>n by omega)];rfl
  rw [if_neg (by rw [hc];simp)];rw [AF];have hask:∀ (n:Nat) (Q:Unit→Seg→Prop),Q () M→wpL P (askRoom n) Q I M:=fun n Q hq=>by
    unfold askRoom
    split <;> exact hq
  refine hask _ _ ?_;rw [AF,CC hsz];simp only [Int.toNat_natCast,Nat.mul_one]
  by_cases h0:n=0
  · rw [if_pos h0,AF,DR,AF]
    intro b;refine ⟨_,.inl rfl,?_⟩;have e:(Array.range n).map (fun k=>(#[]:Array Value)[k%(#[]:Array Value).size]!)=(List.replicate n zv).toArray:=by subst h0;simp
    rw [e];exact next b
  rw [if_neg h0,AF,DD hz,AF,DR,AF];intro b;refine ⟨_,.inl rfl,?_⟩;have e:(Array.range n).map (fun k=>z.cells[k%z.cells.size]!)=(List.replicate n zv).toArray:=by
    rw [hzc]
    apply Array.ext
    · simp
    · intro i h1 h2
      simp [Nat.mod_one]
  rw [e];exact next b
end
theorem encL_vals (vs:List Value):CJ 1 DT vs=vs:=by
  induction vs with
  | nil=>rfl
  | cons v r ih=>
    have:CJ 1 DT (v::r)=[v]++CJ 1 DT r:=by simp [CJ,DT]
    rw [this,ih];rfl
theorem Own.made {E:TypeId} {b n:Nat} (z:Value):Own E 1 DT (.slice (some ⟨b,0,none⟩) n n) (List.replicate n z) [(b,Obj.cells (List.replicate n z).toArray E (0,0))]:=
  .inr ⟨b,n,[],by simp,by simp,by rw [encL_vals];simp,by simp [encL_vals]⟩
structure Lent (I J:Imm) (Ms:Seg):Prop where
  free:∀ b o,(b,o)∈Ms→I.blk b=none
  held:∀ b o,(b,o)∈Ms→J.blk b=some o
  nodup:(Ms.map Prod.fst).Nodup
theorem Lent.mono {I J K:Imm} {Ms:Seg} (h:Lent I J Ms) (le:J.le K):Lent I K Ms:=⟨h.free,fun b o hm=>le.blk _ _ (h.held b o hm),h.nodup⟩
theorem Own.lend {α : Type} {E : TypeId} {sz : Nat} {cell : α → Nat → Value} {v : Value} {xs : List α} {Ms M : Seg} {I : Imm} {w : World} (dflt : α) (h : Own E sz cell v xs Ms) (hl : xs.length ≤ 140737488355328) (st : St I (Ms ++ M) w) :
    ∃ J,I.le J∧IsSl sz cell dflt J v xs∧Lent I J Ms∧St J M w:=by
  rcases h with ⟨rfl,rfl,rfl⟩ | ⟨b,c,sp,rfl,h,rfl,hc⟩
  · exact ⟨I,Imm.le.refl I,⟨none,0,0,0,rfl,Nat.le_refl _,by simp,⟨fun h=>by simp at h,fun i hi=>by simp at hi⟩⟩,⟨fun _ _ h=>by simp at h,fun _ _ h=>by simp at h,by simp⟩,st⟩
  · have hb:I.blk b=none:=st.disj b (Obj.cells (CJ sz cell xs++sp).toArray E (0,0)) (by simp)
    refine ⟨I.add b _,Imm.le_add hb,⟨_,c,b,0,rfl,h,hl,⟨fun _=>rfl,fun i hi f hf=>⟨rfl,_,E,(0,0),Imm.add_same I b _,?_⟩⟩⟩,⟨fun b' o hm=>?_,fun b' o hm=>?_,by simp⟩,St.freeze st⟩
    · have hlt : i * sz + f < (CJ sz cell xs).length := by
        rw [BR];have:i*sz+sz≤xs.length*sz:=by rw [← Nat.succ_mul];exact Nat.mul_le_mul_right _ hi
        omega
      simp only [List.getElem?_toArray,Nat.zero_add];rw [List.getElem?_append_left hlt];exact PP sz cell dflt xs i f hi hf
    · have:=List.mem_singleton.1 hm;cases this;exact hb
    · have:=List.mem_singleton.1 hm;cases this;exact Imm.add_same I b _
theorem St.thaw {I J:Imm} {M Ms:Seg} {w:World} (h:Lent I J Ms) (le:I.le J) (st:St J M w):∃ K,I.le K∧St K (Ms++M) w:=by
  have hk:∀ b,b∈Ms.map Prod.fst→∃ o,(b,o)∈Ms:=fun b hb=>by
    obtain ⟨⟨c,o⟩,hm,e⟩:=List.mem_map.1 hb;cases e;exact ⟨o,hm⟩
  refine ⟨{ J with blk:=fun b=>if b∈Ms.map Prod.fst then none else J.blk b },⟨le.os,le.tape,le.output,fun b o hb=>?_⟩,⟨st.os,st.tape,st.output,fun b o hb=>?_,fun b o hm=>?_,?_,fun b o hm=>?_⟩⟩
  · show (if b∈Ms.map Prod.fst then none else J.blk b)=some o
    rw [if_neg]
    · exact le.blk b o hb
    · intro hm
      obtain ⟨o2,h2⟩:=hk b hm;rw [h.free b o2 h2] at hb;cases hb
  · change (if b∈Ms.map Prod.fst then none else J.blk b)=some o at hb
    split at hb
    · cases hb
    · exact st.imm b o hb
  · rcases List.mem_append.1 hm with hm | hm
    · exact st.imm b o (h.held b o hm)
    · exact st.mem b o hm
  · rw [List.map_append]
    refine List.nodup_append.2 ⟨h.nodup,st.nodup,fun a ha b hb e=>?_⟩;subst e;obtain ⟨o,ho⟩:=hk a ha;obtain ⟨⟨c,o2⟩,hm,e⟩:=List.mem_map.1 hb;cases e;have:=st.disj _ _ hm;rw [h.held _ _ ho] at this;cases this
  · show (if b∈Ms.map Prod.fst then none else J.blk b)=none
    rcases List.mem_append.1 hm with hm | hm
    · rw [if_pos (List.mem_map_of_mem (f:=Prod.fst) hm)]
    · split
      · rfl
      · exact st.disj b o hm
section
variable {ρ:Option Nat} {P:Program} {N:Nat} {ds:List Deferred} {l:Sl} {I:Imm} {M A B Ms:Seg} {Q:Exit→Act→World→Prop} {c:Code}
end
theorem ct_own {α : Type} {E : TypeId} {sz : Nat} {cell : α → Nat → Value} {v : Value} {xs : List α} {Ms : Seg} {I : Imm} {P : Program} {f : FuncId} {args : Array Value} {u : Value} (dflt : α) (h : Own E sz cell v xs Ms) (hl : xs.length ≤ 140737488355328)
    (ct:∀ J,I.le J→IsSl sz cell dflt J v xs→CtV P f args J u):Ct P f args I Ms (fun r _ M'=>r=u∧M'=Ms):=by
  intro F w st;obtain ⟨J,h1,h2,h3,h4⟩:=h.lend dflt hl st;refine (ct J h1 h2 F w h4).mono fun e w' ⟨r,I',M',he,hle,⟨hr,hm⟩,st'⟩=>?_
  subst hm;obtain ⟨K,k1,k2⟩:=St.thaw (h3.mono hle) (h1.trans hle) (by simpa using st');exact ⟨r,K,Ms,he,k1,⟨hr,rfl⟩,k2⟩
theorem encL_split {α : Type} (sz : Nat) (cell : α → Nat → Value) (dflt : α) (xs : List α) (j : Nat) (h : j < xs.length) :
    CJ sz cell xs=CJ sz cell (xs.take j)++((List.range sz).map (cell (xs.getD j dflt))++CJ sz cell (xs.drop (j+1))):=by
  have e:xs=xs.take j++xs.getD j dflt::xs.drop (j+1):=by
    have:xs.drop j=xs.getD j dflt::xs.drop (j+1):=by
      rw [List.drop_eq_getElem_cons h];simp [List.getD,h]
    rw [← this,List.take_append_drop]
  conv=>lhs;rw [e]
  simp only [CJ,List.flatMap_append,List.flatMap_cons]
theorem encL_setAll {α : Type} (sz : Nat) (cell : α → Nat → Value) (z : α) (xs : List α) (j : Nat) (h : j < xs.length) :
    CJ sz cell (xs.set j z)=CJ sz cell (xs.take j)++((List.range sz).map (cell z)++CJ sz cell (xs.drop (j+1))):=by
  rw [List.set_eq_take_append_cons_drop,if_pos h];simp only [CJ,List.flatMap_append,List.flatMap_cons]
section
variable {ρ:Option Nat} {P:Program} {N:Nat} {ops:Array Oper} {i:Nat} {l:Sl} {I:Imm} {M:Seg} {ty:TypeId} {gd:Option (Nat × Bool)} {K:Sl→Imm→Seg→Prop}
theorem FP {α : Type} {T : TypeId} {x y : Operand} {v : Value} {E sz : Nat} {cell : α → Nat → Value} {a : Option Addr} {n c b : Nat} {xs : List α} {Ms R : Seg} {rc : Nat → Nat → Value} (dflt : α) (j : Nat) (z : α)
    (hop:FR ops N i=some (none,.store T x y,ty,gd)) (hg:FA ops l gd=some true) (own:Own E sz cell (.slice a n c) xs Ms) (row:ORow sz Ms a b xs.length rc) (hj:j<xs.length)
    (hx:BS l x=some (.pointer (some ⟨b,0+j*sz,none⟩))) (hy:BS l y=some v) (hsz:EC P T=some sz) (hv:v.cells.toList=(List.range sz).map (cell z)) (hone:∀ w∈(List.range sz).map (cell z),CK w=true)
    (hM:M.Perm (Ms++R)) (next:∀ Ms',Own E sz cell (.slice a n c) (xs.set j z) Ms'→K l I (Ms'++R)):Stp P N ops i l I M K:=by
  have ha:=row.addr (by omega);rcases own with ⟨hv',rfl,rfl⟩ | ⟨b',c',sp,hv',hcap,rfl,hlen⟩
  · simp at hj
  · simp only [Value.slice.injEq] at hv'
    obtain ⟨rfl,rfl,rfl⟩:=hv';simp only [Option.some.injEq,Addr.mk.injEq,and_true] at ha;subst ha;refine KB hop hg (IK hx hy) hM ?_;show wpL P (Instr.storeAt T (rho l x) (rho l y) >>= fun _=>pure Next.skip) _ I _;rw [BG hx,BG hy,AF];show wpL P (storeVar T ⟨b',0+j*sz,none⟩ v) _ I _;unfold storeVar;rw [AF,CC hsz];have hl:v.cells.size=sz:=by rw [← Array.length_toList,hv];simp
    rw [if_neg (by simp [hl])];show wpL P (storeCells ⟨b',0+j*sz,none⟩ v.cells.toList) _ I _;rw [hv];have hs:=encL_split sz cell dflt xs j hj;have hA:(CJ sz cell (xs.take j)).length=j*sz:=by rw [BR,List.length_take,Nat.min_eq_left (by omega)]
    refine FU (T:=E) (k:=0) ((List.range sz).map (cell z)) 0 _ (CJ sz cell xs++sp).toArray _ (by simp) ?_ hone ?_
    · rw [hs]
      simp only [List.size_toArray,List.length_append,List.length_map,List.length_range,hA];omega
    · refine ⟨undef,_,.inr ⟨rfl,rfl⟩,List.Sublist.refl _,?_⟩
      have e2:IP (CJ sz cell xs++sp).toArray (0+j*sz+0) ((List.range sz).map (cell z))=(CJ sz cell (xs.set j z)++sp).toArray:=by
        apply Array.ext'
        have:=KA ((List.range sz).map (cell z)) (CJ sz cell (xs.take j)) ((List.range sz).map (cell (xs.getD j dflt))++CJ sz cell (xs.drop (j+1))++sp) (by simp);rw [hA] at this;rw [hs,encL_setAll sz cell z xs j hj,show 0+j*sz+0=j*sz by omega,List.append_assoc,this];simp
      rw [e2];exact next _ (.inr ⟨b',c,sp,by simp,by simpa using hcap,rfl,by rw [← hlen,List.length_append,List.length_append,BR,BR,List.length_set]⟩)
end
abbrev EqS (R:Seg):Seg→Prop:=fun X=>X=R
inductive FpOk (ops:Array Oper) (i:Nat) (M:Seg):List (Nat × (Seg→Prop))→Prop
  | nil:FpOk ops i M []
  | wait {k:Nat} {pr:Seg→Prop} {fp:List (Nat × (Seg→Prop))}:wt ops i k=true→FpOk ops i M fp→FpOk ops i M ((k,pr)::fp)
  | none {k:Nat} {fp:List (Nat × (Seg→Prop))}:FpOk ops i M fp→FpOk ops i M ((k,EqS [])::fp)
  | part {k:Nat} {R Sx:Seg} {fp:List (Nat × (Seg→Prop))}:M.Perm (R++Sx)→FpOk ops i M fp→FpOk ops i M ((k,EqS R)::fp)
  | other {k:Nat} {pr:Seg→Prop} {R Sx:Seg} {fp:List (Nat × (Seg→Prop))}:pr R→M.Perm (R++Sx)→FpOk ops i M fp→FpOk ops i M ((k,pr)::fp)
theorem FpOk.all {ops:Array Oper} {i:Nat} {M:Seg} {fp:List (Nat × (Seg→Prop))} (h:FpOk ops i M fp):∀ p∈fp,wt ops i p.1=true∨∃ Rx Sx,p.2 Rx∧M.Perm (Rx++Sx):=by
  induction h with
  | nil=>intro p hp;simp at hp
  | wait h _ ih=>
    intro p hp;rcases List.mem_cons.1 hp with rfl | hp
    · exact .inl h
    · exact ih p hp
  | none _ ih=>
    intro p hp;rcases List.mem_cons.1 hp with rfl | hp
    · exact .inr ⟨[],M,rfl,List.Perm.refl _⟩
    · exact ih p hp
  | part h _ ih=>
    intro p hp;rcases List.mem_cons.1 hp with rfl | hp
    · exact .inr ⟨_,_,rfl,h⟩
    · exact ih p hp
  | other h h2 _ ih=>
    intro p hp;rcases List.mem_cons.1 hp with rfl | hp
    · exact .inr ⟨_,_,h,h2⟩
    · exact ih p hp
section
variable {P:Program} {N:Nat} {ops:Array Oper} {als:List Nat} {al:List (Nat × Nat × Fresh)} {L0:Sl} {F0:Seg} {Kf:Sl→Imm→Seg→Prop} {fp:List (Nat × (Seg→Prop))} {rest:List (Nat × Bool)} {i d:Nat} {v:Value} {l:Sl} {I:Imm} {M M':Seg}
def lkB (d:Nat) (v:Value) (L0:Sl):Prop:=match EE d L0 with | some u=>v=u | none=>True
theorem lkOk {L0:Sl} {d:Nat} {v:Value} (h:lkB d v L0):∀ u,EE d L0=some u→v=u:=fun u hu=>by
  unfold lkB at h;rw [hu] at h;exact h
theorem AG (h:Det P N ops i l I M d v) (next:OFPX P N ops als F0 Kf al L0 ((i,EqS M)::fp) rest ((d,v)::l) I M) (hL:lkB d v L0:=by first | exact trivial | exact rfl):OFPX P N ops als F0 Kf al L0 fp ((i,true)::rest) l I M:=⟨d,v,EqS M,M,[],fun _ e=>e▸h,rfl,by simp,lkOk hL,next⟩
theorem AV (h:Det P N ops i l I [] d v) (next:OFPX P N ops als F0 Kf al L0 ((i,EqS [])::fp) rest ((d,v)::l) I M) (hL:lkB d v L0:=by first | exact trivial | exact rfl):OFPX P N ops als F0 Kf al L0 fp ((i,true)::rest) l I M:=⟨d,v,EqS [],[],M,fun _ e=>e▸h,rfl,by simp,lkOk hL,next⟩
theorem PX {Rx Sx:Seg} (hp:M.Perm (Rx++Sx)) (h:Det P N ops i l I Rx d v) (next:OFPX P N ops als F0 Kf al L0 ((i,EqS Rx)::fp) rest ((d,v)::l) I M) (hL:lkB d v L0:=by first | exact trivial | exact rfl):OFPX P N ops als F0 Kf al L0 fp ((i,true)::rest) l I M:=⟨d,v,EqS Rx,Rx,Sx,fun _ e=>e▸h,rfl,hp,lkOk hL,next⟩
theorem HM (pr:Seg→Prop) {Rx Sx:Seg} (hq:pr Rx) (hp:M.Perm (Rx++Sx)) (h:∀ X,pr X→Det P N ops i l I X d v) (next:OFPX P N ops als F0 Kf al L0 ((i,pr)::fp) rest ((d,v)::l) I M) (hL:lkB d v L0:=by first | exact trivial | exact rfl):OFPX P N ops als F0 Kf al L0 fp ((i,true)::rest) l I M:=⟨d,v,pr,Rx,Sx,h,hq,hp,lkOk hL,next⟩
theorem ofx_ac {T:TypeId} {cs:Array Value} (ha:BW al i=some (d,.cl T cs)) (next:∀ b,OFPX P N ops als F0 Kf al L0 fp rest ((d,.pointer (some ⟨b,0,none⟩))::l) I ((b,Obj.cells cs T (0,0))::M)):OFPX P N ops als F0 Kf al L0 fp ((i,false)::rest) l I M:=by
  unfold OFPX;rw [ha];exact next
theorem ofx_bs {T:TypeId} {n:Nat} {cs:Array Value} (ha:BW al i=some (d,.bs T n cs)) (next:∀ b,OFPX P N ops als F0 Kf al L0 fp rest ((d,.slice (some ⟨b,0,none⟩) n n)::l) I ((b,Obj.cells cs T (0,0))::M)):OFPX P N ops als F0 Kf al L0 fp ((i,false)::rest) l I M:=by
  unfold OFPX;rw [ha];exact next
def dsB (ops:Array Oper) (i:Nat) (L0:Sl):Bool:=match DH ops i with | some d=>(EE d L0).isNone | none=>true
theorem dsB_nil (ops:Array Oper) (i:Nat):dsB ops i []=true:=by unfold dsB;split <;> rfl
theorem dsB_spec {L0:Sl} (h:dsB ops i L0=true):∀ d,DH ops i=some d→EE d L0=none:=fun d hd=>by
  unfold dsB at h;rw [hd] at h;simpa using h
def knB (ops:Array Oper) (als:List Nat) (al:List (Nat × Nat × Fresh)) (rest:List (Nat × Bool)):Bool:=als.all fun j=>(BW al j).isSome||rest.any fun x=>!x.2&&(wt ops j x.1&&!(isAl als x.1))
theorem knB_spec (h:knB ops als al rest=true):Known ops als al rest:=fun j hj=>by
  obtain ⟨k,hk,e⟩:=List.any_eq_true.1 (show (als.any fun k=>Nat.beq k j)=true from hj);obtain rfl:=Nat.eq_of_beq_eq_true e;have:=List.all_eq_true.1 h k hk;simp only [Bool.or_eq_true,List.any_eq_true,Bool.and_eq_true,Bool.not_eq_true'] at this;rcases this with h1 | ⟨⟨a,b⟩,h2,h3,h4,h5⟩
  · exact .inl (Option.isSome_iff_exists.1 h1)
  · simp only at h3 h4 h5
    subst h3;exact .inr ⟨a,h2,h4,h5⟩
theorem DB {Mx : Seg → Seg} (ha : BW al i = none) (hp : ∀ F, (Mx F).Perm (M ++ F))
    (h:∀ F,Stp P N ops i l I (Mx F) fun l' I' M'=>∃ M1 al' L0',M'.Perm (M1++F)∧FpOk ops i M1 fp∧Ext P N ops als al L0 al' L0' l'∧knB ops als al' rest=true∧OFPX P N ops als F0 Kf al' L0' fp rest l' I' M1) (hS:dsB ops i L0=true:=by first | exact dsB_nil _ _ | kernel_rfl):OFPX P N ops als F0 Kf al L0 fp ((i,false)::rest) l I M:=by
  unfold OFPX;rw [ha];refine ⟨dsB_spec hS,?_⟩;exact fun F _=>Stp.perm (hp F).symm (Stp.mono (h F) fun l' I' M' ⟨M1,al',L0',a,b,e,k,c⟩=>⟨M1,al',L0',a,b.all,e,knB_spec k,c⟩)
theorem FD {F M1:Seg} (hp:M'.Perm (M1++F)) (hf:FpOk ops i M1 fp) (next:OFPX P N ops als F0 Kf al L0 fp rest l I M1) (hk:knB ops als al rest=true:=by kernel_rfl):∃ M1 al' L0',M'.Perm (M1++F)∧FpOk ops i M1 fp∧Ext P N ops als al L0 al' L0' l∧knB ops als al' rest=true∧OFPX P N ops als F0 Kf al' L0' fp rest l I M1:=⟨M1,al,L0,hp,hf,.inl ⟨rfl,rfl⟩,hk,next⟩
def asB (als:List Nat) (al:List (Nat × Nat × Fresh)):Bool:=al.all fun x=>isAl als x.1
theorem alFind_in:∀ (al:List (Nat × Nat × Fresh)) {i d:Nat} {E:Fresh},BW al i=some (d,E)→(i,d,E)∈al:=by
  intro al
  induction al with
  | nil=>intro i d E h;cases h
  | cons x r ih=>
    intro i d E h;unfold BW at h;cases hb:Nat.beq x.1 i with
    | true=>
      rw [hb] at h;simp only [cond_true,Option.some.injEq] at h;have e:=Nat.eq_of_beq_eq_true hb;rcases x with ⟨x1,x2⟩
      simp only at h e;subst h e;exact List.mem_cons_self
    | false=>
      rw [hb] at h;exact List.mem_cons_of_mem _ (ih h)
theorem asB_spec (h:asB als al=true):∀ i d E,BW al i=some (d,E)→isAl als i=true:=fun i d E hi=>List.all_eq_true.1 h _ (alFind_in al hi)
theorem FF (h:Kf l I M):OFPX P N ops als F0 Kf al L0 fp [] l I M:=h
def noLooks (ops:Array Oper) (i:Nat):Bool:=match ops[i]? with | some o=>(o.looksAt ops).isEmpty | none=>false
theorem OX (h2:noLooks ops i=true) (t:Nat):DK ops i t=false:=by
  unfold noLooks at h2;unfold DK;cases ho:ops[i]? with
  | none=>rfl
  | some o=>
    rw [ho] at h2;simp only [List.isEmpty_iff] at h2;simp [h2]
def supB (ops:Array Oper) (i:Nat) (L0:Sl):Bool:=match ops[i]? with
  | some o=>(o.looksAt ops).all fun t=>(EE t L0).isSome&&(List.range ops.size).all fun k=>!(dstB ops k t)||wt ops i k
  | none=>false
theorem supB_spec {L0:Sl} (h:supB ops i L0=true):∀ t,DK ops i t=true→∃ u,EE t L0=some u∧∀ k,DH ops k=some t→wt ops i k=true:=fun t ht=>by
  unfold supB at h;unfold DK at ht;cases ho:ops[i]? with
  | none=>rw [ho] at h;cases h
  | some o=>
    rw [ho] at h ht;simp only [List.all_eq_true,Bool.and_eq_true,List.any_eq_true,Bool.or_eq_true,Bool.not_eq_true'] at h ht;obtain ⟨u,hu,e⟩:=ht;obtain rfl:=Nat.eq_of_beq_eq_true e;obtain ⟨h1,h2⟩:=h u hu;obtain ⟨v,hv⟩:=Option.isSome_iff_exists.1 h1;refine ⟨v,hv,fun k hk=>?_⟩;rcases h2 k (List.mem_range.2 (OR hk)) with h3 | h3
    · rw [NU hk] at h3;cases h3
    · exact h3
theorem alOk_cl {T:TypeId} {cs:Array Value} (h1:DH ops i=some d) (h2:noLooks ops i=true) (h3:alAt P N ops [] i=some (d,T,cs)):AlOk P N ops [] i d (.cl T cs):=
  ⟨h1,rfl,(fun t ht=>by rw [OX h2] at ht;cases ht),fun I M=>sal d T cs (fun b=>⟨b,rfl,rfl,rfl⟩) h3⟩
theorem alOk_bsL {L0:Sl} {T:TypeId} {n:Nat} {cs:Array Value} (h1:DH ops i=some d) (h0:EE d L0=none) (h2:supB ops i L0=true) (h3:bsAt P N ops L0 i=some (d,T,n,cs)):AlOk P N ops L0 i d (.bs T n cs):=
  ⟨h1,h0,supB_spec h2,fun I M=>sbs d T n cs (fun b=>⟨b,rfl,rfl,rfl⟩) h3⟩
theorem HE:∀ i d E,BW [] i=some (d,E)→AlOk P N ops L0 i d E:=fun _ _ _ h=>by cases h
theorem LZ {E:Fresh} (h:AlOk P N ops L0 i d E) (r:∀ i d E,BW al i=some (d,E)→AlOk P N ops L0 i d E):∀ i' d' E',BW ((i,d,E)::al) i'=some (d',E')→AlOk P N ops L0 i' d' E':=fun i' d' E' h'=>by
  unfold BW at h';cases hb:Nat.beq i i' with
  | true=>
    have e:=Nat.eq_of_beq_eq_true hb;rw [hb] at h';simp only [cond_true,Option.some.injEq,Prod.mk.injEq] at h';obtain ⟨rfl,rfl⟩:=h';exact e▸h
  | false=>
    rw [hb] at h';exact r i' d' E' h'
end
def alInjS (ops:Array Oper) (als:List Nat):Bool:=als.all fun i=>als.all fun j=>Nat.beq i j||!(match DH ops i,DH ops j with | some a,some b=>Nat.beq a b | _,_=>false)
theorem alInjS_spec {ops:Array Oper} {als:List Nat} (h:alInjS ops als=true):∀ i j d,isAl als i=true→isAl als j=true→DH ops i=some d→DH ops j=some d→i=j:=fun i j d hi hj h1 h2=>by
  obtain ⟨k,hk,e⟩:=List.any_eq_true.1 (show (als.any fun k=>Nat.beq k i)=true from hi);obtain rfl:=Nat.eq_of_beq_eq_true e;obtain ⟨k',hk',e'⟩:=List.any_eq_true.1 (show (als.any fun k=>Nat.beq k j)=true from hj);obtain rfl:=Nat.eq_of_beq_eq_true e';have:=List.all_eq_true.1 (List.all_eq_true.1 h _ hk) _ hk';rw [h1,h2] at this;simp only [Nat.beq_refl,Bool.not_true,Bool.or_false] at this;exact Nat.eq_of_beq_eq_true this
section
variable {ρ:Option Nat} {P:Program} {N:Nat} {Q:Exit→Act→World→Prop} {ds:List Deferred} {C:List Nat→Code} {p:List Nat} {l:Sl} {I:Imm} {M0 M F0:Seg}
theorem rdX (al : List (Nat × Nat × Fresh)) (n0 : Nat) (order : List (Nat × Bool)) (hM : M0.Perm (M ++ F0)) (hA : ∀ i d E, BW al i = some (d, E) → AlOk P N (FN (C p)) [] i d E) (h : OFPX P N (FN (C p)) (al.map Prod.fst) F0 (fun l I M => Seq (ρ := ρ) P N (FN (C p)) Q ds n0 l I (M ++ F0)) al [] [] order l I M) (hI : (alInjS (FN (C p)) (al.map Prod.fst) && (asB (al.map Prod.fst) al && knB (FN (C p)) (al.map Prod.fst) al order)) = true := by kernel_rfl)
    (hm:P.follows .mixedOrders=true:=by kernel_rfl) (hc:MC (C p)=true:=by kernel_rfl) (hok:okAllX (al.map Prod.fst) (FN (C p)) n0 order=true:=by kernel_rfl):Run (ρ:=ρ) P N (C p) Q ds l I M0:=by
  obtain ⟨id,hid⟩:=HF hc;simp only [Bool.and_eq_true] at hI;exact fun a w hS hD hW=>run_drawX _ al n0 order hm hid hok hA (asB_spec hI.2.1) (knB_spec hI.2.2) (alInjS_spec hI.1) (fun _ _ h=>by cases h) h a w hS hD (hW.perm hM)
def regB (ops:Array Oper) (L0:Sl):Bool:=L0.all fun x=>(List.range ops.size).any fun k=>dstB ops k x.1
theorem look_mem:∀ (L:Sl) {t:Nat} {u:Value},EE t L=some u→∃ x∈L,x.1=t:=by
  intro L
  induction L with
  | nil=>intro t u h;cases h
  | cons x r ih=>
    intro t u h;rcases x with ⟨k,v⟩
    unfold EE at h;cases hb:Nat.beq k t with
    | true=>exact ⟨_,List.mem_cons_self,Nat.eq_of_beq_eq_true hb⟩
    | false=>
      rw [hb] at h;obtain ⟨y,hy,e⟩:=ih h;exact ⟨y,List.mem_cons_of_mem _ hy,e⟩
theorem regB_spec {ops:Array Oper} {L0:Sl} (h:regB ops L0=true):∀ t u,EE t L0=some u→∃ k,DH ops k=some t:=fun t u ht=>by
  obtain ⟨x,hx,rfl⟩:=look_mem L0 ht;obtain ⟨k,_,hk⟩:=List.any_eq_true.1 (List.all_eq_true.1 h x hx);refine ⟨k,?_⟩;unfold dstB at hk;unfold DH;cases ho:ops[k]? with
  | none=>rw [ho] at hk;cases hk
  | some o=>
    rw [ho] at hk;simp only at hk;cases hd:o.dst with
    | none=>rw [hd] at hk;cases hk
    | some d=>
      rw [hd] at hk;simp only at hk;rw [Nat.eq_of_beq_eq_true hk] at hd
      simpa using hd
theorem rdY (L0 : Sl) (als : List Nat) (al : List (Nat × Nat × Fresh)) (n0 : Nat) (order : List (Nat × Bool)) (hM : M0.Perm (M ++ F0)) (hA : ∀ i d E, BW al i = some (d, E) → AlOk P N (FN (C p)) L0 i d E) (h : OFPX P N (FN (C p)) als F0 (fun l I M => Seq (ρ := ρ) P N (FN (C p)) Q ds n0 l I (M ++ F0)) al L0 [] order l I M) (hI : (alInjS (FN (C p)) als && (asB als al && knB (FN (C p)) als al order)) = true := by kernel_rfl)
    (hm:P.follows .mixedOrders=true:=by kernel_rfl) (hc:MC (C p)=true:=by kernel_rfl) (hok:okAllX als (FN (C p)) n0 order=true:=by kernel_rfl) (hr:regB (FN (C p)) L0=true:=by kernel_rfl):Run (ρ:=ρ) P N (C p) Q ds l I M0:=by
  obtain ⟨id,hid⟩:=HF hc;simp only [Bool.and_eq_true] at hI;exact fun a w hS hD hW=>run_drawX _ al n0 order hm hid hok hA (asB_spec hI.2.1) (knB_spec hI.2.2) (alInjS_spec hI.1) (fun t u ht=>.inl (regB_spec hr t u ht)) h a w hS hD (hW.perm hM)
end
end Go.Sl
namespace Go.Sh
open Go Go.Sl
def Rev {α:Type} (d:α) (xs zs:List α) (k:Nat):Prop:=zs.length=xs.length∧∀ p,p<xs.length→zs.getD p d=if p<k∨xs.length-k≤p then xs.getD (xs.length-1-p) d else xs.getD p d
theorem Rev.start {α:Type} (d:α) (xs:List α):Rev d xs xs 0:=⟨rfl,fun p hp=>by rw [if_neg (by omega)]⟩
end Go.Sh
namespace Go.Sl
open Go
structure Borns (es:Array MapEntry) (cl:Nat):Prop where
  once:(es.toList.map (·.born)).Nodup
  lt:∀ e∈es.toList,e.born<cl
def MapB {κ:Type} (enc:κ→Value) (es:Array MapEntry) (cl:Nat) (kvs:List (κ × Value)):Prop:=MapIs enc es kvs∧Borns es cl
theorem MapB.nil {κ:Type} (enc:κ→Value) (cl:Nat):MapB enc #[] cl []:=⟨rfl,by simp,fun _ h=>by simp at h⟩
theorem Borns.push {es:Array MapEntry} {cl:Nat} (h:Borns es cl) (k v:Value):Borns (es.push { key:=k,val:=v,born:=cl }) (cl+1):=by
  refine ⟨?_,fun e he=>?_⟩
  · simp only [Array.toList_push,List.map_append,List.map_cons,List.map_nil]
    refine List.nodup_append.2 ⟨h.once,by simp,fun a ha b hb=>?_⟩;obtain ⟨e,he,rfl⟩:=List.mem_map.1 ha;simp at hb;subst hb;have:=h.lt e he;omega
  · simp only [Array.toList_push,List.mem_append,List.mem_singleton] at he
    rcases he with he | rfl
    · have:=h.lt e he;omega
    · show cl<cl+1;omega
theorem modify_born (es:Array MapEntry) (j:Nat) (f:MapEntry→MapEntry) (hf:∀ e,(f e).born=e.born):(es.modify j f).toList.map (·.born)=es.toList.map (·.born):=by
  apply List.ext_getElem?
  intro n;simp only [List.getElem?_map,Array.getElem?_toList,Array.getElem?_modify]
  split
  · cases es[n]? <;> simp [hf]
  · rfl
theorem Borns.modify {es:Array MapEntry} {cl:Nat} (h:Borns es cl) (j:Nat) (f:MapEntry→MapEntry) (hf:∀ e,(f e).born=e.born):Borns (es.modify j f) cl:=by
  refine ⟨by rw [modify_born _ _ _ hf];exact h.once,fun e he=>?_⟩;have:e.born∈(es.modify j f).toList.map (·.born):=List.mem_map_of_mem he;rw [modify_born _ _ _ hf] at this;obtain ⟨e',he',e1⟩:=List.mem_map.1 this;rw [← e1];exact h.lt e' he'
def ent {κ:Type} [DecidableEq κ] (k:κ) (z:Value):List (κ × Value)→List (κ × Value)
  | []=>[(k,z)]
  | x::r=>if x.1=k then x::r else x::ent k z r
section
variable {κ:Type} [DecidableEq κ]
theorem getKv_ent (k:κ) (z:Value):∀ kvs:List (κ × Value),(JU k (ent k z kvs)).getD z=(JU k kvs).getD z:=by
  intro kvs
  induction kvs with
  | nil=>simp [ent,JU]
  | cons x r ih=>simp only [ent];split <;> simp_all [JU]
theorem upd_ent (k:κ) (z v:Value):∀ kvs:List (κ × Value),upd k v (ent k z kvs)=upd k v kvs:=by
  intro kvs
  induction kvs with
  | nil=>simp [ent,upd]
  | cons x r ih=>simp only [ent];split <;> simp_all [upd]
theorem findKv_ent (k : κ) (z : Value) : ∀ (kvs : List (κ × Value)) (i : Nat), (match EH k kvs i with
    | some (j,u)=>ent k z kvs=kvs∧EH k (ent k z kvs) i=some (j,u)
    | none=>ent k z kvs=kvs++[(k,z)]∧EH k (ent k z kvs) i=some (i+kvs.length,z)):=by
  intro kvs
  induction kvs with
  | nil=>intro i;simp [EH,ent]
  | cons x r ih=>
    intro i;simp only [EH,ent]
    by_cases h:x.1=k
    · simp [h,EH]
    · simp only [if_neg h]
      have:=ih (i+1);cases hf:EH k r (i+1) with
      | none=>
        rw [hf] at this;obtain ⟨h1,h2⟩:=this;refine ⟨by rw [h1];rfl,?_⟩;show (if x.1=k then some (i,x.2) else EH k (ent k z r) (i+1))=_;rw [if_neg h,h2,List.length_cons];congr 2;omega
      | some p=>
        rw [hf] at this;obtain ⟨h1,h2⟩:=this;refine ⟨by rw [h1],?_⟩;show (if x.1=k then some (i,x.2) else EH k (ent k z r) (i+1))=_;rw [if_neg h,h2]
theorem findKv_lt (k:κ):∀ (kvs:List (κ × Value)) (i j:Nat) (u:Value),EH k kvs i=some (j,u)→i≤j∧j-i<kvs.length∧kvs[j-i]?=some (k,u):=by
  intro kvs
  induction kvs with
  | nil=>intro i j u h;cases h
  | cons x r ih=>
    intro i j u h;simp only [EH] at h
    split at h
    · rename_i e
      cases h;simp [← e]
    · obtain ⟨h1,h2,h3⟩:=ih _ _ _ h
      refine ⟨by omega,by simp;omega,?_⟩;rw [show j-i=(j-(i+1))+1 by omega];simpa using h3
end
theorem key_at {κ:Type} {enc:κ→Value} {es:Array MapEntry} {kvs:List (κ × Value)} (his:MapIs enc es kvs) {j:Nat} {k:κ} {u:Value} (h:kvs[j]?=some (k,u)):∃ e,es[j]?=some e∧e.key=enc k∧e.val=u:=by
  have:=congrArg (fun l=>l[j]?) his;simp only [List.getElem?_map,Array.getElem?_toList,h,Option.map_some,LB] at this;cases he:es[j]? with
  | none=>rw [he] at this;cases this
  | some e=>rw [he] at this;simp only [Option.map_some,Option.some.injEq,Prod.mk.injEq] at this;exact ⟨e,rfl,this.1,this.2⟩
def Stamp {κ:Type} [DecidableEq κ] (es:Array MapEntry) (kvs:List (κ × Value)) (st:Nat) (k:κ):Prop:=∃ j u,EH k kvs 0=some (j,u)∧(es[j]?).map (·.born)=some st
section
variable {ρ:Option Nat} {P:Program} {N:Nat} {ops:Array Oper} {i:Nat} {l:Sl} {I:Imm} {R M:Seg} {d:Nat} {ty:TypeId} {gd:Option (Nat × Bool)} {K:Sl→Imm→Seg→Prop}
variable {κ:Type} [DecidableEq κ] {enc:κ→Value}
theorem set_same {es:Array MapEntry} {j:Nat} {e:MapEntry} (h:es[j]?=some e) {key:Value} (hk:key=e.key):es.modify j (fun e=>{ e with key })=es:=by
  apply Array.ext_getElem?
  intro n;rw [Array.getElem?_modify]
  split
  · rename_i e1;subst e1 hk;rw [h];rfl
  · rfl
theorem PH {a:Value} {Q:Value→Seg→Prop} (h:Q a M):wpL P (Instr.keyThatStays a a) Q I M:=by
  unfold Instr.keyThatStays
  split
  · exact h
  · rw [AF]
    show (if (Question.extern "map.whichKeyStays" 2).forced then _ else ∀ t,_)
    split
    · show Q _ M;split <;> exact h
    · intro t;show Q _ M;split <;> exact h
theorem PE {x y : Operand} {T kt et r cl : Nat} {es : Array MapEntry} {kvs : List (κ × Value)} {k : κ} {z : Value} (n : Nat) (hop : FR ops N i = some (some d, .mapEntry T x y, ty, gd)) (hg : FA ops l gd = some true)
    (hT:PL P T=some (kt,et)) (hK:KeyOk P kt enc) (hx:BS l x=some (.map (some r))) (hy:BS l y=some (enc k)) (hz:HJ P et=some z) (hn:M[n]?=some (r,Obj.map es cl)) (hb:MapB enc es cl kvs)
    (h:∀ es' cl' (st:Nat),MapB enc es' cl' (ent k z kvs)→Stamp es' (ent k z kvs) st k→K ((d,.tuple #[(JU k kvs).getD z,.int .i64 (st:Int)])::l) I (M.set n (r,Obj.map es' cl'))):Stp P N ops i l I M K:=
  CX hop hg (IK hx hy) (by
    obtain ⟨his,hbo⟩:=hb
    show wpL P (Instr.mapEntry T (rho l x) (rho l y) >>= fun x=>pure (Next.value x)) _ I M
    rw [BG hx,BG hy]
    refine EA ?_
    unfold Instr.mapEntry
    rw [AF,AK (JN hT)]
    show wpL P (Sem.getObj r _) _ I M
    refine ⟨_,.inl (List.mem_of_getElem? hn),rfl,?_⟩
    show wpL P (Instr.checkKey _ _ _ _ >>= _) _ I _
    rw [AF]
    refine hK.check _ _ _ _ _ ?_
    rw [AF]
    refine hK.find k es.toList kvs _ _ _ his ?_
    have hf:=findKv_ent k z kvs 0
    have hgk:=findKv_get k kvs 0
    cases hkv:EH k kvs 0 with
    | none=>
      rw [hkv] at hf hgk
      simp only at hf
      simp only [Option.map_none] at hgk
      show wpL P (zeroValue et >>= _) _ I M
      rw [AF,DD hz]
      show wpL P (Sem.setObj r _ _) _ I M
      refine GF n rfl hn rfl ?_
      refine ⟨_,.inl rfl,?_⟩
      have h1:=h (es.push { key:=enc k,val:=z,born:=cl }) (cl+1) cl ⟨by rw [hf.1];exact OB his k z cl,hbo.push _ _⟩ ⟨_,_,hf.2,by
        have hs:=MapIs.size his
        rw [Nat.zero_add,← hs];simp⟩
      rw [← hgk] at h1
      exact h1
    | some p=>
      obtain ⟨j,w⟩:=p
      rw [hkv] at hf hgk
      simp only at hf
      simp only [Option.map_some] at hgk
      obtain ⟨_,_,h3⟩:=findKv_lt k kvs 0 j w hkv
      rw [Nat.sub_zero] at h3
      obtain ⟨e,he,hek,hev⟩:=key_at his h3
      have hold:((es[j]?).map (·.key)).getD (enc k)=enc k:=by rw [he];exact hek
      show wpL P (Instr.keyThatStays (((es[j]?).map (·.key)).getD (enc k)) (enc k) >>= _) _ I M
      rw [AF,hold]
      refine PH ?_
      show wpL P (Sem.setObj r _ _) _ I M
      refine GF n rfl hn rfl ?_
      refine ⟨_,.inl rfl,?_⟩
      rw [set_same he hek.symm]
      have h1:=h es cl e.born ⟨by rw [hf.1];exact his,hbo⟩ ⟨_,_,hf.2,by rw [he];rfl⟩
      rw [← hgk] at h1
      rw [he]
      exact h1)
theorem LP {x y u : Operand} {T r cl st : Nat} {es : Array MapEntry} {kvs : List (κ × Value)} {k : κ} {v : Value} (n : Nat) (hop : FR ops N i = some (none, .entryStore T x y u, ty, gd)) (hg : FA ops l gd = some true)
    (hx:BS l x=some (.map (some r))) (hy:BS l y=some (.int .i64 (st:Int))) (hu:BS l u=some v) (hn:M[n]?=some (r,Obj.map es cl)) (hb:MapB enc es cl kvs) (hst:Stamp es kvs st k)
    (h:∀ es',MapB enc es' cl (upd k v kvs)→K l I (M.set n (r,Obj.map es' cl))):Stp P N ops i l I M K:=
  CX hop hg (known3 hx hy hu) (by
    obtain ⟨his,hbo⟩:=hb
    obtain ⟨j,w,hj,hs⟩:=hst
    show wpL P (Instr.entryStore T (rho l x) (rho l y) (rho l u) >>= fun _=>pure Next.skip) _ I M
    rw [BG hx,BG hy,BG hu,AF]
    unfold Instr.entryStore
    show wpL P (Sem.getObj r _) _ I M
    refine ⟨_,.inl (List.mem_of_getElem? hn),rfl,?_⟩
    obtain ⟨_,_,h3⟩:=findKv_lt k kvs 0 j w hj
    rw [Nat.sub_zero] at h3
    obtain ⟨e,he,hek,hev⟩:=key_at his h3
    rw [he] at hs
    simp only [Option.map_some,Option.some.injEq] at hs
    have hjl:j<es.size:=(Array.getElem?_eq_some_iff.1 he).1
    have hej:es[j]=e:=(Array.getElem?_eq_some_iff.1 he).2
    have hfi:es.findIdx? (fun e=>(e.born:Int) == (st:Int))=some j:=by
      rw [Array.findIdx?_eq_some_iff_getElem]
      refine ⟨hjl,by rw [hej,hs];simp,fun q hq=>?_⟩
      have hne:es[q].born≠st:=fun e1=>by
        have h4:(es.toList.map (·.born))[q]'(by simp;omega)=(es.toList.map (·.born))[j]'(by simpa using hjl):=by simp [e1,hej,hs]
        have:=(List.getElem_inj hbo.once).1 h4
        omega
      simp only [Bool.not_eq_true,beq_eq_false_iff_ne,ne_eq]
      intro e1;exact hne (by omega)
    show wpL P (match es.findIdx? (fun e=>(e.born:Int) == (st:Int)) with
      | some i=>Go.setObj r (.map (es.modify i fun e=>{ e with val:=v }) cl)
      | none=>unsupported (.noEntry "instr/MapEntry.the entry is gone")) _ I M
    rw [hfi]
    show wpL P (Sem.setObj r _ _) _ I M
    refine GF n rfl hn rfl ?_
    refine ⟨undef,.inr ⟨rfl,rfl⟩,h _ ⟨?_,hbo.modify _ _ (fun _=>rfl)⟩⟩
    have hq:=NW k v kvs 0
    rw [hj] at hq
    simp only [Nat.sub_zero] at hq
    rw [hq.2.1]
    have e2:es.modify j (fun e=>{ e with val:=v })=es.modify j (fun e=>{ e with key:=enc k,val:=v }):=by
      apply Array.ext_getElem?
      intro q
      rw [Array.getElem?_modify,Array.getElem?_modify]
      split
      · rename_i e1;subst e1;rw [he];simp [hek]
      · rfl
    rw [e2]
    exact mapIs_set his j k v (enc k) rfl)
end
def KN (seen:Array Nat) (e:MapEntry):Bool:=!seen.contains e.born
def Left {κ:Type} (enc:κ→Value) (es:Array MapEntry) (seen:Array Nat) (todo:List (κ × Value)):Prop:=(es.toList.filter (KN seen)).map (fun e=>(e.key,e.val))=todo.map (LB enc)
def AtEntry {κ:Type} (enc:κ→Value) (es:Array MapEntry) (seen:Array Nat) (x:κ × Value):Prop:=∃ e,e∈es.toList∧seen.back?=some e.born∧e.key=enc x.1∧e.val=x.2
theorem Left.start {κ:Type} {enc:κ→Value} {es:Array MapEntry} {kvs:List (κ × Value)} (h:MapIs enc es kvs):Left enc es #[] kvs:=by
  unfold Left;have:es.toList.filter (KN #[])=es.toList:=List.filter_eq_self.2 fun e _=>by simp [KN]
  rw [this];exact h
theorem born_inj {es:Array MapEntry} {cl:Nat} (h:Borns es cl) {e e':MapEntry} (he:e∈es.toList) (he':e'∈es.toList) (hb:e.born=e'.born):e=e':=by
  obtain ⟨a,ha,rfl⟩:=List.mem_iff_getElem.1 he;obtain ⟨b,hb',rfl⟩:=List.mem_iff_getElem.1 he';have:a=b:=(List.getElem_inj (h₀:=by simpa using ha) (h₁:=by simpa using hb') h.once).1 (by simpa using hb);subst this;rfl
theorem new_push {es:Array MapEntry} {cl:Nat} (h:Borns es cl) {seen:Array Nat} {A B:List MapEntry} {e:MapEntry} (hs:es.toList.filter (KN seen)=A++e::B):es.toList.filter (KN (seen.push e.born))=A++B:=by
  have hnd:(es.toList.map (·.born)).Nodup:=h.once;have hsub:(A++e::B).Sublist es.toList:=by rw [← hs];exact List.filter_sublist
  have hn2:((A++e::B).map (·.born)).Nodup:=(hsub.map _).nodup hnd;have e1:es.toList.filter (KN (seen.push e.born))=(es.toList.filter (KN seen)).filter (fun x=>!(x.born == e.born)):=by
    rw [List.filter_filter];refine List.filter_congr fun x _=>?_
    simp only [KN,Array.contains_push,Bool.not_or];rw [Bool.and_comm]
  rw [e1,hs,List.filter_append,List.filter_cons];rw [List.map_append,List.map_cons] at hn2;have hd:=List.nodup_append.1 hn2;have hd2:=List.nodup_cons.1 hd.2.1;have hA:A.filter (fun x=>!(x.born == e.born))=A:=List.filter_eq_self.2 fun x hx=>by
    have:=hd.2.2 x.born (List.mem_map_of_mem hx) e.born (by simp)
    simpa using this
  have hB:B.filter (fun x=>!(x.born == e.born))=B:=List.filter_eq_self.2 fun x hx=>by
    have:x.born≠e.born:=fun e2=>hd2.1 (by rw [← e2];exact List.mem_map_of_mem hx)
    simpa using this
  rw [hA,hB];simp
section
variable {P:Program} {N:Nat} {ops:Array Oper} {i:Nat} {l:Sl} {I:Imm} {R M:Seg} {d:Nat} {ty:TypeId} {gd:Option (Nat × Bool)} {K:Sl→Imm→Seg→Prop}
theorem stp_range {x : Operand} {T kt et r cl : Nat} {es : Array MapEntry} (hop : FR ops N i = some (some d, .range T x, ty, gd)) (hg : FA ops l gd = some true) (hT : PL P T = some (kt, et)) (hx : BS l x = some (.map (some r))) (hm : Holds I M r (.map es cl))
    (h:∀ b,K ((d,.pointer (some ⟨b,0,none⟩))::l) I ((b,Obj.mapIter (some r) cl #[] cl)::M)):Stp P N ops i l I M K:=
  CX hop hg (MW hx) (by
    show wpL P (Instr.range T (rho l x) >>= fun x=>pure (Next.value x)) _ I M
    rw [BG hx]
    refine EA ?_
    unfold Instr.range
    rw [AF,AK (JN hT)]
    show wpL P (Sem.getObj r _) _ I M
    exact ⟨_,hm,rfl,fun b=>⟨_,.inl rfl,h b⟩⟩)
theorem stp_next {κ : Type} {enc : κ → Value} {x : Operand} {r cl b : Nat} {es : Array MapEntry} {seen : Array Nat} {todo : List (κ × Value)} (n : Nat) (hop : FR ops N i = some (some d, .next x false, ty, gd)) (hg : FA ops l gd = some true)
    (hx:BS l x=some (.pointer (some ⟨b,0,none⟩))) (hn:M[n]?=some (b,Obj.mapIter (some r) cl seen cl)) (hm:Holds I M r (.map es cl)) (hb:Borns es cl) (hl:Left enc es seen todo)
    (h0:todo=[]→K ((d,.tuple #[.bool false])::l) I M)
    (h1:∀ A y B seen',todo=A++y::B→Left enc es seen' (A++B)→AtEntry enc es seen' y→K ((d,.tuple #[.bool true,enc y.1,y.2])::l) I (M.set n (b,Obj.mapIter (some r) cl seen' cl))):Stp P N ops i l I M K:=
  CX hop hg (MW hx) (by
    show wpL P (Instr.next (rho l x) false ty >>= fun x=>pure (Next.value x)) _ I M
    rw [BG hx]
    refine EA ?_
    unfold Instr.next
    show wpL P (Sem.getObj b _) _ I M
    refine ⟨_,.inl (List.mem_of_getElem? hn),rfl,?_⟩
    show wpL P (Sem.getObj r _) _ I M
    refine ⟨_,hm,rfl,?_⟩
    have hc:(!seen.isEmpty&&!es.isEmpty&&es.all (fun (e:MapEntry)=>decide (e.born≥cl)))=false:=by
      rcases Nat.eq_zero_or_pos es.size with hz | hz
      · have:es.isEmpty=true:=by simpa [Array.isEmpty] using hz
        rw [this];simp
      · have : es.all (fun (e : MapEntry) => decide (e.born ≥ cl)) = false := by
          rw [Array.all_eq_false]
          refine ⟨0,hz,?_⟩
          have:=hb.lt es[0] (by simp)
          simp;omega
        rw [this];simp
    show wpL P (if (!seen.isEmpty&&!es.isEmpty&&es.all (fun (e:MapEntry)=>decide (e.born≥cl)))=true then _ else _) _ I M
    rw [hc]
    simp only [Bool.false_eq_true,if_false]
    have hold:(es.filter (KN seen)).filter (fun (e:MapEntry)=>decide (e.born<cl))=es.filter (KN seen):=by
      rw [Array.filter_eq_self];intro e he
      have:=hb.lt e (by simpa using (Array.mem_filter.1 he).1);simpa using this
    have hnew:(es.filter (KN seen)).filter (fun (e:MapEntry)=>decide (e.born≥cl))=#[]:=by
      rw [Array.filter_eq_empty_iff];intro e he
      have:=hb.lt e (by simpa using (Array.mem_filter.1 he).1);simp;omega
    have e0:(fun e:MapEntry=>!seen.contains e.born)=KN seen:=rfl
    rw [e0]
    rw [hold,hnew,Array.append_empty]
    have hfl:(es.filter (KN seen)).toList=es.toList.filter (KN seen):=by simp
    generalize hL:es.filter (KN seen)=L at hfl
    have take : ∀ (q : Nat), q < L.size → wpL P (match (L.map some)[q]? with
        | some (some e)=>(do
          Go.setObj b (.mapIter (some r) cl (seen.push e.born) cl)
          pure (Value.tuple #[.bool true,e.key,e.val]))
        | some none=>pure (.tuple #[.bool false])
        | none=>stuck "Next: no such candidate") (fun v M'=>∃ u,(Next.value v=.value u∨(Next.value v=.skip∧u=undef))∧K ((d,u)::l) I M') I M:=fun q hq=>by
      have hget:(L.map some)[q]?=some (some L[q]):=by simp [hq]
      rw [hget]
      have hsp:es.toList.filter (KN seen)=L.toList.take q++L[q]::L.toList.drop (q+1):=by
        rw [← hfl]
        have:=List.drop_eq_getElem_cons (l:=L.toList) (i:=q) (by simpa using hq)
        rw [show L[q]=L.toList[q]'(by simpa using hq) from by simp,← this,List.take_append_drop]
      have hl2:(L.toList.take q++L[q]::L.toList.drop (q+1)).map (fun e=>(e.key,e.val))=todo.map (LB enc):=by rw [← hsp];exact hl
      have hlen:todo.length=L.size:=by
        have:=congrArg List.length hl2
        simp only [List.length_map,List.length_append,List.length_take,List.length_cons,List.length_drop,Array.length_toList] at this
        omega
      have hspt:todo=todo.take q++todo[q]'(by omega)::todo.drop (q+1):=by
        have:=List.drop_eq_getElem_cons (l:=todo) (i:=q) (by omega)
        rw [← this,List.take_append_drop]
      rw [hspt,List.map_append,List.map_append,List.map_cons,List.map_cons] at hl2
      have hk:(L.toList.take q).map (fun e=>(e.key,e.val))=(todo.take q).map (LB enc)∧(L[q].key,L[q].val)::(L.toList.drop (q+1)).map (fun e=>(e.key,e.val))=LB enc (todo[q]'(by omega))::(todo.drop (q+1)).map (LB enc):=
        List.append_inj hl2 (by simp;omega)
      obtain ⟨k1,k2⟩:=hk
      simp only [List.cons.injEq,LB,Prod.mk.injEq] at k2
      obtain ⟨⟨k3,k4⟩,k5⟩:=k2
      have hmem:L[q]∈es.toList:=by
        have:L[q]∈es.toList.filter (KN seen):=by rw [hsp];simp
        exact (List.mem_filter.1 this).1
      show wpL P (Sem.setObj b _ _) _ I M
      refine GF n rfl hn rfl ?_
      refine ⟨_,.inl rfl,?_⟩
      rw [k3,k4]
      refine h1 (todo.take q) (todo[q]'(by omega)) (todo.drop (q+1)) (seen.push L[q].born) hspt ?_ ⟨L[q],hmem,by simp,k3,k4⟩
      unfold Left
      rw [new_push hb hsp,List.map_append,List.map_append,k1,k5]
    by_cases hz:L.size=0
    · have hLe:L=#[]:=Array.size_eq_zero_iff.1 hz
      subst hLe
      have ht:todo=[]:=by
        unfold Left at hl
        rw [← hfl] at hl
        simpa using hl.symm
      have:((if (#[]:Array MapEntry).isEmpty=true then #[none] else #[])++Array.map some (#[]:Array MapEntry))=#[none]:=by simp
      rw [this,AF]
      show (if (Question.mapNext 1).forced=true then _ else _)
      rw [if_pos (by decide)]
      exact ⟨_,.inl rfl,h0 ht⟩
    · have : ((if L.isEmpty = true then #[none] else #[]) ++ Array.map some L) = L.map some := by
        have:L.isEmpty=false:=by simpa [Array.isEmpty] using hz
        rw [this];simp
      rw [this,AF,Array.size_map]
      show (if (Question.mapNext L.size).forced=true then _ else ∀ t,_)
      split
      · exact take 0 (by omega)
      · intro t
        exact take (t%L.size) (Nat.mod_lt _ (by omega)))
theorem stp_entry {κ : Type} {enc : κ → Value} {x : Operand} {r cl b : Nat} {es : Array MapEntry} {seen : Array Nat} {y : κ × Value} (hop : FR ops N i = some (some d, .entry x, ty, gd)) (hg : FA ops l gd = some true)
    (hx:BS l x=some (.pointer (some ⟨b,0,none⟩))) (hn:(b,Obj.mapIter (some r) cl seen cl)∈M) (hm:Holds I M r (.map es cl)) (hb:Borns es cl) (ha:AtEntry enc es seen y)
    (h:K ((d,.tuple #[enc y.1,y.2])::l) I M):Stp P N ops i l I M K:=
  CX hop hg (MW hx) (by
    obtain ⟨e,he,hbk,k1,k2⟩:=ha
    show wpL P (Instr.entry (rho l x) >>= fun x=>pure (Next.value x)) _ I M
    rw [BG hx]
    refine EA ?_
    unfold Instr.entry
    show wpL P (Sem.getObj b _) _ I M
    refine ⟨_,.inl hn,rfl,?_⟩
    dsimp only [Sem.bind]
    rw [hbk]
    show wpL P (Sem.getObj r _) _ I M
    refine ⟨_,hm,rfl,?_⟩
    dsimp only [Sem.bind]
    rw [if_neg (by simp)]
    have hf:es.find? (fun x=>x.born == e.born)=some e:=by
      rw [← Array.find?_toList]
      cases hq:es.toList.find? (fun x=>x.born == e.born) with
      | none=>have:=List.find?_eq_none.1 hq e he;simp at this
      | some e'=>
        have h1:=List.find?_some hq;have h2:=List.mem_of_find?_eq_some hq
        rw [born_inj hb h2 he (by simpa using h1)]
    rw [hf]
    refine ⟨_,.inl rfl,?_⟩
    rw [k1,k2];exact h)
end
end Go.Sl
namespace Go.Sh
open Go Go.Sl
def hkCells (k:HKey):Array Value:=#[.int .i64 k.pl,.int .i64 k.so,.bool k.soil]
def KV (k:HKey):Value:=.agg (hkCells k)
def flatH:List (Nat × SK):=[(0,.i .i64),(1,.i .i64),(2,.b)]
theorem BF {P:Program} {kt:TypeId} (h:JT P 4 kt=some (3,flatH)) (hagg:DY P kt=some true):KeyOk P kt KV:=
  keyOk_flat h (by decide) hagg hkCells (fun _=>rfl) (fun _=>rfl) (fun a b=>by
    obtain ⟨a1,a2,a3⟩:=a;obtain ⟨b1,b2,b3⟩:=b
    show ((a1 == b1)&&((a2 == b2)&&((a3 == b3)&&true)))=decide ((⟨a1,a2,a3⟩:HKey)=⟨b1,b2,b3⟩)
    simp only [Bool.and_true,HKey.mk.injEq,Bool.decide_and];rfl)
def intV (h:Hs):List (HKey × Value):=h.map fun x=>(x.1,.int .i64 x.2)
theorem BL (k:HKey) (h:Hs):(JU k (intV h)).getD (.int .i64 0)=.int .i64 (AX k h):=by
  induction h with
  | nil=>rfl
  | cons x r ih => simp only [intV, List.map_cons, JU, AX] at ih ⊢; split; · rfl
                   · exact ih
theorem upd_intV (k:HKey) (v:Int) (h:Hs):upd k (.int .i64 v) (intV h)=intV (HI k v h):=by
  induction h with
  | nil=>rfl
  | cons x r ih => simp only [intV, List.map_cons, upd, HI] at ih ⊢; split; · rfl
                   · rw [ih];rfl
end Go.Sh
namespace Go.Sl
open Go
def LkPr {κ:Type} [DecidableEq κ] (r:Nat) (enc:κ→Value) (k:κ) (z v:Value):Seg→Prop:=fun X=>∃ es cl kvs,X=[(r,Obj.map es cl)]∧MapIs enc es kvs∧(JU k kvs).getD z=v
section
variable {P:Program} {N:Nat} {ops:Array Oper} {i:Nat} {l:Sl} {I:Imm} {d:Nat} {ty:TypeId} {gd:Option (Nat × Bool)} {κ:Type} [DecidableEq κ] {enc:κ→Value}
theorem EO {x y : Operand} {T kt et r : Nat} {k : κ} {z v : Value} (hop : FR ops N i = some (some d, .lookup T x y false, ty, gd)) (hg : FA ops l gd = some true)
    (hT:PL P T=some (kt,et)) (hK:KeyOk P kt enc) (hx:BS l x=some (.map (some r))) (hy:BS l y=some (enc k)) (hz:HJ P et=some z):∀ X,LkPr r enc k z v X→Det P N ops i l I X d v:=by
  rintro X ⟨es,cl,kvs,rfl,h1,h2⟩
  exact GU (cl:=cl) hop hg hT hK hx hy hz (.inl (by simp)) h1 h2
theorem JW {r cl:Nat} {es:Array MapEntry} {kvs:List (κ × Value)} {k:κ} {z v:Value} (h:MapB enc es cl kvs) (hv:(JU k kvs).getD z=v):LkPr r enc k z v [(r,Obj.map es cl)]:=⟨es,cl,kvs,rfl,h.1,hv⟩
theorem HL {r cl:Nat} {es:Array MapEntry} {kvs:List (κ × Value)} {k k':κ} {z v:Value} (h:MapB enc es cl (ent k z kvs)) (hk:k'=k) (hv:(JU k' kvs).getD z=v):LkPr r enc k' z v [(r,Obj.map es cl)]:=⟨es,cl,_,rfl,h.1,by subst hk;rw [getKv_ent];exact hv⟩
end
section
variable {P:Program} {N:Nat} {ops:Array Oper} {i:Nat} {l:Sl} {I:Imm} {M:Seg} {ty:TypeId} {gd:Option (Nat × Bool)} {K:Sl→Imm→Seg→Prop} {κ:Type} [DecidableEq κ] {enc:κ→Value}
theorem LQ {x y u : Operand} {T kt et r cl : Nat} {es : Array MapEntry} {kvs : List (κ × Value)} {k : κ} {v : Value} (n : Nat) (hop : FR ops N i = some (none, .mapUpdate T x y u, ty, gd)) (hg : FA ops l gd = some true)
    (hT:PL P T=some (kt,et)) (hK:KeyOk P kt enc) (hx:BS l x=some (.map (some r))) (hy:BS l y=some (enc k)) (hu:BS l u=some v) (hn:M[n]?=some (r,Obj.map es cl)) (hb:MapB enc es cl kvs)
    (h:∀ es' cl',MapB enc es' cl' (upd k v kvs)→K l I (M.set n (r,Obj.map es' cl'))):Stp P N ops i l I M K:=
  CX hop hg (known3 hx hy hu) (by
    obtain ⟨his,hbo⟩:=hb
    show wpL P (Instr.mapUpdate T (rho l x) (rho l y) (rho l u) >>= fun _=>pure Next.skip) _ I M
    rw [BG hx,BG hy,BG hu,AF]
    unfold Instr.mapUpdate
    rw [AF,AK (JN hT)]
    show wpL P (Sem.getObj r _) _ I M
    refine ⟨_,.inl (List.mem_of_getElem? hn),rfl,?_⟩
    show wpL P (Instr.checkKey _ _ _ _ >>= _) _ I _
    rw [AF]
    refine hK.check _ _ _ _ _ ?_
    rw [AF]
    refine hK.find k es.toList kvs _ _ _ his ?_
    have hf:=NW k v kvs 0
    cases hkv:EH k kvs 0 with
    | none=>
      rw [hkv] at hf
      simp only at hf
      show wpL P (Sem.setObj r _ _) _ I M
      refine GF n rfl hn rfl ?_
      refine ⟨undef,.inr ⟨rfl,rfl⟩,h _ _ ⟨?_,hbo.push _ _⟩⟩
      rw [hf.1]
      exact OB his k v cl
    | some p=>
      obtain ⟨j,w⟩:=p
      rw [hkv] at hf
      simp only [Nat.sub_zero] at hf
      obtain ⟨_,h1,_,h2⟩:=hf
      obtain ⟨_,_,h3⟩:=findKv_lt k kvs 0 j w hkv
      rw [Nat.sub_zero] at h3
      obtain ⟨e,he,hek,hev⟩:=key_at his h3
      have hold:((es[j]?).map (·.key)).getD (enc k)=enc k:=by rw [he];exact hek
      show wpL P (Instr.keyThatStays (((es[j]?).map (·.key)).getD (enc k)) (enc k) >>= _) _ I M
      rw [AF,hold]
      refine PH ?_
      show wpL P (Sem.setObj r _ _) _ I M
      refine GF n rfl hn rfl ?_
      refine ⟨undef,.inr ⟨rfl,rfl⟩,h _ _ ⟨?_,hbo.modify _ _ (fun _=>rfl)⟩⟩
      rw [h1]
      exact mapIs_set his j k v _ rfl)
end
end Go.Sl
namespace Go.Sh
open Go Go.Sl
def MapH (es:Array MapEntry) (cl:Nat) (H:Hs):Prop:=MapB KV es cl (intV H)∧(H.map Prod.fst).Nodup
def EntH (es:Array MapEntry) (cl:Nat) (H:Hs) (k:HKey) (st:Nat):Prop:=MapB KV es cl (ent k (.int .i64 0) (intV H))∧Stamp es (ent k (.int .i64 0) (intV H)) st k∧(H.map Prod.fst).Nodup
theorem MapH.nil (cl:Nat):MapH #[] cl []:=⟨MapB.nil _ _,by simp⟩
theorem putH_keys (k:HKey) (v:Int):∀ H:Hs,(HI k v H).map Prod.fst=if k∈H.map Prod.fst then H.map Prod.fst else H.map Prod.fst++[k]:=by
  intro H
  induction H with
  | nil=>rfl
  | cons x r ih=>
    simp only [HI]
    by_cases h:x.1=k
    · simp [h]
    · rw [if_neg h]
      simp only [List.map_cons,ih,List.mem_cons,Ne.symm h,false_or]
      split <;> simp
theorem putH_once {k:HKey} {v:Int} {H:Hs} (h:(H.map Prod.fst).Nodup):((HI k v H).map Prod.fst).Nodup:=by
  rw [putH_keys]
  split
  · exact h
  · rename_i hk
    exact List.nodup_append.2 ⟨h,by simp,fun a ha b hb=>by
      simp only [List.mem_singleton] at hb
      intro e;rw [e,hb] at ha;exact hk ha⟩
theorem getH_mem {H:Hs} (h:(H.map Prod.fst).Nodup) {x:HKey × Int} (hx:x∈H):AX x.1 H=x.2:=by
  induction H with
  | nil=>cases hx
  | cons y r ih=>
    rw [List.map_cons,List.nodup_cons] at h;simp only [AX];rcases List.mem_cons.1 hx with rfl | hx
    · rw [if_pos rfl]
    · rw [if_neg (fun e=>h.1 (by rw [e];exact List.mem_map_of_mem hx)),ih h.2 hx]
theorem mem_getH {H:Hs} {k:HKey} (h:AX k H≠0):(k,AX k H)∈H:=by
  induction H with
  | nil=>exact absurd rfl h
  | cons y r ih=>
    simp only [AX] at h ⊢
    by_cases e:y.1=k
    · rw [if_pos e];subst e;exact List.mem_cons_self
    · rw [if_neg e] at h ⊢;exact List.mem_cons_of_mem _ (ih h)
theorem falls_iff {h g:Hs} (hg:(g.map Prod.fst).Nodup):falls h g=true↔∃ k,AX k g<0∧0≤AX k h:=by
  unfold falls;simp only [List.any_eq_true,Bool.and_eq_true,decide_eq_true_eq]
  constructor
  · rintro ⟨x,hx,h1,h2⟩;exact ⟨x.1,by rw [getH_mem hg hx];exact h1,h2⟩
  · rintro ⟨k,h1,h2⟩;exact ⟨_,mem_getH (by omega),h1,h2⟩
def Negs (ks:List HKey) (H:Hs):Prop:=∀ k,k∈ks↔AX k H<0
end Go.Sh
namespace Go.Sl
open Go Go.Sh
section
variable {P:Program} {N:Nat} {ops:Array Oper} {i:Nat} {l:Sl} {I:Imm} {M:Seg} {ty:TypeId} {gd:Option (Nat × Bool)} {K:Sl→Imm→Seg→Prop} {d:Nat}
theorem stp_putH {x y u : Operand} {T kt et r cl : Nat} {es : Array MapEntry} {H : Hs} {k : HKey} {v : Int} (n : Nat) (hop : FR ops N i = some (none, .mapUpdate T x y u, ty, gd)) (hg : FA ops l gd = some true)
    (hT:PL P T=some (kt,et)) (hK:KeyOk P kt KV) (hx:BS l x=some (.map (some r))) (hy:BS l y=some (KV k)) (hu:BS l u=some (.int .i64 v)) (hn:M[n]?=some (r,Obj.map es cl)) (hb:MapH es cl H)
    (h:∀ es' cl',MapH es' cl' (HI k v H)→K l I (M.set n (r,Obj.map es' cl'))):Stp P N ops i l I M K:=
  LQ n hop hg hT hK hx hy hu hn hb.1 fun es' cl' h'=>h es' cl' ⟨upd_intV k v H▸h',putH_once hb.2⟩
theorem IU {x y : Operand} {T kt et r cl : Nat} {es : Array MapEntry} {H : Hs} {k : HKey} (n : Nat) (hop : FR ops N i = some (some d, .mapEntry T x y, ty, gd)) (hg : FA ops l gd = some true)
    (hT:PL P T=some (kt,et)) (hK:KeyOk P kt KV) (hx:BS l x=some (.map (some r))) (hy:BS l y=some (KV k)) (hz:HJ P et=some (.int .i64 0)) (hn:M[n]?=some (r,Obj.map es cl)) (hb:MapH es cl H)
    (h:∀ es' cl' (st:Nat),EntH es' cl' H k st→K ((d,.tuple #[.int .i64 (AX k H),.int .i64 (st:Int)])::l) I (M.set n (r,Obj.map es' cl'))):Stp P N ops i l I M K:=
  PE n hop hg hT hK hx hy hz hn hb.1 fun es' cl' st h1 h2=>by
    rw [BL];exact h es' cl' st ⟨h1,h2,hb.2⟩
theorem HH {x y u : Operand} {T r cl st : Nat} {es : Array MapEntry} {H : Hs} {k : HKey} {v : Int} (n : Nat) (hop : FR ops N i = some (none, .entryStore T x y u, ty, gd)) (hg : FA ops l gd = some true)
    (hx:BS l x=some (.map (some r))) (hy:BS l y=some (.int .i64 (st:Int))) (hu:BS l u=some (.int .i64 v)) (hn:M[n]?=some (r,Obj.map es cl)) (hb:EntH es cl H k st)
    (h:∀ es',MapH es' cl (HI k v H)→K l I (M.set n (r,Obj.map es' cl))):Stp P N ops i l I M K:=
  LP (k:=k) n hop hg hx hy hu hn hb.1 hb.2.1 fun es' h'=>h es' ⟨by rw [upd_ent,upd_intV] at h';exact h',putH_once hb.2.2⟩
theorem map_cut {α β:Type} {f:α→β} {l:List α} {A B:List β} {y:β} (h:l.map f=A++y::B):∃ A' y' B',l=A'++y'::B'∧A=A'.map f∧y=f y'∧B=B'.map f:=by
  obtain ⟨A',R,rfl,h1,h2⟩:=List.map_eq_append_iff.1 h;obtain ⟨y',B',rfl,h3,h4⟩:=List.map_eq_cons_iff.1 h2;exact ⟨A',y',B',rfl,h1.symm,h3.symm,h4.symm⟩
theorem stp_nextH {x : Operand} {r cl b : Nat} {es : Array MapEntry} {seen : Array Nat} {todo : Hs} (n : Nat) (hop : FR ops N i = some (some d, .next x false, ty, gd)) (hg : FA ops l gd = some true)
    (hx:BS l x=some (.pointer (some ⟨b,0,none⟩))) (hn:M[n]?=some (b,Obj.mapIter (some r) cl seen cl)) (hm:Holds I M r (.map es cl)) (hb:Borns es cl) (hl:Left KV es seen (intV todo))
    (h0:todo=[]→K ((d,.tuple #[.bool false])::l) I M)
    (h1:∀ A (y:HKey × Int) B seen',todo=A++y::B→Left KV es seen' (intV (A++B))→AtEntry KV es seen' (y.1,.int .i64 y.2)→K ((d,.tuple #[.bool true,KV y.1,.int .i64 y.2])::l) I (M.set n (b,Obj.mapIter (some r) cl seen' cl))):Stp P N ops i l I M K:=
  stp_next n hop hg hx hn hm hb hl (fun h=>h0 (by simpa [intV] using h)) fun A y B seen' e hl' ha=>by
    obtain ⟨A',y',B',rfl,rfl,rfl,rfl⟩:=map_cut (show todo.map _=A++y::B from e);exact h1 A' y' B' seen' rfl (by simpa [intV] using hl') ha
theorem stp_nextK {x : Operand} {r cl b : Nat} {es : Array MapEntry} {seen : Array Nat} {todo : List HKey} (n : Nat) (hop : FR ops N i = some (some d, .next x false, ty, gd)) (hg : FA ops l gd = some true)
    (hx:BS l x=some (.pointer (some ⟨b,0,none⟩))) (hn:M[n]?=some (b,Obj.mapIter (some r) cl seen cl)) (hm:Holds I M r (.map es cl)) (hb:Borns es cl) (hl:Left KV es seen (LH todo))
    (h0:todo=[]→K ((d,.tuple #[.bool false])::l) I M)
    (h1:∀ A (y:HKey) B seen',todo=A++y::B→Left KV es seen' (LH (A++B))→AtEntry KV es seen' (y,.bool true)→K ((d,.tuple #[.bool true,KV y,.bool true])::l) I (M.set n (b,Obj.mapIter (some r) cl seen' cl))):Stp P N ops i l I M K:=
  stp_next n hop hg hx hn hm hb hl (fun h=>h0 (by simpa [LH] using h)) fun A y B seen' e hl' ha=>by
    obtain ⟨A',y',B',rfl,rfl,rfl,rfl⟩:=map_cut (show todo.map _=A++y::B from e);exact h1 A' y' B' seen' rfl (by simpa [LH] using hl') ha
theorem stp_setTrue {x y u : Operand} {T kt et r cl : Nat} {es : Array MapEntry} {ks : List HKey} {k : HKey} (n : Nat) (hop : FR ops N i = some (none, .mapUpdate T x y u, ty, gd)) (hg : FA ops l gd = some true)
    (hT:PL P T=some (kt,et)) (hK:KeyOk P kt KV) (hx:BS l x=some (.map (some r))) (hy:BS l y=some (KV k)) (hu:BS l u=some (.bool true)) (hn:M[n]?=some (r,Obj.map es cl)) (hb:MapB KV es cl (LH ks))
    (h:∀ es' cl',MapB KV es' cl' (LH (if k∈ks then ks else ks++[k]))→K l I (M.set n (r,Obj.map es' cl'))):Stp P N ops i l I M K:=
  LQ n hop hg hT hK hx hy hu hn hb fun es' cl' h'=>h es' cl' (by rw [upd_trues] at h';exact h')
end
end Go.Sl
namespace Go.Sh
open Go Go.Sl
def IsBook (T:TypeId) (I:Imm) (b:Nat) (v1 v2 v3:Value) (r:Nat) (L:Lin):Prop:=
  I.blk b=some (Obj.cells #[.int .i64 L.places,.int .i64 L.sorts,v1,v2,v3,.map (some r)] T (0,0))∧IsRows I v1 L.start∧HS I v2 L.keeps∧JP I v3 L.slips
theorem IsBook.mono {T:TypeId} {I J:Imm} {b:Nat} {v1 v2 v3:Value} {r:Nat} {L:Lin} (h:IsBook T I b v1 v2 v3 r L) (le:I.le J):IsBook T J b v1 v2 v3 r L:=
  ⟨le.blk _ _ h.1,h.2.1.mono le,h.2.2.1.mono le,h.2.2.2.mono le⟩
def NegP (ks:List HKey) (dn:Hs):Prop:=∀ k,k∈ks↔∃ x∈dn,x.1=k∧x.2<0
section
variable {ks:List HKey} {dn A B todo H:Hs} {y:HKey × Int}
theorem NegP.nil:NegP [] []:=fun k=>by simp
theorem NegP.skip (h:NegP ks dn) (hy:¬ y.2<0):NegP ks (dn++[y]):=fun k=>by
  rw [h k]
  constructor
  · rintro ⟨x,hx,h1⟩;exact ⟨x,by simp [hx],h1⟩
  · rintro ⟨x,hx,h1,h2⟩
    rcases List.mem_append.1 hx with hx | hx
    · exact ⟨x,hx,h1,h2⟩
    · simp only [List.mem_singleton] at hx;subst hx;exact absurd h2 hy
theorem NegP.add (h:NegP ks dn) (hy:y.2<0):NegP (if y.1∈ks then ks else ks++[y.1]) (dn++[y]):=fun k=>by
  have e:k∈(if y.1∈ks then ks else ks++[y.1])↔k∈ks∨k=y.1:=by
    split
    · rename_i hk;exact ⟨.inl,fun q=>q.elim id (fun e=>e▸hk)⟩
    · simp
  rw [e,h k]
  constructor
  · rintro (⟨x,hx,h1⟩ | rfl)
    · exact ⟨x,by simp [hx],h1⟩
    · exact ⟨y,by simp,rfl,hy⟩
  · rintro ⟨x,hx,h1,h2⟩
    rcases List.mem_append.1 hx with hx | hx
    · exact .inl ⟨x,hx,h1,h2⟩
    · simp only [List.mem_singleton] at hx;subst hx;exact .inr h1.symm
theorem perm_took (h:(dn++todo).Perm H) (e:todo=A++y::B):((dn++[y])++(A++B)).Perm H:=by
  subst e;refine List.Perm.trans ?_ h;rw [List.append_assoc];exact List.Perm.append_left _ (List.perm_middle (l₁:=A)).symm
theorem took_len (e:todo=A++y::B):(A++B).length<todo.length:=by subst e;simp
theorem NegP.done (h:NegP ks dn) (hp:(dn++todo).Perm H) (he:todo=[]) (hn:(H.map Prod.fst).Nodup):Negs ks H:=fun k=>by
  subst he;rw [List.append_nil] at hp;rw [h k]
  constructor
  · rintro ⟨x,hx,rfl,h2⟩;rw [getH_mem hn (hp.mem_iff.1 hx)];exact h2
  · intro hk;exact ⟨_,hp.mem_iff.2 (mem_getH (by omega)),rfl,hk⟩
end
end Go.Sh
namespace Go.Sl
open Go
def IterP {α:Type} (P:Program) (gf:FuncId) (cv:List Value) (enc:α→List Value) (seq:List α) (R:List α→Imm→Seg→Prop) (I0:Imm):Prop:=
  ∀ (L:Nat) (Cl Sp:List α→Imm→Seg→Prop),(∀ xs I J M,I.le J→Cl xs I M→Cl xs J M) →
    (∀ xs x I Mr M,(xs++[x]) <+: seq→I0.le I→R (xs++[x]) I Mr→Cl xs I M→Yt P L (enc x).toArray I (Mr++M) (fun v I' M'=>(v=.bool true∧∃ Mr' M2,M'=Mr'++M2∧R (xs++[x]) I' Mr'∧Cl (xs++[x]) I' M2)∨(v=.bool false∧Sp (xs++[x]) I' M'))) →
    ∀ I Mr M,I0.le I→R [] I Mr→Cl [] I M→Ct P gf (.func (.yield L) #[] #[]::cv).toArray I (Mr++M) (fun _ I' M'=>(∃ Mr' M2,M'=Mr'++M2∧R seq I' Mr'∧Cl seq I' M2)∨(∃ xs,Sp xs I' M'))
section
variable {ρ:Option Nat} {P:Program} {N:Nat} {ops:Array Oper} {i:Nat} {l:Sl} {I:Imm} {R M:Seg} {ty:TypeId} {gd:Option (Nat × Bool)} {K:Sl→Imm→Seg→Prop} {Q:Exit→Act→World→Prop} {ds:List Deferred}
theorem FT {α : Type} {c : Code} {g : Operand} {ps : Array Tmp} {assign body : Code} {gf : FuncId} {cv : List Value} {enc : α → List Value} {seq : List α} {R : List α → Imm → Seg → Prop} {Mr M0 F0 : Seg}
    (Cl:List α→Imm→Seg→Prop) (Sp:Code→List α→Imm→Seg→Prop) (sl:α→Nat→Sl) (mm:α→Nat→Seg)
    (hc:c=.rangeFunc g ps assign body) (hg:BS l g=some (.func (.func gf) #[] cv.toArray)) (hcall:DA P gf=true) (hps:∀ x,(enc x).length=ps.size) (hpN:ps.all (fun t=>Nat.blt t N)=true)
    (it:IterP P gf cv enc seq R I)
    (hmono:∀ xs I J M,I.le J→Cl xs I M→Cl xs J M)
    (hM:M.Perm (Mr++(M0++F0))) (hr:R [] I Mr) (h0:Cl [] I M0)
    (hassign:∀ L x I1 M1,Run (ρ:=some L) P N assign (Exit.then (fun a w=>∃ k,Slots N (sl x k) a∧a.defers=[]∧St I1 (mm x k++M1) w) (fun _ _ _=>False)) [] (putAll (ps.toList.zip (enc x)) l) I1 M1)
    (hbody:∀ L x k xs I1 Mr1 M1 F1,(xs++[x]) <+: seq→I.le I1→R (xs++[x]) I1 Mr1→Cl xs I1 M1 →
      Run (ρ:=some L) P N body (RoundQ I1 (fun o I' M'=>match o with | none=>∃ Mr' M2,M'=Mr'++M2∧R (xs++[x]) I' Mr'∧Cl (xs++[x]) I' M2 | some c=>Sp c (xs++[x]) I' M') F1) [] (sl x k) I1 (mm x k++(Mr1++(M1++F1))))
    (hdone:∀ D I' Mr' M',I.le I'→R seq I' Mr'→Cl seq I' M'→Pst N Q .normal (mark D::ds) l I' ((D,.deferred (some []))::(Mr'++(M'++F0))))
    (hstop:∀ D c xs I' M',I.le I'→Sp c xs I' M'→Run (ρ:=none) P N c Q (mark D::ds) l I' ((D,.deferred (some []))::(M'++F0))) :
    Run (ρ:=none) P N c Q ds l I M:=by
  subst hc;intro a w hS hD hW;refine wpIn_rangeFunc fun fn _=>?_
  obtain ⟨rec,hrec⟩:∃ rec:LoopState→Option Code→Loop,rec=fun st pe=>{ state:=st,pending:=pe,fn,tmps:=a.tmps,params:=ps,assign,body,defers:=w.heap.size }:=⟨_,rfl⟩
  have hW2:St I ((w.heap.size+1,.loop (rec .ready none))::(w.heap.size,.deferred (some []))::(Mr++(M0++F0))) ((w.alloc (.deferred (some []))).alloc (.loop (rec .ready none))):=by
    have h1:=(hW.perm hM).new (.deferred (some []));have h2:=h1.new (.loop (rec .ready none));have e:(w.heap.push (Obj.deferred (some []))).size=w.heap.size+1:=by simp
    rw [e] at h2;exact h2
  generalize hw1:((w.alloc (.deferred (some []))).alloc (.loop (rec .ready none)))=w1 at hW2
  refine ⟨w.heap.size+1,[mark w.heap.size],w1,{ target:=.fn (.func gf) cv.toArray,args:=#[.func (.yield (w.heap.size+1)) #[] #[]] },w1,gf,(.func (.yield (w.heap.size+1)) #[] #[]::cv).toArray,w1,?_,?_,fun _ _=>trivial,?_,fun h=>by simp [fen,Fence.wide] at h,?_⟩
  · rw [← hw1,hrec];exact run_enterLoop_outer _ _ _ _ _
  · unfold resolve
    simp only [eval_of hS hg,Deferred.ofValue];simp [Act.eval,pure,Sem.run]
  · show (callFunc gf (#[Value.func (.yield (w.heap.size+1)) #[] #[]]++cv.toArray)).run P w1=_
    rw [IC hcall];simp
  · refine callsIn_fen.2 ?_
    clear hw1 hW
    generalize w.heap.size+1=L at hW2 hrec ⊢
    generalize w.heap.size=D at hW2 hrec ⊢
    have hit:=it L (fun xs I M=>∃ M0,M=(L,.loop (rec .ready none))::(D,.deferred (some []))::M0∧Cl xs I M0)
      (fun xs I M=>∃ c M0,M=(L,.loop (rec .done (some c)))::(D,.deferred (some []))::M0∧Sp c xs I M0)
      (fun xs I J M le ⟨M0,e,h⟩=>⟨M0,e,hmono xs I J M0 le h⟩) ?_ I Mr ((L,.loop (rec .ready none))::(D,.deferred (some []))::M0) (Imm.le.refl I) hr ⟨M0,rfl,h0⟩
    · refine (hit F0 w1 (hW2.perm ?_)).mono ?_
      · rw [List.append_assoc]
        exact ((List.perm_middle (l₁:=Mr)).trans (.cons _ (List.perm_middle (l₁:=Mr)))).symm
      · rintro e w' ⟨v,I',M',rfl,hle,hp,st⟩
        rcases hp with ⟨Mr',M2,rfl,hR,M3,rfl,hcl⟩ | ⟨xs,c,M3,rfl,hsp⟩
        · have st2 := st.perm (show ((Mr' ++ ((L, Obj.loop (rec .ready none)) :: (D, .deferred (some [])) :: M3)) ++ F0).Perm ((L, Obj.loop (rec .ready none)) :: (D, .deferred (some [])) :: (Mr' ++ (M3 ++ F0))) by
            rw [List.append_assoc]
            exact (List.perm_middle (l₁:=Mr')).trans (.cons _ (List.perm_middle (l₁:=Mr'))))
          have hl:=st2.mem _ _ List.mem_cons_self;refine ⟨none,_,by have:=run_endLoop (P:=P) hl (by rw [hrec];simp);rw [hrec] at this;exact this,?_⟩;refine hdone D I' Mr' M3 hle hR hcl _ _ ⟨hS.size,hS.get⟩ (by show [mark D]++a.defers=_;rw [hD];rfl) ?_;exact (St.putObj st2).drop
        · have hl:=st.mem (L) (.loop (rec .done (some c))) (by simp)
          refine ⟨some c,_,by have:=run_endLoop (P:=P) hl (by rw [hrec];simp);rw [hrec] at this;exact this,?_⟩;refine hstop D c xs I' M3 hle hsp _ _ ⟨hS.size,hS.get⟩ (by show [mark D]++a.defers=_;rw [hD];rfl) ?_;exact (St.putObj (M:=(D,Obj.deferred (some []))::(M3++F0)) st).drop
    · rintro xs x I1 Mr1 M1' hpre hle hR ⟨M1,rfl,hcl⟩ F1 w2 st
      have hl:=st.mem L (.loop (rec .ready none)) (by simp);have hy:=run_yield (P:=P) (args:=(enc x).toArray) hl (by rw [hrec];simpa using hps x);rw [hrec] at hy;refine ⟨_,_,assign,body,hy,roundIn_of_wpIn (F:=fen none) trivial ?_⟩;have hfold:((ps.zip (enc x).toArray).foldl (fun tmps (t,a)=>tmps.setIfInBounds t a) a.tmps)=(ps.toList.zip (enc x)).foldl (fun t (x:Tmp × Value)=>t.setIfInBounds x.1 x.2) a.tmps:=by
        rw [← Array.foldl_toList];simp
      simp only;rw [hfold];refine wpIn_mono (hassign L x I1 _ _ w2 (slots_fold (ps.toList.zip (enc x)) l a.tmps ⟨hS.size,hS.get⟩ ?_) rfl st) ?_
      · intro y hy'
        have:=(List.of_mem_zip (show (y.1,y.2)∈ps.toList.zip (enc x) from hy')).1;have h3:=Array.all_eq_true'.1 hpN y.1 (by simpa using this);exact Nat.le_of_ble_eq_true h3
      · rintro e a1 w3 hq
        cases e with
        | normal=>
          obtain ⟨k,hS3,hD3,st3⟩:=hq;have st4:St I1 ((L,.loop (rec .ready none))::(mm x k++(Mr1++(M1++((D,.deferred (some []))::F1))))) w3:=st3.perm ((List.Perm.append_left (mm x k) perm3).trans List.perm_middle);have hl3:=st4.mem L (.loop (rec .ready none)) List.mem_cons_self;refine ⟨_,run_beginRound hl3 (by rw [hrec]),?_⟩;have st5:St I1 (mm x k++(Mr1++(M1++((L,.loop { rec .ready none with state:=.busy })::(D,.deferred (some []))::F1)))) (w3.putObj L (.loop { rec .ready none with state:=.busy })):=by
            refine (St.putObj st4).perm ?_;refine (List.perm_middle (l₁:=mm x k)).symm.trans (List.Perm.append_left (mm x k) ?_);have:=(perm3 (A:=Mr1) (B:=M1) (C:=F1) (x:=(L,Obj.loop { rec .ready none with state:=.busy })) (y:=(D,Obj.deferred (some [])))).symm;refine this.trans ?_;rw [List.append_assoc];refine List.Perm.append_left Mr1 ?_;show ((L,Obj.loop { rec .ready none with state:=.busy })::(D,.deferred (some []))::(M1++F1)).Perm _;exact ((List.perm_middle (l₁:=M1)).trans (.cons _ (List.perm_middle (l₁:=M1)))).symm
          refine wpIn_mono (hbody L x k xs I1 Mr1 M1 _ hpre hle hR hcl a1 _ hS3 hD3 st5) ?_
          have fin : ∀ (jump : Option Code) (I' : Imm) (M' : Seg) (w6 : World), St I' (M' ++ ((L, .loop { rec .ready none with state := .busy }) :: (D, .deferred (some [])) :: F1)) w6 →
              (Instr.endRound L jump).run P w6=.ok (.bool jump.isNone) (w6.putObj L (.loop (rec (if jump.isNone then .ready else .done) jump))) ∧
              St I' ((L,.loop (rec (if jump.isNone then .ready else .done) jump))::(M'++((D,.deferred (some []))::F1))) (w6.putObj L (.loop (rec (if jump.isNone then .ready else .done) jump))):=fun jump I' M' w6 st6=>by
            have st7:=st6.perm perm4;have hl7:=st7.mem _ _ List.mem_cons_self;have:=run_endRound (P:=P) jump hl7;rw [hrec] at this ⊢;exact ⟨this,by rw [hrec] at st7;exact St.putObj st7⟩
          rintro e a6 w6 hq6
          have stop : ∀ (c : Code), (∃ I' M', I1.le I' ∧ Sp c (xs ++ [x]) I' M' ∧ St I' (M' ++ ((L, .loop { rec .ready none with state := .busy }) :: (D, .deferred (some [])) :: F1)) w6) →
              ∃ v w',(Instr.endRound L (some c)).run P w6=.ok v w'∧RQ I1 (fun v I' M'=>(v=.bool true∧∃ Mr' M2,M'=Mr'++M2∧R (xs++[x]) I' Mr'∧∃ M0,M2=(L,.loop (rec .ready none))::(D,.deferred (some []))::M0∧Cl (xs++[x]) I' M0) ∨
                (v=.bool false∧∃ c M0,M'=(L,.loop (rec .done (some c)))::(D,.deferred (some []))::M0∧Sp c (xs++[x]) I' M0)) F1 (.returned v) w':=by
            rintro c ⟨I',M',hle',hp,st6⟩
            obtain ⟨h1,h2⟩:=fin (some c) I' M' w6 st6;exact ⟨_,_,h1,_,I',_,rfl,hle',.inr ⟨rfl,c,M',rfl,hp⟩,h2.perm (.cons _ List.perm_middle)⟩
          cases e with
          | normal=>
            obtain ⟨I',M',hle',⟨Mr',M2,rfl,hR',hcl'⟩,st6⟩:=hq6;obtain ⟨h1,h2⟩:=fin none I' _ w6 st6;refine ⟨_,_,h1,_,I',_,rfl,hle',.inl ⟨rfl,Mr',_,rfl,hR',M2,rfl,hcl'⟩,h2.perm ?_⟩;rw [List.append_assoc];exact perm3.symm
          | ret=>exact stop .ret hq6
          | exit id=>exact stop (.exit id) hq6
          | goto t=>exact stop (.goto t) hq6
          | panic ch=>exact hq6.elim
          | outgrown=>exact hq6.elim
        | exit id=>exact hq.elim
        | goto t=>exact hq.elim
        | ret=>exact hq.elim
        | panic ch=>exact hq.elim
        | outgrown=>exact hq.elim
end
section
variable {P:Program} {N:Nat} {ops:Array Oper} {i:Nat} {l:Sl} {I:Imm} {M:Seg} {ty:TypeId} {gd:Option (Nat × Bool)} {K:Sl→Imm→Seg→Prop}
theorem call_runB {f : Operand} {fid : FuncId} {args : Array Operand} {tys : Array TypeId} {fs vals cv : List Value} {ρ : Operand → Value} {w : World} (hf : ρ f = .func (.func fid) fs.toArray cv.toArray) (hvals : args.toList.map ρ = vals) (hc : DA P fid = true) :
    (KK ρ (.call { callee:=.value f,args,argTypes:=tys }) ty).run P w=.ok (.enter fid (fs++vals++cv).toArray) w:=by
  have e:args.map ρ=vals.toArray:=by apply Array.ext';simp [hvals]
  show (do let d ← resolve ρ { callee:=.value f,args,argTypes:=tys } ty;invoke d.target d.args:Sem Next).run P w=_;unfold resolve;simp only [e,hf,Deferred.ofValue];show (callFunc fid ((fs.toArray++vals.toArray)++cv.toArray)).run P w=_;rw [IC hc];simp
theorem stp_callB {d : Option Tmp} {f : Operand} {fid : FuncId} {args : Array Operand} {tys : Array TypeId} {fs vals cv : List Value} {pre F : Seg} {post : Value → Imm → Seg → Prop} {argv : Array Value}
    (hop:FR ops N i=some (d,.call { callee:=.value f,args,argTypes:=tys },ty,gd)) (hg:FA ops l gd=some true) (hf:BS l f=some (.func (.func fid) fs.toArray cv.toArray)) (hv:OD l args.toList=some vals)
    (hc:DA P fid=true) (ha:(fs++vals++cv).toArray=argv) (ct:Ct P fid argv I pre post) (hM:M.Perm (pre++F))
    (h:∀ v I' M',I.le I'→post v I' M'→K (ups d v l) I' (M'++F)):Stp P N ops i l I M K:=by
  obtain ⟨o,ho,rfl,he,rfl,rfl,hN,hs⟩:=HG hop;obtain ⟨h1,h2⟩:=HY hv;refine ⟨o,ho,hN,hs,hg,?_,fun w st=>?_⟩
  · rw [he]
    intro x hx;simp only [Op.operands,Call.operands] at hx;rcases Array.mem_append.1 hx with hx | hx
    · simp at hx;subst hx;exact EQ hf
    · exact h1 x (by simpa using hx)
  · rw [HU,he,call_runB (BG hf) h2 hc,ha]
    refine (ct F w (st.perm hM)).mono fun e w' ⟨v,I',M',hv',hle,hp,st'⟩=>?_
    exact ⟨v,hv',I',M'++F,hle,st',h v I' M' hle hp⟩
end
end Go.Sl
namespace Go.Sh
open Go Go.Sl
def doFn (g:Int→FuncId) (b:Nat) (k:Int):Value:=.func (.func (g k)) #[.pointer (some ⟨b,0,none⟩)] #[]
def fnTab (g:Int→FuncId) (b:Nat):List (Int × Value):=[(1,doFn g b 1),(2,doFn g b 2),(3,doFn g b 3),(4,doFn g b 4),(5,doFn g b 5),(6,doFn g b 6)]
theorem getKv_fn {g:Int→FuncId} {b:Nat} {k:Int} (h1:1≤k) (h2:k≤6):(JU k (fnTab g b)).getD .nilFunc=doFn g b k:=by
  have:k=1∨k=2∨k=3∨k=4∨k=5∨k=6:=by omega
  rcases this with rfl | rfl | rfl | rfl | rfl | rfl <;> rfl
section
variable {s:Slip} {H:Hs}
theorem doSlip_1 (e:s.kind=1):doSlip s H=KZ ⟨s.to,s.sort,s.soil⟩ s.amt (KZ ⟨s.place,s.sort,s.soil⟩ (-s.amt) H):=by unfold doSlip;rw [if_pos e]
theorem doSlip_2 (e:s.kind=2):doSlip s H=KZ ⟨s.place,s.sort,true⟩ s.amt (KZ ⟨s.place,s.sort,false⟩ (-s.amt) H):=by unfold doSlip;rw [if_neg (by omega),if_pos e]
theorem doSlip_3 (e:s.kind=3):doSlip s H=KZ ⟨s.place,s.sort,false⟩ s.amt (KZ ⟨s.place,s.sort,true⟩ (-s.amt) H):=by unfold doSlip;rw [if_neg (by omega),if_neg (by omega),if_pos e]
theorem doSlip_4 (e:s.kind=4):doSlip s H=HI ⟨s.place,s.sort,s.soil⟩ s.amt H:=by unfold doSlip;rw [if_neg (by omega),if_neg (by omega),if_neg (by omega),if_pos e];rfl
theorem doSlip_5 (e:s.kind=5):doSlip s H=KZ ⟨s.place,s.sort,false⟩ s.amt H:=by unfold doSlip;rw [if_neg (by omega),if_neg (by omega),if_neg (by omega),if_neg (by omega),if_pos e]
theorem doSlip_6 (e:s.kind=6):doSlip s H=KZ ⟨s.place,s.sort,true⟩ (-s.amt) H:=by unfold doSlip;rw [if_neg (by omega),if_neg (by omega),if_neg (by omega),if_neg (by omega),if_neg (by omega)]
end
structure GoodS (l:List Slip):Prop where
  len:l.length<20
  ok:∀ s∈l,(1≤s.kind∧s.kind≤6)∧(0≤s.amt∧s.amt≤50)∧OP s
theorem GoodS.sub {l l':List Slip} (h:GoodS l) (hl:l'.length≤l.length) (hm:∀ x∈l',x∈l):GoodS l':=⟨Nat.lt_of_le_of_lt hl h.len,fun s hs=>h.ok s (hm s hs)⟩
theorem GoodS.perm {l l':List Slip} (h:GoodS l) (p:l'.Perm l):GoodS l':=h.sub (Nat.le_of_eq p.length_eq) fun x hx=>p.subset hx
theorem GoodS.sorted {l:List Slip} (h:GoodS l):GoodS (AD AC l):=h.perm (CU l)
theorem GoodS.small {l:List Slip} (h:GoodS l):∀ x∈l,OP x:=fun x hx=>(h.ok x hx).2.2
section
variable {S:List Slip} {H:Hs} {k:Nat}
theorem FJ:∀ {S:List Slip} {H:Hs},(evs H S).length=S.length:=by
  intro S
  induction S with
  | nil=>intro H;rfl
  | cons s r ih=>intro H;simp only [evs,List.length_cons,ih]
theorem evs_take:∀ {S:List Slip} {H:Hs} {k:Nat},k<S.length→(evs H S).take (k+1)=(evs H S).take k++[evOf (aft H (S.take k)) (S.getD k AB)]:=by
  intro S
  induction S with
  | nil=>intro H k h;simp at h
  | cons s r ih=>
    intro H k h;cases k with
    | zero=>rfl
    | succ k=>
      have:=ih (H:=doSlip s H) (k:=k) (by simpa using h);simp only [evs,List.take_succ_cons,this,List.cons_append];rfl
theorem aft_take (h:k<S.length):aft H (S.take (k+1))=doSlip (S.getD k AB) (aft H (S.take k)):=by
  rw [CI (d:=AB) h];unfold aft;rw [List.foldl_append];rfl
theorem aft_within {B:Int} (hB:0≤B) (hg:∀ s∈S,0≤s.amt∧s.amt≤50):∀ {H:Hs},Within B H→Within (B+100*S.length) (aft H S):=by
  induction S generalizing B with
  | nil=>intro H h;simpa [aft] using h
  | cons s r ih=>
    intro H h;have h1:=hg s (by simp);have:=ih (B:=B+100) (by omega) (fun x hx=>hg x (by simp [hx])) (h.doSlip h1.1 h1.2 hB);rw [show B+100*((s::r).length:Int)=B+100+100*(r.length:Int) by rw [List.length_cons];omega];exact this
theorem Within.mono {B B':Int} {H:Hs} (h:Within B H) (hb:B≤B'):Within B' H:=fun k=>by have:=h k;omega
theorem GoodS.within (hg:GoodS S) (h:Within 1000 H) (k:Nat):Within 100000 (aft H (S.take k)):=by
  have hl:=hg.len;refine (aft_within (by omega) (fun s hs=>(hg.ok s (List.mem_of_mem_take hs)).2.1) h).mono ?_;have:(S.take k).length≤S.length:=by rw [List.length_take];omega
  omega
end
theorem below_of {ks0 ks1:List HKey} {h g:Hs} {dn td:List HKey} (h0:Negs ks0 h) (h1:Negs ks1 g) (hp:(dn++td).Perm ks1) (ht:td=[]) (hn:(g.map Prod.fst).Nodup):(dn.any fun k=>!decide (k∈ks0))=falls h g:=by
  subst ht;rw [List.append_nil] at hp;rw [Bool.eq_iff_iff,falls_iff hn];simp only [List.any_eq_true,Bool.not_eq_true',decide_eq_false_iff_not]
  constructor
  · rintro ⟨k,hk,hk2⟩
    exact ⟨k,(h1 k).1 (hp.mem_iff.1 hk),Int.not_lt.1 fun hlt=>hk2 ((h0 k).2 hlt)⟩
  · rintro ⟨k,hk,hk2⟩
    exact ⟨k,hp.mem_iff.2 ((h1 k).2 hk),fun hm=>by have:=(h0 k).1 hm;omega⟩
theorem any_snoc {α:Type} {p:α→Bool} {l:List α} {x:α}:(l++[x]).any p=(l.any p||p x):=by simp
def EvR (r:Nat) (H:Hs) (S:List Slip) (n:Nat) (M:Seg):Prop:=∃ es cl,M=[(r,Obj.map es cl)]∧MapH es cl (aft H (S.take n))
def encEv (e:Event):List Value:=[.agg #[.int .i64 e.slip.num,.int .i64 e.slip.hour,.int .i64 e.slip.kind,.int .i64 e.slip.place,.int .i64 e.slip.to,.int .i64 e.slip.sort,.bool e.slip.soil,.int .i64 e.slip.amt,.int .i64 e.gap,.bool e.below]]
theorem evOf_mk {h:Hs} {s:Slip} {g:Int} {b:Bool} (h1:(evOf h s).gap=g) (h2:falls h (doSlip s h)=b):evOf h s=⟨s,g,b⟩:=by subst h1;subst h2;rfl
theorem gap_t {h:Hs} {s:Slip} (e:s.kind=4):(evOf h s).gap=s.amt-AX ⟨s.place,s.sort,s.soil⟩ h:=if_pos e
theorem gap_f {h:Hs} {s:Slip} (e:¬ s.kind=4):(evOf h s).gap=0:=if_neg e
theorem OE {α:Type} {dn todo A B H:List α} {y:α} (h:(dn++todo).Perm H) (e:todo=A++y::B):((dn++[y])++(A++B)).Perm H:=by
  subst e;refine List.Perm.trans ?_ h;rw [List.append_assoc];exact List.Perm.append_left _ (List.perm_middle (l₁:=A)).symm
theorem tookK_len {α:Type} {todo A B:List α} {y:α} (e:todo=A++y::B):(A++B).length<todo.length:=by subst e;simp
theorem fnTab_of {g:Int→FuncId} {b:Nat} {es:Array MapEntry} (h:MapIs encI es (upd (6:Int) (doFn g b 6) (upd (5:Int) (doFn g b 5) (upd (4:Int) (doFn g b 4) (upd (3:Int) (doFn g b 3) (upd (2:Int) (doFn g b 2) (upd (1:Int) (doFn g b 1) []))))))):MapIs encI es (fnTab g b):=by
  have e:(upd (6:Int) (doFn g b 6) (upd (5:Int) (doFn g b 5) (upd (4:Int) (doFn g b 4) (upd (3:Int) (doFn g b 3) (upd (2:Int) (doFn g b 2) (upd (1:Int) (doFn g b 1) []))))))=fnTab g b:=by simp [upd,fnTab]
  rw [e] at h;exact h
end Go.Sh
namespace Go.Sl
open Go
theorem Own.cutHi {α:Type} {E sz:Nat} {cell:α→Nat→Value} {a:Option Addr} {n c k:Nat} {xs:List α} {Ms:Seg} (h:Own E sz cell (.slice a n c) xs Ms) (hk:k≤xs.length):Own E sz cell (.slice a k c) (xs.take k) Ms:=by
  rcases h with ⟨hv,rfl,rfl⟩ | ⟨b,c',sp,hv,hc,rfl,hlen⟩
  · simp only [Value.slice.injEq] at hv
    obtain ⟨rfl,rfl,rfl⟩:=hv;simp at hk;subst hk;exact .inl ⟨rfl,rfl,rfl⟩
  · simp only [Value.slice.injEq] at hv
    obtain ⟨rfl,rfl,rfl⟩:=hv;refine .inr ⟨b,c,CJ sz cell (xs.drop k)++sp,by rw [List.length_take,Nat.min_eq_left hk],by rw [List.length_take];omega,?_,?_⟩
    · rw [← List.append_assoc,show CJ sz cell (xs.take k)++CJ sz cell (xs.drop k)=CJ sz cell xs by simp only [CJ];rw [← List.flatMap_append,List.take_append_drop]]
    · rw [← List.append_assoc,show CJ sz cell (xs.take k)++CJ sz cell (xs.drop k)=CJ sz cell xs by simp only [CJ];rw [← List.flatMap_append,List.take_append_drop],hlen]
theorem Own.cutE {α:Type} {E sz:Nat} {cell:α→Nat→Value} {a:Option Addr} {n c k:Nat} {xs:List α} {Ms:Seg} (h:Own E sz cell (.slice a n c) xs Ms):(Value.slice (if c=0 then a else a.map (·.add (0*sz))) (k-0) (c-0))=.slice a k c:=by
  rcases h with ⟨hv,rfl,rfl⟩ | ⟨b,c',sp,hv,hc,rfl,hlen⟩
  · simp only [Value.slice.injEq] at hv
    obtain ⟨rfl,rfl,rfl⟩:=hv;simp
  · simp only [Value.slice.injEq] at hv
    obtain ⟨rfl,rfl,rfl⟩:=hv;simp [Addr.add]
section
variable {P:Program} {N:Nat} {ops:Array Oper} {i:Nat} {l:Sl} {I:Imm} {M:Seg} {ty:TypeId} {gd:Option (Nat × Bool)} {K:Sl→Imm→Seg→Prop}
theorem stp_builtin' {M0 : Seg} {b : Builtin} {args : Array Operand} {tys : Array TypeId} {vals : List Value} {dst : Option Tmp}
    (hop:FR ops N i=some (dst,.call { callee:=.builtin b,args,argTypes:=tys },ty,gd)) (hg:FA ops l gd=some true) (hk:∀ x∈args,JV l x) (hvals:args.toList.map (rho l)=vals) (hM:M.Perm M0)
    (h:∀ (cs:Array Bool),wpL P (builtin b tys ty cs vals.toArray) (fun n M'=>∃ v M'',(n=.value v∨(n=.skip∧v=undef))∧M''.Sublist M'∧K (ups dst v l) I M'') I M0):Stp P N ops i l I M K:=
  KB hop hg (by simpa [Op.operands,Call.operands] using hk) hM (by
    have e:args.map (rho l)=vals.toArray:=by
      apply Array.ext'
      simp [hvals]
    show wpL P (do let d ← resolve (rho l) { callee:=.builtin b,args,argTypes:=tys } ty;invoke d.target d.args) _ I M0
    unfold resolve
    simp only [e]
    exact h _)
theorem stp_clearTail {α : Type} {x : Operand} {T E sz : Nat} {cell : α → Nat → Value} {a : Option Addr} {n c k : Nat} {xs : List α} {Ms R : Seg} {z : Value} {dst : Option Tmp}
    (hop:FR ops N i=some (dst,.call { callee:=.builtin .clear,args:=#[x],argTypes:=#[T] },ty,gd)) (hg:FA ops l gd=some true) (hT:IW P T=some E) (hz:HJ P E=some z) (hzs:z.cells.size=sz) (hz1:∀ v∈z.cells.toList,CK v=true) (hsz:0<sz)
    (own:Own E sz cell (.slice a n c) xs Ms) (hk:k≤n) (hx:BS l x=some (.slice (if c=k then a else a.map (·.add (k*sz))) (n-k) (c-k))) (hM:M.Perm (Ms++R))
    (next:∀ Ms',Own E sz cell (.slice a k c) (xs.take k) Ms'→K (ups dst (.tuple #[]) l) I (Ms'++R)):Stp P N ops i l I M K:=by
  refine stp_builtin' (vals:=[.slice (if c=k then a else a.map (·.add (k*sz))) (n-k) (c-k)]) hop hg (MW hx) (by simp [BG hx]) hM fun cs=>?_
  show wpL P (Builtin.clear_ #[T] ty #[.slice (if c=k then a else a.map (·.add (k*sz))) (n-k) (c-k)] >>= fun x=>pure (Next.value x)) _ I _;refine EA ?_;have hn:n=xs.length:=by obtain ⟨a',c',e,_⟩:=own.shape;cases e;rfl
  have done:∀ Ms',Own E sz cell (.slice a k c) (xs.take k) Ms'→(∃ v M'',(Next.value (.tuple #[])=.value v∨(Next.value (.tuple #[])=Next.skip∧v=undef))∧M''.Sublist (Ms'++R)∧K (ups dst v l) I M''):=fun Ms' h=>⟨_,_,.inl rfl,List.Sublist.refl _,next Ms' h⟩
  unfold Builtin.clear_;show wpL P (underlying T >>= _) _ I _;rw [AF,AK (DN hT)];rcases Nat.eq_zero_or_pos (n-k) with h0 | h0
  · rw [h0]
    have e:xs.take k=xs:=List.take_of_length_le (by omega);have hkn:k=n:=by omega
    cases (if c=k then a else a.map (·.add (k*sz))) with
    | none=>exact done Ms (own.cutHi (by omega))
    | some b=>exact done Ms (own.cutHi (by omega))
  · rcases own with ⟨hv,rfl,rfl⟩ | ⟨b,c',sp,hv,hc,rfl,hlen⟩
    · simp at hn;omega
    · simp only [Value.slice.injEq] at hv
      obtain ⟨rfl,_,rfl⟩:=hv;rw [if_neg (show ¬ c=k by omega)];obtain ⟨m,hm⟩:∃ m,n-k=m+1:=⟨n-k-1,by omega⟩;rw [hm];show wpL P (zeroValue E >>= _) _ I _;rw [AF,DD hz];show wpL P (storeCells (Addr.add ⟨b,0,none⟩ (k*sz)) (Builtin.zeroCells z.cells (m+1)).toList >>= _) _ I _;rw [AF,FI];have hzl:(Builtin.zeroCells z.cells (m+1)).toList.length=(m+1)*sz:=by simp [Builtin.zeroCells,hzs]
      have hA:(CJ sz cell (xs.take k)).length=k*sz:=by rw [BR,List.length_take,Nat.min_eq_left (by omega)]
      have hs:CJ sz cell xs=CJ sz cell (xs.take k)++CJ sz cell (xs.drop k):=by simp only [CJ];rw [← List.flatMap_append,List.take_append_drop]
      have hB:(CJ sz cell (xs.drop k)).length=(m+1)*sz:=by rw [BR,List.length_drop];congr 1;omega
      refine FU (T:=E) (k:=0) (Builtin.zeroCells z.cells (m+1)).toList 0 _ (CJ sz cell xs++sp).toArray _ (by simp) ?_ ?_ ?_
      · rw [hs,hzl];simp only [List.size_toArray,List.length_append,hA,hB];omega
      · intro v hv
        simp only [Builtin.zeroCells,Array.toList_map,Array.toList_range,List.mem_map,List.mem_range] at hv;obtain ⟨q,hq,rfl⟩:=hv;have hlt:q%z.cells.size<z.cells.size:=Nat.mod_lt _ (by omega);rw [getElem!_pos z.cells (q%z.cells.size) hlt];exact hz1 _ (by simp)
      · have e2 : IP (CJ sz cell xs ++ sp).toArray (0 + k * sz + 0) (Builtin.zeroCells z.cells (m + 1)).toList = (CJ sz cell (xs.take k) ++ ((Builtin.zeroCells z.cells (m + 1)).toList ++ sp)).toArray := by
          apply Array.ext'
          have:=KA (Builtin.zeroCells z.cells (m+1)).toList (CJ sz cell (xs.take k)) (CJ sz cell (xs.drop k)++sp) (by rw [hzl,List.length_append,hB];omega);rw [hA] at this;rw [hs,show 0+k*sz+0=k*sz by omega,List.append_assoc,this,hzl,List.drop_append_of_le_length (by rw [hB];exact Nat.le_refl _),List.drop_of_length_le (by rw [hB];exact Nat.le_refl _)];simp
        rw [e2];refine done _ (.inr ⟨b,c,(Builtin.zeroCells z.cells (m+1)).toList++sp,by rw [List.length_take,Nat.min_eq_left (by omega)],by rw [List.length_take];omega,rfl,?_⟩);rw [← hlen,hs];simp only [List.length_append,hA,hB,hzl];omega
end
end Go.Sl
namespace Go.Sh
open Go Go.Sl
section
variable {α:Type} {p:α→Bool} {xs zs:List α} {i j:Nat} {d:α}
theorem idxF_ge:-1≤NO p xs:=by unfold NO;cases xs.findIdx? p <;> simp <;> omega
theorem filter_noneD (h:NO p xs=-1):xs.filter (fun x=>!p x)=xs:=by
  have:=idxF_neg (p:=p) (l:=xs) (by omega);rw [List.any_eq_false] at this;exact List.filter_eq_self.2 fun x hx=>by simpa using this x hx
def DelI (p:α→Bool) (xs zs:List α) (i j:Nat):Prop:=zs.length=xs.length∧i<j∧j≤xs.length∧zs.take i=(xs.take j).filter (fun x=>!p x)∧zs.drop j=xs.drop j
theorem DelI.start (hi:i<xs.length) (hp:p (xs.getD i d)=true) (hb:∀ j,j<i→p (xs.getD j d)=false):DelI p xs xs i (i+1):=by
  refine ⟨rfl,by omega,hi,?_,rfl⟩;rw [CI (d:=d) hi,List.filter_append];have h1:(xs.take i).filter (fun x=>!p x)=xs.take i:=List.filter_eq_self.2 fun x hx=>by
    obtain ⟨q,hq,rfl⟩:=List.mem_iff_getElem.1 hx;rw [List.length_take] at hq;have:=hb q (by omega);simp only [List.getElem_take]
    simpa [List.getD,show q<xs.length by omega] using this
  rw [h1];simp only [List.filter_cons,hp,List.filter_nil];simp
theorem DelI.at_j (h:DelI p xs zs i j) (hj:j<xs.length):zs.getD j d=xs.getD j d:=by
  obtain ⟨h1,h2,h3,h4,h5⟩:=h;have e:(zs.drop j)[0]?=(xs.drop j)[0]?:=by rw [h5]
  simp only [List.getElem?_drop,Nat.add_zero] at e;rw [List.getD_eq_getElem?_getD,List.getD_eq_getElem?_getD,e]
theorem drop_next (h:zs.drop j=xs.drop j):zs.drop (j+1)=xs.drop (j+1):=by
  rw [← List.drop_drop,← List.drop_drop,h]
theorem DelI.skip (h:DelI p xs zs i j) (hj:j<xs.length) (hp:p (zs.getD j d)=true):DelI p xs zs i (j+1):=by
  rw [h.at_j hj] at hp;obtain ⟨h1,h2,h3,h4,h5⟩:=h;refine ⟨h1,by omega,hj,?_,drop_next h5⟩;rw [CI (d:=d) hj,List.filter_append,← h4];simp only [List.filter_cons,hp,List.filter_nil];simp
theorem DelI.keep (h:DelI p xs zs i j) (hj:j<xs.length) (hp:p (zs.getD j d)=false):DelI p xs (zs.set i (zs.getD j d)) (i+1) (j+1):=by
  rw [h.at_j hj] at hp ⊢;obtain ⟨h1,h2,h3,h4,h5⟩:=h;refine ⟨by rw [List.length_set,h1],by omega,hj,?_,?_⟩
  · rw [CI (d:=d) hj,List.filter_append,← h4,CI (d:=d) (by rw [List.length_set];omega)]
    simp only [List.filter_cons,hp,List.filter_nil];have e1:(zs.set i (xs.getD j d)).take i=zs.take i:=by rw [List.take_set_of_le (Nat.le_refl _)]
    have e2:(zs.set i (xs.getD j d)).getD i d=xs.getD j d:=by rw [List.getD_eq_getElem?_getD,List.getElem?_set_self (by omega)];rfl
    rw [e1,e2];simp
  · rw [List.drop_set_of_lt (by omega)];exact drop_next h5
theorem DelI.done (h:DelI p xs zs i j) (hj:j=xs.length):zs.take i=xs.filter (fun x=>!p x):=by
  obtain ⟨h1,h2,h3,h4,h5⟩:=h;rw [h4,hj,List.take_length]
end
def EL (L:Lin) (h:Int):List Slip:=L.slips.filter fun x=>!decide (h<x.hour)
def atL (L:Lin) (h:Int):Lin:=⟨L.places,L.sorts,L.start,L.keeps,EL L h⟩
def atH (L:Lin) (h:Int):Hs:=aft (AM L) (AD AC (EL L h))
theorem GoodS.to {L:Lin} (hg:GoodS L.slips) (h:Int):GoodS (atL L h).slips:=hg.sub (List.length_filter_le _ _) fun x hx=>(List.mem_filter.1 hx).1
theorem EvR.full {r:Nat} {H:Hs} {S:List Slip} {M:Seg} {n:Nat} (h:EvR r H S n M) (hn:n=S.length):∃ es cl,M=[(r,Obj.map es cl)]∧MapH es cl (aft H S):=by
  obtain ⟨es,cl,h1,h2⟩:=h;rw [hn,List.take_length] at h2;exact ⟨es,cl,h1,h2⟩
structure GoodL (L:Lin):Prop where
  places:1≤L.places∧L.places≤4
  sorts:1≤L.sorts∧L.sorts≤2
  start:(L.start.length:Int)=L.places
  rows:∀ r∈L.start,(r.length:Int)=L.sorts
  nums:∀ r∈L.start,∀ n∈r,0≤n∧n≤50
  keeps:L.keeps.length≤4
  keep:∀ k,k<L.keeps.length→FC L k=0
  slips:L.slips.length≤8
  slip:∀ k,k<L.slips.length→CQ L k=0
theorem all_of {α:Type} {p:α→Bool} {l:List α} (h:¬ l.all p=false):∀ x∈l,p x=true:=List.all_eq_true.1 (by simpa using h)
theorem IL {L:Lin} (h:AS L=0):GoodL L:=by
  unfold AS at h
  split at h;· omega
  rename_i h1
  split at h;· omega
  rename_i h2
  split at h;· omega
  rename_i h3
  split at h;· omega
  rename_i h4
  split at h;· omega
  rename_i h5
  have h3:CW L=0:=Decidable.not_not.1 h3;have h4:DQ L=0:=Decidable.not_not.1 h4;unfold CW at h3
  split at h3;· omega
  rename_i a1
  split at h3;· omega
  rename_i a2
  split at h3;· omega
  rename_i a3
  unfold DQ at h4
  split at h4;· omega
  rename_i b1
  refine ⟨FB (by simpa using h1),FB (by simpa using h2),Decidable.not_not.1 a1,fun r hr=>of_decide_eq_true (all_of a2 r hr),fun r hr n hn=>FB (all_of a3 n (List.mem_flatten.2 ⟨r,hr,hn⟩)),by omega,firstE_zero.1 h4,by omega,firstE_zero.1 h⟩
theorem JK {L:Lin} {s:Slip} (h:BV L s=0):(1≤s.num∧s.num≤999)∧(0≤s.hour∧s.hour≤200)∧(1≤s.kind∧s.kind≤6)∧(0≤s.place∧s.place≤L.places-1)∧(0≤s.sort∧s.sort≤L.sorts-1)∧(0≤s.amt∧s.amt≤50)∧(s.kind=1→0≤s.to∧s.to≤L.places-1∧s.to≠s.place):=by
  unfold BV at h
  split at h;· omega
  rename_i h1
  split at h;· omega
  rename_i h2
  split at h;· omega
  rename_i h3
  split at h;· omega
  rename_i h4
  split at h;· omega
  rename_i h5
  split at h;· omega
  rename_i h6
  split at h;· omega
  split at h;· omega
  rename_i h8
  split at h;· omega
  by_cases h10:inB s.amt (if s.kind=4 then 0 else 1) 50=false
  · rw [if_pos h10] at h;omega
  have e:∀ {b:Bool},¬ b=false→b=true:=fun hb=>by simpa using hb
  refine ⟨FB (e h1),FB (e h2),FB (e h3),FB (e h4),FB (e h8),?_,fun hk=>?_⟩
  · have:=FB (e h10)
    split at this <;> omega
  · have h5:inB s.to 0 (L.places-1)=true:=e fun hh=>h5 ⟨hk,hh⟩
    have:=FB h5;exact ⟨this.1,this.2,fun hh=>h6 ⟨hk,hh⟩⟩
section
variable {L:Lin} (g:GoodL L)
include g
theorem GoodL.slipAt {k:Nat} (hk:k<L.slips.length):BV L (L.slips.getD k AB)=0:=by
  have:=g.slip k hk;unfold CQ at this
  split at this
  · rename_i h;exact absurd this h
  · rename_i h;exact Decidable.not_not.1 h
theorem GoodL.slipOf {s:Slip} (hs:s∈L.slips):BV L s=0:=by
  obtain ⟨k,hk,rfl⟩:=List.mem_iff_getElem.1 hs;have:=g.slipAt hk
  simpa [List.getD,hk] using this
theorem GoodL.goodS:GoodS L.slips:=⟨by have:=g.slips;omega,fun s hs=>by
  obtain ⟨h1,h2,h3,h4,h5,h6,_⟩:=JK (g.slipOf hs)
  exact ⟨h3,h6,by omega,by omega,by omega,by omega⟩⟩
theorem GoodL.once:(L.slips.map (·.num)).Nodup:=by
  rw [List.Nodup,List.pairwise_iff_getElem];intro i j hi hj hij e;rw [List.length_map] at hi hj;have:=g.slip j hj;unfold CQ at this
  split at this
  · rename_i h;exact absurd this h
  · split at this
    · omega
    · rename_i h
      refine h ?_;unfold hasNum;refine List.any_eq_true.2 ⟨L.slips[i],?_,?_⟩
      · rw [List.mem_take_iff_getElem];exact ⟨i,by omega,rfl⟩
      · simp only [List.getElem_map] at e
        simpa [List.getD,hj] using e
omit g in
theorem openRow_within {B:Int} {p:Int} {row:List Int} (hB:0≤B) (hr:∀ n∈row,0≤n∧n≤B):∀ {j:Nat} {H:Hs},Within B H→Within B (GL p row j H):=by
  intro j
  induction j with
  | zero=>intro H h;exact h
  | succ j ih=>
    intro H h;refine (ih h).put ?_ ?_ (Int.le_refl _)
    · rcases Nat.lt_or_ge j row.length with hj | hj
      · have:=hr _ (BD (xs:=row) (d:=0) hj);omega
      · have:row.getD j 0=0:=by simp [List.getD,hj]
        omega
    · rcases Nat.lt_or_ge j row.length with hj | hj
      · exact (hr _ (BD (xs:=row) (d:=0) hj)).2
      · have:row.getD j 0=0:=by simp [List.getD,hj]
        omega
omit g in
theorem openTo_within {B:Int} {st:List (List Int)} (hB:0≤B) (hr:∀ r∈st,∀ n∈r,0≤n∧n≤B):∀ {i:Nat},i≤st.length→Within B (FG st i):=by
  intro i
  induction i with
  | zero=>intro _ k;show -B≤(0:Int)∧(0:Int)≤B;omega
  | succ i ih=>intro hi;exact openRow_within hB (hr _ (BD (xs:=st) (d:=[]) hi)) (ih (by omega))
theorem GoodL.within:Within 1000 (AM L):=(openTo_within (B:=50) (by omega) g.nums (Nat.le_refl _)).mono (by omega)
end
def BH (H:Hs) (p:Int):Nat→List Int
  | 0=>[]
  | j+1=>BH H p j++[AX ⟨p,(j:Int),false⟩ H,AX ⟨p,(j:Int),true⟩ H]
def BT (H:Hs) (s:Nat):Nat→List (List Int)
  | 0=>[]
  | k+1=>BT H s k++[BH H (k:Int) s]
def CZ (L:Lin) (hour:Int):List (List Int) × Int:=
  if AS L≠0 then ([],AS L) else if inB hour 0 200=false then ([],1) else (BT (atH L hour) L.sorts.toNat L.places.toNat,0)
theorem GP {H:Hs} {p:Int} {j:Nat}:(BH H p j).length=2*j:=by induction j with
  | zero=>rfl
  | succ j ih=>simp only [BH,List.length_append,ih,List.length_cons,List.length_nil];omega
theorem HB {H:Hs} {s k:Nat}:(BT H s k).length=k:=by induction k with
  | zero=>rfl
  | succ k ih=>simp only [BT,List.length_append,ih,List.length_cons,List.length_nil]
theorem stockE_1 {L:Lin} {hour:Int} (h:AS L≠0):CZ L hour=([],AS L):=if_pos h
theorem stockE_2 {L:Lin} {hour:Int} (h:AS L=0) (h2:inB hour 0 200=false):CZ L hour=([],1):=by unfold CZ;rw [if_neg (fun x=>x h),if_pos h2]
theorem stockE_3 {L:Lin} {hour:Int} {k s:Nat} (h:AS L=0) (h2:inB hour 0 200=true) (hk:(k:Int)=L.places) (hs:(s:Int)=L.sorts):CZ L hour=(BT (atH L hour) s k,0):=by
  unfold CZ;rw [if_neg (fun x=>x h),if_neg (by rw [h2];decide),← hk,← hs];rfl
def MP (e:Event):List Gap:=if e.gap≠0 then [⟨e.slip.num,e.gap⟩] else []
def CD (l:List Event):List Gap:=l.flatMap MP
def BI (L:Lin):List Event:=evs (AM L) (AD AC L.slips)
def EW (L:Lin):List Gap × Int:=if AS L≠0 then ([],AS L) else (CD (BI L),0)
theorem gapsOf_snoc {l:List Event} {e:Event}:CD (l++[e])=CD l++MP e:=by simp [CD]
theorem gapsOf_t {l:List Event} {e:Event} (h:e.gap≠0):CD l++[⟨e.slip.num,e.gap⟩]=CD (l++[e]):=by rw [gapsOf_snoc];unfold MP;rw [if_pos h]
theorem gapsOf_f {l:List Event} {e:Event} (h:e.gap=0):CD l=CD (l++[e]):=by rw [gapsOf_snoc];unfold MP;rw [if_neg (fun x=>x h),List.append_nil]
theorem MQ:∀ {l:List Event},(CD l).length≤l.length:=by
  intro l
  induction l with
  | nil=>exact Nat.le_refl _
  | cons x r ih=>
    show (MP x++CD r).length≤_;rw [List.length_append,List.length_cons];have:(MP x).length≤1:=by unfold MP;split <;> simp
    omega
theorem gapsE_1 {L:Lin} (h:AS L≠0):EW L=([],AS L):=if_pos h
theorem gapsE_2 {L:Lin} (h:AS L=0):EW L=(CD (BI L),0):=if_neg (fun x=>x h)
theorem GJ {L:Lin}:(BI L).length=L.slips.length:=by unfold BI;rw [FJ];exact (CU _).length_eq
end Go.Sh
namespace Go.Sl
open Go
def IterE {α β:Type} (P:Program) (gf:FuncId) (cv:List Value) (enc:β→List Value) (pr:β→α) (seq:List α) (E:β→Imm→Prop) (R:Imm→Seg→Prop) (I0:Imm):Prop:=
  ∀ (L:Nat) (Cl Sp:List α→Imm→Seg→Prop),(∀ xs I J M,I.le J→Cl xs I M→Cl xs J M) →
    (∀ xs x I Mr M,(xs++[pr x]) <+: seq→I0.le I→E x I→Cl xs I M→Yt P L (enc x).toArray I (Mr++M) (fun v I' M'=>(v=.bool true∧∃ M2,M'=Mr++M2∧Cl (xs++[pr x]) I' M2)∨(v=.bool false∧Sp (xs++[pr x]) I' M'))) →
    ∀ I Mr M,I0.le I→R I Mr→Cl [] I M→Ct P gf (.func (.yield L) #[] #[]::cv).toArray I (Mr++M) (fun _ I' M'=>(∃ Mr' M2,M'=Mr'++M2∧Cl seq I' M2)∨(∃ xs,Sp xs I' M'))
section
variable {ρ:Option Nat} {P:Program} {N:Nat} {ops:Array Oper} {i:Nat} {l:Sl} {I:Imm} {R M:Seg} {ty:TypeId} {gd:Option (Nat × Bool)} {K:Sl→Imm→Seg→Prop} {Q:Exit→Act→World→Prop} {ds:List Deferred}
theorem LM {α β : Type} {c : Code} {g : Operand} {ps : Array Tmp} {assign body : Code} {gf : FuncId} {cv : List Value} {enc : β → List Value} {pr : β → α} {seq : List α} {E : β → Imm → Prop} {R : Imm → Seg → Prop} {Mr M0 F0 : Seg}
    (Cl:List α→Imm→Seg→Prop) (Sp:Code→List α→Imm→Seg→Prop) (sl:β→Nat→Sl) (mm:β→Nat→Seg)
    (hc:c=.rangeFunc g ps assign body) (hg:BS l g=some (.func (.func gf) #[] cv.toArray)) (hcall:DA P gf=true) (hps:∀ x,(enc x).length=ps.size) (hpN:ps.all (fun t=>Nat.blt t N)=true)
    (it:IterE P gf cv enc pr seq E R I)
    (hmono:∀ xs I J M,I.le J→Cl xs I M→Cl xs J M)
    (hM:M.Perm (Mr++(M0++F0))) (hr:R I Mr) (h0:Cl [] I M0)
    (hassign:∀ L x I1 M1,Run (ρ:=some L) P N assign (Exit.then (fun a w=>∃ k,Slots N (sl x k) a∧a.defers=[]∧St I1 (mm x k++M1) w) (fun _ _ _=>False)) [] (putAll (ps.toList.zip (enc x)) l) I1 M1)
    (hbody:∀ L x k xs I1 Mr1 M1 F1,(xs++[pr x]) <+: seq→I.le I1→E x I1→Cl xs I1 M1 →
      Run (ρ:=some L) P N body (RoundQ I1 (fun o I' M'=>match o with | none=>∃ M2,M'=Mr1++M2∧Cl (xs++[pr x]) I' M2 | some c=>Sp c (xs++[pr x]) I' M') F1) [] (sl x k) I1 (mm x k++(Mr1++(M1++F1))))
    (hdone:∀ D I' Mr' M',I.le I'→Cl seq I' M'→Pst N Q .normal (mark D::ds) l I' ((D,.deferred (some []))::(Mr'++(M'++F0))))
    (hstop:∀ D c xs I' M',I.le I'→Sp c xs I' M'→Run (ρ:=none) P N c Q (mark D::ds) l I' ((D,.deferred (some []))::(M'++F0))) :
    Run (ρ:=none) P N c Q ds l I M:=by
  subst hc;intro a w hS hD hW;refine wpIn_rangeFunc fun fn _=>?_
  obtain ⟨rec,hrec⟩:∃ rec:LoopState→Option Code→Loop,rec=fun st pe=>{ state:=st,pending:=pe,fn,tmps:=a.tmps,params:=ps,assign,body,defers:=w.heap.size }:=⟨_,rfl⟩
  have hW2:St I ((w.heap.size+1,.loop (rec .ready none))::(w.heap.size,.deferred (some []))::(Mr++(M0++F0))) ((w.alloc (.deferred (some []))).alloc (.loop (rec .ready none))):=by
    have h1:=(hW.perm hM).new (.deferred (some []));have h2:=h1.new (.loop (rec .ready none));have e:(w.heap.push (Obj.deferred (some []))).size=w.heap.size+1:=by simp
    rw [e] at h2;exact h2
  generalize hw1:((w.alloc (.deferred (some []))).alloc (.loop (rec .ready none)))=w1 at hW2
  refine ⟨w.heap.size+1,[mark w.heap.size],w1,{ target:=.fn (.func gf) cv.toArray,args:=#[.func (.yield (w.heap.size+1)) #[] #[]] },w1,gf,(.func (.yield (w.heap.size+1)) #[] #[]::cv).toArray,w1,?_,?_,fun _ _=>trivial,?_,fun h=>by simp [fen,Fence.wide] at h,?_⟩
  · rw [← hw1,hrec];exact run_enterLoop_outer _ _ _ _ _
  · unfold resolve
    simp only [eval_of hS hg,Deferred.ofValue];simp [Act.eval,pure,Sem.run]
  · show (callFunc gf (#[Value.func (.yield (w.heap.size+1)) #[] #[]]++cv.toArray)).run P w1=_
    rw [IC hcall];simp
  · refine callsIn_fen.2 ?_
    clear hw1 hW
    generalize w.heap.size+1=L at hW2 hrec ⊢
    generalize w.heap.size=D at hW2 hrec ⊢
    have hit:=it L (fun xs I M=>∃ M0,M=(L,.loop (rec .ready none))::(D,.deferred (some []))::M0∧Cl xs I M0)
      (fun xs I M=>∃ c M0,M=(L,.loop (rec .done (some c)))::(D,.deferred (some []))::M0∧Sp c xs I M0)
      (fun xs I J M le ⟨M0,e,h⟩=>⟨M0,e,hmono xs I J M0 le h⟩) ?_ I Mr ((L,.loop (rec .ready none))::(D,.deferred (some []))::M0) (Imm.le.refl I) hr ⟨M0,rfl,h0⟩
    · refine (hit F0 w1 (hW2.perm ?_)).mono ?_
      · rw [List.append_assoc]
        exact ((List.perm_middle (l₁:=Mr)).trans (.cons _ (List.perm_middle (l₁:=Mr)))).symm
      · rintro e w' ⟨v,I',M',rfl,hle,hp,st⟩
        rcases hp with ⟨Mr',M2,rfl,M3,rfl,hcl⟩ | ⟨xs,c,M3,rfl,hsp⟩
        · have st2 := st.perm (show ((Mr' ++ ((L, Obj.loop (rec .ready none)) :: (D, .deferred (some [])) :: M3)) ++ F0).Perm ((L, Obj.loop (rec .ready none)) :: (D, .deferred (some [])) :: (Mr' ++ (M3 ++ F0))) by
            rw [List.append_assoc]
            exact (List.perm_middle (l₁:=Mr')).trans (.cons _ (List.perm_middle (l₁:=Mr'))))
          have hl:=st2.mem _ _ List.mem_cons_self;refine ⟨none,_,by have:=run_endLoop (P:=P) hl (by rw [hrec];simp);rw [hrec] at this;exact this,?_⟩;refine hdone D I' Mr' M3 hle hcl _ _ ⟨hS.size,hS.get⟩ (by show [mark D]++a.defers=_;rw [hD];rfl) ?_;exact (St.putObj st2).drop
        · have hl:=st.mem (L) (.loop (rec .done (some c))) (by simp)
          refine ⟨some c,_,by have:=run_endLoop (P:=P) hl (by rw [hrec];simp);rw [hrec] at this;exact this,?_⟩;refine hstop D c xs I' M3 hle hsp _ _ ⟨hS.size,hS.get⟩ (by show [mark D]++a.defers=_;rw [hD];rfl) ?_;exact (St.putObj (M:=(D,Obj.deferred (some []))::(M3++F0)) st).drop
    · rintro xs x I1 Mr1 M1' hpre hle hE ⟨M1,rfl,hcl⟩ F1 w2 st
      have hl:=st.mem L (.loop (rec .ready none)) (by simp);have hy:=run_yield (P:=P) (args:=(enc x).toArray) hl (by rw [hrec];simpa using hps x);rw [hrec] at hy;refine ⟨_,_,assign,body,hy,roundIn_of_wpIn (F:=fen none) trivial ?_⟩;have hfold:((ps.zip (enc x).toArray).foldl (fun tmps (t,a)=>tmps.setIfInBounds t a) a.tmps)=(ps.toList.zip (enc x)).foldl (fun t (x:Tmp × Value)=>t.setIfInBounds x.1 x.2) a.tmps:=by
        rw [← Array.foldl_toList];simp
      simp only;rw [hfold];refine wpIn_mono (hassign L x I1 _ _ w2 (slots_fold (ps.toList.zip (enc x)) l a.tmps ⟨hS.size,hS.get⟩ ?_) rfl st) ?_
      · intro y hy'
        have:=(List.of_mem_zip (show (y.1,y.2)∈ps.toList.zip (enc x) from hy')).1;have h3:=Array.all_eq_true'.1 hpN y.1 (by simpa using this);exact Nat.le_of_ble_eq_true h3
      · rintro e a1 w3 hq
        cases e with
        | normal=>
          obtain ⟨k,hS3,hD3,st3⟩:=hq;have st4:St I1 ((L,.loop (rec .ready none))::(mm x k++(Mr1++(M1++((D,.deferred (some []))::F1))))) w3:=st3.perm ((List.Perm.append_left (mm x k) perm3).trans List.perm_middle);have hl3:=st4.mem L (.loop (rec .ready none)) List.mem_cons_self;refine ⟨_,run_beginRound hl3 (by rw [hrec]),?_⟩;have st5:St I1 (mm x k++(Mr1++(M1++((L,.loop { rec .ready none with state:=.busy })::(D,.deferred (some []))::F1)))) (w3.putObj L (.loop { rec .ready none with state:=.busy })):=by
            refine (St.putObj st4).perm ?_;refine (List.perm_middle (l₁:=mm x k)).symm.trans (List.Perm.append_left (mm x k) ?_);have:=(perm3 (A:=Mr1) (B:=M1) (C:=F1) (x:=(L,Obj.loop { rec .ready none with state:=.busy })) (y:=(D,Obj.deferred (some [])))).symm;refine this.trans ?_;rw [List.append_assoc];refine List.Perm.append_left Mr1 ?_;show ((L,Obj.loop { rec .ready none with state:=.busy })::(D,.deferred (some []))::(M1++F1)).Perm _;exact ((List.perm_middle (l₁:=M1)).trans (.cons _ (List.perm_middle (l₁:=M1)))).symm
          refine wpIn_mono (hbody L x k xs I1 Mr1 M1 _ hpre hle hE hcl a1 _ hS3 hD3 st5) ?_
          have fin : ∀ (jump : Option Code) (I' : Imm) (M' : Seg) (w6 : World), St I' (M' ++ ((L, .loop { rec .ready none with state := .busy }) :: (D, .deferred (some [])) :: F1)) w6 →
              (Instr.endRound L jump).run P w6=.ok (.bool jump.isNone) (w6.putObj L (.loop (rec (if jump.isNone then .ready else .done) jump))) ∧
              St I' ((L,.loop (rec (if jump.isNone then .ready else .done) jump))::(M'++((D,.deferred (some []))::F1))) (w6.putObj L (.loop (rec (if jump.isNone then .ready else .done) jump))):=fun jump I' M' w6 st6=>by
            have st7:=st6.perm perm4;have hl7:=st7.mem _ _ List.mem_cons_self;have:=run_endRound (P:=P) jump hl7;rw [hrec] at this ⊢;exact ⟨this,by rw [hrec] at st7;exact St.putObj st7⟩
          rintro e a6 w6 hq6
          have stop : ∀ (c : Code), (∃ I' M', I1.le I' ∧ Sp c (xs ++ [pr x]) I' M' ∧ St I' (M' ++ ((L, .loop { rec .ready none with state := .busy }) :: (D, .deferred (some [])) :: F1)) w6) →
              ∃ v w',(Instr.endRound L (some c)).run P w6=.ok v w'∧RQ I1 (fun v I' M'=>(v=.bool true∧∃ M2,M'=Mr1++M2∧∃ M0,M2=(L,.loop (rec .ready none))::(D,.deferred (some []))::M0∧Cl (xs++[pr x]) I' M0) ∨
                (v=.bool false∧∃ c M0,M'=(L,.loop (rec .done (some c)))::(D,.deferred (some []))::M0∧Sp c (xs++[pr x]) I' M0)) F1 (.returned v) w':=by
            rintro c ⟨I',M',hle',hp,st6⟩
            obtain ⟨h1,h2⟩:=fin (some c) I' M' w6 st6;exact ⟨_,_,h1,_,I',_,rfl,hle',.inr ⟨rfl,c,M',rfl,hp⟩,h2.perm (.cons _ List.perm_middle)⟩
          cases e with
          | normal=>
            obtain ⟨I',M',hle',⟨M2,rfl,hcl'⟩,st6⟩:=hq6;obtain ⟨h1,h2⟩:=fin none I' _ w6 st6;refine ⟨_,_,h1,_,I',_,rfl,hle',.inl ⟨rfl,_,rfl,M2,rfl,hcl'⟩,h2.perm ?_⟩;rw [List.append_assoc];exact perm3.symm
          | ret=>exact stop .ret hq6
          | exit id=>exact stop (.exit id) hq6
          | goto t=>exact stop (.goto t) hq6
          | panic ch=>exact hq6.elim
          | outgrown=>exact hq6.elim
        | exit id=>exact hq.elim
        | goto t=>exact hq.elim
        | ret=>exact hq.elim
        | panic ch=>exact hq.elim
        | outgrown=>exact hq.elim
end
end Go.Sl
namespace Go.Sh
open Go Go.Sl
def kstep (p h:Int) (q:Int × Int) (k:Keep):Int × Int:=bif cmp .eql k.place p&&(cmp .leq k.hour h&&cmp .gtr k.hour q.2) then (k.who,k.hour) else q
def IZ (p h:Int) (ks:List Keep):Int × Int:=ks.foldl (kstep p h) (0,-1)
def BN (L:Lin) (p h:Int):Int:=(IZ p h L.keeps).1
section
variable {p h:Int} {ks:List Keep} {k:Nat}
theorem kfold_t (hk:k<ks.length) (hc:(cmp .eql (ks.getD k AP).place p&&(cmp .leq (ks.getD k AP).hour h&&cmp .gtr (ks.getD k AP).hour (IZ p h (ks.take k)).2))=true):((ks.getD k AP).who,(ks.getD k AP).hour)=IZ p h (ks.take (k+1)):=by
  rw [CI (d:=AP) hk];unfold IZ at *;rw [List.foldl_append];simp only [List.foldl_cons,List.foldl_nil,kstep];rw [hc];rfl
theorem kfold_f (hk:k<ks.length) (hc:(cmp .eql (ks.getD k AP).place p&&(cmp .leq (ks.getD k AP).hour h&&cmp .gtr (ks.getD k AP).hour (IZ p h (ks.take k)).2))=false):IZ p h (ks.take k)=IZ p h (ks.take (k+1)):=by
  rw [CI (d:=AP) hk];unfold IZ at *;rw [List.foldl_append];simp only [List.foldl_cons,List.foldl_nil,kstep];rw [hc];rfl
theorem kfold_who:∀ {ks:List Keep} {q:Int × Int},(ks.foldl (kstep p h) q).1=q.1∨(ks.foldl (kstep p h) q).1∈ks.map (·.who):=by
  intro ks
  induction ks with
  | nil=>intro q;exact .inl rfl
  | cons x r ih=>
    intro q;simp only [List.foldl_cons,List.map_cons,List.mem_cons];rcases ih (q:=kstep p h q x) with e | e
    · rw [e];unfold kstep;cases (cmp .eql x.place p&&(cmp .leq x.hour h&&cmp .gtr x.hour q.2)) with
      | true=>exact .inr (.inl rfl)
      | false=>exact .inl rfl
    · exact .inr (.inr e)
end
theorem keeperOf_mem {L:Lin} {p h:Int} (hn:BN L p h≠0):BN L p h∈L.keeps.map (·.who):=by
  rcases kfold_who (p:=p) (h:=h) (ks:=L.keeps) (q:=(0,-1)) with e | e
  · exact absurd e hn
  · exact e
def CF (L:Lin) (p since:Int):Nat→List Int
  | 0=>[]
  | n+1=>if (n:Int)<since then CF L p since n else if BN L p n=0 then CF L p since n else if BN L p n∈CF L p since n then CF L p since n else CF L p since n++[BN L p n]
section
variable {L:Lin} {p since:Int} {n:Nat}
theorem holdTo_1 (h:(n:Int)<since):CF L p since n=CF L p since (n+1):=(if_pos h).symm
theorem holdTo_2 (h:¬ (n:Int)<since) (h2:BN L p n=0):CF L p since n=CF L p since (n+1):=by simp only [CF];rw [if_neg h,if_pos h2]
theorem holdTo_3 (h:¬ (n:Int)<since) (h2:¬ BN L p n=0) (h3:BN L p n∈CF L p since n):CF L p since n=CF L p since (n+1):=by simp only [CF];rw [if_neg h,if_neg h2,if_pos h3]
theorem holdTo_4 (h:¬ (n:Int)<since) (h2:¬ BN L p n=0) (h3:¬ BN L p n∈CF L p since n):CF L p since n++[BN L p n]=CF L p since (n+1):=by simp only [CF];rw [if_neg h,if_neg h2,if_neg h3]
theorem holdTo_once:∀ n,(CF L p since n).Nodup∧∀ x∈CF L p since n,x∈L.keeps.map (·.who):=by
  intro n
  induction n with
  | zero=>exact ⟨List.nodup_nil,fun x hx=>by cases hx⟩
  | succ n ih=>
    simp only [CF]
    split
    · exact ih
    split
    · exact ih
    rename_i h2
    split
    · exact ih
    · rename_i h3
      refine ⟨List.nodup_append.2 ⟨ih.1,by simp,fun a ha b hb=>?_⟩,fun x hx=>?_⟩
      · simp only [List.mem_singleton] at hb;intro e;rw [e,hb] at ha;exact h3 ha
      · rcases List.mem_append.1 hx with hx | hx
        · exact ih.2 x hx
        · simp only [List.mem_singleton] at hx;subst hx;exact keeperOf_mem h2
omit p since n in
theorem once_len:∀ {l m:List Int},l.Nodup→(∀ x∈l,x∈m)→l.length≤m.length:=by
  intro l
  induction l with
  | nil=>intro m _ _;exact Nat.zero_le _
  | cons x r ih=>
    intro m hn hs;have hn2:=List.nodup_cons.1 hn;have hx:=hs x (by simp);have:=ih (m:=m.erase x) hn2.2 (fun y hy=>(List.mem_erase_of_ne (fun e=>hn2.1 (by rw [← e];exact hy))).2 (hs y (by simp [hy])));rw [List.length_erase_of_mem hx] at this;have h0:=List.length_pos_of_mem hx;rw [List.length_cons];omega
theorem holdTo_len (hk:L.keeps.length≤4):(CF L p since n).length≤4:=by
  have:=once_len (holdTo_once (L:=L) (p:=p) (since:=since) n).1 (holdTo_once n).2;rw [List.length_map] at this;omega
end
def DJ (L:Lin) (s:Slip) (since:Int):List Int:=AD cmpZ (CF L s.place since (s.hour+1).toNat)
theorem holdersOf_len {L:Lin} {s:Slip} {since:Int} (hk:L.keeps.length≤4):(DJ L s since).length≤4:=by unfold DJ;rw [(CU _).length_eq];exact holdTo_len hk
theorem holdersOf_at {L:Lin} {s:Slip} {since:Int} {n:Nat} (h:(n:Int)=s.hour+1):AD cmpZ (CF L s.place since n)=DJ L s since:=by unfold DJ;rw [← h];rfl
abbrev EvH:=Sh.Event × List Int
def MU (L:Lin) (q:Hs × List EvH) (e:Sh.Event):Hs × List EvH:=
  if e.slip.kind≠4 then q else (HI (keyOf e.slip) e.slip.hour q.1,if e.gap≠0 then q.2++[(e,DJ L e.slip (AX (keyOf e.slip) q.1))] else q.2)
def EI (L:Lin) (l:List Sh.Event):Hs × List EvH:=l.foldl (MU L) ([],[])
def EJ (L:Lin):List EvH:=(EI L (BI L)).2
section
variable {L:Lin} {xs ys:List Sh.Event} {x:Sh.Event}
theorem HP:EI L (xs++[x])=MU L (EI L xs) x:=by unfold EI;rw [List.foldl_append];rfl
theorem gfold_1 (h:x.slip.kind≠4):EI L xs=EI L (xs++[x]):=by rw [HP];unfold MU;rw [if_pos h]
theorem gfold_2 (h:x.slip.kind=4):(EI L (xs++[x])).1=HI ⟨x.slip.place,x.slip.sort,x.slip.soil⟩ x.slip.hour (EI L xs).1:=by rw [HP];unfold MU;rw [if_neg (fun e=>e h)];rfl
theorem gfold_3 (h:x.slip.kind=4) (h2:x.gap=0):(EI L xs).2=(EI L (xs++[x])).2:=by rw [HP];unfold MU;rw [if_neg (fun e=>e h)];simp only;rw [if_neg (fun e=>e h2)]
theorem gfold_4 (h:x.slip.kind=4) (h2:x.gap≠0):(EI L xs).2++[(x,DJ L x.slip (AX ⟨x.slip.place,x.slip.sort,x.slip.soil⟩ (EI L xs).1))]=(EI L (xs++[x])).2:=by rw [HP];unfold MU;rw [if_neg (fun e=>e h)];simp only;rw [if_pos h2];rfl
theorem gfold_more:∀ {ys xs:List Sh.Event},(EI L xs).2 <+: (EI L (xs++ys)).2:=by
  intro ys
  induction ys with
  | nil=>intro xs;rw [List.append_nil];exact List.prefix_refl _
  | cons y r ih=>
    intro xs;have h1:(EI L xs).2 <+: (EI L (xs++[y])).2:=by
      rw [HP];unfold MU
      split
      · exact List.prefix_refl _
      · simp only;split
        · exact List.prefix_append _ _
        · exact List.prefix_refl _
    have h2:=ih (xs:=xs++[y]);rw [List.append_assoc] at h2;exact h1.trans h2
theorem gfold_pre (h:xs <+: ys):(EI L xs).2 <+: (EI L ys).2:=by obtain ⟨r,rfl⟩:=h;exact gfold_more
end
def encEvH (q:EvH × (Option Addr × Nat)):List Value:=[.agg #[.int .i64 q.1.1.slip.num,.int .i64 q.1.1.slip.hour,.int .i64 q.1.1.slip.kind,.int .i64 q.1.1.slip.place,.int .i64 q.1.1.slip.to,.int .i64 q.1.1.slip.sort,.bool q.1.1.slip.soil,.int .i64 q.1.1.slip.amt,.int .i64 q.1.1.gap,.bool q.1.1.below,.slice q.2.1 q.1.2.length q.2.2]]
theorem evs_slip:∀ {S:List Slip} {H:Hs} {x:Sh.Event},x∈evs H S→x.slip∈S:=by
  intro S
  induction S with
  | nil=>intro H x hx;cases hx
  | cons s r ih=>
    intro H x hx;simp only [evs] at hx;rcases List.mem_cons.1 hx with rfl | hx
    · exact List.mem_cons_self
    · exact List.mem_cons_of_mem _ (ih hx)
theorem GoodL.ofEv {L:Lin} (g:GoodL L) {xs:List Sh.Event} {x:Sh.Event} {H:Hs} (h:(xs++[x]) <+: evs H (AD AC L.slips)):0≤x.slip.hour∧x.slip.hour≤200:=
  (JK (g.slipOf ((CU _).subset (evs_slip (h.subset (List.mem_append_right _ List.mem_cons_self)))))).2.1
def OV (n:Int) (l:List EvH):Option (List Int):=(l.find? fun q=>decide (q.1.slip.num=n)).map Prod.snd
theorem lackAt_hit {n:Int} {l xs:List EvH} {x:EvH} (h:(xs++[x]) <+: l) (hn:∀ q∈xs,q.1.slip.num≠n) (hx:x.1.slip.num=n):OV n l=some x.2:=by
  obtain ⟨r,rfl⟩:=h;unfold OV;rw [List.append_assoc,List.find?_append,List.find?_eq_none.2 (fun q hq=>by simpa using hn q hq)];simp [hx]
theorem lackAt_none {n:Int} {l:List EvH} (hn:∀ q∈l,q.1.slip.num≠n):OV n l=none:=by
  unfold OV;rw [List.find?_eq_none.2 (fun q hq=>by simpa using hn q hq)];rfl
def CH (L:Lin) (n:Int):List Int × Int:=
  if AS L≠0 then ([],AS L) else if NO (fun x:Slip=>decide (x.num=n)) L.slips<0 then ([],3)
  else if (L.slips.getD (NO (fun x:Slip=>decide (x.num=n)) L.slips).toNat AB).kind≠4 then ([],8)
  else match OV n (EJ L) with
    | some h=>(h,0)
    | none=>([],11)
section
variable {L:Lin} {n:Int} {i:Nat}
theorem holdersE_1 (h:AS L≠0):CH L n=([],AS L):=if_pos h
theorem holdersE_2 (h:AS L=0) (h2:NO (fun x:Slip=>decide (x.num=n)) L.slips<0):CH L n=([],3):=by unfold CH;rw [if_neg (fun x=>x h),if_pos h2]
theorem holdersE_3 (h:AS L=0) (h2:NO (fun x:Slip=>decide (x.num=n)) L.slips=(i:Int)) (h3:¬ (L.slips.getD i AB).kind=4):CH L n=([],8):=by
  unfold CH;rw [if_neg (fun x=>x h),h2,if_neg (by omega),Int.toNat_natCast,if_pos h3]
theorem holdersE_4 {l:List Int} (h:AS L=0) (h2:NO (fun x:Slip=>decide (x.num=n)) L.slips=(i:Int)) (h3:(L.slips.getD i AB).kind=4) (h4:OV n (EJ L)=some l):CH L n=(l,0):=by
  unfold CH;rw [if_neg (fun x=>x h),h2,if_neg (by omega),Int.toNat_natCast,if_neg (fun x=>x h3),h4]
theorem holdersE_5 (h:AS L=0) (h2:NO (fun x:Slip=>decide (x.num=n)) L.slips=(i:Int)) (h3:(L.slips.getD i AB).kind=4) (h4:OV n (EJ L)=none):CH L n=([],11):=by
  unfold CH;rw [if_neg (fun x=>x h),h2,if_neg (by omega),Int.toNat_natCast,if_neg (fun x=>x h3),h4]
end
theorem ne_snoc {α:Type} {p:α→Prop} {xs:List α} {x:α} (h:∀ q∈xs,p q) (hx:p x):∀ q∈xs++[x],p q:=fun q hq=>by
  rcases List.mem_append.1 hq with hq | hq
  · exact h q hq
  · simp only [List.mem_singleton] at hq;subst hq;exact hx
def evOk (e:Sh.Event):Bool:=cmp .eql e.gap 0&&!e.below
def JJ (L:Lin):Bool:=(BI L).all evOk
theorem rightE_no {L:Lin} {xs:List Sh.Event} {x:Sh.Event} (h:(xs++[x]) <+: BI L) (hx:evOk x=false):JJ L=false:=by
  unfold JJ;cases e:(BI L).all evOk with
  | false=>rfl
  | true=>
    have:=List.all_eq_true.1 e x (h.subset (by simp));rw [hx] at this;cases this
theorem rightE_yes {L:Lin} (h:∀ x∈BI L,evOk x=true):JJ L=true:=List.all_eq_true.2 h
def woS (L:Lin) (ns:List Int):List Slip:=L.slips.filter fun x=>!decide (x.num∈ns)
def woL (L:Lin) (ns:List Int):Lin:=⟨L.places,L.sorts,L.start,L.keeps,woS L ns⟩
theorem GoodL.wo {L:Lin} (g:GoodL L) {ns:List Int}:GoodS (woL L ns).slips:=g.goodS.sub (List.length_filter_le _ _) fun x hx=>(List.mem_filter.1 hx).1
theorem GoodL.woW {L:Lin} (g:GoodL L) {ns:List Int}:Within 1000 (AM (woL L ns)):=g.within
def GC (f:Nat→List Int × Bool) (j:Nat):Nat→List Int × Bool
  | 0=>([],false)
  | k+1=>if (f j).2=true then ((f j).1,true) else GC f (j+1) k
def DS (L:Lin) (all:List Int):Nat→List Int→Nat→List Int × Bool
  | 0,begun,_=>(begun,JJ (woL L begun))
  | m+1,begun,j=>GC (fun i=>DS L all m (begun++[all.getD i 0]) (i+1)) j (all.length-j)
section
variable {f:Nat→List Int × Bool} {i n:Nat}
theorem firstW_hit (hi:i<n) (h:(f i).2=true):GC f i (n-i)=((f i).1,true):=by
  obtain ⟨k,hk⟩:∃ k,n-i=k+1:=⟨n-i-1,by omega⟩;rw [hk];simp only [GC];rw [if_pos h]
theorem firstW_miss (hi:i<n) (h:(f i).2=false):GC f i (n-i)=GC f (i+1) (n-(i+1)):=by
  obtain ⟨k,hk⟩:∃ k,n-i=k+1:=⟨n-i-1,by omega⟩;rw [hk,show n-(i+1)=k by omega];simp only [GC];rw [if_neg (by rw [h];decide)]
theorem firstW_none (hi:n≤i):GC f i (n-i)=([],false):=by rw [show n-i=0 by omega];rfl
end
def FW (L:Lin):List Int:=AD cmpZ (L.slips.map (·.num))
def ED (L:Lin):List Int × Int:=
  if AS L≠0 then ([],AS L)
  else if (GC (fun m=>DS L (FW L) m [] 0) 0 3).2=true then ((GC (fun m=>DS L (FW L) m [] 0) 0 3).1,0) else ([],11)
theorem wrongE_1 {L:Lin} (h:AS L≠0):ED L=([],AS L):=if_pos h
theorem wrongE_2 {L:Lin} {l:List Int} (h:AS L=0) (h2:GC (fun m=>DS L (FW L) m [] 0) 0 3=(l,true)):ED L=(l,0):=by unfold ED;rw [if_neg (fun x=>x h),h2,if_pos rfl]
theorem wrongE_3 {L:Lin} (h:AS L=0) (h2:GC (fun m=>DS L (FW L) m [] 0) 0 3=([],false)):ED L=([],11):=by unfold ED;rw [if_neg (fun x=>x h),h2,if_neg (by decide)]
theorem allN_len {L:Lin}:(FW L).length=L.slips.length:=by unfold FW;rw [(CU _).length_eq,List.length_map]
end Go.Sh
