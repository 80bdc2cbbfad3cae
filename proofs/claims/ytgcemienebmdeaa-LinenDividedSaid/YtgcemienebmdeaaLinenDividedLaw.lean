/- For every list of numbers LinenDivided returns true, and changes nothing of it; no condition. -/
import Derived.Test.YtgcemienebmdeaaP3
import Derived.Test.YtgcemienebmdeaaP2
import Derived.Test.YtgcemienebmdeaaP1
import Derived.Test.YtgcemienebmdeaaP5
import Derived.Test.YtgcemienebmdeaaP0
import Derived.ChangeSame
import Derived.ChangeSlices
import Derived.WideShapes
import Derived.JoinedOf
import Derived.Deep.Slices
import Derived.Lib.SmallJoins
import Derived.SizedLaws
import Derived.Test.YtgcemienebmdeaaRows
import Derived.ChangeVars
import Derived.RowKit
import Derived.RowKitTokens
import Derived.Stop.Joined
import Derived.WideKeyArgs
import Derived.ProofKit
set_option linter.unusedVariables false
set_option linter.unusedSimpArgs false
namespace Go.Sh
open Go Go.Sl
theorem small_snoc {l:List Int} {n:Nat} (h:∀ x∈l,0≤x∧x≤14) (hn:n=0∨(n:Int)≤14):∀ x∈l++[(n:Int)],0≤x∧x≤14:=fun x hx=>by
  rcases List.mem_append.1 hx with hx | hx
  · exact h x hx
  · simp only [List.mem_singleton] at hx;subst hx;omega
theorem divE_len (h nd:List Int) (b:Int):(BB h nd b).1.length≤16:=by
  rw [div_ref];unfold refDiv
  split
  · exact Nat.zero_le _
  · rename_i he
    have hp:=pool_of (Decidable.not_not.1 he)
    split
    · exact Nat.zero_le _
    · rename_i x r hL
      obtain ⟨A,B,e,_,_⟩:=KJ r x;have hm:JD r x∈AN h.length (h.length*h.length) (BC h nd b) (BM h nd b):=by rw [hL,e];simp
      have h1:=lists_lenM hm;have h2:h.length*h.length≤4*4:=Nat.mul_le_mul hp.few hp.few;show (JD r x).length≤16;omega
section
variable {so:Int} {H H':Hs} {k:HKey} {v d:Int}
end
section
variable {L:Lin} {so hour:Int}
end
theorem KC {α:Type} {f:α→Int} {B:Int}:∀ {l:List α},(∀ x∈l,-B≤f x∧f x≤B)→-(B*l.length)≤(l.map f).sum∧(l.map f).sum≤B*l.length:=by
  intro l
  induction l with
  | nil=>intro _;simp
  | cons x r ih=>
    intro h;have h1:=ih (fun y hy=>h y (by simp [hy]));have h2:=h x (by simp);simp only [List.map_cons,List.sum_cons,List.length_cons,Int.natCast_add,Int.natCast_one,Int.mul_add,Int.mul_one];omega
section
variable {L:Lin} {G:List Gap} {so n X:Int} {i m k:Nat} {s:Slip}
end
def CartIn (n m:Nat) (c:Cart):Prop:=∃ q,n*n-m≤q∧q<n*n∧c.frm=(q/n:Nat)∧c.to=(q%n:Nat)
theorem pos_lt {n q q':Nat} (h:q<q'):q/n<q'/n∨(q/n=q'/n∧q%n<q'%n):=by
  have h1:q/n≤q'/n:=Nat.div_le_div_right (by omega);rcases Nat.lt_or_eq_of_le h1 with h2 | h2
  · exact .inl h2
  · refine .inr ⟨h2,?_⟩
    have h3:=Nat.div_add_mod q n;have h4:=Nat.div_add_mod q' n;rw [h2] at h3;omega
def BefC (a c:Cart):Prop:=a.frm<c.frm∨(a.frm=c.frm∧a.to<c.to)
theorem less_ge {k b i:Nat} {l:List Int} (h:l.getD i 0≤0):(less k b l).getD i 0≤0:=by
  have:=less_le (k:=k) (b:=b) (i:=i) (l:=l);omega
theorem lists_shape {n:Nat}:∀ (m:Nat) (g l:List Int),m≤n*n→(∀ i,g.getD i 0≤0∨l.getD i 0≤0)→∀ z∈AN n m g l,(∀ c∈z,CartIn n m c∧c.frm≠c.to∧1≤c.bales)∧z.Pairwise BefC:=by
  intro m
  induction m with
  | zero=>
    intro g l _ _ z hz;simp only [AN] at hz
    split at hz
    · simp only [List.mem_singleton] at hz;subst hz;exact ⟨fun c hc=>(by cases hc),List.Pairwise.nil⟩
    · cases hz
  | succ m ih=>
    intro g l hm ho z hz;simp only [AN,List.mem_append,List.mem_flatMap,List.mem_range,List.mem_map] at hz;have up:∀ c,CartIn n m c→CartIn n (m+1) c:=fun c ⟨q,h1,h2,h3,h4⟩=>⟨q,by omega,h2,h3,h4⟩
    rcases hz with ⟨b,hb,r,hr,rfl⟩ | hz
    · obtain ⟨h1,h2⟩:=MK hb
      obtain ⟨e1,e2⟩:=ih _ _ (by omega) (fun i=>by
        rcases ho i with h | h
        · exact .inl (less_ge h)
        · exact .inr (less_ge h)) r hr
      have hne:pF n (m+1)≠pT n (m+1):=fun e=>by
        rcases ho (pF n (m+1)) with h | h
        · omega
        · rw [e] at h;omega
      refine ⟨fun c hc=>?_,List.pairwise_cons.2 ⟨fun c hc=>?_,e2⟩⟩
      · rcases List.mem_cons.1 hc with rfl | hc
        · exact ⟨⟨n*n-(m+1),Nat.le_refl _,by omega,rfl,rfl⟩,fun e=>hne (by simp only at e;omega),by show (1:Int)≤(b:Int)+1;omega⟩
        · exact ⟨up c (e1 c hc).1,(e1 c hc).2⟩
      · obtain ⟨⟨q,h3,h4,h5,h6⟩,_⟩:=e1 c hc
        unfold BefC;rw [h5,h6];simp only [pF,pT];rcases pos_lt (n:=n) (show n*n-(m+1)<q by omega) with h7 | h7
        · exact .inl (by omega)
        · exact .inr (by omega)
    · obtain ⟨e1,e2⟩:=ih _ _ (by omega) ho z hz
      exact ⟨fun c hc=>⟨up c (e1 c hc).1,(e1 c hc).2⟩,e2⟩
theorem MT {n m:Nat} {c:Cart} (h:CartIn n m c):(0≤c.frm∧c.frm<n)∧(0≤c.to∧c.to<n):=by
  obtain ⟨q,_,h2,h3,h4⟩:=h;have hn:0<n:=by
    rcases Nat.eq_zero_or_pos n with rfl | h
    · simp at h2
    · exact h
  have h5:q/n<n:=(Nat.div_lt_iff_lt_mul hn).2 h2;have h6:=Nat.mod_lt q hn;rw [h3,h4]
  generalize q/n=u at h5 ⊢
  generalize q%n=v at h6 ⊢
  omega
def BQ:List Cart→List Cart→Bool
  | a::r,b::s=>if a=b then BQ r s else if a.frm≠b.frm then decide (a.frm<b.frm) else if a.to≠b.to then decide (a.to<b.to) else decide (a.bales<b.bales)
  | _,_=>false
theorem JF {c:Cart} {r s:List Cart}:BQ (c::r) (c::s)=BQ r s:=by simp [BQ]
theorem earlier_self:∀ z:List Cart,BQ z z=false:=by
  intro z
  induction z with
  | nil=>rfl
  | cons c r ih=>rw [JF];exact ih
theorem lists_ordered {n:Nat}:∀ (m:Nat) (g l:List Int),m≤n*n→(∀ i,g.getD i 0≤0∨l.getD i 0≤0)→(AN n m g l).Pairwise fun x y=>BQ y x=false:=by
  intro m
  induction m with
  | zero=>intro g l _ _;simp only [AN];split <;> simp
  | succ m ih=>
    intro g l hm ho;have hol:∀ b i,(less (pF n (m+1)) (b+1) g).getD i 0≤0∨(less (pT n (m+1)) (b+1) l).getD i 0≤0:=fun b i=>by
      rcases ho i with h | h
      · exact .inl (less_ge h)
      · exact .inr (less_ge h)
    simp only [AN];refine List.pairwise_append.2 ⟨?_,ih g l (by omega) ho,fun x hx y hy=>?_⟩
    · refine List.pairwise_flatMap.2 ⟨fun b _=>?_,?_⟩
      · refine List.pairwise_map.2 ((ih _ _ (by omega) (hol b)).imp fun {x y} h=>?_)
        rw [JF];exact h
      · refine List.Pairwise.imp ?_ List.pairwise_lt_range
        intro b1 b2 hb x hx y hy;obtain ⟨x',_,rfl⟩:=List.mem_map.1 hx;obtain ⟨y',_,rfl⟩:=List.mem_map.1 hy;simp only [BQ];rw [if_neg (fun e=>by simp only [Cart.mk.injEq] at e;omega),if_neg (fun h=>h rfl),if_neg (fun h=>h rfl)];simp;omega
    · simp only [List.mem_flatMap,List.mem_range,List.mem_map] at hx
      obtain ⟨b,hb,r,hr,rfl⟩:=hx;obtain ⟨e1,_⟩:=lists_shape m g l (by omega) ho y hy;cases y with
      | nil=>rfl
      | cons c s=>
        obtain ⟨⟨q,h3,h4,h5,h6⟩,_⟩:=e1 c (by simp);have hb:(pF n (m+1):Int)<c.frm∨((pF n (m+1):Int)=c.frm∧(pT n (m+1):Int)<c.to):=by
          rw [h5,h6];simp only [pF,pT];rcases pos_lt (n:=n) (show n*n-(m+1)<q by omega) with h7 | h7
          · exact .inl (by omega)
          · exact .inr (by omega)
        simp only [BQ];rw [if_neg (fun e=>by subst e;simp only at hb;omega)]
        by_cases e:c.frm=(pF n (m+1):Int)
        · rw [if_neg (fun h=>h e),if_pos (by omega)];simp;omega
        · rw [if_pos e];simp;omega
def gotN (z:List Cart) (i:Nat):Int:=(z.map fun c=>if c.to=(i:Int) then c.bales else 0).sum
def MF (z:List Cart) (i:Nat):Int:=(z.map fun c=>if c.frm=(i:Int) then c.bales else 0).sum
theorem getD_zero {l:List Int} {i:Nat} (h:l.length≤i):l.getD i 0=0:=by simp [List.getD,h]
theorem getD_nonneg {l:List Int} (h:∀ x∈l,0≤x) (i:Nat):0≤l.getD i 0:=by
  rcases Nat.lt_or_ge i l.length with h1 | h1
  · exact h _ (AV (d:=0) h1)
  · rw [getD_zero h1];exact Int.le_refl _
theorem less_get {k b i:Nat} {l:List Int} (h:(b:Int)+1≤l.getD k 0):(less k (b+1) l).getD i 0=l.getD i 0-(if k=i then (b:Int)+1 else 0):=by
  have hk:k<l.length:=by
    rcases Nat.lt_or_ge k l.length with h1 | h1
    · exact h1
    · rw [getD_zero h1] at h;omega
  by_cases e:k=i
  · subst e;rw [less_at hk,if_pos rfl];omega
  · rw [less_ne e,if_neg e];omega
theorem lists_flow {n:Nat}:∀ (m:Nat) (g l:List Int),(∀ x∈g,0≤x)→(∀ x∈l,0≤x)→∀ z∈AN n m g l,∀ i,gotN z i=l.getD i 0∧0≤MF z i∧MF z i≤g.getD i 0:=by
  intro m
  induction m with
  | zero=>
    intro g l hg hl z hz i;simp only [AN] at hz
    split at hz
    · rename_i h0
      simp only [List.mem_singleton] at hz;subst hz;have h1:=getD_nonneg hl i;have h2:=getD_nonneg hg i;have h3:l.getD i 0≤0:=by
        rcases Nat.lt_or_ge i l.length with h1 | h1
        · exact h0 _ (AV (d:=0) h1)
        · rw [getD_zero h1];exact Int.le_refl _
      simp only [gotN,MF,List.map_nil,List.sum_nil];omega
    · cases hz
  | succ m ih=>
    intro g l hg hl z hz i;simp only [AN,List.mem_append,List.mem_flatMap,List.mem_range,List.mem_map] at hz;rcases hz with ⟨b,hb,r,hr,rfl⟩ | hz
    · obtain ⟨h1,h2⟩:=MK hb
      obtain ⟨e1,e2,e3⟩:=ih _ _ (DW hg (by omega)) (DW hl (by omega)) r hr i;rw [less_get h1] at e3;rw [less_get h2] at e1;simp only [gotN,MF,List.map_cons,List.sum_cons] at e1 e2 e3 ⊢;refine ⟨?_,?_,?_⟩
      · by_cases e:pT n (m+1)=i
        · rw [if_pos e] at e1;rw [if_pos (by omega)];omega
        · rw [if_neg e] at e1;rw [if_neg (by omega)];omega
      · split <;> omega
      · by_cases e:pF n (m+1)=i
        · rw [if_pos e] at e3;rw [if_pos (by omega)];omega
        · rw [if_neg e] at e3;rw [if_neg (by omega)];omega
    · exact ih _ _ hg hl z hz i
def haulM (b:Int) (w:List Int) (c:Cart):List Int:=(w.set c.frm.toNat (w.getD c.frm.toNat 0-b*c.bales)).set c.to.toNat (w.getD c.to.toNat 0+b*c.bales)
def HB (b:Int) (w:List Int) (z:List Cart):List Int:=z.foldl (haulM b) w
theorem nowM_succ {b:Int} {w:List Int} {z:List Cart} {k:Nat} (hk:k<z.length):haulM b (HB b w (z.take k)) (z.getD k AJ)=HB b w (z.take (k+1)):=by
  rw [BS (d:=AJ) hk];unfold HB;rw [List.foldl_append];rfl
theorem haulM_len {b:Int} {w:List Int} {c:Cart}:(haulM b w c).length=w.length:=by simp [haulM]
theorem nowM_len {b:Int}:∀ {z:List Cart} {w:List Int},(HB b w z).length=w.length:=by
  intro z
  induction z with
  | nil=>intro w;rfl
  | cons c r ih=>intro w;rw [show HB b w (c::r)=HB b (haulM b w c) r from rfl,ih,haulM_len]
theorem nowM_at {b:Int} {n i:Nat} (hi:i<n):∀ {z:List Cart} {w:List Int},w.length=n→(∀ c∈z,(0≤c.frm∧c.frm<n)∧(0≤c.to∧c.to<n)∧c.frm≠c.to)→(HB b w z).getD i 0=w.getD i 0-b*MF z i+b*gotN z i:=by
  intro z
  induction z with
  | nil=>intro w _ _;simp [HB,MF,gotN]
  | cons c r ih=>
    intro w hw hc;rw [show HB b w (c::r)=HB b (haulM b w c) r from rfl,ih (by rw [haulM_len];exact hw) (fun x hx=>hc x (by simp [hx]))];obtain ⟨⟨h1,h2⟩,⟨h3,h4⟩,h5⟩:=hc c (by simp);simp only [MF,gotN,List.map_cons,List.sum_cons,Int.mul_add];have key:(haulM b w c).getD i 0=w.getD i 0-b*(if c.frm=(i:Int) then c.bales else 0)+b*(if c.to=(i:Int) then c.bales else 0):=by
      unfold haulM
      by_cases e1:c.to=(i:Int)
      · rw [if_pos e1,if_neg (by omega)]
        have:c.to.toNat=i:=by omega
        rw [this];simp [List.getD,List.length_set,hw,hi]
      · rw [if_neg e1]
        have ht:c.to.toNat≠i:=by omega
        by_cases e2:c.frm=(i:Int)
        · rw [if_pos e2]
          have:c.frm.toNat=i:=by omega
          rw [this,List.getD_eq_getElem?_getD,List.getElem?_set_ne ht,List.getElem?_set_self (by omega)];simp
        · rw [if_neg e2]
          have hf:c.frm.toNat≠i:=by omega
          simp [List.getD,List.getElem?_set_ne ht,List.getElem?_set_ne hf]
    rw [key];omega
theorem sum_set {l:List Int} {k:Nat} {v:Int} (hk:k<l.length):(l.set k v).sum=l.sum-l.getD k 0+v:=by
  induction l generalizing k with
  | nil=>simp at hk
  | cons x r ih=>
    cases k with
    | zero=>simp [List.getD];omega
    | succ k=>
      have:=ih (k:=k) (by simpa using hk);simp only [List.set_cons_succ,List.sum_cons,this,List.getD_cons_succ];omega
theorem nowM_sum {b:Int} {n:Nat}:∀ {z:List Cart} {w:List Int},w.length=n→(∀ c∈z,(0≤c.frm∧c.frm<n)∧(0≤c.to∧c.to<n)∧c.frm≠c.to)→(HB b w z).sum=w.sum:=by
  intro z
  induction z with
  | nil=>intro w _ _;rfl
  | cons c r ih=>
    intro w hw hc;rw [show HB b w (c::r)=HB b (haulM b w c) r from rfl,ih (by rw [haulM_len];exact hw) (fun x hx=>hc x (by simp [hx]))];obtain ⟨⟨h1,h2⟩,⟨h3,h4⟩,h5⟩:=hc c (by simp);unfold haulM;rw [sum_set (by rw [List.length_set];omega),sum_set (by omega)];have:(w.set c.frm.toNat (w.getD c.frm.toNat 0-b*c.bales)).getD c.to.toNat 0=w.getD c.to.toNat 0:=by
      have hne:c.frm.toNat≠c.to.toNat:=by omega
      simp [List.getD,List.getElem?_set_ne hne]
    rw [this];omega
def FI (l:List Cart):Int:=(l.map Cart.bales).sum
structure Drawn (h nd:List Int) (b:Int):Prop where
  len:h.length=nd.length∧1≤h.length∧h.length≤4
  have_:∀ x∈h,0≤x∧x≤14
  need:∀ x∈nd,0≤x∧x≤14
  bale:1≤b∧b≤4
section
variable {h nd:List Int} {b:Int} (d:Drawn h nd b)
include d
theorem Drawn.err:CB h nd b=0:=by
  obtain ⟨h1,h2,h3⟩:=d.len;refine poolErr_6 (by omega) (by omega) h1.symm (fun i hi=>?_) (by have:=d.bale;simp [inB];omega);have a1:=d.have_ _ (AV (d:=0) hi);have a2:=d.need _ (AV (d:=0) (show i<nd.length by omega));exact ⟨by simp only [inB,Bool.and_eq_true,decide_eq_true_eq];omega,by simp only [inB,Bool.and_eq_true,decide_eq_true_eq];omega⟩
theorem Drawn.pool:Pool h nd b:=pool_of d.err
theorem cut_none (hs:(BC h nd b).sum<(BM h nd b).sum):BB h nd b=([],11):=by unfold BB;rw [if_neg (fun x=>x d.err),if_pos hs]
abbrev allC (h nd:List Int) (b:Int):List (List Cart):=AN h.length (h.length*h.length) (BC h nd b) (BM h nd b)
theorem cut_some (hs:¬ (BC h nd b).sum<(BM h nd b).sum):(BB h nd b).2=0∧(BB h nd b).1∈allC h nd b∧∀ x∈allC h nd b,(BB h nd b).1.length≤x.length∧(x.length=(BB h nd b).1.length→BQ x (BB h nd b).1=false):=by
  have hp:=d.pool;have hn:=MI hp.some (EM (nd:=nd) (b:=b)) (EI (nd:=nd) (b:=b)) (FL hp.bale.1) (EJ hp.bale.1);have ho:=lists_ordered (n:=h.length) (h.length*h.length) (BC h nd b) (BM h nd b) (Nat.le_refl _) one_side;rw [div_ref];unfold refDiv;rw [if_neg (fun x=>x d.err)];cases hL:AN h.length (h.length*h.length) (BC h nd b) (BM h nd b) with
  | nil=>exact absurd (hn.1 hL) hs
  | cons x r=>
    rw [hL] at ho;obtain ⟨A,B,e,h1,h2⟩:=KJ r x;refine ⟨rfl,?_,fun y hy=>?_⟩
    · show JD r x∈allC h nd b
      unfold allC;rw [hL,e];simp
    show (JD r x).length≤y.length∧(y.length=(JD r x).length→BQ y (JD r x)=false);unfold allC at hy;rw [hL,e] at hy;rw [e] at ho;rcases List.mem_append.1 hy with hy | hy
    · have:=h1 y hy;exact ⟨by omega,fun hh=>by omega⟩
    · rcases List.mem_cons.1 hy with rfl | hy
      · exact ⟨Nat.le_refl _,fun _=>earlier_self _⟩
      · exact ⟨h2 y hy,fun _=>(List.pairwise_cons.1 (List.pairwise_append.1 ho).2.1).1 y hy⟩
theorem cut_few:(allC h nd b).length≤50625:=pool_few d.pool (fun i hi=>(d.have_ _ (AV (d:=0) hi)).2)
section
variable {z:List Cart} (hz:z∈allC h nd b)
include hz
theorem cut_bales:FI z=(BM h nd b).sum:=(lists_sum _ _ _ (EJ d.pool.bale.1) z hz).1
omit d in
theorem HW:(∀ c∈z,(0≤c.frm∧c.frm<h.length)∧(0≤c.to∧c.to<h.length)∧c.frm≠c.to∧1≤c.bales)∧z.Pairwise BefC:=by
  obtain ⟨h1,h2⟩:=lists_shape _ _ _ (Nat.le_refl _) one_side z hz;exact ⟨fun c hc=>⟨(MT (h1 c hc).1).1,(MT (h1 c hc).1).2,(h1 c hc).2⟩,h2⟩
omit d in
theorem cut_befC {k:Nat} (hk:k<z.length) (h0:0<k):BefC (z.getD (k-1) AJ) (z.getD k AJ):=by
  have:=List.pairwise_iff_getElem.1 (HW hz).2 (k-1) k (by omega) hk (by omega)
  simpa [List.getD,hk,show k-1<z.length by omega] using this
theorem cut_now {i:Nat} (hi:i<h.length):nd.getD i 0≤(HB b h z).getD i 0:=by
  have hb:=d.bale;rw [nowM_at hi rfl (fun c hc=>by have:=(HW hz).1 c hc;exact ⟨this.1,this.2.1,this.2.2.1⟩)];obtain ⟨h1,h2,h3⟩:=lists_flow _ _ _ (FL d.pool.bale.1) (EJ d.pool.bale.1) z hz i;rw [h1];rw [givesM_at,if_pos hi] at h3;rw [getsM_at,if_pos hi];unfold giveOf at h3;unfold getOf
  by_cases e:nd.getD i 0≤h.getD i 0
  · rw [if_pos e] at h3 ⊢
    have h4:b*MF z i≤b*((h.getD i 0-nd.getD i 0)/b):=Int.mul_le_mul_of_nonneg_left h3 (by omega);have h5:=Int.mul_ediv_self_le (x:=h.getD i 0-nd.getD i 0) (k:=b) (by omega);rw [Int.mul_zero];omega
  · rw [if_neg e] at h3 ⊢
    have h4:MF z i=0:=by omega
    rw [h4,Int.mul_zero];have h5:=Int.lt_mul_ediv_self_add (x:=nd.getD i 0-h.getD i 0+b-1) (k:=b) (by omega);omega
theorem cut_len:z.length≤16:=by
  have h1:=lists_short (n:=h.length) _ _ _ z hz;have h2:=d.len;have:h.length*h.length≤4*4:=Nat.mul_le_mul h2.2.2 h2.2.2;omega
theorem cut_bal {c:Cart} (hc:c∈z):1≤c.bales∧c.bales≤200:=by
  have h1:∀ c∈z,1≤c.bales:=fun c hc=>((HW hz).1 c hc).2.2.2
  have h2:=cut_bales d hz;have h3:=sum_le (c:=50) (fun x hx=>((d.pool.cap).2 x hx).2);have h4:(BM h nd b).length=h.length:=EI;have h5:=d.len;refine ⟨h1 c hc,?_⟩;have h6:c.bales≤FI z:=by
    clear h2 hz;unfold FI
    induction z with
    | nil=>cases hc
    | cons x r ih=>
      have hn:0≤(r.map Cart.bales).sum:=FW fun y hy=>by
        obtain ⟨q,hq,rfl⟩:=List.mem_map.1 hy;have:=h1 q (by simp [hq]);omega
      simp only [List.map_cons,List.sum_cons];rcases List.mem_cons.1 hc with rfl | hc
      · omega
      · have:=ih hc (fun y hy=>h1 y (by simp [hy]));have:=h1 x (by simp);omega
  omega
theorem cut_small {k i:Nat} (hi:i<h.length):-30000≤(HB b h (z.take k)).getD i 0∧(HB b h (z.take k)).getD i 0≤30000:=by
  have hb:=d.bale;rw [nowM_at hi rfl (fun c hc=>by have:=(HW hz).1 c (List.mem_of_mem_take hc);exact ⟨this.1,this.2.1,this.2.2.1⟩)];have hl:(z.take k).length≤16:=by rw [List.length_take];have:=cut_len d hz;omega
  have h0:=d.have_ _ (AV (d:=0) hi)
  have a1:=KC (f:=fun c:Cart=>if c.frm=(i:Int) then c.bales else 0) (B:=200) (l:=z.take k) (fun c hc=>by
    have:=cut_bal d hz (List.mem_of_mem_take hc);split <;> omega)
  have a2:=KC (f:=fun c:Cart=>if c.to=(i:Int) then c.bales else 0) (B:=200) (l:=z.take k) (fun c hc=>by
    have:=cut_bal d hz (List.mem_of_mem_take hc);split <;> omega)
  have b1:-3200≤MF (z.take k) i∧MF (z.take k) i≤3200:=by unfold MF;omega
  have b2:-3200≤gotN (z.take k) i∧gotN (z.take k) i≤3200:=by unfold gotN;omega
  generalize MF (z.take k) i=u at b1 ⊢
  generalize gotN (z.take k) i=v at b2 ⊢
  rcases (by omega:b=1∨b=2∨b=3∨b=4) with rfl | rfl | rfl | rfl <;> omega
theorem cut_haul {c:Cart} (hc:c∈z):0≤b*c.bales∧b*c.bales≤800:=by
  have hb:=d.bale;have h1:=cut_bal d hz hc;rcases (by omega:b=1∨b=2∨b=3∨b=4) with rfl | rfl | rfl | rfl <;> omega
omit d in
theorem cut_sum:(HB b h z).sum=h.sum:=nowM_sum rfl (fun c hc=>by have:=(HW hz).1 c hc;exact ⟨this.1,this.2.1,this.2.2.1⟩)
theorem cut_all {k:Nat}:∀ x∈HB b h (z.take k),-1000000≤x∧x≤1000000:=fun x hx=>by
  obtain ⟨i,hi,rfl⟩:=List.mem_iff_getElem.1 hx;have hl:(HB b h (z.take k)).length=h.length:=nowM_len;have:=cut_small d hz (k:=k) (i:=i) (by omega);have e:(HB b h (z.take k)).getD i 0=(HB b h (z.take k))[i]:=by simp [List.getD,hi]
  omega
end
end
theorem GD {α:Type} {l:List α} {i:Nat} {d:α} (hi:i<l.length):l.drop i=l.getD i d::l.drop (i+1):=by
  rw [List.drop_eq_getElem_cons hi];simp [List.getD,hi]
section
variable {x y:List Cart} {i:Nat} (hi:i<x.length) (hj:i<y.length) (he:BQ x y=BQ (x.drop i) (y.drop i))
include hi hj he
theorem earlier_next (h:x.getD i AJ=y.getD i AJ):BQ x y=BQ (x.drop (i+1)) (y.drop (i+1)):=by
  rw [he,GD (d:=AJ) hi,GD (d:=AJ) hj,h,JF]
theorem earlier_frm (h:¬ (x.getD i AJ).frm=(y.getD i AJ).frm):BQ x y=cmp .lss (x.getD i AJ).frm (y.getD i AJ).frm:=by
  rw [he,GD (d:=AJ) hi,GD (d:=AJ) hj];simp only [BQ];rw [if_neg (fun e=>h (by rw [e])),if_pos h];rfl
theorem earlier_to (h0:(x.getD i AJ).frm=(y.getD i AJ).frm) (h:¬ (x.getD i AJ).to=(y.getD i AJ).to):BQ x y=cmp .lss (x.getD i AJ).to (y.getD i AJ).to:=by
  rw [he,GD (d:=AJ) hi,GD (d:=AJ) hj];simp only [BQ];rw [if_neg (fun e=>h (by rw [e])),if_neg (fun e=>e h0),if_pos h];rfl
theorem earlier_bal (h0:(x.getD i AJ).frm=(y.getD i AJ).frm) (h1:(x.getD i AJ).to=(y.getD i AJ).to) (h:¬ x.getD i AJ=y.getD i AJ):BQ x y=cmp .lss (x.getD i AJ).bales (y.getD i AJ).bales:=by
  rw [he,GD (d:=AJ) hi,GD (d:=AJ) hj];simp only [BQ];rw [if_neg h,if_neg (fun e=>e h0),if_neg (fun e=>e h1)];rfl
end
theorem earlier_end {x y:List Cart} {i:Nat} (he:BQ x y=BQ (x.drop i) (y.drop i)) (h:(cmp .lss (i:Int) (x.length:Int)&&cmp .lss (i:Int) (y.length:Int))=false):BQ x y=false:=by
  rw [he];simp only [KK,Bool.and_eq_false_iff,decide_eq_false_iff_not] at h;rcases h with h | h
  · rw [List.drop_of_length_le (by omega)];rfl
  · rw [List.drop_of_length_le (l:=y) (by omega)];cases x.drop i <;> rfl
theorem sum_snoc {l:List Int} {i:Nat} (hi:i<l.length):(l.take i).sum+l.getD i 0=(l.take (i+1)).sum:=by rw [BS (d:=0) hi,List.sum_append];simp
theorem sum_small {l:List Int} {i:Nat} (h:∀ x∈l,-1000000≤x∧x≤1000000) (hl:l.length≤1000):-1000000000≤(l.take i).sum∧(l.take i).sum≤1000000000:=by
  have h1:=KC (f:=fun x:Int=>x) (B:=1000000) (l:=l.take i) (fun x hx=>h x (List.mem_of_mem_take hx));rw [List.map_id'] at h1;have h2:(l.take i).length≤1000:=by rw [List.length_take];omega
  omega
theorem sum_end {l:List Int} {i:Nat} (hi:l.length≤i):(l.take i).sum=l.sum:=by rw [List.take_of_length_le hi]
theorem bal_snoc {z:List Cart} {i:Nat} (hi:i<z.length):FI (z.take i)+(z.getD i AJ).bales=FI (z.take (i+1)):=by rw [BS (d:=AJ) hi];unfold FI;rw [List.map_append,List.sum_append];simp
theorem bal_small {z:List Cart} {i:Nat} (h:∀ c∈z,1≤c.bales∧c.bales≤200) (hl:z.length≤100):0≤FI (z.take i)∧FI (z.take i)≤20000:=by
  have h1:=KC (f:=Cart.bales) (B:=200) (l:=z.take i) (fun x hx=>by have:=h x (List.mem_of_mem_take hx);omega);have h3:0≤((z.take i).map Cart.bales).sum:=FW fun y hy=>by
    obtain ⟨q,hq,rfl⟩:=List.mem_map.1 hy;have:=h q (List.mem_of_mem_take hq);omega
  have h2:(z.take i).length≤100:=by rw [List.length_take];omega
  unfold FI;omega
theorem bal_end {z:List Cart} {i:Nat} (hi:z.length≤i):FI (z.take i)=FI z:=by rw [List.take_of_length_le hi]
theorem drawn_of {h nd:List Int} {b r:Int} {c:Nat} (h1:h.length=c) (h2:nd.length=c) (hr:1≤r∧r≤4) (hc:(c:Int)=r) (hs:∀ x∈h,0≤x∧x≤14) (hn:∀ x∈nd,0≤x∧x≤14) (hb:1≤b∧b≤4):Drawn h nd b:=⟨⟨by omega,by omega,by omega⟩,hs,hn,hb⟩
def gAt (cs:List Car) (i:Nat):Int:=(cs.getD i noCar).grp
structure CarsInv (cs:List Car) (g l:Int):Prop where
  ok:∀ c∈cs,carErr c=0∧c.len≤3
  le:∀ i,i<cs.length→gAt cs i≤g
  run:∀ i j,i≤j→j<cs.length→gAt cs i=gAt cs j→gAt cs i≠0→∀ m,i≤m→m≤j→gAt cs m=gAt cs i
  g0:0≤g∧g≤3
  l0:0≤l∧l≤2
  last:0<l→1≤g∧(0<cs.length→gAt cs (cs.length-1)=g∨∀ i,i<cs.length→gAt cs i<g)
theorem CarsInv.nil:CarsInv [] 0 0:=⟨fun c h=>by simp at h,fun i h=>by simp at h,fun i j _ h=>by simp at h,by omega,by omega,fun h=>by omega⟩
theorem JZ {cs:List Car} {c:Car} {i:Nat}:gAt (cs++[c]) i=if i<cs.length then gAt cs i else if i=cs.length then c.grp else 0:=by
  unfold gAt;simp only [List.getD]
  split
  · rename_i h;rw [List.getElem?_append_left h]
  · rename_i h
    rw [List.getElem?_append_right (by omega)]
    split
    · rename_i h2;simp [h2]
    · rename_i h2
      have:1≤i-cs.length:=by omega
      cases hh:i-cs.length with
      | zero=>omega
      | succ n=>simp [noCar]
theorem CarsInv.snoc {cs:List Car} {g l:Int} (h:CarsInv cs g l) {c:Car} (hc:carErr c=0∧c.len≤3) (hg:(0<l→c.grp=g)∧(¬ 0<l→c.grp=0)):CarsInv (cs++[c]) g (if 0<l then l-1 else l):=by
  have hg0:=h.g0;have hl0:=h.l0;have hle:c.grp≤g:=by by_cases hl:0<l;exact Int.le_of_eq (hg.1 hl);rw [hg.2 hl];omega
  refine ⟨fun x hx=>?_,fun i hi=>?_,?_,hg0,by split <;> omega,fun hl=>?_⟩
  · rcases List.mem_append.1 hx with hx | hx
    · exact h.ok x hx
    · simp at hx;subst hx;exact hc
  · rw [JZ]
    split
    · rename_i h1;exact h.le i h1
    · split
      · exact hle
      · omega
  · intro i j hij hj e h0 m him hmj
    simp only [List.length_append,List.length_cons,List.length_nil] at hj;have A:∀ x,x<cs.length→gAt (cs++[c]) x=gAt cs x:=fun x hx=>by rw [JZ,if_pos hx]
    have B:gAt (cs++[c]) cs.length=c.grp:=by rw [JZ,if_neg (by omega),if_pos rfl]
    by_cases hj1:j<cs.length
    · rw [A i (by omega)] at e h0 ⊢
      rw [A j hj1] at e;rw [A m (by omega)];exact h.run i j hij hj1 e h0 m him hmj
    · have hj2:j=cs.length:=by omega
      subst hj2;rw [B] at e
      by_cases hi1:i<cs.length
      · rw [A i hi1] at e h0 ⊢
        by_cases hm1:m<cs.length
        · rw [A m hm1]
          by_cases hl:0<l
          · have hcg:=hg.1 hl
            rcases (h.last hl).2 (by omega) with hla | hla
            · exact h.run i (cs.length-1) (by omega) (by omega) (by rw [hla];omega) h0 m him (by omega)
            · have:=hla i hi1;omega
          · have:=hg.2 hl;omega
        · have hm2:m=cs.length:=by omega
          subst hm2;rw [B];exact e.symm
      · have hi2:i=cs.length:=by omega
        have hm2:m=i:=by omega
        rw [hm2]
  · have hl1 : 0 < l := by
      by_cases h1:0<l
      · exact h1
      · rw [if_neg h1] at hl;exact hl
    have:=h.last hl1;refine ⟨this.1,fun _=>.inl ?_⟩;have e:(cs++[c]).length-1=cs.length:=by simp
    rw [e,JZ,if_neg (by omega),if_pos rfl];exact hg.1 hl1
structure Placed (cs:List Car) (T k a:Nat) (ts:List (List Int)):Prop where
  len:ts.length=T
  a0:a<T
  perm:ts.flatten.Perm (HQ k)
  ex:∃ tr:Nat→Nat,(∀ i,i<T→ts.getD i []=(HQ k).filter fun c=>decide (tr c.toNat=i))∧(∀ c,c<k→tr c<T)∧(∀ c,c+1<k→gAt cs (c+1)≠0→gAt cs (c+1)=gAt cs c→tr (c+1)=tr c)∧(0<k→tr (k-1)=a)
theorem mem_wholeL {n:Nat} {c:Int}:c∈HQ n↔0≤c∧c<n:=by
  unfold HQ;simp only [List.mem_map,List.mem_range]
  constructor
  · rintro ⟨i,hi,rfl⟩;omega
  · intro h;exact ⟨c.toNat,by omega,by omega⟩
theorem Placed.start {cs:List Car} {T:Nat} (hT:0<T):Placed cs T 0 0 (List.replicate T []):=by
  refine ⟨by simp,hT,by simp [HQ],fun _=>0,fun i hi=>?_,fun c h=>by omega,fun c h=>by omega,fun h=>by omega⟩;simp [HQ,List.getD,hi]
theorem NG:∀ (ts:List (List Int)) (a:Nat) (x:Int),a<ts.length→(ts.set a (ts.getD a []++[x])).flatten.Perm (ts.flatten++[x]):=by
  intro ts
  induction ts with
  | nil=>intro a x h;simp at h
  | cons t r ih=>
    intro a x h;cases a with
    | zero=>
      simp only [List.set_cons_zero,List.getD_cons_zero,List.flatten_cons,List.append_assoc];exact List.Perm.append_left t List.perm_append_comm
    | succ a=>
      simp only [List.set_cons_succ,List.getD_cons_succ,List.flatten_cons,List.append_assoc];exact List.Perm.append_left t (ih a x (by simpa using h))
theorem Placed.put {cs : List Car} {T k a a2 : Nat} {ts : List (List Int)} (h : Placed cs T k a ts) (h2 : a2 < T) (hs : k ≠ 0 → gAt cs k ≠ 0 → gAt cs k = gAt cs (k - 1) → a2 = a) :
    Placed cs T (k+1) a2 (ts.set a2 (ts.getD a2 []++[(k:Int)])):=by
  obtain ⟨tr,t1,t2,t3,t4⟩:=h.ex;have hl:=h.len;refine ⟨by rw [List.length_set];exact hl,h2,?_,fun c=>if c=k then a2 else tr c,fun i hi=>?_,fun c hc=>?_,fun c hc h0 he=>?_,fun _=>?_⟩
  · rw [wholeL_succ]
    exact (NG ts a2 k (by omega)).trans (List.Perm.append_right _ h.perm)
  · have hf : (HQ k).filter (fun c => decide ((if c.toNat = k then a2 else tr c.toNat) = i)) = ts.getD i [] := by
      rw [t1 i hi];refine List.filter_congr fun c hc=>?_
      have:=mem_wholeL.1 hc;rw [if_neg (by omega)]
    rw [wholeL_succ,List.filter_append,hf]
    by_cases e:a2=i
    · subst e
      simp [List.getD,List.getElem?_set,hl,hi]
    · simp [List.getD,List.getElem?_set,e]
  · show (if c=k then a2 else tr c)<T
    split
    · exact h2
    · exact t2 c (by omega)
  · show (if c+1=k then a2 else tr (c+1))=(if c=k then a2 else tr c)
    by_cases e1:c+1=k
    · have e3:¬ c=k:=by omega
      rw [if_pos e1,if_neg e3];have:=hs (by omega) (by rw [← e1];exact h0) (by rw [← e1];exact he);rw [this,← t4 (by omega),← e1];rfl
    · have e3:¬ c=k:=by omega
      rw [if_neg e1,if_neg e3];exact t3 c (by omega) h0 he
  · simp
theorem sorted_prev {l:List Int} (hs:l.Pairwise (·<·)) {j:Nat} (hj:j<l.length) (hm:l.getD j 0-1∈l):0<j∧l.getD (j-1) 0=l.getD j 0-1:=by
  obtain ⟨m,hm1,hm2⟩:=List.mem_iff_getElem.1 hm;have hlt:∀ (x y:Nat) (hx:x<l.length) (hy:y<l.length),x<y→l.getD x 0<l.getD y 0:=fun x y hx hy h=>by
    have:=List.pairwise_iff_getElem.1 hs x y hx hy h
    simpa [List.getD,hx,hy] using this
  have e:l.getD m 0=l.getD j 0-1:=by simpa [List.getD,hm1] using hm2
  have h1:m<j:=by
    rcases Nat.lt_trichotomy m j with h | h | h
    · exact h
    · subst h;omega
    · have:=hlt j m hj hm1 h;omega
  rcases Nat.lt_or_ge m (j-1) with h2 | h2
  · have a:=hlt m (j-1) hm1 (by omega) h2
    have b:=hlt (j-1) j (by omega) hj (by omega);omega
  · have:m=j-1:=by omega
    subst this;exact ⟨by omega,e⟩
theorem wholeL_sorted (n:Nat):(HQ n).Pairwise (·<·):=by
  unfold HQ;rw [List.pairwise_map];exact List.pairwise_lt_range.imp fun h=>by omega
theorem Placed.groups {cs:List Car} {T a:Nat} {ts:List (List Int)} {g l:Int} (h:Placed cs T cs.length a ts) (hc:CarsInv cs g l):GrpFrom cs ts []:=by
  obtain ⟨tr,t1,t2,t3,t4⟩:=h.ex;have hmem:∀ i,i<T→∀ c,c∈ts.getD i []↔(0≤c∧c<cs.length)∧tr c.toNat=i:=fun i hi c=>by
    rw [t1 i hi,List.mem_filter,mem_wholeL,decide_eq_true_eq]
  have hgrp:∀ c:Int,grp cs c=gAt cs c.toNat:=fun c=>rfl
  have hrun:∀ n x:Nat,x+n<cs.length→gAt cs x≠0→gAt cs x=gAt cs (x+n)→tr (x+n)=tr x:=by
    intro n
    induction n with
    | zero=>intro x _ _ _;rfl
    | succ n ih=>
      intro x hx h0 e;have e1:gAt cs (x+n)=gAt cs x:=hc.run x (x+(n+1)) (by omega) hx e h0 (x+n) (by omega) (by omega);have:=ih x (by omega) h0 e1.symm;rw [← this];exact t3 (x+n) (by omega) (by rw [show x+n+1=x+(n+1) by omega,← e];exact h0) (by rw [show x+n+1=x+(n+1) by omega,← e,e1])
  have hrun2:∀ x y:Nat,x<cs.length→y<cs.length→gAt cs x≠0→gAt cs x=gAt cs y→tr x=tr y:=fun x y hx hy h0 e=>by
    rcases Nat.le_total x y with hxy | hxy
    · have:=hrun (y-x) x (by omega) h0 (by rw [show x+(y-x)=y by omega];exact e)
      rw [show x+(y-x)=y by omega] at this;exact this.symm
    · have:=hrun (x-y) y (by omega) (by rw [← e];exact h0) (by rw [show y+(x-y)=x by omega];exact e.symm)
      rw [show y+(x-y)=x by omega] at this;exact this
  intro i j hi hj h0 hm;rw [h.len] at hi;have hcm:(ts.getD i []).getD j 0∈ts.getD i []:=AV hj;obtain ⟨⟨c0,c1⟩,c2⟩:=(hmem i hi _).1 hcm
  generalize hcc:(ts.getD i []).getD j 0=c at hcm c0 c1 c2 h0 hm
  rcases hm with hm | ⟨c',hc',e⟩
  · simp at hm
  · rw [hgrp,hgrp] at e
    rw [hgrp] at h0;have hs:(ts.getD i []).Pairwise (·<·):=by rw [t1 i hi];exact (wholeL_sorted _).sublist List.filter_sublist
    have hc2:(0≤c'∧c'<cs.length)∧(tr c'.toNat<i∨c'∈(ts.getD i []).take j):=by
      rcases List.mem_append.1 hc' with hx | hx
      · obtain ⟨t,ht,hx⟩:=List.mem_flatten.1 hx
        obtain ⟨m,hm1,hm2⟩:=List.mem_iff_getElem.1 ht;have hm3:m<i∧m<ts.length:=by rw [List.length_take] at hm1;omega
        have e3:ts.getD m []=t:=by rw [← hm2];simp [List.getD,hm3.2]
        rw [← e3] at hx;obtain ⟨hb,ht2⟩:=(hmem m (by rw [← h.len];exact hm3.2) _).1 hx;exact ⟨hb,.inl (by omega)⟩
      · exact ⟨((hmem i hi _).1 (List.mem_of_mem_take hx)).1,.inr hx⟩
    obtain ⟨⟨d0,d1⟩,hd⟩:=hc2;have htr:=hrun2 c.toNat c'.toNat (by omega) (by omega) (by omega) e.symm;rcases hd with hd | hd
    · omega
    · obtain ⟨m,hm1,hm2⟩:=List.mem_iff_getElem.1 hd
      have hm3:m<j∧m<(ts.getD i []).length:=by rw [List.length_take] at hm1;omega
      have hlt:c'<c:=by
        have h1:=List.pairwise_iff_getElem.1 hs m j hm3.2 hj hm3.1;have e1:c'=(ts.getD i [])[m]:=by rw [← hm2];simp
        have e2:c=(ts.getD i [])[j]:=by rw [← hcc,List.getD,List.getElem?_eq_getElem hj];rfl
        rw [e1,e2];exact h1
      have e4:gAt cs (c.toNat-1)=gAt cs c'.toNat:=hc.run c'.toNat c.toNat (by omega) (by omega) e (by omega) (c.toNat-1) (by omega) (by omega);have e5:tr (c.toNat-1)=i:=by
        have:=hrun2 (c.toNat-1) c.toNat (by omega) (by omega) (by omega) (by omega);omega
      have hin:c-1∈ts.getD i []:=(hmem i hi _).2 ⟨by omega,by rw [show (c-1).toNat=c.toNat-1 by omega];exact e5⟩;have hp:=sorted_prev hs hj (by rw [hcc];exact hin);rw [hcc] at hp;unfold CS;have e6:((j:Int)-1).toNat=j-1:=by omega
      rw [show (↑j:Int).toNat=j by omega,e6,hp.2,hcc];have e7:inB ↑j 1 (↑(ts.getD i []).length-1)=true:=by simp only [inB,Bool.and_eq_true,decide_eq_true_eq];omega
      rw [e7];have e8:(JE cs c).grp=(JE cs (c-1)).grp:=by
        show gAt cs c.toNat=gAt cs (c-1).toNat;rw [show (c-1).toNat=c.toNat-1 by omega];omega
      rw [decide_eq_true (show 0<(JE cs c).grp from h0),decide_eq_true e8];rfl
structure Roomy (cs:List Car) (ts:List (List Int)) (k:Nat) (rm:List Int):Prop where
  len:rm.length=k
  ok:∀ n∈rm,0≤n∧n≤20
  fits:∀ i,i<k→lenOf cs (ts.getD i [])≤rm.getD i 0
theorem Roomy.nil (cs:List Car) (ts:List (List Int)):Roomy cs ts 0 []:=⟨rfl,fun n h=>by simp at h,fun i h=>by omega⟩
theorem Roomy.snoc {cs:List Car} {ts:List (List Int)} {k:Nat} {rm:List Int} (h:Roomy cs ts k rm) {n:Int} (hn:0≤n∧n≤20) (hf:lenOf cs (ts.getD k [])≤n):Roomy cs ts (k+1) (rm++[n]):=by
  have hl:=h.len;refine ⟨by simp [hl],fun x hx=>?_,fun i hi=>?_⟩
  · rcases List.mem_append.1 hx with hx | hx
    · exact h.ok x hx
    · simp at hx;subst hx;exact hn
  · by_cases e:i<k
    · have:=h.fits i e
      have e2:(rm++[n]).getD i 0=rm.getD i 0:=by simp only [List.getD];rw [List.getElem?_append_left (by omega)]
      rw [e2];exact this
    · have:i=k:=by omega
      subst this;have e2:(rm++[n]).getD i 0=n:=by simp only [List.getD];rw [List.getElem?_append_right (by omega),hl];simp
      rw [e2];exact hf
theorem Placed.tracks {cs:List Car} {T k a:Nat} {ts:List (List Int)} (h:Placed cs T k a ts):ts.flatten.length=k:=by rw [h.perm.length_eq,wholeL_length]
theorem Placed.tl {cs:List Car} {T k a:Nat} {ts:List (List Int)} (h:Placed cs T k a ts):∀ t∈ts,t.length≤k:=fun t ht=>by
  have:=GA ht;rw [h.tracks] at this;exact this
theorem Placed.okAll {cs:List Car} {T a:Nat} {ts:List (List Int)} (h:Placed cs T cs.length a ts):OkAll cs ts:=fun t ht c hc=>
  mem_wholeL.1 (h.perm.mem_iff.1 (List.mem_flatten.2 ⟨t,ht,hc⟩))
theorem perm_sum {l m:List Int} (h:l.Perm m):l.sum=m.sum:=by
  induction h with
  | nil=>rfl
  | cons x _ ih=>simp [ih]
  | swap x y l=>simp only [List.sum_cons];omega
  | trans _ _ h1 h2=>exact h1.trans h2
theorem erase_perm {α:Type} {d:α} {l:List α} {i:Nat} (h:i<l.length):(l.getD i d::l.eraseIdx i).Perm l:=by
  have e:l=l.take i++l.getD i d::l.drop (i+1):=by rw [← KY h,List.take_append_drop]
  rw [← erase_take];exact (List.perm_middle.symm).trans (List.Perm.of_eq e.symm)
structure Blk (cs:List Car) (bl:List (List Int)):Prop where
  one:∀ b∈bl,∀ x∈b,∀ y∈b,grp cs x=grp cs y
  apart:bl.Pairwise fun b c=>∀ x∈b,∀ y∈c,0<grp cs x→grp cs x≠grp cs y
theorem Blk.perm {cs:List Car} {bl bl':List (List Int)} (h:Blk cs bl) (p:bl.Perm bl'):Blk cs bl':=
  ⟨fun b hb=>h.one b (p.mem_iff.2 hb),(p.pairwise_iff (fun {b c} hbc x hx y hy h0 e=>hbc y hy x hx (by omega) e.symm)).1 h.apart⟩
def RowOk (cs:List Car) (t:List Int):Prop:=∀ k,k<t.length→0<grp cs (t.getD k 0)→(∃ c∈t.take k,grp cs c=grp cs (t.getD k 0))→0<k∧grp cs (t.getD (k-1) 0)=grp cs (t.getD k 0)
theorem NL {a b:List Int} {k:Nat}:(a++b).getD k 0=if k<a.length then a.getD k 0 else b.getD (k-a.length) 0:=by
  simp only [List.getD]
  split
  · rename_i h;rw [List.getElem?_append_left h]
  · rename_i h;rw [List.getElem?_append_right (by omega)]
theorem Blk.row {cs:List Car}:∀ {bl:List (List Int)},Blk cs bl→RowOk cs bl.flatten:=by
  intro bl
  induction bl with
  | nil=>intro _ k hk;simp at hk
  | cons b r ih=>
    intro h k hk h0 hc;have ih:=ih ⟨fun b hb=>h.one b (List.mem_cons_of_mem _ hb),(List.pairwise_cons.1 h.apart).2⟩;rw [List.flatten_cons] at hk h0 hc ⊢;obtain ⟨c,hc,e⟩:=hc
    by_cases hkb:k<b.length
    · have e0:(b++r.flatten).getD k 0=b.getD k 0:=by rw [NL,if_pos hkb]
      rw [List.take_append_of_le_length (by omega)] at hc;have hk0:0<k:=by
        rcases Nat.eq_zero_or_pos k with hz | hz
        · subst hz;simp at hc
        · exact hz
      refine ⟨hk0,?_⟩;rw [e0,NL,if_pos (by omega)];exact h.one b List.mem_cons_self _ (AV (by omega)) _ (AV hkb)
    · have e0:(b++r.flatten).getD k 0=r.flatten.getD (k-b.length) 0:=by rw [NL,if_neg hkb]
      rw [e0] at h0 e ⊢;have hk2:k-b.length<r.flatten.length:=by rw [List.length_append] at hk;omega
      have hmem:r.flatten.getD (k-b.length) 0∈r.flatten:=AV hk2;rw [List.take_append,List.take_of_length_le (by omega)] at hc;rcases List.mem_append.1 hc with hc | hc
      · exfalso
        obtain ⟨b2,hb2,hm2⟩:=List.mem_flatten.1 hmem;exact (List.pairwise_cons.1 h.apart).1 b2 hb2 c hc _ hm2 (by omega) e
      · obtain ⟨i1,i2⟩:=ih (k-b.length) hk2 h0 ⟨c,hc,e⟩
        refine ⟨by omega,?_⟩;rw [NL,if_neg (by omega),show k-1-b.length=k-b.length-1 by omega];exact i2
theorem coupled_of {cs:List Car} {t:List Int} {k:Nat} (hk:k<t.length) (h0:0<grp cs (t.getD k 0)) (h1:0<k) (e:grp cs (t.getD (k-1) 0)=grp cs (t.getD k 0)):CS cs t ↑k=true:=by
  rw [coupled_raw hk,show ((k:Int)-1).toNat=k-1 by omega,decide_eq_true (show 0<(k:Int) by omega),decide_eq_true (show 0<(JE cs (t.getD k 0)).grp from h0),decide_eq_true (show (JE cs (t.getD k 0)).grp=(JE cs (t.getD (k-1) 0)).grp from e.symm)];rfl
theorem coupled_to {cs:List Car} {t:List Int} {k:Nat} (hk:k<t.length) (h:CS cs t ↑k=true):0<k∧0<grp cs (t.getD k 0)∧grp cs (t.getD k 0)=grp cs (t.getD (k-1) 0):=by
  rw [coupled_raw hk,show ((k:Int)-1).toNat=k-1 by omega] at h;simp only [Bool.and_eq_true,decide_eq_true_eq] at h;exact ⟨by omega,h.2.1,h.2.2⟩
theorem blocks_blk {cs : List Car} {t : List Int} (h : ∀ k, k < t.length → 0 < grp cs (t.getD k 0) → (∃ c ∈ t.take k, grp cs c = grp cs (t.getD k 0)) → CS cs t ↑k = true) :
    ∀ k,k≤t.length→Blk cs (BL cs t k)∧(0<k→∃ ys y,BL cs t k=ys++[y]∧t.getD (k-1) 0∈y):=by
  intro k
  induction k with
  | zero=>intro _;exact ⟨⟨fun b hb=>by simp [BL] at hb,by simp [BL]⟩,fun h=>by omega⟩
  | succ k ih=>
    intro hk;obtain ⟨hb,hl⟩:=ih (by omega)
    by_cases hc:CS cs t ↑k=true
    · obtain ⟨c1,c2,c3⟩:=coupled_to (by omega) hc
      obtain ⟨ys,y,e,hy⟩:=hl c1;have e2:BL cs t (k+1)=ys++[y++[t.getD k 0]]:=by
        rw [blocksTo_yes hc,e];simp [List.getD]
      rw [e2];rw [e] at hb;have ho:=hb.one;have ha:=List.pairwise_append.1 hb.apart;refine ⟨⟨fun b hb2=>?_,List.pairwise_append.2 ⟨ha.1,by simp,fun b hb2 c hc2=>?_⟩⟩,fun _=>⟨ys,_,rfl,by simp⟩⟩
      · rcases List.mem_append.1 hb2 with hb2 | hb2
        · exact ho b (List.mem_append_left _ hb2)
        · have hb2:=List.mem_singleton.1 hb2
          subst hb2;have key:∀ x∈y++[t.getD k 0],grp cs x=grp cs (t.getD (k-1) 0):=fun x hx=>by
            rcases List.mem_append.1 hx with hx | hx
            · exact ho y (by simp) x hx _ hy
            · have hx:=List.mem_singleton.1 hx;subst hx;exact c3
          intro x hx z hz;rw [key x hx,key z hz]
      · have hc2:=List.mem_singleton.1 hc2
        subst hc2;intro x hx z hz h0;rcases List.mem_append.1 hz with hz | hz
        · exact ha.2.2 b hb2 y (by simp) x hx z hz h0
        · have hz:=List.mem_singleton.1 hz;subst hz
          rw [c3];exact ha.2.2 b hb2 y (by simp) x hx _ hy h0
    · have hc':CS cs t ↑k=false:=by simpa using hc
      rw [blocksTo_no hc'];refine ⟨⟨fun b hb2=>?_,List.pairwise_append.2 ⟨hb.apart,by simp,fun b hb2 c hc2=>?_⟩⟩,fun _=>⟨_,_,rfl,by simp⟩⟩
      · rcases List.mem_append.1 hb2 with hb2 | hb2
        · exact hb.one b hb2
        · have hb2:=List.mem_singleton.1 hb2
          subst hb2;intro x hx z hz;rw [List.mem_singleton.1 hx,List.mem_singleton.1 hz]
      · have hc2:=List.mem_singleton.1 hc2
        subst hc2;intro x hx z hz h0 e;have hz:=List.mem_singleton.1 hz;subst hz;refine hc (h k (by omega) (by omega) ⟨x,?_,e⟩);rw [← KW k (by omega)];exact List.mem_flatten.2 ⟨b,hb2,hx⟩
theorem rowsN_perm:∀ (n:Nat) (bl:List (List Int)),bl.length=n→∀ x∈rowsN n bl,∃ bl':List (List Int),bl'.Perm bl∧x=bl'.flatten:=by
  intro n
  induction n with
  | zero=>intro bl h x hx;simp [rowsN,ordN] at hx;subst hx;exact ⟨[],by rw [List.length_eq_zero_iff.1 h],rfl⟩
  | succ n ih=>
    intro bl h x hx;simp only [rowsN,ordN,ordFrom,List.mem_flatMap,List.mem_map] at hx;obtain ⟨i,hi,y,hy,rfl⟩:=hx;have hi:=List.mem_range'_1.1 hi;obtain ⟨bl',hp,rfl⟩:=ih _ (erase_len (k:=i) (by omega) h) y hy;refine ⟨bl.getD i []::bl',?_,rfl⟩;refine (List.Perm.cons _ hp).trans ?_;have hb:i<bl.length:=by omega
    exact erase_perm hb
theorem Fine.row {Y:Yard} (f:Fine Y) {r:List Int} (hr:r∈rowsN (HC Y.cars (trk Y 0)).length (HC Y.cars (trk Y 0))):Valid { Y with tracks:=Y.tracks.set 0 r }∧r.Perm (trk Y 0):=by
  have hlen:=f.len;have hr1:=f.room1;obtain ⟨t,ts,ht⟩:∃ t ts,Y.tracks=t::ts:=by
    cases hh:Y.tracks with
    | nil=>rw [hh] at hlen;simp at hlen;omega
    | cons t ts=>exact ⟨t,ts,rfl⟩
  have ht0:trk Y 0=t:=by show Y.tracks.getD 0 []=t;rw [ht];rfl
  rw [ht0] at hr ⊢;have hg:=groups_iff.1 f.groups;have hrow:∀ k,k<t.length→0<grp Y.cars (t.getD k 0)→(∃ c∈t.take k,grp Y.cars c=grp Y.cars (t.getD k 0))→CS Y.cars t ↑k=true:=fun k hk h0 hc=>by
    have:=hg 0 k (by rw [ht];simp) (by rw [ht];simpa using hk) (by rw [ht];simpa using h0) (.inr (by rw [ht];simpa using hc));rw [ht] at this;simpa using this
  obtain ⟨hb,_⟩:=blocks_blk hrow t.length (Nat.le_refl _);obtain ⟨bl',hp,rfl⟩:=rowsN_perm _ _ rfl r hr;have hflat:(HC Y.cars t).flatten=t:=by
    have:=KW (cs:=Y.cars) (t:=t) t.length (Nat.le_refl _);rw [List.take_length] at this;exact this
  have hperm:bl'.flatten.Perm t:=by
    have:=hp.flatten;rw [hflat] at this;exact this
  have hrok:=(Blk.perm hb hp.symm).row;refine ⟨Fine.valid ⟨f.cars,f.carOk,f.room1,f.room3,f.roomOk,by rw [List.length_set];exact f.len,?_,?_,?_,?_,?_⟩,hperm⟩
  all_goals simp only [ht,List.set_cons_zero]
  · intro x hx c hc
    have hok:=f.ok;rw [ht] at hok;rcases List.mem_cons.1 hx with e | hx
    · subst e;exact hok t List.mem_cons_self c (hperm.mem_iff.1 hc)
    · exact hok x (List.mem_cons_of_mem _ hx) c hc
  · have hn:=f.nodup
    rw [ht] at hn;rw [List.flatten_cons] at hn ⊢;exact (List.Perm.append_right _ hperm).nodup_iff.2 hn
  · intro k hk
    have hf:=f.fits;rw [ht] at hf;cases k with
    | zero=>
      have:=hf 0 (by simp);rw [List.getD_cons_zero] at this ⊢;have e:lenOf Y.cars bl'.flatten=lenOf Y.cars t:=by
        unfold lenOf;exact perm_sum (hperm.map _)
      rw [e];exact this
    | succ k=>simpa using hf (k+1) (by simpa using hk)
  · have ha:=f.all
    rw [ht] at ha;rw [List.flatten_cons,List.length_append] at ha ⊢;rw [hperm.length_eq];exact ha
  · refine groups_iff.2 ?_
    show GrpFrom Y.cars (bl'.flatten::ts) [];intro i k hi hk h0 hm;rcases hm with hm | ⟨c,hc,e⟩
    · simp at hm
    · cases i with
      | zero=>
        simp only [List.getD_cons_zero,List.take_zero,List.flatten_nil,List.nil_append] at hk h0 hc e ⊢;obtain ⟨h1,h2⟩:=hrok k hk h0 ⟨c,hc,e⟩;exact coupled_of hk h0 h1 h2
      | succ i=>
        have:=hg (i+1) k (by rw [ht];simpa using hi) (by rw [ht];simpa using hk) (by rw [ht];simpa using h0) (.inr ⟨c,by
          rw [ht]
          simp only [List.take_succ_cons,List.flatten_cons,List.getD_cons_succ,List.mem_append] at hc ⊢
          rcases hc with (hc | hc) | hc
          · exact .inl (.inl (hperm.mem_iff.1 hc))
          · exact .inl (.inr hc)
          · exact .inr hc,by rw [ht];simpa using e⟩)
        rw [ht] at this;simpa using this
section
variable {Y:Yard} {k:Nat}
end
def yvD:Value × Value × Value:=(undef,undef,undef)
def YardsV (I:Imm) (xs:List (Value × Value × Value)) (Ys:List Yard):Prop:=xs.length=Ys.length∧∀ i,i<xs.length→IsYard I (.agg #[(xs.getD i yvD).1,(xs.getD i yvD).2.1,(xs.getD i yvD).2.2]) (Ys.getD i MZ)
theorem YardsV.mono {I J:Imm} {xs:List (Value × Value × Value)} {Ys:List Yard} (h:YardsV I xs Ys) (le:I.le J):YardsV J xs Ys:=⟨h.1,fun i hi=>(h.2 i hi).mono le⟩
theorem YardsV.nil (I:Imm):YardsV I [] []:=⟨rfl,fun i hi=>by simp at hi⟩
theorem YardsV.snoc {I:Imm} {xs:List (Value × Value × Value)} {Ys:List Yard} {a b c:Value} {Y:Yard} (h:YardsV I xs Ys) (hY:IsYard I (.agg #[a,b,c]) Y):YardsV I (xs++[(a,b,c)]) (Ys++[Y]):=by
  refine ⟨by simp [h.1],fun i hi=>?_⟩;rw [List.length_append,List.length_singleton] at hi;have hl:=h.1
  by_cases hb:i<xs.length
  · have e1:(xs++[(a,b,c)]).getD i yvD=xs.getD i yvD:=by simp [List.getD,List.getElem?_append_left hb]
    have e2:(Ys++[Y]).getD i MZ=Ys.getD i MZ:=by simp [List.getD,List.getElem?_append_left (show i<Ys.length by omega)]
    rw [e1,e2];exact h.2 i hb
  · obtain rfl:i=xs.length:=by omega
    have e1:(xs++[(a,b,c)]).getD xs.length yvD=(a,b,c):=by simp [List.getD]
    have e2:(Ys++[Y]).getD xs.length MZ=Y:=by simp [List.getD,hl]
    rw [e1,e2];exact hY
theorem YardsV.at {I : Imm} {xs : List (Value × Value × Value)} {Ys : List Yard} (h : YardsV I xs Ys) {i : Nat} (hi : i < xs.length) :
    ∃ a b c,xs.getD i yvD=(a,b,c)∧IsCars I a (Ys.getD i MZ).cars∧BH I b (Ys.getD i MZ).room∧IsRows I c (Ys.getD i MZ).tracks:=by
  obtain ⟨v1,v2,v3,h1,h2,h3,h4⟩:=h.2 i hi;simp only [Value.agg.injEq] at h1;have e:=congrArg Array.toList h1;simp only [List.cons.injEq,and_true] at e;refine ⟨v1,v2,v3,?_,h2,h3,h4⟩;rw [← e.1,← e.2.1,← e.2.2]
def RowsS (I:Imm) (vs:List Value) (Ls:List (List Shift)):Prop:=vs.length=Ls.length∧∀ i,i<Ls.length→IsShifts I (vs.getD i undef) (Ls.getD i [])
theorem RowsS.mono {I J:Imm} {vs:List Value} {Ls:List (List Shift)} (h:RowsS I vs Ls) (le:I.le J):RowsS J vs Ls:=⟨h.1,fun i hi=>(h.2 i hi).mono le⟩
theorem RowsS.nil (I:Imm):RowsS I [] []:=⟨rfl,fun i hi=>by simp at hi⟩
theorem RowsS.snoc {I:Imm} {vs:List Value} {Ls:List (List Shift)} {v:Value} {l:List Shift} (h:RowsS I vs Ls) (hv:IsShifts I v l):RowsS I (vs++[v]) (Ls++[l]):=by
  have hl:=h.1;refine ⟨by simp [hl],fun i hi=>?_⟩;rw [List.length_append,List.length_singleton] at hi
  by_cases hb:i<Ls.length
  · have e1:(vs++[v]).getD i undef=vs.getD i undef:=by simp [List.getD,List.getElem?_append_left (show i<vs.length by omega)]
    have e2:(Ls++[l]).getD i []=Ls.getD i []:=by simp [List.getD,List.getElem?_append_left hb]
    rw [e1,e2];exact h.2 i hb
  · obtain rfl:i=Ls.length:=by omega
    have e1:(vs++[v]).getD Ls.length undef=v:=by simp [List.getD,← hl]
    have e2:(Ls++[l]).getD Ls.length []=l:=by simp [List.getD]
    rw [e1,e2];exact hv
structure Few (n:Nat) (Y:Yard):Prop where
  cars:Y.cars.length≤n
  room:Y.room.length≤n
  tracks:Y.tracks.length≤n
  each:∀ t∈Y.tracks,t.length≤n
theorem Fine.few {Y:Yard} (f:Fine Y):Few 20 Y:=by
  have h1:=f.cars;have h2:=f.room3;have h3:=f.len;refine ⟨by omega,by omega,by omega,fun t ht=>?_⟩;have:=GA ht;have:=f.sum;omega
end Go.Sh
namespace Go.Sl
open Go
end Go.Sl
namespace Go.Sh
open Go Go.Sl
end Go.Sh
namespace Go.Sl
open Go
section
variable {P:Program} {N:Nat} {ops:Array Oper} {i d:Nat} {l:Sl} {I:Imm} {R:Seg} {ty:TypeId} {gd:Option (Nat × Bool)}
end
end Go.Sl
namespace Go.Sh
open Go Go.Sl
end Go.Sh
namespace Go.Proofs.Ytgcemienebmdeaa
open Go Go.Sl Go.Sh
set_option maxRecDepth 100000
noncomputable def c_poolOf (p:List Nat):Code:=sub (AP Try.f9) p
theorem poolOfx_ct (I:Imm) (p:Nat) (p_s:Int):Ct Try.prog 9 #[vP p 0] I ([(bX p #[.int .u64 (p_s)] 71)]) (fun v I' M'=>∃ p_t:Int,∃ h:List Int,∃ nd:List Int,∃ b:Int,∃ u0:Value,∃ Ms0:Seg,∃ u1:Value,∃ Ms1:Seg,v=.tuple #[u0,u1,vI (b)]∧M'=[(bX p #[.int .u64 (p_t)] 71)]++(Ms0++(Ms1))∧(Drawn h nd b)∧Own 3 1 AL u0 (h) Ms0∧Own 3 1 AL u1 (nd) Ms1):=by
 refine fr (args:=[_]) (N:=28) Try.func9 (fun F=>?_);show Run _ _ (c_poolOf []) _ _ [(0,vP p 0)] _ _;refine rnm (rqr ?_);refine sp 3 [(4,vI (0)),(3,vN),(2,vN)] (sn (sp 2 [(6,vN),(5,vN)] (se (rq (rqr (sp 1 [(8,vP p 0)] (sS (sc (some 9) (F:=(F)) (From_ct _ (p) (p_s) (1) (4) (by omega) (by omega) :) (.refl _) (fun h3 I1 g1 d8 f5=>?_)))))))));obtain ⟨e4,r7,f3,f0,f8⟩:=f5;rw [f3,f0];clear f3 f0;refine nm ?_;refine sp 1 [(7,vI ((r7)))] (EC 7 rfl (show (vI ((r7)):Value)=vI ((r7)-↑(0:Nat)) from congrArg (Value.int .i64) (by omega)) (se (rb 0 ?_)));refine rl (fun mz a w=>∃ J0:Imm,∃ c:Nat,∃ hs:List Int,∃ ns:List Int,∃ d6:Int,∃ a8:Value,∃ a1:Seg,∃ a9:Value,∃ a0:Seg,(I1.le J0)∧((c:Int)≤(r7))∧(hs.length=c)∧(ns.length=c)∧((∀ x∈hs,0≤x∧x≤14))∧((∀ x∈ns,0≤x∧x≤14))∧(Own 3 1 AL a8 (hs) a1)∧(Own 3 1 AL a9 (ns) a0)∧Slots 28 [(5,a8),(6,a9),(7,vI ((r7)-↑c)),(0,vP p 0),(2,vN),(3,vN),(4,vI (0))] a∧a.defers=[]∧St J0 ((bX p #[.int .u64 (d6)] 71)::(a1++(a0++F))) w∧mz=((r7)).toNat-c) ?_ ?_
 ·intro a w hS hD hW;exact ⟨_,I1,0,[],[],e4,(vN),[],(vN),[],IR _,by omega,rfl,rfl,(fun x hx=>by simp at hx),(fun x hx=>by simp at hx),(Own.nil _ _ _),(Own.nil _ _ _),hS.sub (.cons 5 rfl (.cons 6 rfl (.cons 7 rfl (.cons 0 rfl (.cons 2 rfl (.cons 3 rfl (.cons 4 rfl (.nil _)))))))),hD,hW,rfl⟩
 rintro mz a w ⟨J0,c,hs,ns,d6,a8,a1,a9,a0,hJ0,hc,e8,e9,f1,f2,a6,a7,hS,hD,hW,rfl⟩
 refine AW hS hD hW ?_;clear hS hD hW a w;obtain ⟨a2,a3,b1,d4⟩:=a6.shape;subst b1;obtain ⟨a4,a5,b2,d5⟩:=a7.shape;subst b2;refine rq (rqr (sp 2 [(11,.bool (cmp .gtr ((r7)-↑c) (0)))] (se (rc 11 rfl (fun h1=>?_) (fun h1=>?_)))))
 ·
  have d7:=h1;have h1:=MG h1;refine AQ (NX (rq (rb 1 (rr (sp 2 [(15,vP p 0),(14,vS a2 hs.length a3)] (sS (sc (some 16) (F:=((a1++(a0++F)))) (Up_ct _ (p) (d6) (14) (by omega) :) (.refl _) (fun g5 g8 g2 b6 d9=>?_))))))));obtain ⟨b3,c7,c4,b9,e5⟩:=d9;rw [c4,b9];clear c4 b9;refine nm ?_;refine sS (sbs 17 3 1 #[vI (↑c7)] (fun h0=>(sS (BN (d:=18) (x:=(.tmp 14)) (y:=(.tmp 17)) (T:=22) (T':=22) (E:=3) (E':=3) (sz:=1) (bs:=8) (z:=vI (0)) (cell:=AL) (xs:=hs) (ys:=[(↑c7:Int)]) (Ms:=a1) (ty:=22) (gd:=none) (by kernel_rfl) rfl (by kernel_rfl) (by kernel_rfl) (by kernel_rfl) (by kernel_rfl) (by kernel_rfl) (by decide) (by kernel_rfl) rfl rfl (a6) (PU (PM.symm)) (CG _) (GZ 0 rfl rfl) (by first | omega | (simp only [LC,LN];omega)) (fun h4 b0 c2=>(BG (M':=((bX p #[.int .u64 (b3)] 71)::(b0++(a0++F)))) (fun w h=>(h.perm (PW PM)).sub (TC _ (TR _))) ?_))))));obtain ⟨c9,d1,e2,f6⟩:=c2.shape;subst e2;refine sp 2 [(20,vP p 0),(19,vS a4 ns.length a5)] (sS (sc (some 21) (F:=((b0++(a0++F)))) (Up_ct _ (p) (b3) (10) (by omega) :) (.refl _) (fun g6 f4 g3 b7 e0=>?_)));obtain ⟨b4,c8,c5,c0,e6⟩:=e0;rw [c5,c0];clear c5 c0;refine nm ?_;refine sS (sbs 22 3 1 #[vI (↑c8)] (fun h2=>(sS (BN (d:=23) (x:=(.tmp 19)) (y:=(.tmp 22)) (T:=22) (T':=22) (E:=3) (E':=3) (sz:=1) (bs:=8) (z:=vI (0)) (cell:=AL) (xs:=ns) (ys:=[(↑c8:Int)]) (Ms:=a0) (ty:=22) (gd:=none) (by kernel_rfl) rfl (by kernel_rfl) (by kernel_rfl) (by kernel_rfl) (by kernel_rfl) (by kernel_rfl) (by decide) (by kernel_rfl) rfl rfl (a7) (PU (PU (PO _ _ _))) (CG _) (GZ 0 rfl rfl) (by first | omega | (simp only [LC,LN];omega)) (fun h5 b5 c3=>(BG (M':=((bX p #[.int .u64 (b4)] 71)::(b5++(b0++F)))) (fun w h=>(h.perm (PW PM)).sub (TC _ (TR _))) ?_))))));obtain ⟨d0,d2,e3,f7⟩:=c3.shape;subst e3;refine sp 2 [(6,vS d0 (ns++([(↑c8:Int)])).length d2),(5,vS c9 (hs++([(↑c7:Int)])).length d1)] (ee (NB (NX (rr (sp 1 [(12,vI ((r7)-↑c))] (sd (dsb 13 ((r7)-↑c) (1)) (sp 1 [(7,vI (((r7)-↑c)-1))] (ee ?_))))))));refine AO (((r7)).toNat-(c+1)) (by omega) ?_;intro a w hS hD hW;exact ⟨f4,c+1,hs++([(↑c7:Int)]),ns++([(↑c8:Int)]),b4,vS c9 (hs++([(↑c7:Int)])).length d1,b0,vS d0 (ns++([(↑c8:Int)])).length d2,b5,(IT (IT hJ0 b6) b7),by omega,by rw [LA,e8];rfl,by rw [LA,e9];rfl,small_snoc f1 e5,small_snoc f2 (by have hq:=e6;omega),c2,c3,hS.sub (.consE 5 rfl rfl (.consE 6 rfl rfl (.consE 7 rfl (congrArg (Value.int .i64) (by omega)) (.cons 0 rfl (.cons 2 rfl (.cons 3 rfl (.cons 4 rfl (.nil _)))))))),hD,hW.perm (PC _ (PO _ _ _)),rfl⟩
 have d7:=h1;have h1:=gtr_f h1;refine CH 0 ((EP (EP (EB (NX (rqr (sp 3 [(26,vP p 0),(25,vS a4 ns.length a5),(24,vS a2 hs.length a3)] (sS (sc (some 27) (F:=((a1++(a0++F)))) (From_ct _ (p) (d6) (1) (4) (by omega) (by omega) :) (.refl _) (fun g7 g9 g4 b8 e1=>?_))))))))));obtain ⟨d3,g0,c6,c1,e7⟩:=e1;rw [c6,c1];clear c6 c1;refine nm ?_;refine sp 3 [(4,vI ((g0))),(3,vS a4 ns.length a5),(2,vS a2 hs.length a3)] (se (BR (pst_ret3 (t:=2) (u:=3) (r:=4) ([(bX p #[.int .u64 (d3)] 71)]++(a1++(a0))) (by kernel_rfl) rfl rfl rfl (by simp only [AA,NA,CA];exact (TK _ (TA (TA (TR _) _) _))) (IT (IT d8 hJ0) b8) ?_)));exact ⟨_,_,_,_,_,_,_,_,rfl,rfl,drawn_of e8 e9 f8 (by omega) f1 f2 e7,a6,a7⟩
noncomputable def c_Sum (p:List Nat):Code:=sub (AP Try.f24) p
theorem Sum_ct (I:Imm) (q:Value) (xs:List Int) (q_f:BH I q xs) (hs:∀ x∈xs,-1000000≤x∧x≤1000000) (hl:xs.length≤1000):CtV Try.prog 24 #[q] I (vI (xs.sum)):=by
 obtain ⟨a1,a2,a7,b0,a4,a8,a9,a3⟩:=id q_f;subst a4;refine fr (args:=[_]) (N:=18) Try.func24 (fun F=>?_);show Run _ _ (c_Sum []) _ _ [(0,vS a1 xs.length a2)] _ _;refine rnm (rqr ?_);refine sp 1 [(2,vI (0))] (sn (sp 1 [(3,vI (0))] (se (rq (rqr (sp 1 [(4,vI (0))] (se (rb 0 ?_))))))));refine rl (fun mz a w=>∃ i:Nat,(i≤xs.length)∧Slots 18 [(3,vI ((xs.take i).sum)),(4,vI ↑i),(0,vS a1 xs.length a2),(2,vI (0))] a∧a.defers=[]∧St I (F) w∧mz=xs.length-i) ?_ ?_
 ·intro a w hS hD hW;exact ⟨_,0,Nat.zero_le _,hS.sub (.cons 3 rfl (.cons 4 rfl (.cons 0 rfl (.cons 2 rfl (.nil _))))),hD,hW,rfl⟩
 rintro mz a w ⟨i,hi,hS,hD,hW,rfl⟩
 refine AW hS hD hW ?_;clear hS hD hW a w;refine rq (rqr (sp 4 [(8,.bool (cmp .lss (↑i) (↑(xs.length))))] (se (rc 8 rfl (fun h1=>?_) (fun h1=>?_)))))
 ·
  have a0:=h1;have h1:=CJ h1;refine AQ (NX (rq (rb 1 ?_)));have a5:=sum_small (i:=i) hs hl;have a6:=hs _ (AV (xs:=xs) (d:=0) (k:=i) (by omega));refine rr (sp 3 [(13,vI (↑i)),(12,vS a1 xs.length a2),(11,vI ((xs.take i).sum))] (sd (di 14 1 (i) a3.addr) (sd (dl 15 (CE a3 (i) (by omega))) (sd (da 16 ((xs.take i).sum) (xs.getD (i) 0)) (sp 1 [(3,vI (((xs.take i).sum)+(xs.getD (i) 0)))] (ee (NB (NX (rr (sp 1 [(9,vI (↑i))] (sd (da 10 (↑i) (1)) (sp 1 [(4,vI (↑i+1))] (ee ?_)))))))))))));refine AO (xs.length-(i+1)) (by omega) ?_;intro a w hS hD hW;exact ⟨i+1,by omega,hS.sub (.consE 3 rfl (congrArg (Value.int .i64) (sum_snoc (by omega))) (.consE 4 rfl rfl (.cons 0 rfl (.cons 2 rfl (.nil _))))),hD,hW,rfl⟩
 have a0:=h1;have h1:=CQ h1;refine CH 0 ((EP (EP (EB (NX (rqr (sp 2 [(2,vI ((xs.take i).sum))] (se (BR (AH (t:=2) [] (by kernel_rfl) rfl (TR _) (IR _) ?_))))))))));exact ⟨congrArg (Value.int .i64) (sum_end (by omega)),rfl⟩
noncomputable def c_bales (p:List Nat):Code:=sub (AP Try.f25) p
theorem bales_ct (I:Imm) (q:Value) (zs:List Cart) (q_f:KI I q zs) (hs:∀ c∈zs,1≤c.bales∧c.bales≤200) (hl:zs.length≤100):CtV Try.prog 25 #[q] I (vI (FI zs)):=by
 obtain ⟨a1,a2,a4,a6,a5,a9,b0,a3⟩:=id q_f;subst a5;refine fr (args:=[_]) (N:=19) Try.func25 (fun F=>?_);show Run _ _ (c_bales []) _ _ [(0,vS a1 zs.length a2)] _ _;refine rnm (rqr ?_);refine sp 1 [(2,vI (0))] (sn (sp 1 [(3,vI (0))] (se (rq (rqr (sp 1 [(4,vI (0))] (se (rb 0 ?_))))))));refine rl (fun mz a w=>∃ i:Nat,(i≤zs.length)∧Slots 19 [(3,vI (FI (zs.take i))),(4,vI ↑i),(0,vS a1 zs.length a2),(2,vI (0))] a∧a.defers=[]∧St I (F) w∧mz=zs.length-i) ?_ ?_
 ·intro a w hS hD hW;exact ⟨_,0,Nat.zero_le _,hS.sub (.cons 3 rfl (.cons 4 rfl (.cons 0 rfl (.cons 2 rfl (.nil _))))),hD,hW,rfl⟩
 rintro mz a w ⟨i,hi,hS,hD,hW,rfl⟩
 refine AW hS hD hW ?_;clear hS hD hW a w;refine rq (rqr (sp 4 [(8,.bool (cmp .lss (↑i) (↑(zs.length))))] (se (rc 8 rfl (fun h1=>?_) (fun h1=>?_)))))
 ·
  have a0:=h1;have h1:=CJ h1;refine AQ (NX (rq (rb 1 ?_)));have a7:=bal_small (i:=i) hs hl;have a8:=hs _ (AV (xs:=zs) (d:=AJ) (k:=i) (by omega));refine rr (sp 3 [(13,vI (↑i)),(12,vS a1 zs.length a2),(11,vI (FI (zs.take i)))] (sd (di 14 3 (i) a3.addr) (sp 1 [(15,.pointer (some ⟨a4,a6+i*3+2,none⟩))] (sd (dl 16 (EU a3 (i) (by omega) 2 (by decide) (v:=vI ((zs.getD (i) AJ).bales)) rfl)) (sd (da 17 (FI (zs.take i)) ((zs.getD (i) AJ).bales)) (sp 1 [(3,vI ((FI (zs.take i))+((zs.getD (i) AJ).bales)))] (ee (NB (NX (rr (sp 1 [(9,vI (↑i))] (sd (da 10 (↑i) (1)) (sp 1 [(4,vI (↑i+1))] (ee ?_))))))))))))));refine AO (zs.length-(i+1)) (by omega) ?_;intro a w hS hD hW;exact ⟨i+1,by omega,hS.sub (.consE 3 rfl (congrArg (Value.int .i64) (bal_snoc (by omega))) (.consE 4 rfl rfl (.cons 0 rfl (.cons 2 rfl (.nil _))))),hD,hW,rfl⟩
 have a0:=h1;have h1:=CQ h1;refine CH 0 ((EP (EP (EB (NX (rqr (sp 2 [(2,vI (FI (zs.take i)))] (se (BR (AH (t:=2) [] (by kernel_rfl) rfl (TR _) (IR _) ?_))))))))));exact ⟨congrArg (Value.int .i64) (bal_end (by omega)),rfl⟩
noncomputable def c_earlier (p:List Nat):Code:=sub (AP Try.f27) p
theorem earlier_ct (I:Imm) (p:Value) (xs:List Cart) (q:Value) (ys:List Cart) (p_f:KI I p xs) (q_f:KI I q ys):CtV Try.prog 27 #[p,q] I (.bool (BQ xs ys)):=by
 obtain ⟨a3,a4,b0,b1,b7,b9,c0,a0⟩:=id p_f;subst b7;obtain ⟨a5,a6,b2,b3,b8,c1,c2,a1⟩:=id q_f;subst b8;refine fr (args:=[_,_]) (N:=82) Try.func27 (fun F=>?_);show Run _ _ (c_earlier []) _ _ [(0,vS a3 xs.length a4),(1,vS a5 ys.length a6)] _ _;refine rnm (rqr ?_);refine sp 1 [(4,.bool (false))] (se (rq (rqr (sp 1 [(5,vI (0))] (se (rb 0 ?_))))));refine rl (fun mz a w=>∃ i:Nat,(i≤xs.length)∧(BQ xs ys=BQ (xs.drop i) (ys.drop i))∧Slots 82 [(5,vI ↑i),(0,vS a3 xs.length a4),(1,vS a5 ys.length a6)] a∧a.defers=[]∧St I (F) w∧mz=xs.length-i) ?_ ?_
 ·intro a w hS hD hW;exact ⟨_,0,Nat.zero_le _,rfl,hS.sub (.cons 5 rfl (.cons 0 rfl (.cons 1 rfl (.nil _)))),hD,hW,rfl⟩
 rintro mz a w ⟨i,hi,he,hS,hD,hW,rfl⟩
 refine AW hS hD hW ?_;clear hS hD hW a w;refine rq (rq ?_);refine DY (fun a w=>Slots 82 [(0,vS a3 xs.length a4),(1,vS a5 ys.length a6),(5,vI (↑i)),(15,.bool ((cmp .lss (↑i) (↑(xs.length)))&&(cmp .lss (↑i) (↑(ys.length)))))] a∧a.defers=[]∧St I (F) w) ?_ ?_
 ·
  refine rr (sp 5 [(10,.bool (cmp .lss (↑i) (↑(xs.length))))] ?_);refine CC 10 rfl (fun h1=>?_) (fun h1=>?_)
  ·
   have a2:=h1;have a2:=CJ a2;refine sp 5 [(15,.bool (cmp .lss (↑i) (↑(ys.length))))] (ee ?_);refine AU (fun a w hS hD hW=>⟨hS.sub (.cons 0 rfl (.cons 1 rfl (.cons 5 rfl (.consE 15 rfl (congrArg Value.bool (by simp only [h1,kA,kB,kC,kD,kE,kF,kG,kH,kI,kJ])) (.nil _))))),hD,hW⟩)
  have a2:=h1;have a2:=CQ a2;refine sp 5 [(15,.bool (false))] (ee ?_);refine AU (fun a w hS hD hW=>⟨hS.sub (.cons 0 rfl (.cons 1 rfl (.cons 5 rfl (.consE 15 rfl (congrArg Value.bool (by simp only [h1,kA,kB,kC,kD,kE,kF,kG,kH,kI,kJ])) (.nil _))))),hD,hW⟩)
 rintro a w ⟨hS,hD,hW⟩
 refine AW hS hD hW ?_;clear hS hD hW a w;refine rc 15 rfl (fun h2=>?_) (fun h2=>?_)
 ·
  have a9:=h2;obtain ⟨a7,a8⟩:=MA h2;have a7:=CJ a7;have a8:=CJ a8;refine AQ (NX (rq (rb 1 (rq (rq ?_)))));refine rd0 8 (ox 2 [(19,vI (↑i)),(18,vS a3 xs.length a4)] ?_);refine AF (di 20 3 (i) a0.addr) ?_;refine AF (CI (x:=(.tmp 20)) (T:=58) (n:=3) (vs:=[vI ((xs.getD (i) AJ).frm),vI ((xs.getD (i) AJ).to),vI ((xs.getD (i) AJ).bales)]) (d:=21) (ty:=58) (gd:=none) (by kernel_rfl) rfl (by kernel_rfl) (by kernel_rfl) rfl rfl (DX (vals:=IH) (fun _=>rfl) a0 (i) (by omega))) (ox 2 [(23,vI (↑i)),(22,vS a5 ys.length a6)] ?_);refine AF (di 24 3 (i) a1.addr) ?_;refine AF (CI (x:=(.tmp 24)) (T:=58) (n:=3) (vs:=[vI ((ys.getD (i) AJ).frm),vI ((ys.getD (i) AJ).to),vI ((ys.getD (i) AJ).bales)]) (d:=25) (ty:=58) (gd:=none) (by kernel_rfl) rfl (by kernel_rfl) (by kernel_rfl) rfl rfl (DX (vals:=IH) (fun _=>rfl) a1 (i) (by omega))) ?_;refine BE (sd (det_eqAgg (L:=[(0,.i .i64),(1,.i .i64),(2,.i .i64)]) (x:=(.tmp 21)) (y:=(.tmp 25)) (T:=58) (T':=58) (d:=26) (ty:=4) (gd:=none) (by kernel_rfl) rfl (by kernel_rfl) rfl rfl rfl (eqCart (xs.getD (i) AJ) (ys.getD (i) AJ))) (se (rc 26 rfl (fun h3=>?_) (fun h3=>?_))))
  ·
   have b4:=h3;have h3:=dec_t h3;refine CH 1 ((EP (EB (NX (rr (sp 1 [(16,vI (↑i))] (sd (da 17 (↑i) (1)) (sp 1 [(5,vI (↑i+1))] (ee ?_)))))))));refine AO (xs.length-(i+1)) (by omega) ?_;intro a w hS hD hW;exact ⟨i+1,by omega,earlier_next (by omega) (by omega) he (by assumption),hS.sub (.consE 5 rfl rfl (.cons 0 rfl (.cons 1 rfl (.nil _)))),hD,hW,rfl⟩
  have b4:=h3;have h3:=dec_f h3;refine AQ (NX (rq (rq ?_)));refine rd0 10 (ox 2 [(28,vI (↑i)),(27,vS a3 xs.length a4)] ?_);refine AF (di 29 3 (i) a0.addr) (ox 1 [(30,.pointer (some ⟨b0,b1+i*3,none⟩))] ?_);refine AF (dl 31 (EU a0 (i) (by omega) 0 (by decide) (v:=vI ((xs.getD (i) AJ).frm)) rfl)) (ox 2 [(33,vI (↑i)),(32,vS a5 ys.length a6)] ?_);refine AF (di 34 3 (i) a1.addr) (ox 1 [(35,.pointer (some ⟨b2,b3+i*3,none⟩))] ?_);refine AF (dl 36 (EU a1 (i) (by omega) 0 (by decide) (v:=vI ((ys.getD (i) AJ).frm)) rfl)) ?_;refine BE (sp 1 [(37,.bool (!(cmp .eql ((xs.getD (i) AJ).frm) ((ys.getD (i) AJ).frm))))] (se (rc 37 rfl (fun h4=>?_) (fun h4=>?_))))
  ·
   have b5:=h4;have h4:=CT (CV h4);refine rq ?_;refine rd0 10 (ox 2 [(39,vI (↑i)),(38,vS a3 xs.length a4)] ?_);refine AF (di 40 3 (i) a0.addr) (ox 1 [(41,.pointer (some ⟨b0,b1+i*3,none⟩))] ?_);refine AF (dl 42 (EU a0 (i) (by omega) 0 (by decide) (v:=vI ((xs.getD (i) AJ).frm)) rfl)) (ox 2 [(44,vI (↑i)),(43,vS a5 ys.length a6)] ?_);refine AF (di 45 3 (i) a1.addr) (ox 1 [(46,.pointer (some ⟨b2,b3+i*3,none⟩))] ?_);refine AF (dl 47 (EU a1 (i) (by omega) 0 (by decide) (v:=vI ((ys.getD (i) AJ).frm)) rfl)) ?_;refine BE (sp 2 [(4,.bool (cmp .lss ((xs.getD (i) AJ).frm) ((ys.getD (i) AJ).frm)))] (se (BR ((RP (RB (RP (RP (RB (RP (AH (t:=4) [] (by kernel_rfl) rfl (TR _) (IR _) ?_)))))))))));exact ⟨congrArg Value.bool (earlier_frm (by omega) (by omega) he (by omega)).symm,rfl⟩
  have b5:=h4;have h4:=CP (CU h4);refine AQ (NX (rq (rq ?_)));refine rd0 10 (ox 2 [(50,vI (↑i)),(49,vS a3 xs.length a4)] ?_);refine AF (di 51 3 (i) a0.addr) (ox 1 [(52,.pointer (some ⟨b0,b1+i*3+1,none⟩))] ?_);refine AF (dl 53 (EU a0 (i) (by omega) 1 (by decide) (v:=vI ((xs.getD (i) AJ).to)) rfl)) (ox 2 [(55,vI (↑i)),(54,vS a5 ys.length a6)] ?_);refine AF (di 56 3 (i) a1.addr) (ox 1 [(57,.pointer (some ⟨b2,b3+i*3+1,none⟩))] ?_);refine AF (dl 58 (EU a1 (i) (by omega) 1 (by decide) (v:=vI ((ys.getD (i) AJ).to)) rfl)) ?_;refine BE (sp 1 [(59,.bool (!(cmp .eql ((xs.getD (i) AJ).to) ((ys.getD (i) AJ).to))))] (se (rc 59 rfl (fun h5=>?_) (fun h5=>?_))))
  ·
   have b6:=h5;have h5:=CT (CV h5);refine rq ?_;refine rd0 10 (ox 2 [(61,vI (↑i)),(60,vS a3 xs.length a4)] ?_);refine AF (di 62 3 (i) a0.addr) (ox 1 [(63,.pointer (some ⟨b0,b1+i*3+1,none⟩))] ?_);refine AF (dl 64 (EU a0 (i) (by omega) 1 (by decide) (v:=vI ((xs.getD (i) AJ).to)) rfl)) (ox 2 [(66,vI (↑i)),(65,vS a5 ys.length a6)] ?_);refine AF (di 67 3 (i) a1.addr) (ox 1 [(68,.pointer (some ⟨b2,b3+i*3+1,none⟩))] ?_);refine AF (dl 69 (EU a1 (i) (by omega) 1 (by decide) (v:=vI ((ys.getD (i) AJ).to)) rfl)) ?_;refine BE (sp 2 [(4,.bool (cmp .lss ((xs.getD (i) AJ).to) ((ys.getD (i) AJ).to)))] (se (BR ((RP (RB (RP (RP (RB (RP (AH (t:=4) [] (by kernel_rfl) rfl (TR _) (IR _) ?_)))))))))));exact ⟨congrArg Value.bool (earlier_to (by omega) (by omega) he (by omega) (by omega)).symm,rfl⟩
  have b6:=h5;have h5:=CP (CU h5);refine AQ (NX (rq ?_));refine rd0 10 (ox 2 [(72,vI (↑i)),(71,vS a3 xs.length a4)] ?_);refine AF (di 73 3 (i) a0.addr) (ox 1 [(74,.pointer (some ⟨b0,b1+i*3+2,none⟩))] ?_);refine AF (dl 75 (EU a0 (i) (by omega) 2 (by decide) (v:=vI ((xs.getD (i) AJ).bales)) rfl)) (ox 2 [(77,vI (↑i)),(76,vS a5 ys.length a6)] ?_);refine AF (di 78 3 (i) a1.addr) (ox 1 [(79,.pointer (some ⟨b2,b3+i*3+2,none⟩))] ?_);refine AF (dl 80 (EU a1 (i) (by omega) 2 (by decide) (v:=vI ((ys.getD (i) AJ).bales)) rfl)) ?_;refine BE (sp 2 [(4,.bool (cmp .lss ((xs.getD (i) AJ).bales) ((ys.getD (i) AJ).bales)))] (se (BR ((RB (RP (RP (RB (RP (AH (t:=4) [] (by kernel_rfl) rfl (TR _) (IR _) ?_))))))))));exact ⟨congrArg Value.bool (earlier_bal (by omega) (by omega) he (by omega) (by omega) (by assumption)).symm,rfl⟩
 have a9:=h2;refine CH 0 ((EP (EP (EB (NX (rqr (sp 1 [(4,.bool (false))] (se (BR (AH (t:=4) [] (by kernel_rfl) rfl (TR _) (IR _) ?_))))))))));exact ⟨congrArg Value.bool (earlier_end he a9).symm,rfl⟩
def ListsAt (n m:Nat):Prop:=∀ (I:Imm) (gv:Value) (g:List Int) (lv:Value) (l:List Int) (fo to:Nat) (fi ti:Int) (hfi:fi=(fo:Int)) (hti:ti=(to:Int)) (gv_f:BH I gv g) (lv_f:BH I lv l) (hgl:g.length=n) (hll:l.length=n) (hto:to≤n) (hfl:fo≤n) (hfr:fo*n+to+m=n*n) (hn:1≤n∧n≤4) (hB:(AN n m g l).length≤100000) (hgb:∀ x∈g,0≤x∧x≤50) (hlb:∀ x∈l,0≤x∧x≤50),Ct Try.prog 26 #[gv,lv,vI fi,vI ti] I [] (fun u I' M'=>∃ ws,Own 31 1 DZ u ws M'∧CartsV I' ws (AN n m g l))
noncomputable def c_Lists (p:List Nat):Code:=sub (AP Try.f26) p
set_option maxHeartbeats 1000000 in
theorem lists_of (n m:Nat) (ihm:∀ q,m=q+1→ListsAt n q) (I:Imm) (gv:Value) (g:List Int) (lv:Value) (l:List Int) (fo to:Nat) (fi ti:Int) (hfi:fi=(fo:Int)) (hti:ti=(to:Int)) (gv_f:BH I gv g) (lv_f:BH I lv l) (hgl:g.length=n) (hll:l.length=n) (hto:to≤n) (hfl:fo≤n) (hfr:fo*n+to+m=n*n) (hn:1≤n∧n≤4) (hB:(AN n m g l).length≤100000) (hgb:∀ x∈g,0≤x∧x≤50) (hlb:∀ x∈l,0≤x∧x≤50) (ihs:to=n→fo<n→Ct Try.prog 26 #[gv,lv,vI ((fo:Int)+1),vI 0] I [] (fun u I' M'=>∃ ws,Own 31 1 DZ u ws M'∧CartsV I' ws (AN n m g l))):Ct Try.prog 26 #[gv,lv,vI fi,vI ti] I [] (fun u I' M'=>∃ ws,Own 31 1 DZ u ws M'∧CartsV I' ws (AN n m g l)):=by
 subst hfi hti;obtain ⟨b2,b3,q9,r2,m7,r0,r1,d3⟩:=id gv_f;obtain ⟨a9,b0,r7,s0,o4,r8,r9,b8⟩:=id lv_f;subst m7;subst o4;refine fr (args:=[_,_,_,_]) (N:=114) Try.func26 (fun F=>?_);show Run _ _ (c_Lists []) _ _ [(0,vS b2 g.length b3),(1,vS a9 l.length b0),(2,vI (↑fo)),(3,vI (↑to))] _ _;refine rnm (rqr ?_);refine sp 1 [(8,vN)] (se (rq (rqr (sp 4 [(19,.bool (cmp .eql (↑fo) (↑(g.length))))] (se (rc 19 rfl (fun h1=>?_) (fun h1=>?_)))))))
 ·
  have m8:=h1;have h1:=CP h1;refine rq (rqr (sp 1 [(9,vI (0))] (se (rb 0 ?_))));refine rl (fun mz a w=>∃ k:Nat,(k≤l.length)∧(∀ x∈l.take k,x≤0)∧Slots 114 [(9,vI ↑k),(0,vS b2 g.length b3),(1,vS a9 l.length b0),(2,vI (↑fo)),(3,vI (↑to))] a∧a.defers=[]∧St I (F) w∧mz=l.length-k) ?_ ?_
  ·intro a w hS hD hW;exact ⟨_,0,Nat.zero_le _,(fun x hx=>by simp at hx),hS.sub (.cons 9 rfl (.cons 0 rfl (.cons 1 rfl (.cons 2 rfl (.cons 3 rfl (.nil _)))))),hD,hW,rfl⟩
  rintro mz a w ⟨k,hk,p6,hS,hD,hW,rfl⟩
  refine AW hS hD hW ?_;clear hS hD hW a w;refine rq (rqr (sp 4 [(23,.bool (cmp .lss (↑k) (↑(l.length))))] (se (rc 23 rfl (fun h2=>?_) (fun h2=>?_)))))
  ·
   have m9:=h2;have h2:=CJ h2;refine AQ (NX (rq (rb 1 (rqr (sp 2 [(27,vI (↑k)),(26,vS a9 l.length b0)] (sd (di 28 1 (k) b8.addr) (sd (dl 29 (CE b8 (k) (by omega))) (sp 1 [(30,.bool (cmp .gtr (l.getD (k) 0) (0)))] (se (rc 30 rfl (fun h3=>?_) (fun h3=>?_)))))))))))
   ·
    have n0:=h3;have h3:=MG h3;refine rqr (sp 1 [(8,vN)] (se (BR ((RB (RP (RP (RB (RP (RP (AH (t:=8) ([]) (by kernel_rfl) rfl (TR _) (IR _) ?_)))))))))));have n5:m=0:=m_zero (by omega) hfr;subst n5;exact ⟨_,Own.nil _ _ _,(show []=AN n 0 g l from (lists_zf (k:=k) (by omega) (by omega)).symm)▸CartsV.nil _⟩
   have n0:=h3;have h3:=gtr_f h3;refine AQ (NB (NX (rr (sp 1 [(24,vI (↑k))] (sd (da 25 (↑k) (1)) (sp 1 [(9,vI (↑k+1))] (ee ?_)))))));refine AO (l.length-(k+1)) (by omega) ?_;intro a w hS hD hW;exact ⟨k+1,by omega,le_snoc p6 (by omega) (by omega),hS.sub (.consE 9 rfl rfl (.cons 0 rfl (.cons 1 rfl (.cons 2 rfl (.cons 3 rfl (.nil _)))))),hD,hW,rfl⟩
  have m9:=h2;have h2:=CQ h2;refine CH 0 ((EP (EP (EB (NX (rqr (sS (sbs 31 31 1 #[vN] (fun b1=>(sp 1 [(8,vS (some ⟨b1,0,none⟩) 1 1)] (se (BR ((RP (ppm (M':=(([(bX b1 #[vN] 31)]++F))) (PR _) ?_)))))))))))))));have r5:Own 31 1 DZ (vS (some ⟨b1,0,none⟩) 1 1) ([(vN:Value)]:List Value) [(bX b1 #[vN] 31)]:=Own.lit rfl rfl;have k2:=((CartsV.nil I).snoc (IsSl.nil _));simp only [NA,CA] at k2;refine AH (t:=8) ([(bX b1 #[vN] 31)]) (by kernel_rfl) rfl (TK _ (TR _)) (IR _) ?_;have n5:m=0:=m_zero (by omega) hfr;subst n5;exact ⟨_,r5,(show [[]]=AN n 0 g l from (lists_zt (fun x hx=>p6 x (by rw [List.take_of_length_le (by omega)];exact hx))).symm)▸k2⟩
 have m8:=h1;have h1:=CT h1;refine AQ (NX (rq (rqr (sp 4 [(35,.bool (cmp .eql (↑to) (↑(g.length))))] (se (rc 35 rfl (fun h4=>?_) (fun h4=>?_)))))))
 ·
  have n1:=h4;have h4:=CP h4;refine rqr (sp 3 [(38,vI (↑fo)),(37,vS a9 l.length b0),(36,vS b2 g.length b3)] (sd (da 39 (↑fo) (1)) ?_));have j4:=ihs (by omega) (by omega);refine sS (FA (d:=some 40) (f:=(.func 26)) (fid:=26) (args:=#[(.tmp 36),(.tmp 37),(.tmp 39),(.const (vI 0))]) (tys:=#[22,22,3,3]) (cv:=[]) (F:=(F)) (ty:=59) (gd:=none) (by kernel_rfl) rfl rfl rfl (by kernel_rfl) rfl j4 (PR _) (fun t1 I5 o3 d8 r6=>?_));obtain ⟨j9,f8,j8⟩:=r6;replace gv_f:=gv_f.mono d8;replace d3:=d3.mono d8;replace lv_f:=lv_f.mono d8;replace b8:=b8.mono d8;obtain ⟨e9,f0,i3,p2⟩:=f8.shape;subst i3;have e2:=j8.1
  try simp only [LS,LA,LC,LN,LK] at e2
  refine nm ?_;show Seq _ _ _ _ _ _ ((40,vS e9 j9.length f0)::_) _ _;refine sp 1 [(8,vS e9 j9.length f0)] (se (BR ((RP (AH (t:=8) (o3) (by kernel_rfl) rfl (TA (TR _) _) d8 ?_)))));exact ⟨_,f8,j8⟩
 have n1:=h4;have h4:=CT h4;refine AQ (NX (rq ?_));have i1:to<n:=by omega
 have n4:fo<n:=by omega
 obtain ⟨q,rfl⟩:=m_pos n4 i1 hfr;have ih:=ihm q rfl;obtain ⟨hB1,hB2⟩:=lists_parts hfr i1 hB;have r4:n*n≤16:=Nat.mul_le_mul hn.2 hn.2;have t6:=hgb _ (AV (xs:=g) (d:=0) (k:=fo) (by omega));have t8:=hlb _ (AV (xs:=l) (d:=0) (k:=to) (by omega));refine rr (sp 1 [(10,vN)] (se (rq (rqr (sp 1 [(11,vI (1))] (se (rb 2 ?_)))))));refine rl (fun mz a w=>∃ J1:Imm,∃ c:Nat,∃ c9:Value,∃ a1:Seg,∃ a3:List Value,(I.le J1)∧(c≤(min (g.getD fo 0) (l.getD to 0)).toNat)∧(CartsV J1 a3 (JK n q fo to g l c))∧(Own 31 1 DZ c9 (a3) a1)∧Slots 114 [(10,c9),(11,vI (↑c+1)),(0,vS b2 g.length b3),(1,vS a9 l.length b0),(2,vI (↑fo)),(3,vI (↑to)),(8,vN)] a∧a.defers=[]∧St J1 ((a1++F)) w∧mz=(min (g.getD fo 0) (l.getD to 0)).toNat-c) ?_ ?_
 ·intro a w hS hD hW;exact ⟨_,I,0,(vN),[],[],IR _,Nat.zero_le _,(CartsV.nil _),(Own.nil _ _ _),hS.sub (.cons 10 rfl (.cons 11 rfl (.cons 0 rfl (.cons 1 rfl (.cons 2 rfl (.cons 3 rfl (.cons 8 rfl (.nil _)))))))),hD,hW,rfl⟩
 rintro mz a w ⟨J1,c,c9,a1,a3,hJ1,hc,a0,c5,hS,hD,hW,rfl⟩
 refine AW hS hD hW ?_;clear hS hD hW a w;replace gv_f:=gv_f.mono hJ1;replace d3:=d3.mono hJ1;replace lv_f:=lv_f.mono hJ1;replace b8:=b8.mono hJ1;obtain ⟨a7,a8,e6,k5⟩:=c5.shape;subst e6;have c7:=a0.1
 try simp only [LS,LA,LC,LN,LK] at c7
 refine rq (rq ?_);refine DY (fun a w=>Slots 114 [(0,vS b2 g.length b3),(1,vS a9 l.length b0),(2,vI (↑fo)),(3,vI (↑to)),(8,vN),(10,vS a7 a3.length a8),(11,vI (↑c+1)),(54,.bool ((cmp .leq (↑c+1) (g.getD (fo) 0))&&(cmp .leq (↑c+1) (l.getD (to) 0))))] a∧a.defers=[]∧St J1 ((a1++F)) w) ?_ ?_
 ·
  refine rr (sp 3 [(43,vI (↑fo)),(42,vS b2 g.length b3),(41,vI (↑c+1))] (sd (di 44 1 (fo) d3.addr) (sd (dl 45 (CE d3 (fo) (by omega))) (sp 2 [(47,.bool (cmp .leq (↑c+1) (g.getD (fo) 0)))] ?_))));refine CC 47 rfl (fun h5=>?_) (fun h5=>?_)
  ·
   have d7:=h5;have d7:=leq_t d7;refine sp 3 [(50,vI (↑to)),(49,vS a9 l.length b0),(48,vI (↑c+1))] (sd (di 51 1 (to) b8.addr) (sd (dl 52 (CE b8 (to) (by omega))) (sp 2 [(54,.bool (cmp .leq (↑c+1) (l.getD (to) 0)))] (ee ?_))));refine AU (fun a w hS hD hW=>⟨hS.sub (.cons 0 rfl (.cons 1 rfl (.cons 2 rfl (.cons 3 rfl (.cons 8 rfl (.cons 10 rfl (.cons 11 rfl (.consE 54 rfl (congrArg Value.bool (by simp only [h5,kA,kB,kC,kD,kE,kF,kG,kH,kI,kJ])) (.nil _))))))))),hD,hW⟩)
  have d7:=h5;have d7:=leq_f d7;refine sp 7 [(54,.bool (false))] (ee ?_);refine AU (fun a w hS hD hW=>⟨hS.sub (.cons 0 rfl (.cons 1 rfl (.cons 2 rfl (.cons 3 rfl (.cons 8 rfl (.cons 10 rfl (.cons 11 rfl (.consE 54 rfl (congrArg Value.bool (by simp only [h5,kA,kB,kC,kD,kE,kF,kG,kH,kI,kJ])) (.nil _))))))))),hD,hW⟩)
 rintro a w ⟨hS,hD,hW⟩
 refine AW hS hD hW ?_;clear hS hD hW a w;refine rc 54 rfl (fun h6=>?_) (fun h6=>?_)
 ·
  have j3:=h6;obtain ⟨j1,j2⟩:=MA h6;have j1:=leq_t j1;have j2:=leq_t j2;refine AQ (NX (rq (rb 3 (rqr (sS (sbs 57 3 0 #[] (fun k9=>(sp 1 [(58,vS b2 g.length b3)] ?_))))))));have n6:Own 3 1 AL (vS (some ⟨k9,0,none⟩) 0 0) ([]:List Int) [(bX k9 #[] 3)]:=Own.lit rfl rfl;refine sS (BN (d:=59) (x:=(.tmp 57)) (y:=(.tmp 58)) (T:=22) (T':=22) (E:=3) (E':=3) (sz:=1) (bs:=8) (z:=vI (0)) (cell:=AL) (xs:=([]:List Int)) (ys:=g) (Ms:=[(bX k9 #[] 3)]) (ty:=22) (gd:=none) (by kernel_rfl) rfl (by kernel_rfl) (by kernel_rfl) (by kernel_rfl) (by kernel_rfl) (by kernel_rfl) (by decide) (by kernel_rfl) rfl rfl (n6) (PR _) (CG _) gv_f.src (by first | omega | (simp only [LC,LN,LA,LK,LD];omega)) (fun u1 i8 d9=>?_));rw [NA] at d9;refine nm ?_;obtain ⟨f3,f5,o7,s6⟩:=d9.shape;subst o7;refine sS (sbs 60 3 0 #[] (fun l0=>(sp 1 [(61,vS a9 l.length b0)] ?_)));have n7:Own 3 1 AL (vS (some ⟨l0,0,none⟩) 0 0) ([]:List Int) [(bX l0 #[] 3)]:=Own.lit rfl rfl;refine sS (BN (d:=62) (x:=(.tmp 60)) (y:=(.tmp 61)) (T:=22) (T':=22) (E:=3) (E':=3) (sz:=1) (bs:=8) (z:=vI (0)) (cell:=AL) (xs:=([]:List Int)) (ys:=l) (Ms:=[(bX l0 #[] 3)]) (ty:=22) (gd:=none) (by kernel_rfl) rfl (by kernel_rfl) (by kernel_rfl) (by kernel_rfl) (by kernel_rfl) (by kernel_rfl) (by decide) (by kernel_rfl) rfl rfl (n7) (PR _) (CG _) lv_f.src (by first | omega | (simp only [LC,LN,LA,LK,LD];omega)) (fun u2 f1 e0=>?_));rw [NA] at e0;refine nm ?_;obtain ⟨f4,f6,o8,s7⟩:=e0.shape;subst o8;refine sp 2 [(13,vS f4 l.length f6),(12,vS f3 g.length f5)] (se (rq ?_));refine rdX (M:=((f1++(i8++(a1++[]))))) (F0:=F) [] 18 [(0,true),(1,true),(2,true),(3,true),(4,true),(5,true),(6,true),(7,true),(8,true),(9,true),(10,true),(11,true),(12,true),(13,true),(14,true),(15,true),(16,true),(17,false)] (by simp only [AA,CA,NA,List.append_nil];exact PR _) HH ?_;refine AG (AM (d:=63) (v:=vS f3 g.length f5) (by kernel_rfl)) ?_;refine AG (AM (d:=64) (v:=vI (↑fo)) (by kernel_rfl)) ?_;refine BD (AM (d:=65) (v:=vS f4 l.length f6) (by kernel_rfl)) ?_;refine BD (AM (d:=66) (v:=vI (↑to)) (by kernel_rfl)) ?_;refine AG (AM (d:=67) (v:=vS f3 g.length f5) (by kernel_rfl)) ?_;refine AG (AM (d:=68) (v:=vI (↑fo)) (by kernel_rfl)) ?_;obtain ⟨s1,g1⟩:=d9.row 0;refine AG (di 69 1 (fo) g1.addr) ?_;refine AG (dl 70 (g1.get (fo) (by omega) 0 (by decide) _ _ (fun x hx=>by simp [hx]))) ?_;refine AG (AM (d:=71) (v:=vI (↑c+1)) (by kernel_rfl)) ?_;refine AG (dsb 72 (g.getD (fo) 0) (↑c+1)) ?_;refine AG (AM (d:=73) (v:=vS f4 l.length f6) (by kernel_rfl)) ?_;refine AG (AM (d:=74) (v:=vI (↑to)) (by kernel_rfl)) ?_;obtain ⟨s2,g2⟩:=e0.row 0;refine AG (di 75 1 (to) g2.addr) ?_;refine AG (dl 76 (g2.get (to) (by omega) 0 (by decide) _ _ (fun x hx=>by simp [hx]))) ?_;refine BD (AM (d:=77) (v:=vI (↑c+1)) (by kernel_rfl)) ?_;refine BD (dsb 78 (l.getD (to) 0) (↑c+1)) ?_;obtain ⟨s3,g3⟩:=d9.row 0;refine AG (di 79 1 (fo) g3.addr) ?_;refine ET (Mx:=fun FX=>((f1++(i8++(a1++FX))))) rfl (fun FX=>by simp only [AA,CA,NA,List.append_nil];exact PR _) (fun FX=>?_);refine id (CD (T:=3) (x:=(.tmp 79)) (y:=(.tmp 72)) (rc:=fun i f=>AL ((g).getD i 0) f) 0 (fo) 0 ((g.getD (fo) 0)-(↑c+1)) (ty:=0) (gd:=none) (by kernel_rfl) rfl d9 g3 (by omega) (by decide) rfl rfl (by kernel_rfl) rfl rfl (by intro f hf;match f,hf with | 0,_=>rfl) (PO _ _ _) (fun i9 n8=>?_));refine GL (M1:=((i9++(f1++(a1++[]))))) (by simp only [AA,CA,NA,List.append_nil];exact (PR _)) (.wait (by kernel_rfl) (.none (.none (.wait (by kernel_rfl) (.wait (by kernel_rfl) (.wait (by kernel_rfl) (.wait (by kernel_rfl) (.wait (by kernel_rfl) (.wait (by kernel_rfl) (.wait (by kernel_rfl) (.wait (by kernel_rfl) (.wait (by kernel_rfl) (.wait (by kernel_rfl) (.none (.none (.wait (by kernel_rfl) (.wait (by kernel_rfl) .nil))))))))))))))))) ?_;refine FM (BG (M':=((i9++(f1++(a1++F))))) (fun w h=>by simpa only [AA,CA,NA,List.append_nil] using h) (nm ?_));obtain ⟨s4,g4⟩:=e0.row 0;refine sd (di 80 1 (to) g4.addr) (sS (CD (T:=3) (x:=(.tmp 80)) (y:=(.tmp 78)) (rc:=fun i f=>AL ((l).getD i 0) f) 0 (to) 0 ((l.getD (to) 0)-(↑c+1)) (ty:=0) (gd:=none) (by kernel_rfl) rfl e0 g4 (by omega) (by decide) rfl rfl (by kernel_rfl) rfl rfl (by intro f hf;match f,hf with | 0,_=>rfl) (PO _ _ _) (fun k7 n9=>(nm (sn ?_)))));refine sp 4 [(84,vI (↑to)),(83,vI (↑fo)),(82,vS f4 l.length f6),(81,vS f3 g.length f5)] (sd (da 85 (↑to) (1)) (sfz (A:=((k7++(a1++F)))) 0 n8 (PO _ _ _) (fun t4 d1 a6=>?_)));replace gv_f:=gv_f.mono d1;replace lv_f:=lv_f.mono d1;replace a0:=a0.mono d1;obtain ⟨l2,l4,l3,l5,c2,g7,g8,g9⟩:=id a6;simp only [LS] at c2 g7 g8 g9
  first | cases c2 | (injection c2 with fz33_e1 fz33_e2 fz33_e3;subst fz33_e1;subst fz33_e3;try rw [← fz33_e2] at a6)
  refine sfz 0 n9 (.refl _) (fun q5 b6 c4=>?_);replace gv_f:=gv_f.mono b6;replace lv_f:=lv_f.mono b6;replace a0:=a0.mono b6;replace a6:=a6.mono b6;obtain ⟨l6,l8,l7,l9,c3,h0,h8,h9⟩:=id c4;simp only [LS] at c3 h0 h8 h9
  first | cases c3 | (injection c3 with fz36_e1 fz36_e2 fz36_e3;subst fz36_e1;subst fz36_e3;try rw [← fz36_e2] at c4)
  have r3:c<(min (g.getD fo 0) (l.getD to 0)).toNat:=by omega
  have t7:=haul_part (n:=n) (q:=q) (B:=100000) (fr:=fo) (to:=to) (g:=g) (l:=l) (by omega) r3;have j4:=ih q5 _ (less fo (c+1) g) _ (less to (c+1) l) fo (to+1) (↑fo) (↑to+1) rfl (by omega) a6 c4 (by rw [less_lenR];exact hgl) (by rw [less_lenR];exact hll) (by omega) (by omega) (by omega) hn (by omega) (less_bound hgb (by omega)) (less_bound hlb (by omega));refine sS (FA (d:=some 86) (f:=(.func 26)) (fid:=26) (args:=#[(.tmp 81),(.tmp 82),(.tmp 83),(.tmp 85)]) (tys:=#[22,22,3,3]) (cv:=[]) (F:=((a1++F))) (ty:=59) (gd:=none) (by kernel_rfl) rfl rfl rfl (by kernel_rfl) rfl j4 (PR _) (fun t2 p5 e1 d2 o1=>?_));obtain ⟨b9,f9,f2⟩:=o1;replace gv_f:=gv_f.mono d2;replace lv_f:=lv_f.mono d2;replace a0:=a0.mono d2;obtain ⟨b4,b5,i4,p3⟩:=f9.shape;subst i4;have e3:=f2.1
  try simp only [LS,LA,LC,LN,LK] at e3
  refine nm ?_;show Seq _ _ _ _ _ _ ((86,vS b4 b9.length b5)::_) _ _;refine sp 1 [(14,vS b4 b9.length b5)] (sn (sp 1 [(15,vI (0))] (se (rb 4 ?_))));refine rl (fun mz a w=>∃ J2:Imm,∃ i:Nat,∃ d0:Value,∃ a4:Seg,∃ a2:List Value,(p5.le J2)∧(i≤(AN n q (less fo (c+1) g) (less to (c+1) l)).length)∧(CartsV J2 a2 (JK n q fo to g l c++(((AN n q (less fo (c+1) g) (less to (c+1) l)).take i).map fun r=>(⟨(fo:Int),(to:Int),(c:Int)+1⟩:Cart)::r)))∧(Own 31 1 DZ d0 (a2) a4)∧Slots 114 [(10,d0),(15,vI ↑i),(0,vS b2 g.length b3),(1,vS a9 l.length b0),(2,vI (↑fo)),(3,vI (↑to)),(8,vN),(11,vI (↑c+1)),(14,vS b4 b9.length b5)] a∧a.defers=[]∧St J2 ((e1++(a4++F))) w∧mz=(AN n q (less fo (c+1) g) (less to (c+1) l)).length-i) ?_ ?_
  ·intro a w hS hD hW;exact ⟨_,p5,0,vS a7 a3.length a8,a1,a3,IR _,Nat.zero_le _,(show CartsV _ _ (_++[]) from by rw [List.append_nil];exact a0),c5,hS.sub (.cons 10 rfl (.cons 15 rfl (.cons 0 rfl (.cons 1 rfl (.cons 2 rfl (.cons 3 rfl (.cons 8 rfl (.cons 11 rfl (.cons 14 rfl (.nil _)))))))))),hD,hW,rfl⟩
  rintro mz a w ⟨J2,i,d0,a4,a2,hJ2,hi,a5,c6,hS,hD,hW,rfl⟩
  refine AW hS hD hW ?_;clear hS hD hW a w;replace gv_f:=gv_f.mono hJ2;replace lv_f:=lv_f.mono hJ2;replace a0:=a0.mono hJ2;replace f2:=f2.mono hJ2;obtain ⟨c0,c1,e7,k6⟩:=c6.shape;subst e7;have c8:=a5.1
  try simp only [LS,LA,LC,LN,LK] at c8
  refine rq (rqr (sp 4 [(90,.bool (cmp .lss (↑i) (↑(b9.length))))] (se (rc 90 rfl (fun h7=>?_) (fun h7=>?_)))))
  ·
   have n2:=h7;have h7:=CJ h7;refine AQ (NX (rq (rb 5 (rr (sp 5 [(97,.agg #[vI (↑fo),vI (↑to),vI (↑c+1)]),(93,vS c0 a2.length c1)] (sS (sbs 98 58 1 #[vI (↑fo),vI (↑to),vI (↑c+1)] (fun l1=>(sp 2 [(100,vI (↑i)),(99,vS b4 b9.length b5)] ?_)))))))));obtain ⟨s5,g5⟩:=f9.row undef;refine sd (di 101 1 (i) g5.addr) ?_;have e8:=f2.2 (i) (by omega);obtain ⟨p8,q0,p9,q3,g6,q1,q2,q4⟩:=id e8;rw [g6] at e8;refine sd (GS (dl 102 (g5.get (i) (by omega) 0 (by decide) _ _ (fun x hx=>by simp [hx]))) g6) ?_;have u0:=lists_lenM (AV (xs:=AN n q (less fo (c+1) g) (less to (c+1) l)) (d:=[]) (k:=i) (by omega));have o0:Own 58 3 FY (vS (some ⟨l1,0,none⟩) 1 1) ([(⟨↑fo,↑to,↑c+1⟩:Cart)]:List Cart) [(bX l1 #[vI (↑fo),vI (↑to),vI (↑c+1)] 58)]:=Own.lit rfl rfl;refine sS (BN (d:=103) (x:=(.tmp 98)) (y:=(.tmp 102)) (T:=31) (T':=31) (E:=58) (E':=58) (sz:=3) (bs:=24) (z:=.agg #[vI (0),vI (0),vI (0)]) (cell:=FY) (xs:=([(⟨↑fo,↑to,↑c+1⟩:Cart)]:List Cart)) (ys:=(AN n q (less fo (c+1) g) (less to (c+1) l)).getD (i) []) (Ms:=[(bX l1 #[vI (↑fo),vI (↑to),vI (↑c+1)] 58)]) (ty:=31) (gd:=none) (by kernel_rfl) rfl (by kernel_rfl) (by kernel_rfl) (by kernel_rfl) (by kernel_rfl) (by kernel_rfl) (by decide) (by kernel_rfl) rfl rfl (o0) (PR _) (NC _) e8.src (by first | omega | (simp only [LC,LN,LA,LK,LD];omega)) (fun u3 q7 j5=>(nm ?_)));obtain ⟨d4,d5,o9,s8⟩:=j5.shape;subst o9;refine sS (sbs 104 31 1 #[vS d4 ((([(⟨↑fo,↑to,↑c+1⟩:Cart)]:List Cart))++((AN n q (less fo (c+1) g) (less to (c+1) l)).getD (i) [])).length d5] (fun q8=>(sfz (A:=((bX q8 #[vS d4 ((([(⟨↑fo,↑to,↑c+1⟩:Cart)]:List Cart))++((AN n q (less fo (c+1) g) (less to (c+1) l)).getD (i) [])).length d5] 31)::(e1++(a4++F)))) AJ j5 (PM.symm) (fun q6 b7 d6=>?_))));replace gv_f:=gv_f.mono b7;replace lv_f:=lv_f.mono b7;replace a0:=a0.mono b7;replace a5:=a5.mono b7;obtain ⟨m0,m2,m1,m5,i0,m3,m4,m6⟩:=id d6;cases i0;refine sS (BN (d:=105) (x:=(.tmp 93)) (y:=(.tmp 104)) (T:=59) (T':=59) (E:=31) (E':=31) (sz:=1) (bs:=24) (z:=vN) (cell:=DZ) (xs:=a2) (ys:=[(vS d4 ((([(⟨↑fo,↑to,↑c+1⟩:Cart)]:List Cart))++((AN n q (less fo (c+1) g) (less to (c+1) l)).getD (i) [])).length d5:Value)]) (Ms:=a4) (ty:=59) (gd:=none) (by kernel_rfl) rfl (by kernel_rfl) (by kernel_rfl) (by kernel_rfl) (by kernel_rfl) (by kernel_rfl) (by decide) (by kernel_rfl) rfl rfl (c6) (PU (PO _ _ _)) (KQ rfl) (GZ 0 rfl rfl) (by first | omega | (have hq:=a5.1;simp only [LA,List.length_map,LK] at hq;simp only [LC,LN];omega)) (fun u4 j0 j6=>(BG (M':=((j0++(e1++F)))) (fun w h=>(h.perm PM).sub (TC _ (TR _))) ?_)));obtain ⟨k0,k1,p0,s9⟩:=j6.shape;subst p0;have k3:=(a5).snoc d6;refine sp 1 [(10,vS k0 (a2++([(vS d4 ((([(⟨↑fo,↑to,↑c+1⟩:Cart)]:List Cart))++((AN n q (less fo (c+1) g) (less to (c+1) l)).getD (i) [])).length d5:Value)])).length k1)] (ee (NB (NX (rr (sp 1 [(91,vI (↑i))] (sd (da 92 (↑i) (1)) (sp 1 [(15,vI (↑i+1))] (ee ?_))))))));refine AO ((AN n q (less fo (c+1) g) (less to (c+1) l)).length-(i+1)) (by omega) ?_;intro a w hS hD hW;exact ⟨q6,i+1,vS k0 (a2++([(vS d4 ((([(⟨↑fo,↑to,↑c+1⟩:Cart)]:List Cart))++((AN n q (less fo (c+1) g) (less to (c+1) l)).getD (i) [])).length d5:Value)])).length k1,j0,a2++([(vS d4 ((([(⟨↑fo,↑to,↑c+1⟩:Cart)]:List Cart))++((AN n q (less fo (c+1) g) (less to (c+1) l)).getD (i) [])).length d5:Value)]),(IT hJ2 b7),by omega,(by rw [haul_take (by omega),← AA];exact k3),j6,hS.sub (.consE 10 rfl rfl (.consE 15 rfl rfl (.cons 0 rfl (.cons 1 rfl (.cons 2 rfl (.cons 3 rfl (.cons 8 rfl (.cons 11 rfl (.cons 14 rfl (.nil _)))))))))),hD,hW.perm (PO _ _ _),rfl⟩
  have n2:=h7;have h7:=CQ h7;refine CH 4 ((EP (EP (EB (NB (NX (rr (sp 1 [(55,vI (↑c+1))] (sd (da 56 (↑c+1) (1)) (sp 1 [(11,vI ((↑c+1)+1))] (ee ?_)))))))))));refine AO ((min (g.getD fo 0) (l.getD to 0)).toNat-(c+1)) (by omega) ?_;intro a w hS hD hW;exact ⟨J2,c+1,vS c0 a2.length c1,a4,a2,(IT (IT (IT (IT hJ1 d1) b6) d2) hJ2),by omega,(by rw [MH];unfold haulF;have hq:=a5;rw [List.take_of_length_le (show _≤i by omega)] at hq;exact hq),c6,hS.sub (.consE 10 rfl rfl (.consE 11 rfl rfl (.cons 0 rfl (.cons 1 rfl (.cons 2 rfl (.cons 3 rfl (.cons 8 rfl (.nil _)))))))),hD,(hW.perm (PR _)).sub (TT (TR _) (TB _ _)),rfl⟩
 have j3:=h6;refine CH 2 ((EP (EP (EB (NX (rqr (sp 5 [(110,vI (↑to)),(109,vI (↑fo)),(108,vS a9 l.length b0),(107,vS b2 g.length b3),(106,vS a7 a3.length a8)] (sd (da 111 (↑to) (1)) ?_))))))));have j4:=ih J1 _ g _ l fo (to+1) (↑fo) (↑to+1) rfl (by omega) gv_f lv_f hgl hll (by omega) (by omega) (by omega) hn hB1 hgb hlb;refine sS (FA (d:=some 112) (f:=(.func 26)) (fid:=26) (args:=#[(.tmp 107),(.tmp 108),(.tmp 109),(.tmp 111)]) (tys:=#[22,22,3,3]) (cv:=[]) (F:=((a1++F))) (ty:=59) (gd:=none) (by kernel_rfl) rfl rfl rfl (by kernel_rfl) rfl j4 (PR _) (fun t3 t5 p7 f7 o2=>?_));obtain ⟨e5,g0,i2⟩:=o2;replace a0:=a0.mono f7;obtain ⟨i5,i6,i7,p4⟩:=g0.shape;subst i7;have e4:=i2.1
 try simp only [LS,LA,LC,LN,LK] at e4
 refine nm ?_;show Seq _ _ _ _ _ _ ((112,vS i5 e5.length i6)::_) _ _;refine sS (BN (d:=113) (x:=(.tmp 106)) (y:=(.tmp 112)) (T:=59) (T':=59) (E:=31) (E':=31) (sz:=1) (bs:=24) (z:=vN) (cell:=DZ) (xs:=a3) (ys:=e5) (Ms:=a1) (ty:=59) (gd:=none) (by kernel_rfl) rfl (by kernel_rfl) (by kernel_rfl) (by kernel_rfl) (by kernel_rfl) (by kernel_rfl) (by decide) (by kernel_rfl) rfl rfl (c5) (PO _ _ _) (KQ i2.one) (g0.src (fun x hx=>by simp [hx])) (by first | omega | (have t9:=hauls_mono (n:=n) (q:=q) (fr:=fo) (to:=to) (g:=g) (l:=l) hc;omega)) (fun u5 k8 j7=>(nm ?_)));obtain ⟨o5,o6,p1,t0⟩:=j7.shape;subst p1;have k4:=(a0).append i2;refine sp 1 [(8,vS o5 (a3++e5).length o6)] (se (BR (AH (t:=8) (k8) (by kernel_rfl) rfl (TA (TT (TR _) (TB _ _)) _) (IT hJ1 f7) ?_)));have n3:(min (g.getD fo 0) (l.getD to 0)).toNat=c:=by have hq:=j3;simp only [cmp,Bool.and_eq_false_iff,decide_eq_false_iff_not] at hq;rcases hq with hq | hq <;> omega
 exact ⟨_,j7,(lists_succ (g:=g) (l:=l) (c:=c) hfr i1 n3)▸k4⟩
theorem lists_all (n m:Nat):ListsAt n m:=by
 have a0:∀ m,(∀ q,m=q+1→ListsAt n q)→∀ (I:Imm) (gv:Value) (g:List Int) (lv:Value) (l:List Int) (fo to:Nat) (fi ti:Int) (hfi:fi=(fo:Int)) (hti:ti=(to:Int)) (gv_f:BH I gv g) (lv_f:BH I lv l) (hgl:g.length=n) (hll:l.length=n) (hto:to≤n) (hfl:fo≤n) (hfr:fo*n+to+m=n*n) (hn:1≤n∧n≤4) (hB:(AN n m g l).length≤100000) (hgb:∀ x∈g,0≤x∧x≤50) (hlb:∀ x∈l,0≤x∧x≤50),¬ (to=n∧fo<n)→Ct Try.prog 26 #[gv,lv,vI fi,vI ti] I [] (fun u I' M'=>∃ ws,Own 31 1 DZ u ws M'∧CartsV I' ws (AN n m g l)):=by
  intro m ihm I gv g lv l fo to fi ti hfi hti gv_f lv_f hgl hll hto hfl hfr hn hB hgb hlb hh;exact lists_of n m ihm I gv g lv l fo to fi ti hfi hti gv_f lv_f hgl hll hto hfl hfr hn hB hgb hlb (fun h1 h2=>absurd ⟨h1,h2⟩ hh)
 have up:∀ m,(∀ q,m=q+1→ListsAt n q)→ListsAt n m:=by
  intro m ihm I gv g lv l fo to fi ti hfi hti gv_f lv_f hgl hll hto hfl hfr hn hB hgb hlb;refine lists_of n m ihm I gv g lv l fo to fi ti hfi hti gv_f lv_f hgl hll hto hfl hfr hn hB hgb hlb (fun h1 h2=>?_);exact a0 m ihm I gv g lv l (fo+1) 0 _ _ (by omega) rfl gv_f lv_f hgl hll (Nat.zero_le _) h2 (by rw [Nat.succ_mul];omega) hn hB hgb hlb (fun h=>by omega)
 induction m with
 | zero=>exact up 0 (fun q h=>by omega)
 | succ m ih=>exact up (m+1) (fun q h=>(show m=q by omega)▸ih)
noncomputable def c_RGives (p:List Nat):Code:=sub (AP Try.f22) p
theorem RGives_ct (I:Imm) (x:Value) (h:List Int) (y:Value) (nd:List Int) (b:Int) (x_f:BH I x h) (y_f:BH I y nd) (hp:Pool h nd b):Ct Try.prog 22 #[x,y,vI b] I ([]) (fun v I' M'=>∃ u:Value,∃ Ms:Seg,v=u∧M'=Ms∧Own 3 1 AL u (BC h nd b) Ms):=by
 obtain ⟨a8,a9,c9,d2,c0,d0,d1,b7⟩:=id x_f;subst c0;obtain ⟨b0,b2,d3,d6,c1,d4,d5,b8⟩:=id y_f;subst c1;refine fr (args:=[_,_,_]) (N:=31) Try.func22 (fun F=>?_);show Run _ _ (c_RGives []) _ _ [(0,vS a8 h.length a9),(1,vS b0 nd.length b2),(2,vI (b))] _ _;refine rnm ?_;have c3:=hp.some;have c4:=hp.few;have c5:=hp.same;have c6:=hp.bale;refine rqr (sp 1 [(6,vN)] (sn (sp 1 [(7,vN)] (se (rq (rqr (sp 1 [(8,vI (0))] (se (rb 0 ?_)))))))));refine rl (fun mz a w=>∃ k:Nat,∃ a4:Value,∃ a0:Seg,(k≤h.length)∧(Own 3 1 AL a4 ((List.range k).map (giveOf h nd b)) a0)∧Slots 31 [(7,a4),(8,vI ↑k),(0,vS a8 h.length a9),(1,vS b0 nd.length b2),(2,vI (b)),(6,vN)] a∧a.defers=[]∧St I ((a0++F)) w∧mz=h.length-k) ?_ ?_
 ·intro a w hS hD hW;exact ⟨_,0,(vN),[],Nat.zero_le _,(Own.nil _ _ _),hS.sub (.cons 7 rfl (.cons 8 rfl (.cons 0 rfl (.cons 1 rfl (.cons 2 rfl (.cons 6 rfl (.nil _))))))),hD,hW,rfl⟩
 rintro mz a w ⟨k,a4,a0,hk,a3,hS,hD,hW,rfl⟩
 refine AW hS hD hW ?_;clear hS hD hW a w;obtain ⟨a1,a2,a5,a6⟩:=a3.shape;subst a5;have c7:((List.range k).map (giveOf h nd b)).length=k:=by rw [List.length_map,List.length_range]
 refine rq (rqr (sp 4 [(12,.bool (cmp .lss (↑k) (↑(h.length))))] (se (rc 12 rfl (fun h1=>?_) (fun h1=>?_)))))
 ·
  have a7:=h1;have h1:=CJ h1;refine AQ (NX (rq (rb 1 ?_)));have c2:=hp.at2 (k:=k) (by omega);refine rd 14 [(0,true),(1,true),(2,true),(3,true),(4,true),(5,true),(6,true),(7,true),(8,true),(9,true),(10,true),(11,true),(12,true),(13,false)] ([]) ((a0++F)) ?_
  skip
  refine ox 3 [(17,vI (↑k)),(16,vS a8 h.length a9),(15,vS a1 ((List.range k).map (giveOf h nd b)).length a2)] ?_;refine AF (di 18 1 (k) b7.addr) ?_;refine AF (dl 19 (CE b7 (k) (by omega))) (ox 2 [(21,vI (↑k)),(20,vS b0 nd.length b2)] ?_);refine AF (di 22 1 (k) b8.addr) ?_;refine AF (dl 23 (CE b8 (k) (by omega))) ?_;refine AF (dsb 24 (h.getD (k) 0) (nd.getD (k) 0)) (ox 2 [(26,vI (b)),(25,vI ((if (0:Int)<((h.getD (k) 0)-(nd.getD (k) 0):Int) then (h.getD (k) 0)-(nd.getD (k) 0) else 0)))] ?_);refine AF (det_quo (x:=(.tmp 25)) (y:=(.tmp 26)) (T:=3) (T':=3) (d:=27) (ty:=3) (gd:=none) (by kernel_rfl) rfl rfl rfl (by omega) (by omega)) ?_;refine OFP.sub 27 (show (vI (((if (0:Int)<((h.getD (k) 0)-(nd.getD (k) 0):Int) then (h.getD (k) 0)-(nd.getD (k) 0) else 0))/b):Value)=vI (giveOf h nd b k) from congrArg (Value.int .i64) (give_ref hp)) ?_;refine IK (sbs 28 3 1 #[vI (giveOf h nd b k)] (fun b1=>?_));refine EN (S':=((bX b1 #[vI (giveOf h nd b k)] 3)::(a0++F))) (PR _) ?_;refine JQ (nm (nm ?_));refine sS (BN (d:=29) (x:=(.tmp 15)) (y:=(.tmp 28)) (T:=22) (T':=22) (E:=3) (E':=3) (sz:=1) (bs:=8) (z:=vI (0)) (cell:=AL) (xs:=(List.range k).map (giveOf h nd b)) (ys:=[(giveOf h nd b k:Int)]) (Ms:=a0) (ty:=22) (gd:=none) (by kernel_rfl) rfl (by kernel_rfl) (by kernel_rfl) (by kernel_rfl) (by kernel_rfl) (by kernel_rfl) (by decide) (by kernel_rfl) rfl rfl (a3) (PM.symm) (CG _) (GZ 0 rfl rfl) (by first | omega | (simp only [LC,LN];omega)) (fun v3 b3 b4=>(BG (M':=((b3++F))) (fun w h=>(h.perm PM).sub (TC _ (TR _))) ?_)));obtain ⟨b5,b6,b9,c8⟩:=b4.shape;subst b9;refine sp 1 [(7,vS b5 (((List.range k).map (giveOf h nd b))++([(giveOf h nd b k:Int)])).length b6)] (ee (NB (NX (rr (sp 1 [(13,vI (↑k))] (sd (da 14 (↑k) (1)) (sp 1 [(8,vI (↑k+1))] (ee ?_))))))));refine AO (h.length-(k+1)) (by omega) ?_;intro a w hS hD hW;exact ⟨k+1,vS b5 (((List.range k).map (giveOf h nd b))++([(giveOf h nd b k:Int)])).length b6,b3,by omega,(by rw [KF];exact b4),hS.sub (.consE 7 rfl rfl (.consE 8 rfl rfl (.cons 0 rfl (.cons 1 rfl (.cons 2 rfl (.cons 6 rfl (.nil _))))))),hD,hW,rfl⟩
 have a7:=h1;have h1:=CQ h1;refine CH 0 ((EP (EP (EB (NX (rqr (sp 2 [(6,vS a1 ((List.range k).map (giveOf h nd b)).length a2)] (se (BR (AH (t:=6) (a0) (by kernel_rfl) rfl (TA (TR _) _) (IR _) ?_))))))))));exact ⟨_,_,rfl,rfl,((show (List.range k).map (giveOf h nd b)=BC h nd b from by rw [show k=h.length by omega];rfl)▸a3)⟩
noncomputable def c_RLacks (p:List Nat):Code:=sub (AP Try.f23) p
theorem RLacks_ct (I:Imm) (x:Value) (h:List Int) (y:Value) (nd:List Int) (b:Int) (x_f:BH I x h) (y_f:BH I y nd) (hp:Pool h nd b):Ct Try.prog 23 #[x,y,vI b] I ([]) (fun v I' M'=>∃ u:Value,∃ Ms:Seg,v=u∧M'=Ms∧Own 3 1 AL u (BM h nd b) Ms):=by
 obtain ⟨a8,a9,c9,d2,c0,d0,d1,b7⟩:=id x_f;subst c0;obtain ⟨b0,b2,d3,d6,c1,d4,d5,b8⟩:=id y_f;subst c1;refine fr (args:=[_,_,_]) (N:=34) Try.func23 (fun F=>?_);show Run _ _ (c_RLacks []) _ _ [(0,vS a8 h.length a9),(1,vS b0 nd.length b2),(2,vI (b))] _ _;refine rnm ?_;have c3:=hp.some;have c4:=hp.few;have c5:=hp.same;have c6:=hp.bale;refine rqr (sp 1 [(6,vN)] (sn (sp 1 [(7,vN)] (se (rq (rqr (sp 1 [(8,vI (0))] (se (rb 0 ?_)))))))));refine rl (fun mz a w=>∃ k:Nat,∃ a4:Value,∃ a0:Seg,(k≤h.length)∧(Own 3 1 AL a4 ((List.range k).map (getOf h nd b)) a0)∧Slots 34 [(7,a4),(8,vI ↑k),(0,vS a8 h.length a9),(1,vS b0 nd.length b2),(2,vI (b)),(6,vN)] a∧a.defers=[]∧St I ((a0++F)) w∧mz=h.length-k) ?_ ?_
 ·intro a w hS hD hW;exact ⟨_,0,(vN),[],Nat.zero_le _,(Own.nil _ _ _),hS.sub (.cons 7 rfl (.cons 8 rfl (.cons 0 rfl (.cons 1 rfl (.cons 2 rfl (.cons 6 rfl (.nil _))))))),hD,hW,rfl⟩
 rintro mz a w ⟨k,a4,a0,hk,a3,hS,hD,hW,rfl⟩
 refine AW hS hD hW ?_;clear hS hD hW a w;obtain ⟨a1,a2,a5,a6⟩:=a3.shape;subst a5;have c7:((List.range k).map (getOf h nd b)).length=k:=by rw [List.length_map,List.length_range]
 refine rq (rqr (sp 4 [(12,.bool (cmp .lss (↑k) (↑(h.length))))] (se (rc 12 rfl (fun h1=>?_) (fun h1=>?_)))))
 ·
  have a7:=h1;have h1:=CJ h1;refine AQ (NX (rq (rb 1 ?_)));have c2:=hp.at2 (k:=k) (by omega);refine rd 17 [(0,true),(1,true),(2,true),(3,true),(4,true),(5,true),(6,true),(7,true),(8,true),(9,true),(10,true),(11,true),(12,true),(13,true),(14,true),(15,true),(16,false)] ([]) ((a0++F)) ?_
  skip
  refine ox 3 [(17,vI (↑k)),(16,vS b0 nd.length b2),(15,vS a1 ((List.range k).map (getOf h nd b)).length a2)] ?_;refine AF (di 18 1 (k) b8.addr) ?_;refine AF (dl 19 (CE b8 (k) (by omega))) (ox 2 [(21,vI (↑k)),(20,vS a8 h.length a9)] ?_);refine AF (di 22 1 (k) b7.addr) ?_;refine AF (dl 23 (CE b7 (k) (by omega))) ?_;refine AF (dsb 24 (nd.getD (k) 0) (h.getD (k) 0)) (ox 2 [(26,vI (b)),(25,vI ((if (0:Int)<((nd.getD (k) 0)-(h.getD (k) 0):Int) then (nd.getD (k) 0)-(h.getD (k) 0) else 0)))] ?_);refine AF (da 27 ((if (0:Int)<((nd.getD (k) 0)-(h.getD (k) 0):Int) then (nd.getD (k) 0)-(h.getD (k) 0) else 0)) (b)) ?_;refine AF (dsb 28 (((if (0:Int)<((nd.getD (k) 0)-(h.getD (k) 0):Int) then (nd.getD (k) 0)-(h.getD (k) 0) else 0))+b) (1)) (ox 1 [(29,vI (b))] ?_);refine AF (det_quo (x:=(.tmp 28)) (y:=(.tmp 29)) (T:=3) (T':=3) (d:=30) (ty:=3) (gd:=none) (by kernel_rfl) rfl rfl rfl (by omega) (by omega)) ?_;refine OFP.sub 30 (show (vI (((((if (0:Int)<((nd.getD (k) 0)-(h.getD (k) 0):Int) then (nd.getD (k) 0)-(h.getD (k) 0) else 0))+b)-1)/b):Value)=vI (getOf h nd b k) from congrArg (Value.int .i64) (get_ref hp)) ?_;refine IK (sbs 31 3 1 #[vI (getOf h nd b k)] (fun b1=>?_));refine EN (S':=((bX b1 #[vI (getOf h nd b k)] 3)::(a0++F))) (PR _) ?_;refine JQ (nm (nm ?_));refine sS (BN (d:=32) (x:=(.tmp 15)) (y:=(.tmp 31)) (T:=22) (T':=22) (E:=3) (E':=3) (sz:=1) (bs:=8) (z:=vI (0)) (cell:=AL) (xs:=(List.range k).map (getOf h nd b)) (ys:=[(getOf h nd b k:Int)]) (Ms:=a0) (ty:=22) (gd:=none) (by kernel_rfl) rfl (by kernel_rfl) (by kernel_rfl) (by kernel_rfl) (by kernel_rfl) (by kernel_rfl) (by decide) (by kernel_rfl) rfl rfl (a3) (PM.symm) (CG _) (GZ 0 rfl rfl) (by first | omega | (simp only [LC,LN];omega)) (fun v3 b3 b4=>(BG (M':=((b3++F))) (fun w h=>(h.perm PM).sub (TC _ (TR _))) ?_)));obtain ⟨b5,b6,b9,c8⟩:=b4.shape;subst b9;refine sp 1 [(7,vS b5 (((List.range k).map (getOf h nd b))++([(getOf h nd b k:Int)])).length b6)] (ee (NB (NX (rr (sp 1 [(13,vI (↑k))] (sd (da 14 (↑k) (1)) (sp 1 [(8,vI (↑k+1))] (ee ?_))))))));refine AO (h.length-(k+1)) (by omega) ?_;intro a w hS hD hW;exact ⟨k+1,vS b5 (((List.range k).map (getOf h nd b))++([(getOf h nd b k:Int)])).length b6,b3,by omega,(by rw [KF];exact b4),hS.sub (.consE 7 rfl rfl (.consE 8 rfl rfl (.cons 0 rfl (.cons 1 rfl (.cons 2 rfl (.cons 6 rfl (.nil _))))))),hD,hW,rfl⟩
 have a7:=h1;have h1:=CQ h1;refine CH 0 ((EP (EP (EB (NX (rqr (sp 2 [(6,vS a1 ((List.range k).map (getOf h nd b)).length a2)] (se (BR (AH (t:=6) (a0) (by kernel_rfl) rfl (TA (TR _) _) (IR _) ?_))))))))));exact ⟨_,_,rfl,rfl,((show (List.range k).map (getOf h nd b)=BM h nd b from by rw [show k=h.length by omega];rfl)▸a3)⟩
noncomputable def c_LinenDivided (p:List Nat):Code:=sub (AP Try.f5) p
set_option maxHeartbeats 2000000 in
theorem LinenDivided_ct (I:Imm) (x1:Value) (ns:List Int) (x1_f:BH I x1 ns):Ct Try.prog 5 #[x1] I ([]) (fun v I' M'=>v=.bool (true)∧M'=[]):=by
 obtain ⟨o0,o1,C2,C5,x4,C3,C4,C6⟩:=id x1_f;subst x4;refine fr (args:=[_]) (N:=231) Try.func5 (fun F=>?_);show Run _ _ (c_LinenDivided []) _ _ [(0,vS o0 ns.length o1)] _ _;refine rnm (rqr ?_);refine sp 1 [(2,.bool (false))] (sn (sp 1 [(17,vS o0 ns.length o1)] ?_));have k6:=NewBag_ct I _ _ x1_f;refine sS (sc (some 18) (k6 :) (.refl _) (fun E1 I1 E0 l3 A3=>?_));obtain ⟨u6,C1,y1,x9⟩:=A3;rw [y1,x9];clear y1 x9;refine nm ?_;have k7:=poolOfx_ct I1 (u6) (C1);refine sS (sc (some 19) (F:=(F)) (k7 :) (.refl _) (fun B2 C7 A6 i1 t1=>?_));obtain ⟨a6,h1,a0,a1,B8,j9,C0,i0,m4,l4,t7,n1,n2⟩:=t1;rw [m4,l4];clear m4 l4;obtain ⟨b3,b4,j6,x0⟩:=n1.shape;subst j6;obtain ⟨b8,b9,j8,x3⟩:=n2.shape;subst j8;refine BG (M':=((bX u6 #[.int .u64 (a6)] 71)::(j9++(i0++F)))) (fun w h=>by simpa only [AA,CA,NA] using h) (nm ?_);have hd:=t7;have m3:=hd.pool;have x8:=hd.len;have D3:=hd.bale;have D4:=EM (h:=h1) (nd:=a0) (b:=a1);have D5:=EI (h:=h1) (nd:=a0) (b:=a1);refine sp 7 [(5,vI ((a1))),(4,vS b8 a0.length b9),(3,vS b3 h1.length b4)] (se (rq ?_));have D9:=divE_len h1 a0 a1;refine FO (B:=((bX u6 #[.int .u64 (a6)] 71)::(i0++F))) 0 n1 (by first | omega | (simp only [LS,LC,LN,LA,LK,LD] <;> omega) | decide) (PM.symm) (PR _) (fun C8 i2 a2=>?_);obtain ⟨p3,p5,p4,p8,i9,p6,p7,p9⟩:=id a2;cases i9;refine FO (B:=((bX u6 #[.int .u64 (a6)] 71)::F)) 0 n2 (by first | omega | (simp only [LS,LC,LN,LA,LK,LD] <;> omega) | decide) (PM.symm) (PR _) (fun z6 f3 b1=>?_);replace a2:=a2.mono f3;obtain ⟨q0,q2,q1,q5,j0,q3,q4,a4⟩:=id b1;cases j0;refine rr (sp 3 [(26,vI ((a1))),(25,vS b8 a0.length b9),(24,vS b3 h1.length b4)] ?_);have k8:=Divide_ct z6 _ _ _ _ ((a1)) a2 b1;refine sS (sc (some 27) (k8 :) (.refl _) (fun B3 C9 A7 d5 t2=>?_));obtain ⟨B9,k0,m5,l5,n3⟩:=t2;rw [m5,l5];clear m5 l5;replace a2:=a2.mono d5;replace b1:=b1.mono d5;replace a4:=a4.mono d5;obtain ⟨a9,b0,j7,x2⟩:=n3.shape;subst j7;refine pm (M':=((bX u6 #[.int .u64 (a6)] 71)::(k0++F))) PM (sp 5 [(7,vI (((BB h1 a0 ((a1))).2))),(6,vS a9 ((BB h1 a0 ((a1))).1).length b0)] (se (rq ?_)));refine FO (B:=((bX u6 #[.int .u64 (a6)] 71)::F)) AJ n3 (by first | omega | (simp only [LS,LC,LN,LA,LK,LD] <;> omega) | decide) (PM.symm) (PR _) (fun z7 d6 a5=>?_);replace a2:=a2.mono d6;replace b1:=b1.mono d6;replace a4:=a4.mono d6;obtain ⟨q6,q7,d7,d8,j1,q8,q9,a3⟩:=id a5;cases j1;refine rr (sp 3 [(32,vI ((a1))),(31,vS b8 a0.length b9),(30,vS b3 h1.length b4)] ?_);have k9:=RGives_ct z7 _ _ _ _ ((a1)) a2 b1 (by assumption);refine sS (sc (some 33) (k9 :) (.refl _) (fun B4 z8 A8 c4 t3=>?_));obtain ⟨E2,k1,m6,l6,n4⟩:=t3;rw [m6,l6];clear m6 l6;replace a2:=a2.mono c4;replace b1:=b1.mono c4;replace a4:=a4.mono c4;replace a5:=a5.mono c4;replace a3:=a3.mono c4;obtain ⟨d2,d3,n7,z2⟩:=n4.shape;subst n7;refine pm (M':=((bX u6 #[.int .u64 (a6)] 71)::(k1++F))) PM (sp 3 [(36,vI ((a1))),(35,vS b8 a0.length b9),(34,vS b3 h1.length b4)] ?_);have l0:=RLacks_ct z8 _ _ _ _ ((a1)) a2 b1 (by assumption);refine sS (sc (some 37) (l0 :) (.refl _) (fun B5 D0 A9 d0 t4=>?_));obtain ⟨E3,k2,m7,l7,n5⟩:=t4;rw [m7,l7];clear m7 l7;replace a2:=a2.mono d0;replace a4:=a4.mono d0;replace a5:=a5.mono d0;replace a3:=a3.mono d0;obtain ⟨c8,c9,n8,z3⟩:=n5.shape;subst n8;refine pm (M':=((bX u6 #[.int .u64 (a6)] 71)::(k2++(k1++F)))) PM (sp 2 [(9,vS c8 (BM h1 a0 ((a1))).length c9),(8,vS d2 (BC h1 a0 ((a1))).length d3)] (se (rq (rq ?_))));refine FO (B:=((bX u6 #[.int .u64 (a6)] 71)::(k2++F))) 0 n4 (by first | omega | (simp only [LS,LC,LN,LA,LK,LD] <;> omega) | decide) (PU (PO _ _ _)) (PR _) (fun D1 d1 b6=>?_);replace a2:=a2.mono d1;replace a4:=a4.mono d1;replace a5:=a5.mono d1;replace a3:=a3.mono d1;obtain ⟨r0,r2,r1,r5,j2,r3,r4,r6⟩:=id b6;cases j2;refine FO (B:=((bX u6 #[.int .u64 (a6)] 71)::F)) 0 n5 (by first | omega | (simp only [LS,LC,LN,LA,LK,LD] <;> omega) | decide) (PM.symm) (PR _) (fun x5 c5 b7=>?_);replace a2:=a2.mono c5;replace a4:=a4.mono c5;replace a5:=a5.mono c5;replace a3:=a3.mono c5;replace b6:=b6.mono c5;obtain ⟨r7,r9,r8,s2,j3,s0,s1,s3⟩:=id b7;cases j3;refine rr (sp 1 [(38,vS d2 (BC h1 a0 ((a1))).length d3)] (sd (dc 39 (fun I' hI=>(Sum_ct I' _ _ (b6.mono hI) (by exact fun x hx=>(by have hq:=m3.cap.1 x hx;omega)) (by omega) :))) (sp 1 [(40,vS c8 (BM h1 a0 ((a1))).length c9)] (sd (dc 41 (fun I' hI=>(Sum_ct I' _ _ (b7.mono hI) (by exact fun x hx=>(by have hq:=m3.cap.2 x hx;omega)) (by omega) :))) (sp 1 [(42,.bool (cmp .lss (((BC h1 a0 ((a1))).sum)) (((BM h1 a0 ((a1))).sum))))] (se (rc 42 rfl (fun h2=>?_) (fun h2=>?_))))))))
 ·
  have s4:=h2;have h2:=CJ h2;refine rq ?_;have x6:=cut_none hd (by omega);refine rr (sp 2 [(44,.bool (cmp .eql (((BB h1 a0 ((a1))).2)) (11)))] (EC 44 rfl (show (.bool (cmp .eql (((BB h1 a0 ((a1))).2)) (11)):Value)=.bool (true) from congrArg Value.bool (by rw [x6];rfl)) (sp 4 [(48,.bool (cmp .eql (↑(((BB h1 a0 ((a1))).1).length)) (0))),(45,.bool (true))] (EC 48 rfl (show (.bool (cmp .eql (↑(((BB h1 a0 ((a1))).1).length)) (0)):Value)=.bool (true) from congrArg Value.bool (by rw [x6];rfl)) (sp 2 [(50,.bool (true))] ?_)))));have l1:=counting_ct x5;refine sS (sc (some 51) (l1 :) (.refl _) (fun B6 D2 B0 c6 t5=>?_));obtain ⟨m8,l8⟩:=t5;rw [m8,l8];clear m8 l8;replace a2:=a2.mono c6;replace a4:=a4.mono c6;replace a5:=a5.mono c6;replace a3:=a3.mono c6;replace b6:=b6.mono c6;replace b7:=b7.mono c6;refine nm ?_;refine sp 2 [(2,.bool (true))] (se (BR ((RP (AH (t:=2) [] (by kernel_rfl) rfl (TC _ (TR _)) (IT (IT (IT (IT (IT (IT (IT (IT (IT (IT l3 i1) i2) f3) d5) d6) c4) d0) d1) c5) c6) ?_)))));exact ⟨rfl,rfl⟩
 have s4:=h2;have h2:=CQ h2;refine AQ (NX (rq (rq ?_)));obtain ⟨z9,f1,A0⟩:=cut_some hd (by omega);have y0:=HW f1;refine rr (sp 2 [(54,.bool (!(cmp .eql (((BB h1 a0 ((a1))).2)) (0))))] (EC 54 rfl (show (.bool (!(cmp .eql (((BB h1 a0 ((a1))).2)) (0))):Value)=.bool (false) from congrArg Value.bool (by rw [z9];rfl)) (sp 2 [(56,vS a9 ((BB h1 a0 ((a1))).1).length b0),(55,.bool (false))] (sd (dc 57 (fun I' hI=>(bales_ct I' _ _ (a5.mono hI) (by exact fun c hc=>cut_bal hd f1 hc) (by omega) :))) (sp 1 [(58,vS c8 (BM h1 a0 ((a1))).length c9)] (sd (dc 59 (fun I' hI=>(Sum_ct I' _ _ (b7.mono hI) (by exact fun x hx=>(by have hq:=m3.cap.2 x hx;omega)) (by omega) :))) (sp 1 [(60,.bool (!(cmp .eql ((FI ((BB h1 a0 ((a1))).1))) (((BM h1 a0 ((a1))).sum)))))] (EC 60 rfl (show (.bool (!(cmp .eql ((FI ((BB h1 a0 ((a1))).1))) (((BM h1 a0 ((a1))).sum)))):Value)=.bool (false) from congrArg Value.bool (by rw [cut_bales hd f1];simp [cmp])) (sp 1 [(61,.bool (false))] (se (rcf 61 rfl (AQ (NX (rqr (sp 1 [(62,vS b3 h1.length b4)] ?_)))))))))))))));have l2:=CopyInts_ct x5 _ _ a2 (by omega);refine sS (sc (some 63) (l2 :) (.refl _) (fun B7 o2 B1 c7 t6=>?_));obtain ⟨E4,k3,m9,l9,n6⟩:=t6;rw [m9,l9];clear m9 l9;replace a2:=a2.mono c7;replace a4:=a4.mono c7;replace a5:=a5.mono c7;replace a3:=a3.mono c7;replace b6:=b6.mono c7;replace b7:=b7.mono c7;obtain ⟨i7,i8,n9,z4⟩:=n6.shape;subst n9;refine pm (M':=((bX u6 #[.int .u64 (a6)] 71)::(k3++F))) PM (sp 1 [(10,vS i7 h1.length i8)] (se (rq (rqr (sp 1 [(11,vI (0))] (se (rb 0 ?_)))))));refine rl (fun mz a w=>∃ k:Nat,∃ e2:Value,∃ b2:Seg,(k≤(BB h1 a0 a1).1.length)∧(Own 3 1 AL e2 (HB a1 h1 ((BB h1 a0 a1).1.take k)) b2)∧Slots 231 [(10,e2),(11,vI ↑k),(3,vS b3 h1.length b4),(4,vS b8 a0.length b9),(5,vI ((a1))),(6,vS a9 ((BB h1 a0 ((a1))).1).length b0),(8,vS d2 (BC h1 a0 ((a1))).length d3),(9,vS c8 (BM h1 a0 ((a1))).length c9)] a∧a.defers=[]∧St o2 ((bX u6 #[.int .u64 (a6)] 71)::(b2++F)) w∧mz=(BB h1 a0 a1).1.length-k) ?_ ?_
 ·intro a w hS hD hW;exact ⟨_,0,vS i7 h1.length i8,k3,Nat.zero_le _,n6,hS.sub (.cons 10 rfl (.cons 11 rfl (.cons 3 rfl (.cons 4 rfl (.cons 5 rfl (.cons 6 rfl (.cons 8 rfl (.cons 9 rfl (.nil _))))))))),hD,hW,rfl⟩
 rintro mz a w ⟨k,e2,b2,hk,c3,hS,hD,hW,rfl⟩
 refine AW hS hD hW ?_;clear hS hD hW a w;obtain ⟨a7,a8,g1,n0⟩:=c3.shape;subst g1;have D6:(HB a1 h1 ((BB h1 a0 a1).1.take k)).length=h1.length:=nowM_len;refine rq (rqr (sp 4 [(67,.bool (cmp .lss (↑k) (↑(((BB h1 a0 ((a1))).1).length))))] (se (rc 67 rfl (fun h3=>?_) (fun h3=>?_)))))
 ·
  have s5:=h3;have h3:=CJ h3;refine AQ (NX (rq (rb 1 (rqr (sp 2 [(71,vI (↑k)),(70,vS a9 ((BB h1 a0 ((a1))).1).length b0)] (sd (di 72 3 (k) a3.addr) (sd (CI (x:=(.tmp 72)) (T:=58) (n:=3) (vs:=[vI ((((BB h1 a0 ((a1))).1).getD (k) AJ).frm),vI ((((BB h1 a0 ((a1))).1).getD (k) AJ).to),vI ((((BB h1 a0 ((a1))).1).getD (k) AJ).bales)]) (d:=73) (ty:=58) (gd:=none) (by kernel_rfl) rfl (by kernel_rfl) (by kernel_rfl) rfl rfl (DX (vals:=IH) (fun _=>rfl) a3 (k) (by omega))) (sS (sal 12 58 #[vI (0),vI (0),vI (0)] (fun b5=>(sS (ss 0 0 b5 [vI ((((BB h1 a0 ((a1))).1).getD (k) AJ).frm),vI ((((BB h1 a0 ((a1))).1).getD (k) AJ).to),vI ((((BB h1 a0 ((a1))).1).getD (k) AJ).bales)] [vI ((((BB h1 a0 ((a1))).1).getD (k) AJ).frm),vI ((((BB h1 a0 ((a1))).1).getD (k) AJ).to),vI ((((BB h1 a0 ((a1))).1).getD (k) AJ).bales)] (_::_::_) (cs:=[_,_,_]) rfl rfl (se (rq (rq ?_)))))))))))))));refine DY (fun a w=>Slots 231 [(3,vS b3 h1.length b4),(4,vS b8 a0.length b9),(5,vI ((a1))),(6,vS a9 ((BB h1 a0 ((a1))).1).length b0),(8,vS d2 (BC h1 a0 ((a1))).length d3),(9,vS c8 (BM h1 a0 ((a1))).length c9),(10,vS a7 (HB a1 h1 ((BB h1 a0 a1).1.take k)).length a8),(11,vI (↑k)),(12,vP b5 0),(144,.bool ((cmp .gtr (↑k) (0))&&((cmp .eql ((((BB h1 a0 ((a1))).1).getD (k) AJ).frm) ((((BB h1 a0 ((a1))).1).getD ((↑k-1:Int).toNat) AJ).frm))&&(false))))] a∧a.defers=[]∧St o2 ((bX b5 #[vI ((((BB h1 a0 ((a1))).1).getD (k) AJ).frm),vI ((((BB h1 a0 ((a1))).1).getD (k) AJ).to),vI ((((BB h1 a0 ((a1))).1).getD (k) AJ).bales)] 58)::(bX u6 #[.int .u64 (a6)] 71)::(b2++F)) w) ?_ ?_
  ·
   obtain ⟨⟨hs1,hs2⟩,⟨hs3,hs4⟩,hs5,hs6⟩:=y0.1 _ (AV (xs:=(BB h1 a0 a1).1) (d:=AJ) (k:=k) (by omega));refine rd0 66 (ox 1 [(74,vP b5 0)] ?_);refine AF (dlb 75 0 0 b5 (vI ((((BB h1 a0 ((a1))).1).getD (k) AJ).frm))) ?_;refine AF (dcm 76 .lss ((((BB h1 a0 ((a1))).1).getD (k) AJ).frm) (0) false (by simp only [KK,decide_eq_false_iff_not];omega)) (ox 2 [(78,vP b5 0),(77,.bool (false))] ?_);refine AF (dlb 79 0 0 b5 (vI ((((BB h1 a0 ((a1))).1).getD (k) AJ).frm))) (ox 2 [(81,vI (↑(h1.length)))] ?_);refine AF (dcm 82 .geq ((((BB h1 a0 ((a1))).1).getD (k) AJ).frm) (↑(h1.length)) false (by simp only [cmp_geq,decide_eq_false_iff_not];omega)) (ox 3 [(85,vP b5 1),(84,.bool (false))] ?_);refine AF (dlb 86 0 1 b5 (vI ((((BB h1 a0 ((a1))).1).getD (k) AJ).to))) ?_;refine AF (dcm 87 .lss ((((BB h1 a0 ((a1))).1).getD (k) AJ).to) (0) false (by simp only [KK,decide_eq_false_iff_not];omega)) (ox 3 [(90,vP b5 1),(89,.bool (false))] ?_);refine AF (dlb 91 0 1 b5 (vI ((((BB h1 a0 ((a1))).1).getD (k) AJ).to))) (ox 2 [(93,vI (↑(h1.length)))] ?_);refine AF (dcm 94 .geq ((((BB h1 a0 ((a1))).1).getD (k) AJ).to) (↑(h1.length)) false (by simp only [cmp_geq,decide_eq_false_iff_not];omega)) (ox 3 [(97,vP b5 0),(96,.bool (false))] ?_);refine AF (dlb 98 0 0 b5 (vI ((((BB h1 a0 ((a1))).1).getD (k) AJ).frm))) (ox 1 [(99,vP b5 1)] ?_);refine AF (dlb 100 0 1 b5 (vI ((((BB h1 a0 ((a1))).1).getD (k) AJ).to))) ?_;refine AF (dcm 101 .eql ((((BB h1 a0 ((a1))).1).getD (k) AJ).frm) ((((BB h1 a0 ((a1))).1).getD (k) AJ).to) false (by simp only [cmp_eql,decide_eq_false_iff_not];omega)) (ox 3 [(104,vP b5 2),(103,.bool (false))] ?_);refine AF (dlb 105 0 2 b5 (vI ((((BB h1 a0 ((a1))).1).getD (k) AJ).bales))) ?_;refine AF (dcm 106 .lss ((((BB h1 a0 ((a1))).1).getD (k) AJ).bales) (1) false (by simp only [KK,decide_eq_false_iff_not];omega)) (ox 5 [(111,.bool (cmp .gtr (↑k) (0))),(108,.bool (false))] ?_);refine IA 111 (fun h4=>?_) (fun h4=>?_)
   ·
    have e7:=h4;have e7:=MG e7;refine ox 1 [(112,vP b5 0)] ?_;refine AF (dlb 113 0 0 b5 (vI ((((BB h1 a0 ((a1))).1).getD (k) AJ).frm))) (ox 2 [(115,vI (↑k)),(114,vS a9 ((BB h1 a0 ((a1))).1).length b0)] ?_);refine AF (dsb 116 (↑k) (1)) ?_;refine AF (diI 117 3 (↑k-1) a3.addr) (ox 1 [(118,.pointer (some ⟨d7,d8+((↑k-1:Int).toNat)*3,none⟩))] ?_);refine AF (dl 119 (EU a3 ((↑k-1:Int).toNat) (by omega) 0 (by decide) (v:=vI ((((BB h1 a0 ((a1))).1).getD ((↑k-1:Int).toNat) AJ).frm)) rfl)) ?_;refine AF (dcm 120 .lss ((((BB h1 a0 ((a1))).1).getD (k) AJ).frm) ((((BB h1 a0 ((a1))).1).getD ((↑k-1:Int).toNat) AJ).frm) false (by have t0:(↑k-1:Int).toNat=k-1:=(by omega);have hb:=cut_befC f1 (k:=k) (by omega) (by omega);rw [← t0] at hb;unfold BefC at hb;simp only [KK,decide_eq_false_iff_not];omega)) (ox 2 [(122,vP b5 0),(121,.bool (false))] ?_);refine AF (dlb 123 0 0 b5 (vI ((((BB h1 a0 ((a1))).1).getD (k) AJ).frm))) (ox 2 [(125,vI (↑k)),(124,vS a9 ((BB h1 a0 ((a1))).1).length b0)] ?_);refine AF (dsb 126 (↑k) (1)) ?_;refine AF (diI 127 3 (↑k-1) a3.addr) (ox 1 [(128,.pointer (some ⟨d7,d8+((↑k-1:Int).toNat)*3,none⟩))] ?_);refine AF (dl 129 (EU a3 ((↑k-1:Int).toNat) (by omega) 0 (by decide) (v:=vI ((((BB h1 a0 ((a1))).1).getD ((↑k-1:Int).toNat) AJ).frm)) rfl)) (ox 2 [(131,.bool (cmp .eql ((((BB h1 a0 ((a1))).1).getD (k) AJ).frm) ((((BB h1 a0 ((a1))).1).getD ((↑k-1:Int).toNat) AJ).frm)))] ?_);refine IA 131 (fun h5=>?_) (fun h5=>?_)
    ·
     have e8:=h5;have e8:=CP e8;refine ox 1 [(132,vP b5 1)] ?_;refine AF (dlb 133 0 1 b5 (vI ((((BB h1 a0 ((a1))).1).getD (k) AJ).to))) (ox 2 [(135,vI (↑k)),(134,vS a9 ((BB h1 a0 ((a1))).1).length b0)] ?_);refine AF (dsb 136 (↑k) (1)) ?_;refine AF (diI 137 3 (↑k-1) a3.addr) (ox 1 [(138,.pointer (some ⟨d7,d8+((↑k-1:Int).toNat)*3+1,none⟩))] ?_);refine AF (dl 139 (EU a3 ((↑k-1:Int).toNat) (by omega) 1 (by decide) (v:=vI ((((BB h1 a0 ((a1))).1).getD ((↑k-1:Int).toNat) AJ).to)) rfl)) ?_;refine BE (sd (dcm 140 .leq ((((BB h1 a0 ((a1))).1).getD (k) AJ).to) ((((BB h1 a0 ((a1))).1).getD ((↑k-1:Int).toNat) AJ).to) false (by have t0:(↑k-1:Int).toNat=k-1:=(by omega);have hb:=cut_befC f1 (k:=k) (by omega) (by omega);rw [← t0] at hb;unfold BefC at hb;simp only [cmp_leq,decide_eq_false_iff_not];omega)) (sp 4 [(144,.bool (false))] (ee ?_)));refine AU (fun a w hS hD hW=>⟨hS.sub (.cons 3 rfl (.cons 4 rfl (.cons 5 rfl (.cons 6 rfl (.cons 8 rfl (.cons 9 rfl (.cons 10 rfl (.cons 11 rfl (.cons 12 rfl (.consE 144 rfl (congrArg Value.bool (by simp only [h4,h5,kA,kB,kC,kD,kE,kF,kG,kH,kI,kJ])) (.nil _))))))))))),hD,hW⟩)
    have e8:=h5;have e8:=CT e8;refine ox 8 [(139,undef),(133,undef)] ?_;refine BE (sp 5 [(144,.bool (false))] (ee ?_));refine AU (fun a w hS hD hW=>⟨hS.sub (.cons 3 rfl (.cons 4 rfl (.cons 5 rfl (.cons 6 rfl (.cons 8 rfl (.cons 9 rfl (.cons 10 rfl (.cons 11 rfl (.cons 12 rfl (.consE 144 rfl (congrArg Value.bool (by simp only [h4,h5,kA,kB,kC,kD,kE,kF,kG,kH,kI,kJ])) (.nil _))))))))))),hD,hW⟩)
   have e7:=h4;have e7:=gtr_f e7;refine ox 28 [(139,undef),(133,undef),(131,undef),(121,undef)] ?_;refine BE (sp 5 [(144,.bool (false))] (ee ?_));refine AU (fun a w hS hD hW=>⟨hS.sub (.cons 3 rfl (.cons 4 rfl (.cons 5 rfl (.cons 6 rfl (.cons 8 rfl (.cons 9 rfl (.cons 10 rfl (.cons 11 rfl (.cons 12 rfl (.consE 144 rfl (congrArg Value.bool (by simp only [h4,kA,kB,kC,kD,kE,kF,kG,kH,kI,kJ])) (.nil _))))))))))),hD,hW⟩)
  rintro a w ⟨hS,hD,hW⟩
  refine AW hS hD hW ?_;clear hS hD hW a w;refine rc 144 rfl (fun h6=>?_) (fun h6=>?_)
  ·
   have k5:=h6;obtain ⟨k4,s6⟩:=MA h6;have k4:=MG k4;obtain ⟨e9,s7⟩:=MA s6;have e9:=CP e9;exact absurd k5 (by simp)
  have k5:=h6;refine AQ (NX ?_);obtain ⟨⟨hs1,hs2⟩,⟨hs3,hs4⟩,hs5,hs6⟩:=y0.1 _ (AV (xs:=(BB h1 a0 a1).1) (d:=AJ) (k:=k) (by omega));have hh:=cut_haul hd f1 (AV (xs:=(BB h1 a0 a1).1) (d:=AJ) (k:=k) (by omega));have D7:=cut_small hd f1 (k:=k) (i:=(((BB h1 a0 a1).1.getD (k) AJ).frm).toNat) (by omega);have D8:=cut_small hd f1 (k:=k) (i:=(((BB h1 a0 a1).1.getD (k) AJ).to).toNat) (by omega);refine rdX (M:=((bX b5 #[vI ((((BB h1 a0 ((a1))).1).getD (k) AJ).frm),vI ((((BB h1 a0 ((a1))).1).getD (k) AJ).to),vI ((((BB h1 a0 ((a1))).1).getD (k) AJ).bales)] 58)::(bX u6 #[.int .u64 (a6)] 71)::(b2++[]))) (F0:=F) [] 28 [(0,true),(1,true),(2,true),(3,true),(4,true),(5,true),(6,true),(7,true),(8,true),(9,true),(10,true),(11,true),(12,true),(13,true),(14,true),(15,true),(16,true),(17,true),(18,true),(19,true),(20,true),(21,true),(22,true),(23,true),(24,true),(25,true),(26,true),(27,false)] (by simp only [AA,CA,NA,List.append_nil];exact PR _) HH ?_;refine AG (AM (d:=145) (v:=vS a7 (HB a1 h1 ((BB h1 a0 a1).1.take k)).length a8) (by kernel_rfl)) ?_;refine AG (AM (d:=146) (v:=vP b5 0) (by kernel_rfl)) ?_;refine AG (dlb 147 0 0 b5 (vI ((((BB h1 a0 ((a1))).1).getD (k) AJ).frm))) ?_;refine BD (AM (d:=148) (v:=vS a7 (HB a1 h1 ((BB h1 a0 a1).1.take k)).length a8) (by kernel_rfl)) ?_;refine BD (AM (d:=149) (v:=vP b5 1) (by kernel_rfl)) ?_;refine ofx_part (Rx:=((bX b5 #[vI ((((BB h1 a0 ((a1))).1).getD (k) AJ).frm),vI ((((BB h1 a0 ((a1))).1).getD (k) AJ).to),vI ((((BB h1 a0 ((a1))).1).getD (k) AJ).bales)] 58)::[])) (PR _) (dlb 150 0 1 b5 (vI ((((BB h1 a0 ((a1))).1).getD (k) AJ).to))) ?_;refine AG (AM (d:=151) (v:=vS a7 (HB a1 h1 ((BB h1 a0 a1).1.take k)).length a8) (by kernel_rfl)) ?_;refine AG (AM (d:=152) (v:=vP b5 0) (by kernel_rfl)) ?_;refine AG (dlb 153 0 0 b5 (vI ((((BB h1 a0 ((a1))).1).getD (k) AJ).frm))) ?_;obtain ⟨A5,i6⟩:=c3.row 0;refine AG (diI 154 1 ((((BB h1 a0 ((a1))).1).getD (k) AJ).frm) i6.addr) ?_;refine AG (dl 155 (i6.get (((((BB h1 a0 ((a1))).1).getD (k) AJ).frm:Int).toNat) (by omega) 0 (by decide) _ _ (fun x hx=>by simp [hx]))) ?_;refine AG (AM (d:=156) (v:=vI ((a1))) (by kernel_rfl)) ?_;refine AG (AM (d:=157) (v:=vP b5 2) (by kernel_rfl)) ?_;refine AG (dlb 158 0 2 b5 (vI ((((BB h1 a0 ((a1))).1).getD (k) AJ).bales))) ?_;refine AG (dmu 159 ((a1)) ((((BB h1 a0 ((a1))).1).getD (k) AJ).bales)) ?_;refine AG (dsb 160 ((HB a1 h1 ((BB h1 a0 a1).1.take k)).getD (((((BB h1 a0 ((a1))).1).getD (k) AJ).frm:Int).toNat) 0) (((a1))*((((BB h1 a0 ((a1))).1).getD (k) AJ).bales))) ?_;refine AG (AM (d:=161) (v:=vS a7 (HB a1 h1 ((BB h1 a0 a1).1.take k)).length a8) (by kernel_rfl)) ?_;refine AG (AM (d:=162) (v:=vP b5 1) (by kernel_rfl)) ?_;refine AG (dlb 163 0 1 b5 (vI ((((BB h1 a0 ((a1))).1).getD (k) AJ).to))) ?_;obtain ⟨y2,f4⟩:=c3.row 0;refine AG (diI 164 1 ((((BB h1 a0 ((a1))).1).getD (k) AJ).to) f4.addr) ?_;refine AG (dl 165 (f4.get (((((BB h1 a0 ((a1))).1).getD (k) AJ).to:Int).toNat) (by omega) 0 (by decide) _ _ (fun x hx=>by simp [hx]))) ?_;refine BD (AM (d:=166) (v:=vI ((a1))) (by kernel_rfl)) ?_;refine BD (AM (d:=167) (v:=vP b5 2) (by kernel_rfl)) ?_;refine ofx_part (Rx:=((bX b5 #[vI ((((BB h1 a0 ((a1))).1).getD (k) AJ).frm),vI ((((BB h1 a0 ((a1))).1).getD (k) AJ).to),vI ((((BB h1 a0 ((a1))).1).getD (k) AJ).bales)] 58)::[])) (PR _) (dlb 168 0 2 b5 (vI ((((BB h1 a0 ((a1))).1).getD (k) AJ).bales))) ?_;refine BD (dmu 169 ((a1)) ((((BB h1 a0 ((a1))).1).getD (k) AJ).bales)) ?_;refine BD (da 170 ((HB a1 h1 ((BB h1 a0 a1).1.take k)).getD (((((BB h1 a0 ((a1))).1).getD (k) AJ).to:Int).toNat) 0) (((a1))*((((BB h1 a0 ((a1))).1).getD (k) AJ).bales))) ?_;obtain ⟨y3,f6⟩:=c3.row 0;refine AG (diI 171 1 ((((BB h1 a0 ((a1))).1).getD (k) AJ).frm) f6.addr) ?_;refine ET (Mx:=fun FX=>((bX b5 #[vI ((((BB h1 a0 ((a1))).1).getD (k) AJ).frm),vI ((((BB h1 a0 ((a1))).1).getD (k) AJ).to),vI ((((BB h1 a0 ((a1))).1).getD (k) AJ).bales)] 58)::(bX u6 #[.int .u64 (a6)] 71)::(b2++FX))) rfl (fun FX=>by simp only [AA,CA,NA,List.append_nil];exact PR _) (fun FX=>?_);refine id (CD (T:=3) (x:=(.tmp 171)) (y:=(.tmp 160)) (rc:=fun i f=>AL ((HB a1 h1 ((BB h1 a0 a1).1.take k)).getD i 0) f) 0 (((((BB h1 a0 ((a1))).1).getD (k) AJ).frm:Int).toNat) 0 (((HB a1 h1 ((BB h1 a0 a1).1.take k)).getD (((((BB h1 a0 ((a1))).1).getD (k) AJ).frm:Int).toNat) 0)-(((a1))*((((BB h1 a0 ((a1))).1).getD (k) AJ).bales))) (ty:=0) (gd:=none) (by kernel_rfl) rfl c3 f6 (by omega) (by decide) rfl rfl (by kernel_rfl) rfl rfl (by intro f hf;match f,hf with | 0,_=>rfl) (PU (PM.symm)) (fun g9 i4=>?_));refine GL (M1:=((bX b5 #[vI ((((BB h1 a0 ((a1))).1).getD (k) AJ).frm),vI ((((BB h1 a0 ((a1))).1).getD (k) AJ).to),vI ((((BB h1 a0 ((a1))).1).getD (k) AJ).bales)] 58)::(bX u6 #[.int .u64 (a6)] 71)::(g9++[]))) (by simp only [AA,CA,NA,List.append_nil];exact (PW PM)) (.wait (by kernel_rfl) (.none (.none (.part (PR _) (.none (.none (.wait (by kernel_rfl) (.wait (by kernel_rfl) (.wait (by kernel_rfl) (.wait (by kernel_rfl) (.wait (by kernel_rfl) (.wait (by kernel_rfl) (.wait (by kernel_rfl) (.wait (by kernel_rfl) (.wait (by kernel_rfl) (.wait (by kernel_rfl) (.wait (by kernel_rfl) (.wait (by kernel_rfl) (.wait (by kernel_rfl) (.wait (by kernel_rfl) (.wait (by kernel_rfl) (.part (PR _) (.none (.none (.wait (by kernel_rfl) (.wait (by kernel_rfl) (.wait (by kernel_rfl) .nil))))))))))))))))))))))))))) ?_;refine FM (BG (M':=((bX b5 #[vI ((((BB h1 a0 ((a1))).1).getD (k) AJ).frm),vI ((((BB h1 a0 ((a1))).1).getD (k) AJ).to),vI ((((BB h1 a0 ((a1))).1).getD (k) AJ).bales)] 58)::(bX u6 #[.int .u64 (a6)] 71)::(g9++F))) (fun w h=>by simpa only [AA,CA,NA,List.append_nil] using h) (nm ?_));obtain ⟨y4,e1⟩:=i4.row 0;simp only [LS] at e1;refine sd (diI 172 1 ((((BB h1 a0 ((a1))).1).getD (k) AJ).to) (fun _=>e1.addr (by omega)) (n:=(HB a1 h1 ((BB h1 a0 a1).1.take k)).length)) (sS (CD (T:=3) (x:=(.tmp 172)) (y:=(.tmp 170)) (rc:=fun i f=>AL (((HB a1 h1 ((BB h1 a0 a1).1.take k)).set (((((BB h1 a0 ((a1))).1).getD (k) AJ).frm:Int).toNat) (((HB a1 h1 ((BB h1 a0 a1).1.take k)).getD (((((BB h1 a0 ((a1))).1).getD (k) AJ).frm:Int).toNat) 0)-(((a1))*((((BB h1 a0 ((a1))).1).getD (k) AJ).bales)))).getD i 0) f) 0 (((((BB h1 a0 ((a1))).1).getD (k) AJ).to:Int).toNat) 0 (((HB a1 h1 ((BB h1 a0 a1).1.take k)).getD (((((BB h1 a0 ((a1))).1).getD (k) AJ).to:Int).toNat) 0)+(((a1))*((((BB h1 a0 ((a1))).1).getD (k) AJ).bales))) (ty:=0) (gd:=none) (by kernel_rfl) rfl i4 (by simpa only [LS] using e1) (by simp only [LS];omega) (by decide) rfl rfl (by kernel_rfl) rfl rfl (by intro f hf;match f,hf with | 0,_=>rfl) (PU (PM.symm)) (fun h0 m0=>(pm (M':=((bX b5 #[vI ((((BB h1 a0 ((a1))).1).getD (k) AJ).frm),vI ((((BB h1 a0 ((a1))).1).getD (k) AJ).to),vI ((((BB h1 a0 ((a1))).1).getD (k) AJ).bales)] 58)::(bX u6 #[.int .u64 (a6)] 71)::(h0++F))) (PW PM) (ee (NB (NX (rr (sp 1 [(68,vI (↑k))] (sd (da 69 (↑k) (1)) (sp 1 [(11,vI (↑k+1))] (ee ?_))))))))))));refine AO ((BB h1 a0 a1).1.length-(k+1)) (by omega) ?_;intro a w hS hD hW;exact ⟨k+1,vS a7 (HB a1 h1 ((BB h1 a0 a1).1.take k)).length a8,h0,by omega,(by have hq:=nowM_succ (b:=a1) (w:=h1) (z:=(BB h1 a0 a1).1) (k:=k) (by omega);unfold haulM at hq;rw [← hq];exact m0),hS.sub (.consE 10 rfl rfl (.consE 11 rfl rfl (.cons 3 rfl (.cons 4 rfl (.cons 5 rfl (.cons 6 rfl (.cons 8 rfl (.cons 9 rfl (.nil _))))))))),hD,(hW.perm (PR _)).sub (TC _ (TR _)),rfl⟩
 have s5:=h3;have h3:=CQ h3;refine CH 0 ((EP (EP (EB (NX (rq (rq ?_)))))));have x7:(BB h1 a0 a1).1.take k=(BB h1 a0 a1).1:=List.take_of_length_le (by omega);refine rr (sp 1 [(13,vI (0))] (se (rb 2 ?_)));refine rl (fun mz a w=>∃ i:Nat,(i≤h1.length)∧Slots 231 [(13,vI ↑i),(3,vS b3 h1.length b4),(4,vS b8 a0.length b9),(6,vS a9 ((BB h1 a0 ((a1))).1).length b0),(8,vS d2 (BC h1 a0 ((a1))).length d3),(9,vS c8 (BM h1 a0 ((a1))).length c9),(10,vS a7 (HB a1 h1 ((BB h1 a0 a1).1.take k)).length a8)] a∧a.defers=[]∧St o2 ((bX u6 #[.int .u64 (a6)] 71)::(b2++F)) w∧mz=h1.length-i) ?_ ?_
 ·intro a w hS hD hW;exact ⟨_,0,Nat.zero_le _,hS.sub (.cons 13 rfl (.cons 3 rfl (.cons 4 rfl (.cons 6 rfl (.cons 8 rfl (.cons 9 rfl (.cons 10 rfl (.nil _)))))))),hD,hW,rfl⟩
 rintro mz a w ⟨i,hi,hS,hD,hW,rfl⟩
 refine AW hS hD hW ?_;clear hS hD hW a w;refine rq (rqr (sp 4 [(176,.bool (cmp .lss (↑i) (↑((HB a1 h1 ((BB h1 a0 a1).1.take k)).length))))] (se (rc 176 rfl (fun h7=>?_) (fun h7=>?_)))))
 ·
  have s8:=h7;have h7:=CJ h7;refine AQ (NX (rq (rb 3 (rq ?_))));refine rd0 8 (ox 2 [(180,vI (↑i)),(179,vS a7 (HB a1 h1 ((BB h1 a0 a1).1.take k)).length a8)] ?_);obtain ⟨y5,f7⟩:=c3.row 0;refine AF (di 181 1 (i) f7.addr) ?_;refine AF (dl 182 (f7.get (i) (by omega) 0 (by decide) _ _ (fun x hx=>by simp [hx]))) (ox 2 [(184,vI (↑i)),(183,vS b8 a0.length b9)] ?_);refine AF (di 185 1 (i) a4.addr) ?_;refine AF (dl 186 (CE a4 (i) (by omega))) ?_;refine BE (sd (dcm 187 .lss ((HB a1 h1 ((BB h1 a0 a1).1.take k)).getD (i) 0) (a0.getD (i) 0) false (by have hq:=cut_now hd f1 (i:=i) (by omega);rw [x7];simp only [KK,decide_eq_false_iff_not];omega)) (se (rcf 187 rfl (AQ (NB (NX (rr (sp 1 [(177,vI (↑i))] (sd (da 178 (↑i) (1)) (sp 1 [(13,vI (↑i+1))] (ee ?_)))))))))));refine AO (h1.length-(i+1)) (by omega) ?_;intro a w hS hD hW;exact ⟨i+1,by omega,hS.sub (.consE 13 rfl rfl (.cons 3 rfl (.cons 4 rfl (.cons 6 rfl (.cons 8 rfl (.cons 9 rfl (.cons 10 rfl (.nil _)))))))),hD,hW,rfl⟩
 have s8:=h7;have h7:=CQ h7;refine CH 2 ((EP (EP (EB (NX (rqr (sp 2 [(189,vS c8 (BM h1 a0 ((a1))).length c9),(188,vS d2 (BC h1 a0 ((a1))).length d3)] ?_)))))));have A2:(AN h1.length (h1.length*h1.length) (BC h1 a0 a1) (BM h1 a0 a1)).length≤50625:=cut_few hd;have A1:=lists_all h1.length (h1.length*h1.length) o2 _ (BC h1 a0 a1) _ (BM h1 a0 a1) 0 0 0 0 rfl rfl b6 b7 EM EI (Nat.zero_le _) (Nat.zero_le _) (by omega) ⟨x8.2.1,x8.2.2⟩ (by omega) m3.cap.1 m3.cap.2;refine sS (FA (d:=some 190) (f:=(.func 26)) (fid:=26) (args:=#[(.tmp 188),(.tmp 189),(.const (vI 0)),(.const (vI 0))]) (tys:=#[22,22,3,3]) (cv:=[]) (F:=((bX u6 #[.int .u64 (a6)] 71)::(b2++F))) (ty:=59) (gd:=none) (by kernel_rfl) rfl rfl rfl (by kernel_rfl) rfl A1 (PR _) (fun z0 p1 e0 d9 m1=>?_));obtain ⟨c2,d4,e5⟩:=m1;replace a2:=a2.mono d9;replace a5:=a5.mono d9;obtain ⟨c0,c1,g8,p0⟩:=d4.shape;subst g8;have e6:=e5.1
 try simp only [LS,LA,LC,LN,LK] at e6
 refine pm (M':=((bX u6 #[.int .u64 (a6)] 71)::(e0++(b2++F)))) PM ?_;show Seq _ _ _ _ _ _ ((190,vS c0 c2.length c1)::_) _ _;refine sp 1 [(14,vS c0 c2.length c1)] (se (rq (rqr (sp 1 [(15,vI (0))] (se (rb 4 ?_))))));refine rl (fun mz a w=>∃ j:Nat,(j≤(AN h1.length (h1.length*h1.length) (BC h1 a0 a1) (BM h1 a0 a1)).length)∧Slots 231 [(15,vI ↑j),(3,vS b3 h1.length b4),(6,vS a9 ((BB h1 a0 ((a1))).1).length b0),(10,vS a7 (HB a1 h1 ((BB h1 a0 a1).1.take k)).length a8),(14,vS c0 c2.length c1)] a∧a.defers=[]∧St p1 ((bX u6 #[.int .u64 (a6)] 71)::(e0++(b2++F))) w∧mz=(AN h1.length (h1.length*h1.length) (BC h1 a0 a1) (BM h1 a0 a1)).length-j) ?_ ?_
 ·intro a w hS hD hW;exact ⟨_,0,Nat.zero_le _,hS.sub (.cons 15 rfl (.cons 3 rfl (.cons 6 rfl (.cons 10 rfl (.cons 14 rfl (.nil _)))))),hD,hW,rfl⟩
 rintro mz a w ⟨j,hj,hS,hD,hW,rfl⟩
 refine AW hS hD hW ?_;clear hS hD hW a w;refine rq (rqr (sp 4 [(194,.bool (cmp .lss (↑j) (↑(c2.length))))] (se (rc 194 rfl (fun h8=>?_) (fun h8=>?_)))))
 ·
  have s9:=h8;have h8:=CJ h8;refine AQ (NX (rq (rb 5 (rq ?_))));have A4:=A0 _ (AV (xs:=AN h1.length (h1.length*h1.length) (BC h1 a0 a1) (BM h1 a0 a1)) (d:=[]) (k:=j) (by omega));refine rr (sp 2 [(198,vI (↑j)),(197,vS c0 c2.length c1)] ?_);obtain ⟨y6,f8⟩:=d4.row undef;refine sd (di 199 1 (j) f8.addr) ?_;have g3:=e5.2 (j) (by omega);obtain ⟨t8,u0,t9,u3,g2,u1,u2,u4⟩:=id g3;rw [g2] at g3;refine sd (GS (dl 200 (f8.get (j) (by omega) 0 (by decide) _ _ (fun x hx=>by simp [hx]))) g2) (sp 3 [(203,vI (↑(((BB h1 a0 ((a1))).1).length))),(201,vI (↑(((AN h1.length (h1.length*h1.length) (BC h1 a0 a1) (BM h1 a0 a1)).getD (j) []).length)))] (sd (dcm 204 .lss (↑(((AN h1.length (h1.length*h1.length) (BC h1 a0 a1) (BM h1 a0 a1)).getD (j) []).length)) (↑(((BB h1 a0 ((a1))).1).length)) false (by simp only [KK,decide_eq_false_iff_not];omega)) (sp 3 [(207,vI (↑j)),(206,vS c0 c2.length c1),(205,.bool (false))] ?_)));obtain ⟨y7,f9⟩:=d4.row undef;refine sd (di 208 1 (j) f9.addr) ?_;have g5:=e5.2 (j) (by omega);obtain ⟨u5,u8,u7,v1,g4,u9,v0,v2⟩:=id g5;rw [g4] at g5;refine sd (GS (dl 209 (f9.get (j) (by omega) 0 (by decide) _ _ (fun x hx=>by simp [hx]))) g4) (sp 5 [(214,.bool (cmp .eql (↑(((AN h1.length (h1.length*h1.length) (BC h1 a0 a1) (BM h1 a0 a1)).getD (j) []).length)) (↑(((BB h1 a0 ((a1))).1).length))))] ?_);refine CC 214 rfl (fun h9=>?_) (fun h9=>?_)
  ·
   have f0:=h9;have f0:=CP f0;refine sp 2 [(216,vI (↑j)),(215,vS c0 c2.length c1)] ?_;obtain ⟨y8,g0⟩:=d4.row undef;refine sd (di 217 1 (j) g0.addr) ?_;have e3:=e5.2 (j) (by omega);obtain ⟨v3,v5,v4,v8,g6,v6,v7,v9⟩:=id e3;rw [g6] at e3;refine sd (GS (dl 218 (g0.get (j) (by omega) 0 (by decide) _ _ (fun x hx=>by simp [hx]))) g6) (sp 1 [(219,vS a9 ((BB h1 a0 ((a1))).1).length b0)] (sd (dc 220 (fun I' hI=>(earlier_ct I' _ _ _ _ (e3.mono hI) (a5.mono hI) :))) (EC 220 rfl (show (.bool (BQ ((AN h1.length (h1.length*h1.length) (BC h1 a0 a1) (BM h1 a0 a1)).getD (j) []) ((BB h1 a0 ((a1))).1)):Value)=.bool (false) from congrArg Value.bool (A4.2 (by omega))) (sp 2 [(222,.bool (false))] (se (rcf 222 rfl (AQ (NB (NX (rr (sp 1 [(195,vI (↑j))] (sd (da 196 (↑j) (1)) (sp 1 [(15,vI (↑j+1))] (ee ?_))))))))))))));refine AO ((AN h1.length (h1.length*h1.length) (BC h1 a0 a1) (BM h1 a0 a1)).length-(j+1)) (by omega) ?_;intro a w hS hD hW;exact ⟨j+1,by omega,hS.sub (.consE 15 rfl rfl (.cons 3 rfl (.cons 6 rfl (.cons 10 rfl (.cons 14 rfl (.nil _)))))),hD,hW,rfl⟩
  have f0:=h9;have f0:=CT f0;refine sp 8 [(222,.bool (false))] (se (rcf 222 rfl (AQ (NB (NX (rr (sp 1 [(195,vI (↑j))] (sd (da 196 (↑j) (1)) (sp 1 [(15,vI (↑j+1))] (ee ?_))))))))));refine AO ((AN h1.length (h1.length*h1.length) (BC h1 a0 a1) (BM h1 a0 a1)).length-(j+1)) (by omega) ?_;intro a w hS hD hW;exact ⟨j+1,by omega,hS.sub (.consE 15 rfl rfl (.cons 3 rfl (.cons 6 rfl (.cons 10 rfl (.cons 14 rfl (.nil _)))))),hD,hW,rfl⟩
 have s9:=h8;have h8:=CQ h8;refine CH 4 ((EP (EP (EB (NX (rq ?_))))));refine FO (B:=((bX u6 #[.int .u64 (a6)] 71)::(e0++F))) 0 c3 (by first | omega | (simp only [LS,LC,LN,LA,LK,LD] <;> omega) | decide) (PU (PO _ _ _)) (PR _) (fun p2 f2 e4=>?_);replace a2:=a2.mono f2;obtain ⟨o3,o5,o4,o8,g7,o6,o7,o9⟩:=id e4;cases g7;refine rr (sp 1 [(223,vS a7 (HB a1 h1 ((BB h1 a0 a1).1.take k)).length a8)] (sd (dc 224 (fun I' hI=>(Sum_ct I' _ _ (e4.mono hI) (by exact cut_all hd f1) (by omega) :))) (sp 1 [(225,vS b3 h1.length b4)] (sd (dc 226 (fun I' hI=>(Sum_ct I' _ _ (a2.mono hI) (by exact fun x hx=>(by have hq:=hd.have_ x hx;omega)) (by omega) :))) (sp 1 [(227,.bool (cmp .eql (((HB a1 h1 ((BB h1 a0 a1).1.take k)).sum)) ((h1.sum))))] (EC 227 rfl (show (.bool (cmp .eql (((HB a1 h1 ((BB h1 a0 a1).1.take k)).sum)) ((h1.sum))):Value)=.bool (true) from congrArg Value.bool (decide_eq_true (by rw [x7];exact cut_sum f1))) (sp 1 [(228,.bool (true))] ?_)))))));have j4:=counting_ct p2;refine sS (sc (some 229) (j4 :) (.refl _) (fun z1 z5 y9 j5 m2=>?_));obtain ⟨i5,i3⟩:=m2;rw [i5,i3];clear i5 i3;refine nm ?_;refine sp 2 [(2,.bool (true))] (se (BR (AH (t:=2) [] (by kernel_rfl) rfl (TC _ (TT (TR _) (TB _ _))) (IT (IT (IT (IT (IT (IT (IT (IT (IT (IT (IT (IT (IT l3 i1) i2) f3) d5) d6) c4) d0) d1) c5) c7) d9) f2) j5) ?_)));exact ⟨rfl,rfl⟩
end Go.Proofs.Ytgcemienebmdeaa
namespace Go.Sl
open Go Go.ChangeShapes Go.WideShapes
def immOf (W:World):Imm:=⟨W.os,W.tape,W.output,fun b=>W.heap[b]?⟩
theorem st_immOf (W:World):St (immOf W) [] W:=⟨rfl,rfl,rfl,fun _ _ h=>h,fun _ _ h=>by simp at h,by simp,fun _ _ h=>by simp at h⟩
theorem ND {W:World} {a:Addr} {v:Value} (h:W.cell? a=some v):a.spot=none∧∃ cs T fz,W.heap[a.block]?=some (.cells cs T fz)∧cs[a.off]?=some v:=by
  unfold World.cell? at h
  split at h
  · rename_i cs T fz hb
    split at h
    · cases h
    · rename_i hs
      refine ⟨by cases hx:a.spot with | none=>rfl | some _=>rw [hx] at hs;simp at hs,cs,T,fz,hb,h⟩
  · cases h
theorem same_of_le {W W':World} {J:Imm} {M:Seg} (le:(immOf W).le J) (st:St J M W'):(∀ b,b<W.heap.size→W'.heap[b]?=W.heap[b]?)∧W'.os=W.os∧W'.output=W.output:=by
  refine ⟨fun b hb=>?_,st.os.trans le.os,st.output.trans le.output⟩;have h:(immOf W).blk b=some W.heap[b]:=by show W.heap[b]?=_;simp [hb]
  rw [st.imm b _ (le.blk b _ h)];exact h.symm
theorem keptBut_same {W W':World} {may:MemPlace→Prop} (h:∀ b,b<W.heap.size→W'.heap[b]?=W.heap[b]?) (ho:W'.os=W.os) (hu:W'.output=W.output):W.keptBut W' may:=by
  refine ⟨ho,hu,fun i hi=>?_⟩;rw [h i hi];have:W.heap[i]?=some W.heap[i]:=by simp [hi]
  rw [this];cases W.heap[i] <;> simp
theorem sameAt_heap {W W':World} {p:MemPlace} (h:W'.heap[p.block]?=W.heap[p.block]?):W.sameAt W' p:=by
  cases p <;> simp only [MemPlace.block] at h <;> simp [World.sameAt,World.cell?,World.frozen?,h]
end Go.Sl
namespace Go
end Go
namespace Go.Sl
open Go Go.ChangeShapes Go.WideShapes Go.Deep Go.Sh
section
variable {H:Type} {enc:TypeId × Value→H} {P:Program} {W:World}
def Light (P:Program) (t:TypeId) (d:DataW H):Prop:=∀ n∈d.weights P t,n≤reachBytes
theorem light_arg {ts:List TypeId} {ds:List (DataW H)} (h:(DataW.weightsEach P ts ds).all (·≤reachBytes)=true) {j:Nat} {t:TypeId} {d:DataW H} (ht:ts[j]?=some t) (hd:ds[j]?=some d):Light P t d:=fun n hn=>by
  have:=List.all_eq_true.1 h _ (DataW.weights_mem_each ht hd n hn)
  simpa using this
theorem light_all {e:TypeId}:∀ {l:List (DataW H)} {d:DataW H},d∈l→∀ n∈d.weights P e,n∈DataW.weightsAll P e l:=by
  intro l
  induction l with
  | nil=>intro d h;simp at h
  | cons x r ih=>
    intro d h n hn;simp only [DataW.weightsAll,List.mem_append];rcases List.mem_cons.1 h with rfl | h
    · exact .inl hn
    · exact .inr (ih h n hn)
theorem light_elem {t e:TypeId} {elems sp:List (DataW H)} (ht:P.underlying t=some (.slice e)) (h:Light P t (.slice elems sp)):(elems.length+sp.length)*P.bytesOf e≤reachBytes∧(∀ d∈elems,Light P e d)∧∀ d∈sp,Light P e d:=by
  have e1:(DataW.slice elems sp).weights P t=(elems.length+sp.length)*P.bytesOf e::(DataW.weightsAll P e elems++DataW.weightsAll P e sp):=by simp [DataW.weights,ht]
  refine ⟨h _ (by rw [e1];exact List.mem_cons_self),fun d hd n hn=>h n ?_,fun d hd n hn=>h n ?_⟩
  · rw [e1];exact List.mem_cons_of_mem _ (List.mem_append_left _ (light_all hd n hn))
  · rw [e1];exact List.mem_cons_of_mem _ (List.mem_append_right _ (light_all hd n hn))
theorem addr_plain' {w:World} {a:Addr} {i:Nat} {v:Value} (hi:i=0) (h:w.cell? (a.add i)=some v):a=⟨a.block,a.off,none⟩:=by
  subst hi;have:=(ND h).1;cases a with
  | mk b o s=>
    unfold Addr.add at this;simp only [if_true] at this;subst this;rfl
theorem sl_of {α : Type} [Inhabited α] {sz : Nat} {cell : α → Nat → Value} {dflt : α} {Q : α → Prop} {t e : TypeId} {fuel : Nat} {v : Value} {d : DataW H} {p : List MemPlace} (ht : P.underlying t = some (.slice e)) (hc : P.cellsOf e = sz) (hs : 0 < sz) (hb : 0 < P.bytesOf e)
    (h:DataW.trod enc P W 0 (fun _=>true) true fuel t [v]=some (d,p)) (hl:Light P t d)
    (el:∀ n cs d p,cs.length=sz→DataW.trod enc P W 0 (fun _=>true) true n e cs=some (d,p)→Light P e d→∃ a:α,Q a∧∀ f,f<sz→cs[f]?=some (cell a f)):∃ xs:List α,IsSl sz cell dflt (immOf W) v xs∧∀ x∈xs,Q x:=by
  rcases open_slice ht h with ⟨hcs,_⟩ | ⟨a,len,cap,m,n,D,Pl,hcs,_,hle,hm,hmm,hx,hel⟩
  · obtain rfl:=List.head_eq_of_cons_eq hcs
    exact ⟨[],IsSl.nil _,fun x hx=>by simp at hx⟩
  · obtain rfl:=List.head_eq_of_cons_eq hcs
    simp only [if_true] at hmm;subst hmm;simp only [Prod.mk.injEq] at hx;obtain ⟨rfl,rfl⟩:=hx;obtain ⟨l1,l2,l3⟩:=light_elem ht hl;simp only [List.length_map,List.length_range] at l1;have hr:len≤140737488355328:=by
      have:len*1≤(len+(m-len))*P.bytesOf e:=Nat.mul_le_mul (by omega) hb;simp only [reachBytes] at l1;omega
    have each:∀ i,i<len→∃ x:α,Q x∧∀ f,f<sz→W.cell? (a.add (i*sz+f))=some (cell x f):=fun i hi=>by
      obtain ⟨cs,h1,h2⟩:=hel i (by omega);rw [hc] at h1;obtain ⟨_,hlen,hcell⟩:=World.cells?_some h1;obtain ⟨x,hq,hxf⟩:=el n cs _ _ hlen h2 (l2 _ (List.mem_map.2 ⟨i,by simp [hi],rfl⟩));refine ⟨x,hq,fun f hf=>?_⟩;rw [← add_add,hcell f hf,hxf f hf]
    obtain ⟨g,hg⟩:=choose_lt each;refine ⟨(List.range len).map g,⟨some a,m,a.block,a.off,by simp,by simpa using hle,by simpa using hr,⟨fun h0=>?_,fun i hi f hf=>?_⟩⟩,fun x hx=>?_⟩
    · simp only [List.length_map,List.length_range] at h0
      exact congrArg some (addr_plain' (by simp) ((hg 0 h0).2 0 hs))
    · simp only [List.length_map,List.length_range] at hi
      have hcell:=(hg i hi).2 f hf;have e0:=addr_plain' (by simp) ((hg 0 (by omega)).2 0 hs);obtain ⟨h1,cs,T,fz,hb',hv⟩:=ND hcell;have e1:a.add (i*sz+f)=⟨a.block,a.off+(i*sz+f),none⟩:=by rw [e0];exact EL _ _ _
      rw [e1] at hb' hv;have e2:((List.range len).map g).getD i dflt=g i:=by simp [List.getD,hi]
      simp only [e2];exact ⟨rfl,cs,T,fz,hb',by rw [Nat.add_assoc];exact hv⟩
    · obtain ⟨i,hi,rfl⟩:=List.mem_map.1 hx
      exact (hg i (List.mem_range.1 hi)).1
theorem ints_of {t e : TypeId} {fuel : Nat} {v : Value} {d : DataW H} {p : List MemPlace} (ht : P.underlying t = some (.slice e)) (he : P.underlying e = some (.int .i64)) (hc : P.cellsOf e = 1) (hb : 0 < P.bytesOf e)
    (h:DataW.trod enc P W 0 (fun _=>true) true fuel t [v]=some (d,p)) (hl:Light P t d):∃ xs:List Int,BH (immOf W) v xs:=by
  obtain ⟨xs,h1,_⟩:=sl_of (cell:=AL) (dflt:=(0:Int)) (Q:=fun _=>True) ht hc (by decide) hb h hl fun n cs d p hcs hd _=>by
    obtain ⟨z,rfl,_,_⟩:=DataW.trod_int he hd;exact ⟨z,trivial,fun f hf=>(show f=0 by omega)▸rfl⟩
  exact ⟨xs,h1⟩
instance:Inhabited Value:=⟨undef⟩
instance:Inhabited Car:=⟨noCar⟩
instance:Inhabited Shift:=⟨noShift⟩
theorem all_stay (hl : laidOutB P = true) {W' : World} {sp' : Nat → Bool} : ∀ {ts : List TypeId} {vs : List Value} {ds : List (DataW H)} {p : List MemPlace}, (∀ t ∈ ts, P.readableRec t = true ∧ t < P.types.size) → DataW.TrodAll enc P W 0 (fun _ => true) true ts vs ds p →
    (∀ x∈p,W.sameAt W' x)→(∀ x∈p,sp' x.block=true)→DataW.TrodAll enc P W' 0 sp' true ts vs ds p:=by
  intro ts
  induction ts with
  | nil=>intro vs ds p _ h _ _;obtain ⟨rfl,rfl,rfl⟩:=trodAll_nil h;exact rfl
  | cons t ts ih=>
    intro vs ds p hr h h1 h2;obtain ⟨v,vs',d,ds',q,q',rfl,rfl,rfl,g1,g2⟩:=trodAll_cons h
    exact ⟨q,q',WideElems.Trod_stays hl (hr t List.mem_cons_self).1 (hr t List.mem_cons_self).2 g1 (fun x hx=>h1 x (List.mem_append_left _ hx)) (fun x hx=>h2 x (List.mem_append_left _ hx)),
      ih (fun t ht=>hr t (List.mem_cons_of_mem _ ht)) g2 (fun x hx=>h1 x (List.mem_append_right _ hx)) (fun x hx=>h2 x (List.mem_append_right _ hx)),rfl⟩
end
end Go.Sl
namespace Go.Proofs.Ytgcemienebmdeaa
open Go Go.ChangeShapes Go.WideShapes Go.RowKit Go.Sl Go.Sh
set_option maxRecDepth 100000
theorem Row.own:ownKnob Try.prog.godebug=none:=by kernel_rfl
theorem Row.laidOut:laidOutB Try.prog=true:=by kernel_rfl
theorem Row.cells:Try.prog.cellsOf 3=1:=by kernel_rfl
theorem Row.bytes:Try.prog.bytesOf 3=8:=by kernel_rfl
theorem law_lifted (os : Os) (started : os.Started) (H : Type) (enc : TypeId × Value → H) :
    ReturnsInHanded {} Try.checked os 5 .any (Rows.linenDividedSpec.pre6 enc Try.prog Try.f5 Rows.linenDividedRow.domain false) (Rows.linenDividedSpec.post enc Try.prog Try.f5 false true false false):=by
  refine returnsInHanded_of_change_sized (C:=Try.checked) Row.own started (by kernel_rfl) Try.func5
    (ChangeSpec.witness6 (enc:=enc) (C:=Try.checked) false ⟨#[],#[.slice none 0 0],[]⟩ 8 (by kernel_rfl) (by kernel_rfl) (by kernel_rfl) (by kernel_rfl)) ?_
  intro W base args ds gs before hval0 hW _ hsz0 _
  have hsz:(DataW.weightsEach Try.prog (Try.f5.params.toList++Rows.linenDividedSpec.plain.varTypes Try.prog) (ds++gs)).all (·≤reachBytes)=true:=hsz0
  have hval:∀ (j:Nat) t v,Try.f5.params[j]?=some t→args[j]?=some v→Value.okWide Try.prog W .any base t v:=hval0
  clear hsz0 hval0
  have hW':=hW
  obtain ⟨p,q,hA0,hV,rfl,hfz,hnd⟩:=hW
  have hA:DataW.TrodAll enc Try.prog W 0 (fun _=>true) true Try.f5.params.toList args.toList ds p:=hA0
  rw [Try.params5] at hA hval
  obtain ⟨v0,vs0,d0,ds0,p0,q0,ha0,rfl,hp0,h0,r0⟩:=trodAll_cons hA
  obtain ⟨hav,rfl,hpn⟩:=trodAll_nil r0
  have hargs:args=#[v0]:=Array.toList_inj.1 (by rw [ha0,hav])
  subst hargs
  obtain ⟨rfl,rfl⟩:=trodVars_none hV
  have hlt:∀ x∈p,x.block<W.heap.size:=fun x hx=>by simpa using hW'.lt x (List.mem_append_left _ hx)
  have hA2:=hA
  clear hA r0 ha0 hav
  obtain ⟨a0,n0,c0,rfl⟩:=okWide_slice Try.underlying22 (hval 0 22 v0 rfl rfl)
  obtain ⟨fu0,hf0⟩:=h0
  obtain ⟨L0,hy0⟩:=ints_of (t:=22) (e:=3) Try.underlying22 Try.underlying3 (by kernel_rfl) (of_decide_eq_true (by kernel_rfl)) hf0 (light_arg hsz (j:=0) rfl rfl)
  refine (LinenDivided_ct (immOf W) _ L0 hy0 [] W (by simpa using st_immOf W)).mono fun e W' ⟨v,I',M',he,hle,⟨hv,hM⟩,st'⟩=>?_
  subst he
  subst hv
  obtain ⟨hsame,hos,hout⟩:=same_of_le hle st'
  have hk:∀ may:MemPlace→Prop,W.keptBut W' may:=fun may=>keptBut_same hsame hos hout
  refine ⟨_,rfl,?_⟩
  refine ⟨_,_,_,[],p,[],hW',?_,?_,?_,hk _,fun h=>by cases h⟩
  · exact trodAll_mk1 (shut_bool Try.underlying4 true)
  · exact all_stay Row.laidOut (fun t ht=>by have h1:=List.all_eq_true.1 (show ([22].all fun t=>Try.prog.readableRec t&&decide (t<Try.prog.types.size))=true by kernel_rfl) t ht;simpa using h1) hA2 (fun x hx=>sameAt_heap (hsame _ (hlt x hx))) (fun x hx=>by simpa using hlt x hx)
  · rfl
theorem f_holds:Rows.LinenDividedSaid:=
  OpenClaim.holds_of_wide 5 Try.f5 rfl rfl rfl rfl rfl rfl rfl ⟨rfl,rfl,rfl,rfl,rfl⟩ rfl rfl rfl rfl rfl (by kernel_rfl) Try.func5 (by kernel_rfl)
    (of_decide_eq_true (by kernel_rfl)) (by unfold Func.isWrapper;rw [if_neg (of_decide_eq_false (by kernel_rfl))];exact ⟨rfl,rfl⟩)
    (fun os started H enc _=>law_lifted os started H enc)
#print axioms f_holds
end Go.Proofs.Ytgcemienebmdeaa
