/- A part of the proof of the laws of this seat. -/
import Derived.Test.YtgcemienebmdeaaGreatP2
import Derived.Test.YtgcemienebmdeaaGreatP3
import Derived.Test.YtgcemienebmdeaaGreatP1
import Derived.Test.YtgcemienebmdeaaGreatP5
import Derived.Test.YtgcemienebmdeaaGreatP4
set_option linter.unusedVariables false
set_option linter.unusedSimpArgs false
namespace Go.Sh
open Go Go.Sl
def JE (so:Int):Hs→Int
  | []=>0
  | x::r=>(if x.1.so=so then x.2 else 0)+JE so r
section
variable {so:Int} {H H':Hs} {k:HKey} {v d:Int}
theorem sumK_append:JE so (H++H')=JE so H+JE so H':=by
  induction H with
  | nil=>simp [JE]
  | cons x r ih=>simp only [List.cons_append,JE,ih];omega
theorem sumK_perm (h:H.Perm H'):JE so H=JE so H':=by
  induction h with
  | nil=>rfl
  | cons x _ ih=>simp only [JE,ih]
  | swap x y l=>simp only [JE];omega
  | trans _ _ h1 h2=>exact h1.trans h2
theorem sumK_put:JE so (GU k v H)=JE so H+(if k.so=so then v-BZ k H else 0):=by
  induction H with
  | nil=>simp only [GU,JE,BZ];split <;> omega
  | cons x r ih=>
    simp only [GU,BZ]
    by_cases e:x.1=k
    · rw [if_pos e,if_pos e];simp only [JE];rw [e];split <;> omega
    · rw [if_neg e,if_neg e];simp only [JE];rw [ih];omega
theorem putH_len:(GU k v H).length≤H.length+1:=by
  induction H with
  | nil=>exact Nat.le_refl _
  | cons x r ih => simp only [GU]; split
                   · simp
                   · simp only [List.length_cons];omega
theorem sumK_bound {B:Int} (hB:0≤B) (h:∀ x∈H,-B≤x.2∧x.2≤B):-(B*H.length)≤JE so H∧JE so H≤B*H.length:=by
  induction H with
  | nil=>simp [JE]
  | cons x r ih=>
    have h1:=ih (fun y hy=>h y (by simp [hy]));have h2:=h x (by simp);simp only [JE,List.length_cons,Int.natCast_add,Int.natCast_one,Int.mul_add,Int.mul_one]
    split <;> omega
end
theorem sum_perm {α:Type} {f:α→Int} {l m:List α} (h:l.Perm m):(l.map f).sum=(m.map f).sum:=by
  induction h with
  | nil=>rfl
  | cons x _ ih=>simp only [List.map_cons,List.sum_cons,ih]
  | swap x y l=>simp only [List.map_cons,List.sum_cons];omega
  | trans _ _ h1 h2=>exact h1.trans h2
def startTo (so:Nat) (st:List (List Int)) (i:Nat):Int:=((st.take i).map fun r=>r.getD so 0).sum
theorem startTo_succ {so i:Nat} {st:List (List Int)} (hi:i<st.length):startTo so st (i+1)=startTo so st i+(st.getD i []).getD so 0:=by
  unfold startTo;rw [CC (d:=[]) hi,List.map_append,List.sum_append];simp
theorem LZ {p:Int} {row:List Int} {H:Hs} {k:HKey}:∀ {j:Nat},(k.pl≠p∨(j:Int)≤k.so)→BZ k (EW p row j H)=BZ k H:=by
  intro j
  induction j with
  | zero=>intro _;rfl
  | succ j ih=>
    intro h;simp only [EW];rw [HG,if_neg,ih]
    · rcases h with h | h
      · exact .inl h
      · exact .inr (by omega)
    · intro e;subst e;simp only at h;omega
theorem openTo_get {st:List (List Int)} {k:HKey}:∀ {i:Nat},(i:Int)≤k.pl→BZ k (FF st i)=0:=by
  intro i
  induction i with
  | zero=>intro _;rfl
  | succ i ih=>intro h;simp only [FF];rw [LZ (.inl (by omega)),ih (by omega)]
theorem sumK_row {p:Int} {row:List Int} {so:Nat} {H:Hs} (h0:BZ ⟨p,so,false⟩ H=0) (hz:∀ j:Nat,BZ ⟨p,j,false⟩ H=0):∀ {j:Nat},JE so (EW p row j H)=JE so H+(if so<j then row.getD so 0 else 0):=by
  intro j
  induction j with
  | zero=>simp [EW]
  | succ j ih=>
    simp only [EW];rw [sumK_put,ih,LZ (.inr (Int.le_refl _)),hz j]
    by_cases e:so=j
    · subst e;simp
    · have e3:¬ ((j:Int)=(so:Int)):=by omega
      simp only;rw [if_neg e3]
      by_cases e2:so<j
      · rw [if_pos e2,if_pos (by omega)];omega
      · rw [if_neg e2,if_neg (by omega)];omega
theorem sumK_open {st:List (List Int)} {so:Nat}:∀ {i:Nat},i≤st.length→JE so (FF st i)=startTo so st i:=by
  intro i
  induction i with
  | zero=>intro _;simp [FF,JE,startTo]
  | succ i ih=>
    intro hi;rw [startTo_succ (by omega),← ih (by omega)];simp only [FF];rw [sumK_row (openTo_get (Int.le_refl _)) (fun j=>openTo_get (Int.le_refl _))]
    split
    · rfl
    · rename_i h;generalize st.getD i []=r at h ⊢;rw [show r.getD so 0=0 by simp [List.getD,show r.length≤so by omega]]
def EX (L:Lin) (so hour:Int):Int × Int:=
  if AU L≠0 then (0,AU L) else if inB so 0 (L.sorts-1)=false then (0,3) else if inB hour 0 200=false then (0,1) else (JE so (atH L hour),0)
section
variable {L:Lin} {so hour:Int}
theorem totalE_1 (h:AU L≠0):EX L so hour=(0,AU L):=if_pos h
theorem totalE_2 (h:AU L=0) (h2:inB so 0 (L.sorts-1)=false):EX L so hour=(0,3):=by unfold EX;rw [if_neg (fun x=>x h),if_pos h2]
theorem totalE_3 (h:AU L=0) (h2:inB so 0 (L.sorts-1)=true) (h3:inB hour 0 200=false):EX L so hour=(0,1):=by unfold EX;rw [if_neg (fun x=>x h),if_neg (by rw [h2];decide),if_pos h3]
theorem totalE_4 (h:AU L=0) (h2:inB so 0 (L.sorts-1)=true) (h3:inB hour 0 200=true):EX L so hour=(JE so (atH L hour),0):=by unfold EX;rw [if_neg (fun x=>x h),if_neg (by rw [h2];decide),if_neg (by rw [h3];decide)]
end
theorem inB_of {n lo hi:Int} (h:lo≤n∧n≤hi):¬ inB n lo hi=false:=by simp [inB,h.1,h.2]
theorem ES {L:Lin} (g:GoodL L):AU L=0:=by
  have h1:DA L=0:=by
    unfold DA;rw [if_neg (fun h=>h g.start),if_neg,if_neg]
    · rw [List.all_eq_true.2 (fun n hn => by
        obtain ⟨r,hr,hn⟩:=List.mem_flatten.1 hn
        simpa using inB_of (g.nums r hr n hn))];decide
    · rw [List.all_eq_true.2 (fun r hr=>decide_eq_true (g.rows r hr))];decide
  have h2:DR L=0:=by unfold DR;rw [if_neg (by have:=g.keeps;omega)];exact firstE_zero.2 g.keep
  unfold AU;rw [if_neg (inB_of g.places),if_neg (inB_of g.sorts),h1,h2,if_neg (fun h=>h rfl),if_neg (fun h=>h rfl),if_neg (by have:=g.slips;omega)];exact firstE_zero.2 g.slip
theorem doSlip_len {s:Slip} {H:Hs}:(doSlip s H).length≤H.length+2:=by
  have h1:∀ {k:HKey} {v:Int} {H:Hs},(LL k v H).length≤H.length+1:=fun {k v H}=>putH_len
  unfold doSlip
  repeat' split
  · exact Nat.le_trans h1 (Nat.succ_le_succ h1)
  · exact Nat.le_trans h1 (Nat.succ_le_succ h1)
  · exact Nat.le_trans h1 (Nat.succ_le_succ h1)
  · exact Nat.le_trans putH_len (Nat.le_succ _)
  · exact Nat.le_trans h1 (Nat.le_succ _)
  · exact Nat.le_trans h1 (Nat.le_succ _)
theorem aft_len:∀ {S:List Slip} {H:Hs},(aft H S).length≤H.length+2*S.length:=by
  intro S
  induction S with
  | nil=>intro H;exact Nat.le_refl _
  | cons s r ih=>
    intro H;have h1:=ih (H:=doSlip s H);have h2:=doSlip_len (s:=s) (H:=H);rw [show aft H (s::r)=aft (doSlip s H) r from rfl,List.length_cons];omega
theorem openRow_len {p:Int} {row:List Int} {H:Hs}:∀ {j:Nat},(EW p row j H).length≤H.length+j:=by
  intro j
  induction j with
  | zero=>exact Nat.le_refl _
  | succ j ih=>simp only [EW];exact Nat.le_trans putH_len (by omega)
theorem openTo_len {st:List (List Int)} (h:∀ r∈st,r.length≤2):∀ {i:Nat},i≤st.length→(FF st i).length≤2*i:=by
  intro i
  induction i with
  | zero=>intro _;exact Nat.le_refl _
  | succ i ih=>
    intro hi;have h1:=openRow_len (p:=(i:Int)) (row:=st.getD i []) (H:=FF st i) (j:=(st.getD i []).length);have h2:=ih (by omega);have h3:=h _ (AV (xs:=st) (d:=[]) (show i<st.length by omega));simp only [FF];omega
theorem atH_len {L:Lin} {n:Int} (g:GoodL L):(atH L n).length≤24:=by
  have h1:=aft_len (S:=AD AC (CP L n)) (H:=DV L);have h2:(DV L).length≤2*L.start.length:=openTo_len (fun r hr=>by have:=g.rows r hr;have:=g.sorts;omega) (Nat.le_refl _);have h3:(AD AC (CP L n)).length≤L.slips.length:=by rw [(BM _).length_eq];exact List.length_filter_le _ _
  have h4:=g.slips;have h5:=g.start;have h6:=g.places;unfold atH;omega
theorem atH_small {L:Lin} {n:Int} (g:GoodL L) (hn:((atH L n).map Prod.fst).Nodup):∀ x∈atH L n,-1000000≤x.2∧x.2≤1000000:=fun x hx=>by
  have hw:=((g.goodS.to n).sorted.within g.within (AD AC (CP L n)).length) x.1;rw [show (AD AC (atL L n).slips)=AD AC (CP L n) from rfl,List.take_length,show aft (DV L) (AD AC (CP L n))=atH L n from rfl,getH_mem hn hx] at hw;omega
theorem sum_cut {L:Lin} {n so:Int} {dn td A B:Hs} {y:HKey × Int} (g:GoodL L) (hn:((atH L n).map Prod.fst).Nodup) (hp:(dn++td).Perm (atH L n)) (e:td=A++y::B):(-24000000≤JE so dn∧JE so dn≤24000000)∧-1000000≤y.2∧y.2≤1000000:=by
  have hs:=atH_small g hn;have h1:=sumK_bound (so:=so) (H:=dn) (B:=1000000) (by omega) (fun x hx=>hs x (hp.subset (List.mem_append_left _ hx)));have h2:dn.length≤24:=by have:=hp.length_eq;have:=atH_len (n:=n) g;rw [List.length_append] at *;omega
  exact ⟨by omega,hs y (hp.subset (by rw [e];simp))⟩
theorem sumK_done {so:Int} {dn td H:Hs} (hp:(dn++td).Perm H) (h:td=[]):JE so dn=JE so H:=by subst h;rw [List.append_nil] at hp;exact sumK_perm hp
theorem sumK_snoc {so:Int} {dn:Hs} {y:HKey × Int}:JE so (dn++[y])=JE so dn+(if y.1.so=so then y.2 else 0):=by rw [sumK_append];simp [JE]
theorem gap_small {L:Lin} (g:GoodL L):∀ x∈CN (BO L),-1000000≤x.amt∧x.amt≤1000000:=by
  intro x hx;obtain ⟨e,he,hx⟩:=List.mem_flatMap.1 hx;unfold OZ at hx
  split at hx
  · simp only [List.mem_singleton] at hx;subst hx
    obtain ⟨k,hk,rfl⟩:=List.mem_iff_getElem.1 he;have hk2:k<(AD AC L.slips).length:=by unfold BO at hk;rwa [GA] at hk
    have ht:=evs_take (H:=DV L) hk2;have e3:(BO L)[k]=evOf (aft (DV L) ((AD AC L.slips).take k)) ((AD AC L.slips).getD k AB):=by
      have h1:((evs (DV L) (AD AC L.slips)).take (k+1))[k]?=some (evOf (aft (DV L) ((AD AC L.slips).take k)) ((AD AC L.slips).getD k AB)):=by
        have hk3:k<(evs (DV L) (AD AC L.slips)).length:=hk;rw [ht,List.getElem?_append_right (by rw [List.length_take];omega),List.length_take,Nat.min_eq_left (by omega)];simp
      rw [List.getElem?_take_of_lt (by omega)] at h1;exact (List.getElem?_eq_some_iff.1 h1).2
    rw [e3];have hw:=(g.goodS.sorted.within g.within k) (keyOf ((AD AC L.slips).getD k AB));have ha:=(g.goodS.sorted.ok _ (AV (d:=AB) hk2)).2.1;simp only [evOf];split <;> omega
  · cases hx
theorem gaps_fst {L:Lin} (g:GoodL L):(FV L).1=CN (BO L):=by rw [gapsE_2 (ES g)]
section
variable {L:Lin} {G:List Gap} {so n X:Int} {i m k:Nat} {s:Slip}
end
section
variable {p kh to f h:Int} {ks:List Keep} {k:Nat}
theorem kfold_spec (h0:∀ x∈ks,0≤x.hour):∀ k,k≤ks.length→(HX p h (ks.take k)=(0,-1)∧∀ x∈ks.take k,x.place=p→¬ x.hour≤h)∨∃ x∈ks.take k,x.place=p∧x.hour≤h∧HX p h (ks.take k)=(x.who,x.hour)∧∀ y∈ks.take k,y.place=p→y.hour≤h→y.hour≤x.hour:=by
  intro k
  induction k with
  | zero=>intro _;exact .inl ⟨rfl,fun x hx=>by simp at hx⟩
  | succ k ih=>
    intro hk;have hm:=AV (xs:=ks) (d:=AL) (show k<ks.length by omega);have hin:∀ y,y∈ks.take (k+1)↔y∈ks.take k∨y=ks.getD k AL:=fun y=>by rw [CC (d:=AL) (by omega)];simp
    cases hc:(cmp .eql (ks.getD k AL).place p&&(cmp .leq (ks.getD k AL).hour h&&cmp .gtr (ks.getD k AL).hour (HX p h (ks.take k)).2)) with
    | true=>
      rw [← kfold_t (by omega) hc];simp only [JJ,cmp_leq,cmp_gtr,Bool.and_eq_true,decide_eq_true_eq] at hc;refine .inr ⟨_,(hin _).2 (.inr rfl),hc.1,hc.2.1,rfl,fun y hy h1 h2=>?_⟩;rcases (hin y).1 hy with hy | rfl
      · rcases ih (by omega) with ⟨_,h3⟩ | ⟨x,_,_,_,h3,h4⟩
        · exact absurd h2 (h3 y hy h1)
        · have:=h4 y hy h1 h2;rw [h3] at hc;simp only at hc;omega
      · exact Int.le_refl _
    | false=>
      rw [← kfold_f (by omega) hc];have hn:¬ ((ks.getD k AL).place=p∧(ks.getD k AL).hour≤h∧(HX p h (ks.take k)).2<(ks.getD k AL).hour):=fun hh=>by
        simp only [JJ,cmp_leq,cmp_gtr,hh.1,hh.2.1,hh.2.2,decide_true,Bool.and_self] at hc;cases hc
      rcases ih (by omega) with ⟨h2,h3⟩ | ⟨x,h1,h2,h5,h3,h4⟩
      · refine .inl ⟨h2,fun y hy h1 h4=>?_⟩
        rcases (hin y).1 hy with hy | rfl
        · exact h3 y hy h1 h4
        · refine hn ⟨h1,h4,?_⟩
          rw [h2];have:=h0 _ hm;simp only;omega
      · refine .inr ⟨x,(hin x).2 (.inl h1),h2,h5,h3,fun y hy h6 h7=>?_⟩
        rcases (hin y).1 hy with hy | rfl
        · exact h4 y hy h6 h7
        · rcases Int.lt_or_le x.hour (ks.getD k AL).hour with h8 | h8
          · exact absurd ⟨h6,h7,by rw [h3];exact h8⟩ hn
          · exact h8
end
theorem keepErr_ok2 {L:Lin} {i:Nat} (h:EK L i=0):(0≤(L.keeps.getD i AL).hour∧(L.keeps.getD i AL).hour≤200)∧(1≤(L.keeps.getD i AL).who∧(L.keeps.getD i AL).who≤9)∧∀ x∈L.keeps.take i,¬ (x.place=(L.keeps.getD i AL).place∧x.hour=(L.keeps.getD i AL).hour):=by
  unfold EK at h;simp only at h
  split at h;· omega
  split at h;· omega
  rename_i h2
  split at h;· omega
  rename_i h3
  split at h;· omega
  rename_i h4
  refine ⟨EJ (by simpa using h2),EJ (by simpa using h3),fun x hx hh=>h4 (List.any_eq_true.2 ⟨x,hx,by simp [hh.1,hh.2]⟩)⟩
section
variable {L:Lin} (g:GoodL L)
include g
theorem GoodL.keepOf {x:Keep} (hx:x∈L.keeps):(0≤x.hour∧x.hour≤200)∧(1≤x.who∧x.who≤9):=by
  obtain ⟨k,hk,rfl⟩:=List.mem_iff_getElem.1 hx;have:=keepErr_ok2 (g.keep k hk);have e:L.keeps.getD k AL=L.keeps[k]:=by simp [List.getD,hk]
  rw [e] at this;exact ⟨this.1,this.2.1⟩
theorem GoodL.keepOnce {x y:Keep} (hx:x∈L.keeps) (hy:y∈L.keeps) (h1:x.place=y.place) (h2:x.hour=y.hour):x=y:=by
  obtain ⟨i,hi,rfl⟩:=List.mem_iff_getElem.1 hx;obtain ⟨j,hj,rfl⟩:=List.mem_iff_getElem.1 hy;have aux:∀ i j (hi:i<L.keeps.length) (hj:j<L.keeps.length),i<j→¬ (L.keeps[i].place=L.keeps[j].place∧L.keeps[i].hour=L.keeps[j].hour):=fun i j hi hj hij hh=>by
    have:=(keepErr_ok2 (g.keep j hj)).2.2 L.keeps[i] (by rw [List.mem_take_iff_getElem];exact ⟨i,by omega,rfl⟩);have e:L.keeps.getD j AL=L.keeps[j]:=by simp [List.getD,hj]
    rw [e] at this;exact this hh
  rcases Nat.lt_trichotomy i j with h | h | h
  · exact absurd ⟨h1,h2⟩ (aux i j hi hj h)
  · subst h;rfl
  · exact absurd ⟨h1.symm,h2.symm⟩ (aux j i hj hi h)
theorem keeper_iff {p h w:Int} (hw:w≠0):BH L p h=w↔∃ x∈L.keeps,x.place=p∧x.hour≤h∧x.who=w∧∀ y∈L.keeps,y.place=p→y.hour≤h→y.hour≤x.hour:=by
  have hs:=kfold_spec (p:=p) (h:=h) (ks:=L.keeps) (fun x hx=>(g.keepOf hx).1.1) L.keeps.length (Nat.le_refl _);rw [List.take_length] at hs;unfold BH
  constructor
  · intro hh
    rcases hs with ⟨h1,_⟩ | ⟨x,hx,h1,h2,h3,h4⟩
    · rw [h1] at hh;exact absurd hh.symm hw
    · rw [h3] at hh;exact ⟨x,hx,h1,h2,hh,h4⟩
  · rintro ⟨x,hx,h1,h2,h3,h4⟩
    rcases hs with ⟨_,h5⟩ | ⟨y,hy,h5,h6,h7,h8⟩
    · exact absurd h2 (h5 x hx h1)
    · have e:x=y:=g.keepOnce hx hy (by rw [h1,h5]) (by have:=h8 x hx h1 h2;have:=h4 y hy h5 h6;omega)
      subst e;rw [h7];exact h3
omit g in
theorem holdTo_mem {p since x:Int}:∀ {n:Nat},x∈BT L p since n↔∃ h:Nat,h<n∧since≤h∧BH L p h=x∧x≠0:=by
  intro n
  induction n with
  | zero=>simp [BT]
  | succ n ih=>
    have up:(∃ h:Nat,h<n+1∧since≤h∧BH L p h=x∧x≠0)↔(∃ h:Nat,h<n∧since≤h∧BH L p h=x∧x≠0)∨(since≤n∧BH L p n=x∧x≠0):=by
      constructor
      · rintro ⟨h,h1,h2⟩
        rcases Nat.lt_or_ge h n with h3 | h3
        · exact .inl ⟨h,h3,h2⟩
        · have:h=n:=by omega
          subst this;exact .inr h2
      · rintro (⟨h,h1,h2⟩ | h2)
        · exact ⟨h,by omega,h2⟩
        · exact ⟨n,by omega,h2⟩
    rw [up,← ih];simp only [BT]
    split
    · rename_i h;exact ⟨.inl,fun q=>q.elim id (fun e=>by omega)⟩
    · split
      · rename_i h;exact ⟨.inl,fun q=>q.elim id (fun e=>absurd (e.2.1.symm.trans h) e.2.2)⟩
      · rename_i h1 h2
        split
        · rename_i h3;exact ⟨.inl,fun q=>q.elim id (fun e=>e.2.1▸h3)⟩
        · simp only [List.mem_append,List.mem_singleton]
          exact ⟨fun q=>q.elim .inl (fun e=>.inr ⟨by omega,e.symm,e▸h2⟩),fun q=>q.elim .inl (fun e=>.inr e.2.1.symm)⟩
omit g
theorem nodup_inj {α β:Type} {f:α→β} {l:List α} (h:(l.map f).Nodup):∀ a∈l,∀ b∈l,f a=f b→a=b:=by
  intro a ha b hb e
  induction l with
  | nil=>cases ha
  | cons x r ih=>
    rw [List.map_cons,List.nodup_cons] at h;rcases List.mem_cons.1 ha with rfl | ha1 <;> rcases List.mem_cons.1 hb with rfl | hb1
    · rfl
    · exact absurd (e▸List.mem_map_of_mem (f:=f) hb1) h.1
    · exact absurd (e▸List.mem_map_of_mem (f:=f) ha1) h.1
    · exact ih h.2 ha1 hb1
section
variable {i:Nat} (g:GoodL L) (hi:i<(AD AC L.slips).length)
include g hi
end
end
section
variable {L:Lin} {p who frm to:Int} {ks:List Keep} {k:Keep} {i m:Nat}
end
section
variable {L:Lin} {G:List Gap} {n:Int} {i k m:Nat}
variable (g:GoodL L) (hi:i<(sortS L.slips).length)
include g hi
end
section
variable {A:List Slip} {s:Slip} {k:Nat}
end
abbrev Ods:=List (Debt × Int)
def ON (k:Debt):Ods→Int
  | []=>0
  | x::r=>if x.1=k then x.2 else ON k r
def putO (k:Debt) (v:Int):Ods→Ods
  | []=>[(k,v)]
  | x::r=>if x.1=k then (k,v)::r else x::putO k v r
theorem getO_put {k j:Debt} {v:Int} {h:Ods}:ON j (putO k v h)=if j=k then v else ON j h:=by
  induction h with
  | nil=>simp only [putO,ON];by_cases e:j=k <;> simp [e,Ne.symm,eq_comm]
  | cons x r ih=>
    simp only [putO]
    split
    · rename_i e
      simp only [ON]
      by_cases e2:j=k
      · subst e2;simp
      · simp only [if_neg e2];rw [if_neg (Ne.symm e2),e,if_neg (Ne.symm e2)]
    · rename_i e
      simp only [ON]
      split
      · rename_i e2;rw [if_neg (fun e3=>e (e2.trans e3))]
      · exact ih
def okCells (k:Debt):Array Value:=#[.int .i64 k.who,.int .i64 k.sort,.int .i64 k.amt]
def encO (k:Debt):Value:=.agg (okCells k)
def flatO:List (Nat × SK):=[(0,.i .i64),(1,.i .i64),(2,.i .i64)]
theorem keyOk_debt {P:Program} {kt:TypeId} (h:JK P 4 kt=some (3,flatO)) (hagg:EN P kt=some true):KeyOk P kt encO:=
  keyOk_flat h (by decide) hagg okCells (fun _=>rfl) (fun _=>rfl) (fun a b=>by
    obtain ⟨a1,a2,a3⟩:=a;obtain ⟨b1,b2,b3⟩:=b
    show ((a1 == b1)&&((a2 == b2)&&((a3 == b3)&&true)))=decide ((⟨a1,a2,a3⟩:Debt)=⟨b1,b2,b3⟩)
    simp only [Bool.and_true,Debt.mk.injEq,Bool.decide_and];rfl)
def intO (h:Ods):List (Debt × Value):=h.map fun x=>(x.1,.int .i64 x.2)
theorem NW (k:Debt) (h:Ods):(JL k (intO h)).getD (.int .i64 0)=.int .i64 (ON k h):=by
  induction h with
  | nil=>rfl
  | cons x r ih => simp only [intO, List.map_cons, JL, ON] at ih ⊢; split; · rfl
                   · exact ih
theorem upd_intO (k:Debt) (v:Int) (h:Ods):upd k (.int .i64 v) (intO h)=intO (putO k v h):=by
  induction h with
  | nil=>rfl
  | cons x r ih => simp only [intO, List.map_cons, upd, putO] at ih ⊢; split; · rfl
                   · rw [ih];rfl
def MapO (es:Array MapEntry) (cl:Nat) (H:Ods):Prop:=MapB encO es cl (intO H)∧(H.map Prod.fst).Nodup
def EntO (es:Array MapEntry) (cl:Nat) (H:Ods) (k:Debt) (st:Nat):Prop:=MapB encO es cl (ent k (.int .i64 0) (intO H))∧Stamp es (ent k (.int .i64 0) (intO H)) st k∧(H.map Prod.fst).Nodup
theorem MapO.nil (cl:Nat):MapO #[] cl []:=⟨MapB.nil _ _,by simp⟩
theorem putO_keys (k:Debt) (v:Int):∀ H:Ods,(putO k v H).map Prod.fst=if k∈H.map Prod.fst then H.map Prod.fst else H.map Prod.fst++[k]:=by
  intro H
  induction H with
  | nil=>rfl
  | cons x r ih=>
    simp only [putO]
    by_cases h:x.1=k
    · simp [h]
    · rw [if_neg h]
      simp only [List.map_cons,ih,List.mem_cons,Ne.symm h,false_or]
      split <;> simp
theorem putO_once {k:Debt} {v:Int} {H:Ods} (h:(H.map Prod.fst).Nodup):((putO k v H).map Prod.fst).Nodup:=by
  rw [putO_keys]
  split
  · exact h
  · rename_i hk
    exact List.nodup_append.2 ⟨h,by simp,fun a ha b hb=>by
      simp only [List.mem_singleton] at hb
      intro e;rw [e,hb] at ha;exact hk ha⟩
end Go.Sh
namespace Go.Sl
open Go Go.Sh
section
variable {P:Program} {N:Nat} {ops:Array Oper} {i:Nat} {l:Sl} {I:Imm} {M:Seg} {ty:TypeId} {gd:Option (Nat × Bool)} {K:Sl→Imm→Seg→Prop} {d:Nat}
theorem stp_entO {x y : Operand} {T kt et r cl : Nat} {es : Array MapEntry} {H : Ods} {k : Debt} (n : Nat) (hop : FP ops N i = some (some d, .mapEntry T x y, ty, gd)) (hg : EZ ops l gd = some true)
    (hT:PG P T=some (kt,et)) (hK:KeyOk P kt encO) (hx:BQ l x=some (.map (some r))) (hy:BQ l y=some (encO k)) (hz:HD P et=some (.int .i64 0)) (hn:M[n]?=some (r,Obj.map es cl)) (hb:MapO es cl H)
    (h:∀ es' cl' (st:Nat),EntO es' cl' H k st→K ((d,.tuple #[.int .i64 (ON k H),.int .i64 (st:Int)])::l) I (M.set n (r,Obj.map es' cl'))):Stp P N ops i l I M K:=
  OV n hop hg hT hK hx hy hz hn hb.1 fun es' cl' st h1 h2=>by
    rw [NW];exact h es' cl' st ⟨h1,h2,hb.2⟩
theorem stp_fillO {x y u : Operand} {T r cl st : Nat} {es : Array MapEntry} {H : Ods} {k : Debt} {v : Int} (n : Nat) (hop : FP ops N i = some (none, .entryStore T x y u, ty, gd)) (hg : EZ ops l gd = some true)
    (hx:BQ l x=some (.map (some r))) (hy:BQ l y=some (.int .i64 (st:Int))) (hu:BQ l u=some (.int .i64 v)) (hn:M[n]?=some (r,Obj.map es cl)) (hb:EntO es cl H k st)
    (h:∀ es',MapO es' cl (putO k v H)→K l I (M.set n (r,Obj.map es' cl))):Stp P N ops i l I M K:=
  LU (k:=k) n hop hg hx hy hu hn hb.1 hb.2.1 fun es' h'=>h es' ⟨by rw [upd_ent,upd_intO] at h';exact h',putO_once hb.2.2⟩
theorem stp_nextO {x : Operand} {r cl b : Nat} {es : Array MapEntry} {seen : Array Nat} {todo : Ods} (n : Nat) (hop : FP ops N i = some (some d, .next x false, ty, gd)) (hg : EZ ops l gd = some true)
    (hx:BQ l x=some (.pointer (some ⟨b,0,none⟩))) (hn:M[n]?=some (b,Obj.mapIter (some r) cl seen cl)) (hm:Holds I M r (.map es cl)) (hb:Borns es cl) (hl:Left encO es seen (intO todo))
    (h0:todo=[]→K ((d,.tuple #[.bool false])::l) I M)
    (h1:∀ A (y:Debt × Int) B seen',todo=A++y::B→Left encO es seen' (intO (A++B))→AtEntry encO es seen' (y.1,.int .i64 y.2)→K ((d,.tuple #[.bool true,encO y.1,.int .i64 y.2])::l) I (M.set n (b,Obj.mapIter (some r) cl seen' cl))):Stp P N ops i l I M K:=
  stp_next n hop hg hx hn hm hb hl (fun h=>h0 (by simpa [intO] using h)) fun A y B seen' e hl' ha=>by
    obtain ⟨A',y',B',rfl,rfl,rfl,rfl⟩:=map_cut (show todo.map _=A++y::B from e);exact h1 A' y' B' seen' rfl (by simpa [intO] using hl') ha
end
end Go.Sl
namespace Go.Sh
open Go Go.Sl
def oweK (q:EvH):Debt:=⟨q.2.getD 0 0,q.1.slip.sort,0⟩
def JS (O:Ods) (q:EvH):Ods:=if q.1.gap<0∧q.2.length=1 then putO (oweK q) (ON (oweK q) O-q.1.gap) O else O
def EE (l:List EvH):Ods:=l.foldl JS []
def mkD (q:Debt × Int):Debt:=⟨q.1.who,q.1.sort,q.2⟩
def EQ (a b:Debt):Int:=if a.who≠b.who then a.who-b.who else a.sort-b.sort
def OJ (s:Debt):Prop:=-1000000≤s.who∧s.who≤1000000∧-1000000≤s.sort∧s.sort≤1000000
def HY (L:Lin):List Debt × Int:=if AU L≠0 then ([],AU L) else (AD EQ ((EE (ED L)).map mkD),0)
section
variable {L:Lin} {xs:List EvH} {x:EvH}
theorem owesOf_snoc:EE (xs++[x])=JS (EE xs) x:=by unfold EE;rw [List.foldl_append];rfl
theorem owes_t (h:(cmp .lss x.1.gap 0&&cmp .eql (x.2.length:Int) 1)=true):putO ⟨x.2.getD 0 0,x.1.slip.sort,0⟩ (ON ⟨x.2.getD 0 0,x.1.slip.sort,0⟩ (EE xs)-x.1.gap) (EE xs)=EE (xs++[x]):=by
  simp only [cmp_lss,JJ,Bool.and_eq_true,decide_eq_true_eq] at h;rw [owesOf_snoc];unfold JS;rw [if_pos ⟨h.1,by omega⟩];rfl
theorem owes_f (h:(cmp .lss x.1.gap 0&&cmp .eql (x.2.length:Int) 1)=false):EE xs=EE (xs++[x]):=by
  simp only [cmp_lss,JJ,Bool.and_eq_false_iff,decide_eq_false_iff_not] at h;rw [owesOf_snoc];unfold JS;rw [if_neg (fun e=>by omega)]
theorem owedE_1 (h:AU L≠0):HY L=([],AU L):=if_pos h
theorem owedE_2 (h:AU L=0):HY L=(AD EQ ((EE (ED L)).map mkD),0):=if_neg (fun x=>x h)
theorem lack_in {q:EvH}:∀ {i:Nat} {E:List Sh.Event},i≤E.length→q∈(EI L (E.take i)).2→q.1∈E.take i∧q.1.gap≠0∧∃ s,q.2=CO L q.1.slip s:=by
  intro i
  induction i with
  | zero=>intro E _ hq;simp [EI] at hq
  | succ i ih=>
    intro E hi hq;rw [CC (d:=noEvent) (by omega:i<E.length)] at hq ⊢;rw [HL] at hq;unfold LH at hq
    split at hq
    · exact ⟨List.mem_append_left _ (ih (by omega) hq).1,(ih (by omega) hq).2⟩
    · simp only at hq
      split at hq
      · rename_i hg
        rcases List.mem_append.1 hq with hq | hq
        · exact ⟨List.mem_append_left _ (ih (by omega) hq).1,(ih (by omega) hq).2⟩
        · simp only [List.mem_singleton] at hq;subst hq;exact ⟨by simp,hg,_,rfl⟩
      · exact ⟨List.mem_append_left _ (ih (by omega) hq).1,(ih (by omega) hq).2⟩
theorem lack_len:∀ {xs:List Sh.Event} {q:Hs × List EvH},((xs.foldl (LH L) q).2).length≤q.2.length+xs.length:=by
  intro xs
  induction xs with
  | nil=>intro q;exact Nat.le_refl _
  | cons x r ih=>
    intro q;have h1:=ih (q:=LH L q x);have h2:(LH L q x).2.length≤q.2.length+1:=by
      unfold LH;split
      · omega
      · simp only;split
        · simp
        · omega
    simp only [List.foldl_cons,List.length_cons];omega
variable (g:GoodL L)
include g
theorem lack_count:(ED L).length≤8:=by
  have h1:=lack_len (L:=L) (xs:=BO L) (q:=([],[]));have h2:=HP (L:=L);have h3:=g.slips;unfold ED EI;simp only [List.length_nil] at h1;omega
theorem lack_all {q:EvH} (hq:q∈ED L):(-1000000≤q.1.gap∧q.1.gap≤1000000)∧(0≤q.1.slip.sort∧q.1.slip.sort≤1)∧∀ w∈q.2,1≤w∧w≤9:=by
  have h1:=lack_in (L:=L) (i:=(BO L).length) (E:=BO L) (Nat.le_refl _) (q:=q) (by rw [List.take_length];exact hq);rw [List.take_length] at h1;obtain ⟨h2,h3,s,h4⟩:=h1;have h5:=gap_small g ⟨q.1.slip.num,q.1.gap⟩ (List.mem_flatMap.2 ⟨q.1,h2,by unfold OZ;rw [if_pos h3];simp⟩);have h6:=HN (g.slipOf ((BM _).subset (evs_slip h2)));have h7:=g.sorts;refine ⟨h5,by omega,fun w hw=>?_⟩;rw [h4] at hw;unfold CO at hw;have hw2:=(BM _).subset hw;obtain ⟨_,_,_,h8,h9⟩:=holdTo_mem.1 hw2;obtain ⟨k,hk,_,_,h10,_⟩:=(keeper_iff g h9).1 h8;have:=(g.keepOf hk).2;omega
theorem owes_keys:∀ {xs:List EvH},(∀ q∈xs,q∈ED L)→∀ x∈EE xs,x.1.amt=0∧(1≤x.1.who∧x.1.who≤9)∧(0≤x.1.sort∧x.1.sort≤1):=by
  have aux:∀ {xs:List EvH} {O:Ods},(∀ q∈xs,q∈ED L)→(∀ x∈O,x.1.amt=0∧(1≤x.1.who∧x.1.who≤9)∧(0≤x.1.sort∧x.1.sort≤1))→∀ x∈xs.foldl JS O,x.1.amt=0∧(1≤x.1.who∧x.1.who≤9)∧(0≤x.1.sort∧x.1.sort≤1):=by
    intro xs
    induction xs with
    | nil=>intro O _ h;exact h
    | cons q r ih=>
      intro O hq h;refine ih (fun y hy=>hq y (by simp [hy])) ?_;unfold JS
      split
      · rename_i hc
        intro x hx;have hk:x.1∈(putO (oweK q) (ON (oweK q) O-q.1.gap) O).map Prod.fst:=List.mem_map_of_mem hx;rw [putO_keys] at hk;have hl:=lack_all g (hq q (by simp));have hnew:x.1=oweK q→x.1.amt=0∧(1≤x.1.who∧x.1.who≤9)∧(0≤x.1.sort∧x.1.sort≤1):=fun e=>by
          rw [e];exact ⟨rfl,hl.2.2 _ (AV (d:=0) (by omega)),hl.2.1⟩
        have hold:x.1∈O.map Prod.fst→x.1.amt=0∧(1≤x.1.who∧x.1.who≤9)∧(0≤x.1.sort∧x.1.sort≤1):=fun e=>by
          obtain ⟨y,hy,e2⟩:=List.mem_map.1 e;rw [← e2];exact h y hy
        split at hk
        · exact hold hk
        · rcases List.mem_append.1 hk with hk | hk
          · exact hold hk
          · exact hnew (List.mem_singleton.1 hk)
      · exact h
  intro xs hq x hx;exact aux hq (fun x hx=>by cases hx) x hx
theorem owes_bound {k:Debt}:∀ {xs:List EvH},(∀ q∈xs,q∈ED L)→0≤ON k (EE xs)∧ON k (EE xs)≤1000000*xs.length:=by
  have aux:∀ {xs:List EvH} {O:Ods} {B:Int},(∀ q∈xs,q∈ED L)→(∀ k,0≤ON k O∧ON k O≤B)→∀ k,0≤ON k (xs.foldl JS O)∧ON k (xs.foldl JS O)≤B+1000000*xs.length:=by
    intro xs
    induction xs with
    | nil=>intro O B _ h k;have:=h k;simp only [List.foldl_nil,List.length_nil];omega
    | cons q r ih=>
      intro O B hq h k
      have:=ih (O:=JS O q) (B:=B+1000000) (fun y hy=>hq y (by simp [hy])) (fun j=>by
        have hl:=(lack_all g (hq q (by simp))).1
        unfold JS;split
        · rw [getO_put];have:=h j;have:=h (oweK q);split <;> omega
        · have:=h j;omega) k
      simp only [List.foldl_cons,List.length_cons,Int.natCast_add,Int.natCast_one];omega
  intro xs hq;have:=aux (O:=[]) (B:=0) hq (fun k=>by simp [ON]) k;unfold EE;omega
end
section
variable {O dn td:Ods}
theorem OW (hn:(O.map Prod.fst).Nodup) (ha:∀ x∈O,x.1.amt=0):Strict EQ (O.map mkD):=by
  refine ⟨fun a ha' b hb' hne=>?_,fun a _=>?_,fun a _ b _ d _ h1 h2=>?_⟩
  · obtain ⟨p,hp,rfl⟩:=List.mem_map.1 ha'
    obtain ⟨q,hq,rfl⟩:=List.mem_map.1 hb'
    have:¬ (p.1.who=q.1.who∧p.1.sort=q.1.sort):=fun e=>hne (by
      have e1:p.1=q.1:=by
        have h1:=ha p hp;have h2:=ha q hq
        cases hp1:p.1;cases hq1:q.1
        rw [hp1,hq1] at e;rw [hp1] at h1;rw [hq1] at h2
        simp only at e h1 h2
        rw [e.1,e.2,h1,h2]
      have:=nodup_inj hn p hp q hq e1
      rw [this])
    unfold EQ mkD;simp only
    split <;> split <;> omega
  · unfold EQ;split <;> omega
  · unfold EQ at *;split at h1 <;> split at h2 <;> split <;> omega
theorem nodup_debts (hn:(O.map Prod.fst).Nodup) (ha:∀ x∈O,x.1.amt=0):(O.map mkD).Nodup:=by
  have hs:=OW hn ha;rw [List.Nodup,List.pairwise_map];have h1:O.Pairwise fun a b=>a.1≠b.1:=List.pairwise_map.1 hn
  refine List.Pairwise.imp_of_mem (fun {a b} hA hB hab e=>hab ?_) h1;have h2:=ha a hA;have h3:=ha b hB;unfold mkD at e;simp only [Debt.mk.injEq] at e;cases ha1:a.1;cases hb1:b.1;rw [ha1] at h2 e;rw [hb1] at h3 e;simp only at h2 h3 e;rw [e.1,e.2.1,h2,h3]
theorem debts_sorted (hn:(O.map Prod.fst).Nodup) (ha:∀ x∈O,x.1.amt=0) (hp:(dn++td).Perm O) (ht:td=[]):AD EQ (dn.map mkD)=AD EQ (O.map mkD):=by
  subst ht;rw [List.append_nil] at hp;have hpm:(dn.map mkD).Perm (O.map mkD):=hp.map _;have hs:=OW hn ha;have hnd:=nodup_debts hn ha;exact asc_unique ((hs.perm hpm).perm (BM _)) ((BM _).trans (hpm.trans (BM _).symm)) (KO (hs.perm hpm) (hpm.nodup_iff.2 hnd)) (KO hs hnd)
theorem small_debts {L:Lin} (g:GoodL L) (hp:(dn++td).Perm (EE (ED L))):∀ x∈dn.map mkD,OJ x:=fun x hx=>by
  obtain ⟨q,hq,rfl⟩:=List.mem_map.1 hx;have:=owes_keys g (xs:=ED L) (fun _ h=>h) q (hp.subset (List.mem_append_left _ hq));unfold OJ mkD;simp only;omega
theorem owes_len:∀ {xs:List EvH},(EE xs).length≤xs.length:=by
  have aux:∀ {xs:List EvH} {O:Ods},(xs.foldl JS O).length≤O.length+xs.length:=by
    intro xs
    induction xs with
    | nil=>intro O;exact Nat.le_refl _
    | cons q r ih=>
      intro O;have h1:=ih (O:=JS O q);have h2:(JS O q).length≤O.length+1:=by
        unfold JS;split
        · have h3:=congrArg List.length (putO_keys (oweK q) (ON (oweK q) O-q.1.gap) O)
          rw [List.length_map] at h3
          split at h3
          · rw [List.length_map] at h3;omega
          · rw [List.length_append,List.length_map,List.length_singleton] at h3;omega
        · omega
      simp only [List.foldl_cons,List.length_cons];omega
  intro xs;have:=aux (xs:=xs) (O:=[]);unfold EE;simp only [List.length_nil] at this;omega
end
end Go.Sh
namespace Go.Proofs.YtgcemienebmdeaaGreat
open Go Go.Sl Go.Sh
set_option maxRecDepth 100000
noncomputable def c_EqualDebts_ct (p:List Nat):Code:=sub (AP Tryz.f34) p
theorem EqualDebts_ct (I:Imm) (a:Value) (xs:List Debt) (b:Value) (ys:List Debt) (a_f:IsDebts I a xs) (b_f:IsDebts I b ys):CtV Tryz.prog 34 #[a,b] I (.bool (decide (xs=ys))):=by
 obtain ⟨a0,a1,b1,b4,a9,b2,b3,a7⟩:=id a_f;subst a9;obtain ⟨a2,a3,b5,b8,b0,b6,b7,a8⟩:=id b_f;subst b0;refine fr (args:=[_,_]) (N:=26) Tryz.func34 (fun F=>?_);show Run _ _ (c_EqualDebts_ct []) _ _ [(0,vS a0 xs.length a1),(1,vS a2 ys.length a3)] _ _;refine rnm (rqr ?_);refine sp 1 [(4,.bool (false))] (se (rq (rqr (sp 5 [(10,.bool (!(cmp .eql (↑(xs.length)) (↑(ys.length)))))] (se (rc 10 rfl (fun h1=>?_) (fun h1=>?_)))))))
 ·
  have a4:=h1;have h1:=BW (CS h1);refine rqr (sp 1 [(4,.bool (false))] (se (BL ((RP (AH (t:=4) [] (by kernel_rfl) rfl (TR _) (IR _) ?_))))));exact ⟨by rw [decide_eq_false (fun e=>h1 (by rw [e]))],rfl⟩
 have a4:=h1;have h1:=BX (CR h1);refine AQ (NX (rq (rqr (sp 1 [(5,vI (0))] (se (rb 0 ?_))))));refine rl (fun mz a w=>∃ k:Nat,(k≤xs.length)∧(xs.length=ys.length)∧(xs.take k=ys.take k)∧Slots 26 [(5,vI ↑k),(0,vS a0 xs.length a1),(1,vS a2 ys.length a3)] a∧a.defers=[]∧St I (F) w∧mz=xs.length-k) ?_ ?_
 ·intro a w hS hD hW;exact ⟨_,0,Nat.zero_le _,by omega,rfl,hS.sub (.cons 5 rfl (.cons 0 rfl (.cons 1 rfl (.nil _)))),hD,hW,rfl⟩
 rintro mz a w ⟨k,hk,hl,ht,hS,hD,hW,rfl⟩
 refine AR hS hD hW ?_;clear hS hD hW a w;refine rq (rqr (sp 4 [(14,.bool (cmp .lss (↑k) (↑(xs.length))))] (se (rc 14 rfl (fun h2=>?_) (fun h2=>?_)))))
 ·
  have a5:=h2;have h2:=CL h2;refine AQ (NX (rq (rb 1 (rq ?_))));refine rd0 8 (ox 2 [(18,vI (↑k)),(17,vS a0 xs.length a1)] ?_);refine AE (di 19 3 (k) a7.addr) ?_;refine AE (DD (x:=(.tmp 19)) (T:=61) (n:=3) (vs:=[vI ((xs.getD (k) CU).who),vI ((xs.getD (k) CU).sort),vI ((xs.getD (k) CU).amt)]) (d:=20) (ty:=61) (gd:=none) (by kernel_rfl) rfl (by kernel_rfl) (by kernel_rfl) rfl rfl (FC (vals:=HE) (fun _=>rfl) a7 (k) (by omega))) (ox 2 [(22,vI (↑k)),(21,vS a2 ys.length a3)] ?_);refine AE (di 23 3 (k) a8.addr) ?_;refine AE (DD (x:=(.tmp 23)) (T:=61) (n:=3) (vs:=[vI ((ys.getD (k) CU).who),vI ((ys.getD (k) CU).sort),vI ((ys.getD (k) CU).amt)]) (d:=24) (ty:=61) (gd:=none) (by kernel_rfl) rfl (by kernel_rfl) (by kernel_rfl) rfl rfl (FC (vals:=HE) (fun _=>rfl) a8 (k) (by omega))) ?_;refine BE (sd (NR (L:=[(0,.i .i64),(1,.i .i64),(2,.i .i64)]) (x:=(.tmp 20)) (y:=(.tmp 24)) (T:=61) (T':=61) (d:=25) (ty:=4) (gd:=none) (by kernel_rfl) rfl (by kernel_rfl) rfl rfl rfl (eqDebt (xs.getD (k) CU) (ys.getD (k) CU))) (se (rc 25 rfl (fun h3=>?_) (fun h3=>?_))))
  ·
   have a6:=h3;have h3:=dec_f (CS h3);refine rqr (sp 1 [(4,.bool (false))] (se (BL ((RB (RP (RP (RB (RP (AH (t:=4) [] (by kernel_rfl) rfl (TR _) (IR _) ?_))))))))));exact ⟨by rw [decide_eq_false (getD_ne hl h3)],rfl⟩
  have a6:=h3;have h3:=dec_t (CR h3);refine AQ (NB (NX (rr (sp 1 [(15,vI (↑k))] (sd (da 16 (↑k) (1)) (sp 1 [(5,vI (↑k+1))] (ee ?_)))))));refine AN (xs.length-(k+1)) (by omega) ?_;intro a w hS hD hW;exact ⟨k+1,by omega,hl,KU (d:=CU) hl ht (by omega) h3,hS.sub (.consE 5 rfl rfl (.cons 0 rfl (.cons 1 rfl (.nil _)))),hD,hW,rfl⟩
 have a5:=h2;have h2:=CT h2;refine CB 0 ((EP (EP (EB (NX (rqr (sp 1 [(4,.bool (true))] (se (BL (AH (t:=4) [] (by kernel_rfl) rfl (TR _) (IR _) ?_))))))))));exact ⟨by rw [decide_eq_true (NG hl ht (by omega))],rfl⟩
noncomputable def KF (p:List Nat):Code:=sub (AP Tryz.f21) p
theorem CopyLinenO_ct (I:Imm) (l:Value) (L:Lin) (l_f:IsLin I l L) (h1:L.start.length≤1000000) (h2:∀ x∈L.start,x.length≤1000000) (h3:L.keeps.length≤1000000) (h4:L.slips.length≤1000000):Ct Tryz.prog 21 #[l] I ([]) (fun v I' M'=>∃ u_0:Value,∃ ws_0:List Value,∃ Ms_0:Seg,∃ u_1:Value,∃ Ms_1:Seg,∃ u_2:Value,∃ Ms_2:Seg,v=.agg #[vI (L).places,vI (L).sorts,u_0,u_1,u_2]∧M'=Ms_0++(Ms_1++(Ms_2))∧Own 29 1 CW u_0 ws_0 Ms_0∧RowsV I' ws_0 ((L).start)∧Own 50 3 GS u_1 ((L).keeps) Ms_1∧Own 28 8 AY u_2 ((L).slips) Ms_2):=by
 obtain ⟨l1,l2,l3,f8,c4,b9,c0⟩:=id l_f;subst f8;obtain ⟨a6,a7,e2,e5,d9,d2,e3,e4,e6,e7⟩:=id c4;subst d2;obtain ⟨a4,a5,e8,f1,d3,e9,f0,f2⟩:=id b9;subst d3;obtain ⟨a2,a3,f3,f6,d4,f4,f5,f7⟩:=id c0;subst d4;refine fr (args:=[_]) (N:=18) Tryz.func21 (fun F=>?_);show Run _ _ (KF []) _ _ [(0,.agg #[vI (L.places),vI (L.sorts),vS a6 L.start.length a7,vS a4 L.keeps.length a5,vS a2 L.slips.length a3])] _ _;refine rnm (rqr ?_);refine sS (sb 1 26 #[vI (L.places),vI (L.sorts),vS a6 L.start.length a7,vS a4 L.keeps.length a5,vS a2 L.slips.length a3] (fun b1=>(sS (sal 2 26 #[vI (0),vI (0),vN,vN,vN] (fun b3=>(se (rq ?_)))))));refine rdX (M:=((bX b3 #[vI (0),vI (0),vN,vN,vN] 26)::(bX b1 #[vI (L.places),vI (L.sorts),vS a6 L.start.length a7,vS a4 L.keeps.length a5,vS a2 L.slips.length a3] 26)::[])) (F0:=F) [(3,6,.sl 50),(7,10,.sl 28)] 12 [(0,true),(1,true),(4,true),(5,true),(8,true),(9,true),(2,false),(11,true),(3,false),(6,false),(7,false),(10,false)] (by simp only [AA,CA,NA,List.append_nil];exact PR _) (KK (alOk_of (ops:=FG (KF [1,0])) (i:=3) (d:=6) (by kernel_rfl) (by kernel_rfl) (by kernel_rfl)) (KK (alOk_of (ops:=FG (KF [1,0])) (i:=7) (d:=10) (by kernel_rfl) (by kernel_rfl) (by kernel_rfl)) GY)) ?_;refine AG (AM (d:=3) (v:=vP b1 2) (by kernel_rfl)) ?_;refine AG (dlb 4 1 2 b1 (vS a6 L.start.length a7)) ?_;refine AW (AM (d:=7) (v:=vP b1 3) (by kernel_rfl)) ?_;refine MW (Rx:=((bX b1 #[vI (L.places),vI (L.sorts),vS a6 L.start.length a7,vS a4 L.keeps.length a5,vS a2 L.slips.length a3] 26)::[])) (PS _ _ _) (dlb 8 0 3 b1 (vS a4 L.keeps.length a5)) ?_;refine AW (AM (d:=11) (v:=vP b1 4) (by kernel_rfl)) ?_;refine MW (Rx:=((bX b1 #[vI (L.places),vI (L.sorts),vS a6 L.start.length a7,vS a4 L.keeps.length a5,vS a2 L.slips.length a3] 26)::[])) (PS _ _ _) (dlb 12 0 4 b1 (vS a2 L.slips.length a3)) ?_;refine DG (Mx:=fun FX=>((bX b3 #[vI (0),vI (0),vN,vN,vN] 26)::(bX b1 #[vI (L.places),vI (L.sorts),vS a6 L.start.length a7,vS a4 L.keeps.length a5,vS a2 L.slips.length a3] 26)::FX)) rfl (fun FX=>by simp only [AA,CA,NA,List.append_nil];exact PR _) (fun FX=>?_);refine id (sc (some 5) (F:=((bX b3 #[vI (0),vI (0),vN,vN,vN] 26)::(bX b1 #[vI (L.places),vI (L.sorts),vS a6 L.start.length a7,vS a4 L.keeps.length a5,vS a2 L.slips.length a3] 26)::FX)) (CopyRows_ct _ _ _ c4 (by omega) (by assumption) :) (PR _) (fun g2 I5 g1 c1 e1=>?_));obtain ⟨g3,a8,b5,d8,d7,c5,c6⟩:=e1;rw [d8,d7];clear d8 d7;replace b9:=b9.mono c1;replace c0:=c0.mono c1;obtain ⟨a0,a1,c7,e0⟩:=c5.shape;subst c7;have b7:=c6.1
 try simp only [LS,LA,LC,LN,LK] at b7
 refine FB (M1:=((bX b3 #[vI (0),vI (0),vN,vN,vN] 26)::(bX b1 #[vI (L.places),vI (L.sorts),vS a6 L.start.length a7,vS a4 L.keeps.length a5,vS a2 L.slips.length a3] 26)::(b5++[]))) (by simp only [AA,CA,NA,List.append_nil];exact (PW PM)) (.part (PS _ _ _) (.none (.part (PS _ _ _) (.none (.wait (by kernel_rfl) (.wait (by kernel_rfl) .nil)))))) ?_;show OFPX _ _ _ _ _ _ _ _ _ _ ((5,vS a0 a8.length a1)::_) _ _;refine AW (AM (d:=14) (v:=vP b1 2) (by kernel_rfl)) ?_;refine ofx_al rfl (fun c8=>?_);refine DG (Mx:=fun FX=>((bX c8 #[] 50)::(bX b3 #[vI (0),vI (0),vN,vN,vN] 26)::(bX b1 #[vI (L.places),vI (L.sorts),vS a6 L.start.length a7,vS a4 L.keeps.length a5,vS a2 L.slips.length a3] 26)::(b5++FX))) rfl (fun FX=>by simp only [AA,CA,NA,List.append_nil];exact PR _) (fun FX=>?_);have d0:Own 50 3 GS (vS (some ⟨c8,0,none⟩) 0 0) ([]:List Keep) [(bX c8 #[] 50)]:=Own.lit rfl rfl;refine id (BC (d:=9) (x:=(.tmp 6)) (y:=(.tmp 8)) (T:=23) (T':=23) (E:=50) (E':=50) (sz:=3) (bs:=24) (z:=.agg #[vI (0),vI (0),vI (0)]) (cell:=GS) (xs:=([]:List Keep)) (ys:=L.keeps) (Ms:=[(bX c8 #[] 50)]) (ty:=23) (gd:=none) (by kernel_rfl) rfl (by kernel_rfl) (by kernel_rfl) (by kernel_rfl) (by kernel_rfl) (by kernel_rfl) (by decide) (by kernel_rfl) rfl rfl (d0) (PR _) (OT _) b9.src (by first | omega | (simp only [LC,LN,LA,LK,LD];omega)) (fun g4 b6 c2=>?_));rw [NA] at c2;refine FB (M1:=((bX b3 #[vI (0),vI (0),vN,vN,vN] 26)::(bX b1 #[vI (L.places),vI (L.sorts),vS a6 L.start.length a7,vS a4 L.keeps.length a5,vS a2 L.slips.length a3] 26)::(b6++(b5++[])))) (by simp only [AA,CA,NA,List.append_nil];exact (PW PM)) (.none (.part (PS _ _ _) (.none (.wait (by kernel_rfl) (.wait (by kernel_rfl) (.wait (by kernel_rfl) (.wait (by kernel_rfl) .nil))))))) ?_;obtain ⟨a9,b0,d5,f9⟩:=c2.shape;subst d5;show OFPX _ _ _ _ _ _ _ _ _ _ ((9,vS a9 L.keeps.length b0)::_) _ _;refine ofx_al rfl (fun c9=>?_);refine DG (Mx:=fun FX=>((bX c9 #[] 28)::(bX b3 #[vI (0),vI (0),vN,vN,vN] 26)::(bX b1 #[vI (L.places),vI (L.sorts),vS a6 L.start.length a7,vS a4 L.keeps.length a5,vS a2 L.slips.length a3] 26)::(b6++(b5++FX)))) rfl (fun FX=>by simp only [AA,CA,NA,List.append_nil];exact PR _) (fun FX=>?_);have d1:Own 28 8 AY (vS (some ⟨c9,0,none⟩) 0 0) ([]:List Slip) [(bX c9 #[] 28)]:=Own.lit rfl rfl;refine id (BC (d:=13) (x:=(.tmp 10)) (y:=(.tmp 12)) (T:=24) (T':=24) (E:=28) (E':=28) (sz:=8) (bs:=64) (z:=.agg #[vI (0),vI (0),vI (0),vI (0),vI (0),vI (0),.bool (false),vI (0)]) (cell:=AY) (xs:=([]:List Slip)) (ys:=L.slips) (Ms:=[(bX c9 #[] 28)]) (ty:=24) (gd:=none) (by kernel_rfl) rfl (by kernel_rfl) (by kernel_rfl) (by kernel_rfl) (by kernel_rfl) (by kernel_rfl) (by decide) (by kernel_rfl) rfl rfl (d1) (PR _) (DU _) c0.src (by first | omega | (simp only [LC,LN,LA,LK,LD];omega)) (fun g5 b8 c3=>?_));rw [NA] at c3;refine FB (M1:=((bX b3 #[vI (0),vI (0),vN,vN,vN] 26)::(bX b1 #[vI (L.places),vI (L.sorts),vS a6 L.start.length a7,vS a4 L.keeps.length a5,vS a2 L.slips.length a3] 26)::(b8++(b6++(b5++[]))))) (by simp only [AA,CA,NA,List.append_nil];exact (PW PM)) (.none (.wait (by kernel_rfl) (.wait (by kernel_rfl) (.wait (by kernel_rfl) (.wait (by kernel_rfl) (.wait (by kernel_rfl) (.wait (by kernel_rfl) .nil))))))) ?_;obtain ⟨b2,b4,d6,g0⟩:=c3.shape;subst d6;show OFPX _ _ _ _ _ _ _ _ _ _ ((13,vS b2 L.slips.length b4)::_) _ _;refine FE (AX (M':=((bX b3 #[vI (0),vI (0),vN,vN,vN] 26)::(bX b1 #[vI (L.places),vI (L.sorts),vS a6 L.start.length a7,vS a4 L.keeps.length a5,vS a2 L.slips.length a3] 26)::(b8++(b6++(b5++F))))) (fun w h=>by simpa only [AA,CA,NA,List.append_nil] using h) (nm ?_));refine sS (ss 1 2 b1 [vS a0 a8.length a1] [vI (L.places),vI (L.sorts),vS a0 a8.length a1,vS a4 L.keeps.length a5,vS a2 L.slips.length a3] (_::_::_) (cs:=[_,_,_,_,_]) rfl rfl (sp 1 [(15,vP b1 3)] (sS (ss 1 3 b1 [vS a9 L.keeps.length b0] [vI (L.places),vI (L.sorts),vS a0 a8.length a1,vS a9 L.keeps.length b0,vS a2 L.slips.length a3] (_::_::_) (cs:=[_,_,_,_,_]) rfl rfl (sp 1 [(16,vP b1 4)] (sS (ss 1 4 b1 [vS b2 L.slips.length b4] [vI (L.places),vI (L.sorts),vS a0 a8.length a1,vS a9 L.keeps.length b0,vS b2 L.slips.length b4] (_::_::_) (cs:=[_,_,_,_,_]) rfl rfl (sn (sd (dnb 17 1 0 b1 [vI (L.places),vI (L.sorts),vS a0 a8.length a1,vS a9 L.keeps.length b0,vS b2 L.slips.length b4]) (sS (ss 0 0 b3 [vI (L.places),vI (L.sorts),vS a0 a8.length a1,vS a9 L.keeps.length b0,vS b2 L.slips.length b4] [vI (L.places),vI (L.sorts),vS a0 a8.length a1,vS a9 L.keeps.length b0,vS b2 L.slips.length b4] (_::_::_) (cs:=[_,_,_,_,_]) rfl rfl (se (BL (ppm (M':=((b5++(b6++(b8++(bX b3 #[vI (L.places),vI (L.sorts),vS a0 a8.length a1,vS a9 L.keeps.length b0,vS b2 L.slips.length b4] 26)::(bX b1 #[vI (L.places),vI (L.sorts),vS a0 a8.length a1,vS a9 L.keeps.length b0,vS b2 L.slips.length b4] 26)::F))))) ((PU (PU (PV (PO _ _ _)))).trans (PA _ ((PU (PU (PO _ _ _))).trans (PA _ (PU (PM.symm)))))) (GJ (t:=2) (T:=26) (n:=5) (b5++(b6++(b8))) (by kernel_rfl) rfl (by kernel_rfl) rfl (CJ (n:=5) (cs:=#[vI (L.places),vI (L.sorts),vS a0 a8.length a1,vS a9 L.keeps.length b0,vS b2 L.slips.length b4]) (b:=b3) (off:=0) (T:=26) (fz:=(0,0)) (vs:=[vI (L.places),vI (L.sorts),vS a0 a8.length a1,vS a9 L.keeps.length b0,vS b2 L.slips.length b4]) (by simp) rfl) (.inl ⟨by kernel_rfl,rfl⟩) (by simp only [AA,NA,CA];exact (TA (TA (TA (TC _ (TC _ (TR _))) _) _) _)) c1 ?_)))))))))))))));exact ⟨_,_,_,_,_,_,_,rfl,rfl,c5,c6,c2,c3⟩
noncomputable def c_owed1 (p:List Nat):Code:=sub (AP Tryz.f82) p
theorem owed1_ct (I:Imm) (a:Debt) (b:Debt) (hr:OJ a∧OJ b):CtV Tryz.prog 82 #[.agg #[vI a.who,vI a.sort,vI a.amt],.agg #[vI b.who,vI b.sort,vI b.amt]] I (vI (EQ a b)):=by
 refine fr (args:=[_,_]) (N:=20) Tryz.func82 (fun F=>?_);show Run _ _ (c_owed1 []) _ _ [(0,.agg #[vI (a.who),vI (a.sort),vI (a.amt)]),(1,.agg #[vI (b.who),vI (b.sort),vI (b.amt)])] _ _;refine rnm ?_;obtain ⟨⟨hr1,hr2,hr3,hr4⟩,hr5,hr6,hr7,hr8⟩:=hr;refine rqr (sS (sb 2 61 #[vI (a.who),vI (a.sort),vI (a.amt)] (fun b1=>(sS (sb 3 61 #[vI (b.who),vI (b.sort),vI (b.amt)] (fun b3=>(sp 1 [(4,vI (0))] (se (rq (rqr (sp 1 [(5,vP b1 0)] (sd (dlb 6 1 0 b1 (vI (a.who))) (sp 1 [(7,vP b3 0)] (sd (dlb 8 0 0 b3 (vI (b.who))) (sp 1 [(9,.bool (!(cmp .eql (a.who) (b.who))))] (se (rc 9 rfl (fun h1=>?_) (fun h1=>?_))))))))))))))))))
 ·
  have a0:=h1;have h1:=BW (CS h1);refine rqr (sp 1 [(10,vP b1 0)] (sd (dlb 11 1 0 b1 (vI (a.who))) (sp 1 [(12,vP b3 0)] (sd (dlb 13 0 0 b3 (vI (b.who))) (sd (dsb 14 (a.who) (b.who)) (sp 1 [(4,vI (a.who-b.who))] (se (BL ((RP (AH (t:=4) [] (by kernel_rfl) rfl (TC _ (TC _ (TR _))) (IR _) ?_)))))))))));exact ⟨congrArg (Value.int .i64) (if_pos h1).symm,rfl⟩
 have a0:=h1;have h1:=BX (CR h1);refine AQ (NX (rqr (sp 1 [(15,vP b1 1)] (sd (dlb 16 1 1 b1 (vI (a.sort))) (sp 1 [(17,vP b3 1)] (sd (dlb 18 0 1 b3 (vI (b.sort))) (sd (dsb 19 (a.sort) (b.sort)) (sp 1 [(4,vI (a.sort-b.sort))] (se (BL (AH (t:=4) [] (by kernel_rfl) rfl (TC _ (TC _ (TR _))) (IR _) ?_)))))))))));exact ⟨congrArg (Value.int .i64) (if_neg (fun x=>x h1)).symm,rfl⟩
noncomputable def c_insSortD (p:List Nat):Code:=sub (AP Tryz.f167) p
theorem insSortD_ct (I:Imm) (d:Value) (xs:List Debt) (d_Ms:Seg) (u:Nat) (v:Nat) (d_h:Own 61 3 CX d xs d_Ms) (h0:u=0) (hb:v=xs.length) (hsm:∀ x∈xs,OJ x) (hl:xs.length≤1000000):Ct Tryz.prog 167 #[d,vI ↑u,vI ↑v,.func (.func 82) #[] #[]] I (d_Ms) (fun v I' M'=>∃ d_Mt:Seg,v=.tuple #[]∧M'=d_Mt∧Own 61 3 CX d (AD EQ xs) d_Mt):=by
 obtain ⟨a3,a4,c4,c7⟩:=d_h.shape;subst c4;refine fr (args:=[_,_,_,_]) (N:=53) Tryz.func167 (fun F=>?_);show Run _ _ (c_insSortD []) _ _ [(0,vS a3 xs.length a4),(1,vI (↑u)),(2,vI (↑v)),(3,.func (.func 82) #[] #[])] _ _;refine rnm (rqr ?_);refine sp 1 [(10,vI (↑u))] (sd (da 11 (↑u) (1)) (CQ 11 rfl (show (vI (↑u+1):Value)=vI (↑(1:Nat)) from congrArg (Value.int .i64) (by omega)) (sp 1 [(8,vI (↑(1:Nat)))] (se (rb 0 ?_)))));refine rl (fun mz a w=>∃ i:Nat,∃ zs:List Debt,∃ a2:Seg,(1≤i)∧(InsI EQ xs zs i)∧(zs.Perm xs)∧(Own 61 3 CX (vS a3 xs.length a4) (zs) a2)∧Slots 53 [(0,(vS a3 xs.length a4)),(8,vI ↑i),(1,vI (↑u)),(2,vI (↑v)),(3,.func (.func 82) #[] #[])] a∧a.defers=[]∧St I ((a2++F)) w∧mz=xs.length-i) ?_ ?_
 ·intro a w hS hD hW;exact ⟨_,1,xs,d_Ms,Nat.le_refl _,InsI.start,PR _,d_h,hS.sub (.cons 0 rfl (.cons 8 rfl (.cons 1 rfl (.cons 2 rfl (.cons 3 rfl (.nil _)))))),hD,hW,rfl⟩
 rintro mz a w ⟨i,zs,a2,c8,b1,c5,a8,hS,hD,hW,rfl⟩
 refine AR hS hD hW ?_;clear hS hD hW a w;have d1:=b1.len;refine rq (rqr (sp 3 [(14,.bool (cmp .lss (↑i) (↑v)))] (se (rc 14 rfl (fun h1=>?_) (fun h1=>?_)))))
 ·
  have c1:=h1;have h1:=CL h1;refine AQ (NX (rq (rb 1 (rqr (sp 2 [(9,vI (↑i))] (se (rb 2 ?_)))))));refine rl (fun mz a w=>∃ j:Nat,∃ ys:List Debt,∃ a0:Seg,(InsAt EQ CU xs ys i j)∧(ys.Perm xs)∧(Own 61 3 CX (vS a3 xs.length a4) (ys) a0)∧Slots 53 [(0,(vS a3 xs.length a4)),(9,vI ↑j),(1,vI (↑u)),(2,vI (↑v)),(3,.func (.func 82) #[] #[]),(8,vI (↑i))] a∧a.defers=[]∧St I ((a0++F)) w∧mz=j+1) ?_ ?_
  ·intro a w hS hD hW;exact ⟨_,i,zs,a2,b1.into (by omega),c5,a8,hS.sub (.cons 0 rfl (.cons 9 rfl (.cons 1 rfl (.cons 2 rfl (.cons 3 rfl (.cons 8 rfl (.nil _))))))),hD,hW,rfl⟩
  rintro mz a w ⟨j,ys,a0,b9,a7,a1,hS,hD,hW,rfl⟩
  refine AR hS hD hW ?_;clear hS hD hW a w;have d0:=b9.len;have c9:=b9.1;refine rq (rq ?_);refine DI (fun a w=>Slots 53 [(0,vS a3 xs.length a4),(1,vI (↑u)),(2,vI (↑v)),(3,.func (.func 82) #[] #[]),(8,vI (↑i)),(9,vI (↑j)),(34,.bool ((cmp .gtr (↑j) (↑u))&&(cmp .lss ((EQ (ys.getD (j) CU) (ys.getD ((↑j-1:Int).toNat) CU))) (0))))] a∧a.defers=[]∧St I ((a0++F)) w) ?_ ?_
  ·
   refine rd0 14 (ox 4 [(21,.bool (cmp .gtr (↑j) (↑u)))] ?_);refine HT 21 (fun h2=>?_) (fun h2=>?_)
   ·
    have a5:=h2;have a5:=LI a5;refine ox 3 [(24,vI (↑j)),(23,vS a3 xs.length a4),(22,.func (.func 82) #[] #[])] ?_;obtain ⟨d2,b5⟩:=a1.row CU;refine AE (di 25 3 (j) (fun _=>b5.addr (by omega)) (n:=xs.length)) ?_;refine AE (dn 26 (GI (vals:=HE) (fun _=>rfl) b5 (fun x hx=>by simp [hx]) (j) (by omega))) (ox 2 [(28,vI (↑j)),(27,vS a3 xs.length a4)] ?_);refine AE (dsb 29 (↑j) (1)) ?_;obtain ⟨d3,b6⟩:=a1.row CU;refine AE (diI 30 3 (↑j-1) (fun _=>b6.addr (by omega)) (n:=xs.length)) ?_;refine AE (dn 31 (GI (vals:=HE) (fun _=>rfl) b6 (fun x hx=>by simp [hx]) ((↑j-1:Int).toNat) (by omega))) ?_;refine BE (sd (dc 32 (fun I' hI=>(owed1_ct I' (ys.getD (j) CU) (ys.getD ((↑j-1:Int).toNat) CU) (by exact ⟨hsm _ (a7.subset (AV (by omega))),hsm _ (a7.subset (AV (by omega)))⟩) :))) (sp 2 [(34,.bool (cmp .lss ((EQ (ys.getD (j) CU) (ys.getD ((↑j-1:Int).toNat) CU))) (0)))] (ee ?_)));refine AO (fun a w hS hD hW=>⟨hS.sub (.cons 0 rfl (.cons 1 rfl (.cons 2 rfl (.cons 3 rfl (.cons 8 rfl (.cons 9 rfl (.consE 34 rfl (congrArg Value.bool (by simp only [h2,kA,kB,kC,kD,kE,kF,kG,kH,kI,kJ])) (.nil _)))))))),hD,hW⟩)
   have a5:=h2;have a5:=gtr_f a5;refine ox 10 [(31,undef),(26,undef),(22,undef)] ?_;refine BE (sp 3 [(34,.bool (false))] (ee ?_));refine AO (fun a w hS hD hW=>⟨hS.sub (.cons 0 rfl (.cons 1 rfl (.cons 2 rfl (.cons 3 rfl (.cons 8 rfl (.cons 9 rfl (.consE 34 rfl (congrArg Value.bool (by simp only [h2,kA,kB,kC,kD,kE,kF,kG,kH,kI,kJ])) (.nil _)))))))),hD,hW⟩)
  rintro a w ⟨hS,hD,hW⟩
  refine AR hS hD hW ?_;clear hS hD hW a w;refine rc 34 rfl (fun h3=>?_) (fun h3=>?_)
  ·
   have c2:=h3;obtain ⟨b3,b0⟩:=NP h3;have b3:=LI b3;have b0:=CL b0;refine AQ (NX (rq (rb 3 ?_)));refine rdX (M:=((a0++[]))) (F0:=F) [] 16 [(0,true),(1,true),(2,true),(3,true),(4,true),(5,true),(6,true),(7,true),(8,true),(9,true),(10,true),(11,true),(12,true),(13,true),(14,true),(15,false)] (by simp only [AA,CA,NA,List.append_nil];exact PR _) GY ?_;refine AG (AM (d:=37) (v:=vS a3 xs.length a4) (by kernel_rfl)) ?_;refine AG (AM (d:=38) (v:=vI (↑j)) (by kernel_rfl)) ?_;refine AW (AM (d:=39) (v:=vS a3 xs.length a4) (by kernel_rfl)) ?_;refine AW (AM (d:=40) (v:=vI (↑j)) (by kernel_rfl)) ?_;refine AW (dsb 41 (↑j) (1)) ?_;refine AG (AM (d:=42) (v:=vS a3 xs.length a4) (by kernel_rfl)) ?_;refine AG (AM (d:=43) (v:=vI (↑j)) (by kernel_rfl)) ?_;refine AG (dsb 44 (↑j) (1)) ?_;obtain ⟨d4,b7⟩:=a1.row CU;refine AG (diI 45 3 (↑j-1) (fun _=>b7.addr (by omega)) (n:=xs.length)) ?_;refine AG (dn 46 (GI (vals:=HE) (fun _=>rfl) b7 (fun x hx=>by simp [hx]) ((↑j-1:Int).toNat) (by omega))) ?_;refine AG (AM (d:=47) (v:=vS a3 xs.length a4) (by kernel_rfl)) ?_;refine AG (AM (d:=48) (v:=vI (↑j)) (by kernel_rfl)) ?_;obtain ⟨d5,b8⟩:=a1.row CU;refine AG (di 49 3 (j) (fun _=>b8.addr (by omega)) (n:=xs.length)) ?_;refine AG (dn 50 (GI (vals:=HE) (fun _=>rfl) b8 (fun x hx=>by simp [hx]) (j) (by omega))) ?_;obtain ⟨d6,a9⟩:=a1.row CU;refine AG (di 51 3 (j) (fun _=>a9.addr (by omega)) (n:=xs.length)) ?_;refine DG (Mx:=fun FX=>((a0++FX))) rfl (fun FX=>by simp only [AA,CA,NA,List.append_nil];exact PR _) (fun FX=>?_);refine id (FN (T:=61) (x:=(.tmp 51)) (y:=(.tmp 46)) (rc:=fun i f=>CX ((ys).getD i CU) f) CU (j) (ys.getD ((↑j-1:Int).toNat) CU) (ty:=0) (gd:=none) (by kernel_rfl) rfl a1 a9 (by omega) rfl rfl (by kernel_rfl) rfl (one1_debt _) (PR _) (fun b2 b4=>?_));refine FB (M1:=((b2++[]))) (by simp only [AA,CA,NA,List.append_nil];exact (PR _)) (.wait (by kernel_rfl) (.wait (by kernel_rfl) (.wait (by kernel_rfl) (.wait (by kernel_rfl) (.wait (by kernel_rfl) (.wait (by kernel_rfl) (.wait (by kernel_rfl) (.wait (by kernel_rfl) (.wait (by kernel_rfl) (.wait (by kernel_rfl) (.none (.none (.none (.wait (by kernel_rfl) (.wait (by kernel_rfl) .nil))))))))))))))) ?_;refine FE (AX (M':=((b2++F))) (fun w h=>by simpa only [AA,CA,NA,List.append_nil] using h) (nm ?_));obtain ⟨c6,a6⟩:=b4.row CU;simp only [LS] at a6;refine sd (diI 52 3 (↑j-1) (fun _=>a6.addr (by omega)) (n:=xs.length)) (sS (FN (T:=61) (x:=(.tmp 52)) (y:=(.tmp 50)) (rc:=fun i f=>CX ((ys.set (j) (ys.getD ((↑j-1:Int).toNat) CU)).getD i CU) f) CU ((↑j-1:Int).toNat) (ys.getD (j) CU) (ty:=0) (gd:=none) (by kernel_rfl) rfl b4 (by simpa only [LS] using a6) (by simp only [LS];omega) rfl rfl (by kernel_rfl) rfl (one1_debt _) (PR _) (fun c0 c3=>(nm (ee (NB (NX (rr ?_))))))));refine sp 1 [(35,vI (↑j))] (sd (dsb 36 (↑j) (1)) (sp 1 [(9,vI (↑j-1))] (ee ?_)));refine AN ((↑j-1:Int).toNat+1) (by omega) ?_;intro a w hS hD hW;exact ⟨(↑j-1:Int).toNat,(ys.set (j) (ys.getD ((↑j-1:Int).toNat) CU)).set ((↑j-1:Int).toNat) (ys.getD (j) CU),c0,b9.step (by omega) b0,(swapG (by omega) (by omega)).trans a7,c3,hS.sub (.consE 0 rfl rfl (.consE 9 rfl (congrArg (Value.int .i64) (by omega)) (.cons 1 rfl (.cons 2 rfl (.cons 3 rfl (.cons 8 rfl (.nil _))))))),hD,hW,rfl⟩
  have c2:=h3;refine CB 2 ((EP (EP (EB (NB (NX (rr (sp 1 [(15,vI (↑i))] (sd (da 16 (↑i) (1)) (sp 1 [(8,vI (↑i+1))] (ee ?_)))))))))));refine AN (xs.length-(i+1)) (by omega) ?_;intro a w hS hD hW;exact ⟨i+1,ys,a0,by omega,b9.done2 h0 h3,a7,a1,hS.sub (.consE 0 rfl rfl (.consE 8 rfl rfl (.cons 1 rfl (.cons 2 rfl (.cons 3 rfl (.nil _)))))),hD,hW,rfl⟩
 have c1:=h1;have h1:=CT h1;refine CB 0 ((EP (EP (EB ?_))));refine EF (a2) (by kernel_rfl) (TA (TR _) _) (IR _) ?_;exact ⟨_,rfl,rfl,((b1.done (by omega))▸a8)⟩
noncomputable def c_stableD (p:List Nat):Code:=sub (AP Tryz.f152) p
theorem stableD_ct (I:Imm) (d:Value) (xs:List Debt) (d_Ms:Seg) (v:Nat) (d_h:Own 61 3 CX d xs d_Ms) (hb:v=xs.length) (hsm:∀ x∈xs,OJ x) (hl:xs.length<20):Ct Tryz.prog 152 #[d,vI ↑v,.func (.func 82) #[] #[]] I (d_Ms) (fun v I' M'=>∃ d_Mt:Seg,v=.tuple #[]∧M'=d_Mt∧Own 61 3 CX d (AD EQ xs) d_Mt):=by
 obtain ⟨a1,a2,a9,b2⟩:=d_h.shape;subst a9;refine fr (args:=[_,_,_]) (N:=63) Tryz.func152 (fun F=>?_);show Run _ _ (c_stableD []) _ _ [(0,vS a1 xs.length a2),(1,vI (↑v)),(2,.func (.func 82) #[] #[])] _ _;refine rnm (rqr ?_);refine sp 1 [(6,vI (20))] (sn (sp 3 [(8,vI (20)),(7,vI (0))] (se (rq (rb 0 ?_)))));refine rl (fun mz a w=>∃ k:Nat,(k=0)∧Slots 63 [(7,vI (0)),(8,vI (20)),(0,vS a1 xs.length a2),(1,vI (↑v)),(2,.func (.func 82) #[] #[]),(6,vI (20))] a∧a.defers=[]∧St I ((d_Ms++F)) w∧mz=k+1) ?_ ?_
 ·intro a w hS hD hW;exact ⟨_,0,rfl,hS.sub (.cons 7 rfl (.cons 8 rfl (.cons 0 rfl (.cons 1 rfl (.cons 2 rfl (.cons 6 rfl (.nil _))))))),hD,hW,rfl⟩
 rintro mz a w ⟨k,b0,hS,hD,hW,rfl⟩
 refine AR hS hD hW ?_;clear hS hD hW a w;refine rq (rqr (sp 3 [(13,.bool (cmp .leq (↑(20:Nat)) (↑v)))] (se (rc 13 rfl (fun h1=>?_) (fun h1=>?_)))))
 ·
  have a3:=h1;have h1:=leq_t h1;omega
 have a3:=h1;have h1:=leq_f h1;refine CB 0 ((EP (EP (EB (NX (rqr (sp 4 [(26,.func (.func 82) #[] #[]),(25,vI (↑v)),(24,vI (↑(0:Nat))),(23,vS a1 xs.length a2)] (sS (sc (some 27) (F:=(F)) (insSortD_ct _ _ _ _ (0) (v) d_h (by rfl) (by omega) (by exact hsm) (by omega) :) (.refl _) (fun b4 I1 b3 a5 b1=>?_))))))))));obtain ⟨a0,a8,a7,a6⟩:=b1;rw [a8,a7];clear a8 a7;refine nm (se (rb 2 ?_));refine rl (fun mz a w=>∃ k:Nat,(k=0)∧Slots 63 [(6,vI (20)),(0,vS a1 xs.length a2),(1,vI (↑v)),(2,.func (.func 82) #[] #[])] a∧a.defers=[]∧St I1 ((a0++F)) w∧mz=k+1) ?_ ?_
 ·intro a w hS hD hW;exact ⟨_,0,rfl,hS.sub (.cons 6 rfl (.cons 0 rfl (.cons 1 rfl (.cons 2 rfl (.nil _))))),hD,hW,rfl⟩
 rintro mz a w ⟨k,b0,hS,hD,hW,rfl⟩
 refine AR hS hD hW ?_;clear hS hD hW a w;refine rq (rqr (sp 3 [(30,.bool (cmp .lss (↑(20:Nat)) (↑v)))] (se (rc 30 rfl (fun h2=>?_) (fun h2=>?_)))))
 ·
  have a4:=h2;have h2:=CL h2;omega
 have a4:=h2;have h2:=CT h2;refine CB 2 ((EP (EP (EB ?_))));refine EF (a0) (by kernel_rfl) (TA (TR _) _) a5 ?_;exact ⟨_,rfl,rfl,a6⟩
noncomputable def c_SortStableD (p:List Nat):Code:=sub (AP Tryz.f135) p
theorem SortStableD_ct (I:Imm) (d:Value) (xs:List Debt) (d_Ms:Seg) (d_h:Own 61 3 CX d xs d_Ms) (hsm:∀ x∈xs,OJ x) (hl:xs.length<20):Ct Tryz.prog 135 #[d,.func (.func 82) #[] #[]] I (d_Ms) (fun v I' M'=>∃ d_Mt:Seg,v=.tuple #[]∧M'=d_Mt∧Own 61 3 CX d (AD EQ xs) d_Mt):=by
 obtain ⟨a3,a4,a7,a9⟩:=d_h.shape;subst a7;refine fr (args:=[_,_]) (N:=9) Tryz.func135 (fun F=>?_);show Run _ _ (c_SortStableD []) _ _ [(0,vS a3 xs.length a4),(1,.func (.func 82) #[] #[])] _ _;refine rnm (rr ?_);refine sp 4 [(7,.func (.func 82) #[] #[]),(6,vI (↑(xs.length))),(4,vS a3 xs.length a4)] (sS (sc (some 8) (F:=(F)) (stableD_ct _ _ _ _ (xs.length) d_h (by rfl) (by exact hsm) (by omega) :) (.refl _) (fun b1 I1 b0 a1 a8=>?_)));obtain ⟨a0,a6,a5,a2⟩:=a8;rw [a6,a5];clear a6 a5;refine nm (ee ?_);refine EF (a0) (by kernel_rfl) (TA (TR _) _) a1 ?_;exact ⟨_,rfl,rfl,a2⟩
noncomputable def c_CloneDebt (p:List Nat):Code:=sub (AP Tryz.f134) p
theorem CloneDebt_ct (I:Imm) (z:Value) (xs:List Debt) (z_f:IsDebts I z xs) (hl:xs.length≤1000000):Ct Tryz.prog 134 #[z] I ([]) (fun v I' M'=>∃ u:Value,∃ Ms:Seg,v=u∧M'=Ms∧Own 61 3 CX u (xs) Ms):=by
 obtain ⟨a2,a3,b3,b6,a9,b4,b5,b0⟩:=id z_f;subst a9;refine fr (args:=[_]) (N:=8) Tryz.func134 (fun F=>?_);show Run _ _ (c_CloneDebt []) _ _ [(0,vS a2 xs.length a3)] _ _;refine rnm (rqr ?_);refine sp 1 [(2,vN)] (se (rq (rqr (sp 1 [(3,vS a2 xs.length a3)] (sd (det_eqnil (e:=61) (x:=(.tmp 3)) (y:=(.const (vN))) (T:=53) (T':=53) (d:=4) (ty:=4) (gd:=none) (by kernel_rfl) rfl (by kernel_rfl) rfl rfl) (se (rc 4 rfl (fun h1=>?_) (fun h1=>?_))))))))
 ·
  have a0:=h1;refine rqr (sp 1 [(2,vN)] (se (BL ((RP ?_)))));obtain rfl:=b0.nil h1;refine AH (t:=2) ([]) (by kernel_rfl) rfl (TR _) (IR _) ?_;exact ⟨_,_,rfl,rfl,Own.nil _ _ _⟩
 have a0:=h1;refine AQ (NX (rqr (sS (sbs 5 61 0 #[] (fun b1=>(sp 1 [(6,vS a2 xs.length a3)] ?_))))));have a5:Own 61 3 CX (vS (some ⟨b1,0,none⟩) 0 0) ([]:List Debt) [(bX b1 #[] 61)]:=Own.lit rfl rfl;refine sS (BC (d:=7) (x:=(.tmp 5)) (y:=(.tmp 6)) (T:=53) (T':=53) (E:=61) (E':=61) (sz:=3) (bs:=24) (z:=.agg #[vI (0),vI (0),vI (0)]) (cell:=CX) (xs:=([]:List Debt)) (ys:=xs) (Ms:=[(bX b1 #[] 61)]) (ty:=53) (gd:=none) (by kernel_rfl) rfl (by kernel_rfl) (by kernel_rfl) (by kernel_rfl) (by kernel_rfl) (by kernel_rfl) (by decide) (by kernel_rfl) rfl rfl (a5) (PR _) (OS _) z_f.src (by first | omega | (simp only [LC,LN,LA,LK,LD];omega)) (fun v4 a4 a1=>?_));rw [NA] at a1;refine nm ?_;obtain ⟨a6,a7,a8,b2⟩:=a1.shape;subst a8;refine sp 1 [(2,vS a6 xs.length a7)] (se (BL (AH (t:=2) (a4) (by kernel_rfl) rfl (TA (TR _) _) (IR _) ?_)));exact ⟨_,_,rfl,rfl,a1⟩
noncomputable def c_sortedD (p:List Nat):Code:=sub (AP Tryz.f81) p
theorem sortedD_ct (I:Imm) (s:Value) (xs:List Debt) (s_f:IsDebts I s xs) (hsm:∀ x∈xs,OJ x) (hl:xs.length<20):Ct Tryz.prog 81 #[s,.func (.func 82) #[] #[]] I ([]) (fun v I' M'=>∃ u:Value,∃ Ms:Seg,v=u∧M'=Ms∧Own 61 3 CX u (AD EQ xs) Ms):=by
 obtain ⟨b3,b4,c4,c7,b9,c5,c6,c8⟩:=id s_f;subst b9;refine fr (args:=[_,_]) (N:=12) Tryz.func81 (fun F=>?_);show Run _ _ (c_sortedD []) _ _ [(0,vS b3 xs.length b4),(1,.func (.func 82) #[] #[])] _ _;refine rnm (rqr ?_);refine sp 1 [(4,vN)] (sn (sp 1 [(6,vS b3 xs.length b4)] (sS (sc (some 7) (CloneDebt_ct _ _ _ s_f (by omega) :) (.refl _) (fun c3 I1 b6 a7 b5=>?_)))));obtain ⟨u6,c2,b1,b0,b2⟩:=b5;rw [b1,b0];clear b1 b0;obtain ⟨a1,a2,a9,c0⟩:=b2.shape;subst a9;refine nm ?_;refine sp 1 [(5,vS a1 xs.length a2)] (sn (sp 2 [(9,.func (.func 82) #[] #[]),(8,vS a1 xs.length a2)] (sS (sc (some 10) (F:=(F)) (SortStableD_ct _ _ _ _ b2 (by exact hsm) (by omega) :) (.refl _) (fun b8 c1 b7 a3 a8=>?_)))));obtain ⟨a0,a5,a4,a6⟩:=a8;rw [a5,a4];clear a5 a4;refine nm (sn ?_);refine sp 2 [(4,vS a1 xs.length a2)] (se (BL (AH (t:=4) (a0) (by kernel_rfl) rfl (TA (TR _) _) (IT a7 a3) ?_)));exact ⟨_,_,rfl,rfl,a6⟩
noncomputable def c_LOwed (p:List Nat):Code:=sub (AP Tryz.f32) p
theorem LOwed_ct (I:Imm) (l:Value) (L:Lin) (l_f:IsLin I l L):Ct Tryz.prog 32 #[l] I ([]) (fun v I' M'=>∃ u0:Value,∃ Ms0:Seg,v=.tuple #[u0,vI ((HY L).2)]∧M'=Ms0∧Own 61 3 CX u0 ((HY L).1) Ms0):=by
 obtain ⟨l1,l2,l3,p2,e5,e6,e7⟩:=id l_f;subst p2;obtain ⟨a3,a4,n6,n9,n0,m0,n7,n8,o0,o1⟩:=id e5;subst m0;obtain ⟨a5,a6,o2,o5,m1,o3,o4,o6⟩:=id e6;subst m1;obtain ⟨a7,a8,o7,p0,m2,o8,o9,p1⟩:=id e7;subst m2;refine HK (fn:=Tryz.f32) (args:=[_]) (N:=62) Tryz.func32 rfl (by kernel_rfl) (Nat.le_of_ble_eq_true rfl) (fun F=>?_);show Run _ _ (c_LOwed []) _ _ [(0,.agg #[vI (L.places),vI (L.sorts),vS a3 L.start.length a4,vS a5 L.keeps.length a6,vS a7 L.slips.length a8])] _ _;refine rnm (rqr ?_);refine sS (sb 1 26 #[vI (L.places),vI (L.sorts),vS a3 L.start.length a4,vS a5 L.keeps.length a6,vS a7 L.slips.length a8] (fun b1=>(sp 2 [(3,vI (0)),(2,vN)] (se (rq (rqr (sd (dnb 10 0 0 b1 [vI (L.places),vI (L.sorts),vS a3 L.start.length a4,vS a5 L.keeps.length a6,vS a7 L.slips.length a8]) (sd (dc 11 (fun I' hI=>(IX I' _ (L) ((GF e5 e6 e7).mono hI) :))) (sp 1 [(4,vI ((AU L)))] (sn (sp 2 [(13,.bool (!(cmp .eql ((AU L)) (0))))] (se (rc 13 rfl (fun h1=>?_) (fun h1=>?_))))))))))))))
 ·
  have l6:=h1;have h1:=BW (CS h1);refine rqr (sp 3 [(3,vI ((AU L))),(2,vN)] (se (BL ((RP ?_)))));have hE:=owedE_1 (L:=L) h1;refine DW (R:=((bX b1 #[vI (L.places),vI (L.sorts),vS a3 L.start.length a4,vS a5 L.keeps.length a6,vS a7 L.slips.length a8] 26)::F)) [] (.inl rfl) (PR _) (CE (t:=2) (u:=3) ([]) (by kernel_rfl) rfl rfl (TC _ (TR _)) (IR _) ?_);exact ⟨_,_,(by rw [hE]),rfl,((show []=(HY L).1 from by rw [hE])▸Own.nil _ _ _)⟩
 have l6:=h1;have h1:=BX (CR h1);refine AQ (NX (rq ?_));have hz:AU L=0:=by omega
 have hg:=LB hz;have q8:=lack_count hg;refine rr (sS (HW (d:=15) (T:=118) (ty:=118) (gd:=none) (by kernel_rfl) rfl (fun b3=>(sS (sal 5 118 #[.map none] (fun b5=>(sS (ss 0 0 b5 [.map (some b3)] [.map (some b3)] (_::_::_::_) (cs:=[_]) rfl rfl (se (rq (rqr (sd (dnb 16 2 0 b1 [vI (L.places),vI (L.sorts),vS a3 L.start.length a4,vS a5 L.keeps.length a6,vS a7 L.slips.length a8]) (sS (sc (some 17) (open_ct _ _ (L) (GF e5 e6 e7) :) (.refl _) (fun p7 I7 p4 l7 n3=>?_)))))))))))))));obtain ⟨n1,q0,q1,q2,m6,k5,k4,g3,f8,m4,m5⟩:=n3;rw [g3,f8];clear g3 f8;have b7:=m4;obtain ⟨a1,d2,d4,d6⟩:=id b7;obtain ⟨i2,i4,i3,i7,h6,d1,i5,i6,i8,i9⟩:=id d2;subst d1;obtain ⟨j0,j2,j1,j5,d3,j3,j4,j6⟩:=id d4;subst d3;obtain ⟨j7,j9,j8,k2,d5,k0,k1,k3⟩:=id d6;subst d5;refine nm ?_;refine sS (sc (some 18) (gaps_ct _ (n1) :) (.refl _) (fun p8 q3 p5 c0 l8=>?_));obtain ⟨e9,g4,f9,b0⟩:=l8;rw [g4,f9];clear g4 f9;replace b7:=b7.mono c0;replace a1:=c0.blk _ _ a1;refine nm (se (rb 0 ?_))
 refine LQ (α:=EvH) (β:=EvH × (Option Addr × Nat)) (pr:=Prod.fst) (E:=fun x I=>CF I (vS x.2.1 x.1.2.length x.2.2) x.1.2) (g:=(.tmp 18)) (ps:=#[19]) (assign:=c_LOwed [1,1,1,0,1,0,0]) (body:=c_LOwed [1,1,1,0,1,0,1]) (gf:=130) (cv:=[vP e9 0]) (enc:=encEvH) (seq:=ED L) (R:=fun _ M=>∃ es cl,M=[(m6,Obj.map es cl)]∧MapH es cl (DV L)) (Mr:=[(m6,Obj.map k5 k4)]) (M0:=((bX b5 #[.map (some b3)] 118)::(b3,Obj.map #[] 0)::[])) (F0:=((bX b1 #[vI (L.places),vI (L.sorts),vS a3 L.start.length a4,vS a5 L.keeps.length a6,vS a7 L.slips.length a8] 26)::F))
  (fun xs I M=>∃ es cl,M=[(bX b5 #[.map (some b3)] 118),(b3,Obj.map es cl)]∧MapO es cl (EE xs)) (fun _ _ _ _=>False) (fun x k=>[(2,vN),(3,vI (0)),(5,vP b5 0),(6,vP k 0)]) (fun x k=>[(bX k #[vI (x.1.1.slip.num),vI (x.1.1.slip.hour),vI (x.1.1.slip.kind),vI (x.1.1.slip.place),vI (x.1.1.slip.to),vI (x.1.1.slip.sort),.bool (x.1.1.slip.soil),vI (x.1.1.slip.amt),vI (x.1.1.gap),.bool (x.1.1.below),vS x.2.1 x.1.2.length x.2.2] 115)])
  (by kernel_rfl) rfl (by kernel_rfl) (fun _=>rfl) (by kernel_rfl) (gaps1_iter _ n1 e9 m6 _ _ _ L b7 b0 hg) (fun xs I J M _ h=>h) (by simpa only [AA,CA,NA] using (PR _)) ⟨_,_,rfl,m5⟩ ⟨_,_,rfl,(MapO.nil _)⟩ ?_ ?_ ?_ ?_
 ·intro Lq x I1 M1;refine OD (l':=[(2,vN),(3,vI (0)),(5,vP b5 0),(19,.agg #[vI (x.1.1.slip.num),vI (x.1.1.slip.hour),vI (x.1.1.slip.kind),vI (x.1.1.slip.place),vI (x.1.1.slip.to),vI (x.1.1.slip.sort),.bool (x.1.1.slip.soil),vI (x.1.1.slip.amt),vI (x.1.1.gap),.bool (x.1.1.below),vS x.2.1 x.1.2.length x.2.2])]) (.cons 2 rfl (.cons 3 rfl (.cons 5 rfl (.cons 19 rfl (.nil _))))) (rr (sS (sal 6 115 #[vI (0),vI (0),vI (0),vI (0),vI (0),vI (0),.bool (false),vI (0),vI (0),.bool (false),vN] (fun m7=>(sS (ss 0 0 m7 [vI (x.1.1.slip.num),vI (x.1.1.slip.hour),vI (x.1.1.slip.kind),vI (x.1.1.slip.place),vI (x.1.1.slip.to),vI (x.1.1.slip.sort),.bool (x.1.1.slip.soil),vI (x.1.1.slip.amt),vI (x.1.1.gap),.bool (x.1.1.below),vS x.2.1 x.1.2.length x.2.2] [vI (x.1.1.slip.num),vI (x.1.1.slip.hour),vI (x.1.1.slip.kind),vI (x.1.1.slip.place),vI (x.1.1.slip.to),vI (x.1.1.slip.sort),.bool (x.1.1.slip.soil),vI (x.1.1.slip.amt),vI (x.1.1.gap),.bool (x.1.1.below),vS x.2.1 x.1.2.length x.2.2] (_::_) (cs:=[_,_,_,_,_,_,_,_,_,_,_]) rfl rfl (ee ?_)))))));exact AO (fun a w hS hD hW=>⟨m7,hS.sub (.cons 2 rfl (.cons 3 rfl (.cons 5 rfl (.cons 6 rfl (.nil _))))),hD,hW⟩)
 ·intro Lq x k xs I1 Mr1 M1 F1 hpre hle1 hR1 hC1;replace a1:=hle1.blk _ _ a1;replace b0:=hle1.blk _ _ b0;obtain ⟨e1,e0,rfl,e4⟩:=hC1;obtain ⟨qa,qc,qb,qo,qe,ql,qm,qr⟩:=id hR1;simp only [Value.slice.injEq,true_and] at qe;obtain ⟨rfl,rfl⟩:=qe;have m9:∀ q∈xs++[x.1],q∈ED L:=fun q hq=>hpre.subset hq
  have n5:=hpre.length_le;simp only [LA,LC,LN] at n5;have r0:=lack_all hg (m9 x.1 (by simp));have q9:=owes_bound (k:=⟨x.1.2.getD 0 0,x.1.1.slip.sort,0⟩) hg (xs:=xs) (fun q hq=>m9 q (by simp [hq]));refine GK (M':=((bX k #[vI (x.1.1.slip.num),vI (x.1.1.slip.hour),vI (x.1.1.slip.kind),vI (x.1.1.slip.place),vI (x.1.1.slip.to),vI (x.1.1.slip.sort),.bool (x.1.1.slip.soil),vI (x.1.1.slip.amt),vI (x.1.1.gap),.bool (x.1.1.below),vS x.2.1 x.1.2.length x.2.2] 115)::(Mr1++(bX b5 #[.map (some b3)] 118)::(b3,Obj.map e1 e0)::F1))) (fun w h=>by simpa only [AA,CA,NA] using h) ?_;refine rpm (M':=((bX k #[vI (x.1.1.slip.num),vI (x.1.1.slip.hour),vI (x.1.1.slip.kind),vI (x.1.1.slip.place),vI (x.1.1.slip.to),vI (x.1.1.slip.sort),.bool (x.1.1.slip.soil),vI (x.1.1.slip.amt),vI (x.1.1.gap),.bool (x.1.1.below),vS x.2.1 x.1.2.length x.2.2] 115)::(bX b5 #[.map (some b3)] 118)::(b3,Obj.map e1 e0)::(Mr1++F1))) (PC _ (PW PM)) (rb 1 (rq ?_));refine DI (fun a w=>Slots 62 [(2,vN),(3,vI (0)),(5,vP b5 0),(6,vP k 0),(29,.bool ((cmp .lss (x.1.1.gap) (0))&&(cmp .eql (↑(x.1.2.length)) (1))))] a∧a.defers=[]∧St I1 ((bX k #[vI (x.1.1.slip.num),vI (x.1.1.slip.hour),vI (x.1.1.slip.kind),vI (x.1.1.slip.place),vI (x.1.1.slip.to),vI (x.1.1.slip.sort),.bool (x.1.1.slip.soil),vI (x.1.1.slip.amt),vI (x.1.1.gap),.bool (x.1.1.below),vS x.2.1 x.1.2.length x.2.2] 115)::(bX b5 #[.map (some b3)] 118)::(b3,Obj.map e1 e0)::(Mr1++F1)) w) ?_ ?_
  ·
   refine rr (sp 2 [(21,vP k 8)] (sd (dlb 22 0 8 k (vI (x.1.1.gap))) (sp 2 [(24,.bool (cmp .lss (x.1.1.gap) (0)))] ?_)));refine BV 24 rfl (fun h2=>?_) (fun h2=>?_)
   ·
    have b9:=h2;have b9:=CL b9;refine sp 1 [(25,vP k 10)] (sd (dlb 26 0 10 k (vS x.2.1 x.1.2.length x.2.2)) (sp 3 [(29,.bool (cmp .eql (↑(x.1.2.length)) (1)))] (ee ?_)));refine AO (fun a w hS hD hW=>⟨hS.sub (.cons 2 rfl (.cons 3 rfl (.cons 5 rfl (.cons 6 rfl (.consE 29 rfl (congrArg Value.bool (by simp only [h2,kA,kB,kC,kD,kE,kF,kG,kH,kI,kJ])) (.nil _)))))),hD,hW⟩)
   have b9:=h2;have b9:=CT b9;refine sp 5 [(29,.bool (false))] (ee ?_);refine AO (fun a w hS hD hW=>⟨hS.sub (.cons 2 rfl (.cons 3 rfl (.cons 5 rfl (.cons 6 rfl (.consE 29 rfl (congrArg Value.bool (by simp only [h2,kA,kB,kC,kD,kE,kF,kG,kH,kI,kJ])) (.nil _)))))),hD,hW⟩)
  rintro a w ⟨hS,hD,hW⟩
  refine AR hS hD hW ?_;clear hS hD hW a w;refine rc 29 rfl (fun h3=>?_) (fun h3=>?_)
  ·
   have e3:=h3;obtain ⟨f3,f4⟩:=NP h3;have f3:=CL f3;have f4:=BX f4;refine rdX (M:=((bX k #[vI (x.1.1.slip.num),vI (x.1.1.slip.hour),vI (x.1.1.slip.kind),vI (x.1.1.slip.place),vI (x.1.1.slip.to),vI (x.1.1.slip.sort),.bool (x.1.1.slip.soil),vI (x.1.1.slip.amt),vI (x.1.1.gap),.bool (x.1.1.below),vS x.2.1 x.1.2.length x.2.2] 115)::(bX b5 #[.map (some b3)] 118)::(b3,Obj.map e1 e0)::(Mr1++[]))) (F0:=F1) [] 17 [(0,true),(1,true),(2,true),(3,true),(4,true),(5,true),(6,true),(7,true),(8,true),(9,true),(10,true),(11,true),(12,true),(13,true),(14,true),(15,false),(16,true)] (by simp only [AA,CA,NA,List.append_nil];exact PR _) GY ?_;refine AG (dlb 30 1 0 b5 (.map (some b3))) ?_;refine AG (AM (d:=31) (v:=vP k 10) (by kernel_rfl)) ?_;refine AG (dlb 32 0 10 k (vS x.2.1 x.1.2.length x.2.2)) ?_;refine AG (di 33 1 (0) qr.addr) ?_;refine AG (dl 34 (CY qr (0) (by omega))) ?_;refine AG (AM (d:=35) (v:=vP k 0) (by kernel_rfl)) ?_;refine AG (AM (d:=36) (v:=vP k 0) (by kernel_rfl)) ?_;refine AG (AM (d:=37) (v:=vP k 5) (by kernel_rfl)) ?_;refine AG (dlb 38 0 5 k (vI (x.1.1.slip.sort))) ?_;refine AG (AM (d:=39) (v:=.agg #[vI (x.1.2.getD (0) 0),vI (x.1.1.slip.sort),vI (0)]) (by kernel_rfl)) ?_;refine HI (LkPr b3 encO (⟨x.1.2.getD (0) 0,x.1.1.slip.sort,0⟩:Debt) (vI 0) (vI (ON (⟨x.1.2.getD (0) 0,x.1.1.slip.sort,0⟩:Debt) (EE xs)))) (JO e4.1 (NW (⟨x.1.2.getD (0) 0,x.1.1.slip.sort,0⟩:Debt) (EE xs))) ((PC _ (PS _ _ _)).trans (PS _ _ _)) (ER (x:=(.tmp 30)) (y:=(.tmp 39)) (T:=118) (kt:=61) (et:=3) (k:=(⟨x.1.2.getD (0) 0,x.1.1.slip.sort,0⟩:Debt)) (z:=vI 0) (d:=40) (ty:=3) (gd:=none) (by kernel_rfl) rfl (by kernel_rfl) (keyOk_debt (by kernel_rfl) (by kernel_rfl)) rfl rfl (by kernel_rfl)) ?_;refine AG (AM (d:=41) (v:=vP k 0) (by kernel_rfl)) ?_;refine AG (AM (d:=42) (v:=vP k 8) (by kernel_rfl)) ?_;refine AG (dlb 43 0 8 k (vI (x.1.1.gap))) ?_;refine AW (dsb 44 (ON (⟨x.1.2.getD (0) 0,x.1.1.slip.sort,0⟩:Debt) (EE xs)) (x.1.1.gap)) ?_;refine DG (Mx:=fun FX=>((bX k #[vI (x.1.1.slip.num),vI (x.1.1.slip.hour),vI (x.1.1.slip.kind),vI (x.1.1.slip.place),vI (x.1.1.slip.to),vI (x.1.1.slip.sort),.bool (x.1.1.slip.soil),vI (x.1.1.slip.amt),vI (x.1.1.gap),.bool (x.1.1.below),vS x.2.1 x.1.2.length x.2.2] 115)::(bX b5 #[.map (some b3)] 118)::(b3,Obj.map e1 e0)::(Mr1++FX))) rfl (fun FX=>by simp only [AA,CA,NA,List.append_nil];exact PR _) (fun FX=>?_);refine id (stp_entO (d:=45) (x:=(.tmp 30)) (y:=(.tmp 39)) (T:=118) (kt:=61) (et:=3) (k:=(⟨x.1.2.getD (0) 0,x.1.1.slip.sort,0⟩:Debt)) (H:=EE xs) 2 (ty:=0) (gd:=none) (by kernel_rfl) rfl (by kernel_rfl) (keyOk_debt (by kernel_rfl) (by kernel_rfl)) rfl rfl (by kernel_rfl) rfl e4 (fun f1 c7 g9 d7=>?_));refine FB (M1:=((bX k #[vI (x.1.1.slip.num),vI (x.1.1.slip.hour),vI (x.1.1.slip.kind),vI (x.1.1.slip.place),vI (x.1.1.slip.to),vI (x.1.1.slip.sort),.bool (x.1.1.slip.soil),vI (x.1.1.slip.amt),vI (x.1.1.gap),.bool (x.1.1.below),vS x.2.1 x.1.2.length x.2.2] 115)::(bX b5 #[.map (some b3)] 118)::(b3,Obj.map f1 c7)::(Mr1++[]))) (by simp only [AA,CA,NA,List.append_nil];exact (PR _)) (.none (.wait (by kernel_rfl) (.wait (by kernel_rfl) (.wait (by kernel_rfl) (.other (HH d7.1 rfl (NW (⟨x.1.2.getD (0) 0,x.1.1.slip.sort,0⟩:Debt) (EE xs))) ((PC _ (PS _ _ _)).trans (PS _ _ _)) (.wait (by kernel_rfl) (.wait (by kernel_rfl) (.wait (by kernel_rfl) (.wait (by kernel_rfl) (.wait (by kernel_rfl) (.wait (by kernel_rfl) (.wait (by kernel_rfl) (.wait (by kernel_rfl) (.wait (by kernel_rfl) (.wait (by kernel_rfl) .nil))))))))))))))) ?_;show OFPX _ _ _ _ _ _ _ _ _ _ ((45,.tuple #[vI (ON (⟨x.1.2.getD (0) 0,x.1.1.slip.sort,0⟩:Debt) (EE xs)),vI (↑g9)])::_) _ _;refine AG (AM (d:=46) (v:=vI (↑g9)) (by kernel_rfl)) ?_;refine FE (AX (M':=((bX k #[vI (x.1.1.slip.num),vI (x.1.1.slip.hour),vI (x.1.1.slip.kind),vI (x.1.1.slip.place),vI (x.1.1.slip.to),vI (x.1.1.slip.sort),.bool (x.1.1.slip.soil),vI (x.1.1.slip.amt),vI (x.1.1.gap),.bool (x.1.1.below),vS x.2.1 x.1.2.length x.2.2] 115)::(bX b5 #[.map (some b3)] 118)::(b3,Obj.map f1 c7)::(Mr1++F1))) (fun w h=>by simpa only [AA,CA,NA,List.append_nil] using h) (nm ?_));refine sS (stp_fillO (x:=(.tmp 30)) (y:=(.tmp 46)) (u:=(.tmp 44)) (T:=118) (k:=(⟨x.1.2.getD (0) 0,x.1.1.slip.sort,0⟩:Debt)) (v:=(ON (⟨x.1.2.getD (0) 0,x.1.1.slip.sort,0⟩:Debt) (EE xs))-x.1.1.gap) 2 (ty:=0) (gd:=none) (by kernel_rfl) rfl rfl rfl rfl rfl d7 (fun f2 f6=>(nm (ee (NB ?_)))));refine ppm (M':=((bX k #[vI (x.1.1.slip.num),vI (x.1.1.slip.hour),vI (x.1.1.slip.kind),vI (x.1.1.slip.place),vI (x.1.1.slip.to),vI (x.1.1.slip.sort),.bool (x.1.1.slip.soil),vI (x.1.1.slip.amt),vI (x.1.1.gap),.bool (x.1.1.below),vS x.2.1 x.1.2.length x.2.2] 115)::(Mr1++(bX b5 #[.map (some b3)] 118)::(b3,Obj.map f2 c7)::F1))) (PC _ (PU (PM.symm))) ?_;refine FS (M':=(Mr1++((bX b5 #[.map (some b3)] 118)::(b3,Obj.map f2 c7)::[]))) (IR _) ?_ (by simp only [AA,NA,CA];exact (TC _ (TR _)));exact ⟨_,rfl,⟨_,_,rfl,owes_t e3▸f6⟩⟩
  have e3:=h3;refine AQ (NB (ppm (M':=((bX k #[vI (x.1.1.slip.num),vI (x.1.1.slip.hour),vI (x.1.1.slip.kind),vI (x.1.1.slip.place),vI (x.1.1.slip.to),vI (x.1.1.slip.sort),.bool (x.1.1.slip.soil),vI (x.1.1.slip.amt),vI (x.1.1.gap),.bool (x.1.1.below),vS x.2.1 x.1.2.length x.2.2] 115)::(Mr1++(bX b5 #[.map (some b3)] 118)::(b3,Obj.map e1 e0)::F1))) (PC _ (PU (PM.symm))) ?_));refine FS (M':=(Mr1++((bX b5 #[.map (some b3)] 118)::(b3,Obj.map e1 e0)::[]))) (IR _) ?_ (by simp only [AA,NA,CA];exact (TC _ (TR _)));exact ⟨_,rfl,⟨_,_,rfl,owes_f e3▸e4⟩⟩
 ·intro D I2 Mr2 M2 hle2 hC2;replace a1:=hle2.blk _ _ a1;replace b0:=hle2.blk _ _ b0;obtain ⟨c5,a9,rfl,c8⟩:=hC2;refine JT (M':=((D,Obj.deferred (some []))::(Mr2++(bX b5 #[.map (some b3)] 118)::(b3,Obj.map c5 a9)::(bX b1 #[vI (L.places),vI (L.sorts),vS a3 L.start.length a4,vS a5 L.keeps.length a6,vS a7 L.slips.length a8] 26)::F))) (fun w h=>by simpa only [AA,CA,NA] using h) (ppm (M':=((D,Obj.deferred (some []))::(bX b5 #[.map (some b3)] 118)::(b3,Obj.map c5 a9)::(bX b1 #[vI (L.places),vI (L.sorts),vS a3 L.start.length a4,vS a5 L.keeps.length a6,vS a7 L.slips.length a8] 26)::(Mr2++F))) (PC _ (PW (PW PM))) (NB (NX (rqr (sp 1 [(7,vN)] (se (rq (rqr (sd (dlb 47 1 0 b5 (.map (some b3))) (sS (NF (d:=48) (x:=(.tmp 47)) (T:=118) (kt:=61) (et:=3) (es:=c5) (cl:=a9) (ty:=0) (gd:=none) (by kernel_rfl) rfl (by kernel_rfl) rfl (.inl (List.mem_of_getElem? (i:=2) rfl)) (fun d9=>(se (rb 2 ?_))))))))))))));refine rl (fun mz a w=>∃ dn:Ods,∃ td:Ods,∃ c4:Value,∃ b2:Seg,∃ a2:Array Nat,((dn++td).Perm (EE (ED L)))∧(Own 61 3 CX c4 (dn.map mkD) b2)∧(Go.Sl.Left encO c5 a2 (intO td))∧Slots 62 [(7,c4),(2,vN),(3,vI (0)),(48,vP d9 0)] a∧a.defers=Sl.mark D::[]∧St I2 ((d9,Obj.mapIter (some b3) a9 a2 a9)::(D,Obj.deferred (some []))::(bX b5 #[.map (some b3)] 118)::(b3,Obj.map c5 a9)::(bX b1 #[vI (L.places),vI (L.sorts),vS a3 L.start.length a4,vS a5 L.keeps.length a6,vS a7 L.slips.length a8] 26)::(Mr2++(b2++F))) w∧mz=td.length) ?_ ?_
  ·intro a w hS hD hW;exact ⟨_,[],EE (ED L),(vN),[],#[],PR _,(Own.nil _ _ _),(Left.start c8.1.1),hS.sub (.cons 7 rfl (.cons 2 rfl (.cons 3 rfl (.cons 48 rfl (.nil _))))),hD,hW,rfl⟩
  rintro mz a w ⟨dn,td,c4,b2,a2,i0,c3,c9,hS,hD,hW,rfl⟩
  refine AR hS hD hW ?_;clear hS hD hW a w;obtain ⟨b4,b6,d0,i1⟩:=c3.shape;subst d0;have q7:(dn.map mkD).length≤8:=by have h1:=i0.length_eq;have h2:=owes_len (xs:=ED L);rw [LA] at h1;rw [List.length_map];omega
  refine rqr (sS (stp_nextO (d:=49) (x:=(.tmp 48)) (todo:=td) 0 (ty:=0) (gd:=none) (by kernel_rfl) rfl rfl rfl (.inl (List.mem_of_getElem? (i:=3) rfl)) c8.1.2 c9 (fun g1=>?_) (fun h4 a0 h5 h0 d8 f7 f5=>?_)))
  ·
   refine sp 1 [(50,.bool (false))] (se (rq (rcf 50 rfl (CB 2 ((EP (EP (EB (NX (rq ?_))))))))));have n4:=small_debts hg i0;have m8:=debts_sorted c8.2 (fun x hx=>(owes_keys hg (xs:=ED L) (fun _ h=>h) x hx).1) i0 g1;refine DO (B:=((d9,Obj.mapIter (some b3) a9 a2 a9)::(D,Obj.deferred (some []))::(bX b5 #[.map (some b3)] 118)::(b3,Obj.map c5 a9)::(bX b1 #[vI (L.places),vI (L.sorts),vS a3 L.start.length a4,vS a5 L.keeps.length a6,vS a7 L.slips.length a8] 26)::(Mr2++F))) CU c3 (by first | omega | (simp only [LS,LC,LN,LA,LK,LD] <;> omega) | decide) (PU (PU (PU (PU (PU (PO _ _ _)))))) (PR _) (fun q4 c1 b8=>?_);replace a1:=c1.blk _ _ a1;replace b0:=c1.blk _ _ b0;obtain ⟨k6,k8,k7,l4,e2,k9,l0,l5⟩:=id b8;cases e2;refine rr (sp 1 [(60,vS b4 (dn.map mkD).length b6)] (sS (sc (some 61) (sortedD_ct _ _ _ b8 (by exact n4) (by omega) :) (.refl _) (fun p9 q5 p6 c2 l9=>?_))));obtain ⟨r1,c6,g5,g0,g8⟩:=l9;rw [g5,g0];clear g5 g0;replace a1:=c2.blk _ _ a1;replace b0:=c2.blk _ _ b0;obtain ⟨h7,h8,h9,n2⟩:=g8.shape;subst h9;refine pm (M':=((d9,Obj.mapIter (some b3) a9 a2 a9)::(D,Obj.deferred (some []))::(bX b5 #[.map (some b3)] 118)::(b3,Obj.map c5 a9)::(bX b1 #[vI (L.places),vI (L.sorts),vS a3 L.start.length a4,vS a5 L.keeps.length a6,vS a7 L.slips.length a8] 26)::(c6++(Mr2++F)))) (PW (PW (PW (PW PM)))) (sp 2 [(3,vI (0)),(2,vS h7 (AD EQ (dn.map mkD)).length h8)] (se (BL ?_)));have hE:=owedE_2 hz;refine DW (R:=((d9,Obj.mapIter (some b3) a9 a2 a9)::(bX b5 #[.map (some b3)] 118)::(b3,Obj.map c5 a9)::(bX b1 #[vI (L.places),vI (L.sorts),vS a3 L.start.length a4,vS a5 L.keeps.length a6,vS a7 L.slips.length a8] 26)::(c6++(Mr2++F)))) [D] (.inl rfl) (PS _ _ _) (ppm (M':=((c6++(d9,Obj.mapIter (some b3) a9 a2 a9)::(bX b5 #[.map (some b3)] 118)::(b3,Obj.map c5 a9)::(bX b1 #[vI (L.places),vI (L.sorts),vS a3 L.start.length a4,vS a5 L.keeps.length a6,vS a7 L.slips.length a8] 26)::(Mr2++F)))) (PU (PU (PU (PM.symm)))) (CE (t:=2) (u:=3) (c6) (by kernel_rfl) rfl rfl (TA (TC _ (TC _ (TC _ (TC _ (TT (TR _) (TB _ _)))))) _) (IT (IT (IT (IT l7 c0) hle2) c1) c2) ?_));exact ⟨_,_,(by rw [hE,m8]),rfl,((show AD EQ (dn.map mkD)=(HY L).1 from by rw [hE,m8])▸g8)⟩
  show Seq _ _ _ _ _ _ ((49,.tuple #[.bool (true),.agg #[vI (a0.1.who),vI (a0.1.sort),vI (a0.1.amt)],vI (a0.2)])::_) _ _;refine nm ?_;refine sp 1 [(50,.bool (true))] (se (rq (rct 50 rfl (AQ (NX (rb 3 (rqr (sS (ND (d:=51) (x:=(.tmp 48)) (enc:=encO) (y:=(a0.1,vI a0.2)) (ty:=0) (gd:=none) (by kernel_rfl) rfl rfl (List.mem_of_getElem? (i:=0) rfl) (.inl (List.mem_of_getElem? (i:=3) rfl)) c8.1.2 f5 ?_)))))))));show Seq _ _ _ _ _ _ ((51,.tuple #[.agg #[vI (a0.1.who),vI (a0.1.sort),vI (a0.1.amt)],vI (a0.2)])::_) _ _;refine sp 2 [(53,vI (a0.2)),(52,.agg #[vI (a0.1.who),vI (a0.1.sort),vI (a0.1.amt)])] (sS (sal 8 61 #[vI (0),vI (0),vI (0)] (fun f0=>(sS (ss 0 0 f0 [vI (a0.1.who),vI (a0.1.sort),vI (a0.1.amt)] [vI (a0.1.who),vI (a0.1.sort),vI (a0.1.amt)] (_::_::_::_::_::_::_) (cs:=[_,_,_]) rfl rfl (sp 1 [(9,vI (a0.2))] (sn (sp 2 [(55,vP f0 2),(54,vI (a0.2))] (sS (ss 0 2 f0 [vI (a0.2)] [vI (a0.1.who),vI (a0.1.sort),vI (a0.2)] (_::_::_::_::_::_::_) (cs:=[_,_,_]) rfl rfl (se (rr (sp 1 [(56,vS b4 (dn.map mkD).length b6)] (sd (dnb 57 0 0 f0 [vI (a0.1.who),vI (a0.1.sort),vI (a0.2)]) (sS (sbs 58 61 1 #[vI (a0.1.who),vI (a0.1.sort),vI (a0.2)] (fun q6=>(sS (BC (d:=59) (x:=(.tmp 56)) (y:=(.tmp 58)) (T:=53) (T':=53) (E:=61) (E':=61) (sz:=3) (bs:=24) (z:=.agg #[vI (0),vI (0),vI (0)]) (cell:=CX) (xs:=dn.map mkD) (ys:=[(⟨a0.1.who,a0.1.sort,a0.2⟩:Debt)]) (Ms:=b2) (ty:=53) (gd:=none) (by kernel_rfl) rfl (by kernel_rfl) (by kernel_rfl) (by kernel_rfl) (by kernel_rfl) (by kernel_rfl) (by decide) (by kernel_rfl) rfl rfl (c3) (PU (PU (PU (PU (PU (PU (PU (PO _ _ _)))))))) (OS _) (EM 0 rfl rfl) (by first | omega | (simp only [LC,LN];omega)) (fun r2 e8 g2=>(AX (M':=((bX f0 #[vI (a0.1.who),vI (a0.1.sort),vI (a0.2)] 61)::(d9,Obj.mapIter (some b3) a9 h0 a9)::(D,Obj.deferred (some []))::(bX b5 #[.map (some b3)] 118)::(b3,Obj.map c5 a9)::(bX b1 #[vI (L.places),vI (L.sorts),vS a3 L.start.length a4,vS a5 L.keeps.length a6,vS a7 L.slips.length a8] 26)::(e8++(Mr2++F)))) (fun w h=>(h.perm (PW (PW (PW (PW (PW (PW PM))))))).sub (TC _ (TR _))) ?_)))))))))))))))))))));obtain ⟨g6,g7,m3,p3⟩:=g2.shape;subst m3;refine sp 1 [(7,vS g6 ((dn.map mkD)++([(⟨a0.1.who,a0.1.sort,a0.2⟩:Debt)])).length g7)] (ee (NB ?_));refine AN ((h4++h5).length) (tookK_len d8) ?_;intro a w hS hD hW;exact ⟨dn++[a0],h4++h5,vS g6 ((dn.map mkD)++([(⟨a0.1.who,a0.1.sort,a0.2⟩:Debt)])).length g7,e8,h0,OB i0 d8,(by rw [List.map_append];exact g2),f7,hS.sub (.consE 7 rfl rfl (.cons 2 rfl (.cons 3 rfl (.cons 48 rfl (.nil _))))),hD,(hW.perm (PC _ (PC _ (PC _ (PC _ (PC _ (PC _ (PO _ _ _)))))))).sub (TC _ (TR _)),rfl⟩
 intro D c xs I2 M2 hle2 hS2;exact hS2.elim
noncomputable def c_Total (p:List Nat):Code:=sub (AP Tryz.f45) p
theorem Total_ct (I:Imm) (l:Value) (L:Lin) (sx:Int) (n:Int) (l_f:IsLin I l L):Ct Tryz.prog 45 #[l,vI sx,vI n] I ([]) (fun v I' M'=>v=.tuple #[vI ((EX L sx n).1),vI ((EX L sx n).2)]∧M'=[]):=by
 obtain ⟨l1,l2,l3,j3,b7,b8,b9⟩:=id l_f;subst j3;obtain ⟨a3,a4,h7,i0,h5,d9,h8,h9,i1,i2⟩:=id b7;subst d9;obtain ⟨a5,a6,i3,i6,e0,i4,i5,i7⟩:=id b8;subst e0;obtain ⟨a7,a8,i8,j1,e1,i9,j0,j2⟩:=id b9;subst e1;refine fr (args:=[_,_,_]) (N:=48) Tryz.func45 (fun F=>?_);show Run _ _ (c_Total []) _ _ [(0,.agg #[vI (L.places),vI (L.sorts),vS a3 L.start.length a4,vS a5 L.keeps.length a6,vS a7 L.slips.length a8]),(1,vI (sx)),(2,vI (n))] _ _;refine rnm (rqr ?_);refine sS (sb 3 26 #[vI (L.places),vI (L.sorts),vS a3 L.start.length a4,vS a5 L.keeps.length a6,vS a7 L.slips.length a8] (fun b1=>(sp 2 [(7,vI (0)),(6,vI (0))] (se (rq (rqr (sd (dnb 12 0 0 b1 [vI (L.places),vI (L.sorts),vS a3 L.start.length a4,vS a5 L.keeps.length a6,vS a7 L.slips.length a8]) (sd (dc 13 (fun I' hI=>(IX I' _ (L) ((GF b7 b8 b9).mono hI) :))) (sp 1 [(8,vI ((AU L)))] (sn (sp 2 [(15,.bool (!(cmp .eql ((AU L)) (0))))] (se (rc 15 rfl (fun h1=>?_) (fun h1=>?_))))))))))))))
 ·
  have d2:=h1;have h1:=BW (CS h1);refine rqr (sp 3 [(7,vI ((AU L))),(6,vI (0))] (se (BL ((RP ?_)))));have hE:=totalE_1 (L:=L) (so:=sx) (hour:=n) h1;refine CE (t:=6) (u:=7) [] (by kernel_rfl) rfl rfl (TC _ (TR _)) (IR _) ?_;exact ⟨(by rw [hE]),rfl⟩
 have d2:=h1;have h1:=BX (CR h1);refine AQ (NX (rq (rb 0 (rq ?_))));have hz:AU L=0:=by omega
 have hg:=LB hz;have j8:=hg.places;have j9:=hg.sorts;refine rr (sp 2 [(19,vP b1 1),(18,vI (sx))] (sd (dlb 20 0 1 b1 (vI (L.sorts))) (sd (dsb 21 (L.sorts) (1)) (sd (dc 22 (fun I' hI=>(JM I' (sx) (0) (L.sorts-1) :))) (sp 2 [(17,.bool (!(inB sx 0 (L.sorts-1))))] (se (rc 17 rfl (fun h2=>?_) (fun h2=>?_))))))))
 ·
  have d4:=h2;have h2:=CS h2;have d3:=KL h2;refine rqr (sp 2 [(7,vI (3)),(6,vI (0))] (se (BL ((RB (RP ?_))))));have hE:=totalE_2 (L:=L) (so:=sx) (hour:=n) (by omega) h2;refine CE (t:=6) (u:=7) [] (by kernel_rfl) rfl rfl (TC _ (TR _)) (IR _) ?_;exact ⟨(by rw [hE]),rfl⟩
 have d4:=h2;have h2:=CR h2;have d3:=EJ h2;refine rqr (sp 1 [(25,vI (n))] (sd (dc 26 (fun I' hI=>(JM I' (n) (0) (200) :))) (sp 2 [(24,.bool (!(inB n 0 200)))] (se (rc 24 rfl (fun h3=>?_) (fun h3=>?_))))))
 ·
  have d6:=h3;have h3:=CS h3;have d5:=KL h3;refine rqr (sp 2 [(7,vI (1)),(6,vI (0))] (se (BL ((RB (RP ?_))))));have hE:=totalE_3 (L:=L) (so:=sx) (hour:=n) (by omega) h2 h3;refine CE (t:=6) (u:=7) [] (by kernel_rfl) rfl rfl (TC _ (TR _)) (IR _) ?_;exact ⟨(by rw [hE]),rfl⟩
 have d6:=h3;have h3:=CR h3;have d5:=EJ h3;refine AQ (NB (NX (rqr (sp 1 [(9,vI (0))] (se (rq (rqr (sd (dnb 28 0 0 b1 [vI (L.places),vI (L.sorts),vS a3 L.start.length a4,vS a5 L.keeps.length a6,vS a7 L.slips.length a8]) (sp 1 [(29,vI (n))] (sS (sc (some 30) (at_ct _ _ (L) (n) (GF b7 b8 b9) (by assumption) :) (.refl _) (fun j5 I3 j4 d8 h6=>?_))))))))))));obtain ⟨u8,k0,j6,j7,e3,b6,a9,h0,g9,e2,b2⟩:=h6;rw [h0,g9];clear h0 g9;have g6:=e2;obtain ⟨g7,c1,c3,c5⟩:=id g6;obtain ⟨e4,e6,e5,e9,d0,c0,e7,e8,f0,f1⟩:=id c1;subst c0;obtain ⟨f2,f4,f3,f7,c2,f5,f6,f8⟩:=id c3;subst c2;obtain ⟨f9,g1,g0,g4,c4,g2,g3,g5⟩:=id c5;subst c4;refine nm ?_;refine sp 1 [(31,vP u8 0)] (sd (AZ (x:=(.tmp 31)) (T:=134) (k:=1) (o:=5) (d:=32) (ty:=0) (gd:=none) (by kernel_rfl) rfl (by kernel_rfl) rfl) (sd (BA (v:=.map (some e3)) (x:=(.tmp 32)) (T:=132) (d:=33) (ty:=132) (gd:=none) (by kernel_rfl) rfl (by kernel_rfl) rfl (AS g7 rfl)) (sS (NF (d:=34) (x:=(.tmp 33)) (T:=132) (kt:=136) (et:=3) (es:=b6) (cl:=a9) (ty:=0) (gd:=none) (by kernel_rfl) rfl (by kernel_rfl) rfl (.inl (List.mem_of_getElem? (i:=0) rfl)) (fun g8=>(se (rb 1 ?_)))))));refine rl (fun mz a w=>∃ dn:Hs,∃ td:Hs,∃ a2:Array Nat,((dn++td).Perm (atH L n))∧(Go.Sl.Left KC b6 a2 (intV td))∧Slots 48 [(9,vI (JE sx dn)),(1,vI (sx)),(6,vI (0)),(7,vI (0)),(34,vP g8 0)] a∧a.defers=[]∧St I3 ((g8,Obj.mapIter (some e3) a9 a2 a9)::(e3,Obj.map b6 a9)::(bX b1 #[vI (L.places),vI (L.sorts),vS a3 L.start.length a4,vS a5 L.keeps.length a6,vS a7 L.slips.length a8] 26)::F) w∧mz=td.length) ?_ ?_
 ·intro a w hS hD hW;exact ⟨_,[],(atH L n),#[],PR _,(Left.start b2.1.1),hS.sub (.cons 9 rfl (.cons 1 rfl (.cons 6 rfl (.cons 7 rfl (.cons 34 rfl (.nil _)))))),hD,hW,rfl⟩
 rintro mz a w ⟨dn,td,a2,c9,b0,hS,hD,hW,rfl⟩
 refine AR hS hD hW ?_;clear hS hD hW a w;refine rqr (sS (stp_nextH (d:=35) (x:=(.tmp 34)) (todo:=td) 0 (ty:=0) (gd:=none) (by kernel_rfl) rfl rfl rfl (.inl (List.mem_of_getElem? (i:=1) rfl)) b2.1.2 b0 (fun c7=>?_) (fun b3 a0 b4 c8 a1 b5 c6=>?_)))
 ·
  refine sp 1 [(36,.bool (false))] (se (rq (rcf 36 rfl (CB 1 ((EP (EP (EB (NX (rqr (sp 3 [(7,vI (0)),(6,vI (JE sx dn))] (se (BL ?_)))))))))))));have hE:=totalE_4 hz h2 h3;have hS:=sumK_done (so:=sx) c9 c7;refine CE (t:=6) (u:=7) [] (by kernel_rfl) rfl rfl (TC _ (TC _ (TC _ (TR _)))) d8 ?_;exact ⟨(by rw [hE,hS]),rfl⟩
 show Seq _ _ _ _ _ _ ((35,.tuple #[.bool (true),.agg #[vI (a0.1.pl),vI (a0.1.so),.bool (a0.1.soil)],vI (a0.2)])::_) _ _;refine nm ?_;refine sp 1 [(36,.bool (true))] (se (rq (rct 36 rfl (AQ (NX (rb 2 (rqr (sS (ND (d:=37) (x:=(.tmp 34)) (enc:=KC) (y:=(a0.1,vI a0.2)) (ty:=0) (gd:=none) (by kernel_rfl) rfl rfl (List.mem_of_getElem? (i:=0) rfl) (.inl (List.mem_of_getElem? (i:=1) rfl)) b2.1.2 c6 ?_)))))))));show Seq _ _ _ _ _ _ ((37,.tuple #[.agg #[vI (a0.1.pl),vI (a0.1.so),.bool (a0.1.soil)],vI (a0.2)])::_) _ _;refine sp 2 [(39,vI (a0.2)),(38,.agg #[vI (a0.1.pl),vI (a0.1.so),.bool (a0.1.soil)])] (sS (sal 10 136 #[vI (0),vI (0),.bool (false)] (fun d1=>(sS (ss 0 0 d1 [vI (a0.1.pl),vI (a0.1.so),.bool (a0.1.soil)] [vI (a0.1.pl),vI (a0.1.so),.bool (a0.1.soil)] (_::_::_::_::_) (cs:=[_,_,_]) rfl rfl (sp 1 [(11,vI (a0.2))] (sn (sp 1 [(40,vP d1 1)] (sd (dlb 41 0 1 d1 (vI (a0.1.so))) (sp 2 [(43,.bool (cmp .eql (a0.1.so) (sx)))] (se (rc 43 rfl (fun h4=>?_) (fun h4=>?_)))))))))))))
 ·
  have d7:=h4;have h4:=BX h4;have hq:=sum_cut (so:=sx) hg b2.2 c9 a1;refine rr (sp 2 [(45,vI (a0.2)),(44,vI (JE sx dn))] (sd (da 46 (JE sx dn) (a0.2)) (sp 1 [(9,vI ((JE sx dn)+a0.2))] (ee (NB ?_)))));refine AN ((b3++b4).length) (PT a1) ?_;intro a w hS hD hW;exact ⟨dn++[a0],b3++b4,c8,MZ c9 a1,b5,hS.sub (.consE 9 rfl (congrArg (Value.int .i64) (by rw [sumK_snoc,if_pos (by omega)])) (.cons 1 rfl (.cons 6 rfl (.cons 7 rfl (.cons 34 rfl (.nil _)))))),hD,(hW.perm (PR _)).sub (TC _ (TR _)),rfl⟩
 have d7:=h4;have h4:=BW h4;refine AQ (NB ?_);refine AN ((b3++b4).length) (PT a1) ?_;intro a w hS hD hW;exact ⟨dn++[a0],b3++b4,c8,MZ c9 a1,b5,hS.sub (.consE 9 rfl (congrArg (Value.int .i64) (by rw [sumK_snoc,if_neg (by omega)];omega)) (.cons 1 rfl (.cons 6 rfl (.cons 7 rfl (.cons 34 rfl (.nil _)))))),hD,(hW.perm (PR _)).sub (TC _ (TR _)),rfl⟩
end Go.Proofs.YtgcemienebmdeaaGreat
namespace Go.Sh
open Go Go.Sl
def gAt (cs:List Car) (i:Nat):Int:=(cs.getD i noCar).grp
structure CarsInv (cs:List Car) (g l:Int):Prop where
  ok:∀ c∈cs,carErr c=0∧c.len≤3
  le:∀ i,i<cs.length→gAt cs i≤g
  run:∀ i j,i≤j→j<cs.length→gAt cs i=gAt cs j→gAt cs i≠0→∀ m,i≤m→m≤j→gAt cs m=gAt cs i
  g0:0≤g∧g≤3
  l0:0≤l∧l≤2
  last:0<l→1≤g∧(0<cs.length→gAt cs (cs.length-1)=g∨∀ i,i<cs.length→gAt cs i<g)
theorem CarsInv.nil:CarsInv [] 0 0:=⟨fun c h=>by simp at h,fun i h=>by simp at h,fun i j _ h=>by simp at h,by omega,by omega,fun h=>by omega⟩
structure Placed (cs:List Car) (T k a:Nat) (ts:List (List Int)):Prop where
  len:ts.length=T
  a0:a<T
  perm:ts.flatten.Perm (CH k)
  ex:∃ tr:Nat→Nat,(∀ i,i<T→ts.getD i []=(CH k).filter fun c=>decide (tr c.toNat=i))∧(∀ c,c<k→tr c<T)∧(∀ c,c+1<k→gAt cs (c+1)≠0→gAt cs (c+1)=gAt cs c→tr (c+1)=tr c)∧(0<k→tr (k-1)=a)
theorem mem_wholeL {n:Nat} {c:Int}:c∈CH n↔0≤c∧c<n:=by
  unfold CH;simp only [List.mem_map,List.mem_range]
  constructor
  · rintro ⟨i,hi,rfl⟩;omega
  · intro h;exact ⟨c.toNat,by omega,by omega⟩
theorem Placed.start {cs:List Car} {T:Nat} (hT:0<T):Placed cs T 0 0 (List.replicate T []):=by
  refine ⟨by simp,hT,by simp [CH],fun _=>0,fun i hi=>?_,fun c h=>by omega,fun c h=>by omega,fun h=>by omega⟩;simp [CH,List.getD,hi]
theorem sorted_prev {l:List Int} (hs:l.Pairwise (·<·)) {j:Nat} (hj:j<l.length) (hm:l.getD j 0-1∈l):0<j∧l.getD (j-1) 0=l.getD j 0-1:=by
  obtain ⟨m,hm1,hm2⟩:=List.mem_iff_getElem.1 hm;have hlt:∀ (x y:Nat) (hx:x<l.length) (hy:y<l.length),x<y→l.getD x 0<l.getD y 0:=fun x y hx hy h=>by
    have:=List.pairwise_iff_getElem.1 hs x y hx hy h
    simpa [List.getD,hx,hy] using this
  have e:l.getD m 0=l.getD j 0-1:=by simpa [List.getD,hm1] using hm2
  have h1:m<j:=by
    rcases Nat.lt_trichotomy m j with h | h | h
    · exact h
    · subst h;omega
    · have:=hlt j m hj hm1 h;omega
  rcases Nat.lt_or_ge m (j-1) with h2 | h2
  · have a:=hlt m (j-1) hm1 (by omega) h2
    have b:=hlt (j-1) j (by omega) hj (by omega);omega
  · have:m=j-1:=by omega
    subst this;exact ⟨by omega,e⟩
theorem wholeL_sorted (n:Nat):(CH n).Pairwise (·<·):=by
  unfold CH;rw [List.pairwise_map];exact List.pairwise_lt_range.imp fun h=>by omega
theorem Placed.groups {cs:List Car} {T a:Nat} {ts:List (List Int)} {g l:Int} (h:Placed cs T cs.length a ts) (hc:CarsInv cs g l):GrpFrom cs ts []:=by
  obtain ⟨tr,t1,t2,t3,t4⟩:=h.ex;have hmem:∀ i,i<T→∀ c,c∈ts.getD i []↔(0≤c∧c<cs.length)∧tr c.toNat=i:=fun i hi c=>by
    rw [t1 i hi,List.mem_filter,mem_wholeL,decide_eq_true_eq]
  have hgrp:∀ c:Int,grp cs c=gAt cs c.toNat:=fun c=>rfl
  have hrun:∀ n x:Nat,x+n<cs.length→gAt cs x≠0→gAt cs x=gAt cs (x+n)→tr (x+n)=tr x:=by
    intro n
    induction n with
    | zero=>intro x _ _ _;rfl
    | succ n ih=>
      intro x hx h0 e;have e1:gAt cs (x+n)=gAt cs x:=hc.run x (x+(n+1)) (by omega) hx e h0 (x+n) (by omega) (by omega);have:=ih x (by omega) h0 e1.symm;rw [← this];exact t3 (x+n) (by omega) (by rw [show x+n+1=x+(n+1) by omega,← e];exact h0) (by rw [show x+n+1=x+(n+1) by omega,← e,e1])
  have hrun2:∀ x y:Nat,x<cs.length→y<cs.length→gAt cs x≠0→gAt cs x=gAt cs y→tr x=tr y:=fun x y hx hy h0 e=>by
    rcases Nat.le_total x y with hxy | hxy
    · have:=hrun (y-x) x (by omega) h0 (by rw [show x+(y-x)=y by omega];exact e)
      rw [show x+(y-x)=y by omega] at this;exact this.symm
    · have:=hrun (x-y) y (by omega) (by rw [← e];exact h0) (by rw [show y+(x-y)=x by omega];exact e.symm)
      rw [show y+(x-y)=x by omega] at this;exact this
  intro i j hi hj h0 hm;rw [h.len] at hi;have hcm:(ts.getD i []).getD j 0∈ts.getD i []:=AV hj;obtain ⟨⟨c0,c1⟩,c2⟩:=(hmem i hi _).1 hcm
  generalize hcc:(ts.getD i []).getD j 0=c at hcm c0 c1 c2 h0 hm
  rcases hm with hm | ⟨c',hc',e⟩
  · simp at hm
  · rw [hgrp,hgrp] at e
    rw [hgrp] at h0;have hs:(ts.getD i []).Pairwise (·<·):=by rw [t1 i hi];exact (wholeL_sorted _).sublist List.filter_sublist
    have hc2:(0≤c'∧c'<cs.length)∧(tr c'.toNat<i∨c'∈(ts.getD i []).take j):=by
      rcases List.mem_append.1 hc' with hx | hx
      · obtain ⟨t,ht,hx⟩:=List.mem_flatten.1 hx
        obtain ⟨m,hm1,hm2⟩:=List.mem_iff_getElem.1 ht;have hm3:m<i∧m<ts.length:=by rw [List.length_take] at hm1;omega
        have e3:ts.getD m []=t:=by rw [← hm2];simp [List.getD,hm3.2]
        rw [← e3] at hx;obtain ⟨hb,ht2⟩:=(hmem m (by rw [← h.len];exact hm3.2) _).1 hx;exact ⟨hb,.inl (by omega)⟩
      · exact ⟨((hmem i hi _).1 (List.mem_of_mem_take hx)).1,.inr hx⟩
    obtain ⟨⟨d0,d1⟩,hd⟩:=hc2;have htr:=hrun2 c.toNat c'.toNat (by omega) (by omega) (by omega) e.symm;rcases hd with hd | hd
    · omega
    · obtain ⟨m,hm1,hm2⟩:=List.mem_iff_getElem.1 hd
      have hm3:m<j∧m<(ts.getD i []).length:=by rw [List.length_take] at hm1;omega
      have hlt:c'<c:=by
        have h1:=List.pairwise_iff_getElem.1 hs m j hm3.2 hj hm3.1;have e1:c'=(ts.getD i [])[m]:=by rw [← hm2];simp
        have e2:c=(ts.getD i [])[j]:=by rw [← hcc,List.getD,List.getElem?_eq_getElem hj];rfl
        rw [e1,e2];exact h1
      have e4:gAt cs (c.toNat-1)=gAt cs c'.toNat:=hc.run c'.toNat c.toNat (by omega) (by omega) e (by omega) (c.toNat-1) (by omega) (by omega);have e5:tr (c.toNat-1)=i:=by
        have:=hrun2 (c.toNat-1) c.toNat (by omega) (by omega) (by omega) (by omega);omega
      have hin:c-1∈ts.getD i []:=(hmem i hi _).2 ⟨by omega,by rw [show (c-1).toNat=c.toNat-1 by omega];exact e5⟩;have hp:=sorted_prev hs hj (by rw [hcc];exact hin);rw [hcc] at hp;unfold DE;have e6:((j:Int)-1).toNat=j-1:=by omega
      rw [show (↑j:Int).toNat=j by omega,e6,hp.2,hcc];have e7:inB ↑j 1 (↑(ts.getD i []).length-1)=true:=by simp only [inB,Bool.and_eq_true,decide_eq_true_eq];omega
      rw [e7];have e8:(KG cs c).grp=(KG cs (c-1)).grp:=by
        show gAt cs c.toNat=gAt cs (c-1).toNat;rw [show (c-1).toNat=c.toNat-1 by omega];omega
      rw [decide_eq_true (show 0<(KG cs c).grp from h0),decide_eq_true e8];rfl
structure Roomy (cs:List Car) (ts:List (List Int)) (k:Nat) (rm:List Int):Prop where
  len:rm.length=k
  ok:∀ n∈rm,0≤n∧n≤20
  fits:∀ i,i<k→lenOf cs (ts.getD i [])≤rm.getD i 0
theorem Roomy.nil (cs:List Car) (ts:List (List Int)):Roomy cs ts 0 []:=⟨rfl,fun n h=>by simp at h,fun i h=>by omega⟩
theorem Placed.tracks {cs:List Car} {T k a:Nat} {ts:List (List Int)} (h:Placed cs T k a ts):ts.flatten.length=k:=by rw [h.perm.length_eq,DX]
theorem perm_sum {l m:List Int} (h:l.Perm m):l.sum=m.sum:=by
  induction h with
  | nil=>rfl
  | cons x _ ih=>simp [ih]
  | swap x y l=>simp only [List.sum_cons];omega
  | trans _ _ h1 h2=>exact h1.trans h2
theorem erase_perm {α:Type} {d:α} {l:List α} {i:Nat} (h:i<l.length):(l.getD i d::l.eraseIdx i).Perm l:=by
  have e:l=l.take i++l.getD i d::l.drop (i+1):=by rw [← MH h,List.take_append_drop]
  rw [← erase_take];exact (List.perm_middle.symm).trans (List.Perm.of_eq e.symm)
structure Blk (cs:List Car) (bl:List (List Int)):Prop where
  one:∀ b∈bl,∀ x∈b,∀ y∈b,grp cs x=grp cs y
  apart:bl.Pairwise fun b c=>∀ x∈b,∀ y∈c,0<grp cs x→grp cs x≠grp cs y
theorem Blk.perm {cs:List Car} {bl bl':List (List Int)} (h:Blk cs bl) (p:bl.Perm bl'):Blk cs bl':=
  ⟨fun b hb=>h.one b (p.mem_iff.2 hb),(p.pairwise_iff (fun {b c} hbc x hx y hy h0 e=>hbc y hy x hx (by omega) e.symm)).1 h.apart⟩
def RowOk (cs:List Car) (t:List Int):Prop:=∀ k,k<t.length→0<grp cs (t.getD k 0)→(∃ c∈t.take k,grp cs c=grp cs (t.getD k 0))→0<k∧grp cs (t.getD (k-1) 0)=grp cs (t.getD k 0)
theorem PL {a b:List Int} {k:Nat}:(a++b).getD k 0=if k<a.length then a.getD k 0 else b.getD (k-a.length) 0:=by
  simp only [List.getD]
  split
  · rename_i h;rw [List.getElem?_append_left h]
  · rename_i h;rw [List.getElem?_append_right (by omega)]
theorem Blk.row {cs:List Car}:∀ {bl:List (List Int)},Blk cs bl→RowOk cs bl.flatten:=by
  intro bl
  induction bl with
  | nil=>intro _ k hk;simp at hk
  | cons b r ih=>
    intro h k hk h0 hc;have ih:=ih ⟨fun b hb=>h.one b (List.mem_cons_of_mem _ hb),(List.pairwise_cons.1 h.apart).2⟩;rw [List.flatten_cons] at hk h0 hc ⊢;obtain ⟨c,hc,e⟩:=hc
    by_cases hkb:k<b.length
    · have e0:(b++r.flatten).getD k 0=b.getD k 0:=by rw [PL,if_pos hkb]
      rw [List.take_append_of_le_length (by omega)] at hc;have hk0:0<k:=by
        rcases Nat.eq_zero_or_pos k with hz | hz
        · subst hz;simp at hc
        · exact hz
      refine ⟨hk0,?_⟩;rw [e0,PL,if_pos (by omega)];exact h.one b List.mem_cons_self _ (AV (by omega)) _ (AV hkb)
    · have e0:(b++r.flatten).getD k 0=r.flatten.getD (k-b.length) 0:=by rw [PL,if_neg hkb]
      rw [e0] at h0 e ⊢;have hk2:k-b.length<r.flatten.length:=by rw [List.length_append] at hk;omega
      have hmem:r.flatten.getD (k-b.length) 0∈r.flatten:=AV hk2;rw [List.take_append,List.take_of_length_le (by omega)] at hc;rcases List.mem_append.1 hc with hc | hc
      · exfalso
        obtain ⟨b2,hb2,hm2⟩:=List.mem_flatten.1 hmem;exact (List.pairwise_cons.1 h.apart).1 b2 hb2 c hc _ hm2 (by omega) e
      · obtain ⟨i1,i2⟩:=ih (k-b.length) hk2 h0 ⟨c,hc,e⟩
        refine ⟨by omega,?_⟩;rw [PL,if_neg (by omega),show k-1-b.length=k-b.length-1 by omega];exact i2
theorem coupled_of {cs:List Car} {t:List Int} {k:Nat} (hk:k<t.length) (h0:0<grp cs (t.getD k 0)) (h1:0<k) (e:grp cs (t.getD (k-1) 0)=grp cs (t.getD k 0)):DE cs t ↑k=true:=by
  rw [coupled_raw hk,show ((k:Int)-1).toNat=k-1 by omega,decide_eq_true (show 0<(k:Int) by omega),decide_eq_true (show 0<(KG cs (t.getD k 0)).grp from h0),decide_eq_true (show (KG cs (t.getD k 0)).grp=(KG cs (t.getD (k-1) 0)).grp from e.symm)];rfl
theorem coupled_to {cs:List Car} {t:List Int} {k:Nat} (hk:k<t.length) (h:DE cs t ↑k=true):0<k∧0<grp cs (t.getD k 0)∧grp cs (t.getD k 0)=grp cs (t.getD (k-1) 0):=by
  rw [coupled_raw hk,show ((k:Int)-1).toNat=k-1 by omega] at h;simp only [Bool.and_eq_true,decide_eq_true_eq] at h;exact ⟨by omega,h.2.1,h.2.2⟩
theorem blocks_blk {cs : List Car} {t : List Int} (h : ∀ k, k < t.length → 0 < grp cs (t.getD k 0) → (∃ c ∈ t.take k, grp cs c = grp cs (t.getD k 0)) → DE cs t ↑k = true) :
    ∀ k,k≤t.length→Blk cs (BK cs t k)∧(0<k→∃ ys y,BK cs t k=ys++[y]∧t.getD (k-1) 0∈y):=by
  intro k
  induction k with
  | zero=>intro _;exact ⟨⟨fun b hb=>by simp [BK] at hb,by simp [BK]⟩,fun h=>by omega⟩
  | succ k ih=>
    intro hk;obtain ⟨hb,hl⟩:=ih (by omega)
    by_cases hc:DE cs t ↑k=true
    · obtain ⟨c1,c2,c3⟩:=coupled_to (by omega) hc
      obtain ⟨ys,y,e,hy⟩:=hl c1;have e2:BK cs t (k+1)=ys++[y++[t.getD k 0]]:=by
        rw [blocksTo_yes hc,e];simp [List.getD]
      rw [e2];rw [e] at hb;have ho:=hb.one;have ha:=List.pairwise_append.1 hb.apart;refine ⟨⟨fun b hb2=>?_,List.pairwise_append.2 ⟨ha.1,by simp,fun b hb2 c hc2=>?_⟩⟩,fun _=>⟨ys,_,rfl,by simp⟩⟩
      · rcases List.mem_append.1 hb2 with hb2 | hb2
        · exact ho b (List.mem_append_left _ hb2)
        · have hb2:=List.mem_singleton.1 hb2
          subst hb2;have key:∀ x∈y++[t.getD k 0],grp cs x=grp cs (t.getD (k-1) 0):=fun x hx=>by
            rcases List.mem_append.1 hx with hx | hx
            · exact ho y (by simp) x hx _ hy
            · have hx:=List.mem_singleton.1 hx;subst hx;exact c3
          intro x hx z hz;rw [key x hx,key z hz]
      · have hc2:=List.mem_singleton.1 hc2
        subst hc2;intro x hx z hz h0;rcases List.mem_append.1 hz with hz | hz
        · exact ha.2.2 b hb2 y (by simp) x hx z hz h0
        · have hz:=List.mem_singleton.1 hz;subst hz
          rw [c3];exact ha.2.2 b hb2 y (by simp) x hx _ hy h0
    · have hc':DE cs t ↑k=false:=by simpa using hc
      rw [blocksTo_no hc'];refine ⟨⟨fun b hb2=>?_,List.pairwise_append.2 ⟨hb.apart,by simp,fun b hb2 c hc2=>?_⟩⟩,fun _=>⟨_,_,rfl,by simp⟩⟩
      · rcases List.mem_append.1 hb2 with hb2 | hb2
        · exact hb.one b hb2
        · have hb2:=List.mem_singleton.1 hb2
          subst hb2;intro x hx z hz;rw [List.mem_singleton.1 hx,List.mem_singleton.1 hz]
      · have hc2:=List.mem_singleton.1 hc2
        subst hc2;intro x hx z hz h0 e;have hz:=List.mem_singleton.1 hz;subst hz;refine hc (h k (by omega) (by omega) ⟨x,?_,e⟩);rw [← MF k (by omega)];exact List.mem_flatten.2 ⟨b,hb2,hx⟩
theorem rowsN_perm:∀ (n:Nat) (bl:List (List Int)),bl.length=n→∀ x∈rowsN n bl,∃ bl':List (List Int),bl'.Perm bl∧x=bl'.flatten:=by
  intro n
  induction n with
  | zero=>intro bl h x hx;simp [rowsN,ordN] at hx;subst hx;exact ⟨[],by rw [List.length_eq_zero_iff.1 h],rfl⟩
  | succ n ih=>
    intro bl h x hx;simp only [rowsN,ordN,ordFrom,List.mem_flatMap,List.mem_map] at hx;obtain ⟨i,hi,y,hy,rfl⟩:=hx;have hi:=List.mem_range'_1.1 hi;obtain ⟨bl',hp,rfl⟩:=ih _ (erase_len (k:=i) (by omega) h) y hy;refine ⟨bl.getD i []::bl',?_,rfl⟩;refine (List.Perm.cons _ hp).trans ?_;have hb:i<bl.length:=by omega
    exact erase_perm hb
theorem Fine.row {Y:Yard} (f:Fine Y) {r:List Int} (hr:r∈rowsN (HZ Y.cars (trk Y 0)).length (HZ Y.cars (trk Y 0))):Valid { Y with tracks:=Y.tracks.set 0 r }∧r.Perm (trk Y 0):=by
  have hlen:=f.len;have hr1:=f.room1;obtain ⟨t,ts,ht⟩:∃ t ts,Y.tracks=t::ts:=by
    cases hh:Y.tracks with
    | nil=>rw [hh] at hlen;simp at hlen;omega
    | cons t ts=>exact ⟨t,ts,rfl⟩
  have ht0:trk Y 0=t:=by show Y.tracks.getD 0 []=t;rw [ht];rfl
  rw [ht0] at hr ⊢;have hg:=groups_iff.1 f.groups;have hrow:∀ k,k<t.length→0<grp Y.cars (t.getD k 0)→(∃ c∈t.take k,grp Y.cars c=grp Y.cars (t.getD k 0))→DE Y.cars t ↑k=true:=fun k hk h0 hc=>by
    have:=hg 0 k (by rw [ht];simp) (by rw [ht];simpa using hk) (by rw [ht];simpa using h0) (.inr (by rw [ht];simpa using hc));rw [ht] at this;simpa using this
  obtain ⟨hb,_⟩:=blocks_blk hrow t.length (Nat.le_refl _);obtain ⟨bl',hp,rfl⟩:=rowsN_perm _ _ rfl r hr;have hflat:(HZ Y.cars t).flatten=t:=by
    have:=MF (cs:=Y.cars) (t:=t) t.length (Nat.le_refl _);rw [List.take_length] at this;exact this
  have hperm:bl'.flatten.Perm t:=by
    have:=hp.flatten;rw [hflat] at this;exact this
  have hrok:=(Blk.perm hb hp.symm).row;refine ⟨Fine.valid ⟨f.cars,f.carOk,f.room1,f.room3,f.roomOk,by rw [List.length_set];exact f.len,?_,?_,?_,?_,?_⟩,hperm⟩
  all_goals simp only [ht,List.set_cons_zero]
  · intro x hx c hc
    have hok:=f.ok;rw [ht] at hok;rcases List.mem_cons.1 hx with e | hx
    · subst e;exact hok t List.mem_cons_self c (hperm.mem_iff.1 hc)
    · exact hok x (List.mem_cons_of_mem _ hx) c hc
  · have hn:=f.nodup
    rw [ht] at hn;rw [List.flatten_cons] at hn ⊢;exact (List.Perm.append_right _ hperm).nodup_iff.2 hn
  · intro k hk
    have hf:=f.fits;rw [ht] at hf;cases k with
    | zero=>
      have:=hf 0 (by simp);rw [List.getD_cons_zero] at this ⊢;have e:lenOf Y.cars bl'.flatten=lenOf Y.cars t:=by
        unfold lenOf;exact perm_sum (hperm.map _)
      rw [e];exact this
    | succ k=>simpa using hf (k+1) (by simpa using hk)
  · have ha:=f.all
    rw [ht] at ha;rw [List.flatten_cons,List.length_append] at ha ⊢;rw [hperm.length_eq];exact ha
  · refine groups_iff.2 ?_
    show GrpFrom Y.cars (bl'.flatten::ts) [];intro i k hi hk h0 hm;rcases hm with hm | ⟨c,hc,e⟩
    · simp at hm
    · cases i with
      | zero=>
        simp only [List.getD_cons_zero,List.take_zero,List.flatten_nil,List.nil_append] at hk h0 hc e ⊢;obtain ⟨h1,h2⟩:=hrok k hk h0 ⟨c,hc,e⟩;exact coupled_of hk h0 h1 h2
      | succ i=>
        have:=hg (i+1) k (by rw [ht];simpa using hi) (by rw [ht];simpa using hk) (by rw [ht];simpa using h0) (.inr ⟨c,by
          rw [ht]
          simp only [List.take_succ_cons,List.flatten_cons,List.getD_cons_succ,List.mem_append] at hc ⊢
          rcases hc with (hc | hc) | hc
          · exact .inl (.inl (hperm.mem_iff.1 hc))
          · exact .inl (.inr hc)
          · exact .inr hc,by rw [ht];simpa using e⟩)
        rw [ht] at this;simpa using this
section
variable {Y:Yard} {k:Nat}
end
section
variable {Y:Yard} {s:Shift} {k:Nat}
end
section
variable {Y:Yard} {goal:Yard→Bool} {d k:Nat} {ds:List Shift}
end
theorem deal_put {n k:Nat} (hk:k<n):(CH k++List.replicate (n-k) (0:Int)).set k (k:Int)=CH (k+1)++List.replicate (n-(k+1)) 0:=by
  rw [List.set_append_right _ _ (by rw [DX];omega),DX,Nat.sub_self,show n-k=(n-(k+1))+1 by omega,List.replicate_succ,List.set_cons_zero,wholeL_succ];simp
theorem swap_perm {l:List Int} {i j:Nat} (hi:i<l.length) (hj:j<l.length):((l.set i (l.getD j 0)).set j (l.getD i 0)).Perm l:=by
  have e1:l.getD i 0=l[i]:=by simp [List.getD,hi]
  have e2:l.getD j 0=l[j]:=by simp [List.getD,hj]
  rw [e1,e2];exact List.set_set_perm hi hj
end Go.Sh
namespace Go.Sl
open Go
theorem own_val_int {E:TypeId} {v:Value} {M:Seg} {vs:List Value} {ys:List Int} (h:Own E 1 CW v vs M) (he:vs=ys.map fun n=>Value.int .i64 n):Own E 1 AJ v ys M:=by
  have e1:CK 1 CW vs=CK 1 AJ ys:=by
    rw [he,encL_vals];simp only [CK,AJ,List.range_one,List.map_cons,List.map_nil];exact List.map_eq_flatMap
  have e2:vs.length=ys.length:=by rw [he,List.length_map]
  rcases h with ⟨hv,hx,hM⟩ | ⟨b,c,sp,hv,hc,hM,hl⟩
  · refine .inl ⟨hv,?_,hM⟩
    rw [hx] at e2;exact List.length_eq_zero_iff.1 e2.symm
  · exact .inr ⟨b,c,sp,by rw [hv,e2],by rw [← e2];exact hc,by rw [← e1];exact hM,by rw [← e1];exact hl⟩
end Go.Sl
namespace Go.Sh
open Go Go.Sl
def yvD:Value × Value × Value:=(undef,undef,undef)
def YardsV (I:Imm) (xs:List (Value × Value × Value)) (Ys:List Yard):Prop:=xs.length=Ys.length∧∀ i,i<xs.length→IsYard I (.agg #[(xs.getD i yvD).1,(xs.getD i yvD).2.1,(xs.getD i yvD).2.2]) (Ys.getD i noYard)
theorem YardsV.nil (I:Imm):YardsV I [] []:=⟨rfl,fun i hi=>by simp at hi⟩
theorem YardsV.at {I : Imm} {xs : List (Value × Value × Value)} {Ys : List Yard} (h : YardsV I xs Ys) {i : Nat} (hi : i < xs.length) :
    ∃ a b c,xs.getD i yvD=(a,b,c)∧IsCars I a (Ys.getD i noYard).cars∧CF I b (Ys.getD i noYard).room∧IsRows I c (Ys.getD i noYard).tracks:=by
  obtain ⟨v1,v2,v3,h1,h2,h3,h4⟩:=h.2 i hi;simp only [Value.agg.injEq] at h1;have e:=congrArg Array.toList h1;simp only [List.cons.injEq,and_true] at e;refine ⟨v1,v2,v3,?_,h2,h3,h4⟩;rw [← e.1,← e.2.1,← e.2.2]
def RowsS (I:Imm) (vs:List Value) (Ls:List (List Shift)):Prop:=vs.length=Ls.length∧∀ i,i<Ls.length→IsShifts I (vs.getD i undef) (Ls.getD i [])
theorem RowsS.nil (I:Imm):RowsS I [] []:=⟨rfl,fun i hi=>by simp at hi⟩
end Go.Sh
namespace Go.Sl
open Go
end Go.Sl
namespace Go.Sh
open Go Go.Sl
end Go.Sh
namespace Go.Sl
open Go
section
variable {P:Program} {N:Nat} {ops:Array Oper} {i d:Nat} {l:Sl} {I:Imm} {R:Seg} {ty:TypeId} {gd:Option (Nat × Bool)}
theorem det_remT {x y : Operand} {T T' : TypeId} {k : IntKind} {a b : Int} (hop : FP ops N i = some (some d, .binOp .rem T x y T', ty, gd)) (hg : EZ ops l gd = some true)
    (hx:BQ l x=some (.int k a)) (hy:BQ l y=some (.int k b)) (hb:1≤b):Det P N ops i l I R d (.int k (a.tmod b)):=
  det_bin hop hg hx hy fun I' M'=>by
    have hne:b≠0:=by omega
    simp only [binOp,Op.intDiv,ne_eq,not_true_eq_false,if_false,if_neg hne];exact ⟨rfl,rfl⟩
end
theorem tmod_bounds {x:Int} {n:Nat} (hn:2≤n):-(n:Int)<x.tmod n∧x.tmod n<n:=
  ⟨by have:=Int.lt_tmod_of_pos x (show (0:Int)<n by omega);omega,Int.tmod_lt_of_pos x (by omega)⟩
theorem fold_nat {x:Int} {n:Nat} (hn:2≤n):∃ r:Nat,(x.tmod n+n)%(n:Int)=↑r∧r<n:=by
  have h1:=Int.emod_nonneg (x.tmod n+n) (show (n:Int)≠0 by omega);have h2:=Int.emod_lt_of_pos (x.tmod n+n) (show (0:Int)<n by omega);exact ⟨((x.tmod n+n)%(n:Int)).toNat,by omega,by omega⟩
end Go.Sl
namespace Go.Sh
open Go Go.Sl
end Go.Sh
namespace Go.Proofs.YtgcemienebmdeaaGreat
open Go Go.Sl Go.Sh
set_option maxRecDepth 100000
noncomputable def c_Deal (p:List Nat):Code:=sub (AP Tryz.f53) p
theorem Deal_ct (I:Imm) (p:Nat) (p_s:Int) (n:Nat) (hn:n≤1000):Ct Tryz.prog 53 #[vP p 0,vI ↑n] I ([(bX p #[.int .u64 (p_s)] 91)]) (fun v I' M'=>∃ p_t:Int,∃ l:List Int,∃ u:Value,∃ Ms:Seg,v=u∧M'=[(bX p #[.int .u64 (p_t)] 91)]++(Ms)∧(l.Perm (CH n))∧Own 3 1 AJ u (l) Ms):=by
 refine fr (args:=[_,_]) (N:=45) Tryz.func53 (fun F=>?_);show Run _ _ (c_Deal []) _ _ [(0,vP p 0),(1,vI (↑n))] _ _;refine rnm (rqr ?_);refine sp 1 [(4,vN)] (sn (sp 2 [(10,vI ((if (↑n:Int)<(0:Int) then 0 else ↑n)))] (CQ 10 rfl (show (vI ((if (↑n:Int)<(0:Int) then 0 else ↑n)):Value)=vI (↑n) from congrArg (Value.int .i64) (by split <;> omega)) (sS (NE (d:=11) (x:=(.tmp 10)) (T:=29) (E:=3) (bs:=8) (n:=n) (z:=vI (0)) (zv:=vI (0)) (ty:=29) (gd:=none) (by kernel_rfl) rfl (by kernel_rfl) (by kernel_rfl) (by kernel_rfl) rfl (by kernel_rfl) (by decide) rfl (by omega) (fun b1=>?_))))));have d5:Own 3 1 CW (vS (some ⟨b1,0,none⟩) n n) (List.replicate n (vI (0))) [(b1,Obj.cells (List.replicate n (vI (0))).toArray 3 (0,0))]:=Own.made _;obtain ⟨mS4,hmS4⟩:∃ X:Seg,X=[(b1,Obj.cells (List.replicate n (vI (0))).toArray 3 (0,0))]:=⟨_,rfl⟩;rw [← hmS4] at d5;refine AX (I':=I) (M':=((mS4++(bX p #[.int .u64 (p_s)] 91)::F))) (fun w h=>by rw [hmS4];exact h) (pm (M':=((bX p #[.int .u64 (p_s)] 91)::(mS4++F))) PM ?_);have d1:=own_val_int (ys:=List.replicate n (0:Int)) d5 (by rw [List.map_replicate]);refine sp 1 [(5,vS (some ⟨b1,0,none⟩) n n)] (se (rq (rqr (sp 1 [(6,vI (0))] (se (rb 0 ?_))))));refine rl (fun mz a w=>∃ k:Nat,∃ b2:Value,∃ a7:Seg,(k≤n)∧(Own 3 1 AJ b2 ((CH k++List.replicate (n-k) (0:Int))) a7)∧Slots 45 [(5,b2),(6,vI ↑k),(0,vP p 0),(1,vI (↑n)),(4,vN)] a∧a.defers=[]∧St I ((bX p #[.int .u64 (p_s)] 91)::(a7++F)) w∧mz=n-k) ?_ ?_
 ·intro a w hS hD hW;exact ⟨_,0,vS (some ⟨b1,0,none⟩) n n,mS4,Nat.zero_le _,(show Own _ _ _ _ (CH 0++List.replicate (n-0) (0:Int)) _ from d1),hS.sub (.cons 5 rfl (.cons 6 rfl (.cons 0 rfl (.cons 1 rfl (.cons 4 rfl (.nil _)))))),hD,hW,rfl⟩
 rintro mz a w ⟨k,b2,a7,hk,a8,hS,hD,hW,rfl⟩
 refine AR hS hD hW ?_;clear hS hD hW a w;obtain ⟨a5,a6,b4,c6⟩:=a8.shape;subst b4;have d7:=DX k;have e6:(CH k++List.replicate (n-k) (0:Int)).length=n:=by rw [LA,d7,List.length_replicate];omega
 refine rq (rqr (sp 3 [(14,.bool (cmp .lss (↑k) (↑n)))] (se (rc 14 rfl (fun h1=>?_) (fun h1=>?_)))))
 ·
  have c8:=h1;have h1:=CL h1;refine AQ (NX (rq (rb 1 (rr (sp 3 [(19,vI (↑k)),(18,vI (↑k)),(17,vS a5 ((CH k++List.replicate (n-k) (0:Int))).length a6)] ?_)))));obtain ⟨e7,c5⟩:=a8.row 0;refine sd (di 20 1 (k) c5.addr) (sS (BB (T:=3) (x:=(.tmp 20)) (y:=(.tmp 19)) (rc:=fun i f=>AJ (((CH k++List.replicate (n-k) (0:Int))).getD i 0) f) 0 (k) 0 (↑k) (ty:=0) (gd:=none) (by kernel_rfl) rfl a8 c5 (by omega) (by decide) rfl rfl (by kernel_rfl) rfl rfl (by intro f hf;match f,hf with | 0,_=>rfl) (PM.symm) (fun d4 d6=>(pm (M':=((bX p #[.int .u64 (p_s)] 91)::(d4++F))) PM (ee (NB (NX (rr (sp 1 [(15,vI (↑k))] (sd (da 16 (↑k) (1)) (sp 1 [(6,vI (↑k+1))] (ee ?_))))))))))));refine AN (n-(k+1)) (by omega) ?_;intro a w hS hD hW;exact ⟨k+1,vS a5 ((CH k++List.replicate (n-k) (0:Int))).length a6,d4,by omega,(by rw [← deal_put (by omega)];exact d6),hS.sub (.consE 5 rfl rfl (.consE 6 rfl rfl (.cons 0 rfl (.cons 1 rfl (.cons 4 rfl (.nil _)))))),hD,hW,rfl⟩
 have c8:=h1;have h1:=CT h1;refine CB 0 ((EP (EP (EB (NX (rq (rqr (sp 1 [(21,vI (↑n))] (sd (dsb 22 (↑n) (1)) (sp 1 [(7,vI (↑n-1))] (se (rb 2 ?_))))))))))));refine rl (fun mz a w=>∃ J1:Imm,∃ k:Nat,∃ zs:List Int,∃ s:Int,∃ b3:Value,∃ a2:Seg,(I.le J1)∧(k≤n)∧(zs.Perm (CH n))∧(Own 3 1 AJ b3 (zs) a2)∧Slots 45 [(5,b3),(7,vI (↑k-1)),(0,vP p 0),(4,vN)] a∧a.defers=[]∧St J1 ((bX p #[.int .u64 (s)] 91)::(a2++F)) w∧mz=k+1) ?_ ?_
 ·intro a w hS hD hW;exact ⟨_,I,n,(CH n),p_s,vS a5 ((CH k++List.replicate (n-k) (0:Int))).length a6,a7,IR _,Nat.le_refl _,PR _,((show (CH k++List.replicate (n-k) (0:Int))=CH n from by rw [show k=n by omega,Nat.sub_self,List.replicate_zero,List.append_nil])▸a8),hS.sub (.cons 5 rfl (.cons 7 rfl (.cons 0 rfl (.cons 4 rfl (.nil _))))),hD,hW,rfl⟩
 rintro mz a w ⟨J1,k,zs,s,b3,a2,hJ1,hk,d3,a3,hS,hD,hW,rfl⟩
 refine AR hS hD hW ?_;clear hS hD hW a w;obtain ⟨a0,a1,b5,c7⟩:=a3.shape;subst b5;have d8:=d3.length_eq;rw [DX] at d8;refine rq (rqr (sp 2 [(24,.bool (cmp .gtr (↑k-1) (0)))] (se (rc 24 rfl (fun h2=>?_) (fun h2=>?_)))))
 ·
  have c9:=h2;have h2:=LI h2;refine AQ (NX (rq (rb 3 (rqr (sp 2 [(28,vI (↑k-1)),(27,vP p 0)] (sS (sc (some 29) (F:=((a2++F))) (NO _ (p) (s) (↑k-1) (by omega) :) (.refl _) (fun e5 I9 e4 c1 d2=>?_))))))));obtain ⟨a4,a9,c4,c2,e3⟩:=d2;rw [c4,c2];clear c4 c2;refine nm ?_;refine sp 1 [(8,vI (↑a9))] (se ?_);refine rdX (M:=((bX p #[.int .u64 (a4)] 91)::(a2++[]))) (F0:=F) [] 14 [(0,true),(1,true),(2,true),(3,true),(4,true),(5,true),(6,true),(7,true),(8,true),(9,true),(10,true),(11,true),(12,true),(13,false)] (by simp only [AA,CA,NA,List.append_nil];exact PR _) GY ?_;refine AG (AM (d:=30) (v:=vS a0 zs.length a1) (by kernel_rfl)) ?_;refine AG (AM (d:=31) (v:=vI (↑k-1)) (by kernel_rfl)) ?_;refine AW (AM (d:=32) (v:=vS a0 zs.length a1) (by kernel_rfl)) ?_;refine AW (AM (d:=33) (v:=vI (↑a9)) (by kernel_rfl)) ?_;refine AG (AM (d:=34) (v:=vS a0 zs.length a1) (by kernel_rfl)) ?_;refine AG (AM (d:=35) (v:=vI (↑a9)) (by kernel_rfl)) ?_;obtain ⟨d9,b6⟩:=a3.row 0;refine AG (di 36 1 (a9) b6.addr) ?_;refine AG (dl 37 (b6.get (a9) (by omega) 0 (by decide) _ _ (fun x hx=>by simp [hx]))) ?_;refine AG (AM (d:=38) (v:=vS a0 zs.length a1) (by kernel_rfl)) ?_;refine AG (AM (d:=39) (v:=vI (↑k-1)) (by kernel_rfl)) ?_;obtain ⟨e0,b7⟩:=a3.row 0;refine AG (diI 40 1 (↑k-1) b7.addr) ?_;refine AG (dl 41 (b7.get ((↑k-1:Int).toNat) (by omega) 0 (by decide) _ _ (fun x hx=>by simp [hx]))) ?_;obtain ⟨e1,b8⟩:=a3.row 0;refine AG (diI 42 1 (↑k-1) b8.addr) ?_;refine DG (Mx:=fun FX=>((bX p #[.int .u64 (a4)] 91)::(a2++FX))) rfl (fun FX=>by simp only [AA,CA,NA,List.append_nil];exact PR _) (fun FX=>?_);refine id (BB (T:=3) (x:=(.tmp 42)) (y:=(.tmp 37)) (rc:=fun i f=>AJ ((zs).getD i 0) f) 0 ((↑k-1:Int).toNat) 0 (zs.getD (a9) 0) (ty:=0) (gd:=none) (by kernel_rfl) rfl a3 b8 (by omega) (by decide) rfl rfl (by kernel_rfl) rfl rfl (by intro f hf;match f,hf with | 0,_=>rfl) (PM.symm) (fun b9 c3=>?_));refine FB (M1:=((bX p #[.int .u64 (a4)] 91)::(b9++[]))) (by simp only [AA,CA,NA,List.append_nil];exact PM) (.wait (by kernel_rfl) (.wait (by kernel_rfl) (.wait (by kernel_rfl) (.wait (by kernel_rfl) (.wait (by kernel_rfl) (.wait (by kernel_rfl) (.wait (by kernel_rfl) (.wait (by kernel_rfl) (.wait (by kernel_rfl) (.none (.none (.wait (by kernel_rfl) (.wait (by kernel_rfl) .nil))))))))))))) ?_;refine FE (AX (M':=((bX p #[.int .u64 (a4)] 91)::(b9++F))) (fun w h=>by simpa only [AA,CA,NA,List.append_nil] using h) (nm ?_));obtain ⟨e2,b0⟩:=c3.row 0;simp only [LS] at b0;refine sd (di 43 1 (a9) (fun _=>b0.addr (by omega)) (n:=zs.length)) (sS (BB (T:=3) (x:=(.tmp 43)) (y:=(.tmp 41)) (rc:=fun i f=>AJ ((zs.set ((↑k-1:Int).toNat) (zs.getD (a9) 0)).getD i 0) f) 0 (a9) 0 (zs.getD ((↑k-1:Int).toNat) 0) (ty:=0) (gd:=none) (by kernel_rfl) rfl c3 (by simpa only [LS] using b0) (by simp only [LS];omega) (by decide) rfl rfl (by kernel_rfl) rfl rfl (by intro f hf;match f,hf with | 0,_=>rfl) (PM.symm) (fun c0 d0=>(pm (M':=((bX p #[.int .u64 (a4)] 91)::(c0++F))) PM (ee (NB (NX (rr (sp 1 [(25,vI (↑k-1))] (sd (dsb 26 (↑k-1) (1)) (sp 1 [(7,vI ((↑k-1)-1))] (ee ?_))))))))))));refine AN (k-1+1) (by omega) ?_;intro a w hS hD hW;exact ⟨I9,k-1,(zs.set ((↑k-1:Int).toNat) (zs.getD (a9) 0)).set (a9) (zs.getD ((↑k-1:Int).toNat) 0),a4,vS a0 zs.length a1,c0,(IT hJ1 c1),by omega,(swap_perm (by omega) (by omega)).trans d3,d0,hS.sub (.consE 5 rfl rfl (.consE 7 rfl (congrArg (Value.int .i64) (by omega)) (.cons 0 rfl (.cons 4 rfl (.nil _))))),hD,hW,rfl⟩
 have c9:=h2;have h2:=gtr_f h2;refine CB 2 ((EP (EP (EB (NX (rqr (sp 2 [(4,vS a0 zs.length a1)] (se (BL (AH (t:=4) ([(bX p #[.int .u64 (s)] 91)]++(a2)) (by kernel_rfl) rfl (by simp only [AA,NA,CA];exact (TK _ (TA (TR _) _))) hJ1 ?_))))))))));exact ⟨_,_,_,_,rfl,rfl,d3,a3⟩
end Go.Proofs.YtgcemienebmdeaaGreat
namespace Go.Sh
open Go Go.Sl
def KeepsOf (P:Int) (r:Int) (ks:List Keep):Prop:=ks.length≤4∧∀ j,j<ks.length→let k:=ks.getD j AL;(0≤k.place∧k.place≤P-1)∧(7*(r-j)≤k.hour∧k.hour≤7*(r-j)+6)∧(1≤k.who∧k.who≤9)
theorem KeepsOf.nil {P r:Int}:KeepsOf P r []:=⟨Nat.zero_le _,fun j hj=>absurd hj (Nat.not_lt_zero _)⟩
theorem KeepsOf.snoc {P r:Int} {ks:List Keep} {k:Keep} (h:KeepsOf P r ks) (hl:ks.length<4) (hp:0≤k.place∧k.place≤P-1) (hh:7*(r-ks.length)≤k.hour∧k.hour≤7*(r-ks.length)+6) (hw:1≤k.who∧k.who≤9):KeepsOf P r (ks++[k]):=by
  refine ⟨by simp;omega,fun j hj=>?_⟩;rcases Nat.lt_or_ge j ks.length with h1 | h1
  · have:=h.2 j h1
    simpa only [List.getD,List.getElem?_append_left h1] using this
  · have e:j=ks.length:=by simp at hj;omega
    subst e;have:(ks++[k]).getD ks.length AL=k:=by simp [List.getD]
    rw [this];exact ⟨hp,hh,hw⟩
def SlipsOf (P Q:Int) (dl:List Int) (i:Nat) (sl:List Slip):Prop:=sl.length≤i∧(∀ s∈sl,∀ L:Lin,L.places=P→L.sorts=Q→DC L s=0)∧(sl.map (·.num)).Nodup∧∀ s∈sl,∃ j,j<i∧s.num=1+dl.getD j 0
theorem SlipsOf.nil {P Q:Int} {dl:List Int}:SlipsOf P Q dl 0 []:=⟨Nat.le_refl _,fun s hs=>absurd hs List.not_mem_nil,List.nodup_nil,fun s hs=>absurd hs List.not_mem_nil⟩
theorem SlipsOf.skip {P Q:Int} {dl:List Int} {i:Nat} {sl:List Slip} (h:SlipsOf P Q dl i sl):SlipsOf P Q dl (i+1) sl:=⟨by have:=h.1;omega,h.2.1,h.2.2.1,fun s hs=>by obtain ⟨j,h1,h2⟩:=h.2.2.2 s hs;exact ⟨j,by omega,h2⟩⟩
theorem SlipsOf.snoc {P Q:Int} {dl:List Int} {i:Nat} {sl:List Slip} {s:Slip} (h:SlipsOf P Q dl i sl) (hd:dl.Nodup) (hi:i<dl.length) (hn:s.num=1+dl.getD i 0) (hs:∀ L:Lin,L.places=P→L.sorts=Q→DC L s=0):SlipsOf P Q dl (i+1) (sl++[s]):=by
  refine ⟨by have:=h.1;simp;omega,fun t ht=>?_,?_,fun t ht=>?_⟩
  · rcases List.mem_append.1 ht with ht | ht
    · exact h.2.1 t ht
    · simp only [List.mem_singleton] at ht;subst ht;exact hs
  · rw [List.map_append,List.map_cons,List.map_nil]
    refine List.nodup_append.2 ⟨h.2.2.1,by simp,fun a ha b hb=>?_⟩;simp only [List.mem_singleton] at hb;obtain ⟨t,ht,rfl⟩:=List.mem_map.1 ha;obtain ⟨j,hj,e⟩:=h.2.2.2 t ht;intro e2;rw [hb,hn] at e2;have e3:dl.getD j 0=dl.getD i 0:=by omega
    have hj2:j<dl.length:=by omega
    have:j=i:=(List.getElem_inj (h₀:=hj2) (h₁:=hi) hd).1 (by simpa [List.getD,hj2,hi] using e3);omega
  · rcases List.mem_append.1 ht with ht | ht
    · obtain ⟨j,h1,h2⟩:=h.2.2.2 t ht;exact ⟨j,by omega,h2⟩
    · simp only [List.mem_singleton] at ht;subst ht;exact ⟨i,by omega,hn⟩
theorem HV {P Q:Int} {s:Slip} (h1:1≤s.num∧s.num≤999) (h2:0≤s.hour∧s.hour≤200) (h3:1≤s.kind∧s.kind≤6) (h4:0≤s.place∧s.place≤P-1) (h5:s.kind=1→(0≤s.to∧s.to≤P-1)∧s.to≠s.place) (h6:s.kind≠1→s.to=0) (h7:0≤s.sort∧s.sort≤Q-1) (h8:s.soil=true→s.kind=1∨s.kind=4) (h9:s.kind=4∨1≤s.amt) (h10:0≤s.amt∧s.amt≤50):∀ L:Lin,L.places=P→L.sorts=Q→DC L s=0:=by
  intro L hP hQ;have t:∀ {n lo hi:Int},lo≤n∧n≤hi→¬ inB n lo hi=false:=fun h e=>by
    rw [show inB _ _ _=true from by simpa [inB] using h] at e;cases e
  unfold DC
  rw [hP,hQ,if_neg (t h1),if_neg (t h2),if_neg (t h3),if_neg (t h4),if_neg (fun e=>t (h5 e.1).1 e.2),if_neg (fun e=>(h5 e.1).2 e.2),if_neg (fun e=>e.2 (h6 e.1)),if_neg (t h7),
    if_neg (fun e=>(h8 e.1).elim e.2.1 e.2.2),if_neg (t (by split <;> omega))]
def RowsB (B:Int) (n:Nat) (xss:List (List Int)):Prop:=∀ r∈xss,r.length=n∧∀ x∈r,0≤x∧x≤B
theorem RowsB.nil {B:Int} {n:Nat}:RowsB B n []:=fun r hr=>by cases hr
theorem RowsB.snoc {B:Int} {n:Nat} {xss:List (List Int)} {r:List Int} (h:RowsB B n xss) (hl:r.length=n) (hr:∀ x∈r,0≤x∧x≤B):RowsB B n (xss++[r]):=fun q hq=>by
  rcases List.mem_append.1 hq with hq | hq
  · exact h q hq
  · simp only [List.mem_singleton] at hq;subst hq;exact ⟨hl,hr⟩
theorem RowsB.mono {B B':Int} {n:Nat} {xss:List (List Int)} (h:RowsB B n xss) (hb:B≤B'):RowsB B' n xss:=fun r hr=>⟨(h r hr).1,fun x hx=>by have:=(h r hr).2 x hx;omega⟩
theorem RowsB.set {B:Int} {n p i:Nat} {xss:List (List Int)} {v:Int} (h:RowsB B n xss) (hp:p<xss.length) (hv:0≤v∧v≤B):RowsB B n (xss.set p ((xss.getD p []).set i v)):=fun r hr=>by
  rcases List.mem_or_eq_of_mem_set hr with hr | rfl
  · exact h r hr
  · have h1:=h _ (AV (xs:=xss) (d:=[]) hp)
    refine ⟨by rw [List.length_set];exact h1.1,fun x hx=>?_⟩;rcases List.mem_or_eq_of_mem_set hx with hx | rfl
    · exact h1.2 x hx
    · exact hv
theorem RowsB.at {B:Int} {n p i:Nat} {xss:List (List Int)} (h:RowsB B n xss) (hp:p<xss.length) (hi:i<n):(xss.getD p []).length=n∧0≤(xss.getD p []).getD i 0∧(xss.getD p []).getD i 0≤B:=by
  have h1:=h _ (AV (xs:=xss) (d:=[]) hp);exact ⟨h1.1,h1.2 _ (AV (xs:=xss.getD p []) (d:=0) (by rw [h1.1];exact hi))⟩
theorem drawn_book {P Q:Int} {n:Nat} {st:List (List Int)} {ks:List Keep} {sl:List Slip} {r:Int} {dl:List Int} {i:Nat} (hP:1≤P∧P≤4) (hQ:1≤Q∧Q≤2) (hn:(n:Int)=Q) (hs:(st.length:Int)=P) (hr:RowsB 50 n st) (hr4:0≤r∧r≤4) (hkr:(ks.length:Int)≤r) (hk:KeepsOf P r ks) (hsl:SlipsOf P Q dl i sl) (hi:i≤8):GoodL ⟨P,Q,st,ks,sl⟩:=by
  have t:∀ {n lo hi:Int},lo≤n∧n≤hi→¬ inB n lo hi=false:=fun h e=>by
    rw [show inB _ _ _=true from by simpa [inB] using h] at e;cases e
  refine ⟨hP,hQ,hs,fun q hq=>by rw [(hr q hq).1,hn],fun q hq x hx=>(hr q hq).2 x hx,hk.1,fun k hk2=>?_,Nat.le_trans hsl.1 hi,fun k hk2=>?_⟩
  · obtain ⟨h1,h2,h3⟩:=hk.2 k hk2
    unfold EK;simp only;have hk3:(k:Int)<ks.length:=by exact_mod_cast hk2
    rw [if_neg (t h1),if_neg (t (by omega)),if_neg (t h3),if_neg];intro e;obtain ⟨x,hx,hx2⟩:=List.any_eq_true.1 e;obtain ⟨j,hj,rfl⟩:=List.mem_take_iff_getElem.1 hx;have hj2:j<ks.length:=by omega
    have h4:=(hk.2 j hj2).2.1;simp only [Bool.and_eq_true,decide_eq_true_eq] at hx2;have e4:(ks.getD j AL)=ks[j]:=by simp [List.getD,hj2]
    rw [e4,hx2.2] at h4;have:j<k:=by omega
    omega
  · have h1:=hsl.2.1 _ (AV (xs:=sl) (d:=AB) hk2) ⟨P,Q,st,ks,sl⟩ rfl rfl
    unfold CV;rw [if_neg (fun h=>h h1),if_neg];intro e;unfold hasNum at e;obtain ⟨x,hx,hx2⟩:=List.any_eq_true.1 e;obtain ⟨j,hj,rfl⟩:=List.mem_take_iff_getElem.1 hx;have hj':j<min k sl.length:=hj;have hj2:j<sl.length:=by omega
    have hnd:=hsl.2.2.1;simp only [decide_eq_true_eq] at hx2;have:j=k:=(List.getElem_inj (h₀:=by simpa using hj2) (h₁:=by simpa using hk2) hnd).1 (by simpa [List.getD,hk2] using hx2);omega
end Go.Sh
namespace Go.Sl
open Go
theorem NC {α:Type} {d:α}:∀ (vs:List α) (i:Nat),vs.set i (vs.getD i d)=vs
  | [],_=>rfl
  | _::_,0=>rfl
  | v::vs,i+1=>by
    show v::vs.set i (vs.getD i d)=v::vs;rw [NC vs i]
theorem OwnEach.same {E:TypeId} {vs:List Value} {i:Nat} {v':Value} {xss:List (List Int)} {M:Seg} (h:OwnEach E (vs.set i v') xss M) (e:vs.getD i undef=v'):OwnEach E vs xss M:=by
  subst e;rwa [NC] at h
theorem fold_mod {x:Int} {n:Nat}:(x.tmod n+n)%(n:Int)=x%n:=by
  rw [Int.add_emod_right,Int.tmod_def,Int.sub_eq_add_neg,← Int.mul_neg,Int.add_mul_emod_self_left]
end Go.Sl
namespace Go.Sh
open Go Go.Sl
theorem inb_snoc {B:Int} {l:List Int} {x:Int} (h:∀ x∈l,0≤x∧x≤B) (hx:0≤x∧x≤B):∀ y∈l++[x],0≤y∧y≤B:=fun y hy=>by
  rcases List.mem_append.1 hy with hy | hy
  · exact h y hy
  · simp only [List.mem_singleton] at hy;subst hy;exact hx
theorem inb_snoc2 {B:Int} {l:List Int} {x y:Int} (h:∀ x∈l,0≤x∧x≤B) (hx:0≤x∧x≤B) (hy:0≤y∧y≤B):∀ z∈l++[x,y],0≤z∧z≤B:=fun z hz=>by
  rcases List.mem_append.1 hz with hz | hz
  · exact h z hz
  · simp only [List.mem_cons,List.not_mem_nil,or_false] at hz
    rcases hz with rfl | rfl
    · exact hx
    · exact hy
theorem FZ {l:List Int} {n:Nat} (h:l.Perm (CH n)):l.Nodup:=by
  exact h.nodup_iff.2 (List.Pairwise.map (fun i:Nat=>(i:Int)) (fun a b hab e=>hab (by exact_mod_cast e)) List.nodup_range)
theorem deal_at {l:List Int} {n t:Nat} (h:l.Perm (CH n)) (ht:t<l.length):0≤l.getD t 0∧l.getD t 0<n:=by
  have h1:=h.mem_iff.1 (AV (xs:=l) (d:=0) ht);unfold CH at h1;obtain ⟨a,ha,e⟩:=List.mem_map.1 h1;have:=List.mem_range.1 ha;omega
def RowB (B:Int) (n:Nat) (r:List Int):Prop:=r.length=n∧∀ x∈r,0≤x∧x≤B
theorem RowB.set {B:Int} {n i:Nat} {r:List Int} {v:Int} (h:RowB B n r) (hv:0≤v∧v≤B):RowB B n (r.set i v):=⟨by rw [List.length_set];exact h.1,fun x hx=>by
  rcases List.mem_or_eq_of_mem_set hx with hx | rfl
  · exact h.2 x hx
  · exact hv⟩
theorem RowB.at {B:Int} {n i:Nat} {r:List Int} (h:RowB B n r) (hi:i<n):r.length=n∧0≤r.getD i 0∧r.getD i 0≤B:=⟨h.1,h.2 _ (AV (xs:=r) (d:=0) (by rw [h.1];exact hi))⟩
theorem RowsB.row {B:Int} {n p:Nat} {xss:List (List Int)} (h:RowsB B n xss) (hp:p<xss.length):RowB B n (xss.getD p []):=h _ (AV (xs:=xss) (d:=[]) hp)
theorem RowsB.put {B:Int} {n p:Nat} {xss:List (List Int)} {r:List Int} (h:RowsB B n xss) (hr:RowB B n r):RowsB B n (xss.set p r):=fun q hq=>by
  rcases List.mem_or_eq_of_mem_set hq with hq | rfl
  · exact h q hq
  · exact hr
theorem ix_yes {so:Bool} {k:Int} (h:(so||(cmp .eql k 3||cmp .eql k 6))=true) (hs:so=true→k=1∨k=4):k≠2:=by
  intro e;subst e;cases so
  · simp [cmp] at h
  · have:=hs rfl;omega
theorem ix_no {so:Bool} {k:Int} (h:(so||(cmp .eql k 3||cmp .eql k 6))=false):k≠3:=by
  intro e;subst e;cases so <;> simp [cmp] at h
theorem other_place {p r n:Nat} {f:Int} (hp:p<n) (hf:1≤f∧f≤n-1) (hr:(r:Int)=(p+f)%n):r≠p:=by
  intro e;subst e;have h1:((r:Int)+f)/n=0∨((r:Int)+f)/n=1:=by
    have h2:0≤((r:Int)+f)/n:=Int.ediv_nonneg (by omega) (by omega);have h3:((r:Int)+f)/n<2:=Int.ediv_lt_of_lt_mul (by omega) (by omega);omega
  have h4:=Int.emod_add_mul_ediv ((r:Int)+f) n;rcases h1 with h1 | h1 <;> rw [h1] at h4 <;> omega
theorem small_nums {P Q:Int} {dl:List Int} {i:Nat} {sl:List Slip} (h:SlipsOf P Q dl i sl) (hd:dl.Perm (CH 20)) (hi:i≤20):∀ s∈sl,s.num≤20:=fun s hs=>by
  obtain ⟨j,h1,h2⟩:=h.2.2.2 s hs;have h3:=hd.length_eq;rw [DX] at h3;have:=deal_at hd (t:=j) (by omega);omega
end Go.Sh
