/- A part of the proof of the laws of this seat. -/
import Derived.Test.YtgcemienebmdeaaGreatP2
import Derived.Test.YtgcemienebmdeaaGreatP4
import Derived.Test.YtgcemienebmdeaaGreatP1
set_option linter.unusedVariables false
set_option linter.unusedSimpArgs false
namespace Go.Sh
open Go Go.Sl
section
variable {p:Sh.Event→Bool} {l:List Sh.Event} {x:Sh.Event}
end
section
variable {L:Lin}
end
end Go.Sh
namespace Go.Proofs.YtgcemienebmdeaaGreat
open Go Go.Sl Go.Sh
set_option maxRecDepth 100000
end Go.Proofs.YtgcemienebmdeaaGreat
namespace Go.Sh
open Go Go.Sl
section
variable {so:Int} {H H':Hs} {k:HKey} {v d:Int}
end
theorem evs_slips:∀ {S:List Slip} {H:Hs},(evs H S).map (fun e=>e.slip)=S:=by
  intro S
  induction S with
  | nil=>intro H;rfl
  | cons s r ih=>intro H;simp only [evs,List.map_cons,ih];rfl
theorem openRow_get {p:Int} {row:List Int} {H:Hs} {k:HKey}:∀ {j:Nat},(k.pl≠p∨(j:Int)≤k.so)→CZ k (IH p row j H)=CZ k H:=by
  intro j
  induction j with
  | zero=>intro _;rfl
  | succ j ih=>
    intro h;simp only [IH];rw [JV,if_neg,ih]
    · rcases h with h | h
      · exact .inl h
      · exact .inr (by omega)
    · intro e;subst e;simp only at h;omega
section
variable {L:Lin} {so hour:Int}
end
theorem evs_nums {L:Lin} (g:GoodL L):((AL L).map fun e=>e.slip.num).Nodup:=by
  have h1:(AL L).map (fun e=>e.slip.num)=((AL L).map fun e=>e.slip).map (·.num):=by rw [List.map_map];rfl
  rw [h1,AL,evs_slips];exact ((BQ L.slips).map _).nodup_iff.2 g.once
theorem inB_of {n lo hi:Int} (h:lo≤n∧n≤hi):¬ inB n lo hi=false:=by simp [inB,h.1,h.2]
theorem MQ {L:Lin} (g:GoodL L):BG L=0:=by
  have h1:CS L=0:=by
    unfold CS;rw [if_neg (fun h=>h g.start),if_neg,if_neg]
    · rw [List.all_eq_true.2 (fun n hn => by
        obtain ⟨r,hr,hn⟩:=List.mem_flatten.1 hn
        simpa using inB_of (g.nums r hr n hn))];decide
    · rw [List.all_eq_true.2 (fun r hr=>decide_eq_true (g.rows r hr))];decide
  have h2:CQ L=0:=by unfold CQ;rw [if_neg (by have:=g.keeps;omega)];exact firstE_zero.2 g.keep
  unfold BG;rw [if_neg (inB_of g.places),if_neg (inB_of g.sorts),h1,h2,if_neg (fun h=>h rfl),if_neg (fun h=>h rfl),if_neg (by have:=g.slips;omega)];exact firstE_zero.2 g.slip
theorem gap_small {L:Lin} (g:GoodL L):∀ x∈AV (AL L),-1000000≤x.amt∧x.amt≤1000000:=by
  intro x hx;obtain ⟨e,he,hx⟩:=List.mem_flatMap.1 hx;unfold NN at hx
  split at hx
  · simp only [List.mem_singleton] at hx;subst hx
    obtain ⟨k,hk,rfl⟩:=List.mem_iff_getElem.1 he;have hk2:k<(AE AC L.slips).length:=by unfold AL at hk;rwa [GC] at hk
    have ht:=OG (H:=CM L) hk2;have e3:(AL L)[k]=PT (aft (CM L) ((AE AC L.slips).take k)) ((AE AC L.slips).getD k AB):=by
      have h1:((evs (CM L) (AE AC L.slips)).take (k+1))[k]?=some (PT (aft (CM L) ((AE AC L.slips).take k)) ((AE AC L.slips).getD k AB)):=by
        have hk3:k<(evs (CM L) (AE AC L.slips)).length:=hk;rw [ht,List.getElem?_append_right (by rw [List.length_take];omega),List.length_take,Nat.min_eq_left (by omega)];simp
      rw [List.getElem?_take_of_lt (by omega)] at h1;exact (List.getElem?_eq_some_iff.1 h1).2
    rw [e3];have hw:=(g.goodS.sorted.within g.within k) (keyOf ((AE AC L.slips).getD k AB));have ha:=(g.goodS.sorted.ok _ (BE (d:=AB) hk2)).2.1;simp only [PT];split <;> omega
  · cases hx
theorem OL {L:Lin} (g:GoodL L):(HB L).1=AV (AL L):=by rw [gapsE_2 (MQ g)]
section
variable {L:Lin} {G:List Gap} {so n X:Int} {i m k:Nat} {s:Slip}
end
def ustep (p kh:Int) (u:Int) (x:Keep):Int:=bif cmp .eql x.place p&&cmp .gtr x.hour kh then (if x.hour-1<u then x.hour-1 else u) else u
def untilM (p kh to:Int) (ks:List Keep):Int:=ks.foldl (ustep p kh) to
section
variable {p kh to f h:Int} {ks:List Keep} {k:Nat}
theorem untilM_ge:∀ {ks:List Keep} {to:Int},f≤untilM p kh to ks↔f≤to∧∀ x∈ks,x.place=p→kh<x.hour→f≤x.hour-1:=by
  intro ks
  induction ks with
  | nil=>intro to;simp [untilM]
  | cons x r ih=>
    intro to;rw [show untilM p kh to (x::r)=untilM p kh (ustep p kh to x) r from rfl,ih];have e:f≤ustep p kh to x↔f≤to∧(x.place=p→kh<x.hour→f≤x.hour-1):=by
      unfold ustep;cases hc:(cmp .eql x.place p&&cmp .gtr x.hour kh) with
      | true=>
        simp [cmp] at hc;simp only [cond_true]
        constructor
        · intro h1;split at h1 <;> exact ⟨by omega,fun _ _=>by omega⟩
        · intro h1;have:=h1.2 hc.1 hc.2;split <;> omega
      | false=>
        simp [cmp] at hc;simp only [cond_false];exact ⟨fun h1=>⟨h1,fun h2 h3=>by have:=hc h2;omega⟩,fun h1=>h1.1⟩
    rw [e];simp only [List.mem_cons,forall_eq_or_imp];exact ⟨fun h1=>⟨h1.1.1,h1.1.2,h1.2⟩,fun h1=>⟨⟨h1.1,h1.2.1⟩,h1.2.2⟩⟩
theorem kfold_spec (h0:∀ x∈ks,0≤x.hour):∀ k,k≤ks.length→(GW p h (ks.take k)=(0,-1)∧∀ x∈ks.take k,x.place=p→¬ x.hour≤h)∨∃ x∈ks.take k,x.place=p∧x.hour≤h∧GW p h (ks.take k)=(x.who,x.hour)∧∀ y∈ks.take k,y.place=p→y.hour≤h→y.hour≤x.hour:=by
  intro k
  induction k with
  | zero=>intro _;exact .inl ⟨rfl,fun x hx=>by simp at hx⟩
  | succ k ih=>
    intro hk;have hm:=BE (xs:=ks) (d:=AJ) (show k<ks.length by omega);have hin:∀ y,y∈ks.take (k+1)↔y∈ks.take k∨y=ks.getD k AJ:=fun y=>by rw [CE (d:=AJ) (by omega)];simp
    cases hc:(cmp .eql (ks.getD k AJ).place p&&(cmp .leq (ks.getD k AJ).hour h&&cmp .gtr (ks.getD k AJ).hour (GW p h (ks.take k)).2)) with
    | true=>
      rw [← kfold_t (by omega) hc];simp only [GO,cmp_leq,cmp_gtr,Bool.and_eq_true,decide_eq_true_eq] at hc;refine .inr ⟨_,(hin _).2 (.inr rfl),hc.1,hc.2.1,rfl,fun y hy h1 h2=>?_⟩;rcases (hin y).1 hy with hy | rfl
      · rcases ih (by omega) with ⟨_,h3⟩ | ⟨x,_,_,_,h3,h4⟩
        · exact absurd h2 (h3 y hy h1)
        · have:=h4 y hy h1 h2;rw [h3] at hc;simp only at hc;omega
      · exact Int.le_refl _
    | false=>
      rw [← kfold_f (by omega) hc];have hn:¬ ((ks.getD k AJ).place=p∧(ks.getD k AJ).hour≤h∧(GW p h (ks.take k)).2<(ks.getD k AJ).hour):=fun hh=>by
        simp only [GO,cmp_leq,cmp_gtr,hh.1,hh.2.1,hh.2.2,decide_true,Bool.and_self] at hc;cases hc
      rcases ih (by omega) with ⟨h2,h3⟩ | ⟨x,h1,h2,h5,h3,h4⟩
      · refine .inl ⟨h2,fun y hy h1 h4=>?_⟩
        rcases (hin y).1 hy with hy | rfl
        · exact h3 y hy h1 h4
        · refine hn ⟨h1,h4,?_⟩
          rw [h2];have:=h0 _ hm;simp only;omega
      · refine .inr ⟨x,(hin x).2 (.inl h1),h2,h5,h3,fun y hy h6 h7=>?_⟩
        rcases (hin y).1 hy with hy | rfl
        · exact h4 y hy h6 h7
        · rcases Int.lt_or_le x.hour (ks.getD k AJ).hour with h8 | h8
          · exact absurd ⟨h6,h7,by rw [h3];exact h8⟩ hn
          · exact h8
end
theorem keepErr_ok2 {L:Lin} {i:Nat} (h:EN L i=0):(0≤(L.keeps.getD i AJ).hour∧(L.keeps.getD i AJ).hour≤200)∧(1≤(L.keeps.getD i AJ).who∧(L.keeps.getD i AJ).who≤9)∧∀ x∈L.keeps.take i,¬ (x.place=(L.keeps.getD i AJ).place∧x.hour=(L.keeps.getD i AJ).hour):=by
  unfold EN at h;simp only at h
  split at h;· omega
  split at h;· omega
  rename_i h2
  split at h;· omega
  rename_i h3
  split at h;· omega
  rename_i h4
  refine ⟨DL (by simpa using h2),DL (by simpa using h3),fun x hx hh=>h4 (List.any_eq_true.2 ⟨x,hx,by simp [hh.1,hh.2]⟩)⟩
section
variable {L:Lin} (g:GoodL L)
include g
theorem GoodL.keepOf {x:Keep} (hx:x∈L.keeps):(0≤x.hour∧x.hour≤200)∧(1≤x.who∧x.who≤9):=by
  obtain ⟨k,hk,rfl⟩:=List.mem_iff_getElem.1 hx;have:=keepErr_ok2 (g.keep k hk);have e:L.keeps.getD k AJ=L.keeps[k]:=by simp [List.getD,hk]
  rw [e] at this;exact ⟨this.1,this.2.1⟩
theorem GoodL.keepOnce {x y:Keep} (hx:x∈L.keeps) (hy:y∈L.keeps) (h1:x.place=y.place) (h2:x.hour=y.hour):x=y:=by
  obtain ⟨i,hi,rfl⟩:=List.mem_iff_getElem.1 hx;obtain ⟨j,hj,rfl⟩:=List.mem_iff_getElem.1 hy;have aux:∀ i j (hi:i<L.keeps.length) (hj:j<L.keeps.length),i<j→¬ (L.keeps[i].place=L.keeps[j].place∧L.keeps[i].hour=L.keeps[j].hour):=fun i j hi hj hij hh=>by
    have:=(keepErr_ok2 (g.keep j hj)).2.2 L.keeps[i] (by rw [List.mem_take_iff_getElem];exact ⟨i,by omega,rfl⟩);have e:L.keeps.getD j AJ=L.keeps[j]:=by simp [List.getD,hj]
    rw [e] at this;exact this hh
  rcases Nat.lt_trichotomy i j with h | h | h
  · exact absurd ⟨h1,h2⟩ (aux i j hi hj h)
  · subst h;rfl
  · exact absurd ⟨h1.symm,h2.symm⟩ (aux j i hj hi h)
theorem MT {p h w:Int} (hw:w≠0):BU L p h=w↔∃ x∈L.keeps,x.place=p∧x.hour≤h∧x.who=w∧∀ y∈L.keeps,y.place=p→y.hour≤h→y.hour≤x.hour:=by
  have hs:=kfold_spec (p:=p) (h:=h) (ks:=L.keeps) (fun x hx=>(g.keepOf hx).1.1) L.keeps.length (Nat.le_refl _);rw [List.take_length] at hs;unfold BU
  constructor
  · intro hh
    rcases hs with ⟨h1,_⟩ | ⟨x,hx,h1,h2,h3,h4⟩
    · rw [h1] at hh;exact absurd hh.symm hw
    · rw [h3] at hh;exact ⟨x,hx,h1,h2,hh,h4⟩
  · rintro ⟨x,hx,h1,h2,h3,h4⟩
    rcases hs with ⟨_,h5⟩ | ⟨y,hy,h5,h6,h7,h8⟩
    · exact absurd h2 (h5 x hx h1)
    · have e:x=y:=g.keepOnce hx hy (by rw [h1,h5]) (by have:=h8 x hx h1 h2;have:=h4 y hy h5 h6;omega)
      subst e;rw [h7];exact h3
def hadK (p who frm to:Int) (ks:List Keep) (k:Keep):Bool:=decide (k.place=p)&&decide (k.who=who)&&decide (k.hour≤to)&&decide (frm≤untilM p k.hour to ks)
def hadE (L:Lin) (p who frm to:Int):Bool:=L.keeps.any (hadK p who frm to L.keeps)
theorem had_iff {p who frm to:Int} (hw:1≤who) (hf:0≤frm):hadE L p who frm to=true↔∃ h:Nat,frm≤h∧(h:Int)≤to∧BU L p h=who:=by
  unfold hadE;simp only [List.any_eq_true,hadK,Bool.and_eq_true,decide_eq_true_eq,untilM_ge]
  constructor
  · rintro ⟨k,hk,⟨⟨h1,h2⟩,h3⟩,h4,h5⟩
    have h0:=(g.keepOf hk).1.1;refine ⟨(if k.hour≤frm then frm else k.hour).toNat,?_,?_,(MT g (by omega)).2 ⟨k,hk,h1,?_,h2,fun y hy h6 h7=>?_⟩⟩
    · split <;> omega
    · split <;> omega
    · split <;> omega
    · rcases Int.lt_or_le k.hour y.hour with h8 | h8
      · have:=h5 y hy h6 h8;split at h7 <;> omega
      · exact h8
  · rintro ⟨h,h1,h2,h3⟩
    obtain ⟨k,hk,h4,h5,h6,h7⟩:=(MT g (by omega)).1 h3;refine ⟨k,hk,⟨⟨h4,h6⟩,by omega⟩,by omega,fun x hx h8 h9=>?_⟩;rcases Int.lt_or_le h x.hour with h10 | h10
    · omega
    · have:=h7 x hx h8 h10;omega
omit g in
theorem holdTo_mem {p since x:Int}:∀ {n:Nat},x∈CY L p since n↔∃ h:Nat,h<n∧since≤h∧BU L p h=x∧x≠0:=by
  intro n
  induction n with
  | zero=>simp [CY]
  | succ n ih=>
    have up:(∃ h:Nat,h<n+1∧since≤h∧BU L p h=x∧x≠0)↔(∃ h:Nat,h<n∧since≤h∧BU L p h=x∧x≠0)∨(since≤n∧BU L p n=x∧x≠0):=by
      constructor
      · rintro ⟨h,h1,h2⟩
        rcases Nat.lt_or_ge h n with h3 | h3
        · exact .inl ⟨h,h3,h2⟩
        · have:h=n:=by omega
          subst this;exact .inr h2
      · rintro (⟨h,h1,h2⟩ | h2)
        · exact ⟨h,by omega,h2⟩
        · exact ⟨n,by omega,h2⟩
    rw [up,← ih];simp only [CY]
    split
    · rename_i h;exact ⟨.inl,fun q=>q.elim id (fun e=>by omega)⟩
    · split
      · rename_i h;exact ⟨.inl,fun q=>q.elim id (fun e=>absurd (e.2.1.symm.trans h) e.2.2)⟩
      · rename_i h1 h2
        split
        · rename_i h3;exact ⟨.inl,fun q=>q.elim id (fun e=>e.2.1▸h3)⟩
        · simp only [List.mem_append,List.mem_singleton]
          exact ⟨fun q=>q.elim .inl (fun e=>.inr ⟨by omega,e.symm,e▸h2⟩),fun q=>q.elim .inl (fun e=>.inr e.2.1.symm)⟩
omit g
def QU (L:Lin) (p frm to:Int):Nat→List Int
  | 0=>[]
  | n+1=>if hadE L p ((n:Int)+1) frm to=true then QU L p frm to n++[(n:Int)+1] else QU L p frm to n
theorem dueW_t {p frm to:Int} {n:Nat} (h:hadE L p ((n:Int)+1) frm to=true):QU L p frm to n++[(n:Int)+1]=QU L p frm to (n+1):=(if_pos h).symm
theorem dueW_f {p frm to:Int} {n:Nat} (h:hadE L p ((n:Int)+1) frm to=false):QU L p frm to n=QU L p frm to (n+1):=(if_neg (by rw [h];decide)).symm
theorem dueW_len {p frm to:Int}:∀ {n:Nat},(QU L p frm to n).length≤n:=by
  intro n
  induction n with
  | zero=>exact Nat.le_refl _
  | succ n ih => simp only [QU]; split
                 · simp only [List.length_append,List.length_cons,List.length_nil];omega
                 · omega
theorem dueW_mem {p frm to x:Int}:∀ {n:Nat},x∈QU L p frm to n↔1≤x∧x≤n∧hadE L p x frm to=true:=by
  intro n
  induction n with
  | zero=>simp only [QU];exact ⟨fun h=>(by cases h),fun h=>(by omega)⟩
  | succ n ih=>
    have key:(1≤x∧x≤((n+1:Nat):Int)∧hadE L p x frm to=true)↔(1≤x∧x≤n∧hadE L p x frm to=true)∨(x=(n:Int)+1∧hadE L p ((n:Int)+1) frm to=true):=by
      constructor
      · rintro ⟨h1,h2,h3⟩
        by_cases e:x=(n:Int)+1
        · exact .inr ⟨e,e▸h3⟩
        · exact .inl ⟨h1,by omega,h3⟩
      · rintro (⟨h1,h2,h3⟩ | ⟨rfl,h3⟩)
        · exact ⟨h1,by omega,h3⟩
        · exact ⟨by omega,by omega,h3⟩
    rw [key,← ih];simp only [QU]
    split
    · rename_i h;simp only [List.mem_append,List.mem_singleton];exact ⟨fun q=>q.elim .inl (fun e=>.inr ⟨e,h⟩),fun q=>q.elim .inl (fun e=>.inr e.1)⟩
    · rename_i h;exact ⟨.inl,fun q=>q.elim id (fun e=>absurd e.2 h)⟩
theorem dueW_asc {p frm to:Int}:∀ {n:Nat},Asc' cmpZ (QU L p frm to n):=by
  intro n
  induction n with
  | zero=>exact List.Pairwise.nil
  | succ n ih=>
    simp only [QU];split
    · refine List.pairwise_append.2 ⟨ih,by simp,fun a ha b hb=>?_⟩
      have:=(dueW_mem.1 ha).2.1;simp only [List.mem_singleton] at hb;subst hb;unfold cmpZ;omega
    · exact ih
theorem strictZ {l:List Int}:Strict cmpZ l:=⟨fun a _ b _ h=>by unfold cmpZ;omega,fun a _=>by unfold cmpZ;omega,fun a _ b _ d _ h1 h2=>by unfold cmpZ at *;omega⟩
theorem asc_nodupZ {l:List Int} (h:Asc' cmpZ l):l.Nodup:=h.imp fun hab e=>by subst e;unfold cmpZ at hab;omega
theorem hold_due (g:GoodL L) {s:Slip} {since:Int} (h0:0≤since) (hh:0≤s.hour):DA L s since=QU L s.place since s.hour 9:=by
  have hn:=(NQ (L:=L) (p:=s.place) (since:=since) (s.hour+1).toNat).1;have ha:Asc' cmpZ (DA L s since):=HY strictZ hn;refine ML strictZ ?_ ha dueW_asc;refine (List.perm_ext_iff_of_nodup (asc_nodupZ ha) (asc_nodupZ dueW_asc)).2 fun x=>?_
  unfold DA;rw [(BQ _).mem_iff,holdTo_mem,dueW_mem]
  constructor
  · rintro ⟨h,h1,h2,h3,h4⟩
    obtain ⟨k,hk,_,_,h5,_⟩:=(MT g h4).1 h3;have hw:=(g.keepOf hk).2;rw [h5] at hw;exact ⟨hw.1,by omega,(had_iff g hw.1 h0).2 ⟨h,h2,by omega,h3⟩⟩
  · rintro ⟨h1,h2,h3⟩
    obtain ⟨h,h4,h5,h6⟩:=(had_iff g h1 h0).1 h3;exact ⟨h,by omega,h4,h6,by omega⟩
def sstep (s:Slip) (h:Int) (x:Slip):Int:=if x.kind=4∧x.place=s.place∧x.sort=s.sort∧x.soil=s.soil then x.hour else h
def HE (s:Slip) (l:List Slip):Int:=l.foldl (sstep s) 0
theorem NV {s x:Slip} {l:List Slip}:HE s (l++[x])=sstep s (HE s l) x:=by unfold HE;rw [List.foldl_append];rfl
theorem sinceM_ge {s:Slip}:∀ {l:List Slip},(∀ x∈l,0≤x.hour)→0≤HE s l:=by
  have aux:∀ {l:List Slip} {h:Int},0≤h→(∀ x∈l,0≤x.hour)→0≤l.foldl (sstep s) h:=by
    intro l
    induction l with
    | nil=>intro h h0 _;exact h0
    | cons x r ih=>
      intro h h0 hx;refine ih ?_ (fun y hy=>hx y (by simp [hy]));have:=hx x (by simp);unfold sstep;split <;> omega
  intro l h;exact aux (Int.le_refl _) h
theorem gfold_since {k:HKey} {s:Slip} (hk:k=keyOf s) {H:Hs} {S:List Slip}:∀ i,i≤S.length→CZ k (EM L ((evs H S).take i)).1=HE s (S.take i):=by
  intro i
  induction i with
  | zero=>intro _;rfl
  | succ i ih=>
    intro hi;rw [OG (by omega),CE (d:=AB) (by omega:i<S.length),NV,← ih (by omega),GS];unfold ND sstep;rw [show (PT (aft H (S.take i)) (S.getD i AB)).slip=S.getD i AB from rfl]
    by_cases e:(S.getD i AB).kind=4
    · rw [if_neg (fun hh=>hh e)]
      simp only [JV,hk,keyOf,HKey.mk.injEq]
      by_cases e2:s.place=(S.getD i AB).place∧s.sort=(S.getD i AB).sort∧s.soil=(S.getD i AB).soil
      · rw [if_pos e2,if_pos ⟨e,e2.1.symm,e2.2.1.symm,e2.2.2.symm⟩]
      · rw [if_neg e2,if_neg (fun hh=>e2 ⟨hh.2.1.symm,hh.2.2.1.symm,hh.2.2.2.symm⟩)]
    · rw [if_pos e,if_neg (fun hh=>e hh.1)]
theorem gfold_in {q:EvH}:∀ {i:Nat} {E:List Sh.Event},i≤E.length→q∈(EM L (E.take i)).2→q.1∈E.take i∧q.1.gap≠0:=by
  intro i
  induction i with
  | zero=>intro E _ hq;simp [EM] at hq
  | succ i ih=>
    intro E hi hq;rw [CE (d:=noEvent) (by omega:i<E.length)] at hq ⊢;rw [GS] at hq;unfold ND at hq
    split at hq
    · exact ⟨List.mem_append_left _ (ih (by omega) hq).1,(ih (by omega) hq).2⟩
    · simp only at hq
      split at hq
      · rename_i hg
        rcases List.mem_append.1 hq with hq | hq
        · exact ⟨List.mem_append_left _ (ih (by omega) hq).1,(ih (by omega) hq).2⟩
        · simp only [List.mem_singleton] at hq;subst hq;exact ⟨by simp,hg⟩
      · exact ⟨List.mem_append_left _ (ih (by omega) hq).1,(ih (by omega) hq).2⟩
def QX (G:List Gap) (n:Int):Bool:=G.any fun q=>decide (q.num=n)
theorem hasGap_iff {E:List Sh.Event} {n:Int}:QX (AV E) n=true↔∃ e∈E,e.slip.num=n∧e.gap≠0:=by
  unfold QX AV;simp only [List.any_eq_true,List.mem_flatMap,decide_eq_true_eq]
  constructor
  · rintro ⟨q,⟨e,he,hq⟩,hn⟩
    unfold NN at hq
    split at hq
    · rename_i hg;simp only [List.mem_singleton] at hq;subst hq;exact ⟨e,he,hn,hg⟩
    · cases hq
  · rintro ⟨e,he,hn,hg⟩
    exact ⟨⟨e.slip.num,e.gap⟩,⟨e,he,by unfold NN;rw [if_pos hg];simp⟩,hn⟩
theorem nodup_inj {α β:Type} {f:α→β} {l:List α} (h:(l.map f).Nodup):∀ a∈l,∀ b∈l,f a=f b→a=b:=by
  intro a ha b hb e
  induction l with
  | nil=>cases ha
  | cons x r ih=>
    rw [List.map_cons,List.nodup_cons] at h;rcases List.mem_cons.1 ha with rfl | ha1 <;> rcases List.mem_cons.1 hb with rfl | hb1
    · rfl
    · exact absurd (e▸List.mem_map_of_mem (f:=f) hb1) h.1
    · exact absurd (e▸List.mem_map_of_mem (f:=f) ha1) h.1
    · exact ih h.2 ha1 hb1
section
variable {i:Nat} (g:GoodL L) (hi:i<(AE AC L.slips).length)
include g hi
omit g in
theorem sorted_in:(AE AC L.slips).getD i AB∈L.slips:=(BQ _).subset (BE (d:=AB) hi)
theorem sorted_idx:∃ j:Nat,KG (fun x:Slip=>decide (x.num=((AE AC L.slips).getD i AB).num)) L.slips=(j:Int)∧L.slips.getD j AB=(AE AC L.slips).getD i AB:=by
  have hm:=sorted_in hi
  obtain ⟨j,h1,h2,h3,_⟩:=HW (p:=fun x:Slip=>decide (x.num=((AE AC L.slips).getD i AB).num)) (l:=L.slips) (d:=AB) (by
    rcases Int.lt_or_le (KG (fun x:Slip=>decide (x.num=((AE AC L.slips).getD i AB).num)) L.slips) 0 with h | h
    · have:=RM h;rw [List.any_eq_false] at this;exact absurd (by simp) (this _ hm)
    · exact h)
  exact ⟨j,h1,RS g.once _ (BE (d:=AB) h2) _ hm (of_decide_eq_true h3)⟩
omit g in
theorem ev_at:(AL L).take (i+1)=(AL L).take i++[PT (aft (CM L) ((AE AC L.slips).take i)) ((AE AC L.slips).getD i AB)]:=OG hi
omit g in
theorem ev_mem:PT (aft (CM L) ((AE AC L.slips).take i)) ((AE AC L.slips).getD i AB)∈AL L:=List.mem_of_mem_take (i:=i+1) (by rw [ev_at hi];simp)
theorem ev_gap {e:Sh.Event} (he:e∈AL L) (hn:e.slip.num=((AE AC L.slips).getD i AB).num):e=PT (aft (CM L) ((AE AC L.slips).take i)) ((AE AC L.slips).getD i AB):=nodup_inj (evs_nums g) _ he _ (ev_mem hi) hn
theorem held_none (hk:((AE AC L.slips).getD i AB).kind=4) (hg:QX (AV (AL L)) ((AE AC L.slips).getD i AB).num=false):AX L ((AE AC L.slips).getD i AB).num=([],11):=by
  obtain ⟨j,h1,h2⟩:=sorted_idx g hi;refine QD (MQ g) h1 (by rw [h2];exact hk) (lackAt_none fun q hq hn=>?_);have:=gfold_in (L:=L) (i:=(AL L).length) (E:=AL L) (Nat.le_refl _) (q:=q) (by rw [List.take_length];exact hq);rw [List.take_length] at this;rw [hasGap_iff.2 ⟨_,this.1,hn,this.2⟩] at hg;cases hg
theorem held_some (hk:((AE AC L.slips).getD i AB).kind=4) (hg:QX (AV (AL L)) ((AE AC L.slips).getD i AB).num=true):AX L ((AE AC L.slips).getD i AB).num=(QU L ((AE AC L.slips).getD i AB).place (HE ((AE AC L.slips).getD i AB) ((AE AC L.slips).take i)) ((AE AC L.slips).getD i AB).hour 9,0):=by
  obtain ⟨j,h1,h2⟩:=sorted_idx g hi;have hh:∀ x∈L.slips,0≤x.hour:=fun x hx=>(GF (g.slipOf hx)).2.1.1
  rw [← hold_due g (sinceM_ge (fun x hx=>hh x ((BQ _).subset (List.mem_of_mem_take hx)))) (hh _ (sorted_in hi))];refine KJ (MQ g) h1 (by rw [h2];exact hk) ?_;obtain ⟨e,he,hn,h3⟩:=hasGap_iff.1 hg;have hz:=ev_gap g hi he hn;rw [hz] at h3;have h4:=gfold_4 (L:=L) (xs:=(AL L).take i) (x:=PT (aft (CM L) ((AE AC L.slips).take i)) ((AE AC L.slips).getD i AB)) hk h3;rw [← ev_at hi] at h4;have h5:(EM L ((AL L).take i)).2++[(PT (aft (CM L) ((AE AC L.slips).take i)) ((AE AC L.slips).getD i AB),DA L ((AE AC L.slips).getD i AB) (HE ((AE AC L.slips).getD i AB) ((AE AC L.slips).take i)))] <+: BR L:=by
    rw [← gfold_since (L:=L) (k:=keyOf ((AE AC L.slips).getD i AB)) rfl (H:=CM L) i (by omega)];have h6:(EM L ((AL L).take (i+1))).2 <+: BR L:=gfold_pre (List.take_prefix _ _);rw [← h4] at h6;exact h6
  refine lackAt_hit h5 (fun q hq hq2=>?_) rfl;have h7:=(gfold_in (L:=L) (i:=i) (E:=AL L) (by rw [FT];rw [(BQ _).length_eq] at hi;omega) hq).1;have h8:=ev_gap g hi (List.mem_of_mem_take h7) hq2;have hN:(((AL L).take (i+1)).map fun e=>e.slip.num).Nodup:=(evs_nums g).sublist ((List.take_sublist _ _).map _);rw [ev_at hi,List.map_append,List.nodup_append] at hN;exact hN.2.2 _ (List.mem_map_of_mem (f:=fun e:Sh.Event=>e.slip.num) h7) _ (List.mem_map_of_mem (f:=fun e:Sh.Event=>e.slip.num) (List.mem_singleton.2 rfl)) hq2
end
end
section
variable {L:Lin} {p who frm to:Int} {ks:List Keep} {k:Keep} {i m:Nat}
end
section
variable {L:Lin} {G:List Gap} {n:Int} {i k m:Nat}
variable (g:GoodL L) (hi:i<(AO L.slips).length)
include g hi
theorem hs_none (hk:((AO L.slips).getD i AB).kind=4) (hm:(HB L).1.length≤m) (hg:QX ((HB L).1.take m) ((AO L.slips).getD i AB).num=false):AX L ((AO L.slips).getD i AB).num=([],11):=by
  rw [List.take_of_length_le hm,OL g] at hg;exact held_none g hi hk hg
theorem hs_some (hk:((AO L.slips).getD i AB).kind=4) (hm:(HB L).1.length≤m) (hg:QX ((HB L).1.take m) ((AO L.slips).getD i AB).num=true):AX L ((AO L.slips).getD i AB).num=(QU L ((AO L.slips).getD i AB).place (HE ((AO L.slips).getD i AB) ((AO L.slips).take i)) ((AO L.slips).getD i AB).hour 9,0):=by
  rw [List.take_of_length_le hm,OL g] at hg;exact held_some g hi hk hg
end
section
variable {A:List Slip} {s:Slip} {k:Nat}
theorem since_t (hk:k<A.length) (h:(cmp .eql (A.getD k AB).kind 4&&(cmp .eql (A.getD k AB).place s.place&&(cmp .eql (A.getD k AB).sort s.sort&&((A.getD k AB).soil == s.soil))))=true):(A.getD k AB).hour=HE s (A.take (k+1)):=by
  rw [CE (d:=AB) hk,NV];unfold sstep;rw [if_pos (by simpa [cmp] using h)]
theorem since_f (hk:k<A.length) (h:(cmp .eql (A.getD k AB).kind 4&&(cmp .eql (A.getD k AB).place s.place&&(cmp .eql (A.getD k AB).sort s.sort&&((A.getD k AB).soil == s.soil))))=false):HE s (A.take k)=HE s (A.take (k+1)):=by
  rw [CE (d:=AB) hk,NV];unfold sstep;rw [if_neg (fun e=>by simp only [GO,e.1,e.2.1,e.2.2.1,e.2.2.2,decide_true,beq_self_eq_true,Bool.and_self] at h;cases h)]
end
abbrev Ods:=List (Debt × Int)
def NO (k:Debt):Ods→Int
  | []=>0
  | x::r=>if x.1=k then x.2 else NO k r
def putO (k:Debt) (v:Int):Ods→Ods
  | []=>[(k,v)]
  | x::r=>if x.1=k then (k,v)::r else x::putO k v r
theorem getO_put {k j:Debt} {v:Int} {h:Ods}:NO j (putO k v h)=if j=k then v else NO j h:=by
  induction h with
  | nil=>simp only [putO,NO];by_cases e:j=k <;> simp [e,Ne.symm,eq_comm]
  | cons x r ih=>
    simp only [putO]
    split
    · rename_i e
      simp only [NO]
      by_cases e2:j=k
      · subst e2;simp
      · simp only [if_neg e2];rw [if_neg (Ne.symm e2),e,if_neg (Ne.symm e2)]
    · rename_i e
      simp only [NO]
      split
      · rename_i e2;rw [if_neg (fun e3=>e (e2.trans e3))]
      · exact ih
def okCells (k:Debt):Array Value:=#[.int .i64 k.who,.int .i64 k.sort,.int .i64 k.amt]
def encO (k:Debt):Value:=.agg (okCells k)
def flatO:List (Nat × SK):=[(0,.i .i64),(1,.i .i64),(2,.i .i64)]
theorem keyOk_debt {P:Program} {kt:TypeId} (h:KT P 4 kt=some (3,flatO)) (hagg:FA P kt=some true):KeyOk P kt encO:=
  keyOk_flat h (by decide) hagg okCells (fun _=>rfl) (fun _=>rfl) (fun a b=>by
    obtain ⟨a1,a2,a3⟩:=a;obtain ⟨b1,b2,b3⟩:=b
    show ((a1 == b1)&&((a2 == b2)&&((a3 == b3)&&true)))=decide ((⟨a1,a2,a3⟩:Debt)=⟨b1,b2,b3⟩)
    simp only [Bool.and_true,Debt.mk.injEq,Bool.decide_and];rfl)
def intO (h:Ods):List (Debt × Value):=h.map fun x=>(x.1,.int .i64 x.2)
theorem QA (k:Debt) (h:Ods):(KV k (intO h)).getD (.int .i64 0)=.int .i64 (NO k h):=by
  induction h with
  | nil=>rfl
  | cons x r ih => simp only [intO, List.map_cons, KV, NO] at ih ⊢; split; · rfl
                   · exact ih
theorem upd_intO (k:Debt) (v:Int) (h:Ods):upd k (.int .i64 v) (intO h)=intO (putO k v h):=by
  induction h with
  | nil=>rfl
  | cons x r ih => simp only [intO, List.map_cons, upd, putO] at ih ⊢; split; · rfl
                   · rw [ih];rfl
def MapO (es:Array MapEntry) (cl:Nat) (H:Ods):Prop:=MapB encO es cl (intO H)∧(H.map Prod.fst).Nodup
def EntO (es:Array MapEntry) (cl:Nat) (H:Ods) (k:Debt) (st:Nat):Prop:=MapB encO es cl (ent k (.int .i64 0) (intO H))∧Stamp es (ent k (.int .i64 0) (intO H)) st k∧(H.map Prod.fst).Nodup
theorem MapO.nil (cl:Nat):MapO #[] cl []:=⟨MapB.nil _ _,by simp⟩
theorem putO_keys (k:Debt) (v:Int):∀ H:Ods,(putO k v H).map Prod.fst=if k∈H.map Prod.fst then H.map Prod.fst else H.map Prod.fst++[k]:=by
  intro H
  induction H with
  | nil=>rfl
  | cons x r ih=>
    simp only [putO]
    by_cases h:x.1=k
    · simp [h]
    · rw [if_neg h]
      simp only [List.map_cons,ih,List.mem_cons,Ne.symm h,false_or]
      split <;> simp
theorem putO_once {k:Debt} {v:Int} {H:Ods} (h:(H.map Prod.fst).Nodup):((putO k v H).map Prod.fst).Nodup:=by
  rw [putO_keys]
  split
  · exact h
  · rename_i hk
    exact List.nodup_append.2 ⟨h,by simp,fun a ha b hb=>by
      simp only [List.mem_singleton] at hb
      intro e;rw [e,hb] at ha;exact hk ha⟩
theorem getO_mem {H:Ods} (h:(H.map Prod.fst).Nodup) {x:Debt × Int} (hx:x∈H):NO x.1 H=x.2:=by
  induction H with
  | nil=>cases hx
  | cons y r ih=>
    rw [List.map_cons,List.nodup_cons] at h;simp only [NO];rcases List.mem_cons.1 hx with rfl | hx
    · rw [if_pos rfl]
    · rw [if_neg (fun e=>h.1 (by rw [e];exact List.mem_map_of_mem hx)),ih h.2 hx]
theorem mem_getO {H:Ods} {k:Debt} (h:NO k H≠0):(k,NO k H)∈H:=by
  induction H with
  | nil=>exact absurd rfl h
  | cons y r ih=>
    simp only [NO] at h ⊢
    by_cases e:y.1=k
    · rw [if_pos e];subst e;exact List.mem_cons_self
    · rw [if_neg e] at h ⊢;exact List.mem_cons_of_mem _ (ih h)
end Go.Sh
namespace Go.Sl
open Go Go.Sh
section
variable {P:Program} {N:Nat} {ops:Array Oper} {i:Nat} {l:Sl} {I:Imm} {M:Seg} {ty:TypeId} {gd:Option (Nat × Bool)} {K:Sl→Imm→Seg→Prop} {d:Nat}
theorem stp_entO {x y : Operand} {T kt et r cl : Nat} {es : Array MapEntry} {H : Ods} {k : Debt} (n : Nat) (hop : GB ops N i = some (some d, .mapEntry T x y, ty, gd)) (hg : FH ops l gd = some true)
    (hT:RG P T=some (kt,et)) (hK:KeyOk P kt encO) (hx:CJ l x=some (.map (some r))) (hy:CJ l y=some (encO k)) (hz:IM P et=some (.int .i64 0)) (hn:M[n]?=some (r,Obj.map es cl)) (hb:MapO es cl H)
    (h:∀ es' cl' (st:Nat),EntO es' cl' H k st→K ((d,.tuple #[.int .i64 (NO k H),.int .i64 (st:Int)])::l) I (M.set n (r,Obj.map es' cl'))):Stp P N ops i l I M K:=
  RA n hop hg hT hK hx hy hz hn hb.1 fun es' cl' st h1 h2=>by
    rw [QA];exact h es' cl' st ⟨h1,h2,hb.2⟩
theorem stp_fillO {x y u : Operand} {T r cl st : Nat} {es : Array MapEntry} {H : Ods} {k : Debt} {v : Int} (n : Nat) (hop : GB ops N i = some (none, .entryStore T x y u, ty, gd)) (hg : FH ops l gd = some true)
    (hx:CJ l x=some (.map (some r))) (hy:CJ l y=some (.int .i64 (st:Int))) (hu:CJ l u=some (.int .i64 v)) (hn:M[n]?=some (r,Obj.map es cl)) (hb:EntO es cl H k st)
    (h:∀ es',MapO es' cl (putO k v H)→K l I (M.set n (r,Obj.map es' cl))):Stp P N ops i l I M K:=
  NK (k:=k) n hop hg hx hy hu hn hb.1 hb.2.1 fun es' h'=>h es' ⟨by rw [upd_ent,upd_intO] at h';exact h',putO_once hb.2.2⟩
theorem stp_nextO {x : Operand} {r cl b : Nat} {es : Array MapEntry} {seen : Array Nat} {todo : Ods} (n : Nat) (hop : GB ops N i = some (some d, .next x false, ty, gd)) (hg : FH ops l gd = some true)
    (hx:CJ l x=some (.pointer (some ⟨b,0,none⟩))) (hn:M[n]?=some (b,Obj.mapIter (some r) cl seen cl)) (hm:Holds I M r (.map es cl)) (hb:Borns es cl) (hl:Left encO es seen (intO todo))
    (h0:todo=[]→K ((d,.tuple #[.bool false])::l) I M)
    (h1:∀ A (y:Debt × Int) B seen',todo=A++y::B→Left encO es seen' (intO (A++B))→AtEntry encO es seen' (y.1,.int .i64 y.2)→K ((d,.tuple #[.bool true,encO y.1,.int .i64 y.2])::l) I (M.set n (b,Obj.mapIter (some r) cl seen' cl))):Stp P N ops i l I M K:=
  stp_next n hop hg hx hn hm hb hl (fun h=>h0 (by simpa [intO] using h)) fun A y B seen' e hl' ha=>by
    obtain ⟨A',y',B',rfl,rfl,rfl,rfl⟩:=map_cut (show todo.map _=A++y::B from e);exact h1 A' y' B' seen' rfl (by simpa [intO] using hl') ha
end
end Go.Sl
namespace Go.Sh
open Go Go.Sl
def oweK (q:EvH):Debt:=⟨q.2.getD 0 0,q.1.slip.sort,0⟩
def MF (O:Ods) (q:EvH):Ods:=if q.1.gap<0∧q.2.length=1 then putO (oweK q) (NO (oweK q) O-q.1.gap) O else O
def EJ (l:List EvH):Ods:=l.foldl MF []
def mkD (q:Debt × Int):Debt:=⟨q.1.who,q.1.sort,q.2⟩
def DV (a b:Debt):Int:=if a.who≠b.who then a.who-b.who else a.sort-b.sort
def QR (s:Debt):Prop:=-1000000≤s.who∧s.who≤1000000∧-1000000≤s.sort∧s.sort≤1000000
def II (L:Lin):List Debt × Int:=if BG L≠0 then ([],BG L) else (AE DV ((EJ (BR L)).map mkD),0)
section
variable {L:Lin} {xs:List EvH} {x:EvH}
theorem owesOf_snoc:EJ (xs++[x])=MF (EJ xs) x:=by unfold EJ;rw [List.foldl_append];rfl
theorem owes_t (h:(cmp .lss x.1.gap 0&&cmp .eql (x.2.length:Int) 1)=true):putO ⟨x.2.getD 0 0,x.1.slip.sort,0⟩ (NO ⟨x.2.getD 0 0,x.1.slip.sort,0⟩ (EJ xs)-x.1.gap) (EJ xs)=EJ (xs++[x]):=by
  simp only [cmp_lss,GO,Bool.and_eq_true,decide_eq_true_eq] at h;rw [owesOf_snoc];unfold MF;rw [if_pos ⟨h.1,by omega⟩];rfl
theorem owes_f (h:(cmp .lss x.1.gap 0&&cmp .eql (x.2.length:Int) 1)=false):EJ xs=EJ (xs++[x]):=by
  simp only [cmp_lss,GO,Bool.and_eq_false_iff,decide_eq_false_iff_not] at h;rw [owesOf_snoc];unfold MF;rw [if_neg (fun e=>by omega)]
theorem owedE_1 (h:BG L≠0):II L=([],BG L):=if_pos h
theorem owedE_2 (h:BG L=0):II L=(AE DV ((EJ (BR L)).map mkD),0):=if_neg (fun x=>x h)
theorem QE {q:EvH}:∀ {i:Nat} {E:List Sh.Event},i≤E.length→q∈(EM L (E.take i)).2→q.1∈E.take i∧q.1.gap≠0∧∃ s,q.2=DA L q.1.slip s:=by
  intro i
  induction i with
  | zero=>intro E _ hq;simp [EM] at hq
  | succ i ih=>
    intro E hi hq;rw [CE (d:=noEvent) (by omega:i<E.length)] at hq ⊢;rw [GS] at hq;unfold ND at hq
    split at hq
    · exact ⟨List.mem_append_left _ (ih (by omega) hq).1,(ih (by omega) hq).2⟩
    · simp only at hq
      split at hq
      · rename_i hg
        rcases List.mem_append.1 hq with hq | hq
        · exact ⟨List.mem_append_left _ (ih (by omega) hq).1,(ih (by omega) hq).2⟩
        · simp only [List.mem_singleton] at hq;subst hq;exact ⟨by simp,hg,_,rfl⟩
      · exact ⟨List.mem_append_left _ (ih (by omega) hq).1,(ih (by omega) hq).2⟩
theorem lack_len:∀ {xs:List Sh.Event} {q:Hs × List EvH},((xs.foldl (ND L) q).2).length≤q.2.length+xs.length:=by
  intro xs
  induction xs with
  | nil=>intro q;exact Nat.le_refl _
  | cons x r ih=>
    intro q;have h1:=ih (q:=ND L q x);have h2:(ND L q x).2.length≤q.2.length+1:=by
      unfold ND;split
      · omega
      · simp only;split
        · simp
        · omega
    simp only [List.foldl_cons,List.length_cons];omega
variable (g:GoodL L)
include g
theorem MU:(BR L).length≤8:=by
  have h1:=lack_len (L:=L) (xs:=AL L) (q:=([],[]));have h2:=FT (L:=L);have h3:=g.slips;unfold BR EM;simp only [List.length_nil] at h1;omega
theorem HQ {q:EvH} (hq:q∈BR L):(-1000000≤q.1.gap∧q.1.gap≤1000000)∧(0≤q.1.slip.sort∧q.1.slip.sort≤1)∧∀ w∈q.2,1≤w∧w≤9:=by
  have h1:=QE (L:=L) (i:=(AL L).length) (E:=AL L) (Nat.le_refl _) (q:=q) (by rw [List.take_length];exact hq);rw [List.take_length] at h1;obtain ⟨h2,h3,s,h4⟩:=h1;have h5:=gap_small g ⟨q.1.slip.num,q.1.gap⟩ (List.mem_flatMap.2 ⟨q.1,h2,by unfold NN;rw [if_pos h3];simp⟩);have h6:=GF (g.slipOf ((BQ _).subset (MP h2)));have h7:=g.sorts;refine ⟨h5,by omega,fun w hw=>?_⟩;rw [h4] at hw;unfold DA at hw;have hw2:=(BQ _).subset hw;obtain ⟨_,_,_,h8,h9⟩:=holdTo_mem.1 hw2;obtain ⟨k,hk,_,_,h10,_⟩:=(MT g h9).1 h8;have:=(g.keepOf hk).2;omega
theorem owes_keys:∀ {xs:List EvH},(∀ q∈xs,q∈BR L)→∀ x∈EJ xs,x.1.amt=0∧(1≤x.1.who∧x.1.who≤9)∧(0≤x.1.sort∧x.1.sort≤1):=by
  have aux:∀ {xs:List EvH} {O:Ods},(∀ q∈xs,q∈BR L)→(∀ x∈O,x.1.amt=0∧(1≤x.1.who∧x.1.who≤9)∧(0≤x.1.sort∧x.1.sort≤1))→∀ x∈xs.foldl MF O,x.1.amt=0∧(1≤x.1.who∧x.1.who≤9)∧(0≤x.1.sort∧x.1.sort≤1):=by
    intro xs
    induction xs with
    | nil=>intro O _ h;exact h
    | cons q r ih=>
      intro O hq h;refine ih (fun y hy=>hq y (by simp [hy])) ?_;unfold MF
      split
      · rename_i hc
        intro x hx;have hk:x.1∈(putO (oweK q) (NO (oweK q) O-q.1.gap) O).map Prod.fst:=List.mem_map_of_mem hx;rw [putO_keys] at hk;have hl:=HQ g (hq q (by simp));have hnew:x.1=oweK q→x.1.amt=0∧(1≤x.1.who∧x.1.who≤9)∧(0≤x.1.sort∧x.1.sort≤1):=fun e=>by
          rw [e];exact ⟨rfl,hl.2.2 _ (BE (d:=0) (by omega)),hl.2.1⟩
        have hold:x.1∈O.map Prod.fst→x.1.amt=0∧(1≤x.1.who∧x.1.who≤9)∧(0≤x.1.sort∧x.1.sort≤1):=fun e=>by
          obtain ⟨y,hy,e2⟩:=List.mem_map.1 e;rw [← e2];exact h y hy
        split at hk
        · exact hold hk
        · rcases List.mem_append.1 hk with hk | hk
          · exact hold hk
          · exact hnew (List.mem_singleton.1 hk)
      · exact h
  intro xs hq x hx;exact aux hq (fun x hx=>by cases hx) x hx
theorem owes_bound {k:Debt}:∀ {xs:List EvH},(∀ q∈xs,q∈BR L)→0≤NO k (EJ xs)∧NO k (EJ xs)≤1000000*xs.length:=by
  have aux:∀ {xs:List EvH} {O:Ods} {B:Int},(∀ q∈xs,q∈BR L)→(∀ k,0≤NO k O∧NO k O≤B)→∀ k,0≤NO k (xs.foldl MF O)∧NO k (xs.foldl MF O)≤B+1000000*xs.length:=by
    intro xs
    induction xs with
    | nil=>intro O B _ h k;have:=h k;simp only [List.foldl_nil,List.length_nil];omega
    | cons q r ih=>
      intro O B hq h k
      have:=ih (O:=MF O q) (B:=B+1000000) (fun y hy=>hq y (by simp [hy])) (fun j=>by
        have hl:=(HQ g (hq q (by simp))).1
        unfold MF;split
        · rw [getO_put];have:=h j;have:=h (oweK q);split <;> omega
        · have:=h j;omega) k
      simp only [List.foldl_cons,List.length_cons,Int.natCast_add,Int.natCast_one];omega
  intro xs hq;have:=aux (O:=[]) (B:=0) hq (fun k=>by simp [NO]) k;unfold EJ;omega
end
section
variable {O dn td:Ods}
theorem MH (hn:(O.map Prod.fst).Nodup) (ha:∀ x∈O,x.1.amt=0):Strict DV (O.map mkD):=by
  refine ⟨fun a ha' b hb' hne=>?_,fun a _=>?_,fun a _ b _ d _ h1 h2=>?_⟩
  · obtain ⟨p,hp,rfl⟩:=List.mem_map.1 ha'
    obtain ⟨q,hq,rfl⟩:=List.mem_map.1 hb'
    have:¬ (p.1.who=q.1.who∧p.1.sort=q.1.sort):=fun e=>hne (by
      have e1:p.1=q.1:=by
        have h1:=ha p hp;have h2:=ha q hq
        cases hp1:p.1;cases hq1:q.1
        rw [hp1,hq1] at e;rw [hp1] at h1;rw [hq1] at h2
        simp only at e h1 h2
        rw [e.1,e.2,h1,h2]
      have:=nodup_inj hn p hp q hq e1
      rw [this])
    unfold DV mkD;simp only
    split <;> split <;> omega
  · unfold DV;split <;> omega
  · unfold DV at *;split at h1 <;> split at h2 <;> split <;> omega
theorem nodup_debts (hn:(O.map Prod.fst).Nodup) (ha:∀ x∈O,x.1.amt=0):(O.map mkD).Nodup:=by
  have hs:=MH hn ha;rw [List.Nodup,List.pairwise_map];have h1:O.Pairwise fun a b=>a.1≠b.1:=List.pairwise_map.1 hn
  refine List.Pairwise.imp_of_mem (fun {a b} hA hB hab e=>hab ?_) h1;have h2:=ha a hA;have h3:=ha b hB;unfold mkD at e;simp only [Debt.mk.injEq] at e;cases ha1:a.1;cases hb1:b.1;rw [ha1] at h2 e;rw [hb1] at h3 e;simp only at h2 h3 e;rw [e.1,e.2.1,h2,h3]
theorem debts_sorted (hn:(O.map Prod.fst).Nodup) (ha:∀ x∈O,x.1.amt=0) (hp:(dn++td).Perm O) (ht:td=[]):AE DV (dn.map mkD)=AE DV (O.map mkD):=by
  subst ht;rw [List.append_nil] at hp;have hpm:(dn.map mkD).Perm (O.map mkD):=hp.map _;have hs:=MH hn ha;have hnd:=nodup_debts hn ha;exact ML ((hs.perm hpm).perm (BQ _)) ((BQ _).trans (hpm.trans (BQ _).symm)) (HY (hs.perm hpm) (hpm.nodup_iff.2 hnd)) (HY hs hnd)
theorem small_debts {L:Lin} (g:GoodL L) (hp:(dn++td).Perm (EJ (BR L))):∀ x∈dn.map mkD,QR x:=fun x hx=>by
  obtain ⟨q,hq,rfl⟩:=List.mem_map.1 hx;have:=owes_keys g (xs:=BR L) (fun _ h=>h) q (hp.subset (List.mem_append_left _ hq));unfold QR mkD;simp only;omega
theorem owes_len:∀ {xs:List EvH},(EJ xs).length≤xs.length:=by
  have aux:∀ {xs:List EvH} {O:Ods},(xs.foldl MF O).length≤O.length+xs.length:=by
    intro xs
    induction xs with
    | nil=>intro O;exact Nat.le_refl _
    | cons q r ih=>
      intro O;have h1:=ih (O:=MF O q);have h2:(MF O q).length≤O.length+1:=by
        unfold MF;split
        · have h3:=congrArg List.length (putO_keys (oweK q) (NO (oweK q) O-q.1.gap) O)
          rw [List.length_map] at h3
          split at h3
          · rw [List.length_map] at h3;omega
          · rw [List.length_append,List.length_map,List.length_singleton] at h3;omega
        · omega
      simp only [List.foldl_cons,List.length_cons];omega
  intro xs;have:=aux (xs:=xs) (O:=[]);unfold EJ;simp only [List.length_nil] at this;omega
end
section
variable {L:Lin} {ns:List Int} {s:Slip} {k:Nat}
end
structure SameB (A B:Lin):Prop where
  places:B.places=A.places
  sorts:B.sorts=A.sorts
  start:B.start=A.start
  keeps:B.keeps=A.keeps
  slips:B.slips.Perm A.slips
theorem good_of {A:Lin} (g:GoodL A) {l:List Slip} (hl:l.length≤8) (hs:∀ s∈l,DI A s=0) (ho:Once l):GoodL ⟨A.places,A.sorts,A.start,A.keeps,l⟩:=by
  refine ⟨g.places,g.sorts,g.start,g.rows,g.nums,g.keeps,g.keep,hl,fun k hk=>?_⟩;have hm:=BE (xs:=l) (d:=AB) hk;have h1:DI ⟨A.places,A.sorts,A.start,A.keeps,l⟩ (l.getD k AB)=0:=hs _ hm;unfold DC;simp only;rw [if_neg (fun x=>x h1),if_neg];intro h;unfold hasNum at h;obtain ⟨x,hx,e⟩:=List.any_eq_true.1 h;obtain ⟨j,hj,rfl⟩:=List.mem_iff_getElem.1 hx;rw [List.length_take] at hj;have e2:=of_decide_eq_true e;rw [List.getElem_take] at e2;have e3:l.getD k AB=l[k]:=by simp [List.getD,hk]
  rw [e3] at e2;have:=(List.getElem_inj (xs:=l.map Slip.num) (i:=j) (j:=k) (h₀:=by rw [List.length_map];omega) (h₁:=by rw [List.length_map];exact hk) ho).1 (by simpa using e2);omega
theorem SameB.eq {A B:Lin} (h:SameB A B):B=⟨A.places,A.sorts,A.start,A.keeps,B.slips⟩:=by
  cases B;obtain ⟨h1,h2,h3,h4,_⟩:=h;simp only at h1 h2 h3 h4;subst h1 h2 h3 h4;rfl
theorem goodB {A B:Lin} (g:GoodL A) (h:SameB A B):GoodL B:=by
  rw [h.eq];refine good_of g (by rw [h.slips.length_eq];exact g.slips) (fun s hs=>g.slipOf (h.slips.subset hs)) ?_;exact (once_perm h.slips).2 g.once
section
variable {A B:Lin} (g:GoodL A) (h:SameB A B)
include g h
end
def LO (L:Lin) (o:List Int):List Slip:=o.map fun q=>L.slips.getD q.toNat AB
theorem pick_whole {L:Lin}:∀ n,n≤L.slips.length→LO L ((List.range n).map fun i:Nat=>(i:Int))=L.slips.take n:=by
  intro n
  induction n with
  | zero=>intro _;rfl
  | succ n ih=>
    intro hn;rw [List.range_succ,List.map_append];unfold LO at *;rw [List.map_append,ih (by omega),CE (d:=AB) (by omega)];simp
section
variable {L:Lin} {o:List Int} (ho:o.Perm ((List.range L.slips.length).map fun i:Nat=>(i:Int)))
include ho
theorem pick_perm:(LO L o).Perm L.slips:=by
  have h1:(LO L o).Perm (LO L ((List.range L.slips.length).map fun i:Nat=>(i:Int))):=ho.map _;rw [pick_whole _ (Nat.le_refl _),List.take_length] at h1;exact h1
theorem pick_same:SameB L ⟨L.places,L.sorts,L.start,L.keeps,LO L o⟩:=⟨rfl,rfl,rfl,rfl,pick_perm ho⟩
theorem pick_len:o.length=L.slips.length:=by rw [ho.length_eq,List.length_map,List.length_range]
theorem pick_rng {k:Nat} (hk:k<o.length):0≤o.getD k 0∧o.getD k 0<L.slips.length:=by
  have hm:=ho.subset (BE (xs:=o) (d:=0) hk);obtain ⟨i,hi,e⟩:=List.mem_map.1 hm;have:=List.mem_range.1 hi;omega
omit ho in
theorem OX {k:Nat} (hk:k≤o.length):(LO L (o.take k)).length=k:=by unfold LO;rw [List.length_map,List.length_take];omega
end
section
variable {L:Lin} {o:List Int} {k:Nat} (ho:o.Perm ((List.range L.slips.length).map fun i:Nat=>(i:Int)))
include ho
theorem pick_step (hk:k<L.slips.length):(LO L (o.take k)++L.slips.drop k).set k (L.slips.getD (o.getD k 0).toNat AB)=LO L (o.take (k+1))++L.slips.drop (k+1):=by
  have hl:=pick_len ho;have hlen:=OX (L:=L) (o:=o) (k:=k) (by omega);rw [List.set_append_right _ _ (by omega),hlen,Nat.sub_self,drop_cons (d:=AB) hk];have hnext:LO L (o.take (k+1))=LO L (o.take k)++[L.slips.getD (o.getD k 0).toNat AB]:=by rw [CE (d:=0) (by omega)];unfold LO;rw [List.map_append];rfl
  rw [hnext];simp
theorem shuf_same (hk:L.slips.length≤k):SameB L ⟨L.places,L.sorts,L.start,L.keeps,LO L (o.take k)++L.slips.drop k⟩:=by
  have hl:=pick_len ho;rw [List.take_of_length_le (by omega),List.drop_of_length_le hk,List.append_nil];exact pick_same ho
end
section
variable {L:Lin} (g:GoodL L)
include g
end
abbrev AscI (l:List Int):Prop:=l.Pairwise (·<·)
section
variable {L:Lin} {o:List Int} (g:GoodL L) (ha:AscI o) (hr:∀ x∈o,0≤x∧x<(L.slips.length:Int))
include hr
include g ha
end
section
variable {L:Lin} {o:List Int} {k:Nat}
variable (g:GoodL L) (ha:AscI o) (hr:∀ x∈o,0≤x∧x<(L.slips.length:Int))
include g ha hr
end
section
variable {l:List Slip} {n:Nat}
end
section
variable {L:Lin} {all:List Int}
variable (g:GoodL L) {S:List Int} (ha:AscI S) (hr:∀ q∈S,(0:Int)≤q∧q<(allN L).length)
include g ha hr
end
end Go.Sh
namespace Go.Proofs.YtgcemienebmdeaaGreat
open Go Go.Sl Go.Sh
set_option maxRecDepth 100000
noncomputable def c_there (p:List Nat):Code:=sub (AU Tryz.f79) p
theorem there_ct (I:Imm) (z:Value) (xs:List Slip) (n:Int) (z_f:GN I z xs):CtV Tryz.prog 79 #[z,vI n] I (vI (KG (fun x:Slip=>decide (x.num=n)) xs)):=by
 obtain ⟨a3,a4,a6,a8,a7,a9,b0,a5⟩:=id z_f;subst a7;refine fr (args:=[_,_]) (N:=20) Tryz.func79 (fun F=>?_);show Run _ _ (c_there []) _ _ [(0,vS a3 xs.length a4),(1,vI (n))] _ _;refine rnm (rqr ?_);refine sp 1 [(4,vI (0))] (se (rq (rqr (sp 1 [(5,vI (0))] (se (rb 0 ?_))))));refine rl (fun mz a w=>∃ k:Nat,(k≤xs.length)∧(∀ j,j<k→(fun x:Slip=>decide (x.num=n)) (xs.getD j AB)=false)∧Slots 20 [(5,vI ↑k),(0,vS a3 xs.length a4),(1,vI (n))] a∧a.defers=[]∧St I (F) w∧mz=xs.length-k) ?_ ?_
 ·intro a w hS hD hW;exact ⟨_,0,Nat.zero_le _,(fun j hj=>by omega),hS.sub (.cons 5 rfl (.cons 0 rfl (.cons 1 rfl (.nil _)))),hD,hW,rfl⟩
 rintro mz a w ⟨k,hk,a2,hS,hD,hW,rfl⟩
 refine AS hS hD hW ?_;clear hS hD hW a w;refine rq (rqr (sp 4 [(9,.bool (cmp .lss (↑k) (↑(xs.length))))] (se (rc 9 rfl (fun h1=>?_) (fun h1=>?_)))))
 ·
  have a0:=h1;have h1:=CC h1;refine AQ (NX (rq (rb 1 (rqr (sp 2 [(13,vI (↑k)),(12,vS a3 xs.length a4)] (sd (di 14 8 (k) a5.addr) (sp 1 [(15,.pointer (some ⟨a6,a8+k*8,none⟩))] (sd (dl 16 (FO a5 (k) (by omega) 0 (by decide) (v:=vI ((xs.getD (k) AB).num)) rfl)) (sp 2 [(18,.bool (cmp .eql ((xs.getD (k) AB).num) (n)))] (se (rc 18 rfl (fun h2=>?_) (fun h2=>?_))))))))))))
  ·
   have a1:=h2;have h2:=BI h2;refine rqr (sp 2 [(4,vI (↑k))] (se (BJ ((RB (RP (RP (RB (RP (AG (t:=4) [] (by kernel_rfl) rfl (TR _) (IR _) ?_))))))))));exact ⟨congrArg (Value.int .i64) (idxF_hit (d:=AB) a2 (by omega) (decide_eq_true h2)).symm,rfl⟩
  have a1:=h2;have h2:=BL h2;refine AQ (NB (NX (rr (sp 1 [(10,vI (↑k))] (sd (da 11 (↑k) (1)) (sp 1 [(5,vI (↑k+1))] (ee ?_)))))));refine AM (xs.length-(k+1)) (by omega) ?_;intro a w hS hD hW;exact ⟨k+1,by omega,GY a2 (decide_eq_false h2),hS.sub (.consE 5 rfl rfl (.cons 0 rfl (.cons 1 rfl (.nil _)))),hD,hW,rfl⟩
 have a0:=h1;have h1:=CH h1;refine CB 0 ((EP (EP (EB (NX (rqr (sp 1 [(4,vI ((-1)))] (se (BJ (AG (t:=4) [] (by kernel_rfl) rfl (TR _) (IR _) ?_))))))))));exact ⟨congrArg (Value.int .i64) (idxF_miss (d:=AB) a2 (by omega)).symm,rfl⟩
end Go.Proofs.YtgcemienebmdeaaGreat
namespace Go.Sh
open Go Go.Sl
def JZ (L:Lin):Int:=bif !inB L.places 1 4||!inB L.sorts 1 2 then 1 else CS L
section
variable {L:Lin} {k m:Nat}
theorem QM (h:(!inB L.places 1 4||!inB L.sorts 1 2)=true):JZ L=1:=by unfold JZ;rw [h];rfl
theorem KL (h:(!inB L.places 1 4||!inB L.sorts 1 2)=false):JZ L=CS L:=by unfold JZ;rw [h];rfl
theorem startErr_3r (h:(L.start.length:Int)=L.places) (ha:(L.start.all fun r=>decide ((r.length:Int)=L.sorts))=true) (hk:k<L.start.length) (hm:m<(L.start.getD k []).length) (hb:inB ((L.start.getD k []).getD m 0) 0 50=false):CS L=1:=by
  unfold CS;rw [if_neg (fun x=>x h),if_neg (by rw [ha];decide),if_pos];rw [← Bool.not_eq_true,List.all_eq_true];intro hh;have h1:(L.start.getD k []).getD m 0∈L.start.flatten:=List.mem_flatten.2 ⟨_,BE (xs:=L.start) (d:=[]) hk,BE (xs:=L.start.getD k []) (d:=0) hm⟩;rw [hh _ h1] at hb;cases hb
theorem startErr_4r (h:(L.start.length:Int)=L.places) (ha:(L.start.all fun r=>decide ((r.length:Int)=L.sorts))=true) (hk:L.start.length≤k) (hb:∀ r∈L.start.take k,(r.all fun n=>inB n 0 50)=true):CS L=0:=by
  refine startErr_4 h ha (List.all_eq_true.2 fun n hn=>?_);obtain ⟨r,hr,hnr⟩:=List.mem_flatten.1 hn;rw [List.take_of_length_le hk] at hb;exact List.all_eq_true.1 (hb r hr) n hnr
theorem MV (h:JZ L=0):(!inB L.places 1 4||!inB L.sorts 1 2)=false∧CS L=0∧(1≤L.places∧L.places≤4)∧(1≤L.sorts∧L.sorts≤2):=by
  cases e:(!inB L.places 1 4||!inB L.sorts 1 2) with
  | true=>rw [QM e] at h;cases h
  | false=>
    rw [KL e] at h;simp only [Bool.or_eq_false_iff,Bool.not_eq_false'] at e;exact ⟨rfl,h,DL e.1,DL e.2⟩
theorem linErr_r1 (h:¬ JZ L=0):BG L=JZ L:=by
  rw [JX];unfold linC;cases e:(!inB L.places 1 4||!inB L.sorts 1 2) with
  | true=>rw [QM e];rfl
  | false=>
    rw [KL e] at h ⊢;simp [cmp,h]
theorem linErr_r2 (h:JZ L=0) (h2:¬ CQ L=0):BG L=CQ L:=by
  obtain ⟨e,e2,_⟩:=MV h;rw [JX];unfold linC;rw [e,e2];simp [cmp,h2]
theorem linErr_r3 (h:JZ L=0) (h2:CQ L=0) (h3:8<L.slips.length):BG L=6:=by
  obtain ⟨e,e2,_⟩:=MV h;have h4:(8:Int)<L.slips.length:=by omega
  rw [JX];unfold linC;rw [e,e2,h2];simp [cmp,h4]
theorem linErr_r4 {x:Int} (h:JZ L=0) (h2:CQ L=0) (h3:¬ 8<L.slips.length) (h0:FG (DC L) L.slips.length=x):BG L=x:=by
  obtain ⟨e,e2,_⟩:=MV h;have h4:¬ (8:Int)<L.slips.length:=by omega
  exact OU h0 e (by rw [e2];rfl) (by rw [h2];rfl) (by simp [cmp,h4])
theorem keepErr_1r (h3:inB (L.keeps.getD k AJ).place 0 (L.places-1)=true) (h:(!inB (L.keeps.getD k AJ).hour 0 200||!inB (L.keeps.getD k AJ).who 1 9)=true):EN L k=1:=by
  cases h4:inB (L.keeps.getD k AJ).hour 0 200 with
  | false=>exact keepErr_1 h3 h4
  | true=>rw [h4] at h;exact keepErr_1b h3 h4 (by simpa using h)
theorem keepErr_45 (h:(!inB (L.keeps.getD k AJ).hour 0 200||!inB (L.keeps.getD k AJ).who 1 9)=false):inB (L.keeps.getD k AJ).hour 0 200=true∧inB (L.keeps.getD k AJ).who 1 9=true:=by
  simpa only [Bool.or_eq_false_iff,Bool.not_eq_false'] using h
theorem keepErr_4r (h3:inB (L.keeps.getD k AJ).place 0 (L.places-1)=true) (h:(!inB (L.keeps.getD k AJ).hour 0 200||!inB (L.keeps.getD k AJ).who 1 9)=false) (hk:k<L.keeps.length) (hm:m<k) (hb:(cmp .eql (L.keeps.getD m AJ).place (L.keeps.getD k AJ).place&&cmp .eql (L.keeps.getD m AJ).hour (L.keeps.getD k AJ).hour)=true):EN L k=4:=by
  obtain ⟨h4,h5⟩:=keepErr_45 h;refine keepErr_4 h3 h4 h5 (List.any_eq_true.2 ⟨L.keeps.getD m AJ,?_,by simpa only [GO] using hb⟩);rw [List.mem_take_iff_getElem];exact ⟨m,by omega,by simp [List.getD,show m<L.keeps.length by omega]⟩
theorem keepErr_0r (h3:inB (L.keeps.getD k AJ).place 0 (L.places-1)=true) (h:(!inB (L.keeps.getD k AJ).hour 0 200||!inB (L.keeps.getD k AJ).who 1 9)=false) (hb:∀ m,m<k→(cmp .eql (L.keeps.getD m AJ).place (L.keeps.getD k AJ).place&&cmp .eql (L.keeps.getD m AJ).hour (L.keeps.getD k AJ).hour)=false):EN L k=0:=by
  obtain ⟨h4,h5⟩:=keepErr_45 h;refine keepErr_ok h3 h4 h5 (List.any_eq_false.2 fun x hx=>?_);rw [List.mem_take_iff_getElem] at hx;obtain ⟨m,hm,rfl⟩:=hx;have:=hb m (by omega);rw [GO,GO,show L.keeps.getD m AJ=L.keeps[m] by simp [List.getD,show m<L.keeps.length by omega]] at this;rw [this];decide
end
def IJ (L:Lin) (s:Slip):Int:=
  bif !inB s.num 1 999||!inB s.hour 0 200 then 1 else bif !inB s.kind 1 6 then 8
  else bif !inB s.place 0 (L.places-1) then 3
  else bif cmp .eql s.kind 1 then (bif !inB s.to 0 (L.places-1) then 3 else bif cmp .eql s.to s.place then 4 else bif !inB s.sort 0 (L.sorts-1) then 3
  else bif !inB s.amt (if s.kind=4 then 0 else 1) 50 then 1 else 0)
  else bif !cmp .eql s.to 0 then 1
  else bif !inB s.sort 0 (L.sorts-1) then 3
  else bif s.soil&&!cmp .eql s.kind 4 then 1
  else bif !inB s.amt (if s.kind=4 then 0 else 1) 50 then 1 else 0
theorem DR (L:Lin) (s:Slip):DI L s=IJ L s:=by
  rw [FJ];unfold OZ IJ;cases inB s.num 1 999 <;> cases inB s.hour 0 200 <;> cases cmp .eql s.kind 1 <;> cases s.soil <;> simp
end Go.Sh
namespace Go.Proofs.YtgcemienebmdeaaGreat
open Go Go.Sl Go.Sh
set_option maxRecDepth 100000
noncomputable def c_rcheckStart (p:List Nat):Code:=sub (AU Tryz.f105) p
theorem rcheckStart_ct (I:Imm) (l:Value) (L:Lin) (l_f:IsLin I l L):CtV Tryz.prog 105 #[l] I (vI (JZ L)):=by
 obtain ⟨l1,l2,l3,f2,d1,d3,d5⟩:=id l_f;subst f2;obtain ⟨a0,a1,d8,e1,d7,d0,d9,e0,a4,b3⟩:=id d1;subst d0;obtain ⟨a5,a6,e2,e5,d2,e3,e4,e6⟩:=id d3;subst d2;obtain ⟨a7,a8,e7,f0,d4,e8,e9,f1⟩:=id d5;subst d4;refine fr (args:=[_]) (N:=65) Tryz.func105 (fun F=>?_);show Run _ _ (c_rcheckStart []) _ _ [(0,.agg #[vI (L.places),vI (L.sorts),vS a0 L.start.length a1,vS a5 L.keeps.length a6,vS a7 L.slips.length a8])] _ _;refine rnm (rqr ?_);refine sS (sb 1 26 #[vI (L.places),vI (L.sorts),vS a0 L.start.length a1,vS a5 L.keeps.length a6,vS a7 L.slips.length a8] (fun b1=>(sp 1 [(2,vI (0))] (se (rq (rq ?_))))));refine BZ (fun a w=>Slots 65 [(1,vP b1 0),(2,vI (0)),(15,.bool ((!(inB L.places 1 4))||(!(inB L.sorts 1 2))))] a∧a.defers=[]∧St I ((bX b1 #[vI (L.places),vI (L.sorts),vS a0 L.start.length a1,vS a5 L.keeps.length a6,vS a7 L.slips.length a8] 26)::F) w) ?_ ?_
 ·
  refine rr (sp 1 [(6,vP b1 0)] (sd (dlb 7 0 0 b1 (vI (L.places))) (sd (dc 8 (fun I' hI=>(DG I' (L.places) (1) (4) :))) (sp 2 [(10,.bool (!(inB L.places 1 4)))] ?_))));refine AY 10 rfl (fun h1=>?_) (fun h1=>?_)
  ·
   have a2:=h1;have a2:=BX a2;have a9:=HK a2;refine sp 5 [(15,.bool (true))] (ee ?_);refine AK (fun a w hS hD hW=>⟨hS.sub (.cons 1 rfl (.cons 2 rfl (.consE 15 rfl (congrArg Value.bool (by simp only [h1,kA,kB,kC,kD,kE,kF,kG,kH,kI,kJ])) (.nil _)))),hD,hW⟩)
  have a2:=h1;have a2:=BT a2;have a9:=DL a2;refine sp 1 [(11,vP b1 1)] (sd (dlb 12 0 1 b1 (vI (L.sorts))) (sd (dc 13 (fun I' hI=>(DG I' (L.sorts) (1) (2) :))) (sp 2 [(15,.bool (!(inB L.sorts 1 2)))] (ee ?_))));refine AK (fun a w hS hD hW=>⟨hS.sub (.cons 1 rfl (.cons 2 rfl (.consE 15 rfl (congrArg Value.bool (by simp only [h1,kA,kB,kC,kD,kE,kF,kG,kH,kI,kJ])) (.nil _)))),hD,hW⟩)
 rintro a w ⟨hS,hD,hW⟩
 refine AS hS hD hW ?_;clear hS hD hW a w;refine rc 15 rfl (fun h2=>?_) (fun h2=>?_)
 ·
  have a3:=h2;refine rqr (sp 1 [(2,vI (1))] (se (BJ ((RP (AG (t:=2) [] (by kernel_rfl) rfl (TC _ (TR _)) (IR _) ?_))))));exact ⟨congrArg (Value.int .i64) (QM a3).symm,rfl⟩
 have a3:=h2;obtain ⟨b0,b2⟩:=or_f h2;have b0:=BT b0;have c1:=DL b0;have b2:=BT b2;have c2:=DL b2;refine AQ (NX (rq (rqr (sp 1 [(16,vP b1 2)] (sd (dlb 17 0 2 b1 (vS a0 L.start.length a1)) (sp 2 [(19,vP b1 0),(18,vI (↑(L.start.length)))] (sd (dlb 20 0 0 b1 (vI (L.places))) (sp 1 [(21,.bool (!(cmp .eql (↑(L.start.length)) (L.places))))] (se (rc 21 rfl (fun h3=>?_) (fun h3=>?_)))))))))))
 ·
  have c3:=h3;have h3:=BL (BX h3);refine rqr (sp 1 [(2,vI (2))] (se (BJ ((RP (AG (t:=2) [] (by kernel_rfl) rfl (TC _ (TR _)) (IR _) ?_))))));exact ⟨congrArg (Value.int .i64) ((KL a3).trans (startErr_1 (by omega))).symm,rfl⟩
 have c3:=h3;have h3:=BI (BT h3);refine AQ (NX (rq (rqr (sp 1 [(3,vI (0))] (se (rb 0 ?_))))));refine rl (fun mz a w=>∃ k:Nat,(k≤L.start.length)∧(∀ r∈L.start.take k,(fun r=>decide ((r.length:Int)=L.sorts)) r=true)∧Slots 65 [(3,vI ↑k),(1,vP b1 0)] a∧a.defers=[]∧St I ((bX b1 #[vI (L.places),vI (L.sorts),vS a0 L.start.length a1,vS a5 L.keeps.length a6,vS a7 L.slips.length a8] 26)::F) w∧mz=L.start.length-k) ?_ ?_
 ·intro a w hS hD hW;exact ⟨_,0,Nat.zero_le _,(fun x h=>by simp at h),hS.sub (.cons 3 rfl (.cons 1 rfl (.nil _))),hD,hW,rfl⟩
 rintro mz a w ⟨k,hk,ha,hS,hD,hW,rfl⟩
 refine AS hS hD hW ?_;clear hS hD hW a w;refine rq (rqr (sp 2 [(23,vP b1 2),(22,vI (↑k))] (sd (dlb 24 0 2 b1 (vS a0 L.start.length a1)) (sp 2 [(26,.bool (cmp .lss (↑k) (↑(L.start.length))))] (se (rc 26 rfl (fun h4=>?_) (fun h4=>?_)))))))
 ·
  have c4:=h4;have h4:=CC h4;refine AQ (NX (rq (rb 1 (rq ?_))));refine rd0 8 (ox 1 [(29,vP b1 2)] ?_);refine AD (dlb 30 0 2 b1 (vS a0 L.start.length a1)) (ox 1 [(31,vI (↑k))] ?_);refine AD (di 32 1 (k) a4.addr) ?_;have b5:=b3 (k) (by omega);obtain ⟨f3,f5,f4,f8,b4,f6,f7,f9⟩:=id b5;rw [b4] at b5;refine AD (CG (dl 33 (FS a4 (k) (by omega))) b4) (ox 2 [(35,vP b1 1),(34,vI (↑((L.start.getD (k) []).length)))] ?_);refine AD (dlb 36 0 1 b1 (vI (L.sorts))) ?_;refine AW (sp 1 [(37,.bool (!(cmp .eql (↑((L.start.getD (k) []).length)) (L.sorts))))] (se (rc 37 rfl (fun h5=>?_) (fun h5=>?_))))
  ·
   have c5:=h5;have h5:=BL (BX h5);refine rqr (sp 1 [(2,vI (2))] (se (BJ ((RB (RP (RP (RB (RP (AG (t:=2) [] (by kernel_rfl) rfl (TC _ (TR _)) (IR _) ?_))))))))));exact ⟨congrArg (Value.int .i64) ((KL a3).trans (startErr_2 (k:=k) (by omega) (by omega) h5)).symm,rfl⟩
  have c5:=h5;have h5:=BI (BT h5);refine AQ (NB (NX (rr (sp 1 [(27,vI (↑k))] (sd (da 28 (↑k) (1)) (sp 1 [(3,vI (↑k+1))] (ee ?_)))))));refine AM (L.start.length-(k+1)) (by omega) ?_;intro a w hS hD hW;exact ⟨k+1,by omega,MK (d:=[]) ha (by omega) (decide_eq_true h5),hS.sub (.consE 3 rfl rfl (.cons 1 rfl (.nil _))),hD,hW,rfl⟩
 have c4:=h4;have h4:=CH h4;refine CB 0 ((EP (EP (EB (NX (rq (rq ?_)))))));have d6:(L.start.all fun r=>decide ((r.length:Int)=L.sorts))=true:=RH ha (by omega);refine rr (sp 1 [(4,vI (0))] (se (rb 2 ?_)));refine rl (fun mz a w=>∃ i:Nat,(i≤L.start.length)∧(∀ r∈L.start.take i,(r.all fun n=>inB n 0 50)=true)∧Slots 65 [(4,vI ↑i),(1,vP b1 0)] a∧a.defers=[]∧St I ((bX b1 #[vI (L.places),vI (L.sorts),vS a0 L.start.length a1,vS a5 L.keeps.length a6,vS a7 L.slips.length a8] 26)::F) w∧mz=L.start.length-i) ?_ ?_
 ·intro a w hS hD hW;exact ⟨_,0,Nat.zero_le _,(fun x h=>by simp at h),hS.sub (.cons 4 rfl (.cons 1 rfl (.nil _))),hD,hW,rfl⟩
 rintro mz a w ⟨i,hi,hb,hS,hD,hW,rfl⟩
 refine AS hS hD hW ?_;clear hS hD hW a w;refine rq (rqr (sp 2 [(39,vP b1 2),(38,vI (↑i))] (sd (dlb 40 0 2 b1 (vS a0 L.start.length a1)) (sp 2 [(42,.bool (cmp .lss (↑i) (↑(L.start.length))))] (se (rc 42 rfl (fun h6=>?_) (fun h6=>?_)))))))
 ·
  have c6:=h6;have h6:=CC h6;refine AQ (NX (rq (rb 3 (rqr (sp 1 [(5,vI (0))] (se (rb 4 ?_)))))));refine rl (fun mz a w=>∃ m:Nat,(m≤(L.start.getD i []).length)∧(∀ x∈(L.start.getD i []).take m,(fun n=>inB n 0 50) x=true)∧Slots 65 [(5,vI ↑m),(1,vP b1 0),(4,vI (↑i))] a∧a.defers=[]∧St I ((bX b1 #[vI (L.places),vI (L.sorts),vS a0 L.start.length a1,vS a5 L.keeps.length a6,vS a7 L.slips.length a8] 26)::F) w∧mz=(L.start.getD i []).length-m) ?_ ?_
  ·intro a w hS hD hW;exact ⟨_,0,Nat.zero_le _,(fun x h=>by simp at h),hS.sub (.cons 5 rfl (.cons 1 rfl (.cons 4 rfl (.nil _)))),hD,hW,rfl⟩
  rintro mz a w ⟨m,hm,hc,hS,hD,hW,rfl⟩
  refine AS hS hD hW ?_;clear hS hD hW a w;refine rq (rqr (sp 2 [(46,vP b1 2),(45,vI (↑m))] (sd (dlb 47 0 2 b1 (vS a0 L.start.length a1)) (sp 1 [(48,vI (↑i))] (sd (di 49 1 (i) a4.addr) ?_)))));have b7:=b3 (i) (by omega);obtain ⟨g0,g2,g1,g5,b6,g3,g4,g6⟩:=id b7;rw [b6] at b7;refine sd (CG (dl 50 (FS a4 (i) (by omega))) b6) (sp 2 [(52,.bool (cmp .lss (↑m) (↑((L.start.getD (i) []).length))))] (se (rc 52 rfl (fun h7=>?_) (fun h7=>?_))))
  ·
   have c7:=h7;have h7:=CC h7;refine AQ (NX (rq (rb 5 (rqr (sp 1 [(55,vP b1 2)] (sd (dlb 56 0 2 b1 (vS a0 L.start.length a1)) (sp 1 [(57,vI (↑i))] (sd (di 58 1 (i) a4.addr) ?_))))))));have b9:=b3 (i) (by omega);obtain ⟨g7,g9,g8,i0,b8,h0,h9,c0⟩:=id b9;rw [b8] at b9;refine sd (CG (dl 59 (FS a4 (i) (by omega))) b8) (sp 1 [(60,vI (↑m))] (sd (di 61 1 (m) c0.addr) (sd (dl 62 (DB c0 (m) (by omega))) (sd (dc 63 (fun I' hI=>(DG I' ((L.start.getD (i) []).getD (m) 0) (0) (50) :))) (sp 1 [(64,.bool (!(inB ((L.start.getD (i) []).getD (m) 0) 0 50)))] (se (rc 64 rfl (fun h8=>?_) (fun h8=>?_))))))))
   ·
    have c9:=h8;have h8:=BX h8;have c8:=HK h8;refine rqr (sp 1 [(2,vI (1))] (se (BJ ((RB (RP (RP (RB (RB (RP (RP (RB (RP (AG (t:=2) [] (by kernel_rfl) rfl (TC _ (TR _)) (IR _) ?_))))))))))))));exact ⟨congrArg (Value.int .i64) ((KL a3).trans (startErr_3r (k:=i) (m:=m) (by omega) d6 (by omega) (by omega) h8)).symm,rfl⟩
   have c9:=h8;have h8:=BT h8;have c8:=DL h8;refine AQ (NB (NX (rr (sp 1 [(53,vI (↑m))] (sd (da 54 (↑m) (1)) (sp 1 [(5,vI (↑m+1))] (ee ?_)))))));refine AM ((L.start.getD i []).length-(m+1)) (by omega) ?_;intro a w hS hD hW;exact ⟨m+1,by omega,MK (d:=0) hc (by omega) h8,hS.sub (.consE 5 rfl rfl (.cons 1 rfl (.cons 4 rfl (.nil _)))),hD,hW,rfl⟩
  have c7:=h7;have h7:=CH h7;refine CB 4 ((EP (EP (EB (NB (NX (rr (sp 1 [(43,vI (↑i))] (sd (da 44 (↑i) (1)) (sp 1 [(4,vI (↑i+1))] (ee ?_)))))))))));refine AM (L.start.length-(i+1)) (by omega) ?_;intro a w hS hD hW;exact ⟨i+1,by omega,MK (d:=[]) hb (by omega) (RH hc (by omega)),hS.sub (.consE 4 rfl rfl (.cons 1 rfl (.nil _))),hD,hW,rfl⟩
 have c6:=h6;have h6:=CH h6;refine CB 2 ((EP (EP (EB (NX (rqr (sp 1 [(2,vI (0))] (se (BJ (AG (t:=2) [] (by kernel_rfl) rfl (TC _ (TR _)) (IR _) ?_))))))))));exact ⟨congrArg (Value.int .i64) ((KL a3).trans (startErr_4r (k:=i) (by omega) d6 (by omega) hb)).symm,rfl⟩
noncomputable def c_rcheckKeeps (p:List Nat):Code:=sub (AU Tryz.f106) p
theorem rcheckKeeps_ct (I:Imm) (l:Value) (L:Lin) (l_f:IsLin I l L) (hp:1≤L.places∧L.places≤4):CtV Tryz.prog 106 #[l] I (vI (CQ L)):=by
 obtain ⟨l1,l2,l3,f0,c8,d0,d2⟩:=id l_f;subst f0;obtain ⟨a4,a5,d7,e0,d6,c7,d8,d9,e1,e2⟩:=id c8;subst c7;obtain ⟨a0,a1,b8,b9,c9,e3,e4,a2⟩:=id d0;subst c9;obtain ⟨a6,a7,e5,e8,d1,e6,e7,e9⟩:=id d2;subst d1;refine fr (args:=[_]) (N:=64) Tryz.func106 (fun F=>?_);show Run _ _ (c_rcheckKeeps []) _ _ [(0,.agg #[vI (L.places),vI (L.sorts),vS a4 L.start.length a5,vS a0 L.keeps.length a1,vS a6 L.slips.length a7])] _ _;refine rnm (rqr ?_);refine sS (sb 1 26 #[vI (L.places),vI (L.sorts),vS a4 L.start.length a5,vS a0 L.keeps.length a1,vS a6 L.slips.length a7] (fun b1=>(sp 1 [(2,vI (0))] (se (rq (rqr (sp 1 [(6,vP b1 3)] (sd (dlb 7 0 3 b1 (vS a0 L.keeps.length a1)) (sp 2 [(9,.bool (cmp .gtr (↑(L.keeps.length)) (4)))] (se (rc 9 rfl (fun h1=>?_) (fun h1=>?_))))))))))))
 ·
  have c0:=h1;have h1:=IF h1;refine rqr (sp 1 [(2,vI (6))] (se (BJ ((RP (AG (t:=2) [] (by kernel_rfl) rfl (TC _ (TR _)) (IR _) ?_))))));exact ⟨congrArg (Value.int .i64) (OQ (by omega)).symm,rfl⟩
 have c0:=h1;have h1:=KW h1;refine AQ (NX (rq (rqr (sp 1 [(3,vI (0))] (se (rb 0 ?_))))));refine rl (fun mz a w=>∃ J0:Imm,∃ k:Nat,(I.le J0)∧(k≤L.keeps.length)∧(FG (EN L) k=0)∧Slots 64 [(3,vI ↑k),(1,vP b1 0)] a∧a.defers=[]∧St J0 ((bX b1 #[vI (L.places),vI (L.sorts),vS a4 L.start.length a5,vS a0 L.keeps.length a1,vS a6 L.slips.length a7] 26)::F) w∧mz=L.keeps.length-k) ?_ ?_
 ·intro a w hS hD hW;exact ⟨_,I,0,IR _,Nat.zero_le _,rfl,hS.sub (.cons 3 rfl (.cons 1 rfl (.nil _))),hD,hW,rfl⟩
 rintro mz a w ⟨J0,k,hJ0,hk,hz,hS,hD,hW,rfl⟩
 refine AS hS hD hW ?_;clear hS hD hW a w;replace a2:=a2.mono hJ0;refine rq (rqr (sp 2 [(11,vP b1 3),(10,vI (↑k))] (sd (dlb 12 0 3 b1 (vS a0 L.keeps.length a1)) (sp 2 [(14,.bool (cmp .lss (↑k) (↑(L.keeps.length))))] (se (rc 14 rfl (fun h2=>?_) (fun h2=>?_)))))))
 ·
  have c1:=h2;have h2:=CC h2;refine AQ (NX (rq (rb 1 (rqr (sp 1 [(17,vP b1 3)] (sd (dlb 18 0 3 b1 (vS a0 L.keeps.length a1)) (sp 1 [(19,vI (↑k))] (sd (di 20 3 (k) a2.addr) (sd (BN (x:=(.tmp 20)) (T:=50) (n:=3) (vs:=[vI ((L.keeps.getD (k) AJ).place),vI ((L.keeps.getD (k) AJ).hour),vI ((L.keeps.getD (k) AJ).who)]) (d:=21) (ty:=50) (gd:=none) (by kernel_rfl) rfl (by kernel_rfl) (by kernel_rfl) rfl rfl (CO (vals:=HP) (fun _=>rfl) a2 (k) (by omega))) (sS (sal 4 50 #[vI (0),vI (0),vI (0)] (fun b3=>(sS (ss 0 0 b3 [vI ((L.keeps.getD (k) AJ).place),vI ((L.keeps.getD (k) AJ).hour),vI ((L.keeps.getD (k) AJ).who)] [vI ((L.keeps.getD (k) AJ).place),vI ((L.keeps.getD (k) AJ).hour),vI ((L.keeps.getD (k) AJ).who)] (_::_::_) (cs:=[_,_,_]) rfl rfl (se (rq (rqr (sp 1 [(22,vP b3 0)] (sd (dlb 23 0 0 b3 (vI ((L.keeps.getD (k) AJ).place))) (sp 1 [(24,vP b1 0)] (sd (dlb 25 1 0 b1 (vI (L.places))) (sd (dsb 26 (L.places) (1)) (sd (dc 27 (fun I' hI=>(DG I' ((L.keeps.getD (k) AJ).place) (0) (L.places-1) :))) (sp 1 [(28,.bool (!(inB ((L.keeps.getD (k) AJ).place) 0 (L.places-1))))] (se (rc 28 rfl (fun h3=>?_) (fun h3=>?_)))))))))))))))))))))))))))
  ·
   have c3:=h3;have h3:=BX h3;have c2:=HK h3;refine rqr (sp 1 [(2,vI (3))] (se (BJ ((RP (RB (RP (RP (RB (RP (AG (t:=2) [] (by kernel_rfl) rfl (TC _ (TC _ (TR _))) hJ0 ?_)))))))))));exact ⟨congrArg (Value.int .i64) (FV (by omega) hz (by omega) (keepErr_3 h3) (by decide)).symm,rfl⟩
  have c3:=h3;have h3:=BT h3;have c2:=DL h3;refine AQ (NX (rq (rq ?_)));refine BZ (fun a w=>Slots 64 [(1,vP b1 0),(3,vI (↑k)),(4,vP b3 0),(38,.bool ((!(inB ((L.keeps.getD (k) AJ).hour) 0 200))||(!(inB ((L.keeps.getD (k) AJ).who) 1 9))))] a∧a.defers=[]∧St J0 ((bX b3 #[vI ((L.keeps.getD (k) AJ).place),vI ((L.keeps.getD (k) AJ).hour),vI ((L.keeps.getD (k) AJ).who)] 50)::(bX b1 #[vI (L.places),vI (L.sorts),vS a4 L.start.length a5,vS a0 L.keeps.length a1,vS a6 L.slips.length a7] 26)::F) w) ?_ ?_
  ·
   refine rr (sp 1 [(29,vP b3 1)] (sd (dlb 30 0 1 b3 (vI ((L.keeps.getD (k) AJ).hour))) (sd (dc 31 (fun I' hI=>(DG I' ((L.keeps.getD (k) AJ).hour) (0) (200) :))) (sp 2 [(33,.bool (!(inB ((L.keeps.getD (k) AJ).hour) 0 200)))] ?_))));refine AY 33 rfl (fun h4=>?_) (fun h4=>?_)
   ·
    have a3:=h4;have a3:=BX a3;have a9:=HK a3;refine sp 5 [(38,.bool (true))] (ee ?_);refine AK (fun a w hS hD hW=>⟨hS.sub (.cons 1 rfl (.cons 3 rfl (.cons 4 rfl (.consE 38 rfl (congrArg Value.bool (by simp only [h4,kA,kB,kC,kD,kE,kF,kG,kH,kI,kJ])) (.nil _))))),hD,hW⟩)
   have a3:=h4;have a3:=BT a3;have a9:=DL a3;refine sp 1 [(34,vP b3 2)] (sd (dlb 35 0 2 b3 (vI ((L.keeps.getD (k) AJ).who))) (sd (dc 36 (fun I' hI=>(DG I' ((L.keeps.getD (k) AJ).who) (1) (9) :))) (sp 2 [(38,.bool (!(inB ((L.keeps.getD (k) AJ).who) 1 9)))] (ee ?_))));refine AK (fun a w hS hD hW=>⟨hS.sub (.cons 1 rfl (.cons 3 rfl (.cons 4 rfl (.consE 38 rfl (congrArg Value.bool (by simp only [h4,kA,kB,kC,kD,kE,kF,kG,kH,kI,kJ])) (.nil _))))),hD,hW⟩)
  rintro a w ⟨hS,hD,hW⟩
  refine AS hS hD hW ?_;clear hS hD hW a w;refine rc 38 rfl (fun h5=>?_) (fun h5=>?_)
  ·
   have b4:=h5;refine rqr (sp 1 [(2,vI (1))] (se (BJ ((RP (RB (RP (RP (RB (RP (AG (t:=2) [] (by kernel_rfl) rfl (TC _ (TC _ (TR _))) hJ0 ?_)))))))))));exact ⟨congrArg (Value.int .i64) (FV (by omega) hz (by omega) (keepErr_1r h3 b4) (by decide)).symm,rfl⟩
  have b4:=h5;obtain ⟨b0,b2⟩:=or_f h5;have b0:=BT b0;have c4:=DL b0;have b2:=BT b2;have c5:=DL b2;refine AQ (NX (rq ?_));have d5:=h3;have d3:=b4;refine rr (sp 1 [(5,vI (0))] (se (rb 2 ?_)));refine rl (fun mz a w=>∃ m:Nat,(m≤k)∧(∀ q,q<m→(cmp .eql (L.keeps.getD (q) AJ).place (L.keeps.getD (k) AJ).place&&cmp .eql (L.keeps.getD (q) AJ).hour (L.keeps.getD (k) AJ).hour)=false)∧Slots 64 [(5,vI ↑m),(1,vP b1 0),(3,vI (↑k)),(4,vP b3 0)] a∧a.defers=[]∧St J0 ((bX b3 #[vI ((L.keeps.getD (k) AJ).place),vI ((L.keeps.getD (k) AJ).hour),vI ((L.keeps.getD (k) AJ).who)] 50)::(bX b1 #[vI (L.places),vI (L.sorts),vS a4 L.start.length a5,vS a0 L.keeps.length a1,vS a6 L.slips.length a7] 26)::F) w∧mz=k-m) ?_ ?_
  ·intro a w hS hD hW;exact ⟨_,0,Nat.zero_le _,(fun q hq=>by omega),hS.sub (.cons 5 rfl (.cons 1 rfl (.cons 3 rfl (.cons 4 rfl (.nil _))))),hD,hW,rfl⟩
  rintro mz a w ⟨m,hm,d4,hS,hD,hW,rfl⟩
  refine AS hS hD hW ?_;clear hS hD hW a w;refine rq (rqr (sp 3 [(41,.bool (cmp .lss (↑m) (↑k)))] (se (rc 41 rfl (fun h6=>?_) (fun h6=>?_)))))
  ·
   have c6:=h6;have h6:=CC h6;refine AQ (NX (rq (rb 3 (rq ?_))));refine BZ (fun a w=>Slots 64 [(1,vP b1 0),(3,vI (↑k)),(4,vP b3 0),(5,vI (↑m)),(63,.bool ((cmp .eql ((L.keeps.getD (m) AJ).place) ((L.keeps.getD (k) AJ).place))&&(cmp .eql ((L.keeps.getD (m) AJ).hour) ((L.keeps.getD (k) AJ).hour))))] a∧a.defers=[]∧St J0 ((bX b3 #[vI ((L.keeps.getD (k) AJ).place),vI ((L.keeps.getD (k) AJ).hour),vI ((L.keeps.getD (k) AJ).who)] 50)::(bX b1 #[vI (L.places),vI (L.sorts),vS a4 L.start.length a5,vS a0 L.keeps.length a1,vS a6 L.slips.length a7] 26)::F) w) ?_ ?_
   ·
    refine rd0 18 (ox 1 [(44,vP b1 3)] ?_);refine AD (dlb 45 1 3 b1 (vS a0 L.keeps.length a1)) (ox 1 [(46,vI (↑m))] ?_);refine AD (di 47 3 (m) a2.addr) (ox 1 [(48,.pointer (some ⟨b8,b9+m*3,none⟩))] ?_);refine AD (dl 49 (FO a2 (m) (by omega) 0 (by decide) (v:=vI ((L.keeps.getD (m) AJ).place)) rfl)) (ox 1 [(50,vP b3 0)] ?_);refine AD (dlb 51 0 0 b3 (vI ((L.keeps.getD (k) AJ).place))) (ox 2 [(53,.bool (cmp .eql ((L.keeps.getD (m) AJ).place) ((L.keeps.getD (k) AJ).place)))] ?_);refine HZ 53 (fun h7=>?_) (fun h7=>?_)
    ·
     have a8:=h7;have a8:=BI a8;refine ox 1 [(54,vP b1 3)] ?_;refine AD (dlb 55 1 3 b1 (vS a0 L.keeps.length a1)) (ox 1 [(56,vI (↑m))] ?_);refine AD (di 57 3 (m) a2.addr) (ox 1 [(58,.pointer (some ⟨b8,b9+m*3+1,none⟩))] ?_);refine AD (dl 59 (FO a2 (m) (by omega) 1 (by decide) (v:=vI ((L.keeps.getD (m) AJ).hour)) rfl)) (ox 1 [(60,vP b3 1)] ?_);refine AD (dlb 61 0 1 b3 (vI ((L.keeps.getD (k) AJ).hour))) ?_;refine AW (sp 2 [(63,.bool (cmp .eql ((L.keeps.getD (m) AJ).hour) ((L.keeps.getD (k) AJ).hour)))] (ee ?_));refine AK (fun a w hS hD hW=>⟨hS.sub (.cons 1 rfl (.cons 3 rfl (.cons 4 rfl (.cons 5 rfl (.consE 63 rfl (congrArg Value.bool (by simp only [h7,kA,kB,kC,kD,kE,kF,kG,kH,kI,kJ])) (.nil _)))))),hD,hW⟩)
    have a8:=h7;have a8:=BL a8;refine ox 8 [(61,undef),(59,undef)] ?_;refine AW (sp 2 [(63,.bool (false))] (ee ?_));refine AK (fun a w hS hD hW=>⟨hS.sub (.cons 1 rfl (.cons 3 rfl (.cons 4 rfl (.cons 5 rfl (.consE 63 rfl (congrArg Value.bool (by simp only [h7,kA,kB,kC,kD,kE,kF,kG,kH,kI,kJ])) (.nil _)))))),hD,hW⟩)
   rintro a w ⟨hS,hD,hW⟩
   refine AS hS hD hW ?_;clear hS hD hW a w;refine rc 63 rfl (fun h8=>?_) (fun h8=>?_)
   ·
    have b5:=h8;obtain ⟨b6,b7⟩:=HF h8;have b6:=BI b6;have b7:=BI b7;refine rqr (sp 1 [(2,vI (4))] (se (BJ ((RB (RP (RP (RB (RB (RP (RP (RB (RP (AG (t:=2) [] (by kernel_rfl) rfl (TC _ (TC _ (TR _))) hJ0 ?_))))))))))))));exact ⟨congrArg (Value.int .i64) (FV (by omega) hz (by omega) (keepErr_4r d5 d3 (by omega) (by omega) b5) (by decide)).symm,rfl⟩
   have b5:=h8;refine AQ (NB (NX (rr (sp 1 [(42,vI (↑m))] (sd (da 43 (↑m) (1)) (sp 1 [(5,vI (↑m+1))] (ee ?_)))))));refine AM (k-(m+1)) (by omega) ?_;intro a w hS hD hW;exact ⟨m+1,by omega,GY d4 b5,hS.sub (.consE 5 rfl rfl (.cons 1 rfl (.cons 3 rfl (.cons 4 rfl (.nil _))))),hD,hW,rfl⟩
  have c6:=h6;have h6:=CH h6;refine CB 2 ((EP (EP (EB (NB (NX (rr (sp 1 [(15,vI (↑k))] (sd (da 16 (↑k) (1)) (sp 1 [(3,vI (↑k+1))] (ee ?_)))))))))));refine AM (L.keeps.length-(k+1)) (by omega) ?_;intro a w hS hD hW;exact ⟨J0,k+1,hJ0,by omega,KS hz (keepErr_0r d5 d3 (fun q hq=>d4 q (by omega))),hS.sub (.consE 3 rfl rfl (.cons 1 rfl (.nil _))),hD,(hW.perm (PR _)).sub (TC _ (TR _)),rfl⟩
 have c1:=h2;have h2:=CH h2;refine CB 0 ((EP (EP (EB (NX (rqr (sp 1 [(2,vI (0))] (se (BJ (AG (t:=2) [] (by kernel_rfl) rfl (TC _ (TR _)) hJ0 ?_))))))))));exact ⟨congrArg (Value.int .i64) (OR (by omega) hz (by omega)).symm,rfl⟩
noncomputable def c_rcheckSlip (p:List Nat):Code:=sub (AU Tryz.f107) p
theorem rcheckSlip_ct (I:Imm) (l:Value) (L:Lin) (s:Slip) (l_f:IsLin I l L) (hp:1≤L.places∧L.places≤4) (hq:1≤L.sorts∧L.sorts≤2):CtV Tryz.prog 107 #[l,.agg #[vI s.num,vI s.hour,vI s.kind,vI s.place,vI s.to,vI s.sort,.bool s.soil,vI s.amt]] I (vI (DI L s)):=by
 obtain ⟨l1,l2,l3,j1,f8,g0,g2⟩:=id l_f;subst j1;obtain ⟨b8,b9,g6,g9,g5,f7,g7,g8,h0,i0⟩:=id f8;subst f7;obtain ⟨c0,c1,i1,i4,f9,i2,i3,i5⟩:=id g0;subst f9;obtain ⟨c2,c3,i6,i9,g1,i7,i8,j0⟩:=id g2;subst g1;refine fr (args:=[_,_]) (N:=72) Tryz.func107 (fun F=>?_);show Run _ _ (c_rcheckSlip []) _ _ [(0,.agg #[vI (L.places),vI (L.sorts),vS b8 L.start.length b9,vS c0 L.keeps.length c1,vS c2 L.slips.length c3]),(1,.agg #[vI (s.num),vI (s.hour),vI (s.kind),vI (s.place),vI (s.to),vI (s.sort),.bool (s.soil),vI (s.amt)])] _ _;refine rnm (rqr ?_);refine sS (sb 2 26 #[vI (L.places),vI (L.sorts),vS b8 L.start.length b9,vS c0 L.keeps.length c1,vS c2 L.slips.length c3] (fun b1=>(sS (sb 3 28 #[vI (s.num),vI (s.hour),vI (s.kind),vI (s.place),vI (s.to),vI (s.sort),.bool (s.soil),vI (s.amt)] (fun b3=>(sp 1 [(4,vI (0))] (se (rq (rq ?_)))))))));refine BZ (fun a w=>Slots 72 [(2,vP b1 0),(3,vP b3 0),(4,vI (0)),(15,.bool ((!(inB s.num 1 999))||(!(inB s.hour 0 200))))] a∧a.defers=[]∧St I ((bX b3 #[vI (s.num),vI (s.hour),vI (s.kind),vI (s.place),vI (s.to),vI (s.sort),.bool (s.soil),vI (s.amt)] 28)::(bX b1 #[vI (L.places),vI (L.sorts),vS b8 L.start.length b9,vS c0 L.keeps.length c1,vS c2 L.slips.length c3] 26)::F) w) ?_ ?_
 ·
  refine rr (sp 1 [(6,vP b3 0)] (sd (dlb 7 0 0 b3 (vI (s.num))) (sd (dc 8 (fun I' hI=>(DG I' (s.num) (1) (999) :))) (sp 2 [(10,.bool (!(inB s.num 1 999)))] ?_))));refine AY 10 rfl (fun h1=>?_) (fun h1=>?_)
  ·
   have b7:=h1;have b7:=BX b7;have d4:=HK b7;refine sp 5 [(15,.bool (true))] (ee ?_);refine AK (fun a w hS hD hW=>⟨hS.sub (.cons 2 rfl (.cons 3 rfl (.cons 4 rfl (.consE 15 rfl (congrArg Value.bool (by simp only [h1,kA,kB,kC,kD,kE,kF,kG,kH,kI,kJ])) (.nil _))))),hD,hW⟩)
  have b7:=h1;have b7:=BT b7;have d4:=DL b7;refine sp 1 [(11,vP b3 1)] (sd (dlb 12 0 1 b3 (vI (s.hour))) (sd (dc 13 (fun I' hI=>(DG I' (s.hour) (0) (200) :))) (sp 2 [(15,.bool (!(inB s.hour 0 200)))] (ee ?_))));refine AK (fun a w hS hD hW=>⟨hS.sub (.cons 2 rfl (.cons 3 rfl (.cons 4 rfl (.consE 15 rfl (congrArg Value.bool (by simp only [h1,kA,kB,kC,kD,kE,kF,kG,kH,kI,kJ])) (.nil _))))),hD,hW⟩)
 rintro a w ⟨hS,hD,hW⟩
 refine AS hS hD hW ?_;clear hS hD hW a w;refine rc 15 rfl (fun h2=>?_) (fun h2=>?_)
 ·
  have a0:=h2;refine rqr (sp 1 [(4,vI (1))] (se (BJ ((RP (AG (t:=4) [] (by kernel_rfl) rfl (TC _ (TC _ (TR _))) (IR _) ?_))))));exact ⟨congrArg (Value.int .i64) (by first | (simp only [DR,IJ,a0,cond_true,cond_false];done) | (exfalso;simp only [ Bool.not_true,Bool.and_false,Bool.false_and] at a0;cases a0)),rfl⟩
 have a0:=h2;obtain ⟨d5,d6⟩:=or_f h2;have d5:=BT d5;have f0:=DL d5;have d6:=BT d6;have f1:=DL d6;refine AQ (NX (rq (rqr (sp 1 [(16,vP b3 2)] (sd (dlb 17 0 2 b3 (vI (s.kind))) (sd (dc 18 (fun I' hI=>(DG I' (s.kind) (1) (6) :))) (sp 1 [(19,.bool (!(inB s.kind 1 6)))] (se (rc 19 rfl (fun h3=>?_) (fun h3=>?_))))))))))
 ·
  have a1:=h3;have h3:=BX h3;have f2:=HK h3;refine rqr (sp 1 [(4,vI (8))] (se (BJ ((RP (AG (t:=4) [] (by kernel_rfl) rfl (TC _ (TC _ (TR _))) (IR _) ?_))))));exact ⟨congrArg (Value.int .i64) (by first | (simp only [DR,IJ,a0,a1,cond_true,cond_false];done) | (exfalso;simp only [a0,Bool.not_true,Bool.and_false,Bool.false_and] at a1;cases a1)),rfl⟩
 have a1:=h3;have h3:=BT h3;have f2:=DL h3;refine AQ (NX (rq (rqr (sp 1 [(20,vP b3 3)] (sd (dlb 21 0 3 b3 (vI (s.place))) (sp 1 [(22,vP b1 0)] (sd (dlb 23 1 0 b1 (vI (L.places))) (sd (dsb 24 (L.places) (1)) (sd (dc 25 (fun I' hI=>(DG I' (s.place) (0) (L.places-1) :))) (sp 1 [(26,.bool (!(inB s.place 0 (L.places-1))))] (se (rc 26 rfl (fun h4=>?_) (fun h4=>?_)))))))))))))
 ·
  have a2:=h4;have h4:=BX h4;have f3:=HK h4;refine rqr (sp 1 [(4,vI (3))] (se (BJ ((RP (AG (t:=4) [] (by kernel_rfl) rfl (TC _ (TC _ (TR _))) (IR _) ?_))))));exact ⟨congrArg (Value.int .i64) (by first | (simp only [DR,IJ,a0,a1,a2,cond_true,cond_false];done) | (exfalso;simp only [a0,a1,Bool.not_true,Bool.and_false,Bool.false_and] at a2;cases a2)),rfl⟩
 have a2:=h4;have h4:=BT h4;have f3:=DL h4;refine AQ (NX (rq (rqr (sp 1 [(27,vP b3 2)] (sd (dlb 28 0 2 b3 (vI (s.kind))) (sp 1 [(29,.bool (cmp .eql (s.kind) (1)))] (se (rc 29 rfl (fun h5=>?_) (fun h5=>?_)))))))))
 ·
  have a3:=h5;have h5:=BI h5;refine rq (rqr (sp 1 [(30,vP b3 4)] (sd (dlb 31 0 4 b3 (vI (s.to))) (sp 1 [(32,vP b1 0)] (sd (dlb 33 1 0 b1 (vI (L.places))) (sd (dsb 34 (L.places) (1)) (sd (dc 35 (fun I' hI=>(DG I' (s.to) (0) (L.places-1) :))) (sp 1 [(36,.bool (!(inB s.to 0 (L.places-1))))] (se (rc 36 rfl (fun h6=>?_) (fun h6=>?_)))))))))))
  ·
   have a7:=h6;have h6:=BX h6;have f4:=HK h6;refine rqr (sp 1 [(4,vI (3))] (se (BJ ((RP (RP (AG (t:=4) [] (by kernel_rfl) rfl (TC _ (TC _ (TR _))) (IR _) ?_)))))));exact ⟨congrArg (Value.int .i64) (by first | (simp only [DR,IJ,a0,a1,a2,a3,a7,cond_true,cond_false];done) | (exfalso;simp only [a0,a1,a2,a3,Bool.not_true,Bool.and_false,Bool.false_and] at a7;cases a7)),rfl⟩
  have a7:=h6;have h6:=BT h6;have f4:=DL h6;refine AQ (NX (rqr (sp 1 [(37,vP b3 4)] (sd (dlb 38 0 4 b3 (vI (s.to))) (sp 1 [(39,vP b3 3)] (sd (dlb 40 0 3 b3 (vI (s.place))) (sp 1 [(41,.bool (cmp .eql (s.to) (s.place)))] (se (rc 41 rfl (fun h7=>?_) (fun h7=>?_))))))))))
  ·
   have a9:=h7;have h7:=BI h7;refine rqr (sp 1 [(4,vI (4))] (se (BJ ((RP (AG (t:=4) [] (by kernel_rfl) rfl (TC _ (TC _ (TR _))) (IR _) ?_))))));exact ⟨congrArg (Value.int .i64) (by first | (simp only [DR,IJ,a0,a1,a2,a3,a7,a9,cond_true,cond_false];done) | (exfalso;simp only [a0,a1,a2,a3,a7,Bool.not_true,Bool.and_false,Bool.false_and] at a9;cases a9)),rfl⟩
  have a9:=h7;have h7:=BL h7;refine AQ (NX (rq (rqr (sp 1 [(45,vP b3 5)] (sd (dlb 46 0 5 b3 (vI (s.sort))) (sp 1 [(47,vP b1 1)] (sd (dlb 48 1 1 b1 (vI (L.sorts))) (sd (dsb 49 (L.sorts) (1)) (sd (dc 50 (fun I' hI=>(DG I' (s.sort) (0) (L.sorts-1) :))) (sp 1 [(51,.bool (!(inB s.sort 0 (L.sorts-1))))] (se (rc 51 rfl (fun h8=>?_) (fun h8=>?_)))))))))))))
  ·
   have b4:=h8;have h8:=BX h8;have f5:=HK h8;refine rqr (sp 1 [(4,vI (3))] (se (BJ ((RP (AG (t:=4) [] (by kernel_rfl) rfl (TC _ (TC _ (TR _))) (IR _) ?_))))));exact ⟨congrArg (Value.int .i64) (by first | (simp only [DR,IJ,a0,a1,a2,a3,a7,a9,b4,cond_true,cond_false];done) | (exfalso;simp only [a0,a1,a2,a3,a7,a9,Bool.not_true,Bool.and_false,Bool.false_and] at b4;cases b4)),rfl⟩
  have b4:=h8;have h8:=BT h8;have f5:=DL h8;refine AQ (NX (rq (rq ?_)));refine BZ (fun a w=>Slots 72 [(3,vP b3 0),(4,vI (0)),(63,.bool ((s.soil)&&((!(cmp .eql (s.kind) (1)))&&(!(cmp .eql (s.kind) (4))))))] a∧a.defers=[]∧St I ((bX b3 #[vI (s.num),vI (s.hour),vI (s.kind),vI (s.place),vI (s.to),vI (s.sort),.bool (s.soil),vI (s.amt)] 28)::(bX b1 #[vI (L.places),vI (L.sorts),vS b8 L.start.length b9,vS c0 L.keeps.length c1,vS c2 L.slips.length c3] 26)::F) w) ?_ ?_
  ·
   refine rr (sp 1 [(52,vP b3 6)] (sd (dlb 53 0 6 b3 (.bool (s.soil))) (sp 1 [(54,.bool (s.soil))] ?_)));refine AY 54 rfl (fun h9=>?_) (fun h9=>?_)
   ·
    have f6:=h9;refine sp 1 [(55,vP b3 2)] (sd (dlb 56 0 2 b3 (vI (s.kind))) (sp 3 [(59,.bool (!(cmp .eql (s.kind) (1))))] ?_));refine AY 59 rfl (fun d8=>?_) (fun d8=>?_)
    ·
     have b5:=d8;have b5:=BL (BX b5);refine sp 1 [(60,vP b3 2)] (sd (dlb 61 0 2 b3 (vI (s.kind))) (sp 2 [(63,.bool (!(cmp .eql (s.kind) (4))))] (ee ?_)));refine AK (fun a w hS hD hW=>⟨hS.sub (.cons 3 rfl (.cons 4 rfl (.consE 63 rfl (congrArg Value.bool (by simp only [h9,d8,kA,kB,kC,kD,kE,kF,kG,kH,kI,kJ])) (.nil _)))),hD,hW⟩)
    have b5:=d8;have b5:=BI (BT b5);refine sp 4 [(63,.bool (false))] (ee ?_);refine AK (fun a w hS hD hW=>⟨hS.sub (.cons 3 rfl (.cons 4 rfl (.consE 63 rfl (congrArg Value.bool (by simp only [h9,d8,kA,kB,kC,kD,kE,kF,kG,kH,kI,kJ])) (.nil _)))),hD,hW⟩)
   have f6:=h9;refine sp 9 [(63,.bool (false))] (ee ?_);refine AK (fun a w hS hD hW=>⟨hS.sub (.cons 3 rfl (.cons 4 rfl (.consE 63 rfl (congrArg Value.bool (by simp only [h9,kA,kB,kC,kD,kE,kF,kG,kH,kI,kJ])) (.nil _)))),hD,hW⟩)
  rintro a w ⟨hS,hD,hW⟩
  refine AS hS hD hW ?_;clear hS hD hW a w;refine rc 63 rfl (fun e8=>?_) (fun e8=>?_)
  ·
   have a8:=e8;obtain ⟨g3,d9⟩:=HF e8;obtain ⟨c4,c5⟩:=HF d9;have c4:=BL (BX c4);have c5:=BL (BX c5);refine rqr (sp 1 [(4,vI (1))] (se (BJ ((RP (AG (t:=4) [] (by kernel_rfl) rfl (TC _ (TC _ (TR _))) (IR _) ?_))))));exact ⟨congrArg (Value.int .i64) (by first | (simp only [DR,IJ,a0,a1,a2,a3,a7,a9,b4,a8,cond_true,cond_false];done) | (exfalso;simp only [a0,a1,a2,a3,a7,a9,b4,Bool.not_true,Bool.and_false,Bool.false_and] at a8;cases a8)),rfl⟩
  have a8:=e8;refine AQ (NX (rqr (sp 1 [(5,vI (1))] (se (rq ?_)))));refine BZ (fun a w=>Slots 72 [(3,vP b3 0),(4,vI (0)),(5,vI (if s.kind=4 then 0 else 1))] a∧a.defers=[]∧St I ((bX b3 #[vI (s.num),vI (s.hour),vI (s.kind),vI (s.place),vI (s.to),vI (s.sort),.bool (s.soil),vI (s.amt)] 28)::(bX b1 #[vI (L.places),vI (L.sorts),vS b8 L.start.length b9,vS c0 L.keeps.length c1,vS c2 L.slips.length c3] 26)::F) w) ?_ ?_
  ·
   refine rqr (sp 1 [(64,vP b3 2)] (sd (dlb 65 0 2 b3 (vI (s.kind))) (sp 1 [(66,.bool (cmp .eql (s.kind) (4)))] (se (rc 66 rfl (fun c8=>?_) (fun c8=>?_))))))
   ·
    have e0:=c8;have c8:=BI c8;refine rr (sp 1 [(5,vI (0))] (ee ?_));exact AK (fun a w hS hD hW=>⟨hS.sub (.cons 3 rfl (.cons 4 rfl (.consE 5 rfl (least_t c8) (.nil _)))),hD,hW⟩)
   have e0:=c8;have c8:=BL c8;refine AQ ?_;exact AK (fun a w hS hD hW=>⟨hS.sub (.cons 3 rfl (.cons 4 rfl (.consE 5 rfl (least_f c8) (.nil _)))),hD,hW⟩)
  rintro a w ⟨hS,hD,hW⟩
  refine AS hS hD hW ?_;clear hS hD hW a w;refine rq (rqr (sp 1 [(67,vP b3 7)] (sd (dlb 68 0 7 b3 (vI (s.amt))) (sp 1 [(69,vI ((if s.kind=4 then 0 else 1)))] (sd (dc 70 (fun I' hI=>(DG I' (s.amt) ((if s.kind=4 then 0 else 1)) (50) :))) (sp 1 [(71,.bool (!(inB s.amt ((if s.kind=4 then 0 else 1)) 50)))] (se (rc 71 rfl (fun c9=>?_) (fun c9=>?_)))))))))
  ·
   have b0:=c9;have c9:=BX c9;have e1:=HK c9;refine rqr (sp 1 [(4,vI (1))] (se (BJ ((RP (AG (t:=4) [] (by kernel_rfl) rfl (TC _ (TC _ (TR _))) (IR _) ?_))))));exact ⟨congrArg (Value.int .i64) (by first | (simp only [DR,IJ,a0,a1,a2,a3,a7,a9,b4,a8,b0,cond_true,cond_false];done) | (exfalso;simp only [a0,a1,a2,a3,a7,a9,b4,a8,Bool.not_true,Bool.and_false,Bool.false_and] at b0;cases b0)),rfl⟩
  have b0:=c9;have c9:=BT c9;have e1:=DL c9;refine AQ (NX (rqr (sp 1 [(4,vI (0))] (se (BJ (AG (t:=4) [] (by kernel_rfl) rfl (TC _ (TC _ (TR _))) (IR _) ?_))))));exact ⟨congrArg (Value.int .i64) (by first | (simp only [DR,IJ,a0,a1,a2,a3,a7,a9,b4,a8,b0,cond_true,cond_false];done) | (exfalso;simp only [a0,a1,a2,a3,a7,a9,b4,a8,Bool.not_true,Bool.and_false,Bool.false_and] at b0;cases b0)),rfl⟩
 have a3:=h5;have h5:=BL h5;refine rqr (sp 1 [(42,vP b3 4)] (sd (dlb 43 0 4 b3 (vI (s.to))) (sp 1 [(44,.bool (!(cmp .eql (s.to) (0))))] (se (rc 44 rfl (fun d3=>?_) (fun d3=>?_))))))
 ·
  have a4:=d3;have d3:=BL (BX d3);refine rqr (sp 1 [(4,vI (1))] (se (BJ ((RP (AG (t:=4) [] (by kernel_rfl) rfl (TC _ (TC _ (TR _))) (IR _) ?_))))));exact ⟨congrArg (Value.int .i64) (by first | (simp only [DR,IJ,a0,a1,a2,a3,a4,cond_true,cond_false];done) | (exfalso;simp only [a0,a1,a2,a3,Bool.not_true,Bool.and_false,Bool.false_and] at a4;cases a4)),rfl⟩
 have a4:=d3;have d3:=BI (BT d3);refine AQ (NX (rq (rqr (sp 1 [(45,vP b3 5)] (sd (dlb 46 0 5 b3 (vI (s.sort))) (sp 1 [(47,vP b1 1)] (sd (dlb 48 1 1 b1 (vI (L.sorts))) (sd (dsb 49 (L.sorts) (1)) (sd (dc 50 (fun I' hI=>(DG I' (s.sort) (0) (L.sorts-1) :))) (sp 1 [(51,.bool (!(inB s.sort 0 (L.sorts-1))))] (se (rc 51 rfl (fun d0=>?_) (fun d0=>?_)))))))))))))
 ·
  have a6:=d0;have d0:=BX d0;have e2:=HK d0;refine rqr (sp 1 [(4,vI (3))] (se (BJ ((RP (AG (t:=4) [] (by kernel_rfl) rfl (TC _ (TC _ (TR _))) (IR _) ?_))))));exact ⟨congrArg (Value.int .i64) (by first | (simp only [DR,IJ,a0,a1,a2,a3,a4,a6,cond_true,cond_false];done) | (exfalso;simp only [a0,a1,a2,a3,a4,Bool.not_true,Bool.and_false,Bool.false_and] at a6;cases a6)),rfl⟩
 have a6:=d0;have d0:=BT d0;have e2:=DL d0;refine AQ (NX (rq (rq ?_)));refine BZ (fun a w=>Slots 72 [(3,vP b3 0),(4,vI (0)),(63,.bool ((s.soil)&&((!(cmp .eql (s.kind) (1)))&&(!(cmp .eql (s.kind) (4))))))] a∧a.defers=[]∧St I ((bX b3 #[vI (s.num),vI (s.hour),vI (s.kind),vI (s.place),vI (s.to),vI (s.sort),.bool (s.soil),vI (s.amt)] 28)::(bX b1 #[vI (L.places),vI (L.sorts),vS b8 L.start.length b9,vS c0 L.keeps.length c1,vS c2 L.slips.length c3] 26)::F) w) ?_ ?_
 ·
  refine rr (sp 1 [(52,vP b3 6)] (sd (dlb 53 0 6 b3 (.bool (s.soil))) (sp 1 [(54,.bool (s.soil))] ?_)));refine AY 54 rfl (fun d7=>?_) (fun d7=>?_)
  ·
   have e3:=d7;refine sp 1 [(55,vP b3 2)] (sd (dlb 56 0 2 b3 (vI (s.kind))) (sp 3 [(59,.bool (!(cmp .eql (s.kind) (1))))] ?_));refine AY 59 rfl (fun e4=>?_) (fun e4=>?_)
   ·
    have b6:=e4;have b6:=BL (BX b6);refine sp 1 [(60,vP b3 2)] (sd (dlb 61 0 2 b3 (vI (s.kind))) (sp 2 [(63,.bool (!(cmp .eql (s.kind) (4))))] (ee ?_)));refine AK (fun a w hS hD hW=>⟨hS.sub (.cons 3 rfl (.cons 4 rfl (.consE 63 rfl (congrArg Value.bool (by simp only [d7,e4,kA,kB,kC,kD,kE,kF,kG,kH,kI,kJ])) (.nil _)))),hD,hW⟩)
   have b6:=e4;have b6:=BI (BT b6);refine sp 4 [(63,.bool (false))] (ee ?_);refine AK (fun a w hS hD hW=>⟨hS.sub (.cons 3 rfl (.cons 4 rfl (.consE 63 rfl (congrArg Value.bool (by simp only [d7,e4,kA,kB,kC,kD,kE,kF,kG,kH,kI,kJ])) (.nil _)))),hD,hW⟩)
  have e3:=d7;refine sp 9 [(63,.bool (false))] (ee ?_);refine AK (fun a w hS hD hW=>⟨hS.sub (.cons 3 rfl (.cons 4 rfl (.consE 63 rfl (congrArg Value.bool (by simp only [d7,kA,kB,kC,kD,kE,kF,kG,kH,kI,kJ])) (.nil _)))),hD,hW⟩)
 rintro a w ⟨hS,hD,hW⟩
 refine AS hS hD hW ?_;clear hS hD hW a w;refine rc 63 rfl (fun e9=>?_) (fun e9=>?_)
 ·
  have a5:=e9;obtain ⟨g4,e5⟩:=HF e9;obtain ⟨c6,c7⟩:=HF e5;have c6:=BL (BX c6);have c7:=BL (BX c7);refine rqr (sp 1 [(4,vI (1))] (se (BJ ((RP (AG (t:=4) [] (by kernel_rfl) rfl (TC _ (TC _ (TR _))) (IR _) ?_))))));simp only [a3,Bool.not_false,Bool.and_true,Bool.true_and] at a5;exact ⟨congrArg (Value.int .i64) (by first | (simp only [DR,IJ,a0,a1,a2,a3,a4,a6,a5,cond_true,cond_false];done) | (exfalso;simp only [a0,a1,a2,a3,a4,a6,Bool.not_true,Bool.and_false,Bool.false_and] at a5;cases a5)),rfl⟩
 have a5:=e9;refine AQ (NX (rqr (sp 1 [(5,vI (1))] (se (rq ?_)))));refine BZ (fun a w=>Slots 72 [(3,vP b3 0),(4,vI (0)),(5,vI (if s.kind=4 then 0 else 1))] a∧a.defers=[]∧St I ((bX b3 #[vI (s.num),vI (s.hour),vI (s.kind),vI (s.place),vI (s.to),vI (s.sort),.bool (s.soil),vI (s.amt)] 28)::(bX b1 #[vI (L.places),vI (L.sorts),vS b8 L.start.length b9,vS c0 L.keeps.length c1,vS c2 L.slips.length c3] 26)::F) w) ?_ ?_
 ·
  refine rqr (sp 1 [(64,vP b3 2)] (sd (dlb 65 0 2 b3 (vI (s.kind))) (sp 1 [(66,.bool (cmp .eql (s.kind) (4)))] (se (rc 66 rfl (fun d1=>?_) (fun d1=>?_))))))
  ·
   have e6:=d1;have d1:=BI d1;refine rr (sp 1 [(5,vI (0))] (ee ?_));exact AK (fun a w hS hD hW=>⟨hS.sub (.cons 3 rfl (.cons 4 rfl (.consE 5 rfl (least_t d1) (.nil _)))),hD,hW⟩)
  have e6:=d1;have d1:=BL d1;refine AQ ?_;exact AK (fun a w hS hD hW=>⟨hS.sub (.cons 3 rfl (.cons 4 rfl (.consE 5 rfl (least_f d1) (.nil _)))),hD,hW⟩)
 rintro a w ⟨hS,hD,hW⟩
 refine AS hS hD hW ?_;clear hS hD hW a w;refine rq (rqr (sp 1 [(67,vP b3 7)] (sd (dlb 68 0 7 b3 (vI (s.amt))) (sp 1 [(69,vI ((if s.kind=4 then 0 else 1)))] (sd (dc 70 (fun I' hI=>(DG I' (s.amt) ((if s.kind=4 then 0 else 1)) (50) :))) (sp 1 [(71,.bool (!(inB s.amt ((if s.kind=4 then 0 else 1)) 50)))] (se (rc 71 rfl (fun d2=>?_) (fun d2=>?_)))))))))
 ·
  have b2:=d2;have d2:=BX d2;have e7:=HK d2;refine rqr (sp 1 [(4,vI (1))] (se (BJ ((RP (AG (t:=4) [] (by kernel_rfl) rfl (TC _ (TC _ (TR _))) (IR _) ?_))))));simp only [a3,Bool.not_false,Bool.and_true,Bool.true_and] at a5;exact ⟨congrArg (Value.int .i64) (by first | (simp only [DR,IJ,a0,a1,a2,a3,a4,a6,a5,b2,cond_true,cond_false];done) | (exfalso;simp only [a0,a1,a2,a3,a4,a6,a5,Bool.not_true,Bool.and_false,Bool.false_and] at b2;cases b2)),rfl⟩
 have b2:=d2;have d2:=BT d2;have e7:=DL d2;refine AQ (NX (rqr (sp 1 [(4,vI (0))] (se (BJ (AG (t:=4) [] (by kernel_rfl) rfl (TC _ (TC _ (TR _))) (IR _) ?_))))));simp only [a3,Bool.not_false,Bool.and_true,Bool.true_and] at a5;exact ⟨congrArg (Value.int .i64) (by first | (simp only [DR,IJ,a0,a1,a2,a3,a4,a6,a5,b2,cond_true,cond_false];done) | (exfalso;simp only [a0,a1,a2,a3,a4,a6,a5,Bool.not_true,Bool.and_false,Bool.false_and] at b2;cases b2)),rfl⟩
noncomputable def c_rCheck (p:List Nat):Code:=sub (AU Tryz.f48) p
theorem rCheck_ct (I:Imm) (l:Value) (L:Lin) (l_f:IsLin I l L):CtV Tryz.prog 48 #[l] I (vI (BG L)):=by
 obtain ⟨l1,l2,l3,d8,a5,a8,a2⟩:=id l_f;subst d8;obtain ⟨a3,a4,c5,c8,c4,b9,c6,c7,c9,d0⟩:=id a5;subst b9;obtain ⟨a6,a7,d1,d4,c0,d2,d3,d5⟩:=id a8;subst c0;obtain ⟨a0,a1,c1,c3,c2,d6,d7,a9⟩:=id a2;subst c2;refine fr (args:=[_]) (N:=50) Tryz.func48 (fun F=>?_);show Run _ _ (c_rCheck []) _ _ [(0,.agg #[vI (L.places),vI (L.sorts),vS a3 L.start.length a4,vS a6 L.keeps.length a7,vS a0 L.slips.length a1])] _ _;refine rnm (rqr ?_);refine sS (sb 1 26 #[vI (L.places),vI (L.sorts),vS a3 L.start.length a4,vS a6 L.keeps.length a7,vS a0 L.slips.length a1] (fun b1=>(sp 1 [(2,vI (0))] (se (rq (rqr (sd (dnb 7 0 0 b1 [vI (L.places),vI (L.sorts),vS a3 L.start.length a4,vS a6 L.keeps.length a7,vS a0 L.slips.length a1]) (sd (dc 8 (fun I' hI=>(rcheckStart_ct I' _ (L) ((EG a5 a8 a2).mono hI) :))) (sp 1 [(3,vI ((JZ L)))] (sn (sp 2 [(10,.bool (!(cmp .eql ((JZ L)) (0))))] (se (rc 10 rfl (fun h1=>?_) (fun h1=>?_))))))))))))))
 ·
  have b4:=h1;have h1:=BL (BX h1);refine rqr (sp 2 [(2,vI ((JZ L)))] (se (BJ ((RP (AG (t:=2) [] (by kernel_rfl) rfl (TC _ (TR _)) (IR _) ?_))))));exact ⟨congrArg (Value.int .i64) (linErr_r1 h1).symm,rfl⟩
 have b4:=h1;have h1:=BI (BT h1);refine AQ (NX (rq (rq ?_)));obtain ⟨_,_,hp,hq⟩:=MV h1;refine rr (sd (dnb 12 0 0 b1 [vI (L.places),vI (L.sorts),vS a3 L.start.length a4,vS a6 L.keeps.length a7,vS a0 L.slips.length a1]) (sd (dc 13 (fun I' hI=>(rcheckKeeps_ct I' _ (L) ((EG a5 a8 a2).mono hI) (by omega) :))) (sp 1 [(4,vI ((CQ L)))] (sn (sp 2 [(15,.bool (!(cmp .eql ((CQ L)) (0))))] (se (rc 15 rfl (fun h2=>?_) (fun h2=>?_))))))))
 ·
  have b5:=h2;have h2:=BL (BX h2);refine rqr (sp 2 [(2,vI ((CQ L)))] (se (BJ ((RP (AG (t:=2) [] (by kernel_rfl) rfl (TC _ (TR _)) (IR _) ?_))))));exact ⟨congrArg (Value.int .i64) (linErr_r2 h1 h2).symm,rfl⟩
 have b5:=h2;have h2:=BI (BT h2);refine AQ (NX (rq (rqr (sp 1 [(17,vP b1 4)] (sd (dlb 18 0 4 b1 (vS a0 L.slips.length a1)) (sp 2 [(20,.bool (cmp .gtr (↑(L.slips.length)) (8)))] (se (rc 20 rfl (fun h3=>?_) (fun h3=>?_)))))))))
 ·
  have b6:=h3;have h3:=IF h3;refine rqr (sp 1 [(2,vI (6))] (se (BJ ((RP (AG (t:=2) [] (by kernel_rfl) rfl (TC _ (TR _)) (IR _) ?_))))));exact ⟨congrArg (Value.int .i64) (linErr_r3 h1 h2 (by omega)).symm,rfl⟩
 have b6:=h3;have h3:=KW h3;refine AQ (NX (rq (rqr (sp 1 [(5,vI (0))] (se (rb 0 ?_))))));refine rl (fun mz a w=>∃ J0:Imm,∃ k:Nat,(I.le J0)∧(k≤L.slips.length)∧(FG (DC L) k=0)∧Slots 50 [(5,vI ↑k),(1,vP b1 0)] a∧a.defers=[]∧St J0 ((bX b1 #[vI (L.places),vI (L.sorts),vS a3 L.start.length a4,vS a6 L.keeps.length a7,vS a0 L.slips.length a1] 26)::F) w∧mz=L.slips.length-k) ?_ ?_
 ·intro a w hS hD hW;exact ⟨_,I,0,IR _,Nat.zero_le _,rfl,hS.sub (.cons 5 rfl (.cons 1 rfl (.nil _))),hD,hW,rfl⟩
 rintro mz a w ⟨J0,k,hJ0,hk,hz,hS,hD,hW,rfl⟩
 refine AS hS hD hW ?_;clear hS hD hW a w;replace a5:=a5.mono hJ0;replace a8:=a8.mono hJ0;replace a2:=a2.mono hJ0;replace a9:=a9.mono hJ0;refine rq (rqr (sp 2 [(22,vP b1 4),(21,vI (↑k))] (sd (dlb 23 0 4 b1 (vS a0 L.slips.length a1)) (sp 2 [(25,.bool (cmp .lss (↑k) (↑(L.slips.length))))] (se (rc 25 rfl (fun h4=>?_) (fun h4=>?_)))))))
 ·
  have b7:=h4;have h4:=CC h4;refine AQ (NX (rq (rb 1 (rq (rq ?_)))));refine rd0 6 ?_;refine AD (dnb 28 0 0 b1 [vI (L.places),vI (L.sorts),vS a3 L.start.length a4,vS a6 L.keeps.length a7,vS a0 L.slips.length a1]) (ox 1 [(29,vP b1 4)] ?_);refine AD (dlb 30 0 4 b1 (vS a0 L.slips.length a1)) (ox 1 [(31,vI (↑k))] ?_);refine AD (di 32 8 (k) a9.addr) ?_;refine AD (BN (x:=(.tmp 32)) (T:=28) (n:=8) (vs:=[vI ((L.slips.getD (k) AB).num),vI ((L.slips.getD (k) AB).hour),vI ((L.slips.getD (k) AB).kind),vI ((L.slips.getD (k) AB).place),vI ((L.slips.getD (k) AB).to),vI ((L.slips.getD (k) AB).sort),.bool ((L.slips.getD (k) AB).soil),vI ((L.slips.getD (k) AB).amt)]) (d:=33) (ty:=28) (gd:=none) (by kernel_rfl) rfl (by kernel_rfl) (by kernel_rfl) rfl rfl (CO (vals:=CR) (fun _=>rfl) a9 (k) (by omega))) ?_;refine AW (sd (dc 34 (fun I' hI=>(rcheckSlip_ct I' _ (L) (L.slips.getD (k) AB) ((EG a5 a8 a2).mono hI) (by omega) (by omega) :))) (sp 1 [(6,vI ((DI L (L.slips.getD (k) AB))))] (sn (sp 2 [(36,.bool (!(cmp .eql ((DI L (L.slips.getD (k) AB))) (0))))] (se (rc 36 rfl (fun h5=>?_) (fun h5=>?_)))))))
  ·
   have b8:=h5;have h5:=BL (BX h5);refine rqr (sp 2 [(2,vI ((DI L (L.slips.getD (k) AB))))] (se (BJ ((RP (RB (RP (RP (RB (RP (AG (t:=2) [] (by kernel_rfl) rfl (TC _ (TR _)) hJ0 ?_)))))))))));exact ⟨congrArg (Value.int .i64) (linErr_r4 h1 h2 (by omega) (PB hz (by omega) (slipAt_bad h5) h5)).symm,rfl⟩
  have b8:=h5;have h5:=BI (BT h5);refine AQ (NX (rq ?_));refine rd0 10 (ox 1 [(38,vP b1 4)] ?_);refine AD (dlb 39 0 4 b1 (vS a0 L.slips.length a1)) (ox 1 [(40,vI (↑k))] ?_);have b2:=a2.cutHi (k) (by omega);obtain ⟨d9,e1,e0,e4,b3,e2,e3,e5⟩:=id b2;rw [b3] at b2;refine AD (CG (HA (x:=(.tmp 39)) (lo:=none) (hi:=(some (.tmp 40))) (T:=24) (e:=28) (sz:=8) (0) (k) (d:=41) (ty:=24) (gd:=none) (by kernel_rfl) rfl (by kernel_rfl) (by kernel_rfl) rfl (.inl ⟨rfl,rfl⟩) (.inr ⟨_,.i64,rfl,rfl⟩) (by omega) (by omega)) b3) (ox 1 [(42,vP b1 4)] ?_);refine AD (dlb 43 0 4 b1 (vS a0 L.slips.length a1)) (ox 1 [(44,vI (↑k))] ?_);refine AD (di 45 8 (k) a9.addr) (ox 1 [(46,.pointer (some ⟨c1,c3+k*8,none⟩))] ?_);refine AD (dl 47 (FO a9 (k) (by omega) 0 (by decide) (v:=vI ((L.slips.getD (k) AB).num)) rfl)) ?_;refine AW (sd (dc 48 (fun I' hI=>(there_ct I' _ _ ((L.slips.getD (k) AB).num) (b2.mono hI) :))) (sp 1 [(49,.bool (cmp .geq ((KG (fun x:Slip=>decide (x.num=((L.slips.getD (k) AB).num))) (L.slips.take (k)))) (0)))] (se (rc 49 rfl (fun h6=>?_) (fun h6=>?_)))))
  ·
   have b0:=h6;have h6:=geq_t h6;refine rqr (sp 1 [(2,vI (4))] (se (BJ ((RB (RP (RP (RB (RP (AG (t:=2) [] (by kernel_rfl) rfl (TC _ (TR _)) hJ0 ?_))))))))));exact ⟨congrArg (Value.int .i64) (linErr_r4 h1 h2 (by omega) (PB hz (by omega) (slipAt_dup h5 (idxF_any.symm.trans b0)) (by decide))).symm,rfl⟩
  have b0:=h6;have h6:=geq_f h6;refine AQ (NB (NX (rr (sp 1 [(26,vI (↑k))] (sd (da 27 (↑k) (1)) (sp 1 [(5,vI (↑k+1))] (ee ?_)))))));refine AM (L.slips.length-(k+1)) (by omega) ?_;intro a w hS hD hW;exact ⟨J0,k+1,hJ0,by omega,KS hz (slipAt_ok h5 (idxF_any.symm.trans b0)),hS.sub (.consE 5 rfl rfl (.cons 1 rfl (.nil _))),hD,hW,rfl⟩
 have b7:=h4;have h4:=CH h4;refine CB 0 ((EP (EP (EB (NX (rqr (sp 1 [(2,vI (0))] (se (BJ (AG (t:=2) [] (by kernel_rfl) rfl (TC _ (TR _)) hJ0 ?_))))))))));exact ⟨congrArg (Value.int .i64) (linErr_r4 h1 h2 (by omega) ((show k=L.slips.length by omega)▸hz)).symm,rfl⟩
end Go.Proofs.YtgcemienebmdeaaGreat
namespace Go.Sh
open Go Go.Sl
def KeepsOf (P:Int) (r:Int) (ks:List Keep):Prop:=ks.length≤4∧∀ j,j<ks.length→let k:=ks.getD j AJ;(0≤k.place∧k.place≤P-1)∧(7*(r-j)≤k.hour∧k.hour≤7*(r-j)+6)∧(1≤k.who∧k.who≤9)
theorem KeepsOf.nil {P r:Int}:KeepsOf P r []:=⟨Nat.zero_le _,fun j hj=>absurd hj (Nat.not_lt_zero _)⟩
theorem KeepsOf.snoc {P r:Int} {ks:List Keep} {k:Keep} (h:KeepsOf P r ks) (hl:ks.length<4) (hp:0≤k.place∧k.place≤P-1) (hh:7*(r-ks.length)≤k.hour∧k.hour≤7*(r-ks.length)+6) (hw:1≤k.who∧k.who≤9):KeepsOf P r (ks++[k]):=by
  refine ⟨by simp;omega,fun j hj=>?_⟩;rcases Nat.lt_or_ge j ks.length with h1 | h1
  · have:=h.2 j h1
    simpa only [List.getD,List.getElem?_append_left h1] using this
  · have e:j=ks.length:=by simp at hj;omega
    subst e;have:(ks++[k]).getD ks.length AJ=k:=by simp [List.getD]
    rw [this];exact ⟨hp,hh,hw⟩
def SlipsOf (P Q:Int) (dl:List Int) (i:Nat) (sl:List Slip):Prop:=sl.length≤i∧(∀ s∈sl,∀ L:Lin,L.places=P→L.sorts=Q→DI L s=0)∧(sl.map (·.num)).Nodup∧∀ s∈sl,∃ j,j<i∧s.num=1+dl.getD j 0
theorem SlipsOf.nil {P Q:Int} {dl:List Int}:SlipsOf P Q dl 0 []:=⟨Nat.le_refl _,fun s hs=>absurd hs List.not_mem_nil,List.nodup_nil,fun s hs=>absurd hs List.not_mem_nil⟩
theorem SlipsOf.skip {P Q:Int} {dl:List Int} {i:Nat} {sl:List Slip} (h:SlipsOf P Q dl i sl):SlipsOf P Q dl (i+1) sl:=⟨by have:=h.1;omega,h.2.1,h.2.2.1,fun s hs=>by obtain ⟨j,h1,h2⟩:=h.2.2.2 s hs;exact ⟨j,by omega,h2⟩⟩
theorem SlipsOf.snoc {P Q:Int} {dl:List Int} {i:Nat} {sl:List Slip} {s:Slip} (h:SlipsOf P Q dl i sl) (hd:dl.Nodup) (hi:i<dl.length) (hn:s.num=1+dl.getD i 0) (hs:∀ L:Lin,L.places=P→L.sorts=Q→DI L s=0):SlipsOf P Q dl (i+1) (sl++[s]):=by
  refine ⟨by have:=h.1;simp;omega,fun t ht=>?_,?_,fun t ht=>?_⟩
  · rcases List.mem_append.1 ht with ht | ht
    · exact h.2.1 t ht
    · simp only [List.mem_singleton] at ht;subst ht;exact hs
  · rw [List.map_append,List.map_cons,List.map_nil]
    refine List.nodup_append.2 ⟨h.2.2.1,by simp,fun a ha b hb=>?_⟩;simp only [List.mem_singleton] at hb;obtain ⟨t,ht,rfl⟩:=List.mem_map.1 ha;obtain ⟨j,hj,e⟩:=h.2.2.2 t ht;intro e2;rw [hb,hn] at e2;have e3:dl.getD j 0=dl.getD i 0:=by omega
    have hj2:j<dl.length:=by omega
    have:j=i:=(List.getElem_inj (h₀:=hj2) (h₁:=hi) hd).1 (by simpa [List.getD,hj2,hi] using e3);omega
  · rcases List.mem_append.1 ht with ht | ht
    · obtain ⟨j,h1,h2⟩:=h.2.2.2 t ht;exact ⟨j,by omega,h2⟩
    · simp only [List.mem_singleton] at ht;subst ht;exact ⟨i,by omega,hn⟩
theorem JN {P Q:Int} {s:Slip} (h1:1≤s.num∧s.num≤999) (h2:0≤s.hour∧s.hour≤200) (h3:1≤s.kind∧s.kind≤6) (h4:0≤s.place∧s.place≤P-1) (h5:s.kind=1→(0≤s.to∧s.to≤P-1)∧s.to≠s.place) (h6:s.kind≠1→s.to=0) (h7:0≤s.sort∧s.sort≤Q-1) (h8:s.soil=true→s.kind=1∨s.kind=4) (h9:s.kind=4∨1≤s.amt) (h10:0≤s.amt∧s.amt≤50):∀ L:Lin,L.places=P→L.sorts=Q→DI L s=0:=by
  intro L hP hQ;have t:∀ {n lo hi:Int},lo≤n∧n≤hi→¬ inB n lo hi=false:=fun h e=>by
    rw [show inB _ _ _=true from by simpa [inB] using h] at e;cases e
  unfold DI
  rw [hP,hQ,if_neg (t h1),if_neg (t h2),if_neg (t h3),if_neg (t h4),if_neg (fun e=>t (h5 e.1).1 e.2),if_neg (fun e=>(h5 e.1).2 e.2),if_neg (fun e=>e.2 (h6 e.1)),if_neg (t h7),
    if_neg (fun e=>(h8 e.1).elim e.2.1 e.2.2),if_neg (t (by split <;> omega))]
def RowsB (B:Int) (n:Nat) (xss:List (List Int)):Prop:=∀ r∈xss,r.length=n∧∀ x∈r,0≤x∧x≤B
theorem RowsB.nil {B:Int} {n:Nat}:RowsB B n []:=fun r hr=>by cases hr
theorem RowsB.snoc {B:Int} {n:Nat} {xss:List (List Int)} {r:List Int} (h:RowsB B n xss) (hl:r.length=n) (hr:∀ x∈r,0≤x∧x≤B):RowsB B n (xss++[r]):=fun q hq=>by
  rcases List.mem_append.1 hq with hq | hq
  · exact h q hq
  · simp only [List.mem_singleton] at hq;subst hq;exact ⟨hl,hr⟩
theorem RowsB.mono {B B':Int} {n:Nat} {xss:List (List Int)} (h:RowsB B n xss) (hb:B≤B'):RowsB B' n xss:=fun r hr=>⟨(h r hr).1,fun x hx=>by have:=(h r hr).2 x hx;omega⟩
theorem RowsB.at {B:Int} {n p i:Nat} {xss:List (List Int)} (h:RowsB B n xss) (hp:p<xss.length) (hi:i<n):(xss.getD p []).length=n∧0≤(xss.getD p []).getD i 0∧(xss.getD p []).getD i 0≤B:=by
  have h1:=h _ (BE (xs:=xss) (d:=[]) hp);exact ⟨h1.1,h1.2 _ (BE (xs:=xss.getD p []) (d:=0) (by rw [h1.1];exact hi))⟩
theorem drawn_book {P Q:Int} {n:Nat} {st:List (List Int)} {ks:List Keep} {sl:List Slip} {r:Int} {dl:List Int} {i:Nat} (hP:1≤P∧P≤4) (hQ:1≤Q∧Q≤2) (hn:(n:Int)=Q) (hs:(st.length:Int)=P) (hr:RowsB 50 n st) (hr4:0≤r∧r≤4) (hkr:(ks.length:Int)≤r) (hk:KeepsOf P r ks) (hsl:SlipsOf P Q dl i sl) (hi:i≤8):GoodL ⟨P,Q,st,ks,sl⟩:=by
  have t:∀ {n lo hi:Int},lo≤n∧n≤hi→¬ inB n lo hi=false:=fun h e=>by
    rw [show inB _ _ _=true from by simpa [inB] using h] at e;cases e
  refine ⟨hP,hQ,hs,fun q hq=>by rw [(hr q hq).1,hn],fun q hq x hx=>(hr q hq).2 x hx,hk.1,fun k hk2=>?_,Nat.le_trans hsl.1 hi,fun k hk2=>?_⟩
  · obtain ⟨h1,h2,h3⟩:=hk.2 k hk2
    unfold EN;simp only;have hk3:(k:Int)<ks.length:=by exact_mod_cast hk2
    rw [if_neg (t h1),if_neg (t (by omega)),if_neg (t h3),if_neg];intro e;obtain ⟨x,hx,hx2⟩:=List.any_eq_true.1 e;obtain ⟨j,hj,rfl⟩:=List.mem_take_iff_getElem.1 hx;have hj2:j<ks.length:=by omega
    have h4:=(hk.2 j hj2).2.1;simp only [Bool.and_eq_true,decide_eq_true_eq] at hx2;have e4:(ks.getD j AJ)=ks[j]:=by simp [List.getD,hj2]
    rw [e4,hx2.2] at h4;have:j<k:=by omega
    omega
  · have h1:=hsl.2.1 _ (BE (xs:=sl) (d:=AB) hk2) ⟨P,Q,st,ks,sl⟩ rfl rfl
    unfold DC;rw [if_neg (fun h=>h h1),if_neg];intro e;unfold hasNum at e;obtain ⟨x,hx,hx2⟩:=List.any_eq_true.1 e;obtain ⟨j,hj,rfl⟩:=List.mem_take_iff_getElem.1 hx;have hj':j<min k sl.length:=hj;have hj2:j<sl.length:=by omega
    have hnd:=hsl.2.2.1;simp only [decide_eq_true_eq] at hx2;have:j=k:=(List.getElem_inj (h₀:=by simpa using hj2) (h₁:=by simpa using hk2) hnd).1 (by simpa [List.getD,hk2] using hx2);omega
def ixR (so:Nat) (b:Bool):Nat:=if b=true then 2*so+1 else 2*so
def putR (h:List (List Int)) (p i:Nat) (v:Int):List (List Int):=h.set p ((h.getD p []).set i v)
section
variable {H:Hs} {p v:Int} {j S P:Nat} {b:Bool}
theorem stockRow_get (hj:j<S):(BB H p S).getD (ixR j b) 0=CZ ⟨p,(j:Int),b⟩ H:=by
  induction S with
  | zero=>omega
  | succ S ih=>
    simp only [BB];have hl:=FZ (H:=H) (p:=p) (j:=S)
    by_cases e:j=S
    · subst e
      cases b
      · simp [ixR,List.getD,List.getElem?_append_right,hl]
      · simp [ixR,List.getD,List.getElem?_append_right,hl]
    · have hi:ixR j b<(BB H p S).length:=by rw [hl];unfold ixR;split <;> omega
      rw [List.getD_eq_getElem?_getD,List.getElem?_append_left hi,← List.getD_eq_getElem?_getD];exact ih (by omega)
theorem stockTo_get {p:Nat} (hp:p<P):(CI H S P).getD p []=BB H (p:Int) S:=by
  induction P with
  | zero=>omega
  | succ P ih=>
    simp only [CI];have hl:=FM (H:=H) (s:=S) (k:=P)
    by_cases e:p=P
    · subst e;simp [List.getD,List.getElem?_append_right,hl]
    · rw [List.getD_eq_getElem?_getD,List.getElem?_append_left (by rw [hl];omega),← List.getD_eq_getElem?_getD]
      exact ih (by omega)
theorem stockRow_put (hj:j<S):BB (IX ⟨p,(j:Int),b⟩ v H) p S=(BB H p S).set (ixR j b) v:=by
  induction S with
  | zero=>omega
  | succ S ih=>
    simp only [BB,JV];have hl:=FZ (H:=H) (p:=p) (j:=S)
    by_cases e:j=S
    · subst e
      have:∀ n,n≤j→BB (IX ⟨p,(j:Int),b⟩ v H) p n=BB H p n:=by
        intro n hn
        induction n with
        | zero=>rfl
        | succ n ihn=>
          simp only [BB,JV,HKey.mk.injEq];rw [ihn (by omega),if_neg (by omega),if_neg (by omega)]
      rw [this j (Nat.le_refl _),List.set_append_right _ _ (by rw [hl];unfold ixR;split <;> omega),hl];cases b <;> simp [ixR]
    · have hi:ixR j b<(BB H p S).length:=by rw [hl];unfold ixR;split <;> omega
      rw [ih (by omega),List.set_append_left _ _ hi];simp only [HKey.mk.injEq];rw [if_neg (by omega),if_neg (by omega)]
theorem NJ {q:Int} (h:p≠q) {so:Int}:BB (IX ⟨q,so,b⟩ v H) p S=BB H p S:=by
  induction S with
  | zero=>rfl
  | succ S ih=>
    simp only [BB,JV,HKey.mk.injEq];rw [ih,if_neg (by omega),if_neg (by omega)]
theorem stockTo_put {p:Nat} (hp:p<P) (hj:j<S):CI (IX ⟨(p:Int),(j:Int),b⟩ v H) S P=putR (CI H S P) p (ixR j b) v:=by
  unfold putR;rw [stockTo_get hp]
  induction P with
  | zero=>omega
  | succ P ih=>
    simp only [CI];have hl:=FM (H:=H) (s:=S) (k:=P)
    by_cases e:p=P
    · subst e
      have:∀ n,n≤p→CI (IX ⟨(p:Int),(j:Int),b⟩ v H) S n=CI H S n:=by
        intro n hn
        induction n with
        | zero=>rfl
        | succ n ihn=>simp only [CI];rw [ihn (by omega),NJ (by omega)]
      rw [this p (Nat.le_refl _),List.set_append_right _ _ (by rw [hl];exact Nat.le_refl _),hl,stockRow_put hj];simp
    · rw [ih (by omega),List.set_append_left _ _ (by rw [hl];omega),NJ (by omega)]
end
theorem stock_at {H:Hs} {p so:Int} {b:Bool} {S P:Nat} (hp:0≤p∧p<P) (hs:0≤so∧so<S):((CI H S P).getD p.toNat []).getD (ixR so.toNat b) 0=CZ ⟨p,so,b⟩ H:=by
  rw [stockTo_get (by omega),show ((p.toNat:Nat):Int)=p by omega,stockRow_get (by omega),show ((so.toNat:Nat):Int)=so by omega]
theorem stock_put {H:Hs} {p so v:Int} {b:Bool} {S P:Nat} (hp:0≤p∧p<P) (hs:0≤so∧so<S):CI (IX ⟨p,so,b⟩ v H) S P=putR (CI H S P) p.toNat (ixR so.toNat b) v:=by
  have:=stockTo_put (H:=H) (v:=v) (b:=b) (p:=p.toNat) (j:=so.toNat) (S:=S) (P:=P) (by omega) (by omega);rw [← this,show ((p.toNat:Nat):Int)=p by omega,show ((so.toNat:Nat):Int)=so by omega]
theorem stock_add {H:Hs} {p so v:Int} {b:Bool} {S P:Nat} (hp:0≤p∧p<P) (hs:0≤so∧so<S):CI (NF ⟨p,so,b⟩ v H) S P=putR (CI H S P) p.toNat (ixR so.toNat b) (((CI H S P).getD p.toNat []).getD (ixR so.toNat b) 0+v):=by
  unfold NF;rw [stock_put hp hs,stock_at hp hs]
theorem ixR_le {n:Nat} {b:Bool}:ixR n b≤ixR n true:=by unfold ixR;cases b <;> simp
theorem at_t {so:Int} {b:Bool} (h:b=true) (h0:0≤so):2*so+1=((ixR so.toNat b:Nat):Int):=by subst h;unfold ixR;simp;omega
theorem at_f {so:Int} {b:Bool} (h:b=false) (h0:0≤so):2*so=((ixR so.toNat b:Nat):Int):=by subst h;unfold ixR;simp;omega
def RowsI (B:Int) (m:Nat) (X:List (List Int)):Prop:=∀ r∈X,m<r.length∧r.length≤1000∧∀ x∈r,-B≤x∧x≤B
section
variable {B B':Int} {m p i:Nat} {X:List (List Int)} {v:Int}
theorem RowsI.mono (h:RowsI B m X) (hb:B≤B'):RowsI B' m X:=fun r hr=>⟨(h r hr).1,(h r hr).2.1,fun x hx=>by have:=(h r hr).2.2 x hx;omega⟩
theorem RowsI.at (h:RowsI B m X) (hp:p<X.length):m<(X.getD p []).length∧(X.getD p []).length≤1000∧∀ i,i≤m→-B≤(X.getD p []).getD i 0∧(X.getD p []).getD i 0≤B:=by
  have h1:=h _ (BE (xs:=X) (d:=[]) hp);exact ⟨h1.1,h1.2.1,fun i hi=>h1.2.2 _ (BE (xs:=X.getD p []) (d:=0) (by omega))⟩
theorem RowsI.put (h:RowsI B m X) (hp:p<X.length) (hv:-B≤v∧v≤B):RowsI B m (putR X p i v):=fun r hr=>by
  rcases List.mem_or_eq_of_mem_set hr with hr | rfl
  · exact h r hr
  · have h1:=h _ (BE (xs:=X) (d:=[]) hp)
    refine ⟨by rw [List.length_set];exact h1.1,by rw [List.length_set];exact h1.2.1,fun x hx=>?_⟩;rcases List.mem_or_eq_of_mem_set hx with hx | rfl
    · exact h1.2.2 x hx
    · exact hv
theorem putR_len:(putR X p i v).length=X.length:=List.length_set ..
end
def addR (X:List (List Int)) (p i:Nat) (d:Int):List (List Int):=putR X p i ((X.getD p []).getD i 0+d)
def subR (X:List (List Int)) (p i:Nat) (d:Int):List (List Int):=putR X p i ((X.getD p []).getD i 0-d)
def KD (X:List (List Int)) (s:Slip):List (List Int):=
  if s.kind=1 then addR (subR X s.place.toNat (ixR s.sort.toNat s.soil) s.amt) s.to.toNat (ixR s.sort.toNat s.soil) s.amt
  else if s.kind=2 then addR (subR X s.place.toNat (ixR s.sort.toNat false) s.amt) s.place.toNat (ixR s.sort.toNat true) s.amt
  else if s.kind=3 then addR (subR X s.place.toNat (ixR s.sort.toNat true) s.amt) s.place.toNat (ixR s.sort.toNat false) s.amt
  else if s.kind=4 then putR X s.place.toNat (ixR s.sort.toNat s.soil) s.amt
  else if s.kind=5 then addR X s.place.toNat (ixR s.sort.toNat false) s.amt
  else subR X s.place.toNat (ixR s.sort.toNat true) s.amt
section
variable {X:List (List Int)} {s:Slip}
theorem done_1 (h:s.kind=1):addR (subR X s.place.toNat (ixR s.sort.toNat s.soil) s.amt) s.to.toNat (ixR s.sort.toNat s.soil) s.amt=KD X s:=(if_pos h).symm
theorem done_2 (h:s.kind=2):addR (subR X s.place.toNat (ixR s.sort.toNat false) s.amt) s.place.toNat (ixR s.sort.toNat true) s.amt=KD X s:=by unfold KD;rw [if_neg (by omega),if_pos h]
theorem done_3 (h:s.kind=3):addR (subR X s.place.toNat (ixR s.sort.toNat true) s.amt) s.place.toNat (ixR s.sort.toNat false) s.amt=KD X s:=by unfold KD;rw [if_neg (by omega),if_neg (by omega),if_pos h]
theorem done_4 (h:s.kind=4):putR X s.place.toNat (ixR s.sort.toNat s.soil) s.amt=KD X s:=by unfold KD;rw [if_neg (by omega),if_neg (by omega),if_neg (by omega),if_pos h]
theorem done_5 (h:s.kind=5):addR X s.place.toNat (ixR s.sort.toNat false) s.amt=KD X s:=by unfold KD;rw [if_neg (by omega),if_neg (by omega),if_neg (by omega),if_neg (by omega),if_pos h]
theorem done_6 (h:s.kind=6):subR X s.place.toNat (ixR s.sort.toNat true) s.amt=KD X s:=by unfold KD;rw [if_neg (by omega),if_neg (by omega),if_neg (by omega),if_neg (by omega),if_neg (by omega)]
end
section
variable {H:Hs} {S P:Nat} {p so d:Int} {b:Bool}
theorem MW (hp:0≤p∧p<P) (hs:0≤so∧so<S):CI (NF ⟨p,so,b⟩ d H) S P=addR (CI H S P) p.toNat (ixR so.toNat b) d:=stock_add hp hs
theorem MX (hp:0≤p∧p<P) (hs:0≤so∧so<S):CI (NF ⟨p,so,b⟩ (-d) H) S P=subR (CI H S P) p.toNat (ixR so.toNat b) d:=by rw [stock_add hp hs,← Int.sub_eq_add_neg];rfl
theorem done_stock {s:Slip} (hp:0≤s.place∧s.place<P) (hs:0≤s.sort∧s.sort<S) (ht:s.kind=1→0≤s.to∧s.to<P):KD (CI H S P) s=CI (doSlip s H) S P:=by
  unfold KD doSlip
  split
  · rename_i h;rw [MW (ht h) hs,MX hp hs]
  split
  · rw [MW hp hs,MX hp hs]
  split
  · rw [MW hp hs,MX hp hs]
  split
  · unfold keyOf;rw [stock_put hp hs]
  split
  · rw [MW hp hs]
  · rw [MX hp hs]
theorem stockRow_all {B:Int} {p:Int} (h:∀ k,-B≤CZ k H∧CZ k H≤B):∀ x∈BB H p S,-B≤x∧x≤B:=by
  induction S with
  | zero=>intro x hx;cases hx
  | succ S ih=>
    intro x hx;simp only [BB,List.mem_append,List.mem_cons,List.not_mem_nil,or_false] at hx;rcases hx with hx | rfl | rfl
    · exact ih x hx
    · exact h _
    · exact h _
theorem stockTo_rows {B:Int} {m:Nat} (h:∀ k,-B≤CZ k H∧CZ k H≤B) (hm:m<2*S) (hS:S≤2):RowsI B m (CI H S P):=by
  induction P with
  | zero=>intro r hr;cases hr
  | succ P ih=>
    intro r hr;simp only [CI,List.mem_append,List.mem_singleton] at hr;rcases hr with hr | rfl
    · exact ih r hr
    · have:=FZ (H:=H) (p:=(P:Int)) (j:=S)
      exact ⟨by omega,by omega,stockRow_all h⟩
end
theorem openRow_hit {p:Int} {row:List Int} {H:Hs} {k:Nat}:∀ {j:Nat},k<j→CZ ⟨p,(k:Int),false⟩ (IH p row j H)=row.getD k 0:=by
  intro j
  induction j with
  | zero=>omega
  | succ j ih=>
    intro h;simp only [IH,JV,HKey.mk.injEq]
    by_cases e:k=j
    · subst e;simp
    · rw [if_neg (by omega),ih (by omega)]
theorem openRow_soil {p:Int} {row:List Int} {H:Hs} {q so:Int}:∀ {j:Nat},CZ ⟨q,so,true⟩ (IH p row j H)=CZ ⟨q,so,true⟩ H:=by
  intro j
  induction j with
  | zero=>rfl
  | succ j ih=>simp only [IH,JV,HKey.mk.injEq];rw [if_neg (by simp),ih]
theorem openTo_soil {st:List (List Int)} {q so:Int}:∀ {i:Nat},CZ ⟨q,so,true⟩ (KK st i)=0:=by
  intro i
  induction i with
  | zero=>rfl
  | succ i ih=>simp only [KK];rw [openRow_soil,ih]
theorem openTo_hit {st:List (List Int)} {p k:Nat} (hk:k<(st.getD p []).length):∀ {i:Nat},p<i→CZ ⟨(p:Int),(k:Int),false⟩ (KK st i)=(st.getD p []).getD k 0:=by
  intro i
  induction i with
  | zero=>omega
  | succ i ih=>
    intro h;simp only [KK]
    by_cases e:p=i
    · subst e;exact openRow_hit hk
    · rw [openRow_get (.inl (by simp only;omega)),ih (by omega)]
theorem open_row {L:Lin} {p k:Nat} (hp:p<L.start.length) (hk:k<(L.start.getD p []).length):BB (CM L) (p:Int) (k+1)=BB (CM L) (p:Int) k++[(L.start.getD p []).getD k 0,0]:=by
  simp only [BB];unfold CM;rw [openTo_hit hk hp,openTo_soil]
section
variable {P S:Int} {H:Hs}
end
def hsAt (L:Lin) (i:Nat):Hs:=aft (CM L) ((AO L.slips).take i)
def ED (L:Lin) (i:Nat):List (List Int):=CI (hsAt L i) L.sorts.toNat L.places.toNat
def evTo (L:Lin) (i:Nat):List Sh.Event:=(AL L).take i
section
variable {L:Lin} {i:Nat} (g:GoodL L)
include g
omit g in
theorem sortS_at (hi:i<(AO L.slips).length):(AO L.slips).getD i AB∈L.slips:=(GG _).subset (BE hi)
theorem slip_at (hi:i<(AO L.slips).length):(0≤((AO L.slips).getD i AB).place∧((AO L.slips).getD i AB).place<L.places.toNat)∧(0≤((AO L.slips).getD i AB).sort∧((AO L.slips).getD i AB).sort<L.sorts.toNat)∧(((AO L.slips).getD i AB).kind=1→0≤((AO L.slips).getD i AB).to∧((AO L.slips).getD i AB).to<L.places.toNat)∧(0≤((AO L.slips).getD i AB).amt∧((AO L.slips).getD i AB).amt≤50)∧(1≤((AO L.slips).getD i AB).kind∧((AO L.slips).getD i AB).kind≤6):=by
  obtain ⟨_,_,h3,h4,h5,h6,h7⟩:=GF (g.slipOf (sortS_at hi));have h8:=g.places;have h9:=g.sorts;exact ⟨by omega,by omega,fun h=>by have:=h7 h;omega,h6,h3⟩
omit g in
theorem hsAt_next (hi:i<(AO L.slips).length):hsAt L (i+1)=doSlip ((AO L.slips).getD i AB) (hsAt L i):=by
  unfold hsAt;rw [CE (d:=AB) hi];unfold aft;rw [List.foldl_append];rfl
theorem LG (hi:i<(AO L.slips).length):KD (ED L i) ((AO L.slips).getD i AB)=ED L (i+1):=by
  obtain ⟨h1,h2,h3,_⟩:=slip_at g hi;unfold ED;rw [done_stock h1 h2 h3,hsAt_next hi]
theorem rowsAt_in:RowsI 100000 (2*L.sorts.toNat-1) (ED L i):=by
  have h8:=g.places;have h9:=g.sorts;have hp:=g.goodS;have hw:Within 100000 (hsAt L i):=GoodS.within (S:=AO L.slips) (hp.perm (GG _)) g.within i;exact stockTo_rows hw (by omega) (by omega)
omit g in
theorem rowsAt_len:(ED L i).length=L.places.toNat:=FM
theorem gap_at (hi:i<(AO L.slips).length):(((ED L i).getD ((AO L.slips).getD i AB).place.toNat []).getD (ixR ((AO L.slips).getD i AB).sort.toNat ((AO L.slips).getD i AB).soil) 0)=CZ (keyOf ((AO L.slips).getD i AB)) (hsAt L i):=by
  obtain ⟨h1,h2,_⟩:=slip_at g hi;exact stock_at h1 h2
omit g in
theorem evTo_next (hi:i<(AO L.slips).length):evTo L (i+1)=evTo L i++[PT (hsAt L i) ((AO L.slips).getD i AB)]:=by
  exact OG hi
omit g in
theorem evTo_all (hi:(AO L.slips).length≤i):evTo L i=AL L:=by
  unfold evTo;rw [List.take_of_length_le];rw [FT,← (GG L.slips).length_eq];exact hi
end
theorem ixR_lt {so:Int} {b:Bool} {S:Nat} (h:0≤so∧so<S):ixR so.toNat b≤2*S-1:=by unfold ixR;split <;> omega
section
variable {L:Lin} {i:Nat}
abbrev sAt (L:Lin) (i:Nat):Slip:=(AO L.slips).getD i AB
abbrev cAt (L:Lin) (i:Nat):Int:=((ED L i).getD (sAt L i).place.toNat []).getD (ixR (sAt L i).sort.toNat (sAt L i).soil) 0
theorem gaps_yes (g:GoodL L) (hi:i<(AO L.slips).length) (h:(cmp .eql (sAt L i).kind 4&&!cmp .eql ((sAt L i).amt-cAt L i) 0)=true):AV (evTo L i)++[⟨(sAt L i).num,(sAt L i).amt-cAt L i⟩]=AV (evTo L (i+1)):=by
  simp only [GO,Bool.and_eq_true,decide_eq_true_eq,Bool.not_eq_true',decide_eq_false_iff_not] at h;have e:=gap_at g hi;rw [evTo_next hi,← gapsOf_t]
  · unfold PT;simp only;rw [if_pos h.1,← e]
  · unfold PT;simp only;rw [if_pos h.1,← e];exact h.2
theorem gaps_no (g:GoodL L) (hi:i<(AO L.slips).length) (h:(cmp .eql (sAt L i).kind 4&&!cmp .eql ((sAt L i).amt-cAt L i) 0)=false):AV (evTo L i)=AV (evTo L (i+1)):=by
  have e:=gap_at g hi;rw [evTo_next hi,← gapsOf_f];unfold PT;simp only;rw [← e]
  split
  · rename_i h4
    simp only [GO,h4,decide_true,Bool.true_and,Bool.not_eq_false',decide_eq_true_eq] at h;exact h
  · rfl
end
section
variable {a r x y:Bool}
end
section
variable {Y:Yard} {k:Nat}
end
end Go.Sh
namespace Go.Sl
open Go
end Go.Sl
namespace Go.Sh
open Go Go.Sl
end Go.Sh
namespace Go.Sl
open Go
section
variable {P:Program} {N:Nat} {ops:Array Oper} {i d:Nat} {l:Sl} {I:Imm} {R:Seg} {ty:TypeId} {gd:Option (Nat × Bool)}
theorem det_remT {x y : Operand} {T T' : TypeId} {k : IntKind} {a b : Int} (hop : GB ops N i = some (some d, .binOp .rem T x y T', ty, gd)) (hg : FH ops l gd = some true)
    (hx:CJ l x=some (.int k a)) (hy:CJ l y=some (.int k b)) (hb:1≤b):Det P N ops i l I R d (.int k (a.tmod b)):=
  det_bin hop hg hx hy fun I' M'=>by
    have hne:b≠0:=by omega
    simp only [binOp,Op.intDiv,ne_eq,not_true_eq_false,if_false,if_neg hne];exact ⟨rfl,rfl⟩
end
theorem tmod_bounds {x:Int} {n:Nat} (hn:2≤n):-(n:Int)<x.tmod n∧x.tmod n<n:=
  ⟨by have:=Int.lt_tmod_of_pos x (show (0:Int)<n by omega);omega,Int.tmod_lt_of_pos x (by omega)⟩
theorem fold_nat {x:Int} {n:Nat} (hn:2≤n):∃ r:Nat,(x.tmod n+n)%(n:Int)=↑r∧r<n:=by
  have h1:=Int.emod_nonneg (x.tmod n+n) (show (n:Int)≠0 by omega);have h2:=Int.emod_lt_of_pos (x.tmod n+n) (show (0:Int)<n by omega);exact ⟨((x.tmod n+n)%(n:Int)).toNat,by omega,by omega⟩
end Go.Sl
namespace Go.Sh
open Go Go.Sl
end Go.Sh
namespace Go.Sl
open Go
theorem OY {α:Type} {d:α}:∀ (vs:List α) (i:Nat),vs.set i (vs.getD i d)=vs
  | [],_=>rfl
  | _::_,0=>rfl
  | v::vs,i+1=>by
    show v::vs.set i (vs.getD i d)=v::vs;rw [OY vs i]
theorem OwnEach.same {E:TypeId} {vs:List Value} {i:Nat} {v':Value} {xss:List (List Int)} {M:Seg} (h:OwnEach E (vs.set i v') xss M) (e:vs.getD i undef=v'):OwnEach E vs xss M:=by
  subst e;rwa [OY] at h
theorem fold_mod {x:Int} {n:Nat}:(x.tmod n+n)%(n:Int)=x%n:=by
  rw [Int.add_emod_right,Int.tmod_def,Int.sub_eq_add_neg,← Int.mul_neg,Int.add_mul_emod_self_left]
end Go.Sl
namespace Go.Sh
open Go Go.Sl
theorem inb_snoc {B:Int} {l:List Int} {x:Int} (h:∀ x∈l,0≤x∧x≤B) (hx:0≤x∧x≤B):∀ y∈l++[x],0≤y∧y≤B:=fun y hy=>by
  rcases List.mem_append.1 hy with hy | hy
  · exact h y hy
  · simp only [List.mem_singleton] at hy;subst hy;exact hx
theorem inb_snoc2 {B:Int} {l:List Int} {x y:Int} (h:∀ x∈l,0≤x∧x≤B) (hx:0≤x∧x≤B) (hy:0≤y∧y≤B):∀ z∈l++[x,y],0≤z∧z≤B:=fun z hz=>by
  rcases List.mem_append.1 hz with hz | hz
  · exact h z hz
  · simp only [List.mem_cons,List.not_mem_nil,or_false] at hz
    rcases hz with rfl | rfl
    · exact hx
    · exact hy
theorem HH {l:List Int} {n:Nat} (h:l.Perm (GA n)):l.Nodup:=by
  exact h.nodup_iff.2 (List.Pairwise.map (fun i:Nat=>(i:Int)) (fun a b hab e=>hab (by exact_mod_cast e)) List.nodup_range)
theorem deal_at {l:List Int} {n t:Nat} (h:l.Perm (GA n)) (ht:t<l.length):0≤l.getD t 0∧l.getD t 0<n:=by
  have h1:=h.mem_iff.1 (BE (xs:=l) (d:=0) ht);unfold GA at h1;obtain ⟨a,ha,e⟩:=List.mem_map.1 h1;have:=List.mem_range.1 ha;omega
def RowB (B:Int) (n:Nat) (r:List Int):Prop:=r.length=n∧∀ x∈r,0≤x∧x≤B
theorem RowB.set {B:Int} {n i:Nat} {r:List Int} {v:Int} (h:RowB B n r) (hv:0≤v∧v≤B):RowB B n (r.set i v):=⟨by rw [List.length_set];exact h.1,fun x hx=>by
  rcases List.mem_or_eq_of_mem_set hx with hx | rfl
  · exact h.2 x hx
  · exact hv⟩
theorem RowB.at {B:Int} {n i:Nat} {r:List Int} (h:RowB B n r) (hi:i<n):r.length=n∧0≤r.getD i 0∧r.getD i 0≤B:=⟨h.1,h.2 _ (BE (xs:=r) (d:=0) (by rw [h.1];exact hi))⟩
theorem RowsB.row {B:Int} {n p:Nat} {xss:List (List Int)} (h:RowsB B n xss) (hp:p<xss.length):RowB B n (xss.getD p []):=h _ (BE (xs:=xss) (d:=[]) hp)
theorem RowsB.put {B:Int} {n p:Nat} {xss:List (List Int)} {r:List Int} (h:RowsB B n xss) (hr:RowB B n r):RowsB B n (xss.set p r):=fun q hq=>by
  rcases List.mem_or_eq_of_mem_set hq with hq | rfl
  · exact h q hq
  · exact hr
theorem ix_yes {so:Bool} {k:Int} (h:(so||(cmp .eql k 3||cmp .eql k 6))=true) (hs:so=true→k=1∨k=4):k≠2:=by
  intro e;subst e;cases so
  · simp [cmp] at h
  · have:=hs rfl;omega
theorem ix_no {so:Bool} {k:Int} (h:(so||(cmp .eql k 3||cmp .eql k 6))=false):k≠3:=by
  intro e;subst e;cases so <;> simp [cmp] at h
theorem other_place {p r n:Nat} {f:Int} (hp:p<n) (hf:1≤f∧f≤n-1) (hr:(r:Int)=(p+f)%n):r≠p:=by
  intro e;subst e;have h1:((r:Int)+f)/n=0∨((r:Int)+f)/n=1:=by
    have h2:0≤((r:Int)+f)/n:=Int.ediv_nonneg (by omega) (by omega);have h3:((r:Int)+f)/n<2:=Int.ediv_lt_of_lt_mul (by omega) (by omega);omega
  have h4:=Int.emod_add_mul_ediv ((r:Int)+f) n;rcases h1 with h1 | h1 <;> rw [h1] at h4 <;> omega
theorem small_nums {P Q:Int} {dl:List Int} {i:Nat} {sl:List Slip} (h:SlipsOf P Q dl i sl) (hd:dl.Perm (GA 20)) (hi:i≤20):∀ s∈sl,s.num≤20:=fun s hs=>by
  obtain ⟨j,h1,h2⟩:=h.2.2.2 s hs;have h3:=hd.length_eq;rw [GH] at h3;have:=deal_at hd (t:=j) (by omega);omega
end Go.Sh
namespace Go.Proofs.YtgcemienebmdeaaGreat
open Go Go.Sl Go.Sh
set_option maxRecDepth 100000
noncomputable def c_rat (p:List Nat):Code:=sub (AU Tryz.f101) p
theorem rat_ct (I:Imm) (so:Int) (sl:Bool) (h0:0≤so∧so≤1000):CtV Tryz.prog 101 #[vI so,.bool sl] I (vI (↑(ixR so.toNat sl))):=by
 refine fr (args:=[_,_]) (N:=11) Tryz.func101 (fun F=>?_);show Run _ _ (c_rat []) _ _ [(0,vI (so)),(1,.bool (sl))] _ _;refine rnm (rqr ?_);refine sp 1 [(4,vI (0))] (se (rq (rqr (sp 1 [(5,.bool (sl))] (se (rc 5 rfl (fun h1=>?_) (fun h1=>?_)))))))
 ·
  have a0:=h1;refine rqr (sp 1 [(6,vI (so))] (sd (dmu 7 (2) (so)) (sd (da 8 (2*so) (1)) (sp 1 [(4,vI ((2*so)+1))] (se (BJ ((RP (AG (t:=4) [] (by kernel_rfl) rfl (TR _) (IR _) ?_)))))))));exact ⟨congrArg (Value.int .i64) (at_t h1 h0.1),rfl⟩
 have a0:=h1;refine AQ (NX (rqr (sp 1 [(9,vI (so))] (sd (dmu 10 (2) (so)) (sp 1 [(4,vI (2*so))] (se (BJ (AG (t:=4) [] (by kernel_rfl) rfl (TR _) (IR _) ?_))))))));exact ⟨congrArg (Value.int .i64) (at_f h1 h0.1),rfl⟩
noncomputable def c_rfirst (p:List Nat):Code:=sub (AU Tryz.f127) p
theorem rfirst_ct (I:Imm) (l:Value) (L:Lin) (l_f:IsLin I l L) (hg:GoodL L):Ct Tryz.prog 127 #[l] I ([]) (fun v I' M'=>∃ u:Value,v=u∧M'=[]∧IsRows I' u (CI (CM L) L.sorts.toNat L.places.toNat)):=by
 obtain ⟨l1,l2,l3,j9,h3,h5,h7⟩:=id l_f;subst j9;obtain ⟨a5,a6,i5,i8,i1,h0,i6,i7,c5,d3⟩:=id h3;subst h0;obtain ⟨a9,b0,i9,j2,h4,j0,j1,j3⟩:=id h5;subst h4;obtain ⟨b2,b3,j4,j7,h6,j5,j6,j8⟩:=id h7;subst h6;refine fr (args:=[_]) (N:=35) Tryz.func127 (fun F=>?_);show Run _ _ (c_rfirst []) _ _ [(0,.agg #[vI (L.places),vI (L.sorts),vS a5 L.start.length a6,vS a9 L.keeps.length b0,vS b2 L.slips.length b3])] _ _;refine rnm ?_;have k9:=hg.places;have l0:=hg.sorts;have l4:=hg.start;refine rqr (sS (sb 1 26 #[vI (L.places),vI (L.sorts),vS a5 L.start.length a6,vS a9 L.keeps.length b0,vS b2 L.slips.length b3] (fun b1=>(sp 1 [(2,vN)] (sn (sp 1 [(3,vN)] (se (rq (rqr (sp 1 [(4,vI (0))] (se (rb 0 ?_))))))))))));refine rl (fun mz a w=>∃ J0:Imm,∃ k:Nat,∃ c3:Value,∃ a4:Seg,∃ a2:List Value,(I.le J0)∧((k:Int)≤L.places)∧(RowsV J0 a2 (CI (CM L) L.sorts.toNat k))∧(Own 29 1 DF c3 (a2) a4)∧Slots 35 [(3,c3),(4,vI ↑k),(1,vP b1 0),(2,vN)] a∧a.defers=[]∧St J0 ((bX b1 #[vI (L.places),vI (L.sorts),vS a5 L.start.length a6,vS a9 L.keeps.length b0,vS b2 L.slips.length b3] 26)::(a4++F)) w∧mz=L.places.toNat-k) ?_ ?_
 ·intro a w hS hD hW;exact ⟨_,I,0,(vN),[],[],IR _,by omega,(RowsV.nil _),(Own.nil _ _ _),hS.sub (.cons 3 rfl (.cons 4 rfl (.cons 1 rfl (.cons 2 rfl (.nil _))))),hD,hW,rfl⟩
 rintro mz a w ⟨J0,k,c3,a4,a2,hJ0,hk,a3,c1,hS,hD,hW,rfl⟩
 refine AS hS hD hW ?_;clear hS hD hW a w;replace c5:=c5.mono hJ0;replace d3:=fun i hi=>(d3 i hi).mono hJ0
 obtain ⟨a7,a8,c6,e4⟩:=c1.shape;subst c6;have b6:=a3.1
 try simp only [LS,LA,LC,LN,LK] at b6
 refine rq (rqr (sp 2 [(8,vP b1 0),(7,vI (↑k))] (sd (dlb 9 0 0 b1 (vI (L.places))) (sp 1 [(10,.bool (cmp .lss (↑k) (L.places)))] (se (rc 10 rfl (fun h1=>?_) (fun h1=>?_)))))))
 ·
  have g8:=h1;have h1:=CC h1;refine AQ (NX (rq (rb 1 (rqr (sp 1 [(5,vN)] (se (rq (rqr (sp 1 [(6,vI (0))] (se (rb 2 ?_)))))))))));refine rl (fun mz a w=>∃ j:Nat,∃ c4:Value,∃ b5:Seg,(j≤L.sorts.toNat)∧(Own 3 1 AN c4 (BB (CM L) (k:Int) j) b5)∧Slots 35 [(5,c4),(6,vI ↑j),(1,vP b1 0),(2,vN),(3,vS a7 a2.length a8),(4,vI (↑k))] a∧a.defers=[]∧St J0 ((bX b1 #[vI (L.places),vI (L.sorts),vS a5 L.start.length a6,vS a9 L.keeps.length b0,vS b2 L.slips.length b3] 26)::(a4++(b5++F))) w∧mz=L.sorts.toNat-j) ?_ ?_
  ·intro a w hS hD hW;exact ⟨_,0,(vN),[],Nat.zero_le _,(Own.nil _ _ _),hS.sub (.cons 5 rfl (.cons 6 rfl (.cons 1 rfl (.cons 2 rfl (.cons 3 rfl (.cons 4 rfl (.nil _))))))),hD,hW,rfl⟩
  rintro mz a w ⟨j,c4,b5,hj,c2,hS,hD,hW,rfl⟩
  refine AS hS hD hW ?_;clear hS hD hW a w;obtain ⟨a0,a1,c7,e5⟩:=c2.shape;subst c7;have l5:=FZ (H:=(CM L)) (p:=(k:Int)) (j:=j);refine rq (rqr (sp 2 [(14,vP b1 1),(13,vI (↑j))] (sd (dlb 15 0 1 b1 (vI (L.sorts))) (sp 1 [(16,.bool (cmp .lss (↑j) (L.sorts)))] (se (rc 16 rfl (fun h2=>?_) (fun h2=>?_)))))))
  ·
   have g9:=h2;have h2:=CC h2;refine AQ (NX (rq (rb 3 ?_)));have l6:=hg.rows _ (BE (xs:=L.start) (d:=[]) (k:=k) (by omega));refine rr (sp 2 [(20,vP b1 2),(19,vS a0 (BB (CM L) (k:Int) j).length a1)] (sd (dlb 21 0 2 b1 (vS a5 L.start.length a6)) (sp 1 [(22,vI (↑k))] (sd (di 23 1 (k) c5.addr) ?_))));have e1:=d3 (k) (by omega);obtain ⟨k2,k4,k3,k7,e0,k5,k6,e2⟩:=id e1;rw [e0] at e1;refine sd (CG (dl 24 (FS c5 (k) (by omega))) e0) (sp 1 [(25,vI (↑j))] (sd (di 26 1 (j) e2.addr) (sd (dl 27 (DB e2 (j) (by omega))) (sS (sbs 28 3 2 #[vI ((L.start.getD (k) []).getD (j) 0),vI (0)] (fun b4=>(sS (AZ (d:=29) (x:=(.tmp 19)) (y:=(.tmp 28)) (T:=29) (T':=29) (E:=3) (E':=3) (sz:=1) (bs:=8) (z:=vI (0)) (cell:=AN) (xs:=BB (CM L) (k:Int) j) (ys:=[((L.start.getD (k) []).getD (j) 0:Int),(0:Int)]) (Ms:=b5) (ty:=29) (gd:=none) (by kernel_rfl) rfl (by kernel_rfl) (by kernel_rfl) (by kernel_rfl) (by kernel_rfl) (by kernel_rfl) (by decide) (by kernel_rfl) rfl rfl (c2) (PU (PU (PO _ _ _))) (DT _) (DJ 0 rfl rfl) (by first | omega | (simp only [LC,LN];omega)) (fun v6 h9 i0=>(BC (M':=((bX b1 #[vI (L.places),vI (L.sorts),vS a5 L.start.length a6,vS a9 L.keeps.length b0,vS b2 L.slips.length b3] 26)::(h9++(a4++F)))) (fun w h=>(h.perm (PW PM)).sub (TC _ (TR _))) ?_))))))))));obtain ⟨i2,i3,k0,l7⟩:=i0.shape;subst k0;refine sp 1 [(5,vS i2 ((BB (CM L) (k:Int) j)++([((L.start.getD (k) []).getD (j) 0:Int),(0:Int)])).length i3)] (ee (NB (NX (rr (sp 1 [(17,vI (↑j))] (sd (da 18 (↑j) (1)) (sp 1 [(6,vI (↑j+1))] (ee ?_))))))));refine AM (L.sorts.toNat-(j+1)) (by omega) ?_;intro a w hS hD hW;exact ⟨j+1,vS i2 ((BB (CM L) (k:Int) j)++([((L.start.getD (k) []).getD (j) 0:Int),(0:Int)])).length i3,h9,by omega,(by rw [open_row (by omega) (by omega)];exact i0),hS.sub (.consE 5 rfl rfl (.consE 6 rfl rfl (.cons 1 rfl (.cons 2 rfl (.cons 3 rfl (.cons 4 rfl (.nil _))))))),hD,hW.perm (PC _ (PO _ _ _)),rfl⟩
  have g9:=h2;have h2:=CH h2;refine CB 2 ((EP (EP (EB (NX (rr (sp 2 [(31,vS a0 (BB (CM L) (k:Int) j).length a1),(30,vS a7 a2.length a8)] (sS (sbs 32 29 1 #[vS a0 (BB (CM L) (k:Int) j).length a1] (fun b7=>(sfz (A:=((bX b7 #[vS a0 (BB (CM L) (k:Int) j).length a1] 29)::(bX b1 #[vI (L.places),vI (L.sorts),vS a5 L.start.length a6,vS a9 L.keeps.length b0,vS b2 L.slips.length b3] 26)::(a4++F))) 0 c2 (PU (PU (PO _ _ _))) (fun I9 c8 b9=>?_))))))))))));replace a3:=a3.mono c8;obtain ⟨f4,f6,f5,f9,d1,f7,f8,g0⟩:=id b9;cases d1;refine sS (AZ (d:=33) (x:=(.tmp 30)) (y:=(.tmp 32)) (T:=137) (T':=137) (E:=29) (E':=29) (sz:=1) (bs:=24) (z:=vN) (cell:=DF) (xs:=a2) (ys:=[(vS a0 (BB (CM L) (k:Int) j).length a1:Value)]) (Ms:=a4) (ty:=137) (gd:=none) (by kernel_rfl) rfl (by kernel_rfl) (by kernel_rfl) (by kernel_rfl) (by kernel_rfl) (by kernel_rfl) (by decide) (by kernel_rfl) rfl rfl (c1) (PU (PM.symm)) (HM rfl) (DJ 0 rfl rfl) (by first | omega | (simp only [LC,LN];have i4:=FM (H:=(CM L)) (s:=L.sorts.toNat) (k:=k);omega)) (fun l8 d4 d6=>(BC (M':=((bX b1 #[vI (L.places),vI (L.sorts),vS a5 L.start.length a6,vS a9 L.keeps.length b0,vS b2 L.slips.length b3] 26)::(d4++F))) (fun w h=>(h.perm (PW PM)).sub (TC _ (TR _))) ?_)));obtain ⟨d7,d8,h8,k1⟩:=d6.shape;subst h8;have d9:=(a3).snoc b9;refine sp 1 [(3,vS d7 (a2++([(vS a0 (BB (CM L) (k:Int) j).length a1:Value)])).length d8)] (ee (NB (NX (rr (sp 1 [(11,vI (↑k))] (sd (da 12 (↑k) (1)) (sp 1 [(4,vI (↑k+1))] (ee ?_))))))));refine AM (L.places.toNat-(k+1)) (by omega) ?_;intro a w hS hD hW;exact ⟨I9,k+1,vS d7 (a2++([(vS a0 (BB (CM L) (k:Int) j).length a1:Value)])).length d8,d4,a2++([(vS a0 (BB (CM L) (k:Int) j).length a1:Value)]),(IT hJ0 c8),by omega,((show BB (CM L) (k:Int) j=BB (CM L) (k:Int) L.sorts.toNat from by rw [show j=L.sorts.toNat by omega])▸d9),d6,hS.sub (.consE 3 rfl rfl (.consE 4 rfl rfl (.cons 1 rfl (.cons 2 rfl (.nil _))))),hD,hW,rfl⟩
 have g8:=h1;have h1:=CH h1;refine CB 0 ((EP (EP (EB (NX (rq ?_))))));have i4:=FM (H:=(CM L)) (s:=L.sorts.toNat) (k:=k);refine BP (B:=((bX b1 #[vI (L.places),vI (L.sorts),vS a5 L.start.length a6,vS a9 L.keeps.length b0,vS b2 L.slips.length b3] 26)::F)) undef c1 (by first | omega | (simp only [LS,LC,LN,LA,LK,LD] <;> omega) | decide) (PM.symm) (PR _) (fun k8 c9 c0=>?_);replace a3:=a3.mono c9;obtain ⟨g1,g3,g2,g6,d2,g4,g5,g7⟩:=id c0;cases d2;have b8:=a3.isRows c0;have d5:=a3.1;obtain ⟨e6,e8,e7,f1,e3,d0,e9,f0,f2,f3⟩:=id b8
 injection d0 with fr17_e1 fr17_e2 fr17_e3;subst fr17_e1;subst fr17_e3
 refine rr (sp 2 [(2,vS a7 a2.length a8)] (se (BJ (AG (t:=2) [] (by kernel_rfl) rfl (TC _ (TR _)) (IT hJ0 c9) ?_))));exact ⟨_,rfl,rfl,((show CI (CM L) L.sorts.toNat k=CI (CM L) L.sorts.toNat L.places.toNat from by rw [show k=L.places.toNat by omega])▸b8)⟩
noncomputable def c_rdone (p:List Nat):Code:=sub (AU Tryz.f128) p
set_option maxHeartbeats 1000000 in
theorem rdone_ct (I:Imm) (h:Value) (X:List (List Int)) (s:Slip) (h_f:IsRows I h X) (hX:X.length≤1000) (hp:0≤s.place∧s.place<X.length) (ht:s.kind=1→0≤s.to∧s.to<X.length) (hs:0≤s.sort∧s.sort≤1) (ha:0≤s.amt∧s.amt≤50) (hk6:1≤s.kind∧s.kind≤6) (hr:∃ m,ixR s.sort.toNat true≤m∧RowsI 100000 m X):Ct Tryz.prog 128 #[h,.agg #[vI s.num,vI s.hour,vI s.kind,vI s.place,vI s.to,vI s.sort,.bool s.soil,vI s.amt]] I ([]) (fun v I' M'=>∃ u:Value,v=u∧M'=[]∧IsRows I' u (KD X s)):=by
 obtain ⟨P2,P3,X7,Y0,T3,T2,X8,X9,A7,P4⟩:=id h_f;subst T2;refine fr (args:=[_,_]) (N:=204) Tryz.func128 (fun F=>?_);show Run _ _ (c_rdone []) _ _ [(0,vS P2 X.length P3),(1,.agg #[vI (s.num),vI (s.hour),vI (s.kind),vI (s.place),vI (s.to),vI (s.sort),.bool (s.soil),vI (s.amt)])] _ _;refine rnm ?_;obtain ⟨m,hm,hr⟩:=hr;refine rqr (sS (sb 3 28 #[vI (s.num),vI (s.hour),vI (s.kind),vI (s.place),vI (s.to),vI (s.sort),.bool (s.soil),vI (s.amt)] (fun b1=>(sp 1 [(4,vN)] (sn (sp 1 [(5,vN)] (se (rq (rqr (sp 1 [(6,vI (0))] (se (rb 0 ?_))))))))))));refine rl (fun mz a w=>∃ J0:Imm,∃ i:Nat,∃ hv:Value,∃ a2:List Value,∃ hM:Seg,∃ gM:Seg,(I.le J0)∧(i≤X.length)∧(Own 29 1 DF hv a2 hM)∧(OwnEach 3 a2 (X.take i) gM)∧Slots 204 [(5,hv),(6,vI ↑i),(0,vS P2 X.length P3),(3,vP b1 0),(4,vN)] a∧a.defers=[]∧St J0 ((bX b1 #[vI (s.num),vI (s.hour),vI (s.kind),vI (s.place),vI (s.to),vI (s.sort),.bool (s.soil),vI (s.amt)] 28)::(hM++(gM++F))) w∧mz=X.length-i) ?_ ?_
 ·intro a w hS hD hW;exact ⟨_,I,0,(vN),[],[],[],IR _,Nat.zero_le _,Own.nil _ _ _,OwnEach.nil,hS.sub (.cons 5 rfl (.cons 6 rfl (.cons 0 rfl (.cons 3 rfl (.cons 4 rfl (.nil _)))))),hD,hW,rfl⟩
 rintro mz a w ⟨J0,i,hv,a2,hM,gM,hJ0,hi,a3,P5,hS,hD,hW,rfl⟩
 refine AS hS hD hW ?_;clear hS hD hW a w;replace A7:=A7.mono hJ0;replace P4:=fun i hi=>(P4 i hi).mono hJ0
 obtain ⟨a0,a1,Q3,T5⟩:=a3.shape;subst Q3;have T6:=P5.length;have Y2:(X.take i).length≤1000:=by rw [LK];omega
 refine rq (rqr (sp 4 [(13,.bool (cmp .lss (↑i) (↑(X.length))))] (se (rc 13 rfl (fun h1=>?_) (fun h1=>?_)))))
 ·
  have O5:=h1;have h1:=CC h1;refine AQ (NX (rq (rb 1 ?_)));have Y1:=hr.at (p:=i) (by omega);refine rr (sp 1 [(16,vS a0 a2.length a1)] (sS (sbs 17 3 0 #[] (fun b3=>(sp 2 [(19,vI (↑i)),(18,vS P2 X.length P3)] (sd (di 20 1 (i) A7.addr) ?_))))));have q0:=P4 (i) (by omega);obtain ⟨W4,W6,W5,W9,u0,W7,W8,X0⟩:=id q0;rw [u0] at q0;refine sd (CG (dl 21 (FS A7 (i) (by omega))) u0) ?_;have T4:Own 3 1 AN (vS (some ⟨b3,0,none⟩) 0 0) ([]:List Int) [(bX b3 #[] 3)]:=Own.lit rfl rfl;refine sS (AZ (d:=22) (x:=(.tmp 17)) (y:=(.tmp 21)) (T:=29) (T':=29) (E:=3) (E':=3) (sz:=1) (bs:=8) (z:=vI (0)) (cell:=AN) (xs:=([]:List Int)) (ys:=X.getD (i) []) (Ms:=[(bX b3 #[] 3)]) (ty:=29) (gd:=none) (by kernel_rfl) rfl (by kernel_rfl) (by kernel_rfl) (by kernel_rfl) (by kernel_rfl) (by kernel_rfl) (by decide) (by kernel_rfl) rfl rfl (T4) (PR _) (DT _) q0.src (by first | omega | (simp only [LC,LN,LA,LK,LD];omega)) (fun v7 u1 Q0=>?_));rw [NA] at Q0;refine pm (M':=((bX b1 #[vI (s.num),vI (s.hour),vI (s.kind),vI (s.place),vI (s.to),vI (s.sort),.bool (s.soil),vI (s.amt)] 28)::(u1++(hM++(gM++F))))) PM ?_;obtain ⟨t7,t9,W2,Y5⟩:=Q0.shape;subst W2;refine sS (sbs 23 29 1 #[vS t7 (X.getD (i) []).length t9] (fun b8=>(sS (AZ (d:=24) (x:=(.tmp 16)) (y:=(.tmp 23)) (T:=137) (T':=137) (E:=29) (E':=29) (sz:=1) (bs:=24) (z:=vN) (cell:=DF) (xs:=a2) (ys:=[(vS t7 (X.getD (i) []).length t9:Value)]) (Ms:=hM) (ty:=137) (gd:=none) (by kernel_rfl) rfl (by kernel_rfl) (by kernel_rfl) (by kernel_rfl) (by kernel_rfl) (by kernel_rfl) (by decide) (by kernel_rfl) rfl rfl (a3) (PU (PU (PO _ _ _))) (HM rfl) (DJ 0 rfl rfl) (by first | omega | (simp only [LC,LN,LA,LK,LD];omega)) (fun Y6 j6 t2=>(BC (M':=((bX b1 #[vI (s.num),vI (s.hour),vI (s.kind),vI (s.place),vI (s.to),vI (s.sort),.bool (s.soil),vI (s.amt)] 28)::(j6++(u1++(gM++F))))) (fun w h=>(h.perm (PW PM)).sub (TC _ (TR _))) ?_))))));obtain ⟨t6,t8,Q6,W3⟩:=t2.shape;subst Q6;have l6:=OwnEach.snoc P5 Q0;obtain ⟨eM10,heM10_d⟩:∃ X,X=gM++u1:=⟨_,rfl⟩;rw [← heM10_d] at l6;refine BC (I':=J0) (M':=((eM10++(bX b1 #[vI (s.num),vI (s.hour),vI (s.kind),vI (s.place),vI (s.to),vI (s.sort),.bool (s.soil),vI (s.amt)] 28)::(j6++F)))) (fun w h=>?_) ?_
  ·have h2:=h.perm ((PU (PV (PO _ _ _))).trans (PA _ (PU (PO _ _ _))));simp only [← AA] at h2;have h3:=St.permL (A':=eM10) (A:=gM++u1) (by simpa only [AA,List.append_nil] using (heM10_d▸PR _)) (by simpa only [AA] using h2)
   simpa only [AA] using h3
  refine pm (M':=((bX b1 #[vI (s.num),vI (s.hour),vI (s.kind),vI (s.place),vI (s.to),vI (s.sort),.bool (s.soil),vI (s.amt)] 28)::(eM10++(j6++F)))) PM (sp 1 [(5,vS t6 (a2++([(vS t7 (X.getD (i) []).length t9:Value)])).length t8)] (ee (NB (NX (rr (sp 1 [(14,vI (↑i))] (sd (da 15 (↑i) (1)) (sp 1 [(6,vI (↑i+1))] (ee ?_)))))))));refine AM (X.length-(i+1)) (by omega) ?_;intro a w hS hD hW;exact ⟨J0,i+1,(vS t6 (a2++([(vS t7 (X.getD (i) []).length t9:Value)])).length t8),a2++([(vS t7 (X.getD (i) []).length t9:Value)]),j6,eM10,hJ0,by omega,t2,((CE (d:=[]) (xs:=X) (k:=i) (by omega)).symm▸l6),hS.sub (.consE 5 rfl rfl (.consE 6 rfl rfl (.cons 0 rfl (.cons 3 rfl (.cons 4 rfl (.nil _)))))),hD,hW.perm (PC _ (PO _ _ _)),rfl⟩
 have O5:=h1;have h1:=CH h1;refine CB 0 ((EP (EP (EB (NX (rq ?_))))));have hXe:X.take i=X:=List.take_of_length_le (by omega);have d0:OwnEach 3 a2 X gM:=by have hq:=P5;rw [hXe] at hq;exact hq
 have Y4:=d0.length;have Q4:ixR s.sort.toNat false≤m:=Nat.le_trans ixR_le hm;have Q5:ixR s.sort.toNat s.soil≤m:=Nat.le_trans ixR_le hm;refine rd0 10 (ox 1 [(25,vP b1 5)] ?_);refine AD (dlb 26 0 5 b1 (vI (s.sort))) ?_;refine AD (dc 27 (fun I' hI=>(rat_ct I' (s.sort) (false) (by omega) :))) (ox 1 [(28,vP b1 5)] ?_);refine AD (dlb 29 0 5 b1 (vI (s.sort))) ?_;refine AD (dc 30 (fun I' hI=>(rat_ct I' (s.sort) (true) (by omega) :))) (ox 1 [(31,vP b1 5)] ?_);refine AD (dlb 32 0 5 b1 (vI (s.sort))) (ox 1 [(33,vP b1 6)] ?_);refine AD (dlb 34 0 6 b1 (.bool (s.soil))) ?_;refine AW (sd (dc 35 (fun I' hI=>(rat_ct I' (s.sort) (s.soil) (by omega) :))) (sp 3 [(9,vI (↑(ixR s.sort.toNat s.soil))),(8,vI (↑(ixR s.sort.toNat true))),(7,vI (↑(ixR s.sort.toNat false)))] (se (rq (rqr (sp 1 [(36,vP b1 2)] (sd (dlb 37 0 2 b1 (vI (s.kind))) (se (rb 2 (rqr (sp 2 [(38,.bool (cmp .eql (s.kind) (1)))] (se (rc 38 rfl (fun h2=>?_) (fun h2=>?_))))))))))))))
 ·
  have O6:=h2;have h2:=BI h2;refine rq ?_;have a6:=hr;have hYl:(X).length=X.length:=by rfl
  have c3:=a6.at (p:=(s.place:Int).toNat) (by omega);have m0:=c3.2.2 _ Q5;obtain ⟨e6,f3,g0,B5,A8⟩:=OwnEach.pull d0 ((s.place:Int).toNat) (by omega);obtain ⟨C8,C9,b0,D0⟩:=g0.shape;rw [b0] at g0;refine BV (M':=((e6++(f3++(bX b1 #[vI (s.num),vI (s.hour),vI (s.kind),vI (s.place),vI (s.to),vI (s.sort),.bool (s.soil),vI (s.amt)] 28)::(hM++F))))) (fun w h=>?_) ?_
  ·have h2:=h.perm (PU (PO _ _ _));have h3:=St.permL (A':=e6++f3) (A:=gM) (by simpa only [AA,List.append_nil] using B5) (by simpa only [AA] using h2)
   simpa only [AA] using h3
  refine BV (M':=((bX b1 #[vI (s.num),vI (s.hour),vI (s.kind),vI (s.place),vI (s.to),vI (s.sort),.bool (s.soil),vI (s.amt)] 28)::(e6++(f3++(hM++F))))) (fun w h=>h.perm ((PA _ PM).trans PM)) ?_;refine rd0 17 (ox 2 [(41,vP b1 3),(40,vS a0 a2.length a1)] ?_);refine AD (dlb 42 0 3 b1 (vI (s.place))) ?_;obtain ⟨T7,m1⟩:=a3.row undef;refine AD (diI 43 1 (s.place) m1.addr) ?_;refine AD (CG (dl 44 (m1.get ((s.place:Int).toNat) (by omega) 0 (by decide) _ _ (fun x hx=>by simp [hx]))) b0) (ox 3 [(47,vP b1 3),(46,vS a0 a2.length a1),(45,vI (↑(ixR s.sort.toNat s.soil)))] ?_);refine AD (dlb 48 0 3 b1 (vI (s.place))) ?_;obtain ⟨T8,m2⟩:=a3.row undef;refine AD (diI 49 1 (s.place) m2.addr) ?_;refine AD (CG (dl 50 (m2.get ((s.place:Int).toNat) (by omega) 0 (by decide) _ _ (fun x hx=>by simp [hx]))) b0) (ox 1 [(51,vI (↑(ixR s.sort.toNat s.soil)))] ?_);obtain ⟨T9,m3⟩:=g0.row 0;refine AD (di 52 1 (ixR s.sort.toNat s.soil) m3.addr) ?_;refine AD (dl 53 (m3.get (ixR s.sort.toNat s.soil) (by omega) 0 (by decide) _ _ (fun x hx=>by simp [hx]))) (ox 1 [(54,vP b1 7)] ?_);refine AD (dlb 55 0 7 b1 (vI (s.amt))) ?_;refine AD (dsb 56 ((X.getD ((s.place:Int).toNat) []).getD (ixR s.sort.toNat s.soil) 0) (s.amt)) ?_;refine AW ?_;obtain ⟨U0,m4⟩:=g0.row 0;refine sd (di 57 1 (ixR s.sort.toNat s.soil) m4.addr) (sS (BD (T:=3) (x:=(.tmp 57)) (y:=(.tmp 56)) (rc:=fun i f=>AN ((X.getD ((s.place:Int).toNat) []).getD i 0) f) 0 (ixR s.sort.toNat s.soil) 0 (((X.getD ((s.place:Int).toNat) []).getD (ixR s.sort.toNat s.soil) 0)-s.amt) (ty:=0) (gd:=none) (by kernel_rfl) rfl g0 m4 (by omega) (by decide) rfl rfl (by kernel_rfl) rfl rfl (by intro f hf;match f,hf with | 0,_=>rfl) (PM.symm) (fun q4 P6=>(pm (M':=((bX b1 #[vI (s.num),vI (s.hour),vI (s.kind),vI (s.place),vI (s.to),vI (s.sort),.bool (s.soil),vI (s.amt)] 28)::(q4++(f3++(hM++F))))) PM (se ?_)))));have Y3:=ht (by omega);obtain ⟨j7,k7,B6⟩:=A8 _ _ _ P6;have s3:=k7.same b0;refine BV (M':=((j7++(bX b1 #[vI (s.num),vI (s.hour),vI (s.kind),vI (s.place),vI (s.to),vI (s.sort),.bool (s.soil),vI (s.amt)] 28)::(hM++F)))) (fun w h=>?_) ?_
  ·have h2:=h.perm ((PM.symm).trans (PA _ (PM.symm)));simp only [← AA] at h2;have h3:=St.permL (A':=j7) (A:=q4++f3) (by simpa only [AA,List.append_nil] using B6.symm) (by simpa only [AA] using h2)
   simpa only [AA] using h3
  refine BV (M':=((bX b1 #[vI (s.num),vI (s.hour),vI (s.kind),vI (s.place),vI (s.to),vI (s.sort),.bool (s.soil),vI (s.amt)] 28)::(j7++(hM++F)))) (fun w h=>h.perm PM) ?_;have a6:RowsI 100100 m (X.set ((s.place:Int).toNat) ((X.getD ((s.place:Int).toNat) []).set (ixR s.sort.toNat s.soil) (((X.getD ((s.place:Int).toNat) []).getD (ixR s.sort.toNat s.soil) 0)-s.amt))):=(hr.mono (by omega)).put (by omega) (by omega);have hYl:(X.set ((s.place:Int).toNat) ((X.getD ((s.place:Int).toNat) []).set (ixR s.sort.toNat s.soil) (((X.getD ((s.place:Int).toNat) []).getD (ixR s.sort.toNat s.soil) 0)-s.amt))).length=X.length:=by exact putR_len
  have c3:=a6.at (p:=(s.to:Int).toNat) (by omega);have m0:=c3.2.2 _ Q5;obtain ⟨e7,f4,g1,B7,A9⟩:=OwnEach.pull s3 ((s.to:Int).toNat) (by omega);obtain ⟨D1,D2,b2,D3⟩:=g1.shape;rw [b2] at g1;refine BV (M':=((e7++(f4++(bX b1 #[vI (s.num),vI (s.hour),vI (s.kind),vI (s.place),vI (s.to),vI (s.sort),.bool (s.soil),vI (s.amt)] 28)::(hM++F))))) (fun w h=>?_) ?_
  ·have h2:=h.perm (PM.symm);have h3:=St.permL (A':=e7++f4) (A:=j7) (by simpa only [AA,List.append_nil] using B7) (by simpa only [AA] using h2)
   simpa only [AA] using h3
  refine BV (M':=((bX b1 #[vI (s.num),vI (s.hour),vI (s.kind),vI (s.place),vI (s.to),vI (s.sort),.bool (s.soil),vI (s.amt)] 28)::(e7++(f4++(hM++F))))) (fun w h=>h.perm ((PA _ PM).trans PM)) ?_;refine rd0 17 (ox 2 [(59,vP b1 4),(58,vS a0 a2.length a1)] ?_);refine AD (dlb 60 0 4 b1 (vI (s.to))) ?_;obtain ⟨U1,m5⟩:=a3.row undef;refine AD (diI 61 1 (s.to) m5.addr) ?_;refine AD (CG (dl 62 (m5.get ((s.to:Int).toNat) (by omega) 0 (by decide) _ _ (fun x hx=>by simp [hx]))) b2) (ox 3 [(65,vP b1 4),(64,vS a0 a2.length a1),(63,vI (↑(ixR s.sort.toNat s.soil)))] ?_);refine AD (dlb 66 0 4 b1 (vI (s.to))) ?_;obtain ⟨U2,m6⟩:=a3.row undef;refine AD (diI 67 1 (s.to) m6.addr) ?_;refine AD (CG (dl 68 (m6.get ((s.to:Int).toNat) (by omega) 0 (by decide) _ _ (fun x hx=>by simp [hx]))) b2) (ox 1 [(69,vI (↑(ixR s.sort.toNat s.soil)))] ?_);obtain ⟨U3,m7⟩:=g1.row 0;refine AD (di 70 1 (ixR s.sort.toNat s.soil) m7.addr) ?_;refine AD (dl 71 (m7.get (ixR s.sort.toNat s.soil) (by omega) 0 (by decide) _ _ (fun x hx=>by simp [hx]))) (ox 1 [(72,vP b1 7)] ?_);refine AD (dlb 73 0 7 b1 (vI (s.amt))) ?_;refine AD (da 74 (((X.set ((s.place:Int).toNat) ((X.getD ((s.place:Int).toNat) []).set (ixR s.sort.toNat s.soil) (((X.getD ((s.place:Int).toNat) []).getD (ixR s.sort.toNat s.soil) 0)-s.amt))).getD ((s.to:Int).toNat) []).getD (ixR s.sort.toNat s.soil) 0) (s.amt)) ?_;refine AW ?_;obtain ⟨U4,m8⟩:=g1.row 0;refine sd (di 75 1 (ixR s.sort.toNat s.soil) m8.addr) (sS (BD (T:=3) (x:=(.tmp 75)) (y:=(.tmp 74)) (rc:=fun i f=>AN (((X.set ((s.place:Int).toNat) ((X.getD ((s.place:Int).toNat) []).set (ixR s.sort.toNat s.soil) (((X.getD ((s.place:Int).toNat) []).getD (ixR s.sort.toNat s.soil) 0)-s.amt))).getD ((s.to:Int).toNat) []).getD i 0) f) 0 (ixR s.sort.toNat s.soil) 0 ((((X.set ((s.place:Int).toNat) ((X.getD ((s.place:Int).toNat) []).set (ixR s.sort.toNat s.soil) (((X.getD ((s.place:Int).toNat) []).getD (ixR s.sort.toNat s.soil) 0)-s.amt))).getD ((s.to:Int).toNat) []).getD (ixR s.sort.toNat s.soil) 0)+s.amt) (ty:=0) (gd:=none) (by kernel_rfl) rfl g1 m8 (by omega) (by decide) rfl rfl (by kernel_rfl) rfl rfl (by intro f hf;match f,hf with | 0,_=>rfl) (PM.symm) (fun q5 P7=>(pm (M':=((bX b1 #[vI (s.num),vI (s.hour),vI (s.kind),vI (s.place),vI (s.to),vI (s.sort),.bool (s.soil),vI (s.amt)] 28)::(q5++(f4++(hM++F))))) PM (ee (NB (NX (rq ?_))))))));obtain ⟨o5,k8,B8⟩:=A9 _ _ _ P7;have s4:=k8.same b2;refine BV (M':=((o5++(bX b1 #[vI (s.num),vI (s.hour),vI (s.kind),vI (s.place),vI (s.to),vI (s.sort),.bool (s.soil),vI (s.amt)] 28)::(hM++F)))) (fun w h=>?_) ?_
  ·have h2:=h.perm ((PM.symm).trans (PA _ (PM.symm)));simp only [← AA] at h2;have h3:=St.permL (A':=o5) (A:=q5++f4) (by simpa only [AA,List.append_nil] using B8.symm) (by simpa only [AA] using h2)
   simpa only [AA] using h3
  refine BV (M':=((bX b1 #[vI (s.num),vI (s.hour),vI (s.kind),vI (s.place),vI (s.to),vI (s.sort),.bool (s.soil),vI (s.amt)] 28)::(o5++(hM++F)))) (fun w h=>h.perm PM) ?_;have i5:RowsI 100200 m ((X.set ((s.place:Int).toNat) ((X.getD ((s.place:Int).toNat) []).set (ixR s.sort.toNat s.soil) (((X.getD ((s.place:Int).toNat) []).getD (ixR s.sort.toNat s.soil) 0)-s.amt))).set ((s.to:Int).toNat) (((X.set ((s.place:Int).toNat) ((X.getD ((s.place:Int).toNat) []).set (ixR s.sort.toNat s.soil) (((X.getD ((s.place:Int).toNat) []).getD (ixR s.sort.toNat s.soil) 0)-s.amt))).getD ((s.to:Int).toNat) []).set (ixR s.sort.toNat s.soil) ((((X.set ((s.place:Int).toNat) ((X.getD ((s.place:Int).toNat) []).set (ixR s.sort.toNat s.soil) (((X.getD ((s.place:Int).toNat) []).getD (ixR s.sort.toNat s.soil) 0)-s.amt))).getD ((s.to:Int).toNat) []).getD (ixR s.sort.toNat s.soil) 0)+s.amt))):=(a6.mono (by omega)).put (by omega) (by omega);refine FE (B:=((bX b1 #[vI (s.num),vI (s.hour),vI (s.kind),vI (s.place),vI (s.to),vI (s.sort),.bool (s.soil),vI (s.amt)] 28)::(hM++F))) s4 (by intro xs hq;have:=(i5 xs hq).2.1;omega) (PM.symm) (PR _) (fun X1 s9 c4=>?_);have e0:=c4.1
  try simp only [LS,LA,LC,LN,LK] at e0
  refine BP (B:=((bX b1 #[vI (s.num),vI (s.hour),vI (s.kind),vI (s.place),vI (s.to),vI (s.sort),.bool (s.soil),vI (s.amt)] 28)::F)) undef a3 (by first | omega | (simp only [LS,LC,LN,LA,LK,LD] <;> omega) | decide) (PM.symm) (PR _) (fun X2 l7 g9=>?_);replace c4:=c4.mono l7;obtain ⟨K4,K6,K5,K9,p1,K7,K8,M0⟩:=id g9;cases p1;have g6:=c4.isRows g9;have s0:=c4.1;obtain ⟨E9,G1,G0,G4,y3,o8,G2,G3,G5,G6⟩:=id g6
  injection o8 with fr39_e1 fr39_e2 fr39_e3;subst fr39_e1;subst fr39_e3
  refine rr (sp 2 [(4,vS a0 a2.length a1)] (se (BJ (AG (t:=4) [] (by kernel_rfl) rfl (TC _ (TR _)) (IT (IT hJ0 s9) l7) ?_))));exact ⟨_,rfl,rfl,((show (X.set ((s.place:Int).toNat) ((X.getD ((s.place:Int).toNat) []).set (ixR s.sort.toNat s.soil) (((X.getD ((s.place:Int).toNat) []).getD (ixR s.sort.toNat s.soil) 0)-s.amt))).set ((s.to:Int).toNat) (((X.set ((s.place:Int).toNat) ((X.getD ((s.place:Int).toNat) []).set (ixR s.sort.toNat s.soil) (((X.getD ((s.place:Int).toNat) []).getD (ixR s.sort.toNat s.soil) 0)-s.amt))).getD ((s.to:Int).toNat) []).set (ixR s.sort.toNat s.soil) ((((X.set ((s.place:Int).toNat) ((X.getD ((s.place:Int).toNat) []).set (ixR s.sort.toNat s.soil) (((X.getD ((s.place:Int).toNat) []).getD (ixR s.sort.toNat s.soil) 0)-s.amt))).getD ((s.to:Int).toNat) []).getD (ixR s.sort.toNat s.soil) 0)+s.amt))=KD X s from done_1 h2)▸g6)⟩
 have O6:=h2;have h2:=BL h2;refine rqr (sp 2 [(76,.bool (cmp .eql (s.kind) (2)))] (se (rc 76 rfl (fun h3=>?_) (fun h3=>?_))))
 ·
  have O7:=h3;have h3:=BI h3;refine rq ?_;have a6:=hr;have hYl:(X).length=X.length:=by rfl
  have c3:=a6.at (p:=(s.place:Int).toNat) (by omega);have m0:=c3.2.2 _ Q4;obtain ⟨e8,f5,g2,B9,B0⟩:=OwnEach.pull d0 ((s.place:Int).toNat) (by omega);obtain ⟨D4,D5,b4,D6⟩:=g2.shape;rw [b4] at g2;refine BV (M':=((e8++(f5++(bX b1 #[vI (s.num),vI (s.hour),vI (s.kind),vI (s.place),vI (s.to),vI (s.sort),.bool (s.soil),vI (s.amt)] 28)::(hM++F))))) (fun w h=>?_) ?_
  ·have h2:=h.perm (PU (PO _ _ _));have h3:=St.permL (A':=e8++f5) (A:=gM) (by simpa only [AA,List.append_nil] using B9) (by simpa only [AA] using h2)
   simpa only [AA] using h3
  refine BV (M':=((bX b1 #[vI (s.num),vI (s.hour),vI (s.kind),vI (s.place),vI (s.to),vI (s.sort),.bool (s.soil),vI (s.amt)] 28)::(e8++(f5++(hM++F))))) (fun w h=>h.perm ((PA _ PM).trans PM)) ?_;refine rd0 17 (ox 2 [(79,vP b1 3),(78,vS a0 a2.length a1)] ?_);refine AD (dlb 80 0 3 b1 (vI (s.place))) ?_;obtain ⟨U5,m9⟩:=a3.row undef;refine AD (diI 81 1 (s.place) m9.addr) ?_;refine AD (CG (dl 82 (m9.get ((s.place:Int).toNat) (by omega) 0 (by decide) _ _ (fun x hx=>by simp [hx]))) b4) (ox 3 [(85,vP b1 3),(84,vS a0 a2.length a1),(83,vI (↑(ixR s.sort.toNat false)))] ?_);refine AD (dlb 86 0 3 b1 (vI (s.place))) ?_;obtain ⟨U6,n0⟩:=a3.row undef;refine AD (diI 87 1 (s.place) n0.addr) ?_;refine AD (CG (dl 88 (n0.get ((s.place:Int).toNat) (by omega) 0 (by decide) _ _ (fun x hx=>by simp [hx]))) b4) (ox 1 [(89,vI (↑(ixR s.sort.toNat false)))] ?_);obtain ⟨U7,n1⟩:=g2.row 0;refine AD (di 90 1 (ixR s.sort.toNat false) n1.addr) ?_;refine AD (dl 91 (n1.get (ixR s.sort.toNat false) (by omega) 0 (by decide) _ _ (fun x hx=>by simp [hx]))) (ox 1 [(92,vP b1 7)] ?_);refine AD (dlb 93 0 7 b1 (vI (s.amt))) ?_;refine AD (dsb 94 ((X.getD ((s.place:Int).toNat) []).getD (ixR s.sort.toNat false) 0) (s.amt)) ?_;refine AW ?_;obtain ⟨U8,n2⟩:=g2.row 0;refine sd (di 95 1 (ixR s.sort.toNat false) n2.addr) (sS (BD (T:=3) (x:=(.tmp 95)) (y:=(.tmp 94)) (rc:=fun i f=>AN ((X.getD ((s.place:Int).toNat) []).getD i 0) f) 0 (ixR s.sort.toNat false) 0 (((X.getD ((s.place:Int).toNat) []).getD (ixR s.sort.toNat false) 0)-s.amt) (ty:=0) (gd:=none) (by kernel_rfl) rfl g2 n2 (by omega) (by decide) rfl rfl (by kernel_rfl) rfl rfl (by intro f hf;match f,hf with | 0,_=>rfl) (PM.symm) (fun q6 P8=>(pm (M':=((bX b1 #[vI (s.num),vI (s.hour),vI (s.kind),vI (s.place),vI (s.to),vI (s.sort),.bool (s.soil),vI (s.amt)] 28)::(q6++(f5++(hM++F))))) PM (se ?_)))));obtain ⟨j8,k9,C0⟩:=B0 _ _ _ P8;have s5:=k9.same b4;refine BV (M':=((j8++(bX b1 #[vI (s.num),vI (s.hour),vI (s.kind),vI (s.place),vI (s.to),vI (s.sort),.bool (s.soil),vI (s.amt)] 28)::(hM++F)))) (fun w h=>?_) ?_
  ·have h2:=h.perm ((PM.symm).trans (PA _ (PM.symm)));simp only [← AA] at h2;have h3:=St.permL (A':=j8) (A:=q6++f5) (by simpa only [AA,List.append_nil] using C0.symm) (by simpa only [AA] using h2)
   simpa only [AA] using h3
  refine BV (M':=((bX b1 #[vI (s.num),vI (s.hour),vI (s.kind),vI (s.place),vI (s.to),vI (s.sort),.bool (s.soil),vI (s.amt)] 28)::(j8++(hM++F)))) (fun w h=>h.perm PM) ?_;have a6:RowsI 100100 m (X.set ((s.place:Int).toNat) ((X.getD ((s.place:Int).toNat) []).set (ixR s.sort.toNat false) (((X.getD ((s.place:Int).toNat) []).getD (ixR s.sort.toNat false) 0)-s.amt))):=(hr.mono (by omega)).put (by omega) (by omega);have hYl:(X.set ((s.place:Int).toNat) ((X.getD ((s.place:Int).toNat) []).set (ixR s.sort.toNat false) (((X.getD ((s.place:Int).toNat) []).getD (ixR s.sort.toNat false) 0)-s.amt))).length=X.length:=by exact putR_len
  have c3:=a6.at (p:=(s.place:Int).toNat) (by omega);have m0:=c3.2.2 _ hm;obtain ⟨e9,f6,g3,C1,B1⟩:=OwnEach.pull s5 ((s.place:Int).toNat) (by omega);obtain ⟨D7,D8,b5,D9⟩:=g3.shape;rw [b5] at g3;refine BV (M':=((e9++(f6++(bX b1 #[vI (s.num),vI (s.hour),vI (s.kind),vI (s.place),vI (s.to),vI (s.sort),.bool (s.soil),vI (s.amt)] 28)::(hM++F))))) (fun w h=>?_) ?_
  ·have h2:=h.perm (PM.symm);have h3:=St.permL (A':=e9++f6) (A:=j8) (by simpa only [AA,List.append_nil] using C1) (by simpa only [AA] using h2)
   simpa only [AA] using h3
  refine BV (M':=((bX b1 #[vI (s.num),vI (s.hour),vI (s.kind),vI (s.place),vI (s.to),vI (s.sort),.bool (s.soil),vI (s.amt)] 28)::(e9++(f6++(hM++F))))) (fun w h=>h.perm ((PA _ PM).trans PM)) ?_;refine rd0 17 (ox 2 [(97,vP b1 3),(96,vS a0 a2.length a1)] ?_);refine AD (dlb 98 0 3 b1 (vI (s.place))) ?_;obtain ⟨U9,n3⟩:=a3.row undef;refine AD (diI 99 1 (s.place) n3.addr) ?_;refine AD (CG (dl 100 (n3.get ((s.place:Int).toNat) (by omega) 0 (by decide) _ _ (fun x hx=>by simp [hx]))) b5) (ox 3 [(103,vP b1 3),(102,vS a0 a2.length a1),(101,vI (↑(ixR s.sort.toNat true)))] ?_);refine AD (dlb 104 0 3 b1 (vI (s.place))) ?_;obtain ⟨V0,n4⟩:=a3.row undef;refine AD (diI 105 1 (s.place) n4.addr) ?_;refine AD (CG (dl 106 (n4.get ((s.place:Int).toNat) (by omega) 0 (by decide) _ _ (fun x hx=>by simp [hx]))) b5) (ox 1 [(107,vI (↑(ixR s.sort.toNat true)))] ?_);obtain ⟨V1,n5⟩:=g3.row 0;refine AD (di 108 1 (ixR s.sort.toNat true) n5.addr) ?_;refine AD (dl 109 (n5.get (ixR s.sort.toNat true) (by omega) 0 (by decide) _ _ (fun x hx=>by simp [hx]))) (ox 1 [(110,vP b1 7)] ?_);refine AD (dlb 111 0 7 b1 (vI (s.amt))) ?_;refine AD (da 112 (((X.set ((s.place:Int).toNat) ((X.getD ((s.place:Int).toNat) []).set (ixR s.sort.toNat false) (((X.getD ((s.place:Int).toNat) []).getD (ixR s.sort.toNat false) 0)-s.amt))).getD ((s.place:Int).toNat) []).getD (ixR s.sort.toNat true) 0) (s.amt)) ?_;refine AW ?_;obtain ⟨V2,n6⟩:=g3.row 0;refine sd (di 113 1 (ixR s.sort.toNat true) n6.addr) (sS (BD (T:=3) (x:=(.tmp 113)) (y:=(.tmp 112)) (rc:=fun i f=>AN (((X.set ((s.place:Int).toNat) ((X.getD ((s.place:Int).toNat) []).set (ixR s.sort.toNat false) (((X.getD ((s.place:Int).toNat) []).getD (ixR s.sort.toNat false) 0)-s.amt))).getD ((s.place:Int).toNat) []).getD i 0) f) 0 (ixR s.sort.toNat true) 0 ((((X.set ((s.place:Int).toNat) ((X.getD ((s.place:Int).toNat) []).set (ixR s.sort.toNat false) (((X.getD ((s.place:Int).toNat) []).getD (ixR s.sort.toNat false) 0)-s.amt))).getD ((s.place:Int).toNat) []).getD (ixR s.sort.toNat true) 0)+s.amt) (ty:=0) (gd:=none) (by kernel_rfl) rfl g3 n6 (by omega) (by decide) rfl rfl (by kernel_rfl) rfl rfl (by intro f hf;match f,hf with | 0,_=>rfl) (PM.symm) (fun q7 P9=>(pm (M':=((bX b1 #[vI (s.num),vI (s.hour),vI (s.kind),vI (s.place),vI (s.to),vI (s.sort),.bool (s.soil),vI (s.amt)] 28)::(q7++(f6++(hM++F))))) PM (ee (NB (NX (rq ?_))))))));obtain ⟨o6,l0,C2⟩:=B1 _ _ _ P9;have s6:=l0.same b5;refine BV (M':=((o6++(bX b1 #[vI (s.num),vI (s.hour),vI (s.kind),vI (s.place),vI (s.to),vI (s.sort),.bool (s.soil),vI (s.amt)] 28)::(hM++F)))) (fun w h=>?_) ?_
  ·have h2:=h.perm ((PM.symm).trans (PA _ (PM.symm)));simp only [← AA] at h2;have h3:=St.permL (A':=o6) (A:=q7++f6) (by simpa only [AA,List.append_nil] using C2.symm) (by simpa only [AA] using h2)
   simpa only [AA] using h3
  refine BV (M':=((bX b1 #[vI (s.num),vI (s.hour),vI (s.kind),vI (s.place),vI (s.to),vI (s.sort),.bool (s.soil),vI (s.amt)] 28)::(o6++(hM++F)))) (fun w h=>h.perm PM) ?_;have i5:RowsI 100200 m ((X.set ((s.place:Int).toNat) ((X.getD ((s.place:Int).toNat) []).set (ixR s.sort.toNat false) (((X.getD ((s.place:Int).toNat) []).getD (ixR s.sort.toNat false) 0)-s.amt))).set ((s.place:Int).toNat) (((X.set ((s.place:Int).toNat) ((X.getD ((s.place:Int).toNat) []).set (ixR s.sort.toNat false) (((X.getD ((s.place:Int).toNat) []).getD (ixR s.sort.toNat false) 0)-s.amt))).getD ((s.place:Int).toNat) []).set (ixR s.sort.toNat true) ((((X.set ((s.place:Int).toNat) ((X.getD ((s.place:Int).toNat) []).set (ixR s.sort.toNat false) (((X.getD ((s.place:Int).toNat) []).getD (ixR s.sort.toNat false) 0)-s.amt))).getD ((s.place:Int).toNat) []).getD (ixR s.sort.toNat true) 0)+s.amt))):=(a6.mono (by omega)).put (by omega) (by omega);refine FE (B:=((bX b1 #[vI (s.num),vI (s.hour),vI (s.kind),vI (s.place),vI (s.to),vI (s.sort),.bool (s.soil),vI (s.amt)] 28)::(hM++F))) s6 (by intro xs hq;have:=(i5 xs hq).2.1;omega) (PM.symm) (PR _) (fun X3 t0 c5=>?_);have e1:=c5.1
  try simp only [LS,LA,LC,LN,LK] at e1
  refine BP (B:=((bX b1 #[vI (s.num),vI (s.hour),vI (s.kind),vI (s.place),vI (s.to),vI (s.sort),.bool (s.soil),vI (s.amt)] 28)::F)) undef a3 (by first | omega | (simp only [LS,LC,LN,LA,LK,LD] <;> omega) | decide) (PM.symm) (PR _) (fun X4 l8 h0=>?_);replace c5:=c5.mono l8;obtain ⟨M1,M3,M2,M6,p2,M4,M5,M7⟩:=id h0;cases p2;have g7:=c5.isRows h0;have s1:=c5.1;obtain ⟨G7,G9,G8,J3,y4,o9,J1,J2,J4,J5⟩:=id g7
  injection o9 with fr68_e1 fr68_e2 fr68_e3;subst fr68_e1;subst fr68_e3
  refine rr (sp 2 [(4,vS a0 a2.length a1)] (se (BJ (AG (t:=4) [] (by kernel_rfl) rfl (TC _ (TR _)) (IT (IT hJ0 t0) l8) ?_))));exact ⟨_,rfl,rfl,((show (X.set ((s.place:Int).toNat) ((X.getD ((s.place:Int).toNat) []).set (ixR s.sort.toNat false) (((X.getD ((s.place:Int).toNat) []).getD (ixR s.sort.toNat false) 0)-s.amt))).set ((s.place:Int).toNat) (((X.set ((s.place:Int).toNat) ((X.getD ((s.place:Int).toNat) []).set (ixR s.sort.toNat false) (((X.getD ((s.place:Int).toNat) []).getD (ixR s.sort.toNat false) 0)-s.amt))).getD ((s.place:Int).toNat) []).set (ixR s.sort.toNat true) ((((X.set ((s.place:Int).toNat) ((X.getD ((s.place:Int).toNat) []).set (ixR s.sort.toNat false) (((X.getD ((s.place:Int).toNat) []).getD (ixR s.sort.toNat false) 0)-s.amt))).getD ((s.place:Int).toNat) []).getD (ixR s.sort.toNat true) 0)+s.amt))=KD X s from done_2 h3)▸g7)⟩
 have O7:=h3;have h3:=BL h3;refine rqr (sp 2 [(114,.bool (cmp .eql (s.kind) (3)))] (se (rc 114 rfl (fun h4=>?_) (fun h4=>?_))))
 ·
  have O8:=h4;have h4:=BI h4;refine rq ?_;have a6:=hr;have hYl:(X).length=X.length:=by rfl
  have c3:=a6.at (p:=(s.place:Int).toNat) (by omega);have m0:=c3.2.2 _ hm;obtain ⟨f0,f7,g4,C3,B2⟩:=OwnEach.pull d0 ((s.place:Int).toNat) (by omega);obtain ⟨E0,E1,b6,E2⟩:=g4.shape;rw [b6] at g4;refine BV (M':=((f0++(f7++(bX b1 #[vI (s.num),vI (s.hour),vI (s.kind),vI (s.place),vI (s.to),vI (s.sort),.bool (s.soil),vI (s.amt)] 28)::(hM++F))))) (fun w h=>?_) ?_
  ·have h2:=h.perm (PU (PO _ _ _));have h3:=St.permL (A':=f0++f7) (A:=gM) (by simpa only [AA,List.append_nil] using C3) (by simpa only [AA] using h2)
   simpa only [AA] using h3
  refine BV (M':=((bX b1 #[vI (s.num),vI (s.hour),vI (s.kind),vI (s.place),vI (s.to),vI (s.sort),.bool (s.soil),vI (s.amt)] 28)::(f0++(f7++(hM++F))))) (fun w h=>h.perm ((PA _ PM).trans PM)) ?_;refine rd0 17 (ox 2 [(117,vP b1 3),(116,vS a0 a2.length a1)] ?_);refine AD (dlb 118 0 3 b1 (vI (s.place))) ?_;obtain ⟨V3,n7⟩:=a3.row undef;refine AD (diI 119 1 (s.place) n7.addr) ?_;refine AD (CG (dl 120 (n7.get ((s.place:Int).toNat) (by omega) 0 (by decide) _ _ (fun x hx=>by simp [hx]))) b6) (ox 3 [(123,vP b1 3),(122,vS a0 a2.length a1),(121,vI (↑(ixR s.sort.toNat true)))] ?_);refine AD (dlb 124 0 3 b1 (vI (s.place))) ?_;obtain ⟨V4,n8⟩:=a3.row undef;refine AD (diI 125 1 (s.place) n8.addr) ?_;refine AD (CG (dl 126 (n8.get ((s.place:Int).toNat) (by omega) 0 (by decide) _ _ (fun x hx=>by simp [hx]))) b6) (ox 1 [(127,vI (↑(ixR s.sort.toNat true)))] ?_);obtain ⟨V5,n9⟩:=g4.row 0;refine AD (di 128 1 (ixR s.sort.toNat true) n9.addr) ?_;refine AD (dl 129 (n9.get (ixR s.sort.toNat true) (by omega) 0 (by decide) _ _ (fun x hx=>by simp [hx]))) (ox 1 [(130,vP b1 7)] ?_);refine AD (dlb 131 0 7 b1 (vI (s.amt))) ?_;refine AD (dsb 132 ((X.getD ((s.place:Int).toNat) []).getD (ixR s.sort.toNat true) 0) (s.amt)) ?_;refine AW ?_;obtain ⟨V6,o0⟩:=g4.row 0;refine sd (di 133 1 (ixR s.sort.toNat true) o0.addr) (sS (BD (T:=3) (x:=(.tmp 133)) (y:=(.tmp 132)) (rc:=fun i f=>AN ((X.getD ((s.place:Int).toNat) []).getD i 0) f) 0 (ixR s.sort.toNat true) 0 (((X.getD ((s.place:Int).toNat) []).getD (ixR s.sort.toNat true) 0)-s.amt) (ty:=0) (gd:=none) (by kernel_rfl) rfl g4 o0 (by omega) (by decide) rfl rfl (by kernel_rfl) rfl rfl (by intro f hf;match f,hf with | 0,_=>rfl) (PM.symm) (fun q8 Q1=>(pm (M':=((bX b1 #[vI (s.num),vI (s.hour),vI (s.kind),vI (s.place),vI (s.to),vI (s.sort),.bool (s.soil),vI (s.amt)] 28)::(q8++(f7++(hM++F))))) PM (se ?_)))));obtain ⟨j9,l1,C4⟩:=B2 _ _ _ Q1;have s7:=l1.same b6;refine BV (M':=((j9++(bX b1 #[vI (s.num),vI (s.hour),vI (s.kind),vI (s.place),vI (s.to),vI (s.sort),.bool (s.soil),vI (s.amt)] 28)::(hM++F)))) (fun w h=>?_) ?_
  ·have h2:=h.perm ((PM.symm).trans (PA _ (PM.symm)));simp only [← AA] at h2;have h3:=St.permL (A':=j9) (A:=q8++f7) (by simpa only [AA,List.append_nil] using C4.symm) (by simpa only [AA] using h2)
   simpa only [AA] using h3
  refine BV (M':=((bX b1 #[vI (s.num),vI (s.hour),vI (s.kind),vI (s.place),vI (s.to),vI (s.sort),.bool (s.soil),vI (s.amt)] 28)::(j9++(hM++F)))) (fun w h=>h.perm PM) ?_;have a6:RowsI 100100 m (X.set ((s.place:Int).toNat) ((X.getD ((s.place:Int).toNat) []).set (ixR s.sort.toNat true) (((X.getD ((s.place:Int).toNat) []).getD (ixR s.sort.toNat true) 0)-s.amt))):=(hr.mono (by omega)).put (by omega) (by omega);have hYl:(X.set ((s.place:Int).toNat) ((X.getD ((s.place:Int).toNat) []).set (ixR s.sort.toNat true) (((X.getD ((s.place:Int).toNat) []).getD (ixR s.sort.toNat true) 0)-s.amt))).length=X.length:=by exact putR_len
  have c3:=a6.at (p:=(s.place:Int).toNat) (by omega);have m0:=c3.2.2 _ Q4;obtain ⟨f1,f8,g5,C5,B3⟩:=OwnEach.pull s7 ((s.place:Int).toNat) (by omega);obtain ⟨E3,E4,b7,E5⟩:=g5.shape;rw [b7] at g5;refine BV (M':=((f1++(f8++(bX b1 #[vI (s.num),vI (s.hour),vI (s.kind),vI (s.place),vI (s.to),vI (s.sort),.bool (s.soil),vI (s.amt)] 28)::(hM++F))))) (fun w h=>?_) ?_
  ·have h2:=h.perm (PM.symm);have h3:=St.permL (A':=f1++f8) (A:=j9) (by simpa only [AA,List.append_nil] using C5) (by simpa only [AA] using h2)
   simpa only [AA] using h3
  refine BV (M':=((bX b1 #[vI (s.num),vI (s.hour),vI (s.kind),vI (s.place),vI (s.to),vI (s.sort),.bool (s.soil),vI (s.amt)] 28)::(f1++(f8++(hM++F))))) (fun w h=>h.perm ((PA _ PM).trans PM)) ?_;refine rd0 17 (ox 2 [(135,vP b1 3),(134,vS a0 a2.length a1)] ?_);refine AD (dlb 136 0 3 b1 (vI (s.place))) ?_;obtain ⟨V7,o1⟩:=a3.row undef;refine AD (diI 137 1 (s.place) o1.addr) ?_;refine AD (CG (dl 138 (o1.get ((s.place:Int).toNat) (by omega) 0 (by decide) _ _ (fun x hx=>by simp [hx]))) b7) (ox 3 [(141,vP b1 3),(140,vS a0 a2.length a1),(139,vI (↑(ixR s.sort.toNat false)))] ?_);refine AD (dlb 142 0 3 b1 (vI (s.place))) ?_;obtain ⟨V8,o2⟩:=a3.row undef;refine AD (diI 143 1 (s.place) o2.addr) ?_;refine AD (CG (dl 144 (o2.get ((s.place:Int).toNat) (by omega) 0 (by decide) _ _ (fun x hx=>by simp [hx]))) b7) (ox 1 [(145,vI (↑(ixR s.sort.toNat false)))] ?_);obtain ⟨V9,o3⟩:=g5.row 0;refine AD (di 146 1 (ixR s.sort.toNat false) o3.addr) ?_;refine AD (dl 147 (o3.get (ixR s.sort.toNat false) (by omega) 0 (by decide) _ _ (fun x hx=>by simp [hx]))) (ox 1 [(148,vP b1 7)] ?_);refine AD (dlb 149 0 7 b1 (vI (s.amt))) ?_;refine AD (da 150 (((X.set ((s.place:Int).toNat) ((X.getD ((s.place:Int).toNat) []).set (ixR s.sort.toNat true) (((X.getD ((s.place:Int).toNat) []).getD (ixR s.sort.toNat true) 0)-s.amt))).getD ((s.place:Int).toNat) []).getD (ixR s.sort.toNat false) 0) (s.amt)) ?_;refine AW ?_;obtain ⟨W0,o4⟩:=g5.row 0;refine sd (di 151 1 (ixR s.sort.toNat false) o4.addr) (sS (BD (T:=3) (x:=(.tmp 151)) (y:=(.tmp 150)) (rc:=fun i f=>AN (((X.set ((s.place:Int).toNat) ((X.getD ((s.place:Int).toNat) []).set (ixR s.sort.toNat true) (((X.getD ((s.place:Int).toNat) []).getD (ixR s.sort.toNat true) 0)-s.amt))).getD ((s.place:Int).toNat) []).getD i 0) f) 0 (ixR s.sort.toNat false) 0 ((((X.set ((s.place:Int).toNat) ((X.getD ((s.place:Int).toNat) []).set (ixR s.sort.toNat true) (((X.getD ((s.place:Int).toNat) []).getD (ixR s.sort.toNat true) 0)-s.amt))).getD ((s.place:Int).toNat) []).getD (ixR s.sort.toNat false) 0)+s.amt) (ty:=0) (gd:=none) (by kernel_rfl) rfl g5 o4 (by omega) (by decide) rfl rfl (by kernel_rfl) rfl rfl (by intro f hf;match f,hf with | 0,_=>rfl) (PM.symm) (fun q9 Q2=>(pm (M':=((bX b1 #[vI (s.num),vI (s.hour),vI (s.kind),vI (s.place),vI (s.to),vI (s.sort),.bool (s.soil),vI (s.amt)] 28)::(q9++(f8++(hM++F))))) PM (ee (NB (NX (rq ?_))))))));obtain ⟨o7,l2,C6⟩:=B3 _ _ _ Q2;have s8:=l2.same b7;refine BV (M':=((o7++(bX b1 #[vI (s.num),vI (s.hour),vI (s.kind),vI (s.place),vI (s.to),vI (s.sort),.bool (s.soil),vI (s.amt)] 28)::(hM++F)))) (fun w h=>?_) ?_
  ·have h2:=h.perm ((PM.symm).trans (PA _ (PM.symm)));simp only [← AA] at h2;have h3:=St.permL (A':=o7) (A:=q9++f8) (by simpa only [AA,List.append_nil] using C6.symm) (by simpa only [AA] using h2)
   simpa only [AA] using h3
  refine BV (M':=((bX b1 #[vI (s.num),vI (s.hour),vI (s.kind),vI (s.place),vI (s.to),vI (s.sort),.bool (s.soil),vI (s.amt)] 28)::(o7++(hM++F)))) (fun w h=>h.perm PM) ?_;have i5:RowsI 100200 m ((X.set ((s.place:Int).toNat) ((X.getD ((s.place:Int).toNat) []).set (ixR s.sort.toNat true) (((X.getD ((s.place:Int).toNat) []).getD (ixR s.sort.toNat true) 0)-s.amt))).set ((s.place:Int).toNat) (((X.set ((s.place:Int).toNat) ((X.getD ((s.place:Int).toNat) []).set (ixR s.sort.toNat true) (((X.getD ((s.place:Int).toNat) []).getD (ixR s.sort.toNat true) 0)-s.amt))).getD ((s.place:Int).toNat) []).set (ixR s.sort.toNat false) ((((X.set ((s.place:Int).toNat) ((X.getD ((s.place:Int).toNat) []).set (ixR s.sort.toNat true) (((X.getD ((s.place:Int).toNat) []).getD (ixR s.sort.toNat true) 0)-s.amt))).getD ((s.place:Int).toNat) []).getD (ixR s.sort.toNat false) 0)+s.amt))):=(a6.mono (by omega)).put (by omega) (by omega);refine FE (B:=((bX b1 #[vI (s.num),vI (s.hour),vI (s.kind),vI (s.place),vI (s.to),vI (s.sort),.bool (s.soil),vI (s.amt)] 28)::(hM++F))) s8 (by intro xs hq;have:=(i5 xs hq).2.1;omega) (PM.symm) (PR _) (fun X5 t1 c6=>?_);have e2:=c6.1
  try simp only [LS,LA,LC,LN,LK] at e2
  refine BP (B:=((bX b1 #[vI (s.num),vI (s.hour),vI (s.kind),vI (s.place),vI (s.to),vI (s.sort),.bool (s.soil),vI (s.amt)] 28)::F)) undef a3 (by first | omega | (simp only [LS,LC,LN,LA,LK,LD] <;> omega) | decide) (PM.symm) (PR _) (fun X6 l9 h8=>?_);replace c6:=c6.mono l9;obtain ⟨M8,O0,M9,O3,p3,O1,O2,O4⟩:=id h8;cases p3;have g8:=c6.isRows h8;have s2:=c6.1;obtain ⟨J6,J8,J7,K1,y5,p0,J9,K0,K2,K3⟩:=id g8
  injection p0 with fr97_e1 fr97_e2 fr97_e3;subst fr97_e1;subst fr97_e3
  refine rr (sp 2 [(4,vS a0 a2.length a1)] (se (BJ (AG (t:=4) [] (by kernel_rfl) rfl (TC _ (TR _)) (IT (IT hJ0 t1) l9) ?_))));exact ⟨_,rfl,rfl,((show (X.set ((s.place:Int).toNat) ((X.getD ((s.place:Int).toNat) []).set (ixR s.sort.toNat true) (((X.getD ((s.place:Int).toNat) []).getD (ixR s.sort.toNat true) 0)-s.amt))).set ((s.place:Int).toNat) (((X.set ((s.place:Int).toNat) ((X.getD ((s.place:Int).toNat) []).set (ixR s.sort.toNat true) (((X.getD ((s.place:Int).toNat) []).getD (ixR s.sort.toNat true) 0)-s.amt))).getD ((s.place:Int).toNat) []).set (ixR s.sort.toNat false) ((((X.set ((s.place:Int).toNat) ((X.getD ((s.place:Int).toNat) []).set (ixR s.sort.toNat true) (((X.getD ((s.place:Int).toNat) []).getD (ixR s.sort.toNat true) 0)-s.amt))).getD ((s.place:Int).toNat) []).getD (ixR s.sort.toNat false) 0)+s.amt))=KD X s from done_3 h4)▸g8)⟩
 have O8:=h4;have h4:=BL h4;refine rqr (sp 2 [(152,.bool (cmp .eql (s.kind) (4)))] (se (rc 152 rfl (fun h5=>?_) (fun h5=>?_))))
 ·
  have O9:=h5;have h5:=BI h5;have a6:=hr;have hYl:(X).length=X.length:=by rfl
  have c3:=a6.at (p:=(s.place:Int).toNat) (by omega);have m0:=c3.2.2 _ Q5;obtain ⟨f2,f9,k0,C7,B4⟩:=OwnEach.pull d0 ((s.place:Int).toNat) (by omega);obtain ⟨E6,E7,c9,E8⟩:=k0.shape;rw [c9] at k0;refine BV (M':=((f2++(f9++(bX b1 #[vI (s.num),vI (s.hour),vI (s.kind),vI (s.place),vI (s.to),vI (s.sort),.bool (s.soil),vI (s.amt)] 28)::(hM++F))))) (fun w h=>?_) ?_
  ·have h2:=h.perm (PU (PO _ _ _));have h3:=St.permL (A':=f2++f9) (A:=gM) (by simpa only [AA,List.append_nil] using C7) (by simpa only [AA] using h2)
   simpa only [AA] using h3
  refine BV (M':=((bX b1 #[vI (s.num),vI (s.hour),vI (s.kind),vI (s.place),vI (s.to),vI (s.sort),.bool (s.soil),vI (s.amt)] 28)::(f2++(f9++(hM++F))))) (fun w h=>h.perm ((PA _ PM).trans PM)) ?_;refine rd0 8 (ox 2 [(155,vP b1 3),(154,vS a0 a2.length a1)] ?_);refine AD (dlb 156 0 3 b1 (vI (s.place))) ?_;obtain ⟨W1,i6⟩:=a3.row undef;refine AD (diI 157 1 (s.place) i6.addr) ?_;refine AD (CG (dl 158 (i6.get ((s.place:Int).toNat) (by omega) 0 (by decide) _ _ (fun x hx=>by simp [hx]))) c9) (ox 2 [(160,vP b1 7),(159,vI (↑(ixR s.sort.toNat s.soil)))] ?_);refine AD (dlb 161 0 7 b1 (vI (s.amt))) ?_;refine AW ?_;obtain ⟨Q7,i7⟩:=k0.row 0;refine sd (di 162 1 (ixR s.sort.toNat s.soil) i7.addr) (sS (BD (T:=3) (x:=(.tmp 162)) (y:=(.tmp 161)) (rc:=fun i f=>AN ((X.getD ((s.place:Int).toNat) []).getD i 0) f) 0 (ixR s.sort.toNat s.soil) 0 (s.amt) (ty:=0) (gd:=none) (by kernel_rfl) rfl k0 i7 (by omega) (by decide) rfl rfl (by kernel_rfl) rfl rfl (by intro f hf;match f,hf with | 0,_=>rfl) (PM.symm) (fun l3 t3=>(pm (M':=((bX b1 #[vI (s.num),vI (s.hour),vI (s.kind),vI (s.place),vI (s.to),vI (s.sort),.bool (s.soil),vI (s.amt)] 28)::(l3++(f9++(hM++F))))) PM (ee (NB (NX (rq ?_))))))));obtain ⟨e3,h9,r2⟩:=B4 _ _ _ t3;have p4:=h9.same c9;refine BV (M':=((e3++(bX b1 #[vI (s.num),vI (s.hour),vI (s.kind),vI (s.place),vI (s.to),vI (s.sort),.bool (s.soil),vI (s.amt)] 28)::(hM++F)))) (fun w h=>?_) ?_
  ·have h2:=h.perm ((PM.symm).trans (PA _ (PM.symm)));simp only [← AA] at h2;have h3:=St.permL (A':=e3) (A:=l3++f9) (by simpa only [AA,List.append_nil] using r2.symm) (by simpa only [AA] using h2)
   simpa only [AA] using h3
  refine BV (M':=((bX b1 #[vI (s.num),vI (s.hour),vI (s.kind),vI (s.place),vI (s.to),vI (s.sort),.bool (s.soil),vI (s.amt)] 28)::(e3++(hM++F)))) (fun w h=>h.perm PM) ?_;have i5:RowsI 100200 m (X.set ((s.place:Int).toNat) ((X.getD ((s.place:Int).toNat) []).set (ixR s.sort.toNat s.soil) s.amt)):=(a6.mono (by omega)).put (by omega) (by omega);refine FE (B:=((bX b1 #[vI (s.num),vI (s.hour),vI (s.kind),vI (s.place),vI (s.to),vI (s.sort),.bool (s.soil),vI (s.amt)] 28)::(hM++F))) p4 (by intro xs hq;have:=(i5 xs hq).2.1;omega) (PM.symm) (PR _) (fun R6 p7 a7=>?_);have d1:=a7.1
  try simp only [LS,LA,LC,LN,LK] at d1
  refine BP (B:=((bX b1 #[vI (s.num),vI (s.hour),vI (s.kind),vI (s.place),vI (s.to),vI (s.sort),.bool (s.soil),vI (s.amt)] 28)::F)) undef a3 (by first | omega | (simp only [LS,LC,LN,LA,LK,LD] <;> omega) | decide) (PM.symm) (PR _) (fun R7 i2 d7=>?_);replace a7:=a7.mono i2;obtain ⟨y6,y8,y7,z1,k4,y9,z0,z2⟩:=id d7;cases k4;have d4:=a7.isRows d7;have q1:=a7.1;obtain ⟨u8,v0,u9,v3,r7,k1,v1,v2,v4,v5⟩:=id d4
  injection k1 with fr111_e1 fr111_e2 fr111_e3;subst fr111_e1;subst fr111_e3
  refine rr (sp 2 [(4,vS a0 a2.length a1)] (se (BJ (AG (t:=4) [] (by kernel_rfl) rfl (TC _ (TR _)) (IT (IT hJ0 p7) i2) ?_))));exact ⟨_,rfl,rfl,((show X.set ((s.place:Int).toNat) ((X.getD ((s.place:Int).toNat) []).set (ixR s.sort.toNat s.soil) s.amt)=KD X s from done_4 h5)▸d4)⟩
 have O9:=h5;have h5:=BL h5;refine rqr (sp 2 [(163,.bool (cmp .eql (s.kind) (5)))] (se (rc 163 rfl (fun h6=>?_) (fun h6=>?_))))
 ·
  have P0:=h6;have h6:=BI h6;have a6:=hr;have hYl:(X).length=X.length:=by rfl
  have c3:=a6.at (p:=(s.place:Int).toNat) (by omega);have m0:=c3.2.2 _ Q4;obtain ⟨c7,b9,c1,r3,r0⟩:=OwnEach.pull d0 ((s.place:Int).toNat) (by omega);obtain ⟨u2,u3,a4,u4⟩:=c1.shape;rw [a4] at c1;refine BV (M':=((c7++(b9++(bX b1 #[vI (s.num),vI (s.hour),vI (s.kind),vI (s.place),vI (s.to),vI (s.sort),.bool (s.soil),vI (s.amt)] 28)::(hM++F))))) (fun w h=>?_) ?_
  ·have h2:=h.perm (PU (PO _ _ _));have h3:=St.permL (A':=c7++b9) (A:=gM) (by simpa only [AA,List.append_nil] using r3) (by simpa only [AA] using h2)
   simpa only [AA] using h3
  refine BV (M':=((bX b1 #[vI (s.num),vI (s.hour),vI (s.kind),vI (s.place),vI (s.to),vI (s.sort),.bool (s.soil),vI (s.amt)] 28)::(c7++(b9++(hM++F))))) (fun w h=>h.perm ((PA _ PM).trans PM)) ?_;refine rd0 17 (ox 2 [(166,vP b1 3),(165,vS a0 a2.length a1)] ?_);refine AD (dlb 167 0 3 b1 (vI (s.place))) ?_;obtain ⟨Q8,i8⟩:=a3.row undef;refine AD (diI 168 1 (s.place) i8.addr) ?_;refine AD (CG (dl 169 (i8.get ((s.place:Int).toNat) (by omega) 0 (by decide) _ _ (fun x hx=>by simp [hx]))) a4) (ox 3 [(172,vP b1 3),(171,vS a0 a2.length a1),(170,vI (↑(ixR s.sort.toNat false)))] ?_);refine AD (dlb 173 0 3 b1 (vI (s.place))) ?_;obtain ⟨Q9,i9⟩:=a3.row undef;refine AD (diI 174 1 (s.place) i9.addr) ?_;refine AD (CG (dl 175 (i9.get ((s.place:Int).toNat) (by omega) 0 (by decide) _ _ (fun x hx=>by simp [hx]))) a4) (ox 1 [(176,vI (↑(ixR s.sort.toNat false)))] ?_);obtain ⟨R0,j0⟩:=c1.row 0;refine AD (di 177 1 (ixR s.sort.toNat false) j0.addr) ?_;refine AD (dl 178 (j0.get (ixR s.sort.toNat false) (by omega) 0 (by decide) _ _ (fun x hx=>by simp [hx]))) (ox 1 [(179,vP b1 7)] ?_);refine AD (dlb 180 0 7 b1 (vI (s.amt))) ?_;refine AD (da 181 ((X.getD ((s.place:Int).toNat) []).getD (ixR s.sort.toNat false) 0) (s.amt)) ?_;refine AW ?_;obtain ⟨R1,j1⟩:=c1.row 0;refine sd (di 182 1 (ixR s.sort.toNat false) j1.addr) (sS (BD (T:=3) (x:=(.tmp 182)) (y:=(.tmp 181)) (rc:=fun i f=>AN ((X.getD ((s.place:Int).toNat) []).getD i 0) f) 0 (ixR s.sort.toNat false) 0 (((X.getD ((s.place:Int).toNat) []).getD (ixR s.sort.toNat false) 0)+s.amt) (ty:=0) (gd:=none) (by kernel_rfl) rfl c1 j1 (by omega) (by decide) rfl rfl (by kernel_rfl) rfl rfl (by intro f hf;match f,hf with | 0,_=>rfl) (PM.symm) (fun l4 t4=>(pm (M':=((bX b1 #[vI (s.num),vI (s.hour),vI (s.kind),vI (s.place),vI (s.to),vI (s.sort),.bool (s.soil),vI (s.amt)] 28)::(l4++(b9++(hM++F))))) PM (ee (NB (NX (rq ?_))))))));obtain ⟨e4,i0,r4⟩:=r0 _ _ _ t4;have p5:=i0.same a4;refine BV (M':=((e4++(bX b1 #[vI (s.num),vI (s.hour),vI (s.kind),vI (s.place),vI (s.to),vI (s.sort),.bool (s.soil),vI (s.amt)] 28)::(hM++F)))) (fun w h=>?_) ?_
  ·have h2:=h.perm ((PM.symm).trans (PA _ (PM.symm)));simp only [← AA] at h2;have h3:=St.permL (A':=e4) (A:=l4++b9) (by simpa only [AA,List.append_nil] using r4.symm) (by simpa only [AA] using h2)
   simpa only [AA] using h3
  refine BV (M':=((bX b1 #[vI (s.num),vI (s.hour),vI (s.kind),vI (s.place),vI (s.to),vI (s.sort),.bool (s.soil),vI (s.amt)] 28)::(e4++(hM++F)))) (fun w h=>h.perm PM) ?_;have i5:RowsI 100200 m (X.set ((s.place:Int).toNat) ((X.getD ((s.place:Int).toNat) []).set (ixR s.sort.toNat false) (((X.getD ((s.place:Int).toNat) []).getD (ixR s.sort.toNat false) 0)+s.amt))):=(a6.mono (by omega)).put (by omega) (by omega);refine FE (B:=((bX b1 #[vI (s.num),vI (s.hour),vI (s.kind),vI (s.place),vI (s.to),vI (s.sort),.bool (s.soil),vI (s.amt)] 28)::(hM++F))) p5 (by intro xs hq;have:=(i5 xs hq).2.1;omega) (PM.symm) (PR _) (fun R8 p8 a8=>?_);have d2:=a8.1
  try simp only [LS,LA,LC,LN,LK] at d2
  refine BP (B:=((bX b1 #[vI (s.num),vI (s.hour),vI (s.kind),vI (s.place),vI (s.to),vI (s.sort),.bool (s.soil),vI (s.amt)] 28)::F)) undef a3 (by first | omega | (simp only [LS,LC,LN,LA,LK,LD] <;> omega) | decide) (PM.symm) (PR _) (fun R9 i3 d8=>?_);replace a8:=a8.mono i3;obtain ⟨z3,z5,z4,z8,k5,z6,z7,z9⟩:=id d8;cases k5;have d5:=a8.isRows d8;have q2:=a8.1;obtain ⟨v6,v9,v8,x2,r8,k2,x0,x1,x3,x4⟩:=id d5
  injection k2 with fr129_e1 fr129_e2 fr129_e3;subst fr129_e1;subst fr129_e3
  refine rr (sp 2 [(4,vS a0 a2.length a1)] (se (BJ (AG (t:=4) [] (by kernel_rfl) rfl (TC _ (TR _)) (IT (IT hJ0 p8) i3) ?_))));exact ⟨_,rfl,rfl,((show X.set ((s.place:Int).toNat) ((X.getD ((s.place:Int).toNat) []).set (ixR s.sort.toNat false) (((X.getD ((s.place:Int).toNat) []).getD (ixR s.sort.toNat false) 0)+s.amt))=KD X s from done_5 h6)▸d5)⟩
 have P0:=h6;have h6:=BL h6;refine rqr (sp 2 [(183,.bool (cmp .eql (s.kind) (6)))] (se (rc 183 rfl (fun h7=>?_) (fun h7=>?_))))
 ·
  have P1:=h7;have h7:=BI h7;have a6:=hr;have hYl:(X).length=X.length:=by rfl
  have c3:=a6.at (p:=(s.place:Int).toNat) (by omega);have m0:=c3.2.2 _ hm;obtain ⟨c8,c0,c2,r5,r1⟩:=OwnEach.pull d0 ((s.place:Int).toNat) (by omega);obtain ⟨u5,u6,a5,u7⟩:=c2.shape;rw [a5] at c2;refine BV (M':=((c8++(c0++(bX b1 #[vI (s.num),vI (s.hour),vI (s.kind),vI (s.place),vI (s.to),vI (s.sort),.bool (s.soil),vI (s.amt)] 28)::(hM++F))))) (fun w h=>?_) ?_
  ·have h2:=h.perm (PU (PO _ _ _));have h3:=St.permL (A':=c8++c0) (A:=gM) (by simpa only [AA,List.append_nil] using r5) (by simpa only [AA] using h2)
   simpa only [AA] using h3
  refine BV (M':=((bX b1 #[vI (s.num),vI (s.hour),vI (s.kind),vI (s.place),vI (s.to),vI (s.sort),.bool (s.soil),vI (s.amt)] 28)::(c8++(c0++(hM++F))))) (fun w h=>h.perm ((PA _ PM).trans PM)) ?_;refine rd0 17 (ox 2 [(186,vP b1 3),(185,vS a0 a2.length a1)] ?_);refine AD (dlb 187 0 3 b1 (vI (s.place))) ?_;obtain ⟨R2,j2⟩:=a3.row undef;refine AD (diI 188 1 (s.place) j2.addr) ?_;refine AD (CG (dl 189 (j2.get ((s.place:Int).toNat) (by omega) 0 (by decide) _ _ (fun x hx=>by simp [hx]))) a5) (ox 3 [(192,vP b1 3),(191,vS a0 a2.length a1),(190,vI (↑(ixR s.sort.toNat true)))] ?_);refine AD (dlb 193 0 3 b1 (vI (s.place))) ?_;obtain ⟨R3,j3⟩:=a3.row undef;refine AD (diI 194 1 (s.place) j3.addr) ?_;refine AD (CG (dl 195 (j3.get ((s.place:Int).toNat) (by omega) 0 (by decide) _ _ (fun x hx=>by simp [hx]))) a5) (ox 1 [(196,vI (↑(ixR s.sort.toNat true)))] ?_);obtain ⟨R4,j4⟩:=c2.row 0;refine AD (di 197 1 (ixR s.sort.toNat true) j4.addr) ?_;refine AD (dl 198 (j4.get (ixR s.sort.toNat true) (by omega) 0 (by decide) _ _ (fun x hx=>by simp [hx]))) (ox 1 [(199,vP b1 7)] ?_);refine AD (dlb 200 0 7 b1 (vI (s.amt))) ?_;refine AD (dsb 201 ((X.getD ((s.place:Int).toNat) []).getD (ixR s.sort.toNat true) 0) (s.amt)) ?_;refine AW ?_;obtain ⟨R5,j5⟩:=c2.row 0;refine sd (di 202 1 (ixR s.sort.toNat true) j5.addr) (sS (BD (T:=3) (x:=(.tmp 202)) (y:=(.tmp 201)) (rc:=fun i f=>AN ((X.getD ((s.place:Int).toNat) []).getD i 0) f) 0 (ixR s.sort.toNat true) 0 (((X.getD ((s.place:Int).toNat) []).getD (ixR s.sort.toNat true) 0)-s.amt) (ty:=0) (gd:=none) (by kernel_rfl) rfl c2 j5 (by omega) (by decide) rfl rfl (by kernel_rfl) rfl rfl (by intro f hf;match f,hf with | 0,_=>rfl) (PM.symm) (fun l5 t5=>(pm (M':=((bX b1 #[vI (s.num),vI (s.hour),vI (s.kind),vI (s.place),vI (s.to),vI (s.sort),.bool (s.soil),vI (s.amt)] 28)::(l5++(c0++(hM++F))))) PM (ee (NB (NX (rq ?_))))))));obtain ⟨e5,i1,r6⟩:=r1 _ _ _ t5;have p6:=i1.same a5;refine BV (M':=((e5++(bX b1 #[vI (s.num),vI (s.hour),vI (s.kind),vI (s.place),vI (s.to),vI (s.sort),.bool (s.soil),vI (s.amt)] 28)::(hM++F)))) (fun w h=>?_) ?_
  ·have h2:=h.perm ((PM.symm).trans (PA _ (PM.symm)));simp only [← AA] at h2;have h3:=St.permL (A':=e5) (A:=l5++c0) (by simpa only [AA,List.append_nil] using r6.symm) (by simpa only [AA] using h2)
   simpa only [AA] using h3
  refine BV (M':=((bX b1 #[vI (s.num),vI (s.hour),vI (s.kind),vI (s.place),vI (s.to),vI (s.sort),.bool (s.soil),vI (s.amt)] 28)::(e5++(hM++F)))) (fun w h=>h.perm PM) ?_;have i5:RowsI 100200 m (X.set ((s.place:Int).toNat) ((X.getD ((s.place:Int).toNat) []).set (ixR s.sort.toNat true) (((X.getD ((s.place:Int).toNat) []).getD (ixR s.sort.toNat true) 0)-s.amt))):=(a6.mono (by omega)).put (by omega) (by omega);refine FE (B:=((bX b1 #[vI (s.num),vI (s.hour),vI (s.kind),vI (s.place),vI (s.to),vI (s.sort),.bool (s.soil),vI (s.amt)] 28)::(hM++F))) p6 (by intro xs hq;have:=(i5 xs hq).2.1;omega) (PM.symm) (PR _) (fun T0 p9 a9=>?_);have d3:=a9.1
  try simp only [LS,LA,LC,LN,LK] at d3
  refine BP (B:=((bX b1 #[vI (s.num),vI (s.hour),vI (s.kind),vI (s.place),vI (s.to),vI (s.sort),.bool (s.soil),vI (s.amt)] 28)::F)) undef a3 (by first | omega | (simp only [LS,LC,LN,LA,LK,LD] <;> omega) | decide) (PM.symm) (PR _) (fun T1 i4 d9=>?_);replace a9:=a9.mono i4;obtain ⟨A0,A2,A1,A5,k6,A3,A4,A6⟩:=id d9;cases k6;have d6:=a9.isRows d9;have q3:=a9.1;obtain ⟨x5,x7,x6,y0,r9,k3,x8,x9,y1,y2⟩:=id d6
  injection k3 with fr147_e1 fr147_e2 fr147_e3;subst fr147_e1;subst fr147_e3
  refine rr (sp 2 [(4,vS a0 a2.length a1)] (se (BJ (AG (t:=4) [] (by kernel_rfl) rfl (TC _ (TR _)) (IT (IT hJ0 p9) i4) ?_))));exact ⟨_,rfl,rfl,((show X.set ((s.place:Int).toNat) ((X.getD ((s.place:Int).toNat) []).set (ixR s.sort.toNat true) (((X.getD ((s.place:Int).toNat) []).getD (ixR s.sort.toNat true) 0)-s.amt))=KD X s from done_6 h7)▸d6)⟩
 have P1:=h7;have h7:=BL h7;omega
end Go.Proofs.YtgcemienebmdeaaGreat
