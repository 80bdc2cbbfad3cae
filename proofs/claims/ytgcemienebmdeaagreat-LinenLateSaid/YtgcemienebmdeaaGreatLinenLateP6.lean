/- A part of the proof of the laws of this seat. -/
import Derived.Test.YtgcemienebmdeaaGreatP3
import Derived.Test.YtgcemienebmdeaaGreatP2
import Derived.Test.YtgcemienebmdeaaGreatP1
import Derived.Test.YtgcemienebmdeaaGreatP5
import Derived.Test.YtgcemienebmdeaaGreatP4
set_option linter.unusedVariables false
set_option linter.unusedSimpArgs false
namespace Go.Sh
open Go Go.Sl
section
variable {so:Int} {H H':Hs} {k:HKey} {v d:Int}
end
section
variable {L:Lin} {so hour:Int}
end
theorem inB_of {n lo hi:Int} (h:lo≤n∧n≤hi):¬ inB n lo hi=false:=by simp [inB,h.1,h.2]
theorem CC {L:Lin} (g:GoodL L):AN L=0:=by
  have h1:DF L=0:=by
    unfold DF;rw [if_neg (fun h=>h g.start),if_neg,if_neg]
    · rw [List.all_eq_true.2 (fun n hn => by
        obtain ⟨r,hr,hn⟩:=List.mem_flatten.1 hn
        simpa using inB_of (g.nums r hr n hn))];decide
    · rw [List.all_eq_true.2 (fun r hr=>decide_eq_true (g.rows r hr))];decide
  have h2:EA L=0:=by unfold EA;rw [if_neg (by have:=g.keeps;omega)];exact firstE_zero.2 g.keep
  unfold AN;rw [if_neg (inB_of g.places),if_neg (inB_of g.sorts),h1,h2,if_neg (fun h=>h rfl),if_neg (fun h=>h rfl),if_neg (by have:=g.slips;omega)];exact firstE_zero.2 g.slip
theorem gap_small {L:Lin} (g:GoodL L):∀ x∈DH (BH L),-1000000≤x.amt∧x.amt≤1000000:=by
  intro x hx;obtain ⟨e,he,hx⟩:=List.mem_flatMap.1 hx;unfold gapOf at hx
  split at hx
  · simp only [List.mem_singleton] at hx;subst hx
    obtain ⟨k,hk,rfl⟩:=List.mem_iff_getElem.1 he;have hk2:k<(AD AC L.slips).length:=by unfold BH at hk;rwa [FV] at hk
    have ht:=evs_take (H:=EE L) hk2;have e3:(BH L)[k]=evOf (aft (EE L) ((AD AC L.slips).take k)) ((AD AC L.slips).getD k AB):=by
      have h1:((evs (EE L) (AD AC L.slips)).take (k+1))[k]?=some (evOf (aft (EE L) ((AD AC L.slips).take k)) ((AD AC L.slips).getD k AB)):=by
        have hk3:k<(evs (EE L) (AD AC L.slips)).length:=hk;rw [ht,List.getElem?_append_right (by rw [List.length_take];omega),List.length_take,Nat.min_eq_left (by omega)];simp
      rw [List.getElem?_take_of_lt (by omega)] at h1;exact (List.getElem?_eq_some_iff.1 h1).2
    rw [e3];have hw:=(g.goodS.sorted.within g.within k) (keyOf ((AD AC L.slips).getD k AB));have ha:=(g.goodS.sorted.ok _ (AX (d:=AB) hk2)).2.1;simp only [evOf];split <;> omega
  · cases hx
theorem gaps_fst {L:Lin} (g:GoodL L):(GO L).1=DH (BH L):=by rw [gapsE_2 (CC g)]
section
variable {L:Lin} {G:List Gap} {so n X:Int} {i m k:Nat} {s:Slip}
end
section
variable {p kh to f h:Int} {ks:List Keep} {k:Nat}
theorem kfold_spec (h0:∀ x∈ks,0≤x.hour):∀ k,k≤ks.length→(JG p h (ks.take k)=(0,-1)∧∀ x∈ks.take k,x.place=p→¬ x.hour≤h)∨∃ x∈ks.take k,x.place=p∧x.hour≤h∧JG p h (ks.take k)=(x.who,x.hour)∧∀ y∈ks.take k,y.place=p→y.hour≤h→y.hour≤x.hour:=by
  intro k
  induction k with
  | zero=>intro _;exact .inl ⟨rfl,fun x hx=>by simp at hx⟩
  | succ k ih=>
    intro hk;have hm:=AX (xs:=ks) (d:=AO) (show k<ks.length by omega);have hin:∀ y,y∈ks.take (k+1)↔y∈ks.take k∨y=ks.getD k AO:=fun y=>by rw [BT (d:=AO) (by omega)];simp
    cases hc:(cmp .eql (ks.getD k AO).place p&&(cmp .leq (ks.getD k AO).hour h&&cmp .gtr (ks.getD k AO).hour (JG p h (ks.take k)).2)) with
    | true=>
      rw [← kfold_t (by omega) hc];simp only [KO,cmp_leq,cmp_gtr,Bool.and_eq_true,decide_eq_true_eq] at hc;refine .inr ⟨_,(hin _).2 (.inr rfl),hc.1,hc.2.1,rfl,fun y hy h1 h2=>?_⟩;rcases (hin y).1 hy with hy | rfl
      · rcases ih (by omega) with ⟨_,h3⟩ | ⟨x,_,_,_,h3,h4⟩
        · exact absurd h2 (h3 y hy h1)
        · have:=h4 y hy h1 h2;rw [h3] at hc;simp only at hc;omega
      · exact Int.le_refl _
    | false=>
      rw [← kfold_f (by omega) hc];have hn:¬ ((ks.getD k AO).place=p∧(ks.getD k AO).hour≤h∧(JG p h (ks.take k)).2<(ks.getD k AO).hour):=fun hh=>by
        simp only [KO,cmp_leq,cmp_gtr,hh.1,hh.2.1,hh.2.2,decide_true,Bool.and_self] at hc;cases hc
      rcases ih (by omega) with ⟨h2,h3⟩ | ⟨x,h1,h2,h5,h3,h4⟩
      · refine .inl ⟨h2,fun y hy h1 h4=>?_⟩
        rcases (hin y).1 hy with hy | rfl
        · exact h3 y hy h1 h4
        · refine hn ⟨h1,h4,?_⟩
          rw [h2];have:=h0 _ hm;simp only;omega
      · refine .inr ⟨x,(hin x).2 (.inl h1),h2,h5,h3,fun y hy h6 h7=>?_⟩
        rcases (hin y).1 hy with hy | rfl
        · exact h4 y hy h6 h7
        · rcases Int.lt_or_le x.hour (ks.getD k AO).hour with h8 | h8
          · exact absurd ⟨h6,h7,by rw [h3];exact h8⟩ hn
          · exact h8
end
theorem keepErr_ok2 {L:Lin} {i:Nat} (h:FM L i=0):(0≤(L.keeps.getD i AO).hour∧(L.keeps.getD i AO).hour≤200)∧(1≤(L.keeps.getD i AO).who∧(L.keeps.getD i AO).who≤9)∧∀ x∈L.keeps.take i,¬ (x.place=(L.keeps.getD i AO).place∧x.hour=(L.keeps.getD i AO).hour):=by
  unfold FM at h;simp only at h
  split at h;· omega
  split at h;· omega
  rename_i h2
  split at h;· omega
  rename_i h3
  split at h;· omega
  rename_i h4
  refine ⟨EX (by simpa using h2),EX (by simpa using h3),fun x hx hh=>h4 (List.any_eq_true.2 ⟨x,hx,by simp [hh.1,hh.2]⟩)⟩
section
variable {L:Lin} (g:GoodL L)
include g
theorem GoodL.keepOf {x:Keep} (hx:x∈L.keeps):(0≤x.hour∧x.hour≤200)∧(1≤x.who∧x.who≤9):=by
  obtain ⟨k,hk,rfl⟩:=List.mem_iff_getElem.1 hx;have:=keepErr_ok2 (g.keep k hk);have e:L.keeps.getD k AO=L.keeps[k]:=by simp [List.getD,hk]
  rw [e] at this;exact ⟨this.1,this.2.1⟩
theorem GoodL.keepOnce {x y:Keep} (hx:x∈L.keeps) (hy:y∈L.keeps) (h1:x.place=y.place) (h2:x.hour=y.hour):x=y:=by
  obtain ⟨i,hi,rfl⟩:=List.mem_iff_getElem.1 hx;obtain ⟨j,hj,rfl⟩:=List.mem_iff_getElem.1 hy;have aux:∀ i j (hi:i<L.keeps.length) (hj:j<L.keeps.length),i<j→¬ (L.keeps[i].place=L.keeps[j].place∧L.keeps[i].hour=L.keeps[j].hour):=fun i j hi hj hij hh=>by
    have:=(keepErr_ok2 (g.keep j hj)).2.2 L.keeps[i] (by rw [List.mem_take_iff_getElem];exact ⟨i,by omega,rfl⟩);have e:L.keeps.getD j AO=L.keeps[j]:=by simp [List.getD,hj]
    rw [e] at this;exact this hh
  rcases Nat.lt_trichotomy i j with h | h | h
  · exact absurd ⟨h1,h2⟩ (aux i j hi hj h)
  · subst h;rfl
  · exact absurd ⟨h1.symm,h2.symm⟩ (aux j i hj hi h)
theorem keeper_iff {p h w:Int} (hw:w≠0):BK L p h=w↔∃ x∈L.keeps,x.place=p∧x.hour≤h∧x.who=w∧∀ y∈L.keeps,y.place=p→y.hour≤h→y.hour≤x.hour:=by
  have hs:=kfold_spec (p:=p) (h:=h) (ks:=L.keeps) (fun x hx=>(g.keepOf hx).1.1) L.keeps.length (Nat.le_refl _);rw [List.take_length] at hs;unfold BK
  constructor
  · intro hh
    rcases hs with ⟨h1,_⟩ | ⟨x,hx,h1,h2,h3,h4⟩
    · rw [h1] at hh;exact absurd hh.symm hw
    · rw [h3] at hh;exact ⟨x,hx,h1,h2,hh,h4⟩
  · rintro ⟨x,hx,h1,h2,h3,h4⟩
    rcases hs with ⟨_,h5⟩ | ⟨y,hy,h5,h6,h7,h8⟩
    · exact absurd h2 (h5 x hx h1)
    · have e:x=y:=g.keepOnce hx hy (by rw [h1,h5]) (by have:=h8 x hx h1 h2;have:=h4 y hy h5 h6;omega)
      subst e;rw [h7];exact h3
omit g in
theorem holdTo_mem {p since x:Int}:∀ {n:Nat},x∈BX L p since n↔∃ h:Nat,h<n∧since≤h∧BK L p h=x∧x≠0:=by
  intro n
  induction n with
  | zero=>simp [BX]
  | succ n ih=>
    have up:(∃ h:Nat,h<n+1∧since≤h∧BK L p h=x∧x≠0)↔(∃ h:Nat,h<n∧since≤h∧BK L p h=x∧x≠0)∨(since≤n∧BK L p n=x∧x≠0):=by
      constructor
      · rintro ⟨h,h1,h2⟩
        rcases Nat.lt_or_ge h n with h3 | h3
        · exact .inl ⟨h,h3,h2⟩
        · have:h=n:=by omega
          subst this;exact .inr h2
      · rintro (⟨h,h1,h2⟩ | h2)
        · exact ⟨h,by omega,h2⟩
        · exact ⟨n,by omega,h2⟩
    rw [up,← ih];simp only [BX]
    split
    · rename_i h;exact ⟨.inl,fun q=>q.elim id (fun e=>by omega)⟩
    · split
      · rename_i h;exact ⟨.inl,fun q=>q.elim id (fun e=>absurd (e.2.1.symm.trans h) e.2.2)⟩
      · rename_i h1 h2
        split
        · rename_i h3;exact ⟨.inl,fun q=>q.elim id (fun e=>e.2.1▸h3)⟩
        · simp only [List.mem_append,List.mem_singleton]
          exact ⟨fun q=>q.elim .inl (fun e=>.inr ⟨by omega,e.symm,e▸h2⟩),fun q=>q.elim .inl (fun e=>.inr e.2.1.symm)⟩
omit g
theorem strictZ {l:List Int}:Strict cmpZ l:=⟨fun a _ b _ h=>by unfold cmpZ;omega,fun a _=>by unfold cmpZ;omega,fun a _ b _ d _ h1 h2=>by unfold cmpZ at *;omega⟩
theorem nodup_inj {α β:Type} {f:α→β} {l:List α} (h:(l.map f).Nodup):∀ a∈l,∀ b∈l,f a=f b→a=b:=by
  intro a ha b hb e
  induction l with
  | nil=>cases ha
  | cons x r ih=>
    rw [List.map_cons,List.nodup_cons] at h;rcases List.mem_cons.1 ha with rfl | ha1 <;> rcases List.mem_cons.1 hb with rfl | hb1
    · rfl
    · exact absurd (e▸List.mem_map_of_mem (f:=f) hb1) h.1
    · exact absurd (e▸List.mem_map_of_mem (f:=f) ha1) h.1
    · exact ih h.2 ha1 hb1
section
variable {i:Nat} (g:GoodL L) (hi:i<(AD AC L.slips).length)
include g hi
omit g in
omit g in
omit g in
end
end
section
variable {L:Lin} {p who frm to:Int} {ks:List Keep} {k:Keep} {i m:Nat}
end
section
variable {L:Lin} {G:List Gap} {n:Int} {i k m:Nat}
variable (g:GoodL L) (hi:i<(sortS L.slips).length)
include g hi
end
section
variable {A:List Slip} {s:Slip} {k:Nat}
end
abbrev Ods:=List (Debt × Int)
def QR (k:Debt):Ods→Int
  | []=>0
  | x::r=>if x.1=k then x.2 else QR k r
def putO (k:Debt) (v:Int):Ods→Ods
  | []=>[(k,v)]
  | x::r=>if x.1=k then (k,v)::r else x::putO k v r
theorem getO_put {k j:Debt} {v:Int} {h:Ods}:QR j (putO k v h)=if j=k then v else QR j h:=by
  induction h with
  | nil=>simp only [putO,QR];by_cases e:j=k <;> simp [e,Ne.symm,eq_comm]
  | cons x r ih=>
    simp only [putO]
    split
    · rename_i e
      simp only [QR]
      by_cases e2:j=k
      · subst e2;simp
      · simp only [if_neg e2];rw [if_neg (Ne.symm e2),e,if_neg (Ne.symm e2)]
    · rename_i e
      simp only [QR]
      split
      · rename_i e2;rw [if_neg (fun e3=>e (e2.trans e3))]
      · exact ih
def okCells (k:Debt):Array Value:=#[.int .i64 k.who,.int .i64 k.sort,.int .i64 k.amt]
def encO (k:Debt):Value:=.agg (okCells k)
def flatO:List (Nat × SK):=[(0,.i .i64),(1,.i .i64),(2,.i .i64)]
theorem keyOk_debt {P:Program} {kt:TypeId} (h:JT P 4 kt=some (3,flatO)) (hagg:EL P kt=some true):KeyOk P kt encO:=
  keyOk_flat h (by decide) hagg okCells (fun _=>rfl) (fun _=>rfl) (fun a b=>by
    obtain ⟨a1,a2,a3⟩:=a;obtain ⟨b1,b2,b3⟩:=b
    show ((a1 == b1)&&((a2 == b2)&&((a3 == b3)&&true)))=decide ((⟨a1,a2,a3⟩:Debt)=⟨b1,b2,b3⟩)
    simp only [Bool.and_true,Debt.mk.injEq,Bool.decide_and];rfl)
def intO (h:Ods):List (Debt × Value):=h.map fun x=>(x.1,.int .i64 x.2)
theorem OO (k:Debt) (h:Ods):(JU k (intO h)).getD (.int .i64 0)=.int .i64 (QR k h):=by
  induction h with
  | nil=>rfl
  | cons x r ih => simp only [intO, List.map_cons, JU, QR] at ih ⊢; split; · rfl
                   · exact ih
theorem upd_intO (k:Debt) (v:Int) (h:Ods):upd k (.int .i64 v) (intO h)=intO (putO k v h):=by
  induction h with
  | nil=>rfl
  | cons x r ih => simp only [intO, List.map_cons, upd, putO] at ih ⊢; split; · rfl
                   · rw [ih];rfl
def MapO (es:Array MapEntry) (cl:Nat) (H:Ods):Prop:=MapB encO es cl (intO H)∧(H.map Prod.fst).Nodup
def EntO (es:Array MapEntry) (cl:Nat) (H:Ods) (k:Debt) (st:Nat):Prop:=MapB encO es cl (ent k (.int .i64 0) (intO H))∧Stamp es (ent k (.int .i64 0) (intO H)) st k∧(H.map Prod.fst).Nodup
theorem MapO.nil (cl:Nat):MapO #[] cl []:=⟨MapB.nil _ _,by simp⟩
theorem putO_keys (k:Debt) (v:Int):∀ H:Ods,(putO k v H).map Prod.fst=if k∈H.map Prod.fst then H.map Prod.fst else H.map Prod.fst++[k]:=by
  intro H
  induction H with
  | nil=>rfl
  | cons x r ih=>
    simp only [putO]
    by_cases h:x.1=k
    · simp [h]
    · rw [if_neg h]
      simp only [List.map_cons,ih,List.mem_cons,Ne.symm h,false_or]
      split <;> simp
theorem putO_once {k:Debt} {v:Int} {H:Ods} (h:(H.map Prod.fst).Nodup):((putO k v H).map Prod.fst).Nodup:=by
  rw [putO_keys]
  split
  · exact h
  · rename_i hk
    exact List.nodup_append.2 ⟨h,by simp,fun a ha b hb=>by
      simp only [List.mem_singleton] at hb
      intro e;rw [e,hb] at ha;exact hk ha⟩
end Go.Sh
namespace Go.Sl
open Go Go.Sh
section
variable {P:Program} {N:Nat} {ops:Array Oper} {i:Nat} {l:Sl} {I:Imm} {M:Seg} {ty:TypeId} {gd:Option (Nat × Bool)} {K:Sl→Imm→Seg→Prop} {d:Nat}
theorem stp_entO {x y : Operand} {T kt et r cl : Nat} {es : Array MapEntry} {H : Ods} {k : Debt} (n : Nat) (hop : FW ops N i = some (some d, .mapEntry T x y, ty, gd)) (hg : FL ops l gd = some true)
    (hT:QM P T=some (kt,et)) (hK:KeyOk P kt encO) (hx:BU l x=some (.map (some r))) (hy:BU l y=some (encO k)) (hz:HR P et=some (.int .i64 0)) (hn:M[n]?=some (r,Obj.map es cl)) (hb:MapO es cl H)
    (h:∀ es' cl' (st:Nat),EntO es' cl' H k st→K ((d,.tuple #[.int .i64 (QR k H),.int .i64 (st:Int)])::l) I (M.set n (r,Obj.map es' cl'))):Stp P N ops i l I M K:=
  QE n hop hg hT hK hx hy hz hn hb.1 fun es' cl' st h1 h2=>by
    rw [OO];exact h es' cl' st ⟨h1,h2,hb.2⟩
theorem stp_fillO {x y u : Operand} {T r cl st : Nat} {es : Array MapEntry} {H : Ods} {k : Debt} {v : Int} (n : Nat) (hop : FW ops N i = some (none, .entryStore T x y u, ty, gd)) (hg : FL ops l gd = some true)
    (hx:BU l x=some (.map (some r))) (hy:BU l y=some (.int .i64 (st:Int))) (hu:BU l u=some (.int .i64 v)) (hn:M[n]?=some (r,Obj.map es cl)) (hb:EntO es cl H k st)
    (h:∀ es',MapO es' cl (putO k v H)→K l I (M.set n (r,Obj.map es' cl))):Stp P N ops i l I M K:=
  LZ (k:=k) n hop hg hx hy hu hn hb.1 hb.2.1 fun es' h'=>h es' ⟨by rw [upd_ent,upd_intO] at h';exact h',putO_once hb.2.2⟩
theorem stp_nextO {x : Operand} {r cl b : Nat} {es : Array MapEntry} {seen : Array Nat} {todo : Ods} (n : Nat) (hop : FW ops N i = some (some d, .next x false, ty, gd)) (hg : FL ops l gd = some true)
    (hx:BU l x=some (.pointer (some ⟨b,0,none⟩))) (hn:M[n]?=some (b,Obj.mapIter (some r) cl seen cl)) (hm:Holds I M r (.map es cl)) (hb:Borns es cl) (hl:Left encO es seen (intO todo))
    (h0:todo=[]→K ((d,.tuple #[.bool false])::l) I M)
    (h1:∀ A (y:Debt × Int) B seen',todo=A++y::B→Left encO es seen' (intO (A++B))→AtEntry encO es seen' (y.1,.int .i64 y.2)→K ((d,.tuple #[.bool true,encO y.1,.int .i64 y.2])::l) I (M.set n (b,Obj.mapIter (some r) cl seen' cl))):Stp P N ops i l I M K:=
  stp_next n hop hg hx hn hm hb hl (fun h=>h0 (by simpa [intO] using h)) fun A y B seen' e hl' ha=>by
    obtain ⟨A',y',B',rfl,rfl,rfl,rfl⟩:=map_cut (show todo.map _=A++y::B from e);exact h1 A' y' B' seen' rfl (by simpa [intO] using hl') ha
end
end Go.Sl
namespace Go.Sh
open Go Go.Sl
def oweK (q:EvH):Debt:=⟨q.2.getD 0 0,q.1.slip.sort,0⟩
def NP (O:Ods) (q:EvH):Ods:=if q.1.gap<0∧q.2.length=1 then putO (oweK q) (QR (oweK q) O-q.1.gap) O else O
def EV (l:List EvH):Ods:=l.foldl NP []
def mkD (q:Debt × Int):Debt:=⟨q.1.who,q.1.sort,q.2⟩
def EZ (a b:Debt):Int:=if a.who≠b.who then a.who-b.who else a.sort-b.sort
def PI (s:Debt):Prop:=-1000000≤s.who∧s.who≤1000000∧-1000000≤s.sort∧s.sort≤1000000
def JH (L:Lin):List Debt × Int:=if AN L≠0 then ([],AN L) else (AD EZ ((EV (EN L)).map mkD),0)
section
variable {L:Lin} {xs:List EvH} {x:EvH}
theorem owesOf_snoc:EV (xs++[x])=NP (EV xs) x:=by unfold EV;rw [List.foldl_append];rfl
theorem owes_t (h:(cmp .lss x.1.gap 0&&cmp .eql (x.2.length:Int) 1)=true):putO ⟨x.2.getD 0 0,x.1.slip.sort,0⟩ (QR ⟨x.2.getD 0 0,x.1.slip.sort,0⟩ (EV xs)-x.1.gap) (EV xs)=EV (xs++[x]):=by
  simp only [cmp_lss,KO,Bool.and_eq_true,decide_eq_true_eq] at h;rw [owesOf_snoc];unfold NP;rw [if_pos ⟨h.1,by omega⟩];rfl
theorem owes_f (h:(cmp .lss x.1.gap 0&&cmp .eql (x.2.length:Int) 1)=false):EV xs=EV (xs++[x]):=by
  simp only [cmp_lss,KO,Bool.and_eq_false_iff,decide_eq_false_iff_not] at h;rw [owesOf_snoc];unfold NP;rw [if_neg (fun e=>by omega)]
theorem owedE_1 (h:AN L≠0):JH L=([],AN L):=if_pos h
theorem owedE_2 (h:AN L=0):JH L=(AD EZ ((EV (EN L)).map mkD),0):=if_neg (fun x=>x h)
theorem lack_in {q:EvH}:∀ {i:Nat} {E:List Sh.Event},i≤E.length→q∈(EU L (E.take i)).2→q.1∈E.take i∧q.1.gap≠0∧∃ s,q.2=DI L q.1.slip s:=by
  intro i
  induction i with
  | zero=>intro E _ hq;simp [EU] at hq
  | succ i ih=>
    intro E hi hq;rw [BT (d:=noEvent) (by omega:i<E.length)] at hq ⊢;rw [HY] at hq;unfold MF at hq
    split at hq
    · exact ⟨List.mem_append_left _ (ih (by omega) hq).1,(ih (by omega) hq).2⟩
    · simp only at hq
      split at hq
      · rename_i hg
        rcases List.mem_append.1 hq with hq | hq
        · exact ⟨List.mem_append_left _ (ih (by omega) hq).1,(ih (by omega) hq).2⟩
        · simp only [List.mem_singleton] at hq;subst hq;exact ⟨by simp,hg,_,rfl⟩
      · exact ⟨List.mem_append_left _ (ih (by omega) hq).1,(ih (by omega) hq).2⟩
theorem lack_len:∀ {xs:List Sh.Event} {q:Hs × List EvH},((xs.foldl (MF L) q).2).length≤q.2.length+xs.length:=by
  intro xs
  induction xs with
  | nil=>intro q;exact Nat.le_refl _
  | cons x r ih=>
    intro q;have h1:=ih (q:=MF L q x);have h2:(MF L q x).2.length≤q.2.length+1:=by
      unfold MF;split
      · omega
      · simp only;split
        · simp
        · omega
    simp only [List.foldl_cons,List.length_cons];omega
variable (g:GoodL L)
include g
theorem lack_count:(EN L).length≤8:=by
  have h1:=lack_len (L:=L) (xs:=BH L) (q:=([],[]));have h2:=GV (L:=L);have h3:=g.slips;unfold EN EU;simp only [List.length_nil] at h1;omega
theorem lack_all {q:EvH} (hq:q∈EN L):(-1000000≤q.1.gap∧q.1.gap≤1000000)∧(0≤q.1.slip.sort∧q.1.slip.sort≤1)∧∀ w∈q.2,1≤w∧w≤9:=by
  have h1:=lack_in (L:=L) (i:=(BH L).length) (E:=BH L) (Nat.le_refl _) (q:=q) (by rw [List.take_length];exact hq);rw [List.take_length] at h1;obtain ⟨h2,h3,s,h4⟩:=h1;have h5:=gap_small g ⟨q.1.slip.num,q.1.gap⟩ (List.mem_flatMap.2 ⟨q.1,h2,by unfold gapOf;rw [if_pos h3];simp⟩);have h6:=PB (g.slipOf ((CJ _).subset (evs_slip h2)));have h7:=g.sorts;refine ⟨h5,by omega,fun w hw=>?_⟩;rw [h4] at hw;unfold DI at hw;have hw2:=(CJ _).subset hw;obtain ⟨_,_,_,h8,h9⟩:=holdTo_mem.1 hw2;obtain ⟨k,hk,_,_,h10,_⟩:=(keeper_iff g h9).1 h8;have:=(g.keepOf hk).2;omega
theorem owes_keys:∀ {xs:List EvH},(∀ q∈xs,q∈EN L)→∀ x∈EV xs,x.1.amt=0∧(1≤x.1.who∧x.1.who≤9)∧(0≤x.1.sort∧x.1.sort≤1):=by
  have aux:∀ {xs:List EvH} {O:Ods},(∀ q∈xs,q∈EN L)→(∀ x∈O,x.1.amt=0∧(1≤x.1.who∧x.1.who≤9)∧(0≤x.1.sort∧x.1.sort≤1))→∀ x∈xs.foldl NP O,x.1.amt=0∧(1≤x.1.who∧x.1.who≤9)∧(0≤x.1.sort∧x.1.sort≤1):=by
    intro xs
    induction xs with
    | nil=>intro O _ h;exact h
    | cons q r ih=>
      intro O hq h;refine ih (fun y hy=>hq y (by simp [hy])) ?_;unfold NP
      split
      · rename_i hc
        intro x hx;have hk:x.1∈(putO (oweK q) (QR (oweK q) O-q.1.gap) O).map Prod.fst:=List.mem_map_of_mem hx;rw [putO_keys] at hk;have hl:=lack_all g (hq q (by simp));have hnew:x.1=oweK q→x.1.amt=0∧(1≤x.1.who∧x.1.who≤9)∧(0≤x.1.sort∧x.1.sort≤1):=fun e=>by
          rw [e];exact ⟨rfl,hl.2.2 _ (AX (d:=0) (by omega)),hl.2.1⟩
        have hold:x.1∈O.map Prod.fst→x.1.amt=0∧(1≤x.1.who∧x.1.who≤9)∧(0≤x.1.sort∧x.1.sort≤1):=fun e=>by
          obtain ⟨y,hy,e2⟩:=List.mem_map.1 e;rw [← e2];exact h y hy
        split at hk
        · exact hold hk
        · rcases List.mem_append.1 hk with hk | hk
          · exact hold hk
          · exact hnew (List.mem_singleton.1 hk)
      · exact h
  intro xs hq x hx;exact aux hq (fun x hx=>by cases hx) x hx
theorem owes_bound {k:Debt}:∀ {xs:List EvH},(∀ q∈xs,q∈EN L)→0≤QR k (EV xs)∧QR k (EV xs)≤1000000*xs.length:=by
  have aux:∀ {xs:List EvH} {O:Ods} {B:Int},(∀ q∈xs,q∈EN L)→(∀ k,0≤QR k O∧QR k O≤B)→∀ k,0≤QR k (xs.foldl NP O)∧QR k (xs.foldl NP O)≤B+1000000*xs.length:=by
    intro xs
    induction xs with
    | nil=>intro O B _ h k;have:=h k;simp only [List.foldl_nil,List.length_nil];omega
    | cons q r ih=>
      intro O B hq h k
      have:=ih (O:=NP O q) (B:=B+1000000) (fun y hy=>hq y (by simp [hy])) (fun j=>by
        have hl:=(lack_all g (hq q (by simp))).1
        unfold NP;split
        · rw [getO_put];have:=h j;have:=h (oweK q);split <;> omega
        · have:=h j;omega) k
      simp only [List.foldl_cons,List.length_cons,Int.natCast_add,Int.natCast_one];omega
  intro xs hq;have:=aux (O:=[]) (B:=0) hq (fun k=>by simp [QR]) k;unfold EV;omega
end
section
variable {O dn td:Ods}
theorem QF (hn:(O.map Prod.fst).Nodup) (ha:∀ x∈O,x.1.amt=0):Strict EZ (O.map mkD):=by
  refine ⟨fun a ha' b hb' hne=>?_,fun a _=>?_,fun a _ b _ d _ h1 h2=>?_⟩
  · obtain ⟨p,hp,rfl⟩:=List.mem_map.1 ha'
    obtain ⟨q,hq,rfl⟩:=List.mem_map.1 hb'
    have:¬ (p.1.who=q.1.who∧p.1.sort=q.1.sort):=fun e=>hne (by
      have e1:p.1=q.1:=by
        have h1:=ha p hp;have h2:=ha q hq
        cases hp1:p.1;cases hq1:q.1
        rw [hp1,hq1] at e;rw [hp1] at h1;rw [hq1] at h2
        simp only at e h1 h2
        rw [e.1,e.2,h1,h2]
      have:=nodup_inj hn p hp q hq e1
      rw [this])
    unfold EZ mkD;simp only
    split <;> split <;> omega
  · unfold EZ;split <;> omega
  · unfold EZ at *;split at h1 <;> split at h2 <;> split <;> omega
theorem nodup_debts (hn:(O.map Prod.fst).Nodup) (ha:∀ x∈O,x.1.amt=0):(O.map mkD).Nodup:=by
  have hs:=QF hn ha;rw [List.Nodup,List.pairwise_map];have h1:O.Pairwise fun a b=>a.1≠b.1:=List.pairwise_map.1 hn
  refine List.Pairwise.imp_of_mem (fun {a b} hA hB hab e=>hab ?_) h1;have h2:=ha a hA;have h3:=ha b hB;unfold mkD at e;simp only [Debt.mk.injEq] at e;cases ha1:a.1;cases hb1:b.1;rw [ha1] at h2 e;rw [hb1] at h3 e;simp only at h2 h3 e;rw [e.1,e.2.1,h2,h3]
theorem debts_sorted (hn:(O.map Prod.fst).Nodup) (ha:∀ x∈O,x.1.amt=0) (hp:(dn++td).Perm O) (ht:td=[]):AD EZ (dn.map mkD)=AD EZ (O.map mkD):=by
  subst ht;rw [List.append_nil] at hp;have hpm:(dn.map mkD).Perm (O.map mkD):=hp.map _;have hs:=QF hn ha;have hnd:=nodup_debts hn ha;exact OH ((hs.perm hpm).perm (CJ _)) ((CJ _).trans (hpm.trans (CJ _).symm)) (HO (hs.perm hpm) (hpm.nodup_iff.2 hnd)) (HO hs hnd)
theorem small_debts {L:Lin} (g:GoodL L) (hp:(dn++td).Perm (EV (EN L))):∀ x∈dn.map mkD,PI x:=fun x hx=>by
  obtain ⟨q,hq,rfl⟩:=List.mem_map.1 hx;have:=owes_keys g (xs:=EN L) (fun _ h=>h) q (hp.subset (List.mem_append_left _ hq));unfold PI mkD;simp only;omega
theorem owes_len:∀ {xs:List EvH},(EV xs).length≤xs.length:=by
  have aux:∀ {xs:List EvH} {O:Ods},(xs.foldl NP O).length≤O.length+xs.length:=by
    intro xs
    induction xs with
    | nil=>intro O;exact Nat.le_refl _
    | cons q r ih=>
      intro O;have h1:=ih (O:=NP O q);have h2:(NP O q).length≤O.length+1:=by
        unfold NP;split
        · have h3:=congrArg List.length (putO_keys (oweK q) (QR (oweK q) O-q.1.gap) O)
          rw [List.length_map] at h3
          split at h3
          · rw [List.length_map] at h3;omega
          · rw [List.length_append,List.length_map,List.length_singleton] at h3;omega
        · omega
      simp only [List.foldl_cons,List.length_cons];omega
  intro xs;have:=aux (xs:=xs) (O:=[]);unfold EV;simp only [List.length_nil] at this;omega
end
end Go.Sh
namespace Go.Proofs.YtgcemienebmdeaaGreat
open Go Go.Sl Go.Sh
set_option maxRecDepth 100000
noncomputable def c_EqualDebts_ct (p:List Nat):Code:=sub (AP Tryz.f34) p
theorem EqualDebts_ct (I:Imm) (a:Value) (xs:List Debt) (b:Value) (ys:List Debt) (a_f:IsDebts I a xs) (b_f:IsDebts I b ys):CtV Tryz.prog 34 #[a,b] I (.bool (decide (xs=ys))):=by
 obtain ⟨a0,a1,b1,b4,a9,b2,b3,a7⟩:=id a_f;subst a9;obtain ⟨a2,a3,b5,b8,b0,b6,b7,a8⟩:=id b_f;subst b0;refine fr (args:=[_,_]) (N:=26) Tryz.func34 (fun F=>?_);show Run _ _ (c_EqualDebts_ct []) _ _ [(0,vS a0 xs.length a1),(1,vS a2 ys.length a3)] _ _;refine rnm (rqr ?_);refine sp 1 [(4,.bool (false))] (se (rq (rqr (sp 5 [(10,.bool (!(cmp .eql (↑(xs.length)) (↑(ys.length)))))] (se (rc 10 rfl (fun h1=>?_) (fun h1=>?_)))))))
 ·
  have a4:=h1;have h1:=BV (CT h1);refine rqr (sp 1 [(4,.bool (false))] (se (BL ((RP (AH (t:=4) [] (by kernel_rfl) rfl (TR _) (IR _) ?_))))));exact ⟨by rw [decide_eq_false (fun e=>h1 (by rw [e]))],rfl⟩
 have a4:=h1;have h1:=BW (CS h1);refine AQ (NX (rq (rqr (sp 1 [(5,vI (0))] (se (rb 0 ?_))))));refine rl (fun mz a w=>∃ k:Nat,(k≤xs.length)∧(xs.length=ys.length)∧(xs.take k=ys.take k)∧Slots 26 [(5,vI ↑k),(0,vS a0 xs.length a1),(1,vS a2 ys.length a3)] a∧a.defers=[]∧St I (F) w∧mz=xs.length-k) ?_ ?_
 ·intro a w hS hD hW;exact ⟨_,0,Nat.zero_le _,by omega,rfl,hS.sub (.cons 5 rfl (.cons 0 rfl (.cons 1 rfl (.nil _)))),hD,hW,rfl⟩
 rintro mz a w ⟨k,hk,hl,ht,hS,hD,hW,rfl⟩
 refine AV hS hD hW ?_;clear hS hD hW a w;refine rq (rqr (sp 4 [(14,.bool (cmp .lss (↑k) (↑(xs.length))))] (se (rc 14 rfl (fun h2=>?_) (fun h2=>?_)))))
 ·
  have a5:=h2;have h2:=CV h2;refine AQ (NX (rq (rb 1 (rq ?_))));refine rd0 8 (ox 2 [(18,vI (↑k)),(17,vS a0 xs.length a1)] ?_);refine AE (di 19 3 (k) a7.addr) ?_;refine AE (CP (x:=(.tmp 19)) (T:=61) (n:=3) (vs:=[vI ((xs.getD (k) CY).who),vI ((xs.getD (k) CY).sort),vI ((xs.getD (k) CY).amt)]) (d:=20) (ty:=61) (gd:=none) (by kernel_rfl) rfl (by kernel_rfl) (by kernel_rfl) rfl rfl (EH (vals:=HS) (fun _=>rfl) a7 (k) (by omega))) (ox 2 [(22,vI (↑k)),(21,vS a2 ys.length a3)] ?_);refine AE (di 23 3 (k) a8.addr) ?_;refine AE (CP (x:=(.tmp 23)) (T:=61) (n:=3) (vs:=[vI ((ys.getD (k) CY).who),vI ((ys.getD (k) CY).sort),vI ((ys.getD (k) CY).amt)]) (d:=24) (ty:=61) (gd:=none) (by kernel_rfl) rfl (by kernel_rfl) (by kernel_rfl) rfl rfl (EH (vals:=HS) (fun _=>rfl) a8 (k) (by omega))) ?_;refine BF (sd (LG (L:=[(0,.i .i64),(1,.i .i64),(2,.i .i64)]) (x:=(.tmp 20)) (y:=(.tmp 24)) (T:=61) (T':=61) (d:=25) (ty:=4) (gd:=none) (by kernel_rfl) rfl (by kernel_rfl) rfl rfl rfl (eqDebt (xs.getD (k) CY) (ys.getD (k) CY))) (se (rc 25 rfl (fun h3=>?_) (fun h3=>?_))))
  ·
   have a6:=h3;have h3:=dec_f (CT h3);refine rqr (sp 1 [(4,.bool (false))] (se (BL ((RB (RP (RP (RB (RP (AH (t:=4) [] (by kernel_rfl) rfl (TR _) (IR _) ?_))))))))));exact ⟨by rw [decide_eq_false (getD_ne hl h3)],rfl⟩
  have a6:=h3;have h3:=dec_t (CS h3);refine AQ (NB (NX (rr (sp 1 [(15,vI (↑k))] (sd (da 16 (↑k) (1)) (sp 1 [(5,vI (↑k+1))] (ee ?_)))))));refine AM (xs.length-(k+1)) (by omega) ?_;intro a w hS hD hW;exact ⟨k+1,by omega,hl,KY (d:=CY) hl ht (by omega) h3,hS.sub (.consE 5 rfl rfl (.cons 0 rfl (.cons 1 rfl (.nil _)))),hD,hW,rfl⟩
 have a5:=h2;have h2:=CX h2;refine CL 0 ((EP (EP (EB (NX (rqr (sp 1 [(4,.bool (true))] (se (BL (AH (t:=4) [] (by kernel_rfl) rfl (TR _) (IR _) ?_))))))))));exact ⟨by rw [decide_eq_true (NT hl ht (by omega))],rfl⟩
noncomputable def c_owed1 (p:List Nat):Code:=sub (AP Tryz.f82) p
theorem owed1_ct (I:Imm) (a:Debt) (b:Debt) (hr:PI a∧PI b):CtV Tryz.prog 82 #[.agg #[vI a.who,vI a.sort,vI a.amt],.agg #[vI b.who,vI b.sort,vI b.amt]] I (vI (EZ a b)):=by
 refine fr (args:=[_,_]) (N:=20) Tryz.func82 (fun F=>?_);show Run _ _ (c_owed1 []) _ _ [(0,.agg #[vI (a.who),vI (a.sort),vI (a.amt)]),(1,.agg #[vI (b.who),vI (b.sort),vI (b.amt)])] _ _;refine rnm ?_;obtain ⟨⟨hr1,hr2,hr3,hr4⟩,hr5,hr6,hr7,hr8⟩:=hr;refine rqr (sS (sb 2 61 #[vI (a.who),vI (a.sort),vI (a.amt)] (fun b1=>(sS (sb 3 61 #[vI (b.who),vI (b.sort),vI (b.amt)] (fun b3=>(sp 1 [(4,vI (0))] (se (rq (rqr (sp 1 [(5,vP b1 0)] (sd (dlb 6 1 0 b1 (vI (a.who))) (sp 1 [(7,vP b3 0)] (sd (dlb 8 0 0 b3 (vI (b.who))) (sp 1 [(9,.bool (!(cmp .eql (a.who) (b.who))))] (se (rc 9 rfl (fun h1=>?_) (fun h1=>?_))))))))))))))))))
 ·
  have a0:=h1;have h1:=BV (CT h1);refine rqr (sp 1 [(10,vP b1 0)] (sd (dlb 11 1 0 b1 (vI (a.who))) (sp 1 [(12,vP b3 0)] (sd (dlb 13 0 0 b3 (vI (b.who))) (sd (dsb 14 (a.who) (b.who)) (sp 1 [(4,vI (a.who-b.who))] (se (BL ((RP (AH (t:=4) [] (by kernel_rfl) rfl (TC _ (TC _ (TR _))) (IR _) ?_)))))))))));exact ⟨congrArg (Value.int .i64) (if_pos h1).symm,rfl⟩
 have a0:=h1;have h1:=BW (CS h1);refine AQ (NX (rqr (sp 1 [(15,vP b1 1)] (sd (dlb 16 1 1 b1 (vI (a.sort))) (sp 1 [(17,vP b3 1)] (sd (dlb 18 0 1 b3 (vI (b.sort))) (sd (dsb 19 (a.sort) (b.sort)) (sp 1 [(4,vI (a.sort-b.sort))] (se (BL (AH (t:=4) [] (by kernel_rfl) rfl (TC _ (TC _ (TR _))) (IR _) ?_)))))))))));exact ⟨congrArg (Value.int .i64) (if_neg (fun x=>x h1)).symm,rfl⟩
noncomputable def c_insSortD (p:List Nat):Code:=sub (AP Tryz.f167) p
theorem insSortD_ct (I:Imm) (d:Value) (xs:List Debt) (d_Ms:Seg) (u:Nat) (v:Nat) (d_h:Own 61 3 DC d xs d_Ms) (h0:u=0) (hb:v=xs.length) (hsm:∀ x∈xs,PI x) (hl:xs.length≤1000000):Ct Tryz.prog 167 #[d,vI ↑u,vI ↑v,.func (.func 82) #[] #[]] I (d_Ms) (fun v I' M'=>∃ d_Mt:Seg,v=.tuple #[]∧M'=d_Mt∧Own 61 3 DC d (AD EZ xs) d_Mt):=by
 obtain ⟨a3,a4,c4,c7⟩:=d_h.shape;subst c4;refine fr (args:=[_,_,_,_]) (N:=53) Tryz.func167 (fun F=>?_);show Run _ _ (c_insSortD []) _ _ [(0,vS a3 xs.length a4),(1,vI (↑u)),(2,vI (↑v)),(3,.func (.func 82) #[] #[])] _ _;refine rnm (rqr ?_);refine sp 1 [(10,vI (↑u))] (sd (da 11 (↑u) (1)) (BP 11 rfl (show (vI (↑u+1):Value)=vI (↑(1:Nat)) from congrArg (Value.int .i64) (by omega)) (sp 1 [(8,vI (↑(1:Nat)))] (se (rb 0 ?_)))));refine rl (fun mz a w=>∃ i:Nat,∃ zs:List Debt,∃ a2:Seg,(1≤i)∧(InsI EZ xs zs i)∧(zs.Perm xs)∧(Own 61 3 DC (vS a3 xs.length a4) (zs) a2)∧Slots 53 [(0,(vS a3 xs.length a4)),(8,vI ↑i),(1,vI (↑u)),(2,vI (↑v)),(3,.func (.func 82) #[] #[])] a∧a.defers=[]∧St I ((a2++F)) w∧mz=xs.length-i) ?_ ?_
 ·intro a w hS hD hW;exact ⟨_,1,xs,d_Ms,Nat.le_refl _,InsI.start,PR _,d_h,hS.sub (.cons 0 rfl (.cons 8 rfl (.cons 1 rfl (.cons 2 rfl (.cons 3 rfl (.nil _)))))),hD,hW,rfl⟩
 rintro mz a w ⟨i,zs,a2,c8,b1,c5,a8,hS,hD,hW,rfl⟩
 refine AV hS hD hW ?_;clear hS hD hW a w;have d1:=b1.len;refine rq (rqr (sp 3 [(14,.bool (cmp .lss (↑i) (↑v)))] (se (rc 14 rfl (fun h1=>?_) (fun h1=>?_)))))
 ·
  have c1:=h1;have h1:=CV h1;refine AQ (NX (rq (rb 1 (rqr (sp 2 [(9,vI (↑i))] (se (rb 2 ?_)))))));refine rl (fun mz a w=>∃ j:Nat,∃ ys:List Debt,∃ a0:Seg,(InsAt EZ CY xs ys i j)∧(ys.Perm xs)∧(Own 61 3 DC (vS a3 xs.length a4) (ys) a0)∧Slots 53 [(0,(vS a3 xs.length a4)),(9,vI ↑j),(1,vI (↑u)),(2,vI (↑v)),(3,.func (.func 82) #[] #[]),(8,vI (↑i))] a∧a.defers=[]∧St I ((a0++F)) w∧mz=j+1) ?_ ?_
  ·intro a w hS hD hW;exact ⟨_,i,zs,a2,b1.into (by omega),c5,a8,hS.sub (.cons 0 rfl (.cons 9 rfl (.cons 1 rfl (.cons 2 rfl (.cons 3 rfl (.cons 8 rfl (.nil _))))))),hD,hW,rfl⟩
  rintro mz a w ⟨j,ys,a0,b9,a7,a1,hS,hD,hW,rfl⟩
  refine AV hS hD hW ?_;clear hS hD hW a w;have d0:=b9.len;have c9:=b9.1;refine rq (rq ?_);refine DL (fun a w=>Slots 53 [(0,vS a3 xs.length a4),(1,vI (↑u)),(2,vI (↑v)),(3,.func (.func 82) #[] #[]),(8,vI (↑i)),(9,vI (↑j)),(34,.bool ((cmp .gtr (↑j) (↑u))&&(cmp .lss ((EZ (ys.getD (j) CY) (ys.getD ((↑j-1:Int).toNat) CY))) (0))))] a∧a.defers=[]∧St I ((a0++F)) w) ?_ ?_
  ·
   refine rd0 14 (ox 4 [(21,.bool (cmp .gtr (↑j) (↑u)))] ?_);refine IH 21 (fun h2=>?_) (fun h2=>?_)
   ·
    have a5:=h2;have a5:=LQ a5;refine ox 3 [(24,vI (↑j)),(23,vS a3 xs.length a4),(22,.func (.func 82) #[] #[])] ?_;obtain ⟨d2,b5⟩:=a1.row CY;refine AE (di 25 3 (j) (fun _=>b5.addr (by omega)) (n:=xs.length)) ?_;refine AE (dn 26 (GX (vals:=HS) (fun _=>rfl) b5 (fun x hx=>by simp [hx]) (j) (by omega))) (ox 2 [(28,vI (↑j)),(27,vS a3 xs.length a4)] ?_);refine AE (dsb 29 (↑j) (1)) ?_;obtain ⟨d3,b6⟩:=a1.row CY;refine AE (diI 30 3 (↑j-1) (fun _=>b6.addr (by omega)) (n:=xs.length)) ?_;refine AE (dn 31 (GX (vals:=HS) (fun _=>rfl) b6 (fun x hx=>by simp [hx]) ((↑j-1:Int).toNat) (by omega))) ?_;refine BF (sd (dc 32 (fun I' hI=>(owed1_ct I' (ys.getD (j) CY) (ys.getD ((↑j-1:Int).toNat) CY) (by exact ⟨hsm _ (a7.subset (AX (by omega))),hsm _ (a7.subset (AX (by omega)))⟩) :))) (sp 2 [(34,.bool (cmp .lss ((EZ (ys.getD (j) CY) (ys.getD ((↑j-1:Int).toNat) CY))) (0)))] (ee ?_)));refine AR (fun a w hS hD hW=>⟨hS.sub (.cons 0 rfl (.cons 1 rfl (.cons 2 rfl (.cons 3 rfl (.cons 8 rfl (.cons 9 rfl (.consE 34 rfl (congrArg Value.bool (by simp only [h2,kA,kB,kC,kD,kE,kF,kG,kH,kI,kJ])) (.nil _)))))))),hD,hW⟩)
   have a5:=h2;have a5:=gtr_f a5;refine ox 10 [(31,undef),(26,undef),(22,undef)] ?_;refine BF (sp 3 [(34,.bool (false))] (ee ?_));refine AR (fun a w hS hD hW=>⟨hS.sub (.cons 0 rfl (.cons 1 rfl (.cons 2 rfl (.cons 3 rfl (.cons 8 rfl (.cons 9 rfl (.consE 34 rfl (congrArg Value.bool (by simp only [h2,kA,kB,kC,kD,kE,kF,kG,kH,kI,kJ])) (.nil _)))))))),hD,hW⟩)
  rintro a w ⟨hS,hD,hW⟩
  refine AV hS hD hW ?_;clear hS hD hW a w;refine rc 34 rfl (fun h3=>?_) (fun h3=>?_)
  ·
   have c2:=h3;obtain ⟨b3,b0⟩:=OG h3;have b3:=LQ b3;have b0:=CV b0;refine AQ (NX (rq (rb 3 ?_)));refine rdX (M:=((a0++[]))) (F0:=F) [] 16 [(0,true),(1,true),(2,true),(3,true),(4,true),(5,true),(6,true),(7,true),(8,true),(9,true),(10,true),(11,true),(12,true),(13,true),(14,true),(15,false)] (by simp only [AA,CA,NA,List.append_nil];exact PR _) HM ?_;refine AG (AL (d:=37) (v:=vS a3 xs.length a4) (by kernel_rfl)) ?_;refine AG (AL (d:=38) (v:=vI (↑j)) (by kernel_rfl)) ?_;refine AY (AL (d:=39) (v:=vS a3 xs.length a4) (by kernel_rfl)) ?_;refine AY (AL (d:=40) (v:=vI (↑j)) (by kernel_rfl)) ?_;refine AY (dsb 41 (↑j) (1)) ?_;refine AG (AL (d:=42) (v:=vS a3 xs.length a4) (by kernel_rfl)) ?_;refine AG (AL (d:=43) (v:=vI (↑j)) (by kernel_rfl)) ?_;refine AG (dsb 44 (↑j) (1)) ?_;obtain ⟨d4,b7⟩:=a1.row CY;refine AG (diI 45 3 (↑j-1) (fun _=>b7.addr (by omega)) (n:=xs.length)) ?_;refine AG (dn 46 (GX (vals:=HS) (fun _=>rfl) b7 (fun x hx=>by simp [hx]) ((↑j-1:Int).toNat) (by omega))) ?_;refine AG (AL (d:=47) (v:=vS a3 xs.length a4) (by kernel_rfl)) ?_;refine AG (AL (d:=48) (v:=vI (↑j)) (by kernel_rfl)) ?_;obtain ⟨d5,b8⟩:=a1.row CY;refine AG (di 49 3 (j) (fun _=>b8.addr (by omega)) (n:=xs.length)) ?_;refine AG (dn 50 (GX (vals:=HS) (fun _=>rfl) b8 (fun x hx=>by simp [hx]) (j) (by omega))) ?_;obtain ⟨d6,a9⟩:=a1.row CY;refine AG (di 51 3 (j) (fun _=>a9.addr (by omega)) (n:=xs.length)) ?_;refine DW (Mx:=fun FX=>((a0++FX))) rfl (fun FX=>by simp only [AA,CA,NA,List.append_nil];exact PR _) (fun FX=>?_);refine id (GA (T:=61) (x:=(.tmp 51)) (y:=(.tmp 46)) (rc:=fun i f=>DC ((ys).getD i CY) f) CY (j) (ys.getD ((↑j-1:Int).toNat) CY) (ty:=0) (gd:=none) (by kernel_rfl) rfl a1 a9 (by omega) rfl rfl (by kernel_rfl) rfl (one1_debt _) (PR _) (fun b2 b4=>?_));refine FS (M1:=((b2++[]))) (by simp only [AA,CA,NA,List.append_nil];exact (PR _)) (.wait (by kernel_rfl) (.wait (by kernel_rfl) (.wait (by kernel_rfl) (.wait (by kernel_rfl) (.wait (by kernel_rfl) (.wait (by kernel_rfl) (.wait (by kernel_rfl) (.wait (by kernel_rfl) (.wait (by kernel_rfl) (.wait (by kernel_rfl) (.none (.none (.none (.wait (by kernel_rfl) (.wait (by kernel_rfl) .nil))))))))))))))) ?_;refine FR (AW (M':=((b2++F))) (fun w h=>by simpa only [AA,CA,NA,List.append_nil] using h) (nm ?_));obtain ⟨c6,a6⟩:=b4.row CY;simp only [LS] at a6;refine sd (diI 52 3 (↑j-1) (fun _=>a6.addr (by omega)) (n:=xs.length)) (sS (GA (T:=61) (x:=(.tmp 52)) (y:=(.tmp 50)) (rc:=fun i f=>DC ((ys.set (j) (ys.getD ((↑j-1:Int).toNat) CY)).getD i CY) f) CY ((↑j-1:Int).toNat) (ys.getD (j) CY) (ty:=0) (gd:=none) (by kernel_rfl) rfl b4 (by simpa only [LS] using a6) (by simp only [LS];omega) rfl rfl (by kernel_rfl) rfl (one1_debt _) (PR _) (fun c0 c3=>(nm (ee (NB (NX (rr ?_))))))));refine sp 1 [(35,vI (↑j))] (sd (dsb 36 (↑j) (1)) (sp 1 [(9,vI (↑j-1))] (ee ?_)));refine AM ((↑j-1:Int).toNat+1) (by omega) ?_;intro a w hS hD hW;exact ⟨(↑j-1:Int).toNat,(ys.set (j) (ys.getD ((↑j-1:Int).toNat) CY)).set ((↑j-1:Int).toNat) (ys.getD (j) CY),c0,b9.step (by omega) b0,(swapG (by omega) (by omega)).trans a7,c3,hS.sub (.consE 0 rfl rfl (.consE 9 rfl (congrArg (Value.int .i64) (by omega)) (.cons 1 rfl (.cons 2 rfl (.cons 3 rfl (.cons 8 rfl (.nil _))))))),hD,hW,rfl⟩
  have c2:=h3;refine CL 2 ((EP (EP (EB (NB (NX (rr (sp 1 [(15,vI (↑i))] (sd (da 16 (↑i) (1)) (sp 1 [(8,vI (↑i+1))] (ee ?_)))))))))));refine AM (xs.length-(i+1)) (by omega) ?_;intro a w hS hD hW;exact ⟨i+1,ys,a0,by omega,b9.done2 h0 h3,a7,a1,hS.sub (.consE 0 rfl rfl (.consE 8 rfl rfl (.cons 1 rfl (.cons 2 rfl (.cons 3 rfl (.nil _)))))),hD,hW,rfl⟩
 have c1:=h1;have h1:=CX h1;refine CL 0 ((EP (EP (EB ?_))));refine EQ (a2) (by kernel_rfl) (TA (TR _) _) (IR _) ?_;exact ⟨_,rfl,rfl,((b1.done (by omega))▸a8)⟩
noncomputable def c_stableD (p:List Nat):Code:=sub (AP Tryz.f152) p
theorem stableD_ct (I:Imm) (d:Value) (xs:List Debt) (d_Ms:Seg) (v:Nat) (d_h:Own 61 3 DC d xs d_Ms) (hb:v=xs.length) (hsm:∀ x∈xs,PI x) (hl:xs.length<20):Ct Tryz.prog 152 #[d,vI ↑v,.func (.func 82) #[] #[]] I (d_Ms) (fun v I' M'=>∃ d_Mt:Seg,v=.tuple #[]∧M'=d_Mt∧Own 61 3 DC d (AD EZ xs) d_Mt):=by
 obtain ⟨a1,a2,a9,b2⟩:=d_h.shape;subst a9;refine fr (args:=[_,_,_]) (N:=63) Tryz.func152 (fun F=>?_);show Run _ _ (c_stableD []) _ _ [(0,vS a1 xs.length a2),(1,vI (↑v)),(2,.func (.func 82) #[] #[])] _ _;refine rnm (rqr ?_);refine sp 1 [(6,vI (20))] (sn (sp 3 [(8,vI (20)),(7,vI (0))] (se (rq (rb 0 ?_)))));refine rl (fun mz a w=>∃ k:Nat,(k=0)∧Slots 63 [(7,vI (0)),(8,vI (20)),(0,vS a1 xs.length a2),(1,vI (↑v)),(2,.func (.func 82) #[] #[]),(6,vI (20))] a∧a.defers=[]∧St I ((d_Ms++F)) w∧mz=k+1) ?_ ?_
 ·intro a w hS hD hW;exact ⟨_,0,rfl,hS.sub (.cons 7 rfl (.cons 8 rfl (.cons 0 rfl (.cons 1 rfl (.cons 2 rfl (.cons 6 rfl (.nil _))))))),hD,hW,rfl⟩
 rintro mz a w ⟨k,b0,hS,hD,hW,rfl⟩
 refine AV hS hD hW ?_;clear hS hD hW a w;refine rq (rqr (sp 3 [(13,.bool (cmp .leq (↑(20:Nat)) (↑v)))] (se (rc 13 rfl (fun h1=>?_) (fun h1=>?_)))))
 ·
  have a3:=h1;have h1:=leq_t h1;omega
 have a3:=h1;have h1:=leq_f h1;refine CL 0 ((EP (EP (EB (NX (rqr (sp 4 [(26,.func (.func 82) #[] #[]),(25,vI (↑v)),(24,vI (↑(0:Nat))),(23,vS a1 xs.length a2)] (sS (sc (some 27) (F:=(F)) (insSortD_ct _ _ _ _ (0) (v) d_h (by rfl) (by omega) (by exact hsm) (by omega) :) (.refl _) (fun b4 I1 b3 a5 b1=>?_))))))))));obtain ⟨a0,a8,a7,a6⟩:=b1;rw [a8,a7];clear a8 a7;refine nm (se (rb 2 ?_));refine rl (fun mz a w=>∃ k:Nat,(k=0)∧Slots 63 [(6,vI (20)),(0,vS a1 xs.length a2),(1,vI (↑v)),(2,.func (.func 82) #[] #[])] a∧a.defers=[]∧St I1 ((a0++F)) w∧mz=k+1) ?_ ?_
 ·intro a w hS hD hW;exact ⟨_,0,rfl,hS.sub (.cons 6 rfl (.cons 0 rfl (.cons 1 rfl (.cons 2 rfl (.nil _))))),hD,hW,rfl⟩
 rintro mz a w ⟨k,b0,hS,hD,hW,rfl⟩
 refine AV hS hD hW ?_;clear hS hD hW a w;refine rq (rqr (sp 3 [(30,.bool (cmp .lss (↑(20:Nat)) (↑v)))] (se (rc 30 rfl (fun h2=>?_) (fun h2=>?_)))))
 ·
  have a4:=h2;have h2:=CV h2;omega
 have a4:=h2;have h2:=CX h2;refine CL 2 ((EP (EP (EB ?_))));refine EQ (a0) (by kernel_rfl) (TA (TR _) _) a5 ?_;exact ⟨_,rfl,rfl,a6⟩
noncomputable def c_SortStableD (p:List Nat):Code:=sub (AP Tryz.f135) p
theorem SortStableD_ct (I:Imm) (d:Value) (xs:List Debt) (d_Ms:Seg) (d_h:Own 61 3 DC d xs d_Ms) (hsm:∀ x∈xs,PI x) (hl:xs.length<20):Ct Tryz.prog 135 #[d,.func (.func 82) #[] #[]] I (d_Ms) (fun v I' M'=>∃ d_Mt:Seg,v=.tuple #[]∧M'=d_Mt∧Own 61 3 DC d (AD EZ xs) d_Mt):=by
 obtain ⟨a3,a4,a7,a9⟩:=d_h.shape;subst a7;refine fr (args:=[_,_]) (N:=9) Tryz.func135 (fun F=>?_);show Run _ _ (c_SortStableD []) _ _ [(0,vS a3 xs.length a4),(1,.func (.func 82) #[] #[])] _ _;refine rnm (rr ?_);refine sp 4 [(7,.func (.func 82) #[] #[]),(6,vI (↑(xs.length))),(4,vS a3 xs.length a4)] (sS (sc (some 8) (F:=(F)) (stableD_ct _ _ _ _ (xs.length) d_h (by rfl) (by exact hsm) (by omega) :) (.refl _) (fun b1 I1 b0 a1 a8=>?_)));obtain ⟨a0,a6,a5,a2⟩:=a8;rw [a6,a5];clear a6 a5;refine nm (ee ?_);refine EQ (a0) (by kernel_rfl) (TA (TR _) _) a1 ?_;exact ⟨_,rfl,rfl,a2⟩
noncomputable def c_CloneDebt (p:List Nat):Code:=sub (AP Tryz.f134) p
theorem CloneDebt_ct (I:Imm) (z:Value) (xs:List Debt) (z_f:IsDebts I z xs) (hl:xs.length≤1000000):Ct Tryz.prog 134 #[z] I ([]) (fun v I' M'=>∃ u:Value,∃ Ms:Seg,v=u∧M'=Ms∧Own 61 3 DC u (xs) Ms):=by
 obtain ⟨a2,a3,b3,b6,a9,b4,b5,b0⟩:=id z_f;subst a9;refine fr (args:=[_]) (N:=8) Tryz.func134 (fun F=>?_);show Run _ _ (c_CloneDebt []) _ _ [(0,vS a2 xs.length a3)] _ _;refine rnm (rqr ?_);refine sp 1 [(2,vN)] (se (rq (rqr (sp 1 [(3,vS a2 xs.length a3)] (sd (MT (e:=61) (x:=(.tmp 3)) (y:=(.const (vN))) (T:=53) (T':=53) (d:=4) (ty:=4) (gd:=none) (by kernel_rfl) rfl (by kernel_rfl) rfl rfl) (se (rc 4 rfl (fun h1=>?_) (fun h1=>?_))))))))
 ·
  have a0:=h1;refine rqr (sp 1 [(2,vN)] (se (BL ((RP ?_)))));obtain rfl:=b0.nil h1;refine AH (t:=2) ([]) (by kernel_rfl) rfl (TR _) (IR _) ?_;exact ⟨_,_,rfl,rfl,Own.nil _ _ _⟩
 have a0:=h1;refine AQ (NX (rqr (sS (sbs 5 61 0 #[] (fun b1=>(sp 1 [(6,vS a2 xs.length a3)] ?_))))));have a5:Own 61 3 DC (vS (some ⟨b1,0,none⟩) 0 0) ([]:List Debt) [(bX b1 #[] 61)]:=Own.lit rfl rfl;refine sS (AZ (d:=7) (x:=(.tmp 5)) (y:=(.tmp 6)) (T:=53) (T':=53) (E:=61) (E':=61) (sz:=3) (bs:=24) (z:=.agg #[vI (0),vI (0),vI (0)]) (cell:=DC) (xs:=([]:List Debt)) (ys:=xs) (Ms:=[(bX b1 #[] 61)]) (ty:=53) (gd:=none) (by kernel_rfl) rfl (by kernel_rfl) (by kernel_rfl) (by kernel_rfl) (by kernel_rfl) (by kernel_rfl) (by decide) (by kernel_rfl) rfl rfl (a5) (PR _) (QB _) z_f.src (by first | omega | (simp only [LC,LN,LA,LK,LD];omega)) (fun v4 a4 a1=>?_));rw [NA] at a1;refine nm ?_;obtain ⟨a6,a7,a8,b2⟩:=a1.shape;subst a8;refine sp 1 [(2,vS a6 xs.length a7)] (se (BL (AH (t:=2) (a4) (by kernel_rfl) rfl (TA (TR _) _) (IR _) ?_)));exact ⟨_,_,rfl,rfl,a1⟩
noncomputable def c_sortedD (p:List Nat):Code:=sub (AP Tryz.f81) p
theorem sortedD_ct (I:Imm) (s:Value) (xs:List Debt) (s_f:IsDebts I s xs) (hsm:∀ x∈xs,PI x) (hl:xs.length<20):Ct Tryz.prog 81 #[s,.func (.func 82) #[] #[]] I ([]) (fun v I' M'=>∃ u:Value,∃ Ms:Seg,v=u∧M'=Ms∧Own 61 3 DC u (AD EZ xs) Ms):=by
 obtain ⟨b3,b4,c4,c7,b9,c5,c6,c8⟩:=id s_f;subst b9;refine fr (args:=[_,_]) (N:=12) Tryz.func81 (fun F=>?_);show Run _ _ (c_sortedD []) _ _ [(0,vS b3 xs.length b4),(1,.func (.func 82) #[] #[])] _ _;refine rnm (rqr ?_);refine sp 1 [(4,vN)] (sn (sp 1 [(6,vS b3 xs.length b4)] (sS (sc (some 7) (CloneDebt_ct _ _ _ s_f (by omega) :) (.refl _) (fun c3 I1 b6 a7 b5=>?_)))));obtain ⟨u6,c2,b1,b0,b2⟩:=b5;rw [b1,b0];clear b1 b0;obtain ⟨a1,a2,a9,c0⟩:=b2.shape;subst a9;refine nm ?_;refine sp 1 [(5,vS a1 xs.length a2)] (sn (sp 2 [(9,.func (.func 82) #[] #[]),(8,vS a1 xs.length a2)] (sS (sc (some 10) (F:=(F)) (SortStableD_ct _ _ _ _ b2 (by exact hsm) (by omega) :) (.refl _) (fun b8 c1 b7 a3 a8=>?_)))));obtain ⟨a0,a5,a4,a6⟩:=a8;rw [a5,a4];clear a5 a4;refine nm (sn ?_);refine sp 2 [(4,vS a1 xs.length a2)] (se (BL (AH (t:=4) (a0) (by kernel_rfl) rfl (TA (TR _) _) (IT a7 a3) ?_)));exact ⟨_,_,rfl,rfl,a6⟩
noncomputable def c_LOwed (p:List Nat):Code:=sub (AP Tryz.f32) p
theorem LOwed_ct (I:Imm) (l:Value) (L:Lin) (l_f:IsLin I l L):Ct Tryz.prog 32 #[l] I ([]) (fun v I' M'=>∃ u0:Value,∃ Ms0:Seg,v=.tuple #[u0,vI ((JH L).2)]∧M'=Ms0∧Own 61 3 DC u0 ((JH L).1) Ms0):=by
 obtain ⟨l1,l2,l3,p2,e5,e6,e7⟩:=id l_f;subst p2;obtain ⟨a3,a4,n6,n9,n0,m0,n7,n8,o0,o1⟩:=id e5;subst m0;obtain ⟨a5,a6,o2,o5,m1,o3,o4,o6⟩:=id e6;subst m1;obtain ⟨a7,a8,o7,p0,m2,o8,o9,p1⟩:=id e7;subst m2;refine HF (fn:=Tryz.f32) (args:=[_]) (N:=62) Tryz.func32 rfl (by kernel_rfl) (Nat.le_of_ble_eq_true rfl) (fun F=>?_);show Run _ _ (c_LOwed []) _ _ [(0,.agg #[vI (L.places),vI (L.sorts),vS a3 L.start.length a4,vS a5 L.keeps.length a6,vS a7 L.slips.length a8])] _ _;refine rnm (rqr ?_);refine sS (sb 1 26 #[vI (L.places),vI (L.sorts),vS a3 L.start.length a4,vS a5 L.keeps.length a6,vS a7 L.slips.length a8] (fun b1=>(sp 2 [(3,vI (0)),(2,vN)] (se (rq (rqr (sd (dnb 10 0 0 b1 [vI (L.places),vI (L.sorts),vS a3 L.start.length a4,vS a5 L.keeps.length a6,vS a7 L.slips.length a8]) (sd (dc 11 (fun I' hI=>(GS I' _ (L) ((CR e5 e6 e7).mono hI) :))) (sp 1 [(4,vI ((AN L)))] (sn (sp 2 [(13,.bool (!(cmp .eql ((AN L)) (0))))] (se (rc 13 rfl (fun h1=>?_) (fun h1=>?_))))))))))))))
 ·
  have l6:=h1;have h1:=BV (CT h1);refine rqr (sp 3 [(3,vI ((AN L))),(2,vN)] (se (BL ((RP ?_)))));have hE:=owedE_1 (L:=L) h1;refine DY (R:=((bX b1 #[vI (L.places),vI (L.sorts),vS a3 L.start.length a4,vS a5 L.keeps.length a6,vS a7 L.slips.length a8] 26)::F)) [] (.inl rfl) (PR _) (CN (t:=2) (u:=3) ([]) (by kernel_rfl) rfl rfl (TC _ (TR _)) (IR _) ?_);exact ⟨_,_,(by rw [hE]),rfl,((show []=(JH L).1 from by rw [hE])▸Own.nil _ _ _)⟩
 have l6:=h1;have h1:=BW (CS h1);refine AQ (NX (rq ?_));have hz:AN L=0:=by omega
 have hg:=HU hz;have q8:=lack_count hg;refine rr (sS (IK (d:=15) (T:=118) (ty:=118) (gd:=none) (by kernel_rfl) rfl (fun b3=>(sS (sal 5 118 #[.map none] (fun b5=>(sS (ss 0 0 b5 [.map (some b3)] [.map (some b3)] (_::_::_::_) (cs:=[_]) rfl rfl (se (rq (rqr (sd (dnb 16 2 0 b1 [vI (L.places),vI (L.sorts),vS a3 L.start.length a4,vS a5 L.keeps.length a6,vS a7 L.slips.length a8]) (sS (sc (some 17) (OU _ _ (L) (CR e5 e6 e7) :) (.refl _) (fun p7 I7 p4 l7 n3=>?_)))))))))))))));obtain ⟨n1,q0,q1,q2,m6,k5,k4,g3,f8,m4,m5⟩:=n3;rw [g3,f8];clear g3 f8;have b7:=m4;obtain ⟨a1,d2,d4,d6⟩:=id b7;obtain ⟨i2,i4,i3,i7,h6,d1,i5,i6,i8,i9⟩:=id d2;subst d1;obtain ⟨j0,j2,j1,j5,d3,j3,j4,j6⟩:=id d4;subst d3;obtain ⟨j7,j9,j8,k2,d5,k0,k1,k3⟩:=id d6;subst d5;refine nm ?_;refine sS (sc (some 18) (gaps_ct _ (n1) :) (.refl _) (fun p8 q3 p5 c0 l8=>?_));obtain ⟨e9,g4,f9,b0⟩:=l8;rw [g4,f9];clear g4 f9;replace b7:=b7.mono c0;replace a1:=c0.blk _ _ a1;refine nm (se (rb 0 ?_))
 refine LX (α:=EvH) (β:=EvH × (Option Addr × Nat)) (pr:=Prod.fst) (E:=fun x I=>CD I (vS x.2.1 x.1.2.length x.2.2) x.1.2) (g:=(.tmp 18)) (ps:=#[19]) (assign:=c_LOwed [1,1,1,0,1,0,0]) (body:=c_LOwed [1,1,1,0,1,0,1]) (gf:=130) (cv:=[vP e9 0]) (enc:=encEvH) (seq:=EN L) (R:=fun _ M=>∃ es cl,M=[(m6,Obj.map es cl)]∧MapH es cl (EE L)) (Mr:=[(m6,Obj.map k5 k4)]) (M0:=((bX b5 #[.map (some b3)] 118)::(b3,Obj.map #[] 0)::[])) (F0:=((bX b1 #[vI (L.places),vI (L.sorts),vS a3 L.start.length a4,vS a5 L.keeps.length a6,vS a7 L.slips.length a8] 26)::F))
  (fun xs I M=>∃ es cl,M=[(bX b5 #[.map (some b3)] 118),(b3,Obj.map es cl)]∧MapO es cl (EV xs)) (fun _ _ _ _=>False) (fun x k=>[(2,vN),(3,vI (0)),(5,vP b5 0),(6,vP k 0)]) (fun x k=>[(bX k #[vI (x.1.1.slip.num),vI (x.1.1.slip.hour),vI (x.1.1.slip.kind),vI (x.1.1.slip.place),vI (x.1.1.slip.to),vI (x.1.1.slip.sort),.bool (x.1.1.slip.soil),vI (x.1.1.slip.amt),vI (x.1.1.gap),.bool (x.1.1.below),vS x.2.1 x.1.2.length x.2.2] 115)])
  (by kernel_rfl) rfl (by kernel_rfl) (fun _=>rfl) (by kernel_rfl) (gaps1_iter _ n1 e9 m6 _ _ _ L b7 b0 hg) (fun xs I J M _ h=>h) (by simpa only [AA,CA,NA] using (PR _)) ⟨_,_,rfl,m5⟩ ⟨_,_,rfl,(MapO.nil _)⟩ ?_ ?_ ?_ ?_
 ·intro Lq x I1 M1;refine MK (l':=[(2,vN),(3,vI (0)),(5,vP b5 0),(19,.agg #[vI (x.1.1.slip.num),vI (x.1.1.slip.hour),vI (x.1.1.slip.kind),vI (x.1.1.slip.place),vI (x.1.1.slip.to),vI (x.1.1.slip.sort),.bool (x.1.1.slip.soil),vI (x.1.1.slip.amt),vI (x.1.1.gap),.bool (x.1.1.below),vS x.2.1 x.1.2.length x.2.2])]) (.cons 2 rfl (.cons 3 rfl (.cons 5 rfl (.cons 19 rfl (.nil _))))) (rr (sS (sal 6 115 #[vI (0),vI (0),vI (0),vI (0),vI (0),vI (0),.bool (false),vI (0),vI (0),.bool (false),vN] (fun m7=>(sS (ss 0 0 m7 [vI (x.1.1.slip.num),vI (x.1.1.slip.hour),vI (x.1.1.slip.kind),vI (x.1.1.slip.place),vI (x.1.1.slip.to),vI (x.1.1.slip.sort),.bool (x.1.1.slip.soil),vI (x.1.1.slip.amt),vI (x.1.1.gap),.bool (x.1.1.below),vS x.2.1 x.1.2.length x.2.2] [vI (x.1.1.slip.num),vI (x.1.1.slip.hour),vI (x.1.1.slip.kind),vI (x.1.1.slip.place),vI (x.1.1.slip.to),vI (x.1.1.slip.sort),.bool (x.1.1.slip.soil),vI (x.1.1.slip.amt),vI (x.1.1.gap),.bool (x.1.1.below),vS x.2.1 x.1.2.length x.2.2] (_::_) (cs:=[_,_,_,_,_,_,_,_,_,_,_]) rfl rfl (ee ?_)))))));exact AR (fun a w hS hD hW=>⟨m7,hS.sub (.cons 2 rfl (.cons 3 rfl (.cons 5 rfl (.cons 6 rfl (.nil _))))),hD,hW⟩)
 ·intro Lq x k xs I1 Mr1 M1 F1 hpre hle1 hR1 hC1;replace a1:=hle1.blk _ _ a1;replace b0:=hle1.blk _ _ b0;obtain ⟨e1,e0,rfl,e4⟩:=hC1;obtain ⟨qa,qc,qb,qo,qe,ql,qm,qr⟩:=id hR1;simp only [Value.slice.injEq,true_and] at qe;obtain ⟨rfl,rfl⟩:=qe;have m9:∀ q∈xs++[x.1],q∈EN L:=fun q hq=>hpre.subset hq
  have n5:=hpre.length_le;simp only [LA,LC,LN] at n5;have r0:=lack_all hg (m9 x.1 (by simp));have q9:=owes_bound (k:=⟨x.1.2.getD 0 0,x.1.1.slip.sort,0⟩) hg (xs:=xs) (fun q hq=>m9 q (by simp [hq]));refine GK (M':=((bX k #[vI (x.1.1.slip.num),vI (x.1.1.slip.hour),vI (x.1.1.slip.kind),vI (x.1.1.slip.place),vI (x.1.1.slip.to),vI (x.1.1.slip.sort),.bool (x.1.1.slip.soil),vI (x.1.1.slip.amt),vI (x.1.1.gap),.bool (x.1.1.below),vS x.2.1 x.1.2.length x.2.2] 115)::(Mr1++(bX b5 #[.map (some b3)] 118)::(b3,Obj.map e1 e0)::F1))) (fun w h=>by simpa only [AA,CA,NA] using h) ?_;refine rpm (M':=((bX k #[vI (x.1.1.slip.num),vI (x.1.1.slip.hour),vI (x.1.1.slip.kind),vI (x.1.1.slip.place),vI (x.1.1.slip.to),vI (x.1.1.slip.sort),.bool (x.1.1.slip.soil),vI (x.1.1.slip.amt),vI (x.1.1.gap),.bool (x.1.1.below),vS x.2.1 x.1.2.length x.2.2] 115)::(bX b5 #[.map (some b3)] 118)::(b3,Obj.map e1 e0)::(Mr1++F1))) (PC _ (PW PM)) (rb 1 (rq ?_));refine DL (fun a w=>Slots 62 [(2,vN),(3,vI (0)),(5,vP b5 0),(6,vP k 0),(29,.bool ((cmp .lss (x.1.1.gap) (0))&&(cmp .eql (↑(x.1.2.length)) (1))))] a∧a.defers=[]∧St I1 ((bX k #[vI (x.1.1.slip.num),vI (x.1.1.slip.hour),vI (x.1.1.slip.kind),vI (x.1.1.slip.place),vI (x.1.1.slip.to),vI (x.1.1.slip.sort),.bool (x.1.1.slip.soil),vI (x.1.1.slip.amt),vI (x.1.1.gap),.bool (x.1.1.below),vS x.2.1 x.1.2.length x.2.2] 115)::(bX b5 #[.map (some b3)] 118)::(b3,Obj.map e1 e0)::(Mr1++F1)) w) ?_ ?_
  ·
   refine rr (sp 2 [(21,vP k 8)] (sd (dlb 22 0 8 k (vI (x.1.1.gap))) (sp 2 [(24,.bool (cmp .lss (x.1.1.gap) (0)))] ?_)));refine BS 24 rfl (fun h2=>?_) (fun h2=>?_)
   ·
    have b9:=h2;have b9:=CV b9;refine sp 1 [(25,vP k 10)] (sd (dlb 26 0 10 k (vS x.2.1 x.1.2.length x.2.2)) (sp 3 [(29,.bool (cmp .eql (↑(x.1.2.length)) (1)))] (ee ?_)));refine AR (fun a w hS hD hW=>⟨hS.sub (.cons 2 rfl (.cons 3 rfl (.cons 5 rfl (.cons 6 rfl (.consE 29 rfl (congrArg Value.bool (by simp only [h2,kA,kB,kC,kD,kE,kF,kG,kH,kI,kJ])) (.nil _)))))),hD,hW⟩)
   have b9:=h2;have b9:=CX b9;refine sp 5 [(29,.bool (false))] (ee ?_);refine AR (fun a w hS hD hW=>⟨hS.sub (.cons 2 rfl (.cons 3 rfl (.cons 5 rfl (.cons 6 rfl (.consE 29 rfl (congrArg Value.bool (by simp only [h2,kA,kB,kC,kD,kE,kF,kG,kH,kI,kJ])) (.nil _)))))),hD,hW⟩)
  rintro a w ⟨hS,hD,hW⟩
  refine AV hS hD hW ?_;clear hS hD hW a w;refine rc 29 rfl (fun h3=>?_) (fun h3=>?_)
  ·
   have e3:=h3;obtain ⟨f3,f4⟩:=OG h3;have f3:=CV f3;have f4:=BW f4;refine rdX (M:=((bX k #[vI (x.1.1.slip.num),vI (x.1.1.slip.hour),vI (x.1.1.slip.kind),vI (x.1.1.slip.place),vI (x.1.1.slip.to),vI (x.1.1.slip.sort),.bool (x.1.1.slip.soil),vI (x.1.1.slip.amt),vI (x.1.1.gap),.bool (x.1.1.below),vS x.2.1 x.1.2.length x.2.2] 115)::(bX b5 #[.map (some b3)] 118)::(b3,Obj.map e1 e0)::(Mr1++[]))) (F0:=F1) [] 17 [(0,true),(1,true),(2,true),(3,true),(4,true),(5,true),(6,true),(7,true),(8,true),(9,true),(10,true),(11,true),(12,true),(13,true),(14,true),(15,false),(16,true)] (by simp only [AA,CA,NA,List.append_nil];exact PR _) HM ?_;refine AG (dlb 30 1 0 b5 (.map (some b3))) ?_;refine AG (AL (d:=31) (v:=vP k 10) (by kernel_rfl)) ?_;refine AG (dlb 32 0 10 k (vS x.2.1 x.1.2.length x.2.2)) ?_;refine AG (di 33 1 (0) qr.addr) ?_;refine AG (dl 34 (DD qr (0) (by omega))) ?_;refine AG (AL (d:=35) (v:=vP k 0) (by kernel_rfl)) ?_;refine AG (AL (d:=36) (v:=vP k 0) (by kernel_rfl)) ?_;refine AG (AL (d:=37) (v:=vP k 5) (by kernel_rfl)) ?_;refine AG (dlb 38 0 5 k (vI (x.1.1.slip.sort))) ?_;refine AG (AL (d:=39) (v:=.agg #[vI (x.1.2.getD (0) 0),vI (x.1.1.slip.sort),vI (0)]) (by kernel_rfl)) ?_;refine HW (LkPr b3 encO (⟨x.1.2.getD (0) 0,x.1.1.slip.sort,0⟩:Debt) (vI 0) (vI (QR (⟨x.1.2.getD (0) 0,x.1.1.slip.sort,0⟩:Debt) (EV xs)))) (JW e4.1 (OO (⟨x.1.2.getD (0) 0,x.1.1.slip.sort,0⟩:Debt) (EV xs))) ((PC _ (PS _ _ _)).trans (PS _ _ _)) (FA (x:=(.tmp 30)) (y:=(.tmp 39)) (T:=118) (kt:=61) (et:=3) (k:=(⟨x.1.2.getD (0) 0,x.1.1.slip.sort,0⟩:Debt)) (z:=vI 0) (d:=40) (ty:=3) (gd:=none) (by kernel_rfl) rfl (by kernel_rfl) (keyOk_debt (by kernel_rfl) (by kernel_rfl)) rfl rfl (by kernel_rfl)) ?_;refine AG (AL (d:=41) (v:=vP k 0) (by kernel_rfl)) ?_;refine AG (AL (d:=42) (v:=vP k 8) (by kernel_rfl)) ?_;refine AG (dlb 43 0 8 k (vI (x.1.1.gap))) ?_;refine AY (dsb 44 (QR (⟨x.1.2.getD (0) 0,x.1.1.slip.sort,0⟩:Debt) (EV xs)) (x.1.1.gap)) ?_;refine DW (Mx:=fun FX=>((bX k #[vI (x.1.1.slip.num),vI (x.1.1.slip.hour),vI (x.1.1.slip.kind),vI (x.1.1.slip.place),vI (x.1.1.slip.to),vI (x.1.1.slip.sort),.bool (x.1.1.slip.soil),vI (x.1.1.slip.amt),vI (x.1.1.gap),.bool (x.1.1.below),vS x.2.1 x.1.2.length x.2.2] 115)::(bX b5 #[.map (some b3)] 118)::(b3,Obj.map e1 e0)::(Mr1++FX))) rfl (fun FX=>by simp only [AA,CA,NA,List.append_nil];exact PR _) (fun FX=>?_);refine id (stp_entO (d:=45) (x:=(.tmp 30)) (y:=(.tmp 39)) (T:=118) (kt:=61) (et:=3) (k:=(⟨x.1.2.getD (0) 0,x.1.1.slip.sort,0⟩:Debt)) (H:=EV xs) 2 (ty:=0) (gd:=none) (by kernel_rfl) rfl (by kernel_rfl) (keyOk_debt (by kernel_rfl) (by kernel_rfl)) rfl rfl (by kernel_rfl) rfl e4 (fun f1 c7 g9 d7=>?_));refine FS (M1:=((bX k #[vI (x.1.1.slip.num),vI (x.1.1.slip.hour),vI (x.1.1.slip.kind),vI (x.1.1.slip.place),vI (x.1.1.slip.to),vI (x.1.1.slip.sort),.bool (x.1.1.slip.soil),vI (x.1.1.slip.amt),vI (x.1.1.gap),.bool (x.1.1.below),vS x.2.1 x.1.2.length x.2.2] 115)::(bX b5 #[.map (some b3)] 118)::(b3,Obj.map f1 c7)::(Mr1++[]))) (by simp only [AA,CA,NA,List.append_nil];exact (PR _)) (.none (.wait (by kernel_rfl) (.wait (by kernel_rfl) (.wait (by kernel_rfl) (.other (HV d7.1 rfl (OO (⟨x.1.2.getD (0) 0,x.1.1.slip.sort,0⟩:Debt) (EV xs))) ((PC _ (PS _ _ _)).trans (PS _ _ _)) (.wait (by kernel_rfl) (.wait (by kernel_rfl) (.wait (by kernel_rfl) (.wait (by kernel_rfl) (.wait (by kernel_rfl) (.wait (by kernel_rfl) (.wait (by kernel_rfl) (.wait (by kernel_rfl) (.wait (by kernel_rfl) (.wait (by kernel_rfl) .nil))))))))))))))) ?_;show OFPX _ _ _ _ _ _ _ _ _ _ ((45,.tuple #[vI (QR (⟨x.1.2.getD (0) 0,x.1.1.slip.sort,0⟩:Debt) (EV xs)),vI (↑g9)])::_) _ _;refine AG (AL (d:=46) (v:=vI (↑g9)) (by kernel_rfl)) ?_;refine FR (AW (M':=((bX k #[vI (x.1.1.slip.num),vI (x.1.1.slip.hour),vI (x.1.1.slip.kind),vI (x.1.1.slip.place),vI (x.1.1.slip.to),vI (x.1.1.slip.sort),.bool (x.1.1.slip.soil),vI (x.1.1.slip.amt),vI (x.1.1.gap),.bool (x.1.1.below),vS x.2.1 x.1.2.length x.2.2] 115)::(bX b5 #[.map (some b3)] 118)::(b3,Obj.map f1 c7)::(Mr1++F1))) (fun w h=>by simpa only [AA,CA,NA,List.append_nil] using h) (nm ?_));refine sS (stp_fillO (x:=(.tmp 30)) (y:=(.tmp 46)) (u:=(.tmp 44)) (T:=118) (k:=(⟨x.1.2.getD (0) 0,x.1.1.slip.sort,0⟩:Debt)) (v:=(QR (⟨x.1.2.getD (0) 0,x.1.1.slip.sort,0⟩:Debt) (EV xs))-x.1.1.gap) 2 (ty:=0) (gd:=none) (by kernel_rfl) rfl rfl rfl rfl rfl d7 (fun f2 f6=>(nm (ee (NB ?_)))));refine ppm (M':=((bX k #[vI (x.1.1.slip.num),vI (x.1.1.slip.hour),vI (x.1.1.slip.kind),vI (x.1.1.slip.place),vI (x.1.1.slip.to),vI (x.1.1.slip.sort),.bool (x.1.1.slip.soil),vI (x.1.1.slip.amt),vI (x.1.1.gap),.bool (x.1.1.below),vS x.2.1 x.1.2.length x.2.2] 115)::(Mr1++(bX b5 #[.map (some b3)] 118)::(b3,Obj.map f2 c7)::F1))) (PC _ (PU (PM.symm))) ?_;refine FI (M':=(Mr1++((bX b5 #[.map (some b3)] 118)::(b3,Obj.map f2 c7)::[]))) (IR _) ?_ (by simp only [AA,NA,CA];exact (TC _ (TR _)));exact ⟨_,rfl,⟨_,_,rfl,owes_t e3▸f6⟩⟩
  have e3:=h3;refine AQ (NB (ppm (M':=((bX k #[vI (x.1.1.slip.num),vI (x.1.1.slip.hour),vI (x.1.1.slip.kind),vI (x.1.1.slip.place),vI (x.1.1.slip.to),vI (x.1.1.slip.sort),.bool (x.1.1.slip.soil),vI (x.1.1.slip.amt),vI (x.1.1.gap),.bool (x.1.1.below),vS x.2.1 x.1.2.length x.2.2] 115)::(Mr1++(bX b5 #[.map (some b3)] 118)::(b3,Obj.map e1 e0)::F1))) (PC _ (PU (PM.symm))) ?_));refine FI (M':=(Mr1++((bX b5 #[.map (some b3)] 118)::(b3,Obj.map e1 e0)::[]))) (IR _) ?_ (by simp only [AA,NA,CA];exact (TC _ (TR _)));exact ⟨_,rfl,⟨_,_,rfl,owes_f e3▸e4⟩⟩
 ·intro D I2 Mr2 M2 hle2 hC2;replace a1:=hle2.blk _ _ a1;replace b0:=hle2.blk _ _ b0;obtain ⟨c5,a9,rfl,c8⟩:=hC2;refine JI (M':=((D,Obj.deferred (some []))::(Mr2++(bX b5 #[.map (some b3)] 118)::(b3,Obj.map c5 a9)::(bX b1 #[vI (L.places),vI (L.sorts),vS a3 L.start.length a4,vS a5 L.keeps.length a6,vS a7 L.slips.length a8] 26)::F))) (fun w h=>by simpa only [AA,CA,NA] using h) (ppm (M':=((D,Obj.deferred (some []))::(bX b5 #[.map (some b3)] 118)::(b3,Obj.map c5 a9)::(bX b1 #[vI (L.places),vI (L.sorts),vS a3 L.start.length a4,vS a5 L.keeps.length a6,vS a7 L.slips.length a8] 26)::(Mr2++F))) (PC _ (PW (PW PM))) (NB (NX (rqr (sp 1 [(7,vN)] (se (rq (rqr (sd (dlb 47 1 0 b5 (.map (some b3))) (sS (stp_range (d:=48) (x:=(.tmp 47)) (T:=118) (kt:=61) (et:=3) (es:=c5) (cl:=a9) (ty:=0) (gd:=none) (by kernel_rfl) rfl (by kernel_rfl) rfl (.inl (List.mem_of_getElem? (i:=2) rfl)) (fun d9=>(se (rb 2 ?_))))))))))))));refine rl (fun mz a w=>∃ dn:Ods,∃ td:Ods,∃ c4:Value,∃ b2:Seg,∃ a2:Array Nat,((dn++td).Perm (EV (EN L)))∧(Own 61 3 DC c4 (dn.map mkD) b2)∧(Go.Sl.Left encO c5 a2 (intO td))∧Slots 62 [(7,c4),(2,vN),(3,vI (0)),(48,vP d9 0)] a∧a.defers=Sl.mark D::[]∧St I2 ((d9,Obj.mapIter (some b3) a9 a2 a9)::(D,Obj.deferred (some []))::(bX b5 #[.map (some b3)] 118)::(b3,Obj.map c5 a9)::(bX b1 #[vI (L.places),vI (L.sorts),vS a3 L.start.length a4,vS a5 L.keeps.length a6,vS a7 L.slips.length a8] 26)::(Mr2++(b2++F))) w∧mz=td.length) ?_ ?_
  ·intro a w hS hD hW;exact ⟨_,[],EV (EN L),(vN),[],#[],PR _,(Own.nil _ _ _),(Left.start c8.1.1),hS.sub (.cons 7 rfl (.cons 2 rfl (.cons 3 rfl (.cons 48 rfl (.nil _))))),hD,hW,rfl⟩
  rintro mz a w ⟨dn,td,c4,b2,a2,i0,c3,c9,hS,hD,hW,rfl⟩
  refine AV hS hD hW ?_;clear hS hD hW a w;obtain ⟨b4,b6,d0,i1⟩:=c3.shape;subst d0;have q7:(dn.map mkD).length≤8:=by have h1:=i0.length_eq;have h2:=owes_len (xs:=EN L);rw [LA] at h1;rw [List.length_map];omega
  refine rqr (sS (stp_nextO (d:=49) (x:=(.tmp 48)) (todo:=td) 0 (ty:=0) (gd:=none) (by kernel_rfl) rfl rfl rfl (.inl (List.mem_of_getElem? (i:=3) rfl)) c8.1.2 c9 (fun g1=>?_) (fun h4 a0 h5 h0 d8 f7 f5=>?_)))
  ·
   refine sp 1 [(50,.bool (false))] (se (rq (rcf 50 rfl (CL 2 ((EP (EP (EB (NX (rq ?_))))))))));have n4:=small_debts hg i0;have m8:=debts_sorted c8.2 (fun x hx=>(owes_keys hg (xs:=EN L) (fun _ h=>h) x hx).1) i0 g1;refine CF (B:=((d9,Obj.mapIter (some b3) a9 a2 a9)::(D,Obj.deferred (some []))::(bX b5 #[.map (some b3)] 118)::(b3,Obj.map c5 a9)::(bX b1 #[vI (L.places),vI (L.sorts),vS a3 L.start.length a4,vS a5 L.keeps.length a6,vS a7 L.slips.length a8] 26)::(Mr2++F))) CY c3 (by first | omega | (simp only [LS,LC,LN,LA,LK,LD] <;> omega) | decide) (PU (PU (PU (PU (PU (PO _ _ _)))))) (PR _) (fun q4 c1 b8=>?_);replace a1:=c1.blk _ _ a1;replace b0:=c1.blk _ _ b0;obtain ⟨k6,k8,k7,l4,e2,k9,l0,l5⟩:=id b8;cases e2;refine rr (sp 1 [(60,vS b4 (dn.map mkD).length b6)] (sS (sc (some 61) (sortedD_ct _ _ _ b8 (by exact n4) (by omega) :) (.refl _) (fun p9 q5 p6 c2 l9=>?_))));obtain ⟨r1,c6,g5,g0,g8⟩:=l9;rw [g5,g0];clear g5 g0;replace a1:=c2.blk _ _ a1;replace b0:=c2.blk _ _ b0;obtain ⟨h7,h8,h9,n2⟩:=g8.shape;subst h9;refine pm (M':=((d9,Obj.mapIter (some b3) a9 a2 a9)::(D,Obj.deferred (some []))::(bX b5 #[.map (some b3)] 118)::(b3,Obj.map c5 a9)::(bX b1 #[vI (L.places),vI (L.sorts),vS a3 L.start.length a4,vS a5 L.keeps.length a6,vS a7 L.slips.length a8] 26)::(c6++(Mr2++F)))) (PW (PW (PW (PW PM)))) (sp 2 [(3,vI (0)),(2,vS h7 (AD EZ (dn.map mkD)).length h8)] (se (BL ?_)));have hE:=owedE_2 hz;refine DY (R:=((d9,Obj.mapIter (some b3) a9 a2 a9)::(bX b5 #[.map (some b3)] 118)::(b3,Obj.map c5 a9)::(bX b1 #[vI (L.places),vI (L.sorts),vS a3 L.start.length a4,vS a5 L.keeps.length a6,vS a7 L.slips.length a8] 26)::(c6++(Mr2++F)))) [D] (.inl rfl) (PS _ _ _) (ppm (M':=((c6++(d9,Obj.mapIter (some b3) a9 a2 a9)::(bX b5 #[.map (some b3)] 118)::(b3,Obj.map c5 a9)::(bX b1 #[vI (L.places),vI (L.sorts),vS a3 L.start.length a4,vS a5 L.keeps.length a6,vS a7 L.slips.length a8] 26)::(Mr2++F)))) (PU (PU (PU (PM.symm)))) (CN (t:=2) (u:=3) (c6) (by kernel_rfl) rfl rfl (TA (TC _ (TC _ (TC _ (TC _ (TT (TR _) (TB _ _)))))) _) (IT (IT (IT (IT l7 c0) hle2) c1) c2) ?_));exact ⟨_,_,(by rw [hE,m8]),rfl,((show AD EZ (dn.map mkD)=(JH L).1 from by rw [hE,m8])▸g8)⟩
  show Seq _ _ _ _ _ _ ((49,.tuple #[.bool (true),.agg #[vI (a0.1.who),vI (a0.1.sort),vI (a0.1.amt)],vI (a0.2)])::_) _ _;refine nm ?_;refine sp 1 [(50,.bool (true))] (se (rq (rct 50 rfl (AQ (NX (rb 3 (rqr (sS (stp_entry (d:=51) (x:=(.tmp 48)) (enc:=encO) (y:=(a0.1,vI a0.2)) (ty:=0) (gd:=none) (by kernel_rfl) rfl rfl (List.mem_of_getElem? (i:=0) rfl) (.inl (List.mem_of_getElem? (i:=3) rfl)) c8.1.2 f5 ?_)))))))));show Seq _ _ _ _ _ _ ((51,.tuple #[.agg #[vI (a0.1.who),vI (a0.1.sort),vI (a0.1.amt)],vI (a0.2)])::_) _ _;refine sp 2 [(53,vI (a0.2)),(52,.agg #[vI (a0.1.who),vI (a0.1.sort),vI (a0.1.amt)])] (sS (sal 8 61 #[vI (0),vI (0),vI (0)] (fun f0=>(sS (ss 0 0 f0 [vI (a0.1.who),vI (a0.1.sort),vI (a0.1.amt)] [vI (a0.1.who),vI (a0.1.sort),vI (a0.1.amt)] (_::_::_::_::_::_::_) (cs:=[_,_,_]) rfl rfl (sp 1 [(9,vI (a0.2))] (sn (sp 2 [(55,vP f0 2),(54,vI (a0.2))] (sS (ss 0 2 f0 [vI (a0.2)] [vI (a0.1.who),vI (a0.1.sort),vI (a0.2)] (_::_::_::_::_::_::_) (cs:=[_,_,_]) rfl rfl (se (rr (sp 1 [(56,vS b4 (dn.map mkD).length b6)] (sd (dnb 57 0 0 f0 [vI (a0.1.who),vI (a0.1.sort),vI (a0.2)]) (sS (sbs 58 61 1 #[vI (a0.1.who),vI (a0.1.sort),vI (a0.2)] (fun q6=>(sS (AZ (d:=59) (x:=(.tmp 56)) (y:=(.tmp 58)) (T:=53) (T':=53) (E:=61) (E':=61) (sz:=3) (bs:=24) (z:=.agg #[vI (0),vI (0),vI (0)]) (cell:=DC) (xs:=dn.map mkD) (ys:=[(⟨a0.1.who,a0.1.sort,a0.2⟩:Debt)]) (Ms:=b2) (ty:=53) (gd:=none) (by kernel_rfl) rfl (by kernel_rfl) (by kernel_rfl) (by kernel_rfl) (by kernel_rfl) (by kernel_rfl) (by decide) (by kernel_rfl) rfl rfl (c3) (PU (PU (PU (PU (PU (PU (PU (PO _ _ _)))))))) (QB _) (DM 0 rfl rfl) (by first | omega | (simp only [LC,LN];omega)) (fun r2 e8 g2=>(AW (M':=((bX f0 #[vI (a0.1.who),vI (a0.1.sort),vI (a0.2)] 61)::(d9,Obj.mapIter (some b3) a9 h0 a9)::(D,Obj.deferred (some []))::(bX b5 #[.map (some b3)] 118)::(b3,Obj.map c5 a9)::(bX b1 #[vI (L.places),vI (L.sorts),vS a3 L.start.length a4,vS a5 L.keeps.length a6,vS a7 L.slips.length a8] 26)::(e8++(Mr2++F)))) (fun w h=>(h.perm (PW (PW (PW (PW (PW (PW PM))))))).sub (TC _ (TR _))) ?_)))))))))))))))))))));obtain ⟨g6,g7,m3,p3⟩:=g2.shape;subst m3;refine sp 1 [(7,vS g6 ((dn.map mkD)++([(⟨a0.1.who,a0.1.sort,a0.2⟩:Debt)])).length g7)] (ee (NB ?_));refine AM ((h4++h5).length) (tookK_len d8) ?_;intro a w hS hD hW;exact ⟨dn++[a0],h4++h5,vS g6 ((dn.map mkD)++([(⟨a0.1.who,a0.1.sort,a0.2⟩:Debt)])).length g7,e8,h0,OW i0 d8,(by rw [List.map_append];exact g2),f7,hS.sub (.consE 7 rfl rfl (.cons 2 rfl (.cons 3 rfl (.cons 48 rfl (.nil _))))),hD,(hW.perm (PC _ (PC _ (PC _ (PC _ (PC _ (PC _ (PO _ _ _)))))))).sub (TC _ (TR _)),rfl⟩
 intro D c xs I2 M2 hle2 hS2;exact hS2.elim
end Go.Proofs.YtgcemienebmdeaaGreat
namespace Go.Sh
open Go Go.Sl
def FP (p:Sh.Event→Bool) (l:List Sh.Event):List Int:=(l.filter p).map fun e=>e.slip.num
section
variable {p:Sh.Event→Bool} {l:List Sh.Event} {x:Sh.Event}
theorem numsP_t (h:p x=true):FP p l++[x.slip.num]=FP p (l++[x]):=by unfold FP;rw [List.filter_append,List.map_append];simp [h]
theorem numsP_f (h:p x=false):FP p l=FP p (l++[x]):=by unfold FP;rw [List.filter_append,List.map_append];simp [h]
theorem numsP_len:(FP p l).length≤l.length:=by unfold FP;rw [List.length_map];exact List.length_filter_le _ _
end
def FG (L:Lin):List Int × Int:=if AN L≠0 then ([],AN L) else (FP (fun x=>x.below) (BH L),0)
def GC (L:Lin):List Int × Int:=if AN L≠0 then ([],AN L) else (FP (fun _=>true) (BH L),0)
section
variable {L:Lin}
theorem belowE_1 (h:AN L≠0):FG L=([],AN L):=if_pos h
theorem MP (h:AN L=0):FG L=(FP (fun x=>x.below) (BH L),0):=if_neg (fun x=>x h)
theorem orderE_1 (h:AN L≠0):GC L=([],AN L):=if_pos h
theorem NO (h:AN L=0):GC L=(FP (fun _=>true) (BH L),0):=if_neg (fun x=>x h)
end
end Go.Sh
namespace Go.Proofs.YtgcemienebmdeaaGreat
open Go Go.Sl Go.Sh
set_option maxRecDepth 100000
noncomputable def MC (p:List Nat):Code:=sub (AP Tryz.f71) p
theorem QA (I:Imm) (l:Value) (L:Lin) (fq_id:FuncId) (fq_cv:List Value) (pq:Sh.Event→Bool) (l_f:IsLin I l L) (fq_c:DB Tryz.prog fq_id=true) (fq_h:∀ J,I.le J→∀ x:Sh.Event,CtV Tryz.prog fq_id (.agg #[vI x.slip.num,vI x.slip.hour,vI x.slip.kind,vI x.slip.place,vI x.slip.to,vI x.slip.sort,.bool x.slip.soil,vI x.slip.amt,vI x.gap,.bool x.below]::fq_cv).toArray J (.bool (pq x))) (hg:GoodL L):Ct Tryz.prog 71 #[l,.func (.func fq_id) #[] fq_cv.toArray] I ([]) (fun v I' M'=>∃ u:Value,∃ Ms:Seg,v=u∧M'=Ms∧Own 3 1 AJ u (FP pq (BH L)) Ms):=by
 obtain ⟨l1,l2,l3,k7,c3,c4,c5⟩:=id l_f;subst k7;obtain ⟨a3,a4,j1,j4,i7,h7,j2,j3,j5,j6⟩:=id c3;subst h7;obtain ⟨a5,a6,j7,k0,h8,j8,j9,k1⟩:=id c4;subst h8;obtain ⟨a7,a8,k2,k5,h9,k3,k4,k6⟩:=id c5;subst h9;refine HF (fn:=Tryz.f71) (args:=[_,_]) (N:=21) Tryz.func71 rfl (by kernel_rfl) (Nat.le_of_ble_eq_true rfl) (fun F=>?_);show Run _ _ (MC []) _ _ [(0,.agg #[vI (L.places),vI (L.sorts),vS a3 L.start.length a4,vS a5 L.keeps.length a6,vS a7 L.slips.length a8]),(1,.func (.func fq_id) #[] fq_cv.toArray)] _ _;refine rnm (rqr ?_);refine sS (sb 2 26 #[vI (L.places),vI (L.sorts),vS a3 L.start.length a4,vS a5 L.keeps.length a6,vS a7 L.slips.length a8] (fun b1=>(sS (sb 3 105 #[.func (.func fq_id) #[] fq_cv.toArray] (fun b3=>(sp 1 [(4,vN)] (sn (sS (sal 5 29 #[vN] (fun b5=>(se (rq (rq ?_)))))))))))));refine GZ (b:=b3) (o:=Obj.cells #[.func (.func fq_id) #[] fq_cv.toArray] 105 (0,0)) (M0:=((bX b5 #[vN] 29)::(bX b1 #[vI (L.places),vI (L.sorts),vS a3 L.start.length a4,vS a5 L.keeps.length a6,vS a7 L.slips.length a8] 26)::F)) (PS _ _ _) (fun I7 b8 c2=>?_);replace c3:=c3.mono b8;replace c4:=c4.mono b8;replace c5:=c5.mono b8;replace fq_h:=NG b8 fq_h;have m3:=hg.slips;refine rr (sd (dnb 7 1 0 b1 [vI (L.places),vI (L.sorts),vS a3 L.start.length a4,vS a5 L.keeps.length a6,vS a7 L.slips.length a8]) (sS (sc (some 8) (OU _ _ (L) (CR c3 c4 c5) :) (.refl _) (fun l5 m0 l0 b7 h5=>?_))));obtain ⟨i8,l7,l8,l9,d5,h0,g9,e2,d9,i1,i2⟩:=h5;rw [e2,d9];clear e2 d9;replace fq_h:=NG b7 fq_h;replace c2:=b7.blk _ _ c2;have b0:=i1;obtain ⟨a2,c9,d1,d3⟩:=id b0;obtain ⟨e7,e9,e8,f2,e4,c8,f0,f1,f3,f4⟩:=id c9;subst c8;obtain ⟨f5,f7,f6,g0,d0,f8,f9,g1⟩:=id d1;subst d0;obtain ⟨g2,g4,g3,g7,d2,g5,g6,g8⟩:=id d3;subst d2;refine nm ?_;refine sS (sc (some 9) (KP _ (i8) :) (.refl _) (fun l6 m1 l4 a9 h6=>?_));obtain ⟨d6,d7,k8,i6,i5,e3,e0,b9,c0,c1,i3⟩:=h6;rw [e3,e0];clear e3 e0;replace fq_h:=NG a9 fq_h;replace c2:=a9.blk _ _ c2;replace b0:=b0.mono a9;replace a2:=a9.blk _ _ a2;refine nm (se (rb 0 ?_))
 refine GD (α:=Sh.Event) (g:=(.tmp 9)) (ps:=#[10]) (assign:=MC [1,1,0,1,0,0]) (body:=MC [1,1,0,1,0,1]) (gf:=123) (cv:=[vP d6 0,vP d7 0]) (enc:=encEv) (seq:=(evs ((EE L)) (AD AC L.slips))) (R:=fun xs _ M=>EvR d5 ((EE L)) (AD AC L.slips) xs.length M) (Mr:=[(d5,Obj.map h0 g9)]) (M0:=((bX b5 #[vN] 29)::[])) (F0:=((bX b1 #[vI (L.places),vI (L.sorts),vS a3 L.start.length a4,vS a5 L.keeps.length a6,vS a7 L.slips.length a8] 26)::F))
  (fun xs I M=>∃ v Ms,M=(bX b5 #[v] 29)::Ms∧Own 3 1 AJ v (FP pq xs) Ms) (fun _ _ _ _=>False) (fun x k=>[(3,vP b3 0),(4,vN),(5,vP b5 0),(6,vP k 0)]) (fun x k=>[(bX k #[vI (x.slip.num),vI (x.slip.hour),vI (x.slip.kind),vI (x.slip.place),vI (x.slip.to),vI (x.slip.sort),.bool (x.slip.soil),vI (x.slip.amt),vI (x.gap),.bool (x.below)] 102)])
  (by kernel_rfl) rfl (by kernel_rfl) (fun _=>rfl) (by kernel_rfl) (HK _ i8 d6 d7 k8 d5 _ _ _ _ _ L ((EE L)) b0 b9 c0 c1 i3 hg.goodS hg.within) (fun xs I J M _ h=>h) (PR _) ⟨_,_,rfl,i2⟩ ⟨_,[],rfl,Own.nil _ _ _⟩ ?_ ?_ ?_ ?_
 ·intro Lq x I1 M1;refine MK (l':=[(3,vP b3 0),(4,vN),(5,vP b5 0),(10,.agg #[vI (x.slip.num),vI (x.slip.hour),vI (x.slip.kind),vI (x.slip.place),vI (x.slip.to),vI (x.slip.sort),.bool (x.slip.soil),vI (x.slip.amt),vI (x.gap),.bool (x.below)])]) (.cons 3 rfl (.cons 4 rfl (.cons 5 rfl (.cons 10 rfl (.nil _))))) (rr (sS (sal 6 102 #[vI (0),vI (0),vI (0),vI (0),vI (0),vI (0),.bool (false),vI (0),vI (0),.bool (false)] (fun i4=>(sS (ss 0 0 i4 [vI (x.slip.num),vI (x.slip.hour),vI (x.slip.kind),vI (x.slip.place),vI (x.slip.to),vI (x.slip.sort),.bool (x.slip.soil),vI (x.slip.amt),vI (x.gap),.bool (x.below)] [vI (x.slip.num),vI (x.slip.hour),vI (x.slip.kind),vI (x.slip.place),vI (x.slip.to),vI (x.slip.sort),.bool (x.slip.soil),vI (x.slip.amt),vI (x.gap),.bool (x.below)] (_::_) (cs:=[_,_,_,_,_,_,_,_,_,_]) rfl rfl (ee ?_)))))));exact AR (fun a w hS hD hW=>⟨i4,hS.sub (.cons 3 rfl (.cons 4 rfl (.cons 5 rfl (.cons 6 rfl (.nil _))))),hD,hW⟩)
 ·intro Lq x k xs I1 Mr1 M1 F1 hpre hle1 hR1 hC1;replace fq_h:=NG hle1 fq_h;replace c2:=hle1.blk _ _ c2;replace a2:=hle1.blk _ _ a2;replace b9:=hle1.blk _ _ b9;replace c0:=hle1.blk _ _ c0;replace c1:=hle1.blk _ _ c1;obtain ⟨i9,b4,rfl,b2⟩:=hC1;obtain ⟨a0,a1,b6,d8⟩:=b2.shape;subst b6;have m4:(FP pq xs).length+1≤1000:=by have h1:=hpre.length_le;have h2:=numsP_len (p:=pq) (l:=xs);have h3:=GV (L:=L);unfold BH at h3;rw [h3] at h1;simp only [LA,LC,LN] at h1;omega
  refine GK (M':=((bX k #[vI (x.slip.num),vI (x.slip.hour),vI (x.slip.kind),vI (x.slip.place),vI (x.slip.to),vI (x.slip.sort),.bool (x.slip.soil),vI (x.slip.amt),vI (x.gap),.bool (x.below)] 102)::(Mr1++(bX b5 #[vS a0 (FP pq xs).length a1] 29)::(b4++F1)))) (fun w h=>by simpa only [AA,CA,NA] using h) ?_;refine rpm (M':=((bX k #[vI (x.slip.num),vI (x.slip.hour),vI (x.slip.kind),vI (x.slip.place),vI (x.slip.to),vI (x.slip.sort),.bool (x.slip.soil),vI (x.slip.amt),vI (x.gap),.bool (x.below)] 102)::(bX b5 #[vS a0 (FP pq xs).length a1] 29)::(Mr1++(b4++F1)))) (PC _ PM) (rb 1 (rqr (sd (BC (v:=.func (.func fq_id) #[] fq_cv.toArray) (x:=(.tmp 3)) (T:=105) (d:=11) (ty:=105) (gd:=none) (by kernel_rfl) rfl (by kernel_rfl) rfl (AS c2 rfl)) (sd (dnb 12 0 0 k [vI (x.slip.num),vI (x.slip.hour),vI (x.slip.kind),vI (x.slip.place),vI (x.slip.to),vI (x.slip.sort),.bool (x.slip.soil),vI (x.slip.amt),vI (x.gap),.bool (x.below)]) (sd (MS (f:=(.tmp 11)) (fid:=fq_id) (args:=#[(.tmp 12)]) (tys:=#[102]) (cv:=fq_cv) (v:=.bool (pq x)) (d:=13) (ty:=4) (gd:=none) (by kernel_rfl) rfl rfl rfl fq_c rfl (fun I' hI=>fq_h I' hI x)) (se (rc 13 rfl (fun h1=>?_) (fun h1=>?_))))))))
  ·
   have h4:=h1;refine rr (sd (dlb 14 1 0 b5 (vS a0 (FP pq xs).length a1)) (sp 2 [(16,vP k 0),(15,vP k 0)] (sd (dlb 17 0 0 k (vI (x.slip.num))) (sS (sbs 18 3 1 #[vI (x.slip.num)] (fun m2=>(sS (AZ (d:=19) (x:=(.tmp 14)) (y:=(.tmp 18)) (T:=29) (T':=29) (E:=3) (E':=3) (sz:=1) (bs:=8) (z:=vI (0)) (cell:=AJ) (xs:=FP pq xs) (ys:=[(x.slip.num:Int)]) (Ms:=b4) (ty:=29) (gd:=none) (by kernel_rfl) rfl (by kernel_rfl) (by kernel_rfl) (by kernel_rfl) (by kernel_rfl) (by kernel_rfl) (by decide) (by kernel_rfl) rfl rfl (b2) (PU (PU (PU (PO _ _ _)))) (DX _) (DM 0 rfl rfl) (by first | omega | (simp only [LC,LN,LA,LK,LD];omega)) (fun m5 d4 e1=>(AW (M':=((bX k #[vI (x.slip.num),vI (x.slip.hour),vI (x.slip.kind),vI (x.slip.place),vI (x.slip.to),vI (x.slip.sort),.bool (x.slip.soil),vI (x.slip.amt),vI (x.gap),.bool (x.below)] 102)::(bX b5 #[vS a0 (FP pq xs).length a1] 29)::(d4++(Mr1++F1)))) (fun w h=>(h.perm (PW (PW PM))).sub (TC _ (TR _))) ?_))))))))));obtain ⟨c6,c7,i0,k9⟩:=e1.shape;subst i0;refine sS (ss 1 0 b5 [vS c6 ((FP pq xs)++([(x.slip.num:Int)])).length c7] [vS c6 ((FP pq xs)++([(x.slip.num:Int)])).length c7] (_::_::_) (cs:=[_]) rfl rfl (ee (NB (ppm (M':=((bX k #[vI (x.slip.num),vI (x.slip.hour),vI (x.slip.kind),vI (x.slip.place),vI (x.slip.to),vI (x.slip.sort),.bool (x.slip.soil),vI (x.slip.amt),vI (x.gap),.bool (x.below)] 102)::(Mr1++(bX b5 #[vS c6 ((FP pq xs)++([(x.slip.num:Int)])).length c7] 29)::(d4++F1)))) (PC _ (PU (PO _ _ _))) ?_))));refine FI (M':=(Mr1++((bX b5 #[vS c6 ((FP pq xs)++([(x.slip.num:Int)])).length c7] 29)::d4))) (IR _) ?_ (by simp only [AA,NA,CA];exact (TC _ (TR _)));exact ⟨Mr1,_,rfl,hR1,⟨_,_,rfl,numsP_t h1▸e1⟩⟩
  have h4:=h1;refine AQ (NB (ppm (M':=((bX k #[vI (x.slip.num),vI (x.slip.hour),vI (x.slip.kind),vI (x.slip.place),vI (x.slip.to),vI (x.slip.sort),.bool (x.slip.soil),vI (x.slip.amt),vI (x.gap),.bool (x.below)] 102)::(Mr1++(bX b5 #[vS a0 (FP pq xs).length a1] 29)::(b4++F1)))) (PC _ (PM.symm)) ?_));refine FI (M':=(Mr1++((bX b5 #[vS a0 (FP pq xs).length a1] 29)::b4))) (IR _) ?_ (by simp only [AA,NA,CA];exact (TC _ (TR _)));exact ⟨Mr1,_,rfl,hR1,⟨_,_,rfl,numsP_f h1▸b2⟩⟩
 ·intro D I2 Mr2 M2 hle2 hR2 hC2;replace fq_h:=NG hle2 fq_h;replace c2:=hle2.blk _ _ c2;replace a2:=hle2.blk _ _ a2;replace b9:=hle2.blk _ _ b9;replace c0:=hle2.blk _ _ c0;replace c1:=hle2.blk _ _ c1;obtain ⟨e6,e5,rfl,j0⟩:=EvR.full hR2 FV;obtain ⟨i9,b4,rfl,b2⟩:=hC2;obtain ⟨a0,a1,b6,d8⟩:=b2.shape;subst b6;refine JI (M':=((D,Obj.deferred (some []))::(d5,Obj.map e6 e5)::(bX b5 #[vS a0 (FP pq (evs (EE L) (AD AC L.slips))).length a1] 29)::(b4++(bX b1 #[vI (L.places),vI (L.sorts),vS a3 L.start.length a4,vS a5 L.keeps.length a6,vS a7 L.slips.length a8] 26)::F))) (fun w h=>by simpa only [AA,CA,NA] using h) (ppm (M':=((D,Obj.deferred (some []))::(d5,Obj.map e6 e5)::(bX b5 #[vS a0 (FP pq (evs (EE L) (AD AC L.slips))).length a1] 29)::(bX b1 #[vI (L.places),vI (L.sorts),vS a3 L.start.length a4,vS a5 L.keeps.length a6,vS a7 L.slips.length a8] 26)::(b4++F))) (PC _ (PC _ (PC _ PM))) (NB (NX (rqr (sd (dlb 20 2 0 b5 (vS a0 (FP pq (evs (EE L) (AD AC L.slips))).length a1)) (sp 1 [(4,vS a0 (FP pq (evs (EE L) (AD AC L.slips))).length a1)] (se (BL ?_))))))));refine DY (R:=((d5,Obj.map e6 e5)::(bX b5 #[vS a0 (FP pq (evs (EE L) (AD AC L.slips))).length a1] 29)::(bX b1 #[vI (L.places),vI (L.sorts),vS a3 L.start.length a4,vS a5 L.keeps.length a6,vS a7 L.slips.length a8] 26)::(b4++F))) [D] (.inl rfl) (PR _) (ppm (M':=((b4++(d5,Obj.map e6 e5)::(bX b5 #[vS a0 (FP pq (evs (EE L) (AD AC L.slips))).length a1] 29)::(bX b1 #[vI (L.places),vI (L.sorts),vS a3 L.start.length a4,vS a5 L.keeps.length a6,vS a7 L.slips.length a8] 26)::F))) (PU (PU (PM.symm))) (AH (t:=4) (b4) (by kernel_rfl) rfl (TA (TC _ (TC _ (TC _ (TR _)))) _) (IT (IT (IT b8 b7) a9) hle2) ?_));exact ⟨_,_,rfl,rfl,b2⟩
 intro D c xs I2 M2 hle2 hS2;exact hS2.elim
noncomputable def c_Below1 (p:List Nat):Code:=sub (AP Tryz.f72) p
theorem Below1_ct (I:Imm) (x:Sh.Event):CtV Tryz.prog 72 #[.agg #[vI x.slip.num,vI x.slip.hour,vI x.slip.kind,vI x.slip.place,vI x.slip.to,vI x.slip.sort,.bool x.slip.soil,vI x.slip.amt,vI x.gap,.bool x.below]] I (.bool (x.below)):=by
 refine fr (args:=[_]) (N:=5) Tryz.func72 (fun F=>?_);show Run _ _ (c_Below1 []) _ _ [(0,.agg #[vI (x.slip.num),vI (x.slip.hour),vI (x.slip.kind),vI (x.slip.place),vI (x.slip.to),vI (x.slip.sort),.bool (x.slip.soil),vI (x.slip.amt),vI (x.gap),.bool (x.below)])] _ _;refine rnm (rqr ?_);refine sS (sb 1 102 #[vI (x.slip.num),vI (x.slip.hour),vI (x.slip.kind),vI (x.slip.place),vI (x.slip.to),vI (x.slip.sort),.bool (x.slip.soil),vI (x.slip.amt),vI (x.gap),.bool (x.below)] (fun b1=>(sp 1 [(2,.bool (false))] (sn (sp 1 [(3,vP b1 9)] (sd (dlb 4 0 9 b1 (.bool (x.below))) (sp 1 [(2,.bool (x.below))] (se (BL (AH (t:=2) [] (by kernel_rfl) rfl (TC _ (TR _)) (IR _) ?_))))))))));exact ⟨rfl,rfl⟩
noncomputable def c_Below (p:List Nat):Code:=sub (AP Tryz.f24) p
theorem Below_ct (I:Imm) (l:Value) (L:Lin) (l_f:IsLin I l L):Ct Tryz.prog 24 #[l] I ([]) (fun v I' M'=>∃ u0:Value,∃ Ms0:Seg,v=.tuple #[u0,vI ((FG L).2)]∧M'=Ms0∧Own 3 1 AJ u0 ((FG L).1) Ms0):=by
 obtain ⟨l1,l2,l3,e0,a6,a7,a8⟩:=id l_f;subst e0;obtain ⟨a0,a1,c4,c7,c2,b4,c5,c6,c8,c9⟩:=id a6;subst b4;obtain ⟨a2,a3,d0,d3,b5,d1,d2,d4⟩:=id a7;subst b5;obtain ⟨a4,a5,d5,d8,b6,d6,d7,d9⟩:=id a8;subst b6;refine fr (args:=[_]) (N:=12) Tryz.func24 (fun F=>?_);show Run _ _ (c_Below []) _ _ [(0,.agg #[vI (L.places),vI (L.sorts),vS a0 L.start.length a1,vS a2 L.keeps.length a3,vS a4 L.slips.length a5])] _ _;refine rnm (rqr ?_);refine sS (sb 1 26 #[vI (L.places),vI (L.sorts),vS a0 L.start.length a1,vS a2 L.keeps.length a3,vS a4 L.slips.length a5] (fun b1=>(sp 2 [(3,vI (0)),(2,vN)] (se (rq (rqr (sd (dnb 5 0 0 b1 [vI (L.places),vI (L.sorts),vS a0 L.start.length a1,vS a2 L.keeps.length a3,vS a4 L.slips.length a5]) (sd (dc 6 (fun I' hI=>(GS I' _ (L) ((CR a6 a7 a8).mono hI) :))) (sp 1 [(4,vI ((AN L)))] (sn (sp 2 [(8,.bool (!(cmp .eql ((AN L)) (0))))] (se (rc 8 rfl (fun h1=>?_) (fun h1=>?_))))))))))))))
 ·
  have b2:=h1;have h1:=BV (CT h1);refine rqr (sp 3 [(3,vI ((AN L))),(2,vN)] (se (BL ((RP ?_)))));have hE:=belowE_1 (L:=L) h1;refine CN (t:=2) (u:=3) ([]) (by kernel_rfl) rfl rfl (TC _ (TR _)) (IR _) ?_;exact ⟨_,_,(by rw [hE]),rfl,((show []=(FG L).1 from by rw [hE])▸Own.nil _ _ _)⟩
 have b2:=h1;have h1:=BW (CS h1);refine AQ (NX (rq ?_));have hz:AN L=0:=by omega
 have hg:=HU hz;refine rr (sd (dnb 10 0 0 b1 [vI (L.places),vI (L.sorts),vS a0 L.start.length a1,vS a2 L.keeps.length a3,vS a4 L.slips.length a5]) (sS (sc (some 11) (QA _ _ (L) 72 ([]) (fun x:Sh.Event=>x.below) (CR a6 a7 a8) (by kernel_rfl) (fun J hJ x=>Below1_ct J x) (by assumption) :) (.refl _) (fun e2 I3 e1 b3 c3=>?_))));obtain ⟨u8,b0,c1,c0,a9⟩:=c3;rw [c1,c0];clear c1 c0;obtain ⟨b7,b8,b9,e3⟩:=a9.shape;subst b9;refine pm (M':=((bX b1 #[vI (L.places),vI (L.sorts),vS a0 L.start.length a1,vS a2 L.keeps.length a3,vS a4 L.slips.length a5] 26)::(b0++F))) PM (sp 2 [(3,vI (0)),(2,vS b7 (FP (fun x:Sh.Event=>x.below) (BH L)).length b8)] (se (BL ?_)));have hE:=MP (L:=L) hz;refine ppm (M':=((b0++(bX b1 #[vI (L.places),vI (L.sorts),vS a0 L.start.length a1,vS a2 L.keeps.length a3,vS a4 L.slips.length a5] 26)::F))) (PM.symm) (CN (t:=2) (u:=3) (b0) (by kernel_rfl) rfl rfl (TA (TC _ (TR _)) _) b3 ?_);exact ⟨_,_,(by rw [hE]),rfl,((show FP _ (BH L)=(FG L).1 from by rw [hE])▸a9)⟩
noncomputable def c_Order1 (p:List Nat):Code:=sub (AP Tryz.f95) p
theorem Order1_ct (I:Imm) (x:Sh.Event):CtV Tryz.prog 95 #[.agg #[vI x.slip.num,vI x.slip.hour,vI x.slip.kind,vI x.slip.place,vI x.slip.to,vI x.slip.sort,.bool x.slip.soil,vI x.slip.amt,vI x.gap,.bool x.below]] I (.bool true):=by
 refine fr (args:=[_]) (N:=3) Tryz.func95 (fun F=>?_);show Run _ _ (c_Order1 []) _ _ [(0,.agg #[vI (x.slip.num),vI (x.slip.hour),vI (x.slip.kind),vI (x.slip.place),vI (x.slip.to),vI (x.slip.sort),.bool (x.slip.soil),vI (x.slip.amt),vI (x.gap),.bool (x.below)])] _ _;refine rnm (rqr ?_);refine sS (sb 1 102 #[vI (x.slip.num),vI (x.slip.hour),vI (x.slip.kind),vI (x.slip.place),vI (x.slip.to),vI (x.slip.sort),.bool (x.slip.soil),vI (x.slip.amt),vI (x.gap),.bool (x.below)] (fun b1=>(sp 1 [(2,.bool (false))] (sn (sp 1 [(2,.bool (true))] (se (BL (AH (t:=2) [] (by kernel_rfl) rfl (TC _ (TR _)) (IR _) ?_))))))));exact ⟨rfl,rfl⟩
noncomputable def c_Order (p:List Nat):Code:=sub (AP Tryz.f41) p
theorem Order_ct (I:Imm) (l:Value) (L:Lin) (l_f:IsLin I l L):Ct Tryz.prog 41 #[l] I ([]) (fun v I' M'=>∃ u0:Value,∃ Ms0:Seg,v=.tuple #[u0,vI ((GC L).2)]∧M'=Ms0∧Own 3 1 AJ u0 ((GC L).1) Ms0):=by
 obtain ⟨l1,l2,l3,e0,a6,a7,a8⟩:=id l_f;subst e0;obtain ⟨a0,a1,c4,c7,c2,b4,c5,c6,c8,c9⟩:=id a6;subst b4;obtain ⟨a2,a3,d0,d3,b5,d1,d2,d4⟩:=id a7;subst b5;obtain ⟨a4,a5,d5,d8,b6,d6,d7,d9⟩:=id a8;subst b6;refine fr (args:=[_]) (N:=12) Tryz.func41 (fun F=>?_);show Run _ _ (c_Order []) _ _ [(0,.agg #[vI (L.places),vI (L.sorts),vS a0 L.start.length a1,vS a2 L.keeps.length a3,vS a4 L.slips.length a5])] _ _;refine rnm (rqr ?_);refine sS (sb 1 26 #[vI (L.places),vI (L.sorts),vS a0 L.start.length a1,vS a2 L.keeps.length a3,vS a4 L.slips.length a5] (fun b1=>(sp 2 [(3,vI (0)),(2,vN)] (se (rq (rqr (sd (dnb 5 0 0 b1 [vI (L.places),vI (L.sorts),vS a0 L.start.length a1,vS a2 L.keeps.length a3,vS a4 L.slips.length a5]) (sd (dc 6 (fun I' hI=>(GS I' _ (L) ((CR a6 a7 a8).mono hI) :))) (sp 1 [(4,vI ((AN L)))] (sn (sp 2 [(8,.bool (!(cmp .eql ((AN L)) (0))))] (se (rc 8 rfl (fun h1=>?_) (fun h1=>?_))))))))))))))
 ·
  have b2:=h1;have h1:=BV (CT h1);refine rqr (sp 3 [(3,vI ((AN L))),(2,vN)] (se (BL ((RP ?_)))));have hE:=orderE_1 (L:=L) h1;refine CN (t:=2) (u:=3) ([]) (by kernel_rfl) rfl rfl (TC _ (TR _)) (IR _) ?_;exact ⟨_,_,(by rw [hE]),rfl,((show []=(GC L).1 from by rw [hE])▸Own.nil _ _ _)⟩
 have b2:=h1;have h1:=BW (CS h1);refine AQ (NX (rq ?_));have hz:AN L=0:=by omega
 have hg:=HU hz;refine rr (sd (dnb 10 0 0 b1 [vI (L.places),vI (L.sorts),vS a0 L.start.length a1,vS a2 L.keeps.length a3,vS a4 L.slips.length a5]) (sS (sc (some 11) (QA _ _ (L) 95 ([]) (fun _:Sh.Event=>true) (CR a6 a7 a8) (by kernel_rfl) (fun J hJ x=>Order1_ct J x) (by assumption) :) (.refl _) (fun e2 I3 e1 b3 c3=>?_))));obtain ⟨u8,b0,c1,c0,a9⟩:=c3;rw [c1,c0];clear c1 c0;obtain ⟨b7,b8,b9,e3⟩:=a9.shape;subst b9;refine pm (M':=((bX b1 #[vI (L.places),vI (L.sorts),vS a0 L.start.length a1,vS a2 L.keeps.length a3,vS a4 L.slips.length a5] 26)::(b0++F))) PM (sp 2 [(3,vI (0)),(2,vS b7 (FP (fun _:Sh.Event=>true) (BH L)).length b8)] (se (BL ?_)));have hE:=NO (L:=L) hz;refine ppm (M':=((b0++(bX b1 #[vI (L.places),vI (L.sorts),vS a0 L.start.length a1,vS a2 L.keeps.length a3,vS a4 L.slips.length a5] 26)::F))) (PM.symm) (CN (t:=2) (u:=3) (b0) (by kernel_rfl) rfl rfl (TA (TC _ (TR _)) _) b3 ?_);exact ⟨_,_,(by rw [hE]),rfl,((show FP _ (BH L)=(GC L).1 from by rw [hE])▸a9)⟩
end Go.Proofs.YtgcemienebmdeaaGreat
namespace Go.Sh
open Go Go.Sl
def OS:Lin:=⟨0,0,[],[],[]⟩
def FO (L:Lin) (ns:List Int) (i:Nat):Int:=if L.slips.any (fun x=>decide (x.num=ns.getD i 0))=false then 3 else if ns.getD i 0∈ns.take i then 4 else 0
def CI (L:Lin) (ns:List Int):Lin × Int:=
  if AN L≠0 then (OS,AN L) else if DU (FO L ns) ns.length≠0 then (OS,DU (FO L ns) ns.length) else (woL L ns,0)
def lateL (L:Lin) (s:Slip):Lin:=⟨L.places,L.sorts,L.start,L.keeps,L.slips++[s]⟩
def BA (L:Lin) (s:Slip):Lin × Int:=
  if AN L≠0 then (OS,AN L) else if 8≤L.slips.length then (OS,6) else if BZ L s≠0 then (OS,BZ L s)
  else if L.slips.any (fun x=>decide (x.num=s.num))=true then (OS,4) else (lateL L s,0)
section
variable {L:Lin} {ns:List Int} {s:Slip} {k:Nat}
theorem strikeE_1 (h:AN L≠0):CI L ns=(OS,AN L):=if_pos h
theorem strikeE_2 (h:AN L=0) (hz:DU (FO L ns) k=0) (hk:k<ns.length) (h3:L.slips.any (fun x=>decide (x.num=ns.getD k 0))=false):CI L ns=(OS,3):=by
  have e:FO L ns k=3:=if_pos h3;have e2:=LJ hz (by rw [e];decide) hk;unfold CI;rw [if_neg (fun x=>x h),e2,e,if_pos (by decide)]
theorem strikeE_3 (h:AN L=0) (hz:DU (FO L ns) k=0) (hk:k<ns.length) (h3:L.slips.any (fun x=>decide (x.num=ns.getD k 0))=true) (h4:ns.getD k 0∈ns.take k):CI L ns=(OS,4):=by
  have e:FO L ns k=4:=by unfold FO;rw [if_neg (by rw [h3];decide),if_pos h4]
  have e2:=LJ hz (by rw [e];decide) hk;unfold CI;rw [if_neg (fun x=>x h),e2,e,if_pos (by decide)]
theorem strikeE_4 (h:AN L=0) (hz:DU (FO L ns) k=0) (hk:ns.length≤k):CI L ns=(woL L ns,0):=by
  have e:DU (FO L ns) ns.length=0:=firstE_zero.2 fun j hj=>firstE_zero.1 hz j (by omega)
  unfold CI;rw [if_neg (fun x=>x h),e,if_neg (fun x=>x rfl)]
theorem strike_next (hz:DU (FO L ns) k=0) (h3:L.slips.any (fun x=>decide (x.num=ns.getD k 0))=true) (h4:¬ ns.getD k 0∈ns.take k):DU (FO L ns) (k+1)=0:=
  ME hz (by unfold FO;rw [if_neg (by rw [h3];decide),if_neg h4])
theorem lateE_1 (h:AN L≠0):BA L s=(OS,AN L):=if_pos h
theorem lateE_2 (h:AN L=0) (h2:8≤L.slips.length):BA L s=(OS,6):=by unfold BA;rw [if_neg (fun x=>x h),if_pos h2]
theorem lateE_3 (h:AN L=0) (h2:¬ 8≤L.slips.length) (h3:BZ L s≠0):BA L s=(OS,BZ L s):=by unfold BA;rw [if_neg (fun x=>x h),if_neg h2,if_pos h3]
theorem lateE_4 (h:AN L=0) (h2:¬ 8≤L.slips.length) (h3:BZ L s=0) (h4:L.slips.any (fun x=>decide (x.num=s.num))=true):BA L s=(OS,4):=by unfold BA;rw [if_neg (fun x=>x h),if_neg h2,if_neg (fun x=>x h3),if_pos h4]
theorem lateE_5 (h:AN L=0) (h2:¬ 8≤L.slips.length) (h3:BZ L s=0) (h4:L.slips.any (fun x=>decide (x.num=s.num))=false):BA L s=(lateL L s,0):=by unfold BA;rw [if_neg (fun x=>x h),if_neg h2,if_neg (fun x=>x h3),if_neg (by rw [h4];decide)]
end
structure SameB (A B:Lin):Prop where
  places:B.places=A.places
  sorts:B.sorts=A.sorts
  start:B.start=A.start
  keeps:B.keeps=A.keeps
  slips:B.slips.Perm A.slips
theorem good_of {A:Lin} (g:GoodL A) {l:List Slip} (hl:l.length≤8) (hs:∀ s∈l,BZ A s=0) (ho:Once l):GoodL ⟨A.places,A.sorts,A.start,A.keeps,l⟩:=by
  refine ⟨g.places,g.sorts,g.start,g.rows,g.nums,g.keeps,g.keep,hl,fun k hk=>?_⟩;have hm:=AX (xs:=l) (d:=AB) hk;have h1:BZ ⟨A.places,A.sorts,A.start,A.keeps,l⟩ (l.getD k AB)=0:=hs _ hm;unfold CZ;simp only;rw [if_neg (fun x=>x h1),if_neg];intro h;unfold hasNum at h;obtain ⟨x,hx,e⟩:=List.any_eq_true.1 h;obtain ⟨j,hj,rfl⟩:=List.mem_iff_getElem.1 hx;rw [List.length_take] at hj;have e2:=of_decide_eq_true e;rw [List.getElem_take] at e2;have e3:l.getD k AB=l[k]:=by simp [List.getD,hk]
  rw [e3] at e2;have:=(List.getElem_inj (xs:=l.map Slip.num) (i:=j) (j:=k) (h₀:=by rw [List.length_map];omega) (h₁:=by rw [List.length_map];exact hk) ho).1 (by simpa using e2);omega
theorem SameB.eq {A B:Lin} (h:SameB A B):B=⟨A.places,A.sorts,A.start,A.keeps,B.slips⟩:=by
  cases B;obtain ⟨h1,h2,h3,h4,_⟩:=h;simp only at h1 h2 h3 h4;subst h1 h2 h3 h4;rfl
theorem goodB {A B:Lin} (g:GoodL A) (h:SameB A B):GoodL B:=by
  rw [h.eq];refine good_of g (by rw [h.slips.length_eq];exact g.slips) (fun s hs=>g.slipOf (h.slips.subset hs)) ?_;exact (once_perm h.slips).2 g.once
section
variable {A B:Lin} (g:GoodL A) (h:SameB A B)
include g h
theorem KD:BH B=BH A:=by
  unfold BH EE;rw [h.start,show AD AC B.slips=AD AC A.slips from (KF (l:=A.slips) g.once h.slips.symm).symm]
theorem same_order:GC B=GC A:=by rw [NO (CC g),NO (CC (goodB g h)),KD g h]
theorem same_below:FG B=FG A:=by rw [MP (CC g),MP (CC (goodB g h)),KD g h]
theorem same_gaps:GO B=GO A:=by rw [gapsE_2 (CC g),gapsE_2 (CC (goodB g h)),KD g h]
theorem same_atH (n:Int):atH B n=atH A n:=by
  unfold atH EE FE;rw [h.start];have hp:(B.slips.filter fun x=>!decide (n<x.hour)).Perm (A.slips.filter fun x=>!decide (n<x.hour)):=h.slips.filter _;have ho:Once (A.slips.filter fun x=>!decide (n<x.hour)):=g.once.sublist ((List.filter_sublist).map _);rw [show AD AC (B.slips.filter fun x=>!decide (n<x.hour))=AD AC (A.slips.filter fun x=>!decide (n<x.hour)) from (KF ho hp.symm).symm]
theorem same_stock {n:Int} (hn:0≤n∧n≤200):EI B n=EI A n:=by
  have hb:inB n 0 200=true:=by simp [inB,hn.1,hn.2]
  have h1:=g.places;have h2:=g.sorts;rw [NR (k:=A.places.toNat) (s:=A.sorts.toNat) (CC g) hb (by omega) (by omega),NR (k:=A.places.toNat) (s:=A.sorts.toNat) (CC (goodB g h)) hb (by rw [h.places];omega) (by rw [h.sorts];omega),same_atH g h]
omit g in
theorem same_keeper (p n:Int):BK B p n=BK A p n:=by unfold BK;rw [h.keeps]
omit g in
theorem same_hold (p s:Int):∀ n,BX B p s n=BX A p s n:=by
  intro n
  induction n with
  | zero=>rfl
  | succ n ih=>simp only [BX];rw [ih,same_keeper h]
omit g in
theorem same_gstep:MF B=MF A:=by
  funext q e;unfold MF DI;rw [show BX B=BX A from by funext p s n;exact same_hold h p s n]
theorem same_lack:EN B=EN A:=by unfold EN EU;rw [same_gstep h,KD g h]
theorem same_owed:JH B=JH A:=by rw [owedE_2 (CC g),owedE_2 (CC (goodB g h)),same_lack g h]
omit g in
theorem SameB.wo (ns:List Int):SameB (woL A ns) (woL B ns):=⟨h.places,h.sorts,h.start,h.keeps,h.slips.filter _⟩
theorem same_right (ns:List Int):LV (woL B ns)=LV (woL A ns):=by
  unfold LV BH EE;have ho:Once (woL A ns).slips:=g.once.sublist ((List.filter_sublist).map _);rw [show (woL B ns).start=(woL A ns).start from h.start,show AD AC (woL B ns).slips=AD AC (woL A ns).slips from (KF ho (h.wo ns).slips.symm).symm]
theorem same_grow {all:List Int}:∀ m b j,FB B all m b j=FB A all m b j:=by
  intro m
  induction m with
  | zero=>intro b j;simp only [FB];rw [same_right g h]
  | succ m ih=>intro b j;simp only [FB];congr 1;funext i;exact ih _ _
theorem same_all:allN B=allN A:=by
  unfold allN;have hp:(B.slips.map (·.num)).Perm (A.slips.map (·.num)):=h.slips.map _;exact OH (strictZ (l:=_)) ((CJ _).trans (hp.trans (CJ _).symm)) (HO strictZ (hp.nodup_iff.2 g.once)) (HO strictZ g.once)
theorem same_wrong:CH B=CH A:=by
  unfold CH;rw [CC g,CC (goodB g h),same_all g h];simp only [show (fun m=>FB B (allN A) m [] 0)=fun m=>FB A (allN A) m [] 0 from by funext m;exact same_grow g h m [] 0]
end
theorem wrong_err {L:Lin} (g:GoodL L):(CH L).2=0∨(CH L).2=11:=by
  unfold CH;rw [if_neg (fun x=>x (CC g))];split
  · exact .inl rfl
  · exact .inr rfl
def GP (L:Lin) (o:List Int):List Slip:=o.map fun q=>L.slips.getD q.toNat AB
section
variable {L:Lin} {o:List Int} (ho:o.Perm ((List.range L.slips.length).map fun i:Nat=>(i:Int)))
include ho
omit ho in
theorem pick_take_len {k:Nat} (hk:k≤o.length):(GP L (o.take k)).length=k:=by unfold GP;rw [List.length_map,List.length_take];omega
end
section
variable {L:Lin} {o:List Int} {k:Nat} (ho:o.Perm ((List.range L.slips.length).map fun i:Nat=>(i:Int)))
include ho
end
theorem stock_ok {L:Lin} {n:Int} (g:GoodL L) (hn:0≤n∧n≤200):(EI L n).2=0:=by
  have hb:inB n 0 200=true:=by simp [inB,hn.1,hn.2]
  have h1:=g.places;have h2:=g.sorts;rw [NR (k:=L.places.toNat) (s:=L.sorts.toNat) (CC g) hb (by omega) (by omega)]
section
variable {L:Lin} (g:GoodL L)
include g
theorem lens_all {n:Int} (hn:0≤n∧n≤200):(GC L).1.length≤8∧(EI L n).1.length≤4∧(GO L).1.length≤8∧(JH L).1.length≤8∧(FG L).1.length≤8:=by
  have h0:=GV (L:=L);have h8:=g.slips;refine ⟨?_,?_,?_,?_,?_⟩
  · rw [NO (CC g)];have:=numsP_len (p:=fun _=>true) (l:=BH L);simp only;omega
  · have hb:inB n 0 200=true:=by simp [inB,hn.1,hn.2]
    have h1:=g.places;have h2:=g.sorts;rw [NR (k:=L.places.toNat) (s:=L.sorts.toNat) (CC g) hb (by omega) (by omega)];simp only;rw [LY];omega
  · rw [gaps_fst g];have:=MX (l:=BH L);omega
  · rw [owedE_2 (CC g)];simp only;rw [(CJ _).length_eq,List.length_map]
    have:=owes_len (xs:=EN L);have:=lack_count g;omega
  · rw [MP (CC g)];have:=numsP_len (p:=fun x=>x.below) (l:=BH L);simp only;omega
end
end Go.Sh
namespace Go.Proofs.YtgcemienebmdeaaGreat
open Go Go.Sl Go.Sh
set_option maxRecDepth 100000
noncomputable def c_same (p:List Nat):Code:=sub (AP Tryz.f56) p
set_option maxHeartbeats 1000000 in
theorem same_ct (I:Imm) (l:Value) (A:Lin) (m:Value) (B:Lin) (n:Int) (l_f:IsLin I l A) (m_f:IsLin I m B) (hg:GoodL A) (hs:SameB A B) (hn:0≤n∧n≤200):Ct Tryz.prog 56 #[l,m,vI n] I ([]) (fun v I' M'=>v=.bool (true)∧M'=[]):=by
 obtain ⟨l1,l2,l3,R6,a3,a4,a5⟩:=id l_f;subst R6;obtain ⟨a6,a7,Q0,Q3,K9,J3,Q1,Q2,Q4,Q5⟩:=id a3;subst J3;obtain ⟨a8,a9,Q6,Q9,J4,Q7,Q8,R0⟩:=id a4;subst J4;obtain ⟨b0,b2,R1,R4,J5,R2,R3,R5⟩:=id a5;subst J5;obtain ⟨m1,m2,m3,U3,a0,a1,a2⟩:=id m_f;subst U3;obtain ⟨b4,b5,R7,T0,M0,J6,R8,R9,T1,T2⟩:=id a0;subst J6;obtain ⟨b6,b7,T3,T6,J7,T4,T5,T7⟩:=id a1;subst J7;obtain ⟨b8,b9,T8,U1,J8,T9,U0,U2⟩:=id a2;subst J8;refine fr (args:=[_,_,_]) (N:=164) Tryz.func56 (fun F=>?_);show Run _ _ (c_same []) _ _ [(0,.agg #[vI (A.places),vI (A.sorts),vS a6 A.start.length a7,vS a8 A.keeps.length a9,vS b0 A.slips.length b2]),(1,.agg #[vI (B.places),vI (B.sorts),vS b4 B.start.length b5,vS b6 B.keeps.length b7,vS b8 B.slips.length b9]),(2,vI (n))] _ _;refine rnm ?_;have K6:=goodB hg hs;have e1:=same_order hg hs;have e2:=same_stock (n:=n) hg hs hn;have e3:=same_gaps hg hs;have e4:=same_owed hg hs;have e5:=same_below hg hs;have e6:=same_wrong hg hs;have z1:=CC hg;have z2:=CC K6;have o1:=NO z1;have o3:=gapsE_2 z1;have o4:=owedE_2 z1;have o5:=MP z1;have o2:(EI A n).2=0:=stock_ok hg hn;have o6:=wrong_err hg;obtain ⟨m1,m2,m3,m4,m5⟩:=lens_all hg hn;obtain ⟨k1,k2,k3,k4,k5⟩:=lens_all K6 hn;refine rqr (sS (sb 3 26 #[vI (A.places),vI (A.sorts),vS a6 A.start.length a7,vS a8 A.keeps.length a9,vS b0 A.slips.length b2] (fun b1=>(sS (sb 4 26 #[vI (B.places),vI (B.sorts),vS b4 B.start.length b5,vS b6 B.keeps.length b7,vS b8 B.slips.length b9] (fun b3=>(sp 1 [(6,.bool (false))] (sn (sd (dnb 22 1 0 b1 [vI (A.places),vI (A.sorts),vS a6 A.start.length a7,vS a8 A.keeps.length a9,vS b0 A.slips.length b2]) ?_)))))))));have q7:=Order_ct I _ (A) (CR a3 a4 a5);refine sS (sc (some 23) (q7 :) (.refl _) (fun V1 I5 U4 g7 P9=>?_));obtain ⟨V8,g9,K8,K7,t3⟩:=P9;rw [K8,K7];clear K8 K7;replace a3:=a3.mono g7;replace a4:=a4.mono g7;replace a5:=a5.mono g7;replace a0:=a0.mono g7;replace a1:=a1.mono g7;replace a2:=a2.mono g7;obtain ⟨i8,i9,p8,J9⟩:=t3.shape;subst p8;refine pm (M':=((bX b3 #[vI (B.places),vI (B.sorts),vS b4 B.start.length b5,vS b6 B.keeps.length b7,vS b8 B.slips.length b9] 26)::(bX b1 #[vI (A.places),vI (A.sorts),vS a6 A.start.length a7,vS a8 A.keeps.length a9,vS b0 A.slips.length b2] 26)::(g9++F))) (PW PM) (sp 5 [(8,vI (((GC A).2))),(7,vS i8 ((GC A).1).length i9)] (sn (sd (dnb 27 0 0 b3 [vI (B.places),vI (B.sorts),vS b4 B.start.length b5,vS b6 B.keeps.length b7,vS b8 B.slips.length b9]) ?_)));have q8:=Order_ct I5 _ (B) (CR a0 a1 a2);refine sS (sc (some 28) (q8 :) (.refl _) (fun V2 P1 U5 d9 G7=>?_));obtain ⟨V9,h0,s5,r4,t4⟩:=G7;rw [s5,r4];clear s5 r4;replace a3:=a3.mono d9;replace a4:=a4.mono d9;replace a5:=a5.mono d9;replace a0:=a0.mono d9;replace a1:=a1.mono d9;replace a2:=a2.mono d9;obtain ⟨j0,j1,p9,K0⟩:=t4.shape;subst p9;refine pm (M':=((bX b3 #[vI (B.places),vI (B.sorts),vS b4 B.start.length b5,vS b6 B.keeps.length b7,vS b8 B.slips.length b9] 26)::(bX b1 #[vI (A.places),vI (A.sorts),vS a6 A.start.length a7,vS a8 A.keeps.length a9,vS b0 A.slips.length b2] 26)::(h0++(g9++F)))) (PW PM) (sp 5 [(10,vI (((GC B).2))),(9,vS j0 ((GC B).1).length j1)] (sn (sd (dnb 32 1 0 b1 [vI (A.places),vI (A.sorts),vS a6 A.start.length a7,vS a8 A.keeps.length a9,vS b0 A.slips.length b2]) (sp 1 [(33,vI (n))] ?_))));have q9:=Stock_ct P1 _ (A) (n) (CR a3 a4 a5);refine sS (sc (some 34) (q9 :) (.refl _) (fun V3 P4 U6 e0 G8=>?_));obtain ⟨W0,n9,h2,s6,r5,t5,f3⟩:=G8;rw [s6,r5];clear s6 r5;replace a3:=a3.mono e0;replace a4:=a4.mono e0;replace a5:=a5.mono e0;replace a0:=a0.mono e0;replace a1:=a1.mono e0;replace a2:=a2.mono e0;obtain ⟨j2,j3,q0,K1⟩:=t5.shape;subst q0;have i6:=f3.1
 try simp only [LS,LA,LC,LN,LK] at i6
 refine pm (M':=((bX b3 #[vI (B.places),vI (B.sorts),vS b4 B.start.length b5,vS b6 B.keeps.length b7,vS b8 B.slips.length b9] 26)::(bX b1 #[vI (A.places),vI (A.sorts),vS a6 A.start.length a7,vS a8 A.keeps.length a9,vS b0 A.slips.length b2] 26)::(h2++(h0++(g9++F))))) (PW PM) (sp 5 [(12,vI (((EI A n).2))),(11,vS j2 n9.length j3)] (sn (sd (dnb 38 0 0 b3 [vI (B.places),vI (B.sorts),vS b4 B.start.length b5,vS b6 B.keeps.length b7,vS b8 B.slips.length b9]) (sp 1 [(39,vI (n))] ?_))));have r0:=Stock_ct P4 _ (B) (n) (CR a0 a1 a2);refine sS (sc (some 40) (r0 :) (.refl _) (fun V4 W5 U7 d7 G9=>?_));obtain ⟨W1,o0,h3,s7,r6,t6,f4⟩:=G9;rw [s7,r6];clear s7 r6;replace a3:=a3.mono d7;replace a4:=a4.mono d7;replace a5:=a5.mono d7;replace a0:=a0.mono d7;replace a1:=a1.mono d7;replace a2:=a2.mono d7;replace f3:=f3.mono d7;obtain ⟨j4,j5,q1,K2⟩:=t6.shape;subst q1;have i7:=f4.1
 try simp only [LS,LA,LC,LN,LK] at i7
 refine pm (M':=((bX b3 #[vI (B.places),vI (B.sorts),vS b4 B.start.length b5,vS b6 B.keeps.length b7,vS b8 B.slips.length b9] 26)::(bX b1 #[vI (A.places),vI (A.sorts),vS a6 A.start.length a7,vS a8 A.keeps.length a9,vS b0 A.slips.length b2] 26)::(h3++(h2++(h0++(g9++F)))))) (PW PM) (sp 5 [(14,vI (((EI B n).2))),(13,vS j4 o0.length j5)] (se (rq (rq ?_))));refine CF (B:=((bX b3 #[vI (B.places),vI (B.sorts),vS b4 B.start.length b5,vS b6 B.keeps.length b7,vS b8 B.slips.length b9] 26)::(bX b1 #[vI (A.places),vI (A.sorts),vS a6 A.start.length a7,vS a8 A.keeps.length a9,vS b0 A.slips.length b2] 26)::(h3++(h2++(h0++F))))) 0 t3 (by first | omega | (simp only [LS,LC,LN,LA,LK,LD] <;> omega) | decide) (PU (PU (PV (PV (PO _ _ _))))) (PR _) (fun W6 d5 c8=>?_);replace a3:=a3.mono d5;replace a4:=a4.mono d5;replace a5:=a5.mono d5;replace a0:=a0.mono d5;replace a1:=a1.mono d5;replace a2:=a2.mono d5;replace f3:=f3.mono d5;replace f4:=f4.mono d5;obtain ⟨C9,D1,D0,D4,o9,D2,D3,D5⟩:=id c8;cases o9;refine CF (B:=((bX b3 #[vI (B.places),vI (B.sorts),vS b4 B.start.length b5,vS b6 B.keeps.length b7,vS b8 B.slips.length b9] 26)::(bX b1 #[vI (A.places),vI (A.sorts),vS a6 A.start.length a7,vS a8 A.keeps.length a9,vS b0 A.slips.length b2] 26)::(h3++(h2++F)))) 0 t4 (by first | omega | (simp only [LS,LC,LN,LA,LK,LD] <;> omega) | decide) (PU (PU (PV (PO _ _ _)))) (PR _) (fun W7 d3 d8=>?_);replace a3:=a3.mono d3;replace a4:=a4.mono d3;replace a5:=a5.mono d3;replace a0:=a0.mono d3;replace a1:=a1.mono d3;replace a2:=a2.mono d3;replace f3:=f3.mono d3;replace f4:=f4.mono d3;replace c8:=c8.mono d3;obtain ⟨D6,D8,D7,E1,p0,D9,E0,E2⟩:=id d8;cases p0;refine CF (B:=((bX b3 #[vI (B.places),vI (B.sorts),vS b4 B.start.length b5,vS b6 B.keeps.length b7,vS b8 B.slips.length b9] 26)::(bX b1 #[vI (A.places),vI (A.sorts),vS a6 A.start.length a7,vS a8 A.keeps.length a9,vS b0 A.slips.length b2] 26)::(h3++F))) undef t5 (by first | omega | (simp only [LS,LC,LN,LA,LK,LD] <;> omega) | decide) (PU (PU (PO _ _ _))) (PR _) (fun W8 c6 i3=>?_);replace a3:=a3.mono c6;replace a4:=a4.mono c6;replace a5:=a5.mono c6;replace a0:=a0.mono c6;replace a1:=a1.mono c6;replace a2:=a2.mono c6;replace f3:=f3.mono c6;replace f4:=f4.mono c6;replace c8:=c8.mono c6;replace d8:=d8.mono c6;obtain ⟨E3,E5,E4,E8,p1,E6,E7,E9⟩:=id i3;cases p1;have f6:=f3.isRows i3;have q5:=f3.1;obtain ⟨B3,B5,B4,B8,u0,o7,B6,B7,B9,C0⟩:=id f6
 injection o7 with fr62_e1 fr62_e2 fr62_e3;subst fr62_e1;subst fr62_e3
 refine CF (B:=((bX b3 #[vI (B.places),vI (B.sorts),vS b4 B.start.length b5,vS b6 B.keeps.length b7,vS b8 B.slips.length b9] 26)::(bX b1 #[vI (A.places),vI (A.sorts),vS a6 A.start.length a7,vS a8 A.keeps.length a9,vS b0 A.slips.length b2] 26)::F)) undef t6 (by first | omega | (simp only [LS,LC,LN,LA,LK,LD] <;> omega) | decide) (PU (PM.symm)) (PR _) (fun P5 c7 i4=>?_);replace a3:=a3.mono c7;replace a4:=a4.mono c7;replace a5:=a5.mono c7;replace a0:=a0.mono c7;replace a1:=a1.mono c7;replace a2:=a2.mono c7;replace f4:=f4.mono c7;replace c8:=c8.mono c7;replace d8:=d8.mono c7;replace f6:=f6.mono c7;obtain ⟨G0,G2,G1,G5,p2,G3,G4,G6⟩:=id i4;cases p2;have i2:=f4.isRows i4;have q6:=f4.1;obtain ⟨C1,C3,C2,C6,u1,o8,C4,C5,C7,C8⟩:=id i2
 injection o8 with fr66_e1 fr66_e2 fr66_e3;subst fr66_e1;subst fr66_e3
 refine rr (sp 2 [(44,.bool (!(cmp .eql (((GC A).2)) (0))))] (BP 44 rfl (show (.bool (!(cmp .eql (((GC A).2)) (0))):Value)=.bool (false) from congrArg Value.bool (by rw [o1];rfl)) (sp 3 [(47,.bool (!(cmp .eql (((GC B).2)) (0)))),(45,.bool (false))] (BP 47 rfl (show (.bool (!(cmp .eql (((GC B).2)) (0))):Value)=.bool (false) from congrArg Value.bool (by rw [e1,o1];rfl)) (sp 4 [(51,.bool (!(cmp .eql (((EI A n).2)) (0)))),(49,.bool (false))] (BP 51 rfl (show (.bool (!(cmp .eql (((EI A n).2)) (0))):Value)=.bool (false) from congrArg Value.bool (by rw [o2];rfl)) (sp 4 [(55,.bool (!(cmp .eql (((EI B n).2)) (0)))),(53,.bool (false))] (BP 55 rfl (show (.bool (!(cmp .eql (((EI B n).2)) (0))):Value)=.bool (false) from congrArg Value.bool (by rw [e2,o2];rfl)) (sp 4 [(59,vS j0 ((GC B).1).length j1),(58,vS i8 ((GC A).1).length i9),(57,.bool (false))] (sd (dc 60 (fun I' hI=>(EY I' _ _ _ _ (c8.mono hI) (d8.mono hI) :))) (BP 60 rfl (show (.bool (decide (((GC A).1)=((GC B).1))):Value)=.bool (true) from congrArg Value.bool (decide_eq_true (by rw [e1]))) (sp 5 [(65,vS j4 o0.length j5),(64,vS j2 n9.length j3),(63,.bool (!(true)))] (sd (dc 66 (fun I' hI=>(PH I' _ _ _ _ (f6.mono hI) (i2.mono hI) :))) (BP 66 rfl (show (.bool (decide (((EI A n).1)=((EI B n).1))):Value)=.bool (true) from congrArg Value.bool (decide_eq_true (by rw [e2]))) (sp 2 [(68,.bool (!(true)))] (se (rcf 68 rfl (AQ (NX (rqr (sd (dnb 70 1 0 b1 [vI (A.places),vI (A.sorts),vS a6 A.start.length a7,vS a8 A.keeps.length a9,vS b0 A.slips.length b2]) ?_)))))))))))))))))))));have r1:=Gaps_ct P5 _ (A) (CR a3 a4 a5);refine sS (sc (some 71) (r1 :) (.refl _) (fun V5 P6 U8 e7 J0=>?_));obtain ⟨W2,h4,s8,r7,t7⟩:=J0;rw [s8,r7];clear s8 r7;replace a3:=a3.mono e7;replace a4:=a4.mono e7;replace a5:=a5.mono e7;replace a0:=a0.mono e7;replace a1:=a1.mono e7;replace a2:=a2.mono e7;obtain ⟨j6,j7,q2,K3⟩:=t7.shape;subst q2;refine pm (M':=((bX b3 #[vI (B.places),vI (B.sorts),vS b4 B.start.length b5,vS b6 B.keeps.length b7,vS b8 B.slips.length b9] 26)::(bX b1 #[vI (A.places),vI (A.sorts),vS a6 A.start.length a7,vS a8 A.keeps.length a9,vS b0 A.slips.length b2] 26)::(h4++F))) (PW PM) (sp 5 [(8,vI (((GO A).2))),(15,vS j6 ((GO A).1).length j7)] (sn (sd (dnb 75 0 0 b3 [vI (B.places),vI (B.sorts),vS b4 B.start.length b5,vS b6 B.keeps.length b7,vS b8 B.slips.length b9]) ?_)));have r2:=Gaps_ct P6 _ (B) (CR a0 a1 a2);refine sS (sc (some 76) (r2 :) (.refl _) (fun V6 P7 U9 e8 J1=>?_));obtain ⟨W3,h5,s9,r8,t8⟩:=J1;rw [s9,r8];clear s9 r8;replace a3:=a3.mono e8;replace a4:=a4.mono e8;replace a5:=a5.mono e8;replace a0:=a0.mono e8;replace a1:=a1.mono e8;replace a2:=a2.mono e8;obtain ⟨j8,j9,q3,K4⟩:=t8.shape;subst q3;refine pm (M':=((bX b3 #[vI (B.places),vI (B.sorts),vS b4 B.start.length b5,vS b6 B.keeps.length b7,vS b8 B.slips.length b9] 26)::(bX b1 #[vI (A.places),vI (A.sorts),vS a6 A.start.length a7,vS a8 A.keeps.length a9,vS b0 A.slips.length b2] 26)::(h5++(h4++F)))) (PW PM) (sp 5 [(10,vI (((GO B).2))),(16,vS j8 ((GO B).1).length j9)] (sn (sd (dnb 80 1 0 b1 [vI (A.places),vI (A.sorts),vS a6 A.start.length a7,vS a8 A.keeps.length a9,vS b0 A.slips.length b2]) ?_)));have r3:=LOwed_ct P7 _ (A) (CR a3 a4 a5);refine sS (sc (some 81) (r3 :) (.refl _) (fun V7 P8 V0 e9 J2=>?_));obtain ⟨W4,h6,t0,r9,t9⟩:=J2;rw [t0,r9];clear t0 r9;replace a3:=a3.mono e9;replace a4:=a4.mono e9;replace a5:=a5.mono e9;replace a0:=a0.mono e9;replace a1:=a1.mono e9;replace a2:=a2.mono e9;obtain ⟨k0,k6,q4,K5⟩:=t9.shape;subst q4;refine pm (M':=((bX b3 #[vI (B.places),vI (B.sorts),vS b4 B.start.length b5,vS b6 B.keeps.length b7,vS b8 B.slips.length b9] 26)::(bX b1 #[vI (A.places),vI (A.sorts),vS a6 A.start.length a7,vS a8 A.keeps.length a9,vS b0 A.slips.length b2] 26)::(h6++(h5++(h4++F))))) (PW PM) (sp 5 [(12,vI (((JH A).2))),(17,vS k0 ((JH A).1).length k6)] (sn (sd (dnb 85 0 0 b3 [vI (B.places),vI (B.sorts),vS b4 B.start.length b5,vS b6 B.keeps.length b7,vS b8 B.slips.length b9]) ?_)));have p3:=LOwed_ct P8 _ (B) (CR a0 a1 a2);refine sS (sc (some 86) (p3 :) (.refl _) (fun M6 O6 M1 c9 s0=>?_));obtain ⟨O1,f5,n1,m6,n6⟩:=s0;rw [n1,m6];clear n1 m6;replace a3:=a3.mono c9;replace a4:=a4.mono c9;replace a5:=a5.mono c9;replace a0:=a0.mono c9;replace a1:=a1.mono c9;replace a2:=a2.mono c9;obtain ⟨h8,h9,l6,z6⟩:=n6.shape;subst l6;refine pm (M':=((bX b3 #[vI (B.places),vI (B.sorts),vS b4 B.start.length b5,vS b6 B.keeps.length b7,vS b8 B.slips.length b9] 26)::(bX b1 #[vI (A.places),vI (A.sorts),vS a6 A.start.length a7,vS a8 A.keeps.length a9,vS b0 A.slips.length b2] 26)::(f5++(h6++(h5++(h4++F)))))) (PW PM) (sp 5 [(14,vI (((JH B).2))),(18,vS h8 ((JH B).1).length h9)] (se (rq (rq ?_))));refine CF (B:=((bX b3 #[vI (B.places),vI (B.sorts),vS b4 B.start.length b5,vS b6 B.keeps.length b7,vS b8 B.slips.length b9] 26)::(bX b1 #[vI (A.places),vI (A.sorts),vS a6 A.start.length a7,vS a8 A.keeps.length a9,vS b0 A.slips.length b2] 26)::(f5++(h6++(h5++F))))) QK t7 (by first | omega | (simp only [LS,LC,LN,LA,LK,LD] <;> omega) | decide) (PU (PU (PV (PV (PO _ _ _))))) (PR _) (fun O7 d0 c2=>?_);replace a3:=a3.mono d0;replace a4:=a4.mono d0;replace a5:=a5.mono d0;replace a0:=a0.mono d0;replace a1:=a1.mono d0;replace a2:=a2.mono d0;obtain ⟨u2,u4,u3,u7,k7,u5,u6,u8⟩:=id c2;cases k7;refine CF (B:=((bX b3 #[vI (B.places),vI (B.sorts),vS b4 B.start.length b5,vS b6 B.keeps.length b7,vS b8 B.slips.length b9] 26)::(bX b1 #[vI (A.places),vI (A.sorts),vS a6 A.start.length a7,vS a8 A.keeps.length a9,vS b0 A.slips.length b2] 26)::(f5++(h6++F)))) QK t8 (by first | omega | (simp only [LS,LC,LN,LA,LK,LD] <;> omega) | decide) (PU (PU (PV (PO _ _ _)))) (PR _) (fun O8 c4 d4=>?_);replace a3:=a3.mono c4;replace a4:=a4.mono c4;replace a5:=a5.mono c4;replace a0:=a0.mono c4;replace a1:=a1.mono c4;replace a2:=a2.mono c4;replace c2:=c2.mono c4;obtain ⟨u9,v1,v0,v4,k8,v2,v3,v5⟩:=id d4;cases k8;refine CF (B:=((bX b3 #[vI (B.places),vI (B.sorts),vS b4 B.start.length b5,vS b6 B.keeps.length b7,vS b8 B.slips.length b9] 26)::(bX b1 #[vI (A.places),vI (A.sorts),vS a6 A.start.length a7,vS a8 A.keeps.length a9,vS b0 A.slips.length b2] 26)::(f5++F))) CY t9 (by first | omega | (simp only [LS,LC,LN,LA,LK,LD] <;> omega) | decide) (PU (PU (PO _ _ _))) (PR _) (fun O9 c3 f0=>?_);replace a3:=a3.mono c3;replace a4:=a4.mono c3;replace a5:=a5.mono c3;replace a0:=a0.mono c3;replace a1:=a1.mono c3;replace a2:=a2.mono c3;replace c2:=c2.mono c3;replace d4:=d4.mono c3;obtain ⟨v6,v8,v7,x1,k9,v9,x0,x2⟩:=id f0;cases k9;refine CF (B:=((bX b3 #[vI (B.places),vI (B.sorts),vS b4 B.start.length b5,vS b6 B.keeps.length b7,vS b8 B.slips.length b9] 26)::(bX b1 #[vI (A.places),vI (A.sorts),vS a6 A.start.length a7,vS a8 A.keeps.length a9,vS b0 A.slips.length b2] 26)::F)) CY n6 (by first | omega | (simp only [LS,LC,LN,LA,LK,LD] <;> omega) | decide) (PU (PM.symm)) (PR _) (fun A9 c1 h7=>?_);replace a3:=a3.mono c1;replace a4:=a4.mono c1;replace a5:=a5.mono c1;replace a0:=a0.mono c1;replace a1:=a1.mono c1;replace a2:=a2.mono c1;replace c2:=c2.mono c1;replace d4:=d4.mono c1;replace f0:=f0.mono c1;obtain ⟨x3,x5,x4,x8,l0,x6,x7,x9⟩:=id h7;cases l0;refine rr (sp 2 [(90,.bool (!(cmp .eql (((GO A).2)) (0))))] (BP 90 rfl (show (.bool (!(cmp .eql (((GO A).2)) (0))):Value)=.bool (false) from congrArg Value.bool (by rw [o3];rfl)) (sp 3 [(93,.bool (!(cmp .eql (((GO B).2)) (0)))),(91,.bool (false))] (BP 93 rfl (show (.bool (!(cmp .eql (((GO B).2)) (0))):Value)=.bool (false) from congrArg Value.bool (by rw [e3,o3];rfl)) (sp 4 [(97,.bool (!(cmp .eql (((JH A).2)) (0)))),(95,.bool (false))] (BP 97 rfl (show (.bool (!(cmp .eql (((JH A).2)) (0))):Value)=.bool (false) from congrArg Value.bool (by rw [o4];rfl)) (sp 4 [(101,.bool (!(cmp .eql (((JH B).2)) (0)))),(99,.bool (false))] (BP 101 rfl (show (.bool (!(cmp .eql (((JH B).2)) (0))):Value)=.bool (false) from congrArg Value.bool (by rw [e4,o4];rfl)) (sp 4 [(105,vS j8 ((GO B).1).length j9),(104,vS j6 ((GO A).1).length j7),(103,.bool (false))] (sd (dc 106 (fun I' hI=>(PG I' _ _ _ _ (c2.mono hI) (d4.mono hI) :))) (BP 106 rfl (show (.bool (decide (((GO A).1)=((GO B).1))):Value)=.bool (true) from congrArg Value.bool (decide_eq_true (by rw [e3]))) (sp 5 [(111,vS h8 ((JH B).1).length h9),(110,vS k0 ((JH A).1).length k6),(109,.bool (!(true)))] (sd (dc 112 (fun I' hI=>(EqualDebts_ct I' _ _ _ _ (f0.mono hI) (h7.mono hI) :))) (BP 112 rfl (show (.bool (decide (((JH A).1)=((JH B).1))):Value)=.bool (true) from congrArg Value.bool (decide_eq_true (by rw [e4]))) (sp 2 [(114,.bool (!(true)))] (se (rcf 114 rfl (AQ (NX (rqr (sd (dnb 116 1 0 b1 [vI (A.places),vI (A.sorts),vS a6 A.start.length a7,vS a8 A.keeps.length a9,vS b0 A.slips.length b2]) ?_)))))))))))))))))))));have p4:=Below_ct A9 _ (A) (CR a3 a4 a5);refine sS (sc (some 117) (p4 :) (.refl _) (fun M7 B0 M2 d1 s1=>?_));obtain ⟨O2,i0,n2,m7,n7⟩:=s1;rw [n2,m7];clear n2 m7;replace a3:=a3.mono d1;replace a4:=a4.mono d1;replace a5:=a5.mono d1;replace a0:=a0.mono d1;replace a1:=a1.mono d1;replace a2:=a2.mono d1;obtain ⟨f9,g0,l7,z7⟩:=n7.shape;subst l7;refine pm (M':=((bX b3 #[vI (B.places),vI (B.sorts),vS b4 B.start.length b5,vS b6 B.keeps.length b7,vS b8 B.slips.length b9] 26)::(bX b1 #[vI (A.places),vI (A.sorts),vS a6 A.start.length a7,vS a8 A.keeps.length a9,vS b0 A.slips.length b2] 26)::(i0++F))) (PW PM) (sp 5 [(8,vI (((FG A).2))),(7,vS f9 ((FG A).1).length g0)] (sn (sd (dnb 121 0 0 b3 [vI (B.places),vI (B.sorts),vS b4 B.start.length b5,vS b6 B.keeps.length b7,vS b8 B.slips.length b9]) ?_)));have p5:=Below_ct B0 _ (B) (CR a0 a1 a2);refine sS (sc (some 122) (p5 :) (.refl _) (fun M8 B1 M3 d2 s2=>?_));obtain ⟨O3,i1,n3,m8,n8⟩:=s2;rw [n3,m8];clear n3 m8;replace a3:=a3.mono d2;replace a4:=a4.mono d2;replace a5:=a5.mono d2;replace a0:=a0.mono d2;replace a1:=a1.mono d2;replace a2:=a2.mono d2;obtain ⟨g1,g2,l8,z8⟩:=n8.shape;subst l8;refine pm (M':=((bX b3 #[vI (B.places),vI (B.sorts),vS b4 B.start.length b5,vS b6 B.keeps.length b7,vS b8 B.slips.length b9] 26)::(bX b1 #[vI (A.places),vI (A.sorts),vS a6 A.start.length a7,vS a8 A.keeps.length a9,vS b0 A.slips.length b2] 26)::(i1++(i0++F)))) (PW PM) (sp 5 [(10,vI (((FG B).2))),(9,vS g1 ((FG B).1).length g2)] (sn (sd (dnb 126 1 0 b1 [vI (A.places),vI (A.sorts),vS a6 A.start.length a7,vS a8 A.keeps.length a9,vS b0 A.slips.length b2]) ?_)));have p6:=LWrong_ct B1 _ (A) (CR a3 a4 a5);refine sS (sc (some 127) (p6 :) (.refl _) (fun M9 B2 M4 f1 s3=>?_));obtain ⟨O4,n4,m9,t1⟩:=s3;rw [n4,m9];clear n4 m9;replace a0:=a0.mono f1;replace a1:=a1.mono f1;replace a2:=a2.mono f1;have c0:=t1;obtain ⟨g3,g4,z9,A2,l9,A0,A1,A3⟩:=id c0;subst l9;refine nm ?_;refine sp 5 [(12,vI (((CH A).2))),(19,vS g3 ((CH A).1).length g4)] (sn (sd (dnb 131 0 0 b3 [vI (B.places),vI (B.sorts),vS b4 B.start.length b5,vS b6 B.keeps.length b7,vS b8 B.slips.length b9]) ?_));have p7:=LWrong_ct B2 _ (B) (CR a0 a1 a2);refine sS (sc (some 132) (p7 :) (.refl _) (fun O0 P0 M5 g8 s4=>?_));obtain ⟨O5,n5,n0,t2⟩:=s4;rw [n5,n0];clear n5 n0;replace c0:=c0.mono g8;have c5:=t2;obtain ⟨g5,g6,A4,A7,m0,A5,A6,A8⟩:=id c5;subst m0;refine nm ?_;refine sp 5 [(14,vI (((CH B).2))),(20,vS g5 ((CH B).1).length g6)] (se (rq ?_));refine CF (B:=((bX b3 #[vI (B.places),vI (B.sorts),vS b4 B.start.length b5,vS b6 B.keeps.length b7,vS b8 B.slips.length b9] 26)::(bX b1 #[vI (A.places),vI (A.sorts),vS a6 A.start.length a7,vS a8 A.keeps.length a9,vS b0 A.slips.length b2] 26)::(i1++F))) 0 n7 (by first | omega | (simp only [LS,LC,LN,LA,LK,LD] <;> omega) | decide) (PU (PU (PO _ _ _))) (PR _) (fun P2 f8 d6=>?_);replace c0:=c0.mono f8;replace c5:=c5.mono f8;obtain ⟨y0,y2,y1,y5,l4,y3,y4,y6⟩:=id d6;cases l4;refine CF (B:=((bX b3 #[vI (B.places),vI (B.sorts),vS b4 B.start.length b5,vS b6 B.keeps.length b7,vS b8 B.slips.length b9] 26)::(bX b1 #[vI (A.places),vI (A.sorts),vS a6 A.start.length a7,vS a8 A.keeps.length a9,vS b0 A.slips.length b2] 26)::F)) 0 n8 (by first | omega | (simp only [LS,LC,LN,LA,LK,LD] <;> omega) | decide) (PU (PM.symm)) (PR _) (fun P3 f2 f7=>?_);replace c0:=c0.mono f2;replace c5:=c5.mono f2;replace d6:=d6.mono f2;obtain ⟨y7,y9,y8,z4,l5,z0,z3,z5⟩:=id f7;cases l5;refine rr (sp 2 [(136,.bool (cmp .eql (((FG A).2)) (0)))] (BP 136 rfl (show (.bool (cmp .eql (((FG A).2)) (0)):Value)=.bool (true) from congrArg Value.bool (by rw [o5];rfl)) (sp 3 [(139,.bool (cmp .eql (((FG B).2)) (0))),(137,.bool (true))] (BP 139 rfl (show (.bool (cmp .eql (((FG B).2)) (0)):Value)=.bool (true) from congrArg Value.bool (by rw [e5,o5];rfl)) (sp 5 [(144,.bool (cmp .eql (((CH A).2)) (((CH B).2)))),(141,.bool (true))] (BP 144 rfl (show (.bool (cmp .eql (((CH A).2)) (((CH B).2))):Value)=.bool (true) from congrArg Value.bool (decide_eq_true (by rw [e6]))) (sp 5 [(149,.bool (cmp .eql (((CH A).2)) (0))),(146,.bool (true))] ?_)))))));refine BS 149 rfl (fun h1=>?_) (fun h1=>?_)
 ·
  have i5:=h1;have i5:=BW i5;refine sp 7 [(156,vS g1 ((FG B).1).length g2),(155,vS f9 ((FG A).1).length g0),(154,.bool (true))] (sd (dc 157 (fun I' hI=>(EY I' _ _ _ _ (d6.mono hI) (f7.mono hI) :))) (BP 157 rfl (show (.bool (decide (((FG A).1)=((FG B).1))):Value)=.bool (true) from congrArg Value.bool (decide_eq_true (by rw [e5]))) (sp 4 [(161,vS g5 ((CH B).1).length g6),(160,vS g3 ((CH A).1).length g4),(159,.bool (true))] (sd (dc 162 (fun I' hI=>(EY I' _ _ _ _ (c0.mono hI) (c5.mono hI) :))) (BP 162 rfl (show (.bool (decide (((CH A).1)=((CH B).1))):Value)=.bool (true) from congrArg Value.bool (decide_eq_true (by rw [e6]))) (sp 2 [(6,.bool (true))] (se (BL (AH (t:=6) [] (by kernel_rfl) rfl (TC _ (TC _ (TR _))) (IT (IT (IT (IT (IT (IT (IT (IT (IT (IT (IT (IT (IT (IT (IT (IT (IT (IT (IT (IT (IT g7 d9) e0) d7) d5) d3) c6) c7) e7) e8) e9) c9) d0) c4) c3) c1) d1) d2) f1) g8) f8) f2) ?_)))))))));exact ⟨rfl,rfl⟩
 have i5:=h1;have i5:=BV i5;refine sp 2 [(151,.bool (cmp .eql (((CH A).2)) (11)))] (BP 151 rfl (show (.bool (cmp .eql (((CH A).2)) (11)):Value)=.bool (true) from congrArg Value.bool (decide_eq_true (by omega))) (sp 5 [(156,vS g1 ((FG B).1).length g2),(155,vS f9 ((FG A).1).length g0),(154,.bool (true))] (sd (dc 157 (fun I' hI=>(EY I' _ _ _ _ (d6.mono hI) (f7.mono hI) :))) (BP 157 rfl (show (.bool (decide (((FG A).1)=((FG B).1))):Value)=.bool (true) from congrArg Value.bool (decide_eq_true (by rw [e5]))) (sp 4 [(161,vS g5 ((CH B).1).length g6),(160,vS g3 ((CH A).1).length g4),(159,.bool (true))] (sd (dc 162 (fun I' hI=>(EY I' _ _ _ _ (c0.mono hI) (c5.mono hI) :))) (BP 162 rfl (show (.bool (decide (((CH A).1)=((CH B).1))):Value)=.bool (true) from congrArg Value.bool (decide_eq_true (by rw [e6]))) (sp 2 [(6,.bool (true))] (se (BL (AH (t:=6) [] (by kernel_rfl) rfl (TC _ (TC _ (TR _))) (IT (IT (IT (IT (IT (IT (IT (IT (IT (IT (IT (IT (IT (IT (IT (IT (IT (IT (IT (IT (IT g7 d9) e0) d7) d5) d3) c6) c7) e7) e8) e9) c9) d0) c4) c3) c1) d1) d2) f1) g8) f8) f2) ?_)))))))))));exact ⟨rfl,rfl⟩
end Go.Proofs.YtgcemienebmdeaaGreat
namespace Go.Sh
open Go Go.Sl
def gAt (cs:List Car) (i:Nat):Int:=(cs.getD i noCar).grp
structure CarsInv (cs:List Car) (g l:Int):Prop where
  ok:∀ c∈cs,carErr c=0∧c.len≤3
  le:∀ i,i<cs.length→gAt cs i≤g
  run:∀ i j,i≤j→j<cs.length→gAt cs i=gAt cs j→gAt cs i≠0→∀ m,i≤m→m≤j→gAt cs m=gAt cs i
  g0:0≤g∧g≤3
  l0:0≤l∧l≤2
  last:0<l→1≤g∧(0<cs.length→gAt cs (cs.length-1)=g∨∀ i,i<cs.length→gAt cs i<g)
theorem CarsInv.nil:CarsInv [] 0 0:=⟨fun c h=>by simp at h,fun i h=>by simp at h,fun i j _ h=>by simp at h,by omega,by omega,fun h=>by omega⟩
theorem LL {cs:List Car} {c:Car} {i:Nat}:gAt (cs++[c]) i=if i<cs.length then gAt cs i else if i=cs.length then c.grp else 0:=by
  unfold gAt;simp only [List.getD]
  split
  · rename_i h;rw [List.getElem?_append_left h]
  · rename_i h
    rw [List.getElem?_append_right (by omega)]
    split
    · rename_i h2;simp [h2]
    · rename_i h2
      have:1≤i-cs.length:=by omega
      cases hh:i-cs.length with
      | zero=>omega
      | succ n=>simp [noCar]
theorem CarsInv.snoc {cs:List Car} {g l:Int} (h:CarsInv cs g l) {c:Car} (hc:carErr c=0∧c.len≤3) (hg:(0<l→c.grp=g)∧(¬ 0<l→c.grp=0)):CarsInv (cs++[c]) g (if 0<l then l-1 else l):=by
  have hg0:=h.g0;have hl0:=h.l0;have hle:c.grp≤g:=by by_cases hl:0<l;exact Int.le_of_eq (hg.1 hl);rw [hg.2 hl];omega
  refine ⟨fun x hx=>?_,fun i hi=>?_,?_,hg0,by split <;> omega,fun hl=>?_⟩
  · rcases List.mem_append.1 hx with hx | hx
    · exact h.ok x hx
    · simp at hx;subst hx;exact hc
  · rw [LL]
    split
    · rename_i h1;exact h.le i h1
    · split
      · exact hle
      · omega
  · intro i j hij hj e h0 m him hmj
    simp only [List.length_append,List.length_cons,List.length_nil] at hj;have A:∀ x,x<cs.length→gAt (cs++[c]) x=gAt cs x:=fun x hx=>by rw [LL,if_pos hx]
    have B:gAt (cs++[c]) cs.length=c.grp:=by rw [LL,if_neg (by omega),if_pos rfl]
    by_cases hj1:j<cs.length
    · rw [A i (by omega)] at e h0 ⊢
      rw [A j hj1] at e;rw [A m (by omega)];exact h.run i j hij hj1 e h0 m him hmj
    · have hj2:j=cs.length:=by omega
      subst hj2;rw [B] at e
      by_cases hi1:i<cs.length
      · rw [A i hi1] at e h0 ⊢
        by_cases hm1:m<cs.length
        · rw [A m hm1]
          by_cases hl:0<l
          · have hcg:=hg.1 hl
            rcases (h.last hl).2 (by omega) with hla | hla
            · exact h.run i (cs.length-1) (by omega) (by omega) (by rw [hla];omega) h0 m him (by omega)
            · have:=hla i hi1;omega
          · have:=hg.2 hl;omega
        · have hm2:m=cs.length:=by omega
          subst hm2;rw [B];exact e.symm
      · have hi2:i=cs.length:=by omega
        have hm2:m=i:=by omega
        rw [hm2]
  · have hl1 : 0 < l := by
      by_cases h1:0<l
      · exact h1
      · rw [if_neg h1] at hl;exact hl
    have:=h.last hl1;refine ⟨this.1,fun _=>.inl ?_⟩;have e:(cs++[c]).length-1=cs.length:=by simp
    rw [e,LL,if_neg (by omega),if_pos rfl];exact hg.1 hl1
structure Placed (cs:List Car) (T k a:Nat) (ts:List (List Int)):Prop where
  len:ts.length=T
  a0:a<T
  perm:ts.flatten.Perm (DR k)
  ex:∃ tr:Nat→Nat,(∀ i,i<T→ts.getD i []=(DR k).filter fun c=>decide (tr c.toNat=i))∧(∀ c,c<k→tr c<T)∧(∀ c,c+1<k→gAt cs (c+1)≠0→gAt cs (c+1)=gAt cs c→tr (c+1)=tr c)∧(0<k→tr (k-1)=a)
theorem mem_wholeL {n:Nat} {c:Int}:c∈DR n↔0≤c∧c<n:=by
  unfold DR;simp only [List.mem_map,List.mem_range]
  constructor
  · rintro ⟨i,hi,rfl⟩;omega
  · intro h;exact ⟨c.toNat,by omega,by omega⟩
theorem Placed.start {cs:List Car} {T:Nat} (hT:0<T):Placed cs T 0 0 (List.replicate T []):=by
  refine ⟨by simp,hT,by simp [DR],fun _=>0,fun i hi=>?_,fun c h=>by omega,fun c h=>by omega,fun h=>by omega⟩;simp [DR,List.getD,hi]
theorem QI:∀ (ts:List (List Int)) (a:Nat) (x:Int),a<ts.length→(ts.set a (ts.getD a []++[x])).flatten.Perm (ts.flatten++[x]):=by
  intro ts
  induction ts with
  | nil=>intro a x h;simp at h
  | cons t r ih=>
    intro a x h;cases a with
    | zero=>
      simp only [List.set_cons_zero,List.getD_cons_zero,List.flatten_cons,List.append_assoc];exact List.Perm.append_left t List.perm_append_comm
    | succ a=>
      simp only [List.set_cons_succ,List.getD_cons_succ,List.flatten_cons,List.append_assoc];exact List.Perm.append_left t (ih a x (by simpa using h))
theorem Placed.put {cs : List Car} {T k a a2 : Nat} {ts : List (List Int)} (h : Placed cs T k a ts) (h2 : a2 < T) (hs : k ≠ 0 → gAt cs k ≠ 0 → gAt cs k = gAt cs (k - 1) → a2 = a) :
    Placed cs T (k+1) a2 (ts.set a2 (ts.getD a2 []++[(k:Int)])):=by
  obtain ⟨tr,t1,t2,t3,t4⟩:=h.ex;have hl:=h.len;refine ⟨by rw [List.length_set];exact hl,h2,?_,fun c=>if c=k then a2 else tr c,fun i hi=>?_,fun c hc=>?_,fun c hc h0 he=>?_,fun _=>?_⟩
  · rw [MN]
    exact (QI ts a2 k (by omega)).trans (List.Perm.append_right _ h.perm)
  · have hf : (DR k).filter (fun c => decide ((if c.toNat = k then a2 else tr c.toNat) = i)) = ts.getD i [] := by
      rw [t1 i hi];refine List.filter_congr fun c hc=>?_
      have:=mem_wholeL.1 hc;rw [if_neg (by omega)]
    rw [MN,List.filter_append,hf]
    by_cases e:a2=i
    · subst e
      simp [List.getD,List.getElem?_set,hl,hi]
    · simp [List.getD,List.getElem?_set,e]
  · show (if c=k then a2 else tr c)<T
    split
    · exact h2
    · exact t2 c (by omega)
  · show (if c+1=k then a2 else tr (c+1))=(if c=k then a2 else tr c)
    by_cases e1:c+1=k
    · have e3:¬ c=k:=by omega
      rw [if_pos e1,if_neg e3];have:=hs (by omega) (by rw [← e1];exact h0) (by rw [← e1];exact he);rw [this,← t4 (by omega),← e1];rfl
    · have e3:¬ c=k:=by omega
      rw [if_neg e1,if_neg e3];exact t3 c (by omega) h0 he
  · simp
theorem sorted_prev {l:List Int} (hs:l.Pairwise (·<·)) {j:Nat} (hj:j<l.length) (hm:l.getD j 0-1∈l):0<j∧l.getD (j-1) 0=l.getD j 0-1:=by
  obtain ⟨m,hm1,hm2⟩:=List.mem_iff_getElem.1 hm;have hlt:∀ (x y:Nat) (hx:x<l.length) (hy:y<l.length),x<y→l.getD x 0<l.getD y 0:=fun x y hx hy h=>by
    have:=List.pairwise_iff_getElem.1 hs x y hx hy h
    simpa [List.getD,hx,hy] using this
  have e:l.getD m 0=l.getD j 0-1:=by simpa [List.getD,hm1] using hm2
  have h1:m<j:=by
    rcases Nat.lt_trichotomy m j with h | h | h
    · exact h
    · subst h;omega
    · have:=hlt j m hj hm1 h;omega
  rcases Nat.lt_or_ge m (j-1) with h2 | h2
  · have a:=hlt m (j-1) hm1 (by omega) h2
    have b:=hlt (j-1) j (by omega) hj (by omega);omega
  · have:m=j-1:=by omega
    subst this;exact ⟨by omega,e⟩
theorem wholeL_sorted (n:Nat):(DR n).Pairwise (·<·):=by
  unfold DR;rw [List.pairwise_map];exact List.pairwise_lt_range.imp fun h=>by omega
theorem Placed.groups {cs:List Car} {T a:Nat} {ts:List (List Int)} {g l:Int} (h:Placed cs T cs.length a ts) (hc:CarsInv cs g l):GrpFrom cs ts []:=by
  obtain ⟨tr,t1,t2,t3,t4⟩:=h.ex;have hmem:∀ i,i<T→∀ c,c∈ts.getD i []↔(0≤c∧c<cs.length)∧tr c.toNat=i:=fun i hi c=>by
    rw [t1 i hi,List.mem_filter,mem_wholeL,decide_eq_true_eq]
  have hgrp:∀ c:Int,grp cs c=gAt cs c.toNat:=fun c=>rfl
  have hrun:∀ n x:Nat,x+n<cs.length→gAt cs x≠0→gAt cs x=gAt cs (x+n)→tr (x+n)=tr x:=by
    intro n
    induction n with
    | zero=>intro x _ _ _;rfl
    | succ n ih=>
      intro x hx h0 e;have e1:gAt cs (x+n)=gAt cs x:=hc.run x (x+(n+1)) (by omega) hx e h0 (x+n) (by omega) (by omega);have:=ih x (by omega) h0 e1.symm;rw [← this];exact t3 (x+n) (by omega) (by rw [show x+n+1=x+(n+1) by omega,← e];exact h0) (by rw [show x+n+1=x+(n+1) by omega,← e,e1])
  have hrun2:∀ x y:Nat,x<cs.length→y<cs.length→gAt cs x≠0→gAt cs x=gAt cs y→tr x=tr y:=fun x y hx hy h0 e=>by
    rcases Nat.le_total x y with hxy | hxy
    · have:=hrun (y-x) x (by omega) h0 (by rw [show x+(y-x)=y by omega];exact e)
      rw [show x+(y-x)=y by omega] at this;exact this.symm
    · have:=hrun (x-y) y (by omega) (by rw [← e];exact h0) (by rw [show y+(x-y)=x by omega];exact e.symm)
      rw [show y+(x-y)=x by omega] at this;exact this
  intro i j hi hj h0 hm;rw [h.len] at hi;have hcm:(ts.getD i []).getD j 0∈ts.getD i []:=AX hj;obtain ⟨⟨c0,c1⟩,c2⟩:=(hmem i hi _).1 hcm
  generalize hcc:(ts.getD i []).getD j 0=c at hcm c0 c1 c2 h0 hm
  rcases hm with hm | ⟨c',hc',e⟩
  · simp at hm
  · rw [hgrp,hgrp] at e
    rw [hgrp] at h0;have hs:(ts.getD i []).Pairwise (·<·):=by rw [t1 i hi];exact (wholeL_sorted _).sublist List.filter_sublist
    have hc2:(0≤c'∧c'<cs.length)∧(tr c'.toNat<i∨c'∈(ts.getD i []).take j):=by
      rcases List.mem_append.1 hc' with hx | hx
      · obtain ⟨t,ht,hx⟩:=List.mem_flatten.1 hx
        obtain ⟨m,hm1,hm2⟩:=List.mem_iff_getElem.1 ht;have hm3:m<i∧m<ts.length:=by rw [List.length_take] at hm1;omega
        have e3:ts.getD m []=t:=by rw [← hm2];simp [List.getD,hm3.2]
        rw [← e3] at hx;obtain ⟨hb,ht2⟩:=(hmem m (by rw [← h.len];exact hm3.2) _).1 hx;exact ⟨hb,.inl (by omega)⟩
      · exact ⟨((hmem i hi _).1 (List.mem_of_mem_take hx)).1,.inr hx⟩
    obtain ⟨⟨d0,d1⟩,hd⟩:=hc2;have htr:=hrun2 c.toNat c'.toNat (by omega) (by omega) (by omega) e.symm;rcases hd with hd | hd
    · omega
    · obtain ⟨m,hm1,hm2⟩:=List.mem_iff_getElem.1 hd
      have hm3:m<j∧m<(ts.getD i []).length:=by rw [List.length_take] at hm1;omega
      have hlt:c'<c:=by
        have h1:=List.pairwise_iff_getElem.1 hs m j hm3.2 hj hm3.1;have e1:c'=(ts.getD i [])[m]:=by rw [← hm2];simp
        have e2:c=(ts.getD i [])[j]:=by rw [← hcc,List.getD,List.getElem?_eq_getElem hj];rfl
        rw [e1,e2];exact h1
      have e4:gAt cs (c.toNat-1)=gAt cs c'.toNat:=hc.run c'.toNat c.toNat (by omega) (by omega) e (by omega) (c.toNat-1) (by omega) (by omega);have e5:tr (c.toNat-1)=i:=by
        have:=hrun2 (c.toNat-1) c.toNat (by omega) (by omega) (by omega) (by omega);omega
      have hin:c-1∈ts.getD i []:=(hmem i hi _).2 ⟨by omega,by rw [show (c-1).toNat=c.toNat-1 by omega];exact e5⟩;have hp:=sorted_prev hs hj (by rw [hcc];exact hin);rw [hcc] at hp;unfold DJ;have e6:((j:Int)-1).toNat=j-1:=by omega
      rw [show (↑j:Int).toNat=j by omega,e6,hp.2,hcc];have e7:inB ↑j 1 (↑(ts.getD i []).length-1)=true:=by simp only [inB,Bool.and_eq_true,decide_eq_true_eq];omega
      rw [e7];have e8:(KN cs c).grp=(KN cs (c-1)).grp:=by
        show gAt cs c.toNat=gAt cs (c-1).toNat;rw [show (c-1).toNat=c.toNat-1 by omega];omega
      rw [decide_eq_true (show 0<(KN cs c).grp from h0),decide_eq_true e8];rfl
structure Roomy (cs:List Car) (ts:List (List Int)) (k:Nat) (rm:List Int):Prop where
  len:rm.length=k
  ok:∀ n∈rm,0≤n∧n≤20
  fits:∀ i,i<k→lenOf cs (ts.getD i [])≤rm.getD i 0
theorem Roomy.nil (cs:List Car) (ts:List (List Int)):Roomy cs ts 0 []:=⟨rfl,fun n h=>by simp at h,fun i h=>by omega⟩
theorem Roomy.snoc {cs:List Car} {ts:List (List Int)} {k:Nat} {rm:List Int} (h:Roomy cs ts k rm) {n:Int} (hn:0≤n∧n≤20) (hf:lenOf cs (ts.getD k [])≤n):Roomy cs ts (k+1) (rm++[n]):=by
  have hl:=h.len;refine ⟨by simp [hl],fun x hx=>?_,fun i hi=>?_⟩
  · rcases List.mem_append.1 hx with hx | hx
    · exact h.ok x hx
    · simp at hx;subst hx;exact hn
  · by_cases e:i<k
    · have:=h.fits i e
      have e2:(rm++[n]).getD i 0=rm.getD i 0:=by simp only [List.getD];rw [List.getElem?_append_left (by omega)]
      rw [e2];exact this
    · have:i=k:=by omega
      subst this;have e2:(rm++[n]).getD i 0=n:=by simp only [List.getD];rw [List.getElem?_append_right (by omega),hl];simp
      rw [e2];exact hf
theorem Placed.tracks {cs:List Car} {T k a:Nat} {ts:List (List Int)} (h:Placed cs T k a ts):ts.flatten.length=k:=by rw [h.perm.length_eq,FF]
theorem Placed.tl {cs:List Car} {T k a:Nat} {ts:List (List Int)} (h:Placed cs T k a ts):∀ t∈ts,t.length≤k:=fun t ht=>by
  have:=HJ ht;rw [h.tracks] at this;exact this
theorem Placed.okAll {cs:List Car} {T a:Nat} {ts:List (List Int)} (h:Placed cs T cs.length a ts):OkAll cs ts:=fun t ht c hc=>
  mem_wholeL.1 (h.perm.mem_iff.1 (List.mem_flatten.2 ⟨t,ht,hc⟩))
theorem perm_sum {l m:List Int} (h:l.Perm m):l.sum=m.sum:=by
  induction h with
  | nil=>rfl
  | cons x _ ih=>simp [ih]
  | swap x y l=>simp only [List.sum_cons];omega
  | trans _ _ h1 h2=>exact h1.trans h2
theorem erase_perm {α:Type} {d:α} {l:List α} {i:Nat} (h:i<l.length):(l.getD i d::l.eraseIdx i).Perm l:=by
  have e:l=l.take i++l.getD i d::l.drop (i+1):=by rw [← MU h,List.take_append_drop]
  rw [← erase_take];exact (List.perm_middle.symm).trans (List.Perm.of_eq e.symm)
structure Blk (cs:List Car) (bl:List (List Int)):Prop where
  one:∀ b∈bl,∀ x∈b,∀ y∈b,grp cs x=grp cs y
  apart:bl.Pairwise fun b c=>∀ x∈b,∀ y∈c,0<grp cs x→grp cs x≠grp cs y
theorem Blk.perm {cs:List Car} {bl bl':List (List Int)} (h:Blk cs bl) (p:bl.Perm bl'):Blk cs bl':=
  ⟨fun b hb=>h.one b (p.mem_iff.2 hb),(p.pairwise_iff (fun {b c} hbc x hx y hy h0 e=>hbc y hy x hx (by omega) e.symm)).1 h.apart⟩
def RowOk (cs:List Car) (t:List Int):Prop:=∀ k,k<t.length→0<grp cs (t.getD k 0)→(∃ c∈t.take k,grp cs c=grp cs (t.getD k 0))→0<k∧grp cs (t.getD (k-1) 0)=grp cs (t.getD k 0)
theorem QQ {a b:List Int} {k:Nat}:(a++b).getD k 0=if k<a.length then a.getD k 0 else b.getD (k-a.length) 0:=by
  simp only [List.getD]
  split
  · rename_i h;rw [List.getElem?_append_left h]
  · rename_i h;rw [List.getElem?_append_right (by omega)]
theorem Blk.row {cs:List Car}:∀ {bl:List (List Int)},Blk cs bl→RowOk cs bl.flatten:=by
  intro bl
  induction bl with
  | nil=>intro _ k hk;simp at hk
  | cons b r ih=>
    intro h k hk h0 hc;have ih:=ih ⟨fun b hb=>h.one b (List.mem_cons_of_mem _ hb),(List.pairwise_cons.1 h.apart).2⟩;rw [List.flatten_cons] at hk h0 hc ⊢;obtain ⟨c,hc,e⟩:=hc
    by_cases hkb:k<b.length
    · have e0:(b++r.flatten).getD k 0=b.getD k 0:=by rw [QQ,if_pos hkb]
      rw [List.take_append_of_le_length (by omega)] at hc;have hk0:0<k:=by
        rcases Nat.eq_zero_or_pos k with hz | hz
        · subst hz;simp at hc
        · exact hz
      refine ⟨hk0,?_⟩;rw [e0,QQ,if_pos (by omega)];exact h.one b List.mem_cons_self _ (AX (by omega)) _ (AX hkb)
    · have e0:(b++r.flatten).getD k 0=r.flatten.getD (k-b.length) 0:=by rw [QQ,if_neg hkb]
      rw [e0] at h0 e ⊢;have hk2:k-b.length<r.flatten.length:=by rw [List.length_append] at hk;omega
      have hmem:r.flatten.getD (k-b.length) 0∈r.flatten:=AX hk2;rw [List.take_append,List.take_of_length_le (by omega)] at hc;rcases List.mem_append.1 hc with hc | hc
      · exfalso
        obtain ⟨b2,hb2,hm2⟩:=List.mem_flatten.1 hmem;exact (List.pairwise_cons.1 h.apart).1 b2 hb2 c hc _ hm2 (by omega) e
      · obtain ⟨i1,i2⟩:=ih (k-b.length) hk2 h0 ⟨c,hc,e⟩
        refine ⟨by omega,?_⟩;rw [QQ,if_neg (by omega),show k-1-b.length=k-b.length-1 by omega];exact i2
theorem coupled_of {cs:List Car} {t:List Int} {k:Nat} (hk:k<t.length) (h0:0<grp cs (t.getD k 0)) (h1:0<k) (e:grp cs (t.getD (k-1) 0)=grp cs (t.getD k 0)):DJ cs t ↑k=true:=by
  rw [coupled_raw hk,show ((k:Int)-1).toNat=k-1 by omega,decide_eq_true (show 0<(k:Int) by omega),decide_eq_true (show 0<(KN cs (t.getD k 0)).grp from h0),decide_eq_true (show (KN cs (t.getD k 0)).grp=(KN cs (t.getD (k-1) 0)).grp from e.symm)];rfl
theorem coupled_to {cs:List Car} {t:List Int} {k:Nat} (hk:k<t.length) (h:DJ cs t ↑k=true):0<k∧0<grp cs (t.getD k 0)∧grp cs (t.getD k 0)=grp cs (t.getD (k-1) 0):=by
  rw [coupled_raw hk,show ((k:Int)-1).toNat=k-1 by omega] at h;simp only [Bool.and_eq_true,decide_eq_true_eq] at h;exact ⟨by omega,h.2.1,h.2.2⟩
theorem blocks_blk {cs : List Car} {t : List Int} (h : ∀ k, k < t.length → 0 < grp cs (t.getD k 0) → (∃ c ∈ t.take k, grp cs c = grp cs (t.getD k 0)) → DJ cs t ↑k = true) :
    ∀ k,k≤t.length→Blk cs (BO cs t k)∧(0<k→∃ ys y,BO cs t k=ys++[y]∧t.getD (k-1) 0∈y):=by
  intro k
  induction k with
  | zero=>intro _;exact ⟨⟨fun b hb=>by simp [BO] at hb,by simp [BO]⟩,fun h=>by omega⟩
  | succ k ih=>
    intro hk;obtain ⟨hb,hl⟩:=ih (by omega)
    by_cases hc:DJ cs t ↑k=true
    · obtain ⟨c1,c2,c3⟩:=coupled_to (by omega) hc
      obtain ⟨ys,y,e,hy⟩:=hl c1;have e2:BO cs t (k+1)=ys++[y++[t.getD k 0]]:=by
        rw [blocksTo_yes hc,e];simp [List.getD]
      rw [e2];rw [e] at hb;have ho:=hb.one;have ha:=List.pairwise_append.1 hb.apart;refine ⟨⟨fun b hb2=>?_,List.pairwise_append.2 ⟨ha.1,by simp,fun b hb2 c hc2=>?_⟩⟩,fun _=>⟨ys,_,rfl,by simp⟩⟩
      · rcases List.mem_append.1 hb2 with hb2 | hb2
        · exact ho b (List.mem_append_left _ hb2)
        · have hb2:=List.mem_singleton.1 hb2
          subst hb2;have key:∀ x∈y++[t.getD k 0],grp cs x=grp cs (t.getD (k-1) 0):=fun x hx=>by
            rcases List.mem_append.1 hx with hx | hx
            · exact ho y (by simp) x hx _ hy
            · have hx:=List.mem_singleton.1 hx;subst hx;exact c3
          intro x hx z hz;rw [key x hx,key z hz]
      · have hc2:=List.mem_singleton.1 hc2
        subst hc2;intro x hx z hz h0;rcases List.mem_append.1 hz with hz | hz
        · exact ha.2.2 b hb2 y (by simp) x hx z hz h0
        · have hz:=List.mem_singleton.1 hz;subst hz
          rw [c3];exact ha.2.2 b hb2 y (by simp) x hx _ hy h0
    · have hc':DJ cs t ↑k=false:=by simpa using hc
      rw [blocksTo_no hc'];refine ⟨⟨fun b hb2=>?_,List.pairwise_append.2 ⟨hb.apart,by simp,fun b hb2 c hc2=>?_⟩⟩,fun _=>⟨_,_,rfl,by simp⟩⟩
      · rcases List.mem_append.1 hb2 with hb2 | hb2
        · exact hb.one b hb2
        · have hb2:=List.mem_singleton.1 hb2
          subst hb2;intro x hx z hz;rw [List.mem_singleton.1 hx,List.mem_singleton.1 hz]
      · have hc2:=List.mem_singleton.1 hc2
        subst hc2;intro x hx z hz h0 e;have hz:=List.mem_singleton.1 hz;subst hz;refine hc (h k (by omega) (by omega) ⟨x,?_,e⟩);rw [← MQ k (by omega)];exact List.mem_flatten.2 ⟨b,hb2,hx⟩
theorem rowsN_perm:∀ (n:Nat) (bl:List (List Int)),bl.length=n→∀ x∈rowsN n bl,∃ bl':List (List Int),bl'.Perm bl∧x=bl'.flatten:=by
  intro n
  induction n with
  | zero=>intro bl h x hx;simp [rowsN,ordN] at hx;subst hx;exact ⟨[],by rw [List.length_eq_zero_iff.1 h],rfl⟩
  | succ n ih=>
    intro bl h x hx;simp only [rowsN,ordN,ordFrom,List.mem_flatMap,List.mem_map] at hx;obtain ⟨i,hi,y,hy,rfl⟩:=hx;have hi:=List.mem_range'_1.1 hi;obtain ⟨bl',hp,rfl⟩:=ih _ (erase_len (k:=i) (by omega) h) y hy;refine ⟨bl.getD i []::bl',?_,rfl⟩;refine (List.Perm.cons _ hp).trans ?_;have hb:i<bl.length:=by omega
    exact erase_perm hb
theorem Fine.row {Y:Yard} (f:Fine Y) {r:List Int} (hr:r∈rowsN (IM Y.cars (trk Y 0)).length (IM Y.cars (trk Y 0))):Valid { Y with tracks:=Y.tracks.set 0 r }∧r.Perm (trk Y 0):=by
  have hlen:=f.len;have hr1:=f.room1;obtain ⟨t,ts,ht⟩:∃ t ts,Y.tracks=t::ts:=by
    cases hh:Y.tracks with
    | nil=>rw [hh] at hlen;simp at hlen;omega
    | cons t ts=>exact ⟨t,ts,rfl⟩
  have ht0:trk Y 0=t:=by show Y.tracks.getD 0 []=t;rw [ht];rfl
  rw [ht0] at hr ⊢;have hg:=groups_iff.1 f.groups;have hrow:∀ k,k<t.length→0<grp Y.cars (t.getD k 0)→(∃ c∈t.take k,grp Y.cars c=grp Y.cars (t.getD k 0))→DJ Y.cars t ↑k=true:=fun k hk h0 hc=>by
    have:=hg 0 k (by rw [ht];simp) (by rw [ht];simpa using hk) (by rw [ht];simpa using h0) (.inr (by rw [ht];simpa using hc));rw [ht] at this;simpa using this
  obtain ⟨hb,_⟩:=blocks_blk hrow t.length (Nat.le_refl _);obtain ⟨bl',hp,rfl⟩:=rowsN_perm _ _ rfl r hr;have hflat:(IM Y.cars t).flatten=t:=by
    have:=MQ (cs:=Y.cars) (t:=t) t.length (Nat.le_refl _);rw [List.take_length] at this;exact this
  have hperm:bl'.flatten.Perm t:=by
    have:=hp.flatten;rw [hflat] at this;exact this
  have hrok:=(Blk.perm hb hp.symm).row;refine ⟨Fine.valid ⟨f.cars,f.carOk,f.room1,f.room3,f.roomOk,by rw [List.length_set];exact f.len,?_,?_,?_,?_,?_⟩,hperm⟩
  all_goals simp only [ht,List.set_cons_zero]
  · intro x hx c hc
    have hok:=f.ok;rw [ht] at hok;rcases List.mem_cons.1 hx with e | hx
    · subst e;exact hok t List.mem_cons_self c (hperm.mem_iff.1 hc)
    · exact hok x (List.mem_cons_of_mem _ hx) c hc
  · have hn:=f.nodup
    rw [ht] at hn;rw [List.flatten_cons] at hn ⊢;exact (List.Perm.append_right _ hperm).nodup_iff.2 hn
  · intro k hk
    have hf:=f.fits;rw [ht] at hf;cases k with
    | zero=>
      have:=hf 0 (by simp);rw [List.getD_cons_zero] at this ⊢;have e:lenOf Y.cars bl'.flatten=lenOf Y.cars t:=by
        unfold lenOf;exact perm_sum (hperm.map _)
      rw [e];exact this
    | succ k=>simpa using hf (k+1) (by simpa using hk)
  · have ha:=f.all
    rw [ht] at ha;rw [List.flatten_cons,List.length_append] at ha ⊢;rw [hperm.length_eq];exact ha
  · refine groups_iff.2 ?_
    show GrpFrom Y.cars (bl'.flatten::ts) [];intro i k hi hk h0 hm;rcases hm with hm | ⟨c,hc,e⟩
    · simp at hm
    · cases i with
      | zero=>
        simp only [List.getD_cons_zero,List.take_zero,List.flatten_nil,List.nil_append] at hk h0 hc e ⊢;obtain ⟨h1,h2⟩:=hrok k hk h0 ⟨c,hc,e⟩;exact coupled_of hk h0 h1 h2
      | succ i=>
        have:=hg (i+1) k (by rw [ht];simpa using hi) (by rw [ht];simpa using hk) (by rw [ht];simpa using h0) (.inr ⟨c,by
          rw [ht]
          simp only [List.take_succ_cons,List.flatten_cons,List.getD_cons_succ,List.mem_append] at hc ⊢
          rcases hc with (hc | hc) | hc
          · exact .inl (.inl (hperm.mem_iff.1 hc))
          · exact .inl (.inr hc)
          · exact .inr hc,by rw [ht];simpa using e⟩)
        rw [ht] at this;simpa using this
section
variable {Y:Yard} {k:Nat}
end
section
variable {Y:Yard} {s:Shift} {k:Nat}
end
section
variable {Y:Yard} {goal:Yard→Bool} {d k:Nat} {ds:List Shift}
end
theorem deal_put {n k:Nat} (hk:k<n):(DR k++List.replicate (n-k) (0:Int)).set k (k:Int)=DR (k+1)++List.replicate (n-(k+1)) 0:=by
  rw [List.set_append_right _ _ (by rw [FF];omega),FF,Nat.sub_self,show n-k=(n-(k+1))+1 by omega,List.replicate_succ,List.set_cons_zero,MN];simp
theorem swap_perm {l:List Int} {i j:Nat} (hi:i<l.length) (hj:j<l.length):((l.set i (l.getD j 0)).set j (l.getD i 0)).Perm l:=by
  have e1:l.getD i 0=l[i]:=by simp [List.getD,hi]
  have e2:l.getD j 0=l[j]:=by simp [List.getD,hj]
  rw [e1,e2];exact List.set_set_perm hi hj
end Go.Sh
namespace Go.Sl
open Go
theorem own_val_int {E:TypeId} {v:Value} {M:Seg} {vs:List Value} {ys:List Int} (h:Own E 1 DN v vs M) (he:vs=ys.map fun n=>Value.int .i64 n):Own E 1 AJ v ys M:=by
  have e1:CU 1 DN vs=CU 1 AJ ys:=by
    rw [he,encL_vals];simp only [CU,AJ,List.range_one,List.map_cons,List.map_nil];exact List.map_eq_flatMap
  have e2:vs.length=ys.length:=by rw [he,List.length_map]
  rcases h with ⟨hv,hx,hM⟩ | ⟨b,c,sp,hv,hc,hM,hl⟩
  · refine .inl ⟨hv,?_,hM⟩
    rw [hx] at e2;exact List.length_eq_zero_iff.1 e2.symm
  · exact .inr ⟨b,c,sp,by rw [hv,e2],by rw [← e2];exact hc,by rw [← e1];exact hM,by rw [← e1];exact hl⟩
end Go.Sl
namespace Go.Sh
open Go Go.Sl
def yvD:Value × Value × Value:=(undef,undef,undef)
def YardsV (I:Imm) (xs:List (Value × Value × Value)) (Ys:List Yard):Prop:=xs.length=Ys.length∧∀ i,i<xs.length→IsYard I (.agg #[(xs.getD i yvD).1,(xs.getD i yvD).2.1,(xs.getD i yvD).2.2]) (Ys.getD i PZ)
theorem YardsV.mono {I J:Imm} {xs:List (Value × Value × Value)} {Ys:List Yard} (h:YardsV I xs Ys) (le:I.le J):YardsV J xs Ys:=⟨h.1,fun i hi=>(h.2 i hi).mono le⟩
theorem YardsV.nil (I:Imm):YardsV I [] []:=⟨rfl,fun i hi=>by simp at hi⟩
theorem YardsV.snoc {I:Imm} {xs:List (Value × Value × Value)} {Ys:List Yard} {a b c:Value} {Y:Yard} (h:YardsV I xs Ys) (hY:IsYard I (.agg #[a,b,c]) Y):YardsV I (xs++[(a,b,c)]) (Ys++[Y]):=by
  refine ⟨by simp [h.1],fun i hi=>?_⟩;rw [List.length_append,List.length_singleton] at hi;have hl:=h.1
  by_cases hb:i<xs.length
  · have e1:(xs++[(a,b,c)]).getD i yvD=xs.getD i yvD:=by simp [List.getD,List.getElem?_append_left hb]
    have e2:(Ys++[Y]).getD i PZ=Ys.getD i PZ:=by simp [List.getD,List.getElem?_append_left (show i<Ys.length by omega)]
    rw [e1,e2];exact h.2 i hb
  · obtain rfl:i=xs.length:=by omega
    have e1:(xs++[(a,b,c)]).getD xs.length yvD=(a,b,c):=by simp [List.getD]
    have e2:(Ys++[Y]).getD xs.length PZ=Y:=by simp [List.getD,hl]
    rw [e1,e2];exact hY
theorem YardsV.at {I : Imm} {xs : List (Value × Value × Value)} {Ys : List Yard} (h : YardsV I xs Ys) {i : Nat} (hi : i < xs.length) :
    ∃ a b c,xs.getD i yvD=(a,b,c)∧IsCars I a (Ys.getD i PZ).cars∧CD I b (Ys.getD i PZ).room∧IsRows I c (Ys.getD i PZ).tracks:=by
  obtain ⟨v1,v2,v3,h1,h2,h3,h4⟩:=h.2 i hi;simp only [Value.agg.injEq] at h1;have e:=congrArg Array.toList h1;simp only [List.cons.injEq,and_true] at e;refine ⟨v1,v2,v3,?_,h2,h3,h4⟩;rw [← e.1,← e.2.1,← e.2.2]
def RowsS (I:Imm) (vs:List Value) (Ls:List (List Shift)):Prop:=vs.length=Ls.length∧∀ i,i<Ls.length→IsShifts I (vs.getD i undef) (Ls.getD i [])
theorem RowsS.mono {I J:Imm} {vs:List Value} {Ls:List (List Shift)} (h:RowsS I vs Ls) (le:I.le J):RowsS J vs Ls:=⟨h.1,fun i hi=>(h.2 i hi).mono le⟩
theorem RowsS.nil (I:Imm):RowsS I [] []:=⟨rfl,fun i hi=>by simp at hi⟩
theorem RowsS.snoc {I:Imm} {vs:List Value} {Ls:List (List Shift)} {v:Value} {l:List Shift} (h:RowsS I vs Ls) (hv:IsShifts I v l):RowsS I (vs++[v]) (Ls++[l]):=by
  have hl:=h.1;refine ⟨by simp [hl],fun i hi=>?_⟩;rw [List.length_append,List.length_singleton] at hi
  by_cases hb:i<Ls.length
  · have e1:(vs++[v]).getD i undef=vs.getD i undef:=by simp [List.getD,List.getElem?_append_left (show i<vs.length by omega)]
    have e2:(Ls++[l]).getD i []=Ls.getD i []:=by simp [List.getD,List.getElem?_append_left hb]
    rw [e1,e2];exact h.2 i hb
  · obtain rfl:i=Ls.length:=by omega
    have e1:(vs++[v]).getD Ls.length undef=v:=by simp [List.getD,← hl]
    have e2:(Ls++[l]).getD Ls.length []=l:=by simp [List.getD]
    rw [e1,e2];exact hv
structure Few (n:Nat) (Y:Yard):Prop where
  cars:Y.cars.length≤n
  room:Y.room.length≤n
  tracks:Y.tracks.length≤n
  each:∀ t∈Y.tracks,t.length≤n
theorem Fine.few {Y:Yard} (f:Fine Y):Few 20 Y:=by
  have h1:=f.cars;have h2:=f.room3;have h3:=f.len;refine ⟨by omega,by omega,by omega,fun t ht=>?_⟩;have:=HJ ht;have:=f.sum;omega
end Go.Sh
namespace Go.Sl
open Go
end Go.Sl
namespace Go.Sh
open Go Go.Sl
end Go.Sh
namespace Go.Sl
open Go
section
variable {P:Program} {N:Nat} {ops:Array Oper} {i d:Nat} {l:Sl} {I:Imm} {R:Seg} {ty:TypeId} {gd:Option (Nat × Bool)}
theorem det_remT {x y : Operand} {T T' : TypeId} {k : IntKind} {a b : Int} (hop : FW ops N i = some (some d, .binOp .rem T x y T', ty, gd)) (hg : FL ops l gd = some true)
    (hx:BU l x=some (.int k a)) (hy:BU l y=some (.int k b)) (hb:1≤b):Det P N ops i l I R d (.int k (a.tmod b)):=
  det_bin hop hg hx hy fun I' M'=>by
    have hne:b≠0:=by omega
    simp only [binOp,Op.intDiv,ne_eq,not_true_eq_false,if_false,if_neg hne];exact ⟨rfl,rfl⟩
end
theorem tmod_bounds {x:Int} {n:Nat} (hn:2≤n):-(n:Int)<x.tmod n∧x.tmod n<n:=
  ⟨by have:=Int.lt_tmod_of_pos x (show (0:Int)<n by omega);omega,Int.tmod_lt_of_pos x (by omega)⟩
theorem fold_nat {x:Int} {n:Nat} (hn:2≤n):∃ r:Nat,(x.tmod n+n)%(n:Int)=↑r∧r<n:=by
  have h1:=Int.emod_nonneg (x.tmod n+n) (show (n:Int)≠0 by omega);have h2:=Int.emod_lt_of_pos (x.tmod n+n) (show (0:Int)<n by omega);exact ⟨((x.tmod n+n)%(n:Int)).toNat,by omega,by omega⟩
end Go.Sl
namespace Go.Sh
open Go Go.Sl
end Go.Sh
namespace Go.Proofs.YtgcemienebmdeaaGreat
open Go Go.Sl Go.Sh
set_option maxRecDepth 100000
noncomputable def c_Deal (p:List Nat):Code:=sub (AP Tryz.f53) p
theorem Deal_ct (I:Imm) (p:Nat) (p_s:Int) (n:Nat) (hn:n≤1000):Ct Tryz.prog 53 #[vP p 0,vI ↑n] I ([(bX p #[.int .u64 (p_s)] 91)]) (fun v I' M'=>∃ p_t:Int,∃ l:List Int,∃ u:Value,∃ Ms:Seg,v=u∧M'=[(bX p #[.int .u64 (p_t)] 91)]++(Ms)∧(l.Perm (DR n))∧Own 3 1 AJ u (l) Ms):=by
 refine fr (args:=[_,_]) (N:=45) Tryz.func53 (fun F=>?_);show Run _ _ (c_Deal []) _ _ [(0,vP p 0),(1,vI (↑n))] _ _;refine rnm (rqr ?_);refine sp 1 [(4,vN)] (sn (sp 2 [(10,vI ((if (↑n:Int)<(0:Int) then 0 else ↑n)))] (BP 10 rfl (show (vI ((if (↑n:Int)<(0:Int) then 0 else ↑n)):Value)=vI (↑n) from congrArg (Value.int .i64) (by split <;> omega)) (sS (NS (d:=11) (x:=(.tmp 10)) (T:=29) (E:=3) (bs:=8) (n:=n) (z:=vI (0)) (zv:=vI (0)) (ty:=29) (gd:=none) (by kernel_rfl) rfl (by kernel_rfl) (by kernel_rfl) (by kernel_rfl) rfl (by kernel_rfl) (by decide) rfl (by omega) (fun b1=>?_))))));have d5:Own 3 1 DN (vS (some ⟨b1,0,none⟩) n n) (List.replicate n (vI (0))) [(b1,Obj.cells (List.replicate n (vI (0))).toArray 3 (0,0))]:=Own.made _;obtain ⟨mS4,hmS4⟩:∃ X:Seg,X=[(b1,Obj.cells (List.replicate n (vI (0))).toArray 3 (0,0))]:=⟨_,rfl⟩;rw [← hmS4] at d5;refine AW (I':=I) (M':=((mS4++(bX p #[.int .u64 (p_s)] 91)::F))) (fun w h=>by rw [hmS4];exact h) (pm (M':=((bX p #[.int .u64 (p_s)] 91)::(mS4++F))) PM ?_);have d1:=own_val_int (ys:=List.replicate n (0:Int)) d5 (by rw [List.map_replicate]);refine sp 1 [(5,vS (some ⟨b1,0,none⟩) n n)] (se (rq (rqr (sp 1 [(6,vI (0))] (se (rb 0 ?_))))));refine rl (fun mz a w=>∃ k:Nat,∃ b2:Value,∃ a7:Seg,(k≤n)∧(Own 3 1 AJ b2 ((DR k++List.replicate (n-k) (0:Int))) a7)∧Slots 45 [(5,b2),(6,vI ↑k),(0,vP p 0),(1,vI (↑n)),(4,vN)] a∧a.defers=[]∧St I ((bX p #[.int .u64 (p_s)] 91)::(a7++F)) w∧mz=n-k) ?_ ?_
 ·intro a w hS hD hW;exact ⟨_,0,vS (some ⟨b1,0,none⟩) n n,mS4,Nat.zero_le _,(show Own _ _ _ _ (DR 0++List.replicate (n-0) (0:Int)) _ from d1),hS.sub (.cons 5 rfl (.cons 6 rfl (.cons 0 rfl (.cons 1 rfl (.cons 4 rfl (.nil _)))))),hD,hW,rfl⟩
 rintro mz a w ⟨k,b2,a7,hk,a8,hS,hD,hW,rfl⟩
 refine AV hS hD hW ?_;clear hS hD hW a w;obtain ⟨a5,a6,b4,c6⟩:=a8.shape;subst b4;have d7:=FF k;have e6:(DR k++List.replicate (n-k) (0:Int)).length=n:=by rw [LA,d7,List.length_replicate];omega
 refine rq (rqr (sp 3 [(14,.bool (cmp .lss (↑k) (↑n)))] (se (rc 14 rfl (fun h1=>?_) (fun h1=>?_)))))
 ·
  have c8:=h1;have h1:=CV h1;refine AQ (NX (rq (rb 1 (rr (sp 3 [(19,vI (↑k)),(18,vI (↑k)),(17,vS a5 ((DR k++List.replicate (n-k) (0:Int))).length a6)] ?_)))));obtain ⟨e7,c5⟩:=a8.row 0;refine sd (di 20 1 (k) c5.addr) (sS (BJ (T:=3) (x:=(.tmp 20)) (y:=(.tmp 19)) (rc:=fun i f=>AJ (((DR k++List.replicate (n-k) (0:Int))).getD i 0) f) 0 (k) 0 (↑k) (ty:=0) (gd:=none) (by kernel_rfl) rfl a8 c5 (by omega) (by decide) rfl rfl (by kernel_rfl) rfl rfl (by intro f hf;match f,hf with | 0,_=>rfl) (PM.symm) (fun d4 d6=>(pm (M':=((bX p #[.int .u64 (p_s)] 91)::(d4++F))) PM (ee (NB (NX (rr (sp 1 [(15,vI (↑k))] (sd (da 16 (↑k) (1)) (sp 1 [(6,vI (↑k+1))] (ee ?_))))))))))));refine AM (n-(k+1)) (by omega) ?_;intro a w hS hD hW;exact ⟨k+1,vS a5 ((DR k++List.replicate (n-k) (0:Int))).length a6,d4,by omega,(by rw [← deal_put (by omega)];exact d6),hS.sub (.consE 5 rfl rfl (.consE 6 rfl rfl (.cons 0 rfl (.cons 1 rfl (.cons 4 rfl (.nil _)))))),hD,hW,rfl⟩
 have c8:=h1;have h1:=CX h1;refine CL 0 ((EP (EP (EB (NX (rq (rqr (sp 1 [(21,vI (↑n))] (sd (dsb 22 (↑n) (1)) (sp 1 [(7,vI (↑n-1))] (se (rb 2 ?_))))))))))));refine rl (fun mz a w=>∃ J1:Imm,∃ k:Nat,∃ zs:List Int,∃ s:Int,∃ b3:Value,∃ a2:Seg,(I.le J1)∧(k≤n)∧(zs.Perm (DR n))∧(Own 3 1 AJ b3 (zs) a2)∧Slots 45 [(5,b3),(7,vI (↑k-1)),(0,vP p 0),(4,vN)] a∧a.defers=[]∧St J1 ((bX p #[.int .u64 (s)] 91)::(a2++F)) w∧mz=k+1) ?_ ?_
 ·intro a w hS hD hW;exact ⟨_,I,n,(DR n),p_s,vS a5 ((DR k++List.replicate (n-k) (0:Int))).length a6,a7,IR _,Nat.le_refl _,PR _,((show (DR k++List.replicate (n-k) (0:Int))=DR n from by rw [show k=n by omega,Nat.sub_self,List.replicate_zero,List.append_nil])▸a8),hS.sub (.cons 5 rfl (.cons 7 rfl (.cons 0 rfl (.cons 4 rfl (.nil _))))),hD,hW,rfl⟩
 rintro mz a w ⟨J1,k,zs,s,b3,a2,hJ1,hk,d3,a3,hS,hD,hW,rfl⟩
 refine AV hS hD hW ?_;clear hS hD hW a w;obtain ⟨a0,a1,b5,c7⟩:=a3.shape;subst b5;have d8:=d3.length_eq;rw [FF] at d8;refine rq (rqr (sp 2 [(24,.bool (cmp .gtr (↑k-1) (0)))] (se (rc 24 rfl (fun h2=>?_) (fun h2=>?_)))))
 ·
  have c9:=h2;have h2:=LQ h2;refine AQ (NX (rq (rb 3 (rqr (sp 2 [(28,vI (↑k-1)),(27,vP p 0)] (sS (sc (some 29) (F:=((a2++F))) (OE _ (p) (s) (↑k-1) (by omega) :) (.refl _) (fun e5 I9 e4 c1 d2=>?_))))))));obtain ⟨a4,a9,c4,c2,e3⟩:=d2;rw [c4,c2];clear c4 c2;refine nm ?_;refine sp 1 [(8,vI (↑a9))] (se ?_);refine rdX (M:=((bX p #[.int .u64 (a4)] 91)::(a2++[]))) (F0:=F) [] 14 [(0,true),(1,true),(2,true),(3,true),(4,true),(5,true),(6,true),(7,true),(8,true),(9,true),(10,true),(11,true),(12,true),(13,false)] (by simp only [AA,CA,NA,List.append_nil];exact PR _) HM ?_;refine AG (AL (d:=30) (v:=vS a0 zs.length a1) (by kernel_rfl)) ?_;refine AG (AL (d:=31) (v:=vI (↑k-1)) (by kernel_rfl)) ?_;refine AY (AL (d:=32) (v:=vS a0 zs.length a1) (by kernel_rfl)) ?_;refine AY (AL (d:=33) (v:=vI (↑a9)) (by kernel_rfl)) ?_;refine AG (AL (d:=34) (v:=vS a0 zs.length a1) (by kernel_rfl)) ?_;refine AG (AL (d:=35) (v:=vI (↑a9)) (by kernel_rfl)) ?_;obtain ⟨d9,b6⟩:=a3.row 0;refine AG (di 36 1 (a9) b6.addr) ?_;refine AG (dl 37 (b6.get (a9) (by omega) 0 (by decide) _ _ (fun x hx=>by simp [hx]))) ?_;refine AG (AL (d:=38) (v:=vS a0 zs.length a1) (by kernel_rfl)) ?_;refine AG (AL (d:=39) (v:=vI (↑k-1)) (by kernel_rfl)) ?_;obtain ⟨e0,b7⟩:=a3.row 0;refine AG (diI 40 1 (↑k-1) b7.addr) ?_;refine AG (dl 41 (b7.get ((↑k-1:Int).toNat) (by omega) 0 (by decide) _ _ (fun x hx=>by simp [hx]))) ?_;obtain ⟨e1,b8⟩:=a3.row 0;refine AG (diI 42 1 (↑k-1) b8.addr) ?_;refine DW (Mx:=fun FX=>((bX p #[.int .u64 (a4)] 91)::(a2++FX))) rfl (fun FX=>by simp only [AA,CA,NA,List.append_nil];exact PR _) (fun FX=>?_);refine id (BJ (T:=3) (x:=(.tmp 42)) (y:=(.tmp 37)) (rc:=fun i f=>AJ ((zs).getD i 0) f) 0 ((↑k-1:Int).toNat) 0 (zs.getD (a9) 0) (ty:=0) (gd:=none) (by kernel_rfl) rfl a3 b8 (by omega) (by decide) rfl rfl (by kernel_rfl) rfl rfl (by intro f hf;match f,hf with | 0,_=>rfl) (PM.symm) (fun b9 c3=>?_));refine FS (M1:=((bX p #[.int .u64 (a4)] 91)::(b9++[]))) (by simp only [AA,CA,NA,List.append_nil];exact PM) (.wait (by kernel_rfl) (.wait (by kernel_rfl) (.wait (by kernel_rfl) (.wait (by kernel_rfl) (.wait (by kernel_rfl) (.wait (by kernel_rfl) (.wait (by kernel_rfl) (.wait (by kernel_rfl) (.wait (by kernel_rfl) (.none (.none (.wait (by kernel_rfl) (.wait (by kernel_rfl) .nil))))))))))))) ?_;refine FR (AW (M':=((bX p #[.int .u64 (a4)] 91)::(b9++F))) (fun w h=>by simpa only [AA,CA,NA,List.append_nil] using h) (nm ?_));obtain ⟨e2,b0⟩:=c3.row 0;simp only [LS] at b0;refine sd (di 43 1 (a9) (fun _=>b0.addr (by omega)) (n:=zs.length)) (sS (BJ (T:=3) (x:=(.tmp 43)) (y:=(.tmp 41)) (rc:=fun i f=>AJ ((zs.set ((↑k-1:Int).toNat) (zs.getD (a9) 0)).getD i 0) f) 0 (a9) 0 (zs.getD ((↑k-1:Int).toNat) 0) (ty:=0) (gd:=none) (by kernel_rfl) rfl c3 (by simpa only [LS] using b0) (by simp only [LS];omega) (by decide) rfl rfl (by kernel_rfl) rfl rfl (by intro f hf;match f,hf with | 0,_=>rfl) (PM.symm) (fun c0 d0=>(pm (M':=((bX p #[.int .u64 (a4)] 91)::(c0++F))) PM (ee (NB (NX (rr (sp 1 [(25,vI (↑k-1))] (sd (dsb 26 (↑k-1) (1)) (sp 1 [(7,vI ((↑k-1)-1))] (ee ?_))))))))))));refine AM (k-1+1) (by omega) ?_;intro a w hS hD hW;exact ⟨I9,k-1,(zs.set ((↑k-1:Int).toNat) (zs.getD (a9) 0)).set (a9) (zs.getD ((↑k-1:Int).toNat) 0),a4,vS a0 zs.length a1,c0,(IT hJ1 c1),by omega,(swap_perm (by omega) (by omega)).trans d3,d0,hS.sub (.consE 5 rfl rfl (.consE 7 rfl (congrArg (Value.int .i64) (by omega)) (.cons 0 rfl (.cons 4 rfl (.nil _))))),hD,hW,rfl⟩
 have c9:=h2;have h2:=gtr_f h2;refine CL 2 ((EP (EP (EB (NX (rqr (sp 2 [(4,vS a0 zs.length a1)] (se (BL (AH (t:=4) ([(bX p #[.int .u64 (s)] 91)]++(a2)) (by kernel_rfl) rfl (by simp only [AA,NA,CA];exact (TK _ (TA (TR _) _))) hJ1 ?_))))))))));exact ⟨_,_,_,_,rfl,rfl,d3,a3⟩
noncomputable def c_CloneKeep (p:List Nat):Code:=sub (AP Tryz.f142) p
theorem CloneKeep_ct (I:Imm) (z:Value) (xs:List Keep) (z_f:GR I z xs) (hl:xs.length≤1000000):Ct Tryz.prog 142 #[z] I ([]) (fun v I' M'=>∃ u:Value,∃ Ms:Seg,v=u∧M'=Ms∧Own 50 3 IW u (xs) Ms):=by
 obtain ⟨a2,a3,b3,b6,a9,b4,b5,b0⟩:=id z_f;subst a9;refine fr (args:=[_]) (N:=8) Tryz.func142 (fun F=>?_);show Run _ _ (c_CloneKeep []) _ _ [(0,vS a2 xs.length a3)] _ _;refine rnm (rqr ?_);refine sp 1 [(2,vN)] (se (rq (rqr (sp 1 [(3,vS a2 xs.length a3)] (sd (MT (e:=50) (x:=(.tmp 3)) (y:=(.const (vN))) (T:=23) (T':=23) (d:=4) (ty:=4) (gd:=none) (by kernel_rfl) rfl (by kernel_rfl) rfl rfl) (se (rc 4 rfl (fun h1=>?_) (fun h1=>?_))))))))
 ·
  have a0:=h1;refine rqr (sp 1 [(2,vN)] (se (BL ((RP ?_)))));obtain rfl:=b0.nil h1;refine AH (t:=2) ([]) (by kernel_rfl) rfl (TR _) (IR _) ?_;exact ⟨_,_,rfl,rfl,Own.nil _ _ _⟩
 have a0:=h1;refine AQ (NX (rqr (sS (sbs 5 50 0 #[] (fun b1=>(sp 1 [(6,vS a2 xs.length a3)] ?_))))));have a5:Own 50 3 IW (vS (some ⟨b1,0,none⟩) 0 0) ([]:List Keep) [(bX b1 #[] 50)]:=Own.lit rfl rfl;refine sS (AZ (d:=7) (x:=(.tmp 5)) (y:=(.tmp 6)) (T:=23) (T':=23) (E:=50) (E':=50) (sz:=3) (bs:=24) (z:=.agg #[vI (0),vI (0),vI (0)]) (cell:=IW) (xs:=([]:List Keep)) (ys:=xs) (Ms:=[(bX b1 #[] 50)]) (ty:=23) (gd:=none) (by kernel_rfl) rfl (by kernel_rfl) (by kernel_rfl) (by kernel_rfl) (by kernel_rfl) (by kernel_rfl) (by decide) (by kernel_rfl) rfl rfl (a5) (PR _) (QC _) z_f.src (by first | omega | (simp only [LC,LN,LA,LK,LD];omega)) (fun v4 a4 a1=>?_));rw [NA] at a1;refine nm ?_;obtain ⟨a6,a7,a8,b2⟩:=a1.shape;subst a8;refine sp 1 [(2,vS a6 xs.length a7)] (se (BL (AH (t:=2) (a4) (by kernel_rfl) rfl (TA (TR _) _) (IR _) ?_)));exact ⟨_,_,rfl,rfl,a1⟩
noncomputable def c_copied (p:List Nat):Code:=sub (AP Tryz.f93) p
theorem copied_ct (I:Imm) (l:Value) (L:Lin) (l_f:IsLin I l L) (hg:GoodL L):Ct Tryz.prog 93 #[l] I ([]) (fun v I' M'=>∃ u1:Value,∃ u2:Value,∃ u3:Value,∃ Ms:Seg,v=.agg #[vI (L).places,vI (L).sorts,u1,u2,u3]∧M'=Ms∧IsRows I' u1 (L).start∧GR I' u2 (L).keeps∧Own 28 8 BD u3 (L).slips Ms):=by
 obtain ⟨l1,l2,l3,n0,k1,c1,b6⟩:=id l_f;subst n0;obtain ⟨c7,c8,l6,l9,k6,k0,l7,l8,d5,e1⟩:=id k1;subst k0;obtain ⟨a8,a9,m0,m3,k2,m1,m2,m4⟩:=id c1;subst k2;obtain ⟨a5,a6,m5,m8,k3,m6,m7,m9⟩:=id b6;subst k3;refine fr (args:=[_]) (N:=32) Tryz.func93 (fun F=>?_);show Run _ _ (c_copied []) _ _ [(0,.agg #[vI (L.places),vI (L.sorts),vS c7 L.start.length c8,vS a8 L.keeps.length a9,vS a5 L.slips.length a6])] _ _;refine rnm ?_;have o7:=hg.places;have o8:=hg.start;have o9:=hg.keeps;have p0:=hg.slips;refine rqr (sS (sb 1 26 #[vI (L.places),vI (L.sorts),vS c7 L.start.length c8,vS a8 L.keeps.length a9,vS a5 L.slips.length a6] (fun b1=>(sS (sal 2 26 #[vI (0),vI (0),vN,vN,vN] (fun b3=>(sn (sp 1 [(6,vP b1 2)] (sd (dlb 7 1 2 b1 (vS c7 L.start.length c8)) (sp 1 [(3,vS c7 L.start.length c8)] (sn (sp 1 [(8,vP b1 2)] (sS (ss 1 2 b1 [vN] [vI (L.places),vI (L.sorts),vN,vS a8 L.keeps.length a9,vS a5 L.slips.length a6] (_::_::_) (cs:=[_,_,_,_,_]) rfl rfl (se (rq (rqr (sp 3 [(11,vI (0)),(10,vI (↑(L.start.length))),(9,vS c7 L.start.length c8)] (se (rb 0 ?_))))))))))))))))))));refine rl (fun mz a w=>∃ J0:Imm,∃ k:Nat,∃ c0:Value,∃ a4:Seg,∃ a0:List Value,(I.le J0)∧(k≤L.start.length)∧(RowsV J0 a0 (L.start.take k))∧(Own 29 1 DN c0 (a0) a4)∧Slots 32 [(11,vI ↑k),(1,vP b1 0),(2,vP b3 0),(9,vS c7 L.start.length c8),(10,vI (↑(L.start.length)))] a∧a.defers=[]∧St J0 ((bX b3 #[vI (0),vI (0),vN,vN,vN] 26)::(bX b1 #[vI (L.places),vI (L.sorts),c0,vS a8 L.keeps.length a9,vS a5 L.slips.length a6] 26)::(a4++F)) w∧mz=L.start.length-k) ?_ ?_
 ·intro a w hS hD hW;exact ⟨_,I,0,(vN),[],[],IR _,Nat.zero_le _,(RowsV.nil _),(Own.nil _ _ _),hS.sub (.cons 11 rfl (.cons 1 rfl (.cons 2 rfl (.cons 9 rfl (.cons 10 rfl (.nil _)))))),hD,hW,rfl⟩
 rintro mz a w ⟨J0,k,c0,a4,a0,hJ0,hk,a3,b9,hS,hD,hW,rfl⟩
 refine AV hS hD hW ?_;clear hS hD hW a w;replace d5:=d5.mono hJ0;replace e1:=fun i hi=>(e1 i hi).mono hJ0
 replace c1:=c1.mono hJ0;replace b6:=b6.mono hJ0;obtain ⟨a1,a2,c4,e4⟩:=b9.shape;subst c4;have c3:=a3.1
 try simp only [LS,LA,LC,LN,LK] at c3
 refine rqr (sp 1 [(12,.bool (cmp .lss (↑k) (↑(L.start.length))))] (se (rq (rc 12 rfl (fun h1=>?_) (fun h1=>?_)))))
 ·
  have j7:=h1;have h1:=CV h1;refine AQ (NX (rq (rb 1 (rqr (sd (di 13 1 (k) d5.addr) ?_)))));have e5:=e1 (k) (by omega);obtain ⟨f8,f9,n2,n5,g0,n3,n4,n6⟩:=id e5;rw [g0] at e5;refine sd (FH (dl 14 (KC d5 (k) (by omega))) g0) (sp 1 [(5,vS f8 (L.start.getD (k) []).length f9)] (se ?_));refine rd 5 [(0,true),(1,true),(2,true),(3,false),(4,false)] ((bX b3 #[vI (0),vI (0),vN,vN,vN] 26)::(bX b1 #[vI (L.places),vI (L.sorts),vS a1 a0.length a2,vS a8 L.keeps.length a9,vS a5 L.slips.length a6] 26)::[]) ((a4++F)) (ox 1 [(15,vP b1 2)] ?_);refine AE (dlb 16 1 2 b1 (vS a1 a0.length a2)) (ox 1 [(17,vS f8 (L.start.getD (k) []).length f9)] ?_);refine QS (sc (some 18) (F:=((bX b3 #[vI (0),vI (0),vN,vN,vN] 26)::(bX b1 #[vI (L.places),vI (L.sorts),vS a1 a0.length a2,vS a8 L.keeps.length a9,vS a5 L.slips.length a6] 26)::(a4++F))) (PE _ _ _ e5 (by have hq:=hg.rows _ (AX (xs:=L.start) (d:=[]) (k:=k) (by omega));have p1:=hg.sorts;omega) :) (PR _) (fun o0 I6 n7 d4 l5=>?_));obtain ⟨p2,g5,k5,e8,f5⟩:=l5;rw [k5,e8];clear k5 e8;replace c1:=c1.mono d4;replace b6:=b6.mono d4;replace a3:=a3.mono d4;obtain ⟨b7,b8,g1,k7⟩:=f5.shape;subst g1;refine hk_mem (M':=((g5++(bX b3 #[vI (0),vI (0),vN,vN,vN] 26)::(bX b1 #[vI (L.places),vI (L.sorts),vS a1 a0.length a2,vS a8 L.keeps.length a9,vS a5 L.slips.length a6] 26)::(a4++F)))) (fun w h=>by simpa only [AA,CA,NA] using h) ?_;refine JN (B:=((bX b3 #[vI (0),vI (0),vN,vN,vN] 26)::(bX b1 #[vI (L.places),vI (L.sorts),vS a1 a0.length a2,vS a8 L.keeps.length a9,vS a5 L.slips.length a6] 26)::(a4++F))) 0 f5 (by first | omega | (simp only [LS,LC,LN,LA,LK,LD] <;> omega) | decide) (PR _) (PR _) (fun l0 c5 c9=>?_);replace c1:=c1.mono c5;replace b6:=b6.mono c5;replace a3:=a3.mono c5;obtain ⟨h6,h8,h7,i1,d8,h9,i0,i2⟩:=id c9;cases d8;refine OP ?_;refine CK (S':=((a4++F))) (PR _) ?_;show OFP _ _ _ _ _ _ ((18,vS b7 ((L.start.getD (k) [])).length b8)::_) _ _;refine GI (sbs 19 29 1 #[vS b7 ((L.start.getD (k) [])).length b8] (fun l4=>?_));refine CK (S':=((bX l4 #[vS b7 ((L.start.getD (k) [])).length b8] 29)::(a4++F))) ((PS _ _ _).trans (PC _ (PS _ _ _))) ?_;refine HH (nm (nm ?_));refine sS (AZ (d:=20) (x:=(.tmp 16)) (y:=(.tmp 19)) (T:=22) (T':=22) (E:=29) (E':=29) (sz:=1) (bs:=24) (z:=vN) (cell:=DN) (xs:=a0) (ys:=[(vS b7 ((L.start.getD (k) [])).length b8:Value)]) (Ms:=a4) (ty:=22) (gd:=none) (by kernel_rfl) rfl (by kernel_rfl) (by kernel_rfl) (by kernel_rfl) (by kernel_rfl) (by kernel_rfl) (by decide) (by kernel_rfl) rfl rfl (b9) (PU (PU (PM.symm))) (JZ rfl) (DM 2 rfl rfl) (by first | omega | (have hq:=a3.1;simp only [LC,LN,LA,LK,LD] at hq ⊢;omega)) (fun p5 e6 f1=>(AW (M':=((bX b3 #[vI (0),vI (0),vN,vN,vN] 26)::(bX b1 #[vI (L.places),vI (L.sorts),vS a1 a0.length a2,vS a8 L.keeps.length a9,vS a5 L.slips.length a6] 26)::(e6++F))) (fun w h=>(h.perm (((PA _ ((PC _ (PS _ _ _)).trans (PS _ _ _))).trans PM).trans (PC _ (PW PM)))).sub (TC _ (TR _))) ?_)));obtain ⟨e2,e3,k4,n1⟩:=f1.shape;subst k4;have f4:=(a3).snoc c9;refine sp 1 [(21,vP b1 2)] (sS (ss 1 2 b1 [vS e2 (a0++([(vS b7 ((L.start.getD (k) [])).length b8:Value)])).length e3] [vI (L.places),vI (L.sorts),vS e2 (a0++([(vS b7 ((L.start.getD (k) [])).length b8:Value)])).length e3,vS a8 L.keeps.length a9,vS a5 L.slips.length a6] (_::_::_) (cs:=[_,_,_,_,_]) rfl rfl (ee (NB (NX (rr (sd (da 22 (↑k) (1)) (sp 1 [(11,vI (↑k+1))] (ee ?_)))))))));refine AM (L.start.length-(k+1)) (by omega) ?_;intro a w hS hD hW;exact ⟨l0,k+1,vS e2 (a0++([(vS b7 ((L.start.getD (k) [])).length b8:Value)])).length e3,e6,a0++([(vS b7 ((L.start.getD (k) [])).length b8:Value)]),(IT (IT hJ0 d4) c5),by omega,((BT (d:=[]) (xs:=L.start) (k:=k) (by omega)).symm▸f4),f1,hS.sub (.consE 11 rfl rfl (.cons 1 rfl (.cons 2 rfl (.cons 9 rfl (.cons 10 rfl (.nil _)))))),hD,hW,rfl⟩
 have j7:=h1;have h1:=CX h1;refine CL 0 ((EP (EP (EB (NX (rq ?_))))));refine CF (B:=((bX b3 #[vI (0),vI (0),vN,vN,vN] 26)::(bX b1 #[vI (L.places),vI (L.sorts),vS a1 a0.length a2,vS a8 L.keeps.length a9,vS a5 L.slips.length a6] 26)::F)) undef b9 (by first | omega | (simp only [LS,LC,LN,LA,LK,LD] <;> omega) | decide) (PU (PM.symm)) (PR _) (fun o3 c6 d0=>?_);replace c1:=c1.mono c6;replace b6:=b6.mono c6;replace a3:=a3.mono c6;obtain ⟨i3,i5,i4,i8,d9,i6,i7,i9⟩:=id d0;cases d9;have a7:=a3.isRows d0;have e7:=a3.1;obtain ⟨g7,g9,g8,h3,g4,d7,h0,h2,h4,h5⟩:=id a7
 injection d7 with fr26_e1 fr26_e2 fr26_e3;subst fr26_e1;subst fr26_e3
 refine rd 7 [(0,true),(1,true),(3,true),(4,true),(2,false),(6,true),(5,false)] ((bX b3 #[vI (0),vI (0),vN,vN,vN] 26)::(bX b1 #[vI (L.places),vI (L.sorts),vS a1 a0.length a2,vS a8 L.keeps.length a9,vS a5 L.slips.length a6] 26)::[]) (F) (ox 1 [(23,vP b1 3)] ?_);refine AE (dlb 24 1 3 b1 (vS a8 L.keeps.length a9)) (ox 1 [(26,vP b1 4)] ?_);refine AE (dlb 27 1 4 b1 (vS a5 L.slips.length a6)) ?_;refine QS (sc (some 25) (F:=((bX b3 #[vI (0),vI (0),vN,vN,vN] 26)::(bX b1 #[vI (L.places),vI (L.sorts),vS a1 a0.length a2,vS a8 L.keeps.length a9,vS a5 L.slips.length a6] 26)::F)) (CloneKeep_ct _ _ _ c1 (by omega) :) (PR _) (fun o1 o4 n8 d1 j8=>?_));obtain ⟨p3,g6,f2,e9,f6⟩:=j8;rw [f2,e9];clear f2 e9;replace b6:=b6.mono d1;replace a7:=a7.mono d1;obtain ⟨b0,b2,g2,k8⟩:=f6.shape;subst g2;refine hk_mem (M':=((g6++(bX b3 #[vI (0),vI (0),vN,vN,vN] 26)::(bX b1 #[vI (L.places),vI (L.sorts),vS a1 a0.length a2,vS a8 L.keeps.length a9,vS a5 L.slips.length a6] 26)::F))) (fun w h=>by simpa only [AA,CA,NA] using h) ?_;refine JN (B:=((bX b3 #[vI (0),vI (0),vN,vN,vN] 26)::(bX b1 #[vI (L.places),vI (L.sorts),vS a1 a0.length a2,vS a8 L.keeps.length a9,vS a5 L.slips.length a6] 26)::F)) AO f6 (by first | omega | (simp only [LS,LC,LN,LA,LK,LD] <;> omega) | decide) (PR _) (PR _) (fun o5 d2 c2=>?_);replace b6:=b6.mono d2;replace a7:=a7.mono d2;obtain ⟨j0,j2,j1,j5,e0,j3,j4,j6⟩:=id c2;cases e0;refine OP ?_;refine CK (S':=(F)) (PR _) ?_;show OFP _ _ _ _ _ _ ((25,vS b0 L.keeps.length b2)::_) _ _;refine ox 1 [(29,vP b1 3)] ?_;refine GI (sc (some 28) (F:=((bX b3 #[vI (0),vI (0),vN,vN,vN] 26)::(bX b1 #[vI (L.places),vI (L.sorts),vS a1 a0.length a2,vS a8 L.keeps.length a9,vS a5 L.slips.length a6] 26)::F)) (IL _ _ _ b6 (by omega) :) (PR _) (fun o2 o6 n9 d3 j9=>?_));obtain ⟨p4,d6,f3,f0,f7⟩:=j9;rw [f3,f0];clear f3 f0;replace a7:=a7.mono d3;replace c2:=c2.mono d3;obtain ⟨b4,b5,g3,k9⟩:=f7.shape;subst g3;refine CK (S':=((d6++F))) (PW PM) ?_;show OFP _ _ _ _ _ _ ((28,vS b4 L.slips.length b5)::_) _ _;refine HH (nm (nm ?_));refine sS (ss 1 3 b1 [vS b0 L.keeps.length b2] [vI (L.places),vI (L.sorts),vS a1 a0.length a2,vS b0 L.keeps.length b2,vS a5 L.slips.length a6] (_::_::_) (cs:=[_,_,_,_,_]) rfl rfl (sp 1 [(30,vP b1 4)] (sS (ss 1 4 b1 [vS b4 L.slips.length b5] [vI (L.places),vI (L.sorts),vS a1 a0.length a2,vS b0 L.keeps.length b2,vS b4 L.slips.length b5] (_::_::_) (cs:=[_,_,_,_,_]) rfl rfl (sn (sd (dnb 31 1 0 b1 [vI (L.places),vI (L.sorts),vS a1 a0.length a2,vS b0 L.keeps.length b2,vS b4 L.slips.length b5]) (sS (ss 0 0 b3 [vI (L.places),vI (L.sorts),vS a1 a0.length a2,vS b0 L.keeps.length b2,vS b4 L.slips.length b5] [vI (L.places),vI (L.sorts),vS a1 a0.length a2,vS b0 L.keeps.length b2,vS b4 L.slips.length b5] (_::_::_) (cs:=[_,_,_,_,_]) rfl rfl (se (BL (ppm (M':=((d6++(bX b3 #[vI (L.places),vI (L.sorts),vS a1 a0.length a2,vS b0 L.keeps.length b2,vS b4 L.slips.length b5] 26)::(bX b1 #[vI (L.places),vI (L.sorts),vS a1 a0.length a2,vS b0 L.keeps.length b2,vS b4 L.slips.length b5] 26)::F))) (PU (PM.symm)) (GY (t:=2) (T:=26) (n:=5) (d6) (by kernel_rfl) rfl (by kernel_rfl) rfl (BI (n:=5) (cs:=#[vI (L.places),vI (L.sorts),vS a1 a0.length a2,vS b0 L.keeps.length b2,vS b4 L.slips.length b5]) (b:=b3) (off:=0) (T:=26) (fz:=(0,0)) (vs:=[vI (L.places),vI (L.sorts),vS a1 a0.length a2,vS b0 L.keeps.length b2,vS b4 L.slips.length b5]) (by simp) rfl) (.inl ⟨by kernel_rfl,rfl⟩) (TA (TC _ (TC _ (TR _))) _) (IT (IT (IT (IT hJ0 c6) d1) d2) d3) ?_))))))))))));exact ⟨_,_,_,_,rfl,rfl,((JP (xs:=L.start) (k:=k) (by omega))▸a7),c2,f7⟩
end Go.Proofs.YtgcemienebmdeaaGreat
