/- A part of the proof of the laws of this seat. -/
import Derived.Test.YtgcemienebmdeaaGreatDoorLinenKnownP1
import Derived.Test.YtgcemienebmdeaaGreatDoorLinenKnownP2
set_option linter.unusedVariables false
set_option linter.unusedSimpArgs false
namespace Go.Sl
open Go
theorem PI {Q:Imm→Prop} {I I':Imm} (le:I.le I') (h:∀ J,I.le J→Q J):∀ J,I'.le J→Q J:=fun J hJ=>h J (le.trans hJ)
end Go.Sl
namespace Go.Sh
open Go Go.Sl
section
variable {α:Type} {p:α→Bool} {l:List α} {d:α} {k:Nat}
def MA (p:α→Bool) (l:List α):Int:=match l.findIdx? p with
  | some i=>(i:Int)
  | none=>-1
theorem idxF_hit (h:∀ j,j<k→p (l.getD j d)=false) (hk:k<l.length) (hp:p (l.getD k d)=true):MA p l=k:=by
  have:l.findIdx? p=some k:=by
    rw [List.findIdx?_eq_some_iff_getElem];refine ⟨hk,by simpa [List.getD,hk] using hp,fun j hj=>?_⟩;have:=h j hj
    simpa [List.getD,show j<l.length by omega] using this
  unfold MA;rw [this]
theorem idxF_miss (h:∀ j,j<k→p (l.getD j d)=false) (hk:l.length≤k):MA p l=-1:=by
  have:l.findIdx? p=none:=by
    rw [List.findIdx?_eq_none_iff];intro x hx;obtain ⟨j,hj,rfl⟩:=List.mem_iff_getElem.1 hx;have:=h j (by omega)
    simpa [List.getD,hj] using this
  unfold MA;rw [this]
theorem idxF_any:cmp .geq (MA p l) 0=l.any p:=by
  unfold MA;cases h:l.findIdx? p with
  | none=>
    have:l.any p=false:=by
      rw [List.any_eq_false];intro x hx;have:=List.findIdx?_eq_none_iff.1 h x hx;simp [this]
    rw [this];decide
  | some i=>
    have:l.any p=true:=by
      rw [List.findIdx?_eq_some_iff_getElem] at h;obtain ⟨h1,h2,_⟩:=h;exact List.any_eq_true.2 ⟨_,List.getElem_mem h1,h2⟩
    rw [this];simp [cmp]
theorem idxF_spec (h:0≤MA p l):∃ i:Nat,MA p l=↑i∧i<l.length∧p (l.getD i d)=true∧∀ j,j<i→p (l.getD j d)=false:=by
  unfold MA at h ⊢;cases e:l.findIdx? p with
  | none=>rw [e] at h;simp at h
  | some i=>
    rw [List.findIdx?_eq_some_iff_getElem] at e;obtain ⟨h1,h2,h3⟩:=e;refine ⟨i,rfl,h1,by simpa [List.getD,h1] using h2,fun j hj=>?_⟩;have:=h3 j hj
    simpa [List.getD,show j<l.length by omega] using this
theorem idxF_neg (h:MA p l<0):l.any p=false:=by rw [← idxF_any];simp [cmp];omega
end
section
variable {L:Lin} {k:Nat}
theorem startErr_1 (h:¬ (L.start.length:Int)=L.places):EF L=2:=if_pos h
theorem all_at {α:Type} {p:α→Bool} {l:List α} {d:α} (hk:k<l.length) (h:l.all p=true):p (l.getD k d)=true:=by
  have:=List.all_eq_true.1 h (l.getD k d) (by simp [List.getD,hk]);exact this
theorem all_bad {α:Type} {p:α→Bool} {l:List α} {d:α} (hk:k<l.length) (h:p (l.getD k d)=false):l.all p=false:=by
  cases e:l.all p with
  | false=>rfl
  | true=>rw [all_at (d:=d) hk e] at h;cases h
theorem all_good {α:Type} {p:α→Bool} {l:List α} (h:∀ x∈l.take k,p x=true) (hk:l.length≤k):l.all p=true:=List.all_eq_true.2 fun x hx=>h x (by rw [List.take_of_length_le hk];exact hx)
theorem startErr_2 (h:(L.start.length:Int)=L.places) (hk:k<L.start.length) (hb:¬ ((L.start.getD k []).length:Int)=L.sorts):EF L=2:=by
  unfold EF;rw [if_neg (fun x=>x h),if_pos (all_bad (d:=[]) hk (decide_eq_false hb))]
theorem startErr_3 (h:(L.start.length:Int)=L.places) (ha:(L.start.all fun r=>decide ((r.length:Int)=L.sorts))=true) (hk:k<L.start.flatten.length) (hb:inB (L.start.flatten.getD k 0) 0 50=false):EF L=1:=by
  unfold EF;rw [if_neg (fun x=>x h),if_neg (by rw [ha];decide),if_pos (all_bad (d:=0) hk hb)]
theorem startErr_4 (h:(L.start.length:Int)=L.places) (ha:(L.start.all fun r=>decide ((r.length:Int)=L.sorts))=true) (hb:(L.start.flatten.all fun n=>inB n 0 50)=true):EF L=0:=by
  unfold EF;rw [if_neg (fun x=>x h),if_neg (by rw [ha];decide),if_neg (by rw [hb];decide)]
theorem flat_small {xss:List (List Int)} {m:Nat} (h:∀ r∈xss,r.length≤m):xss.flatten.length≤xss.length*m:=by
  induction xss with
  | nil=>simp
  | cons x r ih=>
    have h1:=h x (by simp);have h2:=ih (fun y hy=>h y (by simp [hy]));simp only [List.flatten_cons,List.length_append,List.length_cons,Nat.succ_mul];omega
theorem keepsErr_many (h:4<L.keeps.length):EV L=6:=if_pos h
theorem KL (h:¬ 4<L.keeps.length) (hz:DY (FH L) k=0) (hk:k<L.keeps.length) {e:Int} (he:FH L k=e) (hne:e≠0):EV L=e:=by
  unfold EV;rw [if_neg h,NJ hz (by rw [he];exact hne) hk,he]
theorem keepsErr_none (h:¬ 4<L.keeps.length) (hz:DY (FH L) k=0) (hk:k=L.keeps.length):EV L=0:=by unfold EV;rw [if_neg h,← hk,hz]
section
variable (h3:inB (L.keeps.getD k AL).place 0 (L.places-1)=true) (h4:inB (L.keeps.getD k AL).hour 0 200=true)
theorem keepErr_3 (h:inB (L.keeps.getD k AL).place 0 (L.places-1)=false):FH L k=3:=if_pos h
include h3
theorem keepErr_1 (h:inB (L.keeps.getD k AL).hour 0 200=false):FH L k=1:=by unfold FH;rw [if_neg (by rw [h3];decide),if_pos h]
include h4
theorem keepErr_1b (h:inB (L.keeps.getD k AL).who 1 9=false):FH L k=1:=by unfold FH;rw [if_neg (by rw [h3];decide),if_neg (by rw [h4];decide),if_pos h]
variable (h5:inB (L.keeps.getD k AL).who 1 9=true)
include h5
theorem keepErr_4 (h:((L.keeps.take k).any fun x=>decide (x.place=(L.keeps.getD k AL).place)&&decide (x.hour=(L.keeps.getD k AL).hour))=true):FH L k=4:=by unfold FH;rw [if_neg (by rw [h3];decide),if_neg (by rw [h4];decide),if_neg (by rw [h5];decide),if_pos h]
theorem keepErr_ok (h:((L.keeps.take k).any fun x=>decide (x.place=(L.keeps.getD k AL).place)&&decide (x.hour=(L.keeps.getD k AL).hour))=false):FH L k=0:=by unfold FH;rw [if_neg (by rw [h3];decide),if_neg (by rw [h4];decide),if_neg (by rw [h5];decide),if_neg (by rw [h];decide)]
end
theorem least_t {k:Int} (h:k=4):Value.int .i64 0=.int .i64 (if k=4 then 0 else 1):=by rw [if_pos h]
theorem least_f {k:Int} (h:k≠4):Value.int .i64 1=.int .i64 (if k=4 then 0 else 1):=by rw [if_neg h]
def RH (L:Lin) (s:Slip):Int:=
  bif !inB s.num 1 999 then 1 else bif !inB s.hour 0 200 then 1 else bif !inB s.kind 1 6 then 8
  else bif !inB s.place 0 (L.places-1) then 3
  else bif cmp .eql s.kind 1&&!inB s.to 0 (L.places-1) then 3
  else bif cmp .eql s.kind 1&&cmp .eql s.to s.place then 4
  else bif !cmp .eql s.kind 1&&!cmp .eql s.to 0 then 1
  else bif !inB s.sort 0 (L.sorts-1) then 3
  else bif s.soil&&(!cmp .eql s.kind 1&&!cmp .eql s.kind 4) then 1
  else bif !inB s.amt (if s.kind=4 then 0 else 1) 50 then 1 else 0
theorem GA (L:Lin) (s:Slip):CW L s=RH L s:=by
  unfold CW RH;simp only [JU,Bool.cond_eq_ite,Bool.and_eq_true,Bool.not_eq_true',decide_eq_true_eq,decide_eq_false_iff_not]
end
section
variable {L:Lin} {k:Nat}
def linC (L:Lin):Int:=bif !inB L.places 1 4||!inB L.sorts 1 2 then 1 else bif !cmp .eql (EF L) 0 then EF L else bif !cmp .eql (EV L) 0 then EV L else bif cmp .gtr (L.slips.length:Int) 8 then 6 else DY (EQ L) L.slips.length
theorem PK (L:Lin):AH L=linC L:=by
  unfold AH linC
  by_cases e:8<L.slips.length
  · have e2:(8:Int)<L.slips.length:=by omega
    cases inB L.places 1 4 <;> cases inB L.sorts 1 2 <;> simp [cmp,Bool.cond_eq_ite,e2,e]
  · have e2:¬ (8:Int)<L.slips.length:=by omega
    cases inB L.places 1 4 <;> cases inB L.sorts 1 2 <;> simp [cmp,Bool.cond_eq_ite,e2,e]
theorem linErr_at {x:Int} (h0:DY (EQ L) L.slips.length=x) (h1:(!inB L.places 1 4||!inB L.sorts 1 2)=false) (h2:(!cmp .eql (EF L) 0)=false) (h3:(!cmp .eql (EV L) 0)=false) (h4:cmp .gtr (L.slips.length:Int) 8=false):AH L=x:=by
  rw [PK];simp only [linC,h1,h2,h3,h4,cond_false,h0]
theorem slipAt_bad (h:CW L (L.slips.getD k AB)≠0):EQ L k=CW L (L.slips.getD k AB):=if_pos h
theorem slipAt_dup (h:CW L (L.slips.getD k AB)=0) (h2:hasNum (L.slips.getD k AB).num (L.slips.take k)=true):EQ L k=4:=by unfold EQ;rw [if_neg (fun x=>x h),if_pos h2]
theorem slipAt_ok (h:CW L (L.slips.getD k AB)=0) (h2:hasNum (L.slips.getD k AB).num (L.slips.take k)=false):EQ L k=0:=by unfold EQ;rw [if_neg (fun x=>x h),if_neg (by rw [h2];decide)]
theorem slips_hit (hz:DY (EQ L) k=0) (hk:k<L.slips.length) {e:Int} (he:EQ L k=e) (hne:e≠0):DY (EQ L) L.slips.length=e:=by rw [NJ hz (by rw [he];exact hne) hk,he]
end
theorem openTo_done {st:List (List Int)} {k j:Nat} (h:j=(st.getD k []).length):IA (k:Int) (st.getD k []) j (IU st k)=IU st (k+1):=by subst h;rfl
theorem openH_at {L:Lin} {k:Nat} (h:k=L.start.length):IU L.start k=EH L:=by subst h;rfl
def Within (B:Int) (H:Hs):Prop:=∀ k,-B≤CY k H∧CY k H≤B
theorem Within.put {B B':Int} {H:Hs} (h:Within B H) {k:HKey} {v:Int} (h1:-B'≤v) (h2:v≤B') (hb:B≤B'):Within B' (JR k v H):=fun j=>by
  rw [getH_put];have:=h j;split <;> omega
theorem Within.add {B:Int} {H:Hs} (h:Within B H) {k:HKey} {d:Int} (h1:-50≤d) (h2:d≤50):Within (B+50) (OS k d H):=h.put (by have:=h k;omega) (by have:=h k;omega) (by omega)
theorem Within.doSlip {B:Int} {H:Hs} (h:Within B H) {s:Slip} (h1:0≤s.amt) (h2:s.amt≤50) (hB:0≤B):Within (B+100) (doSlip s H):=by
  have up:∀ {H:Hs},Within (B+50) H→Within (B+100) H:=fun h k=>by have:=h k;omega
  have tw:∀ {H:Hs},Within (B+50+50) H→Within (B+100) H:=fun h k=>by have:=h k;omega
  unfold Sh.doSlip
  split
  · exact tw ((h.add (by omega) (by omega)).add (by omega) (by omega))
  split
  · exact tw ((h.add (by omega) (by omega)).add (by omega) (by omega))
  split
  · exact tw ((h.add (by omega) (by omega)).add (by omega) (by omega))
  split
  · exact up (h.put (by omega) (by omega) (by omega))
  split
  · exact up (h.add (by omega) (by omega))
  · exact up (h.add (by omega) (by omega))
end Go.Sh
namespace Go.Sl
open Go
structure Borns (es:Array MapEntry) (cl:Nat):Prop where
  once:(es.toList.map (·.born)).Nodup
  lt:∀ e∈es.toList,e.born<cl
def MapB {κ:Type} (enc:κ→Value) (es:Array MapEntry) (cl:Nat) (kvs:List (κ × Value)):Prop:=MapIs enc es kvs∧Borns es cl
theorem MapB.nil {κ:Type} (enc:κ→Value) (cl:Nat):MapB enc #[] cl []:=⟨rfl,by simp,fun _ h=>by simp at h⟩
theorem Borns.push {es:Array MapEntry} {cl:Nat} (h:Borns es cl) (k v:Value):Borns (es.push { key:=k,val:=v,born:=cl }) (cl+1):=by
  refine ⟨?_,fun e he=>?_⟩
  · simp only [Array.toList_push,List.map_append,List.map_cons,List.map_nil]
    refine List.nodup_append.2 ⟨h.once,by simp,fun a ha b hb=>?_⟩;obtain ⟨e,he,rfl⟩:=List.mem_map.1 ha;simp at hb;subst hb;have:=h.lt e he;omega
  · simp only [Array.toList_push,List.mem_append,List.mem_singleton] at he
    rcases he with he | rfl
    · have:=h.lt e he;omega
    · show cl<cl+1;omega
theorem modify_born (es:Array MapEntry) (j:Nat) (f:MapEntry→MapEntry) (hf:∀ e,(f e).born=e.born):(es.modify j f).toList.map (·.born)=es.toList.map (·.born):=by
  apply List.ext_getElem?
  intro n;simp only [List.getElem?_map,Array.getElem?_toList,Array.getElem?_modify]
  split
  · cases es[n]? <;> simp [hf]
  · rfl
theorem Borns.modify {es:Array MapEntry} {cl:Nat} (h:Borns es cl) (j:Nat) (f:MapEntry→MapEntry) (hf:∀ e,(f e).born=e.born):Borns (es.modify j f) cl:=by
  refine ⟨by rw [modify_born _ _ _ hf];exact h.once,fun e he=>?_⟩;have:e.born∈(es.modify j f).toList.map (·.born):=List.mem_map_of_mem he;rw [modify_born _ _ _ hf] at this;obtain ⟨e',he',e1⟩:=List.mem_map.1 this;rw [← e1];exact h.lt e' he'
def ent {κ:Type} [DecidableEq κ] (k:κ) (z:Value):List (κ × Value)→List (κ × Value)
  | []=>[(k,z)]
  | x::r=>if x.1=k then x::r else x::ent k z r
section
variable {κ:Type} [DecidableEq κ]
theorem getKv_ent (k:κ) (z:Value):∀ kvs:List (κ × Value),(KI k (ent k z kvs)).getD z=(KI k kvs).getD z:=by
  intro kvs
  induction kvs with
  | nil=>simp [ent,KI]
  | cons x r ih=>simp only [ent];split <;> simp_all [KI]
theorem upd_ent (k:κ) (z v:Value):∀ kvs:List (κ × Value),upd k v (ent k z kvs)=upd k v kvs:=by
  intro kvs
  induction kvs with
  | nil=>simp [ent,upd]
  | cons x r ih=>simp only [ent];split <;> simp_all [upd]
theorem findKv_ent (k : κ) (z : Value) : ∀ (kvs : List (κ × Value)) (i : Nat), (match EU k kvs i with
    | some (j,u)=>ent k z kvs=kvs∧EU k (ent k z kvs) i=some (j,u)
    | none=>ent k z kvs=kvs++[(k,z)]∧EU k (ent k z kvs) i=some (i+kvs.length,z)):=by
  intro kvs
  induction kvs with
  | nil=>intro i;simp [EU,ent]
  | cons x r ih=>
    intro i;simp only [EU,ent]
    by_cases h:x.1=k
    · simp [h,EU]
    · simp only [if_neg h]
      have:=ih (i+1);cases hf:EU k r (i+1) with
      | none=>
        rw [hf] at this;obtain ⟨h1,h2⟩:=this;refine ⟨by rw [h1];rfl,?_⟩;show (if x.1=k then some (i,x.2) else EU k (ent k z r) (i+1))=_;rw [if_neg h,h2,List.length_cons];congr 2;omega
      | some p=>
        rw [hf] at this;obtain ⟨h1,h2⟩:=this;refine ⟨by rw [h1],?_⟩;show (if x.1=k then some (i,x.2) else EU k (ent k z r) (i+1))=_;rw [if_neg h,h2]
theorem PB (k:κ):∀ (kvs:List (κ × Value)) (i j:Nat) (u:Value),EU k kvs i=some (j,u)→i≤j∧j-i<kvs.length∧kvs[j-i]?=some (k,u):=by
  intro kvs
  induction kvs with
  | nil=>intro i j u h;cases h
  | cons x r ih=>
    intro i j u h;simp only [EU] at h
    split at h
    · rename_i e
      cases h;simp [← e]
    · obtain ⟨h1,h2,h3⟩:=ih _ _ _ h
      refine ⟨by omega,by simp;omega,?_⟩;rw [show j-i=(j-(i+1))+1 by omega];simpa using h3
end
theorem key_at {κ:Type} {enc:κ→Value} {es:Array MapEntry} {kvs:List (κ × Value)} (his:MapIs enc es kvs) {j:Nat} {k:κ} {u:Value} (h:kvs[j]?=some (k,u)):∃ e,es[j]?=some e∧e.key=enc k∧e.val=u:=by
  have:=congrArg (fun l=>l[j]?) his;simp only [List.getElem?_map,Array.getElem?_toList,h,Option.map_some,NS] at this;cases he:es[j]? with
  | none=>rw [he] at this;cases this
  | some e=>rw [he] at this;simp only [Option.map_some,Option.some.injEq,Prod.mk.injEq] at this;exact ⟨e,rfl,this.1,this.2⟩
def Stamp {κ:Type} [DecidableEq κ] (es:Array MapEntry) (kvs:List (κ × Value)) (st:Nat) (k:κ):Prop:=∃ j u,EU k kvs 0=some (j,u)∧(es[j]?).map (·.born)=some st
section
variable {ρ:Option Nat} {P:Program} [Jud P] {N:Nat} {ops:Array Oper} {i:Nat} {l:Sl} {I:Imm} {R M:Seg} {d:Nat} {ty:TypeId} {gd:Option (Nat × Bool)} {K:Sl→Imm→Seg→Prop}
variable {κ:Type} [DecidableEq κ] {enc:κ→Value}
theorem set_same {es:Array MapEntry} {j:Nat} {e:MapEntry} (h:es[j]?=some e) {key:Value} (hk:key=e.key):es.modify j (fun e=>{ e with key })=es:=by
  apply Array.ext_getElem?
  intro n;rw [Array.getElem?_modify]
  split
  · rename_i e1;subst e1 hk;rw [h];rfl
  · rfl
theorem NE {P:Program} {a:Value} {Q:Value→Seg→Prop} (h:Q a M):wpL P (Instr.keyThatStays a a) Q I M:=by
  unfold Instr.keyThatStays
  split
  · exact h
  · rw [AD]
    show (if (Question.extern "map.whichKeyStays" 2).forced then _ else ∀ t,_)
    split
    · show Q _ M;split <;> exact h
    · intro t;show Q _ M;split <;> exact h
theorem SQ {x y : Operand} {T kt et r cl : Nat} {es : Array MapEntry} {kvs : List (κ × Value)} {k : κ} {z : Value} (n : Nat) (hop : EL ops N i = some (some d, .mapEntry T x y, ty, gd)) (hg : EK ops l gd = some true)
    (hT:RL P T=some (kt,et)) (hK:KeyOk P kt enc) (hx:BK l x=some (.map (some r))) (hy:BK l y=some (enc k)) (hz:HK P et=some z) (hn:M[n]?=some (r,Obj.map es cl)) (hb:MapB enc es cl kvs)
    (h:∀ es' cl' (st:Nat),MapB enc es' cl' (ent k z kvs)→Stamp es' (ent k z kvs) st k→K ((d,.tuple #[(KI k kvs).getD z,.int .i64 (st:Int)])::l) I (M.set n (r,Obj.map es' cl'))):Stp P N ops i l I M K:=
  CI hop hg (HO hx hy) (by
    obtain ⟨his,hbo⟩:=hb
    show wpL P (Instr.mapEntry T (rho l x) (rho l y) >>= fun x=>pure (Next.value x)) _ I M
    rw [AU hx,AU hy]
    refine CB ?_
    unfold Instr.mapEntry
    rw [AD,AJ (JT hT)]
    show wpL P (Sem.getObj r _) _ I M
    refine ⟨_,.inl (List.mem_of_getElem? hn),rfl,?_⟩
    show wpL P (Instr.checkKey _ _ _ _ >>= _) _ I _
    rw [AD]
    refine hK.check _ _ _ _ _ ?_
    rw [AD]
    refine hK.find k es.toList kvs _ _ _ his ?_
    have hf:=findKv_ent k z kvs 0
    have hgk:=findKv_get k kvs 0
    cases hkv:EU k kvs 0 with
    | none=>
      rw [hkv] at hf hgk
      simp only at hf
      simp only [Option.map_none] at hgk
      show wpL P (zeroValue et >>= _) _ I M
      rw [AD,DI hz]
      show wpL P (Sem.setObj r _ _) _ I M
      refine FC n rfl hn rfl ?_
      refine ⟨_,.inl rfl,?_⟩
      have h1:=h (es.push { key:=enc k,val:=z,born:=cl }) (cl+1) cl ⟨by rw [hf.1];exact NM his k z cl,hbo.push _ _⟩ ⟨_,_,hf.2,by
        have hs:=MapIs.size his
        rw [Nat.zero_add,← hs];simp⟩
      rw [← hgk] at h1
      exact h1
    | some p=>
      obtain ⟨j,w⟩:=p
      rw [hkv] at hf hgk
      simp only at hf
      simp only [Option.map_some] at hgk
      obtain ⟨_,_,h3⟩:=PB k kvs 0 j w hkv
      rw [Nat.sub_zero] at h3
      obtain ⟨e,he,hek,hev⟩:=key_at his h3
      have hold:((es[j]?).map (·.key)).getD (enc k)=enc k:=by rw [he];exact hek
      show wpL P (Instr.keyThatStays (((es[j]?).map (·.key)).getD (enc k)) (enc k) >>= _) _ I M
      rw [AD,hold]
      refine NE ?_
      show wpL P (Sem.setObj r _ _) _ I M
      refine FC n rfl hn rfl ?_
      refine ⟨_,.inl rfl,?_⟩
      rw [set_same he hek.symm]
      have h1:=h es cl e.born ⟨by rw [hf.1];exact his,hbo⟩ ⟨_,_,hf.2,by rw [he];rfl⟩
      rw [← hgk] at h1
      rw [he]
      exact h1)
theorem OA {x y u : Operand} {T r cl st : Nat} {es : Array MapEntry} {kvs : List (κ × Value)} {k : κ} {v : Value} (n : Nat) (hop : EL ops N i = some (none, .entryStore T x y u, ty, gd)) (hg : EK ops l gd = some true)
    (hx:BK l x=some (.map (some r))) (hy:BK l y=some (.int .i64 (st:Int))) (hu:BK l u=some v) (hn:M[n]?=some (r,Obj.map es cl)) (hb:MapB enc es cl kvs) (hst:Stamp es kvs st k)
    (h:∀ es',MapB enc es' cl (upd k v kvs)→K l I (M.set n (r,Obj.map es' cl))):Stp P N ops i l I M K:=
  CI hop hg (known3 hx hy hu) (by
    obtain ⟨his,hbo⟩:=hb
    obtain ⟨j,w,hj,hs⟩:=hst
    show wpL P (Instr.entryStore T (rho l x) (rho l y) (rho l u) >>= fun _=>pure Next.skip) _ I M
    rw [AU hx,AU hy,AU hu,AD]
    unfold Instr.entryStore
    show wpL P (Sem.getObj r _) _ I M
    refine ⟨_,.inl (List.mem_of_getElem? hn),rfl,?_⟩
    obtain ⟨_,_,h3⟩:=PB k kvs 0 j w hj
    rw [Nat.sub_zero] at h3
    obtain ⟨e,he,hek,hev⟩:=key_at his h3
    rw [he] at hs
    simp only [Option.map_some,Option.some.injEq] at hs
    have hjl:j<es.size:=(Array.getElem?_eq_some_iff.1 he).1
    have hej:es[j]=e:=(Array.getElem?_eq_some_iff.1 he).2
    have hfi:es.findIdx? (fun e=>(e.born:Int) == (st:Int))=some j:=by
      rw [Array.findIdx?_eq_some_iff_getElem]
      refine ⟨hjl,by rw [hej,hs];simp,fun q hq=>?_⟩
      have hne:es[q].born≠st:=fun e1=>by
        have h4:(es.toList.map (·.born))[q]'(by simp;omega)=(es.toList.map (·.born))[j]'(by simpa using hjl):=by simp [e1,hej,hs]
        have:=(List.getElem_inj hbo.once).1 h4
        omega
      simp only [Bool.not_eq_true,beq_eq_false_iff_ne,ne_eq]
      intro e1;exact hne (by omega)
    show wpL P (match es.findIdx? (fun e=>(e.born:Int) == (st:Int)) with
      | some i=>Go.setObj r (.map (es.modify i fun e=>{ e with val:=v }) cl)
      | none=>unsupported (.noEntry "instr/MapEntry.the entry is gone")) _ I M
    rw [hfi]
    show wpL P (Sem.setObj r _ _) _ I M
    refine FC n rfl hn rfl ?_
    refine ⟨undef,.inr ⟨rfl,rfl⟩,h _ ⟨?_,hbo.modify _ _ (fun _=>rfl)⟩⟩
    have hq:=NI k v kvs 0
    rw [hj] at hq
    simp only [Nat.sub_zero] at hq
    rw [hq.2.1]
    have e2:es.modify j (fun e=>{ e with val:=v })=es.modify j (fun e=>{ e with key:=enc k,val:=v }):=by
      apply Array.ext_getElem?
      intro q
      rw [Array.getElem?_modify,Array.getElem?_modify]
      split
      · rename_i e1;subst e1;rw [he];simp [hek]
      · rfl
    rw [e2]
    exact PL his j k v (enc k) rfl)
end
def MT (seen:Array Nat) (e:MapEntry):Bool:=!seen.contains e.born
def Left {κ:Type} (enc:κ→Value) (es:Array MapEntry) (seen:Array Nat) (todo:List (κ × Value)):Prop:=(es.toList.filter (MT seen)).map (fun e=>(e.key,e.val))=todo.map (NS enc)
def AtEntry {κ:Type} (enc:κ→Value) (es:Array MapEntry) (seen:Array Nat) (x:κ × Value):Prop:=∃ e,e∈es.toList∧seen.back?=some e.born∧e.key=enc x.1∧e.val=x.2
theorem Left.start {κ:Type} {enc:κ→Value} {es:Array MapEntry} {kvs:List (κ × Value)} (h:MapIs enc es kvs):Left enc es #[] kvs:=by
  unfold Left;have:es.toList.filter (MT #[])=es.toList:=List.filter_eq_self.2 fun e _=>by simp [MT]
  rw [this];exact h
theorem born_inj {es:Array MapEntry} {cl:Nat} (h:Borns es cl) {e e':MapEntry} (he:e∈es.toList) (he':e'∈es.toList) (hb:e.born=e'.born):e=e':=by
  obtain ⟨a,ha,rfl⟩:=List.mem_iff_getElem.1 he;obtain ⟨b,hb',rfl⟩:=List.mem_iff_getElem.1 he';have:a=b:=(List.getElem_inj (h₀:=by simpa using ha) (h₁:=by simpa using hb') h.once).1 (by simpa using hb);subst this;rfl
theorem new_push {es:Array MapEntry} {cl:Nat} (h:Borns es cl) {seen:Array Nat} {A B:List MapEntry} {e:MapEntry} (hs:es.toList.filter (MT seen)=A++e::B):es.toList.filter (MT (seen.push e.born))=A++B:=by
  have hnd:(es.toList.map (·.born)).Nodup:=h.once;have hsub:(A++e::B).Sublist es.toList:=by rw [← hs];exact List.filter_sublist
  have hn2:((A++e::B).map (·.born)).Nodup:=(hsub.map _).nodup hnd;have e1:es.toList.filter (MT (seen.push e.born))=(es.toList.filter (MT seen)).filter (fun x=>!(x.born == e.born)):=by
    rw [List.filter_filter];refine List.filter_congr fun x _=>?_
    simp only [MT,Array.contains_push,Bool.not_or];rw [Bool.and_comm]
  rw [e1,hs,List.filter_append,List.filter_cons];rw [List.map_append,List.map_cons] at hn2;have hd:=List.nodup_append.1 hn2;have hd2:=List.nodup_cons.1 hd.2.1;have hA:A.filter (fun x=>!(x.born == e.born))=A:=List.filter_eq_self.2 fun x hx=>by
    have:=hd.2.2 x.born (List.mem_map_of_mem hx) e.born (by simp)
    simpa using this
  have hB:B.filter (fun x=>!(x.born == e.born))=B:=List.filter_eq_self.2 fun x hx=>by
    have:x.born≠e.born:=fun e2=>hd2.1 (by rw [← e2];exact List.mem_map_of_mem hx)
    simpa using this
  rw [hA,hB];simp
section
variable {P:Program} [Jud P] {N:Nat} {ops:Array Oper} {i:Nat} {l:Sl} {I:Imm} {R M:Seg} {d:Nat} {ty:TypeId} {gd:Option (Nat × Bool)} {K:Sl→Imm→Seg→Prop}
theorem QH {x : Operand} {T kt et r cl : Nat} {es : Array MapEntry} (hop : EL ops N i = some (some d, .range T x, ty, gd)) (hg : EK ops l gd = some true) (hT : RL P T = some (kt, et)) (hx : BK l x = some (.map (some r))) (hm : Holds I M r (.map es cl))
    (h:∀ b,K ((d,.pointer (some ⟨b,0,none⟩))::l) I ((b,Obj.mapIter (some r) cl #[] cl)::M)):Stp P N ops i l I M K:=
  CI hop hg (JX hx) (by
    show wpL P (Instr.range T (rho l x) >>= fun x=>pure (Next.value x)) _ I M
    rw [AU hx]
    refine CB ?_
    unfold Instr.range
    rw [AD,AJ (JT hT)]
    show wpL P (Sem.getObj r _) _ I M
    exact ⟨_,hm,rfl,fun b=>⟨_,.inl rfl,h b⟩⟩)
theorem stp_next {κ : Type} {enc : κ → Value} {x : Operand} {r cl b : Nat} {es : Array MapEntry} {seen : Array Nat} {todo : List (κ × Value)} (n : Nat) (hop : EL ops N i = some (some d, .next x false, ty, gd)) (hg : EK ops l gd = some true)
    (hx:BK l x=some (.pointer (some ⟨b,0,none⟩))) (hn:M[n]?=some (b,Obj.mapIter (some r) cl seen cl)) (hm:Holds I M r (.map es cl)) (hb:Borns es cl) (hl:Left enc es seen todo)
    (h0:todo=[]→K ((d,.tuple #[.bool false])::l) I M)
    (h1:∀ A y B seen',todo=A++y::B→Left enc es seen' (A++B)→AtEntry enc es seen' y→K ((d,.tuple #[.bool true,enc y.1,y.2])::l) I (M.set n (b,Obj.mapIter (some r) cl seen' cl))):Stp P N ops i l I M K:=
  CI hop hg (JX hx) (by
    show wpL P (Instr.next (rho l x) false ty >>= fun x=>pure (Next.value x)) _ I M
    rw [AU hx]
    refine CB ?_
    unfold Instr.next
    show wpL P (Sem.getObj b _) _ I M
    refine ⟨_,.inl (List.mem_of_getElem? hn),rfl,?_⟩
    show wpL P (Sem.getObj r _) _ I M
    refine ⟨_,hm,rfl,?_⟩
    have hc:(!seen.isEmpty&&!es.isEmpty&&es.all (fun (e:MapEntry)=>decide (e.born≥cl)))=false:=by
      rcases Nat.eq_zero_or_pos es.size with hz | hz
      · have:es.isEmpty=true:=by simpa [Array.isEmpty] using hz
        rw [this];simp
      · have : es.all (fun (e : MapEntry) => decide (e.born ≥ cl)) = false := by
          rw [Array.all_eq_false]
          refine ⟨0,hz,?_⟩
          have:=hb.lt es[0] (by simp)
          simp;omega
        rw [this];simp
    show wpL P (if (!seen.isEmpty&&!es.isEmpty&&es.all (fun (e:MapEntry)=>decide (e.born≥cl)))=true then _ else _) _ I M
    rw [hc]
    simp only [Bool.false_eq_true,if_false]
    have hold:(es.filter (MT seen)).filter (fun (e:MapEntry)=>decide (e.born<cl))=es.filter (MT seen):=by
      rw [Array.filter_eq_self];intro e he
      have:=hb.lt e (by simpa using (Array.mem_filter.1 he).1);simpa using this
    have hnew:(es.filter (MT seen)).filter (fun (e:MapEntry)=>decide (e.born≥cl))=#[]:=by
      rw [Array.filter_eq_empty_iff];intro e he
      have:=hb.lt e (by simpa using (Array.mem_filter.1 he).1);simp;omega
    have e0:(fun e:MapEntry=>!seen.contains e.born)=MT seen:=rfl
    rw [e0]
    rw [hold,hnew,Array.append_empty]
    have hfl:(es.filter (MT seen)).toList=es.toList.filter (MT seen):=by simp
    generalize hL:es.filter (MT seen)=L at hfl
    have take : ∀ (q : Nat), q < L.size → wpL P (match (L.map some)[q]? with
        | some (some e)=>(do
          Go.setObj b (.mapIter (some r) cl (seen.push e.born) cl)
          pure (Value.tuple #[.bool true,e.key,e.val]))
        | some none=>pure (.tuple #[.bool false])
        | none=>stuck "Next: no such candidate") (fun v M'=>∃ u,(Next.value v=.value u∨(Next.value v=.skip∧u=undef))∧K ((d,u)::l) I M') I M:=fun q hq=>by
      have hget:(L.map some)[q]?=some (some L[q]):=by simp [hq]
      rw [hget]
      have hsp:es.toList.filter (MT seen)=L.toList.take q++L[q]::L.toList.drop (q+1):=by
        rw [← hfl]
        have:=List.drop_eq_getElem_cons (l:=L.toList) (i:=q) (by simpa using hq)
        rw [show L[q]=L.toList[q]'(by simpa using hq) from by simp,← this,List.take_append_drop]
      have hl2:(L.toList.take q++L[q]::L.toList.drop (q+1)).map (fun e=>(e.key,e.val))=todo.map (NS enc):=by rw [← hsp];exact hl
      have hlen:todo.length=L.size:=by
        have:=congrArg List.length hl2
        simp only [List.length_map,List.length_append,List.length_take,List.length_cons,List.length_drop,Array.length_toList] at this
        omega
      have hspt:todo=todo.take q++todo[q]'(by omega)::todo.drop (q+1):=by
        have:=List.drop_eq_getElem_cons (l:=todo) (i:=q) (by omega)
        rw [← this,List.take_append_drop]
      rw [hspt,List.map_append,List.map_append,List.map_cons,List.map_cons] at hl2
      have hk:(L.toList.take q).map (fun e=>(e.key,e.val))=(todo.take q).map (NS enc)∧(L[q].key,L[q].val)::(L.toList.drop (q+1)).map (fun e=>(e.key,e.val))=NS enc (todo[q]'(by omega))::(todo.drop (q+1)).map (NS enc):=
        List.append_inj hl2 (by simp;omega)
      obtain ⟨k1,k2⟩:=hk
      simp only [List.cons.injEq,NS,Prod.mk.injEq] at k2
      obtain ⟨⟨k3,k4⟩,k5⟩:=k2
      have hmem:L[q]∈es.toList:=by
        have:L[q]∈es.toList.filter (MT seen):=by rw [hsp];simp
        exact (List.mem_filter.1 this).1
      show wpL P (Sem.setObj b _ _) _ I M
      refine FC n rfl hn rfl ?_
      refine ⟨_,.inl rfl,?_⟩
      rw [k3,k4]
      refine h1 (todo.take q) (todo[q]'(by omega)) (todo.drop (q+1)) (seen.push L[q].born) hspt ?_ ⟨L[q],hmem,by simp,k3,k4⟩
      unfold Left
      rw [new_push hb hsp,List.map_append,List.map_append,k1,k5]
    by_cases hz:L.size=0
    · have hLe:L=#[]:=Array.size_eq_zero_iff.1 hz
      subst hLe
      have ht:todo=[]:=by
        unfold Left at hl
        rw [← hfl] at hl
        simpa using hl.symm
      have:((if (#[]:Array MapEntry).isEmpty=true then #[none] else #[])++Array.map some (#[]:Array MapEntry))=#[none]:=by simp
      rw [this,AD]
      show (if (Question.mapNext 1).forced=true then _ else _)
      rw [if_pos (by decide)]
      exact ⟨_,.inl rfl,h0 ht⟩
    · have : ((if L.isEmpty = true then #[none] else #[]) ++ Array.map some L) = L.map some := by
        have:L.isEmpty=false:=by simpa [Array.isEmpty] using hz
        rw [this];simp
      rw [this,AD,Array.size_map]
      show (if (Question.mapNext L.size).forced=true then _ else ∀ t,_)
      split
      · exact take 0 (by omega)
      · intro t
        exact take (t%L.size) (Nat.mod_lt _ (by omega)))
theorem QF {κ : Type} {enc : κ → Value} {x : Operand} {r cl b : Nat} {es : Array MapEntry} {seen : Array Nat} {y : κ × Value} (hop : EL ops N i = some (some d, .entry x, ty, gd)) (hg : EK ops l gd = some true)
    (hx:BK l x=some (.pointer (some ⟨b,0,none⟩))) (hn:(b,Obj.mapIter (some r) cl seen cl)∈M) (hm:Holds I M r (.map es cl)) (hb:Borns es cl) (ha:AtEntry enc es seen y)
    (h:K ((d,.tuple #[enc y.1,y.2])::l) I M):Stp P N ops i l I M K:=
  CI hop hg (JX hx) (by
    obtain ⟨e,he,hbk,k1,k2⟩:=ha
    show wpL P (Instr.entry (rho l x) >>= fun x=>pure (Next.value x)) _ I M
    rw [AU hx]
    refine CB ?_
    unfold Instr.entry
    show wpL P (Sem.getObj b _) _ I M
    refine ⟨_,.inl hn,rfl,?_⟩
    dsimp only [Sem.bind]
    rw [hbk]
    show wpL P (Sem.getObj r _) _ I M
    refine ⟨_,hm,rfl,?_⟩
    dsimp only [Sem.bind]
    rw [if_neg (by simp)]
    have hf:es.find? (fun x=>x.born == e.born)=some e:=by
      rw [← Array.find?_toList]
      cases hq:es.toList.find? (fun x=>x.born == e.born) with
      | none=>have:=List.find?_eq_none.1 hq e he;simp at this
      | some e'=>
        have h1:=List.find?_some hq;have h2:=List.mem_of_find?_eq_some hq
        rw [born_inj hb h2 he (by simpa using h1)]
    rw [hf]
    refine ⟨_,.inl rfl,?_⟩
    rw [k1,k2];exact h)
end
end Go.Sl
namespace Go.Sh
open Go Go.Sl
def hkCells (k:HKey):Array Value:=#[.int .i64 k.pl,.int .i64 k.so,.bool k.soil]
def MN (k:HKey):Value:=.agg (hkCells k)
def flatH:List (Nat × SK):=[(0,.i .i64),(1,.i .i64),(2,.b)]
theorem BD {P:Program} {kt:TypeId} (h:LY P 4 kt=some (3,flatH)) (hagg:EJ P kt=some true):KeyOk P kt MN:=
  keyOk_flat h (by decide) hagg hkCells (fun _=>rfl) (fun _=>rfl) (fun a b=>by
    obtain ⟨a1,a2,a3⟩:=a;obtain ⟨b1,b2,b3⟩:=b
    show ((a1 == b1)&&((a2 == b2)&&((a3 == b3)&&true)))=decide ((⟨a1,a2,a3⟩:HKey)=⟨b1,b2,b3⟩)
    simp only [Bool.and_true,HKey.mk.injEq,Bool.decide_and];rfl)
def intV (h:Hs):List (HKey × Value):=h.map fun x=>(x.1,.int .i64 x.2)
theorem BR (k:HKey) (h:Hs):(KI k (intV h)).getD (.int .i64 0)=.int .i64 (CY k h):=by
  induction h with
  | nil=>rfl
  | cons x r ih => simp only [intV, List.map_cons, KI, CY] at ih ⊢; split; · rfl
                   · exact ih
theorem upd_intV (k:HKey) (v:Int) (h:Hs):upd k (.int .i64 v) (intV h)=intV (JR k v h):=by
  induction h with
  | nil=>rfl
  | cons x r ih => simp only [intV, List.map_cons, upd, JR] at ih ⊢; split; · rfl
                   · rw [ih];rfl
end Go.Sh
namespace Go.Sl
open Go
def LkPr {κ:Type} [DecidableEq κ] (r:Nat) (enc:κ→Value) (k:κ) (z v:Value):Seg→Prop:=fun X=>∃ es cl kvs,X=[(r,Obj.map es cl)]∧MapIs enc es kvs∧(KI k kvs).getD z=v
section
variable {P:Program} [Jud P] {N:Nat} {ops:Array Oper} {i:Nat} {l:Sl} {I:Imm} {d:Nat} {ty:TypeId} {gd:Option (Nat × Bool)} {κ:Type} [DecidableEq κ] {enc:κ→Value}
theorem FG {x y : Operand} {T kt et r : Nat} {k : κ} {z v : Value} (hop : EL ops N i = some (some d, .lookup T x y false, ty, gd)) (hg : EK ops l gd = some true)
    (hT:RL P T=some (kt,et)) (hK:KeyOk P kt enc) (hx:BK l x=some (.map (some r))) (hy:BK l y=some (enc k)) (hz:HK P et=some z):∀ X,LkPr r enc k z v X→Det P N ops i l I X d v:=by
  rintro X ⟨es,cl,kvs,rfl,h1,h2⟩
  exact HI (cl:=cl) hop hg hT hK hx hy hz (.inl (by simp)) h1 h2
theorem MC {r cl:Nat} {es:Array MapEntry} {kvs:List (κ × Value)} {k:κ} {z v:Value} (h:MapB enc es cl kvs) (hv:(KI k kvs).getD z=v):LkPr r enc k z v [(r,Obj.map es cl)]:=⟨es,cl,kvs,rfl,h.1,hv⟩
theorem JL {r cl:Nat} {es:Array MapEntry} {kvs:List (κ × Value)} {k k':κ} {z v:Value} (h:MapB enc es cl (ent k z kvs)) (hk:k'=k) (hv:(KI k' kvs).getD z=v):LkPr r enc k' z v [(r,Obj.map es cl)]:=⟨es,cl,_,rfl,h.1,by subst hk;rw [getKv_ent];exact hv⟩
end
section
variable {P:Program} [Jud P] {N:Nat} {ops:Array Oper} {i:Nat} {l:Sl} {I:Imm} {M:Seg} {ty:TypeId} {gd:Option (Nat × Bool)} {K:Sl→Imm→Seg→Prop} {κ:Type} [DecidableEq κ] {enc:κ→Value}
theorem OB {x y u : Operand} {T kt et r cl : Nat} {es : Array MapEntry} {kvs : List (κ × Value)} {k : κ} {v : Value} (n : Nat) (hop : EL ops N i = some (none, .mapUpdate T x y u, ty, gd)) (hg : EK ops l gd = some true)
    (hT:RL P T=some (kt,et)) (hK:KeyOk P kt enc) (hx:BK l x=some (.map (some r))) (hy:BK l y=some (enc k)) (hu:BK l u=some v) (hn:M[n]?=some (r,Obj.map es cl)) (hb:MapB enc es cl kvs)
    (h:∀ es' cl',MapB enc es' cl' (upd k v kvs)→K l I (M.set n (r,Obj.map es' cl'))):Stp P N ops i l I M K:=
  CI hop hg (known3 hx hy hu) (by
    obtain ⟨his,hbo⟩:=hb
    show wpL P (Instr.mapUpdate T (rho l x) (rho l y) (rho l u) >>= fun _=>pure Next.skip) _ I M
    rw [AU hx,AU hy,AU hu,AD]
    unfold Instr.mapUpdate
    rw [AD,AJ (JT hT)]
    show wpL P (Sem.getObj r _) _ I M
    refine ⟨_,.inl (List.mem_of_getElem? hn),rfl,?_⟩
    show wpL P (Instr.checkKey _ _ _ _ >>= _) _ I _
    rw [AD]
    refine hK.check _ _ _ _ _ ?_
    rw [AD]
    refine hK.find k es.toList kvs _ _ _ his ?_
    have hf:=NI k v kvs 0
    cases hkv:EU k kvs 0 with
    | none=>
      rw [hkv] at hf
      simp only at hf
      show wpL P (Sem.setObj r _ _) _ I M
      refine FC n rfl hn rfl ?_
      refine ⟨undef,.inr ⟨rfl,rfl⟩,h _ _ ⟨?_,hbo.push _ _⟩⟩
      rw [hf.1]
      exact NM his k v cl
    | some p=>
      obtain ⟨j,w⟩:=p
      rw [hkv] at hf
      simp only [Nat.sub_zero] at hf
      obtain ⟨_,h1,_,h2⟩:=hf
      obtain ⟨_,_,h3⟩:=PB k kvs 0 j w hkv
      rw [Nat.sub_zero] at h3
      obtain ⟨e,he,hek,hev⟩:=key_at his h3
      have hold:((es[j]?).map (·.key)).getD (enc k)=enc k:=by rw [he];exact hek
      show wpL P (Instr.keyThatStays (((es[j]?).map (·.key)).getD (enc k)) (enc k) >>= _) _ I M
      rw [AD,hold]
      refine NE ?_
      show wpL P (Sem.setObj r _ _) _ I M
      refine FC n rfl hn rfl ?_
      refine ⟨undef,.inr ⟨rfl,rfl⟩,h _ _ ⟨?_,hbo.modify _ _ (fun _=>rfl)⟩⟩
      rw [h1]
      exact PL his j k v _ rfl)
end
end Go.Sl
namespace Go.Sh
open Go Go.Sl
def MapH (es:Array MapEntry) (cl:Nat) (H:Hs):Prop:=MapB MN es cl (intV H)∧(H.map Prod.fst).Nodup
def EntH (es:Array MapEntry) (cl:Nat) (H:Hs) (k:HKey) (st:Nat):Prop:=MapB MN es cl (ent k (.int .i64 0) (intV H))∧Stamp es (ent k (.int .i64 0) (intV H)) st k∧(H.map Prod.fst).Nodup
theorem MapH.nil (cl:Nat):MapH #[] cl []:=⟨MapB.nil _ _,by simp⟩
theorem putH_keys (k:HKey) (v:Int):∀ H:Hs,(JR k v H).map Prod.fst=if k∈H.map Prod.fst then H.map Prod.fst else H.map Prod.fst++[k]:=by
  intro H
  induction H with
  | nil=>rfl
  | cons x r ih=>
    simp only [JR]
    by_cases h:x.1=k
    · simp [h]
    · rw [if_neg h]
      simp only [List.map_cons,ih,List.mem_cons,Ne.symm h,false_or]
      split <;> simp
theorem putH_once {k:HKey} {v:Int} {H:Hs} (h:(H.map Prod.fst).Nodup):((JR k v H).map Prod.fst).Nodup:=by
  rw [putH_keys]
  split
  · exact h
  · rename_i hk
    exact List.nodup_append.2 ⟨h,by simp,fun a ha b hb=>by
      simp only [List.mem_singleton] at hb
      intro e;rw [e,hb] at ha;exact hk ha⟩
theorem getH_mem {H:Hs} (h:(H.map Prod.fst).Nodup) {x:HKey × Int} (hx:x∈H):CY x.1 H=x.2:=by
  induction H with
  | nil=>cases hx
  | cons y r ih=>
    rw [List.map_cons,List.nodup_cons] at h;simp only [CY];rcases List.mem_cons.1 hx with rfl | hx
    · rw [if_pos rfl]
    · rw [if_neg (fun e=>h.1 (by rw [e];exact List.mem_map_of_mem hx)),ih h.2 hx]
theorem mem_getH {H:Hs} {k:HKey} (h:CY k H≠0):(k,CY k H)∈H:=by
  induction H with
  | nil=>exact absurd rfl h
  | cons y r ih=>
    simp only [CY] at h ⊢
    by_cases e:y.1=k
    · rw [if_pos e];subst e;exact List.mem_cons_self
    · rw [if_neg e] at h ⊢;exact List.mem_cons_of_mem _ (ih h)
theorem falls_iff {h g:Hs} (hg:(g.map Prod.fst).Nodup):falls h g=true↔∃ k,CY k g<0∧0≤CY k h:=by
  unfold falls;simp only [List.any_eq_true,Bool.and_eq_true,decide_eq_true_eq]
  constructor
  · rintro ⟨x,hx,h1,h2⟩;exact ⟨x.1,by rw [getH_mem hg hx];exact h1,h2⟩
  · rintro ⟨k,h1,h2⟩;exact ⟨_,mem_getH (by omega),h1,h2⟩
def Negs (ks:List HKey) (H:Hs):Prop:=∀ k,k∈ks↔CY k H<0
end Go.Sh
namespace Go.Sl
open Go Go.Sh
section
variable {P:Program} [Jud P] {N:Nat} {ops:Array Oper} {i:Nat} {l:Sl} {I:Imm} {M:Seg} {ty:TypeId} {gd:Option (Nat × Bool)} {K:Sl→Imm→Seg→Prop} {d:Nat}
theorem stp_putH {x y u : Operand} {T kt et r cl : Nat} {es : Array MapEntry} {H : Hs} {k : HKey} {v : Int} (n : Nat) (hop : EL ops N i = some (none, .mapUpdate T x y u, ty, gd)) (hg : EK ops l gd = some true)
    (hT:RL P T=some (kt,et)) (hK:KeyOk P kt MN) (hx:BK l x=some (.map (some r))) (hy:BK l y=some (MN k)) (hu:BK l u=some (.int .i64 v)) (hn:M[n]?=some (r,Obj.map es cl)) (hb:MapH es cl H)
    (h:∀ es' cl',MapH es' cl' (JR k v H)→K l I (M.set n (r,Obj.map es' cl'))):Stp P N ops i l I M K:=
  OB n hop hg hT hK hx hy hu hn hb.1 fun es' cl' h'=>h es' cl' ⟨upd_intV k v H▸h',putH_once hb.2⟩
theorem KS {x y : Operand} {T kt et r cl : Nat} {es : Array MapEntry} {H : Hs} {k : HKey} (n : Nat) (hop : EL ops N i = some (some d, .mapEntry T x y, ty, gd)) (hg : EK ops l gd = some true)
    (hT:RL P T=some (kt,et)) (hK:KeyOk P kt MN) (hx:BK l x=some (.map (some r))) (hy:BK l y=some (MN k)) (hz:HK P et=some (.int .i64 0)) (hn:M[n]?=some (r,Obj.map es cl)) (hb:MapH es cl H)
    (h:∀ es' cl' (st:Nat),EntH es' cl' H k st→K ((d,.tuple #[.int .i64 (CY k H),.int .i64 (st:Int)])::l) I (M.set n (r,Obj.map es' cl'))):Stp P N ops i l I M K:=
  SQ n hop hg hT hK hx hy hz hn hb.1 fun es' cl' st h1 h2=>by
    rw [BR];exact h es' cl' st ⟨h1,h2,hb.2⟩
theorem IW {x y u : Operand} {T r cl st : Nat} {es : Array MapEntry} {H : Hs} {k : HKey} {v : Int} (n : Nat) (hop : EL ops N i = some (none, .entryStore T x y u, ty, gd)) (hg : EK ops l gd = some true)
    (hx:BK l x=some (.map (some r))) (hy:BK l y=some (.int .i64 (st:Int))) (hu:BK l u=some (.int .i64 v)) (hn:M[n]?=some (r,Obj.map es cl)) (hb:EntH es cl H k st)
    (h:∀ es',MapH es' cl (JR k v H)→K l I (M.set n (r,Obj.map es' cl))):Stp P N ops i l I M K:=
  OA (k:=k) n hop hg hx hy hu hn hb.1 hb.2.1 fun es' h'=>h es' ⟨by rw [upd_ent,upd_intV] at h';exact h',putH_once hb.2.2⟩
theorem map_cut {α β:Type} {f:α→β} {l:List α} {A B:List β} {y:β} (h:l.map f=A++y::B):∃ A' y' B',l=A'++y'::B'∧A=A'.map f∧y=f y'∧B=B'.map f:=by
  obtain ⟨A',R,rfl,h1,h2⟩:=List.map_eq_append_iff.1 h;obtain ⟨y',B',rfl,h3,h4⟩:=List.map_eq_cons_iff.1 h2;exact ⟨A',y',B',rfl,h1.symm,h3.symm,h4.symm⟩
theorem stp_nextH {x : Operand} {r cl b : Nat} {es : Array MapEntry} {seen : Array Nat} {todo : Hs} (n : Nat) (hop : EL ops N i = some (some d, .next x false, ty, gd)) (hg : EK ops l gd = some true)
    (hx:BK l x=some (.pointer (some ⟨b,0,none⟩))) (hn:M[n]?=some (b,Obj.mapIter (some r) cl seen cl)) (hm:Holds I M r (.map es cl)) (hb:Borns es cl) (hl:Left MN es seen (intV todo))
    (h0:todo=[]→K ((d,.tuple #[.bool false])::l) I M)
    (h1:∀ A (y:HKey × Int) B seen',todo=A++y::B→Left MN es seen' (intV (A++B))→AtEntry MN es seen' (y.1,.int .i64 y.2)→K ((d,.tuple #[.bool true,MN y.1,.int .i64 y.2])::l) I (M.set n (b,Obj.mapIter (some r) cl seen' cl))):Stp P N ops i l I M K:=
  stp_next n hop hg hx hn hm hb hl (fun h=>h0 (by simpa [intV] using h)) fun A y B seen' e hl' ha=>by
    obtain ⟨A',y',B',rfl,rfl,rfl,rfl⟩:=map_cut (show todo.map _=A++y::B from e);exact h1 A' y' B' seen' rfl (by simpa [intV] using hl') ha
theorem stp_nextK {x : Operand} {r cl b : Nat} {es : Array MapEntry} {seen : Array Nat} {todo : List HKey} (n : Nat) (hop : EL ops N i = some (some d, .next x false, ty, gd)) (hg : EK ops l gd = some true)
    (hx:BK l x=some (.pointer (some ⟨b,0,none⟩))) (hn:M[n]?=some (b,Obj.mapIter (some r) cl seen cl)) (hm:Holds I M r (.map es cl)) (hb:Borns es cl) (hl:Left MN es seen (NU todo))
    (h0:todo=[]→K ((d,.tuple #[.bool false])::l) I M)
    (h1:∀ A (y:HKey) B seen',todo=A++y::B→Left MN es seen' (NU (A++B))→AtEntry MN es seen' (y,.bool true)→K ((d,.tuple #[.bool true,MN y,.bool true])::l) I (M.set n (b,Obj.mapIter (some r) cl seen' cl))):Stp P N ops i l I M K:=
  stp_next n hop hg hx hn hm hb hl (fun h=>h0 (by simpa [NU] using h)) fun A y B seen' e hl' ha=>by
    obtain ⟨A',y',B',rfl,rfl,rfl,rfl⟩:=map_cut (show todo.map _=A++y::B from e);exact h1 A' y' B' seen' rfl (by simpa [NU] using hl') ha
theorem stp_setTrue {x y u : Operand} {T kt et r cl : Nat} {es : Array MapEntry} {ks : List HKey} {k : HKey} (n : Nat) (hop : EL ops N i = some (none, .mapUpdate T x y u, ty, gd)) (hg : EK ops l gd = some true)
    (hT:RL P T=some (kt,et)) (hK:KeyOk P kt MN) (hx:BK l x=some (.map (some r))) (hy:BK l y=some (MN k)) (hu:BK l u=some (.bool true)) (hn:M[n]?=some (r,Obj.map es cl)) (hb:MapB MN es cl (NU ks))
    (h:∀ es' cl',MapB MN es' cl' (NU (if k∈ks then ks else ks++[k]))→K l I (M.set n (r,Obj.map es' cl'))):Stp P N ops i l I M K:=
  OB n hop hg hT hK hx hy hu hn hb fun es' cl' h'=>h es' cl' (by rw [upd_trues] at h';exact h')
end
end Go.Sl
namespace Go.Sh
open Go Go.Sl
def IsBook (T:TypeId) (I:Imm) (b:Nat) (v1 v2 v3:Value) (r:Nat) (L:Lin):Prop:=
  I.blk b=some (Obj.cells #[.int .i64 L.places,.int .i64 L.sorts,v1,v2,v3,.map (some r)] T (0,0))∧IsRows I v1 L.start∧GK I v2 L.keeps∧HM I v3 L.slips
theorem IsBook.mono {T:TypeId} {I J:Imm} {b:Nat} {v1 v2 v3:Value} {r:Nat} {L:Lin} (h:IsBook T I b v1 v2 v3 r L) (le:I.le J):IsBook T J b v1 v2 v3 r L:=
  ⟨le.blk _ _ h.1,h.2.1.mono le,h.2.2.1.mono le,h.2.2.2.mono le⟩
def NegP (ks:List HKey) (dn:Hs):Prop:=∀ k,k∈ks↔∃ x∈dn,x.1=k∧x.2<0
section
variable {ks:List HKey} {dn A B todo H:Hs} {y:HKey × Int}
theorem NegP.nil:NegP [] []:=fun k=>by simp
theorem NegP.skip (h:NegP ks dn) (hy:¬ y.2<0):NegP ks (dn++[y]):=fun k=>by
  rw [h k]
  constructor
  · rintro ⟨x,hx,h1⟩;exact ⟨x,by simp [hx],h1⟩
  · rintro ⟨x,hx,h1,h2⟩
    rcases List.mem_append.1 hx with hx | hx
    · exact ⟨x,hx,h1,h2⟩
    · simp only [List.mem_singleton] at hx;subst hx;exact absurd h2 hy
theorem NegP.add (h:NegP ks dn) (hy:y.2<0):NegP (if y.1∈ks then ks else ks++[y.1]) (dn++[y]):=fun k=>by
  have e:k∈(if y.1∈ks then ks else ks++[y.1])↔k∈ks∨k=y.1:=by
    split
    · rename_i hk;exact ⟨.inl,fun q=>q.elim id (fun e=>e▸hk)⟩
    · simp
  rw [e,h k]
  constructor
  · rintro (⟨x,hx,h1⟩ | rfl)
    · exact ⟨x,by simp [hx],h1⟩
    · exact ⟨y,by simp,rfl,hy⟩
  · rintro ⟨x,hx,h1,h2⟩
    rcases List.mem_append.1 hx with hx | hx
    · exact .inl ⟨x,hx,h1,h2⟩
    · simp only [List.mem_singleton] at hx;subst hx;exact .inr h1.symm
theorem QA (h:(dn++todo).Perm H) (e:todo=A++y::B):((dn++[y])++(A++B)).Perm H:=by
  subst e;refine List.Perm.trans ?_ h;rw [List.append_assoc];exact List.Perm.append_left _ (List.perm_middle (l₁:=A)).symm
theorem TO (e:todo=A++y::B):(A++B).length<todo.length:=by subst e;simp
theorem NegP.done (h:NegP ks dn) (hp:(dn++todo).Perm H) (he:todo=[]) (hn:(H.map Prod.fst).Nodup):Negs ks H:=fun k=>by
  subst he;rw [List.append_nil] at hp;rw [h k]
  constructor
  · rintro ⟨x,hx,rfl,h2⟩;rw [getH_mem hn (hp.mem_iff.1 hx)];exact h2
  · intro hk;exact ⟨_,hp.mem_iff.2 (mem_getH (by omega)),rfl,hk⟩
end
end Go.Sh
namespace Go.Sl
open Go
def IterP {α:Type} (P:Program) (gf:FuncId) (cv:List Value) (enc:α→List Value) (seq:List α) (R:List α→Imm→Seg→Prop) (I0:Imm):Prop:=
  ∀ [Jud P] (L:Nat) (Cl Sp:List α→Imm→Seg→Prop),(∀ xs I J M,I.le J→Cl xs I M→Cl xs J M) →
    (∀ xs x I Mr M,(xs++[x]) <+: seq→I0.le I→R (xs++[x]) I Mr→Cl xs I M→Yt P L (enc x).toArray I (Mr++M) (fun v I' M'=>(v=.bool true∧∃ Mr' M2,M'=Mr'++M2∧R (xs++[x]) I' Mr'∧Cl (xs++[x]) I' M2)∨(v=.bool false∧Sp (xs++[x]) I' M'))) →
    ∀ I Mr M,I0.le I→R [] I Mr→Cl [] I M→CtA P gf (.func (.yield L) #[] #[]::cv).toArray I (Mr++M) (fun _ I' M'=>(∃ Mr' M2,M'=Mr'++M2∧R seq I' Mr'∧Cl seq I' M2)∨(∃ xs,Sp xs I' M'))
section
variable {ρ:Option Nat} {P:Program} [Jud P] {N:Nat} {ops:Array Oper} {i:Nat} {l:Sl} {I:Imm} {R M:Seg} {ty:TypeId} {gd:Option (Nat × Bool)} {K:Sl→Imm→Seg→Prop} {Q:Exit→Act→GW→Prop} {ds:List Deferred}
theorem GV {α : Type} {c : Code} {g : Operand} {ps : Array Tmp} {assign body : Code} {gf : FuncId} {cv : List Value} {enc : α → List Value} {seq : List α} {R : List α → Imm → Seg → Prop} {Mr M0 F0 : Seg}
    (Cl:List α→Imm→Seg→Prop) (Sp:Code→List α→Imm→Seg→Prop) (sl:α→Nat→Sl) (mm:α→Nat→Seg)
    (hc:c=.rangeFunc g ps assign body) (hg:BK l g=some (.func (.func gf) #[] cv.toArray)) (hcall:CX P gf=true) (hps:∀ x,(enc x).length=ps.size) (hpN:ps.all (fun t=>Nat.blt t N)=true)
    (it:IterP P gf cv enc seq R I)
    (hmono:∀ xs I J M,I.le J→Cl xs I M→Cl xs J M)
    (hM:M.Perm (Mr++(M0++F0))) (hr:R [] I Mr) (h0:Cl [] I M0)
    (hassign:∀ L x I1 M1,Run (ρ:=some L) P N assign (Exit.then (fun a w=>∃ k,Slots N (sl x k) a∧a.defers=[]∧St I1 (mm x k++M1) w) (fun _ _ _=>False)) [] (putAll (ps.toList.zip (enc x)) l) I1 M1)
    (hbody:∀ L x k xs I1 Mr1 M1 F1,(xs++[x]) <+: seq→I.le I1→R (xs++[x]) I1 Mr1→Cl xs I1 M1 →
      Run (ρ:=some L) P N body (RoundQ I1 (fun o I' M'=>match o with | none=>∃ Mr' M2,M'=Mr'++M2∧R (xs++[x]) I' Mr'∧Cl (xs++[x]) I' M2 | some c=>Sp c (xs++[x]) I' M') F1) [] (sl x k) I1 (mm x k++(Mr1++(M1++F1))))
    (hdone:∀ D I' Mr' M',I.le I'→R seq I' Mr'→Cl seq I' M'→Pst N Q .normal (mark D::ds) l I' ((D,.deferred (some []))::(Mr'++(M'++F0))))
    (hstop:∀ D c xs I' M',I.le I'→Sp c xs I' M'→Run (ρ:=none) P N c Q (mark D::ds) l I' ((D,.deferred (some []))::(M'++F0))) :
    Run (ρ:=none) P N c Q ds l I M:=by
  subst hc;intro a w hS hD hW;refine QK (MP hS hg) (fun args σ K hk=>LV hcall args σ K hk) fun fn=>?_
  have hent:wpL P (Instr.enterLoop fn a.tmps ps assign body none) (fun lm M'=>∃ D L,lm=(L,[mark D])∧M'=(L,.loop { state:=.ready,pending:=none,fn,tmps:=a.tmps,params:=ps,assign,body,defers:=D })::(D,.deferred (some []))::(Mr++(M0++F0))) I (Mr++(M0++F0)):=
    fun D L=>⟨D,L,rfl,rfl⟩
  refine (IX _ _ I _ w hent (hW.perm hM)).mono ?_
  rintro lm w1 ⟨M',⟨D,L,rfl,rfl⟩,hW2⟩
  obtain ⟨rec,hrec⟩:∃ rec:LoopState→Option Code→Loop,rec=fun st pe=>{ state:=st,pending:=pe,fn,tmps:=a.tmps,params:=ps,assign,body,defers:=D }:=⟨_,rfl⟩
  have hst:∀ st pe,(rec st pe).state=st:=by rw [hrec];intros;rfl
  have hpe:∀ st pe,(rec st pe).pending=pe:=by rw [hrec];intros;rfl
  have hset:∀ st pe st',{ rec st pe with state:=st' }=rec st' pe:=by rw [hrec];intros;rfl
  have hset2:∀ st pe st' pe',{ rec st pe with state:=st',pending:=pe' }=rec st' pe':=by rw [hrec];intros;rfl
  replace hW2:St I ((L,.loop (rec .ready none))::(D,.deferred (some []))::(Mr++(M0++F0))) w1:=by rw [hrec];exact hW2
  have hit:=it L (fun xs I M=>∃ M0,M=(L,.loop (rec .ready none))::(D,.deferred (some []))::M0∧Cl xs I M0)
    (fun xs I M=>∃ c M0,M=(L,.loop (rec .done (some c)))::(D,.deferred (some []))::M0∧Sp c xs I M0)
    (fun xs I J M le ⟨M0,e,h⟩=>⟨M0,e,hmono xs I J M0 le h⟩) ?_ I Mr ((L,.loop (rec .ready none))::(D,.deferred (some []))::M0) (Imm.le.refl I) hr ⟨M0,rfl,h0⟩
  · have e1:(#[Value.func (.yield L) #[] #[]]++cv.toArray)=(.func (.yield L) #[] #[]::cv).toArray:=by simp
    show Calls P gf (#[Value.func (.yield L) #[] #[]]++cv.toArray) w1 _;rw [e1];refine (hit F0 w1 (hW2.perm ?_)).mono ?_
    · rw [List.append_assoc]
      exact ((List.perm_middle (l₁:=Mr)).trans (.cons _ (List.perm_middle (l₁:=Mr)))).symm
    · rintro v w' ⟨I',M',hle,hp,st⟩
      rcases hp with ⟨Mr',M2,rfl,hR,M3,rfl,hcl⟩ | ⟨xs,c,M3,rfl,hsp⟩
      · have st2 := st.perm (show ((Mr' ++ ((L, Obj.loop (rec .ready none)) :: (D, .deferred (some [])) :: M3)) ++ F0).Perm ((L, Obj.loop (rec .ready none)) :: (D, .deferred (some [])) :: (Mr' ++ (M3 ++ F0))) by
          rw [List.append_assoc]
          exact (List.perm_middle (l₁:=Mr')).trans (.cons _ (List.perm_middle (l₁:=Mr'))))
        refine (IX _ (fun jump M''=>jump=none∧∃ o,M''=(L,o)::(D,.deferred (some []))::(Mr'++(M3++F0))) I' _ w' (MI (by rw [hst];simp) ⟨hpe _ _,_,rfl⟩) st2).mono ?_
        rintro jump w3 ⟨M'',⟨rfl,o,rfl⟩,st3⟩
        exact hdone D I' Mr' M3 hle hR hcl _ _ ⟨hS.size,hS.get⟩ (by show [mark D]++a.defers=_;rw [hD];rfl) st3.drop
      · refine (IX _ (fun jump M''=>jump=some c∧∃ o,M''=(L,o)::(D,.deferred (some []))::(M3++F0)) I' _ w' (MI (by rw [hst];simp) ⟨hpe _ _,_,rfl⟩) st).mono ?_
        rintro jump w3 ⟨M'',⟨rfl,o,rfl⟩,st3⟩
        exact hstop D c xs I' M3 hle hsp _ _ ⟨hS.size,hS.get⟩ (by show [mark D]++a.defers=_;rw [hD];rfl) st3.drop
  · rintro xs x I1 Mr1 M1' hpre hle hR ⟨M1,rfl,hcl⟩ F1 w2 st
    have hfold:((ps.zip (enc x).toArray).foldl (fun tmps (t,a)=>tmps.setIfInBounds t a) a.tmps)=(ps.toList.zip (enc x)).foldl (fun t (x:Tmp × Value)=>t.setIfInBounds x.1 x.2) a.tmps:=by
      rw [← Array.foldl_toList];simp
    refine (IX _ (fun n M''=>n=.round L fn ((ps.toList.zip (enc x)).foldl (fun t (x:Tmp × Value)=>t.setIfInBounds x.1 x.2) a.tmps) assign body∧M''=_) I1 _ w2 (wpL_yield (r:=rec .ready none) (by simp) (by rw [hrec];simpa using hps x) ⟨by rw [← hfold,hrec],rfl⟩) st).mono ?_
    rintro n w2' ⟨M'',⟨rfl,rfl⟩,st⟩
    refine ⟨_,_,assign,body,rfl,SO ?_⟩;refine NQ (hassign L x I1 _ _ w2' (slots_fold (ps.toList.zip (enc x)) l a.tmps ⟨hS.size,hS.get⟩ ?_) rfl st) ?_
    · intro y hy'
      have:=(List.of_mem_zip (show (y.1,y.2)∈ps.toList.zip (enc x) from hy')).1;have h3:=Array.all_eq_true'.1 hpN y.1 (by simpa using this);exact Nat.le_of_ble_eq_true h3
    · rintro e a1 w3 hq
      cases e with
      | normal=>
        obtain ⟨k,hS3,hD3,st3⟩:=hq;have st4:St I1 ((L,.loop (rec .ready none))::(mm x k++(Mr1++(M1++((D,.deferred (some []))::F1))))) w3:=st3.perm ((List.Perm.append_left (mm x k) perm3).trans List.perm_middle);refine (IX _ (fun _ M''=>M''=(L,.loop (rec .busy none))::(mm x k++(Mr1++(M1++((D,.deferred (some []))::F1))))) I1 _ w3 (OC (hst _ _) (by rw [hset])) st4).mono ?_
        rintro _ w4 ⟨M'',rfl,st4'⟩
        have st5:St I1 (mm x k++(Mr1++(M1++((L,.loop (rec .busy none))::(D,.deferred (some []))::F1)))) w4:=by
          refine st4'.perm ?_;refine (List.perm_middle (l₁:=mm x k)).symm.trans (List.Perm.append_left (mm x k) ?_);have:=(perm3 (A:=Mr1) (B:=M1) (C:=F1) (x:=(L,Obj.loop (rec .busy none))) (y:=(D,Obj.deferred (some [])))).symm;refine this.trans ?_;rw [List.append_assoc];refine List.Perm.append_left Mr1 ?_;show ((L,Obj.loop (rec .busy none))::(D,.deferred (some []))::(M1++F1)).Perm _;exact ((List.perm_middle (l₁:=M1)).trans (.cons _ (List.perm_middle (l₁:=M1)))).symm
        refine NQ (hbody L x k xs I1 Mr1 M1 _ hpre hle hR hcl a1 _ hS3 hD3 st5) ?_
        have fin : ∀ (jump : Option Code) (I' : Imm) (M' : Seg) (w6 : GW), St I' (M' ++ ((L, .loop (rec .busy none)) :: (D, .deferred (some [])) :: F1)) w6 →
            SemTo P (Instr.endRound L jump) w6 fun v w7=>v=.bool jump.isNone∧St I' ((L,.loop (rec (if jump.isNone then .ready else .done) jump))::(M'++((D,.deferred (some []))::F1))) w7:=fun jump I' M' w6 st6=>by
          refine (IX _ (fun v M''=>v=.bool jump.isNone∧M''=(L,.loop (rec (if jump.isNone then .ready else .done) jump))::(M'++((D,.deferred (some []))::F1))) I' _ w6 (SS jump ⟨rfl,by rw [hset2]⟩) (st6.perm perm4)).mono ?_
          rintro v w7 ⟨M'',⟨h1,rfl⟩,st7⟩
          exact ⟨h1,st7⟩
        rintro e a6 w6 hq6
        have stop : ∀ (c : Code), (∃ I' M', I1.le I' ∧ Sp c (xs ++ [x]) I' M' ∧ St I' (M' ++ ((L, .loop (rec .busy none)) :: (D, .deferred (some [])) :: F1)) w6) →
            SemTo P (Instr.endRound L (some c)) w6 (RQ I1 (fun v I' M'=>(v=.bool true∧∃ Mr' M2,M'=Mr'++M2∧R (xs++[x]) I' Mr'∧∃ M0,M2=(L,.loop (rec .ready none))::(D,.deferred (some []))::M0∧Cl (xs++[x]) I' M0) ∨
              (v=.bool false∧∃ c M0,M'=(L,.loop (rec .done (some c)))::(D,.deferred (some []))::M0∧Sp c (xs++[x]) I' M0)) F1):=by
          rintro c ⟨I',M',hle',hp,st6⟩
          refine (fin (some c) I' M' w6 st6).mono ?_
          rintro v w7 ⟨rfl,h2⟩
          exact ⟨I',_,hle',.inr ⟨rfl,c,M',rfl,hp⟩,h2.perm (.cons _ List.perm_middle)⟩
        cases e with
        | normal=>
          obtain ⟨I',M',hle',⟨Mr',M2,rfl,hR',hcl'⟩,st6⟩:=hq6;refine (fin none I' _ w6 st6).mono ?_
          rintro v w7 ⟨rfl,h2⟩
          refine ⟨I',_,hle',.inl ⟨rfl,Mr',_,rfl,hR',M2,rfl,hcl'⟩,h2.perm ?_⟩;rw [List.append_assoc];exact perm3.symm
        | ret=>exact stop .ret hq6
        | exit id=>exact stop (.exit id) hq6
        | goto t=>exact stop (.goto t) hq6
        | panic ch=>exact hq6.elim
        | outgrown=>exact hq6.elim
      | exit id=>exact hq.elim
      | goto t=>exact hq.elim
      | ret=>exact hq.elim
      | panic ch=>exact hq.elim
      | outgrown=>exact hq.elim
end
section
variable {P:Program} [Jud P] {N:Nat} {ops:Array Oper} {i:Nat} {l:Sl} {I:Imm} {M:Seg} {ty:TypeId} {gd:Option (Nat × Bool)} {K:Sl→Imm→Seg→Prop}
theorem call_toB {P : Program} {f : Operand} {fid : FuncId} {args : Array Operand} {tys : Array TypeId} {fs vals cv : List Value} {ρ : Operand → Value} {w : GW} {Q : Next → GW → Prop} (hf : ρ f = .func (.func fid) fs.toArray cv.toArray) (hvals : args.toList.map ρ = vals) (hc : CX P fid = true)
    (hk:Q (.enter fid (fs++vals++cv).toArray) w):SemTo P (IJ ρ (.call { callee:=.value f,args,argTypes:=tys }) ty) w Q:=by
  have e:args.map ρ=vals.toArray:=by apply Array.ext';simp [hvals]
  show SemTo P (do let d ← resolve ρ { callee:=.value f,args,argTypes:=tys } ty;invoke d.target d.args:Sem Next) w Q;unfold resolve;simp only [e,hf,Deferred.ofValue];show SemTo P (callFunc fid ((fs.toArray++vals.toArray)++cv.toArray)) w Q;refine LV hc _ _ _ ?_
  simpa using hk
theorem stp_callB {d : Option Tmp} {f : Operand} {fid : FuncId} {args : Array Operand} {tys : Array TypeId} {fs vals cv : List Value} {pre F : Seg} {post : Value → Imm → Seg → Prop} {argv : Array Value}
    (hop:EL ops N i=some (d,.call { callee:=.value f,args,argTypes:=tys },ty,gd)) (hg:EK ops l gd=some true) (hf:BK l f=some (.func (.func fid) fs.toArray cv.toArray)) (hv:NT l args.toList=some vals)
    (hc:CX P fid=true) (ha:(fs++vals++cv).toArray=argv) (ct:Ct P fid argv I pre post) (hM:M.Perm (pre++F))
    (h:∀ v I' M',I.le I'→post v I' M'→K (ups d v l) I' (M'++F)):Stp P N ops i l I M K:=by
  obtain ⟨o,ho,rfl,he,rfl,rfl,hN,hs⟩:=FN hop;obtain ⟨h1,h2⟩:=HF hv;refine ⟨o,ho,hN,hs,hg,?_,fun w st=>?_⟩
  · rw [he]
    intro x hx;simp only [Op.operands,Call.operands] at hx;rcases Array.mem_append.1 hx with hx | hx
    · simp at hx;subst hx;exact DG hf
    · exact h1 x (by simpa using hx)
  · rw [FL,he]
    refine call_toB (AU hf) h2 hc ?_;rw [ha];exact (ct.all F w (st.perm hM)).mono fun v w' ⟨I',M',hle,hp,st'⟩=>⟨I',M'++F,hle,st',h v I' M' hle hp⟩
end
end Go.Sl
namespace Go.Sh
open Go Go.Sl
def doFn (g:Int→FuncId) (b:Nat) (k:Int):Value:=.func (.func (g k)) #[.pointer (some ⟨b,0,none⟩)] #[]
def fnTab (g:Int→FuncId) (b:Nat):List (Int × Value):=[(1,doFn g b 1),(2,doFn g b 2),(3,doFn g b 3),(4,doFn g b 4),(5,doFn g b 5),(6,doFn g b 6)]
theorem getKv_fn {g:Int→FuncId} {b:Nat} {k:Int} (h1:1≤k) (h2:k≤6):(KI k (fnTab g b)).getD .nilFunc=doFn g b k:=by
  have:k=1∨k=2∨k=3∨k=4∨k=5∨k=6:=by omega
  rcases this with rfl | rfl | rfl | rfl | rfl | rfl <;> rfl
section
variable {s:Slip} {H:Hs}
theorem doSlip_1 (e:s.kind=1):doSlip s H=OS ⟨s.to,s.sort,s.soil⟩ s.amt (OS ⟨s.place,s.sort,s.soil⟩ (-s.amt) H):=by unfold doSlip;rw [if_pos e]
theorem doSlip_2 (e:s.kind=2):doSlip s H=OS ⟨s.place,s.sort,true⟩ s.amt (OS ⟨s.place,s.sort,false⟩ (-s.amt) H):=by unfold doSlip;rw [if_neg (by omega),if_pos e]
theorem doSlip_3 (e:s.kind=3):doSlip s H=OS ⟨s.place,s.sort,false⟩ s.amt (OS ⟨s.place,s.sort,true⟩ (-s.amt) H):=by unfold doSlip;rw [if_neg (by omega),if_neg (by omega),if_pos e]
theorem doSlip_4 (e:s.kind=4):doSlip s H=JR ⟨s.place,s.sort,s.soil⟩ s.amt H:=by unfold doSlip;rw [if_neg (by omega),if_neg (by omega),if_neg (by omega),if_pos e];rfl
theorem doSlip_5 (e:s.kind=5):doSlip s H=OS ⟨s.place,s.sort,false⟩ s.amt H:=by unfold doSlip;rw [if_neg (by omega),if_neg (by omega),if_neg (by omega),if_neg (by omega),if_pos e]
theorem doSlip_6 (e:s.kind=6):doSlip s H=OS ⟨s.place,s.sort,true⟩ (-s.amt) H:=by unfold doSlip;rw [if_neg (by omega),if_neg (by omega),if_neg (by omega),if_neg (by omega),if_neg (by omega)]
end
structure GoodS (l:List Slip):Prop where
  len:l.length<20
  ok:∀ s∈l,(1≤s.kind∧s.kind≤6)∧(0≤s.amt∧s.amt≤50)∧RX s
theorem GoodS.sub {l l':List Slip} (h:GoodS l) (hl:l'.length≤l.length) (hm:∀ x∈l',x∈l):GoodS l':=⟨Nat.lt_of_le_of_lt hl h.len,fun s hs=>h.ok s (hm s hs)⟩
theorem GoodS.perm {l l':List Slip} (h:GoodS l) (p:l'.Perm l):GoodS l':=h.sub (Nat.le_of_eq p.length_eq) fun x hx=>p.subset hx
theorem GoodS.sorted {l:List Slip} (h:GoodS l):GoodS (AF AC l):=h.perm (DM l)
theorem GoodS.small {l:List Slip} (h:GoodS l):∀ x∈l,RX x:=fun x hx=>(h.ok x hx).2.2
section
variable {S:List Slip} {H:Hs} {k:Nat}
theorem GD:∀ {S:List Slip} {H:Hs},(evs H S).length=S.length:=by
  intro S
  induction S with
  | nil=>intro H;rfl
  | cons s r ih=>intro H;simp only [evs,List.length_cons,ih]
theorem evs_take:∀ {S:List Slip} {H:Hs} {k:Nat},k<S.length→(evs H S).take (k+1)=(evs H S).take k++[evOf (aft H (S.take k)) (S.getD k AB)]:=by
  intro S
  induction S with
  | nil=>intro H k h;simp at h
  | cons s r ih=>
    intro H k h;cases k with
    | zero=>rfl
    | succ k=>
      have:=ih (H:=doSlip s H) (k:=k) (by simpa using h);simp only [evs,List.take_succ_cons,this,List.cons_append];rfl
theorem aft_take (h:k<S.length):aft H (S.take (k+1))=doSlip (S.getD k AB) (aft H (S.take k)):=by
  rw [BO (d:=AB) h];unfold aft;rw [List.foldl_append];rfl
theorem aft_within {B:Int} (hB:0≤B) (hg:∀ s∈S,0≤s.amt∧s.amt≤50):∀ {H:Hs},Within B H→Within (B+100*S.length) (aft H S):=by
  induction S generalizing B with
  | nil=>intro H h;simpa [aft] using h
  | cons s r ih=>
    intro H h;have h1:=hg s (by simp);have:=ih (B:=B+100) (by omega) (fun x hx=>hg x (by simp [hx])) (h.doSlip h1.1 h1.2 hB);rw [show B+100*((s::r).length:Int)=B+100+100*(r.length:Int) by rw [List.length_cons];omega];exact this
theorem Within.mono {B B':Int} {H:Hs} (h:Within B H) (hb:B≤B'):Within B' H:=fun k=>by have:=h k;omega
theorem GoodS.within (hg:GoodS S) (h:Within 1000 H) (k:Nat):Within 100000 (aft H (S.take k)):=by
  have hl:=hg.len;refine (aft_within (by omega) (fun s hs=>(hg.ok s (List.mem_of_mem_take hs)).2.1) h).mono ?_;have:(S.take k).length≤S.length:=by rw [List.length_take];omega
  omega
end
theorem below_of {ks0 ks1:List HKey} {h g:Hs} {dn td:List HKey} (h0:Negs ks0 h) (h1:Negs ks1 g) (hp:(dn++td).Perm ks1) (ht:td=[]) (hn:(g.map Prod.fst).Nodup):(dn.any fun k=>!decide (k∈ks0))=falls h g:=by
  subst ht;rw [List.append_nil] at hp;rw [Bool.eq_iff_iff,falls_iff hn];simp only [List.any_eq_true,Bool.not_eq_true',decide_eq_false_iff_not]
  constructor
  · rintro ⟨k,hk,hk2⟩
    exact ⟨k,(h1 k).1 (hp.mem_iff.1 hk),Int.not_lt.1 fun hlt=>hk2 ((h0 k).2 hlt)⟩
  · rintro ⟨k,hk,hk2⟩
    exact ⟨k,hp.mem_iff.2 ((h1 k).2 hk),fun hm=>by have:=(h0 k).1 hm;omega⟩
theorem any_snoc {α:Type} {p:α→Bool} {l:List α} {x:α}:(l++[x]).any p=(l.any p||p x):=by simp
def EvR (r:Nat) (H:Hs) (S:List Slip) (n:Nat) (M:Seg):Prop:=∃ es cl,M=[(r,Obj.map es cl)]∧MapH es cl (aft H (S.take n))
def encEv (e:Event):List Value:=[.agg #[.int .i64 e.slip.num,.int .i64 e.slip.hour,.int .i64 e.slip.kind,.int .i64 e.slip.place,.int .i64 e.slip.to,.int .i64 e.slip.sort,.bool e.slip.soil,.int .i64 e.slip.amt,.int .i64 e.gap,.bool e.below]]
theorem evOf_mk {h:Hs} {s:Slip} {g:Int} {b:Bool} (h1:(evOf h s).gap=g) (h2:falls h (doSlip s h)=b):evOf h s=⟨s,g,b⟩:=by subst h1;subst h2;rfl
theorem gap_t {h:Hs} {s:Slip} (e:s.kind=4):(evOf h s).gap=s.amt-CY ⟨s.place,s.sort,s.soil⟩ h:=if_pos e
theorem gap_f {h:Hs} {s:Slip} (e:¬ s.kind=4):(evOf h s).gap=0:=if_neg e
theorem RF {α:Type} {dn todo A B H:List α} {y:α} (h:(dn++todo).Perm H) (e:todo=A++y::B):((dn++[y])++(A++B)).Perm H:=by
  subst e;refine List.Perm.trans ?_ h;rw [List.append_assoc];exact List.Perm.append_left _ (List.perm_middle (l₁:=A)).symm
theorem tookK_len {α:Type} {todo A B:List α} {y:α} (e:todo=A++y::B):(A++B).length<todo.length:=by subst e;simp
theorem fnTab_of {g:Int→FuncId} {b:Nat} {es:Array MapEntry} (h:MapIs encI es (upd (6:Int) (doFn g b 6) (upd (5:Int) (doFn g b 5) (upd (4:Int) (doFn g b 4) (upd (3:Int) (doFn g b 3) (upd (2:Int) (doFn g b 2) (upd (1:Int) (doFn g b 1) []))))))):MapIs encI es (fnTab g b):=by
  have e:(upd (6:Int) (doFn g b 6) (upd (5:Int) (doFn g b 5) (upd (4:Int) (doFn g b 4) (upd (3:Int) (doFn g b 3) (upd (2:Int) (doFn g b 2) (upd (1:Int) (doFn g b 1) []))))))=fnTab g b:=by simp [upd,fnTab]
  rw [e] at h;exact h
end Go.Sh
namespace Go.Sl
open Go
theorem Own.cutHi {α:Type} {E sz:Nat} {cell:α→Nat→Value} {a:Option Addr} {n c k:Nat} {xs:List α} {Ms:Seg} (h:Own E sz cell (.slice a n c) xs Ms) (hk:k≤xs.length):Own E sz cell (.slice a k c) (xs.take k) Ms:=by
  rcases h with ⟨hv,rfl,rfl⟩ | ⟨b,c',sp,hv,hc,rfl,hlen⟩
  · simp only [Value.slice.injEq] at hv
    obtain ⟨rfl,rfl,rfl⟩:=hv;simp at hk;subst hk;exact .inl ⟨rfl,rfl,rfl⟩
  · simp only [Value.slice.injEq] at hv
    obtain ⟨rfl,rfl,rfl⟩:=hv;refine .inr ⟨b,c,BX sz cell (xs.drop k)++sp,by rw [List.length_take,Nat.min_eq_left hk],by rw [List.length_take];omega,?_,?_⟩
    · rw [← List.append_assoc,show BX sz cell (xs.take k)++BX sz cell (xs.drop k)=BX sz cell xs by simp only [BX];rw [← List.flatMap_append,List.take_append_drop]]
    · rw [← List.append_assoc,show BX sz cell (xs.take k)++BX sz cell (xs.drop k)=BX sz cell xs by simp only [BX];rw [← List.flatMap_append,List.take_append_drop],hlen]
theorem Own.cutE {α:Type} {E sz:Nat} {cell:α→Nat→Value} {a:Option Addr} {n c k:Nat} {xs:List α} {Ms:Seg} (h:Own E sz cell (.slice a n c) xs Ms):(Value.slice (if c=0 then a else a.map (·.add (0*sz))) (k-0) (c-0))=.slice a k c:=by
  rcases h with ⟨hv,rfl,rfl⟩ | ⟨b,c',sp,hv,hc,rfl,hlen⟩
  · simp only [Value.slice.injEq] at hv
    obtain ⟨rfl,rfl,rfl⟩:=hv;simp
  · simp only [Value.slice.injEq] at hv
    obtain ⟨rfl,rfl,rfl⟩:=hv;simp [Addr.add]
section
variable {P:Program} [Jud P] {N:Nat} {ops:Array Oper} {i:Nat} {l:Sl} {I:Imm} {M:Seg} {ty:TypeId} {gd:Option (Nat × Bool)} {K:Sl→Imm→Seg→Prop}
theorem ND {M0 : Seg} {b : Builtin} {args : Array Operand} {tys : Array TypeId} {vals : List Value} {dst : Option Tmp}
    (hop:EL ops N i=some (dst,.call { callee:=.builtin b,args,argTypes:=tys },ty,gd)) (hg:EK ops l gd=some true) (hk:∀ x∈args,known l x) (hvals:args.toList.map (rho l)=vals) (hM:M.Perm M0)
    (h:∀ (cs:Array Bool),wpL P (builtin b tys ty cs vals.toArray) (fun n M'=>∃ v M'',(n=.value v∨(n=.skip∧v=undef))∧M''.Sublist M'∧K (ups dst v l) I M'') I M0):Stp P N ops i l I M K:=
  KD hop hg (by simpa [Op.operands,Call.operands] using hk) hM (by
    have e:args.map (rho l)=vals.toArray:=by
      apply Array.ext'
      simp [hvals]
    show wpL P (do let d ← resolve (rho l) { callee:=.builtin b,args,argTypes:=tys } ty;invoke d.target d.args) _ I M0
    unfold resolve
    simp only [e]
    exact h _)
theorem stp_clearTail {α : Type} {x : Operand} {T E sz : Nat} {cell : α → Nat → Value} {a : Option Addr} {n c k : Nat} {xs : List α} {Ms R : Seg} {z : Value} {dst : Option Tmp}
    (hop:EL ops N i=some (dst,.call { callee:=.builtin .clear,args:=#[x],argTypes:=#[T] },ty,gd)) (hg:EK ops l gd=some true) (hT:HU P T=some E) (hz:HK P E=some z) (hzs:z.cells.size=sz) (hz1:∀ v∈z.cells.toList,CS v=true) (hsz:0<sz)
    (own:Own E sz cell (.slice a n c) xs Ms) (hk:k≤n) (hx:BK l x=some (.slice (if c=k then a else a.map (·.add (k*sz))) (n-k) (c-k))) (hM:M.Perm (Ms++R))
    (next:∀ Ms',Own E sz cell (.slice a k c) (xs.take k) Ms'→K (ups dst (.tuple #[]) l) I (Ms'++R)):Stp P N ops i l I M K:=by
  refine ND (vals:=[.slice (if c=k then a else a.map (·.add (k*sz))) (n-k) (c-k)]) hop hg (JX hx) (by simp [AU hx]) hM fun cs=>?_
  show wpL P (Builtin.clear_ #[T] ty #[.slice (if c=k then a else a.map (·.add (k*sz))) (n-k) (c-k)] >>= fun x=>pure (Next.value x)) _ I _;refine CB ?_;have hn:n=xs.length:=by obtain ⟨a',c',e,_⟩:=own.shape;cases e;rfl
  have done:∀ Ms',Own E sz cell (.slice a k c) (xs.take k) Ms'→(∃ v M'',(Next.value (.tuple #[])=.value v∨(Next.value (.tuple #[])=Next.skip∧v=undef))∧M''.Sublist (Ms'++R)∧K (ups dst v l) I M''):=fun Ms' h=>⟨_,_,.inl rfl,List.Sublist.refl _,next Ms' h⟩
  unfold Builtin.clear_;show wpL P (underlying T >>= _) _ I _;rw [AD,AJ (CT hT)];rcases Nat.eq_zero_or_pos (n-k) with h0 | h0
  · rw [h0]
    have e:xs.take k=xs:=List.take_of_length_le (by omega);have hkn:k=n:=by omega
    cases (if c=k then a else a.map (·.add (k*sz))) with
    | none=>exact done Ms (own.cutHi (by omega))
    | some b=>exact done Ms (own.cutHi (by omega))
  · rcases own with ⟨hv,rfl,rfl⟩ | ⟨b,c',sp,hv,hc,rfl,hlen⟩
    · simp at hn;omega
    · simp only [Value.slice.injEq] at hv
      obtain ⟨rfl,_,rfl⟩:=hv;rw [if_neg (show ¬ c=k by omega)];obtain ⟨m,hm⟩:∃ m,n-k=m+1:=⟨n-k-1,by omega⟩;rw [hm];show wpL P (zeroValue E >>= _) _ I _;rw [AD,DI hz];show wpL P (storeCells (Addr.add ⟨b,0,none⟩ (k*sz)) (Builtin.zeroCells z.cells (m+1)).toList >>= _) _ I _;rw [AD,GY];have hzl:(Builtin.zeroCells z.cells (m+1)).toList.length=(m+1)*sz:=by simp [Builtin.zeroCells,hzs]
      have hA:(BX sz cell (xs.take k)).length=k*sz:=by rw [BG,List.length_take,Nat.min_eq_left (by omega)]
      have hs:BX sz cell xs=BX sz cell (xs.take k)++BX sz cell (xs.drop k):=by simp only [BX];rw [← List.flatMap_append,List.take_append_drop]
      have hB:(BX sz cell (xs.drop k)).length=(m+1)*sz:=by rw [BG,List.length_drop];congr 1;omega
      refine FR (T:=E) (k:=0) (Builtin.zeroCells z.cells (m+1)).toList 0 _ (BX sz cell xs++sp).toArray _ (by simp) ?_ ?_ ?_
      · rw [hs,hzl];simp only [List.size_toArray,List.length_append,hA,hB];omega
      · intro v hv
        simp only [Builtin.zeroCells,Array.toList_map,Array.toList_range,List.mem_map,List.mem_range] at hv;obtain ⟨q,hq,rfl⟩:=hv;have hlt:q%z.cells.size<z.cells.size:=Nat.mod_lt _ (by omega);rw [getElem!_pos z.cells (q%z.cells.size) hlt];exact hz1 _ (by simp)
      · have e2 : KC (BX sz cell xs ++ sp).toArray (0 + k * sz + 0) (Builtin.zeroCells z.cells (m + 1)).toList = (BX sz cell (xs.take k) ++ ((Builtin.zeroCells z.cells (m + 1)).toList ++ sp)).toArray := by
          apply Array.ext'
          have:=JN (Builtin.zeroCells z.cells (m+1)).toList (BX sz cell (xs.take k)) (BX sz cell (xs.drop k)++sp) (by rw [hzl,List.length_append,hB];omega);rw [hA] at this;rw [hs,show 0+k*sz+0=k*sz by omega,List.append_assoc,this,hzl,List.drop_append_of_le_length (by rw [hB];exact Nat.le_refl _),List.drop_of_length_le (by rw [hB];exact Nat.le_refl _)];simp
        rw [e2];refine done _ (.inr ⟨b,c,(Builtin.zeroCells z.cells (m+1)).toList++sp,by rw [List.length_take,Nat.min_eq_left (by omega)],by rw [List.length_take];omega,rfl,?_⟩);rw [← hlen,hs];simp only [List.length_append,hA,hB,hzl];omega
end
end Go.Sl
namespace Go.Sh
open Go Go.Sl
section
variable {α:Type} {p:α→Bool} {xs zs:List α} {i j:Nat} {d:α}
theorem idxF_ge:-1≤MA p xs:=by unfold MA;cases xs.findIdx? p <;> simp <;> omega
theorem filter_noneD (h:MA p xs=-1):xs.filter (fun x=>!p x)=xs:=by
  have:=idxF_neg (p:=p) (l:=xs) (by omega);rw [List.any_eq_false] at this;exact List.filter_eq_self.2 fun x hx=>by simpa using this x hx
def DelI (p:α→Bool) (xs zs:List α) (i j:Nat):Prop:=zs.length=xs.length∧i<j∧j≤xs.length∧zs.take i=(xs.take j).filter (fun x=>!p x)∧zs.drop j=xs.drop j
theorem DelI.start (hi:i<xs.length) (hp:p (xs.getD i d)=true) (hb:∀ j,j<i→p (xs.getD j d)=false):DelI p xs xs i (i+1):=by
  refine ⟨rfl,by omega,hi,?_,rfl⟩;rw [BO (d:=d) hi,List.filter_append];have h1:(xs.take i).filter (fun x=>!p x)=xs.take i:=List.filter_eq_self.2 fun x hx=>by
    obtain ⟨q,hq,rfl⟩:=List.mem_iff_getElem.1 hx;rw [List.length_take] at hq;have:=hb q (by omega);simp only [List.getElem_take]
    simpa [List.getD,show q<xs.length by omega] using this
  rw [h1];simp only [List.filter_cons,hp,List.filter_nil];simp
theorem DelI.at_j (h:DelI p xs zs i j) (hj:j<xs.length):zs.getD j d=xs.getD j d:=by
  obtain ⟨h1,h2,h3,h4,h5⟩:=h;have e:(zs.drop j)[0]?=(xs.drop j)[0]?:=by rw [h5]
  simp only [List.getElem?_drop,Nat.add_zero] at e;rw [List.getD_eq_getElem?_getD,List.getD_eq_getElem?_getD,e]
theorem drop_next (h:zs.drop j=xs.drop j):zs.drop (j+1)=xs.drop (j+1):=by
  rw [← List.drop_drop,← List.drop_drop,h]
theorem DelI.skip (h:DelI p xs zs i j) (hj:j<xs.length) (hp:p (zs.getD j d)=true):DelI p xs zs i (j+1):=by
  rw [h.at_j hj] at hp;obtain ⟨h1,h2,h3,h4,h5⟩:=h;refine ⟨h1,by omega,hj,?_,drop_next h5⟩;rw [BO (d:=d) hj,List.filter_append,← h4];simp only [List.filter_cons,hp,List.filter_nil];simp
theorem DelI.keep (h:DelI p xs zs i j) (hj:j<xs.length) (hp:p (zs.getD j d)=false):DelI p xs (zs.set i (zs.getD j d)) (i+1) (j+1):=by
  rw [h.at_j hj] at hp ⊢;obtain ⟨h1,h2,h3,h4,h5⟩:=h;refine ⟨by rw [List.length_set,h1],by omega,hj,?_,?_⟩
  · rw [BO (d:=d) hj,List.filter_append,← h4,BO (d:=d) (by rw [List.length_set];omega)]
    simp only [List.filter_cons,hp,List.filter_nil];have e1:(zs.set i (xs.getD j d)).take i=zs.take i:=by rw [List.take_set_of_le (Nat.le_refl _)]
    have e2:(zs.set i (xs.getD j d)).getD i d=xs.getD j d:=by rw [List.getD_eq_getElem?_getD,List.getElem?_set_self (by omega)];rfl
    rw [e1,e2];simp
  · rw [List.drop_set_of_lt (by omega)];exact drop_next h5
theorem DelI.done (h:DelI p xs zs i j) (hj:j=xs.length):zs.take i=xs.filter (fun x=>!p x):=by
  obtain ⟨h1,h2,h3,h4,h5⟩:=h;rw [h4,hj,List.take_length]
end
def ED (L:Lin) (h:Int):List Slip:=L.slips.filter fun x=>!decide (h<x.hour)
def atL (L:Lin) (h:Int):Lin:=⟨L.places,L.sorts,L.start,L.keeps,ED L h⟩
def atH (L:Lin) (h:Int):Hs:=aft (EH L) (AF AC (ED L h))
theorem GoodS.to {L:Lin} (hg:GoodS L.slips) (h:Int):GoodS (atL L h).slips:=hg.sub (List.length_filter_le _ _) fun x hx=>(List.mem_filter.1 hx).1
theorem EvR.full {r:Nat} {H:Hs} {S:List Slip} {M:Seg} {n:Nat} (h:EvR r H S n M) (hn:n=S.length):∃ es cl,M=[(r,Obj.map es cl)]∧MapH es cl (aft H S):=by
  obtain ⟨es,cl,h1,h2⟩:=h;rw [hn,List.take_length] at h2;exact ⟨es,cl,h1,h2⟩
structure GoodL (L:Lin):Prop where
  places:1≤L.places∧L.places≤4
  sorts:1≤L.sorts∧L.sorts≤2
  start:(L.start.length:Int)=L.places
  rows:∀ r∈L.start,(r.length:Int)=L.sorts
  nums:∀ r∈L.start,∀ n∈r,0≤n∧n≤50
  keeps:L.keeps.length≤4
  keep:∀ k,k<L.keeps.length→FH L k=0
  slips:L.slips.length≤8
  slip:∀ k,k<L.slips.length→EQ L k=0
theorem all_of {α:Type} {p:α→Bool} {l:List α} (h:¬ l.all p=false):∀ x∈l,p x=true:=List.all_eq_true.1 (by simpa using h)
theorem GG {L:Lin} (h:AH L=0):GoodL L:=by
  unfold AH at h
  split at h;· omega
  rename_i h1
  split at h;· omega
  rename_i h2
  split at h;· omega
  rename_i h3
  split at h;· omega
  rename_i h4
  split at h;· omega
  rename_i h5
  have h3:EF L=0:=Decidable.not_not.1 h3;have h4:EV L=0:=Decidable.not_not.1 h4;unfold EF at h3
  split at h3;· omega
  rename_i a1
  split at h3;· omega
  rename_i a2
  split at h3;· omega
  rename_i a3
  unfold EV at h4
  split at h4;· omega
  rename_i b1
  refine ⟨EI (by simpa using h1),EI (by simpa using h2),Decidable.not_not.1 a1,fun r hr=>of_decide_eq_true (all_of a2 r hr),fun r hr n hn=>EI (all_of a3 n (List.mem_flatten.2 ⟨r,hr,hn⟩)),by omega,firstE_zero.1 h4,by omega,firstE_zero.1 h⟩
theorem LO {L:Lin} {s:Slip} (h:CW L s=0):(1≤s.num∧s.num≤999)∧(0≤s.hour∧s.hour≤200)∧(1≤s.kind∧s.kind≤6)∧(0≤s.place∧s.place≤L.places-1)∧(0≤s.sort∧s.sort≤L.sorts-1)∧(0≤s.amt∧s.amt≤50)∧(s.kind=1→0≤s.to∧s.to≤L.places-1∧s.to≠s.place):=by
  unfold CW at h
  split at h;· omega
  rename_i h1
  split at h;· omega
  rename_i h2
  split at h;· omega
  rename_i h3
  split at h;· omega
  rename_i h4
  split at h;· omega
  rename_i h5
  split at h;· omega
  rename_i h6
  split at h;· omega
  split at h;· omega
  rename_i h8
  split at h;· omega
  by_cases h10:inB s.amt (if s.kind=4 then 0 else 1) 50=false
  · rw [if_pos h10] at h;omega
  have e:∀ {b:Bool},¬ b=false→b=true:=fun hb=>by simpa using hb
  refine ⟨EI (e h1),EI (e h2),EI (e h3),EI (e h4),EI (e h8),?_,fun hk=>?_⟩
  · have:=EI (e h10)
    split at this <;> omega
  · have h5:inB s.to 0 (L.places-1)=true:=e fun hh=>h5 ⟨hk,hh⟩
    have:=EI h5;exact ⟨this.1,this.2,fun hh=>h6 ⟨hk,hh⟩⟩
section
variable {L:Lin} (g:GoodL L)
include g
theorem GoodL.slipAt {k:Nat} (hk:k<L.slips.length):CW L (L.slips.getD k AB)=0:=by
  have:=g.slip k hk;unfold EQ at this
  split at this
  · rename_i h;exact absurd this h
  · rename_i h;exact Decidable.not_not.1 h
theorem GoodL.slipOf {s:Slip} (hs:s∈L.slips):CW L s=0:=by
  obtain ⟨k,hk,rfl⟩:=List.mem_iff_getElem.1 hs;have:=g.slipAt hk
  simpa [List.getD,hk] using this
theorem GoodL.goodS:GoodS L.slips:=⟨by have:=g.slips;omega,fun s hs=>by
  obtain ⟨h1,h2,h3,h4,h5,h6,_⟩:=LO (g.slipOf hs)
  exact ⟨h3,h6,by omega,by omega,by omega,by omega⟩⟩
omit g in
theorem openRow_within {B:Int} {p:Int} {row:List Int} (hB:0≤B) (hr:∀ n∈row,0≤n∧n≤B):∀ {j:Nat} {H:Hs},Within B H→Within B (IA p row j H):=by
  intro j
  induction j with
  | zero=>intro H h;exact h
  | succ j ih=>
    intro H h;refine (ih h).put ?_ ?_ (Int.le_refl _)
    · rcases Nat.lt_or_ge j row.length with hj | hj
      · have:=hr _ (BJ (xs:=row) (d:=0) hj);omega
      · have:row.getD j 0=0:=by simp [List.getD,hj]
        omega
    · rcases Nat.lt_or_ge j row.length with hj | hj
      · exact (hr _ (BJ (xs:=row) (d:=0) hj)).2
      · have:row.getD j 0=0:=by simp [List.getD,hj]
        omega
omit g in
theorem openTo_within {B:Int} {st:List (List Int)} (hB:0≤B) (hr:∀ r∈st,∀ n∈r,0≤n∧n≤B):∀ {i:Nat},i≤st.length→Within B (IU st i):=by
  intro i
  induction i with
  | zero=>intro _ k;show -B≤(0:Int)∧(0:Int)≤B;omega
  | succ i ih=>intro hi;exact openRow_within hB (hr _ (BJ (xs:=st) (d:=[]) hi)) (ih (by omega))
theorem GoodL.within:Within 1000 (EH L):=(openTo_within (B:=50) (by omega) g.nums (Nat.le_refl _)).mono (by omega)
end
def EG (H:Hs) (p:Int):Nat→List Int
  | 0=>[]
  | j+1=>EG H p j++[CY ⟨p,(j:Int),false⟩ H,CY ⟨p,(j:Int),true⟩ H]
def ON (H:Hs) (s:Nat):Nat→List (List Int)
  | 0=>[]
  | k+1=>ON H s k++[EG H (k:Int) s]
def GJ (L:Lin) (hour:Int):List (List Int) × Int:=
  if AH L≠0 then ([],AH L) else if inB hour 0 200=false then ([],1) else (ON (atH L hour) L.sorts.toNat L.places.toNat,0)
theorem stockRow_length {H:Hs} {p:Int} {j:Nat}:(EG H p j).length=2*j:=by induction j with
  | zero=>rfl
  | succ j ih=>simp only [EG,List.length_append,ih,List.length_cons,List.length_nil];omega
theorem stockTo_length {H:Hs} {s k:Nat}:(ON H s k).length=k:=by induction k with
  | zero=>rfl
  | succ k ih=>simp only [ON,List.length_append,ih,List.length_cons,List.length_nil]
theorem stockE_1 {L:Lin} {hour:Int} (h:AH L≠0):GJ L hour=([],AH L):=if_pos h
theorem stockE_2 {L:Lin} {hour:Int} (h:AH L=0) (h2:inB hour 0 200=false):GJ L hour=([],1):=by unfold GJ;rw [if_neg (fun x=>x h),if_pos h2]
theorem stockE_3 {L:Lin} {hour:Int} {k s:Nat} (h:AH L=0) (h2:inB hour 0 200=true) (hk:(k:Int)=L.places) (hs:(s:Int)=L.sorts):GJ L hour=(ON (atH L hour) s k,0):=by
  unfold GJ;rw [if_neg (fun x=>x h),if_neg (by rw [h2];decide),← hk,← hs];rfl
def gapOf (e:Event):List Gap:=if e.gap≠0 then [⟨e.slip.num,e.gap⟩] else []
def DV (l:List Event):List Gap:=l.flatMap gapOf
def CD (L:Lin):List Event:=evs (EH L) (AF AC L.slips)
def PD (L:Lin):List Gap × Int:=if AH L≠0 then ([],AH L) else (DV (CD L),0)
theorem gapsOf_snoc {l:List Event} {e:Event}:DV (l++[e])=DV l++gapOf e:=by simp [DV]
theorem gapsOf_t {l:List Event} {e:Event} (h:e.gap≠0):DV l++[⟨e.slip.num,e.gap⟩]=DV (l++[e]):=by rw [gapsOf_snoc];unfold gapOf;rw [if_pos h]
theorem gapsOf_f {l:List Event} {e:Event} (h:e.gap=0):DV l=DV (l++[e]):=by rw [gapsOf_snoc];unfold gapOf;rw [if_neg (fun x=>x h),List.append_nil]
theorem gapsOf_length:∀ {l:List Event},(DV l).length≤l.length:=by
  intro l
  induction l with
  | nil=>exact Nat.le_refl _
  | cons x r ih=>
    show (gapOf x++DV r).length≤_;rw [List.length_append,List.length_cons];have:(gapOf x).length≤1:=by unfold gapOf;split <;> simp
    omega
theorem gapsE_1 {L:Lin} (h:AH L≠0):PD L=([],AH L):=if_pos h
theorem gapsE_2 {L:Lin} (h:AH L=0):PD L=(DV (CD L),0):=if_neg (fun x=>x h)
theorem JV {L:Lin}:(CD L).length=L.slips.length:=by unfold CD;rw [GD];exact (DM _).length_eq
end Go.Sh
namespace Go.Sl
open Go
def IterE {α β:Type} (P:Program) (gf:FuncId) (cv:List Value) (enc:β→List Value) (pr:β→α) (seq:List α) (E:β→Imm→Prop) (R:Imm→Seg→Prop) (I0:Imm):Prop:=
  ∀ [Jud P] (L:Nat) (Cl Sp:List α→Imm→Seg→Prop),(∀ xs I J M,I.le J→Cl xs I M→Cl xs J M) →
    (∀ xs x I Mr M,(xs++[pr x]) <+: seq→I0.le I→E x I→Cl xs I M→Yt P L (enc x).toArray I (Mr++M) (fun v I' M'=>(v=.bool true∧∃ M2,M'=Mr++M2∧Cl (xs++[pr x]) I' M2)∨(v=.bool false∧Sp (xs++[pr x]) I' M'))) →
    ∀ I Mr M,I0.le I→R I Mr→Cl [] I M→CtA P gf (.func (.yield L) #[] #[]::cv).toArray I (Mr++M) (fun _ I' M'=>(∃ Mr' M2,M'=Mr'++M2∧Cl seq I' M2)∨(∃ xs,Sp xs I' M'))
section
variable {ρ:Option Nat} {P:Program} [Jud P] {N:Nat} {ops:Array Oper} {i:Nat} {l:Sl} {I:Imm} {R M:Seg} {ty:TypeId} {gd:Option (Nat × Bool)} {K:Sl→Imm→Seg→Prop} {Q:Exit→Act→GW→Prop} {ds:List Deferred}
theorem NZ {α β : Type} {c : Code} {g : Operand} {ps : Array Tmp} {assign body : Code} {gf : FuncId} {cv : List Value} {enc : β → List Value} {pr : β → α} {seq : List α} {E : β → Imm → Prop} {R : Imm → Seg → Prop} {Mr M0 F0 : Seg}
    (Cl:List α→Imm→Seg→Prop) (Sp:Code→List α→Imm→Seg→Prop) (sl:β→Nat→Sl) (mm:β→Nat→Seg)
    (hc:c=.rangeFunc g ps assign body) (hg:BK l g=some (.func (.func gf) #[] cv.toArray)) (hcall:CX P gf=true) (hps:∀ x,(enc x).length=ps.size) (hpN:ps.all (fun t=>Nat.blt t N)=true)
    (it:IterE P gf cv enc pr seq E R I)
    (hmono:∀ xs I J M,I.le J→Cl xs I M→Cl xs J M)
    (hM:M.Perm (Mr++(M0++F0))) (hr:R I Mr) (h0:Cl [] I M0)
    (hassign:∀ L x I1 M1,Run (ρ:=some L) P N assign (Exit.then (fun a w=>∃ k,Slots N (sl x k) a∧a.defers=[]∧St I1 (mm x k++M1) w) (fun _ _ _=>False)) [] (putAll (ps.toList.zip (enc x)) l) I1 M1)
    (hbody:∀ L x k xs I1 Mr1 M1 F1,(xs++[pr x]) <+: seq→I.le I1→E x I1→Cl xs I1 M1 →
      Run (ρ:=some L) P N body (RoundQ I1 (fun o I' M'=>match o with | none=>∃ M2,M'=Mr1++M2∧Cl (xs++[pr x]) I' M2 | some c=>Sp c (xs++[pr x]) I' M') F1) [] (sl x k) I1 (mm x k++(Mr1++(M1++F1))))
    (hdone:∀ D I' Mr' M',I.le I'→Cl seq I' M'→Pst N Q .normal (mark D::ds) l I' ((D,.deferred (some []))::(Mr'++(M'++F0))))
    (hstop:∀ D c xs I' M',I.le I'→Sp c xs I' M'→Run (ρ:=none) P N c Q (mark D::ds) l I' ((D,.deferred (some []))::(M'++F0))) :
    Run (ρ:=none) P N c Q ds l I M:=by
  subst hc;intro a w hS hD hW;refine QK (MP hS hg) (fun args σ K hk=>LV hcall args σ K hk) fun fn=>?_
  have hent:wpL P (Instr.enterLoop fn a.tmps ps assign body none) (fun lm M'=>∃ D L,lm=(L,[mark D])∧M'=(L,.loop { state:=.ready,pending:=none,fn,tmps:=a.tmps,params:=ps,assign,body,defers:=D })::(D,.deferred (some []))::(Mr++(M0++F0))) I (Mr++(M0++F0)):=
    fun D L=>⟨D,L,rfl,rfl⟩
  refine (IX _ _ I _ w hent (hW.perm hM)).mono ?_
  rintro lm w1 ⟨M',⟨D,L,rfl,rfl⟩,hW2⟩
  obtain ⟨rec,hrec⟩:∃ rec:LoopState→Option Code→Loop,rec=fun st pe=>{ state:=st,pending:=pe,fn,tmps:=a.tmps,params:=ps,assign,body,defers:=D }:=⟨_,rfl⟩
  have hst:∀ st pe,(rec st pe).state=st:=by rw [hrec];intros;rfl
  have hpe:∀ st pe,(rec st pe).pending=pe:=by rw [hrec];intros;rfl
  have hset:∀ st pe st',{ rec st pe with state:=st' }=rec st' pe:=by rw [hrec];intros;rfl
  have hset2:∀ st pe st' pe',{ rec st pe with state:=st',pending:=pe' }=rec st' pe':=by rw [hrec];intros;rfl
  replace hW2:St I ((L,.loop (rec .ready none))::(D,.deferred (some []))::(Mr++(M0++F0))) w1:=by rw [hrec];exact hW2
  have hit:=it L (fun xs I M=>∃ M0,M=(L,.loop (rec .ready none))::(D,.deferred (some []))::M0∧Cl xs I M0)
    (fun xs I M=>∃ c M0,M=(L,.loop (rec .done (some c)))::(D,.deferred (some []))::M0∧Sp c xs I M0)
    (fun xs I J M le ⟨M0,e,h⟩=>⟨M0,e,hmono xs I J M0 le h⟩) ?_ I Mr ((L,.loop (rec .ready none))::(D,.deferred (some []))::M0) (Imm.le.refl I) hr ⟨M0,rfl,h0⟩
  · have e1:(#[Value.func (.yield L) #[] #[]]++cv.toArray)=(.func (.yield L) #[] #[]::cv).toArray:=by simp
    show Calls P gf (#[Value.func (.yield L) #[] #[]]++cv.toArray) w1 _;rw [e1];refine (hit F0 w1 (hW2.perm ?_)).mono ?_
    · rw [List.append_assoc]
      exact ((List.perm_middle (l₁:=Mr)).trans (.cons _ (List.perm_middle (l₁:=Mr)))).symm
    · rintro v w' ⟨I',M',hle,hp,st⟩
      rcases hp with ⟨Mr',M2,rfl,M3,rfl,hcl⟩ | ⟨xs,c,M3,rfl,hsp⟩
      · have st2 := st.perm (show ((Mr' ++ ((L, Obj.loop (rec .ready none)) :: (D, .deferred (some [])) :: M3)) ++ F0).Perm ((L, Obj.loop (rec .ready none)) :: (D, .deferred (some [])) :: (Mr' ++ (M3 ++ F0))) by
          rw [List.append_assoc]
          exact (List.perm_middle (l₁:=Mr')).trans (.cons _ (List.perm_middle (l₁:=Mr'))))
        refine (IX _ (fun jump M''=>jump=none∧∃ o,M''=(L,o)::(D,.deferred (some []))::(Mr'++(M3++F0))) I' _ w' (MI (by rw [hst];simp) ⟨hpe _ _,_,rfl⟩) st2).mono ?_
        rintro jump w3 ⟨M'',⟨rfl,o,rfl⟩,st3⟩
        exact hdone D I' Mr' M3 hle hcl _ _ ⟨hS.size,hS.get⟩ (by show [mark D]++a.defers=_;rw [hD];rfl) st3.drop
      · refine (IX _ (fun jump M''=>jump=some c∧∃ o,M''=(L,o)::(D,.deferred (some []))::(M3++F0)) I' _ w' (MI (by rw [hst];simp) ⟨hpe _ _,_,rfl⟩) st).mono ?_
        rintro jump w3 ⟨M'',⟨rfl,o,rfl⟩,st3⟩
        exact hstop D c xs I' M3 hle hsp _ _ ⟨hS.size,hS.get⟩ (by show [mark D]++a.defers=_;rw [hD];rfl) st3.drop
  · rintro xs x I1 Mr1 M1' hpre hle hR ⟨M1,rfl,hcl⟩ F1 w2 st
    have hfold:((ps.zip (enc x).toArray).foldl (fun tmps (t,a)=>tmps.setIfInBounds t a) a.tmps)=(ps.toList.zip (enc x)).foldl (fun t (x:Tmp × Value)=>t.setIfInBounds x.1 x.2) a.tmps:=by
      rw [← Array.foldl_toList];simp
    refine (IX _ (fun n M''=>n=.round L fn ((ps.toList.zip (enc x)).foldl (fun t (x:Tmp × Value)=>t.setIfInBounds x.1 x.2) a.tmps) assign body∧M''=_) I1 _ w2 (wpL_yield (r:=rec .ready none) (by simp) (by rw [hrec];simpa using hps x) ⟨by rw [← hfold,hrec],rfl⟩) st).mono ?_
    rintro n w2' ⟨M'',⟨rfl,rfl⟩,st⟩
    refine ⟨_,_,assign,body,rfl,SO ?_⟩;refine NQ (hassign L x I1 _ _ w2' (slots_fold (ps.toList.zip (enc x)) l a.tmps ⟨hS.size,hS.get⟩ ?_) rfl st) ?_
    · intro y hy'
      have:=(List.of_mem_zip (show (y.1,y.2)∈ps.toList.zip (enc x) from hy')).1;have h3:=Array.all_eq_true'.1 hpN y.1 (by simpa using this);exact Nat.le_of_ble_eq_true h3
    · rintro e a1 w3 hq
      cases e with
      | normal=>
        obtain ⟨k,hS3,hD3,st3⟩:=hq;have st4:St I1 ((L,.loop (rec .ready none))::(mm x k++(Mr1++(M1++((D,.deferred (some []))::F1))))) w3:=st3.perm ((List.Perm.append_left (mm x k) perm3).trans List.perm_middle);refine (IX _ (fun _ M''=>M''=(L,.loop (rec .busy none))::(mm x k++(Mr1++(M1++((D,.deferred (some []))::F1))))) I1 _ w3 (OC (hst _ _) (by rw [hset])) st4).mono ?_
        rintro _ w4 ⟨M'',rfl,st4'⟩
        have st5:St I1 (mm x k++(Mr1++(M1++((L,.loop (rec .busy none))::(D,.deferred (some []))::F1)))) w4:=by
          refine st4'.perm ?_;refine (List.perm_middle (l₁:=mm x k)).symm.trans (List.Perm.append_left (mm x k) ?_);have:=(perm3 (A:=Mr1) (B:=M1) (C:=F1) (x:=(L,Obj.loop (rec .busy none))) (y:=(D,Obj.deferred (some [])))).symm;refine this.trans ?_;rw [List.append_assoc];refine List.Perm.append_left Mr1 ?_;show ((L,Obj.loop (rec .busy none))::(D,.deferred (some []))::(M1++F1)).Perm _;exact ((List.perm_middle (l₁:=M1)).trans (.cons _ (List.perm_middle (l₁:=M1)))).symm
        refine NQ (hbody L x k xs I1 Mr1 M1 _ hpre hle hR hcl a1 _ hS3 hD3 st5) ?_
        have fin : ∀ (jump : Option Code) (I' : Imm) (M' : Seg) (w6 : GW), St I' (M' ++ ((L, .loop (rec .busy none)) :: (D, .deferred (some [])) :: F1)) w6 →
            SemTo P (Instr.endRound L jump) w6 fun v w7=>v=.bool jump.isNone∧St I' ((L,.loop (rec (if jump.isNone then .ready else .done) jump))::(M'++((D,.deferred (some []))::F1))) w7:=fun jump I' M' w6 st6=>by
          refine (IX _ (fun v M''=>v=.bool jump.isNone∧M''=(L,.loop (rec (if jump.isNone then .ready else .done) jump))::(M'++((D,.deferred (some []))::F1))) I' _ w6 (SS jump ⟨rfl,by rw [hset2]⟩) (st6.perm perm4)).mono ?_
          rintro v w7 ⟨M'',⟨h1,rfl⟩,st7⟩
          exact ⟨h1,st7⟩
        rintro e a6 w6 hq6
        have stop : ∀ (c : Code), (∃ I' M', I1.le I' ∧ Sp c (xs ++ [pr x]) I' M' ∧ St I' (M' ++ ((L, .loop (rec .busy none)) :: (D, .deferred (some [])) :: F1)) w6) →
            SemTo P (Instr.endRound L (some c)) w6 (RQ I1 (fun v I' M'=>(v=.bool true∧∃ M2,M'=Mr1++M2∧∃ M0,M2=(L,.loop (rec .ready none))::(D,.deferred (some []))::M0∧Cl (xs++[pr x]) I' M0) ∨
              (v=.bool false∧∃ c M0,M'=(L,.loop (rec .done (some c)))::(D,.deferred (some []))::M0∧Sp c (xs++[pr x]) I' M0)) F1):=by
          rintro c ⟨I',M',hle',hp,st6⟩
          refine (fin (some c) I' M' w6 st6).mono ?_
          rintro v w7 ⟨rfl,h2⟩
          exact ⟨I',_,hle',.inr ⟨rfl,c,M',rfl,hp⟩,h2.perm (.cons _ List.perm_middle)⟩
        cases e with
        | normal=>
          obtain ⟨I',M',hle',⟨M2,rfl,hcl'⟩,st6⟩:=hq6;refine (fin none I' _ w6 st6).mono ?_
          rintro v w7 ⟨rfl,h2⟩
          refine ⟨I',_,hle',.inl ⟨rfl,_,rfl,M2,rfl,hcl'⟩,h2.perm ?_⟩;rw [List.append_assoc];exact perm3.symm
        | ret=>exact stop .ret hq6
        | exit id=>exact stop (.exit id) hq6
        | goto t=>exact stop (.goto t) hq6
        | panic ch=>exact hq6.elim
        | outgrown=>exact hq6.elim
      | exit id=>exact hq.elim
      | goto t=>exact hq.elim
      | ret=>exact hq.elim
      | panic ch=>exact hq.elim
      | outgrown=>exact hq.elim
end
end Go.Sl
namespace Go.Sh
open Go Go.Sl
def kstep (p h:Int) (q:Int × Int) (k:Keep):Int × Int:=bif cmp .eql k.place p&&(cmp .leq k.hour h&&cmp .gtr k.hour q.2) then (k.who,k.hour) else q
def KV (p h:Int) (ks:List Keep):Int × Int:=ks.foldl (kstep p h) (0,-1)
def BS (L:Lin) (p h:Int):Int:=(KV p h L.keeps).1
section
variable {p h:Int} {ks:List Keep} {k:Nat}
theorem kfold_t (hk:k<ks.length) (hc:(cmp .eql (ks.getD k AL).place p&&(cmp .leq (ks.getD k AL).hour h&&cmp .gtr (ks.getD k AL).hour (KV p h (ks.take k)).2))=true):((ks.getD k AL).who,(ks.getD k AL).hour)=KV p h (ks.take (k+1)):=by
  rw [BO (d:=AL) hk];unfold KV at *;rw [List.foldl_append];simp only [List.foldl_cons,List.foldl_nil,kstep];rw [hc];rfl
theorem kfold_f (hk:k<ks.length) (hc:(cmp .eql (ks.getD k AL).place p&&(cmp .leq (ks.getD k AL).hour h&&cmp .gtr (ks.getD k AL).hour (KV p h (ks.take k)).2))=false):KV p h (ks.take k)=KV p h (ks.take (k+1)):=by
  rw [BO (d:=AL) hk];unfold KV at *;rw [List.foldl_append];simp only [List.foldl_cons,List.foldl_nil,kstep];rw [hc];rfl
theorem kfold_who:∀ {ks:List Keep} {q:Int × Int},(ks.foldl (kstep p h) q).1=q.1∨(ks.foldl (kstep p h) q).1∈ks.map (·.who):=by
  intro ks
  induction ks with
  | nil=>intro q;exact .inl rfl
  | cons x r ih=>
    intro q;simp only [List.foldl_cons,List.map_cons,List.mem_cons];rcases ih (q:=kstep p h q x) with e | e
    · rw [e];unfold kstep;cases (cmp .eql x.place p&&(cmp .leq x.hour h&&cmp .gtr x.hour q.2)) with
      | true=>exact .inr (.inl rfl)
      | false=>exact .inl rfl
    · exact .inr (.inr e)
end
theorem keeperOf_mem {L:Lin} {p h:Int} (hn:BS L p h≠0):BS L p h∈L.keeps.map (·.who):=by
  rcases kfold_who (p:=p) (h:=h) (ks:=L.keeps) (q:=(0,-1)) with e | e
  · exact absurd e hn
  · exact e
def CP (L:Lin) (p since:Int):Nat→List Int
  | 0=>[]
  | n+1=>if (n:Int)<since then CP L p since n else if BS L p n=0 then CP L p since n else if BS L p n∈CP L p since n then CP L p since n else CP L p since n++[BS L p n]
section
variable {L:Lin} {p since:Int} {n:Nat}
theorem holdTo_1 (h:(n:Int)<since):CP L p since n=CP L p since (n+1):=(if_pos h).symm
theorem holdTo_2 (h:¬ (n:Int)<since) (h2:BS L p n=0):CP L p since n=CP L p since (n+1):=by simp only [CP];rw [if_neg h,if_pos h2]
theorem holdTo_3 (h:¬ (n:Int)<since) (h2:¬ BS L p n=0) (h3:BS L p n∈CP L p since n):CP L p since n=CP L p since (n+1):=by simp only [CP];rw [if_neg h,if_neg h2,if_pos h3]
theorem holdTo_4 (h:¬ (n:Int)<since) (h2:¬ BS L p n=0) (h3:¬ BS L p n∈CP L p since n):CP L p since n++[BS L p n]=CP L p since (n+1):=by simp only [CP];rw [if_neg h,if_neg h2,if_neg h3]
theorem holdTo_once:∀ n,(CP L p since n).Nodup∧∀ x∈CP L p since n,x∈L.keeps.map (·.who):=by
  intro n
  induction n with
  | zero=>exact ⟨List.nodup_nil,fun x hx=>by cases hx⟩
  | succ n ih=>
    simp only [CP]
    split
    · exact ih
    split
    · exact ih
    rename_i h2
    split
    · exact ih
    · rename_i h3
      refine ⟨List.nodup_append.2 ⟨ih.1,by simp,fun a ha b hb=>?_⟩,fun x hx=>?_⟩
      · simp only [List.mem_singleton] at hb;intro e;rw [e,hb] at ha;exact h3 ha
      · rcases List.mem_append.1 hx with hx | hx
        · exact ih.2 x hx
        · simp only [List.mem_singleton] at hx;subst hx;exact keeperOf_mem h2
omit p since n in
theorem once_len:∀ {l m:List Int},l.Nodup→(∀ x∈l,x∈m)→l.length≤m.length:=by
  intro l
  induction l with
  | nil=>intro m _ _;exact Nat.zero_le _
  | cons x r ih=>
    intro m hn hs;have hn2:=List.nodup_cons.1 hn;have hx:=hs x (by simp);have:=ih (m:=m.erase x) hn2.2 (fun y hy=>(List.mem_erase_of_ne (fun e=>hn2.1 (by rw [← e];exact hy))).2 (hs y (by simp [hy])));rw [List.length_erase_of_mem hx] at this;have h0:=List.length_pos_of_mem hx;rw [List.length_cons];omega
theorem holdTo_len (hk:L.keeps.length≤4):(CP L p since n).length≤4:=by
  have:=once_len (holdTo_once (L:=L) (p:=p) (since:=since) n).1 (holdTo_once n).2;rw [List.length_map] at this;omega
end
def DZ (L:Lin) (s:Slip) (since:Int):List Int:=AF cmpZ (CP L s.place since (s.hour+1).toNat)
theorem holdersOf_len {L:Lin} {s:Slip} {since:Int} (hk:L.keeps.length≤4):(DZ L s since).length≤4:=by unfold DZ;rw [(DM _).length_eq];exact holdTo_len hk
theorem holdersOf_at {L:Lin} {s:Slip} {since:Int} {n:Nat} (h:(n:Int)=s.hour+1):AF cmpZ (CP L s.place since n)=DZ L s since:=by unfold DZ;rw [← h];rfl
abbrev EvH:=Sh.Event × List Int
def SV (L:Lin) (q:Hs × List EvH) (e:Sh.Event):Hs × List EvH:=
  if e.slip.kind≠4 then q else (JR (keyOf e.slip) e.slip.hour q.1,if e.gap≠0 then q.2++[(e,DZ L e.slip (CY (keyOf e.slip) q.1))] else q.2)
def FD (L:Lin) (l:List Sh.Event):Hs × List EvH:=l.foldl (SV L) ([],[])
def FU (L:Lin):List EvH:=(FD L (CD L)).2
section
variable {L:Lin} {xs ys:List Sh.Event} {x:Sh.Event}
theorem JQ:FD L (xs++[x])=SV L (FD L xs) x:=by unfold FD;rw [List.foldl_append];rfl
theorem gfold_1 (h:x.slip.kind≠4):FD L xs=FD L (xs++[x]):=by rw [JQ];unfold SV;rw [if_pos h]
theorem gfold_2 (h:x.slip.kind=4):(FD L (xs++[x])).1=JR ⟨x.slip.place,x.slip.sort,x.slip.soil⟩ x.slip.hour (FD L xs).1:=by rw [JQ];unfold SV;rw [if_neg (fun e=>e h)];rfl
theorem gfold_3 (h:x.slip.kind=4) (h2:x.gap=0):(FD L xs).2=(FD L (xs++[x])).2:=by rw [JQ];unfold SV;rw [if_neg (fun e=>e h)];simp only;rw [if_neg (fun e=>e h2)]
theorem gfold_4 (h:x.slip.kind=4) (h2:x.gap≠0):(FD L xs).2++[(x,DZ L x.slip (CY ⟨x.slip.place,x.slip.sort,x.slip.soil⟩ (FD L xs).1))]=(FD L (xs++[x])).2:=by rw [JQ];unfold SV;rw [if_neg (fun e=>e h)];simp only;rw [if_pos h2];rfl
theorem gfold_more:∀ {ys xs:List Sh.Event},(FD L xs).2 <+: (FD L (xs++ys)).2:=by
  intro ys
  induction ys with
  | nil=>intro xs;rw [List.append_nil];exact List.prefix_refl _
  | cons y r ih=>
    intro xs;have h1:(FD L xs).2 <+: (FD L (xs++[y])).2:=by
      rw [JQ];unfold SV
      split
      · exact List.prefix_refl _
      · simp only;split
        · exact List.prefix_append _ _
        · exact List.prefix_refl _
    have h2:=ih (xs:=xs++[y]);rw [List.append_assoc] at h2;exact h1.trans h2
theorem gfold_pre (h:xs <+: ys):(FD L xs).2 <+: (FD L ys).2:=by obtain ⟨r,rfl⟩:=h;exact gfold_more
end
def encEvH (q:EvH × (Option Addr × Nat)):List Value:=[.agg #[.int .i64 q.1.1.slip.num,.int .i64 q.1.1.slip.hour,.int .i64 q.1.1.slip.kind,.int .i64 q.1.1.slip.place,.int .i64 q.1.1.slip.to,.int .i64 q.1.1.slip.sort,.bool q.1.1.slip.soil,.int .i64 q.1.1.slip.amt,.int .i64 q.1.1.gap,.bool q.1.1.below,.slice q.2.1 q.1.2.length q.2.2]]
theorem evs_slip:∀ {S:List Slip} {H:Hs} {x:Sh.Event},x∈evs H S→x.slip∈S:=by
  intro S
  induction S with
  | nil=>intro H x hx;cases hx
  | cons s r ih=>
    intro H x hx;simp only [evs] at hx;rcases List.mem_cons.1 hx with rfl | hx
    · exact List.mem_cons_self
    · exact List.mem_cons_of_mem _ (ih hx)
theorem GoodL.ofEv {L:Lin} (g:GoodL L) {xs:List Sh.Event} {x:Sh.Event} {H:Hs} (h:(xs++[x]) <+: evs H (AF AC L.slips)):0≤x.slip.hour∧x.slip.hour≤200:=
  (LO (g.slipOf ((DM _).subset (evs_slip (h.subset (List.mem_append_right _ List.mem_cons_self)))))).2.1
def SI (n:Int) (l:List EvH):Option (List Int):=(l.find? fun q=>decide (q.1.slip.num=n)).map Prod.snd
theorem lackAt_hit {n:Int} {l xs:List EvH} {x:EvH} (h:(xs++[x]) <+: l) (hn:∀ q∈xs,q.1.slip.num≠n) (hx:x.1.slip.num=n):SI n l=some x.2:=by
  obtain ⟨r,rfl⟩:=h;unfold SI;rw [List.append_assoc,List.find?_append,List.find?_eq_none.2 (fun q hq=>by simpa using hn q hq)];simp [hx]
theorem lackAt_none {n:Int} {l:List EvH} (hn:∀ q∈l,q.1.slip.num≠n):SI n l=none:=by
  unfold SI;rw [List.find?_eq_none.2 (fun q hq=>by simpa using hn q hq)];rfl
def BZ (L:Lin) (n:Int):List Int × Int:=
  if AH L≠0 then ([],AH L) else if MA (fun x:Slip=>decide (x.num=n)) L.slips<0 then ([],3)
  else if (L.slips.getD (MA (fun x:Slip=>decide (x.num=n)) L.slips).toNat AB).kind≠4 then ([],8)
  else match SI n (FU L) with
    | some h=>(h,0)
    | none=>([],11)
section
variable {L:Lin} {n:Int} {i:Nat}
theorem holdersE_1 (h:AH L≠0):BZ L n=([],AH L):=if_pos h
theorem holdersE_2 (h:AH L=0) (h2:MA (fun x:Slip=>decide (x.num=n)) L.slips<0):BZ L n=([],3):=by unfold BZ;rw [if_neg (fun x=>x h),if_pos h2]
theorem holdersE_3 (h:AH L=0) (h2:MA (fun x:Slip=>decide (x.num=n)) L.slips=(i:Int)) (h3:¬ (L.slips.getD i AB).kind=4):BZ L n=([],8):=by
  unfold BZ;rw [if_neg (fun x=>x h),h2,if_neg (by omega),Int.toNat_natCast,if_pos h3]
theorem holdersE_4 {l:List Int} (h:AH L=0) (h2:MA (fun x:Slip=>decide (x.num=n)) L.slips=(i:Int)) (h3:(L.slips.getD i AB).kind=4) (h4:SI n (FU L)=some l):BZ L n=(l,0):=by
  unfold BZ;rw [if_neg (fun x=>x h),h2,if_neg (by omega),Int.toNat_natCast,if_neg (fun x=>x h3),h4]
theorem holdersE_5 (h:AH L=0) (h2:MA (fun x:Slip=>decide (x.num=n)) L.slips=(i:Int)) (h3:(L.slips.getD i AB).kind=4) (h4:SI n (FU L)=none):BZ L n=([],11):=by
  unfold BZ;rw [if_neg (fun x=>x h),h2,if_neg (by omega),Int.toNat_natCast,if_neg (fun x=>x h3),h4]
end
theorem ne_snoc {α:Type} {p:α→Prop} {xs:List α} {x:α} (h:∀ q∈xs,p q) (hx:p x):∀ q∈xs++[x],p q:=fun q hq=>by
  rcases List.mem_append.1 hq with hq | hq
  · exact h q hq
  · simp only [List.mem_singleton] at hq;subst hq;exact hx
def evOk (e:Sh.Event):Bool:=cmp .eql e.gap 0&&!e.below
def rightE (L:Lin):Bool:=(CD L).all evOk
theorem rightE_no {L:Lin} {xs:List Sh.Event} {x:Sh.Event} (h:(xs++[x]) <+: CD L) (hx:evOk x=false):rightE L=false:=by
  unfold rightE;cases e:(CD L).all evOk with
  | false=>rfl
  | true=>
    have:=List.all_eq_true.1 e x (h.subset (by simp));rw [hx] at this;cases this
theorem rightE_yes {L:Lin} (h:∀ x∈CD L,evOk x=true):rightE L=true:=List.all_eq_true.2 h
def woS (L:Lin) (ns:List Int):List Slip:=L.slips.filter fun x=>!decide (x.num∈ns)
def woL (L:Lin) (ns:List Int):Lin:=⟨L.places,L.sorts,L.start,L.keeps,woS L ns⟩
theorem GoodL.wo {L:Lin} (g:GoodL L) {ns:List Int}:GoodS (woL L ns).slips:=g.goodS.sub (List.length_filter_le _ _) fun x hx=>(List.mem_filter.1 hx).1
theorem GoodL.woW {L:Lin} (g:GoodL L) {ns:List Int}:Within 1000 (EH (woL L ns)):=g.within
def JW (f:Nat→List Int × Bool) (j:Nat):Nat→List Int × Bool
  | 0=>([],false)
  | k+1=>if (f j).2=true then ((f j).1,true) else JW f (j+1) k
def GL (L:Lin) (all:List Int):Nat→List Int→Nat→List Int × Bool
  | 0,begun,_=>(begun,rightE (woL L begun))
  | m+1,begun,j=>JW (fun i=>GL L all m (begun++[all.getD i 0]) (i+1)) j (all.length-j)
section
variable {f:Nat→List Int × Bool} {i n:Nat}
theorem firstW_hit (hi:i<n) (h:(f i).2=true):JW f i (n-i)=((f i).1,true):=by
  obtain ⟨k,hk⟩:∃ k,n-i=k+1:=⟨n-i-1,by omega⟩;rw [hk];simp only [JW];rw [if_pos h]
theorem firstW_miss (hi:i<n) (h:(f i).2=false):JW f i (n-i)=JW f (i+1) (n-(i+1)):=by
  obtain ⟨k,hk⟩:∃ k,n-i=k+1:=⟨n-i-1,by omega⟩;rw [hk,show n-(i+1)=k by omega];simp only [JW];rw [if_neg (by rw [h];decide)]
theorem firstW_none (hi:n≤i):JW f i (n-i)=([],false):=by rw [show n-i=0 by omega];rfl
end
def allN (L:Lin):List Int:=AF cmpZ (L.slips.map (·.num))
def FV (L:Lin):List Int × Int:=
  if AH L≠0 then ([],AH L)
  else if (JW (fun m=>GL L (allN L) m [] 0) 0 3).2=true then ((JW (fun m=>GL L (allN L) m [] 0) 0 3).1,0) else ([],11)
theorem wrongE_1 {L:Lin} (h:AH L≠0):FV L=([],AH L):=if_pos h
theorem wrongE_2 {L:Lin} {l:List Int} (h:AH L=0) (h2:JW (fun m=>GL L (allN L) m [] 0) 0 3=(l,true)):FV L=(l,0):=by unfold FV;rw [if_neg (fun x=>x h),h2,if_pos rfl]
theorem wrongE_3 {L:Lin} (h:AH L=0) (h2:JW (fun m=>GL L (allN L) m [] 0) 0 3=([],false)):FV L=([],11):=by unfold FV;rw [if_neg (fun x=>x h),h2,if_neg (by decide)]
theorem allN_len {L:Lin}:(allN L).length=L.slips.length:=by unfold allN;rw [(DM _).length_eq,List.length_map]
section
variable {n m h:Nat} {left:Int} {g l:List Int}
def balF (n m h:Nat) (left:Int) (g l:List Int) (b:Nat):Option (List Cart):=
  (CJ n m h (left-(b+1:Nat)) (less (pF n (m+1)) (b+1) g) (less (pT n (m+1)) (b+1) l)).map (fun r=>(⟨(pF n (m+1):Int),(pT n (m+1):Int),(b:Int)+1⟩:Cart)::r)
theorem NK:CJ n m 0 left g l=if left=0 then some [] else none:=by cases m <;> rfl
theorem growD_few (hl:left<(h:Int)+1):CJ n (m+1) (h+1) left g l=none:=if_pos hl
theorem growD_eq (hl:¬ left<(h:Int)+1):CJ n (m+1) (h+1) left g l=(match (List.range (most n (m+1) g l)).findSome? (balF n m h left g l) with | some x=>some x | none=>CJ n m (h+1) left g l):=if_neg hl
def BalNo (n m h:Nat) (left:Int) (g l:List Int) (j:Nat):Prop:=∀ b,b+1<j→balF n m h left g l b=none
theorem BalNo.start:BalNo n m h left g l 1:=fun b hb=>by omega
abbrev KK (n m h:Nat) (left:Int) (g l:List Int) (j:Nat):Option (List Cart):=CJ n m h (left-(j:Int)) (less (pF n (m+1)) j g) (less (pT n (m+1)) j l)
theorem BalNo.next {j:Nat} (hn:BalNo n m h left g l j) (h1:1≤j) (hs:(KK n m h left g l j).isSome=false):BalNo n m h left g l (j+1):=fun b hb=>by
  by_cases e:b+1=j
  · subst e
    unfold balF;rw [Option.map_eq_none_iff];cases hx:KK n m h left g l (b+1) with
    | none=>exact hx
    | some x=>rw [hx] at hs;cases hs
  · exact hn b (by omega)
theorem grow_hit {j : Nat} (hl : ¬ left < (h : Int) + 1) (hn : BalNo n m h left g l j) (h1 : 1 ≤ j) (h2 : (j : Int) ≤ most n (m + 1) g l) (hs : (KK n m h left g l j).isSome = true) :
    CJ n (m+1) (h+1) left g l=some (⟨(pF n (m+1):Int),(pT n (m+1):Int),(j:Int)⟩::(KK n m h left g l j).getD []):=by
  obtain ⟨r,hr⟩:=Option.isSome_iff_exists.1 hs;obtain ⟨b,rfl⟩:∃ b,j=b+1:=⟨j-1,by omega⟩;rw [growD_eq hl,KU (k:=b) (r:=⟨(pF n (m+1):Int),(pT n (m+1):Int),((b+1:Nat):Int)⟩::r) (fun i hi=>hn i (by omega)) ?_ (by omega),hr]
  · rfl
  · unfold balF;rw [show CJ n m h (left-((b+1:Nat):Int)) (less (pF n (m+1)) (b+1) g) (less (pT n (m+1)) (b+1) l)=some r from hr];rfl
theorem grow_miss {j:Nat} (hl:¬ left<(h:Int)+1) (hn:BalNo n m h left g l j) (h2:¬ (j:Int)≤most n (m+1) g l):CJ n (m+1) (h+1) left g l=CJ n m (h+1) left g l:=by
  rw [growD_eq hl,HB (fun i hi=>hn i (by omega))]
theorem less_back {k b:Nat} {l:List Int}:(less k b l).set k ((less k b l).getD k 0+(b:Int))=l:=by
  unfold less
  by_cases hk:k<l.length
  · rw [List.set_set]
    have:(l.set k (l.getD k 0-(b:Int))).getD k 0+(b:Int)=l.getD k 0:=by simp [List.getD,hk]
    rw [this]
    apply List.ext_getElem?
    intro i;rw [List.getElem?_set]
    split
    · rename_i e;subst e;simp [List.getD,hk]
    · rfl
  · have e:l.set k (l.getD k 0-(b:Int))=l:=List.set_eq_of_length_le (by omega)
    rw [e];exact List.set_eq_of_length_le (by omega)
end
theorem grow_len {n:Nat}:∀ (m h:Nat) (left:Int) (g l:List Int) (z:List Cart),CJ n m h left g l=some z→z.length=h:=by
  intro m
  induction m with
  | zero=>
    intro h left g l z e;cases h with
    | zero=>rw [NK] at e;split at e <;> simp at e;subst e;rfl
    | succ h=>cases e
  | succ m ih=>
    intro h left g l z e;cases h with
    | zero=>rw [NK] at e;split at e <;> simp at e;subst e;rfl
    | succ h=>
      by_cases hl:left<(h:Int)+1
      · rw [growD_few hl] at e;cases e
      · rw [growD_eq hl] at e
        split at e
        · rename_i x hx
          obtain ⟨b,_,hb⟩:=List.exists_of_findSome?_eq_some hx;cases e;unfold balF at hb;obtain ⟨r,hr,rfl⟩:=Option.map_eq_some_iff.1 hb;simp [ih _ _ _ _ _ hr]
        · exact ih _ _ _ _ _ e
theorem grow_getD_len {n m h:Nat} {left:Int} {g l:List Int}:((CJ n m h left g l).getD []).length≤h:=by
  cases e:CJ n m h left g l with
  | none=>simp
  | some z=>simp [grow_len _ _ _ _ _ _ e]
structure GrowOk (n:Nat) (left:Int) (g l:List Int):Prop where
  n4:n≤4
  gl:g.length=n
  ll:l.length=n
  g0:∀ x∈g,0≤x∧x≤50
  l0:∀ x∈l,0≤x∧x≤50
  sum:left=l.sum
theorem sum_le {c:Int}:∀ {l:List Int},(∀ x∈l,x≤c)→l.sum≤l.length*c:=by
  intro l
  induction l with
  | nil=>intro _;simp
  | cons x r ih=>
    intro h;have h1:=h x (by simp);have h2:=ih (fun y hy=>h y (by simp [hy]));simp only [List.sum_cons,List.length_cons];rw [show ((r.length+1:Nat):Int)*c=r.length*c+c by rw [Int.natCast_add,Int.add_mul];omega];omega
theorem GrowOk.left {n:Nat} {left:Int} {g l:List Int} (o:GrowOk n left g l):0≤left∧left≤200:=by
  have h1:=LQ (fun x hx=>(o.l0 x hx).1);have h2:=sum_le (c:=50) (fun x hx=>(o.l0 x hx).2);have h3:=o.n4;have h4:=o.ll;have h5:=o.sum;omega
theorem GrowOk.at {n:Nat} {left:Int} {g l:List Int} (o:GrowOk n left g l) (k:Nat):0≤g.getD k 0∧g.getD k 0≤50∧0≤l.getD k 0∧l.getD k 0≤50:=by
  have hz:∀ {q:List Int},(∀ x∈q,0≤x∧x≤50)→0≤q.getD k 0∧q.getD k 0≤50:=fun {q} h=>by
    by_cases hk:k<q.length
    · exact h _ (BJ hk)
    · simp [List.getD,List.getElem?_eq_none (Nat.le_of_not_lt hk)]
  exact ⟨(hz o.g0).1,(hz o.g0).2,(hz o.l0).1,(hz o.l0).2⟩
theorem GrowOk.less {n m j:Nat} {left:Int} {g l:List Int} (o:GrowOk n left g l) (h1:1≤j) (h2:(j:Int)≤most n (m+1) g l):GrowOk n (left-(j:Int)) (less (pF n (m+1)) j g) (less (pT n (m+1)) j l):=by
  obtain ⟨b,rfl⟩:∃ b,j=b+1:=⟨j-1,by omega⟩;obtain ⟨h3,h4⟩:=most_lt (n:=n) (m:=m+1) (g:=g) (l:=l) (b:=b) (by omega);have e1:∀ {k:Nat} {q:List Int},(∀ x∈q,0≤x∧x≤50)→((b:Int)+1≤q.getD k 0)→∀ x∈Sh.less k (b+1) q,0≤x∧x≤50:=fun {k q} h hb x hx=>by
    rcases List.mem_or_eq_of_mem_set hx with h5 | rfl
    · exact h x h5
    · have hk : k < q.length := by
        rcases Nat.lt_or_ge k q.length with h | h
        · exact h
        · simp [List.getD,List.getElem?_eq_none h] at hb;omega
      have:=h _ (BJ (d:=0) hk);omega
  exact ⟨o.n4,by rw [FI];exact o.gl,by rw [FI];exact o.ll,e1 o.g0 h3,e1 o.l0 h4,by rw [PJ h4,o.sum]⟩
theorem most_int {n m:Nat} {left:Int} {g l:List Int} (o:GrowOk n left g l):(if l.getD (pT n m) 0<g.getD (pF n m) 0 then l.getD (pT n m) 0 else g.getD (pF n m) 0)=((most n m g l:Nat):Int):=by
  have h1:=(o.at (pF n m)).1;have h2:=(o.at (pT n m)).2.2.1;unfold most;omega
def EY (F:Nat→Int) (n k:Nat):List Int:=(List.range n).map fun i=>if i<k then F i else 0
section
variable {F:Nat→Int} {n k:Nat}
theorem HX:(EY F n k).length=n:=by simp [EY]
theorem fill_zero:List.replicate n (0:Int)=EY F n 0:=by
  apply List.ext_getElem?;intro i;unfold EY
  by_cases h:i<n
  · simp [h]
  · simp [h]
theorem fill_set (hk:k<n):(EY F n k).set k (F k)=EY F n (k+1):=by
  apply List.ext_getElem?;intro i
  rw [List.getElem?_set]
  by_cases e:k=i
  · subst e;simp [EY,hk]
  · rw [if_neg e];unfold EY
    by_cases h:i<n
    · simp only [List.getElem?_map,List.getElem?_range h,Option.map_some]
      by_cases h2:i<k
      · rw [if_pos h2,if_pos (by omega)]
      · rw [if_neg h2,if_neg (by omega)]
    · simp [h]
theorem fill_skip (h0:F k=0):EY F n k=EY F n (k+1):=by
  unfold EY;refine List.map_congr_left fun i _=>?_
  by_cases h2:i<k
  · rw [if_pos h2,if_pos (by omega)]
  · rw [if_neg h2]
    by_cases h3:i=k
    · subst h3;rw [if_pos (by omega),h0]
    · rw [if_neg (by omega)]
theorem fill_at (hk:k<n):(EY F n (k+1)).getD k 0=F k:=by simp [EY,List.getD,hk]
theorem fill_done:EY F n n=(List.range n).map F:=by
  unfold EY;refine List.map_congr_left fun i hi=>?_
  rw [if_pos (List.mem_range.1 hi)]
def HL (F:Nat→Int):Nat→Int
  | 0=>0
  | k+1=>HL F k+F k
theorem sumTo_eq:∀ n,HL F n=((List.range n).map F).sum:=by
  intro n
  induction n with
  | zero=>rfl
  | succ n ih=>rw [HL,ih,List.range_succ,List.map_append,List.sum_append];simp
theorem sumTo_le {c:Int} (h:∀ i,0≤F i∧F i≤c):∀ k,0≤HL F k∧HL F k≤k*c:=by
  intro k
  induction k with
  | zero=>simp [HL]
  | succ k ih=>
    have:=h k;rw [HL,show ((k+1:Nat):Int)*c=k*c+c by rw [Int.natCast_add,Int.add_mul];omega];omega
end
section
variable {h nd:List Int} {b:Int} {k:Nat}
theorem div_give (hk:k<h.length) (e:nd.getD k 0≤h.getD k 0):(EY (CO h nd b) h.length k).set k ((h.getD k 0-nd.getD k 0)/b)=EY (CO h nd b) h.length (k+1)∧EY (ER h nd b) h.length k=EY (ER h nd b) h.length (k+1):=by
  refine ⟨?_,fill_skip (if_pos e)⟩;rw [← fill_set hk,CO,if_pos e]
theorem div_get (hk:k<h.length) (e:¬ nd.getD k 0≤h.getD k 0):(EY (ER h nd b) h.length k).set k ((nd.getD k 0-h.getD k 0+b-1)/b)=EY (ER h nd b) h.length (k+1)∧EY (CO h nd b) h.length k=EY (CO h nd b) h.length (k+1):=by
  refine ⟨?_,fill_skip (if_neg e)⟩;rw [← fill_set hk,ER,if_neg e]
theorem Pool.bound (hp:Pool h nd b) (i:Nat):(0≤CO h nd b i∧CO h nd b i≤50)∧(0≤ER h nd b i∧ER h nd b i≤50):=by
  by_cases hi:i<h.length
  · have h1:=EI (hp.each i hi).1;have h2:=EI (hp.each i hi).2
    exact ⟨⟨PE hp.bale.1 i,giveOf_le hp.bale.1 (by decide) h1.2 h2.1⟩,⟨SC hp.bale.1 i,getOf_le hp.bale.1 (by decide) h2.2 h1.1⟩⟩
  · have e1:h.getD i 0=0:=by simp [List.getD,List.getElem?_eq_none (Nat.le_of_not_lt hi)]
    have e2:nd.getD i 0=0:=by have:=hp.same;simp [List.getD,List.getElem?_eq_none (show nd.length≤i by omega)]
    simp only [CO,ER,e1,e2];simp
theorem Pool.at (hp:Pool h nd b) {i:Nat} (hi:i<h.length):0≤h.getD i 0∧h.getD i 0≤50∧0≤nd.getD i 0∧nd.getD i 0≤50:=by
  have h1:=EI (hp.each i hi).1;have h2:=EI (hp.each i hi).2;exact ⟨h1.1,h1.2,h2.1,h2.2⟩
theorem Pool.grow (hp:Pool h nd b):GrowOk h.length (GF h nd b).sum (FZ h nd b) (GF h nd b):=by
  refine ⟨hp.few,PF,SF,fun x hx=>?_,fun x hx=>?_,rfl⟩
  · obtain ⟨i,_,rfl⟩:=List.mem_map.1 hx;exact (hp.bound i).1
  · obtain ⟨i,_,rfl⟩:=List.mem_map.1 hx;exact (hp.bound i).2
theorem gives_sum:HL (CO h nd b) h.length=(FZ h nd b).sum:=sumTo_eq _
theorem gets_sum:HL (ER h nd b) h.length=(GF h nd b).sum:=sumTo_eq _
end
section
variable {n k:Nat} {g l:List Int}
theorem first_some (hn:0<n) (hg:g.length=n) (hl:l.length=n) (g0:∀ x∈g,0≤x) (l0:∀ x∈l,0≤x) (hs:¬ g.sum<l.sum):firstD n g l≠none:=by
  rw [firstD_best l0];cases hL:DN n (n*n) g l with
  | nil=>exact absurd ((lists_none hn hg hl g0 l0).1 hL) hs
  | cons x r=>simp
theorem first_more (hex:firstD n g l≠none) (hno:∀ j,j<k→CJ n (n*n) j l.sum g l=none) (hs:(CJ n (n*n) k l.sum g l).isSome=false):k+1≤n*n:=by
  refine Nat.le_of_not_lt fun hk=>hex (HB fun j hj=>?_)
  by_cases e:j<k
  · exact hno j e
  · obtain rfl:j=k:=by omega
    cases hx:CJ n (n*n) j l.sum g l with
    | none=>rfl
    | some x=>rw [hx] at hs;cases hs
theorem divD_hit (hno:∀ j,j<k→CJ n (n*n) j l.sum g l=none) (hk:k≤n*n) (hs:(CJ n (n*n) k l.sum g l).isSome=true):firstD n g l=CJ n (n*n) k l.sum g l:=by
  obtain ⟨r,hr⟩:=Option.isSome_iff_exists.1 hs;rw [hr];exact KU hno hr (by omega)
theorem none_next (hno:∀ j,j<k→CJ n (n*n) j l.sum g l=none) (hs:(CJ n (n*n) k l.sum g l).isSome=false):∀ j,j<k+1→CJ n (n*n) j l.sum g l=none:=
  OT hno (by cases hx:CJ n (n*n) k l.sum g l with | none=>rfl | some x=>rw [hx] at hs;cases hs)
end
theorem divE_bad {h nd:List Int} {b:Int} (e:DU h nd b≠0):NV h nd b=([],DU h nd b):=if_pos e
theorem divE_none {h nd:List Int} {b:Int} (e:DU h nd b=0) (hs:(FZ h nd b).sum<(GF h nd b).sum):NV h nd b=([],11):=by unfold NV;rw [if_neg (by omega),if_pos hs]
theorem divE_ok {h nd:List Int} {b:Int} (e:DU h nd b=0) (hs:¬ (FZ h nd b).sum<(GF h nd b).sum):NV h nd b=((firstD h.length (FZ h nd b) (GF h nd b)).getD [],0):=by unfold NV;rw [if_neg (by omega),if_neg hs]
def CartsV (I:Imm) (vs:List Value) (xss:List (List Cart)):Prop:=vs.length=xss.length∧∀ i,i<xss.length→IsCarts I (vs.getD i undef) (xss.getD i [])
theorem CartsV.nil (I:Imm):CartsV I [] []:=⟨rfl,fun i hi=>by simp at hi⟩
theorem CartsV.append {I:Imm} {vs ws:List Value} {xss yss:List (List Cart)} (h:CartsV I vs xss) (k:CartsV I ws yss):CartsV I (vs++ws) (xss++yss):=by
  have h1:=h.1;refine ⟨by simp [h.1,k.1],fun i hi=>?_⟩;simp only [List.length_append] at hi
  by_cases e:i<xss.length
  · have:=h.2 i e
    simp only [List.getD] at this ⊢;rw [List.getElem?_append_left (by omega),List.getElem?_append_left e];exact this
  · have:=k.2 (i-xss.length) (by omega)
    simp only [List.getD] at this ⊢;rw [List.getElem?_append_right (by omega),List.getElem?_append_right (by omega),h1];exact this
section
variable {n q fr to c:Nat} {g l:List Int}
end
section
variable {h nd:List Int} {b:Int} {k:Nat}
end
def bookL:Lin:=⟨2,1,[[10],[0]],[⟨1,2,5⟩],[⟨1,1,1,0,1,0,false,6⟩,⟨2,3,2,1,0,0,false,4⟩,⟨3,5,4,1,0,0,false,1⟩,⟨4,5,4,1,0,0,true,4⟩,⟨6,6,1,1,0,0,true,4⟩]⟩
def turnedL:Lin:=⟨2,1,[[10],[0]],[⟨1,2,5⟩],[⟨6,6,1,1,0,0,true,4⟩,⟨4,5,4,1,0,0,true,4⟩,⟨3,5,4,1,0,0,false,1⟩,⟨2,3,2,1,0,0,false,4⟩,⟨1,1,1,0,1,0,false,6⟩]⟩
theorem ex_stock:GJ turnedL 9=([[4,4],[1,0]],0):=by decide +kernel
theorem ex_gaps:PD bookL=([⟨3,-1⟩],0):=by decide +kernel
theorem ex_hold:BZ bookL 3=([5],0):=by decide +kernel
theorem ex_wrong:FV bookL=([3],0):=by decide +kernel
theorem ex_div:NV [7,0,3] [2,4,3] 2=([⟨0,1,2⟩],0):=by decide +kernel
theorem turn_step {l:List Slip} {k:Nat} (hk:k<l.length):(l.reverse.take k++l.drop k).set k (l.getD (l.length-1-k) AB)=l.reverse.take (k+1)++l.drop (k+1):=by
  rw [List.set_append_right _ _ (by rw [List.length_take,List.length_reverse];omega)];rw [List.length_take,List.length_reverse,Nat.min_eq_left (by omega),Nat.sub_self];rw [List.drop_eq_getElem_cons hk,List.set_cons_zero,BO (d:=AB) (by rw [List.length_reverse];exact hk)];have e:l.reverse.getD k AB=l.getD (l.length-1-k) AB:=by
    simp only [List.getD];rw [List.getElem?_reverse hk]
  rw [e];simp
end Go.Sh
namespace Go.Sl
open Go
section
variable {P:Program} [Jud P] {N:Nat} {ops:Array Oper} {L0:Sl} {i d:Nat} {ty:TypeId}
theorem alOk_mk {x : Operand} {T E bs n : Nat} {z zv : Value} (h1 : DW ops i = some d) (h0 : look d L0 = none) (h2 : supB ops i L0 = true) (hop : EL ops N i = some (some d, .makeSlice T x x, ty, none))
    (hT:HU P T=some E) (hsz:DR P E=some 1) (hz:HK P E=some z) (hzc:z.cells=#[zv]) (hb:JD P E=some bs) (hbs:1≤bs∧bs≤256)
    (hx:BK L0 x=some (.int .i64 (n:Int))) (hn:n≤1000000):AlOk P N ops L0 i d (.bs E n (List.replicate n zv).toArray):=
  ⟨h1,h0,supB_spec h2,fun I M=>QG hop rfl hT hsz hz hzc hb hbs hx hn (fun b=>⟨b,rfl,rfl,rfl⟩)⟩
theorem alOk_clL {T:TypeId} {cs:Array Value} (h1:DW ops i=some d) (h0:look d L0=none) (h2:noLooks ops i=true) (h3:alAt P N ops L0 i=some (d,T,cs)):AlOk P N ops L0 i d (.cl T cs):=
  ⟨h1,h0,(fun t ht=>by rw [SL h2] at ht;cases ht),fun I M=>sal d T cs (fun b=>⟨b,rfl,rfl,rfl⟩) h3⟩
end
theorem Own.madeI {E:TypeId} {b n:Nat}:Own E 1 AK (.slice (some ⟨b,0,none⟩) n n) (List.replicate n (0:Int)) [(b,Obj.cells (List.replicate n (Value.int .i64 0)).toArray E (0,0))]:=
  .inr ⟨b,n,[],by rw [List.length_replicate],by simp,by rw [List.append_nil];simp [BX,AK,List.flatMap_replicate],by rw [List.append_nil,BG,List.length_replicate]⟩
end Go.Sl
namespace Go.Proofs.YtgcemienebmdeaaGreatDoor
open Go Go.Sl Go.Sh
set_option maxRecDepth 100000
abbrev slp232100f4:Slip:=⟨2,3,2,1,0,0,false,4⟩
abbrev slp354100f1:Slip:=⟨3,5,4,1,0,0,false,1⟩
abbrev slp454100t4:Slip:=⟨4,5,4,1,0,0,true,4⟩
abbrev slp661100t4:Slip:=⟨6,6,1,1,0,0,true,4⟩
noncomputable def c_EqualCarts_ct:=cod Tryz.f27
theorem OQ (I:Imm) (a:Value) (xs:List Cart) (b:Value) (ys:List Cart) (a_f:IsCarts I a xs) (b_f:IsCarts I b ys):CtV Tryz.prog 27 #[a,b] I (.bool (decide (xs=ys))):=by
 obtain ⟨a0,a1,b1,b4,rfl,b2,b3,a7⟩:=id a_f;obtain ⟨a2,a3,b5,b8,rfl,b6,b7,a8⟩:=id b_f;refine fr (args:=[_,_]) (N:=26) Tryz.func27 (fun F=>?_);show Run _ _ (c_EqualCarts_ct []) _ _ [(0,_),(1,_)] _ _;refine rnm (rqr ?_);refine sp 1 [(4,.bool false)] (se (rq (rqr (sp 5 [(10,.bool (!(cmp .eql (↑(xs.length)) (↑(ys.length)))))] (se (rc 10 rfl (fun h1=>?_) (fun h1=>?_)))))))
 ·
  have a4:=h1;have h1:=BV (BM h1);refine rqr (sp 1 [(4,.bool false)] (se (BB (RP (rt1 4 rfl (IR _) ?_)))));exact ⟨by rw [decide_eq_false (fun e=>h1 (by rw [e]))],rfl⟩
 have a4:=h1;have h1:=BQ (BE h1);refine AM (NX (rq (rqr (sp 1 [(5,vI 0)] (se (rb 0 ?_))))));refine rl (fun mz a w=>∃ k:Nat,(k≤xs.length)∧(xs.length=ys.length)∧(xs.take k=ys.take k)∧SD 26 [(5,vI ↑k),(0,vS a0 xs.length a1),(1,vS a2 ys.length a3)] I F a w (mz=xs.length-k)) ?_ ?_
 ·intro a w hS hD hW;exact ⟨_,0,Nat.zero_le _,by omega,rfl,hS.sub su,hD,hW,rfl⟩
 rintro mz a w ⟨k,hk,hl,ht,hS,hD,hW,rfl⟩
 refine AW hS hD hW ?_;clear hS hD hW a w;refine rq (rqr (sp 4 [(14,.bool (cmp .lss ↑k (↑(xs.length))))] (se (rc 14 rfl (fun h2=>?_) (fun h2=>?_)))))
 ·
  have a5:=h2;have h2:=CQ h2;refine AM (NX (rq (rb 1 (rq ?_))));refine rd0 8 (ox 2 [(18,vI ↑k),(17,vS a0 xs.length a1)] ?_);refine AE (di 19 3 k a7.addr) ?_;refine AE (dln 20 19 62 [vI ((xs.getD k KO).frm),vI ((xs.getD k KO).to),vI ((xs.getD k KO).bales)] rfl (BI (vals:=TH) (fun _=>rfl) a7 k (by omega))) (ox 2 [(22,vI ↑k),(21,vS a2 ys.length a3)] ?_);refine AE (di 23 3 k a8.addr) ?_;refine AE (dln 24 23 62 [vI ((ys.getD k KO).frm),vI ((ys.getD k KO).to),vI ((ys.getD k KO).bales)] rfl (BI (vals:=TH) (fun _=>rfl) a8 k (by omega))) ?_;refine BT (sd (HV (L:=[(0,.i .i64),(1,.i .i64),(2,.i .i64)]) (x:=(.tmp 20)) (y:=(.tmp 24)) (T:=62) (T':=62) (d:=25) (ty:=4) (gd:=none) (by kernel_rfl) rfl (by kernel_rfl) rfl rfl rfl (eqCart (xs.getD k KO) (ys.getD k KO))) (se (rc 25 rfl (fun h3=>?_) (fun h3=>?_))))
  ·
   have a6:=h3;have h3:=QQ (BM h3);refine rqr (sp 1 [(4,.bool false)] (se (BB (RB (RP (RP (RB (RP (rt1 4 rfl (IR _) ?_)))))))));exact ⟨by rw [decide_eq_false (LZ hl h3)],rfl⟩
  have a6:=h3;have h3:=NR (BE h3);refine AM (NB (NX (rr (sp 1 [(15,vI ↑k)] (sd (da 16 ↑k 1) (sp 1 [(5,vI (↑k+1))] (ee ?_)))))));refine AN (xs.length-(k+1)) (by omega) ?_;intro a w hS hD hW;exact ⟨k+1,by omega,hl,GX (d:=KO) hl ht (by omega) h3,hS.sub su,hD,hW,rfl⟩
 have a5:=h2;have h2:=CU h2;refine CH 0 (EP (EP (EB (NX (rqr (sp 1 [(4,.bool true)] (se (BB (rt1 4 rfl (IR _) ?_)))))))));exact ⟨by rw [decide_eq_true (JO hl ht (by omega))],rfl⟩
noncomputable def c_EqualGaps_ct:=cod Tryz.f37
theorem EqualGaps_ct (I:Imm) (a:Value) (xs:List Gap) (b:Value) (ys:List Gap) (a_f:IsGaps I a xs) (b_f:IsGaps I b ys):CtV Tryz.prog 37 #[a,b] I (.bool (decide (xs=ys))):=by
 obtain ⟨a0,a1,b1,b4,rfl,b2,b3,a7⟩:=id a_f;obtain ⟨a2,a3,b5,b8,rfl,b6,b7,a8⟩:=id b_f;refine fr (args:=[_,_]) (N:=26) Tryz.func37 (fun F=>?_);show Run _ _ (c_EqualGaps_ct []) _ _ [(0,_),(1,_)] _ _;refine rnm (rqr ?_);refine sp 1 [(4,.bool false)] (se (rq (rqr (sp 5 [(10,.bool (!(cmp .eql (↑(xs.length)) (↑(ys.length)))))] (se (rc 10 rfl (fun h1=>?_) (fun h1=>?_)))))))
 ·
  have a4:=h1;have h1:=BV (BM h1);refine rqr (sp 1 [(4,.bool false)] (se (BB (RP (rt1 4 rfl (IR _) ?_)))));exact ⟨by rw [decide_eq_false (fun e=>h1 (by rw [e]))],rfl⟩
 have a4:=h1;have h1:=BQ (BE h1);refine AM (NX (rq (rqr (sp 1 [(5,vI 0)] (se (rb 0 ?_))))));refine rl (fun mz a w=>∃ k:Nat,(k≤xs.length)∧(xs.length=ys.length)∧(xs.take k=ys.take k)∧SD 26 [(5,vI ↑k),(0,vS a0 xs.length a1),(1,vS a2 ys.length a3)] I F a w (mz=xs.length-k)) ?_ ?_
 ·intro a w hS hD hW;exact ⟨_,0,Nat.zero_le _,by omega,rfl,hS.sub su,hD,hW,rfl⟩
 rintro mz a w ⟨k,hk,hl,ht,hS,hD,hW,rfl⟩
 refine AW hS hD hW ?_;clear hS hD hW a w;refine rq (rqr (sp 4 [(14,.bool (cmp .lss ↑k (↑(xs.length))))] (se (rc 14 rfl (fun h2=>?_) (fun h2=>?_)))))
 ·
  have a5:=h2;have h2:=CQ h2;refine AM (NX (rq (rb 1 (rq ?_))));refine rd0 8 (ox 2 [(18,vI ↑k),(17,vS a0 xs.length a1)] ?_);refine AE (di 19 2 k a7.addr) ?_;refine AE (dln 20 19 82 [vI ((xs.getD k noGap).num),vI ((xs.getD k noGap).amt)] rfl (BI (vals:=gapVals) (fun _=>rfl) a7 k (by omega))) (ox 2 [(22,vI ↑k),(21,vS a2 ys.length a3)] ?_);refine AE (di 23 2 k a8.addr) ?_;refine AE (dln 24 23 82 [vI ((ys.getD k noGap).num),vI ((ys.getD k noGap).amt)] rfl (BI (vals:=gapVals) (fun _=>rfl) a8 k (by omega))) ?_;refine BT (sd (HV (L:=[(0,.i .i64),(1,.i .i64)]) (x:=(.tmp 20)) (y:=(.tmp 24)) (T:=82) (T':=82) (d:=25) (ty:=4) (gd:=none) (by kernel_rfl) rfl (by kernel_rfl) rfl rfl rfl (eqGap (xs.getD k noGap) (ys.getD k noGap))) (se (rc 25 rfl (fun h3=>?_) (fun h3=>?_))))
  ·
   have a6:=h3;have h3:=QQ (BM h3);refine rqr (sp 1 [(4,.bool false)] (se (BB (RB (RP (RP (RB (RP (rt1 4 rfl (IR _) ?_)))))))));exact ⟨by rw [decide_eq_false (LZ hl h3)],rfl⟩
  have a6:=h3;have h3:=NR (BE h3);refine AM (NB (NX (rr (sp 1 [(15,vI ↑k)] (sd (da 16 ↑k 1) (sp 1 [(5,vI (↑k+1))] (ee ?_)))))));refine AN (xs.length-(k+1)) (by omega) ?_;intro a w hS hD hW;exact ⟨k+1,by omega,hl,GX (d:=noGap) hl ht (by omega) h3,hS.sub su,hD,hW,rfl⟩
 have a5:=h2;have h2:=CU h2;refine CH 0 (EP (EP (EB (NX (rqr (sp 1 [(4,.bool true)] (se (BB (rt1 4 rfl (IR _) ?_)))))))));exact ⟨by rw [decide_eq_true (JO hl ht (by omega))],rfl⟩
noncomputable def c_exslip:=cod Tryz.f35
theorem OZ (I:Imm) (n1:Int) (n2:Int) (n3:Int) (n4:Int) (n5:Bool):Ct Tryz.prog 35 #[vI n1,vI n2,vI n3,vI n4,.bool n5] I ([]) (fun v I' M'=>v=.agg #[vI (⟨n1,n2,n3,1,0,0,n5,n4⟩:Slip).num,vI (⟨n1,n2,n3,1,0,0,n5,n4⟩:Slip).hour,vI (⟨n1,n2,n3,1,0,0,n5,n4⟩:Slip).kind,vI (⟨n1,n2,n3,1,0,0,n5,n4⟩:Slip).place,vI (⟨n1,n2,n3,1,0,0,n5,n4⟩:Slip).to,vI (⟨n1,n2,n3,1,0,0,n5,n4⟩:Slip).sort,.bool (⟨n1,n2,n3,1,0,0,n5,n4⟩:Slip).soil,vI (⟨n1,n2,n3,1,0,0,n5,n4⟩:Slip).amt]∧M'=[]):=by
 refine fr (args:=[_,_,_,_,_]) (N:=17) Tryz.func35 (fun F=>?_);show Run _ _ (c_exslip []) _ _ [(0,_),(1,_),(2,_),(3,_),(4,_)] _ _;refine rnm (rqr ?_);refine sS (sal 10 29 zSlpA (fun b1=>(sn (sp 6 [(16,.agg #[vI n1,vI n2,vI n3,vI 1,vI 0,vI 0,.bool n5,vI n4])] (sS (ss 0 0 b1 [vI n1,vI n2,vI n3,vI 1,vI 0,vI 0,.bool n5,vI n4] [vI n1,vI n2,vI n3,vI 1,vI 0,vI 0,.bool n5,vI n4] (_::_) (cs:=[_,_,_,_,_,_,_,_]) rfl rfl (se (BB (IV (t:=10) (T:=29) (n:=8) [] (by kernel_rfl) rfl (by kernel_rfl) rfl (snm [vI n1,vI n2,vI n3,vI 1,vI 0,vI 0,.bool n5,vI n4] b1 29) (.inl ⟨by kernel_rfl,rfl⟩) (TC _ (TR _)) (IR _) ?_)))))))));exact ⟨rfl,rfl⟩
noncomputable def c_exbook:=cod Tryz.f6
theorem EX (I:Imm):Ct Tryz.prog 6 #[] I ([]) (fun v I' M'=>∃ u1:Value,∃ u2:Value,∃ u3:Value,∃ Ms:Seg,v=.agg #[vI (bookL).places,vI (bookL).sorts,u1,u2,u3]∧M'=Ms∧IsRows I' u1 (bookL).start∧GK I' u2 (bookL).keeps∧Own 29 8 AV u3 (bookL).slips Ms):=by
 refine fr (args:=[]) (N:=13) Tryz.func6 (fun F=>?_);show Run _ _ (c_exbook []) _ _ [] _ _;refine rnm (rqr ?_);refine sS (sal 0 26 AZ (fun b1=>(sn (sS (sbs 1 3 1 #[vI 10] (fun b3=>(sS (sbs 2 3 1 #[vI 0] (fun b5=>(sS (sbs 3 33 2 #[vS (some ⟨b3,0,none⟩) 1 1,vS (some ⟨b5,0,none⟩) 1 1] (fun b7=>(sp 1 [(4,.agg #[vI 1,vI 2,vI 5])] (sS (sbs 5 75 1 #[vI 1,vI 2,vI 5] (fun b9=>(sp 1 [(6,.agg #[vI 1,vI 1,vI 1,vI 0,vI 1,vI 0,.bool false,vI 6])] (sS (sc (some 7) (OZ _ 2 3 2 4 false :) (.refl _) (fun i7 j1 i3 c1 h7=>?_))))))))))))))))))));obtain ⟨d0,c6⟩:=h7;rw [d0,c6];clear d0 c6;refine nm ?_;refine sS (sc (some 8) (OZ _ 3 5 4 1 false :) (.refl _) (fun i8 j2 i4 c2 h8=>?_));obtain ⟨d1,c7⟩:=h8;rw [d1,c7];clear d1 c7;refine nm ?_;refine sS (sc (some 9) (OZ _ 4 5 4 4 true :) (.refl _) (fun i9 j3 i5 c3 h9=>?_));obtain ⟨d2,c8⟩:=h9;rw [d2,c8];clear d2 c8;refine nm ?_;refine sS (sc (some 10) (OZ _ 6 6 1 4 true :) (.refl _) (fun j0 j4 i6 c4 i0=>?_));obtain ⟨d3,c9⟩:=i0;rw [d3,c9];clear d3 c9;refine nm ?_;refine sS (sbs 11 29 5 #[vI 1,vI 1,vI 1,vI 0,vI 1,vI 0,.bool false,vI 6,vI slp232100f4.num,vI slp232100f4.hour,vI slp232100f4.kind,vI slp232100f4.place,vI slp232100f4.to,vI slp232100f4.sort,.bool slp232100f4.soil,vI slp232100f4.amt,vI slp354100f1.num,vI slp354100f1.hour,vI slp354100f1.kind,vI slp354100f1.place,vI slp354100f1.to,vI slp354100f1.sort,.bool slp354100f1.soil,vI slp354100f1.amt,vI slp454100t4.num,vI slp454100t4.hour,vI slp454100t4.kind,vI slp454100t4.place,vI slp454100t4.to,vI slp454100t4.sort,.bool slp454100t4.soil,vI slp454100t4.amt,vI slp661100t4.num,vI slp661100t4.hour,vI slp661100t4.kind,vI slp661100t4.place,vI slp661100t4.to,vI slp661100t4.sort,.bool slp661100t4.soil,vI slp661100t4.amt] (fun a0=>(sp 1 [(12,.agg #[vI 2,vI 1,vS (some ⟨b7,0,none⟩) 2 2,vS (some ⟨b9,0,none⟩) 1 1,vS (some ⟨a0,0,none⟩) 5 5])] (pm (M':=((bX a0 #[vI 1,vI 1,vI 1,vI 0,vI 1,vI 0,.bool false,vI 6,vI slp232100f4.num,vI slp232100f4.hour,vI slp232100f4.kind,vI slp232100f4.place,vI slp232100f4.to,vI slp232100f4.sort,.bool slp232100f4.soil,vI slp232100f4.amt,vI slp354100f1.num,vI slp354100f1.hour,vI slp354100f1.kind,vI slp354100f1.place,vI slp354100f1.to,vI slp354100f1.sort,.bool slp354100f1.soil,vI slp354100f1.amt,vI slp454100t4.num,vI slp454100t4.hour,vI slp454100t4.kind,vI slp454100t4.place,vI slp454100t4.to,vI slp454100t4.sort,.bool slp454100t4.soil,vI slp454100t4.amt,vI slp661100t4.num,vI slp661100t4.hour,vI slp661100t4.kind,vI slp661100t4.place,vI slp661100t4.to,vI slp661100t4.sort,.bool slp661100t4.soil,vI slp661100t4.amt] 29)::(bX b9 #[vI 1,vI 2,vI 5] 75)::(bX b7 #[vS (some ⟨b3,0,none⟩) 1 1,vS (some ⟨b5,0,none⟩) 1 1] 33)::(bX b5 #[vI 0] 3)::(bX b1 AZ 26)::([(bX b3 #[vI 10] 3)]++F))) (PC _ (PC _ (PC _ (PC _ (PS _ _ _))))) ?_))));have h2:Own 3 1 AK (vS (some ⟨b3,0,none⟩) 1 1) ([(10:Int)]:List Int) [(bX b3 #[vI 10] 3)]:=Own.lit rfl rfl;refine sfz (A:=((bX a0 #[vI 1,vI 1,vI 1,vI 0,vI 1,vI 0,.bool false,vI 6,vI slp232100f4.num,vI slp232100f4.hour,vI slp232100f4.kind,vI slp232100f4.place,vI slp232100f4.to,vI slp232100f4.sort,.bool slp232100f4.soil,vI slp232100f4.amt,vI slp354100f1.num,vI slp354100f1.hour,vI slp354100f1.kind,vI slp354100f1.place,vI slp354100f1.to,vI slp354100f1.sort,.bool slp354100f1.soil,vI slp354100f1.amt,vI slp454100t4.num,vI slp454100t4.hour,vI slp454100t4.kind,vI slp454100t4.place,vI slp454100t4.to,vI slp454100t4.sort,.bool slp454100t4.soil,vI slp454100t4.amt,vI slp661100t4.num,vI slp661100t4.hour,vI slp661100t4.kind,vI slp661100t4.place,vI slp661100t4.to,vI slp661100t4.sort,.bool slp661100t4.soil,vI slp661100t4.amt] 29)::(bX b9 #[vI 1,vI 2,vI 5] 75)::(bX b7 #[vS (some ⟨b3,0,none⟩) 1 1,vS (some ⟨b5,0,none⟩) 1 1] 33)::(bX b5 #[vI 0] 3)::(bX b1 AZ 26)::F)) 0 h2 (PU (PU (PU (PU PM.symm)))) (fun j5 c5 a2=>?_);obtain ⟨e3,e5,e4,e8,b2,e6,e7,e9⟩:=id a2;cases b2;refine pm (M':=((bX a0 #[vI 1,vI 1,vI 1,vI 0,vI 1,vI 0,.bool false,vI 6,vI slp232100f4.num,vI slp232100f4.hour,vI slp232100f4.kind,vI slp232100f4.place,vI slp232100f4.to,vI slp232100f4.sort,.bool slp232100f4.soil,vI slp232100f4.amt,vI slp354100f1.num,vI slp354100f1.hour,vI slp354100f1.kind,vI slp354100f1.place,vI slp354100f1.to,vI slp354100f1.sort,.bool slp354100f1.soil,vI slp354100f1.amt,vI slp454100t4.num,vI slp454100t4.hour,vI slp454100t4.kind,vI slp454100t4.place,vI slp454100t4.to,vI slp454100t4.sort,.bool slp454100t4.soil,vI slp454100t4.amt,vI slp661100t4.num,vI slp661100t4.hour,vI slp661100t4.kind,vI slp661100t4.place,vI slp661100t4.to,vI slp661100t4.sort,.bool slp661100t4.soil,vI slp661100t4.amt] 29)::(bX b9 #[vI 1,vI 2,vI 5] 75)::(bX b7 #[vS (some ⟨b3,0,none⟩) 1 1,vS (some ⟨b5,0,none⟩) 1 1] 33)::(bX b1 AZ 26)::([(bX b5 #[vI 0] 3)]++F))) (PC _ (PC _ (PC _ (PS _ _ _)))) ?_;have h3:Own 3 1 AK (vS (some ⟨b5,0,none⟩) 1 1) ([(0:Int)]:List Int) [(bX b5 #[vI 0] 3)]:=Own.lit rfl rfl;refine sfz (A:=((bX a0 #[vI 1,vI 1,vI 1,vI 0,vI 1,vI 0,.bool false,vI 6,vI slp232100f4.num,vI slp232100f4.hour,vI slp232100f4.kind,vI slp232100f4.place,vI slp232100f4.to,vI slp232100f4.sort,.bool slp232100f4.soil,vI slp232100f4.amt,vI slp354100f1.num,vI slp354100f1.hour,vI slp354100f1.kind,vI slp354100f1.place,vI slp354100f1.to,vI slp354100f1.sort,.bool slp354100f1.soil,vI slp354100f1.amt,vI slp454100t4.num,vI slp454100t4.hour,vI slp454100t4.kind,vI slp454100t4.place,vI slp454100t4.to,vI slp454100t4.sort,.bool slp454100t4.soil,vI slp454100t4.amt,vI slp661100t4.num,vI slp661100t4.hour,vI slp661100t4.kind,vI slp661100t4.place,vI slp661100t4.to,vI slp661100t4.sort,.bool slp661100t4.soil,vI slp661100t4.amt] 29)::(bX b9 #[vI 1,vI 2,vI 5] 75)::(bX b7 #[vS (some ⟨b3,0,none⟩) 1 1,vS (some ⟨b5,0,none⟩) 1 1] 33)::(bX b1 AZ 26)::F)) 0 h3 (PU (PU (PU PM.symm))) (fun i1 a7 a4=>?_);replace a2:=a2.mono a7;obtain ⟨f0,f2,f1,f5,b4,f3,f4,f7⟩:=id a4;cases b4;refine pm (M':=((bX a0 #[vI 1,vI 1,vI 1,vI 0,vI 1,vI 0,.bool false,vI 6,vI slp232100f4.num,vI slp232100f4.hour,vI slp232100f4.kind,vI slp232100f4.place,vI slp232100f4.to,vI slp232100f4.sort,.bool slp232100f4.soil,vI slp232100f4.amt,vI slp354100f1.num,vI slp354100f1.hour,vI slp354100f1.kind,vI slp354100f1.place,vI slp354100f1.to,vI slp354100f1.sort,.bool slp354100f1.soil,vI slp354100f1.amt,vI slp454100t4.num,vI slp454100t4.hour,vI slp454100t4.kind,vI slp454100t4.place,vI slp454100t4.to,vI slp454100t4.sort,.bool slp454100t4.soil,vI slp454100t4.amt,vI slp661100t4.num,vI slp661100t4.hour,vI slp661100t4.kind,vI slp661100t4.place,vI slp661100t4.to,vI slp661100t4.sort,.bool slp661100t4.soil,vI slp661100t4.amt] 29)::(bX b9 #[vI 1,vI 2,vI 5] 75)::(bX b1 AZ 26)::([(bX b7 #[vS (some ⟨b3,0,none⟩) 1 1,vS (some ⟨b5,0,none⟩) 1 1] 33)]++F))) (PC _ (PC _ (PS _ _ _))) ?_;have h4:Own 33 1 KF (vS (some ⟨b7,0,none⟩) 2 2) ([(vS (some ⟨b3,0,none⟩) 1 1:Value),(vS (some ⟨b5,0,none⟩) 1 1:Value)]:List Value) [(bX b7 #[vS (some ⟨b3,0,none⟩) 1 1,vS (some ⟨b5,0,none⟩) 1 1] 33)]:=Own.lit rfl rfl;have a3:=(((RowsV.nil i1).snoc a2).snoc a4);simp only [NA,CA] at a3;refine sfz (A:=((bX a0 #[vI 1,vI 1,vI 1,vI 0,vI 1,vI 0,.bool false,vI 6,vI slp232100f4.num,vI slp232100f4.hour,vI slp232100f4.kind,vI slp232100f4.place,vI slp232100f4.to,vI slp232100f4.sort,.bool slp232100f4.soil,vI slp232100f4.amt,vI slp354100f1.num,vI slp354100f1.hour,vI slp354100f1.kind,vI slp354100f1.place,vI slp354100f1.to,vI slp354100f1.sort,.bool slp354100f1.soil,vI slp354100f1.amt,vI slp454100t4.num,vI slp454100t4.hour,vI slp454100t4.kind,vI slp454100t4.place,vI slp454100t4.to,vI slp454100t4.sort,.bool slp454100t4.soil,vI slp454100t4.amt,vI slp661100t4.num,vI slp661100t4.hour,vI slp661100t4.kind,vI slp661100t4.place,vI slp661100t4.to,vI slp661100t4.sort,.bool slp661100t4.soil,vI slp661100t4.amt] 29)::(bX b9 #[vI 1,vI 2,vI 5] 75)::(bX b1 AZ 26)::F)) undef h4 (PU (PU PM.symm)) (fun j6 a8 a5=>?_);replace a3:=a3.mono a8;obtain ⟨f8,g0,f9,g3,b6,g1,g2,g4⟩:=id a5;cases b6;have a1:=a3.isRows a5;have c0:=a3.1;obtain ⟨d5,d7,d6,e0,d4,b0,d8,d9,e1,e2⟩:=id a1
 injection b0 with fr54_e1 fr54_e2 fr54_e3;subst fr54_e1;subst fr54_e3
 refine pm (M':=((bX a0 #[vI 1,vI 1,vI 1,vI 0,vI 1,vI 0,.bool false,vI 6,vI slp232100f4.num,vI slp232100f4.hour,vI slp232100f4.kind,vI slp232100f4.place,vI slp232100f4.to,vI slp232100f4.sort,.bool slp232100f4.soil,vI slp232100f4.amt,vI slp354100f1.num,vI slp354100f1.hour,vI slp354100f1.kind,vI slp354100f1.place,vI slp354100f1.to,vI slp354100f1.sort,.bool slp354100f1.soil,vI slp354100f1.amt,vI slp454100t4.num,vI slp454100t4.hour,vI slp454100t4.kind,vI slp454100t4.place,vI slp454100t4.to,vI slp454100t4.sort,.bool slp454100t4.soil,vI slp454100t4.amt,vI slp661100t4.num,vI slp661100t4.hour,vI slp661100t4.kind,vI slp661100t4.place,vI slp661100t4.to,vI slp661100t4.sort,.bool slp661100t4.soil,vI slp661100t4.amt] 29)::(bX b1 AZ 26)::([(bX b9 #[vI 1,vI 2,vI 5] 75)]++F))) (PC _ (PS _ _ _)) ?_;have h5:Own 75 3 NL (vS (some ⟨b9,0,none⟩) 1 1) ([(⟨1,2,5⟩:Keep)]:List Keep) [(bX b9 #[vI 1,vI 2,vI 5] 75)]:=Own.lit rfl rfl;refine sfz (A:=((bX a0 #[vI 1,vI 1,vI 1,vI 0,vI 1,vI 0,.bool false,vI 6,vI slp232100f4.num,vI slp232100f4.hour,vI slp232100f4.kind,vI slp232100f4.place,vI slp232100f4.to,vI slp232100f4.sort,.bool slp232100f4.soil,vI slp232100f4.amt,vI slp354100f1.num,vI slp354100f1.hour,vI slp354100f1.kind,vI slp354100f1.place,vI slp354100f1.to,vI slp354100f1.sort,.bool slp354100f1.soil,vI slp354100f1.amt,vI slp454100t4.num,vI slp454100t4.hour,vI slp454100t4.kind,vI slp454100t4.place,vI slp454100t4.to,vI slp454100t4.sort,.bool slp454100t4.soil,vI slp454100t4.amt,vI slp661100t4.num,vI slp661100t4.hour,vI slp661100t4.kind,vI slp661100t4.place,vI slp661100t4.to,vI slp661100t4.sort,.bool slp661100t4.soil,vI slp661100t4.amt] 29)::(bX b1 AZ 26)::F)) AL h5 (PU PM.symm) (fun j7 a9 a6=>?_);replace a1:=a1.mono a9;obtain ⟨g5,g7,g6,h0,b8,g8,g9,h1⟩:=id a6;cases b8;refine pm (M':=((bX b1 AZ 26)::([(bX a0 #[vI 1,vI 1,vI 1,vI 0,vI 1,vI 0,.bool false,vI 6,vI slp232100f4.num,vI slp232100f4.hour,vI slp232100f4.kind,vI slp232100f4.place,vI slp232100f4.to,vI slp232100f4.sort,.bool slp232100f4.soil,vI slp232100f4.amt,vI slp354100f1.num,vI slp354100f1.hour,vI slp354100f1.kind,vI slp354100f1.place,vI slp354100f1.to,vI slp354100f1.sort,.bool slp354100f1.soil,vI slp354100f1.amt,vI slp454100t4.num,vI slp454100t4.hour,vI slp454100t4.kind,vI slp454100t4.place,vI slp454100t4.to,vI slp454100t4.sort,.bool slp454100t4.soil,vI slp454100t4.amt,vI slp661100t4.num,vI slp661100t4.hour,vI slp661100t4.kind,vI slp661100t4.place,vI slp661100t4.to,vI slp661100t4.sort,.bool slp661100t4.soil,vI slp661100t4.amt] 29)]++F))) (PS _ _ _) ?_;have h6:Own 29 8 AV (vS (some ⟨a0,0,none⟩) 5 5) ([(⟨1,1,1,0,1,0,false,6⟩:Slip),slp232100f4,slp354100f1,slp454100t4,slp661100t4]:List Slip) [(bX a0 #[vI 1,vI 1,vI 1,vI 0,vI 1,vI 0,.bool false,vI 6,vI slp232100f4.num,vI slp232100f4.hour,vI slp232100f4.kind,vI slp232100f4.place,vI slp232100f4.to,vI slp232100f4.sort,.bool slp232100f4.soil,vI slp232100f4.amt,vI slp354100f1.num,vI slp354100f1.hour,vI slp354100f1.kind,vI slp354100f1.place,vI slp354100f1.to,vI slp354100f1.sort,.bool slp354100f1.soil,vI slp354100f1.amt,vI slp454100t4.num,vI slp454100t4.hour,vI slp454100t4.kind,vI slp454100t4.place,vI slp454100t4.to,vI slp454100t4.sort,.bool slp454100t4.soil,vI slp454100t4.amt,vI slp661100t4.num,vI slp661100t4.hour,vI slp661100t4.kind,vI slp661100t4.place,vI slp661100t4.to,vI slp661100t4.sort,.bool slp661100t4.soil,vI slp661100t4.amt] 29)]:=Own.lit rfl rfl;obtain ⟨mB,hmB⟩:∃ X:Seg,X=[(bX a0 #[vI 1,vI 1,vI 1,vI 0,vI 1,vI 0,.bool false,vI 6,vI slp232100f4.num,vI slp232100f4.hour,vI slp232100f4.kind,vI slp232100f4.place,vI slp232100f4.to,vI slp232100f4.sort,.bool slp232100f4.soil,vI slp232100f4.amt,vI slp354100f1.num,vI slp354100f1.hour,vI slp354100f1.kind,vI slp354100f1.place,vI slp354100f1.to,vI slp354100f1.sort,.bool slp354100f1.soil,vI slp354100f1.amt,vI slp454100t4.num,vI slp454100t4.hour,vI slp454100t4.kind,vI slp454100t4.place,vI slp454100t4.to,vI slp454100t4.sort,.bool slp454100t4.soil,vI slp454100t4.amt,vI slp661100t4.num,vI slp661100t4.hour,vI slp661100t4.kind,vI slp661100t4.place,vI slp661100t4.to,vI slp661100t4.sort,.bool slp661100t4.soil,vI slp661100t4.amt] 29)]:=⟨_,rfl⟩;have i2:Own 29 8 AV (vS (some ⟨a0,0,none⟩) 5 5) bookL.slips mB:=by rw [hmB];exact h6
 refine BA (M':=((bX b1 AZ 26)::(mB++F))) (fun w h=>by rw [hmB];exact h) (sS (ss 0 0 b1 [vI 2,vI 1,vS (some ⟨b7,0,none⟩) 2 2,vS (some ⟨b9,0,none⟩) 1 1,vS (some ⟨a0,0,none⟩) 5 5] [vI 2,vI 1,vS (some ⟨b7,0,none⟩) 2 2,vS (some ⟨b9,0,none⟩) 1 1,vS (some ⟨a0,0,none⟩) 5 5] (_::_) (cs:=[_,_,_,_,_]) rfl rfl (se (BB (ppm (M':=(mB++(bX b1 #[vI 2,vI 1,vS (some ⟨b7,0,none⟩) 2 2,vS (some ⟨b9,0,none⟩) 1 1,vS (some ⟨a0,0,none⟩) 5 5] 26)::F)) PM.symm (IV (t:=0) (T:=26) (n:=5) mB (by kernel_rfl) rfl (by kernel_rfl) rfl (snm [vI 2,vI 1,vS (some ⟨b7,0,none⟩) 2 2,vS (some ⟨b9,0,none⟩) 1 1,vS (some ⟨a0,0,none⟩) 5 5] b1 26) (.inl ⟨by kernel_rfl,rfl⟩) (TA (TC _ (TR _)) _) (IT (IT (IT (IT (IT (IT (IT c1 c2) c3) c4) c5) a7) a8) a9) ?_))))));exact ⟨_,_,_,_,rfl,rfl,a1,a6,i2⟩
noncomputable def c_exturned:=cod Tryz.f10
theorem exturned_ct (I:Imm):Ct Tryz.prog 10 #[] I ([]) (fun v I' M'=>∃ u1:Value,∃ u2:Value,∃ u3:Value,∃ Ms:Seg,v=.agg #[vI (turnedL).places,vI (turnedL).sorts,u1,u2,u3]∧M'=Ms∧IsRows I' u1 (turnedL).start∧GK I' u2 (turnedL).keeps∧Own 29 8 AV u3 (turnedL).slips Ms):=by
 refine fr (args:=[]) (N:=26) Tryz.func10 (fun F=>?_);show Run _ _ (c_exturned []) _ _ [] _ _;refine rnm ?_;have hN5:bookL.slips.length=5:=rfl;refine rqr (sS (sal 0 26 AZ (fun b1=>(sn (sS (sc (some 4) (EX _ :) (.refl _) (fun i7 I3 i5 f1 i3=>?_)))))));obtain ⟨j5,j6,j1,d0,g9,g8,d6,d4,d8⟩:=i3;rw [g9,g8];clear g9 g8;have a7:=d6;have a8:=d4;obtain ⟨a3,a4,h0,h4,g0,e0,h2,h3,h5,h6⟩:=id a7;obtain ⟨a5,a6,h7,i0,e1,h8,h9,i1⟩:=id a8;subst e0;subst e1;obtain ⟨a0,a1,rfl,g6⟩:=d8.shape;refine pm (M':=((bX b1 AZ 26)::(d0++F))) PM (sS (sal 1 26 AZ (fun b0=>(sS (ss 0 0 b0 (DE bookL (vS a3 bookL.start.length a4) (vS a5 bookL.keeps.length a6) (vS a0 bookL.slips.length a1)) (DE bookL (vS a3 bookL.start.length a4) (vS a5 bookL.keeps.length a6) (vS a0 bookL.slips.length a1)) (_::_::_) (cs:=[_,_,_,_,_]) rfl rfl (sn (sp 1 [(5,vP b0 4)] (sd (dlb 6 0 4 b0 (vS a0 bookL.slips.length a1)) (sp 2 [(2,vI (↑(bookL.slips.length)))] (se (rq (rqr (sp 1 [(3,vI 0)] (se (rb 0 ?_)))))))))))))));refine rl (fun mz a w=>∃ J0:Imm,∃ k:Nat,∃ a2:Seg,(I3.le J0)∧(k≤bookL.slips.length)∧(Own 29 8 AV (vS a0 bookL.slips.length a1) (bookL.slips.reverse.take k++bookL.slips.drop k) a2)∧SD 26 [(3,vI ↑k),(0,vP b1 0),(1,vP b0 0),(2,vI (↑(bookL.slips.length)))] J0 ((bX b0 (AQ bookL (vS a3 bookL.start.length a4) (vS a5 bookL.keeps.length a6) (vS a0 bookL.slips.length a1)) 26)::(bX b1 AZ 26)::(a2++F)) a w (mz=bookL.slips.length-k)) ?_ ?_
 ·intro a w hS hD hW;exact ⟨_,I3,0,d0,IR _,Nat.zero_le _,d8,hS.sub su,hD,hW,rfl⟩
 rintro mz a w ⟨J0,k,a2,hJ0,hk,a9,hS,hD,hW,rfl⟩
 refine AW hS hD hW ?_;replace a7:=a7.mono hJ0;replace a8:=a8.mono hJ0;have j4:(bookL.slips.reverse.take k++bookL.slips.drop k).length=bookL.slips.length:=by rw [LA,LK,LD,List.length_reverse];omega
 refine rq (rqr (sp 3 [(10,.bool (cmp .lss ↑k (↑(bookL.slips.length))))] (se (rc 10 rfl (fun h1=>?_) (fun h1=>?_)))))
 ·
  have f0:=h1;have h1:=CQ h1;refine AM (NX (rq (rb 1 ?_)));refine rd 11 [(0,true),(1,true),(2,true),(5,true),(6,true),(7,true),(8,true),(3,false),(4,true),(9,true),(10,true)] ((bX b0 (AQ bookL (vS a3 bookL.start.length a4) (vS a5 bookL.keeps.length a6) (vS a0 bookL.slips.length a1)) 26)::(bX b1 AZ 26)::[]) (a2++F) (ox 1 [(13,vP b0 4)] ?_);refine AE (dlb 14 0 4 b0 (vS a0 bookL.slips.length a1)) (ox 2 [(18,vI (↑(bookL.slips.length))),(15,vI ↑k)] ?_);refine AE (dsb 19 (↑(bookL.slips.length)) 1) (ox 1 [(20,vI ↑k)] ?_);refine AE (dsb 21 ((↑(bookL.slips.length))-1) ↑k) ?_;refine OFP.sub 21 (show (vI (((↑(bookL.slips.length))-1)-↑k):Value)=vI (↑(bookL.slips.length-1-k)) from congrArg (Value.int .i64) (by omega)) ?_;refine PQ (sc (some 16) (F:=((bX b0 (AQ bookL (vS a3 bookL.start.length a4) (vS a5 bookL.keeps.length a6) (vS a0 bookL.slips.length a1)) 26)::(bX b1 AZ 26)::(a2++F))) (EX _ :) (PR _) (fun i8 j3 i6 b3 f3=>?_));obtain ⟨i9,j0,j2,e3,d3,d2,d7,d5,d9⟩:=f3;rw [d3,d2];clear d3 d2;replace a7:=a7.mono b3;replace a8:=a8.mono b3;have c3:=d7;have c7:=d5;obtain ⟨c0,c1,f4,f7,e2,c2,f5,f6,f8,f9⟩:=id c3;obtain ⟨c4,c5,g1,g4,c6,g2,g3,g5⟩:=id c7;subst c2;subst c6;obtain ⟨b5,b6,rfl,g7⟩:=d9.shape;refine hk_mem (M':=(e3++(bX b0 (AQ bookL (vS a3 bookL.start.length a4) (vS a5 bookL.keeps.length a6) (vS a0 bookL.slips.length a1)) 26)::(bX b1 AZ 26)::(a2++F))) (fun w h=>by simpa only [AA,CA,NA] using h) ?_;refine LH (B:=((bX b0 (AQ bookL (vS a3 bookL.start.length a4) (vS a5 bookL.keeps.length a6) (vS a0 bookL.slips.length a1)) 26)::(bX b1 AZ 26)::(a2++F))) AB d9 (by first | omega | (simp only [LS,LC,LN,LA,LK,LD] <;> omega) | decide) (PR _) (PR _) (fun i2 b4 b9=>?_);replace a7:=a7.mono b4;replace a8:=a8.mono b4;obtain ⟨e4,e6,e5,e9,b8,e7,e8,b2⟩:=id b9;cases b8;refine RA ?_;refine AX (S':=(a2++F)) (PR _) ?_;show OFP _ _ _ _ _ _ ((16,.agg (AQ bookL (vS c0 bookL.start.length c1) (vS c4 bookL.keeps.length c5) (vS b5 bookL.slips.length b6)))::_) _ _;refine ox 1 [(17,vS b5 bookL.slips.length b6)] ?_;refine AE (di 22 8 (bookL.slips.length-1-k) b2.addr) ?_;refine AE (dln 23 22 29 (ET (bookL.slips.getD (bookL.slips.length-1-k) AB)) rfl (BI (vals:=BW) (fun _=>rfl) b2 (bookL.slips.length-1-k) (by omega))) ?_;refine FS (nm (nm ?_));obtain ⟨i4,b7⟩:=a9.row AB;refine sd (di 24 8 k (fun _=>b7.addr (by omega)) (n:=bookL.slips.length)) (sS (GH (T:=29) (x:=(.tmp 24)) (y:=(.tmp 23)) (rc:=fun i f=>AV ((bookL.slips.reverse.take k++bookL.slips.drop k).getD i AB) f) AB k (bookL.slips.getD (bookL.slips.length-1-k) AB) (ty:=0) (gd:=none) (by kernel_rfl) rfl a9 b7 (by omega) rfl rfl (by kernel_rfl) rfl (PX _) (PU PM.symm) (fun d1 f2=>(pm (M':=((bX b0 (AQ bookL (vS a3 bookL.start.length a4) (vS a5 bookL.keeps.length a6) (vS a0 bookL.slips.length a1)) 26)::(bX b1 AZ 26)::(d1++F))) (PW PM) (ee (NB (NX (rr (sp 1 [(11,vI ↑k)] (sd (da 12 ↑k 1) (sp 1 [(3,vI (↑k+1))] (ee ?_))))))))))));refine AN (bookL.slips.length-(k+1)) (by omega) ?_;intro a w hS hD hW;exact ⟨i2,k+1,d1,(IT (IT hJ0 b3) b4),by omega,(by rw [← turn_step (by omega)];exact f2),hS.sub su,hD,hW,rfl⟩
 have f0:=h1;have h1:=CU h1;refine CH 0 (EP (EP (EB (NX (rqr (sd (dnb 25 0 0 b0 (DE bookL (vS a3 bookL.start.length a4) (vS a5 bookL.keeps.length a6) (vS a0 bookL.slips.length a1))) (sS (ss 1 0 b1 (DE bookL (vS a3 bookL.start.length a4) (vS a5 bookL.keeps.length a6) (vS a0 bookL.slips.length a1)) (DE bookL (vS a3 bookL.start.length a4) (vS a5 bookL.keeps.length a6) (vS a0 bookL.slips.length a1)) (_::_::_) (cs:=[_,_,_,_,_]) rfl rfl (se (BB (ppm (M':=(a2++(bX b0 (AQ bookL (vS a3 bookL.start.length a4) (vS a5 bookL.keeps.length a6) (vS a0 bookL.slips.length a1)) 26)::(bX b1 (AQ bookL (vS a3 bookL.start.length a4) (vS a5 bookL.keeps.length a6) (vS a0 bookL.slips.length a1)) 26)::F)) (PU PM.symm) (IV (t:=0) (T:=26) (n:=5) a2 (by kernel_rfl) rfl (by kernel_rfl) rfl (DC (n:=5) (cs:=(AQ bookL (vS a3 bookL.start.length a4) (vS a5 bookL.keeps.length a6) (vS a0 bookL.slips.length a1))) (b:=b1) (off:=0) (T:=26) (fz:=(0,0)) (vs:=(DE bookL (vS a3 bookL.start.length a4) (vS a5 bookL.keeps.length a6) (vS a0 bookL.slips.length a1))) (by simp) rfl) (.inl ⟨by kernel_rfl,rfl⟩) (TA (TC _ (TC _ (TR _))) _) (IT f1 hJ0) ?_))))))))))));exact ⟨_,_,_,_,rfl,rfl,a7,a8,((show (bookL.slips.reverse.take k++bookL.slips.drop k)=turnedL.slips from by rw [show k=bookL.slips.length by omega];rfl)▸a9)⟩
def DivAt (m:Nat):Prop:=∀ (I:Imm) (p h:Nat) (left:Int) (b3 b9 b10 b15:Nat) (hv gv lv:Value) (hs g l:List Int) (gM lM:Seg) (hb3:I.blk b3=some (Obj.cells #[hv] 33 (0,0))) (hb15:I.blk b15=some (Obj.cells #[.func (.func 65) #[] #[vP b3 0,vP b9 0,vP b10 0,vP b15 0]] 120 (0,0))) (hv_f:DB I hv hs) (hgo:Own 3 1 AK gv g gM) (hlo:Own 3 1 AK lv l lM) (hok:GrowOk hs.length left g l) (hpm:p+m=hs.length*hs.length) (hhp:h≤100),Ct Tryz.prog 65 #[vI ↑p,vI ↑h,vI left,vP b3 0,vP b9 0,vP b10 0,vP b15 0] I ((bX b9 #[gv] 33)::(bX b10 #[lv] 33)::(gM++lM)) (fun v I' M'=>∃ (u:Value) (gM' lM' oM:Seg),v=.tuple #[u,.bool (CJ hs.length m h left g l).isSome]∧M'=(bX b9 #[gv] 33)::(bX b10 #[lv] 33)::(gM'++(lM'++oM))∧Own 3 1 AK gv g gM'∧Own 3 1 AK lv l lM'∧Own 62 3 JJ u ((CJ hs.length m h left g l).getD []) oM)
noncomputable def c_Divide1:=cod Tryz.f65
set_option maxHeartbeats 1000000 in
theorem div_of (m:Nat) (ihm:∀ q,m=q+1→DivAt q) (I:Imm) (p h:Nat) (left:Int) (b3 b9 b10 b15:Nat) (hv gv lv:Value) (hs g l:List Int) (gM lM:Seg) (hb3:I.blk b3=some (Obj.cells #[hv] 33 (0,0))) (hb15:I.blk b15=some (Obj.cells #[.func (.func 65) #[] #[vP b3 0,vP b9 0,vP b10 0,vP b15 0]] 120 (0,0))) (hv_f:DB I hv hs) (hgo:Own 3 1 AK gv g gM) (hlo:Own 3 1 AK lv l lM) (hok:GrowOk hs.length left g l) (hpm:p+m=hs.length*hs.length) (hhp:h≤100):Ct Tryz.prog 65 #[vI ↑p,vI ↑h,vI left,vP b3 0,vP b9 0,vP b10 0,vP b15 0] I ((bX b9 #[gv] 33)::(bX b10 #[lv] 33)::(gM++lM)) (fun v I' M'=>∃ (u:Value) (gM' lM' oM:Seg),v=.tuple #[u,.bool (CJ hs.length m h left g l).isSome]∧M'=(bX b9 #[gv] 33)::(bX b10 #[lv] 33)::(gM'++(lM'++oM))∧Own 3 1 AK gv g gM'∧Own 3 1 AK lv l lM'∧Own 62 3 JJ u ((CJ hs.length m h left g l).getD []) oM):=by
 obtain ⟨c0,c1,i5,i8,rfl,i6,i7,i9⟩:=id hv_f;obtain ⟨a0,a1,rfl,h7⟩:=hgo.shape;obtain ⟨a2,a3,rfl,j0⟩:=hlo.shape;have h0:=hok.n4;have k6:=hok.gl;have k7:=hok.ll;have k8:=hok.left;have k9:hs.length*hs.length≤16:=Nat.mul_le_mul h0 h0;refine fr (args:=[_,_,_,_,_,_,_]) (N:=110) Tryz.func65 (fun F=>?_);show Run _ _ (c_Divide1 []) _ _ [(0,_),(1,_),(2,_),(3,_),(4,_),(5,_),(6,_)] _ _;refine rmA (M':=((bX b9 #[vS a0 g.length a1] 33)::(bX b10 #[vS a2 l.length a3] 33)::(gM++(lM++F)))) (rnm (rqr ?_));refine sp 2 [(11,.bool false),(10,vN)] (se (rq (rqr (sp 2 [(18,.bool (cmp .eql ↑h 0))] (se (rc 18 rfl (fun h1=>?_) (fun h1=>?_)))))))
 ·
  have f1:=h1;have h1:=BQ h1;refine rqr (sp 4 [(11,.bool (cmp .eql left 0)),(10,vN)] (se (BB (RP ?_))));obtain rfl:h=0:=by omega
  refine EE (t:=10) (u:=11) ([(bX b9 #[vS a0 g.length a1] 33)]++([(bX b10 #[vS a2 l.length a3] 33)]++(gM++(lM++([]))))) (by kernel_rfl) rfl rfl (by simp only [AA,NA,CA];exact (TK _ (TK _ (TA (TA (TR _) _) _)))) (IR _) ?_;exact ⟨_,gM,lM,[],congrArg (fun b=>Value.tuple #[_,.bool b]) (show cmp .eql left 0=(CJ hs.length m 0 left g l).isSome from by rw [NK];by_cases e:left=0 <;> simp [cmp,e]),rfl,hgo,hlo,(show []=(CJ hs.length m 0 left g l).getD [] from by rw [NK];split <;> rfl)▸(Own.nil _ _ _)⟩
 have f1:=h1;have h1:=BV h1
 skip
 refine AM (NX (rq (rq ?_)));refine DS (fun a w=>SE 110 [(0,vI ↑p),(1,vI ↑h),(2,vI left),(3,vP b3 0),(4,vP b9 0),(5,vP b10 0),(6,vP b15 0),(10,vN),(11,.bool false),(32,.bool ((cmp .eql ↑p (↑(hs.length*hs.length)))||(cmp .lss left ↑h)))] I ((bX b9 #[vS a0 g.length a1] 33)::(bX b10 #[vS a2 l.length a3] 33)::(gM++(lM++F))) a w) ?_ ?_
 ·
  refine rr (sp 1 [(21,vI ↑p)] (sd (dld 22 3 33 (vS c0 hs.length c1) rfl (AR hb3 rfl)) (sp 1 [(23,vI (↑(hs.length)))] (sd (dld 24 3 33 (vS c0 hs.length c1) rfl (AR hb3 rfl)) (sp 1 [(25,vI (↑(hs.length)))] (sd (dmu 26 (↑(hs.length)) (↑(hs.length)) (hr:=by have:=Int.natCast_mul hs.length hs.length;omega)) (CM 26 rfl (show (vI ((↑(hs.length))*(↑(hs.length))):Value)=vI (↑(hs.length*hs.length)) from congrArg (Value.int .i64) (Int.natCast_mul _ _).symm) (sp 2 [(28,.bool (cmp .eql ↑p (↑(hs.length*hs.length))))] ?_))))))));refine BU 28 rfl (fun h2=>?_) (fun h2=>?_)
  ·
   have b5:=h2;have b5:=BQ b5;refine sp 4 [(32,.bool true)] (ee ?_);refine AO (fun a w hS hD hW=>⟨hS.sub (sun 9 (.consE 32 rfl (congrArg Value.bool (by simp only [h2,kk])) (.nil _))),hD,hW⟩)
  have b5:=h2;have b5:=BV b5;refine sp 4 [(32,.bool (cmp .lss left ↑h))] (ee ?_);refine AO (fun a w hS hD hW=>⟨hS.sub (sun 9 (.consE 32 rfl (congrArg Value.bool (by simp only [h2,kk])) (.nil _))),hD,hW⟩)
 rintro a w ⟨hS,hD,hW⟩
 refine AW hS hD hW ?_;refine rc 32 rfl (fun h3=>?_) (fun h3=>?_)
 ·
  have f2:=h3;refine rqr (sp 2 [(11,.bool false),(10,vN)] (se (BB (RP ?_))));have b0:CJ hs.length m h left g l=none:=by
   obtain ⟨e,rfl⟩:∃ e,h=e+1:=⟨h-1,by omega⟩;cases m with
   | zero=>rfl
   | succ q=>exact growD_few (by have hq:=h3;simp [cmp] at hq;omega)
  refine EE (t:=10) (u:=11) ([(bX b9 #[vS a0 g.length a1] 33)]++([(bX b10 #[vS a2 l.length a3] 33)]++(gM++(lM++([]))))) (by kernel_rfl) rfl rfl (by simp only [AA,NA,CA];exact (TK _ (TK _ (TA (TA (TR _) _) _)))) (IR _) ?_;exact ⟨_,gM,lM,[],congrArg (fun b=>Value.tuple #[_,.bool b]) (show false=(CJ hs.length m h left g l).isSome from by rw [b0];rfl),rfl,hgo,hlo,(show []=(CJ hs.length m h left g l).getD [] from by rw [b0];rfl)▸(Own.nil _ _ _)⟩
 have f2:=h3;obtain ⟨d7,d8⟩:=or_f h3;have d7:=BV d7;have d8:=CU d8;refine AM (NX (rq ?_));obtain ⟨q,rfl⟩:∃ q,m=q+1:=⟨m-1,by omega⟩;obtain ⟨e,hhe⟩:∃ e,h=e+1:=⟨h-1,by omega⟩;have ih:=ihm q rfl;have l0:=pair_step (n:=hs.length) (m:=q) (by omega);have h8:pF hs.length (q+1)=p/hs.length:=by unfold pF;rw [show hs.length*hs.length-(q+1)=p by omega]
 have i4:pT hs.length (q+1)=p%hs.length:=by unfold pT;rw [show hs.length*hs.length-(q+1)=p by omega]
 have g9:¬ left<(e:Int)+1:=by omega
 have k3:=hok.at (pF hs.length (q+1));have k4:=hok.at (pT hs.length (q+1));have k5:most hs.length (q+1) g l≤50:=by unfold most;omega
 refine rd0 9 (ox 1 [(33,vI ↑p)] ?_);refine AE (dld 34 3 33 (vS c0 hs.length c1) rfl (AR hb3 rfl)) (ox 1 [(35,vI (↑(hs.length)))] ?_);refine AE (det_quo (x:=(.tmp 33)) (y:=(.tmp 35)) (T:=3) (T':=3) (d:=36) (ty:=3) (gd:=none) (by kernel_rfl) rfl rfl rfl (by omega) (by omega)) ?_;refine OFP.sub 36 (show (vI (↑p/(↑(hs.length))):Value)=vI (↑(pF hs.length (q+1))) from congrArg (Value.int .i64) (by rw [h8];rfl)) (ox 1 [(37,vI ↑p)] ?_);refine AE (dld 38 3 33 (vS c0 hs.length c1) rfl (AR hb3 rfl)) (ox 1 [(39,vI (↑(hs.length)))] ?_);refine AE (det_rem (x:=(.tmp 37)) (y:=(.tmp 39)) (T:=3) (T':=3) (d:=40) (ty:=3) (gd:=none) (by kernel_rfl) rfl rfl rfl (by omega) (by omega)) ?_;refine OFP.sub 40 (show (vI ((↑p:Int)%(↑(hs.length))):Value)=vI (↑(pT hs.length (q+1))) from congrArg (Value.int .i64) (by rw [i4];rfl)) (ox 1 [(12,vI (↑(pF hs.length (q+1))))] ?_);refine BT (sp 1 [(13,vI (↑(pT hs.length (q+1))))] (se (rq (rqr (sp 1 [(14,vI 1)] (se (rb 0 ?_)))))));refine rl (fun mz a w=>∃ J0:Imm,∃ j:Nat,∃ a7:Seg,∃ a6:Seg,(I.le J0)∧(1≤j)∧(j≤most hs.length (q+1) g l+1)∧(BalNo hs.length q e left g l j)∧(Own 3 1 AK (vS a0 g.length a1) g a7)∧(Own 3 1 AK (vS a2 l.length a3) l a6)∧SD 110 [(14,vI ↑j),(0,vI ↑p),(1,vI ↑h),(2,vI left),(4,vP b9 0),(5,vP b10 0),(6,vP b15 0),(12,vI (↑(pF hs.length (q+1)))),(13,vI (↑(pT hs.length (q+1))))] J0 ((bX b9 #[(vS a0 g.length a1)] 33)::(bX b10 #[(vS a2 l.length a3)] 33)::(a7++(a6++F))) a w (mz=most hs.length (q+1) g l+1-j)) ?_ ?_
 ·intro a w hS hD hW;exact ⟨_,I,1,gM,lM,IR _,Nat.le_refl _,Nat.le_add_left _ _,BalNo.start,hgo,hlo,hS.sub su,hD,hW,rfl⟩
 rintro mz a w ⟨J0,j,a7,a6,hJ0,f5,hj,f6,a4,a5,hS,hD,hW,rfl⟩
 refine AW hS hD hW ?_;replace hb3:=hJ0.blk _ _ hb3;replace hb15:=hJ0.blk _ _ hb15;replace hv_f:=hv_f.mono hJ0;refine rq (rq ?_);refine rd0 10 (ox 1 [(41,vI ↑j)] ?_);refine AE (dlb 42 0 0 b9 (vS a0 g.length a1)) (ox 1 [(43,vI (↑(pF hs.length (q+1))))] ?_);obtain ⟨l1,e3⟩:=a4.row 0;refine AE (di 44 1 (pF hs.length (q+1)) e3.addr) ?_;refine AE (dl 45 (e3.get (pF hs.length (q+1)) (by omega) 0 (by decide) _ _ (fun x hx=>by simp [hx]))) ?_;refine AE (dlb 46 1 0 b10 (vS a2 l.length a3)) (ox 1 [(47,vI (↑(pT hs.length (q+1))))] ?_);obtain ⟨l2,e4⟩:=a5.row 0;refine AE (di 48 1 (pT hs.length (q+1)) e4.addr) ?_;refine AE (dl 49 (e4.get (pT hs.length (q+1)) (by omega) 0 (by decide) _ _ (fun x hx=>by simp [hx]))) (ox 1 [(50,vI (if (l.getD (pT hs.length (q+1)) 0:Int)<(g.getD (pF hs.length (q+1)) 0:Int) then l.getD (pT hs.length (q+1)) 0 else g.getD (pF hs.length (q+1)) 0))] ?_);refine OFP.sub 50 (show (vI (if (l.getD (pT hs.length (q+1)) 0:Int)<(g.getD (pF hs.length (q+1)) 0:Int) then l.getD (pT hs.length (q+1)) 0 else g.getD (pF hs.length (q+1)) 0):Value)=vI (↑(most hs.length (q+1) g l)) from congrArg (Value.int .i64) (most_int hok)) ?_;refine BT (sp 1 [(51,.bool (cmp .leq ↑j (↑(most hs.length (q+1) g l))))] (se (rc 51 rfl (fun h4=>?_) (fun h4=>?_))))
 ·
  have f3:=h4;have h4:=leq_t h4;refine AM (NX (rq (rb 1 (rqr (sd (dlb 54 0 0 b9 (vS a0 g.length a1)) (sp 1 [(55,vI (↑(pF hs.length (q+1))))] ?_))))));obtain ⟨l3,e5⟩:=a4.row 0;refine sd (di 56 1 (pF hs.length (q+1)) e5.addr) (sd (dl 57 (e5.get (pF hs.length (q+1)) (by omega) 0 (by decide) _ _ (fun x hx=>by simp [hx]))) (sp 1 [(58,vI ↑j)] (sd (dsb 59 (g.getD (pF hs.length (q+1)) 0) ↑j) ?_)));obtain ⟨l4,e6⟩:=a4.row 0;refine sd (di 60 1 (pF hs.length (q+1)) e6.addr) (sS (CE (T:=3) (x:=(.tmp 60)) (y:=(.tmp 59)) (rc:=fun i f=>AK ((g).getD i 0) f) 0 (pF hs.length (q+1)) 0 ((g.getD (pF hs.length (q+1)) 0)-↑j) (ty:=0) (gd:=none) (by kernel_rfl) rfl a4 e6 (by omega) (by decide) rfl rfl (by kernel_rfl) rfl rfl (by intro f hf;match f,hf with | 0,_=>rfl) (PU PM.symm) (fun g8 i3=>(pm (M':=((bX b9 #[vS a0 g.length a1] 33)::(bX b10 #[vS a2 l.length a3] 33)::(g8++(a6++F)))) (PW PM) (sn (sd (dlb 61 1 0 b10 (vS a2 l.length a3)) (sp 1 [(62,vI (↑(pT hs.length (q+1))))] ?_)))))));obtain ⟨j1,c4⟩:=a5.row 0;refine sd (di 63 1 (pT hs.length (q+1)) c4.addr) (sd (dl 64 (c4.get (pT hs.length (q+1)) (by omega) 0 (by decide) _ _ (fun x hx=>by simp [hx]))) (sp 1 [(65,vI ↑j)] (sd (dsb 66 (l.getD (pT hs.length (q+1)) 0) ↑j) ?_)));obtain ⟨j2,c5⟩:=a5.row 0;refine sd (di 67 1 (pT hs.length (q+1)) c5.addr) (sS (CE (T:=3) (x:=(.tmp 67)) (y:=(.tmp 66)) (rc:=fun i f=>AK ((l).getD i 0) f) 0 (pT hs.length (q+1)) 0 ((l.getD (pT hs.length (q+1)) 0)-↑j) (ty:=0) (gd:=none) (by kernel_rfl) rfl a5 c5 (by omega) (by decide) rfl rfl (by kernel_rfl) rfl rfl (by intro f hf;match f,hf with | 0,_=>rfl) (PU (PU (PO _ _ _))) (fun e7 f7=>(pm (M':=((bX b9 #[vS a0 g.length a1] 33)::(bX b10 #[vS a2 l.length a3] 33)::(e7++(g8++F)))) (PW PM) (sn (sd (dld 69 6 120 (.func (.func 65) #[] #[vP b3 0,vP b9 0,vP b10 0,vP b15 0]) rfl (AR hb15 rfl)) (sp 1 [(70,vI ↑p)] (sd (da 71 ↑p 1) (sp 1 [(72,vI ↑h)] (sd (dsb 73 ↑h 1) (CM 73 rfl (show (vI (↑h-1):Value)=vI ↑e from congrArg (Value.int .i64) (by omega)) (sp 2 [(75,vI ↑j),(74,vI left)] (sd (dsb 76 left ↑j) ?_)))))))))))));have d1:=hok.less (m:=q) (j:=j) f5 (by omega);have i1:=d1.at (pF hs.length (q+1));have i2:=d1.at (pT hs.length (q+1));have h9:(less (pF hs.length (q+1)) j g).length=g.length:=FI;have i0:(less (pT hs.length (q+1)) j l).length=l.length:=FI;have d9:=ih J0 (p+1) e (left-(j:Int)) b3 b9 b10 b15 _ _ _ hs (less (pF hs.length (q+1)) j g) (less (pT hs.length (q+1)) j l) _ _ hb3 hb15 hv_f i3 f7 d1 (by omega) (by omega);refine sS (KR (d:=(some 77)) (f:=(.tmp 69)) (fid:=65) (args:=#[(.tmp 71),(.tmp 73),(.tmp 76)]) (tys:=#[3,3,3]) (cv:=[vP b3 0,vP b9 0,vP b10 0,vP b15 0]) (F:=(F)) (ty:=121) (gd:=none) (by kernel_rfl) rfl rfl rfl (by kernel_rfl) rfl d9 (by simpa only [AA,CA,NA] using (PC _ (PC _ (PO _ _ _)))) (fun k0 h6 j8 a9 g1=>?_));obtain ⟨gu,d3,d2,b8,rfl,e1,d4,d5,d6⟩:=g1;replace hb3:=a9.blk _ _ hb3;replace hb15:=a9.blk _ _ hb15;replace hv_f:=hv_f.mono a9;rw [e1];clear e1;obtain ⟨b2,b4,rfl,e9⟩:=d6.shape;refine BA (M':=((bX b9 #[vS a0 g.length a1] 33)::(bX b10 #[vS a2 l.length a3] 33)::(d3++(d2++(b8++F))))) (fun w h=>by simpa only [AA,CA,NA] using h) (nm ?_);show Seq _ _ _ _ _ _ ((77,.tuple #[vS b2 ((KK hs.length q e left g l j).getD []).length b4,.bool ((KK hs.length q e left g l j).isSome)])::_) _ _;refine sp 5 [(16,.bool ((KK hs.length q e left g l j).isSome)),(15,vS b2 ((KK hs.length q e left g l j).getD []).length b4)] (sn (sd (dlb 80 0 0 b9 (vS a0 g.length a1)) (sp 1 [(81,vI (↑(pF hs.length (q+1))))] ?_)));obtain ⟨j3,c6⟩:=d4.row 0;refine sd (di 82 1 (pF hs.length (q+1)) (fun _=>c6.addr (by omega)) (n:=g.length)) (sd (dl 83 (c6.get (pF hs.length (q+1)) (by omega) 0 (by decide) _ _ (fun x hx=>by simp [hx]))) (sp 1 [(84,vI ↑j)] (sd (da 85 ((less (pF hs.length (q+1)) j g).getD (pF hs.length (q+1)) 0) ↑j) ?_)));obtain ⟨j4,c7⟩:=d4.row 0;refine sd (di 86 1 (pF hs.length (q+1)) (fun _=>c7.addr (by omega)) (n:=g.length)) (sS (CE (T:=3) (x:=(.tmp 86)) (y:=(.tmp 85)) (rc:=fun i f=>AK ((less (pF hs.length (q+1)) j g).getD i 0) f) 0 (pF hs.length (q+1)) 0 (((less (pF hs.length (q+1)) j g).getD (pF hs.length (q+1)) 0)+↑j) (ty:=0) (gd:=none) (by kernel_rfl) rfl d4 c7 (by omega) (by decide) rfl rfl (by kernel_rfl) rfl rfl (by intro f hf;match f,hf with | 0,_=>rfl) (PU PM.symm) (fun a8 f8=>(pm (M':=((bX b9 #[vS a0 g.length a1] 33)::(bX b10 #[vS a2 l.length a3] 33)::(a8++(d2++(b8++F))))) (PW PM) (se (rq ?_))))));have c2:Own 3 1 AK (vS a0 g.length a1) g a8:=by have hq:=f8;rw [less_back] at hq;exact hq
  refine rr (sd (dlb 87 1 0 b10 (vS a2 l.length a3)) (sp 1 [(88,vI (↑(pT hs.length (q+1))))] ?_));obtain ⟨j5,c8⟩:=d5.row 0;refine sd (di 89 1 (pT hs.length (q+1)) (fun _=>c8.addr (by omega)) (n:=l.length)) (sd (dl 90 (c8.get (pT hs.length (q+1)) (by omega) 0 (by decide) _ _ (fun x hx=>by simp [hx]))) (sp 1 [(91,vI ↑j)] (sd (da 92 ((less (pT hs.length (q+1)) j l).getD (pT hs.length (q+1)) 0) ↑j) ?_)));obtain ⟨j6,c9⟩:=d5.row 0;refine sd (di 93 1 (pT hs.length (q+1)) (fun _=>c9.addr (by omega)) (n:=l.length)) (sS (CE (T:=3) (x:=(.tmp 93)) (y:=(.tmp 92)) (rc:=fun i f=>AK ((less (pT hs.length (q+1)) j l).getD i 0) f) 0 (pT hs.length (q+1)) 0 (((less (pT hs.length (q+1)) j l).getD (pT hs.length (q+1)) 0)+↑j) (ty:=0) (gd:=none) (by kernel_rfl) rfl d5 c9 (by omega) (by decide) rfl rfl (by kernel_rfl) rfl rfl (by intro f hf;match f,hf with | 0,_=>rfl) (PU (PU (PO _ _ _))) (fun b1 f9=>(pm (M':=((bX b9 #[vS a0 g.length a1] 33)::(bX b10 #[vS a2 l.length a3] 33)::(b1++(a8++(b8++F))))) (PW PM) (se (rq ?_))))));have c3:Own 3 1 AK (vS a2 l.length a3) l b1:=by have hq:=f9;rw [less_back] at hq;exact hq
  refine rr (sp 1 [(94,.bool ((KK hs.length q e left g l j).isSome))] (se (rc 94 rfl (fun h5=>?_) (fun h5=>?_))))
  ·
   have f4:=h5;refine rqr (sp 4 [(98,.agg #[vI (↑(pF hs.length (q+1))),vI (↑(pT hs.length (q+1))),vI ↑j])] (sS (sbs 99 62 1 #[vI (↑(pF hs.length (q+1))),vI (↑(pT hs.length (q+1))),vI ↑j] (fun e8=>(sp 1 [(100,vS b2 ((KK hs.length q e left g l j).getD []).length b4)] ?_)))));have g0:Own 62 3 JJ (vS (some ⟨e8,0,none⟩) 1 1) ([(⟨↑(pF hs.length (q+1)),↑(pT hs.length (q+1)),↑j⟩:Cart)]:List Cart) [(bX e8 #[vI (↑(pF hs.length (q+1))),vI (↑(pT hs.length (q+1))),vI ↑j] 62)]:=Own.lit rfl rfl;refine sS (LP (d:=101) (x:=(.tmp 99)) (y:=(.tmp 100)) (T:=55) (T':=55) (E:=62) (E':=62) (sz:=3) (bs:=24) (z:=.agg #[vI 0,vI 0,vI 0]) (cell:=JJ) (xs:=([(⟨↑(pF hs.length (q+1)),↑(pT hs.length (q+1)),↑j⟩:Cart)]:List Cart)) (ys:=(KK hs.length q e left g l j).getD []) (Ms:=[(bX e8 #[vI (↑(pF hs.length (q+1))),vI (↑(pT hs.length (q+1))),vI ↑j] 62)]) (ty:=55) (gd:=none) (by kernel_rfl) rfl (by kernel_rfl) (by kernel_rfl) (by kernel_rfl) (by kernel_rfl) (by kernel_rfl) (by decide) (by kernel_rfl) rfl rfl g0 (PR _) (one_cartCell _) (d6.src (fun x hx=>by simp [hx])) (by first | omega | (have hz:((KK hs.length q e left g l j).getD []).length≤e:=grow_getD_len;simp only [LC,LN];omega)) (fun l5 b7 e2=>(pm (M':=((bX b9 #[vS a0 g.length a1] 33)::(bX b10 #[vS a2 l.length a3] 33)::(b7++(b1++(a8++(b8++F)))))) (PW PM) ?_)));obtain ⟨g5,g6,rfl,j7⟩:=e2.shape;refine sp 2 [(11,.bool true),(10,vS g5 (([(⟨↑(pF hs.length (q+1)),↑(pT hs.length (q+1)),↑j⟩:Cart)]:List Cart)++((KK hs.length q e left g l j).getD [])).length g6)] (se (BB (RB (RP (RP (RB (RP ?_)))))));have b0:CJ hs.length (q+1) h left g l=_:=(congrArg (fun h=>CJ hs.length (q+1) h left g l) hhe).trans (grow_hit g9 f6 f5 (by omega) h5);refine ppm (M':=((bX b9 #[vS a0 g.length a1] 33)::(bX b10 #[vS a2 l.length a3] 33)::(a8++(b1++(b7++(b8++F)))))) (PC _ (PC _ ((PV (PO _ _ _)).trans (PA _ (PO _ _ _))))) (rt2s 10 11 ([(bX b9 #[vS a0 g.length a1] 33)]++([(bX b10 #[vS a2 l.length a3] 33)]++(a8++(b1++(b7))))) rfl rfl (by simp only [AA,NA,CA];exact (TK _ (TK _ (TA (TA (TA (TT (TR _) (TB _ _)) _) _) _)))) (IT hJ0 a9) ?_);exact ⟨_,a8,b1,b7,congrArg (fun b=>Value.tuple #[_,.bool b]) (show true=(CJ hs.length (q+1) h left g l).isSome from by rw [b0];rfl),rfl,c2,c3,(show ([(⟨↑(pF hs.length (q+1)),↑(pT hs.length (q+1)),↑j⟩:Cart)]:List Cart)++((KK hs.length q e left g l j).getD [])=(CJ hs.length (q+1) h left g l).getD [] from by rw [b0];rfl)▸e2⟩
  have f4:=h5;refine AM (NB (NX (rr (sp 1 [(52,vI ↑j)] (sd (da 53 ↑j 1) (sp 1 [(14,vI (↑j+1))] (ee ?_)))))));refine AN (most hs.length (q+1) g l+1-(j+1)) (by omega) ?_;intro a w hS hD hW;exact ⟨h6,j+1,a8,b1,(IT hJ0 a9),by omega,by omega,f6.next f5 h5,c2,c3,hS.sub su,hD,(hW.perm ((PU (PU (PV (PO _ _ _)))).trans (PA _ (PC _ (PC _ (PO _ _ _)))))).sub (TT (TR _) (TB _ _)),rfl⟩
 have f3:=h4;have h4:=leq_f h4;refine CH 0 (EP (EP (EB (NX (rqr (sd (dld 102 6 120 (.func (.func 65) #[] #[vP b3 0,vP b9 0,vP b10 0,vP b15 0]) rfl (AR hb15 rfl)) (sp 1 [(103,vI ↑p)] (sd (da 104 ↑p 1) (sp 2 [(106,vI left),(105,vI ↑h)] ?_)))))))));have e0:=ih J0 (p+1) h left b3 b9 b10 b15 _ _ _ hs g l _ _ hb3 hb15 hv_f a4 a5 hok (by omega) (by omega);refine sS (KR (d:=(some 107)) (f:=(.tmp 102)) (fid:=65) (args:=#[(.tmp 104),(.tmp 105),(.tmp 106)]) (tys:=#[3,3,3]) (cv:=[vP b3 0,vP b9 0,vP b10 0,vP b15 0]) (F:=(F)) (ty:=121) (gd:=none) (by kernel_rfl) rfl rfl rfl (by kernel_rfl) rfl e0 (by simpa only [AA,CA,NA] using (PR _)) (fun k1 k2 j9 b6 g2=>?_));obtain ⟨gu,d3,d2,b8,rfl,e1,d4,d5,d6⟩:=g2;replace hb3:=b6.blk _ _ hb3;replace hb15:=b6.blk _ _ hb15;rw [e1];clear e1;obtain ⟨b2,b4,rfl,e9⟩:=d6.shape;refine BA (M':=((bX b9 #[vS a0 g.length a1] 33)::(bX b10 #[vS a2 l.length a3] 33)::(d3++(d2++(b8++F))))) (fun w h=>by simpa only [AA,CA,NA] using h) (nm ?_);show Seq _ _ _ _ _ _ ((107,.tuple #[vS b2 ((CJ hs.length q h left g l).getD []).length b4,.bool ((CJ hs.length q h left g l).isSome)])::_) _ _;refine sp 4 [(11,.bool ((CJ hs.length q h left g l).isSome)),(10,vS b2 ((CJ hs.length q h left g l).getD []).length b4)] (se (BB ?_));have b0:CJ hs.length (q+1) h left g l=CJ hs.length q h left g l:=by rw [hhe];exact grow_miss g9 f6 (by omega)
 refine EE (t:=10) (u:=11) ([(bX b9 #[vS a0 g.length a1] 33)]++([(bX b10 #[vS a2 l.length a3] 33)]++(d3++(d2++(b8))))) (by kernel_rfl) rfl rfl (by simp only [AA,NA,CA];exact (TK _ (TK _ (TA (TA (TA (TR _) _) _) _)))) (IT hJ0 b6) ?_;exact ⟨_,d3,d2,b8,congrArg (fun b=>Value.tuple #[_,.bool b]) (show (CJ hs.length q h left g l).isSome=(CJ hs.length (q+1) h left g l).isSome from by rw [b0]),rfl,d4,d5,(show (CJ hs.length q h left g l).getD []=(CJ hs.length (q+1) h left g l).getD [] from by rw [b0])▸d6⟩
theorem div_all (m:Nat):DivAt m:=by
 induction m with
 | zero=>intro I p h left b3 b9 b10 b15 hv gv lv hs g l gM lM hb3 hb15 hv_f hgo hlo hok hpm hhp;exact div_of 0 (fun m h=>by omega) I p h left b3 b9 b10 b15 hv gv lv hs g l gM lM hb3 hb15 hv_f hgo hlo hok hpm hhp
 | succ m ih=>intro I p h left b3 b9 b10 b15 hv gv lv hs g l gM lM hb3 hb15 hv_f hgo hlo hok hpm hhp;exact div_of (m+1) (fun q h=>(show m=q by omega)▸ih) I p h left b3 b9 b10 b15 hv gv lv hs g l gM lM hb3 hb15 hv_f hgo hlo hok hpm hhp
end Go.Proofs.YtgcemienebmdeaaGreatDoor
