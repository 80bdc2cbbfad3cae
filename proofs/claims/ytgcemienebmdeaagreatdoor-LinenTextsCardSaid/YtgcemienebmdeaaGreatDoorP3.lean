/- A part of the proof of the laws of this seat. -/
import Derived.Test.YtgcemienebmdeaaGreatDoorP1
import Derived.Test.YtgcemienebmdeaaGreatDoorP2
import Derived.Test.YtgcemienebmdeaaGreatDoorP0
set_option linter.unusedVariables false
set_option linter.unusedSimpArgs false
namespace Go.Sh
open Go Go.Sl
def hkCells (k:HKey):Array Value:=#[.int .i64 k.pl,.int .i64 k.so,.bool k.soil]
def NQ (k:HKey):Value:=.agg (hkCells k)
def flatH:List (Nat × SK):=[(0,.i .i64),(1,.i .i64),(2,.b)]
theorem BQ {P:Program} {kt:TypeId} (h:MP P 4 kt=some (3,flatH)) (hagg:EV P kt=some true):KeyOk P kt NQ:=
  keyOk_flat h (by decide) hagg hkCells (fun _=>rfl) (fun _=>rfl) (fun a b=>by
    obtain ⟨a1,a2,a3⟩:=a;obtain ⟨b1,b2,b3⟩:=b
    show ((a1 == b1)&&((a2 == b2)&&((a3 == b3)&&true)))=decide ((⟨a1,a2,a3⟩:HKey)=⟨b1,b2,b3⟩)
    simp only [Bool.and_true,HKey.mk.injEq,Bool.decide_and];rfl)
def intV (h:Hs):List (HKey × Value):=h.map fun x=>(x.1,.int .i64 x.2)
theorem CH (k:HKey) (h:Hs):(LI k (intV h)).getD (.int .i64 0)=.int .i64 (DX k h):=by
  induction h with
  | nil=>rfl
  | cons x r ih => simp only [intV, List.map_cons, LI, DX] at ih ⊢; split; · rfl
                   · exact ih
theorem upd_intV (k:HKey) (v:Int) (h:Hs):upd k (.int .i64 v) (intV h)=intV (KX k v h):=by
  induction h with
  | nil=>rfl
  | cons x r ih => simp only [intV, List.map_cons, upd, KX] at ih ⊢; split; · rfl
                   · rw [ih];rfl
end Go.Sh
namespace Go.Sl
open Go
def LkPr {κ:Type} [DecidableEq κ] (r:Nat) (enc:κ→Value) (k:κ) (z v:Value):Seg→Prop:=fun X=>∃ es cl kvs,X=[(r,Obj.map es cl)]∧MapIs enc es kvs∧(LI k kvs).getD z=v
section
variable {P:Program} {N:Nat} {ops:Array Oper} {i:Nat} {l:Sl} {I:Imm} {d:Nat} {ty:TypeId} {gd:Option (Nat × Bool)} {κ:Type} [DecidableEq κ] {enc:κ→Value}
theorem GD {x y : Operand} {T kt et r : Nat} {k : κ} {z v : Value} (hop : FM ops N i = some (some d, .lookup T x y false, ty, gd)) (hg : FJ ops l gd = some true)
    (hT:SP P T=some (kt,et)) (hK:KeyOk P kt enc) (hx:CC l x=some (.map (some r))) (hy:CC l y=some (enc k)) (hz:IW P et=some z):∀ X,LkPr r enc k z v X→Det P N ops i l I X d v:=by
  rintro X ⟨es,cl,kvs,rfl,h1,h2⟩
  exact HB (cl:=cl) hop hg hT hK hx hy hz (.inl (by simp)) h1 h2
theorem NC {r cl:Nat} {es:Array MapEntry} {kvs:List (κ × Value)} {k:κ} {z v:Value} (h:MapB enc es cl kvs) (hv:(LI k kvs).getD z=v):LkPr r enc k z v [(r,Obj.map es cl)]:=⟨es,cl,kvs,rfl,h.1,hv⟩
theorem KJ {r cl:Nat} {es:Array MapEntry} {kvs:List (κ × Value)} {k k':κ} {z v:Value} (h:MapB enc es cl (ent k z kvs)) (hk:k'=k) (hv:(LI k' kvs).getD z=v):LkPr r enc k' z v [(r,Obj.map es cl)]:=⟨es,cl,_,rfl,h.1,by subst hk;rw [getKv_ent];exact hv⟩
end
section
variable {P:Program} {N:Nat} {ops:Array Oper} {i:Nat} {l:Sl} {I:Imm} {M:Seg} {ty:TypeId} {gd:Option (Nat × Bool)} {K:Sl→Imm→Seg→Prop} {κ:Type} [DecidableEq κ] {enc:κ→Value}
theorem OL {x y u : Operand} {T kt et r cl : Nat} {es : Array MapEntry} {kvs : List (κ × Value)} {k : κ} {v : Value} (n : Nat) (hop : FM ops N i = some (none, .mapUpdate T x y u, ty, gd)) (hg : FJ ops l gd = some true)
    (hT:SP P T=some (kt,et)) (hK:KeyOk P kt enc) (hx:CC l x=some (.map (some r))) (hy:CC l y=some (enc k)) (hu:CC l u=some v) (hn:M[n]?=some (r,Obj.map es cl)) (hb:MapB enc es cl kvs)
    (h:∀ es' cl',MapB enc es' cl' (upd k v kvs)→K l I (M.set n (r,Obj.map es' cl'))):Stp P N ops i l I M K:=
  DH hop hg (known3 hx hy hu) (by
    obtain ⟨his,hbo⟩:=hb
    show wpL P (Instr.mapUpdate T (rho l x) (rho l y) (rho l u) >>= fun _=>pure Next.skip) _ I M
    rw [BA hx,BA hy,BA hu,AE]
    unfold Instr.mapUpdate
    rw [AE,AL (JN hT)]
    show wpL P (Sem.getObj r _) _ I M
    refine ⟨_,.inl (List.mem_of_getElem? hn),rfl,?_⟩
    show wpL P (Instr.checkKey _ _ _ _ >>= _) _ I _
    rw [AE]
    refine hK.check _ _ _ _ _ ?_
    rw [AE]
    refine hK.find k es.toList kvs _ _ _ his ?_
    have hf:=NR k v kvs 0
    cases hkv:FH k kvs 0 with
    | none=>
      rw [hkv] at hf
      simp only at hf
      show wpL P (Sem.setObj r _ _) _ I M
      refine FU n rfl hn rfl ?_
      refine ⟨undef,.inr ⟨rfl,rfl⟩,h _ _ ⟨?_,hbo.push _ _⟩⟩
      rw [hf.1]
      exact NU his k v cl
    | some p=>
      obtain ⟨j,w⟩:=p
      rw [hkv] at hf
      simp only [Nat.sub_zero] at hf
      obtain ⟨_,h1,_,h2⟩:=hf
      obtain ⟨_,_,h3⟩:=PH k kvs 0 j w hkv
      rw [Nat.sub_zero] at h3
      obtain ⟨e,he,hek,hev⟩:=key_at his h3
      have hold:((es[j]?).map (·.key)).getD (enc k)=enc k:=by rw [he];exact hek
      show wpL P (Instr.keyThatStays (((es[j]?).map (·.key)).getD (enc k)) (enc k) >>= _) _ I M
      rw [AE,hold]
      refine NL ?_
      show wpL P (Sem.setObj r _ _) _ I M
      refine FU n rfl hn rfl ?_
      refine ⟨undef,.inr ⟨rfl,rfl⟩,h _ _ ⟨?_,hbo.modify _ _ (fun _=>rfl)⟩⟩
      rw [h1]
      exact PZ his j k v _ rfl)
end
end Go.Sl
namespace Go.Sh
open Go Go.Sl
def MapH (es:Array MapEntry) (cl:Nat) (H:Hs):Prop:=MapB NQ es cl (intV H)∧(H.map Prod.fst).Nodup
def EntH (es:Array MapEntry) (cl:Nat) (H:Hs) (k:HKey) (st:Nat):Prop:=MapB NQ es cl (ent k (.int .i64 0) (intV H))∧Stamp es (ent k (.int .i64 0) (intV H)) st k∧(H.map Prod.fst).Nodup
theorem MapH.nil (cl:Nat):MapH #[] cl []:=⟨MapB.nil _ _,by simp⟩
theorem putH_keys (k:HKey) (v:Int):∀ H:Hs,(KX k v H).map Prod.fst=if k∈H.map Prod.fst then H.map Prod.fst else H.map Prod.fst++[k]:=by
  intro H
  induction H with
  | nil=>rfl
  | cons x r ih=>
    simp only [KX]
    by_cases h:x.1=k
    · simp [h]
    · rw [if_neg h]
      simp only [List.map_cons,ih,List.mem_cons,Ne.symm h,false_or]
      split <;> simp
theorem putH_once {k:HKey} {v:Int} {H:Hs} (h:(H.map Prod.fst).Nodup):((KX k v H).map Prod.fst).Nodup:=by
  rw [putH_keys]
  split
  · exact h
  · rename_i hk
    exact List.nodup_append.2 ⟨h,by simp,fun a ha b hb=>by
      simp only [List.mem_singleton] at hb
      intro e;rw [e,hb] at ha;exact hk ha⟩
theorem getH_mem {H:Hs} (h:(H.map Prod.fst).Nodup) {x:HKey × Int} (hx:x∈H):DX x.1 H=x.2:=by
  induction H with
  | nil=>cases hx
  | cons y r ih=>
    rw [List.map_cons,List.nodup_cons] at h;simp only [DX];rcases List.mem_cons.1 hx with rfl | hx
    · rw [if_pos rfl]
    · rw [if_neg (fun e=>h.1 (by rw [e];exact List.mem_map_of_mem hx)),ih h.2 hx]
theorem mem_getH {H:Hs} {k:HKey} (h:DX k H≠0):(k,DX k H)∈H:=by
  induction H with
  | nil=>exact absurd rfl h
  | cons y r ih=>
    simp only [DX] at h ⊢
    by_cases e:y.1=k
    · rw [if_pos e];subst e;exact List.mem_cons_self
    · rw [if_neg e] at h ⊢;exact List.mem_cons_of_mem _ (ih h)
theorem falls_iff {h g:Hs} (hg:(g.map Prod.fst).Nodup):falls h g=true↔∃ k,DX k g<0∧0≤DX k h:=by
  unfold falls;simp only [List.any_eq_true,Bool.and_eq_true,decide_eq_true_eq]
  constructor
  · rintro ⟨x,hx,h1,h2⟩;exact ⟨x.1,by rw [getH_mem hg hx];exact h1,h2⟩
  · rintro ⟨k,h1,h2⟩;exact ⟨_,mem_getH (by omega),h1,h2⟩
def Negs (ks:List HKey) (H:Hs):Prop:=∀ k,k∈ks↔DX k H<0
end Go.Sh
namespace Go.Sl
open Go Go.Sh
section
variable {P:Program} {N:Nat} {ops:Array Oper} {i:Nat} {l:Sl} {I:Imm} {M:Seg} {ty:TypeId} {gd:Option (Nat × Bool)} {K:Sl→Imm→Seg→Prop} {d:Nat}
theorem stp_putH {x y u : Operand} {T kt et r cl : Nat} {es : Array MapEntry} {H : Hs} {k : HKey} {v : Int} (n : Nat) (hop : FM ops N i = some (none, .mapUpdate T x y u, ty, gd)) (hg : FJ ops l gd = some true)
    (hT:SP P T=some (kt,et)) (hK:KeyOk P kt NQ) (hx:CC l x=some (.map (some r))) (hy:CC l y=some (NQ k)) (hu:CC l u=some (.int .i64 v)) (hn:M[n]?=some (r,Obj.map es cl)) (hb:MapH es cl H)
    (h:∀ es' cl',MapH es' cl' (KX k v H)→K l I (M.set n (r,Obj.map es' cl'))):Stp P N ops i l I M K:=
  OL n hop hg hT hK hx hy hu hn hb.1 fun es' cl' h'=>h es' cl' ⟨upd_intV k v H▸h',putH_once hb.2⟩
theorem KT {x y : Operand} {T kt et r cl : Nat} {es : Array MapEntry} {H : Hs} {k : HKey} (n : Nat) (hop : FM ops N i = some (some d, .mapEntry T x y, ty, gd)) (hg : FJ ops l gd = some true)
    (hT:SP P T=some (kt,et)) (hK:KeyOk P kt NQ) (hx:CC l x=some (.map (some r))) (hy:CC l y=some (NQ k)) (hz:IW P et=some (.int .i64 0)) (hn:M[n]?=some (r,Obj.map es cl)) (hb:MapH es cl H)
    (h:∀ es' cl' (st:Nat),EntH es' cl' H k st→K ((d,.tuple #[.int .i64 (DX k H),.int .i64 (st:Int)])::l) I (M.set n (r,Obj.map es' cl'))):Stp P N ops i l I M K:=
  stp_mapEntry n hop hg hT hK hx hy hz hn hb.1 fun es' cl' st h1 h2=>by
    rw [CH];exact h es' cl' st ⟨h1,h2,hb.2⟩
theorem IV {x y u : Operand} {T r cl st : Nat} {es : Array MapEntry} {H : Hs} {k : HKey} {v : Int} (n : Nat) (hop : FM ops N i = some (none, .entryStore T x y u, ty, gd)) (hg : FJ ops l gd = some true)
    (hx:CC l x=some (.map (some r))) (hy:CC l y=some (.int .i64 (st:Int))) (hu:CC l u=some (.int .i64 v)) (hn:M[n]?=some (r,Obj.map es cl)) (hb:EntH es cl H k st)
    (h:∀ es',MapH es' cl (KX k v H)→K l I (M.set n (r,Obj.map es' cl))):Stp P N ops i l I M K:=
  stp_entryStore (k:=k) n hop hg hx hy hu hn hb.1 hb.2.1 fun es' h'=>h es' ⟨by rw [upd_ent,upd_intV] at h';exact h',putH_once hb.2.2⟩
theorem map_cut {α β:Type} {f:α→β} {l:List α} {A B:List β} {y:β} (h:l.map f=A++y::B):∃ A' y' B',l=A'++y'::B'∧A=A'.map f∧y=f y'∧B=B'.map f:=by
  obtain ⟨A',R,rfl,h1,h2⟩:=List.map_eq_append_iff.1 h;obtain ⟨y',B',rfl,h3,h4⟩:=List.map_eq_cons_iff.1 h2;exact ⟨A',y',B',rfl,h1.symm,h3.symm,h4.symm⟩
theorem stp_nextH {x : Operand} {r cl b : Nat} {es : Array MapEntry} {seen : Array Nat} {todo : Hs} (n : Nat) (hop : FM ops N i = some (some d, .next x false, ty, gd)) (hg : FJ ops l gd = some true)
    (hx:CC l x=some (.pointer (some ⟨b,0,none⟩))) (hn:M[n]?=some (b,Obj.mapIter (some r) cl seen cl)) (hm:Holds I M r (.map es cl)) (hb:Borns es cl) (hl:Left NQ es seen (intV todo))
    (h0:todo=[]→K ((d,.tuple #[.bool false])::l) I M)
    (h1:∀ A (y:HKey × Int) B seen',todo=A++y::B→Left NQ es seen' (intV (A++B))→AtEntry NQ es seen' (y.1,.int .i64 y.2)→K ((d,.tuple #[.bool true,NQ y.1,.int .i64 y.2])::l) I (M.set n (b,Obj.mapIter (some r) cl seen' cl))):Stp P N ops i l I M K:=
  stp_next n hop hg hx hn hm hb hl (fun h=>h0 (by simpa [intV] using h)) fun A y B seen' e hl' ha=>by
    obtain ⟨A',y',B',rfl,rfl,rfl,rfl⟩:=map_cut (show todo.map _=A++y::B from e);exact h1 A' y' B' seen' rfl (by simpa [intV] using hl') ha
theorem stp_nextK {x : Operand} {r cl b : Nat} {es : Array MapEntry} {seen : Array Nat} {todo : List HKey} (n : Nat) (hop : FM ops N i = some (some d, .next x false, ty, gd)) (hg : FJ ops l gd = some true)
    (hx:CC l x=some (.pointer (some ⟨b,0,none⟩))) (hn:M[n]?=some (b,Obj.mapIter (some r) cl seen cl)) (hm:Holds I M r (.map es cl)) (hb:Borns es cl) (hl:Left NQ es seen (OD todo))
    (h0:todo=[]→K ((d,.tuple #[.bool false])::l) I M)
    (h1:∀ A (y:HKey) B seen',todo=A++y::B→Left NQ es seen' (OD (A++B))→AtEntry NQ es seen' (y,.bool true)→K ((d,.tuple #[.bool true,NQ y,.bool true])::l) I (M.set n (b,Obj.mapIter (some r) cl seen' cl))):Stp P N ops i l I M K:=
  stp_next n hop hg hx hn hm hb hl (fun h=>h0 (by simpa [OD] using h)) fun A y B seen' e hl' ha=>by
    obtain ⟨A',y',B',rfl,rfl,rfl,rfl⟩:=map_cut (show todo.map _=A++y::B from e);exact h1 A' y' B' seen' rfl (by simpa [OD] using hl') ha
theorem stp_setTrue {x y u : Operand} {T kt et r cl : Nat} {es : Array MapEntry} {ks : List HKey} {k : HKey} (n : Nat) (hop : FM ops N i = some (none, .mapUpdate T x y u, ty, gd)) (hg : FJ ops l gd = some true)
    (hT:SP P T=some (kt,et)) (hK:KeyOk P kt NQ) (hx:CC l x=some (.map (some r))) (hy:CC l y=some (NQ k)) (hu:CC l u=some (.bool true)) (hn:M[n]?=some (r,Obj.map es cl)) (hb:MapB NQ es cl (OD ks))
    (h:∀ es' cl',MapB NQ es' cl' (OD (if k∈ks then ks else ks++[k]))→K l I (M.set n (r,Obj.map es' cl'))):Stp P N ops i l I M K:=
  OL n hop hg hT hK hx hy hu hn hb fun es' cl' h'=>h es' cl' (by rw [upd_trues] at h';exact h')
end
end Go.Sl
namespace Go.Sh
open Go Go.Sl
def IsBook (T:TypeId) (I:Imm) (b:Nat) (v1 v2 v3:Value) (r:Nat) (L:Lin):Prop:=
  I.blk b=some (Obj.cells #[.int .i64 L.places,.int .i64 L.sorts,v1,v2,v3,.map (some r)] T (0,0))∧IsRows I v1 L.start∧JO I v2 L.keeps∧HI I v3 L.slips
theorem IsBook.mono {T:TypeId} {I J:Imm} {b:Nat} {v1 v2 v3:Value} {r:Nat} {L:Lin} (h:IsBook T I b v1 v2 v3 r L) (le:I.le J):IsBook T J b v1 v2 v3 r L:=
  ⟨le.blk _ _ h.1,h.2.1.mono le,h.2.2.1.mono le,h.2.2.2.mono le⟩
def NegP (ks:List HKey) (dn:Hs):Prop:=∀ k,k∈ks↔∃ x∈dn,x.1=k∧x.2<0
section
variable {ks:List HKey} {dn A B todo H:Hs} {y:HKey × Int}
theorem NegP.nil:NegP [] []:=fun k=>by simp
theorem NegP.skip (h:NegP ks dn) (hy:¬ y.2<0):NegP ks (dn++[y]):=fun k=>by
  rw [h k]
  constructor
  · rintro ⟨x,hx,h1⟩;exact ⟨x,by simp [hx],h1⟩
  · rintro ⟨x,hx,h1,h2⟩
    rcases List.mem_append.1 hx with hx | hx
    · exact ⟨x,hx,h1,h2⟩
    · simp only [List.mem_singleton] at hx;subst hx;exact absurd h2 hy
theorem NegP.add (h:NegP ks dn) (hy:y.2<0):NegP (if y.1∈ks then ks else ks++[y.1]) (dn++[y]):=fun k=>by
  have e:k∈(if y.1∈ks then ks else ks++[y.1])↔k∈ks∨k=y.1:=by
    split
    · rename_i hk;exact ⟨.inl,fun q=>q.elim id (fun e=>e▸hk)⟩
    · simp
  rw [e,h k]
  constructor
  · rintro (⟨x,hx,h1⟩ | rfl)
    · exact ⟨x,by simp [hx],h1⟩
    · exact ⟨y,by simp,rfl,hy⟩
  · rintro ⟨x,hx,h1,h2⟩
    rcases List.mem_append.1 hx with hx | hx
    · exact .inl ⟨x,hx,h1,h2⟩
    · simp only [List.mem_singleton] at hx;subst hx;exact .inr h1.symm
theorem perm_took (h:(dn++todo).Perm H) (e:todo=A++y::B):((dn++[y])++(A++B)).Perm H:=by
  subst e;refine List.Perm.trans ?_ h;rw [List.append_assoc];exact List.Perm.append_left _ (List.perm_middle (l₁:=A)).symm
theorem took_len (e:todo=A++y::B):(A++B).length<todo.length:=by subst e;simp
theorem NegP.done (h:NegP ks dn) (hp:(dn++todo).Perm H) (he:todo=[]) (hn:(H.map Prod.fst).Nodup):Negs ks H:=fun k=>by
  subst he;rw [List.append_nil] at hp;rw [h k]
  constructor
  · rintro ⟨x,hx,rfl,h2⟩;rw [getH_mem hn (hp.mem_iff.1 hx)];exact h2
  · intro hk;exact ⟨_,hp.mem_iff.2 (mem_getH (by omega)),rfl,hk⟩
end
end Go.Sh
namespace Go.Sl
open Go
def IterP {α:Type} (P:Program) (gf:FuncId) (cv:List Value) (enc:α→List Value) (seq:List α) (R:List α→Imm→Seg→Prop) (I0:Imm):Prop:=
  ∀ (L:Nat) (Cl Sp:List α→Imm→Seg→Prop),(∀ xs I J M,I.le J→Cl xs I M→Cl xs J M) →
    (∀ xs x I Mr M,(xs++[x]) <+: seq→I0.le I→R (xs++[x]) I Mr→Cl xs I M→Yt P L (enc x).toArray I (Mr++M) (fun v I' M'=>(v=.bool true∧∃ Mr' M2,M'=Mr'++M2∧R (xs++[x]) I' Mr'∧Cl (xs++[x]) I' M2)∨(v=.bool false∧Sp (xs++[x]) I' M'))) →
    ∀ I Mr M,I0.le I→R [] I Mr→Cl [] I M→Ct P gf (.func (.yield L) #[] #[]::cv).toArray I (Mr++M) (fun _ I' M'=>(∃ Mr' M2,M'=Mr'++M2∧R seq I' Mr'∧Cl seq I' M2)∨(∃ xs,Sp xs I' M'))
section
variable {ρ:Option Nat} {P:Program} {N:Nat} {ops:Array Oper} {i:Nat} {l:Sl} {I:Imm} {R M:Seg} {ty:TypeId} {gd:Option (Nat × Bool)} {K:Sl→Imm→Seg→Prop} {Q:Exit→Act→World→Prop} {ds:List Deferred}
theorem II {α : Type} {c : Code} {g : Operand} {ps : Array Tmp} {assign body : Code} {gf : FuncId} {cv : List Value} {enc : α → List Value} {seq : List α} {R : List α → Imm → Seg → Prop} {Mr M0 F0 : Seg}
    (Cl:List α→Imm→Seg→Prop) (Sp:Code→List α→Imm→Seg→Prop) (sl:α→Nat→Sl) (mm:α→Nat→Seg)
    (hc:c=.rangeFunc g ps assign body) (hg:CC l g=some (.func (.func gf) #[] cv.toArray)) (hcall:ET P gf=true) (hps:∀ x,(enc x).length=ps.size) (hpN:ps.all (fun t=>Nat.blt t N)=true)
    (it:IterP P gf cv enc seq R I)
    (hmono:∀ xs I J M,I.le J→Cl xs I M→Cl xs J M)
    (hM:M.Perm (Mr++(M0++F0))) (hr:R [] I Mr) (h0:Cl [] I M0)
    (hassign:∀ L x I1 M1,Run (ρ:=some L) P N assign (Exit.then (fun a w=>∃ k,Slots N (sl x k) a∧a.defers=[]∧St I1 (mm x k++M1) w) (fun _ _ _=>False)) [] (putAll (ps.toList.zip (enc x)) l) I1 M1)
    (hbody:∀ L x k xs I1 Mr1 M1 F1,(xs++[x]) <+: seq→I.le I1→R (xs++[x]) I1 Mr1→Cl xs I1 M1 →
      Run (ρ:=some L) P N body (RoundQ I1 (fun o I' M'=>match o with | none=>∃ Mr' M2,M'=Mr'++M2∧R (xs++[x]) I' Mr'∧Cl (xs++[x]) I' M2 | some c=>Sp c (xs++[x]) I' M') F1) [] (sl x k) I1 (mm x k++(Mr1++(M1++F1))))
    (hdone:∀ D I' Mr' M',I.le I'→R seq I' Mr'→Cl seq I' M'→Pst N Q .normal (mark D::ds) l I' ((D,.deferred (some []))::(Mr'++(M'++F0))))
    (hstop:∀ D c xs I' M',I.le I'→Sp c xs I' M'→Run (ρ:=none) P N c Q (mark D::ds) l I' ((D,.deferred (some []))::(M'++F0))) :
    Run (ρ:=none) P N c Q ds l I M:=by
  subst hc;intro a w hS hD hW;refine wpIn_rangeFunc fun fn _=>?_
  obtain ⟨rec,hrec⟩:∃ rec:LoopState→Option Code→Loop,rec=fun st pe=>{ state:=st,pending:=pe,fn,tmps:=a.tmps,params:=ps,assign,body,defers:=w.heap.size }:=⟨_,rfl⟩
  have hW2:St I ((w.heap.size+1,.loop (rec .ready none))::(w.heap.size,.deferred (some []))::(Mr++(M0++F0))) ((w.alloc (.deferred (some []))).alloc (.loop (rec .ready none))):=by
    have h1:=(hW.perm hM).new (.deferred (some []));have h2:=h1.new (.loop (rec .ready none));have e:(w.heap.push (Obj.deferred (some []))).size=w.heap.size+1:=by simp
    rw [e] at h2;exact h2
  generalize hw1:((w.alloc (.deferred (some []))).alloc (.loop (rec .ready none)))=w1 at hW2
  refine ⟨w.heap.size+1,[mark w.heap.size],w1,{ target:=.fn (.func gf) cv.toArray,args:=#[.func (.yield (w.heap.size+1)) #[] #[]] },w1,gf,(.func (.yield (w.heap.size+1)) #[] #[]::cv).toArray,w1,?_,?_,fun _ _=>trivial,?_,fun h=>by simp [fen,Fence.wide] at h,?_⟩
  · rw [← hw1,hrec];exact run_enterLoop_outer _ _ _ _ _
  · unfold resolve
    simp only [eval_of hS hg,Deferred.ofValue];simp [Act.eval,pure,Sem.run]
  · show (callFunc gf (#[Value.func (.yield (w.heap.size+1)) #[] #[]]++cv.toArray)).run P w1=_
    rw [KE hcall];simp
  · refine callsIn_fen.2 ?_
    clear hw1 hW
    generalize w.heap.size+1=L at hW2 hrec ⊢
    generalize w.heap.size=D at hW2 hrec ⊢
    have hit:=it L (fun xs I M=>∃ M0,M=(L,.loop (rec .ready none))::(D,.deferred (some []))::M0∧Cl xs I M0)
      (fun xs I M=>∃ c M0,M=(L,.loop (rec .done (some c)))::(D,.deferred (some []))::M0∧Sp c xs I M0)
      (fun xs I J M le ⟨M0,e,h⟩=>⟨M0,e,hmono xs I J M0 le h⟩) ?_ I Mr ((L,.loop (rec .ready none))::(D,.deferred (some []))::M0) (Imm.le.refl I) hr ⟨M0,rfl,h0⟩
    · refine (hit F0 w1 (hW2.perm ?_)).mono ?_
      · rw [List.append_assoc]
        exact ((List.perm_middle (l₁:=Mr)).trans (.cons _ (List.perm_middle (l₁:=Mr)))).symm
      · rintro e w' ⟨v,I',M',rfl,hle,hp,st⟩
        rcases hp with ⟨Mr',M2,rfl,hR,M3,rfl,hcl⟩ | ⟨xs,c,M3,rfl,hsp⟩
        · have st2 := st.perm (show ((Mr' ++ ((L, Obj.loop (rec .ready none)) :: (D, .deferred (some [])) :: M3)) ++ F0).Perm ((L, Obj.loop (rec .ready none)) :: (D, .deferred (some [])) :: (Mr' ++ (M3 ++ F0))) by
            rw [List.append_assoc]
            exact (List.perm_middle (l₁:=Mr')).trans (.cons _ (List.perm_middle (l₁:=Mr'))))
          have hl:=st2.mem _ _ List.mem_cons_self;refine ⟨none,_,by have:=run_endLoop (P:=P) hl (by rw [hrec];simp);rw [hrec] at this;exact this,?_⟩;refine hdone D I' Mr' M3 hle hR hcl _ _ ⟨hS.size,hS.get⟩ (by show [mark D]++a.defers=_;rw [hD];rfl) ?_;exact (St.putObj st2).drop
        · have hl:=st.mem (L) (.loop (rec .done (some c))) (by simp)
          refine ⟨some c,_,by have:=run_endLoop (P:=P) hl (by rw [hrec];simp);rw [hrec] at this;exact this,?_⟩;refine hstop D c xs I' M3 hle hsp _ _ ⟨hS.size,hS.get⟩ (by show [mark D]++a.defers=_;rw [hD];rfl) ?_;exact (St.putObj (M:=(D,Obj.deferred (some []))::(M3++F0)) st).drop
    · rintro xs x I1 Mr1 M1' hpre hle hR ⟨M1,rfl,hcl⟩ F1 w2 st
      have hl:=st.mem L (.loop (rec .ready none)) (by simp);have hy:=run_yield (P:=P) (args:=(enc x).toArray) hl (by rw [hrec];simpa using hps x);rw [hrec] at hy;refine ⟨_,_,assign,body,hy,roundIn_of_wpIn (F:=fen none) trivial ?_⟩;have hfold:((ps.zip (enc x).toArray).foldl (fun tmps (t,a)=>tmps.setIfInBounds t a) a.tmps)=(ps.toList.zip (enc x)).foldl (fun t (x:Tmp × Value)=>t.setIfInBounds x.1 x.2) a.tmps:=by
        rw [← Array.foldl_toList];simp
      simp only;rw [hfold];refine wpIn_mono (hassign L x I1 _ _ w2 (slots_fold (ps.toList.zip (enc x)) l a.tmps ⟨hS.size,hS.get⟩ ?_) rfl st) ?_
      · intro y hy'
        have:=(List.of_mem_zip (show (y.1,y.2)∈ps.toList.zip (enc x) from hy')).1;have h3:=Array.all_eq_true'.1 hpN y.1 (by simpa using this);exact Nat.le_of_ble_eq_true h3
      · rintro e a1 w3 hq
        cases e with
        | normal=>
          obtain ⟨k,hS3,hD3,st3⟩:=hq;have st4:St I1 ((L,.loop (rec .ready none))::(mm x k++(Mr1++(M1++((D,.deferred (some []))::F1))))) w3:=st3.perm ((List.Perm.append_left (mm x k) perm3).trans List.perm_middle);have hl3:=st4.mem L (.loop (rec .ready none)) List.mem_cons_self;refine ⟨_,run_beginRound hl3 (by rw [hrec]),?_⟩;have st5:St I1 (mm x k++(Mr1++(M1++((L,.loop { rec .ready none with state:=.busy })::(D,.deferred (some []))::F1)))) (w3.putObj L (.loop { rec .ready none with state:=.busy })):=by
            refine (St.putObj st4).perm ?_;refine (List.perm_middle (l₁:=mm x k)).symm.trans (List.Perm.append_left (mm x k) ?_);have:=(perm3 (A:=Mr1) (B:=M1) (C:=F1) (x:=(L,Obj.loop { rec .ready none with state:=.busy })) (y:=(D,Obj.deferred (some [])))).symm;refine this.trans ?_;rw [List.append_assoc];refine List.Perm.append_left Mr1 ?_;show ((L,Obj.loop { rec .ready none with state:=.busy })::(D,.deferred (some []))::(M1++F1)).Perm _;exact ((List.perm_middle (l₁:=M1)).trans (.cons _ (List.perm_middle (l₁:=M1)))).symm
          refine wpIn_mono (hbody L x k xs I1 Mr1 M1 _ hpre hle hR hcl a1 _ hS3 hD3 st5) ?_
          have fin : ∀ (jump : Option Code) (I' : Imm) (M' : Seg) (w6 : World), St I' (M' ++ ((L, .loop { rec .ready none with state := .busy }) :: (D, .deferred (some [])) :: F1)) w6 →
              (Instr.endRound L jump).run P w6=.ok (.bool jump.isNone) (w6.putObj L (.loop (rec (if jump.isNone then .ready else .done) jump))) ∧
              St I' ((L,.loop (rec (if jump.isNone then .ready else .done) jump))::(M'++((D,.deferred (some []))::F1))) (w6.putObj L (.loop (rec (if jump.isNone then .ready else .done) jump))):=fun jump I' M' w6 st6=>by
            have st7:=st6.perm perm4;have hl7:=st7.mem _ _ List.mem_cons_self;have:=run_endRound (P:=P) jump hl7;rw [hrec] at this ⊢;exact ⟨this,by rw [hrec] at st7;exact St.putObj st7⟩
          rintro e a6 w6 hq6
          have stop : ∀ (c : Code), (∃ I' M', I1.le I' ∧ Sp c (xs ++ [x]) I' M' ∧ St I' (M' ++ ((L, .loop { rec .ready none with state := .busy }) :: (D, .deferred (some [])) :: F1)) w6) →
              ∃ v w',(Instr.endRound L (some c)).run P w6=.ok v w'∧RQ I1 (fun v I' M'=>(v=.bool true∧∃ Mr' M2,M'=Mr'++M2∧R (xs++[x]) I' Mr'∧∃ M0,M2=(L,.loop (rec .ready none))::(D,.deferred (some []))::M0∧Cl (xs++[x]) I' M0) ∨
                (v=.bool false∧∃ c M0,M'=(L,.loop (rec .done (some c)))::(D,.deferred (some []))::M0∧Sp c (xs++[x]) I' M0)) F1 (.returned v) w':=by
            rintro c ⟨I',M',hle',hp,st6⟩
            obtain ⟨h1,h2⟩:=fin (some c) I' M' w6 st6;exact ⟨_,_,h1,_,I',_,rfl,hle',.inr ⟨rfl,c,M',rfl,hp⟩,h2.perm (.cons _ List.perm_middle)⟩
          cases e with
          | normal=>
            obtain ⟨I',M',hle',⟨Mr',M2,rfl,hR',hcl'⟩,st6⟩:=hq6;obtain ⟨h1,h2⟩:=fin none I' _ w6 st6;refine ⟨_,_,h1,_,I',_,rfl,hle',.inl ⟨rfl,Mr',_,rfl,hR',M2,rfl,hcl'⟩,h2.perm ?_⟩;rw [List.append_assoc];exact perm3.symm
          | ret=>exact stop .ret hq6
          | exit id=>exact stop (.exit id) hq6
          | goto t=>exact stop (.goto t) hq6
          | panic ch=>exact hq6.elim
          | outgrown=>exact hq6.elim
        | exit id=>exact hq.elim
        | goto t=>exact hq.elim
        | ret=>exact hq.elim
        | panic ch=>exact hq.elim
        | outgrown=>exact hq.elim
end
section
variable {P:Program} {N:Nat} {ops:Array Oper} {i:Nat} {l:Sl} {I:Imm} {M:Seg} {ty:TypeId} {gd:Option (Nat × Bool)} {K:Sl→Imm→Seg→Prop}
theorem call_runB {f : Operand} {fid : FuncId} {args : Array Operand} {tys : Array TypeId} {fs vals cv : List Value} {ρ : Operand → Value} {w : World} (hf : ρ f = .func (.func fid) fs.toArray cv.toArray) (hvals : args.toList.map ρ = vals) (hc : ET P fid = true) :
    (ML ρ (.call { callee:=.value f,args,argTypes:=tys }) ty).run P w=.ok (.enter fid (fs++vals++cv).toArray) w:=by
  have e:args.map ρ=vals.toArray:=by apply Array.ext';simp [hvals]
  show (do let d ← resolve ρ { callee:=.value f,args,argTypes:=tys } ty;invoke d.target d.args:Sem Next).run P w=_;unfold resolve;simp only [e,hf,Deferred.ofValue];show (callFunc fid ((fs.toArray++vals.toArray)++cv.toArray)).run P w=_;rw [KE hc];simp
theorem stp_callB {d : Option Tmp} {f : Operand} {fid : FuncId} {args : Array Operand} {tys : Array TypeId} {fs vals cv : List Value} {pre F : Seg} {post : Value → Imm → Seg → Prop} {argv : Array Value}
    (hop:FM ops N i=some (d,.call { callee:=.value f,args,argTypes:=tys },ty,gd)) (hg:FJ ops l gd=some true) (hf:CC l f=some (.func (.func fid) fs.toArray cv.toArray)) (hv:RJ l args.toList=some vals)
    (hc:ET P fid=true) (ha:(fs++vals++cv).toArray=argv) (ct:Ct P fid argv I pre post) (hM:M.Perm (pre++F))
    (h:∀ v I' M',I.le I'→post v I' M'→K (ups d v l) I' (M'++F)):Stp P N ops i l I M K:=by
  obtain ⟨o,ho,rfl,he,rfl,rfl,hN,hs⟩:=IP hop;obtain ⟨h1,h2⟩:=JX hv;refine ⟨o,ho,hN,hs,hg,?_,fun w st=>?_⟩
  · rw [he]
    intro x hx;simp only [Op.operands,Call.operands] at hx;rcases Array.mem_append.1 hx with hx | hx
    · simp at hx;subst hx;exact DZ hf
    · exact h1 x (by simpa using hx)
  · rw [JQ,he,call_runB (BA hf) h2 hc,ha]
    refine (ct F w (st.perm hM)).mono fun e w' ⟨v,I',M',hv',hle,hp,st'⟩=>?_
    exact ⟨v,hv',I',M'++F,hle,st',h v I' M' hle hp⟩
end
end Go.Sl
namespace Go.Sh
open Go Go.Sl
def doFn (g:Int→FuncId) (b:Nat) (k:Int):Value:=.func (.func (g k)) #[.pointer (some ⟨b,0,none⟩)] #[]
def fnTab (g:Int→FuncId) (b:Nat):List (Int × Value):=[(1,doFn g b 1),(2,doFn g b 2),(3,doFn g b 3),(4,doFn g b 4),(5,doFn g b 5),(6,doFn g b 6)]
theorem getKv_fn {g:Int→FuncId} {b:Nat} {k:Int} (h1:1≤k) (h2:k≤6):(LI k (fnTab g b)).getD .nilFunc=doFn g b k:=by
  have:k=1∨k=2∨k=3∨k=4∨k=5∨k=6:=by omega
  rcases this with rfl | rfl | rfl | rfl | rfl | rfl <;> rfl
section
variable {s:Slip} {H:Hs}
theorem doSlip_1 (e:s.kind=1):doSlip s H=QU ⟨s.to,s.sort,s.soil⟩ s.amt (QU ⟨s.place,s.sort,s.soil⟩ (-s.amt) H):=by unfold doSlip;rw [if_pos e]
theorem doSlip_2 (e:s.kind=2):doSlip s H=QU ⟨s.place,s.sort,true⟩ s.amt (QU ⟨s.place,s.sort,false⟩ (-s.amt) H):=by unfold doSlip;rw [if_neg (by omega),if_pos e]
theorem doSlip_3 (e:s.kind=3):doSlip s H=QU ⟨s.place,s.sort,false⟩ s.amt (QU ⟨s.place,s.sort,true⟩ (-s.amt) H):=by unfold doSlip;rw [if_neg (by omega),if_neg (by omega),if_pos e]
theorem doSlip_4 (e:s.kind=4):doSlip s H=KX ⟨s.place,s.sort,s.soil⟩ s.amt H:=by unfold doSlip;rw [if_neg (by omega),if_neg (by omega),if_neg (by omega),if_pos e];rfl
theorem doSlip_5 (e:s.kind=5):doSlip s H=QU ⟨s.place,s.sort,false⟩ s.amt H:=by unfold doSlip;rw [if_neg (by omega),if_neg (by omega),if_neg (by omega),if_neg (by omega),if_pos e]
theorem doSlip_6 (e:s.kind=6):doSlip s H=QU ⟨s.place,s.sort,true⟩ (-s.amt) H:=by unfold doSlip;rw [if_neg (by omega),if_neg (by omega),if_neg (by omega),if_neg (by omega),if_neg (by omega)]
end
structure GoodS (l:List Slip):Prop where
  len:l.length<20
  ok:∀ s∈l,(1≤s.kind∧s.kind≤6)∧(0≤s.amt∧s.amt≤50)∧RX s
theorem GoodS.sub {l l':List Slip} (h:GoodS l) (hl:l'.length≤l.length) (hm:∀ x∈l',x∈l):GoodS l':=⟨Nat.lt_of_le_of_lt hl h.len,fun s hs=>h.ok s (hm s hs)⟩
theorem GoodS.perm {l l':List Slip} (h:GoodS l) (p:l'.Perm l):GoodS l':=h.sub (Nat.le_of_eq p.length_eq) fun x hx=>p.subset hx
theorem GoodS.sorted {l:List Slip} (h:GoodS l):GoodS (AH AD l):=h.perm (HD l)
theorem GoodS.small {l:List Slip} (h:GoodS l):∀ x∈l,RX x:=fun x hx=>(h.ok x hx).2.2
section
variable {S:List Slip} {H:Hs} {k:Nat}
theorem HW:∀ {S:List Slip} {H:Hs},(evs H S).length=S.length:=by
  intro S
  induction S with
  | nil=>intro H;rfl
  | cons s r ih=>intro H;simp only [evs,List.length_cons,ih]
theorem evs_take:∀ {S:List Slip} {H:Hs} {k:Nat},k<S.length→(evs H S).take (k+1)=(evs H S).take k++[evOf (aft H (S.take k)) (S.getD k AB)]:=by
  intro S
  induction S with
  | nil=>intro H k h;simp at h
  | cons s r ih=>
    intro H k h;cases k with
    | zero=>rfl
    | succ k=>
      have:=ih (H:=doSlip s H) (k:=k) (by simpa using h);simp only [evs,List.take_succ_cons,this,List.cons_append];rfl
theorem aft_take (h:k<S.length):aft H (S.take (k+1))=doSlip (S.getD k AB) (aft H (S.take k)):=by
  rw [CN (d:=AB) h];unfold aft;rw [List.foldl_append];rfl
theorem aft_within {B:Int} (hB:0≤B) (hg:∀ s∈S,0≤s.amt∧s.amt≤50):∀ {H:Hs},Within B H→Within (B+100*S.length) (aft H S):=by
  induction S generalizing B with
  | nil=>intro H h;simpa [aft] using h
  | cons s r ih=>
    intro H h;have h1:=hg s (by simp);have:=ih (B:=B+100) (by omega) (fun x hx=>hg x (by simp [hx])) (h.doSlip h1.1 h1.2 hB);rw [show B+100*((s::r).length:Int)=B+100+100*(r.length:Int) by rw [List.length_cons];omega];exact this
theorem Within.mono {B B':Int} {H:Hs} (h:Within B H) (hb:B≤B'):Within B' H:=fun k=>by have:=h k;omega
theorem GoodS.within (hg:GoodS S) (h:Within 1000 H) (k:Nat):Within 100000 (aft H (S.take k)):=by
  have hl:=hg.len;refine (aft_within (by omega) (fun s hs=>(hg.ok s (List.mem_of_mem_take hs)).2.1) h).mono ?_;have:(S.take k).length≤S.length:=by rw [List.length_take];omega
  omega
end
theorem below_of {ks0 ks1:List HKey} {h g:Hs} {dn td:List HKey} (h0:Negs ks0 h) (h1:Negs ks1 g) (hp:(dn++td).Perm ks1) (ht:td=[]) (hn:(g.map Prod.fst).Nodup):(dn.any fun k=>!decide (k∈ks0))=falls h g:=by
  subst ht;rw [List.append_nil] at hp;rw [Bool.eq_iff_iff,falls_iff hn];simp only [List.any_eq_true,Bool.not_eq_true',decide_eq_false_iff_not]
  constructor
  · rintro ⟨k,hk,hk2⟩
    exact ⟨k,(h1 k).1 (hp.mem_iff.1 hk),Int.not_lt.1 fun hlt=>hk2 ((h0 k).2 hlt)⟩
  · rintro ⟨k,hk,hk2⟩
    exact ⟨k,hp.mem_iff.2 ((h1 k).2 hk),fun hm=>by have:=(h0 k).1 hm;omega⟩
theorem any_snoc {α:Type} {p:α→Bool} {l:List α} {x:α}:(l++[x]).any p=(l.any p||p x):=by simp
def EvR (r:Nat) (H:Hs) (S:List Slip) (n:Nat) (M:Seg):Prop:=∃ es cl,M=[(r,Obj.map es cl)]∧MapH es cl (aft H (S.take n))
def encEv (e:Event):List Value:=[.agg #[.int .i64 e.slip.num,.int .i64 e.slip.hour,.int .i64 e.slip.kind,.int .i64 e.slip.place,.int .i64 e.slip.to,.int .i64 e.slip.sort,.bool e.slip.soil,.int .i64 e.slip.amt,.int .i64 e.gap,.bool e.below]]
theorem evOf_mk {h:Hs} {s:Slip} {g:Int} {b:Bool} (h1:(evOf h s).gap=g) (h2:falls h (doSlip s h)=b):evOf h s=⟨s,g,b⟩:=by subst h1;subst h2;rfl
theorem gap_t {h:Hs} {s:Slip} (e:s.kind=4):(evOf h s).gap=s.amt-DX ⟨s.place,s.sort,s.soil⟩ h:=if_pos e
theorem gap_f {h:Hs} {s:Slip} (e:¬ s.kind=4):(evOf h s).gap=0:=if_neg e
theorem permK_took {α:Type} {dn todo A B H:List α} {y:α} (h:(dn++todo).Perm H) (e:todo=A++y::B):((dn++[y])++(A++B)).Perm H:=by
  subst e;refine List.Perm.trans ?_ h;rw [List.append_assoc];exact List.Perm.append_left _ (List.perm_middle (l₁:=A)).symm
theorem tookK_len {α:Type} {todo A B:List α} {y:α} (e:todo=A++y::B):(A++B).length<todo.length:=by subst e;simp
theorem fnTab_of {g:Int→FuncId} {b:Nat} {es:Array MapEntry} (h:MapIs encI es (upd (6:Int) (doFn g b 6) (upd (5:Int) (doFn g b 5) (upd (4:Int) (doFn g b 4) (upd (3:Int) (doFn g b 3) (upd (2:Int) (doFn g b 2) (upd (1:Int) (doFn g b 1) []))))))):MapIs encI es (fnTab g b):=by
  have e:(upd (6:Int) (doFn g b 6) (upd (5:Int) (doFn g b 5) (upd (4:Int) (doFn g b 4) (upd (3:Int) (doFn g b 3) (upd (2:Int) (doFn g b 2) (upd (1:Int) (doFn g b 1) []))))))=fnTab g b:=by simp [upd,fnTab]
  rw [e] at h;exact h
end Go.Sh
namespace Go.Sl
open Go
theorem Own.cutHi {α:Type} {E sz:Nat} {cell:α→Nat→Value} {a:Option Addr} {n c k:Nat} {xs:List α} {Ms:Seg} (h:Own E sz cell (.slice a n c) xs Ms) (hk:k≤xs.length):Own E sz cell (.slice a k c) (xs.take k) Ms:=by
  rcases h with ⟨hv,rfl,rfl⟩ | ⟨b,c',sp,hv,hc,rfl,hlen⟩
  · simp only [Value.slice.injEq] at hv
    obtain ⟨rfl,rfl,rfl⟩:=hv;simp at hk;subst hk;exact .inl ⟨rfl,rfl,rfl⟩
  · simp only [Value.slice.injEq] at hv
    obtain ⟨rfl,rfl,rfl⟩:=hv;refine .inr ⟨b,c,CS sz cell (xs.drop k)++sp,by rw [List.length_take,Nat.min_eq_left hk],by rw [List.length_take];omega,?_,?_⟩
    · rw [← List.append_assoc,show CS sz cell (xs.take k)++CS sz cell (xs.drop k)=CS sz cell xs by simp only [CS];rw [← List.flatMap_append,List.take_append_drop]]
    · rw [← List.append_assoc,show CS sz cell (xs.take k)++CS sz cell (xs.drop k)=CS sz cell xs by simp only [CS];rw [← List.flatMap_append,List.take_append_drop],hlen]
theorem Own.cutE {α:Type} {E sz:Nat} {cell:α→Nat→Value} {a:Option Addr} {n c k:Nat} {xs:List α} {Ms:Seg} (h:Own E sz cell (.slice a n c) xs Ms):(Value.slice (if c=0 then a else a.map (·.add (0*sz))) (k-0) (c-0))=.slice a k c:=by
  rcases h with ⟨hv,rfl,rfl⟩ | ⟨b,c',sp,hv,hc,rfl,hlen⟩
  · simp only [Value.slice.injEq] at hv
    obtain ⟨rfl,rfl,rfl⟩:=hv;simp
  · simp only [Value.slice.injEq] at hv
    obtain ⟨rfl,rfl,rfl⟩:=hv;simp [Addr.add]
section
variable {P:Program} {N:Nat} {ops:Array Oper} {i:Nat} {l:Sl} {I:Imm} {M:Seg} {ty:TypeId} {gd:Option (Nat × Bool)} {K:Sl→Imm→Seg→Prop}
theorem stp_builtin' {M0 : Seg} {b : Builtin} {args : Array Operand} {tys : Array TypeId} {vals : List Value} {dst : Option Tmp}
    (hop:FM ops N i=some (dst,.call { callee:=.builtin b,args,argTypes:=tys },ty,gd)) (hg:FJ ops l gd=some true) (hk:∀ x∈args,LO l x) (hvals:args.toList.map (rho l)=vals) (hM:M.Perm M0)
    (h:∀ (cs:Array Bool),wpL P (builtin b tys ty cs vals.toArray) (fun n M'=>∃ v M'',(n=.value v∨(n=.skip∧v=undef))∧M''.Sublist M'∧K (ups dst v l) I M'') I M0):Stp P N ops i l I M K:=
  KA hop hg (by simpa [Op.operands,Call.operands] using hk) hM (by
    have e:args.map (rho l)=vals.toArray:=by
      apply Array.ext'
      simp [hvals]
    show wpL P (do let d ← resolve (rho l) { callee:=.builtin b,args,argTypes:=tys } ty;invoke d.target d.args) _ I M0
    unfold resolve
    simp only [e]
    exact h _)
theorem stp_clearTail {α : Type} {x : Operand} {T E sz : Nat} {cell : α → Nat → Value} {a : Option Addr} {n c k : Nat} {xs : List α} {Ms R : Seg} {z : Value} {dst : Option Tmp}
    (hop:FM ops N i=some (dst,.call { callee:=.builtin .clear,args:=#[x],argTypes:=#[T] },ty,gd)) (hg:FJ ops l gd=some true) (hT:HS P T=some E) (hz:IW P E=some z) (hzs:z.cells.size=sz) (hz1:∀ v∈z.cells.toList,DJ v=true) (hsz:0<sz)
    (own:Own E sz cell (.slice a n c) xs Ms) (hk:k≤n) (hx:CC l x=some (.slice (if c=k then a else a.map (·.add (k*sz))) (n-k) (c-k))) (hM:M.Perm (Ms++R))
    (next:∀ Ms',Own E sz cell (.slice a k c) (xs.take k) Ms'→K (ups dst (.tuple #[]) l) I (Ms'++R)):Stp P N ops i l I M K:=by
  refine stp_builtin' (vals:=[.slice (if c=k then a else a.map (·.add (k*sz))) (n-k) (c-k)]) hop hg (MM hx) (by simp [BA hx]) hM fun cs=>?_
  show wpL P (Builtin.clear_ #[T] ty #[.slice (if c=k then a else a.map (·.add (k*sz))) (n-k) (c-k)] >>= fun x=>pure (Next.value x)) _ I _;refine CY ?_;have hn:n=xs.length:=by obtain ⟨a',c',e,_⟩:=own.shape;cases e;rfl
  have done:∀ Ms',Own E sz cell (.slice a k c) (xs.take k) Ms'→(∃ v M'',(Next.value (.tuple #[])=.value v∨(Next.value (.tuple #[])=Next.skip∧v=undef))∧M''.Sublist (Ms'++R)∧K (ups dst v l) I M''):=fun Ms' h=>⟨_,_,.inl rfl,List.Sublist.refl _,next Ms' h⟩
  unfold Builtin.clear_;show wpL P (underlying T >>= _) _ I _;rw [AE,AL (CT hT)];rcases Nat.eq_zero_or_pos (n-k) with h0 | h0
  · rw [h0]
    have e:xs.take k=xs:=List.take_of_length_le (by omega);have hkn:k=n:=by omega
    cases (if c=k then a else a.map (·.add (k*sz))) with
    | none=>exact done Ms (own.cutHi (by omega))
    | some b=>exact done Ms (own.cutHi (by omega))
  · rcases own with ⟨hv,rfl,rfl⟩ | ⟨b,c',sp,hv,hc,rfl,hlen⟩
    · simp at hn;omega
    · simp only [Value.slice.injEq] at hv
      obtain ⟨rfl,_,rfl⟩:=hv;rw [if_neg (show ¬ c=k by omega)];obtain ⟨m,hm⟩:∃ m,n-k=m+1:=⟨n-k-1,by omega⟩;rw [hm];show wpL P (zeroValue E >>= _) _ I _;rw [AE,DT hz];show wpL P (storeCells (Addr.add ⟨b,0,none⟩ (k*sz)) (Builtin.zeroCells z.cells (m+1)).toList >>= _) _ I _;rw [AE,GJ];have hzl:(Builtin.zeroCells z.cells (m+1)).toList.length=(m+1)*sz:=by simp [Builtin.zeroCells,hzs]
      have hA:(CS sz cell (xs.take k)).length=k*sz:=by rw [BU,List.length_take,Nat.min_eq_left (by omega)]
      have hs:CS sz cell xs=CS sz cell (xs.take k)++CS sz cell (xs.drop k):=by simp only [CS];rw [← List.flatMap_append,List.take_append_drop]
      have hB:(CS sz cell (xs.drop k)).length=(m+1)*sz:=by rw [BU,List.length_drop];congr 1;omega
      refine GV (T:=E) (k:=0) (Builtin.zeroCells z.cells (m+1)).toList 0 _ (CS sz cell xs++sp).toArray _ (by simp) ?_ ?_ ?_
      · rw [hs,hzl];simp only [List.size_toArray,List.length_append,hA,hB];omega
      · intro v hv
        simp only [Builtin.zeroCells,Array.toList_map,Array.toList_range,List.mem_map,List.mem_range] at hv;obtain ⟨q,hq,rfl⟩:=hv;have hlt:q%z.cells.size<z.cells.size:=Nat.mod_lt _ (by omega);rw [getElem!_pos z.cells (q%z.cells.size) hlt];exact hz1 _ (by simp)
      · have e2 : KO (CS sz cell xs ++ sp).toArray (0 + k * sz + 0) (Builtin.zeroCells z.cells (m + 1)).toList = (CS sz cell (xs.take k) ++ ((Builtin.zeroCells z.cells (m + 1)).toList ++ sp)).toArray := by
          apply Array.ext'
          have:=MI (Builtin.zeroCells z.cells (m+1)).toList (CS sz cell (xs.take k)) (CS sz cell (xs.drop k)++sp) (by rw [hzl,List.length_append,hB];omega);rw [hA] at this;rw [hs,show 0+k*sz+0=k*sz by omega,List.append_assoc,this,hzl,List.drop_append_of_le_length (by rw [hB];exact Nat.le_refl _),List.drop_of_length_le (by rw [hB];exact Nat.le_refl _)];simp
        rw [e2];refine done _ (.inr ⟨b,c,(Builtin.zeroCells z.cells (m+1)).toList++sp,by rw [List.length_take,Nat.min_eq_left (by omega)],by rw [List.length_take];omega,rfl,?_⟩);rw [← hlen,hs];simp only [List.length_append,hA,hB,hzl];omega
end
end Go.Sl
namespace Go.Sh
open Go Go.Sl
section
variable {α:Type} {p:α→Bool} {xs zs:List α} {i j:Nat} {d:α}
theorem idxF_ge:-1≤OV p xs:=by unfold OV;cases xs.findIdx? p <;> simp <;> omega
theorem filter_noneD (h:OV p xs=-1):xs.filter (fun x=>!p x)=xs:=by
  have:=idxF_neg (p:=p) (l:=xs) (by omega);rw [List.any_eq_false] at this;exact List.filter_eq_self.2 fun x hx=>by simpa using this x hx
def DelI (p:α→Bool) (xs zs:List α) (i j:Nat):Prop:=zs.length=xs.length∧i<j∧j≤xs.length∧zs.take i=(xs.take j).filter (fun x=>!p x)∧zs.drop j=xs.drop j
theorem DelI.start (hi:i<xs.length) (hp:p (xs.getD i d)=true) (hb:∀ j,j<i→p (xs.getD j d)=false):DelI p xs xs i (i+1):=by
  refine ⟨rfl,by omega,hi,?_,rfl⟩;rw [CN (d:=d) hi,List.filter_append];have h1:(xs.take i).filter (fun x=>!p x)=xs.take i:=List.filter_eq_self.2 fun x hx=>by
    obtain ⟨q,hq,rfl⟩:=List.mem_iff_getElem.1 hx;rw [List.length_take] at hq;have:=hb q (by omega);simp only [List.getElem_take]
    simpa [List.getD,show q<xs.length by omega] using this
  rw [h1];simp only [List.filter_cons,hp,List.filter_nil];simp
theorem DelI.at_j (h:DelI p xs zs i j) (hj:j<xs.length):zs.getD j d=xs.getD j d:=by
  obtain ⟨h1,h2,h3,h4,h5⟩:=h;have e:(zs.drop j)[0]?=(xs.drop j)[0]?:=by rw [h5]
  simp only [List.getElem?_drop,Nat.add_zero] at e;rw [List.getD_eq_getElem?_getD,List.getD_eq_getElem?_getD,e]
theorem drop_next (h:zs.drop j=xs.drop j):zs.drop (j+1)=xs.drop (j+1):=by
  rw [← List.drop_drop,← List.drop_drop,h]
theorem DelI.skip (h:DelI p xs zs i j) (hj:j<xs.length) (hp:p (zs.getD j d)=true):DelI p xs zs i (j+1):=by
  rw [h.at_j hj] at hp;obtain ⟨h1,h2,h3,h4,h5⟩:=h;refine ⟨h1,by omega,hj,?_,drop_next h5⟩;rw [CN (d:=d) hj,List.filter_append,← h4];simp only [List.filter_cons,hp,List.filter_nil];simp
theorem DelI.keep (h:DelI p xs zs i j) (hj:j<xs.length) (hp:p (zs.getD j d)=false):DelI p xs (zs.set i (zs.getD j d)) (i+1) (j+1):=by
  rw [h.at_j hj] at hp ⊢;obtain ⟨h1,h2,h3,h4,h5⟩:=h;refine ⟨by rw [List.length_set,h1],by omega,hj,?_,?_⟩
  · rw [CN (d:=d) hj,List.filter_append,← h4,CN (d:=d) (by rw [List.length_set];omega)]
    simp only [List.filter_cons,hp,List.filter_nil];have e1:(zs.set i (xs.getD j d)).take i=zs.take i:=by rw [List.take_set_of_le (Nat.le_refl _)]
    have e2:(zs.set i (xs.getD j d)).getD i d=xs.getD j d:=by rw [List.getD_eq_getElem?_getD,List.getElem?_set_self (by omega)];rfl
    rw [e1,e2];simp
  · rw [List.drop_set_of_lt (by omega)];exact drop_next h5
theorem DelI.done (h:DelI p xs zs i j) (hj:j=xs.length):zs.take i=xs.filter (fun x=>!p x):=by
  obtain ⟨h1,h2,h3,h4,h5⟩:=h;rw [h4,hj,List.take_length]
end
def FZ (L:Lin) (h:Int):List Slip:=L.slips.filter fun x=>!decide (h<x.hour)
def atL (L:Lin) (h:Int):Lin:=⟨L.places,L.sorts,L.start,L.keeps,FZ L h⟩
def atH (L:Lin) (h:Int):Hs:=aft (HQ L) (AH AD (FZ L h))
theorem GoodS.to {L:Lin} (hg:GoodS L.slips) (h:Int):GoodS (atL L h).slips:=hg.sub (List.length_filter_le _ _) fun x hx=>(List.mem_filter.1 hx).1
theorem EvR.full {r:Nat} {H:Hs} {S:List Slip} {M:Seg} {n:Nat} (h:EvR r H S n M) (hn:n=S.length):∃ es cl,M=[(r,Obj.map es cl)]∧MapH es cl (aft H S):=by
  obtain ⟨es,cl,h1,h2⟩:=h;rw [hn,List.take_length] at h2;exact ⟨es,cl,h1,h2⟩
structure GoodL (L:Lin):Prop where
  places:1≤L.places∧L.places≤4
  sorts:1≤L.sorts∧L.sorts≤2
  start:(L.start.length:Int)=L.places
  rows:∀ r∈L.start,(r.length:Int)=L.sorts
  nums:∀ r∈L.start,∀ n∈r,0≤n∧n≤50
  keeps:L.keeps.length≤4
  keep:∀ k,k<L.keeps.length→FD L k=0
  slips:L.slips.length≤8
  slip:∀ k,k<L.slips.length→DV L k=0
theorem all_of {α:Type} {p:α→Bool} {l:List α} (h:¬ l.all p=false):∀ x∈l,p x=true:=List.all_eq_true.1 (by simpa using h)
theorem MD {L:Lin} (h:AY L=0):GoodL L:=by
  unfold AY at h
  split at h;· omega
  rename_i h1
  split at h;· omega
  rename_i h2
  split at h;· omega
  rename_i h3
  split at h;· omega
  rename_i h4
  split at h;· omega
  rename_i h5
  have h3:CX L=0:=Decidable.not_not.1 h3;have h4:CW L=0:=Decidable.not_not.1 h4;unfold CX at h3
  split at h3;· omega
  rename_i a1
  split at h3;· omega
  rename_i a2
  split at h3;· omega
  rename_i a3
  unfold CW at h4
  split at h4;· omega
  rename_i b1
  refine ⟨DI (by simpa using h1),DI (by simpa using h2),Decidable.not_not.1 a1,fun r hr=>of_decide_eq_true (all_of a2 r hr),fun r hr n hn=>DI (all_of a3 n (List.mem_flatten.2 ⟨r,hr,hn⟩)),by omega,firstE_zero.1 h4,by omega,firstE_zero.1 h⟩
theorem LQ {L:Lin} {s:Slip} (h:DN L s=0):(1≤s.num∧s.num≤999)∧(0≤s.hour∧s.hour≤200)∧(1≤s.kind∧s.kind≤6)∧(0≤s.place∧s.place≤L.places-1)∧(0≤s.sort∧s.sort≤L.sorts-1)∧(0≤s.amt∧s.amt≤50)∧(s.kind=1→0≤s.to∧s.to≤L.places-1∧s.to≠s.place):=by
  unfold DN at h
  split at h;· omega
  rename_i h1
  split at h;· omega
  rename_i h2
  split at h;· omega
  rename_i h3
  split at h;· omega
  rename_i h4
  split at h;· omega
  rename_i h5
  split at h;· omega
  rename_i h6
  split at h;· omega
  split at h;· omega
  rename_i h8
  split at h;· omega
  by_cases h10:inB s.amt (if s.kind=4 then 0 else 1) 50=false
  · rw [if_pos h10] at h;omega
  have e:∀ {b:Bool},¬ b=false→b=true:=fun hb=>by simpa using hb
  refine ⟨DI (e h1),DI (e h2),DI (e h3),DI (e h4),DI (e h8),?_,fun hk=>?_⟩
  · have:=DI (e h10)
    split at this <;> omega
  · have h5:inB s.to 0 (L.places-1)=true:=e fun hh=>h5 ⟨hk,hh⟩
    have:=DI h5;exact ⟨this.1,this.2,fun hh=>h6 ⟨hk,hh⟩⟩
section
variable {L:Lin} (g:GoodL L)
include g
theorem GoodL.slipAt {k:Nat} (hk:k<L.slips.length):DN L (L.slips.getD k AB)=0:=by
  have:=g.slip k hk;unfold DV at this
  split at this
  · rename_i h;exact absurd this h
  · rename_i h;exact Decidable.not_not.1 h
theorem GoodL.slipOf {s:Slip} (hs:s∈L.slips):DN L s=0:=by
  obtain ⟨k,hk,rfl⟩:=List.mem_iff_getElem.1 hs;have:=g.slipAt hk
  simpa [List.getD,hk] using this
theorem GoodL.goodS:GoodS L.slips:=⟨by have:=g.slips;omega,fun s hs=>by
  obtain ⟨h1,h2,h3,h4,h5,h6,_⟩:=LQ (g.slipOf hs)
  exact ⟨h3,h6,by omega,by omega,by omega,by omega⟩⟩
omit g in
theorem openRow_within {B:Int} {p:Int} {row:List Int} (hB:0≤B) (hr:∀ n∈row,0≤n∧n≤B):∀ {j:Nat} {H:Hs},Within B H→Within B (RI p row j H):=by
  intro j
  induction j with
  | zero=>intro H h;exact h
  | succ j ih=>
    intro H h;refine (ih h).put ?_ ?_ (Int.le_refl _)
    · rcases Nat.lt_or_ge j row.length with hj | hj
      · have:=hr _ (BM (xs:=row) (d:=0) hj);omega
      · have:row.getD j 0=0:=by simp [List.getD,hj]
        omega
    · rcases Nat.lt_or_ge j row.length with hj | hj
      · exact (hr _ (BM (xs:=row) (d:=0) hj)).2
      · have:row.getD j 0=0:=by simp [List.getD,hj]
        omega
omit g in
theorem openTo_within {B:Int} {st:List (List Int)} (hB:0≤B) (hr:∀ r∈st,∀ n∈r,0≤n∧n≤B):∀ {i:Nat},i≤st.length→Within B (QF st i):=by
  intro i
  induction i with
  | zero=>intro _ k;show -B≤(0:Int)∧(0:Int)≤B;omega
  | succ i ih=>intro hi;exact openRow_within hB (hr _ (BM (xs:=st) (d:=[]) hi)) (ih (by omega))
theorem GoodL.within:Within 1000 (HQ L):=(openTo_within (B:=50) (by omega) g.nums (Nat.le_refl _)).mono (by omega)
end
def EU (H:Hs) (p:Int):Nat→List Int
  | 0=>[]
  | j+1=>EU H p j++[DX ⟨p,(j:Int),false⟩ H,DX ⟨p,(j:Int),true⟩ H]
def OT (H:Hs) (s:Nat):Nat→List (List Int)
  | 0=>[]
  | k+1=>OT H s k++[EU H (k:Int) s]
def JE (L:Lin) (hour:Int):List (List Int) × Int:=
  if AY L≠0 then ([],AY L) else if inB hour 0 200=false then ([],1) else (OT (atH L hour) L.sorts.toNat L.places.toNat,0)
theorem stockRow_length {H:Hs} {p:Int} {j:Nat}:(EU H p j).length=2*j:=by induction j with
  | zero=>rfl
  | succ j ih=>simp only [EU,List.length_append,ih,List.length_cons,List.length_nil];omega
theorem stockTo_length {H:Hs} {s k:Nat}:(OT H s k).length=k:=by induction k with
  | zero=>rfl
  | succ k ih=>simp only [OT,List.length_append,ih,List.length_cons,List.length_nil]
theorem stockE_1 {L:Lin} {hour:Int} (h:AY L≠0):JE L hour=([],AY L):=if_pos h
theorem stockE_2 {L:Lin} {hour:Int} (h:AY L=0) (h2:inB hour 0 200=false):JE L hour=([],1):=by unfold JE;rw [if_neg (fun x=>x h),if_pos h2]
theorem stockE_3 {L:Lin} {hour:Int} {k s:Nat} (h:AY L=0) (h2:inB hour 0 200=true) (hk:(k:Int)=L.places) (hs:(s:Int)=L.sorts):JE L hour=(OT (atH L hour) s k,0):=by
  unfold JE;rw [if_neg (fun x=>x h),if_neg (by rw [h2];decide),← hk,← hs];rfl
def gapOf (e:Event):List Gap:=if e.gap≠0 then [⟨e.slip.num,e.gap⟩] else []
def EO (l:List Event):List Gap:=l.flatMap gapOf
def IF (L:Lin):List Event:=evs (HQ L) (AH AD L.slips)
def PI (L:Lin):List Gap × Int:=if AY L≠0 then ([],AY L) else (EO (IF L),0)
theorem gapsOf_snoc {l:List Event} {e:Event}:EO (l++[e])=EO l++gapOf e:=by simp [EO]
theorem gapsOf_t {l:List Event} {e:Event} (h:e.gap≠0):EO l++[⟨e.slip.num,e.gap⟩]=EO (l++[e]):=by rw [gapsOf_snoc];unfold gapOf;rw [if_pos h]
theorem gapsOf_f {l:List Event} {e:Event} (h:e.gap=0):EO l=EO (l++[e]):=by rw [gapsOf_snoc];unfold gapOf;rw [if_neg (fun x=>x h),List.append_nil]
theorem gapsOf_length:∀ {l:List Event},(EO l).length≤l.length:=by
  intro l
  induction l with
  | nil=>exact Nat.le_refl _
  | cons x r ih=>
    show (gapOf x++EO r).length≤_;rw [List.length_append,List.length_cons];have:(gapOf x).length≤1:=by unfold gapOf;split <;> simp
    omega
theorem gapsE_1 {L:Lin} (h:AY L≠0):PI L=([],AY L):=if_pos h
theorem gapsE_2 {L:Lin} (h:AY L=0):PI L=(EO (IF L),0):=if_neg (fun x=>x h)
theorem eventsOf_length {L:Lin}:(IF L).length=L.slips.length:=by unfold IF;rw [HW];exact (HD _).length_eq
end Go.Sh
namespace Go.Sl
open Go
def IterE {α β:Type} (P:Program) (gf:FuncId) (cv:List Value) (enc:β→List Value) (pr:β→α) (seq:List α) (E:β→Imm→Prop) (R:Imm→Seg→Prop) (I0:Imm):Prop:=
  ∀ (L:Nat) (Cl Sp:List α→Imm→Seg→Prop),(∀ xs I J M,I.le J→Cl xs I M→Cl xs J M) →
    (∀ xs x I Mr M,(xs++[pr x]) <+: seq→I0.le I→E x I→Cl xs I M→Yt P L (enc x).toArray I (Mr++M) (fun v I' M'=>(v=.bool true∧∃ M2,M'=Mr++M2∧Cl (xs++[pr x]) I' M2)∨(v=.bool false∧Sp (xs++[pr x]) I' M'))) →
    ∀ I Mr M,I0.le I→R I Mr→Cl [] I M→Ct P gf (.func (.yield L) #[] #[]::cv).toArray I (Mr++M) (fun _ I' M'=>(∃ Mr' M2,M'=Mr'++M2∧Cl seq I' M2)∨(∃ xs,Sp xs I' M'))
section
variable {ρ:Option Nat} {P:Program} {N:Nat} {ops:Array Oper} {i:Nat} {l:Sl} {I:Imm} {R M:Seg} {ty:TypeId} {gd:Option (Nat × Bool)} {K:Sl→Imm→Seg→Prop} {Q:Exit→Act→World→Prop} {ds:List Deferred}
theorem run_rangeFuncE {α β : Type} {c : Code} {g : Operand} {ps : Array Tmp} {assign body : Code} {gf : FuncId} {cv : List Value} {enc : β → List Value} {pr : β → α} {seq : List α} {E : β → Imm → Prop} {R : Imm → Seg → Prop} {Mr M0 F0 : Seg}
    (Cl:List α→Imm→Seg→Prop) (Sp:Code→List α→Imm→Seg→Prop) (sl:β→Nat→Sl) (mm:β→Nat→Seg)
    (hc:c=.rangeFunc g ps assign body) (hg:CC l g=some (.func (.func gf) #[] cv.toArray)) (hcall:ET P gf=true) (hps:∀ x,(enc x).length=ps.size) (hpN:ps.all (fun t=>Nat.blt t N)=true)
    (it:IterE P gf cv enc pr seq E R I)
    (hmono:∀ xs I J M,I.le J→Cl xs I M→Cl xs J M)
    (hM:M.Perm (Mr++(M0++F0))) (hr:R I Mr) (h0:Cl [] I M0)
    (hassign:∀ L x I1 M1,Run (ρ:=some L) P N assign (Exit.then (fun a w=>∃ k,Slots N (sl x k) a∧a.defers=[]∧St I1 (mm x k++M1) w) (fun _ _ _=>False)) [] (putAll (ps.toList.zip (enc x)) l) I1 M1)
    (hbody:∀ L x k xs I1 Mr1 M1 F1,(xs++[pr x]) <+: seq→I.le I1→E x I1→Cl xs I1 M1 →
      Run (ρ:=some L) P N body (RoundQ I1 (fun o I' M'=>match o with | none=>∃ M2,M'=Mr1++M2∧Cl (xs++[pr x]) I' M2 | some c=>Sp c (xs++[pr x]) I' M') F1) [] (sl x k) I1 (mm x k++(Mr1++(M1++F1))))
    (hdone:∀ D I' Mr' M',I.le I'→Cl seq I' M'→Pst N Q .normal (mark D::ds) l I' ((D,.deferred (some []))::(Mr'++(M'++F0))))
    (hstop:∀ D c xs I' M',I.le I'→Sp c xs I' M'→Run (ρ:=none) P N c Q (mark D::ds) l I' ((D,.deferred (some []))::(M'++F0))) :
    Run (ρ:=none) P N c Q ds l I M:=by
  subst hc;intro a w hS hD hW;refine wpIn_rangeFunc fun fn _=>?_
  obtain ⟨rec,hrec⟩:∃ rec:LoopState→Option Code→Loop,rec=fun st pe=>{ state:=st,pending:=pe,fn,tmps:=a.tmps,params:=ps,assign,body,defers:=w.heap.size }:=⟨_,rfl⟩
  have hW2:St I ((w.heap.size+1,.loop (rec .ready none))::(w.heap.size,.deferred (some []))::(Mr++(M0++F0))) ((w.alloc (.deferred (some []))).alloc (.loop (rec .ready none))):=by
    have h1:=(hW.perm hM).new (.deferred (some []));have h2:=h1.new (.loop (rec .ready none));have e:(w.heap.push (Obj.deferred (some []))).size=w.heap.size+1:=by simp
    rw [e] at h2;exact h2
  generalize hw1:((w.alloc (.deferred (some []))).alloc (.loop (rec .ready none)))=w1 at hW2
  refine ⟨w.heap.size+1,[mark w.heap.size],w1,{ target:=.fn (.func gf) cv.toArray,args:=#[.func (.yield (w.heap.size+1)) #[] #[]] },w1,gf,(.func (.yield (w.heap.size+1)) #[] #[]::cv).toArray,w1,?_,?_,fun _ _=>trivial,?_,fun h=>by simp [fen,Fence.wide] at h,?_⟩
  · rw [← hw1,hrec];exact run_enterLoop_outer _ _ _ _ _
  · unfold resolve
    simp only [eval_of hS hg,Deferred.ofValue];simp [Act.eval,pure,Sem.run]
  · show (callFunc gf (#[Value.func (.yield (w.heap.size+1)) #[] #[]]++cv.toArray)).run P w1=_
    rw [KE hcall];simp
  · refine callsIn_fen.2 ?_
    clear hw1 hW
    generalize w.heap.size+1=L at hW2 hrec ⊢
    generalize w.heap.size=D at hW2 hrec ⊢
    have hit:=it L (fun xs I M=>∃ M0,M=(L,.loop (rec .ready none))::(D,.deferred (some []))::M0∧Cl xs I M0)
      (fun xs I M=>∃ c M0,M=(L,.loop (rec .done (some c)))::(D,.deferred (some []))::M0∧Sp c xs I M0)
      (fun xs I J M le ⟨M0,e,h⟩=>⟨M0,e,hmono xs I J M0 le h⟩) ?_ I Mr ((L,.loop (rec .ready none))::(D,.deferred (some []))::M0) (Imm.le.refl I) hr ⟨M0,rfl,h0⟩
    · refine (hit F0 w1 (hW2.perm ?_)).mono ?_
      · rw [List.append_assoc]
        exact ((List.perm_middle (l₁:=Mr)).trans (.cons _ (List.perm_middle (l₁:=Mr)))).symm
      · rintro e w' ⟨v,I',M',rfl,hle,hp,st⟩
        rcases hp with ⟨Mr',M2,rfl,M3,rfl,hcl⟩ | ⟨xs,c,M3,rfl,hsp⟩
        · have st2 := st.perm (show ((Mr' ++ ((L, Obj.loop (rec .ready none)) :: (D, .deferred (some [])) :: M3)) ++ F0).Perm ((L, Obj.loop (rec .ready none)) :: (D, .deferred (some [])) :: (Mr' ++ (M3 ++ F0))) by
            rw [List.append_assoc]
            exact (List.perm_middle (l₁:=Mr')).trans (.cons _ (List.perm_middle (l₁:=Mr'))))
          have hl:=st2.mem _ _ List.mem_cons_self;refine ⟨none,_,by have:=run_endLoop (P:=P) hl (by rw [hrec];simp);rw [hrec] at this;exact this,?_⟩;refine hdone D I' Mr' M3 hle hcl _ _ ⟨hS.size,hS.get⟩ (by show [mark D]++a.defers=_;rw [hD];rfl) ?_;exact (St.putObj st2).drop
        · have hl:=st.mem (L) (.loop (rec .done (some c))) (by simp)
          refine ⟨some c,_,by have:=run_endLoop (P:=P) hl (by rw [hrec];simp);rw [hrec] at this;exact this,?_⟩;refine hstop D c xs I' M3 hle hsp _ _ ⟨hS.size,hS.get⟩ (by show [mark D]++a.defers=_;rw [hD];rfl) ?_;exact (St.putObj (M:=(D,Obj.deferred (some []))::(M3++F0)) st).drop
    · rintro xs x I1 Mr1 M1' hpre hle hE ⟨M1,rfl,hcl⟩ F1 w2 st
      have hl:=st.mem L (.loop (rec .ready none)) (by simp);have hy:=run_yield (P:=P) (args:=(enc x).toArray) hl (by rw [hrec];simpa using hps x);rw [hrec] at hy;refine ⟨_,_,assign,body,hy,roundIn_of_wpIn (F:=fen none) trivial ?_⟩;have hfold:((ps.zip (enc x).toArray).foldl (fun tmps (t,a)=>tmps.setIfInBounds t a) a.tmps)=(ps.toList.zip (enc x)).foldl (fun t (x:Tmp × Value)=>t.setIfInBounds x.1 x.2) a.tmps:=by
        rw [← Array.foldl_toList];simp
      simp only;rw [hfold];refine wpIn_mono (hassign L x I1 _ _ w2 (slots_fold (ps.toList.zip (enc x)) l a.tmps ⟨hS.size,hS.get⟩ ?_) rfl st) ?_
      · intro y hy'
        have:=(List.of_mem_zip (show (y.1,y.2)∈ps.toList.zip (enc x) from hy')).1;have h3:=Array.all_eq_true'.1 hpN y.1 (by simpa using this);exact Nat.le_of_ble_eq_true h3
      · rintro e a1 w3 hq
        cases e with
        | normal=>
          obtain ⟨k,hS3,hD3,st3⟩:=hq;have st4:St I1 ((L,.loop (rec .ready none))::(mm x k++(Mr1++(M1++((D,.deferred (some []))::F1))))) w3:=st3.perm ((List.Perm.append_left (mm x k) perm3).trans List.perm_middle);have hl3:=st4.mem L (.loop (rec .ready none)) List.mem_cons_self;refine ⟨_,run_beginRound hl3 (by rw [hrec]),?_⟩;have st5:St I1 (mm x k++(Mr1++(M1++((L,.loop { rec .ready none with state:=.busy })::(D,.deferred (some []))::F1)))) (w3.putObj L (.loop { rec .ready none with state:=.busy })):=by
            refine (St.putObj st4).perm ?_;refine (List.perm_middle (l₁:=mm x k)).symm.trans (List.Perm.append_left (mm x k) ?_);have:=(perm3 (A:=Mr1) (B:=M1) (C:=F1) (x:=(L,Obj.loop { rec .ready none with state:=.busy })) (y:=(D,Obj.deferred (some [])))).symm;refine this.trans ?_;rw [List.append_assoc];refine List.Perm.append_left Mr1 ?_;show ((L,Obj.loop { rec .ready none with state:=.busy })::(D,.deferred (some []))::(M1++F1)).Perm _;exact ((List.perm_middle (l₁:=M1)).trans (.cons _ (List.perm_middle (l₁:=M1)))).symm
          refine wpIn_mono (hbody L x k xs I1 Mr1 M1 _ hpre hle hE hcl a1 _ hS3 hD3 st5) ?_
          have fin : ∀ (jump : Option Code) (I' : Imm) (M' : Seg) (w6 : World), St I' (M' ++ ((L, .loop { rec .ready none with state := .busy }) :: (D, .deferred (some [])) :: F1)) w6 →
              (Instr.endRound L jump).run P w6=.ok (.bool jump.isNone) (w6.putObj L (.loop (rec (if jump.isNone then .ready else .done) jump))) ∧
              St I' ((L,.loop (rec (if jump.isNone then .ready else .done) jump))::(M'++((D,.deferred (some []))::F1))) (w6.putObj L (.loop (rec (if jump.isNone then .ready else .done) jump))):=fun jump I' M' w6 st6=>by
            have st7:=st6.perm perm4;have hl7:=st7.mem _ _ List.mem_cons_self;have:=run_endRound (P:=P) jump hl7;rw [hrec] at this ⊢;exact ⟨this,by rw [hrec] at st7;exact St.putObj st7⟩
          rintro e a6 w6 hq6
          have stop : ∀ (c : Code), (∃ I' M', I1.le I' ∧ Sp c (xs ++ [pr x]) I' M' ∧ St I' (M' ++ ((L, .loop { rec .ready none with state := .busy }) :: (D, .deferred (some [])) :: F1)) w6) →
              ∃ v w',(Instr.endRound L (some c)).run P w6=.ok v w'∧RQ I1 (fun v I' M'=>(v=.bool true∧∃ M2,M'=Mr1++M2∧∃ M0,M2=(L,.loop (rec .ready none))::(D,.deferred (some []))::M0∧Cl (xs++[pr x]) I' M0) ∨
                (v=.bool false∧∃ c M0,M'=(L,.loop (rec .done (some c)))::(D,.deferred (some []))::M0∧Sp c (xs++[pr x]) I' M0)) F1 (.returned v) w':=by
            rintro c ⟨I',M',hle',hp,st6⟩
            obtain ⟨h1,h2⟩:=fin (some c) I' M' w6 st6;exact ⟨_,_,h1,_,I',_,rfl,hle',.inr ⟨rfl,c,M',rfl,hp⟩,h2.perm (.cons _ List.perm_middle)⟩
          cases e with
          | normal=>
            obtain ⟨I',M',hle',⟨M2,rfl,hcl'⟩,st6⟩:=hq6;obtain ⟨h1,h2⟩:=fin none I' _ w6 st6;refine ⟨_,_,h1,_,I',_,rfl,hle',.inl ⟨rfl,_,rfl,M2,rfl,hcl'⟩,h2.perm ?_⟩;rw [List.append_assoc];exact perm3.symm
          | ret=>exact stop .ret hq6
          | exit id=>exact stop (.exit id) hq6
          | goto t=>exact stop (.goto t) hq6
          | panic ch=>exact hq6.elim
          | outgrown=>exact hq6.elim
        | exit id=>exact hq.elim
        | goto t=>exact hq.elim
        | ret=>exact hq.elim
        | panic ch=>exact hq.elim
        | outgrown=>exact hq.elim
end
end Go.Sl
namespace Go.Sh
open Go Go.Sl
def kstep (p h:Int) (q:Int × Int) (k:Keep):Int × Int:=bif cmp .eql k.place p&&(cmp .leq k.hour h&&cmp .gtr k.hour q.2) then (k.who,k.hour) else q
def MZ (p h:Int) (ks:List Keep):Int × Int:=ks.foldl (kstep p h) (0,-1)
def DE (L:Lin) (p h:Int):Int:=(MZ p h L.keeps).1
section
variable {p h:Int} {ks:List Keep} {k:Nat}
theorem kfold_t (hk:k<ks.length) (hc:(cmp .eql (ks.getD k AK).place p&&(cmp .leq (ks.getD k AK).hour h&&cmp .gtr (ks.getD k AK).hour (MZ p h (ks.take k)).2))=true):((ks.getD k AK).who,(ks.getD k AK).hour)=MZ p h (ks.take (k+1)):=by
  rw [CN (d:=AK) hk];unfold MZ at *;rw [List.foldl_append];simp only [List.foldl_cons,List.foldl_nil,kstep];rw [hc];rfl
theorem kfold_f (hk:k<ks.length) (hc:(cmp .eql (ks.getD k AK).place p&&(cmp .leq (ks.getD k AK).hour h&&cmp .gtr (ks.getD k AK).hour (MZ p h (ks.take k)).2))=false):MZ p h (ks.take k)=MZ p h (ks.take (k+1)):=by
  rw [CN (d:=AK) hk];unfold MZ at *;rw [List.foldl_append];simp only [List.foldl_cons,List.foldl_nil,kstep];rw [hc];rfl
theorem kfold_who:∀ {ks:List Keep} {q:Int × Int},(ks.foldl (kstep p h) q).1=q.1∨(ks.foldl (kstep p h) q).1∈ks.map (·.who):=by
  intro ks
  induction ks with
  | nil=>intro q;exact .inl rfl
  | cons x r ih=>
    intro q;simp only [List.foldl_cons,List.map_cons,List.mem_cons];rcases ih (q:=kstep p h q x) with e | e
    · rw [e];unfold kstep;cases (cmp .eql x.place p&&(cmp .leq x.hour h&&cmp .gtr x.hour q.2)) with
      | true=>exact .inr (.inl rfl)
      | false=>exact .inl rfl
    · exact .inr (.inr e)
end
theorem keeperOf_mem {L:Lin} {p h:Int} (hn:DE L p h≠0):DE L p h∈L.keeps.map (·.who):=by
  rcases kfold_who (p:=p) (h:=h) (ks:=L.keeps) (q:=(0,-1)) with e | e
  · exact absurd e hn
  · exact e
def DK (L:Lin) (p since:Int):Nat→List Int
  | 0=>[]
  | n+1=>if (n:Int)<since then DK L p since n else if DE L p n=0 then DK L p since n else if DE L p n∈DK L p since n then DK L p since n else DK L p since n++[DE L p n]
section
variable {L:Lin} {p since:Int} {n:Nat}
theorem holdTo_1 (h:(n:Int)<since):DK L p since n=DK L p since (n+1):=(if_pos h).symm
theorem holdTo_2 (h:¬ (n:Int)<since) (h2:DE L p n=0):DK L p since n=DK L p since (n+1):=by simp only [DK];rw [if_neg h,if_pos h2]
theorem holdTo_3 (h:¬ (n:Int)<since) (h2:¬ DE L p n=0) (h3:DE L p n∈DK L p since n):DK L p since n=DK L p since (n+1):=by simp only [DK];rw [if_neg h,if_neg h2,if_pos h3]
theorem holdTo_4 (h:¬ (n:Int)<since) (h2:¬ DE L p n=0) (h3:¬ DE L p n∈DK L p since n):DK L p since n++[DE L p n]=DK L p since (n+1):=by simp only [DK];rw [if_neg h,if_neg h2,if_neg h3]
theorem holdTo_once:∀ n,(DK L p since n).Nodup∧∀ x∈DK L p since n,x∈L.keeps.map (·.who):=by
  intro n
  induction n with
  | zero=>exact ⟨List.nodup_nil,fun x hx=>by cases hx⟩
  | succ n ih=>
    simp only [DK]
    split
    · exact ih
    split
    · exact ih
    rename_i h2
    split
    · exact ih
    · rename_i h3
      refine ⟨List.nodup_append.2 ⟨ih.1,by simp,fun a ha b hb=>?_⟩,fun x hx=>?_⟩
      · simp only [List.mem_singleton] at hb;intro e;rw [e,hb] at ha;exact h3 ha
      · rcases List.mem_append.1 hx with hx | hx
        · exact ih.2 x hx
        · simp only [List.mem_singleton] at hx;subst hx;exact keeperOf_mem h2
omit p since n in
theorem once_len:∀ {l m:List Int},l.Nodup→(∀ x∈l,x∈m)→l.length≤m.length:=by
  intro l
  induction l with
  | nil=>intro m _ _;exact Nat.zero_le _
  | cons x r ih=>
    intro m hn hs;have hn2:=List.nodup_cons.1 hn;have hx:=hs x (by simp);have:=ih (m:=m.erase x) hn2.2 (fun y hy=>(List.mem_erase_of_ne (fun e=>hn2.1 (by rw [← e];exact hy))).2 (hs y (by simp [hy])));rw [List.length_erase_of_mem hx] at this;have h0:=List.length_pos_of_mem hx;rw [List.length_cons];omega
theorem holdTo_len (hk:L.keeps.length≤4):(DK L p since n).length≤4:=by
  have:=once_len (holdTo_once (L:=L) (p:=p) (since:=since) n).1 (holdTo_once n).2;rw [List.length_map] at this;omega
end
def FL (L:Lin) (s:Slip) (since:Int):List Int:=AH cmpZ (DK L s.place since (s.hour+1).toNat)
theorem holdersOf_len {L:Lin} {s:Slip} {since:Int} (hk:L.keeps.length≤4):(FL L s since).length≤4:=by unfold FL;rw [(HD _).length_eq];exact holdTo_len hk
theorem holdersOf_at {L:Lin} {s:Slip} {since:Int} {n:Nat} (h:(n:Int)=s.hour+1):AH cmpZ (DK L s.place since n)=FL L s since:=by unfold FL;rw [← h];rfl
abbrev EvH:=Sh.Event × List Int
def gstep (L:Lin) (q:Hs × List EvH) (e:Sh.Event):Hs × List EvH:=
  if e.slip.kind≠4 then q else (KX (keyOf e.slip) e.slip.hour q.1,if e.gap≠0 then q.2++[(e,FL L e.slip (DX (keyOf e.slip) q.1))] else q.2)
def FV (L:Lin) (l:List Sh.Event):Hs × List EvH:=l.foldl (gstep L) ([],[])
def lackOf (L:Lin):List EvH:=(FV L (IF L)).2
section
variable {L:Lin} {xs ys:List Sh.Event} {x:Sh.Event}
theorem LJ:FV L (xs++[x])=gstep L (FV L xs) x:=by unfold FV;rw [List.foldl_append];rfl
theorem gfold_1 (h:x.slip.kind≠4):FV L xs=FV L (xs++[x]):=by rw [LJ];unfold gstep;rw [if_pos h]
theorem gfold_2 (h:x.slip.kind=4):(FV L (xs++[x])).1=KX ⟨x.slip.place,x.slip.sort,x.slip.soil⟩ x.slip.hour (FV L xs).1:=by rw [LJ];unfold gstep;rw [if_neg (fun e=>e h)];rfl
theorem gfold_3 (h:x.slip.kind=4) (h2:x.gap=0):(FV L xs).2=(FV L (xs++[x])).2:=by rw [LJ];unfold gstep;rw [if_neg (fun e=>e h)];simp only;rw [if_neg (fun e=>e h2)]
theorem gfold_4 (h:x.slip.kind=4) (h2:x.gap≠0):(FV L xs).2++[(x,FL L x.slip (DX ⟨x.slip.place,x.slip.sort,x.slip.soil⟩ (FV L xs).1))]=(FV L (xs++[x])).2:=by rw [LJ];unfold gstep;rw [if_neg (fun e=>e h)];simp only;rw [if_pos h2];rfl
theorem gfold_more:∀ {ys xs:List Sh.Event},(FV L xs).2 <+: (FV L (xs++ys)).2:=by
  intro ys
  induction ys with
  | nil=>intro xs;rw [List.append_nil];exact List.prefix_refl _
  | cons y r ih=>
    intro xs;have h1:(FV L xs).2 <+: (FV L (xs++[y])).2:=by
      rw [LJ];unfold gstep
      split
      · exact List.prefix_refl _
      · simp only;split
        · exact List.prefix_append _ _
        · exact List.prefix_refl _
    have h2:=ih (xs:=xs++[y]);rw [List.append_assoc] at h2;exact h1.trans h2
theorem gfold_pre (h:xs <+: ys):(FV L xs).2 <+: (FV L ys).2:=by obtain ⟨r,rfl⟩:=h;exact gfold_more
end
def encEvH (q:EvH × (Option Addr × Nat)):List Value:=[.agg #[.int .i64 q.1.1.slip.num,.int .i64 q.1.1.slip.hour,.int .i64 q.1.1.slip.kind,.int .i64 q.1.1.slip.place,.int .i64 q.1.1.slip.to,.int .i64 q.1.1.slip.sort,.bool q.1.1.slip.soil,.int .i64 q.1.1.slip.amt,.int .i64 q.1.1.gap,.bool q.1.1.below,.slice q.2.1 q.1.2.length q.2.2]]
theorem evs_slip:∀ {S:List Slip} {H:Hs} {x:Sh.Event},x∈evs H S→x.slip∈S:=by
  intro S
  induction S with
  | nil=>intro H x hx;cases hx
  | cons s r ih=>
    intro H x hx;simp only [evs] at hx;rcases List.mem_cons.1 hx with rfl | hx
    · exact List.mem_cons_self
    · exact List.mem_cons_of_mem _ (ih hx)
theorem GoodL.ofEv {L:Lin} (g:GoodL L) {xs:List Sh.Event} {x:Sh.Event} {H:Hs} (h:(xs++[x]) <+: evs H (AH AD L.slips)):0≤x.slip.hour∧x.slip.hour≤200:=
  (LQ (g.slipOf ((HD _).subset (evs_slip (h.subset (List.mem_append_right _ List.mem_cons_self)))))).2.1
def SF (n:Int) (l:List EvH):Option (List Int):=(l.find? fun q=>decide (q.1.slip.num=n)).map Prod.snd
theorem lackAt_hit {n:Int} {l xs:List EvH} {x:EvH} (h:(xs++[x]) <+: l) (hn:∀ q∈xs,q.1.slip.num≠n) (hx:x.1.slip.num=n):SF n l=some x.2:=by
  obtain ⟨r,rfl⟩:=h;unfold SF;rw [List.append_assoc,List.find?_append,List.find?_eq_none.2 (fun q hq=>by simpa using hn q hq)];simp [hx]
theorem lackAt_none {n:Int} {l:List EvH} (hn:∀ q∈l,q.1.slip.num≠n):SF n l=none:=by
  unfold SF;rw [List.find?_eq_none.2 (fun q hq=>by simpa using hn q hq)];rfl
def DD (L:Lin) (n:Int):List Int × Int:=
  if AY L≠0 then ([],AY L) else if OV (fun x:Slip=>decide (x.num=n)) L.slips<0 then ([],3)
  else if (L.slips.getD (OV (fun x:Slip=>decide (x.num=n)) L.slips).toNat AB).kind≠4 then ([],8)
  else match SF n (lackOf L) with
    | some h=>(h,0)
    | none=>([],11)
section
variable {L:Lin} {n:Int} {i:Nat}
theorem holdersE_1 (h:AY L≠0):DD L n=([],AY L):=if_pos h
theorem holdersE_2 (h:AY L=0) (h2:OV (fun x:Slip=>decide (x.num=n)) L.slips<0):DD L n=([],3):=by unfold DD;rw [if_neg (fun x=>x h),if_pos h2]
theorem holdersE_3 (h:AY L=0) (h2:OV (fun x:Slip=>decide (x.num=n)) L.slips=(i:Int)) (h3:¬ (L.slips.getD i AB).kind=4):DD L n=([],8):=by
  unfold DD;rw [if_neg (fun x=>x h),h2,if_neg (by omega),Int.toNat_natCast,if_pos h3]
theorem holdersE_4 {l:List Int} (h:AY L=0) (h2:OV (fun x:Slip=>decide (x.num=n)) L.slips=(i:Int)) (h3:(L.slips.getD i AB).kind=4) (h4:SF n (lackOf L)=some l):DD L n=(l,0):=by
  unfold DD;rw [if_neg (fun x=>x h),h2,if_neg (by omega),Int.toNat_natCast,if_neg (fun x=>x h3),h4]
theorem holdersE_5 (h:AY L=0) (h2:OV (fun x:Slip=>decide (x.num=n)) L.slips=(i:Int)) (h3:(L.slips.getD i AB).kind=4) (h4:SF n (lackOf L)=none):DD L n=([],11):=by
  unfold DD;rw [if_neg (fun x=>x h),h2,if_neg (by omega),Int.toNat_natCast,if_neg (fun x=>x h3),h4]
end
theorem ne_snoc {α:Type} {p:α→Prop} {xs:List α} {x:α} (h:∀ q∈xs,p q) (hx:p x):∀ q∈xs++[x],p q:=fun q hq=>by
  rcases List.mem_append.1 hq with hq | hq
  · exact h q hq
  · simp only [List.mem_singleton] at hq;subst hq;exact hx
def evOk (e:Sh.Event):Bool:=cmp .eql e.gap 0&&!e.below
def rightE (L:Lin):Bool:=(IF L).all evOk
theorem rightE_no {L:Lin} {xs:List Sh.Event} {x:Sh.Event} (h:(xs++[x]) <+: IF L) (hx:evOk x=false):rightE L=false:=by
  unfold rightE;cases e:(IF L).all evOk with
  | false=>rfl
  | true=>
    have:=List.all_eq_true.1 e x (h.subset (by simp));rw [hx] at this;cases this
theorem rightE_yes {L:Lin} (h:∀ x∈IF L,evOk x=true):rightE L=true:=List.all_eq_true.2 h
def woS (L:Lin) (ns:List Int):List Slip:=L.slips.filter fun x=>!decide (x.num∈ns)
def woL (L:Lin) (ns:List Int):Lin:=⟨L.places,L.sorts,L.start,L.keeps,woS L ns⟩
theorem GoodL.wo {L:Lin} (g:GoodL L) {ns:List Int}:GoodS (woL L ns).slips:=g.goodS.sub (List.length_filter_le _ _) fun x hx=>(List.mem_filter.1 hx).1
theorem GoodL.woW {L:Lin} (g:GoodL L) {ns:List Int}:Within 1000 (HQ (woL L ns)):=g.within
def JR (f:Nat→List Int × Bool) (j:Nat):Nat→List Int × Bool
  | 0=>([],false)
  | k+1=>if (f j).2=true then ((f j).1,true) else JR f (j+1) k
def GM (L:Lin) (all:List Int):Nat→List Int→Nat→List Int × Bool
  | 0,begun,_=>(begun,rightE (woL L begun))
  | m+1,begun,j=>JR (fun i=>GM L all m (begun++[all.getD i 0]) (i+1)) j (all.length-j)
section
variable {f:Nat→List Int × Bool} {i n:Nat}
theorem firstW_hit (hi:i<n) (h:(f i).2=true):JR f i (n-i)=((f i).1,true):=by
  obtain ⟨k,hk⟩:∃ k,n-i=k+1:=⟨n-i-1,by omega⟩;rw [hk];simp only [JR];rw [if_pos h]
theorem firstW_miss (hi:i<n) (h:(f i).2=false):JR f i (n-i)=JR f (i+1) (n-(i+1)):=by
  obtain ⟨k,hk⟩:∃ k,n-i=k+1:=⟨n-i-1,by omega⟩;rw [hk,show n-(i+1)=k by omega];simp only [JR];rw [if_neg (by rw [h];decide)]
theorem firstW_none (hi:n≤i):JR f i (n-i)=([],false):=by rw [show n-i=0 by omega];rfl
end
def allN (L:Lin):List Int:=AH cmpZ (L.slips.map (·.num))
def IX (L:Lin):List Int × Int:=
  if AY L≠0 then ([],AY L)
  else if (JR (fun m=>GM L (allN L) m [] 0) 0 3).2=true then ((JR (fun m=>GM L (allN L) m [] 0) 0 3).1,0) else ([],11)
theorem wrongE_1 {L:Lin} (h:AY L≠0):IX L=([],AY L):=if_pos h
theorem wrongE_2 {L:Lin} {l:List Int} (h:AY L=0) (h2:JR (fun m=>GM L (allN L) m [] 0) 0 3=(l,true)):IX L=(l,0):=by unfold IX;rw [if_neg (fun x=>x h),h2,if_pos rfl]
theorem wrongE_3 {L:Lin} (h:AY L=0) (h2:JR (fun m=>GM L (allN L) m [] 0) 0 3=([],false)):IX L=([],11):=by unfold IX;rw [if_neg (fun x=>x h),h2,if_neg (by decide)]
theorem allN_len {L:Lin}:(allN L).length=L.slips.length:=by unfold allN;rw [(HD _).length_eq,List.length_map]
section
variable {so:Int} {H H':Hs} {k:HKey} {v d:Int}
end
section
variable {L:Lin} {so hour:Int}
end
section
variable {L:Lin} {G:List Gap} {so n X:Int} {i m k:Nat} {s:Slip}
end
def JH:Lin:=⟨0,0,[],[],[]⟩
section
variable {L:Lin} {ns:List Int} {s:Slip} {k:Nat}
end
def tcIs (w:List (List UInt8)):Bool:=decide (w.length=6)&&(BV ((w.drop 1).take 4)&&marksIs (w.getD 5 []))
def tcV (w:List (List UInt8)):Car:=carOf (AF ((w.drop 1).take 4)) (w.getD 5 [])
section
variable {Y:Yard} {row:List UInt8}
end
theorem HN {l:List (List UInt8)} (h:BV l=true):(AF l).length=l.length:=by
  unfold AF;rw [if_pos h,List.length_map]
theorem num_one {x:Int} (h:0≤x∧x<10):(num x).length≤1:=by
  obtain ⟨n,rfl⟩:∃ n:Nat,x=n:=⟨x.toNat,by omega⟩;rw [num1 (by omega)];simp
def BP (l:List (List UInt8)):List UInt8:=l.flatMap (·++[10])
theorem ME (l:List (List UInt8)) (x:List UInt8):BP (l++[x])=BP l++(x++[10]):=by simp [BP]
theorem linesT_join:∀ {l:List (List UInt8)},l≠[]→Lib.join l [10]++[10]=BP l
  | [],h=>absurd rfl h
  | x::r,_=>by
    rw [Lib.join_cons];have:∀ (r:List (List UInt8)) (x:List UInt8),(x++Lib.joinTail [10] r)++[10]=BP (x::r):=by
      intro r
      induction r with
      | nil=>intro x;simp [Lib.joinTail,BP]
      | cons y r ih=>
        intro x;have:=ih y;simp only [Lib.joinTail,BP,List.map_cons,List.flatten_cons,List.flatMap_cons,List.append_assoc,List.cons_append,List.nil_append] at this ⊢;rw [this]
    exact this r x
theorem LP {m:Nat}:∀ {l:List (List UInt8)},(∀ x∈l,x.length≤m)→(BP l).length≤l.length*(m+1)
  | [],_=>by simp [BP]
  | x::r,h=>by
    have h1:=h x (List.mem_cons_self ..);have h2:=LP (l:=r) fun y hy=>h y (List.mem_cons_of_mem _ hy)
    simp only [BP,List.flatMap_cons,List.length_append,List.length_cons,List.length_nil] at h2 ⊢;rw [Nat.add_mul];omega
theorem NV {L:List (List UInt8)} {i:Nat} (hi:i<L.length) (h:GH (L.getD i [])=false):BV L=false∧AF L=[]:=by
  have h1:BV L=false:=by
    cases hn:BV L with
    | false=>rfl
    | true=>
      have:=List.all_eq_true.1 hn _ (BM (d:=[]) hi);rw [h] at this;cases this
  exact ⟨h1,by unfold AF;rw [h1];rfl⟩
theorem QD {L:List (List UInt8)} {i:Nat} (hi:L.length≤i) (h:(L.take i).all GH=true):BV L=true∧AF L=(L.take i).map HM:=by
  rw [List.take_of_length_le hi] at h ⊢;exact ⟨h,if_pos h⟩
theorem nall_step {L:List (List UInt8)} {i:Nat} (hi:i<L.length) (h:(L.take i).all GH=true) (hn:GH (L.getD i [])=true):(L.take (i+1)).all GH=true:=by
  rw [CN (d:=[]) hi,List.all_append,h,List.all_cons,hn];rfl
theorem nmap_step {L:List (List UInt8)} {i:Nat} (hi:i<L.length) {n:Int} (hn:n=HM (L.getD i [])):(L.take i).map HM++[n]=(L.take (i+1)).map HM:=by
  rw [CN (d:=[]) hi,List.map_append,hn];rfl
theorem dig_step {s:List UInt8} {k:Nat} (hk:k<s.length) (h:(s.take k).all LL=true) (h1:48≤CZ s k) (h2:CZ s k≤57):(s.take (k+1)).all LL=true:=by
  rw [CN (d:=0) hk,List.all_append,h,List.all_cons];have:LL (s.getD k 0)=true:=by
    unfold CZ at h1 h2;simp only [LL,Bool.and_eq_true,decide_eq_true_eq];omega
  rw [this];rfl
theorem numV_step {s:List UInt8} {k:Nat} (hk:k<s.length):10*HM (s.take k)+(CZ s k-48)=HM (s.take (k+1)):=by
  rw [CN (d:=0) hk,numV_snoc];rfl
theorem not_dig {s:List UInt8} {k:Nat} (hk:k<s.length) (h:CZ s k<48∨57<CZ s k):GH s=false:=by
  cases hn:GH s with
  | false=>rfl
  | true=>
    simp only [GH,Bool.and_eq_true] at hn;have:=List.all_eq_true.1 hn.2 _ (BM (d:=0) hk);unfold CZ at h;simp only [LL,Bool.and_eq_true,decide_eq_true_eq] at this;omega
theorem num_head_bad {s:List UInt8} (h:s.length<1∨3<s.length∨(CZ s 0=48∧1<s.length)):GH s=false:=by
  cases hn:GH s with
  | false=>rfl
  | true=>
    simp only [GH,Bool.and_eq_true,decide_eq_true_eq,Bool.not_eq_true',Bool.and_eq_false_iff,decide_eq_false_iff_not] at hn;obtain ⟨⟨⟨h1,h2⟩,h3⟩,_⟩:=hn;rcases h with h | h | ⟨h,h4⟩
    · omega
    · omega
    · rcases h3 with h3 | h3
      · exact absurd (UInt8.toNat_inj.1 (show (s.getD 0 0).toNat=(48:UInt8).toNat by unfold CZ at h;have:(48:UInt8).toNat=48:=rfl;omega)) h3
      · omega
theorem num_good {s:List UInt8} {k:Nat} (h1:1≤s.length) (h2:s.length≤3) (h3:¬ (CZ s 0=48∧1<s.length)) (hk:s.length≤k) (h:(s.take k).all LL=true):GH s=true∧HM (s.take k)=HM s:=by
  rw [List.take_of_length_le hk] at h ⊢;refine ⟨?_,rfl⟩;simp only [GH,Bool.and_eq_true,decide_eq_true_eq,Bool.not_eq_true',Bool.and_eq_false_iff,decide_eq_false_iff_not];refine ⟨⟨⟨h1,h2⟩,?_⟩,h⟩
  by_cases h4:1<s.length
  · refine .inl fun e=>h3 ⟨?_,h4⟩
    unfold CZ;rw [e];rfl
  · exact .inr h4
theorem dig_sub {s:List UInt8} {k:Nat} (h1:48≤CZ s k) (h2:CZ s k≤57):IntKind.i64.wrap (IntKind.u8.wrap (CG .sub (CZ s k) 48))=CZ s k-48:=by
  have e:IntKind.u8.wrap (CG .sub (CZ s k) 48)=CZ s k-48:=by
    show IntKind.u8.wrap (CZ s k-48)=_;have h3:IntKind.u8.signed=false:=rfl;have h4:(2:Int) ^ IntKind.u8.bits=256:=rfl;simp only [IntKind.wrap,h3,h4,Bool.false_and,Bool.false_eq_true,if_false];omega
  rw [e,IntWalk.i64_in _ (by omega)]
def rowsT (t:List UInt8):List (List UInt8):=(cutL 10 t).take ((cutL 10 t).length-1)
def lastT (t:List UInt8):List UInt8:=(cutL 10 t).getD ((cutL 10 t).length-1) []
theorem rows_at {t:List UInt8} {i:Nat} (hi:i<(cutL 10 t).length-1):(rowsT t).drop i=(cutL 10 t).getD i []::(rowsT t).drop (i+1):=by
  have hl:i<(rowsT t).length:=by unfold rowsT;rw [List.length_take];omega
  rw [drop_cons (d:=[]) hl]
  congr 1
  unfold rowsT;rw [List.getD_eq_getElem?_getD,List.getElem?_take,if_pos hi,← List.getD_eq_getElem?_getD]
section
variable {Y:Yard} {e:Bool} {row:List UInt8}
end
def tcY (Y:Yard) (W:List (List UInt8)):Yard:=if tcIs W=true then ⟨Y.cars++[tcV W],Y.room,Y.tracks⟩ else Y
def ttY (Y:Yard) (W:List (List UInt8)):Yard:=if W.length=2 then ⟨Y.cars,Y.room++[atoiV (Lib.cut (W.getD 1 []) [58]).1],Y.tracks++[restV (Lib.cut (W.getD 1 []) [58]).2.1]⟩ else Y
section
variable {W:List (List UInt8)} (h6:W.length=6) (hn:BV ((W.drop 1).take 4)=true)
include h6 hn
end
def YL (Y:Yard) (i:Nat):Prop:=Y.cars.length≤i∧Y.room.length≤i∧Y.tracks.length≤i∧Y.tracks.length=Y.room.length
theorem YL.c {Y:Yard} {i:Nat} (h:YL Y i) (W:List (List UInt8)):YL (tcY Y W) (i+1):=by
  unfold YL at h ⊢;unfold tcY
  split
  · simp only [List.length_append,List.length_cons,List.length_nil];omega
  · omega
theorem YL.t {Y:Yard} {i:Nat} (h:YL Y i) (W:List (List UInt8)):YL (ttY Y W) (i+1):=by
  unfold YL at h ⊢;unfold ttY
  split
  · simp only [List.length_append,List.length_cons,List.length_nil];omega
  · omega
theorem take_get {α:Type} {l:List α} {n i:Nat} {d:α} (h:i<n):(l.take n).getD i d=l.getD i d:=by
  rw [List.getD_eq_getElem?_getD,List.getElem?_take,if_pos h,← List.getD_eq_getElem?_getD]
section
variable {Y:Yard} {e:Bool} {row:List UInt8}
end
def moveW:List UInt8:=[109,111,118,101]
def useW:List UInt8:=[117,115,101]
def washW:List UInt8:=[119,97,115,104]
def countW:List UInt8:=[99,111,117,110,116]
def buyW:List UInt8:=[98,117,121]
def scrapW:List UInt8:=[115,99,114,97,112]
def SG:List UInt8:=[108,105,110,101,110]
def startW:List UInt8:=[115,116,97,114,116]
def keepW:List UInt8:=[107,101,101,112]
def IC:List UInt8:=[99,111,117,110,116,101,100]
def wordTab:List (Int × List UInt8):=[(1,moveW),(2,useW),(3,washW),(4,countW),(5,buyW),(6,scrapW)]
def JA (k:Int):List UInt8:=if k=1 then moveW else if k=2 then useW else if k=3 then washW else if k=4 then countW else if k=5 then buyW else if k=6 then scrapW else []
def HR (w:List UInt8):Int:=if w=moveW then 1 else if w=useW then 2 else if w=washW then 3 else if w=countW then 4 else if w=buyW then 5 else if w=scrapW then 6 else 0
def wordsV:List (Int × Value):=wordTab.map fun x=>(x.1,sV x.2)
theorem wordsV_eq:wordsV=[(1,sV moveW),(2,sV useW),(3,sV washW),(4,sV countW),(5,sV buyW),(6,sV scrapW)]:=rfl
theorem getKv_words (k:Int):(LI k wordsV).getD (sV [])=sV (JA k):=by
  rw [wordsV_eq];simp only [LI,JA,eq_comm (a:=(1:Int)),eq_comm (a:=(2:Int)),eq_comm (a:=(3:Int)),eq_comm (a:=(4:Int)),eq_comm (a:=(5:Int)),eq_comm (a:=(6:Int))]
  by_cases h1:k=1
  · subst h1;rfl
  by_cases h2:k=2
  · subst h2;rfl
  by_cases h3:k=3
  · subst h3;rfl
  by_cases h4:k=4
  · subst h4;rfl
  by_cases h5:k=5
  · subst h5;rfl
  by_cases h6:k=6
  · subst h6;rfl
  simp [h1,h2,h3,h4,h5,h6]
theorem upd_words:upd 6 (sV [115,99,114,97,112]) (upd 5 (sV [98,117,121]) (upd 4 (sV [99,111,117,110,116]) (upd 3 (sV [119,97,115,104]) (upd 2 (sV [117,115,101]) (upd (1:Int) (sV [109,111,118,101]) [])))))=wordsV:=by
  simp only [upd,wordsV_eq,moveW,useW,washW,countW,buyW,scrapW];rfl
theorem wordK_get {k:Int} (h0:0≤k) (h6:k≤6):([[],[109,111,118,101],[117,115,101],[119,97,115,104],[99,111,117,110,116],[98,117,121],[115,99,114,97,112]]:List (List UInt8)).getD k.toNat []=JA k:=by
  have:k=0∨k=1∨k=2∨k=3∨k=4∨k=5∨k=6:=by omega
  rcases this with h | h | h | h | h | h | h <;> subst h <;> rfl
theorem SZ (k:Int):(JA k).length≤5:=by
  unfold JA moveW useW washW countW buyW scrapW
  repeat' split
  all_goals simp
theorem wordTab_kind {y:Int × List UInt8} (h:y∈wordTab):HR y.2=y.1:=by
  simp only [wordTab,List.mem_cons,List.not_mem_nil,or_false] at h;rcases h with rfl | rfl | rfl | rfl | rfl | rfl <;> decide
theorem kindOf_word {k:Int} (h1:1≤k) (h6:k≤6):HR (JA k)=k:=by
  have:k=1∨k=2∨k=3∨k=4∨k=5∨k=6:=by omega
  rcases this with h | h | h | h | h | h <;> subst h <;> decide
theorem SC (w:List UInt8):0≤HR w∧HR w≤6:=by
  unfold HR
  repeat' split
  all_goals omega
theorem kindOf_mem {w:List UInt8} (h:HR w≠0):(HR w,w)∈wordTab:=by
  unfold HR at h ⊢;simp only [wordTab,List.mem_cons,List.not_mem_nil,or_false]
  by_cases h1:w=moveW
  · subst h1;simp
  by_cases h2:w=useW
  · subst h2;simp [h1]
  by_cases h3:w=washW
  · subst h3;simp [h1,h2]
  by_cases h4:w=countW
  · subst h4;simp [h1,h2,h3]
  by_cases h5:w=buyW
  · subst h5;simp [h1,h2,h3,h4]
  by_cases h6:w=scrapW
  · subst h6;simp [h1,h2,h3,h4,h5]
  simp [h1,h2,h3,h4,h5,h6] at h
theorem word_kindOf {w:List UInt8} (h:HR w≠0):JA (HR w)=w:=by
  have hm:=kindOf_mem h;simp only [wordTab,List.mem_cons,List.not_mem_nil,or_false,Prod.mk.injEq] at hm;rcases hm with ⟨a,b⟩ | ⟨a,b⟩ | ⟨a,b⟩ | ⟨a,b⟩ | ⟨a,b⟩ | ⟨a,b⟩ <;> rw [a,b] <;> rfl
def jn (w:List UInt8) (l:List Int):List UInt8:=w++l.flatMap fun n=>59::num n
theorem jn_nil (w:List UInt8):jn w []=w:=by simp [jn]
theorem jn_zero (w:List UInt8) (l:List Int):jn w (l.take 0)=w:=by rw [List.take_zero,jn_nil]
theorem jn_snoc (w:List UInt8) (l:List Int) (n:Int):jn w (l++[n])=jn w l++([59]++num n):=by simp [jn]
theorem jn_step {w:List UInt8} {l:List Int} {k:Nat} (hk:k<l.length):jn w (l.take k)++([59]++num (l.getD k 0))=jn w (l.take (k+1)):=by
  rw [CN (d:=0) hk,jn_snoc]
theorem jn_stepR {w:List UInt8} {l:List Int} {k:Nat} (hk:k<l.length):(jn w (l.take k)++[59])++num (l.getD k 0)=jn w (l.take (k+1)):=by
  rw [← jn_step hk,List.append_assoc]
theorem FQ {x:Int} (h:0≤x∧x<1000):(num x).length≤3:=by
  have:=(num_read h).1;simp only [GH,Bool.and_eq_true,decide_eq_true_eq] at this;exact this.1.1.2
theorem RD {w:List UInt8}:∀ {l:List Int},(∀ x∈l,0≤x∧x<1000)→(jn w l).length≤w.length+4*l.length
  | [],_=>by simp [jn]
  | x::r,h=>by
    have h1:=FQ (h x (List.mem_cons_self ..));have h2:=RD (w:=w) (l:=r) fun y hy=>h y (List.mem_cons_of_mem _ hy)
    simp only [jn,List.flatMap_cons,List.length_append,List.length_cons] at h2 ⊢;omega
theorem jn_take_le {w:List UInt8} {l:List Int} (h:∀ x∈l,0≤x∧x<1000) (k:Nat):(jn w (l.take k)).length≤w.length+4*l.length:=by
  have:=RD (w:=w) (l:=l.take k) fun x hx=>h x (List.mem_of_mem_take hx)
  rw [List.length_take] at this;omega
def sxA (s:Slip):List UInt8:=jn (JA s.kind) [s.num,s.hour,s.place]
def sxB (s:Slip):List UInt8:=if s.kind=1 then jn (sxA s) [s.to] else sxA s
def sxC (s:Slip):List UInt8:=jn (sxB s) [s.sort]
def RG (s:Slip):List UInt8:=if s.soil=true then [59,115] else [59,99]
def sxD (s:Slip):List UInt8:=if s.kind=1∨s.kind=4 then sxC s++RG s else sxC s
def RM (s:Slip):List UInt8:=jn (sxD s) [s.amt]
theorem sxB_t {s:Slip} (h:s.kind=1):jn (sxA s) [s.to]=sxB s:=(if_pos h).symm
theorem sxB_f {s:Slip} (h:¬ s.kind=1):sxA s=sxB s:=(if_neg h).symm
theorem markT_t {s:Slip} (h:s.soil=true):[59,115]=RG s:=(if_pos h).symm
theorem markT_f {s:Slip} (h:s.soil=false):[59,99]=RG s:=(if_neg (by rw [h];decide)).symm
theorem markT_le (s:Slip):(RG s).length≤2:=by unfold RG;split <;> simp
theorem sxD_t {s:Slip} (h:s.kind=1∨s.kind=4):sxC s++RG s=sxD s:=(if_pos h).symm
theorem sxD_f {s:Slip} (h:¬ (s.kind=1∨s.kind=4)):sxC s=sxD s:=(if_neg h).symm
structure ThreeS (s:Slip):Prop where
  num:0≤s.num∧s.num<1000
  hour:0≤s.hour∧s.hour<1000
  place:0≤s.place∧s.place<1000
  to:0≤s.to∧s.to<1000
  sort:0≤s.sort∧s.sort<1000
  amt:0≤s.amt∧s.amt<1000
section
variable {s:Slip} (h:ThreeS s)
include h
theorem ThreeS.abc:∀ x∈[s.num,s.hour,s.place],0≤x∧x<1000:=by
  intro x hx;simp only [List.mem_cons,List.not_mem_nil,or_false] at hx;rcases hx with rfl | rfl | rfl
  · exact h.num
  · exact h.hour
  · exact h.place
theorem sxA_le:(sxA s).length≤17:=by
  have h1:=RD (w:=JA s.kind) h.abc;have h2:=SZ s.kind;unfold sxA;simp only [List.length_cons,List.length_nil] at h1;omega
theorem sxB_le:(sxB s).length≤21:=by
  have h1:=sxA_le h;have h2:=RD (w:=sxA s) (l:=[s.to]) (by simpa using h.to);unfold sxB;simp only [List.length_cons,List.length_nil] at h2
  split <;> omega
theorem sxC_le:(sxC s).length≤25:=by
  have h1:=sxB_le h;have h2:=RD (w:=sxB s) (l:=[s.sort]) (by simpa using h.sort);unfold sxC;simp only [List.length_cons,List.length_nil] at h2;omega
theorem sxD_le:(sxD s).length≤27:=by
  have h1:=sxC_le h;have h2:(RG s).length=2:=by unfold RG;split <;> rfl
  unfold sxD
  split
  · rw [List.length_append];omega
  · omega
theorem slipT_le:(RM s).length≤31:=by
  have h1:=sxD_le h;have h2:=RD (w:=sxD s) (l:=[s.amt]) (by simpa using h.amt);unfold RM;simp only [List.length_cons,List.length_nil] at h2;omega
end
theorem one_three {x:Int} (h:0≤x∧x<1000):∀ y∈[x],0≤y∧y<1000:=by simpa using h
def keepT (k:Keep):List UInt8:=jn keepW [k.place,k.hour,k.who]
def headT (L:Lin):List UInt8:=jn SG [L.places,L.sorts]
def EX (L:Lin) (k:Nat):List (List UInt8):=headT L::(L.start.take k).map (jn startW)
def EW (L:Lin) (k:Nat):List (List UInt8):=EX L L.start.length++(L.keeps.take k).map keepT
def BS (L:Lin) (k:Nat):List (List UInt8):=EW L L.keeps.length++(L.slips.take k).map RM
def HL (L:Lin):List (List UInt8):=BS L L.slips.length++[IC]
def writeL (L:Lin):List UInt8:=Lib.join (HL L) [10]++[10]
def DP (L:Lin):List UInt8 × Int:=if AY L=0 then (writeL L,0) else ([],AY L)
theorem OU {L:Lin} (h:AY L≠0):DP L=([],AY L):=if_neg h
theorem RU {L:Lin} (h:AY L=0):DP L=(writeL L,0):=if_pos h
theorem starts_zero (L:Lin):[headT L]=EX L 0:=by simp [EX]
theorem starts_snoc {L:Lin} {k:Nat} (hk:k<L.start.length):EX L k++[jn startW (L.start.getD k [])]=EX L (k+1):=by
  unfold EX;rw [CN (d:=[]) hk,List.map_append,List.cons_append];rfl
theorem starts_done {L:Lin} {k:Nat} (hk:L.start.length≤k):EX L k=EW L 0:=by
  unfold EW EX;rw [List.take_of_length_le hk,List.take_zero,List.map_nil,List.append_nil,List.take_length]
theorem keepsT_snoc {L:Lin} {k:Nat} (hk:k<L.keeps.length):EW L k++[keepT (L.keeps.getD k AK)]=EW L (k+1):=by
  unfold EW;rw [CN (d:=AK) hk,List.map_append,List.append_assoc];rfl
theorem keepsT_done {L:Lin} {k:Nat} (hk:L.keeps.length≤k):EW L k=BS L 0:=by
  unfold BS EW;rw [List.take_of_length_le hk,List.take_zero,List.map_nil,List.append_nil,List.take_length]
theorem slipsT_snoc {L:Lin} {k:Nat} (hk:k<L.slips.length):BS L k++[RM (L.slips.getD k AB)]=BS L (k+1):=by
  unfold BS;rw [CN (d:=AB) hk,List.map_append,List.append_assoc];rfl
theorem slipsT_done {L:Lin} {k:Nat} (hk:L.slips.length≤k):BS L k++[IC]=HL L:=by
  unfold HL BS;rw [List.take_of_length_le hk,List.take_length]
theorem linesL_ne (L:Lin):HL L≠[]:=by simp [HL]
theorem RS (L:Lin) {k:Nat} (hk:k≤L.start.length):(EX L k).length=k+1:=by
  unfold EX;simp only [List.length_cons,List.length_map,List.length_take];omega
theorem RE (L:Lin) {k:Nat} (hk:k≤L.keeps.length):(EW L k).length=L.start.length+1+k:=by
  unfold EW;rw [List.length_append,RS L (Nat.le_refl _),List.length_map,List.length_take];omega
theorem RO (L:Lin) {k:Nat} (hk:k≤L.slips.length):(BS L k).length=L.start.length+1+L.keeps.length+k:=by
  unfold BS;rw [List.length_append,RE L (Nat.le_refl _),List.length_map,List.length_take];omega
theorem SJ {L:Lin} {s:Slip} (h:DN L s=0):(¬ s.kind=1→s.to=0)∧(s.soil=true→s.kind=1∨s.kind=4):=by
  unfold DN at h
  split at h;· omega
  split at h;· omega
  split at h;· omega
  split at h;· omega
  split at h;· omega
  split at h;· omega
  split at h;· omega
  rename_i h7
  split at h;· omega
  split at h;· omega
  rename_i h9
  refine ⟨fun hk=>Decidable.not_not.1 fun ht=>h7 ⟨hk,ht⟩,fun hs=>?_⟩
  by_cases h1:s.kind=1
  · exact .inl h1
  · exact .inr (Decidable.not_not.1 fun h4=>h9 ⟨hs,h1,h4⟩)
section
variable {L:Lin} (g:GoodL L)
include g
theorem GoodL.threeS {s:Slip} (hs:s∈L.slips):ThreeS s:=by
  have h:=LQ (g.slipOf hs);have hr:=SJ (g.slipOf hs);have hp:=g.places;have hso:=g.sorts;refine ⟨by omega,by omega,by omega,?_,by omega,by omega⟩
  by_cases hk:s.kind=1
  · have:=h.2.2.2.2.2.2 hk;omega
  · have:=hr.1 hk;omega
theorem GoodL.threeHead:∀ x∈[L.places,L.sorts],0≤x∧x<1000:=by
  intro x hx;have hp:=g.places;have hso:=g.sorts;simp only [List.mem_cons,List.not_mem_nil,or_false] at hx;rcases hx with rfl | rfl <;> omega
theorem GoodL.threeRow {r:List Int} (hr:r∈L.start):∀ x∈r,0≤x∧x<1000:=fun x hx=>by have:=g.nums r hr x hx;omega
theorem GoodL.keepBounds {k:Keep} (hk:k∈L.keeps):(0≤k.place∧k.place<1000)∧(0≤k.hour∧k.hour<1000)∧(0≤k.who∧k.who<1000):=by
  obtain ⟨i,hi,rfl⟩:=List.mem_iff_getElem.1 hk;have h:=g.keep i hi;have hp:=g.places;unfold FD at h;have e:L.keeps.getD i AK=L.keeps[i]:=by rw [List.getD_eq_getElem?_getD,List.getElem?_eq_getElem hi];rfl
  simp only [e] at h
  split at h;· omega
  rename_i h1
  split at h;· omega
  rename_i h2
  split at h;· omega
  rename_i h3
  have a1:=DI (by simpa using h1:inB L.keeps[i].place 0 (L.places-1)=true);have a2:=DI (by simpa using h2:inB L.keeps[i].hour 0 200=true);have a3:=DI (by simpa using h3:inB L.keeps[i].who 1 9=true);omega
theorem GoodL.threeKeep {k:Keep} (hk:k∈L.keeps):∀ x∈[k.place,k.hour,k.who],0≤x∧x<1000:=by
  have h:=g.keepBounds hk;intro x hx;simp only [List.mem_cons,List.not_mem_nil,or_false] at hx;rcases hx with rfl | rfl | rfl
  · exact h.1
  · exact h.2.1
  · exact h.2.2
theorem GoodL.headLe:(headT L).length≤13:=by
  have:=RD (w:=SG) g.threeHead;unfold headT;simp only [SG,List.length_cons,List.length_nil] at this ⊢;exact this
theorem GoodL.lineLe:∀ x∈HL L,x.length≤31:=by
  intro x hx;simp only [HL,BS,EW,EX,List.mem_append,List.mem_cons,List.mem_map,List.not_mem_nil,or_false] at hx;rcases hx with ((((rfl | ⟨r,hr,rfl⟩) | ⟨k,hk,rfl⟩) | ⟨s,hs,rfl⟩)) | rfl
  · have:=g.headLe;omega
  · have hr:=List.mem_of_mem_take hr
    have h1:=RD (w:=startW) (g.threeRow hr);have h2:=g.rows r hr;have h3:=g.sorts;have h4:startW.length=5:=rfl;omega
  · have hk:=List.mem_of_mem_take hk
    have h1:=RD (w:=keepW) (g.threeKeep hk);have h4:keepW.length=4:=rfl;simp only [List.length_cons,List.length_nil] at h1;unfold keepT;omega
  · exact slipT_le (g.threeS (List.mem_of_mem_take hs))
  · decide
theorem GoodL.linesLen:(HL L).length≤18:=by
  unfold HL;rw [List.length_append,RO L (Nat.le_refl _)];have:=g.start;have:=g.places;have:=g.keeps;have:=g.slips;simp only [List.length_cons,List.length_nil];omega
theorem GoodL.slipLe {s:Slip} (hs:s∈L.slips):(RM s).length≤25:=by
  have h:=LQ (g.slipOf hs);have hr:=SJ (g.slipOf hs);have hp:=g.places;have hso:=g.sorts;have ht:=g.threeS hs;have n1:=FQ ht.num;have n2:=FQ ht.hour;have n3:=FQ ht.amt;have n4:=num_one (x:=s.place) (by omega);have n5:=num_one (x:=s.sort) (by omega)
  have n6:=num_one (x:=s.to) (by
    by_cases hk:s.kind=1
    · have:=h.2.2.2.2.2.2 hk;omega
    · have:=hr.1 hk;omega)
  have n7:=SZ s.kind;have n8:(RG s).length=2:=by unfold RG;split <;> rfl
  have ha:(sxA s).length≤15:=by
    unfold sxA jn;simp only [List.flatMap_cons,List.flatMap_nil,List.length_append,List.length_cons,List.length_nil];omega
  have hb:(sxB s).length≤17:=by
    unfold sxB jn
    split
    · simp only [List.flatMap_cons,List.flatMap_nil,List.length_append,List.length_cons,List.length_nil];omega
    · omega
  have hc:(sxC s).length≤19:=by
    unfold sxC jn;simp only [List.flatMap_cons,List.flatMap_nil,List.length_append,List.length_cons,List.length_nil];omega
  have hd:(sxD s).length≤21:=by
    unfold sxD
    split
    · rw [List.length_append];omega
    · omega
  unfold RM jn;simp only [List.flatMap_cons,List.flatMap_nil,List.length_append,List.length_cons,List.length_nil];omega
theorem GoodL.textLe:(writeL L).length≤400:=by
  unfold writeL;rw [linesT_join (linesL_ne L)];unfold HL BS EW EX;simp only [List.take_length];have e:∀ a b:List (List UInt8),(BP (a++b)).length=(BP a).length+(BP b).length:=fun a b=>by simp [BP]
  rw [e,e,e,show headT L::L.start.map (jn startW)=[headT L]++L.start.map (jn startW) from rfl,e];have h1:=LP (m:=13) (l:=[headT L]) (by simpa using g.headLe);have h2:=LP (m:=13) (l:=L.start.map (jn startW)) fun x hx=>by
    obtain ⟨r,hr,rfl⟩:=List.mem_map.1 hx;have h1:=RD (w:=startW) (g.threeRow hr);have h2:=g.rows r hr;have h3:=g.sorts;have h4:startW.length=5:=rfl;omega
  have h3:=LP (m:=16) (l:=L.keeps.map keepT) fun x hx=>by
    obtain ⟨k,hk,rfl⟩:=List.mem_map.1 hx;have h1:=RD (w:=keepW) (g.threeKeep hk);have h4:keepW.length=4:=rfl;simp only [List.length_cons,List.length_nil] at h1;unfold keepT;omega
  have h4:=LP (m:=25) (l:=L.slips.map RM) fun x hx=>by
    obtain ⟨s,hs,rfl⟩:=List.mem_map.1 hx;exact g.slipLe hs
  have h5:(BP [IC]).length=8:=rfl;rw [List.length_map] at h2 h3 h4;have:=g.start;have:=g.places;have:=g.keeps;have:=g.slips;simp only [List.length_cons,List.length_nil] at h1;omega
theorem GoodL.joinLe:(Lib.join (HL L) [10]).length≤600:=by
  have h1:=join_le_of (s:=10) (n:=576) g.lineLe (by have:=g.linesLen;omega);omega
end
end Go.Sh
namespace Go.Sl
open Go
section
variable {P:Program} {N:Nat} {ops:Array Oper} {i:Nat} {l:Sl} {I:Imm} {M:Seg} {ty:TypeId} {gd:Option (Nat × Bool)} {K:Sl→Imm→Seg→Prop} {κ:Type} [DecidableEq κ] {enc:κ→Value}
theorem IB {x y u : Operand} {T kt et r cl : Nat} {es : Array MapEntry} {kvs : List (κ × Value)} {k : κ} {v : Value} (n : Nat) (hop : FM ops N i = some (none, .insert T x y u, ty, gd)) (hg : FJ ops l gd = some true)
    (hT:SP P T=some (kt,et)) (hK:KeyOk P kt enc) (hx:CC l x=some (.map (some r))) (hy:CC l y=some (enc k)) (hu:CC l u=some v) (hn:M[n]?=some (r,Obj.map es cl)) (hb:MapB enc es cl kvs)
    (h:∀ es' cl',MapB enc es' cl' (upd k v kvs)→K l I (M.set n (r,Obj.map es' cl'))):Stp P N ops i l I M K:=
  DH hop hg (known3 hx hy hu) (by
    obtain ⟨his,hbo⟩:=hb
    show wpL P (Instr.mapUpdate T (rho l x) (rho l y) (rho l u) >>= fun _=>pure Next.skip) _ I M
    rw [BA hx,BA hy,BA hu,AE]
    unfold Instr.mapUpdate
    rw [AE,AL (JN hT)]
    show wpL P (Sem.getObj r _) _ I M
    refine ⟨_,.inl (List.mem_of_getElem? hn),rfl,?_⟩
    show wpL P (Instr.checkKey _ _ _ _ >>= _) _ I _
    rw [AE]
    refine hK.check _ _ _ _ _ ?_
    rw [AE]
    refine hK.find k es.toList kvs _ _ _ his ?_
    have hf:=NR k v kvs 0
    cases hkv:FH k kvs 0 with
    | none=>
      rw [hkv] at hf
      simp only at hf
      show wpL P (Sem.setObj r _ _) _ I M
      refine FU n rfl hn rfl ?_
      refine ⟨undef,.inr ⟨rfl,rfl⟩,h _ _ ⟨?_,hbo.push _ _⟩⟩
      rw [hf.1]
      exact NU his k v cl
    | some p=>
      obtain ⟨j,w⟩:=p
      rw [hkv] at hf
      simp only [Nat.sub_zero] at hf
      obtain ⟨_,h1,_,h2⟩:=hf
      obtain ⟨_,_,h3⟩:=PH k kvs 0 j w hkv
      rw [Nat.sub_zero] at h3
      obtain ⟨e,he,hek,hev⟩:=key_at his h3
      have hold:((es[j]?).map (·.key)).getD (enc k)=enc k:=by rw [he];exact hek
      show wpL P (Instr.keyThatStays (((es[j]?).map (·.key)).getD (enc k)) (enc k) >>= _) _ I M
      rw [AE,hold]
      refine NL ?_
      show wpL P (Sem.setObj r _ _) _ I M
      refine FU n rfl hn rfl ?_
      refine ⟨undef,.inr ⟨rfl,rfl⟩,h _ _ ⟨?_,hbo.modify _ _ (fun _=>rfl)⟩⟩
      rw [h1]
      exact PZ his j k v _ rfl)
end
end Go.Sl
namespace Go.Sh
open Go Go.Sl
def strV (l:List (Int × List UInt8)):List (Int × Value):=l.map fun x=>(x.1,sV x.2)
def IsWords (I:Imm) (v:Value):Prop:=∃ r es cl,v=.map (some r)∧I.blk r=some (Obj.map es cl)∧MapB encI es cl (strV wordTab)
theorem getKv_word (k:Int):(LI k (strV wordTab)).getD (sV [])=sV (JA k):=getKv_words k
theorem words_of {es:Array MapEntry} {cl:Nat} (h:MapB encI es cl (upd 6 (sV [115,99,114,97,112]) (upd 5 (sV [98,117,121]) (upd 4 (sV [99,111,117,110,116]) (upd 3 (sV [119,97,115,104]) (upd 2 (sV [117,115,101]) (upd (1:Int) (sV [109,111,118,101]) []))))))):MapB encI es cl (strV wordTab):=by
  rw [upd_words] at h;exact h
section
variable {P:Program} {N:Nat} {ops:Array Oper} {i:Nat} {l:Sl} {I:Imm} {R M:Seg} {d:Nat} {ty:TypeId} {gd:Option (Nat × Bool)} {K:Sl→Imm→Seg→Prop}
theorem stp_nextS {x : Operand} {r cl b : Nat} {es : Array MapEntry} {seen : Array Nat} {todo : List (Int × List UInt8)} (n : Nat) (hop : FM ops N i = some (some d, .next x false, ty, gd)) (hg : FJ ops l gd = some true)
    (hx:CC l x=some (.pointer (some ⟨b,0,none⟩))) (hn:M[n]?=some (b,Obj.mapIter (some r) cl seen cl)) (hm:Holds I M r (.map es cl)) (hb:Borns es cl) (hl:Go.Sl.Left encI es seen (strV todo))
    (h0:todo=[]→K ((d,.tuple #[.bool false])::l) I M)
    (h1:∀ A (y:Int × List UInt8) B seen',todo=A++y::B→Go.Sl.Left encI es seen' (strV (A++B))→AtEntry encI es seen' (y.1,sV y.2)→K ((d,.tuple #[.bool true,.int .i64 y.1,sV y.2])::l) I (M.set n (b,Obj.mapIter (some r) cl seen' cl))):Stp P N ops i l I M K:=
  stp_next n hop hg hx hn hm hb hl (fun h=>h0 (by simpa [strV] using h)) fun A y B seen' e hl' ha=>by
    obtain ⟨A',y',B',rfl,rfl,rfl,rfl⟩:=map_cut (show todo.map _=A++y::B from e);exact h1 A' y' B' seen' rfl (by simpa [strV] using hl') ha
end
def KindAt (w:List UInt8) (k:Int) (todo:List (Int × List UInt8)):Prop:=(∀ y∈todo,y∈wordTab)∧(k=HR w∨k=0∧∀ y∈wordTab,y.2=w→y∈todo)
theorem KindAt.start (w:List UInt8):KindAt w 0 wordTab:=⟨fun _ h=>h,.inr ⟨rfl,fun _ h _=>h⟩⟩
theorem KindAt.hit {w:List UInt8} {k:Int} {A B:List (Int × List UInt8)} {y:Int × List UInt8} (h:KindAt w k (A++y::B)) (hy:y.2=w):KindAt w y.1 (A++B):=by
  refine ⟨fun z hz=>h.1 z (by simp only [List.mem_append,List.mem_cons] at hz ⊢;rcases hz with hz | hz <;> simp [hz]),.inl ?_⟩;rw [← hy,wordTab_kind (h.1 y (by simp))]
theorem KindAt.miss {w:List UInt8} {k:Int} {A B:List (Int × List UInt8)} {y:Int × List UInt8} (h:KindAt w k (A++y::B)) (hy:¬ y.2=w):KindAt w k (A++B):=by
  refine ⟨fun z hz=>h.1 z (by simp only [List.mem_append,List.mem_cons] at hz ⊢;rcases hz with hz | hz <;> simp [hz]),h.2.imp id fun ⟨h1,h2⟩=>⟨h1,fun z hz e=>?_⟩⟩;have:=h2 z hz e;simp only [List.mem_append,List.mem_cons] at this ⊢;rcases this with h | rfl | h
  · exact .inl h
  · exact absurd e hy
  · exact .inr h
theorem KindAt.done {w:List UInt8} {k:Int} {todo:List (Int × List UInt8)} (h:KindAt w k todo) (ht:todo=[]):k=HR w:=by
  subst ht;rcases h.2 with h | ⟨h1,h2⟩
  · exact h
  · by_cases hk:HR w=0
    · rw [h1,hk]
    · have:=h2 _ (kindOf_mem hk) rfl
      cases this
end Go.Sh
namespace Go.Sl
open Go
theorem IsSl.cutFull {α : Type} {sz : Nat} {cell : α → Nat → Value} {dflt : α} {I : Imm} {a : Option Addr} {n c : Nat} {xs : List α} (h : IsSl sz cell dflt I (.slice a n c) xs) (H : Nat) (hH : H ≤ n) :
    ∃ a',(Value.slice (if H=0 then a else a.map (·.add (0*sz))) (H-0) (H-0))=.slice a' (xs.take H).length (xs.take H).length∧IsSl sz cell dflt I (.slice a' (xs.take H).length (xs.take H).length) (xs.take H):=by
  obtain ⟨a2,c2,b,o,e,hc,hl,hr⟩:=h;simp only [Value.slice.injEq] at e;obtain ⟨rfl,rfl,rfl⟩:=e;have hn:(xs.take H).length=H:=by rw [List.length_take];omega
  refine ⟨if H=0 then a else a.map (·.add (0*sz)),by rw [hn,Nat.sub_zero],_,_,b,o,rfl,Nat.le_refl _,by omega,fun h0=>?_,fun i hi f hf=>?_⟩
  · rw [if_neg (by omega),hr.addr (by omega)];simp [Addr.add]
  · have:=hr.get i (by omega) f hf
    rw [show (xs.take H).getD i dflt=xs.getD i dflt from by rw [List.getD_eq_getElem?_getD,List.getElem?_take,if_pos (by omega),← List.getD_eq_getElem?_getD]];exact this
section
variable {P:Program} {N:Nat} {ops:Array Oper} {i:Nat} {l:Sl} {I:Imm} {R M:Seg} {d:Nat} {ty:TypeId} {gd:Option (Nat × Bool)} {K:Sl→Imm→Seg→Prop}
theorem known_opt {y:Operand} {v:Value} (h:CC l y=some v):∀ z∈(some y).toArray,LO l z:=fun z hz=>by
  simp at hz;subst hz;exact DZ h
theorem det_slice3 {x y u : Operand} {T e : TypeId} {sz n c : Nat} {k k' : IntKind} {a : Option Addr} (H : Nat) (hop : FM ops N i = some (some d, .slice T x none (some y) (some u), ty, gd)) (hg : FJ ops l gd = some true)
    (hT:HS P T=some e) (hsz:EF P e=some sz) (hx:CC l x=some (.slice a n c)) (hy:CC l y=some (.int k (H:Int))) (hu:CC l u=some (.int k' (H:Int)))
    (hH:H≤c):Det P N ops i l I R d (.slice (if H=0 then a else a.map (·.add (0*sz))) (H-0) (H-0)):=
  EZ hop hg (by
    intro z hz
    simp only [Op.operands] at hz
    simp only [Array.mem_append] at hz
    rcases hz with ((hz | hz) | hz) | hz
    · exact MM hx z hz
    · simp at hz
    · exact known_opt hy z hz
    · exact known_opt hu z hz) fun I' M'=>by
    show wpL P (Instr.sliceAt T (rho l x) ((none:Option Operand).map (rho l)) ((some y).map (rho l)) ((some u).map (rho l)) >>= fun x=>pure (Next.value x)) _ I' M';rw [BA hx];refine CY ?_;unfold Instr.sliceAt;rw [AE,AL (CT hT)];show wpL P (Instr.slice T _ _ _ _) _ I' M';unfold Instr.slice;rw [AE,AL (CT hT)];simp only;rw [AE];unfold Instr.sliceBounds;simp only [Option.map_none,Option.map_some,AE,CL];refine DS (BA hu) ⟨by omega,by omega⟩ ?_;simp only [Int.toNat_natCast];refine DS (BA hy) ⟨by omega,by omega⟩ ?_;rw [CM hsz];simp only [Int.toNat_natCast]
    first | exact ⟨rfl,rfl⟩ | exact ⟨trivial,trivial⟩
theorem OJ {α : Type} {x y : Operand} {T T' E E' sz bs : Nat} {z : Value} {cell : α → Nat → Value} {dflt : α} {a : Option Addr} {n : Nat} {u : Value} {xs ys : List α}
    (hop:FM ops N i=some (some d,.call { callee:=.builtin .append,args:=#[x,y],argTypes:=#[T,T'] },ty,gd)) (hg:FJ ops l gd=some true)
    (hT:HS P T=some E) (hsz:EF P E=some sz) (hz:IW P E=some z) (hzc:z.cells.size=sz) (hb:KZ P E=some bs) (hbs:1≤bs∧bs≤256) (hT':HS P T'=some E')
    (hx:CC l x=some (.slice a n n)) (hy:CC l y=some u) (his:IsSl sz cell dflt I (.slice a n n) xs) (hsrc:Src I M u ys.length (CS sz cell ys)) (hpos:1≤ys.length)
    (hneed:xs.length+ys.length≤274877906944)
    (next:∀ v' Ms',Own E sz cell v' (xs++ys) Ms'→K ((d,v')::l) I (Ms'++M)):Stp P N ops i l I M K:=by
  refine KA hop hg ?_ (List.Perm.refl _) ?_
  · intro o ho
    simp only [Op.operands,Call.operands] at ho;simp at ho;rcases ho with rfl | rfl
    · exact DZ hx
    · exact DZ hy
  have hold:Src I M (.slice a n n) xs.length (CS sz cell xs):=his.src;obtain ⟨av,cv,bv,ov,hv,hcv,_,_⟩:=his;simp only [Value.slice.injEq] at hv;obtain ⟨rfl,hn,rfl⟩:=hv;obtain ⟨au,cu,hu,hsrc'⟩:=hsrc;have hsrc:Src I M u ys.length (CS sz cell ys):=⟨au,cu,hu,hsrc'⟩;have hinfo:∃ inf,P.info? E=some inf∧inf.bytes=bs:=by
    unfold KZ at hb;cases hi:P.info? E with
    | none=>rw [hi] at hb;cases hb
    | some inf=>rw [hi] at hb;exact ⟨inf,rfl,by simpa using hb⟩
  obtain ⟨inf,hinf,hbytes⟩:=hinfo;have hly:(CS sz cell ys).length=ys.length*sz:=BU sz cell ys;have hlx:(CS sz cell xs).length=xs.length*sz:=BU sz cell xs;have main:wpL P (Builtin.append_ #[T,T'] ty #[.slice a n n,u]) (fun r M'=>∃ M'',M''.Sublist M'∧∃ Ms',Own E sz cell r (xs++ys) Ms'∧M''=Ms'++M) I M:=by
    unfold Builtin.append_;subst hu;simp only [List.getElem?_toArray,List.getElem?_cons_zero,List.getElem?_cons_succ,AE,AL (CT hT),CM hsz,AL (CT hT'),CL,Builtin.lenOf];simp only [Bool.false_eq_true,if_false,Bool.not_false,if_true,CL,false_or];rw [AE,CL];rw [if_neg (show ¬ (n+ys.length≤n) by omega)];have hcv':n<n+ys.length:=by omega
    subst hn;rw [AE,CV hinf,if_neg (show ¬ (((xs.length+ys.length:Nat):Int)>IntKind.i64.max∧inf.bytes=0) from fun h=>by have:=h.2;omega)]
    rw [AE,CV hinf,if_neg (show ¬ (Builtin.nextslicecap (xs.length+ys.length) xs.length*inf.bytes>2 ^ 48) from fun h=>by
      have h1:=JU hcv'
      have h2:Builtin.nextslicecap (xs.length+ys.length) xs.length*inf.bytes≤(2*(xs.length+ys.length)+1000)*256:=Nat.mul_le_mul h1 (by omega)
      omega)]
    rw [AE];show (if (Question.appendCap (xs.length+ys.length) xs.length E).forced then _ else ∀ t,_);rw [if_neg (by simp [Question.forced])];intro t;show wpL P (typeInfo E >>= _) _ I _;rw [AE,CV hinf,AE];have hask:∀ (n:Nat) (Q:Unit→Seg→Prop),Q () M→wpL P (askRoom n) Q I M:=fun n Q hq=>by
      unfold askRoom
      split <;> exact hq
    refine hask _ _ ?_;rw [AE];refine GU hold hlx ?_;rw [AE];refine GU hsrc hly ?_;rw [AE,DT hz,AE];intro b;have hcap:xs.length+ys.length≤Question.cut (.appendCap (xs.length+ys.length) xs.length E) t:=by simp [Question.cut]
    generalize Question.cut (.appendCap (xs.length+ys.length) xs.length E) t=nc at hcap
    refine ⟨[(b,Obj.cells (CS sz cell (xs++ys)++(Builtin.zeroCells z.cells (nc-(xs.length+ys.length))).toList).toArray E (0,0))]++M,?_,_,.inr ⟨b,nc,_,by simp,by simpa using hcap,rfl,?_⟩,rfl⟩
    · have e : (CS sz cell xs).toArray ++ (CS sz cell ys).toArray ++ Builtin.zeroCells z.cells (nc - (xs.length + ys.length)) = (CS sz cell (xs ++ ys) ++ (Builtin.zeroCells z.cells (nc - (xs.length + ys.length))).toList).toArray := by
        apply Array.ext'
        simp [MA]
      rw [e];exact List.Sublist.refl _
    · have e1:(Builtin.zeroCells z.cells (nc-(xs.length+ys.length))).toList.length=(nc-(xs.length+ys.length))*sz:=by rw [Array.length_toList,JC,hzc]
      have e2:=BU sz cell (xs++ys);rw [List.length_append,e1,e2,List.length_append,← Nat.add_mul,Nat.add_sub_cancel' hcap]
  unfold ML execOp resolve;simp only [List.map_toArray,List.map_cons,List.map_nil,BA hx,BA hy];show wpL P (Builtin.append_ #[T,T'] ty #[.slice a n n,u] >>= fun x=>pure (Next.value x)) _ I _;refine CY ?_;refine wpL_mono (fun r M' ⟨M'',hsub,Ms',hown,e⟩=>?_) main;subst e;exact ⟨r,_,.inl rfl,hsub,next r Ms' hown⟩
end
section
variable {P:Program} {N:Nat} {ops:Array Oper} {i:Nat} {l:Sl} {I:Imm} {R M:Seg} {ty:TypeId} {gd:Option (Nat × Bool)}
theorem det_neIface {x:Operand} {T T':TypeId} {v:Value} {b:Bool} {d:Nat} (hop:FM ops N i=some (some d,.binOp .neq T x (.const .nilIface) T',ty,gd)) (hg:FJ ops l gd=some true) (hT:tyIface P T=true) (hx:CC l x=some v) (hb:isNI v=some b):Det P N ops i l I R d (.bool (!b)):=
  EZ hop hg (HK hx rfl) fun I' M'=>by
    show wpL P ((do eqGuard .neq T x (.const .nilIface) (rho l x) .nilIface;binOp .neq T (rho l x) .nilIface) >>= fun x=>pure (Next.value x)) _ I' M';rw [BA hx];refine CY ?_;obtain ⟨ms,hms⟩:∃ ms,P.underlying T=some (.interface ms):=by
      unfold tyIface at hT
      split at hT
      · rename_i ms h;exact ⟨ms,h⟩
      · cases hT
    have e1:eqGuard .neq T x (.const .nilIface) v .nilIface=pure ():=by
      cases v <;> simp [isNI] at hb <;> simp [eqGuard]
    rw [e1];show wpL P (binOp .neq T v .nilIface) _ I' M';cases v <;> simp [isNI] at hb <;> subst hb
    all_goals
      first
        | show wpL P (Op.equalIn 10000 T .nilIface .nilIface >>= fun b=>pure (Value.bool (!b))) _ I' M'
        | show wpL P (Op.equalIn 10000 T (.iface _ _) .nilIface >>= fun b=>pure (Value.bool (!b))) _ I' M'
      rw [AE];unfold Op.equalIn;rw [AE,AL hms];exact ⟨rfl,rfl⟩
end
end Go.Sl
namespace Go.Proofs.YtgcemienebmdeaaGreatDoor
open Go Go.Sl Go.Sh
set_option maxRecDepth 100000
noncomputable def c_joined:=cod Tryz.f66
theorem JS (I:Imm) (wd:List UInt8) (z:Value) (xs:List Int) (z_f:CP I z xs) (hG:TextG I) (h3:∀ x∈xs,0≤x∧x<1000) (hw:wd.length≤1000∧xs.length≤1000):CtV Tryz.prog 66 #[sV wd,z] I (sV (jn wd xs)):=by
 obtain ⟨a1,a2,a8,b1,rfl,a9,b0,a3⟩:=id z_f;refine fr (args:=[_,_]) (N:=20) Tryz.func66 (fun F=>?_);show Run _ _ (c_joined []) _ _ [(0,_),(1,_)] _ _;refine rnm (rqr ?_);refine sp 1 [(4,sV ([]:List UInt8))] (se (rq (rqr (sp 3 [(9,vI 0),(8,vI (↑(xs.length))),(7,vS a1 xs.length a2)] (CE 0 rfl (show (sV wd:Value)=sV (jn wd (xs.take 0)) from congrArg sV (jn_zero wd xs).symm) (se (rb 0 ?_)))))));refine rl (fun mz a w=>∃ k:Nat,(k≤xs.length)∧SD 20 [(0,sV (jn wd (xs.take k))),(9,vI ↑k),(4,sV ([]:List UInt8)),(7,vS a1 xs.length a2),(8,vI (↑(xs.length)))] I F a w (mz=xs.length-k)) ?_ ?_
 ·intro a w hS hD hW;exact ⟨_,0,Nat.zero_le _,hS.sub su,hD,hW,rfl⟩
 rintro mz a w ⟨k,hk,hS,hD,hW,rfl⟩
 refine AP hS hD hW ?_;clear hS hD hW a w;have a6:=jn_take_le (w:=wd) h3 k;refine rqr (sp 1 [(10,.bool (cmp .lss ↑k (↑(xs.length))))] (se (rq (rc 10 rfl (fun h1=>?_) (fun h1=>?_)))))
 ·
  have a0:=h1;have h1:=BW h1;refine AM (NX (rq (rb 1 (rqr (sd (di 11 1 k a3.addr) (sd (dl 12 (BL a3 k (by omega))) (sp 1 [(6,vI (xs.getD k 0))] (se ?_))))))));have a4:=h3 _ (RZ (xs:=xs) (k:=k) (by omega));have a7:(Lib.itoa (xs.getD k 0)).length≤3:=FQ a4;refine rr (sp 2 [(14,vI (xs.getD k 0)),(13,sV (jn wd (xs.take k)))] (sd (dc 15 (fun I' hI=>(LX I' (xs.getD k 0) (by first | assumption | exact TextG.mono (by assumption) hI) (by omega) :))) (sd (dct 16 (.const (.string { data:=#[59] })) (.tmp 15) 9 rfl rfl) (sd (dct 17 (.tmp 13) (.tmp 16) 9 rfl rfl) (sp 1 [(0,sV ((jn wd (xs.take k))++(([59]:List UInt8)++(num (xs.getD k 0)))))] (ee (NB (NX (rr (sd (da 18 ↑k 1) (sp 1 [(9,vI (↑k+1))] (ee ?_))))))))))));refine AN (xs.length-(k+1)) (by omega) ?_;intro a w hS hD hW;exact ⟨k+1,by omega,hS.sub (.consE 0 rfl (congrArg sV (jn_step (by omega))) su),hD,hW,rfl⟩
 have a0:=h1;have h1:=CB h1;refine BX 0 (EP (EP (EB (NX (rqr (sp 2 [(4,sV (jn wd (xs.take k)))] (se (BF (rt1 4 rfl (IR _) ?_)))))))));exact ⟨congrArg sV (by rw [List.take_of_length_le (by omega)]),rfl⟩
noncomputable def c_words:=cod Tryz.f103
theorem words_ct (I:Imm):Ct Tryz.prog 103 #[] I ([]) (fun v I' M'=>∃ u:Value,v=u∧M'=[]∧IsWords I' u):=by
 refine fr (args:=[]) (N:=3) Tryz.func103 (fun F=>?_);show Run _ _ (c_words []) _ _ [] _ _;refine rnm (rqr ?_);refine sp 1 [(0,.map none)] (sn (sS (JZ (d:=1) (T:=170) (ty:=170) (gd:=none) (by kernel_rfl) rfl (fun b1=>(sS (IB (x:=(.tmp 1)) (y:=(.const (vI 1))) (u:=(.const (.string { data:=#[109,111,118,101] }))) (T:=170) (kt:=3) (et:=9) (k:=(1:Int)) (v:=sV ([109,111,118,101]:List UInt8)) (kvs:=[]) 0 (ty:=0) (gd:=none) (by kernel_rfl) rfl (by kernel_rfl) (FA (DO (by kernel_rfl))) rfl rfl rfl rfl (MapB.nil encI 0) (fun b6 b0 a2=>(nm ?_))))))));refine sS (IB (x:=(.tmp 1)) (y:=(.const (vI 2))) (u:=(.const (.string { data:=#[117,115,101] }))) (T:=170) (kt:=3) (et:=9) (k:=(2:Int)) (v:=sV ([117,115,101]:List UInt8)) (kvs:=(upd (1:Int) (sV ([109,111,118,101]:List UInt8)) [])) 0 (ty:=0) (gd:=none) (by kernel_rfl) rfl (by kernel_rfl) (FA (DO (by kernel_rfl))) rfl rfl rfl rfl a2 (fun b7 b2 a3=>(nm ?_)));refine sS (IB (x:=(.tmp 1)) (y:=(.const (vI 3))) (u:=(.const (.string { data:=#[119,97,115,104] }))) (T:=170) (kt:=3) (et:=9) (k:=(3:Int)) (v:=sV ([119,97,115,104]:List UInt8)) (kvs:=(upd (2:Int) (sV ([117,115,101]:List UInt8)) (upd (1:Int) (sV ([109,111,118,101]:List UInt8)) []))) 0 (ty:=0) (gd:=none) (by kernel_rfl) rfl (by kernel_rfl) (FA (DO (by kernel_rfl))) rfl rfl rfl rfl a3 (fun b8 b3 a4=>(nm ?_)));refine sS (IB (x:=(.tmp 1)) (y:=(.const (vI 4))) (u:=(.const (.string { data:=#[99,111,117,110,116] }))) (T:=170) (kt:=3) (et:=9) (k:=(4:Int)) (v:=sV ([99,111,117,110,116]:List UInt8)) (kvs:=(upd (3:Int) (sV ([119,97,115,104]:List UInt8)) (upd (2:Int) (sV ([117,115,101]:List UInt8)) (upd (1:Int) (sV ([109,111,118,101]:List UInt8)) [])))) 0 (ty:=0) (gd:=none) (by kernel_rfl) rfl (by kernel_rfl) (FA (DO (by kernel_rfl))) rfl rfl rfl rfl a4 (fun b9 b4 a5=>(nm ?_)));refine sS (IB (x:=(.tmp 1)) (y:=(.const (vI 5))) (u:=(.const (.string { data:=#[98,117,121] }))) (T:=170) (kt:=3) (et:=9) (k:=(5:Int)) (v:=sV ([98,117,121]:List UInt8)) (kvs:=(upd (4:Int) (sV ([99,111,117,110,116]:List UInt8)) (upd (3:Int) (sV ([119,97,115,104]:List UInt8)) (upd (2:Int) (sV ([117,115,101]:List UInt8)) (upd (1:Int) (sV ([109,111,118,101]:List UInt8)) []))))) 0 (ty:=0) (gd:=none) (by kernel_rfl) rfl (by kernel_rfl) (FA (DO (by kernel_rfl))) rfl rfl rfl rfl a5 (fun c0 b5 a6=>(nm ?_)));refine sS (IB (x:=(.tmp 1)) (y:=(.const (vI 6))) (u:=(.const (.string { data:=#[115,99,114,97,112] }))) (T:=170) (kt:=3) (et:=9) (k:=(6:Int)) (v:=sV ([115,99,114,97,112]:List UInt8)) (kvs:=(upd (5:Int) (sV ([98,117,121]:List UInt8)) (upd (4:Int) (sV ([99,111,117,110,116]:List UInt8)) (upd (3:Int) (sV ([119,97,115,104]:List UInt8)) (upd (2:Int) (sV ([117,115,101]:List UInt8)) (upd (1:Int) (sV ([109,111,118,101]:List UInt8)) [])))))) 0 (ty:=0) (gd:=none) (by kernel_rfl) rfl (by kernel_rfl) (FA (DO (by kernel_rfl))) rfl rfl rfl rfl a6 (fun a9 a8 a7=>(nm ?_)));refine QI (b:=b1) (o:=Obj.map a9 a8) (M0:=(F)) (PR _) (fun I9 a0 a1=>(sp 2 [(0,.map (some b1))] (se (BF (rt1 0 rfl a0 ?_)))));exact ⟨_,rfl,rfl,⟨_,_,_,rfl,a1,words_of a7⟩⟩
end Go.Proofs.YtgcemienebmdeaaGreatDoor
namespace Go.Sh
open Go Go.Sl
def kd (W:List (List UInt8)):Int:=HR (W.getD 0 [])
def CR (k:Int):Bool:=decide (k=1)||decide (k=4)
def many4 (k:Int):Nat:=if k=1 then 6 else 5
def CD (W:List (List UInt8)):List UInt8:=W.getD (W.length-2) []
def AX (W:List (List UInt8)):List (List UInt8):=if CR (kd W)=true then (W.drop 1).take (W.length-3)++[W.getD (W.length-1) []] else W.drop 1
def ND (W:List (List UInt8)):Bool:=if CR (kd W)=true then decide (3≤W.length)&&(decide (CD W=[99])||decide (CD W=[115])) else true
def CF (W:List (List UInt8)):Bool:=decide (kd W≠0)&&(ND W&&(BV (AX W)&&decide ((AX W).length=many4 (kd W))))
def slipOf (k:Int) (b:Bool) (l:List Int):Slip:=⟨l.getD 0 0,l.getD 1 0,k,l.getD 2 0,if k=1 then l.getD 3 0 else 0,l.getD (many4 k-2) 0,b,l.getD (many4 k-1) 0⟩
def SL (W:List (List UInt8)):Bool:=CR (kd W)&&decide (CD W=[115])
def slipV (W:List (List UInt8)):Slip:=slipOf (kd W) (SL W) (AF (AX W))
def KB (W:List (List UInt8)):Bool:=decide (W.getD 0 []=IC)&&decide (W.length=1)
def GP (W:List (List UInt8)):Bool:=decide (W.getD 0 []=SG)&&(BV (W.drop 1)&&decide ((W.drop 1).length=2))
def GA (W:List (List UInt8)):Bool:=decide (W.getD 0 []=startW)&&BV (W.drop 1)
def HJ (W:List (List UInt8)):Bool:=decide (W.getD 0 []=keepW)&&(BV (W.drop 1)&&decide ((W.drop 1).length=3))
def BN (W:List (List UInt8)):Int:=if KB W=true then 5 else if CF W=true then 4 else if GP W=true then 1 else if GA W=true then 2 else if HJ W=true then 3 else 0
def lnum (W:List (List UInt8)) (i:Nat):Int:=(AF (W.drop 1)).getD i 0
def DB (L:Lin) (W:List (List UInt8)):Lin:=
  if BN W=4 then ⟨L.places,L.sorts,L.start,L.keeps,L.slips++[slipV W]⟩
  else if BN W=1 then ⟨lnum W 0,lnum W 1,L.start,L.keeps,L.slips⟩
  else if BN W=2 then ⟨L.places,L.sorts,L.start++[AF (W.drop 1)],L.keeps,L.slips⟩
  else if BN W=3 then ⟨L.places,L.sorts,L.start,L.keeps++[⟨lnum W 0,lnum W 1,lnum W 2⟩],L.slips⟩
  else L
def okM (W:List (List UInt8)) (i:Nat) (b:Int):Bool:=!(decide (BN W=0)||decide (BN W<b)||decide (b=5)||(decide (BN W=1) != decide (i=0)))
def readI (last:List UInt8):List (List UInt8)→Nat→Lin→Int→Lin × Int
  | [],i,L,b=>if b=5∧last=[] then (L,0) else (L,(i:Int)+1)
  | row::rows,i,L,b=>if okM (cutL 59 row) i b=true then readI last rows (i+1) (DB L (cutL 59 row)) (BN (cutL 59 row)) else (DB L (cutL 59 row),(i:Int)+1)
def BR (t:List UInt8):Lin × Int:=readI (lastT t) (rowsT t) 0 JH 0
def AU (t:List UInt8):Lin × Int × Int:=
  if 400<t.length then (JH,0,10) else if (BR t).2≠0 then (JH,(BR t).2,2) else if AY (BR t).1=0 then ((BR t).1,0,0) else (JH,0,AY (BR t).1)
theorem readLE_long {t:List UInt8} (h:400<t.length):AU t=(JH,0,10):=if_pos h
section
variable {t:List UInt8} (h:t.length≤400)
include h
theorem JL {e:Int} (he:(BR t).2=e) (hn:e≠0):AU t=(JH,e,2):=by
  subst he;unfold AU;rw [if_neg (by omega),if_pos hn]
theorem readLE_err (he:(BR t).2=0) (hc:¬ AY (BR t).1=0):AU t=(JH,0,AY (BR t).1):=by
  unfold AU;rw [if_neg (by omega),if_neg (by omega),if_neg hc]
theorem readLE_fine (he:(BR t).2=0) (hc:AY (BR t).1=0):AU t=((BR t).1,0,0):=by
  unfold AU;rw [if_neg (by omega),if_neg (by omega),if_pos hc]
end
def IZ (t:List UInt8) (i:Nat) (L:Lin) (b:Int):Prop:=readI (lastT t) ((rowsT t).drop i) i L b=BR t
theorem readW_start (t:List UInt8):IZ t 0 JH 0:=rfl
section
variable {t:List UInt8} {i:Nat} {L:Lin} {b:Int}
theorem readW_go (hi:i<(cutL 10 t).length-1) (ho:okM (cutL 59 ((cutL 10 t).getD i [])) i b=true) (h:IZ t i L b):IZ t (i+1) (DB L (cutL 59 ((cutL 10 t).getD i []))) (BN (cutL 59 ((cutL 10 t).getD i []))):=by
  unfold IZ at h ⊢;rw [← h,rows_at hi,readI,if_pos ho]
theorem SX (hi:i<(cutL 10 t).length-1) (ho:okM (cutL 59 ((cutL 10 t).getD i [])) i b=false) (h:IZ t i L b):BR t=(DB L (cutL 59 ((cutL 10 t).getD i [])),(i:Int)+1):=by
  unfold IZ at h;rw [← h,rows_at hi,readI,if_neg (by rw [ho];decide)]
theorem readW_end (hi:(cutL 10 t).length-1≤i) (h:IZ t i L b):BR t=if b=5∧lastT t=[] then (L,0) else (L,(i:Int)+1):=by
  unfold IZ at h;rw [← h,List.drop_of_length_le (by unfold rowsT;rw [List.length_take];omega)];rfl
theorem QG (hi:(cutL 10 t).length-1≤i) (h:IZ t i L b) (hb:¬ b=5∨¬ lastT t=[]):BR t=(L,(i:Int)+1):=by
  rw [readW_end hi h,if_neg]
  rintro ⟨h1,h2⟩
  rcases hb with hb | hb
  · exact hb h1
  · exact hb h2
theorem RK (hi:(cutL 10 t).length-1≤i) (h:IZ t i L b) (hb:b=5) (hl:lastT t=[]):BR t=(L,0):=by
  rw [readW_end hi h,if_pos ⟨hb,hl⟩]
end
theorem kd_no {W:List (List UInt8)} (h:W.getD 0 []=startW∨W.getD 0 []=keepW∨W.getD 0 []=IC∨W.getD 0 []=SG):CF W=false:=by
  have:kd W=0:=by unfold kd;rcases h with h | h | h | h <;> rw [h] <;> decide
  unfold CF;rw [this];rfl
section
variable {W:List (List UInt8)}
theorem JB {w v:List UInt8} (h:W.getD 0 []=w) (hn:w≠v):decide (W.getD 0 []=v)=false:=by rw [h];exact decide_eq_false hn
theorem takeK_fin (h:KB W=true):BN W=5:=if_pos h
theorem takeK_slip (hf:KB W=false) (h:CF W=true):BN W=4:=by unfold BN;rw [hf,if_neg (by decide),if_pos h]
theorem takeK_head (h:W.getD 0 []=SG):BN W=if BV (W.drop 1)=true∧(W.drop 1).length=2 then 1 else 0:=by
  have e1:KB W=false:=by unfold KB;rw [JB h (by decide)];rfl
  have e2:GA W=false:=by unfold GA;rw [JB h (by decide)];rfl
  have e3:HJ W=false:=by unfold HJ;rw [JB h (by decide)];rfl
  have e4:GP W=(BV (W.drop 1)&&decide ((W.drop 1).length=2)):=by unfold GP;rw [decide_eq_true h];rfl
  unfold BN;rw [e1,kd_no (.inr (.inr (.inr h))),e2,e3,e4];simp only [Bool.and_eq_true,decide_eq_true_eq]
  by_cases hc:BV (W.drop 1)=true∧(W.drop 1).length=2
  · rw [if_pos hc,if_pos hc];simp
  · rw [if_neg hc,if_neg hc];simp
theorem takeK_start (h:W.getD 0 []=startW):BN W=if BV (W.drop 1)=true then 2 else 0:=by
  have e1:KB W=false:=by unfold KB;rw [JB h (by decide)];rfl
  have e2:GP W=false:=by unfold GP;rw [JB h (by decide)];rfl
  have e3:HJ W=false:=by unfold HJ;rw [JB h (by decide)];rfl
  have e4:GA W=BV (W.drop 1):=by unfold GA;rw [decide_eq_true h];rfl
  unfold BN;rw [e1,kd_no (.inl h),e2,e3,e4]
  by_cases hc:BV (W.drop 1)=true
  · rw [if_pos hc,if_pos hc];simp
  · rw [if_neg hc,if_neg hc];simp
theorem takeK_keep (h:W.getD 0 []=keepW):BN W=if BV (W.drop 1)=true∧(W.drop 1).length=3 then 3 else 0:=by
  have e1:KB W=false:=by unfold KB;rw [JB h (by decide)];rfl
  have e2:GP W=false:=by unfold GP;rw [JB h (by decide)];rfl
  have e3:GA W=false:=by unfold GA;rw [JB h (by decide)];rfl
  have e4:HJ W=(BV (W.drop 1)&&decide ((W.drop 1).length=3)):=by unfold HJ;rw [decide_eq_true h];rfl
  unfold BN;rw [e1,kd_no (.inr (.inl h)),e2,e3,e4];simp only [Bool.and_eq_true,decide_eq_true_eq]
  by_cases hc:BV (W.drop 1)=true∧(W.drop 1).length=3
  · rw [if_pos hc];simp
  · rw [if_neg hc];simp
theorem QP (h:W.getD 0 []=IC):BN W=if W.length=1 then 5 else 0:=by
  have e2:GP W=false:=by unfold GP;rw [JB h (by decide)];rfl
  have e3:GA W=false:=by unfold GA;rw [JB h (by decide)];rfl
  have e4:HJ W=false:=by unfold HJ;rw [JB h (by decide)];rfl
  have e1:KB W=decide (W.length=1):=by unfold KB;rw [decide_eq_true h];rfl
  unfold BN;rw [kd_no (.inr (.inr (.inl h))),e2,e3,e4,e1];simp
theorem takeK_other (h1:¬ W.getD 0 []=startW) (h2:¬ W.getD 0 []=keepW) (h3:¬ W.getD 0 []=IC) (hs:CF W=true):BN W=4:=takeK_slip (by unfold KB;rw [decide_eq_false h3];rfl) hs
theorem takeK_none (h1:¬ W.getD 0 []=startW) (h2:¬ W.getD 0 []=keepW) (h3:¬ W.getD 0 []=IC) (hs:CF W=false):BN W≤1:=by
  unfold BN KB GA HJ;rw [decide_eq_false h3,hs,decide_eq_false h1,decide_eq_false h2];simp only [Bool.false_and,Bool.false_eq_true,if_false]
  split <;> omega
theorem takeK_bound (W:List (List UInt8)):0≤BN W∧BN W≤5:=by
  unfold BN
  repeat' split
  all_goals omega
def LLen (L:Lin) (i:Nat):Prop:=L.start.length≤i∧L.keeps.length≤i∧L.slips.length≤i
theorem LLen.take {L:Lin} {i:Nat} (h:LLen L i) (W:List (List UInt8)):LLen (DB L W) (i+1):=by
  obtain ⟨h1,h2,h3⟩:=h;unfold DB LLen
  repeat' split
  all_goals (try simp only [List.length_append,List.length_cons,List.length_nil]);omega
theorem okM_t {i:Nat} {b:Int} (h0:BN W≠0) (h1:¬ BN W<b) (h2:¬ b=5) (h3:BN W=1↔i=0):okM W i b=true:=by
  have e:decide (BN W=1)=decide (i=0):=decide_eq_decide.2 h3;unfold okM;rw [decide_eq_false h0,decide_eq_false h1,decide_eq_false h2,e];simp
theorem okM_f {i:Nat} {b:Int} (h:BN W=0∨BN W<b∨b=5∨¬ (BN W=1↔i=0)):okM W i b=false:=by
  unfold okM;rcases h with h | h | h | h
  · rw [decide_eq_true h];simp
  · rw [decide_eq_true h];simp
  · rw [decide_eq_true h];simp
  · have e : (decide (BN W = 1) != decide (i = 0)) = true := by
      by_cases h1:BN W=1 <;> by_cases h2:i=0 <;> simp [h1,h2] at h ⊢
    rw [e];simp
end
section
variable {L:Lin} {k:Nat} {x:List UInt8}
theorem mem_starts (h:x∈EX L k):x∈HL L:=by
  simp only [HL,BS,EW,EX,List.mem_append,List.mem_cons,List.mem_map,List.not_mem_nil,or_false] at h ⊢;rcases h with h | ⟨r,hr,h⟩
  · exact .inl (.inl (.inl (.inl h)))
  · exact .inl (.inl (.inl (.inr ⟨r,by rw [List.take_length];exact List.mem_of_mem_take hr,h⟩)))
theorem mem_keepsT (h:x∈EW L k):x∈HL L:=by
  unfold EW at h;rcases List.mem_append.1 h with h | h
  · exact mem_starts h
  · obtain ⟨r,hr,h⟩:=List.mem_map.1 h
    simp only [HL,BS,EW,List.mem_append,List.mem_map];exact .inl (.inl (.inr ⟨r,by rw [List.take_length];exact List.mem_of_mem_take hr,h⟩))
theorem mem_slipsT (h:x∈BS L k):x∈HL L:=by
  unfold BS at h;rcases List.mem_append.1 h with h | h
  · exact mem_keepsT h
  · obtain ⟨r,hr,h⟩:=List.mem_map.1 h
    simp only [HL,BS,List.mem_append,List.mem_map];exact .inl (.inr ⟨r,by rw [List.take_length];exact List.mem_of_mem_take hr,h⟩)
theorem GoodL.linesLe (g:GoodL L) {A:List (List UInt8)} (hA:∀ x∈A,x∈HL L) (hn:A.length≤18):(BP A).length≤600:=by
  have h1:=LP (m:=31) (l:=A) fun x hx=>g.lineLe x (hA x hx)
  omega
theorem GoodL.startsLe (g:GoodL L) (hk:k≤L.start.length):(BP (EX L k)).length≤600:=
  g.linesLe (fun _ h=>mem_starts h) (by rw [RS L hk];have:=g.start;have:=g.places;omega)
theorem GoodL.keepsLe (g:GoodL L) (hk:k≤L.keeps.length):(BP (EW L k)).length≤600:=
  g.linesLe (fun _ h=>mem_keepsT h) (by rw [RE L hk];have:=g.start;have:=g.places;have:=g.keeps;omega)
theorem GoodL.slipsLe (g:GoodL L) (hk:k≤L.slips.length):(BP (BS L k)).length≤600:=
  g.linesLe (fun _ h=>mem_slipsT h) (by rw [RO L hk];have:=g.start;have:=g.places;have:=g.keeps;have:=g.slips;omega)
theorem headLine (L:Lin):jn [108,105,110,101,110] [L.places,L.sorts]++[10]=BP (EX L 0):=by
  rw [← starts_zero];show headT L++[10]=_;simp [BP]
theorem startLine (hk:k<L.start.length):BP (EX L k)++(jn [115,116,97,114,116] (L.start.getD k [])++[10])=BP (EX L (k+1)):=by
  rw [← starts_snoc hk,ME];rfl
theorem keepLine (hk:k<L.keeps.length):BP (EW L k)++(jn [107,101,101,112] [(L.keeps.getD k AK).place,(L.keeps.getD k AK).hour,(L.keeps.getD k AK).who]++[10])=BP (EW L (k+1)):=by
  rw [← keepsT_snoc hk,ME];rfl
theorem slipLineA (T:List UInt8) (s:Slip):((((((T++JA s.kind)++[59])++num s.num)++[59])++num s.hour)++[59])++num s.place=T++sxA s:=by
  unfold sxA jn;simp only [List.flatMap_cons,List.flatMap_nil,List.append_assoc,List.cons_append,List.nil_append,List.append_nil]
theorem slipLineB {T:List UInt8} {s:Slip} (h:s.kind=1):((T++sxA s)++[59])++num s.to=T++sxB s:=by
  rw [← sxB_t h];unfold jn;simp only [List.flatMap_cons,List.flatMap_nil,List.append_assoc,List.cons_append,List.nil_append,List.append_nil]
theorem slipLineBn {T:List UInt8} {s:Slip} (h:¬ s.kind=1):T++sxA s=T++sxB s:=by rw [sxB_f h]
theorem slipLineC (T:List UInt8) (s:Slip):((T++sxB s)++[59])++num s.sort=T++sxC s:=by
  unfold sxC jn;simp only [List.flatMap_cons,List.flatMap_nil,List.append_assoc,List.cons_append,List.nil_append,List.append_nil]
theorem marks4_t {k:Int} (h:CR k=true):k=1∨k=4:=by simpa [CR] using h
theorem marks4_f {k:Int} (h:CR k=false):¬ (k=1∨k=4):=by simpa [CR] using h
theorem slipLineD1 {T:List UInt8} {s:Slip} (h:CR s.kind=true) (hs:s.soil=true):(T++sxC s)++[59,115]=T++sxD s:=by
  rw [← sxD_t (marks4_t h),← markT_t hs,List.append_assoc]
theorem slipLineD2 {T:List UInt8} {s:Slip} (h:CR s.kind=true) (hs:s.soil=false):(T++sxC s)++[59,99]=T++sxD s:=by
  rw [← sxD_t (marks4_t h),← markT_f hs,List.append_assoc]
theorem slipLineD3 {T:List UInt8} {s:Slip} (h:CR s.kind=false):T++sxC s=T++sxD s:=by rw [sxD_f (marks4_f h)]
theorem slipLineE (hk:k<L.slips.length):(((BP (BS L k)++sxD (L.slips.getD k AB))++[59])++num (L.slips.getD k AB).amt)++[10]=BP (BS L (k+1)):=by
  rw [← slipsT_snoc hk,ME];unfold RM jn;simp only [List.flatMap_cons,List.flatMap_nil,List.append_assoc,List.cons_append,List.nil_append,List.append_nil]
theorem allLine (hk:L.slips.length≤k):BP (BS L k)++[99,111,117,110,116,101,100,10]=writeL L:=by
  unfold writeL;rw [linesT_join (linesL_ne L),← slipsT_done hk,ME];rfl
end
def wantN (q:Int):Nat:=if q=1 then 8 else if q=4 then 7 else 6
def mkN (q:Int):Nat:=if CR q=true then 7 else 6
theorem mkN_t {q:Int} (h:CR q=true):(7:Int)=((mkN q:Nat):Int):=by rw [mkN,if_pos h];rfl
theorem mkN_f {q:Int} (h:CR q=false):(6:Int)=((mkN q:Nat):Int):=by rw [mkN,if_neg (by rw [h];decide)];rfl
theorem want_1 {q:Int} (h:q=1):(8:Int)=((wantN q:Nat):Int):=by rw [wantN,if_pos h];rfl
theorem want_mk {q:Int} (h:¬ q=1):mkN q=wantN q:=by
  unfold mkN wantN CR;rw [decide_eq_false h,if_neg h];simp
theorem want_mark {q:Int} (h:CR q=true):wantN q=many4 q+2:=by
  rcases marks4_t h with rfl | rfl <;> rfl
theorem want_no {q:Int} (h:CR q=false):wantN q=6∧many4 q=5∧¬ q=1:=by
  have:=marks4_f h;simp only [not_or] at this;unfold wantN many4;rw [if_neg this.1,if_neg this.1,if_neg this.2];exact ⟨rfl,rfl,this.1⟩
theorem PY (q:Int):5≤many4 q∧many4 q≤6:=by unfold many4;split <;> omega
theorem words_step {w:List UInt8} {k:Nat} (hno:∀ r:Nat,r<k→JA (↑r+1)≠w) (h:¬ w=JA (↑k+1)):∀ r:Nat,r<k+1→JA (↑r+1)≠w:=fun r hr e=>by
  by_cases hk:r=k
  · subst hk;exact h e.symm
  · exact hno r (by omega) e
theorem OA {w:List UInt8} {k:Nat} (hno:∀ r:Nat,r<k→JA (↑r+1)≠w) (hk:6≤k):HR w=0:=Classical.byContradiction fun h=>by
  have hb:=SC w;have hw:=word_kindOf h;refine hno (HR w-1).toNat (by omega) ?_;rw [show (((HR w-1).toNat:Nat):Int)+1=HR w by omega,hw]
section
variable {W:List (List UInt8)} {q:Int}
theorem kd_word (h:W.getD 0 []=JA q) (h1:1≤q) (h6:q≤6):kd W=q:=by unfold kd;rw [h];exact kindOf_word h1 h6
theorem ownP_mark (hm:CR (kd W)=true) (h3:3≤W.length):AX W=(W.drop 1).take ((W.drop 1).length-2)++[(W.drop 1).getD ((W.drop 1).length-1) []]:=by
  unfold AX;rw [if_pos hm,List.length_drop]
  congr 2
  rw [List.getD_eq_getElem?_getD,List.getD_eq_getElem?_getD,List.getElem?_drop,show 1+(W.length-1-1)=W.length-1 by omega]
theorem ownP_no (hm:CR (kd W)=false):AX W=W.drop 1:=by unfold AX;rw [if_neg (by rw [hm];decide)]
theorem mark_at (h3:3≤W.length):(W.drop 1).getD ((W.drop 1).length-2) []=CD W:=by
  unfold CD;rw [List.length_drop,List.getD_eq_getElem?_getD,List.getD_eq_getElem?_getD,List.getElem?_drop,show 1+(W.length-1-2)=W.length-2 by omega]
theorem ownP_len (h3:3≤W.length):(AX W).length=if CR (kd W)=true then W.length-2 else W.length-1:=by
  unfold AX
  split
  · simp only [List.length_append,List.length_take,List.length_drop,List.length_cons,List.length_nil];omega
  · rw [List.length_drop]
theorem slip_kd (h:kd W=0):CF W=false:=by unfold CF;rw [h];rfl
theorem QL (hk:kd W=q) (h:¬ W.length=wantN q):CF W=false:=by
  subst hk;cases hs:CF W with
  | false=>rfl
  | true=>
    exfalso
    simp only [CF,Bool.and_eq_true,decide_eq_true_eq] at hs;obtain ⟨_,hm,_,hl⟩:=hs
    by_cases h4:CR (kd W)=true
    · have h3 : 3 ≤ W.length := by
        unfold ND at hm;rw [if_pos h4] at hm;simp only [Bool.and_eq_true,decide_eq_true_eq] at hm;exact hm.1
      rw [ownP_len h3,if_pos h4] at hl;have:=want_mark h4;omega
    · have h4:CR (kd W)=false:=by simpa using h4
      have hw:=want_no h4;rw [ownP_no h4,List.length_drop] at hl;omega
theorem RN (hm:CR (kd W)=true) (h:W.length<3):CF W=false:=QL rfl (by have:=want_mark hm;have:=PY (kd W);omega)
theorem QM (hm:CR (kd W)=true) (h1:¬ CD W=[99]) (h2:¬ CD W=[115]):CF W=false:=by
  unfold CF ND;rw [if_pos hm,decide_eq_false h1,decide_eq_false h2];simp
theorem slip_nums (h:BV (AX W)=false):CF W=false:=by unfold CF;rw [h];simp
theorem slip_yes (h0:kd W≠0) (hm:ND W=true) (hn:BV (AX W)=true) (hl:(AX W).length=many4 (kd W)):CF W=true:=by
  unfold CF;rw [decide_eq_true h0,hm,hn,decide_eq_true hl];rfl
theorem markOk_t (hm:CR (kd W)=true) (h3:3≤W.length) (h:CD W=[99]∨CD W=[115]):ND W=true:=by
  unfold ND;rw [if_pos hm,decide_eq_true h3];rcases h with h | h <;> rw [h] <;> rfl
theorem markOk_f (hm:CR (kd W)=false):ND W=true:=by unfold ND;rw [if_neg (by rw [hm];decide)]
theorem soil_t (hm:CR (kd W)=true):decide (CD W=[115])=SL W:=by unfold SL;rw [hm];rfl
theorem soil_f (hm:CR (kd W)=false):false=SL W:=by unfold SL;rw [hm];rfl
theorem SY {l : List Int} {b : Bool} {t s a : Int} (hk : kd W = q) (hb : b = SL W) (hl : l = AF (AX W)) (ht : t = if q = 1 then l.getD 3 0 else 0) (hs : s = l.getD (many4 q - 2) 0) (ha : a = l.getD (many4 q - 1) 0) :
    (⟨l.getD 0 0,l.getD 1 0,q,l.getD 2 0,t,s,b,a⟩:Slip)=slipV W:=by
  subst hk hb hl ht hs ha;rfl
end
def KR (W:List (List UInt8)):Int:=if BN W≤1 then 0 else BN W-1
def GC (L:Lin) (W:List (List UInt8)):Lin:=if BN W≤1 then L else DB L W
section
variable {L:Lin} {W:List (List UInt8)}
theorem KR_t {c:Int} (h:BN W=c) (hc:2≤c):KR W=c-1:=by unfold KR;rw [h,if_neg (by omega)]
theorem KR_f (h:BN W≤1):KR W=0:=if_pos h
theorem yr_no (h:BN W≤1):GC L W=L:=if_pos h
theorem y_no (h:BN W=0∨BN W=5):DB L W=L:=by
  unfold DB;rcases h with h | h <;> rw [h] <;> rfl
theorem y_head (h:BN W=1):DB L W=⟨lnum W 0,lnum W 1,L.start,L.keeps,L.slips⟩:=by unfold DB;rw [h];rfl
theorem y_start (h:BN W=2):DB L W=⟨L.places,L.sorts,L.start++[AF (W.drop 1)],L.keeps,L.slips⟩:=by unfold DB;rw [h];rfl
theorem y_keep (h:BN W=3):DB L W=⟨L.places,L.sorts,L.start,L.keeps++[⟨lnum W 0,lnum W 1,lnum W 2⟩],L.slips⟩:=by unfold DB;rw [h];rfl
theorem y_slip (h:BN W=4):DB L W=⟨L.places,L.sorts,L.start,L.keeps,L.slips++[slipV W]⟩:=by unfold DB;rw [h];rfl
theorem yr_fin (h:BN W=5):GC L W=L:=by unfold GC;rw [h,if_neg (by decide),y_no (.inr h)]
theorem yr_start (h:BN W=2):GC L W=⟨L.places,L.sorts,L.start++[AF (W.drop 1)],L.keeps,L.slips⟩:=by unfold GC;rw [h,if_neg (by decide),y_start h]
theorem yr_keep (h:BN W=3):GC L W=⟨L.places,L.sorts,L.start,L.keeps++[⟨lnum W 0,lnum W 1,lnum W 2⟩],L.slips⟩:=by unfold GC;rw [h,if_neg (by decide),y_keep h]
theorem yr_slip (h:BN W=4):GC L W=⟨L.places,L.sorts,L.start,L.keeps,L.slips++[slipV W]⟩:=by unfold GC;rw [h,if_neg (by decide),y_slip h]
end
def RB (i:Nat) (b nw:Int):Prop:=(i=0∧b=0∧nw=0)∨(1≤i∧1≤b∧b≤5∧nw=b-1)
theorem RB.start:RB 0 0 0:=.inl ⟨rfl,rfl,rfl⟩
section
variable {L:Lin} {W:List (List UInt8)} {i:Nat} {b nw:Int}
theorem RB.bounds (h:RB i b nw):0≤nw∧nw≤4:=by unfold RB at h;omega
theorem RB.zero (h:RB i b nw) (hi:i=0):b=0∧nw=0:=by unfold RB at h;omega
theorem RB.not5 (h:RB i b nw) (hn:¬ nw=4):¬ b=5:=by unfold RB at h;omega
theorem RB.is5 (h:RB i b nw) (hn:nw=4):b=5:=by unfold RB at h;omega
theorem ok0_yes (h:BN W=1):okM W 0 0=true:=okM_t (by omega) (by omega) (by decide) ⟨fun _=>rfl,fun _=>h⟩
theorem ok0_no (h:¬ BN W=1):okM W 0 0=false:=okM_f (.inr (.inr (.inr fun hh=>h (hh.2 rfl))))
theorem ok_no (hb:RB i b nw) (hi:¬ i=0) (h:KR W<nw∨KR W<1∨4≤nw):okM W i b=false:=by
  have hk:=takeK_bound W;unfold RB at hb;refine okM_f ?_;unfold KR at h
  by_cases h1:BN W≤1
  · by_cases h0:BN W=0
    · exact .inl h0
    · exact .inr (.inr (.inr fun hh=>hi (hh.1 (by omega))))
  · rw [if_neg h1] at h
    by_cases h5:b=5
    · exact .inr (.inr (.inl h5))
    · exact .inr (.inl (by omega))
theorem ok_yes (hb:RB i b nw) (hi:¬ i=0) (h1:¬ KR W<nw) (h2:¬ KR W<1) (h4:nw<4):okM W i b=true∧GC L W=DB L W∧RB (i+1) (BN W) (KR W):=by
  have hk:=takeK_bound W;unfold RB at hb;have h3:¬ BN W≤1:=fun hh=>h2 (by rw [KR_f hh];decide)
  have e:KR W=BN W-1:=if_neg h3;rw [e] at h1 h2 ⊢;exact ⟨okM_t (by omega) (by omega) (by omega) ⟨fun hh=>by omega,fun hh=>absurd hh hi⟩,if_neg h3,.inr ⟨by omega,by omega,by omega,rfl⟩⟩
end
theorem lineL_le {t:List UInt8} (h:t.length≤400) {i:Nat} (hi:i<(cutL 10 t).length):((cutL 10 t).getD i []).length≤400:=by
  have:=OS (b:=10) (s:=t) _ (BM (d:=[]) hi);omega
theorem wordsL_le {t:List UInt8} (h:t.length≤400):(1≤(cutL 59 t).length∧(cutL 59 t).length≤401)∧∀ x∈cutL 59 t,x.length≤1000:=by
  refine ⟨⟨List.length_pos_iff.2 (cutL_ne 59 _),by have:=cutL_len_le (b:=59) (s:=t);omega⟩,fun x hx=>?_⟩;have:=OS (b:=59) (s:=t) x hx;omega
section
variable {W:List (List UInt8)} {i:Nat} {b:Int}
theorem takeK_one (h:BN W=1):W.getD 0 []=SG∧BV (W.drop 1)=true∧(W.drop 1).length=2:=by
  unfold BN at h
  split at h;· omega
  split at h;· omega
  split at h
  · rename_i hh
    simp only [GP,Bool.and_eq_true,decide_eq_true_eq] at hh;exact hh
  · split at h;· omega
    split at h <;> omega
theorem head_cond (W:List (List UInt8)):(!(decide (W.getD 0 []=[108,105,110,101,110]))||(!(BV (W.drop 1))||!(cmp .eql (((AF (W.drop 1)).length:Nat):Int) 2)))=!decide (BN W=1):=by
  by_cases h:BN W=1
  · obtain ⟨h1,h2,h3⟩:=takeK_one h
    have hl:=HN h2;have h1:W.getD 0 []=[108,105,110,101,110]:=h1;rw [decide_eq_true h,decide_eq_true h1,h2,hl,h3];rfl
  · rw [decide_eq_false h]
    by_cases h1:W.getD 0 []=SG
    · rw [takeK_head h1] at h
      have h1':W.getD 0 []=[108,105,110,101,110]:=h1;rw [decide_eq_true h1'];cases h2:BV (W.drop 1) with
      | false=>rfl
      | true=>
        have hl:=HN h2;rw [hl];have h3:¬ (W.drop 1).length=2:=fun h3=>h (if_pos ⟨h2,h3⟩)
        have:cmp .eql (((W.drop 1).length:Nat):Int) 2=false:=by
          simp only [cmp,decide_eq_false_iff_not];omega
        rw [this];rfl
    · have h1':¬ W.getD 0 []=[108,105,110,101,110]:=h1
      rw [decide_eq_false h1'];rfl
theorem ok0_yes' (hi:i=0) (hb:b=0) (h:BN W=1):okM W i b=true:=by subst hi hb;exact ok0_yes h
theorem ok0_no' (hi:i=0) (hb:b=0) (h:¬ BN W=1):okM W i b=false:=by subst hi hb;exact ok0_no h
end
section
variable {W:List (List UInt8)} {q:Int}
theorem mark_atI (h3:3≤W.length):(W.drop 1).getD (((((W.drop 1).length:Nat):Int)-2).toNat) []=CD W:=by
  rw [← mark_at h3]
  congr 1
  omega
theorem many_t (h:q=1):(6:Int)=((many4 q:Nat):Int):=by rw [many4,if_pos h];rfl
theorem many_f (h:¬ q=1):(5:Int)=((many4 q:Nat):Int):=by rw [many4,if_neg h];rfl
theorem ownP_mem (h1:1≤W.length) {x:List UInt8} (hx:x∈AX W):x∈W:=by
  unfold AX at hx
  split at hx
  · rcases List.mem_append.1 hx with hx | hx
    · exact List.mem_of_mem_drop (List.mem_of_mem_take hx)
    · rw [List.mem_singleton] at hx
      subst hx;exact BM (by omega)
  · exact List.mem_of_mem_drop hx
theorem slip_parts (h:CF W=true):kd W≠0∧BV (AX W)=true∧(AF (AX W)).length=many4 (kd W):=by
  simp only [CF,Bool.and_eq_true,decide_eq_true_eq] at h;exact ⟨h.1,h.2.2.1,(HN h.2.2.1).trans h.2.2.2⟩
theorem slip_cond (hm:ND W=true):(!(BV (AX W))||(cmp .eql (kd W) 0||!(cmp .eql (((AF (AX W)).length:Nat):Int) ((many4 (kd W):Nat):Int))))=!CF W:=by
  unfold CF;rw [hm];have e1:cmp .eql (kd W) 0=decide (kd W=0):=rfl;have e2:∀ a b:Nat,cmp .eql (a:Int) (b:Int)=decide (a=b):=fun a b=>by
    show decide ((a:Int)=b)=_;exact decide_eq_decide.2 (by omega)
  rw [e1,e2];cases hn:BV (AX W) with
  | false=>simp
  | true=>
    rw [HN hn]
    by_cases h0:kd W=0 <;> by_cases hl:(AX W).length=many4 (kd W) <;> simp [h0,hl]
end
section
variable {W:List (List UInt8)} {L:Lin}
theorem cmp_len (a:Nat) (b:Nat):cmp .eql (a:Int) (b:Int)=decide (a=b):=by
  show decide ((a:Int)=b)=_;exact decide_eq_decide.2 (by omega)
theorem fin_cond (W:List (List UInt8)):(decide (W.getD 0 []=[99,111,117,110,116,101,100])&&cmp .eql ((W.length:Nat):Int) 1)=KB W:=by
  unfold KB;rw [show (1:Int)=((1:Nat):Int) from rfl,cmp_len];rfl
theorem head_cond2 (hn:BV (W.drop 1)=true):(decide (W.getD 0 []=[108,105,110,101,110])&&cmp .eql (((AF (W.drop 1)).length:Nat):Int) 2)=GP W:=by
  unfold GP;rw [show (2:Int)=((2:Nat):Int) from rfl,cmp_len,HN hn,hn];rfl
theorem keep_cond2 (hn:BV (W.drop 1)=true):(decide (W.getD 0 []=[107,101,101,112])&&cmp .eql (((AF (W.drop 1)).length:Nat):Int) 3)=HJ W:=by
  unfold HJ;rw [show (3:Int)=((3:Nat):Int) from rfl,cmp_len,HN hn,hn];rfl
theorem start_cond2 (hn:BV (W.drop 1)=true):decide (W.getD 0 []=[115,116,97,114,116])=GA W:=by
  unfold GA;rw [hn,Bool.and_true];rfl
theorem tk1 (hf:KB W=false) (hs:CF W=false) (hh:GP W=true):BN W=1:=by unfold BN;rw [hf,hs,hh];rfl
theorem tk2 (hf:KB W=false) (hs:CF W=false) (hh:GP W=false) (h:GA W=true):BN W=2:=by unfold BN;rw [hf,hs,hh,h];rfl
theorem tk3 (hf:KB W=false) (hs:CF W=false) (hh:GP W=false) (h:GA W=false) (hk:HJ W=true):BN W=3:=by unfold BN;rw [hf,hs,hh,h,hk];rfl
theorem tk0 (hf:KB W=false) (hs:CF W=false) (hh:GP W=false) (h:GA W=false) (hk:HJ W=false):BN W=0:=by unfold BN;rw [hf,hs,hh,h,hk];rfl
theorem tk0n (hf:KB W=false) (hs:CF W=false) (hn:BV (W.drop 1)=false):BN W=0:=
  tk0 hf hs (by unfold GP;rw [hn];simp) (by unfold GA;rw [hn];simp) (by unfold HJ;rw [hn];simp)
theorem headIs_len (h:GP W=true):(W.drop 1).length=2:=by simp only [GP,Bool.and_eq_true,decide_eq_true_eq] at h;exact h.2.2
theorem keepIs_len (h:HJ W=true):(W.drop 1).length=3:=by simp only [HJ,Bool.and_eq_true,decide_eq_true_eq] at h;exact h.2.2
end
theorem ok_cond (W:List (List UInt8)) (i:Nat) (b:Int):(cmp .eql (BN W) 0||(cmp .lss (BN W) b||(cmp .eql b 5||!(cmp .eql (BN W) 1 == cmp .eql (i:Int) 0))))=!okM W i b:=by
  unfold okM;rw [Bool.not_not,Bool.or_assoc,Bool.or_assoc];have e:cmp .eql (i:Int) 0=decide (i=0):=cmp_len i 0;rw [e];rfl
theorem ownP_le {W:List (List UInt8)} (h:1≤W.length∧W.length≤1000):(AX W).length≤1000:=by
  unfold AX
  split
  · simp only [List.length_append,List.length_take,List.length_drop,List.length_cons,List.length_nil];omega
  · rw [List.length_drop];omega
end Go.Sh
namespace Go.Proofs.YtgcemienebmdeaaGreatDoor
open Go Go.Sl Go.Sh
set_option maxRecDepth 100000
noncomputable def c_numbers:=cod Tryz.f151
set_option maxHeartbeats 1000000 in
theorem numbers_ct (I:Imm) (l:Value) (L:List (List UInt8)) (l_f:MS I l L) (hG:TextG I) (hL:L.length≤1000000) (hLs:∀ x∈L,x.length≤1000):Ct Tryz.prog 151 #[l] I ([]) (fun v I' M'=>∃ u0:Value,v=.tuple #[u0,.bool (BV L)]∧M'=[]∧CP I' u0 (AF L)):=by
 obtain ⟨d1,d2,e6,e9,rfl,e7,e8,b9⟩:=id l_f;refine fr (args:=[_]) (N:=43) Tryz.func151 (fun F=>?_);show Run _ _ (c_numbers []) _ _ [(0,_)] _ _;refine rnm (rqr ?_);refine sp 2 [(3,.bool false),(2,vN)] (sn (sp 1 [(4,vN)] (se (rq (rqr (sp 3 [(11,vI 0),(10,vI (↑(L.length))),(9,vS d1 L.length d2)] (se (rb 0 ?_))))))));refine rl (fun mz a w=>∃ J0:Imm,∃ k:Nat,∃ a9:Value,∃ a1:Seg,(I.le J0)∧(k≤L.length)∧((L.take k).all GH=true)∧(Own 3 1 AO a9 ((L.take k).map HM) a1)∧SD 43 [(4,a9),(11,vI ↑k),(9,vS d1 L.length d2),(10,vI (↑(L.length)))] J0 (a1++F) a w (mz=L.length-k)) ?_ ?_
 ·intro a w hS hD hW;exact ⟨_,I,0,(vN),[],IR _,Nat.zero_le _,rfl,(Own.nil _ _ _),hS.sub su,hD,hW,rfl⟩
 rintro mz a w ⟨J0,k,a9,a1,hJ0,hk,b4,a8,hS,hD,hW,rfl⟩
 refine AP hS hD hW ?_;replace b9:=b9.mono hJ0;replace hG:=hG.mono hJ0;obtain ⟨a2,a3,rfl,c0⟩:=a8.shape;refine rqr (sp 1 [(12,.bool (cmp .lss ↑k (↑(L.length))))] (se (rq (rc 12 rfl (fun h1=>?_) (fun h1=>?_)))))
 ·
  have c8:=h1;have h1:=BW h1;refine AM (NX (rq (rb 1 (rqr (sd (di 13 1 k b9.addr) (sd (dl 14 (DF b9 k (by omega))) (sp 1 [(6,sV (L.getD k []))] (se (rq ?_)))))))));have e5:=hLs _ (BM (d:=[]) (xs:=L) (k:=k) (by omega));have e3:=atoiV_le (L.getD k []);refine rr (sp 1 [(16,sV (L.getD k []))] ?_);have d0:=Atoi_ct J0 (L.getD k []) (by first | assumption | exact TextG.mono (by assumption) hI) (by omega);refine sS (sc (some 17) (F:=(a1++F)) (d0 :) (.refl _) (fun f1 I1 f0 a4 d8=>?_));obtain ⟨N6,d7,d5⟩:=d8;rw [d7,d5];clear d7 d5;replace hG:=hG.mono a4;refine nm ?_;refine sp 5 [(8,errQ (atoiOk (L.getD k [])) N6),(7,vI (atoiV (L.getD k [])))] (se (rq (rqr (sp 1 [(20,errQ (atoiOk (L.getD k [])) N6)] (sd (det_neIface (x:=(.tmp 20)) (T:=139) (T':=139) (d:=21) (ty:=4) (gd:=none) (by kernel_rfl) rfl (by kernel_rfl) rfl (isNI_errQ _ _)) (sp 1 [(22,.bool (!(atoiOk (L.getD k []))))] ?_))))));refine AQ 22 rfl (fun h2=>?_) (fun h2=>?_)
  ·
   have b0:=h2;refine sp 14 [(36,.bool true)] (se (rct 36 rfl (rqr (sp 2 [(3,.bool false),(2,vN)] (se (BF (RP (RB (RP (RP (RB (RP ?_))))))))))));have a0:=NV (L:=L) (i:=k) (by omega) (num_not (fun hh=>by (rw [hh.1] at b0;cases b0)));refine DQ (t:=2) (u:=3) [] (by kernel_rfl) rfl rfl (TT (TR _) (TB _ _)) (IT hJ0 a4) ?_;exact ⟨_,(congrArg (fun b=>Value.tuple #[_,.bool b]) a0.1.symm),rfl,(a0.2.symm▸(IsSl.nil _))⟩
  have b0:=h2;refine sp 4 [(26,.bool (cmp .lss (atoiV (L.getD k [])) 0))] ?_;refine AQ 26 rfl (fun h3=>?_) (fun h3=>?_)
  ·
   have a6:=h3;have a6:=BW a6;refine sp 10 [(36,.bool true)] (se (rct 36 rfl (rqr (sp 2 [(3,.bool false),(2,vN)] (se (BF (RP (RB (RP (RP (RB (RP ?_))))))))))));have a0:=NV (L:=L) (i:=k) (by omega) (num_not (fun hh=>by (have:=hh.2.1;omega)));refine DQ (t:=2) (u:=3) [] (by kernel_rfl) rfl rfl (TT (TR _) (TB _ _)) (IT hJ0 a4) ?_;exact ⟨_,(congrArg (fun b=>Value.tuple #[_,.bool b]) a0.1.symm),rfl,(a0.2.symm▸(IsSl.nil _))⟩
  have a6:=h3;have a6:=CB a6;refine sp 5 [(31,.bool (cmp .gtr (↑(L.getD k []).length) 3))] ?_;refine AQ 31 rfl (fun h4=>?_) (fun h4=>?_)
  ·
   have a7:=h4;have a7:=JG a7;refine sp 5 [(36,.bool true)] (se (rct 36 rfl (rqr (sp 2 [(3,.bool false),(2,vN)] (se (BF (RP (RB (RP (RP (RB (RP ?_))))))))))));have a0:=NV (L:=L) (i:=k) (by omega) (num_not (fun hh=>by (have:=hh.2.2.1;omega)));refine DQ (t:=2) (u:=3) [] (by kernel_rfl) rfl rfl (TT (TR _) (TB _ _)) (IT hJ0 a4) ?_;exact ⟨_,(congrArg (fun b=>Value.tuple #[_,.bool b]) a0.1.symm),rfl,(a0.2.symm▸(IsSl.nil _))⟩
  have a7:=h4;have a7:=KC a7;refine sp 1 [(32,vI (atoiV (L.getD k [])))] (sd (dc 33 (fun I' hI=>(LX I' (atoiV (L.getD k [])) (by first | assumption | exact TextG.mono (by assumption) hI) (by omega) :))) (sp 1 [(34,sV (L.getD k []))] (sd (IE (x:=(.tmp 33)) (y:=(.tmp 34)) (T:=9) (T':=9) (d:=35) (ty:=4) (gd:=(some (11,false))) (by kernel_rfl) (by kernel_rfl) rfl rfl) (sp 1 [(36,.bool (!(decide ((num (atoiV (L.getD k [])))=L.getD k []))))] (se (rc 36 rfl (fun h5=>?_) (fun h5=>?_)))))))
  ·
   have c9:=h5;have h5:=HV (BO h5);refine rqr (sp 2 [(3,.bool false),(2,vN)] (se (BF (RP (RB (RP (RP (RB (RP ?_)))))))));have a0:=NV (L:=L) (i:=k) (by omega) (num_not (fun hh=>h5 hh.2.2.2));refine DQ (t:=2) (u:=3) [] (by kernel_rfl) rfl rfl (TT (TR _) (TB _ _)) (IT hJ0 a4) ?_;exact ⟨_,(congrArg (fun b=>Value.tuple #[_,.bool b]) a0.1.symm),rfl,(a0.2.symm▸(IsSl.nil _))⟩
  have c9:=h5;have h5:=HF (BK h5);have d6:GH (L.getD k [])=true:=num_is (by simpa using b0) (by omega) (by omega) h5;refine AM (NX (rr (sp 2 [(38,vI (atoiV (L.getD k []))),(37,vS a2 ((L.take k).map HM).length a3)] (sS (sbs 39 3 1 #[vI (atoiV (L.getD k []))] (fun e2=>(sS (sap (d:=40) 37 39 33 3 1 8 (vI 0) AO ((L.take k).map HM) [((atoiV (L.getD k [])):Int)] a1 rfl rfl a8 PM.symm (FE _) (CK 0 rfl rfl) (fun f2 b3 b6=>(AW (M':=(b3++F)) (fun w h=>(h.perm PM).sub (TC _ (TR _))) ?_))))))))));obtain ⟨b7,b8,rfl,e0⟩:=b6.shape;refine sp 1 [(4,vS b7 (((L.take k).map HM)++([((atoiV (L.getD k [])):Int)])).length b8)] (ee (NB (NX (rr (sd (da 41 ↑k 1) (sp 1 [(11,vI (↑k+1))] (ee ?_)))))));refine AN (L.length-(k+1)) (by omega) ?_;intro a w hS hD hW;exact ⟨I1,k+1,vS b7 (((L.take k).map HM)++([((atoiV (L.getD k [])):Int)])).length b8,b3,(IT hJ0 a4),by omega,nall_step (by omega) b4 d6,((nmap_step (by omega) (atoi_num d6).2)▸b6),hS.sub su,hD,hW,rfl⟩
 have c8:=h1;have h1:=CB h1;refine BX 0 (EP (EP (EB (NX (rq ?_)))));have e4:((L.take k).map HM).length≤1000000:=by (rw [List.length_map,LK];omega)
 refine CJ (B:=(F)) 0 a8 (by first | omega | (simp only [LS,LC,LN,LA,LK,LD] <;> omega) | decide) (PR _) (PR _) (fun e1 b5 a5=>?_);obtain ⟨c1,c3,c2,c6,b2,c4,c5,c7⟩:=id a5;cases b2;refine rr (sp 3 [(3,.bool true),(2,vS a2 ((L.take k).map HM).length a3)] (se (BF ?_)));have d4:=QD (by omega) b4;refine DQ (t:=2) (u:=3) [] (by kernel_rfl) rfl rfl (TR _) (IT hJ0 b5) ?_;exact ⟨_,(congrArg (fun b=>Value.tuple #[_,.bool b]) d4.1.symm),rfl,(d4.2.symm▸a5)⟩
noncomputable def c_slip:=cod Tryz.f150
set_option maxHeartbeats 1000000 in
theorem slip_ct (I:Imm) (v:Value) (W:List (List UInt8)) (v_f:MS I v W) (hG:TextG I) (hW:1≤W.length∧W.length≤1000) (hWs:∀ x∈W,x.length≤1000):Ct Tryz.prog 150 #[v] I ([]) (fun v I' M'=>∃ s:Slip,v=.tuple #[.agg #[vI (s).num,vI (s).hour,vI (s).kind,vI (s).place,vI (s).to,vI (s).sort,.bool (s).soil,vI (s).amt],.bool (CF W)]∧M'=[]∧(CF W=true→s=slipV W)):=by
 obtain ⟨i8,i9,q2,q5,rfl,q3,q4,c3⟩:=id v_f;refine fr (args:=[_]) (N:=125) Tryz.func150 (fun F=>?_);show Run _ _ (c_slip []) _ _ [(0,_)] _ _;refine rnm (rqr ?_);refine sS (sal 2 29 DU (fun b1=>(sp 1 [(3,.bool false)] (sn (sS (sal 4 29 DU (fun b3=>(se (rq (rqr ?_))))))))));have f8:=words_ct I;refine sS (sc (some 13) (f8 :) (.refl _) (fun o9 I5 o7 b9 n8=>?_));obtain ⟨p9,m6,m5,l8⟩:=n8;rw [m6,m5];clear m6 m5;replace v_f:=v_f.mono b9;replace c3:=c3.mono b9;replace hG:=hG.mono b9;have i6:=l8;obtain ⟨a6,e4,a0,rfl,a9,d3⟩:=id i6;refine nm ?_;refine sS (stp_range (d:=14) (x:=(.tmp 13)) (T:=170) (kt:=3) (et:=9) (es:=e4) (cl:=a0) (ty:=0) (gd:=none) (by kernel_rfl) rfl (by kernel_rfl) rfl (.inr a9) (fun c2=>(se (rb 0 ?_))));refine rl (fun mz a w=>∃ todo:List (Int × List UInt8),∃ kq:Int,∃ a1:Array Nat,(KindAt (W.getD 0 []) kq todo)∧(Go.Sl.Left encI e4 a1 (strV todo))∧SD 125 [(0,vS i8 W.length i9),(2,vP b1 0),(3,.bool false),(4,vP b3 0),(14,vP c2 0)] I5 ((c2,Obj.mapIter (some a6) a0 a1 a0)::(bX b3 #[vI 0,vI 0,vI kq,vI 0,vI 0,vI 0,.bool false,vI 0] 29)::(bX b1 DU 29)::F) a w (mz=todo.length)) ?_ ?_
 ·intro a w hS hD hW;exact ⟨_,wordTab,0,#[],KindAt.start _,(Left.start d3.1),hS.sub su,hD,hW,rfl⟩
 rintro mz a w ⟨todo,kq,a1,l0,d6,hS,hD,hW,rfl⟩
 refine AP hS hD hW ?_;clear hS hD hW a w;refine rqr (sS (stp_nextS (d:=15) (x:=(.tmp 14)) (todo:=todo) 0 (ty:=0) (gd:=none) (by kernel_rfl) rfl rfl rfl (.inr a9) d3.2 d6 (fun g1=>?_) (fun d7 b4 d8 i4 c1 d9 f7=>?_)))
 ·
  refine sp 1 [(16,.bool false)] (se (rq (rcf 16 rfl (BX 0 (EP (EP (EB (NX (rq ?_)))))))));have n7:kq=kd W:=l0.done g1;subst n7;have p4:=SC (W.getD 0 []);refine rr (sp 1 [(27,vP b3 2)] (sd (dlb 28 1 2 b3 (vI (kd W))) (sp 2 [(7,.bool (cmp .eql (kd W) 1)),(29,.bool (cmp .eql (kd W) 1))] (sn (sp 1 [(30,vS i8 W.length i9)] ?_)))));have b0:=v_f.cutLo 1 (by omega);obtain ⟨a7,a8,m7,n0,e3,m8,m9,a3⟩:=id b0;rw [e3] at b0;refine sd (DC (EN (x:=(.tmp 30)) (lo:=(some (.const (vI 1)))) (hi:=none) (T:=68) (e:=9) (sz:=1) 1 W.length (d:=31) (ty:=68) (gd:=none) (by kernel_rfl) rfl (by kernel_rfl) (by kernel_rfl) rfl (.inr ⟨_,.i64,rfl,rfl⟩) (.inl ⟨rfl,rfl⟩) (by omega) (by omega)) e3) (sp 1 [(8,vS a7 (W.drop 1).length a8)] (se (rq ?_)));refine BC (fun a w=>∃ b7:Imm,∃ lv:Value,∃ sb:Bool,(I5.le b7)∧(MS b7 lv (AX W))∧(sb=SL W)∧(ND W=true)∧SE 125 [(2,vP b1 0),(4,vP b3 0),(7,.bool (cmp .eql (kd W) 1)),(8,lv),(29,.bool (cmp .eql (kd W) 1))] b7 ((c2,Obj.mapIter (some a6) a0 a1 a0)::(bX b3 #[vI 0,vI 0,vI (kd W),vI 0,vI 0,vI 0,.bool sb,vI 0] 29)::(bX b1 DU 29)::F) a w) ?_ ?_
  ·
   refine rq ?_;refine BC (fun a w=>SE 125 [(2,vP b1 0),(3,.bool false),(4,vP b3 0),(7,.bool (cmp .eql (kd W) 1)),(8,vS a7 (W.drop 1).length a8),(29,.bool (cmp .eql (kd W) 1)),(37,.bool ((cmp .eql (kd W) 1)||(cmp .eql (kd W) 4)))] I5 ((c2,Obj.mapIter (some a6) a0 a1 a0)::(bX b3 #[vI 0,vI 0,vI (kd W),vI 0,vI 0,vI 0,.bool false,vI 0] 29)::(bX b1 DU 29)::F) a w) ?_ ?_
   ·
    refine rr (sp 2 [(33,.bool (cmp .eql (kd W) 1))] ?_);refine AQ 33 rfl (fun h1=>?_) (fun h1=>?_)
    ·
     have c6:=h1;have c6:=BI c6;refine sp 4 [(37,.bool true)] (ee ?_);refine AG (fun a w hS hD hW=>⟨hS.sub (sun 6 (.consE 37 rfl (congrArg Value.bool (by simp only [h1,kk])) (.nil _))),hD,hW⟩)
    have c6:=h1;have c6:=BG c6;refine sp 1 [(34,vP b3 2)] (sd (dlb 35 1 2 b3 (vI (kd W))) (sp 2 [(37,.bool (cmp .eql (kd W) 4))] (ee ?_)));refine AG (fun a w hS hD hW=>⟨hS.sub (sun 6 (.consE 37 rfl (congrArg Value.bool (by simp only [h1,kk])) (.nil _))),hD,hW⟩)
   rintro a w ⟨hS,hD,hW⟩
   refine AP hS hD hW ?_;clear hS hD hW a w;refine rc 37 rfl (fun h2=>?_) (fun h2=>?_)
   ·
    have e7:=h2;have c0:CR (kd W)=true:=by (have hq:=e7;simpa [CR,cmp] using hq)
    have p3:(W.drop 1).length=W.length-1:=LD ..;refine rqr (sp 2 [(39,vI (↑((W.drop 1).length)))] (sd (dsb 40 (↑((W.drop 1).length)) 2) (sp 1 [(9,vI ((↑((W.drop 1).length))-2))] (se (rq (rqr (sp 3 [(43,.bool (cmp .lss ((↑((W.drop 1).length))-2) 0))] ?_)))))));refine AQ 43 rfl (fun h3=>?_) (fun h3=>?_)
    ·
     have c7:=h3;have c7:=BW c7;refine sp 13 [(56,.bool true)] (se (rct 56 rfl (rqr (sd (dnb 57 1 0 b3 [vI 0,vI 0,vI (kd W),vI 0,vI 0,vI 0,.bool false,vI 0]) (sS (ss 2 0 b1 [vI 0,vI 0,vI (kd W),vI 0,vI 0,vI 0,.bool false,vI 0] [vI 0,vI 0,vI (kd W),vI 0,vI 0,vI 0,.bool false,vI 0] (_::_::_::_) (cs:=[_,_,_,_,_,_,_,_]) rfl rfl (sp 1 [(3,.bool false)] (se (BF (RP (RP ?_)))))))))));have e1:CF W=false:=by first | exact e9 | exact RN c0 (by omega) | exact QM c0 (by assumption) (by assumption)
     refine DM (t:=2) (u:=3) (T:=29) (n:=8) [] (by kernel_rfl) rfl (by kernel_rfl) rfl (snm [vI 0,vI 0,vI (kd W),vI 0,vI 0,vI 0,.bool false,vI 0] b1 29) (.inl ⟨by kernel_rfl,rfl⟩) rfl (TC _ (TC _ (TC _ (TR _)))) b9 ?_;exact ⟨(⟨(0),(0),(kd W),(0),(0),(0),(false),(0)⟩:Slip),(congrArg (fun b=>Value.tuple #[_,.bool b]) e1.symm),rfl,fun hq=>absurd (e1.symm.trans hq) (by decide)⟩
    have c7:=h3;have c7:=CB c7;refine sp 2 [(45,vI ((↑((W.drop 1).length))-2)),(44,vS a7 (W.drop 1).length a8)] (sd (diI 46 1 ((↑((W.drop 1).length))-2) a3.addr) (sd (dl 47 (DF a3 (((↑((W.drop 1).length))-2:Int).toNat) (by omega))) (CE 47 rfl (show (sV ((W.drop 1).getD (((↑((W.drop 1).length))-2:Int).toNat) []):Value)=sV (CD W) from congrArg sV (mark_atI (by omega))) (sd (IE (x:=(.tmp 47)) (y:=(.const (.string { data:=#[99] }))) (T:=9) (T':=9) (d:=48) (ty:=4) (gd:=(some (2,false))) (by kernel_rfl) (by kernel_rfl) rfl rfl) (sp 1 [(49,.bool (!(decide (CD W=([99]:List UInt8)))))] ?_)))));refine AQ 49 rfl (fun h4=>?_) (fun h4=>?_)
    ·
     have c8:=h4;have c8:=HV (BO c8);refine sp 2 [(51,vI ((↑((W.drop 1).length))-2)),(50,vS a7 (W.drop 1).length a8)] (sd (diI 52 1 ((↑((W.drop 1).length))-2) a3.addr) (sd (dl 53 (DF a3 (((↑((W.drop 1).length))-2:Int).toNat) (by omega))) (CE 53 rfl (show (sV ((W.drop 1).getD (((↑((W.drop 1).length))-2:Int).toNat) []):Value)=sV (CD W) from congrArg sV (mark_atI (by omega))) (sd (IE (x:=(.tmp 53)) (y:=(.const (.string { data:=#[115] }))) (T:=9) (T':=9) (d:=54) (ty:=4) (gd:=(some (8,true))) (by kernel_rfl) (by kernel_rfl) rfl rfl) (sp 2 [(56,.bool (!(decide (CD W=([115]:List UInt8)))))] (se (rc 56 rfl (fun h5=>?_) (fun h5=>?_))))))))
     ·
      have k6:=h5;have h5:=HV (BO h5);refine rqr (sd (dnb 57 1 0 b3 [vI 0,vI 0,vI (kd W),vI 0,vI 0,vI 0,.bool false,vI 0]) (sS (ss 2 0 b1 [vI 0,vI 0,vI (kd W),vI 0,vI 0,vI 0,.bool false,vI 0] [vI 0,vI 0,vI (kd W),vI 0,vI 0,vI 0,.bool false,vI 0] (_::_::_::_) (cs:=[_,_,_,_,_,_,_,_]) rfl rfl (sp 1 [(3,.bool false)] (se (BF (RP (RP ?_))))))));have e1:CF W=false:=by first | exact e9 | exact RN c0 (by omega) | exact QM c0 (by assumption) (by assumption)
      refine DM (t:=2) (u:=3) (T:=29) (n:=8) [] (by kernel_rfl) rfl (by kernel_rfl) rfl (snm [vI 0,vI 0,vI (kd W),vI 0,vI 0,vI 0,.bool false,vI 0] b1 29) (.inl ⟨by kernel_rfl,rfl⟩) rfl (TC _ (TC _ (TC _ (TR _)))) b9 ?_;exact ⟨(⟨(0),(0),(kd W),(0),(0),(0),(false),(0)⟩:Slip),(congrArg (fun b=>Value.tuple #[_,.bool b]) e1.symm),rfl,fun hq=>absurd (e1.symm.trans hq) (by decide)⟩
     have k6:=h5;have h5:=HF (BK h5);refine AM (NX (rq ?_));have h3:3≤W.length:=by omega
     have k9:CD W=[99]∨CD W=[115]:=by first | exact .inl (by assumption) | exact .inr (by assumption)
     have e0:=markOk_t c0 h3 k9;have e2:=soil_t c0;refine rr (CE 9 rfl (show (vI ((↑((W.drop 1).length))-2):Value)=vI (↑((W.drop 1).length-2)) from congrArg (Value.int .i64) (by omega)) (sp 2 [(59,vI (↑((W.drop 1).length-2))),(58,vS a7 (W.drop 1).length a8)] (sd (di 60 1 ((W.drop 1).length-2) a3.addr) (sd (dl 61 (DF a3 ((W.drop 1).length-2) (by omega))) (CE 61 rfl (show (sV ((W.drop 1).getD ((W.drop 1).length-2) []):Value)=sV (CD W) from congrArg sV (mark_at h3)) (sd (GW (x:=(.tmp 61)) (y:=(.const (.string { data:=#[115] }))) (T:=9) (T':=9) (d:=62) (ty:=4) (gd:=none) (by kernel_rfl) rfl rfl rfl) (sp 1 [(63,vP b3 6)] (sS (ss 1 6 b3 [.bool (decide (CD W=([115]:List UInt8)))] [vI 0,vI 0,vI (kd W),vI 0,vI 0,vI 0,.bool (decide (CD W=([115]:List UInt8))),vI 0] (_::_::_::_) (cs:=[_,_,_,_,_,_,_,_]) rfl rfl (se ?_))))))))));refine rd 10 [(0,true),(1,true),(2,true),(3,true),(4,true),(5,true),(6,true),(7,true),(8,true),(9,false)] ((c2,Obj.mapIter (some a6) a0 a1 a0)::(bX b3 #[vI 0,vI 0,vI (kd W),vI 0,vI 0,vI 0,.bool (decide (CD W=([115]:List UInt8))),vI 0] 29)::(bX b1 DU 29)::[]) F (ox 3 [(66,vI (↑((W.drop 1).length-2))),(65,vI (↑((W.drop 1).length-2))),(64,vS a7 (W.drop 1).length a8)] ?_);obtain ⟨n1,i0,i1⟩:=b0.cutFull ((W.drop 1).length-2) (by omega);refine AC (DC (det_slice3 (x:=(.tmp 64)) (y:=(.tmp 65)) (u:=(.tmp 66)) (T:=68) (e:=9) (sz:=1) (k:=.i64) (k':=.i64) ((W.drop 1).length-2) (d:=67) (ty:=68) (gd:=none) (by kernel_rfl) rfl (by kernel_rfl) (by kernel_rfl) rfl rfl rfl (by omega)) i0) (ox 2 [(69,vI (↑((W.drop 1).length-2))),(68,vS a7 (W.drop 1).length a8)] ?_);refine AC (da 70 (↑((W.drop 1).length-2)) 1) ?_;refine OFP.sub 70 (show (vI ((↑((W.drop 1).length-2))+1):Value)=vI (↑((W.drop 1).length-1)) from congrArg (Value.int .i64) (by omega)) ?_;refine AC (di 71 1 ((W.drop 1).length-1) a3.addr) ?_;refine AC (dl 72 (DF a3 ((W.drop 1).length-1) (by omega))) ?_;refine CO (sbs 73 9 1 #[sV ((W.drop 1).getD ((W.drop 1).length-1) [])] (fun n5=>?_));refine BB (S':=((bX n5 #[sV ((W.drop 1).getD ((W.drop 1).length-1) [])] 9)::F)) ((PS _ _ _).trans (PC _ ((PS _ _ _).trans (PC _ (PS _ _ _))))) ?_;refine ER (nm (nm ?_));refine sS (OJ (d:=74) (x:=(.tmp 67)) (y:=(.tmp 73)) (T:=68) (T':=68) (E:=9) (E':=9) (sz:=1) (bs:=16) (z:=sV ([]:List UInt8)) (cell:=DW) (dflt:=([]:List UInt8)) (xs:=((W.drop 1).take ((W.drop 1).length-2))) (ys:=[((W.drop 1).getD ((W.drop 1).length-1) []:List UInt8)]) (ty:=68) (gd:=none) (by kernel_rfl) rfl (by kernel_rfl) (by kernel_rfl) (by kernel_rfl) (by kernel_rfl) (by kernel_rfl) (by decide) (by kernel_rfl) rfl rfl i1 (src_at 3 rfl rfl) (by simp) (by first | omega | (simp only [LK,LD,LC,LN];omega)) (fun q0 j0 g2=>(AW (M':=((c2,Obj.mapIter (some a6) a0 a1 a0)::(bX b3 #[vI 0,vI 0,vI (kd W),vI 0,vI 0,vI 0,.bool (decide (CD W=([115]:List UInt8))),vI 0] 29)::(bX b1 DU 29)::(j0++F))) (fun w h=>(h.perm (((PA _ ((PC _ ((PC _ (PS _ _ _)).trans (PS _ _ _))).trans (PS _ _ _))).trans PM).trans (PC _ (PW (PW PM))))).sub (TC _ (TR _))) ?_)));obtain ⟨g7,g9,rfl,o5⟩:=g2.shape;refine sp 1 [(8,vS g7 (((W.drop 1).take ((W.drop 1).length-2))++([((W.drop 1).getD ((W.drop 1).length-1) []:List UInt8)])).length g9)] (ee ?_);have g4:=ownP_mark c0 h3;refine NY (B:=((c2,Obj.mapIter (some a6) a0 a1 a0)::(bX b3 #[vI 0,vI 0,vI (kd W),vI 0,vI 0,vI 0,.bool (decide (CD W=([115]:List UInt8))),vI 0] 29)::(bX b1 DU 29)::F)) ([]:List UInt8) g2 (by first | omega | (simp only [LS,LC,LN,LA,LK,LD] <;> omega) | decide) (PU (PU PM.symm)) (PR _) (fun n3 b5 c4=>?_);replace c3:=c3.mono b5;replace hG:=hG.mono b5;replace a9:=b5.blk _ _ a9;replace b0:=b0.mono b5;replace a3:=a3.mono b5;obtain ⟨j2,j4,j3,j7,e5,j5,j6,j8⟩:=id c4;cases e5;exact AG (fun a w hS hD hW=>⟨n3,(vS g7 (((W.drop 1).take ((W.drop 1).length-2))++([((W.drop 1).getD ((W.drop 1).length-1) []:List UInt8)])).length g9),(decide (CD W=([115]:List UInt8))),b5,(by rw [g4];exact c4),e2,e0,hS.sub su,hD,hW⟩)
    have c8:=h4;have c8:=HF (BK c8);refine sp 7 [(56,.bool false)] (se (rcf 56 rfl (AM (NX (rq ?_)))));have h3:3≤W.length:=by omega
    have k9:CD W=[99]∨CD W=[115]:=by first | exact .inl (by assumption) | exact .inr (by assumption)
    have e0:=markOk_t c0 h3 k9;have e2:=soil_t c0;refine rr (CE 9 rfl (show (vI ((↑((W.drop 1).length))-2):Value)=vI (↑((W.drop 1).length-2)) from congrArg (Value.int .i64) (by omega)) (sp 2 [(59,vI (↑((W.drop 1).length-2))),(58,vS a7 (W.drop 1).length a8)] (sd (di 60 1 ((W.drop 1).length-2) a3.addr) (sd (dl 61 (DF a3 ((W.drop 1).length-2) (by omega))) (CE 61 rfl (show (sV ((W.drop 1).getD ((W.drop 1).length-2) []):Value)=sV (CD W) from congrArg sV (mark_at h3)) (sd (GW (x:=(.tmp 61)) (y:=(.const (.string { data:=#[115] }))) (T:=9) (T':=9) (d:=62) (ty:=4) (gd:=none) (by kernel_rfl) rfl rfl rfl) (sp 1 [(63,vP b3 6)] (sS (ss 1 6 b3 [.bool (decide (CD W=([115]:List UInt8)))] [vI 0,vI 0,vI (kd W),vI 0,vI 0,vI 0,.bool (decide (CD W=([115]:List UInt8))),vI 0] (_::_::_::_) (cs:=[_,_,_,_,_,_,_,_]) rfl rfl (se ?_))))))))));refine rd 10 [(0,true),(1,true),(2,true),(3,true),(4,true),(5,true),(6,true),(7,true),(8,true),(9,false)] ((c2,Obj.mapIter (some a6) a0 a1 a0)::(bX b3 #[vI 0,vI 0,vI (kd W),vI 0,vI 0,vI 0,.bool (decide (CD W=([115]:List UInt8))),vI 0] 29)::(bX b1 DU 29)::[]) F (ox 3 [(66,vI (↑((W.drop 1).length-2))),(65,vI (↑((W.drop 1).length-2))),(64,vS a7 (W.drop 1).length a8)] ?_);obtain ⟨n2,i2,i3⟩:=b0.cutFull ((W.drop 1).length-2) (by omega);refine AC (DC (det_slice3 (x:=(.tmp 64)) (y:=(.tmp 65)) (u:=(.tmp 66)) (T:=68) (e:=9) (sz:=1) (k:=.i64) (k':=.i64) ((W.drop 1).length-2) (d:=67) (ty:=68) (gd:=none) (by kernel_rfl) rfl (by kernel_rfl) (by kernel_rfl) rfl rfl rfl (by omega)) i2) (ox 2 [(69,vI (↑((W.drop 1).length-2))),(68,vS a7 (W.drop 1).length a8)] ?_);refine AC (da 70 (↑((W.drop 1).length-2)) 1) ?_;refine OFP.sub 70 (show (vI ((↑((W.drop 1).length-2))+1):Value)=vI (↑((W.drop 1).length-1)) from congrArg (Value.int .i64) (by omega)) ?_;refine AC (di 71 1 ((W.drop 1).length-1) a3.addr) ?_;refine AC (dl 72 (DF a3 ((W.drop 1).length-1) (by omega))) ?_;refine CO (sbs 73 9 1 #[sV ((W.drop 1).getD ((W.drop 1).length-1) [])] (fun n6=>?_));refine BB (S':=((bX n6 #[sV ((W.drop 1).getD ((W.drop 1).length-1) [])] 9)::F)) ((PS _ _ _).trans (PC _ ((PS _ _ _).trans (PC _ (PS _ _ _))))) ?_;refine ER (nm (nm ?_));refine sS (OJ (d:=74) (x:=(.tmp 67)) (y:=(.tmp 73)) (T:=68) (T':=68) (E:=9) (E':=9) (sz:=1) (bs:=16) (z:=sV ([]:List UInt8)) (cell:=DW) (dflt:=([]:List UInt8)) (xs:=((W.drop 1).take ((W.drop 1).length-2))) (ys:=[((W.drop 1).getD ((W.drop 1).length-1) []:List UInt8)]) (ty:=68) (gd:=none) (by kernel_rfl) rfl (by kernel_rfl) (by kernel_rfl) (by kernel_rfl) (by kernel_rfl) (by kernel_rfl) (by decide) (by kernel_rfl) rfl rfl i3 (src_at 3 rfl rfl) (by simp) (by first | omega | (simp only [LK,LD,LC,LN];omega)) (fun q1 j1 g3=>(AW (M':=((c2,Obj.mapIter (some a6) a0 a1 a0)::(bX b3 #[vI 0,vI 0,vI (kd W),vI 0,vI 0,vI 0,.bool (decide (CD W=([115]:List UInt8))),vI 0] 29)::(bX b1 DU 29)::(j1++F))) (fun w h=>(h.perm (((PA _ ((PC _ ((PC _ (PS _ _ _)).trans (PS _ _ _))).trans (PS _ _ _))).trans PM).trans (PC _ (PW (PW PM))))).sub (TC _ (TR _))) ?_)));obtain ⟨g8,h0,rfl,o6⟩:=g3.shape;refine sp 1 [(8,vS g8 (((W.drop 1).take ((W.drop 1).length-2))++([((W.drop 1).getD ((W.drop 1).length-1) []:List UInt8)])).length h0)] (ee ?_);have g4:=ownP_mark c0 h3;refine NY (B:=((c2,Obj.mapIter (some a6) a0 a1 a0)::(bX b3 #[vI 0,vI 0,vI (kd W),vI 0,vI 0,vI 0,.bool (decide (CD W=([115]:List UInt8))),vI 0] 29)::(bX b1 DU 29)::F)) ([]:List UInt8) g3 (by first | omega | (simp only [LS,LC,LN,LA,LK,LD] <;> omega) | decide) (PU (PU PM.symm)) (PR _) (fun n4 b8 c5=>?_);replace c3:=c3.mono b8;replace hG:=hG.mono b8;replace a9:=b8.blk _ _ a9;replace b0:=b0.mono b8;obtain ⟨j9,k1,k0,k4,e6,k2,k3,k5⟩:=id c5;cases e6;exact AG (fun a w hS hD hW=>⟨n4,(vS g8 (((W.drop 1).take ((W.drop 1).length-2))++([((W.drop 1).getD ((W.drop 1).length-1) []:List UInt8)])).length h0),(decide (CD W=([115]:List UInt8))),b8,(by rw [g4];exact c5),e2,e0,hS.sub su,hD,hW⟩)
   have e7:=h2;obtain ⟨f4,f5⟩:=SW h2;have f4:=BG f4;have f5:=BG f5;have c0:CR (kd W)=false:=by (have hq:=e7;simpa [CR,cmp] using hq)
   refine AM ?_;have g4:=ownP_no c0;have e0:=markOk_f c0;have e2:=soil_f c0;exact AG (fun a w hS hD hW=>⟨I5,(vS a7 (W.drop 1).length a8),(false),(IR _),(by rw [g4];exact b0),e2,e0,hS.sub su,hD,hW⟩)
  rintro a w ⟨b7,lv,sb,b2,g6,e2,e0,hS,hD,hW⟩
  refine AP hS hD hW ?_;clear hS hD hW a w;replace c3:=c3.mono b2;replace hG:=hG.mono b2;replace a9:=b2.blk _ _ a9;obtain ⟨l3,l4,o0,o3,rfl,o1,o2,o4⟩:=id g6;refine rq ?_;have p8:(AX W).length≤1000:=ownP_le hW;refine rr (sp 1 [(76,vS l3 (AX W).length l4)] ?_);have f9:=numbers_ct b7 _ _ g6 (by first | assumption | exact TextG.mono (by assumption) hI) (by omega) (by exact fun x hx=>hWs x (ownP_mem hW.1 hx));refine sS (sc (some 77) (f9 :) (.refl _) (fun p0 m4 o8 b6 l1=>?_));obtain ⟨p1,g5,g0,l9⟩:=l1;rw [g5,g0];clear g5 g0;replace c3:=c3.mono b6;replace hG:=hG.mono b6;replace a9:=b6.blk _ _ a9;have f1:=l9;obtain ⟨a4,a5,m0,m3,rfl,m1,m2,a2⟩:=id f1;refine nm ?_;refine sp 5 [(11,.bool (BV (AX W))),(10,vS a4 (AF (AX W)).length a5)] (sn (sp 1 [(12,vI 5)] (se (rq ?_))));refine BC (fun a w=>SE 125 [(2,vP b1 0),(4,vP b3 0),(7,.bool (cmp .eql (kd W) 1)),(10,vS a4 (AF (AX W)).length a5),(11,.bool (BV (AX W))),(12,vI ↑(many4 (kd W))),(29,.bool (cmp .eql (kd W) 1))] m4 ((c2,Obj.mapIter (some a6) a0 a1 a0)::(bX b3 #[vI 0,vI 0,vI (kd W),vI 0,vI 0,vI 0,.bool sb,vI 0] 29)::(bX b1 DU 29)::F) a w) ?_ ?_
  ·
   refine rqr (sp 1 [(80,.bool (cmp .eql (kd W) 1))] (se (rc 80 rfl (fun h6=>?_) (fun h6=>?_))))
   ·
    have k7:=h6;have h6:=BI h6;refine rr (sp 1 [(12,vI 6)] (ee ?_));exact AG (fun a w hS hD hW=>⟨hS.sub (sun 5 (.consE 12 rfl (congrArg (Value.int .i64) (many_t h6)) su)),hD,hW⟩)
   have k7:=h6;have h6:=BG h6;refine AM ?_;exact AG (fun a w hS hD hW=>⟨hS.sub (sun 5 (.consE 12 rfl (congrArg (Value.int .i64) (many_f h6)) su)),hD,hW⟩)
  rintro a w ⟨hS,hD,hW⟩
  refine AP hS hD hW ?_;clear hS hD hW a w;refine rq (rq ?_);refine BC (fun a w=>SE 125 [(2,vP b1 0),(4,vP b3 0),(7,.bool (cmp .eql (kd W) 1)),(10,vS a4 (AF (AX W)).length a5),(12,vI (↑(many4 (kd W)))),(29,.bool (cmp .eql (kd W) 1)),(93,.bool ((!(BV (AX W)))||((cmp .eql (kd W) 0)||(!(cmp .eql (↑((AF (AX W)).length)) (↑(many4 (kd W))))))))] m4 ((c2,Obj.mapIter (some a6) a0 a1 a0)::(bX b3 #[vI 0,vI 0,vI (kd W),vI 0,vI 0,vI 0,.bool sb,vI 0] 29)::(bX b1 DU 29)::F) a w) ?_ ?_
  ·
   refine rr (sp 3 [(83,.bool (!(BV (AX W))))] ?_);refine AQ 83 rfl (fun h7=>?_) (fun h7=>?_)
   ·
    have c9:=h7;have c9:=BO c9;refine sp 10 [(93,.bool true)] (ee ?_);refine AG (fun a w hS hD hW=>⟨hS.sub (sun 6 (.consE 93 rfl (congrArg Value.bool (by simp only [h7,kk])) (.nil _))),hD,hW⟩)
   have c9:=h7;have c9:=BK c9;refine sp 1 [(84,vP b3 2)] (sd (dlb 85 1 2 b3 (vI (kd W))) (sp 3 [(88,.bool (cmp .eql (kd W) 0))] ?_));refine AQ 88 rfl (fun h8=>?_) (fun h8=>?_)
   ·
    have d0:=h8;have d0:=BI d0;refine sp 5 [(93,.bool true)] (ee ?_);refine AG (fun a w hS hD hW=>⟨hS.sub (sun 6 (.consE 93 rfl (congrArg Value.bool (by simp only [h7,h8,kk])) (.nil _))),hD,hW⟩)
   have d0:=h8;have d0:=BG d0;refine sp 5 [(93,.bool (!(cmp .eql (↑((AF (AX W)).length)) (↑(many4 (kd W))))))] (ee ?_);refine AG (fun a w hS hD hW=>⟨hS.sub (sun 6 (.consE 93 rfl (congrArg Value.bool (by simp only [h7,h8,kk])) (.nil _))),hD,hW⟩)
  rintro a w ⟨hS,hD,hW⟩
  refine AP hS hD hW ?_;clear hS hD hW a w;refine rc 93 rfl (fun h9=>?_) (fun h9=>?_)
  ·
   have e8:=h9;have e9:CF W=false:=by (have hq:=e8;rw [slip_cond e0] at hq;simpa using hq)
   refine rqr (sd (dnb 94 1 0 b3 [vI 0,vI 0,vI (kd W),vI 0,vI 0,vI 0,.bool sb,vI 0]) (sS (ss 2 0 b1 [vI 0,vI 0,vI (kd W),vI 0,vI 0,vI 0,.bool sb,vI 0] [vI 0,vI 0,vI (kd W),vI 0,vI 0,vI 0,.bool sb,vI 0] (_::_::_::_) (cs:=[_,_,_,_,_,_,_,_]) rfl rfl (sp 1 [(3,.bool false)] (se (BF (RP ?_)))))));have e1:CF W=false:=by first | exact e9 | exact RN c0 (by omega) | exact QM c0 (by assumption) (by assumption)
   refine DM (t:=2) (u:=3) (T:=29) (n:=8) [] (by kernel_rfl) rfl (by kernel_rfl) rfl (snm [vI 0,vI 0,vI (kd W),vI 0,vI 0,vI 0,.bool sb,vI 0] b1 29) (.inl ⟨by kernel_rfl,rfl⟩) rfl (TC _ (TC _ (TC _ (TR _)))) (IT (IT b9 b2) b6) ?_;exact ⟨(⟨(0),(0),(kd W),(0),(0),(0),(sb),(0)⟩:Slip),(congrArg (fun b=>Value.tuple #[_,.bool b]) e1.symm),rfl,fun hq=>absurd (e1.symm.trans hq) (by decide)⟩
  have e8:=h9;obtain ⟨f6,k8⟩:=SW h9;have f6:=BK f6;obtain ⟨d1,d2⟩:=SW k8;have d1:=BG d1;have d2:=BI (BK d2);have l2:CF W=true:=by (have hq:=e8;rw [slip_cond e0] at hq;simpa using hq)
  have n9:=slip_parts l2;have p7:=n9.2.2;have p5:=PY (kd W);refine AM (NX (rq ?_));refine rpm (PC _ (PS _ _ _)) ?_;refine rd 27 [(0,true),(1,true),(2,true),(3,true),(4,true),(5,true),(6,true),(7,true),(8,true),(9,true),(10,true),(11,true),(12,true),(13,true),(14,true),(15,true),(16,true),(17,true),(18,true),(19,true),(20,false),(21,true),(22,false),(23,true),(24,false),(25,true),(26,false)] ((c2,Obj.mapIter (some a6) a0 a1 a0)::(bX b1 DU 29)::[]) ((bX b3 #[vI 0,vI 0,vI (kd W),vI 0,vI 0,vI 0,.bool sb,vI 0] 29)::F) (ox 1 [(95,vS a4 (AF (AX W)).length a5)] ?_);refine AC (di 96 1 0 a2.addr) ?_;refine AC (dl 97 (BL a2 0 (by omega))) (ox 1 [(98,vS a4 (AF (AX W)).length a5)] ?_);refine AC (di 99 1 1 a2.addr) ?_;refine AC (dl 100 (BL a2 1 (by omega))) (ox 1 [(101,vS a4 (AF (AX W)).length a5)] ?_);refine AC (di 102 1 2 a2.addr) ?_;refine AC (dl 103 (BL a2 2 (by omega))) (ox 2 [(105,vI (↑(many4 (kd W)))),(104,vS a4 (AF (AX W)).length a5)] ?_);refine AC (dsb 106 (↑(many4 (kd W))) 2) ?_;refine OFP.sub 106 (show (vI ((↑(many4 (kd W)))-2):Value)=vI (↑(many4 (kd W)-2)) from congrArg (Value.int .i64) (by omega)) ?_;refine AC (di 107 1 (many4 (kd W)-2) a2.addr) ?_;refine AC (dl 108 (BL a2 (many4 (kd W)-2) (by omega))) (ox 2 [(110,vI (↑(many4 (kd W)))),(109,vS a4 (AF (AX W)).length a5)] ?_);refine AC (dsb 111 (↑(many4 (kd W))) 1) ?_;refine OFP.sub 111 (show (vI ((↑(many4 (kd W)))-1):Value)=vI (↑(many4 (kd W)-1)) from congrArg (Value.int .i64) (by omega)) ?_;refine AC (di 112 1 (many4 (kd W)-1) a2.addr) ?_;refine AC (dl 113 (BL a2 (many4 (kd W)-1) (by omega))) (ox 1 [(114,vP b3 0)] ?_);refine CO (ss 2 0 b3 [vI ((AF (AX W)).getD 0 0)] [vI ((AF (AX W)).getD 0 0),vI 0,vI (kd W),vI 0,vI 0,vI 0,.bool sb,vI 0] (_::_::_::_) (cs:=[_,_,_,_,_,_,_,_]) rfl rfl ?_);refine BB (S':=((bX b3 #[vI ((AF (AX W)).getD 0 0),vI 0,vI (kd W),vI 0,vI 0,vI 0,.bool sb,vI 0] 29)::F)) (PR _) (ox 1 [(115,vP b3 1)] ?_);refine CO (ss 2 1 b3 [vI ((AF (AX W)).getD 1 0)] [vI ((AF (AX W)).getD 0 0),vI ((AF (AX W)).getD 1 0),vI (kd W),vI 0,vI 0,vI 0,.bool sb,vI 0] (_::_::_::_) (cs:=[_,_,_,_,_,_,_,_]) rfl rfl ?_);refine BB (S':=((bX b3 #[vI ((AF (AX W)).getD 0 0),vI ((AF (AX W)).getD 1 0),vI (kd W),vI 0,vI 0,vI 0,.bool sb,vI 0] 29)::F)) (PR _) (ox 1 [(116,vP b3 3)] ?_);refine CO (ss 2 3 b3 [vI ((AF (AX W)).getD 2 0)] [vI ((AF (AX W)).getD 0 0),vI ((AF (AX W)).getD 1 0),vI (kd W),vI ((AF (AX W)).getD 2 0),vI 0,vI 0,.bool sb,vI 0] (_::_::_::_) (cs:=[_,_,_,_,_,_,_,_]) rfl rfl ?_);refine BB (S':=((bX b3 #[vI ((AF (AX W)).getD 0 0),vI ((AF (AX W)).getD 1 0),vI (kd W),vI ((AF (AX W)).getD 2 0),vI 0,vI 0,.bool sb,vI 0] 29)::F)) (PR _) (ox 1 [(117,vP b3 5)] ?_);refine CO (ss 2 5 b3 [vI ((AF (AX W)).getD (many4 (kd W)-2) 0)] [vI ((AF (AX W)).getD 0 0),vI ((AF (AX W)).getD 1 0),vI (kd W),vI ((AF (AX W)).getD 2 0),vI 0,vI ((AF (AX W)).getD (many4 (kd W)-2) 0),.bool sb,vI 0] (_::_::_::_) (cs:=[_,_,_,_,_,_,_,_]) rfl rfl ?_);refine BB (S':=((bX b3 #[vI ((AF (AX W)).getD 0 0),vI ((AF (AX W)).getD 1 0),vI (kd W),vI ((AF (AX W)).getD 2 0),vI 0,vI ((AF (AX W)).getD (many4 (kd W)-2) 0),.bool sb,vI 0] 29)::F)) (PR _) ?_;refine ER (nm (nm ?_));refine sp 1 [(118,vP b3 7)] (sS (ss 2 7 b3 [vI ((AF (AX W)).getD (many4 (kd W)-1) 0)] [vI ((AF (AX W)).getD 0 0),vI ((AF (AX W)).getD 1 0),vI (kd W),vI ((AF (AX W)).getD 2 0),vI 0,vI ((AF (AX W)).getD (many4 (kd W)-2) 0),.bool sb,vI ((AF (AX W)).getD (many4 (kd W)-1) 0)] (_::_::_::_) (cs:=[_,_,_,_,_,_,_,_]) rfl rfl (se (rq (rqr (sp 1 [(119,.bool (cmp .eql (kd W) 1))] (se (rc 119 rfl (fun d4=>?_) (fun d4=>?_)))))))))
  ·
   have f2:=d4;have d4:=BI d4;have i7:kd W=1:=d4;have p6:many4 (kd W)=6:=by rw [i7];rfl
   refine rr (sp 1 [(120,vS a4 (AF (AX W)).length a5)] (sd (di 121 1 3 a2.addr) (sd (dl 122 (BL a2 3 (by omega))) (sp 1 [(123,vP b3 4)] (sS (ss 2 4 b3 [vI ((AF (AX W)).getD 3 0)] [vI ((AF (AX W)).getD 0 0),vI ((AF (AX W)).getD 1 0),vI (kd W),vI ((AF (AX W)).getD 2 0),vI ((AF (AX W)).getD 3 0),vI ((AF (AX W)).getD (many4 (kd W)-2) 0),.bool sb,vI ((AF (AX W)).getD (many4 (kd W)-1) 0)] (_::_::_::_) (cs:=[_,_,_,_,_,_,_,_]) rfl rfl (sn (sd (dnb 124 2 0 b3 [vI ((AF (AX W)).getD 0 0),vI ((AF (AX W)).getD 1 0),vI (kd W),vI ((AF (AX W)).getD 2 0),vI ((AF (AX W)).getD 3 0),vI ((AF (AX W)).getD (many4 (kd W)-2) 0),.bool sb,vI ((AF (AX W)).getD (many4 (kd W)-1) 0)]) (sS (ss 1 0 b1 [vI ((AF (AX W)).getD 0 0),vI ((AF (AX W)).getD 1 0),vI (kd W),vI ((AF (AX W)).getD 2 0),vI ((AF (AX W)).getD 3 0),vI ((AF (AX W)).getD (many4 (kd W)-2) 0),.bool sb,vI ((AF (AX W)).getD (many4 (kd W)-1) 0)] [vI ((AF (AX W)).getD 0 0),vI ((AF (AX W)).getD 1 0),vI (kd W),vI ((AF (AX W)).getD 2 0),vI ((AF (AX W)).getD 3 0),vI ((AF (AX W)).getD (many4 (kd W)-2) 0),.bool sb,vI ((AF (AX W)).getD (many4 (kd W)-1) 0)] (_::_::_::_) (cs:=[_,_,_,_,_,_,_,_]) rfl rfl (sp 1 [(3,.bool true)] (se (BF (DM (t:=2) (u:=3) (T:=29) (n:=8) [] (by kernel_rfl) rfl (by kernel_rfl) rfl (snm [vI ((AF (AX W)).getD 0 0),vI ((AF (AX W)).getD 1 0),vI (kd W),vI ((AF (AX W)).getD 2 0),vI ((AF (AX W)).getD 3 0),vI ((AF (AX W)).getD (many4 (kd W)-2) 0),.bool sb,vI ((AF (AX W)).getD (many4 (kd W)-1) 0)] b1 29) (.inl ⟨by kernel_rfl,rfl⟩) rfl (TC _ (TC _ (TC _ (TR _)))) (IT (IT b9 b2) b6) ?_))))))))))))));exact ⟨(⟨((AF (AX W)).getD 0 0),((AF (AX W)).getD 1 0),(kd W),((AF (AX W)).getD 2 0),((AF (AX W)).getD 3 0),((AF (AX W)).getD (many4 (kd W)-2) 0),(sb),((AF (AX W)).getD (many4 (kd W)-1) 0)⟩:Slip),(congrArg (fun b=>Value.tuple #[_,.bool b]) l2.symm),rfl,fun _=>SY rfl e2 rfl (by rw [if_pos i7]) rfl rfl⟩
  have f2:=d4;have d4:=BG d4;have i7:¬ kd W=1:=d4;refine AM (NX (rqr (sd (dnb 124 2 0 b3 [vI ((AF (AX W)).getD 0 0),vI ((AF (AX W)).getD 1 0),vI (kd W),vI ((AF (AX W)).getD 2 0),vI 0,vI ((AF (AX W)).getD (many4 (kd W)-2) 0),.bool sb,vI ((AF (AX W)).getD (many4 (kd W)-1) 0)]) (sS (ss 1 0 b1 [vI ((AF (AX W)).getD 0 0),vI ((AF (AX W)).getD 1 0),vI (kd W),vI ((AF (AX W)).getD 2 0),vI 0,vI ((AF (AX W)).getD (many4 (kd W)-2) 0),.bool sb,vI ((AF (AX W)).getD (many4 (kd W)-1) 0)] [vI ((AF (AX W)).getD 0 0),vI ((AF (AX W)).getD 1 0),vI (kd W),vI ((AF (AX W)).getD 2 0),vI 0,vI ((AF (AX W)).getD (many4 (kd W)-2) 0),.bool sb,vI ((AF (AX W)).getD (many4 (kd W)-1) 0)] (_::_::_::_) (cs:=[_,_,_,_,_,_,_,_]) rfl rfl (sp 1 [(3,.bool true)] (se (BF (DM (t:=2) (u:=3) (T:=29) (n:=8) [] (by kernel_rfl) rfl (by kernel_rfl) rfl (snm [vI ((AF (AX W)).getD 0 0),vI ((AF (AX W)).getD 1 0),vI (kd W),vI ((AF (AX W)).getD 2 0),vI 0,vI ((AF (AX W)).getD (many4 (kd W)-2) 0),.bool sb,vI ((AF (AX W)).getD (many4 (kd W)-1) 0)] b1 29) (.inl ⟨by kernel_rfl,rfl⟩) rfl (TC _ (TC _ (TC _ (TR _)))) (IT (IT b9 b2) b6) ?_)))))))));exact ⟨(⟨((AF (AX W)).getD 0 0),((AF (AX W)).getD 1 0),(kd W),((AF (AX W)).getD 2 0),(0),((AF (AX W)).getD (many4 (kd W)-2) 0),(sb),((AF (AX W)).getD (many4 (kd W)-1) 0)⟩:Slip),(congrArg (fun b=>Value.tuple #[_,.bool b]) l2.symm),rfl,fun _=>SY rfl e2 rfl (by rw [if_neg i7]) rfl rfl⟩
 show Seq _ _ _ _ _ _ ((15,.tuple #[.bool true,vI b4.1,sV b4.2])::_) _ _;refine nm ?_;refine sp 1 [(16,.bool true)] (se (rq (rct 16 rfl (AM (NX (rb 1 (rqr (sS (stp_entry (d:=17) (x:=(.tmp 14)) (enc:=encI) (y:=(b4.1,sV b4.2)) (ty:=0) (gd:=none) (by kernel_rfl) rfl rfl (List.mem_of_getElem? (i:=0) rfl) (.inr a9) d3.2 f7 ?_)))))))));show Seq _ _ _ _ _ _ ((17,.tuple #[vI b4.1,sV b4.2])::_) _ _;refine sp 4 [(6,sV b4.2),(5,vI b4.1)] (sn (sp 2 [(21,vS i8 W.length i9),(20,sV b4.2)] (sd (di 22 1 0 c3.addr) (sd (dl 23 (DF c3 0 (by omega))) (sd (GW (x:=(.tmp 20)) (y:=(.tmp 23)) (T:=9) (T':=9) (d:=24) (ty:=4) (gd:=none) (by kernel_rfl) rfl rfl rfl) (se (rc 24 rfl (fun d5=>?_) (fun d5=>?_))))))))
 ·
  have f3:=d5;have d5:=HF d5;refine rr (sp 2 [(26,vP b3 2),(25,vI b4.1)] (sS (ss 1 2 b3 [vI b4.1] [vI 0,vI 0,vI b4.1,vI 0,vI 0,vI 0,.bool false,vI 0] (_::_::_::_) (cs:=[_,_,_,_,_,_,_,_]) rfl rfl (ee (NB ?_)))));refine AN ((d7++d8).length) (by (rw [c1,LA,LA,LC];omega)) ?_;intro a w hS hD hW;exact ⟨(d7++d8),b4.1,i4,(KindAt.hit (by rw [← c1];exact l0) d5),d9,hS.sub su,hD,hW,rfl⟩
 have f3:=d5;have d5:=HV d5;refine AM (NB ?_);refine AN ((d7++d8).length) (by (rw [c1,LA,LA,LC];omega)) ?_;intro a w hS hD hW;exact ⟨(d7++d8),kq,i4,(KindAt.miss (by rw [← c1];exact l0) d5),d9,hS.sub su,hD,hW,rfl⟩
end Go.Proofs.YtgcemienebmdeaaGreatDoor
