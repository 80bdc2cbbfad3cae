/- A part of the proof of the laws of this seat. -/
import Derived.Test.YtgcemienebmdeaaGreatDoorP1
import Derived.Test.YtgcemienebmdeaaGreatDoorProg
import Derived.Lib.Join
import Derived.Lib.ItoaNum
import Derived.Lib.ItoaLen
import Derived.Lib.SplitLaws
import Derived.Lib.CutLaws
import Derived.Lib.AtoiAll
import Derived.Shelf.LaysM
import Derived.Shelf.Strings.OnBuilder
import Derived.Shelf.Strconv.Itoa3
import Derived.Shelf.Strconv.AtoiAll
import Derived.Shelf.Strings.Split
set_option linter.unusedVariables false
set_option linter.unusedSimpArgs false
namespace Go.Sl
open Go
theorem encL_split {α : Type} (sz : Nat) (cell : α → Nat → Value) (dflt : α) (xs : List α) (j : Nat) (h : j < xs.length) :
    CS sz cell xs=CS sz cell (xs.take j)++((List.range sz).map (cell (xs.getD j dflt))++CS sz cell (xs.drop (j+1))):=by
  have e:xs=xs.take j++xs.getD j dflt::xs.drop (j+1):=by
    have:xs.drop j=xs.getD j dflt::xs.drop (j+1):=by
      rw [List.drop_eq_getElem_cons h];simp [List.getD,h]
    rw [← this,List.take_append_drop]
  conv=>lhs;rw [e]
  simp only [CS,List.flatMap_append,List.flatMap_cons]
theorem encL_setAll {α : Type} (sz : Nat) (cell : α → Nat → Value) (z : α) (xs : List α) (j : Nat) (h : j < xs.length) :
    CS sz cell (xs.set j z)=CS sz cell (xs.take j)++((List.range sz).map (cell z)++CS sz cell (xs.drop (j+1))):=by
  rw [List.set_eq_take_append_cons_drop,if_pos h];simp only [CS,List.flatMap_append,List.flatMap_cons]
section
variable {ρ:Option Nat} {P:Program} {N:Nat} {ops:Array Oper} {i:Nat} {l:Sl} {I:Imm} {M:Seg} {ty:TypeId} {gd:Option (Nat × Bool)} {K:Sl→Imm→Seg→Prop}
theorem JI {α : Type} {T : TypeId} {x y : Operand} {v : Value} {E sz : Nat} {cell : α → Nat → Value} {a : Option Addr} {n c b : Nat} {xs : List α} {Ms R : Seg} {rc : Nat → Nat → Value} (dflt : α) (j : Nat) (z : α)
    (hop:FM ops N i=some (none,.store T x y,ty,gd)) (hg:FJ ops l gd=some true) (own:Own E sz cell (.slice a n c) xs Ms) (row:ORow sz Ms a b xs.length rc) (hj:j<xs.length)
    (hx:CC l x=some (.pointer (some ⟨b,0+j*sz,none⟩))) (hy:CC l y=some v) (hsz:EF P T=some sz) (hv:v.cells.toList=(List.range sz).map (cell z)) (hone:∀ w∈(List.range sz).map (cell z),DJ w=true)
    (hM:M.Perm (Ms++R)) (next:∀ Ms',Own E sz cell (.slice a n c) (xs.set j z) Ms'→K l I (Ms'++R)):Stp P N ops i l I M K:=by
  have ha:=row.addr (by omega);rcases own with ⟨hv',rfl,rfl⟩ | ⟨b',c',sp,hv',hcap,rfl,hlen⟩
  · simp at hj
  · simp only [Value.slice.injEq] at hv'
    obtain ⟨rfl,rfl,rfl⟩:=hv';simp only [Option.some.injEq,Addr.mk.injEq,and_true] at ha;subst ha;refine KA hop hg (HK hx hy) hM ?_;show wpL P (Instr.storeAt T (rho l x) (rho l y) >>= fun _=>pure Next.skip) _ I _;rw [BA hx,BA hy,AE];show wpL P (storeVar T ⟨b',0+j*sz,none⟩ v) _ I _;unfold storeVar;rw [AE,CM hsz];have hl:v.cells.size=sz:=by rw [← Array.length_toList,hv];simp
    rw [if_neg (by simp [hl])];show wpL P (storeCells ⟨b',0+j*sz,none⟩ v.cells.toList) _ I _;rw [hv];have hs:=encL_split sz cell dflt xs j hj;have hA:(CS sz cell (xs.take j)).length=j*sz:=by rw [BU,List.length_take,Nat.min_eq_left (by omega)]
    refine GV (T:=E) (k:=0) ((List.range sz).map (cell z)) 0 _ (CS sz cell xs++sp).toArray _ (by simp) ?_ hone ?_
    · rw [hs]
      simp only [List.size_toArray,List.length_append,List.length_map,List.length_range,hA];omega
    · refine ⟨undef,_,.inr ⟨rfl,rfl⟩,List.Sublist.refl _,?_⟩
      have e2:KO (CS sz cell xs++sp).toArray (0+j*sz+0) ((List.range sz).map (cell z))=(CS sz cell (xs.set j z)++sp).toArray:=by
        apply Array.ext'
        have:=MI ((List.range sz).map (cell z)) (CS sz cell (xs.take j)) ((List.range sz).map (cell (xs.getD j dflt))++CS sz cell (xs.drop (j+1))++sp) (by simp);rw [hA] at this;rw [hs,encL_setAll sz cell z xs j hj,show 0+j*sz+0=j*sz by omega,List.append_assoc,this];simp
      rw [e2];exact next _ (.inr ⟨b',c,sp,by simp,by simpa using hcap,rfl,by rw [← hlen,List.length_append,List.length_append,BU,BU,List.length_set]⟩)
end
abbrev EqS (R:Seg):Seg→Prop:=fun X=>X=R
inductive FpOk (ops:Array Oper) (i:Nat) (M:Seg):List (Nat × (Seg→Prop))→Prop
  | nil:FpOk ops i M []
  | wait {k:Nat} {pr:Seg→Prop} {fp:List (Nat × (Seg→Prop))}:wt ops i k=true→FpOk ops i M fp→FpOk ops i M ((k,pr)::fp)
  | none {k:Nat} {fp:List (Nat × (Seg→Prop))}:FpOk ops i M fp→FpOk ops i M ((k,EqS [])::fp)
  | part {k:Nat} {R Sx:Seg} {fp:List (Nat × (Seg→Prop))}:M.Perm (R++Sx)→FpOk ops i M fp→FpOk ops i M ((k,EqS R)::fp)
  | other {k:Nat} {pr:Seg→Prop} {R Sx:Seg} {fp:List (Nat × (Seg→Prop))}:pr R→M.Perm (R++Sx)→FpOk ops i M fp→FpOk ops i M ((k,pr)::fp)
theorem FpOk.all {ops:Array Oper} {i:Nat} {M:Seg} {fp:List (Nat × (Seg→Prop))} (h:FpOk ops i M fp):∀ p∈fp,wt ops i p.1=true∨∃ Rx Sx,p.2 Rx∧M.Perm (Rx++Sx):=by
  induction h with
  | nil=>intro p hp;simp at hp
  | wait h _ ih=>
    intro p hp;rcases List.mem_cons.1 hp with rfl | hp
    · exact .inl h
    · exact ih p hp
  | none _ ih=>
    intro p hp;rcases List.mem_cons.1 hp with rfl | hp
    · exact .inr ⟨[],M,rfl,List.Perm.refl _⟩
    · exact ih p hp
  | part h _ ih=>
    intro p hp;rcases List.mem_cons.1 hp with rfl | hp
    · exact .inr ⟨_,_,rfl,h⟩
    · exact ih p hp
  | other h h2 _ ih=>
    intro p hp;rcases List.mem_cons.1 hp with rfl | hp
    · exact .inr ⟨_,_,h,h2⟩
    · exact ih p hp
section
variable {P:Program} {N:Nat} {ops:Array Oper} {als:List Nat} {al:List (Nat × Nat × Fresh)} {L0:Sl} {F0:Seg} {Kf:Sl→Imm→Seg→Prop} {fp:List (Nat × (Seg→Prop))} {rest:List (Nat × Bool)} {i d:Nat} {v:Value} {l:Sl} {I:Imm} {M M':Seg}
def lkB (d:Nat) (v:Value) (L0:Sl):Prop:=match EE d L0 with | some u=>v=u | none=>True
theorem lkOk {L0:Sl} {d:Nat} {v:Value} (h:lkB d v L0):∀ u,EE d L0=some u→v=u:=fun u hu=>by
  unfold lkB at h;rw [hu] at h;exact h
theorem AJ (h:Det P N ops i l I M d v) (next:OFPX P N ops als F0 Kf al L0 ((i,EqS M)::fp) rest ((d,v)::l) I M) (hL:lkB d v L0:=by first | exact trivial | exact rfl):OFPX P N ops als F0 Kf al L0 fp ((i,true)::rest) l I M:=⟨d,v,EqS M,M,[],fun _ e=>e▸h,rfl,by simp,lkOk hL,next⟩
theorem BH (h:Det P N ops i l I [] d v) (next:OFPX P N ops als F0 Kf al L0 ((i,EqS [])::fp) rest ((d,v)::l) I M) (hL:lkB d v L0:=by first | exact trivial | exact rfl):OFPX P N ops als F0 Kf al L0 fp ((i,true)::rest) l I M:=⟨d,v,EqS [],[],M,fun _ e=>e▸h,rfl,by simp,lkOk hL,next⟩
theorem KK {Rx Sx:Seg} (hp:M.Perm (Rx++Sx)) (h:Det P N ops i l I Rx d v) (next:OFPX P N ops als F0 Kf al L0 ((i,EqS Rx)::fp) rest ((d,v)::l) I M) (hL:lkB d v L0:=by first | exact trivial | exact rfl):OFPX P N ops als F0 Kf al L0 fp ((i,true)::rest) l I M:=⟨d,v,EqS Rx,Rx,Sx,fun _ e=>e▸h,rfl,hp,lkOk hL,next⟩
theorem KL (pr:Seg→Prop) {Rx Sx:Seg} (hq:pr Rx) (hp:M.Perm (Rx++Sx)) (h:∀ X,pr X→Det P N ops i l I X d v) (next:OFPX P N ops als F0 Kf al L0 ((i,pr)::fp) rest ((d,v)::l) I M) (hL:lkB d v L0:=by first | exact trivial | exact rfl):OFPX P N ops als F0 Kf al L0 fp ((i,true)::rest) l I M:=⟨d,v,pr,Rx,Sx,h,hq,hp,lkOk hL,next⟩
theorem ofx_ac {T:TypeId} {cs:Array Value} (ha:CI al i=some (d,.cl T cs)) (next:∀ b,OFPX P N ops als F0 Kf al L0 fp rest ((d,.pointer (some ⟨b,0,none⟩))::l) I ((b,Obj.cells cs T (0,0))::M)):OFPX P N ops als F0 Kf al L0 fp ((i,false)::rest) l I M:=by
  unfold OFPX;rw [ha];exact next
theorem ofx_bs {T:TypeId} {n:Nat} {cs:Array Value} (ha:CI al i=some (d,.bs T n cs)) (next:∀ b,OFPX P N ops als F0 Kf al L0 fp rest ((d,.slice (some ⟨b,0,none⟩) n n)::l) I ((b,Obj.cells cs T (0,0))::M)):OFPX P N ops als F0 Kf al L0 fp ((i,false)::rest) l I M:=by
  unfold OFPX;rw [ha];exact next
def dsB (ops:Array Oper) (i:Nat) (L0:Sl):Bool:=match EL ops i with | some d=>(EE d L0).isNone | none=>true
theorem dsB_nil (ops:Array Oper) (i:Nat):dsB ops i []=true:=by unfold dsB;split <;> rfl
theorem dsB_spec {L0:Sl} (h:dsB ops i L0=true):∀ d,EL ops i=some d→EE d L0=none:=fun d hd=>by
  unfold dsB at h;rw [hd] at h;simpa using h
def knB (ops:Array Oper) (als:List Nat) (al:List (Nat × Nat × Fresh)) (rest:List (Nat × Bool)):Bool:=als.all fun j=>(CI al j).isSome||rest.any fun x=>!x.2&&(wt ops j x.1&&!(isAl als x.1))
theorem knB_spec (h:knB ops als al rest=true):Known ops als al rest:=fun j hj=>by
  obtain ⟨k,hk,e⟩:=List.any_eq_true.1 (show (als.any fun k=>Nat.beq k j)=true from hj);obtain rfl:=Nat.eq_of_beq_eq_true e;have:=List.all_eq_true.1 h k hk;simp only [Bool.or_eq_true,List.any_eq_true,Bool.and_eq_true,Bool.not_eq_true'] at this;rcases this with h1 | ⟨⟨a,b⟩,h2,h3,h4,h5⟩
  · exact .inl (Option.isSome_iff_exists.1 h1)
  · simp only at h3 h4 h5
    subst h3;exact .inr ⟨a,h2,h4,h5⟩
theorem EY {Mx : Seg → Seg} (ha : CI al i = none) (hp : ∀ F, (Mx F).Perm (M ++ F))
    (h:∀ F,Stp P N ops i l I (Mx F) fun l' I' M'=>∃ M1 al' L0',M'.Perm (M1++F)∧FpOk ops i M1 fp∧Ext P N ops als al L0 al' L0' l'∧knB ops als al' rest=true∧OFPX P N ops als F0 Kf al' L0' fp rest l' I' M1) (hS:dsB ops i L0=true:=by first | exact dsB_nil _ _ | kernel_rfl):OFPX P N ops als F0 Kf al L0 fp ((i,false)::rest) l I M:=by
  unfold OFPX;rw [ha];refine ⟨dsB_spec hS,?_⟩;exact fun F _=>Stp.perm (hp F).symm (Stp.mono (h F) fun l' I' M' ⟨M1,al',L0',a,b,e,k,c⟩=>⟨M1,al',L0',a,b.all,e,knB_spec k,c⟩)
theorem GQ {F M1:Seg} (hp:M'.Perm (M1++F)) (hf:FpOk ops i M1 fp) (next:OFPX P N ops als F0 Kf al L0 fp rest l I M1) (hk:knB ops als al rest=true:=by kernel_rfl):∃ M1 al' L0',M'.Perm (M1++F)∧FpOk ops i M1 fp∧Ext P N ops als al L0 al' L0' l∧knB ops als al' rest=true∧OFPX P N ops als F0 Kf al' L0' fp rest l I M1:=⟨M1,al,L0,hp,hf,.inl ⟨rfl,rfl⟩,hk,next⟩
def asB (als:List Nat) (al:List (Nat × Nat × Fresh)):Bool:=al.all fun x=>isAl als x.1
theorem alFind_in:∀ (al:List (Nat × Nat × Fresh)) {i d:Nat} {E:Fresh},CI al i=some (d,E)→(i,d,E)∈al:=by
  intro al
  induction al with
  | nil=>intro i d E h;cases h
  | cons x r ih=>
    intro i d E h;unfold CI at h;cases hb:Nat.beq x.1 i with
    | true=>
      rw [hb] at h;simp only [cond_true,Option.some.injEq] at h;have e:=Nat.eq_of_beq_eq_true hb;rcases x with ⟨x1,x2⟩
      simp only at h e;subst h e;exact List.mem_cons_self
    | false=>
      rw [hb] at h;exact List.mem_cons_of_mem _ (ih h)
theorem asB_spec (h:asB als al=true):∀ i d E,CI al i=some (d,E)→isAl als i=true:=fun i d E hi=>List.all_eq_true.1 h _ (alFind_in al hi)
theorem ofx_nxE {F M1 : Seg} (t : Nat) (v : Value) (j d : Nat) (E : Fresh) (hp : M'.Perm (M1 ++ F)) (hf : FpOk ops i M1 fp) (hA : ∀ i' d' E', CI ((j, d, E) :: al) i' = some (d', E') → AlOk P N ops ((t, v) :: L0) i' d' E') (hv : EE t l = some v)
    (next:OFPX P N ops als F0 Kf ((j,d,E)::al) ((t,v)::L0) fp rest l I M1) (hj:(CI al j).isNone=true:=by kernel_rfl) (hs:asB als ((j,d,E)::al)=true:=by kernel_rfl) (hk:knB ops als ((j,d,E)::al) rest=true:=by kernel_rfl) :
    ∃ M1 al' L0',M'.Perm (M1++F)∧FpOk ops i M1 fp∧Ext P N ops als al L0 al' L0' l∧knB ops als al' rest=true∧OFPX P N ops als F0 Kf al' L0' fp rest l I M1:=by
  refine ⟨M1,(j,d,E)::al,(t,v)::L0,hp,hf,.inr ⟨fun i' d' E' h=>?_,fun i' d' E' h=>⟨hA i' d' E' h,asB_spec hs i' d' E' h⟩,fun u w h=>?_⟩,hk,next⟩
  · unfold CI
    cases hb:Nat.beq j i' with
    | true=>
      have e:=Nat.eq_of_beq_eq_true hb;rw [e,h] at hj;cases hj
    | false=>exact h
  · unfold EE at h
    cases hb:Nat.beq t u with
    | true=>
      have e:=Nat.eq_of_beq_eq_true hb;rw [hb] at h;simp only [cond_true,Option.some.injEq] at h;rw [← e,← h];exact .inl hv
    | false=>
      rw [hb] at h;exact .inr h
theorem GN (h:Kf l I M):OFPX P N ops als F0 Kf al L0 fp [] l I M:=h
def noLooks (ops:Array Oper) (i:Nat):Bool:=match ops[i]? with | some o=>(o.looksAt ops).isEmpty | none=>false
theorem SI (h2:noLooks ops i=true) (t:Nat):EQ ops i t=false:=by
  unfold noLooks at h2;unfold EQ;cases ho:ops[i]? with
  | none=>rfl
  | some o=>
    rw [ho] at h2;simp only [List.isEmpty_iff] at h2;simp [h2]
def supB (ops:Array Oper) (i:Nat) (L0:Sl):Bool:=match ops[i]? with
  | some o=>(o.looksAt ops).all fun t=>(EE t L0).isSome&&(List.range ops.size).all fun k=>!(dstB ops k t)||wt ops i k
  | none=>false
theorem supB_spec {L0:Sl} (h:supB ops i L0=true):∀ t,EQ ops i t=true→∃ u,EE t L0=some u∧∀ k,EL ops k=some t→wt ops i k=true:=fun t ht=>by
  unfold supB at h;unfold EQ at ht;cases ho:ops[i]? with
  | none=>rw [ho] at h;cases h
  | some o=>
    rw [ho] at h ht;simp only [List.all_eq_true,Bool.and_eq_true,List.any_eq_true,Bool.or_eq_true,Bool.not_eq_true'] at h ht;obtain ⟨u,hu,e⟩:=ht;obtain rfl:=Nat.eq_of_beq_eq_true e;obtain ⟨h1,h2⟩:=h u hu;obtain ⟨v,hv⟩:=Option.isSome_iff_exists.1 h1;refine ⟨v,hv,fun k hk=>?_⟩;rcases h2 k (List.mem_range.2 (RY hk)) with h3 | h3
    · rw [QZ hk] at h3;cases h3
    · exact h3
theorem alOk_cl {T:TypeId} {cs:Array Value} (h1:EL ops i=some d) (h2:noLooks ops i=true) (h3:alAt P N ops [] i=some (d,T,cs)):AlOk P N ops [] i d (.cl T cs):=
  ⟨h1,rfl,(fun t ht=>by rw [SI h2] at ht;cases ht),fun I M=>sal d T cs (fun b=>⟨b,rfl,rfl,rfl⟩) h3⟩
theorem OX {L0:Sl} {T:TypeId} {n:Nat} {cs:Array Value} (h1:EL ops i=some d) (h0:EE d L0=none) (h2:supB ops i L0=true) (h3:bsAt P N ops L0 i=some (d,T,n,cs)):AlOk P N ops L0 i d (.bs T n cs):=
  ⟨h1,h0,supB_spec h2,fun I M=>sbs d T n cs (fun b=>⟨b,rfl,rfl,rfl⟩) h3⟩
theorem IK:∀ i d E,CI [] i=some (d,E)→AlOk P N ops L0 i d E:=fun _ _ _ h=>by cases h
theorem KW {E:Fresh} (h:AlOk P N ops L0 i d E) (r:∀ i d E,CI al i=some (d,E)→AlOk P N ops L0 i d E):∀ i' d' E',CI ((i,d,E)::al) i'=some (d',E')→AlOk P N ops L0 i' d' E':=fun i' d' E' h'=>by
  unfold CI at h';cases hb:Nat.beq i i' with
  | true=>
    have e:=Nat.eq_of_beq_eq_true hb;rw [hb] at h';simp only [cond_true,Option.some.injEq,Prod.mk.injEq] at h';obtain ⟨rfl,rfl⟩:=h';exact e▸h
  | false=>
    rw [hb] at h';exact r i' d' E' h'
end
def alInjS (ops:Array Oper) (als:List Nat):Bool:=als.all fun i=>als.all fun j=>Nat.beq i j||!(match EL ops i,EL ops j with | some a,some b=>Nat.beq a b | _,_=>false)
theorem alInjS_spec {ops:Array Oper} {als:List Nat} (h:alInjS ops als=true):∀ i j d,isAl als i=true→isAl als j=true→EL ops i=some d→EL ops j=some d→i=j:=fun i j d hi hj h1 h2=>by
  obtain ⟨k,hk,e⟩:=List.any_eq_true.1 (show (als.any fun k=>Nat.beq k i)=true from hi);obtain rfl:=Nat.eq_of_beq_eq_true e;obtain ⟨k',hk',e'⟩:=List.any_eq_true.1 (show (als.any fun k=>Nat.beq k j)=true from hj);obtain rfl:=Nat.eq_of_beq_eq_true e';have:=List.all_eq_true.1 (List.all_eq_true.1 h _ hk) _ hk';rw [h1,h2] at this;simp only [Nat.beq_refl,Bool.not_true,Bool.or_false] at this;exact Nat.eq_of_beq_eq_true this
section
variable {ρ:Option Nat} {P:Program} {N:Nat} {Q:Exit→Act→World→Prop} {ds:List Deferred} {C:List Nat→Code} {p:List Nat} {l:Sl} {I:Imm} {M0 M F0:Seg}
theorem rdX (al : List (Nat × Nat × Fresh)) (n0 : Nat) (order : List (Nat × Bool)) (hM : M0.Perm (M ++ F0)) (hA : ∀ i d E, CI al i = some (d, E) → AlOk P N (FY (C p)) [] i d E) (h : OFPX P N (FY (C p)) (al.map Prod.fst) F0 (fun l I M => Seq (ρ := ρ) P N (FY (C p)) Q ds n0 l I (M ++ F0)) al [] [] order l I M) (hI : (alInjS (FY (C p)) (al.map Prod.fst) && (asB (al.map Prod.fst) al && knB (FY (C p)) (al.map Prod.fst) al order)) = true := by kernel_rfl)
    (hm:P.follows .mixedOrders=true:=by kernel_rfl) (hc:OP (C p)=true:=by kernel_rfl) (hok:okAllX (al.map Prod.fst) (FY (C p)) n0 order=true:=by kernel_rfl):Run (ρ:=ρ) P N (C p) Q ds l I M0:=by
  obtain ⟨id,hid⟩:=IL hc;simp only [Bool.and_eq_true] at hI;exact fun a w hS hD hW=>run_drawX _ al n0 order hm hid hok hA (asB_spec hI.2.1) (knB_spec hI.2.2) (alInjS_spec hI.1) (fun _ _ h=>by cases h) h a w hS hD (hW.perm hM)
def regB (ops:Array Oper) (L0:Sl):Bool:=L0.all fun x=>(List.range ops.size).any fun k=>dstB ops k x.1
theorem look_mem:∀ (L:Sl) {t:Nat} {u:Value},EE t L=some u→∃ x∈L,x.1=t:=by
  intro L
  induction L with
  | nil=>intro t u h;cases h
  | cons x r ih=>
    intro t u h;rcases x with ⟨k,v⟩
    unfold EE at h;cases hb:Nat.beq k t with
    | true=>exact ⟨_,List.mem_cons_self,Nat.eq_of_beq_eq_true hb⟩
    | false=>
      rw [hb] at h;obtain ⟨y,hy,e⟩:=ih h;exact ⟨y,List.mem_cons_of_mem _ hy,e⟩
theorem regB_spec {ops:Array Oper} {L0:Sl} (h:regB ops L0=true):∀ t u,EE t L0=some u→∃ k,EL ops k=some t:=fun t u ht=>by
  obtain ⟨x,hx,rfl⟩:=look_mem L0 ht;obtain ⟨k,_,hk⟩:=List.any_eq_true.1 (List.all_eq_true.1 h x hx);refine ⟨k,?_⟩;unfold dstB at hk;unfold EL;cases ho:ops[k]? with
  | none=>rw [ho] at hk;cases hk
  | some o=>
    rw [ho] at hk;simp only at hk;cases hd:o.dst with
    | none=>rw [hd] at hk;cases hk
    | some d=>
      rw [hd] at hk;simp only at hk;rw [Nat.eq_of_beq_eq_true hk] at hd
      simpa using hd
theorem rdY (L0 : Sl) (als : List Nat) (al : List (Nat × Nat × Fresh)) (n0 : Nat) (order : List (Nat × Bool)) (hM : M0.Perm (M ++ F0)) (hA : ∀ i d E, CI al i = some (d, E) → AlOk P N (FY (C p)) L0 i d E) (h : OFPX P N (FY (C p)) als F0 (fun l I M => Seq (ρ := ρ) P N (FY (C p)) Q ds n0 l I (M ++ F0)) al L0 [] order l I M) (hI : (alInjS (FY (C p)) als && (asB als al && knB (FY (C p)) als al order)) = true := by kernel_rfl)
    (hm:P.follows .mixedOrders=true:=by kernel_rfl) (hc:OP (C p)=true:=by kernel_rfl) (hok:okAllX als (FY (C p)) n0 order=true:=by kernel_rfl) (hr:regB (FY (C p)) L0=true:=by kernel_rfl):Run (ρ:=ρ) P N (C p) Q ds l I M0:=by
  obtain ⟨id,hid⟩:=IL hc;simp only [Bool.and_eq_true] at hI;exact fun a w hS hD hW=>run_drawX _ al n0 order hm hid hok hA (asB_spec hI.2.1) (knB_spec hI.2.2) (alInjS_spec hI.1) (fun t u ht=>.inl (regB_spec hr t u ht)) h a w hS hD (hW.perm hM)
end
end Go.Sl
namespace Go.Sh
open Go Go.Sl
def Rev {α:Type} (d:α) (xs zs:List α) (k:Nat):Prop:=zs.length=xs.length∧∀ p,p<xs.length→zs.getD p d=if p<k∨xs.length-k≤p then xs.getD (xs.length-1-p) d else xs.getD p d
theorem Rev.start {α:Type} (d:α) (xs:List α):Rev d xs xs 0:=⟨rfl,fun p hp=>by rw [if_neg (by omega)]⟩
end Go.Sh
namespace Go.Sl
open Go
end Go.Sl
namespace Go.Sh
open Go Go.Sl
section
variable {α:Type} {c:α→α→Int}
theorem insB_perm (x:α):∀ l:List α,(insB c x l).Perm (x::l):=by
  intro l
  induction l with
  | nil=>exact .refl _
  | cons y r ih=>
    simp only [insB]
    split
    · exact .refl _
    · exact (List.Perm.cons y ih).trans (.swap x y r)
theorem insB_at (d x:α):∀ (l:List α) (j:Nat),j≤l.length→(∀ z∈l.drop j,c x z<0)→(j=0∨¬ c x (l.getD (j-1) d)<0)→insB c x l=l.take j++x::l.drop j:=by
  intro l
  induction l with
  | nil=>intro j hj _ _;simp at hj;subst hj;rfl
  | cons y r ih=>
    intro j hj hd hs;cases j with
    | zero=>
      simp only [insB];simp only [List.drop_zero] at hd;rw [if_pos ⟨hd y (by simp),fun z hz=>hd z (by simp [hz])⟩];rfl
    | succ j=>
      have hs:¬ c x ((y::r).getD j d)<0:=by
        rcases hs with hs | hs
        · omega
        · exact hs
      simp only [insB];rw [if_neg]
      · rw [ih j (by simpa using hj) (by simpa using hd) ?_]
        · simp
        · cases j with
          | zero=>exact .inl rfl
          | succ j=>exact .inr (by simpa [List.getD] using hs)
      · rintro ⟨h1,h2⟩
        cases j with
        | zero=>exact hs (by simpa [List.getD] using h1)
        | succ j=>
          have hj2:j<r.length:=by simp at hj;omega
          exact hs (by simpa [List.getD,hj2] using h2 _ (List.getElem_mem hj2))
def AH (c:α→α→Int) (l:List α):List α:=l.foldl (fun p x=>insB c x p) []
theorem isort_perm_aux:∀ (l p:List α),(l.foldl (fun p x=>insB c x p) p).Perm (p++l):=by
  intro l
  induction l with
  | nil=>intro p;rw [List.append_nil];exact .refl _
  | cons x r ih=>
    intro p;exact (ih _).trans (((insB_perm x p).append_right r).trans (List.perm_middle.symm))
theorem HD (l:List α):(AH c l).Perm l:=isort_perm_aux l []
theorem isort_snoc (l:List α) (x:α):AH c (l++[x])=insB c x (AH c l):=by simp [AH]
theorem isort_take {l:List α} {k:Nat} {d:α} (hk:k<l.length):AH c (l.take (k+1))=insB c (l.getD k d) (AH c (l.take k)):=by
  rw [CN (d:=d) hk,isort_snoc]
structure Strict (c:α→α→Int) (l:List α):Prop where
  tri:∀ a∈l,∀ b∈l,a≠b→(c a b<0∨c b a<0)
  irr:∀ a∈l,¬ c a a<0
  trans:∀ a∈l,∀ b∈l,∀ d∈l,c a b<0→c b d<0→c a d<0
theorem Strict.perm {l l':List α} (h:Strict c l) (p:l'.Perm l):Strict c l':=
  ⟨fun a ha b hb=>h.tri a (p.subset ha) b (p.subset hb),fun a ha=>h.irr a (p.subset ha),fun a ha b hb d hd=>h.trans a (p.subset ha) b (p.subset hb) d (p.subset hd)⟩
end
def sortS (l:List Slip):List Slip:=AH AD l
end Go.Sh
namespace Go.Sl
open Go
section
variable {ρ:Option Nat} {P:Program} {N:Nat} {ops:Array Oper} {Q:Exit→Act→World→Prop} {ds:List Deferred} {i:Nat} {l:Sl} {I I₀:Imm} {R M F:Seg} {fn:Func} {post:Value→Imm→Seg→Prop}
theorem rt1 (t : Nat) {v : Value} (hv : EE t l = some v) (hle : I₀.le I) (hp : post v I []) (hr : fn.results = #[.tmp t] := by kernel_rfl) (hs : ([] ++ F).Sublist M := by exact TR _) :
    Pst N (RetQ P fn I₀ post F) .ret [] l I M:=HP [] hr hv hs hle hp
theorem DY (t : Nat) {v : Value} (M' : Seg) (hv : EE t l = some v) (hs : (M' ++ F).Sublist M) (hle : I₀.le I) (hp : post v I M') (hr : fn.results = #[.tmp t] := by kernel_rfl) :
    Pst N (RetQ P fn I₀ post F) .ret [] l I M:=HP M' hr hv hs hle hp
theorem rt2 (t u : Nat) {v x : Value} (hv : EE t l = some v) (hx : EE u l = some x) (hle : I₀.le I) (hp : post (.tuple #[v, x]) I []) (hr : fn.results = #[.tmp t, .tmp u] := by kernel_rfl) (hs : ([] ++ F).Sublist M := by exact TR _) :
    Pst N (RetQ P fn I₀ post F) .ret [] l I M:=DQ [] hr hv hx hs hle hp
theorem rt2s (t u : Nat) {v x : Value} (M' : Seg) (hv : EE t l = some v) (hx : EE u l = some x) (hs : (M' ++ F).Sublist M) (hle : I₀.le I) (hp : post (.tuple #[v, x]) I M') (hr : fn.results = #[.tmp t, .tmp u] := by kernel_rfl) :
    Pst N (RetQ P fn I₀ post F) .ret [] l I M:=DQ M' hr hv hx hs hle hp
theorem dpv (d:Nat) (v:Value) (h:pvAt P N ops l i=some (d,v):=by kernel_rfl):Det P N ops i l I R d v:=det_pv h
theorem dld (d x : Nat) (T : TypeId) {b off : Nat} (v : Value) (hx : EE x l = some (.pointer (some ⟨b, off, none⟩))) (hs : Sees I R ⟨b, off, none⟩ v) (hop : FM ops N i = some (some d, .load T (.tmp x), T, none) := by kernel_rfl) (hT : EV P T = some false := by kernel_rfl) :
    Det P N ops i l I R d v:=ST hop rfl hT hx hs
theorem dfa (d x : Nat) (T : TypeId) (k o : Nat) (ty : TypeId) {b off : Nat} (hx : EE x l = some (.pointer (some ⟨b, off, none⟩))) (hop : FM ops N i = some (some d, .fieldAddr T (.tmp x) k, ty, none) := by kernel_rfl) (hT : tyOff P T k = some o := by kernel_rfl) :
    Det P N ops i l I R d (.pointer (some ⟨b,off+o,none⟩)):=PD hop rfl hT hx
theorem dct (d : Nat) (x y : Operand) (T : TypeId) {a b : List UInt8} (hx : CC l x = some (sV a)) (hy : CC l y = some (sV b)) (hl : a.length + b.length ≤ 9223372036854775807 := by first | omega | (simp only [List.length_append, List.length_cons, List.length_nil]; omega))
    (hop:FM ops N i=some (some d,.binOp .add T x y T,T,none):=by kernel_rfl):Det P N ops i l I R d (sV (a++b)):=MT hop rfl hx hy hl
theorem sap {α : Type} {d : Nat} (x y : Nat) (T E sz bs : Nat) (z : Value) (cell : α → Nat → Value) {v u : Value} (xs ys : List α) (Ms : Seg) {Rest : Seg} {K : Sl → Imm → Seg → Prop}
    (hx:EE x l=some v) (hy:EE y l=some u) (own:Own E sz cell v xs Ms) (hM:M.Perm (Ms++Rest)) (hone:∀ c∈CS sz cell ys,DJ c=true) (hsrc:Src I (Ms++Rest) u ys.length (CS sz cell ys))
    (next:∀ v' Ms',Own E sz cell v' (xs++ys) Ms'→K ((d,v')::l) I (Ms'++Rest))
    (hneed:xs.length+ys.length≤274877906944:=by first | omega | (simp only [List.length_cons,List.length_nil];omega) | (simp only [List.length_cons,List.length_nil,List.length_append];omega) | (simp only [List.length_cons,List.length_nil,List.length_append,List.length_take,List.length_drop];omega) | (simp only [List.length_cons,List.length_nil,List.length_append,List.length_take,List.length_map];omega))
    (hop:FM ops N i=some (some d,.call { callee:=.builtin .append,args:=#[.tmp x,.tmp y],argTypes:=#[T,T] },T,none):=by kernel_rfl)
    (hT:HS P T=some E:=by kernel_rfl) (hsz:EF P E=some sz:=by kernel_rfl) (hz:IW P E=some z:=by kernel_rfl) (hzc:z.cells.size=sz:=by kernel_rfl) (hb:KZ P E=some bs:=by kernel_rfl) (hbs:1≤bs∧bs≤256:=by decide):Stp P N ops i l I M K:=
  HE hop rfl hT hsz hz hzc hb hbs hT hx hy own hM hone hsrc hneed next
theorem snm (vs:List Value) (b:Nat) (T:TypeId) (h:(b,Obj.cells vs.toArray T (0,0))∈M:=by simp):SeesN I M b 0 vs:=CU (n:=vs.length) h (by simp)
theorem FpOk.wt {M:Seg} {k:Nat} {pr:Seg→Prop} {fp:List (Nat × (Seg→Prop))} (f:FpOk ops i M fp) (h:Go.Sl.wt ops i k=true:=by kernel_rfl):FpOk ops i M ((k,pr)::fp):=.wait h f
theorem kk:(∀ b,(true&&b)=b)∧(∀ b,(false&&b)=false)∧(∀ b,(b&&true)=b)∧(∀ b,(b&&false)=false)∧(∀ b,(true||b)=true)∧(∀ b,(false||b)=b)∧(∀ b,(b||true)=true)∧(∀ b,(b||false)=b)∧(∀ a b:Bool,(bif true then a else b)=a)∧(∀ a b:Bool,(bif false then a else b)=b):=
  ⟨kA,kB,kC,kD,kE,kF,kG,kH,kI,kJ⟩
theorem sun (n:Nat) {l' l:Sl} (h2:Sub (l'.drop n) l) (h:pickL l (l'.take n) true=some (l'.take n):=by kernel_rfl):Sub l' l:=by
  intro t v ht;rw [← List.take_append_drop n l',JT] at ht;cases hq:EE t (l'.take n) with
  | none=>rw [hq] at ht;exact h2 t v ht
  | some u=>rw [hq] at ht;cases ht;exact NW h hq
theorem dln (d x : Nat) (T : TypeId) (vs : List Value) {b off : Nat} (hx : EE x l = some (.pointer (some ⟨b, off, none⟩))) (hs : SeesN I R b off vs) (hop : FM ops N i = some (some d, .load T (.tmp x), T, none) := by kernel_rfl) (hT : EV P T = some true := by kernel_rfl) (hn : EF P T = some vs.length := by kernel_rfl) :
    Det P N ops i l I R d (.agg vs.toArray):=det_loadN hop rfl hT hn hx rfl hs
theorem rmA {c:Code} {M':Seg} (next:Run (ρ:=ρ) P N c Q ds l I M') (h:∀ w,St I M w→St I M' w:=by intro w h;simpa only [List.append_assoc,List.cons_append,List.nil_append] using h):Run (ρ:=ρ) P N c Q ds l I M:=run_mem h next
abbrev SD (N:Nat) (l:Sl) (I:Imm) (M:Seg) (a:Act) (w:World) (p:Prop):Prop:=Slots N l a∧a.defers=[]∧St I M w∧p
abbrev SE (N:Nat) (l:Sl) (I:Imm) (M:Seg) (a:Act) (w:World):Prop:=Slots N l a∧a.defers=[]∧St I M w
noncomputable def cod (f:Func) (p:List Nat):Code:=sub (OE f) p
end
end Go.Sl
namespace Go.Sh
open Go Go.Sl
abbrev AV (s:Slip):Array Value:=#[vI s.num,vI s.hour,vI s.kind,vI s.place,vI s.to,vI s.sort,.bool s.soil,vI s.amt]
abbrev GI (s:Slip):List Value:=[vI s.num,vI s.hour,vI s.kind,vI s.place,vI s.to,vI s.sort,.bool s.soil,vI s.amt]
abbrev GO (x:Event):Array Value:=#[vI x.slip.num,vI x.slip.hour,vI x.slip.kind,vI x.slip.place,vI x.slip.to,vI x.slip.sort,.bool x.slip.soil,vI x.slip.amt,vI x.gap,.bool x.below]
abbrev evntL (x:Event):List Value:=[vI x.slip.num,vI x.slip.hour,vI x.slip.kind,vI x.slip.place,vI x.slip.to,vI x.slip.sort,.bool x.slip.soil,vI x.slip.amt,vI x.gap,.bool x.below]
abbrev OC (k:Keep):Array Value:=#[vI k.place,vI k.hour,vI k.who]
abbrev OQ (k:Keep):List Value:=[vI k.place,vI k.hour,vI k.who]
abbrev AZ (L:Lin) (a b c:Value):Array Value:=#[vI L.places,vI L.sorts,a,b,c]
abbrev FW (L:Lin) (a b c:Value):List Value:=[vI L.places,vI L.sorts,a,b,c]
abbrev AR:Array Value:=#[vI 0,vI 0,vN,vN,vN]
abbrev HH:List Value:=[vI 0,vI 0,vN,vN,vN]
abbrev DU:Array Value:=#[vI 0,vI 0,vI 0,vI 0,vI 0,vI 0,.bool false,vI 0]
abbrev zSlpL:List Value:=[vI 0,vI 0,vI 0,vI 0,vI 0,vI 0,.bool false,vI 0]
end Go.Sh
namespace Go.Proofs.YtgcemienebmdeaaGreatDoor
open Go Go.Sl Go.Sh
set_option maxRecDepth 100000
noncomputable def c_EqualInts_ct:=cod Tryz.f16
theorem MR (I:Imm) (a:Value) (xs:List Int) (b:Value) (ys:List Int) (a_f:CP I a xs) (b_f:CP I b ys):CtV Tryz.prog 16 #[a,b] I (.bool (decide (xs=ys))):=by
 obtain ⟨a0,a1,b1,b4,rfl,b2,b3,a7⟩:=id a_f;obtain ⟨a2,a3,b5,b8,rfl,b6,b7,a8⟩:=id b_f;refine fr (args:=[_,_]) (N:=26) Tryz.func16 (fun F=>?_);show Run _ _ (c_EqualInts_ct []) _ _ [(0,_),(1,_)] _ _;refine rnm (rqr ?_);refine sp 1 [(4,.bool false)] (se (rq (rqr (sp 5 [(10,.bool (!(cmp .eql (↑(xs.length)) (↑(ys.length)))))] (se (rc 10 rfl (fun h1=>?_) (fun h1=>?_)))))))
 ·
  have a4:=h1;have h1:=BG (BO h1);refine rqr (sp 1 [(4,.bool false)] (se (BF (RP (rt1 4 rfl (IR _) ?_)))));exact ⟨by rw [decide_eq_false (fun e=>h1 (by rw [e]))],rfl⟩
 have a4:=h1;have h1:=BI (BK h1);refine AM (NX (rq (rqr (sp 1 [(5,vI 0)] (se (rb 0 ?_))))));refine rl (fun mz a w=>∃ k:Nat,(k≤xs.length)∧(xs.length=ys.length)∧(xs.take k=ys.take k)∧SD 26 [(5,vI ↑k),(0,vS a0 xs.length a1),(1,vS a2 ys.length a3)] I F a w (mz=xs.length-k)) ?_ ?_
 ·intro a w hS hD hW;exact ⟨_,0,Nat.zero_le _,by omega,rfl,hS.sub su,hD,hW,rfl⟩
 rintro mz a w ⟨k,hk,hl,ht,hS,hD,hW,rfl⟩
 refine AP hS hD hW ?_;clear hS hD hW a w;refine rq (rqr (sp 4 [(14,.bool (cmp .lss ↑k (↑(xs.length))))] (se (rc 14 rfl (fun h2=>?_) (fun h2=>?_)))))
 ·
  have a5:=h2;have h2:=BW h2;refine AM (NX (rq (rb 1 (rq ?_))));refine rd0 8 (ox 2 [(18,vI ↑k),(17,vS a0 xs.length a1)] ?_);refine AC (di 19 1 k a7.addr) ?_;refine AC (dl 20 (BL a7 k (by omega))) (ox 2 [(22,vI ↑k),(21,vS a2 ys.length a3)] ?_);refine AC (di 23 1 k a8.addr) ?_;refine AC (dl 24 (BL a8 k (by omega))) ?_;refine BJ (sp 1 [(25,.bool (!(cmp .eql (xs.getD k 0) (ys.getD k 0))))] (se (rc 25 rfl (fun h3=>?_) (fun h3=>?_))))
  ·
   have a6:=h3;have h3:=BG (BO h3);refine rqr (sp 1 [(4,.bool false)] (se (BF (RB (RP (RP (RB (RP (rt1 4 rfl (IR _) ?_)))))))));exact ⟨by rw [decide_eq_false (getD_ne hl h3)],rfl⟩
  have a6:=h3;have h3:=BI (BK h3);refine AM (NB (NX (rr (sp 1 [(15,vI ↑k)] (sd (da 16 ↑k 1) (sp 1 [(5,vI (↑k+1))] (ee ?_)))))));refine AN (xs.length-(k+1)) (by omega) ?_;intro a w hS hD hW;exact ⟨k+1,by omega,hl,LV (d:=0) hl ht (by omega) h3,hS.sub su,hD,hW,rfl⟩
 have a5:=h2;have h2:=CB h2;refine BX 0 (EP (EP (EB (NX (rqr (sp 1 [(4,.bool true)] (se (BF (rt1 4 rfl (IR _) ?_)))))))));exact ⟨by rw [decide_eq_true (QQ hl ht (by omega))],rfl⟩
noncomputable def c_EqualRows_ct:=cod Tryz.f17
theorem RW (I:Imm) (a:Value) (xs:List (List Int)) (b:Value) (ys:List (List Int)) (a_f:IsRows I a xs) (b_f:IsRows I b ys):CtV Tryz.prog 17 #[a,b] I (.bool (decide (xs=ys))):=by
 obtain ⟨a4,a5,d3,d6,b4,rfl,d4,d5,b1,b5⟩:=id a_f;obtain ⟨a6,a7,d7,e0,b7,rfl,d8,d9,b2,b8⟩:=id b_f;refine fr (args:=[_,_]) (N:=27) Tryz.func17 (fun F=>?_);show Run _ _ (c_EqualRows_ct []) _ _ [(0,_),(1,_)] _ _;refine rnm (rqr ?_);refine sp 1 [(4,.bool false)] (se (rq (rqr (sp 5 [(10,.bool (!(cmp .eql (↑(xs.length)) (↑(ys.length)))))] (se (rc 10 rfl (fun h1=>?_) (fun h1=>?_)))))))
 ·
  have a8:=h1;have h1:=BG (BO h1);refine rqr (sp 1 [(4,.bool false)] (se (BF (RP (rt1 4 rfl (IR _) ?_)))));exact ⟨by rw [decide_eq_false (fun e=>h1 (by rw [e]))],rfl⟩
 have a8:=h1;have h1:=BI (BK h1);refine AM (NX (rq (rqr (sp 1 [(5,vI 0)] (se (rb 0 ?_))))));refine rl (fun mz a w=>∃ k:Nat,(k≤xs.length)∧(xs.length=ys.length)∧(xs.take k=ys.take k)∧SD 27 [(5,vI ↑k),(0,vS a4 xs.length a5),(1,vS a6 ys.length a7)] I F a w (mz=xs.length-k)) ?_ ?_
 ·intro a w hS hD hW;exact ⟨_,0,Nat.zero_le _,by omega,rfl,hS.sub su,hD,hW,rfl⟩
 rintro mz a w ⟨k,hk,hl,ht,hS,hD,hW,rfl⟩
 refine AP hS hD hW ?_;clear hS hD hW a w;refine rq (rqr (sp 4 [(14,.bool (cmp .lss ↑k (↑(xs.length))))] (se (rc 14 rfl (fun h2=>?_) (fun h2=>?_)))))
 ·
  have a9:=h2;have h2:=BW h2;refine AM (NX (rq (rb 1 (rq ?_))));refine rd0 8 (ox 2 [(18,vI ↑k),(17,vS a4 xs.length a5)] ?_);refine AC (di 19 1 k b1.addr) ?_;have a0:=b5 k (by omega);obtain ⟨b9,c1,c0,c4,a2,c2,c3,c5⟩:=id a0;rw [a2] at a0;refine AC (DC (dl 20 (GX b1 k (by omega))) a2) (ox 2 [(22,vI ↑k),(21,vS a6 ys.length a7)] ?_);refine AC (di 23 1 k b2.addr) ?_;have a1:=b8 k (by omega);obtain ⟨c6,c8,c7,d1,a3,c9,d0,d2⟩:=id a1;rw [a3] at a1;refine AC (DC (dl 24 (GX b2 k (by omega))) a3) ?_;refine BJ (sd (dc 25 (fun I' hI=>(MR I' _ _ _ _ (a0.mono hI) (a1.mono hI) :))) (sp 1 [(26,.bool (!(decide ((xs.getD k [])=(ys.getD k [])))))] (se (rc 26 rfl (fun h3=>?_) (fun h3=>?_)))))
  ·
   have b0:=h3;have h3:=HV (BO h3);refine rqr (sp 1 [(4,.bool false)] (se (BF (RB (RP (RP (RB (RP (rt1 4 rfl (IR _) ?_)))))))));exact ⟨by rw [decide_eq_false (getD_ne hl h3)],rfl⟩
  have b0:=h3;have h3:=HF (BK h3);refine AM (NB (NX (rr (sp 1 [(15,vI ↑k)] (sd (da 16 ↑k 1) (sp 1 [(5,vI (↑k+1))] (ee ?_)))))));refine AN (xs.length-(k+1)) (by omega) ?_;intro a w hS hD hW;exact ⟨k+1,by omega,hl,LV (d:=[]) hl ht (by omega) h3,hS.sub su,hD,hW,rfl⟩
 have a9:=h2;have h2:=CB h2;refine BX 0 (EP (EP (EB (NX (rqr (sp 1 [(4,.bool true)] (se (BF (rt1 4 rfl (IR _) ?_)))))))));exact ⟨by rw [decide_eq_true (QQ hl ht (by omega))],rfl⟩
noncomputable def c_Index_ct:=cod Tryz.f100
theorem Index_ct (I:Imm) (a:Value) (xs:List Int) (n:Int) (a_f:CP I a xs):CtV Tryz.prog 100 #[a,vI n] I (vI (seat xs n)):=by
 obtain ⟨a0,a1,a6,a9,rfl,a7,a8,a4⟩:=id a_f;refine fr (args:=[_,_]) (N:=19) Tryz.func100 (fun F=>?_);show Run _ _ (c_Index_ct []) _ _ [(0,_),(1,_)] _ _;refine rnm (rqr ?_);refine sp 1 [(4,vI 0)] (se (rq (rqr (sp 3 [(8,vI 0),(7,vI (↑(xs.length)))] (se (rb 0 ?_))))));refine rl (fun mz a w=>∃ k:Nat,(k≤xs.length)∧(n∉xs.take k)∧SD 19 [(8,vI ↑k),(0,vS a0 xs.length a1),(1,vI n),(7,vI (↑(xs.length)))] I F a w (mz=xs.length-k)) ?_ ?_
 ·intro a w hS hD hW;exact ⟨_,0,Nat.zero_le _,by simp,hS.sub su,hD,hW,rfl⟩
 rintro mz a w ⟨k,hk,hn,hS,hD,hW,rfl⟩
 refine AP hS hD hW ?_;clear hS hD hW a w;refine rqr (sp 1 [(9,.bool (cmp .lss ↑k (↑(xs.length))))] (se (rq (rc 9 rfl (fun h1=>?_) (fun h1=>?_)))))
 ·
  have a2:=h1;have h1:=BW h1;refine AM (NX (rq (rb 1 (rqr (sp 2 [(5,vI ↑k)] (sn (sp 3 [(13,vI ↑k),(12,vS a0 xs.length a1),(11,vI n)] (sd (di 14 1 k a4.addr) (sd (dl 15 (BL a4 k (by omega))) (sp 1 [(16,.bool (cmp .eql n (xs.getD k 0)))] (se (rc 16 rfl (fun h2=>?_) (fun h2=>?_)))))))))))))
  ·
   have a3:=h2;have h2:=BI h2;refine rqr (sp 2 [(4,vI ↑k)] (se (BF (RB (RP (RP (RB (RP (rt1 4 rfl (IR _) ?_)))))))));exact ⟨by rw [seat_hit hn (by omega) h2.symm],rfl⟩
  have a3:=h2;have h2:=BG h2;refine AM (NB (NX (rr (sd (da 18 ↑k 1) (sp 1 [(8,vI (↑k+1))] (ee ?_))))));refine AN (xs.length-(k+1)) (by omega) ?_;intro a w hS hD hW;exact ⟨k+1,by omega,not_take_succ hn (by omega) (fun e=>h2 e.symm),hS.sub su,hD,hW,rfl⟩
 have a2:=h1;have h1:=CB h1;refine BX 0 (EP (EP (EB (NX (rqr (sp 1 [(4,vI (-1))] (se (BF (rt1 4 rfl (IR _) ?_)))))))));exact ⟨by rw [seat_miss hn (by omega)],rfl⟩
noncomputable def c_Contains:=cod Tryz.f58
theorem Contains_ct (I:Imm) (a:Value) (xs:List Int) (n:Int) (a_f:CP I a xs):CtV Tryz.prog 58 #[a,vI n] I (.bool (decide (n∈xs))):=by
 obtain ⟨a0,a1,a3,a6,rfl,a4,a5,a7⟩:=id a_f;refine fr (args:=[_,_]) (N:=9) Tryz.func58 (fun F=>?_);show Run _ _ (c_Contains []) _ _ [(0,_),(1,_)] _ _;refine rnm (rqr ?_);refine sp 1 [(4,.bool false)] (sn (sp 2 [(6,vI n),(5,vS a0 xs.length a1)] (sd (dc 7 (fun I' hI=>(Index_ct I' _ _ n (a_f.mono hI) :))) (sp 2 [(4,.bool (cmp .geq (seat xs n) 0))] (se (BF (rt1 4 rfl (IR _) ?_)))))));exact ⟨by rw [seat_neg],rfl⟩
noncomputable def c_CloneInts_ct:=cod Tryz.f57
theorem CloneInts_ct (I:Imm) (a:Value) (xs:List Int) (a_f:CP I a xs) (hl:xs.length≤1000000):Ct Tryz.prog 57 #[a] I ([]) (fun v I' M'=>∃ u:Value,∃ Ms:Seg,v=u∧M'=Ms∧Own 3 1 AO u xs Ms):=by
 obtain ⟨a0,a1,b2,b5,rfl,b3,b4,a6⟩:=id a_f;refine fr (args:=[_]) (N:=8) Tryz.func57 (fun F=>?_);show Run _ _ (c_CloneInts_ct []) _ _ [(0,_)] _ _;refine rnm (rqr ?_);refine sp 1 [(2,vN)] (se (rq (rqr (sp 1 [(3,vS a0 xs.length a1)] (sd (det_eqnil (e:=3) (x:=(.tmp 3)) (y:=(.const vN)) (T:=33) (T':=33) (d:=4) (ty:=4) (gd:=none) (by kernel_rfl) rfl (by kernel_rfl) rfl rfl) (se (rc 4 rfl (fun h1=>?_) (fun h1=>?_))))))))
 ·
  have a2:=h1;refine rqr (sp 1 [(2,vN)] (se (BF (RP ?_))));obtain rfl:=a6.nil h1;refine HP (t:=2) ([]) (by kernel_rfl) rfl (TR _) (IR _) ?_;exact ⟨_,_,rfl,rfl,Own.nil _ _ _⟩
 have a2:=h1;refine AM (NX (rqr (sS (sbs 5 3 0 #[] (fun b1=>(sp 1 [(6,vS a0 xs.length a1)] ?_))))));have a7:Own 3 1 AO (vS (some ⟨b1,0,none⟩) 0 0) ([]:List Int) [(bX b1 #[] 3)]:=Own.lit rfl rfl;refine sS (sap (d:=7) 5 6 33 3 1 8 (vI 0) AO ([]:List Int) xs [(bX b1 #[] 3)] rfl rfl a7 (PR _) (FE _) a_f.src (fun v4 a4 a3=>?_));rw [NA] at a3;refine nm ?_;obtain ⟨a8,a9,rfl,b6⟩:=a3.shape;refine sp 1 [(2,vS a8 xs.length a9)] (se (BF (DY 2 a4 rfl (TA (TR _) _) (IR _) ?_)));exact ⟨_,_,rfl,rfl,a3⟩
noncomputable def c_next:=cod Tryz.f107
theorem next_ct (I:Imm) (p:Nat) (p_s:Int):Ct Tryz.prog 107 #[vP p 0] I ([(bX p #[.int .u64 p_s] 132)]) (fun v I' M'=>∃ p_t:Int,∃ r:Int,v=.int .u64 r∧M'=[(bX p #[.int .u64 p_t] 132)]∧(0≤r∧r≤18446744073709551615)):=by
 refine fr (args:=[_]) (N:=29) Tryz.func107 (fun F=>?_);show Run _ _ (c_next []) _ _ [(0,_)] _ _;refine rnm (rqr ?_);refine sp 1 [(2,.int .u64 0)] (sn (sp 4 [(7,vP p 0),(4,vP p 0)] (sd (dlb 8 0 0 p (.int .u64 p_s)) (sp 4 [(12,vP p 0),(10,.int .u64 (IntKind.u64.wrap (CG .add (IntKind.u64.wrap (CG .mul p_s 2862933555777941757)) 3037000493)))] (sS (ss 0 0 p [.int .u64 (IntKind.u64.wrap (CG .add (IntKind.u64.wrap (CG .mul p_s 2862933555777941757)) 3037000493))] [.int .u64 (IntKind.u64.wrap (CG .add (IntKind.u64.wrap (CG .mul p_s 2862933555777941757)) 3037000493))] (_::_) (cs:=[_]) rfl rfl (se (rq ?_))))))));refine rd0 9 (ox 3 [(15,vP p 0)] ?_);refine AC (dlb 16 0 0 p (.int .u64 (IntKind.u64.wrap (CG .add (IntKind.u64.wrap (CG .mul p_s 2862933555777941757)) 3037000493)))) (ox 3 [(19,vP p 0)] ?_);refine AC (dlb 20 0 0 p (.int .u64 (IntKind.u64.wrap (CG .add (IntKind.u64.wrap (CG .mul p_s 2862933555777941757)) 3037000493)))) ?_;refine AC (det_shr (x:=(.tmp 20)) (y:=(.const (.int .u64 31))) (T:=130) (T':=133) (d:=21) (ty:=130) (gd:=none) (by kernel_rfl) rfl rfl rfl (by omega)) ?_;refine BJ (sp 2 [(3,.int .u64 (IntKind.u64.wrap (BitVec.ofInt IntKind.u64.bits (IntKind.u64.wrap (CG .add (IntKind.u64.wrap (CG .mul p_s 2862933555777941757)) 3037000493)) ^^^ BitVec.ofInt IntKind.u64.bits ((IntKind.u64.wrap (CG .add (IntKind.u64.wrap (CG .mul p_s 2862933555777941757)) 3037000493)).fdiv (2 ^ (min (31:Int).toNat IntKind.u64.bits)))).toNat))] (sn (sp 3 [(3,.int .u64 (IntKind.u64.wrap (CG .mul (IntKind.u64.wrap (BitVec.ofInt IntKind.u64.bits (IntKind.u64.wrap (CG .add (IntKind.u64.wrap (CG .mul p_s 2862933555777941757)) 3037000493)) ^^^ BitVec.ofInt IntKind.u64.bits ((IntKind.u64.wrap (CG .add (IntKind.u64.wrap (CG .mul p_s 2862933555777941757)) 3037000493)).fdiv (2 ^ (min (31:Int).toNat IntKind.u64.bits)))).toNat) 10723151780598845931)))] (sn (sp 2 [(26,.int .u64 (IntKind.u64.wrap (CG .mul (IntKind.u64.wrap (BitVec.ofInt IntKind.u64.bits (IntKind.u64.wrap (CG .add (IntKind.u64.wrap (CG .mul p_s 2862933555777941757)) 3037000493)) ^^^ BitVec.ofInt IntKind.u64.bits ((IntKind.u64.wrap (CG .add (IntKind.u64.wrap (CG .mul p_s 2862933555777941757)) 3037000493)).fdiv (2 ^ (min (31:Int).toNat IntKind.u64.bits)))).toNat) 10723151780598845931))),(25,.int .u64 (IntKind.u64.wrap (CG .mul (IntKind.u64.wrap (BitVec.ofInt IntKind.u64.bits (IntKind.u64.wrap (CG .add (IntKind.u64.wrap (CG .mul p_s 2862933555777941757)) 3037000493)) ^^^ BitVec.ofInt IntKind.u64.bits ((IntKind.u64.wrap (CG .add (IntKind.u64.wrap (CG .mul p_s 2862933555777941757)) 3037000493)).fdiv (2 ^ (min (31:Int).toNat IntKind.u64.bits)))).toNat) 10723151780598845931)))] (sd (det_shr (x:=(.tmp 26)) (y:=(.const (.int .u64 30))) (T:=130) (T':=133) (d:=27) (ty:=130) (gd:=none) (by kernel_rfl) rfl rfl rfl (by omega)) (sp 2 [(2,.int .u64 (IntKind.u64.wrap (BitVec.ofInt IntKind.u64.bits (IntKind.u64.wrap (CG .mul (IntKind.u64.wrap (BitVec.ofInt IntKind.u64.bits (IntKind.u64.wrap (CG .add (IntKind.u64.wrap (CG .mul p_s 2862933555777941757)) 3037000493)) ^^^ BitVec.ofInt IntKind.u64.bits ((IntKind.u64.wrap (CG .add (IntKind.u64.wrap (CG .mul p_s 2862933555777941757)) 3037000493)).fdiv (2 ^ (min (31:Int).toNat IntKind.u64.bits)))).toNat) 10723151780598845931)) ^^^ BitVec.ofInt IntKind.u64.bits ((IntKind.u64.wrap (CG .mul (IntKind.u64.wrap (BitVec.ofInt IntKind.u64.bits (IntKind.u64.wrap (CG .add (IntKind.u64.wrap (CG .mul p_s 2862933555777941757)) 3037000493)) ^^^ BitVec.ofInt IntKind.u64.bits ((IntKind.u64.wrap (CG .add (IntKind.u64.wrap (CG .mul p_s 2862933555777941757)) 3037000493)).fdiv (2 ^ (min (31:Int).toNat IntKind.u64.bits)))).toNat) 10723151780598845931)).fdiv (2 ^ (min (30:Int).toNat IntKind.u64.bits)))).toNat))] (se (BF (DY 2 ([(bX p #[.int .u64 (IntKind.u64.wrap (CG .add (IntKind.u64.wrap (CG .mul p_s 2862933555777941757)) 3037000493))] 132)]) rfl (TK _ (TR _)) (IR _) ?_))))))))));exact ⟨_,_,rfl,rfl,u64_range _⟩
noncomputable def c_Up:=cod Tryz.f70
theorem SM (I:Imm) (p:Nat) (p_s:Int) (most:Int) (hm:most≤1000000):Ct Tryz.prog 70 #[vP p 0,vI most] I ([(bX p #[.int .u64 p_s] 132)]) (fun v I' M'=>∃ p_t:Int,∃ n:Nat,v=vI ↑n∧M'=[(bX p #[.int .u64 p_t] 132)]∧(n=0∨(n:Int)≤most)):=by
 refine fr (args:=[_,_]) (N:=15) Tryz.func70 (fun F=>?_);show Run _ _ (c_Up []) _ _ [(0,_),(1,_)] _ _;refine rnm (rqr ?_);refine sp 1 [(4,vI 0)] (se (rq (rqr (sp 2 [(6,.bool (cmp .lss most 1))] (se (rc 6 rfl (fun h1=>?_) (fun h1=>?_)))))))
 ·
  have a0:=h1;have h1:=BW h1;refine rqr (sp 1 [(4,vI 0)] (se (BF (RP (DY 4 ([(bX p #[.int .u64 p_s] 132)]) rfl (TK _ (TR _)) (IR _) ?_)))));exact ⟨_,0,rfl,rfl,.inl rfl⟩
 have a0:=h1;have h1:=CB h1;refine AM (NX (rqr (sp 1 [(7,vP p 0)] (sS (sc (some 8) (F:=(F)) (next_ct _ p p_s :) (.refl _) (fun a9 I1 a7 a1 a6=>?_))))));obtain ⟨a2,r7,a4,a3,a8⟩:=a6;rw [a4,a3];clear a4 a3;refine nm ?_;refine sd (det_shr (x:=(.tmp 8)) (y:=(.const (.int .u64 13))) (T:=130) (T':=133) (d:=9) (ty:=130) (gd:=none) (by kernel_rfl) rfl rfl rfl (by omega)) (sp 1 [(10,vI most)] (sd (da 11 most 1) (sp 1 [(12,.int .u64 (IntKind.u64.wrap (most+1)))] (CE 12 rfl (show (.int .u64 (IntKind.u64.wrap (most+1)):Value)=.int .u64 (most+1) from congrArg (Value.int .u64) (IntWalk.u64_in _ (by omega))) (sd (det_rem (x:=(.tmp 9)) (y:=(.tmp 12)) (T:=130) (T':=130) (d:=13) (ty:=130) (gd:=none) (by kernel_rfl) rfl rfl rfl (by exact fdiv_nonneg (by omega) (by decide)) (by omega)) (sp 1 [(14,vI (IntKind.i64.wrap (((r7).fdiv (2 ^ (min (13:Int).toNat IntKind.u64.bits)))%(most+1))))] ?_))))));obtain ⟨n,hn,a5⟩:=up_nat (x:=(r7).fdiv (2 ^ (min (13:Int).toNat IntKind.u64.bits))) h1 hm (fdiv_nonneg (by omega) (by decide));refine CE 14 rfl (show (vI (IntKind.i64.wrap (((r7).fdiv (2 ^ (min (13:Int).toNat IntKind.u64.bits)))%(most+1))):Value)=vI ↑n from congrArg (Value.int .i64) hn) (sp 1 [(4,vI ↑n)] (se (BF (DY 4 ([(bX p #[.int .u64 a2] 132)]) rfl (TK _ (TR _)) a1 ?_))));exact ⟨_,_,rfl,rfl,.inr a5⟩
noncomputable def c_From:=cod Tryz.f69
theorem QV (I:Imm) (p:Nat) (p_s:Int) (lo:Int) (hi:Int) (h1:0≤lo∧lo≤hi) (h2:hi≤1000000):Ct Tryz.prog 69 #[vP p 0,vI lo,vI hi] I ([(bX p #[.int .u64 p_s] 132)]) (fun v I' M'=>∃ p_t:Int,∃ r:Int,v=vI r∧M'=[(bX p #[.int .u64 p_t] 132)]∧(lo≤r∧r≤hi)):=by
 refine fr (args:=[_,_,_]) (N:=14) Tryz.func69 (fun F=>?_);show Run _ _ (c_From []) _ _ [(0,_),(1,_),(2,_)] _ _;refine rnm (rqr ?_);refine sp 1 [(6,vI 0)] (sn (sp 4 [(10,vI lo),(9,vI hi),(8,vP p 0),(7,vI lo)] (sd (dsb 11 hi lo) (sS (sc (some 12) (F:=(F)) (SM _ p p_s (hi-lo) (by omega) :) (.refl _) (fun a7 I1 a5 a0 a4=>?_))))));obtain ⟨a1,n7,a3,a2,a6⟩:=a4;rw [a3,a2];clear a3 a2;refine nm ?_;refine sd (da 13 lo ↑n7) (sp 1 [(6,vI (lo+↑n7))] (se (BF (DY 6 ([(bX p #[.int .u64 a1] 132)]) rfl (TK _ (TR _)) a0 ?_))));exact ⟨_,_,rfl,rfl,by omega⟩
noncomputable def c_Chance:=cod Tryz.f72
theorem OW (I:Imm) (p:Nat) (p_s:Int) (n:Int) (m:Int) (h1:0≤m∧m≤1000000):Ct Tryz.prog 72 #[vP p 0,vI n,vI m] I ([(bX p #[.int .u64 p_s] 132)]) (fun v I' M'=>∃ p_t:Int,∃ r:Bool,v=.bool r∧M'=[(bX p #[.int .u64 p_t] 132)]):=by
 refine fr (args:=[_,_,_]) (N:=13) Tryz.func72 (fun F=>?_);show Run _ _ (c_Chance []) _ _ [(0,_),(1,_),(2,_)] _ _;refine rnm (rqr ?_);refine sp 1 [(6,.bool false)] (sn (sp 2 [(8,vI m),(7,vP p 0)] (sd (dsb 9 m 1) (sS (sc (some 10) (F:=(F)) (SM _ p p_s (m-1) (by omega) :) (.refl _) (fun a7 I1 a5 a0 a4=>?_))))));obtain ⟨a1,n7,a3,a2,a6⟩:=a4;rw [a3,a2];clear a3 a2;refine nm ?_;refine sp 3 [(6,.bool (cmp .lss ↑n7 n))] (se (BF (DY 6 ([(bX p #[.int .u64 a1] 132)]) rfl (TK _ (TR _)) a0 ?_)));exact ⟨_,_,rfl,rfl⟩
noncomputable def c_One:=cod Tryz.f73
theorem One_ct (I:Imm) (p:Nat) (p_s:Int) (a:Value) (xs:List Int) (a_f:CP I a xs) (hx:0<xs.length∧xs.length≤1000000):Ct Tryz.prog 73 #[vP p 0,a] I ([(bX p #[.int .u64 p_s] 132)]) (fun v I' M'=>∃ p_t:Int,∃ r:Int,v=vI r∧M'=[(bX p #[.int .u64 p_t] 132)]∧(r∈xs)):=by
 obtain ⟨a4,a5,b1,b4,rfl,b2,b3,a1⟩:=id a_f;refine fr (args:=[_,_]) (N:=16) Tryz.func73 (fun F=>?_);show Run _ _ (c_One []) _ _ [(0,_),(1,_)] _ _;refine rnm (rqr ?_);refine sp 1 [(4,vI 0)] (se (rq (rqr (sp 3 [(7,.bool (cmp .eql (↑(xs.length)) 0))] (se (rc 7 rfl (fun h1=>?_) (fun h1=>?_)))))))
 ·
  have a2:=h1;have h1:=BI h1;refine rqr (sp 1 [(4,vI 0)] (se (BF (RP (DY 4 [] rfl (TC _ (TR _)) (IR _) ?_)))))
  exfalso;omega
 have a2:=h1;have h1:=BG h1;refine AM (NX (rqr (sp 4 [(11,vI (↑(xs.length))),(9,vP p 0),(8,vS a4 xs.length a5)] (sd (dsb 12 (↑(xs.length)) 1) (sS (sc (some 13) (F:=(F)) (SM _ p p_s ((↑(xs.length))-1) (by omega) :) (.refl _) (fun b6 I1 b0 a0 a9=>?_)))))));obtain ⟨a3,n7,a7,a6,b5⟩:=a9;rw [a7,a6];clear a7 a6;replace a1:=a1.mono a0;refine nm ?_;refine sd (di 14 1 n7 a1.addr) (sd (dl 15 (BL a1 n7 (by omega))) (sp 1 [(4,vI (xs.getD n7 0))] (se (BF (DY 4 ([(bX p #[.int .u64 a3] 132)]) rfl (TK _ (TR _)) a0 ?_)))));exact ⟨_,_,rfl,rfl,BM (by omega)⟩
noncomputable def c_NewBag:=cod Tryz.f30
theorem NewBag_ct (I:Imm) (a:Value) (xs:List Int) (a_f:CP I a xs):Ct Tryz.prog 30 #[a] I ([]) (fun v I' M'=>∃ u:Nat,∃ us:Int,v=vP u 0∧M'=[(bX u #[.int .u64 us] 132)]):=by
 obtain ⟨a0,a1,a5,a8,rfl,a6,a7,a3⟩:=id a_f;refine fr (args:=[_]) (N:=41) Tryz.func30 (fun F=>?_);show Run _ _ (c_NewBag []) _ _ [(0,_)] _ _;refine rnm (rqr ?_);refine sp 1 [(2,.pointer none)] (sn (sp 1 [(5,.agg #[.int .u64 11400714819323198485])] (sS (sb 6 132 #[.int .u64 11400714819323198485] (fun b1=>(sp 1 [(3,vP b1 0)] (se (rq (rqr (sp 1 [(4,vI 0)] (se (rb 0 ?_))))))))))));refine rl (fun mz a w=>∃ k:Nat,∃ s:Int,(k≤xs.length)∧SD 41 [(4,vI ↑k),(0,vS a0 xs.length a1),(2,.pointer none),(3,vP b1 0)] I ((bX b1 #[.int .u64 s] 132)::F) a w (mz=xs.length-k)) ?_ ?_
 ·intro a w hS hD hW;exact ⟨_,0,11400714819323198485,Nat.zero_le _,hS.sub su,hD,hW,rfl⟩
 rintro mz a w ⟨k,s,hk,hS,hD,hW,rfl⟩
 refine AP hS hD hW ?_;clear hS hD hW a w;refine rq (rqr (sp 4 [(10,.bool (cmp .lss ↑k (↑(xs.length))))] (se (rc 10 rfl (fun h1=>?_) (fun h1=>?_)))))
 ·
  have a2:=h1;have h1:=BW h1;refine AM (NX (rq (rb 1 (rq ?_))));refine rd0 12 (ox 4 [(16,vP b1 0),(13,vP b1 0)] ?_);refine AC (dlb 17 0 0 b1 (.int .u64 s)) (ox 2 [(19,vI ↑k),(18,vS a0 xs.length a1)] ?_);refine AC (di 20 1 k a3.addr) ?_;refine AC (dl 21 (BL a3 k (by omega))) (ox 3 [(24,.int .u64 (IntKind.u64.wrap (CG .mul (IntKind.u64.wrap (CG .add s (IntKind.u64.wrap (xs.getD k 0)))) 13787848793156543929)))] ?_);refine BJ (sp 2 [(26,vP b1 0)] (sS (ss 0 0 b1 [.int .u64 (IntKind.u64.wrap (CG .mul (IntKind.u64.wrap (CG .add s (IntKind.u64.wrap (xs.getD k 0)))) 13787848793156543929))] [.int .u64 (IntKind.u64.wrap (CG .mul (IntKind.u64.wrap (CG .add s (IntKind.u64.wrap (xs.getD k 0)))) 13787848793156543929))] (_::_) (cs:=[_]) rfl rfl (se ?_))));refine rd0 11 (ox 4 [(30,vP b1 0),(27,vP b1 0)] ?_);refine AC (dlb 31 0 0 b1 (.int .u64 (IntKind.u64.wrap (CG .mul (IntKind.u64.wrap (CG .add s (IntKind.u64.wrap (xs.getD k 0)))) 13787848793156543929)))) (ox 3 [(34,vP b1 0)] ?_);refine AC (dlb 35 0 0 b1 (.int .u64 (IntKind.u64.wrap (CG .mul (IntKind.u64.wrap (CG .add s (IntKind.u64.wrap (xs.getD k 0)))) 13787848793156543929)))) ?_;refine AC (det_shr (x:=(.tmp 35)) (y:=(.const (.int .u64 29))) (T:=130) (T':=133) (d:=36) (ty:=130) (gd:=none) (by kernel_rfl) rfl rfl rfl (by omega)) (ox 1 [(37,.int .u64 (IntKind.u64.wrap (BitVec.ofInt IntKind.u64.bits (IntKind.u64.wrap (CG .mul (IntKind.u64.wrap (CG .add s (IntKind.u64.wrap (xs.getD k 0)))) 13787848793156543929)) ^^^ BitVec.ofInt IntKind.u64.bits ((IntKind.u64.wrap (CG .mul (IntKind.u64.wrap (CG .add s (IntKind.u64.wrap (xs.getD k 0)))) 13787848793156543929)).fdiv (2 ^ (min (29:Int).toNat IntKind.u64.bits)))).toNat))] ?_);refine BJ (sp 2 [(39,vP b1 0)] (sS (ss 0 0 b1 [.int .u64 (IntKind.u64.wrap (BitVec.ofInt IntKind.u64.bits (IntKind.u64.wrap (CG .mul (IntKind.u64.wrap (CG .add s (IntKind.u64.wrap (xs.getD k 0)))) 13787848793156543929)) ^^^ BitVec.ofInt IntKind.u64.bits ((IntKind.u64.wrap (CG .mul (IntKind.u64.wrap (CG .add s (IntKind.u64.wrap (xs.getD k 0)))) 13787848793156543929)).fdiv (2 ^ (min (29:Int).toNat IntKind.u64.bits)))).toNat)] [.int .u64 (IntKind.u64.wrap (BitVec.ofInt IntKind.u64.bits (IntKind.u64.wrap (CG .mul (IntKind.u64.wrap (CG .add s (IntKind.u64.wrap (xs.getD k 0)))) 13787848793156543929)) ^^^ BitVec.ofInt IntKind.u64.bits ((IntKind.u64.wrap (CG .mul (IntKind.u64.wrap (CG .add s (IntKind.u64.wrap (xs.getD k 0)))) 13787848793156543929)).fdiv (2 ^ (min (29:Int).toNat IntKind.u64.bits)))).toNat)] (_::_) (cs:=[_]) rfl rfl (ee (NB (NX (rr (sp 1 [(11,vI ↑k)] (sd (da 12 ↑k 1) (sp 1 [(4,vI (↑k+1))] (ee ?_)))))))))));refine AN (xs.length-(k+1)) (by omega) ?_;intro a w hS hD hW;exact ⟨k+1,IntKind.u64.wrap (BitVec.ofInt IntKind.u64.bits (IntKind.u64.wrap (CG .mul (IntKind.u64.wrap (CG .add s (IntKind.u64.wrap (xs.getD k 0)))) 13787848793156543929)) ^^^ BitVec.ofInt IntKind.u64.bits ((IntKind.u64.wrap (CG .mul (IntKind.u64.wrap (CG .add s (IntKind.u64.wrap (xs.getD k 0)))) 13787848793156543929)).fdiv (2 ^ (min (29:Int).toNat IntKind.u64.bits)))).toNat,by omega,hS.sub su,hD,hW,rfl⟩
 have a2:=h1;have h1:=CB h1;refine BX 0 (EP (EP (EB (NX (rqr (sp 2 [(2,vP b1 0)] (se (BF (DY 2 ([(bX b1 #[.int .u64 s] 132)]) rfl (TK _ (TR _)) (IR _) ?_)))))))));exact ⟨_,_,rfl,rfl⟩
noncomputable def c_Grow:=cod Tryz.f130
theorem Grow_ct (I:Imm) (n:Nat) (hn:n≤1000000):Ct Tryz.prog 130 #[vN,vI ↑n] I [] (fun v I' M'=>∃ Ms,M'=Ms∧Own 3 1 AO v ([]:List Int) Ms):=by
 refine fr (args:=[_,_]) (N:=27) Tryz.func130 (fun F=>?_);show Run _ _ (c_Grow []) _ _ [(0,_),(1,_)] _ _;refine rnm (rqr ?_);refine sp 1 [(4,vN)] (se (rq (rqr (sp 2 [(6,.bool (cmp .lss ↑n 0))] (se (rc 6 rfl (fun h1=>?_) (fun h1=>?_)))))))
 ·
  have a0:=h1;have h1:=BW h1
  exfalso;omega
 have a0:=h1;have h1:=CB h1;refine AM (NX (rq (rqr (sp 5 [(12,vI 0),(10,vI 0),(8,vI ↑n)] (sd (dsb 13 0 0) (sd (dsb 14 ↑n (0-0)) (CE 14 rfl (show (vI (↑n-(0-0)):Value)=vI ↑n from congrArg (Value.int .i64) (by omega)) (sp 1 [(1,vI ↑n)] (sn (sp 2 [(16,.bool (cmp .gtr ↑n 0))] (se (rc 16 rfl (fun h2=>?_) (fun h2=>?_)))))))))))))
 ·
  have a1:=h2;have h2:=JG h2;refine rr (sp 3 [(19,vI 0),(17,vN)] (sd (DC (EN (x:=.tmp 17) (lo:=none) (hi:=some (.tmp 19)) (T:=33) (e:=3) (sz:=1) 0 0 (d:=20) (ty:=33) (gd:=none) (by kernel_rfl) rfl (by kernel_rfl) (by kernel_rfl) rfl (.inl ⟨rfl,rfl⟩) (.inr ⟨_,.i64,rfl,rfl⟩) (Nat.le_refl _) (Nat.le_refl _)) (show _=Value.slice none 0 0 from rfl)) (sp 1 [(21,vI ↑n)] (sS (stp_appendN (x:=.tmp 20) (y:=.tmp 21) (T:=33) (T':=3) (E:=3) (bs:=8) (n:=n) (z:=vI 0) (d:=22) (ty:=33) (gd:=none) (by kernel_rfl) rfl (by kernel_rfl) (by kernel_rfl) (by kernel_rfl) rfl (by kernel_rfl) (by decide) (by kernel_rfl) rfl rfl ⟨by omega,hn⟩ (fun gb nc zs a4 a3=>?_))))));show Seq _ _ _ _ _ _ ((22,vS (some ⟨gb,0,none⟩) n nc)::_) _ _;refine sp 2 [(24,vI 0)] (sd (DC (EN (x:=.tmp 22) (lo:=none) (hi:=some (.tmp 24)) (T:=33) (e:=3) (sz:=1) 0 0 (d:=25) (ty:=33) (gd:=none) (by kernel_rfl) rfl (by kernel_rfl) (by kernel_rfl) rfl (.inl ⟨rfl,rfl⟩) (.inr ⟨_,.i64,rfl,rfl⟩) (Nat.le_refl _) (Nat.zero_le _)) (show _=Value.slice (some ⟨gb,0,none⟩) 0 nc by simp [GJ])) ?_);have a2:Own 3 1 AO (vS (some ⟨gb,0,none⟩) 0 nc) ([]:List Int) [(gb,Obj.cells (List.toArray zs) 3 (0,0))]:=Own.empty a3;refine AW (M':=([(gb,Obj.cells (List.toArray zs) 3 (0,0))]++F)) (fun w h=>h) (sp 1 [(0,vS (some ⟨gb,0,none⟩) 0 nc)] (sn (sp 2 [(4,vS (some ⟨gb,0,none⟩) 0 nc)] (se (BF (DY 4 ([(gb,Obj.cells (List.toArray zs) 3 (0,0))]) rfl (TK _ (TR _)) (IR _) ?_))))));exact ⟨_,rfl,a2⟩
 have a1:=h2;have h2:=KC h2;refine AM (NX (rqr (sp 2 [(4,vN)] (se (BF (DY 4 ([]) rfl (TR _) (IR _) ?_))))));exact ⟨[],rfl,Own.nil _ _ _⟩
noncomputable def c_Concat:=cod Tryz.f86
theorem Concat_ct (I:Imm) (s:Value) (xss:List (List Int)) (s_f:IsRows I s xss) (hl:xss.flatten.length≤1000000):Ct Tryz.prog 86 #[s] I ([]) (fun v I' M'=>∃ u:Value,∃ Ms:Seg,v=u∧M'=Ms∧Own 3 1 AO u xss.flatten Ms):=by
 obtain ⟨b1,b2,f3,f6,e9,rfl,f4,f5,a6,b3⟩:=id s_f;refine fr (args:=[_]) (N:=36) Tryz.func86 (fun F=>?_);show Run _ _ (c_Concat []) _ _ [(0,_)] _ _;refine rnm (rqr ?_);refine sp 1 [(2,vN)] (sn (sp 1 [(3,vI 0)] (se (rq (rqr (sp 3 [(11,vI 0),(10,vI (↑(xss.length))),(9,vS b1 xss.length b2)] (se (rb 0 ?_))))))));refine rl (fun mz a w=>∃ k:Nat,(k≤xss.length)∧SD 36 [(3,vI (↑(xss.take k).flatten.length)),(11,vI ↑k),(0,vS b1 xss.length b2),(2,vN),(9,vS b1 xss.length b2),(10,vI (↑(xss.length)))] I F a w (mz=xss.length-k)) ?_ ?_
 ·intro a w hS hD hW;exact ⟨_,0,Nat.zero_le _,hS.sub su,hD,hW,rfl⟩
 rintro mz a w ⟨k,hk,hS,hD,hW,rfl⟩
 refine AP hS hD hW ?_;refine rqr (sp 1 [(12,.bool (cmp .lss ↑k (↑(xss.length))))] (se (rq (rc 12 rfl (fun h1=>?_) (fun h1=>?_)))))
 ·
  have c1:=h1;have h1:=BW h1;refine AM (NX (rq (rb 1 (rqr (sd (di 13 1 k a6.addr) ?_)))));have b6:=b3 k (by omega);obtain ⟨c5,c6,d7,e0,b5,d8,d9,e1⟩:=id b6;rw [b5] at b6;refine sd (DC (dl 14 (GX a6 k (by omega))) b5) (sp 1 [(5,vS c5 (xss.getD k []).length c6)] (sn (sp 3 [(17,vI (↑((xss.getD k []).length))),(15,vI (↑(xss.take k).flatten.length))] (sd (da 18 (↑(xss.take k).flatten.length) (↑((xss.getD k []).length)) (hr:=by have hq:=flat_le xss k (by omega);omega)) (sp 1 [(3,vI ((↑(xss.take k).flatten.length)+(↑((xss.getD k []).length))))] (sn (sp 2 [(20,.bool (cmp .lss ((↑(xss.take k).flatten.length)+(↑((xss.getD k []).length))) 0))] (se (rc 20 rfl (fun h2=>?_) (fun h2=>?_))))))))))
  ·
   have c2:=h2;have h2:=BW h2
   exfalso;omega
  have c2:=h2;have h2:=CB h2;refine AM (NB (NX (rr (sd (da 22 ↑k 1) (sp 1 [(11,vI (↑k+1))] (ee ?_))))));refine AN (xss.length-(k+1)) (by omega) ?_;intro a w hS hD hW;exact ⟨k+1,by omega,hS.sub (.consE 3 rfl (congrArg (Value.int .i64) (flat_succ (by omega)).symm) su),hD,hW,rfl⟩
 have c1:=h1;have h1:=CB h1;refine BX 0 (EP (EP (EB (NX (rqr (sp 1 [(23,vI (↑(xss.take k).flatten.length))] ?_))))));have d4:(xss.take k).flatten=xss.flatten:=by rw [NJ (by omega)]
 rw [d4];have c4:=Grow_ct I xss.flatten.length hl;refine sS (KS (d:=(some 24)) (f:=(.func 130)) (fid:=130) (args:=#[(.const vN),(.tmp 23)]) (tys:=#[33,3]) (cv:=[]) (F:=(F)) (ty:=33) (gd:=none) (by kernel_rfl) rfl rfl rfl (by kernel_rfl) rfl c4 (PR _) (fun f2 I2 f1 a7 d5=>?_));obtain ⟨d3,c8,b4⟩:=d5;replace a6:=a6.mono a7;replace b3:=fun i hi=>(b3 i hi).mono a7
 rw [c8];clear c8;obtain ⟨a9,b0,rfl,e7⟩:=b4.shape;refine nm ?_;show Seq _ _ _ _ _ _ ((24,vS a9 ([]:List Int).length b0)::_) _ _;refine sp 1 [(6,vS a9 ([]:List Int).length b0)] (se (rq (rqr (sp 3 [(27,vI 0),(26,vI (↑(xss.length))),(25,vS b1 xss.length b2)] (se (rb 2 ?_))))));refine rl (fun mz a w=>∃ J1:Imm,∃ j:Nat,∃ a4:Value,∃ a0:Seg,(I2.le J1)∧(j≤xss.length)∧(Own 3 1 AO a4 ((xss.take j).flatten) a0)∧SD 36 [(6,a4),(27,vI ↑j),(2,vN),(25,vS b1 xss.length b2),(26,vI (↑(xss.length)))] J1 (a0++F) a w (mz=xss.length-j)) ?_ ?_
 ·intro a w hS hD hW;exact ⟨_,I2,0,vS a9 ([]:List Int).length b0,d3,IR _,Nat.zero_le _,b4,hS.sub su,hD,hW,rfl⟩
 rintro mz a w ⟨J1,j,a4,a0,hJ1,hj,a3,hS,hD,hW,rfl⟩
 refine AP hS hD hW ?_;replace a6:=a6.mono hJ1;replace b3:=fun i hi=>(b3 i hi).mono hJ1
 obtain ⟨a1,a2,rfl,c0⟩:=a3.shape;refine rqr (sp 1 [(28,.bool (cmp .lss ↑j (↑(xss.length))))] (se (rq (rc 28 rfl (fun h3=>?_) (fun h3=>?_)))))
 ·
  have c3:=h3;have h3:=BW h3;refine AM (NX (rq (rb 3 (rqr (sd (di 29 1 j a6.addr) ?_)))));have a8:=b3 j (by omega);obtain ⟨b7,b8,e2,e5,b9,e3,e4,e6⟩:=id a8;rw [b9] at a8;refine sd (DC (dl 30 (GX a6 j (by omega))) b9) (sp 1 [(8,vS b7 (xss.getD j []).length b8)] (se (rr (sp 2 [(32,vS b7 (xss.getD j []).length b8),(31,vS a1 ((xss.take j).flatten).length a2)] (sS (HE (d:=33) (x:=(.tmp 31)) (y:=(.tmp 32)) (T:=33) (T':=33) (E:=3) (E':=3) (sz:=1) (bs:=8) (z:=vI 0) (cell:=AO) (xs:=(xss.take j).flatten) (ys:=xss.getD j []) (Ms:=a0) (ty:=33) (gd:=none) (by kernel_rfl) rfl (by kernel_rfl) (by kernel_rfl) (by kernel_rfl) (by kernel_rfl) (by kernel_rfl) (by decide) (by kernel_rfl) rfl rfl a3 (PR _) (FE _) a8.src (by first | omega | (have hq:=flat_le xss j (by omega);omega)) (fun v9 d2 c9=>(nm ?_))))))));obtain ⟨d0,d1,rfl,f0⟩:=c9.shape;refine sp 1 [(6,vS d0 (((xss.take j).flatten)++(xss.getD j [])).length d1)] (ee (NB (NX (rr (sd (da 34 ↑j 1) (sp 1 [(27,vI (↑j+1))] (ee ?_)))))));refine AN (xss.length-(j+1)) (by omega) ?_;intro a w hS hD hW;exact ⟨J1,j+1,vS d0 (((xss.take j).flatten)++(xss.getD j [])).length d1,d2,hJ1,by omega,((flat_take (xss:=xss) (k:=j) (by omega)).symm▸c9),hS.sub su,hD,hW,rfl⟩
 have c3:=h3;have h3:=CB h3;refine BX 2 (EP (EP (EB (NX (rqr (sp 2 [(2,vS a1 ((xss.take j).flatten).length a2)] (se (BF (DY 2 a0 rfl (TA (TR _) _) (IT a7 hJ1) ?_)))))))));exact ⟨_,_,rfl,rfl,((show (xss.take j).flatten=xss.flatten from by rw [NJ (by omega)])▸a3)⟩
end Go.Proofs.YtgcemienebmdeaaGreatDoor
namespace Go.Sh
open Go Go.Sl
def EG (h nd:List Int) (b:Int):Int:=
  if h.length=0 then 7 else if 4<h.length then 6 else if nd.length≠h.length then 2
  else if ¬ (∀ i,i<h.length→inB (h.getD i 0) 0 50=true∧inB (nd.getD i 0) 0 50=true) then 1
  else if inB b 1 10=false then 1 else 0
def DA (h nd:List Int) (b:Int) (i:Nat):Int:=if nd.getD i 0≤h.getD i 0 then (h.getD i 0-nd.getD i 0)/b else 0
def FB (h nd:List Int) (b:Int) (i:Nat):Int:=if nd.getD i 0≤h.getD i 0 then 0 else (nd.getD i 0-h.getD i 0+b-1)/b
def GF (h nd:List Int) (b:Int):List Int:=(List.range h.length).map (DA h nd b)
def GK (h nd:List Int) (b:Int):List Int:=(List.range h.length).map (FB h nd b)
def pF (n m:Nat):Nat:=(n*n-m)/n
def pT (n m:Nat):Nat:=(n*n-m)%n
def most (n m:Nat) (g l:List Int):Nat:=(min (g.getD (pF n m) 0) (l.getD (pT n m) 0)).toNat
def less (k:Nat) (b:Nat) (l:List Int):List Int:=l.set k (l.getD k 0-(b:Int))
def EA (n:Nat):Nat→List Int→List Int→List (List Cart)
  | 0,_,l=>if (∀ x∈l,x≤0) then [[]] else []
  | m+1,g,l=>((List.range (most n (m+1) g l)).flatMap fun b=>(EA n m (less (pF n (m+1)) (b+1) g) (less (pT n (m+1)) (b+1) l)).map (fun r=>⟨(pF n (m+1):Int),(pT n (m+1):Int),(b:Int)+1⟩::r))++EA n m g l
def CQ (n:Nat):Nat→Nat→Int→List Int→List Int→Option (List Cart)
  | _,0,left,_,_=>if left=0 then some [] else none
  | 0,_+1,_,_,_=>none
  | m+1,h+1,left,g,l=>
    if left<(h:Int)+1 then none
    else match (List.range (most n (m+1) g l)).findSome? (fun b=>(CQ n m h (left-(b+1:Nat)) (less (pF n (m+1)) (b+1) g) (less (pT n (m+1)) (b+1) l)).map (fun r=>(⟨(pF n (m+1):Int),(pT n (m+1):Int),(b:Int)+1⟩:Cart)::r)) with
      | some x=>some x
      | none=>CQ n m (h+1) left g l
theorem PQ {k b:Nat} {l:List Int} (hb:(b:Int)+1≤l.getD k 0):(less k (b+1) l).sum=l.sum-(b+1:Nat):=by
  have hk:k<l.length:=by
    rcases Nat.lt_or_ge k l.length with h | h
    · exact h
    · simp [List.getD,List.getElem?_eq_none h] at hb;omega
  unfold less
  induction l generalizing k with
  | nil=>simp at hk
  | cons x r ih=>
    cases k with
    | zero=>simp [List.getD];omega
    | succ k=>
      have e:(x::r).getD (k+1) 0=r.getD k 0:=by simp [List.getD]
      rw [e] at hb ⊢;have:=ih hb (by simpa using hk);simp only [List.set_cons_succ,List.sum_cons];omega
theorem GZ {k b:Nat} {l:List Int} (h:∀ x∈l,0≤x) (hb:(b:Int)≤l.getD k 0):∀ x∈less k b l,0≤x:=fun x hx=>by
  rcases List.mem_or_eq_of_mem_set hx with h1 | rfl
  · exact h x h1
  · omega
theorem most_lt {n m b:Nat} {g l:List Int} (h:b<most n m g l):(b:Int)+1≤g.getD (pF n m) 0∧(b:Int)+1≤l.getD (pT n m) 0:=by
  unfold most at h;omega
theorem LU:∀ {l:List Int},(∀ x∈l,0≤x)→0≤l.sum:=by
  intro l
  induction l with
  | nil=>intro _;simp
  | cons x r ih=>intro h;have:=ih (fun y hy=>h y (by simp [hy]));have:=h x (by simp);simp;omega
theorem MJ:∀ {l:List Int},(∀ x∈l,0≤x)→(l.sum=0↔∀ x∈l,x≤0):=by
  intro l
  induction l with
  | nil=>intro _;simp
  | cons x r ih=>
    intro h;have h1:=LU (l:=r) (fun y hy=>h y (by simp [hy]));have h2:=h x (by simp);have:=ih (fun y hy=>h y (by simp [hy]));simp only [List.sum_cons,List.mem_cons,forall_eq_or_imp]
    constructor
    · intro e;exact ⟨by omega,this.1 (by omega)⟩
    · rintro ⟨e1,e2⟩;have:=this.2 e2;omega
theorem lists_sum {n:Nat}:∀ (m:Nat) (g l:List Int),(∀ x∈l,0≤x)→∀ z∈EA n m g l,(z.map Cart.bales).sum=l.sum∧(∀ c∈z,1≤c.bales):=by
  intro m
  induction m with
  | zero=>
    intro g l h z hz;simp only [EA] at hz
    split at hz
    · rename_i h0
      simp at hz;subst hz;exact ⟨((MJ h).2 h0).symm,fun _ hc=>by simp at hc⟩
    · simp at hz
  | succ m ih=>
    intro g l h z hz;simp only [EA,List.mem_append,List.mem_flatMap,List.mem_range,List.mem_map] at hz;rcases hz with ⟨b,hb,r,hr,rfl⟩ | hz
    · obtain ⟨_,h2⟩:=most_lt hb
      obtain ⟨e1,e2⟩:=ih _ _ (GZ h (by omega)) r hr;rw [PQ h2] at e1;refine ⟨by simp only [List.map_cons,List.sum_cons,e1];omega,fun c hc=>?_⟩;rcases List.mem_cons.1 hc with rfl | hc
      · show (1:Int)≤(b:Int)+1;omega
      · exact e2 c hc
    · exact ih _ _ h z hz
theorem lists_len {n m:Nat} {g l:List Int} (h:∀ x∈l,0≤x) {z:List Cart} (hz:z∈EA n m g l):(z.length:Int)≤l.sum:=by
  obtain ⟨h1,h2⟩:=lists_sum m g l h z hz;rw [← h1];clear h1 hz
  induction z with
  | nil=>simp
  | cons c r ih=>have:=ih (fun c hc=>h2 c (by simp [hc]));have:=h2 c (by simp);simp;omega
theorem head_flat {α β:Type} (f:α→List β):∀ (l:List α),(l.flatMap f).head?=l.findSome? (fun a=>(f a).head?):=by
  intro l
  induction l with
  | nil=>rfl
  | cons a r ih=>
    simp only [List.flatMap_cons,List.head?_append,List.findSome?_cons,ih];cases (f a).head? <;> rfl
theorem findSome_congrD {α β:Type} {f g:α→Option β}:∀ {l:List α},(∀ a∈l,f a=g a)→l.findSome? f=l.findSome? g:=by
  intro l
  induction l with
  | nil=>intro _;rfl
  | cons a r ih=>intro h;simp only [List.findSome?_cons,h a (by simp),ih (fun b hb=>h b (by simp [hb]))]
theorem lists_nil {n:Nat}:∀ (m:Nat) (g l:List Int),((EA n m g l).filter fun z=>decide (z.length=0))=if (∀ x∈l,x≤0) then [[]] else []:=by
  intro m
  induction m with
  | zero=>intro g l;simp only [EA];split <;> simp
  | succ m ih=>
    intro g l;simp only [EA,List.filter_append,ih];have:(List.filter (fun z:List Cart=>decide (z.length=0)) ((List.range (most n (m+1) g l)).flatMap fun b=>(EA n m (less (pF n (m+1)) (b+1) g) (less (pT n (m+1)) (b+1) l)).map (fun r=>⟨(pF n (m+1):Int),(pT n (m+1):Int),(b:Int)+1⟩::r)))=[]:=by
      refine List.filter_eq_nil_iff.2 fun z hz=>?_
      simp only [List.mem_flatMap,List.mem_map] at hz;obtain ⟨b,_,r,_,rfl⟩:=hz;simp
    rw [this,List.nil_append]
theorem grow_head {n:Nat}:∀ (m h:Nat) (g l:List Int),(∀ x∈l,0≤x)→CQ n m h l.sum g l=((EA n m g l).filter fun z=>decide (z.length=h)).head?:=by
  intro m
  induction m with
  | zero=>
    intro h g l hl;cases h with
    | zero=>
      rw [lists_nil];simp only [CQ]
      by_cases e:l.sum=0
      · rw [if_pos e,if_pos ((MJ hl).1 e)];rfl
      · rw [if_neg e,if_neg (fun x=>e ((MJ hl).2 x))];rfl
    | succ h=>
      simp only [CQ,EA]
      split <;> simp
  | succ m ih=>
    intro h g l hl;cases h with
    | zero=>
      rw [lists_nil];simp only [CQ]
      by_cases e:l.sum=0
      · rw [if_pos e,if_pos ((MJ hl).1 e)];rfl
      · rw [if_neg e,if_neg (fun x=>e ((MJ hl).2 x))];rfl
    | succ h=>
      by_cases hs:l.sum<(h:Int)+1
      · rw [CQ,if_pos hs,eq_comm,List.head?_eq_none_iff,List.filter_eq_nil_iff]
        intro z hz;have:=lists_len hl hz;simp;omega
      · rw [CQ,if_neg hs,ih (h+1) g l hl]
        have e1 : (List.range (most n (m + 1) g l)).findSome? (fun b => (CQ n m h (l.sum - (b + 1 : Nat)) (less (pF n (m + 1)) (b + 1) g) (less (pT n (m + 1)) (b + 1) l)).map (fun r => (⟨(pF n (m + 1) : Int), (pT n (m + 1) : Int), (b : Int) + 1⟩ : Cart) :: r))
           =(((List.range (most n (m+1) g l)).flatMap fun b=>(EA n m (less (pF n (m+1)) (b+1) g) (less (pT n (m+1)) (b+1) l)).map (fun r=>⟨(pF n (m+1):Int),(pT n (m+1):Int),(b:Int)+1⟩::r)).filter fun z:List Cart=>decide (z.length=h+1)).head?:=by
          rw [List.filter_flatMap,head_flat];refine findSome_congrD ?_;intro b hb;obtain ⟨_,h2⟩:=most_lt (List.mem_range.1 hb);have h3:=ih h (less (pF n (m+1)) (b+1) g) (less (pT n (m+1)) (b+1) l) (GZ hl (by omega));rw [PQ h2] at h3;rw [h3];simp only [List.filter_map,List.head?_map]
          congr 2
          refine List.filter_congr fun z _=>?_
          simp
        rw [e1];simp only [EA,List.filter_append,List.head?_append];cases (List.filter (fun z:List Cart=>decide (z.length=h+1)) ((List.range (most n (m+1) g l)).flatMap fun b=>(EA n m (less (pF n (m+1)) (b+1) g) (less (pT n (m+1)) (b+1) l)).map (fun r=>⟨(pF n (m+1):Int),(pT n (m+1):Int),(b:Int)+1⟩::r))).head? <;> rfl
theorem lists_short {n:Nat}:∀ (m:Nat) (g l:List Int),∀ z∈EA n m g l,z.length≤m:=by
  intro m
  induction m with
  | zero=>intro g l z hz;simp only [EA] at hz;split at hz <;> simp at hz;subst hz;simp
  | succ m ih=>
    intro g l z hz;simp only [EA,List.mem_append,List.mem_flatMap,List.mem_map] at hz;rcases hz with ⟨b,_,r,hr,rfl⟩ | hz
    · have:=ih _ _ r hr;simp;omega
    · have:=ih _ _ z hz;omega
def bestL:List (List Cart)→List Cart→List Cart
  | [],b=>b
  | x::r,b=>bestL r (if x.length<b.length then x else b)
theorem bestL_first:∀ (tl:List (List Cart)) (b:List Cart),∃ A B,b::tl=A++bestL tl b::B∧(∀ a∈A,(bestL tl b).length<a.length)∧(∀ c∈B,(bestL tl b).length≤c.length):=by
  intro tl
  induction tl with
  | nil=>intro b;exact ⟨[],[],rfl,by simp,by simp⟩
  | cons x r ih=>
    intro b;simp only [bestL]
    by_cases h:x.length<b.length
    · rw [if_pos h]
      obtain ⟨A,B,e,h1,h2⟩:=ih x;have h3:(bestL r x).length≤x.length:=by
        cases A with
        | nil=>simp only [List.nil_append,List.cons.injEq] at e;rw [← e.1];omega
        | cons a A=>simp only [List.cons_append,List.cons.injEq] at e;have:=h1 a (by simp);rw [← e.1] at this;omega
      refine ⟨b::A,B,by rw [e];rfl,fun a ha=>?_,h2⟩;rcases List.mem_cons.1 ha with rfl | ha
      · omega
      · exact h1 a ha
    · rw [if_neg h]
      obtain ⟨A,B,e,h1,h2⟩:=ih b;cases A with
      | nil=>
        simp only [List.nil_append,List.cons.injEq] at e;refine ⟨[],x::B,by rw [← e.1,e.2];rfl,by simp,fun c hc=>?_⟩;rcases List.mem_cons.1 hc with rfl | hc
        · rw [← e.1];omega
        · exact h2 c hc
      | cons a A=>
        simp only [List.cons_append,List.cons.injEq] at e;obtain ⟨e1,e2⟩:=e;subst e1;refine ⟨b::x::A,B,congrArg (fun z=>b::x::z) e2,fun c hc=>?_,h2⟩;have:=h1 b (by simp);rcases List.mem_cons.1 hc with rfl | hc
        · exact this
        · rcases List.mem_cons.1 hc with rfl | hc
          · omega
          · exact h1 c (by simp [hc])
theorem KV {β:Type} {f:Nat→Option β} {k:Nat} {r:β} (h:∀ j,j<k→f j=none) (hk:f k=some r):∀ {N:Nat},k<N→(List.range N).findSome? f=some r:=by
  intro N
  induction N with
  | zero=>intro h;omega
  | succ N ih=>
    intro hN;rw [List.range_succ,List.findSome?_append]
    by_cases e:k=N
    · subst e
      have:(List.range k).findSome? f=none:=List.findSome?_eq_none_iff.2 (fun j hj=>h j (List.mem_range.1 hj));rw [this];simp [hk]
    · rw [ih (by omega)];rfl
theorem GY {β:Type} {f:Nat→Option β} {N:Nat} (h:∀ j,j<N→f j=none):(List.range N).findSome? f=none:=List.findSome?_eq_none_iff.2 (fun j hj=>h j (List.mem_range.1 hj))
def firstD (n:Nat) (g l:List Int):Option (List Cart):=(List.range (n*n+1)).findSome? fun h=>CQ n (n*n) h l.sum g l
theorem firstD_best {n:Nat} {g l:List Int} (hl:∀ x∈l,0≤x):firstD n g l=(match EA n (n*n) g l with | []=>none | x::r=>some (bestL r x)):=by
  unfold firstD;have hc:∀ h,CQ n (n*n) h l.sum g l=((EA n (n*n) g l).filter fun z=>decide (z.length=h)).head?:=fun h=>grow_head _ h g l hl
  have hs:=lists_short (n:=n) (n*n) g l;cases hL:EA n (n*n) g l with
  | nil=>exact GY fun j _=>by rw [hc,hL];rfl
  | cons x r=>
    obtain ⟨A,B,e,h1,h2⟩:=bestL_first r x;have hm:bestL r x∈EA n (n*n) g l:=by rw [hL,e];simp
    refine KV (k:=(bestL r x).length) (fun j hj=>?_) ?_ (by have:=hs _ hm;omega)
    · rw [hc,hL,e,List.head?_eq_none_iff,List.filter_eq_nil_iff]
      intro z hz;simp only [List.mem_append,List.mem_cons] at hz;rcases hz with hz | rfl | hz
      · have:=h1 z hz;simp;omega
      · simp;omega
      · have:=h2 z hz;simp;omega
    · rw [hc,hL,e,List.filter_append]
      have:A.filter (fun z=>decide (z.length=(bestL r x).length))=[]:=List.filter_eq_nil_iff.2 fun z hz=>by have:=h1 z hz;simp;omega
      rw [this];simp
theorem pair_step {n m:Nat} (hm:m+1≤n*n):pF n (m+1)<n∧pT n (m+1)<n∧((pT n (m+1)+1<n∧pF n m=pF n (m+1)∧pT n m=pT n (m+1)+1)∨(pT n (m+1)+1=n∧pF n m=pF n (m+1)+1∧pT n m=0)):=by
  have hn:0<n:=by cases n with | zero=>simp at hm | succ n=>omega
  unfold pF pT;have e:n*n-m=(n*n-(m+1))+1:=by omega
  rw [e]
  generalize hp:n*n-(m+1)=p
  have h1:p<n*n:=by omega
  have h2:p/n<n:=(Nat.div_lt_iff_lt_mul hn).2 h1;have h3:p%n<n:=Nat.mod_lt _ hn;have h4:=Nat.div_add_mod p n;refine ⟨h2,h3,?_⟩
  by_cases h:p%n+1<n
  · refine .inl ⟨h,?_,?_⟩
    · rw [show p+1=(p%n+1)+n*(p/n) by omega,Nat.add_mul_div_left _ _ hn,Nat.div_eq_of_lt h];omega
    · rw [show p+1=(p%n+1)+n*(p/n) by omega,Nat.add_mul_mod_self_left,Nat.mod_eq_of_lt h]
  · refine .inr ⟨by omega,?_,?_⟩
    · rw [show p+1=0+n*(p/n+1) by rw [Nat.mul_add];omega,Nat.add_mul_div_left _ _ hn];simp
    · rw [show p+1=0+n*(p/n+1) by rw [Nat.mul_add];omega,Nat.add_mul_mod_self_left];simp
theorem less_zero (k:Nat) (l:List Int):less k 0 l=l:=by
  unfold less
  apply List.ext_getElem?
  intro i;rw [List.getElem?_set]
  split
  · rename_i e;subst e
    split
    · rename_i hk;simp [List.getD,hk]
    · rename_i hk;rw [List.getElem?_eq_none (by omega)]
  · rfl
theorem less_at {k b:Nat} {l:List Int} (hk:k<l.length):(less k b l).getD k 0=l.getD k 0-b:=by simp [less,List.getD,hk]
theorem less_ne {k j b:Nat} {l:List Int} (h:k≠j):(less k b l).getD j 0=l.getD j 0:=by simp [less,List.getD,List.getElem?_set_ne h]
theorem FN {k b:Nat} {l:List Int}:(less k b l).length=l.length:=by simp [less]
theorem drop_sum {f:Nat} {g:List Int} (hf:f<g.length):(g.drop f).sum=g.getD f 0+(g.drop (f+1)).sum:=by
  rw [List.drop_eq_getElem_cons hf,List.sum_cons];simp [List.getD,hf]
theorem drop_less {f b:Nat} {g:List Int}:(less f b g).drop (f+1)=g.drop (f+1):=by
  unfold less;rw [List.drop_set_of_lt (by omega)]
theorem lists_feas {n : Nat} : ∀ (m : Nat) (g l : List Int), m ≤ n * n → g.length = n → l.length = n → (∀ x ∈ g, 0 ≤ x) → (∀ x ∈ l, 0 ≤ x) → l.sum ≤ (g.drop (pF n m)).sum →
    (g.getD (pF n m) 0=0∨∀ c,c<pT n m→l.getD c 0=0)→EA n m g l≠[]:=by
  intro m
  induction m with
  | zero=>
    intro g l _ hg hl hg0 hl0 hs _;have hf:n≤pF n 0:=by
      unfold pF;rcases Nat.eq_zero_or_pos n with rfl | h
      · simp
      · rw [Nat.sub_zero,Nat.mul_div_cancel _ h];exact Nat.le_refl _
    rw [List.drop_of_length_le (by omega)] at hs;have h1:=LU hl0;simp only [List.sum_nil] at hs;simp only [EA];rw [if_pos ((MJ hl0).1 (by omega))];simp
  | succ m ih=>
    intro g l hm hg hl hg0 hl0 hs hc;obtain ⟨hf,ht,hst⟩:=pair_step hm
    generalize hF:pF n (m+1)=f at *
    generalize hT:pT n (m+1)=t at *
    have hgf:0≤g.getD f 0:=hg0 _ (BM (by omega));have hlt:0≤l.getD t 0:=hl0 _ (BM (by omega))
    generalize hb:most n (m+1) g l=b
    have hb2:(b:Int)=min (g.getD f 0) (l.getD t 0):=by rw [← hb];unfold most;rw [hF,hT];omega
    have hne:EA n m (less f b g) (less t b l)≠[]→EA n (m+1) g l≠[]:=by
      intro h;simp only [EA];cases b with
      | zero=>
        rw [less_zero,less_zero] at h;simp only [hb,List.range_zero,List.flatMap_nil,List.nil_append];exact h
      | succ b=>
        obtain ⟨z,hz⟩:=List.exists_mem_of_ne_nil _ h;intro e;have:=List.append_eq_nil_iff.1 e;have hm2:=List.flatMap_eq_nil_iff.1 this.1 b (by rw [hb];simp);rw [hF,hT] at hm2;rw [List.map_eq_nil_iff] at hm2;rw [hm2] at hz;simp at hz
    refine hne (ih _ _ (by omega) (by rw [FN];exact hg) (by rw [FN];exact hl) (GZ hg0 (by omega)) (GZ hl0 (by omega)) ?_ ?_)
    all_goals (
      have e1:(less t b l).sum=l.sum-b:=by
        cases b with
        | zero=>rw [less_zero];simp
        | succ b=>exact PQ (by omega)
      have e2:(less f b g).getD f 0=g.getD f 0-b:=less_at (by omega)
      have e3:(less t b l).getD t 0=l.getD t 0-b:=less_at (by omega)
      have e4:((less f b g).drop f).sum=(g.drop f).sum-b:=by
        rw [drop_sum (by rw [FN];omega),drop_sum (show f<g.length by omega),e2,drop_less];omega
      have e5:∀ c,c<t→(less t b l).getD c 0=l.getD c 0:=fun c hc=>less_ne (by omega))
    · rcases hst with ⟨h1,h2,h3⟩ | ⟨h1,h2,h3⟩
      · rw [h2,e1,e4];omega
      · rw [h2]
        have e6:=drop_sum (g:=less f b g) (f:=f) (by rw [FN];omega)
        by_cases h0:(less f b g).getD f 0=0
        · rw [e1];omega
        · have hz : ∀ x ∈ less t b l, x ≤ 0 := fun x hx => by
            obtain ⟨i,hi,rfl⟩:=List.mem_iff_getElem.1 hx;have e7:(less t b l)[i]=(less t b l).getD i 0:=by simp [List.getD,hi]
            rw [e7];rw [FN] at hi
            by_cases e:i=t
            · subst e;omega
            · have:i<t:=by omega
              rw [e5 i this];rcases hc with hc | hc
              · omega
              · rw [hc i this];exact Int.le_refl _
          have h7:=(MJ (GZ hl0 (by omega))).2 hz;rw [h7];exact LU fun x hx=>GZ hg0 (by omega) x (List.mem_of_mem_drop hx)
    · rcases hst with ⟨h1,h2,h3⟩ | ⟨h1,h2,h3⟩
      · rw [h2,h3]
        by_cases h0:(less f b g).getD f 0=0
        · exact .inl h0
        · refine .inr fun c hcc=>?_
          by_cases e:c=t
          · subst e;omega
          · rw [e5 c (by omega)]
            rcases hc with hc | hc
            · omega
            · exact hc c (by omega)
      · rw [h3];exact .inr fun c hc=>by omega
theorem lists_give {n:Nat}:∀ (m:Nat) (g l:List Int),(∀ x∈g,0≤x)→∀ z∈EA n m g l,(z.map Cart.bales).sum≤g.sum:=by
  intro m
  induction m with
  | zero=>
    intro g l h z hz;simp only [EA] at hz
    split at hz
    · simp at hz;subst hz;exact LU h
    · simp at hz
  | succ m ih=>
    intro g l h z hz;simp only [EA,List.mem_append,List.mem_flatMap,List.mem_range,List.mem_map] at hz;rcases hz with ⟨b,hb,r,hr,rfl⟩ | hz
    · obtain ⟨h1,_⟩:=most_lt hb
      have e1:=ih _ _ (GZ h (by omega)) r hr;rw [PQ h1] at e1;simp only [List.map_cons,List.sum_cons];omega
    · exact ih _ _ h z hz
theorem lists_none {n:Nat} (hn:0<n) {g l:List Int} (hg:g.length=n) (hl:l.length=n) (g0:∀ x∈g,0≤x) (l0:∀ x∈l,0≤x):EA n (n*n) g l=[]↔g.sum<l.sum:=by
  constructor
  · intro h
    refine Int.lt_of_not_ge fun hs=>lists_feas (n*n) g l (Nat.le_refl _) hg hl g0 l0 ?_ (.inr fun c hc=>?_) h
    · have:pF n (n*n)=0:=by unfold pF;simp
      rw [this,List.drop_zero];exact hs
    · have:pT n (n*n)=0:=by unfold pT;simp
      omega
  · intro h
    cases hL:EA n (n*n) g l with
    | nil=>rfl
    | cons z r=>
      have hz:z∈EA n (n*n) g l:=by rw [hL];simp
      have h1:=(lists_sum _ _ _ l0 z hz).1;have h2:=lists_give _ _ _ g0 z hz;omega
structure Pool (h nd:List Int) (b:Int):Prop where
  some:0<h.length
  few:h.length≤4
  same:nd.length=h.length
  each:∀ i,i<h.length→inB (h.getD i 0) 0 50=true∧inB (nd.getD i 0) 0 50=true
  bale:1≤b∧b≤10
theorem pool_of {h nd:List Int} {b:Int} (e:EG h nd b=0):Pool h nd b:=by
  unfold EG at e
  split at e
  · cases e
  split at e
  · cases e
  split at e
  · cases e
  split at e
  · cases e
  split at e
  · cases e
  rename_i h1 h2 h3 h4 h5
  exact ⟨by omega,by omega,by omega,Classical.not_not.1 h4,by simpa [inB] using h5⟩
section
variable {h nd:List Int} {b:Int}
theorem PK:(GF h nd b).length=h.length:=by simp [GF]
theorem SB:(GK h nd b).length=h.length:=by simp [GK]
theorem PJ (hb:1≤b) (i:Nat):0≤DA h nd b i:=by
  unfold DA;split
  · exact Int.ediv_nonneg (by omega) (by omega)
  · exact Int.le_refl _
theorem SA (hb:1≤b) (i:Nat):0≤FB h nd b i:=by
  unfold FB;split
  · exact Int.le_refl _
  · exact Int.ediv_nonneg (by omega) (by omega)
theorem givesM_nonneg (hb:1≤b):∀ x∈GF h nd b,0≤x:=fun x hx=>by
  obtain ⟨i,_,rfl⟩:=List.mem_map.1 hx;exact PJ hb i
theorem getsM_nonneg (hb:1≤b):∀ x∈GK h nd b,0≤x:=fun x hx=>by
  obtain ⟨i,_,rfl⟩:=List.mem_map.1 hx;exact SA hb i
theorem giveOf_le (hb:1≤b) {m:Int} {i:Nat} (hm:0≤m) (h1:h.getD i 0≤m) (h2:0≤nd.getD i 0):DA h nd b i≤m:=by
  unfold DA;split
  · rename_i e
    have:=Int.ediv_le_self (a:=h.getD i 0-nd.getD i 0) b (by omega);omega
  · exact hm
theorem getOf_le (hb:1≤b) {m:Int} {i:Nat} (hm:0≤m) (h1:nd.getD i 0≤m) (h2:0≤h.getD i 0):FB h nd b i≤m:=by
  unfold FB;split
  · exact hm
  · rename_i e
    refine Int.ediv_le_of_le_mul (by omega) ?_;have h4:(nd.getD i 0-h.getD i 0-1)*1≤(nd.getD i 0-h.getD i 0-1)*b:=Int.mul_le_mul_of_nonneg_left hb (by omega);have h6:(nd.getD i 0-h.getD i 0-1)*b=(nd.getD i 0-h.getD i 0)*b-b:=by rw [Int.sub_mul];omega
    have h7:(nd.getD i 0-h.getD i 0)*b≤m*b:=Int.mul_le_mul_of_nonneg_right (by omega) (by omega);omega
end
def divE (h nd:List Int) (b:Int):List Cart × Int:=
  if EG h nd b≠0 then ([],EG h nd b) else if (GF h nd b).sum<(GK h nd b).sum then ([],11) else ((firstD h.length (GF h nd b) (GK h nd b)).getD [],0)
section
variable {h nd:List Int} {b:Int}
theorem poolErr_1 (h0:h.length=0):EG h nd b=7:=if_pos h0
theorem poolErr_2 (h1:4<h.length):EG h nd b=6:=by unfold EG;rw [if_neg (by omega),if_pos h1]
theorem poolErr_3 (h0:¬ h.length=0) (h1:¬ 4<h.length) (h2:nd.length≠h.length):EG h nd b=2:=by unfold EG;rw [if_neg h0,if_neg h1,if_pos h2]
theorem poolErr_4 (h0:¬ h.length=0) (h1:¬ 4<h.length) (h2:nd.length=h.length) {i:Nat} (hi:i<h.length) (hb:(!inB (h.getD i 0) 0 50||!inB (nd.getD i 0) 0 50)=true):EG h nd b=1:=by
  unfold EG;rw [if_neg h0,if_neg h1,if_neg (by omega),if_pos];intro ha;obtain ⟨a1,a2⟩:=ha i hi;rw [a1,a2] at hb;cases hb
theorem poolErr_5 (h0:¬ h.length=0) (h1:¬ 4<h.length) (h2:nd.length=h.length) (ha:∀ i,i<h.length→inB (h.getD i 0) 0 50=true∧inB (nd.getD i 0) 0 50=true) (hb:inB b 1 10=false):EG h nd b=1:=by
  unfold EG;rw [if_neg h0,if_neg h1,if_neg (by omega),if_neg (fun x=>x ha),if_pos hb]
theorem poolErr_6 (h0:¬ h.length=0) (h1:¬ 4<h.length) (h2:nd.length=h.length) (ha:∀ i,i<h.length→inB (h.getD i 0) 0 50=true∧inB (nd.getD i 0) 0 50=true) (hb:inB b 1 10=true):EG h nd b=0:=by
  unfold EG;rw [if_neg h0,if_neg h1,if_neg (by omega),if_neg (fun x=>x ha),if_neg (by rw [hb];decide)]
theorem LG {p:Nat→Prop} {k:Nat} (h:∀ i,i<k→p i) (hk:p k):∀ i,i<k+1→p i:=fun i hi=>by
  by_cases e:i=k
  · subst e;exact hk
  · exact h i (by omega)
end
end Go.Sh
namespace Go.Proofs.YtgcemienebmdeaaGreatDoor
open Go Go.Sl Go.Sh
set_option maxRecDepth 100000
noncomputable def cIn (p:List Nat):Code:=sub (OE Tryz.f38) p
theorem MW (I:Imm) (n:Int) (lo:Int) (hi:Int):CtV Tryz.prog 38 #[vI n,vI lo,vI hi] I (.bool (inB n lo hi)):=by
 refine fr (args:=[_,_,_]) (N:=15) Tryz.func38 (fun F=>?_);show Run _ _ (cIn []) _ _ [(0,vI n),(1,vI lo),(2,vI hi)] _ _;refine rnm (rqr ?_);refine sp 1 [(6,.bool false)] (se (rq ?_));refine BC (fun a w=>SE 15 [(6,.bool ((cmp .leq lo n)&&(cmp .leq n hi)))] I F a w) ?_ ?_
 ·
  refine rr (sp 4 [(10,.bool (cmp .leq lo n))] ?_);refine AQ 10 rfl (fun h1=>?_) (fun h1=>?_)
  ·
   have a0:=h1;have a0:=leq_t a0;refine sp 5 [(6,.bool (cmp .leq n hi))] (ee ?_);refine AG (fun a w hS hD hW=>⟨hS.sub (.consE 6 rfl (congrArg Value.bool (by simp only [h1,kk])) (.nil _)),hD,hW⟩)
  have a0:=h1;have a0:=leq_f a0;refine sp 5 [(6,.bool false)] (ee ?_);refine AG (fun a w hS hD hW=>⟨hS.sub (.consE 6 rfl (congrArg Value.bool (by simp only [h1,kk])) (.nil _)),hD,hW⟩)
 rintro a w ⟨hS,hD,hW⟩
 refine AP hS hD hW ?_;refine BF (rt1 6 rfl (IR _) ?_);exact ⟨by simp [inB,cmp],rfl⟩
noncomputable def cBt (p:List Nat):Code:=sub (OE Tryz.f147) p
theorem DL (I:Imm) (n:Int) (lo:Int) (hi:Int):CtV Tryz.prog 147 #[vI n,vI lo,vI hi] I (.bool (inB n lo hi)):=by
 refine fr (args:=[_,_,_]) (N:=15) Tryz.func147 (fun F=>?_);show Run _ _ (cBt []) _ _ [(0,vI n),(1,vI lo),(2,vI hi)] _ _;refine rnm (rqr ?_);refine sp 1 [(6,.bool false)] (se (rq ?_));refine BC (fun a w=>SE 15 [(6,.bool ((cmp .leq lo n)&&(cmp .leq n hi)))] I F a w) ?_ ?_
 ·
  refine rr (sp 4 [(10,.bool (cmp .leq lo n))] ?_);refine AQ 10 rfl (fun h1=>?_) (fun h1=>?_)
  ·
   have a0:=h1;have a0:=leq_t a0;refine sp 5 [(6,.bool (cmp .leq n hi))] (ee ?_);refine AG (fun a w hS hD hW=>⟨hS.sub (.consE 6 rfl (congrArg Value.bool (by simp only [h1,kk])) (.nil _)),hD,hW⟩)
  have a0:=h1;have a0:=leq_f a0;refine sp 5 [(6,.bool false)] (ee ?_);refine AG (fun a w hS hD hW=>⟨hS.sub (.consE 6 rfl (congrArg Value.bool (by simp only [h1,kk])) (.nil _)),hD,hW⟩)
 rintro a w ⟨hS,hD,hW⟩
 refine AP hS hD hW ?_;refine BF (rt1 6 rfl (IR _) ?_);exact ⟨by simp [inB,cmp],rfl⟩
noncomputable def c_checkDivide:=cod Tryz.f64
theorem checkDivide_ct (I:Imm) (a:Value) (h:List Int) (c:Value) (nd:List Int) (b:Int) (a_f:CP I a h) (c_f:CP I c nd):CtV Tryz.prog 64 #[a,c,vI b] I (vI (EG h nd b)):=by
 obtain ⟨a4,a5,c1,c4,rfl,c2,c3,b7⟩:=id a_f;obtain ⟨a6,a7,c5,c8,rfl,c6,c7,b8⟩:=id c_f;refine fr (args:=[_,_,_]) (N:=45) Tryz.func64 (fun F=>?_);show Run _ _ (c_checkDivide []) _ _ [(0,_),(1,_),(2,_)] _ _;refine rnm (rqr ?_);refine sp 1 [(6,vI 0)] (se (rq (rb 0 (rqr (sp 4 [(8,.bool (cmp .eql (↑(h.length)) 0))] (se (rc 8 rfl (fun h1=>?_) (fun h1=>?_))))))))
 ·
  have a8:=h1;have h1:=BI h1;refine rqr (sp 1 [(6,vI 7)] (se (BF (RB (RP (rt1 6 rfl (IR _) ?_))))));exact ⟨congrArg (Value.int .i64) (poolErr_1 (by omega)).symm,rfl⟩
 have a8:=h1;have h1:=BG h1;refine rqr (sp 4 [(12,.bool (cmp .gtr (↑(h.length)) 4))] (se (rc 12 rfl (fun h2=>?_) (fun h2=>?_))))
 ·
  have a9:=h2;have h2:=JG h2;refine rqr (sp 1 [(6,vI 6)] (se (BF (RB (RP (rt1 6 rfl (IR _) ?_))))));exact ⟨congrArg (Value.int .i64) (poolErr_2 (by omega)).symm,rfl⟩
 have a9:=h2;have h2:=KC h2;refine rqr (sp 6 [(16,.bool (!(cmp .eql (↑(nd.length)) (↑(h.length)))))] (se (rc 16 rfl (fun h3=>?_) (fun h3=>?_))))
 ·
  have b0:=h3;have h3:=BG (BO h3);refine rqr (sp 1 [(6,vI 2)] (se (BF (RB (RP (rt1 6 rfl (IR _) ?_))))));exact ⟨congrArg (Value.int .i64) (poolErr_3 (by omega) (by omega) (by omega)).symm,rfl⟩
 have b0:=h3;have h3:=BI (BK h3);refine AM (NB (NX (rq (rqr (sp 3 [(24,vI 0),(23,vI (↑(h.length)))] (se (rb 1 ?_)))))));refine rl (fun mz a w=>∃ k:Nat,(k≤h.length)∧(∀ i,i<k→inB (h.getD i 0) 0 50=true∧inB (nd.getD i 0) 0 50=true)∧SD 45 [(24,vI ↑k),(0,vS a4 h.length a5),(1,vS a6 nd.length a7),(2,vI b),(23,vI (↑(h.length)))] I F a w (mz=h.length-k)) ?_ ?_
 ·intro a w hS hD hW;exact ⟨_,0,Nat.zero_le _,(fun i hi=>by omega),hS.sub su,hD,hW,rfl⟩
 rintro mz a w ⟨k,hk,ha,hS,hD,hW,rfl⟩
 refine AP hS hD hW ?_;clear hS hD hW a w;refine rqr (sp 1 [(25,.bool (cmp .lss ↑k (↑(h.length))))] (se (rq (rc 25 rfl (fun h4=>?_) (fun h4=>?_)))))
 ·
  have b1:=h4;have h4:=BW h4;refine AM (NX (rq (rb 2 (rqr (sp 2 [(7,vI ↑k)] (se (rq ?_)))))));refine BC (fun a w=>SE 45 [(0,vS a4 h.length a5),(1,vS a6 nd.length a7),(2,vI b),(23,vI (↑(h.length))),(24,vI ↑k),(40,.bool ((!(inB (h.getD k 0) 0 50))||(!(inB (nd.getD k 0) 0 50))))] I F a w) ?_ ?_
  ·
   refine rr (sp 2 [(28,vI ↑k),(27,vS a4 h.length a5)] (sd (di 29 1 k b7.addr) (sd (dl 30 (BL b7 k (by omega))) (sd (dc 31 (fun I' hI=>(MW I' (h.getD k 0) 0 50 :))) (sp 2 [(33,.bool (!(inB (h.getD k 0) 0 50)))] ?_)))));refine AQ 33 rfl (fun h5=>?_) (fun h5=>?_)
   ·
    have a0:=h5;have a0:=BO a0;have a3:=HY a0;refine sp 7 [(40,.bool true)] (ee ?_);refine AG (fun a w hS hD hW=>⟨hS.sub (sun 5 (.consE 40 rfl (congrArg Value.bool (by simp only [h5,kk])) (.nil _))),hD,hW⟩)
   have a0:=h5;have a0:=BK a0;have a3:=DI a0;refine sp 2 [(35,vI ↑k),(34,vS a6 nd.length a7)] (sd (di 36 1 k b8.addr) (sd (dl 37 (BL b8 k (by omega))) (sd (dc 38 (fun I' hI=>(MW I' (nd.getD k 0) 0 50 :))) (sp 2 [(40,.bool (!(inB (nd.getD k 0) 0 50)))] (ee ?_)))));refine AG (fun a w hS hD hW=>⟨hS.sub (sun 5 (.consE 40 rfl (congrArg Value.bool (by simp only [h5,kk])) (.nil _))),hD,hW⟩)
  rintro a w ⟨hS,hD,hW⟩
  refine AP hS hD hW ?_;clear hS hD hW a w;refine rc 40 rfl (fun h6=>?_) (fun h6=>?_)
  ·
   have b4:=h6;refine rqr (sp 1 [(6,vI 1)] (se (BF (RB (RP (RP (RB (RP (rt1 6 rfl (IR _) ?_)))))))));exact ⟨congrArg (Value.int .i64) (poolErr_4 (by omega) (by omega) (by omega) (i:=k) (by omega) h6).symm,rfl⟩
  have b4:=h6;obtain ⟨a1,a2⟩:=SW h6;have a1:=BK a1;have b2:=DI a1;have a2:=BK a2;have b3:=DI a2;refine AM (NB (NX (rr (sd (da 41 ↑k 1) (sp 1 [(24,vI (↑k+1))] (ee ?_))))));refine AN (h.length-(k+1)) (by omega) ?_;intro a w hS hD hW;exact ⟨k+1,by omega,LG ha ⟨a1,a2⟩,hS.sub su,hD,hW,rfl⟩
 have b1:=h4;have h4:=CB h4;refine BX 1 (EP (EP (EB (NX (rq (rqr (sp 1 [(42,vI b)] (sd (dc 43 (fun I' hI=>(MW I' b 1 10 :))) (sp 1 [(44,.bool (!(inB b 1 10)))] (se (rc 44 rfl (fun h7=>?_) (fun h7=>?_))))))))))))
 ·
  have b6:=h7;have h7:=BO h7;have b5:=HY h7;refine rqr (sp 1 [(6,vI 1)] (se (BF (RP (rt1 6 rfl (IR _) ?_)))));exact ⟨congrArg (Value.int .i64) (poolErr_5 (by omega) (by omega) (by omega) (fun i hi=>ha i (by omega)) h7).symm,rfl⟩
 have b6:=h7;have h7:=BK h7;have b5:=DI h7;refine AM (NX (rqr (sp 1 [(6,vI 0)] (se (BF (rt1 6 rfl (IR _) ?_))))));exact ⟨congrArg (Value.int .i64) (poolErr_6 (by omega) (by omega) (by omega) (fun i hi=>ha i (by omega)) h7).symm,rfl⟩
end Go.Proofs.YtgcemienebmdeaaGreatDoor
namespace Go.Sh
open Go Go.Sl
abbrev num (n:Int):List UInt8:=Lib.itoa n
theorem join_le {m:Nat} {s:UInt8}:∀ {xs:List (List UInt8)},(∀ x∈xs,x.length≤m)→(Lib.join xs [s]).length≤xs.length*(m+1):=by
  intro xs h;cases xs with
  | nil=>simp [Lib.join_nil]
  | cons x r=>
    rw [Lib.join_cons,List.length_append];have hr:∀ {r:List (List UInt8)},(∀ x∈r,x.length≤m)→(Lib.joinTail [s] r).length≤r.length*(m+1):=by
      intro r hr
      induction r with
      | nil=>simp [Lib.joinTail]
      | cons y r ih=>
        have h1:=hr y (List.mem_cons_self ..);have h2:=ih fun z hz=>hr z (List.mem_cons_of_mem _ hz)
        simp only [Lib.joinTail,List.map_cons,List.flatten_cons,List.length_append,List.length_cons,List.length_nil] at h2 ⊢;rw [Nat.add_mul];omega
    have h1:=h x (List.mem_cons_self ..);have h2:=hr (r:=r) fun z hz=>h z (List.mem_cons_of_mem _ hz)
    rw [List.length_cons,Nat.add_mul];omega
section
variable {c:Car}
end
theorem join_le_of {m n:Nat} {s:UInt8} {xs:List (List UInt8)} (h:∀ x∈xs,x.length≤m) (hn:xs.length*(m+1)≤n):(Lib.join xs [s]).length≤n:=Nat.le_trans (join_le h) hn
theorem dec1 {n:Nat} (h:n<10):Lib.decDigits n=[UInt8.ofNat (48+n)]:=by rw [Lib.decDigits,dif_pos h]
theorem dec2 {n:Nat} (h:10≤n) (h2:n<100):Lib.decDigits n=[UInt8.ofNat (48+n/10),UInt8.ofNat (48+n%10)]:=by
  rw [Lib.decDigits,dif_neg (by omega),dec1 (by omega)];rfl
theorem num1 {n:Nat} (h:n<10):num n=[UInt8.ofNat (48+n)]:=by rw [num,Lib.itoa,if_neg (by omega)];exact dec1 h
def cutL (b:UInt8):List UInt8→List (List UInt8)
  | []=>[[]]
  | c::s=>if c=b then []::cutL b s else match cutL b s with
    | []=>[[c]]
    | x::r=>(c::x)::r
theorem cutL_ne (b:UInt8):∀ s,cutL b s≠[]
  | []=>by simp [cutL]
  | c::s=>by
    unfold cutL
    split
    · simp
    · split <;> simp
theorem PB {b:UInt8}:∀ {s:List UInt8},b∉s→cutL b s=[s]
  | [],_=>rfl
  | c::s,h=>by
    simp only [List.mem_cons,not_or] at h;rw [cutL,if_neg (Ne.symm h.1),PB h.2]
theorem cutL_app {b:UInt8}:∀ {s:List UInt8} (t:List UInt8),b∉s→cutL b (s++b::t)=s::cutL b t
  | [],t,_=>by rw [List.nil_append,cutL,if_pos rfl]
  | c::s,t,h=>by
    simp only [List.mem_cons,not_or] at h;rw [List.cons_append,cutL,if_neg (Ne.symm h.1),cutL_app t h.2]
theorem cutL_mem {b:UInt8}:∀ {s:List UInt8},∀ x∈cutL b s,b∉x
  | [],x,hx=>by
    simp [cutL] at hx;subst hx;simp
  | c::s,x,hx=>by
    have ih:=cutL_mem (b:=b) (s:=s);unfold cutL at hx
    split at hx
    · rcases List.mem_cons.1 hx with rfl | hx
      · simp
      · exact ih x hx
    · rename_i hc
      split at hx
      · simp at hx;subst hx;simpa using Ne.symm hc
      · rename_i y r e
        rw [e] at ih;rcases List.mem_cons.1 hx with rfl | hx
        · have:=ih y (List.mem_cons_self ..)
          simp only [List.mem_cons,not_or];exact ⟨Ne.symm hc,this⟩
        · exact ih x (List.mem_cons_of_mem _ hx)
theorem cutL_len {b:UInt8}:∀ {s:List UInt8},(cutL b s).length=s.count b+1
  | []=>rfl
  | c::s=>by
    have ih:=cutL_len (b:=b) (s:=s);unfold cutL
    split
    · rename_i hc;subst hc
      rw [List.length_cons,ih,List.count_cons_self]
    · rename_i hc
      rw [List.count_cons_of_ne (by exact hc)]
      split
      · rename_i e;rw [e] at ih;simp at ih
      · rename_i x r e;rw [e] at ih;simpa using ih
theorem cutL_len_le {b:UInt8} {s:List UInt8}:(cutL b s).length≤s.length+1:=by
  rw [cutL_len];have:=List.count_le_length (a:=b) (l:=s);omega
theorem OS {b:UInt8}:∀ {s:List UInt8},∀ x∈cutL b s,x.length≤s.length
  | [],x,hx=>by simp [cutL] at hx;subst hx;simp
  | c::s,x,hx=>by
    have ih:=OS (b:=b) (s:=s);unfold cutL at hx
    split at hx
    · rcases List.mem_cons.1 hx with rfl | hx
      · simp
      · have:=ih x hx;simp;omega
    · split at hx
      · simp at hx;subst hx;simp
      · rename_i y r e
        rw [e] at ih;rcases List.mem_cons.1 hx with rfl | hx
        · have:=ih y (List.mem_cons_self ..)
          simpa using this
        · have:=ih x (List.mem_cons_of_mem _ hx);simp;omega
def Cutting (b:UInt8) (s:List UInt8) (i frm:Nat) (out:List (List UInt8)):Prop:=
  (i≤s.length∧frm≤i∧cutL b s=out++cutL b (s.drop frm)∧∀ k,frm≤k→k<i→s.getD k 0≠b)∨(i=s.length+1∧frm=s.length+1∧out=cutL b s)
theorem Cutting.start {b:UInt8} {s:List UInt8}:Cutting b s 0 0 []:=.inl ⟨Nat.zero_le _,Nat.le_refl _,rfl,fun k _ h=>by omega⟩
theorem Cutting.frm_le {b:UInt8} {s:List UInt8} {i frm:Nat} {out:List (List UInt8)} (h:Cutting b s i frm out) (hi:i≤s.length):frm≤i:=by
  rcases h with h | h
  · exact h.2.1
  · omega
theorem Cutting.le {b:UInt8} {s:List UInt8} {i frm:Nat} {out:List (List UInt8)} (h:Cutting b s i frm out):i≤s.length+1:=by
  rcases h with h | h
  · have:=h.1;omega
  · omega
theorem Cutting.free {b:UInt8} {s:List UInt8} {i frm:Nat} (h1:frm≤i) (h:i≤s.length) (hf:∀ k,frm≤k→k<i→s.getD k 0≠b):b∉(s.drop frm).take (i-frm):=by
  intro hm;obtain ⟨k,hk,e⟩:=List.mem_iff_getElem.1 hm;simp only [List.length_take,List.length_drop] at hk;simp only [List.getElem_take,List.getElem_drop] at e;exact hf (frm+k) (by omega) (by omega) (by simp [List.getD_eq_getElem?_getD,List.getElem?_eq_getElem (show frm+k<s.length by omega),e])
theorem Cutting.miss {b:UInt8} {s:List UInt8} {i frm:Nat} {out:List (List UInt8)} (h:Cutting b s i frm out) (hi:i<s.length) (hn:s.getD i 0≠b):Cutting b s (i+1) frm out:=by
  rcases h with ⟨h1,h2,h3,h4⟩ | h
  · refine .inl ⟨hi,by omega,h3,fun k hk hk2=>?_⟩
    by_cases e:k=i
    · subst e;exact hn
    · exact h4 k hk (by omega)
  · omega
theorem Cutting.hit {b:UInt8} {s:List UInt8} {i frm:Nat} {out:List (List UInt8)} (h:Cutting b s i frm out) (hi:i<s.length) (hn:s.getD i 0=b):Cutting b s (i+1) (i+1) (out++[(s.drop frm).take (i-frm)]):=by
  rcases h with ⟨h1,h2,h3,h4⟩ | h
  · refine .inl ⟨hi,Nat.le_refl _,?_,fun k hk hk2=>by omega⟩
    have e:s.drop frm=(s.drop frm).take (i-frm)++b::s.drop (i+1):=by
      conv=>lhs;rw [← List.take_append_drop (i-frm) (s.drop frm)]
      rw [List.drop_drop,show frm+(i-frm)=i by omega,List.drop_eq_getElem_cons hi]
      congr 2
      simpa [List.getD_eq_getElem?_getD,List.getElem?_eq_getElem hi] using hn
    rw [h3,List.append_assoc]
    congr 1
    conv=>lhs;rw [e]
    rw [cutL_app _ (Cutting.free h2 h1 h4)];rfl
  · omega
theorem Cutting.last {b:UInt8} {s:List UInt8} {i frm:Nat} {out:List (List UInt8)} (h:Cutting b s i frm out) (hi:i=s.length):Cutting b s (i+1) (i+1) (out++[(s.drop frm).take (i-frm)]):=by
  rcases h with ⟨h1,h2,h3,h4⟩ | h
  · subst hi
    refine .inr ⟨rfl,rfl,?_⟩;have hf:=Cutting.free h2 h1 h4;rw [List.take_of_length_le (by rw [List.length_drop];omega)] at hf ⊢;rw [h3,PB hf]
  · omega
theorem Cutting.done {b:UInt8} {s:List UInt8} {i frm:Nat} {out:List (List UInt8)} (h:Cutting b s i frm out) (hi:s.length<i):out=cutL b s:=by
  rcases h with h | h
  · omega
  · exact h.2.2
theorem Cutting.len {b:UInt8} {s:List UInt8} {i frm:Nat} {out:List (List UInt8)} (h:Cutting b s i frm out):out.length≤s.length+1:=by
  have hl:=cutL_len_le (b:=b) (s:=s);rcases h with ⟨_,_,h3,_⟩ | ⟨_,_,h3⟩
  · rw [h3,List.length_append] at hl;omega
  · rw [h3];exact hl
theorem byteAt_eq {s:List UInt8} {i:Nat} {b:UInt8}:CZ s i=((b.toNat:Nat):Int)↔s.getD i 0=b:=by
  unfold CZ
  constructor
  · intro h
    exact UInt8.toNat_inj.1 (by omega)
  · intro h;rw [h]
def LL (c:UInt8):Bool:=decide (48≤c.toNat)&&decide (c.toNat≤57)
def HM (s:List UInt8):Int:=s.foldl (fun n c=>10*n+((c.toNat:Int)-48)) 0
def GH (s:List UInt8):Bool:=decide (1≤s.length)&&decide (s.length≤3)&&!(decide (s.getD 0 0=48)&&decide (1<s.length))&&s.all LL
def BV (l:List (List UInt8)):Bool:=l.all GH
def AF (l:List (List UInt8)):List Int:=if BV l=true then l.map HM else []
theorem numV_snoc (s:List UInt8) (c:UInt8):HM (s++[c])=10*HM s+((c.toNat:Int)-48):=by simp [HM,List.foldl_append]
theorem fold_bound:∀ {s:List UInt8} {a:Int},0≤a→s.all LL=true→0≤s.foldl (fun n c=>10*n+((c.toNat:Int)-48)) a∧s.foldl (fun n c=>10*n+((c.toNat:Int)-48)) a<(a+1)*10 ^ s.length
  | [],a,h,_=>by simp;omega
  | c::s,a,h,hd=>by
    rw [List.all_cons,Bool.and_eq_true] at hd;have hc:=hd.1;simp only [LL,Bool.and_eq_true,decide_eq_true_eq] at hc;have ih:=fold_bound (s:=s) (a:=10*a+((c.toNat:Int)-48)) (by omega) hd.2;rw [List.foldl_cons];refine ⟨ih.1,Int.lt_of_lt_of_le ih.2 ?_⟩;rw [List.length_cons,Int.pow_succ,Int.mul_comm (10 ^ s.length) 10,← Int.mul_assoc];exact Int.mul_le_mul_of_nonneg_right (by omega) (Int.pow_nonneg (by decide))
theorem numV_bound {s:List UInt8} (h:s.all LL=true):0≤HM s∧HM s<10 ^ s.length:=by
  have:=fold_bound (a:=0) (by decide) h;unfold HM
  simpa using this
theorem RH {s:List UInt8} (h:s.all LL=true) (hl:s.length≤3):0≤HM s∧HM s<1000:=by
  have hb:=numV_bound h;refine ⟨hb.1,Int.lt_of_lt_of_le hb.2 ?_⟩;have:s.length=0∨s.length=1∨s.length=2∨s.length=3:=by omega
  rcases this with e | e | e | e <;> rw [e] <;> decide
def marksIs (m:List UInt8):Bool:=decide (m=[45])||decide (m=[112])||decide (m=[104])||decide (m=[112,104])
def carOf (l:List Int) (m:List UInt8):Car:=⟨l.getD 0 0,l.getD 1 0,l.getD 2 0,l.getD 3 0,decide (m.getD 0 0=112),decide (m.getD (m.length-1) 0=104)⟩
def restV (r:List UInt8):List Int:=if r=[] then [] else AF (cutL 44 r)
theorem dig_of {c:UInt8} (h:LL c=true):∃ d:Nat,d≤9∧c=UInt8.ofNat (48+d)∧c.toNat=48+d:=by
  simp only [LL,Bool.and_eq_true,decide_eq_true_eq] at h;exact ⟨c.toNat-48,by omega,by rw [show 48+(c.toNat-48)=c.toNat by omega,UInt8.ofNat_toNat],by omega⟩
theorem IM {d:Nat} (h:d≤9):(UInt8.ofNat (48+d)).toNat=48+d:=by
  rw [UInt8.toNat_ofNat'];omega
theorem LM {d:Nat} (h:d≤9):LL (UInt8.ofNat (48+d))=true:=by
  unfold LL;rw [IM h];simp;omega
theorem ofd_48 {d:Nat} (h:d≤9):UInt8.ofNat (48+d)=48↔d=0:=by
  rw [← UInt8.toNat_inj,IM h];show 48+d=48↔_;omega
theorem dec3 {n:Nat} (h:100≤n) (h2:n<1000):Lib.decDigits n=[UInt8.ofNat (48+n/100),UInt8.ofNat (48+n/10%10),UInt8.ofNat (48+n%10)]:=by
  rw [Lib.decDigits,dif_neg (by omega),dec2 (n:=n/10) (by omega) (by omega)];rw [show n/10/10=n/100 by omega];rfl
theorem dec_pos (n:Nat):1≤(Lib.decDigits n).length:=by
  rw [Lib.decDigits];split <;> simp
theorem dec_more {n:Nat} (h:10≤n):(Lib.decDigits n).length=(Lib.decDigits (n/10)).length+1:=by
  conv=>lhs;rw [Lib.decDigits,dif_neg (by omega)]
  simp
theorem dec_long {n:Nat} (h:(Lib.decDigits n).length≤3):n<1000:=by
  apply Classical.byContradiction;intro hn
  have h1:=dec_more (n:=n) (by omega);have h2:=dec_more (n:=n/10) (by omega);have h3:=dec_more (n:=n/10/10) (by omega);have:=dec_pos (n/10/10/10);omega
theorem num_nat (n:Nat):num (n:Int)=Lib.decDigits n:=by rw [num,Lib.itoa,if_neg (by omega)];rfl
theorem numV_1 {a:Nat} (ha:a≤9):HM [UInt8.ofNat (48+a)]=(a:Int):=by
  simp only [HM,List.foldl_cons,List.foldl_nil,IM ha];omega
theorem numV_2 {a b:Nat} (ha:a≤9) (hb:b≤9):HM [UInt8.ofNat (48+a),UInt8.ofNat (48+b)]=((10*a+b:Nat):Int):=by
  simp only [HM,List.foldl_cons,List.foldl_nil,IM ha,IM hb];omega
theorem numV_3 {a b c:Nat} (ha:a≤9) (hb:b≤9) (hc:c≤9):HM [UInt8.ofNat (48+a),UInt8.ofNat (48+b),UInt8.ofNat (48+c)]=((100*a+10*b+c:Nat):Int):=by
  simp only [HM,List.foldl_cons,List.foldl_nil,IM ha,IM hb,IM hc];omega
theorem numIs_1 {a:Nat} (ha:a≤9):GH [UInt8.ofNat (48+a)]=true:=by
  simp only [GH,List.length_cons,List.length_nil,List.all_cons,List.all_nil,LM ha];simp
theorem numIs_2 {a b:Nat} (h0:1≤a) (ha:a≤9) (hb:b≤9):GH [UInt8.ofNat (48+a),UInt8.ofNat (48+b)]=true:=by
  have:=mt (ofd_48 ha).1 (by omega);simp only [GH,List.length_cons,List.length_nil,List.getD_cons_zero,List.all_cons,List.all_nil,LM ha,LM hb,decide_eq_false this];simp
theorem numIs_3 {a b c:Nat} (h0:1≤a) (ha:a≤9) (hb:b≤9) (hc:c≤9):GH [UInt8.ofNat (48+a),UInt8.ofNat (48+b),UInt8.ofNat (48+c)]=true:=by
  have:=mt (ofd_48 ha).1 (by omega);simp only [GH,List.length_cons,List.length_nil,List.getD_cons_zero,List.all_cons,List.all_nil,LM ha,LM hb,LM hc,decide_eq_false this];simp
theorem num_form {n : Nat} (h : n < 1000) :
    (∃ a,a≤9∧n=a∧Lib.decDigits n=[UInt8.ofNat (48+a)])∨(∃ a b,1≤a∧a≤9∧b≤9∧n=10*a+b∧Lib.decDigits n=[UInt8.ofNat (48+a),UInt8.ofNat (48+b)])
     ∨∃ a b c,1≤a∧a≤9∧b≤9∧c≤9∧n=100*a+10*b+c∧Lib.decDigits n=[UInt8.ofNat (48+a),UInt8.ofNat (48+b),UInt8.ofNat (48+c)]:=by
  by_cases h1:n<10
  · exact .inl ⟨n,by omega,rfl,dec1 h1⟩
  · by_cases h2:n<100
    · exact .inr (.inl ⟨n/10,n%10,by omega,by omega,by omega,by omega,dec2 (by omega) h2⟩)
    · exact .inr (.inr ⟨n/100,n/10%10,n%10,by omega,by omega,by omega,by omega,by omega,dec3 (by omega) h⟩)
theorem num_law {n:Nat} (h:n<1000):GH (num (n:Int))=true∧HM (num (n:Int))=n:=by
  rw [num_nat];rcases num_form h with ⟨a,ha,e,e2⟩ | ⟨a,b,h0,ha,hb,e,e2⟩ | ⟨a,b,c,h0,ha,hb,hc,e,e2⟩ <;> rw [e2]
  · exact ⟨numIs_1 ha,by rw [numV_1 ha,e]⟩
  · exact ⟨numIs_2 h0 ha hb,by rw [numV_2 ha hb,e]⟩
  · exact ⟨numIs_3 h0 ha hb hc,by rw [numV_3 ha hb hc,e]⟩
theorem num_read {x:Int} (h:0≤x∧x<1000):GH (num x)=true∧HM (num x)=x:=by
  obtain ⟨n,rfl⟩:∃ n:Nat,x=n:=⟨x.toNat,by omega⟩;exact num_law (by omega)
theorem read_num {s:List UInt8} (h:GH s=true):num (HM s)=s:=by
  simp only [GH,Bool.and_eq_true,decide_eq_true_eq,Bool.not_eq_true',Bool.and_eq_false_iff,decide_eq_false_iff_not] at h;obtain ⟨⟨⟨h1,h2⟩,h3⟩,h4⟩:=h
  match s,h1,h2,h3,h4 with
  | [x],_,_,_,h4=>
    simp only [List.all_cons,List.all_nil,Bool.and_true] at h4;obtain ⟨a,ha,rfl,_⟩:=dig_of h4;rw [numV_1 ha,num_nat,dec1 (by omega)]
  | [x,y],_,_,h3,h4=>
    simp only [List.all_cons,List.all_nil,Bool.and_true,Bool.and_eq_true] at h4;obtain ⟨a,ha,rfl,_⟩:=dig_of h4.1;obtain ⟨b,hb,rfl,_⟩:=dig_of h4.2;have h0:a≠0:=fun e=>by
      rcases h3 with h3 | h3
      · exact h3 (by simp [(ofd_48 ha).2 e])
      · simp at h3
    rw [numV_2 ha hb,num_nat,dec2 (by omega) (by omega),show (10*a+b)/10=a by omega,show (10*a+b)%10=b by omega]
  | [x,y,z],_,_,h3,h4=>
    simp only [List.all_cons,List.all_nil,Bool.and_true,Bool.and_eq_true] at h4;obtain ⟨a,ha,rfl,_⟩:=dig_of h4.1;obtain ⟨b,hb,rfl,_⟩:=dig_of h4.2.1;obtain ⟨c,hc,rfl,_⟩:=dig_of h4.2.2;have h0:a≠0:=fun e=>by
      rcases h3 with h3 | h3
      · exact h3 (by simp [(ofd_48 ha).2 e])
      · simp at h3
    rw [numV_3 ha hb hc,num_nat,dec3 (by omega) (by omega),show (100*a+10*b+c)/100=a by omega,show (100*a+10*b+c)/10%10=b by omega,show (100*a+10*b+c)%10=c by omega]
  | _::_::_::_::_,_,h2,_,_=>simp at h2
def atoiV (s:List UInt8):Int:=match Lib.atoiAll s with
  | .ok v=>v
  | .range=>Lib.atoiSat s
  | _=>0
def atoiOk (s:List UInt8):Bool:=match Lib.atoiAll s with
  | .ok _=>true
  | _=>false
theorem parse_go:∀ {s:List UInt8} {a:Nat},s.all LL=true→a*10 ^ s.length+10 ^ s.length≤10000→Lib.parseUint10 a s=.ok (s.foldl (fun n c=>10*n+((c.toNat:Int)-48)) (a:Int)).toNat
  | [],a,_,_=>by simp [Lib.parseUint10]
  | c::s,a,hd,hb=>by
    rw [List.all_cons,Bool.and_eq_true] at hd;have hc:=hd.1;simp only [LL,Bool.and_eq_true,decide_eq_true_eq] at hc;have hp:1≤10 ^ s.length:=Nat.pos_of_ne_zero (by simp);rw [List.length_cons,Nat.pow_succ] at hb;have ha:a*10≤10000:=by
      have:a*10≤a*(10 ^ s.length*10):=Nat.mul_le_mul_left _ (by omega);omega
    rw [Lib.parseUint10,if_pos hc,if_neg (by omega),if_neg (by omega),List.foldl_cons]
    rw [parse_go hd.2 (by
      have h1:(a*10+(c.toNat-48))*10 ^ s.length≤(a*10+9)*10 ^ s.length:=Nat.mul_le_mul_right _ (by omega)
      have h2:(a*10+9)*10 ^ s.length+10 ^ s.length=a*(10 ^ s.length*10)+10 ^ s.length*10:=by
        rw [Nat.add_mul,Nat.mul_assoc,Nat.mul_comm 10 (10 ^ s.length)];omega
      omega)]
    rw [show ((a*10+(c.toNat-48):Nat):Int)=10*(a:Int)+((c.toNat:Int)-48) by omega]
theorem atoi_of {s:List UInt8} (h:GH s=true):Lib.atoiAll s=.ok (HM s):=by
  simp only [GH,Bool.and_eq_true,decide_eq_true_eq] at h;obtain ⟨⟨⟨h1,h2⟩,_⟩,h4⟩:=h;have hv:=RH h4 h2;cases s with
  | nil=>simp at h1
  | cons c r=>
    have hc:LL c=true:=by rw [List.all_cons,Bool.and_eq_true] at h4;exact h4.1
    simp only [LL,Bool.and_eq_true,decide_eq_true_eq] at hc;have hp:Lib.parseMag (c::r)=.ok (HM (c::r)).toNat:=by
      rw [Lib.parseMag,if_neg (by simp),parse_go h4 (by
        have:(c::r).length=1∨(c::r).length=2∨(c::r).length=3:=by omega
        rcases this with e | e | e <;> rw [e] <;> decide)]
      rfl
    unfold Lib.atoiAll;simp only [if_neg (show ¬ (c.toNat=43∨c.toNat=45) by omega),hp,if_neg (show ¬ (¬ c.toNat=45∧9223372036854775808≤(HM (c::r)).toNat) by omega),if_neg (show ¬ (c.toNat=45∧9223372036854775808<(HM (c::r)).toNat) by omega),if_neg (show ¬ c.toNat=45 by omega)]
    congr 1;omega
theorem atoi_num {s:List UInt8} (h:GH s=true):atoiOk s=true∧atoiV s=HM s:=by
  unfold atoiOk atoiV;rw [atoi_of h];exact ⟨rfl,rfl⟩
theorem num_is {s:List UInt8} (h1:atoiOk s=true) (h2:0≤atoiV s) (h3:s.length≤3) (h4:num (atoiV s)=s):GH s=true:=by
  obtain ⟨n,hn⟩:∃ n:Nat,atoiV s=n:=⟨(atoiV s).toNat,by omega⟩;rw [hn] at h4;have hl:n<1000:=dec_long (by rw [← num_nat,h4];exact h3);rw [← h4];exact (num_law hl).1
theorem num_not {s:List UInt8} (h:¬ (atoiOk s=true∧0≤atoiV s∧s.length≤3∧num (atoiV s)=s)):GH s=false:=by
  cases hn:GH s with
  | false=>rfl
  | true=>
    have ha:=atoi_num hn;have h4:=hn;simp only [GH,Bool.and_eq_true,decide_eq_true_eq] at h4;have hv:=RH h4.2 h4.1.1.2;exact absurd ⟨ha.1,by rw [ha.2];exact hv.1,h4.1.1.2,by rw [ha.2];exact read_num hn⟩ h
theorem idx1 (b:UInt8):∀ s:List UInt8,(Lib.index s [b]=-1∧b∉s)∨∃ p t,s=p++b::t∧b∉p∧Lib.index s [b]=(p.length:Int)
  | []=>.inl ⟨by simp [Lib.index],by simp⟩
  | c::s=>by
    by_cases h:c=b
    · subst h
      exact .inr ⟨[],s,rfl,by simp,by rw [Lib.index];simp [List.isPrefixOf]⟩
    · have hp:([b]:List UInt8).isPrefixOf (c::s)=false:=by simp [List.isPrefixOf,Ne.symm h]
      rcases idx1 b s with ⟨h1,h2⟩ | ⟨p,t,h1,h2,h3⟩
      · refine .inl ⟨by rw [Lib.index,hp,h1];simp,?_⟩
        simp only [List.mem_cons,not_or];exact ⟨Ne.symm h,h2⟩
      · refine .inr ⟨c::p,t,by rw [h1];rfl,?_,?_⟩
        · simp only [List.mem_cons,not_or];exact ⟨Ne.symm h,h2⟩
        · rw [Lib.index,hp,h3]
          have:((p.length:Int) == -1)=false:=by rw [beq_eq_false_iff_ne];omega
          rw [this];simp
theorem splitK_cut (b:UInt8):∀ (n:Nat) (s:List UInt8) (k:Nat),s.length≤n→s.count b≤k→Lib.splitK [b] 0 k s=cutL b s
  | n,s,0,_,hk=>by
    have:b∉s:=by rw [← List.count_eq_zero];omega
    rw [PB this];rfl
  | 0,s,k+1,hn,_=>by
    obtain rfl:=List.length_eq_zero_iff.1 (show s.length=0 by omega);unfold Lib.splitK;rw [if_pos (by simp [Lib.index])];rfl
  | n+1,s,k+1,hn,hk=>by
    unfold Lib.splitK;rcases idx1 b s with ⟨h1,h2⟩ | ⟨p,t,h1,h2,h3⟩
    · rw [if_pos (by rw [h1];rfl),PB h2]
    · rw [if_neg (by rw [h3];simp),h3]
      subst h1;rw [cutL_app _ h2,List.count_append,List.count_cons_self] at *;rw [List.length_append,List.length_cons] at hn;rw [show ((p.length:Int).toNat+0)=p.length by omega,show ((p.length:Int).toNat+[b].length)=p.length+1 by simp];rw [List.take_left,← splitK_cut b n t k (by omega) (by omega)]
      congr 2
      rw [List.drop_append,List.drop_of_length_le (by omega)];simp
theorem split_cut (b:UInt8) (s:List UInt8):(Lib.splitB (sB [b]) 0 (Lib.countB (sB s) (sB [b])) (sB s))=(cutL b s).map sB:=by
  have h:=Lib.splitB_data (sB [b]) 0 (Lib.countB (sB s) (sB [b])) (sB s);have hc:Lib.countB (sB s) (sB [b])=s.count b:=Lib.count_one b s;rw [show Lib.splitK (sB [b]).data.toList 0 (Lib.countB (sB s) (sB [b])) (sB s).data.toList=cutL b s from splitK_cut b s.length s _ (Nat.le_refl _) (by rw [hc];exact Nat.le_refl _)] at h;rw [← h,List.map_map]
  conv=>lhs;rw [← List.map_id (Lib.splitB _ _ _ _)]
  exact List.map_congr_left fun x _=>rfl
theorem split_len (b:UInt8) (s:List UInt8):Lib.countB (sB s) (sB [b])+1=(cutL b s).length:=by
  rw [cutL_len];exact congrArg (·+1) (Lib.count_one b s)
end Go.Sh
namespace Go.Proofs
open Go.Shelf
def Tryz.lays156_ren:Go.Shelf.Ren:=⟨fun | 156=>68 | 165=>104 | 166=>105 | 169=>106 | 240=>145 | 241=>146 | 276=>165 | 277=>166 | n=>n,fun | 31=>68 | 9=>9 | 3=>3 | 4=>4 | 0=>0 | 20=>20 | 72=>174 | 76=>176 | 70=>172 | 37=>137 | 75=>139 | 127=>219 | 164=>182 | 5=>5 | 80=>178 | n=>n,fun | n=>n⟩
theorem Tryz.lays156:Go.Proofs.Lays.n156 Tryz.prog Tryz.lays156_ren:={
  mixed:=by kernel_rfl
  f156:=Tryz.func68.trans (congrArg some (by kernel_rfl))
  f165:=Tryz.func104.trans (congrArg some (by kernel_rfl))
  f166:=Tryz.func105.trans (congrArg some (by kernel_rfl))
  f169:=Tryz.func106.trans (congrArg some (by kernel_rfl))
  f240:=Tryz.func145.trans (congrArg some (by kernel_rfl))
  f241:=Tryz.func146.trans (congrArg some (by kernel_rfl))
  f276:=Tryz.func165.trans (congrArg some (by kernel_rfl))
  f277:=Tryz.func166.trans (congrArg some (by kernel_rfl))
  t0:=Tryz.underlying0
  a0:=Tryz.isAgg0
  z0:=Tryz.sizeOf0
  v0:=Tryz.zeroValue0
  t3:=Tryz.underlying3
  a3:=Tryz.isAgg3
  z3:=Tryz.sizeOf3
  v3:=Tryz.zeroValue3
  t4:=Tryz.underlying4
  a4:=Tryz.isAgg4
  z4:=Tryz.sizeOf4
  v4:=Tryz.zeroValue4
  t9:=Tryz.underlying9
  a9:=Tryz.isAgg9
  z9:=Tryz.sizeOf9
  v9:=Tryz.zeroValue9
  t20:=Tryz.underlying20
  a20:=Tryz.isAgg20
  z20:=Tryz.sizeOf20
  v20:=Tryz.zeroValue20
  t31:=Tryz.underlying68
  a31:=Tryz.isAgg68
  z31:=Tryz.sizeOf68
  v31:=Tryz.zeroValue68
  t37:=Tryz.underlying137
  a37:=Tryz.isAgg137
  z37:=Tryz.sizeOf137
  v37:=Tryz.zeroValue137
  t70:=Tryz.underlying172
  a70:=Tryz.isAgg172
  z70:=Tryz.sizeOf172
  v70:=Tryz.zeroValue172
  t72:=Tryz.underlying174
  a72:=Tryz.isAgg174
  z72:=Tryz.sizeOf174
  v72:=Tryz.zeroValue174
  t75:=Tryz.underlying139
  a75:=Tryz.isAgg139
  z75:=Tryz.sizeOf139
  v75:=Tryz.zeroValue139
  t76:=Tryz.underlying176
  a76:=Tryz.isAgg176
  z76:=Tryz.sizeOf176
  v76:=Tryz.zeroValue176
  t127:=Tryz.underlying219
  a127:=Tryz.isAgg219
  z127:=Tryz.sizeOf219
  v127:=Tryz.zeroValue219
  t164:=Tryz.underlying182
  a164:=Tryz.isAgg182
  z164:=Tryz.sizeOf182
  v164:=Tryz.zeroValue182 }
theorem Tryz.Builder_Extra_156:Builder.Extra Tryz.prog Tryz.lays156_ren:={
  sizeBuilder:=by kernel_rfl
  liesBuilder:=by kernel_rfl
  t5:=Tryz.underlying5
  a5:=Tryz.isAgg5
  z5:=Tryz.sizeOf5
  v5:=Tryz.zeroValue5
  infoByte:=by kernel_rfl
  cellsByte:=by kernel_rfl
  sizeByte:=by kernel_rfl
  neB5:=by decide }
open Go.RowKit in
theorem Tryz.strings_Join_none (a : Option Addr) (c : Nat) (sep : ByteArray) (w : World) :
    Calls Tryz.prog 68 #[.slice a 0 c,.string sep] w fun e w'=>e=.returned (.string ⟨#[]⟩)∧w'=w:=Any.strings_Join_none Tryz.lays156 Tryz.Builder_Extra_156 a c sep w
open Go.RowKit in
theorem Tryz.strings_Join (bk o c : Nat) (xs : List ByteArray) (sep : ByteArray) (w : World) (hcells : ∀ (j : Nat) x, xs[j]? = some x → w.cell? ⟨bk, o + j, none⟩ = some (.string x)) (hbk : bk < w.heap.size) (hN : xs.length ≤ 140737488355328) (hcap : xs.length ≤ c) (hlen : (Lib.join (xs.map (·.data.toList)) sep.data.toList).length ≤ 140737488355328) :
    Calls Tryz.prog 68 #[.slice (some ⟨bk,o,none⟩) xs.length c,.string sep] w fun e w'=>e=.returned (.string ⟨(Lib.join (xs.map (·.data.toList)) sep.data.toList).toArray⟩)∧Below w.heap.size w w':=Any.strings_Join Tryz.lays156 Tryz.Builder_Extra_156 bk o c xs sep w hcells hbk hN hcap hlen
def Tryz.laysM171_ren:Go.Shelf.Ren:=⟨fun | 171=>78 | 243=>112 | 246=>148 | 283=>167 | 284=>168 | 285=>169 | 286=>170 | 129=>144 | 317=>178 | 318=>179 | 319=>180 | 320=>181 | 337=>191 | 338=>192 | n=>n,fun | 3=>3 | 9=>9 | 2=>2 | 4=>4 | 171=>246 | 0=>0 | 53=>130 | 37=>137 | 5=>5 | 173=>248 | 212=>257 | 51=>217 | 20=>20 | 213=>258 | 46=>133 | 232=>272 | 233=>273 | n=>n,fun | 17=>2 | 18=>3 | 19=>4 | n=>n⟩
theorem Tryz.laysM171:Go.Proofs.LaysM.n171 Tryz.prog Tryz.laysM171_ren:={
  mixed:=by kernel_rfl
  f129:=Tryz.func144.trans (congrArg some (by kernel_rfl))
  f171:=Tryz.func78.trans (congrArg some (by kernel_rfl))
  f243:=Tryz.func112.trans (congrArg some (by kernel_rfl))
  f246:=Tryz.func148.trans (congrArg some (by kernel_rfl))
  f283:=Tryz.func167.trans (congrArg some (by kernel_rfl))
  f284:=Tryz.func168.trans (congrArg some (by kernel_rfl))
  f285:=Tryz.func169.trans (congrArg some (by kernel_rfl))
  f286:=Tryz.func170.trans (congrArg some (by kernel_rfl))
  f317:=Tryz.func178.trans (congrArg some (by kernel_rfl))
  f318:=Tryz.func179.trans (congrArg some (by kernel_rfl))
  f319:=Tryz.func180.trans (congrArg some (by kernel_rfl))
  f320:=Tryz.func181.trans (congrArg some (by kernel_rfl))
  f337:=Tryz.func191.trans (congrArg some (by kernel_rfl))
  f338:=Tryz.func192.trans (congrArg some (by kernel_rfl))
  t0:=Tryz.underlying0
  a0:=Tryz.isAgg0
  z0:=Tryz.sizeOf0
  v0:=Tryz.zeroValue0
  t2:=Tryz.underlying2
  a2:=Tryz.isAgg2
  z2:=Tryz.sizeOf2
  v2:=Tryz.zeroValue2
  t3:=Tryz.underlying3
  a3:=Tryz.isAgg3
  z3:=Tryz.sizeOf3
  v3:=Tryz.zeroValue3
  t4:=Tryz.underlying4
  a4:=Tryz.isAgg4
  z4:=Tryz.sizeOf4
  v4:=Tryz.zeroValue4
  t5:=Tryz.underlying5
  a5:=Tryz.isAgg5
  z5:=Tryz.sizeOf5
  v5:=Tryz.zeroValue5
  t9:=Tryz.underlying9
  a9:=Tryz.isAgg9
  z9:=Tryz.sizeOf9
  v9:=Tryz.zeroValue9
  t20:=Tryz.underlying20
  a20:=Tryz.isAgg20
  z20:=Tryz.sizeOf20
  v20:=Tryz.zeroValue20
  t37:=Tryz.underlying137
  a37:=Tryz.isAgg137
  z37:=Tryz.sizeOf137
  v37:=Tryz.zeroValue137
  t46:=Tryz.underlying133
  a46:=Tryz.isAgg133
  z46:=Tryz.sizeOf133
  v46:=Tryz.zeroValue133
  t51:=Tryz.underlying217
  a51:=Tryz.isAgg217
  z51:=Tryz.sizeOf217
  v51:=Tryz.zeroValue217
  t53:=Tryz.underlying130
  a53:=Tryz.isAgg130
  z53:=Tryz.sizeOf130
  v53:=Tryz.zeroValue130
  t171:=Tryz.underlying246
  a171:=Tryz.isAgg246
  z171:=Tryz.sizeOf246
  v171:=Tryz.zeroValue246
  t173:=Tryz.underlying248
  a173:=Tryz.isAgg248
  z173:=Tryz.sizeOf248
  v173:=Tryz.zeroValue248
  t212:=Tryz.underlying257
  a212:=Tryz.isAgg257
  z212:=Tryz.sizeOf257
  v212:=Tryz.zeroValue257
  t213:=Tryz.underlying258
  a213:=Tryz.isAgg258
  z213:=Tryz.sizeOf258
  t232:=Tryz.underlying272
  a232:=Tryz.isAgg272
  z232:=Tryz.sizeOf272
  v232:=Tryz.zeroValue272
  t233:=Tryz.underlying273
  a233:=Tryz.isAgg273
  z233:=Tryz.sizeOf273
  v233:=Tryz.zeroValue273
  g17:=by kernel_rfl
  g18:=by kernel_rfl
  g19:=by kernel_rfl
  i0:=by kernel_rfl
  i2:=by kernel_rfl
  i3:=by kernel_rfl
  i4:=by kernel_rfl
  i5:=by kernel_rfl
  i9:=by kernel_rfl
  i20:=by kernel_rfl
  i37:=by kernel_rfl
  i46:=by kernel_rfl
  i51:=by kernel_rfl
  i53:=by kernel_rfl
  i171:=by kernel_rfl
  i173:=by kernel_rfl
  i212:=by kernel_rfl
  i232:=by kernel_rfl
  i233:=by kernel_rfl
  m17:=by kernel_rfl
  m18:=by kernel_rfl
  m19:=by kernel_rfl }
open Go.RowKit Go.Sort Go.Lib in
theorem Tryz.strconv_Itoa (n : Int) (h0 : -9223372036854775808 ≤ n) (h1 : n ≤ 9223372036854775807) (w : World) (htab : Lib.TabIs Tryz.prog w "internal/strconv.uint64pow10" .u64 Lib.pow10Tab) :
    Calls Tryz.prog 78 #[.int .i64 n] w fun e w'=>e=.returned (.string ⟨(Lib.itoa n).toArray⟩)∧∃ k os,w'=grow (w.drewN k) os:=Any.strconv_Itoa Tryz.laysM171 n h0 h1 w htab
open Go.RowKit Go.Sort Go.Lib in
def Tryz.laysC172_ren:Go.Shelf.Ren:=⟨fun | 172=>174 | 244=>186 | 245=>187 | 247=>198 | 279=>199 | 280=>200 | 281=>201 | 282=>202 | 287=>206 | 316=>207 | 171=>78 | 205=>208 | 321=>210 | 322=>211 | 243=>112 | 246=>148 | 283=>167 | 284=>168 | 285=>169 | 286=>170 | 129=>144 | 317=>178 | 318=>179 | 319=>180 | 320=>181 | 337=>191 | 338=>192 | n=>n,fun | 9=>9 | 3=>3 | 75=>139 | 76=>176 | 4=>4 | 5=>5 | 167=>266 | 37=>137 | 0=>0 | 85=>267 | 2=>2 | 168=>269 | 53=>130 | 175=>280 | 46=>133 | 210=>284 | 127=>219 | 145=>290 | 143=>288 | 21=>21 | 171=>246 | 173=>248 | 212=>257 | 51=>217 | 20=>20 | 213=>258 | 232=>272 | 233=>273 | 80=>178 | n=>n,fun | 15=>7 | 16=>8 | 17=>2 | 18=>3 | 19=>4 | n=>n⟩
theorem Tryz.laysC172:Go.Proofs.LaysC.n172 Tryz.prog Tryz.laysC172_ren:={
  mixed:=by kernel_rfl
  f129:=Tryz.func144.trans (congrArg some (by kernel_rfl))
  f171:=Tryz.func78.trans (congrArg some (by kernel_rfl))
  f172:=Tryz.func174.trans (congrArg some (by kernel_rfl))
  f205:=Tryz.func208.trans (congrArg some (by kernel_rfl))
  f243:=Tryz.func112.trans (congrArg some (by kernel_rfl))
  f244:=Tryz.func186.trans (congrArg some (by kernel_rfl))
  f245:=Tryz.func187.trans (congrArg some (by kernel_rfl))
  f246:=Tryz.func148.trans (congrArg some (by kernel_rfl))
  f247:=Tryz.func198.trans (congrArg some (by kernel_rfl))
  f279:=Tryz.func199.trans (congrArg some (by kernel_rfl))
  f280:=Tryz.func200.trans (congrArg some (by kernel_rfl))
  f281:=Tryz.func201.trans (congrArg some (by kernel_rfl))
  f282:=Tryz.func202.trans (congrArg some (by kernel_rfl))
  f283:=Tryz.func167.trans (congrArg some (by kernel_rfl))
  f284:=Tryz.func168.trans (congrArg some (by kernel_rfl))
  f285:=Tryz.func169.trans (congrArg some (by kernel_rfl))
  f286:=Tryz.func170.trans (congrArg some (by kernel_rfl))
  f287:=Tryz.func206.trans (congrArg some (by kernel_rfl))
  f316:=Tryz.func207.trans (congrArg some (by kernel_rfl))
  f317:=Tryz.func178.trans (congrArg some (by kernel_rfl))
  f318:=Tryz.func179.trans (congrArg some (by kernel_rfl))
  f319:=Tryz.func180.trans (congrArg some (by kernel_rfl))
  f320:=Tryz.func181.trans (congrArg some (by kernel_rfl))
  f321:=Tryz.func210.trans (congrArg some (by kernel_rfl))
  f322:=Tryz.func211.trans (congrArg some (by kernel_rfl))
  f337:=Tryz.func191.trans (congrArg some (by kernel_rfl))
  f338:=Tryz.func192.trans (congrArg some (by kernel_rfl))
  t0:=Tryz.underlying0
  a0:=Tryz.isAgg0
  z0:=Tryz.sizeOf0
  v0:=Tryz.zeroValue0
  t2:=Tryz.underlying2
  a2:=Tryz.isAgg2
  z2:=Tryz.sizeOf2
  v2:=Tryz.zeroValue2
  t3:=Tryz.underlying3
  a3:=Tryz.isAgg3
  z3:=Tryz.sizeOf3
  v3:=Tryz.zeroValue3
  t4:=Tryz.underlying4
  a4:=Tryz.isAgg4
  z4:=Tryz.sizeOf4
  v4:=Tryz.zeroValue4
  t5:=Tryz.underlying5
  a5:=Tryz.isAgg5
  z5:=Tryz.sizeOf5
  v5:=Tryz.zeroValue5
  t9:=Tryz.underlying9
  a9:=Tryz.isAgg9
  z9:=Tryz.sizeOf9
  v9:=Tryz.zeroValue9
  t20:=Tryz.underlying20
  a20:=Tryz.isAgg20
  z20:=Tryz.sizeOf20
  v20:=Tryz.zeroValue20
  t21:=Tryz.underlying21
  a21:=Tryz.isAgg21
  z21:=Tryz.sizeOf21
  v21:=Tryz.zeroValue21
  t37:=Tryz.underlying137
  a37:=Tryz.isAgg137
  z37:=Tryz.sizeOf137
  v37:=Tryz.zeroValue137
  t46:=Tryz.underlying133
  a46:=Tryz.isAgg133
  z46:=Tryz.sizeOf133
  v46:=Tryz.zeroValue133
  t51:=Tryz.underlying217
  a51:=Tryz.isAgg217
  z51:=Tryz.sizeOf217
  v51:=Tryz.zeroValue217
  t53:=Tryz.underlying130
  a53:=Tryz.isAgg130
  z53:=Tryz.sizeOf130
  v53:=Tryz.zeroValue130
  t75:=Tryz.underlying139
  a75:=Tryz.isAgg139
  z75:=Tryz.sizeOf139
  v75:=Tryz.zeroValue139
  t76:=Tryz.underlying176
  a76:=Tryz.isAgg176
  z76:=Tryz.sizeOf176
  v76:=Tryz.zeroValue176
  t85:=Tryz.underlying267
  a85:=Tryz.isAgg267
  z85:=Tryz.sizeOf267
  v85:=Tryz.zeroValue267
  t127:=Tryz.underlying219
  a127:=Tryz.isAgg219
  z127:=Tryz.sizeOf219
  v127:=Tryz.zeroValue219
  t143:=Tryz.underlying288
  a143:=Tryz.isAgg288
  z143:=Tryz.sizeOf288
  v143:=Tryz.zeroValue288
  t145:=Tryz.underlying290
  a145:=Tryz.isAgg290
  z145:=Tryz.sizeOf290
  v145:=Tryz.zeroValue290
  t167:=Tryz.underlying266
  a167:=Tryz.isAgg266
  z167:=Tryz.sizeOf266
  v167:=Tryz.zeroValue266
  t168:=Tryz.underlying269
  a168:=Tryz.isAgg269
  z168:=Tryz.sizeOf269
  v168:=Tryz.zeroValue269
  t171:=Tryz.underlying246
  a171:=Tryz.isAgg246
  z171:=Tryz.sizeOf246
  v171:=Tryz.zeroValue246
  t173:=Tryz.underlying248
  a173:=Tryz.isAgg248
  z173:=Tryz.sizeOf248
  v173:=Tryz.zeroValue248
  t175:=Tryz.underlying280
  a175:=Tryz.isAgg280
  z175:=Tryz.sizeOf280
  v175:=Tryz.zeroValue280
  t210:=Tryz.underlying284
  a210:=Tryz.isAgg284
  z210:=Tryz.sizeOf284
  v210:=Tryz.zeroValue284
  t212:=Tryz.underlying257
  a212:=Tryz.isAgg257
  z212:=Tryz.sizeOf257
  v212:=Tryz.zeroValue257
  t213:=Tryz.underlying258
  a213:=Tryz.isAgg258
  z213:=Tryz.sizeOf258
  t232:=Tryz.underlying272
  a232:=Tryz.isAgg272
  z232:=Tryz.sizeOf272
  v232:=Tryz.zeroValue272
  t233:=Tryz.underlying273
  a233:=Tryz.isAgg273
  z233:=Tryz.sizeOf273
  v233:=Tryz.zeroValue273
  g15:=by kernel_rfl
  g16:=by kernel_rfl
  g17:=by kernel_rfl
  g18:=by kernel_rfl
  g19:=by kernel_rfl
  t80:=Tryz.underlying178
  a80:=Tryz.isAgg178
  z80:=Tryz.sizeOf178
  v80:=Tryz.zeroValue178
  i0:=by kernel_rfl
  i2:=by kernel_rfl
  i3:=by kernel_rfl
  i4:=by kernel_rfl
  i5:=by kernel_rfl
  i9:=by kernel_rfl
  i20:=by kernel_rfl
  i21:=by kernel_rfl
  i37:=by kernel_rfl
  i46:=by kernel_rfl
  i51:=by kernel_rfl
  i53:=by kernel_rfl
  i75:=by kernel_rfl
  i76:=by kernel_rfl
  i80:=by kernel_rfl
  i85:=by kernel_rfl
  i127:=by kernel_rfl
  i143:=by kernel_rfl
  i145:=by kernel_rfl
  i167:=by kernel_rfl
  i168:=by kernel_rfl
  i171:=by kernel_rfl
  i173:=by kernel_rfl
  i175:=by kernel_rfl
  i210:=by kernel_rfl
  i212:=by kernel_rfl
  i232:=by kernel_rfl
  i233:=by kernel_rfl
  m15:=by kernel_rfl
  m16:=by kernel_rfl
  m17:=by kernel_rfl
  m18:=by kernel_rfl
  m19:=by kernel_rfl
  c0:=by kernel_rfl
  c2:=by kernel_rfl
  c3:=by kernel_rfl
  c4:=by kernel_rfl
  c5:=by kernel_rfl
  c9:=by kernel_rfl
  c20:=by kernel_rfl
  c21:=by kernel_rfl
  c37:=by kernel_rfl
  c46:=by kernel_rfl
  c51:=by kernel_rfl
  c53:=by kernel_rfl
  c75:=by kernel_rfl
  c76:=by kernel_rfl
  c80:=by kernel_rfl
  c85:=by kernel_rfl
  c127:=by kernel_rfl
  c143:=by kernel_rfl
  c145:=by kernel_rfl
  c167:=by kernel_rfl
  c168:=by kernel_rfl
  c171:=by kernel_rfl
  c173:=by kernel_rfl
  c175:=by kernel_rfl
  c210:=by kernel_rfl
  c212:=by kernel_rfl
  c213:=by kernel_rfl
  c232:=by kernel_rfl
  c233:=by kernel_rfl }
open Go.RowKit in
theorem Tryz.strconv_Atoi_ok (s : ByteArray) (hmax : s.size ≤ 9223372036854775806) (v : Int) (h : Lib.atoiAll s.data.toList = .ok v) (w : World) :
    Calls Tryz.prog 174 #[.string s] w fun e w'=>e=.returned (.tuple #[.int .i64 v,.nilIface])∧(w'=w∨∃ t,w'=Lib.bytesWorld w 5 t):=Any.strconv_Atoi_ok Tryz.laysC172 s hmax v h w
open Go.RowKit in
theorem Tryz.strconv_Atoi_syntax (s : ByteArray) (hlim : s.size ≤ 281474976710656) (h : Lib.atoiAll s.data.toList = Lib.atoiAll []) (ev : Value) (w : World) (hv : w.cell? ⟨7, 0, none⟩ = some ev) (hev : ev = .nilIface ∨ ∃ te pe, ev = .iface te pe) :
    Calls Tryz.prog 174 #[.string s] w fun e w'=>∃ N,e=.returned (.tuple #[.int .i64 (0),.iface 269 (.pointer (some ⟨N,0,none⟩))])∧w.heap.size≤N∧w'.heap[N]?=some (.cells #[.string ⟨#[65,116,111,105]⟩,.string s,ev] 284 (0,0))∧Below w.heap.size w w':=Any.strconv_Atoi_syntax Tryz.laysC172 s hlim h ev w hv hev
open Go.RowKit in
theorem Tryz.strconv_Atoi_range (s : ByteArray) (hlim : s.size ≤ 281474976710656) (h : Lib.atoiAll s.data.toList = .range) (ev : Value) (w : World) (hv : w.cell? ⟨8, 0, none⟩ = some ev) (hev : ev = .nilIface ∨ ∃ te pe, ev = .iface te pe) :
    Calls Tryz.prog 174 #[.string s] w fun e w'=>∃ N,e=.returned (.tuple #[.int .i64 (Lib.atoiSat s.data.toList),.iface 269 (.pointer (some ⟨N,0,none⟩))])∧w.heap.size≤N∧w'.heap[N]?=some (.cells #[.string ⟨#[65,116,111,105]⟩,.string s,ev] 284 (0,0))∧Below w.heap.size w w':=Any.strconv_Atoi_range Tryz.laysC172 s hlim h ev w hv hev
def Tryz.lays146_ren:Go.Shelf.Ren:=⟨fun | 146=>113 | 221=>149 | 268=>171 | 138=>172 | 143=>173 | 195=>182 | 197=>183 | 218=>184 | 219=>185 | 260=>193 | 217=>194 | 225=>195 | 224=>196 | 267=>197 | 266=>204 | 314=>205 | n=>n,fun | 9=>9 | 31=>68 | 3=>3 | 4=>4 | 0=>0 | 105=>260 | 21=>21 | 5=>5 | 46=>133 | 119=>274 | 139=>277 | 138=>276 | 146=>278 | 51=>217 | n=>n,fun | 1=>1 | 3=>5 | 4=>6 | n=>n⟩
theorem Tryz.lays146:Go.Proofs.Lays.n146 Tryz.prog Tryz.lays146_ren:={
  mixed:=by kernel_rfl
  f138:=Tryz.func172.trans (congrArg some (by kernel_rfl))
  f143:=Tryz.func173.trans (congrArg some (by kernel_rfl))
  f146:=Tryz.func113.trans (congrArg some (by kernel_rfl))
  f195:=Tryz.func182.trans (congrArg some (by kernel_rfl))
  f197:=Tryz.func183.trans (congrArg some (by kernel_rfl))
  f217:=Tryz.func194.trans (congrArg some (by kernel_rfl))
  f218:=Tryz.func184.trans (congrArg some (by kernel_rfl))
  f219:=Tryz.func185.trans (congrArg some (by kernel_rfl))
  f221:=Tryz.func149.trans (congrArg some (by kernel_rfl))
  f224:=Tryz.func196.trans (congrArg some (by kernel_rfl))
  f225:=Tryz.func195.trans (congrArg some (by kernel_rfl))
  f260:=Tryz.func193.trans (congrArg some (by kernel_rfl))
  f266:=Tryz.func204.trans (congrArg some (by kernel_rfl))
  f267:=Tryz.func197.trans (congrArg some (by kernel_rfl))
  f268:=Tryz.func171.trans (congrArg some (by kernel_rfl))
  f314:=Tryz.func205.trans (congrArg some (by kernel_rfl))
  t0:=Tryz.underlying0
  a0:=Tryz.isAgg0
  z0:=Tryz.sizeOf0
  v0:=Tryz.zeroValue0
  t3:=Tryz.underlying3
  a3:=Tryz.isAgg3
  z3:=Tryz.sizeOf3
  v3:=Tryz.zeroValue3
  t4:=Tryz.underlying4
  a4:=Tryz.isAgg4
  z4:=Tryz.sizeOf4
  v4:=Tryz.zeroValue4
  t5:=Tryz.underlying5
  a5:=Tryz.isAgg5
  z5:=Tryz.sizeOf5
  v5:=Tryz.zeroValue5
  t9:=Tryz.underlying9
  a9:=Tryz.isAgg9
  z9:=Tryz.sizeOf9
  v9:=Tryz.zeroValue9
  t21:=Tryz.underlying21
  a21:=Tryz.isAgg21
  z21:=Tryz.sizeOf21
  v21:=Tryz.zeroValue21
  t31:=Tryz.underlying68
  a31:=Tryz.isAgg68
  z31:=Tryz.sizeOf68
  v31:=Tryz.zeroValue68
  t46:=Tryz.underlying133
  a46:=Tryz.isAgg133
  z46:=Tryz.sizeOf133
  v46:=Tryz.zeroValue133
  t51:=Tryz.underlying217
  a51:=Tryz.isAgg217
  z51:=Tryz.sizeOf217
  v51:=Tryz.zeroValue217
  t105:=Tryz.underlying260
  a105:=Tryz.isAgg260
  z105:=Tryz.sizeOf260
  v105:=Tryz.zeroValue260
  t119:=Tryz.underlying274
  a119:=Tryz.isAgg274
  z119:=Tryz.sizeOf274
  t138:=Tryz.underlying276
  a138:=Tryz.isAgg276
  z138:=Tryz.sizeOf276
  v138:=Tryz.zeroValue276
  t139:=Tryz.underlying277
  a139:=Tryz.isAgg277
  z139:=Tryz.sizeOf277
  v139:=Tryz.zeroValue277
  t146:=Tryz.underlying278
  a146:=Tryz.isAgg278
  z146:=Tryz.sizeOf278
  v146:=Tryz.zeroValue278
  g1:=by kernel_rfl
  g3:=by kernel_rfl
  g4:=by kernel_rfl }
open Go.RowKit Go.Lib in
theorem Tryz.strings_Split (s sep : ByteArray) (m : Int) (w : World) (hs : s.size < 4294967281) (hm : w.cell? ⟨1, 0, none⟩ = some (.int .i64 m)) (h1 : 1 ≤ sep.size) :
    Calls Tryz.prog 113 #[.string s,.string sep] w fun e w'=>
      e=.returned (.slice (some ⟨w.heap.size,0,none⟩) (Lib.countB s sep+1) (Lib.countB s sep+1))∧w'=w.alloc (.cells ((Lib.splitB sep 0 (Lib.countB s sep) s).map Value.string).toArray 9):=Any.strings_Split Tryz.lays146 (by kernel_rfl) s sep m w hs hm h1
end Go.Proofs
namespace Go.Sl
open Go Go.RowKit
def Tab10 (I:Imm):Prop:=∀ F w,St I F w→Lib.TabIs Go.Proofs.Tryz.prog w "internal/strconv.uint64pow10" .u64 Lib.pow10Tab
def HasInt (I:Imm) (g:Nat):Prop:=∃ m,ICell I ⟨g,0,none⟩ (.int .i64 m)
def HasErr (I:Imm) (g:Nat):Prop:=∃ t p,ICell I ⟨g,0,none⟩ (.iface t p)
structure TextG (I:Imm):Prop where
  tab:Tab10 I
  len:HasInt I 1
  syn:HasErr I 7
  rng:HasErr I 8
theorem Tab10.mono {I J:Imm} (h:Tab10 I) (le:I.le J):Tab10 J:=fun F w st=>h [] w ⟨st.os.trans le.os,st.tape.trans le.tape,st.output.trans le.output,fun b o hb=>st.imm b o (le.blk b o hb),fun b o hb=>(by cases hb),List.nodup_nil,fun b o hb=>(by cases hb)⟩
theorem HasInt.mono {I J:Imm} {g:Nat} (h:HasInt I g) (le:I.le J):HasInt J g:=h.imp fun _ h=>h.mono le
theorem HasErr.mono {I J:Imm} {g:Nat} (h:HasErr I g) (le:I.le J):HasErr J g:=h.imp fun _ h=>h.imp fun _ h=>h.mono le
theorem TextG.mono {I J:Imm} (h:TextG I) (le:I.le J):TextG J:=⟨h.tab.mono le,h.len.mono le,h.syn.mono le,h.rng.mono le⟩
theorem LX (I:Imm) (n:Int) (hG:TextG I) (h:0≤n∧n≤9223372036854775807):CtV Go.Proofs.Tryz.prog 78 #[.int .i64 n] I (sV (Lib.itoa n)):=by
  refine ct_below fun F w st=>?_
  refine (Go.Proofs.Tryz.strconv_Itoa n (by omega) h.2 w (hG.tab F w st)).mono ?_
  rintro e w' ⟨rfl,k,os,rfl⟩
  refine ⟨rfl,rfl,rfl,rfl,?_,fun j hj=>?_⟩
  · show w.heap.size≤(w.heap++os).size
    rw [Array.size_append];omega
  · show (w.heap++os)[j]?=w.heap[j]?
    exact Array.getElem?_append_left hj
theorem Join_ct (I:Imm) (v:Value) (xs:List (List UInt8)) (sep:List UInt8) (hv:MS I v xs) (hl:(Lib.join xs sep).length≤140737488355328):CtV Go.Proofs.Tryz.prog 68 #[v,sV sep] I (sV (Lib.join xs sep)):=by
  refine ct_below fun F w st=>?_
  obtain ⟨a,c,b,o,rfl,h1,h2,h3⟩:=hv
  by_cases h0:xs.length=0
  · obtain rfl:=List.length_eq_zero_iff.1 h0
    refine (Go.Proofs.Tryz.strings_Join_none a c (sB sep) w).mono ?_
    rintro e w' ⟨rfl,rfl⟩
    exact ⟨rfl,Below.refl _ _⟩
  · obtain rfl:=h3.addr (by omega)
    have hm:(xs.map sB).map (fun x=>x.data.toList)=xs:=by rw [List.map_map];exact List.map_id'' (fun x=>rfl) xs
    have hs:=Go.Proofs.Tryz.strings_Join b o c (xs.map sB) (sB sep) w (fun j x hj=>by
      rw [List.getElem?_map] at hj
      obtain ⟨z,hz,rfl⟩:=Option.map_eq_some_iff.1 hj
      obtain ⟨hlt,rfl⟩:=List.getElem?_eq_some_iff.1 hz
      have hc:=(DF h3 (M:=F) j hlt).cell st
      rw [Nat.mul_one] at hc
      rw [hc,List.getD_eq_getElem?_getD,List.getElem?_eq_getElem hlt]
      rfl) (by
      obtain ⟨_,cs,T,fz,hb,_⟩:=h3.get 0 (by omega) 0 (by decide)
      exact (Array.getElem?_eq_some_iff.1 (st.imm _ _ hb)).1) (by rw [List.length_map];exact h2) (by rw [List.length_map];exact h1) (by rw [hm];exact hl)
    rw [hm,List.length_map] at hs;exact hs
theorem Split_ct (I:Imm) (s:List UInt8) (b:UInt8) (hG:TextG I) (hs:s.length≤1000000):Ct Go.Proofs.Tryz.prog 113 #[sV s,sV [b]] I [] (fun v I' M'=>∃ u:Value,v=u∧M'=[]∧MS I' u (Sh.cutL b s)):=fun F w st=>by
  obtain ⟨m,hm⟩:=hG.len;refine (Go.Proofs.Tryz.strings_Split (sB s) (sB [b]) m w (by rw [KY];omega) ((hm.sees (M:=F)).cell st) (by rw [KY];exact Nat.le_refl _)).mono ?_
  rintro e w' ⟨rfl,rfl⟩
  rw [Sh.split_cut,Sh.split_len];have hst:=st.new (.cells ((List.map sB (Sh.cutL b s)).map Value.string).toArray 9)
  have hown:Own 9 1 DW (.slice (some ⟨w.heap.size,0,none⟩) (Sh.cutL b s).length (Sh.cutL b s).length) (Sh.cutL b s) [(w.heap.size,Obj.cells ((List.map sB (Sh.cutL b s)).map Value.string).toArray 9 (0,0))]:=
    Own.lit (by
      congr 1
      rw [List.map_map]
      simp only [CS]
      rw [← List.flatMap_singleton' ((Sh.cutL b s).map _)]
      simp [List.flatMap_map,DW]
      ) rfl
  obtain ⟨J,hle,his,hJ⟩:=Own.freeze ([]:List UInt8) hown (by have:=Sh.cutL_len_le (b:=b) (s:=s);omega) hst;exact ⟨_,J,[],rfl,hle,⟨_,rfl,rfl,his⟩,hJ⟩
theorem atoiV_le (s:List UInt8):Sh.atoiV s≤9223372036854775807:=by
  unfold Sh.atoiV
  split
  · rename_i v h;exact (Lib.atoiAll_bounds h).2
  · exact (Lib.atoiSat_bounds s).2
  · decide
def errQ (ok:Bool) (n:Nat):Value:=if ok=true then .nilIface else .iface 269 (.pointer (some ⟨n,0,none⟩))
theorem isNI_errQ (ok:Bool) (n:Nat):isNI (errQ ok n)=some ok:=by cases ok <;> rfl
theorem st_below {I:Imm} {F:Seg} {w w':World} (st:St I F w) (hb:Below w.heap.size w w'):St I F w':=by
  have up:∀ b o,w.heap[b]?=some o→w'.heap[b]?=some o:=fun b o hq=>by
    rw [hb.block b (Array.getElem?_eq_some_iff.1 hq).1];exact hq
  exact ⟨hb.os.trans st.os,hb.tape.trans st.tape,hb.output.trans st.output,fun b o hq=>up b o (st.imm b o hq),fun b o hq=>up b o (st.mem b o hq),st.nodup,st.disj⟩
theorem Atoi_ct (I:Imm) (s:List UInt8) (hG:TextG I) (hs:s.length≤1000000):Ct Go.Proofs.Tryz.prog 174 #[sV s] I [] (fun v I' M'=>∃ N:Nat,v=.tuple #[.int .i64 (Sh.atoiV s),errQ (Sh.atoiOk s) N]∧M'=[]):=fun F w st=>by
  obtain ⟨t1,p1,h1⟩:=hG.syn;obtain ⟨t2,p2,h2⟩:=hG.rng;cases ha:Lib.atoiAll s with
  | ok v=>
    refine (Go.Proofs.Tryz.strconv_Atoi_ok (sB s) (by rw [KY];omega) v ha w).mono ?_
    rintro e w' ⟨rfl,hw⟩
    have hb:Below w.heap.size w w':=by
      rcases hw with rfl | ⟨t,rfl⟩
      · exact Below.refl _ _
      · exact Lib.bytesWorld_below _ _ _
    exact ⟨_,I,[],rfl,Imm.le.refl I,⟨0,by unfold Sh.atoiV Sh.atoiOk;rw [ha];rfl,rfl⟩,st_below st hb⟩
  | range=>
    refine (Go.Proofs.Tryz.strconv_Atoi_range (sB s) (by rw [KY];omega) ha _ w ((h2.sees (M:=F)).cell st) (.inr ⟨_,_,rfl⟩)).mono ?_
    rintro e w' ⟨N,rfl,_,_,hb⟩
    exact ⟨_,I,[],rfl,Imm.le.refl I,⟨N,by unfold Sh.atoiV Sh.atoiOk;rw [ha];rfl,rfl⟩,st_below st hb⟩
  | _=>
    refine (Go.Proofs.Tryz.strconv_Atoi_syntax (sB s) (by rw [KY];omega) ha _ w ((h1.sees (M:=F)).cell st) (.inr ⟨_,_,rfl⟩)).mono ?_
    rintro e w' ⟨N,rfl,_,_,hb⟩
    exact ⟨_,I,[],rfl,Imm.le.refl I,⟨N,by unfold Sh.atoiV Sh.atoiOk;rw [ha];rfl,rfl⟩,st_below st hb⟩
end Go.Sl
namespace Go.Sh
open Go Go.Sl
section
variable {α:Type} {c:α→α→Int} {l zs:List α} {i j m:Nat} {d:α}
def InsI (c:α→α→Int) (l zs:List α) (i:Nat):Prop:=zs=AH c (l.take i)++l.drop i
def InsAt (c:α→α→Int) (d:α) (l zs:List α) (i j:Nat):Prop:=
  j≤i∧i<l.length∧zs=(AH c (l.take i)).take j++l.getD i d::((AH c (l.take i)).drop j++l.drop (i+1))∧∀ z∈(AH c (l.take i)).drop j,c (l.getD i d) z<0
theorem FC (h:i≤l.length):(AH c (l.take i)).length=i:=by rw [(HD _).length_eq,List.length_take];omega
theorem InsI.start:InsI c l l 1:=by
  unfold InsI;cases l with
  | nil=>rfl
  | cons x r=>rfl
theorem InsI.len (h:InsI c l zs i):zs.length=l.length:=by
  rw [h,List.length_append,(HD _).length_eq,List.length_take,List.length_drop];omega
theorem InsI.into (h:InsI c l zs i) (hi:i<l.length):InsAt c d l zs i i:=by
  have hl:=FC (c:=c) (Nat.le_of_lt hi);refine ⟨Nat.le_refl _,hi,?_,?_⟩
  · rw [h,List.take_of_length_le (l:=AH c (l.take i)) (by omega),List.drop_of_length_le (l:=AH c (l.take i)) (by omega),List.drop_eq_getElem_cons hi]
    simp [List.getD,hi]
  · rw [List.drop_of_length_le (by omega)];intro z hz;cases hz
theorem InsI.done (h:InsI c l zs i) (hi:l.length≤i):zs=AH c l:=by
  rw [h,List.take_of_length_le hi,List.drop_of_length_le hi,List.append_nil]
theorem swapG {l:List α} {i j:Nat} {d:α} (hi:i<l.length) (hj:j<l.length):((l.set i (l.getD j d)).set j (l.getD i d)).Perm l:=by
  have e1:l.getD i d=l[i]:=by simp [List.getD,hi]
  have e2:l.getD j d=l[j]:=by simp [List.getD,hj]
  rw [e1,e2];exact List.set_set_perm hi hj
theorem InsAt.len (h:InsAt c d l zs i j):zs.length=l.length:=by
  obtain ⟨h1,h2,h3,_⟩:=h;have hl:=FC (c:=c) (Nat.le_of_lt h2);rw [h3];simp only [List.length_append,List.length_cons,List.length_take,List.length_drop,hl];omega
theorem InsAt.at_j (h:InsAt c d l zs i j):zs.getD j d=l.getD i d:=by
  obtain ⟨h1,h2,h3,_⟩:=h;have hl:=FC (c:=c) (Nat.le_of_lt h2);rw [h3,List.getD_eq_getElem?_getD,List.getElem?_append_right (by rw [List.length_take];omega)];rw [show j-((AH c (l.take i)).take j).length=0 by rw [List.length_take];omega];rfl
theorem InsAt.at_m (h:InsAt c d l zs i j) (hm:m<j):zs.getD m d=(AH c (l.take i)).getD m d:=by
  obtain ⟨h1,h2,h3,_⟩:=h;have hl:=FC (c:=c) (Nat.le_of_lt h2);rw [h3,List.getD_eq_getElem?_getD,List.getElem?_append_left (by rw [List.length_take];omega),List.getElem?_take_of_lt hm,← List.getD_eq_getElem?_getD]
theorem InsAt.step (h:InsAt c d l zs i j) (hm:m+1=j) (hlt:c (zs.getD j d) (zs.getD m d)<0):InsAt c d l ((zs.set j (zs.getD m d)).set m (zs.getD j d)) i m:=by
  rw [h.at_j,h.at_m (m:=m) (by omega)] at hlt ⊢;obtain ⟨h1,h2,h3,h4⟩:=h;have hl:=FC (c:=c) (Nat.le_of_lt h2);unfold InsAt
  generalize AH c (l.take i)=q at h3 h4 hl hlt ⊢
  generalize l.getD i d=x at h3 h4 hlt ⊢
  have hmq:m<q.length:=by omega
  have hd:q.drop m=q.getD m d::q.drop (m+1):=by rw [List.drop_eq_getElem_cons hmq];simp [List.getD,hmq]
  refine ⟨by omega,h2,?_,?_⟩
  · subst hm
    rw [CN (d:=d) hmq] at h3;rw [h3,List.set_append_right _ _ (by simp;omega),show m+1-(q.take m++[q.getD m d]).length=0 by simp;omega,List.set_cons_zero,List.append_assoc,List.set_append_right _ _ (by simp;omega),show m-(q.take m).length=0 by simp;omega,List.singleton_append,List.set_cons_zero,hd];rfl
  · rw [hd]
    intro z hz;rcases List.mem_cons.1 hz with rfl | hz
    · exact hlt
    · rw [hm] at hz;exact h4 z hz
theorem InsAt.done (h:InsAt c d l zs i j) (hs:j=0∨¬ c (zs.getD j d) (zs.getD (j-1) d)<0):InsI c l zs (i+1):=by
  rcases Nat.eq_zero_or_pos j with h0 | h0
  · obtain ⟨h1,h2,h3,h4⟩:=h
    unfold InsI;rw [isort_take (d:=d) h2,insB_at d _ _ j (by rw [FC (Nat.le_of_lt h2)];exact h1) h4 (.inl h0),h3];simp
  · rw [h.at_j,h.at_m (m:=j-1) (by omega)] at hs
    obtain ⟨h1,h2,h3,h4⟩:=h;unfold InsI;rw [isort_take (d:=d) h2,insB_at d _ _ j (by rw [FC (Nat.le_of_lt h2)];exact h1) h4 hs,h3];simp
theorem InsAt.done2 {u:Nat} (h:InsAt c d l zs i j) (hu:u=0) (hb:(cmp .gtr (j:Int) (u:Int)&&cmp .lss (c (zs.getD j d) (zs.getD ((j:Int)-1).toNat d)) 0)=false):InsI c l zs (i+1):=by
  subst hu;refine h.done ?_;rcases Nat.eq_zero_or_pos j with h0 | h0
  · exact .inl h0
  · refine .inr ?_
    rw [show ((j:Int)-1).toNat=j-1 by omega] at hb;simp only [cmp,Bool.and_eq_false_iff,decide_eq_false_iff_not] at hb;rcases hb with hb | hb
    · omega
    · omega
end
def RX (s:Slip):Prop:=-1000000≤s.hour∧s.hour≤1000000∧-1000000≤s.num∧s.num≤1000000
def cmpZ (x y:Int):Int:=x-y
theorem less_cmpZ {x y:Int}:cmp .lss x y=cmp .lss (cmpZ x y) 0:=by
  show decide (x<y)=decide (x-y<0);exact decide_eq_decide.2 (by omega)
theorem u8_id {m:Nat} (h:m<256):IntKind.u8.wrap (m:Int)=m:=by
  have h1:IntKind.u8.signed=false:=rfl;have h2:IntKind.u8.bits=8:=rfl;simp only [IntKind.wrap,h1,h2,Bool.false_and,Bool.false_eq_true,if_false];omega
theorem u64_id {m:Nat} (h:m<1000000):IntKind.u64.wrap (m:Int)=m:=by
  have h1:IntKind.u64.signed=false:=rfl;have h2:IntKind.u64.bits=64:=rfl;simp only [IntKind.wrap,h1,h2,Bool.false_and,Bool.false_eq_true,if_false];omega
theorem byteAt_range {s:List UInt8} {j:Nat}:0≤CZ s j∧CZ s j≤255:=by
  unfold CZ;have:=(s.getD j 0).toNat_lt;omega
end Go.Sh
namespace Go.Sl
open Go
theorem leMono {Q:Imm→Prop} {I I':Imm} (le:I.le I') (h:∀ J,I.le J→Q J):∀ J,I'.le J→Q J:=fun J hJ=>h J (le.trans hJ)
end Go.Sl
namespace Go.Sh
open Go Go.Sl
section
variable {α:Type} {p:α→Bool} {l:List α} {d:α} {k:Nat}
def OV (p:α→Bool) (l:List α):Int:=match l.findIdx? p with
  | some i=>(i:Int)
  | none=>-1
theorem idxF_hit (h:∀ j,j<k→p (l.getD j d)=false) (hk:k<l.length) (hp:p (l.getD k d)=true):OV p l=k:=by
  have:l.findIdx? p=some k:=by
    rw [List.findIdx?_eq_some_iff_getElem];refine ⟨hk,by simpa [List.getD,hk] using hp,fun j hj=>?_⟩;have:=h j hj
    simpa [List.getD,show j<l.length by omega] using this
  unfold OV;rw [this]
theorem idxF_miss (h:∀ j,j<k→p (l.getD j d)=false) (hk:l.length≤k):OV p l=-1:=by
  have:l.findIdx? p=none:=by
    rw [List.findIdx?_eq_none_iff];intro x hx;obtain ⟨j,hj,rfl⟩:=List.mem_iff_getElem.1 hx;have:=h j (by omega)
    simpa [List.getD,hj] using this
  unfold OV;rw [this]
theorem idxF_any:cmp .geq (OV p l) 0=l.any p:=by
  unfold OV;cases h:l.findIdx? p with
  | none=>
    have:l.any p=false:=by
      rw [List.any_eq_false];intro x hx;have:=List.findIdx?_eq_none_iff.1 h x hx;simp [this]
    rw [this];decide
  | some i=>
    have:l.any p=true:=by
      rw [List.findIdx?_eq_some_iff_getElem] at h;obtain ⟨h1,h2,_⟩:=h;exact List.any_eq_true.2 ⟨_,List.getElem_mem h1,h2⟩
    rw [this];simp [cmp]
theorem idxF_spec (h:0≤OV p l):∃ i:Nat,OV p l=↑i∧i<l.length∧p (l.getD i d)=true∧∀ j,j<i→p (l.getD j d)=false:=by
  unfold OV at h ⊢;cases e:l.findIdx? p with
  | none=>rw [e] at h;simp at h
  | some i=>
    rw [List.findIdx?_eq_some_iff_getElem] at e;obtain ⟨h1,h2,h3⟩:=e;refine ⟨i,rfl,h1,by simpa [List.getD,h1] using h2,fun j hj=>?_⟩;have:=h3 j hj
    simpa [List.getD,show j<l.length by omega] using this
theorem idxF_neg (h:OV p l<0):l.any p=false:=by rw [← idxF_any];simp [cmp];omega
end
section
variable {L:Lin} {k:Nat}
theorem startErr_1 (h:¬ (L.start.length:Int)=L.places):CX L=2:=if_pos h
theorem all_at {α:Type} {p:α→Bool} {l:List α} {d:α} (hk:k<l.length) (h:l.all p=true):p (l.getD k d)=true:=by
  have:=List.all_eq_true.1 h (l.getD k d) (by simp [List.getD,hk]);exact this
theorem all_bad {α:Type} {p:α→Bool} {l:List α} {d:α} (hk:k<l.length) (h:p (l.getD k d)=false):l.all p=false:=by
  cases e:l.all p with
  | false=>rfl
  | true=>rw [all_at (d:=d) hk e] at h;cases h
theorem SQ {α:Type} {p:α→Bool} {l:List α} (h:∀ x∈l.take k,p x=true) (hk:l.length≤k):l.all p=true:=List.all_eq_true.2 fun x hx=>h x (by rw [List.take_of_length_le hk];exact hx)
theorem startErr_2 (h:(L.start.length:Int)=L.places) (hk:k<L.start.length) (hb:¬ ((L.start.getD k []).length:Int)=L.sorts):CX L=2:=by
  unfold CX;rw [if_neg (fun x=>x h),if_pos (all_bad (d:=[]) hk (decide_eq_false hb))]
theorem startErr_3 (h:(L.start.length:Int)=L.places) (ha:(L.start.all fun r=>decide ((r.length:Int)=L.sorts))=true) (hk:k<L.start.flatten.length) (hb:inB (L.start.flatten.getD k 0) 0 50=false):CX L=1:=by
  unfold CX;rw [if_neg (fun x=>x h),if_neg (by rw [ha];decide),if_pos (all_bad (d:=0) hk hb)]
theorem startErr_4 (h:(L.start.length:Int)=L.places) (ha:(L.start.all fun r=>decide ((r.length:Int)=L.sorts))=true) (hb:(L.start.flatten.all fun n=>inB n 0 50)=true):CX L=0:=by
  unfold CX;rw [if_neg (fun x=>x h),if_neg (by rw [ha];decide),if_neg (by rw [hb];decide)]
theorem flat_small {xss:List (List Int)} {m:Nat} (h:∀ r∈xss,r.length≤m):xss.flatten.length≤xss.length*m:=by
  induction xss with
  | nil=>simp
  | cons x r ih=>
    have h1:=h x (by simp);have h2:=ih (fun y hy=>h y (by simp [hy]));simp only [List.flatten_cons,List.length_append,List.length_cons,Nat.succ_mul];omega
theorem PN (h:4<L.keeps.length):CW L=6:=if_pos h
theorem GG (h:¬ 4<L.keeps.length) (hz:FP (FD L) k=0) (hk:k<L.keeps.length) {e:Int} (he:FD L k=e) (hne:e≠0):CW L=e:=by
  unfold CW;rw [if_neg h,firstE_hit hz (by rw [he];exact hne) hk,he]
theorem PP (h:¬ 4<L.keeps.length) (hz:FP (FD L) k=0) (hk:k=L.keeps.length):CW L=0:=by unfold CW;rw [if_neg h,← hk,hz]
section
variable (h3:inB (L.keeps.getD k AK).place 0 (L.places-1)=true) (h4:inB (L.keeps.getD k AK).hour 0 200=true)
theorem keepErr_3 (h:inB (L.keeps.getD k AK).place 0 (L.places-1)=false):FD L k=3:=if_pos h
include h3
theorem keepErr_1 (h:inB (L.keeps.getD k AK).hour 0 200=false):FD L k=1:=by unfold FD;rw [if_neg (by rw [h3];decide),if_pos h]
include h4
theorem keepErr_1b (h:inB (L.keeps.getD k AK).who 1 9=false):FD L k=1:=by unfold FD;rw [if_neg (by rw [h3];decide),if_neg (by rw [h4];decide),if_pos h]
variable (h5:inB (L.keeps.getD k AK).who 1 9=true)
include h5
theorem keepErr_4 (h:((L.keeps.take k).any fun x=>decide (x.place=(L.keeps.getD k AK).place)&&decide (x.hour=(L.keeps.getD k AK).hour))=true):FD L k=4:=by unfold FD;rw [if_neg (by rw [h3];decide),if_neg (by rw [h4];decide),if_neg (by rw [h5];decide),if_pos h]
theorem keepErr_ok (h:((L.keeps.take k).any fun x=>decide (x.place=(L.keeps.getD k AK).place)&&decide (x.hour=(L.keeps.getD k AK).hour))=false):FD L k=0:=by unfold FD;rw [if_neg (by rw [h3];decide),if_neg (by rw [h4];decide),if_neg (by rw [h5];decide),if_neg (by rw [h];decide)]
end
theorem least_t {k:Int} (h:k=4):Value.int .i64 0=.int .i64 (if k=4 then 0 else 1):=by rw [if_pos h]
theorem least_f {k:Int} (h:k≠4):Value.int .i64 1=.int .i64 (if k=4 then 0 else 1):=by rw [if_neg h]
def QK (L:Lin) (s:Slip):Int:=
  bif !inB s.num 1 999 then 1 else bif !inB s.hour 0 200 then 1 else bif !inB s.kind 1 6 then 8
  else bif !inB s.place 0 (L.places-1) then 3
  else bif cmp .eql s.kind 1&&!inB s.to 0 (L.places-1) then 3
  else bif cmp .eql s.kind 1&&cmp .eql s.to s.place then 4
  else bif !cmp .eql s.kind 1&&!cmp .eql s.to 0 then 1
  else bif !inB s.sort 0 (L.sorts-1) then 3
  else bif s.soil&&(!cmp .eql s.kind 1&&!cmp .eql s.kind 4) then 1
  else bif !inB s.amt (if s.kind=4 then 0 else 1) 50 then 1 else 0
theorem FS (L:Lin) (s:Slip):DN L s=QK L s:=by
  unfold DN QK;simp only [OM,Bool.cond_eq_ite,Bool.and_eq_true,Bool.not_eq_true',decide_eq_true_eq,decide_eq_false_iff_not]
end
section
variable {L:Lin} {k:Nat}
def linC (L:Lin):Int:=bif !inB L.places 1 4||!inB L.sorts 1 2 then 1 else bif !cmp .eql (CX L) 0 then CX L else bif !cmp .eql (CW L) 0 then CW L else bif cmp .gtr (L.slips.length:Int) 8 then 6 else FP (DV L) L.slips.length
theorem KI (L:Lin):AY L=linC L:=by
  unfold AY linC
  by_cases e:8<L.slips.length
  · have e2:(8:Int)<L.slips.length:=by omega
    cases inB L.places 1 4 <;> cases inB L.sorts 1 2 <;> simp [cmp,Bool.cond_eq_ite,e2,e]
  · have e2:¬ (8:Int)<L.slips.length:=by omega
    cases inB L.places 1 4 <;> cases inB L.sorts 1 2 <;> simp [cmp,Bool.cond_eq_ite,e2,e]
theorem PT {x:Int} (h0:FP (DV L) L.slips.length=x) (h1:(!inB L.places 1 4||!inB L.sorts 1 2)=false) (h2:(!cmp .eql (CX L) 0)=false) (h3:(!cmp .eql (CW L) 0)=false) (h4:cmp .gtr (L.slips.length:Int) 8=false):AY L=x:=by
  rw [KI];simp only [linC,h1,h2,h3,h4,cond_false,h0]
theorem slipAt_bad (h:DN L (L.slips.getD k AB)≠0):DV L k=DN L (L.slips.getD k AB):=if_pos h
theorem slipAt_dup (h:DN L (L.slips.getD k AB)=0) (h2:hasNum (L.slips.getD k AB).num (L.slips.take k)=true):DV L k=4:=by unfold DV;rw [if_neg (fun x=>x h),if_pos h2]
theorem slipAt_ok (h:DN L (L.slips.getD k AB)=0) (h2:hasNum (L.slips.getD k AB).num (L.slips.take k)=false):DV L k=0:=by unfold DV;rw [if_neg (fun x=>x h),if_neg (by rw [h2];decide)]
theorem QN (hz:FP (DV L) k=0) (hk:k<L.slips.length) {e:Int} (he:DV L k=e) (hne:e≠0):FP (DV L) L.slips.length=e:=by rw [firstE_hit hz (by rw [he];exact hne) hk,he]
end
theorem openTo_done {st:List (List Int)} {k j:Nat} (h:j=(st.getD k []).length):RI (k:Int) (st.getD k []) j (QF st k)=QF st (k+1):=by subst h;rfl
theorem openH_at {L:Lin} {k:Nat} (h:k=L.start.length):QF L.start k=HQ L:=by subst h;rfl
def Within (B:Int) (H:Hs):Prop:=∀ k,-B≤DX k H∧DX k H≤B
theorem Within.put {B B':Int} {H:Hs} (h:Within B H) {k:HKey} {v:Int} (h1:-B'≤v) (h2:v≤B') (hb:B≤B'):Within B' (KX k v H):=fun j=>by
  rw [getH_put];have:=h j;split <;> omega
theorem Within.add {B:Int} {H:Hs} (h:Within B H) {k:HKey} {d:Int} (h1:-50≤d) (h2:d≤50):Within (B+50) (QU k d H):=h.put (by have:=h k;omega) (by have:=h k;omega) (by omega)
theorem Within.doSlip {B:Int} {H:Hs} (h:Within B H) {s:Slip} (h1:0≤s.amt) (h2:s.amt≤50) (hB:0≤B):Within (B+100) (doSlip s H):=by
  have up:∀ {H:Hs},Within (B+50) H→Within (B+100) H:=fun h k=>by have:=h k;omega
  have tw:∀ {H:Hs},Within (B+50+50) H→Within (B+100) H:=fun h k=>by have:=h k;omega
  unfold Sh.doSlip
  split
  · exact tw ((h.add (by omega) (by omega)).add (by omega) (by omega))
  split
  · exact tw ((h.add (by omega) (by omega)).add (by omega) (by omega))
  split
  · exact tw ((h.add (by omega) (by omega)).add (by omega) (by omega))
  split
  · exact up (h.put (by omega) (by omega) (by omega))
  split
  · exact up (h.add (by omega) (by omega))
  · exact up (h.add (by omega) (by omega))
end Go.Sh
namespace Go.Sl
open Go
structure Borns (es:Array MapEntry) (cl:Nat):Prop where
  once:(es.toList.map (·.born)).Nodup
  lt:∀ e∈es.toList,e.born<cl
def MapB {κ:Type} (enc:κ→Value) (es:Array MapEntry) (cl:Nat) (kvs:List (κ × Value)):Prop:=MapIs enc es kvs∧Borns es cl
theorem MapB.nil {κ:Type} (enc:κ→Value) (cl:Nat):MapB enc #[] cl []:=⟨rfl,by simp,fun _ h=>by simp at h⟩
theorem Borns.push {es:Array MapEntry} {cl:Nat} (h:Borns es cl) (k v:Value):Borns (es.push { key:=k,val:=v,born:=cl }) (cl+1):=by
  refine ⟨?_,fun e he=>?_⟩
  · simp only [Array.toList_push,List.map_append,List.map_cons,List.map_nil]
    refine List.nodup_append.2 ⟨h.once,by simp,fun a ha b hb=>?_⟩;obtain ⟨e,he,rfl⟩:=List.mem_map.1 ha;simp at hb;subst hb;have:=h.lt e he;omega
  · simp only [Array.toList_push,List.mem_append,List.mem_singleton] at he
    rcases he with he | rfl
    · have:=h.lt e he;omega
    · show cl<cl+1;omega
theorem modify_born (es:Array MapEntry) (j:Nat) (f:MapEntry→MapEntry) (hf:∀ e,(f e).born=e.born):(es.modify j f).toList.map (·.born)=es.toList.map (·.born):=by
  apply List.ext_getElem?
  intro n;simp only [List.getElem?_map,Array.getElem?_toList,Array.getElem?_modify]
  split
  · cases es[n]? <;> simp [hf]
  · rfl
theorem Borns.modify {es:Array MapEntry} {cl:Nat} (h:Borns es cl) (j:Nat) (f:MapEntry→MapEntry) (hf:∀ e,(f e).born=e.born):Borns (es.modify j f) cl:=by
  refine ⟨by rw [modify_born _ _ _ hf];exact h.once,fun e he=>?_⟩;have:e.born∈(es.modify j f).toList.map (·.born):=List.mem_map_of_mem he;rw [modify_born _ _ _ hf] at this;obtain ⟨e',he',e1⟩:=List.mem_map.1 this;rw [← e1];exact h.lt e' he'
def ent {κ:Type} [DecidableEq κ] (k:κ) (z:Value):List (κ × Value)→List (κ × Value)
  | []=>[(k,z)]
  | x::r=>if x.1=k then x::r else x::ent k z r
section
variable {κ:Type} [DecidableEq κ]
theorem getKv_ent (k:κ) (z:Value):∀ kvs:List (κ × Value),(LI k (ent k z kvs)).getD z=(LI k kvs).getD z:=by
  intro kvs
  induction kvs with
  | nil=>simp [ent,LI]
  | cons x r ih=>simp only [ent];split <;> simp_all [LI]
theorem upd_ent (k:κ) (z v:Value):∀ kvs:List (κ × Value),upd k v (ent k z kvs)=upd k v kvs:=by
  intro kvs
  induction kvs with
  | nil=>simp [ent,upd]
  | cons x r ih=>simp only [ent];split <;> simp_all [upd]
theorem findKv_ent (k : κ) (z : Value) : ∀ (kvs : List (κ × Value)) (i : Nat), (match FH k kvs i with
    | some (j,u)=>ent k z kvs=kvs∧FH k (ent k z kvs) i=some (j,u)
    | none=>ent k z kvs=kvs++[(k,z)]∧FH k (ent k z kvs) i=some (i+kvs.length,z)):=by
  intro kvs
  induction kvs with
  | nil=>intro i;simp [FH,ent]
  | cons x r ih=>
    intro i;simp only [FH,ent]
    by_cases h:x.1=k
    · simp [h,FH]
    · simp only [if_neg h]
      have:=ih (i+1);cases hf:FH k r (i+1) with
      | none=>
        rw [hf] at this;obtain ⟨h1,h2⟩:=this;refine ⟨by rw [h1];rfl,?_⟩;show (if x.1=k then some (i,x.2) else FH k (ent k z r) (i+1))=_;rw [if_neg h,h2,List.length_cons];congr 2;omega
      | some p=>
        rw [hf] at this;obtain ⟨h1,h2⟩:=this;refine ⟨by rw [h1],?_⟩;show (if x.1=k then some (i,x.2) else FH k (ent k z r) (i+1))=_;rw [if_neg h,h2]
theorem PH (k:κ):∀ (kvs:List (κ × Value)) (i j:Nat) (u:Value),FH k kvs i=some (j,u)→i≤j∧j-i<kvs.length∧kvs[j-i]?=some (k,u):=by
  intro kvs
  induction kvs with
  | nil=>intro i j u h;cases h
  | cons x r ih=>
    intro i j u h;simp only [FH] at h
    split at h
    · rename_i e
      cases h;simp [← e]
    · obtain ⟨h1,h2,h3⟩:=ih _ _ _ h
      refine ⟨by omega,by simp;omega,?_⟩;rw [show j-i=(j-(i+1))+1 by omega];simpa using h3
end
theorem key_at {κ:Type} {enc:κ→Value} {es:Array MapEntry} {kvs:List (κ × Value)} (his:MapIs enc es kvs) {j:Nat} {k:κ} {u:Value} (h:kvs[j]?=some (k,u)):∃ e,es[j]?=some e∧e.key=enc k∧e.val=u:=by
  have:=congrArg (fun l=>l[j]?) his;simp only [List.getElem?_map,Array.getElem?_toList,h,Option.map_some,OB] at this;cases he:es[j]? with
  | none=>rw [he] at this;cases this
  | some e=>rw [he] at this;simp only [Option.map_some,Option.some.injEq,Prod.mk.injEq] at this;exact ⟨e,rfl,this.1,this.2⟩
def Stamp {κ:Type} [DecidableEq κ] (es:Array MapEntry) (kvs:List (κ × Value)) (st:Nat) (k:κ):Prop:=∃ j u,FH k kvs 0=some (j,u)∧(es[j]?).map (·.born)=some st
section
variable {ρ:Option Nat} {P:Program} {N:Nat} {ops:Array Oper} {i:Nat} {l:Sl} {I:Imm} {R M:Seg} {d:Nat} {ty:TypeId} {gd:Option (Nat × Bool)} {K:Sl→Imm→Seg→Prop}
variable {κ:Type} [DecidableEq κ] {enc:κ→Value}
theorem set_same {es:Array MapEntry} {j:Nat} {e:MapEntry} (h:es[j]?=some e) {key:Value} (hk:key=e.key):es.modify j (fun e=>{ e with key })=es:=by
  apply Array.ext_getElem?
  intro n;rw [Array.getElem?_modify]
  split
  · rename_i e1;subst e1 hk;rw [h];rfl
  · rfl
theorem NL {a:Value} {Q:Value→Seg→Prop} (h:Q a M):wpL P (Instr.keyThatStays a a) Q I M:=by
  unfold Instr.keyThatStays
  split
  · exact h
  · rw [AE]
    show (if (Question.extern "map.whichKeyStays" 2).forced then _ else ∀ t,_)
    split
    · show Q _ M;split <;> exact h
    · intro t;show Q _ M;split <;> exact h
theorem stp_mapEntry {x y : Operand} {T kt et r cl : Nat} {es : Array MapEntry} {kvs : List (κ × Value)} {k : κ} {z : Value} (n : Nat) (hop : FM ops N i = some (some d, .mapEntry T x y, ty, gd)) (hg : FJ ops l gd = some true)
    (hT:SP P T=some (kt,et)) (hK:KeyOk P kt enc) (hx:CC l x=some (.map (some r))) (hy:CC l y=some (enc k)) (hz:IW P et=some z) (hn:M[n]?=some (r,Obj.map es cl)) (hb:MapB enc es cl kvs)
    (h:∀ es' cl' (st:Nat),MapB enc es' cl' (ent k z kvs)→Stamp es' (ent k z kvs) st k→K ((d,.tuple #[(LI k kvs).getD z,.int .i64 (st:Int)])::l) I (M.set n (r,Obj.map es' cl'))):Stp P N ops i l I M K:=
  DH hop hg (HK hx hy) (by
    obtain ⟨his,hbo⟩:=hb
    show wpL P (Instr.mapEntry T (rho l x) (rho l y) >>= fun x=>pure (Next.value x)) _ I M
    rw [BA hx,BA hy]
    refine CY ?_
    unfold Instr.mapEntry
    rw [AE,AL (JN hT)]
    show wpL P (Sem.getObj r _) _ I M
    refine ⟨_,.inl (List.mem_of_getElem? hn),rfl,?_⟩
    show wpL P (Instr.checkKey _ _ _ _ >>= _) _ I _
    rw [AE]
    refine hK.check _ _ _ _ _ ?_
    rw [AE]
    refine hK.find k es.toList kvs _ _ _ his ?_
    have hf:=findKv_ent k z kvs 0
    have hgk:=findKv_get k kvs 0
    cases hkv:FH k kvs 0 with
    | none=>
      rw [hkv] at hf hgk
      simp only at hf
      simp only [Option.map_none] at hgk
      show wpL P (zeroValue et >>= _) _ I M
      rw [AE,DT hz]
      show wpL P (Sem.setObj r _ _) _ I M
      refine FU n rfl hn rfl ?_
      refine ⟨_,.inl rfl,?_⟩
      have h1:=h (es.push { key:=enc k,val:=z,born:=cl }) (cl+1) cl ⟨by rw [hf.1];exact NU his k z cl,hbo.push _ _⟩ ⟨_,_,hf.2,by
        have hs:=MapIs.size his
        rw [Nat.zero_add,← hs];simp⟩
      rw [← hgk] at h1
      exact h1
    | some p=>
      obtain ⟨j,w⟩:=p
      rw [hkv] at hf hgk
      simp only at hf
      simp only [Option.map_some] at hgk
      obtain ⟨_,_,h3⟩:=PH k kvs 0 j w hkv
      rw [Nat.sub_zero] at h3
      obtain ⟨e,he,hek,hev⟩:=key_at his h3
      have hold:((es[j]?).map (·.key)).getD (enc k)=enc k:=by rw [he];exact hek
      show wpL P (Instr.keyThatStays (((es[j]?).map (·.key)).getD (enc k)) (enc k) >>= _) _ I M
      rw [AE,hold]
      refine NL ?_
      show wpL P (Sem.setObj r _ _) _ I M
      refine FU n rfl hn rfl ?_
      refine ⟨_,.inl rfl,?_⟩
      rw [set_same he hek.symm]
      have h1:=h es cl e.born ⟨by rw [hf.1];exact his,hbo⟩ ⟨_,_,hf.2,by rw [he];rfl⟩
      rw [← hgk] at h1
      rw [he]
      exact h1)
theorem stp_entryStore {x y u : Operand} {T r cl st : Nat} {es : Array MapEntry} {kvs : List (κ × Value)} {k : κ} {v : Value} (n : Nat) (hop : FM ops N i = some (none, .entryStore T x y u, ty, gd)) (hg : FJ ops l gd = some true)
    (hx:CC l x=some (.map (some r))) (hy:CC l y=some (.int .i64 (st:Int))) (hu:CC l u=some v) (hn:M[n]?=some (r,Obj.map es cl)) (hb:MapB enc es cl kvs) (hst:Stamp es kvs st k)
    (h:∀ es',MapB enc es' cl (upd k v kvs)→K l I (M.set n (r,Obj.map es' cl))):Stp P N ops i l I M K:=
  DH hop hg (known3 hx hy hu) (by
    obtain ⟨his,hbo⟩:=hb
    obtain ⟨j,w,hj,hs⟩:=hst
    show wpL P (Instr.entryStore T (rho l x) (rho l y) (rho l u) >>= fun _=>pure Next.skip) _ I M
    rw [BA hx,BA hy,BA hu,AE]
    unfold Instr.entryStore
    show wpL P (Sem.getObj r _) _ I M
    refine ⟨_,.inl (List.mem_of_getElem? hn),rfl,?_⟩
    obtain ⟨_,_,h3⟩:=PH k kvs 0 j w hj
    rw [Nat.sub_zero] at h3
    obtain ⟨e,he,hek,hev⟩:=key_at his h3
    rw [he] at hs
    simp only [Option.map_some,Option.some.injEq] at hs
    have hjl:j<es.size:=(Array.getElem?_eq_some_iff.1 he).1
    have hej:es[j]=e:=(Array.getElem?_eq_some_iff.1 he).2
    have hfi:es.findIdx? (fun e=>(e.born:Int) == (st:Int))=some j:=by
      rw [Array.findIdx?_eq_some_iff_getElem]
      refine ⟨hjl,by rw [hej,hs];simp,fun q hq=>?_⟩
      have hne:es[q].born≠st:=fun e1=>by
        have h4:(es.toList.map (·.born))[q]'(by simp;omega)=(es.toList.map (·.born))[j]'(by simpa using hjl):=by simp [e1,hej,hs]
        have:=(List.getElem_inj hbo.once).1 h4
        omega
      simp only [Bool.not_eq_true,beq_eq_false_iff_ne,ne_eq]
      intro e1;exact hne (by omega)
    show wpL P (match es.findIdx? (fun e=>(e.born:Int) == (st:Int)) with
      | some i=>Go.setObj r (.map (es.modify i fun e=>{ e with val:=v }) cl)
      | none=>unsupported (.noEntry "instr/MapEntry.the entry is gone")) _ I M
    rw [hfi]
    show wpL P (Sem.setObj r _ _) _ I M
    refine FU n rfl hn rfl ?_
    refine ⟨undef,.inr ⟨rfl,rfl⟩,h _ ⟨?_,hbo.modify _ _ (fun _=>rfl)⟩⟩
    have hq:=NR k v kvs 0
    rw [hj] at hq
    simp only [Nat.sub_zero] at hq
    rw [hq.2.1]
    have e2:es.modify j (fun e=>{ e with val:=v })=es.modify j (fun e=>{ e with key:=enc k,val:=v }):=by
      apply Array.ext_getElem?
      intro q
      rw [Array.getElem?_modify,Array.getElem?_modify]
      split
      · rename_i e1;subst e1;rw [he];simp [hek]
      · rfl
    rw [e2]
    exact PZ his j k v (enc k) rfl)
end
def MX (seen:Array Nat) (e:MapEntry):Bool:=!seen.contains e.born
def Left {κ:Type} (enc:κ→Value) (es:Array MapEntry) (seen:Array Nat) (todo:List (κ × Value)):Prop:=(es.toList.filter (MX seen)).map (fun e=>(e.key,e.val))=todo.map (OB enc)
def AtEntry {κ:Type} (enc:κ→Value) (es:Array MapEntry) (seen:Array Nat) (x:κ × Value):Prop:=∃ e,e∈es.toList∧seen.back?=some e.born∧e.key=enc x.1∧e.val=x.2
theorem Left.start {κ:Type} {enc:κ→Value} {es:Array MapEntry} {kvs:List (κ × Value)} (h:MapIs enc es kvs):Left enc es #[] kvs:=by
  unfold Left;have:es.toList.filter (MX #[])=es.toList:=List.filter_eq_self.2 fun e _=>by simp [MX]
  rw [this];exact h
theorem born_inj {es:Array MapEntry} {cl:Nat} (h:Borns es cl) {e e':MapEntry} (he:e∈es.toList) (he':e'∈es.toList) (hb:e.born=e'.born):e=e':=by
  obtain ⟨a,ha,rfl⟩:=List.mem_iff_getElem.1 he;obtain ⟨b,hb',rfl⟩:=List.mem_iff_getElem.1 he';have:a=b:=(List.getElem_inj (h₀:=by simpa using ha) (h₁:=by simpa using hb') h.once).1 (by simpa using hb);subst this;rfl
theorem new_push {es:Array MapEntry} {cl:Nat} (h:Borns es cl) {seen:Array Nat} {A B:List MapEntry} {e:MapEntry} (hs:es.toList.filter (MX seen)=A++e::B):es.toList.filter (MX (seen.push e.born))=A++B:=by
  have hnd:(es.toList.map (·.born)).Nodup:=h.once;have hsub:(A++e::B).Sublist es.toList:=by rw [← hs];exact List.filter_sublist
  have hn2:((A++e::B).map (·.born)).Nodup:=(hsub.map _).nodup hnd;have e1:es.toList.filter (MX (seen.push e.born))=(es.toList.filter (MX seen)).filter (fun x=>!(x.born == e.born)):=by
    rw [List.filter_filter];refine List.filter_congr fun x _=>?_
    simp only [MX,Array.contains_push,Bool.not_or];rw [Bool.and_comm]
  rw [e1,hs,List.filter_append,List.filter_cons];rw [List.map_append,List.map_cons] at hn2;have hd:=List.nodup_append.1 hn2;have hd2:=List.nodup_cons.1 hd.2.1;have hA:A.filter (fun x=>!(x.born == e.born))=A:=List.filter_eq_self.2 fun x hx=>by
    have:=hd.2.2 x.born (List.mem_map_of_mem hx) e.born (by simp)
    simpa using this
  have hB:B.filter (fun x=>!(x.born == e.born))=B:=List.filter_eq_self.2 fun x hx=>by
    have:x.born≠e.born:=fun e2=>hd2.1 (by rw [← e2];exact List.mem_map_of_mem hx)
    simpa using this
  rw [hA,hB];simp
section
variable {P:Program} {N:Nat} {ops:Array Oper} {i:Nat} {l:Sl} {I:Imm} {R M:Seg} {d:Nat} {ty:TypeId} {gd:Option (Nat × Bool)} {K:Sl→Imm→Seg→Prop}
theorem stp_range {x : Operand} {T kt et r cl : Nat} {es : Array MapEntry} (hop : FM ops N i = some (some d, .range T x, ty, gd)) (hg : FJ ops l gd = some true) (hT : SP P T = some (kt, et)) (hx : CC l x = some (.map (some r))) (hm : Holds I M r (.map es cl))
    (h:∀ b,K ((d,.pointer (some ⟨b,0,none⟩))::l) I ((b,Obj.mapIter (some r) cl #[] cl)::M)):Stp P N ops i l I M K:=
  DH hop hg (MM hx) (by
    show wpL P (Instr.range T (rho l x) >>= fun x=>pure (Next.value x)) _ I M
    rw [BA hx]
    refine CY ?_
    unfold Instr.range
    rw [AE,AL (JN hT)]
    show wpL P (Sem.getObj r _) _ I M
    exact ⟨_,hm,rfl,fun b=>⟨_,.inl rfl,h b⟩⟩)
theorem stp_next {κ : Type} {enc : κ → Value} {x : Operand} {r cl b : Nat} {es : Array MapEntry} {seen : Array Nat} {todo : List (κ × Value)} (n : Nat) (hop : FM ops N i = some (some d, .next x false, ty, gd)) (hg : FJ ops l gd = some true)
    (hx:CC l x=some (.pointer (some ⟨b,0,none⟩))) (hn:M[n]?=some (b,Obj.mapIter (some r) cl seen cl)) (hm:Holds I M r (.map es cl)) (hb:Borns es cl) (hl:Left enc es seen todo)
    (h0:todo=[]→K ((d,.tuple #[.bool false])::l) I M)
    (h1:∀ A y B seen',todo=A++y::B→Left enc es seen' (A++B)→AtEntry enc es seen' y→K ((d,.tuple #[.bool true,enc y.1,y.2])::l) I (M.set n (b,Obj.mapIter (some r) cl seen' cl))):Stp P N ops i l I M K:=
  DH hop hg (MM hx) (by
    show wpL P (Instr.next (rho l x) false ty >>= fun x=>pure (Next.value x)) _ I M
    rw [BA hx]
    refine CY ?_
    unfold Instr.next
    show wpL P (Sem.getObj b _) _ I M
    refine ⟨_,.inl (List.mem_of_getElem? hn),rfl,?_⟩
    show wpL P (Sem.getObj r _) _ I M
    refine ⟨_,hm,rfl,?_⟩
    have hc:(!seen.isEmpty&&!es.isEmpty&&es.all (fun (e:MapEntry)=>decide (e.born≥cl)))=false:=by
      rcases Nat.eq_zero_or_pos es.size with hz | hz
      · have:es.isEmpty=true:=by simpa [Array.isEmpty] using hz
        rw [this];simp
      · have : es.all (fun (e : MapEntry) => decide (e.born ≥ cl)) = false := by
          rw [Array.all_eq_false]
          refine ⟨0,hz,?_⟩
          have:=hb.lt es[0] (by simp)
          simp;omega
        rw [this];simp
    show wpL P (if (!seen.isEmpty&&!es.isEmpty&&es.all (fun (e:MapEntry)=>decide (e.born≥cl)))=true then _ else _) _ I M
    rw [hc]
    simp only [Bool.false_eq_true,if_false]
    have hold:(es.filter (MX seen)).filter (fun (e:MapEntry)=>decide (e.born<cl))=es.filter (MX seen):=by
      rw [Array.filter_eq_self];intro e he
      have:=hb.lt e (by simpa using (Array.mem_filter.1 he).1);simpa using this
    have hnew:(es.filter (MX seen)).filter (fun (e:MapEntry)=>decide (e.born≥cl))=#[]:=by
      rw [Array.filter_eq_empty_iff];intro e he
      have:=hb.lt e (by simpa using (Array.mem_filter.1 he).1);simp;omega
    have e0:(fun e:MapEntry=>!seen.contains e.born)=MX seen:=rfl
    rw [e0]
    rw [hold,hnew,Array.append_empty]
    have hfl:(es.filter (MX seen)).toList=es.toList.filter (MX seen):=by simp
    generalize hL:es.filter (MX seen)=L at hfl
    have take : ∀ (q : Nat), q < L.size → wpL P (match (L.map some)[q]? with
        | some (some e)=>(do
          Go.setObj b (.mapIter (some r) cl (seen.push e.born) cl)
          pure (Value.tuple #[.bool true,e.key,e.val]))
        | some none=>pure (.tuple #[.bool false])
        | none=>stuck "Next: no such candidate") (fun v M'=>∃ u,(Next.value v=.value u∨(Next.value v=.skip∧u=undef))∧K ((d,u)::l) I M') I M:=fun q hq=>by
      have hget:(L.map some)[q]?=some (some L[q]):=by simp [hq]
      rw [hget]
      have hsp:es.toList.filter (MX seen)=L.toList.take q++L[q]::L.toList.drop (q+1):=by
        rw [← hfl]
        have:=List.drop_eq_getElem_cons (l:=L.toList) (i:=q) (by simpa using hq)
        rw [show L[q]=L.toList[q]'(by simpa using hq) from by simp,← this,List.take_append_drop]
      have hl2:(L.toList.take q++L[q]::L.toList.drop (q+1)).map (fun e=>(e.key,e.val))=todo.map (OB enc):=by rw [← hsp];exact hl
      have hlen:todo.length=L.size:=by
        have:=congrArg List.length hl2
        simp only [List.length_map,List.length_append,List.length_take,List.length_cons,List.length_drop,Array.length_toList] at this
        omega
      have hspt:todo=todo.take q++todo[q]'(by omega)::todo.drop (q+1):=by
        have:=List.drop_eq_getElem_cons (l:=todo) (i:=q) (by omega)
        rw [← this,List.take_append_drop]
      rw [hspt,List.map_append,List.map_append,List.map_cons,List.map_cons] at hl2
      have hk:(L.toList.take q).map (fun e=>(e.key,e.val))=(todo.take q).map (OB enc)∧(L[q].key,L[q].val)::(L.toList.drop (q+1)).map (fun e=>(e.key,e.val))=OB enc (todo[q]'(by omega))::(todo.drop (q+1)).map (OB enc):=
        List.append_inj hl2 (by simp;omega)
      obtain ⟨k1,k2⟩:=hk
      simp only [List.cons.injEq,OB,Prod.mk.injEq] at k2
      obtain ⟨⟨k3,k4⟩,k5⟩:=k2
      have hmem:L[q]∈es.toList:=by
        have:L[q]∈es.toList.filter (MX seen):=by rw [hsp];simp
        exact (List.mem_filter.1 this).1
      show wpL P (Sem.setObj b _ _) _ I M
      refine FU n rfl hn rfl ?_
      refine ⟨_,.inl rfl,?_⟩
      rw [k3,k4]
      refine h1 (todo.take q) (todo[q]'(by omega)) (todo.drop (q+1)) (seen.push L[q].born) hspt ?_ ⟨L[q],hmem,by simp,k3,k4⟩
      unfold Left
      rw [new_push hb hsp,List.map_append,List.map_append,k1,k5]
    by_cases hz:L.size=0
    · have hLe:L=#[]:=Array.size_eq_zero_iff.1 hz
      subst hLe
      have ht:todo=[]:=by
        unfold Left at hl
        rw [← hfl] at hl
        simpa using hl.symm
      have:((if (#[]:Array MapEntry).isEmpty=true then #[none] else #[])++Array.map some (#[]:Array MapEntry))=#[none]:=by simp
      rw [this,AE]
      show (if (Question.mapNext 1).forced=true then _ else _)
      rw [if_pos (by decide)]
      exact ⟨_,.inl rfl,h0 ht⟩
    · have : ((if L.isEmpty = true then #[none] else #[]) ++ Array.map some L) = L.map some := by
        have:L.isEmpty=false:=by simpa [Array.isEmpty] using hz
        rw [this];simp
      rw [this,AE,Array.size_map]
      show (if (Question.mapNext L.size).forced=true then _ else ∀ t,_)
      split
      · exact take 0 (by omega)
      · intro t
        exact take (t%L.size) (Nat.mod_lt _ (by omega)))
theorem stp_entry {κ : Type} {enc : κ → Value} {x : Operand} {r cl b : Nat} {es : Array MapEntry} {seen : Array Nat} {y : κ × Value} (hop : FM ops N i = some (some d, .entry x, ty, gd)) (hg : FJ ops l gd = some true)
    (hx:CC l x=some (.pointer (some ⟨b,0,none⟩))) (hn:(b,Obj.mapIter (some r) cl seen cl)∈M) (hm:Holds I M r (.map es cl)) (hb:Borns es cl) (ha:AtEntry enc es seen y)
    (h:K ((d,.tuple #[enc y.1,y.2])::l) I M):Stp P N ops i l I M K:=
  DH hop hg (MM hx) (by
    obtain ⟨e,he,hbk,k1,k2⟩:=ha
    show wpL P (Instr.entry (rho l x) >>= fun x=>pure (Next.value x)) _ I M
    rw [BA hx]
    refine CY ?_
    unfold Instr.entry
    show wpL P (Sem.getObj b _) _ I M
    refine ⟨_,.inl hn,rfl,?_⟩
    dsimp only [Sem.bind]
    rw [hbk]
    show wpL P (Sem.getObj r _) _ I M
    refine ⟨_,hm,rfl,?_⟩
    dsimp only [Sem.bind]
    rw [if_neg (by simp)]
    have hf:es.find? (fun x=>x.born == e.born)=some e:=by
      rw [← Array.find?_toList]
      cases hq:es.toList.find? (fun x=>x.born == e.born) with
      | none=>have:=List.find?_eq_none.1 hq e he;simp at this
      | some e'=>
        have h1:=List.find?_some hq;have h2:=List.mem_of_find?_eq_some hq
        rw [born_inj hb h2 he (by simpa using h1)]
    rw [hf]
    refine ⟨_,.inl rfl,?_⟩
    rw [k1,k2];exact h)
end
end Go.Sl
