/- A part of the proof of the laws of this seat. -/
import Derived.Test.YtcaocbhbofejnaaGreatDoorP1
import Derived.RangeFuncRecord
import Derived.RangeFuncLeaves
import Derived.Scope
import Derived.Test.YtcaocbhbofejnaaGreatDoorP2
set_option linter.unusedVariables false
set_option linter.unusedSimpArgs false
namespace Go
variable {P : Program} {F : Fence} {n : Nat} {Q : Exit → Act → World → Prop} {a : Act} {w : World}
theorem GX {b : Frame} {k : List Item} {cs : List Frame} {c : Code} : step P (lone (b.atR a (.code (.scope c) :: k)) cs w) = .next (lone (b.atR a (.code c :: .inScope c :: k)) cs w) :=
  step_lone_go (by simp [stepG, stepG.exec, Frame.atR])
theorem stepR_inScope {b : Frame} {k : List Item} {cs : List Frame} {c : Code} : step P (lone (b.atR a (.inScope c :: k)) cs w) = .next (lone (b.atR a k) cs w) :=
  step_lone_go (by simp [stepG, stepG.exec, Frame.atR])
theorem wpIn_scope {c : Code} (h : c.wpIn F n P (Exit.noGoto Q) a w) : (Code.scope c).wpIn F n P Q a w := by
  intro b k cs hro hb hr;have h0 : (lone (b.atR a (.code (.scope c) :: k)) cs w).fenced P F := fenced_calm hb hr rfl;obtain ⟨e, a₁, w₁, hq, harr⟩ := h b (.inScope c :: k) cs hro hb hr;cases e with
  | normal => exact ⟨.normal, a₁, w₁, hq, .head h0 GX (StepsIn.trans harr (.one (fenced_calm hb hr rfl) stepR_inScope))⟩
  | exit id =>
    have hx : exitTo id (.inScope c :: k) = exitTo id k := by simp [exitTo]
    exact ⟨.exit id, a₁, w₁, hq, fun k' hk => .head h0 GX (harr.1 k' (by rw [hx]; exact hk)), fun hr' hk => let ⟨k₁, h1, h2⟩ := harr.2 hr' (by rw [hx]; exact hk); ⟨k₁, h1, .head h0 GX h2⟩⟩
  | goto l => exact hq.elim
  | ret => exact ⟨_, a₁, w₁, hq, .of_steps (.one h0 GX) harr⟩
  | panic ch => exact ⟨_, a₁, w₁, hq, .of_steps (.one h0 GX) harr⟩
  | outgrown => exact ⟨_, a₁, w₁, hq, .of_steps (.one h0 GX) harr⟩
end Go
namespace Go.Sl
open Go
theorem run_scope {ρ : Option Nat} {P : Program} {N : Nat} {Q : Exit → Act → World → Prop} {ds : List Deferred} {l : Sl} {I : Imm} {M : Seg} {c x : Code} (hc : c = .scope x) (h : Run (ρ := ρ) P N x (Exit.noGoto Q) ds l I M) : Run (ρ := ρ) P N c Q ds l I M := by
  subst hc;exact fun a w hS hD hW => wpIn_scope (h a w hS hD hW)
theorem HJ {N : Nat} {Q : Exit → Act → World → Prop} {ds : List Deferred} {l : Sl} {I : Imm} {M : Seg} (h : Pst N Q .ret ds l I M) : Pst N (Exit.noGoto Q) .ret ds l I M := h
theorem EI {α : Type} {E : TypeId} {sz : Nat} {cell : α → Nat → Value} {ρ : Option Nat} {P : Program} {N : Nat} {c : Code} {Q : Exit → Act → World → Prop} {ds : List Deferred} {l : Sl} {I : Imm} {M A B Ms : Seg} {v : Value} {xs : List α} (dflt : α)
    (h : Own E sz cell v xs Ms) (hl : xs.length ≤ 140737488355328) (hM : M.Perm (Ms ++ A)) (hA : A.Perm B)
    (next : ∀ J, I.le J → IsSl sz cell dflt J v xs → Run (ρ := ρ) P N c Q ds l J B) : Run (ρ := ρ) P N c Q ds l I M := St.own_freeze dflt h hl hM hA next
theorem rn_mem {ρ : Option Nat} {P : Program} {N : Nat} {Q : Exit → Act → World → Prop} {ds : List Deferred} {l : Sl} {I : Imm} {M M' : Seg} {c : Code} (s : ∀ w, St I M w → St I M' w) (next : Run (ρ := ρ) P N c Q ds l I M') : Run (ρ := ρ) P N c Q ds l I M := IM s next
theorem LG {ρ : Option Nat} {P : Program} {N : Nat} {Q : Exit → Act → World → Prop} {ds : List Deferred} {l : Sl} {I : Imm} {M M0 : Seg} {c : Code} {b : Nat} {o : Obj} (hM : M.Perm ((b, o) :: M0))
    (next : ∀ J, I.le J → J.blk b = some o → Run (ρ := ρ) P N c Q ds l J M0) : Run (ρ := ρ) P N c Q ds l I M := fun a w hS hD hW =>
  have st := hW.perm hM
  next (I.add b o) (Imm.le_add (st.disj b o List.mem_cons_self)) (Imm.add_same I b o) a w hS hD st.freeze
theorem FZ {ρ : Option Nat} {P : Program} {N : Nat} {ops : Array Oper} {i : Nat} {Q : Exit → Act → World → Prop} {ds : List Deferred} {l : Sl} {I : Imm} {M M0 : Seg} {b : Nat} {o : Obj} (hM : M.Perm ((b, o) :: M0))
    (next : ∀ J, I.le J → J.blk b = some o → Seq (ρ := ρ) P N ops Q ds i l J M0) : Seq (ρ := ρ) P N ops Q ds i l I M := fun a w hS hD hW =>
  have st := hW.perm hM
  next (I.add b o) (Imm.le_add (st.disj b o List.mem_cons_self)) (Imm.add_same I b o) a w hS hD st.freeze
theorem OA {I : Imm} {M : Seg} {b off n : Nat} {cs : Array Value} {T : TypeId} {fz : Nat × Nat} {vs : List Value} (h : I.blk b = some (Obj.cells cs T fz)) (hv : (cs.toList.drop off).take n = vs) : SeesN I M b off vs := fun k v hk => by
  refine ⟨rfl, cs, T, fz, .inr h, ?_⟩;rw [← hv, List.getElem?_take] at hk
  split at hk
  · rw [List.getElem?_drop] at hk; simpa using hk
  · cases hk
theorem BA {I : Imm} {M : Seg} {b off : Nat} {cs : Array Value} {T : TypeId} {fz : Nat × Nat} {v : Value} (h : I.blk b = some (Obj.cells cs T fz)) (hc : cs[off]? = some v) : Sees I M ⟨b, off, none⟩ v := ⟨rfl, cs, T, fz, .inr h, hc⟩
section
variable {P : Program} {N : Nat} {ops : Array Oper} {i : Nat} {l : Sl} {I : Imm} {R M : Seg} {ty : TypeId} {gd : Option (Nat × Bool)} {K : Sl → Imm → Seg → Prop} {d : Nat}
theorem KE {x : Operand} {T S : TypeId} {b n : Nat} {cs : Array Value} {fz : Nat × Nat} (hop : GV ops N i = some (some d, .load T x, ty, gd)) (hg : GD ops l gd = some true) (hT : EJ P T = some true) (hsz : DZ P T = some n) (hn : cs.size = n)
    (hx : DA l x = some (.pointer (some ⟨b, 0, none⟩))) (hs : Holds I R b (.cells cs S fz)) : Det P N ops i l I R d (.agg cs) := by
  have h := CP (P := P) (I := I) (R := R) (n := n) (vs := cs.toList) (b := b) (off := 0) hop hg hT hsz hx (by simpa using hn) (fun k v hk => ⟨rfl, cs, S, fz, hs, by simpa using hk⟩)
  simpa using h
theorem pst_retW {fn : Func} {I₀ : Imm} {post : Value → Imm → Seg → Prop} {F : Seg} {t : Nat} {T S : TypeId} {b n : Nat} {cs : Array Value} {fz : Nat × Nat} (M' : Seg) (hr : fn.results = #[.cell t T]) (ht : EH t l = some (.pointer (some ⟨b, 0, none⟩))) (hT : EJ P T = some true) (hsz : DZ P T = some n) (hn : cs.size = n)
    (hs : Holds I M b (.cells cs S fz)) (hsub : (M' ++ F).Sublist M) (hle : I₀.le I) (hp : post (.agg cs) I M') : Pst N (RetQ P fn I₀ post F) .ret [] l I M :=
  GM (T := T) (n := n) (b := b) (off := 0) (vs := cs.toList) M' hr ht hsz (by simpa using hn) (fun k v hk => ⟨rfl, cs, S, fz, hs, by simpa using hk⟩) (.inl ⟨hT, by simp⟩) hsub hle hp
theorem setRow_all : ∀ (vs A B : List Value), vs.length = B.length → (HY (A ++ B).toArray A.length vs).toList = A ++ vs := by
  intro vs A B h;have := NE vs A B (by omega);rw [this, List.drop_of_length_le (by omega), List.append_nil]
theorem OB {T S : TypeId} {x y : Operand} {v : Value} {cs vs : Array Value} {b n : Nat} {M' : Seg} (k : Nat) (hop : GV ops N i = some (none, .store T x y, ty, gd)) (hg : GD ops l gd = some true)
    (hx : DA l x = some (.pointer (some ⟨b, 0, none⟩))) (hy : DA l y = some v) (hsz : DZ P T = some n) (hvs : v.cells = vs) (hn : vs.size = n) (hone : ∀ u ∈ vs.toList, EY u = true)
    (hk : M[k]? = some (b, Obj.cells cs S (0, 0))) (hcs : cs.size = n) (hM : M.set k (b, Obj.cells vs S (0, 0)) = M')
    (h : K l I M') : Stp P N ops i l I M K := by
  refine stp_store (cs := cs.toList) (cs' := vs.toList) (vs := vs.toList) (off := 0) (S := S) (M' := M') k hop hg hx hy hsz (by rw [hvs]) (by simpa using hn) (List.all_eq_true.2 hone) (by simpa using hk) (by simp; omega) ?_ (by simpa using hM) h;have := setRow_all vs.toList [] cs.toList (by simp; omega)
  simpa using this
end
abbrev RQ (I : Imm) (post : Value → Imm → Seg → Prop) (F : Seg) : Ending → World → Prop := fun e w' => ∃ v I' M', e = .returned v ∧ I.le I' ∧ post v I' M' ∧ St I' (M' ++ F) w'
def Yt (P : Program) (L : Nat) (args : Array Value) (I : Imm) (pre : Seg) (post : Value → Imm → Seg → Prop) : Prop :=
  ∀ F w, St I (pre ++ F) w → ∃ f tmps assign body, (Instr.yield L args).run P w = .ok (.round L f tmps assign body) w ∧ RoundIn (fen none) 0 P L f tmps assign body w (RQ I post F)
def IterCt {α : Type} (P : Program) (gf : FuncId) (cv : List Value) (enc : α → List Value) (seq : List α) (R : Imm → Seg → Prop) (I0 : Imm) : Prop :=
  ∀ (L : Nat) (Cl Sp : List α → Imm → Seg → Prop), (∀ xs I J M, I.le J → Cl xs I M → Cl xs J M) →
    (∀ xs x I Mr M, (xs ++ [x]) <+: seq → I0.le I → R I Mr → Cl xs I M → Yt P L (enc x).toArray I (Mr ++ M) (fun v I' M' => (v = .bool true ∧ ∃ Mr' M2, M' = Mr' ++ M2 ∧ R I' Mr' ∧ Cl (xs ++ [x]) I' M2) ∨ (v = .bool false ∧ Sp (xs ++ [x]) I' M'))) →
    ∀ I Mr M, I0.le I → R I Mr → Cl [] I M → Ct P gf (.func (.yield L) #[] #[] :: cv).toArray I (Mr ++ M) (fun _ I' M' => (∃ Mr' M2, M' = Mr' ++ M2 ∧ R I' Mr' ∧ Cl seq I' M2) ∨ (∃ xs, Sp xs I' M'))
section
variable {ρ : Option Nat} {P : Program} {N : Nat} {ops : Array Oper} {i : Nat} {l : Sl} {I : Imm} {R M : Seg} {ty : TypeId} {gd : Option (Nat × Bool)} {K : Sl → Imm → Seg → Prop} {Q : Exit → Act → World → Prop} {ds : List Deferred}
theorem yield_run {f : Operand} {L : Nat} {args : Array Operand} {tys : Array TypeId} {vals : List Value} {ρ : Operand → Value} {w : World} (hf : ρ f = .func (.yield L) #[] #[]) (hvals : args.toList.map ρ = vals) :
    (LL ρ (.call { callee := .value f, args, argTypes := tys }) ty).run P w = (Instr.yield L vals.toArray).run P w := by
  have e : args.map ρ = vals.toArray := by apply Array.ext'; simp [hvals]
  show (do let d ← resolve ρ { callee := .value f, args, argTypes := tys } ty; invoke d.target d.args : Sem Next).run P w = _;unfold resolve;simp only [e, hf, Deferred.ofValue];show (Instr.yield L (#[] ++ vals.toArray)).run P w = _;simp
theorem stp_yield {d : Option Tmp} {f : Operand} {L : Nat} {args : Array Operand} {tys : Array TypeId} {vals : List Value} {pre F : Seg} {post : Value → Imm → Seg → Prop}
    (hop : GV ops N i = some (d, .call { callee := .value f, args, argTypes := tys }, ty, gd)) (hg : GD ops l gd = some true) (hf : DA l f = some (.func (.yield L) #[] #[])) (hv : NW l args.toList = some vals)
    (yt : Yt P L vals.toArray I pre post) (hM : M.Perm (pre ++ F))
    (h : ∀ v I' M', I.le I' → post v I' M' → K (ups d v l) I' (M' ++ F)) : Stp P N ops i l I M K := by
  obtain ⟨o, ho, rfl, he, rfl, rfl, hN, hs⟩ := HU hop;obtain ⟨h1, h2⟩ := HW hv;refine ⟨o, ho, hN, hs, hg, ?_, fun w st => ?_⟩
  · rw [he]
    intro x hx;simp only [Op.operands, Call.operands] at hx;rcases Array.mem_append.1 hx with hx | hx
    · simp at hx; subst hx; exact FC hf
    · exact h1 x (by simpa using hx)
  · rw [HQ, he, yield_run (BZ hf) h2]
    obtain ⟨f', tmps, assign, body, hy, hr⟩ := yt F w (st.perm hM);rw [hy];refine RoundIn.mono hr fun e w' ⟨v, I', M', hv', hle, hp, st'⟩ => ?_
    exact ⟨v, hv', I', M' ++ F, hle, st', h v I' M' hle hp⟩
def mark (D : Nat) : Deferred := { target := .collected D, args := #[] }
def RoundQ (I : Imm) (post : Option Code → Imm → Seg → Prop) (F : Seg) : Exit → Act → World → Prop
  | .normal, _, w => ∃ I' M', I.le I' ∧ post none I' M' ∧ St I' (M' ++ F) w
  | .ret, _, w => ∃ I' M', I.le I' ∧ post (some .ret) I' M' ∧ St I' (M' ++ F) w
  | .exit id, _, w => ∃ I' M', I.le I' ∧ post (some (.exit id)) I' M' ∧ St I' (M' ++ F) w
  | .goto t, _, w => ∃ I' M', I.le I' ∧ post (some (.goto t)) I' M' ∧ St I' (M' ++ F) w
  | _, _, _ => False
def putAll : List (Tmp × Value) → Sl → Sl
  | [], l => l
  | (t, v) :: r, l => putAll r ((t, v) :: l)
theorem slots_fold {N : Nat} {dfs : List Deferred} : ∀ (xs : List (Tmp × Value)) (l : Sl) (tm : Array Value), Slots N l { tmps := tm, defers := dfs } → (∀ x ∈ xs, x.1 < N) →
    Slots N (putAll xs l) { tmps := xs.foldl (fun t (x : Tmp × Value) => t.setIfInBounds x.1 x.2) tm, defers := dfs } := by
  intro xs
  induction xs with
  | nil => intro l tm h _; exact h
  | cons x xs ih =>
    intro l tm h hN;obtain ⟨t, v⟩ := x;exact ih _ _ (h.put (hN (t, v) List.mem_cons_self) v) (fun y hy => hN y (List.mem_cons_of_mem _ hy))
theorem St.putObj {I : Imm} {M : Seg} {w : World} {r : Nat} {o o' : Obj} (h : St I ((r, o) :: M) w) : St I ((r, o') :: M) (w.putObj r o') := by
  have hh : w.heap[r]? = some o := h.mem r o List.mem_cons_self;have hl : r < w.heap.size := (Array.getElem?_eq_some_iff.1 hh).1;exact h.put (i := 0) (o := o') (o' := o) (w' := w.putObj r o') rfl rfl rfl rfl (World.putObj_heap_same hl) (fun b hb => World.putObj_heap_other hb)
theorem perm3 {A B C : Seg} {x y : Nat × Obj} : ((A ++ (x :: y :: B)) ++ C).Perm (x :: (A ++ (B ++ (y :: C)))) := by
  rw [List.append_assoc];refine List.perm_middle.trans (.cons x (List.Perm.append_left A ?_));exact List.perm_middle.symm
theorem perm4 {A C : Seg} {x y : Nat × Obj} : (A ++ (x :: y :: C)).Perm (x :: (A ++ (y :: C))) := List.perm_middle
theorem ND {α : Type} {c : Code} {g : Operand} {ps : Array Tmp} {assign body : Code} {gf : FuncId} {cv : List Value} {enc : α → List Value} {seq : List α} {R : Imm → Seg → Prop} {Mr M0 F0 : Seg}
    (Cl : List α → Imm → Seg → Prop) (Sp : Code → List α → Imm → Seg → Prop) (sl : α → Nat → Sl) (mm : α → Nat → Seg)
    (hc : c = .rangeFunc g ps assign body) (hg : DA l g = some (.func (.func gf) #[] cv.toArray)) (hcall : FW P gf = true) (hps : ∀ x, (enc x).length = ps.size) (hpN : ps.all (fun t => Nat.blt t N) = true)
    (it : IterCt P gf cv enc seq R I)
    (hmono : ∀ xs I J M, I.le J → Cl xs I M → Cl xs J M)
    (hM : M.Perm (Mr ++ (M0 ++ F0))) (hr : R I Mr) (h0 : Cl [] I M0)
    (hassign : ∀ L x I1 M1, Run (ρ := some L) P N assign (Exit.then (fun a w => ∃ k, Slots N (sl x k) a ∧ a.defers = [] ∧ St I1 (mm x k ++ M1) w) (fun _ _ _ => False)) [] (putAll (ps.toList.zip (enc x)) l) I1 M1)
    (hbody : ∀ L x k xs I1 Mr1 M1 F1, (xs ++ [x]) <+: seq → I.le I1 → R I1 Mr1 → Cl xs I1 M1 →
      Run (ρ := some L) P N body (RoundQ I1 (fun o I' M' => match o with | none => ∃ Mr' M2, M' = Mr' ++ M2 ∧ R I' Mr' ∧ Cl (xs ++ [x]) I' M2 | some c => Sp c (xs ++ [x]) I' M') F1) [] (sl x k) I1 (mm x k ++ (Mr1 ++ (M1 ++ F1))))
    (hdone : ∀ D I' Mr' M', I.le I' → R I' Mr' → Cl seq I' M' → Pst N Q .normal (mark D :: ds) l I' ((D, .deferred (some [])) :: (Mr' ++ (M' ++ F0))))
    (hstop : ∀ D c xs I' M', I.le I' → Sp c xs I' M' → Run (ρ := none) P N c Q (mark D :: ds) l I' ((D, .deferred (some [])) :: (M' ++ F0))) :
    Run (ρ := none) P N c Q ds l I M := by
  subst hc;intro a w hS hD hW;refine wpIn_rangeFunc fun fn _ => ?_
  obtain ⟨rec, hrec⟩ : ∃ rec : LoopState → Option Code → Loop, rec = fun st pe => { state := st, pending := pe, fn, tmps := a.tmps, params := ps, assign, body, defers := w.heap.size } := ⟨_, rfl⟩
  have hW2 : St I ((w.heap.size + 1, .loop (rec .ready none)) :: (w.heap.size, .deferred (some [])) :: (Mr ++ (M0 ++ F0))) ((w.alloc (.deferred (some []))).alloc (.loop (rec .ready none))) := by
    have h1 := (hW.perm hM).new (.deferred (some []));have h2 := h1.new (.loop (rec .ready none));have e : (w.heap.push (Obj.deferred (some []))).size = w.heap.size + 1 := by simp
    rw [e] at h2;exact h2
  generalize hw1 : ((w.alloc (.deferred (some []))).alloc (.loop (rec .ready none))) = w1 at hW2
  refine ⟨w.heap.size + 1, [mark w.heap.size], w1, { target := .fn (.func gf) cv.toArray, args := #[.func (.yield (w.heap.size + 1)) #[] #[]] }, w1, gf, (.func (.yield (w.heap.size + 1)) #[] #[] :: cv).toArray, w1, ?_, ?_, fun _ _ => trivial, ?_, fun h => by simp [fen, Fence.wide] at h, ?_⟩
  · rw [← hw1, hrec]; exact run_enterLoop_outer _ _ _ _ _
  · unfold resolve
    simp only [eval_of hS hg, Deferred.ofValue];simp [Act.eval, pure, Sem.run]
  · show (callFunc gf (#[Value.func (.yield (w.heap.size + 1)) #[] #[]] ++ cv.toArray)).run P w1 = _
    rw [KA hcall];simp
  · refine callsIn_fen.2 ?_
    clear hw1 hW
    generalize w.heap.size + 1 = L at hW2 hrec ⊢
    generalize w.heap.size = D at hW2 hrec ⊢
    have hit := it L (fun xs I M => ∃ M0, M = (L, .loop (rec .ready none)) :: (D, .deferred (some [])) :: M0 ∧ Cl xs I M0)
      (fun xs I M => ∃ c M0, M = (L, .loop (rec .done (some c))) :: (D, .deferred (some [])) :: M0 ∧ Sp c xs I M0)
      (fun xs I J M le ⟨M0, e, h⟩ => ⟨M0, e, hmono xs I J M0 le h⟩) ?_ I Mr ((L, .loop (rec .ready none)) :: (D, .deferred (some [])) :: M0) (Imm.le.refl I) hr ⟨M0, rfl, h0⟩
    · refine (hit F0 w1 (hW2.perm ?_)).mono ?_
      · rw [List.append_assoc]
        exact ((List.perm_middle (l₁ := Mr)).trans (.cons _ (List.perm_middle (l₁ := Mr)))).symm
      · rintro e w' ⟨v, I', M', rfl, hle, hp, st⟩
        rcases hp with ⟨Mr', M2, rfl, hR, M3, rfl, hcl⟩ | ⟨xs, c, M3, rfl, hsp⟩
        · have st2 := st.perm (show ((Mr' ++ ((L, Obj.loop (rec .ready none)) :: (D, .deferred (some [])) :: M3)) ++ F0).Perm ((L, Obj.loop (rec .ready none)) :: (D, .deferred (some [])) :: (Mr' ++ (M3 ++ F0))) by
            rw [List.append_assoc]
            exact (List.perm_middle (l₁ := Mr')).trans (.cons _ (List.perm_middle (l₁ := Mr'))))
          have hl := st2.mem _ _ List.mem_cons_self;refine ⟨none, _, by have := run_endLoop (P := P) hl (by rw [hrec]; simp); rw [hrec] at this; exact this, ?_⟩;refine hdone D I' Mr' M3 hle hR hcl _ _ ⟨hS.size, hS.get⟩ (by show [mark D] ++ a.defers = _; rw [hD]; rfl) ?_;exact (St.putObj st2).drop
        · have hl := st.mem (L) (.loop (rec .done (some c))) (by simp)
          refine ⟨some c, _, by have := run_endLoop (P := P) hl (by rw [hrec]; simp); rw [hrec] at this; exact this, ?_⟩;refine hstop D c xs I' M3 hle hsp _ _ ⟨hS.size, hS.get⟩ (by show [mark D] ++ a.defers = _; rw [hD]; rfl) ?_;exact (St.putObj (M := (D, Obj.deferred (some [])) :: (M3 ++ F0)) st).drop
    · rintro xs x I1 Mr1 M1' hpre hle hR ⟨M1, rfl, hcl⟩ F1 w2 st
      have hl := st.mem L (.loop (rec .ready none)) (by simp);have hy := run_yield (P := P) (args := (enc x).toArray) hl (by rw [hrec]; simpa using hps x);rw [hrec] at hy;refine ⟨_, _, assign, body, hy, roundIn_of_wpIn (F := fen none) trivial ?_⟩;have hfold : ((ps.zip (enc x).toArray).foldl (fun tmps (t, a) => tmps.setIfInBounds t a) a.tmps) = (ps.toList.zip (enc x)).foldl (fun t (x : Tmp × Value) => t.setIfInBounds x.1 x.2) a.tmps := by
        rw [← Array.foldl_toList];simp
      simp only;rw [hfold];refine wpIn_mono (hassign L x I1 _ _ w2 (slots_fold (ps.toList.zip (enc x)) l a.tmps ⟨hS.size, hS.get⟩ ?_) rfl st) ?_
      · intro y hy'
        have := (List.of_mem_zip (show (y.1, y.2) ∈ ps.toList.zip (enc x) from hy')).1;have h3 := Array.all_eq_true'.1 hpN y.1 (by simpa using this);exact Nat.le_of_ble_eq_true h3
      · rintro e a1 w3 hq
        cases e with
        | normal =>
          obtain ⟨k, hS3, hD3, st3⟩ := hq;have st4 : St I1 ((L, .loop (rec .ready none)) :: (mm x k ++ (Mr1 ++ (M1 ++ ((D, .deferred (some [])) :: F1))))) w3 := st3.perm ((List.Perm.append_left (mm x k) perm3).trans List.perm_middle);have hl3 := st4.mem L (.loop (rec .ready none)) List.mem_cons_self;refine ⟨_, run_beginRound hl3 (by rw [hrec]), ?_⟩;have st5 : St I1 (mm x k ++ (Mr1 ++ (M1 ++ ((L, .loop { rec .ready none with state := .busy }) :: (D, .deferred (some [])) :: F1)))) (w3.putObj L (.loop { rec .ready none with state := .busy })) := by
            refine (St.putObj st4).perm ?_;refine (List.perm_middle (l₁ := mm x k)).symm.trans (List.Perm.append_left (mm x k) ?_);have := (perm3 (A := Mr1) (B := M1) (C := F1) (x := (L, Obj.loop { rec .ready none with state := .busy })) (y := (D, Obj.deferred (some [])))).symm;refine this.trans ?_;rw [List.append_assoc];refine List.Perm.append_left Mr1 ?_;show ((L, Obj.loop { rec .ready none with state := .busy }) :: (D, .deferred (some [])) :: (M1 ++ F1)).Perm _;exact ((List.perm_middle (l₁ := M1)).trans (.cons _ (List.perm_middle (l₁ := M1)))).symm
          refine wpIn_mono (hbody L x k xs I1 Mr1 M1 _ hpre hle hR hcl a1 _ hS3 hD3 st5) ?_
          have fin : ∀ (jump : Option Code) (I' : Imm) (M' : Seg) (w6 : World), St I' (M' ++ ((L, .loop { rec .ready none with state := .busy }) :: (D, .deferred (some [])) :: F1)) w6 →
              (Instr.endRound L jump).run P w6 = .ok (.bool jump.isNone) (w6.putObj L (.loop (rec (if jump.isNone then .ready else .done) jump))) ∧
              St I' ((L, .loop (rec (if jump.isNone then .ready else .done) jump)) :: (M' ++ ((D, .deferred (some [])) :: F1))) (w6.putObj L (.loop (rec (if jump.isNone then .ready else .done) jump))) := fun jump I' M' w6 st6 => by
            have st7 := st6.perm perm4;have hl7 := st7.mem _ _ List.mem_cons_self;have := run_endRound (P := P) jump hl7;rw [hrec] at this ⊢;exact ⟨this, by rw [hrec] at st7; exact St.putObj st7⟩
          rintro e a6 w6 hq6
          have stop : ∀ (c : Code), (∃ I' M', I1.le I' ∧ Sp c (xs ++ [x]) I' M' ∧ St I' (M' ++ ((L, .loop { rec .ready none with state := .busy }) :: (D, .deferred (some [])) :: F1)) w6) →
              ∃ v w', (Instr.endRound L (some c)).run P w6 = .ok v w' ∧ RQ I1 (fun v I' M' => (v = .bool true ∧ ∃ Mr' M2, M' = Mr' ++ M2 ∧ R I' Mr' ∧ ∃ M0, M2 = (L, .loop (rec .ready none)) :: (D, .deferred (some [])) :: M0 ∧ Cl (xs ++ [x]) I' M0) ∨
                (v = .bool false ∧ ∃ c M0, M' = (L, .loop (rec .done (some c))) :: (D, .deferred (some [])) :: M0 ∧ Sp c (xs ++ [x]) I' M0)) F1 (.returned v) w' := by
            rintro c ⟨I', M', hle', hp, st6⟩
            obtain ⟨h1, h2⟩ := fin (some c) I' M' w6 st6;exact ⟨_, _, h1, _, I', _, rfl, hle', .inr ⟨rfl, c, M', rfl, hp⟩, h2.perm (.cons _ List.perm_middle)⟩
          cases e with
          | normal =>
            obtain ⟨I', M', hle', ⟨Mr', M2, rfl, hR', hcl'⟩, st6⟩ := hq6;obtain ⟨h1, h2⟩ := fin none I' _ w6 st6;refine ⟨_, _, h1, _, I', _, rfl, hle', .inl ⟨rfl, Mr', _, rfl, hR', M2, rfl, hcl'⟩, h2.perm ?_⟩;rw [List.append_assoc];exact perm3.symm
          | ret => exact stop .ret hq6
          | exit id => exact stop (.exit id) hq6
          | goto t => exact stop (.goto t) hq6
          | panic ch => exact hq6.elim
          | outgrown => exact hq6.elim
        | exit id => exact hq.elim
        | goto t => exact hq.elim
        | ret => exact hq.elim
        | panic ch => exact hq.elim
        | outgrown => exact hq.elim
def isNI : Value → Option Bool
  | .nilIface => some true
  | .iface _ _ => some false
  | _ => none
def tyIface (P : Program) (t : TypeId) : Bool := match P.underlying t with | some (.interface _) => true | _ => false
theorem det_eqIface {x : Operand} {T T' : TypeId} {v : Value} {b : Bool} {d : Nat} (hop : GV ops N i = some (some d, .binOp .eql T x (.const .nilIface) T', ty, gd)) (hg : GD ops l gd = some true) (hT : tyIface P T = true) (hx : DA l x = some v) (hb : isNI v = some b) : Det P N ops i l I R d (.bool b) :=
  FY hop hg (HT hx rfl) fun I' M' => by
    show wpL P ((do eqGuard .eql T x (.const .nilIface) (rho l x) .nilIface; binOp .eql T (rho l x) .nilIface) >>= fun x => pure (Next.value x)) _ I' M';rw [BZ hx];refine ER ?_;obtain ⟨ms, hms⟩ : ∃ ms, P.underlying T = some (.interface ms) := by
      unfold tyIface at hT
      split at hT
      · rename_i ms h; exact ⟨ms, h⟩
      · cases hT
    have e1 : eqGuard .eql T x (.const .nilIface) v .nilIface = pure () := by
      cases v <;> simp [isNI] at hb <;> simp [eqGuard]
    rw [e1];show wpL P (binOp .eql T v .nilIface) _ I' M';cases v <;> simp [isNI] at hb <;> subst hb
    all_goals
      first
        | show wpL P (Op.equalIn 10000 T .nilIface .nilIface >>= fun b => pure (Value.bool b)) _ I' M'
        | show wpL P (Op.equalIn 10000 T (.iface _ _) .nilIface >>= fun b => pure (Value.bool b)) _ I' M'
      rw [AC];unfold Op.equalIn;rw [AC, AJ hms];exact ⟨rfl, rfl⟩
def Hk (K : Sl → Imm → Seg → Prop) (l : Sl) (I : Imm) (M : Seg) : Prop := ∀ w, St I M w → ∃ J M', I.le J ∧ St J M' w ∧ K l J M'
theorem LY {K : Sl → Imm → Seg → Prop} {l : Sl} {I : Imm} {M : Seg} (h : K l I M) : Hk K l I M := fun _ st => ⟨I, M, Imm.le.refl I, st, h⟩
theorem hk_mem {K : Sl → Imm → Seg → Prop} {l : Sl} {I : Imm} {M M' : Seg} (s : ∀ w, St I M w → St I M' w) (next : Hk K l I M') : Hk K l I M := fun w st => next w (s w st)
theorem IZ {α : Type} {E : TypeId} {sz : Nat} {cell : α → Nat → Value} {K : Sl → Imm → Seg → Prop} {l : Sl} {I : Imm} {M A B Ms : Seg} {v : Value} {xs : List α} (dflt : α)
    (h : Own E sz cell v xs Ms) (hl : xs.length ≤ 140737488355328) (hM : M.Perm (Ms ++ A)) (hA : A.Perm B) (next : ∀ J, I.le J → IsSl sz cell dflt J v xs → Hk K l J B) : Hk K l I M := fun w st => by
  obtain ⟨J, h1, h2, h3⟩ := h.freeze dflt hl (st.perm hM);obtain ⟨J2, M', g1, g2, g3⟩ := next J h1 h2 w (h3.perm hA);exact ⟨J2, M', h1.trans g1, g2, g3⟩
theorem stp_hk {K : Sl → Imm → Seg → Prop} (h : Stp P N ops i l I M (Hk K)) : Stp P N ops i l I M K := by
  obtain ⟨o, h1, h2, h3, h4, h5, h6⟩ := h;refine ⟨o, h1, h2, h3, h4, h5, fun w st => (h6 w st).mono fun v w' ⟨I', M', g1, g2, g3⟩ => ?_⟩;obtain ⟨J, M2, k1, k2, k3⟩ := g3 w' g2;exact ⟨J, M2, g1.trans k1, k2, k3⟩
theorem PT {S : Seg} {Kfin : Sl → Imm → Seg → Prop} {rest : List (Nat × Bool)}
    (h : Stp P N ops i l I (R ++ S) (Hk fun l' I' M' => ∃ S', M'.Perm (R ++ S') ∧ OFP P N ops R Kfin rest l' I' S')) : OFP P N ops R Kfin ((i, false) :: rest) l I S := stp_hk h
theorem pst_round {I₀ : Imm} {post : Option Code → Imm → Seg → Prop} {F M' : Seg} (hle : I₀.le I) (hp : post none I M') (hs : (M' ++ F).Sublist M) : Pst N (RoundQ I₀ post F) .normal [] l I M := fun _ _ _ _ hW => ⟨I, M', hle, hp, hW.sub hs⟩
theorem pst_round_ret {I₀ : Imm} {post : Option Code → Imm → Seg → Prop} {F M' : Seg} (hle : I₀.le I) (hp : post (some .ret) I M') (hs : (M' ++ F).Sublist M) : Pst N (RoundQ I₀ post F) .ret [] l I M := fun _ _ _ _ hW => ⟨I, M', hle, hp, hW.sub hs⟩
def RetQM (P : Program) (fn : Func) (I : Imm) (post : Value → Imm → Seg → Prop) (F : Seg) : Exit → Act → World → Prop :=
  bodyPostM (fen none) 0 P fn (RQ I post F)
theorem NR {f : FuncId} {fn : Func} {args : List Value} {pre : Seg} {post : Value → Imm → Seg → Prop} (hf : P.funcs[f]? = some fn) (hb : fn.body.isSome = true)
    (hN : fn.ntmps = N) (hle : args.length ≤ N)
    (h : ∀ F, Run (ρ := none) P N (AU fn) (RetQM P fn I post F) [] (IB 0 args) I (pre ++ F)) : Ct P f args.toArray I pre post := by
  intro F w st;have hbody : fn.body = some (AU fn) := by
    cases hx : fn.body with
    | none => rw [hx] at hb; cases hb
    | some c => simp [AU, hx]
  refine callsIn_fen.1 (callsIn_of_wp_marks (F := fen none) (n := 0) hf hbody trivial (h F _ w ⟨?_, fun t v hv => ?_⟩ rfl st))
  · simp; omega
  obtain ⟨_, h2⟩ := JL args 0 t v hv;rw [Nat.sub_zero] at h2;have hlt : t < args.length := (List.getElem?_eq_some_iff.1 h2).1;rw [Array.getElem?_append_left (by simpa using hlt)]
  simpa using h2
def CtD (P : Program) (f : FuncId) (args : Array Value) (I : Imm) (pre : Seg) (post : Value → Imm → Seg → Prop) : Prop :=
  ∀ F w u, St I (pre ++ F) w → CallsDIn (fen none) 0 P f args u w fun e u' w' => u' = u ∧ RQ I post F e w'
theorem fnD_of_run {f : FuncId} {fn : Func} {args : List Value} {pre : Seg} {post : Value → Imm → Seg → Prop} (hf : P.funcs[f]? = some fn) (hb : fn.body.isSome = true)
    (hN : fn.ntmps = N) (hle : args.length ≤ N)
    (h : ∀ F, Run (ρ := none) P N (AU fn) (RetQ P fn I post F) [] (IB 0 args) I (pre ++ F)) : CtD P f args.toArray I pre post := by
  intro F w u st;have hbody : fn.body = some (AU fn) := by
    cases hx : fn.body with
    | none => rw [hx] at hb; cases hb
    | some c => simp [AU, hx]
  refine callsDIn_of_wp hf hbody trivial (h F _ w ⟨?_, fun t v hv => ?_⟩ rfl st)
  · simp; omega
  obtain ⟨_, h2⟩ := JL args 0 t v hv;rw [Nat.sub_zero] at h2;have hlt : t < args.length := (List.getElem?_eq_some_iff.1 h2).1;rw [Array.getElem?_append_left (by simpa using hlt)]
  simpa using h2
section
variable {fn : Func} {I₀ : Imm} {post : Value → Imm → Seg → Prop} {F : Seg}
def blocksOf (Ds : List Nat) : Seg := Ds.map fun D => (D, .deferred (some []))
theorem leaves_marks {R : Ending → World → Prop} {tm : Array Value} : ∀ (Ds : List Nat) (w : World) (M : Seg), St I (blocksOf Ds ++ M) w → (∀ w', St I M w' → ∃ v, (results fn tm).run P w' = .ok v w' ∧ R (.returned v) w') →
    LeavesInM (fen none) 0 P fn tm R (Ds.map mark) .returning w := by
  intro Ds
  induction Ds with
  | nil => intro w M st h; exact h w st
  | cons D Ds ih =>
    intro w M st h;have hh := st.mem D (.deferred (some [])) (by simp [blocksOf]);exact ⟨by simp, .inl ⟨D, _, rfl, run_takeDeferred hh, ih _ M (St.putObj (M := blocksOf Ds ++ M) st).drop h⟩⟩
theorem HD (Ds : List Nat) {e : Exit} (he : e = .ret ∨ e = .normal) (hM : M.Perm (blocksOf Ds ++ R)) (h : Pst N (RetQ P fn I₀ post F) e [] l I R) : Pst N (RetQM P fn I₀ post F) e (Ds.map mark) l I M := fun a w hS hD hW => by
  have key : LeavesInM (fen none) 0 P fn a.tmps (RQ I₀ post F) a.defers .returning w := by
    rw [hD];refine leaves_marks Ds w R (hW.perm hM) fun w' st => ?_
    have := h { tmps := a.tmps, defers := [] } w' ⟨hS.size, hS.get⟩ rfl st;rcases he with rfl | rfl
    · exact this.2
    · exact this.2
  rcases he with rfl | rfl
  · exact key
  · exact key
theorem pst_deferred {fid : FuncId} {vals cv : List Value} {pre F1 : Seg} {post1 : Value → Imm → Seg → Prop} (hcall : FW P fid = true) (ct : CtD P fid (vals ++ cv).toArray I pre post1) (hM : M.Perm (pre ++ F1))
    (next : ∀ v I' M', I.le I' → post1 v I' M' → Pst N (RetQM P fn I₀ post F) .ret ds l I' (M' ++ F1)) : Pst N (RetQM P fn I₀ post F) .ret ({ target := .fn (.func fid) cv.toArray, args := vals.toArray } :: ds) l I M := fun a w hS hD hW => by
  show LeavesInM (fen none) 0 P fn a.tmps (RQ I₀ post F) a.defers .returning w;rw [hD];refine ⟨by simp, .inr ⟨fun h => by simp [fen, Fence.wide] at h, .func fid, cv.toArray, fid, (vals ++ cv).toArray, rfl, ?_, fun _ _ => trivial, ?_⟩⟩
  · show (callFunc fid (vals.toArray ++ cv.toArray)).run P w = _
    rw [KA hcall];simp
  · refine (ct F1 w .returning (hW.perm hM)).mono ?_
    rintro e u' w' ⟨rfl, v, I', M', rfl, hle, hp, st⟩
    exact next v I' M' hle hp { tmps := a.tmps, defers := ds } w' ⟨hS.size, hS.get⟩ rfl st
end
def deferAt (ops : Array Oper) (i : Nat) : Option (Call × TypeId × Option (Nat × Bool)) :=
  match ops[i]? with
  | some o => match o.op, o.dst with
    | .defer c, none => some (c, o.type, o.guard)
    | _, _ => none
  | none => none
theorem seq_defer {f : Operand} {fid : FuncId} {args : Array Operand} {tys : Array TypeId} {vals cv : List Value} (hop : deferAt ops i = some ({ callee := .value f, args, argTypes := tys }, ty, none)) (hf : DA l f = some (.func (.func fid) #[] cv.toArray)) (hv : NW l args.toList = some vals)
    (next : Seq (ρ := none) P N ops Q ({ target := .fn (.func fid) cv.toArray, args := vals.toArray } :: ds) (i + 1) l I M) : Seq (ρ := none) P N ops Q ds i l I M := by
  obtain ⟨h1, h2⟩ := HW hv;unfold deferAt at hop;cases ho : ops[i]? with
  | none => rw [ho] at hop; cases hop
  | some o =>
    rw [ho] at hop;simp only at hop
    split at hop
    · rename_i c hc hdst
      simp only [Option.some.injEq, Prod.mk.injEq] at hop;obtain ⟨rfl, rfl, hgd⟩ := hop;intro a w hS hD hW;have hlt : i < ops.size := (Array.getElem?_eq_some_iff.1 ho).1;rw [NY hlt];simp only [wpOpsIn, ho];have hw : Region.wanted o (yielded ops a.tmps) = true := by simp [Region.wanted, hgd]
      rw [if_pos hw];refine ⟨fun _ _ => trivial, ?_⟩;have hargs : args.map a.eval = vals.toArray := by
        apply Array.ext'
        simp only [Array.toList_map];rw [← h2];refine List.map_congr_left fun x hx => ?_
        obtain ⟨v, hv'⟩ := h1 x hx;rw [eval_of hS hv', BZ hv']
      have hrun : (o.semAt (fen none).round a.eval).run P w = .ok (.defer { target := .fn (.func fid) cv.toArray, args := vals.toArray }) w := by
        show (Oper.semAt none a.eval o).run P w = _;rw [Oper.semAt_none, HQ, hc];show (do pure (Next.defer (← resolve a.eval { callee := .value f, args, argTypes := tys } o.type)) : Sem Next).run P w = _;unfold resolve;simp only [hargs, eval_of hS hf, Deferred.ofValue];simp [Sem.run_bind, Result.andThen]
      rw [hrun];show wpOpsIn (fen none) 0 P ops Q _ ({ a with defers := _ :: a.defers }.put o.dst undef) w;rw [hdst];exact next _ w ⟨hS.size, hS.get⟩ (by rw [← hD]; rfl) hW
    · cases hop
end
end Go.Sl
namespace Go.Sh
open Go Go.Sl
def BO (p : List Int) : Array Value := (p.map encI).toArray
def encP (p : Place) : Value := .agg (BO p.val)
theorem FE (p : Place) : (BO p.val).size = 10 := by simp [BO, p.property]
theorem MB (p : List Int) : ∀ u ∈ (BO p).toList, EY u = true := fun u hu => by
  simp only [BO, List.toList_toArray, List.mem_map] at hu;obtain ⟨x, _, rfl⟩ := hu;rfl
def flatP : List (Nat × SK) := (List.range 10).map fun i => (i, .i .i64)
theorem okC_pl (p : Place) : okC (BO p.val) flatP = true := by
  rw [okC, List.all_eq_true];intro x hx;obtain ⟨i, hi, rfl⟩ := List.mem_map.1 hx;have hi := List.mem_range.1 hi;have : i < p.val.length := by rw [p.property]; exact hi
  simp [BO, this, encI, skV]
theorem eqC_pl (a b : Place) : eqC (BO a.val) (BO b.val) flatP = decide (a = b) := by
  have key : eqC (BO a.val) (BO b.val) flatP = true ↔ a = b := by
    constructor
    · intro h
      rw [eqC, List.all_eq_true] at h
      apply Subtype.ext
      refine List.ext_getElem (by rw [a.property, b.property]) fun i h1 h2 => ?_
      have := h (i, .i .i64) (List.mem_map.2 ⟨i, List.mem_range.2 (by rw [← a.property]; exact h1), rfl⟩)
      simpa [BO, h1, h2, encI, scE] using this
    · rintro rfl
      rw [eqC, List.all_eq_true];intro x hx;obtain ⟨i, hi, rfl⟩ := List.mem_map.1 hx;have hi := List.mem_range.1 hi;have : i < a.val.length := by rw [a.property]; exact hi
      simp [BO, this, encI, scE]
  by_cases h : a = b
  · rw [decide_eq_true h]; exact key.2 h
  · rw [decide_eq_false h]
    cases h2 : eqC (BO a.val) (BO b.val) flatP with
    | false => rfl
    | true => exact absurd (key.1 h2) h
theorem HS {P : Program} {kt : TypeId} (h : JW P 4 kt = some (10, flatP)) (hagg : EJ P kt = some true) : KeyOk P kt encP :=
  keyOk_flat h (by decide) hagg (fun p : Place => BO p.val) FE okC_pl eqC_pl
theorem setRow_put (p : List Int) (c i k : Nat) (h : 2 * c + 1 < p.length) : (HY (BO p) (0 + c * 2) [.int .i64 i, .int .i64 k]).toList = (BO (putP p c i k)).toList := by
  simp only [HY, BO, putP];rw [show 0 + c * 2 = 2 * c by omega];simp [List.map_set, encI]
section
variable {P : Program} {N : Nat} {ops : Array Oper} {i : Nat} {l : Sl} {I : Imm} {R M : Seg} {ty : TypeId} {gd : Option (Nat × Bool)} {K : Sl → Imm → Seg → Prop} {d : Nat}
theorem stp_storePl {T S : TypeId} {x y : Operand} {p : List Int} {b c i' k' : Nat} {M' : Seg} (k : Nat) (hop : GV ops N i = some (none, .store T x y, ty, gd)) (hg : GD ops l gd = some true)
    (hx : DA l x = some (.pointer (some ⟨b, 0 + c * 2, none⟩))) (hy : DA l y = some (.agg #[.int .i64 i', .int .i64 k'])) (hsz : DZ P T = some 2)
    (hk : M[k]? = some (b, Obj.cells (BO p) S (0, 0))) (hc : 2 * c + 1 < p.length) (hM : M.set k (b, Obj.cells (BO (putP p c i' k')) S (0, 0)) = M')
    (h : K l I M') : Stp P N ops i l I M K := by
  refine stp_store (cs := (BO p).toList) (cs' := (BO (putP p c i' k')).toList) (vs := [.int .i64 i', .int .i64 k']) (off := 0 + c * 2) (S := S) (M' := M') k hop hg hx hy hsz rfl rfl rfl (by simpa using hk) ?_ ?_ (by simpa using hM) h
  · simp only [List.length_cons, List.length_nil, Array.length_toList, BO, List.size_toArray, List.length_map]; omega
  · have := setRow_put p c i' k' hc
    simpa using this
end
def YardR (E T : TypeId) (y : Nat) (v1 v2 v3 : Value) (Y : Yard) : Imm → Seg → Prop := fun I Mr =>
  ∃ ws Ms, Mr = (y, Obj.cells #[v1, v2, v3] T (0, 0)) :: Ms ∧ ED I v1 Y.cars ∧ AZ I v2 Y.room ∧ Own E 1 AN v3 ws Ms ∧ RowsV I ws Y.tracks
theorem IL (Y : Yard) : (AY Y).val.length = 10 := (AY Y).property
theorem metV_getD (p : Place) (m : Met) : (PG p (metV m)).getD (.int .i64 0) = .int .i64 ((JX p m).getD 0 : Nat) := by
  rw [metV_get]; cases JX p m <;> rfl
theorem metV_isSome (p : Place) (m : Met) : (PG p (metV m)).isSome = (JX p m).isSome := by
  rw [metV_get]; cases JX p m <;> rfl
theorem YardR.mono {E T : TypeId} {y : Nat} {v1 v2 v3 : Value} {Y : Yard} {I J : Imm} {M : Seg} (h : YardR E T y v1 v2 v3 Y I M) (le : I.le J) : YardR E T y v1 v2 v3 Y J M := by
  obtain ⟨ws, Ms, h1, h2, h3, h4, h5⟩ := h;exact ⟨ws, Ms, h1, h2.mono le, h3.mono le, h4, h5.mono le⟩
def DJ (ps : List (Yard → Bool)) (Y : Yard) : Bool := ps.all fun p => p Y
def KJ : Yard → Bool := fun _ => false
def GoalsOk (P : Program) (E T : TypeId) (I : Imm) (A : Yard) (gs : List Value) (ps : List (Yard → Bool)) : Prop :=
  gs.length = ps.length ∧ ∀ i, i < gs.length → ∃ fid cv, gs.getD i undef = .func (.func fid) #[] (List.toArray cv) ∧ FW P fid = true ∧
    ∀ J y v1 v2 v3 Y ws Ms, I.le J → Kin A Y → ED J v1 Y.cars → AZ J v2 Y.room → Own E 1 AN v3 ws Ms → RowsV J ws Y.tracks → (∀ j, j < i → (ps.getD j KJ) Y = true) →
      Ct P fid (.pointer (some ⟨y, 0, none⟩) :: cv).toArray J ((y, Obj.cells #[v1, v2, v3] T (0, 0)) :: Ms) (fun v I' M' => v = .bool ((ps.getD i KJ) Y) ∧ M' = (y, Obj.cells #[v1, v2, v3] T (0, 0)) :: Ms)
theorem GoalsOk.mono {P : Program} {E T : TypeId} {I J : Imm} {A : Yard} {gs : List Value} {ps : List (Yard → Bool)} (h : GoalsOk P E T I A gs ps) (le : I.le J) : GoalsOk P E T J A gs ps :=
  ⟨h.1, fun i hi => by
    obtain ⟨fid, cv, e, hc, hct⟩ := h.2 i hi
    exact ⟨fid, cv, e, hc, fun K y v1 v2 v3 Y ws Ms hle => hct K y v1 v2 v3 Y ws Ms (le.trans hle)⟩⟩
theorem allP_done {ps : List (Yard → Bool)} {Y : Yard} (h : ∀ j, j < ps.length → (ps.getD j KJ) Y = true) : DJ ps Y = true := by
  rw [DJ, List.all_eq_true];intro p hp;obtain ⟨i, hi, rfl⟩ := List.mem_iff_getElem.1 hp;have := h i hi
  simpa [List.getD, hi] using this
theorem allP_miss {ps : List (Yard → Bool)} {Y : Yard} {k : Nat} (hk : k < ps.length) (h : (ps.getD k KJ) Y = false) : DJ ps Y = false := by
  rw [DJ, List.all_eq_false];refine ⟨ps.getD k KJ, AL hk, by simp [h]⟩
theorem before_snoc {ps : List (Yard → Bool)} {Y : Yard} {k : Nat} (h : ∀ j, j < k → (ps.getD j KJ) Y = true) (hk : (ps.getD k KJ) Y = true) : ∀ j, j < k + 1 → (ps.getD j KJ) Y = true := fun j hj => by
  rcases Nat.lt_or_ge j k with h1 | h1
  · exact h j h1
  · have : j = k := by omega
    subst this; exact hk
def CQ (order : List Int) (Y : Yard) : Bool := decide (Y.tracks.getD 0 [] = order)
def wholeP (Y : Yard) : Bool := decide (((Y.tracks.getD 0 []).length : Int) = (Y.cars.length : Int))
def lastP (cs t : List Int) : Bool := (t.drop (t.length - cs.length)).all fun c => decide (c ∈ cs)
theorem in_snoc {l cs : List Int} {k : Nat} (h : ∀ j, j < k → l.getD j 0 ∈ cs) (hk : l.getD k 0 ∈ cs) : ∀ j, j < k + 1 → l.getD j 0 ∈ cs := fun j hj => by
  rcases Nat.lt_or_ge j k with h1 | h1
  · exact h j h1
  · have : j = k := by omega
    subst this; exact hk
theorem lastP_miss {cs t : List Int} {k : Nat} (hk : k < (t.drop (t.length - cs.length)).length) (h : ¬ (t.drop (t.length - cs.length)).getD k 0 ∈ cs) : lastP cs t = false := by
  rw [lastP, List.all_eq_false];exact ⟨_, AL (d := 0) hk, by simpa using h⟩
theorem lastP_all {cs t : List Int} (h : ∀ j, j < (t.drop (t.length - cs.length)).length → (t.drop (t.length - cs.length)).getD j 0 ∈ cs) : lastP cs t = true := by
  rw [lastP, List.all_eq_true];intro c hc;obtain ⟨i, hi, rfl⟩ := List.mem_iff_getElem.1 hc;have := h i hi;rw [List.getD, List.getElem?_eq_getElem hi] at this
  simpa only [Option.getD_some, decide_eq_true_eq] using this
theorem Kin.good {A Y : Yard} (f : Fine A) (k : Kin A Y) : GoodY Y := by
  refine ⟨fun t ht c hc => ?_, by rw [k.cars]; exact f.good.small, by rw [k.room, k.len]; exact f.good.len, by rw [k.perm.length_eq]; exact f.good.sum⟩;rw [k.cars];exact IX f.ok c (k.perm.mem_iff.1 (List.mem_flatten.2 ⟨t, ht, hc⟩))
theorem Kin.len3 {A Y : Yard} (f : Fine A) (k : Kin A Y) : Y.tracks.length ≤ 3 := by rw [k.len, f.len]; exact f.room3
theorem Kin.cars5 {A Y : Yard} (f : Fine A) (k : Kin A Y) : Y.cars.length ≤ 5 := by rw [k.cars]; exact f.cars
theorem Kin.pos {A Y : Yard} (f : Fine A) (k : Kin A Y) : 0 < Y.tracks.length := by rw [k.len, f.len]; exact f.room1
theorem back_ok {Y : Yard} {s : Shift} (h : BJ Y s = 0) : (0 ≤ (CJ s).frm ∧ (CJ s).frm < (moved Y s).tracks.length) ∧ (0 ≤ (CJ s).to ∧ (CJ s).to < (moved Y s).tracks.length) ∧
    (0 ≤ (CJ s).many ∧ (CJ s).many ≤ ((moved Y s).tracks.getD (CJ s).frm.toNat []).length) := by
  have m := mayOk h;have hf := m.frm; have ht := m.to; have hne := m.ne; have hm := m.many;have hne' : s.frm.toNat ≠ s.to.toNat := by omega
  refine ⟨by simpa [CJ, moved] using ht, by simpa [CJ, moved] using hf, by simp only [CJ]; omega, ?_⟩;simp only [CJ, moved, List.getD];rw [List.getElem?_set_ne hne', List.getElem?_set_self (by omega)];simp only [Option.getD_some, List.length_append, List.length_drop, EX, trk];simp only [List.getD] at hm ⊢;omega
theorem NV {α : Type} {o : Option α} (h : o.isSome = false) : o = none := by cases o <;> first | rfl | cases h
theorem some_of {α : Type} {o : Option α} (h : o.isSome = true) : ∃ l, o = some l := by cases o <;> first | cases h; done | exact ⟨_, rfl⟩
theorem LJ {xs ds : List Shift} {s : Shift} (h : xs ++ [s] <+: ds) : ds.drop xs.length = s :: ds.drop (xs ++ [s]).length := by
  obtain ⟨r, rfl⟩ := h;simp
theorem MT {xs ds : List Shift} {s : Shift} (h : xs ++ [s] <+: ds) : s ∈ ds := h.subset (by simp)
theorem try_next {f : Shift → Met → Option (List Shift) × Met} {ds xs : List Shift} {s : Shift} {m : Met} (h : xs ++ [s] <+: ds) (hf : (f s m).1 = none) : GF f (ds.drop xs.length) m = GF f (ds.drop (xs ++ [s]).length) (f s m).2 := by
  rw [LJ h];simp only [GF];cases hr : f s m with
  | mk o m' => rw [hr] at hf; simp only at hf; subst hf; rfl
theorem try_hit {f : Shift → Met → Option (List Shift) × Met} {ds xs : List Shift} {s : Shift} {m : Met} {l : List Shift} (h : xs ++ [s] <+: ds) (hf : (f s m).1 = some l) : GF f (ds.drop xs.length) m = (some (s :: l), (f s m).2) := by
  rw [LJ h];simp only [GF];cases hr : f s m with
  | mk o m' => rw [hr] at hf; simp only at hf; subst hf; rfl
theorem try_done {f : Shift → Met → Option (List Shift) × Met} {ds : List Shift} {m : Met} : GF f (ds.drop ds.length) m = (none, m) := by
  rw [CM (Nat.le_refl _)]; rfl
theorem search_goal {g : Yard → Bool} {d : Nat} {Y : Yard} {m : Met} (h : g Y = true) : AP g d Y m = (some [], m) := by
  cases d <;> simp [AP, h]
theorem search_zero {g : Yard → Bool} {Y : Yard} {m : Met} (h : g Y = false) : AP g 0 Y m = (none, m) := by simp [AP, h]
theorem search_stop {g : Yard → Bool} {d : Nat} {Y : Yard} {m : Met} (h : g Y = false) (hd : d = 0 ∨ (JX (AY Y) m).isSome = true ∧ d ≤ (JX (AY Y) m).getD 0) : AP g d Y m = (none, m) := by
  cases d with
  | zero => exact search_zero h
  | succ d =>
    rcases hd with hd | ⟨h1, h2⟩
    · cases hd
    · simp only [AP, h, Bool.false_eq_true, if_false]
      rw [if_pos];cases hg : JX (AY Y) m with
      | none => rw [hg] at h1; cases h1
      | some n => rw [hg] at h2; simpa [stopped] using h2
theorem search_go {g : Yard → Bool} {d : Nat} {Y : Yard} {m : Met} (h : g Y = false) (hd : ¬ ((JX (AY Y) m).isSome = true ∧ d + 1 ≤ (JX (AY Y) m).getD 0)) :
    AP g (d + 1) Y m = GF (fun s met => AP g d (moved Y s) met) ((draws Y).drop ([] : List Shift).length) (updM (AY Y) (d + 1) m) := by
  simp only [AP, h, Bool.false_eq_true, if_false, List.length_nil, List.drop_zero];rw [if_neg];cases hg : JX (AY Y) m with
  | none => simp [stopped]
  | some n =>
    rw [hg] at hd
    simpa [stopped] using hd
theorem tryAll_len {f : Shift → Met → Option (List Shift) × Met} {d : Nat} (h : ∀ s m, ((f s m).1.getD []).length ≤ d) : ∀ (ss : List Shift) (m : Met), ((GF f ss m).1.getD []).length ≤ d + 1 := by
  intro ss
  induction ss with
  | nil => intro m; simp [GF]
  | cons s r ih =>
    intro m;simp only [GF];have := h s m;cases hr : f s m with
    | mk o m' =>
      rw [hr] at this;cases o with
      | none => exact ih m'
      | some l => simpa using this
theorem search_len (g : Yard → Bool) : ∀ (d : Nat) (Y : Yard) (m : Met), ((AP g d Y m).1.getD []).length ≤ d := by
  intro d
  induction d with
  | zero => intro Y m; simp only [AP]; split <;> simp
  | succ d ih =>
    intro Y m;simp only [AP]
    split
    · simp
    · split
      · simp
      · exact tryAll_len (fun s m => ih _ m) _ _
def stopB (d : Nat) (o : Option Nat) : Bool := (cmp .eql (↑d) (0)) || (o.isSome && cmp .geq (↑(o.getD 0)) (↑d))
theorem search_stop2 {g : Yard → Bool} {d : Nat} {Y : Yard} {m : Met} (h : g Y = false) (hb : stopB d (JX (AY Y) m) = true) : AP g d Y m = (none, m) := by
  refine search_stop h ?_;unfold stopB at hb;rcases or_t hb with h1 | h1
  · exact .inl (by have := CV h1; omega)
  · obtain ⟨h2, h3⟩ := and_t h1
    exact .inr ⟨h2, by have := geq_t h3; omega⟩
theorem search_go_of {d : Nat} {o : Option Nat} (hb : stopB d o = false) : d ≠ 0 ∧ ¬ (o.isSome = true ∧ d ≤ o.getD 0) := by
  unfold stopB at hb;obtain ⟨h1, h2⟩ := or_f hb;refine ⟨by have := CU h1; omega, fun ⟨h3, h4⟩ => ?_⟩;rw [h3, Bool.true_and] at h2;have := geq_f h2;omega
theorem search_go2 {g : Yard → Bool} {d e : Nat} {Y : Yard} {m : Met} (h : g Y = false) (hde : d = e + 1) (hd : ¬ ((JX (AY Y) m).isSome = true ∧ d ≤ (JX (AY Y) m).getD 0)) :
    AP g d Y m = GF (fun s met => AP g e (moved Y s) met) ((draws Y).drop ([] : List Shift).length) (updM (AY Y) (e + 1) m) := by
  subst hde; exact search_go h hd
theorem OX {Y : Yard} (f : Fine Y) {g : Yard → Bool} {d : Nat} (h : ∀ m, m < d → plain g m Y = none) : (AP g d Y []).1 = plain g d Y :=
  (searchM_ok f d Y [] (Kin.refl Y) (fun Z _ n hn => by cases hn) h).1
theorem findSome_at {α β : Type} {f : α → Option β} : ∀ (l : List α) (i : Nat) (hi : i < l.length), (∀ j (hj : j < i), f (l[j]'(by omega)) = none) → (f l[i]).isSome = true → l.findSome? f = f l[i] := by
  intro l
  induction l with
  | nil => intro i hi; simp at hi
  | cons x l ih =>
    intro i hi h hs;cases i with
    | zero =>
      simp only [List.getElem_cons_zero] at hs ⊢;rw [List.findSome?_cons];cases hf : f x with
      | none => rw [hf] at hs; cases hs
      | some y => rfl
    | succ i =>
      have h0 := h 0 (by omega);simp only [List.getElem_cons_zero] at h0;rw [List.findSome?_cons, h0];simp only [List.getElem_cons_succ] at hs ⊢;exact ih i (by simpa using hi) (fun j hj => by have := h (j + 1) (by omega); simpa using this) hs
theorem fewest_hit {g : Yard → Bool} {Y : Yard} {d : Nat} (hd : d < 5) (h : ∀ m, m < d → plain g m Y = none) (hp : (plain g d Y).isSome = true) : AV g Y = plain g d Y := by
  have := findSome_at (f := fun d => plain g d Y) (List.range 5) d (by simpa using hd) (fun j hj => by simpa using h j hj) (by simpa using hp);rw [AV, this]; simp
theorem fewest_none {g : Yard → Bool} {Y : Yard} (h : ∀ m, m < 5 → plain g m Y = none) : AV g Y = none := by
  rw [AV, List.findSome?_eq_none_iff];intro d hd;exact h d (List.mem_range.1 hd)
theorem below_next {g : Yard → Bool} {Y : Yard} {d : Nat} (h : ∀ m, m < d → plain g m Y = none) (hd : plain g d Y = none) : ∀ m, m < d + 1 → plain g m Y = none := fun m hm => by
  rcases Nat.lt_or_ge m d with h1 | h1
  · exact h m h1
  · have : m = d := by omega
    subst this; exact hd
def GS {α : Type} (o : Option α) : Int := if o.isSome then 0 else 11
theorem NO {α : Type} {o : Option α} (h : o.isSome = true) : GS o = 0 := by simp [GS, h]
theorem errOf_is {α : Type} {o : Option α} (h : GS o = 0) : o.isSome = true := by
  unfold GS at h; split at h
  · assumption
  · cases h
theorem errOf_not {α : Type} {o : Option α} (h : GS o ≠ 0) : o.isSome = false := by
  cases hs : o.isSome with
  | false => rfl
  | true => exact absurd (by simp [GS, hs]) h
theorem errOf_none {α : Type} {o : Option α} (h : o = none) : GS o = 11 := by simp [GS, h]
def goO (n : Nat) : List Int → List Int → Int
  | _, [] => 0
  | pre, c :: r => if inB c 0 (↑n - 1) then (if c ∈ pre then 4 else goO n (pre ++ [c]) r) else 3
def orderErr (Y : Yard) (order : List Int) : Int := if AH Y = 0 then goO Y.cars.length [] order else AH Y
theorem OS {Y : Yard} {o : List Int} (h : AH Y ≠ 0) : orderErr Y o = AH Y := if_neg h
theorem orderErr_ok {Y : Yard} {o : List Int} (h : AH Y = 0) : orderErr Y o = goO Y.cars.length (o.take 0) (o.drop 0) := if_pos h
theorem goO_unknown {n k : Nat} {o : List Int} (hk : k < o.length) (h : inB (o.getD k 0) 0 (↑n - 1) = false) : goO n (o.take k) (o.drop k) = 3 := by
  rw [BL (d := 0) hk]; simp only [goO]; rw [if_neg (by rw [h]; simp)]
theorem goO_twice {n k : Nat} {o : List Int} (hk : k < o.length) (h : inB (o.getD k 0) 0 (↑n - 1) = true) (hm : o.getD k 0 ∈ o.take k) : goO n (o.take k) (o.drop k) = 4 := by
  rw [BL (d := 0) hk]; simp only [goO]; rw [if_pos h, if_pos hm]
theorem goO_next {n k : Nat} {o : List Int} (hk : k < o.length) (h : inB (o.getD k 0) 0 (↑n - 1) = true) (hm : ¬ o.getD k 0 ∈ o.take k) : goO n (o.take k) (o.drop k) = goO n (o.take (k + 1)) (o.drop (k + 1)) := by
  rw [BL (d := 0) hk, DE (d := 0) hk]; simp only [goO]; rw [if_pos h, if_neg hm]
theorem goO_done {n k : Nat} {o : List Int} (hk : o.length ≤ k) : goO n (o.take k) (o.drop k) = 0 := by rw [CM hk]; rfl
def BG (Y : Yard) (order : List Int) : List Shift × Int :=
  if orderErr Y order = 0 then ((AV (DJ [CQ order]) Y).getD [], GS (AV (DJ [CQ order]) Y)) else ([], orderErr Y order)
theorem GT {Y : Yard} {o : List Int} (h : orderErr Y o ≠ 0) : BG Y o = ([], orderErr Y o) := if_neg h
theorem KY {Y : Yard} {o : List Int} (h : orderErr Y o = 0) : BG Y o = ((AV (DJ [CQ o]) Y).getD [], GS (AV (DJ [CQ o]) Y)) := if_pos h
theorem GZ {Y : Yard} {o : List Int} (h : orderErr Y o = 0) : Valid Y := by
  unfold orderErr at h
  split at h
  · assumption
  · exact h
def KL (cs : List Int) (k : Nat) : Option Int := if k = 0 then none else some (cs.getD (k - 1) 0)
def tooLow (p : Option Int) (c : Int) : Bool := match p with | none => false | some x => decide (c ≤ x)
def goL (n : Nat) : Option Int → List Int → Int
  | _, [] => 0
  | p, c :: r => if inB c 0 (↑n - 1) then (if tooLow p c then 5 else goL n (some c) r) else 3
theorem goL_unknown {n k : Nat} {o : List Int} (hk : k < o.length) (h : inB (o.getD k 0) 0 (↑n - 1) = false) : goL n (KL o k) (o.drop k) = 3 := by
  rw [BL (d := 0) hk]; simp only [goL]; rw [if_neg (by rw [h]; simp)]
def lowB (o : List Int) (k : Nat) : Bool := (cmp .gtr (↑k) (0)) && cmp .leq (o.getD k 0) (o.getD (((↑k : Int) - 1).toNat) 0)
theorem lowB_eq (o : List Int) (k : Nat) : tooLow (KL o k) (o.getD k 0) = lowB o k := by
  unfold KL lowB
  by_cases h : k = 0
  · subst h; simp [tooLow, cmp]
  · have e : ((↑k : Int) - 1).toNat = k - 1 := by omega
    have h0 : 0 < k := by omega
    rw [if_neg h, e];simp [tooLow, cmp, h0]
theorem goL_low {n k : Nat} {o : List Int} (hk : k < o.length) (h : inB (o.getD k 0) 0 (↑n - 1) = true) (hm : lowB o k = true) : goL n (KL o k) (o.drop k) = 5 := by
  rw [BL (d := 0) hk]; simp only [goL]; rw [if_pos h, lowB_eq, if_pos hm]
theorem goL_next {n k : Nat} {o : List Int} (hk : k < o.length) (h : inB (o.getD k 0) 0 (↑n - 1) = true) (hm : lowB o k = false) : goL n (KL o k) (o.drop k) = goL n (KL o (k + 1)) (o.drop (k + 1)) := by
  rw [BL (d := 0) hk]; simp only [goL]; rw [if_pos h, lowB_eq, if_neg (by rw [hm]; simp)];simp [KL]
theorem goL_done {n k : Nat} {o : List Int} (hk : o.length ≤ k) : goL n (KL o k) (o.drop k) = 0 := by rw [CM hk]; rfl
theorem goL_asc {n : Nat} : ∀ (l : List Int) (p : Option Int), goL n p l = 0 → (∀ c ∈ l, 0 ≤ c ∧ c < n) ∧ Asc l ∧ ∀ x, p = some x → ∀ c ∈ l, x < c := by
  intro l
  induction l with
  | nil => intro p _; exact ⟨fun c h => by simp at h, Asc.nil, fun x _ c h => by simp at h⟩
  | cons c r ih =>
    intro p h;simp only [goL] at h
    split at h
    · rename_i h1
      split at h
      · cases h
      · rename_i h2
        obtain ⟨g1, g2, g3⟩ := ih (some c) h;have := DT h1;refine ⟨fun x hx => ?_, List.pairwise_cons.2 ⟨g3 c rfl, g2⟩, fun x e y hy => ?_⟩
        · rcases List.mem_cons.1 hx with e | hx
          · subst e; omega
          · exact g1 x hx
        · subst e
          have hxc : x < c := by simpa [tooLow] using h2
          rcases List.mem_cons.1 hy with e | hy
          · subst e; exact hxc
          · have := g3 c rfl y hy; omega
    · cases h
theorem Asc.nodup {l : List Int} (h : Asc l) : l.Nodup := h.imp fun hab => by omega
theorem goL_len {n : Nat} {l : List Int} (h : goL n none l = 0) : l.length ≤ n := by
  obtain ⟨h1, h2, _⟩ := goL_asc l none h;exact HX h2.nodup h1
def JQ (cs : List Int) : List (Yard → Bool) := [wholeP, fun Y => lastP cs (Y.tracks.getD 0 [])]
def CS (Y : Yard) (cs : List Int) : Int := if AH Y = 0 then goL Y.cars.length none cs else AH Y
theorem OO {Y : Yard} {o : List Int} (h : AH Y ≠ 0) : CS Y o = AH Y := if_neg h
theorem leaveErr_ok {Y : Yard} {o : List Int} (h : AH Y = 0) : CS Y o = goL Y.cars.length (KL o 0) (o.drop 0) := if_pos h
theorem GY {Y : Yard} {o : List Int} (h : CS Y o = 0) : Valid Y := by
  unfold CS at h
  split at h
  · assumption
  · exact h
theorem OP {Y : Yard} {o : List Int} (h : CS Y o = 0) : o.length ≤ Y.cars.length := by
  have hv := GY h;rw [CS, if_pos (show AH Y = 0 from hv)] at h;exact goL_len h
def CK (Y : Yard) (cs : List Int) : List Shift × Int :=
  if CS Y cs = 0 then ((AV (DJ (JQ cs)) Y).getD [], GS (AV (DJ (JQ cs)) Y)) else ([], CS Y cs)
theorem EF {Y : Yard} {o : List Int} (h : CS Y o ≠ 0) : CK Y o = ([], CS Y o) := if_neg h
theorem leaveE_ok {Y : Yard} {o : List Int} (h : CS Y o = 0) : CK Y o = ((AV (DJ (JQ o)) Y).getD [], GS (AV (DJ (JQ o)) Y)) := if_pos h
def wide (Y : Yard) (i : Nat) : Yard := ⟨Y.cars, Y.room.set i 20, Y.tracks⟩
theorem wide_fine {Y : Yard} (f : Fine Y) (i : Nat) : Fine (wide Y i) := by
  refine ⟨f.cars, f.carOk, by simpa [wide] using f.room1, by simpa [wide] using f.room3, fun n hn => ?_, by simpa [wide] using f.len, f.ok, f.nodup, fun k hk => ?_, f.all, f.groups⟩
  · rcases List.mem_or_eq_of_mem_set hn with h | e
    · exact f.roomOk n h
    · subst e; rfl
  · have h1 := f.fits k hk
    have hk' : k < Y.room.length := by rw [← f.len]; exact hk
    have h2 := DT (f.roomOk _ (AL (d := 0) hk'));simp only [wide, List.getD] at h1 h2 ⊢
    by_cases e : i = k
    · subst e
      rw [List.getElem?_set_self hk'];simp only [Option.getD_some];omega
    · rw [List.getElem?_set_ne e]; exact h1
def DD (Y : Yard) (o : List Int) (i : Nat) : List Int := ((List.range' i (Y.room.length - i)).filter fun i => (AV (DJ [CQ o]) (wide Y i)).isSome).map fun i : Nat => (i : Int)
theorem lacks_yes {Y : Yard} {o : List Int} {i : Nat} (hi : i < Y.room.length) (h : (AV (DJ [CQ o]) (wide Y i)).isSome = true) : DD Y o i = (i : Int) :: DD Y o (i + 1) := by
  unfold DD; rw [FM hi]; simp [h]
theorem lacks_no {Y : Yard} {o : List Int} {i : Nat} (hi : i < Y.room.length) (h : (AV (DJ [CQ o]) (wide Y i)).isSome = false) : DD Y o i = DD Y o (i + 1) := by
  unfold DD; rw [FM hi]; simp [h]
theorem lacks_done {Y : Yard} {o : List Int} {i : Nat} (hi : Y.room.length ≤ i) : DD Y o i = [] := by
  unfold DD; rw [show Y.room.length - i = 0 by omega]; rfl
theorem lacks_le (Y : Yard) (o : List Int) (i : Nat) : (DD Y o i).length ≤ Y.room.length := by
  unfold DD;rw [List.length_map];refine Nat.le_trans (List.length_filter_le _ _) ?_;rw [List.length_range']; omega
def GJ (Y : Yard) (o : List Int) : List Int × Int := if (BG Y o).2 = 11 then (if (DD Y o 1).length = 0 then ([], 11) else (DD Y o 1, 0)) else ([], (BG Y o).2)
theorem lacksE_bad {Y : Yard} {o : List Int} (h : (BG Y o).2 ≠ 11) : GJ Y o = ([], (BG Y o).2) := if_neg h
theorem lacksE_none {Y : Yard} {o : List Int} (h : (BG Y o).2 = 11) (h2 : (DD Y o 1).length = 0) : GJ Y o = ([], 11) := (if_pos h).trans (if_pos h2)
theorem lacksE_some {Y : Yard} {o : List Int} (h : (BG Y o).2 = 11) (h2 : (DD Y o 1).length ≠ 0) : GJ Y o = (DD Y o 1, 0) := (if_pos h).trans (if_neg h2)
theorem goTrack_11 {n : Nat} {fin : List Int → Int} (hf : ∀ m, fin m ≠ 11) : ∀ (t met : List Int), DK n fin t met ≠ 11 := by
  intro t
  induction t with
  | nil => intro met; exact hf met
  | cons c r ih => intro met; simp only [DK]; split <;> first | (split <;> first | decide | exact ih _) | decide
theorem goG_11 {cs : List Car} {t : List Int} {fin : List Int → Int} (hf : ∀ m, fin m ≠ 11) : ∀ (l : List Int) (k : Nat) (met : List Int), goG cs t fin k l met ≠ 11 := by
  intro l
  induction l with
  | nil => intro k met; exact hf met
  | cons c r ih => intro k met; simp only [goG]; split <;> first | decide | exact ih _ _
theorem goGs_11 {cs : List Car} : ∀ (ts : List (List Int)) (met : List Int), goGs cs ts met ≠ 11 := by
  intro ts
  induction ts with
  | nil => intro met; simp [goGs]
  | cons t r ih => intro met; exact goG_11 ih _ _ _
theorem goTracks_11 {cs : List Car} {fin : List Int → Int} (hf : ∀ m, fin m ≠ 11) : ∀ (ts : List (List Int)) (rm met : List Int), CL cs fin ts rm met ≠ 11 := by
  intro ts
  induction ts with
  | nil => intro rm met; exact hf met
  | cons t r ih => intro rm met; simp only [CL]; exact goTrack_11 (fun m => by split <;> first | decide | exact ih _ _) _ _
theorem checkErr_11 (Y : Yard) : AH Y ≠ 11 := by
  have h : ∀ m : List Int, (if m.length < Y.cars.length then 7 else DC Y) ≠ 11 := fun m => by split <;> first | decide | exact goGs_11 _ _
  unfold AH DY
  split
  · decide
  · split
    · split
      · decide
      · split
        · decide
        · split
          · split
            · exact goTracks_11 h _ _ _
            · decide
          · decide
    · decide
theorem goO_11 {n : Nat} : ∀ (o pre : List Int), goO n pre o ≠ 11 := by
  intro o
  induction o with
  | nil => intro p; simp [goO]
  | cons c r ih => intro p; simp only [goO]; split <;> first | (split <;> first | decide | exact ih _) | decide
theorem fewest_11 {Y : Yard} {o : List Int} (h : (BG Y o).2 = 11) : orderErr Y o = 0 := by
  by_cases h0 : orderErr Y o = 0
  · exact h0
  · rw [GT h0] at h
    exfalso
    simp only [orderErr] at h
    split at h
    · exact goO_11 _ _ h
    · exact checkErr_11 Y h
theorem moved_back {Y : Yard} {s : Shift} (h : BJ Y s = 0) : moved (moved Y s) (CJ s) = Y := by
  have m := mayOk h;have hf := m.frm; have ht := m.to; have hne := m.ne; have hm := m.many;have hne' : s.to.toNat ≠ s.frm.toNat := by omega
  rcases Y with ⟨cs, rm, ts⟩
  simp only at hf ht hm;unfold moved CJ;simp only [Yard.mk.injEq, true_and]
  generalize hA : ts.getD s.frm.toNat [] = A at hm
  generalize hB : ts.getD s.to.toNat [] = B
  have hA2 : trk ⟨cs, rm, ts⟩ s.frm = A := hA;have hB2 : trk ⟨cs, rm, ts⟩ s.to = B := hB;have hn : (EX ⟨cs, rm, ts⟩ s).toNat = A.length - s.many.toNat := by simp only [EX, hA2]; omega
  rw [hA2, hB2, hn];have g1 : ∀ (X Z : List Int), trk ⟨cs, rm, (ts.set s.to.toNat X).set s.frm.toNat Z⟩ s.to = X := fun X Z => by
    simp only [trk, List.getD];rw [List.getElem?_set_ne (Ne.symm hne'), List.getElem?_set_self (by omega)]; rfl
  have g2 : ∀ (X Z : List Int), trk ⟨cs, rm, (ts.set s.to.toNat X).set s.frm.toNat Z⟩ s.frm = Z := fun X Z => by
    simp only [trk, List.getD];rw [List.getElem?_set_self (by rw [List.length_set]; omega)]; rfl
  have hc : (EX ⟨cs, rm, (ts.set s.to.toNat (B ++ A.drop (A.length - s.many.toNat))).set s.frm.toNat (A.take (A.length - s.many.toNat))⟩ ⟨s.to, s.frm, s.many⟩).toNat = B.length := by
    simp only [EX, g1, List.length_append, List.length_drop]; omega
  rw [g1, g2, hc];simp only [List.drop_left, List.take_left, List.take_append_drop];refine list_eq (d := []) (by simp) fun j hj => ?_
  simp only [List.length_set] at hj;simp only [List.getD]
  by_cases h1 : s.to.toNat = j
  · subst h1
    rw [List.getElem?_set_self (by simpa using hj)];simp only [List.getD] at hB
    simpa using hB.symm
  · rw [List.getElem?_set_ne h1]
    by_cases h2 : s.frm.toNat = j
    · subst h2
      rw [List.getElem?_set_self (by simpa using hj)];simp only [List.getD] at hA
      simpa using hA.symm
    · rw [List.getElem?_set_ne h2, List.getElem?_set_ne h2, List.getElem?_set_ne h1]
def encS (s : Shift) : List Value := [.agg #[.int .i64 s.frm, .int .i64 s.to, .int .i64 s.many]]
end Go.Sh
namespace Go.Proofs.YtcaocbhbofejnaaGreatDoor
open Go Go.Sl Go.Sh
set_option maxRecDepth 100000
theorem isNI_err (e : Int) : isNI (JV e) = some (decide (e = 0)) := by unfold JV; by_cases h : e = 0 <;> simp [h, isNI]
noncomputable def c_where (p : List Nat) : Code := sub (AU Tryz.f84) p
theorem where_ct (I : Imm) (y : Nat) (y_1 y_2 y_3 : Value) (y_ws : List Value) (y_Ms : Seg) (Y : Yard) (y_1f : ED I y_1 Y.cars) (y_2f : AZ I y_2 Y.room) (y_3h : Own 23 1 AN y_3 y_ws y_Ms) (y_3r : RowsV I y_ws Y.tracks) (ho : OkAll Y.cars Y.tracks) (h5 : Y.cars.length ≤ 5) (h3 : Y.tracks.length ≤ 1000000) : Ct Tryz.prog 84 #[vP y 0] I ([(bX y #[y_1, y_2, y_3] 110)] ++ (y_Ms)) (fun v I' M' => v = .agg (BO (AY Y).val) ∧ M' = [(bX y #[y_1, y_2, y_3] 110)] ++ (y_Ms)) := by
 have b8 := y_1f;obtain ⟨a2, a3, c5, c8, b7, c6, c7, c9⟩ := id b8;subst b7;have c0 := y_2f;obtain ⟨a4, a5, d0, d3, b9, d1, d2, d4⟩ := id c0;subst b9;obtain ⟨a0, a1, c1, d5⟩ := y_3h.shape; subst c1;have a6 := y_3r.1
 try simp only [LS, LA, LC, LN, LK] at a6
 refine fr (args := [_]) (N := 34) Tryz.func84 (fun F => ?_);show Run _ _ (c_where []) _ _ [(0, vP y 0)] _ _;refine rnm (rqr ?_);refine sS (sal 2 113 #[vI (0), vI (0), vI (0), vI (0), vI (0), vI (0), vI (0), vI (0), vI (0), vI (0)] (fun b1 => (sn (sS (sal 3 113 #[vI (0), vI (0), vI (0), vI (0), vI (0), vI (0), vI (0), vI (0), vI (0), vI (0)] (fun b3 => (se (rq (rqr (sp 4 [(11, vP y 2)] (sd (dlb 12 2 2 y (vS a0 y_ws.length a1)) (sp 2 [(14, vI (0)), (13, vI (↑(y_ws.length)))] (se (rb 0 ?_))))))))))))));refine rl (fun mz a w => ∃ k : Nat, ∃ pl : List Int, (k ≤ Y.tracks.length) ∧ ((AY Y).val = goP k (Y.tracks.drop k) pl) ∧ (pl.length = 10) ∧ Slots 34 [(14, vI ↑k), (2, vP b1 0), (3, vP b3 0), (12, vS a0 y_ws.length a1), (13, vI (↑(y_ws.length)))] a ∧ a.defers = [] ∧ St I ((b3, Obj.cells (BO pl) 113 (0, 0)) :: (bX b1 #[vI (0), vI (0), vI (0), vI (0), vI (0), vI (0), vI (0), vI (0), vI (0), vI (0)] 113) :: (bX y #[vS a2 Y.cars.length a3, vS a4 Y.room.length a5, vS a0 y_ws.length a1] 110) :: (y_Ms ++ F)) w ∧ mz = Y.tracks.length - k) ?_ ?_
 ·intro a w hS hD hW;exact ⟨_, 0, zero10, Nat.zero_le _, rfl, rfl, hS.sub (.cons 14 rfl (.cons 2 rfl (.cons 3 rfl (.cons 12 rfl (.cons 13 rfl (.nil _)))))), hD, hW, rfl⟩
 rintro mz a w ⟨k, pl, hk, hp, d6, hS, hD, hW, rfl⟩
 refine AX hS hD hW ?_;clear hS hD hW a w;refine rqr (sp 1 [(15, .bool (cmp .lss (↑k) (↑(y_ws.length))))] (se (rq (rc 15 rfl (fun h1 => ?_) (fun h1 => ?_)))))
 ·
  have c2 := h1;have h1 := BX h1;refine AK (NX (rq (rb 1 (rqr (sp 1 [(16, vI (↑k))] ?_)))));obtain ⟨e1, b2⟩ := y_3h.row undef;refine sd (di 17 1 (k) b2.addr) ?_;have b5 := y_3r.2 (k) (by omega);obtain ⟨a8, a9, d7, e0, b4, d8, d9, b6⟩ := id b5;rw [b4] at b5;refine sd (BB (dl 18 (b2.get (k) (by omega) 0 (by decide) _ _ (fun x hx => by simp [hx]))) b4) (sp 2 [(5, vS a8 (Y.tracks.getD (k) []).length a9), (4, vI (↑k))] (sn (sp 3 [(21, vI (0)), (20, vI (↑((Y.tracks.getD (k) []).length))), (19, vS a8 (Y.tracks.getD (k) []).length a9)] (se (rb 2 ?_)))));refine rl (fun mz a w => ∃ j : Nat, ∃ a7 : List Int, (j ≤ (Y.tracks.getD (k) []).length) ∧ ((AY Y).val = goP (k + 1) (Y.tracks.drop (k + 1)) (goPT k j ((Y.tracks.getD (k) []).drop j) a7)) ∧ (a7.length = 10) ∧ Slots 34 [(21, vI ↑j), (2, vP b1 0), (3, vP b3 0), (4, vI (↑k)), (12, vS a0 y_ws.length a1), (13, vI (↑(y_ws.length))), (14, vI (↑k)), (19, vS a8 (Y.tracks.getD (k) []).length a9), (20, vI (↑((Y.tracks.getD (k) []).length)))] a ∧ a.defers = [] ∧ St I ((b3, Obj.cells (BO a7) 113 (0, 0)) :: (bX b1 #[vI (0), vI (0), vI (0), vI (0), vI (0), vI (0), vI (0), vI (0), vI (0), vI (0)] 113) :: (bX y #[vS a2 Y.cars.length a3, vS a4 Y.room.length a5, vS a0 y_ws.length a1] 110) :: (y_Ms ++ F)) w ∧ mz = (Y.tracks.getD (k) []).length - j) ?_ ?_
  ·intro a w hS hD hW;exact ⟨_, 0, pl, Nat.zero_le _, hp.trans (goP_step (by omega)), d6, hS.sub (.cons 21 rfl (.cons 2 rfl (.cons 3 rfl (.cons 4 rfl (.cons 12 rfl (.cons 13 rfl (.cons 14 rfl (.cons 19 rfl (.cons 20 rfl (.nil _)))))))))), hD, hW, rfl⟩
  rintro mz a w ⟨j, a7, hj, c4, b0, hS, hD, hW, rfl⟩
  refine AX hS hD hW ?_;clear hS hD hW a w;refine rqr (sp 1 [(22, .bool (cmp .lss (↑j) (↑((Y.tracks.getD (k) []).length))))] (se (rq (rc 22 rfl (fun h2 => ?_) (fun h2 => ?_)))))
  ·
   have c3 := h2;have h2 := BX h2;refine AK (NX (rq (rb 3 (rqr (sp 1 [(23, vI (↑j))] (sd (di 24 1 (j) b6.addr) (sd (dl 25 (BI b6 (j) (by omega))) (sp 2 [(7, vI ((Y.tracks.getD (k) []).getD (j) 0)), (6, vI (↑j))] (se (rr ?_))))))))));have hc := (ho.at k (by omega)).at j (by omega);obtain ⟨c, hcn⟩ : ∃ c : Nat, (Y.tracks.getD (k) []).getD (j) 0 = ↑c := ⟨((Y.tracks.getD (k) []).getD (j) 0).toNat, by omega⟩;refine sp 1 [(26, vI ((Y.tracks.getD (k) []).getD (j) 0))] (EO 26 rfl (show (vI ((Y.tracks.getD (k) []).getD (j) 0) : Value) = vI (↑c) from congrArg (Value.int .i64) hcn) (sp 3 [(29, .agg #[vI (↑k), vI (↑j)])] (sd (det_indexArrN (j := c) (n := 5) (x := (.tmp 3)) (y := (.tmp 26)) (T := 113) (e := 111) (sz := 2) (d := 30) (ty := 0) (gd := none) (by kernel_rfl) rfl (by kernel_rfl) (by kernel_rfl) rfl rfl (by omega)) (sS (stp_storePl (T := 111) (x := (.tmp 30)) (y := (.tmp 29)) (p := a7) (c := c) (M' := ((b3, Obj.cells (BO (putP a7 c k j)) 113 (0, 0)) :: (bX b1 #[vI (0), vI (0), vI (0), vI (0), vI (0), vI (0), vI (0), vI (0), vI (0), vI (0)] 113) :: (bX y #[vS a2 Y.cars.length a3, vS a4 Y.room.length a5, vS a0 y_ws.length a1] 110) :: (y_Ms ++ F))) 0 (ty := 0) (gd := none) (by kernel_rfl) rfl rfl rfl (by kernel_rfl) rfl (by omega) rfl (ee (NB (NX (rr (sd (da 31 (↑j) (1)) (sp 1 [(21, vI (↑j + 1))] (ee ?_))))))))))));refine AG ((Y.tracks.getD (k) []).length - (j+1)) (by omega) ?_;intro a w hS hD hW;exact ⟨j+1, (putP a7 c k j), by omega, c4.trans (by rw [goPT_step (by omega), hcn, Int.toNat_natCast]), by rw [GW]; exact b0, hS.sub (.consE 21 rfl rfl (.cons 2 rfl (.cons 3 rfl (.cons 4 rfl (.cons 12 rfl (.cons 13 rfl (.cons 14 rfl (.cons 19 rfl (.cons 20 rfl (.nil _)))))))))), hD, hW, rfl⟩
  have c3 := h2;have h2 := CB h2;refine CF 2 ((EP (EP (EB (NB (NX (rr (sd (da 32 (↑k) (1)) (sp 1 [(14, vI (↑k + 1))] (ee ?_))))))))));refine AG (Y.tracks.length - (k+1)) (by omega) ?_;intro a w hS hD hW;exact ⟨k+1, a7, by omega, c4.trans (by rw [goPT_done (by omega)]), b0, hS.sub (.consE 14 rfl rfl (.cons 2 rfl (.cons 3 rfl (.cons 12 rfl (.cons 13 rfl (.nil _)))))), hD, hW, rfl⟩
 have c2 := h1;have h1 := CB h1;refine CF 0 ((EP (EP (EB (NX (rqr (sd (KE (x := (.tmp 3)) (T := 113) (n := 10) (d := 33) (ty := 113) (gd := none) (by kernel_rfl) rfl (by kernel_rfl) (by kernel_rfl) (by simp only [BO, List.size_toArray, List.length_map]; first | exact IL _ | omega | (simp only [GW]; omega)) rfl (.inl (List.mem_of_getElem? (i := 0) rfl))) (sS (OB (T := 113) (x := (.tmp 2)) (y := (.tmp 33)) (n := 10) (vs := BO (pl)) (M' := ((b3, Obj.cells (BO pl) 113 (0, 0)) :: (b1, Obj.cells (BO (pl)) 113 (0, 0)) :: (bX y #[vS a2 Y.cars.length a3, vS a4 Y.room.length a5, vS a0 y_ws.length a1] 110) :: (y_Ms ++ F))) 1 (ty := 0) (gd := none) (by kernel_rfl) rfl rfl rfl (by kernel_rfl) rfl (by simp only [BO, List.size_toArray, List.length_map]; first | exact IL _ | omega | (simp only [GW]; omega)) (MB _) rfl (rfl) rfl (se (BP (ppm (M' := ((bX y #[vS a2 Y.cars.length a3, vS a4 Y.room.length a5, vS a0 y_ws.length a1] 110) :: (y_Ms ++ (b3, Obj.cells (BO pl) 113 (0, 0)) :: (b1, Obj.cells (BO (pl)) 113 (0, 0)) :: F))) (((PC _ (PS _ _ _)).trans (PS _ _ _)).trans (PC _ (PU (PM.symm)))) (pst_retW (t := 2) (T := 113) (n := 10) (b := b1) (cs := BO (pl)) (S := 113) (fz := (0, 0)) ([(bX y #[vS a2 Y.cars.length a3, vS a4 Y.room.length a5, vS a0 y_ws.length a1] 110)] ++ (y_Ms)) (by kernel_rfl) rfl (by kernel_rfl) (by kernel_rfl) (by simp only [BO, List.size_toArray, List.length_map]; first | exact IL _ | omega | (simp only [GW]; omega)) (.inl (by simp)) (by simp only [AA, NA, CA]; exact (TK _ (TA (TC _ (TC _ (TR _))) _))) (IR _) ?_)))))))))))));exact ⟨(by rw [hp, goP_done (by omega)]), rfl⟩
noncomputable def c_shifts (p : List Nat) : Code := sub (AU Tryz.f85) p
theorem shifts_ct (I : Imm) (y : Nat) : Ct Tryz.prog 85 #[vP y 0] I ([]) (fun v I' M' => ∃ by_ : Nat, ∃ bm : Nat, v = .func (.func 135) #[] #[vP by_ 0, vP bm 0] ∧ M' = [] ∧ (I'.blk by_ = some (Obj.cells #[vP y 0] 108 (0, 0))) ∧ (I'.blk bm = some (Obj.cells #[.func (.func 92) #[] #[]] 164 (0, 0)))) := by
 refine fr (args := [_]) (N := 5) Tryz.func85 (fun F => ?_);show Run _ _ (c_shifts []) _ _ [(0, vP y 0)] _ _;refine rnm (rqr ?_);refine sS (sb 1 108 #[vP y 0] (fun b1 => (sp 1 [(2, .nilFunc)] (sn (sS (sal 3 164 #[.nilFunc] (fun b3 => (sS (ss 0 0 b3 [.func (.func 92) #[] #[]] [.func (.func 92) #[] #[]] (_ :: _ :: _) (cs := [_]) rfl rfl (sn ?_))))))))));refine FZ (b := b1) (o := Obj.cells #[vP y 0] 108 (0, 0)) (M0 := ((bX b3 #[.func (.func 92) #[] #[]] 164) :: F)) (PS _ _ _) (fun I5 a3 a2 => ?_);refine FZ (b := b3) (o := Obj.cells #[.func (.func 92) #[] #[]] 164 (0, 0)) (M0 := (F)) (PR _) (fun I8 a0 a1 => ?_);replace a2 := a0.blk _ _ a2;refine sp 2 [(2, .func (.func 135) #[] #[vP b1 0, vP b3 0])] (se (BP (AD (t := 2) [] (by kernel_rfl) rfl (TR _) (IT a3 a0) ?_)));exact ⟨b1, b3, rfl, rfl, a2, a1⟩
noncomputable def c_shifts1 (p : List Nat) : Code := sub (AU Tryz.f135) p
set_option maxHeartbeats 1000000 in
theorem shifts1_iter (I0 : Imm) (y by_ bm : Nat) (v1 v2 v3 : Value) (Y : Yard) (hG : Glob I0) (hy : I0.blk by_ = some (Obj.cells #[vP y 0] 108 (0, 0))) (hm : I0.blk bm = some (Obj.cells #[.func (.func 92) #[] #[]] 164 (0, 0))) (hgood : GoodY Y) (h3 : Y.tracks.length ≤ 1000000) : IterCt Tryz.prog 135 [vP by_ 0, vP bm 0] encS (draws Y) (YardR 23 110 y v1 v2 v3 Y) I0 := by
 intro L Cl Sp hmono hround I Mr M hI0 hR hCl;obtain ⟨a4, e3, rfl, b2, b3, e1, e2⟩ := hR;replace hy := hI0.blk _ _ hy;replace hm := hI0.blk _ _ hm;obtain ⟨b7, b8, g6, g9, e9, g7, g8, h0⟩ := id b2;obtain ⟨b9, c0, h5, h8, f0, h6, h7, h9⟩ := id b3;subst e9; subst f0;obtain ⟨a5, a6, e0, f5⟩ := e1.shape; subst e0;have c7 := e2.1
 try simp only [LS, LA, LC, LN, LK] at c7
 refine fr (args := [_, _, _]) (N := 56) Tryz.func135 (fun F => ?_);show Run _ _ (c_shifts1 []) _ _ [(0, .func (.yield L) #[] #[]), (1, vP by_ 0), (2, vP bm 0)] _ _;refine IM (M' := ((bX y #[vS b7 Y.cars.length b8, vS b9 Y.room.length c0, vS a5 a4.length a6] 110) :: (e3 ++ (M ++ F)))) (fun w h => by simpa only [AA, CA, NA] using h) (rnm ?_);have i0 := hgood.le;refine rqr (sd (BK (v := vP y 0) (x := (.tmp 1)) (T := 108) (d := 8) (ty := 108) (gd := none) (by kernel_rfl) rfl (by kernel_rfl) rfl (BA hy rfl)) (sp 3 [(11, vP y 2)] (sd (dlb 12 0 2 y (vS a5 a4.length a6)) (sp 2 [(14, vI (0)), (13, vI (↑(a4.length)))] (se (rb 0 ?_))))));refine rl (fun mz a w => ∃ J0 : Imm, ∃ k : Nat, ∃ d8 : List Shift, ∃ d1 : Seg, ∃ a7 : Seg, ∃ b5 : List Value, (I.le J0) ∧ (k ≤ Y.tracks.length) ∧ (d8 ++ GQ Y k = draws Y) ∧ (Cl d8 J0 d1) ∧ (RowsV J0 b5 (Y.tracks)) ∧ (Own 23 1 AN (vS a5 a4.length a6) (b5) a7) ∧ Slots 56 [(14, vI ↑k), (0, .func (.yield L) #[] #[]), (1, vP by_ 0), (2, vP bm 0), (13, vI (↑(a4.length)))] a ∧ a.defers = [] ∧ St J0 ((bX y #[vS b7 Y.cars.length b8, vS b9 Y.room.length c0, (vS a5 a4.length a6)] 110) :: (a7 ++ (d1 ++ F))) w ∧ mz = Y.tracks.length - k) ?_ ?_
 ·intro a w hS hD hW;exact ⟨_, I, 0, [], M, e3, a4, IR _, Nat.zero_le _, rfl, hCl, e2, e1, hS.sub (.cons 14 rfl (.cons 0 rfl (.cons 1 rfl (.cons 2 rfl (.cons 13 rfl (.nil _)))))), hD, hW, rfl⟩
 rintro mz a w ⟨J0, k, d8, d1, a7, b5, hJ0, hk, f3, hCl, a0, c4, hS, hD, hW, rfl⟩
 refine AX hS hD hW ?_;clear hS hD hW a w;replace hy := hJ0.blk _ _ hy;replace hm := hJ0.blk _ _ hm;replace b2 := b2.mono hJ0;replace b3 := b3.mono hJ0;have c1 := a0.1
 try simp only [LS, LA, LC, LN, LK] at c1
 refine rqr (sp 1 [(15, .bool (cmp .lss (↑k) (↑(a4.length))))] (se (rq (rc 15 rfl (fun h1 => ?_) (fun h1 => ?_)))))
 ·
  have e5 := h1;have h1 := BX h1;refine AK (NX (rq (rb 1 (rqr (sp 2 [(4, vI (↑k))] (sn (sd (BK (v := vP y 0) (x := (.tmp 1)) (T := 108) (d := 17) (ty := 108) (gd := none) (by kernel_rfl) rfl (by kernel_rfl) rfl (BA hy rfl)) (sp 3 [(20, vP y 2)] (sd (dlb 21 0 2 y (vS a5 a4.length a6)) (sp 2 [(23, vI (0)), (22, vI (↑(a4.length)))] (se (rb 2 ?_))))))))))));refine rl (fun mz a w => ∃ J1 : Imm, ∃ t : Nat, ∃ d9 : List Shift, ∃ d2 : Seg, ∃ a8 : Seg, ∃ b0 : List Value, (J0.le J1) ∧ (t ≤ Y.tracks.length) ∧ (d9 ++ (GP Y k t ++ GQ Y (k + 1)) = draws Y) ∧ (Cl d9 J1 d2) ∧ (RowsV J1 b0 (Y.tracks)) ∧ (Own 23 1 AN (vS a5 a4.length a6) (b0) a8) ∧ Slots 56 [(23, vI ↑t), (0, .func (.yield L) #[] #[]), (1, vP by_ 0), (2, vP bm 0), (4, vI (↑k)), (13, vI (↑(a4.length))), (14, vI (↑k)), (22, vI (↑(a4.length)))] a ∧ a.defers = [] ∧ St J1 ((bX y #[vS b7 Y.cars.length b8, vS b9 Y.room.length c0, (vS a5 a4.length a6)] 110) :: (a8 ++ (d2 ++ F))) w ∧ mz = Y.tracks.length - t) ?_ ?_
  ·intro a w hS hD hW;exact ⟨_, J0, 0, d8, d1, a7, b5, IR _, Nat.zero_le _, by rw [← f3, LW (Y := Y) (f := k) (by omega)], hCl, a0, c4, hS.sub (.cons 23 rfl (.cons 0 rfl (.cons 1 rfl (.cons 2 rfl (.cons 4 rfl (.cons 13 rfl (.cons 14 rfl (.cons 22 rfl (.nil _))))))))), hD, hW, rfl⟩
  rintro mz a w ⟨J1, t, d9, d2, a8, b0, hJ1, ht, f4, hCl, a2, c5, hS, hD, hW, rfl⟩
  refine AX hS hD hW ?_;clear hS hD hW a w;replace hy := hJ1.blk _ _ hy;replace hm := hJ1.blk _ _ hm;replace b2 := b2.mono hJ1;replace b3 := b3.mono hJ1;replace a0 := a0.mono hJ1;have c2 := a2.1
  try simp only [LS, LA, LC, LN, LK] at c2
  refine rqr (sp 1 [(24, .bool (cmp .lss (↑t) (↑(a4.length))))] (se (rq (rc 24 rfl (fun h2 => ?_) (fun h2 => ?_)))))
  ·
   have e6 := h2;have h2 := BX h2;refine AK (NX (rq (rb 3 (rqr (sp 2 [(5, vI (↑t))] (sn (sp 1 [(6, vI (1))] (se (rb 4 ?_)))))))));refine rl (fun mz a w => ∃ J2 : Imm, ∃ j : Nat, ∃ c9 : List Shift, ∃ c8 : Seg, ∃ a3 : Seg, ∃ b1 : List Value, (J1.le J2) ∧ (j ≤ (Y.tracks.getD (k) []).length) ∧ (c9 ++ (EE Y k t j ++ (GP Y k (t + 1) ++ GQ Y (k + 1))) = draws Y) ∧ (Cl c9 J2 c8) ∧ (RowsV J2 b1 (Y.tracks)) ∧ (Own 23 1 AN (vS a5 a4.length a6) (b1) a3) ∧ Slots 56 [(6, vI (↑j + 1)), (0, .func (.yield L) #[] #[]), (1, vP by_ 0), (2, vP bm 0), (4, vI (↑k)), (5, vI (↑t)), (13, vI (↑(a4.length))), (14, vI (↑k)), (22, vI (↑(a4.length))), (23, vI (↑t))] a ∧ a.defers = [] ∧ St J2 ((bX y #[vS b7 Y.cars.length b8, vS b9 Y.room.length c0, (vS a5 a4.length a6)] 110) :: (a3 ++ (c8 ++ F))) w ∧ mz = (Y.tracks.getD (k) []).length - j) ?_ ?_
   ·intro a w hS hD hW;exact ⟨_, J1, 0, d9, d2, a8, b0, IR _, Nat.zero_le _, by rw [← f4, LU (Y := Y) (f := k) (t := t) (by omega), AA], hCl, a2, c5, hS.sub (.cons 6 rfl (.cons 0 rfl (.cons 1 rfl (.cons 2 rfl (.cons 4 rfl (.cons 5 rfl (.cons 13 rfl (.cons 14 rfl (.cons 22 rfl (.cons 23 rfl (.nil _))))))))))), hD, hW, rfl⟩
   rintro mz a w ⟨J2, j, c9, c8, a3, b1, hJ2, hj, e4, hCl, a1, a9, hS, hD, hW, rfl⟩
   refine AX hS hD hW ?_;clear hS hD hW a w;replace hy := hJ2.blk _ _ hy;replace hm := hJ2.blk _ _ hm;replace b2 := b2.mono hJ2;replace b3 := b3.mono hJ2;replace a0 := a0.mono hJ2;replace a2 := a2.mono hJ2;have c3 := a1.1
   try simp only [LS, LA, LC, LN, LK] at c3
   refine rq (rqr (sp 1 [(26, vI (↑j + 1))] (sd (BK (v := vP y 0) (x := (.tmp 1)) (T := 108) (d := 27) (ty := 108) (gd := none) (by kernel_rfl) rfl (by kernel_rfl) rfl (BA hy rfl)) (sp 3 [(30, vP y 2)] (sd (dlb 31 0 2 y (vS a5 a4.length a6)) (sp 1 [(32, vI (↑k))] ?_))))));obtain ⟨i1, d5⟩ := a9.row undef;refine sd (di 33 1 (k) (fun _ => d5.addr (by omega)) (n := a4.length) (hj := by omega)) ?_;have d7 := a1.2 (k) (by omega);obtain ⟨f7, f9, f8, g2, d6, g0, g1, g3⟩ := id d7;rw [d6] at d7;refine sd (BB (dl 34 (d5.get (k) (by omega) 0 (by decide) _ _ (fun x hx => by simp [hx]))) d6) (sp 2 [(36, .bool (cmp .leq (↑j + 1) (↑((Y.tracks.getD (k) []).length))))] (se (rc 36 rfl (fun h3 => ?_) (fun h3 => ?_))))
   ·
    have e7 := h3;have h3 := leq_t h3;refine AK (NX (rq (rb 5 (rqr (sp 4 [(42, .agg #[vI (↑k), vI (↑t), vI (↑j + 1)])] (sS (sal 7 52 #[vI (0), vI (0), vI (0)] (fun b4 => (sS (ss 0 0 b4 [vI (↑k), vI (↑t), vI (↑j + 1)] [vI (↑k), vI (↑t), vI (↑j + 1)] (_ :: _ :: _) (cs := [_, _, _]) rfl rfl (sn (sd (BK (v := .func (.func 92) #[] #[]) (x := (.tmp 2)) (T := 164) (d := 43) (ty := 164) (gd := none) (by kernel_rfl) rfl (by kernel_rfl) rfl (BA hm rfl)) (sd (BK (v := vP y 0) (x := (.tmp 1)) (T := 108) (d := 44) (ty := 108) (gd := none) (by kernel_rfl) rfl (by kernel_rfl) rfl (BA hy rfl)) (sd (dnb 45 0 0 b4 [vI (↑k), vI (↑t), vI (↑j + 1)]) ?_))))))))))))));have d3 := may_ct J2 (y) _ _ _ _ _ (Y) ((⟨↑k, ↑t, ↑j + 1⟩ : Shift)) b2 b3 a9 a1 (by exact hgood.ok) (by exact hgood.small) (by exact hgood.len) (by exact hgood.le);refine sS (sc (some 46) (F := ((bX b4 #[vI (↑k), vI (↑t), vI (↑j + 1)] 52) :: (c8 ++ F))) (d3 :) ((PS _ _ _).trans (PC _ (PM.symm))) (fun g5 I6 g4 b6 f6 => ?_));obtain ⟨f2, d4⟩ := f6;rw [f2, d4]; clear f2 d4;replace hy := b6.blk _ _ hy;replace hm := b6.blk _ _ hm;replace b2 := b2.mono b6;replace b3 := b3.mono b6;replace a0 := a0.mono b6;replace a2 := a2.mono b6;replace hCl := hmono _ _ _ _ b6 hCl;replace a1 := a1.mono b6;refine AW (M' := ((bX y #[vS b7 Y.cars.length b8, vS b9 Y.room.length c0, vS a5 a4.length a6] 110) :: (a3 ++ (bX b4 #[vI (↑k), vI (↑t), vI (↑j + 1)] 52) :: (c8 ++ F)))) (fun w h => by simpa only [AA, CA, NA] using h) (pm (M' := ((bX y #[vS b7 Y.cars.length b8, vS b9 Y.room.length c0, vS a5 a4.length a6] 110) :: (bX b4 #[vI (↑k), vI (↑t), vI (↑j + 1)] 52) :: (a3 ++ (c8 ++ F)))) (PC _ PM) (sd (det_eqIface (x := (.tmp 46)) (T := 126) (T' := 126) (d := 47) (ty := 4) (gd := none) (by kernel_rfl) rfl (by kernel_rfl) rfl (isNI_err _)) (sp 1 [(48, .bool (decide ((BJ Y ((⟨↑k, ↑t, ↑j + 1⟩ : Shift))) = 0)))] ?_)));refine BV 48 rfl (fun h4 => ?_) (fun h4 => ?_)
    ·
     have c6 := h4;have c6 := JU c6;refine sp 1 [(49, .func (.yield L) #[] #[])] (sd (dnb 50 1 0 b4 [vI (↑k), vI (↑t), vI (↑j + 1)]) ?_);have f1 : BJ Y (mk3 k t (j + 1)) = 0 := c6;have e8 : c9 ++ [mk3 k t (j + 1)] <+: draws Y := ⟨_, by rw [← e4, HO (by omega) f1]; simp; rfl⟩;refine sS (stp_yield (d := some 51) (f := (.tmp 49)) (args := #[.tmp 50]) (tys := #[52]) (pre := (((bX y #[vS b7 Y.cars.length b8, vS b9 Y.room.length c0, vS a5 a4.length a6] 110) :: a3) ++ c8)) (F := ((bX b4 #[vI (↑k), vI (↑t), vI (↑j + 1)] 52) :: F)) (ty := 4) (gd := (some (5, true))) (by kernel_rfl) (by kernel_rfl) rfl rfl (hround c9 (mk3 k t (j + 1)) _ ((bX y #[vS b7 Y.cars.length b8, vS b9 Y.room.length c0, vS a5 a4.length a6] 110) :: a3) c8 e8 (IT (IT (IT (IT hI0 hJ0) hJ1) hJ2) b6) ⟨_, _, rfl, b2, b3, a9, a1⟩ hCl) (by simpa only [AA, CA, NA] using (PC _ ((PM.symm).trans (PA _ (PM.symm))))) (fun yv IY MY hIY hYP => ?_));rcases hYP with ⟨rfl, Mr4, Mc4, rfl, ⟨ws4, Ms4, rfl, q1, q2, q3, q4⟩, hCl4⟩ | ⟨rfl, hSp4⟩
     ·
      replace hy := hIY.blk _ _ hy;replace hm := hIY.blk _ _ hm;replace b2 := b2.mono hIY;replace b3 := b3.mono hIY;replace a0 := a0.mono hIY;replace a2 := a2.mono hIY;replace hCl := hmono _ _ _ _ hIY hCl;replace a1 := a1.mono hIY;replace hCl := hCl4;have d0 := q4.1
      try simp only [LS, LA, LC, LN, LK] at d0
      refine AW (M' := ((bX y #[vS b7 Y.cars.length b8, vS b9 Y.room.length c0, vS a5 a4.length a6] 110) :: (Ms4 ++ (Mc4 ++ (bX b4 #[vI (↑k), vI (↑t), vI (↑j + 1)] 52) :: F)))) (fun w h => by simpa only [AA, CA, NA] using h) (pm (M' := ((bX y #[vS b7 Y.cars.length b8, vS b9 Y.room.length c0, vS a5 a4.length a6] 110) :: (bX b4 #[vI (↑k), vI (↑t), vI (↑j + 1)] 52) :: (Ms4 ++ (Mc4 ++ F)))) (PC _ ((PA _ PM).trans PM)) (sp 2 [(53, .bool (!(true)))] (se (rcf 53 rfl (AK (NB (NX (rr (sp 1 [(37, vI (↑j + 1))] (sd (da 38 (↑j + 1) (1)) (sp 1 [(6, vI ((↑j + 1) + 1))] (ee ?_))))))))))));refine AG ((Y.tracks.getD (k) []).length - (j+1)) (by omega) ?_;intro a w hS hD hW;exact ⟨IY, j+1, c9 ++ [mk3 k t (j + 1)], Mc4, Ms4, ws4, (IT (IT hJ2 b6) hIY), by omega, by rw [← e4, HO (by omega) f1]; simp, hCl, q4, q3, hS.sub (.consE 6 rfl rfl (.cons 0 rfl (.cons 1 rfl (.cons 2 rfl (.cons 4 rfl (.cons 5 rfl (.cons 13 rfl (.cons 14 rfl (.cons 22 rfl (.cons 23 rfl (.nil _))))))))))), hD, (hW.perm (PS _ _ _)).sub (TC _ (TR _)), rfl⟩
     replace hy := hIY.blk _ _ hy;replace hm := hIY.blk _ _ hm;replace b2 := b2.mono hIY;replace b3 := b3.mono hIY;replace a0 := a0.mono hIY;replace a2 := a2.mono hIY;replace hCl := hmono _ _ _ _ hIY hCl;replace a1 := a1.mono hIY;refine AW (M' := ((MY ++ (bX b4 #[vI (↑k), vI (↑t), vI (↑j + 1)] 52) :: F))) (fun w h => by simpa only [AA, CA, NA] using h) (pm (M' := ((bX b4 #[vI (↑k), vI (↑t), vI (↑j + 1)] 52) :: (MY ++ F))) PM (sp 2 [(53, .bool (!(false)))] (se (rct 53 rfl (BP ((RB (RP (RP (RB (RB (RP (RP (RB (RB (RP (RP (RB (ppm (M' := ((MY ++ (bX b4 #[vI (↑k), vI (↑t), vI (↑j + 1)] 52) :: F))) (PM.symm) (pst_ret0 (MY) (by kernel_rfl) (TA (TC _ (TR _)) _) (IT (IT (IT (IT hJ0 hJ1) hJ2) b6) hIY) ?_))))))))))))))))))));exact .inr ⟨_, hSp4⟩
    have c6 := h4;have c6 := LQ c6;refine sp 5 [(53, .bool (false))] (se (rcf 53 rfl (AK (NB (NX (rr (sp 1 [(37, vI (↑j + 1))] (sd (da 38 (↑j + 1) (1)) (sp 1 [(6, vI ((↑j + 1) + 1))] (ee ?_))))))))));refine AG ((Y.tracks.getD (k) []).length - (j+1)) (by omega) ?_;intro a w hS hD hW;exact ⟨I6, j+1, c9, c8, a3, b1, (IT hJ2 b6), by omega, by rw [← e4, NM (by omega) (show BJ Y (mk3 k t (j + 1)) ≠ 0 from c6)], hCl, a1, a9, hS.sub (.consE 6 rfl rfl (.cons 0 rfl (.cons 1 rfl (.cons 2 rfl (.cons 4 rfl (.cons 5 rfl (.cons 13 rfl (.cons 14 rfl (.cons 22 rfl (.cons 23 rfl (.nil _))))))))))), hD, (hW.perm (PS _ _ _)).sub (TC _ (TR _)), rfl⟩
   have e7 := h3;have h3 := leq_f h3;refine CF 4 ((EP (EP (EB (NB (NX (rr (sd (da 54 (↑t) (1)) (sp 1 [(23, vI (↑t + 1))] (ee ?_))))))))));refine AG (Y.tracks.length - (t+1)) (by omega) ?_;intro a w hS hD hW;exact ⟨J2, t+1, c9, c8, a3, b1, (IT hJ1 hJ2), by omega, by rw [← e4, KF (Y := Y) (f := k) (t := t) (k := j) (by omega), NA], hCl, a1, a9, hS.sub (.consE 23 rfl rfl (.cons 0 rfl (.cons 1 rfl (.cons 2 rfl (.cons 4 rfl (.cons 13 rfl (.cons 14 rfl (.cons 22 rfl (.nil _))))))))), hD, hW, rfl⟩
  have e6 := h2;have h2 := CB h2;refine CF 2 ((EP (EP (EB (NB (NX (rr (sd (da 55 (↑k) (1)) (sp 1 [(14, vI (↑k + 1))] (ee ?_))))))))));refine AG (Y.tracks.length - (k+1)) (by omega) ?_;intro a w hS hD hW;exact ⟨J1, k+1, d9, d2, a8, b0, (IT hJ0 hJ1), by omega, by rw [← f4, LT (Y := Y) (f := k) (t := t) (by omega), NA], hCl, a2, c5, hS.sub (.consE 14 rfl rfl (.cons 0 rfl (.cons 1 rfl (.cons 2 rfl (.cons 13 rfl (.nil _)))))), hD, hW, rfl⟩
 have e5 := h1;have h1 := CB h1;refine CF 0 ((EP (EP (EB ?_))));refine MX ([(bX y #[vS b7 Y.cars.length b8, vS b9 Y.room.length c0, vS a5 a4.length a6] 110)] ++ (a7 ++ (d1))) (by kernel_rfl) (by simp only [AA, NA, CA]; exact (TK _ (TA (TA (TR _) _) _))) hJ0 ?_;exact .inl ⟨(bX y #[vS b7 Y.cars.length b8, vS b9 Y.room.length c0, vS a5 a4.length a6] 110) :: a7, d1, rfl, ⟨_, _, rfl, b2, b3, c4, a0⟩, (show d8 = draws Y by rw [← f3, LV (Y := Y) (f := k) (by omega), List.append_nil]) ▸ hCl⟩
noncomputable def c_ordered1 (p : List Nat) : Code := sub (AU Tryz.f131) p
theorem ordered1_ct (I : Imm) (y : Nat) (v1 v2 v3 : Value) (y_ws : List Value) (y_Ms : Seg) (Y : Yard) (b : Nat) (a : Value) (order : List Int) (v1_f : ED I v1 Y.cars) (v2_f : AZ I v2 Y.room) (y_3h : Own 23 1 AN v3 y_ws y_Ms) (y_3r : RowsV I y_ws Y.tracks) (b_h : I.blk b = some (Obj.cells #[a] 23 (0, 0))) (a_f : AZ I a order) (h0 : 0 < Y.tracks.length) : Ct Tryz.prog 131 #[vP y 0, vP b 0] I ((bX y #[v1, v2, v3] 110) :: y_Ms) (fun v I' M' => v = .bool (decide (Y.tracks.getD 0 [] = order)) ∧ M' = ((bX y #[v1, v2, v3] 110) :: y_Ms)) := by
 obtain ⟨a7, a8, c4, c7, a9, c5, c6, c8⟩ := id v1_f;obtain ⟨b0, b1, c9, d2, b2, d0, d1, d3⟩ := id v2_f;subst a9; subst b2;obtain ⟨a1, a2, a6, b3⟩ := y_3h.shape; subst a6;have a0 := y_3r.1
 try simp only [LS, LA, LC, LN, LK] at a0
 obtain ⟨b4, b5, d4, d7, b6, d5, d6, d8⟩ := id a_f;subst b6;refine fr (args := [_, _]) (N := 13) Tryz.func131 (fun F => ?_);show Run _ _ (c_ordered1 []) _ _ [(0, vP y 0), (1, vP b 0)] _ _;refine rnm (rqr ?_);refine sp 1 [(3, .bool (false))] (se (rq ?_));refine rd0 8 (ox 4 [(7, vP y 2)] ?_);refine AB (dlb 8 0 2 y (vS a1 y_ws.length a2)) ?_;obtain ⟨d9, a4⟩ := y_3h.row undef;refine AB (di 9 1 (0) a4.addr) ?_;have a3 := y_3r.2 (0) (by omega);obtain ⟨b7, b9, b8, c2, a5, c0, c1, c3⟩ := id a3;rw [a5] at a3;refine AB (BB (dl 10 (a4.get (0) (by omega) 0 (by decide) _ _ (fun x hx => by simp [hx]))) a5) ?_;refine AB (BK (v := vS b4 order.length b5) (x := (.tmp 1)) (T := 23) (d := 11) (ty := 23) (gd := none) (by kernel_rfl) rfl (by kernel_rfl) rfl (BA b_h rfl)) ?_;refine BC (sd (dc 12 (fun I' hI => (slicesEqual_ct I' _ _ _ _ (a3.mono hI) (a_f.mono hI) :))) (sp 1 [(3, .bool (decide ((Y.tracks.getD (0) []) = order)))] (se (BP (AD (t := 3) ([(bX y #[vS a7 Y.cars.length a8, vS b0 Y.room.length b1, vS a1 y_ws.length a2] 110)] ++ (y_Ms)) (by kernel_rfl) rfl (by simp only [AA, NA, CA]; exact (TK _ (TA (TR _) _))) (IR _) ?_)))));exact ⟨congrArg Value.bool (rfl), rfl⟩
noncomputable def c_Leave1 (p : List Nat) : Code := sub (AU Tryz.f110) p
theorem Leave1_ct (I : Imm) (y : Nat) (v1 v2 v3 : Value) (y_ws : List Value) (y_Ms : Seg) (Y : Yard) (v1_f : ED I v1 Y.cars) (v2_f : AZ I v2 Y.room) (y_3h : Own 23 1 AN v3 y_ws y_Ms) (y_3r : RowsV I y_ws Y.tracks) (h0 : 0 < Y.tracks.length) : Ct Tryz.prog 110 #[vP y 0] I ((bX y #[v1, v2, v3] 110) :: y_Ms) (fun v I' M' => v = .bool (decide (((Y.tracks.getD 0 []).length : Int) = (Y.cars.length : Int))) ∧ M' = ((bX y #[v1, v2, v3] 110) :: y_Ms)) := by
 obtain ⟨a6, a7, c1, c4, a9, c2, c3, c5⟩ := id v1_f;obtain ⟨b0, b1, c6, c9, b2, c7, c8, d0⟩ := id v2_f;subst a9; subst b2;obtain ⟨a1, a2, a8, b3⟩ := y_3h.shape; subst a8;have a0 := y_3r.1
 try simp only [LS, LA, LC, LN, LK] at a0
 refine fr (args := [_]) (N := 18) Tryz.func110 (fun F => ?_);show Run _ _ (c_Leave1 []) _ _ [(0, vP y 0)] _ _;refine rnm (rqr ?_);refine sp 1 [(2, .bool (false))] (se (rq ?_));refine rd0 14 (ox 4 [(6, vP y 2)] ?_);refine AB (dlb 7 0 2 y (vS a1 y_ws.length a2)) ?_;obtain ⟨d1, a3⟩ := y_3h.row undef;refine AB (di 8 1 (0) a3.addr) ?_;have a5 := y_3r.2 (0) (by omega);obtain ⟨b4, b6, b5, b9, a4, b7, b8, c0⟩ := id a5;rw [a4] at a5;refine AB (BB (dl 9 (a3.get (0) (by omega) 0 (by decide) _ _ (fun x hx => by simp [hx]))) a4) (ox 5 [(14, vP y 0), (10, vI (↑((Y.tracks.getD (0) []).length)))] ?_);refine AB (dlb 15 0 0 y (vS a6 Y.cars.length a7)) (ox 1 [(16, vI (↑(Y.cars.length)))] ?_);refine BC (sp 2 [(2, .bool (cmp .eql (↑((Y.tracks.getD (0) []).length)) (↑(Y.cars.length))))] (se (BP (AD (t := 2) ([(bX y #[vS a6 Y.cars.length a7, vS b0 Y.room.length b1, vS a1 y_ws.length a2] 110)] ++ (y_Ms)) (by kernel_rfl) rfl (by simp only [AA, NA, CA]; exact (TK _ (TA (TR _) _))) (IR _) ?_))));exact ⟨congrArg Value.bool (rfl), rfl⟩
noncomputable def c_Leave2 (p : List Nat) : Code := sub (AU Tryz.f111) p
theorem Leave2_ct (I : Imm) (y : Nat) (v1 v2 v3 : Value) (y_ws : List Value) (y_Ms : Seg) (Y : Yard) (b : Nat) (a : Value) (cs : List Int) (v1_f : ED I v1 Y.cars) (v2_f : AZ I v2 Y.room) (y_3h : Own 23 1 AN v3 y_ws y_Ms) (y_3r : RowsV I y_ws Y.tracks) (b_h : I.blk b = some (Obj.cells #[a] 23 (0, 0))) (a_f : AZ I a cs) (h0 : 0 < Y.tracks.length) (hle : cs.length ≤ (Y.tracks.getD 0 []).length) (hq : (Y.tracks.getD 0 []).length ≤ 1000000) : Ct Tryz.prog 111 #[vP y 0, vP b 0] I ((bX y #[v1, v2, v3] 110) :: y_Ms) (fun v I' M' => v = .bool (lastP cs (Y.tracks.getD 0 [])) ∧ M' = ((bX y #[v1, v2, v3] 110) :: y_Ms)) := by
 obtain ⟨a4, a5, e6, e9, c1, e7, e8, f0⟩ := id v1_f;obtain ⟨a6, a7, f1, f4, c2, f2, f3, f5⟩ := id v2_f;subst c1; subst c2;obtain ⟨a0, a1, b6, c6⟩ := y_3h.shape; subst b6;have a2 := y_3r.1
 try simp only [LS, LA, LC, LN, LK] at a2
 obtain ⟨c3, c4, f6, f9, c7, f7, f8, g0⟩ := id a_f;subst c7;refine fr (args := [_, _]) (N := 35) Tryz.func111 (fun F => ?_);show Run _ _ (c_Leave2 []) _ _ [(0, vP y 0), (1, vP b 0)] _ _;refine rnm (rqr ?_);refine sp 1 [(3, .bool (false))] (se (rq (rq ?_)));refine rd0 21 (ox 4 [(9, vP y 2)] ?_);refine AB (dlb 10 0 2 y (vS a0 y_ws.length a1)) ?_;obtain ⟨g1, a8⟩ := y_3h.row undef;refine AB (di 11 1 (0) a8.addr) ?_;have a3 := y_3r.2 (0) (by omega);obtain ⟨c8, d0, c9, d3, b0, d1, d2, d4⟩ := id a3;rw [b0] at a3;refine AB (BB (dl 12 (a8.get (0) (by omega) 0 (by decide) _ _ (fun x hx => by simp [hx]))) b0) (ox 4 [(16, vP y 2)] ?_);refine AB (dlb 17 0 2 y (vS a0 y_ws.length a1)) ?_;obtain ⟨g2, a9⟩ := y_3h.row undef;refine AB (di 18 1 (0) a9.addr) ?_;have b2 := y_3r.2 (0) (by omega);obtain ⟨d5, d7, d6, e0, b1, d8, d9, e1⟩ := id b2;rw [b1] at b2;refine AB (BB (dl 19 (a9.get (0) (by omega) 0 (by decide) _ _ (fun x hx => by simp [hx]))) b1) (ox 1 [(20, vI (↑((Y.tracks.getD (0) []).length)))] ?_);refine AB (BK (v := vS c3 cs.length c4) (x := (.tmp 1)) (T := 23) (d := 21) (ty := 23) (gd := none) (by kernel_rfl) rfl (by kernel_rfl) rfl (BA b_h rfl)) (ox 1 [(22, vI (↑(cs.length)))] ?_);refine AB (dsb 23 (↑((Y.tracks.getD (0) []).length)) (↑(cs.length))) ?_;have b4 := a3.cutLo ((Y.tracks.getD (0) []).length - cs.length) (by omega);obtain ⟨b9, c0, e2, e5, b3, e3, e4, b5⟩ := id b4;rw [b3] at b4;refine AB (BB (DB (x := (.tmp 12)) (lo := (some (.tmp 23))) (hi := none) (T := 23) (e := 3) (sz := 1) ((Y.tracks.getD (0) []).length - cs.length) ((Y.tracks.getD (0) []).length) (d := 24) (ty := 23) (gd := none) (by kernel_rfl) rfl (by kernel_rfl) (by kernel_rfl) rfl (.inr ⟨_, .i64, rfl, (GK rfl (by omega))⟩) (.inl ⟨rfl, rfl⟩) (by omega) (by omega)) b3) (ox 2 [(26, vI (0)), (25, vI (↑(((Y.tracks.getD (0) []).drop ((Y.tracks.getD (0) []).length - cs.length)).length)))] ?_);refine BC (se (rb 0 ?_));refine rl (fun mz a w => ∃ k : Nat, (k ≤ ((Y.tracks.getD (0) []).drop ((Y.tracks.getD (0) []).length - cs.length)).length) ∧ (∀ j, j < k → ((Y.tracks.getD (0) []).drop ((Y.tracks.getD (0) []).length - cs.length)).getD j 0 ∈ cs) ∧ Slots 35 [(26, vI ↑k), (1, vP b 0), (24, vS b9 ((Y.tracks.getD (0) []).drop ((Y.tracks.getD (0) []).length - cs.length)).length c0), (25, vI (↑(((Y.tracks.getD (0) []).drop ((Y.tracks.getD (0) []).length - cs.length)).length)))] a ∧ a.defers = [] ∧ St I ((bX y #[vS a4 Y.cars.length a5, vS a6 Y.room.length a7, vS a0 y_ws.length a1] 110) :: (y_Ms ++ F)) w ∧ mz = ((Y.tracks.getD (0) []).drop ((Y.tracks.getD (0) []).length - cs.length)).length - k) ?_ ?_
 ·intro a w hS hD hW;exact ⟨_, 0, Nat.zero_le _, (fun j hj => by omega), hS.sub (.cons 26 rfl (.cons 1 rfl (.cons 24 rfl (.cons 25 rfl (.nil _))))), hD, hW, rfl⟩
 rintro mz a w ⟨k, hk, c5, hS, hD, hW, rfl⟩
 refine AX hS hD hW ?_;clear hS hD hW a w;refine rqr (sp 1 [(27, .bool (cmp .lss (↑k) (↑(((Y.tracks.getD (0) []).drop ((Y.tracks.getD (0) []).length - cs.length)).length))))] (se (rq (rc 27 rfl (fun h1 => ?_) (fun h1 => ?_)))))
 ·
  have b7 := h1;have h1 := BX h1;refine AK (NX (rq (rb 1 (rqr (sd (di 28 1 (k) b5.addr) (sd (dl 29 (BI b5 (k) (by omega))) (sp 1 [(5, vI (((Y.tracks.getD (0) []).drop ((Y.tracks.getD (0) []).length - cs.length)).getD (k) 0))] (sn (sd (BK (v := vS c3 cs.length c4) (x := (.tmp 1)) (T := 23) (d := 30) (ty := 23) (gd := none) (by kernel_rfl) rfl (by kernel_rfl) rfl (BA b_h rfl)) (sp 1 [(31, vI (((Y.tracks.getD (0) []).drop ((Y.tracks.getD (0) []).length - cs.length)).getD (k) 0))] (sd (dc 32 (fun I' hI => (Contains_ct I' _ _ (((Y.tracks.getD (0) []).drop ((Y.tracks.getD (0) []).length - cs.length)).getD (k) 0) (a_f.mono hI) :))) (sp 1 [(33, .bool (!(decide ((((Y.tracks.getD (0) []).drop ((Y.tracks.getD (0) []).length - cs.length)).getD (k) 0) ∈ cs))))] (se (rc 33 rfl (fun h2 => ?_) (fun h2 => ?_)))))))))))))))
  ·
   have b8 := h2;have h2 := LQ (CN h2);refine rqr (sp 1 [(3, .bool (false))] (se (BP ((RB (RP (RP (RB (RP (AD (t := 3) ([(bX y #[vS a4 Y.cars.length a5, vS a6 Y.room.length a7, vS a0 y_ws.length a1] 110)] ++ (y_Ms)) (by kernel_rfl) rfl (by simp only [AA, NA, CA]; exact (TK _ (TA (TR _) _))) (IR _) ?_))))))))));exact ⟨congrArg Value.bool ((lastP_miss (k := k) (by omega) h2).symm), rfl⟩
  have b8 := h2;have h2 := JU (CE h2);refine AK (NB (NX (rr (sd (da 34 (↑k) (1)) (sp 1 [(26, vI (↑k + 1))] (ee ?_))))));refine AG (((Y.tracks.getD (0) []).drop ((Y.tracks.getD (0) []).length - cs.length)).length - (k+1)) (by omega) ?_;intro a w hS hD hW;exact ⟨k+1, by omega, in_snoc c5 h2, hS.sub (.consE 26 rfl rfl (.cons 1 rfl (.cons 24 rfl (.cons 25 rfl (.nil _))))), hD, hW, rfl⟩
 have b7 := h1;have h1 := CB h1;refine CF 0 ((EP (EP (EB (NX (rqr (sp 1 [(3, .bool (true))] (se (BP (AD (t := 3) ([(bX y #[vS a4 Y.cars.length a5, vS a6 Y.room.length a7, vS a0 y_ws.length a1] 110)] ++ (y_Ms)) (by kernel_rfl) rfl (by simp only [AA, NA, CA]; exact (TK _ (TA (TR _) _))) (IR _) ?_))))))))));exact ⟨congrArg Value.bool ((lastP_all (fun j hj => c5 j (by omega))).symm), rfl⟩
noncomputable def c_ordered (p : List Nat) : Code := sub (AU Tryz.f80) p
theorem ordered_ct (I : Imm) (a : Value) (order : List Int) (a_f : AZ I a order) : Ct Tryz.prog 80 #[a] I ([]) (fun v I' M' => ∃ b : Nat, v = .func (.func 131) #[] #[vP b 0] ∧ M' = [] ∧ (I'.blk b = some (Obj.cells #[a] 23 (0, 0)))) := by
 obtain ⟨a0, a1, a5, a8, a3, a6, a7, a9⟩ := id a_f;subst a3;refine fr (args := [_]) (N := 4) Tryz.func80 (fun F => ?_);show Run _ _ (c_ordered []) _ _ [(0, vS a0 order.length a1)] _ _;refine rnm (rqr ?_);refine sS (sb 1 23 #[vS a0 order.length a1] (fun b1 => (sp 1 [(2, .nilFunc)] (sn ?_))));refine FZ (b := b1) (o := Obj.cells #[vS a0 order.length a1] 23 (0, 0)) (M0 := (F)) (PR _) (fun I3 a2 a4 => (sp 2 [(2, .func (.func 131) #[] #[vP b1 0])] (se (BP (AD (t := 2) [] (by kernel_rfl) rfl (TR _) a2 ?_)))));exact ⟨b1, rfl, rfl, a4⟩
theorem MO {I : Imm} {A : Yard} {b : Nat} {a : Value} {order : List Int} (hb : I.blk b = some (Obj.cells #[a] 23 (0, 0))) (ha : AZ I a order) (hA : 0 < A.tracks.length) :
  GoalsOk Tryz.prog 23 110 I A [.func (.func 131) #[] #[vP b 0]] [CQ order] := by
 refine ⟨rfl, fun i hi => ?_⟩;obtain rfl : i = 0 := by simp at hi; omega
 refine ⟨131, [vP b 0], rfl, by kernel_rfl, fun J y v1 v2 v3 Y ws Ms hle hk h1 h2 h3 h4 _ => ?_⟩;exact ordered1_ct J y v1 v2 v3 ws Ms Y b a order h1 h2 h3 h4 (hle.blk _ _ hb) (ha.mono hle) (by rw [hk.len]; exact hA)
theorem goals_leave {I : Imm} {A : Yard} {b : Nat} {a : Value} {cs : List Int} (hb : I.blk b = some (Obj.cells #[a] 23 (0, 0))) (ha : AZ I a cs) (hA : 0 < A.tracks.length) (hc : cs.length ≤ A.cars.length) (h5 : A.tracks.flatten.length ≤ 5) :
  GoalsOk Tryz.prog 23 110 I A [.func (.func 110) #[] #[], .func (.func 111) #[] #[vP b 0]] [wholeP, fun Y => lastP cs (Y.tracks.getD 0 [])] := by
 refine ⟨rfl, fun i hi => ?_⟩
 match i, hi with
 | 0, _ =>
  refine ⟨110, [], rfl, by kernel_rfl, fun J y v1 v2 v3 Y ws Ms hle hk h1 h2 h3 h4 _ => ?_⟩;exact Leave1_ct J y v1 v2 v3 ws Ms Y h1 h2 h3 h4 (by rw [hk.len]; exact hA)
 | 1, _ =>
  refine ⟨111, [vP b 0], rfl, by kernel_rfl, fun J y v1 v2 v3 Y ws Ms hle hk h1 h2 h3 h4 hp => ?_⟩;have hw := hp 0 (by omega);have hl : (Y.tracks.getD 0 []).length = Y.cars.length := by
   have := of_decide_eq_true hw;omega
  have h0 : 0 < Y.tracks.length := by rw [hk.len]; exact hA
  have h6 := DG (AL (d := []) h0);have h7 := hk.perm.length_eq;exact Leave2_ct J y v1 v2 v3 ws Ms Y b a cs h1 h2 h3 h4 (hle.blk _ _ hb) (ha.mono hle) h0 (by rw [hl, hk.cars]; exact hc) (by omega)
noncomputable def c_all (p : List Nat) : Code := sub (AU Tryz.f155) p
theorem all_ct (I : Imm) (y : Nat) (y_1 y_2 y_3 : Value) (y_ws : List Value) (y_Ms : Seg) (Y : Yard) (g : Value) (gs : List Value) (A : Yard) (ps : List (Yard → Bool)) (y_1f : ED I y_1 Y.cars) (y_2f : AZ I y_2 Y.room) (y_3h : Own 23 1 AN y_3 y_ws y_Ms) (y_3r : RowsV I y_ws Y.tracks) (g_f : OH I g gs) (hgo : GoalsOk Tryz.prog 23 110 I A gs ps) (hka : Kin A Y) : Ct Tryz.prog 155 #[vP y 0, g] I ([(bX y #[y_1, y_2, y_3] 110)] ++ (y_Ms)) (fun v I' M' => v = .bool (DJ ps Y) ∧ M' = [(bX y #[y_1, y_2, y_3] 110)] ++ (y_Ms)) := by
 have a6 := y_1f;obtain ⟨a0, a1, c0, c3, b0, c1, c2, c4⟩ := id a6;subst b0;have a7 := y_2f;obtain ⟨a2, a3, c5, c8, b1, c6, c7, c9⟩ := id a7;subst b1;obtain ⟨a4, a5, b2, d0⟩ := y_3h.shape; subst b2;have a8 := y_3r.1
 try simp only [LS, LA, LC, LN, LK] at a8
 obtain ⟨b4, b5, d8, e1, d1, d9, e0, b3⟩ := id g_f;subst d1;refine fr (args := [_, _]) (N := 18) Tryz.func155 (fun F => ?_);show Run _ _ (c_all []) _ _ [(0, vP y 0), (1, vS b4 gs.length b5)] _ _;refine rnm (rqr ?_);refine sp 1 [(4, .bool (false))] (se (rq (rqr ?_)));have e2 := hgo.1;refine sp 3 [(9, vI (0)), (8, vI (↑(gs.length))), (7, vS b4 gs.length b5)] (se (rb 0 ?_));refine rl (fun mz a w => ∃ J0 : Imm, ∃ k : Nat, (I.le J0) ∧ (k ≤ gs.length) ∧ (∀ j, j < k → (ps.getD j KJ) Y = true) ∧ Slots 18 [(9, vI ↑k), (0, vP y 0), (7, vS b4 gs.length b5), (8, vI (↑(gs.length)))] a ∧ a.defers = [] ∧ St J0 ((bX y #[vS a0 Y.cars.length a1, vS a2 Y.room.length a3, vS a4 y_ws.length a5] 110) :: (y_Ms ++ F)) w ∧ mz = gs.length - k) ?_ ?_
 ·intro a w hS hD hW;exact ⟨_, I, 0, IR _, Nat.zero_le _, (fun j hj => by omega), hS.sub (.cons 9 rfl (.cons 0 rfl (.cons 7 rfl (.cons 8 rfl (.nil _))))), hD, hW, rfl⟩
 rintro mz a w ⟨J0, k, hJ0, hk, b8, hS, hD, hW, rfl⟩
 refine AX hS hD hW ?_;clear hS hD hW a w;replace a6 := a6.mono hJ0;replace a7 := a7.mono hJ0;replace y_3r := y_3r.mono hJ0;replace b3 := b3.mono hJ0;replace hgo := hgo.mono hJ0;refine rqr (sp 1 [(10, .bool (cmp .lss (↑k) (↑(gs.length))))] (se (rq (rc 10 rfl (fun h1 => ?_) (fun h1 => ?_)))))
 ·
  have b6 := h1;have h1 := BX h1;refine AK (NX (rq (rb 1 (rqr (sd (di 11 1 (k) b3.addr) (sd (dl 12 (vals_get b3 (k) (by omega))) (sp 1 [(6, gs.getD (k) undef)] (sn (sp 2 [(14, vP y 0), (13, gs.getD (k) undef)] ?_)))))))));obtain ⟨d3, d2, d5, d4, d6⟩ := hgo.2 k (by omega);refine EO 13 rfl d5 ?_;have b9 := d6 J0 y (vS a0 Y.cars.length a1) (vS a2 Y.room.length a3) (vS a4 y_ws.length a5) Y y_ws y_Ms (IR _) hka a6 a7 y_3h y_3r b8;refine sS (JO (d := (some 15)) (f := (.tmp 13)) (fid := d3) (args := #[(.tmp 14)]) (tys := #[108]) (cv := d2) (F := (F)) (ty := 4) (gd := none) (by kernel_rfl) rfl rfl rfl d4 rfl b9 (by simpa only [AA, CA, NA] using (PR _)) (fun e4 I1 e3 a9 d7 => ?_));obtain ⟨rfl, rfl⟩ := d7;refine AW (M' := ((bX y #[vS a0 Y.cars.length a1, vS a2 Y.room.length a3, vS a4 y_ws.length a5] 110) :: (y_Ms ++ F))) (fun w h => by simpa only [AA, CA, NA] using h) (nm ?_);show Seq _ _ _ _ _ _ ((15, .bool ((ps.getD k KJ) Y)) :: _) _ _;refine sp 1 [(16, .bool (!((ps.getD k KJ) Y)))] (se (rc 16 rfl (fun h2 => ?_) (fun h2 => ?_)))
  ·
   have b7 := h2;have h2 := CN h2;refine rqr (sp 1 [(4, .bool (false))] (se (BP ((RB (RP (RP (RB (RP (AD (t := 4) ([(bX y #[vS a0 Y.cars.length a1, vS a2 Y.room.length a3, vS a4 y_ws.length a5] 110)] ++ (y_Ms)) (by kernel_rfl) rfl (by simp only [AA, NA, CA]; exact (TK _ (TA (TR _) _))) (IT hJ0 a9) ?_))))))))));exact ⟨(congrArg Value.bool (allP_miss (k := k) (by omega) h2).symm), rfl⟩
  have b7 := h2;have h2 := CE h2;refine AK (NB (NX (rr (sd (da 17 (↑k) (1)) (sp 1 [(9, vI (↑k + 1))] (ee ?_))))));refine AG (gs.length - (k+1)) (by omega) ?_;intro a w hS hD hW;exact ⟨I1, k+1, (IT hJ0 a9), by omega, before_snoc b8 h2, hS.sub (.consE 9 rfl rfl (.cons 0 rfl (.cons 7 rfl (.cons 8 rfl (.nil _))))), hD, hW, rfl⟩
 have b6 := h1;have h1 := CB h1;refine CF 0 ((EP (EP (EB (NX (rqr (sp 1 [(4, .bool (true))] (se (BP (AD (t := 4) ([(bX y #[vS a0 Y.cars.length a1, vS a2 Y.room.length a3, vS a4 y_ws.length a5] 110)] ++ (y_Ms)) (by kernel_rfl) rfl (by simp only [AA, NA, CA]; exact (TK _ (TA (TR _) _))) hJ0 ?_))))))))));exact ⟨(congrArg Value.bool (allP_done (fun j hj => b8 j (by omega))).symm), rfl⟩
def SearchAt (n : Nat) : Prop := ∀ (I : Imm) (y : Nat) (y_1 y_2 y_3 : Value) (y_ws : List Value) (y_Ms : Seg) (Y : Yard) (d : Nat) (r : Nat) (r_es : Array MapEntry) (r_cl : Nat) (m : Met) (g : Value) (gs : List Value) (A : Yard) (ps : List (Yard → Bool)) (y_1f : ED I y_1 Y.cars) (y_2f : AZ I y_2 Y.room) (y_3h : Own 23 1 AN y_3 y_ws y_Ms) (y_3r : RowsV I y_ws Y.tracks) (r_is : MapIs encP r_es (metV m)) (g_f : OH I g gs) (hG : Glob I) (hgo : GoalsOk Tryz.prog 23 110 I A gs ps) (hka : Kin A Y) (hfa : Fine A) (hd : d ≤ 4), d = n → Ct Tryz.prog 130 #[vP y 0, vI ↑d, .map (some r), g] I ([(bX y #[y_1, y_2, y_3] 110)] ++ (y_Ms ++ ([(r, Obj.map r_es r_cl)]))) (fun v I' M' => ∃ y_wt : List Value, ∃ y_Mt : Seg, ∃ r_et : Array MapEntry, ∃ r_ct : Nat, ∃ u0 : Value, ∃ Ms0 : Seg, v = .tuple #[u0, .bool ((AP (DJ ps) d Y m).1.isSome)] ∧ M' = [(bX y #[y_1, y_2, y_3] 110)] ++ (y_Mt ++ ([(r, Obj.map r_et r_ct)] ++ (Ms0))) ∧ Own 23 1 AN y_3 y_wt y_Mt ∧ RowsV I' y_wt (Y).tracks ∧ MapIs encP r_et (metV ((AP (DJ ps) d Y m).2)) ∧ Own 52 3 BQ u0 ((AP (DJ ps) d Y m).1.getD []) Ms0)
noncomputable def c_moveD (p : List Nat) : Code := sub (AU Tryz.f86) p
theorem move_ctD (I : Imm) (y : Nat) (y_1 y_2 y_3 : Value) (y_ws : List Value) (y_Ms : Seg) (Y : Yard) (s : Shift) (y_1f : ED I y_1 Y.cars) (y_2f : AZ I y_2 Y.room) (y_3h : Own 23 1 AN y_3 y_ws y_Ms) (y_3r : RowsV I y_ws Y.tracks) (hf : 0 ≤ s.frm ∧ s.frm < Y.tracks.length) (ht : 0 ≤ s.to ∧ s.to < Y.tracks.length) (hm : 0 ≤ s.many ∧ s.many ≤ (Y.tracks.getD s.frm.toNat []).length) (hq : ∀ t ∈ Y.tracks, t.length ≤ 1000000) : CtD Tryz.prog 86 #[vP y 0, .agg #[vI s.frm, vI s.to, vI s.many]] I ([(bX y #[y_1, y_2, y_3] 110)] ++ (y_Ms)) (fun v I' M' => ∃ y_wt : List Value, ∃ y_Mt : Seg, v = .tuple #[] ∧ M' = [(bX y #[y_1, y_2, y_3] 110)] ++ (y_Mt) ∧ Own 23 1 AN y_3 y_wt y_Mt ∧ RowsV I' y_wt (moved Y s).tracks) := by
 have f5 := y_1f;obtain ⟨a2, a3, i9, j2, f4, j0, j1, j3⟩ := id f5;subst f4;have f7 := y_2f;obtain ⟨a4, a5, j4, j7, f6, j5, j6, j8⟩ := id f7;subst f6;obtain ⟨a0, a1, f8, j9⟩ := y_3h.shape; subst f8;have b8 := y_3r.1
 try simp only [LS, LA, LC, LN, LK] at b8
 refine fnD_of_run (fn := Tryz.f86) (args := [_, _]) (N := 54) Tryz.func86 rfl (by kernel_rfl) (Nat.le_of_ble_eq_true rfl) (fun F => ?_);show Run _ _ (c_moveD []) _ _ [(0, vP y 0), (1, .agg #[vI (s.frm), vI (s.to), vI (s.many)])] _ _;refine rnm (rqr ?_);refine sS (sb 3 52 #[vI (s.frm), vI (s.to), vI (s.many)] (fun b1 => (se (rq ?_))));refine rd0 7 (ox 4 [(9, vP y 2)] ?_);refine AB (dlb 10 1 2 y (vS a0 y_ws.length a1)) (ox 1 [(11, vP b1 0)] ?_);refine AB (dlb 12 0 0 b1 (vI (s.frm))) ?_;refine BC ?_;obtain ⟨n0, e3⟩ := y_3h.row undef;refine sd (diI 13 1 (s.frm) e3.addr) ?_;have a7 := y_3r.2 ((s.frm : Int).toNat) (by omega);obtain ⟨d4, d5, k3, k6, e7, k4, k5, k7⟩ := id a7;rw [e7] at a7;refine sd (BB (dl 14 (e3.get ((s.frm : Int).toNat) (by omega) 0 (by decide) _ _ (fun x hx => by simp [hx]))) e7) (sp 1 [(4, vS d4 (Y.tracks.getD ((s.frm : Int).toNat) []).length d5)] (sn (sp 3 [(17, vP b1 2), (16, vI (↑((Y.tracks.getD ((s.frm : Int).toNat) []).length)))] (sd (dlb 18 0 2 b1 (vI (s.many))) (sd (dsb 19 (↑((Y.tracks.getD ((s.frm : Int).toNat) []).length)) (s.many)) (sp 1 [(5, vI ((↑((Y.tracks.getD ((s.frm : Int).toNat) []).length)) - s.many))] (se (rq ?_))))))));refine rd 21 [(0, true), (1, true), (2, true), (3, true), (4, true), (5, true), (6, true), (7, true), (8, true), (9, true), (10, true), (11, true), (12, true), (13, true), (14, true), (15, true), (17, true), (18, true), (19, true), (16, false), (20, false)] ((bX b1 #[vI (s.frm), vI (s.to), vI (s.many)] 52) :: (bX y #[vS a2 Y.cars.length a3, vS a4 Y.room.length a5, vS a0 y_ws.length a1] 110) :: y_Ms) (F) (ox 4 [(23, vP y 2)] ?_);refine AB (dlb 24 1 2 y (vS a0 y_ws.length a1)) (ox 1 [(25, vP b1 1)] ?_);refine AB (dlb 26 0 1 b1 (vI (s.to))) (ox 4 [(30, vP y 2)] ?_);refine AB (dlb 31 1 2 y (vS a0 y_ws.length a1)) (ox 1 [(32, vP b1 1)] ?_);refine AB (dlb 33 0 1 b1 (vI (s.to))) ?_;obtain ⟨n1, e4⟩ := y_3h.row undef;refine AB (diI 34 1 (s.to) e4.addr) ?_;have d6 := y_3r.2 ((s.to : Int).toNat) (by omega);obtain ⟨k8, l0, k9, l3, e8, l1, l2, l4⟩ := id d6;rw [e8] at d6;refine AB (BB (dl 35 (e4.get ((s.to : Int).toNat) (by omega) 0 (by decide) _ _ (fun x hx => by simp [hx]))) e8) (ox 2 [(38, vI ((↑((Y.tracks.getD ((s.frm : Int).toNat) []).length)) - s.many)), (37, vS d4 (Y.tracks.getD ((s.frm : Int).toNat) []).length d5)] ?_);have b7 := a7.cutLo (((↑((Y.tracks.getD ((s.frm).toNat) []).length) : Int) - s.many).toNat) (by omega);obtain ⟨l9, m1, m0, m4, e9, m2, m3, m5⟩ := id b7;rw [e9] at b7;refine AB (BB (DB (x := (.tmp 37)) (lo := (some (.tmp 38))) (hi := none) (T := 23) (e := 3) (sz := 1) (((↑((Y.tracks.getD ((s.frm).toNat) []).length) : Int) - s.many).toNat) ((Y.tracks.getD ((s.frm : Int).toNat) []).length) (d := 39) (ty := 23) (gd := none) (by kernel_rfl) rfl (by kernel_rfl) (by kernel_rfl) rfl (.inr ⟨_, .i64, rfl, (GK rfl (by omega))⟩) (.inl ⟨rfl, rfl⟩) (by omega) (by omega)) e9) ?_;refine BW (sc (some 36) (F := ((bX b1 #[vI (s.frm), vI (s.to), vI (s.many)] 52) :: (bX y #[vS a2 Y.cars.length a3, vS a4 Y.room.length a5, vS a0 y_ws.length a1] 110) :: (y_Ms ++ F))) (GB _ _ _ d6 (by have h9 := hq _ (AL (d := []) (xs := Y.tracks) (k := s.to.toNat) (by omega)); omega) :) (PR _) (fun l7 m6 l5 a8 h6 => ?_));obtain ⟨n2, b9, e1, d7, e5⟩ := h6;rw [e1, d7]; clear e1 d7;replace y_3r := y_3r.mono a8;replace a7 := a7.mono a8;replace b7 := b7.mono a8;obtain ⟨f0, f1, f2, i7⟩ := e5.shape;subst f2;refine AQ (S' := ((b9 ++ F))) (PW (PW (PO _ _ _))) ?_;show OFP _ _ _ _ _ _ ((36, vS f0 ((Y.tracks.getD ((s.to : Int).toNat) [])).length f1) :: _) _ _;refine BW (AO (d := 40) (x := (.tmp 36)) (y := (.tmp 39)) (T := 23) (T' := 23) (E := 3) (E' := 3) (sz := 1) (bs := 8) (z := vI (0)) (cell := AR) (xs := (Y.tracks.getD ((s.to : Int).toNat) [])) (ys := (Y.tracks.getD ((s.frm : Int).toNat) []).drop (((↑((Y.tracks.getD ((s.frm).toNat) []).length) : Int) - s.many).toNat)) (Ms := b9) (ty := 23) (gd := none) (by kernel_rfl) rfl (by kernel_rfl) (by kernel_rfl) (by kernel_rfl) (by kernel_rfl) (by kernel_rfl) (by decide) (by kernel_rfl) rfl rfl (e5) (show List.Perm ((bX b1 #[vI (s.frm), vI (s.to), vI (s.many)] 52) :: (bX y #[vS a2 Y.cars.length a3, vS a4 Y.room.length a5, vS a0 y_ws.length a1] 110) :: (y_Ms ++ (b9 ++ F))) ((b9 ++ (bX b1 #[vI (s.frm), vI (s.to), vI (s.many)] 52) :: (bX y #[vS a2 Y.cars.length a3, vS a4 Y.room.length a5, vS a0 y_ws.length a1] 110) :: (y_Ms ++ F))) from (PU (PU (PO _ _ _)))) (BU _) b7.src (by first | omega | (have h9 := hq _ (AL (d := []) (xs := Y.tracks) (k := s.to.toNat) (by omega)); have d3 := hq _ (AL (d := []) (xs := Y.tracks) (k := s.frm.toNat) (by omega)); simp only [LD]; omega)) (fun n4 f9 d9 => ?_));refine AQ (S' := ((f9 ++ F))) (PW (PW (PO _ _ _))) ?_;obtain ⟨d1, d2, h8, k2⟩ := d9.shape;subst h8;show OFP _ _ _ _ _ _ ((40, vS d1 (((Y.tracks.getD ((s.to : Int).toNat) [])) ++ ((Y.tracks.getD ((s.frm : Int).toNat) []).drop (((↑((Y.tracks.getD ((s.frm).toNat) []).length) : Int) - s.many).toNat))).length d2) :: _) _ _;refine EL (nm (nm ?_));obtain ⟨k0, c3⟩ := y_3h.row undef;refine sd (diI 41 1 (s.to) c3.addr) ?_;have h9 := hq _ (AL (d := []) (xs := Y.tracks) (k := s.to.toNat) (by omega)); have d3 := hq _ (AL (d := []) (xs := Y.tracks) (k := s.frm.toNat) (by omega)); have q5 : (Y.tracks.getD s.to.toNat [] ++ (Y.tracks.getD s.frm.toNat []).drop ((↑((Y.tracks.getD ((s.frm).toNat) []).length) : Int) - s.many).toNat).length ≤ 2000000 := by (simp only [LA, LD]; omega)
 refine sfz (A := ((bX b1 #[vI (s.frm), vI (s.to), vI (s.many)] 52) :: (bX y #[vS a2 Y.cars.length a3, vS a4 Y.room.length a5, vS a0 y_ws.length a1] 110) :: (y_Ms ++ F))) 0 d9 (PU (PU (PO _ _ _))) (fun m7 b4 b2 => ?_);replace y_3r := y_3r.mono b4;replace a7 := a7.mono b4;obtain ⟨g1, g3, g2, g6, c9, g4, g5, g7⟩ := id b2;cases c9;refine sS (DI (T := 23) (x := (.tmp 41)) (y := (.tmp 40)) (rc := fun i f => AN ((y_ws).getD i undef) f) undef ((s.to : Int).toNat) 0 ((vS d1 (((Y.tracks.getD ((s.to : Int).toNat) [])) ++ ((Y.tracks.getD ((s.frm : Int).toNat) []).drop (((↑((Y.tracks.getD ((s.frm).toNat) []).length) : Int) - s.many).toNat))).length d2 : Value)) (ty := 0) (gd := none) (by kernel_rfl) rfl y_3h c3 (by omega) (by decide) rfl rfl (by kernel_rfl) rfl rfl (by intro f hf; match f, hf with | 0, _ => rfl) (PU (PM.symm)) (fun c0 e0 => (pm (M' := ((bX b1 #[vI (s.frm), vI (s.to), vI (s.many)] 52) :: (bX y #[vS a2 Y.cars.length a3, vS a4 Y.room.length a5, vS a0 y_ws.length a1] 110) :: (c0 ++ F))) (PW PM) ?_)));have a6 := y_3r.set b2 ((s.to : Int).toNat);have a9 := a6.1
 try simp only [LS, LA, LC, LN, LK] at a9
 refine se ?_;refine rd 11 [(0, true), (1, true), (2, true), (3, true), (4, true), (5, true), (6, true), (7, true), (8, true), (9, true), (10, false)] ((bX b1 #[vI (s.frm), vI (s.to), vI (s.many)] 52) :: (bX y #[vS a2 Y.cars.length a3, vS a4 Y.room.length a5, vS a0 y_ws.length a1] 110) :: c0) (F) (ox 4 [(45, vP y 2)] ?_);refine AB (dlb 46 1 2 y (vS a0 y_ws.length a1)) (ox 1 [(47, vP b1 0)] ?_);refine AB (dlb 48 0 0 b1 (vI (s.frm))) (ox 2 [(50, vI ((↑((Y.tracks.getD ((s.frm : Int).toNat) []).length)) - s.many)), (49, vS d4 (Y.tracks.getD ((s.frm : Int).toNat) []).length d5)] ?_);have b6 := a7.cutHi (((↑((Y.tracks.getD ((s.frm).toNat) []).length) : Int) - s.many).toNat) (by omega);obtain ⟨i0, i2, i1, i5, c5, i3, i4, i6⟩ := id b6;rw [c5] at b6;refine AB (BB (DB (x := (.tmp 49)) (lo := none) (hi := (some (.tmp 50))) (T := 23) (e := 3) (sz := 1) (0) (((↑((Y.tracks.getD ((s.frm).toNat) []).length) : Int) - s.many).toNat) (d := 51) (ty := 23) (gd := none) (by kernel_rfl) rfl (by kernel_rfl) (by kernel_rfl) rfl (.inl ⟨rfl, rfl⟩) (.inr ⟨_, .i64, rfl, (GK rfl (by omega))⟩) (by omega) (by omega)) c5) ?_;refine BW (sc (some 52) (F := ((bX b1 #[vI (s.frm), vI (s.to), vI (s.many)] 52) :: (bX y #[vS a2 Y.cars.length a3, vS a4 Y.room.length a5, vS a0 y_ws.length a1] 110) :: (c0 ++ F))) (GB _ _ _ b6 (by have d3 := hq _ (AL (d := []) (xs := Y.tracks) (k := s.frm.toNat) (by omega)); simp only [LK]; omega) :) (PR _) (fun l8 m8 l6 c1 h7 => ?_));obtain ⟨n3, g0, e2, d8, e6⟩ := h7;rw [e2, d8]; clear e2 d8;replace a6 := a6.mono c1;obtain ⟨c6, c7, f3, i8⟩ := e6.shape;subst f3;refine AQ (S' := ((g0 ++ F))) (PW (PW (PO _ _ _))) ?_;show OFP _ _ _ _ _ _ ((52, vS c6 (((Y.tracks.getD ((s.frm : Int).toNat) []).take (((↑((Y.tracks.getD ((s.frm).toNat) []).length) : Int) - s.many).toNat))).length c7) :: _) _ _;refine EL (nm (nm ?_));obtain ⟨k1, b5⟩ := e0.row undef;simp only [LS] at b5;refine sd (diI 53 1 (s.frm) (fun _ => b5.addr (by omega)) (n := y_ws.length)) ?_;have d3 := hq _ (AL (d := []) (xs := Y.tracks) (k := s.frm.toNat) (by omega)); have q6 : ((Y.tracks.getD s.frm.toNat []).take ((↑((Y.tracks.getD ((s.frm).toNat) []).length) : Int) - s.many).toNat).length ≤ 1000000 := by (simp only [LK]; omega)
 refine sfz (A := ((bX b1 #[vI (s.frm), vI (s.to), vI (s.many)] 52) :: (bX y #[vS a2 Y.cars.length a3, vS a4 Y.room.length a5, vS a0 y_ws.length a1] 110) :: (c0 ++ F))) 0 e6 (PU (PU (PO _ _ _))) (fun m9 c2 b3 => ?_);replace a6 := a6.mono c2;obtain ⟨g8, h0, g9, h3, d0, h1, h2, h4⟩ := id b3;cases d0;refine sS (DI (T := 23) (x := (.tmp 53)) (y := (.tmp 52)) (rc := fun i f => AN ((y_ws.set ((s.to : Int).toNat) ((vS d1 (((Y.tracks.getD ((s.to : Int).toNat) [])) ++ ((Y.tracks.getD ((s.frm : Int).toNat) []).drop (((↑((Y.tracks.getD ((s.frm).toNat) []).length) : Int) - s.many).toNat))).length d2 : Value))).getD i undef) f) undef ((s.frm : Int).toNat) 0 ((vS c6 (((Y.tracks.getD ((s.frm : Int).toNat) []).take (((↑((Y.tracks.getD ((s.frm).toNat) []).length) : Int) - s.many).toNat))).length c7 : Value)) (ty := 0) (gd := none) (by kernel_rfl) rfl e0 (by simpa only [LS] using b5) (by simp only [LS]; omega) (by decide) rfl rfl (by kernel_rfl) rfl rfl (by intro f hf; match f, hf with | 0, _ => rfl) (PU (PM.symm)) (fun c8 h5 => (pm (M' := ((bX b1 #[vI (s.frm), vI (s.to), vI (s.many)] 52) :: (bX y #[vS a2 Y.cars.length a3, vS a4 Y.room.length a5, vS a0 y_ws.length a1] 110) :: (c8 ++ F))) (PW PM) ?_)));have c4 := a6.set b3 ((s.frm : Int).toNat);have b0 := c4.1
 try simp only [LS, LA, LC, LN, LK] at b0
 refine ee (ppm (M' := ((bX y #[vS a2 Y.cars.length a3, vS a4 Y.room.length a5, vS a0 y_ws.length a1] 110) :: (c8 ++ (bX b1 #[vI (s.frm), vI (s.to), vI (s.many)] 52) :: F))) ((PS _ _ _).trans (PC _ (PM.symm))) ?_);refine MX ([(bX y #[vS a2 Y.cars.length a3, vS a4 Y.room.length a5, vS a0 y_ws.length a1] 110)] ++ (c8)) (by kernel_rfl) (by simp only [AA, NA, CA]; exact (TK _ (TA (TC _ (TR _)) _))) (IT (IT (IT a8 b4) c1) c2) ?_;exact ⟨_, _, rfl, rfl, h5, c4⟩
noncomputable def c_try (p : List Nat) : Code := sub (AU Tryz.f156) p
theorem try_ct (I : Imm) (y : Nat) (y_1 y_2 y_3 : Value) (y_ws : List Value) (y_Ms : Seg) (Y : Yard) (s : Shift) (d : Nat) (r : Nat) (r_es : Array MapEntry) (r_cl : Nat) (m : Met) (g : Value) (gs : List Value) (A : Yard) (ps : List (Yard → Bool)) (y_1f : ED I y_1 Y.cars) (y_2f : AZ I y_2 Y.room) (y_3h : Own 23 1 AN y_3 y_ws y_Ms) (y_3r : RowsV I y_ws Y.tracks) (r_is : MapIs encP r_es (metV m)) (g_f : OH I g gs) (hG : Glob I) (hgo : GoalsOk Tryz.prog 23 110 I A gs ps) (hka : Kin A Y) (hfa : Fine A) (hd : d ≤ 4) (hm : BJ Y s = 0) (hs : SearchAt d) : Ct Tryz.prog 156 #[vP y 0, .agg #[vI s.frm, vI s.to, vI s.many], vI ↑d, .map (some r), g] I ([(bX y #[y_1, y_2, y_3] 110)] ++ (y_Ms ++ ([(r, Obj.map r_es r_cl)]))) (fun v I' M' => ∃ y_wt : List Value, ∃ y_Mt : Seg, ∃ r_et : Array MapEntry, ∃ r_ct : Nat, ∃ u0 : Value, ∃ Ms0 : Seg, v = .tuple #[u0, .bool ((AP (DJ ps) d (moved Y s) m).1.isSome)] ∧ M' = [(bX y #[y_1, y_2, y_3] 110)] ++ (y_Mt ++ ([(r, Obj.map r_et r_ct)] ++ (Ms0))) ∧ Own 23 1 AN y_3 y_wt y_Mt ∧ RowsV I' y_wt (Y).tracks ∧ MapIs encP r_et (metV ((AP (DJ ps) d (moved Y s) m).2)) ∧ Own 52 3 BQ u0 ((AP (DJ ps) d (moved Y s) m).1.getD []) Ms0) := by
 have a6 := y_1f;obtain ⟨a0, a1, g1, g4, d9, g2, g3, g5⟩ := id a6;subst d9;have a7 := y_2f;obtain ⟨a2, a3, g6, g9, e0, g7, g8, h0⟩ := id a7;subst e0;obtain ⟨a4, a5, e1, h1⟩ := y_3h.shape; subst e1;have b9 := y_3r.1
 try simp only [LS, LA, LC, LN, LK] at b9
 obtain ⟨f7, f8, i7, j0, h6, i8, i9, j1⟩ := id g_f;subst h6;refine NR (fn := Tryz.f156) (args := [_, _, _, _, _]) (N := 25) Tryz.func156 rfl (by kernel_rfl) (Nat.le_of_ble_eq_true rfl) (fun F => ?_);show Run _ _ (c_try []) _ _ [(0, vP y 0), (1, .agg #[vI (s.frm), vI (s.to), vI (s.many)]), (2, vI (↑d)), (3, .map (some r)), (4, vS f7 gs.length f8)] _ _;refine IM (M' := ((bX y #[vS a0 Y.cars.length a1, vS a2 Y.room.length a3, vS a4 y_ws.length a5] 110) :: (y_Ms ++ (r, Obj.map r_es r_cl) :: F))) (fun w h => by simpa only [AA, CA, NA] using h) ?_;refine rpm (M' := ((bX y #[vS a0 Y.cars.length a1, vS a2 Y.room.length a3, vS a4 y_ws.length a5] 110) :: (r, Obj.map r_es r_cl) :: (y_Ms ++ F))) (PC _ PM) (rqr (sS (sb 6 52 #[vI (s.frm), vI (s.to), vI (s.many)] (fun b1 => (sp 2 [(11, .bool (false)), (10, vN)] (sn ?_))))));have e4 := JA hm;have h7 := Kin.good hfa hka;refine sp 1 [(12, vP y 0)] (sd (dnb 13 0 0 b1 [vI (s.frm), vI (s.to), vI (s.many)]) ?_);have c8 := move_ct I (y) _ _ _ _ _ (Y) (s) a6 a7 y_3h y_3r (by exact e4.1) (by exact e4.2.1) (by exact e4.2.2) (by exact h7.le);refine sS (sc (some 14) (F := ((bX b1 #[vI (s.frm), vI (s.to), vI (s.many)] 52) :: (r, Obj.map r_es r_cl) :: F)) (c8 :) ((PS _ _ _).trans (PC _ (PU (PM.symm)))) (fun i2 I3 h9 b5 h8 => ?_));obtain ⟨h2, c3, g0, f9, c0, b4⟩ := h8;rw [g0, f9]; clear g0 f9;replace a6 := a6.mono b5;replace a7 := a7.mono b5;replace g_f := g_f.mono b5;replace hG := hG.mono b5;replace hgo := hgo.mono b5;obtain ⟨e9, f0, f1, f2⟩ := id c0.shape;have b6 := b4.1
 try simp only [LS, LA, LC, LN, LK] at b6
 refine AW (M' := ((bX y #[vS a0 Y.cars.length a1, vS a2 Y.room.length a3, vS a4 y_ws.length a5] 110) :: (c3 ++ (bX b1 #[vI (s.frm), vI (s.to), vI (s.many)] 52) :: (r, Obj.map r_es r_cl) :: F))) (fun w h => by simpa only [AA, CA, NA] using h) (pm (M' := ((bX y #[vS a0 Y.cars.length a1, vS a2 Y.room.length a3, vS a4 y_ws.length a5] 110) :: (bX b1 #[vI (s.frm), vI (s.to), vI (s.many)] 52) :: (r, Obj.map r_es r_cl) :: (c3 ++ F))) (PC _ (PW PM)) (sn (sp 1 [(15, vP y 0)] (sd (dnb 16 1 0 b1 [vI (s.frm), vI (s.to), vI (s.many)]) ?_))));have c9 := back_ct I3 (s);refine sS (sc (some 17) (c9 :) (.refl _) (fun i3 h3 i0 b2 e5 => ?_));obtain ⟨d3, d1⟩ := e5;rw [d3, d1]; clear d3 d1;replace a6 := a6.mono b2;replace a7 := a7.mono b2;replace g_f := g_f.mono b2;replace hG := hG.mono b2;replace hgo := hgo.mono b2;replace b4 := b4.mono b2;refine nm ?_;refine seq_defer (f := (.func 86)) (fid := 86) (args := #[.tmp 15, .tmp 17]) (tys := #[108, 52]) (vals := [vP y 0, .agg #[vI ((CJ s).frm), vI ((CJ s).to), vI ((CJ s).many)]]) (cv := []) (ty := 0) (by kernel_rfl) rfl rfl (sn (sp 4 [(21, vS f7 gs.length f8), (20, .map (some r)), (19, vI (↑d)), (18, vP y 0)] ?_));have d0 := hs h3 (y) _ _ _ _ _ (moved Y s) (d) (r) (r_es) (r_cl) (m) _ _ (A) (ps) a6 a7 c0 b4 r_is g_f (by assumption) (by assumption) (by exact hka.moved hm) (by assumption) (by omega) (by rfl);refine sS (sc (some 22) (F := ((bX b1 #[vI (s.frm), vI (s.to), vI (s.many)] 52) :: F)) (d0 :) (by simpa only [AA, CA, NA] using (PC _ ((PU (PM.symm)).trans (PA _ (PS _ _ _))))) (fun i4 h4 i1 b8 e6 => ?_));obtain ⟨c7, b3, a9, a8, i5, b0, d6, d2, c1, c2, d8, d7⟩ := e6;rw [d6, d2]; clear d6 d2;replace a6 := a6.mono b8;replace a7 := a7.mono b8;obtain ⟨f3, f4, f5, f6⟩ := id c1.shape;have b7 := c2.1
 try simp only [LS, LA, LC, LN, LK] at b7
 obtain ⟨c4, c5, c6, e8⟩ := d7.shape;subst c6;refine AW (M' := ((bX y #[vS a0 Y.cars.length a1, vS a2 Y.room.length a3, vS a4 y_ws.length a5] 110) :: (b3 ++ (r, Obj.map a9 a8) :: (b0 ++ (bX b1 #[vI (s.frm), vI (s.to), vI (s.many)] 52) :: F)))) (fun w h => by simpa only [AA, CA, NA] using h) (pm (M' := ((bX y #[vS a0 Y.cars.length a1, vS a2 Y.room.length a3, vS a4 y_ws.length a5] 110) :: (r, Obj.map a9 a8) :: (bX b1 #[vI (s.frm), vI (s.to), vI (s.many)] 52) :: (b3 ++ (b0 ++ F)))) (PC _ (PW ((PA _ PM).trans PM))) (sp 4 [(11, .bool ((AP (DJ ps) d (moved Y s) m).1.isSome)), (10, vS c4 ((AP (DJ ps) d (moved Y s) m).1.getD []).length c5)] (se (BP ?_))));have e7 := back_ok hm;have e3 := move_ctD h4 y (vS a0 Y.cars.length a1) (vS a2 Y.room.length a3) (vS a4 y_ws.length a5) c7 b3 (moved Y s) (CJ s) a6 a7 c1 c2 e7.1 e7.2.1 e7.2.2 (Kin.good hfa (hka.moved hm)).le;refine pst_deferred (fid := 86) (vals := [vP y 0, .agg #[vI ((CJ s).frm), vI ((CJ s).to), vI ((CJ s).many)]]) (cv := []) (ds := []) (F1 := ((r, Obj.map a9 a8) :: (bX b1 #[vI (s.frm), vI (s.to), vI (s.many)] 52) :: (b0 ++ F))) (by kernel_rfl) e3 (by simpa only [AA, CA, NA] using (PC _ (PU (PM.symm)))) (fun dv dI dM h5 dp => ?_);obtain ⟨i6, e2, rfl, rfl, d4, d5⟩ := dp;rw [moved_back hm] at d5;refine pst_mem (M' := ((bX y #[vS a0 Y.cars.length a1, vS a2 Y.room.length a3, vS a4 y_ws.length a5] 110) :: (e2 ++ (r, Obj.map a9 a8) :: (bX b1 #[vI (s.frm), vI (s.to), vI (s.many)] 52) :: (b0 ++ F)))) (fun w h => by simpa only [AA, CA, NA] using h) ?_;refine HD (R := ((bX y #[vS a0 Y.cars.length a1, vS a2 Y.room.length a3, vS a4 y_ws.length a5] 110) :: (e2 ++ (r, Obj.map a9 a8) :: (bX b1 #[vI (s.frm), vI (s.to), vI (s.many)] 52) :: (b0 ++ F)))) [] (.inl rfl) (PR _) (ppm (M' := ((bX y #[vS a0 Y.cars.length a1, vS a2 Y.room.length a3, vS a4 y_ws.length a5] 110) :: (e2 ++ (r, Obj.map a9 a8) :: (b0 ++ (bX b1 #[vI (s.frm), vI (s.to), vI (s.many)] 52) :: F)))) (PC _ (PA _ (PC _ (PM.symm)))) (CG (t := 10) (u := 11) ([(bX y #[vS a0 Y.cars.length a1, vS a2 Y.room.length a3, vS a4 y_ws.length a5] 110)] ++ (e2 ++ ([(r, Obj.map a9 a8)] ++ (b0)))) (by kernel_rfl) rfl rfl (by simp only [AA, NA, CA]; exact (TK _ (TA (TK _ (TA (TC _ (TR _)) _)) _))) (IT (IT (IT b5 b2) b8) h5) ?_));exact ⟨_, _, _, _, _, _, rfl, rfl, d4, d5, d8, d7⟩
noncomputable def PK (p : List Nat) : Code := sub (AU Tryz.f130) p
set_option maxHeartbeats 1000000 in
theorem search_of (I : Imm) (y : Nat) (y_1 y_2 y_3 : Value) (y_ws : List Value) (y_Ms : Seg) (Y : Yard) (d : Nat) (r : Nat) (r_es : Array MapEntry) (r_cl : Nat) (m : Met) (g : Value) (gs : List Value) (A : Yard) (ps : List (Yard → Bool)) (y_1f : ED I y_1 Y.cars) (y_2f : AZ I y_2 Y.room) (y_3h : Own 23 1 AN y_3 y_ws y_Ms) (y_3r : RowsV I y_ws Y.tracks) (r_is : MapIs encP r_es (metV m)) (g_f : OH I g gs) (hG : Glob I) (hgo : GoalsOk Tryz.prog 23 110 I A gs ps) (hka : Kin A Y) (hfa : Fine A) (hd : d ≤ 4) (ht : ∀ n, n + 1 = d → SearchAt n) : Ct Tryz.prog 130 #[vP y 0, vI ↑d, .map (some r), g] I ([(bX y #[y_1, y_2, y_3] 110)] ++ (y_Ms ++ ([(r, Obj.map r_es r_cl)]))) (fun v I' M' => ∃ y_wt : List Value, ∃ y_Mt : Seg, ∃ r_et : Array MapEntry, ∃ r_ct : Nat, ∃ u0 : Value, ∃ Ms0 : Seg, v = .tuple #[u0, .bool ((AP (DJ ps) d Y m).1.isSome)] ∧ M' = [(bX y #[y_1, y_2, y_3] 110)] ++ (y_Mt ++ ([(r, Obj.map r_et r_ct)] ++ (Ms0))) ∧ Own 23 1 AN y_3 y_wt y_Mt ∧ RowsV I' y_wt (Y).tracks ∧ MapIs encP r_et (metV ((AP (DJ ps) d Y m).2)) ∧ Own 52 3 BQ u0 ((AP (DJ ps) d Y m).1.getD []) Ms0) := by
 have a6 := y_1f;obtain ⟨a2, a3, l2, l5, i5, l3, l4, l6⟩ := id a6;subst i5;have a7 := y_2f;obtain ⟨a4, a5, l7, m0, i6, l8, l9, m1⟩ := id a7;subst i6;obtain ⟨a0, a1, i7, m3⟩ := y_3h.shape; subst i7;have f2 := y_3r.1
 try simp only [LS, LA, LC, LN, LK] at f2
 obtain ⟨d3, d4, p0, p3, m8, p1, p2, p4⟩ := id g_f;subst m8;refine NR (fn := Tryz.f130) (args := [_, _, _, _]) (N := 59) Tryz.func130 rfl (by kernel_rfl) (Nat.le_of_ble_eq_true rfl) (fun F => ?_);show Run _ _ (PK []) _ _ [(0, vP y 0), (1, vI (↑d)), (2, .map (some r)), (3, vS d3 gs.length d4)] _ _;refine IM (M' := ((bX y #[vS a2 Y.cars.length a3, vS a4 Y.room.length a5, vS a0 y_ws.length a1] 110) :: (y_Ms ++ (r, Obj.map r_es r_cl) :: F))) (fun w h => by simpa only [AA, CA, NA] using h) ?_;refine rpm (M' := ((bX y #[vS a2 Y.cars.length a3, vS a4 Y.room.length a5, vS a0 y_ws.length a1] 110) :: (r, Obj.map r_es r_cl) :: (y_Ms ++ F))) (PC _ PM) ?_;have p5 := hka.len3 hfa; have n0 := hka.cars5 hfa; have k9 := Kin.good hfa hka;refine rqr (sS (sb 4 108 #[vP y 0] (fun b1 => (sS (sb 5 3 #[vI (↑d)] (fun b3 => (sS (sb 6 162 #[.map (some r)] (fun b5 => (sS (sb 7 160 #[vS d3 gs.length d4] (fun b7 => (sS (sal 8 45 #[vN] (fun b9 => (sS (sal 9 4 #[.bool (false)] (fun a8 => (se ?_)))))))))))))))))));refine run_scope (x := PK [1, 0]) (by kernel_rfl) (rq (rqr (sd (dlb 16 5 0 b1 (vP y 0)) (sd (dlb 17 2 0 b7 (vS d3 gs.length d4)) ?_))));have g4 := all_ct I (y) _ _ _ _ _ (Y) _ _ (A) (ps) a6 a7 y_3h y_3r g_f (by first | assumption | exact hgo.mono hI) (by assumption);refine sS (sc (some 18) (F := ((bX a8 #[.bool (false)] 4) :: (bX b9 #[vN] 45) :: (bX b7 #[vS d3 gs.length d4] 160) :: (bX b5 #[.map (some r)] 162) :: (bX b3 #[vI (↑d)] 3) :: (bX b1 #[vP y 0] 108) :: (r, Obj.map r_es r_cl) :: F)) (g4 :) (((PC _ ((PC _ ((PC _ ((PC _ ((PC _ (PS _ _ _)).trans (PS _ _ _))).trans (PS _ _ _))).trans (PS _ _ _))).trans (PS _ _ _))).trans (PS _ _ _)).trans (PC _ (PU (PU (PU (PU (PU (PU (PM.symm))))))))) (fun n9 m4 n5 c1 j4 => ?_));obtain ⟨i0, g9⟩ := j4;rw [i0, g9]; clear i0 g9;replace a6 := a6.mono c1;replace a7 := a7.mono c1;replace y_3r := y_3r.mono c1;replace g_f := g_f.mono c1;replace hG := hG.mono c1;replace hgo := hgo.mono c1;refine AW (M' := ((bX y #[vS a2 Y.cars.length a3, vS a4 Y.room.length a5, vS a0 y_ws.length a1] 110) :: (y_Ms ++ (bX a8 #[.bool (false)] 4) :: (bX b9 #[vN] 45) :: (bX b7 #[vS d3 gs.length d4] 160) :: (bX b5 #[.map (some r)] 162) :: (bX b3 #[vI (↑d)] 3) :: (bX b1 #[vP y 0] 108) :: (r, Obj.map r_es r_cl) :: F))) (fun w h => by simpa only [AA, CA, NA] using h) (pm (M' := ((bX y #[vS a2 Y.cars.length a3, vS a4 Y.room.length a5, vS a0 y_ws.length a1] 110) :: (bX a8 #[.bool (false)] 4) :: (bX b9 #[vN] 45) :: (bX b7 #[vS d3 gs.length d4] 160) :: (bX b5 #[.map (some r)] 162) :: (bX b3 #[vI (↑d)] 3) :: (bX b1 #[vP y 0] 108) :: (r, Obj.map r_es r_cl) :: (y_Ms ++ F))) (PC _ (PW (PW (PW (PW (PW (PW PM))))))) (se (rc 18 rfl (fun h1 => ?_) (fun h1 => ?_))))
 ·
  have j0 := h1;refine rqr (sS (ss 2 0 b9 [vN] [vN] (_ :: _ :: _ :: _ :: _ :: _ :: _ :: _ :: _) (cs := [_]) rfl rfl (sS (ss 1 0 a8 [.bool (true)] [.bool (true)] (_ :: _ :: _ :: _ :: _ :: _ :: _ :: _ :: _) (cs := [_]) rfl rfl (se (BP ((RP (HJ ?_)))))))));have c4 := search_goal (d := d) (m := m) h1;refine HD (R := ((bX y #[vS a2 Y.cars.length a3, vS a4 Y.room.length a5, vS a0 y_ws.length a1] 110) :: (bX a8 #[.bool (true)] 4) :: (bX b9 #[vN] 45) :: (bX b7 #[vS d3 gs.length d4] 160) :: (bX b5 #[.map (some r)] 162) :: (bX b3 #[vI (↑d)] 3) :: (bX b1 #[vP y 0] 108) :: (r, Obj.map r_es r_cl) :: (y_Ms ++ F))) [] (.inl rfl) (PR _) (ppm (M' := ((bX y #[vS a2 Y.cars.length a3, vS a4 Y.room.length a5, vS a0 y_ws.length a1] 110) :: (y_Ms ++ (r, Obj.map r_es r_cl) :: (bX a8 #[.bool (true)] 4) :: (bX b9 #[vN] 45) :: (bX b7 #[vS d3 gs.length d4] 160) :: (bX b5 #[.map (some r)] 162) :: (bX b3 #[vI (↑d)] 3) :: (bX b1 #[vP y 0] 108) :: F))) (PC _ ((PU (PU (PU (PU (PU (PU (PM.symm))))))).trans (PA _ ((PC _ ((PC _ ((PC _ ((PC _ ((PC _ (PS _ _ _)).trans (PS _ _ _))).trans (PS _ _ _))).trans (PS _ _ _))).trans (PS _ _ _))).trans (PS _ _ _))))) (MZ (t := 8) (T := 45) (n := 1) (u := 9) (U := 4) (n2 := 1) ([(bX y #[vS a2 Y.cars.length a3, vS a4 Y.room.length a5, vS a0 y_ws.length a1] 110)] ++ (y_Ms ++ ([(r, Obj.map r_es r_cl)] ++ ([])))) (by kernel_rfl) rfl (by kernel_rfl) rfl (CD (n := 1) (cs := #[vN]) (b := b9) (off := 0) (T := 45) (fz := (0, 0)) (vs := [vN]) (by simp) rfl) (.inr ⟨by kernel_rfl, rfl⟩) rfl (by kernel_rfl) rfl (CD (n := 1) (cs := #[.bool (true)]) (b := a8) (off := 0) (T := 4) (fz := (0, 0)) (vs := [.bool (true)]) (by simp) rfl) (.inr ⟨by kernel_rfl, rfl⟩) (by simp only [AA, NA, CA]; exact (TK _ (TA (TK _ (TC _ (TC _ (TC _ (TC _ (TC _ (TC _ (TR _)))))))) _))) c1 ?_));exact ⟨_, _, _, _, _, _, (by rw [c4]; rfl), rfl, y_3h, y_3r, ((show m = (AP (DJ ps) d Y m).2 from by rw [c4]) ▸ r_is), ((show [] = (AP (DJ ps) d Y m).1.getD [] from by rw [c4]; rfl) ▸ Own.nil _ _ _)⟩
 have j0 := h1;have k8 : DJ ps Y = false := h1;refine AK (NX (rqr (sd (dlb 19 6 0 b1 (vP y 0)) ?_)));have g5 := where_ct m4 (y) _ _ _ _ _ (Y) a6 a7 y_3h y_3r (by exact k9.ok) (by exact n0) (by omega);refine sS (sc (some 20) (F := ((bX a8 #[.bool (false)] 4) :: (bX b9 #[vN] 45) :: (bX b7 #[vS d3 gs.length d4] 160) :: (bX b5 #[.map (some r)] 162) :: (bX b3 #[vI (↑d)] 3) :: (bX b1 #[vP y 0] 108) :: (r, Obj.map r_es r_cl) :: F)) (g5 :) (PC _ (PU (PU (PU (PU (PU (PU (PM.symm)))))))) (fun o0 m5 n6 c7 j5 => ?_));obtain ⟨i1, h0⟩ := j5;rw [i1, h0]; clear i1 h0;replace a6 := a6.mono c7;replace a7 := a7.mono c7;replace y_3r := y_3r.mono c7;replace g_f := g_f.mono c7;replace hG := hG.mono c7;replace hgo := hgo.mono c7;refine AW (M' := ((bX y #[vS a2 Y.cars.length a3, vS a4 Y.room.length a5, vS a0 y_ws.length a1] 110) :: (y_Ms ++ (bX a8 #[.bool (false)] 4) :: (bX b9 #[vN] 45) :: (bX b7 #[vS d3 gs.length d4] 160) :: (bX b5 #[.map (some r)] 162) :: (bX b3 #[vI (↑d)] 3) :: (bX b1 #[vP y 0] 108) :: (r, Obj.map r_es r_cl) :: F))) (fun w h => by simpa only [AA, CA, NA] using h) (pm (M' := ((bX y #[vS a2 Y.cars.length a3, vS a4 Y.room.length a5, vS a0 y_ws.length a1] 110) :: (bX a8 #[.bool (false)] 4) :: (bX b9 #[vN] 45) :: (bX b7 #[vS d3 gs.length d4] 160) :: (bX b5 #[.map (some r)] 162) :: (bX b3 #[vI (↑d)] 3) :: (bX b1 #[vP y 0] 108) :: (r, Obj.map r_es r_cl) :: (y_Ms ++ F))) (PC _ (PW (PW (PW (PW (PW (PW PM))))))) (sS (sal 10 113 #[vI (0), vI (0), vI (0), vI (0), vI (0), vI (0), vI (0), vI (0), vI (0), vI (0)] (fun f3 => (sS (OB (T := 113) (x := (.tmp 10)) (y := (.tmp 20)) (n := 10) (vs := BO (AY Y).val) (M' := ((f3, Obj.cells (BO (AY Y).val) 113 (0, 0)) :: (bX y #[vS a2 Y.cars.length a3, vS a4 Y.room.length a5, vS a0 y_ws.length a1] 110) :: (bX a8 #[.bool (false)] 4) :: (bX b9 #[vN] 45) :: (bX b7 #[vS d3 gs.length d4] 160) :: (bX b5 #[.map (some r)] 162) :: (bX b3 #[vI (↑d)] 3) :: (bX b1 #[vP y 0] 108) :: (r, Obj.map r_es r_cl) :: (y_Ms ++ F))) 0 (ty := 0) (gd := none) (by kernel_rfl) rfl rfl rfl (by kernel_rfl) rfl (FE _) (MB _) rfl (rfl) rfl (se (rq (rqr (sd (dlb 22 5 0 b5 (.map (some r))) (sd (KE (x := (.tmp 10)) (T := 113) (n := 10) (d := 23) (ty := 113) (gd := none) (by kernel_rfl) rfl (by kernel_rfl) (by kernel_rfl) (FE _) rfl (.inl (List.mem_of_getElem? (i := 0) rfl))) (sd (det_lookup2 (x := (.tmp 22)) (y := (.tmp 23)) (T := 162) (kt := 113) (et := 3) (k := (AY Y)) (kvs := metV m) (z := vI 0) (d := 24) (ty := 186) (gd := none) (by kernel_rfl) rfl (by kernel_rfl) (HS (by kernel_rfl) (by kernel_rfl)) rfl rfl (by kernel_rfl) (.inl (List.mem_of_getElem? (i := 8) rfl)) r_is (metV_getD _ _) (metV_isSome _ _)) (sp 5 [(12, .bool ((JX (AY Y) m).isSome)), (11, vI (↑((JX (AY Y) m).getD 0)))] (se (rq ?_)))))))))))))));refine EZ (fun a w => Slots 59 [(4, vP b1 0), (5, vP b3 0), (6, vP b5 0), (7, vP b7 0), (8, vP b9 0), (9, vP a8 0), (10, vP f3 0), (36, .bool ((cmp .eql (↑d) (0)) || (((JX (AY Y) m).isSome) && (cmp .geq (↑((JX (AY Y) m).getD 0)) (↑d)))))] a ∧ a.defers = [] ∧ St m5 ((f3, Obj.cells (BO (AY Y).val) 113 (0, 0)) :: (bX y #[vS a2 Y.cars.length a3, vS a4 Y.room.length a5, vS a0 y_ws.length a1] 110) :: (bX a8 #[.bool (false)] 4) :: (bX b9 #[vN] 45) :: (bX b7 #[vS d3 gs.length d4] 160) :: (bX b5 #[.map (some r)] 162) :: (bX b3 #[vI (↑d)] 3) :: (bX b1 #[vP y 0] 108) :: (r, Obj.map r_es r_cl) :: (y_Ms ++ F)) w) ?_ ?_
 ·
  refine rr (sd (dlb 27 6 0 b3 (vI (↑d))) (sp 2 [(29, .bool (cmp .eql (↑d) (0)))] ?_));refine BV 29 rfl (fun h2 => ?_) (fun h2 => ?_)
  ·
   have e6 := h2;have e6 := CV e6;refine sp 7 [(36, .bool (true))] (ee ?_);refine BD (fun a w hS hD hW => ⟨hS.sub (.cons 4 rfl (.cons 5 rfl (.cons 6 rfl (.cons 7 rfl (.cons 8 rfl (.cons 9 rfl (.cons 10 rfl (.consE 36 rfl (congrArg Value.bool (by simp only [h2, kA, kB, kC, kD, kE, kF, kG, kH, kI, kJ])) (.nil _))))))))), hD, hW⟩)
  have e6 := h2;have e6 := CU e6;refine sp 2 [(31, .bool ((JX (AY Y) m).isSome))] ?_;refine BV 31 rfl (fun h3 => ?_) (fun h3 => ?_)
  ·
   have j1 := h3;refine sp 1 [(32, vI (↑((JX (AY Y) m).getD 0)))] (sd (dlb 33 6 0 b3 (vI (↑d))) (sp 3 [(36, .bool (cmp .geq (↑((JX (AY Y) m).getD 0)) (↑d)))] (ee ?_)));refine BD (fun a w hS hD hW => ⟨hS.sub (.cons 4 rfl (.cons 5 rfl (.cons 6 rfl (.cons 7 rfl (.cons 8 rfl (.cons 9 rfl (.cons 10 rfl (.consE 36 rfl (congrArg Value.bool (by simp only [h2, h3, kA, kB, kC, kD, kE, kF, kG, kH, kI, kJ])) (.nil _))))))))), hD, hW⟩)
  have j1 := h3;refine sp 5 [(36, .bool (false))] (ee ?_);refine BD (fun a w hS hD hW => ⟨hS.sub (.cons 4 rfl (.cons 5 rfl (.cons 6 rfl (.cons 7 rfl (.cons 8 rfl (.cons 9 rfl (.cons 10 rfl (.consE 36 rfl (congrArg Value.bool (by simp only [h2, h3, kA, kB, kC, kD, kE, kF, kG, kH, kI, kJ])) (.nil _))))))))), hD, hW⟩)
 rintro a w ⟨hS, hD, hW⟩
 refine AX hS hD hW ?_;clear hS hD hW a w;refine rc 36 rfl (fun h4 => ?_) (fun h4 => ?_)
 ·
  have g0 := h4;refine rqr (sS (ss 3 0 b9 [vN] [vN] (_ :: _ :: _ :: _ :: _ :: _ :: _ :: _ :: _ :: _) (cs := [_]) rfl rfl (sS (ss 2 0 a8 [.bool (false)] [.bool (false)] (_ :: _ :: _ :: _ :: _ :: _ :: _ :: _ :: _ :: _) (cs := [_]) rfl rfl (se (BP ((RP (HJ ?_)))))))));have c4 := search_stop2 (d := d) (m := m) k8 g0;refine HD (R := ((f3, Obj.cells (BO (AY Y).val) 113 (0, 0)) :: (bX y #[vS a2 Y.cars.length a3, vS a4 Y.room.length a5, vS a0 y_ws.length a1] 110) :: (bX a8 #[.bool (false)] 4) :: (bX b9 #[vN] 45) :: (bX b7 #[vS d3 gs.length d4] 160) :: (bX b5 #[.map (some r)] 162) :: (bX b3 #[vI (↑d)] 3) :: (bX b1 #[vP y 0] 108) :: (r, Obj.map r_es r_cl) :: (y_Ms ++ F))) [] (.inl rfl) (PR _) (ppm (M' := ((bX y #[vS a2 Y.cars.length a3, vS a4 Y.room.length a5, vS a0 y_ws.length a1] 110) :: (y_Ms ++ (r, Obj.map r_es r_cl) :: (f3, Obj.cells (BO (AY Y).val) 113 (0, 0)) :: (bX a8 #[.bool (false)] 4) :: (bX b9 #[vN] 45) :: (bX b7 #[vS d3 gs.length d4] 160) :: (bX b5 #[.map (some r)] 162) :: (bX b3 #[vI (↑d)] 3) :: (bX b1 #[vP y 0] 108) :: F))) ((PS _ _ _).trans (PC _ ((PU (PU (PU (PU (PU (PU (PU (PM.symm)))))))).trans (PA _ ((PC _ ((PC _ ((PC _ ((PC _ ((PC _ ((PC _ (PS _ _ _)).trans (PS _ _ _))).trans (PS _ _ _))).trans (PS _ _ _))).trans (PS _ _ _))).trans (PS _ _ _))).trans (PS _ _ _)))))) (MZ (t := 8) (T := 45) (n := 1) (u := 9) (U := 4) (n2 := 1) ([(bX y #[vS a2 Y.cars.length a3, vS a4 Y.room.length a5, vS a0 y_ws.length a1] 110)] ++ (y_Ms ++ ([(r, Obj.map r_es r_cl)] ++ ([])))) (by kernel_rfl) rfl (by kernel_rfl) rfl (CD (n := 1) (cs := #[vN]) (b := b9) (off := 0) (T := 45) (fz := (0, 0)) (vs := [vN]) (by simp) rfl) (.inr ⟨by kernel_rfl, rfl⟩) rfl (by kernel_rfl) rfl (CD (n := 1) (cs := #[.bool (false)]) (b := a8) (off := 0) (T := 4) (fz := (0, 0)) (vs := [.bool (false)]) (by simp) rfl) (.inr ⟨by kernel_rfl, rfl⟩) (by simp only [AA, NA, CA]; exact (TK _ (TA (TK _ (TC _ (TC _ (TC _ (TC _ (TC _ (TC _ (TC _ (TR _))))))))) _))) (IT c1 c7) ?_));exact ⟨_, _, _, _, _, _, (by rw [c4]; rfl), rfl, y_3h, y_3r, ((show m = (AP (DJ ps) d Y m).2 from by rw [c4]) ▸ r_is), ((show [] = (AP (DJ ps) d Y m).1.getD [] from by rw [c4]; rfl) ▸ Own.nil _ _ _)⟩
 have g0 := h4;obtain ⟨g3, m9⟩ := or_f h4;have g3 := CU g3;have h9 := search_go_of (d := d) g0;refine AK (NX (rqr ?_));obtain ⟨e, hde⟩ : ∃ e, d = e + 1 := ⟨d - 1, by have := h9.1; omega⟩;have g8 := search_go2 (g := DJ ps) (m := m) k8 hde h9.2;refine sd (dlb 37 5 0 b5 (.map (some r))) (sd (KE (x := (.tmp 10)) (T := 113) (n := 10) (d := 38) (ty := 113) (gd := none) (by kernel_rfl) rfl (by kernel_rfl) (by kernel_rfl) (FE _) rfl (.inl (List.mem_of_getElem? (i := 0) rfl))) (sd (dlb 39 6 0 b3 (vI (↑d))) (sS (GN (x := (.tmp 37)) (y := (.tmp 38)) (u := (.tmp 39)) (T := 162) (kt := 113) (et := 3) (k := (AY Y)) (kvs := metV m) 8 (ty := 0) (gd := none) (by kernel_rfl) rfl (by kernel_rfl) (HS (by kernel_rfl) (by kernel_rfl)) rfl rfl rfl rfl r_is (fun e3 e2 f7 => ?_)))));rw [metV_upd] at f7;refine nm (se (rq ?_));refine rlab 0 (NX (rq (rqr ?_)));refine FZ (b := b1) (o := Obj.cells #[vP y 0] 108 (0, 0)) (M0 := ((f3, Obj.cells (BO (AY Y).val) 113 (0, 0)) :: (bX y #[vS a2 Y.cars.length a3, vS a4 Y.room.length a5, vS a0 y_ws.length a1] 110) :: (bX a8 #[.bool (false)] 4) :: (bX b9 #[vN] 45) :: (bX b7 #[vS d3 gs.length d4] 160) :: (bX b5 #[.map (some r)] 162) :: (bX b3 #[vI (↑d)] 3) :: (r, Obj.map e3 e2) :: (y_Ms ++ F))) ((PC _ ((PC _ ((PC _ ((PC _ ((PC _ ((PC _ (PS _ _ _)).trans (PS _ _ _))).trans (PS _ _ _))).trans (PS _ _ _))).trans (PS _ _ _))).trans (PS _ _ _))).trans (PS _ _ _)) (fun o5 d0 a9 => ?_);replace a6 := a6.mono d0;replace a7 := a7.mono d0;replace y_3r := y_3r.mono d0;replace g_f := g_f.mono d0;replace hG := hG.mono d0;replace hgo := hgo.mono d0;refine FZ (b := b3) (o := Obj.cells #[vI (↑d)] 3 (0, 0)) (M0 := ((f3, Obj.cells (BO (AY Y).val) 113 (0, 0)) :: (bX y #[vS a2 Y.cars.length a3, vS a4 Y.room.length a5, vS a0 y_ws.length a1] 110) :: (bX a8 #[.bool (false)] 4) :: (bX b9 #[vN] 45) :: (bX b7 #[vS d3 gs.length d4] 160) :: (bX b5 #[.map (some r)] 162) :: (r, Obj.map e3 e2) :: (y_Ms ++ F))) ((PC _ ((PC _ ((PC _ ((PC _ ((PC _ (PS _ _ _)).trans (PS _ _ _))).trans (PS _ _ _))).trans (PS _ _ _))).trans (PS _ _ _))).trans (PS _ _ _)) (fun o6 c8 b6 => ?_);replace a6 := a6.mono c8;replace a7 := a7.mono c8;replace y_3r := y_3r.mono c8;replace g_f := g_f.mono c8;replace hG := hG.mono c8;replace hgo := hgo.mono c8;replace a9 := c8.blk _ _ a9;refine FZ (b := b5) (o := Obj.cells #[.map (some r)] 162 (0, 0)) (M0 := ((f3, Obj.cells (BO (AY Y).val) 113 (0, 0)) :: (bX y #[vS a2 Y.cars.length a3, vS a4 Y.room.length a5, vS a0 y_ws.length a1] 110) :: (bX a8 #[.bool (false)] 4) :: (bX b9 #[vN] 45) :: (bX b7 #[vS d3 gs.length d4] 160) :: (r, Obj.map e3 e2) :: (y_Ms ++ F))) ((PC _ ((PC _ ((PC _ ((PC _ (PS _ _ _)).trans (PS _ _ _))).trans (PS _ _ _))).trans (PS _ _ _))).trans (PS _ _ _)) (fun o7 c2 c3 => ?_);replace a6 := a6.mono c2;replace a7 := a7.mono c2;replace y_3r := y_3r.mono c2;replace g_f := g_f.mono c2;replace hG := hG.mono c2;replace hgo := hgo.mono c2;replace a9 := c2.blk _ _ a9;replace b6 := c2.blk _ _ b6;refine FZ (b := b7) (o := Obj.cells #[vS d3 gs.length d4] 160 (0, 0)) (M0 := ((f3, Obj.cells (BO (AY Y).val) 113 (0, 0)) :: (bX y #[vS a2 Y.cars.length a3, vS a4 Y.room.length a5, vS a0 y_ws.length a1] 110) :: (bX a8 #[.bool (false)] 4) :: (bX b9 #[vN] 45) :: (r, Obj.map e3 e2) :: (y_Ms ++ F))) ((PC _ ((PC _ ((PC _ (PS _ _ _)).trans (PS _ _ _))).trans (PS _ _ _))).trans (PS _ _ _)) (fun o8 b8 c9 => ?_);replace a6 := a6.mono b8;replace a7 := a7.mono b8;replace y_3r := y_3r.mono b8;replace g_f := g_f.mono b8;replace hG := hG.mono b8;replace hgo := hgo.mono b8;replace a9 := b8.blk _ _ a9;replace b6 := b8.blk _ _ b6;replace c3 := b8.blk _ _ c3;refine FZ (b := f3) (o := Obj.cells (BO (AY Y).val) 113 (0, 0)) (M0 := ((bX y #[vS a2 Y.cars.length a3, vS a4 Y.room.length a5, vS a0 y_ws.length a1] 110) :: (bX a8 #[.bool (false)] 4) :: (bX b9 #[vN] 45) :: (r, Obj.map e3 e2) :: (y_Ms ++ F))) (PR _) (fun m6 b2 d2 => ?_);replace a6 := a6.mono b2;replace a7 := a7.mono b2;replace y_3r := y_3r.mono b2;replace g_f := g_f.mono b2;replace hG := hG.mono b2;replace hgo := hgo.mono b2;replace a9 := b2.blk _ _ a9;replace b6 := b2.blk _ _ b6;replace c3 := b2.blk _ _ c3;replace c9 := b2.blk _ _ c9;refine sd (BK (v := vP y 0) (x := (.tmp 4)) (T := 108) (d := 40) (ty := 108) (gd := none) (by kernel_rfl) rfl (by kernel_rfl) rfl (BA a9 rfl)) ?_;have g6 := shifts_ct m6 (y);refine sS (sc (some 41) (g6 :) (.refl _) (fun o1 m7 n7 b0 j6 => ?_));obtain ⟨f6, g2, i2, h6, d5, d6⟩ := j6;rw [i2, h6]; clear i2 h6;replace a6 := a6.mono b0;replace a7 := a7.mono b0;replace y_3r := y_3r.mono b0;replace g_f := g_f.mono b0;replace hG := hG.mono b0;replace hgo := hgo.mono b0;replace a9 := b0.blk _ _ a9;replace b6 := b0.blk _ _ b6;replace c3 := b0.blk _ _ c3;replace c9 := b0.blk _ _ c9;replace d2 := b0.blk _ _ d2;refine nm (se (rb 0 ?_))
 refine ND (α := Shift) (g := (.tmp 41)) (ps := #[42]) (assign := PK [1, 0, 1, 1, 1, 1, 1, 0, 1, 0, 0]) (body := PK [1, 0, 1, 1, 1, 1, 1, 0, 1, 0, 1]) (gf := 135) (cv := [vP f6 0, vP g2 0]) (enc := encS) (seq := draws Y) (R := YardR 23 110 y (vS a2 Y.cars.length a3) (vS a4 Y.room.length a5) (vS a0 y_ws.length a1) Y) (Mr := ((bX y #[vS a2 Y.cars.length a3, vS a4 Y.room.length a5, vS a0 y_ws.length a1] 110) :: y_Ms)) (M0 := ((bX b9 #[vN] 45) :: (bX a8 #[.bool (false)] 4) :: (r, Obj.map e3 e2) :: [])) (F0 := (F))
  (fun xs I M => ∃ es cl m2, M = (bX b9 #[vN] 45) :: (bX a8 #[.bool (false)] 4) :: (r, Obj.map es cl) :: [] ∧ MapIs encP es (metV m2) ∧ GF (fun s j8 => AP (DJ ps) e (moved Y s) j8) ((draws Y).drop ([] : List Shift).length) (updM (AY Y) (e + 1) m) = GF (fun s j8 => AP (DJ ps) e (moved Y s) j8) ((draws Y).drop xs.length) m2) (fun c xs I M => c = Code.ret ∧ ∃ es cl u Mu ws Ms, M = (bX b9 #[u] 45) :: (bX a8 #[.bool (true)] 4) :: (r, Obj.map es cl) :: (bX y #[vS a2 Y.cars.length a3, vS a4 Y.room.length a5, vS a0 y_ws.length a1] 110) :: (Mu ++ Ms) ∧ MapIs encP es (metV (AP (DJ ps) d Y m).2) ∧ Own 52 3 BQ u ((AP (DJ ps) d Y m).1.getD []) Mu ∧ (AP (DJ ps) d Y m).1.isSome = true ∧ Own 23 1 AN (vS a0 y_ws.length a1) ws Ms ∧ RowsV I ws Y.tracks) (fun x k => [(4, vP b1 0), (5, vP b3 0), (6, vP b5 0), (7, vP b7 0), (8, vP b9 0), (9, vP a8 0), (13, vP k 0)]) (fun x k => [(bX k #[vI (x.frm), vI (x.to), vI (x.many)] 52)])
  (by kernel_rfl) rfl (by kernel_rfl) (fun _ => rfl) (by kernel_rfl) (shifts1_iter m7 y f6 g2 (vS a2 Y.cars.length a3) (vS a4 Y.room.length a5) (vS a0 y_ws.length a1) Y hG d5 d6 k9 (by omega)) (fun xs I J M _ h => h) (by simpa only [AA, CA, NA] using (PC _ ((PU (PU (PM.symm))).trans (PA _ (PS _ _ _))))) ⟨_, _, rfl, a6, a7, y_3h, y_3r⟩ ⟨_, _, _, rfl, f7, by rw [hde]⟩ ?_ ?_ ?_ ?_
 ·intro L x I1 M1;refine run_sub (l' := [(4, vP b1 0), (5, vP b3 0), (6, vP b5 0), (7, vP b7 0), (8, vP b9 0), (9, vP a8 0), (42, .agg #[vI (x.frm), vI (x.to), vI (x.many)])]) (.cons 4 rfl (.cons 5 rfl (.cons 6 rfl (.cons 7 rfl (.cons 8 rfl (.cons 9 rfl (.cons 42 rfl (.nil _)))))))) (rr (sS (sal 13 52 #[vI (0), vI (0), vI (0)] (fun k7 => (sS (ss 0 0 k7 [vI (x.frm), vI (x.to), vI (x.many)] [vI (x.frm), vI (x.to), vI (x.many)] (_ :: _) (cs := [_, _, _]) rfl rfl (ee ?_)))))));exact BD (fun a w hS hD hW => ⟨k7, hS.sub (.cons 4 rfl (.cons 5 rfl (.cons 6 rfl (.cons 7 rfl (.cons 8 rfl (.cons 9 rfl (.cons 13 rfl (.nil _)))))))), hD, hW⟩)
 ·intro L x k xs I1 Mr1 M1 F1 hpre hle1 hR1 hC1;replace a6 := a6.mono hle1;replace a7 := a7.mono hle1;replace g_f := g_f.mono hle1;replace hG := hG.mono hle1;replace hgo := hgo.mono hle1;replace a9 := hle1.blk _ _ a9;replace b6 := hle1.blk _ _ b6;replace c3 := hle1.blk _ _ c3;replace c9 := hle1.blk _ _ c9;replace d2 := hle1.blk _ _ d2;replace d5 := hle1.blk _ _ d5;replace d6 := hle1.blk _ _ d6;obtain ⟨e1, e0, m2, rfl, e7, i8⟩ := hC1;obtain ⟨l1, e4, rfl, q1, q2, q4, q5⟩ := hR1;have d1 := q5.1
  try simp only [LS, LA, LC, LN, LK] at d1
  have n1 : BJ Y x = 0 := DF (MT hpre);refine IM (M' := ((bX k #[vI (x.frm), vI (x.to), vI (x.many)] 52) :: (bX y #[vS a2 Y.cars.length a3, vS a4 Y.room.length a5, vS a0 y_ws.length a1] 110) :: (e4 ++ (bX b9 #[vN] 45) :: (bX a8 #[.bool (false)] 4) :: (r, Obj.map e1 e0) :: F1))) (fun w h => by simpa only [AA, CA, NA] using h) ?_;refine rpm (M' := ((bX k #[vI (x.frm), vI (x.to), vI (x.many)] 52) :: (bX y #[vS a2 Y.cars.length a3, vS a4 Y.room.length a5, vS a0 y_ws.length a1] 110) :: (bX b9 #[vN] 45) :: (bX a8 #[.bool (false)] 4) :: (r, Obj.map e1 e0) :: (e4 ++ F1))) (PC _ (PC _ (PW (PW PM)))) (rb 1 (rqr (sd (BK (v := vP y 0) (x := (.tmp 4)) (T := 108) (d := 44) (ty := 108) (gd := none) (by kernel_rfl) rfl (by kernel_rfl) rfl (BA a9 rfl)) (sd (dnb 45 0 0 k [vI (x.frm), vI (x.to), vI (x.many)]) (sd (BK (v := vI (↑d)) (x := (.tmp 5)) (T := 3) (d := 46) (ty := 3) (gd := none) (by kernel_rfl) rfl (by kernel_rfl) rfl (BA b6 rfl)) (sd (dsb 47 (↑d) (1)) (EO 47 rfl (show (vI (↑d - 1) : Value) = vI (↑e) from congrArg (Value.int .i64) (by omega)) (sd (BK (v := .map (some r)) (x := (.tmp 6)) (T := 162) (d := 48) (ty := 162) (gd := none) (by kernel_rfl) rfl (by kernel_rfl) rfl (BA c3 rfl)) (sd (BK (v := vS d3 gs.length d4) (x := (.tmp 7)) (T := 160) (d := 49) (ty := 160) (gd := none) (by kernel_rfl) rfl (by kernel_rfl) rfl (BA c9 rfl)) ?_)))))))));have g7 := try_ct I1 (y) _ _ _ _ _ (Y) (x) (e) (r) (e1) (e0) (m2) _ _ (A) (ps) a6 a7 q4 q5 e7 g_f (by assumption) (by assumption) (by assumption) (by assumption) (by omega) (by exact n1) (by exact ht e (by omega));refine sS (sc (some 50) (F := ((bX k #[vI (x.frm), vI (x.to), vI (x.many)] 52) :: (bX b9 #[vN] 45) :: (bX a8 #[.bool (false)] 4) :: F1)) (g7 :) (by simpa only [AA, CA, NA] using ((PS _ _ _).trans (PC _ ((PU (PU (PU (PM.symm)))).trans (PA _ ((PC _ ((PC _ (PS _ _ _)).trans (PS _ _ _))).trans (PS _ _ _))))))) (fun o2 o9 n8 b4 j7 => ?_));obtain ⟨k6, c0, c6, c5, o3, d9, i3, h7, e8, e9, f8, i4⟩ := j7;rw [i3, h7]; clear i3 h7;replace a6 := a6.mono b4;replace a7 := a7.mono b4;replace a9 := b4.blk _ _ a9;replace b6 := b4.blk _ _ b6;replace c3 := b4.blk _ _ c3;replace c9 := b4.blk _ _ c9;replace d2 := b4.blk _ _ d2;replace d5 := b4.blk _ _ d5;replace d6 := b4.blk _ _ d6;replace q5 := q5.mono b4;obtain ⟨k2, k3, k4, k5⟩ := id e8.shape;have e5 := e9.1
  try simp only [LS, LA, LC, LN, LK] at e5
  obtain ⟨d7, d8, g1, k0⟩ := i4.shape;subst g1;refine AW (M' := ((bX y #[vS a2 Y.cars.length a3, vS a4 Y.room.length a5, vS a0 y_ws.length a1] 110) :: (c0 ++ (r, Obj.map c6 c5) :: (d9 ++ (bX k #[vI (x.frm), vI (x.to), vI (x.many)] 52) :: (bX b9 #[vN] 45) :: (bX a8 #[.bool (false)] 4) :: F1)))) (fun w h => by simpa only [AA, CA, NA] using h) (pm (M' := ((bX y #[vS a2 Y.cars.length a3, vS a4 Y.room.length a5, vS a0 y_ws.length a1] 110) :: (r, Obj.map c6 c5) :: (bX k #[vI (x.frm), vI (x.to), vI (x.many)] 52) :: (bX b9 #[vN] 45) :: (bX a8 #[.bool (false)] 4) :: (c0 ++ (d9 ++ F1)))) (PC _ (PW (((PA _ PM).trans PM).trans (PC _ (((PA _ PM).trans PM).trans (PC _ ((PA _ PM).trans PM))))))) (sp 5 [(15, .bool ((AP (DJ ps) e (moved Y x) m2).1.isSome)), (14, vS d7 ((AP (DJ ps) e (moved Y x) m2).1.getD []).length d8), (52, .bool ((AP (DJ ps) e (moved Y x) m2).1.isSome)), (51, vS d7 ((AP (DJ ps) e (moved Y x) m2).1.getD []).length d8), (43, .tuple #[vS d7 ((AP (DJ ps) e (moved Y x) m2).1.getD []).length d8, .bool ((AP (DJ ps) e (moved Y x) m2).1.isSome)])] (se (rq (rqr (sp 2 [(54, .bool (!((AP (DJ ps) e (moved Y x) m2).1.isSome))), (53, .bool ((AP (DJ ps) e (moved Y x) m2).1.isSome))] (se (rc 54 rfl (fun h5 => ?_) (fun h5 => ?_)))))))))
  ·
   have j2 := h5;have h5 := CN h5;refine CF 1 ((EP (EB (ppm (M' := ((bX k #[vI (x.frm), vI (x.to), vI (x.many)] 52) :: (d9 ++ (bX y #[vS a2 Y.cars.length a3, vS a4 Y.room.length a5, vS a0 y_ws.length a1] 110) :: (c0 ++ (bX b9 #[vN] 45) :: (bX a8 #[.bool (false)] 4) :: (r, Obj.map c6 c5) :: F1)))) (((PC _ (PS _ _ _)).trans (PS _ _ _)).trans (PC _ ((PU (PU (PU (PU (PO _ _ _))))).trans (PA _ (PC _ ((PU (PU (PM.symm))).trans (PA _ ((PS _ _ _).trans (PC _ (PS _ _ _)))))))))) ?_))));refine pst_round (M' := ((bX y #[vS a2 Y.cars.length a3, vS a4 Y.room.length a5, vS a0 y_ws.length a1] 110) :: c0 ++ ((bX b9 #[vN] 45) :: (bX a8 #[.bool (false)] 4) :: (r, Obj.map c6 c5) :: []))) b4 ?_ (by simp only [AA, NA, CA]; exact (TC _ (TT (TR _) (TB _ _))));exact ⟨(bX y #[vS a2 Y.cars.length a3, vS a4 Y.room.length a5, vS a0 y_ws.length a1] 110) :: c0, _, rfl, ⟨_, _, rfl, a6, a7, e8, e9⟩, ⟨_, _, _, rfl, f8, i8.trans (try_next hpre (NV h5))⟩⟩
  have j2 := h5;have h5 := CE h5;refine AK (NX (rqr (sd (dnb 55 2 0 k [vI (x.frm), vI (x.to), vI (x.many)]) (sS (sbs 56 52 1 #[vI (x.frm), vI (x.to), vI (x.many)] (fun i9 => (sp 1 [(57, vS d7 ((AP (DJ ps) e (moved Y x) m2).1.getD []).length d8)] ?_)))))));have j3 : Own 52 3 BQ (vS (some ⟨i9, 0, none⟩) 1 1) ([x] : List Shift) [(bX i9 #[vI (x.frm), vI (x.to), vI (x.many)] 52)] := Own.lit rfl rfl;refine sS (AO (d := 58) (x := (.tmp 56)) (y := (.tmp 57)) (T := 45) (T' := 45) (E := 52) (E' := 52) (sz := 3) (bs := 24) (z := .agg #[vI (0), vI (0), vI (0)]) (cell := BQ) (xs := ([x] : List Shift)) (ys := (AP (DJ ps) e (moved Y x) m2).1.getD []) (Ms := [(bX i9 #[vI (x.frm), vI (x.to), vI (x.many)] 52)]) (ty := 45) (gd := none) (by kernel_rfl) rfl (by kernel_rfl) (by kernel_rfl) (by kernel_rfl) (by kernel_rfl) (by kernel_rfl) (by decide) (by kernel_rfl) rfl rfl (j3) (PR _) (HH _) (i4.src (fun x hx => by simp [hx])) (by first | omega | (have p6 := search_len (DJ ps) e (moved Y x) m2; simp only [LC, LN]; omega)) (fun p7 f9 h8 => (pm (M' := ((bX y #[vS a2 Y.cars.length a3, vS a4 Y.room.length a5, vS a0 y_ws.length a1] 110) :: (r, Obj.map c6 c5) :: (bX k #[vI (x.frm), vI (x.to), vI (x.many)] 52) :: (bX b9 #[vN] 45) :: (bX a8 #[.bool (false)] 4) :: (f9 ++ (c0 ++ (d9 ++ F1))))) (PW (PW (PW (PW PM)))) ?_)));obtain ⟨f4, f5, j9, n4⟩ := h8.shape;subst j9;refine sS (ss 3 0 b9 [vS f4 ((([x] : List Shift)) ++ ((AP (DJ ps) e (moved Y x) m2).1.getD [])).length f5] [vS f4 ((([x] : List Shift)) ++ ((AP (DJ ps) e (moved Y x) m2).1.getD [])).length f5] (_ :: _ :: _ :: _ :: _ :: _) (cs := [_]) rfl rfl (sS (ss 4 0 a8 [.bool (true)] [.bool (true)] (_ :: _ :: _ :: _ :: _ :: _) (cs := [_]) rfl rfl (se (BP ((RB ?_)))))));obtain ⟨l, hl⟩ := some_of h5;have c4 := g8.trans (i8.trans (try_hit hpre hl));refine ppm (M' := ((bX k #[vI (x.frm), vI (x.to), vI (x.many)] 52) :: (d9 ++ (bX b9 #[vS f4 ((([x] : List Shift)) ++ ((AP (DJ ps) e (moved Y x) m2).1.getD [])).length f5] 45) :: (bX a8 #[.bool (true)] 4) :: (r, Obj.map c6 c5) :: (bX y #[vS a2 Y.cars.length a3, vS a4 Y.room.length a5, vS a0 y_ws.length a1] 110) :: (f9 ++ (c0 ++ F1))))) (((PC _ (PS _ _ _)).trans (PS _ _ _)).trans (PC _ ((PU (PU (PU (PU (PV (PO _ _ _)))))).trans (PA _ (((PC _ (PS _ _ _)).trans (PS _ _ _)).trans (PC _ (((PC _ (PS _ _ _)).trans (PS _ _ _)).trans (PC _ (PS _ _ _))))))))) ?_;refine pst_round_ret (M' := ((bX b9 #[vS f4 ((([x] : List Shift)) ++ ((AP (DJ ps) e (moved Y x) m2).1.getD [])).length f5] 45) :: (bX a8 #[.bool (true)] 4) :: (r, Obj.map c6 c5) :: (bX y #[vS a2 Y.cars.length a3, vS a4 Y.room.length a5, vS a0 y_ws.length a1] 110) :: f9 ++ c0)) b4 ?_ (by simp only [AA, NA, CA]; exact (TC _ (TT (TR _) (TB _ _))));exact ⟨rfl, _, _, _, _, _, _, rfl, (show (AP (DJ ps) e (moved Y x) m2).2 = (AP (DJ ps) d Y m).2 by rw [c4]) ▸ f8, (show [x] ++ (AP (DJ ps) e (moved Y x) m2).1.getD [] = (AP (DJ ps) d Y m).1.getD [] by rw [c4, hl]; rfl) ▸ h8, (by rw [c4]; rfl), e8, e9⟩
 ·intro D I2 Mr2 M2 hle2 hR2 hC2;replace a9 := hle2.blk _ _ a9;replace b6 := hle2.blk _ _ b6;replace c3 := hle2.blk _ _ c3;replace c9 := hle2.blk _ _ c9;replace d2 := hle2.blk _ _ d2;replace d5 := hle2.blk _ _ d5;replace d6 := hle2.blk _ _ d6;obtain ⟨e1, e0, m2, rfl, e7, i8⟩ := hC2;have c4 := g8.trans (i8.trans try_done);obtain ⟨l1, e4, rfl, q1, q2, q4, q5⟩ := hR2;have d1 := q5.1
  try simp only [LS, LA, LC, LN, LK] at d1
  refine pst_mem (M' := ((D, Obj.deferred (some [])) :: (bX y #[vS a2 Y.cars.length a3, vS a4 Y.room.length a5, vS a0 y_ws.length a1] 110) :: (e4 ++ (bX b9 #[vN] 45) :: (bX a8 #[.bool (false)] 4) :: (r, Obj.map e1 e0) :: F))) (fun w h => by simpa only [AA, CA, NA] using h) (ppm (M' := ((D, Obj.deferred (some [])) :: (bX y #[vS a2 Y.cars.length a3, vS a4 Y.room.length a5, vS a0 y_ws.length a1] 110) :: (bX b9 #[vN] 45) :: (bX a8 #[.bool (false)] 4) :: (r, Obj.map e1 e0) :: (e4 ++ F))) (PC _ (PC _ (PW (PW PM)))) (NB (NX (rqr (sS (ss 2 0 b9 [vN] [vN] (_ :: _ :: _ :: _ :: _ :: _) (cs := [_]) rfl rfl (sS (ss 3 0 a8 [.bool (false)] [.bool (false)] (_ :: _ :: _ :: _ :: _ :: _) (cs := [_]) rfl rfl (se (BP ((HJ ?_))))))))))));refine HD (R := ((bX y #[vS a2 Y.cars.length a3, vS a4 Y.room.length a5, vS a0 y_ws.length a1] 110) :: (bX b9 #[vN] 45) :: (bX a8 #[.bool (false)] 4) :: (r, Obj.map e1 e0) :: (e4 ++ F))) [D] (.inl rfl) (PR _) (ppm (M' := ((bX y #[vS a2 Y.cars.length a3, vS a4 Y.room.length a5, vS a0 y_ws.length a1] 110) :: (e4 ++ (r, Obj.map e1 e0) :: (bX b9 #[vN] 45) :: (bX a8 #[.bool (false)] 4) :: F))) (PC _ ((PU (PU (PM.symm))).trans (PA _ ((PC _ (PS _ _ _)).trans (PS _ _ _))))) (MZ (t := 8) (T := 45) (n := 1) (u := 9) (U := 4) (n2 := 1) ([(bX y #[vS a2 Y.cars.length a3, vS a4 Y.room.length a5, vS a0 y_ws.length a1] 110)] ++ (e4 ++ ([(r, Obj.map e1 e0)] ++ ([])))) (by kernel_rfl) rfl (by kernel_rfl) rfl (CD (n := 1) (cs := #[vN]) (b := b9) (off := 0) (T := 45) (fz := (0, 0)) (vs := [vN]) (by simp) rfl) (.inr ⟨by kernel_rfl, rfl⟩) rfl (by kernel_rfl) rfl (CD (n := 1) (cs := #[.bool (false)]) (b := a8) (off := 0) (T := 4) (fz := (0, 0)) (vs := [.bool (false)]) (by simp) rfl) (.inr ⟨by kernel_rfl, rfl⟩) (by simp only [AA, NA, CA]; exact (TK _ (TA (TK _ (TC _ (TC _ (TR _)))) _))) (IT (IT (IT (IT (IT (IT (IT (IT c1 c7) d0) c8) c2) b8) b2) b0) hle2) ?_));exact ⟨_, _, _, _, _, _, (by rw [c4]; rfl), rfl, q4, q5, ((show m2 = (AP (DJ ps) d Y m).2 from by rw [c4]) ▸ e7), ((show [] = (AP (DJ ps) d Y m).1.getD [] from by rw [c4]; rfl) ▸ Own.nil _ _ _)⟩
 intro D c xs I2 M2 hle2 hS2;replace a9 := hle2.blk _ _ a9;replace b6 := hle2.blk _ _ b6;replace c3 := hle2.blk _ _ c3;replace c9 := hle2.blk _ _ c9;replace d2 := hle2.blk _ _ d2;replace d5 := hle2.blk _ _ d5;replace d6 := hle2.blk _ _ d6;obtain ⟨rfl, e1, e0, u2, Mu, l1, e4, rfl, e7, l0, n3, q4, q5⟩ := hS2;obtain ⟨f0, f1, k1, o4⟩ := l0.shape; subst k1;have d1 := q5.1
 try simp only [LS, LA, LC, LN, LK] at d1
 refine IM (M' := ((D, Obj.deferred (some [])) :: (bX b9 #[vS f0 ((AP (DJ ps) d Y m).1.getD []).length f1] 45) :: (bX a8 #[.bool (true)] 4) :: (r, Obj.map e1 e0) :: (bX y #[vS a2 Y.cars.length a3, vS a4 Y.room.length a5, vS a0 y_ws.length a1] 110) :: (Mu ++ (e4 ++ F)))) (fun w h => by simpa only [AA, CA, NA] using h) (rnm ?_);refine run_ret rfl ((RB (RP (HJ ?_))));refine HD (R := ((bX b9 #[vS f0 ((AP (DJ ps) d Y m).1.getD []).length f1] 45) :: (bX a8 #[.bool (true)] 4) :: (r, Obj.map e1 e0) :: (bX y #[vS a2 Y.cars.length a3, vS a4 Y.room.length a5, vS a0 y_ws.length a1] 110) :: (Mu ++ (e4 ++ F)))) [D] (.inl rfl) (PR _) (ppm (M' := ((bX y #[vS a2 Y.cars.length a3, vS a4 Y.room.length a5, vS a0 y_ws.length a1] 110) :: (e4 ++ (r, Obj.map e1 e0) :: (Mu ++ (bX b9 #[vS f0 ((AP (DJ ps) d Y m).1.getD []).length f1] 45) :: (bX a8 #[.bool (true)] 4) :: F)))) (((PC _ ((PC _ (PS _ _ _)).trans (PS _ _ _))).trans (PS _ _ _)).trans (PC _ ((PU (PU (PU (PO _ _ _)))).trans (PA _ (((PC _ (PS _ _ _)).trans (PS _ _ _)).trans (PC _ (PU (PM.symm)))))))) (MZ (t := 8) (T := 45) (n := 1) (u := 9) (U := 4) (n2 := 1) ([(bX y #[vS a2 Y.cars.length a3, vS a4 Y.room.length a5, vS a0 y_ws.length a1] 110)] ++ (e4 ++ ([(r, Obj.map e1 e0)] ++ (Mu)))) (by kernel_rfl) rfl (by kernel_rfl) rfl (CD (n := 1) (cs := #[vS f0 ((AP (DJ ps) d Y m).1.getD []).length f1]) (b := b9) (off := 0) (T := 45) (fz := (0, 0)) (vs := [vS f0 ((AP (DJ ps) d Y m).1.getD []).length f1]) (by simp) rfl) (.inr ⟨by kernel_rfl, rfl⟩) rfl (by kernel_rfl) rfl (CD (n := 1) (cs := #[.bool (true)]) (b := a8) (off := 0) (T := 4) (fz := (0, 0)) (vs := [.bool (true)]) (by simp) rfl) (.inr ⟨by kernel_rfl, rfl⟩) (by simp only [AA, NA, CA]; exact (TK _ (TA (TK _ (TA (TC _ (TC _ (TR _))) _)) _))) (IT (IT (IT (IT (IT (IT (IT (IT c1 c7) d0) c8) c2) b8) b2) b0) hle2) ?_));exact ⟨_, _, _, _, _, _, (by rw [n3]), rfl, q4, q5, e7, l0⟩
theorem search_all (n : Nat) : SearchAt n := by
 induction n with
 | zero => intro I y y_1 y_2 y_3 y_ws y_Ms Y d r r_es r_cl m g gs A ps y_1f y_2f y_3h y_3r r_is g_f hG hgo hka hfa hd hdn; exact search_of I y y_1 y_2 y_3 y_ws y_Ms Y d r r_es r_cl m g gs A ps y_1f y_2f y_3h y_3r r_is g_f hG hgo hka hfa hd (fun n hn => by omega)
 | succ n ih => intro I y y_1 y_2 y_3 y_ws y_Ms Y d r r_es r_cl m g gs A ps y_1f y_2f y_3h y_3r r_is g_f hG hgo hka hfa hd hdn; exact search_of I y y_1 y_2 y_3 y_ws y_Ms Y d r r_es r_cl m g gs A ps y_1f y_2f y_3h y_3r r_is g_f hG hgo hka hfa hd (fun k hk => (show n = k by omega) ▸ ih)
theorem search_ct (I : Imm) (y : Nat) (y_1 y_2 y_3 : Value) (y_ws : List Value) (y_Ms : Seg) (Y : Yard) (d : Nat) (r : Nat) (r_es : Array MapEntry) (r_cl : Nat) (m : Met) (g : Value) (gs : List Value) (A : Yard) (ps : List (Yard → Bool)) (y_1f : ED I y_1 Y.cars) (y_2f : AZ I y_2 Y.room) (y_3h : Own 23 1 AN y_3 y_ws y_Ms) (y_3r : RowsV I y_ws Y.tracks) (r_is : MapIs encP r_es (metV m)) (g_f : OH I g gs) (hG : Glob I) (hgo : GoalsOk Tryz.prog 23 110 I A gs ps) (hka : Kin A Y) (hfa : Fine A) (hd : d ≤ 4) : Ct Tryz.prog 130 #[vP y 0, vI ↑d, .map (some r), g] I ([(bX y #[y_1, y_2, y_3] 110)] ++ (y_Ms ++ ([(r, Obj.map r_es r_cl)]))) (fun v I' M' => ∃ y_wt : List Value, ∃ y_Mt : Seg, ∃ r_et : Array MapEntry, ∃ r_ct : Nat, ∃ u0 : Value, ∃ Ms0 : Seg, v = .tuple #[u0, .bool ((AP (DJ ps) d Y m).1.isSome)] ∧ M' = [(bX y #[y_1, y_2, y_3] 110)] ++ (y_Mt ++ ([(r, Obj.map r_et r_ct)] ++ (Ms0))) ∧ Own 23 1 AN y_3 y_wt y_Mt ∧ RowsV I' y_wt (Y).tracks ∧ MapIs encP r_et (metV ((AP (DJ ps) d Y m).2)) ∧ Own 52 3 BQ u0 ((AP (DJ ps) d Y m).1.getD []) Ms0) := search_all d I y y_1 y_2 y_3 y_ws y_Ms Y d r r_es r_cl m g gs A ps y_1f y_2f y_3h y_3r r_is g_f hG hgo hka hfa hd rfl
noncomputable def c_fewest (p : List Nat) : Code := sub (AU Tryz.f79) p
theorem fewest_ct (I : Imm) (y : Value) (Y : Yard) (g : Value) (gs : List Value) (ps : List (Yard → Bool)) (y_f : IsYard I y Y) (g_f : OH I g gs) (hG : Glob I) (hgo : GoalsOk Tryz.prog 23 110 I Y gs ps) (hv : Valid Y) : Ct Tryz.prog 79 #[y, g] I ([]) (fun v I' M' => ∃ u0 : Value, ∃ Ms0 : Seg, v = .tuple #[u0, vI (GS (AV (DJ ps) Y))] ∧ M' = Ms0 ∧ Own 52 3 BQ u0 ((AV (DJ ps) Y).getD []) Ms0) := by
 obtain ⟨y1, y2, y3, m8, f8, f9, g0⟩ := id y_f;subst m8;obtain ⟨a8, a9, l2, l5, j2, l3, l4, l6⟩ := id f8;subst j2;obtain ⟨b0, b2, l7, m0, j3, l8, l9, m1⟩ := id f9;subst j3;obtain ⟨b3, b4, m2, m5, k2, j4, m3, m4, m6, m7⟩ := id g0;subst j4;obtain ⟨i0, i1, n0, n3, k4, n1, n2, n4⟩ := id g_f;subst k4;refine fr (args := [_, _]) (N := 28) Tryz.func79 (fun F => ?_);show Run _ _ (c_fewest []) _ _ [(0, .agg #[vS a8 Y.cars.length a9, vS b0 Y.room.length b2, vS b3 Y.tracks.length b4]), (1, vS i0 gs.length i1)] _ _;refine rnm ?_;have j6 := hv.fine; have f1 := hv.good; have n5 := hv.lens;refine rqr (sS (sb 2 26 #[vS a8 Y.cars.length a9, vS b0 Y.room.length b2, vS b3 Y.tracks.length b4] (fun b1 => (sp 2 [(5, vI (0)), (4, vN)] (sn (sd (dnb 10 0 0 b1 [vS a8 Y.cars.length a9, vS b0 Y.room.length b2, vS b3 Y.tracks.length b4]) ?_))))));have e8 := KD I _ (Y) (BE f8 f9 g0) (by omega) (by omega) (by omega) (by exact f1.le);refine sS (sc (some 11) (e8 :) (.refl _) (fun k8 I3 k6 d0 k5 => ?_));obtain ⟨l1, d7, k0, c4, k1, a2, b5, j8, j7, f4, f5, f6, c8⟩ := k5;rw [j8, j7]; clear j8 j7;replace g_f := g_f.mono d0;replace hG := hG.mono d0;replace hgo := hgo.mono d0;obtain ⟨a6, a7, e5, i7⟩ := f4.shape;subst e5;obtain ⟨a3, a4, d5, g2⟩ := f5.shape;subst d5;obtain ⟨a0, a1, d6, g3⟩ := f6.shape;subst d6;have d2 := c8.1
 try simp only [LS, LA, LC, LN, LK] at d2
 refine AW (M' := ((d7 ++ (c4 ++ (b5 ++ (bX b1 #[vS a8 Y.cars.length a9, vS b0 Y.room.length b2, vS b3 Y.tracks.length b4] 26) :: F))))) (fun w h => by simpa only [AA, CA, NA] using h) (pm (M' := ((bX b1 #[vS a8 Y.cars.length a9, vS b0 Y.room.length b2, vS b3 Y.tracks.length b4] 26) :: (d7 ++ (c4 ++ (b5 ++ F))))) ((PA _ ((PA _ PM).trans PM)).trans PM) (sfz (A := ((bX b1 #[vS a8 Y.cars.length a9, vS b0 Y.room.length b2, vS b3 Y.tracks.length b4] 26) :: (c4 ++ (b5 ++ F)))) AM f4 (PM.symm) (fun m9 b9 a5 => ?_)));replace g_f := g_f.mono b9;replace hG := hG.mono b9;replace hgo := hgo.mono b9;replace c8 := c8.mono b9;obtain ⟨g4, g6, g5, g9, e2, g7, g8, h0⟩ := id a5;cases e2;refine sfz (A := ((bX b1 #[vS a8 Y.cars.length a9, vS b0 Y.room.length b2, vS b3 Y.tracks.length b4] 26) :: (b5 ++ F))) 0 f5 (PM.symm) (fun j5 b6 c0 => ?_);replace g_f := g_f.mono b6;replace hG := hG.mono b6;replace hgo := hgo.mono b6;replace c8 := c8.mono b6;replace a5 := a5.mono b6;obtain ⟨h3, h5, h4, h8, e3, h6, h7, h9⟩ := id c0;cases e3;refine sp 1 [(12, .agg #[vS a6 Y.cars.length a7, vS a3 Y.room.length a4, vS a0 a2.length a1])] (sS (sb 13 110 #[vS a6 Y.cars.length a7, vS a3 Y.room.length a4, vS a0 a2.length a1] (fun d8 => (sp 1 [(6, vP d8 0)] (se (rq (rqr (sp 1 [(14, vI (0))] (se (rb 0 ?_))))))))));refine rl (fun mz a w => ∃ J0 : Imm, ∃ d : Nat, ∃ b7 : Seg, ∃ b8 : List Value, (j5.le J0) ∧ (d ≤ 5) ∧ (∀ m, m < d → plain (DJ ps) m Y = none) ∧ (RowsV J0 b8 (Y.tracks)) ∧ (Own 23 1 AN (vS a0 a2.length a1) (b8) b7) ∧ Slots 28 [(14, vI ↑d), (1, vS i0 gs.length i1), (6, vP d8 0)] a ∧ a.defers = [] ∧ St J0 ((bX d8 #[vS a6 Y.cars.length a7, vS a3 Y.room.length a4, (vS a0 a2.length a1)] 110) :: (bX b1 #[vS a8 Y.cars.length a9, vS b0 Y.room.length b2, vS b3 Y.tracks.length b4] 26) :: (b7 ++ F)) w ∧ mz = 5 - d) ?_ ?_
 ·intro a w hS hD hW;exact ⟨_, j5, 0, b5, a2, IR _, by omega, (fun m hm => by omega), c8, f6, hS.sub (.cons 14 rfl (.cons 1 rfl (.cons 6 rfl (.nil _)))), hD, hW, rfl⟩
 rintro mz a w ⟨J0, d, b7, b8, hJ0, hd, e7, c3, d1, hS, hD, hW, rfl⟩
 refine AX hS hD hW ?_;clear hS hD hW a w;replace g_f := g_f.mono hJ0;replace hG := hG.mono hJ0;replace hgo := hgo.mono hJ0;replace a5 := a5.mono hJ0;replace c0 := c0.mono hJ0;have c1 := c3.1
 try simp only [LS, LA, LC, LN, LK] at c1
 refine rqr (sp 1 [(15, .bool (cmp .lss (↑d) (5)))] (se (rq (rc 15 rfl (fun h1 => ?_) (fun h1 => ?_)))))
 ·
  have i2 := h1;have h1 := BX h1;refine AK (NX (rq (rb 1 (rqr (sp 2 [(7, vI (↑d))] (sn (sp 2 [(19, vI (↑d)), (18, vP d8 0)] (sS (HZ (d := 20) (T := 162) (ty := 162) (gd := none) (by kernel_rfl) rfl (fun g1 => (sp 1 [(21, vS i0 gs.length i1)] ?_)))))))))));have e9 := search_ct J0 (d8) _ _ _ _ _ (Y) (d) (g1) (#[]) (0) ([]) _ _ (Y) (ps) a5 c0 d1 c3 (MapIs.nil encP) g_f (by assumption) (by assumption) (by exact Kin.refl Y) (by assumption) (by omega);refine sS (sc (some 22) (F := ((bX b1 #[vS a8 Y.cars.length a9, vS b0 Y.room.length b2, vS b3 Y.tracks.length b4] 26) :: F)) (e9 :) (by simpa only [AA, CA, NA] using ((PS _ _ _).trans (PC _ (PU (PM.symm))))) (fun k9 k3 k7 d9 i4 => ?_));obtain ⟨e6, c2, c6, c5, l0, c7, f3, f2, e0, e1, j9, f7⟩ := i4;rw [f3, f2]; clear f3 f2;obtain ⟨i8, i9, j0, j1⟩ := id e0.shape;have c9 := e1.1
  try simp only [LS, LA, LC, LN, LK] at c9
  obtain ⟨d3, d4, e4, i6⟩ := f7.shape;subst e4;refine AW (M' := ((bX d8 #[vS a6 Y.cars.length a7, vS a3 Y.room.length a4, vS a0 a2.length a1] 110) :: (c2 ++ (g1, Obj.map c6 c5) :: (c7 ++ (bX b1 #[vS a8 Y.cars.length a9, vS b0 Y.room.length b2, vS b3 Y.tracks.length b4] 26) :: F)))) (fun w h => by simpa only [AA, CA, NA] using h) (pm (M' := ((bX d8 #[vS a6 Y.cars.length a7, vS a3 Y.room.length a4, vS a0 a2.length a1] 110) :: (g1, Obj.map c6 c5) :: (bX b1 #[vS a8 Y.cars.length a9, vS b0 Y.room.length b2, vS b3 Y.tracks.length b4] 26) :: (c2 ++ (c7 ++ F)))) (PC _ (PW ((PA _ PM).trans PM))) (sp 5 [(9, .bool ((AP (DJ ps) d Y ([])).1.isSome)), (8, vS d3 ((AP (DJ ps) d Y ([])).1.getD []).length d4)] (sn (sp 1 [(25, .bool ((AP (DJ ps) d Y ([])).1.isSome))] (se (rc 25 rfl (fun h2 => ?_) (fun h2 => ?_)))))))
  ·
   have i3 := h2;refine rqr (sp 3 [(5, vI (0)), (4, vS d3 ((AP (DJ ps) d Y ([])).1.getD []).length d4)] (se (BP ((RB (RP (RP (RB (RP ?_)))))))));have i5 := OX j6 e7 (g := DJ ps); have f0 := fewest_hit (by omega) e7 (by rw [← i5]; exact h2);refine ppm (M' := ((c7 ++ (bX d8 #[vS a6 Y.cars.length a7, vS a3 Y.room.length a4, vS a0 a2.length a1] 110) :: (g1, Obj.map c6 c5) :: (bX b1 #[vS a8 Y.cars.length a9, vS b0 Y.room.length b2, vS b3 Y.tracks.length b4] 26) :: (c2 ++ F)))) (PU (PU (PU (PO _ _ _)))) (CG (t := 4) (u := 5) (c7) (by kernel_rfl) rfl rfl (TA (TC _ (TC _ (TC _ (TT (TR _) (TB _ _))))) _) (IT (IT (IT (IT d0 b9) b6) hJ0) d9) ?_);exact ⟨_, _, (congrArg (fun n => Value.tuple #[_, vI n]) (show (0 : Int) = GS (AV (DJ ps) Y) from (NO (by rw [f0, ← i5]; exact h2)).symm)), rfl, ((show (AP (DJ ps) d Y []).1.getD [] = (AV (DJ ps) Y).getD [] from by rw [f0, i5]) ▸ f7)⟩
  have i3 := h2;refine AK (NB (NX (rr (sd (da 27 (↑d) (1)) (sp 1 [(14, vI (↑d + 1))] (ee ?_))))));refine AG (5 - (d+1)) (by omega) ?_;intro a w hS hD hW;exact ⟨k3, d+1, c2, e6, (IT hJ0 d9), by omega, below_next e7 (by rw [← OX j6 e7]; exact NV h2), e1, e0, hS.sub (.consE 14 rfl rfl (.cons 1 rfl (.cons 6 rfl (.nil _)))), hD, (hW.perm ((PS _ _ _).trans (PC _ (PU (PU (PO _ _ _)))))).sub (TC _ (TT (TR _) (TB _ _))), rfl⟩
 have i2 := h1;have h1 := CB h1;refine CF 0 ((EP (EP (EB (NX (rqr (sp 2 [(5, vI (11)), (4, vN)] (se (BP ?_)))))))));have f0 := fewest_none (g := DJ ps) (Y := Y) (fun m hm => e7 m (by omega));refine CG (t := 4) (u := 5) ([]) (by kernel_rfl) rfl rfl (TC _ (TC _ (TT (TR _) (TB _ _)))) (IT (IT (IT d0 b9) b6) hJ0) ?_;exact ⟨_, _, (congrArg (fun n => Value.tuple #[_, vI n]) (show (11 : Int) = GS (AV (DJ ps) Y) from (errOf_none f0).symm)), rfl, ((show [] = (AV (DJ ps) Y).getD [] from by rw [f0]; rfl) ▸ Own.nil _ _ _)⟩
noncomputable def c_checkOrder (p : List Nat) : Code := sub (AU Tryz.f95) p
theorem checkOrder_ct (I : Imm) (y : Value) (Y : Yard) (a : Value) (o : List Int) (y_f : IsYard I y Y) (a_f : AZ I a o) : CtV Tryz.prog 95 #[y, a] I (vI (orderErr Y o)) := by
 obtain ⟨y1, y2, y3, e8, b0, b2, b3⟩ := id y_f;subst e8;obtain ⟨a0, a1, d2, d5, b9, d3, d4, d6⟩ := id b0;subst b9;obtain ⟨a2, a3, d7, e0, c0, d8, d9, e1⟩ := id b2;subst c0;obtain ⟨a4, a5, e2, e5, c3, c1, e3, e4, e6, e7⟩ := id b3;subst c1;obtain ⟨a7, a8, e9, f2, c4, f0, f1, c2⟩ := id a_f;subst c4;refine fr (args := [_, _]) (N := 35) Tryz.func95 (fun F => ?_);show Run _ _ (c_checkOrder []) _ _ [(0, .agg #[vS a0 Y.cars.length a1, vS a2 Y.room.length a3, vS a4 Y.tracks.length a5]), (1, vS a7 o.length a8)] _ _;refine rnm (rqr ?_);refine sS (sb 2 26 #[vS a0 Y.cars.length a1, vS a2 Y.room.length a3, vS a4 Y.tracks.length a5] (fun b1 => (sp 1 [(4, vI (0))] (se (rq (rqr (sd (dnb 8 0 0 b1 [vS a0 Y.cars.length a1, vS a2 Y.room.length a3, vS a4 Y.tracks.length a5]) (sd (dc 9 (fun I' hI => (MF I' _ (Y) ((BE b0 b2 b3).mono hI) :))) (sp 1 [(5, vI ((AH Y)))] (sn (sp 2 [(11, .bool (!(cmp .eql ((AH Y)) (0))))] (se (rc 11 rfl (fun h1 => ?_) (fun h1 => ?_))))))))))))))
 ·
  have b4 := h1;have h1 := CU (CN h1);refine rqr (sp 2 [(4, vI ((AH Y)))] (se (BP ((RP (AD (t := 4) [] (by kernel_rfl) rfl (TC _ (TR _)) (IR _) ?_))))));exact ⟨congrArg (Value.int .i64) ((OS h1).symm), rfl⟩
 have b4 := h1;have h1 := CV (CE h1);refine AK (NX (rq (rqr (sp 3 [(15, vI (0)), (14, vI (↑(o.length))), (13, vS a7 o.length a8)] (se (rb 0 ?_))))));refine rl (fun mz a w => ∃ k : Nat, (k ≤ o.length) ∧ (orderErr Y o = goO Y.cars.length (o.take k) (o.drop k)) ∧ Slots 35 [(15, vI ↑k), (1, vS a7 o.length a8), (2, vP b1 0), (13, vS a7 o.length a8), (14, vI (↑(o.length)))] a ∧ a.defers = [] ∧ St I ((bX b1 #[vS a0 Y.cars.length a1, vS a2 Y.room.length a3, vS a4 Y.tracks.length a5] 26) :: F) w ∧ mz = o.length - k) ?_ ?_
 ·intro a w hS hD hW;exact ⟨_, 0, Nat.zero_le _, orderErr_ok (by omega), hS.sub (.cons 15 rfl (.cons 1 rfl (.cons 2 rfl (.cons 13 rfl (.cons 14 rfl (.nil _)))))), hD, hW, rfl⟩
 rintro mz a w ⟨k, hk, hr, hS, hD, hW, rfl⟩
 refine AX hS hD hW ?_;clear hS hD hW a w;refine rqr (sp 1 [(16, .bool (cmp .lss (↑k) (↑(o.length))))] (se (rq (rc 16 rfl (fun h2 => ?_) (fun h2 => ?_)))))
 ·
  have b5 := h2;have h2 := BX h2;refine AK (NX (rq (rb 1 (rqr (sp 1 [(17, vI (↑k))] (sd (di 18 1 (k) c2.addr) (sd (dl 19 (BI c2 (k) (by omega))) (sp 2 [(7, vI (o.getD (k) 0)), (6, vI (↑k))] (se (rb 2 (rqr (sp 2 [(22, vP b1 0), (21, vI (o.getD (k) 0))] (sd (dlb 23 0 0 b1 (vS a0 Y.cars.length a1)) (sp 1 [(24, vI (↑(Y.cars.length)))] (sd (dsb 25 (↑(Y.cars.length)) (1)) (sd (dc 26 (fun I' hI => (MP I' (o.getD (k) 0) (0) ((↑(Y.cars.length)) - 1) :))) (sp 2 [(20, .bool (!(inB (o.getD (k) 0) 0 ((↑(Y.cars.length)) - 1))))] (se (rc 20 rfl (fun h3 => ?_) (fun h3 => ?_))))))))))))))))))))
  ·
   have b7 := h3;have h3 := CN h3;have b6 := IK h3;refine rqr (sp 1 [(4, vI (3))] (se (BP ((RB (RB (RP (RP (RB (RP (AD (t := 4) [] (by kernel_rfl) rfl (TC _ (TR _)) (IR _) ?_)))))))))));exact ⟨congrArg (Value.int .i64) ((hr.trans (goO_unknown (by omega) h3)).symm), rfl⟩
  have b7 := h3;have h3 := CE h3;have b6 := DT h3;refine rqr (sp 2 [(30, vI (↑k)), (29, vS a7 o.length a8)] ?_);have a6 := a_f.cutHi (k) (by omega);obtain ⟨c5, c7, c6, d0, a9, c8, c9, d1⟩ := id a6;rw [a9] at a6;refine sd (BB (DB (x := (.tmp 29)) (lo := none) (hi := (some (.tmp 30))) (T := 23) (e := 3) (sz := 1) (0) (k) (d := 31) (ty := 23) (gd := none) (by kernel_rfl) rfl (by kernel_rfl) (by kernel_rfl) rfl (.inl ⟨rfl, rfl⟩) (.inr ⟨_, .i64, rfl, rfl⟩) (by omega) (by omega)) a9) (sp 1 [(32, vI (o.getD (k) 0))] (sd (dc 33 (fun I' hI => (Contains_ct I' _ _ (o.getD (k) 0) (a6.mono hI) :))) (sp 1 [(28, .bool (decide ((o.getD (k) 0) ∈ (o.take (k)))))] (se (rc 28 rfl (fun h4 => ?_) (fun h4 => ?_))))))
  ·
   have b8 := h4;have h4 := JU h4;refine rqr (sp 1 [(4, vI (4))] (se (BP ((RB (RB (RP (RP (RB (RP (AD (t := 4) [] (by kernel_rfl) rfl (TC _ (TR _)) (IR _) ?_)))))))))));exact ⟨congrArg (Value.int .i64) ((hr.trans (goO_twice (by omega) h3 h4)).symm), rfl⟩
  have b8 := h4;have h4 := LQ h4;refine AK (NB (NB (NX (rr (sd (da 34 (↑k) (1)) (sp 1 [(15, vI (↑k + 1))] (ee ?_)))))));refine AG (o.length - (k+1)) (by omega) ?_;intro a w hS hD hW;exact ⟨k+1, by omega, hr.trans (goO_next (by omega) h3 h4), hS.sub (.consE 15 rfl rfl (.cons 1 rfl (.cons 2 rfl (.cons 13 rfl (.cons 14 rfl (.nil _)))))), hD, hW, rfl⟩
 have b5 := h2;have h2 := CB h2;refine CF 0 ((EP (EP (EB (NX (rqr (sp 1 [(4, vI (0))] (se (BP (AD (t := 4) [] (by kernel_rfl) rfl (TC _ (TR _)) (IR _) ?_))))))))));exact ⟨congrArg (Value.int .i64) ((hr.trans (goO_done (by omega))).symm), rfl⟩
noncomputable def c_Fewest (p : List Nat) : Code := sub (AU Tryz.f38) p
theorem Fewest_ct (I : Imm) (y : Value) (Y : Yard) (a : Value) (o : List Int) (y_f : IsYard I y Y) (a_f : AZ I a o) (hG : Glob I) : Ct Tryz.prog 38 #[y, a] I ([]) (fun v I' M' => ∃ u0 : Value, ∃ Ms0 : Seg, v = .tuple #[u0, vI ((BG Y o).2)] ∧ M' = Ms0 ∧ Own 52 3 BQ u0 ((BG Y o).1) Ms0) := by
 obtain ⟨y1, y2, y3, h4, b0, b2, b3⟩ := id y_f;subst h4;obtain ⟨a2, a3, g1, g4, e6, g2, g3, b6⟩ := id b0;subst e6;obtain ⟨a4, a5, g5, g8, e7, g6, g7, b7⟩ := id b2;subst e7;obtain ⟨a6, a7, g9, h3, f2, e8, h0, h2, b9, c0⟩ := id b3;subst e8;obtain ⟨d1, d2, h6, h9, f4, h7, h8, c9⟩ := id a_f;subst f4;refine fr (args := [_, _]) (N := 20) Tryz.func38 (fun F => ?_);show Run _ _ (c_Fewest []) _ _ [(0, .agg #[vS a2 Y.cars.length a3, vS a4 Y.room.length a5, vS a6 Y.tracks.length a7]), (1, vS d1 o.length d2)] _ _;refine rnm (rqr ?_);refine sS (sb 2 26 #[vS a2 Y.cars.length a3, vS a4 Y.room.length a5, vS a6 Y.tracks.length a7] (fun b1 => (sp 2 [(5, vI (0)), (4, vN)] (se (rq (rqr (sd (dnb 7 0 0 b1 [vS a2 Y.cars.length a3, vS a4 Y.room.length a5, vS a6 Y.tracks.length a7]) (sp 1 [(8, vS d1 o.length d2)] (sd (dc 9 (fun I' hI => (checkOrder_ct I' _ (Y) _ _ ((BE b0 b2 b3).mono hI) (a_f.mono hI) :))) (sp 1 [(6, vI ((orderErr Y o)))] (sn (sp 2 [(11, .bool (!(cmp .eql ((orderErr Y o)) (0))))] (se (rc 11 rfl (fun h1 => ?_) (fun h1 => ?_)))))))))))))))
 ·
  have e1 := h1;have h1 := CU (CN h1);refine rqr (sp 3 [(5, vI ((orderErr Y o))), (4, vN)] (se (BP ((RP (CG (t := 4) (u := 5) ([]) (by kernel_rfl) rfl rfl (TC _ (TR _)) (IR _) ?_))))));exact ⟨_, _, (congrArg (fun n => Value.tuple #[_, vI n]) (show orderErr Y o = (BG Y o).2 from (congrArg Prod.snd (GT h1)).symm)), rfl, ((show [] = (BG Y o).1 from (congrArg Prod.fst (GT h1)).symm) ▸ Own.nil _ _ _)⟩
 have e1 := h1;have h1 := CV (CE h1);have e2 : orderErr Y o = 0 := by omega
 refine AK (NX (rq ?_));refine rd 7 [(0, true), (1, true), (2, false), (3, false), (4, false), (5, true), (6, true)] ((bX b1 #[vS a2 Y.cars.length a3, vS a4 Y.room.length a5, vS a6 Y.tracks.length a7] 26) :: []) (F) ?_;refine AB (dnb 13 0 0 b1 [vS a2 Y.cars.length a3, vS a4 Y.room.length a5, vS a6 Y.tracks.length a7]) (ox 1 [(14, vS d1 o.length d2)] ?_);have c4 := ordered_ct I _ _ a_f;refine BW (sc (some 15) (F := ((bX b1 #[vS a2 Y.cars.length a3, vS a4 Y.room.length a5, vS a6 Y.tracks.length a7] 26) :: F)) (c4 :) (PR _) (fun f8 I3 f6 a1 f5 => ?_));obtain ⟨b8, f0, e9, d0⟩ := f5;rw [f0, e9]; clear f0 e9;replace y_f := y_f.mono a1;replace b0 := b0.mono a1;replace b6 := b6.mono a1;replace b2 := b2.mono a1;replace b7 := b7.mono a1;replace b3 := b3.mono a1;replace b9 := b9.mono a1;replace c0 := fun i hi => (c0 i hi).mono a1
 replace a_f := a_f.mono a1;replace c9 := c9.mono a1;replace hG := hG.mono a1;refine AQ (S' := (F)) (PR _) ?_;show OFP _ _ _ _ _ _ ((15, .func (.func 131) #[] #[vP b8 0]) :: _) _ _;refine PT (sbs 16 101 1 #[.func (.func 131) #[] #[vP b8 0]] (fun d3 => ?_));refine hk_mem (M' := ((bX b1 #[vS a2 Y.cars.length a3, vS a4 Y.room.length a5, vS a6 Y.tracks.length a7] 26) :: ([(bX d3 #[.func (.func 131) #[] #[vP b8 0]] 101)] ++ F))) (fun w h => h.perm (PS _ _ _)) ?_;have e3 : Own 101 1 AN (vS (some ⟨d3, 0, none⟩) 1 1) ([(.func (.func 131) #[] #[vP b8 0] : Value)] : List Value) [(bX d3 #[.func (.func 131) #[] #[vP b8 0]] 101)] := Own.lit rfl rfl;refine IZ (B := ((bX b1 #[vS a2 Y.cars.length a3, vS a4 Y.room.length a5, vS a6 Y.tracks.length a7] 26) :: F)) undef e3 (by first | omega | (simp only [LS, LC, LN, LA, LK, LD] <;> omega) | decide) (PM.symm) (PR _) (fun f3 a0 b5 => ?_);replace y_f := y_f.mono a0;replace b0 := b0.mono a0;replace b6 := b6.mono a0;replace b2 := b2.mono a0;replace b7 := b7.mono a0;replace b3 := b3.mono a0;replace b9 := b9.mono a0;replace c0 := fun i hi => (c0 i hi).mono a0
 replace a_f := a_f.mono a0;replace c9 := c9.mono a0;replace hG := hG.mono a0;replace d0 := a0.blk _ _ d0;obtain ⟨d4, d6, d5, d9, c2, d7, d8, e0⟩ := id b5;cases c2;refine LY ?_;refine AQ (S' := (F)) (PR _) ?_;have f1 := GZ e2;have c5 := fewest_ct f3 _ (Y) _ _ ([CQ o]) (BE b0 b2 b3) b5 (by first | exact hG | exact hG.mono hI) (by exact MO (by assumption) (by assumption) (Kin.pos f1.fine (Kin.refl Y))) (by exact f1);refine BW (sc (some 17) (F := ((bX b1 #[vS a2 Y.cars.length a3, vS a4 Y.room.length a5, vS a6 Y.tracks.length a7] 26) :: F)) (c5 :) (PR _) (fun f9 h5 f7 c1 e4 => ?_));obtain ⟨g0, b4, c7, c6, c8⟩ := e4;rw [c7, c6]; clear c7 c6;replace d0 := c1.blk _ _ d0;obtain ⟨a8, a9, c3, e5⟩ := c8.shape;subst c3;refine AQ (S' := ((b4 ++ F))) PM ?_;show OFP _ _ _ _ _ _ ((17, .tuple #[vS a8 ((AV (DJ ([CQ o])) Y).getD []).length a9, vI ((GS (AV (DJ ([CQ o])) Y)))]) :: _) _ _;refine ox 2 [(19, vI ((GS (AV (DJ ([CQ o])) Y)))), (18, vS a8 ((AV (DJ ([CQ o])) Y).getD []).length a9)] ?_;refine EL (nm (nm ?_));refine sp 2 [(5, vI ((GS (AV (DJ ([CQ o])) Y)))), (4, vS a8 ((AV (DJ ([CQ o])) Y).getD []).length a9)] (se (BP (ppm (M' := ((b4 ++ (bX b1 #[vS a2 Y.cars.length a3, vS a4 Y.room.length a5, vS a6 Y.tracks.length a7] 26) :: F))) (PM.symm) (CG (t := 4) (u := 5) (b4) (by kernel_rfl) rfl rfl (TA (TC _ (TR _)) _) (IT (IT a1 a0) c1) ?_))));exact ⟨_, _, (congrArg (fun n => Value.tuple #[_, vI n]) (show GS (AV (DJ [CQ o]) Y) = (BG Y o).2 from (congrArg Prod.snd (KY e2)).symm)), rfl, ((show (AV (DJ [CQ o]) Y).getD [] = (BG Y o).1 from (congrArg Prod.fst (KY e2)).symm) ▸ c8)⟩
end Go.Proofs.YtcaocbhbofejnaaGreatDoor
