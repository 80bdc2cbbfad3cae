/- A part of the proof of the laws of this seat. -/
import Derived.Test.YtcaocbhbofejnaaGreatDoorP1
import Derived.RangeFuncRecord
import Derived.RangeFuncLeaves
import Derived.Scope
import Derived.Test.YtcaocbhbofejnaaGreatDoorP2
set_option linter.unusedVariables false
set_option linter.unusedSimpArgs false
namespace Go
variable {P : Program} {F : Fence} {n : Nat} {Q : Exit → Act → World → Prop} {a : Act} {w : World}
theorem stepR_scope {b : Frame} {k : List Item} {cs : List Frame} {c : Code} : step P (lone (b.atR a (.code (.scope c) :: k)) cs w) = .next (lone (b.atR a (.code c :: .inScope c :: k)) cs w) :=
  step_lone_go (by simp [stepG, stepG.exec, Frame.atR])
theorem stepR_inScope {b : Frame} {k : List Item} {cs : List Frame} {c : Code} : step P (lone (b.atR a (.inScope c :: k)) cs w) = .next (lone (b.atR a k) cs w) :=
  step_lone_go (by simp [stepG, stepG.exec, Frame.atR])
theorem wpIn_scope {c : Code} (h : c.wpIn F n P (Exit.noGoto Q) a w) : (Code.scope c).wpIn F n P Q a w := by
  intro b k cs hro hb hr
  have h0 : (lone (b.atR a (.code (.scope c) :: k)) cs w).fenced P F := fenced_calm hb hr rfl
  obtain ⟨e, a₁, w₁, hq, harr⟩ := h b (.inScope c :: k) cs hro hb hr
  cases e with
  | normal => exact ⟨.normal, a₁, w₁, hq, .head h0 stepR_scope (StepsIn.trans harr (.one (fenced_calm hb hr rfl) stepR_inScope))⟩
  | exit id =>
    have hx : exitTo id (.inScope c :: k) = exitTo id k := by simp [exitTo]
    exact ⟨.exit id, a₁, w₁, hq, fun k' hk => .head h0 stepR_scope (harr.1 k' (by rw [hx]; exact hk)), fun hr' hk => let ⟨k₁, h1, h2⟩ := harr.2 hr' (by rw [hx]; exact hk); ⟨k₁, h1, .head h0 stepR_scope h2⟩⟩
  | goto l => exact hq.elim
  | ret => exact ⟨_, a₁, w₁, hq, .of_steps (.one h0 stepR_scope) harr⟩
  | panic ch => exact ⟨_, a₁, w₁, hq, .of_steps (.one h0 stepR_scope) harr⟩
  | outgrown => exact ⟨_, a₁, w₁, hq, .of_steps (.one h0 stepR_scope) harr⟩
end Go
namespace Go.Sl
open Go
theorem run_scope {ρ : Option Nat} {P : Program} {N : Nat} {Q : Exit → Act → World → Prop} {ds : List Deferred} {l : Sl} {I : Imm} {M : Seg} {c x : Code} (hc : c = .scope x) (h : Run (ρ := ρ) P N x (Exit.noGoto Q) ds l I M) : Run (ρ := ρ) P N c Q ds l I M := by
  subst hc
  exact fun a w hS hD hW => wpIn_scope (h a w hS hD hW)
theorem pst_ret_scope {N : Nat} {Q : Exit → Act → World → Prop} {ds : List Deferred} {l : Sl} {I : Imm} {M : Seg} (h : Pst N Q .ret ds l I M) : Pst N (Exit.noGoto Q) .ret ds l I M := h
theorem rn_freeze {α : Type} {E : TypeId} {sz : Nat} {cell : α → Nat → Value} {ρ : Option Nat} {P : Program} {N : Nat} {c : Code} {Q : Exit → Act → World → Prop} {ds : List Deferred} {l : Sl} {I : Imm} {M A B Ms : Seg} {v : Value} {xs : List α} (dflt : α)
    (h : Own E sz cell v xs Ms) (hl : xs.length ≤ 140737488355328) (hM : M.Perm (Ms ++ A)) (hA : A.Perm B)
    (next : ∀ J, I.le J → IsSl sz cell dflt J v xs → Run (ρ := ρ) P N c Q ds l J B) : Run (ρ := ρ) P N c Q ds l I M := St.own_freeze dflt h hl hM hA next
theorem rn_mem {ρ : Option Nat} {P : Program} {N : Nat} {Q : Exit → Act → World → Prop} {ds : List Deferred} {l : Sl} {I : Imm} {M M' : Seg} {c : Code} (s : ∀ w, St I M w → St I M' w) (next : Run (ρ := ρ) P N c Q ds l I M') : Run (ρ := ρ) P N c Q ds l I M := run_mem s next
theorem run_hold {ρ : Option Nat} {P : Program} {N : Nat} {Q : Exit → Act → World → Prop} {ds : List Deferred} {l : Sl} {I : Imm} {M M0 : Seg} {c : Code} {b : Nat} {o : Obj} (hM : M.Perm ((b, o) :: M0))
    (next : ∀ J, I.le J → J.blk b = some o → Run (ρ := ρ) P N c Q ds l J M0) : Run (ρ := ρ) P N c Q ds l I M := fun a w hS hD hW =>
  have st := hW.perm hM
  next (I.add b o) (Imm.le_add (st.disj b o List.mem_cons_self)) (Imm.add_same I b o) a w hS hD st.freeze
theorem seq_hold {ρ : Option Nat} {P : Program} {N : Nat} {ops : Array Oper} {i : Nat} {Q : Exit → Act → World → Prop} {ds : List Deferred} {l : Sl} {I : Imm} {M M0 : Seg} {b : Nat} {o : Obj} (hM : M.Perm ((b, o) :: M0))
    (next : ∀ J, I.le J → J.blk b = some o → Seq (ρ := ρ) P N ops Q ds i l J M0) : Seq (ρ := ρ) P N ops Q ds i l I M := fun a w hS hD hW =>
  have st := hW.perm hM
  next (I.add b o) (Imm.le_add (st.disj b o List.mem_cons_self)) (Imm.add_same I b o) a w hS hD st.freeze
theorem seesN_held {I : Imm} {M : Seg} {b off n : Nat} {cs : Array Value} {T : TypeId} {fz : Nat × Nat} {vs : List Value} (h : I.blk b = some (Obj.cells cs T fz)) (hv : (cs.toList.drop off).take n = vs) : SeesN I M b off vs := fun k v hk => by
  refine ⟨rfl, cs, T, fz, .inr h, ?_⟩
  rw [← hv, List.getElem?_take] at hk
  split at hk
  · rw [List.getElem?_drop] at hk; simpa using hk
  · cases hk
theorem sees_held {I : Imm} {M : Seg} {b off : Nat} {cs : Array Value} {T : TypeId} {fz : Nat × Nat} {v : Value} (h : I.blk b = some (Obj.cells cs T fz)) (hc : cs[off]? = some v) : Sees I M ⟨b, off, none⟩ v := ⟨rfl, cs, T, fz, .inr h, hc⟩

section
variable {P : Program} {N : Nat} {ops : Array Oper} {i : Nat} {l : Sl} {I : Imm} {R M : Seg} {ty : TypeId} {gd : Option (Nat × Bool)} {K : Sl → Imm → Seg → Prop} {d : Nat}
theorem det_loadW {x : Operand} {T S : TypeId} {b n : Nat} {cs : Array Value} {fz : Nat × Nat} (hop : opAt ops N i = some (some d, .load T x, ty, gd)) (hg : gval ops l gd = some true) (hT : tyAgg P T = some true) (hsz : tySize P T = some n) (hn : cs.size = n)
    (hx : oval l x = some (.pointer (some ⟨b, 0, none⟩))) (hs : Holds I R b (.cells cs S fz)) : Det P N ops i l I R d (.agg cs) := by
  have h := det_loadN (P := P) (I := I) (R := R) (n := n) (vs := cs.toList) (b := b) (off := 0) hop hg hT hsz hx (by simpa using hn) (fun k v hk => ⟨rfl, cs, S, fz, hs, by simpa using hk⟩)
  simpa using h
theorem pst_retW {fn : Func} {I₀ : Imm} {post : Value → Imm → Seg → Prop} {F : Seg} {t : Nat} {T S : TypeId} {b n : Nat} {cs : Array Value} {fz : Nat × Nat} (M' : Seg) (hr : fn.results = #[.cell t T]) (ht : look t l = some (.pointer (some ⟨b, 0, none⟩))) (hT : tyAgg P T = some true) (hsz : tySize P T = some n) (hn : cs.size = n)
    (hs : Holds I M b (.cells cs S fz)) (hsub : (M' ++ F).Sublist M) (hle : I₀.le I) (hp : post (.agg cs) I M') : Pst N (RetQ P fn I₀ post F) .ret [] l I M :=
  pst_retC1 (T := T) (n := n) (b := b) (off := 0) (vs := cs.toList) M' hr ht hsz (by simpa using hn) (fun k v hk => ⟨rfl, cs, S, fz, hs, by simpa using hk⟩) (.inl ⟨hT, by simp⟩) hsub hle hp
theorem setRow_all : ∀ (vs A B : List Value), vs.length = B.length → (setRow (A ++ B).toArray A.length vs).toList = A ++ vs := by
  intro vs A B h
  have := setRow_append vs A B (by omega)
  rw [this, List.drop_of_length_le (by omega), List.append_nil]
theorem stp_storeW {T S : TypeId} {x y : Operand} {v : Value} {cs vs : Array Value} {b n : Nat} {M' : Seg} (k : Nat) (hop : opAt ops N i = some (none, .store T x y, ty, gd)) (hg : gval ops l gd = some true)
    (hx : oval l x = some (.pointer (some ⟨b, 0, none⟩))) (hy : oval l y = some v) (hsz : tySize P T = some n) (hvs : v.cells = vs) (hn : vs.size = n) (hone : ∀ u ∈ vs.toList, oneCell u = true)
    (hk : M[k]? = some (b, Obj.cells cs S (0, 0))) (hcs : cs.size = n) (hM : M.set k (b, Obj.cells vs S (0, 0)) = M')
    (h : K l I M') : Stp P N ops i l I M K := by
  refine stp_store (cs := cs.toList) (cs' := vs.toList) (vs := vs.toList) (off := 0) (S := S) (M' := M') k hop hg hx hy hsz (by rw [hvs]) (by simpa using hn) (List.all_eq_true.2 hone) (by simpa using hk) (by simp; omega) ?_ (by simpa using hM) h
  have := setRow_all vs.toList [] cs.toList (by simp; omega)
  simpa using this
end

abbrev RQ (I : Imm) (post : Value → Imm → Seg → Prop) (F : Seg) : Ending → World → Prop := fun e w' => ∃ v I' M', e = .returned v ∧ I.le I' ∧ post v I' M' ∧ St I' (M' ++ F) w'

def Yt (P : Program) (L : Nat) (args : Array Value) (I : Imm) (pre : Seg) (post : Value → Imm → Seg → Prop) : Prop :=
  ∀ F w, St I (pre ++ F) w → ∃ f tmps assign body, (Instr.yield L args).run P w = .ok (.round L f tmps assign body) w ∧ RoundIn (fen none) 0 P L f tmps assign body w (RQ I post F)

def IterCt {α : Type} (P : Program) (gf : FuncId) (cv : List Value) (enc : α → List Value) (seq : List α) (R : Imm → Seg → Prop) (I0 : Imm) : Prop :=
  ∀ (L : Nat) (Cl Sp : List α → Imm → Seg → Prop), (∀ xs I J M, I.le J → Cl xs I M → Cl xs J M) →
    (∀ xs x I Mr M, (xs ++ [x]) <+: seq → I0.le I → R I Mr → Cl xs I M → Yt P L (enc x).toArray I (Mr ++ M) (fun v I' M' => (v = .bool true ∧ ∃ Mr' M2, M' = Mr' ++ M2 ∧ R I' Mr' ∧ Cl (xs ++ [x]) I' M2) ∨ (v = .bool false ∧ Sp (xs ++ [x]) I' M'))) →
    ∀ I Mr M, I0.le I → R I Mr → Cl [] I M → Ct P gf (.func (.yield L) #[] #[] :: cv).toArray I (Mr ++ M) (fun _ I' M' => (∃ Mr' M2, M' = Mr' ++ M2 ∧ R I' Mr' ∧ Cl seq I' M2) ∨ (∃ xs, Sp xs I' M'))

section
variable {ρ : Option Nat} {P : Program} {N : Nat} {ops : Array Oper} {i : Nat} {l : Sl} {I : Imm} {R M : Seg} {ty : TypeId} {gd : Option (Nat × Bool)} {K : Sl → Imm → Seg → Prop} {Q : Exit → Act → World → Prop} {ds : List Deferred}

theorem yield_run {f : Operand} {L : Nat} {args : Array Operand} {tys : Array TypeId} {vals : List Value} {ρ : Operand → Value} {w : World} (hf : ρ f = .func (.yield L) #[] #[]) (hvals : args.toList.map ρ = vals) :
    (execAt ρ (.call { callee := .value f, args, argTypes := tys }) ty).run P w = (Instr.yield L vals.toArray).run P w := by
  have e : args.map ρ = vals.toArray := by apply Array.ext'; simp [hvals]
  show (do let d ← resolve ρ { callee := .value f, args, argTypes := tys } ty; invoke d.target d.args : Sem Next).run P w = _
  unfold resolve
  simp only [e, hf, Deferred.ofValue]
  show (Instr.yield L (#[] ++ vals.toArray)).run P w = _
  simp

theorem stp_yield {d : Option Tmp} {f : Operand} {L : Nat} {args : Array Operand} {tys : Array TypeId} {vals : List Value} {pre F : Seg} {post : Value → Imm → Seg → Prop}
    (hop : opAt ops N i = some (d, .call { callee := .value f, args, argTypes := tys }, ty, gd)) (hg : gval ops l gd = some true) (hf : oval l f = some (.func (.yield L) #[] #[])) (hv : ovals l args.toList = some vals)
    (yt : Yt P L vals.toArray I pre post) (hM : M.Perm (pre ++ F))
    (h : ∀ v I' M', I.le I' → post v I' M' → K (ups d v l) I' (M' ++ F)) : Stp P N ops i l I M K := by
  obtain ⟨o, ho, rfl, he, rfl, rfl, hN, hs⟩ := opAt_spec hop
  obtain ⟨h1, h2⟩ := ovals_known hv
  refine ⟨o, ho, hN, hs, hg, ?_, fun w st => ?_⟩
  · rw [he]
    intro x hx
    simp only [Op.operands, Call.operands] at hx
    rcases Array.mem_append.1 hx with hx | hx
    · simp at hx; subst hx; exact known_of hf
    · exact h1 x (by simpa using hx)
  · rw [execOp_at, he, yield_run (rho_of hf) h2]
    obtain ⟨f', tmps, assign, body, hy, hr⟩ := yt F w (st.perm hM)
    rw [hy]
    refine RoundIn.mono hr fun e w' ⟨v, I', M', hv', hle, hp, st'⟩ => ?_
    exact ⟨v, hv', I', M' ++ F, hle, st', h v I' M' hle hp⟩

def mark (D : Nat) : Deferred := { target := .collected D, args := #[] }

def RoundQ (I : Imm) (post : Option Code → Imm → Seg → Prop) (F : Seg) : Exit → Act → World → Prop
  | .normal, _, w => ∃ I' M', I.le I' ∧ post none I' M' ∧ St I' (M' ++ F) w
  | .ret, _, w => ∃ I' M', I.le I' ∧ post (some .ret) I' M' ∧ St I' (M' ++ F) w
  | .exit id, _, w => ∃ I' M', I.le I' ∧ post (some (.exit id)) I' M' ∧ St I' (M' ++ F) w
  | .goto t, _, w => ∃ I' M', I.le I' ∧ post (some (.goto t)) I' M' ∧ St I' (M' ++ F) w
  | _, _, _ => False

def putAll : List (Tmp × Value) → Sl → Sl
  | [], l => l
  | (t, v) :: r, l => putAll r ((t, v) :: l)

theorem slots_fold {N : Nat} {dfs : List Deferred} : ∀ (xs : List (Tmp × Value)) (l : Sl) (tm : Array Value), Slots N l { tmps := tm, defers := dfs } → (∀ x ∈ xs, x.1 < N) →
    Slots N (putAll xs l) { tmps := xs.foldl (fun t (x : Tmp × Value) => t.setIfInBounds x.1 x.2) tm, defers := dfs } := by
  intro xs
  induction xs with
  | nil => intro l tm h _; exact h
  | cons x xs ih =>
    intro l tm h hN
    obtain ⟨t, v⟩ := x
    exact ih _ _ (h.put (hN (t, v) List.mem_cons_self) v) (fun y hy => hN y (List.mem_cons_of_mem _ hy))

theorem St.putObj {I : Imm} {M : Seg} {w : World} {r : Nat} {o o' : Obj} (h : St I ((r, o) :: M) w) : St I ((r, o') :: M) (w.putObj r o') := by
  have hh : w.heap[r]? = some o := h.mem r o List.mem_cons_self
  have hl : r < w.heap.size := (Array.getElem?_eq_some_iff.1 hh).1
  exact h.put (i := 0) (o := o') (o' := o) (w' := w.putObj r o') rfl rfl rfl rfl (World.putObj_heap_same hl) (fun b hb => World.putObj_heap_other hb)

theorem perm3 {A B C : Seg} {x y : Nat × Obj} : ((A ++ (x :: y :: B)) ++ C).Perm (x :: (A ++ (B ++ (y :: C)))) := by
  rw [List.append_assoc]
  refine List.perm_middle.trans (.cons x (List.Perm.append_left A ?_))
  exact List.perm_middle.symm

theorem perm4 {A C : Seg} {x y : Nat × Obj} : (A ++ (x :: y :: C)).Perm (x :: (A ++ (y :: C))) := List.perm_middle

theorem run_rangeFunc {α : Type} {c : Code} {g : Operand} {ps : Array Tmp} {assign body : Code} {gf : FuncId} {cv : List Value} {enc : α → List Value} {seq : List α} {R : Imm → Seg → Prop} {Mr M0 F0 : Seg}
    (Cl : List α → Imm → Seg → Prop) (Sp : Code → List α → Imm → Seg → Prop) (sl : α → Nat → Sl) (mm : α → Nat → Seg)
    (hc : c = .rangeFunc g ps assign body) (hg : oval l g = some (.func (.func gf) #[] cv.toArray)) (hcall : callable P gf = true) (hps : ∀ x, (enc x).length = ps.size) (hpN : ps.all (fun t => Nat.blt t N) = true)
    (it : IterCt P gf cv enc seq R I)
    (hmono : ∀ xs I J M, I.le J → Cl xs I M → Cl xs J M)
    (hM : M.Perm (Mr ++ (M0 ++ F0))) (hr : R I Mr) (h0 : Cl [] I M0)
    (hassign : ∀ L x I1 M1, Run (ρ := some L) P N assign (Exit.then (fun a w => ∃ k, Slots N (sl x k) a ∧ a.defers = [] ∧ St I1 (mm x k ++ M1) w) (fun _ _ _ => False)) [] (putAll (ps.toList.zip (enc x)) l) I1 M1)
    (hbody : ∀ L x k xs I1 Mr1 M1 F1, (xs ++ [x]) <+: seq → I.le I1 → R I1 Mr1 → Cl xs I1 M1 →
      Run (ρ := some L) P N body (RoundQ I1 (fun o I' M' => match o with | none => ∃ Mr' M2, M' = Mr' ++ M2 ∧ R I' Mr' ∧ Cl (xs ++ [x]) I' M2 | some c => Sp c (xs ++ [x]) I' M') F1) [] (sl x k) I1 (mm x k ++ (Mr1 ++ (M1 ++ F1))))
    (hdone : ∀ D I' Mr' M', I.le I' → R I' Mr' → Cl seq I' M' → Pst N Q .normal (mark D :: ds) l I' ((D, .deferred (some [])) :: (Mr' ++ (M' ++ F0))))
    (hstop : ∀ D c xs I' M', I.le I' → Sp c xs I' M' → Run (ρ := none) P N c Q (mark D :: ds) l I' ((D, .deferred (some [])) :: (M' ++ F0))) :
    Run (ρ := none) P N c Q ds l I M := by
  subst hc
  intro a w hS hD hW
  refine wpIn_rangeFunc fun fn _ => ?_
  obtain ⟨rec, hrec⟩ : ∃ rec : LoopState → Option Code → Loop, rec = fun st pe => { state := st, pending := pe, fn, tmps := a.tmps, params := ps, assign, body, defers := w.heap.size } := ⟨_, rfl⟩
  have hW2 : St I ((w.heap.size + 1, .loop (rec .ready none)) :: (w.heap.size, .deferred (some [])) :: (Mr ++ (M0 ++ F0))) ((w.alloc (.deferred (some []))).alloc (.loop (rec .ready none))) := by
    have h1 := (hW.perm hM).new (.deferred (some []))
    have h2 := h1.new (.loop (rec .ready none))
    have e : (w.heap.push (Obj.deferred (some []))).size = w.heap.size + 1 := by simp
    rw [e] at h2
    exact h2
  generalize hw1 : ((w.alloc (.deferred (some []))).alloc (.loop (rec .ready none))) = w1 at hW2
  refine ⟨w.heap.size + 1, [mark w.heap.size], w1, { target := .fn (.func gf) cv.toArray, args := #[.func (.yield (w.heap.size + 1)) #[] #[]] }, w1, gf, (.func (.yield (w.heap.size + 1)) #[] #[] :: cv).toArray, w1, ?_, ?_, fun _ _ => trivial, ?_, fun h => by simp [fen, Fence.wide] at h, ?_⟩
  · rw [← hw1, hrec]; exact run_enterLoop_outer _ _ _ _ _
  · unfold resolve
    simp only [eval_of hS hg, Deferred.ofValue]
    simp [Act.eval, pure, Sem.run]
  · show (callFunc gf (#[Value.func (.yield (w.heap.size + 1)) #[] #[]] ++ cv.toArray)).run P w1 = _
    rw [callFunc_run hcall]
    simp
  · refine callsIn_fen.2 ?_
    clear hw1 hW
    generalize w.heap.size + 1 = L at hW2 hrec ⊢
    generalize w.heap.size = D at hW2 hrec ⊢
    have hit := it L (fun xs I M => ∃ M0, M = (L, .loop (rec .ready none)) :: (D, .deferred (some [])) :: M0 ∧ Cl xs I M0)
      (fun xs I M => ∃ c M0, M = (L, .loop (rec .done (some c))) :: (D, .deferred (some [])) :: M0 ∧ Sp c xs I M0)
      (fun xs I J M le ⟨M0, e, h⟩ => ⟨M0, e, hmono xs I J M0 le h⟩) ?_ I Mr ((L, .loop (rec .ready none)) :: (D, .deferred (some [])) :: M0) (Imm.le.refl I) hr ⟨M0, rfl, h0⟩
    · refine (hit F0 w1 (hW2.perm ?_)).mono ?_
      · rw [List.append_assoc]
        exact ((List.perm_middle (l₁ := Mr)).trans (.cons _ (List.perm_middle (l₁ := Mr)))).symm
      · rintro e w' ⟨v, I', M', rfl, hle, hp, st⟩
        rcases hp with ⟨Mr', M2, rfl, hR, M3, rfl, hcl⟩ | ⟨xs, c, M3, rfl, hsp⟩
        · have st2 := st.perm (show ((Mr' ++ ((L, Obj.loop (rec .ready none)) :: (D, .deferred (some [])) :: M3)) ++ F0).Perm ((L, Obj.loop (rec .ready none)) :: (D, .deferred (some [])) :: (Mr' ++ (M3 ++ F0))) by
            rw [List.append_assoc]
            exact (List.perm_middle (l₁ := Mr')).trans (.cons _ (List.perm_middle (l₁ := Mr'))))
          have hl := st2.mem _ _ List.mem_cons_self
          refine ⟨none, _, by have := run_endLoop (P := P) hl (by rw [hrec]; simp); rw [hrec] at this; exact this, ?_⟩
          refine hdone D I' Mr' M3 hle hR hcl _ _ ⟨hS.size, hS.get⟩ (by show [mark D] ++ a.defers = _; rw [hD]; rfl) ?_
          exact (St.putObj st2).drop
        · have hl := st.mem (L) (.loop (rec .done (some c))) (by simp)
          refine ⟨some c, _, by have := run_endLoop (P := P) hl (by rw [hrec]; simp); rw [hrec] at this; exact this, ?_⟩
          refine hstop D c xs I' M3 hle hsp _ _ ⟨hS.size, hS.get⟩ (by show [mark D] ++ a.defers = _; rw [hD]; rfl) ?_
          exact (St.putObj (M := (D, Obj.deferred (some [])) :: (M3 ++ F0)) st).drop
    · rintro xs x I1 Mr1 M1' hpre hle hR ⟨M1, rfl, hcl⟩ F1 w2 st
      have hl := st.mem L (.loop (rec .ready none)) (by simp)
      have hy := run_yield (P := P) (args := (enc x).toArray) hl (by rw [hrec]; simpa using hps x)
      rw [hrec] at hy
      refine ⟨_, _, assign, body, hy, roundIn_of_wpIn (F := fen none) trivial ?_⟩
      have hfold : ((ps.zip (enc x).toArray).foldl (fun tmps (t, a) => tmps.setIfInBounds t a) a.tmps) = (ps.toList.zip (enc x)).foldl (fun t (x : Tmp × Value) => t.setIfInBounds x.1 x.2) a.tmps := by
        rw [← Array.foldl_toList]
        simp
      simp only
      rw [hfold]
      refine wpIn_mono (hassign L x I1 _ _ w2 (slots_fold (ps.toList.zip (enc x)) l a.tmps ⟨hS.size, hS.get⟩ ?_) rfl st) ?_
      · intro y hy'
        have := (List.of_mem_zip (show (y.1, y.2) ∈ ps.toList.zip (enc x) from hy')).1
        have h3 := Array.all_eq_true'.1 hpN y.1 (by simpa using this)
        exact Nat.le_of_ble_eq_true h3
      · rintro e a1 w3 hq
        cases e with
        | normal =>
          obtain ⟨k, hS3, hD3, st3⟩ := hq
          have st4 : St I1 ((L, .loop (rec .ready none)) :: (mm x k ++ (Mr1 ++ (M1 ++ ((D, .deferred (some [])) :: F1))))) w3 := st3.perm ((List.Perm.append_left (mm x k) perm3).trans List.perm_middle)
          have hl3 := st4.mem L (.loop (rec .ready none)) List.mem_cons_self
          refine ⟨_, run_beginRound hl3 (by rw [hrec]), ?_⟩
          have st5 : St I1 (mm x k ++ (Mr1 ++ (M1 ++ ((L, .loop { rec .ready none with state := .busy }) :: (D, .deferred (some [])) :: F1)))) (w3.putObj L (.loop { rec .ready none with state := .busy })) := by
            refine (St.putObj st4).perm ?_
            refine (List.perm_middle (l₁ := mm x k)).symm.trans (List.Perm.append_left (mm x k) ?_)
            have := (perm3 (A := Mr1) (B := M1) (C := F1) (x := (L, Obj.loop { rec .ready none with state := .busy })) (y := (D, Obj.deferred (some [])))).symm
            refine this.trans ?_
            rw [List.append_assoc]
            refine List.Perm.append_left Mr1 ?_
            show ((L, Obj.loop { rec .ready none with state := .busy }) :: (D, .deferred (some [])) :: (M1 ++ F1)).Perm _
            exact ((List.perm_middle (l₁ := M1)).trans (.cons _ (List.perm_middle (l₁ := M1)))).symm
          refine wpIn_mono (hbody L x k xs I1 Mr1 M1 _ hpre hle hR hcl a1 _ hS3 hD3 st5) ?_
          have fin : ∀ (jump : Option Code) (I' : Imm) (M' : Seg) (w6 : World), St I' (M' ++ ((L, .loop { rec .ready none with state := .busy }) :: (D, .deferred (some [])) :: F1)) w6 →
              (Instr.endRound L jump).run P w6 = .ok (.bool jump.isNone) (w6.putObj L (.loop (rec (if jump.isNone then .ready else .done) jump))) ∧
              St I' ((L, .loop (rec (if jump.isNone then .ready else .done) jump)) :: (M' ++ ((D, .deferred (some [])) :: F1))) (w6.putObj L (.loop (rec (if jump.isNone then .ready else .done) jump))) := fun jump I' M' w6 st6 => by
            have st7 := st6.perm perm4
            have hl7 := st7.mem _ _ List.mem_cons_self
            have := run_endRound (P := P) jump hl7
            rw [hrec] at this ⊢
            exact ⟨this, by rw [hrec] at st7; exact St.putObj st7⟩
          rintro e a6 w6 hq6
          have stop : ∀ (c : Code), (∃ I' M', I1.le I' ∧ Sp c (xs ++ [x]) I' M' ∧ St I' (M' ++ ((L, .loop { rec .ready none with state := .busy }) :: (D, .deferred (some [])) :: F1)) w6) →
              ∃ v w', (Instr.endRound L (some c)).run P w6 = .ok v w' ∧ RQ I1 (fun v I' M' => (v = .bool true ∧ ∃ Mr' M2, M' = Mr' ++ M2 ∧ R I' Mr' ∧ ∃ M0, M2 = (L, .loop (rec .ready none)) :: (D, .deferred (some [])) :: M0 ∧ Cl (xs ++ [x]) I' M0) ∨
                (v = .bool false ∧ ∃ c M0, M' = (L, .loop (rec .done (some c))) :: (D, .deferred (some [])) :: M0 ∧ Sp c (xs ++ [x]) I' M0)) F1 (.returned v) w' := by
            rintro c ⟨I', M', hle', hp, st6⟩
            obtain ⟨h1, h2⟩ := fin (some c) I' M' w6 st6
            exact ⟨_, _, h1, _, I', _, rfl, hle', .inr ⟨rfl, c, M', rfl, hp⟩, h2.perm (.cons _ List.perm_middle)⟩
          cases e with
          | normal =>
            obtain ⟨I', M', hle', ⟨Mr', M2, rfl, hR', hcl'⟩, st6⟩ := hq6
            obtain ⟨h1, h2⟩ := fin none I' _ w6 st6
            refine ⟨_, _, h1, _, I', _, rfl, hle', .inl ⟨rfl, Mr', _, rfl, hR', M2, rfl, hcl'⟩, h2.perm ?_⟩
            rw [List.append_assoc]
            exact perm3.symm
          | ret => exact stop .ret hq6
          | exit id => exact stop (.exit id) hq6
          | goto t => exact stop (.goto t) hq6
          | panic ch => exact hq6.elim
          | outgrown => exact hq6.elim
        | exit id => exact hq.elim
        | goto t => exact hq.elim
        | ret => exact hq.elim
        | panic ch => exact hq.elim
        | outgrown => exact hq.elim

def isNI : Value → Option Bool
  | .nilIface => some true
  | .iface _ _ => some false
  | _ => none
def tyIface (P : Program) (t : TypeId) : Bool := match P.underlying t with | some (.interface _) => true | _ => false
theorem det_eqIface {x : Operand} {T T' : TypeId} {v : Value} {b : Bool} {d : Nat} (hop : opAt ops N i = some (some d, .binOp .eql T x (.const .nilIface) T', ty, gd)) (hg : gval ops l gd = some true) (hT : tyIface P T = true) (hx : oval l x = some v) (hb : isNI v = some b) : Det P N ops i l I R d (.bool b) :=
  det_pure hop hg (known2 hx rfl) fun I' M' => by
    show wpL P ((do eqGuard .eql T x (.const .nilIface) (rho l x) .nilIface; binOp .eql T (rho l x) .nilIface) >>= fun x => pure (Next.value x)) _ I' M'
    rw [rho_of hx]
    refine wpL_val ?_
    obtain ⟨ms, hms⟩ : ∃ ms, P.underlying T = some (.interface ms) := by
      unfold tyIface at hT
      split at hT
      · rename_i ms h; exact ⟨ms, h⟩
      · cases hT
    have e1 : eqGuard .eql T x (.const .nilIface) v .nilIface = pure () := by
      cases v <;> simp [isNI] at hb <;> simp [eqGuard]
    rw [e1]
    show wpL P (binOp .eql T v .nilIface) _ I' M'
    cases v <;> simp [isNI] at hb <;> subst hb
    all_goals
      first
        | show wpL P (Op.equalIn 10000 T .nilIface .nilIface >>= fun b => pure (Value.bool b)) _ I' M'
        | show wpL P (Op.equalIn 10000 T (.iface _ _) .nilIface >>= fun b => pure (Value.bool b)) _ I' M'
      rw [wpL_bind]
      unfold Op.equalIn
      rw [wpL_bind, wpL_underlying hms]
      exact ⟨rfl, rfl⟩

def Hk (K : Sl → Imm → Seg → Prop) (l : Sl) (I : Imm) (M : Seg) : Prop := ∀ w, St I M w → ∃ J M', I.le J ∧ St J M' w ∧ K l J M'
theorem hk_done {K : Sl → Imm → Seg → Prop} {l : Sl} {I : Imm} {M : Seg} (h : K l I M) : Hk K l I M := fun _ st => ⟨I, M, Imm.le.refl I, st, h⟩
theorem hk_mem {K : Sl → Imm → Seg → Prop} {l : Sl} {I : Imm} {M M' : Seg} (s : ∀ w, St I M w → St I M' w) (next : Hk K l I M') : Hk K l I M := fun w st => next w (s w st)
theorem hk_freeze {α : Type} {E : TypeId} {sz : Nat} {cell : α → Nat → Value} {K : Sl → Imm → Seg → Prop} {l : Sl} {I : Imm} {M A B Ms : Seg} {v : Value} {xs : List α} (dflt : α)
    (h : Own E sz cell v xs Ms) (hl : xs.length ≤ 140737488355328) (hM : M.Perm (Ms ++ A)) (hA : A.Perm B) (next : ∀ J, I.le J → IsSl sz cell dflt J v xs → Hk K l J B) : Hk K l I M := fun w st => by
  obtain ⟨J, h1, h2, h3⟩ := h.freeze dflt hl (st.perm hM)
  obtain ⟨J2, M', g1, g2, g3⟩ := next J h1 h2 w (h3.perm hA)
  exact ⟨J2, M', h1.trans g1, g2, g3⟩
theorem stp_hk {K : Sl → Imm → Seg → Prop} (h : Stp P N ops i l I M (Hk K)) : Stp P N ops i l I M K := by
  obtain ⟨o, h1, h2, h3, h4, h5, h6⟩ := h
  refine ⟨o, h1, h2, h3, h4, h5, fun w st => (h6 w st).mono fun v w' ⟨I', M', g1, g2, g3⟩ => ?_⟩
  obtain ⟨J, M2, k1, k2, k3⟩ := g3 w' g2
  exact ⟨J, M2, g1.trans k1, k2, k3⟩
theorem ofp_stpH {S : Seg} {Kfin : Sl → Imm → Seg → Prop} {rest : List (Nat × Bool)}
    (h : Stp P N ops i l I (R ++ S) (Hk fun l' I' M' => ∃ S', M'.Perm (R ++ S') ∧ OFP P N ops R Kfin rest l' I' S')) : OFP P N ops R Kfin ((i, false) :: rest) l I S := stp_hk h

theorem pst_round {I₀ : Imm} {post : Option Code → Imm → Seg → Prop} {F M' : Seg} (hle : I₀.le I) (hp : post none I M') (hs : (M' ++ F).Sublist M) : Pst N (RoundQ I₀ post F) .normal [] l I M := fun _ _ _ _ hW => ⟨I, M', hle, hp, hW.sub hs⟩
theorem pst_round_ret {I₀ : Imm} {post : Option Code → Imm → Seg → Prop} {F M' : Seg} (hle : I₀.le I) (hp : post (some .ret) I M') (hs : (M' ++ F).Sublist M) : Pst N (RoundQ I₀ post F) .ret [] l I M := fun _ _ _ _ hW => ⟨I, M', hle, hp, hW.sub hs⟩
def RetQM (P : Program) (fn : Func) (I : Imm) (post : Value → Imm → Seg → Prop) (F : Seg) : Exit → Act → World → Prop :=
  bodyPostM (fen none) 0 P fn (RQ I post F)

theorem fnM_of_run {f : FuncId} {fn : Func} {args : List Value} {pre : Seg} {post : Value → Imm → Seg → Prop} (hf : P.funcs[f]? = some fn) (hb : fn.body.isSome = true)
    (hN : fn.ntmps = N) (hle : args.length ≤ N)
    (h : ∀ F, Run (ρ := none) P N (bodyOf fn) (RetQM P fn I post F) [] (argSlots 0 args) I (pre ++ F)) : Ct P f args.toArray I pre post := by
  intro F w st
  have hbody : fn.body = some (bodyOf fn) := by
    cases hx : fn.body with
    | none => rw [hx] at hb; cases hb
    | some c => simp [bodyOf, hx]
  refine callsIn_fen.1 (callsIn_of_wp_marks (F := fen none) (n := 0) hf hbody trivial (h F _ w ⟨?_, fun t v hv => ?_⟩ rfl st))
  · simp; omega
  obtain ⟨_, h2⟩ := look_argSlots args 0 t v hv
  rw [Nat.sub_zero] at h2
  have hlt : t < args.length := (List.getElem?_eq_some_iff.1 h2).1
  rw [Array.getElem?_append_left (by simpa using hlt)]
  simpa using h2

def CtD (P : Program) (f : FuncId) (args : Array Value) (I : Imm) (pre : Seg) (post : Value → Imm → Seg → Prop) : Prop :=
  ∀ F w u, St I (pre ++ F) w → CallsDIn (fen none) 0 P f args u w fun e u' w' => u' = u ∧ RQ I post F e w'

theorem fnD_of_run {f : FuncId} {fn : Func} {args : List Value} {pre : Seg} {post : Value → Imm → Seg → Prop} (hf : P.funcs[f]? = some fn) (hb : fn.body.isSome = true)
    (hN : fn.ntmps = N) (hle : args.length ≤ N)
    (h : ∀ F, Run (ρ := none) P N (bodyOf fn) (RetQ P fn I post F) [] (argSlots 0 args) I (pre ++ F)) : CtD P f args.toArray I pre post := by
  intro F w u st
  have hbody : fn.body = some (bodyOf fn) := by
    cases hx : fn.body with
    | none => rw [hx] at hb; cases hb
    | some c => simp [bodyOf, hx]
  refine callsDIn_of_wp hf hbody trivial (h F _ w ⟨?_, fun t v hv => ?_⟩ rfl st)
  · simp; omega
  obtain ⟨_, h2⟩ := look_argSlots args 0 t v hv
  rw [Nat.sub_zero] at h2
  have hlt : t < args.length := (List.getElem?_eq_some_iff.1 h2).1
  rw [Array.getElem?_append_left (by simpa using hlt)]
  simpa using h2

section
variable {fn : Func} {I₀ : Imm} {post : Value → Imm → Seg → Prop} {F : Seg}
def blocksOf (Ds : List Nat) : Seg := Ds.map fun D => (D, .deferred (some []))

theorem leaves_marks {R : Ending → World → Prop} {tm : Array Value} : ∀ (Ds : List Nat) (w : World) (M : Seg), St I (blocksOf Ds ++ M) w → (∀ w', St I M w' → ∃ v, (results fn tm).run P w' = .ok v w' ∧ R (.returned v) w') →
    LeavesInM (fen none) 0 P fn tm R (Ds.map mark) .returning w := by
  intro Ds
  induction Ds with
  | nil => intro w M st h; exact h w st
  | cons D Ds ih =>
    intro w M st h
    have hh := st.mem D (.deferred (some [])) (by simp [blocksOf])
    exact ⟨by simp, .inl ⟨D, _, rfl, run_takeDeferred hh, ih _ M (St.putObj (M := blocksOf Ds ++ M) st).drop h⟩⟩

theorem pst_marks (Ds : List Nat) {e : Exit} (he : e = .ret ∨ e = .normal) (hM : M.Perm (blocksOf Ds ++ R)) (h : Pst N (RetQ P fn I₀ post F) e [] l I R) : Pst N (RetQM P fn I₀ post F) e (Ds.map mark) l I M := fun a w hS hD hW => by
  have key : LeavesInM (fen none) 0 P fn a.tmps (RQ I₀ post F) a.defers .returning w := by
    rw [hD]
    refine leaves_marks Ds w R (hW.perm hM) fun w' st => ?_
    have := h { tmps := a.tmps, defers := [] } w' ⟨hS.size, hS.get⟩ rfl st
    rcases he with rfl | rfl
    · exact this.2
    · exact this.2
  rcases he with rfl | rfl
  · exact key
  · exact key

theorem pst_deferred {fid : FuncId} {vals cv : List Value} {pre F1 : Seg} {post1 : Value → Imm → Seg → Prop} (hcall : callable P fid = true) (ct : CtD P fid (vals ++ cv).toArray I pre post1) (hM : M.Perm (pre ++ F1))
    (next : ∀ v I' M', I.le I' → post1 v I' M' → Pst N (RetQM P fn I₀ post F) .ret ds l I' (M' ++ F1)) : Pst N (RetQM P fn I₀ post F) .ret ({ target := .fn (.func fid) cv.toArray, args := vals.toArray } :: ds) l I M := fun a w hS hD hW => by
  show LeavesInM (fen none) 0 P fn a.tmps (RQ I₀ post F) a.defers .returning w
  rw [hD]
  refine ⟨by simp, .inr ⟨fun h => by simp [fen, Fence.wide] at h, .func fid, cv.toArray, fid, (vals ++ cv).toArray, rfl, ?_, fun _ _ => trivial, ?_⟩⟩
  · show (callFunc fid (vals.toArray ++ cv.toArray)).run P w = _
    rw [callFunc_run hcall]
    simp
  · refine (ct F1 w .returning (hW.perm hM)).mono ?_
    rintro e u' w' ⟨rfl, v, I', M', rfl, hle, hp, st⟩
    exact next v I' M' hle hp { tmps := a.tmps, defers := ds } w' ⟨hS.size, hS.get⟩ rfl st
end

def deferAt (ops : Array Oper) (i : Nat) : Option (Call × TypeId × Option (Nat × Bool)) :=
  match ops[i]? with
  | some o => match o.op, o.dst with
    | .defer c, none => some (c, o.type, o.guard)
    | _, _ => none
  | none => none

theorem seq_defer {f : Operand} {fid : FuncId} {args : Array Operand} {tys : Array TypeId} {vals cv : List Value} (hop : deferAt ops i = some ({ callee := .value f, args, argTypes := tys }, ty, none)) (hf : oval l f = some (.func (.func fid) #[] cv.toArray)) (hv : ovals l args.toList = some vals)
    (next : Seq (ρ := none) P N ops Q ({ target := .fn (.func fid) cv.toArray, args := vals.toArray } :: ds) (i + 1) l I M) : Seq (ρ := none) P N ops Q ds i l I M := by
  obtain ⟨h1, h2⟩ := ovals_known hv
  unfold deferAt at hop
  cases ho : ops[i]? with
  | none => rw [ho] at hop; cases hop
  | some o =>
    rw [ho] at hop
    simp only at hop
    split at hop
    · rename_i c hc hdst
      simp only [Option.some.injEq, Prod.mk.injEq] at hop
      obtain ⟨rfl, rfl, hgd⟩ := hop
      intro a w hS hD hW
      have hlt : i < ops.size := (Array.getElem?_eq_some_iff.1 ho).1
      rw [range_step hlt]
      simp only [wpOpsIn, ho]
      have hw : Region.wanted o (yielded ops a.tmps) = true := by simp [Region.wanted, hgd]
      rw [if_pos hw]
      refine ⟨fun _ _ => trivial, ?_⟩
      have hargs : args.map a.eval = vals.toArray := by
        apply Array.ext'
        simp only [Array.toList_map]
        rw [← h2]
        refine List.map_congr_left fun x hx => ?_
        obtain ⟨v, hv'⟩ := h1 x hx
        rw [eval_of hS hv', rho_of hv']
      have hrun : (o.semAt (fen none).round a.eval).run P w = .ok (.defer { target := .fn (.func fid) cv.toArray, args := vals.toArray }) w := by
        show (Oper.semAt none a.eval o).run P w = _
        rw [Oper.semAt_none, execOp_at, hc]
        show (do pure (Next.defer (← resolve a.eval { callee := .value f, args, argTypes := tys } o.type)) : Sem Next).run P w = _
        unfold resolve
        simp only [hargs, eval_of hS hf, Deferred.ofValue]
        simp [Sem.run_bind, Result.andThen]
      rw [hrun]
      show wpOpsIn (fen none) 0 P ops Q _ ({ a with defers := _ :: a.defers }.put o.dst undef) w
      rw [hdst]
      exact next _ w ⟨hS.size, hS.get⟩ (by rw [← hD]; rfl) hW
    · cases hop
end
end Go.Sl
namespace Go.Sh
open Go Go.Sl

def plCells (p : List Int) : Array Value := (p.map encI).toArray
def encP (p : Place) : Value := .agg (plCells p.val)
theorem plCells_size (p : Place) : (plCells p.val).size = 10 := by simp [plCells, p.property]
theorem plCells_one (p : List Int) : ∀ u ∈ (plCells p).toList, oneCell u = true := fun u hu => by
  simp only [plCells, List.toList_toArray, List.mem_map] at hu
  obtain ⟨x, _, rfl⟩ := hu
  rfl
def flatP : List (Nat × SK) := (List.range 10).map fun i => (i, .i .i64)
theorem okC_pl (p : Place) : okC (plCells p.val) flatP = true := by
  rw [okC, List.all_eq_true]
  intro x hx
  obtain ⟨i, hi, rfl⟩ := List.mem_map.1 hx
  have hi := List.mem_range.1 hi
  have : i < p.val.length := by rw [p.property]; exact hi
  simp [plCells, this, encI, skV]
theorem eqC_pl (a b : Place) : eqC (plCells a.val) (plCells b.val) flatP = decide (a = b) := by
  have key : eqC (plCells a.val) (plCells b.val) flatP = true ↔ a = b := by
    constructor
    · intro h
      rw [eqC, List.all_eq_true] at h
      apply Subtype.ext
      refine List.ext_getElem (by rw [a.property, b.property]) fun i h1 h2 => ?_
      have := h (i, .i .i64) (List.mem_map.2 ⟨i, List.mem_range.2 (by rw [← a.property]; exact h1), rfl⟩)
      simpa [plCells, h1, h2, encI, scE] using this
    · rintro rfl
      rw [eqC, List.all_eq_true]
      intro x hx
      obtain ⟨i, hi, rfl⟩ := List.mem_map.1 hx
      have hi := List.mem_range.1 hi
      have : i < a.val.length := by rw [a.property]; exact hi
      simp [plCells, this, encI, scE]
  by_cases h : a = b
  · rw [decide_eq_true h]; exact key.2 h
  · rw [decide_eq_false h]
    cases h2 : eqC (plCells a.val) (plCells b.val) flatP with
    | false => rfl
    | true => exact absurd (key.1 h2) h
theorem keyOk_place {P : Program} {kt : TypeId} (h : flatT P 4 kt = some (10, flatP)) (hagg : tyAgg P kt = some true) : KeyOk P kt encP :=
  keyOk_flat h (by decide) hagg (fun p : Place => plCells p.val) plCells_size okC_pl eqC_pl

theorem setRow_put (p : List Int) (c i k : Nat) (h : 2 * c + 1 < p.length) : (setRow (plCells p) (0 + c * 2) [.int .i64 i, .int .i64 k]).toList = (plCells (putP p c i k)).toList := by
  simp only [setRow, plCells, putP]
  rw [show 0 + c * 2 = 2 * c by omega]
  simp [List.map_set, encI]

section
variable {P : Program} {N : Nat} {ops : Array Oper} {i : Nat} {l : Sl} {I : Imm} {R M : Seg} {ty : TypeId} {gd : Option (Nat × Bool)} {K : Sl → Imm → Seg → Prop} {d : Nat}
theorem stp_storePl {T S : TypeId} {x y : Operand} {p : List Int} {b c i' k' : Nat} {M' : Seg} (k : Nat) (hop : opAt ops N i = some (none, .store T x y, ty, gd)) (hg : gval ops l gd = some true)
    (hx : oval l x = some (.pointer (some ⟨b, 0 + c * 2, none⟩))) (hy : oval l y = some (.agg #[.int .i64 i', .int .i64 k'])) (hsz : tySize P T = some 2)
    (hk : M[k]? = some (b, Obj.cells (plCells p) S (0, 0))) (hc : 2 * c + 1 < p.length) (hM : M.set k (b, Obj.cells (plCells (putP p c i' k')) S (0, 0)) = M')
    (h : K l I M') : Stp P N ops i l I M K := by
  refine stp_store (cs := (plCells p).toList) (cs' := (plCells (putP p c i' k')).toList) (vs := [.int .i64 i', .int .i64 k']) (off := 0 + c * 2) (S := S) (M' := M') k hop hg hx hy hsz rfl rfl rfl (by simpa using hk) ?_ ?_ (by simpa using hM) h
  · simp only [List.length_cons, List.length_nil, Array.length_toList, plCells, List.size_toArray, List.length_map]; omega
  · have := setRow_put p c i' k' hc
    simpa using this
end

def YardR (E T : TypeId) (y : Nat) (v1 v2 v3 : Value) (Y : Yard) : Imm → Seg → Prop := fun I Mr =>
  ∃ ws Ms, Mr = (y, Obj.cells #[v1, v2, v3] T (0, 0)) :: Ms ∧ IsCars I v1 Y.cars ∧ IsInts I v2 Y.room ∧ Own E 1 valCell v3 ws Ms ∧ RowsV I ws Y.tracks
theorem placeOf_length (Y : Yard) : (placeOf Y).val.length = 10 := (placeOf Y).property
theorem metV_getD (p : Place) (m : Met) : (getKv p (metV m)).getD (.int .i64 0) = .int .i64 ((getM p m).getD 0 : Nat) := by
  rw [metV_get]; cases getM p m <;> rfl
theorem metV_isSome (p : Place) (m : Met) : (getKv p (metV m)).isSome = (getM p m).isSome := by
  rw [metV_get]; cases getM p m <;> rfl
theorem YardR.mono {E T : TypeId} {y : Nat} {v1 v2 v3 : Value} {Y : Yard} {I J : Imm} {M : Seg} (h : YardR E T y v1 v2 v3 Y I M) (le : I.le J) : YardR E T y v1 v2 v3 Y J M := by
  obtain ⟨ws, Ms, h1, h2, h3, h4, h5⟩ := h
  exact ⟨ws, Ms, h1, h2.mono le, h3.mono le, h4, h5.mono le⟩

def allP (ps : List (Yard → Bool)) (Y : Yard) : Bool := ps.all fun p => p Y
def noGoal : Yard → Bool := fun _ => false
def GoalsOk (P : Program) (E T : TypeId) (I : Imm) (A : Yard) (gs : List Value) (ps : List (Yard → Bool)) : Prop :=
  gs.length = ps.length ∧ ∀ i, i < gs.length → ∃ fid cv, gs.getD i undef = .func (.func fid) #[] (List.toArray cv) ∧ callable P fid = true ∧
    ∀ J y v1 v2 v3 Y ws Ms, I.le J → Kin A Y → IsCars J v1 Y.cars → IsInts J v2 Y.room → Own E 1 valCell v3 ws Ms → RowsV J ws Y.tracks → (∀ j, j < i → (ps.getD j noGoal) Y = true) →
      Ct P fid (.pointer (some ⟨y, 0, none⟩) :: cv).toArray J ((y, Obj.cells #[v1, v2, v3] T (0, 0)) :: Ms) (fun v I' M' => v = .bool ((ps.getD i noGoal) Y) ∧ M' = (y, Obj.cells #[v1, v2, v3] T (0, 0)) :: Ms)
theorem GoalsOk.mono {P : Program} {E T : TypeId} {I J : Imm} {A : Yard} {gs : List Value} {ps : List (Yard → Bool)} (h : GoalsOk P E T I A gs ps) (le : I.le J) : GoalsOk P E T J A gs ps :=
  ⟨h.1, fun i hi => by
    obtain ⟨fid, cv, e, hc, hct⟩ := h.2 i hi
    exact ⟨fid, cv, e, hc, fun K y v1 v2 v3 Y ws Ms hle => hct K y v1 v2 v3 Y ws Ms (le.trans hle)⟩⟩
theorem allP_done {ps : List (Yard → Bool)} {Y : Yard} (h : ∀ j, j < ps.length → (ps.getD j noGoal) Y = true) : allP ps Y = true := by
  rw [allP, List.all_eq_true]
  intro p hp
  obtain ⟨i, hi, rfl⟩ := List.mem_iff_getElem.1 hp
  have := h i hi
  simpa [List.getD, hi] using this
theorem allP_miss {ps : List (Yard → Bool)} {Y : Yard} {k : Nat} (hk : k < ps.length) (h : (ps.getD k noGoal) Y = false) : allP ps Y = false := by
  rw [allP, List.all_eq_false]
  refine ⟨ps.getD k noGoal, getD_mem hk, by simp [h]⟩
theorem before_snoc {ps : List (Yard → Bool)} {Y : Yard} {k : Nat} (h : ∀ j, j < k → (ps.getD j noGoal) Y = true) (hk : (ps.getD k noGoal) Y = true) : ∀ j, j < k + 1 → (ps.getD j noGoal) Y = true := fun j hj => by
  rcases Nat.lt_or_ge j k with h1 | h1
  · exact h j h1
  · have : j = k := by omega
    subst this; exact hk

def orderedP (order : List Int) (Y : Yard) : Bool := decide (Y.tracks.getD 0 [] = order)
theorem Kin.good {A Y : Yard} (f : Fine A) (k : Kin A Y) : GoodY Y := by
  refine ⟨fun t ht c hc => ?_, by rw [k.cars]; exact f.good.small, by rw [k.room, k.len]; exact f.good.len, by rw [k.perm.length_eq]; exact f.good.sum⟩
  rw [k.cars]
  exact flatten_ok f.ok c (k.perm.mem_iff.1 (List.mem_flatten.2 ⟨t, ht, hc⟩))
theorem Kin.len3 {A Y : Yard} (f : Fine A) (k : Kin A Y) : Y.tracks.length ≤ 3 := by rw [k.len, f.len]; exact f.room3
theorem Kin.cars5 {A Y : Yard} (f : Fine A) (k : Kin A Y) : Y.cars.length ≤ 5 := by rw [k.cars]; exact f.cars
theorem Kin.pos {A Y : Yard} (f : Fine A) (k : Kin A Y) : 0 < Y.tracks.length := by rw [k.len, f.len]; exact f.room1
theorem back_ok {Y : Yard} {s : Shift} (h : mayErr Y s = 0) : (0 ≤ (backShift s).frm ∧ (backShift s).frm < (moved Y s).tracks.length) ∧ (0 ≤ (backShift s).to ∧ (backShift s).to < (moved Y s).tracks.length) ∧
    (0 ≤ (backShift s).many ∧ (backShift s).many ≤ ((moved Y s).tracks.getD (backShift s).frm.toNat []).length) := by
  have m := mayOk h
  have hf := m.frm; have ht := m.to; have hne := m.ne; have hm := m.many
  have hne' : s.frm.toNat ≠ s.to.toNat := by omega
  refine ⟨by simpa [backShift, moved] using ht, by simpa [backShift, moved] using hf, by simp only [backShift]; omega, ?_⟩
  simp only [backShift, moved, List.getD]
  rw [List.getElem?_set_ne hne', List.getElem?_set_self (by omega)]
  simp only [Option.getD_some, List.length_append, List.length_drop, cutAt, trk]
  simp only [List.getD] at hm ⊢
  omega
theorem none_of {α : Type} {o : Option α} (h : o.isSome = false) : o = none := by cases o <;> first | rfl | cases h
theorem some_of {α : Type} {o : Option α} (h : o.isSome = true) : ∃ l, o = some l := by cases o <;> first | cases h; done | exact ⟨_, rfl⟩

theorem drop_of_prefix {xs ds : List Shift} {s : Shift} (h : xs ++ [s] <+: ds) : ds.drop xs.length = s :: ds.drop (xs ++ [s]).length := by
  obtain ⟨r, rfl⟩ := h
  simp
theorem mem_of_prefix {xs ds : List Shift} {s : Shift} (h : xs ++ [s] <+: ds) : s ∈ ds := h.subset (by simp)
theorem try_next {f : Shift → Met → Option (List Shift) × Met} {ds xs : List Shift} {s : Shift} {m : Met} (h : xs ++ [s] <+: ds) (hf : (f s m).1 = none) : tryAll f (ds.drop xs.length) m = tryAll f (ds.drop (xs ++ [s]).length) (f s m).2 := by
  rw [drop_of_prefix h]
  simp only [tryAll]
  cases hr : f s m with
  | mk o m' => rw [hr] at hf; simp only at hf; subst hf; rfl
theorem try_hit {f : Shift → Met → Option (List Shift) × Met} {ds xs : List Shift} {s : Shift} {m : Met} {l : List Shift} (h : xs ++ [s] <+: ds) (hf : (f s m).1 = some l) : tryAll f (ds.drop xs.length) m = (some (s :: l), (f s m).2) := by
  rw [drop_of_prefix h]
  simp only [tryAll]
  cases hr : f s m with
  | mk o m' => rw [hr] at hf; simp only at hf; subst hf; rfl
theorem try_done {f : Shift → Met → Option (List Shift) × Met} {ds : List Shift} {m : Met} : tryAll f (ds.drop ds.length) m = (none, m) := by
  rw [drop_done (Nat.le_refl _)]; rfl
theorem search_goal {g : Yard → Bool} {d : Nat} {Y : Yard} {m : Met} (h : g Y = true) : searchM g d Y m = (some [], m) := by
  cases d <;> simp [searchM, h]
theorem search_zero {g : Yard → Bool} {Y : Yard} {m : Met} (h : g Y = false) : searchM g 0 Y m = (none, m) := by simp [searchM, h]
theorem search_stop {g : Yard → Bool} {d : Nat} {Y : Yard} {m : Met} (h : g Y = false) (hd : d = 0 ∨ (getM (placeOf Y) m).isSome = true ∧ d ≤ (getM (placeOf Y) m).getD 0) : searchM g d Y m = (none, m) := by
  cases d with
  | zero => exact search_zero h
  | succ d =>
    rcases hd with hd | ⟨h1, h2⟩
    · cases hd
    · simp only [searchM, h, Bool.false_eq_true, if_false]
      rw [if_pos]
      cases hg : getM (placeOf Y) m with
      | none => rw [hg] at h1; cases h1
      | some n => rw [hg] at h2; simpa [stopped] using h2
theorem search_go {g : Yard → Bool} {d : Nat} {Y : Yard} {m : Met} (h : g Y = false) (hd : ¬ ((getM (placeOf Y) m).isSome = true ∧ d + 1 ≤ (getM (placeOf Y) m).getD 0)) :
    searchM g (d + 1) Y m = tryAll (fun s met => searchM g d (moved Y s) met) ((draws Y).drop ([] : List Shift).length) (updM (placeOf Y) (d + 1) m) := by
  simp only [searchM, h, Bool.false_eq_true, if_false, List.length_nil, List.drop_zero]
  rw [if_neg]
  cases hg : getM (placeOf Y) m with
  | none => simp [stopped]
  | some n =>
    rw [hg] at hd
    simpa [stopped] using hd

theorem tryAll_len {f : Shift → Met → Option (List Shift) × Met} {d : Nat} (h : ∀ s m, ((f s m).1.getD []).length ≤ d) : ∀ (ss : List Shift) (m : Met), ((tryAll f ss m).1.getD []).length ≤ d + 1 := by
  intro ss
  induction ss with
  | nil => intro m; simp [tryAll]
  | cons s r ih =>
    intro m
    simp only [tryAll]
    have := h s m
    cases hr : f s m with
    | mk o m' =>
      rw [hr] at this
      cases o with
      | none => exact ih m'
      | some l => simpa using this
theorem search_len (g : Yard → Bool) : ∀ (d : Nat) (Y : Yard) (m : Met), ((searchM g d Y m).1.getD []).length ≤ d := by
  intro d
  induction d with
  | zero => intro Y m; simp only [searchM]; split <;> simp
  | succ d ih =>
    intro Y m
    simp only [searchM]
    split
    · simp
    · split
      · simp
      · exact tryAll_len (fun s m => ih _ m) _ _
def stopB (d : Nat) (o : Option Nat) : Bool := (cmp .eql (↑d) (0)) || (o.isSome && cmp .geq (↑(o.getD 0)) (↑d))
theorem search_stop2 {g : Yard → Bool} {d : Nat} {Y : Yard} {m : Met} (h : g Y = false) (hb : stopB d (getM (placeOf Y) m) = true) : searchM g d Y m = (none, m) := by
  refine search_stop h ?_
  unfold stopB at hb
  rcases or_t hb with h1 | h1
  · exact .inl (by have := eql_t h1; omega)
  · obtain ⟨h2, h3⟩ := and_t h1
    exact .inr ⟨h2, by have := geq_t h3; omega⟩
theorem search_go_of {d : Nat} {o : Option Nat} (hb : stopB d o = false) : d ≠ 0 ∧ ¬ (o.isSome = true ∧ d ≤ o.getD 0) := by
  unfold stopB at hb
  obtain ⟨h1, h2⟩ := or_f hb
  refine ⟨by have := eql_f h1; omega, fun ⟨h3, h4⟩ => ?_⟩
  rw [h3, Bool.true_and] at h2
  have := geq_f h2
  omega
theorem search_go2 {g : Yard → Bool} {d e : Nat} {Y : Yard} {m : Met} (h : g Y = false) (hde : d = e + 1) (hd : ¬ ((getM (placeOf Y) m).isSome = true ∧ d ≤ (getM (placeOf Y) m).getD 0)) :
    searchM g d Y m = tryAll (fun s met => searchM g e (moved Y s) met) ((draws Y).drop ([] : List Shift).length) (updM (placeOf Y) (e + 1) m) := by
  subst hde; exact search_go h hd

theorem search_plain {Y : Yard} (f : Fine Y) {g : Yard → Bool} {d : Nat} (h : ∀ m, m < d → plain g m Y = none) : (searchM g d Y []).1 = plain g d Y :=
  (searchM_ok f d Y [] (Kin.refl Y) (fun Z _ n hn => by cases hn) h).1
theorem findSome_at {α β : Type} {f : α → Option β} : ∀ (l : List α) (i : Nat) (hi : i < l.length), (∀ j (hj : j < i), f (l[j]'(by omega)) = none) → (f l[i]).isSome = true → l.findSome? f = f l[i] := by
  intro l
  induction l with
  | nil => intro i hi; simp at hi
  | cons x l ih =>
    intro i hi h hs
    cases i with
    | zero =>
      simp only [List.getElem_cons_zero] at hs ⊢
      rw [List.findSome?_cons]
      cases hf : f x with
      | none => rw [hf] at hs; cases hs
      | some y => rfl
    | succ i =>
      have h0 := h 0 (by omega)
      simp only [List.getElem_cons_zero] at h0
      rw [List.findSome?_cons, h0]
      simp only [List.getElem_cons_succ] at hs ⊢
      exact ih i (by simpa using hi) (fun j hj => by have := h (j + 1) (by omega); simpa using this) hs
theorem fewest_hit {g : Yard → Bool} {Y : Yard} {d : Nat} (hd : d < 5) (h : ∀ m, m < d → plain g m Y = none) (hp : (plain g d Y).isSome = true) : fewestM g Y = plain g d Y := by
  have := findSome_at (f := fun d => plain g d Y) (List.range 5) d (by simpa using hd) (fun j hj => by simpa using h j hj) (by simpa using hp)
  rw [fewestM, this]; simp
theorem fewest_none {g : Yard → Bool} {Y : Yard} (h : ∀ m, m < 5 → plain g m Y = none) : fewestM g Y = none := by
  rw [fewestM, List.findSome?_eq_none_iff]
  intro d hd
  exact h d (List.mem_range.1 hd)
theorem below_next {g : Yard → Bool} {Y : Yard} {d : Nat} (h : ∀ m, m < d → plain g m Y = none) (hd : plain g d Y = none) : ∀ m, m < d + 1 → plain g m Y = none := fun m hm => by
  rcases Nat.lt_or_ge m d with h1 | h1
  · exact h m h1
  · have : m = d := by omega
    subst this; exact hd
def errOf {α : Type} (o : Option α) : Int := if o.isSome then 0 else 11
theorem errOf_some {α : Type} {o : Option α} (h : o.isSome = true) : errOf o = 0 := by simp [errOf, h]
theorem errOf_is {α : Type} {o : Option α} (h : errOf o = 0) : o.isSome = true := by
  unfold errOf at h; split at h
  · assumption
  · cases h
theorem errOf_not {α : Type} {o : Option α} (h : errOf o ≠ 0) : o.isSome = false := by
  cases hs : o.isSome with
  | false => rfl
  | true => exact absurd (by simp [errOf, hs]) h
theorem errOf_none {α : Type} {o : Option α} (h : o = none) : errOf o = 11 := by simp [errOf, h]

def goO (n : Nat) : List Int → List Int → Int
  | _, [] => 0
  | pre, c :: r => if inB c 0 (↑n - 1) then (if c ∈ pre then 4 else goO n (pre ++ [c]) r) else 3
def orderErr (Y : Yard) (order : List Int) : Int := if checkErr Y = 0 then goO Y.cars.length [] order else checkErr Y
theorem orderErr_bad {Y : Yard} {o : List Int} (h : checkErr Y ≠ 0) : orderErr Y o = checkErr Y := if_neg h
theorem orderErr_ok {Y : Yard} {o : List Int} (h : checkErr Y = 0) : orderErr Y o = goO Y.cars.length (o.take 0) (o.drop 0) := if_pos h
theorem goO_unknown {n k : Nat} {o : List Int} (hk : k < o.length) (h : inB (o.getD k 0) 0 (↑n - 1) = false) : goO n (o.take k) (o.drop k) = 3 := by
  rw [drop_cons (d := 0) hk]; simp only [goO]; rw [if_neg (by rw [h]; simp)]
theorem goO_twice {n k : Nat} {o : List Int} (hk : k < o.length) (h : inB (o.getD k 0) 0 (↑n - 1) = true) (hm : o.getD k 0 ∈ o.take k) : goO n (o.take k) (o.drop k) = 4 := by
  rw [drop_cons (d := 0) hk]; simp only [goO]; rw [if_pos h, if_pos hm]
theorem goO_next {n k : Nat} {o : List Int} (hk : k < o.length) (h : inB (o.getD k 0) 0 (↑n - 1) = true) (hm : ¬ o.getD k 0 ∈ o.take k) : goO n (o.take k) (o.drop k) = goO n (o.take (k + 1)) (o.drop (k + 1)) := by
  rw [drop_cons (d := 0) hk, take_snoc (d := 0) hk]; simp only [goO]; rw [if_pos h, if_neg hm]
theorem goO_done {n k : Nat} {o : List Int} (hk : o.length ≤ k) : goO n (o.take k) (o.drop k) = 0 := by rw [drop_done hk]; rfl
def fewestE (Y : Yard) (order : List Int) : List Shift × Int :=
  if orderErr Y order = 0 then ((fewestM (allP [orderedP order]) Y).getD [], errOf (fewestM (allP [orderedP order]) Y)) else ([], orderErr Y order)
theorem fewestE_bad {Y : Yard} {o : List Int} (h : orderErr Y o ≠ 0) : fewestE Y o = ([], orderErr Y o) := if_neg h
theorem fewestE_ok {Y : Yard} {o : List Int} (h : orderErr Y o = 0) : fewestE Y o = ((fewestM (allP [orderedP o]) Y).getD [], errOf (fewestM (allP [orderedP o]) Y)) := if_pos h
theorem orderErr_valid {Y : Yard} {o : List Int} (h : orderErr Y o = 0) : Valid Y := by
  unfold orderErr at h
  split at h
  · assumption
  · exact h

theorem Asc.nodup {l : List Int} (h : Asc l) : l.Nodup := h.imp fun hab => by omega
def wide (Y : Yard) (i : Nat) : Yard := ⟨Y.cars, Y.room.set i 20, Y.tracks⟩
theorem wide_fine {Y : Yard} (f : Fine Y) (i : Nat) : Fine (wide Y i) := by
  refine ⟨f.cars, f.carOk, by simpa [wide] using f.room1, by simpa [wide] using f.room3, fun n hn => ?_, by simpa [wide] using f.len, f.ok, f.nodup, fun k hk => ?_, f.all, f.groups⟩
  · rcases List.mem_or_eq_of_mem_set hn with h | e
    · exact f.roomOk n h
    · subst e; rfl
  · have h1 := f.fits k hk
    have hk' : k < Y.room.length := by rw [← f.len]; exact hk
    have h2 := inB_t (f.roomOk _ (getD_mem (d := 0) hk'))
    simp only [wide, List.getD] at h1 h2 ⊢
    by_cases e : i = k
    · subst e
      rw [List.getElem?_set_self hk']
      simp only [Option.getD_some]
      omega
    · rw [List.getElem?_set_ne e]; exact h1
def lacksFrom (Y : Yard) (o : List Int) (i : Nat) : List Int := ((List.range' i (Y.room.length - i)).filter fun i => (fewestM (allP [orderedP o]) (wide Y i)).isSome).map fun i : Nat => (i : Int)
theorem lacks_yes {Y : Yard} {o : List Int} {i : Nat} (hi : i < Y.room.length) (h : (fewestM (allP [orderedP o]) (wide Y i)).isSome = true) : lacksFrom Y o i = (i : Int) :: lacksFrom Y o (i + 1) := by
  unfold lacksFrom; rw [range_cons hi]; simp [h]
theorem lacks_no {Y : Yard} {o : List Int} {i : Nat} (hi : i < Y.room.length) (h : (fewestM (allP [orderedP o]) (wide Y i)).isSome = false) : lacksFrom Y o i = lacksFrom Y o (i + 1) := by
  unfold lacksFrom; rw [range_cons hi]; simp [h]
theorem lacks_done {Y : Yard} {o : List Int} {i : Nat} (hi : Y.room.length ≤ i) : lacksFrom Y o i = [] := by
  unfold lacksFrom; rw [show Y.room.length - i = 0 by omega]; rfl
theorem lacks_le (Y : Yard) (o : List Int) (i : Nat) : (lacksFrom Y o i).length ≤ Y.room.length := by
  unfold lacksFrom
  rw [List.length_map]
  refine Nat.le_trans (List.length_filter_le _ _) ?_
  rw [List.length_range']; omega
def lacksE (Y : Yard) (o : List Int) : List Int × Int := if (fewestE Y o).2 = 11 then (if (lacksFrom Y o 1).length = 0 then ([], 11) else (lacksFrom Y o 1, 0)) else ([], (fewestE Y o).2)
theorem lacksE_bad {Y : Yard} {o : List Int} (h : (fewestE Y o).2 ≠ 11) : lacksE Y o = ([], (fewestE Y o).2) := if_neg h
theorem lacksE_none {Y : Yard} {o : List Int} (h : (fewestE Y o).2 = 11) (h2 : (lacksFrom Y o 1).length = 0) : lacksE Y o = ([], 11) := (if_pos h).trans (if_pos h2)
theorem lacksE_some {Y : Yard} {o : List Int} (h : (fewestE Y o).2 = 11) (h2 : (lacksFrom Y o 1).length ≠ 0) : lacksE Y o = (lacksFrom Y o 1, 0) := (if_pos h).trans (if_neg h2)
theorem goTrack_11 {n : Nat} {fin : List Int → Int} (hf : ∀ m, fin m ≠ 11) : ∀ (t met : List Int), goTrack n fin t met ≠ 11 := by
  intro t
  induction t with
  | nil => intro met; exact hf met
  | cons c r ih => intro met; simp only [goTrack]; split <;> first | (split <;> first | decide | exact ih _) | decide
theorem goG_11 {cs : List Car} {t : List Int} {fin : List Int → Int} (hf : ∀ m, fin m ≠ 11) : ∀ (l : List Int) (k : Nat) (met : List Int), goG cs t fin k l met ≠ 11 := by
  intro l
  induction l with
  | nil => intro k met; exact hf met
  | cons c r ih => intro k met; simp only [goG]; split <;> first | decide | exact ih _ _
theorem goGs_11 {cs : List Car} : ∀ (ts : List (List Int)) (met : List Int), goGs cs ts met ≠ 11 := by
  intro ts
  induction ts with
  | nil => intro met; simp [goGs]
  | cons t r ih => intro met; exact goG_11 ih _ _ _
theorem goTracks_11 {cs : List Car} {fin : List Int → Int} (hf : ∀ m, fin m ≠ 11) : ∀ (ts : List (List Int)) (rm met : List Int), goTracks cs fin ts rm met ≠ 11 := by
  intro ts
  induction ts with
  | nil => intro rm met; exact hf met
  | cons t r ih => intro rm met; simp only [goTracks]; exact goTrack_11 (fun m => by split <;> first | decide | exact ih _ _) _ _
theorem checkErr_11 (Y : Yard) : checkErr Y ≠ 11 := by
  have h : ∀ m : List Int, (if m.length < Y.cars.length then 7 else groupsErr Y) ≠ 11 := fun m => by split <;> first | decide | exact goGs_11 _ _
  unfold checkErr tracksErr
  split
  · decide
  · split
    · split
      · decide
      · split
        · decide
        · split
          · split
            · exact goTracks_11 h _ _ _
            · decide
          · decide
    · decide
theorem goO_11 {n : Nat} : ∀ (o pre : List Int), goO n pre o ≠ 11 := by
  intro o
  induction o with
  | nil => intro p; simp [goO]
  | cons c r ih => intro p; simp only [goO]; split <;> first | (split <;> first | decide | exact ih _) | decide
theorem fewest_11 {Y : Yard} {o : List Int} (h : (fewestE Y o).2 = 11) : orderErr Y o = 0 := by
  by_cases h0 : orderErr Y o = 0
  · exact h0
  · rw [fewestE_bad h0] at h
    exfalso
    simp only [orderErr] at h
    split at h
    · exact goO_11 _ _ h
    · exact checkErr_11 Y h

theorem moved_back {Y : Yard} {s : Shift} (h : mayErr Y s = 0) : moved (moved Y s) (backShift s) = Y := by
  have m := mayOk h
  have hf := m.frm; have ht := m.to; have hne := m.ne; have hm := m.many
  have hne' : s.to.toNat ≠ s.frm.toNat := by omega
  rcases Y with ⟨cs, rm, ts⟩
  simp only at hf ht hm
  unfold moved backShift
  simp only [Yard.mk.injEq, true_and]
  generalize hA : ts.getD s.frm.toNat [] = A at hm
  generalize hB : ts.getD s.to.toNat [] = B
  have hA2 : trk ⟨cs, rm, ts⟩ s.frm = A := hA
  have hB2 : trk ⟨cs, rm, ts⟩ s.to = B := hB
  have hn : (cutAt ⟨cs, rm, ts⟩ s).toNat = A.length - s.many.toNat := by simp only [cutAt, hA2]; omega
  rw [hA2, hB2, hn]
  have g1 : ∀ (X Z : List Int), trk ⟨cs, rm, (ts.set s.to.toNat X).set s.frm.toNat Z⟩ s.to = X := fun X Z => by
    simp only [trk, List.getD]
    rw [List.getElem?_set_ne (Ne.symm hne'), List.getElem?_set_self (by omega)]; rfl
  have g2 : ∀ (X Z : List Int), trk ⟨cs, rm, (ts.set s.to.toNat X).set s.frm.toNat Z⟩ s.frm = Z := fun X Z => by
    simp only [trk, List.getD]
    rw [List.getElem?_set_self (by rw [List.length_set]; omega)]; rfl
  have hc : (cutAt ⟨cs, rm, (ts.set s.to.toNat (B ++ A.drop (A.length - s.many.toNat))).set s.frm.toNat (A.take (A.length - s.many.toNat))⟩ ⟨s.to, s.frm, s.many⟩).toNat = B.length := by
    simp only [cutAt, g1, List.length_append, List.length_drop]; omega
  rw [g1, g2, hc]
  simp only [List.drop_left, List.take_left, List.take_append_drop]
  refine list_eq (d := []) (by simp) fun j hj => ?_
  simp only [List.length_set] at hj
  simp only [List.getD]
  by_cases h1 : s.to.toNat = j
  · subst h1
    rw [List.getElem?_set_self (by simpa using hj)]
    simp only [List.getD] at hB
    simpa using hB.symm
  · rw [List.getElem?_set_ne h1]
    by_cases h2 : s.frm.toNat = j
    · subst h2
      rw [List.getElem?_set_self (by simpa using hj)]
      simp only [List.getD] at hA
      simpa using hA.symm
    · rw [List.getElem?_set_ne h2, List.getElem?_set_ne h2, List.getElem?_set_ne h1]

def encS (s : Shift) : List Value := [.agg #[.int .i64 s.frm, .int .i64 s.to, .int .i64 s.many]]
end Go.Sh
namespace Go.Proofs.YtcaocbhbofejnaaGreatDoor
open Go Go.Sl Go.Sh
set_option maxRecDepth 100000
theorem isNI_err (e : Int) : isNI (errV e) = some (decide (e = 0)) := by unfold errV; by_cases h : e = 0 <;> simp [h, isNI]
noncomputable def c_where (p : List Nat) : Code := sub (bodyOf Tryz.f84) p
theorem where_ct (I : Imm) (y : Nat) (y_1 y_2 y_3 : Value) (y_ws : List Value) (y_Ms : Seg) (Y : Yard) (y_1f : IsCars I y_1 Y.cars) (y_2f : IsInts I y_2 Y.room) (y_3h : Own 23 1 valCell y_3 y_ws y_Ms) (y_3r : RowsV I y_ws Y.tracks) (ho : OkAll Y.cars Y.tracks) (h5 : Y.cars.length ≤ 5) (h3 : Y.tracks.length ≤ 1000000) : Ct Tryz.prog 84 #[.pointer (some ⟨y, 0, none⟩)] I ([(y, Obj.cells #[y_1, y_2, y_3] 110 (0, 0))] ++ (y_Ms)) (fun v I' M' => v = .agg (plCells (placeOf Y).val) ∧ M' = [(y, Obj.cells #[y_1, y_2, y_3] 110 (0, 0))] ++ (y_Ms)) := by
 have b8 := y_1f;obtain ⟨a2, a3, c5, c8, b7, c6, c7, c9⟩ := id b8;subst b7;have c0 := y_2f;obtain ⟨a4, a5, d0, d3, b9, d1, d2, d4⟩ := id c0;subst b9;obtain ⟨a0, a1, c1, d5⟩ := y_3h.shape; subst c1;have a6 := y_3r.1
 try simp only [LS, LA, LC, LN, LK] at a6
 refine fr (args := [_]) (N := 34) Tryz.func84 (fun F => ?_);show Run _ _ (c_where []) _ _ [(0, .pointer (some ⟨y, 0, none⟩))] _ _;refine rnm (rqr ?_);refine sS (sal 2 113 #[.int .i64 (0), .int .i64 (0), .int .i64 (0), .int .i64 (0), .int .i64 (0), .int .i64 (0), .int .i64 (0), .int .i64 (0), .int .i64 (0), .int .i64 (0)] (fun b1 => ?_));refine sn ?_;refine sS (sal 3 113 #[.int .i64 (0), .int .i64 (0), .int .i64 (0), .int .i64 (0), .int .i64 (0), .int .i64 (0), .int .i64 (0), .int .i64 (0), .int .i64 (0), .int .i64 (0)] (fun b3 => ?_));refine se (rq (rqr ?_));refine sp 4 [(11, .pointer (some ⟨y, 2, none⟩))] ?_;refine sd (dlb 12 2 2 y (.slice a0 y_ws.length a1)) ?_;refine sp 2 [(14, .int .i64 (0)), (13, .int .i64 (↑(y_ws.length)))] ?_;refine se (rb 0 ?_);refine rl (fun mz a w => ∃ k : Nat, ∃ pl : List Int, (k ≤ Y.tracks.length) ∧ ((placeOf Y).val = goP k (Y.tracks.drop k) pl) ∧ (pl.length = 10) ∧ Slots 34 [(14, .int .i64 ↑k), (2, .pointer (some ⟨b1, 0, none⟩)), (3, .pointer (some ⟨b3, 0, none⟩)), (12, .slice a0 y_ws.length a1), (13, .int .i64 (↑(y_ws.length)))] a ∧ a.defers = [] ∧ St I ((b3, Obj.cells (plCells pl) 113 (0, 0)) :: (b1, Obj.cells #[.int .i64 (0), .int .i64 (0), .int .i64 (0), .int .i64 (0), .int .i64 (0), .int .i64 (0), .int .i64 (0), .int .i64 (0), .int .i64 (0), .int .i64 (0)] 113 (0, 0)) :: (y, Obj.cells #[.slice a2 Y.cars.length a3, .slice a4 Y.room.length a5, .slice a0 y_ws.length a1] 110 (0, 0)) :: (y_Ms ++ F)) w ∧ mz = Y.tracks.length - k) ?_ ?_
 ·intro a w hS hD hW;exact ⟨_, 0, zero10, Nat.zero_le _, rfl, rfl, hS.sub (.cons 14 rfl (.cons 2 rfl (.cons 3 rfl (.cons 12 rfl (.cons 13 rfl (.nil _)))))), hD, hW, rfl⟩
 rintro mz a w ⟨k, pl, hk, hp, d6, hS, hD, hW, rfl⟩
 refine run_at hS hD hW ?_;clear hS hD hW a w;refine rqr ?_;refine sp 1 [(15, .bool (cmp .lss (↑k) (↑(y_ws.length))))] ?_;refine se (rq ?_);refine rc 15 rfl (fun h1 => ?_) (fun h1 => ?_)
 ·
  have c2 := h1;have h1 := lss_t h1;refine rskip (pst_next (rq (rb 1 (rqr ?_))));refine sp 1 [(16, .int .i64 (↑k))] ?_;obtain ⟨e1, b2⟩ := y_3h.row undef;refine sd (di 17 1 (k) b2.addr) ?_;have b5 := y_3r.2 (k) (by omega);obtain ⟨a8, a9, d7, e0, b4, d8, d9, b6⟩ := id b5;rw [b4] at b5;refine sd (det_eq (dl 18 (b2.get (k) (by omega) 0 (by decide) _ _ (fun x hx => by simp [hx]))) b4) ?_;refine sp 2 [(5, .slice a8 (Y.tracks.getD (k) []).length a9), (4, .int .i64 (↑k))] ?_;refine sn ?_;refine sp 3 [(21, .int .i64 (0)), (20, .int .i64 (↑((Y.tracks.getD (k) []).length))), (19, .slice a8 (Y.tracks.getD (k) []).length a9)] ?_;refine se (rb 2 ?_);refine rl (fun mz a w => ∃ j : Nat, ∃ a7 : List Int, (j ≤ (Y.tracks.getD (k) []).length) ∧ ((placeOf Y).val = goP (k + 1) (Y.tracks.drop (k + 1)) (goPT k j ((Y.tracks.getD (k) []).drop j) a7)) ∧ (a7.length = 10) ∧ Slots 34 [(21, .int .i64 ↑j), (2, .pointer (some ⟨b1, 0, none⟩)), (3, .pointer (some ⟨b3, 0, none⟩)), (4, .int .i64 (↑k)), (12, .slice a0 y_ws.length a1), (13, .int .i64 (↑(y_ws.length))), (14, .int .i64 (↑k)), (19, .slice a8 (Y.tracks.getD (k) []).length a9), (20, .int .i64 (↑((Y.tracks.getD (k) []).length)))] a ∧ a.defers = [] ∧ St I ((b3, Obj.cells (plCells a7) 113 (0, 0)) :: (b1, Obj.cells #[.int .i64 (0), .int .i64 (0), .int .i64 (0), .int .i64 (0), .int .i64 (0), .int .i64 (0), .int .i64 (0), .int .i64 (0), .int .i64 (0), .int .i64 (0)] 113 (0, 0)) :: (y, Obj.cells #[.slice a2 Y.cars.length a3, .slice a4 Y.room.length a5, .slice a0 y_ws.length a1] 110 (0, 0)) :: (y_Ms ++ F)) w ∧ mz = (Y.tracks.getD (k) []).length - j) ?_ ?_
  ·intro a w hS hD hW;exact ⟨_, 0, pl, Nat.zero_le _, hp.trans (goP_step (by omega)), d6, hS.sub (.cons 21 rfl (.cons 2 rfl (.cons 3 rfl (.cons 4 rfl (.cons 12 rfl (.cons 13 rfl (.cons 14 rfl (.cons 19 rfl (.cons 20 rfl (.nil _)))))))))), hD, hW, rfl⟩
  rintro mz a w ⟨j, a7, hj, c4, b0, hS, hD, hW, rfl⟩
  refine run_at hS hD hW ?_;clear hS hD hW a w;refine rqr ?_;refine sp 1 [(22, .bool (cmp .lss (↑j) (↑((Y.tracks.getD (k) []).length))))] ?_;refine se (rq ?_);refine rc 22 rfl (fun h2 => ?_) (fun h2 => ?_)
  ·
   have c3 := h2;have h2 := lss_t h2;refine rskip (pst_next (rq (rb 3 (rqr ?_))));refine sp 1 [(23, .int .i64 (↑j))] ?_;refine sd (di 24 1 (j) b6.addr) ?_;refine sd (dl 25 (ints_get b6 (j) (by omega))) ?_;refine sp 2 [(7, .int .i64 ((Y.tracks.getD (k) []).getD (j) 0)), (6, .int .i64 (↑j))] ?_;refine se (rr ?_);have hc := (ho.at k (by omega)).at j (by omega);obtain ⟨c, hcn⟩ : ∃ c : Nat, (Y.tracks.getD (k) []).getD (j) 0 = ↑c := ⟨((Y.tracks.getD (k) []).getD (j) 0).toNat, by omega⟩;refine sp 1 [(26, .int .i64 ((Y.tracks.getD (k) []).getD (j) 0))] ?_;refine seq_re 26 rfl (show (.int .i64 ((Y.tracks.getD (k) []).getD (j) 0) : Value) = .int .i64 (↑c) from congrArg (Value.int .i64) hcn) ?_;refine sp 3 [(29, .agg #[.int .i64 (↑k), .int .i64 (↑j)])] ?_;refine sd (det_indexArrN (j := c) (n := 5) (x := (.tmp 3)) (y := (.tmp 26)) (T := 113) (e := 111) (sz := 2) (d := 30) (ty := 0) (gd := none) (by kernel_rfl) rfl (by kernel_rfl) (by kernel_rfl) rfl rfl (by omega)) ?_;refine sS (stp_storePl (T := 111) (x := (.tmp 30)) (y := (.tmp 29)) (p := a7) (c := c) (M' := ((b3, Obj.cells (plCells (putP a7 c k j)) 113 (0, 0)) :: (b1, Obj.cells #[.int .i64 (0), .int .i64 (0), .int .i64 (0), .int .i64 (0), .int .i64 (0), .int .i64 (0), .int .i64 (0), .int .i64 (0), .int .i64 (0), .int .i64 (0)] 113 (0, 0)) :: (y, Obj.cells #[.slice a2 Y.cars.length a3, .slice a4 Y.room.length a5, .slice a0 y_ws.length a1] 110 (0, 0)) :: (y_Ms ++ F))) 0 (ty := 0) (gd := none) (by kernel_rfl) rfl rfl rfl (by kernel_rfl) rfl (by omega) rfl ?_);refine ee (pst_normal_block (pst_next (rr ?_)));refine sd (da 31 (↑j) (1)) ?_;refine sp 1 [(21, .int .i64 (↑j + 1))] ?_;refine ee ?_;refine pst_back ((Y.tracks.getD (k) []).length - (j+1)) (by omega) ?_;intro a w hS hD hW;exact ⟨j+1, (putP a7 c k j), by omega, c4.trans (by rw [goPT_step (by omega), hcn, Int.toNat_natCast]), by rw [putP_length]; exact b0, hS.sub (.consE 21 rfl rfl (.cons 2 rfl (.cons 3 rfl (.cons 4 rfl (.cons 12 rfl (.cons 13 rfl (.cons 14 rfl (.cons 19 rfl (.cons 20 rfl (.nil _)))))))))), hD, hW, rfl⟩
  have c3 := h2;have h2 := lss_f h2;refine rexit 2 ?_;refine (pst_exit_pass (pst_exit_pass (pst_exit_block ?_)));refine pst_normal_block (pst_next (rr ?_));refine sd (da 32 (↑k) (1)) ?_;refine sp 1 [(14, .int .i64 (↑k + 1))] ?_;refine ee ?_;refine pst_back (Y.tracks.length - (k+1)) (by omega) ?_;intro a w hS hD hW;exact ⟨k+1, a7, by omega, c4.trans (by rw [goPT_done (by omega)]), b0, hS.sub (.consE 14 rfl rfl (.cons 2 rfl (.cons 3 rfl (.cons 12 rfl (.cons 13 rfl (.nil _)))))), hD, hW, rfl⟩
 have c2 := h1;have h1 := lss_f h1;refine rexit 0 ?_;refine (pst_exit_pass (pst_exit_pass (pst_exit_block ?_)));refine pst_next (rqr ?_);refine sd (det_loadW (x := (.tmp 3)) (T := 113) (n := 10) (d := 33) (ty := 113) (gd := none) (by kernel_rfl) rfl (by kernel_rfl) (by kernel_rfl) (by simp only [plCells, List.size_toArray, List.length_map]; first | exact placeOf_length _ | omega | (simp only [putP_length]; omega)) rfl (.inl (List.mem_of_getElem? (i := 0) rfl))) ?_;refine sS (stp_storeW (T := 113) (x := (.tmp 2)) (y := (.tmp 33)) (n := 10) (vs := plCells (pl)) (M' := ((b3, Obj.cells (plCells pl) 113 (0, 0)) :: (b1, Obj.cells (plCells (pl)) 113 (0, 0)) :: (y, Obj.cells #[.slice a2 Y.cars.length a3, .slice a4 Y.room.length a5, .slice a0 y_ws.length a1] 110 (0, 0)) :: (y_Ms ++ F))) 1 (ty := 0) (gd := none) (by kernel_rfl) rfl rfl rfl (by kernel_rfl) rfl (by simp only [plCells, List.size_toArray, List.length_map]; first | exact placeOf_length _ | omega | (simp only [putP_length]; omega)) (plCells_one _) rfl (rfl) rfl ?_);refine se (rret ?_);refine ppm (M' := ((y, Obj.cells #[.slice a2 Y.cars.length a3, .slice a4 Y.room.length a5, .slice a0 y_ws.length a1] 110 (0, 0)) :: (y_Ms ++ (b3, Obj.cells (plCells pl) 113 (0, 0)) :: (b1, Obj.cells (plCells (pl)) 113 (0, 0)) :: F))) (((PC _ (PS _ _ _)).trans (PS _ _ _)).trans (PC _ ((PC _ (PM.symm)).trans (PM.symm)))) ?_;refine pst_retW (t := 2) (T := 113) (n := 10) (b := b1) (cs := plCells (pl)) (S := 113) (fz := (0, 0)) ([(y, Obj.cells #[.slice a2 Y.cars.length a3, .slice a4 Y.room.length a5, .slice a0 y_ws.length a1] 110 (0, 0))] ++ (y_Ms)) (by kernel_rfl) rfl (by kernel_rfl) (by kernel_rfl) (by simp only [plCells, List.size_toArray, List.length_map]; first | exact placeOf_length _ | omega | (simp only [putP_length]; omega)) (.inl (by simp)) (by simp only [AA, NA, CA]; exact (TK _ (TA (TC _ (TC _ (TR _))) _))) (Imm.le.refl _) ?_;exact ⟨(by rw [hp, goP_done (by omega)]), rfl⟩

end Go.Proofs.YtcaocbhbofejnaaGreatDoor
namespace Go.Proofs.YtcaocbhbofejnaaGreatDoor
open Go Go.Sl Go.Sh
set_option maxRecDepth 100000
noncomputable def c_shifts (p : List Nat) : Code := sub (bodyOf Tryz.f85) p
theorem shifts_ct (I : Imm) (y : Nat) : Ct Tryz.prog 85 #[.pointer (some ⟨y, 0, none⟩)] I ([]) (fun v I' M' => ∃ by_ : Nat, ∃ bm : Nat, v = .func (.func 135) #[] #[.pointer (some ⟨by_, 0, none⟩), .pointer (some ⟨bm, 0, none⟩)] ∧ M' = [] ∧ (I'.blk by_ = some (Obj.cells #[.pointer (some ⟨y, 0, none⟩)] 108 (0, 0))) ∧ (I'.blk bm = some (Obj.cells #[.func (.func 92) #[] #[]] 164 (0, 0)))) := by
 refine fr (args := [_]) (N := 5) Tryz.func85 (fun F => ?_);show Run _ _ (c_shifts []) _ _ [(0, .pointer (some ⟨y, 0, none⟩))] _ _;refine rnm (rqr ?_);refine sS (sb 1 108 #[.pointer (some ⟨y, 0, none⟩)] (fun b1 => ?_));refine sp 1 [(2, .nilFunc)] ?_;refine sn ?_;refine sS (sal 3 164 #[.nilFunc] (fun b3 => ?_));refine sS (ss 0 0 b3 [.func (.func 92) #[] #[]] [.func (.func 92) #[] #[]] (_ :: _ :: _) (cs := [_]) rfl rfl ?_);refine sn ?_;refine seq_hold (b := b1) (o := Obj.cells #[.pointer (some ⟨y, 0, none⟩)] 108 (0, 0)) (M0 := ((b3, Obj.cells #[.func (.func 92) #[] #[]] 164 (0, 0)) :: F)) (PS _ _ _) (fun I5 a3 a2 => ?_);refine seq_hold (b := b3) (o := Obj.cells #[.func (.func 92) #[] #[]] 164 (0, 0)) (M0 := (F)) (PR _) (fun I8 a0 a1 => ?_);replace a2 := a0.blk _ _ a2;refine sp 2 [(2, .func (.func 135) #[] #[.pointer (some ⟨b1, 0, none⟩), .pointer (some ⟨b3, 0, none⟩)])] ?_;refine se (rret ?_);refine pst_ret1 (t := 2) [] (by kernel_rfl) rfl (TR _) (Imm.le.trans a3 a0) ?_;exact ⟨b1, b3, rfl, rfl, a2, a1⟩

noncomputable def c_shifts1 (p : List Nat) : Code := sub (bodyOf Tryz.f135) p
set_option maxHeartbeats 1000000 in
theorem shifts1_iter (I0 : Imm) (y by_ bm : Nat) (v1 v2 v3 : Value) (Y : Yard) (hG : Glob I0) (hy : I0.blk by_ = some (Obj.cells #[.pointer (some ⟨y, 0, none⟩)] 108 (0, 0))) (hm : I0.blk bm = some (Obj.cells #[.func (.func 92) #[] #[]] 164 (0, 0))) (hgood : GoodY Y) (h3 : Y.tracks.length ≤ 1000000) : IterCt Tryz.prog 135 [.pointer (some ⟨by_, 0, none⟩), .pointer (some ⟨bm, 0, none⟩)] encS (draws Y) (YardR 23 110 y v1 v2 v3 Y) I0 := by
 intro L Cl Sp hmono hround I Mr M hI0 hR hCl;obtain ⟨a4, e3, rfl, b2, b3, e1, e2⟩ := hR;replace hy := hI0.blk _ _ hy;replace hm := hI0.blk _ _ hm;obtain ⟨b7, b8, g6, g9, e9, g7, g8, h0⟩ := id b2;obtain ⟨b9, c0, h5, h8, f0, h6, h7, h9⟩ := id b3;subst e9; subst f0;obtain ⟨a5, a6, e0, f5⟩ := e1.shape; subst e0;have c7 := e2.1
 try simp only [LS, LA, LC, LN, LK] at c7
 refine fr (args := [_, _, _]) (N := 56) Tryz.func135 (fun F => ?_);show Run _ _ (c_shifts1 []) _ _ [(0, .func (.yield L) #[] #[]), (1, .pointer (some ⟨by_, 0, none⟩)), (2, .pointer (some ⟨bm, 0, none⟩))] _ _;refine run_mem (M' := ((y, Obj.cells #[.slice b7 Y.cars.length b8, .slice b9 Y.room.length c0, .slice a5 a4.length a6] 110 (0, 0)) :: (e3 ++ (M ++ F)))) (fun w h => by simpa only [AA, CA, NA] using h) ?_;refine rnm ?_;have i0 := hgood.le;refine rqr ?_;refine sd (det_load (v := .pointer (some ⟨y, 0, none⟩)) (x := (.tmp 1)) (T := 108) (d := 8) (ty := 108) (gd := none) (by kernel_rfl) rfl (by kernel_rfl) rfl (sees_held hy rfl)) ?_;refine sp 3 [(11, .pointer (some ⟨y, 2, none⟩))] ?_;refine sd (dlb 12 0 2 y (.slice a5 a4.length a6)) ?_;refine sp 2 [(14, .int .i64 (0)), (13, .int .i64 (↑(a4.length)))] ?_;refine se (rb 0 ?_);refine rl (fun mz a w => ∃ J0 : Imm, ∃ k : Nat, ∃ d8 : List Shift, ∃ d1 : Seg, ∃ a7 : Seg, ∃ b5 : List Value, (I.le J0) ∧ (k ≤ Y.tracks.length) ∧ (d8 ++ drawsY Y k = draws Y) ∧ (Cl d8 J0 d1) ∧ (RowsV J0 b5 (Y.tracks)) ∧ (Own 23 1 valCell (.slice a5 a4.length a6) (b5) a7) ∧ Slots 56 [(14, .int .i64 ↑k), (0, .func (.yield L) #[] #[]), (1, .pointer (some ⟨by_, 0, none⟩)), (2, .pointer (some ⟨bm, 0, none⟩)), (13, .int .i64 (↑(a4.length)))] a ∧ a.defers = [] ∧ St J0 ((y, Obj.cells #[.slice b7 Y.cars.length b8, .slice b9 Y.room.length c0, (.slice a5 a4.length a6)] 110 (0, 0)) :: (a7 ++ (d1 ++ F))) w ∧ mz = Y.tracks.length - k) ?_ ?_
 ·intro a w hS hD hW;exact ⟨_, I, 0, [], M, e3, a4, Imm.le.refl _, Nat.zero_le _, rfl, hCl, e2, e1, hS.sub (.cons 14 rfl (.cons 0 rfl (.cons 1 rfl (.cons 2 rfl (.cons 13 rfl (.nil _)))))), hD, hW, rfl⟩
 rintro mz a w ⟨J0, k, d8, d1, a7, b5, hJ0, hk, f3, hCl, a0, c4, hS, hD, hW, rfl⟩
 refine run_at hS hD hW ?_;clear hS hD hW a w;replace hy := hJ0.blk _ _ hy;replace hm := hJ0.blk _ _ hm;replace b2 := b2.mono hJ0;replace b3 := b3.mono hJ0;have c1 := a0.1
 try simp only [LS, LA, LC, LN, LK] at c1
 refine rqr ?_;refine sp 1 [(15, .bool (cmp .lss (↑k) (↑(a4.length))))] ?_;refine se (rq ?_);refine rc 15 rfl (fun h1 => ?_) (fun h1 => ?_)
 ·
  have e5 := h1;have h1 := lss_t h1;refine rskip (pst_next (rq (rb 1 (rqr ?_))));refine sp 2 [(4, .int .i64 (↑k))] ?_;refine sn ?_;refine sd (det_load (v := .pointer (some ⟨y, 0, none⟩)) (x := (.tmp 1)) (T := 108) (d := 17) (ty := 108) (gd := none) (by kernel_rfl) rfl (by kernel_rfl) rfl (sees_held hy rfl)) ?_;refine sp 3 [(20, .pointer (some ⟨y, 2, none⟩))] ?_;refine sd (dlb 21 0 2 y (.slice a5 a4.length a6)) ?_;refine sp 2 [(23, .int .i64 (0)), (22, .int .i64 (↑(a4.length)))] ?_;refine se (rb 2 ?_);refine rl (fun mz a w => ∃ J1 : Imm, ∃ t : Nat, ∃ d9 : List Shift, ∃ d2 : Seg, ∃ a8 : Seg, ∃ b0 : List Value, (J0.le J1) ∧ (t ≤ Y.tracks.length) ∧ (d9 ++ (drawsF Y k t ++ drawsY Y (k + 1)) = draws Y) ∧ (Cl d9 J1 d2) ∧ (RowsV J1 b0 (Y.tracks)) ∧ (Own 23 1 valCell (.slice a5 a4.length a6) (b0) a8) ∧ Slots 56 [(23, .int .i64 ↑t), (0, .func (.yield L) #[] #[]), (1, .pointer (some ⟨by_, 0, none⟩)), (2, .pointer (some ⟨bm, 0, none⟩)), (4, .int .i64 (↑k)), (13, .int .i64 (↑(a4.length))), (14, .int .i64 (↑k)), (22, .int .i64 (↑(a4.length)))] a ∧ a.defers = [] ∧ St J1 ((y, Obj.cells #[.slice b7 Y.cars.length b8, .slice b9 Y.room.length c0, (.slice a5 a4.length a6)] 110 (0, 0)) :: (a8 ++ (d2 ++ F))) w ∧ mz = Y.tracks.length - t) ?_ ?_
  ·intro a w hS hD hW;exact ⟨_, J0, 0, d8, d1, a7, b5, Imm.le.refl _, Nat.zero_le _, by rw [← f3, drawsY_step (Y := Y) (f := k) (by omega)], hCl, a0, c4, hS.sub (.cons 23 rfl (.cons 0 rfl (.cons 1 rfl (.cons 2 rfl (.cons 4 rfl (.cons 13 rfl (.cons 14 rfl (.cons 22 rfl (.nil _))))))))), hD, hW, rfl⟩
  rintro mz a w ⟨J1, t, d9, d2, a8, b0, hJ1, ht, f4, hCl, a2, c5, hS, hD, hW, rfl⟩
  refine run_at hS hD hW ?_;clear hS hD hW a w;replace hy := hJ1.blk _ _ hy;replace hm := hJ1.blk _ _ hm;replace b2 := b2.mono hJ1;replace b3 := b3.mono hJ1;replace a0 := a0.mono hJ1;have c2 := a2.1
  try simp only [LS, LA, LC, LN, LK] at c2
  refine rqr ?_;refine sp 1 [(24, .bool (cmp .lss (↑t) (↑(a4.length))))] ?_;refine se (rq ?_);refine rc 24 rfl (fun h2 => ?_) (fun h2 => ?_)
  ·
   have e6 := h2;have h2 := lss_t h2;refine rskip (pst_next (rq (rb 3 (rqr ?_))));refine sp 2 [(5, .int .i64 (↑t))] ?_;refine sn ?_;refine sp 1 [(6, .int .i64 (1))] ?_;refine se (rb 4 ?_);refine rl (fun mz a w => ∃ J2 : Imm, ∃ j : Nat, ∃ c9 : List Shift, ∃ c8 : Seg, ∃ a3 : Seg, ∃ b1 : List Value, (J1.le J2) ∧ (j ≤ (Y.tracks.getD (k) []).length) ∧ (c9 ++ (drawsFT Y k t j ++ (drawsF Y k (t + 1) ++ drawsY Y (k + 1))) = draws Y) ∧ (Cl c9 J2 c8) ∧ (RowsV J2 b1 (Y.tracks)) ∧ (Own 23 1 valCell (.slice a5 a4.length a6) (b1) a3) ∧ Slots 56 [(6, .int .i64 (↑j + 1)), (0, .func (.yield L) #[] #[]), (1, .pointer (some ⟨by_, 0, none⟩)), (2, .pointer (some ⟨bm, 0, none⟩)), (4, .int .i64 (↑k)), (5, .int .i64 (↑t)), (13, .int .i64 (↑(a4.length))), (14, .int .i64 (↑k)), (22, .int .i64 (↑(a4.length))), (23, .int .i64 (↑t))] a ∧ a.defers = [] ∧ St J2 ((y, Obj.cells #[.slice b7 Y.cars.length b8, .slice b9 Y.room.length c0, (.slice a5 a4.length a6)] 110 (0, 0)) :: (a3 ++ (c8 ++ F))) w ∧ mz = (Y.tracks.getD (k) []).length - j) ?_ ?_
   ·intro a w hS hD hW;exact ⟨_, J1, 0, d9, d2, a8, b0, Imm.le.refl _, Nat.zero_le _, by rw [← f4, drawsF_step (Y := Y) (f := k) (t := t) (by omega), AA], hCl, a2, c5, hS.sub (.cons 6 rfl (.cons 0 rfl (.cons 1 rfl (.cons 2 rfl (.cons 4 rfl (.cons 5 rfl (.cons 13 rfl (.cons 14 rfl (.cons 22 rfl (.cons 23 rfl (.nil _))))))))))), hD, hW, rfl⟩
   rintro mz a w ⟨J2, j, c9, c8, a3, b1, hJ2, hj, e4, hCl, a1, a9, hS, hD, hW, rfl⟩
   refine run_at hS hD hW ?_;clear hS hD hW a w;replace hy := hJ2.blk _ _ hy;replace hm := hJ2.blk _ _ hm;replace b2 := b2.mono hJ2;replace b3 := b3.mono hJ2;replace a0 := a0.mono hJ2;replace a2 := a2.mono hJ2;have c3 := a1.1
   try simp only [LS, LA, LC, LN, LK] at c3
   refine rq (rqr ?_);refine sp 1 [(26, .int .i64 (↑j + 1))] ?_;refine sd (det_load (v := .pointer (some ⟨y, 0, none⟩)) (x := (.tmp 1)) (T := 108) (d := 27) (ty := 108) (gd := none) (by kernel_rfl) rfl (by kernel_rfl) rfl (sees_held hy rfl)) ?_;refine sp 3 [(30, .pointer (some ⟨y, 2, none⟩))] ?_;refine sd (dlb 31 0 2 y (.slice a5 a4.length a6)) ?_;refine sp 1 [(32, .int .i64 (↑k))] ?_;obtain ⟨i1, d5⟩ := a9.row undef;refine sd (di 33 1 (k) (fun _ => d5.addr (by omega)) (n := a4.length) (hj := by omega)) ?_;have d7 := a1.2 (k) (by omega);obtain ⟨f7, f9, f8, g2, d6, g0, g1, g3⟩ := id d7;rw [d6] at d7;refine sd (det_eq (dl 34 (d5.get (k) (by omega) 0 (by decide) _ _ (fun x hx => by simp [hx]))) d6) ?_;refine sp 2 [(36, .bool (cmp .leq (↑j + 1) (↑((Y.tracks.getD (k) []).length))))] ?_;refine se ?_;refine rc 36 rfl (fun h3 => ?_) (fun h3 => ?_)
   ·
    have e7 := h3;have h3 := leq_t h3;refine rskip (pst_next (rq (rb 5 (rqr ?_))));refine sp 4 [(42, .agg #[.int .i64 (↑k), .int .i64 (↑t), .int .i64 (↑j + 1)])] ?_;refine sS (sal 7 52 #[.int .i64 (0), .int .i64 (0), .int .i64 (0)] (fun b4 => ?_));refine sS (ss 0 0 b4 [.int .i64 (↑k), .int .i64 (↑t), .int .i64 (↑j + 1)] [.int .i64 (↑k), .int .i64 (↑t), .int .i64 (↑j + 1)] (_ :: _ :: _) (cs := [_, _, _]) rfl rfl ?_);refine sn ?_;refine sd (det_load (v := .func (.func 92) #[] #[]) (x := (.tmp 2)) (T := 164) (d := 43) (ty := 164) (gd := none) (by kernel_rfl) rfl (by kernel_rfl) rfl (sees_held hm rfl)) ?_;refine sd (det_load (v := .pointer (some ⟨y, 0, none⟩)) (x := (.tmp 1)) (T := 108) (d := 44) (ty := 108) (gd := none) (by kernel_rfl) rfl (by kernel_rfl) rfl (sees_held hy rfl)) ?_;refine sd (dnb 45 0 0 b4 [.int .i64 (↑k), .int .i64 (↑t), .int .i64 (↑j + 1)]) ?_;have d3 := may_ct J2 (y) _ _ _ _ _ (Y) ((⟨↑k, ↑t, ↑j + 1⟩ : Shift)) b2 b3 a9 a1 (by exact hgood.ok) (by exact hgood.small) (by exact hgood.len) (by exact hgood.le);refine sS (sc (some 46) (F := ((b4, Obj.cells #[.int .i64 (↑k), .int .i64 (↑t), .int .i64 (↑j + 1)] 52 (0, 0)) :: (c8 ++ F))) (d3 :) ((PS _ _ _).trans (PC _ (PM.symm))) (fun g5 I6 g4 b6 f6 => ?_));obtain ⟨f2, d4⟩ := f6;rw [f2, d4]; clear f2 d4;replace hy := b6.blk _ _ hy;replace hm := b6.blk _ _ hm;replace b2 := b2.mono b6;replace b3 := b3.mono b6;replace a0 := a0.mono b6;replace a2 := a2.mono b6;replace hCl := hmono _ _ _ _ b6 hCl;replace a1 := a1.mono b6;refine seq_mem (M' := ((y, Obj.cells #[.slice b7 Y.cars.length b8, .slice b9 Y.room.length c0, .slice a5 a4.length a6] 110 (0, 0)) :: (a3 ++ (b4, Obj.cells #[.int .i64 (↑k), .int .i64 (↑t), .int .i64 (↑j + 1)] 52 (0, 0)) :: (c8 ++ F)))) (fun w h => by simpa only [AA, CA, NA] using h) ?_;refine pm (M' := ((y, Obj.cells #[.slice b7 Y.cars.length b8, .slice b9 Y.room.length c0, .slice a5 a4.length a6] 110 (0, 0)) :: (b4, Obj.cells #[.int .i64 (↑k), .int .i64 (↑t), .int .i64 (↑j + 1)] 52 (0, 0)) :: (a3 ++ (c8 ++ F)))) (PC _ PM) ?_;refine sd (det_eqIface (x := (.tmp 46)) (T := 126) (T' := 126) (d := 47) (ty := 4) (gd := none) (by kernel_rfl) rfl (by kernel_rfl) rfl (isNI_err _)) ?_;refine sp 1 [(48, .bool (decide ((mayErr Y ((⟨↑k, ↑t, ↑j + 1⟩ : Shift))) = 0)))] ?_;refine seq_split 48 rfl (fun h4 => ?_) (fun h4 => ?_)
    ·
     have c6 := h4;have c6 := dec_t c6;refine sp 1 [(49, .func (.yield L) #[] #[])] ?_;refine sd (dnb 50 1 0 b4 [.int .i64 (↑k), .int .i64 (↑t), .int .i64 (↑j + 1)]) ?_;have f1 : mayErr Y (mk3 k t (j + 1)) = 0 := c6;have e8 : c9 ++ [mk3 k t (j + 1)] <+: draws Y := ⟨_, by rw [← e4, drawsFT_yes (by omega) f1]; simp; rfl⟩;refine sS (stp_yield (d := some 51) (f := (.tmp 49)) (args := #[.tmp 50]) (tys := #[52]) (pre := (((y, Obj.cells #[.slice b7 Y.cars.length b8, .slice b9 Y.room.length c0, .slice a5 a4.length a6] 110 (0, 0)) :: a3) ++ c8)) (F := ((b4, Obj.cells #[.int .i64 (↑k), .int .i64 (↑t), .int .i64 (↑j + 1)] 52 (0, 0)) :: F)) (ty := 4) (gd := (some (5, true))) (by kernel_rfl) (by kernel_rfl) rfl rfl (hround c9 (mk3 k t (j + 1)) _ ((y, Obj.cells #[.slice b7 Y.cars.length b8, .slice b9 Y.room.length c0, .slice a5 a4.length a6] 110 (0, 0)) :: a3) c8 e8 (Imm.le.trans (Imm.le.trans (Imm.le.trans (Imm.le.trans hI0 hJ0) hJ1) hJ2) b6) ⟨_, _, rfl, b2, b3, a9, a1⟩ hCl) (by simpa only [AA, CA, NA] using (PC _ ((PM.symm).trans (PA _ (PM.symm))))) (fun yv IY MY hIY hYP => ?_));rcases hYP with ⟨rfl, Mr4, Mc4, rfl, ⟨ws4, Ms4, rfl, q1, q2, q3, q4⟩, hCl4⟩ | ⟨rfl, hSp4⟩
     ·
      replace hy := hIY.blk _ _ hy;replace hm := hIY.blk _ _ hm;replace b2 := b2.mono hIY;replace b3 := b3.mono hIY;replace a0 := a0.mono hIY;replace a2 := a2.mono hIY;replace hCl := hmono _ _ _ _ hIY hCl;replace a1 := a1.mono hIY;replace hCl := hCl4;have d0 := q4.1
      try simp only [LS, LA, LC, LN, LK] at d0
      refine seq_mem (M' := ((y, Obj.cells #[.slice b7 Y.cars.length b8, .slice b9 Y.room.length c0, .slice a5 a4.length a6] 110 (0, 0)) :: (Ms4 ++ (Mc4 ++ (b4, Obj.cells #[.int .i64 (↑k), .int .i64 (↑t), .int .i64 (↑j + 1)] 52 (0, 0)) :: F)))) (fun w h => by simpa only [AA, CA, NA] using h) ?_;refine pm (M' := ((y, Obj.cells #[.slice b7 Y.cars.length b8, .slice b9 Y.room.length c0, .slice a5 a4.length a6] 110 (0, 0)) :: (b4, Obj.cells #[.int .i64 (↑k), .int .i64 (↑t), .int .i64 (↑j + 1)] 52 (0, 0)) :: (Ms4 ++ (Mc4 ++ F)))) (PC _ ((PA _ PM).trans PM)) ?_;refine sp 2 [(53, .bool (!(true)))] ?_;refine se ?_;refine rcf 53 rfl ?_;refine rskip (pst_normal_block (pst_next (rr ?_)));refine sp 1 [(37, .int .i64 (↑j + 1))] ?_;refine sd (da 38 (↑j + 1) (1)) ?_;refine sp 1 [(6, .int .i64 ((↑j + 1) + 1))] ?_;refine ee ?_;refine pst_back ((Y.tracks.getD (k) []).length - (j+1)) (by omega) ?_;intro a w hS hD hW;exact ⟨IY, j+1, c9 ++ [mk3 k t (j + 1)], Mc4, Ms4, ws4, (Imm.le.trans (Imm.le.trans hJ2 b6) hIY), by omega, by rw [← e4, drawsFT_yes (by omega) f1]; simp, hCl, q4, q3, hS.sub (.consE 6 rfl rfl (.cons 0 rfl (.cons 1 rfl (.cons 2 rfl (.cons 4 rfl (.cons 5 rfl (.cons 13 rfl (.cons 14 rfl (.cons 22 rfl (.cons 23 rfl (.nil _))))))))))), hD, (hW.perm (PS _ _ _)).sub (TC _ (TR _)), rfl⟩
     replace hy := hIY.blk _ _ hy;replace hm := hIY.blk _ _ hm;replace b2 := b2.mono hIY;replace b3 := b3.mono hIY;replace a0 := a0.mono hIY;replace a2 := a2.mono hIY;replace hCl := hmono _ _ _ _ hIY hCl;replace a1 := a1.mono hIY;refine seq_mem (M' := ((MY ++ (b4, Obj.cells #[.int .i64 (↑k), .int .i64 (↑t), .int .i64 (↑j + 1)] 52 (0, 0)) :: F))) (fun w h => by simpa only [AA, CA, NA] using h) ?_;refine pm (M' := ((b4, Obj.cells #[.int .i64 (↑k), .int .i64 (↑t), .int .i64 (↑j + 1)] 52 (0, 0)) :: (MY ++ F))) PM ?_;refine sp 2 [(53, .bool (!(false)))] ?_;refine se ?_;refine rct 53 rfl ?_;refine rret ?_;refine (pst_ret_block (pst_ret_pass (pst_ret_pass (pst_ret_block (pst_ret_block (pst_ret_pass (pst_ret_pass (pst_ret_block (pst_ret_block (pst_ret_pass (pst_ret_pass (pst_ret_block ?_))))))))))));refine ppm (M' := ((MY ++ (b4, Obj.cells #[.int .i64 (↑k), .int .i64 (↑t), .int .i64 (↑j + 1)] 52 (0, 0)) :: F))) (PM.symm) ?_;refine pst_ret0 (MY) (by kernel_rfl) (TA (TC _ (TR _)) _) (Imm.le.trans (Imm.le.trans (Imm.le.trans (Imm.le.trans hJ0 hJ1) hJ2) b6) hIY) ?_;exact .inr ⟨_, hSp4⟩
    have c6 := h4;have c6 := dec_f c6;refine sp 5 [(53, .bool (false))] ?_;refine se ?_;refine rcf 53 rfl ?_;refine rskip (pst_normal_block (pst_next (rr ?_)));refine sp 1 [(37, .int .i64 (↑j + 1))] ?_;refine sd (da 38 (↑j + 1) (1)) ?_;refine sp 1 [(6, .int .i64 ((↑j + 1) + 1))] ?_;refine ee ?_;refine pst_back ((Y.tracks.getD (k) []).length - (j+1)) (by omega) ?_;intro a w hS hD hW;exact ⟨I6, j+1, c9, c8, a3, b1, (Imm.le.trans hJ2 b6), by omega, by rw [← e4, drawsFT_no (by omega) (show mayErr Y (mk3 k t (j + 1)) ≠ 0 from c6)], hCl, a1, a9, hS.sub (.consE 6 rfl rfl (.cons 0 rfl (.cons 1 rfl (.cons 2 rfl (.cons 4 rfl (.cons 5 rfl (.cons 13 rfl (.cons 14 rfl (.cons 22 rfl (.cons 23 rfl (.nil _))))))))))), hD, (hW.perm (PS _ _ _)).sub (TC _ (TR _)), rfl⟩
   have e7 := h3;have h3 := leq_f h3;refine rexit 4 ?_;refine (pst_exit_pass (pst_exit_pass (pst_exit_block ?_)));refine pst_normal_block (pst_next (rr ?_));refine sd (da 54 (↑t) (1)) ?_;refine sp 1 [(23, .int .i64 (↑t + 1))] ?_;refine ee ?_;refine pst_back (Y.tracks.length - (t+1)) (by omega) ?_;intro a w hS hD hW;exact ⟨J2, t+1, c9, c8, a3, b1, (Imm.le.trans hJ1 hJ2), by omega, by rw [← e4, drawsFT_done (Y := Y) (f := k) (t := t) (k := j) (by omega), NA], hCl, a1, a9, hS.sub (.consE 23 rfl rfl (.cons 0 rfl (.cons 1 rfl (.cons 2 rfl (.cons 4 rfl (.cons 13 rfl (.cons 14 rfl (.cons 22 rfl (.nil _))))))))), hD, hW, rfl⟩
  have e6 := h2;have h2 := lss_f h2;refine rexit 2 ?_;refine (pst_exit_pass (pst_exit_pass (pst_exit_block ?_)));refine pst_normal_block (pst_next (rr ?_));refine sd (da 55 (↑k) (1)) ?_;refine sp 1 [(14, .int .i64 (↑k + 1))] ?_;refine ee ?_;refine pst_back (Y.tracks.length - (k+1)) (by omega) ?_;intro a w hS hD hW;exact ⟨J1, k+1, d9, d2, a8, b0, (Imm.le.trans hJ0 hJ1), by omega, by rw [← f4, drawsF_done (Y := Y) (f := k) (t := t) (by omega), NA], hCl, a2, c5, hS.sub (.consE 14 rfl rfl (.cons 0 rfl (.cons 1 rfl (.cons 2 rfl (.cons 13 rfl (.nil _)))))), hD, hW, rfl⟩
 have e5 := h1;have h1 := lss_f h1;refine rexit 0 ?_;refine (pst_exit_pass (pst_exit_pass (pst_exit_block ?_)));refine pst_end0 ([(y, Obj.cells #[.slice b7 Y.cars.length b8, .slice b9 Y.room.length c0, .slice a5 a4.length a6] 110 (0, 0))] ++ (a7 ++ (d1))) (by kernel_rfl) (by simp only [AA, NA, CA]; exact (TK _ (TA (TA (TR _) _) _))) hJ0 ?_;exact .inl ⟨(y, Obj.cells #[.slice b7 Y.cars.length b8, .slice b9 Y.room.length c0, .slice a5 a4.length a6] 110 (0, 0)) :: a7, d1, rfl, ⟨_, _, rfl, b2, b3, c4, a0⟩, (show d8 = draws Y by rw [← f3, drawsY_done (Y := Y) (f := k) (by omega), List.append_nil]) ▸ hCl⟩

end Go.Proofs.YtcaocbhbofejnaaGreatDoor
namespace Go.Proofs.YtcaocbhbofejnaaGreatDoor
open Go Go.Sl Go.Sh
set_option maxRecDepth 100000
end Go.Proofs.YtcaocbhbofejnaaGreatDoor
namespace Go.Proofs.YtcaocbhbofejnaaGreatDoor
open Go Go.Sl Go.Sh
set_option maxRecDepth 100000
end Go.Proofs.YtcaocbhbofejnaaGreatDoor
namespace Go.Proofs.YtcaocbhbofejnaaGreatDoor
open Go Go.Sl Go.Sh
set_option maxRecDepth 100000
noncomputable def c_ordered1 (p : List Nat) : Code := sub (bodyOf Tryz.f131) p
theorem ordered1_ct (I : Imm) (y : Nat) (v1 v2 v3 : Value) (y_ws : List Value) (y_Ms : Seg) (Y : Yard) (b : Nat) (a : Value) (order : List Int) (v1_f : IsCars I v1 Y.cars) (v2_f : IsInts I v2 Y.room) (y_3h : Own 23 1 valCell v3 y_ws y_Ms) (y_3r : RowsV I y_ws Y.tracks) (b_h : I.blk b = some (Obj.cells #[a] 23 (0, 0))) (a_f : IsInts I a order) (h0 : 0 < Y.tracks.length) : Ct Tryz.prog 131 #[.pointer (some ⟨y, 0, none⟩), .pointer (some ⟨b, 0, none⟩)] I ((y, Obj.cells #[v1, v2, v3] 110 (0, 0)) :: y_Ms) (fun v I' M' => v = .bool (decide (Y.tracks.getD 0 [] = order)) ∧ M' = ((y, Obj.cells #[v1, v2, v3] 110 (0, 0)) :: y_Ms)) := by
 obtain ⟨a7, a8, c4, c7, a9, c5, c6, c8⟩ := id v1_f;obtain ⟨b0, b1, c9, d2, b2, d0, d1, d3⟩ := id v2_f;subst a9; subst b2;obtain ⟨a1, a2, a6, b3⟩ := y_3h.shape; subst a6;have a0 := y_3r.1
 try simp only [LS, LA, LC, LN, LK] at a0
 obtain ⟨b4, b5, d4, d7, b6, d5, d6, d8⟩ := id a_f;subst b6;refine fr (args := [_, _]) (N := 13) Tryz.func131 (fun F => ?_);show Run _ _ (c_ordered1 []) _ _ [(0, .pointer (some ⟨y, 0, none⟩)), (1, .pointer (some ⟨b, 0, none⟩))] _ _;refine rnm (rqr ?_);refine sp 1 [(3, .bool (false))] ?_;refine se (rq ?_);refine rd0 8 ?_;refine ox 4 [(7, .pointer (some ⟨y, 2, none⟩))] ?_;refine ofp_det (dlb 8 0 2 y (.slice a1 y_ws.length a2)) ?_;obtain ⟨d9, a4⟩ := y_3h.row undef;refine ofp_det (di 9 1 (0) a4.addr) ?_;have a3 := y_3r.2 (0) (by omega);obtain ⟨b7, b9, b8, c2, a5, c0, c1, c3⟩ := id a3;rw [a5] at a3;refine ofp_det (det_eq (dl 10 (a4.get (0) (by omega) 0 (by decide) _ _ (fun x hx => by simp [hx]))) a5) ?_;refine ofp_det (det_load (v := .slice b4 order.length b5) (x := (.tmp 1)) (T := 23) (d := 11) (ty := 23) (gd := none) (by kernel_rfl) rfl (by kernel_rfl) rfl (sees_held b_h rfl)) ?_;refine ofp_end0 ?_;refine sd (dc 12 (fun I' hI => (slicesEqual_ct I' _ _ _ _ (a3.mono hI) (a_f.mono hI) :))) ?_;refine sp 1 [(3, .bool (decide ((Y.tracks.getD (0) []) = order)))] ?_;refine se (rret ?_);refine pst_ret1 (t := 3) ([(y, Obj.cells #[.slice a7 Y.cars.length a8, .slice b0 Y.room.length b1, .slice a1 y_ws.length a2] 110 (0, 0))] ++ (y_Ms)) (by kernel_rfl) rfl (by simp only [AA, NA, CA]; exact (TK _ (TA (TR _) _))) (Imm.le.refl _) ?_;exact ⟨congrArg Value.bool (rfl), rfl⟩

noncomputable def c_ordered (p : List Nat) : Code := sub (bodyOf Tryz.f80) p
theorem ordered_ct (I : Imm) (a : Value) (order : List Int) (a_f : IsInts I a order) : Ct Tryz.prog 80 #[a] I ([]) (fun v I' M' => ∃ b : Nat, v = .func (.func 131) #[] #[.pointer (some ⟨b, 0, none⟩)] ∧ M' = [] ∧ (I'.blk b = some (Obj.cells #[a] 23 (0, 0)))) := by
 obtain ⟨a0, a1, a5, a8, a3, a6, a7, a9⟩ := id a_f;subst a3;refine fr (args := [_]) (N := 4) Tryz.func80 (fun F => ?_);show Run _ _ (c_ordered []) _ _ [(0, .slice a0 order.length a1)] _ _;refine rnm (rqr ?_);refine sS (sb 1 23 #[.slice a0 order.length a1] (fun b1 => ?_));refine sp 1 [(2, .nilFunc)] ?_;refine sn ?_;refine seq_hold (b := b1) (o := Obj.cells #[.slice a0 order.length a1] 23 (0, 0)) (M0 := (F)) (PR _) (fun I3 a2 a4 => ?_);refine sp 2 [(2, .func (.func 131) #[] #[.pointer (some ⟨b1, 0, none⟩)])] ?_;refine se (rret ?_);refine pst_ret1 (t := 2) [] (by kernel_rfl) rfl (TR _) a2 ?_;exact ⟨b1, rfl, rfl, a4⟩


theorem goals_ordered {I : Imm} {A : Yard} {b : Nat} {a : Value} {order : List Int} (hb : I.blk b = some (Obj.cells #[a] 23 (0, 0))) (ha : IsInts I a order) (hA : 0 < A.tracks.length) :
  GoalsOk Tryz.prog 23 110 I A [.func (.func 131) #[] #[.pointer (some ⟨b, 0, none⟩)]] [orderedP order] := by
 refine ⟨rfl, fun i hi => ?_⟩;obtain rfl : i = 0 := by simp at hi; omega
 refine ⟨131, [.pointer (some ⟨b, 0, none⟩)], rfl, by kernel_rfl, fun J y v1 v2 v3 Y ws Ms hle hk h1 h2 h3 h4 _ => ?_⟩;exact ordered1_ct J y v1 v2 v3 ws Ms Y b a order h1 h2 h3 h4 (hle.blk _ _ hb) (ha.mono hle) (by rw [hk.len]; exact hA)
noncomputable def c_all (p : List Nat) : Code := sub (bodyOf Tryz.f155) p
theorem all_ct (I : Imm) (y : Nat) (y_1 y_2 y_3 : Value) (y_ws : List Value) (y_Ms : Seg) (Y : Yard) (g : Value) (gs : List Value) (A : Yard) (ps : List (Yard → Bool)) (y_1f : IsCars I y_1 Y.cars) (y_2f : IsInts I y_2 Y.room) (y_3h : Own 23 1 valCell y_3 y_ws y_Ms) (y_3r : RowsV I y_ws Y.tracks) (g_f : IsVals I g gs) (hgo : GoalsOk Tryz.prog 23 110 I A gs ps) (hka : Kin A Y) : Ct Tryz.prog 155 #[.pointer (some ⟨y, 0, none⟩), g] I ([(y, Obj.cells #[y_1, y_2, y_3] 110 (0, 0))] ++ (y_Ms)) (fun v I' M' => v = .bool (allP ps Y) ∧ M' = [(y, Obj.cells #[y_1, y_2, y_3] 110 (0, 0))] ++ (y_Ms)) := by
 have a6 := y_1f;obtain ⟨a0, a1, c0, c3, b0, c1, c2, c4⟩ := id a6;subst b0;have a7 := y_2f;obtain ⟨a2, a3, c5, c8, b1, c6, c7, c9⟩ := id a7;subst b1;obtain ⟨a4, a5, b2, d0⟩ := y_3h.shape; subst b2;have a8 := y_3r.1
 try simp only [LS, LA, LC, LN, LK] at a8
 obtain ⟨b4, b5, d8, e1, d1, d9, e0, b3⟩ := id g_f;subst d1;refine fr (args := [_, _]) (N := 18) Tryz.func155 (fun F => ?_);show Run _ _ (c_all []) _ _ [(0, .pointer (some ⟨y, 0, none⟩)), (1, .slice b4 gs.length b5)] _ _;refine rnm (rqr ?_);refine sp 1 [(4, .bool (false))] ?_;refine se (rq (rqr ?_));have e2 := hgo.1;refine sp 3 [(9, .int .i64 (0)), (8, .int .i64 (↑(gs.length))), (7, .slice b4 gs.length b5)] ?_;refine se (rb 0 ?_);refine rl (fun mz a w => ∃ J0 : Imm, ∃ k : Nat, (I.le J0) ∧ (k ≤ gs.length) ∧ (∀ j, j < k → (ps.getD j noGoal) Y = true) ∧ Slots 18 [(9, .int .i64 ↑k), (0, .pointer (some ⟨y, 0, none⟩)), (7, .slice b4 gs.length b5), (8, .int .i64 (↑(gs.length)))] a ∧ a.defers = [] ∧ St J0 ((y, Obj.cells #[.slice a0 Y.cars.length a1, .slice a2 Y.room.length a3, .slice a4 y_ws.length a5] 110 (0, 0)) :: (y_Ms ++ F)) w ∧ mz = gs.length - k) ?_ ?_
 ·intro a w hS hD hW;exact ⟨_, I, 0, Imm.le.refl _, Nat.zero_le _, (fun j hj => by omega), hS.sub (.cons 9 rfl (.cons 0 rfl (.cons 7 rfl (.cons 8 rfl (.nil _))))), hD, hW, rfl⟩
 rintro mz a w ⟨J0, k, hJ0, hk, b8, hS, hD, hW, rfl⟩
 refine run_at hS hD hW ?_;clear hS hD hW a w;replace a6 := a6.mono hJ0;replace a7 := a7.mono hJ0;replace y_3r := y_3r.mono hJ0;replace b3 := b3.mono hJ0;replace hgo := hgo.mono hJ0;refine rqr ?_;refine sp 1 [(10, .bool (cmp .lss (↑k) (↑(gs.length))))] ?_;refine se (rq ?_);refine rc 10 rfl (fun h1 => ?_) (fun h1 => ?_)
 ·
  have b6 := h1;have h1 := lss_t h1;refine rskip (pst_next (rq (rb 1 (rqr ?_))));refine sd (di 11 1 (k) b3.addr) ?_;refine sd (dl 12 (vals_get b3 (k) (by omega))) ?_;refine sp 1 [(6, gs.getD (k) undef)] ?_;refine sn ?_;refine sp 2 [(14, .pointer (some ⟨y, 0, none⟩)), (13, gs.getD (k) undef)] ?_;obtain ⟨d3, d2, d5, d4, d6⟩ := hgo.2 k (by omega);refine seq_re 13 rfl d5 ?_;have b9 := d6 J0 y (.slice a0 Y.cars.length a1) (.slice a2 Y.room.length a3) (.slice a4 y_ws.length a5) Y y_ws y_Ms (Imm.le.refl _) hka a6 a7 y_3h y_3r b8;refine sS (stp_call (d := (some 15)) (f := (.tmp 13)) (fid := d3) (args := #[(.tmp 14)]) (tys := #[108]) (cv := d2) (F := (F)) (ty := 4) (gd := none) (by kernel_rfl) rfl rfl rfl d4 rfl b9 (by simpa only [AA, CA, NA] using (PR _)) (fun e4 I1 e3 a9 d7 => ?_));obtain ⟨rfl, rfl⟩ := d7;refine seq_mem (M' := ((y, Obj.cells #[.slice a0 Y.cars.length a1, .slice a2 Y.room.length a3, .slice a4 y_ws.length a5] 110 (0, 0)) :: (y_Ms ++ F))) (fun w h => by simpa only [AA, CA, NA] using h) ?_;refine nm ?_;show Seq _ _ _ _ _ _ ((15, .bool ((ps.getD k noGoal) Y)) :: _) _ _;refine sp 1 [(16, .bool (!((ps.getD k noGoal) Y)))] ?_;refine se ?_;refine rc 16 rfl (fun h2 => ?_) (fun h2 => ?_)
  ·
   have b7 := h2;have h2 := not_t h2;refine rqr ?_;refine sp 1 [(4, .bool (false))] ?_;refine se (rret ?_);refine (pst_ret_block (pst_ret_pass (pst_ret_pass (pst_ret_block (pst_ret_pass ?_)))));refine pst_ret1 (t := 4) ([(y, Obj.cells #[.slice a0 Y.cars.length a1, .slice a2 Y.room.length a3, .slice a4 y_ws.length a5] 110 (0, 0))] ++ (y_Ms)) (by kernel_rfl) rfl (by simp only [AA, NA, CA]; exact (TK _ (TA (TR _) _))) (Imm.le.trans hJ0 a9) ?_;exact ⟨(congrArg Value.bool (allP_miss (k := k) (by omega) h2).symm), rfl⟩
  have b7 := h2;have h2 := not_f h2;refine rskip (pst_normal_block (pst_next (rr ?_)));refine sd (da 17 (↑k) (1)) ?_;refine sp 1 [(9, .int .i64 (↑k + 1))] ?_;refine ee ?_;refine pst_back (gs.length - (k+1)) (by omega) ?_;intro a w hS hD hW;exact ⟨I1, k+1, (Imm.le.trans hJ0 a9), by omega, before_snoc b8 h2, hS.sub (.consE 9 rfl rfl (.cons 0 rfl (.cons 7 rfl (.cons 8 rfl (.nil _))))), hD, hW, rfl⟩
 have b6 := h1;have h1 := lss_f h1;refine rexit 0 ?_;refine (pst_exit_pass (pst_exit_pass (pst_exit_block ?_)));refine pst_next (rqr ?_);refine sp 1 [(4, .bool (true))] ?_;refine se (rret ?_);refine pst_ret1 (t := 4) ([(y, Obj.cells #[.slice a0 Y.cars.length a1, .slice a2 Y.room.length a3, .slice a4 y_ws.length a5] 110 (0, 0))] ++ (y_Ms)) (by kernel_rfl) rfl (by simp only [AA, NA, CA]; exact (TK _ (TA (TR _) _))) hJ0 ?_;exact ⟨(congrArg Value.bool (allP_done (fun j hj => b8 j (by omega))).symm), rfl⟩

end Go.Proofs.YtcaocbhbofejnaaGreatDoor
namespace Go.Proofs.YtcaocbhbofejnaaGreatDoor
open Go Go.Sl Go.Sh
set_option maxRecDepth 100000
def SearchAt (n : Nat) : Prop := ∀ (I : Imm) (y : Nat) (y_1 y_2 y_3 : Value) (y_ws : List Value) (y_Ms : Seg) (Y : Yard) (d : Nat) (r : Nat) (r_es : Array MapEntry) (r_cl : Nat) (m : Met) (g : Value) (gs : List Value) (A : Yard) (ps : List (Yard → Bool)) (y_1f : IsCars I y_1 Y.cars) (y_2f : IsInts I y_2 Y.room) (y_3h : Own 23 1 valCell y_3 y_ws y_Ms) (y_3r : RowsV I y_ws Y.tracks) (r_is : MapIs encP r_es (metV m)) (g_f : IsVals I g gs) (hG : Glob I) (hgo : GoalsOk Tryz.prog 23 110 I A gs ps) (hka : Kin A Y) (hfa : Fine A) (hd : d ≤ 4), d = n → Ct Tryz.prog 130 #[.pointer (some ⟨y, 0, none⟩), .int .i64 ↑d, .map (some r), g] I ([(y, Obj.cells #[y_1, y_2, y_3] 110 (0, 0))] ++ (y_Ms ++ ([(r, Obj.map r_es r_cl)]))) (fun v I' M' => ∃ y_wt : List Value, ∃ y_Mt : Seg, ∃ r_et : Array MapEntry, ∃ r_ct : Nat, ∃ u0 : Value, ∃ Ms0 : Seg, v = .tuple #[u0, .bool ((searchM (allP ps) d Y m).1.isSome)] ∧ M' = [(y, Obj.cells #[y_1, y_2, y_3] 110 (0, 0))] ++ (y_Mt ++ ([(r, Obj.map r_et r_ct)] ++ (Ms0))) ∧ Own 23 1 valCell y_3 y_wt y_Mt ∧ RowsV I' y_wt (Y).tracks ∧ MapIs encP r_et (metV ((searchM (allP ps) d Y m).2)) ∧ Own 52 3 shiftCell u0 ((searchM (allP ps) d Y m).1.getD []) Ms0)
noncomputable def c_moveD (p : List Nat) : Code := sub (bodyOf Tryz.f86) p
theorem move_ctD (I : Imm) (y : Nat) (y_1 y_2 y_3 : Value) (y_ws : List Value) (y_Ms : Seg) (Y : Yard) (s : Shift) (y_1f : IsCars I y_1 Y.cars) (y_2f : IsInts I y_2 Y.room) (y_3h : Own 23 1 valCell y_3 y_ws y_Ms) (y_3r : RowsV I y_ws Y.tracks) (hf : 0 ≤ s.frm ∧ s.frm < Y.tracks.length) (ht : 0 ≤ s.to ∧ s.to < Y.tracks.length) (hm : 0 ≤ s.many ∧ s.many ≤ (Y.tracks.getD s.frm.toNat []).length) (hq : ∀ t ∈ Y.tracks, t.length ≤ 1000000) : CtD Tryz.prog 86 #[.pointer (some ⟨y, 0, none⟩), .agg #[.int .i64 s.frm, .int .i64 s.to, .int .i64 s.many]] I ([(y, Obj.cells #[y_1, y_2, y_3] 110 (0, 0))] ++ (y_Ms)) (fun v I' M' => ∃ y_wt : List Value, ∃ y_Mt : Seg, v = .tuple #[] ∧ M' = [(y, Obj.cells #[y_1, y_2, y_3] 110 (0, 0))] ++ (y_Mt) ∧ Own 23 1 valCell y_3 y_wt y_Mt ∧ RowsV I' y_wt (moved Y s).tracks) := by
 have f5 := y_1f;obtain ⟨a2, a3, i9, j2, f4, j0, j1, j3⟩ := id f5;subst f4;have f7 := y_2f;obtain ⟨a4, a5, j4, j7, f6, j5, j6, j8⟩ := id f7;subst f6;obtain ⟨a0, a1, f8, j9⟩ := y_3h.shape; subst f8;have b8 := y_3r.1
 try simp only [LS, LA, LC, LN, LK] at b8
 refine fnD_of_run (fn := Tryz.f86) (args := [_, _]) (N := 54) Tryz.func86 rfl (by kernel_rfl) (Nat.le_of_ble_eq_true rfl) (fun F => ?_);show Run _ _ (c_moveD []) _ _ [(0, .pointer (some ⟨y, 0, none⟩)), (1, .agg #[.int .i64 (s.frm), .int .i64 (s.to), .int .i64 (s.many)])] _ _;refine rnm (rqr ?_);refine sS (sb 3 52 #[.int .i64 (s.frm), .int .i64 (s.to), .int .i64 (s.many)] (fun b1 => ?_));refine se (rq ?_);refine rd0 7 ?_;refine ox 4 [(9, .pointer (some ⟨y, 2, none⟩))] ?_;refine ofp_det (dlb 10 1 2 y (.slice a0 y_ws.length a1)) ?_;refine ox 1 [(11, .pointer (some ⟨b1, 0, none⟩))] ?_;refine ofp_det (dlb 12 0 0 b1 (.int .i64 (s.frm))) ?_;refine ofp_end0 ?_;obtain ⟨n0, e3⟩ := y_3h.row undef;refine sd (diI 13 1 (s.frm) e3.addr) ?_;have a7 := y_3r.2 ((s.frm : Int).toNat) (by omega);obtain ⟨d4, d5, k3, k6, e7, k4, k5, k7⟩ := id a7;rw [e7] at a7;refine sd (det_eq (dl 14 (e3.get ((s.frm : Int).toNat) (by omega) 0 (by decide) _ _ (fun x hx => by simp [hx]))) e7) ?_;refine sp 1 [(4, .slice d4 (Y.tracks.getD ((s.frm : Int).toNat) []).length d5)] ?_;refine sn ?_;refine sp 3 [(17, .pointer (some ⟨b1, 2, none⟩)), (16, .int .i64 (↑((Y.tracks.getD ((s.frm : Int).toNat) []).length)))] ?_;refine sd (dlb 18 0 2 b1 (.int .i64 (s.many))) ?_;refine sd (dsb 19 (↑((Y.tracks.getD ((s.frm : Int).toNat) []).length)) (s.many)) ?_;refine sp 1 [(5, .int .i64 ((↑((Y.tracks.getD ((s.frm : Int).toNat) []).length)) - s.many))] ?_;refine se (rq ?_);refine rd 21 [(0, true), (1, true), (2, true), (3, true), (4, true), (5, true), (6, true), (7, true), (8, true), (9, true), (10, true), (11, true), (12, true), (13, true), (14, true), (15, true), (17, true), (18, true), (19, true), (16, false), (20, false)] ((b1, Obj.cells #[.int .i64 (s.frm), .int .i64 (s.to), .int .i64 (s.many)] 52 (0, 0)) :: (y, Obj.cells #[.slice a2 Y.cars.length a3, .slice a4 Y.room.length a5, .slice a0 y_ws.length a1] 110 (0, 0)) :: y_Ms) (F) ?_;refine ox 4 [(23, .pointer (some ⟨y, 2, none⟩))] ?_;refine ofp_det (dlb 24 1 2 y (.slice a0 y_ws.length a1)) ?_;refine ox 1 [(25, .pointer (some ⟨b1, 1, none⟩))] ?_;refine ofp_det (dlb 26 0 1 b1 (.int .i64 (s.to))) ?_;refine ox 4 [(30, .pointer (some ⟨y, 2, none⟩))] ?_;refine ofp_det (dlb 31 1 2 y (.slice a0 y_ws.length a1)) ?_;refine ox 1 [(32, .pointer (some ⟨b1, 1, none⟩))] ?_;refine ofp_det (dlb 33 0 1 b1 (.int .i64 (s.to))) ?_;obtain ⟨n1, e4⟩ := y_3h.row undef;refine ofp_det (diI 34 1 (s.to) e4.addr) ?_;have d6 := y_3r.2 ((s.to : Int).toNat) (by omega);obtain ⟨k8, l0, k9, l3, e8, l1, l2, l4⟩ := id d6;rw [e8] at d6;refine ofp_det (det_eq (dl 35 (e4.get ((s.to : Int).toNat) (by omega) 0 (by decide) _ _ (fun x hx => by simp [hx]))) e8) ?_;refine ox 2 [(38, .int .i64 ((↑((Y.tracks.getD ((s.frm : Int).toNat) []).length)) - s.many)), (37, .slice d4 (Y.tracks.getD ((s.frm : Int).toNat) []).length d5)] ?_;have b7 := a7.cutLo (((↑((Y.tracks.getD ((s.frm).toNat) []).length) : Int) - s.many).toNat) (by omega);obtain ⟨l9, m1, m0, m4, e9, m2, m3, m5⟩ := id b7;rw [e9] at b7;refine ofp_det (det_eq (det_slice (x := (.tmp 37)) (lo := (some (.tmp 38))) (hi := none) (T := 23) (e := 3) (sz := 1) (((↑((Y.tracks.getD ((s.frm).toNat) []).length) : Int) - s.many).toNat) ((Y.tracks.getD ((s.frm : Int).toNat) []).length) (d := 39) (ty := 23) (gd := none) (by kernel_rfl) rfl (by kernel_rfl) (by kernel_rfl) rfl (.inr ⟨_, .i64, rfl, (look_int rfl (by omega))⟩) (.inl ⟨rfl, rfl⟩) (by omega) (by omega)) e9) ?_;refine ofp_stp (sc (some 36) (F := ((b1, Obj.cells #[.int .i64 (s.frm), .int .i64 (s.to), .int .i64 (s.many)] 52 (0, 0)) :: (y, Obj.cells #[.slice a2 Y.cars.length a3, .slice a4 Y.room.length a5, .slice a0 y_ws.length a1] 110 (0, 0)) :: (y_Ms ++ F))) (CloneInts_ct _ _ _ d6 (by have h9 := hq _ (getD_mem (d := []) (xs := Y.tracks) (k := s.to.toNat) (by omega)); omega) :) (PR _) (fun l7 m6 l5 a8 h6 => ?_));obtain ⟨n2, b9, e1, d7, e5⟩ := h6;rw [e1, d7]; clear e1 d7;replace y_3r := y_3r.mono a8;replace a7 := a7.mono a8;replace b7 := b7.mono a8;obtain ⟨f0, f1, f2, i7⟩ := e5.shape;subst f2;refine ofp_settle (S' := ((b9 ++ F))) (List.perm_middle.trans (PC _ (List.perm_middle.trans (PC _ (PO _ _ _))))) ?_;show OFP _ _ _ _ _ _ ((36, .slice f0 ((Y.tracks.getD ((s.to : Int).toNat) [])).length f1) :: _) _ _;refine ofp_stp (stp_append (d := 40) (x := (.tmp 36)) (y := (.tmp 39)) (T := 23) (T' := 23) (E := 3) (E' := 3) (sz := 1) (bs := 8) (z := .int .i64 (0)) (cell := intCell) (xs := (Y.tracks.getD ((s.to : Int).toNat) [])) (ys := (Y.tracks.getD ((s.frm : Int).toNat) []).drop (((↑((Y.tracks.getD ((s.frm).toNat) []).length) : Int) - s.many).toNat)) (Ms := b9) (ty := 23) (gd := none) (by kernel_rfl) rfl (by kernel_rfl) (by kernel_rfl) (by kernel_rfl) (by kernel_rfl) (by kernel_rfl) (by decide) (by kernel_rfl) rfl rfl (e5) (show List.Perm ((b1, Obj.cells #[.int .i64 (s.frm), .int .i64 (s.to), .int .i64 (s.many)] 52 (0, 0)) :: (y, Obj.cells #[.slice a2 Y.cars.length a3, .slice a4 Y.room.length a5, .slice a0 y_ws.length a1] 110 (0, 0)) :: (y_Ms ++ (b9 ++ F))) ((b9 ++ (b1, Obj.cells #[.int .i64 (s.frm), .int .i64 (s.to), .int .i64 (s.many)] 52 (0, 0)) :: (y, Obj.cells #[.slice a2 Y.cars.length a3, .slice a4 Y.room.length a5, .slice a0 y_ws.length a1] 110 (0, 0)) :: (y_Ms ++ F))) from ((PC _ ((PC _ (PO _ _ _)).trans (PM.symm))).trans (PM.symm))) (one_intCell _) b7.src (by first | omega | (have h9 := hq _ (getD_mem (d := []) (xs := Y.tracks) (k := s.to.toNat) (by omega)); have d3 := hq _ (getD_mem (d := []) (xs := Y.tracks) (k := s.frm.toNat) (by omega)); simp only [LD]; omega)) (fun n4 f9 d9 => ?_));refine ofp_settle (S' := ((f9 ++ F))) (List.perm_middle.trans (PC _ (List.perm_middle.trans (PC _ (PO _ _ _))))) ?_;obtain ⟨d1, d2, h8, k2⟩ := d9.shape;subst h8;show OFP _ _ _ _ _ _ ((40, .slice d1 (((Y.tracks.getD ((s.to : Int).toNat) [])) ++ ((Y.tracks.getD ((s.frm : Int).toNat) []).drop (((↑((Y.tracks.getD ((s.frm).toNat) []).length) : Int) - s.many).toNat))).length d2) :: _) _ _;refine ofp_end ?_;refine nm (nm ?_);obtain ⟨k0, c3⟩ := y_3h.row undef;refine sd (diI 41 1 (s.to) c3.addr) ?_;have h9 := hq _ (getD_mem (d := []) (xs := Y.tracks) (k := s.to.toNat) (by omega)); have d3 := hq _ (getD_mem (d := []) (xs := Y.tracks) (k := s.frm.toNat) (by omega)); have q5 : (Y.tracks.getD s.to.toNat [] ++ (Y.tracks.getD s.frm.toNat []).drop ((↑((Y.tracks.getD ((s.frm).toNat) []).length) : Int) - s.many).toNat).length ≤ 2000000 := by (simp only [LA, LD]; omega)
 refine sfz (A := ((b1, Obj.cells #[.int .i64 (s.frm), .int .i64 (s.to), .int .i64 (s.many)] 52 (0, 0)) :: (y, Obj.cells #[.slice a2 Y.cars.length a3, .slice a4 Y.room.length a5, .slice a0 y_ws.length a1] 110 (0, 0)) :: (y_Ms ++ F))) 0 d9 ((PC _ ((PC _ (PO _ _ _)).trans (PM.symm))).trans (PM.symm)) (fun m7 b4 b2 => ?_);replace y_3r := y_3r.mono b4;replace a7 := a7.mono b4;obtain ⟨g1, g3, g2, g6, c9, g4, g5, g7⟩ := id b2;cases c9;refine sS (stp_storeOwn (T := 23) (x := (.tmp 41)) (y := (.tmp 40)) (rc := fun i f => valCell ((y_ws).getD i undef) f) undef ((s.to : Int).toNat) 0 ((.slice d1 (((Y.tracks.getD ((s.to : Int).toNat) [])) ++ ((Y.tracks.getD ((s.frm : Int).toNat) []).drop (((↑((Y.tracks.getD ((s.frm).toNat) []).length) : Int) - s.many).toNat))).length d2 : Value)) (ty := 0) (gd := none) (by kernel_rfl) rfl y_3h c3 (by omega) (by decide) rfl rfl (by kernel_rfl) rfl rfl (by intro f hf; match f, hf with | 0, _ => rfl) ((PC _ (PM.symm)).trans (PM.symm)) (fun c0 e0 => ?_));refine pm (M' := ((b1, Obj.cells #[.int .i64 (s.frm), .int .i64 (s.to), .int .i64 (s.many)] 52 (0, 0)) :: (y, Obj.cells #[.slice a2 Y.cars.length a3, .slice a4 Y.room.length a5, .slice a0 y_ws.length a1] 110 (0, 0)) :: (c0 ++ F))) (List.perm_middle.trans (PC _ PM)) ?_;have a6 := y_3r.set b2 ((s.to : Int).toNat);have a9 := a6.1
 try simp only [LS, LA, LC, LN, LK] at a9
 refine se ?_;refine rd 11 [(0, true), (1, true), (2, true), (3, true), (4, true), (5, true), (6, true), (7, true), (8, true), (9, true), (10, false)] ((b1, Obj.cells #[.int .i64 (s.frm), .int .i64 (s.to), .int .i64 (s.many)] 52 (0, 0)) :: (y, Obj.cells #[.slice a2 Y.cars.length a3, .slice a4 Y.room.length a5, .slice a0 y_ws.length a1] 110 (0, 0)) :: c0) (F) ?_;refine ox 4 [(45, .pointer (some ⟨y, 2, none⟩))] ?_;refine ofp_det (dlb 46 1 2 y (.slice a0 y_ws.length a1)) ?_;refine ox 1 [(47, .pointer (some ⟨b1, 0, none⟩))] ?_;refine ofp_det (dlb 48 0 0 b1 (.int .i64 (s.frm))) ?_;refine ox 2 [(50, .int .i64 ((↑((Y.tracks.getD ((s.frm : Int).toNat) []).length)) - s.many)), (49, .slice d4 (Y.tracks.getD ((s.frm : Int).toNat) []).length d5)] ?_;have b6 := a7.cutHi (((↑((Y.tracks.getD ((s.frm).toNat) []).length) : Int) - s.many).toNat) (by omega);obtain ⟨i0, i2, i1, i5, c5, i3, i4, i6⟩ := id b6;rw [c5] at b6;refine ofp_det (det_eq (det_slice (x := (.tmp 49)) (lo := none) (hi := (some (.tmp 50))) (T := 23) (e := 3) (sz := 1) (0) (((↑((Y.tracks.getD ((s.frm).toNat) []).length) : Int) - s.many).toNat) (d := 51) (ty := 23) (gd := none) (by kernel_rfl) rfl (by kernel_rfl) (by kernel_rfl) rfl (.inl ⟨rfl, rfl⟩) (.inr ⟨_, .i64, rfl, (look_int rfl (by omega))⟩) (by omega) (by omega)) c5) ?_;refine ofp_stp (sc (some 52) (F := ((b1, Obj.cells #[.int .i64 (s.frm), .int .i64 (s.to), .int .i64 (s.many)] 52 (0, 0)) :: (y, Obj.cells #[.slice a2 Y.cars.length a3, .slice a4 Y.room.length a5, .slice a0 y_ws.length a1] 110 (0, 0)) :: (c0 ++ F))) (CloneInts_ct _ _ _ b6 (by have d3 := hq _ (getD_mem (d := []) (xs := Y.tracks) (k := s.frm.toNat) (by omega)); simp only [LK]; omega) :) (PR _) (fun l8 m8 l6 c1 h7 => ?_));obtain ⟨n3, g0, e2, d8, e6⟩ := h7;rw [e2, d8]; clear e2 d8;replace a6 := a6.mono c1;obtain ⟨c6, c7, f3, i8⟩ := e6.shape;subst f3;refine ofp_settle (S' := ((g0 ++ F))) (List.perm_middle.trans (PC _ (List.perm_middle.trans (PC _ (PO _ _ _))))) ?_;show OFP _ _ _ _ _ _ ((52, .slice c6 (((Y.tracks.getD ((s.frm : Int).toNat) []).take (((↑((Y.tracks.getD ((s.frm).toNat) []).length) : Int) - s.many).toNat))).length c7) :: _) _ _;refine ofp_end ?_;refine nm (nm ?_);obtain ⟨k1, b5⟩ := e0.row undef;simp only [LS] at b5;refine sd (diI 53 1 (s.frm) (fun _ => b5.addr (by omega)) (n := y_ws.length)) ?_;have d3 := hq _ (getD_mem (d := []) (xs := Y.tracks) (k := s.frm.toNat) (by omega)); have q6 : ((Y.tracks.getD s.frm.toNat []).take ((↑((Y.tracks.getD ((s.frm).toNat) []).length) : Int) - s.many).toNat).length ≤ 1000000 := by (simp only [LK]; omega)
 refine sfz (A := ((b1, Obj.cells #[.int .i64 (s.frm), .int .i64 (s.to), .int .i64 (s.many)] 52 (0, 0)) :: (y, Obj.cells #[.slice a2 Y.cars.length a3, .slice a4 Y.room.length a5, .slice a0 y_ws.length a1] 110 (0, 0)) :: (c0 ++ F))) 0 e6 ((PC _ ((PC _ (PO _ _ _)).trans (PM.symm))).trans (PM.symm)) (fun m9 c2 b3 => ?_);replace a6 := a6.mono c2;obtain ⟨g8, h0, g9, h3, d0, h1, h2, h4⟩ := id b3;cases d0;refine sS (stp_storeOwn (T := 23) (x := (.tmp 53)) (y := (.tmp 52)) (rc := fun i f => valCell ((y_ws.set ((s.to : Int).toNat) ((.slice d1 (((Y.tracks.getD ((s.to : Int).toNat) [])) ++ ((Y.tracks.getD ((s.frm : Int).toNat) []).drop (((↑((Y.tracks.getD ((s.frm).toNat) []).length) : Int) - s.many).toNat))).length d2 : Value))).getD i undef) f) undef ((s.frm : Int).toNat) 0 ((.slice c6 (((Y.tracks.getD ((s.frm : Int).toNat) []).take (((↑((Y.tracks.getD ((s.frm).toNat) []).length) : Int) - s.many).toNat))).length c7 : Value)) (ty := 0) (gd := none) (by kernel_rfl) rfl e0 (by simpa only [LS] using b5) (by simp only [LS]; omega) (by decide) rfl rfl (by kernel_rfl) rfl rfl (by intro f hf; match f, hf with | 0, _ => rfl) ((PC _ (PM.symm)).trans (PM.symm)) (fun c8 h5 => ?_));refine pm (M' := ((b1, Obj.cells #[.int .i64 (s.frm), .int .i64 (s.to), .int .i64 (s.many)] 52 (0, 0)) :: (y, Obj.cells #[.slice a2 Y.cars.length a3, .slice a4 Y.room.length a5, .slice a0 y_ws.length a1] 110 (0, 0)) :: (c8 ++ F))) (List.perm_middle.trans (PC _ PM)) ?_;have c4 := a6.set b3 ((s.frm : Int).toNat);have b0 := c4.1
 try simp only [LS, LA, LC, LN, LK] at b0
 refine ee ?_;refine ppm (M' := ((y, Obj.cells #[.slice a2 Y.cars.length a3, .slice a4 Y.room.length a5, .slice a0 y_ws.length a1] 110 (0, 0)) :: (c8 ++ (b1, Obj.cells #[.int .i64 (s.frm), .int .i64 (s.to), .int .i64 (s.many)] 52 (0, 0)) :: F))) ((PS _ _ _).trans (PC _ (PM.symm))) ?_;refine pst_end0 ([(y, Obj.cells #[.slice a2 Y.cars.length a3, .slice a4 Y.room.length a5, .slice a0 y_ws.length a1] 110 (0, 0))] ++ (c8)) (by kernel_rfl) (by simp only [AA, NA, CA]; exact (TK _ (TA (TC _ (TR _)) _))) (Imm.le.trans (Imm.le.trans (Imm.le.trans a8 b4) c1) c2) ?_;exact ⟨_, _, rfl, rfl, h5, c4⟩

noncomputable def c_try (p : List Nat) : Code := sub (bodyOf Tryz.f156) p
theorem try_ct (I : Imm) (y : Nat) (y_1 y_2 y_3 : Value) (y_ws : List Value) (y_Ms : Seg) (Y : Yard) (s : Shift) (d : Nat) (r : Nat) (r_es : Array MapEntry) (r_cl : Nat) (m : Met) (g : Value) (gs : List Value) (A : Yard) (ps : List (Yard → Bool)) (y_1f : IsCars I y_1 Y.cars) (y_2f : IsInts I y_2 Y.room) (y_3h : Own 23 1 valCell y_3 y_ws y_Ms) (y_3r : RowsV I y_ws Y.tracks) (r_is : MapIs encP r_es (metV m)) (g_f : IsVals I g gs) (hG : Glob I) (hgo : GoalsOk Tryz.prog 23 110 I A gs ps) (hka : Kin A Y) (hfa : Fine A) (hd : d ≤ 4) (hm : mayErr Y s = 0) (hs : SearchAt d) : Ct Tryz.prog 156 #[.pointer (some ⟨y, 0, none⟩), .agg #[.int .i64 s.frm, .int .i64 s.to, .int .i64 s.many], .int .i64 ↑d, .map (some r), g] I ([(y, Obj.cells #[y_1, y_2, y_3] 110 (0, 0))] ++ (y_Ms ++ ([(r, Obj.map r_es r_cl)]))) (fun v I' M' => ∃ y_wt : List Value, ∃ y_Mt : Seg, ∃ r_et : Array MapEntry, ∃ r_ct : Nat, ∃ u0 : Value, ∃ Ms0 : Seg, v = .tuple #[u0, .bool ((searchM (allP ps) d (moved Y s) m).1.isSome)] ∧ M' = [(y, Obj.cells #[y_1, y_2, y_3] 110 (0, 0))] ++ (y_Mt ++ ([(r, Obj.map r_et r_ct)] ++ (Ms0))) ∧ Own 23 1 valCell y_3 y_wt y_Mt ∧ RowsV I' y_wt (Y).tracks ∧ MapIs encP r_et (metV ((searchM (allP ps) d (moved Y s) m).2)) ∧ Own 52 3 shiftCell u0 ((searchM (allP ps) d (moved Y s) m).1.getD []) Ms0) := by
 have a6 := y_1f;obtain ⟨a0, a1, g1, g4, d9, g2, g3, g5⟩ := id a6;subst d9;have a7 := y_2f;obtain ⟨a2, a3, g6, g9, e0, g7, g8, h0⟩ := id a7;subst e0;obtain ⟨a4, a5, e1, h1⟩ := y_3h.shape; subst e1;have b9 := y_3r.1
 try simp only [LS, LA, LC, LN, LK] at b9
 obtain ⟨f7, f8, i7, j0, h6, i8, i9, j1⟩ := id g_f;subst h6;refine fnM_of_run (fn := Tryz.f156) (args := [_, _, _, _, _]) (N := 25) Tryz.func156 rfl (by kernel_rfl) (Nat.le_of_ble_eq_true rfl) (fun F => ?_);show Run _ _ (c_try []) _ _ [(0, .pointer (some ⟨y, 0, none⟩)), (1, .agg #[.int .i64 (s.frm), .int .i64 (s.to), .int .i64 (s.many)]), (2, .int .i64 (↑d)), (3, .map (some r)), (4, .slice f7 gs.length f8)] _ _;refine run_mem (M' := ((y, Obj.cells #[.slice a0 Y.cars.length a1, .slice a2 Y.room.length a3, .slice a4 y_ws.length a5] 110 (0, 0)) :: (y_Ms ++ (r, Obj.map r_es r_cl) :: F))) (fun w h => by simpa only [AA, CA, NA] using h) ?_;refine rpm (M' := ((y, Obj.cells #[.slice a0 Y.cars.length a1, .slice a2 Y.room.length a3, .slice a4 y_ws.length a5] 110 (0, 0)) :: (r, Obj.map r_es r_cl) :: (y_Ms ++ F))) (PC _ PM) ?_;refine rqr ?_;refine sS (sb 6 52 #[.int .i64 (s.frm), .int .i64 (s.to), .int .i64 (s.many)] (fun b1 => ?_));refine sp 2 [(11, .bool (false)), (10, .slice none 0 0)] ?_;refine sn ?_;have e4 := mayErr_ok hm;have h7 := Kin.good hfa hka;refine sp 1 [(12, .pointer (some ⟨y, 0, none⟩))] ?_;refine sd (dnb 13 0 0 b1 [.int .i64 (s.frm), .int .i64 (s.to), .int .i64 (s.many)]) ?_;have c8 := move_ct I (y) _ _ _ _ _ (Y) (s) a6 a7 y_3h y_3r (by exact e4.1) (by exact e4.2.1) (by exact e4.2.2) (by exact h7.le);refine sS (sc (some 14) (F := ((b1, Obj.cells #[.int .i64 (s.frm), .int .i64 (s.to), .int .i64 (s.many)] 52 (0, 0)) :: (r, Obj.map r_es r_cl) :: F)) (c8 :) ((PS _ _ _).trans (PC _ ((PC _ (PM.symm)).trans (PM.symm)))) (fun i2 I3 h9 b5 h8 => ?_));obtain ⟨h2, c3, g0, f9, c0, b4⟩ := h8;rw [g0, f9]; clear g0 f9;replace a6 := a6.mono b5;replace a7 := a7.mono b5;replace g_f := g_f.mono b5;replace hG := hG.mono b5;replace hgo := hgo.mono b5;obtain ⟨e9, f0, f1, f2⟩ := id c0.shape;have b6 := b4.1
 try simp only [LS, LA, LC, LN, LK] at b6
 refine seq_mem (M' := ((y, Obj.cells #[.slice a0 Y.cars.length a1, .slice a2 Y.room.length a3, .slice a4 y_ws.length a5] 110 (0, 0)) :: (c3 ++ (b1, Obj.cells #[.int .i64 (s.frm), .int .i64 (s.to), .int .i64 (s.many)] 52 (0, 0)) :: (r, Obj.map r_es r_cl) :: F))) (fun w h => by simpa only [AA, CA, NA] using h) ?_;refine pm (M' := ((y, Obj.cells #[.slice a0 Y.cars.length a1, .slice a2 Y.room.length a3, .slice a4 y_ws.length a5] 110 (0, 0)) :: (b1, Obj.cells #[.int .i64 (s.frm), .int .i64 (s.to), .int .i64 (s.many)] 52 (0, 0)) :: (r, Obj.map r_es r_cl) :: (c3 ++ F))) (PC _ (List.perm_middle.trans (PC _ PM))) ?_;refine sn ?_;refine sp 1 [(15, .pointer (some ⟨y, 0, none⟩))] ?_;refine sd (dnb 16 1 0 b1 [.int .i64 (s.frm), .int .i64 (s.to), .int .i64 (s.many)]) ?_;have c9 := back_ct I3 (s);refine sS (sc (some 17) (c9 :) (.refl _) (fun i3 h3 i0 b2 e5 => ?_));obtain ⟨d3, d1⟩ := e5;rw [d3, d1]; clear d3 d1;replace a6 := a6.mono b2;replace a7 := a7.mono b2;replace g_f := g_f.mono b2;replace hG := hG.mono b2;replace hgo := hgo.mono b2;replace b4 := b4.mono b2;refine nm ?_;refine seq_defer (f := (.func 86)) (fid := 86) (args := #[.tmp 15, .tmp 17]) (tys := #[108, 52]) (vals := [.pointer (some ⟨y, 0, none⟩), .agg #[.int .i64 ((backShift s).frm), .int .i64 ((backShift s).to), .int .i64 ((backShift s).many)]]) (cv := []) (ty := 0) (by kernel_rfl) rfl rfl ?_;refine sn ?_;refine sp 4 [(21, .slice f7 gs.length f8), (20, .map (some r)), (19, .int .i64 (↑d)), (18, .pointer (some ⟨y, 0, none⟩))] ?_;have d0 := hs h3 (y) _ _ _ _ _ (moved Y s) (d) (r) (r_es) (r_cl) (m) _ _ (A) (ps) a6 a7 c0 b4 r_is g_f (by assumption) (by assumption) (by exact hka.moved hm) (by assumption) (by omega) (by rfl);refine sS (sc (some 22) (F := ((b1, Obj.cells #[.int .i64 (s.frm), .int .i64 (s.to), .int .i64 (s.many)] 52 (0, 0)) :: F)) (d0 :) (by simpa only [AA, CA, NA] using (PC _ (((PC _ (PM.symm)).trans (PM.symm)).trans (PA _ (PS _ _ _))))) (fun i4 h4 i1 b8 e6 => ?_));obtain ⟨c7, b3, a9, a8, i5, b0, d6, d2, c1, c2, d8, d7⟩ := e6;rw [d6, d2]; clear d6 d2;replace a6 := a6.mono b8;replace a7 := a7.mono b8;obtain ⟨f3, f4, f5, f6⟩ := id c1.shape;have b7 := c2.1
 try simp only [LS, LA, LC, LN, LK] at b7
 obtain ⟨c4, c5, c6, e8⟩ := d7.shape;subst c6;refine seq_mem (M' := ((y, Obj.cells #[.slice a0 Y.cars.length a1, .slice a2 Y.room.length a3, .slice a4 y_ws.length a5] 110 (0, 0)) :: (b3 ++ (r, Obj.map a9 a8) :: (b0 ++ (b1, Obj.cells #[.int .i64 (s.frm), .int .i64 (s.to), .int .i64 (s.many)] 52 (0, 0)) :: F)))) (fun w h => by simpa only [AA, CA, NA] using h) ?_;refine pm (M' := ((y, Obj.cells #[.slice a0 Y.cars.length a1, .slice a2 Y.room.length a3, .slice a4 y_ws.length a5] 110 (0, 0)) :: (r, Obj.map a9 a8) :: (b1, Obj.cells #[.int .i64 (s.frm), .int .i64 (s.to), .int .i64 (s.many)] 52 (0, 0)) :: (b3 ++ (b0 ++ F)))) (PC _ (List.perm_middle.trans (PC _ ((PA _ PM).trans PM)))) ?_;refine sp 4 [(11, .bool ((searchM (allP ps) d (moved Y s) m).1.isSome)), (10, .slice c4 ((searchM (allP ps) d (moved Y s) m).1.getD []).length c5)] ?_;refine se (rret ?_);have e7 := back_ok hm;have e3 := move_ctD h4 y (.slice a0 Y.cars.length a1) (.slice a2 Y.room.length a3) (.slice a4 y_ws.length a5) c7 b3 (moved Y s) (backShift s) a6 a7 c1 c2 e7.1 e7.2.1 e7.2.2 (Kin.good hfa (hka.moved hm)).le;refine pst_deferred (fid := 86) (vals := [.pointer (some ⟨y, 0, none⟩), .agg #[.int .i64 ((backShift s).frm), .int .i64 ((backShift s).to), .int .i64 ((backShift s).many)]]) (cv := []) (ds := []) (F1 := ((r, Obj.map a9 a8) :: (b1, Obj.cells #[.int .i64 (s.frm), .int .i64 (s.to), .int .i64 (s.many)] 52 (0, 0)) :: (b0 ++ F))) (by kernel_rfl) e3 (by simpa only [AA, CA, NA] using (PC _ ((PC _ (PM.symm)).trans (PM.symm)))) (fun dv dI dM h5 dp => ?_);obtain ⟨i6, e2, rfl, rfl, d4, d5⟩ := dp;rw [moved_back hm] at d5;refine pst_mem (M' := ((y, Obj.cells #[.slice a0 Y.cars.length a1, .slice a2 Y.room.length a3, .slice a4 y_ws.length a5] 110 (0, 0)) :: (e2 ++ (r, Obj.map a9 a8) :: (b1, Obj.cells #[.int .i64 (s.frm), .int .i64 (s.to), .int .i64 (s.many)] 52 (0, 0)) :: (b0 ++ F)))) (fun w h => by simpa only [AA, CA, NA] using h) ?_;refine pst_marks (R := ((y, Obj.cells #[.slice a0 Y.cars.length a1, .slice a2 Y.room.length a3, .slice a4 y_ws.length a5] 110 (0, 0)) :: (e2 ++ (r, Obj.map a9 a8) :: (b1, Obj.cells #[.int .i64 (s.frm), .int .i64 (s.to), .int .i64 (s.many)] 52 (0, 0)) :: (b0 ++ F)))) [] (.inl rfl) (PR _) ?_;refine ppm (M' := ((y, Obj.cells #[.slice a0 Y.cars.length a1, .slice a2 Y.room.length a3, .slice a4 y_ws.length a5] 110 (0, 0)) :: (e2 ++ (r, Obj.map a9 a8) :: (b0 ++ (b1, Obj.cells #[.int .i64 (s.frm), .int .i64 (s.to), .int .i64 (s.many)] 52 (0, 0)) :: F)))) (PC _ (PA _ (PC _ (PM.symm)))) ?_;refine pst_ret2 (t := 10) (u := 11) ([(y, Obj.cells #[.slice a0 Y.cars.length a1, .slice a2 Y.room.length a3, .slice a4 y_ws.length a5] 110 (0, 0))] ++ (e2 ++ ([(r, Obj.map a9 a8)] ++ (b0)))) (by kernel_rfl) rfl rfl (by simp only [AA, NA, CA]; exact (TK _ (TA (TK _ (TA (TC _ (TR _)) _)) _))) (Imm.le.trans (Imm.le.trans (Imm.le.trans b5 b2) b8) h5) ?_;exact ⟨_, _, _, _, _, _, rfl, rfl, d4, d5, d8, d7⟩

noncomputable def c_search (p : List Nat) : Code := sub (bodyOf Tryz.f130) p
set_option maxHeartbeats 1000000 in
theorem search_of (I : Imm) (y : Nat) (y_1 y_2 y_3 : Value) (y_ws : List Value) (y_Ms : Seg) (Y : Yard) (d : Nat) (r : Nat) (r_es : Array MapEntry) (r_cl : Nat) (m : Met) (g : Value) (gs : List Value) (A : Yard) (ps : List (Yard → Bool)) (y_1f : IsCars I y_1 Y.cars) (y_2f : IsInts I y_2 Y.room) (y_3h : Own 23 1 valCell y_3 y_ws y_Ms) (y_3r : RowsV I y_ws Y.tracks) (r_is : MapIs encP r_es (metV m)) (g_f : IsVals I g gs) (hG : Glob I) (hgo : GoalsOk Tryz.prog 23 110 I A gs ps) (hka : Kin A Y) (hfa : Fine A) (hd : d ≤ 4) (ht : ∀ n, n + 1 = d → SearchAt n) : Ct Tryz.prog 130 #[.pointer (some ⟨y, 0, none⟩), .int .i64 ↑d, .map (some r), g] I ([(y, Obj.cells #[y_1, y_2, y_3] 110 (0, 0))] ++ (y_Ms ++ ([(r, Obj.map r_es r_cl)]))) (fun v I' M' => ∃ y_wt : List Value, ∃ y_Mt : Seg, ∃ r_et : Array MapEntry, ∃ r_ct : Nat, ∃ u0 : Value, ∃ Ms0 : Seg, v = .tuple #[u0, .bool ((searchM (allP ps) d Y m).1.isSome)] ∧ M' = [(y, Obj.cells #[y_1, y_2, y_3] 110 (0, 0))] ++ (y_Mt ++ ([(r, Obj.map r_et r_ct)] ++ (Ms0))) ∧ Own 23 1 valCell y_3 y_wt y_Mt ∧ RowsV I' y_wt (Y).tracks ∧ MapIs encP r_et (metV ((searchM (allP ps) d Y m).2)) ∧ Own 52 3 shiftCell u0 ((searchM (allP ps) d Y m).1.getD []) Ms0) := by
 have a6 := y_1f;obtain ⟨a2, a3, l2, l5, i5, l3, l4, l6⟩ := id a6;subst i5;have a7 := y_2f;obtain ⟨a4, a5, l7, m0, i6, l8, l9, m1⟩ := id a7;subst i6;obtain ⟨a0, a1, i7, m3⟩ := y_3h.shape; subst i7;have f2 := y_3r.1
 try simp only [LS, LA, LC, LN, LK] at f2
 obtain ⟨d3, d4, p0, p3, m8, p1, p2, p4⟩ := id g_f;subst m8;refine fnM_of_run (fn := Tryz.f130) (args := [_, _, _, _]) (N := 59) Tryz.func130 rfl (by kernel_rfl) (Nat.le_of_ble_eq_true rfl) (fun F => ?_);show Run _ _ (c_search []) _ _ [(0, .pointer (some ⟨y, 0, none⟩)), (1, .int .i64 (↑d)), (2, .map (some r)), (3, .slice d3 gs.length d4)] _ _;refine run_mem (M' := ((y, Obj.cells #[.slice a2 Y.cars.length a3, .slice a4 Y.room.length a5, .slice a0 y_ws.length a1] 110 (0, 0)) :: (y_Ms ++ (r, Obj.map r_es r_cl) :: F))) (fun w h => by simpa only [AA, CA, NA] using h) ?_;refine rpm (M' := ((y, Obj.cells #[.slice a2 Y.cars.length a3, .slice a4 Y.room.length a5, .slice a0 y_ws.length a1] 110 (0, 0)) :: (r, Obj.map r_es r_cl) :: (y_Ms ++ F))) (PC _ PM) ?_;have p5 := hka.len3 hfa; have n0 := hka.cars5 hfa; have k9 := Kin.good hfa hka;refine rqr ?_;refine sS (sb 4 108 #[.pointer (some ⟨y, 0, none⟩)] (fun b1 => ?_));refine sS (sb 5 3 #[.int .i64 (↑d)] (fun b3 => ?_));refine sS (sb 6 162 #[.map (some r)] (fun b5 => ?_));refine sS (sb 7 160 #[.slice d3 gs.length d4] (fun b7 => ?_));refine sS (sal 8 45 #[.slice none 0 0] (fun b9 => ?_));refine sS (sal 9 4 #[.bool (false)] (fun a8 => ?_));refine se ?_;refine run_scope (x := c_search [1, 0]) (by kernel_rfl) ?_;refine rq (rqr ?_);refine sd (dlb 16 5 0 b1 (.pointer (some ⟨y, 0, none⟩))) ?_;refine sd (dlb 17 2 0 b7 (.slice d3 gs.length d4)) ?_;have g4 := all_ct I (y) _ _ _ _ _ (Y) _ _ (A) (ps) a6 a7 y_3h y_3r g_f (by first | assumption | exact hgo.mono hI) (by assumption);refine sS (sc (some 18) (F := ((a8, Obj.cells #[.bool (false)] 4 (0, 0)) :: (b9, Obj.cells #[.slice none 0 0] 45 (0, 0)) :: (b7, Obj.cells #[.slice d3 gs.length d4] 160 (0, 0)) :: (b5, Obj.cells #[.map (some r)] 162 (0, 0)) :: (b3, Obj.cells #[.int .i64 (↑d)] 3 (0, 0)) :: (b1, Obj.cells #[.pointer (some ⟨y, 0, none⟩)] 108 (0, 0)) :: (r, Obj.map r_es r_cl) :: F)) (g4 :) (((PC _ ((PC _ ((PC _ ((PC _ ((PC _ (PS _ _ _)).trans (PS _ _ _))).trans (PS _ _ _))).trans (PS _ _ _))).trans (PS _ _ _))).trans (PS _ _ _)).trans (PC _ ((PC _ ((PC _ ((PC _ ((PC _ ((PC _ ((PC _ (PM.symm)).trans (PM.symm))).trans (PM.symm))).trans (PM.symm))).trans (PM.symm))).trans (PM.symm))).trans (PM.symm)))) (fun n9 m4 n5 c1 j4 => ?_));obtain ⟨i0, g9⟩ := j4;rw [i0, g9]; clear i0 g9;replace a6 := a6.mono c1;replace a7 := a7.mono c1;replace y_3r := y_3r.mono c1;replace g_f := g_f.mono c1;replace hG := hG.mono c1;replace hgo := hgo.mono c1;refine seq_mem (M' := ((y, Obj.cells #[.slice a2 Y.cars.length a3, .slice a4 Y.room.length a5, .slice a0 y_ws.length a1] 110 (0, 0)) :: (y_Ms ++ (a8, Obj.cells #[.bool (false)] 4 (0, 0)) :: (b9, Obj.cells #[.slice none 0 0] 45 (0, 0)) :: (b7, Obj.cells #[.slice d3 gs.length d4] 160 (0, 0)) :: (b5, Obj.cells #[.map (some r)] 162 (0, 0)) :: (b3, Obj.cells #[.int .i64 (↑d)] 3 (0, 0)) :: (b1, Obj.cells #[.pointer (some ⟨y, 0, none⟩)] 108 (0, 0)) :: (r, Obj.map r_es r_cl) :: F))) (fun w h => by simpa only [AA, CA, NA] using h) ?_;refine pm (M' := ((y, Obj.cells #[.slice a2 Y.cars.length a3, .slice a4 Y.room.length a5, .slice a0 y_ws.length a1] 110 (0, 0)) :: (a8, Obj.cells #[.bool (false)] 4 (0, 0)) :: (b9, Obj.cells #[.slice none 0 0] 45 (0, 0)) :: (b7, Obj.cells #[.slice d3 gs.length d4] 160 (0, 0)) :: (b5, Obj.cells #[.map (some r)] 162 (0, 0)) :: (b3, Obj.cells #[.int .i64 (↑d)] 3 (0, 0)) :: (b1, Obj.cells #[.pointer (some ⟨y, 0, none⟩)] 108 (0, 0)) :: (r, Obj.map r_es r_cl) :: (y_Ms ++ F))) (PC _ (List.perm_middle.trans (PC _ (List.perm_middle.trans (PC _ (List.perm_middle.trans (PC _ (List.perm_middle.trans (PC _ (List.perm_middle.trans (PC _ (List.perm_middle.trans (PC _ PM))))))))))))) ?_;refine se ?_;refine rc 18 rfl (fun h1 => ?_) (fun h1 => ?_)
 ·
  have j0 := h1;refine rqr ?_;refine sS (ss 2 0 b9 [.slice none 0 0] [.slice none 0 0] (_ :: _ :: _ :: _ :: _ :: _ :: _ :: _ :: _) (cs := [_]) rfl rfl ?_);refine sS (ss 1 0 a8 [.bool (true)] [.bool (true)] (_ :: _ :: _ :: _ :: _ :: _ :: _ :: _ :: _) (cs := [_]) rfl rfl ?_);refine se (rret ?_);refine (pst_ret_pass (pst_ret_scope ?_));have c4 := search_goal (d := d) (m := m) h1;refine pst_marks (R := ((y, Obj.cells #[.slice a2 Y.cars.length a3, .slice a4 Y.room.length a5, .slice a0 y_ws.length a1] 110 (0, 0)) :: (a8, Obj.cells #[.bool (true)] 4 (0, 0)) :: (b9, Obj.cells #[.slice none 0 0] 45 (0, 0)) :: (b7, Obj.cells #[.slice d3 gs.length d4] 160 (0, 0)) :: (b5, Obj.cells #[.map (some r)] 162 (0, 0)) :: (b3, Obj.cells #[.int .i64 (↑d)] 3 (0, 0)) :: (b1, Obj.cells #[.pointer (some ⟨y, 0, none⟩)] 108 (0, 0)) :: (r, Obj.map r_es r_cl) :: (y_Ms ++ F))) [] (.inl rfl) (PR _) ?_;refine ppm (M' := ((y, Obj.cells #[.slice a2 Y.cars.length a3, .slice a4 Y.room.length a5, .slice a0 y_ws.length a1] 110 (0, 0)) :: (y_Ms ++ (r, Obj.map r_es r_cl) :: (a8, Obj.cells #[.bool (true)] 4 (0, 0)) :: (b9, Obj.cells #[.slice none 0 0] 45 (0, 0)) :: (b7, Obj.cells #[.slice d3 gs.length d4] 160 (0, 0)) :: (b5, Obj.cells #[.map (some r)] 162 (0, 0)) :: (b3, Obj.cells #[.int .i64 (↑d)] 3 (0, 0)) :: (b1, Obj.cells #[.pointer (some ⟨y, 0, none⟩)] 108 (0, 0)) :: F))) (PC _ (((PC _ ((PC _ ((PC _ ((PC _ ((PC _ ((PC _ (PM.symm)).trans (PM.symm))).trans (PM.symm))).trans (PM.symm))).trans (PM.symm))).trans (PM.symm))).trans (PM.symm)).trans (PA _ ((PC _ ((PC _ ((PC _ ((PC _ ((PC _ (PS _ _ _)).trans (PS _ _ _))).trans (PS _ _ _))).trans (PS _ _ _))).trans (PS _ _ _))).trans (PS _ _ _))))) ?_;refine pst_retC2 (t := 8) (T := 45) (n := 1) (u := 9) (U := 4) (n2 := 1) ([(y, Obj.cells #[.slice a2 Y.cars.length a3, .slice a4 Y.room.length a5, .slice a0 y_ws.length a1] 110 (0, 0))] ++ (y_Ms ++ ([(r, Obj.map r_es r_cl)] ++ ([])))) (by kernel_rfl) rfl (by kernel_rfl) rfl (seesN_mem (n := 1) (cs := #[.slice none 0 0]) (b := b9) (off := 0) (T := 45) (fz := (0, 0)) (vs := [.slice none 0 0]) (by simp) rfl) (.inr ⟨by kernel_rfl, rfl⟩) rfl (by kernel_rfl) rfl (seesN_mem (n := 1) (cs := #[.bool (true)]) (b := a8) (off := 0) (T := 4) (fz := (0, 0)) (vs := [.bool (true)]) (by simp) rfl) (.inr ⟨by kernel_rfl, rfl⟩) (by simp only [AA, NA, CA]; exact (TK _ (TA (TK _ (TC _ (TC _ (TC _ (TC _ (TC _ (TC _ (TR _)))))))) _))) c1 ?_;exact ⟨_, _, _, _, _, _, (by rw [c4]; rfl), rfl, y_3h, y_3r, ((show m = (searchM (allP ps) d Y m).2 from by rw [c4]) ▸ r_is), ((show [] = (searchM (allP ps) d Y m).1.getD [] from by rw [c4]; rfl) ▸ Own.nil _ _ _)⟩
 have j0 := h1;have k8 : allP ps Y = false := h1;refine rskip (pst_next (rqr ?_));refine sd (dlb 19 6 0 b1 (.pointer (some ⟨y, 0, none⟩))) ?_;have g5 := where_ct m4 (y) _ _ _ _ _ (Y) a6 a7 y_3h y_3r (by exact k9.ok) (by exact n0) (by omega);refine sS (sc (some 20) (F := ((a8, Obj.cells #[.bool (false)] 4 (0, 0)) :: (b9, Obj.cells #[.slice none 0 0] 45 (0, 0)) :: (b7, Obj.cells #[.slice d3 gs.length d4] 160 (0, 0)) :: (b5, Obj.cells #[.map (some r)] 162 (0, 0)) :: (b3, Obj.cells #[.int .i64 (↑d)] 3 (0, 0)) :: (b1, Obj.cells #[.pointer (some ⟨y, 0, none⟩)] 108 (0, 0)) :: (r, Obj.map r_es r_cl) :: F)) (g5 :) (PC _ ((PC _ ((PC _ ((PC _ ((PC _ ((PC _ ((PC _ (PM.symm)).trans (PM.symm))).trans (PM.symm))).trans (PM.symm))).trans (PM.symm))).trans (PM.symm))).trans (PM.symm))) (fun o0 m5 n6 c7 j5 => ?_));obtain ⟨i1, h0⟩ := j5;rw [i1, h0]; clear i1 h0;replace a6 := a6.mono c7;replace a7 := a7.mono c7;replace y_3r := y_3r.mono c7;replace g_f := g_f.mono c7;replace hG := hG.mono c7;replace hgo := hgo.mono c7;refine seq_mem (M' := ((y, Obj.cells #[.slice a2 Y.cars.length a3, .slice a4 Y.room.length a5, .slice a0 y_ws.length a1] 110 (0, 0)) :: (y_Ms ++ (a8, Obj.cells #[.bool (false)] 4 (0, 0)) :: (b9, Obj.cells #[.slice none 0 0] 45 (0, 0)) :: (b7, Obj.cells #[.slice d3 gs.length d4] 160 (0, 0)) :: (b5, Obj.cells #[.map (some r)] 162 (0, 0)) :: (b3, Obj.cells #[.int .i64 (↑d)] 3 (0, 0)) :: (b1, Obj.cells #[.pointer (some ⟨y, 0, none⟩)] 108 (0, 0)) :: (r, Obj.map r_es r_cl) :: F))) (fun w h => by simpa only [AA, CA, NA] using h) ?_;refine pm (M' := ((y, Obj.cells #[.slice a2 Y.cars.length a3, .slice a4 Y.room.length a5, .slice a0 y_ws.length a1] 110 (0, 0)) :: (a8, Obj.cells #[.bool (false)] 4 (0, 0)) :: (b9, Obj.cells #[.slice none 0 0] 45 (0, 0)) :: (b7, Obj.cells #[.slice d3 gs.length d4] 160 (0, 0)) :: (b5, Obj.cells #[.map (some r)] 162 (0, 0)) :: (b3, Obj.cells #[.int .i64 (↑d)] 3 (0, 0)) :: (b1, Obj.cells #[.pointer (some ⟨y, 0, none⟩)] 108 (0, 0)) :: (r, Obj.map r_es r_cl) :: (y_Ms ++ F))) (PC _ (List.perm_middle.trans (PC _ (List.perm_middle.trans (PC _ (List.perm_middle.trans (PC _ (List.perm_middle.trans (PC _ (List.perm_middle.trans (PC _ (List.perm_middle.trans (PC _ PM))))))))))))) ?_;refine sS (sal 10 113 #[.int .i64 (0), .int .i64 (0), .int .i64 (0), .int .i64 (0), .int .i64 (0), .int .i64 (0), .int .i64 (0), .int .i64 (0), .int .i64 (0), .int .i64 (0)] (fun f3 => ?_));refine sS (stp_storeW (T := 113) (x := (.tmp 10)) (y := (.tmp 20)) (n := 10) (vs := plCells (placeOf Y).val) (M' := ((f3, Obj.cells (plCells (placeOf Y).val) 113 (0, 0)) :: (y, Obj.cells #[.slice a2 Y.cars.length a3, .slice a4 Y.room.length a5, .slice a0 y_ws.length a1] 110 (0, 0)) :: (a8, Obj.cells #[.bool (false)] 4 (0, 0)) :: (b9, Obj.cells #[.slice none 0 0] 45 (0, 0)) :: (b7, Obj.cells #[.slice d3 gs.length d4] 160 (0, 0)) :: (b5, Obj.cells #[.map (some r)] 162 (0, 0)) :: (b3, Obj.cells #[.int .i64 (↑d)] 3 (0, 0)) :: (b1, Obj.cells #[.pointer (some ⟨y, 0, none⟩)] 108 (0, 0)) :: (r, Obj.map r_es r_cl) :: (y_Ms ++ F))) 0 (ty := 0) (gd := none) (by kernel_rfl) rfl rfl rfl (by kernel_rfl) rfl (plCells_size _) (plCells_one _) rfl (rfl) rfl ?_);refine se (rq (rqr ?_));refine sd (dlb 22 5 0 b5 (.map (some r))) ?_;refine sd (det_loadW (x := (.tmp 10)) (T := 113) (n := 10) (d := 23) (ty := 113) (gd := none) (by kernel_rfl) rfl (by kernel_rfl) (by kernel_rfl) (plCells_size _) rfl (.inl (List.mem_of_getElem? (i := 0) rfl))) ?_;refine sd (det_lookup2 (x := (.tmp 22)) (y := (.tmp 23)) (T := 162) (kt := 113) (et := 3) (k := (placeOf Y)) (kvs := metV m) (z := .int .i64 0) (d := 24) (ty := 186) (gd := none) (by kernel_rfl) rfl (by kernel_rfl) (keyOk_place (by kernel_rfl) (by kernel_rfl)) rfl rfl (by kernel_rfl) (.inl (List.mem_of_getElem? (i := 8) rfl)) r_is (metV_getD _ _) (metV_isSome _ _)) ?_;refine sp 5 [(12, .bool ((getM (placeOf Y) m).isSome)), (11, .int .i64 (↑((getM (placeOf Y) m).getD 0)))] ?_;refine se (rq ?_);refine run_cut (fun a w => Slots 59 [(4, .pointer (some ⟨b1, 0, none⟩)), (5, .pointer (some ⟨b3, 0, none⟩)), (6, .pointer (some ⟨b5, 0, none⟩)), (7, .pointer (some ⟨b7, 0, none⟩)), (8, .pointer (some ⟨b9, 0, none⟩)), (9, .pointer (some ⟨a8, 0, none⟩)), (10, .pointer (some ⟨f3, 0, none⟩)), (36, .bool ((cmp .eql (↑d) (0)) || (((getM (placeOf Y) m).isSome) && (cmp .geq (↑((getM (placeOf Y) m).getD 0)) (↑d)))))] a ∧ a.defers = [] ∧ St m5 ((f3, Obj.cells (plCells (placeOf Y).val) 113 (0, 0)) :: (y, Obj.cells #[.slice a2 Y.cars.length a3, .slice a4 Y.room.length a5, .slice a0 y_ws.length a1] 110 (0, 0)) :: (a8, Obj.cells #[.bool (false)] 4 (0, 0)) :: (b9, Obj.cells #[.slice none 0 0] 45 (0, 0)) :: (b7, Obj.cells #[.slice d3 gs.length d4] 160 (0, 0)) :: (b5, Obj.cells #[.map (some r)] 162 (0, 0)) :: (b3, Obj.cells #[.int .i64 (↑d)] 3 (0, 0)) :: (b1, Obj.cells #[.pointer (some ⟨y, 0, none⟩)] 108 (0, 0)) :: (r, Obj.map r_es r_cl) :: (y_Ms ++ F)) w) ?_ ?_
 ·
  refine rr ?_;refine sd (dlb 27 6 0 b3 (.int .i64 (↑d))) ?_;refine sp 2 [(29, .bool (cmp .eql (↑d) (0)))] ?_;refine seq_split 29 rfl (fun h2 => ?_) (fun h2 => ?_)
  ·
   have e6 := h2;have e6 := eql_t e6;refine sp 7 [(36, .bool (true))] ?_;refine ee ?_;refine pst_meet (fun a w hS hD hW => ⟨hS.sub (.cons 4 rfl (.cons 5 rfl (.cons 6 rfl (.cons 7 rfl (.cons 8 rfl (.cons 9 rfl (.cons 10 rfl (.consE 36 rfl (congrArg Value.bool (by simp only [h2, Bool.true_and, Bool.false_and, Bool.and_true, Bool.and_false, Bool.true_or, Bool.false_or, Bool.or_true, Bool.or_false, cond_true, cond_false])) (.nil _))))))))), hD, hW⟩)
  have e6 := h2;have e6 := eql_f e6;refine sp 2 [(31, .bool ((getM (placeOf Y) m).isSome))] ?_;refine seq_split 31 rfl (fun h3 => ?_) (fun h3 => ?_)
  ·
   have j1 := h3;refine sp 1 [(32, .int .i64 (↑((getM (placeOf Y) m).getD 0)))] ?_;refine sd (dlb 33 6 0 b3 (.int .i64 (↑d))) ?_;refine sp 3 [(36, .bool (cmp .geq (↑((getM (placeOf Y) m).getD 0)) (↑d)))] ?_;refine ee ?_;refine pst_meet (fun a w hS hD hW => ⟨hS.sub (.cons 4 rfl (.cons 5 rfl (.cons 6 rfl (.cons 7 rfl (.cons 8 rfl (.cons 9 rfl (.cons 10 rfl (.consE 36 rfl (congrArg Value.bool (by simp only [h2, h3, Bool.true_and, Bool.false_and, Bool.and_true, Bool.and_false, Bool.true_or, Bool.false_or, Bool.or_true, Bool.or_false, cond_true, cond_false])) (.nil _))))))))), hD, hW⟩)
  have j1 := h3;refine sp 5 [(36, .bool (false))] ?_;refine ee ?_;refine pst_meet (fun a w hS hD hW => ⟨hS.sub (.cons 4 rfl (.cons 5 rfl (.cons 6 rfl (.cons 7 rfl (.cons 8 rfl (.cons 9 rfl (.cons 10 rfl (.consE 36 rfl (congrArg Value.bool (by simp only [h2, h3, Bool.true_and, Bool.false_and, Bool.and_true, Bool.and_false, Bool.true_or, Bool.false_or, Bool.or_true, Bool.or_false, cond_true, cond_false])) (.nil _))))))))), hD, hW⟩)
 rintro a w ⟨hS, hD, hW⟩
 refine run_at hS hD hW ?_;clear hS hD hW a w;refine rc 36 rfl (fun h4 => ?_) (fun h4 => ?_)
 ·
  have g0 := h4;refine rqr ?_;refine sS (ss 3 0 b9 [.slice none 0 0] [.slice none 0 0] (_ :: _ :: _ :: _ :: _ :: _ :: _ :: _ :: _ :: _) (cs := [_]) rfl rfl ?_);refine sS (ss 2 0 a8 [.bool (false)] [.bool (false)] (_ :: _ :: _ :: _ :: _ :: _ :: _ :: _ :: _ :: _) (cs := [_]) rfl rfl ?_);refine se (rret ?_);refine (pst_ret_pass (pst_ret_scope ?_));have c4 := search_stop2 (d := d) (m := m) k8 g0;refine pst_marks (R := ((f3, Obj.cells (plCells (placeOf Y).val) 113 (0, 0)) :: (y, Obj.cells #[.slice a2 Y.cars.length a3, .slice a4 Y.room.length a5, .slice a0 y_ws.length a1] 110 (0, 0)) :: (a8, Obj.cells #[.bool (false)] 4 (0, 0)) :: (b9, Obj.cells #[.slice none 0 0] 45 (0, 0)) :: (b7, Obj.cells #[.slice d3 gs.length d4] 160 (0, 0)) :: (b5, Obj.cells #[.map (some r)] 162 (0, 0)) :: (b3, Obj.cells #[.int .i64 (↑d)] 3 (0, 0)) :: (b1, Obj.cells #[.pointer (some ⟨y, 0, none⟩)] 108 (0, 0)) :: (r, Obj.map r_es r_cl) :: (y_Ms ++ F))) [] (.inl rfl) (PR _) ?_;refine ppm (M' := ((y, Obj.cells #[.slice a2 Y.cars.length a3, .slice a4 Y.room.length a5, .slice a0 y_ws.length a1] 110 (0, 0)) :: (y_Ms ++ (r, Obj.map r_es r_cl) :: (f3, Obj.cells (plCells (placeOf Y).val) 113 (0, 0)) :: (a8, Obj.cells #[.bool (false)] 4 (0, 0)) :: (b9, Obj.cells #[.slice none 0 0] 45 (0, 0)) :: (b7, Obj.cells #[.slice d3 gs.length d4] 160 (0, 0)) :: (b5, Obj.cells #[.map (some r)] 162 (0, 0)) :: (b3, Obj.cells #[.int .i64 (↑d)] 3 (0, 0)) :: (b1, Obj.cells #[.pointer (some ⟨y, 0, none⟩)] 108 (0, 0)) :: F))) ((PS _ _ _).trans (PC _ (((PC _ ((PC _ ((PC _ ((PC _ ((PC _ ((PC _ ((PC _ (PM.symm)).trans (PM.symm))).trans (PM.symm))).trans (PM.symm))).trans (PM.symm))).trans (PM.symm))).trans (PM.symm))).trans (PM.symm)).trans (PA _ ((PC _ ((PC _ ((PC _ ((PC _ ((PC _ ((PC _ (PS _ _ _)).trans (PS _ _ _))).trans (PS _ _ _))).trans (PS _ _ _))).trans (PS _ _ _))).trans (PS _ _ _))).trans (PS _ _ _)))))) ?_;refine pst_retC2 (t := 8) (T := 45) (n := 1) (u := 9) (U := 4) (n2 := 1) ([(y, Obj.cells #[.slice a2 Y.cars.length a3, .slice a4 Y.room.length a5, .slice a0 y_ws.length a1] 110 (0, 0))] ++ (y_Ms ++ ([(r, Obj.map r_es r_cl)] ++ ([])))) (by kernel_rfl) rfl (by kernel_rfl) rfl (seesN_mem (n := 1) (cs := #[.slice none 0 0]) (b := b9) (off := 0) (T := 45) (fz := (0, 0)) (vs := [.slice none 0 0]) (by simp) rfl) (.inr ⟨by kernel_rfl, rfl⟩) rfl (by kernel_rfl) rfl (seesN_mem (n := 1) (cs := #[.bool (false)]) (b := a8) (off := 0) (T := 4) (fz := (0, 0)) (vs := [.bool (false)]) (by simp) rfl) (.inr ⟨by kernel_rfl, rfl⟩) (by simp only [AA, NA, CA]; exact (TK _ (TA (TK _ (TC _ (TC _ (TC _ (TC _ (TC _ (TC _ (TC _ (TR _))))))))) _))) (Imm.le.trans c1 c7) ?_;exact ⟨_, _, _, _, _, _, (by rw [c4]; rfl), rfl, y_3h, y_3r, ((show m = (searchM (allP ps) d Y m).2 from by rw [c4]) ▸ r_is), ((show [] = (searchM (allP ps) d Y m).1.getD [] from by rw [c4]; rfl) ▸ Own.nil _ _ _)⟩
 have g0 := h4;obtain ⟨g3, m9⟩ := or_f h4;have g3 := eql_f g3;have h9 := search_go_of (d := d) g0;refine rskip (pst_next (rqr ?_));obtain ⟨e, hde⟩ : ∃ e, d = e + 1 := ⟨d - 1, by have := h9.1; omega⟩;have g8 := search_go2 (g := allP ps) (m := m) k8 hde h9.2;refine sd (dlb 37 5 0 b5 (.map (some r))) ?_;refine sd (det_loadW (x := (.tmp 10)) (T := 113) (n := 10) (d := 38) (ty := 113) (gd := none) (by kernel_rfl) rfl (by kernel_rfl) (by kernel_rfl) (plCells_size _) rfl (.inl (List.mem_of_getElem? (i := 0) rfl))) ?_;refine sd (dlb 39 6 0 b3 (.int .i64 (↑d))) ?_;refine sS (stp_mapUpdate (x := (.tmp 37)) (y := (.tmp 38)) (u := (.tmp 39)) (T := 162) (kt := 113) (et := 3) (k := (placeOf Y)) (kvs := metV m) 8 (ty := 0) (gd := none) (by kernel_rfl) rfl (by kernel_rfl) (keyOk_place (by kernel_rfl) (by kernel_rfl)) rfl rfl rfl rfl r_is (fun e3 e2 f7 => ?_));rw [metV_upd] at f7;refine nm (se (rq ?_));refine rlab 0 ?_;refine pst_next (rq (rqr ?_));refine seq_hold (b := b1) (o := Obj.cells #[.pointer (some ⟨y, 0, none⟩)] 108 (0, 0)) (M0 := ((f3, Obj.cells (plCells (placeOf Y).val) 113 (0, 0)) :: (y, Obj.cells #[.slice a2 Y.cars.length a3, .slice a4 Y.room.length a5, .slice a0 y_ws.length a1] 110 (0, 0)) :: (a8, Obj.cells #[.bool (false)] 4 (0, 0)) :: (b9, Obj.cells #[.slice none 0 0] 45 (0, 0)) :: (b7, Obj.cells #[.slice d3 gs.length d4] 160 (0, 0)) :: (b5, Obj.cells #[.map (some r)] 162 (0, 0)) :: (b3, Obj.cells #[.int .i64 (↑d)] 3 (0, 0)) :: (r, Obj.map e3 e2) :: (y_Ms ++ F))) ((PC _ ((PC _ ((PC _ ((PC _ ((PC _ ((PC _ (PS _ _ _)).trans (PS _ _ _))).trans (PS _ _ _))).trans (PS _ _ _))).trans (PS _ _ _))).trans (PS _ _ _))).trans (PS _ _ _)) (fun o5 d0 a9 => ?_);replace a6 := a6.mono d0;replace a7 := a7.mono d0;replace y_3r := y_3r.mono d0;replace g_f := g_f.mono d0;replace hG := hG.mono d0;replace hgo := hgo.mono d0;refine seq_hold (b := b3) (o := Obj.cells #[.int .i64 (↑d)] 3 (0, 0)) (M0 := ((f3, Obj.cells (plCells (placeOf Y).val) 113 (0, 0)) :: (y, Obj.cells #[.slice a2 Y.cars.length a3, .slice a4 Y.room.length a5, .slice a0 y_ws.length a1] 110 (0, 0)) :: (a8, Obj.cells #[.bool (false)] 4 (0, 0)) :: (b9, Obj.cells #[.slice none 0 0] 45 (0, 0)) :: (b7, Obj.cells #[.slice d3 gs.length d4] 160 (0, 0)) :: (b5, Obj.cells #[.map (some r)] 162 (0, 0)) :: (r, Obj.map e3 e2) :: (y_Ms ++ F))) ((PC _ ((PC _ ((PC _ ((PC _ ((PC _ (PS _ _ _)).trans (PS _ _ _))).trans (PS _ _ _))).trans (PS _ _ _))).trans (PS _ _ _))).trans (PS _ _ _)) (fun o6 c8 b6 => ?_);replace a6 := a6.mono c8;replace a7 := a7.mono c8;replace y_3r := y_3r.mono c8;replace g_f := g_f.mono c8;replace hG := hG.mono c8;replace hgo := hgo.mono c8;replace a9 := c8.blk _ _ a9;refine seq_hold (b := b5) (o := Obj.cells #[.map (some r)] 162 (0, 0)) (M0 := ((f3, Obj.cells (plCells (placeOf Y).val) 113 (0, 0)) :: (y, Obj.cells #[.slice a2 Y.cars.length a3, .slice a4 Y.room.length a5, .slice a0 y_ws.length a1] 110 (0, 0)) :: (a8, Obj.cells #[.bool (false)] 4 (0, 0)) :: (b9, Obj.cells #[.slice none 0 0] 45 (0, 0)) :: (b7, Obj.cells #[.slice d3 gs.length d4] 160 (0, 0)) :: (r, Obj.map e3 e2) :: (y_Ms ++ F))) ((PC _ ((PC _ ((PC _ ((PC _ (PS _ _ _)).trans (PS _ _ _))).trans (PS _ _ _))).trans (PS _ _ _))).trans (PS _ _ _)) (fun o7 c2 c3 => ?_);replace a6 := a6.mono c2;replace a7 := a7.mono c2;replace y_3r := y_3r.mono c2;replace g_f := g_f.mono c2;replace hG := hG.mono c2;replace hgo := hgo.mono c2;replace a9 := c2.blk _ _ a9;replace b6 := c2.blk _ _ b6;refine seq_hold (b := b7) (o := Obj.cells #[.slice d3 gs.length d4] 160 (0, 0)) (M0 := ((f3, Obj.cells (plCells (placeOf Y).val) 113 (0, 0)) :: (y, Obj.cells #[.slice a2 Y.cars.length a3, .slice a4 Y.room.length a5, .slice a0 y_ws.length a1] 110 (0, 0)) :: (a8, Obj.cells #[.bool (false)] 4 (0, 0)) :: (b9, Obj.cells #[.slice none 0 0] 45 (0, 0)) :: (r, Obj.map e3 e2) :: (y_Ms ++ F))) ((PC _ ((PC _ ((PC _ (PS _ _ _)).trans (PS _ _ _))).trans (PS _ _ _))).trans (PS _ _ _)) (fun o8 b8 c9 => ?_);replace a6 := a6.mono b8;replace a7 := a7.mono b8;replace y_3r := y_3r.mono b8;replace g_f := g_f.mono b8;replace hG := hG.mono b8;replace hgo := hgo.mono b8;replace a9 := b8.blk _ _ a9;replace b6 := b8.blk _ _ b6;replace c3 := b8.blk _ _ c3;refine seq_hold (b := f3) (o := Obj.cells (plCells (placeOf Y).val) 113 (0, 0)) (M0 := ((y, Obj.cells #[.slice a2 Y.cars.length a3, .slice a4 Y.room.length a5, .slice a0 y_ws.length a1] 110 (0, 0)) :: (a8, Obj.cells #[.bool (false)] 4 (0, 0)) :: (b9, Obj.cells #[.slice none 0 0] 45 (0, 0)) :: (r, Obj.map e3 e2) :: (y_Ms ++ F))) (PR _) (fun m6 b2 d2 => ?_);replace a6 := a6.mono b2;replace a7 := a7.mono b2;replace y_3r := y_3r.mono b2;replace g_f := g_f.mono b2;replace hG := hG.mono b2;replace hgo := hgo.mono b2;replace a9 := b2.blk _ _ a9;replace b6 := b2.blk _ _ b6;replace c3 := b2.blk _ _ c3;replace c9 := b2.blk _ _ c9;refine sd (det_load (v := .pointer (some ⟨y, 0, none⟩)) (x := (.tmp 4)) (T := 108) (d := 40) (ty := 108) (gd := none) (by kernel_rfl) rfl (by kernel_rfl) rfl (sees_held a9 rfl)) ?_;have g6 := shifts_ct m6 (y);refine sS (sc (some 41) (g6 :) (.refl _) (fun o1 m7 n7 b0 j6 => ?_));obtain ⟨f6, g2, i2, h6, d5, d6⟩ := j6;rw [i2, h6]; clear i2 h6;replace a6 := a6.mono b0;replace a7 := a7.mono b0;replace y_3r := y_3r.mono b0;replace g_f := g_f.mono b0;replace hG := hG.mono b0;replace hgo := hgo.mono b0;replace a9 := b0.blk _ _ a9;replace b6 := b0.blk _ _ b6;replace c3 := b0.blk _ _ c3;replace c9 := b0.blk _ _ c9;replace d2 := b0.blk _ _ d2;refine nm (se (rb 0 ?_));refine run_rangeFunc (α := Shift) (g := (.tmp 41)) (ps := #[42]) (assign := c_search [1, 0, 1, 1, 1, 1, 1, 0, 1, 0, 0]) (body := c_search [1, 0, 1, 1, 1, 1, 1, 0, 1, 0, 1]) (gf := 135) (cv := [.pointer (some ⟨f6, 0, none⟩), .pointer (some ⟨g2, 0, none⟩)]) (enc := encS) (seq := draws Y) (R := YardR 23 110 y (.slice a2 Y.cars.length a3) (.slice a4 Y.room.length a5) (.slice a0 y_ws.length a1) Y) (Mr := ((y, Obj.cells #[.slice a2 Y.cars.length a3, .slice a4 Y.room.length a5, .slice a0 y_ws.length a1] 110 (0, 0)) :: y_Ms)) (M0 := ((b9, Obj.cells #[.slice none 0 0] 45 (0, 0)) :: (a8, Obj.cells #[.bool (false)] 4 (0, 0)) :: (r, Obj.map e3 e2) :: [])) (F0 := (F))
  (fun xs I M => ∃ es cl m2, M = (b9, Obj.cells #[.slice none 0 0] 45 (0, 0)) :: (a8, Obj.cells #[.bool (false)] 4 (0, 0)) :: (r, Obj.map es cl) :: [] ∧ MapIs encP es (metV m2) ∧ tryAll (fun s j8 => searchM (allP ps) e (moved Y s) j8) ((draws Y).drop ([] : List Shift).length) (updM (placeOf Y) (e + 1) m) = tryAll (fun s j8 => searchM (allP ps) e (moved Y s) j8) ((draws Y).drop xs.length) m2) (fun c xs I M => c = Code.ret ∧ ∃ es cl u Mu ws Ms, M = (b9, Obj.cells #[u] 45 (0, 0)) :: (a8, Obj.cells #[.bool (true)] 4 (0, 0)) :: (r, Obj.map es cl) :: (y, Obj.cells #[.slice a2 Y.cars.length a3, .slice a4 Y.room.length a5, .slice a0 y_ws.length a1] 110 (0, 0)) :: (Mu ++ Ms) ∧ MapIs encP es (metV (searchM (allP ps) d Y m).2) ∧ Own 52 3 shiftCell u ((searchM (allP ps) d Y m).1.getD []) Mu ∧ (searchM (allP ps) d Y m).1.isSome = true ∧ Own 23 1 valCell (.slice a0 y_ws.length a1) ws Ms ∧ RowsV I ws Y.tracks) (fun x k => [(4, .pointer (some ⟨b1, 0, none⟩)), (5, .pointer (some ⟨b3, 0, none⟩)), (6, .pointer (some ⟨b5, 0, none⟩)), (7, .pointer (some ⟨b7, 0, none⟩)), (8, .pointer (some ⟨b9, 0, none⟩)), (9, .pointer (some ⟨a8, 0, none⟩)), (13, .pointer (some ⟨k, 0, none⟩))]) (fun x k => [(k, Obj.cells #[.int .i64 (x.frm), .int .i64 (x.to), .int .i64 (x.many)] 52 (0, 0))])
  (by kernel_rfl) rfl (by kernel_rfl) (fun _ => rfl) (by kernel_rfl) (shifts1_iter m7 y f6 g2 (.slice a2 Y.cars.length a3) (.slice a4 Y.room.length a5) (.slice a0 y_ws.length a1) Y hG d5 d6 k9 (by omega)) (fun xs I J M _ h => h) (by simpa only [AA, CA, NA] using (PC _ (((PC _ ((PC _ (PM.symm)).trans (PM.symm))).trans (PM.symm)).trans (PA _ (PS _ _ _))))) ⟨_, _, rfl, a6, a7, y_3h, y_3r⟩ ⟨_, _, _, rfl, f7, by rw [hde]⟩ ?_ ?_ ?_ ?_
 ·intro L x I1 M1;refine run_sub (l' := [(4, .pointer (some ⟨b1, 0, none⟩)), (5, .pointer (some ⟨b3, 0, none⟩)), (6, .pointer (some ⟨b5, 0, none⟩)), (7, .pointer (some ⟨b7, 0, none⟩)), (8, .pointer (some ⟨b9, 0, none⟩)), (9, .pointer (some ⟨a8, 0, none⟩)), (42, .agg #[.int .i64 (x.frm), .int .i64 (x.to), .int .i64 (x.many)])]) (.cons 4 rfl (.cons 5 rfl (.cons 6 rfl (.cons 7 rfl (.cons 8 rfl (.cons 9 rfl (.cons 42 rfl (.nil _)))))))) ?_;refine rr ?_;refine sS (sal 13 52 #[.int .i64 (0), .int .i64 (0), .int .i64 (0)] (fun k7 => ?_));refine sS (ss 0 0 k7 [.int .i64 (x.frm), .int .i64 (x.to), .int .i64 (x.many)] [.int .i64 (x.frm), .int .i64 (x.to), .int .i64 (x.many)] (_ :: _) (cs := [_, _, _]) rfl rfl ?_);refine ee ?_;exact pst_meet (fun a w hS hD hW => ⟨k7, hS.sub (.cons 4 rfl (.cons 5 rfl (.cons 6 rfl (.cons 7 rfl (.cons 8 rfl (.cons 9 rfl (.cons 13 rfl (.nil _)))))))), hD, hW⟩)
 ·intro L x k xs I1 Mr1 M1 F1 hpre hle1 hR1 hC1;replace a6 := a6.mono hle1;replace a7 := a7.mono hle1;replace g_f := g_f.mono hle1;replace hG := hG.mono hle1;replace hgo := hgo.mono hle1;replace a9 := hle1.blk _ _ a9;replace b6 := hle1.blk _ _ b6;replace c3 := hle1.blk _ _ c3;replace c9 := hle1.blk _ _ c9;replace d2 := hle1.blk _ _ d2;replace d5 := hle1.blk _ _ d5;replace d6 := hle1.blk _ _ d6;obtain ⟨e1, e0, m2, rfl, e7, i8⟩ := hC1;obtain ⟨l1, e4, rfl, q1, q2, q4, q5⟩ := hR1;have d1 := q5.1
  try simp only [LS, LA, LC, LN, LK] at d1
  have n1 : mayErr Y x = 0 := mem_draws_may (mem_of_prefix hpre);refine run_mem (M' := ((k, Obj.cells #[.int .i64 (x.frm), .int .i64 (x.to), .int .i64 (x.many)] 52 (0, 0)) :: (y, Obj.cells #[.slice a2 Y.cars.length a3, .slice a4 Y.room.length a5, .slice a0 y_ws.length a1] 110 (0, 0)) :: (e4 ++ (b9, Obj.cells #[.slice none 0 0] 45 (0, 0)) :: (a8, Obj.cells #[.bool (false)] 4 (0, 0)) :: (r, Obj.map e1 e0) :: F1))) (fun w h => by simpa only [AA, CA, NA] using h) ?_;refine rpm (M' := ((k, Obj.cells #[.int .i64 (x.frm), .int .i64 (x.to), .int .i64 (x.many)] 52 (0, 0)) :: (y, Obj.cells #[.slice a2 Y.cars.length a3, .slice a4 Y.room.length a5, .slice a0 y_ws.length a1] 110 (0, 0)) :: (b9, Obj.cells #[.slice none 0 0] 45 (0, 0)) :: (a8, Obj.cells #[.bool (false)] 4 (0, 0)) :: (r, Obj.map e1 e0) :: (e4 ++ F1))) (PC _ (PC _ (List.perm_middle.trans (PC _ (List.perm_middle.trans (PC _ PM)))))) ?_;refine rb 1 (rqr ?_);refine sd (det_load (v := .pointer (some ⟨y, 0, none⟩)) (x := (.tmp 4)) (T := 108) (d := 44) (ty := 108) (gd := none) (by kernel_rfl) rfl (by kernel_rfl) rfl (sees_held a9 rfl)) ?_;refine sd (dnb 45 0 0 k [.int .i64 (x.frm), .int .i64 (x.to), .int .i64 (x.many)]) ?_;refine sd (det_load (v := .int .i64 (↑d)) (x := (.tmp 5)) (T := 3) (d := 46) (ty := 3) (gd := none) (by kernel_rfl) rfl (by kernel_rfl) rfl (sees_held b6 rfl)) ?_;refine sd (dsb 47 (↑d) (1)) ?_;refine seq_re 47 rfl (show (.int .i64 (↑d - 1) : Value) = .int .i64 (↑e) from congrArg (Value.int .i64) (by omega)) ?_;refine sd (det_load (v := .map (some r)) (x := (.tmp 6)) (T := 162) (d := 48) (ty := 162) (gd := none) (by kernel_rfl) rfl (by kernel_rfl) rfl (sees_held c3 rfl)) ?_;refine sd (det_load (v := .slice d3 gs.length d4) (x := (.tmp 7)) (T := 160) (d := 49) (ty := 160) (gd := none) (by kernel_rfl) rfl (by kernel_rfl) rfl (sees_held c9 rfl)) ?_;have g7 := try_ct I1 (y) _ _ _ _ _ (Y) (x) (e) (r) (e1) (e0) (m2) _ _ (A) (ps) a6 a7 q4 q5 e7 g_f (by assumption) (by assumption) (by assumption) (by assumption) (by omega) (by exact n1) (by exact ht e (by omega));refine sS (sc (some 50) (F := ((k, Obj.cells #[.int .i64 (x.frm), .int .i64 (x.to), .int .i64 (x.many)] 52 (0, 0)) :: (b9, Obj.cells #[.slice none 0 0] 45 (0, 0)) :: (a8, Obj.cells #[.bool (false)] 4 (0, 0)) :: F1)) (g7 :) (by simpa only [AA, CA, NA] using ((PS _ _ _).trans (PC _ (((PC _ ((PC _ ((PC _ (PM.symm)).trans (PM.symm))).trans (PM.symm))).trans (PM.symm)).trans (PA _ ((PC _ ((PC _ (PS _ _ _)).trans (PS _ _ _))).trans (PS _ _ _))))))) (fun o2 o9 n8 b4 j7 => ?_));obtain ⟨k6, c0, c6, c5, o3, d9, i3, h7, e8, e9, f8, i4⟩ := j7;rw [i3, h7]; clear i3 h7;replace a6 := a6.mono b4;replace a7 := a7.mono b4;replace a9 := b4.blk _ _ a9;replace b6 := b4.blk _ _ b6;replace c3 := b4.blk _ _ c3;replace c9 := b4.blk _ _ c9;replace d2 := b4.blk _ _ d2;replace d5 := b4.blk _ _ d5;replace d6 := b4.blk _ _ d6;replace q5 := q5.mono b4;obtain ⟨k2, k3, k4, k5⟩ := id e8.shape;have e5 := e9.1
  try simp only [LS, LA, LC, LN, LK] at e5
  obtain ⟨d7, d8, g1, k0⟩ := i4.shape;subst g1;refine seq_mem (M' := ((y, Obj.cells #[.slice a2 Y.cars.length a3, .slice a4 Y.room.length a5, .slice a0 y_ws.length a1] 110 (0, 0)) :: (c0 ++ (r, Obj.map c6 c5) :: (d9 ++ (k, Obj.cells #[.int .i64 (x.frm), .int .i64 (x.to), .int .i64 (x.many)] 52 (0, 0)) :: (b9, Obj.cells #[.slice none 0 0] 45 (0, 0)) :: (a8, Obj.cells #[.bool (false)] 4 (0, 0)) :: F1)))) (fun w h => by simpa only [AA, CA, NA] using h) ?_;refine pm (M' := ((y, Obj.cells #[.slice a2 Y.cars.length a3, .slice a4 Y.room.length a5, .slice a0 y_ws.length a1] 110 (0, 0)) :: (r, Obj.map c6 c5) :: (k, Obj.cells #[.int .i64 (x.frm), .int .i64 (x.to), .int .i64 (x.many)] 52 (0, 0)) :: (b9, Obj.cells #[.slice none 0 0] 45 (0, 0)) :: (a8, Obj.cells #[.bool (false)] 4 (0, 0)) :: (c0 ++ (d9 ++ F1)))) (PC _ (List.perm_middle.trans (PC _ (((PA _ PM).trans PM).trans (PC _ (((PA _ PM).trans PM).trans (PC _ ((PA _ PM).trans PM)))))))) ?_;refine sp 5 [(15, .bool ((searchM (allP ps) e (moved Y x) m2).1.isSome)), (14, .slice d7 ((searchM (allP ps) e (moved Y x) m2).1.getD []).length d8), (52, .bool ((searchM (allP ps) e (moved Y x) m2).1.isSome)), (51, .slice d7 ((searchM (allP ps) e (moved Y x) m2).1.getD []).length d8), (43, .tuple #[.slice d7 ((searchM (allP ps) e (moved Y x) m2).1.getD []).length d8, .bool ((searchM (allP ps) e (moved Y x) m2).1.isSome)])] ?_;refine se (rq (rqr ?_));refine sp 2 [(54, .bool (!((searchM (allP ps) e (moved Y x) m2).1.isSome))), (53, .bool ((searchM (allP ps) e (moved Y x) m2).1.isSome))] ?_;refine se ?_;refine rc 54 rfl (fun h5 => ?_) (fun h5 => ?_)
  ·
   have j2 := h5;have h5 := not_t h5;refine rexit 1 ?_;refine (pst_exit_pass (pst_exit_block ?_));refine ppm (M' := ((k, Obj.cells #[.int .i64 (x.frm), .int .i64 (x.to), .int .i64 (x.many)] 52 (0, 0)) :: (d9 ++ (y, Obj.cells #[.slice a2 Y.cars.length a3, .slice a4 Y.room.length a5, .slice a0 y_ws.length a1] 110 (0, 0)) :: (c0 ++ (b9, Obj.cells #[.slice none 0 0] 45 (0, 0)) :: (a8, Obj.cells #[.bool (false)] 4 (0, 0)) :: (r, Obj.map c6 c5) :: F1)))) (((PC _ (PS _ _ _)).trans (PS _ _ _)).trans (PC _ (((PC _ ((PC _ ((PC _ ((PC _ (PO _ _ _)).trans (PM.symm))).trans (PM.symm))).trans (PM.symm))).trans (PM.symm)).trans (PA _ (PC _ (((PC _ ((PC _ (PM.symm)).trans (PM.symm))).trans (PM.symm)).trans (PA _ ((PS _ _ _).trans (PC _ (PS _ _ _)))))))))) ?_;refine pst_round (M' := ((y, Obj.cells #[.slice a2 Y.cars.length a3, .slice a4 Y.room.length a5, .slice a0 y_ws.length a1] 110 (0, 0)) :: c0 ++ ((b9, Obj.cells #[.slice none 0 0] 45 (0, 0)) :: (a8, Obj.cells #[.bool (false)] 4 (0, 0)) :: (r, Obj.map c6 c5) :: []))) b4 ?_ (by simp only [AA, NA, CA]; exact (TC _ (TT (TR _) (TB _ _))));exact ⟨(y, Obj.cells #[.slice a2 Y.cars.length a3, .slice a4 Y.room.length a5, .slice a0 y_ws.length a1] 110 (0, 0)) :: c0, _, rfl, ⟨_, _, rfl, a6, a7, e8, e9⟩, ⟨_, _, _, rfl, f8, i8.trans (try_next hpre (none_of h5))⟩⟩
  have j2 := h5;have h5 := not_f h5;refine rskip (pst_next (rqr ?_));refine sd (dnb 55 2 0 k [.int .i64 (x.frm), .int .i64 (x.to), .int .i64 (x.many)]) ?_;refine sS (sbs 56 52 1 #[.int .i64 (x.frm), .int .i64 (x.to), .int .i64 (x.many)] (fun i9 => ?_));refine sp 1 [(57, .slice d7 ((searchM (allP ps) e (moved Y x) m2).1.getD []).length d8)] ?_;have j3 : Own 52 3 shiftCell (.slice (some ⟨i9, 0, none⟩) 1 1) ([x] : List Shift) [(i9, Obj.cells #[.int .i64 (x.frm), .int .i64 (x.to), .int .i64 (x.many)] 52 (0, 0))] := Own.lit rfl rfl;refine sS (stp_append (d := 58) (x := (.tmp 56)) (y := (.tmp 57)) (T := 45) (T' := 45) (E := 52) (E' := 52) (sz := 3) (bs := 24) (z := .agg #[.int .i64 (0), .int .i64 (0), .int .i64 (0)]) (cell := shiftCell) (xs := ([x] : List Shift)) (ys := (searchM (allP ps) e (moved Y x) m2).1.getD []) (Ms := [(i9, Obj.cells #[.int .i64 (x.frm), .int .i64 (x.to), .int .i64 (x.many)] 52 (0, 0))]) (ty := 45) (gd := none) (by kernel_rfl) rfl (by kernel_rfl) (by kernel_rfl) (by kernel_rfl) (by kernel_rfl) (by kernel_rfl) (by decide) (by kernel_rfl) rfl rfl (j3) (PR _) (one_shiftCell _) (i4.src (fun x hx => by simp [hx])) (by first | omega | (have p6 := search_len (allP ps) e (moved Y x) m2; simp only [LC, LN]; omega)) (fun p7 f9 h8 => ?_));refine pm (M' := ((y, Obj.cells #[.slice a2 Y.cars.length a3, .slice a4 Y.room.length a5, .slice a0 y_ws.length a1] 110 (0, 0)) :: (r, Obj.map c6 c5) :: (k, Obj.cells #[.int .i64 (x.frm), .int .i64 (x.to), .int .i64 (x.many)] 52 (0, 0)) :: (b9, Obj.cells #[.slice none 0 0] 45 (0, 0)) :: (a8, Obj.cells #[.bool (false)] 4 (0, 0)) :: (f9 ++ (c0 ++ (d9 ++ F1))))) (List.perm_middle.trans (PC _ (List.perm_middle.trans (PC _ (List.perm_middle.trans (PC _ (List.perm_middle.trans (PC _ PM)))))))) ?_;obtain ⟨f4, f5, j9, n4⟩ := h8.shape;subst j9;refine sS (ss 3 0 b9 [.slice f4 ((([x] : List Shift)) ++ ((searchM (allP ps) e (moved Y x) m2).1.getD [])).length f5] [.slice f4 ((([x] : List Shift)) ++ ((searchM (allP ps) e (moved Y x) m2).1.getD [])).length f5] (_ :: _ :: _ :: _ :: _ :: _) (cs := [_]) rfl rfl ?_);refine sS (ss 4 0 a8 [.bool (true)] [.bool (true)] (_ :: _ :: _ :: _ :: _ :: _) (cs := [_]) rfl rfl ?_);refine se (rret ?_);refine (pst_ret_block ?_);obtain ⟨l, hl⟩ := some_of h5;have c4 := g8.trans (i8.trans (try_hit hpre hl));refine ppm (M' := ((k, Obj.cells #[.int .i64 (x.frm), .int .i64 (x.to), .int .i64 (x.many)] 52 (0, 0)) :: (d9 ++ (b9, Obj.cells #[.slice f4 ((([x] : List Shift)) ++ ((searchM (allP ps) e (moved Y x) m2).1.getD [])).length f5] 45 (0, 0)) :: (a8, Obj.cells #[.bool (true)] 4 (0, 0)) :: (r, Obj.map c6 c5) :: (y, Obj.cells #[.slice a2 Y.cars.length a3, .slice a4 Y.room.length a5, .slice a0 y_ws.length a1] 110 (0, 0)) :: (f9 ++ (c0 ++ F1))))) (((PC _ (PS _ _ _)).trans (PS _ _ _)).trans (PC _ (((PC _ ((PC _ ((PC _ ((PC _ ((PA _ (PO _ _ _)).trans (PO _ _ _))).trans (PM.symm))).trans (PM.symm))).trans (PM.symm))).trans (PM.symm)).trans (PA _ (((PC _ (PS _ _ _)).trans (PS _ _ _)).trans (PC _ (((PC _ (PS _ _ _)).trans (PS _ _ _)).trans (PC _ (PS _ _ _))))))))) ?_;refine pst_round_ret (M' := ((b9, Obj.cells #[.slice f4 ((([x] : List Shift)) ++ ((searchM (allP ps) e (moved Y x) m2).1.getD [])).length f5] 45 (0, 0)) :: (a8, Obj.cells #[.bool (true)] 4 (0, 0)) :: (r, Obj.map c6 c5) :: (y, Obj.cells #[.slice a2 Y.cars.length a3, .slice a4 Y.room.length a5, .slice a0 y_ws.length a1] 110 (0, 0)) :: f9 ++ c0)) b4 ?_ (by simp only [AA, NA, CA]; exact (TC _ (TT (TR _) (TB _ _))));exact ⟨rfl, _, _, _, _, _, _, rfl, (show (searchM (allP ps) e (moved Y x) m2).2 = (searchM (allP ps) d Y m).2 by rw [c4]) ▸ f8, (show [x] ++ (searchM (allP ps) e (moved Y x) m2).1.getD [] = (searchM (allP ps) d Y m).1.getD [] by rw [c4, hl]; rfl) ▸ h8, (by rw [c4]; rfl), e8, e9⟩
 ·intro D I2 Mr2 M2 hle2 hR2 hC2;replace a9 := hle2.blk _ _ a9;replace b6 := hle2.blk _ _ b6;replace c3 := hle2.blk _ _ c3;replace c9 := hle2.blk _ _ c9;replace d2 := hle2.blk _ _ d2;replace d5 := hle2.blk _ _ d5;replace d6 := hle2.blk _ _ d6;obtain ⟨e1, e0, m2, rfl, e7, i8⟩ := hC2;have c4 := g8.trans (i8.trans try_done);obtain ⟨l1, e4, rfl, q1, q2, q4, q5⟩ := hR2;have d1 := q5.1
  try simp only [LS, LA, LC, LN, LK] at d1
  refine pst_mem (M' := ((D, Obj.deferred (some [])) :: (y, Obj.cells #[.slice a2 Y.cars.length a3, .slice a4 Y.room.length a5, .slice a0 y_ws.length a1] 110 (0, 0)) :: (e4 ++ (b9, Obj.cells #[.slice none 0 0] 45 (0, 0)) :: (a8, Obj.cells #[.bool (false)] 4 (0, 0)) :: (r, Obj.map e1 e0) :: F))) (fun w h => by simpa only [AA, CA, NA] using h) ?_;refine ppm (M' := ((D, Obj.deferred (some [])) :: (y, Obj.cells #[.slice a2 Y.cars.length a3, .slice a4 Y.room.length a5, .slice a0 y_ws.length a1] 110 (0, 0)) :: (b9, Obj.cells #[.slice none 0 0] 45 (0, 0)) :: (a8, Obj.cells #[.bool (false)] 4 (0, 0)) :: (r, Obj.map e1 e0) :: (e4 ++ F))) (PC _ (PC _ (List.perm_middle.trans (PC _ (List.perm_middle.trans (PC _ PM)))))) ?_;refine pst_normal_block (pst_next (rqr ?_));refine sS (ss 2 0 b9 [.slice none 0 0] [.slice none 0 0] (_ :: _ :: _ :: _ :: _ :: _) (cs := [_]) rfl rfl ?_);refine sS (ss 3 0 a8 [.bool (false)] [.bool (false)] (_ :: _ :: _ :: _ :: _ :: _) (cs := [_]) rfl rfl ?_);refine se (rret ?_);refine (pst_ret_scope ?_);refine pst_marks (R := ((y, Obj.cells #[.slice a2 Y.cars.length a3, .slice a4 Y.room.length a5, .slice a0 y_ws.length a1] 110 (0, 0)) :: (b9, Obj.cells #[.slice none 0 0] 45 (0, 0)) :: (a8, Obj.cells #[.bool (false)] 4 (0, 0)) :: (r, Obj.map e1 e0) :: (e4 ++ F))) [D] (.inl rfl) (PR _) ?_;refine ppm (M' := ((y, Obj.cells #[.slice a2 Y.cars.length a3, .slice a4 Y.room.length a5, .slice a0 y_ws.length a1] 110 (0, 0)) :: (e4 ++ (r, Obj.map e1 e0) :: (b9, Obj.cells #[.slice none 0 0] 45 (0, 0)) :: (a8, Obj.cells #[.bool (false)] 4 (0, 0)) :: F))) (PC _ (((PC _ ((PC _ (PM.symm)).trans (PM.symm))).trans (PM.symm)).trans (PA _ ((PC _ (PS _ _ _)).trans (PS _ _ _))))) ?_;refine pst_retC2 (t := 8) (T := 45) (n := 1) (u := 9) (U := 4) (n2 := 1) ([(y, Obj.cells #[.slice a2 Y.cars.length a3, .slice a4 Y.room.length a5, .slice a0 y_ws.length a1] 110 (0, 0))] ++ (e4 ++ ([(r, Obj.map e1 e0)] ++ ([])))) (by kernel_rfl) rfl (by kernel_rfl) rfl (seesN_mem (n := 1) (cs := #[.slice none 0 0]) (b := b9) (off := 0) (T := 45) (fz := (0, 0)) (vs := [.slice none 0 0]) (by simp) rfl) (.inr ⟨by kernel_rfl, rfl⟩) rfl (by kernel_rfl) rfl (seesN_mem (n := 1) (cs := #[.bool (false)]) (b := a8) (off := 0) (T := 4) (fz := (0, 0)) (vs := [.bool (false)]) (by simp) rfl) (.inr ⟨by kernel_rfl, rfl⟩) (by simp only [AA, NA, CA]; exact (TK _ (TA (TK _ (TC _ (TC _ (TR _)))) _))) (Imm.le.trans (Imm.le.trans (Imm.le.trans (Imm.le.trans (Imm.le.trans (Imm.le.trans (Imm.le.trans (Imm.le.trans c1 c7) d0) c8) c2) b8) b2) b0) hle2) ?_;exact ⟨_, _, _, _, _, _, (by rw [c4]; rfl), rfl, q4, q5, ((show m2 = (searchM (allP ps) d Y m).2 from by rw [c4]) ▸ e7), ((show [] = (searchM (allP ps) d Y m).1.getD [] from by rw [c4]; rfl) ▸ Own.nil _ _ _)⟩
 intro D c xs I2 M2 hle2 hS2;replace a9 := hle2.blk _ _ a9;replace b6 := hle2.blk _ _ b6;replace c3 := hle2.blk _ _ c3;replace c9 := hle2.blk _ _ c9;replace d2 := hle2.blk _ _ d2;replace d5 := hle2.blk _ _ d5;replace d6 := hle2.blk _ _ d6;obtain ⟨rfl, e1, e0, u2, Mu, l1, e4, rfl, e7, l0, n3, q4, q5⟩ := hS2;obtain ⟨f0, f1, k1, o4⟩ := l0.shape; subst k1;have d1 := q5.1
 try simp only [LS, LA, LC, LN, LK] at d1
 refine run_mem (M' := ((D, Obj.deferred (some [])) :: (b9, Obj.cells #[.slice f0 ((searchM (allP ps) d Y m).1.getD []).length f1] 45 (0, 0)) :: (a8, Obj.cells #[.bool (true)] 4 (0, 0)) :: (r, Obj.map e1 e0) :: (y, Obj.cells #[.slice a2 Y.cars.length a3, .slice a4 Y.room.length a5, .slice a0 y_ws.length a1] 110 (0, 0)) :: (Mu ++ (e4 ++ F)))) (fun w h => by simpa only [AA, CA, NA] using h) ?_;refine rnm ?_;refine run_ret rfl ?_;refine (pst_ret_block (pst_ret_pass (pst_ret_scope ?_)));refine pst_marks (R := ((b9, Obj.cells #[.slice f0 ((searchM (allP ps) d Y m).1.getD []).length f1] 45 (0, 0)) :: (a8, Obj.cells #[.bool (true)] 4 (0, 0)) :: (r, Obj.map e1 e0) :: (y, Obj.cells #[.slice a2 Y.cars.length a3, .slice a4 Y.room.length a5, .slice a0 y_ws.length a1] 110 (0, 0)) :: (Mu ++ (e4 ++ F)))) [D] (.inl rfl) (PR _) ?_;refine ppm (M' := ((y, Obj.cells #[.slice a2 Y.cars.length a3, .slice a4 Y.room.length a5, .slice a0 y_ws.length a1] 110 (0, 0)) :: (e4 ++ (r, Obj.map e1 e0) :: (Mu ++ (b9, Obj.cells #[.slice f0 ((searchM (allP ps) d Y m).1.getD []).length f1] 45 (0, 0)) :: (a8, Obj.cells #[.bool (true)] 4 (0, 0)) :: F)))) (((PC _ ((PC _ (PS _ _ _)).trans (PS _ _ _))).trans (PS _ _ _)).trans (PC _ (((PC _ ((PC _ ((PC _ (PO _ _ _)).trans (PM.symm))).trans (PM.symm))).trans (PM.symm)).trans (PA _ (((PC _ (PS _ _ _)).trans (PS _ _ _)).trans (PC _ ((PC _ (PM.symm)).trans (PM.symm)))))))) ?_;refine pst_retC2 (t := 8) (T := 45) (n := 1) (u := 9) (U := 4) (n2 := 1) ([(y, Obj.cells #[.slice a2 Y.cars.length a3, .slice a4 Y.room.length a5, .slice a0 y_ws.length a1] 110 (0, 0))] ++ (e4 ++ ([(r, Obj.map e1 e0)] ++ (Mu)))) (by kernel_rfl) rfl (by kernel_rfl) rfl (seesN_mem (n := 1) (cs := #[.slice f0 ((searchM (allP ps) d Y m).1.getD []).length f1]) (b := b9) (off := 0) (T := 45) (fz := (0, 0)) (vs := [.slice f0 ((searchM (allP ps) d Y m).1.getD []).length f1]) (by simp) rfl) (.inr ⟨by kernel_rfl, rfl⟩) rfl (by kernel_rfl) rfl (seesN_mem (n := 1) (cs := #[.bool (true)]) (b := a8) (off := 0) (T := 4) (fz := (0, 0)) (vs := [.bool (true)]) (by simp) rfl) (.inr ⟨by kernel_rfl, rfl⟩) (by simp only [AA, NA, CA]; exact (TK _ (TA (TK _ (TA (TC _ (TC _ (TR _))) _)) _))) (Imm.le.trans (Imm.le.trans (Imm.le.trans (Imm.le.trans (Imm.le.trans (Imm.le.trans (Imm.le.trans (Imm.le.trans c1 c7) d0) c8) c2) b8) b2) b0) hle2) ?_;exact ⟨_, _, _, _, _, _, (by rw [n3]), rfl, q4, q5, e7, l0⟩

end Go.Proofs.YtcaocbhbofejnaaGreatDoor
namespace Go.Proofs.YtcaocbhbofejnaaGreatDoor
open Go Go.Sl Go.Sh
set_option maxRecDepth 100000
theorem search_all (n : Nat) : SearchAt n := by
 induction n with
 | zero => intro I y y_1 y_2 y_3 y_ws y_Ms Y d r r_es r_cl m g gs A ps y_1f y_2f y_3h y_3r r_is g_f hG hgo hka hfa hd hdn; exact search_of I y y_1 y_2 y_3 y_ws y_Ms Y d r r_es r_cl m g gs A ps y_1f y_2f y_3h y_3r r_is g_f hG hgo hka hfa hd (fun n hn => by omega)
 | succ n ih => intro I y y_1 y_2 y_3 y_ws y_Ms Y d r r_es r_cl m g gs A ps y_1f y_2f y_3h y_3r r_is g_f hG hgo hka hfa hd hdn; exact search_of I y y_1 y_2 y_3 y_ws y_Ms Y d r r_es r_cl m g gs A ps y_1f y_2f y_3h y_3r r_is g_f hG hgo hka hfa hd (fun k hk => (show n = k by omega) ▸ ih)
theorem search_ct (I : Imm) (y : Nat) (y_1 y_2 y_3 : Value) (y_ws : List Value) (y_Ms : Seg) (Y : Yard) (d : Nat) (r : Nat) (r_es : Array MapEntry) (r_cl : Nat) (m : Met) (g : Value) (gs : List Value) (A : Yard) (ps : List (Yard → Bool)) (y_1f : IsCars I y_1 Y.cars) (y_2f : IsInts I y_2 Y.room) (y_3h : Own 23 1 valCell y_3 y_ws y_Ms) (y_3r : RowsV I y_ws Y.tracks) (r_is : MapIs encP r_es (metV m)) (g_f : IsVals I g gs) (hG : Glob I) (hgo : GoalsOk Tryz.prog 23 110 I A gs ps) (hka : Kin A Y) (hfa : Fine A) (hd : d ≤ 4) : Ct Tryz.prog 130 #[.pointer (some ⟨y, 0, none⟩), .int .i64 ↑d, .map (some r), g] I ([(y, Obj.cells #[y_1, y_2, y_3] 110 (0, 0))] ++ (y_Ms ++ ([(r, Obj.map r_es r_cl)]))) (fun v I' M' => ∃ y_wt : List Value, ∃ y_Mt : Seg, ∃ r_et : Array MapEntry, ∃ r_ct : Nat, ∃ u0 : Value, ∃ Ms0 : Seg, v = .tuple #[u0, .bool ((searchM (allP ps) d Y m).1.isSome)] ∧ M' = [(y, Obj.cells #[y_1, y_2, y_3] 110 (0, 0))] ++ (y_Mt ++ ([(r, Obj.map r_et r_ct)] ++ (Ms0))) ∧ Own 23 1 valCell y_3 y_wt y_Mt ∧ RowsV I' y_wt (Y).tracks ∧ MapIs encP r_et (metV ((searchM (allP ps) d Y m).2)) ∧ Own 52 3 shiftCell u0 ((searchM (allP ps) d Y m).1.getD []) Ms0) := search_all d I y y_1 y_2 y_3 y_ws y_Ms Y d r r_es r_cl m g gs A ps y_1f y_2f y_3h y_3r r_is g_f hG hgo hka hfa hd rfl
noncomputable def c_fewest (p : List Nat) : Code := sub (bodyOf Tryz.f79) p
theorem fewest_ct (I : Imm) (y : Value) (Y : Yard) (g : Value) (gs : List Value) (ps : List (Yard → Bool)) (y_f : IsYard I y Y) (g_f : IsVals I g gs) (hG : Glob I) (hgo : GoalsOk Tryz.prog 23 110 I Y gs ps) (hv : Valid Y) : Ct Tryz.prog 79 #[y, g] I ([]) (fun v I' M' => ∃ u0 : Value, ∃ Ms0 : Seg, v = .tuple #[u0, .int .i64 (errOf (fewestM (allP ps) Y))] ∧ M' = Ms0 ∧ Own 52 3 shiftCell u0 ((fewestM (allP ps) Y).getD []) Ms0) := by
 obtain ⟨y1, y2, y3, m8, f8, f9, g0⟩ := id y_f;subst m8;obtain ⟨a8, a9, l2, l5, j2, l3, l4, l6⟩ := id f8;subst j2;obtain ⟨b0, b2, l7, m0, j3, l8, l9, m1⟩ := id f9;subst j3;obtain ⟨b3, b4, m2, m5, k2, j4, m3, m4, m6, m7⟩ := id g0;subst j4;obtain ⟨i0, i1, n0, n3, k4, n1, n2, n4⟩ := id g_f;subst k4;refine fr (args := [_, _]) (N := 28) Tryz.func79 (fun F => ?_);show Run _ _ (c_fewest []) _ _ [(0, .agg #[.slice a8 Y.cars.length a9, .slice b0 Y.room.length b2, .slice b3 Y.tracks.length b4]), (1, .slice i0 gs.length i1)] _ _;refine rnm ?_;have j6 := hv.fine; have f1 := hv.good; have n5 := hv.lens;refine rqr ?_;refine sS (sb 2 26 #[.slice a8 Y.cars.length a9, .slice b0 Y.room.length b2, .slice b3 Y.tracks.length b4] (fun b1 => ?_));refine sp 2 [(5, .int .i64 (0)), (4, .slice none 0 0)] ?_;refine sn ?_;refine sd (dnb 10 0 0 b1 [.slice a8 Y.cars.length a9, .slice b0 Y.room.length b2, .slice b3 Y.tracks.length b4]) ?_;have e8 := copied_ct I _ (Y) (mkYard f8 f9 g0) (by omega) (by omega) (by omega) (by exact f1.le);refine sS (sc (some 11) (e8 :) (.refl _) (fun k8 I3 k6 d0 k5 => ?_));obtain ⟨l1, d7, k0, c4, k1, a2, b5, j8, j7, f4, f5, f6, c8⟩ := k5;rw [j8, j7]; clear j8 j7;replace g_f := g_f.mono d0;replace hG := hG.mono d0;replace hgo := hgo.mono d0;obtain ⟨a6, a7, e5, i7⟩ := f4.shape;subst e5;obtain ⟨a3, a4, d5, g2⟩ := f5.shape;subst d5;obtain ⟨a0, a1, d6, g3⟩ := f6.shape;subst d6;have d2 := c8.1
 try simp only [LS, LA, LC, LN, LK] at d2
 refine seq_mem (M' := ((d7 ++ (c4 ++ (b5 ++ (b1, Obj.cells #[.slice a8 Y.cars.length a9, .slice b0 Y.room.length b2, .slice b3 Y.tracks.length b4] 26 (0, 0)) :: F))))) (fun w h => by simpa only [AA, CA, NA] using h) ?_;refine pm (M' := ((b1, Obj.cells #[.slice a8 Y.cars.length a9, .slice b0 Y.room.length b2, .slice b3 Y.tracks.length b4] 26 (0, 0)) :: (d7 ++ (c4 ++ (b5 ++ F))))) ((PA _ ((PA _ PM).trans PM)).trans PM) ?_;refine sfz (A := ((b1, Obj.cells #[.slice a8 Y.cars.length a9, .slice b0 Y.room.length b2, .slice b3 Y.tracks.length b4] 26 (0, 0)) :: (c4 ++ (b5 ++ F)))) noCar f4 (PM.symm) (fun m9 b9 a5 => ?_);replace g_f := g_f.mono b9;replace hG := hG.mono b9;replace hgo := hgo.mono b9;replace c8 := c8.mono b9;obtain ⟨g4, g6, g5, g9, e2, g7, g8, h0⟩ := id a5;cases e2;refine sfz (A := ((b1, Obj.cells #[.slice a8 Y.cars.length a9, .slice b0 Y.room.length b2, .slice b3 Y.tracks.length b4] 26 (0, 0)) :: (b5 ++ F))) 0 f5 (PM.symm) (fun j5 b6 c0 => ?_);replace g_f := g_f.mono b6;replace hG := hG.mono b6;replace hgo := hgo.mono b6;replace c8 := c8.mono b6;replace a5 := a5.mono b6;obtain ⟨h3, h5, h4, h8, e3, h6, h7, h9⟩ := id c0;cases e3;refine sp 1 [(12, .agg #[.slice a6 Y.cars.length a7, .slice a3 Y.room.length a4, .slice a0 a2.length a1])] ?_;refine sS (sb 13 110 #[.slice a6 Y.cars.length a7, .slice a3 Y.room.length a4, .slice a0 a2.length a1] (fun d8 => ?_));refine sp 1 [(6, .pointer (some ⟨d8, 0, none⟩))] ?_;refine se (rq (rqr ?_));refine sp 1 [(14, .int .i64 (0))] ?_;refine se (rb 0 ?_);refine rl (fun mz a w => ∃ J0 : Imm, ∃ d : Nat, ∃ b7 : Seg, ∃ b8 : List Value, (j5.le J0) ∧ (d ≤ 5) ∧ (∀ m, m < d → plain (allP ps) m Y = none) ∧ (RowsV J0 b8 (Y.tracks)) ∧ (Own 23 1 valCell (.slice a0 a2.length a1) (b8) b7) ∧ Slots 28 [(14, .int .i64 ↑d), (1, .slice i0 gs.length i1), (6, .pointer (some ⟨d8, 0, none⟩))] a ∧ a.defers = [] ∧ St J0 ((d8, Obj.cells #[.slice a6 Y.cars.length a7, .slice a3 Y.room.length a4, (.slice a0 a2.length a1)] 110 (0, 0)) :: (b1, Obj.cells #[.slice a8 Y.cars.length a9, .slice b0 Y.room.length b2, .slice b3 Y.tracks.length b4] 26 (0, 0)) :: (b7 ++ F)) w ∧ mz = 5 - d) ?_ ?_
 ·intro a w hS hD hW;exact ⟨_, j5, 0, b5, a2, Imm.le.refl _, by omega, (fun m hm => by omega), c8, f6, hS.sub (.cons 14 rfl (.cons 1 rfl (.cons 6 rfl (.nil _)))), hD, hW, rfl⟩
 rintro mz a w ⟨J0, d, b7, b8, hJ0, hd, e7, c3, d1, hS, hD, hW, rfl⟩
 refine run_at hS hD hW ?_;clear hS hD hW a w;replace g_f := g_f.mono hJ0;replace hG := hG.mono hJ0;replace hgo := hgo.mono hJ0;replace a5 := a5.mono hJ0;replace c0 := c0.mono hJ0;have c1 := c3.1
 try simp only [LS, LA, LC, LN, LK] at c1
 refine rqr ?_;refine sp 1 [(15, .bool (cmp .lss (↑d) (5)))] ?_;refine se (rq ?_);refine rc 15 rfl (fun h1 => ?_) (fun h1 => ?_)
 ·
  have i2 := h1;have h1 := lss_t h1;refine rskip (pst_next (rq (rb 1 (rqr ?_))));refine sp 2 [(7, .int .i64 (↑d))] ?_;refine sn ?_;refine sp 2 [(19, .int .i64 (↑d)), (18, .pointer (some ⟨d8, 0, none⟩))] ?_;refine sS (stp_makeMap (d := 20) (T := 162) (ty := 162) (gd := none) (by kernel_rfl) rfl (fun g1 => ?_));refine sp 1 [(21, .slice i0 gs.length i1)] ?_;have e9 := search_ct J0 (d8) _ _ _ _ _ (Y) (d) (g1) (#[]) (0) ([]) _ _ (Y) (ps) a5 c0 d1 c3 (MapIs.nil encP) g_f (by assumption) (by assumption) (by exact Kin.refl Y) (by assumption) (by omega);refine sS (sc (some 22) (F := ((b1, Obj.cells #[.slice a8 Y.cars.length a9, .slice b0 Y.room.length b2, .slice b3 Y.tracks.length b4] 26 (0, 0)) :: F)) (e9 :) (by simpa only [AA, CA, NA] using ((PS _ _ _).trans (PC _ ((PC _ (PM.symm)).trans (PM.symm))))) (fun k9 k3 k7 d9 i4 => ?_));obtain ⟨e6, c2, c6, c5, l0, c7, f3, f2, e0, e1, j9, f7⟩ := i4;rw [f3, f2]; clear f3 f2;obtain ⟨i8, i9, j0, j1⟩ := id e0.shape;have c9 := e1.1
  try simp only [LS, LA, LC, LN, LK] at c9
  obtain ⟨d3, d4, e4, i6⟩ := f7.shape;subst e4;refine seq_mem (M' := ((d8, Obj.cells #[.slice a6 Y.cars.length a7, .slice a3 Y.room.length a4, .slice a0 a2.length a1] 110 (0, 0)) :: (c2 ++ (g1, Obj.map c6 c5) :: (c7 ++ (b1, Obj.cells #[.slice a8 Y.cars.length a9, .slice b0 Y.room.length b2, .slice b3 Y.tracks.length b4] 26 (0, 0)) :: F)))) (fun w h => by simpa only [AA, CA, NA] using h) ?_;refine pm (M' := ((d8, Obj.cells #[.slice a6 Y.cars.length a7, .slice a3 Y.room.length a4, .slice a0 a2.length a1] 110 (0, 0)) :: (g1, Obj.map c6 c5) :: (b1, Obj.cells #[.slice a8 Y.cars.length a9, .slice b0 Y.room.length b2, .slice b3 Y.tracks.length b4] 26 (0, 0)) :: (c2 ++ (c7 ++ F)))) (PC _ (List.perm_middle.trans (PC _ ((PA _ PM).trans PM)))) ?_;refine sp 5 [(9, .bool ((searchM (allP ps) d Y ([])).1.isSome)), (8, .slice d3 ((searchM (allP ps) d Y ([])).1.getD []).length d4)] ?_;refine sn ?_;refine sp 1 [(25, .bool ((searchM (allP ps) d Y ([])).1.isSome))] ?_;refine se ?_;refine rc 25 rfl (fun h2 => ?_) (fun h2 => ?_)
  ·
   have i3 := h2;refine rqr ?_;refine sp 3 [(5, .int .i64 (0)), (4, .slice d3 ((searchM (allP ps) d Y ([])).1.getD []).length d4)] ?_;refine se (rret ?_);refine (pst_ret_block (pst_ret_pass (pst_ret_pass (pst_ret_block (pst_ret_pass ?_)))));have i5 := search_plain j6 e7 (g := allP ps); have f0 := fewest_hit (by omega) e7 (by rw [← i5]; exact h2);refine ppm (M' := ((c7 ++ (d8, Obj.cells #[.slice a6 Y.cars.length a7, .slice a3 Y.room.length a4, .slice a0 a2.length a1] 110 (0, 0)) :: (g1, Obj.map c6 c5) :: (b1, Obj.cells #[.slice a8 Y.cars.length a9, .slice b0 Y.room.length b2, .slice b3 Y.tracks.length b4] 26 (0, 0)) :: (c2 ++ F)))) ((PC _ ((PC _ ((PC _ (PO _ _ _)).trans (PM.symm))).trans (PM.symm))).trans (PM.symm)) ?_;refine pst_ret2 (t := 4) (u := 5) (c7) (by kernel_rfl) rfl rfl (TA (TC _ (TC _ (TC _ (TT (TR _) (TB _ _))))) _) (Imm.le.trans (Imm.le.trans (Imm.le.trans (Imm.le.trans d0 b9) b6) hJ0) d9) ?_;exact ⟨_, _, (congrArg (fun n => Value.tuple #[_, .int .i64 n]) (show (0 : Int) = errOf (fewestM (allP ps) Y) from (errOf_some (by rw [f0, ← i5]; exact h2)).symm)), rfl, ((show (searchM (allP ps) d Y []).1.getD [] = (fewestM (allP ps) Y).getD [] from by rw [f0, i5]) ▸ f7)⟩
  have i3 := h2;refine rskip (pst_normal_block (pst_next (rr ?_)));refine sd (da 27 (↑d) (1)) ?_;refine sp 1 [(14, .int .i64 (↑d + 1))] ?_;refine ee ?_;refine pst_back (5 - (d+1)) (by omega) ?_;intro a w hS hD hW;exact ⟨k3, d+1, c2, e6, (Imm.le.trans hJ0 d9), by omega, below_next e7 (by rw [← search_plain j6 e7]; exact none_of h2), e1, e0, hS.sub (.consE 14 rfl rfl (.cons 1 rfl (.cons 6 rfl (.nil _)))), hD, (hW.perm ((PS _ _ _).trans (PC _ ((PC _ ((PC _ (PO _ _ _)).trans (PM.symm))).trans (PM.symm))))).sub (TC _ (TT (TR _) (TB _ _))), rfl⟩
 have i2 := h1;have h1 := lss_f h1;refine rexit 0 ?_;refine (pst_exit_pass (pst_exit_pass (pst_exit_block ?_)));refine pst_next (rqr ?_);refine sp 2 [(5, .int .i64 (11)), (4, .slice none 0 0)] ?_;refine se (rret ?_);have f0 := fewest_none (g := allP ps) (Y := Y) (fun m hm => e7 m (by omega));refine pst_ret2 (t := 4) (u := 5) ([]) (by kernel_rfl) rfl rfl (TC _ (TC _ (TT (TR _) (TB _ _)))) (Imm.le.trans (Imm.le.trans (Imm.le.trans d0 b9) b6) hJ0) ?_;exact ⟨_, _, (congrArg (fun n => Value.tuple #[_, .int .i64 n]) (show (11 : Int) = errOf (fewestM (allP ps) Y) from (errOf_none f0).symm)), rfl, ((show [] = (fewestM (allP ps) Y).getD [] from by rw [f0]; rfl) ▸ Own.nil _ _ _)⟩

noncomputable def c_checkOrder (p : List Nat) : Code := sub (bodyOf Tryz.f95) p
theorem checkOrder_ct (I : Imm) (y : Value) (Y : Yard) (a : Value) (o : List Int) (y_f : IsYard I y Y) (a_f : IsInts I a o) : CtV Tryz.prog 95 #[y, a] I (.int .i64 (orderErr Y o)) := by
 obtain ⟨y1, y2, y3, e8, b0, b2, b3⟩ := id y_f;subst e8;obtain ⟨a0, a1, d2, d5, b9, d3, d4, d6⟩ := id b0;subst b9;obtain ⟨a2, a3, d7, e0, c0, d8, d9, e1⟩ := id b2;subst c0;obtain ⟨a4, a5, e2, e5, c3, c1, e3, e4, e6, e7⟩ := id b3;subst c1;obtain ⟨a7, a8, e9, f2, c4, f0, f1, c2⟩ := id a_f;subst c4;refine fr (args := [_, _]) (N := 35) Tryz.func95 (fun F => ?_);show Run _ _ (c_checkOrder []) _ _ [(0, .agg #[.slice a0 Y.cars.length a1, .slice a2 Y.room.length a3, .slice a4 Y.tracks.length a5]), (1, .slice a7 o.length a8)] _ _;refine rnm (rqr ?_);refine sS (sb 2 26 #[.slice a0 Y.cars.length a1, .slice a2 Y.room.length a3, .slice a4 Y.tracks.length a5] (fun b1 => ?_));refine sp 1 [(4, .int .i64 (0))] ?_;refine se (rq (rqr ?_));refine sd (dnb 8 0 0 b1 [.slice a0 Y.cars.length a1, .slice a2 Y.room.length a3, .slice a4 Y.tracks.length a5]) ?_;refine sd (dc 9 (fun I' hI => (Check_ct I' _ (Y) ((mkYard b0 b2 b3).mono hI) :))) ?_;refine sp 1 [(5, .int .i64 ((checkErr Y)))] ?_;refine sn ?_;refine sp 2 [(11, .bool (!(cmp .eql ((checkErr Y)) (0))))] ?_;refine se ?_;refine rc 11 rfl (fun h1 => ?_) (fun h1 => ?_)
 ·
  have b4 := h1;have h1 := not_t h1;have h1 := eql_f h1;refine rqr ?_;refine sp 2 [(4, .int .i64 ((checkErr Y)))] ?_;refine se (rret ?_);refine (pst_ret_pass ?_);refine pst_ret1 (t := 4) [] (by kernel_rfl) rfl (TC _ (TR _)) (Imm.le.refl _) ?_;exact ⟨congrArg (Value.int .i64) ((orderErr_bad h1).symm), rfl⟩
 have b4 := h1;have h1 := not_f h1;have h1 := eql_t h1;refine rskip (pst_next (rq (rqr ?_)));refine sp 3 [(15, .int .i64 (0)), (14, .int .i64 (↑(o.length))), (13, .slice a7 o.length a8)] ?_;refine se (rb 0 ?_);refine rl (fun mz a w => ∃ k : Nat, (k ≤ o.length) ∧ (orderErr Y o = goO Y.cars.length (o.take k) (o.drop k)) ∧ Slots 35 [(15, .int .i64 ↑k), (1, .slice a7 o.length a8), (2, .pointer (some ⟨b1, 0, none⟩)), (13, .slice a7 o.length a8), (14, .int .i64 (↑(o.length)))] a ∧ a.defers = [] ∧ St I ((b1, Obj.cells #[.slice a0 Y.cars.length a1, .slice a2 Y.room.length a3, .slice a4 Y.tracks.length a5] 26 (0, 0)) :: F) w ∧ mz = o.length - k) ?_ ?_
 ·intro a w hS hD hW;exact ⟨_, 0, Nat.zero_le _, orderErr_ok (by omega), hS.sub (.cons 15 rfl (.cons 1 rfl (.cons 2 rfl (.cons 13 rfl (.cons 14 rfl (.nil _)))))), hD, hW, rfl⟩
 rintro mz a w ⟨k, hk, hr, hS, hD, hW, rfl⟩
 refine run_at hS hD hW ?_;clear hS hD hW a w;refine rqr ?_;refine sp 1 [(16, .bool (cmp .lss (↑k) (↑(o.length))))] ?_;refine se (rq ?_);refine rc 16 rfl (fun h2 => ?_) (fun h2 => ?_)
 ·
  have b5 := h2;have h2 := lss_t h2;refine rskip (pst_next (rq (rb 1 (rqr ?_))));refine sp 1 [(17, .int .i64 (↑k))] ?_;refine sd (di 18 1 (k) c2.addr) ?_;refine sd (dl 19 (ints_get c2 (k) (by omega))) ?_;refine sp 2 [(7, .int .i64 (o.getD (k) 0)), (6, .int .i64 (↑k))] ?_;refine se (rb 2 (rqr ?_));refine sp 2 [(22, .pointer (some ⟨b1, 0, none⟩)), (21, .int .i64 (o.getD (k) 0))] ?_;refine sd (dlb 23 0 0 b1 (.slice a0 Y.cars.length a1)) ?_;refine sp 1 [(24, .int .i64 (↑(Y.cars.length)))] ?_;refine sd (dsb 25 (↑(Y.cars.length)) (1)) ?_;refine sd (dc 26 (fun I' hI => (in_ct I' (o.getD (k) 0) (0) ((↑(Y.cars.length)) - 1) :))) ?_;refine sp 2 [(20, .bool (!(inB (o.getD (k) 0) 0 ((↑(Y.cars.length)) - 1))))] ?_;refine se ?_;refine rc 20 rfl (fun h3 => ?_) (fun h3 => ?_)
  ·
   have b7 := h3;have h3 := not_t h3;have b6 := inB_f h3;refine rqr ?_;refine sp 1 [(4, .int .i64 (3))] ?_;refine se (rret ?_);refine (pst_ret_block (pst_ret_block (pst_ret_pass (pst_ret_pass (pst_ret_block (pst_ret_pass ?_))))));refine pst_ret1 (t := 4) [] (by kernel_rfl) rfl (TC _ (TR _)) (Imm.le.refl _) ?_;exact ⟨congrArg (Value.int .i64) ((hr.trans (goO_unknown (by omega) h3)).symm), rfl⟩
  have b7 := h3;have h3 := not_f h3;have b6 := inB_t h3;refine rqr ?_;refine sp 2 [(30, .int .i64 (↑k)), (29, .slice a7 o.length a8)] ?_;have a6 := a_f.cutHi (k) (by omega);obtain ⟨c5, c7, c6, d0, a9, c8, c9, d1⟩ := id a6;rw [a9] at a6;refine sd (det_eq (det_slice (x := (.tmp 29)) (lo := none) (hi := (some (.tmp 30))) (T := 23) (e := 3) (sz := 1) (0) (k) (d := 31) (ty := 23) (gd := none) (by kernel_rfl) rfl (by kernel_rfl) (by kernel_rfl) rfl (.inl ⟨rfl, rfl⟩) (.inr ⟨_, .i64, rfl, rfl⟩) (by omega) (by omega)) a9) ?_;refine sp 1 [(32, .int .i64 (o.getD (k) 0))] ?_;refine sd (dc 33 (fun I' hI => (Contains_ct I' _ _ (o.getD (k) 0) (a6.mono hI) :))) ?_;refine sp 1 [(28, .bool (decide ((o.getD (k) 0) ∈ (o.take (k)))))] ?_;refine se ?_;refine rc 28 rfl (fun h4 => ?_) (fun h4 => ?_)
  ·
   have b8 := h4;have h4 := dec_t h4;refine rqr ?_;refine sp 1 [(4, .int .i64 (4))] ?_;refine se (rret ?_);refine (pst_ret_block (pst_ret_block (pst_ret_pass (pst_ret_pass (pst_ret_block (pst_ret_pass ?_))))));refine pst_ret1 (t := 4) [] (by kernel_rfl) rfl (TC _ (TR _)) (Imm.le.refl _) ?_;exact ⟨congrArg (Value.int .i64) ((hr.trans (goO_twice (by omega) h3 h4)).symm), rfl⟩
  have b8 := h4;have h4 := dec_f h4;refine rskip (pst_normal_block (pst_normal_block (pst_next (rr ?_))));refine sd (da 34 (↑k) (1)) ?_;refine sp 1 [(15, .int .i64 (↑k + 1))] ?_;refine ee ?_;refine pst_back (o.length - (k+1)) (by omega) ?_;intro a w hS hD hW;exact ⟨k+1, by omega, hr.trans (goO_next (by omega) h3 h4), hS.sub (.consE 15 rfl rfl (.cons 1 rfl (.cons 2 rfl (.cons 13 rfl (.cons 14 rfl (.nil _)))))), hD, hW, rfl⟩
 have b5 := h2;have h2 := lss_f h2;refine rexit 0 ?_;refine (pst_exit_pass (pst_exit_pass (pst_exit_block ?_)));refine pst_next (rqr ?_);refine sp 1 [(4, .int .i64 (0))] ?_;refine se (rret ?_);refine pst_ret1 (t := 4) [] (by kernel_rfl) rfl (TC _ (TR _)) (Imm.le.refl _) ?_;exact ⟨congrArg (Value.int .i64) ((hr.trans (goO_done (by omega))).symm), rfl⟩

noncomputable def c_Fewest (p : List Nat) : Code := sub (bodyOf Tryz.f38) p
theorem Fewest_ct (I : Imm) (y : Value) (Y : Yard) (a : Value) (o : List Int) (y_f : IsYard I y Y) (a_f : IsInts I a o) (hG : Glob I) : Ct Tryz.prog 38 #[y, a] I ([]) (fun v I' M' => ∃ u0 : Value, ∃ Ms0 : Seg, v = .tuple #[u0, .int .i64 ((fewestE Y o).2)] ∧ M' = Ms0 ∧ Own 52 3 shiftCell u0 ((fewestE Y o).1) Ms0) := by
 obtain ⟨y1, y2, y3, h4, b0, b2, b3⟩ := id y_f;subst h4;obtain ⟨a2, a3, g1, g4, e6, g2, g3, b6⟩ := id b0;subst e6;obtain ⟨a4, a5, g5, g8, e7, g6, g7, b7⟩ := id b2;subst e7;obtain ⟨a6, a7, g9, h3, f2, e8, h0, h2, b9, c0⟩ := id b3;subst e8;obtain ⟨d1, d2, h6, h9, f4, h7, h8, c9⟩ := id a_f;subst f4;refine fr (args := [_, _]) (N := 20) Tryz.func38 (fun F => ?_);show Run _ _ (c_Fewest []) _ _ [(0, .agg #[.slice a2 Y.cars.length a3, .slice a4 Y.room.length a5, .slice a6 Y.tracks.length a7]), (1, .slice d1 o.length d2)] _ _;refine rnm (rqr ?_);refine sS (sb 2 26 #[.slice a2 Y.cars.length a3, .slice a4 Y.room.length a5, .slice a6 Y.tracks.length a7] (fun b1 => ?_));refine sp 2 [(5, .int .i64 (0)), (4, .slice none 0 0)] ?_;refine se (rq (rqr ?_));refine sd (dnb 7 0 0 b1 [.slice a2 Y.cars.length a3, .slice a4 Y.room.length a5, .slice a6 Y.tracks.length a7]) ?_;refine sp 1 [(8, .slice d1 o.length d2)] ?_;refine sd (dc 9 (fun I' hI => (checkOrder_ct I' _ (Y) _ _ ((mkYard b0 b2 b3).mono hI) (a_f.mono hI) :))) ?_;refine sp 1 [(6, .int .i64 ((orderErr Y o)))] ?_;refine sn ?_;refine sp 2 [(11, .bool (!(cmp .eql ((orderErr Y o)) (0))))] ?_;refine se ?_;refine rc 11 rfl (fun h1 => ?_) (fun h1 => ?_)
 ·
  have e1 := h1;have h1 := not_t h1;have h1 := eql_f h1;refine rqr ?_;refine sp 3 [(5, .int .i64 ((orderErr Y o))), (4, .slice none 0 0)] ?_;refine se (rret ?_);refine (pst_ret_pass ?_);refine pst_ret2 (t := 4) (u := 5) ([]) (by kernel_rfl) rfl rfl (TC _ (TR _)) (Imm.le.refl _) ?_;exact ⟨_, _, (congrArg (fun n => Value.tuple #[_, .int .i64 n]) (show orderErr Y o = (fewestE Y o).2 from (congrArg Prod.snd (fewestE_bad h1)).symm)), rfl, ((show [] = (fewestE Y o).1 from (congrArg Prod.fst (fewestE_bad h1)).symm) ▸ Own.nil _ _ _)⟩
 have e1 := h1;have h1 := not_f h1;have h1 := eql_t h1;have e2 : orderErr Y o = 0 := by omega
 refine rskip (pst_next (rq ?_));refine rd 7 [(0, true), (1, true), (2, false), (3, false), (4, false), (5, true), (6, true)] ((b1, Obj.cells #[.slice a2 Y.cars.length a3, .slice a4 Y.room.length a5, .slice a6 Y.tracks.length a7] 26 (0, 0)) :: []) (F) ?_;refine ofp_det (dnb 13 0 0 b1 [.slice a2 Y.cars.length a3, .slice a4 Y.room.length a5, .slice a6 Y.tracks.length a7]) ?_;refine ox 1 [(14, .slice d1 o.length d2)] ?_;have c4 := ordered_ct I _ _ a_f;refine ofp_stp (sc (some 15) (F := ((b1, Obj.cells #[.slice a2 Y.cars.length a3, .slice a4 Y.room.length a5, .slice a6 Y.tracks.length a7] 26 (0, 0)) :: F)) (c4 :) (PR _) (fun f8 I3 f6 a1 f5 => ?_));obtain ⟨b8, f0, e9, d0⟩ := f5;rw [f0, e9]; clear f0 e9;replace y_f := y_f.mono a1;replace b0 := b0.mono a1;replace b6 := b6.mono a1;replace b2 := b2.mono a1;replace b7 := b7.mono a1;replace b3 := b3.mono a1;replace b9 := b9.mono a1;replace c0 := fun i hi => (c0 i hi).mono a1
 replace a_f := a_f.mono a1;replace c9 := c9.mono a1;replace hG := hG.mono a1;refine ofp_settle (S' := (F)) (PR _) ?_;show OFP _ _ _ _ _ _ ((15, .func (.func 131) #[] #[.pointer (some ⟨b8, 0, none⟩)]) :: _) _ _;refine ofp_stpH (sbs 16 101 1 #[.func (.func 131) #[] #[.pointer (some ⟨b8, 0, none⟩)]] (fun d3 => ?_));refine hk_mem (M' := ((b1, Obj.cells #[.slice a2 Y.cars.length a3, .slice a4 Y.room.length a5, .slice a6 Y.tracks.length a7] 26 (0, 0)) :: ([(d3, Obj.cells #[.func (.func 131) #[] #[.pointer (some ⟨b8, 0, none⟩)]] 101 (0, 0))] ++ F))) (fun w h => h.perm (PS _ _ _)) ?_;have e3 : Own 101 1 valCell (.slice (some ⟨d3, 0, none⟩) 1 1) ([(.func (.func 131) #[] #[.pointer (some ⟨b8, 0, none⟩)] : Value)] : List Value) [(d3, Obj.cells #[.func (.func 131) #[] #[.pointer (some ⟨b8, 0, none⟩)]] 101 (0, 0))] := Own.lit rfl rfl;refine hk_freeze (B := ((b1, Obj.cells #[.slice a2 Y.cars.length a3, .slice a4 Y.room.length a5, .slice a6 Y.tracks.length a7] 26 (0, 0)) :: F)) undef e3 (by first | omega | (simp only [LS, LC, LN, LA, LK, LD] <;> omega) | decide) (PM.symm) (PR _) (fun f3 a0 b5 => ?_);replace y_f := y_f.mono a0;replace b0 := b0.mono a0;replace b6 := b6.mono a0;replace b2 := b2.mono a0;replace b7 := b7.mono a0;replace b3 := b3.mono a0;replace b9 := b9.mono a0;replace c0 := fun i hi => (c0 i hi).mono a0
 replace a_f := a_f.mono a0;replace c9 := c9.mono a0;replace hG := hG.mono a0;replace d0 := a0.blk _ _ d0;obtain ⟨d4, d6, d5, d9, c2, d7, d8, e0⟩ := id b5;cases c2;refine hk_done ?_;refine ofp_settle (S' := (F)) (PR _) ?_;have f1 := orderErr_valid e2;have c5 := fewest_ct f3 _ (Y) _ _ ([orderedP o]) (mkYard b0 b2 b3) b5 (by first | exact hG | exact hG.mono hI) (by exact goals_ordered (by assumption) (by assumption) (Kin.pos f1.fine (Kin.refl Y))) (by exact f1);refine ofp_stp (sc (some 17) (F := ((b1, Obj.cells #[.slice a2 Y.cars.length a3, .slice a4 Y.room.length a5, .slice a6 Y.tracks.length a7] 26 (0, 0)) :: F)) (c5 :) (PR _) (fun f9 h5 f7 c1 e4 => ?_));obtain ⟨g0, b4, c7, c6, c8⟩ := e4;rw [c7, c6]; clear c7 c6;replace d0 := c1.blk _ _ d0;obtain ⟨a8, a9, c3, e5⟩ := c8.shape;subst c3;refine ofp_settle (S' := ((b4 ++ F))) PM ?_;show OFP _ _ _ _ _ _ ((17, .tuple #[.slice a8 ((fewestM (allP ([orderedP o])) Y).getD []).length a9, .int .i64 ((errOf (fewestM (allP ([orderedP o])) Y)))]) :: _) _ _;refine ox 2 [(19, .int .i64 ((errOf (fewestM (allP ([orderedP o])) Y)))), (18, .slice a8 ((fewestM (allP ([orderedP o])) Y).getD []).length a9)] ?_;refine ofp_end ?_;refine nm (nm ?_);refine sp 2 [(5, .int .i64 ((errOf (fewestM (allP ([orderedP o])) Y)))), (4, .slice a8 ((fewestM (allP ([orderedP o])) Y).getD []).length a9)] ?_;refine se (rret ?_);refine ppm (M' := ((b4 ++ (b1, Obj.cells #[.slice a2 Y.cars.length a3, .slice a4 Y.room.length a5, .slice a6 Y.tracks.length a7] 26 (0, 0)) :: F))) (PM.symm) ?_;refine pst_ret2 (t := 4) (u := 5) (b4) (by kernel_rfl) rfl rfl (TA (TC _ (TR _)) _) (Imm.le.trans (Imm.le.trans a1 a0) c1) ?_;exact ⟨_, _, (congrArg (fun n => Value.tuple #[_, .int .i64 n]) (show errOf (fewestM (allP [orderedP o]) Y) = (fewestE Y o).2 from (congrArg Prod.snd (fewestE_ok e2)).symm)), rfl, ((show (fewestM (allP [orderedP o]) Y).getD [] = (fewestE Y o).1 from (congrArg Prod.fst (fewestE_ok e2)).symm) ▸ c8)⟩

end Go.Proofs.YtcaocbhbofejnaaGreatDoor
