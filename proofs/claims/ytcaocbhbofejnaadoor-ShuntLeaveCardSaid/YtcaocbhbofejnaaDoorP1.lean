/- A part of the proof of the laws of this seat. -/
import Derived.Test.YtcaocbhbofejnaaDoorP0
import Derived.KernelRfl
import Derived.Test.YtcaocbhbofejnaaDoorProg
set_option linter.unusedVariables false
set_option linter.unusedSimpArgs false
namespace Go.Sl
open Go

def entOf {κ : Type} (enc : κ → Value) (x : κ × Value) : Value × Value := (enc x.1, x.2)
def MapIs {κ : Type} (enc : κ → Value) (es : Array MapEntry) (kvs : List (κ × Value)) : Prop := es.toList.map (fun e => (e.key, e.val)) = kvs.map (entOf enc)

theorem MapIs.nil {κ : Type} (enc : κ → Value) : MapIs enc #[] [] := rfl
theorem MapIs.size {κ : Type} {enc : κ → Value} {es : Array MapEntry} {kvs : List (κ × Value)} (h : MapIs enc es kvs) : es.size = kvs.length := by
  have := congrArg List.length h
  simpa using this

def findKv {κ : Type} [DecidableEq κ] (k : κ) : List (κ × Value) → Nat → Option (Nat × Value)
  | [], _ => none
  | x :: r, i => if x.1 = k then some (i, x.2) else findKv k r (i + 1)

def upd {κ : Type} [DecidableEq κ] (k : κ) (v : Value) : List (κ × Value) → List (κ × Value)
  | [] => [(k, v)]
  | x :: r => if x.1 = k then (k, v) :: r else x :: upd k v r
def del {κ : Type} [DecidableEq κ] (k : κ) : List (κ × Value) → List (κ × Value)
  | [] => []
  | x :: r => if x.1 = k then r else x :: del k r
def getKv {κ : Type} [DecidableEq κ] (k : κ) : List (κ × Value) → Option Value
  | [] => none
  | x :: r => if x.1 = k then some x.2 else getKv k r

theorem findKv_get {κ : Type} [DecidableEq κ] (k : κ) : ∀ (kvs : List (κ × Value)) (i : Nat), (findKv k kvs i).map Prod.snd = getKv k kvs := by
  intro kvs
  induction kvs with
  | nil => intro i; rfl
  | cons x r ih => intro i; simp only [findKv, getKv]; split <;> simp_all
theorem findKv_upd {κ : Type} [DecidableEq κ] (k : κ) (v : Value) : ∀ (kvs : List (κ × Value)) (i : Nat), (match findKv k kvs i with
    | some (j, _) => i ≤ j ∧ upd k v kvs = kvs.set (j - i) (k, v) ∧ del k kvs = kvs.eraseIdx (j - i) ∧ (kvs[j - i]?).map Prod.fst = some k
    | none => upd k v kvs = kvs ++ [(k, v)] ∧ del k kvs = kvs) := by
  intro kvs
  induction kvs with
  | nil => intro i; exact ⟨rfl, rfl⟩
  | cons x r ih =>
    intro i
    simp only [findKv, upd, del]
    by_cases h : x.1 = k
    · rw [if_pos h, if_pos h, if_pos h]
      simp [h]
    · rw [if_neg h, if_neg h, if_neg h]
      have := ih (i + 1)
      cases hf : findKv k r (i + 1) with
      | none => rw [hf] at this; simp only at this ⊢; exact ⟨by rw [this.1]; rfl, by rw [this.2]⟩
      | some y =>
        obtain ⟨j, u⟩ := y
        rw [hf] at this
        simp only at this ⊢
        obtain ⟨h1, h2, h3, h4⟩ := this
        have e : j - i = (j - (i + 1)) + 1 := by omega
        refine ⟨by omega, ?_, ?_, ?_⟩
        · rw [e, List.set_cons_succ, h2]
        · rw [e, List.eraseIdx_cons_succ, h3]
        · rw [e]; simpa using h4

structure KeyOk (P : Program) (kt : TypeId) {κ : Type} [DecidableEq κ] (enc : κ → Value) : Prop where
  inj : ∀ a b, enc a = enc b → a = b
  check : ∀ (b : Bool) (k : κ) (Q : Unit → Seg → Prop) (I : Imm) (M : Seg), Q () M → wpL P (Instr.checkKey b 10000 kt (enc k)) Q I M
  find : ∀ (k : κ) (es : List MapEntry) (kvs : List (κ × Value)) (Q : Option (Nat × Value) → Seg → Prop) (I : Imm) (M : Seg), es.map (fun e => (e.key, e.val)) = kvs.map (entOf enc) →
    Q (findKv k kvs 0) M → wpL P (Instr.findKey kt (enc k) es) Q I M

def encI (x : Int) : Value := .int .i64 x

theorem findNow_int {k : Int} {kd : TypeDesc} (hk : kd = .int .i64) : ∀ (es : List MapEntry) (kvs : List (Int × Value)) (i : Nat), es.map (fun e => (e.key, e.val)) = kvs.map (entOf encI) →
    Instr.findNow kd (encI k) es i = some (findKv k kvs i) := by
  subst hk
  intro es
  induction es with
  | nil => intro kvs i h; cases kvs with
    | nil => rfl
    | cons x r => simp at h
  | cons e es ih =>
    intro kvs i h
    cases kvs with
    | nil => simp at h
    | cons x r =>
      simp only [List.map_cons, List.cons.injEq, entOf, Prod.mk.injEq] at h
      obtain ⟨⟨h1, h2⟩, h3⟩ := h
      simp only [Instr.findNow, h1, encI, Instr.sameNow, findKv]
      by_cases hx : x.1 = k
      · rw [if_pos hx, ← hx]; simp [h2]
      · rw [if_neg hx]
        have : (k == x.1) = false := by simpa using fun e => hx e.symm
        simp only [if_true, this]
        exact ih r (i + 1) h3

theorem keyOk_int {P : Program} {kt : TypeId} (h : P.underlying kt = some (.int .i64)) : KeyOk P kt encI where
  inj := fun a b e => by simpa [encI] using e
  check := fun b k Q I M hq => by
    unfold Instr.checkKey
    rw [wpL_bind, wpL_underlying h]
    exact hq
  find := fun k es kvs Q I M hes hq => by
    unfold Instr.findKey
    rw [wpL_bind, wpL_underlying h, findNow_int rfl es kvs 0 hes]
    exact hq

def tyMap (P : Program) (t : TypeId) : Option (TypeId × TypeId) :=
  match P.underlying t with
  | some (.map k e) => some (k, e)
  | _ => none
theorem tyMap_spec {P : Program} {t k e : TypeId} (h : tyMap P t = some (k, e)) : P.underlying t = some (.map k e) := by
  unfold tyMap at h
  split at h
  · cases h; assumption
  · cases h
def tyI64 (P : Program) (t : TypeId) : Bool :=
  match P.underlying t with
  | some (.int .i64) => true
  | _ => false
theorem tyI64_spec {P : Program} {t : TypeId} (h : tyI64 P t = true) : P.underlying t = some (.int .i64) := by
  unfold tyI64 at h
  split at h
  · assumption
  · cases h

section
variable {ρ : Option Nat} {P : Program} {N : Nat} {ops : Array Oper} {i : Nat} {l : Sl} {I : Imm} {R M : Seg} {d : Nat} {ty : TypeId} {gd : Option (Nat × Bool)} {K : Sl → Imm → Seg → Prop}
variable {κ : Type} [DecidableEq κ] {enc : κ → Value}

theorem Holds.mono {I J : Imm} {R N : Seg} {r : Nat} {o : Obj} (h : Holds I R r o) (le : I.le J) : Holds J (R ++ N) r o := h.elim (fun h => .inl (List.mem_append_left _ h)) (fun h => .inr (le.blk _ _ h))

theorem det_lookup {x y : Operand} {T kt et r cl : Nat} {es : Array MapEntry} {kvs : List (κ × Value)} {k : κ} {z v : Value} (hop : opAt ops N i = some (some d, .lookup T x y false, ty, gd)) (hg : gval ops l gd = some true)
    (hT : tyMap P T = some (kt, et)) (hK : KeyOk P kt enc) (hx : oval l x = some (.map (some r))) (hy : oval l y = some (enc k)) (hz : tyZero P et = some z) (hm : Holds I R r (.map es cl)) (his : MapIs enc es kvs)
    (hv : (getKv k kvs).getD z = v) : Det P N ops i l I R d v := by
  subst hv
  refine det_of_wpL hop hg (known2 hx hy) fun I' M' hle => ?_
  show wpL P (Instr.lookup T (rho l x) (rho l y) false >>= fun x => pure (Next.value x)) _ I' _
  rw [rho_of hx, rho_of hy]
  refine wpL_val ?_
  unfold Instr.lookup
  rw [wpL_bind, wpL_underlying (tyMap_spec hT)]
  show wpL P (Sem.getObj r _) _ I' _
  refine ⟨_, hm.mono hle, rfl, ?_⟩
  show wpL P (Instr.checkKey _ _ _ _ >>= _) _ I' _
  rw [wpL_bind]
  refine hK.check _ _ _ _ _ ?_
  rw [wpL_bind]
  refine hK.find k es.toList kvs _ _ _ his ?_
  have hf := findKv_get k kvs 0
  cases hkv : findKv k kvs 0 with
  | none =>
    rw [hkv] at hf
    simp only [Option.map_none] at hf
    show wpL P (zeroValue et >>= _) _ I' _
    rw [wpL_bind, wpL_zeroValue hz, ← hf]
    exact ⟨rfl, rfl⟩
  | some p =>
    obtain ⟨j, u⟩ := p
    rw [hkv] at hf
    simp only [Option.map_some] at hf
    rw [← hf]
    exact ⟨rfl, rfl⟩

theorem det_lookup2 {x y : Operand} {T kt et r cl : Nat} {es : Array MapEntry} {kvs : List (κ × Value)} {k : κ} {z v : Value} {b : Bool} (hop : opAt ops N i = some (some d, .lookup T x y true, ty, gd)) (hg : gval ops l gd = some true)
    (hT : tyMap P T = some (kt, et)) (hK : KeyOk P kt enc) (hx : oval l x = some (.map (some r))) (hy : oval l y = some (enc k)) (hz : tyZero P et = some z) (hm : Holds I R r (.map es cl)) (his : MapIs enc es kvs)
    (hv : (getKv k kvs).getD z = v) (hb : (getKv k kvs).isSome = b) : Det P N ops i l I R d (.tuple #[v, .bool b]) := by
  subst hv hb
  refine det_of_wpL hop hg (known2 hx hy) fun I' M' hle => ?_
  show wpL P (Instr.lookup T (rho l x) (rho l y) true >>= fun x => pure (Next.value x)) _ I' _
  rw [rho_of hx, rho_of hy]
  refine wpL_val ?_
  unfold Instr.lookup
  rw [wpL_bind, wpL_underlying (tyMap_spec hT)]
  show wpL P (Sem.getObj r _) _ I' _
  refine ⟨_, hm.mono hle, rfl, ?_⟩
  show wpL P (Instr.checkKey _ _ _ _ >>= _) _ I' _
  rw [wpL_bind]
  refine hK.check _ _ _ _ _ ?_
  rw [wpL_bind]
  refine hK.find k es.toList kvs _ _ _ his ?_
  have hf := findKv_get k kvs 0
  cases hkv : findKv k kvs 0 with
  | none =>
    rw [hkv] at hf
    simp only [Option.map_none] at hf
    show wpL P (zeroValue et >>= _) _ I' _
    rw [wpL_bind, wpL_zeroValue hz, ← hf]
    exact ⟨rfl, rfl⟩
  | some p =>
    obtain ⟨j, u⟩ := p
    rw [hkv] at hf
    simp only [Option.map_some] at hf
    rw [← hf]
    exact ⟨rfl, rfl⟩

theorem wpL_setObj {r : Nat} {o o' : Obj} {α : Type} {k : Sem α} {Q : α → Seg → Prop} (n : Nat) (ho : isCells o = false) (hn : M[n]? = some (r, o')) (ho' : isCells o' = false) (h : wpL P k Q I (M.set n (r, o))) : wpL P (.setObj r o k) Q I M :=
  ⟨ho, n, o', hn, ho', h⟩

theorem mapIs_set {κ : Type} {enc : κ → Value} {es : Array MapEntry} {kvs : List (κ × Value)} (h : MapIs enc es kvs) (j : Nat) (k : κ) (v key : Value) (hk : key = enc k) : MapIs enc (es.modify j fun e => { e with key, val := v }) (kvs.set j (k, v)) := by
  unfold MapIs at h ⊢
  subst hk
  apply List.ext_getElem?
  intro n
  have hn := congrArg (fun l => l[n]?) h
  simp only [List.getElem?_map] at hn ⊢
  rw [List.getElem?_set]
  simp only [Array.getElem?_toList] at hn ⊢
  rw [Array.getElem?_modify]
  by_cases e : j = n
  · subst e
    rw [if_pos rfl, if_pos rfl]
    by_cases hl : j < kvs.length
    · rw [if_pos hl]
      have : j < es.size := by rw [MapIs.size h]; exact hl
      simp [this, entOf]
    · rw [if_neg hl]
      have : ¬ j < es.size := by rw [MapIs.size h]; exact hl
      simp [this]
  · rw [if_neg e, if_neg e]; exact hn
theorem mapIs_push {κ : Type} {enc : κ → Value} {es : Array MapEntry} {kvs : List (κ × Value)} (h : MapIs enc es kvs) (k : κ) (v : Value) (c : Nat) : MapIs enc (es.push { key := enc k, val := v, born := c }) (kvs ++ [(k, v)]) := by
  unfold MapIs at h ⊢
  simp only [Array.toList_push, List.map_append, h, List.map_cons, List.map_nil, entOf]
theorem mapIs_erase {κ : Type} {enc : κ → Value} {es : Array MapEntry} {kvs : List (κ × Value)} (h : MapIs enc es kvs) (j : Nat) : MapIs enc (es.eraseIdxIfInBounds j) (kvs.eraseIdx j) := by
  unfold MapIs at h ⊢
  have e1 : (es.eraseIdxIfInBounds j).toList = es.toList.eraseIdx j := by
    unfold Array.eraseIdxIfInBounds
    split
    · simp
    · rw [List.eraseIdx_of_length_le]; simpa using by omega
  rw [e1]
  have map_erase : ∀ {α β : Type} (f : α → β) (l : List α) (j : Nat), (l.eraseIdx j).map f = (l.map f).eraseIdx j := fun f l => by
    induction l with
    | nil => intro j; simp
    | cons x l ih => intro j; cases j with
      | zero => simp
      | succ j => simp [ih]
  rw [map_erase, h, map_erase]

theorem stp_mapUpdate {x y u : Operand} {T kt et r cl : Nat} {es : Array MapEntry} {kvs : List (κ × Value)} {k : κ} {v : Value} (n : Nat) (hop : opAt ops N i = some (none, .mapUpdate T x y u, ty, gd)) (hg : gval ops l gd = some true)
    (hT : tyMap P T = some (kt, et)) (hK : KeyOk P kt enc) (hx : oval l x = some (.map (some r))) (hy : oval l y = some (enc k)) (hu : oval l u = some v) (hn : M[n]? = some (r, Obj.map es cl)) (his : MapIs enc es kvs)
    (h : ∀ es' cl', MapIs enc es' (upd k v kvs) → K l I (M.set n (r, Obj.map es' cl'))) : Stp P N ops i l I M K :=
  stp_of_wpL hop hg (known3 hx hy hu) (by
    show wpL P (Instr.mapUpdate T (rho l x) (rho l y) (rho l u) >>= fun _ => pure Next.skip) _ I M
    rw [rho_of hx, rho_of hy, rho_of hu, wpL_bind]
    unfold Instr.mapUpdate
    rw [wpL_bind, wpL_underlying (tyMap_spec hT)]
    show wpL P (Sem.getObj r _) _ I M
    refine ⟨_, .inl (List.mem_of_getElem? hn), rfl, ?_⟩
    show wpL P (Instr.checkKey _ _ _ _ >>= _) _ I _
    rw [wpL_bind]
    refine hK.check _ _ _ _ _ ?_
    rw [wpL_bind]
    refine hK.find k es.toList kvs _ _ _ his ?_
    have hf := findKv_upd k v kvs 0
    cases hkv : findKv k kvs 0 with
    | none =>
      rw [hkv] at hf
      simp only at hf
      show wpL P (Sem.setObj r _ _) _ I M
      refine wpL_setObj n rfl hn rfl ?_
      refine ⟨undef, .inr ⟨rfl, rfl⟩, h _ _ ?_⟩
      rw [hf.1]
      exact mapIs_push his k v cl
    | some p =>
      obtain ⟨j, w⟩ := p
      rw [hkv] at hf
      simp only [Nat.sub_zero] at hf
      obtain ⟨_, h1, _, h2⟩ := hf
      have hold : ((es[j]?).map (·.key)).getD (enc k) = enc k := by
        have := congrArg (fun l => (l[j]?).map Prod.fst) his
        simp only [List.getElem?_map, Array.getElem?_toList, Option.map_map] at this
        cases he : es[j]? with
        | none => rfl
        | some e =>
          rw [he] at this
          cases hq : kvs[j]? with
          | none => rw [hq] at this; simp at this
          | some q =>
            rw [hq] at this h2
            simp [entOf] at this h2
            simp [this, h2]
      have key : ∀ key, key = enc k → wpL P (Sem.setObj r (.map (es.modify j fun e => { e with key, val := v }) cl) (Sem.pure ())) (fun _ M' => wpL P (pure Next.skip) (fun n M' => ∃ v, (n = .value v ∨ (n = .skip ∧ v = undef)) ∧ K (ups none v l) I M') I M') I M := fun key hkey => by
        refine wpL_setObj n rfl hn rfl ?_
        refine ⟨undef, .inr ⟨rfl, rfl⟩, h _ _ ?_⟩
        rw [h1]
        exact mapIs_set his j k v key hkey
      show wpL P (Instr.keyThatStays (((es[j]?).map (·.key)).getD (enc k)) (enc k) >>= _) _ I M
      rw [wpL_bind, hold]
      unfold Instr.keyThatStays
      split
      · exact key _ rfl
      · rw [wpL_bind]
        show (if (Question.extern "map.whichKeyStays" 2).forced then _ else ∀ t, _)
        split
        · refine key _ ?_; split <;> rfl
        · intro t; refine key _ ?_; split <;> rfl)

def trues (ks : List κ) : List (κ × Value) := ks.map (fun k => (k, Value.bool true))
theorem trues_length {κ : Type} (ks : List κ) : (trues ks).length = ks.length := by simp [trues]
theorem getKv_trues (k : κ) (ks : List κ) : (getKv k (trues ks)).getD (.bool false) = .bool (decide (k ∈ ks)) := by
  induction ks with
  | nil => rfl
  | cons x r ih =>
    simp only [trues, List.map_cons, getKv]
    by_cases h : x = k
    · rw [if_pos h]; simp [h]
    · rw [if_neg h]
      have : (k ∈ x :: r) ↔ k ∈ r := by simp [Ne.symm h]
      rw [decide_eq_decide.2 this]
      exact ih
theorem upd_trues (k : κ) (ks : List κ) : upd k (.bool true) (trues ks) = trues (if k ∈ ks then ks else ks ++ [k]) := by
  induction ks with
  | nil => rfl
  | cons x r ih =>
    simp only [trues, List.map_cons, upd] at ih ⊢
    by_cases h : x = k
    · rw [if_pos h]; simp [h]
    · rw [if_neg h, ih]
      have h2 : (k ∈ x :: r) ↔ k ∈ r := by simp [Ne.symm h]
      by_cases h3 : k ∈ r
      · rw [if_pos h3, if_pos (h2.2 h3)]; rfl
      · rw [if_neg h3, if_neg (fun h4 => h3 (h2.1 h4))]; rfl
theorem del_trues (k : κ) (ks : List κ) : del k (trues ks) = trues (ks.erase k) := by
  induction ks with
  | nil => rfl
  | cons x r ih =>
    simp only [trues, List.map_cons, del] at ih ⊢
    by_cases h : x = k
    · rw [if_pos h, List.erase_cons]; simp [h]
    · rw [if_neg h, ih, List.erase_cons]
      have : (x == k) = false := by simpa using h
      simp [this]
end
end Go.Sl
namespace Go.Sh
open Go Go.Sl

def inB (n lo hi : Int) : Bool := decide (lo ≤ n) && decide (n ≤ hi)
theorem inB_t {n lo hi : Int} (h : inB n lo hi = true) : lo ≤ n ∧ n ≤ hi := by simpa [inB] using h
theorem inB_f {n lo hi : Int} (h : inB n lo hi = false) : ¬ (lo ≤ n ∧ n ≤ hi) := by
  intro hh; rw [show inB n lo hi = true by simpa [inB] using hh] at h; cases h

section
variable {α : Type} {xs ys : List α} {k : Nat} {d : α}
theorem take_step (hl : xs.length = ys.length) (h : xs.take k = ys.take k) (hk : k < xs.length) (e : xs.getD k d = ys.getD k d) : xs.take (k + 1) = ys.take (k + 1) := by
  rw [List.take_succ_eq_append_getElem hk, List.take_succ_eq_append_getElem (hl ▸ hk), h]
  have hk' : k < ys.length := hl ▸ hk
  simp [List.getD, hk, hk'] at e
  rw [e]
theorem take_all (hl : xs.length = ys.length) (h : xs.take k = ys.take k) (hk : xs.length ≤ k) : xs = ys := by
  rw [List.take_of_length_le hk, List.take_of_length_le (hl ▸ hk)] at h; exact h
theorem take_snoc (hk : k < xs.length) : xs.take (k + 1) = xs.take k ++ [xs.getD k d] := by
  rw [List.take_succ_eq_append_getElem hk]
  simp [List.getD, hk]
theorem take_done (hk : xs.length ≤ k) : xs.take k = xs := List.take_of_length_le hk
theorem getD_mem (hk : k < xs.length) : xs.getD k d ∈ xs := by
  simp [List.getD, hk]
theorem getD_ne (hl : xs.length = ys.length) (h : xs.getD k d ≠ ys.getD k d) : xs ≠ ys := fun e => h (by rw [e])
end

def seat (xs : List Int) (n : Int) : Int := if n ∈ xs then ↑(xs.idxOf n) else -1
theorem not_take_succ {xs : List Int} {n : Int} {k : Nat} (h : n ∉ xs.take k) (hk : k < xs.length) (hne : xs.getD k 0 ≠ n) : n ∉ xs.take (k + 1) := by
  rw [take_snoc (d := 0) hk]
  intro hm
  rcases List.mem_append.1 hm with hm | hm
  · exact h hm
  · simp only [List.mem_singleton] at hm; exact hne hm.symm
theorem seat_hit {xs : List Int} {n : Int} {k : Nat} (h : n ∉ xs.take k) (hk : k < xs.length) (e : xs.getD k 0 = n) : seat xs n = ↑k := by
  have hm : n ∈ xs := e ▸ getD_mem hk
  rw [seat, if_pos hm]
  congr 1
  have hx : xs[k] = n := by simpa [List.getD, hk] using e
  have h1 : xs = xs.take k ++ xs[k] :: xs.drop (k + 1) := by
    rw [← List.drop_eq_getElem_cons hk, List.take_append_drop]
  rw [h1, hx, List.idxOf_append, if_neg h]
  simp
  omega
theorem seat_miss {xs : List Int} {n : Int} {k : Nat} (h : n ∉ xs.take k) (hk : xs.length ≤ k) : seat xs n = -1 := by
  rw [take_done hk] at h
  rw [seat, if_neg h]
theorem seat_neg {xs : List Int} {n : Int} : cmp .geq (seat xs n) 0 = decide (n ∈ xs) := by
  unfold seat
  by_cases h : n ∈ xs <;> simp [h, cmp]

def Ok (cs : List Car) (t : List Int) : Prop := ∀ c ∈ t, 0 ≤ c ∧ c < cs.length
theorem Ok.at {cs : List Car} {t : List Int} (h : Ok cs t) (k : Nat) (hk : k < t.length) : 0 ≤ t.getD k 0 ∧ t.getD k 0 < cs.length := h _ (getD_mem hk)
def carAt (cs : List Car) (c : Int) : Car := cs.getD c.toNat noCar
def lenOf (cs : List Car) (t : List Int) : Int := (t.map fun c => (carAt cs c).len).sum
theorem lenOf_nil (cs : List Car) : lenOf cs [] = 0 := rfl
theorem lenOf_append (cs : List Car) (s t : List Int) : lenOf cs (s ++ t) = lenOf cs s + lenOf cs t := by simp [lenOf]
theorem lenOf_succ {cs : List Car} {t : List Int} {k : Nat} (hk : k < t.length) : lenOf cs (t.take (k + 1)) = lenOf cs (t.take k) + (carAt cs (t.getD k 0)).len := by
  rw [take_snoc (d := 0) hk, lenOf_append]; simp [lenOf]
def Small (cs : List Car) : Prop := ∀ c ∈ cs, 0 ≤ c.len ∧ c.len ≤ 4
theorem Small.at {cs : List Car} (h : Small cs) (c : Int) : 0 ≤ (carAt cs c).len ∧ (carAt cs c).len ≤ 4 := by
  unfold carAt
  by_cases hc : c.toNat < cs.length
  · exact h _ (getD_mem hc)
  · simp [List.getD, List.getElem?_eq_none (Nat.le_of_not_lt hc), noCar]
theorem lenOf_bound {cs : List Car} (h : Small cs) (t : List Int) : 0 ≤ lenOf cs t ∧ lenOf cs t ≤ 4 * t.length := by
  induction t with
  | nil => simp [lenOf]
  | cons c t ih =>
    have := h.at c
    simp only [lenOf, List.map_cons, List.sum_cons, List.length_cons] at ih ⊢
    omega
def coupled (cs : List Car) (t : List Int) (at' : Int) : Bool :=
  inB at' 1 (↑t.length - 1) && decide (0 < (carAt cs (t.getD at'.toNat 0)).grp) && decide ((carAt cs (t.getD at'.toNat 0)).grp = (carAt cs (t.getD (at' - 1).toNat 0)).grp)

def carErr (c : Car) : Int :=
  if inB c.len 1 4 && inB c.wt 1 60 && inB c.brk 0 c.wt && inB c.grp 0 3 then 0 else 1

theorem eqShift (s t : Shift) : ((s.frm == t.frm) && ((s.to == t.to) && ((s.many == t.many) && true))) = decide (s = t) := by
  rcases s with ⟨a, b, c⟩; rcases t with ⟨a', b', c'⟩
  by_cases h1 : a = a' <;> by_cases h2 : b = b' <;> by_cases h3 : c = c' <;> simp [h1, h2, h3]
theorem u64_range (x : Int) : 0 ≤ IntKind.u64.wrap x ∧ IntKind.u64.wrap x ≤ 18446744073709551615 := by
  have h1 : IntKind.u64.signed = false := rfl
  have h2 : (2 : Int) ^ IntKind.u64.bits = 18446744073709551616 := rfl
  simp only [IntKind.wrap, h1, h2, Bool.false_and, Bool.false_eq_true, if_false]
  omega
theorem u64_mod {x m : Int} (h : 0 ≤ x) (hm : 0 < m) : 0 ≤ x % m ∧ x % m < m := ⟨Int.emod_nonneg _ (by omega), Int.emod_lt_of_pos _ hm⟩
theorem fdiv_nonneg {x y : Int} (h : 0 ≤ x) (hy : 0 ≤ y) : 0 ≤ x.fdiv y := Int.fdiv_nonneg h hy
theorem up_nat {x most : Int} (h : 1 ≤ most) (h2 : most ≤ 1000000) (hx : 0 ≤ x) : ∃ n : Nat, IntKind.i64.wrap (x % (most + 1)) = ↑n ∧ (n : Int) ≤ most := by
  have := u64_mod hx (show 0 < most + 1 by omega)
  refine ⟨(x % (most + 1)).toNat, ?_, by omega⟩
  rw [IntWalk.i64_in _ (by omega)]
  omega
def Asc (l : List Int) : Prop := l.Pairwise (· < ·)
theorem Asc.nil : Asc [] := List.Pairwise.nil
theorem Asc.snoc {l : List Int} {k : Nat} (h : Asc l) (hlt : ∀ x ∈ l, 0 ≤ x ∧ x < (k : Int)) : Asc (l ++ [(k : Int)]) := by
  refine List.pairwise_append.2 ⟨h, by simp, fun a ha b hb => ?_⟩
  simp at hb; subst hb; exact (hlt a ha).2
theorem below_snoc {l : List Int} {k : Nat} (hlt : ∀ x ∈ l, 0 ≤ x ∧ x < (k : Int)) : ∀ x ∈ l ++ [(k : Int)], 0 ≤ x ∧ x < ((k + 1 : Nat) : Int) := by
  intro x hx
  rcases List.mem_append.1 hx with h | h
  · have := hlt x h; omega
  · simp at h; omega
theorem below_mono {l : List Int} {k : Nat} (hlt : ∀ x ∈ l, 0 ≤ x ∧ x < (k : Int)) : ∀ x ∈ l, 0 ≤ x ∧ x < ((k + 1 : Nat) : Int) := fun x hx => by
  have := hlt x hx; omega
theorem drop_cons {α : Type} {xs : List α} {k : Nat} {d : α} (h : k < xs.length) : xs.drop k = xs.getD k d :: xs.drop (k + 1) := by
  rw [List.drop_eq_getElem_cons h]; simp [List.getD, h]
theorem drop_done {α : Type} {xs : List α} {k : Nat} (h : xs.length ≤ k) : xs.drop k = [] := List.drop_of_length_le h
theorem headD_drop {α : Type} {xs : List α} {k : Nat} {d : α} : (xs.drop k).headD d = xs.getD k d := by
  simp [List.headD_eq_head?_getD, List.getD]

def grp (cs : List Car) (c : Int) : Int := (carAt cs c).grp
def goG (cs : List Car) (t : List Int) (fin : List Int → Int) : Nat → List Int → List Int → Int
  | _, [], met => fin met
  | k, c :: r, met => if decide (0 < grp cs c) && (decide (grp cs c ∈ met) && !(coupled cs t ↑k)) then 12 else goG cs t fin (k + 1) r (if grp cs c ∈ met then met else met ++ [grp cs c])
def goGs (cs : List Car) : List (List Int) → List Int → Int
  | [], _ => 0
  | t :: ts, met => goG cs t (goGs cs ts) 0 t met
def groupsErr (Y : Yard) : Int := goGs Y.cars Y.tracks []
def goTrack (n : Nat) (fin : List Int → Int) : List Int → List Int → Int
  | [], met => fin met
  | c :: r, met => if inB c 0 (↑n - 1) then (if c ∈ met then 4 else goTrack n fin r (met ++ [c])) else 3
def goTracks (cs : List Car) (fin : List Int → Int) : List (List Int) → List Int → List Int → Int
  | [], _, met => fin met
  | t :: ts, rm, met => goTrack cs.length (fun met' => if lenOf cs t > rm.headD 0 then 9 else goTracks cs fin ts rm.tail met') t met
def tracksErr (Y : Yard) : Int :=
  if Y.tracks.length = Y.room.length then goTracks Y.cars (fun met => if met.length < Y.cars.length then 7 else groupsErr Y) Y.tracks Y.room [] else 2
def checkErr (Y : Yard) : Int :=
  if 5 < Y.cars.length then 6 else
  if Y.cars.all (fun c => decide (carErr c = 0)) then
    (if Y.room.length = 0 then 7 else if 3 < Y.room.length then 6 else if Y.room.all (fun n => inB n 0 20) then tracksErr Y else 1)
  else 1
theorem nand4 (a b c d : Bool) : (if (a && b && c && d) = true then (0:Int) else 1) = if (!a || (!b || (!c || !d))) = true then 1 else 0 := by
  cases a <;> cases b <;> cases c <;> cases d <;> rfl
def OkAll (cs : List Car) (ts : List (List Int)) : Prop := ∀ t ∈ ts, Ok cs t
theorem OkAll.at {cs : List Car} {ts : List (List Int)} (h : OkAll cs ts) (k : Nat) (hk : k < ts.length) : Ok cs (ts.getD k []) := h _ (getD_mem hk)
theorem goG_step {cs : List Car} {t : List Int} {fin : List Int → Int} {k : Nat} {met : List Int} (hk : k < t.length) :
    goG cs t fin k (t.drop k) met = if decide (0 < grp cs (t.getD k 0)) && (decide (grp cs (t.getD k 0) ∈ met) && !(coupled cs t ↑k)) then 12
      else goG cs t fin (k + 1) (t.drop (k + 1)) (if grp cs (t.getD k 0) ∈ met then met else met ++ [grp cs (t.getD k 0)]) := by
  rw [drop_cons (d := 0) hk]; rfl
theorem goG_hit {cs : List Car} {t : List Int} {fin : List Int → Int} {k : Nat} {met : List Int} (hk : k < t.length) (h : (decide (0 < grp cs (t.getD k 0)) && (decide (grp cs (t.getD k 0) ∈ met) && !(coupled cs t ↑k))) = true) :
    goG cs t fin k (t.drop k) met = 12 := by rw [goG_step hk, if_pos h]
theorem goG_miss {cs : List Car} {t : List Int} {fin : List Int → Int} {k : Nat} {met : List Int} (hk : k < t.length) (h : (decide (0 < grp cs (t.getD k 0)) && (decide (grp cs (t.getD k 0) ∈ met) && !(coupled cs t ↑k))) = false) :
    goG cs t fin k (t.drop k) met = goG cs t fin (k + 1) (t.drop (k + 1)) (if grp cs (t.getD k 0) ∈ met then met else met ++ [grp cs (t.getD k 0)]) := by rw [goG_step hk, if_neg (by rw [h]; simp)]
theorem goG_done {cs : List Car} {t : List Int} {fin : List Int → Int} {k : Nat} {met : List Int} (hk : t.length ≤ k) : goG cs t fin k (t.drop k) met = fin met := by rw [drop_done hk]; rfl
theorem goGs_done {cs : List Car} {ts : List (List Int)} {k : Nat} {met : List Int} (hk : ts.length ≤ k) : goGs cs (ts.drop k) met = 0 := by rw [drop_done hk]; rfl
theorem goGs_step {cs : List Car} {ts : List (List Int)} {k : Nat} {met : List Int} (hk : k < ts.length) : goGs cs (ts.drop k) met = goG cs (ts.getD k []) (goGs cs (ts.drop (k + 1))) 0 (ts.getD k []) met := by
  rw [drop_cons (d := []) hk]; rfl
section
variable {cs : List Car} {t rm met : List Int} {ts : List (List Int)} {fin : List Int → Int} {n j k : Nat}
theorem goTrack_bad (hj : j < t.length) (h : inB (t.getD j 0) 0 (↑n - 1) = false) : goTrack n fin (t.drop j) met = 3 := by
  rw [drop_cons (d := 0) hj]; simp only [goTrack]; rw [if_neg (by rw [h]; simp)]
theorem goTrack_twice (hj : j < t.length) (h : inB (t.getD j 0) 0 (↑n - 1) = true) (hm : t.getD j 0 ∈ met) : goTrack n fin (t.drop j) met = 4 := by
  rw [drop_cons (d := 0) hj]; simp only [goTrack]; rw [if_pos h, if_pos hm]
theorem goTrack_next (hj : j < t.length) (h : inB (t.getD j 0) 0 (↑n - 1) = true) (hm : ¬ t.getD j 0 ∈ met) : goTrack n fin (t.drop j) met = goTrack n fin (t.drop (j + 1)) (met ++ [t.getD j 0]) := by
  rw [drop_cons (d := 0) hj]; simp only [goTrack]; rw [if_pos h, if_neg hm]
theorem goTrack_done (hj : t.length ≤ j) : goTrack n fin (t.drop j) met = fin met := by rw [drop_done hj]; rfl
theorem goTracks_step (hk : k < ts.length) : goTracks cs fin (ts.drop k) (rm.drop k) met =
    goTrack cs.length (fun met' => if lenOf cs (ts.getD k []) > rm.getD k 0 then 9 else goTracks cs fin (ts.drop (k + 1)) (rm.drop (k + 1)) met') (ts.getD k []) met := by
  rw [drop_cons (d := []) hk]
  simp only [goTracks, headD_drop, List.tail_drop]
theorem goTracks_done (hk : ts.length ≤ k) : goTracks cs fin (ts.drop k) rm met = fin met := by rw [drop_done hk]; rfl
theorem Ok.nil : Ok cs [] := fun _ h => by simp at h
theorem Ok.snoc {c : Int} (h : Ok cs (t.take j)) (hj : j < t.length) (hc : 0 ≤ t.getD j 0 ∧ t.getD j 0 < cs.length) : Ok cs (t.take (j + 1)) := by
  rw [take_snoc (d := 0) hj]
  intro x hx
  rcases List.mem_append.1 hx with hx | hx
  · exact h x hx
  · simp only [List.mem_singleton] at hx; subst hx; exact hc
theorem Ok.all (h : Ok cs (t.take j)) (hj : t.length ≤ j) : Ok cs t := by rwa [take_done hj] at h
theorem OkAll.nil : OkAll cs [] := fun _ h => by simp at h
theorem OkAll.snoc (h : OkAll cs (ts.take k)) (hk : k < ts.length) (hc : Ok cs (ts.getD k [])) : OkAll cs (ts.take (k + 1)) := by
  rw [take_snoc (d := []) hk]
  intro x hx
  rcases List.mem_append.1 hx with hx | hx
  · exact h x hx
  · simp only [List.mem_singleton] at hx; subst hx; exact hc
theorem OkAll.all (h : OkAll cs (ts.take k)) (hk : ts.length ≤ k) : OkAll cs ts := by rwa [take_done hk] at h
end
theorem small_of_ok {cs : List Car} (h : ∀ c ∈ cs, carErr c = 0) : Small cs := fun c hc => by
  have := h c hc
  rw [carErr] at this
  split at this
  · rename_i hb
    simp only [Bool.and_eq_true] at hb
    have := inB_t hb.1.1.1
    omega
  · cases this
theorem all_snoc {α : Type} {xs : List α} {k : Nat} {d : α} {p : α → Prop} (h : ∀ c ∈ xs.take k, p c) (hk : k < xs.length) (hp : p (xs.getD k d)) : ∀ c ∈ xs.take (k + 1), p c := by
  rw [take_snoc (d := d) hk]
  intro x hx
  rcases List.mem_append.1 hx with hx | hx
  · exact h x hx
  · simp only [List.mem_singleton] at hx; subst hx; exact hp
theorem all_done {α : Type} {xs : List α} {k : Nat} {p : α → Prop} (h : ∀ c ∈ xs.take k, p c) (hk : xs.length ≤ k) : ∀ c ∈ xs, p c := by rwa [take_done hk] at h
section
variable {Y : Yard} {k : Nat}
theorem checkErr_many (h : 5 < Y.cars.length) : checkErr Y = 6 := by rw [checkErr, if_pos h]
theorem carErr_01 (c : Car) : carErr c = 0 ∨ carErr c = 1 := by rw [carErr]; split <;> simp
theorem checkErr_car (h : ¬ 5 < Y.cars.length) (hk : k < Y.cars.length) (hc : carErr (Y.cars.getD k noCar) ≠ 0) : carErr (Y.cars.getD k noCar) = checkErr Y := by
  rw [checkErr, if_neg h, if_neg]
  · rcases carErr_01 (Y.cars.getD k noCar) with e | e
    · exact absurd e hc
    · exact e
  · intro ha
    have := List.all_eq_true.1 ha _ (getD_mem (d := noCar) hk)
    exact hc (of_decide_eq_true this)
theorem carsAll (hc : ∀ c ∈ Y.cars, carErr c = 0) : (Y.cars.all fun c => decide (carErr c = 0)) = true := List.all_eq_true.2 fun c h => decide_eq_true (hc c h)
theorem checkErr_few (h : ¬ 5 < Y.cars.length) (hc : ∀ c ∈ Y.cars, carErr c = 0) (h0 : Y.room.length = 0) : checkErr Y = 7 := by rw [checkErr, if_neg h, if_pos (carsAll hc), if_pos h0]
theorem checkErr_many2 (h : ¬ 5 < Y.cars.length) (hc : ∀ c ∈ Y.cars, carErr c = 0) (h0 : 3 < Y.room.length) : checkErr Y = 6 := by rw [checkErr, if_neg h, if_pos (carsAll hc), if_neg (by omega), if_pos h0]
theorem checkErr_room (h : ¬ 5 < Y.cars.length) (hc : ∀ c ∈ Y.cars, carErr c = 0) (h0 : ¬ Y.room.length = 0) (h1 : ¬ 3 < Y.room.length) (hk : k < Y.room.length) (hb : inB (Y.room.getD k 0) 0 20 = false) : checkErr Y = 1 := by
  rw [checkErr, if_neg h, if_pos (carsAll hc), if_neg h0, if_neg h1, if_neg]
  intro ha
  have := List.all_eq_true.1 ha _ (getD_mem (d := 0) hk)
  rw [hb] at this; cases this
theorem checkErr_tracks (h : ¬ 5 < Y.cars.length) (hc : ∀ c ∈ Y.cars, carErr c = 0) (h0 : ¬ Y.room.length = 0) (h1 : ¬ 3 < Y.room.length) (hm : ∀ n ∈ Y.room, inB n 0 20 = true) : checkErr Y = tracksErr Y := by
  rw [checkErr, if_neg h, if_pos (carsAll hc), if_neg h0, if_neg h1, if_pos (List.all_eq_true.2 hm)]
end
def trk (Y : Yard) (i : Int) : List Int := Y.tracks.getD i.toNat []
def cutAt (Y : Yard) (s : Shift) : Int := ↑(trk Y s.frm).length - s.many
def mayErr (Y : Yard) (s : Shift) : Int :=
  if inB s.frm 0 (↑Y.tracks.length - 1) then
    if inB s.to 0 (↑Y.tracks.length - 1) then
      if s.frm = s.to then 4 else
      if s.many < 1 then 7 else
      if ↑(trk Y s.frm).length < s.many then 6 else
      if coupled Y.cars (trk Y s.frm) (cutAt Y s) || decide (Y.room.getD s.to.toNat 0 < lenOf Y.cars ((trk Y s.frm).drop (cutAt Y s).toNat) + lenOf Y.cars (trk Y s.to)) then 9 else 0
    else 3
  else 3
def moved (Y : Yard) (s : Shift) : Yard :=
  { Y with tracks := (Y.tracks.set s.to.toNat (trk Y s.to ++ (trk Y s.frm).drop (cutAt Y s).toNat)).set s.frm.toNat ((trk Y s.frm).take (cutAt Y s).toNat) }
def backShift (s : Shift) : Shift := ⟨s.to, s.frm, s.many⟩
theorem Ok.drop {cs : List Car} {t : List Int} (h : Ok cs t) (n : Nat) : Ok cs (t.drop n) := fun c hc => h c (List.mem_of_mem_drop hc)
theorem Ok.take {cs : List Car} {t : List Int} (h : Ok cs t) (n : Nat) : Ok cs (t.take n) := fun c hc => h c (List.mem_of_mem_take hc)
theorem Ok.append {cs : List Car} {s t : List Int} (h : Ok cs s) (h2 : Ok cs t) : Ok cs (s ++ t) := fun c hc => by
  rcases List.mem_append.1 hc with x | x
  · exact h c x
  · exact h2 c x
section
variable {Y : Yard} {s : Shift} {n : Nat}
theorem mayErr_1 (hn : n = Y.tracks.length) (h : inB s.frm 0 (↑n - 1) = false) : mayErr Y s = 3 := by
  subst hn; rw [mayErr, if_neg (by rw [h]; simp)]
theorem mayErr_2 (hn : n = Y.tracks.length) (h1 : inB s.frm 0 (↑n - 1) = true) (h : inB s.to 0 (↑n - 1) = false) : mayErr Y s = 3 := by
  subst hn; rw [mayErr, if_pos h1, if_neg (by rw [h]; simp)]
theorem mayErr_3 (hn : n = Y.tracks.length) (h1 : inB s.frm 0 (↑n - 1) = true) (h2 : inB s.to 0 (↑n - 1) = true) (h : s.frm = s.to) : mayErr Y s = 4 := by
  subst hn; rw [mayErr, if_pos h1, if_pos h2, if_pos h]
theorem mayErr_4 (hn : n = Y.tracks.length) (h1 : inB s.frm 0 (↑n - 1) = true) (h2 : inB s.to 0 (↑n - 1) = true) (h3 : s.frm ≠ s.to) (h : s.many < 1) : mayErr Y s = 7 := by
  subst hn; rw [mayErr, if_pos h1, if_pos h2, if_neg h3, if_pos h]
theorem mayErr_5 (hn : n = Y.tracks.length) (h1 : inB s.frm 0 (↑n - 1) = true) (h2 : inB s.to 0 (↑n - 1) = true) (h3 : s.frm ≠ s.to) (h4 : ¬ s.many < 1) (h : ↑(trk Y s.frm).length < s.many) : mayErr Y s = 6 := by
  subst hn; rw [mayErr, if_pos h1, if_pos h2, if_neg h3, if_neg h4, if_pos h]
theorem mayErr_6 (hn : n = Y.tracks.length) (h1 : inB s.frm 0 (↑n - 1) = true) (h2 : inB s.to 0 (↑n - 1) = true) (h3 : s.frm ≠ s.to) (h4 : ¬ s.many < 1) (h5 : ¬ ↑(trk Y s.frm).length < s.many)
    (h : (coupled Y.cars (trk Y s.frm) (cutAt Y s) || decide (Y.room.getD s.to.toNat 0 < lenOf Y.cars ((trk Y s.frm).drop (cutAt Y s).toNat) + lenOf Y.cars (trk Y s.to))) = true) : mayErr Y s = 9 := by
  subst hn; rw [mayErr, if_pos h1, if_pos h2, if_neg h3, if_neg h4, if_neg h5, if_pos h]
theorem mayErr_7 (hn : n = Y.tracks.length) (h1 : inB s.frm 0 (↑n - 1) = true) (h2 : inB s.to 0 (↑n - 1) = true) (h3 : s.frm ≠ s.to) (h4 : ¬ s.many < 1) (h5 : ¬ ↑(trk Y s.frm).length < s.many)
    (h : (coupled Y.cars (trk Y s.frm) (cutAt Y s) || decide (Y.room.getD s.to.toNat 0 < lenOf Y.cars ((trk Y s.frm).drop (cutAt Y s).toNat) + lenOf Y.cars (trk Y s.to))) = false) : mayErr Y s = 0 := by
  subst hn; rw [mayErr, if_pos h1, if_pos h2, if_neg h3, if_neg h4, if_neg h5, if_neg (by rw [h]; simp)]
end
def noYard : Yard := ⟨[], [], []⟩
def playFrom (Y : Yard) : List Shift → Yard × Int
  | [] => (Y, 0)
  | s :: r => if mayErr Y s = 0 then playFrom (moved Y s) r else (noYard, mayErr Y s)
def play (Y : Yard) (l : List Shift) : Yard × Int := if checkErr Y = 0 then playFrom Y l else (noYard, checkErr Y)
def Valid (Y : Yard) : Prop := checkErr Y = 0
structure GoodY (Y : Yard) : Prop where
  ok : OkAll Y.cars Y.tracks
  small : Small Y.cars
  len : Y.room.length = Y.tracks.length
  sum : Y.tracks.flatten.length ≤ 5
theorem mem_le_flatten {ts : List (List Int)} {t : List Int} (h : t ∈ ts) : t.length ≤ ts.flatten.length := by
  induction ts with
  | nil => simp at h
  | cons x r ih =>
    simp only [List.flatten_cons, List.length_append]
    rcases List.mem_cons.1 h with e | h
    · subst e; omega
    · have := ih h; omega
theorem GoodY.le {Y : Yard} (h : GoodY Y) : ∀ t ∈ Y.tracks, t.length ≤ 1000000 := fun t ht => by
  have := mem_le_flatten ht; have := h.sum; omega
theorem set_flatten (x : List Int) : ∀ (ts : List (List Int)) (i : Nat), i < ts.length → ((ts.set i x).flatten ++ ts.getD i []).Perm (ts.flatten ++ x) := by
  intro ts
  induction ts with
  | nil => intro i h; simp at h
  | cons y r ih =>
    intro i h
    cases i with
    | zero =>
      simp only [List.set_cons_zero, List.flatten_cons, List.getD_cons_zero]
      rw [List.append_assoc, List.append_assoc]
      refine (List.perm_append_comm_assoc x r.flatten y).trans ?_
      refine ((List.Perm.append_left r.flatten (List.perm_append_comm (l₁ := x) (l₂ := y))).trans ?_)
      exact List.perm_append_comm_assoc r.flatten y x
    | succ i =>
      simp only [List.set_cons_succ, List.flatten_cons, List.getD_cons_succ, List.append_assoc]
      exact List.Perm.append_left y (ih i (by simpa using h))
theorem moved_flatten {Y : Yard} {s : Shift} (hf : 0 ≤ s.frm ∧ s.frm < Y.tracks.length) (ht : 0 ≤ s.to ∧ s.to < Y.tracks.length) (hne : s.frm ≠ s.to) : (moved Y s).tracks.flatten.Perm Y.tracks.flatten := by
  have hne' : s.to.toNat ≠ s.frm.toNat := by omega
  unfold moved
  simp only
  generalize hA : trk Y s.frm = A
  generalize hB : trk Y s.to = B
  generalize (cutAt Y s).toNat = n
  have hA' : Y.tracks.getD s.frm.toNat [] = A := hA
  have hB' : Y.tracks.getD s.to.toNat [] = B := hB
  have h1 := set_flatten (B ++ A.drop n) Y.tracks s.to.toNat (by omega)
  have h2 := set_flatten (A.take n) (Y.tracks.set s.to.toNat (B ++ A.drop n)) s.frm.toNat (by rw [List.length_set]; omega)
  have e2 : (Y.tracks.set s.to.toNat (B ++ A.drop n)).getD s.frm.toNat [] = A := by
    simp only [List.getD] at hA' ⊢
    rw [List.getElem?_set_ne hne']; exact hA'
  rw [e2] at h2
  rw [hB'] at h1
  generalize ((Y.tracks.set s.to.toNat (B ++ A.drop n)).set s.frm.toNat (A.take n)).flatten = X at h2 ⊢
  generalize (Y.tracks.set s.to.toNat (B ++ A.drop n)).flatten = Z at h1 h2
  have h3 : (Z).Perm (Y.tracks.flatten ++ A.drop n) := by
    refine (List.perm_append_right_iff B).1 (h1.trans ?_)
    rw [List.append_assoc]
    exact List.Perm.append_left _ List.perm_append_comm
  have h4 : (X ++ A).Perm (Y.tracks.flatten ++ A) := by
    refine h2.trans ((List.Perm.append_right _ h3).trans ?_)
    rw [List.append_assoc]
    refine List.Perm.append_left _ (List.perm_append_comm.trans ?_)
    rw [List.take_append_drop]
  exact (List.perm_append_right_iff A).1 h4
end Go.Sh
namespace Go.Sl
open Go

def quiet (P : Program) {α : Type} : Sem α → Option α
  | .pure a => some a
  | .program k => quiet P (k P)
  | .mark _ k => quiet P k
  | _ => none
theorem quiet_wpL {P : Program} {α : Type} (s : Sem α) : ∀ {x : α} {I : Imm} {M : Seg}, quiet P s = some x → wpL P s (fun y M' => y = x ∧ M' = M) I M := by
  induction s with
  | pure a => intro x I M h; cases h; exact ⟨rfl, rfl⟩
  | program k ih => intro x I M h; exact ih P h
  | mark m k ih => intro x I M h; exact ih h
  | _ => intro x I M h; cases h

def pvOp (P : Program) (l : Sl) (op : Op) (ty : TypeId) : Option Value :=
  bif op.operands.all (fun x => (oval l x).isSome) then
    match quiet P (execAt (rho l) op ty) with
    | some (.value v) => some v
    | _ => none
  else none
def pvAt (P : Program) (N : Nat) (ops : Array Oper) (l : Sl) (i : Nat) : Option (Nat × Value) :=
  match opAt ops N i with
  | some (some d, op, ty, gd) => match gval ops l gd with
    | some true => match pvOp P l op ty with
      | some v => some (d, v)
      | none => none
    | some false => some (d, undef)
    | none => none
  | _ => none
def pvs (P : Program) (N : Nat) (ops : Array Oper) : List Nat → Sl → Option Sl
  | [], l => some l
  | i :: is, l => match pvAt P N ops l i with
    | some x => pvs P N ops is (x :: l)
    | none => none

section
variable {ρ : Option Nat} {P : Program} {N : Nat} {ops : Array Oper} {Q : Exit → Act → World → Prop} {ds : List Deferred} {i : Nat} {l : Sl} {I : Imm} {R M S : Seg} {d : Nat} {Kfin : Sl → Imm → Seg → Prop} {order : List (Nat × Bool)}

theorem det_pv {v : Value} (h : pvAt P N ops l i = some (d, v)) : Det P N ops i l I R d v := by
  unfold pvAt at h
  split at h
  · rename_i d' op ty gd ho
    split at h
    · rename_i hg
      split at h
      · rename_i v' hv
        cases h
        unfold pvOp at hv
        cases hk : op.operands.all (fun x => (oval l x).isSome) with
        | false => rw [hk] at hv; cases hv
        | true =>
          rw [hk] at hv
          simp only [cond_true] at hv
          split at hv
          · rename_i v'' hq
            cases hv
            exact det_pure ho hg (fun x hx => by
              have := Array.all_eq_true'.1 hk x hx
              exact Option.isSome_iff_exists.1 this) fun I' M' => quiet_wpL _ hq
          · cases hv
      · cases h
    · rename_i hg; cases h; exact det_skip ho hg
    · cases h
  · cases h

theorem seq_pvs : ∀ (k i : Nat) (l l' : Sl), pvs P N ops (List.range' i k) l = some l' → Seq (ρ := ρ) P N ops Q ds (i + k) l' I M → Seq (ρ := ρ) P N ops Q ds i l I M
  | 0, i, l, l', h, next => by cases h; exact next
  | k + 1, i, l, l', h, next => by
    rw [List.range'_succ] at h
    simp only [pvs] at h
    split at h
    · rename_i x hx
      exact seq_det (det_pv hx) (seq_pvs k (i + 1) _ _ h (by rw [show i + 1 + k = i + (k + 1) by omega]; exact next))
    · cases h

def pickL (l : Sl) : Sl → Bool → Option Sl
  | [], _ => some []
  | (t, _) :: r, b => match look t l, pickL l r b with
    | some v, some r' => some ((t, v) :: r')
    | _, _ => none
def told (t : Nat) : Sl → Bool
  | [] => false
  | (k, _) :: r => bif Nat.beq k t then true else told t r
def maskOk (new l : Sl) : Nat → Sl → Bool
  | 0, _ => true
  | k + 1, (t, _) :: r => (told t new || !told t l) && maskOk new l k r
  | _ + 1, [] => true
def pxf (P : Program) (N : Nat) (ops : Array Oper) (i k : Nat) (new l : Sl) : Option Sl :=
  match pvs P N ops (List.range' i k) l with
  | some l' => bif maskOk new l k l' then pickL l' new true else none
  | none => none

theorem told_of_look {t : Nat} {v : Value} : ∀ {l : Sl}, look t l = some v → told t l = true := by
  intro l
  induction l with
  | nil => intro h; cases h
  | cons x l ih =>
    obtain ⟨k, u⟩ := x
    intro h
    simp only [look] at h
    simp only [told]
    cases hb : Nat.beq k t with
    | true => rfl
    | false => rw [hb] at h; exact ih h
theorem look_append {t : Nat} {a b : Sl} : look t (a ++ b) = (match look t a with | some v => some v | none => look t b) := by
  induction a with
  | nil => rfl
  | cons x a ih =>
    obtain ⟨k, u⟩ := x
    simp only [List.cons_append, look]
    cases hb : Nat.beq k t with
    | true => rfl
    | false => exact ih
theorem look_none {t : Nat} : ∀ {l : Sl}, look t l = none → told t l = false := by
  intro l
  induction l with
  | nil => intro _; rfl
  | cons x l ih =>
    obtain ⟨k, u⟩ := x
    intro h
    simp only [look] at h
    simp only [told]
    cases hb : Nat.beq k t with
    | true => rw [hb] at h; cases h
    | false => rw [hb] at h; exact ih h
theorem pickL_look {l : Sl} {b : Bool} {t : Nat} {v : Value} : ∀ {new out : Sl}, pickL l new b = some out → look t out = some v → look t l = some v := by
  intro new
  induction new with
  | nil => intro out h hl; cases h; cases hl
  | cons x new ih =>
    obtain ⟨k, u⟩ := x
    intro out h hl
    simp only [pickL] at h
    split at h
    · rename_i v' r' h1 h2
      cases h
      simp only [look] at hl
      cases hb : Nat.beq k t with
      | true => rw [hb] at hl; cases hl; rw [← Nat.eq_of_beq_eq_true hb]; exact h1
      | false => rw [hb] at hl; exact ih h2 hl
    · cases h
theorem pvs_split : ∀ (is : List Nat) (l l' : Sl), pvs P N ops is l = some l' → ∃ ex : Sl, l' = ex ++ l ∧ ex.length = is.length := by
  intro is
  induction is with
  | nil => intro l l' h; cases h; exact ⟨[], rfl, rfl⟩
  | cons i is ih =>
    intro l l' h
    simp only [pvs] at h
    split at h
    · rename_i x hx
      obtain ⟨ex, h1, h2⟩ := ih _ _ h
      exact ⟨ex ++ [x], by rw [h1]; simp, by simp [h2]⟩
    · cases h
theorem maskOk_spec {new l : Sl} {t : Nat} : ∀ (ex r : Sl), maskOk new l ex.length (ex ++ r) = true → told t ex = true → told t new = true ∨ told t l = false := by
  intro ex
  induction ex with
  | nil => intro r _ h; cases h
  | cons x ex ih =>
    obtain ⟨k, u⟩ := x
    intro r h ht
    simp only [List.length_cons, List.cons_append, maskOk, Bool.and_eq_true, Bool.or_eq_true, Bool.not_eq_true'] at h
    simp only [told] at ht
    cases hb : Nat.beq k t with
    | true =>
      have e := Nat.eq_of_beq_eq_true hb
      subst e
      exact h.1
    | false => rw [hb] at ht; exact ih r h.2 ht
theorem pxf_sub {k : Nat} {new l' : Sl} (h : pvs P N ops (List.range' i k) l = some l') (hp : pxf P N ops i k new l = some new) : Sub (new ++ l) l' := by
  unfold pxf at hp
  rw [h] at hp
  simp only at hp
  cases hm : maskOk new l k l' with
  | false => rw [hm] at hp; cases hp
  | true =>
    rw [hm] at hp
    simp only [cond_true] at hp
    intro t v ht
    rw [look_append] at ht
    cases hn : look t new with
    | some u => rw [hn] at ht; cases ht; exact pickL_look hp hn
    | none =>
      rw [hn] at ht
      simp only at ht
      obtain ⟨ex, h1, h2⟩ := pvs_split _ _ _ h
      rw [List.length_range'] at h2
      subst h1
      rw [look_append]
      cases he : look t ex with
      | none => exact ht
      | some u =>
        rw [← h2] at hm
        rcases maskOk_spec ex l hm (told_of_look he) with h3 | h3
        · rw [look_none hn] at h3; cases h3
        · rw [told_of_look ht] at h3; cases h3

theorem sp (k : Nat) (new : Sl) (next : Seq (ρ := ρ) P N ops Q ds (i + k) (new ++ l) I M) (h : pxf P N ops i k new l = some new := by kernel_rfl) : Seq (ρ := ρ) P N ops Q ds i l I M := by
  cases hv : pvs P N ops (List.range' i k) l with
  | none => unfold pxf at h; rw [hv] at h; cases h
  | some l' =>
    exact seq_pvs k i l l' hv fun a w hS hD hW => next a w (hS.sub (pxf_sub hv h)) hD hW

def pvo (P : Program) (N : Nat) (ops : Array Oper) : Nat → List (Nat × Bool) → Sl → Option Sl
  | 0, _, l => some l
  | k + 1, (i, true) :: r, l => match pvAt P N ops l i with
    | some x => pvo P N ops k r (x :: l)
    | none => none
  | _, _, _ => none
theorem op_aux : ∀ (k : Nat) (order : List (Nat × Bool)) (l l' : Sl), pvo P N ops k order l = some l' → OFP P N ops R Kfin (order.drop k) l' I S → OFP P N ops R Kfin order l I S
  | 0, order, l, l', h, next => by cases h; exact next
  | k + 1, (i, true) :: r, l, l', h, next => by
    simp only [pvo] at h
    split at h
    · rename_i x hx
      exact ofp_det (det_pv hx) (op_aux k r _ _ h next)
    · cases h
  | k + 1, (i, false) :: r, l, l', h, next => by cases h
  | k + 1, [], l, l', h, next => by cases h
end

section
variable {ρ : Option Nat} {P : Program} {N : Nat} {ops : Array Oper} {Q : Exit → Act → World → Prop} {ds : List Deferred} {i : Nat} {l l' : Sl} {I : Imm} {R M S : Seg} {d : Nat} {Kfin : Sl → Imm → Seg → Prop} {order : List (Nat × Bool)}
theorem gval_mono (s : Sub l l') {g : Option (Nat × Bool)} {b : Bool} (h : gval ops l g = some b) : gval ops l' g = some b := by
  cases g with
  | none => exact h
  | some g =>
    obtain ⟨j, want⟩ := g
    simp only [gval] at h ⊢
    cases hj : (ops[j]?).bind (·.dst) with
    | none => rw [hj] at h; exact h
    | some t =>
      rw [hj] at h
      simp only at h ⊢
      cases ht : look t l with
      | none => rw [ht] at h; cases h
      | some v => rw [ht] at h; rw [s t v ht]; exact h
theorem oval_mono (s : Sub l l') {x : Operand} {v : Value} (h : oval l x = some v) : oval l' x = some v := by
  cases x with
  | tmp t => exact s t v h
  | const u => exact h
  | global g => exact h
  | func f => exact h
theorem exec_mono (s : Sub l l') {o : Oper} (hs : PlainOp o) (hk : ∀ x ∈ o.op.operands, known l x) : execOp (rho l') o = execOp (rho l) o :=
  execOp_congr o hs.1 fun x hx => by
    obtain ⟨v, hv⟩ := hk x hx
    rw [rho_of hv, rho_of (oval_mono s hv)]
theorem known_mono (s : Sub l l') {x : Operand} (h : known l x) : known l' x := let ⟨v, hv⟩ := h; ⟨v, oval_mono s hv⟩
theorem Det.more {v : Value} (s : Sub l l') (h : Det P N ops i l I R d v) : Det P N ops i l' I R d v := by
  obtain ⟨o, h1, h2, h3, h4, h5⟩ := h
  refine ⟨o, h1, h2, h3, h4, ?_⟩
  rcases h5 with ⟨h6, h7⟩ | ⟨h6, h7, h8⟩
  · exact .inl ⟨gval_mono s h6, h7⟩
  · exact .inr ⟨gval_mono s h6, fun x hx => known_mono s (h7 x hx), by rw [exec_mono s h4 h7]; exact h8⟩
theorem Sub.cons_cons (s : Sub l l') (t : Nat) (v : Value) : Sub ((t, v) :: l) ((t, v) :: l') := fun u w hu => by
  by_cases e : t = u
  · subst e; rw [look_cons_self] at hu ⊢; exact hu
  · rw [look_cons_ne e] at hu ⊢; exact s u w hu
theorem Sub.ups (s : Sub l l') (dst : Option Tmp) (v : Value) : Sub (ups dst v l) (ups dst v l') := by
  cases dst with
  | none => exact s
  | some d => exact s.cons_cons d v
theorem Stp.more {K : Sl → Imm → Seg → Prop} (hK : ∀ l l' I M, Sub l l' → K l I M → K l' I M) (s : Sub l l') (h : Stp P N ops i l I M K) : Stp P N ops i l' I M K := by
  obtain ⟨o, h1, h2, h3, h4, h5, h6⟩ := h
  refine ⟨o, h1, h2, h3, gval_mono s h4, fun x hx => known_mono s (h5 x hx), fun w st => ?_⟩
  rw [exec_mono s h3 h5]
  exact (h6 w st).mono fun v w' ⟨I', M', a, b, c⟩ => ⟨I', M', a, b, hK _ _ _ _ (s.ups _ _) c⟩
structure KM (K : Sl → Imm → Seg → Prop) : Prop where
  more : ∀ l l' I S, Sub l l' → K l I S → K l' I S
theorem Seq.more {n : Nat} (s : Sub l l') (h : Seq (ρ := ρ) P N ops Q ds n l I M) : Seq (ρ := ρ) P N ops Q ds n l' I M := fun a w hS hD hW => h a w (hS.sub s) hD hW
theorem km0 {n0 : Nat} : KM (fun l I S => S = [] ∧ Seq (ρ := ρ) P N ops Q ds n0 l I M) := ⟨fun _ _ _ _ s h => ⟨h.1, h.2.more s⟩⟩
theorem km1 {n0 : Nat} : KM (fun l I S => Seq (ρ := ρ) P N ops Q ds n0 l I (R ++ S)) := ⟨fun _ _ _ _ s h => h.more s⟩
theorem OFP.more (km : KM Kfin) : ∀ (order : List (Nat × Bool)) (l l' : Sl) (I : Imm) (S : Seg), Sub l l' → OFP P N ops R Kfin order l I S → OFP P N ops R Kfin order l' I S
  | [], l, l', I, S, s, h => km.more _ _ _ _ s h
  | (i, true) :: r, l, l', I, S, s, ⟨d, v, h1, h2⟩ => ⟨d, v, h1.more s, OFP.more km r _ _ _ _ (s.cons_cons d v) h2⟩
  | (i, false) :: r, l, l', I, S, s, h => Stp.more (fun _ _ _ _ s' ⟨S', p, h'⟩ => ⟨S', p, OFP.more km r _ _ _ _ s' h'⟩) s h

def pof (P : Program) (N : Nat) (ops : Array Oper) (order : List (Nat × Bool)) (k : Nat) (new l : Sl) : Option Sl :=
  match pvo P N ops k order l with
  | some l' => bif maskOk new l k l' then pickL l' new true else none
  | none => none
theorem pvo_split : ∀ (k : Nat) (order : List (Nat × Bool)) (l l' : Sl), pvo P N ops k order l = some l' → ∃ ex : Sl, l' = ex ++ l ∧ ex.length = k
  | 0, _, l, l', h => by cases h; exact ⟨[], rfl, rfl⟩
  | k + 1, (i, true) :: r, l, l', h => by
    simp only [pvo] at h
    split at h
    · rename_i x hx
      obtain ⟨ex, h1, h2⟩ := pvo_split k r _ _ h
      exact ⟨ex ++ [x], by rw [h1]; simp, by simp [h2]⟩
    · cases h
  | k + 1, (i, false) :: r, l, l', h => by cases h
  | k + 1, [], l, l', h => by cases h
theorem mask_sub {new : Sl} {ex : Sl} (hm : maskOk new l ex.length (ex ++ l) = true) (hp : pickL (ex ++ l) new true = some new) : Sub (new ++ l) (ex ++ l) := by
  intro t v ht
  rw [look_append] at ht
  cases hn : look t new with
  | some u => rw [hn] at ht; cases ht; exact pickL_look hp hn
  | none =>
    rw [hn] at ht
    simp only at ht
    rw [look_append]
    cases he : look t ex with
    | none => exact ht
    | some u =>
      rcases maskOk_spec ex l hm (told_of_look he) with h3 | h3
      · rw [look_none hn] at h3; cases h3
      · rw [told_of_look ht] at h3; cases h3
theorem ox (k : Nat) (new : Sl) (next : OFP P N ops R Kfin (order.drop k) (new ++ l) I S) (h : pof P N ops order k new l = some new := by kernel_rfl) (km : KM Kfin := by first | exact km0 | exact km1) : OFP P N ops R Kfin order l I S := by
  unfold pof at h
  cases hv : pvo P N ops k order l with
  | none => rw [hv] at h; cases h
  | some l' =>
    rw [hv] at h
    simp only at h
    obtain ⟨ex, rfl, rfl⟩ := pvo_split _ _ _ _ hv
    cases hm : maskOk new l ex.length (ex ++ l) with
    | false => rw [hm] at h; cases h
    | true =>
      rw [hm] at h
      exact op_aux ex.length order l _ hv (OFP.more km _ _ _ _ _ (mask_sub hm h) next)
end

section
variable {ρ : Option Nat} {P : Program} {N : Nat} {ops : Array Oper} {Q : Exit → Act → World → Prop} {ds : List Deferred} {i : Nat} {l : Sl} {I : Imm} {M : Seg} {C : List Nat → Code} {p : List Nat}
theorem rq (h : Run (ρ := ρ) P N (C (p ++ [0])) (Exit.then (fun a w => (C (p ++ [1])).wpIn (fen ρ) 0 P Q a w) Q) ds l I M) (hc : C p = .seq (C (p ++ [0])) (C (p ++ [1])) := by kernel_rfl) : Run (ρ := ρ) P N (C p) Q ds l I M := run_seq hc h
def isPlain (c : Code) : Bool := match c with | .region _ _ false => true | _ => false
theorem isPlain_spec {c : Code} (h : isPlain c = true) : ∃ id, c = .region id (opsOf c) false := by
  unfold isPlain at h
  split at h
  · exact ⟨_, rfl⟩
  · cases h
theorem rr (h : Seq (ρ := ρ) P N (opsOf (C p)) Q ds 0 l I M) (hc : isPlain (C p) = true := by kernel_rfl) : Run (ρ := ρ) P N (C p) Q ds l I M := by
  obtain ⟨id, hid⟩ := isPlain_spec hc
  exact run_region hid h
theorem rqr (h : Seq (ρ := ρ) P N (opsOf (C (p ++ [0]))) (Exit.then (fun a w => (C (p ++ [1])).wpIn (fen ρ) 0 P Q a w) Q) ds 0 l I M) (hc : C p = .seq (C (p ++ [0])) (C (p ++ [1])) := by kernel_rfl) (hr : isPlain (C (p ++ [0])) = true := by kernel_rfl) : Run (ρ := ρ) P N (C p) Q ds l I M := rq (rr h hr) hc
theorem se {y : Code} {Q' : Exit → Act → World → Prop} (h : Run (ρ := ρ) P N y Q ds l I M) (he : ops.size = i := by kernel_rfl) : Seq (ρ := ρ) P N ops (Exit.then (fun a w => y.wpIn (fen ρ) 0 P Q a w) Q') ds i l I M := seq_end he (pst_next h)
theorem sn {Q' : Exit → Act → World → Prop} (h : Seq (ρ := ρ) P N (opsOf (C (p ++ [0]))) (Exit.then (fun a w => (C (p ++ [1])).wpIn (fen ρ) 0 P Q a w) Q) ds 0 l I M) (he : ops.size = i := by kernel_rfl) (hc : C p = .seq (C (p ++ [0])) (C (p ++ [1])) := by kernel_rfl) (hr : isPlain (C (p ++ [0])) = true := by kernel_rfl) :
    Seq (ρ := ρ) P N ops (Exit.then (fun a w => (C p).wpIn (fen ρ) 0 P Q a w) Q') ds i l I M := se (rqr h hc hr) he
theorem rc (t : Nat) {b : Bool} (ht : look t l = some (.bool b)) (h1 : b = true → Run (ρ := ρ) P N (C (p ++ [0])) Q ds l I M) (h2 : b = false → Run (ρ := ρ) P N (C (p ++ [1])) Q ds l I M)
    (hc : C p = .cond (.tmp t) (C (p ++ [0])) (C (p ++ [1])) := by kernel_rfl) : Run (ρ := ρ) P N (C p) Q ds l I M := run_cond hc ht h1 h2
theorem rct (t : Nat) (ht : look t l = some (.bool true)) (h1 : Run (ρ := ρ) P N (C (p ++ [0])) Q ds l I M) (hc : C p = .cond (.tmp t) (C (p ++ [0])) (C (p ++ [1])) := by kernel_rfl) : Run (ρ := ρ) P N (C p) Q ds l I M := run_cond_true hc ht h1
theorem rcf (t : Nat) (ht : look t l = some (.bool false)) (h1 : Run (ρ := ρ) P N (C (p ++ [1])) Q ds l I M) (hc : C p = .cond (.tmp t) (C (p ++ [0])) (C (p ++ [1])) := by kernel_rfl) : Run (ρ := ρ) P N (C p) Q ds l I M := run_cond_false hc ht h1
theorem rb (id : Nat) (h : Run (ρ := ρ) P N (C (p ++ [0])) (Exit.inBlock id Q) ds l I M) (hc : C p = .block id (C (p ++ [0])) := by kernel_rfl) : Run (ρ := ρ) P N (C p) Q ds l I M := run_block hc h
theorem rl (J : Nat → Act → World → Prop) (h0 : ∀ a w, Slots N l a → a.defers = ds → St I M w → ∃ n0, J n0 a w) (round : ∀ n a w, J n a w → (C (p ++ [0])).wpIn (fen ρ) 0 P (Exit.then (fun a' w' => ∃ n', n' < n ∧ J n' a' w') Q) a w)
    (hc : C p = .loop (C (p ++ [0])) := by kernel_rfl) : Run (ρ := ρ) P N (C p) Q ds l I M := run_loop hc J h0 round
theorem rret (h : Pst N Q .ret ds l I M) (hc : C p = .ret := by kernel_rfl) : Run (ρ := ρ) P N (C p) Q ds l I M := run_ret hc h
theorem rskip (h : Pst N Q .normal ds l I M) (hc : C p = .skip := by kernel_rfl) : Run (ρ := ρ) P N (C p) Q ds l I M := run_skip hc h
theorem rexit (id : Nat) (h : Pst N Q (.exit id) ds l I M) (hc : C p = .exit id := by kernel_rfl) : Run (ρ := ρ) P N (C p) Q ds l I M := run_exit hc h
theorem rlab (id : Nat) (h : Pst N Q .normal ds l I M) (hc : C p = .label id := by kernel_rfl) : Run (ρ := ρ) P N (C p) Q ds l I M := run_label hc h

def allT : Nat → Nat → List (Nat × Bool)
  | _, 0 => []
  | i, n + 1 => (i, true) :: allT (i + 1) n
def isDrawn (c : Code) : Bool := match c with | .region _ _ true => true | _ => false
theorem isDrawn_spec {c : Code} (h : isDrawn c = true) : ∃ id, c = .region id (opsOf c) true := by
  unfold isDrawn at h
  split at h
  · exact ⟨_, rfl⟩
  · cases h
theorem rd0 (n0 : Nat) (h : OFP P N (opsOf (C p)) M (fun l I S => S = [] ∧ Seq (ρ := ρ) P N (opsOf (C p)) Q ds n0 l I M) (allT 0 n0) l I []) (hm : P.follows .mixedOrders = true := by kernel_rfl) (hc : isDrawn (C p) = true := by kernel_rfl)
    (hok : okAll (opsOf (C p)) n0 (allT 0 n0) = true := by kernel_rfl) : Run (ρ := ρ) P N (C p) Q ds l I M := by
  obtain ⟨id, hid⟩ := isDrawn_spec hc
  exact run_draw0 n0 _ hm hid hok h
theorem rd0' (n0 : Nat) (order : List (Nat × Bool)) (h : OFP P N (opsOf (C p)) M (fun l I S => S = [] ∧ Seq (ρ := ρ) P N (opsOf (C p)) Q ds n0 l I M) order l I []) (hm : P.follows .mixedOrders = true := by kernel_rfl) (hc : isDrawn (C p) = true := by kernel_rfl)
    (hok : okAll (opsOf (C p)) n0 order = true := by kernel_rfl) : Run (ρ := ρ) P N (C p) Q ds l I M := by
  obtain ⟨id, hid⟩ := isDrawn_spec hc
  exact run_draw0 n0 _ hm hid hok h
theorem rd (n0 : Nat) (order : List (Nat × Bool)) (R S : Seg) (h : OFP P N (opsOf (C p)) R (fun l I S => Seq (ρ := ρ) P N (opsOf (C p)) Q ds n0 l I (R ++ S)) order l I S) (hM : M.Perm (R ++ S) := by exact List.Perm.refl _) (hm : P.follows .mixedOrders = true := by kernel_rfl)
    (hc : isDrawn (C p) = true := by kernel_rfl) (hok : okAll (opsOf (C p)) n0 order = true := by kernel_rfl) : Run (ρ := ρ) P N (C p) Q ds l I M := by
  obtain ⟨id, hid⟩ := isDrawn_spec hc
  exact run_draw n0 _ hm hid hok hM h

theorem ee (next : Pst N Q .normal ds l I M) (h : ops.size = i := by kernel_rfl) : Seq (ρ := ρ) P N ops Q ds i l I M := seq_end h next
theorem sd {d : Nat} {v : Value} (h : Det P N ops i l I M d v) (next : Seq (ρ := ρ) P N ops Q ds (i + 1) ((d, v) :: l) I M) : Seq (ρ := ρ) P N ops Q ds i l I M := seq_det h next
theorem sS (h : Stp P N ops i l I M (fun l' I' M' => Seq (ρ := ρ) P N ops Q ds (i + 1) l' I' M')) : Seq (ρ := ρ) P N ops Q ds i l I M := seq_stp h
theorem sfz {α : Type} {E : TypeId} {sz : Nat} {cell : α → Nat → Value} {A Ms : Seg} {v : Value} {xs : List α} (dflt : α) (h : Own E sz cell v xs Ms) (hM : M.Perm (Ms ++ A)) (next : ∀ J, I.le J → IsSl sz cell dflt J v xs → Seq (ρ := ρ) P N ops Q ds i l J A)
    (hl : xs.length ≤ 140737488355328 := by first | omega | (simp only [List.length_set, List.length_cons, List.length_nil, List.length_append, List.length_take, List.length_drop] <;> omega) | decide) : Seq (ρ := ρ) P N ops Q ds i l I M := seq_freeze dflt h hl hM (List.Perm.refl _) next

theorem rpm {c : Code} {M' : Seg} (p : M.Perm M') (next : Run (ρ := ρ) P N c Q ds l I M') : Run (ρ := ρ) P N c Q ds l I M := run_mem (fun w h => h.perm p) next
theorem rnm {c : Code} {M' : Seg} (next : Run (ρ := ρ) P N c Q ds l I M') (h : M = M' := by (try simp only [List.append_assoc, List.cons_append, List.nil_append, List.append_nil, List.set_cons_zero, List.set_cons_succ]); rfl) : Run (ρ := ρ) P N c Q ds l I M := by subst h; exact next
theorem ppm {e : Exit} {M' : Seg} (p : M.Perm M') (next : Pst N Q e ds l I M') : Pst N Q e ds l I M := pst_mem (fun w h => h.perm p) next
theorem pm {M' : Seg} (p : M.Perm M') (next : Seq (ρ := ρ) P N ops Q ds i l I M') : Seq (ρ := ρ) P N ops Q ds i l I M := seq_mem (fun w h => h.perm p) next
theorem nm {M' : Seg} (next : Seq (ρ := ρ) P N ops Q ds i l I M') (h : M = M' := by (try simp only [List.append_assoc, List.cons_append, List.nil_append, List.append_nil, List.set_cons_zero, List.set_cons_succ]); rfl) : Seq (ρ := ρ) P N ops Q ds i l I M := by subst h; exact next
end
end Go.Sl
namespace Go.Sl
open Go
section
variable {ρ : Option Nat} {P : Program} {N : Nat} {ops : Array Oper} {Q : Exit → Act → World → Prop} {ds : List Deferred} {i : Nat} {l : Sl} {I : Imm} {R M : Seg}

def okAt (N : Nat) (ops : Array Oper) (l : Sl) (i : Nat) : Option (Option Tmp × Op × TypeId) :=
  match opAt ops N i with
  | some (dst, op, ty, gd) => match gval ops l gd with
    | some true => some (dst, op, ty)
    | _ => none
  | none => none
theorem okAt_spec {dst : Option Tmp} {op : Op} {ty : TypeId} (h : okAt N ops l i = some (dst, op, ty)) : ∃ gd, opAt ops N i = some (dst, op, ty, gd) ∧ gval ops l gd = some true := by
  unfold okAt at h
  split at h
  · split at h
    · rename_i h1 _ h2; cases h; exact ⟨_, h1, h2⟩
    · cases h
  · cases h

inductive Ar | add | sub | mul
def arAt (b : Ar) (N : Nat) (ops : Array Oper) (l : Sl) (i : Nat) : Option (Nat × Int × Int) :=
  match okAt N ops l i with
  | some (some d, .binOp o _ x y _, _) => match oval l x, oval l y with
    | some (.int .i64 a), some (.int .i64 c) => match b, o with
      | .add, .add => some (d, a, c)
      | .sub, .sub => some (d, a, c)
      | .mul, .mul => some (d, a, c)
      | _, _ => none
    | _, _ => none
  | _ => none
theorem arAt_spec {b : Ar} {d : Nat} {a c : Int} (h : arAt b N ops l i = some (d, a, c)) : ∃ x y T T' ty gd, opAt ops N i = some (some d, .binOp (match b with | .add => .add | .sub => .sub | .mul => .mul) T x y T', ty, gd) ∧ gval ops l gd = some true ∧
    oval l x = some (.int .i64 a) ∧ oval l y = some (.int .i64 c) := by
  unfold arAt at h
  split at h
  · rename_i d' o T x y T' ty ho
    obtain ⟨gd, h1, h2⟩ := okAt_spec ho
    split at h
    · rename_i a' c' hx hy
      split at h <;> cases h <;> exact ⟨x, y, T, T', ty, gd, h1, h2, hx, hy⟩
    · cases h
  · cases h
theorem da (d : Nat) (a c : Int) (hr : -9223372036854775808 ≤ a + c ∧ a + c ≤ 9223372036854775807 := by omega) (h : arAt .add N ops l i = some (d, a, c) := by kernel_rfl) : Det P N ops i l I R d (.int .i64 (a + c)) := by
  obtain ⟨x, y, T, T', ty, gd, h1, h2, h3, h4⟩ := arAt_spec h
  exact det_add h1 h2 h3 h4 hr
theorem dsb (d : Nat) (a c : Int) (hr : -9223372036854775808 ≤ a - c ∧ a - c ≤ 9223372036854775807 := by omega) (h : arAt .sub N ops l i = some (d, a, c) := by kernel_rfl) : Det P N ops i l I R d (.int .i64 (a - c)) := by
  obtain ⟨x, y, T, T', ty, gd, h1, h2, h3, h4⟩ := arAt_spec h
  exact det_sub h1 h2 h3 h4 hr
theorem dmu (d : Nat) (a c : Int) (hr : -9223372036854775808 ≤ a * c ∧ a * c ≤ 9223372036854775807 := by omega) (h : arAt .mul N ops l i = some (d, a, c) := by kernel_rfl) : Det P N ops i l I R d (.int .i64 (a * c)) := by
  obtain ⟨x, y, T, T', ty, gd, h1, h2, h3, h4⟩ := arAt_spec h
  exact det_mul h1 h2 h3 h4 hr
def cmAt (N : Nat) (ops : Array Oper) (l : Sl) (i : Nat) : Option (Nat × BinOp × Int × Int) :=
  match okAt N ops l i with
  | some (some d, .binOp o _ x y _, _) => match oval l x, oval l y with
    | some (.int .i64 a), some (.int .i64 c) => bif isCmp o then some (d, o, a, c) else none
    | _, _ => none
  | _ => none
theorem dcm (d : Nat) (o : BinOp) (a c : Int) (v : Bool) (hb : cmp o a c = v) (h : cmAt N ops l i = some (d, o, a, c) := by kernel_rfl) : Det P N ops i l I R d (.bool v) := by
  unfold cmAt at h
  split at h
  · rename_i d' o' T x y T' ty ho
    obtain ⟨gd, h1, h2⟩ := okAt_spec ho
    split at h
    · rename_i a' c' hx hy
      cases hc : isCmp o' with
      | false => rw [hc] at h; cases h
      | true => rw [hc] at h; cases h; exact det_cmp' h1 h2 hx hy hc hb
    · cases h
  · cases h

def ixAt (P : Program) (N : Nat) (ops : Array Oper) (l : Sl) (i : Nat) : Option (Nat × Nat × Option Addr × Nat × Int) :=
  match okAt N ops l i with
  | some (some d, .indexAddr T x y, _) => match tyElem P T with
    | some e => match tySize P e, oval l x, oval l y with
      | some sz, some (.slice a n _), some (.int _ j) => some (d, sz, a, n, j)
      | _, _, _ => none
    | none => none
  | _ => none
theorem diI (d sz : Nat) (j : Int) {n b off : Nat} {a : Option Addr} (ha : 0 < n → a = some ⟨b, off, none⟩) (hj : 0 ≤ j ∧ j < n := by omega) (h : ixAt P N ops l i = some (d, sz, a, n, j) := by kernel_rfl) :
    Det P N ops i l I R d (.pointer (some ⟨b, off + j.toNat * sz, none⟩)) := by
  unfold ixAt at h
  split at h
  · rename_i d' T x y ty ho
    obtain ⟨gd, h1, h2⟩ := okAt_spec ho
    split at h
    · rename_i e he
      split at h
      · rename_i sz' a' n' c' k' j' hs hx hy
        cases h
        exact det_indexAddr h1 h2 he hs hx hy ha hj.1 hj.2
      · cases h
    · cases h
  · cases h
theorem di (d sz : Nat) (j : Nat) {n b off : Nat} {a : Option Addr} (ha : 0 < n → a = some ⟨b, off, none⟩) (hj : j < n := by omega) (h : ixAt P N ops l i = some (d, sz, a, n, (j : Int)) := by kernel_rfl) :
    Det P N ops i l I R d (.pointer (some ⟨b, off + j * sz, none⟩)) := by
  have := diI (I := I) (R := R) d sz (j : Int) ha (by omega) h
  rwa [Int.toNat_natCast] at this
def ldAt (P : Program) (N : Nat) (ops : Array Oper) (l : Sl) (i : Nat) : Option (Nat × Nat × Nat) :=
  match okAt N ops l i with
  | some (some d, .load T x, _) => match tyAgg P T, oval l x with
    | some false, some (.pointer (some ⟨b, off, none⟩)) => some (d, b, off)
    | _, _ => none
  | _ => none
theorem dl (d : Nat) {b off : Nat} {v : Value} (hs : Sees I R ⟨b, off, none⟩ v) (h : ldAt P N ops l i = some (d, b, off) := by kernel_rfl) : Det P N ops i l I R d v := by
  unfold ldAt at h
  split at h
  · rename_i d' T x ty ho
    obtain ⟨gd, h1, h2⟩ := okAt_spec ho
    split at h
    · rename_i b' off' hT hx
      cases h
      exact det_load h1 h2 hT hx hs
    · cases h
  · cases h
def cellAt (R : Seg) (k off : Nat) : Option (Nat × Value) :=
  match R[k]? with
  | some (b, .cells cs _ _) => match cs[off]? with
    | some v => some (b, v)
    | none => none
  | _ => none
theorem dlb (d k off b : Nat) (v : Value) (h : ldAt P N ops l i = some (d, b, off) := by kernel_rfl) (hc : cellAt R k off = some (b, v) := by kernel_rfl) : Det P N ops i l I R d v := by
  refine dl d ?_ h
  unfold cellAt at hc
  split at hc
  · rename_i b' cs T fz hk
    split at hc
    · rename_i v' hv
      cases hc
      exact sees_at k hk hv
    · cases hc
  · cases hc
def lnAt (P : Program) (N : Nat) (ops : Array Oper) (l : Sl) (i : Nat) : Option (Nat × Nat × Nat × Nat) :=
  match okAt N ops l i with
  | some (some d, .load T x, _) => match tyAgg P T, tySize P T, oval l x with
    | some true, some n, some (.pointer (some ⟨b, off, none⟩)) => some (d, n, b, off)
    | _, _, _ => none
  | _ => none
theorem dn (d : Nat) {b off : Nat} {vs : List Value} (hs : SeesN I R b off vs) (h : lnAt P N ops l i = some (d, vs.length, b, off) := by kernel_rfl) : Det P N ops i l I R d (.agg vs.toArray) := by
  unfold lnAt at h
  split at h
  · rename_i d' T x ty ho
    obtain ⟨gd, h1, h2⟩ := okAt_spec ho
    split at h
    · rename_i n' b' off' hT hn hx
      cases h
      exact det_loadN h1 h2 hT hn hx rfl hs
    · cases h
  · cases h
def rowAt (R : Seg) (k off n : Nat) : Option (Nat × List Value) :=
  match R[k]? with
  | some (b, .cells cs _ _) => some (b, (cs.toList.drop off).take n)
  | _ => none
theorem dnb (d k off b : Nat) (vs : List Value) (h : lnAt P N ops l i = some (d, vs.length, b, off) := by kernel_rfl) (hc : rowAt R k off vs.length = some (b, vs) := by kernel_rfl) : Det P N ops i l I R d (.agg vs.toArray) := by
  refine dn d ?_ h
  unfold rowAt at hc
  split at hc
  · rename_i b' cs T fz hk
    have h1 : b' = b := congrArg (fun x => (x.getD (0, [])).1) hc
    have h2 : (cs.toList.drop off).take vs.length = vs := congrArg (fun x => (x.getD (0, [])).2) hc
    subst h1
    exact seesN_at (n := vs.length) k hk h2
  · cases hc

def clAt (P : Program) (N : Nat) (ops : Array Oper) (l : Sl) (i : Nat) : Option (Option Tmp × FuncId × Array Value) :=
  match okAt N ops l i with
  | some (d, .call { callee := .value f, args := args, argTypes := _ }, _) => match oval l f, ovals l args.toList with
    | some (.func (.func fid) ⟨fs⟩ cv), some vals => bif callable P fid && fs.isEmpty then some (d, fid, (vals ++ cv.toList).toArray) else none
    | _, _ => none
  | _ => none
theorem clAt_spec {d : Option Tmp} {fid : FuncId} {argv : Array Value} (h : clAt P N ops l i = some (d, fid, argv)) : ∃ f args tys ty gd vals cv, opAt ops N i = some (d, .call { callee := .value f, args := args, argTypes := tys }, ty, gd) ∧ gval ops l gd = some true ∧
    oval l f = some (.func (.func fid) #[] (cv : List Value).toArray) ∧ ovals l args.toList = some vals ∧ callable P fid = true ∧ (vals ++ cv).toArray = argv := by
  unfold clAt at h
  split at h
  · rename_i d' f args tys ty ho
    obtain ⟨gd, h1, h2⟩ := okAt_spec ho
    split at h
    · rename_i fid' fs cv vals hf hv
      cases hc : callable P fid' && fs.isEmpty with
      | false => rw [hc] at h; cases h
      | true =>
        rw [hc] at h
        cases h
        rw [Bool.and_eq_true, List.isEmpty_iff] at hc
        obtain ⟨hc, rfl⟩ := hc
        exact ⟨f, args, tys, ty, gd, vals, cv.toList, h1, h2, by simpa using hf, hv, hc, rfl⟩
    · cases h
  · cases h
theorem dc (d : Nat) {fid : FuncId} {argv : Array Value} {v : Value} (ct : ∀ I', I.le I' → CtV P fid argv I' v) (h : clAt P N ops l i = some (some d, fid, argv) := by kernel_rfl) : Det P N ops i l I R d v := by
  obtain ⟨f, args, tys, ty, gd, vals, cv, h1, h2, h3, h4, h5, h6⟩ := clAt_spec h
  exact det_call h1 h2 h3 h4 h5 h6 ct
theorem sc (d : Option Tmp) {K : Sl → Imm → Seg → Prop} {fid : FuncId} {argv : Array Value} {pre F : Seg} {post : Value → Imm → Seg → Prop} (ct : Ct P fid argv I pre post) (hM : M.Perm (pre ++ F))
    (hk : ∀ v I' M', I.le I' → post v I' M' → K (ups d v l) I' (M' ++ F)) (h : clAt P N ops l i = some (d, fid, argv) := by kernel_rfl) : Stp P N ops i l I M K := by
  obtain ⟨f, args, tys, ty, gd, vals, cv, h1, h2, h3, h4, h5, h6⟩ := clAt_spec h
  exact stp_call h1 h2 h3 h4 h5 h6 ct hM hk

def bxAt (N : Nat) (ops : Array Oper) (l : Sl) (i : Nat) : Option (Nat × TypeId × Array Value) :=
  match okAt N ops l i with
  | some (some d, .box T x, _) => match oval l x with
    | some v => some (d, T, v.cells)
    | none => none
  | _ => none
theorem sb (d T : Nat) (cs : Array Value) {K : Sl → Imm → Seg → Prop} (hk : ∀ b, K ((d, .pointer (some ⟨b, 0, none⟩)) :: l) I ((b, .cells cs T (0, 0)) :: M)) (h : bxAt N ops l i = some (d, T, cs) := by kernel_rfl) : Stp P N ops i l I M K := by
  unfold bxAt at h
  split at h
  · rename_i d' T' x ty ho
    obtain ⟨gd, h1, h2⟩ := okAt_spec ho
    split at h
    · rename_i v hx
      cases h
      exact stp_box h1 h2 hx rfl hk
    · cases h
  · cases h
def alAt (P : Program) (N : Nat) (ops : Array Oper) (l : Sl) (i : Nat) : Option (Nat × TypeId × Array Value) :=
  match okAt N ops l i with
  | some (some d, .alloc T, _) => match tyZero P T with
    | some v => some (d, T, v.cells)
    | none => none
  | _ => none
theorem sal (d T : Nat) (cs : Array Value) {K : Sl → Imm → Seg → Prop} (hk : ∀ b, K ((d, .pointer (some ⟨b, 0, none⟩)) :: l) I ((b, .cells cs T (0, 0)) :: M)) (h : alAt P N ops l i = some (d, T, cs) := by kernel_rfl) : Stp P N ops i l I M K := by
  unfold alAt at h
  split at h
  · rename_i d' T' ty ho
    obtain ⟨gd, h1, h2⟩ := okAt_spec ho
    split at h
    · rename_i v hx
      cases h
      exact stp_alloc h1 h2 hx rfl hk
    · cases h
  · cases h
def stAt (P : Program) (N : Nat) (ops : Array Oper) (l : Sl) (i : Nat) : Option (Nat × Nat × List Value) :=
  match okAt N ops l i with
  | some (none, .store T x y, _) => match oval l x, oval l y, tySize P T with
    | some (.pointer (some ⟨b, off, none⟩)), some v, some n => bif Nat.beq v.cells.toList.length n && v.cells.toList.all oneCell then some (b, off, v.cells.toList) else none
    | _, _, _ => none
  | _ => none
theorem ss (k off b : Nat) (vs cs' : List Value) (M' : Seg) {cs : List Value} {S : TypeId} {K : Sl → Imm → Seg → Prop} (hk : M[k]? = some (b, Obj.cells cs.toArray S (0, 0))) (hM : M.set k (b, Obj.cells cs'.toArray S (0, 0)) = M') (hK : K l I M')
    (h : stAt P N ops l i = some (b, off, vs) := by kernel_rfl) (hs : (setRow cs.toArray off vs).toList = cs' := by kernel_rfl) (hle : Nat.ble (off + vs.length) cs.length = true := by kernel_rfl) : Stp P N ops i l I M K := by
  unfold stAt at h
  split at h
  · rename_i T' x y ty ho
    obtain ⟨gd, h1, h2⟩ := okAt_spec ho
    split at h
    · rename_i b' off' v n hx hy hn
      cases hc : Nat.beq v.cells.toList.length n && v.cells.toList.all oneCell with
      | false => rw [hc] at h; cases h
      | true =>
        rw [hc] at h
        cases h
        rw [Bool.and_eq_true] at hc
        exact stp_store k h1 h2 hx hy hn rfl (Nat.eq_of_beq_eq_true hc.1) hc.2 hk (Nat.le_of_ble_eq_true hle) hs hM hK
    · cases h
  · cases h
def bsAt (P : Program) (N : Nat) (ops : Array Oper) (l : Sl) (i : Nat) : Option (Nat × TypeId × Nat × Array Value) :=
  match okAt N ops l i with
  | some (some d, .buildSlice T n parts, _) => match tyElem P T, ovals l (parts.toList.map (·.2)) with
    | some e, some _ => match tySize P e, tyZero P e with
      | some sz, some z => bif Nat.ble (n * sz) 16777216 then
          match Instr.fill (fun i => some (i * sz, sz)) ((Array.range (n * sz)).map (fun k => (if n * sz = 0 then #[] else z.cells)[k % (if n * sz = 0 then (#[] : Array Value) else z.cells).size]!)) (parts.toList.map fun x => (x.1, rho l x.2)) with
          | some cs => some (d, e, n, cs)
          | none => none
        else none
      | _, _ => none
    | _, _ => none
  | _ => none
theorem sbs (d e n : Nat) (cs : Array Value) {K : Sl → Imm → Seg → Prop} (hk : ∀ b, K ((d, .slice (some ⟨b, 0, none⟩) n n) :: l) I ((b, .cells cs e (0, 0)) :: M)) (h : bsAt P N ops l i = some (d, e, n, cs) := by kernel_rfl) : Stp P N ops i l I M K := by
  unfold bsAt at h
  split at h
  · rename_i d' T n' parts ty ho
    obtain ⟨gd, h1, h2⟩ := okAt_spec ho
    split at h
    · rename_i e' vs he hv
      split at h
      · rename_i sz z hs hz
        cases hc : Nat.ble (n' * sz) 16777216 with
        | false => rw [hc] at h; cases h
        | true =>
          rw [hc] at h
          simp only [cond_true] at h
          split at h
          · rename_i cs' hf
            cases h
            exact stp_buildSlice h1 h2 he hs hz (parts_knownS (by rw [hv]; rfl)) rfl (Nat.le_of_ble_eq_true hc) hf hk
          · cases h
      · cases h
    · cases h
  · cases h
end
end Go.Sl
namespace Go.Proofs.YtcaocbhbofejnaaDoor
open Go Go.Sl Go.Sh
set_option maxRecDepth 100000
noncomputable def cIn (p : List Nat) : Code := sub (bodyOf Tryd.f49) p
theorem in_ct (I : Imm) (n : Int) (lo : Int) (hi : Int) : CtV Tryd.prog 49 #[.int .i64 n, .int .i64 lo, .int .i64 hi] I (.bool (inB n lo hi)) := by
 refine fn_of_run (fn := Tryd.f49) (args := [_, _, _]) (N := 15) Tryd.func49 rfl (by kernel_rfl) (Nat.le_of_ble_eq_true rfl) (fun F => ?_)
 show Run _ _ (cIn []) _ _ [(0, .int .i64 (n)), (1, .int .i64 (lo)), (2, .int .i64 (hi))] _ _
 refine rnm ?_
 refine rqr ?_
 refine sp 1 [(6, .bool (false))] ?_
 refine se ?_
 refine rq ?_
 refine run_cut (fun a w => Slots 15 [(6, .bool ((cmp .leq (lo) (n)) && (cmp .leq (n) (hi))))] a ∧ a.defers = [] ∧ St I (F) w) ?_ ?_
 ·
  refine rr ?_
  refine sp 4 [(10, .bool (cmp .leq (lo) (n)))] ?_
  refine seq_split 10 rfl (fun h1 => ?_) (fun h1 => ?_)
  ·
   have h1_b := h1
   have h1_b := leq_t h1_b
   refine sp 5 [(6, .bool (cmp .leq (n) (hi)))] ?_
   refine ee ?_
   refine pst_meet (fun a w hS hD hW => ⟨hS.sub (.consE 6 rfl (congrArg Value.bool (by simp only [h1, Bool.true_and, Bool.false_and, Bool.and_true, Bool.and_false, Bool.true_or, Bool.false_or, Bool.or_true, Bool.or_false, cond_true, cond_false])) (.nil _)), hD, hW⟩)
  ·
   have h1_b := h1
   have h1_b := leq_f h1_b
   refine sp 5 [(6, .bool (false))] ?_
   refine ee ?_
   refine pst_meet (fun a w hS hD hW => ⟨hS.sub (.consE 6 rfl (congrArg Value.bool (by simp only [h1, Bool.true_and, Bool.false_and, Bool.and_true, Bool.and_false, Bool.true_or, Bool.false_or, Bool.or_true, Bool.or_false, cond_true, cond_false])) (.nil _)), hD, hW⟩)
 ·rintro a w ⟨hS, hD, hW⟩
  refine run_at hS hD hW ?_
  clear hS hD hW a w
  refine rret ?_
  refine pst_ret1 (t := 6) [] (by kernel_rfl) rfl (List.Sublist.refl _) (Imm.le.refl _) ?_
  exact ⟨by simp [inB, cmp], rfl⟩

noncomputable def c_EqualInts_ct (p : List Nat) : Code := sub (bodyOf Tryd.f15) p
theorem EqualInts_ct (I : Imm) (a : Value) (xs : List Int) (b : Value) (ys : List Int) (a_f : IsInts I a xs) (b_f : IsInts I b ys) : CtV Tryd.prog 15 #[a, b] I (.bool (decide (xs = ys))) := by
 obtain ⟨a_a, a_c, a_b, a_o, a_e, a_l, a_m, a_r⟩ := id a_f
 subst a_e
 obtain ⟨b_a, b_c, b_b, b_o, b_e, b_l, b_m, b_r⟩ := id b_f
 subst b_e
 refine fn_of_run (fn := Tryd.f15) (args := [_, _]) (N := 26) Tryd.func15 rfl (by kernel_rfl) (Nat.le_of_ble_eq_true rfl) (fun F => ?_)
 show Run _ _ (c_EqualInts_ct []) _ _ [(0, .slice a_a xs.length a_c), (1, .slice b_a ys.length b_c)] _ _
 refine rnm ?_
 refine rqr ?_
 refine sp 1 [(4, .bool (false))] ?_
 refine se ?_
 refine rq ?_
 refine rqr ?_
 refine sp 5 [(10, .bool (!(cmp .eql (↑(xs.length)) (↑(ys.length)))))] ?_
 refine se ?_
 refine rc 10 rfl (fun h1 => ?_) (fun h1 => ?_)
 ·
  have h1_r := h1
  have h1 := not_t h1
  have h1 := eql_f h1
  refine rqr ?_
  refine sp 1 [(4, .bool (false))] ?_
  refine se ?_
  refine rret ?_
  refine (pst_ret_pass ?_)
  refine pst_ret1 (t := 4) [] (by kernel_rfl) rfl (List.Sublist.refl _) (Imm.le.refl _) ?_
  exact ⟨by rw [decide_eq_false (fun e => h1 (by rw [e]))], rfl⟩
 ·
  have h1_r := h1
  have h1 := not_f h1
  have h1 := eql_t h1
  refine rskip ?_
  refine pst_next ?_
  refine rq ?_
  refine rqr ?_
  refine sp 1 [(5, .int .i64 (0))] ?_
  refine se ?_
  refine rb 0 ?_
  refine rl (fun mz a w => ∃ k : Nat, (k ≤ xs.length) ∧ (xs.length = ys.length) ∧ (xs.take k = ys.take k) ∧ Slots 26 [(5, .int .i64 ↑k), (0, .slice a_a xs.length a_c), (1, .slice b_a ys.length b_c)] a ∧ a.defers = [] ∧ St I (F) w ∧ mz = xs.length - k) ?_ ?_
  ·intro a w hS hD hW
   exact ⟨_, 0, Nat.zero_le _, by omega, rfl, hS.sub (.cons 5 rfl (.cons 0 rfl (.cons 1 rfl (.nil _)))), hD, hW, rfl⟩
  ·rintro mz a w ⟨k, hk, hl, ht, hS, hD, hW, rfl⟩
   refine run_at hS hD hW ?_
   clear hS hD hW a w
   refine rq ?_
   refine rqr ?_
   refine sp 4 [(14, .bool (cmp .lss (↑k) (↑(xs.length))))] ?_
   refine se ?_
   refine rc 14 rfl (fun h2 => ?_) (fun h2 => ?_)
   ·
    have h2_r := h2
    have h2 := lss_t h2
    refine rskip ?_
    refine pst_next ?_
    refine rq ?_
    refine rb 1 ?_
    refine rq ?_
    refine rd0 8 ?_
    refine ox 2 [(18, .int .i64 (↑k)), (17, .slice a_a xs.length a_c)] ?_
    refine ofp_det (di 19 1 (k) a_r.addr) ?_
    refine ofp_det (dl 20 (ints_get a_r (k) (by omega))) ?_
    refine ox 2 [(22, .int .i64 (↑k)), (21, .slice b_a ys.length b_c)] ?_
    refine ofp_det (di 23 1 (k) b_r.addr) ?_
    refine ofp_det (dl 24 (ints_get b_r (k) (by omega))) ?_
    refine ofp_end0 ?_
    refine sp 1 [(25, .bool (!(cmp .eql (xs.getD (k) 0) (ys.getD (k) 0))))] ?_
    refine se ?_
    refine rc 25 rfl (fun h3 => ?_) (fun h3 => ?_)
    ·
     have h3_r := h3
     have h3 := not_t h3
     have h3 := eql_f h3
     refine rqr ?_
     refine sp 1 [(4, .bool (false))] ?_
     refine se ?_
     refine rret ?_
     refine (pst_ret_block (pst_ret_pass (pst_ret_pass (pst_ret_block (pst_ret_pass ?_)))))
     refine pst_ret1 (t := 4) [] (by kernel_rfl) rfl (List.Sublist.refl _) (Imm.le.refl _) ?_
     exact ⟨by rw [decide_eq_false (getD_ne hl h3)], rfl⟩
    ·
     have h3_r := h3
     have h3 := not_f h3
     have h3 := eql_t h3
     refine rskip ?_
     refine pst_normal_block ?_
     refine pst_next ?_
     refine rr ?_
     refine sp 1 [(15, .int .i64 (↑k))] ?_
     refine sd (da 16 (↑k) (1)) ?_
     refine sp 1 [(5, .int .i64 (↑k + 1))] ?_
     refine ee ?_
     refine pst_back (xs.length - (k+1)) (by omega) ?_
     intro a w hS hD hW
     exact ⟨k+1, by omega, hl, take_step (d := 0) hl ht (by omega) h3, hS.sub (.consE 5 rfl rfl (.cons 0 rfl (.cons 1 rfl (.nil _)))), hD, hW, rfl⟩
   ·
    have h2_r := h2
    have h2 := lss_f h2
    refine rexit 0 ?_
    refine (pst_exit_pass (pst_exit_pass (pst_exit_block ?_)))
    refine pst_next ?_
    refine rqr ?_
    refine sp 1 [(4, .bool (true))] ?_
    refine se ?_
    refine rret ?_
    refine pst_ret1 (t := 4) [] (by kernel_rfl) rfl (List.Sublist.refl _) (Imm.le.refl _) ?_
    exact ⟨by rw [decide_eq_true (take_all hl ht (by omega))], rfl⟩

noncomputable def c_slicesEqual_ct (p : List Nat) : Code := sub (bodyOf Tryd.f77) p
theorem slicesEqual_ct (I : Imm) (a : Value) (xs : List Int) (b : Value) (ys : List Int) (a_f : IsInts I a xs) (b_f : IsInts I b ys) : CtV Tryd.prog 77 #[a, b] I (.bool (decide (xs = ys))) := by
 obtain ⟨a_a, a_c, a_b, a_o, a_e, a_l, a_m, a_r⟩ := id a_f
 subst a_e
 obtain ⟨b_a, b_c, b_b, b_o, b_e, b_l, b_m, b_r⟩ := id b_f
 subst b_e
 refine fn_of_run (fn := Tryd.f77) (args := [_, _]) (N := 26) Tryd.func77 rfl (by kernel_rfl) (Nat.le_of_ble_eq_true rfl) (fun F => ?_)
 show Run _ _ (c_slicesEqual_ct []) _ _ [(0, .slice a_a xs.length a_c), (1, .slice b_a ys.length b_c)] _ _
 refine rnm ?_
 refine rqr ?_
 refine sp 1 [(4, .bool (false))] ?_
 refine se ?_
 refine rq ?_
 refine rqr ?_
 refine sp 5 [(10, .bool (!(cmp .eql (↑(xs.length)) (↑(ys.length)))))] ?_
 refine se ?_
 refine rc 10 rfl (fun h1 => ?_) (fun h1 => ?_)
 ·
  have h1_r := h1
  have h1 := not_t h1
  have h1 := eql_f h1
  refine rqr ?_
  refine sp 1 [(4, .bool (false))] ?_
  refine se ?_
  refine rret ?_
  refine (pst_ret_pass ?_)
  refine pst_ret1 (t := 4) [] (by kernel_rfl) rfl (List.Sublist.refl _) (Imm.le.refl _) ?_
  exact ⟨by rw [decide_eq_false (fun e => h1 (by rw [e]))], rfl⟩
 ·
  have h1_r := h1
  have h1 := not_f h1
  have h1 := eql_t h1
  refine rskip ?_
  refine pst_next ?_
  refine rq ?_
  refine rqr ?_
  refine sp 3 [(13, .int .i64 (0)), (12, .int .i64 (↑(xs.length)))] ?_
  refine se ?_
  refine rb 0 ?_
  refine rl (fun mz a w => ∃ k : Nat, (k ≤ xs.length) ∧ (xs.length = ys.length) ∧ (xs.take k = ys.take k) ∧ Slots 26 [(13, .int .i64 ↑k), (0, .slice a_a xs.length a_c), (1, .slice b_a ys.length b_c), (12, .int .i64 (↑(xs.length)))] a ∧ a.defers = [] ∧ St I (F) w ∧ mz = xs.length - k) ?_ ?_
  ·intro a w hS hD hW
   exact ⟨_, 0, Nat.zero_le _, by omega, rfl, hS.sub (.cons 13 rfl (.cons 0 rfl (.cons 1 rfl (.cons 12 rfl (.nil _))))), hD, hW, rfl⟩
  ·rintro mz a w ⟨k, hk, hl, ht, hS, hD, hW, rfl⟩
   refine run_at hS hD hW ?_
   clear hS hD hW a w
   refine rqr ?_
   refine sp 1 [(14, .bool (cmp .lss (↑k) (↑(xs.length))))] ?_
   refine se ?_
   refine rq ?_
   refine rc 14 rfl (fun h2 => ?_) (fun h2 => ?_)
   ·
    have h2_r := h2
    have h2 := lss_t h2
    refine rskip ?_
    refine pst_next ?_
    refine rq ?_
    refine rb 1 ?_
    refine rqr ?_
    refine sp 2 [(5, .int .i64 (↑k))] ?_
    refine se ?_
    refine rq ?_
    refine rd0 8 ?_
    refine ox 2 [(17, .int .i64 (↑k)), (16, .slice a_a xs.length a_c)] ?_
    refine ofp_det (di 18 1 (k) a_r.addr) ?_
    refine ofp_det (dl 19 (ints_get a_r (k) (by omega))) ?_
    refine ox 2 [(21, .int .i64 (↑k)), (20, .slice b_a ys.length b_c)] ?_
    refine ofp_det (di 22 1 (k) b_r.addr) ?_
    refine ofp_det (dl 23 (ints_get b_r (k) (by omega))) ?_
    refine ofp_end0 ?_
    refine sp 1 [(24, .bool (!(cmp .eql (xs.getD (k) 0) (ys.getD (k) 0))))] ?_
    refine se ?_
    refine rc 24 rfl (fun h3 => ?_) (fun h3 => ?_)
    ·
     have h3_r := h3
     have h3 := not_t h3
     have h3 := eql_f h3
     refine rqr ?_
     refine sp 1 [(4, .bool (false))] ?_
     refine se ?_
     refine rret ?_
     refine (pst_ret_block (pst_ret_pass (pst_ret_pass (pst_ret_block (pst_ret_pass ?_)))))
     refine pst_ret1 (t := 4) [] (by kernel_rfl) rfl (List.Sublist.refl _) (Imm.le.refl _) ?_
     exact ⟨by rw [decide_eq_false (getD_ne hl h3)], rfl⟩
    ·
     have h3_r := h3
     have h3 := not_f h3
     have h3 := eql_t h3
     refine rskip ?_
     refine pst_normal_block ?_
     refine pst_next ?_
     refine rr ?_
     refine sd (da 25 (↑k) (1)) ?_
     refine sp 1 [(13, .int .i64 (↑k + 1))] ?_
     refine ee ?_
     refine pst_back (xs.length - (k+1)) (by omega) ?_
     intro a w hS hD hW
     exact ⟨k+1, by omega, hl, take_step (d := 0) hl ht (by omega) h3, hS.sub (.consE 13 rfl rfl (.cons 0 rfl (.cons 1 rfl (.cons 12 rfl (.nil _))))), hD, hW, rfl⟩
   ·
    have h2_r := h2
    have h2 := lss_f h2
    refine rexit 0 ?_
    refine (pst_exit_pass (pst_exit_pass (pst_exit_block ?_)))
    refine pst_next ?_
    refine rqr ?_
    refine sp 1 [(4, .bool (true))] ?_
    refine se ?_
    refine rret ?_
    refine pst_ret1 (t := 4) [] (by kernel_rfl) rfl (List.Sublist.refl _) (Imm.le.refl _) ?_
    exact ⟨by rw [decide_eq_true (take_all hl ht (by omega))], rfl⟩

noncomputable def c_EqualShifts_ct (p : List Nat) : Code := sub (bodyOf Tryd.f46) p
theorem EqualShifts_ct (I : Imm) (a : Value) (xs : List Shift) (b : Value) (ys : List Shift) (a_f : IsShifts I a xs) (b_f : IsShifts I b ys) : CtV Tryd.prog 46 #[a, b] I (.bool (decide (xs = ys))) := by
 obtain ⟨a_a, a_c, a_b, a_o, a_e, a_l, a_m, a_r⟩ := id a_f
 subst a_e
 obtain ⟨b_a, b_c, b_b, b_o, b_e, b_l, b_m, b_r⟩ := id b_f
 subst b_e
 refine fn_of_run (fn := Tryd.f46) (args := [_, _]) (N := 26) Tryd.func46 rfl (by kernel_rfl) (Nat.le_of_ble_eq_true rfl) (fun F => ?_)
 show Run _ _ (c_EqualShifts_ct []) _ _ [(0, .slice a_a xs.length a_c), (1, .slice b_a ys.length b_c)] _ _
 refine rnm ?_
 refine rqr ?_
 refine sp 1 [(4, .bool (false))] ?_
 refine se ?_
 refine rq ?_
 refine rqr ?_
 refine sp 5 [(10, .bool (!(cmp .eql (↑(xs.length)) (↑(ys.length)))))] ?_
 refine se ?_
 refine rc 10 rfl (fun h1 => ?_) (fun h1 => ?_)
 ·
  have h1_r := h1
  have h1 := not_t h1
  have h1 := eql_f h1
  refine rqr ?_
  refine sp 1 [(4, .bool (false))] ?_
  refine se ?_
  refine rret ?_
  refine (pst_ret_pass ?_)
  refine pst_ret1 (t := 4) [] (by kernel_rfl) rfl (List.Sublist.refl _) (Imm.le.refl _) ?_
  exact ⟨by rw [decide_eq_false (fun e => h1 (by rw [e]))], rfl⟩
 ·
  have h1_r := h1
  have h1 := not_f h1
  have h1 := eql_t h1
  refine rskip ?_
  refine pst_next ?_
  refine rq ?_
  refine rqr ?_
  refine sp 1 [(5, .int .i64 (0))] ?_
  refine se ?_
  refine rb 0 ?_
  refine rl (fun mz a w => ∃ k : Nat, (k ≤ xs.length) ∧ (xs.length = ys.length) ∧ (xs.take k = ys.take k) ∧ Slots 26 [(5, .int .i64 ↑k), (0, .slice a_a xs.length a_c), (1, .slice b_a ys.length b_c)] a ∧ a.defers = [] ∧ St I (F) w ∧ mz = xs.length - k) ?_ ?_
  ·intro a w hS hD hW
   exact ⟨_, 0, Nat.zero_le _, by omega, rfl, hS.sub (.cons 5 rfl (.cons 0 rfl (.cons 1 rfl (.nil _)))), hD, hW, rfl⟩
  ·rintro mz a w ⟨k, hk, hl, ht, hS, hD, hW, rfl⟩
   refine run_at hS hD hW ?_
   clear hS hD hW a w
   refine rq ?_
   refine rqr ?_
   refine sp 4 [(14, .bool (cmp .lss (↑k) (↑(xs.length))))] ?_
   refine se ?_
   refine rc 14 rfl (fun h2 => ?_) (fun h2 => ?_)
   ·
    have h2_r := h2
    have h2 := lss_t h2
    refine rskip ?_
    refine pst_next ?_
    refine rq ?_
    refine rb 1 ?_
    refine rq ?_
    refine rd0 8 ?_
    refine ox 2 [(18, .int .i64 (↑k)), (17, .slice a_a xs.length a_c)] ?_
    refine ofp_det (di 19 3 (k) a_r.addr) ?_
    refine ofp_det (det_loadN (x := (.tmp 19)) (T := 54) (n := 3) (vs := [.int .i64 ((xs.getD (k) noShift).frm), .int .i64 ((xs.getD (k) noShift).to), .int .i64 ((xs.getD (k) noShift).many)]) (d := 20) (ty := 54) (gd := none) (by kernel_rfl) rfl (by kernel_rfl) (by kernel_rfl) rfl rfl (shifts_getN a_r (k) (by omega))) ?_
    refine ox 2 [(22, .int .i64 (↑k)), (21, .slice b_a ys.length b_c)] ?_
    refine ofp_det (di 23 3 (k) b_r.addr) ?_
    refine ofp_det (det_loadN (x := (.tmp 23)) (T := 54) (n := 3) (vs := [.int .i64 ((ys.getD (k) noShift).frm), .int .i64 ((ys.getD (k) noShift).to), .int .i64 ((ys.getD (k) noShift).many)]) (d := 24) (ty := 54) (gd := none) (by kernel_rfl) rfl (by kernel_rfl) (by kernel_rfl) rfl rfl (shifts_getN b_r (k) (by omega))) ?_
    refine ofp_end0 ?_
    refine sd (det_neqAgg (L := [(0, .i .i64), (1, .i .i64), (2, .i .i64)]) (x := (.tmp 20)) (y := (.tmp 24)) (T := 54) (T' := 54) (d := 25) (ty := 4) (gd := none) (by kernel_rfl) rfl (by kernel_rfl) rfl rfl rfl (eqShift (xs.getD (k) noShift) (ys.getD (k) noShift))) ?_
    refine se ?_
    refine rc 25 rfl (fun h3 => ?_) (fun h3 => ?_)
    ·
     have h3_r := h3
     have h3 := not_t h3
     have h3 := dec_f h3
     refine rqr ?_
     refine sp 1 [(4, .bool (false))] ?_
     refine se ?_
     refine rret ?_
     refine (pst_ret_block (pst_ret_pass (pst_ret_pass (pst_ret_block (pst_ret_pass ?_)))))
     refine pst_ret1 (t := 4) [] (by kernel_rfl) rfl (List.Sublist.refl _) (Imm.le.refl _) ?_
     exact ⟨by rw [decide_eq_false (getD_ne hl h3)], rfl⟩
    ·
     have h3_r := h3
     have h3 := not_f h3
     have h3 := dec_t h3
     refine rskip ?_
     refine pst_normal_block ?_
     refine pst_next ?_
     refine rr ?_
     refine sp 1 [(15, .int .i64 (↑k))] ?_
     refine sd (da 16 (↑k) (1)) ?_
     refine sp 1 [(5, .int .i64 (↑k + 1))] ?_
     refine ee ?_
     refine pst_back (xs.length - (k+1)) (by omega) ?_
     intro a w hS hD hW
     exact ⟨k+1, by omega, hl, take_step (d := noShift) hl ht (by omega) h3, hS.sub (.consE 5 rfl rfl (.cons 0 rfl (.cons 1 rfl (.nil _)))), hD, hW, rfl⟩
   ·
    have h2_r := h2
    have h2 := lss_f h2
    refine rexit 0 ?_
    refine (pst_exit_pass (pst_exit_pass (pst_exit_block ?_)))
    refine pst_next ?_
    refine rqr ?_
    refine sp 1 [(4, .bool (true))] ?_
    refine se ?_
    refine rret ?_
    refine pst_ret1 (t := 4) [] (by kernel_rfl) rfl (List.Sublist.refl _) (Imm.le.refl _) ?_
    exact ⟨by rw [decide_eq_true (take_all hl ht (by omega))], rfl⟩

noncomputable def c_EqualRows_ct (p : List Nat) : Code := sub (bodyOf Tryd.f22) p
theorem EqualRows_ct (I : Imm) (a : Value) (xs : List (List Int)) (b : Value) (ys : List (List Int)) (a_f : IsRows I a xs) (b_f : IsRows I b ys) : CtV Tryd.prog 22 #[a, b] I (.bool (decide (xs = ys))) := by
 obtain ⟨a_a, a_c, a_b, a_o, a_vs, a_e, a_l, a_m, a_r, a_w⟩ := id a_f
 subst a_e
 obtain ⟨b_a, b_c, b_b, b_o, b_vs, b_e, b_l, b_m, b_r, b_w⟩ := id b_f
 subst b_e
 refine fn_of_run (fn := Tryd.f22) (args := [_, _]) (N := 27) Tryd.func22 rfl (by kernel_rfl) (Nat.le_of_ble_eq_true rfl) (fun F => ?_)
 show Run _ _ (c_EqualRows_ct []) _ _ [(0, .slice a_a xs.length a_c), (1, .slice b_a ys.length b_c)] _ _
 refine rnm ?_
 refine rqr ?_
 refine sp 1 [(4, .bool (false))] ?_
 refine se ?_
 refine rq ?_
 refine rqr ?_
 refine sp 5 [(10, .bool (!(cmp .eql (↑(xs.length)) (↑(ys.length)))))] ?_
 refine se ?_
 refine rc 10 rfl (fun h1 => ?_) (fun h1 => ?_)
 ·
  have h1_r := h1
  have h1 := not_t h1
  have h1 := eql_f h1
  refine rqr ?_
  refine sp 1 [(4, .bool (false))] ?_
  refine se ?_
  refine rret ?_
  refine (pst_ret_pass ?_)
  refine pst_ret1 (t := 4) [] (by kernel_rfl) rfl (List.Sublist.refl _) (Imm.le.refl _) ?_
  exact ⟨by rw [decide_eq_false (fun e => h1 (by rw [e]))], rfl⟩
 ·
  have h1_r := h1
  have h1 := not_f h1
  have h1 := eql_t h1
  refine rskip ?_
  refine pst_next ?_
  refine rq ?_
  refine rqr ?_
  refine sp 1 [(5, .int .i64 (0))] ?_
  refine se ?_
  refine rb 0 ?_
  refine rl (fun mz a w => ∃ k : Nat, (k ≤ xs.length) ∧ (xs.length = ys.length) ∧ (xs.take k = ys.take k) ∧ Slots 27 [(5, .int .i64 ↑k), (0, .slice a_a xs.length a_c), (1, .slice b_a ys.length b_c)] a ∧ a.defers = [] ∧ St I (F) w ∧ mz = xs.length - k) ?_ ?_
  ·intro a w hS hD hW
   exact ⟨_, 0, Nat.zero_le _, by omega, rfl, hS.sub (.cons 5 rfl (.cons 0 rfl (.cons 1 rfl (.nil _)))), hD, hW, rfl⟩
  ·rintro mz a w ⟨k, hk, hl, ht, hS, hD, hW, rfl⟩
   refine run_at hS hD hW ?_
   clear hS hD hW a w
   refine rq ?_
   refine rqr ?_
   refine sp 4 [(14, .bool (cmp .lss (↑k) (↑(xs.length))))] ?_
   refine se ?_
   refine rc 14 rfl (fun h2 => ?_) (fun h2 => ?_)
   ·
    have h2_r := h2
    have h2 := lss_t h2
    refine rskip ?_
    refine pst_next ?_
    refine rq ?_
    refine rb 1 ?_
    refine rq ?_
    refine rd0 8 ?_
    refine ox 2 [(18, .int .i64 (↑k)), (17, .slice a_a xs.length a_c)] ?_
    refine ofp_det (di 19 1 (k) a_r.addr) ?_
    have r1_f := a_w (k) (by omega)
    obtain ⟨r1_a, r1_c, r1_b, r1_o, r1_e, r1_l, r1_m, r1_r⟩ := id r1_f
    rw [r1_e] at r1_f
    refine ofp_det (det_eq (dl 20 (rows_get a_r (k) (by omega))) r1_e) ?_
    refine ox 2 [(22, .int .i64 (↑k)), (21, .slice b_a ys.length b_c)] ?_
    refine ofp_det (di 23 1 (k) b_r.addr) ?_
    have r2_f := b_w (k) (by omega)
    obtain ⟨r2_a, r2_c, r2_b, r2_o, r2_e, r2_l, r2_m, r2_r⟩ := id r2_f
    rw [r2_e] at r2_f
    refine ofp_det (det_eq (dl 24 (rows_get b_r (k) (by omega))) r2_e) ?_
    refine ofp_end0 ?_
    refine sd (dc 25 (fun I' hI => (EqualInts_ct I' _ _ _ _ (r1_f.mono hI) (r2_f.mono hI) :))) ?_
    refine sp 1 [(26, .bool (!(decide ((xs.getD (k) []) = (ys.getD (k) [])))))] ?_
    refine se ?_
    refine rc 26 rfl (fun h3 => ?_) (fun h3 => ?_)
    ·
     have h3_r := h3
     have h3 := not_t h3
     have h3 := dec_f h3
     refine rqr ?_
     refine sp 1 [(4, .bool (false))] ?_
     refine se ?_
     refine rret ?_
     refine (pst_ret_block (pst_ret_pass (pst_ret_pass (pst_ret_block (pst_ret_pass ?_)))))
     refine pst_ret1 (t := 4) [] (by kernel_rfl) rfl (List.Sublist.refl _) (Imm.le.refl _) ?_
     exact ⟨by rw [decide_eq_false (getD_ne hl h3)], rfl⟩
    ·
     have h3_r := h3
     have h3 := not_f h3
     have h3 := dec_t h3
     refine rskip ?_
     refine pst_normal_block ?_
     refine pst_next ?_
     refine rr ?_
     refine sp 1 [(15, .int .i64 (↑k))] ?_
     refine sd (da 16 (↑k) (1)) ?_
     refine sp 1 [(5, .int .i64 (↑k + 1))] ?_
     refine ee ?_
     refine pst_back (xs.length - (k+1)) (by omega) ?_
     intro a w hS hD hW
     exact ⟨k+1, by omega, hl, take_step (d := []) hl ht (by omega) h3, hS.sub (.consE 5 rfl rfl (.cons 0 rfl (.cons 1 rfl (.nil _)))), hD, hW, rfl⟩
   ·
    have h2_r := h2
    have h2 := lss_f h2
    refine rexit 0 ?_
    refine (pst_exit_pass (pst_exit_pass (pst_exit_block ?_)))
    refine pst_next ?_
    refine rqr ?_
    refine sp 1 [(4, .bool (true))] ?_
    refine se ?_
    refine rret ?_
    refine pst_ret1 (t := 4) [] (by kernel_rfl) rfl (List.Sublist.refl _) (Imm.le.refl _) ?_
    exact ⟨by rw [decide_eq_true (take_all hl ht (by omega))], rfl⟩

noncomputable def c_Seat_ct (p : List Nat) : Code := sub (bodyOf Tryd.f59) p
theorem Seat_ct (I : Imm) (a : Value) (xs : List Int) (n : Int) (a_f : IsInts I a xs) : CtV Tryd.prog 59 #[a, .int .i64 n] I (.int .i64 (seat xs n)) := by
 obtain ⟨a_a, a_c, a_b, a_o, a_e, a_l, a_m, a_r⟩ := id a_f
 subst a_e
 refine fn_of_run (fn := Tryd.f59) (args := [_, _]) (N := 19) Tryd.func59 rfl (by kernel_rfl) (Nat.le_of_ble_eq_true rfl) (fun F => ?_)
 show Run _ _ (c_Seat_ct []) _ _ [(0, .slice a_a xs.length a_c), (1, .int .i64 (n))] _ _
 refine rnm ?_
 refine rqr ?_
 refine sp 1 [(4, .int .i64 (0))] ?_
 refine se ?_
 refine rq ?_
 refine rqr ?_
 refine sp 1 [(5, .int .i64 (0))] ?_
 refine se ?_
 refine rb 0 ?_
 refine rl (fun mz a w => ∃ k : Nat, (k ≤ xs.length) ∧ (n ∉ xs.take k) ∧ Slots 19 [(5, .int .i64 ↑k), (0, .slice a_a xs.length a_c), (1, .int .i64 (n))] a ∧ a.defers = [] ∧ St I (F) w ∧ mz = xs.length - k) ?_ ?_
 ·intro a w hS hD hW
  exact ⟨_, 0, Nat.zero_le _, by simp, hS.sub (.cons 5 rfl (.cons 0 rfl (.cons 1 rfl (.nil _)))), hD, hW, rfl⟩
 ·rintro mz a w ⟨k, hk, hn, hS, hD, hW, rfl⟩
  refine run_at hS hD hW ?_
  clear hS hD hW a w
  refine rq ?_
  refine rqr ?_
  refine sp 4 [(9, .bool (cmp .lss (↑k) (↑(xs.length))))] ?_
  refine se ?_
  refine rc 9 rfl (fun h1 => ?_) (fun h1 => ?_)
  ·
   have h1_r := h1
   have h1 := lss_t h1
   refine rskip ?_
   refine pst_next ?_
   refine rq ?_
   refine rb 1 ?_
   refine rqr ?_
   refine sp 2 [(13, .int .i64 (↑k)), (12, .slice a_a xs.length a_c)] ?_
   refine sd (di 14 1 (k) a_r.addr) ?_
   refine sd (dl 15 (ints_get a_r (k) (by omega))) ?_
   refine sp 2 [(17, .bool (cmp .eql (xs.getD (k) 0) (n)))] ?_
   refine se ?_
   refine rc 17 rfl (fun h2 => ?_) (fun h2 => ?_)
   ·
    have h2_r := h2
    have h2 := eql_t h2
    refine rqr ?_
    refine sp 2 [(4, .int .i64 (↑k))] ?_
    refine se ?_
    refine rret ?_
    refine (pst_ret_block (pst_ret_pass (pst_ret_pass (pst_ret_block (pst_ret_pass ?_)))))
    refine pst_ret1 (t := 4) [] (by kernel_rfl) rfl (List.Sublist.refl _) (Imm.le.refl _) ?_
    exact ⟨by rw [seat_hit hn (by omega) (h2)], rfl⟩
   ·
    have h2_r := h2
    have h2 := eql_f h2
    refine rskip ?_
    refine pst_normal_block ?_
    refine pst_next ?_
    refine rr ?_
    refine sp 1 [(10, .int .i64 (↑k))] ?_
    refine sd (da 11 (↑k) (1)) ?_
    refine sp 1 [(5, .int .i64 (↑k + 1))] ?_
    refine ee ?_
    refine pst_back (xs.length - (k+1)) (by omega) ?_
    intro a w hS hD hW
    exact ⟨k+1, by omega, not_take_succ hn (by omega) (fun e => h2 e), hS.sub (.consE 5 rfl rfl (.cons 0 rfl (.cons 1 rfl (.nil _)))), hD, hW, rfl⟩
  ·
   have h1_r := h1
   have h1 := lss_f h1
   refine rexit 0 ?_
   refine (pst_exit_pass (pst_exit_pass (pst_exit_block ?_)))
   refine pst_next ?_
   refine rqr ?_
   refine sp 1 [(4, .int .i64 ((-1)))] ?_
   refine se ?_
   refine rret ?_
   refine pst_ret1 (t := 4) [] (by kernel_rfl) rfl (List.Sublist.refl _) (Imm.le.refl _) ?_
   exact ⟨by rw [seat_miss hn (by omega)], rfl⟩

noncomputable def c_Index_ct (p : List Nat) : Code := sub (bodyOf Tryd.f74) p
theorem Index_ct (I : Imm) (a : Value) (xs : List Int) (n : Int) (a_f : IsInts I a xs) : CtV Tryd.prog 74 #[a, .int .i64 n] I (.int .i64 (seat xs n)) := by
 obtain ⟨a_a, a_c, a_b, a_o, a_e, a_l, a_m, a_r⟩ := id a_f
 subst a_e
 refine fn_of_run (fn := Tryd.f74) (args := [_, _]) (N := 19) Tryd.func74 rfl (by kernel_rfl) (Nat.le_of_ble_eq_true rfl) (fun F => ?_)
 show Run _ _ (c_Index_ct []) _ _ [(0, .slice a_a xs.length a_c), (1, .int .i64 (n))] _ _
 refine rnm ?_
 refine rqr ?_
 refine sp 1 [(4, .int .i64 (0))] ?_
 refine se ?_
 refine rq ?_
 refine rqr ?_
 refine sp 3 [(8, .int .i64 (0)), (7, .int .i64 (↑(xs.length)))] ?_
 refine se ?_
 refine rb 0 ?_
 refine rl (fun mz a w => ∃ k : Nat, (k ≤ xs.length) ∧ (n ∉ xs.take k) ∧ Slots 19 [(8, .int .i64 ↑k), (0, .slice a_a xs.length a_c), (1, .int .i64 (n)), (7, .int .i64 (↑(xs.length)))] a ∧ a.defers = [] ∧ St I (F) w ∧ mz = xs.length - k) ?_ ?_
 ·intro a w hS hD hW
  exact ⟨_, 0, Nat.zero_le _, by simp, hS.sub (.cons 8 rfl (.cons 0 rfl (.cons 1 rfl (.cons 7 rfl (.nil _))))), hD, hW, rfl⟩
 ·rintro mz a w ⟨k, hk, hn, hS, hD, hW, rfl⟩
  refine run_at hS hD hW ?_
  clear hS hD hW a w
  refine rqr ?_
  refine sp 1 [(9, .bool (cmp .lss (↑k) (↑(xs.length))))] ?_
  refine se ?_
  refine rq ?_
  refine rc 9 rfl (fun h1 => ?_) (fun h1 => ?_)
  ·
   have h1_r := h1
   have h1 := lss_t h1
   refine rskip ?_
   refine pst_next ?_
   refine rq ?_
   refine rb 1 ?_
   refine rqr ?_
   refine sp 2 [(5, .int .i64 (↑k))] ?_
   refine sn ?_
   refine sp 3 [(13, .int .i64 (↑k)), (12, .slice a_a xs.length a_c), (11, .int .i64 (n))] ?_
   refine sd (di 14 1 (k) a_r.addr) ?_
   refine sd (dl 15 (ints_get a_r (k) (by omega))) ?_
   refine sp 1 [(16, .bool (cmp .eql (n) (xs.getD (k) 0)))] ?_
   refine se ?_
   refine rc 16 rfl (fun h2 => ?_) (fun h2 => ?_)
   ·
    have h2_r := h2
    have h2 := eql_t h2
    refine rqr ?_
    refine sp 2 [(4, .int .i64 (↑k))] ?_
    refine se ?_
    refine rret ?_
    refine (pst_ret_block (pst_ret_pass (pst_ret_pass (pst_ret_block (pst_ret_pass ?_)))))
    refine pst_ret1 (t := 4) [] (by kernel_rfl) rfl (List.Sublist.refl _) (Imm.le.refl _) ?_
    exact ⟨by rw [seat_hit hn (by omega) (h2.symm)], rfl⟩
   ·
    have h2_r := h2
    have h2 := eql_f h2
    refine rskip ?_
    refine pst_normal_block ?_
    refine pst_next ?_
    refine rr ?_
    refine sd (da 18 (↑k) (1)) ?_
    refine sp 1 [(8, .int .i64 (↑k + 1))] ?_
    refine ee ?_
    refine pst_back (xs.length - (k+1)) (by omega) ?_
    intro a w hS hD hW
    exact ⟨k+1, by omega, not_take_succ hn (by omega) (fun e => h2 e.symm), hS.sub (.consE 8 rfl rfl (.cons 0 rfl (.cons 1 rfl (.cons 7 rfl (.nil _))))), hD, hW, rfl⟩
  ·
   have h1_r := h1
   have h1 := lss_f h1
   refine rexit 0 ?_
   refine (pst_exit_pass (pst_exit_pass (pst_exit_block ?_)))
   refine pst_next ?_
   refine rqr ?_
   refine sp 1 [(4, .int .i64 ((-1)))] ?_
   refine se ?_
   refine rret ?_
   refine pst_ret1 (t := 4) [] (by kernel_rfl) rfl (List.Sublist.refl _) (Imm.le.refl _) ?_
   exact ⟨by rw [seat_miss hn (by omega)], rfl⟩

noncomputable def c_Contains (p : List Nat) : Code := sub (bodyOf Tryd.f57) p
theorem Contains_ct (I : Imm) (a : Value) (xs : List Int) (n : Int) (a_f : IsInts I a xs) : CtV Tryd.prog 57 #[a, .int .i64 n] I (.bool (decide (n ∈ xs))) := by
 obtain ⟨a_a, a_c, a_b, a_o, a_e, a_l, a_m, a_r⟩ := id a_f
 subst a_e
 refine fn_of_run (fn := Tryd.f57) (args := [_, _]) (N := 9) Tryd.func57 rfl (by kernel_rfl) (Nat.le_of_ble_eq_true rfl) (fun F => ?_)
 show Run _ _ (c_Contains []) _ _ [(0, .slice a_a xs.length a_c), (1, .int .i64 (n))] _ _
 refine rnm ?_
 refine rqr ?_
 refine sp 1 [(4, .bool (false))] ?_
 refine sn ?_
 refine sp 2 [(6, .int .i64 (n)), (5, .slice a_a xs.length a_c)] ?_
 refine sd (dc 7 (fun I' hI => (Index_ct I' _ _ (n) (a_f.mono hI) :))) ?_
 refine sp 2 [(4, .bool (cmp .geq ((seat xs n)) (0)))] ?_
 refine se ?_
 refine rret ?_
 refine pst_ret1 (t := 4) [] (by kernel_rfl) rfl (List.Sublist.refl _) (Imm.le.refl _) ?_
 exact ⟨by rw [seat_neg], rfl⟩

end Go.Proofs.YtcaocbhbofejnaaDoor
namespace Go.Proofs.YtcaocbhbofejnaaDoor
open Go Go.Sl Go.Sh
set_option maxRecDepth 100000
noncomputable def c_CloneInts_ct (p : List Nat) : Code := sub (bodyOf Tryd.f71) p
theorem CloneInts_ct (I : Imm) (a : Value) (xs : List Int) (a_f : IsInts I a xs) (hl : xs.length ≤ 1000000) : Ct Tryd.prog 71 #[a] I ([]) (fun v I' M' => ∃ u : Value, ∃ Ms : Seg, v = u ∧ M' = Ms ∧ Own 3 1 intCell u (xs) Ms) := by
 obtain ⟨a_a, a_c, a_b, a_o, a_e, a_l, a_m, a_r⟩ := id a_f
 subst a_e
 refine fn_of_run (fn := Tryd.f71) (args := [_]) (N := 8) Tryd.func71 rfl (by kernel_rfl) (Nat.le_of_ble_eq_true rfl) (fun F => ?_)
 show Run _ _ (c_CloneInts_ct []) _ _ [(0, .slice a_a xs.length a_c)] _ _
 refine rnm ?_
 refine rqr ?_
 refine sp 1 [(2, .slice none 0 0)] ?_
 refine se ?_
 refine rq ?_
 refine rqr ?_
 refine sp 1 [(3, .slice a_a xs.length a_c)] ?_
 refine sd (det_eqnil (e := 3) (x := (.tmp 3)) (y := (.const (.slice none 0 0))) (T := 22) (T' := 22) (d := 4) (ty := 4) (gd := none) (by kernel_rfl) rfl (by kernel_rfl) rfl rfl) ?_
 refine se ?_
 refine rc 4 rfl (fun h1 => ?_) (fun h1 => ?_)
 ·
  have h1_r := h1
  refine rqr ?_
  refine sp 1 [(2, .slice none 0 0)] ?_
  refine se ?_
  refine rret ?_
  refine (pst_ret_pass ?_)
  obtain rfl := a_r.nil h1
  refine pst_ret1 (t := 2) ([]) (by kernel_rfl) rfl (List.Sublist.refl _) (Imm.le.refl _) ?_
  exact ⟨_, _, rfl, rfl, Own.nil _ _ _⟩
 ·
  have h1_r := h1
  refine rskip ?_
  refine pst_next ?_
  refine rqr ?_
  refine sS (sbs 5 3 0 #[] (fun b1 => ?_))
  refine sp 1 [(6, .slice a_a xs.length a_c)] ?_
  have ho3 : Own 3 1 intCell (.slice (some ⟨b1, 0, none⟩) 0 0) ([] : List Int) [(b1, Obj.cells #[] 3 (0, 0))] := Own.lit rfl rfl
  refine sS (stp_append (d := 7) (x := (.tmp 5)) (y := (.tmp 6)) (T := 22) (T' := 22) (E := 3) (E' := 3) (sz := 1) (bs := 8) (z := .int .i64 (0)) (cell := intCell) (xs := ([] : List Int)) (ys := xs) (Ms := [(b1, Obj.cells #[] 3 (0, 0))]) (ty := 22) (gd := none) (by kernel_rfl) rfl (by kernel_rfl) (by kernel_rfl) (by kernel_rfl) (by kernel_rfl) (by kernel_rfl) (by decide) (by kernel_rfl) rfl rfl (ho3) (List.Perm.refl _) (one_intCell _) a_f.src (by first | omega | (simp only [List.length_cons, List.length_nil, List.length_append, List.length_take, List.length_drop]; omega)) (fun v4 Ms4 ho4 => ?_))
  rw [List.nil_append] at ho4
  refine nm ?_
  obtain ⟨oa4, oc4, oe4, ol4⟩ := ho4.shape
  subst oe4
  show Seq _ _ _ _ _ _ ((7, .slice oa4 xs.length oc4) :: _) _ _
  refine sp 1 [(2, .slice oa4 xs.length oc4)] ?_
  refine se ?_
  refine rret ?_
  refine pst_ret1 (t := 2) (Ms4) (by kernel_rfl) rfl (List.Sublist.append_left (List.Sublist.refl _) _) (Imm.le.refl _) ?_
  exact ⟨_, _, rfl, rfl, ho4⟩

noncomputable def c_CloneCars_ct (p : List Nat) : Code := sub (bodyOf Tryd.f70) p
theorem CloneCars_ct (I : Imm) (a : Value) (xs : List Car) (a_f : IsCars I a xs) (hl : xs.length ≤ 1000000) : Ct Tryd.prog 70 #[a] I ([]) (fun v I' M' => ∃ u : Value, ∃ Ms : Seg, v = u ∧ M' = Ms ∧ Own 40 6 carCell u (xs) Ms) := by
 obtain ⟨a_a, a_c, a_b, a_o, a_e, a_l, a_m, a_r⟩ := id a_f
 subst a_e
 refine fn_of_run (fn := Tryd.f70) (args := [_]) (N := 8) Tryd.func70 rfl (by kernel_rfl) (Nat.le_of_ble_eq_true rfl) (fun F => ?_)
 show Run _ _ (c_CloneCars_ct []) _ _ [(0, .slice a_a xs.length a_c)] _ _
 refine rnm ?_
 refine rqr ?_
 refine sp 1 [(2, .slice none 0 0)] ?_
 refine se ?_
 refine rq ?_
 refine rqr ?_
 refine sp 1 [(3, .slice a_a xs.length a_c)] ?_
 refine sd (det_eqnil (e := 40) (x := (.tmp 3)) (y := (.const (.slice none 0 0))) (T := 23) (T' := 23) (d := 4) (ty := 4) (gd := none) (by kernel_rfl) rfl (by kernel_rfl) rfl rfl) ?_
 refine se ?_
 refine rc 4 rfl (fun h1 => ?_) (fun h1 => ?_)
 ·
  have h1_r := h1
  refine rqr ?_
  refine sp 1 [(2, .slice none 0 0)] ?_
  refine se ?_
  refine rret ?_
  refine (pst_ret_pass ?_)
  obtain rfl := a_r.nil h1
  refine pst_ret1 (t := 2) ([]) (by kernel_rfl) rfl (List.Sublist.refl _) (Imm.le.refl _) ?_
  exact ⟨_, _, rfl, rfl, Own.nil _ _ _⟩
 ·
  have h1_r := h1
  refine rskip ?_
  refine pst_next ?_
  refine rqr ?_
  refine sS (sbs 5 40 0 #[] (fun b1 => ?_))
  refine sp 1 [(6, .slice a_a xs.length a_c)] ?_
  have ho3 : Own 40 6 carCell (.slice (some ⟨b1, 0, none⟩) 0 0) ([] : List Car) [(b1, Obj.cells #[] 40 (0, 0))] := Own.lit rfl rfl
  refine sS (stp_append (d := 7) (x := (.tmp 5)) (y := (.tmp 6)) (T := 23) (T' := 23) (E := 40) (E' := 40) (sz := 6) (bs := 40) (z := .agg #[.int .i64 (0), .int .i64 (0), .int .i64 (0), .int .i64 (0), .bool (false), .bool (false)]) (cell := carCell) (xs := ([] : List Car)) (ys := xs) (Ms := [(b1, Obj.cells #[] 40 (0, 0))]) (ty := 23) (gd := none) (by kernel_rfl) rfl (by kernel_rfl) (by kernel_rfl) (by kernel_rfl) (by kernel_rfl) (by kernel_rfl) (by decide) (by kernel_rfl) rfl rfl (ho3) (List.Perm.refl _) (one_carCell _) a_f.src (by first | omega | (simp only [List.length_cons, List.length_nil, List.length_append, List.length_take, List.length_drop]; omega)) (fun v4 Ms4 ho4 => ?_))
  rw [List.nil_append] at ho4
  refine nm ?_
  obtain ⟨oa4, oc4, oe4, ol4⟩ := ho4.shape
  subst oe4
  show Seq _ _ _ _ _ _ ((7, .slice oa4 xs.length oc4) :: _) _ _
  refine sp 1 [(2, .slice oa4 xs.length oc4)] ?_
  refine se ?_
  refine rret ?_
  refine pst_ret1 (t := 2) (Ms4) (by kernel_rfl) rfl (List.Sublist.append_left (List.Sublist.refl _) _) (Imm.le.refl _) ?_
  exact ⟨_, _, rfl, rfl, ho4⟩

noncomputable def c_CopyInts (p : List Nat) : Code := sub (bodyOf Tryd.f41) p
theorem CopyInts_ct (I : Imm) (a : Value) (xs : List Int) (a_f : IsInts I a xs) (hl : xs.length ≤ 1000000) : Ct Tryd.prog 41 #[a] I ([]) (fun v I' M' => ∃ u : Value, ∃ Ms : Seg, v = u ∧ M' = Ms ∧ Own 3 1 intCell u (xs) Ms) := by
 obtain ⟨a_a, a_c, a_b, a_o, a_e, a_l, a_m, a_r⟩ := id a_f
 subst a_e
 refine fn_of_run (fn := Tryd.f41) (args := [_]) (N := 6) Tryd.func41 rfl (by kernel_rfl) (Nat.le_of_ble_eq_true rfl) (fun F => ?_)
 show Run _ _ (c_CopyInts []) _ _ [(0, .slice a_a xs.length a_c)] _ _
 refine rnm ?_
 refine rqr ?_
 refine sp 1 [(2, .slice none 0 0)] ?_
 refine sn ?_
 refine sS (sbs 3 3 0 #[] (fun b1 => ?_))
 refine sp 1 [(4, .slice a_a xs.length a_c)] ?_
 have ho3 : Own 3 1 intCell (.slice (some ⟨b1, 0, none⟩) 0 0) ([] : List Int) [(b1, Obj.cells #[] 3 (0, 0))] := Own.lit rfl rfl
 refine sS (stp_append (d := 5) (x := (.tmp 3)) (y := (.tmp 4)) (T := 22) (T' := 22) (E := 3) (E' := 3) (sz := 1) (bs := 8) (z := .int .i64 (0)) (cell := intCell) (xs := ([] : List Int)) (ys := xs) (Ms := [(b1, Obj.cells #[] 3 (0, 0))]) (ty := 22) (gd := none) (by kernel_rfl) rfl (by kernel_rfl) (by kernel_rfl) (by kernel_rfl) (by kernel_rfl) (by kernel_rfl) (by decide) (by kernel_rfl) rfl rfl (ho3) (List.Perm.refl _) (one_intCell _) a_f.src (by first | omega | (simp only [List.length_cons, List.length_nil, List.length_append, List.length_take, List.length_drop]; omega)) (fun v4 Ms4 ho4 => ?_))
 rw [List.nil_append] at ho4
 refine nm ?_
 obtain ⟨oa4, oc4, oe4, ol4⟩ := ho4.shape
 subst oe4
 show Seq _ _ _ _ _ _ ((5, .slice oa4 xs.length oc4) :: _) _ _
 refine sp 1 [(2, .slice oa4 xs.length oc4)] ?_
 refine se ?_
 refine rret ?_
 refine pst_ret1 (t := 2) (Ms4) (by kernel_rfl) rfl (List.Sublist.append_left (List.Sublist.refl _) _) (Imm.le.refl _) ?_
 exact ⟨_, _, rfl, rfl, ho4⟩

noncomputable def c_CopyRows (p : List Nat) : Code := sub (bodyOf Tryd.f42) p
theorem CopyRows_ct (I : Imm) (a : Value) (xs : List (List Int)) (a_f : IsRows I a xs) (hl : xs.length ≤ 1000000) (hls : ∀ x ∈ xs, x.length ≤ 1000000) : Ct Tryd.prog 42 #[a] I ([]) (fun v I' M' => ∃ u : Value, ∃ ws : List Value, ∃ Ms : Seg, v = u ∧ M' = Ms ∧ Own 22 1 valCell u ws Ms ∧ RowsV I' ws (xs)) := by
 obtain ⟨a_a, a_c, a_b, a_o, a_vs, a_e, a_l, a_m, a_r, a_w⟩ := id a_f
 subst a_e
 refine fn_of_run (fn := Tryd.f42) (args := [_]) (N := 20) Tryd.func42 rfl (by kernel_rfl) (Nat.le_of_ble_eq_true rfl) (fun F => ?_)
 show Run _ _ (c_CopyRows []) _ _ [(0, .slice a_a xs.length a_c)] _ _
 refine rnm ?_
 refine rqr ?_
 refine sp 1 [(2, .slice none 0 0)] ?_
 refine sn ?_
 refine sp 1 [(3, .slice none 0 0)] ?_
 refine se ?_
 refine rq ?_
 refine rqr ?_
 refine sp 1 [(4, .int .i64 (0))] ?_
 refine se ?_
 refine rb 0 ?_
 refine rl (fun mz a w => ∃ J0 : Imm, ∃ k : Nat, ∃ ov0_3 : Value, ∃ oM0_3 : Seg, ∃ ow0_3 : List Value, (I.le J0) ∧ (k ≤ xs.length) ∧ (RowsV J0 ow0_3 (xs.take k)) ∧ (Own 22 1 valCell ov0_3 (ow0_3) oM0_3) ∧ Slots 20 [(3, ov0_3), (4, .int .i64 ↑k), (0, .slice a_a xs.length a_c), (2, .slice none 0 0)] a ∧ a.defers = [] ∧ St J0 ((oM0_3 ++ F)) w ∧ mz = xs.length - k) ?_ ?_
 ·intro a w hS hD hW
  exact ⟨_, I, 0, (.slice none 0 0), [], [], Imm.le.refl _, Nat.zero_le _, (RowsV.nil _), (Own.nil _ _ _), hS.sub (.cons 3 rfl (.cons 4 rfl (.cons 0 rfl (.cons 2 rfl (.nil _))))), hD, hW, rfl⟩
 ·rintro mz a w ⟨J0, k, ov0_3, oM0_3, ow0_3, hJ0, hk, or0_3, oh0_3, hS, hD, hW, rfl⟩
  refine run_at hS hD hW ?_
  clear hS hD hW a w
  replace a_r := a_r.mono hJ0
  replace a_w := fun i hi => (a_w i hi).mono hJ0
  obtain ⟨ov0_3_a, ov0_3_c, ov0_3_e, ov0_3_l⟩ := oh0_3.shape; subst ov0_3_e
  have or0_3_len := or0_3.1
  try simp only [List.length_set, List.length_append, List.length_cons, List.length_nil, List.length_take] at or0_3_len
  refine rq ?_
  refine rqr ?_
  refine sp 4 [(8, .bool (cmp .lss (↑k) (↑(xs.length))))] ?_
  refine se ?_
  refine rc 8 rfl (fun h1 => ?_) (fun h1 => ?_)
  ·
   have h1_r := h1
   have h1 := lss_t h1
   refine rskip ?_
   refine pst_next ?_
   refine rq ?_
   refine rb 1 ?_
   refine rr ?_
   refine sp 3 [(13, .int .i64 (↑k)), (12, .slice a_a xs.length a_c), (11, .slice ov0_3_a ow0_3.length ov0_3_c)] ?_
   refine sd (di 14 1 (k) a_r.addr) ?_
   have r1_f := a_w (k) (by omega)
   obtain ⟨r1_a, r1_c, r1_b, r1_o, r1_e, r1_l, r1_m, r1_r⟩ := id r1_f
   rw [r1_e] at r1_f
   refine sd (det_eq (dl 15 (rows_get a_r (k) (by omega))) r1_e) ?_
   refine sS (sc (some 16) (F := ((oM0_3 ++ F))) (CopyInts_ct _ _ _ r1_f (by exact hls _ (getD_mem (by omega))) :) (.refl _) (fun rv10 I2 rm11 hle3 hp4 => ?_))
   obtain ⟨u7, Ms8, hv5, hm6, qh9⟩ := hp4
   rw [hv5, hm6]; clear hv5 hm6
   replace or0_3 := or0_3.mono hle3
   obtain ⟨u7_a, u7_c, u7_e, u7_l⟩ := qh9.shape
   subst u7_e
   refine nm ?_
   show Seq _ _ _ _ _ _ ((16, .slice u7_a ((xs.getD (k) [])).length u7_c) :: _) _ _
   refine sfz 0 qh9 (.refl _) (fun I12 hle13 fz14_f => ?_)
   replace or0_3 := or0_3.mono hle13
   obtain ⟨fz14_a, fz14_c, fz14_b, fz14_o, fz14_e, fz14_l, fz14_m, fz14_r⟩ := id fz14_f
   cases fz14_e
   refine sS (sbs 17 22 1 #[.slice u7_a ((xs.getD (k) [])).length u7_c] (fun b15 => ?_))
   refine sS (stp_append (d := 18) (x := (.tmp 11)) (y := (.tmp 17)) (T := 24) (T' := 24) (E := 22) (E' := 22) (sz := 1) (bs := 24) (z := .slice none 0 0) (cell := valCell) (xs := ow0_3) (ys := [(.slice u7_a ((xs.getD (k) [])).length u7_c : Value)]) (Ms := oM0_3) (ty := 24) (gd := none) (by kernel_rfl) rfl (by kernel_rfl) (by kernel_rfl) (by kernel_rfl) (by kernel_rfl) (by kernel_rfl) (by decide) (by kernel_rfl) rfl rfl (oh0_3) (List.perm_middle.symm) (one_valCell rfl) (src_atS 0 rfl rfl) (by first | omega | (have hq := or0_3.1; simp only [List.length_cons, List.length_nil, List.length_append, List.length_take, List.length_drop] at hq ⊢; omega)) (fun v17 Ms17 ho17 => ?_))
   refine seq_mem (M' := ((Ms17 ++ F))) (fun w h => (h.perm List.perm_middle).sub (List.Sublist.cons _ (List.Sublist.refl _))) ?_
   obtain ⟨oa17, oc17, oe17, ol17⟩ := ho17.shape
   subst oe17
   show Seq _ _ _ _ _ _ ((18, .slice oa17 (ow0_3 ++ ([(.slice u7_a ((xs.getD (k) [])).length u7_c : Value)])).length oc17) :: _) _ _
   have orw18 := (or0_3).snoc fz14_f
   refine sp 1 [(3, .slice oa17 (ow0_3 ++ ([(.slice u7_a ((xs.getD (k) [])).length u7_c : Value)])).length oc17)] ?_
   refine ee ?_
   refine pst_normal_block ?_
   refine pst_next ?_
   refine rr ?_
   refine sp 1 [(9, .int .i64 (↑k))] ?_
   refine sd (da 10 (↑k) (1)) ?_
   refine sp 1 [(4, .int .i64 (↑k + 1))] ?_
   refine ee ?_
   refine pst_back (xs.length - (k+1)) (by omega) ?_
   intro a w hS hD hW
   exact ⟨I12, k+1, .slice oa17 (ow0_3 ++ ([(.slice u7_a ((xs.getD (k) [])).length u7_c : Value)])).length oc17, Ms17, ow0_3 ++ ([(.slice u7_a ((xs.getD (k) [])).length u7_c : Value)]), (Imm.le.trans (Imm.le.trans hJ0 hle3) hle13), by omega, ((take_snoc (d := []) (xs := xs) (k := k) (by omega)).symm ▸ orw18), ho17, hS.sub (.consE 3 rfl rfl (.consE 4 rfl rfl (.cons 0 rfl (.cons 2 rfl (.nil _))))), hD, hW, rfl⟩
  ·
   have h1_r := h1
   have h1 := lss_f h1
   refine rexit 0 ?_
   refine (pst_exit_pass (pst_exit_pass (pst_exit_block ?_)))
   refine pst_next ?_
   refine rqr ?_
   refine sp 2 [(2, .slice ov0_3_a ow0_3.length ov0_3_c)] ?_
   refine se ?_
   refine rret ?_
   refine pst_ret1 (t := 2) (oM0_3) (by kernel_rfl) rfl (List.Sublist.append_left (List.Sublist.refl _) _) hJ0 ?_
   exact ⟨_, _, _, rfl, rfl, oh0_3, ((take_done (xs := xs) (k := k) (by omega)) ▸ or0_3)⟩

noncomputable def c_CopyYard (p : List Nat) : Code := sub (bodyOf Tryd.f12) p
theorem CopyYard_ct (I : Imm) (y : Value) (Y : Yard) (y_f : IsYard I y Y) (h1 : Y.cars.length ≤ 1000000) (h2 : Y.room.length ≤ 1000000) (h3 : Y.tracks.length ≤ 1000000) (h4 : ∀ x ∈ Y.tracks, x.length ≤ 1000000) : Ct Tryd.prog 12 #[y] I ([]) (fun v I' M' => ∃ u_0 : Value, ∃ Ms_0 : Seg, ∃ u_1 : Value, ∃ Ms_1 : Seg, ∃ u_2 : Value, ∃ ws_2 : List Value, ∃ Ms_2 : Seg, v = .agg #[u_0, u_1, u_2] ∧ M' = Ms_0 ++ (Ms_1 ++ (Ms_2)) ∧ Own 40 6 carCell u_0 ((Y).cars) Ms_0 ∧ Own 3 1 intCell u_1 ((Y).room) Ms_1 ∧ Own 22 1 valCell u_2 ws_2 Ms_2 ∧ RowsV I' ws_2 ((Y).tracks)) := by
 obtain ⟨y1, y2, y3, y_e, y1_f, y2_f, y3_f⟩ := id y_f
 subst y_e
 obtain ⟨y1_a, y1_c, y1_b, y1_o, y1_e, y1_l, y1_m, y1_r⟩ := id y1_f
 subst y1_e
 obtain ⟨y2_a, y2_c, y2_b, y2_o, y2_e, y2_l, y2_m, y2_r⟩ := id y2_f
 subst y2_e
 obtain ⟨y3_a, y3_c, y3_b, y3_o, y3_vs, y3_e, y3_l, y3_m, y3_r, y3_w⟩ := id y3_f
 subst y3_e
 refine fn_of_run (fn := Tryd.f12) (args := [_]) (N := 17) Tryd.func12 rfl (by kernel_rfl) (Nat.le_of_ble_eq_true rfl) (fun F => ?_)
 show Run _ _ (c_CopyYard []) _ _ [(0, .agg #[.slice y1_a Y.cars.length y1_c, .slice y2_a Y.room.length y2_c, .slice y3_a Y.tracks.length y3_c])] _ _
 refine rnm ?_
 refine rqr ?_
 refine sS (sb 1 26 #[.slice y1_a Y.cars.length y1_c, .slice y2_a Y.room.length y2_c, .slice y3_a Y.tracks.length y3_c] (fun b1 => ?_))
 refine sS (sal 2 26 #[.slice none 0 0, .slice none 0 0, .slice none 0 0] (fun b3 => ?_))
 refine se ?_
 refine rq ?_
 refine rd 11 [(1, true), (2, true), (4, true), (5, true), (7, true), (8, true), (0, false), (3, false), (10, true), (6, false), (9, false)] ((b3, Obj.cells #[.slice none 0 0, .slice none 0 0, .slice none 0 0] 26 (0, 0)) :: (b1, Obj.cells #[.slice y1_a Y.cars.length y1_c, .slice y2_a Y.room.length y2_c, .slice y3_a Y.tracks.length y3_c] 26 (0, 0)) :: []) (F) ?_
 refine ox 1 [(4, .pointer (some ⟨b1, 0, none⟩))] ?_
 refine ofp_det (dlb 5 1 0 b1 (.slice y1_a Y.cars.length y1_c)) ?_
 refine ox 1 [(7, .pointer (some ⟨b1, 1, none⟩))] ?_
 refine ofp_det (dlb 8 1 1 b1 (.slice y2_a Y.room.length y2_c)) ?_
 refine ox 1 [(10, .pointer (some ⟨b1, 2, none⟩))] ?_
 refine ofp_det (dlb 11 1 2 b1 (.slice y3_a Y.tracks.length y3_c)) ?_
 refine ofp_stp (sbs 3 40 0 #[] (fun b5 => ?_))
 refine ofp_settle (S' := ((b5, Obj.cells #[] 40 (0, 0)) :: F)) ((List.Perm.swap _ _ _).trans (List.Perm.cons _ (List.Perm.swap _ _ _))) ?_
 have ho7 : Own 40 6 carCell (.slice (some ⟨b5, 0, none⟩) 0 0) ([] : List Car) [(b5, Obj.cells #[] 40 (0, 0))] := Own.lit rfl rfl
 refine ofp_stp (stp_append (d := 6) (x := (.tmp 3)) (y := (.tmp 5)) (T := 23) (T' := 23) (E := 40) (E' := 40) (sz := 6) (bs := 40) (z := .agg #[.int .i64 (0), .int .i64 (0), .int .i64 (0), .int .i64 (0), .bool (false), .bool (false)]) (cell := carCell) (xs := ([] : List Car)) (ys := Y.cars) (Ms := [(b5, Obj.cells #[] 40 (0, 0))]) (ty := 23) (gd := none) (by kernel_rfl) rfl (by kernel_rfl) (by kernel_rfl) (by kernel_rfl) (by kernel_rfl) (by kernel_rfl) (by decide) (by kernel_rfl) rfl rfl (ho7) ((List.Perm.cons _ (List.Perm.swap _ _ _)).trans (List.Perm.swap _ _ _)) (one_carCell _) y1_f.src (by first | omega | (simp only [List.length_cons, List.length_nil, List.length_append, List.length_take, List.length_drop]; omega)) (fun v8 Ms8 ho8 => ?_))
 rw [List.nil_append] at ho8
 refine ofp_settle (S' := ((Ms8 ++ F))) (List.perm_middle.trans (List.Perm.cons _ List.perm_middle)) ?_
 obtain ⟨oa8, oc8, oe8, ol8⟩ := ho8.shape
 subst oe8
 show OFP _ _ _ _ _ _ ((6, .slice oa8 Y.cars.length oc8) :: _) _ _
 refine ox 1 [(13, .pointer (some ⟨b1, 0, none⟩))] ?_
 refine ofp_stp (sc (some 9) (F := ((b3, Obj.cells #[.slice none 0 0, .slice none 0 0, .slice none 0 0] 26 (0, 0)) :: (b1, Obj.cells #[.slice y1_a Y.cars.length y1_c, .slice y2_a Y.room.length y2_c, .slice y3_a Y.tracks.length y3_c] 26 (0, 0)) :: (Ms8 ++ F))) (CopyInts_ct _ _ _ y2_f (by omega) :) (List.Perm.refl _) (fun rv17 I9 rm18 hle10 hp11 => ?_))
 obtain ⟨u14, Ms15, hv12, hm13, qh16⟩ := hp11
 rw [hv12, hm13]; clear hv12 hm13
 replace y3_f := y3_f.mono hle10
 obtain ⟨u14_a, u14_c, u14_e, u14_l⟩ := qh16.shape
 subst u14_e
 refine ofp_settle (S' := ((Ms15 ++ (Ms8 ++ F)))) (List.perm_middle.trans (List.Perm.cons _ List.perm_middle)) ?_
 show OFP _ _ _ _ _ _ ((9, .slice u14_a Y.room.length u14_c) :: _) _ _
 refine ofp_stp (sc (some 12) (F := ((b3, Obj.cells #[.slice none 0 0, .slice none 0 0, .slice none 0 0] 26 (0, 0)) :: (b1, Obj.cells #[.slice y1_a Y.cars.length y1_c, .slice y2_a Y.room.length y2_c, .slice y3_a Y.tracks.length y3_c] 26 (0, 0)) :: (Ms15 ++ (Ms8 ++ F)))) (CopyRows_ct _ _ _ y3_f (by omega) (by assumption) :) (List.Perm.refl _) (fun rv29 I19 rm30 hle20 hp21 => ?_))
 obtain ⟨u24, ws25, Ms26, hv22, hm23, qh27, qr28⟩ := hp21
 rw [hv22, hm23]; clear hv22 hm23
 obtain ⟨u24_a, u24_c, u24_e, u24_l⟩ := qh27.shape
 subst u24_e
 have qr28_len := qr28.1
 try simp only [List.length_set, List.length_append, List.length_cons, List.length_nil, List.length_take] at qr28_len
 refine ofp_settle (S' := ((Ms26 ++ (Ms15 ++ (Ms8 ++ F))))) (List.perm_middle.trans (List.Perm.cons _ List.perm_middle)) ?_
 show OFP _ _ _ _ _ _ ((12, .slice u24_a ws25.length u24_c) :: _) _ _
 refine ofp_end ?_
 refine nm ?_
 refine nm ?_
 refine sS (ss 1 0 b1 [.slice oa8 Y.cars.length oc8] [.slice oa8 Y.cars.length oc8, .slice y2_a Y.room.length y2_c, .slice y3_a Y.tracks.length y3_c] (_ :: _ :: _) (cs := [_, _, _]) rfl rfl ?_)
 refine sp 1 [(14, .pointer (some ⟨b1, 1, none⟩))] ?_
 refine sS (ss 1 1 b1 [.slice u14_a Y.room.length u14_c] [.slice oa8 Y.cars.length oc8, .slice u14_a Y.room.length u14_c, .slice y3_a Y.tracks.length y3_c] (_ :: _ :: _) (cs := [_, _, _]) rfl rfl ?_)
 refine sp 1 [(15, .pointer (some ⟨b1, 2, none⟩))] ?_
 refine sS (ss 1 2 b1 [.slice u24_a ws25.length u24_c] [.slice oa8 Y.cars.length oc8, .slice u14_a Y.room.length u14_c, .slice u24_a ws25.length u24_c] (_ :: _ :: _) (cs := [_, _, _]) rfl rfl ?_)
 refine sn ?_
 refine sd (dnb 16 1 0 b1 [.slice oa8 Y.cars.length oc8, .slice u14_a Y.room.length u14_c, .slice u24_a ws25.length u24_c]) ?_
 refine sS (ss 0 0 b3 [.slice oa8 Y.cars.length oc8, .slice u14_a Y.room.length u14_c, .slice u24_a ws25.length u24_c] [.slice oa8 Y.cars.length oc8, .slice u14_a Y.room.length u14_c, .slice u24_a ws25.length u24_c] (_ :: _ :: _) (cs := [_, _, _]) rfl rfl ?_)
 refine se ?_
 refine rret ?_
 refine ppm (M' := ((Ms8 ++ (Ms15 ++ (Ms26 ++ (b3, Obj.cells #[.slice oa8 Y.cars.length oc8, .slice u14_a Y.room.length u14_c, .slice u24_a ws25.length u24_c] 26 (0, 0)) :: (b1, Obj.cells #[.slice oa8 Y.cars.length oc8, .slice u14_a Y.room.length u14_c, .slice u24_a ws25.length u24_c] 26 (0, 0)) :: F))))) (((List.Perm.cons _ ((List.Perm.cons _ ((List.Perm.append_left _ (List.perm_append_comm_assoc _ _ _)).trans (List.perm_append_comm_assoc _ _ _))).trans (List.perm_middle.symm))).trans (List.perm_middle.symm)).trans (List.Perm.append_left _ (((List.Perm.cons _ ((List.Perm.cons _ (List.perm_append_comm_assoc _ _ _)).trans (List.perm_middle.symm))).trans (List.perm_middle.symm)).trans (List.Perm.append_left _ ((List.Perm.cons _ (List.perm_middle.symm)).trans (List.perm_middle.symm)))))) ?_
 refine pst_retC1 (t := 2) (T := 26) (n := 3) (Ms8 ++ (Ms15 ++ (Ms26))) (by kernel_rfl) rfl (by kernel_rfl) rfl (seesN_mem (n := 3) (cs := #[.slice oa8 Y.cars.length oc8, .slice u14_a Y.room.length u14_c, .slice u24_a ws25.length u24_c]) (b := b3) (off := 0) (T := 26) (fz := (0, 0)) (vs := [.slice oa8 Y.cars.length oc8, .slice u14_a Y.room.length u14_c, .slice u24_a ws25.length u24_c]) (by simp) rfl) (.inl ⟨by kernel_rfl, rfl⟩) (by simp only [List.append_assoc, List.nil_append, List.cons_append]; exact (List.Sublist.append_left (List.Sublist.append_left (List.Sublist.append_left (List.Sublist.cons _ (List.Sublist.cons _ (List.Sublist.refl _))) _) _) _)) (Imm.le.trans hle10 hle20) ?_
 exact ⟨_, _, _, _, _, _, _, rfl, rfl, ho8, qh16, qh27, qr28⟩

end Go.Proofs.YtcaocbhbofejnaaDoor
namespace Go.Proofs.YtcaocbhbofejnaaDoor
open Go Go.Sl Go.Sh
set_option maxRecDepth 100000
noncomputable def c_next (p : List Nat) : Code := sub (bodyOf Tryd.f48) p
theorem next_ct (I : Imm) (p : Nat) (p_s : Int) : Ct Tryd.prog 48 #[.pointer (some ⟨p, 0, none⟩)] I ([(p, Obj.cells #[.int .u64 (p_s)] 65 (0, 0))]) (fun v I' M' => ∃ p_t : Int, ∃ r : Int, v = .int .u64 (r) ∧ M' = [(p, Obj.cells #[.int .u64 (p_t)] 65 (0, 0))] ∧ (0 ≤ r ∧ r ≤ 18446744073709551615)) := by
 refine fn_of_run (fn := Tryd.f48) (args := [_]) (N := 29) Tryd.func48 rfl (by kernel_rfl) (Nat.le_of_ble_eq_true rfl) (fun F => ?_)
 show Run _ _ (c_next []) _ _ [(0, .pointer (some ⟨p, 0, none⟩))] _ _
 refine rnm ?_
 refine rqr ?_
 refine sp 1 [(2, .int .u64 (0))] ?_
 refine sn ?_
 refine sp 4 [(7, .pointer (some ⟨p, 0, none⟩)), (4, .pointer (some ⟨p, 0, none⟩))] ?_
 refine sd (dlb 8 0 0 p (.int .u64 (p_s))) ?_
 refine sp 4 [(12, .pointer (some ⟨p, 0, none⟩)), (10, .int .u64 (IntKind.u64.wrap (arith .add (IntKind.u64.wrap (arith .mul (p_s) (2862933555777941757))) (3037000493))))] ?_
 refine sS (ss 0 0 p [.int .u64 (IntKind.u64.wrap (arith .add (IntKind.u64.wrap (arith .mul (p_s) (2862933555777941757))) (3037000493)))] [.int .u64 (IntKind.u64.wrap (arith .add (IntKind.u64.wrap (arith .mul (p_s) (2862933555777941757))) (3037000493)))] (_ :: _) (cs := [_]) rfl rfl ?_)
 refine se ?_
 refine rq ?_
 refine rd0 9 ?_
 refine ox 3 [(15, .pointer (some ⟨p, 0, none⟩))] ?_
 refine ofp_det (dlb 16 0 0 p (.int .u64 (IntKind.u64.wrap (arith .add (IntKind.u64.wrap (arith .mul (p_s) (2862933555777941757))) (3037000493))))) ?_
 refine ox 3 [(19, .pointer (some ⟨p, 0, none⟩))] ?_
 refine ofp_det (dlb 20 0 0 p (.int .u64 (IntKind.u64.wrap (arith .add (IntKind.u64.wrap (arith .mul (p_s) (2862933555777941757))) (3037000493))))) ?_
 refine ofp_det (det_shr (x := (.tmp 20)) (y := (.const (.int .u64 31))) (T := 63) (T' := 66) (d := 21) (ty := 63) (gd := none) (by kernel_rfl) rfl rfl rfl (by omega)) ?_
 refine ofp_end0 ?_
 refine sp 2 [(3, .int .u64 (IntKind.u64.wrap (BitVec.ofInt IntKind.u64.bits (IntKind.u64.wrap (arith .add (IntKind.u64.wrap (arith .mul (p_s) (2862933555777941757))) (3037000493))) ^^^ BitVec.ofInt IntKind.u64.bits ((IntKind.u64.wrap (arith .add (IntKind.u64.wrap (arith .mul (p_s) (2862933555777941757))) (3037000493))).fdiv (2 ^ (min (31 : Int).toNat IntKind.u64.bits)))).toNat))] ?_
 refine sn ?_
 refine sp 3 [(3, .int .u64 (IntKind.u64.wrap (arith .mul (IntKind.u64.wrap (BitVec.ofInt IntKind.u64.bits (IntKind.u64.wrap (arith .add (IntKind.u64.wrap (arith .mul (p_s) (2862933555777941757))) (3037000493))) ^^^ BitVec.ofInt IntKind.u64.bits ((IntKind.u64.wrap (arith .add (IntKind.u64.wrap (arith .mul (p_s) (2862933555777941757))) (3037000493))).fdiv (2 ^ (min (31 : Int).toNat IntKind.u64.bits)))).toNat) (10723151780598845931))))] ?_
 refine sn ?_
 refine sp 2 [(26, .int .u64 (IntKind.u64.wrap (arith .mul (IntKind.u64.wrap (BitVec.ofInt IntKind.u64.bits (IntKind.u64.wrap (arith .add (IntKind.u64.wrap (arith .mul (p_s) (2862933555777941757))) (3037000493))) ^^^ BitVec.ofInt IntKind.u64.bits ((IntKind.u64.wrap (arith .add (IntKind.u64.wrap (arith .mul (p_s) (2862933555777941757))) (3037000493))).fdiv (2 ^ (min (31 : Int).toNat IntKind.u64.bits)))).toNat) (10723151780598845931)))), (25, .int .u64 (IntKind.u64.wrap (arith .mul (IntKind.u64.wrap (BitVec.ofInt IntKind.u64.bits (IntKind.u64.wrap (arith .add (IntKind.u64.wrap (arith .mul (p_s) (2862933555777941757))) (3037000493))) ^^^ BitVec.ofInt IntKind.u64.bits ((IntKind.u64.wrap (arith .add (IntKind.u64.wrap (arith .mul (p_s) (2862933555777941757))) (3037000493))).fdiv (2 ^ (min (31 : Int).toNat IntKind.u64.bits)))).toNat) (10723151780598845931))))] ?_
 refine sd (det_shr (x := (.tmp 26)) (y := (.const (.int .u64 30))) (T := 63) (T' := 66) (d := 27) (ty := 63) (gd := none) (by kernel_rfl) rfl rfl rfl (by omega)) ?_
 refine sp 2 [(2, .int .u64 (IntKind.u64.wrap (BitVec.ofInt IntKind.u64.bits (IntKind.u64.wrap (arith .mul (IntKind.u64.wrap (BitVec.ofInt IntKind.u64.bits (IntKind.u64.wrap (arith .add (IntKind.u64.wrap (arith .mul (p_s) (2862933555777941757))) (3037000493))) ^^^ BitVec.ofInt IntKind.u64.bits ((IntKind.u64.wrap (arith .add (IntKind.u64.wrap (arith .mul (p_s) (2862933555777941757))) (3037000493))).fdiv (2 ^ (min (31 : Int).toNat IntKind.u64.bits)))).toNat) (10723151780598845931))) ^^^ BitVec.ofInt IntKind.u64.bits ((IntKind.u64.wrap (arith .mul (IntKind.u64.wrap (BitVec.ofInt IntKind.u64.bits (IntKind.u64.wrap (arith .add (IntKind.u64.wrap (arith .mul (p_s) (2862933555777941757))) (3037000493))) ^^^ BitVec.ofInt IntKind.u64.bits ((IntKind.u64.wrap (arith .add (IntKind.u64.wrap (arith .mul (p_s) (2862933555777941757))) (3037000493))).fdiv (2 ^ (min (31 : Int).toNat IntKind.u64.bits)))).toNat) (10723151780598845931))).fdiv (2 ^ (min (30 : Int).toNat IntKind.u64.bits)))).toNat))] ?_
 refine se ?_
 refine rret ?_
 refine pst_ret1 (t := 2) ([(p, Obj.cells #[.int .u64 (IntKind.u64.wrap (arith .add (IntKind.u64.wrap (arith .mul (p_s) (2862933555777941757))) (3037000493)))] 65 (0, 0))]) (by kernel_rfl) rfl (List.Sublist.cons_cons _ (List.Sublist.refl _)) (Imm.le.refl _) ?_
 exact ⟨_, _, rfl, rfl, u64_range _⟩

noncomputable def c_Up (p : List Nat) : Code := sub (bodyOf Tryd.f18) p
theorem Up_ct (I : Imm) (p : Nat) (p_s : Int) (most : Int) (hm : most ≤ 1000000) : Ct Tryd.prog 18 #[.pointer (some ⟨p, 0, none⟩), .int .i64 most] I ([(p, Obj.cells #[.int .u64 (p_s)] 65 (0, 0))]) (fun v I' M' => ∃ p_t : Int, ∃ n : Nat, v = .int .i64 (↑n) ∧ M' = [(p, Obj.cells #[.int .u64 (p_t)] 65 (0, 0))] ∧ (n = 0 ∨ (n : Int) ≤ most)) := by
 refine fn_of_run (fn := Tryd.f18) (args := [_, _]) (N := 15) Tryd.func18 rfl (by kernel_rfl) (Nat.le_of_ble_eq_true rfl) (fun F => ?_)
 show Run _ _ (c_Up []) _ _ [(0, .pointer (some ⟨p, 0, none⟩)), (1, .int .i64 (most))] _ _
 refine rnm ?_
 refine rqr ?_
 refine sp 1 [(4, .int .i64 (0))] ?_
 refine se ?_
 refine rq ?_
 refine rqr ?_
 refine sp 2 [(6, .bool (cmp .lss (most) (1)))] ?_
 refine se ?_
 refine rc 6 rfl (fun h1 => ?_) (fun h1 => ?_)
 ·
  have h1_r := h1
  have h1 := lss_t h1
  refine rqr ?_
  refine sp 1 [(4, .int .i64 (0))] ?_
  refine se ?_
  refine rret ?_
  refine (pst_ret_pass ?_)
  refine pst_ret1 (t := 4) ([(p, Obj.cells #[.int .u64 (p_s)] 65 (0, 0))]) (by kernel_rfl) rfl (List.Sublist.cons_cons _ (List.Sublist.refl _)) (Imm.le.refl _) ?_
  exact ⟨_, 0, rfl, rfl, .inl rfl⟩
 ·
  have h1_r := h1
  have h1 := lss_f h1
  refine rskip ?_
  refine pst_next ?_
  refine rqr ?_
  refine sp 1 [(7, .pointer (some ⟨p, 0, none⟩))] ?_
  refine sS (sc (some 8) (F := (F)) (next_ct _ (p) (p_s) :) (.refl _) (fun rv9 I1 rm10 hle2 hp3 => ?_))
  obtain ⟨p_t6, r7, hv4, hm5, qp8⟩ := hp3
  rw [hv4, hm5]; clear hv4 hm5
  refine nm ?_
  show Seq _ _ _ _ _ _ ((8, .int .u64 ((r7))) :: _) _ _
  refine sd (det_shr (x := (.tmp 8)) (y := (.const (.int .u64 13))) (T := 63) (T' := 66) (d := 9) (ty := 63) (gd := none) (by kernel_rfl) rfl rfl rfl (by omega)) ?_
  refine sp 1 [(10, .int .i64 (most))] ?_
  refine sd (da 11 (most) (1)) ?_
  refine sp 1 [(12, .int .u64 (IntKind.u64.wrap (most + 1)))] ?_
  refine seq_re 12 rfl (show (.int .u64 (IntKind.u64.wrap (most + 1)) : Value) = .int .u64 (most + 1) from congrArg (Value.int .u64) (IntWalk.u64_in _ (by omega))) ?_
  refine sd (det_rem (x := (.tmp 9)) (y := (.tmp 12)) (T := 63) (T' := 63) (d := 13) (ty := 63) (gd := none) (by kernel_rfl) rfl rfl rfl (by exact fdiv_nonneg (by omega) (by decide)) (by omega)) ?_
  refine sp 1 [(14, .int .i64 (IntKind.i64.wrap ((((r7)).fdiv (2 ^ (min (13 : Int).toNat IntKind.u64.bits))) % (most + 1))))] ?_
  obtain ⟨n, hn, hn2⟩ := up_nat (x := ((r7)).fdiv (2 ^ (min (13 : Int).toNat IntKind.u64.bits))) h1 hm (fdiv_nonneg (by omega) (by decide))
  refine seq_re 14 rfl (show (.int .i64 (IntKind.i64.wrap ((((r7)).fdiv (2 ^ (min (13 : Int).toNat IntKind.u64.bits))) % (most + 1))) : Value) = .int .i64 (↑n) from congrArg (Value.int .i64) hn) ?_
  refine sp 1 [(4, .int .i64 (↑n))] ?_
  refine se ?_
  refine rret ?_
  refine pst_ret1 (t := 4) ([(p, Obj.cells #[.int .u64 (p_t6)] 65 (0, 0))]) (by kernel_rfl) rfl (List.Sublist.cons_cons _ (List.Sublist.refl _)) hle2 ?_
  exact ⟨_, _, rfl, rfl, .inr hn2⟩

noncomputable def c_From (p : List Nat) : Code := sub (bodyOf Tryd.f31) p
theorem From_ct (I : Imm) (p : Nat) (p_s : Int) (lo : Int) (hi : Int) (h1 : 0 ≤ lo ∧ lo ≤ hi) (h2 : hi ≤ 1000000) : Ct Tryd.prog 31 #[.pointer (some ⟨p, 0, none⟩), .int .i64 lo, .int .i64 hi] I ([(p, Obj.cells #[.int .u64 (p_s)] 65 (0, 0))]) (fun v I' M' => ∃ p_t : Int, ∃ r : Int, v = .int .i64 (r) ∧ M' = [(p, Obj.cells #[.int .u64 (p_t)] 65 (0, 0))] ∧ (lo ≤ r ∧ r ≤ hi)) := by
 refine fn_of_run (fn := Tryd.f31) (args := [_, _, _]) (N := 14) Tryd.func31 rfl (by kernel_rfl) (Nat.le_of_ble_eq_true rfl) (fun F => ?_)
 show Run _ _ (c_From []) _ _ [(0, .pointer (some ⟨p, 0, none⟩)), (1, .int .i64 (lo)), (2, .int .i64 (hi))] _ _
 refine rnm ?_
 refine rqr ?_
 refine sp 1 [(6, .int .i64 (0))] ?_
 refine sn ?_
 refine sp 4 [(10, .int .i64 (lo)), (9, .int .i64 (hi)), (8, .pointer (some ⟨p, 0, none⟩)), (7, .int .i64 (lo))] ?_
 refine sd (dsb 11 (hi) (lo)) ?_
 refine sS (sc (some 12) (F := (F)) (Up_ct _ (p) (p_s) (hi - lo) (by omega) :) (.refl _) (fun rv9 I1 rm10 hle2 hp3 => ?_))
 obtain ⟨p_t6, n7, hv4, hm5, qp8⟩ := hp3
 rw [hv4, hm5]; clear hv4 hm5
 refine nm ?_
 show Seq _ _ _ _ _ _ ((12, .int .i64 (↑n7)) :: _) _ _
 refine sd (da 13 (lo) (↑n7)) ?_
 refine sp 1 [(6, .int .i64 (lo + ↑n7))] ?_
 refine se ?_
 refine rret ?_
 refine pst_ret1 (t := 6) ([(p, Obj.cells #[.int .u64 (p_t6)] 65 (0, 0))]) (by kernel_rfl) rfl (List.Sublist.cons_cons _ (List.Sublist.refl _)) hle2 ?_
 exact ⟨_, _, rfl, rfl, by omega⟩

noncomputable def c_Chance (p : List Nat) : Code := sub (bodyOf Tryd.f32) p
theorem Chance_ct (I : Imm) (p : Nat) (p_s : Int) (n : Int) (m : Int) (h1 : 0 ≤ m ∧ m ≤ 1000000) : Ct Tryd.prog 32 #[.pointer (some ⟨p, 0, none⟩), .int .i64 n, .int .i64 m] I ([(p, Obj.cells #[.int .u64 (p_s)] 65 (0, 0))]) (fun v I' M' => ∃ p_t : Int, ∃ r : Bool, v = .bool (r) ∧ M' = [(p, Obj.cells #[.int .u64 (p_t)] 65 (0, 0))]) := by
 refine fn_of_run (fn := Tryd.f32) (args := [_, _, _]) (N := 13) Tryd.func32 rfl (by kernel_rfl) (Nat.le_of_ble_eq_true rfl) (fun F => ?_)
 show Run _ _ (c_Chance []) _ _ [(0, .pointer (some ⟨p, 0, none⟩)), (1, .int .i64 (n)), (2, .int .i64 (m))] _ _
 refine rnm ?_
 refine rqr ?_
 refine sp 1 [(6, .bool (false))] ?_
 refine sn ?_
 refine sp 2 [(8, .int .i64 (m)), (7, .pointer (some ⟨p, 0, none⟩))] ?_
 refine sd (dsb 9 (m) (1)) ?_
 refine sS (sc (some 10) (F := (F)) (Up_ct _ (p) (p_s) (m - 1) (by omega) :) (.refl _) (fun rv9 I1 rm10 hle2 hp3 => ?_))
 obtain ⟨p_t6, n7, hv4, hm5, qp8⟩ := hp3
 rw [hv4, hm5]; clear hv4 hm5
 refine nm ?_
 show Seq _ _ _ _ _ _ ((10, .int .i64 (↑n7)) :: _) _ _
 refine sp 3 [(6, .bool (cmp .lss (↑n7) (n)))] ?_
 refine se ?_
 refine rret ?_
 refine pst_ret1 (t := 6) ([(p, Obj.cells #[.int .u64 (p_t6)] 65 (0, 0))]) (by kernel_rfl) rfl (List.Sublist.cons_cons _ (List.Sublist.refl _)) hle2 ?_
 exact ⟨_, _, rfl, rfl⟩

noncomputable def c_One (p : List Nat) : Code := sub (bodyOf Tryd.f30) p
theorem One_ct (I : Imm) (p : Nat) (p_s : Int) (a : Value) (xs : List Int) (a_f : IsInts I a xs) (hx : 0 < xs.length ∧ xs.length ≤ 1000000) : Ct Tryd.prog 30 #[.pointer (some ⟨p, 0, none⟩), a] I ([(p, Obj.cells #[.int .u64 (p_s)] 65 (0, 0))]) (fun v I' M' => ∃ p_t : Int, ∃ r : Int, v = .int .i64 (r) ∧ M' = [(p, Obj.cells #[.int .u64 (p_t)] 65 (0, 0))] ∧ (r ∈ xs)) := by
 obtain ⟨a_a, a_c, a_b, a_o, a_e, a_l, a_m, a_r⟩ := id a_f
 subst a_e
 refine fn_of_run (fn := Tryd.f30) (args := [_, _]) (N := 16) Tryd.func30 rfl (by kernel_rfl) (Nat.le_of_ble_eq_true rfl) (fun F => ?_)
 show Run _ _ (c_One []) _ _ [(0, .pointer (some ⟨p, 0, none⟩)), (1, .slice a_a xs.length a_c)] _ _
 refine rnm ?_
 refine rqr ?_
 refine sp 1 [(4, .int .i64 (0))] ?_
 refine se ?_
 refine rq ?_
 refine rqr ?_
 refine sp 3 [(7, .bool (cmp .eql (↑(xs.length)) (0)))] ?_
 refine se ?_
 refine rc 7 rfl (fun h1 => ?_) (fun h1 => ?_)
 ·
  have h1_r := h1
  have h1 := eql_t h1
  refine rqr ?_
  refine sp 1 [(4, .int .i64 (0))] ?_
  refine se ?_
  refine rret ?_
  refine (pst_ret_pass ?_)
  refine pst_ret1 (t := 4) [] (by kernel_rfl) rfl (List.Sublist.cons _ (List.Sublist.refl _)) (Imm.le.refl _) ?_
  exfalso; omega
 ·
  have h1_r := h1
  have h1 := eql_f h1
  refine rskip ?_
  refine pst_next ?_
  refine rqr ?_
  refine sp 4 [(11, .int .i64 (↑(xs.length))), (9, .pointer (some ⟨p, 0, none⟩)), (8, .slice a_a xs.length a_c)] ?_
  refine sd (dsb 12 (↑(xs.length)) (1)) ?_
  refine sS (sc (some 13) (F := (F)) (Up_ct _ (p) (p_s) ((↑(xs.length)) - 1) (by omega) :) (.refl _) (fun rv9 I1 rm10 hle2 hp3 => ?_))
  obtain ⟨p_t6, n7, hv4, hm5, qp8⟩ := hp3
  rw [hv4, hm5]; clear hv4 hm5
  replace a_r := a_r.mono hle2
  refine nm ?_
  show Seq _ _ _ _ _ _ ((13, .int .i64 (↑n7)) :: _) _ _
  refine sd (di 14 1 (n7) a_r.addr) ?_
  refine sd (dl 15 (ints_get a_r (n7) (by omega))) ?_
  refine sp 1 [(4, .int .i64 (xs.getD (n7) 0))] ?_
  refine se ?_
  refine rret ?_
  refine pst_ret1 (t := 4) ([(p, Obj.cells #[.int .u64 (p_t6)] 65 (0, 0))]) (by kernel_rfl) rfl (List.Sublist.cons_cons _ (List.Sublist.refl _)) hle2 ?_
  exact ⟨_, _, rfl, rfl, getD_mem (by omega)⟩

noncomputable def c_Some (p : List Nat) : Code := sub (bodyOf Tryd.f23) p
theorem Some_ct (I : Imm) (p : Nat) (p_s : Int) (n : Nat) (hn : n ≤ 1000000) : Ct Tryd.prog 23 #[.pointer (some ⟨p, 0, none⟩), .int .i64 ↑n] I ([(p, Obj.cells #[.int .u64 (p_s)] 65 (0, 0))]) (fun v I' M' => ∃ p_t : Int, ∃ l : List Int, ∃ u : Value, ∃ Ms : Seg, v = u ∧ M' = [(p, Obj.cells #[.int .u64 (p_t)] 65 (0, 0))] ++ (Ms) ∧ (Asc l) ∧ (∀ x ∈ l, 0 ≤ x ∧ x < (n : Int)) ∧ Own 3 1 intCell u (l) Ms) := by
 refine fn_of_run (fn := Tryd.f23) (args := [_, _]) (N := 19) Tryd.func23 rfl (by kernel_rfl) (Nat.le_of_ble_eq_true rfl) (fun F => ?_)
 show Run _ _ (c_Some []) _ _ [(0, .pointer (some ⟨p, 0, none⟩)), (1, .int .i64 (↑n))] _ _
 refine rnm ?_
 refine rqr ?_
 refine sp 1 [(4, .slice none 0 0)] ?_
 refine sn ?_
 refine sp 1 [(5, .slice none 0 0)] ?_
 refine se ?_
 refine rq ?_
 refine rqr ?_
 refine sp 1 [(6, .int .i64 (0))] ?_
 refine se ?_
 refine rb 0 ?_
 refine rl (fun mz a w => ∃ J0 : Imm, ∃ k : Nat, ∃ l : List Int, ∃ s : Int, ∃ ov0_5 : Value, ∃ oM0_5 : Seg, (I.le J0) ∧ (k ≤ n) ∧ (l.length ≤ k) ∧ (Asc l) ∧ (∀ x ∈ l, 0 ≤ x ∧ x < (k : Int)) ∧ (Own 3 1 intCell ov0_5 (l) oM0_5) ∧ Slots 19 [(5, ov0_5), (6, .int .i64 ↑k), (0, .pointer (some ⟨p, 0, none⟩)), (1, .int .i64 (↑n)), (4, .slice none 0 0)] a ∧ a.defers = [] ∧ St J0 ((p, Obj.cells #[.int .u64 (s)] 65 (0, 0)) :: (oM0_5 ++ F)) w ∧ mz = n - k) ?_ ?_
 ·intro a w hS hD hW
  exact ⟨_, I, 0, [], p_s, (.slice none 0 0), [], Imm.le.refl _, Nat.zero_le _, (Nat.le_refl _), Asc.nil, (fun x hx => by simp at hx), (Own.nil _ _ _), hS.sub (.cons 5 rfl (.cons 6 rfl (.cons 0 rfl (.cons 1 rfl (.cons 4 rfl (.nil _)))))), hD, hW, rfl⟩
 ·rintro mz a w ⟨J0, k, l, s, ov0_5, oM0_5, hJ0, hk, hll, hasc, hlt, oh0_5, hS, hD, hW, rfl⟩
  refine run_at hS hD hW ?_
  clear hS hD hW a w
  obtain ⟨ov0_5_a, ov0_5_c, ov0_5_e, ov0_5_l⟩ := oh0_5.shape; subst ov0_5_e
  refine rq ?_
  refine rqr ?_
  refine sp 3 [(9, .bool (cmp .lss (↑k) (↑n)))] ?_
  refine se ?_
  refine rc 9 rfl (fun h1 => ?_) (fun h1 => ?_)
  ·
   have h1_r := h1
   have h1 := lss_t h1
   refine rskip ?_
   refine pst_next ?_
   refine rq ?_
   refine rb 1 ?_
   refine rqr ?_
   refine sp 1 [(12, .pointer (some ⟨p, 0, none⟩))] ?_
   refine sS (sc (some 13) (F := ((oM0_5 ++ F))) (Chance_ct _ (p) (s) (1) (2) (by omega) :) (.refl _) (fun rv8 I1 rm9 hle2 hp3 => ?_))
   obtain ⟨p_t6, r7, hv4, hm5⟩ := hp3
   rw [hv4, hm5]; clear hv4 hm5
   refine nm ?_
   show Seq _ _ _ _ _ _ ((13, .bool (r7)) :: _) _ _
   refine se ?_
   refine rc 13 rfl (fun h2 => ?_) (fun h2 => ?_)
   ·
    have h2_r := h2
    refine rr ?_
    refine sp 2 [(15, .int .i64 (↑k)), (14, .slice ov0_5_a l.length ov0_5_c)] ?_
    refine sS (sbs 16 3 1 #[.int .i64 (↑k)] (fun b10 => ?_))
    refine sS (stp_append (d := 17) (x := (.tmp 14)) (y := (.tmp 16)) (T := 22) (T' := 22) (E := 3) (E' := 3) (sz := 1) (bs := 8) (z := .int .i64 (0)) (cell := intCell) (xs := l) (ys := [(↑k : Int)]) (Ms := oM0_5) (ty := 22) (gd := none) (by kernel_rfl) rfl (by kernel_rfl) (by kernel_rfl) (by kernel_rfl) (by kernel_rfl) (by kernel_rfl) (by decide) (by kernel_rfl) rfl rfl (oh0_5) ((List.Perm.cons _ (List.perm_middle.symm)).trans (List.perm_middle.symm)) (one_intCell _) (src_atS 0 rfl rfl) (by first | omega | (simp only [List.length_cons, List.length_nil, List.length_append, List.length_take, List.length_drop]; omega)) (fun v12 Ms12 ho12 => ?_))
    refine seq_mem (M' := ((p, Obj.cells #[.int .u64 (p_t6)] 65 (0, 0)) :: (Ms12 ++ F))) (fun w h => (h.perm (List.perm_middle.trans (List.Perm.cons _ List.perm_middle))).sub (List.Sublist.cons _ (List.Sublist.refl _))) ?_
    obtain ⟨oa12, oc12, oe12, ol12⟩ := ho12.shape
    subst oe12
    show Seq _ _ _ _ _ _ ((17, .slice oa12 (l ++ ([(↑k : Int)])).length oc12) :: _) _ _
    refine sp 1 [(5, .slice oa12 (l ++ ([(↑k : Int)])).length oc12)] ?_
    refine ee ?_
    refine pst_normal_block ?_
    refine pst_next ?_
    refine rr ?_
    refine sp 1 [(10, .int .i64 (↑k))] ?_
    refine sd (da 11 (↑k) (1)) ?_
    refine sp 1 [(6, .int .i64 (↑k + 1))] ?_
    refine ee ?_
    refine pst_back (n - (k+1)) (by omega) ?_
    intro a w hS hD hW
    exact ⟨I1, k+1, l ++ [(k : Int)], p_t6, .slice oa12 (l ++ ([(↑k : Int)])).length oc12, Ms12, (Imm.le.trans hJ0 hle2), by omega, by simp; omega, hasc.snoc hlt, below_snoc hlt, ho12, hS.sub (.consE 5 rfl rfl (.consE 6 rfl rfl (.cons 0 rfl (.cons 1 rfl (.cons 4 rfl (.nil _)))))), hD, hW, rfl⟩
   ·
    have h2_r := h2
    refine rskip ?_
    refine pst_normal_block ?_
    refine pst_next ?_
    refine rr ?_
    refine sp 1 [(10, .int .i64 (↑k))] ?_
    refine sd (da 11 (↑k) (1)) ?_
    refine sp 1 [(6, .int .i64 (↑k + 1))] ?_
    refine ee ?_
    refine pst_back (n - (k+1)) (by omega) ?_
    intro a w hS hD hW
    exact ⟨I1, k+1, l, p_t6, .slice ov0_5_a l.length ov0_5_c, oM0_5, (Imm.le.trans hJ0 hle2), by omega, by omega, hasc, below_mono hlt, oh0_5, hS.sub (.consE 5 rfl rfl (.consE 6 rfl rfl (.cons 0 rfl (.cons 1 rfl (.cons 4 rfl (.nil _)))))), hD, hW, rfl⟩
  ·
   have h1_r := h1
   have h1 := lss_f h1
   refine rexit 0 ?_
   refine (pst_exit_pass (pst_exit_pass (pst_exit_block ?_)))
   refine pst_next ?_
   refine rqr ?_
   refine sp 2 [(4, .slice ov0_5_a l.length ov0_5_c)] ?_
   refine se ?_
   refine rret ?_
   refine pst_ret1 (t := 4) ([(p, Obj.cells #[.int .u64 (s)] 65 (0, 0))] ++ (oM0_5)) (by kernel_rfl) rfl (by simp only [List.append_assoc, List.nil_append, List.cons_append]; exact (List.Sublist.cons_cons _ (List.Sublist.append_left (List.Sublist.refl _) _))) hJ0 ?_
   exact ⟨_, _, _, _, rfl, rfl, hasc, (by have hkn : k = n := (by omega); exact hkn ▸ hlt), oh0_5⟩

noncomputable def c_NewBag (p : List Nat) : Code := sub (bodyOf Tryd.f8) p
theorem NewBag_ct (I : Imm) (a : Value) (xs : List Int) (a_f : IsInts I a xs) : Ct Tryd.prog 8 #[a] I ([]) (fun v I' M' => ∃ u : Nat, ∃ us : Int, v = .pointer (some ⟨u, 0, none⟩) ∧ M' = [(u, Obj.cells #[.int .u64 (us)] 65 (0, 0))]) := by
 obtain ⟨a_a, a_c, a_b, a_o, a_e, a_l, a_m, a_r⟩ := id a_f
 subst a_e
 refine fn_of_run (fn := Tryd.f8) (args := [_]) (N := 41) Tryd.func8 rfl (by kernel_rfl) (Nat.le_of_ble_eq_true rfl) (fun F => ?_)
 show Run _ _ (c_NewBag []) _ _ [(0, .slice a_a xs.length a_c)] _ _
 refine rnm ?_
 refine rqr ?_
 refine sp 1 [(2, .pointer none)] ?_
 refine sn ?_
 refine sp 1 [(5, .agg #[.int .u64 (11400714819323198485)])] ?_
 refine sS (sb 6 65 #[.int .u64 (11400714819323198485)] (fun b1 => ?_))
 refine sp 1 [(3, .pointer (some ⟨b1, 0, none⟩))] ?_
 refine se ?_
 refine rq ?_
 refine rqr ?_
 refine sp 1 [(4, .int .i64 (0))] ?_
 refine se ?_
 refine rb 0 ?_
 refine rl (fun mz a w => ∃ k : Nat, ∃ s : Int, (k ≤ xs.length) ∧ Slots 41 [(4, .int .i64 ↑k), (0, .slice a_a xs.length a_c), (2, .pointer none), (3, .pointer (some ⟨b1, 0, none⟩))] a ∧ a.defers = [] ∧ St I ((b1, Obj.cells #[.int .u64 (s)] 65 (0, 0)) :: F) w ∧ mz = xs.length - k) ?_ ?_
 ·intro a w hS hD hW
  exact ⟨_, 0, 11400714819323198485, Nat.zero_le _, hS.sub (.cons 4 rfl (.cons 0 rfl (.cons 2 rfl (.cons 3 rfl (.nil _))))), hD, hW, rfl⟩
 ·rintro mz a w ⟨k, s, hk, hS, hD, hW, rfl⟩
  refine run_at hS hD hW ?_
  clear hS hD hW a w
  refine rq ?_
  refine rqr ?_
  refine sp 4 [(10, .bool (cmp .lss (↑k) (↑(xs.length))))] ?_
  refine se ?_
  refine rc 10 rfl (fun h1 => ?_) (fun h1 => ?_)
  ·
   have h1_r := h1
   have h1 := lss_t h1
   refine rskip ?_
   refine pst_next ?_
   refine rq ?_
   refine rb 1 ?_
   refine rq ?_
   refine rd0 12 ?_
   refine ox 4 [(16, .pointer (some ⟨b1, 0, none⟩)), (13, .pointer (some ⟨b1, 0, none⟩))] ?_
   refine ofp_det (dlb 17 0 0 b1 (.int .u64 (s))) ?_
   refine ox 2 [(19, .int .i64 (↑k)), (18, .slice a_a xs.length a_c)] ?_
   refine ofp_det (di 20 1 (k) a_r.addr) ?_
   refine ofp_det (dl 21 (ints_get a_r (k) (by omega))) ?_
   refine ox 3 [(24, .int .u64 (IntKind.u64.wrap (arith .mul (IntKind.u64.wrap (arith .add (s) (IntKind.u64.wrap (xs.getD (k) 0)))) (13787848793156543929))))] ?_
   refine ofp_end0 ?_
   refine sp 2 [(26, .pointer (some ⟨b1, 0, none⟩))] ?_
   refine sS (ss 0 0 b1 [.int .u64 (IntKind.u64.wrap (arith .mul (IntKind.u64.wrap (arith .add (s) (IntKind.u64.wrap (xs.getD (k) 0)))) (13787848793156543929)))] [.int .u64 (IntKind.u64.wrap (arith .mul (IntKind.u64.wrap (arith .add (s) (IntKind.u64.wrap (xs.getD (k) 0)))) (13787848793156543929)))] (_ :: _) (cs := [_]) rfl rfl ?_)
   refine se ?_
   refine rd0 11 ?_
   refine ox 4 [(30, .pointer (some ⟨b1, 0, none⟩)), (27, .pointer (some ⟨b1, 0, none⟩))] ?_
   refine ofp_det (dlb 31 0 0 b1 (.int .u64 (IntKind.u64.wrap (arith .mul (IntKind.u64.wrap (arith .add (s) (IntKind.u64.wrap (xs.getD (k) 0)))) (13787848793156543929))))) ?_
   refine ox 3 [(34, .pointer (some ⟨b1, 0, none⟩))] ?_
   refine ofp_det (dlb 35 0 0 b1 (.int .u64 (IntKind.u64.wrap (arith .mul (IntKind.u64.wrap (arith .add (s) (IntKind.u64.wrap (xs.getD (k) 0)))) (13787848793156543929))))) ?_
   refine ofp_det (det_shr (x := (.tmp 35)) (y := (.const (.int .u64 29))) (T := 63) (T' := 66) (d := 36) (ty := 63) (gd := none) (by kernel_rfl) rfl rfl rfl (by omega)) ?_
   refine ox 1 [(37, .int .u64 (IntKind.u64.wrap (BitVec.ofInt IntKind.u64.bits (IntKind.u64.wrap (arith .mul (IntKind.u64.wrap (arith .add (s) (IntKind.u64.wrap (xs.getD (k) 0)))) (13787848793156543929))) ^^^ BitVec.ofInt IntKind.u64.bits ((IntKind.u64.wrap (arith .mul (IntKind.u64.wrap (arith .add (s) (IntKind.u64.wrap (xs.getD (k) 0)))) (13787848793156543929))).fdiv (2 ^ (min (29 : Int).toNat IntKind.u64.bits)))).toNat))] ?_
   refine ofp_end0 ?_
   refine sp 2 [(39, .pointer (some ⟨b1, 0, none⟩))] ?_
   refine sS (ss 0 0 b1 [.int .u64 (IntKind.u64.wrap (BitVec.ofInt IntKind.u64.bits (IntKind.u64.wrap (arith .mul (IntKind.u64.wrap (arith .add (s) (IntKind.u64.wrap (xs.getD (k) 0)))) (13787848793156543929))) ^^^ BitVec.ofInt IntKind.u64.bits ((IntKind.u64.wrap (arith .mul (IntKind.u64.wrap (arith .add (s) (IntKind.u64.wrap (xs.getD (k) 0)))) (13787848793156543929))).fdiv (2 ^ (min (29 : Int).toNat IntKind.u64.bits)))).toNat)] [.int .u64 (IntKind.u64.wrap (BitVec.ofInt IntKind.u64.bits (IntKind.u64.wrap (arith .mul (IntKind.u64.wrap (arith .add (s) (IntKind.u64.wrap (xs.getD (k) 0)))) (13787848793156543929))) ^^^ BitVec.ofInt IntKind.u64.bits ((IntKind.u64.wrap (arith .mul (IntKind.u64.wrap (arith .add (s) (IntKind.u64.wrap (xs.getD (k) 0)))) (13787848793156543929))).fdiv (2 ^ (min (29 : Int).toNat IntKind.u64.bits)))).toNat)] (_ :: _) (cs := [_]) rfl rfl ?_)
   refine ee ?_
   refine pst_normal_block ?_
   refine pst_next ?_
   refine rr ?_
   refine sp 1 [(11, .int .i64 (↑k))] ?_
   refine sd (da 12 (↑k) (1)) ?_
   refine sp 1 [(4, .int .i64 (↑k + 1))] ?_
   refine ee ?_
   refine pst_back (xs.length - (k+1)) (by omega) ?_
   intro a w hS hD hW
   exact ⟨k+1, IntKind.u64.wrap (BitVec.ofInt IntKind.u64.bits (IntKind.u64.wrap (arith .mul (IntKind.u64.wrap (arith .add (s) (IntKind.u64.wrap (xs.getD (k) 0)))) (13787848793156543929))) ^^^ BitVec.ofInt IntKind.u64.bits ((IntKind.u64.wrap (arith .mul (IntKind.u64.wrap (arith .add (s) (IntKind.u64.wrap (xs.getD (k) 0)))) (13787848793156543929))).fdiv (2 ^ (min (29 : Int).toNat IntKind.u64.bits)))).toNat, by omega, hS.sub (.consE 4 rfl rfl (.cons 0 rfl (.cons 2 rfl (.cons 3 rfl (.nil _))))), hD, hW, rfl⟩
  ·
   have h1_r := h1
   have h1 := lss_f h1
   refine rexit 0 ?_
   refine (pst_exit_pass (pst_exit_pass (pst_exit_block ?_)))
   refine pst_next ?_
   refine rqr ?_
   refine sp 2 [(2, .pointer (some ⟨b1, 0, none⟩))] ?_
   refine se ?_
   refine rret ?_
   refine pst_ret1 (t := 2) ([(b1, Obj.cells #[.int .u64 (s)] 65 (0, 0))]) (by kernel_rfl) rfl (List.Sublist.cons_cons _ (List.Sublist.refl _)) (Imm.le.refl _) ?_
   exact ⟨_, _, rfl, rfl⟩

end Go.Proofs.YtcaocbhbofejnaaDoor
