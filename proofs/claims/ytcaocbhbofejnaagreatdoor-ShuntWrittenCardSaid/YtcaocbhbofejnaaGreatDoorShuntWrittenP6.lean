/- A part of the proof of the laws of this seat. -/
import Derived.Test.YtcaocbhbofejnaaGreatDoorP1
import Derived.Below
import Derived.Laws.Strings
import Derived.Test.YtcaocbhbofejnaaGreatDoorP2
import Derived.Lib.Join
import Derived.Lib.ItoaNum
import Derived.Lib.ItoaLen
import Derived.Test.YtcaocbhbofejnaaGreatDoorP5
import Derived.Shelf.LaysM
import Derived.Shelf.Strings.OnBuilder
import Derived.Shelf.Strconv.Itoa3
import Derived.Test.YtcaocbhbofejnaaGreatDoorProg
import Derived.Lib.SplitLaws
import Derived.Lib.CutLaws
import Derived.Lib.AtoiAll
import Derived.Shelf.Strconv.AtoiAll
import Derived.Shelf.Strings.Split
import Derived.Shelf.Strings.Cut
set_option linter.unusedVariables false
set_option linter.unusedSimpArgs false
namespace Go.Sl
open Go
abbrev sB (l : List UInt8) : ByteArray := ⟨l.toArray⟩
abbrev sV (l : List UInt8) : Value := .string ⟨l.toArray⟩
theorem sB_append (a b : List UInt8) : sB a ++ sB b = sB (a ++ b) := by
  apply ByteArray.ext
  simp [sB]
theorem JY (a : List UInt8) : (sB a).size = a.length := by simp [sB, ByteArray.size]
section
variable {ρ : Option Nat} {P : Program} {N : Nat} {ops : Array Oper} {i : Nat} {l : Sl} {I : Imm} {R M : Seg} {d : Nat} {ty : TypeId} {gd : Option (Nat × Bool)}
theorem KX {x y : Operand} {T T' : TypeId} {a b : List UInt8} (hop : GC ops N i = some (some d, .binOp .add T x y T', ty, gd)) (hg : FH ops l gd = some true)
    (hx : CH l x = some (sV a)) (hy : CH l y = some (sV b)) (hl : a.length + b.length ≤ 9223372036854775807) : Det P N ops i l I R d (sV (a ++ b)) :=
  EM hop hg (GD hx hy) fun I' M' => by
    show wpL P ((do eqGuard .add T x y (rho l x) (rho l y); binOp .add T (rho l x) (rho l y)) >>= fun x => pure (Next.value x)) _ I' M';rw [BG hx, BG hy];refine DG ?_;show wpL P (Op.stringOp .add (sB a) (sB b)) _ I' M';unfold Op.stringOp;simp only;rw [if_neg (by rw [JY, JY]; show ¬ ((_ : Int) > 9223372036854775807); omega), sB_append];exact ⟨rfl, rfl⟩
theorem sB_eq (a b : List UInt8) : ((sB a).toList == (sB b).toList) = decide (a = b) := by
  rw [ByteArray.toList_eq, ByteArray.toList_eq];show (a == b) = _
  by_cases h : a = b <;> simp [h]
theorem FB {x y : Operand} {T T' : TypeId} {a b : List UInt8} (hop : GC ops N i = some (some d, .binOp .eql T x y T', ty, gd)) (hg : FH ops l gd = some true)
    (hx : CH l x = some (sV a)) (hy : CH l y = some (sV b)) : Det P N ops i l I R d (.bool (decide (a = b))) :=
  EM hop hg (GD hx hy) fun I' M' => by
    show wpL P ((do eqGuard .eql T x y (rho l x) (rho l y); binOp .eql T (rho l x) (rho l y)) >>= fun x => pure (Next.value x)) _ I' M';rw [BG hx, BG hy];refine DG ?_;show wpL P (Op.stringOp .eql (sB a) (sB b)) _ I' M';unfold Op.stringOp;simp only;rw [sB_eq];exact ⟨rfl, rfl⟩
theorem det_neqS {x y : Operand} {T T' : TypeId} {a b : List UInt8} (hop : GC ops N i = some (some d, .binOp .neq T x y T', ty, gd)) (hg : FH ops l gd = some true)
    (hx : CH l x = some (sV a)) (hy : CH l y = some (sV b)) : Det P N ops i l I R d (.bool (!decide (a = b))) :=
  EM hop hg (GD hx hy) fun I' M' => by
    show wpL P ((do eqGuard .neq T x y (rho l x) (rho l y); binOp .neq T (rho l x) (rho l y)) >>= fun x => pure (Next.value x)) _ I' M';rw [BG hx, BG hy];refine DG ?_;show wpL P (Op.stringOp .neq (sB a) (sB b)) _ I' M';unfold Op.stringOp;simp only;rw [sB_eq];exact ⟨rfl, rfl⟩
end
def EO (x : List UInt8) (_ : Nat) : Value := sV x
abbrev IsStrs := IsSl 1 EO ([] : List UInt8)
theorem HZ {I : Imm} {a : Option Addr} {b o n : Nat} {xs : List (List UInt8)} (h : Row 1 I a b o n (fun i f => EO (xs.getD i []) f)) {M : Seg} (i : Nat) (hi : i < n) : Sees I M ⟨b, o + i * 1, none⟩ (sV (xs.getD i [])) := (h.get i hi 0 (by decide)).sees
theorem FP (ys : List (List UInt8)) : ∀ c ∈ ET 1 EO ys, EN c = true := one_enc (fun _ _ _ => rfl) ys
theorem ct_below {P : Program} {f : FuncId} {args : Array Value} {I : Imm} {v : Value} (h : ∀ F w, St I F w → Calls P f args w fun e w' => e = .returned v ∧ RowKit.Below w.heap.size w w') : CtV P f args I v := fun F w st => by
  refine (h F w st).mono fun e w' ⟨he, hb⟩ => ⟨v, I, [], he, Imm.le.refl I, ⟨rfl, rfl⟩, ?_⟩
  have up : ∀ b o, w.heap[b]? = some o → w'.heap[b]? = some o := fun b o hq => by
    rw [hb.block b (Array.getElem?_eq_some_iff.1 hq).1]; exact hq
  exact ⟨hb.os.trans st.os, hb.tape.trans st.tape, hb.output.trans st.output, fun b o hq => up b o (st.imm b o hq), fun b o hq => up b o (st.mem b o hq), st.nodup, st.disj⟩
section
variable {ρ : Option Nat} {P : Program} {N : Nat} {ops : Array Oper} {i : Nat} {l : Sl} {I : Imm} {R M : Seg} {d : Nat} {ty : TypeId} {gd : Option (Nat × Bool)}
end
section
variable {ρ : Option Nat} {P : Program} {N : Nat} {ops : Array Oper} {i : Nat} {l : Sl} {I : Imm} {R M : Seg} {d : Nat} {ty : TypeId} {gd : Option (Nat × Bool)}
end
section
variable {P : Program} {N : Nat} {fn : Func} {I I₀ : Imm} {post : Value → Imm → Seg → Prop} {F M : Seg} {l : Sl}
theorem DX {t u r : Nat} {T : TypeId} {b off n : Nat} {vs : List Value} {v x y : Value} (M' : Seg) (hr : fn.results = #[.cell t T, .tmp u, .tmp r]) (ht : DP t l = some (.pointer (some ⟨b, off, none⟩))) (hsz : DD P T = some n) (hn : vs.length = n)
    (hs : SeesN I M b off vs) (hv : (DL P T = some true ∧ v = .agg vs.toArray) ∨ (DL P T = some false ∧ vs = [v])) (hu : DP u l = some x) (hy : DP r l = some y)
    (hsub : (M' ++ F).Sublist M) (hle : I₀.le I) (hp : post (.tuple #[v, x, y]) I M') :
    Pst N (RetQ P fn I₀ post F) .ret [] l I M := fun a w hS hD hW =>
  ⟨hD, .tuple #[v, x, y], by
    have h1 := run_var (P := P) hW hs hn hsz hv
    simp [results, hr, hS.get t _ ht, hS.get u _ hu, hS.get r _ hy, asAddr, h1, Sem.run_bind, Result.andThen, pure, Sem.run], _, I, M', rfl, hle, hp, hW.sub hsub⟩
end
section
variable {ρ : Option Nat} {P : Program} {N : Nat} {ops : Array Oper} {i : Nat} {l : Sl} {I : Imm} {R M : Seg} {d : Nat} {ty : TypeId} {gd : Option (Nat × Bool)} {K : Sl → Imm → Seg → Prop}
end
end Go.Sl
namespace Go.Sh
open Go Go.Sl
abbrev num (n : Int) : List UInt8 := Lib.itoa n
def CR (c : Car) : List UInt8 :=
  match c.pipe, c.heat with
  | true, true => [112, 104]
  | true, false => [112]
  | false, true => [104]
  | false, false => [45]
def AQ (c : Car) : List UInt8 := Lib.join [[99, 111, 97, 99, 104], num c.len, num c.wt, num c.brk, num c.grp, CR c] [32]
def FJ (r : Int) (t : List Int) : List UInt8 := (([116, 114, 97, 99, 107, 32] ++ num r) ++ [58]) ++ Lib.join (t.map num) [44]
def AR (Y : Yard) : List (List UInt8) := List.zipWith FJ Y.room Y.tracks
def DN (Y : Yard) : List (List UInt8) := (Y.cars.map AQ ++ AR Y) ++ [[112, 111, 105, 110, 116, 115]]
def OH (Y : Yard) : List UInt8 := Lib.join (DN Y) [10] ++ [10]
def BV (Y : Yard) : List UInt8 × Int := if checkErr Y = 0 then (OH Y, 0) else ([], checkErr Y)
theorem writeE_bad {Y : Yard} (h : checkErr Y ≠ 0) : BV Y = ([], checkErr Y) := if_neg h
theorem writeE_ok {Y : Yard} (h : checkErr Y = 0) : BV Y = (OH Y, 0) := if_pos h
theorem join_le {m : Nat} {s : UInt8} : ∀ {xs : List (List UInt8)}, (∀ x ∈ xs, x.length ≤ m) → (Lib.join xs [s]).length ≤ xs.length * (m + 1) := by
  intro xs h;cases xs with
  | nil => simp [Lib.join_nil]
  | cons x r =>
    rw [Lib.join_cons, List.length_append];have hr : ∀ {r : List (List UInt8)}, (∀ x ∈ r, x.length ≤ m) → (Lib.joinTail [s] r).length ≤ r.length * (m + 1) := by
      intro r hr
      induction r with
      | nil => simp [Lib.joinTail]
      | cons y r ih =>
        have h1 := hr y (List.mem_cons_self ..);have h2 := ih fun z hz => hr z (List.mem_cons_of_mem _ hz)
        simp only [Lib.joinTail, List.map_cons, List.flatten_cons, List.length_append, List.length_cons, List.length_nil] at h2 ⊢;rw [Nat.add_mul];omega
    have h1 := h x (List.mem_cons_self ..);have h2 := hr (r := r) fun z hz => h z (List.mem_cons_of_mem _ hz)
    rw [List.length_cons, Nat.add_mul];omega
theorem num_le (n : Int) (h0 : 0 ≤ n) (h1 : n ≤ 9223372036854775807) : (num n).length ≤ 21 := Lib.itoa_length_le n (by omega) h1
theorem marks_le (c : Car) : (CR c).length ≤ 2 := by
  unfold CR; split <;> simp
theorem KI {Y : Yard} {k : Nat} (hk : k < Y.cars.length) {m : List UInt8} (hm : m = CR (Y.cars.getD k AB)) :
    (Y.cars.take k).map AQ ++ [Lib.join [[99, 111, 97, 99, 104], num (Y.cars.getD k AB).len, num (Y.cars.getD k AB).wt, num (Y.cars.getD k AB).brk, num (Y.cars.getD k AB).grp, m] [32]] = (Y.cars.take (k + 1)).map AQ := by
  rw [CY (d := AB) hk, List.map_append, hm]; rfl
theorem track_snoc {Y : Yard} {i j : Nat} (A : List (List UInt8)) (hi : i < Y.tracks.length) (hr : i < Y.room.length) (hj : (Y.tracks.getD i []).length ≤ j) :
    (A ++ (AR Y).take i) ++ [(([116, 114, 97, 99, 107, 32] ++ num (Y.room.getD i 0)) ++ [58]) ++ Lib.join (((Y.tracks.getD i []).take j).map num) [44]] = A ++ (AR Y).take (i + 1) := by
  have hl : i < (AR Y).length := by unfold AR; rw [List.length_zipWith]; omega
  rw [CY (d := []) hl, List.append_assoc, List.take_of_length_le hj];have e : (AR Y).getD i [] = FJ (Y.room.getD i 0) (Y.tracks.getD i []) := by
    simp only [AR, List.getD_eq_getElem?_getD, List.getElem?_zipWith, List.getElem?_eq_getElem hi, List.getElem?_eq_getElem hr];rfl
  rw [e]; rfl
theorem track_done {Y : Yard} {i : Nat} (hi : Y.tracks.length ≤ i) : (AR Y).take i = AR Y := List.take_of_length_le (by unfold AR; rw [List.length_zipWith]; omega)
section
variable {c : Car}
theorem marks_tt (h1 : c.pipe = true) (h2 : c.heat = true) : [112, 104] = CR c := by unfold CR; rw [h1, h2]
theorem marks_tf (h1 : c.pipe = true) (h2 : c.heat = false) : [112] = CR c := by unfold CR; rw [h1, h2]
theorem marks_ft (h1 : c.pipe = false) (h2 : c.heat = true) : [104] = CR c := by unfold CR; rw [h1, h2]
theorem marks_ff (h1 : c.pipe = false) (h2 : c.heat = false) : [45] = CR c := by unfold CR; rw [h1, h2]
end
theorem IJ {m n : Nat} {s : UInt8} {xs : List (List UInt8)} (h : ∀ x ∈ xs, x.length ≤ m) (hn : xs.length * (m + 1) ≤ n) : (Lib.join xs [s]).length ≤ n := Nat.le_trans (join_le h) hn
theorem LQ {c : Car} (h1 : (num c.len).length ≤ 21) (h2 : (num c.wt).length ≤ 21) (h3 : (num c.brk).length ≤ 21) (h4 : (num c.grp).length ≤ 21) {m : List UInt8} (hm : m = CR c) :
    (Lib.join [[99, 111, 97, 99, 104], num c.len, num c.wt, num c.brk, num c.grp, m] [32]).length ≤ 200 := by
  refine IJ (m := 21) (fun x hx => ?_) (by simp);have := marks_le c;simp only [List.mem_cons, List.not_mem_nil, or_false] at hx;rcases hx with rfl | rfl | rfl | rfl | rfl | rfl
  · simp
  · exact h1
  · exact h2
  · exact h3
  · exact h4
  · rw [hm]; omega
structure LenY (Y : Yard) : Prop where
  cars : ∀ c ∈ Y.cars, (num c.len).length ≤ 21 ∧ (num c.wt).length ≤ 21 ∧ (num c.brk).length ≤ 21 ∧ (num c.grp).length ≤ 21
  room : ∀ r ∈ Y.room, (num r).length ≤ 21
  tracks : ∀ t ∈ Y.tracks, ∀ x ∈ t, (num x).length ≤ 21
theorem nums_le {xs : List Int} {j : Nat} (h : ∀ x ∈ xs, (num x).length ≤ 21) (hl : xs.length ≤ 5) : (Lib.join ((xs.take j).map num) [44]).length ≤ 110 := by
  refine IJ (m := 21) (fun x hx => ?_) ?_
  · obtain ⟨y, hy, rfl⟩ := List.mem_map.1 hx
    exact h y (List.mem_of_mem_take hy)
  · rw [List.length_map, List.length_take]
    have : min j xs.length ≤ 5 := by omega
    omega
theorem LenY.line {Y : Yard} (h : LenY Y) (h5 : ∀ t ∈ Y.tracks, t.length ≤ 5) : ∀ x ∈ DN Y, x.length ≤ 200 := by
  intro x hx;simp only [DN, List.mem_append, List.mem_map, List.mem_singleton] at hx;rcases hx with (⟨c, hc, rfl⟩ | hx) | rfl
  · have := h.cars c hc
    exact LQ this.1 this.2.1 this.2.2.1 this.2.2.2 rfl
  · obtain ⟨i, hi, rfl⟩ := List.mem_iff_getElem.1 hx
    have hi2 : i < Y.room.length ∧ i < Y.tracks.length := by simp only [AR, List.length_zipWith] at hi; omega
    simp only [AR, List.getElem_zipWith, FJ];have h1 := h.room _ (List.getElem_mem hi2.1);have h2 := nums_le (j := (Y.tracks[i]'hi2.2).length) (h.tracks _ (List.getElem_mem hi2.2)) (h5 _ (List.getElem_mem hi2.2));rw [List.take_length] at h2;simp only [List.length_append, List.length_cons, List.length_nil];omega
  · simp
theorem LenY.text {Y : Yard} (h : LenY Y) (h5 : ∀ t ∈ Y.tracks, t.length ≤ 5) (hc : Y.cars.length ≤ 5) (ht : Y.tracks.length ≤ 3) : (Lib.join (DN Y) [10]).length ≤ 2000 := by
  refine IJ (h.line h5) ?_;have : (DN Y).length ≤ 9 := by
    simp only [DN, AR, List.length_append, List.length_map, List.length_zipWith, List.length_cons, List.length_nil];omega
  omega
theorem lines_start {Y : Yard} {k : Nat} (hk : Y.cars.length ≤ k) : (Y.cars.take k).map AQ = Y.cars.map AQ ++ (AR Y).take 0 := by rw [List.take_of_length_le hk, List.take_zero, List.append_nil]
theorem dec1 {n : Nat} (h : n < 10) : Lib.decDigits n = [UInt8.ofNat (48 + n)] := by rw [Lib.decDigits, dif_pos h]
theorem dec2 {n : Nat} (h : 10 ≤ n) (h2 : n < 100) : Lib.decDigits n = [UInt8.ofNat (48 + n / 10), UInt8.ofNat (48 + n % 10)] := by
  rw [Lib.decDigits, dif_neg (by omega), dec1 (by omega)]; rfl
theorem num1 {n : Nat} (h : n < 10) : num n = [UInt8.ofNat (48 + n)] := by rw [num, Lib.itoa, if_neg (by omega)]; exact dec1 h
theorem num2 {n : Nat} (h : 10 ≤ n) (h2 : n < 100) : num n = [UInt8.ofNat (48 + n / 10), UInt8.ofNat (48 + n % 10)] := by rw [num, Lib.itoa, if_neg (by omega)]; exact dec2 h h2
end Go.Sh
namespace Go.Proofs
open Go.Shelf
def Tryz.lays156_ren : Go.Shelf.Ren := ⟨fun | 156 => 119 | 165 => 146 | 166 => 147 | 169 => 148 | 240 => 163 | 241 => 164 | 276 => 174 | 277 => 175 | n => n, fun | 31 => 87 | 9 => 9 | 3 => 3 | 4 => 4 | 0 => 0 | 20 => 20 | 72 => 176 | 76 => 178 | 70 => 174 | 37 => 150 | 75 => 126 | 127 => 203 | 164 => 190 | 5 => 5 | 80 => 180 | n => n, fun | n => n⟩
theorem Tryz.lays156 : Go.Proofs.Lays.n156 Tryz.prog Tryz.lays156_ren := {
  mixed := by kernel_rfl
  f156 := Tryz.func119.trans (congrArg some (by kernel_rfl))
  f165 := Tryz.func146.trans (congrArg some (by kernel_rfl))
  f166 := Tryz.func147.trans (congrArg some (by kernel_rfl))
  f169 := Tryz.func148.trans (congrArg some (by kernel_rfl))
  f240 := Tryz.func163.trans (congrArg some (by kernel_rfl))
  f241 := Tryz.func164.trans (congrArg some (by kernel_rfl))
  f276 := Tryz.func174.trans (congrArg some (by kernel_rfl))
  f277 := Tryz.func175.trans (congrArg some (by kernel_rfl))
  t0 := Tryz.underlying0
  a0 := Tryz.isAgg0
  z0 := Tryz.sizeOf0
  v0 := Tryz.zeroValue0
  t3 := Tryz.underlying3
  a3 := Tryz.isAgg3
  z3 := Tryz.sizeOf3
  v3 := Tryz.zeroValue3
  t4 := Tryz.underlying4
  a4 := Tryz.isAgg4
  z4 := Tryz.sizeOf4
  v4 := Tryz.zeroValue4
  t9 := Tryz.underlying9
  a9 := Tryz.isAgg9
  z9 := Tryz.sizeOf9
  v9 := Tryz.zeroValue9
  t20 := Tryz.underlying20
  a20 := Tryz.isAgg20
  z20 := Tryz.sizeOf20
  v20 := Tryz.zeroValue20
  t31 := Tryz.underlying87
  a31 := Tryz.isAgg87
  z31 := Tryz.sizeOf87
  v31 := Tryz.zeroValue87
  t37 := Tryz.underlying150
  a37 := Tryz.isAgg150
  z37 := Tryz.sizeOf150
  v37 := Tryz.zeroValue150
  t70 := Tryz.underlying174
  a70 := Tryz.isAgg174
  z70 := Tryz.sizeOf174
  v70 := Tryz.zeroValue174
  t72 := Tryz.underlying176
  a72 := Tryz.isAgg176
  z72 := Tryz.sizeOf176
  v72 := Tryz.zeroValue176
  t75 := Tryz.underlying126
  a75 := Tryz.isAgg126
  z75 := Tryz.sizeOf126
  v75 := Tryz.zeroValue126
  t76 := Tryz.underlying178
  a76 := Tryz.isAgg178
  z76 := Tryz.sizeOf178
  v76 := Tryz.zeroValue178
  t127 := Tryz.underlying203
  a127 := Tryz.isAgg203
  z127 := Tryz.sizeOf203
  v127 := Tryz.zeroValue203
  t164 := Tryz.underlying190
  a164 := Tryz.isAgg190
  z164 := Tryz.sizeOf190
  v164 := Tryz.zeroValue190 }
theorem Tryz.Builder_Extra_156 : Builder.Extra Tryz.prog Tryz.lays156_ren := {
  sizeBuilder := by kernel_rfl
  liesBuilder := by kernel_rfl
  t5 := Tryz.underlying5
  a5 := Tryz.isAgg5
  z5 := Tryz.sizeOf5
  v5 := Tryz.zeroValue5
  infoByte := by kernel_rfl
  cellsByte := by kernel_rfl
  sizeByte := by kernel_rfl
  neB5 := by decide }
open Go.RowKit in
theorem Tryz.strings_Join_none (a : Option Addr) (c : Nat) (sep : ByteArray) (w : World) :
    Calls Tryz.prog 119 #[.slice a 0 c, .string sep] w fun e w' => e = .returned (.string ⟨#[]⟩) ∧ w' = w := Any.strings_Join_none Tryz.lays156 Tryz.Builder_Extra_156 a c sep w
open Go.RowKit in
theorem Tryz.strings_Join (bk o c : Nat) (xs : List ByteArray) (sep : ByteArray) (w : World) (hcells : ∀ (j : Nat) x, xs[j]? = some x → w.cell? ⟨bk, o + j, none⟩ = some (.string x)) (hbk : bk < w.heap.size) (hN : xs.length ≤ 140737488355328) (hcap : xs.length ≤ c) (hlen : (Lib.join (xs.map (·.data.toList)) sep.data.toList).length ≤ 140737488355328) :
    Calls Tryz.prog 119 #[.slice (some ⟨bk, o, none⟩) xs.length c, .string sep] w fun e w' => e = .returned (.string ⟨(Lib.join (xs.map (·.data.toList)) sep.data.toList).toArray⟩) ∧ Below w.heap.size w w' := Any.strings_Join Tryz.lays156 Tryz.Builder_Extra_156 bk o c xs sep w hcells hbk hN hcap hlen
def Tryz.laysM171_ren : Go.Shelf.Ren := ⟨fun | 171 => 120 | 243 => 149 | 246 => 165 | 283 => 176 | 284 => 177 | 285 => 178 | 286 => 179 | 129 => 187 | 317 => 186 | 318 => 188 | 319 => 189 | 320 => 190 | 337 => 201 | 338 => 202 | n => n, fun | 3 => 3 | 9 => 9 | 2 => 2 | 4 => 4 | 171 => 223 | 0 => 0 | 53 => 93 | 37 => 150 | 5 => 5 | 173 => 226 | 212 => 234 | 51 => 235 | 20 => 20 | 213 => 236 | 46 => 96 | 232 => 257 | 233 => 258 | n => n, fun | 17 => 2 | 18 => 7 | 19 => 8 | n => n⟩
theorem Tryz.laysM171 : Go.Proofs.LaysM.n171 Tryz.prog Tryz.laysM171_ren := {
  mixed := by kernel_rfl
  f129 := Tryz.func187.trans (congrArg some (by kernel_rfl))
  f171 := Tryz.func120.trans (congrArg some (by kernel_rfl))
  f243 := Tryz.func149.trans (congrArg some (by kernel_rfl))
  f246 := Tryz.func165.trans (congrArg some (by kernel_rfl))
  f283 := Tryz.func176.trans (congrArg some (by kernel_rfl))
  f284 := Tryz.func177.trans (congrArg some (by kernel_rfl))
  f285 := Tryz.func178.trans (congrArg some (by kernel_rfl))
  f286 := Tryz.func179.trans (congrArg some (by kernel_rfl))
  f317 := Tryz.func186.trans (congrArg some (by kernel_rfl))
  f318 := Tryz.func188.trans (congrArg some (by kernel_rfl))
  f319 := Tryz.func189.trans (congrArg some (by kernel_rfl))
  f320 := Tryz.func190.trans (congrArg some (by kernel_rfl))
  f337 := Tryz.func201.trans (congrArg some (by kernel_rfl))
  f338 := Tryz.func202.trans (congrArg some (by kernel_rfl))
  t0 := Tryz.underlying0
  a0 := Tryz.isAgg0
  z0 := Tryz.sizeOf0
  v0 := Tryz.zeroValue0
  t2 := Tryz.underlying2
  a2 := Tryz.isAgg2
  z2 := Tryz.sizeOf2
  v2 := Tryz.zeroValue2
  t3 := Tryz.underlying3
  a3 := Tryz.isAgg3
  z3 := Tryz.sizeOf3
  v3 := Tryz.zeroValue3
  t4 := Tryz.underlying4
  a4 := Tryz.isAgg4
  z4 := Tryz.sizeOf4
  v4 := Tryz.zeroValue4
  t5 := Tryz.underlying5
  a5 := Tryz.isAgg5
  z5 := Tryz.sizeOf5
  v5 := Tryz.zeroValue5
  t9 := Tryz.underlying9
  a9 := Tryz.isAgg9
  z9 := Tryz.sizeOf9
  v9 := Tryz.zeroValue9
  t20 := Tryz.underlying20
  a20 := Tryz.isAgg20
  z20 := Tryz.sizeOf20
  v20 := Tryz.zeroValue20
  t37 := Tryz.underlying150
  a37 := Tryz.isAgg150
  z37 := Tryz.sizeOf150
  v37 := Tryz.zeroValue150
  t46 := Tryz.underlying96
  a46 := Tryz.isAgg96
  z46 := Tryz.sizeOf96
  v46 := Tryz.zeroValue96
  t51 := Tryz.underlying235
  a51 := Tryz.isAgg235
  z51 := Tryz.sizeOf235
  v51 := Tryz.zeroValue235
  t53 := Tryz.underlying93
  a53 := Tryz.isAgg93
  z53 := Tryz.sizeOf93
  v53 := Tryz.zeroValue93
  t171 := Tryz.underlying223
  a171 := Tryz.isAgg223
  z171 := Tryz.sizeOf223
  v171 := Tryz.zeroValue223
  t173 := Tryz.underlying226
  a173 := Tryz.isAgg226
  z173 := Tryz.sizeOf226
  v173 := Tryz.zeroValue226
  t212 := Tryz.underlying234
  a212 := Tryz.isAgg234
  z212 := Tryz.sizeOf234
  v212 := Tryz.zeroValue234
  t213 := Tryz.underlying236
  a213 := Tryz.isAgg236
  z213 := Tryz.sizeOf236
  t232 := Tryz.underlying257
  a232 := Tryz.isAgg257
  z232 := Tryz.sizeOf257
  v232 := Tryz.zeroValue257
  t233 := Tryz.underlying258
  a233 := Tryz.isAgg258
  z233 := Tryz.sizeOf258
  v233 := Tryz.zeroValue258
  g17 := by kernel_rfl
  g18 := by kernel_rfl
  g19 := by kernel_rfl
  i0 := by kernel_rfl
  i2 := by kernel_rfl
  i3 := by kernel_rfl
  i4 := by kernel_rfl
  i5 := by kernel_rfl
  i9 := by kernel_rfl
  i20 := by kernel_rfl
  i37 := by kernel_rfl
  i46 := by kernel_rfl
  i51 := by kernel_rfl
  i53 := by kernel_rfl
  i171 := by kernel_rfl
  i173 := by kernel_rfl
  i212 := by kernel_rfl
  i232 := by kernel_rfl
  i233 := by kernel_rfl
  m17 := by kernel_rfl
  m18 := by kernel_rfl
  m19 := by kernel_rfl }
open Go.RowKit Go.Sort Go.Lib in
theorem Tryz.strconv_Itoa (n : Int) (h0 : -9223372036854775808 ≤ n) (h1 : n ≤ 9223372036854775807) (w : World) (htab : Lib.TabIs Tryz.prog w "internal/strconv.uint64pow10" .u64 Lib.pow10Tab) :
    Calls Tryz.prog 120 #[.int .i64 n] w fun e w' => e = .returned (.string ⟨(Lib.itoa n).toArray⟩) ∧ ∃ k os, w' = grow (w.drewN k) os := Any.strconv_Itoa Tryz.laysM171 n h0 h1 w htab
def Tryz.lays171_ren : Go.Shelf.Ren := ⟨fun | 171 => 120 | 243 => 149 | 246 => 165 | 283 => 176 | 284 => 177 | 285 => 178 | 286 => 179 | 129 => 187 | 317 => 186 | 318 => 188 | 319 => 189 | 320 => 190 | 337 => 201 | 338 => 202 | n => n, fun | 3 => 3 | 9 => 9 | 2 => 2 | 4 => 4 | 171 => 223 | 0 => 0 | 53 => 93 | 37 => 150 | 5 => 5 | 173 => 226 | 212 => 234 | 51 => 235 | 20 => 20 | 213 => 236 | 46 => 96 | 232 => 257 | 233 => 258 | n => n, fun | 17 => 2 | 18 => 7 | 19 => 8 | n => n⟩
theorem Tryz.lays171 : Go.Proofs.Lays.n171 Tryz.prog Tryz.lays171_ren := {
  mixed := by kernel_rfl
  f129 := Tryz.func187.trans (congrArg some (by kernel_rfl))
  f171 := Tryz.func120.trans (congrArg some (by kernel_rfl))
  f243 := Tryz.func149.trans (congrArg some (by kernel_rfl))
  f246 := Tryz.func165.trans (congrArg some (by kernel_rfl))
  f283 := Tryz.func176.trans (congrArg some (by kernel_rfl))
  f284 := Tryz.func177.trans (congrArg some (by kernel_rfl))
  f285 := Tryz.func178.trans (congrArg some (by kernel_rfl))
  f286 := Tryz.func179.trans (congrArg some (by kernel_rfl))
  f317 := Tryz.func186.trans (congrArg some (by kernel_rfl))
  f318 := Tryz.func188.trans (congrArg some (by kernel_rfl))
  f319 := Tryz.func189.trans (congrArg some (by kernel_rfl))
  f320 := Tryz.func190.trans (congrArg some (by kernel_rfl))
  f337 := Tryz.func201.trans (congrArg some (by kernel_rfl))
  f338 := Tryz.func202.trans (congrArg some (by kernel_rfl))
  t0 := Tryz.underlying0
  a0 := Tryz.isAgg0
  z0 := Tryz.sizeOf0
  v0 := Tryz.zeroValue0
  t2 := Tryz.underlying2
  a2 := Tryz.isAgg2
  z2 := Tryz.sizeOf2
  v2 := Tryz.zeroValue2
  t3 := Tryz.underlying3
  a3 := Tryz.isAgg3
  z3 := Tryz.sizeOf3
  v3 := Tryz.zeroValue3
  t4 := Tryz.underlying4
  a4 := Tryz.isAgg4
  z4 := Tryz.sizeOf4
  v4 := Tryz.zeroValue4
  t5 := Tryz.underlying5
  a5 := Tryz.isAgg5
  z5 := Tryz.sizeOf5
  v5 := Tryz.zeroValue5
  t9 := Tryz.underlying9
  a9 := Tryz.isAgg9
  z9 := Tryz.sizeOf9
  v9 := Tryz.zeroValue9
  t20 := Tryz.underlying20
  a20 := Tryz.isAgg20
  z20 := Tryz.sizeOf20
  v20 := Tryz.zeroValue20
  t37 := Tryz.underlying150
  a37 := Tryz.isAgg150
  z37 := Tryz.sizeOf150
  v37 := Tryz.zeroValue150
  t46 := Tryz.underlying96
  a46 := Tryz.isAgg96
  z46 := Tryz.sizeOf96
  v46 := Tryz.zeroValue96
  t51 := Tryz.underlying235
  a51 := Tryz.isAgg235
  z51 := Tryz.sizeOf235
  v51 := Tryz.zeroValue235
  t53 := Tryz.underlying93
  a53 := Tryz.isAgg93
  z53 := Tryz.sizeOf93
  v53 := Tryz.zeroValue93
  t171 := Tryz.underlying223
  a171 := Tryz.isAgg223
  z171 := Tryz.sizeOf223
  v171 := Tryz.zeroValue223
  t173 := Tryz.underlying226
  a173 := Tryz.isAgg226
  z173 := Tryz.sizeOf226
  v173 := Tryz.zeroValue226
  t212 := Tryz.underlying234
  a212 := Tryz.isAgg234
  z212 := Tryz.sizeOf234
  v212 := Tryz.zeroValue234
  t213 := Tryz.underlying236
  a213 := Tryz.isAgg236
  z213 := Tryz.sizeOf236
  t232 := Tryz.underlying257
  a232 := Tryz.isAgg257
  z232 := Tryz.sizeOf257
  v232 := Tryz.zeroValue257
  t233 := Tryz.underlying258
  a233 := Tryz.isAgg258
  z233 := Tryz.sizeOf258
  v233 := Tryz.zeroValue258
  g17 := by kernel_rfl
  g18 := by kernel_rfl
  g19 := by kernel_rfl }
open Go.RowKit Go.Sort Go.Lib in
theorem Tryz.strconv_Itoa_small (i : Nat) (hi : i < 100) (w : World) :
    Calls Tryz.prog 120 #[.int .i64 i] w fun e w' => e = .returned (.string ⟨(Lib.decDigits i).toArray⟩) ∧ w' = w := Any.strconv_Itoa_small Tryz.lays171 i hi w
end Go.Proofs
namespace Go.Sl
open Go Go.RowKit
def Tab10 (I : Imm) : Prop := ∀ F w, St I F w → Lib.TabIs Go.Proofs.Tryz.prog w "internal/strconv.uint64pow10" .u64 Lib.pow10Tab
def Tell (I : Imm) (n : Int) : Prop := 0 ≤ n ∧ (n < 100 ∨ n ≤ 9223372036854775807 ∧ Tab10 I)
theorem EL (I : Imm) (n : Int) (h : Tell I n) : CtV Go.Proofs.Tryz.prog 120 #[.int .i64 n] I (sV (Lib.itoa n)) := by
  refine ct_below fun F w st => ?_
  rcases h.2 with h2 | ⟨h2, ht⟩
  · obtain ⟨k, rfl⟩ : ∃ k : Nat, n = ↑k := ⟨n.toNat, by have := h.1; omega⟩
    refine (Go.Proofs.Tryz.strconv_Itoa_small k (by omega) w).mono ?_
    rintro e w' ⟨rfl, rfl⟩
    exact ⟨by rw [Lib.itoa, if_neg (by omega)]; rfl, Below.refl _ _⟩
  · refine (Go.Proofs.Tryz.strconv_Itoa n (by have := h.1; omega) h2 w (ht F w st)).mono ?_
    rintro e w' ⟨rfl, k, os, rfl⟩
    refine ⟨rfl, rfl, rfl, rfl, ?_, fun j hj => ?_⟩
    · show w.heap.size ≤ (w.heap ++ os).size
      rw [Array.size_append]; omega
    · show (w.heap ++ os)[j]? = w.heap[j]?
      exact Array.getElem?_append_left hj
theorem MR (I : Imm) (v : Value) (xs : List (List UInt8)) (sep : List UInt8) (hv : IsStrs I v xs) (hl : (Lib.join xs sep).length ≤ 140737488355328) : CtV Go.Proofs.Tryz.prog 119 #[v, sV sep] I (sV (Lib.join xs sep)) := by
  refine ct_below fun F w st => ?_
  obtain ⟨a, c, b, o, rfl, h1, h2, h3⟩ := hv
  by_cases h0 : xs.length = 0
  · obtain rfl := List.length_eq_zero_iff.1 h0
    refine (Go.Proofs.Tryz.strings_Join_none a c (sB sep) w).mono ?_
    rintro e w' ⟨rfl, rfl⟩
    exact ⟨rfl, Below.refl _ _⟩
  · obtain rfl := h3.addr (by omega)
    have hm : (xs.map sB).map (fun x => x.data.toList) = xs := by rw [List.map_map]; exact List.map_id'' (fun x => rfl) xs
    have hs := Go.Proofs.Tryz.strings_Join b o c (xs.map sB) (sB sep) w (fun j x hj => by
      rw [List.getElem?_map] at hj
      obtain ⟨z, hz, rfl⟩ := Option.map_eq_some_iff.1 hj
      obtain ⟨hlt, rfl⟩ := List.getElem?_eq_some_iff.1 hz
      have hc := (HZ h3 (M := F) j hlt).cell st
      rw [Nat.mul_one] at hc
      rw [hc, List.getD_eq_getElem?_getD, List.getElem?_eq_getElem hlt]
      rfl) (by
      obtain ⟨_, cs, T, fz, hb, _⟩ := h3.get 0 (by omega) 0 (by decide)
      exact (Array.getElem?_eq_some_iff.1 (st.imm _ _ hb)).1) (by rw [List.length_map]; exact h2) (by rw [List.length_map]; exact h1) (by rw [hm]; exact hl)
    rw [hm, List.length_map] at hs;exact hs
theorem Tab10.mono {I J : Imm} (h : Tab10 I) (le : I.le J) : Tab10 J := fun F w st => h [] w ⟨st.os.trans le.os, st.tape.trans le.tape, st.output.trans le.output, fun b o hb => st.imm b o (le.blk b o hb), fun b o hb => (by cases hb), List.nodup_nil, fun b o hb => (by cases hb)⟩
theorem Tell.mono {I J : Imm} {n : Int} (h : Tell I n) (le : I.le J) : Tell J n := ⟨h.1, h.2.imp id fun h => ⟨h.1, h.2.mono le⟩⟩
theorem Tell.len {I : Imm} {n : Int} (h : Tell I n) : (Lib.itoa n).length ≤ 21 := Sh.num_le n h.1 (by have := h.2; omega)
structure TellY (I : Imm) (Y : Sh.Yard) : Prop where
  cars : ∀ c ∈ Y.cars, Tell I c.len ∧ Tell I c.wt ∧ Tell I c.brk ∧ Tell I c.grp
  room : ∀ r ∈ Y.room, Tell I r
  tracks : ∀ t ∈ Y.tracks, ∀ x ∈ t, Tell I x
theorem TellY.mono {I J : Imm} {Y : Sh.Yard} (h : TellY I Y) (le : I.le J) : TellY J Y :=
  ⟨fun c hc => have := h.cars c hc; ⟨this.1.mono le, this.2.1.mono le, this.2.2.1.mono le, this.2.2.2.mono le⟩, fun r hr => (h.room r hr).mono le, fun t ht x hx => (h.tracks t ht x hx).mono le⟩
theorem TellY.len {I : Imm} {Y : Sh.Yard} (h : TellY I Y) : Sh.LenY Y :=
  ⟨fun c hc => have := h.cars c hc; ⟨this.1.len, this.2.1.len, this.2.2.1.len, this.2.2.2.len⟩, fun r hr => (h.room r hr).len, fun t ht x hx => (h.tracks t ht x hx).len⟩
def TellV (I : Imm) (Y : Sh.Yard) : Prop := Sh.checkErr Y = 0 → TellY I Y
theorem TellV.mono {I J : Imm} {Y : Sh.Yard} (h : TellV I Y) (le : I.le J) : TellV J Y := fun hz => (h hz).mono le
theorem Tell.small {I : Imm} {n : Int} (h : 0 ≤ n ∧ n < 100) : Tell I n := ⟨h.1, .inl h.2⟩
theorem TellV.small {I : Imm} {Y : Sh.Yard} (h : (∀ c ∈ Y.cars, (0 ≤ c.len ∧ c.len < 100) ∧ (0 ≤ c.wt ∧ c.wt < 100) ∧ (0 ≤ c.brk ∧ c.brk < 100) ∧ (0 ≤ c.grp ∧ c.grp < 100)) ∧ (∀ r ∈ Y.room, 0 ≤ r ∧ r < 100) ∧ ∀ t ∈ Y.tracks, ∀ x ∈ t, 0 ≤ x ∧ x < 100) : TellV I Y := fun _ =>
  ⟨fun c hc => have := h.1 c hc; ⟨.small this.1, .small this.2.1, .small this.2.2.1, .small this.2.2.2⟩, fun r hr => .small (h.2.1 r hr), fun t ht x hx => .small (h.2.2 t ht x hx)⟩
end Go.Sl
namespace Go.Sh
open Go Go.Sl
def cutL (b : UInt8) : List UInt8 → List (List UInt8)
  | [] => [[]]
  | c :: s => if c = b then [] :: cutL b s else match cutL b s with
    | [] => [[c]]
    | x :: r => (c :: x) :: r
theorem MT (b : UInt8) : ∀ s, cutL b s ≠ []
  | [] => by simp [cutL]
  | c :: s => by
    unfold cutL
    split
    · simp
    · split <;> simp
theorem GM {b : UInt8} : ∀ {s : List UInt8}, b ∉ s → cutL b s = [s]
  | [], _ => rfl
  | c :: s, h => by
    simp only [List.mem_cons, not_or] at h;rw [cutL, if_neg (Ne.symm h.1), GM h.2]
theorem LR {b : UInt8} : ∀ {s : List UInt8} (t : List UInt8), b ∉ s → cutL b (s ++ b :: t) = s :: cutL b t
  | [], t, _ => by rw [List.nil_append, cutL, if_pos rfl]
  | c :: s, t, h => by
    simp only [List.mem_cons, not_or] at h;rw [List.cons_append, cutL, if_neg (Ne.symm h.1), LR t h.2]
theorem HC {b : UInt8} : ∀ {s : List UInt8}, Lib.join (cutL b s) [b] = s
  | [] => rfl
  | c :: s => by
    have ih := HC (b := b) (s := s);unfold cutL
    split
    · rename_i hc
      subst hc;cases e : cutL c s with
      | nil => exact absurd e (MT c s)
      | cons x r =>
        rw [e, Lib.join_cons] at ih;rw [Lib.join_cons, List.nil_append];show [c] ++ x ++ Lib.joinTail [c] r = c :: s;rw [← ih]; rfl
    · split
      · rename_i e; exact absurd e (MT b s)
      · rename_i x r e
        rw [e, Lib.join_cons] at ih;rw [Lib.join_cons, ← ih]; rfl
theorem GN {b : UInt8} : ∀ {l : List (List UInt8)}, l ≠ [] → (∀ x ∈ l, b ∉ x) → cutL b (Lib.join l [b]) = l
  | [], h, _ => absurd rfl h
  | [x], _, h => by
    rw [Lib.join_cons];show cutL b (x ++ []) = [x];rw [List.append_nil];exact GM (h x (List.mem_cons_self ..))
  | x :: y :: r, _, h => by
    have ih := GN (b := b) (l := y :: r) (by simp) fun z hz => h z (List.mem_cons_of_mem _ hz)
    rw [Lib.join_cons] at ih ⊢;show cutL b (x ++ (b :: (y ++ Lib.joinTail [b] r))) = _;rw [LR _ (h x (List.mem_cons_self ..)), ih]
theorem OU {b : UInt8} : ∀ {s : List UInt8}, (cutL b s).length = s.count b + 1
  | [] => rfl
  | c :: s => by
    have ih := OU (b := b) (s := s);unfold cutL
    split
    · rename_i hc; subst hc
      rw [List.length_cons, ih, List.count_cons_self]
    · rename_i hc
      rw [List.count_cons_of_ne (by exact hc)]
      split
      · rename_i e; rw [e] at ih; simp at ih
      · rename_i x r e; rw [e] at ih; simpa using ih
theorem cutL_len_le {b : UInt8} {s : List UInt8} : (cutL b s).length ≤ s.length + 1 := by
  rw [OU]; have := List.count_le_length (a := b) (l := s); omega
theorem JB {b : UInt8} : ∀ {s : List UInt8}, ∀ x ∈ cutL b s, x.length ≤ s.length
  | [], x, hx => by simp [cutL] at hx; subst hx; simp
  | c :: s, x, hx => by
    have ih := JB (b := b) (s := s);unfold cutL at hx
    split at hx
    · rcases List.mem_cons.1 hx with rfl | hx
      · simp
      · have := ih x hx; simp; omega
    · split at hx
      · simp at hx; subst hx; simp
      · rename_i y r e
        rw [e] at ih;rcases List.mem_cons.1 hx with rfl | hx
        · have := ih y (List.mem_cons_self ..)
          simpa using this
        · have := ih x (List.mem_cons_of_mem _ hx); simp; omega
def Cutting (b : UInt8) (s : List UInt8) (i frm : Nat) (out : List (List UInt8)) : Prop :=
  (i ≤ s.length ∧ frm ≤ i ∧ cutL b s = out ++ cutL b (s.drop frm) ∧ ∀ k, frm ≤ k → k < i → s.getD k 0 ≠ b) ∨ (i = s.length + 1 ∧ frm = s.length + 1 ∧ out = cutL b s)
theorem Cutting.start {b : UInt8} {s : List UInt8} : Cutting b s 0 0 [] := .inl ⟨Nat.zero_le _, Nat.le_refl _, rfl, fun k _ h => by omega⟩
theorem Cutting.le {b : UInt8} {s : List UInt8} {i frm : Nat} {out : List (List UInt8)} (h : Cutting b s i frm out) : i ≤ s.length + 1 := by
  rcases h with h | h
  · have := h.1; omega
  · omega
theorem Cutting.free {b : UInt8} {s : List UInt8} {i frm : Nat} (h1 : frm ≤ i) (h : i ≤ s.length) (hf : ∀ k, frm ≤ k → k < i → s.getD k 0 ≠ b) : b ∉ (s.drop frm).take (i - frm) := by
  intro hm;obtain ⟨k, hk, e⟩ := List.mem_iff_getElem.1 hm;simp only [List.length_take, List.length_drop] at hk;simp only [List.getElem_take, List.getElem_drop] at e;exact hf (frm + k) (by omega) (by omega) (by simp [List.getD_eq_getElem?_getD, List.getElem?_eq_getElem (show frm + k < s.length by omega), e])
theorem Cutting.hit {b : UInt8} {s : List UInt8} {i frm : Nat} {out : List (List UInt8)} (h : Cutting b s i frm out) (hi : i < s.length) (hn : s.getD i 0 = b) : Cutting b s (i + 1) (i + 1) (out ++ [(s.drop frm).take (i - frm)]) := by
  rcases h with ⟨h1, h2, h3, h4⟩ | h
  · refine .inl ⟨hi, Nat.le_refl _, ?_, fun k hk hk2 => by omega⟩
    have e : s.drop frm = (s.drop frm).take (i - frm) ++ b :: s.drop (i + 1) := by
      conv => lhs; rw [← List.take_append_drop (i - frm) (s.drop frm)]
      rw [List.drop_drop, show frm + (i - frm) = i by omega, List.drop_eq_getElem_cons hi]
      congr 2
      simpa [List.getD_eq_getElem?_getD, List.getElem?_eq_getElem hi] using hn
    rw [h3, List.append_assoc]
    congr 1
    conv => lhs; rw [e]
    rw [LR _ (Cutting.free h2 h1 h4)]; rfl
  · omega
theorem Cutting.last {b : UInt8} {s : List UInt8} {i frm : Nat} {out : List (List UInt8)} (h : Cutting b s i frm out) (hi : i = s.length) : Cutting b s (i + 1) (i + 1) (out ++ [(s.drop frm).take (i - frm)]) := by
  rcases h with ⟨h1, h2, h3, h4⟩ | h
  · subst hi
    refine .inr ⟨rfl, rfl, ?_⟩;have hf := Cutting.free h2 h1 h4;rw [List.take_of_length_le (by rw [List.length_drop]; omega)] at hf ⊢;rw [h3, GM hf]
  · omega
theorem Cutting.done {b : UInt8} {s : List UInt8} {i frm : Nat} {out : List (List UInt8)} (h : Cutting b s i frm out) (hi : s.length < i) : out = cutL b s := by
  rcases h with h | h
  · omega
  · exact h.2.2
theorem Cutting.len {b : UInt8} {s : List UInt8} {i frm : Nat} {out : List (List UInt8)} (h : Cutting b s i frm out) : out.length ≤ s.length + 1 := by
  have hl := cutL_len_le (b := b) (s := s);rcases h with ⟨_, _, h3, _⟩ | ⟨_, _, h3⟩
  · rw [h3, List.length_append] at hl; omega
  · rw [h3]; exact hl
def JQ (c : UInt8) : Bool := decide (48 ≤ c.toNat) && decide (c.toNat ≤ 57)
def JJ (s : List UInt8) : Int := s.foldl (fun n c => 10 * n + ((c.toNat : Int) - 48)) 0
def ED (s : List UInt8) : Bool := decide (1 ≤ s.length) && decide (s.length ≤ 3) && !(decide (s.getD 0 0 = 48) && decide (1 < s.length)) && s.all JQ
def EJ (l : List (List UInt8)) : Bool := l.all ED
def AE (l : List (List UInt8)) : List Int := if EJ l = true then l.map JJ else []
theorem fold_bound : ∀ {s : List UInt8} {a : Int}, 0 ≤ a → s.all JQ = true → 0 ≤ s.foldl (fun n c => 10 * n + ((c.toNat : Int) - 48)) a ∧ s.foldl (fun n c => 10 * n + ((c.toNat : Int) - 48)) a < (a + 1) * 10 ^ s.length
  | [], a, h, _ => by simp; omega
  | c :: s, a, h, hd => by
    rw [List.all_cons, Bool.and_eq_true] at hd;have hc := hd.1;simp only [JQ, Bool.and_eq_true, decide_eq_true_eq] at hc;have ih := fold_bound (s := s) (a := 10 * a + ((c.toNat : Int) - 48)) (by omega) hd.2;rw [List.foldl_cons];refine ⟨ih.1, Int.lt_of_lt_of_le ih.2 ?_⟩;rw [List.length_cons, Int.pow_succ, Int.mul_comm (10 ^ s.length) 10, ← Int.mul_assoc];exact Int.mul_le_mul_of_nonneg_right (by omega) (Int.pow_nonneg (by decide))
theorem numV_bound {s : List UInt8} (h : s.all JQ = true) : 0 ≤ JJ s ∧ JJ s < 10 ^ s.length := by
  have := fold_bound (a := 0) (by decide) h;unfold JJ
  simpa using this
theorem numV_small {s : List UInt8} (h : s.all JQ = true) (hl : s.length ≤ 3) : 0 ≤ JJ s ∧ JJ s < 1000 := by
  have hb := numV_bound h;refine ⟨hb.1, Int.lt_of_lt_of_le hb.2 ?_⟩;have : s.length = 0 ∨ s.length = 1 ∨ s.length = 2 ∨ s.length = 3 := by omega
  rcases this with e | e | e | e <;> rw [e] <;> decide
def CX : List UInt8 := [99, 111, 97, 99, 104]
def CV : List UInt8 := [116, 114, 97, 99, 107]
def CT : List UInt8 := [112, 111, 105, 110, 116, 115]
def LG (m : List UInt8) : Bool := decide (m = [45]) || decide (m = [112]) || decide (m = [104]) || decide (m = [112, 104])
def carOf (l : List Int) (m : List UInt8) : Car := ⟨l.getD 0 0, l.getD 1 0, l.getD 2 0, l.getD 3 0, decide (m.getD 0 0 = 112), decide (m.getD (m.length - 1) 0 = 104)⟩
def JL (w : List (List UInt8)) : Bool := decide (w.length = 6) && decide (w.getD 0 [] = CX) && (EJ ((w.drop 1).take 4) && LG (w.getD 5 []))
def coachV (w : List (List UInt8)) : Car := if JL w = true then carOf (AE ((w.drop 1).take 4)) (w.getD 5 []) else AB
def HK (r : List UInt8) : Bool := decide (r = []) || EJ (cutL 44 r)
def MH (r : List UInt8) : List Int := if r = [] then [] else AE (cutL 44 r)
def LL (w : List (List UInt8)) : Bool := decide (w.length = 2) && decide (w.getD 0 [] = CV) && (decide ((cutL 58 (w.getD 1 [])).length = 2) && (ED ((cutL 58 (w.getD 1 [])).getD 0 []) && HK ((cutL 58 (w.getD 1 [])).getD 1 [])))
def roomV (w : List (List UInt8)) : Int := JJ ((cutL 58 (w.getD 1 [])).getD 0 [])
def trackV (w : List (List UInt8)) : List Int := MH ((cutL 58 (w.getD 1 [])).getD 1 [])
def HN (Y : Yard) (e : Bool) (row : List UInt8) : Option (Yard × Bool) :=
  if e = true then none
  else if JL (cutL 32 row) = true ∧ Y.room = [] then some (⟨Y.cars ++ [coachV (cutL 32 row)], Y.room, Y.tracks⟩, false)
  else if LL (cutL 32 row) = true then some (⟨Y.cars, Y.room ++ [roomV (cutL 32 row)], Y.tracks ++ [trackV (cutL 32 row)]⟩, false)
  else if row = CT then some (Y, true)
  else none
def endM (Y : Yard) (e : Bool) (last : List UInt8) (i : Nat) : Yard × Int × Int :=
  if e = true ∧ last = [] then (if checkErr Y = 0 then (Y, 0, 0) else (BE, 0, checkErr Y)) else (BE, ↑i + 1, 2)
def DI (last : List UInt8) : List (List UInt8) → Nat → Yard → Bool → Yard × Int × Int
  | [], i, Y, e => endM Y e last i
  | row :: rows, i, Y, e => match HN Y e row with
    | none => (BE, ↑i + 1, 2)
    | some p => DI last rows (i + 1) p.1 p.2
theorem LW {last row : List UInt8} {rows : List (List UInt8)} {i : Nat} {Y Z : Yard} {e f : Bool} (h : HN Y e row = some (Z, f)) : DI last (row :: rows) i Y e = DI last rows (i + 1) Z f := by
  rw [DI, h]
theorem from_none {last row : List UInt8} {rows : List (List UInt8)} {i : Nat} {Y : Yard} {e : Bool} (h : HN Y e row = none) : DI last (row :: rows) i Y e = (BE, (i : Int) + 1, 2) := by
  rw [DI, h]
theorem from_nil {last : List UInt8} {i : Nat} {Y : Yard} {e : Bool} : DI last [] i Y e = endM Y e last i := rfl
def readL (l : List (List UInt8)) : Yard × Int × Int := DI (l.getD (l.length - 1) []) (l.take (l.length - 1)) 0 BE false
def BH (t : List UInt8) : Yard × Int × Int := if 300 < t.length then (BE, 0, 10) else readL (cutL 10 t)
theorem dig_of {c : UInt8} (h : JQ c = true) : ∃ d : Nat, d ≤ 9 ∧ c = UInt8.ofNat (48 + d) ∧ c.toNat = 48 + d := by
  simp only [JQ, Bool.and_eq_true, decide_eq_true_eq] at h;exact ⟨c.toNat - 48, by omega, by rw [show 48 + (c.toNat - 48) = c.toNat by omega, UInt8.ofNat_toNat], by omega⟩
theorem GP {d : Nat} (h : d ≤ 9) : (UInt8.ofNat (48 + d)).toNat = 48 + d := by
  rw [UInt8.toNat_ofNat']; omega
theorem II {d : Nat} (h : d ≤ 9) : JQ (UInt8.ofNat (48 + d)) = true := by
  unfold JQ; rw [GP h]; simp; omega
theorem ofd_48 {d : Nat} (h : d ≤ 9) : UInt8.ofNat (48 + d) = 48 ↔ d = 0 := by
  rw [← UInt8.toNat_inj, GP h];show 48 + d = 48 ↔ _;omega
theorem dec3 {n : Nat} (h : 100 ≤ n) (h2 : n < 1000) : Lib.decDigits n = [UInt8.ofNat (48 + n / 100), UInt8.ofNat (48 + n / 10 % 10), UInt8.ofNat (48 + n % 10)] := by
  rw [Lib.decDigits, dif_neg (by omega), dec2 (n := n / 10) (by omega) (by omega)];rw [show n / 10 / 10 = n / 100 by omega]; rfl
theorem dec_pos (n : Nat) : 1 ≤ (Lib.decDigits n).length := by
  rw [Lib.decDigits]; split <;> simp
theorem dec_more {n : Nat} (h : 10 ≤ n) : (Lib.decDigits n).length = (Lib.decDigits (n / 10)).length + 1 := by
  conv => lhs; rw [Lib.decDigits, dif_neg (by omega)]
  simp
theorem dec_long {n : Nat} (h : (Lib.decDigits n).length ≤ 3) : n < 1000 := by
  apply Classical.byContradiction; intro hn
  have h1 := dec_more (n := n) (by omega);have h2 := dec_more (n := n / 10) (by omega);have h3 := dec_more (n := n / 10 / 10) (by omega);have := dec_pos (n / 10 / 10 / 10);omega
theorem num_nat (n : Nat) : num (n : Int) = Lib.decDigits n := by rw [num, Lib.itoa, if_neg (by omega)]; rfl
theorem numV_1 {a : Nat} (ha : a ≤ 9) : JJ [UInt8.ofNat (48 + a)] = (a : Int) := by
  simp only [JJ, List.foldl_cons, List.foldl_nil, GP ha]; omega
theorem numV_2 {a b : Nat} (ha : a ≤ 9) (hb : b ≤ 9) : JJ [UInt8.ofNat (48 + a), UInt8.ofNat (48 + b)] = ((10 * a + b : Nat) : Int) := by
  simp only [JJ, List.foldl_cons, List.foldl_nil, GP ha, GP hb]; omega
theorem numV_3 {a b c : Nat} (ha : a ≤ 9) (hb : b ≤ 9) (hc : c ≤ 9) : JJ [UInt8.ofNat (48 + a), UInt8.ofNat (48 + b), UInt8.ofNat (48 + c)] = ((100 * a + 10 * b + c : Nat) : Int) := by
  simp only [JJ, List.foldl_cons, List.foldl_nil, GP ha, GP hb, GP hc]; omega
theorem numIs_1 {a : Nat} (ha : a ≤ 9) : ED [UInt8.ofNat (48 + a)] = true := by
  simp only [ED, List.length_cons, List.length_nil, List.all_cons, List.all_nil, II ha]; simp
theorem numIs_2 {a b : Nat} (h0 : 1 ≤ a) (ha : a ≤ 9) (hb : b ≤ 9) : ED [UInt8.ofNat (48 + a), UInt8.ofNat (48 + b)] = true := by
  have := mt (ofd_48 ha).1 (by omega);simp only [ED, List.length_cons, List.length_nil, List.getD_cons_zero, List.all_cons, List.all_nil, II ha, II hb, decide_eq_false this]; simp
theorem numIs_3 {a b c : Nat} (h0 : 1 ≤ a) (ha : a ≤ 9) (hb : b ≤ 9) (hc : c ≤ 9) : ED [UInt8.ofNat (48 + a), UInt8.ofNat (48 + b), UInt8.ofNat (48 + c)] = true := by
  have := mt (ofd_48 ha).1 (by omega);simp only [ED, List.length_cons, List.length_nil, List.getD_cons_zero, List.all_cons, List.all_nil, II ha, II hb, II hc, decide_eq_false this]; simp
theorem num_form {n : Nat} (h : n < 1000) :
    (∃ a, a ≤ 9 ∧ n = a ∧ Lib.decDigits n = [UInt8.ofNat (48 + a)]) ∨ (∃ a b, 1 ≤ a ∧ a ≤ 9 ∧ b ≤ 9 ∧ n = 10 * a + b ∧ Lib.decDigits n = [UInt8.ofNat (48 + a), UInt8.ofNat (48 + b)])
      ∨ ∃ a b c, 1 ≤ a ∧ a ≤ 9 ∧ b ≤ 9 ∧ c ≤ 9 ∧ n = 100 * a + 10 * b + c ∧ Lib.decDigits n = [UInt8.ofNat (48 + a), UInt8.ofNat (48 + b), UInt8.ofNat (48 + c)] := by
  by_cases h1 : n < 10
  · exact .inl ⟨n, by omega, rfl, dec1 h1⟩
  · by_cases h2 : n < 100
    · exact .inr (.inl ⟨n / 10, n % 10, by omega, by omega, by omega, by omega, dec2 (by omega) h2⟩)
    · exact .inr (.inr ⟨n / 100, n / 10 % 10, n % 10, by omega, by omega, by omega, by omega, by omega, dec3 (by omega) h⟩)
theorem num_law {n : Nat} (h : n < 1000) : ED (num (n : Int)) = true ∧ JJ (num (n : Int)) = n := by
  rw [num_nat];rcases num_form h with ⟨a, ha, e, e2⟩ | ⟨a, b, h0, ha, hb, e, e2⟩ | ⟨a, b, c, h0, ha, hb, hc, e, e2⟩ <;> rw [e2]
  · exact ⟨numIs_1 ha, by rw [numV_1 ha, e]⟩
  · exact ⟨numIs_2 h0 ha hb, by rw [numV_2 ha hb, e]⟩
  · exact ⟨numIs_3 h0 ha hb hc, by rw [numV_3 ha hb hc, e]⟩
theorem GK {x : Int} (h : 0 ≤ x ∧ x < 1000) : ED (num x) = true ∧ JJ (num x) = x := by
  obtain ⟨n, rfl⟩ : ∃ n : Nat, x = n := ⟨x.toNat, by omega⟩;exact num_law (by omega)
theorem read_num {s : List UInt8} (h : ED s = true) : num (JJ s) = s := by
  simp only [ED, Bool.and_eq_true, decide_eq_true_eq, Bool.not_eq_true', Bool.and_eq_false_iff, decide_eq_false_iff_not] at h;obtain ⟨⟨⟨h1, h2⟩, h3⟩, h4⟩ := h
  match s, h1, h2, h3, h4 with
  | [x], _, _, _, h4 =>
    simp only [List.all_cons, List.all_nil, Bool.and_true] at h4;obtain ⟨a, ha, rfl, _⟩ := dig_of h4;rw [numV_1 ha, num_nat, dec1 (by omega)]
  | [x, y], _, _, h3, h4 =>
    simp only [List.all_cons, List.all_nil, Bool.and_true, Bool.and_eq_true] at h4;obtain ⟨a, ha, rfl, _⟩ := dig_of h4.1;obtain ⟨b, hb, rfl, _⟩ := dig_of h4.2;have h0 : a ≠ 0 := fun e => by
      rcases h3 with h3 | h3
      · exact h3 (by simp [(ofd_48 ha).2 e])
      · simp at h3
    rw [numV_2 ha hb, num_nat, dec2 (by omega) (by omega), show (10 * a + b) / 10 = a by omega, show (10 * a + b) % 10 = b by omega]
  | [x, y, z], _, _, h3, h4 =>
    simp only [List.all_cons, List.all_nil, Bool.and_true, Bool.and_eq_true] at h4;obtain ⟨a, ha, rfl, _⟩ := dig_of h4.1;obtain ⟨b, hb, rfl, _⟩ := dig_of h4.2.1;obtain ⟨c, hc, rfl, _⟩ := dig_of h4.2.2;have h0 : a ≠ 0 := fun e => by
      rcases h3 with h3 | h3
      · exact h3 (by simp [(ofd_48 ha).2 e])
      · simp at h3
    rw [numV_3 ha hb hc, num_nat, dec3 (by omega) (by omega), show (100 * a + 10 * b + c) / 100 = a by omega, show (100 * a + 10 * b + c) / 10 % 10 = b by omega, show (100 * a + 10 * b + c) % 10 = c by omega]
  | _ :: _ :: _ :: _ :: _, _, h2, _, _ => simp at h2
def atoiV (s : List UInt8) : Int := match Lib.atoiAll s with
  | .ok v => v
  | .range => Lib.atoiSat s
  | _ => 0
def atoiOk (s : List UInt8) : Bool := match Lib.atoiAll s with
  | .ok _ => true
  | _ => false
theorem parse_go : ∀ {s : List UInt8} {a : Nat}, s.all JQ = true → a * 10 ^ s.length + 10 ^ s.length ≤ 10000 → Lib.parseUint10 a s = .ok (s.foldl (fun n c => 10 * n + ((c.toNat : Int) - 48)) (a : Int)).toNat
  | [], a, _, _ => by simp [Lib.parseUint10]
  | c :: s, a, hd, hb => by
    rw [List.all_cons, Bool.and_eq_true] at hd;have hc := hd.1;simp only [JQ, Bool.and_eq_true, decide_eq_true_eq] at hc;have hp : 1 ≤ 10 ^ s.length := Nat.pos_of_ne_zero (by simp);rw [List.length_cons, Nat.pow_succ] at hb;have ha : a * 10 ≤ 10000 := by
      have : a * 10 ≤ a * (10 ^ s.length * 10) := Nat.mul_le_mul_left _ (by omega);omega
    rw [Lib.parseUint10, if_pos hc, if_neg (by omega), if_neg (by omega), List.foldl_cons]
    rw [parse_go hd.2 (by
      have h1 : (a * 10 + (c.toNat - 48)) * 10 ^ s.length ≤ (a * 10 + 9) * 10 ^ s.length := Nat.mul_le_mul_right _ (by omega)
      have h2 : (a * 10 + 9) * 10 ^ s.length + 10 ^ s.length = a * (10 ^ s.length * 10) + 10 ^ s.length * 10 := by
        rw [Nat.add_mul, Nat.mul_assoc, Nat.mul_comm 10 (10 ^ s.length)]; omega
      omega)]
    rw [show ((a * 10 + (c.toNat - 48) : Nat) : Int) = 10 * (a : Int) + ((c.toNat : Int) - 48) by omega]
theorem atoi_of {s : List UInt8} (h : ED s = true) : Lib.atoiAll s = .ok (JJ s) := by
  simp only [ED, Bool.and_eq_true, decide_eq_true_eq] at h;obtain ⟨⟨⟨h1, h2⟩, _⟩, h4⟩ := h;have hv := numV_small h4 h2;cases s with
  | nil => simp at h1
  | cons c r =>
    have hc : JQ c = true := by rw [List.all_cons, Bool.and_eq_true] at h4; exact h4.1
    simp only [JQ, Bool.and_eq_true, decide_eq_true_eq] at hc;have hp : Lib.parseMag (c :: r) = .ok (JJ (c :: r)).toNat := by
      rw [Lib.parseMag, if_neg (by simp), parse_go h4 (by
        have : (c :: r).length = 1 ∨ (c :: r).length = 2 ∨ (c :: r).length = 3 := by omega
        rcases this with e | e | e <;> rw [e] <;> decide)]
      rfl
    unfold Lib.atoiAll;simp only [if_neg (show ¬ (c.toNat = 43 ∨ c.toNat = 45) by omega), hp, if_neg (show ¬ (¬ c.toNat = 45 ∧ 9223372036854775808 ≤ (JJ (c :: r)).toNat) by omega), if_neg (show ¬ (c.toNat = 45 ∧ 9223372036854775808 < (JJ (c :: r)).toNat) by omega), if_neg (show ¬ c.toNat = 45 by omega)]
    congr 1; omega
theorem atoi_num {s : List UInt8} (h : ED s = true) : atoiOk s = true ∧ atoiV s = JJ s := by
  unfold atoiOk atoiV; rw [atoi_of h]; exact ⟨rfl, rfl⟩
theorem num_is {s : List UInt8} (h1 : atoiOk s = true) (h2 : 0 ≤ atoiV s) (h3 : s.length ≤ 3) (h4 : num (atoiV s) = s) : ED s = true := by
  obtain ⟨n, hn⟩ : ∃ n : Nat, atoiV s = n := ⟨(atoiV s).toNat, by omega⟩;rw [hn] at h4;have hl : n < 1000 := dec_long (by rw [← num_nat, h4]; exact h3);rw [← h4];exact (num_law hl).1
theorem num_not {s : List UInt8} (h : ¬ (atoiOk s = true ∧ 0 ≤ atoiV s ∧ s.length ≤ 3 ∧ num (atoiV s) = s)) : ED s = false := by
  cases hn : ED s with
  | false => rfl
  | true =>
    have ha := atoi_num hn;have h4 := hn;simp only [ED, Bool.and_eq_true, decide_eq_true_eq] at h4;have hv := numV_small h4.2 h4.1.1.2;exact absurd ⟨ha.1, by rw [ha.2]; exact hv.1, h4.1.1.2, by rw [ha.2]; exact read_num hn⟩ h
theorem num_dec {s : List UInt8} (h1 : atoiOk s = true) (h2 : 0 ≤ atoiV s) (h3 : s.length ≤ 3) : decide (num (atoiV s) = s) = ED s := by
  by_cases h : num (atoiV s) = s
  · rw [decide_eq_true h, num_is h1 h2 h3 h]
  · rw [decide_eq_false h, num_not fun hh => h hh.2.2.2]
theorem idx1 (b : UInt8) : ∀ s : List UInt8, (Lib.index s [b] = -1 ∧ b ∉ s) ∨ ∃ p t, s = p ++ b :: t ∧ b ∉ p ∧ Lib.index s [b] = (p.length : Int)
  | [] => .inl ⟨by simp [Lib.index], by simp⟩
  | c :: s => by
    by_cases h : c = b
    · subst h
      exact .inr ⟨[], s, rfl, by simp, by rw [Lib.index]; simp [List.isPrefixOf]⟩
    · have hp : ([b] : List UInt8).isPrefixOf (c :: s) = false := by simp [List.isPrefixOf, Ne.symm h]
      rcases idx1 b s with ⟨h1, h2⟩ | ⟨p, t, h1, h2, h3⟩
      · refine .inl ⟨by rw [Lib.index, hp, h1]; simp, ?_⟩
        simp only [List.mem_cons, not_or]; exact ⟨Ne.symm h, h2⟩
      · refine .inr ⟨c :: p, t, by rw [h1]; rfl, ?_, ?_⟩
        · simp only [List.mem_cons, not_or]; exact ⟨Ne.symm h, h2⟩
        · rw [Lib.index, hp, h3]
          have : ((p.length : Int) == -1) = false := by rw [beq_eq_false_iff_ne]; omega
          rw [this]; simp
theorem splitK_cut (b : UInt8) : ∀ (n : Nat) (s : List UInt8) (k : Nat), s.length ≤ n → s.count b ≤ k → Lib.splitK [b] 0 k s = cutL b s
  | n, s, 0, _, hk => by
    have : b ∉ s := by rw [← List.count_eq_zero]; omega
    rw [GM this]; rfl
  | 0, s, k + 1, hn, _ => by
    obtain rfl := List.length_eq_zero_iff.1 (show s.length = 0 by omega);unfold Lib.splitK;rw [if_pos (by simp [Lib.index])]; rfl
  | n + 1, s, k + 1, hn, hk => by
    unfold Lib.splitK;rcases idx1 b s with ⟨h1, h2⟩ | ⟨p, t, h1, h2, h3⟩
    · rw [if_pos (by rw [h1]; rfl), GM h2]
    · rw [if_neg (by rw [h3]; simp), h3]
      subst h1;rw [LR _ h2, List.count_append, List.count_cons_self] at *;rw [List.length_append, List.length_cons] at hn;rw [show ((p.length : Int).toNat + 0) = p.length by omega, show ((p.length : Int).toNat + [b].length) = p.length + 1 by simp];rw [List.take_left, ← splitK_cut b n t k (by omega) (by omega)]
      congr 2
      rw [List.drop_append, List.drop_of_length_le (by omega)];simp
theorem split_cut (b : UInt8) (s : List UInt8) : (Lib.splitB (sB [b]) 0 (Lib.countB (sB s) (sB [b])) (sB s)) = (cutL b s).map sB := by
  have h := Lib.splitB_data (sB [b]) 0 (Lib.countB (sB s) (sB [b])) (sB s);have hc : Lib.countB (sB s) (sB [b]) = s.count b := Lib.count_one b s;rw [show Lib.splitK (sB [b]).data.toList 0 (Lib.countB (sB s) (sB [b])) (sB s).data.toList = cutL b s from splitK_cut b s.length s _ (Nat.le_refl _) (by rw [hc]; exact Nat.le_refl _)] at h;rw [← h, List.map_map]
  conv => lhs; rw [← List.map_id (Lib.splitB _ _ _ _)]
  exact List.map_congr_left fun x _ => rfl
theorem split_len (b : UInt8) (s : List UInt8) : Lib.countB (sB s) (sB [b]) + 1 = (cutL b s).length := by
  rw [OU]; exact congrArg (· + 1) (Lib.count_one b s)
theorem cut_miss {b : UInt8} {s : List UInt8} (h : b ∉ s) : Lib.cut s [b] = (s, [], false) := by
  rcases idx1 b s with ⟨h1, _⟩ | ⟨p, t, h1, h2, h3⟩
  · rw [Lib.cut, if_neg (by rw [h1]; decide)]
  · subst h1; simp at h
theorem cut_hit {b : UInt8} {p t : List UInt8} (h : b ∉ p) : Lib.cut (p ++ b :: t) [b] = (p, t, true) := by
  rcases idx1 b (p ++ b :: t) with ⟨h1, h2⟩ | ⟨p', t', h1, h2, h3⟩
  · simp at h2
  · have : ∀ {p p' t t' : List UInt8}, b ∉ p → b ∉ p' → p ++ b :: t = p' ++ b :: t' → p = p' ∧ t = t' := by
      intro p
      induction p with
      | nil =>
        intro p' t t' _ h2 e;cases p' with
        | nil => simpa using e
        | cons x r => simp at e h2; exact absurd e.1 h2.1
      | cons y p ih =>
        intro p' t t' h1 h2 e;cases p' with
        | nil => simp at e h1; exact absurd e.1.symm h1.1
        | cons x r =>
          simp only [List.cons_append, List.cons.injEq, List.mem_cons, not_or] at e h1 h2;have := ih h1.2 h2.2 e.2;exact ⟨by rw [e.1, this.1], this.2⟩
    obtain ⟨rfl, rfl⟩ := this h h2 h1;rw [Lib.cut, h3, if_pos (by omega)];simp
theorem isDig_mem {b : UInt8} (hb : JQ b = false) {s : List UInt8} (h : ED s = true) : b ∉ s := by
  intro hm;simp only [ED, Bool.and_eq_true] at h;have := List.all_eq_true.1 h.2 b hm;rw [hb] at this; cases this
theorem mem_of_cut {b c : UInt8} (hbc : c ≠ b) {s : List UInt8} (h : c ∈ s) : ∃ x ∈ cutL b s, c ∈ x := by
  have hj := HC (b := b) (s := s);rw [← hj] at h;cases e : cutL b s with
  | nil => exact absurd e (MT b s)
  | cons x r =>
    rw [e, Lib.join_cons, List.mem_append] at h;rcases h with h | h
    · exact ⟨x, List.mem_cons_self .., h⟩
    · simp only [Lib.joinTail, List.mem_flatten, List.mem_map] at h
      obtain ⟨_, ⟨y, hy, rfl⟩, h⟩ := h;rcases List.mem_cons.1 h with h | h
      · exact absurd h hbc
      · exact ⟨y, List.mem_cons_of_mem _ hy, h⟩
theorem rest_colon {t : List UInt8} (h : HK t = true) : (58 : UInt8) ∉ t := by
  intro hm;simp only [HK, Bool.or_eq_true, decide_eq_true_eq] at h;rcases h with rfl | h
  · simp at hm
  · obtain ⟨x, hx, hc⟩ := mem_of_cut (b := 44) (by decide) hm
    exact isDig_mem (b := 58) (by decide) (List.all_eq_true.1 h x hx) hc
def JM (s : List UInt8) : Bool := (Lib.cut s [58]).2.2 && (ED (Lib.cut s [58]).1 && HK (Lib.cut s [58]).2.1)
theorem colon_law (s : List UInt8) : (decide ((cutL 58 s).length = 2) && (ED ((cutL 58 s).getD 0 []) && HK ((cutL 58 s).getD 1 []))) = JM s
    ∧ (JM s = true → JJ ((cutL 58 s).getD 0 []) = JJ (Lib.cut s [58]).1 ∧ MH ((cutL 58 s).getD 1 []) = MH (Lib.cut s [58]).2.1) := by
  rcases idx1 58 s with ⟨_, h2⟩ | ⟨p, t, rfl, h2, _⟩
  · rw [GM h2, JM, cut_miss h2]; exact ⟨rfl, fun h => by cases h⟩
  · rw [LR _ h2, JM, cut_hit h2]
    by_cases ht : HK t = true
    · rw [GM (rest_colon ht)]
      exact ⟨rfl, fun _ => ⟨rfl, rfl⟩⟩
    · have hf : HK t = false := by simpa using ht
      rw [hf];refine ⟨?_, fun h => by simp at h⟩
      by_cases h58 : (58 : UInt8) ∈ t
      · have hl : 2 ≤ (cutL 58 t).length := by
          rw [OU]; have := List.count_pos_iff.2 h58; omega
        simp only [List.length_cons];rw [decide_eq_false (by omega)]; simp
      · rw [GM h58]; simp [hf]
def IM (w : List (List UInt8)) : Bool := decide (w.length = 6) && (EJ ((w.drop 1).take 4) && LG (w.getD 5 []))
def tcV (w : List (List UInt8)) : Car := carOf (AE ((w.drop 1).take 4)) (w.getD 5 [])
def OR (w : List (List UInt8)) : Bool := decide (w.length = 2) && JM (w.getD 1 [])
def ttR (w : List (List UInt8)) : Int := JJ (Lib.cut (w.getD 1 []) [58]).1
def ttV (w : List (List UInt8)) : List Int := MH (Lib.cut (w.getD 1 []) [58]).2.1
theorem coachIs_eq {w : List (List UInt8)} (h : w.getD 0 [] = CX) : JL w = IM w := by
  unfold JL IM; rw [decide_eq_true h, Bool.and_true]
theorem coachIs_ne {w : List (List UInt8)} (h : w.getD 0 [] ≠ CX) : JL w = false := by
  unfold JL; rw [decide_eq_false h]; simp
theorem trackIs_eq {w : List (List UInt8)} (h : w.getD 0 [] = CV) : LL w = OR w := by
  unfold LL OR; rw [decide_eq_true h, Bool.and_true, (colon_law _).1]
theorem trackIs_ne {w : List (List UInt8)} (h : w.getD 0 [] ≠ CV) : LL w = false := by
  unfold LL; rw [decide_eq_false h]; simp
section
variable {Y : Yard} {row : List UInt8}
theorem points_word : (cutL 32 CT).getD 0 [] = CT := by decide +kernel
theorem NK (h : (cutL 32 row).getD 0 [] = CX) : HN Y false row = if Y.room = [] ∧ IM (cutL 32 row) = true then some (⟨Y.cars ++ [tcV (cutL 32 row)], Y.room, Y.tracks⟩, false) else none := by
  unfold HN;rw [if_neg (by decide), coachIs_eq h, trackIs_ne (by rw [h]; decide)]
  by_cases hc : IM (cutL 32 row) = true ∧ Y.room = []
  · rw [if_pos hc, if_pos ⟨hc.2, hc.1⟩]
    unfold coachV;rw [coachIs_eq h, if_pos hc.1]; rfl
  · rw [if_neg hc, if_neg (by decide), if_neg (fun e => by rw [e, points_word] at h; exact absurd h (by decide)), if_neg (fun hh => hc ⟨hh.2, hh.1⟩)]
theorem NM (h : (cutL 32 row).getD 0 [] = CV) : HN Y false row = if OR (cutL 32 row) = true then some (⟨Y.cars, Y.room ++ [ttR (cutL 32 row)], Y.tracks ++ [ttV (cutL 32 row)]⟩, false) else none := by
  unfold HN;rw [if_neg (by decide), coachIs_ne (by rw [h]; decide), if_neg (fun hh => by cases hh.1), trackIs_eq h]
  by_cases hc : OR (cutL 32 row) = true
  · rw [if_pos hc, if_pos hc]
    have hl := (colon_law ((cutL 32 row).getD 1 [])).2 (by
      simp only [OR, Bool.and_eq_true] at hc; exact hc.2)
    unfold roomV trackV ttR ttV;rw [hl.1, hl.2]
  · rw [if_neg hc, if_neg (fun e => by rw [e, points_word] at h; exact absurd h (by decide)), if_neg hc]
theorem NL (h1 : (cutL 32 row).getD 0 [] ≠ CX) (h2 : (cutL 32 row).getD 0 [] ≠ CV) : HN Y false row = if row = CT then some (Y, true) else none := by
  unfold HN;rw [if_neg (by decide), coachIs_ne h1, if_neg (fun hh => by cases hh.1), trackIs_ne h2, if_neg (by decide)]
end
theorem tcIs_t {w : List (List UInt8)} (h1 : w.length = 6) (h2 : EJ ((w.drop 1).take 4) = true) (h3 : LG (w.getD 5 []) = true) : IM w = true := by
  unfold IM; rw [decide_eq_true h1, h2, h3]; rfl
theorem nums_len {l : List (List UInt8)} (h : EJ l = true) : (AE l).length = l.length := by
  unfold AE; rw [if_pos h, List.length_map]
theorem HW {b : UInt8} (hb : JQ b = false) {x : Int} (h : 0 ≤ x ∧ x < 1000) : b ∉ num x := isDig_mem hb (GK h).1
theorem JT (c : Car) : LG (CR c) = true ∧ decide ((CR c).getD 0 0 = 112) = c.pipe ∧ decide ((CR c).getD ((CR c).length - 1) 0 = 104) = c.heat ∧ 32 ∉ CR c ∧ 10 ∉ CR c := by
  rcases c with ⟨_, _, _, _, p, h⟩
  cases p <;> cases h <;> refine ⟨rfl, rfl, rfl, ?_, ?_⟩ <;> simp [CR]
theorem marks_back {m : List UInt8} (h : LG m = true) (a b c d : Int) : CR ⟨a, b, c, d, decide (m.getD 0 0 = 112), decide (m.getD (m.length - 1) 0 = 104)⟩ = m := by
  simp only [LG, Bool.or_eq_true, decide_eq_true_eq] at h;rcases h with ((rfl | rfl) | rfl) | rfl <;> rfl
theorem MA {b s : UInt8} (hb : b ≠ s) {l : List (List UInt8)} (h : ∀ x ∈ l, b ∉ x) : b ∉ Lib.join l [s] := by
  intro hm;cases l with
  | nil => simp [Lib.join_nil] at hm
  | cons x r =>
    rw [Lib.join_cons, List.mem_append] at hm;rcases hm with hm | hm
    · exact h x (List.mem_cons_self ..) hm
    · simp only [Lib.joinTail, List.mem_flatten, List.mem_map] at hm
      obtain ⟨_, ⟨y, hy, rfl⟩, hm⟩ := hm;rcases List.mem_cons.1 hm with hm | hm
      · exact hb hm
      · exact h y (List.mem_cons_of_mem _ hy) hm
structure ThreeC (c : Car) : Prop where
  len : 0 ≤ c.len ∧ c.len < 1000
  wt : 0 ≤ c.wt ∧ c.wt < 1000
  brk : 0 ≤ c.brk ∧ c.brk < 1000
  grp : 0 ≤ c.grp ∧ c.grp < 1000
theorem coach_parts {c : Car} (h : ThreeC c) {b : UInt8} (hb : JQ b = false) (hw : b ∉ CX) (hm : b ∉ CR c) : ∀ x ∈ [CX, num c.len, num c.wt, num c.brk, num c.grp, CR c], b ∉ x := by
  intro x hx;simp only [List.mem_cons, List.not_mem_nil, or_false] at hx;rcases hx with rfl | rfl | rfl | rfl | rfl | rfl
  · exact hw
  · exact HW hb h.len
  · exact HW hb h.wt
  · exact HW hb h.brk
  · exact HW hb h.grp
  · exact hm
theorem coach_cut {c : Car} (h : ThreeC c) : cutL 32 (AQ c) = [CX, num c.len, num c.wt, num c.brk, num c.grp, CR c] :=
  GN (by simp) (coach_parts h (by decide) (by decide) (JT c).2.2.2.1)
theorem coach_step {c : Car} (h : ThreeC c) (cs : List Car) : HN ⟨cs, [], []⟩ false (AQ c) = some (⟨cs ++ [c], [], []⟩, false) := by
  rw [NK (by rw [coach_cut h]; rfl), coach_cut h];have n1 := GK h.len; have n2 := GK h.wt; have n3 := GK h.brk; have n4 := GK h.grp;have hn : EJ [num c.len, num c.wt, num c.brk, num c.grp] = true := by
    simp only [EJ, List.all_cons, List.all_nil, n1.1, n2.1, n3.1, n4.1, Bool.and_true]
  have ht : IM [CX, num c.len, num c.wt, num c.brk, num c.grp, CR c] = true := tcIs_t rfl hn (JT c).1;rw [if_pos ⟨rfl, ht⟩];have hv : tcV [CX, num c.len, num c.wt, num c.brk, num c.grp, CR c] = c := by
    show carOf (AE [num c.len, num c.wt, num c.brk, num c.grp]) (CR c) = c;unfold AE; rw [if_pos hn];simp only [List.map_cons, List.map_nil, n1.2, n2.2, n3.2, n4.2];unfold carOf;rw [(JT c).2.1, (JT c).2.2.1]; rfl
  rw [hv]
theorem joinC {a b : List UInt8} {s : UInt8} : Lib.join [a, b] [s] = a ++ s :: b := by
  rw [Lib.join_cons]; simp [Lib.joinTail]
theorem NO (r : Int) (t : List Int) : FJ r t = Lib.join [CV, num r ++ 58 :: Lib.join (t.map num) [44]] [32] := by
  rw [joinC]; simp [FJ, CV]
theorem nums_free {b : UInt8} (hb : JQ b = false) {t : List Int} (h : ∀ x ∈ t, 0 ≤ x ∧ x < 1000) : ∀ s ∈ t.map num, b ∉ s := by
  intro s hs;obtain ⟨x, hx, rfl⟩ := List.mem_map.1 hs;exact HW hb (h x hx)
theorem nums_all {t : List Int} (h : ∀ x ∈ t, 0 ≤ x ∧ x < 1000) : EJ (t.map num) = true ∧ AE (t.map num) = t := by
  have h1 : EJ (t.map num) = true := by
    refine List.all_eq_true.2 fun s hs => ?_
    obtain ⟨x, hx, rfl⟩ := List.mem_map.1 hs;exact (GK (h x hx)).1
  refine ⟨h1, ?_⟩;unfold AE; rw [if_pos h1, List.map_map]
  conv => rhs; rw [← List.map_id t]
  exact List.map_congr_left fun x hx => (GK (h x hx)).2
theorem num_ne {x : Int} (h : 0 ≤ x ∧ x < 1000) : num x ≠ [] := fun e => by
  have := (GK h).1;rw [e] at this; cases this
theorem rest_law {t : List Int} (h : ∀ x ∈ t, 0 ≤ x ∧ x < 1000) : HK (Lib.join (t.map num) [44]) = true ∧ MH (Lib.join (t.map num) [44]) = t := by
  cases t with
  | nil => exact ⟨rfl, rfl⟩
  | cons x r =>
    have hne : Lib.join ((x :: r).map num) [44] ≠ [] := by
      rw [List.map_cons, Lib.join_cons];intro e;exact num_ne (h x (List.mem_cons_self ..)) (List.append_eq_nil_iff.1 e).1
    have hc : cutL 44 (Lib.join ((x :: r).map num) [44]) = (x :: r).map num := GN (by simp) (nums_free (by decide) h);unfold HK MH;rw [hc, (nums_all h).1, (nums_all h).2, if_neg hne];simp
theorem track_step {r : Int} {t : List Int} (hr : 0 ≤ r ∧ r < 1000) (ht : ∀ x ∈ t, 0 ≤ x ∧ x < 1000) (Y : Yard) : HN Y false (FJ r t) = some (⟨Y.cars, Y.room ++ [r], Y.tracks ++ [t]⟩, false) := by
  have hc : cutL 32 (FJ r t) = [CV, num r ++ 58 :: Lib.join (t.map num) [44]] := by
    rw [NO];refine GN (by simp) fun x hx => ?_
    simp only [List.mem_cons, List.not_mem_nil, or_false] at hx;rcases hx with rfl | rfl
    · decide
    · simp only [List.mem_append, List.mem_cons, not_or]
      exact ⟨HW (by decide) hr, by decide, MA (by decide) (nums_free (by decide) ht)⟩
  have hcut : Lib.cut (num r ++ 58 :: Lib.join (t.map num) [44]) [58] = (num r, Lib.join (t.map num) [44], true) := cut_hit (HW (by decide) hr);have htt : OR [CV, num r ++ 58 :: Lib.join (t.map num) [44]] = true := by
    show (decide (2 = 2) && JM (num r ++ 58 :: Lib.join (t.map num) [44])) = true;unfold JM;rw [hcut, (GK hr).1, (rest_law ht).1]; rfl
  rw [NM (by rw [hc]; rfl), hc, if_pos htt];have h1 : ttR [CV, num r ++ 58 :: Lib.join (t.map num) [44]] = r := by
    show JJ (Lib.cut (num r ++ 58 :: Lib.join (t.map num) [44]) [58]).1 = r;rw [hcut]; exact (GK hr).2
  have h2 : ttV [CV, num r ++ 58 :: Lib.join (t.map num) [44]] = t := by
    show MH (Lib.cut (num r ++ 58 :: Lib.join (t.map num) [44]) [58]).2.1 = t;rw [hcut]; exact (rest_law ht).2
  rw [h1, h2]
theorem points_step (Y : Yard) : HN Y false CT = some (Y, true) := by
  rw [NL (by decide +kernel) (by decide +kernel), if_pos rfl]
theorem NV (last : List UInt8) : ∀ (cs : List Car) (rest : List (List UInt8)) (i : Nat) (c0 : List Car), (∀ c ∈ cs, ThreeC c) →
    DI last (cs.map AQ ++ rest) i ⟨c0, [], []⟩ false = DI last rest (i + cs.length) ⟨c0 ++ cs, [], []⟩ false
  | [], rest, i, c0, _ => by simp
  | c :: cs, rest, i, c0, h => by
    rw [List.map_cons, List.cons_append];rw [LW (coach_step (h c (List.mem_cons_self ..)) c0)];rw [NV last cs rest (i + 1) (c0 ++ [c]) fun x hx => h x (List.mem_cons_of_mem _ hx)];rw [List.append_assoc, List.length_cons, show i + 1 + cs.length = i + (cs.length + 1) by omega]; rfl
theorem tracks_read (last : List UInt8) : ∀ (rm : List Int) (ts : List (List Int)) (rest : List (List UInt8)) (i : Nat) (Y : Yard), rm.length = ts.length → (∀ r ∈ rm, 0 ≤ r ∧ r < 1000) → (∀ t ∈ ts, ∀ x ∈ t, 0 ≤ x ∧ x < 1000) →
    DI last (List.zipWith FJ rm ts ++ rest) i Y false = DI last rest (i + rm.length) ⟨Y.cars, Y.room ++ rm, Y.tracks ++ ts⟩ false
  | [], [], rest, i, Y, _, _, _ => by simp
  | r :: rm, t :: ts, rest, i, Y, hl, h1, h2 => by
    rw [List.zipWith_cons_cons, List.cons_append];rw [LW (track_step (h1 r (List.mem_cons_self ..)) (h2 t (List.mem_cons_self ..)) Y)];rw [tracks_read last rm ts rest (i + 1) _ (by simpa using hl) (fun x hx => h1 x (List.mem_cons_of_mem _ hx)) fun x hx => h2 x (List.mem_cons_of_mem _ hx)];simp only [List.append_assoc, List.singleton_append];rw [List.length_cons, show i + 1 + rm.length = i + (rm.length + 1) by omega]
  | [], _ :: _, _, _, _, hl, _, _ => by simp at hl
  | _ :: _, [], _, _, _, hl, _, _ => by simp at hl
theorem join_snoc {s : UInt8} : ∀ {l : List (List UInt8)}, l ≠ [] → Lib.join (l ++ [[]]) [s] = Lib.join l [s] ++ [s]
  | [], h => absurd rfl h
  | x :: r, _ => by
    rw [List.cons_append, Lib.join_cons, Lib.join_cons, List.append_assoc]
    congr 1
    simp [Lib.joinTail]
structure Three (Y : Yard) : Prop where
  cars : ∀ c ∈ Y.cars, ThreeC c
  room : ∀ r ∈ Y.room, 0 ≤ r ∧ r < 1000
  tracks : ∀ t ∈ Y.tracks, ∀ x ∈ t, 0 ≤ x ∧ x < 1000
theorem Fine.carB {Y : Yard} (h : Fine Y) : ∀ c ∈ Y.cars, (1 ≤ c.len ∧ c.len ≤ 4) ∧ (1 ≤ c.wt ∧ c.wt ≤ 60) ∧ (0 ≤ c.brk ∧ c.brk ≤ 60) ∧ (0 ≤ c.grp ∧ c.grp ≤ 3) := by
  intro c hc;have := h.carOk c hc;unfold DQ at this
  split at this
  · rename_i hh
    simp only [Bool.and_eq_true] at hh;have h1 := inB_t hh.1.1.1; have h2 := inB_t hh.1.1.2; have h3 := inB_t hh.1.2; have h4 := inB_t hh.2;omega
  · cases this
theorem Fine.seat {Y : Yard} (h : Fine Y) : ∀ t ∈ Y.tracks, ∀ x ∈ t, 0 ≤ x ∧ x < 5 := by
  intro t ht x hx;have := h.ok t ht x hx;have := h.cars;omega
theorem Fine.three {Y : Yard} (h : Fine Y) : Three Y :=
  ⟨fun c hc => by have := h.carB c hc; exact ⟨by omega, by omega, by omega, by omega⟩, fun r hr => by have := inB_t (h.roomOk r hr); omega, fun t ht x hx => by have := h.seat t ht x hx; omega⟩
theorem line_free {Y : Yard} (h : Three Y) : ∀ x ∈ DN Y, (10 : UInt8) ∉ x := by
  intro x hx;simp only [DN, List.mem_append, List.mem_map, List.mem_singleton] at hx;rcases hx with (⟨c, hc, rfl⟩ | hx) | rfl
  · exact MA (by decide) (coach_parts (h.cars c hc) (by decide) (by decide) (JT c).2.2.2.2)
  · obtain ⟨i, hi, rfl⟩ := List.mem_iff_getElem.1 hx
    have hi2 : i < Y.room.length ∧ i < Y.tracks.length := by simp only [AR, List.length_zipWith] at hi; omega
    simp only [AR, List.getElem_zipWith];rw [NO];refine MA (by decide) fun z hz => ?_
    simp only [List.mem_cons, List.not_mem_nil, or_false] at hz;rcases hz with rfl | rfl
    · decide
    · simp only [List.mem_append, List.mem_cons, not_or]
      exact ⟨HW (by decide) (h.room _ (List.getElem_mem hi2.1)), by decide, MA (by decide) (nums_free (by decide) (h.tracks _ (List.getElem_mem hi2.2)))⟩
  · decide
theorem lines_ne (Y : Yard) : DN Y ≠ [] := by simp [DN]
theorem cut_write {Y : Yard} (h : Three Y) : cutL 10 (OH Y) = DN Y ++ [[]] := by
  unfold OH;rw [← join_snoc (lines_ne Y)];refine GN (by simp) fun x hx => ?_
  rcases List.mem_append.1 hx with hx | hx
  · exact line_free h x hx
  · simp at hx; subst hx; simp
theorem num_two {x : Int} (h : 0 ≤ x ∧ x < 100) : (num x).length ≤ 2 := by
  obtain ⟨n, rfl⟩ : ∃ n : Nat, x = n := ⟨x.toNat, by omega⟩
  by_cases h1 : n < 10
  · rw [num1 h1]; simp
  · rw [num2 (by omega) (by omega)]; simp
theorem num_one {x : Int} (h : 0 ≤ x ∧ x < 10) : (num x).length ≤ 1 := by
  obtain ⟨n, rfl⟩ : ∃ n : Nat, x = n := ⟨x.toNat, by omega⟩;rw [num1 (by omega)]; simp
theorem Fine.line {Y : Yard} (h : Fine Y) : ∀ x ∈ DN Y, x.length ≤ 24 := by
  intro x hx;simp only [DN, List.mem_append, List.mem_map, List.mem_singleton] at hx;rcases hx with (⟨c, hc, rfl⟩ | hx) | rfl
  · have hb := h.carB c hc
    have h1 := num_two (x := c.len) (by omega); have h2 := num_two (x := c.wt) (by omega); have h3 := num_two (x := c.brk) (by omega); have h4 := num_two (x := c.grp) (by omega);have h5 := marks_le c;unfold AQ;rw [Lib.join_cons];simp only [Lib.joinTail, List.map_cons, List.map_nil, List.flatten_cons, List.flatten_nil, List.length_append, List.length_cons, List.length_nil];omega
  · obtain ⟨i, hi, rfl⟩ := List.mem_iff_getElem.1 hx
    have hi2 : i < Y.room.length ∧ i < Y.tracks.length := by simp only [AR, List.length_zipWith] at hi; omega
    simp only [AR, List.getElem_zipWith, FJ];have h1 := num_two (x := Y.room[i]) (by have := inB_t (h.roomOk _ (List.getElem_mem hi2.1)); omega);have h2 : (Lib.join ((Y.tracks[i]'hi2.2).map num) [44]).length ≤ 10 := by
      refine IJ (m := 1) (fun s hs => ?_) ?_
      · obtain ⟨y, hy, rfl⟩ := List.mem_map.1 hs
        have := h.seat _ (List.getElem_mem hi2.2) y hy;exact num_one (by omega)
      · rw [List.length_map]
        have h1 := DV (List.getElem_mem hi2.2);have h2 := h.sum;omega
    simp only [List.length_append, List.length_cons, List.length_nil];omega
  · simp
theorem Fine.text {Y : Yard} (h : Fine Y) : (OH Y).length ≤ 300 := by
  have h1 : (Lib.join (DN Y) [10]).length ≤ 225 := by
    refine IJ h.line ?_;have := h.cars; have := h.room3; have := h.len;have : (DN Y).length ≤ 9 := by
      simp only [DN, AR, List.length_append, List.length_map, List.length_zipWith, List.length_cons, List.length_nil];omega
    omega
  unfold OH;rw [List.length_append, List.length_singleton]; omega
theorem read_write {Y : Yard} (h : Valid Y) : BH (OH Y) = (Y, 0, 0) := by
  have hf := h.fine;have h3 := hf.three;unfold BH readL;rw [if_neg (by have := hf.text; omega), cut_write h3];have el : (DN Y ++ [([] : List UInt8)]).length - 1 = (DN Y).length := by simp
  rw [el];rw [List.take_left, List.getD_eq_getElem?_getD, List.getElem?_append_right (Nat.le_refl _)];simp only [Nat.sub_self, List.getElem?_cons_zero, Option.getD_some];unfold DN;rw [List.append_assoc];show DI [] _ 0 ⟨[], [], []⟩ false = _;rw [NV [] Y.cars _ 0 [] h3.cars];unfold AR;rw [tracks_read [] Y.room Y.tracks _ _ _ hf.len.symm h3.room h3.tracks];simp only [List.nil_append];show DI [] [CT] _ Y false = _;rw [LW (points_step Y), from_nil];unfold endM;rw [if_pos ⟨rfl, rfl⟩];exact if_pos h
def OB (Y : Yard) (e : Bool) : List (List UInt8) := (Y.cars.map AQ ++ AR Y) ++ (if e = true then [CT] else [])
theorem getD4 {α : Type} {d : α} {l : List α} (h : l.length = 4) : l = [l.getD 0 d, l.getD 1 d, l.getD 2 d, l.getD 3 d] := by
  match l, h with
  | [a, b, c, e], _ => rfl
theorem map_read {l : List (List UInt8)} (h : EJ l = true) : (AE l).map num = l := by
  unfold AE; rw [if_pos h, List.map_map]
  conv => rhs; rw [← List.map_id l]
  exact List.map_congr_left fun s hs => read_num (List.all_eq_true.1 h s hs)
theorem coach_back {row : List UInt8} (h : JL (cutL 32 row) = true) : AQ (coachV (cutL 32 row)) = row := by
  have hj := HC (b := 32) (s := row)
  generalize cutL 32 row = w at h hj
  unfold coachV;rw [if_pos h];simp only [JL, Bool.and_eq_true, decide_eq_true_eq] at h;obtain ⟨⟨h6, h0⟩, hn, hm⟩ := h
  match w, h6 with
  | [a, b, c, d, e, f], _ =>
    simp only [List.getD_cons_zero] at h0;subst h0;have hmr := map_read hn;have hl := nums_len hn;simp only [List.drop_succ_cons, List.drop_zero, List.take_succ_cons, List.take_zero, List.length_cons, List.length_nil] at hmr hl;rw [← hj];show AQ (carOf (AE [b, c, d, e]) f) = _;rw [getD4 (d := 0) hl] at hmr;simp only [List.map_cons, List.map_nil, List.cons.injEq, and_true] at hmr;obtain ⟨e1, e2, e3, e4⟩ := hmr;unfold AQ carOf;rw [marks_back (m := f) hm];simp only;rw [e1, e2, e3, e4]; rfl
theorem rest_back {r : List UInt8} (h : HK r = true) : Lib.join ((MH r).map num) [44] = r := by
  unfold MH
  by_cases h0 : r = []
  · rw [if_pos h0, h0]; rfl
  · rw [if_neg h0]
    simp only [HK, Bool.or_eq_true, decide_eq_true_eq, h0, false_or] at h;rw [map_read h, HC]
theorem track_back {row : List UInt8} (h : LL (cutL 32 row) = true) : FJ (roomV (cutL 32 row)) (trackV (cutL 32 row)) = row := by
  have hj := HC (b := 32) (s := row)
  generalize cutL 32 row = w at h hj
  simp only [LL, Bool.and_eq_true, decide_eq_true_eq] at h;obtain ⟨⟨h2, h0⟩, hc, hn, hr⟩ := h
  match w, h2 with
  | [a, b], _ =>
    simp only [List.getD_cons_zero] at h0;subst h0;rw [NO, ← hj];unfold roomV trackV;simp only [List.getD_cons_zero, List.getD_cons_succ] at hc hn hr ⊢;have hb := HC (b := 58) (s := b)
    generalize cutL 58 b = p at hc hn hr hb ⊢
    match p, hc with
    | [x, y], _ =>
      simp only [List.getD_cons_zero, List.getD_cons_succ] at hn hr ⊢;rw [read_num hn, rest_back hr, ← hb, joinC (a := x)]
theorem step_back {Y Z : Yard} {e f : Bool} {row : List UInt8} (hl : Y.tracks.length = Y.room.length) (h : HN Y e row = some (Z, f)) : OB Z f = OB Y e ++ [row] ∧ Z.tracks.length = Z.room.length := by
  unfold HN at h
  split at h
  · cases h
  · rename_i he
    have he : e = false := by simpa using he
    subst he
    split at h
    · rename_i hc
      simp only [Option.some.injEq, Prod.mk.injEq] at h;obtain ⟨rfl, rfl⟩ := h;refine ⟨?_, hl⟩;have ht : Y.tracks = [] := by rw [← List.length_eq_zero_iff, hl, hc.2]; rfl
      simp only [OB, AR, hc.2, ht, List.zipWith_nil_left, List.append_nil, List.map_append, List.map_cons, List.map_nil, coach_back hc.1, Bool.false_eq_true, if_false]
    · split at h
      · rename_i hc
        simp only [Option.some.injEq, Prod.mk.injEq] at h;obtain ⟨rfl, rfl⟩ := h;refine ⟨?_, by simp [hl]⟩;simp only [OB, AR, Bool.false_eq_true, if_false, List.append_nil];rw [List.zipWith_append hl.symm, List.append_assoc, List.zipWith_cons_cons, track_back hc]; rfl
      · split at h
        · rename_i hp
          simp only [Option.some.injEq, Prod.mk.injEq] at h;obtain ⟨rfl, rfl⟩ := h;refine ⟨?_, hl⟩;simp [OB, hp]
        · cases h
theorem from_back {last : List UInt8} : ∀ {rows : List (List UInt8)} {i : Nat} {Y Z : Yard} {e : Bool} {k : Int}, Y.tracks.length = Y.room.length → DI last rows i Y e = (Z, k, 0) → OB Z true = OB Y e ++ rows ∧ last = [] ∧ Valid Z
  | [], i, Y, Z, e, k, hl, h => by
    unfold DI endM at h
    split at h
    · rename_i he
      split at h
      · rename_i hv
        simp only [Prod.mk.injEq] at h;obtain ⟨rfl, _⟩ := h;rw [he.1];exact ⟨by simp, he.2, hv⟩
      · rename_i hv
        simp only [Prod.mk.injEq] at h;exact absurd h.2.2 hv
    · simp only [Prod.mk.injEq] at h
      exact absurd h.2.2 (by decide)
  | row :: rows, i, Y, Z, e, k, hl, h => by
    unfold DI at h
    split at h
    · simp only [Prod.mk.injEq] at h
      exact absurd h.2.2 (by decide)
    · rename_i p hp
      obtain ⟨W, f⟩ := p;have hb := step_back hl hp;have ih := from_back hb.2 h;rw [hb.1] at ih;exact ⟨by rw [ih.1]; simp, ih.2⟩
theorem write_read {t : List UInt8} {Z : Yard} {k : Int} (h : BH t = (Z, k, 0)) : BV Z = (t, 0) := by
  unfold BH at h
  split at h
  · simp only [Prod.mk.injEq] at h
    exact absurd h.2.2 (by decide)
  · unfold readL at h
    obtain ⟨h1, h2, h3⟩ := from_back rfl h;rw [writeE_ok h3];have hj := HC (b := 10) (s := t);have hne := MT 10 t
    generalize cutL 10 t = l at h1 h2 hj hne
    have hl : l = DN Z ++ [[]] := by
      have e1 : OB Z true = DN Z := rfl;rw [e1] at h1;rw [h1];show l = [] ++ l.take (l.length - 1) ++ [[]];have hp : 0 < l.length := List.length_pos_iff.2 hne;rw [← h2, List.nil_append];have := CY (d := ([] : List UInt8)) (show l.length - 1 < l.length by omega);rw [show l.length - 1 + 1 = l.length by omega, List.take_length] at this;exact this
    rw [hl, join_snoc (lines_ne Z)] at hj;exact Prod.ext hj rfl
end Go.Sh
namespace Go.Proofs
open Go.Shelf
def Tryz.laysC172_ren : Go.Shelf.Ren := ⟨fun | 172 => 170 | 244 => 184 | 245 => 185 | 247 => 196 | 279 => 197 | 280 => 198 | 281 => 199 | 282 => 200 | 287 => 205 | 316 => 206 | 171 => 120 | 205 => 207 | 321 => 208 | 322 => 209 | 243 => 149 | 246 => 165 | 283 => 176 | 284 => 177 | 285 => 178 | 286 => 179 | 129 => 187 | 317 => 186 | 318 => 188 | 319 => 189 | 320 => 190 | 337 => 201 | 338 => 202 | n => n, fun | 9 => 9 | 3 => 3 | 75 => 126 | 76 => 178 | 4 => 4 | 5 => 5 | 167 => 238 | 37 => 150 | 0 => 0 | 85 => 239 | 2 => 2 | 168 => 241 | 53 => 93 | 175 => 251 | 46 => 96 | 210 => 255 | 127 => 203 | 145 => 263 | 143 => 261 | 21 => 21 | 171 => 223 | 173 => 226 | 212 => 234 | 51 => 235 | 20 => 20 | 213 => 236 | 232 => 257 | 233 => 258 | 80 => 180 | n => n, fun | 15 => 5 | 16 => 6 | 17 => 2 | 18 => 7 | 19 => 8 | n => n⟩
theorem Tryz.laysC172 : Go.Proofs.LaysC.n172 Tryz.prog Tryz.laysC172_ren := {
  mixed := by kernel_rfl
  f129 := Tryz.func187.trans (congrArg some (by kernel_rfl))
  f171 := Tryz.func120.trans (congrArg some (by kernel_rfl))
  f172 := Tryz.func170.trans (congrArg some (by kernel_rfl))
  f205 := Tryz.func207.trans (congrArg some (by kernel_rfl))
  f243 := Tryz.func149.trans (congrArg some (by kernel_rfl))
  f244 := Tryz.func184.trans (congrArg some (by kernel_rfl))
  f245 := Tryz.func185.trans (congrArg some (by kernel_rfl))
  f246 := Tryz.func165.trans (congrArg some (by kernel_rfl))
  f247 := Tryz.func196.trans (congrArg some (by kernel_rfl))
  f279 := Tryz.func197.trans (congrArg some (by kernel_rfl))
  f280 := Tryz.func198.trans (congrArg some (by kernel_rfl))
  f281 := Tryz.func199.trans (congrArg some (by kernel_rfl))
  f282 := Tryz.func200.trans (congrArg some (by kernel_rfl))
  f283 := Tryz.func176.trans (congrArg some (by kernel_rfl))
  f284 := Tryz.func177.trans (congrArg some (by kernel_rfl))
  f285 := Tryz.func178.trans (congrArg some (by kernel_rfl))
  f286 := Tryz.func179.trans (congrArg some (by kernel_rfl))
  f287 := Tryz.func205.trans (congrArg some (by kernel_rfl))
  f316 := Tryz.func206.trans (congrArg some (by kernel_rfl))
  f317 := Tryz.func186.trans (congrArg some (by kernel_rfl))
  f318 := Tryz.func188.trans (congrArg some (by kernel_rfl))
  f319 := Tryz.func189.trans (congrArg some (by kernel_rfl))
  f320 := Tryz.func190.trans (congrArg some (by kernel_rfl))
  f321 := Tryz.func208.trans (congrArg some (by kernel_rfl))
  f322 := Tryz.func209.trans (congrArg some (by kernel_rfl))
  f337 := Tryz.func201.trans (congrArg some (by kernel_rfl))
  f338 := Tryz.func202.trans (congrArg some (by kernel_rfl))
  t0 := Tryz.underlying0
  a0 := Tryz.isAgg0
  z0 := Tryz.sizeOf0
  v0 := Tryz.zeroValue0
  t2 := Tryz.underlying2
  a2 := Tryz.isAgg2
  z2 := Tryz.sizeOf2
  v2 := Tryz.zeroValue2
  t3 := Tryz.underlying3
  a3 := Tryz.isAgg3
  z3 := Tryz.sizeOf3
  v3 := Tryz.zeroValue3
  t4 := Tryz.underlying4
  a4 := Tryz.isAgg4
  z4 := Tryz.sizeOf4
  v4 := Tryz.zeroValue4
  t5 := Tryz.underlying5
  a5 := Tryz.isAgg5
  z5 := Tryz.sizeOf5
  v5 := Tryz.zeroValue5
  t9 := Tryz.underlying9
  a9 := Tryz.isAgg9
  z9 := Tryz.sizeOf9
  v9 := Tryz.zeroValue9
  t20 := Tryz.underlying20
  a20 := Tryz.isAgg20
  z20 := Tryz.sizeOf20
  v20 := Tryz.zeroValue20
  t21 := Tryz.underlying21
  a21 := Tryz.isAgg21
  z21 := Tryz.sizeOf21
  v21 := Tryz.zeroValue21
  t37 := Tryz.underlying150
  a37 := Tryz.isAgg150
  z37 := Tryz.sizeOf150
  v37 := Tryz.zeroValue150
  t46 := Tryz.underlying96
  a46 := Tryz.isAgg96
  z46 := Tryz.sizeOf96
  v46 := Tryz.zeroValue96
  t51 := Tryz.underlying235
  a51 := Tryz.isAgg235
  z51 := Tryz.sizeOf235
  v51 := Tryz.zeroValue235
  t53 := Tryz.underlying93
  a53 := Tryz.isAgg93
  z53 := Tryz.sizeOf93
  v53 := Tryz.zeroValue93
  t75 := Tryz.underlying126
  a75 := Tryz.isAgg126
  z75 := Tryz.sizeOf126
  v75 := Tryz.zeroValue126
  t76 := Tryz.underlying178
  a76 := Tryz.isAgg178
  z76 := Tryz.sizeOf178
  v76 := Tryz.zeroValue178
  t85 := Tryz.underlying239
  a85 := Tryz.isAgg239
  z85 := Tryz.sizeOf239
  v85 := Tryz.zeroValue239
  t127 := Tryz.underlying203
  a127 := Tryz.isAgg203
  z127 := Tryz.sizeOf203
  v127 := Tryz.zeroValue203
  t143 := Tryz.underlying261
  a143 := Tryz.isAgg261
  z143 := Tryz.sizeOf261
  v143 := Tryz.zeroValue261
  t145 := Tryz.underlying263
  a145 := Tryz.isAgg263
  z145 := Tryz.sizeOf263
  v145 := Tryz.zeroValue263
  t167 := Tryz.underlying238
  a167 := Tryz.isAgg238
  z167 := Tryz.sizeOf238
  v167 := Tryz.zeroValue238
  t168 := Tryz.underlying241
  a168 := Tryz.isAgg241
  z168 := Tryz.sizeOf241
  v168 := Tryz.zeroValue241
  t171 := Tryz.underlying223
  a171 := Tryz.isAgg223
  z171 := Tryz.sizeOf223
  v171 := Tryz.zeroValue223
  t173 := Tryz.underlying226
  a173 := Tryz.isAgg226
  z173 := Tryz.sizeOf226
  v173 := Tryz.zeroValue226
  t175 := Tryz.underlying251
  a175 := Tryz.isAgg251
  z175 := Tryz.sizeOf251
  v175 := Tryz.zeroValue251
  t210 := Tryz.underlying255
  a210 := Tryz.isAgg255
  z210 := Tryz.sizeOf255
  v210 := Tryz.zeroValue255
  t212 := Tryz.underlying234
  a212 := Tryz.isAgg234
  z212 := Tryz.sizeOf234
  v212 := Tryz.zeroValue234
  t213 := Tryz.underlying236
  a213 := Tryz.isAgg236
  z213 := Tryz.sizeOf236
  t232 := Tryz.underlying257
  a232 := Tryz.isAgg257
  z232 := Tryz.sizeOf257
  v232 := Tryz.zeroValue257
  t233 := Tryz.underlying258
  a233 := Tryz.isAgg258
  z233 := Tryz.sizeOf258
  v233 := Tryz.zeroValue258
  g15 := by kernel_rfl
  g16 := by kernel_rfl
  g17 := by kernel_rfl
  g18 := by kernel_rfl
  g19 := by kernel_rfl
  t80 := Tryz.underlying180
  a80 := Tryz.isAgg180
  z80 := Tryz.sizeOf180
  v80 := Tryz.zeroValue180
  i0 := by kernel_rfl
  i2 := by kernel_rfl
  i3 := by kernel_rfl
  i4 := by kernel_rfl
  i5 := by kernel_rfl
  i9 := by kernel_rfl
  i20 := by kernel_rfl
  i21 := by kernel_rfl
  i37 := by kernel_rfl
  i46 := by kernel_rfl
  i51 := by kernel_rfl
  i53 := by kernel_rfl
  i75 := by kernel_rfl
  i76 := by kernel_rfl
  i80 := by kernel_rfl
  i85 := by kernel_rfl
  i127 := by kernel_rfl
  i143 := by kernel_rfl
  i145 := by kernel_rfl
  i167 := by kernel_rfl
  i168 := by kernel_rfl
  i171 := by kernel_rfl
  i173 := by kernel_rfl
  i175 := by kernel_rfl
  i210 := by kernel_rfl
  i212 := by kernel_rfl
  i232 := by kernel_rfl
  i233 := by kernel_rfl
  m15 := by kernel_rfl
  m16 := by kernel_rfl
  m17 := by kernel_rfl
  m18 := by kernel_rfl
  m19 := by kernel_rfl
  c0 := by kernel_rfl
  c2 := by kernel_rfl
  c3 := by kernel_rfl
  c4 := by kernel_rfl
  c5 := by kernel_rfl
  c9 := by kernel_rfl
  c20 := by kernel_rfl
  c21 := by kernel_rfl
  c37 := by kernel_rfl
  c46 := by kernel_rfl
  c51 := by kernel_rfl
  c53 := by kernel_rfl
  c75 := by kernel_rfl
  c76 := by kernel_rfl
  c80 := by kernel_rfl
  c85 := by kernel_rfl
  c127 := by kernel_rfl
  c143 := by kernel_rfl
  c145 := by kernel_rfl
  c167 := by kernel_rfl
  c168 := by kernel_rfl
  c171 := by kernel_rfl
  c173 := by kernel_rfl
  c175 := by kernel_rfl
  c210 := by kernel_rfl
  c212 := by kernel_rfl
  c213 := by kernel_rfl
  c232 := by kernel_rfl
  c233 := by kernel_rfl }
open Go.RowKit in
theorem Tryz.strconv_Atoi_ok (s : ByteArray) (hmax : s.size ≤ 9223372036854775806) (v : Int) (h : Lib.atoiAll s.data.toList = .ok v) (w : World) :
    Calls Tryz.prog 170 #[.string s] w fun e w' => e = .returned (.tuple #[.int .i64 v, .nilIface]) ∧ (w' = w ∨ ∃ t, w' = Lib.bytesWorld w 5 t) := Any.strconv_Atoi_ok Tryz.laysC172 s hmax v h w
open Go.RowKit in
theorem Tryz.strconv_Atoi_syntax (s : ByteArray) (hlim : s.size ≤ 281474976710656) (h : Lib.atoiAll s.data.toList = Lib.atoiAll []) (ev : Value) (w : World) (hv : w.cell? ⟨5, 0, none⟩ = some ev) (hev : ev = .nilIface ∨ ∃ te pe, ev = .iface te pe) :
    Calls Tryz.prog 170 #[.string s] w fun e w' => ∃ N, e = .returned (.tuple #[.int .i64 (0), .iface 241 (.pointer (some ⟨N, 0, none⟩))]) ∧ w.heap.size ≤ N ∧ w'.heap[N]? = some (.cells #[.string ⟨#[65, 116, 111, 105]⟩, .string s, ev] 255 (0, 0)) ∧ Below w.heap.size w w' := Any.strconv_Atoi_syntax Tryz.laysC172 s hlim h ev w hv hev
open Go.RowKit in
theorem Tryz.strconv_Atoi_range (s : ByteArray) (hlim : s.size ≤ 281474976710656) (h : Lib.atoiAll s.data.toList = .range) (ev : Value) (w : World) (hv : w.cell? ⟨6, 0, none⟩ = some ev) (hev : ev = .nilIface ∨ ∃ te pe, ev = .iface te pe) :
    Calls Tryz.prog 170 #[.string s] w fun e w' => ∃ N, e = .returned (.tuple #[.int .i64 (Lib.atoiSat s.data.toList), .iface 241 (.pointer (some ⟨N, 0, none⟩))]) ∧ w.heap.size ≤ N ∧ w'.heap[N]? = some (.cells #[.string ⟨#[65, 116, 111, 105]⟩, .string s, ev] 255 (0, 0)) ∧ Below w.heap.size w w' := Any.strconv_Atoi_range Tryz.laysC172 s hlim h ev w hv hev
def Tryz.lays145_ren : Go.Shelf.Ren := ⟨fun | 145 => 152 | 220 => 169 | 219 => 183 | 217 => 192 | 225 => 193 | 224 => 194 | 267 => 195 | 266 => 203 | 314 => 204 | n => n, fun | 9 => 9 | 4 => 4 | 59 => 184 | 3 => 3 | 5 => 5 | 46 => 96 | 146 => 249 | 51 => 235 | n => n, fun | 1 => 1 | n => n⟩
theorem Tryz.lays145 : Go.Proofs.Lays.n145 Tryz.prog Tryz.lays145_ren := {
  mixed := by kernel_rfl
  f145 := Tryz.func152.trans (congrArg some (by kernel_rfl))
  f217 := Tryz.func192.trans (congrArg some (by kernel_rfl))
  f219 := Tryz.func183.trans (congrArg some (by kernel_rfl))
  f220 := Tryz.func169.trans (congrArg some (by kernel_rfl))
  f224 := Tryz.func194.trans (congrArg some (by kernel_rfl))
  f225 := Tryz.func193.trans (congrArg some (by kernel_rfl))
  f266 := Tryz.func203.trans (congrArg some (by kernel_rfl))
  f267 := Tryz.func195.trans (congrArg some (by kernel_rfl))
  f314 := Tryz.func204.trans (congrArg some (by kernel_rfl))
  t3 := Tryz.underlying3
  a3 := Tryz.isAgg3
  z3 := Tryz.sizeOf3
  v3 := Tryz.zeroValue3
  t4 := Tryz.underlying4
  a4 := Tryz.isAgg4
  z4 := Tryz.sizeOf4
  v4 := Tryz.zeroValue4
  t5 := Tryz.underlying5
  a5 := Tryz.isAgg5
  z5 := Tryz.sizeOf5
  v5 := Tryz.zeroValue5
  t9 := Tryz.underlying9
  a9 := Tryz.isAgg9
  z9 := Tryz.sizeOf9
  v9 := Tryz.zeroValue9
  t46 := Tryz.underlying96
  a46 := Tryz.isAgg96
  z46 := Tryz.sizeOf96
  v46 := Tryz.zeroValue96
  t51 := Tryz.underlying235
  a51 := Tryz.isAgg235
  z51 := Tryz.sizeOf235
  v51 := Tryz.zeroValue235
  t59 := Tryz.underlying184
  a59 := Tryz.isAgg184
  z59 := Tryz.sizeOf184
  v59 := Tryz.zeroValue184
  t146 := Tryz.underlying249
  a146 := Tryz.isAgg249
  z146 := Tryz.sizeOf249
  v146 := Tryz.zeroValue249
  g1 := by kernel_rfl }
open Go.RowKit Go.Lib in
theorem Tryz.strings_Cut (s sep : ByteArray) (m : Int) (w : World) (hs : s.size < 4294967281) (hm : w.cell? ⟨1, 0, none⟩ = some (.int .i64 m)) :
    Calls Tryz.prog 152 #[.string s, .string sep] w fun e w' => e = .returned (.tuple #[.string ⟨(Lib.cut s.data.toList sep.data.toList).1.toArray⟩, .string ⟨(Lib.cut s.data.toList sep.data.toList).2.1.toArray⟩, .bool (Lib.cut s.data.toList sep.data.toList).2.2]) ∧ ∃ n, w' = w.drewN n := Any.strings_Cut Tryz.lays145 s sep m w hs hm
def Tryz.lays146_ren : Go.Shelf.Ren := ⟨fun | 146 => 122 | 221 => 150 | 268 => 166 | 138 => 167 | 143 => 168 | 195 => 180 | 197 => 181 | 218 => 182 | 219 => 183 | 260 => 191 | 217 => 192 | 225 => 193 | 224 => 194 | 267 => 195 | 266 => 203 | 314 => 204 | n => n, fun | 9 => 9 | 31 => 87 | 3 => 3 | 4 => 4 | 0 => 0 | 105 => 229 | 21 => 21 | 5 => 5 | 46 => 96 | 119 => 245 | 139 => 248 | 138 => 247 | 146 => 249 | 51 => 235 | n => n, fun | 1 => 1 | 3 => 3 | 4 => 4 | n => n⟩
theorem Tryz.lays146 : Go.Proofs.Lays.n146 Tryz.prog Tryz.lays146_ren := {
  mixed := by kernel_rfl
  f138 := Tryz.func167.trans (congrArg some (by kernel_rfl))
  f143 := Tryz.func168.trans (congrArg some (by kernel_rfl))
  f146 := Tryz.func122.trans (congrArg some (by kernel_rfl))
  f195 := Tryz.func180.trans (congrArg some (by kernel_rfl))
  f197 := Tryz.func181.trans (congrArg some (by kernel_rfl))
  f217 := Tryz.func192.trans (congrArg some (by kernel_rfl))
  f218 := Tryz.func182.trans (congrArg some (by kernel_rfl))
  f219 := Tryz.func183.trans (congrArg some (by kernel_rfl))
  f221 := Tryz.func150.trans (congrArg some (by kernel_rfl))
  f224 := Tryz.func194.trans (congrArg some (by kernel_rfl))
  f225 := Tryz.func193.trans (congrArg some (by kernel_rfl))
  f260 := Tryz.func191.trans (congrArg some (by kernel_rfl))
  f266 := Tryz.func203.trans (congrArg some (by kernel_rfl))
  f267 := Tryz.func195.trans (congrArg some (by kernel_rfl))
  f268 := Tryz.func166.trans (congrArg some (by kernel_rfl))
  f314 := Tryz.func204.trans (congrArg some (by kernel_rfl))
  t0 := Tryz.underlying0
  a0 := Tryz.isAgg0
  z0 := Tryz.sizeOf0
  v0 := Tryz.zeroValue0
  t3 := Tryz.underlying3
  a3 := Tryz.isAgg3
  z3 := Tryz.sizeOf3
  v3 := Tryz.zeroValue3
  t4 := Tryz.underlying4
  a4 := Tryz.isAgg4
  z4 := Tryz.sizeOf4
  v4 := Tryz.zeroValue4
  t5 := Tryz.underlying5
  a5 := Tryz.isAgg5
  z5 := Tryz.sizeOf5
  v5 := Tryz.zeroValue5
  t9 := Tryz.underlying9
  a9 := Tryz.isAgg9
  z9 := Tryz.sizeOf9
  v9 := Tryz.zeroValue9
  t21 := Tryz.underlying21
  a21 := Tryz.isAgg21
  z21 := Tryz.sizeOf21
  v21 := Tryz.zeroValue21
  t31 := Tryz.underlying87
  a31 := Tryz.isAgg87
  z31 := Tryz.sizeOf87
  v31 := Tryz.zeroValue87
  t46 := Tryz.underlying96
  a46 := Tryz.isAgg96
  z46 := Tryz.sizeOf96
  v46 := Tryz.zeroValue96
  t51 := Tryz.underlying235
  a51 := Tryz.isAgg235
  z51 := Tryz.sizeOf235
  v51 := Tryz.zeroValue235
  t105 := Tryz.underlying229
  a105 := Tryz.isAgg229
  z105 := Tryz.sizeOf229
  v105 := Tryz.zeroValue229
  t119 := Tryz.underlying245
  a119 := Tryz.isAgg245
  z119 := Tryz.sizeOf245
  t138 := Tryz.underlying247
  a138 := Tryz.isAgg247
  z138 := Tryz.sizeOf247
  v138 := Tryz.zeroValue247
  t139 := Tryz.underlying248
  a139 := Tryz.isAgg248
  z139 := Tryz.sizeOf248
  v139 := Tryz.zeroValue248
  t146 := Tryz.underlying249
  a146 := Tryz.isAgg249
  z146 := Tryz.sizeOf249
  v146 := Tryz.zeroValue249
  g1 := by kernel_rfl
  g3 := by kernel_rfl
  g4 := by kernel_rfl }
open Go.RowKit Go.Lib in
theorem Tryz.strings_Split (s sep : ByteArray) (m : Int) (w : World) (hs : s.size < 4294967281) (hm : w.cell? ⟨1, 0, none⟩ = some (.int .i64 m)) (h1 : 1 ≤ sep.size) :
    Calls Tryz.prog 122 #[.string s, .string sep] w fun e w' =>
      e = .returned (.slice (some ⟨w.heap.size, 0, none⟩) (Lib.countB s sep + 1) (Lib.countB s sep + 1)) ∧ w' = w.alloc (.cells ((Lib.splitB sep 0 (Lib.countB s sep) s).map Value.string).toArray 9) := Any.strings_Split Tryz.lays146 (by kernel_rfl) s sep m w hs hm h1
end Go.Proofs
namespace Go.Sl
open Go Go.RowKit
def HasInt (I : Imm) (g : Nat) : Prop := ∃ m, ICell I ⟨g, 0, none⟩ (.int .i64 m)
def HasErr (I : Imm) (g : Nat) : Prop := ∃ t p, ICell I ⟨g, 0, none⟩ (.iface t p)
structure TextG (I : Imm) : Prop where
  tab : Tab10 I
  len : HasInt I 1
  syn : HasErr I 5
  rng : HasErr I 6
theorem HasInt.mono {I J : Imm} {g : Nat} (h : HasInt I g) (le : I.le J) : HasInt J g := h.imp fun _ h => h.mono le
theorem HasErr.mono {I J : Imm} {g : Nat} (h : HasErr I g) (le : I.le J) : HasErr J g := h.imp fun _ h => h.imp fun _ h => h.mono le
theorem TextG.mono {I J : Imm} (h : TextG I) (le : I.le J) : TextG J := ⟨h.tab.mono le, h.len.mono le, h.syn.mono le, h.rng.mono le⟩
theorem TellV.any (I : Imm) (Y : Sh.Yard) : TellV I Y := fun hz => by
  have hf := Sh.Valid.fine (Y := Y) hz;exact ⟨fun c hc => by have := hf.carB c hc; exact ⟨.small (by omega), .small (by omega), .small (by omega), .small (by omega)⟩, fun r hr => by have := Sh.inB_t (hf.roomOk r hr); exact .small (by omega), fun t ht x hx => by have := hf.seat t ht x hx; exact .small (by omega)⟩
theorem Split_ct (I : Imm) (s : List UInt8) (b : UInt8) (hG : TextG I) (hs : s.length ≤ 1000000) : Ct Go.Proofs.Tryz.prog 122 #[sV s, sV [b]] I [] (fun v I' M' => ∃ u : Value, v = u ∧ M' = [] ∧ IsStrs I' u (Sh.cutL b s)) := fun F w st => by
  obtain ⟨m, hm⟩ := hG.len;refine (Go.Proofs.Tryz.strings_Split (sB s) (sB [b]) m w (by rw [JY]; omega) ((hm.sees (M := F)).cell st) (by rw [JY]; exact Nat.le_refl _)).mono ?_
  rintro e w' ⟨rfl, rfl⟩
  rw [Sh.split_cut, Sh.split_len];have hst := st.new (.cells ((List.map sB (Sh.cutL b s)).map Value.string).toArray 9)
  have hown : Own 9 1 EO (.slice (some ⟨w.heap.size, 0, none⟩) (Sh.cutL b s).length (Sh.cutL b s).length) (Sh.cutL b s) [(w.heap.size, Obj.cells ((List.map sB (Sh.cutL b s)).map Value.string).toArray 9 (0, 0))] :=
    Own.lit (by
      congr 1
      rw [List.map_map]
      simp only [ET]
      rw [← List.flatMap_singleton' ((Sh.cutL b s).map _)]
      simp [List.flatMap_map, EO]
      ) rfl
  obtain ⟨J, hle, his, hJ⟩ := Own.freeze ([] : List UInt8) hown (by have := Sh.cutL_len_le (b := b) (s := s); omega) hst;exact ⟨_, J, [], rfl, hle, ⟨_, rfl, rfl, his⟩, hJ⟩
theorem Cut_ct (I : Imm) (s : List UInt8) (b : UInt8) (hG : TextG I) (hs : s.length ≤ 1000000) : Ct Go.Proofs.Tryz.prog 152 #[sV s, sV [b]] I [] (fun v I' M' => v = .tuple #[sV (Lib.cut s [b]).1, sV (Lib.cut s [b]).2.1, .bool (Lib.cut s [b]).2.2] ∧ M' = []) := fun F w st => by
  obtain ⟨m, hm⟩ := hG.len;refine (Go.Proofs.Tryz.strings_Cut (sB s) (sB [b]) m w (by rw [JY]; omega) ((hm.sees (M := F)).cell st)).mono ?_
  rintro e w' ⟨rfl, n, rfl⟩
  exact ⟨_, I, [], rfl, Imm.le.refl I, ⟨rfl, rfl⟩, ⟨st.os, st.tape, st.output, st.imm, st.mem, st.nodup, st.disj⟩⟩
theorem atoiV_le (s : List UInt8) : Sh.atoiV s ≤ 9223372036854775807 := by
  unfold Sh.atoiV
  split
  · rename_i v h; exact (Lib.atoiAll_bounds h).2
  · exact (Lib.atoiSat_bounds s).2
  · decide
def errQ (ok : Bool) (n : Nat) : Value := if ok = true then .nilIface else .iface 241 (.pointer (some ⟨n, 0, none⟩))
theorem isNI_errQ (ok : Bool) (n : Nat) : isNI (errQ ok n) = some ok := by cases ok <;> rfl
theorem st_below {I : Imm} {F : Seg} {w w' : World} (st : St I F w) (hb : Below w.heap.size w w') : St I F w' := by
  have up : ∀ b o, w.heap[b]? = some o → w'.heap[b]? = some o := fun b o hq => by
    rw [hb.block b (Array.getElem?_eq_some_iff.1 hq).1]; exact hq
  exact ⟨hb.os.trans st.os, hb.tape.trans st.tape, hb.output.trans st.output, fun b o hq => up b o (st.imm b o hq), fun b o hq => up b o (st.mem b o hq), st.nodup, st.disj⟩
theorem Atoi_ct (I : Imm) (s : List UInt8) (hG : TextG I) (hs : s.length ≤ 1000000) : Ct Go.Proofs.Tryz.prog 170 #[sV s] I [] (fun v I' M' => ∃ N : Nat, v = .tuple #[.int .i64 (Sh.atoiV s), errQ (Sh.atoiOk s) N] ∧ M' = []) := fun F w st => by
  obtain ⟨t1, p1, h1⟩ := hG.syn;obtain ⟨t2, p2, h2⟩ := hG.rng;cases ha : Lib.atoiAll s with
  | ok v =>
    refine (Go.Proofs.Tryz.strconv_Atoi_ok (sB s) (by rw [JY]; omega) v ha w).mono ?_
    rintro e w' ⟨rfl, hw⟩
    have hb : Below w.heap.size w w' := by
      rcases hw with rfl | ⟨t, rfl⟩
      · exact Below.refl _ _
      · exact Lib.bytesWorld_below _ _ _
    exact ⟨_, I, [], rfl, Imm.le.refl I, ⟨0, by unfold Sh.atoiV Sh.atoiOk; rw [ha]; rfl, rfl⟩, st_below st hb⟩
  | range =>
    refine (Go.Proofs.Tryz.strconv_Atoi_range (sB s) (by rw [JY]; omega) ha _ w ((h2.sees (M := F)).cell st) (.inr ⟨_, _, rfl⟩)).mono ?_
    rintro e w' ⟨N, rfl, _, _, hb⟩
    exact ⟨_, I, [], rfl, Imm.le.refl I, ⟨N, by unfold Sh.atoiV Sh.atoiOk; rw [ha]; rfl, rfl⟩, st_below st hb⟩
  | _ =>
    refine (Go.Proofs.Tryz.strconv_Atoi_syntax (sB s) (by rw [JY]; omega) ha _ w ((h1.sees (M := F)).cell st) (.inr ⟨_, _, rfl⟩)).mono ?_
    rintro e w' ⟨N, rfl, _, _, hb⟩
    exact ⟨_, I, [], rfl, Imm.le.refl I, ⟨N, by unfold Sh.atoiV Sh.atoiOk; rw [ha]; rfl, rfl⟩, st_below st hb⟩
end Go.Sl
namespace Go.Sh
open Go Go.Sl
theorem nums_bad {L : List (List UInt8)} {i : Nat} (hi : i < L.length) (h : ED (L.getD i []) = false) : EJ L = false ∧ AE L = [] := by
  have h1 : EJ L = false := by
    cases hn : EJ L with
    | false => rfl
    | true =>
      have := List.all_eq_true.1 hn _ (AJ (d := []) hi);rw [h] at this; cases this
  exact ⟨h1, by unfold AE; rw [h1]; rfl⟩
theorem nums_all_take {L : List (List UInt8)} {i : Nat} (hi : L.length ≤ i) (h : (L.take i).all ED = true) : EJ L = true ∧ AE L = (L.take i).map JJ := by
  rw [List.take_of_length_le hi] at h ⊢;exact ⟨h, if_pos h⟩
theorem nall_step {L : List (List UInt8)} {i : Nat} (hi : i < L.length) (h : (L.take i).all ED = true) (hn : ED (L.getD i []) = true) : (L.take (i + 1)).all ED = true := by
  rw [CY (d := []) hi, List.all_append, h, List.all_cons, hn]; rfl
theorem nmap_step {L : List (List UInt8)} {i : Nat} (hi : i < L.length) {n : Int} (hn : n = JJ (L.getD i [])) : (L.take i).map JJ ++ [n] = (L.take (i + 1)).map JJ := by
  rw [CY (d := []) hi, List.map_append, hn]; rfl
def rowsT (t : List UInt8) : List (List UInt8) := (cutL 10 t).take ((cutL 10 t).length - 1)
def lastT (t : List UInt8) : List UInt8 := (cutL 10 t).getD ((cutL 10 t).length - 1) []
def IG (t : List UInt8) (i : Nat) (Y : Yard) (e : Bool) : Prop := DI (lastT t) ((rowsT t).drop i) i Y e = BH t
theorem read_long {t : List UInt8} (h : 300 < t.length) : BH t = (BE, 0, 10) := if_pos h
theorem read_start {t : List UInt8} (h : t.length ≤ 300) : IG t 0 BE false := by
  unfold IG BH;rw [if_neg (by omega)]; rfl
theorem rows_at {t : List UInt8} {i : Nat} (hi : i < (cutL 10 t).length - 1) : (rowsT t).drop i = (cutL 10 t).getD i [] :: (rowsT t).drop (i + 1) := by
  have hl : i < (rowsT t).length := by unfold rowsT; rw [List.length_take]; omega
  rw [BK (d := []) hl]
  congr 1
  unfold rowsT;rw [List.getD_eq_getElem?_getD, List.getElem?_take, if_pos hi, ← List.getD_eq_getElem?_getD]
theorem read_go {t : List UInt8} {i : Nat} {Y Z : Yard} {e f : Bool} (hi : i < (cutL 10 t).length - 1) (hs : HN Y e ((cutL 10 t).getD i []) = some (Z, f)) (h : IG t i Y e) : IG t (i + 1) Z f := by
  unfold IG at h ⊢;rw [← h, rows_at hi, LW hs]
theorem JX {t : List UInt8} {i : Nat} {Y : Yard} {e : Bool} (hi : i < (cutL 10 t).length - 1) (hs : HN Y e ((cutL 10 t).getD i []) = none) (h : IG t i Y e) : BH t = (BE, (i : Int) + 1, 2) := by
  unfold IG at h;rw [← h, rows_at hi, from_none hs]
theorem read_end {t : List UInt8} {i : Nat} {Y : Yard} {e : Bool} (hi : (cutL 10 t).length - 1 ≤ i) (h : IG t i Y e) : BH t = endM Y e (lastT t) i := by
  unfold IG at h;rw [← h, List.drop_of_length_le (by unfold rowsT; rw [List.length_take]; omega)]; rfl
theorem read_bad {t : List UInt8} {i : Nat} {Y : Yard} {e : Bool} (hi : (cutL 10 t).length - 1 ≤ i) (h : IG t i Y e) (hb : e = false ∨ ¬ lastT t = []) : BH t = (BE, (i : Int) + 1, 2) := by
  rw [read_end hi h];unfold endM;rw [if_neg]
  rintro ⟨h1, h2⟩
  rcases hb with hb | hb
  · rw [hb] at h1; cases h1
  · exact hb h2
theorem read_err {t : List UInt8} {i : Nat} {Y : Yard} {e : Bool} (hi : (cutL 10 t).length - 1 ≤ i) (h : IG t i Y e) (he : e = true) (hl : lastT t = []) (hc : ¬ checkErr Y = 0) : BH t = (BE, 0, checkErr Y) := by
  rw [read_end hi h];unfold endM;rw [if_pos ⟨he, hl⟩, if_neg hc]
theorem read_fine {t : List UInt8} {i : Nat} {Y : Yard} {e : Bool} (hi : (cutL 10 t).length - 1 ≤ i) (h : IG t i Y e) (he : e = true) (hl : lastT t = []) (hc : checkErr Y = 0) : BH t = (Y, 0, 0) := by
  rw [read_end hi h];unfold endM;rw [if_pos ⟨he, hl⟩, if_pos hc]
section
variable {Y : Yard} {e : Bool} {row : List UInt8}
theorem step_e (h : e = true) : HN Y e row = none := by rw [h]; rfl
end
theorem line_le {t : List UInt8} (h : t.length ≤ 300) {i : Nat} (hi : i < (cutL 10 t).length) : ((cutL 10 t).getD i []).length ≤ 300 := by
  have := JB (b := 10) (s := t) _ (AJ (d := []) hi); omega
theorem words_le {t : List UInt8} (h : t.length ≤ 300) : (cutL 32 t).length ≤ 301 ∧ ∀ x ∈ cutL 32 t, x.length ≤ 1000 := by
  refine ⟨by have := cutL_len_le (b := 32) (s := t); omega, fun x hx => ?_⟩;have := JB (b := 32) (s := t) x hx; omega
def tcY (Y : Yard) (W : List (List UInt8)) : Yard := if IM W = true then ⟨Y.cars ++ [tcV W], Y.room, Y.tracks⟩ else Y
def ttY (Y : Yard) (W : List (List UInt8)) : Yard := if W.length = 2 then ⟨Y.cars, Y.room ++ [atoiV (Lib.cut (W.getD 1 []) [58]).1], Y.tracks ++ [MH (Lib.cut (W.getD 1 []) [58]).2.1]⟩ else Y
theorem tcY_no {Y : Yard} {W : List (List UInt8)} (h : IM W = false) : tcY Y W = Y := by unfold tcY; rw [h]; rfl
theorem tcY_yes {Y : Yard} {W : List (List UInt8)} (h : IM W = true) : tcY Y W = ⟨Y.cars ++ [tcV W], Y.room, Y.tracks⟩ := if_pos h
theorem ttY_no {Y : Yard} {W : List (List UInt8)} (h : ¬ W.length = 2) : ttY Y W = Y := if_neg h
theorem ttY_yes {Y : Yard} {W : List (List UInt8)} (h : W.length = 2) : ttY Y W = ⟨Y.cars, Y.room ++ [atoiV (Lib.cut (W.getD 1 []) [58]).1], Y.tracks ++ [MH (Lib.cut (W.getD 1 []) [58]).2.1]⟩ := if_pos h
theorem tc_len {W : List (List UInt8)} (h : ¬ W.length = 6) : IM W = false := by unfold IM; rw [decide_eq_false h]; rfl
theorem tc_nums {W : List (List UInt8)} (h : EJ ((W.drop 1).take 4) = false) : IM W = false := by unfold IM; rw [h]; simp
theorem tc_marks {W : List (List UInt8)} (h1 : ¬ W.getD 5 [] = [112, 104]) (h2 : ¬ W.getD 5 [] = [104]) (h3 : ¬ W.getD 5 [] = [112]) (h4 : ¬ W.getD 5 [] = [45]) : IM W = false := by
  unfold IM LG;rw [decide_eq_false h1, decide_eq_false h2, decide_eq_false h3, decide_eq_false h4]; simp
section
variable {W : List (List UInt8)} (h6 : W.length = 6) (hn : EJ ((W.drop 1).take 4) = true)
include h6 hn
theorem tc_ph (h : W.getD 5 [] = [112, 104]) : IM W = true ∧ tcV W = ⟨(AE ((W.drop 1).take 4)).getD 0 0, (AE ((W.drop 1).take 4)).getD 1 0, (AE ((W.drop 1).take 4)).getD 2 0, (AE ((W.drop 1).take 4)).getD 3 0, true, true⟩ := ⟨tcIs_t h6 hn (by rw [h]; rfl), by unfold tcV; rw [h]; rfl⟩
theorem tc_h (h : W.getD 5 [] = [104]) : IM W = true ∧ tcV W = ⟨(AE ((W.drop 1).take 4)).getD 0 0, (AE ((W.drop 1).take 4)).getD 1 0, (AE ((W.drop 1).take 4)).getD 2 0, (AE ((W.drop 1).take 4)).getD 3 0, false, true⟩ := ⟨tcIs_t h6 hn (by rw [h]; rfl), by unfold tcV; rw [h]; rfl⟩
theorem tc_p (h : W.getD 5 [] = [112]) : IM W = true ∧ tcV W = ⟨(AE ((W.drop 1).take 4)).getD 0 0, (AE ((W.drop 1).take 4)).getD 1 0, (AE ((W.drop 1).take 4)).getD 2 0, (AE ((W.drop 1).take 4)).getD 3 0, true, false⟩ := ⟨tcIs_t h6 hn (by rw [h]; rfl), by unfold tcV; rw [h]; rfl⟩
theorem tc_d (h : W.getD 5 [] = [45]) : IM W = true ∧ tcV W = ⟨(AE ((W.drop 1).take 4)).getD 0 0, (AE ((W.drop 1).take 4)).getD 1 0, (AE ((W.drop 1).take 4)).getD 2 0, (AE ((W.drop 1).take 4)).getD 3 0, false, false⟩ := ⟨tcIs_t h6 hn (by rw [h]; rfl), by unfold tcV; rw [h]; rfl⟩
end
theorem cut_le (s : List UInt8) (b : UInt8) : (Lib.cut s [b]).1.length ≤ s.length ∧ (Lib.cut s [b]).2.1.length ≤ s.length := by
  rcases idx1 b s with ⟨_, h2⟩ | ⟨p, t, rfl, h2, _⟩
  · rw [cut_miss h2]; simp
  · rw [cut_hit h2]; simp; omega
theorem tt_no {W : List (List UInt8)} (h : ¬ W.length = 2) : OR W = false := by unfold OR; rw [decide_eq_false h]; rfl
theorem tt_yes {W : List (List UInt8)} (h : W.length = 2) : OR W = ((Lib.cut (W.getD 1 []) [58]).2.2 && (ED (Lib.cut (W.getD 1 []) [58]).1 && HK (Lib.cut (W.getD 1 []) [58]).2.1)) := by
  unfold OR JM; rw [decide_eq_true h]; rfl
theorem rest_nil {r : List UInt8} (h : r = []) : HK r = true ∧ MH r = [] := by rw [h]; exact ⟨rfl, rfl⟩
theorem rest_more {r : List UInt8} (h : ¬ r = []) : HK r = EJ (cutL 44 r) ∧ MH r = AE (cutL 44 r) := ⟨by unfold HK; rw [decide_eq_false h]; rfl, by unfold MH; rw [if_neg h]⟩
theorem tt_room {W : List (List UInt8)} (h : OR W = true) : W.length = 2 ∧ atoiV (Lib.cut (W.getD 1 []) [58]).1 = ttR W := by
  have h2 : W.length = 2 := Classical.byContradiction fun hn => by rw [tt_no hn] at h; cases h
  rw [tt_yes h2] at h;simp only [Bool.and_eq_true] at h;exact ⟨h2, (atoi_num h.2.1).2⟩
def YL (Y : Yard) (i : Nat) : Prop := Y.cars.length ≤ i ∧ Y.room.length ≤ i ∧ Y.tracks.length ≤ i ∧ Y.tracks.length = Y.room.length
theorem YL.c {Y : Yard} {i : Nat} (h : YL Y i) (W : List (List UInt8)) : YL (tcY Y W) (i + 1) := by
  unfold YL at h ⊢;unfold tcY
  split
  · simp only [List.length_append, List.length_cons, List.length_nil]; omega
  · omega
theorem YL.t {Y : Yard} {i : Nat} (h : YL Y i) (W : List (List UInt8)) : YL (ttY Y W) (i + 1) := by
  unfold YL at h ⊢;unfold ttY
  split
  · simp only [List.length_append, List.length_cons, List.length_nil]; omega
  · omega
theorem YL.up {Y : Yard} {i : Nat} (h : YL Y i) : YL Y (i + 1) := by unfold YL at h ⊢; omega
theorem take_get {α : Type} {l : List α} {n i : Nat} {d : α} (h : i < n) : (l.take n).getD i d = l.getD i d := by
  rw [List.getD_eq_getElem?_getD, List.getElem?_take, if_pos h, ← List.getD_eq_getElem?_getD]
section
variable {Y : Yard} {e : Bool} {row : List UInt8}
theorem sstep_c (he : e = false) (hw : (cutL 32 row).getD 0 [] = CX) (hr : Y.room = []) (ht : IM (cutL 32 row) = true) : HN Y e row = some (tcY Y (cutL 32 row), false) := by
  rw [he, NK hw, if_pos ⟨hr, ht⟩, tcY_yes ht]
theorem sstep_cn (he : e = false) (hw : (cutL 32 row).getD 0 [] = CX) (h : ¬ Y.room = [] ∨ IM (cutL 32 row) = false) : HN Y e row = none := by
  rw [he, NK hw, if_neg]
  rintro ⟨h1, h2⟩
  rcases h with h | h
  · exact h h1
  · rw [h2] at h; cases h
theorem sstep_t (he : e = false) (hw : (cutL 32 row).getD 0 [] = CV) (ht : OR (cutL 32 row) = true) : HN Y e row = some (ttY Y (cutL 32 row), false) := by
  rw [he, NM hw, if_pos ht, ttY_yes (tt_room ht).1, (tt_room ht).2]; rfl
theorem sstep_tn (he : e = false) (hw : (cutL 32 row).getD 0 [] = CV) (ht : OR (cutL 32 row) = false) : HN Y e row = none := by
  rw [he, NM hw, if_neg (by rw [ht]; decide)]
theorem sstep_p (he : e = false) (h1 : ¬ (cutL 32 row).getD 0 [] = CX) (h2 : ¬ (cutL 32 row).getD 0 [] = CV) (hp : row = CT) : HN Y e row = some (Y, true) := by
  rw [he, NL h1 h2, if_pos hp]
theorem sstep_n (he : e = false) (h1 : ¬ (cutL 32 row).getD 0 [] = CX) (h2 : ¬ (cutL 32 row).getD 0 [] = CV) (hp : ¬ row = CT) : HN Y e row = none := by
  rw [he, NL h1 h2, if_neg hp]
end
end Go.Sh
namespace Go.Proofs.YtcaocbhbofejnaaGreatDoor
open Go Go.Sl Go.Sh
set_option maxRecDepth 100000
noncomputable def c_number (p : List Nat) : Code := sub (AW Tryz.f153) p
set_option maxHeartbeats 1000000 in
theorem number_ct (I : Imm) (s : List UInt8) (hG : TextG I) (hs : s.length ≤ 1000000) : Ct Tryz.prog 153 #[sV s] I ([]) (fun v I' M' => v = .tuple #[vI (atoiV s), .bool (ED s)] ∧ M' = []) := by
 refine fr (args := [_]) (N := 29) Tryz.func153 (fun F => ?_);show Run _ _ (c_number []) _ _ [(0, sV (s))] _ _;refine rnm (rqr ?_);refine sp 2 [(3, .bool (false)), (2, vI (0))] (sn (sp 1 [(7, sV (s))] ?_));have a4 := Atoi_ct I (s) (by first | assumption | exact TextG.mono (by assumption) hI) (by omega);refine sS (sc (some 8) (a4 :) (.refl _) (fun a9 I1 a8 a2 a7 => ?_));obtain ⟨N6, a6, a5⟩ := a7;rw [a6, a5]; clear a6 a5;replace hG := hG.mono a2;refine nm ?_;refine sp 5 [(5, errQ (atoiOk s) N6), (4, vI ((atoiV s)))] (sn (sp 2 [(12, errQ (atoiOk s) N6), (11, vI ((atoiV s)))] (sd (KY (x := (.tmp 12)) (T := 126) (T' := 126) (d := 13) (ty := 4) (gd := none) (by kernel_rfl) rfl (by kernel_rfl) rfl (isNI_errQ _ _)) (sp 1 [(14, .bool (atoiOk s))] ?_))));refine BP 14 rfl (fun h1 => ?_) (fun h1 => ?_)
 ·
  have a3 := h1;refine sp 4 [(18, .bool (cmp .geq ((atoiV s)) (0)))] ?_;refine BP 18 rfl (fun h2 => ?_) (fun h2 => ?_)
  ·
   have a0 := h2;have a0 := geq_t a0;refine sp 5 [(23, .bool (cmp .leq (↑(s).length) (3)))] ?_;refine BP 23 rfl (fun h3 => ?_) (fun h3 => ?_)
   ·
    have a1 := h3;have a1 := leq_t a1;refine sp 1 [(24, vI ((atoiV s)))] (sd (dc 25 (fun I' hI => (EL I' ((atoiV s)) (by exact ⟨by omega, .inr ⟨atoiV_le s, hG.tab.mono hI⟩⟩) :))) (sp 1 [(26, sV (s))] (sd (FB (x := (.tmp 25)) (y := (.tmp 26)) (T := 9) (T' := 9) (d := 27) (ty := 4) (gd := (some (12, true))) (by kernel_rfl) (by kernel_rfl) rfl rfl) (sp 3 [(3, .bool (decide ((num ((atoiV s))) = s))), (2, vI ((atoiV s)))] (se (BT (DA (t := 2) (u := 3) [] (by kernel_rfl) rfl rfl (TR _) a2 ?_)))))));exact ⟨(congrArg (fun b => Value.tuple #[vI (atoiV s), .bool b]) (num_dec h1 (by omega) (by omega))), rfl⟩
   have a1 := h3;have a1 := leq_f a1;refine sp 7 [(3, .bool (false)), (2, vI ((atoiV s)))] (se (BT (DA (t := 2) (u := 3) [] (by kernel_rfl) rfl rfl (TR _) a2 ?_)));exact ⟨(congrArg (fun b => Value.tuple #[vI (atoiV s), .bool b]) (num_not (fun hh => by (obtain ⟨ha, hb, hc, hd⟩ := hh; first | omega | (rw [ha] at h1; cases h1)))).symm), rfl⟩
  have a0 := h2;have a0 := geq_f a0;refine sp 12 [(3, .bool (false)), (2, vI ((atoiV s)))] (se (BT (DA (t := 2) (u := 3) [] (by kernel_rfl) rfl rfl (TR _) a2 ?_)));exact ⟨(congrArg (fun b => Value.tuple #[vI (atoiV s), .bool b]) (num_not (fun hh => by (obtain ⟨ha, hb, hc, hd⟩ := hh; first | omega | (rw [ha] at h1; cases h1)))).symm), rfl⟩
 have a3 := h1;refine sp 16 [(3, .bool (false)), (2, vI ((atoiV s)))] (se (BT (DA (t := 2) (u := 3) [] (by kernel_rfl) rfl rfl (TR _) a2 ?_)));exact ⟨(congrArg (fun b => Value.tuple #[vI (atoiV s), .bool b]) (num_not (fun hh => by (obtain ⟨ha, hb, hc, hd⟩ := hh; first | omega | (rw [ha] at h1; cases h1)))).symm), rfl⟩
noncomputable def c_numbers (p : List Nat) : Code := sub (AW Tryz.f151) p
set_option maxHeartbeats 1000000 in
theorem numbers_ct (I : Imm) (l : Value) (L : List (List UInt8)) (l_f : IsStrs I l L) (hG : TextG I) (hL : L.length ≤ 1000000) (hLs : ∀ x ∈ L, x.length ≤ 1000) : Ct Tryz.prog 151 #[l] I ([]) (fun v I' M' => ∃ u0 : Value, v = .tuple #[u0, .bool (EJ L)] ∧ M' = [] ∧ BF I' u0 (AE L)) := by
 obtain ⟨c9, d0, e3, e6, d8, e4, e5, b7⟩ := id l_f;subst d8;refine fr (args := [_]) (N := 28) Tryz.func151 (fun F => ?_);show Run _ _ (c_numbers []) _ _ [(0, vS c9 L.length d0)] _ _;refine rnm (rqr ?_);refine sp 2 [(3, .bool (false)), (2, vN)] (sn (sp 1 [(4, vN)] (se (rq (rqr (sp 3 [(11, vI (0)), (10, vI (↑(L.length))), (9, vS c9 L.length d0)] (se (rb 0 ?_))))))));refine rl (fun mz a w => ∃ J0 : Imm, ∃ k : Nat, ∃ a5 : Value, ∃ a0 : Seg, (I.le J0) ∧ (k ≤ L.length) ∧ ((L.take k).all ED = true) ∧ (Own 3 1 BA a5 ((L.take k).map JJ) a0) ∧ Slots 28 [(4, a5), (11, vI ↑k), (9, vS c9 L.length d0), (10, vI (↑(L.length)))] a ∧ a.defers = [] ∧ St J0 ((a0 ++ F)) w ∧ mz = L.length - k) ?_ ?_
 ·intro a w hS hD hW;exact ⟨_, I, 0, (vN), [], IR _, Nat.zero_le _, rfl, (Own.nil _ _ _), hS.sub (.cons 4 rfl (.cons 11 rfl (.cons 9 rfl (.cons 10 rfl (.nil _))))), hD, hW, rfl⟩
 rintro mz a w ⟨J0, k, a5, a0, hJ0, hk, b0, a4, hS, hD, hW, rfl⟩
 refine BJ hS hD hW ?_;clear hS hD hW a w;replace b7 := b7.mono hJ0;replace hG := hG.mono hJ0;obtain ⟨a1, a2, a6, b8⟩ := a4.shape; subst a6;refine rqr (sp 1 [(12, .bool (cmp .lss (↑k) (↑(L.length))))] (se (rq (rc 12 rfl (fun h1 => ?_) (fun h1 => ?_)))))
 ·
  have c7 := h1;have h1 := CQ h1;refine AM (NX (rq (rb 1 (rqr (sd (di 13 1 (k) b7.addr) (sd (dl 14 (HZ b7 (k) (by omega))) (sp 1 [(6, sV (L.getD (k) []))] (se (rq ?_)))))))));have e2 := hLs _ (AJ (d := []) (xs := L) (k := k) (by omega));refine rr (sp 1 [(16, sV (L.getD (k) []))] ?_);have c8 := number_ct J0 (L.getD (k) []) (by first | assumption | exact TextG.mono (by assumption) hI) (by omega);refine sS (sc (some 17) (F := ((a0 ++ F))) (c8 :) (.refl _) (fun e8 I1 e7 b3 d7 => ?_));obtain ⟨d5, d3⟩ := d7;rw [d5, d3]; clear d5 d3;refine nm ?_;refine sp 5 [(8, .bool (ED (L.getD (k) []))), (7, vI ((atoiV (L.getD (k) []))))] (se (rq (rqr (sp 2 [(21, .bool (!(ED (L.getD (k) []))))] (se (rc 21 rfl (fun h2 => ?_) (fun h2 => ?_)))))))
  ·
   have a8 := h2;have h2 := CW h2;have d6 : ED (L.getD (k) []) = false := by simpa using a8
   refine rqr (sp 2 [(3, .bool (false)), (2, vN)] (se (BT ((RP (RB (RP (RP (RB (RP ?_))))))))));have b1 := nums_bad (L := L) (i := k) (by omega) d6;refine DA (t := 2) (u := 3) [] (by kernel_rfl) rfl rfl (TT (TR _) (TB _ _)) (IT hJ0 b3) ?_;exact ⟨_, (congrArg (fun b => Value.tuple #[_, .bool b]) b1.1.symm), rfl, (b1.2.symm ▸ (IsSl.nil _))⟩
  have a8 := h2;have h2 := CM h2;have d4 : ED (L.getD (k) []) = true := by simpa using a8
  refine AM (NX (rr (sp 2 [(23, vI ((atoiV (L.getD (k) [])))), (22, vS a1 ((L.take k).map JJ).length a2)] (sS (sbs 24 3 1 #[vI ((atoiV (L.getD (k) [])))] (fun b9 => (sS (AO (d := 25) (x := (.tmp 22)) (y := (.tmp 24)) (T := 23) (T' := 23) (E := 3) (E' := 3) (sz := 1) (bs := 8) (z := vI (0)) (cell := BA) (xs := (L.take k).map JJ) (ys := [((atoiV (L.getD (k) [])) : Int)]) (Ms := a0) (ty := 23) (gd := none) (by kernel_rfl) rfl (by kernel_rfl) (by kernel_rfl) (by kernel_rfl) (by kernel_rfl) (by kernel_rfl) (by decide) (by kernel_rfl) rfl rfl (a4) (PM.symm) (CI _) (CB 0 rfl rfl) (by first | omega | (simp only [List.length_map, LK, LC, LN, LA]; omega)) (fun e9 a9 b4 => (AN (M' := ((a9 ++ F))) (fun w h => (h.perm PM).sub (TC _ (TR _))) ?_))))))))));obtain ⟨b5, b6, d1, d9⟩ := b4.shape;subst d1;refine sp 1 [(4, vS b5 (((L.take k).map JJ) ++ ([((atoiV (L.getD (k) [])) : Int)])).length b6)] (ee (NB (NX (rr (sd (da 26 (↑k) (1)) (sp 1 [(11, vI (↑k + 1))] (ee ?_)))))));refine AH (L.length - (k+1)) (by omega) ?_;intro a w hS hD hW;exact ⟨I1, k+1, vS b5 (((L.take k).map JJ) ++ ([((atoiV (L.getD (k) [])) : Int)])).length b6, a9, (IT hJ0 b3), by omega, nall_step (by omega) b0 d4, ((nmap_step (by omega) (atoi_num d4).2) ▸ b4), hS.sub (.consE 4 rfl rfl (.consE 11 rfl rfl (.cons 9 rfl (.cons 10 rfl (.nil _))))), hD, hW, rfl⟩
 have c7 := h1;have h1 := CP h1;refine CK 0 ((EP (EP (EB (NX (rq ?_))))));have e1 : ((L.take k).map JJ).length ≤ 1000000 := by (rw [List.length_map, LK]; omega)
 refine HL (B := (F)) 0 a4 (by first | omega | (simp only [LS, LC, LN, LA, LK, LD] <;> omega) | decide) (PR _) (PR _) (fun e0 b2 a3 => ?_);obtain ⟨c0, c2, c1, c5, a7, c3, c4, c6⟩ := id a3;cases a7;refine rr (sp 3 [(3, .bool (true)), (2, vS a1 ((L.take k).map JJ).length a2)] (se (BT ?_)));have d2 := nums_all_take (by omega) b0;refine DA (t := 2) (u := 3) [] (by kernel_rfl) rfl rfl (TR _) (IT hJ0 b2) ?_;exact ⟨_, (congrArg (fun b => Value.tuple #[_, .bool b]) d2.1.symm), rfl, (d2.2.symm ▸ a3)⟩
noncomputable def c_takeCoach (p : List Nat) : Code := sub (AW Tryz.f123) p
set_option maxHeartbeats 1000000 in
theorem takeCoach_ct (I : Imm) (y : Nat) (y_1 y_2 y_3 : Value) (y_ws : List Value) (y_M1 y_M2 y_M3 : Seg) (Y : Yard) (w : Value) (W : List (List UInt8)) (y_1h : Own 56 6 CF y_1 Y.cars y_M1) (y_2h : Own 3 1 BA y_2 Y.room y_M2) (y_3h : Own 23 1 AP y_3 y_ws y_M3) (y_3r : RowsV I y_ws Y.tracks) (w_f : IsStrs I w W) (hG : TextG I) (hW : W.length ≤ 1000) (hWs : ∀ x ∈ W, x.length ≤ 1000) (hY : Y.cars.length ≤ 1000) : Ct Tryz.prog 123 #[vP y 0, w] I ([(bX y #[y_1, y_2, y_3] 26)] ++ (y_M1 ++ (y_M2 ++ (y_M3)))) (fun v I' M' => ∃ y_1t : Value, ∃ y_2t : Value, ∃ y_3t : Value, ∃ y_wt : List Value, ∃ y_M1t : Seg, ∃ y_M2t : Seg, ∃ y_M3t : Seg, v = .bool (IM W) ∧ M' = [(bX y #[y_1t, y_2t, y_3t] 26)] ++ (y_M1t ++ (y_M2t ++ (y_M3t))) ∧ Own 56 6 CF y_1t (tcY Y W).cars y_M1t ∧ Own 3 1 BA y_2t (tcY Y W).room y_M2t ∧ Own 23 1 AP y_3t y_wt y_M3t ∧ RowsV I' y_wt (tcY Y W).tracks) := by
 obtain ⟨a4, a5, e2, g3⟩ := y_1h.shape; subst e2;obtain ⟨a0, a1, e3, g4⟩ := y_2h.shape; subst e3;obtain ⟨a2, a3, e4, g5⟩ := y_3h.shape; subst e4;have c2 := y_3r.1
 try simp only [LS, LA, LC, LN, LK] at c2
 obtain ⟨f5, f6, j5, j8, i8, j6, j7, e5⟩ := id w_f;subst i8;refine fr (args := [_, _]) (N := 56) Tryz.func123 (fun F => ?_);show Run _ _ (c_takeCoach []) _ _ [(0, vP y 0), (1, vS f5 W.length f6)] _ _;refine GS (M' := ((bX y #[vS a4 Y.cars.length a5, vS a0 Y.room.length a1, vS a2 y_ws.length a3] 26) :: (y_M1 ++ (y_M2 ++ (y_M3 ++ F))))) (fun w h => by simpa only [AA, CA, NA] using h) (rnm (rqr ?_));refine sp 1 [(4, .bool (false))] (se (rq (rqr (sp 3 [(10, .bool (!(cmp .eql (↑(W.length)) (6))))] (se (rc 10 rfl (fun h1 => ?_) (fun h1 => ?_)))))))
 ·
  have e6 := h1;have h1 := EA (CW h1);refine rqr (sp 1 [(4, .bool (false))] (se (BT ((RP ?_)))));have a9 : IM W = false := tc_len (by omega);have a7 : tcY Y W = Y := tcY_no a9;refine AF (t := 4) ([(bX y #[vS a4 Y.cars.length a5, vS a0 Y.room.length a1, vS a2 y_ws.length a3] 26)] ++ (y_M1 ++ (y_M2 ++ (y_M3)))) (by kernel_rfl) rfl (by simp only [AA, NA, CA]; exact (TK _ (TA (TA (TA (TR _) _) _) _))) (IR _) ?_;exact ⟨_, _, _, _, _, _, _, (congrArg Value.bool (show false = IM W from a9.symm)), rfl, ((congrArg Yard.cars a7).symm ▸ y_1h), ((congrArg Yard.room a7).symm ▸ y_2h), y_3h, ((congrArg Yard.tracks a7).symm ▸ y_3r)⟩
 have e6 := h1;have h1 := EH (CM h1);refine AM (NX (rqr (sp 1 [(12, vS f5 W.length f6)] ?_)));have c8 := w_f.cut (1) (5) (by omega) (by omega);obtain ⟨i1, i3, i2, i6, d9, i4, i5, i7⟩ := id c8;rw [d9] at c8;refine sd (BN (EX (x := (.tmp 12)) (lo := (some (.const (vI 1)))) (hi := (some (.const (vI 5)))) (T := 87) (e := 9) (sz := 1) (1) (5) (d := 13) (ty := 87) (gd := none) (by kernel_rfl) rfl (by kernel_rfl) (by kernel_rfl) rfl (.inr ⟨_, .i64, rfl, rfl⟩) (.inr ⟨_, .i64, rfl, rfl⟩) (by omega) (by omega)) d9) ?_;have d3 := numbers_ct I _ _ c8 (by first | assumption | exact TextG.mono (by assumption) hI) (by simp only [LK, LD]; omega) (by exact fun x hx => hWs x (List.mem_of_mem_drop (List.mem_of_mem_take hx)));refine sS (sc (some 14) (d3 :) (.refl _) (fun i9 I2 i0 b0 g8 => ?_));obtain ⟨j0, f8, f7, h9⟩ := g8;rw [f8, f7]; clear f8 f7;replace y_3r := y_3r.mono b0;replace e5 := e5.mono b0;have e1 := h9;obtain ⟨b1, b2, f9, g2, e0, g0, g1, a8⟩ := id e1;subst e0;refine nm ?_;refine sp 5 [(6, .bool (EJ ((W.drop (1)).take (5 - 1)))), (5, vS b1 (AE ((W.drop (1)).take (5 - 1))).length b2)] (se (rq (rqr (sp 2 [(18, .bool (!(EJ ((W.drop (1)).take (5 - 1)))))] (se (rc 18 rfl (fun h2 => ?_) (fun h2 => ?_)))))))
 ·
  have c7 := h2;have h2 := CW h2;have g6 : EJ ((W.drop (1)).take (5 - 1)) = false := by simpa using c7
  refine rqr (sp 1 [(4, .bool (false))] (se (BT ((RP ?_)))));have a9 : IM W = false := tc_nums g6;have a7 : tcY Y W = Y := tcY_no a9;refine AF (t := 4) ([(bX y #[vS a4 Y.cars.length a5, vS a0 Y.room.length a1, vS a2 y_ws.length a3] 26)] ++ (y_M1 ++ (y_M2 ++ (y_M3)))) (by kernel_rfl) rfl (by simp only [AA, NA, CA]; exact (TK _ (TA (TA (TA (TR _) _) _) _))) b0 ?_;exact ⟨_, _, _, _, _, _, _, (congrArg Value.bool (show false = IM W from a9.symm)), rfl, ((congrArg Yard.cars a7).symm ▸ y_1h), ((congrArg Yard.room a7).symm ▸ y_2h), y_3h, ((congrArg Yard.tracks a7).symm ▸ y_3r)⟩
 have c7 := h2;have h2 := CM h2;have d4 : EJ ((W.drop (1)).take (5 - 1)) = true := by simpa using c7
 have g7 := nums_len d4;simp only [LK, LD] at g7;refine AM (NX (rq ?_));refine rd 14 [(0, true), (1, true), (2, true), (3, true), (4, true), (5, true), (6, true), (7, true), (8, true), (9, true), (10, true), (11, true), (12, true), (13, false)] ((bX y #[vS a4 Y.cars.length a5, vS a0 Y.room.length a1, vS a2 y_ws.length a3] 26) :: []) ((y_M1 ++ (y_M2 ++ (y_M3 ++ F)))) (ox 1 [(19, vS b1 (AE ((W.drop (1)).take (5 - 1))).length b2)] ?_);refine AC (di 20 1 (0) a8.addr) ?_;refine AC (dl 21 (BS a8 (0) (by omega))) (ox 1 [(22, vS b1 (AE ((W.drop (1)).take (5 - 1))).length b2)] ?_);refine AC (di 23 1 (1) a8.addr) ?_;refine AC (dl 24 (BS a8 (1) (by omega))) (ox 1 [(25, vS b1 (AE ((W.drop (1)).take (5 - 1))).length b2)] ?_);refine AC (di 26 1 (2) a8.addr) ?_;refine AC (dl 27 (BS a8 (2) (by omega))) (ox 1 [(28, vS b1 (AE ((W.drop (1)).take (5 - 1))).length b2)] ?_);refine AC (di 29 1 (3) a8.addr) ?_;refine AC (dl 30 (BS a8 (3) (by omega))) (ox 1 [(31, .agg #[vI ((AE ((W.drop (1)).take (5 - 1))).getD (0) 0), vI ((AE ((W.drop (1)).take (5 - 1))).getD (1) 0), vI ((AE ((W.drop (1)).take (5 - 1))).getD (2) 0), vI ((AE ((W.drop (1)).take (5 - 1))).getD (3) 0), .bool (false), .bool (false)])] ?_);refine BL (sal 7 56 #[vI (0), vI (0), vI (0), vI (0), .bool (false), .bool (false)] (fun a6 => ?_));refine AL (S' := ((bX a6 #[vI (0), vI (0), vI (0), vI (0), .bool (false), .bool (false)] 56) :: (y_M1 ++ (y_M2 ++ (y_M3 ++ F))))) (PS _ _ _) ?_;refine DW (nm (nm ?_));refine sS (ss 1 0 a6 [vI ((AE ((W.drop (1)).take (5 - 1))).getD (0) 0), vI ((AE ((W.drop (1)).take (5 - 1))).getD (1) 0), vI ((AE ((W.drop (1)).take (5 - 1))).getD (2) 0), vI ((AE ((W.drop (1)).take (5 - 1))).getD (3) 0), .bool (false), .bool (false)] [vI ((AE ((W.drop (1)).take (5 - 1))).getD (0) 0), vI ((AE ((W.drop (1)).take (5 - 1))).getD (1) 0), vI ((AE ((W.drop (1)).take (5 - 1))).getD (2) 0), vI ((AE ((W.drop (1)).take (5 - 1))).getD (3) 0), .bool (false), .bool (false)] (_ :: _ :: _) (cs := [_, _, _, _, _, _]) rfl rfl (se (rq (rqr (sp 1 [(32, vS f5 W.length f6)] (sd (di 33 1 (5) e5.addr) (sd (dl 34 (HZ e5 (5) (by omega))) (se (rb 0 (rq (rb 5 (rq (rb 4 (rq (rb 3 (rq (rb 2 (rq (rb 1 (rq (rq (rqr (sd (FB (x := (.tmp 34)) (y := (.const (.string { data := #[112, 104] }))) (T := 9) (T' := 9) (d := 36) (ty := 4) (gd := none) (by kernel_rfl) rfl rfl rfl) (sp 1 [(35, .bool (decide (W.getD (5) [] = ([112, 104] : List UInt8))))] (se (rc 35 rfl (fun h3 => ?_) (fun h3 => ?_)))))))))))))))))))))))))))
 ·
  have e7 := h3;have h3 := HD h3;refine CK 1 ((EP (EP (EB (NX (rr (sp 1 [(43, vP a6 4)] (sS (ss 1 4 a6 [.bool (true)] [vI ((AE ((W.drop (1)).take (5 - 1))).getD (0) 0), vI ((AE ((W.drop (1)).take (5 - 1))).getD (1) 0), vI ((AE ((W.drop (1)).take (5 - 1))).getD (2) 0), vI ((AE ((W.drop (1)).take (5 - 1))).getD (3) 0), .bool (true), .bool (false)] (_ :: _ :: _) (cs := [_, _, _, _, _, _]) rfl rfl (ee (NB (NX (rqr (sp 1 [(44, vP a6 5)] (sS (ss 1 5 a6 [.bool (true)] [vI ((AE ((W.drop (1)).take (5 - 1))).getD (0) 0), vI ((AE ((W.drop (1)).take (5 - 1))).getD (1) 0), vI ((AE ((W.drop (1)).take (5 - 1))).getD (2) 0), vI ((AE ((W.drop (1)).take (5 - 1))).getD (3) 0), .bool (true), .bool (true)] (_ :: _ :: _) (cs := [_, _, _, _, _, _]) rfl rfl (se (CK 0 ((BB (by decide) (EP (BB (by decide) (EP (BB (by decide) (EP (EB (NX (rq ?_))))))))))))))))))))))))))));refine rd 8 [(0, true), (1, true), (2, true), (3, true), (4, true), (5, true), (6, false), (7, false)] ((bX y #[vS a4 Y.cars.length a5, vS a0 Y.room.length a1, vS a2 y_ws.length a3] 26) :: (bX a6 #[vI ((AE ((W.drop (1)).take (5 - 1))).getD (0) 0), vI ((AE ((W.drop (1)).take (5 - 1))).getD (1) 0), vI ((AE ((W.drop (1)).take (5 - 1))).getD (2) 0), vI ((AE ((W.drop (1)).take (5 - 1))).getD (3) 0), .bool (true), .bool (true)] 56) :: []) ((y_M1 ++ (y_M2 ++ (y_M3 ++ F)))) (ox 4 [(49, vP y 0), (46, vP y 0)] ?_);refine AC (dlb 50 0 0 y (vS a4 Y.cars.length a5)) ?_;refine AC (dnb 51 1 0 a6 [vI ((AE ((W.drop (1)).take (5 - 1))).getD (0) 0), vI ((AE ((W.drop (1)).take (5 - 1))).getD (1) 0), vI ((AE ((W.drop (1)).take (5 - 1))).getD (2) 0), vI ((AE ((W.drop (1)).take (5 - 1))).getD (3) 0), .bool (true), .bool (true)]) ?_;refine BL (sbs 52 56 1 #[vI ((AE ((W.drop (1)).take (5 - 1))).getD (0) 0), vI ((AE ((W.drop (1)).take (5 - 1))).getD (1) 0), vI ((AE ((W.drop (1)).take (5 - 1))).getD (2) 0), vI ((AE ((W.drop (1)).take (5 - 1))).getD (3) 0), .bool (true), .bool (true)] (fun c9 => ?_));refine AL (S' := ((bX c9 #[vI ((AE ((W.drop (1)).take (5 - 1))).getD (0) 0), vI ((AE ((W.drop (1)).take (5 - 1))).getD (1) 0), vI ((AE ((W.drop (1)).take (5 - 1))).getD (2) 0), vI ((AE ((W.drop (1)).take (5 - 1))).getD (3) 0), .bool (true), .bool (true)] 56) :: (y_M1 ++ (y_M2 ++ (y_M3 ++ F))))) ((PS _ _ _).trans (PC _ (PS _ _ _))) ?_;refine BL (AO (d := 53) (x := (.tmp 50)) (y := (.tmp 52)) (T := 22) (T' := 22) (E := 56) (E' := 56) (sz := 6) (bs := 40) (z := .agg #[vI (0), vI (0), vI (0), vI (0), .bool (false), .bool (false)]) (cell := CF) (xs := Y.cars) (ys := [(⟨(AE ((W.drop (1)).take (5 - 1))).getD (0) 0, (AE ((W.drop (1)).take (5 - 1))).getD (1) 0, (AE ((W.drop (1)).take (5 - 1))).getD (2) 0, (AE ((W.drop (1)).take (5 - 1))).getD (3) 0, true, true⟩ : Car)]) (Ms := y_M1) (ty := 22) (gd := none) (by kernel_rfl) rfl (by kernel_rfl) (by kernel_rfl) (by kernel_rfl) (by kernel_rfl) (by kernel_rfl) (by decide) (by kernel_rfl) rfl rfl (y_1h) (show List.Perm ((bX y #[vS a4 Y.cars.length a5, vS a0 Y.room.length a1, vS a2 y_ws.length a3] 26) :: (bX a6 #[vI ((AE ((W.drop (1)).take (5 - 1))).getD (0) 0), vI ((AE ((W.drop (1)).take (5 - 1))).getD (1) 0), vI ((AE ((W.drop (1)).take (5 - 1))).getD (2) 0), vI ((AE ((W.drop (1)).take (5 - 1))).getD (3) 0), .bool (true), .bool (true)] 56) :: (bX c9 #[vI ((AE ((W.drop (1)).take (5 - 1))).getD (0) 0), vI ((AE ((W.drop (1)).take (5 - 1))).getD (1) 0), vI ((AE ((W.drop (1)).take (5 - 1))).getD (2) 0), vI ((AE ((W.drop (1)).take (5 - 1))).getD (3) 0), .bool (true), .bool (true)] 56) :: (y_M1 ++ (y_M2 ++ (y_M3 ++ F)))) ((y_M1 ++ (bX y #[vS a4 Y.cars.length a5, vS a0 Y.room.length a1, vS a2 y_ws.length a3] 26) :: (bX a6 #[vI ((AE ((W.drop (1)).take (5 - 1))).getD (0) 0), vI ((AE ((W.drop (1)).take (5 - 1))).getD (1) 0), vI ((AE ((W.drop (1)).take (5 - 1))).getD (2) 0), vI ((AE ((W.drop (1)).take (5 - 1))).getD (3) 0), .bool (true), .bool (true)] 56) :: (bX c9 #[vI ((AE ((W.drop (1)).take (5 - 1))).getD (0) 0), vI ((AE ((W.drop (1)).take (5 - 1))).getD (1) 0), vI ((AE ((W.drop (1)).take (5 - 1))).getD (2) 0), vI ((AE ((W.drop (1)).take (5 - 1))).getD (3) 0), .bool (true), .bool (true)] 56) :: (y_M2 ++ (y_M3 ++ F)))) from (PU (PU (PM.symm)))) (CS _) (CB 2 rfl rfl) (by first | omega | (simp only [LC, LN, LA, LK, LD]; omega)) (fun j1 c3 d5 => ?_));refine AL (S' := ((bX c9 #[vI ((AE ((W.drop (1)).take (5 - 1))).getD (0) 0), vI ((AE ((W.drop (1)).take (5 - 1))).getD (1) 0), vI ((AE ((W.drop (1)).take (5 - 1))).getD (2) 0), vI ((AE ((W.drop (1)).take (5 - 1))).getD (3) 0), .bool (true), .bool (true)] 56) :: (c3 ++ (y_M2 ++ (y_M3 ++ F))))) (PW (PW PM)) ?_;obtain ⟨b4, b8, f1, g9⟩ := d5.shape;subst f1;show OFP _ _ _ _ _ _ ((53, vS b4 (Y.cars ++ ([(⟨(AE ((W.drop (1)).take (5 - 1))).getD (0) 0, (AE ((W.drop (1)).take (5 - 1))).getD (1) 0, (AE ((W.drop (1)).take (5 - 1))).getD (2) 0, (AE ((W.drop (1)).take (5 - 1))).getD (3) 0, true, true⟩ : Car)])).length b8) :: _) _ _;refine DW (nm (nm ?_));refine sp 2 [(55, vP y 0)] (sS (ss 0 0 y [vS b4 (Y.cars ++ ([(⟨(AE ((W.drop (1)).take (5 - 1))).getD (0) 0, (AE ((W.drop (1)).take (5 - 1))).getD (1) 0, (AE ((W.drop (1)).take (5 - 1))).getD (2) 0, (AE ((W.drop (1)).take (5 - 1))).getD (3) 0, true, true⟩ : Car)])).length b8] [vS b4 (Y.cars ++ ([(⟨(AE ((W.drop (1)).take (5 - 1))).getD (0) 0, (AE ((W.drop (1)).take (5 - 1))).getD (1) 0, (AE ((W.drop (1)).take (5 - 1))).getD (2) 0, (AE ((W.drop (1)).take (5 - 1))).getD (3) 0, true, true⟩ : Car)])).length b8, vS a0 Y.room.length a1, vS a2 y_ws.length a3] (_ :: _ :: _ :: _) (cs := [_, _, _]) rfl rfl (sn (sp 1 [(4, .bool (true))] (se (BT ?_))))));have b3 := tc_ph (by omega) d4 h3;have a9 := b3.1;have a7 : tcY Y W = ⟨Y.cars ++ [tcV W], Y.room, Y.tracks⟩ := tcY_yes a9;refine ppm (M' := ((bX y #[vS b4 (Y.cars ++ ([(⟨(AE ((W.drop (1)).take (5 - 1))).getD (0) 0, (AE ((W.drop (1)).take (5 - 1))).getD (1) 0, (AE ((W.drop (1)).take (5 - 1))).getD (2) 0, (AE ((W.drop (1)).take (5 - 1))).getD (3) 0, true, true⟩ : Car)])).length b8, vS a0 Y.room.length a1, vS a2 y_ws.length a3] 26) :: (c3 ++ (y_M2 ++ (y_M3 ++ (bX a6 #[vI ((AE ((W.drop (1)).take (5 - 1))).getD (0) 0), vI ((AE ((W.drop (1)).take (5 - 1))).getD (1) 0), vI ((AE ((W.drop (1)).take (5 - 1))).getD (2) 0), vI ((AE ((W.drop (1)).take (5 - 1))).getD (3) 0), .bool (true), .bool (true)] 56) :: (bX c9 #[vI ((AE ((W.drop (1)).take (5 - 1))).getD (0) 0), vI ((AE ((W.drop (1)).take (5 - 1))).getD (1) 0), vI ((AE ((W.drop (1)).take (5 - 1))).getD (2) 0), vI ((AE ((W.drop (1)).take (5 - 1))).getD (3) 0), .bool (true), .bool (true)] 56) :: F))))) (PC _ ((PU (PM.symm)).trans (PA _ ((PU (PM.symm)).trans (PA _ (PU (PM.symm))))))) (AF (t := 4) ([(bX y #[vS b4 (Y.cars ++ ([(⟨(AE ((W.drop (1)).take (5 - 1))).getD (0) 0, (AE ((W.drop (1)).take (5 - 1))).getD (1) 0, (AE ((W.drop (1)).take (5 - 1))).getD (2) 0, (AE ((W.drop (1)).take (5 - 1))).getD (3) 0, true, true⟩ : Car)])).length b8, vS a0 Y.room.length a1, vS a2 y_ws.length a3] 26)] ++ (c3 ++ (y_M2 ++ (y_M3)))) (by kernel_rfl) rfl (by simp only [AA, NA, CA]; exact (TK _ (TA (TA (TA (TC _ (TC _ (TR _))) _) _) _))) b0 ?_);exact ⟨_, _, _, _, _, _, _, (congrArg Value.bool (show true = IM W from a9.symm)), rfl, ((show Y.cars ++ ([(⟨(AE ((W.drop (1)).take (5 - 1))).getD (0) 0, (AE ((W.drop (1)).take (5 - 1))).getD (1) 0, (AE ((W.drop (1)).take (5 - 1))).getD (2) 0, (AE ((W.drop (1)).take (5 - 1))).getD (3) 0, true, true⟩ : Car)]) = (tcY Y W).cars from by rw [a7, b3.2]) ▸ d5), ((congrArg Yard.room a7).symm ▸ y_2h), y_3h, ((congrArg Yard.tracks a7).symm ▸ y_3r)⟩
 have e7 := h3;have h3 := IH h3;refine AM (NX (rq (rqr (sd (FB (x := (.tmp 34)) (y := (.const (.string { data := #[104] }))) (T := 9) (T' := 9) (d := 38) (ty := 4) (gd := none) (by kernel_rfl) rfl rfl rfl) (sp 1 [(37, .bool (decide (W.getD (5) [] = ([104] : List UInt8))))] (se (rc 37 rfl (fun h4 => ?_) (fun h4 => ?_))))))))
 ·
  have e8 := h4;have h4 := HD h4;refine CK 2 ((EP (EP (BB (by decide) (EP (EB (NX (rqr (sp 1 [(44, vP a6 5)] (sS (ss 1 5 a6 [.bool (true)] [vI ((AE ((W.drop (1)).take (5 - 1))).getD (0) 0), vI ((AE ((W.drop (1)).take (5 - 1))).getD (1) 0), vI ((AE ((W.drop (1)).take (5 - 1))).getD (2) 0), vI ((AE ((W.drop (1)).take (5 - 1))).getD (3) 0), .bool (false), .bool (true)] (_ :: _ :: _) (cs := [_, _, _, _, _, _]) rfl rfl (se (CK 0 ((BB (by decide) (EP (BB (by decide) (EP (BB (by decide) (EP (EB (NX (rq ?_)))))))))))))))))))))));refine rd 8 [(0, true), (1, true), (2, true), (3, true), (4, true), (5, true), (6, false), (7, false)] ((bX y #[vS a4 Y.cars.length a5, vS a0 Y.room.length a1, vS a2 y_ws.length a3] 26) :: (bX a6 #[vI ((AE ((W.drop (1)).take (5 - 1))).getD (0) 0), vI ((AE ((W.drop (1)).take (5 - 1))).getD (1) 0), vI ((AE ((W.drop (1)).take (5 - 1))).getD (2) 0), vI ((AE ((W.drop (1)).take (5 - 1))).getD (3) 0), .bool (false), .bool (true)] 56) :: []) ((y_M1 ++ (y_M2 ++ (y_M3 ++ F)))) (ox 4 [(49, vP y 0), (46, vP y 0)] ?_);refine AC (dlb 50 0 0 y (vS a4 Y.cars.length a5)) ?_;refine AC (dnb 51 1 0 a6 [vI ((AE ((W.drop (1)).take (5 - 1))).getD (0) 0), vI ((AE ((W.drop (1)).take (5 - 1))).getD (1) 0), vI ((AE ((W.drop (1)).take (5 - 1))).getD (2) 0), vI ((AE ((W.drop (1)).take (5 - 1))).getD (3) 0), .bool (false), .bool (true)]) ?_;refine BL (sbs 52 56 1 #[vI ((AE ((W.drop (1)).take (5 - 1))).getD (0) 0), vI ((AE ((W.drop (1)).take (5 - 1))).getD (1) 0), vI ((AE ((W.drop (1)).take (5 - 1))).getD (2) 0), vI ((AE ((W.drop (1)).take (5 - 1))).getD (3) 0), .bool (false), .bool (true)] (fun d0 => ?_));refine AL (S' := ((bX d0 #[vI ((AE ((W.drop (1)).take (5 - 1))).getD (0) 0), vI ((AE ((W.drop (1)).take (5 - 1))).getD (1) 0), vI ((AE ((W.drop (1)).take (5 - 1))).getD (2) 0), vI ((AE ((W.drop (1)).take (5 - 1))).getD (3) 0), .bool (false), .bool (true)] 56) :: (y_M1 ++ (y_M2 ++ (y_M3 ++ F))))) ((PS _ _ _).trans (PC _ (PS _ _ _))) ?_;refine BL (AO (d := 53) (x := (.tmp 50)) (y := (.tmp 52)) (T := 22) (T' := 22) (E := 56) (E' := 56) (sz := 6) (bs := 40) (z := .agg #[vI (0), vI (0), vI (0), vI (0), .bool (false), .bool (false)]) (cell := CF) (xs := Y.cars) (ys := [(⟨(AE ((W.drop (1)).take (5 - 1))).getD (0) 0, (AE ((W.drop (1)).take (5 - 1))).getD (1) 0, (AE ((W.drop (1)).take (5 - 1))).getD (2) 0, (AE ((W.drop (1)).take (5 - 1))).getD (3) 0, false, true⟩ : Car)]) (Ms := y_M1) (ty := 22) (gd := none) (by kernel_rfl) rfl (by kernel_rfl) (by kernel_rfl) (by kernel_rfl) (by kernel_rfl) (by kernel_rfl) (by decide) (by kernel_rfl) rfl rfl (y_1h) (show List.Perm ((bX y #[vS a4 Y.cars.length a5, vS a0 Y.room.length a1, vS a2 y_ws.length a3] 26) :: (bX a6 #[vI ((AE ((W.drop (1)).take (5 - 1))).getD (0) 0), vI ((AE ((W.drop (1)).take (5 - 1))).getD (1) 0), vI ((AE ((W.drop (1)).take (5 - 1))).getD (2) 0), vI ((AE ((W.drop (1)).take (5 - 1))).getD (3) 0), .bool (false), .bool (true)] 56) :: (bX d0 #[vI ((AE ((W.drop (1)).take (5 - 1))).getD (0) 0), vI ((AE ((W.drop (1)).take (5 - 1))).getD (1) 0), vI ((AE ((W.drop (1)).take (5 - 1))).getD (2) 0), vI ((AE ((W.drop (1)).take (5 - 1))).getD (3) 0), .bool (false), .bool (true)] 56) :: (y_M1 ++ (y_M2 ++ (y_M3 ++ F)))) ((y_M1 ++ (bX y #[vS a4 Y.cars.length a5, vS a0 Y.room.length a1, vS a2 y_ws.length a3] 26) :: (bX a6 #[vI ((AE ((W.drop (1)).take (5 - 1))).getD (0) 0), vI ((AE ((W.drop (1)).take (5 - 1))).getD (1) 0), vI ((AE ((W.drop (1)).take (5 - 1))).getD (2) 0), vI ((AE ((W.drop (1)).take (5 - 1))).getD (3) 0), .bool (false), .bool (true)] 56) :: (bX d0 #[vI ((AE ((W.drop (1)).take (5 - 1))).getD (0) 0), vI ((AE ((W.drop (1)).take (5 - 1))).getD (1) 0), vI ((AE ((W.drop (1)).take (5 - 1))).getD (2) 0), vI ((AE ((W.drop (1)).take (5 - 1))).getD (3) 0), .bool (false), .bool (true)] 56) :: (y_M2 ++ (y_M3 ++ F)))) from (PU (PU (PM.symm)))) (CS _) (CB 2 rfl rfl) (by first | omega | (simp only [LC, LN, LA, LK, LD]; omega)) (fun j2 c4 d6 => ?_));refine AL (S' := ((bX d0 #[vI ((AE ((W.drop (1)).take (5 - 1))).getD (0) 0), vI ((AE ((W.drop (1)).take (5 - 1))).getD (1) 0), vI ((AE ((W.drop (1)).take (5 - 1))).getD (2) 0), vI ((AE ((W.drop (1)).take (5 - 1))).getD (3) 0), .bool (false), .bool (true)] 56) :: (c4 ++ (y_M2 ++ (y_M3 ++ F))))) (PW (PW PM)) ?_;obtain ⟨b5, b9, f2, h0⟩ := d6.shape;subst f2;show OFP _ _ _ _ _ _ ((53, vS b5 (Y.cars ++ ([(⟨(AE ((W.drop (1)).take (5 - 1))).getD (0) 0, (AE ((W.drop (1)).take (5 - 1))).getD (1) 0, (AE ((W.drop (1)).take (5 - 1))).getD (2) 0, (AE ((W.drop (1)).take (5 - 1))).getD (3) 0, false, true⟩ : Car)])).length b9) :: _) _ _;refine DW (nm (nm ?_));refine sp 2 [(55, vP y 0)] (sS (ss 0 0 y [vS b5 (Y.cars ++ ([(⟨(AE ((W.drop (1)).take (5 - 1))).getD (0) 0, (AE ((W.drop (1)).take (5 - 1))).getD (1) 0, (AE ((W.drop (1)).take (5 - 1))).getD (2) 0, (AE ((W.drop (1)).take (5 - 1))).getD (3) 0, false, true⟩ : Car)])).length b9] [vS b5 (Y.cars ++ ([(⟨(AE ((W.drop (1)).take (5 - 1))).getD (0) 0, (AE ((W.drop (1)).take (5 - 1))).getD (1) 0, (AE ((W.drop (1)).take (5 - 1))).getD (2) 0, (AE ((W.drop (1)).take (5 - 1))).getD (3) 0, false, true⟩ : Car)])).length b9, vS a0 Y.room.length a1, vS a2 y_ws.length a3] (_ :: _ :: _ :: _) (cs := [_, _, _]) rfl rfl (sn (sp 1 [(4, .bool (true))] (se (BT ?_))))));have b3 := tc_h (by omega) d4 h4;have a9 := b3.1;have a7 : tcY Y W = ⟨Y.cars ++ [tcV W], Y.room, Y.tracks⟩ := tcY_yes a9;refine ppm (M' := ((bX y #[vS b5 (Y.cars ++ ([(⟨(AE ((W.drop (1)).take (5 - 1))).getD (0) 0, (AE ((W.drop (1)).take (5 - 1))).getD (1) 0, (AE ((W.drop (1)).take (5 - 1))).getD (2) 0, (AE ((W.drop (1)).take (5 - 1))).getD (3) 0, false, true⟩ : Car)])).length b9, vS a0 Y.room.length a1, vS a2 y_ws.length a3] 26) :: (c4 ++ (y_M2 ++ (y_M3 ++ (bX a6 #[vI ((AE ((W.drop (1)).take (5 - 1))).getD (0) 0), vI ((AE ((W.drop (1)).take (5 - 1))).getD (1) 0), vI ((AE ((W.drop (1)).take (5 - 1))).getD (2) 0), vI ((AE ((W.drop (1)).take (5 - 1))).getD (3) 0), .bool (false), .bool (true)] 56) :: (bX d0 #[vI ((AE ((W.drop (1)).take (5 - 1))).getD (0) 0), vI ((AE ((W.drop (1)).take (5 - 1))).getD (1) 0), vI ((AE ((W.drop (1)).take (5 - 1))).getD (2) 0), vI ((AE ((W.drop (1)).take (5 - 1))).getD (3) 0), .bool (false), .bool (true)] 56) :: F))))) (PC _ ((PU (PM.symm)).trans (PA _ ((PU (PM.symm)).trans (PA _ (PU (PM.symm))))))) (AF (t := 4) ([(bX y #[vS b5 (Y.cars ++ ([(⟨(AE ((W.drop (1)).take (5 - 1))).getD (0) 0, (AE ((W.drop (1)).take (5 - 1))).getD (1) 0, (AE ((W.drop (1)).take (5 - 1))).getD (2) 0, (AE ((W.drop (1)).take (5 - 1))).getD (3) 0, false, true⟩ : Car)])).length b9, vS a0 Y.room.length a1, vS a2 y_ws.length a3] 26)] ++ (c4 ++ (y_M2 ++ (y_M3)))) (by kernel_rfl) rfl (by simp only [AA, NA, CA]; exact (TK _ (TA (TA (TA (TC _ (TC _ (TR _))) _) _) _))) b0 ?_);exact ⟨_, _, _, _, _, _, _, (congrArg Value.bool (show true = IM W from a9.symm)), rfl, ((show Y.cars ++ ([(⟨(AE ((W.drop (1)).take (5 - 1))).getD (0) 0, (AE ((W.drop (1)).take (5 - 1))).getD (1) 0, (AE ((W.drop (1)).take (5 - 1))).getD (2) 0, (AE ((W.drop (1)).take (5 - 1))).getD (3) 0, false, true⟩ : Car)]) = (tcY Y W).cars from by rw [a7, b3.2]) ▸ d6), ((congrArg Yard.room a7).symm ▸ y_2h), y_3h, ((congrArg Yard.tracks a7).symm ▸ y_3r)⟩
 have e8 := h4;have h4 := IH h4;refine AM (NX (rq (rqr (sd (FB (x := (.tmp 34)) (y := (.const (.string { data := #[112] }))) (T := 9) (T' := 9) (d := 40) (ty := 4) (gd := none) (by kernel_rfl) rfl rfl rfl) (sp 1 [(39, .bool (decide (W.getD (5) [] = ([112] : List UInt8))))] (se (rc 39 rfl (fun h5 => ?_) (fun h5 => ?_))))))))
 ·
  have e9 := h5;have h5 := HD h5;refine CK 3 ((EP (EP (BB (by decide) (EP (BB (by decide) (EP (EB (NX (rqr (sp 1 [(45, vP a6 4)] (sS (ss 1 4 a6 [.bool (true)] [vI ((AE ((W.drop (1)).take (5 - 1))).getD (0) 0), vI ((AE ((W.drop (1)).take (5 - 1))).getD (1) 0), vI ((AE ((W.drop (1)).take (5 - 1))).getD (2) 0), vI ((AE ((W.drop (1)).take (5 - 1))).getD (3) 0), .bool (true), .bool (false)] (_ :: _ :: _) (cs := [_, _, _, _, _, _]) rfl rfl (se (CK 0 ((BB (by decide) (EP (BB (by decide) (EP (EB (NX (rq ?_)))))))))))))))))))))));refine rd 8 [(0, true), (1, true), (2, true), (3, true), (4, true), (5, true), (6, false), (7, false)] ((bX y #[vS a4 Y.cars.length a5, vS a0 Y.room.length a1, vS a2 y_ws.length a3] 26) :: (bX a6 #[vI ((AE ((W.drop (1)).take (5 - 1))).getD (0) 0), vI ((AE ((W.drop (1)).take (5 - 1))).getD (1) 0), vI ((AE ((W.drop (1)).take (5 - 1))).getD (2) 0), vI ((AE ((W.drop (1)).take (5 - 1))).getD (3) 0), .bool (true), .bool (false)] 56) :: []) ((y_M1 ++ (y_M2 ++ (y_M3 ++ F)))) (ox 4 [(49, vP y 0), (46, vP y 0)] ?_);refine AC (dlb 50 0 0 y (vS a4 Y.cars.length a5)) ?_;refine AC (dnb 51 1 0 a6 [vI ((AE ((W.drop (1)).take (5 - 1))).getD (0) 0), vI ((AE ((W.drop (1)).take (5 - 1))).getD (1) 0), vI ((AE ((W.drop (1)).take (5 - 1))).getD (2) 0), vI ((AE ((W.drop (1)).take (5 - 1))).getD (3) 0), .bool (true), .bool (false)]) ?_;refine BL (sbs 52 56 1 #[vI ((AE ((W.drop (1)).take (5 - 1))).getD (0) 0), vI ((AE ((W.drop (1)).take (5 - 1))).getD (1) 0), vI ((AE ((W.drop (1)).take (5 - 1))).getD (2) 0), vI ((AE ((W.drop (1)).take (5 - 1))).getD (3) 0), .bool (true), .bool (false)] (fun d1 => ?_));refine AL (S' := ((bX d1 #[vI ((AE ((W.drop (1)).take (5 - 1))).getD (0) 0), vI ((AE ((W.drop (1)).take (5 - 1))).getD (1) 0), vI ((AE ((W.drop (1)).take (5 - 1))).getD (2) 0), vI ((AE ((W.drop (1)).take (5 - 1))).getD (3) 0), .bool (true), .bool (false)] 56) :: (y_M1 ++ (y_M2 ++ (y_M3 ++ F))))) ((PS _ _ _).trans (PC _ (PS _ _ _))) ?_;refine BL (AO (d := 53) (x := (.tmp 50)) (y := (.tmp 52)) (T := 22) (T' := 22) (E := 56) (E' := 56) (sz := 6) (bs := 40) (z := .agg #[vI (0), vI (0), vI (0), vI (0), .bool (false), .bool (false)]) (cell := CF) (xs := Y.cars) (ys := [(⟨(AE ((W.drop (1)).take (5 - 1))).getD (0) 0, (AE ((W.drop (1)).take (5 - 1))).getD (1) 0, (AE ((W.drop (1)).take (5 - 1))).getD (2) 0, (AE ((W.drop (1)).take (5 - 1))).getD (3) 0, true, false⟩ : Car)]) (Ms := y_M1) (ty := 22) (gd := none) (by kernel_rfl) rfl (by kernel_rfl) (by kernel_rfl) (by kernel_rfl) (by kernel_rfl) (by kernel_rfl) (by decide) (by kernel_rfl) rfl rfl (y_1h) (show List.Perm ((bX y #[vS a4 Y.cars.length a5, vS a0 Y.room.length a1, vS a2 y_ws.length a3] 26) :: (bX a6 #[vI ((AE ((W.drop (1)).take (5 - 1))).getD (0) 0), vI ((AE ((W.drop (1)).take (5 - 1))).getD (1) 0), vI ((AE ((W.drop (1)).take (5 - 1))).getD (2) 0), vI ((AE ((W.drop (1)).take (5 - 1))).getD (3) 0), .bool (true), .bool (false)] 56) :: (bX d1 #[vI ((AE ((W.drop (1)).take (5 - 1))).getD (0) 0), vI ((AE ((W.drop (1)).take (5 - 1))).getD (1) 0), vI ((AE ((W.drop (1)).take (5 - 1))).getD (2) 0), vI ((AE ((W.drop (1)).take (5 - 1))).getD (3) 0), .bool (true), .bool (false)] 56) :: (y_M1 ++ (y_M2 ++ (y_M3 ++ F)))) ((y_M1 ++ (bX y #[vS a4 Y.cars.length a5, vS a0 Y.room.length a1, vS a2 y_ws.length a3] 26) :: (bX a6 #[vI ((AE ((W.drop (1)).take (5 - 1))).getD (0) 0), vI ((AE ((W.drop (1)).take (5 - 1))).getD (1) 0), vI ((AE ((W.drop (1)).take (5 - 1))).getD (2) 0), vI ((AE ((W.drop (1)).take (5 - 1))).getD (3) 0), .bool (true), .bool (false)] 56) :: (bX d1 #[vI ((AE ((W.drop (1)).take (5 - 1))).getD (0) 0), vI ((AE ((W.drop (1)).take (5 - 1))).getD (1) 0), vI ((AE ((W.drop (1)).take (5 - 1))).getD (2) 0), vI ((AE ((W.drop (1)).take (5 - 1))).getD (3) 0), .bool (true), .bool (false)] 56) :: (y_M2 ++ (y_M3 ++ F)))) from (PU (PU (PM.symm)))) (CS _) (CB 2 rfl rfl) (by first | omega | (simp only [LC, LN, LA, LK, LD]; omega)) (fun j3 c5 d7 => ?_));refine AL (S' := ((bX d1 #[vI ((AE ((W.drop (1)).take (5 - 1))).getD (0) 0), vI ((AE ((W.drop (1)).take (5 - 1))).getD (1) 0), vI ((AE ((W.drop (1)).take (5 - 1))).getD (2) 0), vI ((AE ((W.drop (1)).take (5 - 1))).getD (3) 0), .bool (true), .bool (false)] 56) :: (c5 ++ (y_M2 ++ (y_M3 ++ F))))) (PW (PW PM)) ?_;obtain ⟨b6, c0, f3, h7⟩ := d7.shape;subst f3;show OFP _ _ _ _ _ _ ((53, vS b6 (Y.cars ++ ([(⟨(AE ((W.drop (1)).take (5 - 1))).getD (0) 0, (AE ((W.drop (1)).take (5 - 1))).getD (1) 0, (AE ((W.drop (1)).take (5 - 1))).getD (2) 0, (AE ((W.drop (1)).take (5 - 1))).getD (3) 0, true, false⟩ : Car)])).length c0) :: _) _ _;refine DW (nm (nm ?_));refine sp 2 [(55, vP y 0)] (sS (ss 0 0 y [vS b6 (Y.cars ++ ([(⟨(AE ((W.drop (1)).take (5 - 1))).getD (0) 0, (AE ((W.drop (1)).take (5 - 1))).getD (1) 0, (AE ((W.drop (1)).take (5 - 1))).getD (2) 0, (AE ((W.drop (1)).take (5 - 1))).getD (3) 0, true, false⟩ : Car)])).length c0] [vS b6 (Y.cars ++ ([(⟨(AE ((W.drop (1)).take (5 - 1))).getD (0) 0, (AE ((W.drop (1)).take (5 - 1))).getD (1) 0, (AE ((W.drop (1)).take (5 - 1))).getD (2) 0, (AE ((W.drop (1)).take (5 - 1))).getD (3) 0, true, false⟩ : Car)])).length c0, vS a0 Y.room.length a1, vS a2 y_ws.length a3] (_ :: _ :: _ :: _) (cs := [_, _, _]) rfl rfl (sn (sp 1 [(4, .bool (true))] (se (BT ?_))))));have b3 := tc_p (by omega) d4 h5;have a9 := b3.1;have a7 : tcY Y W = ⟨Y.cars ++ [tcV W], Y.room, Y.tracks⟩ := tcY_yes a9;refine ppm (M' := ((bX y #[vS b6 (Y.cars ++ ([(⟨(AE ((W.drop (1)).take (5 - 1))).getD (0) 0, (AE ((W.drop (1)).take (5 - 1))).getD (1) 0, (AE ((W.drop (1)).take (5 - 1))).getD (2) 0, (AE ((W.drop (1)).take (5 - 1))).getD (3) 0, true, false⟩ : Car)])).length c0, vS a0 Y.room.length a1, vS a2 y_ws.length a3] 26) :: (c5 ++ (y_M2 ++ (y_M3 ++ (bX a6 #[vI ((AE ((W.drop (1)).take (5 - 1))).getD (0) 0), vI ((AE ((W.drop (1)).take (5 - 1))).getD (1) 0), vI ((AE ((W.drop (1)).take (5 - 1))).getD (2) 0), vI ((AE ((W.drop (1)).take (5 - 1))).getD (3) 0), .bool (true), .bool (false)] 56) :: (bX d1 #[vI ((AE ((W.drop (1)).take (5 - 1))).getD (0) 0), vI ((AE ((W.drop (1)).take (5 - 1))).getD (1) 0), vI ((AE ((W.drop (1)).take (5 - 1))).getD (2) 0), vI ((AE ((W.drop (1)).take (5 - 1))).getD (3) 0), .bool (true), .bool (false)] 56) :: F))))) (PC _ ((PU (PM.symm)).trans (PA _ ((PU (PM.symm)).trans (PA _ (PU (PM.symm))))))) (AF (t := 4) ([(bX y #[vS b6 (Y.cars ++ ([(⟨(AE ((W.drop (1)).take (5 - 1))).getD (0) 0, (AE ((W.drop (1)).take (5 - 1))).getD (1) 0, (AE ((W.drop (1)).take (5 - 1))).getD (2) 0, (AE ((W.drop (1)).take (5 - 1))).getD (3) 0, true, false⟩ : Car)])).length c0, vS a0 Y.room.length a1, vS a2 y_ws.length a3] 26)] ++ (c5 ++ (y_M2 ++ (y_M3)))) (by kernel_rfl) rfl (by simp only [AA, NA, CA]; exact (TK _ (TA (TA (TA (TC _ (TC _ (TR _))) _) _) _))) b0 ?_);exact ⟨_, _, _, _, _, _, _, (congrArg Value.bool (show true = IM W from a9.symm)), rfl, ((show Y.cars ++ ([(⟨(AE ((W.drop (1)).take (5 - 1))).getD (0) 0, (AE ((W.drop (1)).take (5 - 1))).getD (1) 0, (AE ((W.drop (1)).take (5 - 1))).getD (2) 0, (AE ((W.drop (1)).take (5 - 1))).getD (3) 0, true, false⟩ : Car)]) = (tcY Y W).cars from by rw [a7, b3.2]) ▸ d7), ((congrArg Yard.room a7).symm ▸ y_2h), y_3h, ((congrArg Yard.tracks a7).symm ▸ y_3r)⟩
 have e9 := h5;have h5 := IH h5;refine AM (NX (rqr (sd (FB (x := (.tmp 34)) (y := (.const (.string { data := #[45] }))) (T := 9) (T' := 9) (d := 42) (ty := 4) (gd := none) (by kernel_rfl) rfl rfl rfl) (sp 1 [(41, .bool (decide (W.getD (5) [] = ([45] : List UInt8))))] (se (rc 41 rfl (fun h6 => ?_) (fun h6 => ?_)))))))
 ·
  have f0 := h6;have h6 := HD h6;refine CK 4 ((EP (BB (by decide) (EP (BB (by decide) (EP (BB (by decide) (EP (EB (NX (CK 0 ((BB (by decide) (EP (EB (NX (rq ?_)))))))))))))))));refine rd 8 [(0, true), (1, true), (2, true), (3, true), (4, true), (5, true), (6, false), (7, false)] ((bX y #[vS a4 Y.cars.length a5, vS a0 Y.room.length a1, vS a2 y_ws.length a3] 26) :: (bX a6 #[vI ((AE ((W.drop (1)).take (5 - 1))).getD (0) 0), vI ((AE ((W.drop (1)).take (5 - 1))).getD (1) 0), vI ((AE ((W.drop (1)).take (5 - 1))).getD (2) 0), vI ((AE ((W.drop (1)).take (5 - 1))).getD (3) 0), .bool (false), .bool (false)] 56) :: []) ((y_M1 ++ (y_M2 ++ (y_M3 ++ F)))) (ox 4 [(49, vP y 0), (46, vP y 0)] ?_);refine AC (dlb 50 0 0 y (vS a4 Y.cars.length a5)) ?_;refine AC (dnb 51 1 0 a6 [vI ((AE ((W.drop (1)).take (5 - 1))).getD (0) 0), vI ((AE ((W.drop (1)).take (5 - 1))).getD (1) 0), vI ((AE ((W.drop (1)).take (5 - 1))).getD (2) 0), vI ((AE ((W.drop (1)).take (5 - 1))).getD (3) 0), .bool (false), .bool (false)]) ?_;refine BL (sbs 52 56 1 #[vI ((AE ((W.drop (1)).take (5 - 1))).getD (0) 0), vI ((AE ((W.drop (1)).take (5 - 1))).getD (1) 0), vI ((AE ((W.drop (1)).take (5 - 1))).getD (2) 0), vI ((AE ((W.drop (1)).take (5 - 1))).getD (3) 0), .bool (false), .bool (false)] (fun d2 => ?_));refine AL (S' := ((bX d2 #[vI ((AE ((W.drop (1)).take (5 - 1))).getD (0) 0), vI ((AE ((W.drop (1)).take (5 - 1))).getD (1) 0), vI ((AE ((W.drop (1)).take (5 - 1))).getD (2) 0), vI ((AE ((W.drop (1)).take (5 - 1))).getD (3) 0), .bool (false), .bool (false)] 56) :: (y_M1 ++ (y_M2 ++ (y_M3 ++ F))))) ((PS _ _ _).trans (PC _ (PS _ _ _))) ?_;refine BL (AO (d := 53) (x := (.tmp 50)) (y := (.tmp 52)) (T := 22) (T' := 22) (E := 56) (E' := 56) (sz := 6) (bs := 40) (z := .agg #[vI (0), vI (0), vI (0), vI (0), .bool (false), .bool (false)]) (cell := CF) (xs := Y.cars) (ys := [(⟨(AE ((W.drop (1)).take (5 - 1))).getD (0) 0, (AE ((W.drop (1)).take (5 - 1))).getD (1) 0, (AE ((W.drop (1)).take (5 - 1))).getD (2) 0, (AE ((W.drop (1)).take (5 - 1))).getD (3) 0, false, false⟩ : Car)]) (Ms := y_M1) (ty := 22) (gd := none) (by kernel_rfl) rfl (by kernel_rfl) (by kernel_rfl) (by kernel_rfl) (by kernel_rfl) (by kernel_rfl) (by decide) (by kernel_rfl) rfl rfl (y_1h) (show List.Perm ((bX y #[vS a4 Y.cars.length a5, vS a0 Y.room.length a1, vS a2 y_ws.length a3] 26) :: (bX a6 #[vI ((AE ((W.drop (1)).take (5 - 1))).getD (0) 0), vI ((AE ((W.drop (1)).take (5 - 1))).getD (1) 0), vI ((AE ((W.drop (1)).take (5 - 1))).getD (2) 0), vI ((AE ((W.drop (1)).take (5 - 1))).getD (3) 0), .bool (false), .bool (false)] 56) :: (bX d2 #[vI ((AE ((W.drop (1)).take (5 - 1))).getD (0) 0), vI ((AE ((W.drop (1)).take (5 - 1))).getD (1) 0), vI ((AE ((W.drop (1)).take (5 - 1))).getD (2) 0), vI ((AE ((W.drop (1)).take (5 - 1))).getD (3) 0), .bool (false), .bool (false)] 56) :: (y_M1 ++ (y_M2 ++ (y_M3 ++ F)))) ((y_M1 ++ (bX y #[vS a4 Y.cars.length a5, vS a0 Y.room.length a1, vS a2 y_ws.length a3] 26) :: (bX a6 #[vI ((AE ((W.drop (1)).take (5 - 1))).getD (0) 0), vI ((AE ((W.drop (1)).take (5 - 1))).getD (1) 0), vI ((AE ((W.drop (1)).take (5 - 1))).getD (2) 0), vI ((AE ((W.drop (1)).take (5 - 1))).getD (3) 0), .bool (false), .bool (false)] 56) :: (bX d2 #[vI ((AE ((W.drop (1)).take (5 - 1))).getD (0) 0), vI ((AE ((W.drop (1)).take (5 - 1))).getD (1) 0), vI ((AE ((W.drop (1)).take (5 - 1))).getD (2) 0), vI ((AE ((W.drop (1)).take (5 - 1))).getD (3) 0), .bool (false), .bool (false)] 56) :: (y_M2 ++ (y_M3 ++ F)))) from (PU (PU (PM.symm)))) (CS _) (CB 2 rfl rfl) (by first | omega | (simp only [LC, LN, LA, LK, LD]; omega)) (fun j4 c6 d8 => ?_));refine AL (S' := ((bX d2 #[vI ((AE ((W.drop (1)).take (5 - 1))).getD (0) 0), vI ((AE ((W.drop (1)).take (5 - 1))).getD (1) 0), vI ((AE ((W.drop (1)).take (5 - 1))).getD (2) 0), vI ((AE ((W.drop (1)).take (5 - 1))).getD (3) 0), .bool (false), .bool (false)] 56) :: (c6 ++ (y_M2 ++ (y_M3 ++ F))))) (PW (PW PM)) ?_;obtain ⟨b7, c1, f4, h8⟩ := d8.shape;subst f4;show OFP _ _ _ _ _ _ ((53, vS b7 (Y.cars ++ ([(⟨(AE ((W.drop (1)).take (5 - 1))).getD (0) 0, (AE ((W.drop (1)).take (5 - 1))).getD (1) 0, (AE ((W.drop (1)).take (5 - 1))).getD (2) 0, (AE ((W.drop (1)).take (5 - 1))).getD (3) 0, false, false⟩ : Car)])).length c1) :: _) _ _;refine DW (nm (nm ?_));refine sp 2 [(55, vP y 0)] (sS (ss 0 0 y [vS b7 (Y.cars ++ ([(⟨(AE ((W.drop (1)).take (5 - 1))).getD (0) 0, (AE ((W.drop (1)).take (5 - 1))).getD (1) 0, (AE ((W.drop (1)).take (5 - 1))).getD (2) 0, (AE ((W.drop (1)).take (5 - 1))).getD (3) 0, false, false⟩ : Car)])).length c1] [vS b7 (Y.cars ++ ([(⟨(AE ((W.drop (1)).take (5 - 1))).getD (0) 0, (AE ((W.drop (1)).take (5 - 1))).getD (1) 0, (AE ((W.drop (1)).take (5 - 1))).getD (2) 0, (AE ((W.drop (1)).take (5 - 1))).getD (3) 0, false, false⟩ : Car)])).length c1, vS a0 Y.room.length a1, vS a2 y_ws.length a3] (_ :: _ :: _ :: _) (cs := [_, _, _]) rfl rfl (sn (sp 1 [(4, .bool (true))] (se (BT ?_))))));have b3 := tc_d (by omega) d4 h6;have a9 := b3.1;have a7 : tcY Y W = ⟨Y.cars ++ [tcV W], Y.room, Y.tracks⟩ := tcY_yes a9;refine ppm (M' := ((bX y #[vS b7 (Y.cars ++ ([(⟨(AE ((W.drop (1)).take (5 - 1))).getD (0) 0, (AE ((W.drop (1)).take (5 - 1))).getD (1) 0, (AE ((W.drop (1)).take (5 - 1))).getD (2) 0, (AE ((W.drop (1)).take (5 - 1))).getD (3) 0, false, false⟩ : Car)])).length c1, vS a0 Y.room.length a1, vS a2 y_ws.length a3] 26) :: (c6 ++ (y_M2 ++ (y_M3 ++ (bX a6 #[vI ((AE ((W.drop (1)).take (5 - 1))).getD (0) 0), vI ((AE ((W.drop (1)).take (5 - 1))).getD (1) 0), vI ((AE ((W.drop (1)).take (5 - 1))).getD (2) 0), vI ((AE ((W.drop (1)).take (5 - 1))).getD (3) 0), .bool (false), .bool (false)] 56) :: (bX d2 #[vI ((AE ((W.drop (1)).take (5 - 1))).getD (0) 0), vI ((AE ((W.drop (1)).take (5 - 1))).getD (1) 0), vI ((AE ((W.drop (1)).take (5 - 1))).getD (2) 0), vI ((AE ((W.drop (1)).take (5 - 1))).getD (3) 0), .bool (false), .bool (false)] 56) :: F))))) (PC _ ((PU (PM.symm)).trans (PA _ ((PU (PM.symm)).trans (PA _ (PU (PM.symm))))))) (AF (t := 4) ([(bX y #[vS b7 (Y.cars ++ ([(⟨(AE ((W.drop (1)).take (5 - 1))).getD (0) 0, (AE ((W.drop (1)).take (5 - 1))).getD (1) 0, (AE ((W.drop (1)).take (5 - 1))).getD (2) 0, (AE ((W.drop (1)).take (5 - 1))).getD (3) 0, false, false⟩ : Car)])).length c1, vS a0 Y.room.length a1, vS a2 y_ws.length a3] 26)] ++ (c6 ++ (y_M2 ++ (y_M3)))) (by kernel_rfl) rfl (by simp only [AA, NA, CA]; exact (TK _ (TA (TA (TA (TC _ (TC _ (TR _))) _) _) _))) b0 ?_);exact ⟨_, _, _, _, _, _, _, (congrArg Value.bool (show true = IM W from a9.symm)), rfl, ((show Y.cars ++ ([(⟨(AE ((W.drop (1)).take (5 - 1))).getD (0) 0, (AE ((W.drop (1)).take (5 - 1))).getD (1) 0, (AE ((W.drop (1)).take (5 - 1))).getD (2) 0, (AE ((W.drop (1)).take (5 - 1))).getD (3) 0, false, false⟩ : Car)]) = (tcY Y W).cars from by rw [a7, b3.2]) ▸ d8), ((congrArg Yard.room a7).symm ▸ y_2h), y_3h, ((congrArg Yard.tracks a7).symm ▸ y_3r)⟩
 have f0 := h6;have h6 := IH h6;refine AM (NX (CK 5 ((BB (by decide) (EP (BB (by decide) (EP (BB (by decide) (EP (BB (by decide) (EP (EB (NX (rq (rqr (sp 1 [(4, .bool (false))] (se (BT ((RP (RB (RP ?_))))))))))))))))))))));have a9 : IM W = false := tc_marks h3 h4 h5 h6;have a7 : tcY Y W = Y := tcY_no a9;refine ppm (M' := ((bX y #[vS a4 Y.cars.length a5, vS a0 Y.room.length a1, vS a2 y_ws.length a3] 26) :: (y_M1 ++ (y_M2 ++ (y_M3 ++ (bX a6 #[vI ((AE ((W.drop (1)).take (5 - 1))).getD (0) 0), vI ((AE ((W.drop (1)).take (5 - 1))).getD (1) 0), vI ((AE ((W.drop (1)).take (5 - 1))).getD (2) 0), vI ((AE ((W.drop (1)).take (5 - 1))).getD (3) 0), .bool (false), .bool (false)] 56) :: F))))) (PC _ ((PM.symm).trans (PA _ ((PM.symm).trans (PA _ (PM.symm)))))) (AF (t := 4) ([(bX y #[vS a4 Y.cars.length a5, vS a0 Y.room.length a1, vS a2 y_ws.length a3] 26)] ++ (y_M1 ++ (y_M2 ++ (y_M3)))) (by kernel_rfl) rfl (by simp only [AA, NA, CA]; exact (TK _ (TA (TA (TA (TC _ (TR _)) _) _) _))) b0 ?_);exact ⟨_, _, _, _, _, _, _, (congrArg Value.bool (show false = IM W from a9.symm)), rfl, ((congrArg Yard.cars a7).symm ▸ y_1h), ((congrArg Yard.room a7).symm ▸ y_2h), y_3h, ((congrArg Yard.tracks a7).symm ▸ y_3r)⟩
noncomputable def HB (p : List Nat) : Code := sub (AW Tryz.f124) p
set_option maxHeartbeats 1000000 in
theorem takeTrack_ct (I : Imm) (y : Nat) (y_1 y_2 y_3 : Value) (y_ws : List Value) (y_M1 y_M2 y_M3 : Seg) (Y : Yard) (w : Value) (W : List (List UInt8)) (y_1h : Own 56 6 CF y_1 Y.cars y_M1) (y_2h : Own 3 1 BA y_2 Y.room y_M2) (y_3h : Own 23 1 AP y_3 y_ws y_M3) (y_3r : RowsV I y_ws Y.tracks) (w_f : IsStrs I w W) (hG : TextG I) (hW : W.length ≤ 1000) (hWs : ∀ x ∈ W, x.length ≤ 1000) (hY : Y.room.length ≤ 1000 ∧ Y.tracks.length ≤ 1000) : Ct Tryz.prog 124 #[vP y 0, w] I ([(bX y #[y_1, y_2, y_3] 26)] ++ (y_M1 ++ (y_M2 ++ (y_M3)))) (fun v I' M' => ∃ y_1t : Value, ∃ y_2t : Value, ∃ y_3t : Value, ∃ y_wt : List Value, ∃ y_M1t : Seg, ∃ y_M2t : Seg, ∃ y_M3t : Seg, v = .bool (OR W) ∧ M' = [(bX y #[y_1t, y_2t, y_3t] 26)] ++ (y_M1t ++ (y_M2t ++ (y_M3t))) ∧ Own 56 6 CF y_1t (ttY Y W).cars y_M1t ∧ Own 3 1 BA y_2t (ttY Y W).room y_M2t ∧ Own 23 1 AP y_3t y_wt y_M3t ∧ RowsV I' y_wt (ttY Y W).tracks) := by
 obtain ⟨a0, a1, f1, j3⟩ := y_1h.shape; subst f1;obtain ⟨a6, a7, f2, j4⟩ := y_2h.shape; subst f2;obtain ⟨a2, a3, f3, j5⟩ := y_3h.shape; subst f3;have c4 := y_3r.1
 try simp only [LS, LA, LC, LN, LK] at c4
 obtain ⟨j0, j1, m1, m4, l0, m2, m3, j2⟩ := id w_f;subst l0;refine fr (args := [_, _]) (N := 63) Tryz.func124 (fun F => ?_);show Run _ _ (HB []) _ _ [(0, vP y 0), (1, vS j0 W.length j1)] _ _;refine GS (M' := ((bX y #[vS a0 Y.cars.length a1, vS a6 Y.room.length a7, vS a2 y_ws.length a3] 26) :: (y_M1 ++ (y_M2 ++ (y_M3 ++ F))))) (fun w h => by simpa only [AA, CA, NA] using h) (rnm (rqr ?_));refine sp 1 [(4, .bool (false))] (se (rq (rqr (sp 3 [(14, .bool (!(cmp .eql (↑(W.length)) (2))))] (se (rc 14 rfl (fun h1 => ?_) (fun h1 => ?_)))))))
 ·
  have f4 := h1;have h1 := EA (CW h1);refine rqr (sp 1 [(4, .bool (false))] (se (BT ((RP ?_)))));have c2 : ttY Y W = Y := ttY_no (by omega);refine AF (t := 4) ([(bX y #[vS a0 Y.cars.length a1, vS a6 Y.room.length a7, vS a2 y_ws.length a3] 26)] ++ (y_M1 ++ (y_M2 ++ (y_M3)))) (by kernel_rfl) rfl (by simp only [AA, NA, CA]; exact (TK _ (TA (TA (TA (TR _) _) _) _))) (IR _) ?_;exact ⟨_, _, _, _, _, _, _, (congrArg Value.bool (show false = OR W from (tt_no (by omega)).symm)), rfl, ((congrArg Yard.cars c2).symm ▸ y_1h), ((congrArg Yard.room c2).symm ▸ y_2h), y_3h, ((congrArg Yard.tracks c2).symm ▸ y_3r)⟩
 have f4 := h1;have h1 := EH (CM h1);refine AM (NX (rq ?_));have l3 := hWs _ (AJ (d := []) (xs := W) (k := 1) (by omega));have l1 := cut_le (W.getD (1) []) 58;refine rr (sp 1 [(16, vS j0 W.length j1)] (sd (di 17 1 (1) j2.addr) (sd (dl 18 (HZ j2 (1) (by omega))) ?_)));have g0 := Cut_ct I (W.getD (1) []) ((58 : UInt8)) (by first | assumption | exact TextG.mono (by assumption) hI) (by omega);refine sS (sc (some 19) (g0 :) (.refl _) (fun l5 I1 l4 c7 j8 => ?_));obtain ⟨i2, i1⟩ := j8;rw [i2, i1]; clear i2 i1;replace y_3r := y_3r.mono c7;replace hG := hG.mono c7;refine nm ?_;refine sp 7 [(7, .bool ((Lib.cut (W.getD (1) []) [((58 : UInt8))]).2.2)), (6, sV (((Lib.cut (W.getD (1) []) [((58 : UInt8))]).2.1))), (5, sV (((Lib.cut (W.getD (1) []) [((58 : UInt8))]).1)))] (sn (sp 1 [(24, sV (((Lib.cut (W.getD (1) []) [((58 : UInt8))]).1)))] ?_));have d3 := number_ct I1 (((Lib.cut (W.getD (1) []) [((58 : UInt8))]).1)) (by first | assumption | exact TextG.mono (by assumption) hI) (by omega);refine sS (sc (some 25) (d3 :) (.refl _) (fun k6 I9 k3 b6 g1 => ?_));obtain ⟨e4, d6⟩ := g1;rw [e4, d6]; clear e4 d6;replace y_3r := y_3r.mono b6;replace hG := hG.mono b6;refine nm ?_;refine sp 5 [(9, .bool (ED (((Lib.cut (W.getD (1) []) [((58 : UInt8))]).1)))), (8, vI ((atoiV (((Lib.cut (W.getD (1) []) [((58 : UInt8))]).1)))))] (sn (sp 1 [(10, vN)] (sn (sp 1 [(11, .bool (true))] (se (rq (rqr (sp 1 [(28, sV (((Lib.cut (W.getD (1) []) [((58 : UInt8))]).2.1)))] (sd (det_neqS (x := (.tmp 28)) (y := (.const (.string { data := #[] }))) (T := 9) (T' := 9) (d := 29) (ty := 4) (gd := none) (by kernel_rfl) rfl rfl rfl) (se (rc 29 rfl (fun h2 => ?_) (fun h2 => ?_))))))))))))
 ·
  have f5 := h2;have h2 := IH (CW h2);have l2 := cutL_len_le (b := 44) (s := (Lib.cut (W.getD (1) []) [58]).2.1);refine rr (sp 1 [(31, sV (((Lib.cut (W.getD (1) []) [((58 : UInt8))]).2.1)))] ?_);have d4 := Split_ct I9 (((Lib.cut (W.getD (1) []) [((58 : UInt8))]).2.1)) ((44 : UInt8)) (by first | assumption | exact TextG.mono (by assumption) hI) (by omega);refine sS (sc (some 32) (d4 :) (.refl _) (fun k7 j6 k4 c1 g2 => ?_));obtain ⟨l6, e5, d7, g8⟩ := g2;rw [e5, d7]; clear e5 d7;replace y_3r := y_3r.mono c1;replace hG := hG.mono c1;have d1 := g8;obtain ⟨i3, i5, i4, i8, f0, i6, i7, i9⟩ := id d1;subst f0;refine nm ?_;have d5 := numbers_ct j6 _ _ d1 (by first | assumption | exact TextG.mono (by assumption) hI) (by omega) (by exact fun x hx => by (have := JB x hx; omega));refine sS (sc (some 33) (d5 :) (.refl _) (fun k8 j7 k5 d0 g3 => ?_));obtain ⟨k9, e6, d8, g9⟩ := g3;rw [e6, d8]; clear e6 d8;replace y_3r := y_3r.mono d0;have c3 := g9;obtain ⟨a4, a5, h0, h9, d2, h7, h8, i0⟩ := id c3;subst d2;refine nm ?_;refine sp 5 [(11, .bool (EJ (cutL ((44 : UInt8)) (((Lib.cut (W.getD (1) []) [((58 : UInt8))]).2.1))))), (10, vS a4 (AE (cutL ((44 : UInt8)) (((Lib.cut (W.getD (1) []) [((58 : UInt8))]).2.1)))).length a5)] (se (rq ?_));refine rdY (M := ((bX y #[vS a0 Y.cars.length a1, vS a6 Y.room.length a7, vS a2 y_ws.length a3] 26) :: (y_M1 ++ (y_M2 ++ (y_M3 ++ []))))) (F0 := F) [(42, vI ((atoiV (((Lib.cut (W.getD (1) []) [((58 : UInt8))]).1))))), (49, vS a4 (AE (cutL ((44 : UInt8)) (((Lib.cut (W.getD (1) []) [((58 : UInt8))]).2.1)))).length a5)] [7, 14] [(7, 43, .bs 3 1 #[vI ((atoiV (((Lib.cut (W.getD (1) []) [((58 : UInt8))]).1))))]), (14, 50, .bs 23 1 #[vS a4 (AE (cutL ((44 : UInt8)) (((Lib.cut (W.getD (1) []) [((58 : UInt8))]).2.1)))).length a5])] 19 [(0, true), (1, true), (2, true), (3, true), (4, true), (5, true), (6, true), (9, true), (10, true), (11, true), (12, true), (13, true), (7, false), (8, false), (14, false), (15, false), (16, true), (17, true), (18, false)] (by simp only [AA, CA, NA, List.append_nil]; exact PR _) (hA_cons (OS (ops := HQ (HB [1, 1, 1, 1, 1, 1, 1, 0])) (i := 7) (d := 43) (by kernel_rfl) rfl (by kernel_rfl) (by kernel_rfl)) (hA_cons (OS (ops := HQ (HB [1, 1, 1, 1, 1, 1, 1, 0])) (i := 14) (d := 50) (by kernel_rfl) rfl (by kernel_rfl) (by kernel_rfl)) hA_nil)) ?_;refine FN (EI (d := 36) (v := vP y 0) (by kernel_rfl)) ?_;refine FN (EI (d := 37) (v := vP y 0) (by kernel_rfl)) ?_;refine FW (EI (d := 38) (v := vP y 0) (by kernel_rfl)) ?_;refine FW (EI (d := 39) (v := vP y 0) (by kernel_rfl)) ?_;refine FW (EI (d := 40) (v := vP y 1) (by kernel_rfl)) ?_;refine FW (dlb 41 0 1 y (vS a6 Y.room.length a7)) ?_;refine FW (EI (d := 42) (v := vI ((atoiV (((Lib.cut (W.getD (1) []) [((58 : UInt8))]).1))))) (by kernel_rfl)) ?_;refine FN (EI (d := 45) (v := vP y 0) (by kernel_rfl)) ?_;refine FN (EI (d := 46) (v := vP y 0) (by kernel_rfl)) ?_;refine FN (EI (d := 47) (v := vP y 2) (by kernel_rfl)) ?_;refine ofx_part (Rx := ((bX y #[vS a0 Y.cars.length a1, vS a6 Y.room.length a7, vS a2 y_ws.length a3] 26) :: [])) (PR _) (dlb 48 0 2 y (vS a2 y_ws.length a3)) ?_;refine FN (EI (d := 49) (v := vS a4 (AE (cutL ((44 : UInt8)) (((Lib.cut (W.getD (1) []) [((58 : UInt8))]).2.1)))).length a5) (by kernel_rfl)) ?_;refine ofx_bs rfl (fun c5 => ?_);refine NF (Mx := fun FX => ((bX c5 #[vI ((atoiV (((Lib.cut (W.getD (1) []) [((58 : UInt8))]).1))))] 3) :: (bX y #[vS a0 Y.cars.length a1, vS a6 Y.room.length a7, vS a2 y_ws.length a3] 26) :: (y_M1 ++ (y_M2 ++ (y_M3 ++ FX))))) rfl (fun FX => by simp only [AA, CA, NA, List.append_nil]; exact PR _) (fun FX => ?_);refine id (AO (d := 44) (x := (.tmp 41)) (y := (.tmp 43)) (T := 23) (T' := 23) (E := 3) (E' := 3) (sz := 1) (bs := 8) (z := vI (0)) (cell := BA) (xs := Y.room) (ys := [((atoiV (((Lib.cut (W.getD (1) []) [((58 : UInt8))]).1))) : Int)]) (Ms := y_M2) (ty := 23) (gd := none) (by kernel_rfl) rfl (by kernel_rfl) (by kernel_rfl) (by kernel_rfl) (by kernel_rfl) (by kernel_rfl) (by decide) (by kernel_rfl) rfl rfl (y_2h) (PU (PU (PO _ _ _))) (CI _) (CB 0 rfl rfl) (by first | omega | (simp only [LC, LN, LA, LK, LD]; omega)) (fun l7 a8 d9 => ?_));refine ofx_nx (M1 := ((bX c5 #[vI ((atoiV (((Lib.cut (W.getD (1) []) [((58 : UInt8))]).1))))] 3) :: (bX y #[vS a0 Y.cars.length a1, vS a6 Y.room.length a7, vS a2 y_ws.length a3] 26) :: (a8 ++ (y_M1 ++ (y_M3 ++ []))))) (by simp only [AA, CA, NA, List.append_nil]; exact (PW PM)) (.none (.part (PS _ _ _) (.none (.none (.none (.wait (by kernel_rfl) (.wait (by kernel_rfl) (.wait (by kernel_rfl) (.wait (by kernel_rfl) (.wait (by kernel_rfl) (.none (.none .nil)))))))))))) ?_;obtain ⟨b0, b2, g4, j9⟩ := d9.shape;subst g4;show OFPX _ _ _ _ _ _ _ _ _ _ ((44, vS b0 (Y.room ++ ([((atoiV (((Lib.cut (W.getD (1) []) [((58 : UInt8))]).1))) : Int)])).length b2) :: _) _ _;refine ofx_bs rfl (fun c8 => ?_);refine NF (Mx := fun FX => ((bX c8 #[vS a4 (AE (cutL ((44 : UInt8)) (((Lib.cut (W.getD (1) []) [((58 : UInt8))]).2.1)))).length a5] 23) :: (bX c5 #[vI ((atoiV (((Lib.cut (W.getD (1) []) [((58 : UInt8))]).1))))] 3) :: (bX y #[vS a0 Y.cars.length a1, vS a6 Y.room.length a7, vS a2 y_ws.length a3] 26) :: (a8 ++ (y_M1 ++ (y_M3 ++ FX))))) rfl (fun FX => by simp only [AA, CA, NA, List.append_nil]; exact PR _) (fun FX => ?_);refine id (AO (d := 51) (x := (.tmp 48)) (y := (.tmp 50)) (T := 24) (T' := 24) (E := 23) (E' := 23) (sz := 1) (bs := 24) (z := vN) (cell := AP) (xs := y_ws) (ys := [(vS a4 (AE (cutL ((44 : UInt8)) (((Lib.cut (W.getD (1) []) [((58 : UInt8))]).2.1)))).length a5 : Value)]) (Ms := y_M3) (ty := 24) (gd := none) (by kernel_rfl) rfl (by kernel_rfl) (by kernel_rfl) (by kernel_rfl) (by kernel_rfl) (by kernel_rfl) (by decide) (by kernel_rfl) rfl rfl (y_3h) (PU (PU (PU (PV (PO _ _ _))))) (GH rfl) (CB 0 rfl rfl) (by first | omega | (have hq := y_3r.1; simp only [LC, LN, LA, LK, LD] at hq ⊢; omega)) (fun l8 b4 e0 => ?_));refine ofx_nx (M1 := ((bX c8 #[vS a4 (AE (cutL ((44 : UInt8)) (((Lib.cut (W.getD (1) []) [((58 : UInt8))]).2.1)))).length a5] 23) :: (bX c5 #[vI ((atoiV (((Lib.cut (W.getD (1) []) [((58 : UInt8))]).1))))] 3) :: (bX y #[vS a0 Y.cars.length a1, vS a6 Y.room.length a7, vS a2 y_ws.length a3] 26) :: (b4 ++ (a8 ++ (y_M1 ++ []))))) (by simp only [AA, CA, NA, List.append_nil]; exact (PW (PW PM))) (.wait (by kernel_rfl) (.wait (by kernel_rfl) (.wait (by kernel_rfl) (.wait (by kernel_rfl) (.wait (by kernel_rfl) (.wait (by kernel_rfl) (.wait (by kernel_rfl) (.wait (by kernel_rfl) (.wait (by kernel_rfl) (.wait (by kernel_rfl) (.none (.none .nil)))))))))))) ?_;obtain ⟨b7, b9, g5, k0⟩ := e0.shape;subst g5;show OFPX _ _ _ _ _ _ _ _ _ _ ((51, vS b7 (y_ws ++ ([(vS a4 (AE (cutL ((44 : UInt8)) (((Lib.cut (W.getD (1) []) [((58 : UInt8))]).2.1)))).length a5 : Value)])).length b9) :: _) _ _;have e8 := (y_3r).snoc c3;refine FW (EI (d := 52) (v := vP y 0) (by kernel_rfl)) ?_;refine FW (EI (d := 53) (v := vP y 1) (by kernel_rfl)) ?_;refine NF (Mx := fun FX => ((bX c8 #[vS a4 (AE (cutL ((44 : UInt8)) (((Lib.cut (W.getD (1) []) [((58 : UInt8))]).2.1)))).length a5] 23) :: (bX c5 #[vI ((atoiV (((Lib.cut (W.getD (1) []) [((58 : UInt8))]).1))))] 3) :: (bX y #[vS a0 Y.cars.length a1, vS a6 Y.room.length a7, vS a2 y_ws.length a3] 26) :: (b4 ++ (a8 ++ (y_M1 ++ FX))))) rfl (fun FX => by simp only [AA, CA, NA, List.append_nil]; exact PR _) (fun FX => ?_);refine id (ss 2 1 y [vS b0 (Y.room ++ ([((atoiV (((Lib.cut (W.getD (1) []) [((58 : UInt8))]).1))) : Int)])).length b2] [vS a0 Y.cars.length a1, vS b0 (Y.room ++ ([((atoiV (((Lib.cut (W.getD (1) []) [((58 : UInt8))]).1))) : Int)])).length b2, vS a2 y_ws.length a3] (_ :: _ :: _ :: _) (cs := [_, _, _]) rfl rfl ?_);refine ofx_nx (M1 := ((bX c8 #[vS a4 (AE (cutL ((44 : UInt8)) (((Lib.cut (W.getD (1) []) [((58 : UInt8))]).2.1)))).length a5] 23) :: (bX c5 #[vI ((atoiV (((Lib.cut (W.getD (1) []) [((58 : UInt8))]).1))))] 3) :: (bX y #[vS a0 Y.cars.length a1, vS b0 (Y.room ++ ([((atoiV (((Lib.cut (W.getD (1) []) [((58 : UInt8))]).1))) : Int)])).length b2, vS a2 y_ws.length a3] 26) :: (b4 ++ (a8 ++ (y_M1 ++ []))))) (by simp only [AA, CA, NA, List.append_nil]; exact (PR _)) (.wait (by kernel_rfl) (.wait (by kernel_rfl) (.wait (by kernel_rfl) (.wait (by kernel_rfl) (.wait (by kernel_rfl) (.wait (by kernel_rfl) (.wait (by kernel_rfl) (.wait (by kernel_rfl) (.wait (by kernel_rfl) (.wait (by kernel_rfl) (.wait (by kernel_rfl) (.wait (by kernel_rfl) (.none (.wait (by kernel_rfl) .nil)))))))))))))) ?_;refine ofx_end (AN (M' := ((bX c8 #[vS a4 (AE (cutL ((44 : UInt8)) (((Lib.cut (W.getD (1) []) [((58 : UInt8))]).2.1)))).length a5] 23) :: (bX c5 #[vI ((atoiV (((Lib.cut (W.getD (1) []) [((58 : UInt8))]).1))))] 3) :: (bX y #[vS a0 Y.cars.length a1, vS b0 (Y.room ++ ([((atoiV (((Lib.cut (W.getD (1) []) [((58 : UInt8))]).1))) : Int)])).length b2, vS a2 y_ws.length a3] 26) :: (b4 ++ (a8 ++ (y_M1 ++ F))))) (fun w h => by simpa only [AA, CA, NA, List.append_nil] using h) (AN (M' := ((bX c8 #[vS a4 (AE (cutL ((44 : UInt8)) (((Lib.cut (W.getD (1) []) [((58 : UInt8))]).2.1)))).length a5] 23) :: (bX c5 #[vI ((atoiV (((Lib.cut (W.getD (1) []) [((58 : UInt8))]).1))))] 3) :: (bX y #[vS a0 Y.cars.length a1, vS b0 (Y.room ++ ([((atoiV (((Lib.cut (W.getD (1) []) [((58 : UInt8))]).1))) : Int)])).length b2, vS a2 y_ws.length a3] 26) :: (b4 ++ (a8 ++ (y_M1 ++ F))))) (fun w h => h) (sp 2 [(55, vP y 2)] (sS (ss 2 2 y [vS b7 (y_ws ++ ([(vS a4 (AE (cutL ((44 : UInt8)) (((Lib.cut (W.getD (1) []) [((58 : UInt8))]).2.1)))).length a5 : Value)])).length b9] [vS a0 Y.cars.length a1, vS b0 (Y.room ++ ([((atoiV (((Lib.cut (W.getD (1) []) [((58 : UInt8))]).1))) : Int)])).length b2, vS b7 (y_ws ++ ([(vS a4 (AE (cutL ((44 : UInt8)) (((Lib.cut (W.getD (1) []) [((58 : UInt8))]).2.1)))).length a5 : Value)])).length b9] (_ :: _ :: _ :: _) (cs := [_, _, _]) rfl rfl (se (rq ?_)))))));refine GR (fun a w => Slots 63 [(4, .bool (((Lib.cut (W.getD (1) []) [((58 : UInt8))]).2.2) && ((ED (((Lib.cut (W.getD (1) []) [((58 : UInt8))]).1))) && (EJ (cutL ((44 : UInt8)) (((Lib.cut (W.getD (1) []) [((58 : UInt8))]).2.1)))))))] a ∧ a.defers = [] ∧ St j7 ((bX c8 #[vS a4 (AE (cutL ((44 : UInt8)) (((Lib.cut (W.getD (1) []) [((58 : UInt8))]).2.1)))).length a5] 23) :: (bX c5 #[vI ((atoiV (((Lib.cut (W.getD (1) []) [((58 : UInt8))]).1))))] 3) :: (bX y #[vS a0 Y.cars.length a1, vS b0 (Y.room ++ ([((atoiV (((Lib.cut (W.getD (1) []) [((58 : UInt8))]).1))) : Int)])).length b2, vS b7 (y_ws ++ ([(vS a4 (AE (cutL ((44 : UInt8)) (((Lib.cut (W.getD (1) []) [((58 : UInt8))]).2.1)))).length a5 : Value)])).length b9] 26) :: (b4 ++ (a8 ++ (y_M1 ++ F)))) w) ?_ ?_
  ·
   refine rr (sp 2 [(57, .bool ((Lib.cut (W.getD (1) []) [((58 : UInt8))]).2.2))] ?_);refine BP 57 rfl (fun h3 => ?_) (fun h3 => ?_)
   ·
    have f6 := h3;refine sp 3 [(60, .bool (ED (((Lib.cut (W.getD (1) []) [((58 : UInt8))]).1))))] ?_;refine BP 60 rfl (fun h4 => ?_) (fun h4 => ?_)
    ·
     have f7 := h4;refine sp 3 [(4, .bool (EJ (cutL ((44 : UInt8)) (((Lib.cut (W.getD (1) []) [((58 : UInt8))]).2.1)))))] (ee ?_);refine BI (fun a w hS hD hW => ⟨hS.sub (.consE 4 rfl (congrArg Value.bool (by simp only [h3, h4, kA, kB, kC, kD, kE, kF, kG, kH, kI, kJ])) (.nil _)), hD, hW⟩)
    have f7 := h4;refine sp 3 [(4, .bool (false))] (ee ?_);refine BI (fun a w hS hD hW => ⟨hS.sub (.consE 4 rfl (congrArg Value.bool (by simp only [h3, h4, kA, kB, kC, kD, kE, kF, kG, kH, kI, kJ])) (.nil _)), hD, hW⟩)
   have f6 := h3;refine sp 6 [(4, .bool (false))] (ee ?_);refine BI (fun a w hS hD hW => ⟨hS.sub (.consE 4 rfl (congrArg Value.bool (by simp only [h3, kA, kB, kC, kD, kE, kF, kG, kH, kI, kJ])) (.nil _)), hD, hW⟩)
  rintro a w ⟨hS, hD, hW⟩
  refine BJ hS hD hW ?_;clear hS hD hW a w;refine BT ?_;have e7 : W.length = 2 := by omega
  have c2 : ttY Y W = _ := ttY_yes e7;have e3 := rest_more h2;refine ppm (M' := ((bX y #[vS a0 Y.cars.length a1, vS b0 (Y.room ++ ([((atoiV (((Lib.cut (W.getD (1) []) [((58 : UInt8))]).1))) : Int)])).length b2, vS b7 (y_ws ++ ([(vS a4 (AE (cutL ((44 : UInt8)) (((Lib.cut (W.getD (1) []) [((58 : UInt8))]).2.1)))).length a5 : Value)])).length b9] 26) :: (y_M1 ++ (a8 ++ (b4 ++ (bX c8 #[vS a4 (AE (cutL ((44 : UInt8)) (((Lib.cut (W.getD (1) []) [((58 : UInt8))]).2.1)))).length a5] 23) :: (bX c5 #[vI ((atoiV (((Lib.cut (W.getD (1) []) [((58 : UInt8))]).1))))] 3) :: F))))) (((PC _ (PS _ _ _)).trans (PS _ _ _)).trans (PC _ ((PU (PU (PV (PO _ _ _)))).trans (PA _ ((PU (PU (PO _ _ _))).trans (PA _ (PU (PM.symm)))))))) (AF (t := 4) ([(bX y #[vS a0 Y.cars.length a1, vS b0 (Y.room ++ ([((atoiV (((Lib.cut (W.getD (1) []) [((58 : UInt8))]).1))) : Int)])).length b2, vS b7 (y_ws ++ ([(vS a4 (AE (cutL ((44 : UInt8)) (((Lib.cut (W.getD (1) []) [((58 : UInt8))]).2.1)))).length a5 : Value)])).length b9] 26)] ++ (y_M1 ++ (a8 ++ (b4)))) (by kernel_rfl) rfl (by simp only [AA, NA, CA]; exact (TK _ (TA (TA (TA (TC _ (TC _ (TR _))) _) _) _))) (IT (IT (IT c7 b6) c1) d0) ?_);exact ⟨_, _, _, _, _, _, _, (congrArg Value.bool (show _ = OR W from by rw [tt_yes e7, e3.1])), rfl, ((congrArg Yard.cars c2).symm ▸ y_1h), ((congrArg Yard.room c2).symm ▸ d9), e0, ((show Y.tracks ++ [AE (cutL ((44 : UInt8)) (((Lib.cut (W.getD (1) []) [((58 : UInt8))]).2.1)))] = (ttY Y W).tracks from by rw [c2, e3.2]) ▸ e8)⟩
 have f5 := h2;have h2 := HD (CM h2);refine AM (NX (rq ?_));refine rdY (M := ((bX y #[vS a0 Y.cars.length a1, vS a6 Y.room.length a7, vS a2 y_ws.length a3] 26) :: (y_M1 ++ (y_M2 ++ (y_M3 ++ []))))) (F0 := F) [(42, vI ((atoiV (((Lib.cut (W.getD (1) []) [((58 : UInt8))]).1))))), (49, vN)] [7, 14] [(7, 43, .bs 3 1 #[vI ((atoiV (((Lib.cut (W.getD (1) []) [((58 : UInt8))]).1))))]), (14, 50, .bs 23 1 #[vN])] 19 [(0, true), (1, true), (2, true), (3, true), (4, true), (5, true), (6, true), (9, true), (10, true), (11, true), (12, true), (13, true), (7, false), (8, false), (14, false), (15, false), (16, true), (17, true), (18, false)] (by simp only [AA, CA, NA, List.append_nil]; exact PR _) (hA_cons (OS (ops := HQ (HB [1, 1, 1, 1, 1, 1, 1, 0])) (i := 7) (d := 43) (by kernel_rfl) rfl (by kernel_rfl) (by kernel_rfl)) (hA_cons (OS (ops := HQ (HB [1, 1, 1, 1, 1, 1, 1, 0])) (i := 14) (d := 50) (by kernel_rfl) rfl (by kernel_rfl) (by kernel_rfl)) hA_nil)) ?_;refine FN (EI (d := 36) (v := vP y 0) (by kernel_rfl)) ?_;refine FN (EI (d := 37) (v := vP y 0) (by kernel_rfl)) ?_;refine FW (EI (d := 38) (v := vP y 0) (by kernel_rfl)) ?_;refine FW (EI (d := 39) (v := vP y 0) (by kernel_rfl)) ?_;refine FW (EI (d := 40) (v := vP y 1) (by kernel_rfl)) ?_;refine FW (dlb 41 0 1 y (vS a6 Y.room.length a7)) ?_;refine FW (EI (d := 42) (v := vI ((atoiV (((Lib.cut (W.getD (1) []) [((58 : UInt8))]).1))))) (by kernel_rfl)) ?_;refine FN (EI (d := 45) (v := vP y 0) (by kernel_rfl)) ?_;refine FN (EI (d := 46) (v := vP y 0) (by kernel_rfl)) ?_;refine FN (EI (d := 47) (v := vP y 2) (by kernel_rfl)) ?_;refine ofx_part (Rx := ((bX y #[vS a0 Y.cars.length a1, vS a6 Y.room.length a7, vS a2 y_ws.length a3] 26) :: [])) (PR _) (dlb 48 0 2 y (vS a2 y_ws.length a3)) ?_;refine FN (EI (d := 49) (v := vN) (by kernel_rfl)) ?_;refine ofx_bs rfl (fun c6 => ?_);refine NF (Mx := fun FX => ((bX c6 #[vI ((atoiV (((Lib.cut (W.getD (1) []) [((58 : UInt8))]).1))))] 3) :: (bX y #[vS a0 Y.cars.length a1, vS a6 Y.room.length a7, vS a2 y_ws.length a3] 26) :: (y_M1 ++ (y_M2 ++ (y_M3 ++ FX))))) rfl (fun FX => by simp only [AA, CA, NA, List.append_nil]; exact PR _) (fun FX => ?_);refine id (AO (d := 44) (x := (.tmp 41)) (y := (.tmp 43)) (T := 23) (T' := 23) (E := 3) (E' := 3) (sz := 1) (bs := 8) (z := vI (0)) (cell := BA) (xs := Y.room) (ys := [((atoiV (((Lib.cut (W.getD (1) []) [((58 : UInt8))]).1))) : Int)]) (Ms := y_M2) (ty := 23) (gd := none) (by kernel_rfl) rfl (by kernel_rfl) (by kernel_rfl) (by kernel_rfl) (by kernel_rfl) (by kernel_rfl) (by decide) (by kernel_rfl) rfl rfl (y_2h) (PU (PU (PO _ _ _))) (CI _) (CB 0 rfl rfl) (by first | omega | (simp only [LC, LN, LA, LK, LD]; omega)) (fun l9 a9 e1 => ?_));refine ofx_nx (M1 := ((bX c6 #[vI ((atoiV (((Lib.cut (W.getD (1) []) [((58 : UInt8))]).1))))] 3) :: (bX y #[vS a0 Y.cars.length a1, vS a6 Y.room.length a7, vS a2 y_ws.length a3] 26) :: (a9 ++ (y_M1 ++ (y_M3 ++ []))))) (by simp only [AA, CA, NA, List.append_nil]; exact (PW PM)) (.none (.part (PS _ _ _) (.none (.none (.none (.wait (by kernel_rfl) (.wait (by kernel_rfl) (.wait (by kernel_rfl) (.wait (by kernel_rfl) (.wait (by kernel_rfl) (.none (.none .nil)))))))))))) ?_;obtain ⟨b1, b3, g6, k1⟩ := e1.shape;subst g6;show OFPX _ _ _ _ _ _ _ _ _ _ ((44, vS b1 (Y.room ++ ([((atoiV (((Lib.cut (W.getD (1) []) [((58 : UInt8))]).1))) : Int)])).length b3) :: _) _ _;refine ofx_bs rfl (fun c9 => ?_);refine NF (Mx := fun FX => ((bX c9 #[vN] 23) :: (bX c6 #[vI ((atoiV (((Lib.cut (W.getD (1) []) [((58 : UInt8))]).1))))] 3) :: (bX y #[vS a0 Y.cars.length a1, vS a6 Y.room.length a7, vS a2 y_ws.length a3] 26) :: (a9 ++ (y_M1 ++ (y_M3 ++ FX))))) rfl (fun FX => by simp only [AA, CA, NA, List.append_nil]; exact PR _) (fun FX => ?_);refine id (AO (d := 51) (x := (.tmp 48)) (y := (.tmp 50)) (T := 24) (T' := 24) (E := 23) (E' := 23) (sz := 1) (bs := 24) (z := vN) (cell := AP) (xs := y_ws) (ys := [(vN : Value)]) (Ms := y_M3) (ty := 24) (gd := none) (by kernel_rfl) rfl (by kernel_rfl) (by kernel_rfl) (by kernel_rfl) (by kernel_rfl) (by kernel_rfl) (by decide) (by kernel_rfl) rfl rfl (y_3h) (PU (PU (PU (PV (PO _ _ _))))) (GH rfl) (CB 0 rfl rfl) (by first | omega | (have hq := y_3r.1; simp only [LC, LN, LA, LK, LD] at hq ⊢; omega)) (fun m0 b5 e2 => ?_));refine ofx_nx (M1 := ((bX c9 #[vN] 23) :: (bX c6 #[vI ((atoiV (((Lib.cut (W.getD (1) []) [((58 : UInt8))]).1))))] 3) :: (bX y #[vS a0 Y.cars.length a1, vS a6 Y.room.length a7, vS a2 y_ws.length a3] 26) :: (b5 ++ (a9 ++ (y_M1 ++ []))))) (by simp only [AA, CA, NA, List.append_nil]; exact (PW (PW PM))) (.wait (by kernel_rfl) (.wait (by kernel_rfl) (.wait (by kernel_rfl) (.wait (by kernel_rfl) (.wait (by kernel_rfl) (.wait (by kernel_rfl) (.wait (by kernel_rfl) (.wait (by kernel_rfl) (.wait (by kernel_rfl) (.wait (by kernel_rfl) (.none (.none .nil)))))))))))) ?_;obtain ⟨b8, c0, g7, k2⟩ := e2.shape;subst g7;show OFPX _ _ _ _ _ _ _ _ _ _ ((51, vS b8 (y_ws ++ ([(vN : Value)])).length c0) :: _) _ _;have e9 := (y_3r).snoc (IsSl.nil _);refine FW (EI (d := 52) (v := vP y 0) (by kernel_rfl)) ?_;refine FW (EI (d := 53) (v := vP y 1) (by kernel_rfl)) ?_;refine NF (Mx := fun FX => ((bX c9 #[vN] 23) :: (bX c6 #[vI ((atoiV (((Lib.cut (W.getD (1) []) [((58 : UInt8))]).1))))] 3) :: (bX y #[vS a0 Y.cars.length a1, vS a6 Y.room.length a7, vS a2 y_ws.length a3] 26) :: (b5 ++ (a9 ++ (y_M1 ++ FX))))) rfl (fun FX => by simp only [AA, CA, NA, List.append_nil]; exact PR _) (fun FX => ?_);refine id (ss 2 1 y [vS b1 (Y.room ++ ([((atoiV (((Lib.cut (W.getD (1) []) [((58 : UInt8))]).1))) : Int)])).length b3] [vS a0 Y.cars.length a1, vS b1 (Y.room ++ ([((atoiV (((Lib.cut (W.getD (1) []) [((58 : UInt8))]).1))) : Int)])).length b3, vS a2 y_ws.length a3] (_ :: _ :: _ :: _) (cs := [_, _, _]) rfl rfl ?_);refine ofx_nx (M1 := ((bX c9 #[vN] 23) :: (bX c6 #[vI ((atoiV (((Lib.cut (W.getD (1) []) [((58 : UInt8))]).1))))] 3) :: (bX y #[vS a0 Y.cars.length a1, vS b1 (Y.room ++ ([((atoiV (((Lib.cut (W.getD (1) []) [((58 : UInt8))]).1))) : Int)])).length b3, vS a2 y_ws.length a3] 26) :: (b5 ++ (a9 ++ (y_M1 ++ []))))) (by simp only [AA, CA, NA, List.append_nil]; exact (PR _)) (.wait (by kernel_rfl) (.wait (by kernel_rfl) (.wait (by kernel_rfl) (.wait (by kernel_rfl) (.wait (by kernel_rfl) (.wait (by kernel_rfl) (.wait (by kernel_rfl) (.wait (by kernel_rfl) (.wait (by kernel_rfl) (.wait (by kernel_rfl) (.wait (by kernel_rfl) (.wait (by kernel_rfl) (.none (.wait (by kernel_rfl) .nil)))))))))))))) ?_;refine ofx_end (AN (M' := ((bX c9 #[vN] 23) :: (bX c6 #[vI ((atoiV (((Lib.cut (W.getD (1) []) [((58 : UInt8))]).1))))] 3) :: (bX y #[vS a0 Y.cars.length a1, vS b1 (Y.room ++ ([((atoiV (((Lib.cut (W.getD (1) []) [((58 : UInt8))]).1))) : Int)])).length b3, vS a2 y_ws.length a3] 26) :: (b5 ++ (a9 ++ (y_M1 ++ F))))) (fun w h => by simpa only [AA, CA, NA, List.append_nil] using h) (AN (M' := ((bX c9 #[vN] 23) :: (bX c6 #[vI ((atoiV (((Lib.cut (W.getD (1) []) [((58 : UInt8))]).1))))] 3) :: (bX y #[vS a0 Y.cars.length a1, vS b1 (Y.room ++ ([((atoiV (((Lib.cut (W.getD (1) []) [((58 : UInt8))]).1))) : Int)])).length b3, vS a2 y_ws.length a3] 26) :: (b5 ++ (a9 ++ (y_M1 ++ F))))) (fun w h => h) (sp 2 [(55, vP y 2)] (sS (ss 2 2 y [vS b8 (y_ws ++ ([(vN : Value)])).length c0] [vS a0 Y.cars.length a1, vS b1 (Y.room ++ ([((atoiV (((Lib.cut (W.getD (1) []) [((58 : UInt8))]).1))) : Int)])).length b3, vS b8 (y_ws ++ ([(vN : Value)])).length c0] (_ :: _ :: _ :: _) (cs := [_, _, _]) rfl rfl (se (rq ?_)))))));refine GR (fun a w => Slots 63 [(4, .bool (((Lib.cut (W.getD (1) []) [((58 : UInt8))]).2.2) && (ED (((Lib.cut (W.getD (1) []) [((58 : UInt8))]).1)))))] a ∧ a.defers = [] ∧ St I9 ((bX c9 #[vN] 23) :: (bX c6 #[vI ((atoiV (((Lib.cut (W.getD (1) []) [((58 : UInt8))]).1))))] 3) :: (bX y #[vS a0 Y.cars.length a1, vS b1 (Y.room ++ ([((atoiV (((Lib.cut (W.getD (1) []) [((58 : UInt8))]).1))) : Int)])).length b3, vS b8 (y_ws ++ ([(vN : Value)])).length c0] 26) :: (b5 ++ (a9 ++ (y_M1 ++ F)))) w) ?_ ?_
 ·
  refine rr (sp 2 [(57, .bool ((Lib.cut (W.getD (1) []) [((58 : UInt8))]).2.2))] ?_);refine BP 57 rfl (fun h5 => ?_) (fun h5 => ?_)
  ·
   have f8 := h5;refine sp 3 [(60, .bool (ED (((Lib.cut (W.getD (1) []) [((58 : UInt8))]).1))))] ?_;refine BP 60 rfl (fun h6 => ?_) (fun h6 => ?_)
   ·
    have f9 := h6;refine sp 3 [(4, .bool (true))] (ee ?_);refine BI (fun a w hS hD hW => ⟨hS.sub (.consE 4 rfl (congrArg Value.bool (by simp only [h5, h6, kA, kB, kC, kD, kE, kF, kG, kH, kI, kJ])) (.nil _)), hD, hW⟩)
   have f9 := h6;refine sp 3 [(4, .bool (false))] (ee ?_);refine BI (fun a w hS hD hW => ⟨hS.sub (.consE 4 rfl (congrArg Value.bool (by simp only [h5, h6, kA, kB, kC, kD, kE, kF, kG, kH, kI, kJ])) (.nil _)), hD, hW⟩)
  have f8 := h5;refine sp 6 [(4, .bool (false))] (ee ?_);refine BI (fun a w hS hD hW => ⟨hS.sub (.consE 4 rfl (congrArg Value.bool (by simp only [h5, kA, kB, kC, kD, kE, kF, kG, kH, kI, kJ])) (.nil _)), hD, hW⟩)
 rintro a w ⟨hS, hD, hW⟩
 refine BJ hS hD hW ?_;clear hS hD hW a w;refine BT ?_;have e7 : W.length = 2 := by omega
 have c2 : ttY Y W = _ := ttY_yes e7;have e3 := rest_nil h2;refine ppm (M' := ((bX y #[vS a0 Y.cars.length a1, vS b1 (Y.room ++ ([((atoiV (((Lib.cut (W.getD (1) []) [((58 : UInt8))]).1))) : Int)])).length b3, vS b8 (y_ws ++ ([(vN : Value)])).length c0] 26) :: (y_M1 ++ (a9 ++ (b5 ++ (bX c9 #[vN] 23) :: (bX c6 #[vI ((atoiV (((Lib.cut (W.getD (1) []) [((58 : UInt8))]).1))))] 3) :: F))))) (((PC _ (PS _ _ _)).trans (PS _ _ _)).trans (PC _ ((PU (PU (PV (PO _ _ _)))).trans (PA _ ((PU (PU (PO _ _ _))).trans (PA _ (PU (PM.symm)))))))) (AF (t := 4) ([(bX y #[vS a0 Y.cars.length a1, vS b1 (Y.room ++ ([((atoiV (((Lib.cut (W.getD (1) []) [((58 : UInt8))]).1))) : Int)])).length b3, vS b8 (y_ws ++ ([(vN : Value)])).length c0] 26)] ++ (y_M1 ++ (a9 ++ (b5)))) (by kernel_rfl) rfl (by simp only [AA, NA, CA]; exact (TK _ (TA (TA (TA (TC _ (TC _ (TR _))) _) _) _))) (IT c7 b6) ?_);exact ⟨_, _, _, _, _, _, _, (congrArg Value.bool (show _ = OR W from by rw [tt_yes e7, e3.1, Bool.and_true])), rfl, ((congrArg Yard.cars c2).symm ▸ y_1h), ((congrArg Yard.room c2).symm ▸ e1), e2, ((show Y.tracks ++ [[]] = (ttY Y W).tracks from by rw [c2, e3.2]) ▸ e9)⟩
end Go.Proofs.YtcaocbhbofejnaaGreatDoor
