/- A part of the proof of the laws of this seat. -/
import Derived.Test.YtcaocbhbofejnaaGreatDoorP1
import Derived.Below
import Derived.Laws.Strings
import Derived.Lib.Join
import Derived.Lib.ItoaNum
import Derived.Lib.ItoaLen
import Derived.Test.YtcaocbhbofejnaaGreatDoorP5
import Derived.Shelf.LaysM
import Derived.Shelf.Strings.OnBuilder
import Derived.Shelf.Strconv.Itoa3
import Derived.Test.YtcaocbhbofejnaaGreatDoorProg
import Derived.Test.YtcaocbhbofejnaaGreatDoorP3
import Derived.Test.YtcaocbhbofejnaaGreatDoorP4
set_option linter.unusedVariables false
set_option linter.unusedSimpArgs false
namespace Go.Sl
open Go
abbrev sB (l : List UInt8) : ByteArray := ⟨l.toArray⟩
abbrev sV (l : List UInt8) : Value := .string ⟨l.toArray⟩
theorem sB_append (a b : List UInt8) : sB a ++ sB b = sB (a ++ b) := by
  apply ByteArray.ext
  simp [sB]
theorem sB_size (a : List UInt8) : (sB a).size = a.length := by simp [sB, ByteArray.size]
section
variable {ρ : Option Nat} {P : Program} {N : Nat} {ops : Array Oper} {i : Nat} {l : Sl} {I : Imm} {R M : Seg} {d : Nat} {ty : TypeId} {gd : Option (Nat × Bool)}
theorem JZ {x y : Operand} {T T' : TypeId} {a b : List UInt8} (hop : FS ops N i = some (some d, .binOp .add T x y T', ty, gd)) (hg : EU ops l gd = some true)
    (hx : CD l x = some (sV a)) (hy : CD l y = some (sV b)) (hl : a.length + b.length ≤ 9223372036854775807) : Det P N ops i l I R d (sV (a ++ b)) :=
  EF hop hg (GE hx hy) fun I' M' => by
    show wpL P ((do eqGuard .add T x y (rho l x) (rho l y); binOp .add T (rho l x) (rho l y)) >>= fun x => pure (Next.value x)) _ I' M';rw [BG hx, BG hy];refine DH ?_;show wpL P (Op.stringOp .add (sB a) (sB b)) _ I' M';unfold Op.stringOp;simp only;rw [if_neg (by rw [sB_size, sB_size]; show ¬ ((_ : Int) > 9223372036854775807); omega), sB_append];exact ⟨rfl, rfl⟩
theorem sB_eq (a b : List UInt8) : ((sB a).toList == (sB b).toList) = decide (a = b) := by
  rw [ByteArray.toList_eq, ByteArray.toList_eq];show (a == b) = _
  by_cases h : a = b <;> simp [h]
theorem KN {x y : Operand} {T T' : TypeId} {a b : List UInt8} (hop : FS ops N i = some (some d, .binOp .eql T x y T', ty, gd)) (hg : EU ops l gd = some true)
    (hx : CD l x = some (sV a)) (hy : CD l y = some (sV b)) : Det P N ops i l I R d (.bool (decide (a = b))) :=
  EF hop hg (GE hx hy) fun I' M' => by
    show wpL P ((do eqGuard .eql T x y (rho l x) (rho l y); binOp .eql T (rho l x) (rho l y)) >>= fun x => pure (Next.value x)) _ I' M';rw [BG hx, BG hy];refine DH ?_;show wpL P (Op.stringOp .eql (sB a) (sB b)) _ I' M';unfold Op.stringOp;simp only;rw [sB_eq];exact ⟨rfl, rfl⟩
end
def EO (x : List UInt8) (_ : Nat) : Value := sV x
abbrev IsStrs := IsSl 1 EO ([] : List UInt8)
theorem strs_get {I : Imm} {a : Option Addr} {b o n : Nat} {xs : List (List UInt8)} (h : Row 1 I a b o n (fun i f => EO (xs.getD i []) f)) {M : Seg} (i : Nat) (hi : i < n) : Sees I M ⟨b, o + i * 1, none⟩ (sV (xs.getD i [])) := (h.get i hi 0 (by decide)).sees
theorem FB (ys : List (List UInt8)) : ∀ c ∈ DI 1 EO ys, DF c = true := one_enc (fun _ _ _ => rfl) ys
theorem ct_below {P : Program} {f : FuncId} {args : Array Value} {I : Imm} {v : Value} (h : ∀ F w, St I F w → Calls P f args w fun e w' => e = .returned v ∧ RowKit.Below w.heap.size w w') : CtV P f args I v := fun F w st => by
  refine (h F w st).mono fun e w' ⟨he, hb⟩ => ⟨v, I, [], he, Imm.le.refl I, ⟨rfl, rfl⟩, ?_⟩
  have up : ∀ b o, w.heap[b]? = some o → w'.heap[b]? = some o := fun b o hq => by
    rw [hb.block b (Array.getElem?_eq_some_iff.1 hq).1]; exact hq
  exact ⟨hb.os.trans st.os, hb.tape.trans st.tape, hb.output.trans st.output, fun b o hq => up b o (st.imm b o hq), fun b o hq => up b o (st.mem b o hq), st.nodup, st.disj⟩
section
variable {ρ : Option Nat} {P : Program} {N : Nat} {ops : Array Oper} {i : Nat} {l : Sl} {I : Imm} {R M : Seg} {d : Nat} {ty : TypeId} {gd : Option (Nat × Bool)}
end
section
variable {ρ : Option Nat} {P : Program} {N : Nat} {ops : Array Oper} {i : Nat} {l : Sl} {I : Imm} {R M : Seg} {d : Nat} {ty : TypeId} {gd : Option (Nat × Bool)}
end
section
variable {P : Program} {N : Nat} {fn : Func} {I I₀ : Imm} {post : Value → Imm → Seg → Prop} {F M : Seg} {l : Sl}
end
section
variable {ρ : Option Nat} {P : Program} {N : Nat} {ops : Array Oper} {i : Nat} {l : Sl} {I : Imm} {R M : Seg} {d : Nat} {ty : TypeId} {gd : Option (Nat × Bool)} {K : Sl → Imm → Seg → Prop}
end
end Go.Sl
namespace Go.Sh
open Go Go.Sl
abbrev num (n : Int) : List UInt8 := Lib.itoa n
def FL (c : Car) : List UInt8 :=
  match c.pipe, c.heat with
  | true, true => [112, 104]
  | true, false => [112]
  | false, true => [104]
  | false, false => [45]
def AW (c : Car) : List UInt8 := Lib.join [[99, 111, 97, 99, 104], num c.len, num c.wt, num c.brk, num c.grp, FL c] [32]
def LF (r : Int) (t : List Int) : List UInt8 := (([116, 114, 97, 99, 107, 32] ++ num r) ++ [58]) ++ Lib.join (t.map num) [44]
def BA (Y : Yard) : List (List UInt8) := List.zipWith LF Y.room Y.tracks
def IQ (Y : Yard) : List (List UInt8) := (Y.cars.map AW ++ BA Y) ++ [[112, 111, 105, 110, 116, 115]]
def writeY (Y : Yard) : List UInt8 := Lib.join (IQ Y) [10] ++ [10]
def JX (Y : Yard) : List UInt8 × Int := if checkErr Y = 0 then (writeY Y, 0) else ([], checkErr Y)
theorem writeE_bad {Y : Yard} (h : checkErr Y ≠ 0) : JX Y = ([], checkErr Y) := if_neg h
theorem writeE_ok {Y : Yard} (h : checkErr Y = 0) : JX Y = (writeY Y, 0) := if_pos h
theorem join_le {m : Nat} {s : UInt8} : ∀ {xs : List (List UInt8)}, (∀ x ∈ xs, x.length ≤ m) → (Lib.join xs [s]).length ≤ xs.length * (m + 1) := by
  intro xs h;cases xs with
  | nil => simp [Lib.join_nil]
  | cons x r =>
    rw [Lib.join_cons, List.length_append];have hr : ∀ {r : List (List UInt8)}, (∀ x ∈ r, x.length ≤ m) → (Lib.joinTail [s] r).length ≤ r.length * (m + 1) := by
      intro r hr
      induction r with
      | nil => simp [Lib.joinTail]
      | cons y r ih =>
        have h1 := hr y (List.mem_cons_self ..);have h2 := ih fun z hz => hr z (List.mem_cons_of_mem _ hz)
        simp only [Lib.joinTail, List.map_cons, List.flatten_cons, List.length_append, List.length_cons, List.length_nil] at h2 ⊢;rw [Nat.add_mul];omega
    have h1 := h x (List.mem_cons_self ..);have h2 := hr (r := r) fun z hz => h z (List.mem_cons_of_mem _ hz)
    rw [List.length_cons, Nat.add_mul];omega
theorem num_le (n : Int) (h0 : 0 ≤ n) (h1 : n ≤ 9223372036854775807) : (num n).length ≤ 21 := Lib.itoa_length_le n (by omega) h1
theorem marks_le (c : Car) : (FL c).length ≤ 2 := by
  unfold FL; split <;> simp
theorem JH {Y : Yard} {k : Nat} (hk : k < Y.cars.length) {m : List UInt8} (hm : m = FL (Y.cars.getD k AB)) :
    (Y.cars.take k).map AW ++ [Lib.join [[99, 111, 97, 99, 104], num (Y.cars.getD k AB).len, num (Y.cars.getD k AB).wt, num (Y.cars.getD k AB).brk, num (Y.cars.getD k AB).grp, m] [32]] = (Y.cars.take (k + 1)).map AW := by
  rw [CM (d := AB) hk, List.map_append, hm]; rfl
theorem track_snoc {Y : Yard} {i j : Nat} (A : List (List UInt8)) (hi : i < Y.tracks.length) (hr : i < Y.room.length) (hj : (Y.tracks.getD i []).length ≤ j) :
    (A ++ (BA Y).take i) ++ [(([116, 114, 97, 99, 107, 32] ++ num (Y.room.getD i 0)) ++ [58]) ++ Lib.join (((Y.tracks.getD i []).take j).map num) [44]] = A ++ (BA Y).take (i + 1) := by
  have hl : i < (BA Y).length := by unfold BA; rw [List.length_zipWith]; omega
  rw [CM (d := []) hl, List.append_assoc, List.take_of_length_le hj];have e : (BA Y).getD i [] = LF (Y.room.getD i 0) (Y.tracks.getD i []) := by
    simp only [BA, List.getD_eq_getElem?_getD, List.getElem?_zipWith, List.getElem?_eq_getElem hi, List.getElem?_eq_getElem hr];rfl
  rw [e]; rfl
theorem track_done {Y : Yard} {i : Nat} (hi : Y.tracks.length ≤ i) : (BA Y).take i = BA Y := List.take_of_length_le (by unfold BA; rw [List.length_zipWith]; omega)
section
variable {c : Car}
theorem marks_tt (h1 : c.pipe = true) (h2 : c.heat = true) : [112, 104] = FL c := by unfold FL; rw [h1, h2]
theorem marks_tf (h1 : c.pipe = true) (h2 : c.heat = false) : [112] = FL c := by unfold FL; rw [h1, h2]
theorem marks_ft (h1 : c.pipe = false) (h2 : c.heat = true) : [104] = FL c := by unfold FL; rw [h1, h2]
theorem marks_ff (h1 : c.pipe = false) (h2 : c.heat = false) : [45] = FL c := by unfold FL; rw [h1, h2]
end
theorem LT {m n : Nat} {s : UInt8} {xs : List (List UInt8)} (h : ∀ x ∈ xs, x.length ≤ m) (hn : xs.length * (m + 1) ≤ n) : (Lib.join xs [s]).length ≤ n := Nat.le_trans (join_le h) hn
theorem KK {c : Car} (h1 : (num c.len).length ≤ 21) (h2 : (num c.wt).length ≤ 21) (h3 : (num c.brk).length ≤ 21) (h4 : (num c.grp).length ≤ 21) {m : List UInt8} (hm : m = FL c) :
    (Lib.join [[99, 111, 97, 99, 104], num c.len, num c.wt, num c.brk, num c.grp, m] [32]).length ≤ 200 := by
  refine LT (m := 21) (fun x hx => ?_) (by simp);have := marks_le c;simp only [List.mem_cons, List.not_mem_nil, or_false] at hx;rcases hx with rfl | rfl | rfl | rfl | rfl | rfl
  · simp
  · exact h1
  · exact h2
  · exact h3
  · exact h4
  · rw [hm]; omega
structure LenY (Y : Yard) : Prop where
  cars : ∀ c ∈ Y.cars, (num c.len).length ≤ 21 ∧ (num c.wt).length ≤ 21 ∧ (num c.brk).length ≤ 21 ∧ (num c.grp).length ≤ 21
  room : ∀ r ∈ Y.room, (num r).length ≤ 21
  tracks : ∀ t ∈ Y.tracks, ∀ x ∈ t, (num x).length ≤ 21
theorem nums_le {xs : List Int} {j : Nat} (h : ∀ x ∈ xs, (num x).length ≤ 21) (hl : xs.length ≤ 5) : (Lib.join ((xs.take j).map num) [44]).length ≤ 110 := by
  refine LT (m := 21) (fun x hx => ?_) ?_
  · obtain ⟨y, hy, rfl⟩ := List.mem_map.1 hx
    exact h y (List.mem_of_mem_take hy)
  · rw [List.length_map, List.length_take]
    have : min j xs.length ≤ 5 := by omega
    omega
theorem LenY.line {Y : Yard} (h : LenY Y) (h5 : ∀ t ∈ Y.tracks, t.length ≤ 5) : ∀ x ∈ IQ Y, x.length ≤ 200 := by
  intro x hx;simp only [IQ, List.mem_append, List.mem_map, List.mem_singleton] at hx;rcases hx with (⟨c, hc, rfl⟩ | hx) | rfl
  · have := h.cars c hc
    exact KK this.1 this.2.1 this.2.2.1 this.2.2.2 rfl
  · obtain ⟨i, hi, rfl⟩ := List.mem_iff_getElem.1 hx
    have hi2 : i < Y.room.length ∧ i < Y.tracks.length := by simp only [BA, List.length_zipWith] at hi; omega
    simp only [BA, List.getElem_zipWith, LF];have h1 := h.room _ (List.getElem_mem hi2.1);have h2 := nums_le (j := (Y.tracks[i]'hi2.2).length) (h.tracks _ (List.getElem_mem hi2.2)) (h5 _ (List.getElem_mem hi2.2));rw [List.take_length] at h2;simp only [List.length_append, List.length_cons, List.length_nil];omega
  · simp
theorem LenY.text {Y : Yard} (h : LenY Y) (h5 : ∀ t ∈ Y.tracks, t.length ≤ 5) (hc : Y.cars.length ≤ 5) (ht : Y.tracks.length ≤ 3) : (Lib.join (IQ Y) [10]).length ≤ 2000 := by
  refine LT (h.line h5) ?_;have : (IQ Y).length ≤ 9 := by
    simp only [IQ, BA, List.length_append, List.length_map, List.length_zipWith, List.length_cons, List.length_nil];omega
  omega
theorem lines_start {Y : Yard} {k : Nat} (hk : Y.cars.length ≤ k) : (Y.cars.take k).map AW = Y.cars.map AW ++ (BA Y).take 0 := by rw [List.take_of_length_le hk, List.take_zero, List.append_nil]
theorem dec1 {n : Nat} (h : n < 10) : Lib.decDigits n = [UInt8.ofNat (48 + n)] := by rw [Lib.decDigits, dif_pos h]
theorem dec2 {n : Nat} (h : 10 ≤ n) (h2 : n < 100) : Lib.decDigits n = [UInt8.ofNat (48 + n / 10), UInt8.ofNat (48 + n % 10)] := by
  rw [Lib.decDigits, dif_neg (by omega), dec1 (by omega)]; rfl
theorem num1 {n : Nat} (h : n < 10) : num n = [UInt8.ofNat (48 + n)] := by rw [num, Lib.itoa, if_neg (by omega)]; exact dec1 h
theorem num2 {n : Nat} (h : 10 ≤ n) (h2 : n < 100) : num n = [UInt8.ofNat (48 + n / 10), UInt8.ofNat (48 + n % 10)] := by rw [num, Lib.itoa, if_neg (by omega)]; exact dec2 h h2
end Go.Sh
namespace Go.Proofs
open Go.Shelf
def Tryz.lays156_ren : Go.Shelf.Ren := ⟨fun | 156 => 119 | 165 => 146 | 166 => 147 | 169 => 148 | 240 => 163 | 241 => 164 | 276 => 174 | 277 => 175 | n => n, fun | 31 => 87 | 9 => 9 | 3 => 3 | 4 => 4 | 0 => 0 | 20 => 20 | 72 => 176 | 76 => 178 | 70 => 174 | 37 => 150 | 75 => 126 | 127 => 203 | 164 => 190 | 5 => 5 | 80 => 180 | n => n, fun | n => n⟩
theorem Tryz.lays156 : Go.Proofs.Lays.n156 Tryz.prog Tryz.lays156_ren := {
  mixed := by kernel_rfl
  f156 := Tryz.func119.trans (congrArg some (by kernel_rfl))
  f165 := Tryz.func146.trans (congrArg some (by kernel_rfl))
  f166 := Tryz.func147.trans (congrArg some (by kernel_rfl))
  f169 := Tryz.func148.trans (congrArg some (by kernel_rfl))
  f240 := Tryz.func163.trans (congrArg some (by kernel_rfl))
  f241 := Tryz.func164.trans (congrArg some (by kernel_rfl))
  f276 := Tryz.func174.trans (congrArg some (by kernel_rfl))
  f277 := Tryz.func175.trans (congrArg some (by kernel_rfl))
  t0 := Tryz.underlying0
  a0 := Tryz.isAgg0
  z0 := Tryz.sizeOf0
  v0 := Tryz.zeroValue0
  t3 := Tryz.underlying3
  a3 := Tryz.isAgg3
  z3 := Tryz.sizeOf3
  v3 := Tryz.zeroValue3
  t4 := Tryz.underlying4
  a4 := Tryz.isAgg4
  z4 := Tryz.sizeOf4
  v4 := Tryz.zeroValue4
  t9 := Tryz.underlying9
  a9 := Tryz.isAgg9
  z9 := Tryz.sizeOf9
  v9 := Tryz.zeroValue9
  t20 := Tryz.underlying20
  a20 := Tryz.isAgg20
  z20 := Tryz.sizeOf20
  v20 := Tryz.zeroValue20
  t31 := Tryz.underlying87
  a31 := Tryz.isAgg87
  z31 := Tryz.sizeOf87
  v31 := Tryz.zeroValue87
  t37 := Tryz.underlying150
  a37 := Tryz.isAgg150
  z37 := Tryz.sizeOf150
  v37 := Tryz.zeroValue150
  t70 := Tryz.underlying174
  a70 := Tryz.isAgg174
  z70 := Tryz.sizeOf174
  v70 := Tryz.zeroValue174
  t72 := Tryz.underlying176
  a72 := Tryz.isAgg176
  z72 := Tryz.sizeOf176
  v72 := Tryz.zeroValue176
  t75 := Tryz.underlying126
  a75 := Tryz.isAgg126
  z75 := Tryz.sizeOf126
  v75 := Tryz.zeroValue126
  t76 := Tryz.underlying178
  a76 := Tryz.isAgg178
  z76 := Tryz.sizeOf178
  v76 := Tryz.zeroValue178
  t127 := Tryz.underlying203
  a127 := Tryz.isAgg203
  z127 := Tryz.sizeOf203
  v127 := Tryz.zeroValue203
  t164 := Tryz.underlying190
  a164 := Tryz.isAgg190
  z164 := Tryz.sizeOf190
  v164 := Tryz.zeroValue190 }
theorem Tryz.Builder_Extra_156 : Builder.Extra Tryz.prog Tryz.lays156_ren := {
  sizeBuilder := by kernel_rfl
  liesBuilder := by kernel_rfl
  t5 := Tryz.underlying5
  a5 := Tryz.isAgg5
  z5 := Tryz.sizeOf5
  v5 := Tryz.zeroValue5
  infoByte := by kernel_rfl
  cellsByte := by kernel_rfl
  sizeByte := by kernel_rfl
  neB5 := by decide }
open Go.RowKit in
theorem Tryz.strings_Join_none (a : Option Addr) (c : Nat) (sep : ByteArray) (w : World) :
    Calls Tryz.prog 119 #[.slice a 0 c, .string sep] w fun e w' => e = .returned (.string ⟨#[]⟩) ∧ w' = w := Any.strings_Join_none Tryz.lays156 Tryz.Builder_Extra_156 a c sep w
open Go.RowKit in
theorem Tryz.strings_Join (bk o c : Nat) (xs : List ByteArray) (sep : ByteArray) (w : World) (hcells : ∀ (j : Nat) x, xs[j]? = some x → w.cell? ⟨bk, o + j, none⟩ = some (.string x)) (hbk : bk < w.heap.size) (hN : xs.length ≤ 140737488355328) (hcap : xs.length ≤ c) (hlen : (Lib.join (xs.map (·.data.toList)) sep.data.toList).length ≤ 140737488355328) :
    Calls Tryz.prog 119 #[.slice (some ⟨bk, o, none⟩) xs.length c, .string sep] w fun e w' => e = .returned (.string ⟨(Lib.join (xs.map (·.data.toList)) sep.data.toList).toArray⟩) ∧ Below w.heap.size w w' := Any.strings_Join Tryz.lays156 Tryz.Builder_Extra_156 bk o c xs sep w hcells hbk hN hcap hlen
def Tryz.laysM171_ren : Go.Shelf.Ren := ⟨fun | 171 => 120 | 243 => 149 | 246 => 165 | 283 => 176 | 284 => 177 | 285 => 178 | 286 => 179 | 129 => 187 | 317 => 186 | 318 => 188 | 319 => 189 | 320 => 190 | 337 => 201 | 338 => 202 | n => n, fun | 3 => 3 | 9 => 9 | 2 => 2 | 4 => 4 | 171 => 223 | 0 => 0 | 53 => 93 | 37 => 150 | 5 => 5 | 173 => 226 | 212 => 234 | 51 => 235 | 20 => 20 | 213 => 236 | 46 => 96 | 232 => 257 | 233 => 258 | n => n, fun | 17 => 2 | 18 => 7 | 19 => 8 | n => n⟩
theorem Tryz.laysM171 : Go.Proofs.LaysM.n171 Tryz.prog Tryz.laysM171_ren := {
  mixed := by kernel_rfl
  f129 := Tryz.func187.trans (congrArg some (by kernel_rfl))
  f171 := Tryz.func120.trans (congrArg some (by kernel_rfl))
  f243 := Tryz.func149.trans (congrArg some (by kernel_rfl))
  f246 := Tryz.func165.trans (congrArg some (by kernel_rfl))
  f283 := Tryz.func176.trans (congrArg some (by kernel_rfl))
  f284 := Tryz.func177.trans (congrArg some (by kernel_rfl))
  f285 := Tryz.func178.trans (congrArg some (by kernel_rfl))
  f286 := Tryz.func179.trans (congrArg some (by kernel_rfl))
  f317 := Tryz.func186.trans (congrArg some (by kernel_rfl))
  f318 := Tryz.func188.trans (congrArg some (by kernel_rfl))
  f319 := Tryz.func189.trans (congrArg some (by kernel_rfl))
  f320 := Tryz.func190.trans (congrArg some (by kernel_rfl))
  f337 := Tryz.func201.trans (congrArg some (by kernel_rfl))
  f338 := Tryz.func202.trans (congrArg some (by kernel_rfl))
  t0 := Tryz.underlying0
  a0 := Tryz.isAgg0
  z0 := Tryz.sizeOf0
  v0 := Tryz.zeroValue0
  t2 := Tryz.underlying2
  a2 := Tryz.isAgg2
  z2 := Tryz.sizeOf2
  v2 := Tryz.zeroValue2
  t3 := Tryz.underlying3
  a3 := Tryz.isAgg3
  z3 := Tryz.sizeOf3
  v3 := Tryz.zeroValue3
  t4 := Tryz.underlying4
  a4 := Tryz.isAgg4
  z4 := Tryz.sizeOf4
  v4 := Tryz.zeroValue4
  t5 := Tryz.underlying5
  a5 := Tryz.isAgg5
  z5 := Tryz.sizeOf5
  v5 := Tryz.zeroValue5
  t9 := Tryz.underlying9
  a9 := Tryz.isAgg9
  z9 := Tryz.sizeOf9
  v9 := Tryz.zeroValue9
  t20 := Tryz.underlying20
  a20 := Tryz.isAgg20
  z20 := Tryz.sizeOf20
  v20 := Tryz.zeroValue20
  t37 := Tryz.underlying150
  a37 := Tryz.isAgg150
  z37 := Tryz.sizeOf150
  v37 := Tryz.zeroValue150
  t46 := Tryz.underlying96
  a46 := Tryz.isAgg96
  z46 := Tryz.sizeOf96
  v46 := Tryz.zeroValue96
  t51 := Tryz.underlying235
  a51 := Tryz.isAgg235
  z51 := Tryz.sizeOf235
  v51 := Tryz.zeroValue235
  t53 := Tryz.underlying93
  a53 := Tryz.isAgg93
  z53 := Tryz.sizeOf93
  v53 := Tryz.zeroValue93
  t171 := Tryz.underlying223
  a171 := Tryz.isAgg223
  z171 := Tryz.sizeOf223
  v171 := Tryz.zeroValue223
  t173 := Tryz.underlying226
  a173 := Tryz.isAgg226
  z173 := Tryz.sizeOf226
  v173 := Tryz.zeroValue226
  t212 := Tryz.underlying234
  a212 := Tryz.isAgg234
  z212 := Tryz.sizeOf234
  v212 := Tryz.zeroValue234
  t213 := Tryz.underlying236
  a213 := Tryz.isAgg236
  z213 := Tryz.sizeOf236
  t232 := Tryz.underlying257
  a232 := Tryz.isAgg257
  z232 := Tryz.sizeOf257
  v232 := Tryz.zeroValue257
  t233 := Tryz.underlying258
  a233 := Tryz.isAgg258
  z233 := Tryz.sizeOf258
  v233 := Tryz.zeroValue258
  g17 := by kernel_rfl
  g18 := by kernel_rfl
  g19 := by kernel_rfl
  i0 := by kernel_rfl
  i2 := by kernel_rfl
  i3 := by kernel_rfl
  i4 := by kernel_rfl
  i5 := by kernel_rfl
  i9 := by kernel_rfl
  i20 := by kernel_rfl
  i37 := by kernel_rfl
  i46 := by kernel_rfl
  i51 := by kernel_rfl
  i53 := by kernel_rfl
  i171 := by kernel_rfl
  i173 := by kernel_rfl
  i212 := by kernel_rfl
  i232 := by kernel_rfl
  i233 := by kernel_rfl
  m17 := by kernel_rfl
  m18 := by kernel_rfl
  m19 := by kernel_rfl }
open Go.RowKit Go.Sort Go.Lib in
theorem Tryz.strconv_Itoa (n : Int) (h0 : -9223372036854775808 ≤ n) (h1 : n ≤ 9223372036854775807) (w : World) (htab : Lib.TabIs Tryz.prog w "internal/strconv.uint64pow10" .u64 Lib.pow10Tab) :
    Calls Tryz.prog 120 #[.int .i64 n] w fun e w' => e = .returned (.string ⟨(Lib.itoa n).toArray⟩) ∧ ∃ k os, w' = grow (w.drewN k) os := Any.strconv_Itoa Tryz.laysM171 n h0 h1 w htab
def Tryz.lays171_ren : Go.Shelf.Ren := ⟨fun | 171 => 120 | 243 => 149 | 246 => 165 | 283 => 176 | 284 => 177 | 285 => 178 | 286 => 179 | 129 => 187 | 317 => 186 | 318 => 188 | 319 => 189 | 320 => 190 | 337 => 201 | 338 => 202 | n => n, fun | 3 => 3 | 9 => 9 | 2 => 2 | 4 => 4 | 171 => 223 | 0 => 0 | 53 => 93 | 37 => 150 | 5 => 5 | 173 => 226 | 212 => 234 | 51 => 235 | 20 => 20 | 213 => 236 | 46 => 96 | 232 => 257 | 233 => 258 | n => n, fun | 17 => 2 | 18 => 7 | 19 => 8 | n => n⟩
theorem Tryz.lays171 : Go.Proofs.Lays.n171 Tryz.prog Tryz.lays171_ren := {
  mixed := by kernel_rfl
  f129 := Tryz.func187.trans (congrArg some (by kernel_rfl))
  f171 := Tryz.func120.trans (congrArg some (by kernel_rfl))
  f243 := Tryz.func149.trans (congrArg some (by kernel_rfl))
  f246 := Tryz.func165.trans (congrArg some (by kernel_rfl))
  f283 := Tryz.func176.trans (congrArg some (by kernel_rfl))
  f284 := Tryz.func177.trans (congrArg some (by kernel_rfl))
  f285 := Tryz.func178.trans (congrArg some (by kernel_rfl))
  f286 := Tryz.func179.trans (congrArg some (by kernel_rfl))
  f317 := Tryz.func186.trans (congrArg some (by kernel_rfl))
  f318 := Tryz.func188.trans (congrArg some (by kernel_rfl))
  f319 := Tryz.func189.trans (congrArg some (by kernel_rfl))
  f320 := Tryz.func190.trans (congrArg some (by kernel_rfl))
  f337 := Tryz.func201.trans (congrArg some (by kernel_rfl))
  f338 := Tryz.func202.trans (congrArg some (by kernel_rfl))
  t0 := Tryz.underlying0
  a0 := Tryz.isAgg0
  z0 := Tryz.sizeOf0
  v0 := Tryz.zeroValue0
  t2 := Tryz.underlying2
  a2 := Tryz.isAgg2
  z2 := Tryz.sizeOf2
  v2 := Tryz.zeroValue2
  t3 := Tryz.underlying3
  a3 := Tryz.isAgg3
  z3 := Tryz.sizeOf3
  v3 := Tryz.zeroValue3
  t4 := Tryz.underlying4
  a4 := Tryz.isAgg4
  z4 := Tryz.sizeOf4
  v4 := Tryz.zeroValue4
  t5 := Tryz.underlying5
  a5 := Tryz.isAgg5
  z5 := Tryz.sizeOf5
  v5 := Tryz.zeroValue5
  t9 := Tryz.underlying9
  a9 := Tryz.isAgg9
  z9 := Tryz.sizeOf9
  v9 := Tryz.zeroValue9
  t20 := Tryz.underlying20
  a20 := Tryz.isAgg20
  z20 := Tryz.sizeOf20
  v20 := Tryz.zeroValue20
  t37 := Tryz.underlying150
  a37 := Tryz.isAgg150
  z37 := Tryz.sizeOf150
  v37 := Tryz.zeroValue150
  t46 := Tryz.underlying96
  a46 := Tryz.isAgg96
  z46 := Tryz.sizeOf96
  v46 := Tryz.zeroValue96
  t51 := Tryz.underlying235
  a51 := Tryz.isAgg235
  z51 := Tryz.sizeOf235
  v51 := Tryz.zeroValue235
  t53 := Tryz.underlying93
  a53 := Tryz.isAgg93
  z53 := Tryz.sizeOf93
  v53 := Tryz.zeroValue93
  t171 := Tryz.underlying223
  a171 := Tryz.isAgg223
  z171 := Tryz.sizeOf223
  v171 := Tryz.zeroValue223
  t173 := Tryz.underlying226
  a173 := Tryz.isAgg226
  z173 := Tryz.sizeOf226
  v173 := Tryz.zeroValue226
  t212 := Tryz.underlying234
  a212 := Tryz.isAgg234
  z212 := Tryz.sizeOf234
  v212 := Tryz.zeroValue234
  t213 := Tryz.underlying236
  a213 := Tryz.isAgg236
  z213 := Tryz.sizeOf236
  t232 := Tryz.underlying257
  a232 := Tryz.isAgg257
  z232 := Tryz.sizeOf257
  v232 := Tryz.zeroValue257
  t233 := Tryz.underlying258
  a233 := Tryz.isAgg258
  z233 := Tryz.sizeOf258
  v233 := Tryz.zeroValue258
  g17 := by kernel_rfl
  g18 := by kernel_rfl
  g19 := by kernel_rfl }
open Go.RowKit Go.Sort Go.Lib in
theorem Tryz.strconv_Itoa_small (i : Nat) (hi : i < 100) (w : World) :
    Calls Tryz.prog 120 #[.int .i64 i] w fun e w' => e = .returned (.string ⟨(Lib.decDigits i).toArray⟩) ∧ w' = w := Any.strconv_Itoa_small Tryz.lays171 i hi w
end Go.Proofs
namespace Go.Sl
open Go Go.RowKit
def Tab10 (I : Imm) : Prop := ∀ F w, St I F w → Lib.TabIs Go.Proofs.Tryz.prog w "internal/strconv.uint64pow10" .u64 Lib.pow10Tab
def Tell (I : Imm) (n : Int) : Prop := 0 ≤ n ∧ (n < 100 ∨ n ≤ 9223372036854775807 ∧ Tab10 I)
theorem EC (I : Imm) (n : Int) (h : Tell I n) : CtV Go.Proofs.Tryz.prog 120 #[.int .i64 n] I (sV (Lib.itoa n)) := by
  refine ct_below fun F w st => ?_
  rcases h.2 with h2 | ⟨h2, ht⟩
  · obtain ⟨k, rfl⟩ : ∃ k : Nat, n = ↑k := ⟨n.toNat, by have := h.1; omega⟩
    refine (Go.Proofs.Tryz.strconv_Itoa_small k (by omega) w).mono ?_
    rintro e w' ⟨rfl, rfl⟩
    exact ⟨by rw [Lib.itoa, if_neg (by omega)]; rfl, Below.refl _ _⟩
  · refine (Go.Proofs.Tryz.strconv_Itoa n (by have := h.1; omega) h2 w (ht F w st)).mono ?_
    rintro e w' ⟨rfl, k, os, rfl⟩
    refine ⟨rfl, rfl, rfl, rfl, ?_, fun j hj => ?_⟩
    · show w.heap.size ≤ (w.heap ++ os).size
      rw [Array.size_append]; omega
    · show (w.heap ++ os)[j]? = w.heap[j]?
      exact Array.getElem?_append_left hj
theorem LL (I : Imm) (v : Value) (xs : List (List UInt8)) (sep : List UInt8) (hv : IsStrs I v xs) (hl : (Lib.join xs sep).length ≤ 140737488355328) : CtV Go.Proofs.Tryz.prog 119 #[v, sV sep] I (sV (Lib.join xs sep)) := by
  refine ct_below fun F w st => ?_
  obtain ⟨a, c, b, o, rfl, h1, h2, h3⟩ := hv
  by_cases h0 : xs.length = 0
  · obtain rfl := List.length_eq_zero_iff.1 h0
    refine (Go.Proofs.Tryz.strings_Join_none a c (sB sep) w).mono ?_
    rintro e w' ⟨rfl, rfl⟩
    exact ⟨rfl, Below.refl _ _⟩
  · obtain rfl := h3.addr (by omega)
    have hm : (xs.map sB).map (fun x => x.data.toList) = xs := by rw [List.map_map]; exact List.map_id'' (fun x => rfl) xs
    have hs := Go.Proofs.Tryz.strings_Join b o c (xs.map sB) (sB sep) w (fun j x hj => by
      rw [List.getElem?_map] at hj
      obtain ⟨z, hz, rfl⟩ := Option.map_eq_some_iff.1 hj
      obtain ⟨hlt, rfl⟩ := List.getElem?_eq_some_iff.1 hz
      have hc := (strs_get h3 (M := F) j hlt).cell st
      rw [Nat.mul_one] at hc
      rw [hc, List.getD_eq_getElem?_getD, List.getElem?_eq_getElem hlt]
      rfl) (by
      obtain ⟨_, cs, T, fz, hb, _⟩ := h3.get 0 (by omega) 0 (by decide)
      exact (Array.getElem?_eq_some_iff.1 (st.imm _ _ hb)).1) (by rw [List.length_map]; exact h2) (by rw [List.length_map]; exact h1) (by rw [hm]; exact hl)
    rw [hm, List.length_map] at hs;exact hs
theorem Tab10.mono {I J : Imm} (h : Tab10 I) (le : I.le J) : Tab10 J := fun F w st => h [] w ⟨st.os.trans le.os, st.tape.trans le.tape, st.output.trans le.output, fun b o hb => st.imm b o (le.blk b o hb), fun b o hb => (by cases hb), List.nodup_nil, fun b o hb => (by cases hb)⟩
theorem Tell.mono {I J : Imm} {n : Int} (h : Tell I n) (le : I.le J) : Tell J n := ⟨h.1, h.2.imp id fun h => ⟨h.1, h.2.mono le⟩⟩
theorem Tell.len {I : Imm} {n : Int} (h : Tell I n) : (Lib.itoa n).length ≤ 21 := Sh.num_le n h.1 (by have := h.2; omega)
structure TellY (I : Imm) (Y : Sh.Yard) : Prop where
  cars : ∀ c ∈ Y.cars, Tell I c.len ∧ Tell I c.wt ∧ Tell I c.brk ∧ Tell I c.grp
  room : ∀ r ∈ Y.room, Tell I r
  tracks : ∀ t ∈ Y.tracks, ∀ x ∈ t, Tell I x
theorem TellY.mono {I J : Imm} {Y : Sh.Yard} (h : TellY I Y) (le : I.le J) : TellY J Y :=
  ⟨fun c hc => have := h.cars c hc; ⟨this.1.mono le, this.2.1.mono le, this.2.2.1.mono le, this.2.2.2.mono le⟩, fun r hr => (h.room r hr).mono le, fun t ht x hx => (h.tracks t ht x hx).mono le⟩
theorem TellY.len {I : Imm} {Y : Sh.Yard} (h : TellY I Y) : Sh.LenY Y :=
  ⟨fun c hc => have := h.cars c hc; ⟨this.1.len, this.2.1.len, this.2.2.1.len, this.2.2.2.len⟩, fun r hr => (h.room r hr).len, fun t ht x hx => (h.tracks t ht x hx).len⟩
def TellV (I : Imm) (Y : Sh.Yard) : Prop := Sh.checkErr Y = 0 → TellY I Y
theorem TellV.mono {I J : Imm} {Y : Sh.Yard} (h : TellV I Y) (le : I.le J) : TellV J Y := fun hz => (h hz).mono le
theorem Tell.small {I : Imm} {n : Int} (h : 0 ≤ n ∧ n < 100) : Tell I n := ⟨h.1, .inl h.2⟩
theorem TellV.small {I : Imm} {Y : Sh.Yard} (h : (∀ c ∈ Y.cars, (0 ≤ c.len ∧ c.len < 100) ∧ (0 ≤ c.wt ∧ c.wt < 100) ∧ (0 ≤ c.brk ∧ c.brk < 100) ∧ (0 ≤ c.grp ∧ c.grp < 100)) ∧ (∀ r ∈ Y.room, 0 ≤ r ∧ r < 100) ∧ ∀ t ∈ Y.tracks, ∀ x ∈ t, 0 ≤ x ∧ x < 100) : TellV I Y := fun _ =>
  ⟨fun c hc => have := h.1 c hc; ⟨.small this.1, .small this.2.1, .small this.2.2.1, .small this.2.2.2⟩, fun r hr => .small (h.2.1 r hr), fun t ht x hx => .small (h.2.2 t ht x hx)⟩
end Go.Sl
namespace Go.Proofs.YtcaocbhbofejnaaGreatDoor
open Go Go.Sl Go.Sh
set_option maxRecDepth 100000
noncomputable def c_Write (p : List Nat) : Code := sub (AV Tryz.f71) p
set_option maxHeartbeats 1000000 in
theorem Write_ct (I : Imm) (y : Value) (Y : Yard) (y_f : IsYard I y Y) (hT : TellV I Y) : Ct Tryz.prog 71 #[y] I ([]) (fun v I' M' => v = .tuple #[sV ((JX Y).1), vI ((JX Y).2)] ∧ M' = []) := by
 obtain ⟨y1, y2, y3, s4, k4, k5, k6⟩ := id y_f;subst s4;obtain ⟨a3, a4, r2, r5, n6, r3, r4, d8⟩ := id k4;subst n6;obtain ⟨a5, a6, r6, r9, n7, r7, r8, a7⟩ := id k5;subst n7;obtain ⟨a1, a2, s0, s3, o3, n8, s1, s2, b2, b6⟩ := id k6;subst n8;refine fr (args := [_]) (N := 95) Tryz.func71 (fun F => ?_);show Run _ _ (c_Write []) _ _ [(0, .agg #[vS a3 Y.cars.length a4, vS a5 Y.room.length a6, vS a1 Y.tracks.length a2])] _ _;refine rnm (rqr ?_);refine sS (sb 1 26 #[vS a3 Y.cars.length a4, vS a5 Y.room.length a6, vS a1 Y.tracks.length a2] (fun b1 => (sp 2 [(3, vI (0)), (2, sV (([] : List UInt8)))] (se (rq (rqr (sd (dnb 14 0 0 b1 [vS a3 Y.cars.length a4, vS a5 Y.room.length a6, vS a1 Y.tracks.length a2]) (sd (dc 15 (fun I' hI => (ED I' _ (Y) ((BH k4 k5 k6).mono hI) :))) (sp 1 [(4, vI ((checkErr Y)))] (sn (sp 2 [(17, .bool (!(cmp .eql ((checkErr Y)) (0))))] (se (rc 17 rfl (fun h1 => ?_) (fun h1 => ?_))))))))))))))
 ·
  have l3 := h1;have h1 := EK (DA h1);refine rqr (sp 3 [(3, vI ((checkErr Y))), (2, sV (([] : List UInt8)))] (se (BT ((RP (BR (t := 2) (u := 3) [] (by kernel_rfl) rfl rfl (TC _ (TR _)) (IR _) ?_))))));exact ⟨(congrArg (fun p : List UInt8 × Int => Value.tuple #[sV p.1, vI p.2]) (writeE_bad h1).symm), rfl⟩
 have l3 := h1;have h1 := EQ (CX h1);have hz : checkErr Y = 0 := by omega
 have p0 : Valid Y := hz;have g3 := p0.fine; have t1 := g3.room1; have t2 := g3.len; have t3 := g3.room3; have t0 := g3.cars;have h5 : ∀ t ∈ Y.tracks, t.length ≤ 5 := fun t ht => by (have := EA ht; have := g3.sum; omega)
 refine AM (NX (rqr (sp 1 [(5, vN)] (se (rq (rqr (sp 1 [(19, vP b1 0)] (sd (dlb 20 0 0 b1 (vS a3 Y.cars.length a4)) (sp 2 [(22, vI (0)), (21, vI (↑(Y.cars.length)))] (se (rb 0 ?_)))))))))));refine rl (fun mz a w => ∃ J0 : Imm, ∃ k : Nat, ∃ d1 : Value, ∃ a0 : Seg, (I.le J0) ∧ (k ≤ Y.cars.length) ∧ (Own 9 1 EO d1 ((Y.cars.take k).map AW) a0) ∧ Slots 95 [(5, d1), (22, vI ↑k), (1, vP b1 0), (2, sV (([] : List UInt8))), (3, vI (0)), (20, vS a3 Y.cars.length a4), (21, vI (↑(Y.cars.length)))] a ∧ a.defers = [] ∧ St J0 ((bX b1 #[vS a3 Y.cars.length a4, vS a5 Y.room.length a6, vS a1 Y.tracks.length a2] 26) :: (a0 ++ F)) w ∧ mz = Y.cars.length - k) ?_ ?_
 ·intro a w hS hD hW;exact ⟨_, I, 0, (vN), [], IR _, Nat.zero_le _, (Own.nil _ _ _), hS.sub (.cons 5 rfl (.cons 22 rfl (.cons 1 rfl (.cons 2 rfl (.cons 3 rfl (.cons 20 rfl (.cons 21 rfl (.nil _)))))))), hD, hW, rfl⟩
 rintro mz a w ⟨J0, k, d1, a0, hJ0, hk, b7, hS, hD, hW, rfl⟩
 refine BI hS hD hW ?_;clear hS hD hW a w;replace d8 := d8.mono hJ0;replace a7 := a7.mono hJ0;replace b2 := b2.mono hJ0;replace b6 := fun i hi => (b6 i hi).mono hJ0
 replace hT := hT.mono hJ0;obtain ⟨a9, b0, d6, k7⟩ := b7.shape; subst d6;refine rqr (sp 1 [(23, .bool (cmp .lss (↑k) (↑(Y.cars.length))))] (se (rq (rc 23 rfl (fun h2 => ?_) (fun h2 => ?_)))))
 ·
  have l4 := h2;have h2 := CH h2;refine AM (NX (rq (rb 1 (rqr (sd (di 24 6 (k) d8.addr) (sd (DV (x := (.tmp 24)) (T := 56) (n := 6) (vs := [vI ((Y.cars.getD (k) AB).len), vI ((Y.cars.getD (k) AB).wt), vI ((Y.cars.getD (k) AB).brk), vI ((Y.cars.getD (k) AB).grp), .bool ((Y.cars.getD (k) AB).pipe), .bool ((Y.cars.getD (k) AB).heat)]) (d := 25) (ty := 56) (gd := none) (by kernel_rfl) rfl (by kernel_rfl) (by kernel_rfl) rfl rfl (cars_getN d8 (k) (by omega))) (sS (sal 7 56 #[vI (0), vI (0), vI (0), vI (0), .bool (false), .bool (false)] (fun b3 => (sS (ss 0 0 b3 [vI ((Y.cars.getD (k) AB).len), vI ((Y.cars.getD (k) AB).wt), vI ((Y.cars.getD (k) AB).brk), vI ((Y.cars.getD (k) AB).grp), .bool ((Y.cars.getD (k) AB).pipe), .bool ((Y.cars.getD (k) AB).heat)] [vI ((Y.cars.getD (k) AB).len), vI ((Y.cars.getD (k) AB).wt), vI ((Y.cars.getD (k) AB).brk), vI ((Y.cars.getD (k) AB).grp), .bool ((Y.cars.getD (k) AB).pipe), .bool ((Y.cars.getD (k) AB).heat)] (_ :: _ :: _) (cs := [_, _, _, _, _, _]) rfl rfl (sn (sp 1 [(8, sV (([] : List UInt8)))] (se (rq (rqr (sp 1 [(26, vP b3 4)] (sd (dlb 27 0 4 b3 (.bool ((Y.cars.getD (k) AB).pipe))) (se (rc 27 rfl (fun h3 => ?_) (fun h3 => ?_)))))))))))))))))))))
  ·
   have l5 := h3;refine rr (sp 1 [(28, sV (([] : List UInt8)))] (sd (BD (JZ (x := (.tmp 28)) (y := (.const (.string { data := #[112] }))) (T := 9) (T' := 9) (d := 29) (ty := 9) (gd := none) (by kernel_rfl) rfl rfl rfl (by decide)) (show sV _ = sV ([112] : List UInt8) from rfl)) (sp 1 [(8, sV (([112] : List UInt8)))] (se (rq (rqr (sp 1 [(30, vP b3 5)] (sd (dlb 31 0 5 b3 (.bool ((Y.cars.getD (k) AB).heat))) (se (rc 31 rfl (fun h4 => ?_) (fun h4 => ?_)))))))))))
   ·
    have l6 := h4;refine rr (sp 1 [(32, sV (([112] : List UInt8)))] (sd (BD (JZ (x := (.tmp 32)) (y := (.const (.string { data := #[104] }))) (T := 9) (T' := 9) (d := 33) (ty := 9) (gd := none) (by kernel_rfl) rfl rfl rfl (by decide)) (show sV _ = sV ([112, 104] : List UInt8) from rfl)) (sp 1 [(8, sV (([112, 104] : List UInt8)))] (se (rq (rqr (sp 1 [(34, sV (([112, 104] : List UInt8)))] (sd (BD (KN (x := (.tmp 34)) (y := (.const (.string { data := #[] }))) (T := 9) (T' := 9) (d := 35) (ty := 4) (gd := none) (by kernel_rfl) rfl rfl rfl) (congrArg Value.bool (show decide (([112, 104] : List UInt8) = ([] : List UInt8)) = false by decide))) (se (rcf 35 rfl (AM (NX ?_))))))))))));have hTY := hT hz;have b8 := hTY.cars _ (AK (d := AB) (xs := Y.cars) (k := k) (by omega));have e6 := b8.1; have e7 := b8.2.1; have e8 := b8.2.2.1; have e9 := b8.2.2.2;refine rd 17 [(0, true), (1, true), (2, true), (3, true), (4, true), (5, true), (6, true), (7, true), (8, true), (9, true), (10, true), (11, true), (12, true), (13, true), (14, false), (15, false), (16, false)] ((bX b3 #[vI ((Y.cars.getD (k) AB).len), vI ((Y.cars.getD (k) AB).wt), vI ((Y.cars.getD (k) AB).brk), vI ((Y.cars.getD (k) AB).grp), .bool ((Y.cars.getD (k) AB).pipe), .bool ((Y.cars.getD (k) AB).heat)] 56) :: (bX b1 #[vS a3 Y.cars.length a4, vS a5 Y.room.length a6, vS a1 Y.tracks.length a2] 26) :: []) ((a0 ++ F)) (ox 2 [(37, vP b3 0), (36, vS a9 ((Y.cars.take k).map AW).length b0)] ?_);refine AC (dlb 38 0 0 b3 (vI ((Y.cars.getD (k) AB).len))) ?_;refine AC (dc 39 (fun I' hI => (EC I' ((Y.cars.getD (k) AB).len) (by first | assumption | exact Tell.mono (by assumption) hI) :))) (ox 1 [(40, vP b3 1)] ?_);refine AC (dlb 41 0 1 b3 (vI ((Y.cars.getD (k) AB).wt))) ?_;refine AC (dc 42 (fun I' hI => (EC I' ((Y.cars.getD (k) AB).wt) (by first | assumption | exact Tell.mono (by assumption) hI) :))) (ox 1 [(43, vP b3 2)] ?_);refine AC (dlb 44 0 2 b3 (vI ((Y.cars.getD (k) AB).brk))) ?_;refine AC (dc 45 (fun I' hI => (EC I' ((Y.cars.getD (k) AB).brk) (by first | assumption | exact Tell.mono (by assumption) hI) :))) (ox 1 [(46, vP b3 3)] ?_);refine AC (dlb 47 0 3 b3 (vI ((Y.cars.getD (k) AB).grp))) ?_;refine AC (dc 48 (fun I' hI => (EC I' ((Y.cars.getD (k) AB).grp) (by first | assumption | exact Tell.mono (by assumption) hI) :))) (ox 1 [(49, sV (([112, 104] : List UInt8)))] ?_);refine CB (sbs 50 9 6 #[sV (([99, 111, 97, 99, 104] : List UInt8)), sV ((num ((Y.cars.getD (k) AB).len))), sV ((num ((Y.cars.getD (k) AB).wt))), sV ((num ((Y.cars.getD (k) AB).brk))), sV ((num ((Y.cars.getD (k) AB).grp))), sV (([112, 104] : List UInt8))] (fun b5 => ?_));refine AY (S' := ((bX b5 #[sV (([99, 111, 97, 99, 104] : List UInt8)), sV ((num ((Y.cars.getD (k) AB).len))), sV ((num ((Y.cars.getD (k) AB).wt))), sV ((num ((Y.cars.getD (k) AB).brk))), sV ((num ((Y.cars.getD (k) AB).grp))), sV (([112, 104] : List UInt8))] 9) :: (a0 ++ F))) ((PS _ _ _).trans (PC _ (PS _ _ _))) ?_;have o8 : Own 9 1 EO (vS (some ⟨b5, 0, none⟩) 6 6) ([(([99, 111, 97, 99, 104] : List UInt8) : List UInt8), ((num ((Y.cars.getD (k) AB).len)) : List UInt8), ((num ((Y.cars.getD (k) AB).wt)) : List UInt8), ((num ((Y.cars.getD (k) AB).brk)) : List UInt8), ((num ((Y.cars.getD (k) AB).grp)) : List UInt8), (([112, 104] : List UInt8) : List UInt8)] : List (List UInt8)) [(bX b5 #[sV (([99, 111, 97, 99, 104] : List UInt8)), sV ((num ((Y.cars.getD (k) AB).len))), sV ((num ((Y.cars.getD (k) AB).wt))), sV ((num ((Y.cars.getD (k) AB).brk))), sV ((num ((Y.cars.getD (k) AB).grp))), sV (([112, 104] : List UInt8))] 9)] := Own.lit rfl rfl;have f7 := ct_own (I := J0) ([] : List UInt8) o8 (by simp only [LC, LN, LA, List.length_map, LK] <;> omega) (fun J hJ hs => LL J _ (([(([99, 111, 97, 99, 104] : List UInt8) : List UInt8), ((num ((Y.cars.getD (k) AB).len)) : List UInt8), ((num ((Y.cars.getD (k) AB).wt)) : List UInt8), ((num ((Y.cars.getD (k) AB).brk)) : List UInt8), ((num ((Y.cars.getD (k) AB).grp)) : List UInt8), (([112, 104] : List UInt8) : List UInt8)] : List (List UInt8))) (([32] : List UInt8)) hs (by exact Nat.le_trans (KK e6.len e7.len e8.len e9.len (marks_tt h3 h4)) (by decide)));refine CB (sc (some 51) (F := ((bX b3 #[vI ((Y.cars.getD (k) AB).len), vI ((Y.cars.getD (k) AB).wt), vI ((Y.cars.getD (k) AB).brk), vI ((Y.cars.getD (k) AB).grp), .bool ((Y.cars.getD (k) AB).pipe), .bool ((Y.cars.getD (k) AB).heat)] 56) :: (bX b1 #[vS a3 Y.cars.length a4, vS a5 Y.room.length a6, vS a1 Y.tracks.length a2] 26) :: (a0 ++ F))) (f7 :) ((PC _ (PS _ _ _)).trans (PS _ _ _)) (fun q6 I8 q0 c9 m3 => ?_));obtain ⟨i5, g5⟩ := m3;rw [i5, g5]; clear i5 g5;replace a7 := a7.mono c9;replace b2 := b2.mono c9;replace b6 := fun i hi => (b6 i hi).mono c9
    replace hT := hT.mono c9;refine AY (S' := ((bX b5 #[sV (([99, 111, 97, 99, 104] : List UInt8)), sV ((num ((Y.cars.getD (k) AB).len))), sV ((num ((Y.cars.getD (k) AB).wt))), sV ((num ((Y.cars.getD (k) AB).brk))), sV ((num ((Y.cars.getD (k) AB).grp))), sV (([112, 104] : List UInt8))] 9) :: (a0 ++ F))) ((PS _ _ _).trans (PC _ (PS _ _ _))) ?_;show OFP _ _ _ _ _ _ ((51, sV (Lib.join (([(([99, 111, 97, 99, 104] : List UInt8) : List UInt8), ((num ((Y.cars.getD (k) AB).len)) : List UInt8), ((num ((Y.cars.getD (k) AB).wt)) : List UInt8), ((num ((Y.cars.getD (k) AB).brk)) : List UInt8), ((num ((Y.cars.getD (k) AB).grp)) : List UInt8), (([112, 104] : List UInt8) : List UInt8)] : List (List UInt8))) (([32] : List UInt8)))) :: _) _ _;refine CB (sbs 52 9 1 #[sV (Lib.join (([(([99, 111, 97, 99, 104] : List UInt8) : List UInt8), ((num ((Y.cars.getD (k) AB).len)) : List UInt8), ((num ((Y.cars.getD (k) AB).wt)) : List UInt8), ((num ((Y.cars.getD (k) AB).brk)) : List UInt8), ((num ((Y.cars.getD (k) AB).grp)) : List UInt8), (([112, 104] : List UInt8) : List UInt8)] : List (List UInt8))) (([32] : List UInt8)))] (fun k9 => ?_));refine AY (S' := ((bX k9 #[sV (Lib.join (([(([99, 111, 97, 99, 104] : List UInt8) : List UInt8), ((num ((Y.cars.getD (k) AB).len)) : List UInt8), ((num ((Y.cars.getD (k) AB).wt)) : List UInt8), ((num ((Y.cars.getD (k) AB).brk)) : List UInt8), ((num ((Y.cars.getD (k) AB).grp)) : List UInt8), (([112, 104] : List UInt8) : List UInt8)] : List (List UInt8))) (([32] : List UInt8)))] 9) :: (bX b5 #[sV (([99, 111, 97, 99, 104] : List UInt8)), sV ((num ((Y.cars.getD (k) AB).len))), sV ((num ((Y.cars.getD (k) AB).wt))), sV ((num ((Y.cars.getD (k) AB).brk))), sV ((num ((Y.cars.getD (k) AB).grp))), sV (([112, 104] : List UInt8))] 9) :: (a0 ++ F))) ((PS _ _ _).trans (PC _ (PS _ _ _))) ?_;refine FN (AJ (M' := ((bX b3 #[vI ((Y.cars.getD (k) AB).len), vI ((Y.cars.getD (k) AB).wt), vI ((Y.cars.getD (k) AB).brk), vI ((Y.cars.getD (k) AB).grp), .bool ((Y.cars.getD (k) AB).pipe), .bool ((Y.cars.getD (k) AB).heat)] 56) :: (bX b1 #[vS a3 Y.cars.length a4, vS a5 Y.room.length a6, vS a1 Y.tracks.length a2] 26) :: (bX k9 #[sV (Lib.join (([(([99, 111, 97, 99, 104] : List UInt8) : List UInt8), ((num ((Y.cars.getD (k) AB).len)) : List UInt8), ((num ((Y.cars.getD (k) AB).wt)) : List UInt8), ((num ((Y.cars.getD (k) AB).brk)) : List UInt8), ((num ((Y.cars.getD (k) AB).grp)) : List UInt8), (([112, 104] : List UInt8) : List UInt8)] : List (List UInt8))) (([32] : List UInt8)))] 9) :: (bX b5 #[sV (([99, 111, 97, 99, 104] : List UInt8)), sV ((num ((Y.cars.getD (k) AB).len))), sV ((num ((Y.cars.getD (k) AB).wt))), sV ((num ((Y.cars.getD (k) AB).brk))), sV ((num ((Y.cars.getD (k) AB).grp))), sV (([112, 104] : List UInt8))] 9) :: (a0 ++ F))) (fun w h => h) (AJ (M' := ((bX b3 #[vI ((Y.cars.getD (k) AB).len), vI ((Y.cars.getD (k) AB).wt), vI ((Y.cars.getD (k) AB).brk), vI ((Y.cars.getD (k) AB).grp), .bool ((Y.cars.getD (k) AB).pipe), .bool ((Y.cars.getD (k) AB).heat)] 56) :: (bX b1 #[vS a3 Y.cars.length a4, vS a5 Y.room.length a6, vS a1 Y.tracks.length a2] 26) :: (bX k9 #[sV (Lib.join (([(([99, 111, 97, 99, 104] : List UInt8) : List UInt8), ((num ((Y.cars.getD (k) AB).len)) : List UInt8), ((num ((Y.cars.getD (k) AB).wt)) : List UInt8), ((num ((Y.cars.getD (k) AB).brk)) : List UInt8), ((num ((Y.cars.getD (k) AB).grp)) : List UInt8), (([112, 104] : List UInt8) : List UInt8)] : List (List UInt8))) (([32] : List UInt8)))] 9) :: (bX b5 #[sV (([99, 111, 97, 99, 104] : List UInt8)), sV ((num ((Y.cars.getD (k) AB).len))), sV ((num ((Y.cars.getD (k) AB).wt))), sV ((num ((Y.cars.getD (k) AB).brk))), sV ((num ((Y.cars.getD (k) AB).grp))), sV (([112, 104] : List UInt8))] 9) :: (a0 ++ F))) (fun w h => h) (sS (BJ (d := 53) (x := (.tmp 36)) (y := (.tmp 52)) (T := 87) (T' := 87) (E := 9) (E' := 9) (sz := 1) (bs := 16) (z := sV (([] : List UInt8))) (cell := EO) (xs := (Y.cars.take k).map AW) (ys := [(Lib.join (([(([99, 111, 97, 99, 104] : List UInt8) : List UInt8), ((num ((Y.cars.getD (k) AB).len)) : List UInt8), ((num ((Y.cars.getD (k) AB).wt)) : List UInt8), ((num ((Y.cars.getD (k) AB).brk)) : List UInt8), ((num ((Y.cars.getD (k) AB).grp)) : List UInt8), (([112, 104] : List UInt8) : List UInt8)] : List (List UInt8))) (([32] : List UInt8)) : List UInt8)]) (Ms := a0) (ty := 87) (gd := none) (by kernel_rfl) rfl (by kernel_rfl) (by kernel_rfl) (by kernel_rfl) (by kernel_rfl) (by kernel_rfl) (by decide) (by kernel_rfl) rfl rfl (b7) (PU (PU (PU (PM.symm)))) (FB _) (EN 2 rfl rfl) (by first | omega | (simp only [List.length_map, LK, LC, LN]; omega)) (fun t8 f0 h8 => (AJ (M' := ((bX b3 #[vI ((Y.cars.getD (k) AB).len), vI ((Y.cars.getD (k) AB).wt), vI ((Y.cars.getD (k) AB).brk), vI ((Y.cars.getD (k) AB).grp), .bool ((Y.cars.getD (k) AB).pipe), .bool ((Y.cars.getD (k) AB).heat)] 56) :: (bX b1 #[vS a3 Y.cars.length a4, vS a5 Y.room.length a6, vS a1 Y.tracks.length a2] 26) :: (bX b5 #[sV (([99, 111, 97, 99, 104] : List UInt8)), sV ((num ((Y.cars.getD (k) AB).len))), sV ((num ((Y.cars.getD (k) AB).wt))), sV ((num ((Y.cars.getD (k) AB).brk))), sV ((num ((Y.cars.getD (k) AB).grp))), sV (([112, 104] : List UInt8))] 9) :: (f0 ++ F))) (fun w h => (h.perm (((PA _ ((PC _ (PS _ _ _)).trans (PS _ _ _))).trans PM).trans (PC _ (PW (PW PM))))).sub (TC _ (TR _))) ?_))))));obtain ⟨j1, j7, m9, p3⟩ := h8.shape;subst m9;refine sp 1 [(5, vS j1 (((Y.cars.take k).map AW) ++ ([(Lib.join (([(([99, 111, 97, 99, 104] : List UInt8) : List UInt8), ((num ((Y.cars.getD (k) AB).len)) : List UInt8), ((num ((Y.cars.getD (k) AB).wt)) : List UInt8), ((num ((Y.cars.getD (k) AB).brk)) : List UInt8), ((num ((Y.cars.getD (k) AB).grp)) : List UInt8), (([112, 104] : List UInt8) : List UInt8)] : List (List UInt8))) (([32] : List UInt8)) : List UInt8)])).length j7)] (ee (NB (NX (rr (sd (da 54 (↑k) (1)) (sp 1 [(22, vI (↑k + 1))] (ee ?_)))))));refine AL (Y.cars.length - (k+1)) (by omega) ?_;intro a w hS hD hW;exact ⟨I8, k+1, vS j1 (((Y.cars.take k).map AW) ++ ([(Lib.join (([(([99, 111, 97, 99, 104] : List UInt8) : List UInt8), ((num ((Y.cars.getD (k) AB).len)) : List UInt8), ((num ((Y.cars.getD (k) AB).wt)) : List UInt8), ((num ((Y.cars.getD (k) AB).brk)) : List UInt8), ((num ((Y.cars.getD (k) AB).grp)) : List UInt8), (([112, 104] : List UInt8) : List UInt8)] : List (List UInt8))) (([32] : List UInt8)) : List UInt8)])).length j7, f0, (IT hJ0 c9), by omega, ((JH (by omega) (marks_tt h3 h4)) ▸ h8), hS.sub (.consE 5 rfl rfl (.consE 22 rfl rfl (.cons 1 rfl (.cons 2 rfl (.cons 3 rfl (.cons 20 rfl (.cons 21 rfl (.nil _)))))))), hD, (hW.perm (PC _ (PS _ _ _))).sub (TC _ (TC _ (TR _))), rfl⟩
   have l6 := h4;refine AM (NX (rq (rqr (sp 1 [(34, sV (([112] : List UInt8)))] (sd (BD (KN (x := (.tmp 34)) (y := (.const (.string { data := #[] }))) (T := 9) (T' := 9) (d := 35) (ty := 4) (gd := none) (by kernel_rfl) rfl rfl rfl) (congrArg Value.bool (show decide (([112] : List UInt8) = ([] : List UInt8)) = false by decide))) (se (rcf 35 rfl (AM (NX ?_)))))))));have hTY := hT hz;have b8 := hTY.cars _ (AK (d := AB) (xs := Y.cars) (k := k) (by omega));have e6 := b8.1; have e7 := b8.2.1; have e8 := b8.2.2.1; have e9 := b8.2.2.2;refine rd 17 [(0, true), (1, true), (2, true), (3, true), (4, true), (5, true), (6, true), (7, true), (8, true), (9, true), (10, true), (11, true), (12, true), (13, true), (14, false), (15, false), (16, false)] ((bX b3 #[vI ((Y.cars.getD (k) AB).len), vI ((Y.cars.getD (k) AB).wt), vI ((Y.cars.getD (k) AB).brk), vI ((Y.cars.getD (k) AB).grp), .bool ((Y.cars.getD (k) AB).pipe), .bool ((Y.cars.getD (k) AB).heat)] 56) :: (bX b1 #[vS a3 Y.cars.length a4, vS a5 Y.room.length a6, vS a1 Y.tracks.length a2] 26) :: []) ((a0 ++ F)) (ox 2 [(37, vP b3 0), (36, vS a9 ((Y.cars.take k).map AW).length b0)] ?_);refine AC (dlb 38 0 0 b3 (vI ((Y.cars.getD (k) AB).len))) ?_;refine AC (dc 39 (fun I' hI => (EC I' ((Y.cars.getD (k) AB).len) (by first | assumption | exact Tell.mono (by assumption) hI) :))) (ox 1 [(40, vP b3 1)] ?_);refine AC (dlb 41 0 1 b3 (vI ((Y.cars.getD (k) AB).wt))) ?_;refine AC (dc 42 (fun I' hI => (EC I' ((Y.cars.getD (k) AB).wt) (by first | assumption | exact Tell.mono (by assumption) hI) :))) (ox 1 [(43, vP b3 2)] ?_);refine AC (dlb 44 0 2 b3 (vI ((Y.cars.getD (k) AB).brk))) ?_;refine AC (dc 45 (fun I' hI => (EC I' ((Y.cars.getD (k) AB).brk) (by first | assumption | exact Tell.mono (by assumption) hI) :))) (ox 1 [(46, vP b3 3)] ?_);refine AC (dlb 47 0 3 b3 (vI ((Y.cars.getD (k) AB).grp))) ?_;refine AC (dc 48 (fun I' hI => (EC I' ((Y.cars.getD (k) AB).grp) (by first | assumption | exact Tell.mono (by assumption) hI) :))) (ox 1 [(49, sV (([112] : List UInt8)))] ?_);refine CB (sbs 50 9 6 #[sV (([99, 111, 97, 99, 104] : List UInt8)), sV ((num ((Y.cars.getD (k) AB).len))), sV ((num ((Y.cars.getD (k) AB).wt))), sV ((num ((Y.cars.getD (k) AB).brk))), sV ((num ((Y.cars.getD (k) AB).grp))), sV (([112] : List UInt8))] (fun d9 => ?_));refine AY (S' := ((bX d9 #[sV (([99, 111, 97, 99, 104] : List UInt8)), sV ((num ((Y.cars.getD (k) AB).len))), sV ((num ((Y.cars.getD (k) AB).wt))), sV ((num ((Y.cars.getD (k) AB).brk))), sV ((num ((Y.cars.getD (k) AB).grp))), sV (([112] : List UInt8))] 9) :: (a0 ++ F))) ((PS _ _ _).trans (PC _ (PS _ _ _))) ?_;have m0 : Own 9 1 EO (vS (some ⟨d9, 0, none⟩) 6 6) ([(([99, 111, 97, 99, 104] : List UInt8) : List UInt8), ((num ((Y.cars.getD (k) AB).len)) : List UInt8), ((num ((Y.cars.getD (k) AB).wt)) : List UInt8), ((num ((Y.cars.getD (k) AB).brk)) : List UInt8), ((num ((Y.cars.getD (k) AB).grp)) : List UInt8), (([112] : List UInt8) : List UInt8)] : List (List UInt8)) [(bX d9 #[sV (([99, 111, 97, 99, 104] : List UInt8)), sV ((num ((Y.cars.getD (k) AB).len))), sV ((num ((Y.cars.getD (k) AB).wt))), sV ((num ((Y.cars.getD (k) AB).brk))), sV ((num ((Y.cars.getD (k) AB).grp))), sV (([112] : List UInt8))] 9)] := Own.lit rfl rfl;have f8 := ct_own (I := J0) ([] : List UInt8) m0 (by simp only [LC, LN, LA, List.length_map, LK] <;> omega) (fun J hJ hs => LL J _ (([(([99, 111, 97, 99, 104] : List UInt8) : List UInt8), ((num ((Y.cars.getD (k) AB).len)) : List UInt8), ((num ((Y.cars.getD (k) AB).wt)) : List UInt8), ((num ((Y.cars.getD (k) AB).brk)) : List UInt8), ((num ((Y.cars.getD (k) AB).grp)) : List UInt8), (([112] : List UInt8) : List UInt8)] : List (List UInt8))) (([32] : List UInt8)) hs (by exact Nat.le_trans (KK e6.len e7.len e8.len e9.len (marks_tf h3 h4)) (by decide)));refine CB (sc (some 51) (F := ((bX b3 #[vI ((Y.cars.getD (k) AB).len), vI ((Y.cars.getD (k) AB).wt), vI ((Y.cars.getD (k) AB).brk), vI ((Y.cars.getD (k) AB).grp), .bool ((Y.cars.getD (k) AB).pipe), .bool ((Y.cars.getD (k) AB).heat)] 56) :: (bX b1 #[vS a3 Y.cars.length a4, vS a5 Y.room.length a6, vS a1 Y.tracks.length a2] 26) :: (a0 ++ F))) (f8 :) ((PC _ (PS _ _ _)).trans (PS _ _ _)) (fun q7 o4 q1 c1 m4 => ?_));obtain ⟨i6, g6⟩ := m4;rw [i6, g6]; clear i6 g6;replace a7 := a7.mono c1;replace b2 := b2.mono c1;replace b6 := fun i hi => (b6 i hi).mono c1
   replace hT := hT.mono c1;refine AY (S' := ((bX d9 #[sV (([99, 111, 97, 99, 104] : List UInt8)), sV ((num ((Y.cars.getD (k) AB).len))), sV ((num ((Y.cars.getD (k) AB).wt))), sV ((num ((Y.cars.getD (k) AB).brk))), sV ((num ((Y.cars.getD (k) AB).grp))), sV (([112] : List UInt8))] 9) :: (a0 ++ F))) ((PS _ _ _).trans (PC _ (PS _ _ _))) ?_;show OFP _ _ _ _ _ _ ((51, sV (Lib.join (([(([99, 111, 97, 99, 104] : List UInt8) : List UInt8), ((num ((Y.cars.getD (k) AB).len)) : List UInt8), ((num ((Y.cars.getD (k) AB).wt)) : List UInt8), ((num ((Y.cars.getD (k) AB).brk)) : List UInt8), ((num ((Y.cars.getD (k) AB).grp)) : List UInt8), (([112] : List UInt8) : List UInt8)] : List (List UInt8))) (([32] : List UInt8)))) :: _) _ _;refine CB (sbs 52 9 1 #[sV (Lib.join (([(([99, 111, 97, 99, 104] : List UInt8) : List UInt8), ((num ((Y.cars.getD (k) AB).len)) : List UInt8), ((num ((Y.cars.getD (k) AB).wt)) : List UInt8), ((num ((Y.cars.getD (k) AB).brk)) : List UInt8), ((num ((Y.cars.getD (k) AB).grp)) : List UInt8), (([112] : List UInt8) : List UInt8)] : List (List UInt8))) (([32] : List UInt8)))] (fun l0 => ?_));refine AY (S' := ((bX l0 #[sV (Lib.join (([(([99, 111, 97, 99, 104] : List UInt8) : List UInt8), ((num ((Y.cars.getD (k) AB).len)) : List UInt8), ((num ((Y.cars.getD (k) AB).wt)) : List UInt8), ((num ((Y.cars.getD (k) AB).brk)) : List UInt8), ((num ((Y.cars.getD (k) AB).grp)) : List UInt8), (([112] : List UInt8) : List UInt8)] : List (List UInt8))) (([32] : List UInt8)))] 9) :: (bX d9 #[sV (([99, 111, 97, 99, 104] : List UInt8)), sV ((num ((Y.cars.getD (k) AB).len))), sV ((num ((Y.cars.getD (k) AB).wt))), sV ((num ((Y.cars.getD (k) AB).brk))), sV ((num ((Y.cars.getD (k) AB).grp))), sV (([112] : List UInt8))] 9) :: (a0 ++ F))) ((PS _ _ _).trans (PC _ (PS _ _ _))) ?_;refine FN (AJ (M' := ((bX b3 #[vI ((Y.cars.getD (k) AB).len), vI ((Y.cars.getD (k) AB).wt), vI ((Y.cars.getD (k) AB).brk), vI ((Y.cars.getD (k) AB).grp), .bool ((Y.cars.getD (k) AB).pipe), .bool ((Y.cars.getD (k) AB).heat)] 56) :: (bX b1 #[vS a3 Y.cars.length a4, vS a5 Y.room.length a6, vS a1 Y.tracks.length a2] 26) :: (bX l0 #[sV (Lib.join (([(([99, 111, 97, 99, 104] : List UInt8) : List UInt8), ((num ((Y.cars.getD (k) AB).len)) : List UInt8), ((num ((Y.cars.getD (k) AB).wt)) : List UInt8), ((num ((Y.cars.getD (k) AB).brk)) : List UInt8), ((num ((Y.cars.getD (k) AB).grp)) : List UInt8), (([112] : List UInt8) : List UInt8)] : List (List UInt8))) (([32] : List UInt8)))] 9) :: (bX d9 #[sV (([99, 111, 97, 99, 104] : List UInt8)), sV ((num ((Y.cars.getD (k) AB).len))), sV ((num ((Y.cars.getD (k) AB).wt))), sV ((num ((Y.cars.getD (k) AB).brk))), sV ((num ((Y.cars.getD (k) AB).grp))), sV (([112] : List UInt8))] 9) :: (a0 ++ F))) (fun w h => h) (AJ (M' := ((bX b3 #[vI ((Y.cars.getD (k) AB).len), vI ((Y.cars.getD (k) AB).wt), vI ((Y.cars.getD (k) AB).brk), vI ((Y.cars.getD (k) AB).grp), .bool ((Y.cars.getD (k) AB).pipe), .bool ((Y.cars.getD (k) AB).heat)] 56) :: (bX b1 #[vS a3 Y.cars.length a4, vS a5 Y.room.length a6, vS a1 Y.tracks.length a2] 26) :: (bX l0 #[sV (Lib.join (([(([99, 111, 97, 99, 104] : List UInt8) : List UInt8), ((num ((Y.cars.getD (k) AB).len)) : List UInt8), ((num ((Y.cars.getD (k) AB).wt)) : List UInt8), ((num ((Y.cars.getD (k) AB).brk)) : List UInt8), ((num ((Y.cars.getD (k) AB).grp)) : List UInt8), (([112] : List UInt8) : List UInt8)] : List (List UInt8))) (([32] : List UInt8)))] 9) :: (bX d9 #[sV (([99, 111, 97, 99, 104] : List UInt8)), sV ((num ((Y.cars.getD (k) AB).len))), sV ((num ((Y.cars.getD (k) AB).wt))), sV ((num ((Y.cars.getD (k) AB).brk))), sV ((num ((Y.cars.getD (k) AB).grp))), sV (([112] : List UInt8))] 9) :: (a0 ++ F))) (fun w h => h) (sS (BJ (d := 53) (x := (.tmp 36)) (y := (.tmp 52)) (T := 87) (T' := 87) (E := 9) (E' := 9) (sz := 1) (bs := 16) (z := sV (([] : List UInt8))) (cell := EO) (xs := (Y.cars.take k).map AW) (ys := [(Lib.join (([(([99, 111, 97, 99, 104] : List UInt8) : List UInt8), ((num ((Y.cars.getD (k) AB).len)) : List UInt8), ((num ((Y.cars.getD (k) AB).wt)) : List UInt8), ((num ((Y.cars.getD (k) AB).brk)) : List UInt8), ((num ((Y.cars.getD (k) AB).grp)) : List UInt8), (([112] : List UInt8) : List UInt8)] : List (List UInt8))) (([32] : List UInt8)) : List UInt8)]) (Ms := a0) (ty := 87) (gd := none) (by kernel_rfl) rfl (by kernel_rfl) (by kernel_rfl) (by kernel_rfl) (by kernel_rfl) (by kernel_rfl) (by decide) (by kernel_rfl) rfl rfl (b7) (PU (PU (PU (PM.symm)))) (FB _) (EN 2 rfl rfl) (by first | omega | (simp only [List.length_map, LK, LC, LN]; omega)) (fun t9 f1 h9 => (AJ (M' := ((bX b3 #[vI ((Y.cars.getD (k) AB).len), vI ((Y.cars.getD (k) AB).wt), vI ((Y.cars.getD (k) AB).brk), vI ((Y.cars.getD (k) AB).grp), .bool ((Y.cars.getD (k) AB).pipe), .bool ((Y.cars.getD (k) AB).heat)] 56) :: (bX b1 #[vS a3 Y.cars.length a4, vS a5 Y.room.length a6, vS a1 Y.tracks.length a2] 26) :: (bX d9 #[sV (([99, 111, 97, 99, 104] : List UInt8)), sV ((num ((Y.cars.getD (k) AB).len))), sV ((num ((Y.cars.getD (k) AB).wt))), sV ((num ((Y.cars.getD (k) AB).brk))), sV ((num ((Y.cars.getD (k) AB).grp))), sV (([112] : List UInt8))] 9) :: (f1 ++ F))) (fun w h => (h.perm (((PA _ ((PC _ (PS _ _ _)).trans (PS _ _ _))).trans PM).trans (PC _ (PW (PW PM))))).sub (TC _ (TR _))) ?_))))));obtain ⟨j2, j8, n0, p4⟩ := h9.shape;subst n0;refine sp 1 [(5, vS j2 (((Y.cars.take k).map AW) ++ ([(Lib.join (([(([99, 111, 97, 99, 104] : List UInt8) : List UInt8), ((num ((Y.cars.getD (k) AB).len)) : List UInt8), ((num ((Y.cars.getD (k) AB).wt)) : List UInt8), ((num ((Y.cars.getD (k) AB).brk)) : List UInt8), ((num ((Y.cars.getD (k) AB).grp)) : List UInt8), (([112] : List UInt8) : List UInt8)] : List (List UInt8))) (([32] : List UInt8)) : List UInt8)])).length j8)] (ee (NB (NX (rr (sd (da 54 (↑k) (1)) (sp 1 [(22, vI (↑k + 1))] (ee ?_)))))));refine AL (Y.cars.length - (k+1)) (by omega) ?_;intro a w hS hD hW;exact ⟨o4, k+1, vS j2 (((Y.cars.take k).map AW) ++ ([(Lib.join (([(([99, 111, 97, 99, 104] : List UInt8) : List UInt8), ((num ((Y.cars.getD (k) AB).len)) : List UInt8), ((num ((Y.cars.getD (k) AB).wt)) : List UInt8), ((num ((Y.cars.getD (k) AB).brk)) : List UInt8), ((num ((Y.cars.getD (k) AB).grp)) : List UInt8), (([112] : List UInt8) : List UInt8)] : List (List UInt8))) (([32] : List UInt8)) : List UInt8)])).length j8, f1, (IT hJ0 c1), by omega, ((JH (by omega) (marks_tf h3 h4)) ▸ h9), hS.sub (.consE 5 rfl rfl (.consE 22 rfl rfl (.cons 1 rfl (.cons 2 rfl (.cons 3 rfl (.cons 20 rfl (.cons 21 rfl (.nil _)))))))), hD, (hW.perm (PC _ (PS _ _ _))).sub (TC _ (TC _ (TR _))), rfl⟩
  have l5 := h3;refine AM (NX (rq (rqr (sp 1 [(30, vP b3 5)] (sd (dlb 31 0 5 b3 (.bool ((Y.cars.getD (k) AB).heat))) (se (rc 31 rfl (fun h5 => ?_) (fun h5 => ?_))))))))
  ·
   have l7 := h5;refine rr (sp 1 [(32, sV (([] : List UInt8)))] (sd (BD (JZ (x := (.tmp 32)) (y := (.const (.string { data := #[104] }))) (T := 9) (T' := 9) (d := 33) (ty := 9) (gd := none) (by kernel_rfl) rfl rfl rfl (by decide)) (show sV _ = sV ([104] : List UInt8) from rfl)) (sp 1 [(8, sV (([104] : List UInt8)))] (se (rq (rqr (sp 1 [(34, sV (([104] : List UInt8)))] (sd (BD (KN (x := (.tmp 34)) (y := (.const (.string { data := #[] }))) (T := 9) (T' := 9) (d := 35) (ty := 4) (gd := none) (by kernel_rfl) rfl rfl rfl) (congrArg Value.bool (show decide (([104] : List UInt8) = ([] : List UInt8)) = false by decide))) (se (rcf 35 rfl (AM (NX ?_))))))))))));have hTY := hT hz;have b8 := hTY.cars _ (AK (d := AB) (xs := Y.cars) (k := k) (by omega));have e6 := b8.1; have e7 := b8.2.1; have e8 := b8.2.2.1; have e9 := b8.2.2.2;refine rd 17 [(0, true), (1, true), (2, true), (3, true), (4, true), (5, true), (6, true), (7, true), (8, true), (9, true), (10, true), (11, true), (12, true), (13, true), (14, false), (15, false), (16, false)] ((bX b3 #[vI ((Y.cars.getD (k) AB).len), vI ((Y.cars.getD (k) AB).wt), vI ((Y.cars.getD (k) AB).brk), vI ((Y.cars.getD (k) AB).grp), .bool ((Y.cars.getD (k) AB).pipe), .bool ((Y.cars.getD (k) AB).heat)] 56) :: (bX b1 #[vS a3 Y.cars.length a4, vS a5 Y.room.length a6, vS a1 Y.tracks.length a2] 26) :: []) ((a0 ++ F)) (ox 2 [(37, vP b3 0), (36, vS a9 ((Y.cars.take k).map AW).length b0)] ?_);refine AC (dlb 38 0 0 b3 (vI ((Y.cars.getD (k) AB).len))) ?_;refine AC (dc 39 (fun I' hI => (EC I' ((Y.cars.getD (k) AB).len) (by first | assumption | exact Tell.mono (by assumption) hI) :))) (ox 1 [(40, vP b3 1)] ?_);refine AC (dlb 41 0 1 b3 (vI ((Y.cars.getD (k) AB).wt))) ?_;refine AC (dc 42 (fun I' hI => (EC I' ((Y.cars.getD (k) AB).wt) (by first | assumption | exact Tell.mono (by assumption) hI) :))) (ox 1 [(43, vP b3 2)] ?_);refine AC (dlb 44 0 2 b3 (vI ((Y.cars.getD (k) AB).brk))) ?_;refine AC (dc 45 (fun I' hI => (EC I' ((Y.cars.getD (k) AB).brk) (by first | assumption | exact Tell.mono (by assumption) hI) :))) (ox 1 [(46, vP b3 3)] ?_);refine AC (dlb 47 0 3 b3 (vI ((Y.cars.getD (k) AB).grp))) ?_;refine AC (dc 48 (fun I' hI => (EC I' ((Y.cars.getD (k) AB).grp) (by first | assumption | exact Tell.mono (by assumption) hI) :))) (ox 1 [(49, sV (([104] : List UInt8)))] ?_);refine CB (sbs 50 9 6 #[sV (([99, 111, 97, 99, 104] : List UInt8)), sV ((num ((Y.cars.getD (k) AB).len))), sV ((num ((Y.cars.getD (k) AB).wt))), sV ((num ((Y.cars.getD (k) AB).brk))), sV ((num ((Y.cars.getD (k) AB).grp))), sV (([104] : List UInt8))] (fun e0 => ?_));refine AY (S' := ((bX e0 #[sV (([99, 111, 97, 99, 104] : List UInt8)), sV ((num ((Y.cars.getD (k) AB).len))), sV ((num ((Y.cars.getD (k) AB).wt))), sV ((num ((Y.cars.getD (k) AB).brk))), sV ((num ((Y.cars.getD (k) AB).grp))), sV (([104] : List UInt8))] 9) :: (a0 ++ F))) ((PS _ _ _).trans (PC _ (PS _ _ _))) ?_;have m1 : Own 9 1 EO (vS (some ⟨e0, 0, none⟩) 6 6) ([(([99, 111, 97, 99, 104] : List UInt8) : List UInt8), ((num ((Y.cars.getD (k) AB).len)) : List UInt8), ((num ((Y.cars.getD (k) AB).wt)) : List UInt8), ((num ((Y.cars.getD (k) AB).brk)) : List UInt8), ((num ((Y.cars.getD (k) AB).grp)) : List UInt8), (([104] : List UInt8) : List UInt8)] : List (List UInt8)) [(bX e0 #[sV (([99, 111, 97, 99, 104] : List UInt8)), sV ((num ((Y.cars.getD (k) AB).len))), sV ((num ((Y.cars.getD (k) AB).wt))), sV ((num ((Y.cars.getD (k) AB).brk))), sV ((num ((Y.cars.getD (k) AB).grp))), sV (([104] : List UInt8))] 9)] := Own.lit rfl rfl;have f9 := ct_own (I := J0) ([] : List UInt8) m1 (by simp only [LC, LN, LA, List.length_map, LK] <;> omega) (fun J hJ hs => LL J _ (([(([99, 111, 97, 99, 104] : List UInt8) : List UInt8), ((num ((Y.cars.getD (k) AB).len)) : List UInt8), ((num ((Y.cars.getD (k) AB).wt)) : List UInt8), ((num ((Y.cars.getD (k) AB).brk)) : List UInt8), ((num ((Y.cars.getD (k) AB).grp)) : List UInt8), (([104] : List UInt8) : List UInt8)] : List (List UInt8))) (([32] : List UInt8)) hs (by exact Nat.le_trans (KK e6.len e7.len e8.len e9.len (marks_ft h3 h5)) (by decide)));refine CB (sc (some 51) (F := ((bX b3 #[vI ((Y.cars.getD (k) AB).len), vI ((Y.cars.getD (k) AB).wt), vI ((Y.cars.getD (k) AB).brk), vI ((Y.cars.getD (k) AB).grp), .bool ((Y.cars.getD (k) AB).pipe), .bool ((Y.cars.getD (k) AB).heat)] 56) :: (bX b1 #[vS a3 Y.cars.length a4, vS a5 Y.room.length a6, vS a1 Y.tracks.length a2] 26) :: (a0 ++ F))) (f9 :) ((PC _ (PS _ _ _)).trans (PS _ _ _)) (fun q8 o5 q2 c2 m5 => ?_));obtain ⟨i7, g7⟩ := m5;rw [i7, g7]; clear i7 g7;replace a7 := a7.mono c2;replace b2 := b2.mono c2;replace b6 := fun i hi => (b6 i hi).mono c2
   replace hT := hT.mono c2;refine AY (S' := ((bX e0 #[sV (([99, 111, 97, 99, 104] : List UInt8)), sV ((num ((Y.cars.getD (k) AB).len))), sV ((num ((Y.cars.getD (k) AB).wt))), sV ((num ((Y.cars.getD (k) AB).brk))), sV ((num ((Y.cars.getD (k) AB).grp))), sV (([104] : List UInt8))] 9) :: (a0 ++ F))) ((PS _ _ _).trans (PC _ (PS _ _ _))) ?_;show OFP _ _ _ _ _ _ ((51, sV (Lib.join (([(([99, 111, 97, 99, 104] : List UInt8) : List UInt8), ((num ((Y.cars.getD (k) AB).len)) : List UInt8), ((num ((Y.cars.getD (k) AB).wt)) : List UInt8), ((num ((Y.cars.getD (k) AB).brk)) : List UInt8), ((num ((Y.cars.getD (k) AB).grp)) : List UInt8), (([104] : List UInt8) : List UInt8)] : List (List UInt8))) (([32] : List UInt8)))) :: _) _ _;refine CB (sbs 52 9 1 #[sV (Lib.join (([(([99, 111, 97, 99, 104] : List UInt8) : List UInt8), ((num ((Y.cars.getD (k) AB).len)) : List UInt8), ((num ((Y.cars.getD (k) AB).wt)) : List UInt8), ((num ((Y.cars.getD (k) AB).brk)) : List UInt8), ((num ((Y.cars.getD (k) AB).grp)) : List UInt8), (([104] : List UInt8) : List UInt8)] : List (List UInt8))) (([32] : List UInt8)))] (fun l1 => ?_));refine AY (S' := ((bX l1 #[sV (Lib.join (([(([99, 111, 97, 99, 104] : List UInt8) : List UInt8), ((num ((Y.cars.getD (k) AB).len)) : List UInt8), ((num ((Y.cars.getD (k) AB).wt)) : List UInt8), ((num ((Y.cars.getD (k) AB).brk)) : List UInt8), ((num ((Y.cars.getD (k) AB).grp)) : List UInt8), (([104] : List UInt8) : List UInt8)] : List (List UInt8))) (([32] : List UInt8)))] 9) :: (bX e0 #[sV (([99, 111, 97, 99, 104] : List UInt8)), sV ((num ((Y.cars.getD (k) AB).len))), sV ((num ((Y.cars.getD (k) AB).wt))), sV ((num ((Y.cars.getD (k) AB).brk))), sV ((num ((Y.cars.getD (k) AB).grp))), sV (([104] : List UInt8))] 9) :: (a0 ++ F))) ((PS _ _ _).trans (PC _ (PS _ _ _))) ?_;refine FN (AJ (M' := ((bX b3 #[vI ((Y.cars.getD (k) AB).len), vI ((Y.cars.getD (k) AB).wt), vI ((Y.cars.getD (k) AB).brk), vI ((Y.cars.getD (k) AB).grp), .bool ((Y.cars.getD (k) AB).pipe), .bool ((Y.cars.getD (k) AB).heat)] 56) :: (bX b1 #[vS a3 Y.cars.length a4, vS a5 Y.room.length a6, vS a1 Y.tracks.length a2] 26) :: (bX l1 #[sV (Lib.join (([(([99, 111, 97, 99, 104] : List UInt8) : List UInt8), ((num ((Y.cars.getD (k) AB).len)) : List UInt8), ((num ((Y.cars.getD (k) AB).wt)) : List UInt8), ((num ((Y.cars.getD (k) AB).brk)) : List UInt8), ((num ((Y.cars.getD (k) AB).grp)) : List UInt8), (([104] : List UInt8) : List UInt8)] : List (List UInt8))) (([32] : List UInt8)))] 9) :: (bX e0 #[sV (([99, 111, 97, 99, 104] : List UInt8)), sV ((num ((Y.cars.getD (k) AB).len))), sV ((num ((Y.cars.getD (k) AB).wt))), sV ((num ((Y.cars.getD (k) AB).brk))), sV ((num ((Y.cars.getD (k) AB).grp))), sV (([104] : List UInt8))] 9) :: (a0 ++ F))) (fun w h => h) (AJ (M' := ((bX b3 #[vI ((Y.cars.getD (k) AB).len), vI ((Y.cars.getD (k) AB).wt), vI ((Y.cars.getD (k) AB).brk), vI ((Y.cars.getD (k) AB).grp), .bool ((Y.cars.getD (k) AB).pipe), .bool ((Y.cars.getD (k) AB).heat)] 56) :: (bX b1 #[vS a3 Y.cars.length a4, vS a5 Y.room.length a6, vS a1 Y.tracks.length a2] 26) :: (bX l1 #[sV (Lib.join (([(([99, 111, 97, 99, 104] : List UInt8) : List UInt8), ((num ((Y.cars.getD (k) AB).len)) : List UInt8), ((num ((Y.cars.getD (k) AB).wt)) : List UInt8), ((num ((Y.cars.getD (k) AB).brk)) : List UInt8), ((num ((Y.cars.getD (k) AB).grp)) : List UInt8), (([104] : List UInt8) : List UInt8)] : List (List UInt8))) (([32] : List UInt8)))] 9) :: (bX e0 #[sV (([99, 111, 97, 99, 104] : List UInt8)), sV ((num ((Y.cars.getD (k) AB).len))), sV ((num ((Y.cars.getD (k) AB).wt))), sV ((num ((Y.cars.getD (k) AB).brk))), sV ((num ((Y.cars.getD (k) AB).grp))), sV (([104] : List UInt8))] 9) :: (a0 ++ F))) (fun w h => h) (sS (BJ (d := 53) (x := (.tmp 36)) (y := (.tmp 52)) (T := 87) (T' := 87) (E := 9) (E' := 9) (sz := 1) (bs := 16) (z := sV (([] : List UInt8))) (cell := EO) (xs := (Y.cars.take k).map AW) (ys := [(Lib.join (([(([99, 111, 97, 99, 104] : List UInt8) : List UInt8), ((num ((Y.cars.getD (k) AB).len)) : List UInt8), ((num ((Y.cars.getD (k) AB).wt)) : List UInt8), ((num ((Y.cars.getD (k) AB).brk)) : List UInt8), ((num ((Y.cars.getD (k) AB).grp)) : List UInt8), (([104] : List UInt8) : List UInt8)] : List (List UInt8))) (([32] : List UInt8)) : List UInt8)]) (Ms := a0) (ty := 87) (gd := none) (by kernel_rfl) rfl (by kernel_rfl) (by kernel_rfl) (by kernel_rfl) (by kernel_rfl) (by kernel_rfl) (by decide) (by kernel_rfl) rfl rfl (b7) (PU (PU (PU (PM.symm)))) (FB _) (EN 2 rfl rfl) (by first | omega | (simp only [List.length_map, LK, LC, LN]; omega)) (fun u0 f2 i0 => (AJ (M' := ((bX b3 #[vI ((Y.cars.getD (k) AB).len), vI ((Y.cars.getD (k) AB).wt), vI ((Y.cars.getD (k) AB).brk), vI ((Y.cars.getD (k) AB).grp), .bool ((Y.cars.getD (k) AB).pipe), .bool ((Y.cars.getD (k) AB).heat)] 56) :: (bX b1 #[vS a3 Y.cars.length a4, vS a5 Y.room.length a6, vS a1 Y.tracks.length a2] 26) :: (bX e0 #[sV (([99, 111, 97, 99, 104] : List UInt8)), sV ((num ((Y.cars.getD (k) AB).len))), sV ((num ((Y.cars.getD (k) AB).wt))), sV ((num ((Y.cars.getD (k) AB).brk))), sV ((num ((Y.cars.getD (k) AB).grp))), sV (([104] : List UInt8))] 9) :: (f2 ++ F))) (fun w h => (h.perm (((PA _ ((PC _ (PS _ _ _)).trans (PS _ _ _))).trans PM).trans (PC _ (PW (PW PM))))).sub (TC _ (TR _))) ?_))))));obtain ⟨j3, j9, n1, p5⟩ := i0.shape;subst n1;refine sp 1 [(5, vS j3 (((Y.cars.take k).map AW) ++ ([(Lib.join (([(([99, 111, 97, 99, 104] : List UInt8) : List UInt8), ((num ((Y.cars.getD (k) AB).len)) : List UInt8), ((num ((Y.cars.getD (k) AB).wt)) : List UInt8), ((num ((Y.cars.getD (k) AB).brk)) : List UInt8), ((num ((Y.cars.getD (k) AB).grp)) : List UInt8), (([104] : List UInt8) : List UInt8)] : List (List UInt8))) (([32] : List UInt8)) : List UInt8)])).length j9)] (ee (NB (NX (rr (sd (da 54 (↑k) (1)) (sp 1 [(22, vI (↑k + 1))] (ee ?_)))))));refine AL (Y.cars.length - (k+1)) (by omega) ?_;intro a w hS hD hW;exact ⟨o5, k+1, vS j3 (((Y.cars.take k).map AW) ++ ([(Lib.join (([(([99, 111, 97, 99, 104] : List UInt8) : List UInt8), ((num ((Y.cars.getD (k) AB).len)) : List UInt8), ((num ((Y.cars.getD (k) AB).wt)) : List UInt8), ((num ((Y.cars.getD (k) AB).brk)) : List UInt8), ((num ((Y.cars.getD (k) AB).grp)) : List UInt8), (([104] : List UInt8) : List UInt8)] : List (List UInt8))) (([32] : List UInt8)) : List UInt8)])).length j9, f2, (IT hJ0 c2), by omega, ((JH (by omega) (marks_ft h3 h5)) ▸ i0), hS.sub (.consE 5 rfl rfl (.consE 22 rfl rfl (.cons 1 rfl (.cons 2 rfl (.cons 3 rfl (.cons 20 rfl (.cons 21 rfl (.nil _)))))))), hD, (hW.perm (PC _ (PS _ _ _))).sub (TC _ (TC _ (TR _))), rfl⟩
  have l7 := h5;refine AM (NX (rq (rqr (sp 1 [(34, sV (([] : List UInt8)))] (sd (BD (KN (x := (.tmp 34)) (y := (.const (.string { data := #[] }))) (T := 9) (T' := 9) (d := 35) (ty := 4) (gd := none) (by kernel_rfl) rfl rfl rfl) (congrArg Value.bool (show decide (([] : List UInt8) = ([] : List UInt8)) = true by decide))) (se (rct 35 rfl (rr (sp 1 [(8, sV (([45] : List UInt8)))] (se ?_))))))))));have hTY := hT hz;have b8 := hTY.cars _ (AK (d := AB) (xs := Y.cars) (k := k) (by omega));have e6 := b8.1; have e7 := b8.2.1; have e8 := b8.2.2.1; have e9 := b8.2.2.2;refine rd 17 [(0, true), (1, true), (2, true), (3, true), (4, true), (5, true), (6, true), (7, true), (8, true), (9, true), (10, true), (11, true), (12, true), (13, true), (14, false), (15, false), (16, false)] ((bX b3 #[vI ((Y.cars.getD (k) AB).len), vI ((Y.cars.getD (k) AB).wt), vI ((Y.cars.getD (k) AB).brk), vI ((Y.cars.getD (k) AB).grp), .bool ((Y.cars.getD (k) AB).pipe), .bool ((Y.cars.getD (k) AB).heat)] 56) :: (bX b1 #[vS a3 Y.cars.length a4, vS a5 Y.room.length a6, vS a1 Y.tracks.length a2] 26) :: []) ((a0 ++ F)) (ox 2 [(37, vP b3 0), (36, vS a9 ((Y.cars.take k).map AW).length b0)] ?_);refine AC (dlb 38 0 0 b3 (vI ((Y.cars.getD (k) AB).len))) ?_;refine AC (dc 39 (fun I' hI => (EC I' ((Y.cars.getD (k) AB).len) (by first | assumption | exact Tell.mono (by assumption) hI) :))) (ox 1 [(40, vP b3 1)] ?_);refine AC (dlb 41 0 1 b3 (vI ((Y.cars.getD (k) AB).wt))) ?_;refine AC (dc 42 (fun I' hI => (EC I' ((Y.cars.getD (k) AB).wt) (by first | assumption | exact Tell.mono (by assumption) hI) :))) (ox 1 [(43, vP b3 2)] ?_);refine AC (dlb 44 0 2 b3 (vI ((Y.cars.getD (k) AB).brk))) ?_;refine AC (dc 45 (fun I' hI => (EC I' ((Y.cars.getD (k) AB).brk) (by first | assumption | exact Tell.mono (by assumption) hI) :))) (ox 1 [(46, vP b3 3)] ?_);refine AC (dlb 47 0 3 b3 (vI ((Y.cars.getD (k) AB).grp))) ?_;refine AC (dc 48 (fun I' hI => (EC I' ((Y.cars.getD (k) AB).grp) (by first | assumption | exact Tell.mono (by assumption) hI) :))) (ox 1 [(49, sV (([45] : List UInt8)))] ?_);refine CB (sbs 50 9 6 #[sV (([99, 111, 97, 99, 104] : List UInt8)), sV ((num ((Y.cars.getD (k) AB).len))), sV ((num ((Y.cars.getD (k) AB).wt))), sV ((num ((Y.cars.getD (k) AB).brk))), sV ((num ((Y.cars.getD (k) AB).grp))), sV (([45] : List UInt8))] (fun e1 => ?_));refine AY (S' := ((bX e1 #[sV (([99, 111, 97, 99, 104] : List UInt8)), sV ((num ((Y.cars.getD (k) AB).len))), sV ((num ((Y.cars.getD (k) AB).wt))), sV ((num ((Y.cars.getD (k) AB).brk))), sV ((num ((Y.cars.getD (k) AB).grp))), sV (([45] : List UInt8))] 9) :: (a0 ++ F))) ((PS _ _ _).trans (PC _ (PS _ _ _))) ?_;have m2 : Own 9 1 EO (vS (some ⟨e1, 0, none⟩) 6 6) ([(([99, 111, 97, 99, 104] : List UInt8) : List UInt8), ((num ((Y.cars.getD (k) AB).len)) : List UInt8), ((num ((Y.cars.getD (k) AB).wt)) : List UInt8), ((num ((Y.cars.getD (k) AB).brk)) : List UInt8), ((num ((Y.cars.getD (k) AB).grp)) : List UInt8), (([45] : List UInt8) : List UInt8)] : List (List UInt8)) [(bX e1 #[sV (([99, 111, 97, 99, 104] : List UInt8)), sV ((num ((Y.cars.getD (k) AB).len))), sV ((num ((Y.cars.getD (k) AB).wt))), sV ((num ((Y.cars.getD (k) AB).brk))), sV ((num ((Y.cars.getD (k) AB).grp))), sV (([45] : List UInt8))] 9)] := Own.lit rfl rfl;have g0 := ct_own (I := J0) ([] : List UInt8) m2 (by simp only [LC, LN, LA, List.length_map, LK] <;> omega) (fun J hJ hs => LL J _ (([(([99, 111, 97, 99, 104] : List UInt8) : List UInt8), ((num ((Y.cars.getD (k) AB).len)) : List UInt8), ((num ((Y.cars.getD (k) AB).wt)) : List UInt8), ((num ((Y.cars.getD (k) AB).brk)) : List UInt8), ((num ((Y.cars.getD (k) AB).grp)) : List UInt8), (([45] : List UInt8) : List UInt8)] : List (List UInt8))) (([32] : List UInt8)) hs (by exact Nat.le_trans (KK e6.len e7.len e8.len e9.len (marks_ff h3 h5)) (by decide)));refine CB (sc (some 51) (F := ((bX b3 #[vI ((Y.cars.getD (k) AB).len), vI ((Y.cars.getD (k) AB).wt), vI ((Y.cars.getD (k) AB).brk), vI ((Y.cars.getD (k) AB).grp), .bool ((Y.cars.getD (k) AB).pipe), .bool ((Y.cars.getD (k) AB).heat)] 56) :: (bX b1 #[vS a3 Y.cars.length a4, vS a5 Y.room.length a6, vS a1 Y.tracks.length a2] 26) :: (a0 ++ F))) (g0 :) ((PC _ (PS _ _ _)).trans (PS _ _ _)) (fun q9 o6 q3 c3 m6 => ?_));obtain ⟨i8, g8⟩ := m6;rw [i8, g8]; clear i8 g8;replace a7 := a7.mono c3;replace b2 := b2.mono c3;replace b6 := fun i hi => (b6 i hi).mono c3
  replace hT := hT.mono c3;refine AY (S' := ((bX e1 #[sV (([99, 111, 97, 99, 104] : List UInt8)), sV ((num ((Y.cars.getD (k) AB).len))), sV ((num ((Y.cars.getD (k) AB).wt))), sV ((num ((Y.cars.getD (k) AB).brk))), sV ((num ((Y.cars.getD (k) AB).grp))), sV (([45] : List UInt8))] 9) :: (a0 ++ F))) ((PS _ _ _).trans (PC _ (PS _ _ _))) ?_;show OFP _ _ _ _ _ _ ((51, sV (Lib.join (([(([99, 111, 97, 99, 104] : List UInt8) : List UInt8), ((num ((Y.cars.getD (k) AB).len)) : List UInt8), ((num ((Y.cars.getD (k) AB).wt)) : List UInt8), ((num ((Y.cars.getD (k) AB).brk)) : List UInt8), ((num ((Y.cars.getD (k) AB).grp)) : List UInt8), (([45] : List UInt8) : List UInt8)] : List (List UInt8))) (([32] : List UInt8)))) :: _) _ _;refine CB (sbs 52 9 1 #[sV (Lib.join (([(([99, 111, 97, 99, 104] : List UInt8) : List UInt8), ((num ((Y.cars.getD (k) AB).len)) : List UInt8), ((num ((Y.cars.getD (k) AB).wt)) : List UInt8), ((num ((Y.cars.getD (k) AB).brk)) : List UInt8), ((num ((Y.cars.getD (k) AB).grp)) : List UInt8), (([45] : List UInt8) : List UInt8)] : List (List UInt8))) (([32] : List UInt8)))] (fun l2 => ?_));refine AY (S' := ((bX l2 #[sV (Lib.join (([(([99, 111, 97, 99, 104] : List UInt8) : List UInt8), ((num ((Y.cars.getD (k) AB).len)) : List UInt8), ((num ((Y.cars.getD (k) AB).wt)) : List UInt8), ((num ((Y.cars.getD (k) AB).brk)) : List UInt8), ((num ((Y.cars.getD (k) AB).grp)) : List UInt8), (([45] : List UInt8) : List UInt8)] : List (List UInt8))) (([32] : List UInt8)))] 9) :: (bX e1 #[sV (([99, 111, 97, 99, 104] : List UInt8)), sV ((num ((Y.cars.getD (k) AB).len))), sV ((num ((Y.cars.getD (k) AB).wt))), sV ((num ((Y.cars.getD (k) AB).brk))), sV ((num ((Y.cars.getD (k) AB).grp))), sV (([45] : List UInt8))] 9) :: (a0 ++ F))) ((PS _ _ _).trans (PC _ (PS _ _ _))) ?_;refine FN (AJ (M' := ((bX b3 #[vI ((Y.cars.getD (k) AB).len), vI ((Y.cars.getD (k) AB).wt), vI ((Y.cars.getD (k) AB).brk), vI ((Y.cars.getD (k) AB).grp), .bool ((Y.cars.getD (k) AB).pipe), .bool ((Y.cars.getD (k) AB).heat)] 56) :: (bX b1 #[vS a3 Y.cars.length a4, vS a5 Y.room.length a6, vS a1 Y.tracks.length a2] 26) :: (bX l2 #[sV (Lib.join (([(([99, 111, 97, 99, 104] : List UInt8) : List UInt8), ((num ((Y.cars.getD (k) AB).len)) : List UInt8), ((num ((Y.cars.getD (k) AB).wt)) : List UInt8), ((num ((Y.cars.getD (k) AB).brk)) : List UInt8), ((num ((Y.cars.getD (k) AB).grp)) : List UInt8), (([45] : List UInt8) : List UInt8)] : List (List UInt8))) (([32] : List UInt8)))] 9) :: (bX e1 #[sV (([99, 111, 97, 99, 104] : List UInt8)), sV ((num ((Y.cars.getD (k) AB).len))), sV ((num ((Y.cars.getD (k) AB).wt))), sV ((num ((Y.cars.getD (k) AB).brk))), sV ((num ((Y.cars.getD (k) AB).grp))), sV (([45] : List UInt8))] 9) :: (a0 ++ F))) (fun w h => h) (AJ (M' := ((bX b3 #[vI ((Y.cars.getD (k) AB).len), vI ((Y.cars.getD (k) AB).wt), vI ((Y.cars.getD (k) AB).brk), vI ((Y.cars.getD (k) AB).grp), .bool ((Y.cars.getD (k) AB).pipe), .bool ((Y.cars.getD (k) AB).heat)] 56) :: (bX b1 #[vS a3 Y.cars.length a4, vS a5 Y.room.length a6, vS a1 Y.tracks.length a2] 26) :: (bX l2 #[sV (Lib.join (([(([99, 111, 97, 99, 104] : List UInt8) : List UInt8), ((num ((Y.cars.getD (k) AB).len)) : List UInt8), ((num ((Y.cars.getD (k) AB).wt)) : List UInt8), ((num ((Y.cars.getD (k) AB).brk)) : List UInt8), ((num ((Y.cars.getD (k) AB).grp)) : List UInt8), (([45] : List UInt8) : List UInt8)] : List (List UInt8))) (([32] : List UInt8)))] 9) :: (bX e1 #[sV (([99, 111, 97, 99, 104] : List UInt8)), sV ((num ((Y.cars.getD (k) AB).len))), sV ((num ((Y.cars.getD (k) AB).wt))), sV ((num ((Y.cars.getD (k) AB).brk))), sV ((num ((Y.cars.getD (k) AB).grp))), sV (([45] : List UInt8))] 9) :: (a0 ++ F))) (fun w h => h) (sS (BJ (d := 53) (x := (.tmp 36)) (y := (.tmp 52)) (T := 87) (T' := 87) (E := 9) (E' := 9) (sz := 1) (bs := 16) (z := sV (([] : List UInt8))) (cell := EO) (xs := (Y.cars.take k).map AW) (ys := [(Lib.join (([(([99, 111, 97, 99, 104] : List UInt8) : List UInt8), ((num ((Y.cars.getD (k) AB).len)) : List UInt8), ((num ((Y.cars.getD (k) AB).wt)) : List UInt8), ((num ((Y.cars.getD (k) AB).brk)) : List UInt8), ((num ((Y.cars.getD (k) AB).grp)) : List UInt8), (([45] : List UInt8) : List UInt8)] : List (List UInt8))) (([32] : List UInt8)) : List UInt8)]) (Ms := a0) (ty := 87) (gd := none) (by kernel_rfl) rfl (by kernel_rfl) (by kernel_rfl) (by kernel_rfl) (by kernel_rfl) (by kernel_rfl) (by decide) (by kernel_rfl) rfl rfl (b7) (PU (PU (PU (PM.symm)))) (FB _) (EN 2 rfl rfl) (by first | omega | (simp only [List.length_map, LK, LC, LN]; omega)) (fun u1 f3 i1 => (AJ (M' := ((bX b3 #[vI ((Y.cars.getD (k) AB).len), vI ((Y.cars.getD (k) AB).wt), vI ((Y.cars.getD (k) AB).brk), vI ((Y.cars.getD (k) AB).grp), .bool ((Y.cars.getD (k) AB).pipe), .bool ((Y.cars.getD (k) AB).heat)] 56) :: (bX b1 #[vS a3 Y.cars.length a4, vS a5 Y.room.length a6, vS a1 Y.tracks.length a2] 26) :: (bX e1 #[sV (([99, 111, 97, 99, 104] : List UInt8)), sV ((num ((Y.cars.getD (k) AB).len))), sV ((num ((Y.cars.getD (k) AB).wt))), sV ((num ((Y.cars.getD (k) AB).brk))), sV ((num ((Y.cars.getD (k) AB).grp))), sV (([45] : List UInt8))] 9) :: (f3 ++ F))) (fun w h => (h.perm (((PA _ ((PC _ (PS _ _ _)).trans (PS _ _ _))).trans PM).trans (PC _ (PW (PW PM))))).sub (TC _ (TR _))) ?_))))));obtain ⟨j4, k0, n2, p6⟩ := i1.shape;subst n2;refine sp 1 [(5, vS j4 (((Y.cars.take k).map AW) ++ ([(Lib.join (([(([99, 111, 97, 99, 104] : List UInt8) : List UInt8), ((num ((Y.cars.getD (k) AB).len)) : List UInt8), ((num ((Y.cars.getD (k) AB).wt)) : List UInt8), ((num ((Y.cars.getD (k) AB).brk)) : List UInt8), ((num ((Y.cars.getD (k) AB).grp)) : List UInt8), (([45] : List UInt8) : List UInt8)] : List (List UInt8))) (([32] : List UInt8)) : List UInt8)])).length k0)] (ee (NB (NX (rr (sd (da 54 (↑k) (1)) (sp 1 [(22, vI (↑k + 1))] (ee ?_)))))));refine AL (Y.cars.length - (k+1)) (by omega) ?_;intro a w hS hD hW;exact ⟨o6, k+1, vS j4 (((Y.cars.take k).map AW) ++ ([(Lib.join (([(([99, 111, 97, 99, 104] : List UInt8) : List UInt8), ((num ((Y.cars.getD (k) AB).len)) : List UInt8), ((num ((Y.cars.getD (k) AB).wt)) : List UInt8), ((num ((Y.cars.getD (k) AB).brk)) : List UInt8), ((num ((Y.cars.getD (k) AB).grp)) : List UInt8), (([45] : List UInt8) : List UInt8)] : List (List UInt8))) (([32] : List UInt8)) : List UInt8)])).length k0, f3, (IT hJ0 c3), by omega, ((JH (by omega) (marks_ff h3 h5)) ▸ i1), hS.sub (.consE 5 rfl rfl (.consE 22 rfl rfl (.cons 1 rfl (.cons 2 rfl (.cons 3 rfl (.cons 20 rfl (.cons 21 rfl (.nil _)))))))), hD, (hW.perm (PC _ (PS _ _ _))).sub (TC _ (TC _ (TR _))), rfl⟩
 have l4 := h2;have h2 := CG h2;refine CO 0 ((EP (EP (EB (NX (rq (rqr (sp 1 [(55, vP b1 2)] (sd (dlb 56 0 2 b1 (vS a1 Y.tracks.length a2)) (sp 2 [(58, vI (0)), (57, vI (↑(Y.tracks.length)))] (se (rb 2 ?_))))))))))));refine rl (fun mz a w => ∃ J1 : Imm, ∃ i : Nat, ∃ d2 : Value, ∃ a8 : Seg, (J0.le J1) ∧ (i ≤ Y.tracks.length) ∧ (Own 9 1 EO d2 (Y.cars.map AW ++ (BA Y).take i) a8) ∧ Slots 95 [(5, d2), (58, vI ↑i), (1, vP b1 0), (2, sV (([] : List UInt8))), (3, vI (0)), (56, vS a1 Y.tracks.length a2), (57, vI (↑(Y.tracks.length)))] a ∧ a.defers = [] ∧ St J1 ((bX b1 #[vS a3 Y.cars.length a4, vS a5 Y.room.length a6, vS a1 Y.tracks.length a2] 26) :: (a8 ++ F)) w ∧ mz = Y.tracks.length - i) ?_ ?_
 ·intro a w hS hD hW;exact ⟨_, J0, 0, vS a9 ((Y.cars.take k).map AW).length b0, a0, IR _, Nat.zero_le _, ((lines_start (Y := Y) (k := k) (by omega)) ▸ b7), hS.sub (.cons 5 rfl (.cons 58 rfl (.cons 1 rfl (.cons 2 rfl (.cons 3 rfl (.cons 56 rfl (.cons 57 rfl (.nil _)))))))), hD, hW, rfl⟩
 rintro mz a w ⟨J1, i, d2, a8, hJ1, hi, d0, hS, hD, hW, rfl⟩
 refine BI hS hD hW ?_;clear hS hD hW a w;replace a7 := a7.mono hJ1;replace b2 := b2.mono hJ1;replace b6 := fun i hi => (b6 i hi).mono hJ1
 replace hT := hT.mono hJ1;obtain ⟨b9, c0, d7, k8⟩ := d0.shape; subst d7;refine rqr (sp 1 [(59, .bool (cmp .lss (↑i) (↑(Y.tracks.length))))] (se (rq (rc 59 rfl (fun h6 => ?_) (fun h6 => ?_)))))
 ·
  have l8 := h6;have h6 := CH h6;refine AM (NX (rq (rb 3 (rqr (sp 1 [(60, vI (↑i))] (sd (di 61 1 (i) b2.addr) ?_))))));have e4 := b6 (i) (by omega);obtain ⟨d4, d5, n9, o2, e3, o0, o1, c8⟩ := id e4;rw [e3] at e4;refine sd (BD (dl 62 (CI b2 (i) (by omega))) e3) (sp 2 [(10, vS d4 (Y.tracks.getD (i) []).length d5), (9, vI (↑i))] (sn (sp 1 [(11, vN)] (se (rq (rqr (sp 3 [(65, vI (0)), (64, vI (↑((Y.tracks.getD (i) []).length))), (63, vS d4 (Y.tracks.getD (i) []).length d5)] (se (rb 4 ?_)))))))));refine rl (fun mz a w => ∃ J2 : Imm, ∃ j : Nat, ∃ c7 : Value, ∃ b4 : Seg, (J1.le J2) ∧ (j ≤ (Y.tracks.getD (i) []).length) ∧ (Own 9 1 EO c7 (((Y.tracks.getD (i) []).take j).map num) b4) ∧ Slots 95 [(11, c7), (65, vI ↑j), (1, vP b1 0), (2, sV (([] : List UInt8))), (3, vI (0)), (5, vS b9 (Y.cars.map AW ++ (BA Y).take i).length c0), (9, vI (↑i)), (56, vS a1 Y.tracks.length a2), (57, vI (↑(Y.tracks.length))), (58, vI (↑i)), (63, vS d4 (Y.tracks.getD (i) []).length d5), (64, vI (↑((Y.tracks.getD (i) []).length)))] a ∧ a.defers = [] ∧ St J2 ((bX b1 #[vS a3 Y.cars.length a4, vS a5 Y.room.length a6, vS a1 Y.tracks.length a2] 26) :: (a8 ++ (b4 ++ F))) w ∧ mz = (Y.tracks.getD (i) []).length - j) ?_ ?_
  ·intro a w hS hD hW;exact ⟨_, J1, 0, (vN), [], IR _, Nat.zero_le _, (Own.nil _ _ _), hS.sub (.cons 11 rfl (.cons 65 rfl (.cons 1 rfl (.cons 2 rfl (.cons 3 rfl (.cons 5 rfl (.cons 9 rfl (.cons 56 rfl (.cons 57 rfl (.cons 58 rfl (.cons 63 rfl (.cons 64 rfl (.nil _))))))))))))), hD, hW, rfl⟩
  rintro mz a w ⟨J2, j, c7, b4, hJ2, hj, c6, hS, hD, hW, rfl⟩
  refine BI hS hD hW ?_;clear hS hD hW a w;replace a7 := a7.mono hJ2;replace hT := hT.mono hJ2;replace c8 := c8.mono hJ2;obtain ⟨c4, c5, d3, k3⟩ := c6.shape; subst d3;refine rqr (sp 1 [(66, .bool (cmp .lss (↑j) (↑((Y.tracks.getD (i) []).length))))] (se (rq (rc 66 rfl (fun h7 => ?_) (fun h7 => ?_)))))
  ·
   have l9 := h7;have h7 := CH h7;refine AM (NX (rq (rb 5 (rqr (sd (di 67 1 (j) c8.addr) (sd (dl 68 (BQ c8 (j) (by omega))) (sp 1 [(13, vI ((Y.tracks.getD (i) []).getD (j) 0))] (se ?_))))))));have hTY := hT hz;have t7 := hTY.tracks _ (AK (d := []) (xs := Y.tracks) (k := i) (by omega)) _ (MH (xs := (Y.tracks.getD (i) [])) (k := j) (by omega));refine rr (sp 2 [(70, vI ((Y.tracks.getD (i) []).getD (j) 0)), (69, vS c4 (((Y.tracks.getD (i) []).take j).map num).length c5)] (sd (dc 71 (fun I' hI => (EC I' ((Y.tracks.getD (i) []).getD (j) 0) (by first | assumption | exact Tell.mono (by assumption) hI) :))) (sS (sbs 72 9 1 #[sV ((num ((Y.tracks.getD (i) []).getD (j) 0)))] (fun s6 => (sS (BJ (d := 73) (x := (.tmp 69)) (y := (.tmp 72)) (T := 87) (T' := 87) (E := 9) (E' := 9) (sz := 1) (bs := 16) (z := sV (([] : List UInt8))) (cell := EO) (xs := ((Y.tracks.getD (i) []).take j).map num) (ys := [((num ((Y.tracks.getD (i) []).getD (j) 0)) : List UInt8)]) (Ms := b4) (ty := 87) (gd := none) (by kernel_rfl) rfl (by kernel_rfl) (by kernel_rfl) (by kernel_rfl) (by kernel_rfl) (by kernel_rfl) (by decide) (by kernel_rfl) rfl rfl (c6) (PU (PU (PO _ _ _))) (FB _) (EN 0 rfl rfl) (by first | omega | (have s9 := h5 _ (AK (d := []) (xs := Y.tracks) (k := i) (by omega)); simp only [List.length_map, LK, LC, LN]; omega)) (fun u2 f4 i2 => (AJ (M' := ((bX b1 #[vS a3 Y.cars.length a4, vS a5 Y.room.length a6, vS a1 Y.tracks.length a2] 26) :: (f4 ++ (a8 ++ F)))) (fun w h => (h.perm (PW PM)).sub (TC _ (TR _))) ?_)))))))));obtain ⟨j5, k1, n3, p7⟩ := i2.shape;subst n3;refine sp 1 [(11, vS j5 ((((Y.tracks.getD (i) []).take j).map num) ++ ([((num ((Y.tracks.getD (i) []).getD (j) 0)) : List UInt8)])).length k1)] (ee (NB (NX (rr (sd (da 74 (↑j) (1)) (sp 1 [(65, vI (↑j + 1))] (ee ?_)))))));refine AL ((Y.tracks.getD (i) []).length - (j+1)) (by omega) ?_;intro a w hS hD hW;exact ⟨J2, j+1, vS j5 ((((Y.tracks.getD (i) []).take j).map num) ++ ([((num ((Y.tracks.getD (i) []).getD (j) 0)) : List UInt8)])).length k1, f4, hJ2, by omega, (by rw [CM (d := 0) (by omega), List.map_append]; exact i2), hS.sub (.consE 11 rfl rfl (.consE 65 rfl rfl (.cons 1 rfl (.cons 2 rfl (.cons 3 rfl (.cons 5 rfl (.cons 9 rfl (.cons 56 rfl (.cons 57 rfl (.cons 58 rfl (.cons 63 rfl (.cons 64 rfl (.nil _))))))))))))), hD, hW.perm (PC _ (PO _ _ _)), rfl⟩
  have l9 := h7;have h7 := CG h7;refine CO 4 ((EP (EP (EB (NX ?_)))));have hTY := hT hz;have o9 := hTY.room _ (MH (xs := Y.room) (k := i) (by omega));have t5 := o9.len;have t4 := nums_le (j := j) (hTY.len.tracks _ (AK (d := []) (xs := Y.tracks) (k := i) (by omega))) (h5 _ (AK (by omega)));refine rr (sp 2 [(76, vP b1 1), (75, vS b9 (Y.cars.map AW ++ (BA Y).take i).length c0)] (sd (dlb 77 0 1 b1 (vS a5 Y.room.length a6)) (sp 1 [(78, vI (↑i))] (sd (di 79 1 (i) a7.addr) (sd (dl 80 (BQ a7 (i) (by omega))) (sd (dc 81 (fun I' hI => (EC I' (Y.room.getD (i) 0) (by first | assumption | exact Tell.mono (by assumption) hI) :))) (sd (JZ (x := (.const (.string { data := #[116, 114, 97, 99, 107, 32] }))) (y := (.tmp 81)) (T := 9) (T' := 9) (d := 82) (ty := 9) (gd := none) (by kernel_rfl) rfl rfl rfl (by simp only [LA, LC, LN]; omega)) (sd (JZ (x := (.tmp 82)) (y := (.const (.string { data := #[58] }))) (T := 9) (T' := 9) (d := 83) (ty := 9) (gd := none) (by kernel_rfl) rfl rfl rfl (by simp only [LA, LC, LN]; omega)) (sp 1 [(84, vS c4 (((Y.tracks.getD (i) []).take j).map num).length c5)] ?_)))))))));have g1 := ct_own (I := J2) ([] : List UInt8) c6 (by simp only [LC, LN, LA, List.length_map, LK] <;> omega) (fun J hJ hs => LL J _ (((Y.tracks.getD (i) []).take j).map num) (([44] : List UInt8)) hs (by omega));refine sS (sc (some 85) (F := ((bX b1 #[vS a3 Y.cars.length a4, vS a5 Y.room.length a6, vS a1 Y.tracks.length a2] 26) :: (a8 ++ F))) (g1 :) (PU (PO _ _ _)) (fun r0 o7 q4 e2 m7 => ?_));obtain ⟨i9, g9⟩ := m7;rw [i9, g9]; clear i9 g9;replace hT := hT.mono e2;refine pm (M' := ((bX b1 #[vS a3 Y.cars.length a4, vS a5 Y.room.length a6, vS a1 Y.tracks.length a2] 26) :: (b4 ++ (a8 ++ F)))) PM ?_;show Seq _ _ _ _ _ _ ((85, sV (Lib.join (((Y.tracks.getD (i) []).take j).map num) (([44] : List UInt8)))) :: _) _ _;refine sd (JZ (x := (.tmp 83)) (y := (.tmp 85)) (T := 9) (T' := 9) (d := 86) (ty := 9) (gd := none) (by kernel_rfl) rfl rfl rfl (by simp only [LA, LC, LN]; omega)) (sS (sbs 87 9 1 #[sV ((((([116, 114, 97, 99, 107, 32] : List UInt8)) ++ ((num (Y.room.getD (i) 0)))) ++ (([58] : List UInt8))) ++ (Lib.join (((Y.tracks.getD (i) []).take j).map num) (([44] : List UInt8))))] (fun s7 => (sS (BJ (d := 88) (x := (.tmp 75)) (y := (.tmp 87)) (T := 87) (T' := 87) (E := 9) (E' := 9) (sz := 1) (bs := 16) (z := sV (([] : List UInt8))) (cell := EO) (xs := Y.cars.map AW ++ (BA Y).take i) (ys := [((((([116, 114, 97, 99, 107, 32] : List UInt8)) ++ ((num (Y.room.getD (i) 0)))) ++ (([58] : List UInt8))) ++ (Lib.join (((Y.tracks.getD (i) []).take j).map num) (([44] : List UInt8))) : List UInt8)]) (Ms := a8) (ty := 87) (gd := none) (by kernel_rfl) rfl (by kernel_rfl) (by kernel_rfl) (by kernel_rfl) (by kernel_rfl) (by kernel_rfl) (by decide) (by kernel_rfl) rfl rfl (d0) (PU (PU (PO _ _ _))) (FB _) (EN 0 rfl rfl) (by first | omega | (simp only [BA, List.length_zipWith, LA, List.length_map, LK, LC, LN]; omega)) (fun u3 f5 i3 => (AJ (M' := ((bX b1 #[vS a3 Y.cars.length a4, vS a5 Y.room.length a6, vS a1 Y.tracks.length a2] 26) :: (f5 ++ (b4 ++ F)))) (fun w h => (h.perm (PW PM)).sub (TC _ (TR _))) ?_)))))));obtain ⟨j6, k2, n4, p8⟩ := i3.shape;subst n4;refine sp 1 [(5, vS j6 ((Y.cars.map AW ++ (BA Y).take i) ++ ([((((([116, 114, 97, 99, 107, 32] : List UInt8)) ++ ((num (Y.room.getD (i) 0)))) ++ (([58] : List UInt8))) ++ (Lib.join (((Y.tracks.getD (i) []).take j).map num) (([44] : List UInt8))) : List UInt8)])).length k2)] (ee (NB (NX (rr (sd (da 89 (↑i) (1)) (sp 1 [(58, vI (↑i + 1))] (ee ?_)))))));refine AL (Y.tracks.length - (i+1)) (by omega) ?_;intro a w hS hD hW;exact ⟨o7, i+1, vS j6 ((Y.cars.map AW ++ (BA Y).take i) ++ ([((((([116, 114, 97, 99, 107, 32] : List UInt8)) ++ ((num (Y.room.getD (i) 0)))) ++ (([58] : List UInt8))) ++ (Lib.join (((Y.tracks.getD (i) []).take j).map num) (([44] : List UInt8))) : List UInt8)])).length k2, f5, (IT (IT hJ1 hJ2) e2), by omega, ((track_snoc (Y := Y) (i := i) (j := j) (Y.cars.map AW) (by omega) (by omega) (by omega)) ▸ i3), hS.sub (.consE 5 rfl rfl (.consE 58 rfl rfl (.cons 1 rfl (.cons 2 rfl (.cons 3 rfl (.cons 56 rfl (.cons 57 rfl (.nil _)))))))), hD, (hW.perm (PU (PO _ _ _))).sub (TT (TR _) (TB _ _)), rfl⟩
 have l8 := h6;have h6 := CG h6;refine CO 2 ((EP (EP (EB (NX (rqr (sp 1 [(90, vS b9 (Y.cars.map AW ++ (BA Y).take i).length c0)] (sS (sbs 91 9 1 #[sV (([112, 111, 105, 110, 116, 115] : List UInt8))] (fun s8 => (sS (BJ (d := 92) (x := (.tmp 90)) (y := (.tmp 91)) (T := 87) (T' := 87) (E := 9) (E' := 9) (sz := 1) (bs := 16) (z := sV (([] : List UInt8))) (cell := EO) (xs := Y.cars.map AW ++ (BA Y).take i) (ys := [(([112, 111, 105, 110, 116, 115] : List UInt8) : List UInt8)]) (Ms := a8) (ty := 87) (gd := none) (by kernel_rfl) rfl (by kernel_rfl) (by kernel_rfl) (by kernel_rfl) (by kernel_rfl) (by kernel_rfl) (by decide) (by kernel_rfl) rfl rfl (d0) (PU (PM.symm)) (FB _) (EN 0 rfl rfl) (by first | omega | (simp only [BA, List.length_zipWith, LA, List.length_map, LK, LC, LN]; omega)) (fun u4 f6 i4 => (AJ (M' := ((bX b1 #[vS a3 Y.cars.length a4, vS a5 Y.room.length a6, vS a1 Y.tracks.length a2] 26) :: (f6 ++ F))) (fun w h => (h.perm (PW PM)).sub (TC _ (TR _))) ?_))))))))))))));obtain ⟨p1, p2, n5, p9⟩ := i4.shape;subst n5;have hTY := hT hz;have e5 : (Y.cars.map AW ++ (BA Y).take i) ++ [[112, 111, 105, 110, 116, 115]] = IQ Y := by rw [track_done (by omega)]; rfl
 have t6 := hTY.len.text h5 (by omega) (by omega);have g2 := ct_own (I := J1) ([] : List UInt8) i4 (by simp only [LC, LN, LA, List.length_map, LK] <;> omega) (fun J hJ hs => LL J _ ((Y.cars.map AW ++ (BA Y).take i) ++ ([(([112, 111, 105, 110, 116, 115] : List UInt8) : List UInt8)])) (([10] : List UInt8)) hs (by rw [e5]; omega));refine sS (sc (some 93) (F := ((bX b1 #[vS a3 Y.cars.length a4, vS a5 Y.room.length a6, vS a1 Y.tracks.length a2] 26) :: F)) (g2 :) (PM.symm) (fun r1 s5 q5 g4 m8 => ?_));obtain ⟨j0, h0⟩ := m8;rw [j0, h0]; clear j0 h0;refine pm (M' := ((bX b1 #[vS a3 Y.cars.length a4, vS a5 Y.room.length a6, vS a1 Y.tracks.length a2] 26) :: (f6 ++ F))) PM ?_;show Seq _ _ _ _ _ _ ((93, sV (Lib.join ((Y.cars.map AW ++ (BA Y).take i) ++ ([(([112, 111, 105, 110, 116, 115] : List UInt8) : List UInt8)])) (([10] : List UInt8)))) :: _) _ _;refine sd (JZ (x := (.tmp 93)) (y := (.const (.string { data := #[10] }))) (T := 9) (T' := 9) (d := 94) (ty := 9) (gd := none) (by kernel_rfl) rfl rfl rfl (by rw [e5]; simp only [LC, LN]; omega)) (sp 2 [(3, vI (0)), (2, sV ((Lib.join ((Y.cars.map AW ++ (BA Y).take i) ++ ([(([112, 111, 105, 110, 116, 115] : List UInt8) : List UInt8)])) (([10] : List UInt8))) ++ (([10] : List UInt8))))] (se (BT ?_)));have hw := writeE_ok hz;refine BR (t := 2) (u := 3) [] (by kernel_rfl) rfl rfl (TC _ (TT (TR _) (TB _ _))) (IT (IT hJ0 hJ1) g4) ?_;exact ⟨(congrArg (fun p : List UInt8 × Int => Value.tuple #[sV p.1, vI p.2]) (show (Lib.join ((Y.cars.map AW ++ (BA Y).take i) ++ [[112, 111, 105, 110, 116, 115]]) [10] ++ [10], (0 : Int)) = JX Y from by rw [hw, e5]; rfl)), rfl⟩
end Go.Proofs.YtcaocbhbofejnaaGreatDoor
namespace Go.Sh
open Go Go.Sl
def yvD : Value × Value × Value := (undef, undef, undef)
def YardsV (I : Imm) (xs : List (Value × Value × Value)) (Ys : List Yard) : Prop := xs.length = Ys.length ∧ ∀ i, i < xs.length → IsYard I (.agg #[(xs.getD i yvD).1, (xs.getD i yvD).2.1, (xs.getD i yvD).2.2]) (Ys.getD i BF)
theorem YardsV.mono {I J : Imm} {xs : List (Value × Value × Value)} {Ys : List Yard} (h : YardsV I xs Ys) (le : I.le J) : YardsV J xs Ys := ⟨h.1, fun i hi => (h.2 i hi).mono le⟩
theorem YardsV.nil (I : Imm) : YardsV I [] [] := ⟨rfl, fun i hi => by simp at hi⟩
theorem YardsV.snoc {I : Imm} {xs : List (Value × Value × Value)} {Ys : List Yard} {a b c : Value} {Y : Yard} (h : YardsV I xs Ys) (hY : IsYard I (.agg #[a, b, c]) Y) : YardsV I (xs ++ [(a, b, c)]) (Ys ++ [Y]) := by
  refine ⟨by simp [h.1], fun i hi => ?_⟩;rw [List.length_append, List.length_singleton] at hi;have hl := h.1
  by_cases hb : i < xs.length
  · have e1 : (xs ++ [(a, b, c)]).getD i yvD = xs.getD i yvD := by simp [List.getD, List.getElem?_append_left hb]
    have e2 : (Ys ++ [Y]).getD i BF = Ys.getD i BF := by simp [List.getD, List.getElem?_append_left (show i < Ys.length by omega)]
    rw [e1, e2]; exact h.2 i hb
  · obtain rfl : i = xs.length := by omega
    have e1 : (xs ++ [(a, b, c)]).getD xs.length yvD = (a, b, c) := by simp [List.getD]
    have e2 : (Ys ++ [Y]).getD xs.length BF = Y := by simp [List.getD, hl]
    rw [e1, e2]; exact hY
theorem YardsV.at {I : Imm} {xs : List (Value × Value × Value)} {Ys : List Yard} (h : YardsV I xs Ys) {i : Nat} (hi : i < xs.length) :
    ∃ a b c, xs.getD i yvD = (a, b, c) ∧ DK I a (Ys.getD i BF).cars ∧ BC I b (Ys.getD i BF).room ∧ IsRows I c (Ys.getD i BF).tracks := by
  obtain ⟨v1, v2, v3, h1, h2, h3, h4⟩ := h.2 i hi;simp only [Value.agg.injEq] at h1;have e := congrArg Array.toList h1;simp only [List.cons.injEq, and_true] at e;refine ⟨v1, v2, v3, ?_, h2, h3, h4⟩;rw [← e.1, ← e.2.1, ← e.2.2]
def RowsS (I : Imm) (vs : List Value) (Ls : List (List Shift)) : Prop := vs.length = Ls.length ∧ ∀ i, i < Ls.length → JE I (vs.getD i undef) (Ls.getD i [])
theorem RowsS.mono {I J : Imm} {vs : List Value} {Ls : List (List Shift)} (h : RowsS I vs Ls) (le : I.le J) : RowsS J vs Ls := ⟨h.1, fun i hi => (h.2 i hi).mono le⟩
theorem RowsS.nil (I : Imm) : RowsS I [] [] := ⟨rfl, fun i hi => by simp at hi⟩
theorem RowsS.snoc {I : Imm} {vs : List Value} {Ls : List (List Shift)} {v : Value} {l : List Shift} (h : RowsS I vs Ls) (hv : JE I v l) : RowsS I (vs ++ [v]) (Ls ++ [l]) := by
  have hl := h.1;refine ⟨by simp [hl], fun i hi => ?_⟩;rw [List.length_append, List.length_singleton] at hi
  by_cases hb : i < Ls.length
  · have e1 : (vs ++ [v]).getD i undef = vs.getD i undef := by simp [List.getD, List.getElem?_append_left (show i < vs.length by omega)]
    have e2 : (Ls ++ [l]).getD i [] = Ls.getD i [] := by simp [List.getD, List.getElem?_append_left hb]
    rw [e1, e2]; exact h.2 i hb
  · obtain rfl : i = Ls.length := by omega
    have e1 : (vs ++ [v]).getD Ls.length undef = v := by simp [List.getD, ← hl]
    have e2 : (Ls ++ [l]).getD Ls.length [] = l := by simp [List.getD]
    rw [e1, e2]; exact hv
end Go.Sh
namespace Go.Sl
open Go
end Go.Sl
namespace Go.Sh
open Go Go.Sl
end Go.Sh
namespace Go.Sl
open Go
section
variable {P : Program} {N : Nat} {ops : Array Oper} {i d : Nat} {l : Sl} {I : Imm} {R : Seg} {ty : TypeId} {gd : Option (Nat × Bool)}
end
end Go.Sl
namespace Go.Sh
open Go Go.Sl
end Go.Sh
namespace Go.Proofs.YtcaocbhbofejnaaGreatDoor
open Go Go.Sl Go.Sh
set_option maxRecDepth 100000
end Go.Proofs.YtcaocbhbofejnaaGreatDoor
namespace Go.Sh
open Go Go.Sl
def FJ (Y : Yard) : List Int × Int := if checkErr Y = 0 then (Y.tracks.map (lenOf Y.cars), 0) else ([], checkErr Y)
theorem MJ {Y : Yard} (h : checkErr Y ≠ 0) : FJ Y = ([], checkErr Y) := if_neg h
theorem lengthsE_ok {Y : Yard} (h : Valid Y) : FJ Y = (Y.tracks.map (lenOf Y.cars), 0) := if_pos h
theorem lens_succ {Y : Yard} {k : Nat} (hk : k < Y.tracks.length) : (Y.tracks.take k).map (lenOf Y.cars) ++ [lenOf Y.cars (Y.tracks.getD k [])] = (Y.tracks.take (k + 1)).map (lenOf Y.cars) := by
  rw [CM (d := []) hk, List.map_append]; rfl
end Go.Sh
namespace Go.Proofs.YtcaocbhbofejnaaGreatDoor
open Go Go.Sl Go.Sh
set_option maxRecDepth 100000
noncomputable def c_Lengths (p : List Nat) : Code := sub (AV Tryz.f61) p
theorem Lengths_ct (I : Imm) (y : Value) (Y : Yard) (y_f : IsYard I y Y) : Ct Tryz.prog 61 #[y] I ([]) (fun v I' M' => ∃ u0 : Value, ∃ Ms0 : Seg, v = .tuple #[u0, vI ((FJ Y).2)] ∧ M' = Ms0 ∧ Own 3 1 AX u0 ((FJ Y).1) Ms0) := by
 obtain ⟨y1, y2, y3, f6, b6, c0, c1⟩ := id y_f;subst f6;obtain ⟨a3, a4, e2, e5, c6, e3, e4, e6⟩ := id b6;subst c6;obtain ⟨a7, a8, e7, f0, c7, e8, e9, f1⟩ := id c0;subst c7;obtain ⟨a1, a2, f2, f5, d5, c8, f3, f4, c2, c9⟩ := id c1;subst c8;refine fr (args := [_]) (N := 31) Tryz.func61 (fun F => ?_);show Run _ _ (c_Lengths []) _ _ [(0, .agg #[vS a3 Y.cars.length a4, vS a7 Y.room.length a8, vS a1 Y.tracks.length a2])] _ _;refine rnm (rqr ?_);refine sS (sb 1 26 #[vS a3 Y.cars.length a4, vS a7 Y.room.length a8, vS a1 Y.tracks.length a2] (fun b1 => (sp 2 [(3, vI (0)), (2, vN)] (se (rq (rqr (sd (dnb 9 0 0 b1 [vS a3 Y.cars.length a4, vS a7 Y.room.length a8, vS a1 Y.tracks.length a2]) (sd (dc 10 (fun I' hI => (ED I' _ (Y) ((BH b6 c0 c1).mono hI) :))) (sp 1 [(4, vI ((checkErr Y)))] (sn (sp 2 [(12, .bool (!(cmp .eql ((checkErr Y)) (0))))] (se (rc 12 rfl (fun h1 => ?_) (fun h1 => ?_))))))))))))))
 ·
  have c4 := h1;have h1 := EK (DA h1);refine rqr (sp 3 [(3, vI ((checkErr Y))), (2, vN)] (se (BT ((RP (BR (t := 2) (u := 3) ([]) (by kernel_rfl) rfl rfl (TC _ (TR _)) (IR _) ?_))))));exact ⟨_, _, (congrArg (fun n => Value.tuple #[_, vI n]) (show checkErr Y = _ from (congrArg Prod.snd (MJ h1)).symm)), rfl, ((show [] = _ from (congrArg Prod.fst (MJ h1)).symm) ▸ Own.nil _ _ _)⟩
 have c4 := h1;have h1 := EQ (CX h1);refine AM (NX (rqr ?_));have hv : Valid Y := by (show checkErr Y = 0; omega)
 have d1 := hv.fine; have b3 := hv.good; have f7 := d1.len; have f8 := d1.room3;refine sp 1 [(5, vN)] (sn (sp 1 [(6, .func (.func 113) #[] #[])] (se (rq (rqr (sp 1 [(14, vP b1 2)] (sd (dlb 15 0 2 b1 (vS a1 Y.tracks.length a2)) (sp 2 [(17, vI (0)), (16, vI (↑(Y.tracks.length)))] (se (rb 0 ?_))))))))));refine rl (fun mz a w => ∃ k : Nat, ∃ b0 : Value, ∃ a0 : Seg, (k ≤ Y.tracks.length) ∧ (Own 3 1 AX b0 ((Y.tracks.take k).map (lenOf Y.cars)) a0) ∧ Slots 31 [(5, b0), (17, vI ↑k), (1, vP b1 0), (2, vN), (3, vI (0)), (6, .func (.func 113) #[] #[]), (15, vS a1 Y.tracks.length a2), (16, vI (↑(Y.tracks.length)))] a ∧ a.defers = [] ∧ St I ((bX b1 #[vS a3 Y.cars.length a4, vS a7 Y.room.length a8, vS a1 Y.tracks.length a2] 26) :: (a0 ++ F)) w ∧ mz = Y.tracks.length - k) ?_ ?_
 ·intro a w hS hD hW;exact ⟨_, 0, (vN), [], Nat.zero_le _, (Own.nil _ _ _), hS.sub (.cons 5 rfl (.cons 17 rfl (.cons 1 rfl (.cons 2 rfl (.cons 3 rfl (.cons 6 rfl (.cons 15 rfl (.cons 16 rfl (.nil _))))))))), hD, hW, rfl⟩
 rintro mz a w ⟨k, b0, a0, hk, a9, hS, hD, hW, rfl⟩
 refine BI hS hD hW ?_;clear hS hD hW a w;obtain ⟨a5, a6, b2, c3⟩ := a9.shape; subst b2;refine rqr (sp 1 [(18, .bool (cmp .lss (↑k) (↑(Y.tracks.length))))] (se (rq (rc 18 rfl (fun h2 => ?_) (fun h2 => ?_)))))
 ·
  have c5 := h2;have h2 := CH h2;refine AM (NX (rq (rb 1 (rqr (sd (di 19 1 (k) c2.addr) ?_)))));have b5 := c9 (k) (by omega);obtain ⟨b7, b8, d7, e0, b9, d8, d9, e1⟩ := id b5;rw [b9] at b5;refine sd (BD (dl 20 (CI c2 (k) (by omega))) b9) (sp 1 [(8, vS b7 (Y.tracks.getD (k) []).length b8)] (se (rr (sp 4 [(24, vP b1 0), (23, vS b7 (Y.tracks.getD (k) []).length b8), (22, .func (.func 113) #[] #[]), (21, vS a5 ((Y.tracks.take k).map (lenOf Y.cars)).length a6)] (sd (dlb 25 0 0 b1 (vS a3 Y.cars.length a4)) (sd (dc 26 (fun I' hI => (LU I' _ _ _ _ (b5.mono hI) (b6.mono hI) (by exact b3.ok _ (AK (by omega))) (by exact b3.small) :))) (sS (sbs 27 3 1 #[vI ((lenOf Y.cars (Y.tracks.getD (k) [])))] (fun b4 => (sS (BJ (d := 28) (x := (.tmp 21)) (y := (.tmp 27)) (T := 23) (T' := 23) (E := 3) (E' := 3) (sz := 1) (bs := 8) (z := vI (0)) (cell := AX) (xs := (Y.tracks.take k).map (lenOf Y.cars)) (ys := [((lenOf Y.cars (Y.tracks.getD (k) [])) : Int)]) (Ms := a0) (ty := 23) (gd := none) (by kernel_rfl) rfl (by kernel_rfl) (by kernel_rfl) (by kernel_rfl) (by kernel_rfl) (by kernel_rfl) (by decide) (by kernel_rfl) rfl rfl (a9) (PU (PM.symm)) (EL _) (EN 0 rfl rfl) (by first | omega | (simp only [List.length_map, LK, LC, LN]; omega)) (fun v6 d0 d2 => (AJ (M' := ((bX b1 #[vS a3 Y.cars.length a4, vS a7 Y.room.length a8, vS a1 Y.tracks.length a2] 26) :: (d0 ++ F))) (fun w h => (h.perm (PW PM)).sub (TC _ (TR _))) ?_)))))))))))));obtain ⟨d3, d4, d6, f9⟩ := d2.shape;subst d6;refine sp 1 [(5, vS d3 (((Y.tracks.take k).map (lenOf Y.cars)) ++ ([((lenOf Y.cars (Y.tracks.getD (k) [])) : Int)])).length d4)] (ee (NB (NX (rr (sd (da 29 (↑k) (1)) (sp 1 [(17, vI (↑k + 1))] (ee ?_)))))));refine AL (Y.tracks.length - (k+1)) (by omega) ?_;intro a w hS hD hW;exact ⟨k+1, vS d3 (((Y.tracks.take k).map (lenOf Y.cars)) ++ ([((lenOf Y.cars (Y.tracks.getD (k) [])) : Int)])).length d4, d0, by omega, (by rw [← lens_succ (by omega)]; exact d2), hS.sub (.consE 5 rfl rfl (.consE 17 rfl rfl (.cons 1 rfl (.cons 2 rfl (.cons 3 rfl (.cons 6 rfl (.cons 15 rfl (.cons 16 rfl (.nil _))))))))), hD, hW, rfl⟩
 have c5 := h2;have h2 := CG h2;refine CO 0 ((EP (EP (EB (NX (rqr (sp 3 [(3, vI (0)), (2, vS a5 ((Y.tracks.take k).map (lenOf Y.cars)).length a6)] (se (BT (ppm (M' := ((a0 ++ (bX b1 #[vS a3 Y.cars.length a4, vS a7 Y.room.length a8, vS a1 Y.tracks.length a2] 26) :: F))) (PM.symm) (BR (t := 2) (u := 3) (a0) (by kernel_rfl) rfl rfl (TA (TC _ (TR _)) _) (IR _) ?_)))))))))));exact ⟨_, _, (congrArg (fun n => Value.tuple #[_, vI n]) (show 0 = _ from (congrArg Prod.snd (lengthsE_ok hv)).symm)), rfl, ((show (Y.tracks.take k).map (lenOf Y.cars) = (FJ Y).1 from by rw [lengthsE_ok hv, DY (by omega)]) ▸ a9)⟩
noncomputable def c_Reverse (p : List Nat) : Code := sub (AV Tryz.f109) p
theorem Reverse_ct (I : Imm) (s : Value) (xs : List Shift) (s_Ms : Seg) (s_h : Own 52 3 shiftCell s xs s_Ms) (hl : xs.length ≤ 1000000) : Ct Tryz.prog 109 #[s] I (s_Ms) (fun v I' M' => ∃ s_Mt : Seg, v = .tuple #[] ∧ M' = s_Mt ∧ Own 52 3 shiftCell s (xs.reverse) s_Mt) := by
 obtain ⟨a4, a5, b4, c0⟩ := s_h.shape; subst b4;refine fr (args := [_]) (N := 28) Tryz.func109 (fun F => ?_);show Run _ _ (c_Reverse []) _ _ [(0, vS a4 xs.length a5)] _ _;refine rnm (rqr ?_);refine sp 2 [(5, vI (↑(xs.length)))] (sd (dsb 6 (↑(xs.length)) (1)) (sp 2 [(3, vI ((↑(xs.length)) - 1)), (2, vI (0))] (BN 3 rfl (show (vI ((↑(xs.length)) - 1) : Value) = vI (↑xs.length - 1 - (↑(0 : Nat))) from congrArg (Value.int .i64) (by omega)) (se (rb 0 ?_)))));refine rl (fun mz a w => ∃ k : Nat, ∃ zs : List Shift, ∃ a0 : Seg, (k ≤ xs.length) ∧ (Rev noShift xs zs k) ∧ (Own 52 3 shiftCell (vS a4 xs.length a5) (zs) a0) ∧ Slots 28 [(0, (vS a4 xs.length a5)), (2, vI ↑k), (3, vI (↑xs.length - 1 - ↑k))] a ∧ a.defers = [] ∧ St I ((a0 ++ F)) w ∧ mz = xs.length - k) ?_ ?_
 ·intro a w hS hD hW;exact ⟨_, 0, xs, s_Ms, Nat.zero_le _, Rev.start _ _, s_h, hS.sub (.cons 0 rfl (.cons 2 rfl (.cons 3 rfl (.nil _)))), hD, hW, rfl⟩
 rintro mz a w ⟨k, zs, a0, hk, a2, a1, hS, hD, hW, rfl⟩
 refine BI hS hD hW ?_;clear hS hD hW a w;have b5 := a2.1;refine rq (rqr (sp 3 [(9, .bool (cmp .lss (↑k) (↑xs.length - 1 - ↑k)))] (se (rc 9 rfl (fun h1 => ?_) (fun h1 => ?_)))))
 ·
  have b0 := h1;have h1 := CH h1;refine AM (NX (rq (rb 1 ?_)));refine rdX (M := ((a0 ++ []))) (F0 := F) [] 14 [(0, true), (1, true), (2, true), (3, true), (4, true), (5, true), (6, true), (7, true), (8, true), (9, true), (10, true), (11, true), (12, true), (13, false)] (by simp only [AA, CA, NA, List.append_nil]; exact PR _) hA_nil ?_;refine CF (EJ (d := 14) (v := vS a4 xs.length a5) (by kernel_rfl)) ?_;refine CF (EJ (d := 15) (v := vI (↑k)) (by kernel_rfl)) ?_;refine GA (EJ (d := 16) (v := vS a4 xs.length a5) (by kernel_rfl)) ?_;refine GA (EJ (d := 17) (v := vI (↑xs.length - 1 - ↑k)) (by kernel_rfl)) ?_;refine CF (EJ (d := 18) (v := vS a4 xs.length a5) (by kernel_rfl)) ?_;refine CF (EJ (d := 19) (v := vI (↑xs.length - 1 - ↑k)) (by kernel_rfl)) ?_;obtain ⟨b6, a6⟩ := a1.row noShift;refine CF (diI 20 3 (↑xs.length - 1 - ↑k) (fun _ => a6.addr (by omega)) (n := xs.length)) ?_;refine CF (dn 21 (MM a6 (fun x hx => by simp [hx]) ((↑xs.length - 1 - ↑k : Int).toNat) (by omega))) ?_;refine CF (EJ (d := 22) (v := vS a4 xs.length a5) (by kernel_rfl)) ?_;refine CF (EJ (d := 23) (v := vI (↑k)) (by kernel_rfl)) ?_;obtain ⟨b7, a7⟩ := a1.row noShift;refine CF (di 24 3 (k) (fun _ => a7.addr (by omega)) (n := xs.length)) ?_;refine CF (dn 25 (MM a7 (fun x hx => by simp [hx]) (k) (by omega))) ?_;obtain ⟨b8, a8⟩ := a1.row noShift;refine CF (di 26 3 (k) (fun _ => a8.addr (by omega)) (n := xs.length)) ?_;refine KE (Mx := fun FX => ((a0 ++ FX))) rfl (fun FX => by simp only [AA, CA, NA, List.append_nil]; exact PR _) (fun FX => ?_);refine id (LB (T := 52) (x := (.tmp 26)) (y := (.tmp 21)) (rc := fun i f => shiftCell ((zs).getD i noShift) f) noShift (k) (zs.getD ((↑xs.length - 1 - ↑k : Int).toNat) noShift) (ty := 0) (gd := none) (by kernel_rfl) rfl a1 a8 (by omega) rfl rfl (by kernel_rfl) rfl (one1_shift _) (PR _) (fun b2 b3 => ?_));refine ofx_nx (M1 := ((b2 ++ []))) (by simp only [AA, CA, NA, List.append_nil]; exact (PR _)) (.wait (by kernel_rfl) (.wait (by kernel_rfl) (.wait (by kernel_rfl) (.wait (by kernel_rfl) (.wait (by kernel_rfl) (.wait (by kernel_rfl) (.wait (by kernel_rfl) (.wait (by kernel_rfl) (.wait (by kernel_rfl) (.none (.none (.wait (by kernel_rfl) (.wait (by kernel_rfl) .nil))))))))))))) ?_;refine ofx_end (AJ (M' := ((b2 ++ F))) (fun w h => by simpa only [AA, CA, NA, List.append_nil] using h) (nm ?_));obtain ⟨b9, a3⟩ := b3.row noShift;simp only [LS] at a3;refine sd (diI 27 3 (↑xs.length - 1 - ↑k) (fun _ => a3.addr (by omega)) (n := xs.length)) (sS (LB (T := 52) (x := (.tmp 27)) (y := (.tmp 25)) (rc := fun i f => shiftCell ((zs.set (k) (zs.getD ((↑xs.length - 1 - ↑k : Int).toNat) noShift)).getD i noShift) f) noShift ((↑xs.length - 1 - ↑k : Int).toNat) (zs.getD (k) noShift) (ty := 0) (gd := none) (by kernel_rfl) rfl b3 (by simpa only [LS] using a3) (by simp only [LS]; omega) rfl rfl (by kernel_rfl) rfl (one1_shift _) (PR _) (fun a9 b1 => (nm (ee (NB (NX (rr ?_))))))));refine sp 1 [(10, vI (↑k))] (sd (da 11 (↑k) (1)) (sp 1 [(12, vI (↑xs.length - 1 - ↑k))] (sd (dsb 13 (↑xs.length - 1 - ↑k) (1)) (sp 2 [(3, vI ((↑xs.length - 1 - ↑k) - 1)), (2, vI (↑k + 1))] (ee ?_)))));refine AL (xs.length - (k+1)) (by omega) ?_;intro a w hS hD hW;exact ⟨k+1, (zs.set (k) (zs.getD ((↑xs.length - 1 - ↑k : Int).toNat) noShift)).set ((↑xs.length - 1 - ↑k : Int).toNat) (zs.getD (k) noShift), a9, by omega, a2.step (by omega) (by omega), b1, hS.sub (.consE 0 rfl rfl (.consE 2 rfl rfl (.consE 3 rfl (congrArg (Value.int .i64) (by omega)) (.nil _)))), hD, hW, rfl⟩
 have b0 := h1;have h1 := CG h1;refine CO 0 ((EP (EP (EB ?_))));refine JM (a0) (by kernel_rfl) (TA (TR _) _) (IR _) ?_;exact ⟨_, rfl, rfl, ((a2.done (by omega)) ▸ a1)⟩
noncomputable def c_Back (p : List Nat) : Code := sub (AV Tryz.f55) p
theorem Back_ct (I : Imm) (y : Value) (Y : Yard) (a : Value) (l : List Shift) (y_f : IsYard I y Y) (a_f : JE I a l) (hG : Glob I) (hll : l.length ≤ 1000) : Ct Tryz.prog 55 #[y, a] I ([]) (fun v I' M' => ∃ u0 : Value, ∃ Ms0 : Seg, v = .tuple #[u0, vI ((MR Y l).2)] ∧ M' = Ms0 ∧ Own 52 3 shiftCell u0 ((MR Y l).1) Ms0) := by
 obtain ⟨y1, y2, y3, l1, e2, e3, e4⟩ := id y_f;subst l1;obtain ⟨a8, a9, j5, j8, h3, j6, j7, j9⟩ := id e2;subst h3;obtain ⟨b0, b2, k0, k3, h4, k1, k2, k4⟩ := id e3;subst h4;obtain ⟨b3, b4, k5, k8, i0, h5, k6, k7, k9, l0⟩ := id e4;subst h5;obtain ⟨e5, e6, l3, l6, i2, l4, l5, c7⟩ := id a_f;subst i2;refine fr (args := [_, _]) (N := 35) Tryz.func55 (fun F => ?_);show Run _ _ (c_Back []) _ _ [(0, .agg #[vS a8 Y.cars.length a9, vS b0 Y.room.length b2, vS b3 Y.tracks.length b4]), (1, vS e5 l.length e6)] _ _;refine rnm (rqr ?_);refine sS (sb 2 26 #[vS a8 Y.cars.length a9, vS b0 Y.room.length b2, vS b3 Y.tracks.length b4] (fun b1 => (sp 2 [(5, vI (0)), (4, vN)] (se (rq (rqr (sd (dnb 12 0 0 b1 [vS a8 Y.cars.length a9, vS b0 Y.room.length b2, vS b3 Y.tracks.length b4]) (sp 1 [(13, vS e5 l.length e6)] (sS (sc (some 14) (Play_ct _ _ (Y) _ _ (BH e2 e3 e4) a_f (by first | exact hG | exact hG.mono hI) :) (.refl _) (fun i9 I3 i6 c0 i3 => ?_)))))))))));obtain ⟨l9, h9, h8, i5⟩ := i3;rw [h9, h8]; clear h9 h8;replace c7 := c7.mono c0;have e1 := i5;obtain ⟨j2, j3, j4, e0, c2, c4, c6⟩ := id e1;subst e0;obtain ⟨a0, a1, f5, f8, c1, f6, f7, f9⟩ := id c2;subst c1;obtain ⟨a2, a3, g0, g3, c3, g1, g2, g4⟩ := id c4;subst c3;obtain ⟨a4, a5, g5, g8, e8, c5, g6, g7, g9, h0⟩ := id c6;subst c5;refine nm ?_;refine sp 3 [(16, vI (((AE Y l).2))), (15, .agg #[vS a0 (((AE Y l).1).cars).length a1, vS a2 (((AE Y l).1).room).length a3, vS a4 (((AE Y l).1).tracks).length a5])] (sS (sal 6 26 #[vN, vN, vN] (fun c8 => (sS (ss 0 0 c8 [vS a0 (((AE Y l).1).cars).length a1, vS a2 (((AE Y l).1).room).length a3, vS a4 (((AE Y l).1).tracks).length a5] [vS a0 (((AE Y l).1).cars).length a1, vS a2 (((AE Y l).1).room).length a3, vS a4 (((AE Y l).1).tracks).length a5] (_ :: _ :: _) (cs := [_, _, _]) rfl rfl (sp 1 [(7, vI (((AE Y l).2)))] (sn (sp 2 [(18, .bool (!(cmp .eql (((AE Y l).2)) (0))))] (se (rc 18 rfl (fun h1 => ?_) (fun h1 => ?_)))))))))))
 ·
  have f0 := h1;have h1 := EK (DA h1);refine rqr (sp 3 [(5, vI (((AE Y l).2))), (4, vN)] (se (BT ((RP (BR (t := 4) (u := 5) ([]) (by kernel_rfl) rfl rfl (TC _ (TC _ (TR _))) c0 ?_))))));exact ⟨_, _, (congrArg (fun n => Value.tuple #[_, vI n]) (show (AE Y l).2 = _ from (congrArg Prod.snd (if_neg h1 : MR Y l = _)).symm)), rfl, ((show [] = _ from (congrArg Prod.fst (if_neg h1 : MR Y l = _)).symm) ▸ Own.nil _ _ _)⟩
 have f0 := h1;have h1 := EQ (CX h1);refine AM (NX (rqr (sp 1 [(8, vN)] (se (rq (rqr (sp 3 [(22, vI (0)), (21, vI (↑(l.length))), (20, vS e5 l.length e6)] (se (rb 0 ?_)))))))));refine rl (fun mz a w => ∃ J0 : Imm, ∃ k : Nat, ∃ b8 : Value, ∃ b6 : Seg, (I3.le J0) ∧ (k ≤ l.length) ∧ (Own 52 3 shiftCell b8 ((l.take k).map AQ) b6) ∧ Slots 35 [(8, b8), (22, vI ↑k), (4, vN), (5, vI (0)), (20, vS e5 l.length e6), (21, vI (↑(l.length)))] a ∧ a.defers = [] ∧ St J0 ((bX c8 #[vS a0 (((AE Y l).1).cars).length a1, vS a2 (((AE Y l).1).room).length a3, vS a4 (((AE Y l).1).tracks).length a5] 26) :: (bX b1 #[vS a8 Y.cars.length a9, vS b0 Y.room.length b2, vS b3 Y.tracks.length b4] 26) :: (b6 ++ F)) w ∧ mz = l.length - k) ?_ ?_
 ·intro a w hS hD hW;exact ⟨_, I3, 0, (vN), [], IR _, Nat.zero_le _, (Own.nil _ _ _), hS.sub (.cons 8 rfl (.cons 22 rfl (.cons 4 rfl (.cons 5 rfl (.cons 20 rfl (.cons 21 rfl (.nil _))))))), hD, hW, rfl⟩
 rintro mz a w ⟨J0, k, b8, b6, hJ0, hk, b7, hS, hD, hW, rfl⟩
 refine BI hS hD hW ?_;clear hS hD hW a w;replace c7 := c7.mono hJ0;obtain ⟨a6, a7, b9, e7⟩ := b7.shape; subst b9;refine rqr (sp 1 [(23, .bool (cmp .lss (↑k) (↑(l.length))))] (se (rq (rc 23 rfl (fun h2 => ?_) (fun h2 => ?_)))))
 ·
  have f1 := h2;have h2 := CH h2;refine AM (NX (rq (rb 1 (rqr (sd (di 24 3 (k) c7.addr) (sd (DV (x := (.tmp 24)) (T := 52) (n := 3) (vs := [vI ((l.getD (k) noShift).frm), vI ((l.getD (k) noShift).to), vI ((l.getD (k) noShift).many)]) (d := 25) (ty := 52) (gd := none) (by kernel_rfl) rfl (by kernel_rfl) (by kernel_rfl) rfl rfl (HB c7 (k) (by omega))) (sS (sal 10 52 #[vI (0), vI (0), vI (0)] (fun e9 => (sS (ss 0 0 e9 [vI ((l.getD (k) noShift).frm), vI ((l.getD (k) noShift).to), vI ((l.getD (k) noShift).many)] [vI ((l.getD (k) noShift).frm), vI ((l.getD (k) noShift).to), vI ((l.getD (k) noShift).many)] (_ :: _ :: _ :: _) (cs := [_, _, _]) rfl rfl (se (rr (sp 1 [(26, vS a6 ((l.take k).map AQ).length a7)] (sd (dnb 27 0 0 e9 [vI ((l.getD (k) noShift).frm), vI ((l.getD (k) noShift).to), vI ((l.getD (k) noShift).many)]) (sS (sc (some 28) (back_ct _ (l.getD (k) noShift) :) (.refl _) (fun j0 i1 i7 d0 f2 => ?_))))))))))))))))));obtain ⟨d5, d2⟩ := f2;rw [d5, d2]; clear d5 d2;refine nm ?_;refine sS (sbs 29 52 1 #[vI ((AQ (l.getD (k) noShift)).frm), vI ((AQ (l.getD (k) noShift)).to), vI ((AQ (l.getD (k) noShift)).many)] (fun l7 => (sS (BJ (d := 30) (x := (.tmp 26)) (y := (.tmp 29)) (T := 45) (T' := 45) (E := 52) (E' := 52) (sz := 3) (bs := 24) (z := .agg #[vI (0), vI (0), vI (0)]) (cell := shiftCell) (xs := (l.take k).map AQ) (ys := [AQ (l.getD (k) noShift)]) (Ms := b6) (ty := 45) (gd := none) (by kernel_rfl) rfl (by kernel_rfl) (by kernel_rfl) (by kernel_rfl) (by kernel_rfl) (by kernel_rfl) (by decide) (by kernel_rfl) rfl rfl (b7) (PU (PU (PU (PM.symm)))) (IA _) (EN 0 rfl rfl) (by first | omega | (simp only [LC, LN, LA, List.length_map, LK]; omega)) (fun m0 c9 d4 => (AJ (M' := ((bX e9 #[vI ((l.getD (k) noShift).frm), vI ((l.getD (k) noShift).to), vI ((l.getD (k) noShift).many)] 52) :: (bX c8 #[vS a0 (((AE Y l).1).cars).length a1, vS a2 (((AE Y l).1).room).length a3, vS a4 (((AE Y l).1).tracks).length a5] 26) :: (bX b1 #[vS a8 Y.cars.length a9, vS b0 Y.room.length b2, vS b3 Y.tracks.length b4] 26) :: (c9 ++ F))) (fun w h => (h.perm (PW (PW (PW PM)))).sub (TC _ (TR _))) ?_))))));obtain ⟨d7, d8, f4, i4⟩ := d4.shape;subst f4;refine sp 1 [(8, vS d7 (((l.take k).map AQ) ++ ([AQ (l.getD (k) noShift)])).length d8)] (ee (NB (NX (rr (sd (da 31 (↑k) (1)) (sp 1 [(22, vI (↑k + 1))] (ee ?_)))))));refine AL (l.length - (k+1)) (by omega) ?_;intro a w hS hD hW;exact ⟨i1, k+1, vS d7 (((l.take k).map AQ) ++ ([AQ (l.getD (k) noShift)])).length d8, c9, (IT hJ0 d0), by omega, (by rw [CM (d := noShift) (xs := l) (k := k) (by omega), List.map_append]; exact d4), hS.sub (.consE 8 rfl rfl (.consE 22 rfl rfl (.cons 4 rfl (.cons 5 rfl (.cons 20 rfl (.cons 21 rfl (.nil _))))))), hD, (hW.perm (PR _)).sub (TC _ (TR _)), rfl⟩
 have f1 := h2;have h2 := CG h2;refine CO 0 ((EP (EP (EB (NX (rqr ?_))))));have h7 : l.take k = l := DY (by omega);have l8 : ((l.take k).map AQ).length ≤ 1000 := by (rw [List.length_map, h7]; exact hll)
 refine sp 1 [(32, vS a6 ((l.take k).map AQ).length a7)] ?_
 skip
 refine sS (sc (some 33) (F := ((bX c8 #[vS a0 (((AE Y l).1).cars).length a1, vS a2 (((AE Y l).1).room).length a3, vS a4 (((AE Y l).1).tracks).length a5] 26) :: (bX b1 #[vS a8 Y.cars.length a9, vS b0 Y.room.length b2, vS b3 Y.tracks.length b4] 26) :: F)) (Reverse_ct _ _ _ _ b7 (by omega) :) (PU (PM.symm)) (fun j1 l2 i8 d1 f3 => ?_));obtain ⟨b5, d6, d3, d9⟩ := f3;rw [d6, d3]; clear d6 d3;refine pm (M' := ((bX c8 #[vS a0 (((AE Y l).1).cars).length a1, vS a2 (((AE Y l).1).room).length a3, vS a4 (((AE Y l).1).tracks).length a5] 26) :: (bX b1 #[vS a8 Y.cars.length a9, vS b0 Y.room.length b2, vS b3 Y.tracks.length b4] 26) :: (b5 ++ F))) (PW PM) (sn (sp 3 [(5, vI (0)), (4, vS a6 ((l.take k).map AQ).length a7)] (se (BT ?_))));have h6 : MR Y l = ((l.map AQ).reverse, 0) := if_pos (by omega);refine ppm (M' := ((b5 ++ (bX c8 #[vS a0 (((AE Y l).1).cars).length a1, vS a2 (((AE Y l).1).room).length a3, vS a4 (((AE Y l).1).tracks).length a5] 26) :: (bX b1 #[vS a8 Y.cars.length a9, vS b0 Y.room.length b2, vS b3 Y.tracks.length b4] 26) :: F))) (PU (PM.symm)) (BR (t := 4) (u := 5) (b5) (by kernel_rfl) rfl rfl (TA (TC _ (TC _ (TR _))) _) (IT (IT c0 hJ0) d1) ?_);exact ⟨_, _, (congrArg (fun n => Value.tuple #[_, vI n]) (show 0 = _ from (congrArg Prod.snd (h6)).symm)), rfl, ((show ((l.take k).map AQ).reverse = (MR Y l).1 from by rw [h6, h7]) ▸ d9)⟩
end Go.Proofs.YtcaocbhbofejnaaGreatDoor
namespace Go.Sh
open Go Go.Sl
set_option maxRecDepth 100000
def exBad : List Shift := [⟨0, 1, 1⟩, ⟨0, 2, 2⟩, ⟨0, 1, 5⟩, ⟨0, 0, 1⟩]
theorem ex_bad : ∀ k, k < 4 → (AE exYard [exBad.getD k noShift]).2 = ([9, 9, 6, 4] : List Int).getD k 0 := by decide +kernel
theorem ex_reach3 : ∀ k : Nat, k < 3 → GH exYard k = ((k : Int) + 1, 0) := by decide +kernel
def exSmall : Yard := ⟨exYard.cars.drop 2, exYard.room, exYard.tracks.set 0 [0, 1]⟩
theorem ex_small : checkErr exSmall = 0 := by decide +kernel
theorem ex_text : writeY exSmall = [99, 111, 97, 99, 104, 32, 50, 32, 52, 48, 32, 51, 48, 32, 49, 32, 112, 104, 10, 99, 111, 97, 99, 104, 32, 49, 32, 49, 48, 32, 48, 32, 49, 32, 104, 10, 116, 114, 97, 99, 107, 32, 49, 48, 58, 48, 44, 49, 10, 116, 114, 97, 99, 107, 32, 51, 58, 10, 116, 114, 97, 99, 107, 32, 50, 58, 10, 112, 111, 105, 110, 116, 115, 10] := by
  have n0 : Lib.itoa 0 = [48] := num1 (n := 0) (by decide);have n1 : Lib.itoa 1 = [49] := num1 (n := 1) (by decide);have n2 : Lib.itoa 2 = [50] := num1 (n := 2) (by decide);have n3 : Lib.itoa 3 = [51] := num1 (n := 3) (by decide);have n10 : Lib.itoa 10 = [49, 48] := num2 (n := 10) (by decide) (by decide);have n30 : Lib.itoa 30 = [51, 48] := num2 (n := 30) (by decide) (by decide);have n40 : Lib.itoa 40 = [52, 48] := num2 (n := 40) (by decide) (by decide);simp [writeY, IQ, BA, LF, AW, FL, exSmall, exYard, num, n0, n1, n2, n3, n10, n30, n40, Lib.join, List.intercalate, List.intersperse]
end Go.Sh
