/- Slices that are read: what their cells are, element by element; keys of structs of plain fields. No program in sight. -/
import Derived.Test.YtkekkalgebgokaaDoorG10
set_option linter.unusedSimpArgs false
set_option linter.unusedVariables false
namespace Go.Proofs.YtkekkalgebgokaaDoor
open Go Go.RowKit

-- literals
/-- Single cells of plain types, one behind the other. -/
def Fits (P : Program) : Nat → List Field → List Value → List Lit → Prop
  | _, [], [], [] => True
  | j, f :: fs, v :: vs, l :: ls => f.offset = j ∧ P.cellsOf f.type = 1 ∧ P.keyLits 1 f.type [v] = some [l] ∧ Fits P (j + 1) fs vs ls
  | _, _, _, _ => False
theorem fits_mapM {P : Program} : ∀ (fs : List Field) (vs : List Value) (ls : List Lit) (pre : List Value), Fits P pre.length fs vs ls →
    fs.mapM (fun f => P.keyLits 1 f.type (((pre ++ vs).drop f.offset).take (P.cellsOf f.type))) = some (ls.map fun l => [l])
  | [], [], [], _, _ => rfl
  | f :: fs, v :: vs, l :: ls, pre, h => by
    obtain ⟨h1, h2, h3, h4⟩ := h
    have ih := fits_mapM fs vs ls (pre ++ [v]) (by simpa using h4)
    rw [List.mapM_cons, h1, h2, List.drop_left]
    simp only [List.take_succ_cons, List.take_zero, h3]
    simp only [List.append_assoc, List.singleton_append] at ih
    rw [ih]
    rfl
  | [], _ :: _, _, _, h => h.elim
  | [], [], _ :: _, _, h => h.elim
  | _ :: _, [], _, _, h => h.elim
  | _ :: _, _ :: _, [], _, h => h.elim
theorem fits_keys {P : Program} {t : TypeId} {fs : Array Field} {cs : List Value} {ls : List Lit} (hu : P.underlying t = some (.struct fs)) (hn : cs.length = P.cellsOf t) (hb : fs.all (·.name != "_") = true) (h : Fits P 0 fs.toList cs ls) : P.keyLits 2 t cs.toArray.toList = some ls := by
  unfold Program.keyLits
  simp only [hu]
  rw [if_pos ⟨hn, hb⟩]
  have := fits_mapM fs.toList cs ls [] h
  simp only [List.nil_append] at this
  rw [this]
  have e : (ls.map fun l => [l]).flatten = ls := by
    have := flatten_ones (fun l : Lit => l) ls
    simpa using this
  simp [e]
theorem key_int {P : Program} {t : TypeId} {q : IntKind} {n : Int} (hu : P.underlying t = some (.int q)) (h0 : q.min ≤ n) (h1 : n ≤ q.max) : P.keyLits 1 t [.int q n] = some [.int q n] := by
  unfold Program.keyLits
  simp only [hu]
  rw [if_pos]
  simp [Lit.wf, h0, h1]
theorem key_str {P : Program} {t : TypeId} {l : List UInt8} (hu : P.underlying t = some .string) (h : l.length ≤ 9223372036854775807) : P.keyLits 1 t [.string (bs l)] = some [.string l] := by
  unfold Program.keyLits
  simp only [hu]
  rw [if_pos (by rw [bs_size]; unfold maxLen; omega)]
  rfl
theorem key_bool {P : Program} {t : TypeId} {b : Bool} (hu : P.underlying t = some .bool) : P.keyLits 1 t [.bool b] = some [.bool b] := by
  unfold Program.keyLits
  simp only [hu]

/-- A slice's value. -/
def sv (ob : Option Nat) (off n cap : Nat) : Value := .slice (ob.map fun b => ⟨b, off, none⟩) n cap
/-- What a slice shows. -/
structure Sees (sz : Nat) (ob : Option Nat) (off cap : Nat) (cs : Array Value) (xs : List Value) (n : Nat) : Prop where
  len : xs.length = n * sz
  le : n ≤ cap
  max : cap ≤ 9223372036854775807
  part : (cs.toList.drop off).take (n * sz) = xs
  isNil : ob = none → cap = 0
theorem Own.sees {sz : Nat} {u : Sl} {xs : List Value} {n : Nat} (h : Own sz u xs n) : Sees sz u.ob 0 u.cap u.cs xs n := ⟨h.len, h.le, h.max, by simpa using h.pre, h.isNil⟩
theorem sees_nil {sz off : Nat} {cs : Array Value} : Sees sz none off 0 cs [] 0 := ⟨by simp, Nat.le_refl _, by omega, by simp, fun _ => rfl⟩
theorem Sees.isSome {sz : Nat} {ob : Option Nat} {off cap : Nat} {cs : Array Value} {xs : List Value} {n : Nat} (h : Sees sz ob off cap cs xs n) (hn : 0 < n) : ∃ b, ob = some b := by
  cases hu : ob with
  | some b => exact ⟨b, rfl⟩
  | none => have := h.isNil hu; have := h.le; omega
theorem Sees.at {sz : Nat} {ob : Option Nat} {off cap : Nat} {cs : Array Value} {xs : List Value} {n : Nat} (h : Sees sz ob off cap cs xs n) {i : Nat} {v : Value} (hv : xs[i]? = some v) : cs[off + i]? = some v := by
  have h1 : i < n * sz := by rw [← h.len]; exact (List.getElem?_eq_some_iff.1 hv).1
  rw [← h.part, List.getElem?_take, if_pos h1, List.getElem?_drop] at hv
  simpa using hv
theorem flat_len {α : Type} (f : α → List Value) {sz : Nat} (hf : ∀ a, (f a).length = sz) : ∀ l : List α, (l.flatMap f).length = l.length * sz
  | [] => by simp
  | a :: l => by simp [hf, flat_len f hf l, Nat.add_mul]; omega
theorem flat_at {α : Type} (f : α → List Value) {sz : Nat} (hf : ∀ a, (f a).length = sz) : ∀ (l : List α) (i : Nat) (a : α), l[i]? = some a → ((l.flatMap f).drop (i * sz)).take sz = f a
  | [], i, a, h => by simp at h
  | x :: l, 0, a, h => by
    simp at h
    subst h
    simp only [List.flatMap_cons, Nat.zero_mul, List.drop_zero]
    rw [← hf x]
    exact List.take_left
  | x :: l, i + 1, a, h => by
    have ih := flat_at f hf l i a (by simpa using h)
    have e : (i + 1) * sz = (f x).length + i * sz := by rw [hf, Nat.add_mul]; omega
    rw [List.flatMap_cons, e, ← List.drop_drop, List.drop_left]
    exact ih
theorem flat_part {α : Type} (f : α → List Value) {sz : Nat} (hf : ∀ a, (f a).length = sz) (l : List α) {i : Nat} {a : α} (ha : l[i]? = some a) (k : Nat) : (l.flatMap f)[i * sz + k]? = if k < sz then (f a)[k]? else (l.flatMap f)[i * sz + k]? := by
  split
  · rename_i hk
    rw [← flat_at f hf l i a ha, List.getElem?_take, if_pos hk, List.getElem?_drop]
  · rfl
/-- An element, whole. -/
theorem Sees.elem {α : Type} {f : α → List Value} {sz : Nat} {ob : Option Nat} {off cap : Nat} {cs : Array Value} {l : List α} (h : Sees sz ob off cap cs (l.flatMap f) l.length) (hf : ∀ a, (f a).length = sz) {i : Nat} {a : α} (ha : l[i]? = some a) :
    cs.extract (off + i * sz) (off + i * sz + sz) = (f a).toArray := by
  apply Array.toList_inj.1
  have hi : i < l.length := (List.getElem?_eq_some_iff.1 ha).1
  have e1 : (i + 1) * sz ≤ l.length * sz := Nat.mul_le_mul_right _ hi
  rw [Nat.add_mul, Nat.one_mul] at e1
  have h1 := flat_at f hf l i a ha
  rw [← h.part, List.drop_take, List.take_take, List.drop_drop, Nat.min_eq_left (by omega)] at h1
  rw [Array.toList_extract, List.extract_eq_take_drop, ← h1]
  congr 1
  omega
theorem Sees.cell {α : Type} {f : α → Value} {ob : Option Nat} {off cap : Nat} {cs : Array Value} {l : List α} (h : Sees 1 ob off cap cs (l.map f) l.length) {i : Nat} {a : α} (ha : l[i]? = some a) : cs[off + i * 1]? = some (f a) := by
  rw [Nat.mul_one]
  exact h.at (by simp [ha])
theorem getI {α : Type} {l : List α} {i : Nat} (h : i < l.length) : ∃ a, l[i]? = some a := ⟨_, List.getElem?_eq_getElem h⟩

/-- Pointers to one cell after the other. -/
def ptrs (b k n : Nat) : List Value := (List.range n).map fun i => .pointer (some ⟨b, k + i, none⟩)
theorem ptrs_at (b k n i : Nat) (h : i < n) : (ptrs b k n)[i]? = some (.pointer (some ⟨b, k + i, none⟩)) := by simp [ptrs, h]
theorem ptrs_nth (b k n i : Nat) (h : i < n) : nth (ptrs b k n).toArray.toList (0 + i * 1) = some (.pointer (some ⟨b, k + i, none⟩)) := by
  rw [nth_eq]
  simp [ptrs, h]

theorem take_succ_of {α : Type} {l : List α} {i : Nat} {a : α} (h : l[i]? = some a) : l.take (i + 1) = l.take i ++ [a] := by
  rw [List.take_add_one, h]
  rfl
/-- Two lists of one length, held against each other one by one. -/
theorem eq_next {α : Type} {l m : List α} {i : Nat} {a b : α} (h : l.take i = m.take i) (ha : l[i]? = some a) (hb : m[i]? = some b) (hab : a = b) : l.take (i + 1) = m.take (i + 1) := by
  rw [take_succ_of ha, take_succ_of hb, h, hab]
theorem eq_end {α : Type} {l m : List α} {i : Nat} (h : l.take i = m.take i) (hi : l.length ≤ i) (hl : l.length = m.length) : l = m := by
  rw [List.take_of_length_le hi, List.take_of_length_le (by omega)] at h
  exact h
theorem ne_at {α : Type} {l m : List α} {i : Nat} {a b : α} (ha : l[i]? = some a) (hb : m[i]? = some b) (hab : ¬ a = b) : ¬ l = m := fun e => by
  subst e
  rw [ha] at hb
  exact hab (by injection hb)
theorem ne_len {α : Type} {l m : List α} (h : ¬ l.length = m.length) : ¬ l = m := fun e => h (by rw [e])
theorem all_next {α : Type} {l : List α} {p : α → Bool} {i : Nat} {a : α} (h : (l.take i).all p = true) (ha : l[i]? = some a) (hp : p a = true) : (l.take (i + 1)).all p = true := by
  rw [take_succ_of ha, List.all_append, h]
  simp [hp]
theorem all_end {α : Type} {l : List α} {p : α → Bool} {i : Nat} (h : (l.take i).all p = true) (hi : l.length ≤ i) : l.all p = true := by
  rwa [List.take_of_length_le hi] at h
theorem all_not {α : Type} {l : List α} {p : α → Bool} {i : Nat} {a : α} (ha : l[i]? = some a) (hp : p a = false) : l.all p = false := by
  rw [← Bool.not_eq_true, List.all_eq_true]
  intro h
  have := h a (List.mem_of_getElem? ha)
  rw [hp] at this
  cases this
theorem any_next {α : Type} {l : List α} {p : α → Bool} {i : Nat} {a : α} (h : (l.take i).any p = false) (ha : l[i]? = some a) (hp : p a = false) : (l.take (i + 1)).any p = false := by
  rw [take_succ_of ha, List.any_append, h]
  simp [hp]
theorem any_end {α : Type} {l : List α} {p : α → Bool} {i : Nat} (h : (l.take i).any p = false) (hi : l.length ≤ i) : l.any p = false := by
  rwa [List.take_of_length_le hi] at h
theorem any_yes {α : Type} {l : List α} {p : α → Bool} {i : Nat} {a : α} (ha : l[i]? = some a) (hp : p a = true) : l.any p = true := by
  rw [List.any_eq_true]
  exact ⟨a, List.mem_of_getElem? ha, hp⟩
end Go.Proofs.YtkekkalgebgokaaDoor
