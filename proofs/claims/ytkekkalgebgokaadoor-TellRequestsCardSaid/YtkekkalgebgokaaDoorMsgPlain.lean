/- The kinds of requests (layer 19), their words and their fields' letters, as plain tables. No program in sight. -/
import Derived.Test.YtkekkalgebgokaaDoorOctetPlain
namespace Go.Proofs.YtkekkalgebgokaaDoor
open Go Go.RowKit

theorem ret_num {k : IntKind} {a b : Int} (h : a = b) : Ending.returned (.int k a) = .returned (.int k b) := by rw [h]
theorem ret_truth {a b : Bool} (h : a = b) : Ending.returned (.bool a) = .returned (.bool b) := by rw [h]
/-- The words, and the letters of the fields, of all kinds. -/
def formTab : List (List UInt8 × List UInt8) := [([], []), ([111, 112, 101, 110], [116, 105, 119]), ([99, 108, 111, 115, 101], [116, 105]), ([115, 117, 98, 109, 105, 116], [116, 105, 107, 99, 112, 120, 100]), ([119, 97, 105, 116], [110, 116, 111]), ([99, 97, 110, 99, 101, 108], [116, 111]), ([115, 116, 97, 116, 117, 115], [116, 111]), ([114, 101, 103, 105, 115, 116, 101, 114], [110, 112, 108]), ([98, 101, 97, 116], [110]), ([112, 111, 108, 108], [110]), ([114, 101, 112, 111, 114, 116], [110, 111, 101, 114, 98]), ([108, 101, 97, 118, 101], [110]), ([112, 97, 117, 115, 101], [110, 98]), ([100, 114, 97, 105, 110], []), ([100, 114, 97, 105, 110, 101, 100], []), ([108, 101, 116, 116, 101, 114, 115], [102, 109]), ([112, 117, 114, 103, 101], [111]), ([115, 116, 97, 116, 115], [])]
def wordOf (k : Nat) : List UInt8 := (formTab.getD k ([], [])).1
def fieldsOf (k : Nat) : List UInt8 := (formTab.getD k ([], [])).2
/-- Is there a kind? -/
def isKind (k : Int) : Bool := decide (1 ≤ k ∧ k ≤ 17)
def wordK (k : Int) : List UInt8 := if 1 ≤ k ∧ k ≤ 17 then wordOf k.toNat else []
def fieldsK (k : Int) : List UInt8 := if 1 ≤ k ∧ k ≤ 17 then fieldsOf k.toNat else []
theorem wordK_yes (k : Nat) (h1 : 1 ≤ k) (h2 : k ≤ 17) : wordK (k : Int) = wordOf k := by
  unfold wordK; rw [if_pos (by omega), Int.toNat_natCast]
theorem wordK_no (k : Int) (h : ¬ (1 ≤ k ∧ k ≤ 17)) : wordK k = [] := if_neg h
theorem fieldsK_yes (k : Nat) (h1 : 1 ≤ k) (h2 : k ≤ 17) : fieldsK (k : Int) = fieldsOf k := by
  unfold fieldsK; rw [if_pos (by omega), Int.toNat_natCast]
theorem fieldsK_no (k : Int) (h : ¬ (1 ≤ k ∧ k ≤ 17)) : fieldsK k = [] := if_neg h

/-- The row that the program lays of them. -/
def formArr : Array Value := (formTab.flatMap fun x => [.string (bs x.1), .string (bs x.2)]).toArray
theorem formArr_at : ∀ k, k < 18 → formArr[k * 2]? = some (.string (bs (wordOf k))) ∧ formArr[k * 2 + 1]? = some (.string (bs (fieldsOf k))) := by
  intro k hk
  match k, hk with
  | 0, _ => exact ⟨rfl, rfl⟩
  | 1, _ => exact ⟨rfl, rfl⟩
  | 2, _ => exact ⟨rfl, rfl⟩
  | 3, _ => exact ⟨rfl, rfl⟩
  | 4, _ => exact ⟨rfl, rfl⟩
  | 5, _ => exact ⟨rfl, rfl⟩
  | 6, _ => exact ⟨rfl, rfl⟩
  | 7, _ => exact ⟨rfl, rfl⟩
  | 8, _ => exact ⟨rfl, rfl⟩
  | 9, _ => exact ⟨rfl, rfl⟩
  | 10, _ => exact ⟨rfl, rfl⟩
  | 11, _ => exact ⟨rfl, rfl⟩
  | 12, _ => exact ⟨rfl, rfl⟩
  | 13, _ => exact ⟨rfl, rfl⟩
  | 14, _ => exact ⟨rfl, rfl⟩
  | 15, _ => exact ⟨rfl, rfl⟩
  | 16, _ => exact ⟨rfl, rfl⟩
  | 17, _ => exact ⟨rfl, rfl⟩
  | _ + 18, h => exact absurd h (by omega)

/-- The row that the reference lays of the words. -/
def wordArr : Array Value := ((formTab.drop 1).map fun x => .string (bs x.1)).toArray
theorem wordArr_at : ∀ k, k < 17 → wordArr[k]? = some (.string (bs (wordOf (k + 1)))) := by
  intro k hk
  match k, hk with
  | 0, _ => rfl
  | 1, _ => rfl
  | 2, _ => rfl
  | 3, _ => rfl
  | 4, _ => rfl
  | 5, _ => rfl
  | 6, _ => rfl
  | 7, _ => rfl
  | 8, _ => rfl
  | 9, _ => rfl
  | 10, _ => rfl
  | 11, _ => rfl
  | 12, _ => rfl
  | 13, _ => rfl
  | 14, _ => rfl
  | 15, _ => rfl
  | 16, _ => rfl
  | _ + 17, h => exact absurd h (by omega)
/-- The kinds that change nothing. -/
def asks (k : Int) : Bool := decide (k = 6 ∨ k = 14 ∨ k = 15 ∨ k = 17)

/-- The place of a text's, a number's letter in a request. -/
def textIdx (c : Int) : Option Nat := if c = 116 then some 1 else if c = 105 then some 2 else if c = 110 then some 3 else if c = 107 then some 4 else if c = 99 then some 5 else if c = 112 then some 6 else none
def numIdx (c : Int) : Option Nat := if c = 111 then some 7 else if c = 101 then some 8 else if c = 119 then some 9 else if c = 120 then some 10 else if c = 108 then some 11 else if c = 114 then some 12 else if c = 100 then some 13 else if c = 102 then some 14 else if c = 109 then some 15 else none
/-- A place in a block, or none. -/
def ptrAt (b : Nat) (i : Option Nat) : Value := .pointer (i.map fun i => ⟨b, i, none⟩)

/-- The kind of a word; 0: it is none's. -/
def kindOf (s : List UInt8) : Nat := ((List.range 17).find? (fun i => wordOf (i + 1) == s)).elim 0 (· + 1)
theorem kindOf_is (s : List UInt8) (k : Nat) (h1 : 1 ≤ k) (h2 : k ≤ 17) (hk : wordOf k = s) (hno : ∀ j, 1 ≤ j → j < k → wordOf j ≠ s) : kindOf s = k := by
  have h : (List.range 17).find? (fun i => wordOf (i + 1) == s) = some (k - 1) := by
    rw [List.find?_range_eq_some]
    refine ⟨by simp [show k - 1 + 1 = k by omega, hk], by simp; omega, fun j hj => ?_⟩
    simpa using hno (j + 1) (by omega) (by omega)
  rw [kindOf, h]
  simp; omega
theorem kindOf_none (s : List UInt8) (hno : ∀ j, 1 ≤ j → j ≤ 17 → wordOf j ≠ s) : kindOf s = 0 := by
  have h : (List.range 17).find? (fun i => wordOf (i + 1) == s) = none := by
    rw [List.find?_eq_none]
    intro j hj
    simpa using hno (j + 1) (by omega) (by have := List.mem_range.1 hj; omega)
  rw [kindOf, h]; rfl
theorem bs_beq (a b : List UInt8) : ((bs a).toList == (bs b).toList) = (a == b) := by
  rw [ByteArray.toList_eq, ByteArray.toList_eq, bs_data, bs_data]

end Go.Proofs.YtkekkalgebgokaaDoor
