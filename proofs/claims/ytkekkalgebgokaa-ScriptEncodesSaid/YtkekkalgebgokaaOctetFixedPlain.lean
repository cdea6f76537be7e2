/- Numbers as so many bytes (layer 1), as plain functions. No program in sight. -/
import Derived.Test.YtkekkalgebgokaaOctetChainPlain
namespace Go.Proofs.Ytkekkalgebgokaa
open Go Go.RowKit

/-- A number as n bytes, the highest first. -/
def be : Nat → Nat → List UInt8
  | 0, _ => []
  | n + 1, v => be n (v / 256) ++ [UInt8.ofNat (v % 256)]
/-- The number of some bytes. -/
def num : List UInt8 → Nat := fun l => l.foldl (fun v c => v * 256 + c.toNat) 0
theorem be_length (n v : Nat) : (be n v).length = n := by
  induction n generalizing v with
  | zero => rfl
  | succ n ih => simp [be, ih]
theorem be_get (n v j : Nat) (h : j < n) : (be n v)[n - 1 - j]? = some (UInt8.ofNat (v / 256 ^ j % 256)) := by
  induction n generalizing v j with
  | zero => omega
  | succ n ih =>
    rw [be]
    by_cases e : j = 0
    · subst e
      rw [List.getElem?_append_right (by rw [be_length]; omega), be_length]
      simp
    · rw [List.getElem?_append_left (by rw [be_length]; omega)]
      have := ih (v / 256) (j - 1) (by omega)
      rw [show n + 1 - 1 - j = n - 1 - (j - 1) by omega, this, Nat.div_div_eq_div_mul, show 256 * 256 ^ (j - 1) = 256 ^ j by
        rw [Nat.mul_comm, ← Nat.pow_succ]; congr 1; omega]
theorem be_cons (n v : Nat) : be (n + 1) v = UInt8.ofNat (v / 256 ^ n % 256) :: be n v := by
  induction n generalizing v with
  | zero => simp [be]
  | succ n ih =>
    rw [be, ih (v / 256), List.cons_append, Nat.div_div_eq_div_mul, show 256 * 256 ^ n = 256 ^ (n + 1) by rw [Nat.mul_comm, ← Nat.pow_succ]]
    rfl
theorem num_snoc (l : List UInt8) (c : UInt8) : num (l ++ [c]) = num l * 256 + c.toNat := by simp [num]
theorem num_lt (l : List UInt8) : num l < 256 ^ l.length := by
  generalize hn : l.length = n
  induction n generalizing l with
  | zero =>
    have : l = [] := List.length_eq_zero_iff.1 hn
    subst this; simp [num]
  | succ n ih =>
    obtain ⟨m, c, rfl⟩ : ∃ m c, l = m ++ [c] := ⟨l.dropLast, l.getLast (by intro h; simp [h] at hn), (List.dropLast_concat_getLast _).symm⟩
    have := ih m (by simpa using hn)
    have hc := c.toNat_lt
    rw [num_snoc, Nat.pow_succ]
    omega
theorem num_be (n v : Nat) (h : v < 256 ^ n) : num (be n v) = v := by
  induction n generalizing v with
  | zero => simp at h; subst h; rfl
  | succ n ih =>
    rw [be, num_snoc, ih (v / 256) (by rw [Nat.div_lt_iff_lt_mul (by omega)]; rw [Nat.pow_succ] at h; exact h), UInt8.toNat_ofNat']
    omega
theorem be_num (l : List UInt8) : be l.length (num l) = l := by
  generalize hn : l.length = n
  induction n generalizing l with
  | zero =>
    have : l = [] := List.length_eq_zero_iff.1 hn
    subst this; rfl
  | succ n ih =>
    obtain ⟨m, c, rfl⟩ : ∃ m c, l = m ++ [c] := ⟨l.dropLast, l.getLast (by intro h; simp [h] at hn), (List.dropLast_concat_getLast _).symm⟩
    have hc := c.toNat_lt
    rw [be, num_snoc, show (num m * 256 + c.toNat) / 256 = num m by omega, show (num m * 256 + c.toNat) % 256 = c.toNat by omega, ih m (by simpa using hn)]
    congr 2
    exact UInt8.toNat_inj.1 (by rw [UInt8.toNat_ofNat']; omega)
/-- A number as so many bytes, or that it is none: the bytes, the error's number. -/
def fixed (v : Nat) (n : Int) : List UInt8 × Nat := if n < 1 ∨ 8 < n ∨ 256 ^ n.toNat ≤ v then ([], 1) else (be n.toNat v, 0)
def number (l : List UInt8) : Nat × Nat := if l.length < 1 ∨ 8 < l.length then (0, 1) else (num l, 0)
theorem fixed_no (v : Nat) (n : Int) (h : n < 1 ∨ 8 < n ∨ 256 ^ n.toNat ≤ v) : fixed v n = ([], 1) := if_pos h
theorem fixed_yes (v n : Nat) (h1 : 1 ≤ n) (h8 : n ≤ 8) (h : v < 256 ^ n) : fixed v n = (be n v, 0) := by
  unfold fixed
  rw [if_neg (by rw [Int.toNat_natCast]; omega), Int.toNat_natCast]
theorem number_no (l : List UInt8) (h : l.length < 1 ∨ 8 < l.length) : number l = (0, 1) := if_pos h
theorem number_yes (l : List UInt8) (h : ¬ (l.length < 1 ∨ 8 < l.length)) : number l = (num l, 0) := if_neg h
theorem num_U64 (l : List UInt8) (h : l.length ≤ 8) : U64 (num l) :=
  Nat.lt_of_lt_of_le (num_lt l) (Nat.pow_le_pow_right (show 0 < 256 by omega) h)

end Go.Proofs.Ytkekkalgebgokaa
