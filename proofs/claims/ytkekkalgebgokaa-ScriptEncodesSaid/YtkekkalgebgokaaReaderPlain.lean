/- Reading numbers and texts one behind the other (layer 1), as plain functions: what is read, what is left, the error's number. No program in sight. -/
import Derived.Test.YtkekkalgebgokaaOctetChainPlain
namespace Go.Proofs.Ytkekkalgebgokaa
open Go Go.RowKit

def rdNum (l : List UInt8) (e : Nat) : Nat × List UInt8 × Nat :=
  if e ≠ 0 then (0, l, e) else
    match unchain l with
    | (v, n, e') => if e' ≠ 0 then (0, l, e') else (v, l.drop n, 0)
def rdInt (most : Int) (l : List UInt8) (e : Nat) : Nat × List UInt8 × Nat :=
  if e ≠ 0 then (0, l, e) else
    match unchain l with
    | (v, n, e') => if e' ≠ 0 then (0, l, e') else if most < 0 ∨ most < (v : Int) then (0, l, 4) else (v, l.drop n, 0)
def rdStr (most : Int) (l : List UInt8) (e : Nat) : List UInt8 × List UInt8 × Nat :=
  if e ≠ 0 then ([], l, e) else
    match untext l most with
    | (s, n, e') => if e' ≠ 0 then ([], l, e') else (s, l.drop n, 0)
def rdFlag (l : List UInt8) (e : Nat) : Bool × List UInt8 × Nat :=
  if e ≠ 0 then (false, l, e) else
    match unchain l with
    | (v, n, e') => if e' ≠ 0 then (false, l, e') else if 1 < v then (false, l, 3) else (v == 1, l.drop n, 0)
def rdEnd (l : List UInt8) (e : Nat) : Nat := if e ≠ 0 then e else if l = [] then 0 else 3

theorem rdNum_err (l : List UInt8) (e : Nat) (h : e ≠ 0) : rdNum l e = (0, l, e) := by simp [rdNum, h]
theorem rdNum_bad (l : List UInt8) (v n e : Nat) (hu : unchain l = (v, n, e)) (h : e ≠ 0) : rdNum l 0 = (0, l, e) := by simp [rdNum, hu, h]
theorem rdNum_ok (l : List UInt8) (v n : Nat) (hu : unchain l = (v, n, 0)) : rdNum l 0 = (v, l.drop n, 0) := by simp [rdNum, hu]
theorem rdInt_err (most : Int) (l : List UInt8) (e : Nat) (h : e ≠ 0) : rdInt most l e = (0, l, e) := by simp [rdInt, h]
theorem rdInt_bad (most : Int) (l : List UInt8) (v n e : Nat) (hu : unchain l = (v, n, e)) (h : e ≠ 0) : rdInt most l 0 = (0, l, e) := by simp [rdInt, hu, h]
theorem rdInt_long (most : Int) (l : List UInt8) (v n : Nat) (hu : unchain l = (v, n, 0)) (h : most < 0 ∨ most < (v : Int)) : rdInt most l 0 = (0, l, 4) := by simp [rdInt, hu, h]
theorem rdInt_ok (most : Int) (l : List UInt8) (v n : Nat) (hu : unchain l = (v, n, 0)) (h : ¬ (most < 0 ∨ most < (v : Int))) : rdInt most l 0 = (v, l.drop n, 0) := by
  unfold rdInt; rw [hu]; simp only [ne_eq, not_true_eq_false, if_false]; rw [if_neg h]
theorem rdStr_err (most : Int) (l : List UInt8) (e : Nat) (h : e ≠ 0) : rdStr most l e = ([], l, e) := by simp [rdStr, h]
theorem rdStr_bad (most : Int) (l : List UInt8) (s : List UInt8) (n e : Nat) (hu : untext l most = (s, n, e)) (h : e ≠ 0) : rdStr most l 0 = ([], l, e) := by simp [rdStr, hu, h]
theorem rdStr_ok (most : Int) (l : List UInt8) (s : List UInt8) (n : Nat) (hu : untext l most = (s, n, 0)) : rdStr most l 0 = (s, l.drop n, 0) := by simp [rdStr, hu]
theorem rdFlag_err (l : List UInt8) (e : Nat) (h : e ≠ 0) : rdFlag l e = (false, l, e) := by simp [rdFlag, h]
theorem rdFlag_bad (l : List UInt8) (v n e : Nat) (hu : unchain l = (v, n, e)) (h : e ≠ 0) : rdFlag l 0 = (false, l, e) := by simp [rdFlag, hu, h]
theorem rdFlag_long (l : List UInt8) (v n : Nat) (hu : unchain l = (v, n, 0)) (h : 1 < v) : rdFlag l 0 = (false, l, 3) := by simp [rdFlag, hu, h]
theorem rdFlag_ok (l : List UInt8) (v n : Nat) (hu : unchain l = (v, n, 0)) (h : ¬ 1 < v) : rdFlag l 0 = (v == 1, l.drop n, 0) := by
  unfold rdFlag; rw [hu]; simp only [ne_eq, not_true_eq_false, if_false]; rw [if_neg h]

theorem untext_ok (l : List UInt8) (most : Int) (s : List UInt8) (n e : Nat) (h : untext l most = (s, n, e)) : (e = 0 ∧ n ≤ l.length ∧ s.length ≤ l.length ∧ (s.length : Int) ≤ most) ∨ (s = [] ∧ n = 0 ∧ 2 ≤ e ∧ e ≤ 4) := by
  obtain ⟨v, k, e', hu⟩ : ∃ v k e', unchain l = (v, k, e') := ⟨_, _, _, rfl⟩
  have hok := unchain_ok l
  rw [hu] at hok
  obtain ⟨_, hok⟩ := hok
  simp only at hok
  by_cases he : e' = 0
  · subst he
    by_cases h1 : most < 0 ∨ most < (v : Int)
    · rw [untext_long _ _ _ _ hu h1] at h
      obtain ⟨rfl, rfl, rfl⟩ : [] = s ∧ 0 = n ∧ 4 = e := by simpa using h
      exact .inr ⟨rfl, rfl, by omega, by omega⟩
    · by_cases h2 : l.length - k < v
      · rw [untext_short _ _ _ _ hu h1 h2] at h
        obtain ⟨rfl, rfl, rfl⟩ : [] = s ∧ 0 = n ∧ 2 = e := by simpa using h
        exact .inr ⟨rfl, rfl, by omega, by omega⟩
      · rw [untext_yes _ _ _ _ hu h1 h2] at h
        obtain ⟨rfl, rfl, rfl⟩ : List.take v (List.drop k l) = s ∧ k + v = n ∧ 0 = e := by simpa using h
        refine .inl ⟨rfl, by omega, by simp; omega, by simp; omega⟩
  · rw [untext_err _ _ _ _ _ hu he] at h
    obtain ⟨rfl, rfl, rfl⟩ : [] = s ∧ 0 = n ∧ e' = e := by simpa using h
    exact .inr ⟨rfl, rfl, by omega, by omega⟩

end Go.Proofs.Ytkekkalgebgokaa
