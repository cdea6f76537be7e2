/- What is told in words, in plain lists: words, quotes, numbers in tens. -/
import Derived.Test.YtkekkalgebgokaaDoorG18
set_option linter.unusedSimpArgs false
set_option linter.unusedVariables false
namespace Go.Proofs.YtkekkalgebgokaaDoor
open Go Go.RowKit

section



def wordsT : List (List UInt8) := [[113, 117, 101, 117, 101, 100], [98, 97, 99, 107, 111, 102, 102], [114, 117, 110, 110, 105, 110, 103], [99, 111, 109, 112, 108, 101, 116, 101, 100], [100, 101, 97, 100], [99, 97, 110, 99, 101, 108, 108, 101, 100], [101, 120, 112, 105, 114, 101, 100]]
def wordT (n : Int) : List UInt8 := if n < 1 ∨ 7 < n then [63] else wordsT.getD (n - 1).toNat []
theorem wordT_no {n : Int} (h : n < 1 ∨ 7 < n) : wordT n = [63] := if_pos h
theorem wordT_yes {n : Int} (h : ¬ (n < 1 ∨ 7 < n)) : wordT n = wordsT.getD (n - 1).toNat [] := if_neg h
theorem wordT_len (n : Int) : (wordT n).length ≤ 9 := by
  unfold wordT
  split
  · decide
  · rename_i h
    have h1 : (n - 1).toNat < 7 := by omega
    generalize (n - 1).toNat = k at h1
    have : ∀ k < 7, (wordsT.getD k []).length ≤ 9 := by decide
    exact this k h1
/-- Which bytes are told as they are. -/
def bareB (c : UInt8) : Bool := (decide (97 ≤ c.toNat) && decide (c.toNat ≤ 122)) || (decide (65 ≤ c.toNat) && decide (c.toNat ≤ 90)) || (decide (48 ≤ c.toNat) && decide (c.toNat ≤ 57)) || [45, 46, 61, 42, 44, 47, 95, 32].contains c
def bareN (n : Nat) : Bool := (decide (97 ≤ n) && decide (n ≤ 122)) || (decide (65 ≤ n) && decide (n ≤ 90)) || (decide (48 ≤ n) && decide (n ≤ 57)) || [45, 46, 61, 42, 44, 47, 95, 32].contains n
def hexT : List UInt8 := [48, 49, 50, 51, 52, 53, 54, 55, 56, 57, 97, 98, 99, 100, 101, 102]
def quote1 (c : UInt8) : List UInt8 := if bareB c then [c] else [92, 120, hexT.getD (c.toNat / 16) 0, hexT.getD (c.toNat % 16) 0]
def quoteT (s : List UInt8) : List UInt8 := 34 :: (s.flatMap quote1 ++ [34])
def quoteI (s : List UInt8) : List UInt8 := s.flatMap quote1
theorem quote1_len (c : UInt8) : (quote1 c).length ≤ 4 := by unfold quote1; split <;> simp
theorem quoteI_len : ∀ s : List UInt8, (quoteI s).length ≤ 4 * s.length
  | [] => by simp [quoteI]
  | c :: s => by
    have a := quote1_len c
    have b := quoteI_len s
    unfold quoteI at b ⊢
    simp only [List.flatMap_cons, List.length_append, List.length_cons]; omega
theorem quoteT_eq (s : List UInt8) : [34] ++ quoteI s ++ [34] = quoteT s := by unfold quoteT quoteI; simp
theorem quoteT_len (s : List UInt8) : (quoteT s).length ≤ 4 * s.length + 2 := by
  rw [← quoteT_eq]; have := quoteI_len s; simp only [List.length_append, List.length_singleton]; omega
theorem quoteI_next {s : List UInt8} {i : Nat} (h : i < s.length) : quoteI (s.take i) ++ quote1 (s.getD i 0) = quoteI (s.take (i + 1)) := by
  unfold quoteI
  rw [List.take_succ_eq_append_getElem h, List.flatMap_append, List.getD_eq_getElem?_getD, List.getElem?_eq_getElem h]
  simp
theorem byte_all (P : UInt8 → Bool) (h : ((List.range 256).all fun k => P (UInt8.ofNat k)) = true) (c : UInt8) : P c = true := by
  have := List.all_eq_true.1 h c.toNat (List.mem_range.2 c.toNat_lt)
  rwa [UInt8.ofNat_toNat] at this
theorem bare_facts (c : UInt8) : (bareB c = true → c ≠ 34 ∧ c ≠ 92) := by
  have := byte_all (fun c => !bareB c || (c != 34 && c != 92)) (by decide +kernel) c
  intro h
  rw [h] at this
  simpa using this
theorem hex_inj (c d : UInt8) (h1 : hexT.getD (c.toNat / 16) 0 = hexT.getD (d.toNat / 16) 0) (h2 : hexT.getD (c.toNat % 16) 0 = hexT.getD (d.toNat % 16) 0) : c = d := by
  have hx : ∀ a < 16, ∀ b < 16, hexT.getD a 0 = hexT.getD b 0 → a = b := by decide +kernel
  have c1 := c.toNat_lt
  have d1 := d.toNat_lt
  have e1 := hx _ (by omega) _ (by omega) h1
  have e2 := hx _ (by omega) _ (by omega) h2
  have : c.toNat = d.toNat := by omega
  exact UInt8.toNat_inj.1 this
/-- A quote is known by its end. -/
theorem quoteI_inj : ∀ (s t r q : List UInt8), quoteI s ++ 34 :: r = quoteI t ++ 34 :: q → s = t ∧ r = q
  | [], [], r, q, h => by simpa [quoteI] using h
  | [], d :: t, r, q, h => by
    exfalso
    unfold quoteI at h
    simp only [List.flatMap_nil, List.nil_append, List.flatMap_cons, List.append_assoc] at h
    unfold quote1 at h
    split at h
    · rename_i hb
      simp only [List.cons_append, List.nil_append, List.cons.injEq] at h
      exact (bare_facts d hb).1 h.1.symm
    · simp at h
  | c :: s, [], r, q, h => by
    exfalso
    unfold quoteI at h
    simp only [List.flatMap_nil, List.nil_append, List.flatMap_cons, List.append_assoc] at h
    unfold quote1 at h
    split at h
    · rename_i hb
      simp only [List.cons_append, List.nil_append, List.cons.injEq] at h
      exact (bare_facts c hb).1 h.1
    · simp at h
  | c :: s, d :: t, r, q, h => by
    unfold quoteI at h
    simp only [List.flatMap_cons, List.append_assoc] at h
    have key : c = d ∧ s.flatMap quote1 ++ 34 :: r = t.flatMap quote1 ++ 34 :: q := by
      unfold quote1 at h
      split at h <;> split at h
      · simp only [List.cons_append, List.nil_append, List.cons.injEq] at h
        exact ⟨h.1, h.2⟩
      · rename_i hb _
        simp only [List.cons_append, List.nil_append, List.cons.injEq] at h
        exact absurd h.1 (bare_facts c hb).2
      · rename_i _ hb
        simp only [List.cons_append, List.nil_append, List.cons.injEq] at h
        exact absurd h.1.symm (bare_facts d hb).2
      · simp only [List.cons_append, List.nil_append, List.cons.injEq, true_and] at h
        exact ⟨hex_inj c d h.1 h.2.1, h.2.2⟩
    obtain ⟨rfl, h2⟩ := key
    obtain ⟨rfl, rfl⟩ := quoteI_inj s t r q h2
    exact ⟨rfl, rfl⟩
theorem quoteT_inj {s t : List UInt8} (h : quoteT s = quoteT t) : s = t := by
  unfold quoteT at h
  simp only [List.cons.injEq, true_and] at h
  exact (quoteI_inj s t [] [] h).1
theorem quoteT_iff (s t : List UInt8) : (quoteT s = quoteT t) ↔ s = t := ⟨quoteT_inj, fun h => by rw [h]⟩

end
end Go.Proofs.YtkekkalgebgokaaDoor
