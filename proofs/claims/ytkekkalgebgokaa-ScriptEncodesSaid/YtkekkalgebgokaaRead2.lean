/- Readings, one behind the other: what they tell, and what is left. -/
import Derived.Test.YtkekkalgebgokaaReadW
set_option linter.unusedSimpArgs false
set_option linter.unusedVariables false
namespace Go.Proofs.Ytkekkalgebgokaa
open Go Go.RowKit

section



theorem rdNum_bd (l : List UInt8) (e : Nat) (he : e ≤ 1000) : (rdNum l e).1 < 18446744073709551616 ∧ (rdNum l e).2.1.length ≤ l.length ∧ (rdNum l e).2.2 ≤ 1000 := by
  obtain ⟨v, n, e1, hu⟩ : ∃ v n e1, unchain l = (v, n, e1) := ⟨_, _, _, rfl⟩
  obtain ⟨hv, hb⟩ := unchain_bd hu
  by_cases h : e = 0
  · subst h
    rcases hb with ⟨h0, h1, _, _⟩ | ⟨h0, h1, h2⟩
    · subst h0
      rw [rdNum_ok l v n hu]
      exact ⟨hv, by simp, by simp⟩
    · rw [rdNum_bad l v n e1 hu (by omega)]
      exact ⟨by simp, by simp, by simp only; omega⟩
  · rw [rdNum_err l e h]
    exact ⟨by simp, by simp, he⟩
theorem rdInt_bd (most : Int) (l : List UInt8) (e : Nat) (he : e ≤ 1000) (hm : 0 ≤ most) : (((rdInt most l e).1 : Nat) : Int) ≤ most ∧ (rdInt most l e).2.1.length ≤ l.length ∧ (rdInt most l e).2.2 ≤ 1000 := by
  obtain ⟨v, n, e1, hu⟩ : ∃ v n e1, unchain l = (v, n, e1) := ⟨_, _, _, rfl⟩
  obtain ⟨hv, hb⟩ := unchain_bd hu
  by_cases h : e = 0
  · subst h
    rcases hb with ⟨h0, h1, _, _⟩ | ⟨h0, h1, h2⟩
    · subst h0
      by_cases hl : most < (v : Int)
      · rw [rdInt_long most l v n hu (.inr hl)]
        exact ⟨by simpa using hm, by simp, by simp⟩
      · rw [rdInt_ok most l v n hu (by omega)]
        exact ⟨by simp only; omega, by simp, by simp⟩
    · rw [rdInt_bad most l v n e1 hu (by omega)]
      exact ⟨by simpa using hm, by simp, by simp only; omega⟩
  · rw [rdInt_err most l e h]
    exact ⟨by simpa using hm, by simp, he⟩
theorem rdStr_bd (most : Int) (l : List UInt8) (e : Nat) (he : e ≤ 1000) (hm : 0 ≤ most) : (((rdStr most l e).1.length : Nat) : Int) ≤ most ∧ (rdStr most l e).2.1.length ≤ l.length ∧ (rdStr most l e).2.2 ≤ 1000 := by
  obtain ⟨s, n, e1, hu⟩ : ∃ v n e1, untext l most = (v, n, e1) := ⟨_, _, _, rfl⟩
  by_cases h : e = 0
  · subst h
    rcases untext_ok l most s n e1 hu with ⟨h0, h1, h2, h3⟩ | ⟨h0, h1, h2, h3⟩
    · subst h0
      rw [rdStr_ok most l s n hu]
      exact ⟨h3, by simp, by simp⟩
    · rw [rdStr_bad most l s n e1 hu (by omega)]
      exact ⟨by simpa using hm, by simp, by simp only; omega⟩
  · rw [rdStr_err most l e h]
    exact ⟨by simpa using hm, by simp, he⟩
/-- So many numbers, one behind the other. -/
def rdI (most : Int) (l : List UInt8) (e : Nat) : Nat → List Nat × List UInt8 × Nat
  | 0 => ([], l, e)
  | i + 1 => ((rdI most l e i).1 ++ [(rdInt most (rdI most l e i).2.1 (rdI most l e i).2.2).1], (rdInt most (rdI most l e i).2.1 (rdI most l e i).2.2).2)
theorem rdI_bd (most : Int) (l : List UInt8) (e : Nat) (he : e ≤ 1000) (hm : 0 ≤ most) : ∀ i, (rdI most l e i).1.length = i ∧ (∀ x ∈ (rdI most l e i).1, (x : Int) ≤ most) ∧ (rdI most l e i).2.1.length ≤ l.length ∧ (rdI most l e i).2.2 ≤ 1000
  | 0 => ⟨rfl, by simp [rdI], by simp [rdI], he⟩
  | i + 1 => by
    obtain ⟨h1, h2, h3, h4⟩ := rdI_bd most l e he hm i
    obtain ⟨k1, k2, k3⟩ := rdInt_bd most (rdI most l e i).2.1 (rdI most l e i).2.2 h4 hm
    refine ⟨by simp [rdI, h1], fun x hx => ?_, by simp only [rdI]; omega, k3⟩
    simp only [rdI, List.mem_append, List.mem_singleton] at hx
    rcases hx with hx | rfl
    · exact h2 x hx
    · exact k1
def nCell (n : Nat) : Value := .int .i64 (n : Int)
theorem laid_next {cs : Array Value} {k : Nat} {vs : List Value} {v : Value} (h : k + vs.length < cs.size) : (laid cs k vs).setIfInBounds (k + vs.length) v = laid cs k (vs ++ [v]) := by
  apply Array.toList_inj.1
  unfold laid
  simp only [Array.toList_setIfInBounds, List.length_append, List.length_singleton]
  have h1 : (cs.toList.take k).length = k := by simp; omega
  have h2 : cs.toList.drop (k + vs.length) = cs.toList[k + vs.length]'(by simpa using h) :: cs.toList.drop (k + (vs.length + 1)) := by
    rw [← Nat.add_assoc]
    exact List.drop_eq_getElem_cons (by simpa using h)
  rw [h2, List.set_append_right _ _ (by simp; omega)]
  simp only [List.length_append, h1, Nat.sub_self, List.set_cons_zero]
  simp
theorem laid_none {cs : Array Value} {k : Nat} (h : k ≤ cs.size) : laid cs k [] = cs := by
  apply Array.toList_inj.1
  simp [laid]
theorem laid_size {cs : Array Value} {k : Nat} {vs : List Value} (h : k + vs.length ≤ cs.size) : (laid cs k vs).size = cs.size := by
  simp [laid]
  omega

end
end Go.Proofs.Ytkekkalgebgokaa
