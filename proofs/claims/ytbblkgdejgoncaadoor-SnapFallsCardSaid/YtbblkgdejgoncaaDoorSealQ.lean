/- Sealed blocks, in plain lists: what opens is a sealed block, and the other way round. -/
import Derived.Test.YtbblkgdejgoncaaDoorSealW
set_option linter.unusedSimpArgs false
set_option linter.unusedVariables false
namespace Go.Proofs.YtbblkgdejgoncaaDoor
open Go Go.RowKit

section



theorem openD_len (s : List UInt8) : (openD s).length ≤ s.length := by
  unfold openD
  split
  · simp; omega
  · simp
theorem be4_num (l : List UInt8) (h : l.length = 4) : be 4 (num l) = l := by
  have := be_num l
  rwa [h] at this
theorem sealL_open {s : List UInt8} (h : openOk s = true) : sealL (openE s) (openI s) (openD s) = s := by
  have h' := h
  unfold openOk at h'
  have h' : s.length = 64 ∧ s.take 8 = s.drop 56 ∧ num (s.take 4) ≠ 0 := by simpa using h'
  obtain ⟨h1, h2, h3⟩ := h'
  unfold openE openI openD
  simp only [h, if_true]
  unfold sealL
  have hd : ((s.take 56).drop 8).length = 48 := by simp; omega
  rw [if_neg (by simp only [hd]; omega), be4_num _ (by simp; omega), be4_num _ (by simp; omega)]
  have e1 : s.take 4 ++ (s.take 8).drop 4 = s.take 8 := by
    have : s.take 4 = (s.take 8).take 4 := by rw [List.take_take]; rfl
    rw [this, List.take_append_drop]
  rw [List.append_assoc _ (s.take 4), e1]
  have e2 : s.take 8 = (s.take 56).take 8 := by rw [List.take_take]; rfl
  rw [List.append_assoc (s.take 8)]
  conv => lhs; arg 2; arg 2; rw [h2]
  conv => lhs; arg 1; rw [e2]
  rw [← List.append_assoc, List.take_append_drop, List.take_append_drop]
theorem sealE_open {s : List UInt8} (h : openOk s = true) : sealE (openE s) (openD s) = 0 := by
  have h' := h
  unfold openOk at h'
  have h' : s.length = 64 ∧ s.take 8 = s.drop 56 ∧ num (s.take 4) ≠ 0 := by simpa using h'
  obtain ⟨h1, h2, h3⟩ := h'
  unfold openE openD
  simp only [h, if_true]
  unfold sealE
  have hd : ((s.take 56).drop 8).length = 48 := by simp; omega
  rw [if_neg (by simp only [hd]; omega)]
theorem sealE_cases (e : Nat) (d : List UInt8) : sealE e d = 0 ↔ ¬ (e = 0 ∨ d.length ≠ 48) := by
  unfold sealE; split <;> simp_all
theorem sealL_length {e i : Nat} {d : List UInt8} (h : sealE e d = 0) : (sealL e i d).length = 64 := by
  rw [sealE_cases] at h
  unfold sealL
  rw [if_neg h]
  simp [be_length]
  omega
theorem sealL_parts {e i : Nat} {d : List UInt8} (h : sealE e d = 0) : (sealL e i d).take 4 = be 4 e ∧ ((sealL e i d).take 8).drop 4 = be 4 i ∧ ((sealL e i d).take 56).drop 8 = d ∧ (sealL e i d).take 8 = (sealL e i d).drop 56 := by
  rw [sealE_cases] at h
  have hd : d.length = 48 := by omega
  unfold sealL
  rw [if_neg h]
  have h4 := be_length 4 e
  have h5 := be_length 4 i
  have h8 : (be 4 e ++ be 4 i).length = 8 := by simp [h4, h5]
  have h56 : (be 4 e ++ be 4 i ++ d).length = 56 := by simp [h4, h5, hd]
  have t8 : (be 4 e ++ be 4 i ++ d ++ be 4 e ++ be 4 i).take 8 = be 4 e ++ be 4 i := by
    rw [List.append_assoc, List.append_assoc, List.append_assoc, ← List.append_assoc (be 4 e)]
    rw [List.take_append_of_le_length (by omega), List.take_of_length_le (by omega)]
  have t4 : (be 4 e ++ be 4 i).take 4 = be 4 e := by rw [List.take_append_of_le_length (by omega), List.take_of_length_le (by omega)]
  refine ⟨?_, ?_, ?_, ?_⟩
  · have : (be 4 e ++ be 4 i ++ d ++ be 4 e ++ be 4 i).take 4 = ((be 4 e ++ be 4 i ++ d ++ be 4 e ++ be 4 i).take 8).take 4 := by rw [List.take_take]; rfl
    rw [this, t8, t4]
  · rw [t8]; exact List.drop_left' h4
  · rw [List.append_assoc (be 4 e ++ be 4 i ++ d), List.take_left' h56]
    exact List.drop_left' h8
  · rw [t8, List.append_assoc (be 4 e ++ be 4 i ++ d), List.drop_left' h56]
theorem openOk_seal {e i : Nat} {d : List UInt8} (he : e < 4294967296) (h : sealE e d = 0) : openOk (sealL e i d) = true := by
  obtain ⟨h1, h2, h3, h4⟩ := sealL_parts (i := i) h
  have hl := sealL_length (i := i) h
  rw [sealE_cases] at h
  unfold openOk
  rw [if_pos]
  refine ⟨hl, h4, ?_⟩
  rw [h1, num_be 4 e (by omega)]
  omega
theorem open_seal {e i : Nat} {d : List UInt8} (he : e < 4294967296) (hi : i < 4294967296) (h : sealE e d = 0) : openE (sealL e i d) = e ∧ openI (sealL e i d) = i ∧ openD (sealL e i d) = d := by
  obtain ⟨h1, h2, h3, h4⟩ := sealL_parts (i := i) h
  have ho := openOk_seal (i := i) he h
  unfold openE openI openD
  simp only [ho, if_true]
  rw [h1, h2, h3, num_be 4 e (by omega), num_be 4 i (by omega)]
  exact ⟨rfl, rfl, rfl⟩
theorem sealL_le (e i : Nat) (d : List UInt8) : (sealL e i d).length ≤ d.length + 16 := by
  unfold sealL
  split
  · simp
  · simp [be_length]
    omega
theorem openOk_not {e i : Nat} {d : List UInt8} (h : ¬ sealE e d = 0) : openOk (sealL e i d) = false := by
  rw [sealE_cases] at h
  have h' : e = 0 ∨ d.length ≠ 48 := Classical.not_not.1 h
  unfold sealL
  rw [if_pos h']
  rfl

end
end Go.Proofs.YtbblkgdejgoncaaDoor
