/- Records as pieces (layer 25), in plain lists. -/
import Derived.Test.YtbblkgdejgoncaaDoorSumQ
set_option linter.unusedSimpArgs false
set_option linter.unusedVariables false
namespace Go.Proofs.YtbblkgdejgoncaaDoor
open Go Go.RowKit

section



def manyN (n : Nat) : Nat := (n + 53) / 48
theorem manyN_pos (n : Nat) : 1 ≤ manyN n := by unfold manyN; omega
theorem manyN_room (n : Nat) : n + 6 ≤ 48 * manyN n ∧ 48 * manyN n < n + 54 := by unfold manyN; omega
/-- The pieces of a text: of 48 bytes each. -/
def chunks (m : Nat) (t : List UInt8) : List (List UInt8) := (List.range m).map fun i => (t.drop (48 * i)).take 48
theorem chunks_len (m : Nat) (t : List UInt8) : (chunks m t).length = m := by simp [chunks]
theorem chunks_next (m : Nat) (t : List UInt8) : chunks (m + 1) t = chunks m t ++ [(t.drop (48 * m)).take 48] := by
  unfold chunks; rw [List.range_succ, List.map_append]; rfl
theorem chunks_at {m i : Nat} (t : List UInt8) (h : i < m) : (chunks m t)[i]? = some ((t.drop (48 * i)).take 48) := by simp [chunks, h]
theorem chunks_cons (m : Nat) (t : List UInt8) : chunks (m + 1) t = t.take 48 :: chunks m (t.drop 48) := by
  unfold chunks
  rw [List.range_succ_eq_map, List.map_cons, List.map_map]
  congr 1
  apply List.map_congr_left
  intro i _
  show (t.drop (48 * (i + 1))).take 48 = ((t.drop 48).drop (48 * i)).take 48
  rw [List.drop_drop, show 48 * (i + 1) = 48 + 48 * i by omega]
theorem chunks_flat : ∀ ls : List (List UInt8), (∀ x ∈ ls, x.length = 48) → chunks ls.length ls.flatten = ls
  | [], _ => rfl
  | x :: ls, h => by
    have hx := h x (by simp)
    rw [List.length_cons, chunks_cons, List.flatten_cons, List.take_left' hx, List.drop_left' hx, chunks_flat ls (fun y hy => h y (by simp [hy]))]
theorem flat_chunks : ∀ (m : Nat) (t : List UInt8), t.length = 48 * m → (chunks m t).flatten = t
  | 0, t, h => by
    have : t = [] := List.length_eq_zero_iff.1 (by omega)
    subst this; rfl
  | m + 1, t, h => by rw [chunks_cons, List.flatten_cons, flat_chunks m (t.drop 48) (by simp; omega), List.take_append_drop]
theorem chunks_all {m : Nat} {t : List UInt8} (h : t.length = 48 * m) : ∀ x ∈ chunks m t, x.length = 48 := by
  intro x hx
  simp only [chunks, List.mem_map, List.mem_range] at hx
  obtain ⟨i, hi, rfl⟩ := hx
  simp; omega
theorem flat_len48 : ∀ ls : List (List UInt8), (∀ x ∈ ls, x.length = 48) → ls.flatten.length = 48 * ls.length
  | [], _ => rfl
  | x :: ls, h => by
    have hx := h x (by simp)
    have := flat_len48 ls (fun y hy => h y (by simp [hy]))
    rw [List.flatten_cons, List.length_append, List.length_cons]; omega
def headF (s : List UInt8) : List UInt8 := be 2 s.length ++ be 4 (crcN (be 2 s.length ++ s))
def bytesF (s : List UInt8) : List UInt8 := headF s ++ s
theorem headF_len (s : List UInt8) : (headF s).length = 6 := by simp [headF, be_length]
theorem bytesF_len (s : List UInt8) : (bytesF s).length = 6 + s.length := by simp [bytesF, headF_len]
def padF (s : List UInt8) : List UInt8 := bytesF s ++ List.replicate (48 * manyN s.length - (6 + s.length)) 0
theorem padF_len (s : List UInt8) : (padF s).length = 48 * manyN s.length := by
  have := manyN_room s.length
  rw [padF, List.length_append, bytesF_len, List.length_replicate]; omega
def piecesF (s : List UInt8) : List (List UInt8) := chunks (manyN s.length) (padF s)
theorem piecesF_len (s : List UInt8) : (piecesF s).length = manyN s.length := chunks_len _ _
def encF (s : List UInt8) : List (List UInt8) := if s.length ≤ 1000 then piecesF s else []
def encFE (s : List UInt8) : Int := if s.length ≤ 1000 then 0 else 4
theorem encF_yes {s : List UInt8} (h : s.length ≤ 1000) : encF s = piecesF s ∧ encFE s = 0 := by unfold encF encFE; rw [if_pos h, if_pos h]; exact ⟨rfl, rfl⟩
theorem encF_no {s : List UInt8} (h : ¬ s.length ≤ 1000) : encF s = [] ∧ encFE s = 4 := by unfold encF encFE; rw [if_neg h, if_neg h]; exact ⟨rfl, rfl⟩
def sizeF (p : List UInt8) : Nat := if p.length ≠ 48 ∨ 1000 < num (p.take 2) then 0 else num (p.take 2)
def sizeFE (p : List UInt8) : Int := if p.length ≠ 48 then 2 else if 1000 < num (p.take 2) then 4 else 0
theorem sizeF_le (p : List UInt8) : sizeF p ≤ 1000 := by unfold sizeF; split <;> omega
theorem sizeF_short {p : List UInt8} (h : p.length ≠ 48) : sizeF p = 0 ∧ sizeFE p = 2 := by unfold sizeF sizeFE; rw [if_pos (Or.inl h), if_pos h]; exact ⟨rfl, rfl⟩
theorem sizeF_long {p : List UInt8} (h : p.length = 48) (h1 : 1000 < num (p.take 2)) : sizeF p = 0 ∧ sizeFE p = 4 := by unfold sizeF sizeFE; rw [if_pos (Or.inr h1), if_neg (by omega), if_pos h1]; exact ⟨rfl, rfl⟩
theorem sizeF_ok {p : List UInt8} (h : p.length = 48) (h1 : ¬ 1000 < num (p.take 2)) : sizeF p = num (p.take 2) ∧ sizeFE p = 0 := by unfold sizeF sizeFE; rw [if_neg (by omega), if_neg (by omega), if_neg h1]; exact ⟨rfl, rfl⟩
theorem sizeFE_zero {p : List UInt8} (h : sizeFE p = 0) : p.length = 48 ∧ sizeF p = num (p.take 2) ∧ num (p.take 2) ≤ 1000 := by
  unfold sizeFE at h
  by_cases h1 : p.length = 48
  · by_cases h2 : 1000 < num (p.take 2)
    · rw [if_neg (by omega), if_pos h2] at h; cases h
    · exact ⟨h1, (sizeF_ok h1 h2).1, by omega⟩
  · rw [if_pos h1] at h; cases h
/-- The record with whose pieces a list begins: the record, how many pieces it has, the error. -/
def firstF (l : List (List UInt8)) : List UInt8 := l.headD []
def nF (l : List (List UInt8)) : Nat := sizeF (firstF l)
def mF (l : List (List UInt8)) : Nat := manyN (nF l)
def allF (l : List (List UInt8)) : List UInt8 := (l.take (mF l)).flatten
def recF (l : List (List UInt8)) : List UInt8 := ((allF l).drop 6).take (nF l)
/-- The first pieces are all of 48 bytes. -/
def fullF (l : List (List UInt8)) : Bool := (l.take (mF l)).all fun x => decide (x.length = 48)
def decE (l : List (List UInt8)) : Int :=
  if l = [] then 2 else if sizeFE (firstF l) ≠ 0 then sizeFE (firstF l) else if l.length < mF l then 2 else if fullF l = false then 2 else if allF l = padF (recF l) then 0 else 3
def decS (l : List (List UInt8)) : List UInt8 := if decE l = 0 then recF l else []
def decM (l : List (List UInt8)) : Nat := if decE l = 0 then mF l else 0
theorem fullF_all {l : List (List UInt8)} (h : fullF l = true) : ∀ x ∈ l.take (mF l), x.length = 48 := fun x hx => by
  have := List.all_eq_true.1 h x hx
  exact of_decide_eq_true this
theorem allF_len {l : List (List UInt8)} (h : fullF l = true) (hl : mF l ≤ l.length) : (allF l).length = 48 * mF l := by
  have := flat_len48 _ (fullF_all h)
  rw [List.length_take, Nat.min_eq_left hl] at this
  exact this
theorem recF_len {l : List (List UInt8)} (h : fullF l = true) (hl : mF l ≤ l.length) : (recF l).length = nF l := by
  have h1 := allF_len h hl
  have h2 := manyN_room (nF l)
  unfold recF
  rw [List.length_take, List.length_drop, h1]
  unfold mF
  omega
/-- What the program looks at: the sum, and that the rest is bytes 0. -/
theorem pad_cases {l : List (List UInt8)} (h : fullF l = true) (hl : mF l ≤ l.length) (hn : sizeFE (firstF l) = 0) (h0 : l ≠ []) :
    (allF l = padF (recF l) ↔ num (((allF l).drop 2).take 4) = crcN ((allF l).take 2 ++ recF l) ∧ ∀ x ∈ (allF l).drop (6 + nF l), x = 0) := by
  have h1 := allF_len h hl
  have h2 := manyN_room (nF l)
  have h3 := recF_len h hl
  have hm : mF l = manyN (nF l) := rfl
  have hmp := manyN_pos (nF l)
  have h4 : (allF l).take 2 = be 2 (nF l) := by
    obtain ⟨p, r, rfl⟩ : ∃ p r, l = p :: r := by cases l with | nil => exact absurd rfl h0 | cons p r => exact ⟨p, r, rfl⟩
    obtain ⟨g1, g2, g3⟩ := sizeFE_zero hn
    have g4 : (allF (p :: r)).take 2 = p.take 2 := by
      unfold allF
      obtain ⟨k, hk⟩ : ∃ k, mF (p :: r) = k + 1 := ⟨mF (p :: r) - 1, by omega⟩
      rw [hk, List.take_succ_cons, List.flatten_cons, List.take_append_of_le_length (by have : p.length = 48 := g1; omega)]
    have g5 : nF (p :: r) = num (p.take 2) := g2
    rw [g4, g5]
    have := be_num (p.take 2)
    have hp : p.length = 48 := g1
    rw [show (p.take 2).length = 2 by simp; omega] at this
    exact this.symm
  have e0 : allF l = (allF l).take 2 ++ ((allF l).drop 2).take 4 ++ recF l ++ (allF l).drop (6 + nF l) := by
    have a1 : (allF l).drop 6 = recF l ++ (allF l).drop (6 + nF l) := by
      unfold recF
      rw [show (allF l).drop (6 + nF l) = ((allF l).drop 6).drop (nF l) by rw [List.drop_drop], List.take_append_drop]
    have a2 : (allF l).drop 2 = ((allF l).drop 2).take 4 ++ (allF l).drop 6 := by
      rw [show (allF l).drop 6 = ((allF l).drop 2).drop 4 by rw [List.drop_drop], List.take_append_drop]
    rw [List.append_assoc, List.append_assoc, ← a1, ← a2, List.take_append_drop]
  have l1 : ((allF l).take 2).length = 2 := by rw [List.length_take, h1, hm]; omega
  have l2 : (((allF l).drop 2).take 4).length = 4 := by rw [List.length_take, List.length_drop, h1, hm]; omega
  have l3 : ((allF l).drop (6 + nF l)).length = 48 * manyN (nF l) - (6 + nF l) := by rw [List.length_drop, h1, hm]
  have e1 : padF (recF l) = be 2 (nF l) ++ be 4 (crcN (be 2 (nF l) ++ recF l)) ++ recF l ++ List.replicate (48 * manyN (nF l) - (6 + nF l)) 0 := by
    unfold padF bytesF headF; rw [h3]
  rw [e1, ← h4]
  constructor
  · intro e
    have e := e0.symm.trans e
    have b1 : ((allF l).take 2 ++ ((allF l).drop 2).take 4 ++ recF l).length = ((allF l).take 2 ++ be 4 (crcN ((allF l).take 2 ++ recF l)) ++ recF l).length := by
      simp only [List.length_append, be_length, l2]
    have hbig := List.append_inj e b1
    obtain ⟨c1, c2⟩ := hbig
    have d1 := List.append_inj' c1 rfl
    have d2 := List.append_inj' d1.1 (by rw [l2, be_length])
    have p4 : 256 ^ 4 = 4294967296 := by decide
    have hc4 := crcN_lt ((allF l).take 2 ++ recF l)
    refine ⟨?_, ?_⟩
    · have d3 := num_be 4 (crcN ((allF l).take 2 ++ recF l)) (by rw [p4]; exact hc4)
      exact (congrArg num d2.2).trans d3
    · rw [c2]
      intro x hx
      exact List.eq_of_mem_replicate hx
  · rintro ⟨c1, c2⟩
    have d1 : ((allF l).drop 2).take 4 = be 4 (crcN ((allF l).take 2 ++ recF l)) := by
      have := be_num (((allF l).drop 2).take 4)
      rw [l2, c1] at this
      exact this.symm
    have d2 : (allF l).drop (6 + nF l) = List.replicate (48 * manyN (nF l) - (6 + nF l)) 0 := List.eq_replicate_iff.2 ⟨l3, c2⟩
    rw [← d1, ← d2]
    exact e0

end
end Go.Proofs.YtbblkgdejgoncaaDoor
