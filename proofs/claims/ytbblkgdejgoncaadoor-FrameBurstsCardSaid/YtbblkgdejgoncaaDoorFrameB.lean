/- Pieces of which bits are turned that all lie in the sum, or all behind it within 32 in a row, never tell a record: in plain lists. -/
import Derived.Test.YtbblkgdejgoncaaDoorFrameL
import Derived.Test.YtbblkgdejgoncaaDoorSumBits
set_option linter.unusedSimpArgs false
set_option linter.unusedVariables false
namespace Go.Proofs.YtbblkgdejgoncaaDoor
open Go Go.RowKit

section



theorem modify_app {α : Type} (f : α → α) (l : List α) (k : Nat) : ∀ p : List α, (p ++ l).modify (p.length + k) f = p ++ l.modify k f
  | [] => by simp
  | x :: p => by
    rw [List.cons_append, List.length_cons, show p.length + 1 + k = p.length + k + 1 by omega, List.modify_succ_cons, modify_app f l k p, List.cons_append]
theorem modify_left {α : Type} (f : α → α) (r : List α) : ∀ (q : List α) (k : Nat), k < q.length → (q ++ r).modify k f = q.modify k f ++ r
  | [], _, h => by cases h
  | x :: q, 0, _ => by simp
  | x :: q, k + 1, h => by
    rw [List.cons_append, List.modify_succ_cons, modify_left f r q k (by simpa using h), List.modify_succ_cons, List.cons_append]
theorem burst_app (p l : List UInt8) (a t : Nat) : ∀ i, burst (p ++ l) (8 * p.length + a) t i = p ++ burst l a t i
  | 0 => rfl
  | i + 1 => by
    rw [burst, burst, burst_app p l a t i, show (8 * p.length + a + i) / 8 = p.length + (a + i) / 8 by omega, show (8 * p.length + a + i) % 8 = (a + i) % 8 by omega, modify_app]
    split <;> rfl
theorem burst_left (q r : List UInt8) (a t : Nat) : ∀ i, a + i ≤ 8 * q.length → burst (q ++ r) a t i = burst q a t i ++ r
  | 0, _ => rfl
  | i + 1, h => by
    rw [burst, burst, burst_left q r a t i (by omega), modify_left _ _ _ _ (by rw [burst_length]; omega)]
    split <;> rfl
theorem burst_ne {l : List UInt8} {a t : Nat} (h : a + 32 ≤ 8 * l.length) (ht : t ≠ 0) (ht1 : t < 4294967296) : burst l a t 32 ≠ l := fun e =>
  burst_other 0 l a t h ht ht1 (by rw [e])
theorem padF_parts (s : List UInt8) : padF s = be 2 s.length ++ (be 4 (crcN (be 2 s.length ++ s)) ++ (s ++ List.replicate (48 * manyN s.length - (6 + s.length)) 0)) := by
  unfold padF bytesF headF
  simp only [List.append_assoc]
theorem burst_pad {s s' : List UInt8} {a t : Nat} (hs : s'.length = s.length) (ha : a = 16 ∨ 48 ≤ a) (hb : a + 32 ≤ 8 * (padF s).length) (ht : t ≠ 0) (ht1 : t < 4294967296) : burst (padF s) a t 32 ≠ padF s' := by
  intro e
  have l4 := be_length 4 (crcN (be 2 s.length ++ s))
  have l4' := be_length 4 (crcN (be 2 s.length ++ s'))
  have l2 := be_length 2 s.length
  have hpl := padF_len s
  rw [padF_parts s', hs] at e
  rcases ha with rfl | ha
  · rw [padF_parts s, show 16 = 8 * (be 2 s.length).length + 0 by rw [l2], burst_app, burst_left _ _ _ _ _ (by omega)] at e
    have e1 := List.append_cancel_left e
    obtain ⟨e2, e3⟩ := List.append_inj e1 (by rw [burst_length, l4, l4'])
    have e4 := (List.append_inj e3 hs.symm).1
    subst e4
    exact burst_ne (by omega) ht ht1 e2
  · obtain ⟨k, rfl⟩ : ∃ k, a = 48 + k := ⟨a - 48, by omega⟩
    rw [padF_parts s, ← List.append_assoc, show 48 + k = 8 * (be 2 s.length ++ be 4 (crcN (be 2 s.length ++ s))).length + k by rw [List.length_append, l2, l4], burst_app, List.append_assoc] at e
    have e1 := List.append_cancel_left e
    obtain ⟨e2, e3⟩ := List.append_inj e1 (by rw [l4, l4'])
    have p4 : 256 ^ 4 = 4294967296 := by decide
    have c1 := crcN_lt (be 2 s.length ++ s)
    have c2 := crcN_lt (be 2 s.length ++ s')
    have n1 := num_be 4 (crcN (be 2 s.length ++ s)) (by rw [p4]; exact c1)
    have n2 := num_be 4 (crcN (be 2 s.length ++ s')) (by rw [p4]; exact c2)
    have n3 : crcN (be 2 s.length ++ s) = crcN (be 2 s.length ++ s') := by rw [← n1, e2, n2]
    have n4 : sumCrc 4294967295#32 (be 2 s.length ++ s) = sumCrc 4294967295#32 (be 2 s.length ++ s') := BitVec.eq_of_toNat_eq n3
    have hz := padF_len s
    rw [padF_parts s] at hz
    simp only [List.length_append, l2, l4] at hz
    refine burst_other 4294967295#32 (be 2 s.length ++ (s ++ List.replicate (48 * manyN s.length - (6 + s.length)) 0)) (8 * (be 2 s.length).length + k) t (by simp only [List.length_append, l2]; omega) ht ht1 ?_
    rw [burst_app, e3, ← List.append_assoc, ← List.append_assoc, sumCrc_append, sumCrc_append _ (be 2 s.length ++ s), n4]
theorem burst_head (s : List UInt8) {a t : Nat} (ha : 16 ≤ a) : (burst (padF s) a t 32).take 2 = be 2 s.length := by
  have l2 := be_length 2 s.length
  obtain ⟨k, rfl⟩ : ∃ k, a = 16 + k := ⟨a - 16, by omega⟩
  rw [padF_parts s, show 16 + k = 8 * (be 2 s.length).length + k by rw [l2], burst_app, List.take_left' l2]
/-- Pieces of which bits are turned tell no record. -/
theorem dec_burst {s : List UInt8} {a t : Nat} (h : s.length ≤ 1000) (ha : a = 16 ∨ 48 ≤ a) (hb : a + 32 ≤ 8 * (padF s).length) (ht : t ≠ 0) (ht1 : t < 4294967296) :
    decS (chunks (manyN s.length) (burst (padF s) a t 32)) = [] ∧ decM (chunks (manyN s.length) (burst (padF s) a t 32)) = 0 ∧ decE (chunks (manyN s.length) (burst (padF s) a t 32)) = 3 := by
  have hbl : (burst (padF s) a t 32).length = 48 * manyN s.length := by rw [burst_length]; exact padF_len s
  have hhd := burst_head s (a := a) (t := t) (by omega)
  have hne := fun s' (hs : s'.length = s.length) => burst_pad (s := s) (s' := s') (a := a) (t := t) hs ha hb ht ht1
  generalize hB : burst (padF s) a t 32 = B at hbl hhd hne
  have hr := manyN_room s.length
  obtain ⟨k, hk⟩ : ∃ k, manyN s.length = k + 1 := ⟨manyN s.length - 1, by omega⟩
  generalize hL : chunks (manyN s.length) B = ls
  have hll : ls.length = manyN s.length := by rw [← hL, chunks_len]
  have hf : firstF ls = B.take 48 := by rw [← hL, hk, chunks_cons]; rfl
  have h48 : (B.take 48).length = 48 := by rw [List.length_take]; omega
  have h2 : num ((B.take 48).take 2) = s.length := by
    rw [List.take_take, show min 2 48 = 2 from rfl, hhd]
    exact num_be 2 _ (fit2 (by omega))
  have hs : sizeF (firstF ls) = s.length ∧ sizeFE (firstF ls) = 0 := by
    rw [hf]
    obtain ⟨a, b⟩ := sizeF_ok (p := B.take 48) h48 (by omega)
    exact ⟨a.trans h2, b⟩
  have hn : nF ls = s.length := hs.1
  have hm : mF ls = manyN s.length := by unfold mF; rw [hn]
  have htk : ls.take (mF ls) = ls := by rw [hm, List.take_of_length_le (by omega)]
  have hal : allF ls = B := by
    unfold allF; rw [htk, ← hL]; exact flat_chunks _ _ hbl
  have hfu : fullF ls = true := by
    unfold fullF; rw [htk, ← hL]
    exact List.all_eq_true.2 fun x hx => decide_eq_true (chunks_all hbl x hx)
  have hrl := recF_len hfu (by omega)
  exact dec_form (ls := ls) (by omega) hs.2 (by omega) hfu (by rw [hal]; exact hne _ (hrl.trans hn))

end
end Go.Proofs.YtbblkgdejgoncaaDoor
