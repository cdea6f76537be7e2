/- What was read without an error is what the bytes begin with, written. -/
import Derived.Test.YtkekkalgebgokaaRead2
set_option linter.unusedSimpArgs false
set_option linter.unusedVariables false
namespace Go.Proofs.Ytkekkalgebgokaa
open Go Go.RowKit

section



theorem untext_back (l : List UInt8) (most : Int) (s : List UInt8) (n : Nat) (h : untext l most = (s, n, 0)) : l = text s ++ l.drop n := by
  obtain ⟨v, k, e, hu⟩ : ∃ v n e, unchain l = (v, n, e) := ⟨_, _, _, rfl⟩
  obtain ⟨_, hb⟩ := unchain_bd hu
  by_cases he : e = 0
  · subst he
    by_cases hm : most < 0 ∨ most < (v : Int)
    · rw [untext_long l most v k hu hm] at h; simp at h
    · by_cases hs : l.length - k < v
      · rw [untext_short l most v k hu hm hs] at h; simp at h
      · rw [untext_yes l most v k hu hm hs] at h
        simp only [Prod.mk.injEq, and_true] at h
        obtain ⟨rfl, rfl⟩ := h
        have hc := chain_unchain l v k hu
        have hl : ((l.drop k).take v).length = v := by simp; omega
        unfold text
        rw [hl, hc, List.append_assoc, ← List.drop_drop, List.take_append_drop, List.take_append_drop]
  · rw [untext_err l most v k e hu he] at h
    simp only [Prod.mk.injEq] at h
    exact absurd h.2.2 he
theorem rdStr_back {most : Int} {l : List UInt8} {e : Nat} (h : (rdStr most l e).2.2 = 0) : e = 0 ∧ l = text (rdStr most l e).1 ++ (rdStr most l e).2.1 := by
  by_cases he : e = 0
  · subst he
    refine ⟨rfl, ?_⟩
    obtain ⟨s, n, e1, hu⟩ : ∃ v n e1, untext l most = (v, n, e1) := ⟨_, _, _, rfl⟩
    by_cases h1 : e1 = 0
    · subst h1
      rw [rdStr_ok most l s n hu]
      exact untext_back l most s n hu
    · rw [rdStr_bad most l s n e1 hu h1] at h; exact absurd h h1
  · rw [rdStr_err most l e he] at h; exact absurd h he
theorem rdNum_back {l : List UInt8} {e : Nat} (h : (rdNum l e).2.2 = 0) : e = 0 ∧ l = chainI ((rdNum l e).1 : Nat) ++ (rdNum l e).2.1 := by
  by_cases he : e = 0
  · subst he
    refine ⟨rfl, ?_⟩
    obtain ⟨v, n, e1, hu⟩ : ∃ v n e1, unchain l = (v, n, e1) := ⟨_, _, _, rfl⟩
    by_cases h1 : e1 = 0
    · subst h1
      rw [rdNum_ok l v n hu]
      show l = chain v ++ l.drop n
      rw [chain_unchain l v n hu, List.take_append_drop]
    · rw [rdNum_bad l v n e1 hu h1] at h; exact absurd h h1
  · rw [rdNum_err l e he] at h; exact absurd h he
theorem rdInt_back {most : Int} {l : List UInt8} {e : Nat} (h : (rdInt most l e).2.2 = 0) : e = 0 ∧ l = chainI ((rdInt most l e).1 : Nat) ++ (rdInt most l e).2.1 := by
  by_cases he : e = 0
  · subst he
    refine ⟨rfl, ?_⟩
    obtain ⟨v, n, e1, hu⟩ : ∃ v n e1, unchain l = (v, n, e1) := ⟨_, _, _, rfl⟩
    by_cases h1 : e1 = 0
    · subst h1
      by_cases hl : most < 0 ∨ most < (v : Int)
      · rw [rdInt_long most l v n hu hl] at h; simp at h
      · rw [rdInt_ok most l v n hu hl]
        show l = chain v ++ l.drop n
        rw [chain_unchain l v n hu, List.take_append_drop]
    · rw [rdInt_bad most l v n e1 hu h1] at h; exact absurd h h1
  · rw [rdInt_err most l e he] at h; exact absurd h he
theorem rdFlag_back {l : List UInt8} {e : Nat} (h : (rdFlag l e).2.2 = 0) : e = 0 ∧ l = chainI (if (rdFlag l e).1 then 1 else 0) ++ (rdFlag l e).2.1 := by
  by_cases he : e = 0
  · subst he
    refine ⟨rfl, ?_⟩
    obtain ⟨v, n, e1, hu⟩ : ∃ v n e1, unchain l = (v, n, e1) := ⟨_, _, _, rfl⟩
    by_cases h1 : e1 = 0
    · subst h1
      by_cases hl : 1 < v
      · rw [rdFlag_long l v n hu hl] at h; simp at h
      · rw [rdFlag_ok l v n hu hl]
        have hv : chainI (if (v == 1) = true then 1 else 0) = chain v := by
          rcases (by omega : v = 0 ∨ v = 1) with rfl | rfl <;> rfl
        simp only
        rw [hv, chain_unchain l v n hu, List.take_append_drop]
    · rw [rdFlag_bad l v n e1 hu h1] at h; exact absurd h h1
  · rw [rdFlag_err l e he] at h; exact absurd h he
theorem rdEnd_back {l : List UInt8} {e : Nat} (h : rdEnd l e = 0) : e = 0 ∧ l = [] := by
  unfold rdEnd at h
  by_cases he : e = 0
  · rw [if_neg (by omega)] at h
    by_cases hl : l = []
    · exact ⟨he, hl⟩
    · rw [if_neg hl] at h; omega
  · rw [if_pos he] at h; exact absurd h he
theorem rdStr_text (most : Int) (s rest : List UInt8) (h : (s.length : Int) ≤ most) (h64 : s.length < 18446744073709551616) : rdStr most (text s ++ rest) 0 = (s, rest, 0) := by
  rw [rdStr_ok most _ s (text s).length (untext_text s rest most h h64), List.drop_left]
theorem rdInt_chain (most x : Int) (rest : List UInt8) (h0 : 0 ≤ x) (h1 : x ≤ most) (h2 : x < 18446744073709551616) : rdInt most (chainI x ++ rest) 0 = (x.toNat, rest, 0) := by
  unfold chainI
  rw [rdInt_ok most _ x.toNat (chain x.toNat).length (unchain_chain x.toNat rest (by unfold U64; omega)) (by omega), List.drop_left]
theorem rdNum_chain (n : Nat) (rest : List UInt8) (h : n < 18446744073709551616) : rdNum (chainI (n : Int) ++ rest) 0 = (n, rest, 0) := by
  have e : chainI (n : Int) = chain n := rfl
  rw [e, rdNum_ok _ n (chain n).length (unchain_chain n rest h), List.drop_left]
theorem rdFlag_chain (b : Bool) (rest : List UInt8) : rdFlag (chainI (if b then 1 else 0) ++ rest) 0 = (b, rest, 0) := by
  cases b
  · have e : chainI (if false = true then 1 else 0) = chain 0 := rfl
    rw [e, rdFlag_ok _ 0 (chain 0).length (unchain_chain 0 rest (by unfold U64; omega)) (by omega), List.drop_left]; rfl
  · have e : chainI (if true = true then 1 else 0) = chain 1 := rfl
    rw [e, rdFlag_ok _ 1 (chain 1).length (unchain_chain 1 rest (by unfold U64; omega)) (by omega), List.drop_left]; rfl

end
end Go.Proofs.Ytkekkalgebgokaa
