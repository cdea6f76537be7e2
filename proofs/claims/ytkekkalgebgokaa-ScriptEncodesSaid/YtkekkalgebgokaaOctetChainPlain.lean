/- Chains told back: plain facts on unchain and chain. No program in sight. -/
import Derived.Test.YtkekkalgebgokaaOctetPlain
namespace Go.Proofs.Ytkekkalgebgokaa
open Go Go.RowKit

theorem pow128_le (i : Nat) (h : i ≤ 9) : (128 : Nat) ^ i ≤ 128 ^ 9 := Nat.pow_le_pow_right (by omega) h

/-- What unch can answer. -/
def UnchOk (i : Nat) (l : List UInt8) (r : Nat × Nat × Nat) : Prop :=
  U64 r.1 ∧ ((r.2.2 = 0 ∧ i + 1 ≤ r.2.1 ∧ r.2.1 ≤ 10 ∧ r.2.1 ≤ i + l.length) ∨ (r.2.2 = 2 ∧ r.1 = 0 ∧ r.2.1 = 0) ∨ (r.2.2 = 3 ∧ r.1 = 0 ∧ r.2.1 = 0))

theorem unch_ok (l : List UInt8) : ∀ (i v : Nat), i ≤ 10 → (i ≤ 9 → v < 128 ^ i) → UnchOk i l (unch i v l) := by
  induction l with
  | nil =>
    intro i v hi _
    rw [unch]
    split
    · exact ⟨by unfold U64; omega, .inr (.inr ⟨rfl, rfl, rfl⟩)⟩
    · exact ⟨by unfold U64; omega, .inr (.inl ⟨rfl, rfl, rfl⟩)⟩
  | cons c r ih =>
    intro i v hi hv
    by_cases h10 : 10 ≤ i
    · obtain rfl : i = 10 := by omega
      rw [unch_ten]
      exact ⟨by unfold U64; omega, .inr (.inr ⟨rfl, rfl, rfl⟩)⟩
    · have hc := c.toNat_lt
      by_cases h : 128 ≤ c.toNat
      · rw [unch_more i v c r (by omega) h]
        have := ih (i + 1) (v + (c.toNat - 128) * 128 ^ i) (by omega) (fun h9 => by
          have h1 := hv (by omega)
          rw [Nat.pow_succ]
          have h2 : (c.toNat - 128) * 128 ^ i ≤ 127 * 128 ^ i := Nat.mul_le_mul_right _ (by omega)
          generalize (c.toNat - 128) * 128 ^ i = p at *
          generalize (128 : Nat) ^ i = q at *
          omega)
        obtain ⟨h1, h2⟩ := this
        refine ⟨h1, ?_⟩
        rcases h2 with ⟨a, b, c1, d⟩ | h2 | h2
        · exact .inl ⟨a, by omega, c1, by simp; omega⟩
        · exact .inr (.inl h2)
        · exact .inr (.inr h2)
      · by_cases hb : (0 < i ∧ c.toNat = 0) ∨ (i = 9 ∧ 1 < c.toNat)
        · rw [unch_bad i v c r (by omega) (by omega) hb]
          exact ⟨by unfold U64; omega, .inr (.inr ⟨rfl, rfl, rfl⟩)⟩
        · rw [unch_last i v c r (by omega) (by omega) hb]
          refine ⟨?_, .inl ⟨rfl, Nat.le_refl _, by simp; omega, by simp⟩⟩
          unfold U64
          have h1 := hv (by omega)
          by_cases h9 : i = 9
          · subst h9
            have : c.toNat ≤ 1 := by omega
            have h2 : c.toNat * 128 ^ 9 ≤ 1 * 128 ^ 9 := Nat.mul_le_mul_right _ this
            simp only
            omega
          · have h2 : c.toNat * 128 ^ i ≤ 127 * 128 ^ i := Nat.mul_le_mul_right _ (by omega)
            have h3 : (128 : Nat) ^ i ≤ 128 ^ 8 := Nat.pow_le_pow_right (by omega) (by omega)
            show v + c.toNat * 128 ^ i < 18446744073709551616
            generalize c.toNat * 128 ^ i = p at *
            generalize (128 : Nat) ^ i = q at *
            omega
theorem unchain_ok (l : List UInt8) : UnchOk 0 l (unchain l) := unch_ok l 0 0 (by omega) (fun _ => by omega)

theorem unch_chain (m : List UInt8) : ∀ (n i a v : Nat), v ≤ n → v * 128 ^ i < 18446744073709551616 → (0 < i → 1 ≤ v) → unch i a (chain v ++ m) = (a + v * 128 ^ i, i + (chain v).length, 0) := by
  intro n
  induction n with
  | zero =>
    intro i a v hn hv hi
    obtain rfl : v = 0 := by omega
    have : i = 0 := by
      by_cases h : i = 0
      · exact h
      · have := hi (by omega); omega
    subst this
    rw [chain_small 0 (by omega)]
    rfl
  | succ n ih =>
    intro i a v hn hv hi
    have hi9 : i ≤ 9 := by
      by_cases h : i ≤ 9
      · exact h
      · have h1 := hi (by omega)
        have h2 : (128 : Nat) ^ 10 ≤ 128 ^ i := Nat.pow_le_pow_right (by omega) (by omega)
        have h3 : 1 * 128 ^ i ≤ v * 128 ^ i := Nat.mul_le_mul_right _ h1
        omega
    by_cases h : v < 128
    · rw [chain_small v h, List.singleton_append]
      have e : (UInt8.ofNat v).toNat = v := by rw [UInt8.toNat_ofNat']; omega
      rw [unch_last i a _ m (by omega) (by omega) ?_, e]
      · simp
      · rw [e]
        rintro (⟨h1, h2⟩ | ⟨h1, h2⟩)
        · have := hi h1; omega
        · subst h1
          have : 2 * 128 ^ 9 ≤ v * 128 ^ 9 := Nat.mul_le_mul_right _ h2
          omega
    · rw [chain_big v (by omega), List.cons_append]
      have e : (UInt8.ofNat (v % 128 + 128)).toNat = v % 128 + 128 := by rw [UInt8.toNat_ofNat']; omega
      rw [unch_more i a _ _ (by omega) (by omega), e]
      have h1 : v / 128 * 128 ^ (i + 1) = v / 128 * 128 * 128 ^ i := by rw [Nat.pow_succ, Nat.mul_assoc, Nat.mul_comm 128]
      have h2 : v / 128 * 128 * 128 ^ i ≤ v * 128 ^ i := Nat.mul_le_mul_right _ (Nat.div_mul_le_self v 128)
      rw [ih (i + 1) _ (v / 128) (by omega) (by omega) (fun _ => by omega)]
      have h3 : v * 128 ^ i = v % 128 * 128 ^ i + v / 128 * 128 * 128 ^ i := by
        rw [← Nat.add_mul]; congr 1; omega
      rw [h1, h3, List.length_cons]
      have h4 : v % 128 + 128 - 128 = v % 128 := by omega
      rw [h4, Nat.add_assoc, show i + 1 + (chain (v / 128)).length = i + ((chain (v / 128)).length + 1) by omega]
theorem unchain_chain (v : Nat) (m : List UInt8) (h : U64 v) : unchain (chain v ++ m) = (v, (chain v).length, 0) := by
  have := unch_chain m v 0 0 v (Nat.le_refl _) (by unfold U64 at h; omega) (fun h => by omega)
  simpa [unchain] using this

theorem chain_unch (l : List UInt8) : ∀ (i a a' n : Nat), unch i a l = (a', n, 0) → ∃ v, a' = a + v * 128 ^ i ∧ (0 < i → 0 < v) ∧ i + 1 ≤ n ∧ chain v = l.take (n - i) := by
  induction l with
  | nil =>
    intro i a a' n h
    rw [unch] at h
    split at h <;> simp at h
  | cons c r ih =>
    intro i a a' n h
    have hc := c.toNat_lt
    by_cases h10 : 10 ≤ i
    · rw [unch, if_pos h10] at h; simp at h
    · by_cases h128 : 128 ≤ c.toNat
      · rw [unch_more i a c r (by omega) h128] at h
        obtain ⟨v, h1, h2, h3, h4⟩ := ih _ _ _ _ h
        have hv := h2 (by omega)
        refine ⟨c.toNat - 128 + 128 * v, ?_, fun _ => by omega, by omega, ?_⟩
        · rw [h1, Nat.pow_succ, Nat.add_mul, Nat.add_assoc]
          congr 2
          rw [Nat.mul_comm (128 ^ i), Nat.mul_comm 128 v, Nat.mul_assoc]
        · rw [chain_big _ (by omega), show (c.toNat - 128 + 128 * v) / 128 = v by omega, show (c.toNat - 128 + 128 * v) % 128 + 128 = c.toNat by omega, h4,
            show n - i = (n - (i + 1)) + 1 by omega, List.take_succ_cons]
          congr 1
          exact UInt8.toNat_inj.1 (by rw [UInt8.toNat_ofNat']; omega)
      · by_cases hb : (0 < i ∧ c.toNat = 0) ∨ (i = 9 ∧ 1 < c.toNat)
        · rw [unch_bad i a c r (by omega) (by omega) hb] at h; simp at h
        · rw [unch_last i a c r (by omega) (by omega) hb] at h
          simp only [Prod.mk.injEq] at h
          obtain ⟨rfl, rfl, _⟩ := h
          refine ⟨c.toNat, rfl, fun h => by omega, Nat.le_refl _, ?_⟩
          rw [chain_small _ (by omega), show i + 1 - i = 1 by omega]
          simp
theorem chain_unchain (l : List UInt8) (v n : Nat) (h : unchain l = (v, n, 0)) : chain v = l.take n := by
  obtain ⟨v', h1, _, _, h4⟩ := chain_unch l 0 0 v n h
  simp at h1
  subst h1
  simpa using h4

/-- A text with its length. -/
def text (l : List UInt8) : List UInt8 := chain l.length ++ l
/-- The text with which some bytes begin: the text, all its bytes, the error's number. -/
def untext (l : List UInt8) (most : Int) : List UInt8 × Nat × Nat :=
  match unchain l with
  | (v, n, e) =>
    if e ≠ 0 then ([], 0, e)
    else if most < 0 ∨ most < (v : Int) then ([], 0, 4)
    else if l.length - n < v then ([], 0, 2)
    else ((l.drop n).take v, n + v, 0)
theorem untext_err (l : List UInt8) (most : Int) (v n e : Nat) (h : unchain l = (v, n, e)) (he : e ≠ 0) : untext l most = ([], 0, e) := by
  simp [untext, h, he]
theorem untext_long (l : List UInt8) (most : Int) (v n : Nat) (h : unchain l = (v, n, 0)) (hm : most < 0 ∨ most < (v : Int)) : untext l most = ([], 0, 4) := by
  simp [untext, h, hm]
theorem untext_short (l : List UInt8) (most : Int) (v n : Nat) (h : unchain l = (v, n, 0)) (hm : ¬ (most < 0 ∨ most < (v : Int))) (hs : l.length - n < v) : untext l most = ([], 0, 2) := by
  unfold untext
  rw [h]
  simp only [ne_eq, not_true_eq_false, if_false]
  rw [if_neg hm, if_pos hs]
theorem untext_yes (l : List UInt8) (most : Int) (v n : Nat) (h : unchain l = (v, n, 0)) (hm : ¬ (most < 0 ∨ most < (v : Int))) (hs : ¬ l.length - n < v) : untext l most = ((l.drop n).take v, n + v, 0) := by
  unfold untext
  rw [h]
  simp only [ne_eq, not_true_eq_false, if_false]
  rw [if_neg hm, if_neg hs]
theorem untext_text (l m : List UInt8) (most : Int) (hl : (l.length : Int) ≤ most) (h64 : U64 l.length) : untext (text l ++ m) most = (l, (text l).length, 0) := by
  have h1 : unchain (text l ++ m) = (l.length, (chain l.length).length, 0) := by
    rw [text, List.append_assoc]; exact unchain_chain _ _ h64
  rw [untext_yes _ _ _ _ h1 (by omega) (by simp [text])]
  simp [text]

end Go.Proofs.Ytkekkalgebgokaa
