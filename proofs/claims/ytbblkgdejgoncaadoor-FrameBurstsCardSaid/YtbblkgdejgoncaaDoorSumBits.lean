/- The sum told bit by bit; texts that differ within 32 bits in a row have other sums. Plain: no program in sight. -/
import Derived.Test.YtbblkgdejgoncaaDoorSumPlain
namespace Go.Proofs.YtbblkgdejgoncaaDoor
open Go

def burst (l : List UInt8) (a t : Nat) : Nat → List UInt8
  | 0 => l
  | i + 1 => if t / 2 ^ i % 2 = 1 then (burst l a t i).modify ((a + i) / 8) (fun b => b ^^^ (1 <<< UInt8.ofNat (7 - (a + i) % 8))) else burst l a t i
theorem burst_length (l : List UInt8) (a t : Nat) : ∀ i, (burst l a t i).length = l.length
  | 0 => rfl
  | i + 1 => by
    rw [burst]
    split
    · rw [List.length_modify, burst_length l a t i]
    · exact burst_length l a t i

theorem xor4 (q r p : BitVec 32) (a b : Bool) : (q ^^^ r) ^^^ (if (a ^^ b) then p else 0) = (q ^^^ (if a then p else 0)) ^^^ (r ^^^ (if b then p else 0)) := by
  have h : ∀ z : BitVec 32, p ^^^ (p ^^^ z) = z := fun z => by rw [← BitVec.xor_assoc, BitVec.xor_self, BitVec.zero_xor]
  cases a <;> cases b <;> simp
  · ac_rfl
  · ac_rfl
  · rw [show q ^^^ p ^^^ (r ^^^ p) = p ^^^ (p ^^^ (q ^^^ r)) by ac_rfl, h]
theorem sumT_xor (x y : BitVec 32) : sumT (x ^^^ y) = sumT x ^^^ sumT y := by
  have hs : (x ^^^ y) <<< 1 = (x <<< 1) ^^^ (y <<< 1) := BitVec.shiftLeft_xor_distrib x y 1
  unfold sumT
  rw [BitVec.msb_xor, hs, xor4]
theorem sumT_zero : sumT 0 = 0 := by decide
theorem sumT_inj0 (x : BitVec 32) (h : sumT x = 0) : x = 0 := by
  unfold sumT at h
  cases hm : x.msb
  · rw [hm] at h
    simp at h
    apply BitVec.eq_of_getLsbD_eq
    intro i hi
    by_cases h31 : i = 31
    · subst h31
      have : x.getLsbD 31 = x.msb := by rw [BitVec.msb_eq_getLsbD_last]
      rw [this, hm]; simp
    · have := congrArg (fun z => z.getLsbD (i + 1)) h
      simp only [BitVec.getLsbD_shiftLeft] at this
      simpa [show i + 1 < 32 by omega] using this
  · rw [hm] at h
    have := congrArg (fun z => z.getLsbD 0) h
    simp at this
theorem sumTn_succ' (n : Nat) (x : BitVec 32) : sumTn (n + 1) x = sumTn n (sumT x) := by
  induction n with
  | zero => rfl
  | succ n ih => rw [sumTn, ih, sumTn]
theorem sumTn_inj0 (n : Nat) (x : BitVec 32) (h : sumTn n x = 0) : x = 0 := by
  induction n with
  | zero => exact h
  | succ n ih => exact ih (sumT_inj0 _ h)

/-- A bit is fed. -/
def sumF (x : BitVec 32) (b : Bool) : BitVec 32 := sumT x ^^^ (if b then 0x04c11db7#32 else 0)
/-- So many bits are fed. -/
def sumG (f : Nat → Bool) : Nat → BitVec 32 → BitVec 32
  | 0, x => x
  | n + 1, x => sumF (sumG f n x) (f n)
theorem sumG_congr {f g : Nat → Bool} (n : Nat) (x : BitVec 32) (h : ∀ j, j < n → f j = g j) : sumG f n x = sumG g n x := by
  induction n with
  | zero => rfl
  | succ n ih => rw [sumG, sumG, ih (fun j hj => h j (by omega)), h n (by omega)]
theorem sumG_add (f : Nat → Bool) (m n : Nat) (x : BitVec 32) : sumG f (m + n) x = sumG (fun j => f (m + j)) n (sumG f m x) := by
  induction n with
  | zero => rfl
  | succ n ih => rw [show m + (n + 1) = (m + n) + 1 by omega, sumG, sumG, ih]
theorem sumG_xor (f g : Nat → Bool) (n : Nat) (x y : BitVec 32) : sumG (fun j => f j ^^ g j) n (x ^^^ y) = sumG f n x ^^^ sumG g n y := by
  induction n with
  | zero => rfl
  | succ n ih =>
    rw [sumG, sumG, sumG, ih, sumF, sumF, sumF, sumT_xor, xor4]
theorem sumG_none (f : Nat → Bool) (n : Nat) (x : BitVec 32) (h : ∀ j, j < n → f j = false) : sumG f n x = sumTn n x := by
  induction n with
  | zero => rfl
  | succ n ih => rw [sumG, sumTn, ih (fun j hj => h j (by omega)), h n (by omega), sumF]; simp
theorem sumTn_zero (n : Nat) : sumTn n 0 = 0 := by
  induction n with
  | zero => rfl
  | succ n ih => rw [sumTn, ih, sumT_zero]

/-- A word fed at once is its bits fed one by one, from the highest on. -/
theorem sumTn_word (n : Nat) (x W : BitVec 32) (hn : n ≤ 32) : sumTn n (x ^^^ W) = sumG (fun j => W.getMsbD j) n x ^^^ (W <<< n) := by
  induction n with
  | zero => simp [sumTn, sumG]
  | succ n ih =>
    rw [sumTn, ih (by omega), sumT_xor, sumG, sumF]
    have e : sumT (W <<< n) = (W <<< (n + 1)) ^^^ (if W.getMsbD n then 0x04c11db7#32 else 0) := by
      unfold sumT
      have h1 : (W <<< n).msb = W.getMsbD n := by
        rw [BitVec.msb_shiftLeft]
      rw [h1, BitVec.shiftLeft_add]
    rw [e]
    ac_rfl

def bitAt (l : List UInt8) (j : Nat) : Bool := match l[j / 8]? with
  | some c => c.toNat.testBit (7 - j % 8)
  | none => false

theorem sumByte_bits (x : BitVec 32) (c : UInt8) : sumByte x c = sumG (fun j => c.toNat.testBit (7 - j)) 8 x := by
  rw [sumByte, sumTn_word 8 _ _ (by omega)]
  have e0 : (BitVec.ofNat 32 c.toNat <<< 24) <<< 8 = 0 := by
    rw [← BitVec.shiftLeft_add]; simp [BitVec.shiftLeft_eq_zero]
  rw [e0, show ∀ z : BitVec 32, z ^^^ 0 = z from fun z => BitVec.xor_zero]
  apply sumG_congr
  intro j hj
  rw [BitVec.getMsbD_eq_getLsbD, BitVec.getLsbD_shiftLeft]
  simp [show j < 32 by omega, show ¬ (31 - j < 24) by omega, show 31 - j - 24 = 7 - j by omega, show 31 - j < 32 by omega, show 7 - j < 32 by omega]
  rw [← BitVec.getLsbD_eq_getElem, BitVec.getLsbD_ofNat]
  simp [show 7 - j < 32 by omega]

theorem sumCrc_bits (x : BitVec 32) (l : List UInt8) : sumCrc x l = sumG (bitAt l) (8 * l.length) x := by
  generalize hn : l.length = n
  induction n generalizing l with
  | zero => 
    have : l = [] := List.length_eq_zero_iff.1 hn
    subst this; rfl
  | succ n ih =>
    obtain ⟨m, c, rfl⟩ : ∃ m c, l = m ++ [c] := ⟨l.dropLast, l.getLast (by intro h; simp [h] at hn), (List.dropLast_concat_getLast _).symm⟩
    have hm : m.length = n := by simpa using hn
    rw [sumCrc_snoc, ih m hm, sumByte_bits, show 8 * (n + 1) = 8 * n + 8 by omega, sumG_add]
    rw [sumG_congr (f := bitAt (m ++ [c])) (g := bitAt m) (8 * n) x]
    · apply sumG_congr
      intro j hj
      unfold bitAt
      rw [show (8 * n + j) / 8 = n by omega, show (8 * n + j) % 8 = j by omega, List.getElem?_append_right (by omega), hm]
      simp
    · intro j hj
      unfold bitAt
      rw [List.getElem?_append_left (by omega)]

theorem u8_flip (v : UInt8) (q j : Nat) (hq : q < 8) (_hj : j < 8) : (v ^^^ (1 <<< UInt8.ofNat (7 - q))).toNat.testBit (7 - j) = (v.toNat.testBit (7 - j) ^^ decide (j = q)) := by
  rw [UInt8.toNat_xor, Nat.testBit_xor]
  have h : ((1 : UInt8) <<< UInt8.ofNat (7 - q)).toNat = 2 ^ (7 - q) := by
    match q, hq with
    | 0, _ => rfl | 1, _ => rfl | 2, _ => rfl | 3, _ => rfl | 4, _ => rfl | 5, _ => rfl | 6, _ => rfl | 7, _ => rfl
  rw [h, Nat.testBit_two_pow]
  congr 1
  by_cases e : j = q
  · simp [e]
  · simp [e]; omega

theorem decB {p q : Prop} [Decidable p] [Decidable q] (h : p ↔ q) : decide p = decide q := by simp [h]
theorem bitAt_burst (l : List UInt8) (a t : Nat) : ∀ (i : Nat), a + i ≤ 8 * l.length → ∀ j, bitAt (burst l a t i) j = (bitAt l j ^^ (decide (a ≤ j ∧ j < a + i) && t.testBit (j - a)))
  | 0, _, j => by
    rw [decide_eq_false (show ¬ (a ≤ j ∧ j < a + 0) by omega)]
    simp [burst]
  | i + 1, h, j => by
    have ih := bitAt_burst l a t i (by omega) j
    have hbit : t.testBit i = decide (t / 2 ^ i % 2 = 1) := Nat.testBit_eq_decide_div_mod_eq
    rw [burst]
    by_cases hb : t / 2 ^ i % 2 = 1
    · rw [if_pos hb]
      have hlt : (a + i) / 8 < (burst l a t i).length := by rw [burst_length]; omega
      by_cases e : j / 8 = (a + i) / 8
      · have e1 : bitAt ((burst l a t i).modify ((a + i) / 8) (fun b => b ^^^ (1 <<< UInt8.ofNat (7 - (a + i) % 8)))) j = (bitAt (burst l a t i) j ^^ decide (j % 8 = (a + i) % 8)) := by
          unfold bitAt
          rw [List.getElem?_modify, e, List.getElem?_eq_getElem hlt]
          simp only [if_pos]
          exact u8_flip _ _ _ (Nat.mod_lt _ (by omega)) (Nat.mod_lt _ (by omega))
        rw [e1, ih]
        by_cases e2 : j % 8 = (a + i) % 8
        · obtain rfl : j = a + i := by omega
          simp [hbit, hb]
        · have e3 : (a ≤ j ∧ j < a + (i + 1)) ↔ (a ≤ j ∧ j < a + i) := by
            constructor
            · rintro ⟨h1, h2⟩
              exact ⟨h1, by by_cases h3 : j = a + i; · subst h3; exact absurd rfl e2
                            omega⟩
            · rintro ⟨h1, h2⟩; exact ⟨h1, by omega⟩
          rw [decide_eq_false e2, decB e3]; simp
      · have e1 : bitAt ((burst l a t i).modify ((a + i) / 8) (fun b => b ^^^ (1 <<< UInt8.ofNat (7 - (a + i) % 8)))) j = bitAt (burst l a t i) j := by
          unfold bitAt
          rw [List.getElem?_modify]
          simp [show ¬ (a + i) / 8 = j / 8 by omega]
        rw [e1, ih]
        have e3 : (a ≤ j ∧ j < a + (i + 1)) ↔ (a ≤ j ∧ j < a + i) := by
          constructor
          · rintro ⟨h1, h2⟩
            exact ⟨h1, by by_cases h3 : j = a + i; · subst h3; exact absurd rfl e
                          omega⟩
          · rintro ⟨h1, h2⟩; exact ⟨h1, by omega⟩
        rw [decB e3]
    · rw [if_neg hb, ih]
      by_cases h3 : j = a + i
      · subst h3
        simp [hbit, hb]
      · have e3 : (a ≤ j ∧ j < a + (i + 1)) ↔ (a ≤ j ∧ j < a + i) := by omega
        rw [decB e3]

theorem burst_other (x : BitVec 32) (l : List UInt8) (a t : Nat) (h : a + 32 ≤ 8 * l.length) (ht : t ≠ 0) (ht1 : t < 4294967296) :
    sumCrc x (burst l a t 32) ≠ sumCrc x l := by
  intro heq
  have h0 : sumCrc x (burst l a t 32) ^^^ sumCrc x l = 0 := by rw [heq]; simp
  rw [sumCrc_bits, sumCrc_bits, burst_length, ← sumG_xor] at h0
  have hW : sumG (fun j => decide (a ≤ j ∧ j < a + 32) && t.testBit (j - a)) (8 * l.length) 0 = 0 := by
    rw [BitVec.xor_self] at h0
    refine Eq.trans ?_ h0
    apply sumG_congr
    intro j hj
    rw [bitAt_burst l a t 32 h j]
    cases bitAt l j <;> simp
  obtain ⟨m, hm⟩ : ∃ m, 8 * l.length = a + (32 + m) := ⟨8 * l.length - a - 32, by omega⟩
  rw [hm, sumG_add, sumG_add, sumG_none _ a 0 (fun j hj => by have : ¬ (a ≤ j) := by omega
                                                              simp [this]), sumTn_zero] at hW
  rw [sumG_none _ m _ (fun j hj => by have : ¬ (a + (32 + j) < a + 32) := by omega
                                      simp [this])] at hW
  have h1 := sumTn_inj0 _ _ hW
  have h2 := sumTn_word 32 0 (BitVec.ofNat 32 t).reverse (by omega)
  have e0 : (BitVec.ofNat 32 t).reverse <<< 32 = 0 := by simp [BitVec.shiftLeft_eq_zero]
  rw [e0, sumG_congr (g := fun j => decide (a ≤ a + j ∧ a + j < a + 32) && t.testBit (a + j - a)) 32 0 (fun j hj => by
    rw [BitVec.getMsbD_reverse, BitVec.getLsbD_ofNat]
    simp [hj]), h1] at h2
  have h3 := sumTn_inj0 _ _ h2
  rw [show ∀ z : BitVec 32, 0 ^^^ z = z from fun z => BitVec.zero_xor] at h3
  apply ht
  have h4 : BitVec.ofNat 32 t = 0 := by
    apply BitVec.eq_of_getLsbD_eq
    intro i hi
    have := congrArg (fun z => z.getMsbD i) h3
    simp only [BitVec.getMsbD_reverse] at this
    rw [this]
    simp
  have h5 := congrArg BitVec.toNat h4
  simp at h5
  omega

end Go.Proofs.YtbblkgdejgoncaaDoor
