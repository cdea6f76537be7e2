/- Supers (layer 24), in plain lists: each as a block, and the one of a block. -/
import Derived.Test.YtkidmbaakdaflaaSealQ
import Derived.Test.YtkidmbaakdaflaaSumPlain
import Derived.Test.YtkidmbaakdaflaaG12
set_option linter.unusedSimpArgs false
set_option linter.unusedVariables false
namespace Go.Proofs.Ytkidmbaakdaflaa
open Go Go.RowKit

section



structure Sp where
  seq : Nat
  base : Nat
  epoch : Nat
  slot : Int
  size : Int
def spCells (s : Sp) : List Value := [.int .u32 (s.seq : Int), .int .u32 (s.base : Int), .int .u32 (s.epoch : Int), .int .i64 s.slot, .int .i64 s.size]
theorem sp_len (s : Sp) : (spCells s).length = 5 := rfl
def zeroSp : Sp := ⟨0, 0, 0, 0, 0⟩
structure SpOk (s : Sp) : Prop where
  q1 : s.seq < 4294967296
  b1 : s.base < 4294967296
  e1 : s.epoch < 4294967296
  s0 : -9223372036854775808 ≤ s.slot
  s1 : s.slot ≤ 9223372036854775807
  z0 : -9223372036854775808 ≤ s.size
  z1 : s.size ≤ 9223372036854775807
def MayS (s : Sp) : Prop := 1 ≤ s.seq ∧ 1 ≤ s.base ∧ s.base ≤ s.epoch ∧ (s.slot = 0 ∨ s.slot = 1) ∧ 0 ≤ s.size ∧ s.size ≤ 1099511627776
instance (s : Sp) : Decidable (MayS s) := by unfold MayS; infer_instance
def partsS (s : Sp) : List (Int × Nat) := [((s.seq : Int), 4), ((s.base : Int), 4), ((s.epoch : Int), 4), (s.slot, 1), (s.size, 8)]
def pCells (p : Int × Nat) : List Value := [.int .u64 p.1, .int .i64 (p.2 : Int)]
theorem p_len (p : Int × Nat) : (pCells p).length = 2 := rfl
def joinP (ps : List (Int × Nat)) : List UInt8 := ps.flatMap fun p => be p.2 p.1.toNat
def bodyS (s : Sp) : List UInt8 := [66, 76] ++ joinP (partsS s)
def crcN (l : List UInt8) : Nat := (sumCrc 4294967295#32 l).toNat
theorem crcN_lt (l : List UInt8) : crcN l < 4294967296 := (sumCrc _ l).isLt
def dataS (s : Sp) : List UInt8 := bodyS s ++ be 4 (crcN (bodyS s)) ++ List.replicate 21 0
def encS (s : Sp) : List UInt8 := sealL s.seq 0 (dataS s)
theorem bodyS_len (s : Sp) : (bodyS s).length = 23 := by simp [bodyS, joinP, partsS, be_length]
theorem dataS_len (s : Sp) : (dataS s).length = 48 := by simp [dataS, bodyS_len, be_length]
def encE (s : Sp) : Int := if MayS s then 0 else 1
def encT (s : Sp) : List UInt8 := if MayS s then encS s else []
theorem encS_E {s : Sp} (h : MayS s) : sealE s.seq (dataS s) = 0 := by
  rw [sealE_cases, dataS_len]; have := h.1; omega
theorem encS_len {s : Sp} (h : MayS s) : (encS s).length = 64 := sealL_length (encS_E h)
/-- What a block's middle tells. -/
def getS (d : List UInt8) : Sp := ⟨num ((d.drop 2).take 4), num ((d.drop 6).take 4), num ((d.drop 10).take 4), (num ((d.drop 14).take 1) : Nat), IntKind.i64.wrap (num ((d.drop 15).take 8) : Nat)⟩
def isS (b : List UInt8) : Prop := openOk b = true ∧ MayS (getS (openD b)) ∧ encS (getS (openD b)) = b
instance (b : List UInt8) : Decidable (isS b) := by unfold isS; infer_instance
def decS (b : List UInt8) : Sp := if isS b then getS (openD b) else zeroSp
theorem decS_yes {b : List UInt8} (h : isS b) : decS b = getS (openD b) := if_pos h
theorem decS_no {b : List UInt8} (h : ¬ isS b) : decS b = zeroSp := if_neg h
theorem zero_not : ¬ MayS zeroSp := by decide
theorem decS_may {b : List UInt8} : (decide (isS b)) = decide (0 < (decS b).seq) := by
  by_cases h : isS b
  · rw [decS_yes h, decide_eq_true h, decide_eq_true]
    have := h.2.1.1; omega
  · rw [decS_no h, decide_eq_false h, decide_eq_false]; decide
theorem part_at (p q r : List UInt8) {n : Nat} (hq : q.length = n) {m : Nat} (hp : p.length = m) : ((p ++ q ++ r).drop m).take n = q := by
  rw [List.append_assoc, List.drop_left' hp, List.take_left' hq]
theorem wrap_small {z : Int} (h0 : 0 ≤ z) (h1 : z ≤ 9223372036854775807) : IntKind.i64.wrap z = z := wrap_i64 (by omega)
theorem getS_data {s : Sp} (hs : SpOk s) (h : MayS s) : getS (dataS s) = s := by
  obtain ⟨m1, m2, m3, m4, m5, m6⟩ := h
  have hq := hs.q1
  have hb := hs.b1
  have he := hs.e1
  have l1 := be_length 4 s.seq
  have l2 := be_length 4 s.base
  have l3 := be_length 4 s.epoch
  have l4 := be_length 1 s.slot.toNat
  have l5 := be_length 8 s.size.toNat
  have e0 : dataS s = [66, 76] ++ be 4 s.seq ++ (be 4 s.base ++ (be 4 s.epoch ++ (be 1 s.slot.toNat ++ (be 8 s.size.toNat ++ (be 4 (crcN (bodyS s)) ++ List.replicate 21 0))))) := by simp [dataS, bodyS, joinP, partsS]
  have a1 : ((dataS s).drop 2).take 4 = be 4 s.seq := by rw [e0]; exact part_at _ _ _ l1 rfl
  have a2 : ((dataS s).drop 6).take 4 = be 4 s.base := by
    rw [show dataS s = ([66, 76] ++ be 4 s.seq) ++ be 4 s.base ++ (be 4 s.epoch ++ (be 1 s.slot.toNat ++ (be 8 s.size.toNat ++ (be 4 (crcN (bodyS s)) ++ List.replicate 21 0)))) by rw [e0]; simp]
    exact part_at _ _ _ l2 (by simp [l1])
  have a3 : ((dataS s).drop 10).take 4 = be 4 s.epoch := by
    rw [show dataS s = ([66, 76] ++ be 4 s.seq ++ be 4 s.base) ++ be 4 s.epoch ++ (be 1 s.slot.toNat ++ (be 8 s.size.toNat ++ (be 4 (crcN (bodyS s)) ++ List.replicate 21 0))) by rw [e0]; simp]
    exact part_at _ _ _ l3 (by simp [l1, l2])
  have a4 : ((dataS s).drop 14).take 1 = be 1 s.slot.toNat := by
    rw [show dataS s = ([66, 76] ++ be 4 s.seq ++ be 4 s.base ++ be 4 s.epoch) ++ be 1 s.slot.toNat ++ (be 8 s.size.toNat ++ (be 4 (crcN (bodyS s)) ++ List.replicate 21 0)) by rw [e0]; simp]
    exact part_at _ _ _ l4 (by simp [l1, l2, l3])
  have a5 : ((dataS s).drop 15).take 8 = be 8 s.size.toNat := by
    rw [show dataS s = ([66, 76] ++ be 4 s.seq ++ be 4 s.base ++ be 4 s.epoch ++ be 1 s.slot.toNat) ++ be 8 s.size.toNat ++ (be 4 (crcN (bodyS s)) ++ List.replicate 21 0) by rw [e0]; simp]
    exact part_at _ _ _ l5 (by simp [l1, l2, l3, l4])
  have n1 := num_be 4 s.seq (by omega)
  have n2 := num_be 4 s.base (by omega)
  have n3 := num_be 4 s.epoch (by omega)
  have n4 := num_be 1 s.slot.toNat (by omega)
  have n5 := num_be 8 s.size.toNat (by omega)
  unfold getS
  rw [a1, a2, a3, a4, a5, n1, n2, n3, n4, n5]
  obtain ⟨q, b, e, t, z⟩ := s
  simp only at m1 m2 m3 m4 m5 m6
  rw [wrap_small (by omega) (by simp only; omega)]
  simp only [Sp.mk.injEq, true_and]
  omega
theorem dec_enc {s : Sp} (hs : SpOk s) (h : MayS s) : isS (encS s) ∧ decS (encS s) = s := by
  have hq := hs.q1
  have h0 := encS_E h
  have ho : openOk (encS s) = true := openOk_seal (by omega) h0
  have hd : openD (encS s) = dataS s := (open_seal (by omega) (by omega) h0).2.2
  have hi : isS (encS s) := ⟨ho, by rw [hd, getS_data hs h]; exact h, by rw [hd, getS_data hs h]⟩
  exact ⟨hi, by rw [decS_yes hi, hd, getS_data hs h]⟩
theorem isS_len {b : List UInt8} (h : isS b) : b.length = 64 := by rw [← h.2.2]; exact encS_len h.2.1
theorem openD_64 {b : List UInt8} (h : openOk b = true) : (openD b).length = 48 := by
  have h' := h
  unfold openOk at h'
  have h' : b.length = 64 ∧ b.take 8 = b.drop 56 ∧ num (b.take 4) ≠ 0 := by simpa using h'
  unfold openD; rw [if_pos h]; simp; omega
theorem isS_magic {b : List UInt8} (h : isS b) : (openD b).take 2 = [66, 76] := by
  have h1 := (open_seal (e := (getS (openD b)).seq) (i := 0) (d := dataS (getS (openD b))) (by
    have := num_lt (((openD b).drop 2).take 4)
    have h3 : (256 : Nat) ^ (((openD b).drop 2).take 4).length ≤ 256 ^ 4 := Nat.pow_le_pow_right (by omega) (by simp; omega)
    show num (((openD b).drop 2).take 4) < _
    omega) (by omega) (encS_E h.2.1)).2.2
  have h2 : openD b = dataS (getS (openD b)) := by
    have : sealL (getS (openD b)).seq 0 (dataS (getS (openD b))) = b := h.2.2
    rw [this] at h1; exact h1
  rw [h2]; simp [dataS, bodyS]
theorem num_len_lt {l : List UInt8} {n : Nat} (h : l.length ≤ n) : num l < 256 ^ n := Nat.lt_of_lt_of_le (num_lt l) (Nat.pow_le_pow_right (by omega) h)
theorem getS_ok (d : List UInt8) : SpOk (getS d) := by
  have h1 := num_len_lt (l := (d.drop 2).take 4) (n := 4) (by simp; omega)
  have h2 := num_len_lt (l := (d.drop 6).take 4) (n := 4) (by simp; omega)
  have h3 := num_len_lt (l := (d.drop 10).take 4) (n := 4) (by simp; omega)
  have h4 := num_len_lt (l := (d.drop 14).take 1) (n := 1) (by simp; omega)
  have hw : ∀ z : Int, -9223372036854775808 ≤ IntKind.i64.wrap z ∧ IntKind.i64.wrap z ≤ 9223372036854775807 := fun z => by
    have e : IntKind.i64.wrap z = if 9223372036854775808 ≤ z % 18446744073709551616 then z % 18446744073709551616 - 18446744073709551616 else z % 18446744073709551616 := by simp [IntKind.wrap, IntKind.bits, IntKind.signed]
    rw [e]; split <;> omega
  have := hw (num ((d.drop 15).take 8) : Nat)
  refine ⟨?_, ?_, ?_, ?_, ?_, this.1, this.2⟩ <;> (simp only [getS]; omega)
theorem zero_ok : SpOk zeroSp := by constructor <;> decide
theorem decS_ok (b : List UInt8) : SpOk (decS b) := by
  unfold decS; split
  · exact getS_ok _
  · exact zero_ok

end
end Go.Proofs.Ytkidmbaakdaflaa
