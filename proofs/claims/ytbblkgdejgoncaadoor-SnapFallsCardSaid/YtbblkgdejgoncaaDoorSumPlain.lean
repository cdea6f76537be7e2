/- The sum of a text (layer 2) as a plain function on 32-bit words, and the facts on single bits and bytes that the walks need. No program in sight. -/
import Derived.WalkKit
namespace Go.Proofs.YtbblkgdejgoncaaDoor
open Go

def sumT (x : BitVec 32) : BitVec 32 := (x <<< 1) ^^^ (if x.msb then 0x04c11db7#32 else 0)
def sumTn : Nat → BitVec 32 → BitVec 32
  | 0, x => x
  | n + 1, x => sumT (sumTn n x)
def sumByte (x : BitVec 32) (c : UInt8) : BitVec 32 := sumTn 8 (x ^^^ (BitVec.ofNat 32 c.toNat <<< 24))
def sumCrc (x : BitVec 32) (l : List UInt8) : BitVec 32 := l.foldl sumByte x
/-- A word as a value of the model's. -/
def U32 (x : BitVec 32) : Value := .int .u32 (x.toNat : Int)

theorem u32_word (a : Int) (h0 : 0 ≤ a) (h1 : a ≤ 4294967295) : ∃ x : BitVec 32, a = (x.toNat : Int) :=
  ⟨BitVec.ofNat 32 a.toNat, by rw [BitVec.toNat_ofNat]; omega⟩
theorem ret_int {k : IntKind} {a b : Int} (h : a = b) : Ending.returned (.int k a) = .returned (.int k b) := by rw [h]
theorem ret_bool {a b : Bool} (h : a = b) : Ending.returned (.bool a) = .returned (.bool b) := by rw [h]
theorem val_int {k : IntKind} {a b : Int} (h : a = b) : Value.int k a = .int k b := by rw [h]
theorem take_snoc (s : ByteArray) (k : Nat) (h : k < s.size) : s.data.toList.take (k + 1) = s.data.toList.take k ++ [s[k]] := by
  rw [List.take_succ_eq_append_getElem (by simpa using h)]; rfl

theorem sumCrc_snoc (x : BitVec 32) (l : List UInt8) (c : UInt8) : sumCrc x (l ++ [c]) = sumByte (sumCrc x l) c := by
  simp [sumCrc]
theorem sumCrc_append (x : BitVec 32) (l m : List UInt8) : sumCrc x (l ++ m) = sumCrc (sumCrc x l) m := by
  simp [sumCrc]

theorem sum_in_byte (y : BitVec 32) (c : UInt8) : bits BinOp.xor IntKind.u32 (y.toNat : Int) ((c.toNat : Int) % (4294967296 : Int) * (16777216 : Int) % (4294967296 : Int)) = ((y ^^^ (BitVec.ofNat 32 c.toNat <<< 24)).toNat : Int) := by
  have hc := c.toNat_lt
  have e : ((c.toNat : Int) % (4294967296 : Int) * (16777216 : Int) % (4294967296 : Int)) = ((BitVec.ofNat 32 c.toNat <<< 24).toNat : Int) := by
    rw [BitVec.toNat_shiftLeft, BitVec.toNat_ofNat, Nat.shiftLeft_eq]
    omega
  rw [e, u32_xor_nat _ _ y.isLt (BitVec.isLt _), BitVec.toNat_xor]
theorem sum_in_bit (z : BitVec 32) : bits BinOp.xor IntKind.u32 ((z.toNat : Int) * (2 : Int) % (4294967296 : Int)) ((z.toNat : Int) / (2147483648 : Int) * (79764919 : Int)) = ((sumT z).toNat : Int) := by
  have hz := z.isLt
  have e1 : ((z.toNat : Int) * (2 : Int) % (4294967296 : Int)) = ((z <<< 1).toNat : Int) := by
    rw [BitVec.toNat_shiftLeft, Nat.shiftLeft_eq]; omega
  have e2 : ((z.toNat : Int) / (2147483648 : Int) * (79764919 : Int)) = ((if z.msb then 0x04c11db7#32 else 0).toNat : Int) := by
    have hm := BitVec.msb_eq_decide z
    by_cases h : 2147483648 ≤ z.toNat
    · have : z.msb = true := by rw [hm]; simpa using h
      rw [this]; simp; omega
    · have : z.msb = false := by rw [hm]; simpa using h
      rw [this]; simp; omega
  rw [e1, e2, u32_xor_nat _ _ (BitVec.isLt _) (BitVec.isLt _), sumT, BitVec.toNat_xor]
theorem sum_step_high (z : BitVec 32) (h : 2147483648 ≤ z.toNat) : bits BinOp.xor IntKind.u32 (((z.toNat : Int) - (2147483648 : Int)) * (2 : Int)) (79764919 : Int) = ((sumT z).toNat : Int) := by
  have hz := z.isLt
  rw [← sum_in_bit]; congr 1 <;> omega
theorem sum_step_low (z : BitVec 32) (h : z.toNat < 2147483648) : (z.toNat : Int) * (2 : Int) = ((sumT z).toNat : Int) := by
  have hz := z.isLt
  have hm : z.msb = false := by rw [BitVec.msb_eq_decide]; simpa using h
  rw [sumT, hm]
  simp [BitVec.toNat_shiftLeft, Nat.shiftLeft_eq]
  omega

end Go.Proofs.YtbblkgdejgoncaaDoor
