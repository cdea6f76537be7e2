/- The walks of the sum's functions (layer 2): what each call returns, said by the plain function sumCrc. Nothing is assumed but that a text is of a length that can be. -/
import Derived.Test.YtbblkgdejgoncaaDoorRows
import Derived.Test.YtbblkgdejgoncaaDoorSumPlain
import Derived.WalkKit
import Derived.WalkSpells
import Derived.WalkLawsBesides
import Derived.Lib.Hide
namespace Go.Proofs.YtbblkgdejgoncaaDoor
open Go.RowKit

set_option maxHeartbeats 400000 in
theorem sum_crc_any (x : BitVec 32) (s : ByteArray) (w : World) (hs : s.size ≤ 9223372036854775807) :
    Calls Tryd.prog 86 #[.int .u32 (x.toNat : Int), .string s] w fun e w' => e = .returned (.int .u32 ((sumCrc x s.data.toList).toNat : Int)) ∧ w = w' := by
  go_enter Tryd.func86, Tryd.ntmps86
  go_wp2
  go_loop [5, 6, 7, 11] (fun x' _ _ j => ∃ k : Nat, k ≤ s.size ∧ j = .int .i64 k ∧ ∃ y : BitVec 32, y = sumCrc x (s.data.toList.take k) ∧ x' = .int .u32 (y.toNat : Int)) (fun _ _ _ i => s.size - (intOf i).toNat)
  case atStart => exact ⟨0, Nat.zero_le _, rfl, x, rfl, rfl⟩
  case round =>
    obtain ⟨k, hk, rfl, y, hy, rfl⟩ := hrel
    have Hy := Lib.hid hy
    clear hy
    by_cases hlt : k < s.size
    · have b1 := y.isLt
      have hin := Lib.hid (sum_in_byte y s[k])
      go_wp2
      go_loop [5, 7, 21] (fun x' _ j => ∃ m : Nat, m ≤ 8 ∧ j = .int .i64 m ∧ ∃ z : BitVec 32, z = sumTn m (y ^^^ (BitVec.ofNat 32 (s[k].toNat) <<< 24)) ∧ x' = .int .u32 (z.toNat : Int)) (fun _ _ i => 8 - (intOf i).toNat)
      case atStart => exact ⟨0, by omega, rfl, _, rfl, val_int hin.out⟩
      case round =>
        obtain ⟨m, hm, rfl, z, hz, rfl⟩ := hrel
        have Hz := Lib.hid hz
        clear hz
        have b2 := z.isLt
        by_cases hlt2 : m < 8
        · have hbit := Lib.hid (sum_in_bit z)
          go_wp2
          go_round
          case rel => exact ⟨m + 1, by omega, by go_num, _, rfl, val_int (by rw [sumTn, ← Hz.out]; exact hbit.out)⟩
          case measure => simp [intOf]; omega
        · have : m = 8 := by omega
          subst this
          go_wp2
          go_round
          case rel => exact ⟨k + 1, by omega, by go_num, z, by rw [take_snoc _ _ hlt, sumCrc_snoc, ← Hy.out]; exact Hz.out, rfl⟩
          case measure => simp [intOf]; omega
    · go_wp2
      go_ret
      exact ⟨ret_int (by rw [Hy.out, List.take_of_length_le (by simp; omega)]), rfl⟩

theorem sum_step_int (n : Int) (w : World) (h0 : 0 ≤ n) (h1 : n < 4294967296) :
    Calls Tryd.prog 116 #[.int .u32 n] w fun e w' => (∃ r : Int, e = .returned (.int .u32 r) ∧ (2147483648 ≤ n → r = bits BinOp.xor IntKind.u32 ((n - (2147483648 : Int)) * (2 : Int)) (79764919 : Int)) ∧ (n < 2147483648 → r = n * 2)) ∧ w = w' := by
  go_enter Tryd.func116, Tryd.ntmps116
  go_wp2
  · go_ret
    exact ⟨⟨_, rfl, fun _ => rfl, fun h => by omega⟩, rfl⟩
  · go_ret
    exact ⟨⟨_, rfl, fun h => by omega, fun _ => rfl⟩, rfl⟩
theorem sum_step_any (x : BitVec 32) (w : World) :
    Calls Tryd.prog 116 #[.int .u32 (x.toNat : Int)] w fun e w' => e = .returned (.int .u32 ((sumT x).toNat : Int)) ∧ w = w' := by
  have b1 := x.isLt
  refine (sum_step_int _ w (by omega) (by omega)).mono ?_
  rintro e w' ⟨⟨r, rfl, hh, hl⟩, rfl⟩
  refine ⟨ret_int ?_, rfl⟩
  by_cases h : 2147483648 ≤ x.toNat
  · rw [hh (by omega), sum_step_high x h]
  · rw [hl (by omega), sum_step_low x (by omega)]

set_option maxHeartbeats 400000 in
theorem sum_rcrc_any (x : BitVec 32) (s : ByteArray) (w : World) (hs : s.size ≤ 9223372036854775807) :
    Calls Tryd.prog 105 #[.int .u32 (x.toNat : Int), .string s] w fun e w' => e = .returned (.int .u32 ((sumCrc x s.data.toList).toNat : Int)) ∧ w = w' := by
  go_enter Tryd.func105, Tryd.ntmps105
  go_wp2
  go_loop [5, 6, 7] (fun x' j _ => ∃ k : Nat, k ≤ s.size ∧ j = .int .i64 k ∧ ∃ y : BitVec 32, y = sumCrc x (s.data.toList.take k) ∧ x' = .int .u32 (y.toNat : Int)) (fun _ i _ => s.size - (intOf i).toNat)
  case atStart => exact ⟨0, Nat.zero_le _, rfl, x, rfl, rfl⟩
  case round =>
    obtain ⟨k, hk, rfl, y, hy, rfl⟩ := hrel
    have Hy := Lib.hid hy
    clear hy
    by_cases hlt : k < s.size
    · have b1 := y.isLt
      have hin := Lib.hid (sum_in_byte y s[k])
      go_wp2
      go_loop [5, 7] (fun x' j => ∃ m : Nat, m ≤ 8 ∧ j = .int .i64 m ∧ ∃ z : BitVec 32, z = sumTn m (y ^^^ (BitVec.ofNat 32 (s[k].toNat) <<< 24)) ∧ x' = .int .u32 (z.toNat : Int)) (fun _ i => 8 - (intOf i).toNat)
      case atStart => exact ⟨0, by omega, rfl, _, rfl, val_int hin.out⟩
      case round =>
        obtain ⟨m, hm, rfl, z, hz, rfl⟩ := hrel
        have Hz := Lib.hid hz
        clear hz
        by_cases hlt2 : m < 8
        · go_wp2_with (go_at_call 116; refine (sum_step_any z _).mono ?_; rintro e w' ⟨rfl, rfl⟩)
          go_round
          case rel => exact ⟨m + 1, by omega, by go_num, _, rfl, val_int (by rw [sumTn, ← Hz.out])⟩
          case measure => simp [intOf]; omega
        · have : m = 8 := by omega
          subst this
          go_wp2
          go_round
          case rel => exact ⟨k + 1, by omega, by go_num, z, by rw [take_snoc _ _ hlt, sumCrc_snoc, ← Hy.out]; exact Hz.out, rfl⟩
          case measure => simp [intOf]; omega
    · go_wp2
      go_ret
      exact ⟨ret_int (by rw [Hy.out, List.take_of_length_le (by simp; omega)]), rfl⟩

end Go.Proofs.YtbblkgdejgoncaaDoor
