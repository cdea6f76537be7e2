/- The walk of Number, the reference's. -/
import Derived.Test.YtbblkgdejgoncaaDoorOctetNumber2
namespace Go.Proofs.YtbblkgdejgoncaaDoor
open Go.RowKit

set_option maxHeartbeats 400000 in
theorem rnumber_any (s : ByteArray) (w : World) (hs : s.size ≤ 9223372036854775807) :
    Calls Tryd.prog 102 #[.string s] w fun e w' => e = .returned (.tuple #[.int .u64 ((number s.data.toList).1 : Int), .int .i64 ((number s.data.toList).2 : Int)]) ∧ w = w' := by
  by_cases h1 : s.size < 1
  · have Hf := Lib.hid (number_no s.data.toList (by rw [data_length]; omega))
    go_enter Tryd.func102, Tryd.ntmps102
    go_wp2
    go_ret2
    exact ⟨by rw [Hf.out]; rfl, rfl⟩
  by_cases h8 : 8 < s.size
  · have Hf := Lib.hid (number_no s.data.toList (by rw [data_length]; omega))
    go_enter Tryd.func102, Tryd.ntmps102
    go_wp2
    go_ret2
    exact ⟨by rw [Hf.out]; rfl, rfl⟩
  have Hf := Lib.hid (number_yes s.data.toList (by rw [data_length]; omega))
  go_enter Tryd.func102, Tryd.ntmps102
  go_wp2
  go_loop [4, 5] (fun v i => ∃ k A : Nat, k ≤ s.size ∧ i = .int .i64 k ∧ v = .int .u64 A ∧ A = num (s.data.toList.take k)) (fun _ i => s.size - (intOf i).toNat)
  case atStart => exact ⟨0, 0, by omega, rfl, rfl, rfl⟩
  case round =>
    obtain ⟨k, A, hk, rfl, rfl, hA⟩ := hrel
    by_cases hlt : k < s.size
    · have hA7 : A < 72057594037927936 := by
        rw [hA]
        refine Nat.lt_of_lt_of_le (num_lt _) ?_
        refine Nat.le_trans (Nat.pow_le_pow_right (show 0 < 256 by omega) (show _ ≤ 7 from ?_)) (by decide)
        simp; omega
      have hc256 := s[k].toNat_lt
      have e1 : IntKind.u64.wrap ((A : Int) * 256) = (A : Int) * 256 := by
        have := U64.wrap (n := A * 256) (by unfold U64; omega)
        simpa using this
      have e2 : IntKind.u64.wrap ((A : Int) * 256 + (s[k].toNat : Int)) = ((A * 256 + s[k].toNat : Nat) : Int) := by
        have := U64.wrap (n := A * 256 + s[k].toNat) (by unfold U64; omega)
        simpa using this
      have hX2 := Lib.hid (num_snoc (s.data.toList.take k) s[k])
      have HA := Lib.hid hA
      clear hA hA7
      go_wp2
      go_round
      case rel => exact ⟨k + 1, _, by omega, by go_num, rfl, by rw [take_bytes _ _ hlt, hX2.out, ← HA.out]⟩
      case measure => simp [intOf]; omega
    · have HA := Lib.hid hA
      clear hA
      go_wp2
      go_ret2
      exact ⟨by rw [Hf.out, HA.out, List.take_of_length_le (by simp; omega)]; rfl, rfl⟩
end Go.Proofs.YtbblkgdejgoncaaDoor
