/- The walks of Number, the program's and the reference's. -/
import Derived.Test.YtbblkgdejgoncaaDoorRows
import Derived.Test.YtbblkgdejgoncaaDoorOctetFixedPlain
import Derived.WalkKit
import Derived.WalkSpells
import Derived.WalkLawsBesides
import Derived.Lib.Hide
import Derived.Test.YtbblkgdejgoncaaDoorKit2
namespace Go.Proofs.YtbblkgdejgoncaaDoor
open Go.RowKit
theorem Tryd.infoByte : (Tryd.prog.info? 5).map (fun i => (i.zero, i.size, i.bytes)) = some (some (.int .u8 0), 1, 1) := by kernel_rfl
theorem data_length (s : ByteArray) : s.data.toList.length = s.size := by simp
theorem data_append (a b : ByteArray) : (a ++ b).data.toList = a.data.toList ++ b.data.toList := by simp

theorem take_bytes (s : ByteArray) (k : Nat) (h : k < s.size) : s.data.toList.take (k + 1) = s.data.toList.take k ++ [s[k]] := by
  rw [List.take_succ_eq_append_getElem (by simpa using h)]; rfl

theorem or_byte (A : Nat) (c : UInt8) (h : A < 72057594037927936) : bits BinOp.or IntKind.u64 (IntKind.u64.wrap ((A : Int) * 256)) (c.toNat : Int) = ((A * 256 + c.toNat : Nat) : Int) := by
  have hc := c.toNat_lt
  have e : IntKind.u64.wrap ((A : Int) * 256) = ((A * 256 : Nat) : Int) := by
    have := U64.wrap (n := A * 256) (by unfold U64; omega)
    simpa using this
  rw [e, u64_or_nat _ _ (by omega) (by omega)]
  have h2 : A * 256 ||| c.toNat = A * 256 + c.toNat := by
    have := Nat.two_pow_add_eq_or_of_lt (i := 8) (b := c.toNat) (by omega) A
    rw [show A * 256 = 2 ^ 8 * A by omega, ← this]
  rw [h2]

set_option maxRecDepth 100000 in
set_option maxHeartbeats 400000 in
theorem number_any (s : ByteArray) (w : World) (hs : s.size ≤ 9223372036854775807) :
    Calls Tryd.prog 58 #[.string s] w fun e w' => e = .returned (.tuple #[.int .u64 ((number s.data.toList).1 : Int), .int .i64 ((number s.data.toList).2 : Int)]) ∧ w = w' := by
  by_cases h1 : s.size < 1
  · have Hf := Lib.hid (number_no s.data.toList (by rw [data_length]; omega))
    go_enter Tryd.func58, Tryd.ntmps58
    go_wp2
    go_ret2
    exact ⟨by rw [Hf.out]; rfl, rfl⟩
  by_cases h8 : 8 < s.size
  · have Hf := Lib.hid (number_no s.data.toList (by rw [data_length]; omega))
    go_enter Tryd.func58, Tryd.ntmps58
    go_wp2
    go_ret2
    exact ⟨by rw [Hf.out]; rfl, rfl⟩
  have Hf := Lib.hid (number_yes s.data.toList (by rw [data_length]; omega))
  go_enter Tryd.func58, Tryd.ntmps58
  go_wp2
  go_loop [4, 5, 16] (fun v _ i => ∃ k A : Nat, k ≤ s.size ∧ i = .int .i64 k ∧ v = .int .u64 A ∧ A = num (s.data.toList.take k)) (fun _ _ i => s.size - (intOf i).toNat)
  case atStart => exact ⟨0, 0, by omega, rfl, rfl, rfl⟩
  case round =>
    obtain ⟨k, A, hk, rfl, rfl, hA⟩ := hrel
    by_cases hlt : k < s.size
    · have hA7 : A < 72057594037927936 := by
        rw [hA]
        refine Nat.lt_of_lt_of_le (num_lt _) ?_
        refine Nat.le_trans (Nat.pow_le_pow_right (show 0 < 256 by omega) (show _ ≤ 7 from ?_)) (by decide)
        simp; omega
      have hX := or_byte A s[k] hA7
      have hX2 := Lib.hid (num_snoc (s.data.toList.take k) s[k])
      have hc256 := s[k].toNat_lt
      have HA := Lib.hid hA
      clear hA hA7
      go_wp2
      go_round
      case rel => exact ⟨k + 1, _, by omega, by go_num, rfl, by rw [take_bytes _ _ hlt, hX2.out, ← HA.out]⟩
      case measure => simp [intOf]; omega
    · have HA := Lib.hid hA
      clear hA
      go_wp2
      go_ret2
      exact ⟨by rw [Hf.out, HA.out, List.take_of_length_le (by simp; omega)]; rfl, rfl⟩

end Go.Proofs.YtbblkgdejgoncaaDoor
