/- The walks of the sum of several texts (layer 2). -/
import Derived.Test.YtgnbgjllogjecaaSum
namespace Go.Proofs.Ytgnbgjllogjecaa
open Go.RowKit

set_option maxHeartbeats 400000 in
theorem sum_of_nil (w : World) :
    Calls Try.prog 16 #[.slice none 0 0] w fun e w' => e = .returned (.int .u32 4294967295) ∧ w = w' := by
  go_enter Try.func16, Try.ntmps16
  go_wp2
  go_loop [3, 5, 8] (fun x' _ j => j = .int .i64 0 ∧ x' = .int .u32 4294967295) (fun _ _ _ => 0)
  case atStart => exact ⟨rfl, rfl⟩
  case round =>
    obtain ⟨rfl, rfl⟩ := hrel
    go_wp2
    go_ret
    exact ⟨rfl, rfl⟩

set_option maxHeartbeats 400000 in
theorem sum_of_any (b off c n : Nat) (f : Nat → ByteArray) (w : World) (hc : ∀ i, i < n → w.cell? ⟨b, off + i, none⟩ = some (.string (f i)) ∧ (f i).size ≤ 9223372036854775807) (hn : n ≤ 9223372036854775807) :
    Calls Try.prog 16 #[.slice (some ⟨b, off, none⟩) n c] w fun e w' => e = .returned (.int .u32 ((((List.range n).foldl (fun x i => sumCrc x (f i).data.toList) (4294967295#32)).toNat : Nat) : Int)) ∧ w = w' := by
  go_enter Try.func16, Try.ntmps16
  go_wp2

  go_loop [3, 5, 8] (fun x' _ j => ∃ k : Nat, k ≤ n ∧ j = .int .i64 k ∧ ∃ y : BitVec 32, y = (List.range k).foldl (fun x i => sumCrc x (f i).data.toList) (4294967295#32) ∧ x' = .int .u32 (y.toNat : Int)) (fun _ _ i => n - (intOf i).toNat)
  case atStart => exact ⟨0, Nat.zero_le _, rfl, _, rfl, rfl⟩
  case round =>
    obtain ⟨k, hk, rfl, y, hy, rfl⟩ := hrel
    have Hy := Lib.hid hy
    clear hy
    have HC := Lib.hid hc
    clear hc
    by_cases hlt : k < n
    · have h1 := (HC.out k hlt).1
      have h2 := (HC.out k hlt).2
      go_wp2_with (go_at_call 14; refine (sum_crc_any y _ _ h2).mono ?_; rintro e w' ⟨rfl, rfl⟩)
      go_round
      case rel => exact ⟨k + 1, by omega, by go_num, _, rfl, val_int (by rw [List.range_succ, List.foldl_append, ← Hy.out]; rfl)⟩
      case measure => simp [intOf]; omega
    · have : k = n := by omega
      subst this
      go_wp2
      go_ret
      exact ⟨ret_int (by rw [Hy.out]), rfl⟩

theorem sum_rof_any (s : ByteArray) (w : World) (hs : s.size ≤ 9223372036854775807) :
    Calls Try.prog 17 #[.string s] w fun e w' => e = .returned (.int .u32 ((sumCrc 4294967295#32 s.data.toList).toNat : Int)) ∧ w = w' := by
  go_enter Try.func17, Try.ntmps17
  go_wp2_with (go_at_call 15; refine (sum_rcrc_any 4294967295#32 _ _ hs).mono ?_; rintro e w' ⟨rfl, rfl⟩)
  go_ret
  exact ⟨rfl, rfl⟩

theorem sum_of_one (b : Nat) (s : ByteArray) (w : World) (h : w.cell? ⟨b, 0, none⟩ = some (.string s)) (hs : s.size ≤ 9223372036854775807) :
    Calls Try.prog 16 #[.slice (some ⟨b, 0, none⟩) 1 1] w fun e w' => e = .returned (.int .u32 ((sumCrc 4294967295#32 s.data.toList).toNat : Int)) ∧ w = w' := by
  refine (sum_of_any b 0 1 1 (fun _ => s) w ?_ (by omega)).mono ?_
  · intro i hi
    obtain rfl : i = 0 := by omega
    exact ⟨h, hs⟩
  · rintro e w' ⟨rfl, rfl⟩
    exact ⟨rfl, rfl⟩

theorem sum_of_digits (b : Nat) (w : World) (h : w.cell? ⟨b, 0, none⟩ = some (.string { data := #[49, 50, 51, 52, 53, 54, 55, 56, 57] })) :
    Calls Try.prog 16 #[.slice (some ⟨b, 0, none⟩) 1 1] w fun e w' => e = .returned (.int .u32 58124007) ∧ w = w' := by
  refine (sum_of_any b 0 1 1 (fun _ => { data := #[49, 50, 51, 52, 53, 54, 55, 56, 57] }) w ?_ (by omega)).mono ?_
  · intro i hi
    obtain rfl : i = 0 := by omega
    exact ⟨h, by decide⟩
  · rintro e w' ⟨rfl, rfl⟩
    exact ⟨ret_int (by decide +kernel), rfl⟩

theorem sum_live (w : World) :
    Calls Try.prog 13 #[] w fun e w' => e = .returned (.bool true) ∧ Below w.heap.size w w' := by
  go_enter Try.func13, Try.ntmps13
  go_wp2_with (go_at_call 16; first | ((with_reducible refine (sum_of_nil _).mono ?_); rintro e w' ⟨rfl, rfl⟩) | (refine (sum_of_digits _ _ (by simp)).mono ?_; rintro e w' ⟨rfl, rfl⟩))
  go_ret
  exact ⟨rfl, (Below.refl _ _).alloc (Nat.le_refl _) _⟩
end Go.Proofs.Ytgnbgjllogjecaa
