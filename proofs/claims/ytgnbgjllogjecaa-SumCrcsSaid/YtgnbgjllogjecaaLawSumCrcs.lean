/- The law SumCrcs: whatever the beginning and the two texts, the program's sum is the document's, from any beginning on, of two texts one behind the other too; the call returns true and leaves its arguments as they were. -/
import Derived.Test.YtgnbgjllogjecaaSum2
import Derived.Test.YtgnbgjllogjecaaLaw
namespace Go.Proofs.Ytgnbgjllogjecaa
open Go.ChangeShapes Go.WideShapes Go.ChangeAt Go.RowKit
open Go.ChangeMaps (open_string shut_string)

theorem sum_of_two (b : Nat) (s t : ByteArray) (w : World) (h0 : w.cell? ⟨b, 0, none⟩ = some (.string s)) (h1 : w.cell? ⟨b, 1, none⟩ = some (.string t)) (hs : s.size ≤ 9223372036854775807) (ht : t.size ≤ 9223372036854775807) :
    Calls Try.prog 16 #[.slice (some ⟨b, 0, none⟩) 2 2] w fun e w' => e = .returned (.int .u32 ((sumCrc (sumCrc 4294967295#32 s.data.toList) t.data.toList).toNat : Int)) ∧ w = w' := by
  refine (sum_of_any b 0 2 2 (fun i => if i = 0 then s else t) w ?_ (by omega)).mono ?_
  · intro i hi
    obtain rfl | rfl : i = 0 ∨ i = 1 := by omega
    · exact ⟨by simpa using h0, by simpa using hs⟩
    · exact ⟨by simpa using h1, by simpa using ht⟩
  · rintro e w' ⟨rfl, rfl⟩
    exact ⟨rfl, rfl⟩

theorem sum_rcrc_app (x : BitVec 32) (s t : ByteArray) (w : World) (hs : s.size ≤ 2000) (ht : t.size ≤ 2000) :
    Calls Try.prog 15 #[.int .u32 (x.toNat : Int), .string (s ++ t)] w fun e w' => e = .returned (.int .u32 ((sumCrc (sumCrc x s.data.toList) t.data.toList).toNat : Int)) ∧ w = w' := by
  refine (sum_rcrc_any x (s ++ t) w (by simp; omega)).mono ?_
  rintro e w' ⟨rfl, rfl⟩
  exact ⟨ret_int (by simp [sumCrc_append]), rfl⟩
theorem sum_rof_app (s t : ByteArray) (w : World) (hs : s.size ≤ 2000) (ht : t.size ≤ 2000) :
    Calls Try.prog 17 #[.string (s ++ t)] w fun e w' => e = .returned (.int .u32 ((sumCrc (sumCrc 4294967295#32 s.data.toList) t.data.toList).toNat : Int)) ∧ w = w' := by
  refine (sum_rof_any (s ++ t) w (by simp; omega)).mono ?_
  rintro e w' ⟨rfl, rfl⟩
  exact ⟨ret_int (by simp [sumCrc_append]), rfl⟩

set_option maxHeartbeats 400000 in
theorem sumCrcs_large (x : BitVec 32) (s t : ByteArray) (w : World) (hs : s.size ≤ 9223372036854775807) (ht : t.size ≤ 9223372036854775807) (hl : 2000 < s.size ∨ 2000 < t.size) :
    Calls Try.prog 3 #[.int .u32 (x.toNat : Int), .string s, .string t] w fun e w' => e = .returned (.bool true) ∧ Below w.heap.size w w' := by
  by_cases h : 2000 < s.size
  · go_enter Try.func3, Try.ntmps3
    go_wp2_with (go_at_call 13; refine (sum_live _).mono ?_; rintro e w' ⟨rfl, hb⟩)
    go_ret
    exact ⟨rfl, hb⟩
  · have h2 : 2000 < t.size := by omega
    go_enter Try.func3, Try.ntmps3
    go_wp2_with (go_at_call 13; refine (sum_live _).mono ?_; rintro e w' ⟨rfl, hb⟩)
    go_ret
    exact ⟨rfl, hb⟩

set_option maxHeartbeats 400000 in
theorem sumCrcs_small (x : BitVec 32) (s t : ByteArray) (w : World) (hs : s.size ≤ 2000) (ht : t.size ≤ 2000) :
    Calls Try.prog 3 #[.int .u32 (x.toNat : Int), .string s, .string t] w fun e w' => e = .returned (.bool true) ∧ Below w.heap.size w w' := by
  go_enter Try.func3, Try.ntmps3
  have hs' : s.size ≤ 9223372036854775807 := by omega
  have ht' : t.size ≤ 9223372036854775807 := by omega
  go_wp2_with (first
    | (go_at_call 14; first | ((with_reducible refine (sum_crc_any _ s _ hs').mono ?_); rintro e w' ⟨rfl, rfl⟩) | ((with_reducible refine (sum_crc_any _ t _ ht').mono ?_); rintro e w' ⟨rfl, rfl⟩))
    | (go_at_call 15; first | ((with_reducible refine (sum_rcrc_any _ s _ hs').mono ?_); rintro e w' ⟨rfl, rfl⟩) | (refine (sum_rcrc_app _ s t _ hs ht).mono ?_; rintro e w' ⟨rfl, rfl⟩))
    | (go_at_call 16; refine (sum_of_two _ s t _ (by simp) (by simp) hs' ht').mono ?_; rintro e w' ⟨rfl, rfl⟩)
    | (go_at_call 17; refine (sum_rof_app s t _ hs ht).mono ?_; rintro e w' ⟨rfl, rfl⟩)
    | (go_at_call 13; refine (sum_live _).mono ?_; rintro e w' ⟨rfl, hb⟩))
  go_ret
  exact ⟨rfl, ((Below.refl _ _).alloc (Nat.le_refl _) _).trans (hb.mono (by simp))⟩

set_option maxRecDepth 100000 in
theorem sumCrcs_walk : LawWalk 3 Try.f3 := by
  intro H enc W base args ds p hval hA
  rw [Try.params3] at hA hval
  obtain ⟨v0, v1, v2, d0, d1, d2, p0, p1, p2, rfl, rfl, rfl, h0, h1, h2⟩ := trodAll_three hA
  obtain ⟨a, rfl, rfl, rfl, wa⟩ := open_int Try.underlying22 (hval 0 22 v0 rfl rfl) h0
  obtain ⟨s, rfl, rfl, rfl, hs⟩ := open_string Try.underlying9 (hval 1 9 v1 rfl rfl) h1
  obtain ⟨t, rfl, rfl, rfl, ht⟩ := open_string Try.underlying9 (hval 2 9 v2 rfl rfl) h2
  unfold maxLen at hs ht
  have ha := bounds_u32 wa
  obtain ⟨x, rfl⟩ := u32_word a ha.1 ha.2
  by_cases hl : 2000 < s.size ∨ 2000 < t.size
  · exact sumCrcs_large x s t W (by omega) (by omega) hl
  · exact sumCrcs_small x s t W (by omega) (by omega)

theorem sumCrcs_holds : Rows.SumCrcsSaid :=
  OpenClaim.holds_of_wide 3 Try.f3 rfl rfl rfl rfl rfl rfl rfl ⟨rfl, rfl, rfl, rfl, rfl⟩ rfl rfl rfl rfl rfl (by kernel_rfl) Try.func3 (by kernel_rfl)
    (of_decide_eq_true (by kernel_rfl)) (by unfold Func.isWrapper; rw [if_neg (by decide +kernel)]; exact ⟨rfl, rfl⟩)
    (fun os started H enc _ => law_lifted (s := Rows.sumCrcsSpec) os started H enc Try.func3 (by kernel_rfl)
      (ChangeSpec.witness6 (enc := enc) (C := Try.checked) false ⟨#[], #[.int .u32 0, .string ByteArray.empty, .string ByteArray.empty], []⟩ 8 (by kernel_rfl) (by kernel_rfl) (by kernel_rfl) (by kernel_rfl))
      rfl (by kernel_rfl) (by kernel_rfl) (by decide +kernel) (fun ds h => by match ds, h with | [_, _, _], _ => rfl) sumCrcs_walk)
#print axioms sumCrcs_holds

end Go.Proofs.Ytgnbgjllogjecaa
