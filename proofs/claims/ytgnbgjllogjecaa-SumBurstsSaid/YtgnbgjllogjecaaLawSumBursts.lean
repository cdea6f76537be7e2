/- The law SumBursts: whatever the text, the place and the turn, a text of which bits are turned within 32 in a row has another sum; the call returns true and leaves its arguments as they were. -/
import Derived.Test.YtgnbgjllogjecaaSumBurstsW
import Derived.Test.YtgnbgjllogjecaaLaw
namespace Go.Proofs.Ytgnbgjllogjecaa
open Go.ChangeShapes Go.WideShapes Go.ChangeAt Go.RowKit
open Go.ChangeMaps (open_string shut_string)

set_option maxRecDepth 100000 in
set_option maxHeartbeats 400000 in
theorem sumBursts_out (s : ByteArray) (a : Int) (t : Int) (w : World) (hs : s.size ≤ 9223372036854775807) (_ha0 : -9223372036854775808 ≤ a) (_ha1 : a ≤ 9223372036854775807) (ht0 : 0 ≤ t)
    (h : 2000 < s.size ∨ t = 0 ∨ a < 0 ∨ 8 * (s.size : Int) - 32 < a) :
    Calls Try.prog 4 #[.string s, .int .i64 a, .int .u32 t] w fun e w' => e = .returned (.bool true) ∧ Below w.heap.size w w' := by
  by_cases h1 : 2000 < s.size
  · clear h
    go_enter Try.func4, Try.ntmps4
    go_wp2_with (go_at_call 13; refine (sum_live _).mono ?_; rintro e w' ⟨rfl, hb⟩)
    go_ret
    exact ⟨rfl, hb⟩
  by_cases h2 : t = 0
  · subst h2
    clear h
    go_enter Try.func4, Try.ntmps4
    go_wp2_with (go_at_call 13; refine (sum_live _).mono ?_; rintro e w' ⟨rfl, hb⟩)
    go_ret
    exact ⟨rfl, hb⟩
  have hb0 : (t == 0) = false := by simpa using h2
  clear h2
  by_cases h3 : a < 0
  · clear h
    go_enter Try.func4, Try.ntmps4
    go_wp2_with (go_at_call 13; refine (sum_live _).mono ?_; rintro e w' ⟨rfl, hb⟩)
    go_ret
    exact ⟨rfl, hb⟩
  have h4 : 8 * (s.size : Int) - 32 < a := by
    rcases h with h | h | h | h
    · exact absurd h h1
    · simp [h] at hb0
    · exact absurd h h3
    · exact h
  clear h
  go_enter Try.func4, Try.ntmps4
  go_wp2_with (go_at_call 13; refine (sum_live _).mono ?_; rintro e w' ⟨rfl, hb⟩)
  go_ret
  exact ⟨rfl, hb⟩

theorem bytesRow_at (s : ByteArray) (cap : Nat) : BytesAt (bytesRow s cap) s.data.toList := by
  intro j v hj
  have hlt : j < s.data.size := by
    have := (List.getElem?_eq_some_iff.1 hj).1
    simpa using this
  unfold bytesRow
  rw [Array.getElem?_append_left (by simpa using hlt), Array.getElem?_map]
  have : s.data[j]? = some v := by simpa using hj
  rw [this]
  rfl

set_option maxRecDepth 100000 in
theorem sumBursts_walk : LawWalk 4 Try.f4 := by
  intro H enc W base args ds p hval hA
  rw [Try.params4] at hA hval
  obtain ⟨v0, v1, v2, d0, d1, d2, p0, p1, p2, rfl, rfl, rfl, h0, h1, h2⟩ := trodAll_three hA
  obtain ⟨s, rfl, rfl, rfl, hs⟩ := open_string Try.underlying9 (hval 0 9 v0 rfl rfl) h0
  obtain ⟨a, rfl, rfl, rfl, wa⟩ := open_int Try.underlying3 (hval 1 3 v1 rfl rfl) h1
  obtain ⟨t, rfl, rfl, rfl, wt⟩ := open_int Try.underlying22 (hval 2 22 v2 rfl rfl) h2
  unfold maxLen at hs
  have ha := bounds_i64 wa
  have ht := bounds_u32 wt
  by_cases hl : 2000 < s.size ∨ t = 0 ∨ a < 0 ∨ 8 * (s.size : Int) - 32 < a
  · exact sumBursts_out s a t W (by omega) ha.1 ha.2 ht.1 hl
  · obtain ⟨a, rfl⟩ := Int.eq_ofNat_of_zero_le (show 0 ≤ a by omega)
    obtain ⟨t, rfl⟩ := Int.eq_ofNat_of_zero_le ht.1
    refine sumBursts_main s a t W _ _ _ (by omega) (by omega) (by omega) (by omega)
      (run_bytes_of_string (P := Try.prog) W 9 28 5 s Try.underlying9 Try.underlying28 Try.underlying5) ?_ (bytesRow_at _ _) rfl
    intro he
    exact burst_other 4294967295#32 s.data.toList a t (by simp; omega) (by omega) (by omega) (BitVec.eq_of_toNat_eq he)

theorem sumBursts_holds : Rows.SumBurstsSaid :=
  OpenClaim.holds_of_wide 4 Try.f4 rfl rfl rfl rfl rfl rfl rfl ⟨rfl, rfl, rfl, rfl, rfl⟩ rfl rfl rfl rfl rfl (by kernel_rfl) Try.func4 (by kernel_rfl)
    (of_decide_eq_true (by kernel_rfl)) (by unfold Func.isWrapper; rw [if_neg (by decide +kernel)]; exact ⟨rfl, rfl⟩)
    (fun os started H enc _ => law_lifted (s := Rows.sumBurstsSpec) os started H enc Try.func4 (by kernel_rfl)
      (ChangeSpec.witness6 (enc := enc) (C := Try.checked) false ⟨#[], #[.string ByteArray.empty, .int .i64 0, .int .u32 0], []⟩ 8 (by kernel_rfl) (by kernel_rfl) (by kernel_rfl) (by kernel_rfl))
      rfl (by kernel_rfl) (by kernel_rfl) (by decide +kernel) (fun ds h => by match ds, h with | [_, _, _], _ => rfl) sumBursts_walk)
#print axioms sumBursts_holds

end Go.Proofs.Ytgnbgjllogjecaa
