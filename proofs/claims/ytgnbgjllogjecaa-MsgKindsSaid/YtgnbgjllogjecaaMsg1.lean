/- The walks of msg's tables (layer 19). -/
import Derived.Test.YtgnbgjllogjecaaRows
import Derived.Test.YtgnbgjllogjecaaMsgPlain
import Derived.Test.YtgnbgjllogjecaaKit2
import Derived.WalkKit
import Derived.WalkSpells
import Derived.WalkLawsBesides
namespace Go.Proofs.Ytgnbgjllogjecaa
open Go.RowKit

theorem msg_is_any (k : Int) (w : World) : Calls Try.prog 77 #[.int .i64 k] w fun r w' => r = .returned (.bool (isKind k)) ∧ w = w' := by
  by_cases h1 : 1 ≤ k
  · by_cases h2 : k ≤ 17
    · go_enter Try.func77, Try.ntmps77
      go_wp2
      go_ret
      exact ⟨by rw [show isKind k = true from decide_eq_true ⟨h1, h2⟩]; simp, rfl⟩
    · go_enter Try.func77, Try.ntmps77
      go_wp2
      go_ret
      exact ⟨by rw [show isKind k = false from decide_eq_false (by omega)]; simp, rfl⟩
  · go_enter Try.func77, Try.ntmps77
    go_wp2
    go_ret
    exact ⟨by rw [show isKind k = false from decide_eq_false (by omega)]; simp, rfl⟩

set_option maxRecDepth 100000 in
theorem msg_forms_any (w : World) : Calls Try.prog 79 #[] w fun r w' => r = .returned (.slice (some ⟨w.heap.size, 0, none⟩) 18 18) ∧ w.alloc (.cells formArr 114) = w' := by
  go_enter Try.func79, Try.ntmps79
  go_wp2
  go_ret
  exact ⟨rfl, rfl⟩

theorem msg_of_yes (k : Nat) (w : World) (h1 : 1 ≤ k) (h2 : k ≤ 17) : Calls Try.prog 81 #[.int .i64 (k : Int)] w fun r w' => r = .returned (.agg #[.string (bs (wordOf k)), .string (bs (fieldsOf k))]) ∧ Below w.heap.size w w' := by
  obtain ⟨ha, hb⟩ := formArr_at k (by omega)
  have hk : isKind (k : Int) = true := decide_eq_true ⟨by omega, by omega⟩
  go_enter Try.func81, Try.ntmps81
  go_wp2_with (first
    | (go_at_call 77; refine (msg_is_any _ _).mono ?_; rintro r w' ⟨rfl, rfl⟩)
    | (go_at_call 79; refine (msg_forms_any _).mono ?_; rintro r w' ⟨rfl, rfl⟩))
  refine bodyPost_ret (v := .agg #[.string (bs (wordOf k)), .string (bs (fieldsOf k))]) (by simp [results, Try.results81, go_sem]) rfl ⟨rfl, ?_⟩
  exact ((Below.refl _ _).alloc (Nat.le_refl _) _).alloc (by simp) _
theorem msg_of_no (k : Int) (w : World) (h : ¬ (1 ≤ k ∧ k ≤ 17)) : Calls Try.prog 81 #[.int .i64 k] w fun r w' => r = .returned (.agg #[.string (bs []), .string (bs [])]) ∧ Below w.heap.size w w' := by
  have hk : isKind k = false := decide_eq_false h
  clear h
  go_enter Try.func81, Try.ntmps81
  go_wp2_with (go_at_call 77; refine (msg_is_any _ _).mono ?_; rintro r w' ⟨rfl, rfl⟩)
  refine bodyPost_ret (v := .agg #[.string (bs []), .string (bs [])]) (by simp [results, Try.results81, go_sem]; rfl) rfl ⟨rfl, ?_⟩
  exact (Below.refl _ _).alloc (Nat.le_refl _) _
theorem msg_of_any (k : Int) (w : World) : Calls Try.prog 81 #[.int .i64 k] w fun r w' => r = .returned (.agg #[.string (bs (wordK k)), .string (bs (fieldsK k))]) ∧ Below w.heap.size w w' := by
  by_cases h : 1 ≤ k ∧ k ≤ 17
  · obtain ⟨n, rfl⟩ := Int.eq_ofNat_of_zero_le (show 0 ≤ k by omega)
    rw [wordK_yes n (by omega) (by omega), fieldsK_yes n (by omega) (by omega)]
    exact msg_of_yes n w (by omega) (by omega)
  · rw [wordK_no k h, fieldsK_no k h]
    exact msg_of_no k w h
theorem form_field0 (x y : ByteArray) (w : World) : (Instr.field 114 (.agg #[.string x, .string y]) 0).run Try.prog w = .ok (.string x) w := by kernel_rfl
theorem form_field1 (x y : ByteArray) (w : World) : (Instr.field 114 (.agg #[.string x, .string y]) 1).run Try.prog w = .ok (.string y) w := by kernel_rfl
set_option maxRecDepth 100000 in
theorem msg_fields_any (k : Int) (w : World) : Calls Try.prog 55 #[.int .i64 k] w fun r w' => r = .returned (.string (bs (fieldsK k))) ∧ Below w.heap.size w w' := by
  have hf := form_field1
  go_enter Try.func55, Try.ntmps55
  go_wp2_with (go_at_call 81; refine (msg_of_any _ _).mono ?_; rintro r w' ⟨rfl, hb⟩)
  go_ret
  exact ⟨rfl, hb⟩
set_option maxRecDepth 100000 in
theorem msg_word_any (k : Int) (w : World) : Calls Try.prog 57 #[.int .i64 k] w fun r w' => r = .returned (.string (bs (wordK k))) ∧ Below w.heap.size w w' := by
  have hf := form_field0
  go_enter Try.func57, Try.ntmps57
  go_wp2_with (go_at_call 81; refine (msg_of_any _ _).mono ?_; rintro r w' ⟨rfl, hb⟩)
  go_ret
  exact ⟨rfl, hb⟩
end Go.Proofs.Ytgnbgjllogjecaa
