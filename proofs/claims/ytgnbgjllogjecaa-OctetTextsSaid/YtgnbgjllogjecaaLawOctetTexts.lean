/- The law OctetTexts: whatever the two texts and the limit, the program's texts with their lengths are the document's, each way, and each is that of the other, whatever stands behind; the call returns true and leaves its arguments as they were. -/
import Derived.Test.YtgnbgjllogjecaaOctetLive
import Derived.Test.YtgnbgjllogjecaaLaw
namespace Go.Proofs.Ytgnbgjllogjecaa
open Go.ChangeShapes Go.WideShapes Go.ChangeAt Go.RowKit
open Go.ChangeMaps (open_string shut_string)
open Go.BigFrame

set_option maxHeartbeats 400000 in
theorem octetTexts_large (v : Int) (s t : ByteArray) (w : World) (hs : s.size ≤ 9223372036854775807) (ht : t.size ≤ 9223372036854775807) (hl : 1000 < s.size ∨ 1000 < t.size) :
    Calls Try.prog 6 #[.string s, .int .i64 v, .string t] w fun e w' => e = .returned (.bool true) ∧ Below w.heap.size w w' := by
  by_cases h : 1000 < s.size
  · clear hl
    go_enter Try.func6, Try.ntmps6
    go_wp2_with (go_at_call 18; refine (oct_live _).mono ?_; rintro e w' ⟨rfl, hb⟩)
    go_ret
    exact ⟨rfl, hb⟩
  · have h2 : 1000 < t.size := by omega
    clear hl
    go_enter Try.func6, Try.ntmps6
    go_wp2_with (go_at_call 18; refine (oct_live _).mono ?_; rintro e w' ⟨rfl, hb⟩)
    go_ret
    exact ⟨rfl, hb⟩

set_option maxRecDepth 100000 in
set_option maxHeartbeats 400000 in
theorem octetTexts_small (m : Int) (s t : ByteArray) (w : World) (hs : s.size ≤ 1000) (ht : t.size ≤ 1000) (hm0 : -9223372036854775808 ≤ m) (hm1 : m ≤ 9223372036854775807) :
    Calls Try.prog 6 #[.string s, .int .i64 m, .string t] w fun e w' => e = .returned (.bool true) ∧ Below w.heap.size w w' := by
  obtain ⟨l, n, e, h⟩ : ∃ l n e, untext s.data.toList m = (l, n, e) := ⟨_, _, _, rfl⟩
  obtain ⟨x, hx⟩ : ∃ x : ByteArray, x = ⟨l.toArray⟩ := ⟨_, rfl⟩
  obtain ⟨c, hc⟩ : ∃ c : ByteArray, c = ⟨(text t.data.toList).toArray⟩ := ⟨_, rfl⟩
  have hcd : c.data.toList = text t.data.toList := by rw [hc]
  have h64 : U64 t.size := by unfold U64; omega
  have hcl : c.size ≤ 1010 := by
    rw [← data_length, hcd, text, List.length_append]
    have := chain_len64 t.data.toList.length (by rw [data_length]; exact h64)
    simp only [data_length] at *
    omega
  have h24 : ∀ w, Calls Try.prog 24 #[.string s, .int .i64 m] w fun e' w' => e' = .returned (.tuple #[.string x, .int .i64 (n : Int), .int .i64 (e : Int)]) ∧ w = w' := fun w => by
    have := untext_any s m w (by omega) hm0 hm1
    rw [h] at this
    rw [hx]
    exact this
  have h25 : ∀ w, Calls Try.prog 25 #[.string s, .int .i64 m] w fun e' w' => e' = .returned (.tuple #[.string x, .int .i64 (n : Int), .int .i64 (e : Int)]) ∧ w = w' := fun w => by
    have := runtext_any s m w (by omega) hm0 hm1
    rw [h] at this
    rw [hx]
    exact this
  have h24' : ∀ w, Calls Try.prog 24 #[.string (c ++ s), .int .i64 t.size] w fun e' w' => e' = .returned (.tuple #[.string t, .int .i64 (c.size : Int), .int .i64 0]) ∧ w = w' := fun w => by
    have := untext_any (c ++ s) t.size w (by simp; omega) (by omega) (by omega)
    rw [data_append, hcd, untext_text _ _ _ (by rw [data_length]; omega) (by rw [data_length]; exact h64)] at this
    rw [← hcd, data_length] at this
    exact this
  have h26 : ∀ w, Calls Try.prog 26 #[.string t] w fun e w' => e = .returned (.string c) ∧ Below w.heap.size w w' := fun w => by
    rw [hc]; exact text_any t w (by omega)
  have h27 : ∀ w, Calls Try.prog 27 #[.string t] w fun e w' => e = .returned (.string c) ∧ Below w.heap.size w w' := fun w => by
    rw [hc]; exact rtext_any t w (by omega)
  have H24 := Lib.hid h24
  have H24' := Lib.hid h24'
  have H25 := Lib.hid h25
  have H26 := Lib.hid h26
  have H27 := Lib.hid h27
  clear h h24 h24' h25 h26 h27 hc hcd hx
  have hb : Below w.heap.size w w := Below.refl _ _
  go_enter Try.func6, Try.ntmps6
  go_wp2_with (first
    | (go_at_call 24; first | ((with_reducible refine (H24.out _).mono ?_); rintro e w' ⟨rfl, rfl⟩) | ((with_reducible refine (H24'.out _).mono ?_); rintro e w' ⟨rfl, rfl⟩))
    | (go_at_call 25; refine (H25.out _).mono ?_; rintro e w' ⟨rfl, rfl⟩)
    | (go_at_call 26; refine (H26.out _).mono ?_; rintro e w' ⟨rfl, hb'⟩; replace hb := bel_trans hb hb'; clear hb')
    | (go_at_call 27; refine (H27.out _).mono ?_; rintro e w' ⟨rfl, hb'⟩; replace hb := bel_trans hb hb'; clear hb')
    | (go_at_call 22; refine (num01_any _ _).mono ?_; rintro e w' ⟨rfl, rfl⟩)
    | (go_at_call 18; refine (oct_live _).mono ?_; rintro e w' ⟨rfl, hb'⟩; replace hb := bel_trans hb hb'; clear hb'))
  go_ret
  exact ⟨rfl, hb⟩

set_option maxRecDepth 100000 in
theorem octetTexts_walk : LawWalk 6 Try.f6 := by
  intro H enc W base args ds p hval hA
  rw [Try.params6] at hA hval
  obtain ⟨v0, v1, v2, d0, d1, d2, p0, p1, p2, rfl, rfl, rfl, h0, h1, h2⟩ := trodAll_three hA
  obtain ⟨s, rfl, rfl, rfl, hs⟩ := open_string Try.underlying9 (hval 0 9 v0 rfl rfl) h0
  obtain ⟨a, rfl, rfl, rfl, wa⟩ := open_int Try.underlying3 (hval 1 3 v1 rfl rfl) h1
  obtain ⟨t, rfl, rfl, rfl, ht⟩ := open_string Try.underlying9 (hval 2 9 v2 rfl rfl) h2
  unfold maxLen at hs ht
  have ha := bounds_i64 wa
  by_cases hl : 1000 < s.size ∨ 1000 < t.size
  · exact octetTexts_large a s t W (by omega) (by omega) hl
  · exact octetTexts_small a s t W (by omega) (by omega) (by omega) (by omega)

theorem octetTexts_holds : Rows.OctetTextsSaid :=
  OpenClaim.holds_of_wide 6 Try.f6 rfl rfl rfl rfl rfl rfl rfl ⟨rfl, rfl, rfl, rfl, rfl⟩ rfl rfl rfl rfl rfl (by kernel_rfl) Try.func6 (by kernel_rfl)
    (of_decide_eq_true (by kernel_rfl)) (by unfold Func.isWrapper; rw [if_neg (by decide +kernel)]; exact ⟨rfl, rfl⟩)
    (fun os started H enc _ => law_lifted (s := Rows.octetTextsSpec) os started H enc Try.func6 (by kernel_rfl)
      (ChangeSpec.witness6 (enc := enc) (C := Try.checked) false ⟨#[], #[.string ByteArray.empty, .int .i64 0, .string ByteArray.empty], []⟩ 8 (by kernel_rfl) (by kernel_rfl) (by kernel_rfl) (by kernel_rfl))
      rfl (by kernel_rfl) (by kernel_rfl) (by decide +kernel) (fun ds h => by match ds, h with | [_, _, _], _ => rfl) octetTexts_walk)
#print axioms octetTexts_holds

end Go.Proofs.Ytgnbgjllogjecaa
