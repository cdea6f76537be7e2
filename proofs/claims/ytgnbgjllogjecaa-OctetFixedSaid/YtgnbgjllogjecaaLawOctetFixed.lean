/- The law OctetFixed: whatever the number, how many bytes, and the text, the program's fixed numbers are the document's, each way, and each is that of the other; the call returns true and leaves its arguments as they were. -/
import Derived.Test.YtgnbgjllogjecaaOctetLive
import Derived.Test.YtgnbgjllogjecaaOctetFixed
import Derived.Test.YtgnbgjllogjecaaLaw
namespace Go.Proofs.Ytgnbgjllogjecaa
open Go.ChangeShapes Go.WideShapes Go.ChangeAt Go.RowKit
open Go.ChangeMaps (open_string shut_string)
open Go.BigFrame

set_option maxRecDepth 100000 in
set_option maxHeartbeats 400000 in
theorem octetFixed_all (V : Nat) (n : Int) (s : ByteArray) (w : World) (hV : U64 V) (hs : s.size ≤ 9223372036854775807) (hm0 : -9223372036854775808 ≤ n) (hm1 : n ≤ 9223372036854775807) :
    Calls Try.prog 7 #[.int .u64 V, .int .i64 n, .string s] w fun e w' => e = .returned (.bool true) ∧ Below w.heap.size w w' := by
  obtain ⟨l, e, h⟩ : ∃ l e, fixed V n = (l, e) := ⟨_, _, rfl⟩
  obtain ⟨x, g, hx⟩ : ∃ x g, number s.data.toList = (x, g) := ⟨_, _, rfl⟩
  obtain ⟨a, ha⟩ : ∃ a : ByteArray, a = ⟨l.toArray⟩ := ⟨_, rfl⟩
  have h28 : ∀ w, Calls Try.prog 28 #[.int .u64 V, .int .i64 n] w fun e' w' => e' = .returned (.tuple #[.string a, .int .i64 (e : Int)]) ∧ Below w.heap.size w w' := fun w => by
    have := fixed_any V n w hV hm0 hm1
    rw [h] at this
    rw [ha]
    exact this
  have h29 : ∀ w, Calls Try.prog 29 #[.int .u64 V, .int .i64 n] w fun e' w' => e' = .returned (.tuple #[.string a, .int .i64 (e : Int)]) ∧ Below w.heap.size w w' := fun w => by
    have := rfixed_any V n w hV hm0 hm1
    rw [h] at this
    rw [ha]
    exact this
  have h30 : ∀ w, Calls Try.prog 30 #[.string s] w fun e' w' => e' = .returned (.tuple #[.int .u64 (x : Int), .int .i64 (g : Int)]) ∧ w = w' := fun w => by
    have := number_any s w hs
    rw [hx] at this
    exact this
  have h31 : ∀ w, Calls Try.prog 31 #[.string s] w fun e' w' => e' = .returned (.tuple #[.int .u64 (x : Int), .int .i64 (g : Int)]) ∧ w = w' := fun w => by
    have := rnumber_any s w hs
    rw [hx] at this
    exact this
  have h30' : e = 0 → ∀ w, Calls Try.prog 30 #[.string a] w fun e' w' => e' = .returned (.tuple #[.int .u64 (V : Int), .int .i64 0]) ∧ w = w' := fun he w => by
    have hno : ¬ (n < 1 ∨ 8 < n ∨ 256 ^ n.toNat ≤ V) := fun hno => by
      rw [fixed_no V n hno] at h
      have := (Prod.mk.inj h).2
      omega
    have hlt : V < 256 ^ n.toNat := by
      rcases Nat.lt_or_ge V (256 ^ n.toNat) with h | h
      · exact h
      · exact absurd (.inr (.inr h)) hno
    obtain ⟨k, rfl⟩ := Int.eq_ofNat_of_zero_le (show 0 ≤ n by omega)
    rw [Int.toNat_natCast] at hlt
    rw [fixed_yes V k (by omega) (by omega) hlt] at h
    have hl := (Prod.mk.inj h).1
    have hd : a.data.toList = be k V := by rw [ha, ← hl]
    have hsz : a.size = k := by rw [← data_length, hd, be_length]
    have := number_any a w (by omega)
    rw [number_yes _ (by rw [data_length]; omega), hd, num_be _ _ hlt] at this
    exact this
  have H28 := Lib.hid h28
  have H29 := Lib.hid h29
  have H30 := Lib.hid h30
  have H31 := Lib.hid h31
  have H30' := Lib.hid h30'
  clear h h28 h29 h30 h31 h30' hx ha
  have hb : Below w.heap.size w w := Below.refl _ _
  by_cases he : e = 0
  · subst he
    have H := Lib.hid (H30'.out rfl)
    go_enter Try.func7, Try.ntmps7
    go_wp2_with (first
      | (go_at_call 28; refine (H28.out _).mono ?_; rintro e w' ⟨rfl, hb'⟩; replace hb := bel_trans hb hb'; clear hb')
      | (go_at_call 29; refine (H29.out _).mono ?_; rintro e w' ⟨rfl, hb'⟩; replace hb := bel_trans hb hb'; clear hb')
      | (go_at_call 30; first | ((with_reducible refine (H30.out _).mono ?_); rintro e w' ⟨rfl, rfl⟩) | ((with_reducible refine (H.out _).mono ?_); rintro e w' ⟨rfl, rfl⟩))
      | (go_at_call 31; refine (H31.out _).mono ?_; rintro e w' ⟨rfl, rfl⟩)
      | (go_at_call 22; refine (num01_any _ _).mono ?_; rintro e w' ⟨rfl, rfl⟩)
      | (go_at_call 18; refine (oct_live _).mono ?_; rintro e w' ⟨rfl, hb'⟩; replace hb := bel_trans hb hb'; clear hb'))
    go_ret
    exact ⟨rfl, hb⟩
  · have hef : ((e : Int) == 0) = false := by simp; omega
    go_enter Try.func7, Try.ntmps7
    go_wp2_with (first
      | (go_at_call 28; refine (H28.out _).mono ?_; rintro e w' ⟨rfl, hb'⟩; replace hb := bel_trans hb hb'; clear hb')
      | (go_at_call 29; refine (H29.out _).mono ?_; rintro e w' ⟨rfl, hb'⟩; replace hb := bel_trans hb hb'; clear hb')
      | (go_at_call 30; (with_reducible refine (H30.out _).mono ?_); rintro e w' ⟨rfl, rfl⟩)
      | (go_at_call 31; refine (H31.out _).mono ?_; rintro e w' ⟨rfl, rfl⟩)
      | (go_at_call 22; refine (num01_any _ _).mono ?_; rintro e w' ⟨rfl, rfl⟩)
      | (go_at_call 18; refine (oct_live _).mono ?_; rintro e w' ⟨rfl, hb'⟩; replace hb := bel_trans hb hb'; clear hb'))
    go_ret
    exact ⟨rfl, hb⟩

set_option maxRecDepth 100000 in
theorem octetFixed_walk : LawWalk 7 Try.f7 := by
  intro H enc W base args ds p hval hA
  rw [Try.params7] at hA hval
  obtain ⟨v0, v1, v2, d0, d1, d2, p0, p1, p2, rfl, rfl, rfl, h0, h1, h2⟩ := trodAll_three hA
  obtain ⟨v, rfl, rfl, rfl, wv⟩ := open_int Try.underlying31 (hval 0 31 v0 rfl rfl) h0
  obtain ⟨a, rfl, rfl, rfl, wa⟩ := open_int Try.underlying3 (hval 1 3 v1 rfl rfl) h1
  obtain ⟨s, rfl, rfl, rfl, hs⟩ := open_string Try.underlying9 (hval 2 9 v2 rfl rfl) h2
  unfold maxLen at hs
  have ha := bounds_i64 wa
  obtain ⟨V, rfl, hV⟩ := u64_word wv
  exact octetFixed_all V a s W hV (by omega) (by omega) (by omega)

theorem octetFixed_holds : Rows.OctetFixedSaid :=
  OpenClaim.holds_of_wide 7 Try.f7 rfl rfl rfl rfl rfl rfl rfl ⟨rfl, rfl, rfl, rfl, rfl⟩ rfl rfl rfl rfl rfl (by kernel_rfl) Try.func7 (by kernel_rfl)
    (of_decide_eq_true (by kernel_rfl)) (by unfold Func.isWrapper; rw [if_neg (by decide +kernel)]; exact ⟨rfl, rfl⟩)
    (fun os started H enc _ => law_lifted (s := Rows.octetFixedSpec) os started H enc Try.func7 (by kernel_rfl)
      (ChangeSpec.witness6 (enc := enc) (C := Try.checked) false ⟨#[], #[.int .u64 0, .int .i64 0, .string ByteArray.empty], []⟩ 8 (by kernel_rfl) (by kernel_rfl) (by kernel_rfl) (by kernel_rfl))
      rfl (by kernel_rfl) (by kernel_rfl) (by decide +kernel) (fun ds h => by match ds, h with | [_, _, _], _ => rfl) octetFixed_walk)
#print axioms octetFixed_holds

end Go.Proofs.Ytgnbgjllogjecaa
