/- The law OctetChains: whatever the number and the two texts, the program's chains are the document's, each way, and each is that of the other, whatever stands behind; the call returns true and leaves its arguments as they were. -/
import Derived.Test.YtgnbgjllogjecaaOctetLive
import Derived.Test.YtgnbgjllogjecaaLaw
namespace Go.Proofs.Ytgnbgjllogjecaa
open Go.ChangeShapes Go.WideShapes Go.ChangeAt Go.RowKit
open Go.ChangeMaps (open_string shut_string)
open Go.BigFrame

set_option maxHeartbeats 400000 in
theorem octetChains_large (v : Nat) (s t : ByteArray) (w : World) (hs : s.size ≤ 9223372036854775807) (ht : t.size ≤ 9223372036854775807) (hl : 1000 < s.size ∨ 1000 < t.size) :
    Calls Try.prog 5 #[.int .u64 v, .string s, .string t] w fun e w' => e = .returned (.bool true) ∧ Below w.heap.size w w' := by
  by_cases h : 1000 < s.size
  · clear hl
    go_enter Try.func5, Try.ntmps5
    go_wp2_with (go_at_call 18; refine (oct_live _).mono ?_; rintro e w' ⟨rfl, hb⟩)
    go_ret
    exact ⟨rfl, hb⟩
  · have h2 : 1000 < t.size := by omega
    clear hl
    go_enter Try.func5, Try.ntmps5
    go_wp2_with (go_at_call 18; refine (oct_live _).mono ?_; rintro e w' ⟨rfl, hb⟩)
    go_ret
    exact ⟨rfl, hb⟩

set_option maxRecDepth 100000 in
set_option maxHeartbeats 400000 in
theorem octetChains_small (V : Nat) (s t : ByteArray) (w : World) (hs : s.size ≤ 1000) (ht : t.size ≤ 1000) (hV : U64 V) :
    Calls Try.prog 5 #[.int .u64 V, .string s, .string t] w fun e w' => e = .returned (.bool true) ∧ Below w.heap.size w w' := by
  obtain ⟨v, n, e, h⟩ : ∃ v n e, unchain s.data.toList = (v, n, e) := ⟨_, _, _, rfl⟩
  have hok := unchain_ok s.data.toList
  rw [h] at hok
  obtain ⟨hv, hok⟩ := hok
  obtain ⟨c, hc⟩ : ∃ c : ByteArray, c = ⟨(chain V).toArray⟩ := ⟨_, rfl⟩
  have hcd : c.data.toList = chain V := by rw [hc]
  have hcl : c.size ≤ 10 := by rw [← data_length, hcd]; exact chain_len64 V hV
  have h19 : ∀ w, Calls Try.prog 19 #[.string s] w fun e' w' => e' = .returned (.tuple #[.int .u64 (v : Int), .int .i64 (n : Int), .int .i64 (e : Int)]) ∧ w = w' := fun w => by
    have := unchain_any s w (by omega)
    rw [h] at this
    exact this
  have h19' : ∀ w, Calls Try.prog 19 #[.string (c ++ t)] w fun e' w' => e' = .returned (.tuple #[.int .u64 (V : Int), .int .i64 (c.size : Int), .int .i64 0]) ∧ w = w' := fun w => by
    have := unchain_any (c ++ t) w (by simp; omega)
    rw [data_append, hcd, unchain_chain V _ hV] at this
    rw [← data_length, hcd]
    exact this
  have h20 : ∀ w, Calls Try.prog 20 #[.string s] w fun e' w' => e' = .returned (.tuple #[.int .u64 (v : Int), .int .i64 (n : Int), .int .i64 (e : Int)]) ∧ w = w' := fun w => by
    have := runchain_any s w (by omega)
    rw [h] at this
    exact this
  have h21 : ∀ w, Calls Try.prog 21 #[.int .u64 V] w fun e w' => e = .returned (.string c) ∧ Below w.heap.size w w' := fun w => by
    rw [hc]; exact chain_any V w hV
  have h23 : ∀ w, Calls Try.prog 23 #[.int .u64 V] w fun e w' => e = .returned (.string c) ∧ Below w.heap.size w w' := fun w => by
    rw [hc]; exact rchain_any V w hV
  have h21' : e = 0 → ∀ w, Calls Try.prog 21 #[.int .u64 v] w fun e w' => e = .returned (.string (s.extract 0 n)) ∧ Below w.heap.size w w' := fun he w => by
    subst he
    have h1 := chain_any v w hv
    rw [chain_unchain _ _ _ h] at h1
    have : str (s.data.toList.take n) = .string (s.extract 0 n) := by
      refine (val_str ?_).symm
      rw [extract_list]; simp
    rw [this] at h1
    exact h1
  simp only [data_length] at hok
  have H19 := Lib.hid h19
  have H19' := Lib.hid h19'
  have H20 := Lib.hid h20
  have H21 := Lib.hid h21
  have H23 := Lib.hid h23
  have H21' := Lib.hid h21'
  clear h h19 h19' h20 h21 h23 h21' hc hcd
  have hb : Below w.heap.size w w := Below.refl _ _
  by_cases he : e = 0
  · subst he
    have hns : n ≤ s.size := by omega
    have H := Lib.hid (H21'.out rfl)
    clear hok
    go_enter Try.func5, Try.ntmps5
    go_wp2_with (first
      | (go_at_call 19; first | ((with_reducible refine (H19.out _).mono ?_); rintro e w' ⟨rfl, rfl⟩) | ((with_reducible refine (H19'.out _).mono ?_); rintro e w' ⟨rfl, rfl⟩))
      | (go_at_call 20; refine (H20.out _).mono ?_; rintro e w' ⟨rfl, rfl⟩)
      | (go_at_call 21; first | ((with_reducible refine (H21.out _).mono ?_); rintro e w' ⟨rfl, hb'⟩; replace hb := bel_trans hb hb'; clear hb') | ((with_reducible refine (H.out _).mono ?_); rintro e w' ⟨rfl, hb'⟩; replace hb := bel_trans hb hb'; clear hb'))
      | (go_at_call 23; refine (H23.out _).mono ?_; rintro e w' ⟨rfl, hb'⟩; replace hb := bel_trans hb hb'; clear hb')
      | (go_at_call 22; refine (num01_any _ _).mono ?_; rintro e w' ⟨rfl, rfl⟩)
      | (go_at_call 18; refine (oct_live _).mono ?_; rintro e w' ⟨rfl, hb'⟩; replace hb := bel_trans hb hb'; clear hb'))
    refine wp_region_quiet_below (by kernel_rfl) (by kernel_rfl) ?_
    repeat (go_big_quiet_step (first
      | (go_at_call 21; exact Calls.regrown_of (H.out _))
      | (go_at_call 18; exact Calls.regrown_of (oct_live _))))
    refine wpQuiet_nil ?_
    intro w1 hw1
    replace hb := bel_trans hb (bel_of_regrown hw1)
    clear hw1
    go_wp2
    go_ret
    exact ⟨rfl, hb⟩
  · have hef : ((e : Int) != 0) = true := by rw [bne_iff_ne]; omega
    clear hok he
    go_enter Try.func5, Try.ntmps5
    go_wp2_with (first
      | (go_at_call 19; first | ((with_reducible refine (H19.out _).mono ?_); rintro e w' ⟨rfl, rfl⟩) | ((with_reducible refine (H19'.out _).mono ?_); rintro e w' ⟨rfl, rfl⟩))
      | (go_at_call 20; refine (H20.out _).mono ?_; rintro e w' ⟨rfl, rfl⟩)
      | (go_at_call 21; first | ((with_reducible refine (H21.out _).mono ?_); rintro e w' ⟨rfl, hb'⟩; replace hb := bel_trans hb hb'; clear hb'))
      | (go_at_call 23; refine (H23.out _).mono ?_; rintro e w' ⟨rfl, hb'⟩; replace hb := bel_trans hb hb'; clear hb')
      | (go_at_call 22; refine (num01_any _ _).mono ?_; rintro e w' ⟨rfl, rfl⟩)
      | (go_at_call 18; refine (oct_live _).mono ?_; rintro e w' ⟨rfl, hb'⟩; replace hb := bel_trans hb hb'; clear hb'))
    refine wp_region_quiet_below (by kernel_rfl) (by kernel_rfl) ?_
    repeat (go_big_quiet_step (first
      | fail
      | (go_at_call 18; exact Calls.regrown_of (oct_live _))))
    refine wpQuiet_nil ?_
    intro w1 hw1
    replace hb := bel_trans hb (bel_of_regrown hw1)
    clear hw1
    go_wp2
    go_ret
    exact ⟨rfl, hb⟩

set_option maxRecDepth 100000 in
theorem octetChains_walk : LawWalk 5 Try.f5 := by
  intro H enc W base args ds p hval hA
  rw [Try.params5] at hA hval
  obtain ⟨v0, v1, v2, d0, d1, d2, p0, p1, p2, rfl, rfl, rfl, h0, h1, h2⟩ := trodAll_three hA
  obtain ⟨a, rfl, rfl, rfl, wa⟩ := open_int Try.underlying31 (hval 0 31 v0 rfl rfl) h0
  obtain ⟨s, rfl, rfl, rfl, hs⟩ := open_string Try.underlying9 (hval 1 9 v1 rfl rfl) h1
  obtain ⟨t, rfl, rfl, rfl, ht⟩ := open_string Try.underlying9 (hval 2 9 v2 rfl rfl) h2
  unfold maxLen at hs ht
  obtain ⟨V, rfl, hV⟩ := u64_word wa
  by_cases hl : 1000 < s.size ∨ 1000 < t.size
  · exact octetChains_large V s t W (by omega) (by omega) hl
  · exact octetChains_small V s t W (by omega) (by omega) hV

theorem octetChains_holds : Rows.OctetChainsSaid :=
  OpenClaim.holds_of_wide 5 Try.f5 rfl rfl rfl rfl rfl rfl rfl ⟨rfl, rfl, rfl, rfl, rfl⟩ rfl rfl rfl rfl rfl (by kernel_rfl) Try.func5 (by kernel_rfl)
    (of_decide_eq_true (by kernel_rfl)) (by unfold Func.isWrapper; rw [if_neg (by decide +kernel)]; exact ⟨rfl, rfl⟩)
    (fun os started H enc _ => law_lifted (s := Rows.octetChainsSpec) os started H enc Try.func5 (by kernel_rfl)
      (ChangeSpec.witness6 (enc := enc) (C := Try.checked) false ⟨#[], #[.int .u64 0, .string ByteArray.empty, .string ByteArray.empty], []⟩ 8 (by kernel_rfl) (by kernel_rfl) (by kernel_rfl) (by kernel_rfl))
      rfl (by kernel_rfl) (by kernel_rfl) (by decide +kernel) (fun ds h => by match ds, h with | [_, _, _], _ => rfl) octetChains_walk)
#print axioms octetChains_holds

end Go.Proofs.Ytgnbgjllogjecaa
