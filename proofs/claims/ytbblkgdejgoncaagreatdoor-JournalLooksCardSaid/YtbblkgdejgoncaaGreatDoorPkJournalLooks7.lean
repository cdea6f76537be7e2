/- The law JournalLooks: of a disk without a super, or with one whose text is not there, nothing is told; so of one that is dead, and of none; nothing is written; the call returns true and leaves its arguments as they were. -/
import Derived.Test.YtbblkgdejgoncaaGreatDoorPkJournalLooks1
import Derived.Test.YtbblkgdejgoncaaGreatDoorPkJournalLooks2
import Derived.Test.YtbblkgdejgoncaaGreatDoorPkJournalLooks3
import Derived.Test.YtbblkgdejgoncaaGreatDoorPkJournalLooks4
import Derived.Test.YtbblkgdejgoncaaGreatDoorPkJournalLooks5
import Derived.Test.YtbblkgdejgoncaaGreatDoorPkJournalLooks6


set_option linter.unusedSimpArgs false
set_option linter.unusedVariables false
namespace Go.Proofs.YtbblkgdejgoncaaGreatDoor
open Go Go.ChangeShapes Go.WideShapes Go.ChangeAt Go.RowKit

section



theorem part3 (n : Nat) (z : Int) (s : List UInt8) : partE n z = 1 ∨ (∃ R : Nat, z = (R : Int) ∧ partE n (R : Int) = 0 ∧ (1 ≤ R ∧ 2 + 2 * R < n) ∧ R < manyS s.length) ∨ (∃ R : Nat, z = (R : Int) ∧ partE n (R : Int) = 0 ∧ (1 ≤ R ∧ 2 + 2 * R < n) ∧ manyS s.length ≤ R) := by
  by_cases h : partE n z = 0
  · have hp := partE_0.1 h
    obtain ⟨R, rfl⟩ := Int.eq_ofNat_of_zero_le (show 0 ≤ z by omega)
    rcases Nat.lt_or_ge R (manyS s.length) with hm | hm
    · exact .inr (.inl ⟨R, rfl, h, by omega, hm⟩)
    · exact .inr (.inr ⟨R, rfl, h, by omega, hm⟩)
  · exact .inl (partE_1 h)
theorem new_load18 {n : Nat} (h1 : 2 ≤ n) (h2 : n ≤ 4096) : loadE (newD n) = 18 := by
  have ho := newD_ok n (by omega) h2
  have hn : (newD n).L.length = n := by unfold newD; simp
  have hd : (newD n).dead = false := by unfold newD; rfl
  have hw : (newD n).W = [] := by unfold newD; rfl
  have hz : ∀ i, i < n → (newD n).L.getD i [] = List.replicate 64 0 := fun i hi => new_get hi
  obtain ⟨a0, b0⟩ := read_view ho hd (i := 0) (by omega)
  obtain ⟨a1, b1⟩ := read_view ho hd (i := 1) (by omega)
  rw [view_nil hw, hz _ (by omega)] at a0 a1
  have a0 : (newD n).readS 0 = List.replicate 64 0 := a0
  have a1 : (newD n).readS 1 = List.replicate 64 0 := a1
  have b0 : (newD n).readE 0 = 0 := b0
  have b1 : (newD n).readE 1 = 0 := b1
  have hno : ¬ isS (List.replicate 64 0) := fun x => by have := x.1; rw [zero_not] at this; cases this
  have hp : pickS (List.replicate 64 0) (List.replicate 64 0) = zeroSp := by
    unfold pickS pickStep
    rw [if_neg (fun x => hno x.1), if_neg (fun x => hno x.1)]
  unfold loadE
  rw [b0, b1, a0, a1, hp]
  rfl
theorem fuse0_store {k : Dk} {t : Sp} (hd : k.dead = false) (hm : MayS t) (hl : 2 ≤ k.L.length) : storeE (k.setFuse 0) t = 21 := by
  have hs : spD (k.setFuse 0).fuse (k.setFuse 0).dead = true := by
    show spD (if k.dead then k.fuse else _) k.dead = true
    rw [hd]; rfl
  obtain ⟨e1, e2⟩ := write_dead (k := k.setFuse 0) (a := (t.seq : Int) % 2) (s := encS t) (hasE_ok.2 (by show _ ∧ _ < ((k.L.length : Nat) : Int); omega)) (encS_len hm) hs
  rw [(store_w (k := k.setFuse 0) hm (by rw [e2]; decide)).2, e2]
attribute [local irreducible] newD partE

set_option maxRecDepth 100000 in
set_option maxHeartbeats 16000000 in
theorem journalLooks_all (x0 x1 : Int) (hx00 : -9223372036854775808 ≤ x0) (hx01 : x0 ≤ 9223372036854775807) (hz0 : -9223372036854775808 ≤ x1) (hz1 : x1 ≤ 9223372036854775807) (s : List UInt8) (hsl : s.length ≤ 9223372036854775807) :
    Ct Tryz.prog 5 [.int .i64 x0, .int .i64 x1, .string (bs s)] [] [] fun v post => v = .bool true ∧ post = [] := by
 refine ct_of Tryz.func5 rfl rfl (fun w0 => ?_)
 show G _ _ [(0, _), (1, _), (2, _)] _ _
 refine G_seq ?_
 refine G_region (l := [0]) rfl ?_
 refine G_val rfl rfl rfl rfl (V_assign rfl rfl) ?_
 refine G_done ?_
 refine G_seq ?_
 refine G_seq ?_
 refine G_region (l := [0, 1, 2, 3, 4, 5, 6, 7, 8, 9, 10]) rfl ?_
 refine G_val rfl rfl rfl rfl (V_move rfl rfl) ?_
 refine G_val rfl rfl rfl rfl (V_lss rfl rfl rfl) ?_
 refine G_val rfl rfl rfl rfl (V_move rfl rfl) ?_
 refine G_splitD 27 rfl (fun hc1 => ?_) (fun hc1 => ?_)
 ·
  refine G_off rfl rfl rfl rfl ?_
  refine G_off rfl rfl rfl rfl ?_
  refine G_val rfl rfl rfl rfl (V_pickT rfl rfl rfl) ?_
  refine G_val rfl rfl rfl rfl (V_move rfl rfl) ?_
  refine G_off rfl rfl rfl rfl ?_
  refine G_off rfl rfl rfl rfl ?_
  refine G_off rfl rfl rfl rfl ?_
  refine G_val rfl rfl rfl rfl (V_pickT rfl rfl rfl) ?_
  refine G_done ?_
  refine G_then rfl ?_
  refine G_seq ?_
  refine G_region (l := [0, 1]) rfl ?_
  refine G_call (L2 := []) rfl rfl rfl rfl rfl rfl Tryz.call7 (jl_live) [] [] rfl rfl ?_
  rintro v post ⟨rfl, rfl⟩
  refine G_val rfl rfl rfl rfl (V_assign rfl rfl) ?_
  refine G_done ?_
  refine G_ret (post := []) Tryz.func5 rfl (RVs_cons (RV_tmp rfl) RVs_nil) [] rfl ?_
  dsimp only [packed]
  exact ⟨rfl, rfl⟩
 refine G_val rfl rfl rfl rfl (V_move rfl rfl) ?_
 refine G_val rfl rfl rfl rfl (V_gtr rfl rfl rfl) ?_
 refine G_val rfl rfl rfl rfl (V_pickF rfl rfl rfl) ?_
 refine G_val rfl rfl rfl rfl (V_move rfl rfl) ?_
 refine G_splitD 31 rfl (fun hc2 => ?_) (fun hc2 => ?_)
 ·
  refine G_off rfl rfl rfl rfl ?_
  refine G_off rfl rfl rfl rfl ?_
  refine G_off rfl rfl rfl rfl ?_
  refine G_val rfl rfl rfl rfl (V_pickT rfl rfl rfl) ?_
  refine G_done ?_
  refine G_then rfl ?_
  refine G_seq ?_
  refine G_region (l := [0, 1]) rfl ?_
  refine G_call (L2 := []) rfl rfl rfl rfl rfl rfl Tryz.call7 (jl_live) [] [] rfl rfl ?_
  rintro v post ⟨rfl, rfl⟩
  refine G_val rfl rfl rfl rfl (V_assign rfl rfl) ?_
  refine G_done ?_
  refine G_ret (post := []) Tryz.func5 rfl (RVs_cons (RV_tmp rfl) RVs_nil) [] rfl ?_
  dsimp only [packed]
  exact ⟨rfl, rfl⟩
 refine G_val rfl rfl rfl rfl (V_move rfl rfl) ?_
 refine G_val rfl rfl rfl rfl (V_slen rfl rfl Tryz.underlying9 rfl) ?_
 refine G_val rfl rfl rfl rfl (V_gtr rfl rfl rfl) ?_
 refine G_val rfl rfl rfl rfl (V_pickF rfl rfl rfl) ?_
 refine G_done ?_
 refine G_ifD rfl (fun hc3 => ?_) (fun hc3 => ?_)
 ·
  refine G_seq ?_
  refine G_region (l := [0, 1]) rfl ?_
  refine G_call (L2 := []) rfl rfl rfl rfl rfl rfl Tryz.call7 (jl_live) [] [] rfl rfl ?_
  rintro v post ⟨rfl, rfl⟩
  refine G_val rfl rfl rfl rfl (V_assign rfl rfl) ?_
  refine G_done ?_
  refine G_ret (post := []) Tryz.func5 rfl (RVs_cons (RV_tmp rfl) RVs_nil) [] rfl ?_
  dsimp only [packed]
  exact ⟨rfl, rfl⟩
 refine G_skip ?_
 refine G_seq ?_
 obtain ⟨n, rfl⟩ := Int.eq_ofNat_of_zero_le (show 0 ≤ x0 by omega)
 refine G_region (l := [0, 1, 2, 3, 4, 5, 6]) rfl ?_
 refine G_val rfl rfl rfl rfl (V_move rfl rfl) ?_
 refine G_call (L2 := []) rfl rfl rfl rfl rfl rfl Tryz.call8 (dk_new n (by omega) (by omega)) [] [] rfl rfl ?_
 rintro v post ⟨d, lb, lcap, lcs, rfl, h, rfl⟩
 show G _ _ _ [_, _, _] _
 refine G_val rfl rfl rfl rfl (V_move rfl rfl) ?_
 refine G_val rfl rfl rfl rfl (V_extract rfl rfl rfl) ?_
 refine G_val rfl rfl rfl rfl (V_extract rfl rfl rfl) ?_
 refine G_val rfl rfl rfl rfl (V_assign rfl rfl) ?_
 refine G_val rfl rfl rfl rfl (V_assign rfl rfl) ?_
 refine G_done ?_
 refine G_seq ?_
 rcases part3 n x1 s with hp | ⟨R, rfl, hp, hpp, hm⟩ | ⟨R, rfl, hp, hpp, hm⟩
 ·
  refine G_region (l := [0, 1, 2, 3, 4, 5, 6, 7, 8, 9]) rfl ?_
  refine G_val rfl rfl rfl rfl (V_move rfl rfl) ?_
  refine G_val rfl rfl rfl rfl (V_move rfl rfl) ?_
  refine G_call (L2 := [_, _, _]) rfl rfl rfl rfl rfl rfl Tryz.call27 (jn_Look_1 d n lb lcap lcs slNil (newD n) h x1 hz0 hz1 hp) [] [0] rfl rfl ?_
  rintro v post ⟨rfl, rfl⟩
  show G _ _ _ [_, _, _] _
  refine G_val rfl rfl rfl rfl (V_move rfl rfl) ?_
  refine G_val rfl rfl rfl rfl (V_extract rfl rfl rfl) ?_
  refine G_val rfl rfl rfl rfl (V_extract rfl rfl rfl) ?_
  refine G_val rfl rfl rfl rfl (V_extract rfl rfl rfl) ?_
  refine G_val rfl rfl rfl rfl (V_assign rfl rfl) ?_
  refine G_val rfl rfl rfl rfl (V_assign rfl rfl) ?_
  refine G_val rfl rfl rfl rfl (V_assign rfl rfl) ?_
  refine G_done ?_
  refine G_seq ?_
  refine G_region (l := [0]) rfl ?_
  refine G_val rfl rfl rfl rfl (V_assign rfl rfl) ?_
  refine G_done ?_
  refine G_seq ?_
  refine G_seq ?_
  refine G_region (l := [0, 1, 2, 3]) rfl ?_
  refine G_val rfl rfl rfl rfl (V_move rfl rfl) ?_
  refine G_val rfl rfl rfl rfl (V_move rfl rfl) ?_
  refine G_call (L2 := [_, _, _]) rfl rfl rfl rfl rfl rfl Tryz.call11 ((rj_parts n (by omega) x1 hz0 hz1).weaken (fun v post h => by rw [hp, decide_eq_false (by decide)] at h; exact h)) [] [] rfl rfl ?_
  rintro v post ⟨rfl, rfl⟩
  show G _ _ _ [_, _, _] _
  refine G_val rfl rfl rfl rfl (V_not rfl rfl) ?_
  refine G_done ?_
  refine G_then rfl ?_
  refine G_region (l := [0]) rfl ?_
  refine G_val rfl rfl rfl rfl (V_assign rfl rfl) ?_
  refine G_done ?_
  refine G_seq ?_
  refine G_region (l := [0, 1, 2, 3, 4, 5, 6, 7, 8, 9, 10, 11]) rfl ?_
  refine G_val rfl rfl rfl rfl (V_move rfl rfl) ?_
  refine G_val rfl rfl rfl rfl (V_move rfl rfl) ?_
  refine G_call (L2 := [_, _, _]) rfl rfl rfl rfl rfl rfl Tryz.call14 (jn_open_1 d n lb lcap lcs slNil (newD n) h x1 hz0 hz1 hp) [] [0] rfl rfl ?_
  rintro v post ⟨rfl, rfl⟩
  show G _ _ _ [_, _, _] _
  refine G_val rfl rfl rfl rfl (V_move rfl rfl) ?_
  refine G_val rfl rfl rfl rfl (V_extract rfl rfl rfl) ?_
  refine G_val rfl rfl rfl rfl (V_extract rfl rfl rfl) ?_
  refine G_val rfl rfl rfl rfl (V_extract rfl rfl rfl) ?_
  refine G_val rfl rfl rfl rfl (V_extract rfl rfl rfl) ?_
  refine G_val rfl rfl rfl rfl (V_assign rfl rfl) ?_
  refine G_val rfl rfl rfl rfl (V_assign rfl rfl) ?_
  refine G_val rfl rfl rfl rfl (V_assign rfl rfl) ?_
  refine G_val rfl rfl rfl rfl (V_assign rfl rfl) ?_
  refine G_done ?_
  refine G_seq ?_
  refine G_seq ?_
  refine G_region (l := [0, 1, 2, 3, 4, 5, 6, 7, 8, 9, 10, 11, 12, 13, 14, 15, 16, 17, 18, 19, 20, 21, 22, 23, 24, 25, 26]) rfl ?_
  refine G_val rfl rfl rfl rfl (V_move rfl rfl) ?_
  refine G_call (L2 := [_, _, _]) rfl rfl rfl rfl rfl rfl Tryz.call9 (jl_num _) [] [] rfl rfl ?_
  rintro v post ⟨rfl, rfl⟩
  show G _ _ _ [_, _, _] _
  refine G_val rfl rfl rfl rfl (V_move rfl rfl) ?_
  refine G_val rfl rfl rfl rfl (V_neq rfl rfl rfl) ?_
  refine G_val rfl rfl rfl rfl (V_move rfl rfl) ?_
  refine G_splitD 65 rfl (fun hc4 => ?_) (fun hc4 => ?_)
  · (first | (exact absurd rfl hc4) | (exact absurd hc4 (by decide)) | (exact absurd (by decide) hc4) | (exfalso; omega) | (exfalso; simp at hc4; done))
  refine G_val rfl rfl rfl rfl (V_move rfl rfl) ?_
  refine G_call (L2 := [_, _, _]) rfl rfl rfl rfl rfl rfl Tryz.call9 (jl_num _) [] [] rfl rfl ?_
  rintro v post ⟨rfl, rfl⟩
  show G _ _ _ [_, _, _] _
  refine G_val rfl rfl rfl rfl (V_move rfl rfl) ?_
  refine G_val rfl rfl rfl rfl (V_neq rfl rfl rfl) ?_
  refine G_val rfl rfl rfl rfl (V_pickF rfl rfl rfl) ?_
  refine G_val rfl rfl rfl rfl (V_move rfl rfl) ?_
  refine G_splitD 71 rfl (fun hc5 => ?_) (fun hc5 => ?_)
  · (first | (exact absurd rfl hc5) | (exact absurd hc5 (by decide)) | (exact absurd (by decide) hc5) | (exfalso; omega) | (exfalso; simp at hc5; done))
  refine G_val rfl rfl rfl rfl (V_move rfl rfl) ?_
  refine G_val rfl rfl rfl rfl (V_len rfl rfl Tryz.underlying34 rfl) ?_
  refine G_val rfl rfl rfl rfl (V_move rfl rfl) ?_
  refine G_val rfl rfl rfl rfl (V_len rfl rfl Tryz.underlying34 rfl) ?_
  refine G_val rfl rfl rfl rfl ((V_add rfl rfl rfl).int (wrap_i64 (by omega))) ?_
  refine G_val rfl rfl rfl rfl (V_gtr rfl rfl rfl) ?_
  refine G_val rfl rfl rfl rfl (V_pickF rfl rfl rfl) ?_
  refine G_val rfl rfl rfl rfl (V_move rfl rfl) ?_
  refine G_splitD 79 rfl (fun hc6 => ?_) (fun hc6 => ?_)
  · (first | (exact absurd rfl hc6) | (exact absurd hc6 (by decide)) | (exact absurd (by decide) hc6) | (exfalso; omega) | (exfalso; simp at hc6; done))
  refine G_val rfl rfl rfl rfl (V_move rfl rfl) ?_
  refine G_val rfl rfl rfl rfl (V_pneqN rfl Tryz.underlying38 rfl rfl) ?_
  refine G_val rfl rfl rfl rfl (V_pickF rfl rfl rfl) ?_
  refine G_val rfl rfl rfl rfl (V_move rfl rfl) ?_
  refine G_split 83 rfl (fun hc7 => ?_) (fun hc7 => ?_)
  · (first | (exact absurd rfl hc7) | (exact absurd hc7 (by decide)) | (exact absurd (by decide) hc7) | (exfalso; omega) | (exfalso; simp at hc7; done))
  refine G_val rfl rfl rfl rfl (V_move rfl rfl) ?_
  refine G_call (L2 := [_, _, _]) rfl rfl rfl rfl rfl rfl Tryz.call28 ((dk_waiting d n lb lcap lcs slNil (newD n) h).weaken (fun v post h => by rw [show (newD n).W = [] by unfold newD; rfl] at h; exact h)) [] [0] rfl rfl ?_
  rintro v post ⟨rfl, rfl⟩
  show G _ _ _ [_, _, _] _
  refine G_val rfl rfl rfl rfl (V_gtr rfl rfl rfl) ?_
  refine G_val rfl rfl rfl rfl (V_pickF rfl rfl rfl) ?_
  refine G_done ?_
  refine G_ifD rfl (fun hc8 => ?_) (fun hc8 => ?_)
  · (first | (exact absurd rfl hc8) | (exact absurd hc8 (by decide)) | (exact absurd (by decide) hc8) | (exfalso; omega) | (exfalso; simp at hc8; done))
  refine G_skip ?_
  refine G_seq ?_
  refine G_seq ?_
  refine G_region (l := [0, 1, 2, 3, 4, 5, 6, 7, 8, 9]) rfl ?_
  refine G_val rfl rfl rfl rfl (V_move rfl rfl) ?_
  refine G_val rfl rfl rfl rfl (V_eql rfl rfl rfl) ?_
  refine G_val rfl rfl rfl rfl (V_move rfl rfl) ?_
  refine G_splitD 90 rfl (fun hc9 => ?_) (fun hc9 => ?_)
  · (first | (exact absurd rfl hc9) | (exact absurd hc9 (by decide)) | (exact absurd (by decide) hc9) | (exfalso; omega) | (exfalso; simp at hc9; done))
  refine G_off rfl rfl rfl rfl ?_
  refine G_off rfl rfl rfl rfl ?_
  refine G_off rfl rfl rfl rfl ?_
  refine G_off rfl rfl rfl rfl ?_
  refine G_off rfl rfl rfl rfl ?_
  refine G_off rfl rfl rfl rfl ?_
  refine G_val rfl rfl rfl rfl (V_pickF rfl rfl rfl) ?_
  refine G_done ?_
  refine G_else rfl ?_
  refine G_skip ?_
  refine G_seq ?_
  refine G_region (l := [0, 1, 2, 3, 4, 5, 6, 7, 8]) rfl ?_
  refine G_val rfl rfl rfl rfl (V_move rfl rfl) ?_
  refine G_call (L2 := [_, _, _]) rfl rfl rfl rfl rfl rfl Tryz.call27 (jn_Look_nil x1) [] [] rfl rfl ?_
  rintro v post ⟨rfl, rfl⟩
  show G _ _ _ [_, _, _] _
  refine G_val rfl rfl rfl rfl (V_move rfl rfl) ?_
  refine G_val rfl rfl rfl rfl (V_extract rfl rfl rfl) ?_
  refine G_val rfl rfl rfl rfl (V_extract rfl rfl rfl) ?_
  refine G_val rfl rfl rfl rfl (V_extract rfl rfl rfl) ?_
  refine G_val rfl rfl rfl rfl (V_assign rfl rfl) ?_
  refine G_val rfl rfl rfl rfl (V_assign rfl rfl) ?_
  refine G_val rfl rfl rfl rfl (V_assign rfl rfl) ?_
  refine G_done ?_
  refine G_seq ?_
  refine G_region (l := [0]) rfl ?_
  refine G_val rfl rfl rfl rfl (V_assign rfl rfl) ?_
  refine G_done ?_
  refine G_seq ?_
  refine G_region (l := [0, 1, 2, 3, 4, 5, 6, 7, 8, 9, 10, 11, 12, 13, 14, 15, 16, 17, 18, 19, 20, 21, 22, 23, 24, 25, 26, 27, 28, 29, 30, 31, 32, 33, 34, 35, 36, 37, 38, 39, 40, 41, 42, 43]) rfl ?_
  refine G_val rfl rfl rfl rfl (V_move rfl rfl) ?_
  refine G_call (L2 := [_, _, _]) rfl rfl rfl rfl rfl rfl Tryz.call9 (jl_num _) [] [] rfl rfl ?_
  rintro v post ⟨rfl, rfl⟩
  show G _ _ _ [_, _, _] _
  refine G_val rfl rfl rfl rfl (V_eql rfl rfl rfl) ?_
  refine G_val rfl rfl rfl rfl (V_move rfl rfl) ?_
  refine G_splitD 124 rfl (fun hc10 => ?_) (fun hc10 => ?_)
  rotate_left
  · (first | (exact absurd rfl hc10) | (exact absurd hc10 (by decide)) | (exact absurd (by decide) hc10) | (exfalso; omega) | (exfalso; simp at hc10; done))
  refine G_val rfl rfl rfl rfl (V_move rfl rfl) ?_
  refine G_val rfl rfl rfl rfl (V_move rfl rfl) ?_
  refine G_call (L2 := [_, _, _]) rfl rfl rfl rfl rfl rfl Tryz.call10 (jn_format_nil x1 _) [] [] rfl rfl ?_
  rintro v post ⟨rfl, rfl⟩
  show G _ _ _ [_, _, _] _
  refine G_call (L2 := [_, _, _]) rfl rfl rfl rfl rfl rfl Tryz.call9 (jl_num _) [] [] rfl rfl ?_
  rintro v post ⟨rfl, rfl⟩
  show G _ _ _ [_, _, _] _
  refine G_val rfl rfl rfl rfl (V_eql rfl rfl rfl) ?_
  refine G_val rfl rfl rfl rfl (V_pickT rfl rfl rfl) ?_
  refine G_val rfl rfl rfl rfl (V_move rfl rfl) ?_
  refine G_splitD 131 rfl (fun hc11 => ?_) (fun hc11 => ?_)
  rotate_left
  · (first | (exact absurd rfl hc11) | (exact absurd hc11 (by decide)) | (exact absurd (by decide) hc11) | (exfalso; omega) | (exfalso; simp at hc11; done))
  refine G_val rfl rfl rfl rfl (V_move rfl rfl) ?_
  refine G_val rfl rfl rfl rfl (V_move rfl rfl) ?_
  refine G_call (L2 := [_, _, _]) rfl rfl rfl rfl rfl rfl Tryz.call17 (jn_add_nil _) [] [] rfl rfl ?_
  rintro v post ⟨rfl, rfl⟩
  show G _ _ _ [_, _, _] _
  refine G_call (L2 := [_, _, _]) rfl rfl rfl rfl rfl rfl Tryz.call9 (jl_num _) [] [] rfl rfl ?_
  rintro v post ⟨rfl, rfl⟩
  show G _ _ _ [_, _, _] _
  refine G_val rfl rfl rfl rfl (V_eql rfl rfl rfl) ?_
  refine G_val rfl rfl rfl rfl (V_pickT rfl rfl rfl) ?_
  refine G_val rfl rfl rfl rfl (V_move rfl rfl) ?_
  refine G_splitD 138 rfl (fun hc12 => ?_) (fun hc12 => ?_)
  rotate_left
  · (first | (exact absurd rfl hc12) | (exact absurd hc12 (by decide)) | (exact absurd (by decide) hc12) | (exfalso; omega) | (exfalso; simp at hc12; done))
  refine G_val rfl rfl rfl rfl (V_move rfl rfl) ?_
  refine G_val rfl rfl rfl rfl (V_move rfl rfl) ?_
  refine G_call (L2 := [_, _, _]) rfl rfl rfl rfl rfl rfl Tryz.call19 (jn_anew_nil _) [] [] rfl rfl ?_
  rintro v post ⟨rfl, rfl⟩
  show G _ _ _ [_, _, _] _
  refine G_call (L2 := [_, _, _]) rfl rfl rfl rfl rfl rfl Tryz.call9 (jl_num _) [] [] rfl rfl ?_
  rintro v post ⟨rfl, rfl⟩
  show G _ _ _ [_, _, _] _
  refine G_val rfl rfl rfl rfl (V_eql rfl rfl rfl) ?_
  refine G_val rfl rfl rfl rfl (V_pickT rfl rfl rfl) ?_
  refine G_val rfl rfl rfl rfl (V_move rfl rfl) ?_
  refine G_splitD 145 rfl (fun hc13 => ?_) (fun hc13 => ?_)
  rotate_left
  · (first | (exact absurd rfl hc13) | (exact absurd hc13 (by decide)) | (exact absurd (by decide) hc13) | (exfalso; omega) | (exfalso; simp at hc13; done))
  refine G_val rfl rfl rfl rfl (V_move rfl rfl) ?_
  refine G_val rfl rfl rfl rfl (V_move rfl rfl) ?_
  refine G_call (L2 := [_, _, _]) rfl rfl rfl rfl rfl rfl Tryz.call16 (jn_fits_nil _) [] [] rfl rfl ?_
  rintro v post ⟨rfl, rfl⟩
  show G _ _ _ [_, _, _] _
  refine G_val rfl rfl rfl rfl (V_not rfl rfl) ?_
  refine G_val rfl rfl rfl rfl (V_pickT rfl rfl rfl) ?_
  refine G_val rfl rfl rfl rfl (V_move rfl rfl) ?_
  refine G_split 151 rfl (fun hc14 => ?_) (fun hc14 => ?_)
  rotate_left
  · (first | (exact absurd rfl hc14) | (exact absurd hc14 (by decide)) | (exact absurd (by decide) hc14) | (exfalso; omega) | (exfalso; simp at hc14; done))
  refine G_val rfl rfl rfl rfl (V_move rfl rfl) ?_
  refine G_call (L2 := [_, _, _]) rfl rfl rfl rfl rfl rfl Tryz.call22 jn_Left_nil [] [] rfl rfl ?_
  rintro v post ⟨rfl, rfl⟩
  show G _ _ _ [_, _, _] _
  refine G_val rfl rfl rfl rfl (V_eql rfl rfl rfl) ?_
  refine G_val rfl rfl rfl rfl (V_pickT rfl rfl rfl) ?_
  refine G_val rfl rfl rfl rfl (V_move rfl rfl) ?_
  refine G_splitD 156 rfl (fun hc15 => ?_) (fun hc15 => ?_)
  rotate_left
  · (first | (exact absurd rfl hc15) | (exact absurd hc15 (by decide)) | (exact absurd (by decide) hc15) | (exfalso; omega) | (exfalso; simp at hc15; done))
  refine G_val rfl rfl rfl rfl (V_move rfl rfl) ?_
  refine G_call (L2 := [_, _, _]) rfl rfl rfl rfl rfl rfl Tryz.call23 jn_Epoch_nil [] [] rfl rfl ?_
  rintro v post ⟨rfl, rfl⟩
  show G _ _ _ [_, _, _] _
  refine G_val rfl rfl rfl rfl (V_eql rfl rfl rfl) ?_
  refine G_val rfl rfl rfl rfl (V_pickT rfl rfl rfl) ?_
  refine G_val rfl rfl rfl rfl (V_move rfl rfl) ?_
  refine G_splitD 161 rfl (fun hc16 => ?_) (fun hc16 => ?_)
  rotate_left
  · (first | (exact absurd rfl hc16) | (exact absurd hc16 (by decide)) | (exact absurd (by decide) hc16) | (exfalso; omega) | (exfalso; simp at hc16; done))
  refine G_call (L2 := [_, _, _]) rfl rfl rfl rfl rfl rfl Tryz.call7 (jl_live) [] [] rfl rfl ?_
  rintro v post ⟨rfl, rfl⟩
  show G _ _ _ [_, _, _] _
  refine G_val rfl rfl rfl rfl (V_pickT rfl rfl rfl) ?_
  refine G_val rfl rfl rfl rfl (V_assign rfl rfl) ?_
  refine G_done ?_
  refine G_ret (post := []) Tryz.func5 rfl (RVs_cons (RV_tmp rfl) RVs_nil) [] rfl ?_
  dsimp only [packed]
  exact ⟨rfl, rfl⟩
 ·
  refine G_region (l := [0, 1, 2, 3, 4, 5, 6, 7, 8, 9]) rfl ?_
  refine G_val rfl rfl rfl rfl (V_move rfl rfl) ?_
  refine G_val rfl rfl rfl rfl (V_move rfl rfl) ?_
  refine G_call (L2 := [_, _, _]) rfl rfl rfl rfl rfl rfl Tryz.call27 (jn_Look_18 d n lb lcap lcs slNil (newD n) h R (by omega) hp (new_load18 (by omega) (by omega))) [] [0, 1, 2] rfl rfl ?_
  rintro v post ⟨rfl, rfl⟩
  show G _ _ _ [_, _, _] _
  refine G_val rfl rfl rfl rfl (V_move rfl rfl) ?_
  refine G_val rfl rfl rfl rfl (V_extract rfl rfl rfl) ?_
  refine G_val rfl rfl rfl rfl (V_extract rfl rfl rfl) ?_
  refine G_val rfl rfl rfl rfl (V_extract rfl rfl rfl) ?_
  refine G_val rfl rfl rfl rfl (V_assign rfl rfl) ?_
  refine G_val rfl rfl rfl rfl (V_assign rfl rfl) ?_
  refine G_val rfl rfl rfl rfl (V_assign rfl rfl) ?_
  refine G_done ?_
  refine G_seq ?_
  refine G_region (l := [0]) rfl ?_
  refine G_val rfl rfl rfl rfl (V_assign rfl rfl) ?_
  refine G_done ?_
  refine G_seq ?_
  refine G_seq ?_
  refine G_region (l := [0, 1, 2, 3]) rfl ?_
  refine G_val rfl rfl rfl rfl (V_move rfl rfl) ?_
  refine G_val rfl rfl rfl rfl (V_move rfl rfl) ?_
  refine G_call (L2 := [_, _, _]) rfl rfl rfl rfl rfl rfl Tryz.call11 ((rj_parts n (by omega) (R : Int) (by omega) (by omega)).weaken (fun v post h => by rw [hp, decide_eq_true rfl] at h; exact h)) [] [] rfl rfl ?_
  rintro v post ⟨rfl, rfl⟩
  show G _ _ _ [_, _, _] _
  refine G_val rfl rfl rfl rfl (V_not rfl rfl) ?_
  refine G_done ?_
  refine G_else rfl ?_
  refine G_skip ?_
  refine G_seq ?_
  refine G_region (l := [0, 1, 2, 3, 4, 5, 6, 7, 8, 9, 10, 11]) rfl ?_
  refine G_val rfl rfl rfl rfl (V_move rfl rfl) ?_
  refine G_val rfl rfl rfl rfl (V_move rfl rfl) ?_
  refine G_call (L2 := [_, _, _]) rfl rfl rfl rfl rfl rfl Tryz.call14 (jn_open_18 d n lb lcap lcs slNil (newD n) h R (by omega) hp (new_load18 (by omega) (by omega))) [] [0, 1, 2] rfl rfl ?_
  rintro v post ⟨rfl, rfl⟩
  show G _ _ _ [_, _, _] _
  refine G_val rfl rfl rfl rfl (V_move rfl rfl) ?_
  refine G_val rfl rfl rfl rfl (V_extract rfl rfl rfl) ?_
  refine G_val rfl rfl rfl rfl (V_extract rfl rfl rfl) ?_
  refine G_val rfl rfl rfl rfl (V_extract rfl rfl rfl) ?_
  refine G_val rfl rfl rfl rfl (V_extract rfl rfl rfl) ?_
  refine G_val rfl rfl rfl rfl (V_assign rfl rfl) ?_
  refine G_val rfl rfl rfl rfl (V_assign rfl rfl) ?_
  refine G_val rfl rfl rfl rfl (V_assign rfl rfl) ?_
  refine G_val rfl rfl rfl rfl (V_assign rfl rfl) ?_
  refine G_done ?_
  refine G_seq ?_
  refine G_seq ?_
  refine G_region (l := [0, 1, 2, 3, 4, 5, 6, 7, 8, 9, 10, 11, 12, 13, 14, 15, 16, 17, 18, 19, 20, 21, 22, 23, 24, 25, 26]) rfl ?_
  refine G_val rfl rfl rfl rfl (V_move rfl rfl) ?_
  refine G_call (L2 := [_, _, _]) rfl rfl rfl rfl rfl rfl Tryz.call9 (jl_num _) [] [] rfl rfl ?_
  rintro v post ⟨rfl, rfl⟩
  show G _ _ _ [_, _, _] _
  refine G_val rfl rfl rfl rfl (V_move rfl rfl) ?_
  refine G_val rfl rfl rfl rfl (V_neq rfl rfl rfl) ?_
  refine G_val rfl rfl rfl rfl (V_move rfl rfl) ?_
  refine G_splitD 65 rfl (fun hc4 => ?_) (fun hc4 => ?_)
  · (first | (exact absurd rfl hc4) | (exact absurd hc4 (by decide)) | (exact absurd (by decide) hc4) | (exfalso; omega) | (exfalso; simp at hc4; done))
  refine G_val rfl rfl rfl rfl (V_move rfl rfl) ?_
  refine G_call (L2 := [_, _, _]) rfl rfl rfl rfl rfl rfl Tryz.call9 (jl_num _) [] [] rfl rfl ?_
  rintro v post ⟨rfl, rfl⟩
  show G _ _ _ [_, _, _] _
  refine G_val rfl rfl rfl rfl (V_move rfl rfl) ?_
  refine G_val rfl rfl rfl rfl (V_neq rfl rfl rfl) ?_
  refine G_val rfl rfl rfl rfl (V_pickF rfl rfl rfl) ?_
  refine G_val rfl rfl rfl rfl (V_move rfl rfl) ?_
  refine G_splitD 71 rfl (fun hc5 => ?_) (fun hc5 => ?_)
  · (first | (exact absurd rfl hc5) | (exact absurd hc5 (by decide)) | (exact absurd (by decide) hc5) | (exfalso; omega) | (exfalso; simp at hc5; done))
  refine G_val rfl rfl rfl rfl (V_move rfl rfl) ?_
  refine G_val rfl rfl rfl rfl (V_len rfl rfl Tryz.underlying34 rfl) ?_
  refine G_val rfl rfl rfl rfl (V_move rfl rfl) ?_
  refine G_val rfl rfl rfl rfl (V_len rfl rfl Tryz.underlying34 rfl) ?_
  refine G_val rfl rfl rfl rfl ((V_add rfl rfl rfl).int (wrap_i64 (by omega))) ?_
  refine G_val rfl rfl rfl rfl (V_gtr rfl rfl rfl) ?_
  refine G_val rfl rfl rfl rfl (V_pickF rfl rfl rfl) ?_
  refine G_val rfl rfl rfl rfl (V_move rfl rfl) ?_
  refine G_splitD 79 rfl (fun hc6 => ?_) (fun hc6 => ?_)
  · (first | (exact absurd rfl hc6) | (exact absurd hc6 (by decide)) | (exact absurd (by decide) hc6) | (exfalso; omega) | (exfalso; simp at hc6; done))
  refine G_val rfl rfl rfl rfl (V_move rfl rfl) ?_
  refine G_val rfl rfl rfl rfl (V_pneqN rfl Tryz.underlying38 rfl rfl) ?_
  refine G_val rfl rfl rfl rfl (V_pickF rfl rfl rfl) ?_
  refine G_val rfl rfl rfl rfl (V_move rfl rfl) ?_
  refine G_split 83 rfl (fun hc7 => ?_) (fun hc7 => ?_)
  · (first | (exact absurd rfl hc7) | (exact absurd hc7 (by decide)) | (exact absurd (by decide) hc7) | (exfalso; omega) | (exfalso; simp at hc7; done))
  refine G_val rfl rfl rfl rfl (V_move rfl rfl) ?_
  refine G_call (L2 := [_, _, _]) rfl rfl rfl rfl rfl rfl Tryz.call28 ((dk_waiting d n lb lcap lcs slNil (newD n) h).weaken (fun v post h => by rw [show (newD n).W = [] by unfold newD; rfl] at h; exact h)) [] [0] rfl rfl ?_
  rintro v post ⟨rfl, rfl⟩
  show G _ _ _ [_, _, _] _
  refine G_val rfl rfl rfl rfl (V_gtr rfl rfl rfl) ?_
  refine G_val rfl rfl rfl rfl (V_pickF rfl rfl rfl) ?_
  refine G_done ?_
  refine G_ifD rfl (fun hc8 => ?_) (fun hc8 => ?_)
  · (first | (exact absurd rfl hc8) | (exact absurd hc8 (by decide)) | (exact absurd (by decide) hc8) | (exfalso; omega) | (exfalso; simp at hc8; done))
  refine G_skip ?_
  refine G_seq ?_
  refine G_seq ?_
  refine G_region (l := [0, 1, 2, 3, 4, 5, 6, 7, 8, 9]) rfl ?_
  refine G_val rfl rfl rfl rfl (V_move rfl rfl) ?_
  refine G_val rfl rfl rfl rfl (V_eql rfl rfl rfl) ?_
  refine G_val rfl rfl rfl rfl (V_move rfl rfl) ?_
  refine G_splitD 90 rfl (fun hc9 => ?_) (fun hc9 => ?_)
  rotate_left
  · (first | (exact absurd rfl hc9) | (exact absurd hc9 (by decide)) | (exact absurd (by decide) hc9) | (exfalso; omega) | (exfalso; simp at hc9; done))
  refine G_val rfl rfl rfl rfl (V_move rfl rfl) ?_
  refine G_val rfl rfl rfl rfl (V_move rfl rfl) ?_
  refine G_val rfl rfl rfl rfl (V_move rfl rfl) ?_
  refine G_call (L2 := []) rfl rfl rfl rfl rfl rfl Tryz.call10 (jl_format_full d n lb lcap lcs h R hp (by omega) s (by omega) hm) [0, 0, 0] [] rfl rfl ?_
  rintro v post ⟨rfl, k0, lc0, uw0, h0, rfl⟩
  show G _ _ _ [_, _, _] _
  refine G_call (L2 := [_, _, _]) rfl rfl rfl rfl rfl rfl Tryz.call9 (jl_num _) [] [] rfl rfl ?_
  rintro v post ⟨rfl, rfl⟩
  show G _ _ _ [_, _, _] _
  refine G_val rfl rfl rfl rfl (V_eql rfl rfl rfl) ?_
  refine G_val rfl rfl rfl rfl (V_pickT rfl rfl rfl) ?_
  refine G_done ?_
  refine G_ifD rfl (fun hc10 => ?_) (fun hc10 => ?_)
  · (first | (exact absurd rfl hc10) | (exact absurd hc10 (by decide)) | (exact absurd (by decide) hc10) | (exfalso; omega) | (exfalso; simp at hc10; done))
  refine G_skip ?_
  refine G_seq ?_
  refine G_region (l := [0, 1, 2, 3, 4, 5, 6, 7, 8]) rfl ?_
  refine G_val rfl rfl rfl rfl (V_move rfl rfl) ?_
  refine G_call (L2 := [_, _, _]) rfl rfl rfl rfl rfl rfl Tryz.call27 (jn_Look_nil (R : Int)) [] [] rfl rfl ?_
  rintro v post ⟨rfl, rfl⟩
  show G _ _ _ [_, _, _] _
  refine G_val rfl rfl rfl rfl (V_move rfl rfl) ?_
  refine G_val rfl rfl rfl rfl (V_extract rfl rfl rfl) ?_
  refine G_val rfl rfl rfl rfl (V_extract rfl rfl rfl) ?_
  refine G_val rfl rfl rfl rfl (V_extract rfl rfl rfl) ?_
  refine G_val rfl rfl rfl rfl (V_assign rfl rfl) ?_
  refine G_val rfl rfl rfl rfl (V_assign rfl rfl) ?_
  refine G_val rfl rfl rfl rfl (V_assign rfl rfl) ?_
  refine G_done ?_
  refine G_seq ?_
  refine G_region (l := [0]) rfl ?_
  refine G_val rfl rfl rfl rfl (V_assign rfl rfl) ?_
  refine G_done ?_
  refine G_seq ?_
  refine G_region (l := [0, 1, 2, 3, 4, 5, 6, 7, 8, 9, 10, 11, 12, 13, 14, 15, 16, 17, 18, 19, 20, 21, 22, 23, 24, 25, 26, 27, 28, 29, 30, 31, 32, 33, 34, 35, 36, 37, 38, 39, 40, 41, 42, 43]) rfl ?_
  refine G_val rfl rfl rfl rfl (V_move rfl rfl) ?_
  refine G_call (L2 := [_, _, _]) rfl rfl rfl rfl rfl rfl Tryz.call9 (jl_num _) [] [] rfl rfl ?_
  rintro v post ⟨rfl, rfl⟩
  show G _ _ _ [_, _, _] _
  refine G_val rfl rfl rfl rfl (V_eql rfl rfl rfl) ?_
  refine G_val rfl rfl rfl rfl (V_move rfl rfl) ?_
  refine G_splitD 124 rfl (fun hc11 => ?_) (fun hc11 => ?_)
  rotate_left
  · (first | (exact absurd rfl hc11) | (exact absurd hc11 (by decide)) | (exact absurd (by decide) hc11) | (exfalso; omega) | (exfalso; simp at hc11; done))
  refine G_val rfl rfl rfl rfl (V_move rfl rfl) ?_
  refine G_val rfl rfl rfl rfl (V_move rfl rfl) ?_
  refine G_call (L2 := [_, _, _]) rfl rfl rfl rfl rfl rfl Tryz.call10 (jn_format_nil (R : Int) _) [] [] rfl rfl ?_
  rintro v post ⟨rfl, rfl⟩
  show G _ _ _ [_, _, _] _
  refine G_call (L2 := [_, _, _]) rfl rfl rfl rfl rfl rfl Tryz.call9 (jl_num _) [] [] rfl rfl ?_
  rintro v post ⟨rfl, rfl⟩
  show G _ _ _ [_, _, _] _
  refine G_val rfl rfl rfl rfl (V_eql rfl rfl rfl) ?_
  refine G_val rfl rfl rfl rfl (V_pickT rfl rfl rfl) ?_
  refine G_val rfl rfl rfl rfl (V_move rfl rfl) ?_
  refine G_splitD 131 rfl (fun hc12 => ?_) (fun hc12 => ?_)
  rotate_left
  · (first | (exact absurd rfl hc12) | (exact absurd hc12 (by decide)) | (exact absurd (by decide) hc12) | (exfalso; omega) | (exfalso; simp at hc12; done))
  refine G_val rfl rfl rfl rfl (V_move rfl rfl) ?_
  refine G_val rfl rfl rfl rfl (V_move rfl rfl) ?_
  refine G_call (L2 := [_, _, _]) rfl rfl rfl rfl rfl rfl Tryz.call17 (jn_add_nil _) [] [] rfl rfl ?_
  rintro v post ⟨rfl, rfl⟩
  show G _ _ _ [_, _, _] _
  refine G_call (L2 := [_, _, _]) rfl rfl rfl rfl rfl rfl Tryz.call9 (jl_num _) [] [] rfl rfl ?_
  rintro v post ⟨rfl, rfl⟩
  show G _ _ _ [_, _, _] _
  refine G_val rfl rfl rfl rfl (V_eql rfl rfl rfl) ?_
  refine G_val rfl rfl rfl rfl (V_pickT rfl rfl rfl) ?_
  refine G_val rfl rfl rfl rfl (V_move rfl rfl) ?_
  refine G_splitD 138 rfl (fun hc13 => ?_) (fun hc13 => ?_)
  rotate_left
  · (first | (exact absurd rfl hc13) | (exact absurd hc13 (by decide)) | (exact absurd (by decide) hc13) | (exfalso; omega) | (exfalso; simp at hc13; done))
  refine G_val rfl rfl rfl rfl (V_move rfl rfl) ?_
  refine G_val rfl rfl rfl rfl (V_move rfl rfl) ?_
  refine G_call (L2 := [_, _, _]) rfl rfl rfl rfl rfl rfl Tryz.call19 (jn_anew_nil _) [] [] rfl rfl ?_
  rintro v post ⟨rfl, rfl⟩
  show G _ _ _ [_, _, _] _
  refine G_call (L2 := [_, _, _]) rfl rfl rfl rfl rfl rfl Tryz.call9 (jl_num _) [] [] rfl rfl ?_
  rintro v post ⟨rfl, rfl⟩
  show G _ _ _ [_, _, _] _
  refine G_val rfl rfl rfl rfl (V_eql rfl rfl rfl) ?_
  refine G_val rfl rfl rfl rfl (V_pickT rfl rfl rfl) ?_
  refine G_val rfl rfl rfl rfl (V_move rfl rfl) ?_
  refine G_splitD 145 rfl (fun hc14 => ?_) (fun hc14 => ?_)
  rotate_left
  · (first | (exact absurd rfl hc14) | (exact absurd hc14 (by decide)) | (exact absurd (by decide) hc14) | (exfalso; omega) | (exfalso; simp at hc14; done))
  refine G_val rfl rfl rfl rfl (V_move rfl rfl) ?_
  refine G_val rfl rfl rfl rfl (V_move rfl rfl) ?_
  refine G_call (L2 := [_, _, _]) rfl rfl rfl rfl rfl rfl Tryz.call16 (jn_fits_nil _) [] [] rfl rfl ?_
  rintro v post ⟨rfl, rfl⟩
  show G _ _ _ [_, _, _] _
  refine G_val rfl rfl rfl rfl (V_not rfl rfl) ?_
  refine G_val rfl rfl rfl rfl (V_pickT rfl rfl rfl) ?_
  refine G_val rfl rfl rfl rfl (V_move rfl rfl) ?_
  refine G_split 151 rfl (fun hc15 => ?_) (fun hc15 => ?_)
  rotate_left
  · (first | (exact absurd rfl hc15) | (exact absurd hc15 (by decide)) | (exact absurd (by decide) hc15) | (exfalso; omega) | (exfalso; simp at hc15; done))
  refine G_val rfl rfl rfl rfl (V_move rfl rfl) ?_
  refine G_call (L2 := [_, _, _]) rfl rfl rfl rfl rfl rfl Tryz.call22 jn_Left_nil [] [] rfl rfl ?_
  rintro v post ⟨rfl, rfl⟩
  show G _ _ _ [_, _, _] _
  refine G_val rfl rfl rfl rfl (V_eql rfl rfl rfl) ?_
  refine G_val rfl rfl rfl rfl (V_pickT rfl rfl rfl) ?_
  refine G_val rfl rfl rfl rfl (V_move rfl rfl) ?_
  refine G_splitD 156 rfl (fun hc16 => ?_) (fun hc16 => ?_)
  rotate_left
  · (first | (exact absurd rfl hc16) | (exact absurd hc16 (by decide)) | (exact absurd (by decide) hc16) | (exfalso; omega) | (exfalso; simp at hc16; done))
  refine G_val rfl rfl rfl rfl (V_move rfl rfl) ?_
  refine G_call (L2 := [_, _, _]) rfl rfl rfl rfl rfl rfl Tryz.call23 jn_Epoch_nil [] [] rfl rfl ?_
  rintro v post ⟨rfl, rfl⟩
  show G _ _ _ [_, _, _] _
  refine G_val rfl rfl rfl rfl (V_eql rfl rfl rfl) ?_
  refine G_val rfl rfl rfl rfl (V_pickT rfl rfl rfl) ?_
  refine G_val rfl rfl rfl rfl (V_move rfl rfl) ?_
  refine G_splitD 161 rfl (fun hc17 => ?_) (fun hc17 => ?_)
  rotate_left
  · (first | (exact absurd rfl hc17) | (exact absurd hc17 (by decide)) | (exact absurd (by decide) hc17) | (exfalso; omega) | (exfalso; simp at hc17; done))
  refine G_call (L2 := [_, _, _]) rfl rfl rfl rfl rfl rfl Tryz.call7 (jl_live) [] [] rfl rfl ?_
  rintro v post ⟨rfl, rfl⟩
  show G _ _ _ [_, _, _] _
  refine G_val rfl rfl rfl rfl (V_pickT rfl rfl rfl) ?_
  refine G_val rfl rfl rfl rfl (V_assign rfl rfl) ?_
  refine G_done ?_
  refine G_ret (post := []) Tryz.func5 rfl (RVs_cons (RV_tmp rfl) RVs_nil) [] rfl ?_
  dsimp only [packed]
  exact ⟨rfl, rfl⟩
 ·
  refine G_region (l := [0, 1, 2, 3, 4, 5, 6, 7, 8, 9]) rfl ?_
  refine G_val rfl rfl rfl rfl (V_move rfl rfl) ?_
  refine G_val rfl rfl rfl rfl (V_move rfl rfl) ?_
  refine G_call (L2 := [_, _, _]) rfl rfl rfl rfl rfl rfl Tryz.call27 (jn_Look_18 d n lb lcap lcs slNil (newD n) h R (by omega) hp (new_load18 (by omega) (by omega))) [] [0, 1, 2] rfl rfl ?_
  rintro v post ⟨rfl, rfl⟩
  show G _ _ _ [_, _, _] _
  refine G_val rfl rfl rfl rfl (V_move rfl rfl) ?_
  refine G_val rfl rfl rfl rfl (V_extract rfl rfl rfl) ?_
  refine G_val rfl rfl rfl rfl (V_extract rfl rfl rfl) ?_
  refine G_val rfl rfl rfl rfl (V_extract rfl rfl rfl) ?_
  refine G_val rfl rfl rfl rfl (V_assign rfl rfl) ?_
  refine G_val rfl rfl rfl rfl (V_assign rfl rfl) ?_
  refine G_val rfl rfl rfl rfl (V_assign rfl rfl) ?_
  refine G_done ?_
  refine G_seq ?_
  refine G_region (l := [0]) rfl ?_
  refine G_val rfl rfl rfl rfl (V_assign rfl rfl) ?_
  refine G_done ?_
  refine G_seq ?_
  refine G_seq ?_
  refine G_region (l := [0, 1, 2, 3]) rfl ?_
  refine G_val rfl rfl rfl rfl (V_move rfl rfl) ?_
  refine G_val rfl rfl rfl rfl (V_move rfl rfl) ?_
  refine G_call (L2 := [_, _, _]) rfl rfl rfl rfl rfl rfl Tryz.call11 ((rj_parts n (by omega) (R : Int) (by omega) (by omega)).weaken (fun v post h => by rw [hp, decide_eq_true rfl] at h; exact h)) [] [] rfl rfl ?_
  rintro v post ⟨rfl, rfl⟩
  show G _ _ _ [_, _, _] _
  refine G_val rfl rfl rfl rfl (V_not rfl rfl) ?_
  refine G_done ?_
  refine G_else rfl ?_
  refine G_skip ?_
  refine G_seq ?_
  refine G_region (l := [0, 1, 2, 3, 4, 5, 6, 7, 8, 9, 10, 11]) rfl ?_
  refine G_val rfl rfl rfl rfl (V_move rfl rfl) ?_
  refine G_val rfl rfl rfl rfl (V_move rfl rfl) ?_
  refine G_call (L2 := [_, _, _]) rfl rfl rfl rfl rfl rfl Tryz.call14 (jn_open_18 d n lb lcap lcs slNil (newD n) h R (by omega) hp (new_load18 (by omega) (by omega))) [] [0, 1, 2] rfl rfl ?_
  rintro v post ⟨rfl, rfl⟩
  show G _ _ _ [_, _, _] _
  refine G_val rfl rfl rfl rfl (V_move rfl rfl) ?_
  refine G_val rfl rfl rfl rfl (V_extract rfl rfl rfl) ?_
  refine G_val rfl rfl rfl rfl (V_extract rfl rfl rfl) ?_
  refine G_val rfl rfl rfl rfl (V_extract rfl rfl rfl) ?_
  refine G_val rfl rfl rfl rfl (V_extract rfl rfl rfl) ?_
  refine G_val rfl rfl rfl rfl (V_assign rfl rfl) ?_
  refine G_val rfl rfl rfl rfl (V_assign rfl rfl) ?_
  refine G_val rfl rfl rfl rfl (V_assign rfl rfl) ?_
  refine G_val rfl rfl rfl rfl (V_assign rfl rfl) ?_
  refine G_done ?_
  refine G_seq ?_
  refine G_seq ?_
  refine G_region (l := [0, 1, 2, 3, 4, 5, 6, 7, 8, 9, 10, 11, 12, 13, 14, 15, 16, 17, 18, 19, 20, 21, 22, 23, 24, 25, 26]) rfl ?_
  refine G_val rfl rfl rfl rfl (V_move rfl rfl) ?_
  refine G_call (L2 := [_, _, _]) rfl rfl rfl rfl rfl rfl Tryz.call9 (jl_num _) [] [] rfl rfl ?_
  rintro v post ⟨rfl, rfl⟩
  show G _ _ _ [_, _, _] _
  refine G_val rfl rfl rfl rfl (V_move rfl rfl) ?_
  refine G_val rfl rfl rfl rfl (V_neq rfl rfl rfl) ?_
  refine G_val rfl rfl rfl rfl (V_move rfl rfl) ?_
  refine G_splitD 65 rfl (fun hc4 => ?_) (fun hc4 => ?_)
  · (first | (exact absurd rfl hc4) | (exact absurd hc4 (by decide)) | (exact absurd (by decide) hc4) | (exfalso; omega) | (exfalso; simp at hc4; done))
  refine G_val rfl rfl rfl rfl (V_move rfl rfl) ?_
  refine G_call (L2 := [_, _, _]) rfl rfl rfl rfl rfl rfl Tryz.call9 (jl_num _) [] [] rfl rfl ?_
  rintro v post ⟨rfl, rfl⟩
  show G _ _ _ [_, _, _] _
  refine G_val rfl rfl rfl rfl (V_move rfl rfl) ?_
  refine G_val rfl rfl rfl rfl (V_neq rfl rfl rfl) ?_
  refine G_val rfl rfl rfl rfl (V_pickF rfl rfl rfl) ?_
  refine G_val rfl rfl rfl rfl (V_move rfl rfl) ?_
  refine G_splitD 71 rfl (fun hc5 => ?_) (fun hc5 => ?_)
  · (first | (exact absurd rfl hc5) | (exact absurd hc5 (by decide)) | (exact absurd (by decide) hc5) | (exfalso; omega) | (exfalso; simp at hc5; done))
  refine G_val rfl rfl rfl rfl (V_move rfl rfl) ?_
  refine G_val rfl rfl rfl rfl (V_len rfl rfl Tryz.underlying34 rfl) ?_
  refine G_val rfl rfl rfl rfl (V_move rfl rfl) ?_
  refine G_val rfl rfl rfl rfl (V_len rfl rfl Tryz.underlying34 rfl) ?_
  refine G_val rfl rfl rfl rfl ((V_add rfl rfl rfl).int (wrap_i64 (by omega))) ?_
  refine G_val rfl rfl rfl rfl (V_gtr rfl rfl rfl) ?_
  refine G_val rfl rfl rfl rfl (V_pickF rfl rfl rfl) ?_
  refine G_val rfl rfl rfl rfl (V_move rfl rfl) ?_
  refine G_splitD 79 rfl (fun hc6 => ?_) (fun hc6 => ?_)
  · (first | (exact absurd rfl hc6) | (exact absurd hc6 (by decide)) | (exact absurd (by decide) hc6) | (exfalso; omega) | (exfalso; simp at hc6; done))
  refine G_val rfl rfl rfl rfl (V_move rfl rfl) ?_
  refine G_val rfl rfl rfl rfl (V_pneqN rfl Tryz.underlying38 rfl rfl) ?_
  refine G_val rfl rfl rfl rfl (V_pickF rfl rfl rfl) ?_
  refine G_val rfl rfl rfl rfl (V_move rfl rfl) ?_
  refine G_split 83 rfl (fun hc7 => ?_) (fun hc7 => ?_)
  · (first | (exact absurd rfl hc7) | (exact absurd hc7 (by decide)) | (exact absurd (by decide) hc7) | (exfalso; omega) | (exfalso; simp at hc7; done))
  refine G_val rfl rfl rfl rfl (V_move rfl rfl) ?_
  refine G_call (L2 := [_, _, _]) rfl rfl rfl rfl rfl rfl Tryz.call28 ((dk_waiting d n lb lcap lcs slNil (newD n) h).weaken (fun v post h => by rw [show (newD n).W = [] by unfold newD; rfl] at h; exact h)) [] [0] rfl rfl ?_
  rintro v post ⟨rfl, rfl⟩
  show G _ _ _ [_, _, _] _
  refine G_val rfl rfl rfl rfl (V_gtr rfl rfl rfl) ?_
  refine G_val rfl rfl rfl rfl (V_pickF rfl rfl rfl) ?_
  refine G_done ?_
  refine G_ifD rfl (fun hc8 => ?_) (fun hc8 => ?_)
  · (first | (exact absurd rfl hc8) | (exact absurd hc8 (by decide)) | (exact absurd (by decide) hc8) | (exfalso; omega) | (exfalso; simp at hc8; done))
  refine G_skip ?_
  refine G_seq ?_
  refine G_seq ?_
  refine G_region (l := [0, 1, 2, 3, 4, 5, 6, 7, 8, 9]) rfl ?_
  refine G_val rfl rfl rfl rfl (V_move rfl rfl) ?_
  refine G_val rfl rfl rfl rfl (V_eql rfl rfl rfl) ?_
  refine G_val rfl rfl rfl rfl (V_move rfl rfl) ?_
  refine G_splitD 90 rfl (fun hc9 => ?_) (fun hc9 => ?_)
  rotate_left
  · (first | (exact absurd rfl hc9) | (exact absurd hc9 (by decide)) | (exact absurd (by decide) hc9) | (exfalso; omega) | (exfalso; simp at hc9; done))
  refine G_val rfl rfl rfl rfl (V_move rfl rfl) ?_
  refine G_val rfl rfl rfl rfl (V_move rfl rfl) ?_
  refine G_val rfl rfl rfl rfl (V_move rfl rfl) ?_
  refine G_call (L2 := []) rfl rfl rfl rfl rfl rfl Tryz.call10 (jl_format d n lb lcap lcs h R hp (by omega) s (by omega) hm) [0, 0, 0] [] rfl rfl ?_
  rintro v post ⟨rfl, k0, lc0, uw0, h0, hl0, hj0, rfl⟩
  show G _ _ _ [_, _, _] _
  refine G_call (L2 := [_, _, _]) rfl rfl rfl rfl rfl rfl Tryz.call9 (jl_num _) [] [] rfl rfl ?_
  rintro v post ⟨rfl, rfl⟩
  show G _ _ _ [_, _, _] _
  refine G_val rfl rfl rfl rfl (V_eql rfl rfl rfl) ?_
  refine G_val rfl rfl rfl rfl (V_pickT rfl rfl rfl) ?_
  refine G_done ?_
  refine G_ifD rfl (fun hc10 => ?_) (fun hc10 => ?_)
  rotate_left
  · (first | (exact absurd rfl hc10) | (exact absurd hc10 (by decide)) | (exact absurd (by decide) hc10) | (exfalso; omega) | (exfalso; simp at hc10; done))
  refine G_seq ?_
  have hlen0 := h0.len
  have hjL := hj0.h.rN
  refine G_region (l := [0, 1]) rfl ?_
  refine G_val rfl rfl rfl rfl (V_move rfl rfl) ?_
  refine G_call (L2 := [_, _]) rfl rfl rfl rfl rfl rfl Tryz.call24 (dk_fuse d n lb lcap lc0 uw0 k0 h0 0) [0] [] rfl rfl ?_
  rintro v post ⟨rfl, rfl⟩
  show G _ _ _ [_, _, _] _
  refine G_done ?_
  refine G_seq ?_
  replace h0 := setFuse_at h0 (z := 0) (by omega)
  refine G_region (l := [0, 1, 2, 3, 4, 5, 6, 7, 8, 9, 10, 11]) rfl ?_
  refine G_val rfl rfl rfl rfl (V_move rfl rfl) ?_
  refine G_val rfl rfl rfl rfl (V_move rfl rfl) ?_
  refine G_call (L2 := []) rfl rfl rfl rfl rfl rfl Tryz.call14 (jn_open_21 d n lb lcap lc0 uw0 (k0.setFuse 0) h0 R (firstS s.length) s [] (hj0.fuse 0) (fuse0_store hj0.h.alive (next_may hj0.h.may) (by omega))) [0, 0, 0] [] rfl rfl ?_
  rintro v post ⟨rfl, lc1, uw1, h1, rfl⟩
  show G _ _ _ [_, _, _] _
  refine G_val rfl rfl rfl rfl (V_move rfl rfl) ?_
  refine G_val rfl rfl rfl rfl (V_extract rfl rfl rfl) ?_
  refine G_val rfl rfl rfl rfl (V_extract rfl rfl rfl) ?_
  refine G_val rfl rfl rfl rfl (V_extract rfl rfl rfl) ?_
  refine G_val rfl rfl rfl rfl (V_extract rfl rfl rfl) ?_
  refine G_val rfl rfl rfl rfl (V_assign rfl rfl) ?_
  refine G_val rfl rfl rfl rfl (V_assign rfl rfl) ?_
  refine G_val rfl rfl rfl rfl (V_assign rfl rfl) ?_
  refine G_val rfl rfl rfl rfl (V_assign rfl rfl) ?_
  refine G_done ?_
  refine G_seq ?_
  refine G_region (l := [0, 1, 2, 3, 4, 5, 6]) rfl ?_
  refine G_val rfl rfl rfl rfl (V_move rfl rfl) ?_
  refine G_val rfl rfl rfl rfl (V_pneqN rfl Tryz.underlying38 rfl rfl) ?_
  refine G_val rfl rfl rfl rfl (V_move rfl rfl) ?_
  refine G_split 110 rfl (fun hc11 => ?_) (fun hc11 => ?_)
  · (first | (exact absurd rfl hc11) | (exact absurd hc11 (by decide)) | (exact absurd (by decide) hc11) | (exfalso; omega) | (exfalso; simp at hc11; done))
  refine G_val rfl rfl rfl rfl (V_move rfl rfl) ?_
  refine G_call (L2 := [_, _, _]) rfl rfl rfl rfl rfl rfl Tryz.call9 (jl_num _) [] [] rfl rfl ?_
  rintro v post ⟨rfl, rfl⟩
  show G _ _ _ [_, _, _] _
  refine G_val rfl rfl rfl rfl (V_neq rfl rfl rfl) ?_
  refine G_val rfl rfl rfl rfl (V_pickF rfl rfl rfl) ?_
  refine G_done ?_
  refine G_ifD rfl (fun hc12 => ?_) (fun hc12 => ?_)
  · (first | (exact absurd rfl hc12) | (exact absurd hc12 (by decide)) | (exact absurd (by decide) hc12) | (exfalso; omega) | (exfalso; simp at hc12; done))
  refine G_skip ?_
  refine G_seq ?_
  refine G_region (l := [0, 1, 2, 3, 4, 5, 6, 7, 8]) rfl ?_
  refine G_val rfl rfl rfl rfl (V_move rfl rfl) ?_
  refine G_call (L2 := [_, _, _]) rfl rfl rfl rfl rfl rfl Tryz.call27 (jn_Look_nil (R : Int)) [] [] rfl rfl ?_
  rintro v post ⟨rfl, rfl⟩
  show G _ _ _ [_, _, _] _
  refine G_val rfl rfl rfl rfl (V_move rfl rfl) ?_
  refine G_val rfl rfl rfl rfl (V_extract rfl rfl rfl) ?_
  refine G_val rfl rfl rfl rfl (V_extract rfl rfl rfl) ?_
  refine G_val rfl rfl rfl rfl (V_extract rfl rfl rfl) ?_
  refine G_val rfl rfl rfl rfl (V_assign rfl rfl) ?_
  refine G_val rfl rfl rfl rfl (V_assign rfl rfl) ?_
  refine G_val rfl rfl rfl rfl (V_assign rfl rfl) ?_
  refine G_done ?_
  refine G_seq ?_
  refine G_region (l := [0]) rfl ?_
  refine G_val rfl rfl rfl rfl (V_assign rfl rfl) ?_
  refine G_done ?_
  refine G_seq ?_
  refine G_region (l := [0, 1, 2, 3, 4, 5, 6, 7, 8, 9, 10, 11, 12, 13, 14, 15, 16, 17, 18, 19, 20, 21, 22, 23, 24, 25, 26, 27, 28, 29, 30, 31, 32, 33, 34, 35, 36, 37, 38, 39, 40, 41, 42, 43]) rfl ?_
  refine G_val rfl rfl rfl rfl (V_move rfl rfl) ?_
  refine G_call (L2 := [_, _, _]) rfl rfl rfl rfl rfl rfl Tryz.call9 (jl_num _) [] [] rfl rfl ?_
  rintro v post ⟨rfl, rfl⟩
  show G _ _ _ [_, _, _] _
  refine G_val rfl rfl rfl rfl (V_eql rfl rfl rfl) ?_
  refine G_val rfl rfl rfl rfl (V_move rfl rfl) ?_
  refine G_splitD 124 rfl (fun hc13 => ?_) (fun hc13 => ?_)
  rotate_left
  · (first | (exact absurd rfl hc13) | (exact absurd hc13 (by decide)) | (exact absurd (by decide) hc13) | (exfalso; omega) | (exfalso; simp at hc13; done))
  refine G_val rfl rfl rfl rfl (V_move rfl rfl) ?_
  refine G_val rfl rfl rfl rfl (V_move rfl rfl) ?_
  refine G_call (L2 := [_, _, _]) rfl rfl rfl rfl rfl rfl Tryz.call10 (jn_format_nil (R : Int) _) [] [] rfl rfl ?_
  rintro v post ⟨rfl, rfl⟩
  show G _ _ _ [_, _, _] _
  refine G_call (L2 := [_, _, _]) rfl rfl rfl rfl rfl rfl Tryz.call9 (jl_num _) [] [] rfl rfl ?_
  rintro v post ⟨rfl, rfl⟩
  show G _ _ _ [_, _, _] _
  refine G_val rfl rfl rfl rfl (V_eql rfl rfl rfl) ?_
  refine G_val rfl rfl rfl rfl (V_pickT rfl rfl rfl) ?_
  refine G_val rfl rfl rfl rfl (V_move rfl rfl) ?_
  refine G_splitD 131 rfl (fun hc14 => ?_) (fun hc14 => ?_)
  rotate_left
  · (first | (exact absurd rfl hc14) | (exact absurd hc14 (by decide)) | (exact absurd (by decide) hc14) | (exfalso; omega) | (exfalso; simp at hc14; done))
  refine G_val rfl rfl rfl rfl (V_move rfl rfl) ?_
  refine G_val rfl rfl rfl rfl (V_move rfl rfl) ?_
  refine G_call (L2 := [_, _, _]) rfl rfl rfl rfl rfl rfl Tryz.call17 (jn_add_nil _) [] [] rfl rfl ?_
  rintro v post ⟨rfl, rfl⟩
  show G _ _ _ [_, _, _] _
  refine G_call (L2 := [_, _, _]) rfl rfl rfl rfl rfl rfl Tryz.call9 (jl_num _) [] [] rfl rfl ?_
  rintro v post ⟨rfl, rfl⟩
  show G _ _ _ [_, _, _] _
  refine G_val rfl rfl rfl rfl (V_eql rfl rfl rfl) ?_
  refine G_val rfl rfl rfl rfl (V_pickT rfl rfl rfl) ?_
  refine G_val rfl rfl rfl rfl (V_move rfl rfl) ?_
  refine G_splitD 138 rfl (fun hc15 => ?_) (fun hc15 => ?_)
  rotate_left
  · (first | (exact absurd rfl hc15) | (exact absurd hc15 (by decide)) | (exact absurd (by decide) hc15) | (exfalso; omega) | (exfalso; simp at hc15; done))
  refine G_val rfl rfl rfl rfl (V_move rfl rfl) ?_
  refine G_val rfl rfl rfl rfl (V_move rfl rfl) ?_
  refine G_call (L2 := [_, _, _]) rfl rfl rfl rfl rfl rfl Tryz.call19 (jn_anew_nil _) [] [] rfl rfl ?_
  rintro v post ⟨rfl, rfl⟩
  show G _ _ _ [_, _, _] _
  refine G_call (L2 := [_, _, _]) rfl rfl rfl rfl rfl rfl Tryz.call9 (jl_num _) [] [] rfl rfl ?_
  rintro v post ⟨rfl, rfl⟩
  show G _ _ _ [_, _, _] _
  refine G_val rfl rfl rfl rfl (V_eql rfl rfl rfl) ?_
  refine G_val rfl rfl rfl rfl (V_pickT rfl rfl rfl) ?_
  refine G_val rfl rfl rfl rfl (V_move rfl rfl) ?_
  refine G_splitD 145 rfl (fun hc16 => ?_) (fun hc16 => ?_)
  rotate_left
  · (first | (exact absurd rfl hc16) | (exact absurd hc16 (by decide)) | (exact absurd (by decide) hc16) | (exfalso; omega) | (exfalso; simp at hc16; done))
  refine G_val rfl rfl rfl rfl (V_move rfl rfl) ?_
  refine G_val rfl rfl rfl rfl (V_move rfl rfl) ?_
  refine G_call (L2 := [_, _, _]) rfl rfl rfl rfl rfl rfl Tryz.call16 (jn_fits_nil _) [] [] rfl rfl ?_
  rintro v post ⟨rfl, rfl⟩
  show G _ _ _ [_, _, _] _
  refine G_val rfl rfl rfl rfl (V_not rfl rfl) ?_
  refine G_val rfl rfl rfl rfl (V_pickT rfl rfl rfl) ?_
  refine G_val rfl rfl rfl rfl (V_move rfl rfl) ?_
  refine G_split 151 rfl (fun hc17 => ?_) (fun hc17 => ?_)
  rotate_left
  · (first | (exact absurd rfl hc17) | (exact absurd hc17 (by decide)) | (exact absurd (by decide) hc17) | (exfalso; omega) | (exfalso; simp at hc17; done))
  refine G_val rfl rfl rfl rfl (V_move rfl rfl) ?_
  refine G_call (L2 := [_, _, _]) rfl rfl rfl rfl rfl rfl Tryz.call22 jn_Left_nil [] [] rfl rfl ?_
  rintro v post ⟨rfl, rfl⟩
  show G _ _ _ [_, _, _] _
  refine G_val rfl rfl rfl rfl (V_eql rfl rfl rfl) ?_
  refine G_val rfl rfl rfl rfl (V_pickT rfl rfl rfl) ?_
  refine G_val rfl rfl rfl rfl (V_move rfl rfl) ?_
  refine G_splitD 156 rfl (fun hc18 => ?_) (fun hc18 => ?_)
  rotate_left
  · (first | (exact absurd rfl hc18) | (exact absurd hc18 (by decide)) | (exact absurd (by decide) hc18) | (exfalso; omega) | (exfalso; simp at hc18; done))
  refine G_val rfl rfl rfl rfl (V_move rfl rfl) ?_
  refine G_call (L2 := [_, _, _]) rfl rfl rfl rfl rfl rfl Tryz.call23 jn_Epoch_nil [] [] rfl rfl ?_
  rintro v post ⟨rfl, rfl⟩
  show G _ _ _ [_, _, _] _
  refine G_val rfl rfl rfl rfl (V_eql rfl rfl rfl) ?_
  refine G_val rfl rfl rfl rfl (V_pickT rfl rfl rfl) ?_
  refine G_val rfl rfl rfl rfl (V_move rfl rfl) ?_
  refine G_splitD 161 rfl (fun hc19 => ?_) (fun hc19 => ?_)
  rotate_left
  · (first | (exact absurd rfl hc19) | (exact absurd hc19 (by decide)) | (exact absurd (by decide) hc19) | (exfalso; omega) | (exfalso; simp at hc19; done))
  refine G_call (L2 := [_, _, _]) rfl rfl rfl rfl rfl rfl Tryz.call7 (jl_live) [] [] rfl rfl ?_
  rintro v post ⟨rfl, rfl⟩
  show G _ _ _ [_, _, _] _
  refine G_val rfl rfl rfl rfl (V_pickT rfl rfl rfl) ?_
  refine G_val rfl rfl rfl rfl (V_assign rfl rfl) ?_
  refine G_done ?_
  refine G_ret (post := []) Tryz.func5 rfl (RVs_cons (RV_tmp rfl) RVs_nil) [] rfl ?_
  dsimp only [packed]
  exact ⟨rfl, rfl⟩


set_option maxRecDepth 100000 in
theorem journalLooks_walk : LawWalk 5 Tryz.f5 := lawwalk_reads (fun W base args hs hval => by
  rw [Tryz.params5] at hs hval
  obtain ⟨l⟩ := args
  match l, hs with
  | [a, b, c], _ =>
    obtain ⟨n0, rfl, a0, b0⟩ := okc_int (okv_cell (hval 0 3 a rfl rfl).1 Tryz.underlying3 rfl) Tryz.underlying3
    obtain ⟨n1, rfl, a1, b1⟩ := okc_int (okv_cell (hval 1 3 b rfl rfl).1 Tryz.underlying3 rfl) Tryz.underlying3
    obtain ⟨s, rfl, hs⟩ := okc_str (okv_cell (hval 2 9 c rfl rfl).1 Tryz.underlying9 rfl) Tryz.underlying9
    exact ⟨_, has_nil _, journalLooks_all n0 n1 a0 b0 a1 b1 s hs⟩)


set_option maxRecDepth 100000 in
theorem journalLooks_lifted (os : Os) (started : os.Started) (H : Type) (enc : TypeId × Value → H) :
    ReturnsInHanded {} Tryz.checked os 5 .any (fun w args => (Rows.journalLooksSpec.pre enc Tryz.prog Tryz.f5 [] false w args ∧ laidMetH Tryz.prog Rows.journalLooksRow.laid w) ∧ sizedMet enc Tryz.prog Tryz.f5 (OpenSpec.ofChange Rows.journalLooksSpec) false w args)
      (Rows.journalLooksSpec.post enc Tryz.prog Tryz.f5 false true false false) := by
  refine returnsInHanded_of_change_and (C := Tryz.checked) (X := fun w _ => laidMetH Tryz.prog Rows.journalLooksRow.laid w) (fun _ _ _ hh h => h.of_heap hh) Tryz.ownK started (by kernel_rfl) Tryz.func5
    (ChangeSpec.witness_shaped (enc := enc) (C := Tryz.checked) (os := os) (X := fun w _ => laidMetH Tryz.prog Rows.journalLooksRow.laid w) false (World.laidAll Tryz.prog os Rows.journalLooksRow.laid) #[.int .i64 0, .int .i64 0, .string ByteArray.empty] 8 (World.laidAll_os _ _ _)
      (World.shaped_of_ZipB (by kernel_rfl) (by kernel_rfl)) (by kernel_rfl) (by kernel_rfl) (by kernel_rfl)
      (by rw [MakeChecks.laidMetH_plain _ _ _ (by kernel_rfl)]; exact laidMet_laidAll _ (by kernel_rfl) (by kernel_rfl))) ?_
  intro W base args ds gs before hval hW _ _ _ _
  exact law_end (s := Rows.journalLooksSpec) rfl (by kernel_rfl) (by kernel_rfl) (by decide +kernel) (fun ds h => by match ds, h with | [_, _, _], _ => rfl) journalLooks_walk W base args ds gs before hval hW
theorem journalLooks_said : Rows.JournalLooksSaid :=
  OpenClaim.holds_of_wide 5 Tryz.f5 rfl rfl rfl rfl rfl rfl rfl ⟨rfl, rfl, rfl, rfl, rfl⟩ rfl rfl rfl rfl rfl (by kernel_rfl) Tryz.func5 (by kernel_rfl)
    (of_decide_eq_true (by kernel_rfl)) (by unfold Func.isWrapper; first | (rw [if_pos (by decide +kernel)]; kernel_rfl) | (rw [if_neg (by decide +kernel)]; exact ⟨rfl, rfl⟩))
    (fun os started H enc _ => journalLooks_lifted os started H enc)
theorem journalLooks_holds : Rows.JournalLooksCardSaid :=
  Claim7.holds_tied_plain_at .later [] _ _ _ _ journalLooks_said (fun _ h => by cases h) (by kernel_rfl) (fun _ h => by cases h) journalLooks_row_tie rfl ⟨rfl, rfl⟩ (by kernel_rfl) rfl
    (fun f fn hf hfn => by
      obtain rfl : f = 5 := Option.some.inj ((show Tryz.prog.funcNamed "billet/billetlaw28.JournalLooks" = some 5 by kernel_rfl).symm.trans hf) |>.symm
      obtain rfl : fn = Tryz.f5 := (Option.some.inj (Tryz.func5.symm.trans hfn)).symm
      exact ⟨by kernel_rfl, fun j t ht => by
        rw [Tryz.params5] at ht
        have hm : t ∈ [3, 3, 9] := by simpa using Array.mem_of_getElem? ht
        have hall : ([3, 3, 9].all fun u => !Tryz.prog.wantsStandIn u) = true := by kernel_rfl
        exact (show Tryz.prog.wantsStandIn t = false by simpa using List.all_eq_true.1 hall t hm)⟩)
    (by kernel_rfl)
#print axioms journalLooks_holds

end
end Go.Proofs.YtbblkgdejgoncaaGreatDoor
