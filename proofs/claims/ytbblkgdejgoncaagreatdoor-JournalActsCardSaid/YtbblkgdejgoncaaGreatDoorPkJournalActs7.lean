/- The law JournalActs: what anything that is done makes of a journal on a disk of any parts, one behind the other, or why it does not; what lies on the disk then, and how much is left; the call returns true and leaves its arguments as they were. -/
import Derived.Test.YtbblkgdejgoncaaGreatDoorPkJournalActs1
import Derived.Test.YtbblkgdejgoncaaGreatDoorPkJournalActs2
import Derived.Test.YtbblkgdejgoncaaGreatDoorPkJournalActs3
import Derived.Test.YtbblkgdejgoncaaGreatDoorPkJournalActs4
import Derived.Test.YtbblkgdejgoncaaGreatDoorPkJournalActs5
import Derived.Test.YtbblkgdejgoncaaGreatDoorPkJournalActs6


set_option linter.unusedSimpArgs false
set_option linter.unusedVariables false
namespace Go.Proofs.YtbblkgdejgoncaaGreatDoor
open Go Go.ChangeShapes Go.WideShapes Go.ChangeAt Go.RowKit

section
theorem infLawJournalActs_3 : Tryz.prog.info? 3 = some Tryz.t3 := by kernel_rfl
theorem infLawJournalActs_9 : Tryz.prog.info? 9 = some Tryz.t9 := by kernel_rfl
theorem infLawJournalActs_34 : Tryz.prog.info? 34 = some Tryz.t34 := by kernel_rfl
theorem infLawJournalActs_36 : Tryz.prog.info? 36 = some Tryz.t36 := by kernel_rfl
theorem infLawJournalActs_42 : Tryz.prog.info? 42 = some Tryz.t42 := by kernel_rfl


theorem part3 (n : Nat) (z : Int) (s : List UInt8) : partE n z = 1 ∨ (∃ R : Nat, z = (R : Int) ∧ partE n (R : Int) = 0 ∧ R < manyS s.length) ∨ (∃ R : Nat, z = (R : Int) ∧ partE n (R : Int) = 0 ∧ manyS s.length ≤ R) := by
  by_cases h : partE n z = 0
  · have hp := partE_0.1 h
    obtain ⟨R, rfl⟩ := Int.eq_ofNat_of_zero_le (show 0 ≤ z by omega)
    rcases Nat.lt_or_ge R (manyS s.length) with hm | hm
    · exact .inr (.inl ⟨R, rfl, h, hm⟩)
    · exact .inr (.inr ⟨R, rfl, h, hm⟩)
  · exact .inl (partE_1 h)
theorem add3 (z : Int) (s : List UInt8) : (1000 < s.length ∧ ¬ fitsL z s ∧ lgE z s = 4) ∨ (s.length ≤ 1000 ∧ ¬ fitsL z s ∧ lgE z s = 17) ∨ fitsL z s := by
  by_cases h : fitsL z s
  · exact .inr (.inr h)
  · by_cases hl : 1000 < s.length
    · exact .inl ⟨hl, h, by unfold lgE; rw [if_pos hl]⟩
    · exact .inr (.inl ⟨by omega, h, by unfold lgE; rw [if_neg hl, if_pos (by unfold fitsL at h; omega)]⟩)
attribute [local irreducible] newD partE

set_option maxRecDepth 100000 in
set_option maxHeartbeats 16000000 in
theorem journalActs_all (x0 x1 : Int) (hx00 : -9223372036854775808 ≤ x0) (hx01 : x0 ≤ 9223372036854775807) (hz0 : -9223372036854775808 ≤ x1) (hz1 : x1 ≤ 9223372036854775807) (s : List UInt8) (hsl : s.length ≤ 9223372036854775807) (o1 : Option Nat) (p1 q1 : Nat) (c1 : Array Value) (T1 : TypeId) (f1 : Nat × Nat) (l : List (Int × List UInt8)) (hs : Sees 2 o1 p1 q1 c1 (l.flatMap acC) l.length) :
    Ct Tryz.prog 3 [.agg #[.int .i64 x0, .int .i64 x1], .string (bs s), sv o1 p1 l.length q1] [(o1, .cells c1 T1 f1)] [] fun v post => v = .bool true ∧ post = [] := by
 have hl1_ := hs.le
 have hl2_ := hs.max
 refine ct_of Tryz.func3 rfl rfl (fun w0 => ?_)
 show G _ _ [(0, _), (1, _), (2, _)] _ _
 refine G_seq ?_
 refine G_region (l := [0, 1]) rfl ?_
 refine G_new rfl rfl rfl rfl (N_boxA rfl rfl) (fun b3 => ?_)
 refine G_val rfl rfl rfl rfl (V_assign rfl rfl) ?_
 refine G_done ?_
 refine G_seq ?_
 refine G_seq ?_
 refine G_region (l := [0, 1, 2, 3, 4, 5, 6, 7, 8, 9, 10, 11, 12, 13, 14, 15, 16]) rfl ?_
 refine G_val rfl rfl rfl rfl (V_move rfl rfl) ?_
 refine G_val rfl rfl rfl rfl (V_slen rfl rfl Tryz.underlying9 rfl) ?_
 refine G_val rfl rfl rfl rfl (V_gtr rfl rfl rfl) ?_
 refine G_val rfl rfl rfl rfl (V_move rfl rfl) ?_
 refine G_splitD 26 rfl (fun hc1 => ?_) (fun hc1 => ?_)
 ·
  refine G_off rfl rfl rfl rfl ?_
  refine G_off rfl rfl rfl rfl ?_
  refine G_val rfl rfl rfl rfl (V_pickT rfl rfl rfl) ?_
  refine G_val rfl rfl rfl rfl (V_move rfl rfl) ?_
  refine G_off rfl rfl rfl rfl ?_
  refine G_off rfl rfl rfl rfl ?_
  refine G_off rfl rfl rfl rfl ?_
  refine G_val rfl rfl rfl rfl (V_pickT rfl rfl rfl) ?_
  refine G_val rfl rfl rfl rfl (V_move rfl rfl) ?_
  refine G_off rfl rfl rfl rfl ?_
  refine G_off rfl rfl rfl rfl ?_
  refine G_off rfl rfl rfl rfl ?_
  refine G_val rfl rfl rfl rfl (V_pickT rfl rfl rfl) ?_
  refine G_done ?_
  refine G_then rfl ?_
  refine G_seq ?_
  refine G_region (l := [0, 1]) rfl ?_
  refine G_call (L2 := [_]) rfl rfl rfl rfl rfl rfl Tryz.call7 (jl_live) [] [] rfl rfl ?_
  rintro v post ⟨rfl, rfl⟩
  show G _ _ _ [_] _
  refine G_val rfl rfl rfl rfl (V_assign rfl rfl) ?_
  refine G_done ?_
  refine G_ret (post := []) Tryz.func3 rfl (RVs_cons (RV_tmp rfl) RVs_nil) [] rfl ?_
  dsimp only [packed]
  exact ⟨rfl, rfl⟩
 refine G_val rfl rfl rfl rfl (V_move rfl rfl) ?_
 refine G_call (L2 := [_]) rfl rfl rfl rfl rfl rfl Tryz.call6 (jl_long _ _ _ _ _ _ l hs) [] [0] rfl rfl ?_
 rintro v post ⟨⟨bb, rfl, hb⟩, rfl⟩
 show G _ _ _ [_] _
 refine G_val rfl rfl rfl rfl (V_pickF rfl rfl rfl) ?_
 refine G_val rfl rfl rfl rfl (V_move rfl rfl) ?_
 refine G_split 30 rfl (fun hc2 => ?_) (fun hc2 => ?_)
 ·
  refine G_off rfl rfl rfl rfl ?_
  refine G_off rfl rfl rfl rfl ?_
  refine G_off rfl rfl rfl rfl ?_
  refine G_val rfl rfl rfl rfl (V_pickT rfl rfl rfl) ?_
  refine G_val rfl rfl rfl rfl (V_move rfl rfl) ?_
  refine G_off rfl rfl rfl rfl ?_
  refine G_off rfl rfl rfl rfl ?_
  refine G_off rfl rfl rfl rfl ?_
  refine G_val rfl rfl rfl rfl (V_pickT rfl rfl rfl) ?_
  refine G_done ?_
  refine G_then rfl ?_
  refine G_seq ?_
  refine G_region (l := [0, 1]) rfl ?_
  refine G_call (L2 := [_]) rfl rfl rfl rfl rfl rfl Tryz.call7 (jl_live) [] [] rfl rfl ?_
  rintro v post ⟨rfl, rfl⟩
  show G _ _ _ [_] _
  refine G_val rfl rfl rfl rfl (V_assign rfl rfl) ?_
  refine G_done ?_
  refine G_ret (post := []) Tryz.func3 rfl (RVs_cons (RV_tmp rfl) RVs_nil) [] rfl ?_
  dsimp only [packed]
  exact ⟨rfl, rfl⟩
 refine G_val rfl rfl rfl rfl (V_aindexAddr rfl Tryz.underlying22 infLawJournalActs_3 rfl rfl rfl (by omega) (by omega)) ?_
 refine G_val rfl rfl rfl rfl (V_load1 rfl rfl (mem_at 1 rfl) rfl Tryz.underlying3 rfl) ?_
 refine G_val rfl rfl rfl rfl (V_lss rfl rfl rfl) ?_
 refine G_val rfl rfl rfl rfl (V_pickF rfl rfl rfl) ?_
 refine G_val rfl rfl rfl rfl (V_move rfl rfl) ?_
 refine G_splitD 35 rfl (fun hc3 => ?_) (fun hc3 => ?_)
 ·
  refine G_off rfl rfl rfl rfl ?_
  refine G_off rfl rfl rfl rfl ?_
  refine G_off rfl rfl rfl rfl ?_
  refine G_val rfl rfl rfl rfl (V_pickT rfl rfl rfl) ?_
  refine G_done ?_
  refine G_then rfl ?_
  refine G_seq ?_
  refine G_region (l := [0, 1]) rfl ?_
  refine G_call (L2 := [_]) rfl rfl rfl rfl rfl rfl Tryz.call7 (jl_live) [] [] rfl rfl ?_
  rintro v post ⟨rfl, rfl⟩
  show G _ _ _ [_] _
  refine G_val rfl rfl rfl rfl (V_assign rfl rfl) ?_
  refine G_done ?_
  refine G_ret (post := []) Tryz.func3 rfl (RVs_cons (RV_tmp rfl) RVs_nil) [] rfl ?_
  dsimp only [packed]
  exact ⟨rfl, rfl⟩
 refine G_val rfl rfl rfl rfl (V_aindexAddr rfl Tryz.underlying22 infLawJournalActs_3 rfl rfl rfl (by omega) (by omega)) ?_
 refine G_val rfl rfl rfl rfl (V_load1 rfl rfl (mem_at 1 rfl) rfl Tryz.underlying3 rfl) ?_
 refine G_val rfl rfl rfl rfl (V_gtr rfl rfl rfl) ?_
 refine G_val rfl rfl rfl rfl (V_pickF rfl rfl rfl) ?_
 refine G_done ?_
 refine G_ifD rfl (fun hc4 => ?_) (fun hc4 => ?_)
 ·
  refine G_seq ?_
  refine G_region (l := [0, 1]) rfl ?_
  refine G_call (L2 := [_]) rfl rfl rfl rfl rfl rfl Tryz.call7 (jl_live) [] [] rfl rfl ?_
  rintro v post ⟨rfl, rfl⟩
  show G _ _ _ [_] _
  refine G_val rfl rfl rfl rfl (V_assign rfl rfl) ?_
  refine G_done ?_
  refine G_ret (post := []) Tryz.func3 rfl (RVs_cons (RV_tmp rfl) RVs_nil) [] rfl ?_
  dsimp only [packed]
  exact ⟨rfl, rfl⟩
 refine G_skip ?_
 refine G_seq ?_
 obtain ⟨hl40, hall⟩ := hb (by assumption)
 obtain ⟨n, rfl⟩ := Int.eq_ofNat_of_zero_le (show 0 ≤ x0 by omega)
 refine G_region (l := [0, 1, 2, 3, 4, 5, 6, 7]) rfl ?_
 refine G_val rfl rfl rfl rfl (V_aindexAddr rfl Tryz.underlying22 infLawJournalActs_3 rfl rfl rfl (by omega) (by omega)) ?_
 refine G_val rfl rfl rfl rfl (V_load1 rfl rfl (mem_at 1 rfl) rfl Tryz.underlying3 rfl) ?_
 refine G_call (L2 := [_]) rfl rfl rfl rfl rfl rfl Tryz.call8 (dk_new n (by omega) (by omega)) [] [] rfl rfl ?_
 rintro v post ⟨d, lb, lcap, lcs, rfl, h, rfl⟩
 show G _ _ _ [_, _, _, _] _
 refine G_val rfl rfl rfl rfl (V_move rfl rfl) ?_
 refine G_val rfl rfl rfl rfl (V_extract rfl rfl rfl) ?_
 refine G_val rfl rfl rfl rfl (V_extract rfl rfl rfl) ?_
 refine G_val rfl rfl rfl rfl (V_assign rfl rfl) ?_
 refine G_val rfl rfl rfl rfl (V_assign rfl rfl) ?_
 refine G_done ?_
 refine G_seq ?_
 rcases part3 n x1 s with hp | ⟨R, rfl, hp, hm⟩ | ⟨R, rfl, hp, hm⟩
 ·
  refine G_region (l := [0, 1, 2, 3, 4, 5, 6]) rfl ?_
  refine G_val rfl rfl rfl rfl (V_move rfl rfl) ?_
  refine G_val rfl rfl rfl rfl (V_aindexAddr rfl Tryz.underlying22 infLawJournalActs_3 rfl rfl rfl (by omega) (by omega)) ?_
  refine G_val rfl rfl rfl rfl (V_load1 rfl rfl (mem_at 4 rfl) rfl Tryz.underlying3 rfl) ?_
  refine G_val rfl rfl rfl rfl (V_move rfl rfl) ?_
  refine G_call (L2 := [_, _, _, _]) rfl rfl rfl rfl rfl rfl Tryz.call10 (jn_format_1 d n lb lcap lcs slNil (newD n) h x1 hz0 hz1 hp s) [] [1] rfl rfl ?_
  rintro v post ⟨rfl, rfl⟩
  show G _ _ _ [_, _, _, _] _
  refine G_call (L2 := [_, _, _, _]) rfl rfl rfl rfl rfl rfl Tryz.call9 (jl_num _) [] [] rfl rfl ?_
  rintro v post ⟨rfl, rfl⟩
  show G _ _ _ [_, _, _, _] _
  refine G_val rfl rfl rfl rfl (V_assign rfl rfl) ?_
  refine G_done ?_
  refine G_seq ?_
  refine G_seq ?_
  refine G_region (l := [0, 1, 2, 3, 4, 5]) rfl ?_
  refine G_val rfl rfl rfl rfl (V_aindexAddr rfl Tryz.underlying22 infLawJournalActs_3 rfl rfl rfl (by omega) (by omega)) ?_
  refine G_val rfl rfl rfl rfl (V_load1 rfl rfl (mem_at 4 rfl) rfl Tryz.underlying3 rfl) ?_
  refine G_val rfl rfl rfl rfl (V_aindexAddr rfl Tryz.underlying22 infLawJournalActs_3 rfl rfl rfl (by omega) (by omega)) ?_
  refine G_val rfl rfl rfl rfl (V_load1 rfl rfl (mem_at 4 rfl) rfl Tryz.underlying3 rfl) ?_
  refine G_call (L2 := [_, _, _, _]) rfl rfl rfl rfl rfl rfl Tryz.call11 ((rj_parts n (by omega) x1 hz0 hz1).weaken (fun v post h => by rw [hp, decide_eq_false (by decide)] at h; exact h)) [] [] rfl rfl ?_
  rintro v post ⟨rfl, rfl⟩
  show G _ _ _ [_, _, _, _] _
  refine G_val rfl rfl rfl rfl (V_not rfl rfl) ?_
  refine G_done ?_
  refine G_then rfl ?_
  refine G_seq ?_
  refine G_region (l := [0, 1, 2, 3, 4, 5]) rfl ?_
  refine G_val rfl rfl rfl rfl (V_move rfl rfl) ?_
  refine G_val rfl rfl rfl rfl (V_eql rfl rfl rfl) ?_
  refine G_val rfl rfl rfl rfl (V_move rfl rfl) ?_
  refine G_splitD 61 rfl (fun hc5 => ?_) (fun hc5 => ?_)
  rotate_left
  · (first | (exact absurd rfl hc5) | (exact absurd hc5 (by decide)) | (exact absurd (by decide) hc5) | (exfalso; omega) | (exfalso; simp at hc5; done))
  refine G_call (L2 := [_, _, _, _]) rfl rfl rfl rfl rfl rfl Tryz.call7 (jl_live) [] [] rfl rfl ?_
  rintro v post ⟨rfl, rfl⟩
  show G _ _ _ [_, _, _, _] _
  refine G_val rfl rfl rfl rfl (V_pickT rfl rfl rfl) ?_
  refine G_val rfl rfl rfl rfl (V_assign rfl rfl) ?_
  refine G_done ?_
  refine G_ret (post := []) Tryz.func3 rfl (RVs_cons (RV_tmp rfl) RVs_nil) [] rfl ?_
  dsimp only [packed]
  exact ⟨rfl, rfl⟩
 ·
  refine G_region (l := [0, 1, 2, 3, 4, 5, 6]) rfl ?_
  refine G_val rfl rfl rfl rfl (V_move rfl rfl) ?_
  refine G_val rfl rfl rfl rfl (V_aindexAddr rfl Tryz.underlying22 infLawJournalActs_3 rfl rfl rfl (by omega) (by omega)) ?_
  refine G_val rfl rfl rfl rfl (V_load1 rfl rfl (mem_at 4 rfl) rfl Tryz.underlying3 rfl) ?_
  refine G_val rfl rfl rfl rfl (V_move rfl rfl) ?_
  refine G_call (L2 := [_]) rfl rfl rfl rfl rfl rfl Tryz.call10 (jl_format_full d n lb lcap lcs h R hp (by omega) s (by omega) hm) [0, 0, 0] [] rfl rfl ?_
  rintro v post ⟨rfl, k0, lc0, uw0, h0, rfl⟩
  show G _ _ _ [_, _, _, _] _
  refine G_call (L2 := [_, _, _, _]) rfl rfl rfl rfl rfl rfl Tryz.call9 (jl_num _) [] [] rfl rfl ?_
  rintro v post ⟨rfl, rfl⟩
  show G _ _ _ [_, _, _, _] _
  refine G_val rfl rfl rfl rfl (V_assign rfl rfl) ?_
  refine G_done ?_
  refine G_seq ?_
  refine G_seq ?_
  refine G_region (l := [0, 1, 2, 3, 4, 5]) rfl ?_
  refine G_val rfl rfl rfl rfl (V_aindexAddr rfl Tryz.underlying22 infLawJournalActs_3 rfl rfl rfl (by omega) (by omega)) ?_
  refine G_val rfl rfl rfl rfl (V_load1 rfl rfl (mem_at 4 rfl) rfl Tryz.underlying3 rfl) ?_
  refine G_val rfl rfl rfl rfl (V_aindexAddr rfl Tryz.underlying22 infLawJournalActs_3 rfl rfl rfl (by omega) (by omega)) ?_
  refine G_val rfl rfl rfl rfl (V_load1 rfl rfl (mem_at 4 rfl) rfl Tryz.underlying3 rfl) ?_
  refine G_call (L2 := [_, _, _, _]) rfl rfl rfl rfl rfl rfl Tryz.call11 ((rj_parts n (by omega) (R : Int) (by omega) (by omega)).weaken (fun v post h => by rw [hp, decide_eq_true rfl] at h; exact h)) [] [] rfl rfl ?_
  rintro v post ⟨rfl, rfl⟩
  show G _ _ _ [_, _, _, _] _
  refine G_val rfl rfl rfl rfl (V_not rfl rfl) ?_
  refine G_done ?_
  refine G_else rfl ?_
  refine G_skip ?_
  refine G_seq ?_
  refine G_seq ?_
  have hpp := partE_0.1 hp
  refine GH_start (Lq := [_]) (isq := [3]) (m := 6) mixedK rfl rfl ?_
  refine GH_take 0 rfl rfl rfl rfl (by kernel_rfl) (by kernel_rfl) (by kernel_rfl) (fun _ _ => (V_move rfl rfl)) ?_
  refine GH_take 1 rfl rfl rfl rfl (by kernel_rfl) (by kernel_rfl) (by kernel_rfl) (fun _ _ => (V_slen rfl rfl Tryz.underlying9 rfl)) ?_
  refine GH_take 3 rfl rfl rfl rfl (by kernel_rfl) (by kernel_rfl) (by kernel_rfl) (fun _ _ => (V_aindexAddr rfl Tryz.underlying22 infLawJournalActs_3 rfl rfl rfl (by omega) (by omega))) ?_
  refine GH_take 4 rfl rfl rfl rfl (by kernel_rfl) (by kernel_rfl) (by kernel_rfl) (fun _ _ => (V_load1 rfl rfl (mem_at 1 rfl) rfl Tryz.underlying3 rfl)) ?_
  refine GH_all [2] (by kernel_rfl) (by decide) ?_
  refine (And.intro ?_ trivial)
  ·
   refine GHop_call (L2 := [_, _, _, _]) rfl rfl rfl rfl rfl rfl Tryz.call12 (rsn_many s.length (by omega)) [] [] rfl rfl [3] (by rintro v post ⟨rfl, rfl⟩; exact ⟨_, rfl⟩) ?_
   rintro v post ⟨rfl, rfl⟩
   show GH _ _ _ _ _ _ _ [_, _, _, _] _
   refine GH_take 5 rfl rfl rfl rfl (by kernel_rfl) (by kernel_rfl) (by kernel_rfl) (fun _ _ => (V_gtr rfl rfl rfl)) ?_
   refine GH_done (by kernel_rfl) ?_
   refine G_ifD rfl (fun hc5 => ?_) (fun hc5 => ?_)
   rotate_left
   · (first | (exact absurd rfl hc5) | (exact absurd hc5 (by decide)) | (exact absurd (by decide) hc5) | (exfalso; omega) | (exfalso; simp at hc5; done))
   refine G_seq ?_
   refine G_region (l := [0, 1, 2, 3, 4, 5]) rfl ?_
   refine G_val rfl rfl rfl rfl (V_move rfl rfl) ?_
   refine G_val rfl rfl rfl rfl (V_eql rfl rfl rfl) ?_
   refine G_val rfl rfl rfl rfl (V_move rfl rfl) ?_
   refine G_splitD 72 rfl (fun hc6 => ?_) (fun hc6 => ?_)
   rotate_left
   · (first | (exact absurd rfl hc6) | (exact absurd hc6 (by decide)) | (exact absurd (by decide) hc6) | (exfalso; omega) | (exfalso; simp at hc6; done))
   refine G_call (L2 := [_, _, _, _]) rfl rfl rfl rfl rfl rfl Tryz.call7 (jl_live) [] [] rfl rfl ?_
   rintro v post ⟨rfl, rfl⟩
   show G _ _ _ [_, _, _, _] _
   refine G_val rfl rfl rfl rfl (V_pickT rfl rfl rfl) ?_
   refine G_val rfl rfl rfl rfl (V_assign rfl rfl) ?_
   refine G_done ?_
   refine G_ret (post := []) Tryz.func3 rfl (RVs_cons (RV_tmp rfl) RVs_nil) [] rfl ?_
   dsimp only [packed]
   exact ⟨rfl, rfl⟩
 ·
  refine G_region (l := [0, 1, 2, 3, 4, 5, 6]) rfl ?_
  refine G_val rfl rfl rfl rfl (V_move rfl rfl) ?_
  refine G_val rfl rfl rfl rfl (V_aindexAddr rfl Tryz.underlying22 infLawJournalActs_3 rfl rfl rfl (by omega) (by omega)) ?_
  refine G_val rfl rfl rfl rfl (V_load1 rfl rfl (mem_at 4 rfl) rfl Tryz.underlying3 rfl) ?_
  refine G_val rfl rfl rfl rfl (V_move rfl rfl) ?_
  refine G_call (L2 := [_]) rfl rfl rfl rfl rfl rfl Tryz.call10 (jl_format d n lb lcap lcs h R hp (by omega) s (by omega) hm) [0, 0, 0] [] rfl rfl ?_
  rintro v post ⟨rfl, k0, lc0, uw0, h0, hl0, hj0, rfl⟩
  show G _ _ _ [_, _, _, _] _
  refine G_call (L2 := [_, _, _, _]) rfl rfl rfl rfl rfl rfl Tryz.call9 (jl_num _) [] [] rfl rfl ?_
  rintro v post ⟨rfl, rfl⟩
  show G _ _ _ [_, _, _, _] _
  refine G_val rfl rfl rfl rfl (V_assign rfl rfl) ?_
  refine G_done ?_
  refine G_seq ?_
  refine G_seq ?_
  refine G_region (l := [0, 1, 2, 3, 4, 5]) rfl ?_
  refine G_val rfl rfl rfl rfl (V_aindexAddr rfl Tryz.underlying22 infLawJournalActs_3 rfl rfl rfl (by omega) (by omega)) ?_
  refine G_val rfl rfl rfl rfl (V_load1 rfl rfl (mem_at 4 rfl) rfl Tryz.underlying3 rfl) ?_
  refine G_val rfl rfl rfl rfl (V_aindexAddr rfl Tryz.underlying22 infLawJournalActs_3 rfl rfl rfl (by omega) (by omega)) ?_
  refine G_val rfl rfl rfl rfl (V_load1 rfl rfl (mem_at 4 rfl) rfl Tryz.underlying3 rfl) ?_
  refine G_call (L2 := [_, _, _, _]) rfl rfl rfl rfl rfl rfl Tryz.call11 ((rj_parts n (by omega) (R : Int) (by omega) (by omega)).weaken (fun v post h => by rw [hp, decide_eq_true rfl] at h; exact h)) [] [] rfl rfl ?_
  rintro v post ⟨rfl, rfl⟩
  show G _ _ _ [_, _, _, _] _
  refine G_val rfl rfl rfl rfl (V_not rfl rfl) ?_
  refine G_done ?_
  refine G_else rfl ?_
  refine G_skip ?_
  refine G_seq ?_
  refine G_seq ?_
  have hpp := partE_0.1 hp
  refine GH_start (Lq := [_]) (isq := [3]) (m := 6) mixedK rfl rfl ?_
  refine GH_take 0 rfl rfl rfl rfl (by kernel_rfl) (by kernel_rfl) (by kernel_rfl) (fun _ _ => (V_move rfl rfl)) ?_
  refine GH_take 1 rfl rfl rfl rfl (by kernel_rfl) (by kernel_rfl) (by kernel_rfl) (fun _ _ => (V_slen rfl rfl Tryz.underlying9 rfl)) ?_
  refine GH_take 3 rfl rfl rfl rfl (by kernel_rfl) (by kernel_rfl) (by kernel_rfl) (fun _ _ => (V_aindexAddr rfl Tryz.underlying22 infLawJournalActs_3 rfl rfl rfl (by omega) (by omega))) ?_
  refine GH_take 4 rfl rfl rfl rfl (by kernel_rfl) (by kernel_rfl) (by kernel_rfl) (fun _ _ => (V_load1 rfl rfl (mem_at 1 rfl) rfl Tryz.underlying3 rfl)) ?_
  refine GH_all [2] (by kernel_rfl) (by decide) ?_
  refine (And.intro ?_ trivial)
  ·
   refine GHop_call (L2 := [_, _, _, _]) rfl rfl rfl rfl rfl rfl Tryz.call12 (rsn_many s.length (by omega)) [] [] rfl rfl [3] (by rintro v post ⟨rfl, rfl⟩; exact ⟨_, rfl⟩) ?_
   rintro v post ⟨rfl, rfl⟩
   show GH _ _ _ _ _ _ _ [_, _, _, _] _
   refine GH_take 5 rfl rfl rfl rfl (by kernel_rfl) (by kernel_rfl) (by kernel_rfl) (fun _ _ => (V_gtr rfl rfl rfl)) ?_
   refine GH_done (by kernel_rfl) ?_
   refine G_ifD rfl (fun hc5 => ?_) (fun hc5 => ?_)
   · (first | (exact absurd rfl hc5) | (exact absurd hc5 (by decide)) | (exact absurd (by decide) hc5) | (exfalso; omega) | (exfalso; simp at hc5; done))
   refine G_skip ?_
   refine G_seq ?_
   refine G_region (l := [0, 1, 2, 3, 4, 5, 6, 7]) rfl ?_
   refine G_val rfl rfl rfl rfl (V_aindexAddr rfl Tryz.underlying22 infLawJournalActs_3 rfl rfl rfl (by omega) (by omega)) ?_
   refine G_val rfl rfl rfl rfl (V_load1 rfl rfl (mem_at 4 rfl) rfl Tryz.underlying3 rfl) ?_
   refine G_val rfl rfl rfl rfl (V_aindexAddr rfl Tryz.underlying22 infLawJournalActs_3 rfl rfl rfl (by omega) (by omega)) ?_
   refine G_val rfl rfl rfl rfl (V_load1 rfl rfl (mem_at 4 rfl) rfl Tryz.underlying3 rfl) ?_
   refine G_val rfl rfl rfl rfl (V_move rfl rfl) ?_
   refine G_call (L2 := [_, _, _, _]) rfl rfl rfl rfl rfl rfl Tryz.call13 (rj_new n R (by omega) (by omega) s) [] [] rfl rfl ?_
   rintro v post ⟨rfl, rfl⟩
   show G _ _ _ [_, _, _, _] _
   refine G_new rfl rfl rfl rfl (N_allocA rfl infLawJournalActs_36 rfl) (fun b10 => ?_)
   refine G_put (l1 := []) (L' := [_, _, _, _, _]) rfl rfl rfl rfl (P_storeA (s := 6) rfl rfl rfl (mem_at 0 rfl) (by rfl) infLawJournalActs_36 rfl (by rfl) (by simp [Value.oneCell', spCells, pCells, wCells, kCells, rgC, lgC, rdC, Sl.v, zeroF, foundC, jC, wC, acC])) rfl ?_
   refine G_done ?_
   refine G_seq ?_
   refine G_addNone (.cells #[] 9 (0, 0)) ?_
   refine G_region (l := [0, 1, 2, 3, 4, 5, 6, 7, 8, 9, 10, 11, 12]) rfl ?_
   refine G_val rfl rfl rfl rfl (V_move rfl rfl) ?_
   refine G_val rfl rfl rfl rfl (V_aindexAddr rfl Tryz.underlying22 infLawJournalActs_3 rfl rfl rfl (by omega) (by omega)) ?_
   refine G_val rfl rfl rfl rfl (V_load1 rfl rfl (mem_at 6 rfl) rfl Tryz.underlying3 rfl) ?_
   refine G_call (L2 := [_, _, _]) rfl rfl rfl rfl rfl rfl Tryz.call14 (jl_open d n lb lcap lc0 uw0 k0 h0 R (firstS s.length) s [] hj0 hl0 (by show 1 + 1 < 250; omega)) [2, 2, 2] [] rfl rfl ?_
   rintro v post ⟨k, lc, uw, j, g, u0, h, hl, hj, hu0, rfl, rfl⟩
   show G _ _ _ [_, _, _, _, _, _, _, _, _] _
   refine G_val rfl rfl rfl rfl (V_move rfl rfl) ?_
   refine G_val rfl rfl rfl rfl (V_extract rfl rfl rfl) ?_
   refine G_val rfl rfl rfl rfl (V_extract rfl rfl rfl) ?_
   refine G_val rfl rfl rfl rfl (V_extract rfl rfl rfl) ?_
   refine G_val rfl rfl rfl rfl (V_extract rfl rfl rfl) ?_
   refine G_val rfl rfl rfl rfl (V_assign rfl rfl) ?_
   refine G_val rfl rfl rfl rfl (V_assign rfl rfl) ?_
   refine G_val rfl rfl rfl rfl (V_assign rfl rfl) ?_
   refine G_val rfl rfl rfl rfl (V_assign rfl rfl) ?_
   refine G_done ?_
   refine G_seq ?_
   refine G_seq ?_
   refine G_region (l := [0, 1, 2, 3, 4, 5, 6, 7, 8, 9, 10, 11, 12, 13, 14, 15, 16]) rfl ?_
   refine G_val rfl rfl rfl rfl (V_move rfl rfl) ?_
   refine G_val rfl rfl rfl rfl (V_neq rfl rfl rfl) ?_
   refine G_val rfl rfl rfl rfl (V_move rfl rfl) ?_
   refine G_splitD 92 rfl (fun hc6 => ?_) (fun hc6 => ?_)
   · (first | (exact absurd rfl hc6) | (exact absurd hc6 (by decide)) | (exact absurd (by decide) hc6) | (exfalso; omega) | (exfalso; simp at hc6; done))
   refine G_val rfl rfl rfl rfl (V_move rfl rfl) ?_
   refine G_call (L2 := [_, _, _, _, _, _, _, _, _]) rfl rfl rfl rfl rfl rfl Tryz.call9 (jl_num _) [] [] rfl rfl ?_
   rintro v post ⟨rfl, rfl⟩
   show G _ _ _ [_, _, _, _, _, _, _, _, _] _
   refine G_val rfl rfl rfl rfl (V_neq rfl rfl rfl) ?_
   refine G_val rfl rfl rfl rfl (V_pickF rfl rfl rfl) ?_
   refine G_val rfl rfl rfl rfl (V_move rfl rfl) ?_
   refine G_splitD 97 rfl (fun hc7 => ?_) (fun hc7 => ?_)
   · (first | (exact absurd rfl hc7) | (exact absurd hc7 (by decide)) | (exact absurd (by decide) hc7) | (exfalso; omega) | (exfalso; simp at hc7; done))
   refine G_val rfl rfl rfl rfl (V_move rfl rfl) ?_
   refine G_val rfl rfl rfl rfl (V_move rfl rfl) ?_
   refine G_val rfl rfl rfl rfl (V_sneq rfl rfl rfl) ?_
   refine G_val rfl rfl rfl rfl (V_pickF rfl rfl rfl) ?_
   refine G_val rfl rfl rfl rfl (V_move rfl rfl) ?_
   refine G_splitD 102 rfl (fun hc8 => ?_) (fun hc8 => ?_)
   · (first | (exact absurd rfl hc8) | (exact absurd hc8 (by decide)) | (exact absurd (by decide) hc8) | (exfalso; omega) | (exfalso; simp at hc8; done))
   refine G_val rfl rfl rfl rfl (V_move rfl rfl) ?_
   refine G_val rfl rfl rfl rfl (V_len rfl rfl Tryz.underlying34 rfl) ?_
   refine G_val rfl rfl rfl rfl (V_neq rfl rfl rfl) ?_
   refine G_val rfl rfl rfl rfl (V_pickF rfl rfl rfl) ?_
   refine G_done ?_
   refine G_ifD rfl (fun hc9 => ?_) (fun hc9 => ?_)
   · (first | (exact absurd rfl hc9) | (exact absurd hc9 (by decide)) | (exact absurd (by decide) hc9) | (exfalso; omega) | (exfalso; simp at hc9; done))
   refine G_skip ?_
   refine G_seq ?_
   refine G_seq ?_
   refine G_region (l := [0]) rfl ?_
   refine G_val rfl rfl rfl rfl (V_assign rfl rfl) ?_
   refine G_done ?_
   refine G_block ?_
   refine G_sub ?he14 [8, 0, 0, 0, 4, 0, 0, 1] ?hl14 (G_loop (X := Nat × Dk × Array Value × Sl × Sp × List UInt8 × List (List UInt8) × Nat × Nat × Nat × Sl) (fun y_ => match y_ with | ⟨i, k, lc, uw, sp, tx, rc, a, j, g, u⟩ => i ≤ l.length ∧ DkAt k n lb lc lcap uw ∧ Lively k ∧ JJ n R k sp tx rc a ∧ sp.seq ≤ 2 + i ∧ Own 1 u (rc.map strC) rc.length) (fun y_ => match y_ with | ⟨i, k, lc, uw, sp, tx, rc, a, j, g, u⟩ => l.length - i) (fun y_ => match y_ with | ⟨i, k, lc, uw, sp, tx, rc, a, j, g, u⟩ => [(2, sv o1 p1 l.length q1), (3, .pointer (some ⟨b3, 0, none⟩)), (7, .pointer (some ⟨d, 0, none⟩)), (10, .pointer (some ⟨b10, 0, none⟩)), (11, .pointer (some ⟨j, 0, none⟩)), (15, .int .i64 (i : Int))]) (fun y_ => match y_ with | ⟨i, k, lc, uw, sp, tx, rc, a, j, g, u⟩ => [(some b3, .cells #[.int .i64 (n : Int), .int .i64 (R : Int)] 22 (0, 0)), (some d, .cells #[.slice (some ⟨lb, 0, none⟩) n lcap, uw.v k.W.length, .int .i64 k.fuse, .bool k.dead] 67 (0, 0)), (some lb, .cells lc 9 (0, 0)), (uw.ob, .cells uw.cs 90 uw.fz), (some b10, .cells (wC tx (u.v rc.length) (a : Int) ((n - (2 + 2 * R) : Nat) : Int) (R : Int) (sp.seq : Int)).toArray 36 (0, 0)), (some j, .cells (jC d (R : Int) sp g).toArray 86 (0, 0)), (some g, .cells (lgC d ((2 + 2 * R : Nat) : Int) ((n - (2 + 2 * R) : Nat) : Int) sp.epoch a).toArray 117 (0, 0)), (u.ob, .cells u.cs 9 u.fz)]) ?round14 (0, k, lc, uw, nextS (firstS s.length), s, [], 0, j, g, slNil) ?h014)
   case he14 => exact (And.intro rfl (And.intro rfl (And.intro rfl (And.intro rfl (And.intro rfl (And.intro rfl trivial))))))
   case hl14 => exact ⟨_, rfl⟩
   case h014 => exact ⟨Nat.zero_le _, h, hl, hj, Nat.le_refl _, own_nil 1⟩
   case round14 =>
    intro y_ hJ ih
    try dsimp only at hJ ih
    obtain ⟨i, k, lc, uw, sp, tx, rc, a, j, g, u⟩ := y_
    try dsimp only at hJ ih
    obtain ⟨hi, h, hl, hj, hsq, hu⟩ := hJ
    show G _ _ [(2, sv o1 p1 l.length q1), (3, .pointer (some ⟨b3, 0, none⟩)), (7, .pointer (some ⟨d, 0, none⟩)), (10, .pointer (some ⟨b10, 0, none⟩)), (11, .pointer (some ⟨j, 0, none⟩)), (15, .int .i64 (i : Int))] [(some b3, .cells #[.int .i64 (n : Int), .int .i64 (R : Int)] 22 (0, 0)), (some d, .cells #[.slice (some ⟨lb, 0, none⟩) n lcap, uw.v k.W.length, .int .i64 k.fuse, .bool k.dead] 67 (0, 0)), (some lb, .cells lc 9 (0, 0)), (uw.ob, .cells uw.cs 90 uw.fz), (some b10, .cells (wC tx (u.v rc.length) (a : Int) ((n - (2 + 2 * R) : Nat) : Int) (R : Int) (sp.seq : Int)).toArray 36 (0, 0)), (some j, .cells (jC d (R : Int) sp g).toArray 86 (0, 0)), (some g, .cells (lgC d ((2 + 2 * R : Nat) : Int) ((n - (2 + 2 * R) : Nat) : Int) sp.epoch a).toArray 117 (0, 0)), (u.ob, .cells u.cs 9 u.fz)] _
    refine G_seq ?_
    refine G_seq ?_
    refine G_region (l := [0, 1, 2, 3]) rfl ?_
    refine G_val rfl rfl rfl rfl (V_move rfl rfl) ?_
    refine G_val rfl rfl rfl rfl (V_move rfl rfl) ?_
    refine G_val rfl rfl rfl rfl (V_len rfl rfl Tryz.underlying23 rfl) ?_
    refine G_val rfl rfl rfl rfl (V_lss rfl rfl rfl) ?_
    refine G_done ?_
    refine G_ifD rfl (fun hc10 => ?_) (fun hc10 => ?_)
    ·
     refine G_skip ?_
     refine G_seq ?_
     refine G_block ?_
     refine G_seq ?_
     obtain ⟨x, hx⟩ := getI (show i < l.length by omega)
     obtain ⟨bo1, rfl⟩ := hs.isSome (by omega)
     have hxl := hall x (List.mem_of_getElem? hx)
     obtain ⟨b_1, b_2, b_3, b_4, b_5, b_6, b_7, b_8, b_9⟩ := hj.bd
     have hrcl := hj.rcl
     refine G_region (l := [0, 1, 2, 3, 4, 5]) rfl ?_
     refine G_val rfl rfl rfl rfl (V_move rfl rfl) ?_
     refine G_val rfl rfl rfl rfl (V_move rfl rfl) ?_
     refine G_val rfl rfl rfl rfl (V_indexAddrN (s := 2) rfl Tryz.underlying23 infLawJournalActs_42 rfl rfl rfl rfl (by omega)) ?_
     refine G_val rfl rfl rfl rfl (V_loadA (s := 2) (vs := (acC x).toArray) rfl rfl (mem_at 0 rfl) Tryz.underlying42 rfl infLawJournalActs_42 rfl (hs.elem ac_len hx) (by rfl)) ?_
     refine G_new rfl rfl rfl rfl (N_allocA rfl infLawJournalActs_42 rfl) (fun b16 => ?_)
     refine G_put (l1 := []) (L' := [_, _, _, _, _, _, _, _, _]) rfl rfl rfl rfl (P_storeA (s := 2) rfl rfl rfl (mem_at 0 rfl) (by rfl) infLawJournalActs_42 rfl (by rfl) (by simp [Value.oneCell', spCells, pCells, wCells, kCells, rgC, lgC, rdC, Sl.v, zeroF, foundC, jC, wC, acC])) rfl ?_
     refine G_done ?_
     refine G_seq ?_
     refine G_region (l := [0]) rfl ?_
     refine G_val rfl rfl rfl rfl (V_assign rfl rfl) ?_
     refine G_done ?_
     refine G_seq ?_
     refine G_region (l := [0, 1, 2]) rfl ?_
     refine G_val rfl rfl rfl rfl (V_loadW (s := 6) rfl rfl (mem_at 6 rfl) Tryz.underlying36 rfl infLawJournalActs_36 rfl (by rfl)) ?_
     refine G_new rfl rfl rfl rfl (N_allocA rfl infLawJournalActs_36 rfl) (fun b18 => ?_)
     refine G_put (l1 := []) (L' := [_, _, _, _, _, _, _, _, _, _]) rfl rfl rfl rfl (P_storeA (s := 6) rfl rfl rfl (mem_at 0 rfl) (by rfl) infLawJournalActs_36 rfl (by rfl) (by simp [Value.oneCell', spCells, pCells, wCells, kCells, rgC, lgC, rdC, Sl.v, zeroF, foundC, jC, wC, acC])) rfl ?_
     refine G_done ?_
     refine G_seq ?_
     refine G_seq ?_
     refine G_region (l := [0, 1]) rfl ?_
     refine G_val rfl rfl rfl rfl (V_fieldAddr (fo := 0) rfl Tryz.underlying42 rfl infLawJournalActs_3 rfl rfl rfl) ?_
     refine G_val rfl rfl rfl rfl (V_load1 rfl rfl (mem_at 2 rfl) rfl Tryz.underlying3 rfl) ?_
     refine G_done ?_
     refine G_block ?_
     refine G_seq ?_
     refine G_region (l := [0, 1]) rfl ?_
     refine G_val rfl rfl rfl rfl (V_eql rfl rfl rfl) ?_
     refine G_val rfl rfl rfl rfl (V_assign rfl rfl) ?_
     refine G_done ?_
     refine G_ifD rfl (fun hc11 => ?_) (fun hc11 => ?_)
     ·
      refine G_seq ?_
      rcases add3 (((n - (2 + 2 * R) : Nat) : Int) - (a : Int)) x.2 with hx1 | hx1 | hx1
      ·
       refine G_region (l := [0, 1, 2, 3, 4, 5, 6, 7, 8]) rfl ?_
       refine G_val rfl rfl rfl rfl (V_loadW (s := 6) rfl rfl (mem_at 7 rfl) Tryz.underlying36 rfl infLawJournalActs_36 rfl (by rfl)) ?_
       refine G_val rfl rfl rfl rfl (V_fieldAddr (fo := 1) rfl Tryz.underlying42 rfl infLawJournalActs_9 rfl rfl rfl) ?_
       refine G_val rfl rfl rfl rfl (V_load1 rfl rfl (mem_at 2 rfl) rfl Tryz.underlying9 rfl) ?_
       refine G_call (L2 := [_, _, _, _, _, _, _, _, _, _]) rfl rfl rfl rfl rfl rfl Tryz.call15 (rj_add_long n R a (by omega) (by omega) tx rc u (sp.seq : Int) (by omega) x.2 (by omega) hx1.1) [] [] rfl rfl ?_
       rintro v post ⟨rfl, rfl⟩
       show G _ _ _ [_, _, _, _, _, _, _, _, _, _] _
       refine G_val rfl rfl rfl rfl (V_move rfl rfl) ?_
       refine G_val rfl rfl rfl rfl (V_extract rfl rfl rfl) ?_
       refine G_val rfl rfl rfl rfl (V_extract rfl rfl rfl) ?_
       refine G_put (l1 := []) (L' := [_, _, _, _, _, _, _, _, _, _]) rfl rfl rfl rfl (P_storeA (s := 6) rfl rfl rfl (mem_at 0 rfl) (by rfl) infLawJournalActs_36 rfl (by rfl) (by simp [Value.oneCell', spCells, pCells, wCells, kCells, rgC, lgC, rdC, Sl.v, zeroF, foundC, jC, wC, acC])) rfl ?_
       refine G_val rfl rfl rfl rfl (V_assign rfl rfl) ?_
       refine G_done ?_
       refine G_seq ?_
       refine G_region (l := [0, 1, 2, 3, 4, 5, 6, 7, 8, 9, 10, 11, 12, 13, 14, 15]) rfl ?_
       refine G_val rfl rfl rfl rfl (V_move rfl rfl) ?_
       refine G_val rfl rfl rfl rfl (V_fieldAddr (fo := 1) rfl Tryz.underlying42 rfl infLawJournalActs_9 rfl rfl rfl) ?_
       refine G_val rfl rfl rfl rfl (V_load1 rfl rfl (mem_at 2 rfl) rfl Tryz.underlying9 rfl) ?_
       refine G_call (L2 := [_, _, _, _, _, _, _, _, _, _]) rfl rfl rfl rfl rfl rfl Tryz.call16 ((jn_fits d n R sp a j g x.2 (by omega) (by omega) (by omega)).weaken (fun v post h => by rw [decide_eq_false hx1.2.1] at h; exact h)) [] [8, 9] rfl rfl ?_
       rintro v post ⟨rfl, rfl⟩
       show G _ _ _ [_, _, _, _, _, _, _, _, _, _] _
       refine G_val rfl rfl rfl rfl (V_move rfl rfl) ?_
       refine G_val rfl rfl rfl rfl (V_eql rfl rfl rfl) ?_
       refine G_val rfl rfl rfl rfl (V_bneq rfl Tryz.underlying4 rfl rfl) ?_
       refine G_val rfl rfl rfl rfl (V_move rfl rfl) ?_
       refine G_splitD 166 rfl (fun hc12 => ?_) (fun hc12 => ?_)
       · (first | (exact absurd rfl hc12) | (exact absurd hc12 (by decide)) | (exact absurd (by decide) hc12) | (exfalso; omega) | (exfalso; simp at hc12; done))
       refine G_val rfl rfl rfl rfl (V_move rfl rfl) ?_
       refine G_val rfl rfl rfl rfl (V_fieldAddr (fo := 1) rfl Tryz.underlying42 rfl infLawJournalActs_9 rfl rfl rfl) ?_
       refine G_val rfl rfl rfl rfl (V_load1 rfl rfl (mem_at 2 rfl) rfl Tryz.underlying9 rfl) ?_
       refine G_call (L2 := [_, _, _, _, _, _]) rfl rfl rfl rfl rfl rfl Tryz.call17 (jl_add_no d n lb lcap lc uw k h R sp tx rc a j g hj x.2 (by omega) 4 hx1.2.2 (by decide)) [8, 3, 3, 3] [5] rfl rfl ?_
       rintro v post ⟨rfl, lc1, uw1, h1, rfl⟩
       show G _ _ _ [_, _, _, _, _, _, _, _, _, _] _
       refine G_call (L2 := [_, _, _, _, _, _, _, _, _, _]) rfl rfl rfl rfl rfl rfl Tryz.call9 (jl_num _) [] [] rfl rfl ?_
       rintro v post ⟨rfl, rfl⟩
       show G _ _ _ [_, _, _, _, _, _, _, _, _, _] _
       refine G_val rfl rfl rfl rfl (V_move rfl rfl) ?_
       refine G_val rfl rfl rfl rfl (V_neq rfl rfl rfl) ?_
       refine G_val rfl rfl rfl rfl (V_pickF rfl rfl rfl) ?_
       refine G_done ?_
       refine G_ifD rfl (fun hc13 => ?_) (fun hc13 => ?_)
       · (first | (exact absurd rfl hc13) | (exact absurd hc13 (by decide)) | (exact absurd (by decide) hc13) | (exfalso; omega) | (exfalso; simp at hc13; done))
       refine G_skip ?_
       refine G_inBlock ?_
       refine G_seq ?_
       refine G_region (l := [0, 1]) rfl ?_
       refine G_val rfl rfl rfl rfl (V_loadW (s := 6) rfl rfl (mem_at 5 rfl) Tryz.underlying36 rfl infLawJournalActs_36 rfl (by rfl)) ?_
       refine G_put (l1 := [_, _, _, _, _, _, _]) (L' := [_, _, _, _, _, _, _, _, _, _]) rfl rfl rfl rfl (P_storeA (s := 6) rfl rfl rfl (mem_at 7 rfl) (by rfl) infLawJournalActs_36 rfl (by rfl) (by simp [Value.oneCell', spCells, pCells, wCells, kCells, rgC, lgC, rdC, Sl.v, zeroF, foundC, jC, wC, acC])) rfl ?_
       refine G_done ?_
       refine G_seq ?_
       try have hq1 := hj1.a.2
       have hqa : (anewS sp x.2.length).epoch = sp.epoch + 1 := rfl
       have hqn : (nextS sp).epoch = sp.epoch + 1 := rfl
       have hqa2 : (anewS sp x.2.length).seq = sp.seq + 1 := rfl
       have hqn2 : (nextS sp).seq = sp.seq + 1 := rfl
       refine GH_start (Lq := [_]) (isq := [7]) (m := 22) mixedK rfl rfl ?_
       refine GH_take 0 rfl rfl rfl rfl (by kernel_rfl) (by kernel_rfl) (by kernel_rfl) (fun _ _ => (V_move rfl rfl)) ?_
       refine GH_take 1 rfl rfl rfl rfl (by kernel_rfl) (by kernel_rfl) (by kernel_rfl) (fun _ _ => (V_loadW (s := 6) rfl rfl (mem_at 1 rfl) Tryz.underlying36 rfl infLawJournalActs_36 rfl (by rfl))) ?_
       refine GH_all [2] (by kernel_rfl) (by decide) ?_
       refine (And.intro ?_ trivial)
       ·
        refine GHop_call (L2 := [_, _, _, _, _, _, _, _, _, _]) rfl rfl rfl rfl rfl rfl Tryz.call21 ((jl_has d n lb lcap lc1 uw1 k h1 R sp tx rc hj.jd tx rc u hu _ _ _).weaken (fun v post h => by rw [decide_eq_true ⟨rfl, rfl⟩] at h; exact h)) [] [2, 3, 4, 10] rfl rfl [7] (by rintro v post ⟨rfl, rfl⟩; exact ⟨_, rfl⟩) ?_
        rintro v post ⟨rfl, rfl⟩
        show GH _ _ _ _ _ _ _ [_, _, _, _, _, _, _, _, _, _] _
        refine GH_take 3 rfl rfl rfl rfl (by kernel_rfl) (by kernel_rfl) (by kernel_rfl) (fun _ _ => (V_not rfl rfl)) ?_
        refine GH_take 4 rfl rfl rfl rfl (by kernel_rfl) (by kernel_rfl) (by kernel_rfl) (fun _ _ => (V_move rfl rfl)) ?_
        refine GH_take 5 rfl rfl rfl rfl (by kernel_rfl) (by kernel_rfl) (by kernel_rfl) (fun _ _ => (V_move rfl rfl)) ?_
        refine GH_take 7 rfl rfl rfl rfl (by kernel_rfl) (by kernel_rfl) (by kernel_rfl) (fun _ _ => (V_fieldAddr (fo := 3) rfl Tryz.underlying36 rfl infLawJournalActs_3 rfl rfl rfl)) ?_
        refine GH_take 8 rfl rfl rfl rfl (by kernel_rfl) (by kernel_rfl) (by kernel_rfl) (fun _ _ => (V_load1 rfl rfl (mem_at 1 rfl) rfl Tryz.underlying3 rfl)) ?_
        refine GH_take 9 rfl rfl rfl rfl (by kernel_rfl) (by kernel_rfl) (by kernel_rfl) (fun _ _ => (V_fieldAddr (fo := 2) rfl Tryz.underlying36 rfl infLawJournalActs_3 rfl rfl rfl)) ?_
        refine GH_take 10 rfl rfl rfl rfl (by kernel_rfl) (by kernel_rfl) (by kernel_rfl) (fun _ _ => (V_load1 rfl rfl (mem_at 1 rfl) rfl Tryz.underlying3 rfl)) ?_
        refine GH_take 11 rfl rfl rfl rfl (by kernel_rfl) (by kernel_rfl) (by kernel_rfl) (fun _ _ => ((V_sub rfl rfl rfl).int (wrap_i64 (by omega)))) ?_
        refine GH_all [6] (by kernel_rfl) (by decide) ?_
        refine (And.intro ?_ trivial)
        ·
         refine GHop_call (L2 := [_, _, _, _, _, _, _, _, _, _]) rfl rfl rfl rfl rfl rfl Tryz.call22 (jn_Left d n R sp a j g (by omega) (by omega)) [] [9, 1] rfl rfl [7] (by rintro v post ⟨rfl, rfl⟩; exact ⟨_, rfl⟩) ?_
         rintro v post ⟨rfl, rfl⟩
         show GH _ _ _ _ _ _ _ [_, _, _, _, _, _, _, _, _, _] _
         refine GH_take 12 rfl rfl rfl rfl (by kernel_rfl) (by kernel_rfl) (by kernel_rfl) (fun _ _ => (V_neq rfl rfl rfl)) ?_
         refine GH_take 13 rfl rfl rfl rfl (by kernel_rfl) (by kernel_rfl) (by kernel_rfl) (fun _ _ => (V_pickF rfl rfl rfl)) ?_
         refine GH_take 14 rfl rfl rfl rfl (by kernel_rfl) (by kernel_rfl) (by kernel_rfl) (fun _ _ => (V_move rfl rfl)) ?_
         refine GH_splitD 206 rfl (fun hc14 => ?_) (fun hc14 => ?_)
         · (first | (exact absurd rfl hc14) | (exact absurd hc14 (by decide)) | (exact absurd (by decide) hc14) | (exfalso; omega) | (exfalso; simp at hc14; done))
         refine GH_take 15 rfl rfl rfl rfl (by kernel_rfl) (by kernel_rfl) (by kernel_rfl) (fun _ _ => (V_move rfl rfl)) ?_
         refine GH_take 17 rfl rfl rfl rfl (by kernel_rfl) (by kernel_rfl) (by kernel_rfl) (fun _ _ => (V_fieldAddr (fo := 5) rfl Tryz.underlying36 rfl infLawJournalActs_3 rfl rfl rfl)) ?_
         refine GH_take 18 rfl rfl rfl rfl (by kernel_rfl) (by kernel_rfl) (by kernel_rfl) (fun _ _ => (V_load1 rfl rfl (mem_at 1 rfl) rfl Tryz.underlying3 rfl)) ?_
         refine GH_take 19 rfl rfl rfl rfl (by kernel_rfl) (by kernel_rfl) (by kernel_rfl) (fun _ _ => ((V_conv rfl rfl Tryz.underlying3 Tryz.underlying50).int (wrap_u32 (by omega)))) ?_
         refine GH_all [16] (by kernel_rfl) (by decide) ?_
         refine (And.intro ?_ trivial)
         ·
          refine GHop_call (L2 := [_, _, _, _, _, _, _, _, _, _]) rfl rfl rfl rfl rfl rfl Tryz.call23 (jn_Epoch d R sp j g) [] [9] rfl rfl [7] (by rintro v post ⟨rfl, rfl⟩; exact ⟨_, rfl⟩) ?_
          rintro v post ⟨rfl, rfl⟩
          show GH _ _ _ _ _ _ _ [_, _, _, _, _, _, _, _, _, _] _
          refine GH_take 20 rfl rfl rfl rfl (by kernel_rfl) (by kernel_rfl) (by kernel_rfl) (fun _ _ => (V_neq rfl rfl rfl)) ?_
          refine GH_take 21 rfl rfl rfl rfl (by kernel_rfl) (by kernel_rfl) (by kernel_rfl) (fun _ _ => (V_pickF rfl rfl rfl)) ?_
          refine GH_done (by kernel_rfl) ?_
          refine G_ifD rfl (fun hc15 => ?_) (fun hc15 => ?_)
          · (first | (exact absurd rfl hc15) | (exact absurd hc15 (by decide)) | (exact absurd (by decide) hc15) | (exfalso; omega) | (exfalso; simp at hc15; done))
          refine G_skip ?_
          refine G_inBlock ?_
          refine G_region (l := [0, 1, 2]) rfl ?_
          refine G_val rfl rfl rfl rfl (V_move rfl rfl) ?_
          refine G_val rfl rfl rfl rfl ((V_add rfl rfl rfl).int (wrap_i64 (by omega))) ?_
          refine G_val rfl rfl rfl rfl (V_assign rfl rfl) ?_
          refine G_done ?_
          refine G_sub ?_ [6, 1, 1, 1, 3, 3, 0, 2] ?_ (ih (i + 1, k, lc1, uw1, sp, tx, rc, a, j, g, u) ?_ ?_)
          · (refine (And.intro ?_ (And.intro ?_ (And.intro ?_ (And.intro ?_ (And.intro ?_ (And.intro ?_ trivial)))))) <;> first | rfl | exact slot_int (by omega) | exact slot_int (by simp))
          · exact ⟨_, rfl⟩
          · exact ⟨by omega, h1, hl, hj, by first | (show sp.seq ≤ 2 + (i + 1); omega) | (show sp.seq + 1 ≤ 2 + (i + 1); omega), hu⟩
          · (first | omega | (dsimp only; omega))
      ·
       refine G_region (l := [0, 1, 2, 3, 4, 5, 6, 7, 8]) rfl ?_
       refine G_val rfl rfl rfl rfl (V_loadW (s := 6) rfl rfl (mem_at 7 rfl) Tryz.underlying36 rfl infLawJournalActs_36 rfl (by rfl)) ?_
       refine G_val rfl rfl rfl rfl (V_fieldAddr (fo := 1) rfl Tryz.underlying42 rfl infLawJournalActs_9 rfl rfl rfl) ?_
       refine G_val rfl rfl rfl rfl (V_load1 rfl rfl (mem_at 2 rfl) rfl Tryz.underlying9 rfl) ?_
       refine G_call (L2 := [_, _, _, _, _, _, _, _, _, _]) rfl rfl rfl rfl rfl rfl Tryz.call15 (rj_add_full n R a (by omega) (by omega) tx rc u (sp.seq : Int) (by omega) x.2 (by omega) hx1.1 hx1.2.1) [] [] rfl rfl ?_
       rintro v post ⟨rfl, rfl⟩
       show G _ _ _ [_, _, _, _, _, _, _, _, _, _] _
       refine G_val rfl rfl rfl rfl (V_move rfl rfl) ?_
       refine G_val rfl rfl rfl rfl (V_extract rfl rfl rfl) ?_
       refine G_val rfl rfl rfl rfl (V_extract rfl rfl rfl) ?_
       refine G_put (l1 := []) (L' := [_, _, _, _, _, _, _, _, _, _]) rfl rfl rfl rfl (P_storeA (s := 6) rfl rfl rfl (mem_at 0 rfl) (by rfl) infLawJournalActs_36 rfl (by rfl) (by simp [Value.oneCell', spCells, pCells, wCells, kCells, rgC, lgC, rdC, Sl.v, zeroF, foundC, jC, wC, acC])) rfl ?_
       refine G_val rfl rfl rfl rfl (V_assign rfl rfl) ?_
       refine G_done ?_
       refine G_seq ?_
       refine G_region (l := [0, 1, 2, 3, 4, 5, 6, 7, 8, 9, 10, 11, 12, 13, 14, 15]) rfl ?_
       refine G_val rfl rfl rfl rfl (V_move rfl rfl) ?_
       refine G_val rfl rfl rfl rfl (V_fieldAddr (fo := 1) rfl Tryz.underlying42 rfl infLawJournalActs_9 rfl rfl rfl) ?_
       refine G_val rfl rfl rfl rfl (V_load1 rfl rfl (mem_at 2 rfl) rfl Tryz.underlying9 rfl) ?_
       refine G_call (L2 := [_, _, _, _, _, _, _, _, _, _]) rfl rfl rfl rfl rfl rfl Tryz.call16 ((jn_fits d n R sp a j g x.2 (by omega) (by omega) (by omega)).weaken (fun v post h => by rw [decide_eq_false hx1.2.1] at h; exact h)) [] [8, 9] rfl rfl ?_
       rintro v post ⟨rfl, rfl⟩
       show G _ _ _ [_, _, _, _, _, _, _, _, _, _] _
       refine G_val rfl rfl rfl rfl (V_move rfl rfl) ?_
       refine G_val rfl rfl rfl rfl (V_eql rfl rfl rfl) ?_
       refine G_val rfl rfl rfl rfl (V_bneq rfl Tryz.underlying4 rfl rfl) ?_
       refine G_val rfl rfl rfl rfl (V_move rfl rfl) ?_
       refine G_splitD 166 rfl (fun hc12 => ?_) (fun hc12 => ?_)
       · (first | (exact absurd rfl hc12) | (exact absurd hc12 (by decide)) | (exact absurd (by decide) hc12) | (exfalso; omega) | (exfalso; simp at hc12; done))
       refine G_val rfl rfl rfl rfl (V_move rfl rfl) ?_
       refine G_val rfl rfl rfl rfl (V_fieldAddr (fo := 1) rfl Tryz.underlying42 rfl infLawJournalActs_9 rfl rfl rfl) ?_
       refine G_val rfl rfl rfl rfl (V_load1 rfl rfl (mem_at 2 rfl) rfl Tryz.underlying9 rfl) ?_
       refine G_call (L2 := [_, _, _, _, _, _]) rfl rfl rfl rfl rfl rfl Tryz.call17 (jl_add_no d n lb lcap lc uw k h R sp tx rc a j g hj x.2 (by omega) 17 hx1.2.2 (by decide)) [8, 3, 3, 3] [5] rfl rfl ?_
       rintro v post ⟨rfl, lc1, uw1, h1, rfl⟩
       show G _ _ _ [_, _, _, _, _, _, _, _, _, _] _
       refine G_call (L2 := [_, _, _, _, _, _, _, _, _, _]) rfl rfl rfl rfl rfl rfl Tryz.call9 (jl_num _) [] [] rfl rfl ?_
       rintro v post ⟨rfl, rfl⟩
       show G _ _ _ [_, _, _, _, _, _, _, _, _, _] _
       refine G_val rfl rfl rfl rfl (V_move rfl rfl) ?_
       refine G_val rfl rfl rfl rfl (V_neq rfl rfl rfl) ?_
       refine G_val rfl rfl rfl rfl (V_pickF rfl rfl rfl) ?_
       refine G_done ?_
       refine G_ifD rfl (fun hc13 => ?_) (fun hc13 => ?_)
       · (first | (exact absurd rfl hc13) | (exact absurd hc13 (by decide)) | (exact absurd (by decide) hc13) | (exfalso; omega) | (exfalso; simp at hc13; done))
       refine G_skip ?_
       refine G_inBlock ?_
       refine G_seq ?_
       refine G_region (l := [0, 1]) rfl ?_
       refine G_val rfl rfl rfl rfl (V_loadW (s := 6) rfl rfl (mem_at 5 rfl) Tryz.underlying36 rfl infLawJournalActs_36 rfl (by rfl)) ?_
       refine G_put (l1 := [_, _, _, _, _, _, _]) (L' := [_, _, _, _, _, _, _, _, _, _]) rfl rfl rfl rfl (P_storeA (s := 6) rfl rfl rfl (mem_at 7 rfl) (by rfl) infLawJournalActs_36 rfl (by rfl) (by simp [Value.oneCell', spCells, pCells, wCells, kCells, rgC, lgC, rdC, Sl.v, zeroF, foundC, jC, wC, acC])) rfl ?_
       refine G_done ?_
       refine G_seq ?_
       try have hq1 := hj1.a.2
       have hqa : (anewS sp x.2.length).epoch = sp.epoch + 1 := rfl
       have hqn : (nextS sp).epoch = sp.epoch + 1 := rfl
       have hqa2 : (anewS sp x.2.length).seq = sp.seq + 1 := rfl
       have hqn2 : (nextS sp).seq = sp.seq + 1 := rfl
       refine GH_start (Lq := [_]) (isq := [7]) (m := 22) mixedK rfl rfl ?_
       refine GH_take 0 rfl rfl rfl rfl (by kernel_rfl) (by kernel_rfl) (by kernel_rfl) (fun _ _ => (V_move rfl rfl)) ?_
       refine GH_take 1 rfl rfl rfl rfl (by kernel_rfl) (by kernel_rfl) (by kernel_rfl) (fun _ _ => (V_loadW (s := 6) rfl rfl (mem_at 1 rfl) Tryz.underlying36 rfl infLawJournalActs_36 rfl (by rfl))) ?_
       refine GH_all [2] (by kernel_rfl) (by decide) ?_
       refine (And.intro ?_ trivial)
       ·
        refine GHop_call (L2 := [_, _, _, _, _, _, _, _, _, _]) rfl rfl rfl rfl rfl rfl Tryz.call21 ((jl_has d n lb lcap lc1 uw1 k h1 R sp tx rc hj.jd tx rc u hu _ _ _).weaken (fun v post h => by rw [decide_eq_true ⟨rfl, rfl⟩] at h; exact h)) [] [2, 3, 4, 10] rfl rfl [7] (by rintro v post ⟨rfl, rfl⟩; exact ⟨_, rfl⟩) ?_
        rintro v post ⟨rfl, rfl⟩
        show GH _ _ _ _ _ _ _ [_, _, _, _, _, _, _, _, _, _] _
        refine GH_take 3 rfl rfl rfl rfl (by kernel_rfl) (by kernel_rfl) (by kernel_rfl) (fun _ _ => (V_not rfl rfl)) ?_
        refine GH_take 4 rfl rfl rfl rfl (by kernel_rfl) (by kernel_rfl) (by kernel_rfl) (fun _ _ => (V_move rfl rfl)) ?_
        refine GH_take 5 rfl rfl rfl rfl (by kernel_rfl) (by kernel_rfl) (by kernel_rfl) (fun _ _ => (V_move rfl rfl)) ?_
        refine GH_take 7 rfl rfl rfl rfl (by kernel_rfl) (by kernel_rfl) (by kernel_rfl) (fun _ _ => (V_fieldAddr (fo := 3) rfl Tryz.underlying36 rfl infLawJournalActs_3 rfl rfl rfl)) ?_
        refine GH_take 8 rfl rfl rfl rfl (by kernel_rfl) (by kernel_rfl) (by kernel_rfl) (fun _ _ => (V_load1 rfl rfl (mem_at 1 rfl) rfl Tryz.underlying3 rfl)) ?_
        refine GH_take 9 rfl rfl rfl rfl (by kernel_rfl) (by kernel_rfl) (by kernel_rfl) (fun _ _ => (V_fieldAddr (fo := 2) rfl Tryz.underlying36 rfl infLawJournalActs_3 rfl rfl rfl)) ?_
        refine GH_take 10 rfl rfl rfl rfl (by kernel_rfl) (by kernel_rfl) (by kernel_rfl) (fun _ _ => (V_load1 rfl rfl (mem_at 1 rfl) rfl Tryz.underlying3 rfl)) ?_
        refine GH_take 11 rfl rfl rfl rfl (by kernel_rfl) (by kernel_rfl) (by kernel_rfl) (fun _ _ => ((V_sub rfl rfl rfl).int (wrap_i64 (by omega)))) ?_
        refine GH_all [6] (by kernel_rfl) (by decide) ?_
        refine (And.intro ?_ trivial)
        ·
         refine GHop_call (L2 := [_, _, _, _, _, _, _, _, _, _]) rfl rfl rfl rfl rfl rfl Tryz.call22 (jn_Left d n R sp a j g (by omega) (by omega)) [] [9, 1] rfl rfl [7] (by rintro v post ⟨rfl, rfl⟩; exact ⟨_, rfl⟩) ?_
         rintro v post ⟨rfl, rfl⟩
         show GH _ _ _ _ _ _ _ [_, _, _, _, _, _, _, _, _, _] _
         refine GH_take 12 rfl rfl rfl rfl (by kernel_rfl) (by kernel_rfl) (by kernel_rfl) (fun _ _ => (V_neq rfl rfl rfl)) ?_
         refine GH_take 13 rfl rfl rfl rfl (by kernel_rfl) (by kernel_rfl) (by kernel_rfl) (fun _ _ => (V_pickF rfl rfl rfl)) ?_
         refine GH_take 14 rfl rfl rfl rfl (by kernel_rfl) (by kernel_rfl) (by kernel_rfl) (fun _ _ => (V_move rfl rfl)) ?_
         refine GH_splitD 206 rfl (fun hc14 => ?_) (fun hc14 => ?_)
         · (first | (exact absurd rfl hc14) | (exact absurd hc14 (by decide)) | (exact absurd (by decide) hc14) | (exfalso; omega) | (exfalso; simp at hc14; done))
         refine GH_take 15 rfl rfl rfl rfl (by kernel_rfl) (by kernel_rfl) (by kernel_rfl) (fun _ _ => (V_move rfl rfl)) ?_
         refine GH_take 17 rfl rfl rfl rfl (by kernel_rfl) (by kernel_rfl) (by kernel_rfl) (fun _ _ => (V_fieldAddr (fo := 5) rfl Tryz.underlying36 rfl infLawJournalActs_3 rfl rfl rfl)) ?_
         refine GH_take 18 rfl rfl rfl rfl (by kernel_rfl) (by kernel_rfl) (by kernel_rfl) (fun _ _ => (V_load1 rfl rfl (mem_at 1 rfl) rfl Tryz.underlying3 rfl)) ?_
         refine GH_take 19 rfl rfl rfl rfl (by kernel_rfl) (by kernel_rfl) (by kernel_rfl) (fun _ _ => ((V_conv rfl rfl Tryz.underlying3 Tryz.underlying50).int (wrap_u32 (by omega)))) ?_
         refine GH_all [16] (by kernel_rfl) (by decide) ?_
         refine (And.intro ?_ trivial)
         ·
          refine GHop_call (L2 := [_, _, _, _, _, _, _, _, _, _]) rfl rfl rfl rfl rfl rfl Tryz.call23 (jn_Epoch d R sp j g) [] [9] rfl rfl [7] (by rintro v post ⟨rfl, rfl⟩; exact ⟨_, rfl⟩) ?_
          rintro v post ⟨rfl, rfl⟩
          show GH _ _ _ _ _ _ _ [_, _, _, _, _, _, _, _, _, _] _
          refine GH_take 20 rfl rfl rfl rfl (by kernel_rfl) (by kernel_rfl) (by kernel_rfl) (fun _ _ => (V_neq rfl rfl rfl)) ?_
          refine GH_take 21 rfl rfl rfl rfl (by kernel_rfl) (by kernel_rfl) (by kernel_rfl) (fun _ _ => (V_pickF rfl rfl rfl)) ?_
          refine GH_done (by kernel_rfl) ?_
          refine G_ifD rfl (fun hc15 => ?_) (fun hc15 => ?_)
          · (first | (exact absurd rfl hc15) | (exact absurd hc15 (by decide)) | (exact absurd (by decide) hc15) | (exfalso; omega) | (exfalso; simp at hc15; done))
          refine G_skip ?_
          refine G_inBlock ?_
          refine G_region (l := [0, 1, 2]) rfl ?_
          refine G_val rfl rfl rfl rfl (V_move rfl rfl) ?_
          refine G_val rfl rfl rfl rfl ((V_add rfl rfl rfl).int (wrap_i64 (by omega))) ?_
          refine G_val rfl rfl rfl rfl (V_assign rfl rfl) ?_
          refine G_done ?_
          refine G_sub ?_ [6, 1, 1, 1, 3, 3, 0, 2] ?_ (ih (i + 1, k, lc1, uw1, sp, tx, rc, a, j, g, u) ?_ ?_)
          · (refine (And.intro ?_ (And.intro ?_ (And.intro ?_ (And.intro ?_ (And.intro ?_ (And.intro ?_ trivial)))))) <;> first | rfl | exact slot_int (by omega) | exact slot_int (by simp))
          · exact ⟨_, rfl⟩
          · exact ⟨by omega, h1, hl, hj, by first | (show sp.seq ≤ 2 + (i + 1); omega) | (show sp.seq + 1 ≤ 2 + (i + 1); omega), hu⟩
          · (first | omega | (dsimp only; omega))
      ·
       refine G_region (l := [0, 1, 2, 3, 4, 5, 6, 7, 8]) rfl ?_
       refine G_val rfl rfl rfl rfl (V_loadW (s := 6) rfl rfl (mem_at 7 rfl) Tryz.underlying36 rfl infLawJournalActs_36 rfl (by rfl)) ?_
       refine G_val rfl rfl rfl rfl (V_fieldAddr (fo := 1) rfl Tryz.underlying42 rfl infLawJournalActs_9 rfl rfl rfl) ?_
       refine G_val rfl rfl rfl rfl (V_load1 rfl rfl (mem_at 2 rfl) rfl Tryz.underlying9 rfl) ?_
       refine G_call (L2 := [_, _, _, _, _, _, _, _, _, _]) rfl rfl rfl rfl rfl rfl Tryz.call15 (rj_add n R a (by omega) (by omega) tx rc u (sp.seq : Int) (by omega) x.2 (by omega) hx1 hu (by omega)) [] [10] rfl rfl ?_
       rintro v post ⟨u2, hu2, rfl, rfl⟩
       show G _ _ _ [_, _, _, _, _, _, _, _, _, _, _] _
       refine G_val rfl rfl rfl rfl (V_move rfl rfl) ?_
       refine G_val rfl rfl rfl rfl (V_extract rfl rfl rfl) ?_
       refine G_val rfl rfl rfl rfl (V_extract rfl rfl rfl) ?_
       refine G_put (l1 := [_]) (L' := [_, _, _, _, _, _, _, _, _, _, _]) rfl rfl rfl rfl (P_storeA (s := 6) rfl rfl rfl (mem_at 1 rfl) (by rfl) infLawJournalActs_36 rfl (by rfl) (by simp [Value.oneCell', spCells, pCells, wCells, kCells, rgC, lgC, rdC, Sl.v, zeroF, foundC, jC, wC, acC])) rfl ?_
       refine G_val rfl rfl rfl rfl (V_assign rfl rfl) ?_
       refine G_done ?_
       refine G_seq ?_
       refine G_region (l := [0, 1, 2, 3, 4, 5, 6, 7, 8, 9, 10, 11, 12, 13, 14, 15]) rfl ?_
       refine G_val rfl rfl rfl rfl (V_move rfl rfl) ?_
       refine G_val rfl rfl rfl rfl (V_fieldAddr (fo := 1) rfl Tryz.underlying42 rfl infLawJournalActs_9 rfl rfl rfl) ?_
       refine G_val rfl rfl rfl rfl (V_load1 rfl rfl (mem_at 3 rfl) rfl Tryz.underlying9 rfl) ?_
       refine G_call (L2 := [_, _, _, _, _, _, _, _, _, _, _]) rfl rfl rfl rfl rfl rfl Tryz.call16 ((jn_fits d n R sp a j g x.2 (by omega) (by omega) (by omega)).weaken (fun v post h => by rw [decide_eq_true hx1] at h; exact h)) [] [9, 10] rfl rfl ?_
       rintro v post ⟨rfl, rfl⟩
       show G _ _ _ [_, _, _, _, _, _, _, _, _, _, _] _
       refine G_val rfl rfl rfl rfl (V_move rfl rfl) ?_
       refine G_val rfl rfl rfl rfl (V_eql rfl rfl rfl) ?_
       refine G_val rfl rfl rfl rfl (V_bneq rfl Tryz.underlying4 rfl rfl) ?_
       refine G_val rfl rfl rfl rfl (V_move rfl rfl) ?_
       refine G_splitD 166 rfl (fun hc12 => ?_) (fun hc12 => ?_)
       · (first | (exact absurd rfl hc12) | (exact absurd hc12 (by decide)) | (exact absurd (by decide) hc12) | (exfalso; omega) | (exfalso; simp at hc12; done))
       refine G_val rfl rfl rfl rfl (V_move rfl rfl) ?_
       refine G_val rfl rfl rfl rfl (V_fieldAddr (fo := 1) rfl Tryz.underlying42 rfl infLawJournalActs_9 rfl rfl rfl) ?_
       refine G_val rfl rfl rfl rfl (V_load1 rfl rfl (mem_at 3 rfl) rfl Tryz.underlying9 rfl) ?_
       refine G_call (L2 := [_, _, _, _, _, _, _]) rfl rfl rfl rfl rfl rfl Tryz.call17 (jl_add d n lb lcap lc uw k h R sp tx rc a j g hj hl x.2 (by omega) hx1) [9, 4, 4, 4] [6] rfl rfl ?_
       rintro v post ⟨rfl, k1, lc1, uw1, h1, hl1, hj1, rfl⟩
       show G _ _ _ [_, _, _, _, _, _, _, _, _, _, _] _
       refine G_call (L2 := [_, _, _, _, _, _, _, _, _, _, _]) rfl rfl rfl rfl rfl rfl Tryz.call9 (jl_num _) [] [] rfl rfl ?_
       rintro v post ⟨rfl, rfl⟩
       show G _ _ _ [_, _, _, _, _, _, _, _, _, _, _] _
       refine G_val rfl rfl rfl rfl (V_move rfl rfl) ?_
       refine G_val rfl rfl rfl rfl (V_neq rfl rfl rfl) ?_
       refine G_val rfl rfl rfl rfl (V_pickF rfl rfl rfl) ?_
       refine G_done ?_
       refine G_ifD rfl (fun hc13 => ?_) (fun hc13 => ?_)
       · (first | (exact absurd rfl hc13) | (exact absurd hc13 (by decide)) | (exact absurd (by decide) hc13) | (exfalso; omega) | (exfalso; simp at hc13; done))
       refine G_skip ?_
       refine G_inBlock ?_
       refine G_seq ?_
       refine G_region (l := [0, 1]) rfl ?_
       refine G_val rfl rfl rfl rfl (V_loadW (s := 6) rfl rfl (mem_at 6 rfl) Tryz.underlying36 rfl infLawJournalActs_36 rfl (by rfl)) ?_
       refine G_put (l1 := [_, _, _, _, _, _, _, _]) (L' := [_, _, _, _, _, _, _, _, _, _, _]) rfl rfl rfl rfl (P_storeA (s := 6) rfl rfl rfl (mem_at 8 rfl) (by rfl) infLawJournalActs_36 rfl (by rfl) (by simp [Value.oneCell', spCells, pCells, wCells, kCells, rgC, lgC, rdC, Sl.v, zeroF, foundC, jC, wC, acC])) rfl ?_
       refine G_done ?_
       refine G_seq ?_
       try have hq1 := hj1.a.2
       have hqa : (anewS sp x.2.length).epoch = sp.epoch + 1 := rfl
       have hqn : (nextS sp).epoch = sp.epoch + 1 := rfl
       have hqa2 : (anewS sp x.2.length).seq = sp.seq + 1 := rfl
       have hqn2 : (nextS sp).seq = sp.seq + 1 := rfl
       refine GH_start (Lq := [_]) (isq := [8]) (m := 22) mixedK rfl rfl ?_
       refine GH_take 0 rfl rfl rfl rfl (by kernel_rfl) (by kernel_rfl) (by kernel_rfl) (fun _ _ => (V_move rfl rfl)) ?_
       refine GH_take 1 rfl rfl rfl rfl (by kernel_rfl) (by kernel_rfl) (by kernel_rfl) (fun _ _ => (V_loadW (s := 6) rfl rfl (mem_at 1 rfl) Tryz.underlying36 rfl infLawJournalActs_36 rfl (by rfl))) ?_
       refine GH_all [2] (by kernel_rfl) (by decide) ?_
       refine (And.intro ?_ trivial)
       ·
        refine GHop_call (L2 := [_, _, _, _, _, _, _, _, _, _, _]) rfl rfl rfl rfl rfl rfl Tryz.call21 ((jl_has d n lb lcap lc1 uw1 k1 h1 R sp tx (rc ++ [x.2]) hj1.jd tx (rc ++ [x.2]) u2 hu2 _ _ _).weaken (fun v post h => by rw [decide_eq_true ⟨rfl, rfl⟩] at h; exact h)) [] [2, 3, 4, 5] rfl rfl [8] (by rintro v post ⟨rfl, rfl⟩; exact ⟨_, rfl⟩) ?_
        rintro v post ⟨rfl, rfl⟩
        show GH _ _ _ _ _ _ _ [_, _, _, _, _, _, _, _, _, _, _] _
        refine GH_take 3 rfl rfl rfl rfl (by kernel_rfl) (by kernel_rfl) (by kernel_rfl) (fun _ _ => (V_not rfl rfl)) ?_
        refine GH_take 4 rfl rfl rfl rfl (by kernel_rfl) (by kernel_rfl) (by kernel_rfl) (fun _ _ => (V_move rfl rfl)) ?_
        refine GH_take 5 rfl rfl rfl rfl (by kernel_rfl) (by kernel_rfl) (by kernel_rfl) (fun _ _ => (V_move rfl rfl)) ?_
        refine GH_take 7 rfl rfl rfl rfl (by kernel_rfl) (by kernel_rfl) (by kernel_rfl) (fun _ _ => (V_fieldAddr (fo := 3) rfl Tryz.underlying36 rfl infLawJournalActs_3 rfl rfl rfl)) ?_
        refine GH_take 8 rfl rfl rfl rfl (by kernel_rfl) (by kernel_rfl) (by kernel_rfl) (fun _ _ => (V_load1 rfl rfl (mem_at 1 rfl) rfl Tryz.underlying3 rfl)) ?_
        refine GH_take 9 rfl rfl rfl rfl (by kernel_rfl) (by kernel_rfl) (by kernel_rfl) (fun _ _ => (V_fieldAddr (fo := 2) rfl Tryz.underlying36 rfl infLawJournalActs_3 rfl rfl rfl)) ?_
        refine GH_take 10 rfl rfl rfl rfl (by kernel_rfl) (by kernel_rfl) (by kernel_rfl) (fun _ _ => (V_load1 rfl rfl (mem_at 1 rfl) rfl Tryz.underlying3 rfl)) ?_
        refine GH_take 11 rfl rfl rfl rfl (by kernel_rfl) (by kernel_rfl) (by kernel_rfl) (fun _ _ => ((V_sub rfl rfl rfl).int (wrap_i64 (by omega)))) ?_
        refine GH_all [6] (by kernel_rfl) (by decide) ?_
        refine (And.intro ?_ trivial)
        ·
         refine GHop_call (L2 := [_, _, _, _, _, _, _, _, _, _, _]) rfl rfl rfl rfl rfl rfl Tryz.call22 (jn_Left d n R sp (a + manyN x.2.length) j g (by omega) (by omega)) [] [10, 1] rfl rfl [8] (by rintro v post ⟨rfl, rfl⟩; exact ⟨_, rfl⟩) ?_
         rintro v post ⟨rfl, rfl⟩
         show GH _ _ _ _ _ _ _ [_, _, _, _, _, _, _, _, _, _, _] _
         refine GH_take 12 rfl rfl rfl rfl (by kernel_rfl) (by kernel_rfl) (by kernel_rfl) (fun _ _ => (V_neq rfl rfl rfl)) ?_
         refine GH_take 13 rfl rfl rfl rfl (by kernel_rfl) (by kernel_rfl) (by kernel_rfl) (fun _ _ => (V_pickF rfl rfl rfl)) ?_
         refine GH_take 14 rfl rfl rfl rfl (by kernel_rfl) (by kernel_rfl) (by kernel_rfl) (fun _ _ => (V_move rfl rfl)) ?_
         refine GH_splitD 206 rfl (fun hc14 => ?_) (fun hc14 => ?_)
         · (first | (exact absurd rfl hc14) | (exact absurd hc14 (by decide)) | (exact absurd (by decide) hc14) | (exfalso; omega) | (exfalso; simp at hc14; done))
         refine GH_take 15 rfl rfl rfl rfl (by kernel_rfl) (by kernel_rfl) (by kernel_rfl) (fun _ _ => (V_move rfl rfl)) ?_
         refine GH_take 17 rfl rfl rfl rfl (by kernel_rfl) (by kernel_rfl) (by kernel_rfl) (fun _ _ => (V_fieldAddr (fo := 5) rfl Tryz.underlying36 rfl infLawJournalActs_3 rfl rfl rfl)) ?_
         refine GH_take 18 rfl rfl rfl rfl (by kernel_rfl) (by kernel_rfl) (by kernel_rfl) (fun _ _ => (V_load1 rfl rfl (mem_at 1 rfl) rfl Tryz.underlying3 rfl)) ?_
         refine GH_take 19 rfl rfl rfl rfl (by kernel_rfl) (by kernel_rfl) (by kernel_rfl) (fun _ _ => ((V_conv rfl rfl Tryz.underlying3 Tryz.underlying50).int (wrap_u32 (by omega)))) ?_
         refine GH_all [16] (by kernel_rfl) (by decide) ?_
         refine (And.intro ?_ trivial)
         ·
          refine GHop_call (L2 := [_, _, _, _, _, _, _, _, _, _, _]) rfl rfl rfl rfl rfl rfl Tryz.call23 (jn_Epoch d R sp j g) [] [10] rfl rfl [8] (by rintro v post ⟨rfl, rfl⟩; exact ⟨_, rfl⟩) ?_
          rintro v post ⟨rfl, rfl⟩
          show GH _ _ _ _ _ _ _ [_, _, _, _, _, _, _, _, _, _, _] _
          refine GH_take 20 rfl rfl rfl rfl (by kernel_rfl) (by kernel_rfl) (by kernel_rfl) (fun _ _ => (V_neq rfl rfl rfl)) ?_
          refine GH_take 21 rfl rfl rfl rfl (by kernel_rfl) (by kernel_rfl) (by kernel_rfl) (fun _ _ => (V_pickF rfl rfl rfl)) ?_
          refine GH_done (by kernel_rfl) ?_
          refine G_ifD rfl (fun hc15 => ?_) (fun hc15 => ?_)
          · (first | (exact absurd rfl hc15) | (exact absurd hc15 (by decide)) | (exact absurd (by decide) hc15) | (exfalso; omega) | (exfalso; simp at hc15; done))
          refine G_skip ?_
          refine G_inBlock ?_
          refine G_region (l := [0, 1, 2]) rfl ?_
          refine G_val rfl rfl rfl rfl (V_move rfl rfl) ?_
          refine G_val rfl rfl rfl rfl ((V_add rfl rfl rfl).int (wrap_i64 (by omega))) ?_
          refine G_val rfl rfl rfl rfl (V_assign rfl rfl) ?_
          refine G_done ?_
          refine G_sub ?_ [7, 1, 1, 1, 4, 4, 0, 0] ?_ (ih (i + 1, k1, lc1, uw1, sp, tx, (rc ++ [x.2]), (a + manyN x.2.length), j, g, u2) ?_ ?_)
          · (refine (And.intro ?_ (And.intro ?_ (And.intro ?_ (And.intro ?_ (And.intro ?_ (And.intro ?_ trivial)))))) <;> first | rfl | exact slot_int (by omega) | exact slot_int (by simp))
          · exact ⟨_, rfl⟩
          · exact ⟨by omega, h1, hl1, hj1, by first | (show sp.seq ≤ 2 + (i + 1); omega) | (show sp.seq + 1 ≤ 2 + (i + 1); omega), hu2⟩
          · (first | omega | (dsimp only; omega))
     refine G_seq ?_
     refine G_region (l := [0, 1]) rfl ?_
     refine G_val rfl rfl rfl rfl (V_eql rfl rfl rfl) ?_
     refine G_val rfl rfl rfl rfl (V_assign rfl rfl) ?_
     refine G_done ?_
     refine G_ifD rfl (fun hc12 => ?_) (fun hc12 => ?_)
     ·
      refine G_seq ?_
      rcases Nat.lt_or_ge R (manyS x.2.length) with hx1 | hx1
      ·
       refine G_region (l := [0, 1, 2, 3, 4, 5, 6, 7, 8]) rfl ?_
       refine G_val rfl rfl rfl rfl (V_loadW (s := 6) rfl rfl (mem_at 7 rfl) Tryz.underlying36 rfl infLawJournalActs_36 rfl (by rfl)) ?_
       refine G_val rfl rfl rfl rfl (V_fieldAddr (fo := 1) rfl Tryz.underlying42 rfl infLawJournalActs_9 rfl rfl rfl) ?_
       refine G_val rfl rfl rfl rfl (V_load1 rfl rfl (mem_at 2 rfl) rfl Tryz.underlying9 rfl) ?_
       refine G_call (L2 := [_, _, _, _, _, _, _, _, _, _]) rfl rfl rfl rfl rfl rfl Tryz.call18 (rj_anew_full n R a (by omega) (by omega) tx rc u (sp.seq : Int) (by omega) x.2 (by omega) (by omega)) [] [] rfl rfl ?_
       rintro v post ⟨rfl, rfl⟩
       show G _ _ _ [_, _, _, _, _, _, _, _, _, _] _
       refine G_val rfl rfl rfl rfl (V_move rfl rfl) ?_
       refine G_val rfl rfl rfl rfl (V_extract rfl rfl rfl) ?_
       refine G_val rfl rfl rfl rfl (V_extract rfl rfl rfl) ?_
       refine G_put (l1 := []) (L' := [_, _, _, _, _, _, _, _, _, _]) rfl rfl rfl rfl (P_storeA (s := 6) rfl rfl rfl (mem_at 0 rfl) (by rfl) infLawJournalActs_36 rfl (by rfl) (by simp [Value.oneCell', spCells, pCells, wCells, kCells, rgC, lgC, rdC, Sl.v, zeroF, foundC, jC, wC, acC])) rfl ?_
       refine G_val rfl rfl rfl rfl (V_assign rfl rfl) ?_
       refine G_done ?_
       refine G_seq ?_
       refine G_region (l := [0, 1, 2, 3, 4, 5, 6]) rfl ?_
       refine G_val rfl rfl rfl rfl (V_move rfl rfl) ?_
       refine G_val rfl rfl rfl rfl (V_fieldAddr (fo := 1) rfl Tryz.underlying42 rfl infLawJournalActs_9 rfl rfl rfl) ?_
       refine G_val rfl rfl rfl rfl (V_load1 rfl rfl (mem_at 2 rfl) rfl Tryz.underlying9 rfl) ?_
       refine G_call (L2 := [_, _, _, _, _, _, _, _, _, _]) rfl rfl rfl rfl rfl rfl Tryz.call19 (jn_anew_full d n lb lcap lc uw k h R sp tx rc j g hj.jd x.2 (by omega) (by omega)) [] [8] rfl rfl ?_
       rintro v post ⟨rfl, rfl⟩
       show G _ _ _ [_, _, _, _, _, _, _, _, _, _] _
       refine G_call (L2 := [_, _, _, _, _, _, _, _, _, _]) rfl rfl rfl rfl rfl rfl Tryz.call9 (jl_num _) [] [] rfl rfl ?_
       rintro v post ⟨rfl, rfl⟩
       show G _ _ _ [_, _, _, _, _, _, _, _, _, _] _
       refine G_val rfl rfl rfl rfl (V_move rfl rfl) ?_
       refine G_val rfl rfl rfl rfl (V_neq rfl rfl rfl) ?_
       refine G_done ?_
       refine G_ifD rfl (fun hc13 => ?_) (fun hc13 => ?_)
       · (first | (exact absurd rfl hc13) | (exact absurd hc13 (by decide)) | (exact absurd (by decide) hc13) | (exfalso; omega) | (exfalso; simp at hc13; done))
       refine G_skip ?_
       refine G_inBlock ?_
       refine G_seq ?_
       refine G_region (l := [0, 1]) rfl ?_
       refine G_val rfl rfl rfl rfl (V_loadW (s := 6) rfl rfl (mem_at 1 rfl) Tryz.underlying36 rfl infLawJournalActs_36 rfl (by rfl)) ?_
       refine G_put (l1 := [_, _, _, _, _, _]) (L' := [_, _, _, _, _, _, _, _, _, _]) rfl rfl rfl rfl (P_storeA (s := 6) rfl rfl rfl (mem_at 6 rfl) (by rfl) infLawJournalActs_36 rfl (by rfl) (by simp [Value.oneCell', spCells, pCells, wCells, kCells, rgC, lgC, rdC, Sl.v, zeroF, foundC, jC, wC, acC])) rfl ?_
       refine G_done ?_
       refine G_seq ?_
       try have hq1 := hj1.a.2
       have hqa : (anewS sp x.2.length).epoch = sp.epoch + 1 := rfl
       have hqn : (nextS sp).epoch = sp.epoch + 1 := rfl
       have hqa2 : (anewS sp x.2.length).seq = sp.seq + 1 := rfl
       have hqn2 : (nextS sp).seq = sp.seq + 1 := rfl
       refine GH_start (Lq := [_]) (isq := [6]) (m := 22) mixedK rfl rfl ?_
       refine GH_take 0 rfl rfl rfl rfl (by kernel_rfl) (by kernel_rfl) (by kernel_rfl) (fun _ _ => (V_move rfl rfl)) ?_
       refine GH_take 1 rfl rfl rfl rfl (by kernel_rfl) (by kernel_rfl) (by kernel_rfl) (fun _ _ => (V_loadW (s := 6) rfl rfl (mem_at 1 rfl) Tryz.underlying36 rfl infLawJournalActs_36 rfl (by rfl))) ?_
       refine GH_all [2] (by kernel_rfl) (by decide) ?_
       refine (And.intro ?_ trivial)
       ·
        refine GHop_call (L2 := [_, _, _, _, _, _, _, _, _, _]) rfl rfl rfl rfl rfl rfl Tryz.call21 ((jl_has d n lb lcap lc uw k h R sp tx rc hj.jd tx rc u hu _ _ _).weaken (fun v post h => by rw [decide_eq_true ⟨rfl, rfl⟩] at h; exact h)) [] [4, 5, 6, 10] rfl rfl [6] (by rintro v post ⟨rfl, rfl⟩; exact ⟨_, rfl⟩) ?_
        rintro v post ⟨rfl, rfl⟩
        show GH _ _ _ _ _ _ _ [_, _, _, _, _, _, _, _, _, _] _
        refine GH_take 3 rfl rfl rfl rfl (by kernel_rfl) (by kernel_rfl) (by kernel_rfl) (fun _ _ => (V_not rfl rfl)) ?_
        refine GH_take 4 rfl rfl rfl rfl (by kernel_rfl) (by kernel_rfl) (by kernel_rfl) (fun _ _ => (V_move rfl rfl)) ?_
        refine GH_take 5 rfl rfl rfl rfl (by kernel_rfl) (by kernel_rfl) (by kernel_rfl) (fun _ _ => (V_move rfl rfl)) ?_
        refine GH_take 7 rfl rfl rfl rfl (by kernel_rfl) (by kernel_rfl) (by kernel_rfl) (fun _ _ => (V_fieldAddr (fo := 3) rfl Tryz.underlying36 rfl infLawJournalActs_3 rfl rfl rfl)) ?_
        refine GH_take 8 rfl rfl rfl rfl (by kernel_rfl) (by kernel_rfl) (by kernel_rfl) (fun _ _ => (V_load1 rfl rfl (mem_at 1 rfl) rfl Tryz.underlying3 rfl)) ?_
        refine GH_take 9 rfl rfl rfl rfl (by kernel_rfl) (by kernel_rfl) (by kernel_rfl) (fun _ _ => (V_fieldAddr (fo := 2) rfl Tryz.underlying36 rfl infLawJournalActs_3 rfl rfl rfl)) ?_
        refine GH_take 10 rfl rfl rfl rfl (by kernel_rfl) (by kernel_rfl) (by kernel_rfl) (fun _ _ => (V_load1 rfl rfl (mem_at 1 rfl) rfl Tryz.underlying3 rfl)) ?_
        refine GH_take 11 rfl rfl rfl rfl (by kernel_rfl) (by kernel_rfl) (by kernel_rfl) (fun _ _ => ((V_sub rfl rfl rfl).int (wrap_i64 (by omega)))) ?_
        refine GH_all [6] (by kernel_rfl) (by decide) ?_
        refine (And.intro ?_ trivial)
        ·
         refine GHop_call (L2 := [_, _, _, _, _, _, _, _, _, _]) rfl rfl rfl rfl rfl rfl Tryz.call22 (jn_Left d n R sp a j g (by omega) (by omega)) [] [8, 9] rfl rfl [6] (by rintro v post ⟨rfl, rfl⟩; exact ⟨_, rfl⟩) ?_
         rintro v post ⟨rfl, rfl⟩
         show GH _ _ _ _ _ _ _ [_, _, _, _, _, _, _, _, _, _] _
         refine GH_take 12 rfl rfl rfl rfl (by kernel_rfl) (by kernel_rfl) (by kernel_rfl) (fun _ _ => (V_neq rfl rfl rfl)) ?_
         refine GH_take 13 rfl rfl rfl rfl (by kernel_rfl) (by kernel_rfl) (by kernel_rfl) (fun _ _ => (V_pickF rfl rfl rfl)) ?_
         refine GH_take 14 rfl rfl rfl rfl (by kernel_rfl) (by kernel_rfl) (by kernel_rfl) (fun _ _ => (V_move rfl rfl)) ?_
         refine GH_splitD 206 rfl (fun hc14 => ?_) (fun hc14 => ?_)
         · (first | (exact absurd rfl hc14) | (exact absurd hc14 (by decide)) | (exact absurd (by decide) hc14) | (exfalso; omega) | (exfalso; simp at hc14; done))
         refine GH_take 15 rfl rfl rfl rfl (by kernel_rfl) (by kernel_rfl) (by kernel_rfl) (fun _ _ => (V_move rfl rfl)) ?_
         refine GH_take 17 rfl rfl rfl rfl (by kernel_rfl) (by kernel_rfl) (by kernel_rfl) (fun _ _ => (V_fieldAddr (fo := 5) rfl Tryz.underlying36 rfl infLawJournalActs_3 rfl rfl rfl)) ?_
         refine GH_take 18 rfl rfl rfl rfl (by kernel_rfl) (by kernel_rfl) (by kernel_rfl) (fun _ _ => (V_load1 rfl rfl (mem_at 1 rfl) rfl Tryz.underlying3 rfl)) ?_
         refine GH_take 19 rfl rfl rfl rfl (by kernel_rfl) (by kernel_rfl) (by kernel_rfl) (fun _ _ => ((V_conv rfl rfl Tryz.underlying3 Tryz.underlying50).int (wrap_u32 (by omega)))) ?_
         refine GH_all [16] (by kernel_rfl) (by decide) ?_
         refine (And.intro ?_ trivial)
         ·
          refine GHop_call (L2 := [_, _, _, _, _, _, _, _, _, _]) rfl rfl rfl rfl rfl rfl Tryz.call23 (jn_Epoch d R sp j g) [] [8] rfl rfl [6] (by rintro v post ⟨rfl, rfl⟩; exact ⟨_, rfl⟩) ?_
          rintro v post ⟨rfl, rfl⟩
          show GH _ _ _ _ _ _ _ [_, _, _, _, _, _, _, _, _, _] _
          refine GH_take 20 rfl rfl rfl rfl (by kernel_rfl) (by kernel_rfl) (by kernel_rfl) (fun _ _ => (V_neq rfl rfl rfl)) ?_
          refine GH_take 21 rfl rfl rfl rfl (by kernel_rfl) (by kernel_rfl) (by kernel_rfl) (fun _ _ => (V_pickF rfl rfl rfl)) ?_
          refine GH_done (by kernel_rfl) ?_
          refine G_ifD rfl (fun hc15 => ?_) (fun hc15 => ?_)
          · (first | (exact absurd rfl hc15) | (exact absurd hc15 (by decide)) | (exact absurd (by decide) hc15) | (exfalso; omega) | (exfalso; simp at hc15; done))
          refine G_skip ?_
          refine G_inBlock ?_
          refine G_region (l := [0, 1, 2]) rfl ?_
          refine G_val rfl rfl rfl rfl (V_move rfl rfl) ?_
          refine G_val rfl rfl rfl rfl ((V_add rfl rfl rfl).int (wrap_i64 (by omega))) ?_
          refine G_val rfl rfl rfl rfl (V_assign rfl rfl) ?_
          refine G_done ?_
          refine G_sub ?_ [2, 2, 2, 2, 2, 2, 2, 2] ?_ (ih (i + 1, k, lc, uw, sp, tx, rc, a, j, g, u) ?_ ?_)
          · (refine (And.intro ?_ (And.intro ?_ (And.intro ?_ (And.intro ?_ (And.intro ?_ (And.intro ?_ trivial)))))) <;> first | rfl | exact slot_int (by omega) | exact slot_int (by simp))
          · exact ⟨_, rfl⟩
          · exact ⟨by omega, h, hl, hj, by first | (show sp.seq ≤ 2 + (i + 1); omega) | (show sp.seq + 1 ≤ 2 + (i + 1); omega), hu⟩
          · (first | omega | (dsimp only; omega))
      ·
       refine G_region (l := [0, 1, 2, 3, 4, 5, 6, 7, 8]) rfl ?_
       refine G_val rfl rfl rfl rfl (V_loadW (s := 6) rfl rfl (mem_at 7 rfl) Tryz.underlying36 rfl infLawJournalActs_36 rfl (by rfl)) ?_
       refine G_val rfl rfl rfl rfl (V_fieldAddr (fo := 1) rfl Tryz.underlying42 rfl infLawJournalActs_9 rfl rfl rfl) ?_
       refine G_val rfl rfl rfl rfl (V_load1 rfl rfl (mem_at 2 rfl) rfl Tryz.underlying9 rfl) ?_
       refine G_call (L2 := [_, _, _, _, _, _, _, _, _, _]) rfl rfl rfl rfl rfl rfl Tryz.call18 (rj_anew n R a (by omega) (by omega) tx rc u (sp.seq : Int) (by omega) x.2 (by omega) hx1) [] [] rfl rfl ?_
       rintro v post ⟨u2, hu2, rfl, rfl⟩
       show G _ _ _ [_, _, _, _, _, _, _, _, _, _, _] _
       refine G_val rfl rfl rfl rfl (V_move rfl rfl) ?_
       refine G_val rfl rfl rfl rfl (V_extract rfl rfl rfl) ?_
       refine G_val rfl rfl rfl rfl (V_extract rfl rfl rfl) ?_
       refine G_put (l1 := [_]) (L' := [_, _, _, _, _, _, _, _, _, _, _]) rfl rfl rfl rfl (P_storeA (s := 6) rfl rfl rfl (mem_at 1 rfl) (by rfl) infLawJournalActs_36 rfl (by rfl) (by simp [Value.oneCell', spCells, pCells, wCells, kCells, rgC, lgC, rdC, Sl.v, zeroF, foundC, jC, wC, acC])) rfl ?_
       refine G_val rfl rfl rfl rfl (V_assign rfl rfl) ?_
       refine G_done ?_
       refine G_seq ?_
       refine G_region (l := [0, 1, 2, 3, 4, 5, 6]) rfl ?_
       refine G_val rfl rfl rfl rfl (V_move rfl rfl) ?_
       refine G_val rfl rfl rfl rfl (V_fieldAddr (fo := 1) rfl Tryz.underlying42 rfl infLawJournalActs_9 rfl rfl rfl) ?_
       refine G_val rfl rfl rfl rfl (V_load1 rfl rfl (mem_at 3 rfl) rfl Tryz.underlying9 rfl) ?_
       refine G_call (L2 := [_, _, _, _, _, _, _]) rfl rfl rfl rfl rfl rfl Tryz.call19 (jl_anew d n lb lcap lc uw k h R sp tx rc j g hj.jd x.2 (by omega) hl (by omega) hx1) [8, 4, 4, 4] [] rfl rfl ?_
       rintro v post ⟨rfl, k1, lc1, uw1, g1, h1, hl1, hj1, rfl⟩
       show G _ _ _ [_, _, _, _, _, _, _, _, _, _, _, _] _
       refine G_call (L2 := [_, _, _, _, _, _, _, _, _, _, _, _]) rfl rfl rfl rfl rfl rfl Tryz.call9 (jl_num _) [] [] rfl rfl ?_
       rintro v post ⟨rfl, rfl⟩
       show G _ _ _ [_, _, _, _, _, _, _, _, _, _, _, _] _
       refine G_val rfl rfl rfl rfl (V_move rfl rfl) ?_
       refine G_val rfl rfl rfl rfl (V_neq rfl rfl rfl) ?_
       refine G_done ?_
       refine G_ifD rfl (fun hc13 => ?_) (fun hc13 => ?_)
       · (first | (exact absurd rfl hc13) | (exact absurd hc13 (by decide)) | (exact absurd (by decide) hc13) | (exfalso; omega) | (exfalso; simp at hc13; done))
       refine G_skip ?_
       refine G_inBlock ?_
       refine G_seq ?_
       refine G_region (l := [0, 1]) rfl ?_
       refine G_val rfl rfl rfl rfl (V_loadW (s := 6) rfl rfl (mem_at 7 rfl) Tryz.underlying36 rfl infLawJournalActs_36 rfl (by rfl)) ?_
       refine G_put (l1 := [_, _, _, _, _, _, _, _, _]) (L' := [_, _, _, _, _, _, _, _, _, _, _, _]) rfl rfl rfl rfl (P_storeA (s := 6) rfl rfl rfl (mem_at 9 rfl) (by rfl) infLawJournalActs_36 rfl (by rfl) (by simp [Value.oneCell', spCells, pCells, wCells, kCells, rgC, lgC, rdC, Sl.v, zeroF, foundC, jC, wC, acC])) rfl ?_
       refine G_done ?_
       refine G_seq ?_
       try have hq1 := hj1.a.2
       have hqa : (anewS sp x.2.length).epoch = sp.epoch + 1 := rfl
       have hqn : (nextS sp).epoch = sp.epoch + 1 := rfl
       have hqa2 : (anewS sp x.2.length).seq = sp.seq + 1 := rfl
       have hqn2 : (nextS sp).seq = sp.seq + 1 := rfl
       refine GH_start (Lq := [_]) (isq := [9]) (m := 22) mixedK rfl rfl ?_
       refine GH_take 0 rfl rfl rfl rfl (by kernel_rfl) (by kernel_rfl) (by kernel_rfl) (fun _ _ => (V_move rfl rfl)) ?_
       refine GH_take 1 rfl rfl rfl rfl (by kernel_rfl) (by kernel_rfl) (by kernel_rfl) (fun _ _ => (V_loadW (s := 6) rfl rfl (mem_at 1 rfl) Tryz.underlying36 rfl infLawJournalActs_36 rfl (by rfl))) ?_
       refine GH_all [2] (by kernel_rfl) (by decide) ?_
       refine (And.intro ?_ trivial)
       ·
        refine GHop_call (L2 := [_, _, _, _, _, _, _, _, _, _, _, _]) rfl rfl rfl rfl rfl rfl Tryz.call21 ((jl_has d n lb lcap lc1 uw1 k1 h1 R (anewS sp x.2.length) x.2 [] hj1.jd x.2 [] u2 hu2 _ _ _).weaken (fun v post h => by rw [decide_eq_true ⟨rfl, rfl⟩] at h; exact h)) [] [2, 3, 4, 6] rfl rfl [9] (by rintro v post ⟨rfl, rfl⟩; exact ⟨_, rfl⟩) ?_
        rintro v post ⟨rfl, rfl⟩
        show GH _ _ _ _ _ _ _ [_, _, _, _, _, _, _, _, _, _, _, _] _
        refine GH_take 3 rfl rfl rfl rfl (by kernel_rfl) (by kernel_rfl) (by kernel_rfl) (fun _ _ => (V_not rfl rfl)) ?_
        refine GH_take 4 rfl rfl rfl rfl (by kernel_rfl) (by kernel_rfl) (by kernel_rfl) (fun _ _ => (V_move rfl rfl)) ?_
        refine GH_take 5 rfl rfl rfl rfl (by kernel_rfl) (by kernel_rfl) (by kernel_rfl) (fun _ _ => (V_move rfl rfl)) ?_
        refine GH_take 7 rfl rfl rfl rfl (by kernel_rfl) (by kernel_rfl) (by kernel_rfl) (fun _ _ => (V_fieldAddr (fo := 3) rfl Tryz.underlying36 rfl infLawJournalActs_3 rfl rfl rfl)) ?_
        refine GH_take 8 rfl rfl rfl rfl (by kernel_rfl) (by kernel_rfl) (by kernel_rfl) (fun _ _ => (V_load1 rfl rfl (mem_at 1 rfl) rfl Tryz.underlying3 rfl)) ?_
        refine GH_take 9 rfl rfl rfl rfl (by kernel_rfl) (by kernel_rfl) (by kernel_rfl) (fun _ _ => (V_fieldAddr (fo := 2) rfl Tryz.underlying36 rfl infLawJournalActs_3 rfl rfl rfl)) ?_
        refine GH_take 10 rfl rfl rfl rfl (by kernel_rfl) (by kernel_rfl) (by kernel_rfl) (fun _ _ => (V_load1 rfl rfl (mem_at 1 rfl) rfl Tryz.underlying3 rfl)) ?_
        refine GH_take 11 rfl rfl rfl rfl (by kernel_rfl) (by kernel_rfl) (by kernel_rfl) (fun _ _ => ((V_sub rfl rfl rfl).int (wrap_i64 (by omega)))) ?_
        refine GH_all [6] (by kernel_rfl) (by decide) ?_
        refine (And.intro ?_ trivial)
        ·
         refine GHop_call (L2 := [_, _, _, _, _, _, _, _, _, _, _, _]) rfl rfl rfl rfl rfl rfl Tryz.call22 (jn_Left d n R (anewS sp x.2.length) 0 j g1 (by omega) (by omega)) [] [1, 5] rfl rfl [9] (by rintro v post ⟨rfl, rfl⟩; exact ⟨_, rfl⟩) ?_
         rintro v post ⟨rfl, rfl⟩
         show GH _ _ _ _ _ _ _ [_, _, _, _, _, _, _, _, _, _, _, _] _
         refine GH_take 12 rfl rfl rfl rfl (by kernel_rfl) (by kernel_rfl) (by kernel_rfl) (fun _ _ => (V_neq rfl rfl rfl)) ?_
         refine GH_take 13 rfl rfl rfl rfl (by kernel_rfl) (by kernel_rfl) (by kernel_rfl) (fun _ _ => (V_pickF rfl rfl rfl)) ?_
         refine GH_take 14 rfl rfl rfl rfl (by kernel_rfl) (by kernel_rfl) (by kernel_rfl) (fun _ _ => (V_move rfl rfl)) ?_
         refine GH_splitD 206 rfl (fun hc14 => ?_) (fun hc14 => ?_)
         · (first | (exact absurd rfl hc14) | (exact absurd hc14 (by decide)) | (exact absurd (by decide) hc14) | (exfalso; omega) | (exfalso; simp at hc14; done))
         refine GH_take 15 rfl rfl rfl rfl (by kernel_rfl) (by kernel_rfl) (by kernel_rfl) (fun _ _ => (V_move rfl rfl)) ?_
         refine GH_take 17 rfl rfl rfl rfl (by kernel_rfl) (by kernel_rfl) (by kernel_rfl) (fun _ _ => (V_fieldAddr (fo := 5) rfl Tryz.underlying36 rfl infLawJournalActs_3 rfl rfl rfl)) ?_
         refine GH_take 18 rfl rfl rfl rfl (by kernel_rfl) (by kernel_rfl) (by kernel_rfl) (fun _ _ => (V_load1 rfl rfl (mem_at 1 rfl) rfl Tryz.underlying3 rfl)) ?_
         refine GH_take 19 rfl rfl rfl rfl (by kernel_rfl) (by kernel_rfl) (by kernel_rfl) (fun _ _ => ((V_conv rfl rfl Tryz.underlying3 Tryz.underlying50).int (wrap_u32 (by omega)))) ?_
         refine GH_all [16] (by kernel_rfl) (by decide) ?_
         refine (And.intro ?_ trivial)
         ·
          refine GHop_call (L2 := [_, _, _, _, _, _, _, _, _, _, _, _]) rfl rfl rfl rfl rfl rfl Tryz.call23 (jn_Epoch d R (anewS sp x.2.length) j g1) [] [1] rfl rfl [9] (by rintro v post ⟨rfl, rfl⟩; exact ⟨_, rfl⟩) ?_
          rintro v post ⟨rfl, rfl⟩
          show GH _ _ _ _ _ _ _ [_, _, _, _, _, _, _, _, _, _, _, _] _
          refine GH_take 20 rfl rfl rfl rfl (by kernel_rfl) (by kernel_rfl) (by kernel_rfl) (fun _ _ => (V_neq rfl rfl rfl)) ?_
          refine GH_take 21 rfl rfl rfl rfl (by kernel_rfl) (by kernel_rfl) (by kernel_rfl) (fun _ _ => (V_pickF rfl rfl rfl)) ?_
          refine GH_done (by kernel_rfl) ?_
          refine G_ifD rfl (fun hc15 => ?_) (fun hc15 => ?_)
          · (first | (exact absurd rfl hc15) | (exact absurd hc15 (by decide)) | (exact absurd (by decide) hc15) | (exfalso; omega) | (exfalso; simp at hc15; done))
          refine G_skip ?_
          refine G_inBlock ?_
          refine G_region (l := [0, 1, 2]) rfl ?_
          refine G_val rfl rfl rfl rfl (V_move rfl rfl) ?_
          refine G_val rfl rfl rfl rfl ((V_add rfl rfl rfl).int (wrap_i64 (by omega))) ?_
          refine G_val rfl rfl rfl rfl (V_assign rfl rfl) ?_
          refine G_done ?_
          refine G_sub ?_ [8, 1, 1, 1, 5, 0, 0, 0] ?_ (ih (i + 1, k1, lc1, uw1, (anewS sp x.2.length), x.2, [], 0, j, g1, u2) ?_ ?_)
          · (refine (And.intro ?_ (And.intro ?_ (And.intro ?_ (And.intro ?_ (And.intro ?_ (And.intro ?_ trivial)))))) <;> first | rfl | exact slot_int (by omega) | exact slot_int (by simp))
          · exact ⟨_, rfl⟩
          · exact ⟨by omega, h1, hl1, hj1, by first | (show sp.seq ≤ 2 + (i + 1); omega) | (show sp.seq + 1 ≤ 2 + (i + 1); omega), hu2⟩
          · (first | omega | (dsimp only; omega))
     refine G_seq ?_
     rcases True.intro with ⟨⟩
     ·
      refine G_region (l := [0, 1, 2, 3, 4, 5, 6, 7, 8, 9, 10, 11, 12]) rfl ?_
      refine G_val rfl rfl rfl rfl (V_move rfl rfl) ?_
      refine G_val rfl rfl rfl rfl (V_aindexAddr rfl Tryz.underlying22 infLawJournalActs_3 rfl rfl rfl (by omega) (by omega)) ?_
      refine G_val rfl rfl rfl rfl (V_load1 rfl rfl (mem_at 3 rfl) rfl Tryz.underlying3 rfl) ?_
      refine G_call (L2 := [_, _, _, _, _, _, _]) rfl rfl rfl rfl rfl rfl Tryz.call14 (jl_open d n lb lcap lc uw k h R sp tx rc hj.jd hl (by omega)) [3, 3, 3] [] rfl rfl ?_
      rintro v post ⟨k1, lc1, uw1, j1, g1, un, h1, hl1, hj1, hun, rfl, rfl⟩
      show G _ _ _ [_, _, _, _, _, _, _, _, _, _, _, _, _] _
      rw [← hj.a.1] at hj1 ⊢
      refine G_val rfl rfl rfl rfl (V_move rfl rfl) ?_
      refine G_val rfl rfl rfl rfl (V_extract rfl rfl rfl) ?_
      refine G_val rfl rfl rfl rfl (V_extract rfl rfl rfl) ?_
      refine G_val rfl rfl rfl rfl (V_extract rfl rfl rfl) ?_
      refine G_val rfl rfl rfl rfl (V_extract rfl rfl rfl) ?_
      refine G_val rfl rfl rfl rfl (V_assign rfl rfl) ?_
      refine G_val rfl rfl rfl rfl (V_assign rfl rfl) ?_
      refine G_val rfl rfl rfl rfl (V_assign rfl rfl) ?_
      refine G_val rfl rfl rfl rfl (V_assign rfl rfl) ?_
      refine G_done ?_
      refine G_seq ?_
      refine G_seq ?_
      refine G_region (l := [0, 1, 2, 3, 4, 5, 6, 7, 8, 9, 10, 11, 12, 13, 14, 15]) rfl ?_
      refine G_val rfl rfl rfl rfl (V_move rfl rfl) ?_
      refine G_val rfl rfl rfl rfl (V_fieldAddr (fo := 0) rfl Tryz.underlying36 rfl infLawJournalActs_9 rfl rfl rfl) ?_
      refine G_val rfl rfl rfl rfl (V_load1 rfl rfl (mem_at 10 rfl) rfl Tryz.underlying9 rfl) ?_
      refine G_val rfl rfl rfl rfl (V_sneq rfl rfl rfl) ?_
      refine G_val rfl rfl rfl rfl (V_move rfl rfl) ?_
      refine G_splitD 133 rfl (fun hc13 => ?_) (fun hc13 => ?_)
      · (first | (exact absurd rfl hc13) | (exact absurd hc13 (by decide)) | (exact absurd (by decide) hc13) | (exfalso; omega) | (exfalso; simp at hc13; done))
      refine G_val rfl rfl rfl rfl (V_move rfl rfl) ?_
      refine G_val rfl rfl rfl rfl (V_fieldAddr (fo := 1) rfl Tryz.underlying36 rfl infLawJournalActs_34 rfl rfl rfl) ?_
      refine G_val rfl rfl rfl rfl (V_load1 rfl rfl (mem_at 10 rfl) rfl Tryz.underlying34 rfl) ?_
      refine G_call (L2 := [_, _, _, _, _, _, _, _, _, _, _, _, _]) rfl rfl rfl rfl rfl rfl Tryz.call20 ((ref_texts un.ob 0 un.cap un.cs 9 un.fz u.ob 0 u.cap u.cs 9 u.fz rc rc hun.sees hu.sees).weaken (fun v post h => by rw [decide_eq_true rfl] at h; exact h)) [] [6, 13] rfl rfl ?_
      rintro v post ⟨rfl, rfl⟩
      show G _ _ _ [_, _, _, _, _, _, _, _, _, _, _, _, _] _
      refine G_val rfl rfl rfl rfl (V_not rfl rfl) ?_
      refine G_val rfl rfl rfl rfl (V_pickF rfl rfl rfl) ?_
      refine G_val rfl rfl rfl rfl (V_move rfl rfl) ?_
      refine G_val rfl rfl rfl rfl (V_move rfl rfl) ?_
      refine G_call (L2 := [_, _, _, _, _, _, _, _, _, _, _, _, _]) rfl rfl rfl rfl rfl rfl Tryz.call9 (jl_num _) [] [] rfl rfl ?_
      rintro v post ⟨rfl, rfl⟩
      show G _ _ _ [_, _, _, _, _, _, _, _, _, _, _, _, _] _
      refine G_val rfl rfl rfl rfl (V_neq rfl rfl rfl) ?_
      refine G_val rfl rfl rfl rfl (V_pickF rfl rfl rfl) ?_
      refine G_done ?_
      refine G_ifD rfl (fun hc14 => ?_) (fun hc14 => ?_)
      · (first | (exact absurd rfl hc14) | (exact absurd hc14 (by decide)) | (exact absurd (by decide) hc14) | (exfalso; omega) | (exfalso; simp at hc14; done))
      refine G_skip ?_
      refine G_seq ?_
      refine G_region (l := [0, 1, 2, 3, 4]) rfl ?_
      refine G_val rfl rfl rfl rfl (V_fieldAddr (fo := 5) rfl Tryz.underlying36 rfl infLawJournalActs_3 rfl rfl rfl) ?_
      refine G_val rfl rfl rfl rfl (V_load1 rfl rfl (mem_at 10 rfl) rfl Tryz.underlying3 rfl) ?_
      refine G_val rfl rfl rfl rfl (Val.int (e' := ((sp.seq + 1 : Nat) : Int)) (V_add rfl rfl rfl) (by rw [wrap_i64 (by omega)]; omega)) ?_
      refine G_val rfl rfl rfl rfl (V_fieldAddr (fo := 5) rfl Tryz.underlying36 rfl infLawJournalActs_3 rfl rfl rfl) ?_
      refine G_put (l1 := [_, _, _, _, _, _]) (L' := [_, _, _, _, _, _, _, _, _, _, _, _, _]) rfl rfl rfl rfl (P_store1 rfl rfl rfl (mem_at 6 rfl) (by first | exact of_decide_eq_true rfl | omega | (simp [spCells, pCells, wCells, kCells, rgC, lgC, rdC, Sl.v, zeroF, foundC, jC, wC, acC]; done) | (simp [spCells, pCells, wCells, kCells, rgC, lgC, rdC, Sl.v, zeroF, foundC, jC, wC, acC]; omega) | (simp [spCells, pCells, wCells, kCells, rgC, lgC, rdC, Sl.v, zeroF, foundC, jC, wC, acC] at *; omega)) infLawJournalActs_3 rfl rfl) rfl ?_
      refine G_done ?_
      show G _ _ _ [_, _, _, _, _, _, (some b18, .cells (wC tx (u.v rc.length) (a : Int) ((n - (2 + 2 * R) : Nat) : Int) (R : Int) ((sp.seq + 1 : Nat) : Int)).toArray 36 (0, 0)), _, _, _, _, _, _] _
      refine G_region (l := [0, 1]) rfl ?_
      refine G_val rfl rfl rfl rfl (V_move rfl rfl) ?_
      refine G_val rfl rfl rfl rfl (V_assign rfl rfl) ?_
      refine G_done ?_
      refine G_inBlock ?_
      refine G_seq ?_
      refine G_region (l := [0, 1]) rfl ?_
      refine G_val rfl rfl rfl rfl (V_loadW (s := 6) rfl rfl (mem_at 7 rfl) Tryz.underlying36 rfl infLawJournalActs_36 rfl (by rfl)) ?_
      refine G_put (l1 := [_, _, _, _, _, _, _, _, _]) (L' := [_, _, _, _, _, _, _, _, _, _, _, _, _]) rfl rfl rfl rfl (P_storeA (s := 6) rfl rfl rfl (mem_at 9 rfl) (by rfl) infLawJournalActs_36 rfl (by rfl) (by simp [Value.oneCell', spCells, pCells, wCells, kCells, rgC, lgC, rdC, Sl.v, zeroF, foundC, jC, wC, acC])) rfl ?_
      refine G_done ?_
      refine G_seq ?_
      try have hq1 := hj1.a.2
      have hqa : (anewS sp x.2.length).epoch = sp.epoch + 1 := rfl
      have hqn : (nextS sp).epoch = sp.epoch + 1 := rfl
      have hqa2 : (anewS sp x.2.length).seq = sp.seq + 1 := rfl
      have hqn2 : (nextS sp).seq = sp.seq + 1 := rfl
      refine GH_start (Lq := [_]) (isq := [9]) (m := 22) mixedK rfl rfl ?_
      refine GH_take 0 rfl rfl rfl rfl (by kernel_rfl) (by kernel_rfl) (by kernel_rfl) (fun _ _ => (V_move rfl rfl)) ?_
      refine GH_take 1 rfl rfl rfl rfl (by kernel_rfl) (by kernel_rfl) (by kernel_rfl) (fun _ _ => (V_loadW (s := 6) rfl rfl (mem_at 1 rfl) Tryz.underlying36 rfl infLawJournalActs_36 rfl (by rfl))) ?_
      refine GH_all [2] (by kernel_rfl) (by decide) ?_
      refine (And.intro ?_ trivial)
      ·
       refine GHop_call (L2 := [_, _, _, _, _, _, _, _, _, _, _, _, _]) rfl rfl rfl rfl rfl rfl Tryz.call21 ((jl_has d n lb lcap lc1 uw1 k1 h1 R (nextS sp) tx rc hj1.jd tx rc u hu _ _ _).weaken (fun v post h => by rw [decide_eq_true ⟨rfl, rfl⟩] at h; exact h)) [] [1, 2, 3, 13] rfl rfl [9] (by rintro v post ⟨rfl, rfl⟩; exact ⟨_, rfl⟩) ?_
       rintro v post ⟨rfl, rfl⟩
       show GH _ _ _ _ _ _ _ [_, _, _, _, _, _, _, _, _, _, _, _, _] _
       refine GH_take 3 rfl rfl rfl rfl (by kernel_rfl) (by kernel_rfl) (by kernel_rfl) (fun _ _ => (V_not rfl rfl)) ?_
       refine GH_take 4 rfl rfl rfl rfl (by kernel_rfl) (by kernel_rfl) (by kernel_rfl) (fun _ _ => (V_move rfl rfl)) ?_
       refine GH_take 5 rfl rfl rfl rfl (by kernel_rfl) (by kernel_rfl) (by kernel_rfl) (fun _ _ => (V_move rfl rfl)) ?_
       refine GH_take 7 rfl rfl rfl rfl (by kernel_rfl) (by kernel_rfl) (by kernel_rfl) (fun _ _ => (V_fieldAddr (fo := 3) rfl Tryz.underlying36 rfl infLawJournalActs_3 rfl rfl rfl)) ?_
       refine GH_take 8 rfl rfl rfl rfl (by kernel_rfl) (by kernel_rfl) (by kernel_rfl) (fun _ _ => (V_load1 rfl rfl (mem_at 1 rfl) rfl Tryz.underlying3 rfl)) ?_
       refine GH_take 9 rfl rfl rfl rfl (by kernel_rfl) (by kernel_rfl) (by kernel_rfl) (fun _ _ => (V_fieldAddr (fo := 2) rfl Tryz.underlying36 rfl infLawJournalActs_3 rfl rfl rfl)) ?_
       refine GH_take 10 rfl rfl rfl rfl (by kernel_rfl) (by kernel_rfl) (by kernel_rfl) (fun _ _ => (V_load1 rfl rfl (mem_at 1 rfl) rfl Tryz.underlying3 rfl)) ?_
       refine GH_take 11 rfl rfl rfl rfl (by kernel_rfl) (by kernel_rfl) (by kernel_rfl) (fun _ _ => ((V_sub rfl rfl rfl).int (wrap_i64 (by omega)))) ?_
       refine GH_all [6] (by kernel_rfl) (by decide) ?_
       refine (And.intro ?_ trivial)
       ·
        refine GHop_call (L2 := [_, _, _, _, _, _, _, _, _, _, _, _, _]) rfl rfl rfl rfl rfl rfl Tryz.call22 (jn_Left d n R (nextS sp) a j1 g1 (by omega) (by omega)) [] [4, 5] rfl rfl [9] (by rintro v post ⟨rfl, rfl⟩; exact ⟨_, rfl⟩) ?_
        rintro v post ⟨rfl, rfl⟩
        show GH _ _ _ _ _ _ _ [_, _, _, _, _, _, _, _, _, _, _, _, _] _
        refine GH_take 12 rfl rfl rfl rfl (by kernel_rfl) (by kernel_rfl) (by kernel_rfl) (fun _ _ => (V_neq rfl rfl rfl)) ?_
        refine GH_take 13 rfl rfl rfl rfl (by kernel_rfl) (by kernel_rfl) (by kernel_rfl) (fun _ _ => (V_pickF rfl rfl rfl)) ?_
        refine GH_take 14 rfl rfl rfl rfl (by kernel_rfl) (by kernel_rfl) (by kernel_rfl) (fun _ _ => (V_move rfl rfl)) ?_
        refine GH_splitD 206 rfl (fun hc15 => ?_) (fun hc15 => ?_)
        · (first | (exact absurd rfl hc15) | (exact absurd hc15 (by decide)) | (exact absurd (by decide) hc15) | (exfalso; omega) | (exfalso; simp at hc15; done))
        refine GH_take 15 rfl rfl rfl rfl (by kernel_rfl) (by kernel_rfl) (by kernel_rfl) (fun _ _ => (V_move rfl rfl)) ?_
        refine GH_take 17 rfl rfl rfl rfl (by kernel_rfl) (by kernel_rfl) (by kernel_rfl) (fun _ _ => (V_fieldAddr (fo := 5) rfl Tryz.underlying36 rfl infLawJournalActs_3 rfl rfl rfl)) ?_
        refine GH_take 18 rfl rfl rfl rfl (by kernel_rfl) (by kernel_rfl) (by kernel_rfl) (fun _ _ => (V_load1 rfl rfl (mem_at 1 rfl) rfl Tryz.underlying3 rfl)) ?_
        refine GH_take 19 rfl rfl rfl rfl (by kernel_rfl) (by kernel_rfl) (by kernel_rfl) (fun _ _ => ((V_conv rfl rfl Tryz.underlying3 Tryz.underlying50).int (wrap_u32 (by omega)))) ?_
        refine GH_all [16] (by kernel_rfl) (by decide) ?_
        refine (And.intro ?_ trivial)
        ·
         refine GHop_call (L2 := [_, _, _, _, _, _, _, _, _, _, _, _, _]) rfl rfl rfl rfl rfl rfl Tryz.call23 (jn_Epoch d R (nextS sp) j1 g1) [] [4] rfl rfl [9] (by rintro v post ⟨rfl, rfl⟩; exact ⟨_, rfl⟩) ?_
         rintro v post ⟨rfl, rfl⟩
         show GH _ _ _ _ _ _ _ [_, _, _, _, _, _, _, _, _, _, _, _, _] _
         refine GH_take 20 rfl rfl rfl rfl (by kernel_rfl) (by kernel_rfl) (by kernel_rfl) (fun _ _ => (V_neq rfl rfl rfl)) ?_
         refine GH_take 21 rfl rfl rfl rfl (by kernel_rfl) (by kernel_rfl) (by kernel_rfl) (fun _ _ => (V_pickF rfl rfl rfl)) ?_
         refine GH_done (by kernel_rfl) ?_
         refine G_ifD rfl (fun hc16 => ?_) (fun hc16 => ?_)
         · (first | (exact absurd rfl hc16) | (exact absurd hc16 (by decide)) | (exact absurd (by decide) hc16) | (exfalso; omega) | (exfalso; simp at hc16; done))
         refine G_skip ?_
         refine G_inBlock ?_
         refine G_region (l := [0, 1, 2]) rfl ?_
         refine G_val rfl rfl rfl rfl (V_move rfl rfl) ?_
         refine G_val rfl rfl rfl rfl ((V_add rfl rfl rfl).int (wrap_i64 (by omega))) ?_
         refine G_val rfl rfl rfl rfl (V_assign rfl rfl) ?_
         refine G_done ?_
         refine G_sub ?_ [8, 0, 0, 0, 5, 0, 0, 5] ?_ (ih (i + 1, k1, lc1, uw1, (nextS sp), tx, rc, a, j1, g1, u) ?_ ?_)
         · (refine (And.intro ?_ (And.intro ?_ (And.intro ?_ (And.intro ?_ (And.intro ?_ (And.intro ?_ trivial)))))) <;> first | rfl | exact slot_int (by omega) | exact slot_int (by simp))
         · exact ⟨_, rfl⟩
         · exact ⟨by omega, h1, hl1, hj1, by first | (show sp.seq ≤ 2 + (i + 1); omega) | (show sp.seq + 1 ≤ 2 + (i + 1); omega), hu⟩
         · (first | omega | (dsimp only; omega))
    refine G_exit rfl ?_
    refine G_seq ?_
    refine G_region (l := [0, 1]) rfl ?_
    refine G_call (L2 := [_, _, _, _, _, _, _, _]) rfl rfl rfl rfl rfl rfl Tryz.call7 (jl_live) [] [] rfl rfl ?_
    rintro v post ⟨rfl, rfl⟩
    show G _ _ _ [_, _, _, _, _, _, _, _] _
    refine G_val rfl rfl rfl rfl (V_assign rfl rfl) ?_
    refine G_done ?_
    refine G_ret (post := []) Tryz.func3 rfl (RVs_cons (RV_tmp rfl) RVs_nil) [] rfl ?_
    dsimp only [packed]
    exact ⟨rfl, rfl⟩


theorem actx_of {W : World} {es : List Value} (hl : es.length = 2) (h : Reads Tryz.prog W 42 es) : ∃ x : Int × List UInt8, es = acC x ∧ True := by
  match es, hl with
  | [v0, v1], _ =>
    obtain ⟨n0, e0, _⟩ := reads_int (reads_field (s := 1) (vs := [v0]) h Tryz.underlying42 0 _ rfl (by kernel_rfl) rfl) Tryz.underlying3
    obtain ⟨n1, e1, _⟩ := reads_str (reads_field (s := 1) (vs := [v1]) h Tryz.underlying42 1 _ rfl (by kernel_rfl) rfl) Tryz.underlying9
    simp only [List.cons.injEq, and_true] at e0 e1
    subst e0 e1
    exact ⟨(n0, n1), rfl, trivial⟩
instance : Inhabited (Int × List UInt8) := ⟨(0, [])⟩
set_option maxRecDepth 100000 in
theorem two_types : Tryz.prog.cellTypes Tryz.prog.depth 22 = some [3, 3] := by kernel_rfl
set_option maxRecDepth 100000 in
theorem journalActs_walk : LawWalk 3 Tryz.f3 := lawwalk_reads (fun W base args hs hval => by
  rw [Tryz.params3] at hs hval
  obtain ⟨l⟩ := args
  match l, hs with
  | [a, b, c], _ =>
    obtain ⟨cs, rfl, hl, hc⟩ := okv_agg (s := 2) (hval 0 22 a rfl rfl).1 Tryz.underlying22 rfl two_types (by kernel_rfl) rfl
    obtain ⟨_, hr1⟩ := hval 1 9 b rfl rfl
    obtain ⟨h0, hr⟩ := hval 2 23 c rfl rfl
    obtain ⟨p, i, j, rfl, hv⟩ := okv_slice h0 Tryz.underlying23
    obtain ⟨s, es, hs⟩ := reads_str hr1 Tryz.underlying9
    have hb := okc_str (okv_cell (hval 1 9 b rfl rfl).1 Tryz.underlying9 rfl) Tryz.underlying9
    obtain ⟨s, rfl, hs⟩ := hb
    match cs, hl, hc with
    | [v0, v1], _, hc =>
      obtain ⟨n0, rfl, a0, b0⟩ := okc_int (hc 0 v0 3 rfl rfl) Tryz.underlying3
      obtain ⟨n1, rfl, a1, b1⟩ := okc_int (hc 1 v1 3 rfl rfl) Tryz.underlying3
      obtain ⟨o1, p1, q1, c1, T1, f1, l, e1, hk, hg, hb⟩ := reads_slice (sz := 2) hr Tryz.underlying23 (by kernel_rfl) rfl hv acC ac_len (fun _ => True) (fun es hl h => actx_of hl h)
      rw [e1]
      exact ⟨_, has_cons (has_nil _) hb, journalActs_all n0 n1 a0 b0 a1 b1 s hs o1 p1 q1 c1 T1 f1 l hk⟩)


set_option maxRecDepth 100000 in
theorem journalActs_lifted (os : Os) (started : os.Started) (H : Type) (enc : TypeId × Value → H) :
    ReturnsInHanded {} Tryz.checked os 3 .any (fun w args => (Rows.journalActsSpec.pre enc Tryz.prog Tryz.f3 [] false w args ∧ laidMetH Tryz.prog Rows.journalActsRow.laid w) ∧ sizedMet enc Tryz.prog Tryz.f3 (OpenSpec.ofChange Rows.journalActsSpec) false w args)
      (Rows.journalActsSpec.post enc Tryz.prog Tryz.f3 false true false false) := by
  refine returnsInHanded_of_change_and (C := Tryz.checked) (X := fun w _ => laidMetH Tryz.prog Rows.journalActsRow.laid w) (fun _ _ _ hh h => h.of_heap hh) Tryz.ownK started (by kernel_rfl) Tryz.func3
    (ChangeSpec.witness_shaped (enc := enc) (C := Tryz.checked) (os := os) (X := fun w _ => laidMetH Tryz.prog Rows.journalActsRow.laid w) false (World.laidAll Tryz.prog os Rows.journalActsRow.laid) #[.agg #[.int .i64 0, .int .i64 0], .string ByteArray.empty, .slice none 0 0] 8 (World.laidAll_os _ _ _)
      (World.shaped_of_ZipB (by kernel_rfl) (by kernel_rfl)) (by kernel_rfl) (by kernel_rfl) (by kernel_rfl)
      (by rw [MakeChecks.laidMetH_plain _ _ _ (by kernel_rfl)]; exact laidMet_laidAll _ (by kernel_rfl) (by kernel_rfl))) ?_
  intro W base args ds gs before hval hW _ _ _ _
  exact law_end (s := Rows.journalActsSpec) rfl (by kernel_rfl) (by kernel_rfl) (by decide +kernel) (fun ds h => by match ds, h with | [_, _, _], _ => rfl) journalActs_walk W base args ds gs before hval hW
theorem journalActs_said : Rows.JournalActsSaid :=
  OpenClaim.holds_of_wide 3 Tryz.f3 rfl rfl rfl rfl rfl rfl rfl ⟨rfl, rfl, rfl, rfl, rfl⟩ rfl rfl rfl rfl rfl (by kernel_rfl) Tryz.func3 (by kernel_rfl)
    (of_decide_eq_true (by kernel_rfl)) (by unfold Func.isWrapper; first | (rw [if_pos (by decide +kernel)]; kernel_rfl) | (rw [if_neg (by decide +kernel)]; exact ⟨rfl, rfl⟩))
    (fun os started H enc _ => journalActs_lifted os started H enc)
theorem journalActs_holds : Rows.JournalActsCardSaid :=
  Claim7.holds_tied_plain_at .later [] _ _ _ _ journalActs_said (fun _ h => by cases h) (by kernel_rfl) (fun _ h => by cases h) journalActs_row_tie rfl ⟨rfl, rfl⟩ (by kernel_rfl) rfl
    (fun f fn hf hfn => by
      obtain rfl : f = 3 := Option.some.inj ((show Tryz.prog.funcNamed "billet/billetlaw28.JournalActs" = some 3 by kernel_rfl).symm.trans hf) |>.symm
      obtain rfl : fn = Tryz.f3 := (Option.some.inj (Tryz.func3.symm.trans hfn)).symm
      exact ⟨by kernel_rfl, fun j t ht => by
        rw [Tryz.params3] at ht
        have hm : t ∈ [22, 9, 23] := by simpa using Array.mem_of_getElem? ht
        have hall : ([22, 9, 23].all fun u => !Tryz.prog.wantsStandIn u) = true := by kernel_rfl
        exact (show Tryz.prog.wantsStandIn t = false by simpa using List.all_eq_true.1 hall t hm)⟩)
    (by kernel_rfl)
#print axioms journalActs_holds

end
end Go.Proofs.YtbblkgdejgoncaaGreatDoor
