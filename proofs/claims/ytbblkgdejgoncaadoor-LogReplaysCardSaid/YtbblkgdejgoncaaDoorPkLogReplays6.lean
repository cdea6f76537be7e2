/- The law LogReplays: of any blocks that lie on a disk the program replays the records that the document replays, and says as it does how many blocks they have; the call returns true and leaves its arguments as they were. -/
import Derived.Test.YtbblkgdejgoncaaDoorPkLogReplays1
import Derived.Test.YtbblkgdejgoncaaDoorPkLogReplays2
import Derived.Test.YtbblkgdejgoncaaDoorPkLogReplays3
import Derived.Test.YtbblkgdejgoncaaDoorPkLogReplays4
import Derived.Test.YtbblkgdejgoncaaDoorPkLogReplays5
import Derived.Test.YtbblkgdejgoncaaDoorCards
import Derived.Test.YtbblkgdejgoncaaDoorTie
import Derived.Lay
import Derived.LaidOnce
import Derived.SevenTiedAt
import Derived.Deep.DeepHandedRow

/- The laws of layer 26: what they have in common; the example. -/
set_option linter.unusedSimpArgs false
set_option linter.unusedVariables false
namespace Go.Proofs.YtbblkgdejgoncaaDoor
open Go Go.ChangeShapes Go.WideShapes Go.ChangeAt Go.RowKit

section
theorem infLogL_5 : Tryd.prog.info? 5 = some Tryd.t5 := by kernel_rfl


def regB (n : Nat) (f b : Int) : Prop := 0 ≤ f ∧ 1 ≤ b ∧ b ≤ (n : Int) ∧ f ≤ (n : Int) - b
instance (n : Nat) (f b : Int) : Decidable (regB n f b) := by unfold regB; infer_instance

set_option maxRecDepth 100000 in
set_option maxHeartbeats 1000000 in
theorem rl_region (n : Nat) (f b : Int) (hn : n ≤ 1000000) (hf0 : -9223372036854775808 ≤ f) (hf1 : f ≤ 9223372036854775807) (hb0 : -9223372036854775808 ≤ b) (hb1 : b ≤ 9223372036854775807) :
    Ct Tryd.prog 36 [.int .i64 (n : Int), .int .i64 f, .int .i64 b] [] [] fun v post => v = .bool (decide (regB n f b)) ∧ post = [] := by
 refine ct_of Tryd.func36 rfl rfl (fun w0 => ?_)
 show G _ _ [(0, _), (1, _), (2, _)] _ _
 refine G_seq ?_
 refine G_region (l := [0]) rfl ?_
 refine G_val rfl rfl rfl rfl (V_assign rfl rfl) ?_
 refine G_done ?_
 refine G_seq ?_
 refine G_region (l := [0, 1, 2, 3, 4, 5, 6, 7, 8, 9, 10, 11, 12, 13, 14, 15, 16, 17, 18]) rfl ?_
 refine G_val rfl rfl rfl rfl (V_move rfl rfl) ?_
 refine G_val rfl rfl rfl rfl (V_geq rfl rfl rfl) ?_
 refine G_val rfl rfl rfl rfl (V_move rfl rfl) ?_
 refine G_splitD 9 rfl (fun hc1 => ?_) (fun hc1 => ?_)
 · skip
   refine G_val rfl rfl rfl rfl (V_move rfl rfl) ?_
   refine G_val rfl rfl rfl rfl (V_geq rfl rfl rfl) ?_
   refine G_val rfl rfl rfl rfl (V_pickT rfl rfl rfl) ?_
   refine G_val rfl rfl rfl rfl (V_move rfl rfl) ?_
   refine G_splitD 13 rfl (fun hc2 => ?_) (fun hc2 => ?_)
   · skip
     refine G_val rfl rfl rfl rfl (V_move rfl rfl) ?_
     refine G_val rfl rfl rfl rfl (V_move rfl rfl) ?_
     refine G_val rfl rfl rfl rfl (V_leq rfl rfl rfl) ?_
     refine G_val rfl rfl rfl rfl (V_pickT rfl rfl rfl) ?_
     refine G_val rfl rfl rfl rfl (V_move rfl rfl) ?_
     refine G_splitD 18 rfl (fun hc3 => ?_) (fun hc3 => ?_)
     · skip
       refine G_val rfl rfl rfl rfl (V_move rfl rfl) ?_
       refine G_val rfl rfl rfl rfl (V_move rfl rfl) ?_
       refine G_val rfl rfl rfl rfl (V_move rfl rfl) ?_
       first
         | refine G_val rfl rfl rfl rfl ((V_sub rfl rfl rfl).int (wrap_i64 (by omega))) ?_
         | refine G_val rfl rfl rfl rfl (V_sub rfl rfl rfl) ?_
       refine G_val rfl rfl rfl rfl (V_leq rfl rfl rfl) ?_
       refine G_val rfl rfl rfl rfl (V_pickT rfl rfl rfl) ?_
       refine G_val rfl rfl rfl rfl (V_assign rfl rfl) ?_
       refine G_done ?_
       refine G_ret (post := []) Tryd.func36 rfl (RVs_cons (RV_tmp rfl) RVs_nil) [] rfl ?_
       dsimp only [packed]
       refine ⟨?_, rfl⟩; first | exact bool_eq (decide_eq_true (by unfold regB; omega)).symm | exact bool_eq (decide_eq_false (by unfold regB; omega)).symm | exact bool_eq (decide_eq_decide.2 (by unfold regB; omega))
     refine G_off rfl rfl rfl rfl ?_
     refine G_off rfl rfl rfl rfl ?_
     refine G_off rfl rfl rfl rfl ?_
     refine G_off rfl rfl rfl rfl ?_
     refine G_off rfl rfl rfl rfl ?_
     refine G_val rfl rfl rfl rfl (V_pickF rfl rfl rfl) ?_
     refine G_val rfl rfl rfl rfl (V_assign rfl rfl) ?_
     refine G_done ?_
     refine G_ret (post := []) Tryd.func36 rfl (RVs_cons (RV_tmp rfl) RVs_nil) [] rfl ?_
     dsimp only [packed]
     refine ⟨?_, rfl⟩; first | exact bool_eq (decide_eq_true (by unfold regB; omega)).symm | exact bool_eq (decide_eq_false (by unfold regB; omega)).symm | exact bool_eq (decide_eq_decide.2 (by unfold regB; omega))
   refine G_off rfl rfl rfl rfl ?_
   refine G_off rfl rfl rfl rfl ?_
   refine G_off rfl rfl rfl rfl ?_
   refine G_val rfl rfl rfl rfl (V_pickF rfl rfl rfl) ?_
   refine G_val rfl rfl rfl rfl (V_move rfl rfl) ?_
   refine G_off rfl rfl rfl rfl ?_
   refine G_off rfl rfl rfl rfl ?_
   refine G_off rfl rfl rfl rfl ?_
   refine G_off rfl rfl rfl rfl ?_
   refine G_off rfl rfl rfl rfl ?_
   refine G_val rfl rfl rfl rfl (V_pickF rfl rfl rfl) ?_
   refine G_val rfl rfl rfl rfl (V_assign rfl rfl) ?_
   refine G_done ?_
   refine G_ret (post := []) Tryd.func36 rfl (RVs_cons (RV_tmp rfl) RVs_nil) [] rfl ?_
   dsimp only [packed]
   refine ⟨?_, rfl⟩; first | exact bool_eq (decide_eq_true (by unfold regB; omega)).symm | exact bool_eq (decide_eq_false (by unfold regB; omega)).symm | exact bool_eq (decide_eq_decide.2 (by unfold regB; omega))
 refine G_off rfl rfl rfl rfl ?_
 refine G_off rfl rfl rfl rfl ?_
 refine G_val rfl rfl rfl rfl (V_pickF rfl rfl rfl) ?_
 refine G_val rfl rfl rfl rfl (V_move rfl rfl) ?_
 refine G_off rfl rfl rfl rfl ?_
 refine G_off rfl rfl rfl rfl ?_
 refine G_off rfl rfl rfl rfl ?_
 refine G_val rfl rfl rfl rfl (V_pickF rfl rfl rfl) ?_
 refine G_val rfl rfl rfl rfl (V_move rfl rfl) ?_
 refine G_off rfl rfl rfl rfl ?_
 refine G_off rfl rfl rfl rfl ?_
 refine G_off rfl rfl rfl rfl ?_
 refine G_off rfl rfl rfl rfl ?_
 refine G_off rfl rfl rfl rfl ?_
 refine G_val rfl rfl rfl rfl (V_pickF rfl rfl rfl) ?_
 refine G_val rfl rfl rfl rfl (V_assign rfl rfl) ?_
 refine G_done ?_
 refine G_ret (post := []) Tryd.func36 rfl (RVs_cons (RV_tmp rfl) RVs_nil) [] rfl ?_
 dsimp only [packed]
 refine ⟨?_, rfl⟩; first | exact bool_eq (decide_eq_true (by unfold regB; omega)).symm | exact bool_eq (decide_eq_false (by unfold regB; omega)).symm | exact bool_eq (decide_eq_decide.2 (by unfold regB; omega))

set_option maxRecDepth 100000 in
set_option maxHeartbeats 1000000 in
theorem ll_num (n : Int) :
    Ct Tryd.prog 37 [.int .i64 n] [] [] fun v post => v = .int .i64 n ∧ post = [] := by
 refine ct_of Tryd.func37 rfl rfl (fun w0 => ?_)
 show G _ _ [(0, _)] _ _
 refine G_seq ?_
 refine G_region (l := [0]) rfl ?_
 refine G_val rfl rfl rfl rfl (V_assign rfl rfl) ?_
 refine G_done ?_
 refine G_seq ?_
 refine G_region (l := [0, 1]) rfl ?_
 refine G_val rfl rfl rfl rfl (V_move rfl rfl) ?_
 refine G_val rfl rfl rfl rfl (V_assign rfl rfl) ?_
 refine G_done ?_
 refine G_ret (post := []) Tryd.func37 rfl (RVs_cons (RV_tmp rfl) RVs_nil) [] rfl ?_
 dsimp only [packed]
 exact ⟨rfl, rfl⟩


theorem lg_new_ok {n : Nat} {f b : Int} {e : Nat} {a : Int} {d : Nat} {v : Value} {post : List (Option Nat × Obj)} (hr : rgE n f b = 0) (he : 0 < e) (h0 : 0 ≤ a) (h1 : a ≤ b)
    (h : (rgE n f b ≠ 0 ∧ v = .tuple #[.pointer none, .int .i64 1] ∧ post = []) ∨ (rgE n f b = 0 ∧ ((e : Int) = 0 ∨ a < 0 ∨ b < a) ∧ v = .tuple #[.pointer none, .int .i64 1] ∧ post = []) ∨ (rgE n f b = 0 ∧ 0 < e ∧ 0 ≤ a ∧ a ≤ b ∧ ∃ g, v = .tuple #[.pointer (some ⟨g, 0, none⟩), .int .i64 0] ∧ post = [(some g, .cells (lgC d f b e a.toNat).toArray 136 (0, 0))])) :
    ∃ g, v = .tuple #[.pointer (some ⟨g, 0, none⟩), .int .i64 0] ∧ post = [(some g, .cells (lgC d f b e a.toNat).toArray 136 (0, 0))] := by
  rcases h with h | h | h
  · exact absurd hr h.1
  · have := h.2.1; omega
  · exact h.2.2.2.2
attribute [local irreducible] lk1 lk2 rp rpN appK appE appA newD zt

theorem zt_cells (n : Nat) : ((List.replicate n (Value.int .u8 0)).toArray.toList.drop 0).take n = bcells (zt n) := by
  rw [List.drop_zero, List.take_of_length_le (by simp)]; unfold zt; rw [bcells_zero]
set_option maxRecDepth 100000 in
set_option maxHeartbeats 4000000 in
theorem ll_live  :
    Ct Tryd.prog 34 [] [] [] fun v post => v = .bool true ∧ post = [] := by
 obtain ⟨lv1, lv2, lv3, lv4, lv5, lv6, lv7⟩ := live_log
 refine ct_of Tryd.func34 rfl rfl (fun w0 => ?_)
 show G _ _ [] _ _
 refine G_seq ?_
 refine G_region (l := [0]) rfl ?_
 refine G_val rfl rfl rfl rfl (V_assign rfl rfl) ?_
 refine G_done ?_
 refine G_seq ?_
 refine G_region (l := [0, 1, 2, 3, 4, 5]) rfl ?_
 refine G_call (L2 := []) rfl rfl rfl rfl rfl rfl Tryd.call17 (dk_new 8 (by omega) (by omega)) [] [] rfl rfl ?_
 rintro v post ⟨d, lb, lcap, lcs, rfl, h, rfl⟩
 show G _ _ _ [_, _, _] _
 refine G_val rfl rfl rfl rfl (V_move rfl rfl) ?_
 refine G_val rfl rfl rfl rfl (V_extract rfl rfl rfl) ?_
 refine G_val rfl rfl rfl rfl (V_extract rfl rfl rfl) ?_
 refine G_val rfl rfl rfl rfl (V_assign rfl rfl) ?_
 refine G_val rfl rfl rfl rfl (V_assign rfl rfl) ?_
 refine G_done ?_
 refine G_seq ?_
 refine G_region (l := [0, 1, 2, 3, 4, 5, 6]) rfl ?_
 refine G_val rfl rfl rfl rfl (V_move rfl rfl) ?_
 refine G_call (L2 := [_, _, _]) rfl rfl rfl rfl rfl rfl Tryd.call35 ((lg_new d 8 lb lcap lcs slNil (newD 8) h 2 5 (by omega) (by omega) (by omega) (by omega) 7 0 (by omega) (by omega) (by omega)).weaken (fun v post h => lg_new_ok (by decide) (by omega) (by omega) (by omega) h)) [] [0] rfl rfl ?_
 rintro v post ⟨g, rfl, rfl⟩
 show G _ _ _ [_, _, _, _] _
 refine G_val rfl rfl rfl rfl (V_move rfl rfl) ?_
 refine G_val rfl rfl rfl rfl (V_extract rfl rfl rfl) ?_
 refine G_val rfl rfl rfl rfl (V_extract rfl rfl rfl) ?_
 refine G_val rfl rfl rfl rfl (V_assign rfl rfl) ?_
 refine G_val rfl rfl rfl rfl (V_assign rfl rfl) ?_
 refine G_done ?_
 refine G_seq ?_
 refine GH_start (Lq := []) (isq := []) (m := 10) mixedK rfl rfl ?_
 refine GH_take 0 rfl rfl rfl rfl (by kernel_rfl) (by kernel_rfl) (by kernel_rfl) (fun _ _ => (V_move rfl rfl)) ?_
 refine GH_take 4 rfl rfl rfl rfl (by kernel_rfl) (by kernel_rfl) (by kernel_rfl) (fun _ _ => (V_move rfl rfl)) ?_
 refine GH_all [1, 5] (by kernel_rfl) (by decide) ?_
 refine (And.intro ?_ (And.intro ?_ trivial))
 · skip
   refine GHop_new rfl rfl rfl rfl (N_make (l := 42) (m := 42) rfl Tryd.underlying27 infLogL_5 rfl rfl rfl rfl rfl rfl rfl (by first | decide | omega) (by first | decide | omega | (show 1 * _ ≤ _; omega)) (by first | decide | omega)) [] (fun _ => ⟨_, rfl⟩) (fun b20 => ?_)
   refine GH_all [2, 5] (by kernel_rfl) (by decide) ?_
   refine (And.intro ?_ (And.intro ?_ trivial))
   · skip
     refine GHop_val rfl rfl rfl rfl (V_bytesS (l := (zt 42)) rfl rfl Tryd.underlying27 Tryd.underlying5 Tryd.underlying9 (mem_at 0 rfl) (by rw [zt_len]) (zt_cells 42)) ?_
     refine GH_all [3, 5] (by kernel_rfl) (by decide) ?_
     refine (And.intro ?_ (And.intro ?_ trivial))
     · skip
       refine GHop_call (L2 := [_]) rfl rfl rfl rfl rfl rfl Tryd.call41 ((lg_append d 8 lb lcap lcs slNil (newD 8) h g 2 5 7 0 (zt 42) (by decide) (by omega) (by omega) (by omega) (new_W8) (by rw [zt_len]; omega)).weaken (fun v post h => by rw [lv1, lv2, lk1_eq] at h; exact h)) [1, 1, 1, 1] [] rfl rfl [] (by rintro v post ⟨rfl, lcs1, uw1, h1, rfl⟩; exact ⟨_, rfl⟩) ?_
       rintro v post ⟨rfl, lcs1, uw1, h1, rfl⟩
       show GH _ _ _ _ _ _ _ [_, _, _, _, _] _
       refine GH_all [5] (by kernel_rfl) (by decide) ?_
       refine (And.intro ?_ trivial)
       · skip
         refine GHop_new rfl rfl rfl rfl (N_make (l := 43) (m := 43) rfl Tryd.underlying27 infLogL_5 rfl rfl rfl rfl rfl rfl rfl (by first | decide | omega) (by first | decide | omega | (show 1 * _ ≤ _; omega)) (by first | decide | omega)) [] (fun _ => ⟨_, rfl⟩) (fun b24 => ?_)
         refine GH_all [6] (by kernel_rfl) (by decide) ?_
         refine (And.intro ?_ trivial)
         · skip
           refine GHop_val rfl rfl rfl rfl (V_bytesS (l := (zt 43)) rfl rfl Tryd.underlying27 Tryd.underlying5 Tryd.underlying9 (mem_at 0 rfl) (by rw [zt_len]) (zt_cells 43)) ?_
           refine GH_all [7] (by kernel_rfl) (by decide) ?_
           refine (And.intro ?_ trivial)
           · skip
             refine GHop_call (L2 := [_, _]) rfl rfl rfl rfl rfl rfl Tryd.call41 ((lg_append d 8 lb lcap lcs1 uw1 lk1 h1 g 2 5 7 1 (zt 43) (by decide) (by omega) (by omega) (by omega) (by omega) (by rw [zt_len]; omega)).weaken (fun v post h => by rw [lv3, lv4, lk2_eq] at h; exact h)) [1, 1, 1, 1] [] rfl rfl [] (by rintro v post ⟨rfl, lcs1, uw1, h1, rfl⟩; exact ⟨_, rfl⟩) ?_
             rintro v post ⟨rfl, lcs1, uw1, h1, rfl⟩
             show GH _ _ _ _ _ _ _ [_, _, _, _, _, _] _
             refine GH_take 8 rfl rfl rfl rfl (by kernel_rfl) (by kernel_rfl) (by kernel_rfl) (fun _ _ => (V_assign rfl rfl)) ?_
             refine GH_take 9 rfl rfl rfl rfl (by kernel_rfl) (by kernel_rfl) (by kernel_rfl) (fun _ _ => (V_assign rfl rfl)) ?_
             refine GH_done (by kernel_rfl) ?_
             refine G_seq ?_
             refine G_region (l := [0, 1, 2, 3, 4, 5, 6, 7, 8]) rfl ?_
             refine G_val rfl rfl rfl rfl (V_move rfl rfl) ?_
             refine G_call (L2 := [_, _, _, _, _, _]) rfl rfl rfl rfl rfl rfl Tryd.call48 ((lg_replay d 8 lb lcap lcs1 uw1 lk2 h1 2 5 1 9 (by decide) lv5 (by omega) (by omega) (by omega)).weaken (fun v post h => by rw [show (5 : Int).toNat = 5 from rfl, lv7] at h; exact h)) [] [1, 2, 3] rfl rfl ?_
             rintro v post ⟨ur, hur, rfl, rfl⟩
             show G _ _ _ [_, _, _, _, _, _, _] _
             refine G_val rfl rfl rfl rfl (V_move rfl rfl) ?_
             refine G_val rfl rfl rfl rfl (V_extract rfl rfl rfl) ?_
             refine G_val rfl rfl rfl rfl (V_extract rfl rfl rfl) ?_
             refine G_val rfl rfl rfl rfl (V_extract rfl rfl rfl) ?_
             refine G_val rfl rfl rfl rfl (V_assign rfl rfl) ?_
             refine G_val rfl rfl rfl rfl (V_assign rfl rfl) ?_
             refine G_val rfl rfl rfl rfl (V_assign rfl rfl) ?_
             refine G_done ?_
             refine G_seq ?_
             refine G_region (l := [0, 1, 2, 3, 4, 5, 6, 7, 8, 9, 10, 11, 12, 13, 14, 15, 16, 17, 18, 19, 20, 21, 22, 23, 24, 25, 26, 27, 28, 29, 30, 31, 32, 33, 34, 35, 36, 37]) rfl ?_
             refine G_val rfl rfl rfl rfl (V_move rfl rfl) ?_
             refine G_call (L2 := [_, _, _, _, _, _, _]) rfl rfl rfl rfl rfl rfl Tryd.call37 (ll_num _) [] [] rfl rfl ?_
             rintro v post ⟨rfl, rfl⟩
             show G _ _ _ [_, _, _, _, _, _, _] _
             refine G_val rfl rfl rfl rfl (V_eql rfl rfl rfl) ?_
             refine G_val rfl rfl rfl rfl (V_move rfl rfl) ?_
             refine G_splitD 36 rfl (fun hc1 => ?_) (fun hc1 => ?_)
             rotate_left
             · (first | (exact absurd rfl hc1) | (exfalso; omega) | (exfalso; simp at hc1; done))
             refine G_val rfl rfl rfl rfl (V_move rfl rfl) ?_
             refine G_call (L2 := [_, _, _, _, _, _, _]) rfl rfl rfl rfl rfl rfl Tryd.call37 (ll_num _) [] [] rfl rfl ?_
             rintro v post ⟨rfl, rfl⟩
             show G _ _ _ [_, _, _, _, _, _, _] _
             refine G_val rfl rfl rfl rfl (V_eql rfl rfl rfl) ?_
             refine G_val rfl rfl rfl rfl (V_pickT rfl rfl rfl) ?_
             refine G_val rfl rfl rfl rfl (V_move rfl rfl) ?_
             refine G_splitD 41 rfl (fun hc2 => ?_) (fun hc2 => ?_)
             rotate_left
             · (first | (exact absurd rfl hc2) | (exfalso; omega) | (exfalso; simp at hc2; done))
             refine G_val rfl rfl rfl rfl (V_move rfl rfl) ?_
             refine G_call (L2 := [_, _, _, _, _, _, _]) rfl rfl rfl rfl rfl rfl Tryd.call37 (ll_num _) [] [] rfl rfl ?_
             rintro v post ⟨rfl, rfl⟩
             show G _ _ _ [_, _, _, _, _, _, _] _
             refine G_val rfl rfl rfl rfl (V_eql rfl rfl rfl) ?_
             refine G_val rfl rfl rfl rfl (V_pickT rfl rfl rfl) ?_
             refine G_val rfl rfl rfl rfl (V_move rfl rfl) ?_
             refine G_splitD 46 rfl (fun hc3 => ?_) (fun hc3 => ?_)
             rotate_left
             · (first | (exact absurd rfl hc3) | (exfalso; omega) | (exfalso; simp at hc3; done))
             refine G_val rfl rfl rfl rfl (V_move rfl rfl) ?_
             refine G_call (L2 := [_, _, _, _, _, _, _]) rfl rfl rfl rfl rfl rfl Tryd.call37 (ll_num _) [] [] rfl rfl ?_
             rintro v post ⟨rfl, rfl⟩
             show G _ _ _ [_, _, _, _, _, _, _] _
             refine G_val rfl rfl rfl rfl (V_eql rfl rfl rfl) ?_
             refine G_val rfl rfl rfl rfl (V_pickT rfl rfl rfl) ?_
             refine G_val rfl rfl rfl rfl (V_move rfl rfl) ?_
             refine G_splitD 51 rfl (fun hc4 => ?_) (fun hc4 => ?_)
             rotate_left
             · (first | (exact absurd rfl hc4) | (exfalso; omega) | (exfalso; simp at hc4; done))
             refine G_val rfl rfl rfl rfl (V_move rfl rfl) ?_
             refine G_call (L2 := [_, _, _, _, _, _, _]) rfl rfl rfl rfl rfl rfl Tryd.call44 (lg_at d g 2 5 7 3) [] [1] rfl rfl ?_
             rintro v post ⟨rfl, rfl⟩
             show G _ _ _ [_, _, _, _, _, _, _] _
             refine G_val rfl rfl rfl rfl (V_eql rfl rfl rfl) ?_
             refine G_val rfl rfl rfl rfl (V_pickT rfl rfl rfl) ?_
             refine G_val rfl rfl rfl rfl (V_move rfl rfl) ?_
             refine G_splitD 56 rfl (fun hc5 => ?_) (fun hc5 => ?_)
             rotate_left
             · (first | (exact absurd rfl hc5) | (exfalso; omega) | (exfalso; simp at hc5; done))
             refine G_val rfl rfl rfl rfl (V_move rfl rfl) ?_
             refine G_call (L2 := [_, _, _, _, _, _, _]) rfl rfl rfl rfl rfl rfl Tryd.call45 (lg_room d g 2 5 7 3 (by omega) (by omega) (by omega)) [] [1] rfl rfl ?_
             rintro v post ⟨rfl, rfl⟩
             show G _ _ _ [_, _, _, _, _, _, _] _
             refine G_val rfl rfl rfl rfl (V_eql rfl rfl rfl) ?_
             refine G_val rfl rfl rfl rfl (V_pickT rfl rfl rfl) ?_
             refine G_val rfl rfl rfl rfl (V_move rfl rfl) ?_
             refine G_splitD 61 rfl (fun hc6 => ?_) (fun hc6 => ?_)
             rotate_left
             · (first | (exact absurd rfl hc6) | (exfalso; omega) | (exfalso; simp at hc6; done))
             refine G_val rfl rfl rfl rfl (V_move rfl rfl) ?_
             refine G_val rfl rfl rfl rfl (V_len rfl rfl Tryd.underlying24 rfl) ?_
             refine G_val rfl rfl rfl rfl (V_eql rfl rfl rfl) ?_
             refine G_val rfl rfl rfl rfl (V_pickT rfl rfl rfl) ?_
             refine G_val rfl rfl rfl rfl (V_move rfl rfl) ?_
             refine G_splitD 66 rfl (fun hc7 => ?_) (fun hc7 => ?_)
             rotate_left
             · (first | (exact absurd rfl hc7) | (exfalso; omega) | (exfalso; simp at hc7; done))
             refine G_val rfl rfl rfl rfl (V_move rfl rfl) ?_
             refine G_val rfl rfl rfl rfl (V_eql rfl rfl rfl) ?_
             refine G_val rfl rfl rfl rfl (V_pickT rfl rfl rfl) ?_
             refine G_val rfl rfl rfl rfl (V_assign rfl rfl) ?_
             refine G_done ?_
             refine G_ret (post := []) Tryd.func34 rfl (RVs_cons (RV_tmp rfl) RVs_nil) [] rfl ?_
             dsimp only [packed]
             exact ⟨rfl, rfl⟩
     · skip
       refine GHop_new rfl rfl rfl rfl (N_make (l := 43) (m := 43) rfl Tryd.underlying27 infLogL_5 rfl rfl rfl rfl rfl rfl rfl (by first | decide | omega) (by first | decide | omega | (show 1 * _ ≤ _; omega)) (by first | decide | omega)) [] (fun _ => ⟨_, rfl⟩) (fun b24 => ?_)
       refine GH_all [3, 6] (by kernel_rfl) (by decide) ?_
       refine (And.intro ?_ (And.intro ?_ trivial))
       · skip
         refine GHop_call (L2 := [_, _]) rfl rfl rfl rfl rfl rfl Tryd.call41 ((lg_append d 8 lb lcap lcs slNil (newD 8) h g 2 5 7 0 (zt 42) (by decide) (by omega) (by omega) (by omega) (new_W8) (by rw [zt_len]; omega)).weaken (fun v post h => by rw [lv1, lv2, lk1_eq] at h; exact h)) [2, 2, 2, 2] [] rfl rfl [] (by rintro v post ⟨rfl, lcs1, uw1, h1, rfl⟩; exact ⟨_, rfl⟩) ?_
         rintro v post ⟨rfl, lcs1, uw1, h1, rfl⟩
         show GH _ _ _ _ _ _ _ [_, _, _, _, _, _] _
         refine GH_all [6] (by kernel_rfl) (by decide) ?_
         refine (And.intro ?_ trivial)
         · skip
           refine GHop_val rfl rfl rfl rfl (V_bytesS (l := (zt 43)) rfl rfl Tryd.underlying27 Tryd.underlying5 Tryd.underlying9 (mem_at 4 rfl) (by rw [zt_len]) (zt_cells 43)) ?_
           refine GH_all [7] (by kernel_rfl) (by decide) ?_
           refine (And.intro ?_ trivial)
           · skip
             refine GHop_call (L2 := [_, _]) rfl rfl rfl rfl rfl rfl Tryd.call41 ((lg_append d 8 lb lcap lcs1 uw1 lk1 h1 g 2 5 7 1 (zt 43) (by decide) (by omega) (by omega) (by omega) (by omega) (by rw [zt_len]; omega)).weaken (fun v post h => by rw [lv3, lv4, lk2_eq] at h; exact h)) [0, 0, 0, 0] [] rfl rfl [] (by rintro v post ⟨rfl, lcs1, uw1, h1, rfl⟩; exact ⟨_, rfl⟩) ?_
             rintro v post ⟨rfl, lcs1, uw1, h1, rfl⟩
             show GH _ _ _ _ _ _ _ [_, _, _, _, _, _] _
             refine GH_take 8 rfl rfl rfl rfl (by kernel_rfl) (by kernel_rfl) (by kernel_rfl) (fun _ _ => (V_assign rfl rfl)) ?_
             refine GH_take 9 rfl rfl rfl rfl (by kernel_rfl) (by kernel_rfl) (by kernel_rfl) (fun _ _ => (V_assign rfl rfl)) ?_
             refine GH_done (by kernel_rfl) ?_
             refine G_seq ?_
             refine G_region (l := [0, 1, 2, 3, 4, 5, 6, 7, 8]) rfl ?_
             refine G_val rfl rfl rfl rfl (V_move rfl rfl) ?_
             refine G_call (L2 := [_, _, _, _, _, _]) rfl rfl rfl rfl rfl rfl Tryd.call48 ((lg_replay d 8 lb lcap lcs1 uw1 lk2 h1 2 5 1 9 (by decide) lv5 (by omega) (by omega) (by omega)).weaken (fun v post h => by rw [show (5 : Int).toNat = 5 from rfl, lv7] at h; exact h)) [] [1, 2, 3] rfl rfl ?_
             rintro v post ⟨ur, hur, rfl, rfl⟩
             show G _ _ _ [_, _, _, _, _, _, _] _
             refine G_val rfl rfl rfl rfl (V_move rfl rfl) ?_
             refine G_val rfl rfl rfl rfl (V_extract rfl rfl rfl) ?_
             refine G_val rfl rfl rfl rfl (V_extract rfl rfl rfl) ?_
             refine G_val rfl rfl rfl rfl (V_extract rfl rfl rfl) ?_
             refine G_val rfl rfl rfl rfl (V_assign rfl rfl) ?_
             refine G_val rfl rfl rfl rfl (V_assign rfl rfl) ?_
             refine G_val rfl rfl rfl rfl (V_assign rfl rfl) ?_
             refine G_done ?_
             refine G_seq ?_
             refine G_region (l := [0, 1, 2, 3, 4, 5, 6, 7, 8, 9, 10, 11, 12, 13, 14, 15, 16, 17, 18, 19, 20, 21, 22, 23, 24, 25, 26, 27, 28, 29, 30, 31, 32, 33, 34, 35, 36, 37]) rfl ?_
             refine G_val rfl rfl rfl rfl (V_move rfl rfl) ?_
             refine G_call (L2 := [_, _, _, _, _, _, _]) rfl rfl rfl rfl rfl rfl Tryd.call37 (ll_num _) [] [] rfl rfl ?_
             rintro v post ⟨rfl, rfl⟩
             show G _ _ _ [_, _, _, _, _, _, _] _
             refine G_val rfl rfl rfl rfl (V_eql rfl rfl rfl) ?_
             refine G_val rfl rfl rfl rfl (V_move rfl rfl) ?_
             refine G_splitD 36 rfl (fun hc1 => ?_) (fun hc1 => ?_)
             rotate_left
             · (first | (exact absurd rfl hc1) | (exfalso; omega) | (exfalso; simp at hc1; done))
             refine G_val rfl rfl rfl rfl (V_move rfl rfl) ?_
             refine G_call (L2 := [_, _, _, _, _, _, _]) rfl rfl rfl rfl rfl rfl Tryd.call37 (ll_num _) [] [] rfl rfl ?_
             rintro v post ⟨rfl, rfl⟩
             show G _ _ _ [_, _, _, _, _, _, _] _
             refine G_val rfl rfl rfl rfl (V_eql rfl rfl rfl) ?_
             refine G_val rfl rfl rfl rfl (V_pickT rfl rfl rfl) ?_
             refine G_val rfl rfl rfl rfl (V_move rfl rfl) ?_
             refine G_splitD 41 rfl (fun hc2 => ?_) (fun hc2 => ?_)
             rotate_left
             · (first | (exact absurd rfl hc2) | (exfalso; omega) | (exfalso; simp at hc2; done))
             refine G_val rfl rfl rfl rfl (V_move rfl rfl) ?_
             refine G_call (L2 := [_, _, _, _, _, _, _]) rfl rfl rfl rfl rfl rfl Tryd.call37 (ll_num _) [] [] rfl rfl ?_
             rintro v post ⟨rfl, rfl⟩
             show G _ _ _ [_, _, _, _, _, _, _] _
             refine G_val rfl rfl rfl rfl (V_eql rfl rfl rfl) ?_
             refine G_val rfl rfl rfl rfl (V_pickT rfl rfl rfl) ?_
             refine G_val rfl rfl rfl rfl (V_move rfl rfl) ?_
             refine G_splitD 46 rfl (fun hc3 => ?_) (fun hc3 => ?_)
             rotate_left
             · (first | (exact absurd rfl hc3) | (exfalso; omega) | (exfalso; simp at hc3; done))
             refine G_val rfl rfl rfl rfl (V_move rfl rfl) ?_
             refine G_call (L2 := [_, _, _, _, _, _, _]) rfl rfl rfl rfl rfl rfl Tryd.call37 (ll_num _) [] [] rfl rfl ?_
             rintro v post ⟨rfl, rfl⟩
             show G _ _ _ [_, _, _, _, _, _, _] _
             refine G_val rfl rfl rfl rfl (V_eql rfl rfl rfl) ?_
             refine G_val rfl rfl rfl rfl (V_pickT rfl rfl rfl) ?_
             refine G_val rfl rfl rfl rfl (V_move rfl rfl) ?_
             refine G_splitD 51 rfl (fun hc4 => ?_) (fun hc4 => ?_)
             rotate_left
             · (first | (exact absurd rfl hc4) | (exfalso; omega) | (exfalso; simp at hc4; done))
             refine G_val rfl rfl rfl rfl (V_move rfl rfl) ?_
             refine G_call (L2 := [_, _, _, _, _, _, _]) rfl rfl rfl rfl rfl rfl Tryd.call44 (lg_at d g 2 5 7 3) [] [1] rfl rfl ?_
             rintro v post ⟨rfl, rfl⟩
             show G _ _ _ [_, _, _, _, _, _, _] _
             refine G_val rfl rfl rfl rfl (V_eql rfl rfl rfl) ?_
             refine G_val rfl rfl rfl rfl (V_pickT rfl rfl rfl) ?_
             refine G_val rfl rfl rfl rfl (V_move rfl rfl) ?_
             refine G_splitD 56 rfl (fun hc5 => ?_) (fun hc5 => ?_)
             rotate_left
             · (first | (exact absurd rfl hc5) | (exfalso; omega) | (exfalso; simp at hc5; done))
             refine G_val rfl rfl rfl rfl (V_move rfl rfl) ?_
             refine G_call (L2 := [_, _, _, _, _, _, _]) rfl rfl rfl rfl rfl rfl Tryd.call45 (lg_room d g 2 5 7 3 (by omega) (by omega) (by omega)) [] [1] rfl rfl ?_
             rintro v post ⟨rfl, rfl⟩
             show G _ _ _ [_, _, _, _, _, _, _] _
             refine G_val rfl rfl rfl rfl (V_eql rfl rfl rfl) ?_
             refine G_val rfl rfl rfl rfl (V_pickT rfl rfl rfl) ?_
             refine G_val rfl rfl rfl rfl (V_move rfl rfl) ?_
             refine G_splitD 61 rfl (fun hc6 => ?_) (fun hc6 => ?_)
             rotate_left
             · (first | (exact absurd rfl hc6) | (exfalso; omega) | (exfalso; simp at hc6; done))
             refine G_val rfl rfl rfl rfl (V_move rfl rfl) ?_
             refine G_val rfl rfl rfl rfl (V_len rfl rfl Tryd.underlying24 rfl) ?_
             refine G_val rfl rfl rfl rfl (V_eql rfl rfl rfl) ?_
             refine G_val rfl rfl rfl rfl (V_pickT rfl rfl rfl) ?_
             refine G_val rfl rfl rfl rfl (V_move rfl rfl) ?_
             refine G_splitD 66 rfl (fun hc7 => ?_) (fun hc7 => ?_)
             rotate_left
             · (first | (exact absurd rfl hc7) | (exfalso; omega) | (exfalso; simp at hc7; done))
             refine G_val rfl rfl rfl rfl (V_move rfl rfl) ?_
             refine G_val rfl rfl rfl rfl (V_eql rfl rfl rfl) ?_
             refine G_val rfl rfl rfl rfl (V_pickT rfl rfl rfl) ?_
             refine G_val rfl rfl rfl rfl (V_assign rfl rfl) ?_
             refine G_done ?_
             refine G_ret (post := []) Tryd.func34 rfl (RVs_cons (RV_tmp rfl) RVs_nil) [] rfl ?_
             dsimp only [packed]
             exact ⟨rfl, rfl⟩
       · skip
         refine GHop_val rfl rfl rfl rfl (V_bytesS (l := (zt 43)) rfl rfl Tryd.underlying27 Tryd.underlying5 Tryd.underlying9 (mem_at 0 rfl) (by rw [zt_len]) (zt_cells 43)) ?_
         refine GH_all [3] (by kernel_rfl) (by decide) ?_
         refine (And.intro ?_ trivial)
         · skip
           refine GHop_call (L2 := [_, _]) rfl rfl rfl rfl rfl rfl Tryd.call41 ((lg_append d 8 lb lcap lcs slNil (newD 8) h g 2 5 7 0 (zt 42) (by decide) (by omega) (by omega) (by omega) (new_W8) (by rw [zt_len]; omega)).weaken (fun v post h => by rw [lv1, lv2, lk1_eq] at h; exact h)) [2, 2, 2, 2] [] rfl rfl [] (by rintro v post ⟨rfl, lcs1, uw1, h1, rfl⟩; exact ⟨_, rfl⟩) ?_
           rintro v post ⟨rfl, lcs1, uw1, h1, rfl⟩
           show GH _ _ _ _ _ _ _ [_, _, _, _, _, _] _
           refine GH_all [7] (by kernel_rfl) (by decide) ?_
           refine (And.intro ?_ trivial)
           · skip
             refine GHop_call (L2 := [_, _]) rfl rfl rfl rfl rfl rfl Tryd.call41 ((lg_append d 8 lb lcap lcs1 uw1 lk1 h1 g 2 5 7 1 (zt 43) (by decide) (by omega) (by omega) (by omega) (by omega) (by rw [zt_len]; omega)).weaken (fun v post h => by rw [lv3, lv4, lk2_eq] at h; exact h)) [0, 0, 0, 0] [] rfl rfl [] (by rintro v post ⟨rfl, lcs1, uw1, h1, rfl⟩; exact ⟨_, rfl⟩) ?_
             rintro v post ⟨rfl, lcs1, uw1, h1, rfl⟩
             show GH _ _ _ _ _ _ _ [_, _, _, _, _, _] _
             refine GH_take 8 rfl rfl rfl rfl (by kernel_rfl) (by kernel_rfl) (by kernel_rfl) (fun _ _ => (V_assign rfl rfl)) ?_
             refine GH_take 9 rfl rfl rfl rfl (by kernel_rfl) (by kernel_rfl) (by kernel_rfl) (fun _ _ => (V_assign rfl rfl)) ?_
             refine GH_done (by kernel_rfl) ?_
             refine G_seq ?_
             refine G_region (l := [0, 1, 2, 3, 4, 5, 6, 7, 8]) rfl ?_
             refine G_val rfl rfl rfl rfl (V_move rfl rfl) ?_
             refine G_call (L2 := [_, _, _, _, _, _]) rfl rfl rfl rfl rfl rfl Tryd.call48 ((lg_replay d 8 lb lcap lcs1 uw1 lk2 h1 2 5 1 9 (by decide) lv5 (by omega) (by omega) (by omega)).weaken (fun v post h => by rw [show (5 : Int).toNat = 5 from rfl, lv7] at h; exact h)) [] [1, 2, 3] rfl rfl ?_
             rintro v post ⟨ur, hur, rfl, rfl⟩
             show G _ _ _ [_, _, _, _, _, _, _] _
             refine G_val rfl rfl rfl rfl (V_move rfl rfl) ?_
             refine G_val rfl rfl rfl rfl (V_extract rfl rfl rfl) ?_
             refine G_val rfl rfl rfl rfl (V_extract rfl rfl rfl) ?_
             refine G_val rfl rfl rfl rfl (V_extract rfl rfl rfl) ?_
             refine G_val rfl rfl rfl rfl (V_assign rfl rfl) ?_
             refine G_val rfl rfl rfl rfl (V_assign rfl rfl) ?_
             refine G_val rfl rfl rfl rfl (V_assign rfl rfl) ?_
             refine G_done ?_
             refine G_seq ?_
             refine G_region (l := [0, 1, 2, 3, 4, 5, 6, 7, 8, 9, 10, 11, 12, 13, 14, 15, 16, 17, 18, 19, 20, 21, 22, 23, 24, 25, 26, 27, 28, 29, 30, 31, 32, 33, 34, 35, 36, 37]) rfl ?_
             refine G_val rfl rfl rfl rfl (V_move rfl rfl) ?_
             refine G_call (L2 := [_, _, _, _, _, _, _]) rfl rfl rfl rfl rfl rfl Tryd.call37 (ll_num _) [] [] rfl rfl ?_
             rintro v post ⟨rfl, rfl⟩
             show G _ _ _ [_, _, _, _, _, _, _] _
             refine G_val rfl rfl rfl rfl (V_eql rfl rfl rfl) ?_
             refine G_val rfl rfl rfl rfl (V_move rfl rfl) ?_
             refine G_splitD 36 rfl (fun hc1 => ?_) (fun hc1 => ?_)
             rotate_left
             · (first | (exact absurd rfl hc1) | (exfalso; omega) | (exfalso; simp at hc1; done))
             refine G_val rfl rfl rfl rfl (V_move rfl rfl) ?_
             refine G_call (L2 := [_, _, _, _, _, _, _]) rfl rfl rfl rfl rfl rfl Tryd.call37 (ll_num _) [] [] rfl rfl ?_
             rintro v post ⟨rfl, rfl⟩
             show G _ _ _ [_, _, _, _, _, _, _] _
             refine G_val rfl rfl rfl rfl (V_eql rfl rfl rfl) ?_
             refine G_val rfl rfl rfl rfl (V_pickT rfl rfl rfl) ?_
             refine G_val rfl rfl rfl rfl (V_move rfl rfl) ?_
             refine G_splitD 41 rfl (fun hc2 => ?_) (fun hc2 => ?_)
             rotate_left
             · (first | (exact absurd rfl hc2) | (exfalso; omega) | (exfalso; simp at hc2; done))
             refine G_val rfl rfl rfl rfl (V_move rfl rfl) ?_
             refine G_call (L2 := [_, _, _, _, _, _, _]) rfl rfl rfl rfl rfl rfl Tryd.call37 (ll_num _) [] [] rfl rfl ?_
             rintro v post ⟨rfl, rfl⟩
             show G _ _ _ [_, _, _, _, _, _, _] _
             refine G_val rfl rfl rfl rfl (V_eql rfl rfl rfl) ?_
             refine G_val rfl rfl rfl rfl (V_pickT rfl rfl rfl) ?_
             refine G_val rfl rfl rfl rfl (V_move rfl rfl) ?_
             refine G_splitD 46 rfl (fun hc3 => ?_) (fun hc3 => ?_)
             rotate_left
             · (first | (exact absurd rfl hc3) | (exfalso; omega) | (exfalso; simp at hc3; done))
             refine G_val rfl rfl rfl rfl (V_move rfl rfl) ?_
             refine G_call (L2 := [_, _, _, _, _, _, _]) rfl rfl rfl rfl rfl rfl Tryd.call37 (ll_num _) [] [] rfl rfl ?_
             rintro v post ⟨rfl, rfl⟩
             show G _ _ _ [_, _, _, _, _, _, _] _
             refine G_val rfl rfl rfl rfl (V_eql rfl rfl rfl) ?_
             refine G_val rfl rfl rfl rfl (V_pickT rfl rfl rfl) ?_
             refine G_val rfl rfl rfl rfl (V_move rfl rfl) ?_
             refine G_splitD 51 rfl (fun hc4 => ?_) (fun hc4 => ?_)
             rotate_left
             · (first | (exact absurd rfl hc4) | (exfalso; omega) | (exfalso; simp at hc4; done))
             refine G_val rfl rfl rfl rfl (V_move rfl rfl) ?_
             refine G_call (L2 := [_, _, _, _, _, _, _]) rfl rfl rfl rfl rfl rfl Tryd.call44 (lg_at d g 2 5 7 3) [] [1] rfl rfl ?_
             rintro v post ⟨rfl, rfl⟩
             show G _ _ _ [_, _, _, _, _, _, _] _
             refine G_val rfl rfl rfl rfl (V_eql rfl rfl rfl) ?_
             refine G_val rfl rfl rfl rfl (V_pickT rfl rfl rfl) ?_
             refine G_val rfl rfl rfl rfl (V_move rfl rfl) ?_
             refine G_splitD 56 rfl (fun hc5 => ?_) (fun hc5 => ?_)
             rotate_left
             · (first | (exact absurd rfl hc5) | (exfalso; omega) | (exfalso; simp at hc5; done))
             refine G_val rfl rfl rfl rfl (V_move rfl rfl) ?_
             refine G_call (L2 := [_, _, _, _, _, _, _]) rfl rfl rfl rfl rfl rfl Tryd.call45 (lg_room d g 2 5 7 3 (by omega) (by omega) (by omega)) [] [1] rfl rfl ?_
             rintro v post ⟨rfl, rfl⟩
             show G _ _ _ [_, _, _, _, _, _, _] _
             refine G_val rfl rfl rfl rfl (V_eql rfl rfl rfl) ?_
             refine G_val rfl rfl rfl rfl (V_pickT rfl rfl rfl) ?_
             refine G_val rfl rfl rfl rfl (V_move rfl rfl) ?_
             refine G_splitD 61 rfl (fun hc6 => ?_) (fun hc6 => ?_)
             rotate_left
             · (first | (exact absurd rfl hc6) | (exfalso; omega) | (exfalso; simp at hc6; done))
             refine G_val rfl rfl rfl rfl (V_move rfl rfl) ?_
             refine G_val rfl rfl rfl rfl (V_len rfl rfl Tryd.underlying24 rfl) ?_
             refine G_val rfl rfl rfl rfl (V_eql rfl rfl rfl) ?_
             refine G_val rfl rfl rfl rfl (V_pickT rfl rfl rfl) ?_
             refine G_val rfl rfl rfl rfl (V_move rfl rfl) ?_
             refine G_splitD 66 rfl (fun hc7 => ?_) (fun hc7 => ?_)
             rotate_left
             · (first | (exact absurd rfl hc7) | (exfalso; omega) | (exfalso; simp at hc7; done))
             refine G_val rfl rfl rfl rfl (V_move rfl rfl) ?_
             refine G_val rfl rfl rfl rfl (V_eql rfl rfl rfl) ?_
             refine G_val rfl rfl rfl rfl (V_pickT rfl rfl rfl) ?_
             refine G_val rfl rfl rfl rfl (V_assign rfl rfl) ?_
             refine G_done ?_
             refine G_ret (post := []) Tryd.func34 rfl (RVs_cons (RV_tmp rfl) RVs_nil) [] rfl ?_
             dsimp only [packed]
             exact ⟨rfl, rfl⟩
   · skip
     refine GHop_new rfl rfl rfl rfl (N_make (l := 43) (m := 43) rfl Tryd.underlying27 infLogL_5 rfl rfl rfl rfl rfl rfl rfl (by first | decide | omega) (by first | decide | omega | (show 1 * _ ≤ _; omega)) (by first | decide | omega)) [] (fun _ => ⟨_, rfl⟩) (fun b24 => ?_)
     refine GH_all [2, 6] (by kernel_rfl) (by decide) ?_
     refine (And.intro ?_ (And.intro ?_ trivial))
     · skip
       refine GHop_val rfl rfl rfl rfl (V_bytesS (l := (zt 42)) rfl rfl Tryd.underlying27 Tryd.underlying5 Tryd.underlying9 (mem_at 1 rfl) (by rw [zt_len]) (zt_cells 42)) ?_
       refine GH_all [3, 6] (by kernel_rfl) (by decide) ?_
       refine (And.intro ?_ (And.intro ?_ trivial))
       · skip
         refine GHop_call (L2 := [_, _]) rfl rfl rfl rfl rfl rfl Tryd.call41 ((lg_append d 8 lb lcap lcs slNil (newD 8) h g 2 5 7 0 (zt 42) (by decide) (by omega) (by omega) (by omega) (new_W8) (by rw [zt_len]; omega)).weaken (fun v post h => by rw [lv1, lv2, lk1_eq] at h; exact h)) [2, 2, 2, 2] [] rfl rfl [] (by rintro v post ⟨rfl, lcs1, uw1, h1, rfl⟩; exact ⟨_, rfl⟩) ?_
         rintro v post ⟨rfl, lcs1, uw1, h1, rfl⟩
         show GH _ _ _ _ _ _ _ [_, _, _, _, _, _] _
         refine GH_all [6] (by kernel_rfl) (by decide) ?_
         refine (And.intro ?_ trivial)
         · skip
           refine GHop_val rfl rfl rfl rfl (V_bytesS (l := (zt 43)) rfl rfl Tryd.underlying27 Tryd.underlying5 Tryd.underlying9 (mem_at 4 rfl) (by rw [zt_len]) (zt_cells 43)) ?_
           refine GH_all [7] (by kernel_rfl) (by decide) ?_
           refine (And.intro ?_ trivial)
           · skip
             refine GHop_call (L2 := [_, _]) rfl rfl rfl rfl rfl rfl Tryd.call41 ((lg_append d 8 lb lcap lcs1 uw1 lk1 h1 g 2 5 7 1 (zt 43) (by decide) (by omega) (by omega) (by omega) (by omega) (by rw [zt_len]; omega)).weaken (fun v post h => by rw [lv3, lv4, lk2_eq] at h; exact h)) [0, 0, 0, 0] [] rfl rfl [] (by rintro v post ⟨rfl, lcs1, uw1, h1, rfl⟩; exact ⟨_, rfl⟩) ?_
             rintro v post ⟨rfl, lcs1, uw1, h1, rfl⟩
             show GH _ _ _ _ _ _ _ [_, _, _, _, _, _] _
             refine GH_take 8 rfl rfl rfl rfl (by kernel_rfl) (by kernel_rfl) (by kernel_rfl) (fun _ _ => (V_assign rfl rfl)) ?_
             refine GH_take 9 rfl rfl rfl rfl (by kernel_rfl) (by kernel_rfl) (by kernel_rfl) (fun _ _ => (V_assign rfl rfl)) ?_
             refine GH_done (by kernel_rfl) ?_
             refine G_seq ?_
             refine G_region (l := [0, 1, 2, 3, 4, 5, 6, 7, 8]) rfl ?_
             refine G_val rfl rfl rfl rfl (V_move rfl rfl) ?_
             refine G_call (L2 := [_, _, _, _, _, _]) rfl rfl rfl rfl rfl rfl Tryd.call48 ((lg_replay d 8 lb lcap lcs1 uw1 lk2 h1 2 5 1 9 (by decide) lv5 (by omega) (by omega) (by omega)).weaken (fun v post h => by rw [show (5 : Int).toNat = 5 from rfl, lv7] at h; exact h)) [] [1, 2, 3] rfl rfl ?_
             rintro v post ⟨ur, hur, rfl, rfl⟩
             show G _ _ _ [_, _, _, _, _, _, _] _
             refine G_val rfl rfl rfl rfl (V_move rfl rfl) ?_
             refine G_val rfl rfl rfl rfl (V_extract rfl rfl rfl) ?_
             refine G_val rfl rfl rfl rfl (V_extract rfl rfl rfl) ?_
             refine G_val rfl rfl rfl rfl (V_extract rfl rfl rfl) ?_
             refine G_val rfl rfl rfl rfl (V_assign rfl rfl) ?_
             refine G_val rfl rfl rfl rfl (V_assign rfl rfl) ?_
             refine G_val rfl rfl rfl rfl (V_assign rfl rfl) ?_
             refine G_done ?_
             refine G_seq ?_
             refine G_region (l := [0, 1, 2, 3, 4, 5, 6, 7, 8, 9, 10, 11, 12, 13, 14, 15, 16, 17, 18, 19, 20, 21, 22, 23, 24, 25, 26, 27, 28, 29, 30, 31, 32, 33, 34, 35, 36, 37]) rfl ?_
             refine G_val rfl rfl rfl rfl (V_move rfl rfl) ?_
             refine G_call (L2 := [_, _, _, _, _, _, _]) rfl rfl rfl rfl rfl rfl Tryd.call37 (ll_num _) [] [] rfl rfl ?_
             rintro v post ⟨rfl, rfl⟩
             show G _ _ _ [_, _, _, _, _, _, _] _
             refine G_val rfl rfl rfl rfl (V_eql rfl rfl rfl) ?_
             refine G_val rfl rfl rfl rfl (V_move rfl rfl) ?_
             refine G_splitD 36 rfl (fun hc1 => ?_) (fun hc1 => ?_)
             rotate_left
             · (first | (exact absurd rfl hc1) | (exfalso; omega) | (exfalso; simp at hc1; done))
             refine G_val rfl rfl rfl rfl (V_move rfl rfl) ?_
             refine G_call (L2 := [_, _, _, _, _, _, _]) rfl rfl rfl rfl rfl rfl Tryd.call37 (ll_num _) [] [] rfl rfl ?_
             rintro v post ⟨rfl, rfl⟩
             show G _ _ _ [_, _, _, _, _, _, _] _
             refine G_val rfl rfl rfl rfl (V_eql rfl rfl rfl) ?_
             refine G_val rfl rfl rfl rfl (V_pickT rfl rfl rfl) ?_
             refine G_val rfl rfl rfl rfl (V_move rfl rfl) ?_
             refine G_splitD 41 rfl (fun hc2 => ?_) (fun hc2 => ?_)
             rotate_left
             · (first | (exact absurd rfl hc2) | (exfalso; omega) | (exfalso; simp at hc2; done))
             refine G_val rfl rfl rfl rfl (V_move rfl rfl) ?_
             refine G_call (L2 := [_, _, _, _, _, _, _]) rfl rfl rfl rfl rfl rfl Tryd.call37 (ll_num _) [] [] rfl rfl ?_
             rintro v post ⟨rfl, rfl⟩
             show G _ _ _ [_, _, _, _, _, _, _] _
             refine G_val rfl rfl rfl rfl (V_eql rfl rfl rfl) ?_
             refine G_val rfl rfl rfl rfl (V_pickT rfl rfl rfl) ?_
             refine G_val rfl rfl rfl rfl (V_move rfl rfl) ?_
             refine G_splitD 46 rfl (fun hc3 => ?_) (fun hc3 => ?_)
             rotate_left
             · (first | (exact absurd rfl hc3) | (exfalso; omega) | (exfalso; simp at hc3; done))
             refine G_val rfl rfl rfl rfl (V_move rfl rfl) ?_
             refine G_call (L2 := [_, _, _, _, _, _, _]) rfl rfl rfl rfl rfl rfl Tryd.call37 (ll_num _) [] [] rfl rfl ?_
             rintro v post ⟨rfl, rfl⟩
             show G _ _ _ [_, _, _, _, _, _, _] _
             refine G_val rfl rfl rfl rfl (V_eql rfl rfl rfl) ?_
             refine G_val rfl rfl rfl rfl (V_pickT rfl rfl rfl) ?_
             refine G_val rfl rfl rfl rfl (V_move rfl rfl) ?_
             refine G_splitD 51 rfl (fun hc4 => ?_) (fun hc4 => ?_)
             rotate_left
             · (first | (exact absurd rfl hc4) | (exfalso; omega) | (exfalso; simp at hc4; done))
             refine G_val rfl rfl rfl rfl (V_move rfl rfl) ?_
             refine G_call (L2 := [_, _, _, _, _, _, _]) rfl rfl rfl rfl rfl rfl Tryd.call44 (lg_at d g 2 5 7 3) [] [1] rfl rfl ?_
             rintro v post ⟨rfl, rfl⟩
             show G _ _ _ [_, _, _, _, _, _, _] _
             refine G_val rfl rfl rfl rfl (V_eql rfl rfl rfl) ?_
             refine G_val rfl rfl rfl rfl (V_pickT rfl rfl rfl) ?_
             refine G_val rfl rfl rfl rfl (V_move rfl rfl) ?_
             refine G_splitD 56 rfl (fun hc5 => ?_) (fun hc5 => ?_)
             rotate_left
             · (first | (exact absurd rfl hc5) | (exfalso; omega) | (exfalso; simp at hc5; done))
             refine G_val rfl rfl rfl rfl (V_move rfl rfl) ?_
             refine G_call (L2 := [_, _, _, _, _, _, _]) rfl rfl rfl rfl rfl rfl Tryd.call45 (lg_room d g 2 5 7 3 (by omega) (by omega) (by omega)) [] [1] rfl rfl ?_
             rintro v post ⟨rfl, rfl⟩
             show G _ _ _ [_, _, _, _, _, _, _] _
             refine G_val rfl rfl rfl rfl (V_eql rfl rfl rfl) ?_
             refine G_val rfl rfl rfl rfl (V_pickT rfl rfl rfl) ?_
             refine G_val rfl rfl rfl rfl (V_move rfl rfl) ?_
             refine G_splitD 61 rfl (fun hc6 => ?_) (fun hc6 => ?_)
             rotate_left
             · (first | (exact absurd rfl hc6) | (exfalso; omega) | (exfalso; simp at hc6; done))
             refine G_val rfl rfl rfl rfl (V_move rfl rfl) ?_
             refine G_val rfl rfl rfl rfl (V_len rfl rfl Tryd.underlying24 rfl) ?_
             refine G_val rfl rfl rfl rfl (V_eql rfl rfl rfl) ?_
             refine G_val rfl rfl rfl rfl (V_pickT rfl rfl rfl) ?_
             refine G_val rfl rfl rfl rfl (V_move rfl rfl) ?_
             refine G_splitD 66 rfl (fun hc7 => ?_) (fun hc7 => ?_)
             rotate_left
             · (first | (exact absurd rfl hc7) | (exfalso; omega) | (exfalso; simp at hc7; done))
             refine G_val rfl rfl rfl rfl (V_move rfl rfl) ?_
             refine G_val rfl rfl rfl rfl (V_eql rfl rfl rfl) ?_
             refine G_val rfl rfl rfl rfl (V_pickT rfl rfl rfl) ?_
             refine G_val rfl rfl rfl rfl (V_assign rfl rfl) ?_
             refine G_done ?_
             refine G_ret (post := []) Tryd.func34 rfl (RVs_cons (RV_tmp rfl) RVs_nil) [] rfl ?_
             dsimp only [packed]
             exact ⟨rfl, rfl⟩
       · skip
         refine GHop_val rfl rfl rfl rfl (V_bytesS (l := (zt 43)) rfl rfl Tryd.underlying27 Tryd.underlying5 Tryd.underlying9 (mem_at 0 rfl) (by rw [zt_len]) (zt_cells 43)) ?_
         refine GH_all [3] (by kernel_rfl) (by decide) ?_
         refine (And.intro ?_ trivial)
         · skip
           refine GHop_call (L2 := [_, _]) rfl rfl rfl rfl rfl rfl Tryd.call41 ((lg_append d 8 lb lcap lcs slNil (newD 8) h g 2 5 7 0 (zt 42) (by decide) (by omega) (by omega) (by omega) (new_W8) (by rw [zt_len]; omega)).weaken (fun v post h => by rw [lv1, lv2, lk1_eq] at h; exact h)) [2, 2, 2, 2] [] rfl rfl [] (by rintro v post ⟨rfl, lcs1, uw1, h1, rfl⟩; exact ⟨_, rfl⟩) ?_
           rintro v post ⟨rfl, lcs1, uw1, h1, rfl⟩
           show GH _ _ _ _ _ _ _ [_, _, _, _, _, _] _
           refine GH_all [7] (by kernel_rfl) (by decide) ?_
           refine (And.intro ?_ trivial)
           · skip
             refine GHop_call (L2 := [_, _]) rfl rfl rfl rfl rfl rfl Tryd.call41 ((lg_append d 8 lb lcap lcs1 uw1 lk1 h1 g 2 5 7 1 (zt 43) (by decide) (by omega) (by omega) (by omega) (by omega) (by rw [zt_len]; omega)).weaken (fun v post h => by rw [lv3, lv4, lk2_eq] at h; exact h)) [0, 0, 0, 0] [] rfl rfl [] (by rintro v post ⟨rfl, lcs1, uw1, h1, rfl⟩; exact ⟨_, rfl⟩) ?_
             rintro v post ⟨rfl, lcs1, uw1, h1, rfl⟩
             show GH _ _ _ _ _ _ _ [_, _, _, _, _, _] _
             refine GH_take 8 rfl rfl rfl rfl (by kernel_rfl) (by kernel_rfl) (by kernel_rfl) (fun _ _ => (V_assign rfl rfl)) ?_
             refine GH_take 9 rfl rfl rfl rfl (by kernel_rfl) (by kernel_rfl) (by kernel_rfl) (fun _ _ => (V_assign rfl rfl)) ?_
             refine GH_done (by kernel_rfl) ?_
             refine G_seq ?_
             refine G_region (l := [0, 1, 2, 3, 4, 5, 6, 7, 8]) rfl ?_
             refine G_val rfl rfl rfl rfl (V_move rfl rfl) ?_
             refine G_call (L2 := [_, _, _, _, _, _]) rfl rfl rfl rfl rfl rfl Tryd.call48 ((lg_replay d 8 lb lcap lcs1 uw1 lk2 h1 2 5 1 9 (by decide) lv5 (by omega) (by omega) (by omega)).weaken (fun v post h => by rw [show (5 : Int).toNat = 5 from rfl, lv7] at h; exact h)) [] [1, 2, 3] rfl rfl ?_
             rintro v post ⟨ur, hur, rfl, rfl⟩
             show G _ _ _ [_, _, _, _, _, _, _] _
             refine G_val rfl rfl rfl rfl (V_move rfl rfl) ?_
             refine G_val rfl rfl rfl rfl (V_extract rfl rfl rfl) ?_
             refine G_val rfl rfl rfl rfl (V_extract rfl rfl rfl) ?_
             refine G_val rfl rfl rfl rfl (V_extract rfl rfl rfl) ?_
             refine G_val rfl rfl rfl rfl (V_assign rfl rfl) ?_
             refine G_val rfl rfl rfl rfl (V_assign rfl rfl) ?_
             refine G_val rfl rfl rfl rfl (V_assign rfl rfl) ?_
             refine G_done ?_
             refine G_seq ?_
             refine G_region (l := [0, 1, 2, 3, 4, 5, 6, 7, 8, 9, 10, 11, 12, 13, 14, 15, 16, 17, 18, 19, 20, 21, 22, 23, 24, 25, 26, 27, 28, 29, 30, 31, 32, 33, 34, 35, 36, 37]) rfl ?_
             refine G_val rfl rfl rfl rfl (V_move rfl rfl) ?_
             refine G_call (L2 := [_, _, _, _, _, _, _]) rfl rfl rfl rfl rfl rfl Tryd.call37 (ll_num _) [] [] rfl rfl ?_
             rintro v post ⟨rfl, rfl⟩
             show G _ _ _ [_, _, _, _, _, _, _] _
             refine G_val rfl rfl rfl rfl (V_eql rfl rfl rfl) ?_
             refine G_val rfl rfl rfl rfl (V_move rfl rfl) ?_
             refine G_splitD 36 rfl (fun hc1 => ?_) (fun hc1 => ?_)
             rotate_left
             · (first | (exact absurd rfl hc1) | (exfalso; omega) | (exfalso; simp at hc1; done))
             refine G_val rfl rfl rfl rfl (V_move rfl rfl) ?_
             refine G_call (L2 := [_, _, _, _, _, _, _]) rfl rfl rfl rfl rfl rfl Tryd.call37 (ll_num _) [] [] rfl rfl ?_
             rintro v post ⟨rfl, rfl⟩
             show G _ _ _ [_, _, _, _, _, _, _] _
             refine G_val rfl rfl rfl rfl (V_eql rfl rfl rfl) ?_
             refine G_val rfl rfl rfl rfl (V_pickT rfl rfl rfl) ?_
             refine G_val rfl rfl rfl rfl (V_move rfl rfl) ?_
             refine G_splitD 41 rfl (fun hc2 => ?_) (fun hc2 => ?_)
             rotate_left
             · (first | (exact absurd rfl hc2) | (exfalso; omega) | (exfalso; simp at hc2; done))
             refine G_val rfl rfl rfl rfl (V_move rfl rfl) ?_
             refine G_call (L2 := [_, _, _, _, _, _, _]) rfl rfl rfl rfl rfl rfl Tryd.call37 (ll_num _) [] [] rfl rfl ?_
             rintro v post ⟨rfl, rfl⟩
             show G _ _ _ [_, _, _, _, _, _, _] _
             refine G_val rfl rfl rfl rfl (V_eql rfl rfl rfl) ?_
             refine G_val rfl rfl rfl rfl (V_pickT rfl rfl rfl) ?_
             refine G_val rfl rfl rfl rfl (V_move rfl rfl) ?_
             refine G_splitD 46 rfl (fun hc3 => ?_) (fun hc3 => ?_)
             rotate_left
             · (first | (exact absurd rfl hc3) | (exfalso; omega) | (exfalso; simp at hc3; done))
             refine G_val rfl rfl rfl rfl (V_move rfl rfl) ?_
             refine G_call (L2 := [_, _, _, _, _, _, _]) rfl rfl rfl rfl rfl rfl Tryd.call37 (ll_num _) [] [] rfl rfl ?_
             rintro v post ⟨rfl, rfl⟩
             show G _ _ _ [_, _, _, _, _, _, _] _
             refine G_val rfl rfl rfl rfl (V_eql rfl rfl rfl) ?_
             refine G_val rfl rfl rfl rfl (V_pickT rfl rfl rfl) ?_
             refine G_val rfl rfl rfl rfl (V_move rfl rfl) ?_
             refine G_splitD 51 rfl (fun hc4 => ?_) (fun hc4 => ?_)
             rotate_left
             · (first | (exact absurd rfl hc4) | (exfalso; omega) | (exfalso; simp at hc4; done))
             refine G_val rfl rfl rfl rfl (V_move rfl rfl) ?_
             refine G_call (L2 := [_, _, _, _, _, _, _]) rfl rfl rfl rfl rfl rfl Tryd.call44 (lg_at d g 2 5 7 3) [] [1] rfl rfl ?_
             rintro v post ⟨rfl, rfl⟩
             show G _ _ _ [_, _, _, _, _, _, _] _
             refine G_val rfl rfl rfl rfl (V_eql rfl rfl rfl) ?_
             refine G_val rfl rfl rfl rfl (V_pickT rfl rfl rfl) ?_
             refine G_val rfl rfl rfl rfl (V_move rfl rfl) ?_
             refine G_splitD 56 rfl (fun hc5 => ?_) (fun hc5 => ?_)
             rotate_left
             · (first | (exact absurd rfl hc5) | (exfalso; omega) | (exfalso; simp at hc5; done))
             refine G_val rfl rfl rfl rfl (V_move rfl rfl) ?_
             refine G_call (L2 := [_, _, _, _, _, _, _]) rfl rfl rfl rfl rfl rfl Tryd.call45 (lg_room d g 2 5 7 3 (by omega) (by omega) (by omega)) [] [1] rfl rfl ?_
             rintro v post ⟨rfl, rfl⟩
             show G _ _ _ [_, _, _, _, _, _, _] _
             refine G_val rfl rfl rfl rfl (V_eql rfl rfl rfl) ?_
             refine G_val rfl rfl rfl rfl (V_pickT rfl rfl rfl) ?_
             refine G_val rfl rfl rfl rfl (V_move rfl rfl) ?_
             refine G_splitD 61 rfl (fun hc6 => ?_) (fun hc6 => ?_)
             rotate_left
             · (first | (exact absurd rfl hc6) | (exfalso; omega) | (exfalso; simp at hc6; done))
             refine G_val rfl rfl rfl rfl (V_move rfl rfl) ?_
             refine G_val rfl rfl rfl rfl (V_len rfl rfl Tryd.underlying24 rfl) ?_
             refine G_val rfl rfl rfl rfl (V_eql rfl rfl rfl) ?_
             refine G_val rfl rfl rfl rfl (V_pickT rfl rfl rfl) ?_
             refine G_val rfl rfl rfl rfl (V_move rfl rfl) ?_
             refine G_splitD 66 rfl (fun hc7 => ?_) (fun hc7 => ?_)
             rotate_left
             · (first | (exact absurd rfl hc7) | (exfalso; omega) | (exfalso; simp at hc7; done))
             refine G_val rfl rfl rfl rfl (V_move rfl rfl) ?_
             refine G_val rfl rfl rfl rfl (V_eql rfl rfl rfl) ?_
             refine G_val rfl rfl rfl rfl (V_pickT rfl rfl rfl) ?_
             refine G_val rfl rfl rfl rfl (V_assign rfl rfl) ?_
             refine G_done ?_
             refine G_ret (post := []) Tryd.func34 rfl (RVs_cons (RV_tmp rfl) RVs_nil) [] rfl ?_
             dsimp only [packed]
             exact ⟨rfl, rfl⟩
     · skip
       refine GHop_val rfl rfl rfl rfl (V_bytesS (l := (zt 43)) rfl rfl Tryd.underlying27 Tryd.underlying5 Tryd.underlying9 (mem_at 0 rfl) (by rw [zt_len]) (zt_cells 43)) ?_
       refine GH_all [2] (by kernel_rfl) (by decide) ?_
       refine (And.intro ?_ trivial)
       · skip
         refine GHop_val rfl rfl rfl rfl (V_bytesS (l := (zt 42)) rfl rfl Tryd.underlying27 Tryd.underlying5 Tryd.underlying9 (mem_at 1 rfl) (by rw [zt_len]) (zt_cells 42)) ?_
         refine GH_all [3] (by kernel_rfl) (by decide) ?_
         refine (And.intro ?_ trivial)
         · skip
           refine GHop_call (L2 := [_, _]) rfl rfl rfl rfl rfl rfl Tryd.call41 ((lg_append d 8 lb lcap lcs slNil (newD 8) h g 2 5 7 0 (zt 42) (by decide) (by omega) (by omega) (by omega) (new_W8) (by rw [zt_len]; omega)).weaken (fun v post h => by rw [lv1, lv2, lk1_eq] at h; exact h)) [2, 2, 2, 2] [] rfl rfl [] (by rintro v post ⟨rfl, lcs1, uw1, h1, rfl⟩; exact ⟨_, rfl⟩) ?_
           rintro v post ⟨rfl, lcs1, uw1, h1, rfl⟩
           show GH _ _ _ _ _ _ _ [_, _, _, _, _, _] _
           refine GH_all [7] (by kernel_rfl) (by decide) ?_
           refine (And.intro ?_ trivial)
           · skip
             refine GHop_call (L2 := [_, _]) rfl rfl rfl rfl rfl rfl Tryd.call41 ((lg_append d 8 lb lcap lcs1 uw1 lk1 h1 g 2 5 7 1 (zt 43) (by decide) (by omega) (by omega) (by omega) (by omega) (by rw [zt_len]; omega)).weaken (fun v post h => by rw [lv3, lv4, lk2_eq] at h; exact h)) [0, 0, 0, 0] [] rfl rfl [] (by rintro v post ⟨rfl, lcs1, uw1, h1, rfl⟩; exact ⟨_, rfl⟩) ?_
             rintro v post ⟨rfl, lcs1, uw1, h1, rfl⟩
             show GH _ _ _ _ _ _ _ [_, _, _, _, _, _] _
             refine GH_take 8 rfl rfl rfl rfl (by kernel_rfl) (by kernel_rfl) (by kernel_rfl) (fun _ _ => (V_assign rfl rfl)) ?_
             refine GH_take 9 rfl rfl rfl rfl (by kernel_rfl) (by kernel_rfl) (by kernel_rfl) (fun _ _ => (V_assign rfl rfl)) ?_
             refine GH_done (by kernel_rfl) ?_
             refine G_seq ?_
             refine G_region (l := [0, 1, 2, 3, 4, 5, 6, 7, 8]) rfl ?_
             refine G_val rfl rfl rfl rfl (V_move rfl rfl) ?_
             refine G_call (L2 := [_, _, _, _, _, _]) rfl rfl rfl rfl rfl rfl Tryd.call48 ((lg_replay d 8 lb lcap lcs1 uw1 lk2 h1 2 5 1 9 (by decide) lv5 (by omega) (by omega) (by omega)).weaken (fun v post h => by rw [show (5 : Int).toNat = 5 from rfl, lv7] at h; exact h)) [] [1, 2, 3] rfl rfl ?_
             rintro v post ⟨ur, hur, rfl, rfl⟩
             show G _ _ _ [_, _, _, _, _, _, _] _
             refine G_val rfl rfl rfl rfl (V_move rfl rfl) ?_
             refine G_val rfl rfl rfl rfl (V_extract rfl rfl rfl) ?_
             refine G_val rfl rfl rfl rfl (V_extract rfl rfl rfl) ?_
             refine G_val rfl rfl rfl rfl (V_extract rfl rfl rfl) ?_
             refine G_val rfl rfl rfl rfl (V_assign rfl rfl) ?_
             refine G_val rfl rfl rfl rfl (V_assign rfl rfl) ?_
             refine G_val rfl rfl rfl rfl (V_assign rfl rfl) ?_
             refine G_done ?_
             refine G_seq ?_
             refine G_region (l := [0, 1, 2, 3, 4, 5, 6, 7, 8, 9, 10, 11, 12, 13, 14, 15, 16, 17, 18, 19, 20, 21, 22, 23, 24, 25, 26, 27, 28, 29, 30, 31, 32, 33, 34, 35, 36, 37]) rfl ?_
             refine G_val rfl rfl rfl rfl (V_move rfl rfl) ?_
             refine G_call (L2 := [_, _, _, _, _, _, _]) rfl rfl rfl rfl rfl rfl Tryd.call37 (ll_num _) [] [] rfl rfl ?_
             rintro v post ⟨rfl, rfl⟩
             show G _ _ _ [_, _, _, _, _, _, _] _
             refine G_val rfl rfl rfl rfl (V_eql rfl rfl rfl) ?_
             refine G_val rfl rfl rfl rfl (V_move rfl rfl) ?_
             refine G_splitD 36 rfl (fun hc1 => ?_) (fun hc1 => ?_)
             rotate_left
             · (first | (exact absurd rfl hc1) | (exfalso; omega) | (exfalso; simp at hc1; done))
             refine G_val rfl rfl rfl rfl (V_move rfl rfl) ?_
             refine G_call (L2 := [_, _, _, _, _, _, _]) rfl rfl rfl rfl rfl rfl Tryd.call37 (ll_num _) [] [] rfl rfl ?_
             rintro v post ⟨rfl, rfl⟩
             show G _ _ _ [_, _, _, _, _, _, _] _
             refine G_val rfl rfl rfl rfl (V_eql rfl rfl rfl) ?_
             refine G_val rfl rfl rfl rfl (V_pickT rfl rfl rfl) ?_
             refine G_val rfl rfl rfl rfl (V_move rfl rfl) ?_
             refine G_splitD 41 rfl (fun hc2 => ?_) (fun hc2 => ?_)
             rotate_left
             · (first | (exact absurd rfl hc2) | (exfalso; omega) | (exfalso; simp at hc2; done))
             refine G_val rfl rfl rfl rfl (V_move rfl rfl) ?_
             refine G_call (L2 := [_, _, _, _, _, _, _]) rfl rfl rfl rfl rfl rfl Tryd.call37 (ll_num _) [] [] rfl rfl ?_
             rintro v post ⟨rfl, rfl⟩
             show G _ _ _ [_, _, _, _, _, _, _] _
             refine G_val rfl rfl rfl rfl (V_eql rfl rfl rfl) ?_
             refine G_val rfl rfl rfl rfl (V_pickT rfl rfl rfl) ?_
             refine G_val rfl rfl rfl rfl (V_move rfl rfl) ?_
             refine G_splitD 46 rfl (fun hc3 => ?_) (fun hc3 => ?_)
             rotate_left
             · (first | (exact absurd rfl hc3) | (exfalso; omega) | (exfalso; simp at hc3; done))
             refine G_val rfl rfl rfl rfl (V_move rfl rfl) ?_
             refine G_call (L2 := [_, _, _, _, _, _, _]) rfl rfl rfl rfl rfl rfl Tryd.call37 (ll_num _) [] [] rfl rfl ?_
             rintro v post ⟨rfl, rfl⟩
             show G _ _ _ [_, _, _, _, _, _, _] _
             refine G_val rfl rfl rfl rfl (V_eql rfl rfl rfl) ?_
             refine G_val rfl rfl rfl rfl (V_pickT rfl rfl rfl) ?_
             refine G_val rfl rfl rfl rfl (V_move rfl rfl) ?_
             refine G_splitD 51 rfl (fun hc4 => ?_) (fun hc4 => ?_)
             rotate_left
             · (first | (exact absurd rfl hc4) | (exfalso; omega) | (exfalso; simp at hc4; done))
             refine G_val rfl rfl rfl rfl (V_move rfl rfl) ?_
             refine G_call (L2 := [_, _, _, _, _, _, _]) rfl rfl rfl rfl rfl rfl Tryd.call44 (lg_at d g 2 5 7 3) [] [1] rfl rfl ?_
             rintro v post ⟨rfl, rfl⟩
             show G _ _ _ [_, _, _, _, _, _, _] _
             refine G_val rfl rfl rfl rfl (V_eql rfl rfl rfl) ?_
             refine G_val rfl rfl rfl rfl (V_pickT rfl rfl rfl) ?_
             refine G_val rfl rfl rfl rfl (V_move rfl rfl) ?_
             refine G_splitD 56 rfl (fun hc5 => ?_) (fun hc5 => ?_)
             rotate_left
             · (first | (exact absurd rfl hc5) | (exfalso; omega) | (exfalso; simp at hc5; done))
             refine G_val rfl rfl rfl rfl (V_move rfl rfl) ?_
             refine G_call (L2 := [_, _, _, _, _, _, _]) rfl rfl rfl rfl rfl rfl Tryd.call45 (lg_room d g 2 5 7 3 (by omega) (by omega) (by omega)) [] [1] rfl rfl ?_
             rintro v post ⟨rfl, rfl⟩
             show G _ _ _ [_, _, _, _, _, _, _] _
             refine G_val rfl rfl rfl rfl (V_eql rfl rfl rfl) ?_
             refine G_val rfl rfl rfl rfl (V_pickT rfl rfl rfl) ?_
             refine G_val rfl rfl rfl rfl (V_move rfl rfl) ?_
             refine G_splitD 61 rfl (fun hc6 => ?_) (fun hc6 => ?_)
             rotate_left
             · (first | (exact absurd rfl hc6) | (exfalso; omega) | (exfalso; simp at hc6; done))
             refine G_val rfl rfl rfl rfl (V_move rfl rfl) ?_
             refine G_val rfl rfl rfl rfl (V_len rfl rfl Tryd.underlying24 rfl) ?_
             refine G_val rfl rfl rfl rfl (V_eql rfl rfl rfl) ?_
             refine G_val rfl rfl rfl rfl (V_pickT rfl rfl rfl) ?_
             refine G_val rfl rfl rfl rfl (V_move rfl rfl) ?_
             refine G_splitD 66 rfl (fun hc7 => ?_) (fun hc7 => ?_)
             rotate_left
             · (first | (exact absurd rfl hc7) | (exfalso; omega) | (exfalso; simp at hc7; done))
             refine G_val rfl rfl rfl rfl (V_move rfl rfl) ?_
             refine G_val rfl rfl rfl rfl (V_eql rfl rfl rfl) ?_
             refine G_val rfl rfl rfl rfl (V_pickT rfl rfl rfl) ?_
             refine G_val rfl rfl rfl rfl (V_assign rfl rfl) ?_
             refine G_done ?_
             refine G_ret (post := []) Tryd.func34 rfl (RVs_cons (RV_tmp rfl) RVs_nil) [] rfl ?_
             dsimp only [packed]
             exact ⟨rfl, rfl⟩
 · skip
   refine GHop_new rfl rfl rfl rfl (N_make (l := 43) (m := 43) rfl Tryd.underlying27 infLogL_5 rfl rfl rfl rfl rfl rfl rfl (by first | decide | omega) (by first | decide | omega | (show 1 * _ ≤ _; omega)) (by first | decide | omega)) [] (fun _ => ⟨_, rfl⟩) (fun b24 => ?_)
   refine GH_all [1, 6] (by kernel_rfl) (by decide) ?_
   refine (And.intro ?_ (And.intro ?_ trivial))
   · skip
     refine GHop_new rfl rfl rfl rfl (N_make (l := 42) (m := 42) rfl Tryd.underlying27 infLogL_5 rfl rfl rfl rfl rfl rfl rfl (by first | decide | omega) (by first | decide | omega | (show 1 * _ ≤ _; omega)) (by first | decide | omega)) [] (fun _ => ⟨_, rfl⟩) (fun b20 => ?_)
     refine GH_all [2, 6] (by kernel_rfl) (by decide) ?_
     refine (And.intro ?_ (And.intro ?_ trivial))
     · skip
       refine GHop_val rfl rfl rfl rfl (V_bytesS (l := (zt 42)) rfl rfl Tryd.underlying27 Tryd.underlying5 Tryd.underlying9 (mem_at 0 rfl) (by rw [zt_len]) (zt_cells 42)) ?_
       refine GH_all [3, 6] (by kernel_rfl) (by decide) ?_
       refine (And.intro ?_ (And.intro ?_ trivial))
       · skip
         refine GHop_call (L2 := [_, _]) rfl rfl rfl rfl rfl rfl Tryd.call41 ((lg_append d 8 lb lcap lcs slNil (newD 8) h g 2 5 7 0 (zt 42) (by decide) (by omega) (by omega) (by omega) (new_W8) (by rw [zt_len]; omega)).weaken (fun v post h => by rw [lv1, lv2, lk1_eq] at h; exact h)) [2, 2, 2, 2] [] rfl rfl [] (by rintro v post ⟨rfl, lcs1, uw1, h1, rfl⟩; exact ⟨_, rfl⟩) ?_
         rintro v post ⟨rfl, lcs1, uw1, h1, rfl⟩
         show GH _ _ _ _ _ _ _ [_, _, _, _, _, _] _
         refine GH_all [6] (by kernel_rfl) (by decide) ?_
         refine (And.intro ?_ trivial)
         · skip
           refine GHop_val rfl rfl rfl rfl (V_bytesS (l := (zt 43)) rfl rfl Tryd.underlying27 Tryd.underlying5 Tryd.underlying9 (mem_at 5 rfl) (by rw [zt_len]) (zt_cells 43)) ?_
           refine GH_all [7] (by kernel_rfl) (by decide) ?_
           refine (And.intro ?_ trivial)
           · skip
             refine GHop_call (L2 := [_, _]) rfl rfl rfl rfl rfl rfl Tryd.call41 ((lg_append d 8 lb lcap lcs1 uw1 lk1 h1 g 2 5 7 1 (zt 43) (by decide) (by omega) (by omega) (by omega) (by omega) (by rw [zt_len]; omega)).weaken (fun v post h => by rw [lv3, lv4, lk2_eq] at h; exact h)) [0, 0, 0, 0] [] rfl rfl [] (by rintro v post ⟨rfl, lcs1, uw1, h1, rfl⟩; exact ⟨_, rfl⟩) ?_
             rintro v post ⟨rfl, lcs1, uw1, h1, rfl⟩
             show GH _ _ _ _ _ _ _ [_, _, _, _, _, _] _
             refine GH_take 8 rfl rfl rfl rfl (by kernel_rfl) (by kernel_rfl) (by kernel_rfl) (fun _ _ => (V_assign rfl rfl)) ?_
             refine GH_take 9 rfl rfl rfl rfl (by kernel_rfl) (by kernel_rfl) (by kernel_rfl) (fun _ _ => (V_assign rfl rfl)) ?_
             refine GH_done (by kernel_rfl) ?_
             refine G_seq ?_
             refine G_region (l := [0, 1, 2, 3, 4, 5, 6, 7, 8]) rfl ?_
             refine G_val rfl rfl rfl rfl (V_move rfl rfl) ?_
             refine G_call (L2 := [_, _, _, _, _, _]) rfl rfl rfl rfl rfl rfl Tryd.call48 ((lg_replay d 8 lb lcap lcs1 uw1 lk2 h1 2 5 1 9 (by decide) lv5 (by omega) (by omega) (by omega)).weaken (fun v post h => by rw [show (5 : Int).toNat = 5 from rfl, lv7] at h; exact h)) [] [1, 2, 3] rfl rfl ?_
             rintro v post ⟨ur, hur, rfl, rfl⟩
             show G _ _ _ [_, _, _, _, _, _, _] _
             refine G_val rfl rfl rfl rfl (V_move rfl rfl) ?_
             refine G_val rfl rfl rfl rfl (V_extract rfl rfl rfl) ?_
             refine G_val rfl rfl rfl rfl (V_extract rfl rfl rfl) ?_
             refine G_val rfl rfl rfl rfl (V_extract rfl rfl rfl) ?_
             refine G_val rfl rfl rfl rfl (V_assign rfl rfl) ?_
             refine G_val rfl rfl rfl rfl (V_assign rfl rfl) ?_
             refine G_val rfl rfl rfl rfl (V_assign rfl rfl) ?_
             refine G_done ?_
             refine G_seq ?_
             refine G_region (l := [0, 1, 2, 3, 4, 5, 6, 7, 8, 9, 10, 11, 12, 13, 14, 15, 16, 17, 18, 19, 20, 21, 22, 23, 24, 25, 26, 27, 28, 29, 30, 31, 32, 33, 34, 35, 36, 37]) rfl ?_
             refine G_val rfl rfl rfl rfl (V_move rfl rfl) ?_
             refine G_call (L2 := [_, _, _, _, _, _, _]) rfl rfl rfl rfl rfl rfl Tryd.call37 (ll_num _) [] [] rfl rfl ?_
             rintro v post ⟨rfl, rfl⟩
             show G _ _ _ [_, _, _, _, _, _, _] _
             refine G_val rfl rfl rfl rfl (V_eql rfl rfl rfl) ?_
             refine G_val rfl rfl rfl rfl (V_move rfl rfl) ?_
             refine G_splitD 36 rfl (fun hc1 => ?_) (fun hc1 => ?_)
             rotate_left
             · (first | (exact absurd rfl hc1) | (exfalso; omega) | (exfalso; simp at hc1; done))
             refine G_val rfl rfl rfl rfl (V_move rfl rfl) ?_
             refine G_call (L2 := [_, _, _, _, _, _, _]) rfl rfl rfl rfl rfl rfl Tryd.call37 (ll_num _) [] [] rfl rfl ?_
             rintro v post ⟨rfl, rfl⟩
             show G _ _ _ [_, _, _, _, _, _, _] _
             refine G_val rfl rfl rfl rfl (V_eql rfl rfl rfl) ?_
             refine G_val rfl rfl rfl rfl (V_pickT rfl rfl rfl) ?_
             refine G_val rfl rfl rfl rfl (V_move rfl rfl) ?_
             refine G_splitD 41 rfl (fun hc2 => ?_) (fun hc2 => ?_)
             rotate_left
             · (first | (exact absurd rfl hc2) | (exfalso; omega) | (exfalso; simp at hc2; done))
             refine G_val rfl rfl rfl rfl (V_move rfl rfl) ?_
             refine G_call (L2 := [_, _, _, _, _, _, _]) rfl rfl rfl rfl rfl rfl Tryd.call37 (ll_num _) [] [] rfl rfl ?_
             rintro v post ⟨rfl, rfl⟩
             show G _ _ _ [_, _, _, _, _, _, _] _
             refine G_val rfl rfl rfl rfl (V_eql rfl rfl rfl) ?_
             refine G_val rfl rfl rfl rfl (V_pickT rfl rfl rfl) ?_
             refine G_val rfl rfl rfl rfl (V_move rfl rfl) ?_
             refine G_splitD 46 rfl (fun hc3 => ?_) (fun hc3 => ?_)
             rotate_left
             · (first | (exact absurd rfl hc3) | (exfalso; omega) | (exfalso; simp at hc3; done))
             refine G_val rfl rfl rfl rfl (V_move rfl rfl) ?_
             refine G_call (L2 := [_, _, _, _, _, _, _]) rfl rfl rfl rfl rfl rfl Tryd.call37 (ll_num _) [] [] rfl rfl ?_
             rintro v post ⟨rfl, rfl⟩
             show G _ _ _ [_, _, _, _, _, _, _] _
             refine G_val rfl rfl rfl rfl (V_eql rfl rfl rfl) ?_
             refine G_val rfl rfl rfl rfl (V_pickT rfl rfl rfl) ?_
             refine G_val rfl rfl rfl rfl (V_move rfl rfl) ?_
             refine G_splitD 51 rfl (fun hc4 => ?_) (fun hc4 => ?_)
             rotate_left
             · (first | (exact absurd rfl hc4) | (exfalso; omega) | (exfalso; simp at hc4; done))
             refine G_val rfl rfl rfl rfl (V_move rfl rfl) ?_
             refine G_call (L2 := [_, _, _, _, _, _, _]) rfl rfl rfl rfl rfl rfl Tryd.call44 (lg_at d g 2 5 7 3) [] [1] rfl rfl ?_
             rintro v post ⟨rfl, rfl⟩
             show G _ _ _ [_, _, _, _, _, _, _] _
             refine G_val rfl rfl rfl rfl (V_eql rfl rfl rfl) ?_
             refine G_val rfl rfl rfl rfl (V_pickT rfl rfl rfl) ?_
             refine G_val rfl rfl rfl rfl (V_move rfl rfl) ?_
             refine G_splitD 56 rfl (fun hc5 => ?_) (fun hc5 => ?_)
             rotate_left
             · (first | (exact absurd rfl hc5) | (exfalso; omega) | (exfalso; simp at hc5; done))
             refine G_val rfl rfl rfl rfl (V_move rfl rfl) ?_
             refine G_call (L2 := [_, _, _, _, _, _, _]) rfl rfl rfl rfl rfl rfl Tryd.call45 (lg_room d g 2 5 7 3 (by omega) (by omega) (by omega)) [] [1] rfl rfl ?_
             rintro v post ⟨rfl, rfl⟩
             show G _ _ _ [_, _, _, _, _, _, _] _
             refine G_val rfl rfl rfl rfl (V_eql rfl rfl rfl) ?_
             refine G_val rfl rfl rfl rfl (V_pickT rfl rfl rfl) ?_
             refine G_val rfl rfl rfl rfl (V_move rfl rfl) ?_
             refine G_splitD 61 rfl (fun hc6 => ?_) (fun hc6 => ?_)
             rotate_left
             · (first | (exact absurd rfl hc6) | (exfalso; omega) | (exfalso; simp at hc6; done))
             refine G_val rfl rfl rfl rfl (V_move rfl rfl) ?_
             refine G_val rfl rfl rfl rfl (V_len rfl rfl Tryd.underlying24 rfl) ?_
             refine G_val rfl rfl rfl rfl (V_eql rfl rfl rfl) ?_
             refine G_val rfl rfl rfl rfl (V_pickT rfl rfl rfl) ?_
             refine G_val rfl rfl rfl rfl (V_move rfl rfl) ?_
             refine G_splitD 66 rfl (fun hc7 => ?_) (fun hc7 => ?_)
             rotate_left
             · (first | (exact absurd rfl hc7) | (exfalso; omega) | (exfalso; simp at hc7; done))
             refine G_val rfl rfl rfl rfl (V_move rfl rfl) ?_
             refine G_val rfl rfl rfl rfl (V_eql rfl rfl rfl) ?_
             refine G_val rfl rfl rfl rfl (V_pickT rfl rfl rfl) ?_
             refine G_val rfl rfl rfl rfl (V_assign rfl rfl) ?_
             refine G_done ?_
             refine G_ret (post := []) Tryd.func34 rfl (RVs_cons (RV_tmp rfl) RVs_nil) [] rfl ?_
             dsimp only [packed]
             exact ⟨rfl, rfl⟩
       · skip
         refine GHop_val rfl rfl rfl rfl (V_bytesS (l := (zt 43)) rfl rfl Tryd.underlying27 Tryd.underlying5 Tryd.underlying9 (mem_at 1 rfl) (by rw [zt_len]) (zt_cells 43)) ?_
         refine GH_all [3] (by kernel_rfl) (by decide) ?_
         refine (And.intro ?_ trivial)
         · skip
           refine GHop_call (L2 := [_, _]) rfl rfl rfl rfl rfl rfl Tryd.call41 ((lg_append d 8 lb lcap lcs slNil (newD 8) h g 2 5 7 0 (zt 42) (by decide) (by omega) (by omega) (by omega) (new_W8) (by rw [zt_len]; omega)).weaken (fun v post h => by rw [lv1, lv2, lk1_eq] at h; exact h)) [2, 2, 2, 2] [] rfl rfl [] (by rintro v post ⟨rfl, lcs1, uw1, h1, rfl⟩; exact ⟨_, rfl⟩) ?_
           rintro v post ⟨rfl, lcs1, uw1, h1, rfl⟩
           show GH _ _ _ _ _ _ _ [_, _, _, _, _, _] _
           refine GH_all [7] (by kernel_rfl) (by decide) ?_
           refine (And.intro ?_ trivial)
           · skip
             refine GHop_call (L2 := [_, _]) rfl rfl rfl rfl rfl rfl Tryd.call41 ((lg_append d 8 lb lcap lcs1 uw1 lk1 h1 g 2 5 7 1 (zt 43) (by decide) (by omega) (by omega) (by omega) (by omega) (by rw [zt_len]; omega)).weaken (fun v post h => by rw [lv3, lv4, lk2_eq] at h; exact h)) [0, 0, 0, 0] [] rfl rfl [] (by rintro v post ⟨rfl, lcs1, uw1, h1, rfl⟩; exact ⟨_, rfl⟩) ?_
             rintro v post ⟨rfl, lcs1, uw1, h1, rfl⟩
             show GH _ _ _ _ _ _ _ [_, _, _, _, _, _] _
             refine GH_take 8 rfl rfl rfl rfl (by kernel_rfl) (by kernel_rfl) (by kernel_rfl) (fun _ _ => (V_assign rfl rfl)) ?_
             refine GH_take 9 rfl rfl rfl rfl (by kernel_rfl) (by kernel_rfl) (by kernel_rfl) (fun _ _ => (V_assign rfl rfl)) ?_
             refine GH_done (by kernel_rfl) ?_
             refine G_seq ?_
             refine G_region (l := [0, 1, 2, 3, 4, 5, 6, 7, 8]) rfl ?_
             refine G_val rfl rfl rfl rfl (V_move rfl rfl) ?_
             refine G_call (L2 := [_, _, _, _, _, _]) rfl rfl rfl rfl rfl rfl Tryd.call48 ((lg_replay d 8 lb lcap lcs1 uw1 lk2 h1 2 5 1 9 (by decide) lv5 (by omega) (by omega) (by omega)).weaken (fun v post h => by rw [show (5 : Int).toNat = 5 from rfl, lv7] at h; exact h)) [] [1, 2, 3] rfl rfl ?_
             rintro v post ⟨ur, hur, rfl, rfl⟩
             show G _ _ _ [_, _, _, _, _, _, _] _
             refine G_val rfl rfl rfl rfl (V_move rfl rfl) ?_
             refine G_val rfl rfl rfl rfl (V_extract rfl rfl rfl) ?_
             refine G_val rfl rfl rfl rfl (V_extract rfl rfl rfl) ?_
             refine G_val rfl rfl rfl rfl (V_extract rfl rfl rfl) ?_
             refine G_val rfl rfl rfl rfl (V_assign rfl rfl) ?_
             refine G_val rfl rfl rfl rfl (V_assign rfl rfl) ?_
             refine G_val rfl rfl rfl rfl (V_assign rfl rfl) ?_
             refine G_done ?_
             refine G_seq ?_
             refine G_region (l := [0, 1, 2, 3, 4, 5, 6, 7, 8, 9, 10, 11, 12, 13, 14, 15, 16, 17, 18, 19, 20, 21, 22, 23, 24, 25, 26, 27, 28, 29, 30, 31, 32, 33, 34, 35, 36, 37]) rfl ?_
             refine G_val rfl rfl rfl rfl (V_move rfl rfl) ?_
             refine G_call (L2 := [_, _, _, _, _, _, _]) rfl rfl rfl rfl rfl rfl Tryd.call37 (ll_num _) [] [] rfl rfl ?_
             rintro v post ⟨rfl, rfl⟩
             show G _ _ _ [_, _, _, _, _, _, _] _
             refine G_val rfl rfl rfl rfl (V_eql rfl rfl rfl) ?_
             refine G_val rfl rfl rfl rfl (V_move rfl rfl) ?_
             refine G_splitD 36 rfl (fun hc1 => ?_) (fun hc1 => ?_)
             rotate_left
             · (first | (exact absurd rfl hc1) | (exfalso; omega) | (exfalso; simp at hc1; done))
             refine G_val rfl rfl rfl rfl (V_move rfl rfl) ?_
             refine G_call (L2 := [_, _, _, _, _, _, _]) rfl rfl rfl rfl rfl rfl Tryd.call37 (ll_num _) [] [] rfl rfl ?_
             rintro v post ⟨rfl, rfl⟩
             show G _ _ _ [_, _, _, _, _, _, _] _
             refine G_val rfl rfl rfl rfl (V_eql rfl rfl rfl) ?_
             refine G_val rfl rfl rfl rfl (V_pickT rfl rfl rfl) ?_
             refine G_val rfl rfl rfl rfl (V_move rfl rfl) ?_
             refine G_splitD 41 rfl (fun hc2 => ?_) (fun hc2 => ?_)
             rotate_left
             · (first | (exact absurd rfl hc2) | (exfalso; omega) | (exfalso; simp at hc2; done))
             refine G_val rfl rfl rfl rfl (V_move rfl rfl) ?_
             refine G_call (L2 := [_, _, _, _, _, _, _]) rfl rfl rfl rfl rfl rfl Tryd.call37 (ll_num _) [] [] rfl rfl ?_
             rintro v post ⟨rfl, rfl⟩
             show G _ _ _ [_, _, _, _, _, _, _] _
             refine G_val rfl rfl rfl rfl (V_eql rfl rfl rfl) ?_
             refine G_val rfl rfl rfl rfl (V_pickT rfl rfl rfl) ?_
             refine G_val rfl rfl rfl rfl (V_move rfl rfl) ?_
             refine G_splitD 46 rfl (fun hc3 => ?_) (fun hc3 => ?_)
             rotate_left
             · (first | (exact absurd rfl hc3) | (exfalso; omega) | (exfalso; simp at hc3; done))
             refine G_val rfl rfl rfl rfl (V_move rfl rfl) ?_
             refine G_call (L2 := [_, _, _, _, _, _, _]) rfl rfl rfl rfl rfl rfl Tryd.call37 (ll_num _) [] [] rfl rfl ?_
             rintro v post ⟨rfl, rfl⟩
             show G _ _ _ [_, _, _, _, _, _, _] _
             refine G_val rfl rfl rfl rfl (V_eql rfl rfl rfl) ?_
             refine G_val rfl rfl rfl rfl (V_pickT rfl rfl rfl) ?_
             refine G_val rfl rfl rfl rfl (V_move rfl rfl) ?_
             refine G_splitD 51 rfl (fun hc4 => ?_) (fun hc4 => ?_)
             rotate_left
             · (first | (exact absurd rfl hc4) | (exfalso; omega) | (exfalso; simp at hc4; done))
             refine G_val rfl rfl rfl rfl (V_move rfl rfl) ?_
             refine G_call (L2 := [_, _, _, _, _, _, _]) rfl rfl rfl rfl rfl rfl Tryd.call44 (lg_at d g 2 5 7 3) [] [1] rfl rfl ?_
             rintro v post ⟨rfl, rfl⟩
             show G _ _ _ [_, _, _, _, _, _, _] _
             refine G_val rfl rfl rfl rfl (V_eql rfl rfl rfl) ?_
             refine G_val rfl rfl rfl rfl (V_pickT rfl rfl rfl) ?_
             refine G_val rfl rfl rfl rfl (V_move rfl rfl) ?_
             refine G_splitD 56 rfl (fun hc5 => ?_) (fun hc5 => ?_)
             rotate_left
             · (first | (exact absurd rfl hc5) | (exfalso; omega) | (exfalso; simp at hc5; done))
             refine G_val rfl rfl rfl rfl (V_move rfl rfl) ?_
             refine G_call (L2 := [_, _, _, _, _, _, _]) rfl rfl rfl rfl rfl rfl Tryd.call45 (lg_room d g 2 5 7 3 (by omega) (by omega) (by omega)) [] [1] rfl rfl ?_
             rintro v post ⟨rfl, rfl⟩
             show G _ _ _ [_, _, _, _, _, _, _] _
             refine G_val rfl rfl rfl rfl (V_eql rfl rfl rfl) ?_
             refine G_val rfl rfl rfl rfl (V_pickT rfl rfl rfl) ?_
             refine G_val rfl rfl rfl rfl (V_move rfl rfl) ?_
             refine G_splitD 61 rfl (fun hc6 => ?_) (fun hc6 => ?_)
             rotate_left
             · (first | (exact absurd rfl hc6) | (exfalso; omega) | (exfalso; simp at hc6; done))
             refine G_val rfl rfl rfl rfl (V_move rfl rfl) ?_
             refine G_val rfl rfl rfl rfl (V_len rfl rfl Tryd.underlying24 rfl) ?_
             refine G_val rfl rfl rfl rfl (V_eql rfl rfl rfl) ?_
             refine G_val rfl rfl rfl rfl (V_pickT rfl rfl rfl) ?_
             refine G_val rfl rfl rfl rfl (V_move rfl rfl) ?_
             refine G_splitD 66 rfl (fun hc7 => ?_) (fun hc7 => ?_)
             rotate_left
             · (first | (exact absurd rfl hc7) | (exfalso; omega) | (exfalso; simp at hc7; done))
             refine G_val rfl rfl rfl rfl (V_move rfl rfl) ?_
             refine G_val rfl rfl rfl rfl (V_eql rfl rfl rfl) ?_
             refine G_val rfl rfl rfl rfl (V_pickT rfl rfl rfl) ?_
             refine G_val rfl rfl rfl rfl (V_assign rfl rfl) ?_
             refine G_done ?_
             refine G_ret (post := []) Tryd.func34 rfl (RVs_cons (RV_tmp rfl) RVs_nil) [] rfl ?_
             dsimp only [packed]
             exact ⟨rfl, rfl⟩
     · skip
       refine GHop_val rfl rfl rfl rfl (V_bytesS (l := (zt 43)) rfl rfl Tryd.underlying27 Tryd.underlying5 Tryd.underlying9 (mem_at 1 rfl) (by rw [zt_len]) (zt_cells 43)) ?_
       refine GH_all [2] (by kernel_rfl) (by decide) ?_
       refine (And.intro ?_ trivial)
       · skip
         refine GHop_val rfl rfl rfl rfl (V_bytesS (l := (zt 42)) rfl rfl Tryd.underlying27 Tryd.underlying5 Tryd.underlying9 (mem_at 0 rfl) (by rw [zt_len]) (zt_cells 42)) ?_
         refine GH_all [3] (by kernel_rfl) (by decide) ?_
         refine (And.intro ?_ trivial)
         · skip
           refine GHop_call (L2 := [_, _]) rfl rfl rfl rfl rfl rfl Tryd.call41 ((lg_append d 8 lb lcap lcs slNil (newD 8) h g 2 5 7 0 (zt 42) (by decide) (by omega) (by omega) (by omega) (new_W8) (by rw [zt_len]; omega)).weaken (fun v post h => by rw [lv1, lv2, lk1_eq] at h; exact h)) [2, 2, 2, 2] [] rfl rfl [] (by rintro v post ⟨rfl, lcs1, uw1, h1, rfl⟩; exact ⟨_, rfl⟩) ?_
           rintro v post ⟨rfl, lcs1, uw1, h1, rfl⟩
           show GH _ _ _ _ _ _ _ [_, _, _, _, _, _] _
           refine GH_all [7] (by kernel_rfl) (by decide) ?_
           refine (And.intro ?_ trivial)
           · skip
             refine GHop_call (L2 := [_, _]) rfl rfl rfl rfl rfl rfl Tryd.call41 ((lg_append d 8 lb lcap lcs1 uw1 lk1 h1 g 2 5 7 1 (zt 43) (by decide) (by omega) (by omega) (by omega) (by omega) (by rw [zt_len]; omega)).weaken (fun v post h => by rw [lv3, lv4, lk2_eq] at h; exact h)) [0, 0, 0, 0] [] rfl rfl [] (by rintro v post ⟨rfl, lcs1, uw1, h1, rfl⟩; exact ⟨_, rfl⟩) ?_
             rintro v post ⟨rfl, lcs1, uw1, h1, rfl⟩
             show GH _ _ _ _ _ _ _ [_, _, _, _, _, _] _
             refine GH_take 8 rfl rfl rfl rfl (by kernel_rfl) (by kernel_rfl) (by kernel_rfl) (fun _ _ => (V_assign rfl rfl)) ?_
             refine GH_take 9 rfl rfl rfl rfl (by kernel_rfl) (by kernel_rfl) (by kernel_rfl) (fun _ _ => (V_assign rfl rfl)) ?_
             refine GH_done (by kernel_rfl) ?_
             refine G_seq ?_
             refine G_region (l := [0, 1, 2, 3, 4, 5, 6, 7, 8]) rfl ?_
             refine G_val rfl rfl rfl rfl (V_move rfl rfl) ?_
             refine G_call (L2 := [_, _, _, _, _, _]) rfl rfl rfl rfl rfl rfl Tryd.call48 ((lg_replay d 8 lb lcap lcs1 uw1 lk2 h1 2 5 1 9 (by decide) lv5 (by omega) (by omega) (by omega)).weaken (fun v post h => by rw [show (5 : Int).toNat = 5 from rfl, lv7] at h; exact h)) [] [1, 2, 3] rfl rfl ?_
             rintro v post ⟨ur, hur, rfl, rfl⟩
             show G _ _ _ [_, _, _, _, _, _, _] _
             refine G_val rfl rfl rfl rfl (V_move rfl rfl) ?_
             refine G_val rfl rfl rfl rfl (V_extract rfl rfl rfl) ?_
             refine G_val rfl rfl rfl rfl (V_extract rfl rfl rfl) ?_
             refine G_val rfl rfl rfl rfl (V_extract rfl rfl rfl) ?_
             refine G_val rfl rfl rfl rfl (V_assign rfl rfl) ?_
             refine G_val rfl rfl rfl rfl (V_assign rfl rfl) ?_
             refine G_val rfl rfl rfl rfl (V_assign rfl rfl) ?_
             refine G_done ?_
             refine G_seq ?_
             refine G_region (l := [0, 1, 2, 3, 4, 5, 6, 7, 8, 9, 10, 11, 12, 13, 14, 15, 16, 17, 18, 19, 20, 21, 22, 23, 24, 25, 26, 27, 28, 29, 30, 31, 32, 33, 34, 35, 36, 37]) rfl ?_
             refine G_val rfl rfl rfl rfl (V_move rfl rfl) ?_
             refine G_call (L2 := [_, _, _, _, _, _, _]) rfl rfl rfl rfl rfl rfl Tryd.call37 (ll_num _) [] [] rfl rfl ?_
             rintro v post ⟨rfl, rfl⟩
             show G _ _ _ [_, _, _, _, _, _, _] _
             refine G_val rfl rfl rfl rfl (V_eql rfl rfl rfl) ?_
             refine G_val rfl rfl rfl rfl (V_move rfl rfl) ?_
             refine G_splitD 36 rfl (fun hc1 => ?_) (fun hc1 => ?_)
             rotate_left
             · (first | (exact absurd rfl hc1) | (exfalso; omega) | (exfalso; simp at hc1; done))
             refine G_val rfl rfl rfl rfl (V_move rfl rfl) ?_
             refine G_call (L2 := [_, _, _, _, _, _, _]) rfl rfl rfl rfl rfl rfl Tryd.call37 (ll_num _) [] [] rfl rfl ?_
             rintro v post ⟨rfl, rfl⟩
             show G _ _ _ [_, _, _, _, _, _, _] _
             refine G_val rfl rfl rfl rfl (V_eql rfl rfl rfl) ?_
             refine G_val rfl rfl rfl rfl (V_pickT rfl rfl rfl) ?_
             refine G_val rfl rfl rfl rfl (V_move rfl rfl) ?_
             refine G_splitD 41 rfl (fun hc2 => ?_) (fun hc2 => ?_)
             rotate_left
             · (first | (exact absurd rfl hc2) | (exfalso; omega) | (exfalso; simp at hc2; done))
             refine G_val rfl rfl rfl rfl (V_move rfl rfl) ?_
             refine G_call (L2 := [_, _, _, _, _, _, _]) rfl rfl rfl rfl rfl rfl Tryd.call37 (ll_num _) [] [] rfl rfl ?_
             rintro v post ⟨rfl, rfl⟩
             show G _ _ _ [_, _, _, _, _, _, _] _
             refine G_val rfl rfl rfl rfl (V_eql rfl rfl rfl) ?_
             refine G_val rfl rfl rfl rfl (V_pickT rfl rfl rfl) ?_
             refine G_val rfl rfl rfl rfl (V_move rfl rfl) ?_
             refine G_splitD 46 rfl (fun hc3 => ?_) (fun hc3 => ?_)
             rotate_left
             · (first | (exact absurd rfl hc3) | (exfalso; omega) | (exfalso; simp at hc3; done))
             refine G_val rfl rfl rfl rfl (V_move rfl rfl) ?_
             refine G_call (L2 := [_, _, _, _, _, _, _]) rfl rfl rfl rfl rfl rfl Tryd.call37 (ll_num _) [] [] rfl rfl ?_
             rintro v post ⟨rfl, rfl⟩
             show G _ _ _ [_, _, _, _, _, _, _] _
             refine G_val rfl rfl rfl rfl (V_eql rfl rfl rfl) ?_
             refine G_val rfl rfl rfl rfl (V_pickT rfl rfl rfl) ?_
             refine G_val rfl rfl rfl rfl (V_move rfl rfl) ?_
             refine G_splitD 51 rfl (fun hc4 => ?_) (fun hc4 => ?_)
             rotate_left
             · (first | (exact absurd rfl hc4) | (exfalso; omega) | (exfalso; simp at hc4; done))
             refine G_val rfl rfl rfl rfl (V_move rfl rfl) ?_
             refine G_call (L2 := [_, _, _, _, _, _, _]) rfl rfl rfl rfl rfl rfl Tryd.call44 (lg_at d g 2 5 7 3) [] [1] rfl rfl ?_
             rintro v post ⟨rfl, rfl⟩
             show G _ _ _ [_, _, _, _, _, _, _] _
             refine G_val rfl rfl rfl rfl (V_eql rfl rfl rfl) ?_
             refine G_val rfl rfl rfl rfl (V_pickT rfl rfl rfl) ?_
             refine G_val rfl rfl rfl rfl (V_move rfl rfl) ?_
             refine G_splitD 56 rfl (fun hc5 => ?_) (fun hc5 => ?_)
             rotate_left
             · (first | (exact absurd rfl hc5) | (exfalso; omega) | (exfalso; simp at hc5; done))
             refine G_val rfl rfl rfl rfl (V_move rfl rfl) ?_
             refine G_call (L2 := [_, _, _, _, _, _, _]) rfl rfl rfl rfl rfl rfl Tryd.call45 (lg_room d g 2 5 7 3 (by omega) (by omega) (by omega)) [] [1] rfl rfl ?_
             rintro v post ⟨rfl, rfl⟩
             show G _ _ _ [_, _, _, _, _, _, _] _
             refine G_val rfl rfl rfl rfl (V_eql rfl rfl rfl) ?_
             refine G_val rfl rfl rfl rfl (V_pickT rfl rfl rfl) ?_
             refine G_val rfl rfl rfl rfl (V_move rfl rfl) ?_
             refine G_splitD 61 rfl (fun hc6 => ?_) (fun hc6 => ?_)
             rotate_left
             · (first | (exact absurd rfl hc6) | (exfalso; omega) | (exfalso; simp at hc6; done))
             refine G_val rfl rfl rfl rfl (V_move rfl rfl) ?_
             refine G_val rfl rfl rfl rfl (V_len rfl rfl Tryd.underlying24 rfl) ?_
             refine G_val rfl rfl rfl rfl (V_eql rfl rfl rfl) ?_
             refine G_val rfl rfl rfl rfl (V_pickT rfl rfl rfl) ?_
             refine G_val rfl rfl rfl rfl (V_move rfl rfl) ?_
             refine G_splitD 66 rfl (fun hc7 => ?_) (fun hc7 => ?_)
             rotate_left
             · (first | (exact absurd rfl hc7) | (exfalso; omega) | (exfalso; simp at hc7; done))
             refine G_val rfl rfl rfl rfl (V_move rfl rfl) ?_
             refine G_val rfl rfl rfl rfl (V_eql rfl rfl rfl) ?_
             refine G_val rfl rfl rfl rfl (V_pickT rfl rfl rfl) ?_
             refine G_val rfl rfl rfl rfl (V_assign rfl rfl) ?_
             refine G_done ?_
             refine G_ret (post := []) Tryd.func34 rfl (RVs_cons (RV_tmp rfl) RVs_nil) [] rfl ?_
             dsimp only [packed]
             exact ⟨rfl, rfl⟩
   · skip
     refine GHop_val rfl rfl rfl rfl (V_bytesS (l := (zt 43)) rfl rfl Tryd.underlying27 Tryd.underlying5 Tryd.underlying9 (mem_at 0 rfl) (by rw [zt_len]) (zt_cells 43)) ?_
     refine GH_all [1] (by kernel_rfl) (by decide) ?_
     refine (And.intro ?_ trivial)
     · skip
       refine GHop_new rfl rfl rfl rfl (N_make (l := 42) (m := 42) rfl Tryd.underlying27 infLogL_5 rfl rfl rfl rfl rfl rfl rfl (by first | decide | omega) (by first | decide | omega | (show 1 * _ ≤ _; omega)) (by first | decide | omega)) [] (fun _ => ⟨_, rfl⟩) (fun b20 => ?_)
       refine GH_all [2] (by kernel_rfl) (by decide) ?_
       refine (And.intro ?_ trivial)
       · skip
         refine GHop_val rfl rfl rfl rfl (V_bytesS (l := (zt 42)) rfl rfl Tryd.underlying27 Tryd.underlying5 Tryd.underlying9 (mem_at 0 rfl) (by rw [zt_len]) (zt_cells 42)) ?_
         refine GH_all [3] (by kernel_rfl) (by decide) ?_
         refine (And.intro ?_ trivial)
         · skip
           refine GHop_call (L2 := [_, _]) rfl rfl rfl rfl rfl rfl Tryd.call41 ((lg_append d 8 lb lcap lcs slNil (newD 8) h g 2 5 7 0 (zt 42) (by decide) (by omega) (by omega) (by omega) (new_W8) (by rw [zt_len]; omega)).weaken (fun v post h => by rw [lv1, lv2, lk1_eq] at h; exact h)) [2, 2, 2, 2] [] rfl rfl [] (by rintro v post ⟨rfl, lcs1, uw1, h1, rfl⟩; exact ⟨_, rfl⟩) ?_
           rintro v post ⟨rfl, lcs1, uw1, h1, rfl⟩
           show GH _ _ _ _ _ _ _ [_, _, _, _, _, _] _
           refine GH_all [7] (by kernel_rfl) (by decide) ?_
           refine (And.intro ?_ trivial)
           · skip
             refine GHop_call (L2 := [_, _]) rfl rfl rfl rfl rfl rfl Tryd.call41 ((lg_append d 8 lb lcap lcs1 uw1 lk1 h1 g 2 5 7 1 (zt 43) (by decide) (by omega) (by omega) (by omega) (by omega) (by rw [zt_len]; omega)).weaken (fun v post h => by rw [lv3, lv4, lk2_eq] at h; exact h)) [0, 0, 0, 0] [] rfl rfl [] (by rintro v post ⟨rfl, lcs1, uw1, h1, rfl⟩; exact ⟨_, rfl⟩) ?_
             rintro v post ⟨rfl, lcs1, uw1, h1, rfl⟩
             show GH _ _ _ _ _ _ _ [_, _, _, _, _, _] _
             refine GH_take 8 rfl rfl rfl rfl (by kernel_rfl) (by kernel_rfl) (by kernel_rfl) (fun _ _ => (V_assign rfl rfl)) ?_
             refine GH_take 9 rfl rfl rfl rfl (by kernel_rfl) (by kernel_rfl) (by kernel_rfl) (fun _ _ => (V_assign rfl rfl)) ?_
             refine GH_done (by kernel_rfl) ?_
             refine G_seq ?_
             refine G_region (l := [0, 1, 2, 3, 4, 5, 6, 7, 8]) rfl ?_
             refine G_val rfl rfl rfl rfl (V_move rfl rfl) ?_
             refine G_call (L2 := [_, _, _, _, _, _]) rfl rfl rfl rfl rfl rfl Tryd.call48 ((lg_replay d 8 lb lcap lcs1 uw1 lk2 h1 2 5 1 9 (by decide) lv5 (by omega) (by omega) (by omega)).weaken (fun v post h => by rw [show (5 : Int).toNat = 5 from rfl, lv7] at h; exact h)) [] [1, 2, 3] rfl rfl ?_
             rintro v post ⟨ur, hur, rfl, rfl⟩
             show G _ _ _ [_, _, _, _, _, _, _] _
             refine G_val rfl rfl rfl rfl (V_move rfl rfl) ?_
             refine G_val rfl rfl rfl rfl (V_extract rfl rfl rfl) ?_
             refine G_val rfl rfl rfl rfl (V_extract rfl rfl rfl) ?_
             refine G_val rfl rfl rfl rfl (V_extract rfl rfl rfl) ?_
             refine G_val rfl rfl rfl rfl (V_assign rfl rfl) ?_
             refine G_val rfl rfl rfl rfl (V_assign rfl rfl) ?_
             refine G_val rfl rfl rfl rfl (V_assign rfl rfl) ?_
             refine G_done ?_
             refine G_seq ?_
             refine G_region (l := [0, 1, 2, 3, 4, 5, 6, 7, 8, 9, 10, 11, 12, 13, 14, 15, 16, 17, 18, 19, 20, 21, 22, 23, 24, 25, 26, 27, 28, 29, 30, 31, 32, 33, 34, 35, 36, 37]) rfl ?_
             refine G_val rfl rfl rfl rfl (V_move rfl rfl) ?_
             refine G_call (L2 := [_, _, _, _, _, _, _]) rfl rfl rfl rfl rfl rfl Tryd.call37 (ll_num _) [] [] rfl rfl ?_
             rintro v post ⟨rfl, rfl⟩
             show G _ _ _ [_, _, _, _, _, _, _] _
             refine G_val rfl rfl rfl rfl (V_eql rfl rfl rfl) ?_
             refine G_val rfl rfl rfl rfl (V_move rfl rfl) ?_
             refine G_splitD 36 rfl (fun hc1 => ?_) (fun hc1 => ?_)
             rotate_left
             · (first | (exact absurd rfl hc1) | (exfalso; omega) | (exfalso; simp at hc1; done))
             refine G_val rfl rfl rfl rfl (V_move rfl rfl) ?_
             refine G_call (L2 := [_, _, _, _, _, _, _]) rfl rfl rfl rfl rfl rfl Tryd.call37 (ll_num _) [] [] rfl rfl ?_
             rintro v post ⟨rfl, rfl⟩
             show G _ _ _ [_, _, _, _, _, _, _] _
             refine G_val rfl rfl rfl rfl (V_eql rfl rfl rfl) ?_
             refine G_val rfl rfl rfl rfl (V_pickT rfl rfl rfl) ?_
             refine G_val rfl rfl rfl rfl (V_move rfl rfl) ?_
             refine G_splitD 41 rfl (fun hc2 => ?_) (fun hc2 => ?_)
             rotate_left
             · (first | (exact absurd rfl hc2) | (exfalso; omega) | (exfalso; simp at hc2; done))
             refine G_val rfl rfl rfl rfl (V_move rfl rfl) ?_
             refine G_call (L2 := [_, _, _, _, _, _, _]) rfl rfl rfl rfl rfl rfl Tryd.call37 (ll_num _) [] [] rfl rfl ?_
             rintro v post ⟨rfl, rfl⟩
             show G _ _ _ [_, _, _, _, _, _, _] _
             refine G_val rfl rfl rfl rfl (V_eql rfl rfl rfl) ?_
             refine G_val rfl rfl rfl rfl (V_pickT rfl rfl rfl) ?_
             refine G_val rfl rfl rfl rfl (V_move rfl rfl) ?_
             refine G_splitD 46 rfl (fun hc3 => ?_) (fun hc3 => ?_)
             rotate_left
             · (first | (exact absurd rfl hc3) | (exfalso; omega) | (exfalso; simp at hc3; done))
             refine G_val rfl rfl rfl rfl (V_move rfl rfl) ?_
             refine G_call (L2 := [_, _, _, _, _, _, _]) rfl rfl rfl rfl rfl rfl Tryd.call37 (ll_num _) [] [] rfl rfl ?_
             rintro v post ⟨rfl, rfl⟩
             show G _ _ _ [_, _, _, _, _, _, _] _
             refine G_val rfl rfl rfl rfl (V_eql rfl rfl rfl) ?_
             refine G_val rfl rfl rfl rfl (V_pickT rfl rfl rfl) ?_
             refine G_val rfl rfl rfl rfl (V_move rfl rfl) ?_
             refine G_splitD 51 rfl (fun hc4 => ?_) (fun hc4 => ?_)
             rotate_left
             · (first | (exact absurd rfl hc4) | (exfalso; omega) | (exfalso; simp at hc4; done))
             refine G_val rfl rfl rfl rfl (V_move rfl rfl) ?_
             refine G_call (L2 := [_, _, _, _, _, _, _]) rfl rfl rfl rfl rfl rfl Tryd.call44 (lg_at d g 2 5 7 3) [] [1] rfl rfl ?_
             rintro v post ⟨rfl, rfl⟩
             show G _ _ _ [_, _, _, _, _, _, _] _
             refine G_val rfl rfl rfl rfl (V_eql rfl rfl rfl) ?_
             refine G_val rfl rfl rfl rfl (V_pickT rfl rfl rfl) ?_
             refine G_val rfl rfl rfl rfl (V_move rfl rfl) ?_
             refine G_splitD 56 rfl (fun hc5 => ?_) (fun hc5 => ?_)
             rotate_left
             · (first | (exact absurd rfl hc5) | (exfalso; omega) | (exfalso; simp at hc5; done))
             refine G_val rfl rfl rfl rfl (V_move rfl rfl) ?_
             refine G_call (L2 := [_, _, _, _, _, _, _]) rfl rfl rfl rfl rfl rfl Tryd.call45 (lg_room d g 2 5 7 3 (by omega) (by omega) (by omega)) [] [1] rfl rfl ?_
             rintro v post ⟨rfl, rfl⟩
             show G _ _ _ [_, _, _, _, _, _, _] _
             refine G_val rfl rfl rfl rfl (V_eql rfl rfl rfl) ?_
             refine G_val rfl rfl rfl rfl (V_pickT rfl rfl rfl) ?_
             refine G_val rfl rfl rfl rfl (V_move rfl rfl) ?_
             refine G_splitD 61 rfl (fun hc6 => ?_) (fun hc6 => ?_)
             rotate_left
             · (first | (exact absurd rfl hc6) | (exfalso; omega) | (exfalso; simp at hc6; done))
             refine G_val rfl rfl rfl rfl (V_move rfl rfl) ?_
             refine G_val rfl rfl rfl rfl (V_len rfl rfl Tryd.underlying24 rfl) ?_
             refine G_val rfl rfl rfl rfl (V_eql rfl rfl rfl) ?_
             refine G_val rfl rfl rfl rfl (V_pickT rfl rfl rfl) ?_
             refine G_val rfl rfl rfl rfl (V_move rfl rfl) ?_
             refine G_splitD 66 rfl (fun hc7 => ?_) (fun hc7 => ?_)
             rotate_left
             · (first | (exact absurd rfl hc7) | (exfalso; omega) | (exfalso; simp at hc7; done))
             refine G_val rfl rfl rfl rfl (V_move rfl rfl) ?_
             refine G_val rfl rfl rfl rfl (V_eql rfl rfl rfl) ?_
             refine G_val rfl rfl rfl rfl (V_pickT rfl rfl rfl) ?_
             refine G_val rfl rfl rfl rfl (V_assign rfl rfl) ?_
             refine G_done ?_
             refine G_ret (post := []) Tryd.func34 rfl (RVs_cons (RV_tmp rfl) RVs_nil) [] rfl ?_
             dsimp only [packed]
             exact ⟨rfl, rfl⟩

end
end Go.Proofs.YtbblkgdejgoncaaDoor

/- The reference of layer 26, and what is laid: the walks for the law LogReplays. -/
set_option linter.unusedSimpArgs false
set_option linter.unusedVariables false
namespace Go.Proofs.YtbblkgdejgoncaaDoor
open Go Go.ChangeShapes Go.WideShapes Go.ChangeAt Go.RowKit

section
theorem infLogP_4 : Tryd.prog.info? 4 = some Tryd.t4 := by kernel_rfl
theorem infLogP_9 : Tryd.prog.info? 9 = some Tryd.t9 := by kernel_rfl
theorem infLogP_22 : Tryd.prog.info? 22 = some Tryd.t22 := by kernel_rfl
theorem infLogP_128 : Tryd.prog.info? 128 = some Tryd.t128 := by kernel_rfl
theorem plcLogP_128 : placesOf Tryd.prog (Tryd.prog.fieldsOf 128) = some [(0, 1), (1, 1), (2, 1), (3, 1)] := by kernel_rfl


/-- What a piece of the document tells: by its place, and an epoch from a to b. -/
def opL (rb : List (List UInt8)) (i : Nat) : Array Value := #[.int .u32 ((pE rb i : Nat) : Int), .int .u32 ((openI (rb.getD i []) : Nat) : Int), .string (bs (pD rb i)), .bool (openOk (rb.getD i []))]
def pcOk (rb : List (List UInt8)) (i a b : Nat) : Bool := pOk rb i && decide (a ≤ pE rb i) && decide (pE rb i ≤ b)
theorem pcOk_iff {rb : List (List UInt8)} {i a b : Nat} : pcOk rb i a b = true ↔ pOk rb i = true ∧ a ≤ pE rb i ∧ pE rb i ≤ b := by unfold pcOk; simp [and_assoc]
theorem openA_L {rb : List (List UInt8)} {i : Nat} {x : List UInt8} (h : rb.getD i [] = x) : openA x = .agg (opL rb i) := by subst h; rfl
theorem opL_big {rb : List (List UInt8)} {i : Nat} (h : rb.length ≤ i) : opL rb i = #[.int .u32 0, .int .u32 0, .string (bs []), .bool false] := by
  obtain ⟨_, h2, h3⟩ := pOk_big h
  have e : rb.getD i [] = [] := by rw [List.getD_eq_getElem?_getD, List.getElem?_eq_none h]; rfl
  unfold opL; rw [h2, h3, e]
  have e2 := empty_open
  unfold openI; simp [e2]
theorem pc_no0 {rb : List (List UInt8)} {i a b : Nat} (h : rb.length ≤ i) : pcOk rb i a b = false := by unfold pcOk; rw [(pOk_big h).1]; rfl
theorem pc_no1 {rb : List (List UInt8)} {i a b : Nat} (h : openOk (rb.getD i []) = false) : pcOk rb i a b = false := by unfold pcOk; rw [pOk_no1 rfl h]; rfl
theorem pc_no2 {rb : List (List UInt8)} {i a b : Nat} (h : ¬ ((openI (rb.getD i []) : Nat) : Int) = (i : Int)) : pcOk rb i a b = false := by unfold pcOk; rw [pOk_no2 rfl h]; rfl
theorem pc_no3 {rb : List (List UInt8)} {i a b : Nat} (h : ¬ (a : Int) ≤ ((pE rb i : Nat) : Int)) : pcOk rb i a b = false := by
  unfold pcOk; rw [decide_eq_false (by omega), Bool.and_false]; rfl
theorem pc_dec {rb : List (List UInt8)} {i a b : Nat} (h1 : openOk (rb.getD i []) = true) (h2 : ((openI (rb.getD i []) : Nat) : Int) = (i : Int)) (h3 : (a : Int) ≤ ((pE rb i : Nat) : Int)) : pcOk rb i a b = decide (((pE rb i : Nat) : Int) ≤ (b : Int)) := by
  unfold pcOk; rw [pOk_yes rfl h1 h2, decide_eq_true (show a ≤ pE rb i by omega), Bool.true_and, Bool.true_and]; exact decide_eq_decide.2 (by omega)
theorem pE_lt (rb : List (List UInt8)) (i : Nat) : pE rb i < 4294967296 := openE_lt _

set_option maxRecDepth 100000 in
set_option maxHeartbeats 1000000 in
theorem rl_piece (o1 : Option Nat) (p1 q1 : Nat) (c1 : Array Value) (T1 : TypeId) (f1 : Nat × Nat) (ls : List (List UInt8)) (hs : Sees 1 o1 p1 q1 c1 (ls.map strC) ls.length) (hl : ∀ b ∈ ls, b.length ≤ 64) (hn : ls.length ≤ 100000) (i a b : Nat) (hi : i ≤ 1000000) (ha : a < 4294967296) (hb : b < 4294967296) :
    Ct Tryd.prog 79 [sv o1 p1 ls.length q1, .int .i64 (i : Int), .int .u32 (a : Int), .int .u32 (b : Int)] [(o1, .cells c1 T1 f1)] [] fun v post => v = .tuple #[.agg (opL ls i), .bool (pcOk ls i a b)] ∧ post = [] := by
 have hk1 := hs.le
 have hk2 := hs.max
 refine ct_of Tryd.func79 rfl rfl (fun w0 => ?_)
 show G _ _ [(0, _), (1, _), (2, _), (3, _)] _ _
 refine G_seq ?_
 refine G_region (l := [0, 1]) rfl ?_
 refine G_new rfl rfl rfl rfl (N_allocA rfl infLogP_128 rfl) (fun b8 => ?_)
 refine G_val rfl rfl rfl rfl (V_assign rfl rfl) ?_
 refine G_done ?_
 refine G_seq ?_
 refine G_seq ?_
 refine G_region (l := [0, 1, 2, 3]) rfl ?_
 refine G_val rfl rfl rfl rfl (V_move rfl rfl) ?_
 refine G_val rfl rfl rfl rfl (V_move rfl rfl) ?_
 refine G_val rfl rfl rfl rfl (V_len rfl rfl Tryd.underlying24 rfl) ?_
 refine G_val rfl rfl rfl rfl (V_geq rfl rfl rfl) ?_
 refine G_done ?_
 refine G_ifD rfl (fun hc1 => ?_) (fun hc1 => ?_)
 · skip
   refine G_seq ?_
   refine G_region (l := [0, 1, 2]) rfl ?_
   refine G_val rfl rfl rfl rfl (V_buildS (cs := [_, _, _, _]) rfl Tryd.underlying128 infLogP_128 rfl plcLogP_128 rfl rfl rfl) ?_
   refine G_put (l1 := []) (L' := [_]) rfl rfl rfl rfl (P_storeA (s := 4) rfl rfl rfl (mem_at 0 rfl) (by first | rfl | (simp [bcells_length, wCells, kCells, rgC, lgC, rdC, opL]; done) | (simp [bcells_length, wCells, kCells, rgC, lgC, rdC, opL]; omega) | (simp [bcells_length, *, wCells, kCells, rgC, lgC, rdC, opL]; done)) infLogP_128 rfl (by first | rfl | (simp [bcells_length, wCells, kCells, rgC, lgC, rdC, opL]; done) | (simp [bcells_length, wCells, kCells, rgC, lgC, rdC, opL]; omega) | (simp [bcells_length, *, wCells, kCells, rgC, lgC, rdC, opL]; done)) (by first | rfl | exact bcells_all _ | (simp [Value.oneCell', wCells, kCells, rgC, lgC, rdC, opL]; done) | (simp [Value.oneCell', *, wCells, kCells, rgC, lgC, rdC, opL]; done))) rfl ?_
   refine G_val rfl rfl rfl rfl (V_assign rfl rfl) ?_
   refine G_done ?_
   refine G_ret (post := []) Tryd.func79 rfl (RVs_cons (RV_cell (s := 4) rfl (mem_at 1 rfl) Tryd.underlying128 rfl infLogP_128 rfl (by first | rfl | (simp [bcells_length, wCells, kCells, rgC, lgC, rdC, opL]; done) | (simp [bcells_length, wCells, kCells, rgC, lgC, rdC, opL]; omega) | (simp [bcells_length, *, wCells, kCells, rgC, lgC, rdC, opL]; done))) (RVs_cons (RV_tmp rfl) RVs_nil)) [] rfl ?_
   dsimp only [packed]
   first
     | (suffices hz : ls.length ≤ i by (rw [pc_no0 hz, opL_big hz]; exact ⟨rfl, rfl⟩)
        omega)
     | (rw [pc_no1 (by assumption)]; exact ⟨rfl, rfl⟩)
     | (rw [pc_no2 (by assumption)]; exact ⟨rfl, rfl⟩)
     | (rw [pc_no3 (by assumption)]; exact ⟨rfl, rfl⟩)
     | (rw [pc_dec (by assumption) (by assumption) (by assumption)]; exact ⟨rfl, rfl⟩)
 refine G_skip ?_
 refine G_seq ?_
 obtain ⟨x, hx⟩ := getI (show i < ls.length by omega)
 obtain ⟨b1, rfl⟩ := hs.isSome (by omega)
 have hx64 := hl x (List.mem_of_getElem? hx)
 have hxg : ls.getD i [] = x := by rw [List.getD_eq_getElem?_getD, hx]; rfl
 have hq1 := pE_lt ls i
 refine G_region (l := [0, 1, 2, 3, 4, 5, 6]) rfl ?_
 refine G_val rfl rfl rfl rfl (V_move rfl rfl) ?_
 refine G_val rfl rfl rfl rfl (V_move rfl rfl) ?_
 first
   | refine G_val rfl rfl rfl rfl (V_indexAddrN (s := 1) rfl Tryd.underlying24 infLogP_9 rfl rfl rfl rfl (by omega)) ?_
   | refine G_val rfl rfl rfl rfl (V_indexAddr (s := 1) rfl Tryd.underlying24 infLogP_9 rfl rfl rfl (by omega) (by first | omega | (simp [wCells, kCells, rgC, lgC, rdC, opL]; done) | (simp [wCells, kCells, rgC, lgC, rdC, opL]; omega) | (simp [wCells, kCells, rgC, lgC, rdC, opL] at *; omega))) ?_
 refine G_val rfl rfl rfl rfl (V_load1 rfl rfl (mem_at 0 rfl) (nth_of (hs.cell hx)) Tryd.underlying9 rfl) ?_
 refine G_call (L2 := [_]) rfl rfl rfl rfl rfl rfl Tryd.call71 ((rseal_open x (by omega)).weaken (fun v post h => by rw [openA_L hxg] at h; exact h)) [] [] rfl rfl ?_
 rintro v post ⟨rfl, rfl⟩
 show G _ _ _ [_] _
 refine G_new rfl rfl rfl rfl (N_allocA rfl infLogP_128 rfl) (fun b10 => ?_)
 refine G_put (l1 := []) (L' := [_, _]) rfl rfl rfl rfl (P_storeA (s := 4) rfl rfl rfl (mem_at 0 rfl) (by first | rfl | (simp [bcells_length, wCells, kCells, rgC, lgC, rdC, opL]; done) | (simp [bcells_length, wCells, kCells, rgC, lgC, rdC, opL]; omega) | (simp [bcells_length, *, wCells, kCells, rgC, lgC, rdC, opL]; done)) infLogP_128 rfl (by first | rfl | (simp [bcells_length, wCells, kCells, rgC, lgC, rdC, opL]; done) | (simp [bcells_length, wCells, kCells, rgC, lgC, rdC, opL]; omega) | (simp [bcells_length, *, wCells, kCells, rgC, lgC, rdC, opL]; done)) (by first | rfl | exact bcells_all _ | (simp [Value.oneCell', wCells, kCells, rgC, lgC, rdC, opL]; done) | (simp [Value.oneCell', *, wCells, kCells, rgC, lgC, rdC, opL]; done))) rfl ?_
 refine G_done ?_
 refine G_seq ?_
 refine GH_start (Lq := [_]) (isq := [0]) (m := 24) mixedK rfl rfl ?_
 first
   | refine GH_take 0 rfl rfl rfl rfl (by kernel_rfl) (by kernel_rfl) (by kernel_rfl) (fun _ _ => (V_loadW (s := 4) rfl rfl (mem_at 1 rfl) Tryd.underlying128 rfl infLogP_128 rfl (by first | rfl | (simp [bcells_length, wCells, kCells, rgC, lgC, rdC, opL]; done) | (simp [bcells_length, wCells, kCells, rgC, lgC, rdC, opL]; omega) | (simp [bcells_length, *, wCells, kCells, rgC, lgC, rdC, opL]; done)))) ?_
   | refine GH_take 0 rfl rfl rfl rfl (by kernel_rfl) (by kernel_rfl) (by kernel_rfl) (fun _ _ => (V_loadA (s := 4) rfl rfl (mem_at 1 rfl) Tryd.underlying128 rfl infLogP_128 rfl rfl (by first | rfl | (simp [bcells_length, wCells, kCells, rgC, lgC, rdC, opL]; done) | (simp [bcells_length, wCells, kCells, rgC, lgC, rdC, opL]; omega) | (simp [bcells_length, *, wCells, kCells, rgC, lgC, rdC, opL]; done)))) ?_
 refine GH_take 1 rfl rfl rfl rfl (by kernel_rfl) (by kernel_rfl) (by kernel_rfl) (fun _ _ => (V_fieldAddr (fo := 3) rfl Tryd.underlying128 rfl infLogP_4 rfl rfl rfl)) ?_
 refine GH_take 2 rfl rfl rfl rfl (by kernel_rfl) (by kernel_rfl) (by kernel_rfl) (fun _ _ => (V_load1 rfl rfl (mem_at 1 rfl) rfl Tryd.underlying4 rfl)) ?_
 refine GH_take 3 rfl rfl rfl rfl (by kernel_rfl) (by kernel_rfl) (by kernel_rfl) (fun _ _ => (V_move rfl rfl)) ?_
 refine GH_split 24 rfl (fun hc2 => ?_) (fun hc2 => ?_)
 · skip
   refine GH_take 4 rfl rfl rfl rfl (by kernel_rfl) (by kernel_rfl) (by kernel_rfl) (fun _ _ => (V_fieldAddr (fo := 1) rfl Tryd.underlying128 rfl infLogP_22 rfl rfl rfl)) ?_
   refine GH_take 5 rfl rfl rfl rfl (by kernel_rfl) (by kernel_rfl) (by kernel_rfl) (fun _ _ => (V_load1 rfl rfl (mem_at 1 rfl) rfl Tryd.underlying22 rfl)) ?_
   refine GH_take 6 rfl rfl rfl rfl (by kernel_rfl) (by kernel_rfl) (by kernel_rfl) (fun _ _ => (V_move rfl rfl)) ?_
   first
     | refine GH_take 7 rfl rfl rfl rfl (by kernel_rfl) (by kernel_rfl) (by kernel_rfl) (fun _ _ => ((V_conv rfl rfl Tryd.underlying3 Tryd.underlying22).int (wrap_u32 (by omega)))) ?_
     | refine GH_take 7 rfl rfl rfl rfl (by kernel_rfl) (by kernel_rfl) (by kernel_rfl) (fun _ _ => (V_conv rfl rfl Tryd.underlying3 Tryd.underlying22)) ?_
   refine GH_take 8 rfl rfl rfl rfl (by kernel_rfl) (by kernel_rfl) (by kernel_rfl) (fun _ _ => (V_eql rfl rfl rfl)) ?_
   refine GH_take 9 rfl rfl rfl rfl (by kernel_rfl) (by kernel_rfl) (by kernel_rfl) (fun _ _ => (V_pickT rfl rfl rfl)) ?_
   refine GH_take 10 rfl rfl rfl rfl (by kernel_rfl) (by kernel_rfl) (by kernel_rfl) (fun _ _ => (V_move rfl rfl)) ?_
   refine GH_splitD 31 rfl (fun hc3 => ?_) (fun hc3 => ?_)
   · skip
     refine GH_take 11 rfl rfl rfl rfl (by kernel_rfl) (by kernel_rfl) (by kernel_rfl) (fun _ _ => (V_fieldAddr (fo := 0) rfl Tryd.underlying128 rfl infLogP_22 rfl rfl rfl)) ?_
     refine GH_take 12 rfl rfl rfl rfl (by kernel_rfl) (by kernel_rfl) (by kernel_rfl) (fun _ _ => (V_load1 rfl rfl (mem_at 1 rfl) rfl Tryd.underlying22 rfl)) ?_
     refine GH_take 13 rfl rfl rfl rfl (by kernel_rfl) (by kernel_rfl) (by kernel_rfl) (fun _ _ => (V_move rfl rfl)) ?_
     refine GH_take 14 rfl rfl rfl rfl (by kernel_rfl) (by kernel_rfl) (by kernel_rfl) (fun _ _ => (V_geq rfl rfl rfl)) ?_
     refine GH_take 15 rfl rfl rfl rfl (by kernel_rfl) (by kernel_rfl) (by kernel_rfl) (fun _ _ => (V_pickT rfl rfl rfl)) ?_
     refine GH_take 16 rfl rfl rfl rfl (by kernel_rfl) (by kernel_rfl) (by kernel_rfl) (fun _ _ => (V_move rfl rfl)) ?_
     refine GH_splitD 37 rfl (fun hc4 => ?_) (fun hc4 => ?_)
     · skip
       refine GH_take 17 rfl rfl rfl rfl (by kernel_rfl) (by kernel_rfl) (by kernel_rfl) (fun _ _ => (V_fieldAddr (fo := 0) rfl Tryd.underlying128 rfl infLogP_22 rfl rfl rfl)) ?_
       refine GH_take 18 rfl rfl rfl rfl (by kernel_rfl) (by kernel_rfl) (by kernel_rfl) (fun _ _ => (V_load1 rfl rfl (mem_at 1 rfl) rfl Tryd.underlying22 rfl)) ?_
       refine GH_take 19 rfl rfl rfl rfl (by kernel_rfl) (by kernel_rfl) (by kernel_rfl) (fun _ _ => (V_move rfl rfl)) ?_
       refine GH_take 20 rfl rfl rfl rfl (by kernel_rfl) (by kernel_rfl) (by kernel_rfl) (fun _ _ => (V_leq rfl rfl rfl)) ?_
       refine GH_take 21 rfl rfl rfl rfl (by kernel_rfl) (by kernel_rfl) (by kernel_rfl) (fun _ _ => (V_pickT rfl rfl rfl)) ?_
       refine GH_all [22] (by kernel_rfl) (by decide) ?_
       refine (And.intro ?_ trivial)
       · skip
         refine GHop_put (l1 := [_]) (L' := [_, _]) rfl rfl rfl rfl (P_storeA (s := 4) rfl rfl rfl (mem_at 1 rfl) (by first | rfl | (simp [bcells_length, wCells, kCells, rgC, lgC, rdC, opL]; done) | (simp [bcells_length, wCells, kCells, rgC, lgC, rdC, opL]; omega) | (simp [bcells_length, *, wCells, kCells, rgC, lgC, rdC, opL]; done)) infLogP_128 rfl (by first | rfl | (simp [bcells_length, wCells, kCells, rgC, lgC, rdC, opL]; done) | (simp [bcells_length, wCells, kCells, rgC, lgC, rdC, opL]; omega) | (simp [bcells_length, *, wCells, kCells, rgC, lgC, rdC, opL]; done)) (by first | rfl | exact bcells_all _ | (simp [Value.oneCell', wCells, kCells, rgC, lgC, rdC, opL]; done) | (simp [Value.oneCell', *, wCells, kCells, rgC, lgC, rdC, opL]; done))) rfl [0] rfl ?_
         refine GH_take 23 rfl rfl rfl rfl (by kernel_rfl) (by kernel_rfl) (by kernel_rfl) (fun _ _ => (V_assign rfl rfl)) ?_
         refine GH_done (by kernel_rfl) ?_
         refine G_ret (post := []) Tryd.func79 rfl (RVs_cons (RV_cell (s := 4) rfl (mem_at 2 rfl) Tryd.underlying128 rfl infLogP_128 rfl (by first | rfl | (simp [bcells_length, wCells, kCells, rgC, lgC, rdC, opL]; done) | (simp [bcells_length, wCells, kCells, rgC, lgC, rdC, opL]; omega) | (simp [bcells_length, *, wCells, kCells, rgC, lgC, rdC, opL]; done))) (RVs_cons (RV_tmp rfl) RVs_nil)) [] rfl ?_
         dsimp only [packed]
         first
           | (suffices hz : ls.length ≤ i by (rw [pc_no0 hz, opL_big hz]; exact ⟨rfl, rfl⟩)
              omega)
           | (rw [pc_no1 (by assumption)]; exact ⟨rfl, rfl⟩)
           | (rw [pc_no2 (by assumption)]; exact ⟨rfl, rfl⟩)
           | (rw [pc_no3 (by assumption)]; exact ⟨rfl, rfl⟩)
           | (rw [pc_dec (by assumption) (by assumption) (by assumption)]; exact ⟨rfl, rfl⟩)
     refine GH_takeOff 17 rfl rfl rfl rfl (by kernel_rfl) (by kernel_rfl) (by kernel_rfl) ?_
     refine GH_takeOff 18 rfl rfl rfl rfl (by kernel_rfl) (by kernel_rfl) (by kernel_rfl) ?_
     refine GH_takeOff 19 rfl rfl rfl rfl (by kernel_rfl) (by kernel_rfl) (by kernel_rfl) ?_
     refine GH_takeOff 20 rfl rfl rfl rfl (by kernel_rfl) (by kernel_rfl) (by kernel_rfl) ?_
     refine GH_take 21 rfl rfl rfl rfl (by kernel_rfl) (by kernel_rfl) (by kernel_rfl) (fun _ _ => (V_pickF rfl rfl rfl)) ?_
     refine GH_all [22] (by kernel_rfl) (by decide) ?_
     refine (And.intro ?_ trivial)
     · skip
       refine GHop_put (l1 := [_]) (L' := [_, _]) rfl rfl rfl rfl (P_storeA (s := 4) rfl rfl rfl (mem_at 1 rfl) (by first | rfl | (simp [bcells_length, wCells, kCells, rgC, lgC, rdC, opL]; done) | (simp [bcells_length, wCells, kCells, rgC, lgC, rdC, opL]; omega) | (simp [bcells_length, *, wCells, kCells, rgC, lgC, rdC, opL]; done)) infLogP_128 rfl (by first | rfl | (simp [bcells_length, wCells, kCells, rgC, lgC, rdC, opL]; done) | (simp [bcells_length, wCells, kCells, rgC, lgC, rdC, opL]; omega) | (simp [bcells_length, *, wCells, kCells, rgC, lgC, rdC, opL]; done)) (by first | rfl | exact bcells_all _ | (simp [Value.oneCell', wCells, kCells, rgC, lgC, rdC, opL]; done) | (simp [Value.oneCell', *, wCells, kCells, rgC, lgC, rdC, opL]; done))) rfl [0] rfl ?_
       refine GH_take 23 rfl rfl rfl rfl (by kernel_rfl) (by kernel_rfl) (by kernel_rfl) (fun _ _ => (V_assign rfl rfl)) ?_
       refine GH_done (by kernel_rfl) ?_
       refine G_ret (post := []) Tryd.func79 rfl (RVs_cons (RV_cell (s := 4) rfl (mem_at 2 rfl) Tryd.underlying128 rfl infLogP_128 rfl (by first | rfl | (simp [bcells_length, wCells, kCells, rgC, lgC, rdC, opL]; done) | (simp [bcells_length, wCells, kCells, rgC, lgC, rdC, opL]; omega) | (simp [bcells_length, *, wCells, kCells, rgC, lgC, rdC, opL]; done))) (RVs_cons (RV_tmp rfl) RVs_nil)) [] rfl ?_
       dsimp only [packed]
       first
         | (suffices hz : ls.length ≤ i by (rw [pc_no0 hz, opL_big hz]; exact ⟨rfl, rfl⟩)
            omega)
         | (rw [pc_no1 (by assumption)]; exact ⟨rfl, rfl⟩)
         | (rw [pc_no2 (by assumption)]; exact ⟨rfl, rfl⟩)
         | (rw [pc_no3 (by assumption)]; exact ⟨rfl, rfl⟩)
         | (rw [pc_dec (by assumption) (by assumption) (by assumption)]; exact ⟨rfl, rfl⟩)
   refine GH_takeOff 11 rfl rfl rfl rfl (by kernel_rfl) (by kernel_rfl) (by kernel_rfl) ?_
   refine GH_takeOff 12 rfl rfl rfl rfl (by kernel_rfl) (by kernel_rfl) (by kernel_rfl) ?_
   refine GH_takeOff 13 rfl rfl rfl rfl (by kernel_rfl) (by kernel_rfl) (by kernel_rfl) ?_
   refine GH_takeOff 14 rfl rfl rfl rfl (by kernel_rfl) (by kernel_rfl) (by kernel_rfl) ?_
   refine GH_take 15 rfl rfl rfl rfl (by kernel_rfl) (by kernel_rfl) (by kernel_rfl) (fun _ _ => (V_pickF rfl rfl rfl)) ?_
   refine GH_take 16 rfl rfl rfl rfl (by kernel_rfl) (by kernel_rfl) (by kernel_rfl) (fun _ _ => (V_move rfl rfl)) ?_
   refine GH_takeOff 17 rfl rfl rfl rfl (by kernel_rfl) (by kernel_rfl) (by kernel_rfl) ?_
   refine GH_takeOff 18 rfl rfl rfl rfl (by kernel_rfl) (by kernel_rfl) (by kernel_rfl) ?_
   refine GH_takeOff 19 rfl rfl rfl rfl (by kernel_rfl) (by kernel_rfl) (by kernel_rfl) ?_
   refine GH_takeOff 20 rfl rfl rfl rfl (by kernel_rfl) (by kernel_rfl) (by kernel_rfl) ?_
   refine GH_take 21 rfl rfl rfl rfl (by kernel_rfl) (by kernel_rfl) (by kernel_rfl) (fun _ _ => (V_pickF rfl rfl rfl)) ?_
   refine GH_all [22] (by kernel_rfl) (by decide) ?_
   refine (And.intro ?_ trivial)
   · skip
     refine GHop_put (l1 := [_]) (L' := [_, _]) rfl rfl rfl rfl (P_storeA (s := 4) rfl rfl rfl (mem_at 1 rfl) (by first | rfl | (simp [bcells_length, wCells, kCells, rgC, lgC, rdC, opL]; done) | (simp [bcells_length, wCells, kCells, rgC, lgC, rdC, opL]; omega) | (simp [bcells_length, *, wCells, kCells, rgC, lgC, rdC, opL]; done)) infLogP_128 rfl (by first | rfl | (simp [bcells_length, wCells, kCells, rgC, lgC, rdC, opL]; done) | (simp [bcells_length, wCells, kCells, rgC, lgC, rdC, opL]; omega) | (simp [bcells_length, *, wCells, kCells, rgC, lgC, rdC, opL]; done)) (by first | rfl | exact bcells_all _ | (simp [Value.oneCell', wCells, kCells, rgC, lgC, rdC, opL]; done) | (simp [Value.oneCell', *, wCells, kCells, rgC, lgC, rdC, opL]; done))) rfl [0] rfl ?_
     refine GH_take 23 rfl rfl rfl rfl (by kernel_rfl) (by kernel_rfl) (by kernel_rfl) (fun _ _ => (V_assign rfl rfl)) ?_
     refine GH_done (by kernel_rfl) ?_
     refine G_ret (post := []) Tryd.func79 rfl (RVs_cons (RV_cell (s := 4) rfl (mem_at 2 rfl) Tryd.underlying128 rfl infLogP_128 rfl (by first | rfl | (simp [bcells_length, wCells, kCells, rgC, lgC, rdC, opL]; done) | (simp [bcells_length, wCells, kCells, rgC, lgC, rdC, opL]; omega) | (simp [bcells_length, *, wCells, kCells, rgC, lgC, rdC, opL]; done))) (RVs_cons (RV_tmp rfl) RVs_nil)) [] rfl ?_
     dsimp only [packed]
     first
       | (suffices hz : ls.length ≤ i by (rw [pc_no0 hz, opL_big hz]; exact ⟨rfl, rfl⟩)
          omega)
       | (rw [pc_no1 (by assumption)]; exact ⟨rfl, rfl⟩)
       | (rw [pc_no2 (by assumption)]; exact ⟨rfl, rfl⟩)
       | (rw [pc_no3 (by assumption)]; exact ⟨rfl, rfl⟩)
       | (rw [pc_dec (by assumption) (by assumption) (by assumption)]; exact ⟨rfl, rfl⟩)
 refine GH_takeOff 4 rfl rfl rfl rfl (by kernel_rfl) (by kernel_rfl) (by kernel_rfl) ?_
 refine GH_takeOff 5 rfl rfl rfl rfl (by kernel_rfl) (by kernel_rfl) (by kernel_rfl) ?_
 refine GH_takeOff 6 rfl rfl rfl rfl (by kernel_rfl) (by kernel_rfl) (by kernel_rfl) ?_
 refine GH_takeOff 7 rfl rfl rfl rfl (by kernel_rfl) (by kernel_rfl) (by kernel_rfl) ?_
 refine GH_takeOff 8 rfl rfl rfl rfl (by kernel_rfl) (by kernel_rfl) (by kernel_rfl) ?_
 refine GH_take 9 rfl rfl rfl rfl (by kernel_rfl) (by kernel_rfl) (by kernel_rfl) (fun _ _ => (V_pickF rfl rfl rfl)) ?_
 refine GH_take 10 rfl rfl rfl rfl (by kernel_rfl) (by kernel_rfl) (by kernel_rfl) (fun _ _ => (V_move rfl rfl)) ?_
 refine GH_takeOff 11 rfl rfl rfl rfl (by kernel_rfl) (by kernel_rfl) (by kernel_rfl) ?_
 refine GH_takeOff 12 rfl rfl rfl rfl (by kernel_rfl) (by kernel_rfl) (by kernel_rfl) ?_
 refine GH_takeOff 13 rfl rfl rfl rfl (by kernel_rfl) (by kernel_rfl) (by kernel_rfl) ?_
 refine GH_takeOff 14 rfl rfl rfl rfl (by kernel_rfl) (by kernel_rfl) (by kernel_rfl) ?_
 refine GH_take 15 rfl rfl rfl rfl (by kernel_rfl) (by kernel_rfl) (by kernel_rfl) (fun _ _ => (V_pickF rfl rfl rfl)) ?_
 refine GH_take 16 rfl rfl rfl rfl (by kernel_rfl) (by kernel_rfl) (by kernel_rfl) (fun _ _ => (V_move rfl rfl)) ?_
 refine GH_takeOff 17 rfl rfl rfl rfl (by kernel_rfl) (by kernel_rfl) (by kernel_rfl) ?_
 refine GH_takeOff 18 rfl rfl rfl rfl (by kernel_rfl) (by kernel_rfl) (by kernel_rfl) ?_
 refine GH_takeOff 19 rfl rfl rfl rfl (by kernel_rfl) (by kernel_rfl) (by kernel_rfl) ?_
 refine GH_takeOff 20 rfl rfl rfl rfl (by kernel_rfl) (by kernel_rfl) (by kernel_rfl) ?_
 refine GH_take 21 rfl rfl rfl rfl (by kernel_rfl) (by kernel_rfl) (by kernel_rfl) (fun _ _ => (V_pickF rfl rfl rfl)) ?_
 refine GH_all [22] (by kernel_rfl) (by decide) ?_
 refine (And.intro ?_ trivial)
 · skip
   refine GHop_put (l1 := [_]) (L' := [_, _]) rfl rfl rfl rfl (P_storeA (s := 4) rfl rfl rfl (mem_at 1 rfl) (by first | rfl | (simp [bcells_length, wCells, kCells, rgC, lgC, rdC, opL]; done) | (simp [bcells_length, wCells, kCells, rgC, lgC, rdC, opL]; omega) | (simp [bcells_length, *, wCells, kCells, rgC, lgC, rdC, opL]; done)) infLogP_128 rfl (by first | rfl | (simp [bcells_length, wCells, kCells, rgC, lgC, rdC, opL]; done) | (simp [bcells_length, wCells, kCells, rgC, lgC, rdC, opL]; omega) | (simp [bcells_length, *, wCells, kCells, rgC, lgC, rdC, opL]; done)) (by first | rfl | exact bcells_all _ | (simp [Value.oneCell', wCells, kCells, rgC, lgC, rdC, opL]; done) | (simp [Value.oneCell', *, wCells, kCells, rgC, lgC, rdC, opL]; done))) rfl [0] rfl ?_
   refine GH_take 23 rfl rfl rfl rfl (by kernel_rfl) (by kernel_rfl) (by kernel_rfl) (fun _ _ => (V_assign rfl rfl)) ?_
   refine GH_done (by kernel_rfl) ?_
   refine G_ret (post := []) Tryd.func79 rfl (RVs_cons (RV_cell (s := 4) rfl (mem_at 2 rfl) Tryd.underlying128 rfl infLogP_128 rfl (by first | rfl | (simp [bcells_length, wCells, kCells, rgC, lgC, rdC, opL]; done) | (simp [bcells_length, wCells, kCells, rgC, lgC, rdC, opL]; omega) | (simp [bcells_length, *, wCells, kCells, rgC, lgC, rdC, opL]; done))) (RVs_cons (RV_tmp rfl) RVs_nil)) [] rfl ?_
   dsimp only [packed]
   first
     | (suffices hz : ls.length ≤ i by (rw [pc_no0 hz, opL_big hz]; exact ⟨rfl, rfl⟩)
        omega)
     | (rw [pc_no1 (by assumption)]; exact ⟨rfl, rfl⟩)
     | (rw [pc_no2 (by assumption)]; exact ⟨rfl, rfl⟩)
     | (rw [pc_no3 (by assumption)]; exact ⟨rfl, rfl⟩)
     | (rw [pc_dec (by assumption) (by assumption) (by assumption)]; exact ⟨rfl, rfl⟩)


theorem rdec_to (u : Sl) (rb : List (List UInt8)) (a m : Nat) (h : Own 1 u ((rcTo rb a m).map strC) m) (hl : ∀ x ∈ rcTo rb a m, x.length ≤ 9223372036854775807) : Ct Tryd.prog 81 [u.v m] [(u.ob, .cells u.cs 9 u.fz)] [] (fun v post => v = .tuple #[.string (bs (decS (rcTo rb a m))), .int .i64 (decM (rcTo rb a m) : Int), .int .i64 (decE (rcTo rb a m))] ∧ post = []) := by
  have hq := rfr_decode u.ob 0 u.cap u.cs 9 u.fz (rcTo rb a m) (by rw [rcTo_len]; exact h.sees) hl
  rw [rcTo_len] at hq
  exact hq
theorem rc_no7 {rb : List (List UInt8)} {base e a : Nat} (h : (!pcOk rb a base e) = true) : ¬ rcOk rb base e a := fun x => by
  have : pcOk rb a base e = true := pcOk_iff.2 ⟨x.1, x.2.1, x.2.2.1⟩
  rw [this] at h; exact absurd h (by decide)
theorem rc_no8 {rb : List (List UInt8)} {base e a j : Nat} (hj : j < rcM rb a) (h : (!pcOk rb (a + j) (pE rb a) (pE rb a)) = true) : ¬ rcOk rb base e a := rc_no5 hj (fun x => by
  have : pcOk rb (a + j) (pE rb a) (pE rb a) = true := pcOk_iff.2 ⟨x.1, by omega, by omega⟩
  rw [this] at h; exact absurd h (by decide))
attribute [local irreducible] rcTo rcM rcS pOk pE pD decS decM decE sizeF sizeFE rp rpN pcOk

set_option maxRecDepth 100000 in
set_option maxHeartbeats 4000000 in
theorem rl_replay (o1 : Option Nat) (p1 q1 : Nat) (c1 : Array Value) (T1 : TypeId) (f1 : Nat × Nat) (ls : List (List UInt8)) (hs : Sees 1 o1 p1 q1 c1 (ls.map strC) ls.length) (hl : ∀ b ∈ ls, b.length ≤ 64) (hn : ls.length ≤ 100000) (base e : Nat) (hbs : base < 4294967296) (he : e < 4294967296) :
    Ct Tryd.prog 49 [sv o1 p1 ls.length q1, .int .u32 (base : Int), .int .u32 (e : Int)] [(o1, .cells c1 T1 f1)] [] fun v post => ∃ u : Sl, Own 1 u ((rp ls e base 0).1.map strC) (rp ls e base 0).1.length ∧ v = .tuple #[u.v (rp ls e base 0).1.length, .int .i64 ((rp ls e base 0).2 : Int)] ∧ post = [(u.ob, .cells u.cs 9 u.fz)] := by
 have hk1 := hs.le
 have hk2 := hs.max
 refine ct_of Tryd.func49 rfl rfl (fun w0 => ?_)
 show G _ _ [(0, _), (1, _), (2, _)] _ _
 refine G_seq ?_
 refine G_region (l := [0, 1]) rfl ?_
 refine G_val rfl rfl rfl rfl (V_assign rfl rfl) ?_
 refine G_val rfl rfl rfl rfl (V_assign rfl rfl) ?_
 refine G_done ?_
 refine G_seq ?_
 refine G_region (l := [0, 1]) rfl ?_
 refine G_new rfl rfl rfl rfl (N_build0 rfl Tryd.underlying24 infLogP_9) (fun b21 => ?_)
 refine G_val rfl rfl rfl rfl (V_assign rfl rfl) ?_
 refine G_done ?_
 refine G_seq ?_
 refine G_region (l := [0]) rfl ?_
 refine G_val rfl rfl rfl rfl (V_assign rfl rfl) ?_
 refine G_done ?_
 refine G_block ?_
 refine G_sub ?he3 [0] ?hl3 (G_loop (X := Nat × Nat × List (List UInt8) × Sl) (fun x => match x with | ⟨ba, aa, out, u⟩ => RpCome ls e base out ba aa ∧ Own 1 u (out.map strC) out.length) (fun x => match x with | ⟨ba, aa, out, u⟩ => ls.length - aa) (fun x => match x with | ⟨ba, aa, out, u⟩ => [(0, sv o1 p1 ls.length q1), (1, .int .u32 (ba : Int)), (2, .int .u32 (e : Int)), (8, u.v out.length), (9, .int .i64 (aa : Int))]) (fun x => match x with | ⟨ba, aa, out, u⟩ => [(u.ob, .cells u.cs 9 u.fz)]) ?round3 (base, 0, [], ⟨some b21, #[], (0, 0), 0⟩) ?h03)
 case he3 => exact (And.intro rfl (And.intro rfl (And.intro rfl (And.intro rfl (And.intro rfl trivial)))))
 case hl3 => exact ⟨_, rfl⟩
 case h03 => exact ⟨.start, own_empty 1 b21⟩
 case round3 =>
  intro x hJ ih
  try dsimp only at hJ ih
  obtain ⟨ba, aa, out, u⟩ := x
  try dsimp only at hJ ih
  obtain ⟨hc, hu⟩ := hJ
  show G _ _ [(0, sv o1 p1 ls.length q1), (1, .int .u32 (ba : Int)), (2, .int .u32 (e : Int)), (8, u.v out.length), (9, .int .i64 (aa : Int))] [(u.ob, .cells u.cs 9 u.fz)] _
  refine G_block ?_
  refine G_seq ?_
  have hcl := hc.le
  refine G_region (l := [0, 1, 2, 3, 4, 5, 6, 7, 8, 9, 10]) rfl ?_
  refine G_val rfl rfl rfl rfl (V_move rfl rfl) ?_
  refine G_val rfl rfl rfl rfl (V_move rfl rfl) ?_
  refine G_val rfl rfl rfl rfl (V_move rfl rfl) ?_
  refine G_val rfl rfl rfl rfl (V_move rfl rfl) ?_
  refine G_call (L2 := [_]) rfl rfl rfl rfl rfl rfl Tryd.call79 (rl_piece o1 p1 q1 c1 T1 f1 ls hs hl hn aa ba e (by omega) (by omega) he) [] [0] rfl rfl ?_
  rintro v post ⟨rfl, rfl⟩
  show G _ _ _ [_] _
  refine G_val rfl rfl rfl rfl (V_move rfl rfl) ?_
  refine G_val rfl rfl rfl rfl (V_extract rfl rfl rfl) ?_
  refine G_val rfl rfl rfl rfl (V_extract rfl rfl rfl) ?_
  refine G_new rfl rfl rfl rfl (N_allocA rfl infLogP_128 rfl) (fun b10 => ?_)
  refine G_put (l1 := []) (L' := [_, _]) rfl rfl rfl rfl (P_storeA (s := 4) rfl rfl rfl (mem_at 0 rfl) (by first | rfl | (simp [bcells_length, wCells, kCells, rgC, lgC, rdC, opL]; done) | (simp [bcells_length, wCells, kCells, rgC, lgC, rdC, opL]; omega) | (simp [bcells_length, *, wCells, kCells, rgC, lgC, rdC, opL]; done)) infLogP_128 rfl (by first | rfl | (simp [bcells_length, wCells, kCells, rgC, lgC, rdC, opL]; done) | (simp [bcells_length, wCells, kCells, rgC, lgC, rdC, opL]; omega) | (simp [bcells_length, *, wCells, kCells, rgC, lgC, rdC, opL]; done)) (by first | rfl | exact bcells_all _ | (simp [Value.oneCell', wCells, kCells, rgC, lgC, rdC, opL]; done) | (simp [Value.oneCell', *, wCells, kCells, rgC, lgC, rdC, opL]; done))) rfl ?_
  refine G_val rfl rfl rfl rfl (V_assign rfl rfl) ?_
  refine G_done ?_
  refine G_seq ?_
  refine G_seq ?_
  refine G_region (l := [0, 1]) rfl ?_
  refine G_val rfl rfl rfl rfl (V_move rfl rfl) ?_
  refine G_val rfl rfl rfl rfl (V_not rfl rfl) ?_
  refine G_done ?_
  refine G_if rfl (fun hc1 => ?_) (fun hc1 => ?_)
  · skip
    refine G_seq ?_
    refine G_region (l := [0, 1, 2, 3]) rfl ?_
    refine G_val rfl rfl rfl rfl (V_move rfl rfl) ?_
    refine G_val rfl rfl rfl rfl (V_move rfl rfl) ?_
    refine G_val rfl rfl rfl rfl (V_assign rfl rfl) ?_
    refine G_val rfl rfl rfl rfl (V_assign rfl rfl) ?_
    refine G_done ?_
    refine G_ret (post := [_]) Tryd.func49 rfl (RVs_cons (RV_tmp rfl) (RVs_cons (RV_tmp rfl) RVs_nil)) [1] rfl ?_
    dsimp only [packed]
    first
      | (suffices hz : ¬ rcOk ls ba e aa by (have hq := rpAt_end hc.at hz; rw [hq]; exact ⟨u, hu, rfl, rfl⟩)
         exact rc_no7 (by assumption))
      | (suffices hz : ¬ rcOk ls ba e aa by (have hq := rpAt_end hc.at hz; rw [hq]; exact ⟨u, hu, rfl, rfl⟩)
         exact rc_no4 (by assumption))
      | (suffices hz : ¬ rcOk ls ba e aa by (have hq := rpAt_end hc.at hz; rw [hq]; exact ⟨u, hu, rfl, rfl⟩)
         exact rc_no8 (show j < rcM ls aa by omega) (by assumption))
      | (suffices hz : ¬ rcOk ls ba e aa by (have hq := rpAt_end hc.at hz; rw [hq]; exact ⟨u, hu, rfl, rfl⟩)
         exact rc_no6 (by assumption))
  refine G_skip ?_
  refine G_seq ?_
  have hpk : pcOk ls aa ba e = true := by have hq := ‹(!pcOk ls aa ba e) = false›; simpa using hq
  obtain ⟨hok0, hE1, hE2⟩ := pcOk_iff.1 hpk
  have hd48 := pD_len hok0
  have hm21 := rcM_le ls aa
  have hmp := rcM_pos ls aa
  have hpl := pE_lt ls aa
  refine G_region (l := [0, 1, 2, 3, 4, 5, 6, 7]) rfl ?_
  refine G_val rfl rfl rfl rfl (V_fieldAddr (fo := 2) rfl Tryd.underlying128 rfl infLogP_9 rfl rfl rfl) ?_
  refine G_val rfl rfl rfl rfl (V_load1 rfl rfl (mem_at 1 rfl) rfl Tryd.underlying9 rfl) ?_
  refine G_call (L2 := [_, _]) rfl rfl rfl rfl rfl rfl Tryd.call80 (rfr_size (pD ls aa) (by omega)) [] [] rfl rfl ?_
  rintro v post ⟨rfl, rfl⟩
  show G _ _ _ [_, _] _
  refine G_val rfl rfl rfl rfl (V_move rfl rfl) ?_
  refine G_val rfl rfl rfl rfl (V_extract rfl rfl rfl) ?_
  refine G_val rfl rfl rfl rfl (V_extract rfl rfl rfl) ?_
  refine G_val rfl rfl rfl rfl (V_assign rfl rfl) ?_
  refine G_val rfl rfl rfl rfl (V_assign rfl rfl) ?_
  refine G_done ?_
  refine G_seq ?_
  refine G_seq ?_
  refine G_region (l := [0, 1]) rfl ?_
  refine G_val rfl rfl rfl rfl (V_move rfl rfl) ?_
  refine G_val rfl rfl rfl rfl (V_neq rfl rfl rfl) ?_
  refine G_done ?_
  refine G_ifD rfl (fun hc2 => ?_) (fun hc2 => ?_)
  · skip
    refine G_seq ?_
    refine G_region (l := [0, 1, 2, 3]) rfl ?_
    refine G_val rfl rfl rfl rfl (V_move rfl rfl) ?_
    refine G_val rfl rfl rfl rfl (V_move rfl rfl) ?_
    refine G_val rfl rfl rfl rfl (V_assign rfl rfl) ?_
    refine G_val rfl rfl rfl rfl (V_assign rfl rfl) ?_
    refine G_done ?_
    refine G_ret (post := [_]) Tryd.func49 rfl (RVs_cons (RV_tmp rfl) (RVs_cons (RV_tmp rfl) RVs_nil)) [1] rfl ?_
    dsimp only [packed]
    first
      | (suffices hz : ¬ rcOk ls ba e aa by (have hq := rpAt_end hc.at hz; rw [hq]; exact ⟨u, hu, rfl, rfl⟩)
         exact rc_no7 (by assumption))
      | (suffices hz : ¬ rcOk ls ba e aa by (have hq := rpAt_end hc.at hz; rw [hq]; exact ⟨u, hu, rfl, rfl⟩)
         exact rc_no4 (by assumption))
      | (suffices hz : ¬ rcOk ls ba e aa by (have hq := rpAt_end hc.at hz; rw [hq]; exact ⟨u, hu, rfl, rfl⟩)
         exact rc_no8 (show j < rcM ls aa by omega) (by assumption))
      | (suffices hz : ¬ rcOk ls ba e aa by (have hq := rpAt_end hc.at hz; rw [hq]; exact ⟨u, hu, rfl, rfl⟩)
         exact rc_no6 (by assumption))
  refine G_skip ?_
  refine G_seq ?_
  have hE0 : sizeFE (pD ls aa) = 0 := by omega
  refine G_region (l := [0, 1, 2, 3]) rfl ?_
  refine G_val rfl rfl rfl rfl (V_fieldAddr (fo := 2) rfl Tryd.underlying128 rfl infLogP_9 rfl rfl rfl) ?_
  refine G_val rfl rfl rfl rfl (V_load1 rfl rfl (mem_at 1 rfl) rfl Tryd.underlying9 rfl) ?_
  refine G_new rfl rfl rfl rfl (N_buildAll (s := 1) (cs := [_]) rfl Tryd.underlying24 infLogP_9 rfl rfl rfl rfl rfl rfl rfl rfl rfl) (fun b46 => ?_)
  refine G_val rfl rfl rfl rfl (V_assign rfl rfl) ?_
  refine G_done ?_
  refine G_seq ?_
  refine G_seq ?_
  refine G_region (l := [0]) rfl ?_
  refine G_val rfl rfl rfl rfl (V_assign rfl rfl) ?_
  refine G_done ?_
  refine G_block ?_
  refine G_sub ?he11 [0, 0, 0] ?hl11 (G_loop (X := Nat × Sl) (fun x => match x with | ⟨j, v⟩ => 1 ≤ j ∧ j ≤ rcM ls aa ∧ Own 1 v ((rcTo ls aa j).map strC) j ∧ rcGo ls aa j) (fun x => match x with | ⟨j, v⟩ => rcM ls aa - j) (fun x => match x with | ⟨j, v⟩ => [(0, sv o1 p1 ls.length q1), (2, .int .u32 (e : Int)), (8, u.v out.length), (9, .int .i64 (aa : Int)), (10, .pointer (some ⟨b10, 0, none⟩)), (12, .int .i64 (sizeF (pD ls aa) : Int)), (14, v.v j), (15, .int .i64 (j : Int))]) (fun x => match x with | ⟨j, v⟩ => [(v.ob, .cells v.cs 9 v.fz), (some b10, .cells (opL ls aa) 128 (0, 0)), (u.ob, .cells u.cs 9 u.fz)]) ?round11 (1, ⟨some b46, #[.string (bs (pD ls aa))], (0, 0), 1⟩) ?h011)
  case he11 => exact (And.intro rfl (And.intro rfl (And.intro rfl (And.intro rfl (And.intro rfl (And.intro rfl (And.intro rfl (And.intro rfl trivial))))))))
  case hl11 => exact ⟨_, rfl⟩
  case h011 => exact ⟨by omega, by omega, by rw [rcTo_one]; exact one_own, rcGo_one _ _ hok0⟩
  case round11 =>
   intro x hJ ih2
   try dsimp only at hJ ih2
   obtain ⟨j, v⟩ := x
   try dsimp only at hJ ih2
   obtain ⟨hj1, hj, hv, hgo⟩ := hJ
   show G _ _ [(0, sv o1 p1 ls.length q1), (2, .int .u32 (e : Int)), (8, u.v out.length), (9, .int .i64 (aa : Int)), (10, .pointer (some ⟨b10, 0, none⟩)), (12, .int .i64 (sizeF (pD ls aa) : Int)), (14, v.v j), (15, .int .i64 (j : Int))] [(v.ob, .cells v.cs 9 v.fz), (some b10, .cells (opL ls aa) 128 (0, 0)), (u.ob, .cells u.cs 9 u.fz)] _
   refine G_seq ?_
   refine G_seq ?_
   refine G_region (l := [0, 1, 2, 3]) rfl ?_
   refine G_val rfl rfl rfl rfl (V_move rfl rfl) ?_
   refine G_val rfl rfl rfl rfl (V_move rfl rfl) ?_
   refine G_call (L2 := [_, _, _]) rfl rfl rfl rfl rfl rfl Tryd.call39 (rfr_many (sizeF (pD ls aa)) (by have := sizeF_le (pD ls aa); omega)) [] [] rfl rfl ?_
   rintro v post ⟨rfl, rfl⟩
   show G _ _ _ [_, _, _] _
   rw [show manyN (sizeF (pD ls aa)) = rcM ls aa from (by unfold rcM; rfl)]
   refine G_val rfl rfl rfl rfl (V_lss rfl rfl rfl) ?_
   refine G_done ?_
   refine G_ifD rfl (fun hc3 => ?_) (fun hc3 => ?_)
   · skip
     refine G_skip ?_
     refine G_seq ?_
     refine G_block ?_
     refine G_seq ?_
     refine G_region (l := [0, 1, 2, 3, 4, 5, 6, 7, 8, 9, 10, 11, 12, 13, 14]) rfl ?_
     refine G_val rfl rfl rfl rfl (V_move rfl rfl) ?_
     refine G_val rfl rfl rfl rfl (V_move rfl rfl) ?_
     refine G_val rfl rfl rfl rfl (V_move rfl rfl) ?_
     refine G_val rfl rfl rfl rfl (Val.int (e' := ((aa + j : Nat) : Int)) (V_add rfl rfl rfl) (by rw [wrap_i64 (by omega)]; omega)) ?_
     refine G_val rfl rfl rfl rfl (V_fieldAddr (fo := 0) rfl Tryd.underlying128 rfl infLogP_22 rfl rfl rfl) ?_
     refine G_val rfl rfl rfl rfl (V_load1 rfl rfl (mem_at 2 rfl) rfl Tryd.underlying22 rfl) ?_
     refine G_val rfl rfl rfl rfl (V_fieldAddr (fo := 0) rfl Tryd.underlying128 rfl infLogP_22 rfl rfl rfl) ?_
     refine G_val rfl rfl rfl rfl (V_load1 rfl rfl (mem_at 2 rfl) rfl Tryd.underlying22 rfl) ?_
     refine G_call (L2 := [_, _, _]) rfl rfl rfl rfl rfl rfl Tryd.call79 (rl_piece o1 p1 q1 c1 T1 f1 ls hs hl hn (aa + j) (pE ls aa) (pE ls aa) (by omega) hpl hpl) [] [0] rfl rfl ?_
     rintro v post ⟨rfl, rfl⟩
     show G _ _ _ [_, _, _] _
     refine G_val rfl rfl rfl rfl (V_move rfl rfl) ?_
     refine G_val rfl rfl rfl rfl (V_extract rfl rfl rfl) ?_
     refine G_val rfl rfl rfl rfl (V_extract rfl rfl rfl) ?_
     refine G_new rfl rfl rfl rfl (N_allocA rfl infLogP_128 rfl) (fun b16 => ?_)
     refine G_put (l1 := []) (L' := [_, _, _, _]) rfl rfl rfl rfl (P_storeA (s := 4) rfl rfl rfl (mem_at 0 rfl) (by first | rfl | (simp [bcells_length, wCells, kCells, rgC, lgC, rdC, opL]; done) | (simp [bcells_length, wCells, kCells, rgC, lgC, rdC, opL]; omega) | (simp [bcells_length, *, wCells, kCells, rgC, lgC, rdC, opL]; done)) infLogP_128 rfl (by first | rfl | (simp [bcells_length, wCells, kCells, rgC, lgC, rdC, opL]; done) | (simp [bcells_length, wCells, kCells, rgC, lgC, rdC, opL]; omega) | (simp [bcells_length, *, wCells, kCells, rgC, lgC, rdC, opL]; done)) (by first | rfl | exact bcells_all _ | (simp [Value.oneCell', wCells, kCells, rgC, lgC, rdC, opL]; done) | (simp [Value.oneCell', *, wCells, kCells, rgC, lgC, rdC, opL]; done))) rfl ?_
     refine G_val rfl rfl rfl rfl (V_assign rfl rfl) ?_
     refine G_done ?_
     refine G_seq ?_
     refine G_seq ?_
     refine G_region (l := [0, 1]) rfl ?_
     refine G_val rfl rfl rfl rfl (V_move rfl rfl) ?_
     refine G_val rfl rfl rfl rfl (V_not rfl rfl) ?_
     refine G_done ?_
     refine G_if rfl (fun hc4 => ?_) (fun hc4 => ?_)
     · skip
       refine G_seq ?_
       refine G_region (l := [0, 1, 2, 3]) rfl ?_
       refine G_val rfl rfl rfl rfl (V_move rfl rfl) ?_
       refine G_val rfl rfl rfl rfl (V_move rfl rfl) ?_
       refine G_val rfl rfl rfl rfl (V_assign rfl rfl) ?_
       refine G_val rfl rfl rfl rfl (V_assign rfl rfl) ?_
       refine G_done ?_
       refine G_ret (post := [_]) Tryd.func49 rfl (RVs_cons (RV_tmp rfl) (RVs_cons (RV_tmp rfl) RVs_nil)) [3] rfl ?_
       dsimp only [packed]
       first
         | (suffices hz : ¬ rcOk ls ba e aa by (have hq := rpAt_end hc.at hz; rw [hq]; exact ⟨u, hu, rfl, rfl⟩)
            exact rc_no7 (by assumption))
         | (suffices hz : ¬ rcOk ls ba e aa by (have hq := rpAt_end hc.at hz; rw [hq]; exact ⟨u, hu, rfl, rfl⟩)
            exact rc_no4 (by assumption))
         | (suffices hz : ¬ rcOk ls ba e aa by (have hq := rpAt_end hc.at hz; rw [hq]; exact ⟨u, hu, rfl, rfl⟩)
            exact rc_no8 (show j < rcM ls aa by omega) (by assumption))
         | (suffices hz : ¬ rcOk ls ba e aa by (have hq := rpAt_end hc.at hz; rw [hq]; exact ⟨u, hu, rfl, rfl⟩)
            exact rc_no6 (by assumption))
     refine G_skip ?_
     refine G_region (l := [0, 1, 2, 3, 4, 5]) rfl ?_
     refine G_val rfl rfl rfl rfl (V_move rfl rfl) ?_
     refine G_val rfl rfl rfl rfl (V_fieldAddr (fo := 2) rfl Tryd.underlying128 rfl infLogP_9 rfl rfl rfl) ?_
     refine G_val rfl rfl rfl rfl (V_load1 rfl rfl (mem_at 1 rfl) rfl Tryd.underlying9 rfl) ?_
     refine G_new rfl rfl rfl rfl (N_buildAll (s := 1) (cs := [_]) rfl Tryd.underlying24 infLogP_9 rfl rfl rfl rfl rfl rfl rfl rfl rfl) (fun b72 => ?_)
     refine G_append (l1 := [_, _]) (s := v) (nn := j) (m := 1) (news := [strC (pD ls (aa + j))]) (bt := 16) rfl rfl rfl rfl Tryd.underlying24 Tryd.underlying24 (by first | exact .inl rfl | exact .inr ⟨_, rfl⟩) infLogP_9 rfl rfl rfl rfl rfl rfl hv rfl (src_mem (mem_at 1 rfl) rfl rfl (by simp [strC, Value.oneCell'])) (by omega) (by omega) ?_
     intro v1 hv1 _
     show G _ _ _ [_, _, _, _, _] _
     refine G_val rfl rfl rfl rfl (V_assign rfl rfl) ?_
     refine G_done ?_
     refine G_inBlock ?_
     refine G_region (l := [0, 1, 2]) rfl ?_
     refine G_val rfl rfl rfl rfl (V_move rfl rfl) ?_
     first
       | refine G_val rfl rfl rfl rfl ((V_add rfl rfl rfl).int (wrap_i64 (by omega))) ?_
       | refine G_val rfl rfl rfl rfl (V_add rfl rfl rfl) ?_
     refine G_val rfl rfl rfl rfl (V_assign rfl rfl) ?_
     refine G_done ?_
     refine G_sub ?_ [2, 2, 2] ?_ (ih2 (j + 1, v1) ?_ ?_)
     · (refine (And.intro ?_ (And.intro ?_ (And.intro ?_ (And.intro ?_ (And.intro ?_ (And.intro ?_ (And.intro ?_ (And.intro ?_ trivial)))))))) <;> first | rfl | exact slot_int (by omega) | exact slot_int (by simp))
     · exact ⟨_, rfl⟩
     · exact ⟨by omega, by omega, by rw [← rcTo_nextS]; exact hv1, (by have hq := ‹(!pcOk ls (aa + j) (pE ls aa) (pE ls aa)) = false›; obtain ⟨g1, g2, g3⟩ := pcOk_iff.1 (show pcOk ls (aa + j) (pE ls aa) (pE ls aa) = true by simpa using hq); exact rcGo_next hgo g1 (by omega))⟩
     · (first | omega | (dsimp only; omega))
   refine G_exit rfl ?_
   refine G_seq ?_
   obtain rfl : j = rcM ls aa := by omega
   have hdl := rcTo_48 hgo
   refine G_region (l := [0, 1, 2, 3, 4, 5, 6, 7, 8]) rfl ?_
   refine G_val rfl rfl rfl rfl (V_move rfl rfl) ?_
   refine G_call (L2 := [_, _, _]) rfl rfl rfl rfl rfl rfl Tryd.call81 (rdec_to v ls aa _ hv hdl) [] [1] rfl rfl ?_
   rintro v post ⟨rfl, rfl⟩
   show G _ _ _ [_, _, _] _
   refine G_val rfl rfl rfl rfl (V_move rfl rfl) ?_
   refine G_val rfl rfl rfl rfl (V_extract rfl rfl rfl) ?_
   refine G_val rfl rfl rfl rfl (V_extract rfl rfl rfl) ?_
   refine G_val rfl rfl rfl rfl (V_extract rfl rfl rfl) ?_
   refine G_val rfl rfl rfl rfl (V_assign rfl rfl) ?_
   refine G_val rfl rfl rfl rfl (V_assign rfl rfl) ?_
   refine G_val rfl rfl rfl rfl (V_assign rfl rfl) ?_
   refine G_done ?_
   refine G_seq ?_
   refine G_seq ?_
   refine G_region (l := [0, 1]) rfl ?_
   refine G_val rfl rfl rfl rfl (V_move rfl rfl) ?_
   refine G_val rfl rfl rfl rfl (V_neq rfl rfl rfl) ?_
   refine G_done ?_
   refine G_ifD rfl (fun hc4 => ?_) (fun hc4 => ?_)
   · skip
     refine G_seq ?_
     refine G_region (l := [0, 1, 2, 3]) rfl ?_
     refine G_val rfl rfl rfl rfl (V_move rfl rfl) ?_
     refine G_val rfl rfl rfl rfl (V_move rfl rfl) ?_
     refine G_val rfl rfl rfl rfl (V_assign rfl rfl) ?_
     refine G_val rfl rfl rfl rfl (V_assign rfl rfl) ?_
     refine G_done ?_
     refine G_ret (post := [_]) Tryd.func49 rfl (RVs_cons (RV_tmp rfl) (RVs_cons (RV_tmp rfl) RVs_nil)) [2] rfl ?_
     dsimp only [packed]
     first
       | (suffices hz : ¬ rcOk ls ba e aa by (have hq := rpAt_end hc.at hz; rw [hq]; exact ⟨u, hu, rfl, rfl⟩)
          exact rc_no7 (by assumption))
       | (suffices hz : ¬ rcOk ls ba e aa by (have hq := rpAt_end hc.at hz; rw [hq]; exact ⟨u, hu, rfl, rfl⟩)
          exact rc_no4 (by assumption))
       | (suffices hz : ¬ rcOk ls ba e aa by (have hq := rpAt_end hc.at hz; rw [hq]; exact ⟨u, hu, rfl, rfl⟩)
          exact rc_no8 (show j < rcM ls aa by omega) (by assumption))
       | (suffices hz : ¬ rcOk ls ba e aa by (have hq := rpAt_end hc.at hz; rw [hq]; exact ⟨u, hu, rfl, rfl⟩)
          exact rc_no6 (by assumption))
   refine G_skip ?_
   refine G_seq ?_
   have hde : decE (rcTo ls aa (rcM ls aa)) = 0 := by omega
   have hrc : rcOk ls ba e aa := ⟨hok0, hE1, hE2, hE0, hgo, hde⟩
   rw [rc_decM hde, show decS (rcTo ls aa (rcM ls aa)) = rcS ls aa from (by unfold rcS; rfl)]
   refine G_region (l := [0, 1, 2, 3, 4]) rfl ?_
   refine G_val rfl rfl rfl rfl (V_move rfl rfl) ?_
   refine G_val rfl rfl rfl rfl (V_move rfl rfl) ?_
   refine G_new rfl rfl rfl rfl (N_buildAll (s := 1) (cs := [_]) rfl Tryd.underlying24 infLogP_9 rfl rfl rfl rfl rfl rfl rfl rfl rfl) (fun b86 => ?_)
   refine G_append (l1 := [_, _, _]) (s := u) (nn := out.length) (m := 1) (news := [strC (rcS ls aa)]) (bt := 16) rfl rfl rfl rfl Tryd.underlying24 Tryd.underlying24 (by first | exact .inl rfl | exact .inr ⟨_, rfl⟩) infLogP_9 rfl rfl rfl rfl rfl rfl hu rfl (src_mem (mem_at 1 rfl) rfl rfl (by simp [strC, Value.oneCell'])) (by omega) (by omega) ?_
   intro u1 hu1 _
   show G _ _ _ [_, _, _, _] _
   refine G_val rfl rfl rfl rfl (V_assign rfl rfl) ?_
   refine G_done ?_
   refine G_seq ?_
   refine G_region (l := [0, 1, 2, 3]) rfl ?_
   refine G_val rfl rfl rfl rfl (V_move rfl rfl) ?_
   refine G_val rfl rfl rfl rfl (V_move rfl rfl) ?_
   refine G_val rfl rfl rfl rfl (Val.int (e' := ((aa + rcM ls aa : Nat) : Int)) (V_add rfl rfl rfl) (by rw [wrap_i64 (by omega)]; omega)) ?_
   refine G_val rfl rfl rfl rfl (V_assign rfl rfl) ?_
   refine G_done ?_
   refine G_region (l := [0, 1, 2]) rfl ?_
   refine G_val rfl rfl rfl rfl (V_fieldAddr (fo := 0) rfl Tryd.underlying128 rfl infLogP_22 rfl rfl rfl) ?_
   refine G_val rfl rfl rfl rfl (V_load1 rfl rfl (mem_at 3 rfl) rfl Tryd.underlying22 rfl) ?_
   refine G_val rfl rfl rfl rfl (V_assign rfl rfl) ?_
   refine G_done ?_
   refine G_inBlock ?_
   refine G_sub ?_ [3] ?_ (ih (pE ls aa, aa + rcM ls aa, out ++ [rcS ls aa], u1) ?_ ?_)
   · (refine (And.intro rfl (And.intro rfl (And.intro rfl (And.intro ?_ (And.intro rfl trivial))))) <;> (dsimp only; rw [List.length_append]; rfl))
   · exact ⟨_, rfl⟩
   · exact ⟨.next hc hrc, by rw [List.length_append, List.map_append]; exact hu1⟩
   · (dsimp only; have := rc_le hrc; omega)

end
end Go.Proofs.YtbblkgdejgoncaaDoor

/- The walk of the law LogReplays. -/
set_option linter.unusedSimpArgs false
set_option linter.unusedVariables false
namespace Go.Proofs.YtbblkgdejgoncaaDoor
open Go Go.ChangeShapes Go.WideShapes Go.ChangeAt Go.RowKit

section
theorem infLogPW_3 : Tryd.prog.info? 3 = some Tryd.t3 := by kernel_rfl
theorem infLogPW_5 : Tryd.prog.info? 5 = some Tryd.t5 := by kernel_rfl
theorem infLogPW_9 : Tryd.prog.info? 9 = some Tryd.t9 := by kernel_rfl
theorem infLogPW_22 : Tryd.prog.info? 22 = some Tryd.t22 := by kernel_rfl
theorem infLogPW_82 : Tryd.prog.info? 82 = some Tryd.t82 := by kernel_rfl


structure Ly where
  e : Nat
  i : Nat
  s : List UInt8
  p : Int
def lyC (x : Ly) : List Value := [.int .u32 (x.e : Int), .int .u32 (x.i : Int), .string (bs x.s), .int .i64 x.p]
theorem ly_len (x : Ly) : (lyC x).length = 4 := rfl
structure LyOk (x : Ly) : Prop where
  e1 : x.e < 4294967296
  i1 : x.i < 4294967296
  s1 : x.s.length ≤ 9223372036854775807
  p0 : -9223372036854775808 ≤ x.p
  p1 : x.p ≤ 9223372036854775807
instance : Inhabited Ly := ⟨⟨0, 0, [], 0⟩⟩
/-- The block that is laid. -/
def lyB (x : Ly) : List UInt8 := if 1000 < x.s.length ∨ x.p < 0 ∨ (manyN x.s.length : Int) ≤ x.p ∨ x.e = 0 then zs64 else sealL x.e x.i ((piecesF x.s).getD x.p.toNat [])
theorem lyB_no {x : Ly} (h : 1000 < x.s.length ∨ x.p < 0 ∨ (manyN x.s.length : Int) ≤ x.p ∨ x.e = 0) : lyB x = zs64 := if_pos h
theorem lyB_yes {x : Ly} (h : ¬ (1000 < x.s.length ∨ x.p < 0 ∨ (manyN x.s.length : Int) ≤ x.p ∨ x.e = 0)) : lyB x = sealL x.e x.i ((piecesF x.s).getD x.p.toNat []) := if_neg h
theorem piece_in {x : Ly} (h : ¬ x.p < 0) (h2 : x.p < (manyN x.s.length : Int)) : (piecesF x.s)[x.p.toNat]? = some ((piecesF x.s).getD x.p.toNat []) ∧ ((piecesF x.s).getD x.p.toNat []).length = 48 := by
  have hl := piecesF_len x.s
  obtain ⟨y, hy⟩ := getI (show x.p.toNat < (piecesF x.s).length by omega)
  rw [List.getD_eq_getElem?_getD, hy]
  exact ⟨rfl, piecesF_48 _ _ (List.mem_of_getElem? hy)⟩
theorem lyB_len (x : Ly) : (lyB x).length = 64 := by
  by_cases h : 1000 < x.s.length ∨ x.p < 0 ∨ (manyN x.s.length : Int) ≤ x.p ∨ x.e = 0
  · rw [lyB_no h]; simp [zs64]
  · rw [lyB_yes h]
    have := (piece_in (x := x) (by omega) (by omega)).2
    exact sealL_length ((sealE_cases _ _).2 (by omega))
theorem lyE {x : Ly} (h : ¬ x.p < 0) (h2 : x.p < (manyN x.s.length : Int)) : sealE x.e ((piecesF x.s).getD x.p.toNat []) = if x.e = 0 then 1 else 0 := by
  have := (piece_in h h2).2
  unfold sealE; rw [this]; simp

set_option maxRecDepth 100000 in
set_option maxHeartbeats 1000000 in
theorem rdl_zero  :
    Ct Tryd.prog 30 [] [] [] fun v post => v = .string (bs zs64) ∧ post = [] := by
 refine ct_of Tryd.func30 rfl rfl (fun w0 => ?_)
 show G _ _ [] _ _
 refine G_seq ?_
 refine G_region (l := [0]) rfl ?_
 refine G_val rfl rfl rfl rfl (V_assign rfl rfl) ?_
 refine G_done ?_
 refine G_seq ?_
 refine G_region (l := [0, 1, 2]) rfl ?_
 refine G_new rfl rfl rfl rfl (N_make (l := 64) (m := 64) rfl Tryd.underlying27 infLogPW_5 rfl rfl rfl rfl rfl rfl rfl (by first | decide | omega) (by first | decide | omega | (show 1 * _ ≤ _; omega)) (by first | decide | omega)) (fun b1 => ?_)
 refine G_val rfl rfl rfl rfl (V_bytesS (l := (List.replicate 64 0)) rfl rfl Tryd.underlying27 Tryd.underlying5 Tryd.underlying9 (mem_at 0 rfl) (by simp) (by rfl)) ?_
 refine G_val rfl rfl rfl rfl (V_assign rfl rfl) ?_
 refine G_done ?_
 refine G_ret (post := []) Tryd.func30 rfl (RVs_cons (RV_tmp rfl) RVs_nil) [] rfl ?_
 dsimp only [packed]
 exact ⟨rfl, rfl⟩

set_option maxRecDepth 100000 in
set_option maxHeartbeats 1000000 in
theorem ly_block (x : Ly) (hx : LyOk x) (hle : x.s.length ≤ 1000) :
    Ct Tryd.prog 47 [.agg (lyC x).toArray] [] [] fun v post => v = .string (bs (lyB x)) ∧ post = [] := by
 have hs1 := hx.s1
 have he1 := hx.e1
 have hi1 := hx.i1
 have hp0 := hx.p0
 have hp1 := hx.p1
 have hpl := piecesF_len x.s
 refine ct_of Tryd.func47 rfl rfl (fun w0 => ?_)
 show G _ _ [(0, _)] _ _
 refine G_seq ?_
 refine G_region (l := [0, 1]) rfl ?_
 refine G_new rfl rfl rfl rfl (N_boxA rfl rfl) (fun b1 => ?_)
 refine G_val rfl rfl rfl rfl (V_assign rfl rfl) ?_
 refine G_done ?_
 refine G_seq ?_
 refine G_region (l := [0, 1, 2, 3, 4, 5, 6, 7]) rfl ?_
 refine G_val rfl rfl rfl rfl (V_fieldAddr (fo := 2) rfl Tryd.underlying82 rfl infLogPW_9 rfl rfl rfl) ?_
 refine G_val rfl rfl rfl rfl (V_load1 rfl rfl (mem_at 0 rfl) rfl Tryd.underlying9 rfl) ?_
 refine G_call (L2 := [_]) rfl rfl rfl rfl rfl rfl Tryd.call13 ((rfr_encode x.s (by omega)).weaken (fun v post h => by rw [(encF_yes hle).1, (encF_yes hle).2, piecesF_len] at h; exact h)) [] [] rfl rfl ?_
 rintro v post ⟨u, hu, rfl, rfl⟩
 show G _ _ _ [_, _] _
 refine G_val rfl rfl rfl rfl (V_move rfl rfl) ?_
 refine G_val rfl rfl rfl rfl (V_extract rfl rfl rfl) ?_
 refine G_val rfl rfl rfl rfl (V_extract rfl rfl rfl) ?_
 refine G_val rfl rfl rfl rfl (V_assign rfl rfl) ?_
 refine G_val rfl rfl rfl rfl (V_assign rfl rfl) ?_
 refine G_done ?_
 refine G_seq ?_
 refine G_seq ?_
 refine G_region (l := [0, 1, 2, 3, 4, 5, 6, 7, 8, 9, 10, 11, 12, 13]) rfl ?_
 refine G_val rfl rfl rfl rfl (V_move rfl rfl) ?_
 refine G_val rfl rfl rfl rfl (V_neq rfl rfl rfl) ?_
 refine G_val rfl rfl rfl rfl (V_move rfl rfl) ?_
 refine G_splitD 15 rfl (fun hc1 => ?_) (fun hc1 => ?_)
 · (first | (exact absurd rfl hc1) | (exfalso; omega))
 refine G_val rfl rfl rfl rfl (V_fieldAddr (fo := 3) rfl Tryd.underlying82 rfl infLogPW_3 rfl rfl rfl) ?_
 refine G_val rfl rfl rfl rfl (V_load1 rfl rfl (mem_at 1 rfl) rfl Tryd.underlying3 rfl) ?_
 refine G_val rfl rfl rfl rfl (V_lss rfl rfl rfl) ?_
 refine G_val rfl rfl rfl rfl (V_pickF rfl rfl rfl) ?_
 refine G_val rfl rfl rfl rfl (V_move rfl rfl) ?_
 refine G_splitD 20 rfl (fun hc2 => ?_) (fun hc2 => ?_)
 · skip
   refine G_off rfl rfl rfl rfl ?_
   refine G_off rfl rfl rfl rfl ?_
   refine G_off rfl rfl rfl rfl ?_
   refine G_off rfl rfl rfl rfl ?_
   refine G_off rfl rfl rfl rfl ?_
   refine G_val rfl rfl rfl rfl (V_pickT rfl rfl rfl) ?_
   refine G_done ?_
   refine G_then rfl ?_
   refine G_seq ?_
   refine G_region (l := [0, 1]) rfl ?_
   refine G_call (L2 := [_, _]) rfl rfl rfl rfl rfl rfl Tryd.call30 (rdl_zero) [] [] rfl rfl ?_
   rintro v post ⟨rfl, rfl⟩
   show G _ _ _ [_, _] _
   refine G_val rfl rfl rfl rfl (V_assign rfl rfl) ?_
   refine G_done ?_
   refine G_ret (post := []) Tryd.func47 rfl (RVs_cons (RV_tmp rfl) RVs_nil) [] rfl ?_
   dsimp only [packed]
   first
     | (suffices hz : 1000 < x.s.length ∨ x.p < 0 ∨ (manyN x.s.length : Int) ≤ x.p ∨ x.e = 0 by (rw [lyB_no hz]; exact ⟨rfl, rfl⟩)
        omega)
     | (suffices hz : ¬ (1000 < x.s.length ∨ x.p < 0 ∨ (manyN x.s.length : Int) ≤ x.p ∨ x.e = 0) by (rw [lyB_yes hz]; exact ⟨rfl, rfl⟩)
        omega)
 refine G_val rfl rfl rfl rfl (V_fieldAddr (fo := 3) rfl Tryd.underlying82 rfl infLogPW_3 rfl rfl rfl) ?_
 refine G_val rfl rfl rfl rfl (V_load1 rfl rfl (mem_at 1 rfl) rfl Tryd.underlying3 rfl) ?_
 refine G_val rfl rfl rfl rfl (V_move rfl rfl) ?_
 refine G_val rfl rfl rfl rfl (V_len rfl rfl Tryd.underlying24 rfl) ?_
 refine G_val rfl rfl rfl rfl (V_geq rfl rfl rfl) ?_
 refine G_val rfl rfl rfl rfl (V_pickF rfl rfl rfl) ?_
 refine G_done ?_
 refine G_ifD rfl (fun hc3 => ?_) (fun hc3 => ?_)
 · skip
   refine G_seq ?_
   refine G_region (l := [0, 1]) rfl ?_
   refine G_call (L2 := [_, _]) rfl rfl rfl rfl rfl rfl Tryd.call30 (rdl_zero) [] [] rfl rfl ?_
   rintro v post ⟨rfl, rfl⟩
   show G _ _ _ [_, _] _
   refine G_val rfl rfl rfl rfl (V_assign rfl rfl) ?_
   refine G_done ?_
   refine G_ret (post := []) Tryd.func47 rfl (RVs_cons (RV_tmp rfl) RVs_nil) [] rfl ?_
   dsimp only [packed]
   first
     | (suffices hz : 1000 < x.s.length ∨ x.p < 0 ∨ (manyN x.s.length : Int) ≤ x.p ∨ x.e = 0 by (rw [lyB_no hz]; exact ⟨rfl, rfl⟩)
        omega)
     | (suffices hz : ¬ (1000 < x.s.length ∨ x.p < 0 ∨ (manyN x.s.length : Int) ≤ x.p ∨ x.e = 0) by (rw [lyB_yes hz]; exact ⟨rfl, rfl⟩)
        omega)
 refine G_skip ?_
 refine G_seq ?_
 obtain ⟨hpc, hp48⟩ := piece_in (x := x) (by omega) (by omega)
 have hly := lyE (x := x) (by omega) (by omega)
 obtain ⟨uo, ucs, ufz, ucap⟩ := u
 obtain ⟨ub, rfl⟩ := hu.isSome (by omega)
 by_cases he0 : x.e = 0
 · skip
   refine G_draw mixedK (by kernel_rfl) ?_
   refine GQ_val rfl rfl rfl rfl (V_fieldAddr (fo := 0) rfl Tryd.underlying82 rfl infLogPW_22 rfl rfl rfl) ?_
   refine GQ_val rfl rfl rfl rfl (V_load1 rfl rfl (mem_at 1 rfl) rfl Tryd.underlying22 rfl) ?_
   refine GQ_val rfl rfl rfl rfl (V_fieldAddr (fo := 1) rfl Tryd.underlying82 rfl infLogPW_22 rfl rfl rfl) ?_
   refine GQ_val rfl rfl rfl rfl (V_load1 rfl rfl (mem_at 1 rfl) rfl Tryd.underlying22 rfl) ?_
   refine GQ_val rfl rfl rfl rfl (V_move rfl rfl) ?_
   refine GQ_val rfl rfl rfl rfl (V_fieldAddr (fo := 3) rfl Tryd.underlying82 rfl infLogPW_3 rfl rfl rfl) ?_
   refine GQ_val rfl rfl rfl rfl (V_load1 rfl rfl (mem_at 1 rfl) rfl Tryd.underlying3 rfl) ?_
   first
     | refine GQ_val rfl rfl rfl rfl (V_indexAddrN (s := 1) rfl Tryd.underlying24 infLogPW_9 rfl rfl rfl rfl (by omega)) ?_
     | refine GQ_val rfl rfl rfl rfl (V_indexAddr (s := 1) rfl Tryd.underlying24 infLogPW_9 rfl rfl rfl (by omega) (by first | omega | (simp [wCells, kCells, rgC, lgC, rdC, opL, lyC]; done) | (simp [wCells, kCells, rgC, lgC, rdC, opL, lyC]; omega) | (simp [wCells, kCells, rgC, lgC, rdC, opL, lyC] at *; omega))) ?_
   refine GQ_val rfl rfl rfl rfl (V_load1 rfl rfl (by first | exact mem_at 0 rfl | exact mem_at 1 rfl) (nth_of (show ucs[0 + x.p.toNat * 1]? = some (strC ((piecesF x.s).getD x.p.toNat [])) by rw [Nat.zero_add, Nat.mul_one]; exact hu.nth (by rw [List.getElem?_map, hpc]; rfl))) Tryd.underlying9 rfl) ?_
   refine GQ_call rfl rfl rfl rfl rfl rfl Tryd.call62 ((rseal_seal x.e x.i ((piecesF x.s).getD x.p.toNat []) he1 hi1 (by omega)).weaken (fun v post h => by rw [hly, if_pos he0] at h; exact h)) [] rfl (fun v post hp => (hp : _ ∧ _).1) ?_
   refine GQ_val rfl rfl rfl rfl (V_move rfl rfl) ?_
   refine GQ_val rfl rfl rfl rfl (V_extract rfl rfl rfl) ?_
   refine GQ_val rfl rfl rfl rfl (V_extract rfl rfl rfl) ?_
   refine GQ_val rfl rfl rfl rfl (V_assign rfl rfl) ?_
   refine GQ_val rfl rfl rfl rfl (V_assign rfl rfl) ?_
   refine GQ_done rfl ?_
   refine G_seq ?_
   refine G_seq ?_
   refine G_region (l := [0, 1]) rfl ?_
   refine G_val rfl rfl rfl rfl (V_move rfl rfl) ?_
   refine G_val rfl rfl rfl rfl (V_neq rfl rfl rfl) ?_
   refine G_done ?_
   refine G_ifD rfl (fun hc4 => ?_) (fun hc4 => ?_)
   rotate_left
   · (first | (exact absurd rfl hc4) | (exfalso; omega))
   refine G_seq ?_
   refine G_region (l := [0, 1]) rfl ?_
   refine G_call (L2 := [_, _]) rfl rfl rfl rfl rfl rfl Tryd.call30 (rdl_zero) [] [] rfl rfl ?_
   rintro v post ⟨rfl, rfl⟩
   show G _ _ _ [_, _] _
   refine G_val rfl rfl rfl rfl (V_assign rfl rfl) ?_
   refine G_done ?_
   refine G_ret (post := []) Tryd.func47 rfl (RVs_cons (RV_tmp rfl) RVs_nil) [] rfl ?_
   dsimp only [packed]
   first
     | (suffices hz : 1000 < x.s.length ∨ x.p < 0 ∨ (manyN x.s.length : Int) ≤ x.p ∨ x.e = 0 by (rw [lyB_no hz]; exact ⟨rfl, rfl⟩)
        omega)
     | (suffices hz : ¬ (1000 < x.s.length ∨ x.p < 0 ∨ (manyN x.s.length : Int) ≤ x.p ∨ x.e = 0) by (rw [lyB_yes hz]; exact ⟨rfl, rfl⟩)
        omega)
 · skip
   refine G_draw mixedK (by kernel_rfl) ?_
   refine GQ_val rfl rfl rfl rfl (V_fieldAddr (fo := 0) rfl Tryd.underlying82 rfl infLogPW_22 rfl rfl rfl) ?_
   refine GQ_val rfl rfl rfl rfl (V_load1 rfl rfl (mem_at 1 rfl) rfl Tryd.underlying22 rfl) ?_
   refine GQ_val rfl rfl rfl rfl (V_fieldAddr (fo := 1) rfl Tryd.underlying82 rfl infLogPW_22 rfl rfl rfl) ?_
   refine GQ_val rfl rfl rfl rfl (V_load1 rfl rfl (mem_at 1 rfl) rfl Tryd.underlying22 rfl) ?_
   refine GQ_val rfl rfl rfl rfl (V_move rfl rfl) ?_
   refine GQ_val rfl rfl rfl rfl (V_fieldAddr (fo := 3) rfl Tryd.underlying82 rfl infLogPW_3 rfl rfl rfl) ?_
   refine GQ_val rfl rfl rfl rfl (V_load1 rfl rfl (mem_at 1 rfl) rfl Tryd.underlying3 rfl) ?_
   first
     | refine GQ_val rfl rfl rfl rfl (V_indexAddrN (s := 1) rfl Tryd.underlying24 infLogPW_9 rfl rfl rfl rfl (by omega)) ?_
     | refine GQ_val rfl rfl rfl rfl (V_indexAddr (s := 1) rfl Tryd.underlying24 infLogPW_9 rfl rfl rfl (by omega) (by first | omega | (simp [wCells, kCells, rgC, lgC, rdC, opL, lyC]; done) | (simp [wCells, kCells, rgC, lgC, rdC, opL, lyC]; omega) | (simp [wCells, kCells, rgC, lgC, rdC, opL, lyC] at *; omega))) ?_
   refine GQ_val rfl rfl rfl rfl (V_load1 rfl rfl (by first | exact mem_at 0 rfl | exact mem_at 1 rfl) (nth_of (show ucs[0 + x.p.toNat * 1]? = some (strC ((piecesF x.s).getD x.p.toNat [])) by rw [Nat.zero_add, Nat.mul_one]; exact hu.nth (by rw [List.getElem?_map, hpc]; rfl))) Tryd.underlying9 rfl) ?_
   refine GQ_call rfl rfl rfl rfl rfl rfl Tryd.call62 ((rseal_seal x.e x.i ((piecesF x.s).getD x.p.toNat []) he1 hi1 (by omega)).weaken (fun v post h => by rw [hly, if_neg he0] at h; exact h)) [] rfl (fun v post hp => (hp : _ ∧ _).1) ?_
   refine GQ_val rfl rfl rfl rfl (V_move rfl rfl) ?_
   refine GQ_val rfl rfl rfl rfl (V_extract rfl rfl rfl) ?_
   refine GQ_val rfl rfl rfl rfl (V_extract rfl rfl rfl) ?_
   refine GQ_val rfl rfl rfl rfl (V_assign rfl rfl) ?_
   refine GQ_val rfl rfl rfl rfl (V_assign rfl rfl) ?_
   refine GQ_done rfl ?_
   refine G_seq ?_
   refine G_seq ?_
   refine G_region (l := [0, 1]) rfl ?_
   refine G_val rfl rfl rfl rfl (V_move rfl rfl) ?_
   refine G_val rfl rfl rfl rfl (V_neq rfl rfl rfl) ?_
   refine G_done ?_
   refine G_ifD rfl (fun hc4 => ?_) (fun hc4 => ?_)
   · (first | (exact absurd rfl hc4) | (exfalso; omega))
   refine G_skip ?_
   refine G_seq ?_
   refine G_region (l := [0, 1]) rfl ?_
   refine G_val rfl rfl rfl rfl (V_move rfl rfl) ?_
   refine G_val rfl rfl rfl rfl (V_assign rfl rfl) ?_
   refine G_done ?_
   refine G_ret (post := []) Tryd.func47 rfl (RVs_cons (RV_tmp rfl) RVs_nil) [] rfl ?_
   dsimp only [packed]
   first
     | (suffices hz : 1000 < x.s.length ∨ x.p < 0 ∨ (manyN x.s.length : Int) ≤ x.p ∨ x.e = 0 by (rw [lyB_no hz]; exact ⟨rfl, rfl⟩)
        omega)
     | (suffices hz : ¬ (1000 < x.s.length ∨ x.p < 0 ∨ (manyN x.s.length : Int) ≤ x.p ∨ x.e = 0) by (rw [lyB_yes hz]; exact ⟨rfl, rfl⟩)
        omega)


theorem rdB_nextS (k : Dk) (f : Int) (i : Nat) : (rdB k f i).map strC ++ [strC (k.readS (f + (i : Int)))] = (rdB k f (i + 1)).map strC := by
  unfold rdB; rw [List.range_succ, List.map_append, List.map_append]; rfl

set_option maxRecDepth 100000 in
set_option maxHeartbeats 1000000 in
theorem ll_blocks (d n lb lcap : Nat) (lcs : Array Value) (uw : Sl) (k : Dk) (h : DkAt k n lb lcs lcap uw) (f : Int) (m : Nat) (hf0 : 0 ≤ f) (hfm : f + m ≤ n) (hd : k.dead = false) :
    Ct Tryd.prog 50 [.pointer (some ⟨d, 0, none⟩), .int .i64 f, .int .i64 (m : Int)] [(some d, .cells #[.slice (some ⟨lb, 0, none⟩) n lcap, uw.v k.W.length, .int .i64 k.fuse, .bool k.dead] 110 (0, 0)), (some lb, .cells lcs 9 (0, 0)), (uw.ob, .cells uw.cs 116 uw.fz)] [] fun v post => ∃ u : Sl, Own 1 u ((rdB k f m).map strC) m ∧ v = u.v m ∧ post = [(u.ob, .cells u.cs 9 u.fz)] := by
 have hq := h.bd
 have hq1 := hq.n1
 have hq2 := hq.n4
 have hq3 := hq.ncs
 have hq4 := hq.ncap
 have hq5 := hq.cap
 have hq6 := hq.w
 have hq7 := hq.wc
 have hln := h.len
 refine ct_of Tryd.func50 rfl rfl (fun w0 => ?_)
 show G _ _ [(0, _), (1, _), (2, _)] _ _
 refine G_seq ?_
 refine G_region (l := [0]) rfl ?_
 refine G_val rfl rfl rfl rfl (V_assign rfl rfl) ?_
 refine G_done ?_
 refine G_seq ?_
 refine G_region (l := [0, 1]) rfl ?_
 refine G_new rfl rfl rfl rfl (N_build0 rfl Tryd.underlying24 infLogPW_9) (fun b11 => ?_)
 refine G_val rfl rfl rfl rfl (V_assign rfl rfl) ?_
 refine G_done ?_
 refine G_seq ?_
 refine G_seq ?_
 refine G_region (l := [0]) rfl ?_
 refine G_val rfl rfl rfl rfl (V_assign rfl rfl) ?_
 refine G_done ?_
 refine G_block ?_
 refine G_sub ?he3 [0] ?hl3 (G_loop (X := Nat × Sl) (fun x => match x with | ⟨i, u⟩ => i ≤ m ∧ Own 1 u ((rdB k f i).map strC) i) (fun x => match x with | ⟨i, u⟩ => m - i) (fun x => match x with | ⟨i, u⟩ => [(0, .pointer (some ⟨d, 0, none⟩)), (1, .int .i64 f), (2, .int .i64 (m : Int)), (7, u.v i), (8, .int .i64 (i : Int))]) (fun x => match x with | ⟨i, u⟩ => [(u.ob, .cells u.cs 9 u.fz)]) ?round3 (0, ⟨some b11, #[], (0, 0), 0⟩) ?h03)
 case he3 => exact (And.intro rfl (And.intro rfl (And.intro rfl (And.intro rfl (And.intro rfl trivial)))))
 case hl3 => exact ⟨_, rfl⟩
 case h03 => exact ⟨Nat.zero_le _, own_empty 1 b11⟩
 case round3 =>
  intro x hJ ih
  try dsimp only at hJ ih
  obtain ⟨i, u⟩ := x
  try dsimp only at hJ ih
  obtain ⟨hi, hux⟩ := hJ
  show G _ _ [(0, .pointer (some ⟨d, 0, none⟩)), (1, .int .i64 f), (2, .int .i64 (m : Int)), (7, u.v i), (8, .int .i64 (i : Int))] [(u.ob, .cells u.cs 9 u.fz)] _
  refine G_seq ?_
  refine G_seq ?_
  refine G_region (l := [0, 1, 2]) rfl ?_
  refine G_val rfl rfl rfl rfl (V_move rfl rfl) ?_
  refine G_val rfl rfl rfl rfl (V_move rfl rfl) ?_
  refine G_val rfl rfl rfl rfl (V_lss rfl rfl rfl) ?_
  refine G_done ?_
  refine G_ifD rfl (fun hc1 => ?_) (fun hc1 => ?_)
  · skip
    refine G_skip ?_
    refine G_seq ?_
    refine G_block ?_
    refine G_seq ?_
    have hre : k.readE (f + (i : Int)) = 0 := (read_yes (hasE_ok.2 (by omega)) (by rw [hd]; exact Bool.false_ne_true)).1
    refine G_region (l := [0, 1, 2, 3, 4, 5, 6, 7, 8, 9]) rfl ?_
    refine G_val rfl rfl rfl rfl (V_move rfl rfl) ?_
    refine G_val rfl rfl rfl rfl (V_move rfl rfl) ?_
    refine G_val rfl rfl rfl rfl (V_move rfl rfl) ?_
    first
      | refine G_val rfl rfl rfl rfl ((V_add rfl rfl rfl).int (wrap_i64 (by omega))) ?_
      | refine G_val rfl rfl rfl rfl (V_add rfl rfl rfl) ?_
    refine G_call (L2 := [_]) rfl rfl rfl rfl rfl rfl Tryd.call29 ((dk_read d n lb lcap lcs uw k h (f + (i : Int))).weaken (fun v post h => by rw [hre] at h; exact h)) [] [0, 1, 2] rfl rfl ?_
    rintro v post ⟨rfl, rfl⟩
    show G _ _ _ [_] _
    refine G_val rfl rfl rfl rfl (V_move rfl rfl) ?_
    refine G_val rfl rfl rfl rfl (V_extract rfl rfl rfl) ?_
    refine G_val rfl rfl rfl rfl (V_extract rfl rfl rfl) ?_
    refine G_val rfl rfl rfl rfl (V_assign rfl rfl) ?_
    refine G_val rfl rfl rfl rfl (V_assign rfl rfl) ?_
    refine G_done ?_
    refine G_region (l := [0, 1, 2, 3, 4]) rfl ?_
    refine G_val rfl rfl rfl rfl (V_move rfl rfl) ?_
    refine G_val rfl rfl rfl rfl (V_move rfl rfl) ?_
    refine G_new rfl rfl rfl rfl (N_buildAll (s := 1) (cs := [_]) rfl Tryd.underlying24 infLogPW_9 rfl rfl rfl rfl rfl rfl rfl rfl rfl) (fun b27 => ?_)
    refine G_append (l1 := [_]) (s := u) (nn := i) (m := 1) (news := [strC (k.readS (f + (i : Int)))]) (bt := 16) rfl rfl rfl rfl Tryd.underlying24 Tryd.underlying24 (by first | exact .inl rfl | exact .inr ⟨_, rfl⟩) infLogPW_9 rfl rfl rfl rfl rfl rfl hux rfl (src_mem (mem_at 3 rfl) rfl rfl (by simp [strC, Value.oneCell'])) (by omega) (by omega) ?_
    intro u1 hu1 _
    show G _ _ _ [_, _] _
    refine G_val rfl rfl rfl rfl (V_assign rfl rfl) ?_
    refine G_done ?_
    refine G_inBlock ?_
    refine G_region (l := [0, 1, 2]) rfl ?_
    refine G_val rfl rfl rfl rfl (V_move rfl rfl) ?_
    first
      | refine G_val rfl rfl rfl rfl ((V_add rfl rfl rfl).int (wrap_i64 (by omega))) ?_
      | refine G_val rfl rfl rfl rfl (V_add rfl rfl rfl) ?_
    refine G_val rfl rfl rfl rfl (V_assign rfl rfl) ?_
    refine G_done ?_
    refine G_sub ?_ [1] ?_ (ih (i + 1, u1) ?_ ?_)
    · (refine (And.intro ?_ (And.intro ?_ (And.intro ?_ (And.intro ?_ (And.intro ?_ trivial))))) <;> first | rfl | exact slot_int (by omega) | exact slot_int (by simp))
    · exact ⟨_, rfl⟩
    · exact ⟨by omega, by rw [← rdB_nextS]; exact hu1⟩
    · (first | omega | (dsimp only; omega))
  refine G_exit rfl ?_
  refine G_seq ?_
  refine G_region (l := [0, 1]) rfl ?_
  refine G_val rfl rfl rfl rfl (V_move rfl rfl) ?_
  refine G_val rfl rfl rfl rfl (V_assign rfl rfl) ?_
  refine G_done ?_
  refine G_ret (post := [_]) Tryd.func50 rfl (RVs_cons (RV_tmp rfl) RVs_nil) [0] rfl ?_
  dsimp only [packed]
  obtain rfl : i = m := by omega
  exact ⟨u, hux, rfl, rfl⟩


def lyBs (l : List Ly) : List (List UInt8) := l.map lyB
theorem lyBs_64 (l : List Ly) : ∀ b ∈ lyBs l, b.length = 64 := by
  intro b hb
  obtain ⟨x, _, rfl⟩ := List.mem_map.1 hb
  exact lyB_len x
def lyD (l : List Ly) (i : Nat) : Dk := wrsK (newD (l.length + 2)) 1 (lyBs (l.take i))
theorem lyD_start (l : List Ly) : lyD l 0 = newD (l.length + 2) := rfl
theorem wrs_snoc : ∀ (bl : List (List UInt8)) (k : Dk) (a : Int) (b : List UInt8), wrsE k a bl = 0 → (wrsK k a bl).writeE (a + (bl.length : Int)) b = 0 → wrsK k a (bl ++ [b]) = (wrsK k a bl).write (a + (bl.length : Int)) b
  | [], k, a, b, _, h => by
    simp only [List.nil_append, List.length_nil, wrsK] at *
    rw [show a + ((0 : Nat) : Int) = a by omega] at *
    rw [if_neg (by omega)]
  | c :: bl, k, a, b, h1, h2 => by
    rw [List.length_cons] at h2 ⊢
    by_cases hc : k.writeE a c = 0
    · have e1 : wrsK k a (c :: bl) = wrsK (k.write a c) (a + 1) bl := by rw [wrsK, if_neg (by omega)]
      have e2 : wrsE k a (c :: bl) = wrsE (k.write a c) (a + 1) bl := by rw [wrsE, if_neg (by omega)]
      rw [e1] at h2 ⊢
      rw [e2] at h1
      rw [List.cons_append, wrsK, if_neg (by omega), show a + ((bl.length + 1 : Nat) : Int) = a + 1 + (bl.length : Int) by omega] at *
      exact wrs_snoc bl _ _ _ h1 h2
    · exfalso; rw [wrsE, if_pos hc] at h1; exact hc h1
theorem lyD_next {l : List Ly} {i : Nat} {x : Ly} (h : l[i]? = some x) : lyD l (i + 1) = (lyD l i).write (1 + (i : Int)) (lyB x) ∧ (lyD l i).writeE (1 + (i : Int)) (lyB x) = 0 := by
  have hlt : i < l.length := (List.getElem?_eq_some_iff.1 h).1
  have e0 : lyBs (l.take (i + 1)) = lyBs (l.take i) ++ [lyB x] := by rw [take_succ_of h]; unfold lyBs; simp
  have hl : (lyBs (l.take i)).length = i := by unfold lyBs; rw [List.length_map, List.length_take]; omega
  have hn : (newD (l.length + 2)).L.length = l.length + 2 := by simp [newD]
  obtain ⟨g1, g2, g3, g4⟩ := wrs_lively (lyBs (l.take i)) (newD (l.length + 2)) 1 (newD_lively _) (lyBs_64 _) (by omega) (by rw [hl, hn]; omega)
  have hw := write_lively g4 (a := 1 + (i : Int)) (s := lyB x) (by rw [g2, hn]; omega) (lyB_len x)
  refine ⟨?_, hw.1⟩
  unfold lyD
  rw [e0]
  have := wrs_snoc (lyBs (l.take i)) (newD (l.length + 2)) 1 (lyB x) g1 (by rw [hl]; exact hw.1)
  rw [hl] at this
  exact this
theorem lyD_W (l : List Ly) (i : Nat) (hi : i ≤ l.length) : (lyD l i).W.length ≤ i := by
  have := wrs_W (lyBs (l.take i)) (newD (l.length + 2)) 1
  have h0 : (newD (l.length + 2)).W.length = 0 := rfl
  have hl : (lyBs (l.take i)).length = i := by unfold lyBs; rw [List.length_map, List.length_take]; omega
  unfold lyD; omega
theorem lyD_all (l : List Ly) (h2 : l.length ≤ 30) : (lyD l l.length).dead = false ∧ (lyD l l.length).L.length = l.length + 2 := by
  have hn : (newD (l.length + 2)).L.length = l.length + 2 := by simp [newD]
  have hl : (lyBs l).length = l.length := by unfold lyBs; rw [List.length_map]
  have e0 : lyD l l.length = wrsK (newD (l.length + 2)) 1 (lyBs l) := by unfold lyD; rw [List.take_length]
  obtain ⟨g1, g2, g3, g4⟩ := wrs_lively (lyBs l) (newD (l.length + 2)) 1 (newD_lively _) (lyBs_64 _) (by omega) (by rw [hl, hn]; omega)
  rw [e0]
  exact ⟨g4.dead, by rw [g2, hn]⟩
theorem rdB_64 {k : Dk} (h : DkOk k) (f : Int) (n : Nat) : ∀ b ∈ rdB k f n, b.length ≤ 64 := by
  intro b hb
  simp only [rdB, List.mem_map, List.mem_range] at hb
  obtain ⟨i, _, rfl⟩ := hb
  exact readS_len h _
attribute [local irreducible] lyD rp rdB newD


theorem rl_replayR (k : Dk) (u : Sl) (f : Int) (m : Nat) (hk : DkOk k) (hu : Own 1 u ((rdB k f m).map strC) m) (hm : m ≤ 1000) (base e : Nat) (hbs : base < 4294967296) (he : e < 4294967296) : Ct Tryd.prog 49 [u.v m, .int .u32 (base : Int), .int .u32 (e : Int)] [(u.ob, .cells u.cs 9 u.fz)] [] (fun v post => ∃ u1 : Sl, Own 1 u1 ((rp (rdB k f m) e base 0).1.map strC) (rp (rdB k f m) e base 0).1.length ∧ v = .tuple #[u1.v (rp (rdB k f m) e base 0).1.length, .int .i64 ((rp (rdB k f m) e base 0).2 : Int)] ∧ post = [(u1.ob, .cells u1.cs 9 u1.fz)]) := by
  have h := rl_replay u.ob 0 u.cap u.cs 9 u.fz (rdB k f m) (by rw [rdB_len]; exact hu.sees) (rdB_64 hk f m) (by rw [rdB_len]; omega) base e hbs he
  rw [rdB_len] at h
  exact h
theorem texts_same (a b : Sl) (l : List (List UInt8)) (ha : Own 1 a (l.map strC) l.length) (hb : Own 1 b (l.map strC) l.length) : Ct Tryd.prog 51 [a.v l.length, b.v l.length] [(a.ob, .cells a.cs 9 a.fz), (b.ob, .cells b.cs 9 b.fz)] [] (fun v post => v = .bool true ∧ post = []) :=
  (ref_texts a.ob 0 a.cap a.cs 9 a.fz b.ob 0 b.cap b.cs 9 b.fz l l ha.sees hb.sees).weaken (fun v post h => by rw [decide_eq_true rfl] at h; exact h)

set_option maxRecDepth 100000 in
set_option maxHeartbeats 4000000 in
theorem logReplays_all (o1 : Option Nat) (p1 q1 : Nat) (c1 : Array Value) (T1 : TypeId) (f1 : Nat × Nat) (l : List Ly) (hs : Sees 4 o1 p1 q1 c1 (l.flatMap lyC) l.length) (hok : ∀ x ∈ l, LyOk x) (base e : Nat) (hbs : base < 4294967296) (he : e < 4294967296) :
    Ct Tryd.prog 9 [sv o1 p1 l.length q1, .int .u32 (base : Int), .int .u32 (e : Int)] [(o1, .cells c1 T1 f1)] [] fun v post => v = .bool true ∧ post = [] := by
 have hk1 := hs.le
 have hk2 := hs.max
 refine ct_of Tryd.func9 rfl rfl (fun w0 => ?_)
 show G _ _ [(0, _), (1, _), (2, _)] _ _
 refine G_seq ?_
 refine G_region (l := [0]) rfl ?_
 refine G_val rfl rfl rfl rfl (V_assign rfl rfl) ?_
 refine G_done ?_
 refine G_seq ?_
 refine G_seq ?_
 refine G_region (l := [0, 1, 2, 3, 4, 5, 6, 7]) rfl ?_
 refine G_val rfl rfl rfl rfl (V_move rfl rfl) ?_
 refine G_val rfl rfl rfl rfl (V_len rfl rfl Tryd.underlying80 rfl) ?_
 refine G_val rfl rfl rfl rfl (V_gtr rfl rfl rfl) ?_
 refine G_val rfl rfl rfl rfl (V_move rfl rfl) ?_
 refine G_splitD 18 rfl (fun hc1 => ?_) (fun hc1 => ?_)
 · skip
   refine G_off rfl rfl rfl rfl ?_
   refine G_off rfl rfl rfl rfl ?_
   refine G_off rfl rfl rfl rfl ?_
   refine G_val rfl rfl rfl rfl (V_pickT rfl rfl rfl) ?_
   refine G_done ?_
   refine G_then rfl ?_
   refine G_seq ?_
   refine G_region (l := [0, 1]) rfl ?_
   refine G_call (L2 := []) rfl rfl rfl rfl rfl rfl Tryd.call34 (ll_live) [] [] rfl rfl ?_
   rintro v post ⟨rfl, rfl⟩
   refine G_val rfl rfl rfl rfl (V_assign rfl rfl) ?_
   refine G_done ?_
   refine G_ret (post := []) Tryd.func9 rfl (RVs_cons (RV_tmp rfl) RVs_nil) [] rfl ?_
   dsimp only [packed]
   exact ⟨rfl, rfl⟩
 refine G_val rfl rfl rfl rfl (V_move rfl rfl) ?_
 refine G_val rfl rfl rfl rfl (V_len rfl rfl Tryd.underlying80 rfl) ?_
 refine G_val rfl rfl rfl rfl (V_lss rfl rfl rfl) ?_
 refine G_val rfl rfl rfl rfl (V_pickF rfl rfl rfl) ?_
 refine G_done ?_
 refine G_ifD rfl (fun hc2 => ?_) (fun hc2 => ?_)
 · skip
   refine G_seq ?_
   refine G_region (l := [0, 1]) rfl ?_
   refine G_call (L2 := []) rfl rfl rfl rfl rfl rfl Tryd.call34 (ll_live) [] [] rfl rfl ?_
   rintro v post ⟨rfl, rfl⟩
   refine G_val rfl rfl rfl rfl (V_assign rfl rfl) ?_
   refine G_done ?_
   refine G_ret (post := []) Tryd.func9 rfl (RVs_cons (RV_tmp rfl) RVs_nil) [] rfl ?_
   dsimp only [packed]
   exact ⟨rfl, rfl⟩
 refine G_skip ?_
 refine G_seq ?_
 refine G_region (l := [0, 1, 2, 3, 4, 5, 6, 7, 8]) rfl ?_
 refine G_val rfl rfl rfl rfl (V_move rfl rfl) ?_
 refine G_val rfl rfl rfl rfl (V_len rfl rfl Tryd.underlying80 rfl) ?_
 refine G_val rfl rfl rfl rfl (Val.int (e' := ((l.length + 2 : Nat) : Int)) (V_add rfl rfl rfl) (by rw [wrap_i64 (by omega)]; omega)) ?_
 refine G_call (L2 := []) rfl rfl rfl rfl rfl rfl Tryd.call17 (dk_new (l.length + 2) (by omega) (by omega)) [] [] rfl rfl ?_
 rintro v post ⟨d, lb, lcap, lcs, rfl, h, rfl⟩
 show G _ _ _ [_, _, _] _
 refine G_val rfl rfl rfl rfl (V_move rfl rfl) ?_
 refine G_val rfl rfl rfl rfl (V_extract rfl rfl rfl) ?_
 refine G_val rfl rfl rfl rfl (V_extract rfl rfl rfl) ?_
 refine G_val rfl rfl rfl rfl (V_assign rfl rfl) ?_
 refine G_val rfl rfl rfl rfl (V_assign rfl rfl) ?_
 refine G_done ?_
 refine G_seq ?_
 refine G_seq ?_
 refine G_region (l := [0]) rfl ?_
 refine G_val rfl rfl rfl rfl (V_assign rfl rfl) ?_
 refine G_done ?_
 refine G_block ?_
 refine G_sub ?he5 [0, 0, 0] ?hl5 (G_loop (X := Nat × Array Value × Sl) (fun x => match x with | ⟨i, cs, u⟩ => i ≤ l.length ∧ DkAt (lyD l i) (l.length + 2) lb cs lcap u) (fun x => match x with | ⟨i, cs, u⟩ => l.length - i) (fun x => match x with | ⟨i, cs, u⟩ => [(0, sv o1 p1 l.length q1), (1, .int .u32 (base : Int)), (2, .int .u32 (e : Int)), (7, .pointer (some ⟨d, 0, none⟩)), (8, .int .i64 0), (9, .int .i64 (i : Int))]) (fun x => match x with | ⟨i, cs, u⟩ => [(some d, .cells #[.slice (some ⟨lb, 0, none⟩) (l.length + 2) lcap, u.v (lyD l i).W.length, .int .i64 (lyD l i).fuse, .bool (lyD l i).dead] 110 (0, 0)), (some lb, .cells cs 9 (0, 0)), (u.ob, .cells u.cs 116 u.fz)]) ?round5 (0, lcs, slNil) ?h05)
 case he5 => exact (And.intro rfl (And.intro rfl (And.intro rfl (And.intro rfl (And.intro rfl (And.intro rfl trivial))))))
 case hl5 => (dsimp only; rw [lyD_start]; exact ⟨_, rfl⟩)
 case h05 => exact ⟨Nat.zero_le _, by rw [lyD_start]; exact h⟩
 case round5 =>
  intro x hJ ih
  try dsimp only at hJ ih
  obtain ⟨i, cs, u⟩ := x
  try dsimp only at hJ ih
  obtain ⟨hi, hu⟩ := hJ
  show G _ _ [(0, sv o1 p1 l.length q1), (1, .int .u32 (base : Int)), (2, .int .u32 (e : Int)), (7, .pointer (some ⟨d, 0, none⟩)), (8, .int .i64 0), (9, .int .i64 (i : Int))] [(some d, .cells #[.slice (some ⟨lb, 0, none⟩) (l.length + 2) lcap, u.v (lyD l i).W.length, .int .i64 (lyD l i).fuse, .bool (lyD l i).dead] 110 (0, 0)), (some lb, .cells cs 9 (0, 0)), (u.ob, .cells u.cs 116 u.fz)] _
  refine G_seq ?_
  refine G_seq ?_
  refine G_region (l := [0, 1, 2, 3]) rfl ?_
  refine G_val rfl rfl rfl rfl (V_move rfl rfl) ?_
  refine G_val rfl rfl rfl rfl (V_move rfl rfl) ?_
  refine G_val rfl rfl rfl rfl (V_len rfl rfl Tryd.underlying80 rfl) ?_
  refine G_val rfl rfl rfl rfl (V_lss rfl rfl rfl) ?_
  refine G_done ?_
  refine G_ifD rfl (fun hc3 => ?_) (fun hc3 => ?_)
  · skip
    refine G_skip ?_
    refine G_seq ?_
    refine G_block ?_
    refine G_seq ?_
    obtain ⟨x, hx⟩ := getI (show i < l.length by omega)
    obtain ⟨b1, rfl⟩ := hs.isSome (by omega)
    have hxo := hok x (List.mem_of_getElem? hx)
    have hxs := hxo.s1
    obtain ⟨hg1, hg2⟩ := lyD_next hx
    have hgw := lyD_W l i (by omega)
    refine G_region (l := [0, 1, 2, 3, 4, 5, 6, 7, 8, 9, 10, 11, 12, 13, 14, 15, 16, 17, 18, 19]) rfl ?_
    refine G_val rfl rfl rfl rfl (V_move rfl rfl) ?_
    refine G_val rfl rfl rfl rfl (V_move rfl rfl) ?_
    first
      | refine G_val rfl rfl rfl rfl (V_indexAddrN (s := 4) rfl Tryd.underlying80 infLogPW_82 rfl rfl rfl rfl (by omega)) ?_
      | refine G_val rfl rfl rfl rfl (V_indexAddr (s := 4) rfl Tryd.underlying80 infLogPW_82 rfl rfl rfl (by omega) (by first | omega | (simp [wCells, kCells, rgC, lgC, rdC, opL, lyC]; done) | (simp [wCells, kCells, rgC, lgC, rdC, opL, lyC]; omega) | (simp [wCells, kCells, rgC, lgC, rdC, opL, lyC] at *; omega))) ?_
    refine G_val rfl rfl rfl rfl (V_fieldAddr (fo := _ + 2) rfl Tryd.underlying82 rfl infLogPW_9 rfl rfl rfl) ?_
    refine G_val rfl rfl rfl rfl (V_load1 rfl rfl (mem_at 0 rfl) (nth_of (cell_at hs ly_len hx 2 (by omega) rfl)) Tryd.underlying9 rfl) ?_
    refine G_val rfl rfl rfl rfl (V_slen rfl rfl Tryd.underlying9 rfl) ?_
    refine G_val rfl rfl rfl rfl (V_gtr rfl rfl rfl) ?_
    refine G_val rfl rfl rfl rfl (V_move rfl rfl) ?_
    refine G_splitD 44 rfl (fun hc4 => ?_) (fun hc4 => ?_)
    · skip
      refine G_off rfl rfl rfl rfl ?_
      refine G_off rfl rfl rfl rfl ?_
      refine G_off rfl rfl rfl rfl ?_
      refine G_off rfl rfl rfl rfl ?_
      refine G_off rfl rfl rfl rfl ?_
      refine G_off rfl rfl rfl rfl ?_
      refine G_off rfl rfl rfl rfl ?_
      refine G_off rfl rfl rfl rfl ?_
      refine G_off rfl rfl rfl rfl ?_
      refine G_off rfl rfl rfl rfl ?_
      refine G_off rfl rfl rfl rfl ?_
      refine G_val rfl rfl rfl rfl (V_pickT rfl rfl rfl) ?_
      refine G_done ?_
      refine G_then rfl ?_
      refine G_seq ?_
      refine G_region (l := [0, 1, 2, 3, 4, 5, 6, 7, 8, 9, 10]) rfl ?_
      refine G_val rfl rfl rfl rfl (V_move rfl rfl) ?_
      refine G_val rfl rfl rfl rfl (V_move rfl rfl) ?_
      first
        | refine G_val rfl rfl rfl rfl (V_indexAddrN (s := 4) rfl Tryd.underlying80 infLogPW_82 rfl rfl rfl rfl (by omega)) ?_
        | refine G_val rfl rfl rfl rfl (V_indexAddr (s := 4) rfl Tryd.underlying80 infLogPW_82 rfl rfl rfl (by omega) (by first | omega | (simp [wCells, kCells, rgC, lgC, rdC, opL, lyC]; done) | (simp [wCells, kCells, rgC, lgC, rdC, opL, lyC]; omega) | (simp [wCells, kCells, rgC, lgC, rdC, opL, lyC] at *; omega))) ?_
      refine G_val rfl rfl rfl rfl (V_fieldAddr (fo := _ + 2) rfl Tryd.underlying82 rfl infLogPW_9 rfl rfl rfl) ?_
      refine G_val rfl rfl rfl rfl (V_load1 rfl rfl (mem_at 0 rfl) (nth_of (cell_at hs ly_len hx 2 (by omega) rfl)) Tryd.underlying9 rfl) ?_
      refine G_val rfl rfl rfl rfl (V_slen rfl rfl Tryd.underlying9 rfl) ?_
      refine G_val rfl rfl rfl rfl (V_gtr rfl rfl rfl) ?_
      refine G_val rfl rfl rfl rfl (V_move rfl rfl) ?_
      refine G_splitD 64 rfl (fun hc5 => ?_) (fun hc5 => ?_)
      rotate_left
      · (first | (exact absurd rfl hc5) | (exfalso; omega))
      refine G_call (L2 := [_, _, _]) rfl rfl rfl rfl rfl rfl Tryd.call34 (ll_live) [] [] rfl rfl ?_
      rintro v post ⟨rfl, rfl⟩
      show G _ _ _ [_, _, _] _
      refine G_val rfl rfl rfl rfl (V_pickT rfl rfl rfl) ?_
      refine G_val rfl rfl rfl rfl (V_assign rfl rfl) ?_
      refine G_done ?_
      refine G_ret (post := []) Tryd.func9 rfl (RVs_cons (RV_tmp rfl) RVs_nil) [] rfl ?_
      dsimp only [packed]
      exact ⟨rfl, rfl⟩
    refine G_val rfl rfl rfl rfl (V_move rfl rfl) ?_
    refine G_val rfl rfl rfl rfl (V_move rfl rfl) ?_
    first
      | refine G_val rfl rfl rfl rfl ((V_add rfl rfl rfl).int (wrap_i64 (by omega))) ?_
      | refine G_val rfl rfl rfl rfl (V_add rfl rfl rfl) ?_
    refine G_val rfl rfl rfl rfl (V_move rfl rfl) ?_
    refine G_val rfl rfl rfl rfl (V_move rfl rfl) ?_
    first
      | refine G_val rfl rfl rfl rfl (V_indexAddrN (s := 4) rfl Tryd.underlying80 infLogPW_82 rfl rfl rfl rfl (by omega)) ?_
      | refine G_val rfl rfl rfl rfl (V_indexAddr (s := 4) rfl Tryd.underlying80 infLogPW_82 rfl rfl rfl (by omega) (by first | omega | (simp [wCells, kCells, rgC, lgC, rdC, opL, lyC]; done) | (simp [wCells, kCells, rgC, lgC, rdC, opL, lyC]; omega) | (simp [wCells, kCells, rgC, lgC, rdC, opL, lyC] at *; omega))) ?_
    refine G_val rfl rfl rfl rfl (V_loadA (s := 4) (vs := (lyC x).toArray) rfl rfl (mem_at 0 rfl) Tryd.underlying82 rfl infLogPW_82 rfl (hs.elem ly_len hx) (by first | rfl | (simp [bcells_length, wCells, kCells, rgC, lgC, rdC, opL, lyC]; done) | (simp [bcells_length, wCells, kCells, rgC, lgC, rdC, opL, lyC]; omega) | (simp [bcells_length, *, wCells, kCells, rgC, lgC, rdC, opL, lyC]; done))) ?_
    refine G_call (L2 := [_, _, _]) rfl rfl rfl rfl rfl rfl Tryd.call47 (ly_block x hxo (by omega)) [] [] rfl rfl ?_
    rintro v post ⟨rfl, rfl⟩
    show G _ _ _ [_, _, _] _
    refine G_call (L2 := []) rfl rfl rfl rfl rfl rfl Tryd.call20 ((dk_write d (l.length + 2) lb lcap cs u (lyD l i) hu (1 + (i : Int)) (lyB x) (by omega)).weaken (fun v post h => by rw [← hg1, hg2] at h; exact h)) [0, 0, 0] [] rfl rfl ?_
    rintro v post ⟨rfl, lcs1, uw1, h1, rfl⟩
    show G _ _ _ [_, _, _] _
    refine G_call (L2 := [_, _, _]) rfl rfl rfl rfl rfl rfl Tryd.call37 (ll_num _) [] [] rfl rfl ?_
    rintro v post ⟨rfl, rfl⟩
    show G _ _ _ [_, _, _] _
    refine G_val rfl rfl rfl rfl (V_neq rfl rfl rfl) ?_
    refine G_val rfl rfl rfl rfl (V_pickF rfl rfl rfl) ?_
    refine G_done ?_
    refine G_ifD rfl (fun hc5 => ?_) (fun hc5 => ?_)
    · (first | (exact absurd rfl hc5) | (exfalso; omega))
    refine G_skip ?_
    refine G_inBlock ?_
    refine G_region (l := [0, 1, 2]) rfl ?_
    refine G_val rfl rfl rfl rfl (V_move rfl rfl) ?_
    first
      | refine G_val rfl rfl rfl rfl ((V_add rfl rfl rfl).int (wrap_i64 (by omega))) ?_
      | refine G_val rfl rfl rfl rfl (V_add rfl rfl rfl) ?_
    refine G_val rfl rfl rfl rfl (V_assign rfl rfl) ?_
    refine G_done ?_
    refine G_sub ?_ [0, 0, 0] ?_ (ih (i + 1, lcs1, uw1) ?_ ?_)
    · (refine (And.intro ?_ (And.intro ?_ (And.intro ?_ (And.intro ?_ (And.intro ?_ (And.intro ?_ trivial)))))) <;> first | rfl | exact slot_int (by omega) | exact slot_int (by simp))
    · exact ⟨_, rfl⟩
    · exact ⟨by omega, h1⟩
    · (first | omega | (dsimp only; omega))
  refine G_exit rfl ?_
  refine G_seq ?_
  obtain rfl : i = l.length := by omega
  obtain ⟨hd1, hd2⟩ := lyD_all l (by omega)
  have hrg : rgE (l.length + 2) 1 (l.length : Int) = 0 := by rw [rgE_ok]; omega
  rcases Nat.eq_zero_or_pos base with rfl | hb0
  · skip
    refine G_region (l := [0, 1, 2, 3, 4, 5, 6, 7, 8, 9, 10, 11, 12]) rfl ?_
    refine G_val rfl rfl rfl rfl (V_move rfl rfl) ?_
    refine G_val rfl rfl rfl rfl (V_move rfl rfl) ?_
    refine G_val rfl rfl rfl rfl (V_len rfl rfl Tryd.underlying80 rfl) ?_
    refine G_val rfl rfl rfl rfl (V_move rfl rfl) ?_
    refine G_val rfl rfl rfl rfl (V_move rfl rfl) ?_
    refine G_call (L2 := [_, _, _]) rfl rfl rfl rfl rfl rfl Tryd.call48 ((lg_replay_0 d (l.length + 2) lb lcap cs u (lyD l l.length) hu 1 (l.length : Int) (e : Int) hrg)) [] [1, 2, 3] rfl rfl ?_
    rintro v post ⟨rfl, rfl⟩
    show G _ _ _ [_, _, _] _
    refine G_val rfl rfl rfl rfl (V_move rfl rfl) ?_
    refine G_val rfl rfl rfl rfl (V_extract rfl rfl rfl) ?_
    refine G_val rfl rfl rfl rfl (V_extract rfl rfl rfl) ?_
    refine G_val rfl rfl rfl rfl (V_extract rfl rfl rfl) ?_
    refine G_val rfl rfl rfl rfl (V_assign rfl rfl) ?_
    refine G_val rfl rfl rfl rfl (V_assign rfl rfl) ?_
    refine G_val rfl rfl rfl rfl (V_assign rfl rfl) ?_
    refine G_done ?_
    refine G_seq ?_
    refine G_seq ?_
    refine G_region (l := [0, 1]) rfl ?_
    refine G_val rfl rfl rfl rfl (V_move rfl rfl) ?_
    refine G_val rfl rfl rfl rfl (V_eql rfl rfl rfl) ?_
    refine G_done ?_
    refine G_ifD rfl (fun hc4 => ?_) (fun hc4 => ?_)
    rotate_left
    · (first | (exact absurd rfl hc4) | (exfalso; omega))
    refine G_seq ?_
    refine G_region (l := [0, 1, 2, 3, 4, 5, 6, 7, 8, 9, 10, 11, 12, 13, 14, 15]) rfl ?_
    refine G_val rfl rfl rfl rfl (V_move rfl rfl) ?_
    refine G_call (L2 := [_, _, _]) rfl rfl rfl rfl rfl rfl Tryd.call37 (ll_num _) [] [] rfl rfl ?_
    rintro v post ⟨rfl, rfl⟩
    show G _ _ _ [_, _, _] _
    refine G_val rfl rfl rfl rfl (V_eql rfl rfl rfl) ?_
    refine G_val rfl rfl rfl rfl (V_move rfl rfl) ?_
    refine G_splitD 82 rfl (fun hc5 => ?_) (fun hc5 => ?_)
    rotate_left
    · (first | (exact absurd rfl hc5) | (exfalso; omega))
    refine G_val rfl rfl rfl rfl (V_move rfl rfl) ?_
    refine G_val rfl rfl rfl rfl (V_len rfl rfl Tryd.underlying24 rfl) ?_
    refine G_val rfl rfl rfl rfl (V_eql rfl rfl rfl) ?_
    refine G_val rfl rfl rfl rfl (V_pickT rfl rfl rfl) ?_
    refine G_val rfl rfl rfl rfl (V_move rfl rfl) ?_
    refine G_splitD 87 rfl (fun hc6 => ?_) (fun hc6 => ?_)
    rotate_left
    · (first | (exact absurd rfl hc6) | (exfalso; omega))
    refine G_val rfl rfl rfl rfl (V_move rfl rfl) ?_
    refine G_val rfl rfl rfl rfl (V_eql rfl rfl rfl) ?_
    refine G_val rfl rfl rfl rfl (V_pickT rfl rfl rfl) ?_
    refine G_val rfl rfl rfl rfl (V_move rfl rfl) ?_
    refine G_splitD 91 rfl (fun hc7 => ?_) (fun hc7 => ?_)
    rotate_left
    · (first | (exact absurd rfl hc7) | (exfalso; omega))
    refine G_call (L2 := [_, _, _]) rfl rfl rfl rfl rfl rfl Tryd.call34 (ll_live) [] [] rfl rfl ?_
    rintro v post ⟨rfl, rfl⟩
    show G _ _ _ [_, _, _] _
    refine G_val rfl rfl rfl rfl (V_pickT rfl rfl rfl) ?_
    refine G_val rfl rfl rfl rfl (V_assign rfl rfl) ?_
    refine G_done ?_
    refine G_ret (post := []) Tryd.func9 rfl (RVs_cons (RV_tmp rfl) RVs_nil) [] rfl ?_
    dsimp only [packed]
    exact ⟨rfl, rfl⟩
  · skip
    refine G_region (l := [0, 1, 2, 3, 4, 5, 6, 7, 8, 9, 10, 11, 12]) rfl ?_
    refine G_val rfl rfl rfl rfl (V_move rfl rfl) ?_
    refine G_val rfl rfl rfl rfl (V_move rfl rfl) ?_
    refine G_val rfl rfl rfl rfl (V_len rfl rfl Tryd.underlying80 rfl) ?_
    refine G_val rfl rfl rfl rfl (V_move rfl rfl) ?_
    refine G_val rfl rfl rfl rfl (V_move rfl rfl) ?_
    refine G_call (L2 := [_, _, _]) rfl rfl rfl rfl rfl rfl Tryd.call48 ((lg_replay d (l.length + 2) lb lcap cs u (lyD l l.length) hu 1 (l.length : Int) base e hrg hd1 (by omega) hbs he).weaken (fun v post h => by rw [Int.toNat_natCast] at h; exact h)) [] [1, 2, 3] rfl rfl ?_
    rintro v post ⟨ur, hur, rfl, rfl⟩
    show G _ _ _ [_, _, _, _] _
    refine G_val rfl rfl rfl rfl (V_move rfl rfl) ?_
    refine G_val rfl rfl rfl rfl (V_extract rfl rfl rfl) ?_
    refine G_val rfl rfl rfl rfl (V_extract rfl rfl rfl) ?_
    refine G_val rfl rfl rfl rfl (V_extract rfl rfl rfl) ?_
    refine G_val rfl rfl rfl rfl (V_assign rfl rfl) ?_
    refine G_val rfl rfl rfl rfl (V_assign rfl rfl) ?_
    refine G_val rfl rfl rfl rfl (V_assign rfl rfl) ?_
    refine G_done ?_
    refine G_seq ?_
    refine G_seq ?_
    refine G_region (l := [0, 1]) rfl ?_
    refine G_val rfl rfl rfl rfl (V_move rfl rfl) ?_
    refine G_val rfl rfl rfl rfl (V_eql rfl rfl rfl) ?_
    refine G_done ?_
    refine G_ifD rfl (fun hc4 => ?_) (fun hc4 => ?_)
    · (first | (exact absurd rfl hc4) | (exfalso; omega))
    refine G_skip ?_
    refine G_seq ?_
    refine G_region (l := [0, 1, 2, 3, 4, 5, 6, 7, 8, 9, 10, 11]) rfl ?_
    refine G_val rfl rfl rfl rfl (V_move rfl rfl) ?_
    refine G_val rfl rfl rfl rfl (V_move rfl rfl) ?_
    refine G_val rfl rfl rfl rfl (V_len rfl rfl Tryd.underlying80 rfl) ?_
    refine G_call (L2 := [_, _, _, _]) rfl rfl rfl rfl rfl rfl Tryd.call50 (ll_blocks d (l.length + 2) lb lcap cs u (lyD l l.length) hu 1 l.length (by omega) (by omega) hd1) [] [2, 3, 4] rfl rfl ?_
    rintro v post ⟨ub, hub, rfl, rfl⟩
    show G _ _ _ [_, _, _, _, _] _
    refine G_val rfl rfl rfl rfl (V_move rfl rfl) ?_
    refine G_val rfl rfl rfl rfl (V_move rfl rfl) ?_
    refine G_call (L2 := [_, _, _, _, _]) rfl rfl rfl rfl rfl rfl Tryd.call49 (rl_replayR (lyD l l.length) ub 1 l.length hu.ok hub (by omega) base e hbs he) [] [1] rfl rfl ?_
    rintro v post ⟨ux, hux, rfl, rfl⟩
    show G _ _ _ [_, _, _, _, _, _] _
    refine G_val rfl rfl rfl rfl (V_move rfl rfl) ?_
    refine G_val rfl rfl rfl rfl (V_extract rfl rfl rfl) ?_
    refine G_val rfl rfl rfl rfl (V_extract rfl rfl rfl) ?_
    refine G_val rfl rfl rfl rfl (V_assign rfl rfl) ?_
    refine G_val rfl rfl rfl rfl (V_assign rfl rfl) ?_
    refine G_done ?_
    refine G_seq ?_
    refine G_region (l := [0, 1, 2, 3, 4, 5, 6, 7, 8, 9, 10, 11, 12, 13, 14, 15, 16, 17, 18, 19, 20, 21]) rfl ?_
    refine G_val rfl rfl rfl rfl (V_move rfl rfl) ?_
    refine G_call (L2 := [_, _, _, _, _, _]) rfl rfl rfl rfl rfl rfl Tryd.call37 (ll_num _) [] [] rfl rfl ?_
    rintro v post ⟨rfl, rfl⟩
    show G _ _ _ [_, _, _, _, _, _] _
    refine G_val rfl rfl rfl rfl (V_eql rfl rfl rfl) ?_
    refine G_val rfl rfl rfl rfl (V_move rfl rfl) ?_
    refine G_splitD 107 rfl (fun hc5 => ?_) (fun hc5 => ?_)
    rotate_left
    · (first | (exact absurd rfl hc5) | (exfalso; omega))
    refine G_val rfl rfl rfl rfl (V_move rfl rfl) ?_
    refine G_call (L2 := [_, _, _, _, _, _]) rfl rfl rfl rfl rfl rfl Tryd.call37 (ll_num _) [] [] rfl rfl ?_
    rintro v post ⟨rfl, rfl⟩
    show G _ _ _ [_, _, _, _, _, _] _
    refine G_val rfl rfl rfl rfl (V_eql rfl rfl rfl) ?_
    refine G_val rfl rfl rfl rfl (V_pickT rfl rfl rfl) ?_
    refine G_val rfl rfl rfl rfl (V_move rfl rfl) ?_
    refine G_splitD 112 rfl (fun hc6 => ?_) (fun hc6 => ?_)
    rotate_left
    · (first | (exact absurd rfl hc6) | (exfalso; omega))
    refine G_val rfl rfl rfl rfl (V_move rfl rfl) ?_
    refine G_val rfl rfl rfl rfl (V_move rfl rfl) ?_
    refine G_call (L2 := [_, _, _, _, _, _]) rfl rfl rfl rfl rfl rfl Tryd.call51 (texts_same ur ux (rp (rdB (lyD l l.length) 1 l.length) e base 0).1 hur hux) [] [3, 1] rfl rfl ?_
    rintro v post ⟨rfl, rfl⟩
    show G _ _ _ [_, _, _, _, _, _] _
    refine G_val rfl rfl rfl rfl (V_pickT rfl rfl rfl) ?_
    refine G_val rfl rfl rfl rfl (V_move rfl rfl) ?_
    refine G_val rfl rfl rfl rfl (V_move rfl rfl) ?_
    refine G_val rfl rfl rfl rfl (V_move rfl rfl) ?_
    refine G_val rfl rfl rfl rfl (V_eql rfl rfl rfl) ?_
    refine G_val rfl rfl rfl rfl (V_pickT rfl rfl rfl) ?_
    refine G_val rfl rfl rfl rfl (V_move rfl rfl) ?_
    refine G_splitD 122 rfl (fun hc7 => ?_) (fun hc7 => ?_)
    rotate_left
    · (first | (exact absurd rfl hc7) | (exfalso; omega))
    refine G_call (L2 := [_, _, _, _, _, _]) rfl rfl rfl rfl rfl rfl Tryd.call34 (ll_live) [] [] rfl rfl ?_
    rintro v post ⟨rfl, rfl⟩
    show G _ _ _ [_, _, _, _, _, _] _
    refine G_val rfl rfl rfl rfl (V_pickT rfl rfl rfl) ?_
    refine G_val rfl rfl rfl rfl (V_assign rfl rfl) ?_
    refine G_done ?_
    refine G_ret (post := []) Tryd.func9 rfl (RVs_cons (RV_tmp rfl) RVs_nil) [] rfl ?_
    dsimp only [packed]
    exact ⟨rfl, rfl⟩

end
end Go.Proofs.YtbblkgdejgoncaaDoor

/- From a law's walk to the form of a row that lists package-level variables: one lemma for all laws of such a seat. -/
namespace Go.Proofs.YtbblkgdejgoncaaDoor
open Go.ChangeShapes Go.WideShapes Go.ChangeAt Go.RowKit

set_option maxRecDepth 100000 in
theorem law_end {f : FuncId} {F : Func} {s : ChangeSpec} {H : Type} {enc : TypeId × Value → H}
    (hvars : s.vars = []) (hrt : F.resultTypes.toList = [4]) (hrs : F.resultTypes.size = 1)
    (hread : ∀ t ∈ F.params.toList, Tryd.prog.readableRec t = true ∧ t < Tryd.prog.types.size)
    (hspec : ∀ ds : List (DataW H), ds.length = F.params.toList.length → s.fn H (ds ++ []) = { results := [.lit (.bool true)], args := ds })
    (walk : LawWalk f F) (W : World) (base : Nat) (args : Array Value) (ds gs : List (DataW H)) (before : List MemPlace)
    (hval : ∀ (j : Nat) t v, F.params[j]? = some t → args[j]? = some v → Value.okWide Tryd.prog W .any base t v)
    (hW : DataW.Whole enc Tryd.prog F.params.toList s.vars false W args.toList ds gs before) :
    Calls Tryd.prog f args W fun e W' => ∃ v, e = .returned v ∧ s.post enc Tryd.prog F false true false false W args v W' := by
  have hW' := hW
  obtain ⟨p, q, hA, hV, rfl, hfz, hnd⟩ := hW
  rw [hvars] at hV
  obtain ⟨rfl, rfl⟩ := trodVars_none hV
  have hlen := trodAll_len _ _ _ _ hA
  refine (walk H enc W base args ds p hval hA).mono fun e W' ⟨he, hb⟩ => ?_
  subst he
  refine ⟨_, rfl, ds, [], _, [], p, [], hW', ?_, ?_, ?_, hb.frame _, fun h => by cases h⟩
  rotate_left
  · rw [hspec ds hlen]
    exact trodAll_below Tryd.laidOutK hb _ _ _ _ hread hA
  · rw [hvars, hspec ds hlen]
    rfl
  · rw [hspec ds hlen, hrt, hrs]
    exact trodAll_mk1 (shut_bool Tryd.underlying4 _)
end Go.Proofs.YtbblkgdejgoncaaDoor

set_option linter.unusedSimpArgs false
set_option linter.unusedVariables false
namespace Go.Proofs.YtbblkgdejgoncaaDoor
open Go.ChangeShapes Go.WideShapes Go.ChangeAt Go.RowKit

section



set_option maxRecDepth 100000 in
theorem ly_of {W : World} {es : List Value} (hl : es.length = 4) (h : Reads Tryd.prog W 82 es) : ∃ x : Ly, es = lyC x ∧ LyOk x := by
  match es, hl with
  | [v0, v1, v2, v3], _ =>
    obtain ⟨n0, e0, a0, b0⟩ := reads_int (reads_field (s := 1) (vs := [v0]) h Tryd.underlying82 0 _ rfl (by kernel_rfl) rfl) Tryd.underlying22
    obtain ⟨n1, e1, a1, b1⟩ := reads_int (reads_field (s := 1) (vs := [v1]) h Tryd.underlying82 1 _ rfl (by kernel_rfl) rfl) Tryd.underlying22
    obtain ⟨t, e2, pt⟩ := reads_str (reads_field (s := 1) (vs := [v2]) h Tryd.underlying82 2 _ rfl (by kernel_rfl) rfl) Tryd.underlying9
    obtain ⟨n3, e3, a3, b3⟩ := reads_int (reads_field (s := 1) (vs := [v3]) h Tryd.underlying82 3 _ rfl (by kernel_rfl) rfl) Tryd.underlying3
    simp only [List.cons.injEq, and_true] at e0 e1 e2 e3
    subst e0 e1 e2 e3
    have b0 : n0 ≤ (4294967295 : Int) := b0
    have b1 : n1 ≤ (4294967295 : Int) := b1
    obtain ⟨m0, rfl⟩ := Int.eq_ofNat_of_zero_le (show (0 : Int) ≤ n0 from a0)
    obtain ⟨m1, rfl⟩ := Int.eq_ofNat_of_zero_le (show (0 : Int) ≤ n1 from a1)
    exact ⟨⟨m0, m1, t, n3⟩, rfl, ⟨by show m0 < _; omega, by show m1 < _; omega, pt, a3, b3⟩⟩
theorem okv_slice {P : Program} {W : World} {r : Reach} {b : Nat} {t e : TypeId} {v : Value} (h : Value.okWide P W r b t v) (ht : P.underlying t = some (.slice e)) : ∃ p i j, v = .slice p i j ∧ Cell.okWide P W r b t v := by
  have h1 := okv_cell h ht rfl
  have h2 := h1
  unfold Cell.okWide at h2
  rw [ht] at h2
  cases v <;> first | exact ⟨_, _, _, rfl, h1⟩ | (exfalso; first | exact h2 | (unfold Cell.ok at h2; rw [ht] at h2; exact h2) | (simp [Cell.ok, ht] at h2; done))
set_option maxRecDepth 100000 in
theorem logReplays_walk : LawWalk 9 Tryd.f9 := lawwalk_reads (fun W base args hs hval => by
  rw [Tryd.params9] at hs hval
  obtain ⟨l⟩ := args
  match l, hs with
  | [a, b, c], _ =>
    obtain ⟨h0, hr⟩ := hval 0 80 a rfl rfl
    obtain ⟨p, i, j, rfl, hv⟩ := okv_slice h0 Tryd.underlying80
    obtain ⟨e, rfl, a0, b0⟩ := okc_int (okv_cell (hval 1 22 b rfl rfl).1 Tryd.underlying22 rfl) Tryd.underlying22
    obtain ⟨z, rfl, a1, b1⟩ := okc_int (okv_cell (hval 2 22 c rfl rfl).1 Tryd.underlying22 rfl) Tryd.underlying22
    have b0 : e ≤ (4294967295 : Int) := b0
    have b1 : z ≤ (4294967295 : Int) := b1
    obtain ⟨m, rfl⟩ := Int.eq_ofNat_of_zero_le (show (0 : Int) ≤ e from a0)
    obtain ⟨m1, rfl⟩ := Int.eq_ofNat_of_zero_le (show (0 : Int) ≤ z from a1)
    obtain ⟨o1, p1, q1, c1, T1, f1, xs, e1, hk, hg, hb⟩ := reads_slice (sz := 4) hr Tryd.underlying80 (by kernel_rfl) rfl hv lyC ly_len LyOk (fun es hl h => ly_of hl h)
    rw [e1]
    exact ⟨_, has_cons (has_nil _) hb, logReplays_all o1 p1 q1 c1 T1 f1 xs hk hg m m1 (by omega) (by omega)⟩)


set_option maxRecDepth 100000 in
theorem logReplays_lifted (os : Os) (started : os.Started) (H : Type) (enc : TypeId × Value → H) :
    ReturnsInHanded {} Tryd.checked os 9 .any (fun w args => (Rows.logReplaysSpec.pre enc Tryd.prog Tryd.f9 [] false w args ∧ laidMetH Tryd.prog Rows.logReplaysRow.laid w) ∧ sizedMet enc Tryd.prog Tryd.f9 (OpenSpec.ofChange Rows.logReplaysSpec) false w args)
      (Rows.logReplaysSpec.post enc Tryd.prog Tryd.f9 false true false false) := by
  refine returnsInHanded_of_change_and (C := Tryd.checked) (X := fun w _ => laidMetH Tryd.prog Rows.logReplaysRow.laid w) (fun _ _ _ hh h => h.of_heap hh) Tryd.ownK started (by kernel_rfl) Tryd.func9
    (ChangeSpec.witness_shaped (enc := enc) (C := Tryd.checked) (os := os) (X := fun w _ => laidMetH Tryd.prog Rows.logReplaysRow.laid w) false (World.laidAll Tryd.prog os Rows.logReplaysRow.laid) #[.slice none 0 0, .int .u32 0, .int .u32 0] 8 (World.laidAll_os _ _ _)
      (World.shaped_of_ZipB (by kernel_rfl) (by kernel_rfl)) (by kernel_rfl) (by kernel_rfl) (by kernel_rfl)
      (by rw [MakeChecks.laidMetH_plain _ _ _ (by kernel_rfl)]; exact laidMet_laidAll _ (by kernel_rfl) (by kernel_rfl))) ?_
  intro W base args ds gs before hval hW _ _ _ _
  exact law_end (s := Rows.logReplaysSpec) rfl (by kernel_rfl) (by kernel_rfl) (by decide +kernel) (fun ds h => by match ds, h with | [_, _, _], _ => rfl) logReplays_walk W base args ds gs before hval hW
theorem logReplays_said : Rows.LogReplaysSaid :=
  OpenClaim.holds_of_wide 9 Tryd.f9 rfl rfl rfl rfl rfl rfl rfl ⟨rfl, rfl, rfl, rfl, rfl⟩ rfl rfl rfl rfl rfl (by kernel_rfl) Tryd.func9 (by kernel_rfl)
    (of_decide_eq_true (by kernel_rfl)) (by unfold Func.isWrapper; first | (rw [if_pos (by decide +kernel)]; kernel_rfl) | (rw [if_neg (by decide +kernel)]; exact ⟨rfl, rfl⟩))
    (fun os started H enc _ => logReplays_lifted os started H enc)
theorem logReplays_holds : Rows.LogReplaysCardSaid :=
  Claim7.holds_tied_plain_at .later [] _ _ _ _ logReplays_said (fun _ h => by cases h) (by kernel_rfl) (fun _ h => by cases h) logReplays_row_tie rfl ⟨rfl, rfl⟩ (by kernel_rfl) rfl
    (fun f fn hf hfn => by
      obtain rfl : f = 9 := Option.some.inj ((show Tryd.prog.funcNamed "billet/billetlaw26.LogReplays" = some 9 by kernel_rfl).symm.trans hf) |>.symm
      obtain rfl : fn = Tryd.f9 := (Option.some.inj (Tryd.func9.symm.trans hfn)).symm
      exact ⟨by kernel_rfl, fun j t ht => by
        rw [Tryd.params9] at ht
        have hm : t ∈ [80, 22, 22] := by simpa using Array.mem_of_getElem? ht
        have hall : ([80, 22, 22].all fun u => !Tryd.prog.wantsStandIn u) = true := by kernel_rfl
        exact (show Tryd.prog.wantsStandIn t = false by simpa using List.all_eq_true.1 hall t hm)⟩)
    (by kernel_rfl)
#print axioms logReplays_holds

end
end Go.Proofs.YtbblkgdejgoncaaDoor
