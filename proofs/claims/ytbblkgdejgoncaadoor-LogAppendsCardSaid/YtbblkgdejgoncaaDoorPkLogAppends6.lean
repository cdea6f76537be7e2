/- The law LogAppends: after every append the disk of twenty blocks is what the document makes; the log says where it stands and what room it has; what does not fit is said so and changes nothing; the call returns true and leaves its arguments as they were. -/
import Derived.Test.YtbblkgdejgoncaaDoorPkLogAppends1
import Derived.Test.YtbblkgdejgoncaaDoorPkLogAppends2
import Derived.Test.YtbblkgdejgoncaaDoorPkLogAppends3
import Derived.Test.YtbblkgdejgoncaaDoorPkLogAppends4
import Derived.Test.YtbblkgdejgoncaaDoorPkLogAppends5
import Derived.Test.YtbblkgdejgoncaaDoorCards
import Derived.Test.YtbblkgdejgoncaaDoorTie
import Derived.Lay
import Derived.LaidOnce
import Derived.SevenTiedAt
import Derived.Deep.DeepHandedRow

/- The laws of layer 26: what they have in common; the example. -/
set_option linter.unusedSimpArgs false
set_option linter.unusedVariables false
namespace Go.Proofs.YtbblkgdejgoncaaDoor
open Go Go.ChangeShapes Go.WideShapes Go.ChangeAt Go.RowKit

section
theorem infLogL_5 : Tryd.prog.info? 5 = some Tryd.t5 := by kernel_rfl


def regB (n : Nat) (f b : Int) : Prop := 0 ≤ f ∧ 1 ≤ b ∧ b ≤ (n : Int) ∧ f ≤ (n : Int) - b
instance (n : Nat) (f b : Int) : Decidable (regB n f b) := by unfold regB; infer_instance

set_option maxRecDepth 100000 in
set_option maxHeartbeats 1000000 in
theorem rl_region (n : Nat) (f b : Int) (hn : n ≤ 1000000) (hf0 : -9223372036854775808 ≤ f) (hf1 : f ≤ 9223372036854775807) (hb0 : -9223372036854775808 ≤ b) (hb1 : b ≤ 9223372036854775807) :
    Ct Tryd.prog 36 [.int .i64 (n : Int), .int .i64 f, .int .i64 b] [] [] fun v post => v = .bool (decide (regB n f b)) ∧ post = [] := by
 refine ct_of Tryd.func36 rfl rfl (fun w0 => ?_)
 show G _ _ [(0, _), (1, _), (2, _)] _ _
 refine G_seq ?_
 refine G_region (l := [0]) rfl ?_
 refine G_val rfl rfl rfl rfl (V_assign rfl rfl) ?_
 refine G_done ?_
 refine G_seq ?_
 refine G_region (l := [0, 1, 2, 3, 4, 5, 6, 7, 8, 9, 10, 11, 12, 13, 14, 15, 16, 17, 18]) rfl ?_
 refine G_val rfl rfl rfl rfl (V_move rfl rfl) ?_
 refine G_val rfl rfl rfl rfl (V_geq rfl rfl rfl) ?_
 refine G_val rfl rfl rfl rfl (V_move rfl rfl) ?_
 refine G_splitD 9 rfl (fun hc1 => ?_) (fun hc1 => ?_)
 · skip
   refine G_val rfl rfl rfl rfl (V_move rfl rfl) ?_
   refine G_val rfl rfl rfl rfl (V_geq rfl rfl rfl) ?_
   refine G_val rfl rfl rfl rfl (V_pickT rfl rfl rfl) ?_
   refine G_val rfl rfl rfl rfl (V_move rfl rfl) ?_
   refine G_splitD 13 rfl (fun hc2 => ?_) (fun hc2 => ?_)
   · skip
     refine G_val rfl rfl rfl rfl (V_move rfl rfl) ?_
     refine G_val rfl rfl rfl rfl (V_move rfl rfl) ?_
     refine G_val rfl rfl rfl rfl (V_leq rfl rfl rfl) ?_
     refine G_val rfl rfl rfl rfl (V_pickT rfl rfl rfl) ?_
     refine G_val rfl rfl rfl rfl (V_move rfl rfl) ?_
     refine G_splitD 18 rfl (fun hc3 => ?_) (fun hc3 => ?_)
     · skip
       refine G_val rfl rfl rfl rfl (V_move rfl rfl) ?_
       refine G_val rfl rfl rfl rfl (V_move rfl rfl) ?_
       refine G_val rfl rfl rfl rfl (V_move rfl rfl) ?_
       first
         | refine G_val rfl rfl rfl rfl ((V_sub rfl rfl rfl).int (wrap_i64 (by omega))) ?_
         | refine G_val rfl rfl rfl rfl (V_sub rfl rfl rfl) ?_
       refine G_val rfl rfl rfl rfl (V_leq rfl rfl rfl) ?_
       refine G_val rfl rfl rfl rfl (V_pickT rfl rfl rfl) ?_
       refine G_val rfl rfl rfl rfl (V_assign rfl rfl) ?_
       refine G_done ?_
       refine G_ret (post := []) Tryd.func36 rfl (RVs_cons (RV_tmp rfl) RVs_nil) [] rfl ?_
       dsimp only [packed]
       refine ⟨?_, rfl⟩; first | exact bool_eq (decide_eq_true (by unfold regB; omega)).symm | exact bool_eq (decide_eq_false (by unfold regB; omega)).symm | exact bool_eq (decide_eq_decide.2 (by unfold regB; omega))
     refine G_off rfl rfl rfl rfl ?_
     refine G_off rfl rfl rfl rfl ?_
     refine G_off rfl rfl rfl rfl ?_
     refine G_off rfl rfl rfl rfl ?_
     refine G_off rfl rfl rfl rfl ?_
     refine G_val rfl rfl rfl rfl (V_pickF rfl rfl rfl) ?_
     refine G_val rfl rfl rfl rfl (V_assign rfl rfl) ?_
     refine G_done ?_
     refine G_ret (post := []) Tryd.func36 rfl (RVs_cons (RV_tmp rfl) RVs_nil) [] rfl ?_
     dsimp only [packed]
     refine ⟨?_, rfl⟩; first | exact bool_eq (decide_eq_true (by unfold regB; omega)).symm | exact bool_eq (decide_eq_false (by unfold regB; omega)).symm | exact bool_eq (decide_eq_decide.2 (by unfold regB; omega))
   refine G_off rfl rfl rfl rfl ?_
   refine G_off rfl rfl rfl rfl ?_
   refine G_off rfl rfl rfl rfl ?_
   refine G_val rfl rfl rfl rfl (V_pickF rfl rfl rfl) ?_
   refine G_val rfl rfl rfl rfl (V_move rfl rfl) ?_
   refine G_off rfl rfl rfl rfl ?_
   refine G_off rfl rfl rfl rfl ?_
   refine G_off rfl rfl rfl rfl ?_
   refine G_off rfl rfl rfl rfl ?_
   refine G_off rfl rfl rfl rfl ?_
   refine G_val rfl rfl rfl rfl (V_pickF rfl rfl rfl) ?_
   refine G_val rfl rfl rfl rfl (V_assign rfl rfl) ?_
   refine G_done ?_
   refine G_ret (post := []) Tryd.func36 rfl (RVs_cons (RV_tmp rfl) RVs_nil) [] rfl ?_
   dsimp only [packed]
   refine ⟨?_, rfl⟩; first | exact bool_eq (decide_eq_true (by unfold regB; omega)).symm | exact bool_eq (decide_eq_false (by unfold regB; omega)).symm | exact bool_eq (decide_eq_decide.2 (by unfold regB; omega))
 refine G_off rfl rfl rfl rfl ?_
 refine G_off rfl rfl rfl rfl ?_
 refine G_val rfl rfl rfl rfl (V_pickF rfl rfl rfl) ?_
 refine G_val rfl rfl rfl rfl (V_move rfl rfl) ?_
 refine G_off rfl rfl rfl rfl ?_
 refine G_off rfl rfl rfl rfl ?_
 refine G_off rfl rfl rfl rfl ?_
 refine G_val rfl rfl rfl rfl (V_pickF rfl rfl rfl) ?_
 refine G_val rfl rfl rfl rfl (V_move rfl rfl) ?_
 refine G_off rfl rfl rfl rfl ?_
 refine G_off rfl rfl rfl rfl ?_
 refine G_off rfl rfl rfl rfl ?_
 refine G_off rfl rfl rfl rfl ?_
 refine G_off rfl rfl rfl rfl ?_
 refine G_val rfl rfl rfl rfl (V_pickF rfl rfl rfl) ?_
 refine G_val rfl rfl rfl rfl (V_assign rfl rfl) ?_
 refine G_done ?_
 refine G_ret (post := []) Tryd.func36 rfl (RVs_cons (RV_tmp rfl) RVs_nil) [] rfl ?_
 dsimp only [packed]
 refine ⟨?_, rfl⟩; first | exact bool_eq (decide_eq_true (by unfold regB; omega)).symm | exact bool_eq (decide_eq_false (by unfold regB; omega)).symm | exact bool_eq (decide_eq_decide.2 (by unfold regB; omega))

set_option maxRecDepth 100000 in
set_option maxHeartbeats 1000000 in
theorem ll_num (n : Int) :
    Ct Tryd.prog 37 [.int .i64 n] [] [] fun v post => v = .int .i64 n ∧ post = [] := by
 refine ct_of Tryd.func37 rfl rfl (fun w0 => ?_)
 show G _ _ [(0, _)] _ _
 refine G_seq ?_
 refine G_region (l := [0]) rfl ?_
 refine G_val rfl rfl rfl rfl (V_assign rfl rfl) ?_
 refine G_done ?_
 refine G_seq ?_
 refine G_region (l := [0, 1]) rfl ?_
 refine G_val rfl rfl rfl rfl (V_move rfl rfl) ?_
 refine G_val rfl rfl rfl rfl (V_assign rfl rfl) ?_
 refine G_done ?_
 refine G_ret (post := []) Tryd.func37 rfl (RVs_cons (RV_tmp rfl) RVs_nil) [] rfl ?_
 dsimp only [packed]
 exact ⟨rfl, rfl⟩


theorem lg_new_ok {n : Nat} {f b : Int} {e : Nat} {a : Int} {d : Nat} {v : Value} {post : List (Option Nat × Obj)} (hr : rgE n f b = 0) (he : 0 < e) (h0 : 0 ≤ a) (h1 : a ≤ b)
    (h : (rgE n f b ≠ 0 ∧ v = .tuple #[.pointer none, .int .i64 1] ∧ post = []) ∨ (rgE n f b = 0 ∧ ((e : Int) = 0 ∨ a < 0 ∨ b < a) ∧ v = .tuple #[.pointer none, .int .i64 1] ∧ post = []) ∨ (rgE n f b = 0 ∧ 0 < e ∧ 0 ≤ a ∧ a ≤ b ∧ ∃ g, v = .tuple #[.pointer (some ⟨g, 0, none⟩), .int .i64 0] ∧ post = [(some g, .cells (lgC d f b e a.toNat).toArray 136 (0, 0))])) :
    ∃ g, v = .tuple #[.pointer (some ⟨g, 0, none⟩), .int .i64 0] ∧ post = [(some g, .cells (lgC d f b e a.toNat).toArray 136 (0, 0))] := by
  rcases h with h | h | h
  · exact absurd hr h.1
  · have := h.2.1; omega
  · exact h.2.2.2.2
attribute [local irreducible] lk1 lk2 rp rpN appK appE appA newD zt

theorem zt_cells (n : Nat) : ((List.replicate n (Value.int .u8 0)).toArray.toList.drop 0).take n = bcells (zt n) := by
  rw [List.drop_zero, List.take_of_length_le (by simp)]; unfold zt; rw [bcells_zero]
set_option maxRecDepth 100000 in
set_option maxHeartbeats 4000000 in
theorem ll_live  :
    Ct Tryd.prog 34 [] [] [] fun v post => v = .bool true ∧ post = [] := by
 obtain ⟨lv1, lv2, lv3, lv4, lv5, lv6, lv7⟩ := live_log
 refine ct_of Tryd.func34 rfl rfl (fun w0 => ?_)
 show G _ _ [] _ _
 refine G_seq ?_
 refine G_region (l := [0]) rfl ?_
 refine G_val rfl rfl rfl rfl (V_assign rfl rfl) ?_
 refine G_done ?_
 refine G_seq ?_
 refine G_region (l := [0, 1, 2, 3, 4, 5]) rfl ?_
 refine G_call (L2 := []) rfl rfl rfl rfl rfl rfl Tryd.call17 (dk_new 8 (by omega) (by omega)) [] [] rfl rfl ?_
 rintro v post ⟨d, lb, lcap, lcs, rfl, h, rfl⟩
 show G _ _ _ [_, _, _] _
 refine G_val rfl rfl rfl rfl (V_move rfl rfl) ?_
 refine G_val rfl rfl rfl rfl (V_extract rfl rfl rfl) ?_
 refine G_val rfl rfl rfl rfl (V_extract rfl rfl rfl) ?_
 refine G_val rfl rfl rfl rfl (V_assign rfl rfl) ?_
 refine G_val rfl rfl rfl rfl (V_assign rfl rfl) ?_
 refine G_done ?_
 refine G_seq ?_
 refine G_region (l := [0, 1, 2, 3, 4, 5, 6]) rfl ?_
 refine G_val rfl rfl rfl rfl (V_move rfl rfl) ?_
 refine G_call (L2 := [_, _, _]) rfl rfl rfl rfl rfl rfl Tryd.call35 ((lg_new d 8 lb lcap lcs slNil (newD 8) h 2 5 (by omega) (by omega) (by omega) (by omega) 7 0 (by omega) (by omega) (by omega)).weaken (fun v post h => lg_new_ok (by decide) (by omega) (by omega) (by omega) h)) [] [0] rfl rfl ?_
 rintro v post ⟨g, rfl, rfl⟩
 show G _ _ _ [_, _, _, _] _
 refine G_val rfl rfl rfl rfl (V_move rfl rfl) ?_
 refine G_val rfl rfl rfl rfl (V_extract rfl rfl rfl) ?_
 refine G_val rfl rfl rfl rfl (V_extract rfl rfl rfl) ?_
 refine G_val rfl rfl rfl rfl (V_assign rfl rfl) ?_
 refine G_val rfl rfl rfl rfl (V_assign rfl rfl) ?_
 refine G_done ?_
 refine G_seq ?_
 refine GH_start (Lq := []) (isq := []) (m := 10) mixedK rfl rfl ?_
 refine GH_take 0 rfl rfl rfl rfl (by kernel_rfl) (by kernel_rfl) (by kernel_rfl) (fun _ _ => (V_move rfl rfl)) ?_
 refine GH_take 4 rfl rfl rfl rfl (by kernel_rfl) (by kernel_rfl) (by kernel_rfl) (fun _ _ => (V_move rfl rfl)) ?_
 refine GH_all [1, 5] (by kernel_rfl) (by decide) ?_
 refine (And.intro ?_ (And.intro ?_ trivial))
 · skip
   refine GHop_new rfl rfl rfl rfl (N_make (l := 42) (m := 42) rfl Tryd.underlying27 infLogL_5 rfl rfl rfl rfl rfl rfl rfl (by first | decide | omega) (by first | decide | omega | (show 1 * _ ≤ _; omega)) (by first | decide | omega)) [] (fun _ => ⟨_, rfl⟩) (fun b20 => ?_)
   refine GH_all [2, 5] (by kernel_rfl) (by decide) ?_
   refine (And.intro ?_ (And.intro ?_ trivial))
   · skip
     refine GHop_val rfl rfl rfl rfl (V_bytesS (l := (zt 42)) rfl rfl Tryd.underlying27 Tryd.underlying5 Tryd.underlying9 (mem_at 0 rfl) (by rw [zt_len]) (zt_cells 42)) ?_
     refine GH_all [3, 5] (by kernel_rfl) (by decide) ?_
     refine (And.intro ?_ (And.intro ?_ trivial))
     · skip
       refine GHop_call (L2 := [_]) rfl rfl rfl rfl rfl rfl Tryd.call41 ((lg_append d 8 lb lcap lcs slNil (newD 8) h g 2 5 7 0 (zt 42) (by decide) (by omega) (by omega) (by omega) (new_W8) (by rw [zt_len]; omega)).weaken (fun v post h => by rw [lv1, lv2, lk1_eq] at h; exact h)) [1, 1, 1, 1] [] rfl rfl [] (by rintro v post ⟨rfl, lcs1, uw1, h1, rfl⟩; exact ⟨_, rfl⟩) ?_
       rintro v post ⟨rfl, lcs1, uw1, h1, rfl⟩
       show GH _ _ _ _ _ _ _ [_, _, _, _, _] _
       refine GH_all [5] (by kernel_rfl) (by decide) ?_
       refine (And.intro ?_ trivial)
       · skip
         refine GHop_new rfl rfl rfl rfl (N_make (l := 43) (m := 43) rfl Tryd.underlying27 infLogL_5 rfl rfl rfl rfl rfl rfl rfl (by first | decide | omega) (by first | decide | omega | (show 1 * _ ≤ _; omega)) (by first | decide | omega)) [] (fun _ => ⟨_, rfl⟩) (fun b24 => ?_)
         refine GH_all [6] (by kernel_rfl) (by decide) ?_
         refine (And.intro ?_ trivial)
         · skip
           refine GHop_val rfl rfl rfl rfl (V_bytesS (l := (zt 43)) rfl rfl Tryd.underlying27 Tryd.underlying5 Tryd.underlying9 (mem_at 0 rfl) (by rw [zt_len]) (zt_cells 43)) ?_
           refine GH_all [7] (by kernel_rfl) (by decide) ?_
           refine (And.intro ?_ trivial)
           · skip
             refine GHop_call (L2 := [_, _]) rfl rfl rfl rfl rfl rfl Tryd.call41 ((lg_append d 8 lb lcap lcs1 uw1 lk1 h1 g 2 5 7 1 (zt 43) (by decide) (by omega) (by omega) (by omega) (by omega) (by rw [zt_len]; omega)).weaken (fun v post h => by rw [lv3, lv4, lk2_eq] at h; exact h)) [1, 1, 1, 1] [] rfl rfl [] (by rintro v post ⟨rfl, lcs1, uw1, h1, rfl⟩; exact ⟨_, rfl⟩) ?_
             rintro v post ⟨rfl, lcs1, uw1, h1, rfl⟩
             show GH _ _ _ _ _ _ _ [_, _, _, _, _, _] _
             refine GH_take 8 rfl rfl rfl rfl (by kernel_rfl) (by kernel_rfl) (by kernel_rfl) (fun _ _ => (V_assign rfl rfl)) ?_
             refine GH_take 9 rfl rfl rfl rfl (by kernel_rfl) (by kernel_rfl) (by kernel_rfl) (fun _ _ => (V_assign rfl rfl)) ?_
             refine GH_done (by kernel_rfl) ?_
             refine G_seq ?_
             refine G_region (l := [0, 1, 2, 3, 4, 5, 6, 7, 8]) rfl ?_
             refine G_val rfl rfl rfl rfl (V_move rfl rfl) ?_
             refine G_call (L2 := [_, _, _, _, _, _]) rfl rfl rfl rfl rfl rfl Tryd.call48 ((lg_replay d 8 lb lcap lcs1 uw1 lk2 h1 2 5 1 9 (by decide) lv5 (by omega) (by omega) (by omega)).weaken (fun v post h => by rw [show (5 : Int).toNat = 5 from rfl, lv7] at h; exact h)) [] [1, 2, 3] rfl rfl ?_
             rintro v post ⟨ur, hur, rfl, rfl⟩
             show G _ _ _ [_, _, _, _, _, _, _] _
             refine G_val rfl rfl rfl rfl (V_move rfl rfl) ?_
             refine G_val rfl rfl rfl rfl (V_extract rfl rfl rfl) ?_
             refine G_val rfl rfl rfl rfl (V_extract rfl rfl rfl) ?_
             refine G_val rfl rfl rfl rfl (V_extract rfl rfl rfl) ?_
             refine G_val rfl rfl rfl rfl (V_assign rfl rfl) ?_
             refine G_val rfl rfl rfl rfl (V_assign rfl rfl) ?_
             refine G_val rfl rfl rfl rfl (V_assign rfl rfl) ?_
             refine G_done ?_
             refine G_seq ?_
             refine G_region (l := [0, 1, 2, 3, 4, 5, 6, 7, 8, 9, 10, 11, 12, 13, 14, 15, 16, 17, 18, 19, 20, 21, 22, 23, 24, 25, 26, 27, 28, 29, 30, 31, 32, 33, 34, 35, 36, 37]) rfl ?_
             refine G_val rfl rfl rfl rfl (V_move rfl rfl) ?_
             refine G_call (L2 := [_, _, _, _, _, _, _]) rfl rfl rfl rfl rfl rfl Tryd.call37 (ll_num _) [] [] rfl rfl ?_
             rintro v post ⟨rfl, rfl⟩
             show G _ _ _ [_, _, _, _, _, _, _] _
             refine G_val rfl rfl rfl rfl (V_eql rfl rfl rfl) ?_
             refine G_val rfl rfl rfl rfl (V_move rfl rfl) ?_
             refine G_splitD 36 rfl (fun hc1 => ?_) (fun hc1 => ?_)
             rotate_left
             · (first | (exact absurd rfl hc1) | (exfalso; omega) | (exfalso; simp at hc1; done))
             refine G_val rfl rfl rfl rfl (V_move rfl rfl) ?_
             refine G_call (L2 := [_, _, _, _, _, _, _]) rfl rfl rfl rfl rfl rfl Tryd.call37 (ll_num _) [] [] rfl rfl ?_
             rintro v post ⟨rfl, rfl⟩
             show G _ _ _ [_, _, _, _, _, _, _] _
             refine G_val rfl rfl rfl rfl (V_eql rfl rfl rfl) ?_
             refine G_val rfl rfl rfl rfl (V_pickT rfl rfl rfl) ?_
             refine G_val rfl rfl rfl rfl (V_move rfl rfl) ?_
             refine G_splitD 41 rfl (fun hc2 => ?_) (fun hc2 => ?_)
             rotate_left
             · (first | (exact absurd rfl hc2) | (exfalso; omega) | (exfalso; simp at hc2; done))
             refine G_val rfl rfl rfl rfl (V_move rfl rfl) ?_
             refine G_call (L2 := [_, _, _, _, _, _, _]) rfl rfl rfl rfl rfl rfl Tryd.call37 (ll_num _) [] [] rfl rfl ?_
             rintro v post ⟨rfl, rfl⟩
             show G _ _ _ [_, _, _, _, _, _, _] _
             refine G_val rfl rfl rfl rfl (V_eql rfl rfl rfl) ?_
             refine G_val rfl rfl rfl rfl (V_pickT rfl rfl rfl) ?_
             refine G_val rfl rfl rfl rfl (V_move rfl rfl) ?_
             refine G_splitD 46 rfl (fun hc3 => ?_) (fun hc3 => ?_)
             rotate_left
             · (first | (exact absurd rfl hc3) | (exfalso; omega) | (exfalso; simp at hc3; done))
             refine G_val rfl rfl rfl rfl (V_move rfl rfl) ?_
             refine G_call (L2 := [_, _, _, _, _, _, _]) rfl rfl rfl rfl rfl rfl Tryd.call37 (ll_num _) [] [] rfl rfl ?_
             rintro v post ⟨rfl, rfl⟩
             show G _ _ _ [_, _, _, _, _, _, _] _
             refine G_val rfl rfl rfl rfl (V_eql rfl rfl rfl) ?_
             refine G_val rfl rfl rfl rfl (V_pickT rfl rfl rfl) ?_
             refine G_val rfl rfl rfl rfl (V_move rfl rfl) ?_
             refine G_splitD 51 rfl (fun hc4 => ?_) (fun hc4 => ?_)
             rotate_left
             · (first | (exact absurd rfl hc4) | (exfalso; omega) | (exfalso; simp at hc4; done))
             refine G_val rfl rfl rfl rfl (V_move rfl rfl) ?_
             refine G_call (L2 := [_, _, _, _, _, _, _]) rfl rfl rfl rfl rfl rfl Tryd.call44 (lg_at d g 2 5 7 3) [] [1] rfl rfl ?_
             rintro v post ⟨rfl, rfl⟩
             show G _ _ _ [_, _, _, _, _, _, _] _
             refine G_val rfl rfl rfl rfl (V_eql rfl rfl rfl) ?_
             refine G_val rfl rfl rfl rfl (V_pickT rfl rfl rfl) ?_
             refine G_val rfl rfl rfl rfl (V_move rfl rfl) ?_
             refine G_splitD 56 rfl (fun hc5 => ?_) (fun hc5 => ?_)
             rotate_left
             · (first | (exact absurd rfl hc5) | (exfalso; omega) | (exfalso; simp at hc5; done))
             refine G_val rfl rfl rfl rfl (V_move rfl rfl) ?_
             refine G_call (L2 := [_, _, _, _, _, _, _]) rfl rfl rfl rfl rfl rfl Tryd.call45 (lg_room d g 2 5 7 3 (by omega) (by omega) (by omega)) [] [1] rfl rfl ?_
             rintro v post ⟨rfl, rfl⟩
             show G _ _ _ [_, _, _, _, _, _, _] _
             refine G_val rfl rfl rfl rfl (V_eql rfl rfl rfl) ?_
             refine G_val rfl rfl rfl rfl (V_pickT rfl rfl rfl) ?_
             refine G_val rfl rfl rfl rfl (V_move rfl rfl) ?_
             refine G_splitD 61 rfl (fun hc6 => ?_) (fun hc6 => ?_)
             rotate_left
             · (first | (exact absurd rfl hc6) | (exfalso; omega) | (exfalso; simp at hc6; done))
             refine G_val rfl rfl rfl rfl (V_move rfl rfl) ?_
             refine G_val rfl rfl rfl rfl (V_len rfl rfl Tryd.underlying24 rfl) ?_
             refine G_val rfl rfl rfl rfl (V_eql rfl rfl rfl) ?_
             refine G_val rfl rfl rfl rfl (V_pickT rfl rfl rfl) ?_
             refine G_val rfl rfl rfl rfl (V_move rfl rfl) ?_
             refine G_splitD 66 rfl (fun hc7 => ?_) (fun hc7 => ?_)
             rotate_left
             · (first | (exact absurd rfl hc7) | (exfalso; omega) | (exfalso; simp at hc7; done))
             refine G_val rfl rfl rfl rfl (V_move rfl rfl) ?_
             refine G_val rfl rfl rfl rfl (V_eql rfl rfl rfl) ?_
             refine G_val rfl rfl rfl rfl (V_pickT rfl rfl rfl) ?_
             refine G_val rfl rfl rfl rfl (V_assign rfl rfl) ?_
             refine G_done ?_
             refine G_ret (post := []) Tryd.func34 rfl (RVs_cons (RV_tmp rfl) RVs_nil) [] rfl ?_
             dsimp only [packed]
             exact ⟨rfl, rfl⟩
     · skip
       refine GHop_new rfl rfl rfl rfl (N_make (l := 43) (m := 43) rfl Tryd.underlying27 infLogL_5 rfl rfl rfl rfl rfl rfl rfl (by first | decide | omega) (by first | decide | omega | (show 1 * _ ≤ _; omega)) (by first | decide | omega)) [] (fun _ => ⟨_, rfl⟩) (fun b24 => ?_)
       refine GH_all [3, 6] (by kernel_rfl) (by decide) ?_
       refine (And.intro ?_ (And.intro ?_ trivial))
       · skip
         refine GHop_call (L2 := [_, _]) rfl rfl rfl rfl rfl rfl Tryd.call41 ((lg_append d 8 lb lcap lcs slNil (newD 8) h g 2 5 7 0 (zt 42) (by decide) (by omega) (by omega) (by omega) (new_W8) (by rw [zt_len]; omega)).weaken (fun v post h => by rw [lv1, lv2, lk1_eq] at h; exact h)) [2, 2, 2, 2] [] rfl rfl [] (by rintro v post ⟨rfl, lcs1, uw1, h1, rfl⟩; exact ⟨_, rfl⟩) ?_
         rintro v post ⟨rfl, lcs1, uw1, h1, rfl⟩
         show GH _ _ _ _ _ _ _ [_, _, _, _, _, _] _
         refine GH_all [6] (by kernel_rfl) (by decide) ?_
         refine (And.intro ?_ trivial)
         · skip
           refine GHop_val rfl rfl rfl rfl (V_bytesS (l := (zt 43)) rfl rfl Tryd.underlying27 Tryd.underlying5 Tryd.underlying9 (mem_at 4 rfl) (by rw [zt_len]) (zt_cells 43)) ?_
           refine GH_all [7] (by kernel_rfl) (by decide) ?_
           refine (And.intro ?_ trivial)
           · skip
             refine GHop_call (L2 := [_, _]) rfl rfl rfl rfl rfl rfl Tryd.call41 ((lg_append d 8 lb lcap lcs1 uw1 lk1 h1 g 2 5 7 1 (zt 43) (by decide) (by omega) (by omega) (by omega) (by omega) (by rw [zt_len]; omega)).weaken (fun v post h => by rw [lv3, lv4, lk2_eq] at h; exact h)) [0, 0, 0, 0] [] rfl rfl [] (by rintro v post ⟨rfl, lcs1, uw1, h1, rfl⟩; exact ⟨_, rfl⟩) ?_
             rintro v post ⟨rfl, lcs1, uw1, h1, rfl⟩
             show GH _ _ _ _ _ _ _ [_, _, _, _, _, _] _
             refine GH_take 8 rfl rfl rfl rfl (by kernel_rfl) (by kernel_rfl) (by kernel_rfl) (fun _ _ => (V_assign rfl rfl)) ?_
             refine GH_take 9 rfl rfl rfl rfl (by kernel_rfl) (by kernel_rfl) (by kernel_rfl) (fun _ _ => (V_assign rfl rfl)) ?_
             refine GH_done (by kernel_rfl) ?_
             refine G_seq ?_
             refine G_region (l := [0, 1, 2, 3, 4, 5, 6, 7, 8]) rfl ?_
             refine G_val rfl rfl rfl rfl (V_move rfl rfl) ?_
             refine G_call (L2 := [_, _, _, _, _, _]) rfl rfl rfl rfl rfl rfl Tryd.call48 ((lg_replay d 8 lb lcap lcs1 uw1 lk2 h1 2 5 1 9 (by decide) lv5 (by omega) (by omega) (by omega)).weaken (fun v post h => by rw [show (5 : Int).toNat = 5 from rfl, lv7] at h; exact h)) [] [1, 2, 3] rfl rfl ?_
             rintro v post ⟨ur, hur, rfl, rfl⟩
             show G _ _ _ [_, _, _, _, _, _, _] _
             refine G_val rfl rfl rfl rfl (V_move rfl rfl) ?_
             refine G_val rfl rfl rfl rfl (V_extract rfl rfl rfl) ?_
             refine G_val rfl rfl rfl rfl (V_extract rfl rfl rfl) ?_
             refine G_val rfl rfl rfl rfl (V_extract rfl rfl rfl) ?_
             refine G_val rfl rfl rfl rfl (V_assign rfl rfl) ?_
             refine G_val rfl rfl rfl rfl (V_assign rfl rfl) ?_
             refine G_val rfl rfl rfl rfl (V_assign rfl rfl) ?_
             refine G_done ?_
             refine G_seq ?_
             refine G_region (l := [0, 1, 2, 3, 4, 5, 6, 7, 8, 9, 10, 11, 12, 13, 14, 15, 16, 17, 18, 19, 20, 21, 22, 23, 24, 25, 26, 27, 28, 29, 30, 31, 32, 33, 34, 35, 36, 37]) rfl ?_
             refine G_val rfl rfl rfl rfl (V_move rfl rfl) ?_
             refine G_call (L2 := [_, _, _, _, _, _, _]) rfl rfl rfl rfl rfl rfl Tryd.call37 (ll_num _) [] [] rfl rfl ?_
             rintro v post ⟨rfl, rfl⟩
             show G _ _ _ [_, _, _, _, _, _, _] _
             refine G_val rfl rfl rfl rfl (V_eql rfl rfl rfl) ?_
             refine G_val rfl rfl rfl rfl (V_move rfl rfl) ?_
             refine G_splitD 36 rfl (fun hc1 => ?_) (fun hc1 => ?_)
             rotate_left
             · (first | (exact absurd rfl hc1) | (exfalso; omega) | (exfalso; simp at hc1; done))
             refine G_val rfl rfl rfl rfl (V_move rfl rfl) ?_
             refine G_call (L2 := [_, _, _, _, _, _, _]) rfl rfl rfl rfl rfl rfl Tryd.call37 (ll_num _) [] [] rfl rfl ?_
             rintro v post ⟨rfl, rfl⟩
             show G _ _ _ [_, _, _, _, _, _, _] _
             refine G_val rfl rfl rfl rfl (V_eql rfl rfl rfl) ?_
             refine G_val rfl rfl rfl rfl (V_pickT rfl rfl rfl) ?_
             refine G_val rfl rfl rfl rfl (V_move rfl rfl) ?_
             refine G_splitD 41 rfl (fun hc2 => ?_) (fun hc2 => ?_)
             rotate_left
             · (first | (exact absurd rfl hc2) | (exfalso; omega) | (exfalso; simp at hc2; done))
             refine G_val rfl rfl rfl rfl (V_move rfl rfl) ?_
             refine G_call (L2 := [_, _, _, _, _, _, _]) rfl rfl rfl rfl rfl rfl Tryd.call37 (ll_num _) [] [] rfl rfl ?_
             rintro v post ⟨rfl, rfl⟩
             show G _ _ _ [_, _, _, _, _, _, _] _
             refine G_val rfl rfl rfl rfl (V_eql rfl rfl rfl) ?_
             refine G_val rfl rfl rfl rfl (V_pickT rfl rfl rfl) ?_
             refine G_val rfl rfl rfl rfl (V_move rfl rfl) ?_
             refine G_splitD 46 rfl (fun hc3 => ?_) (fun hc3 => ?_)
             rotate_left
             · (first | (exact absurd rfl hc3) | (exfalso; omega) | (exfalso; simp at hc3; done))
             refine G_val rfl rfl rfl rfl (V_move rfl rfl) ?_
             refine G_call (L2 := [_, _, _, _, _, _, _]) rfl rfl rfl rfl rfl rfl Tryd.call37 (ll_num _) [] [] rfl rfl ?_
             rintro v post ⟨rfl, rfl⟩
             show G _ _ _ [_, _, _, _, _, _, _] _
             refine G_val rfl rfl rfl rfl (V_eql rfl rfl rfl) ?_
             refine G_val rfl rfl rfl rfl (V_pickT rfl rfl rfl) ?_
             refine G_val rfl rfl rfl rfl (V_move rfl rfl) ?_
             refine G_splitD 51 rfl (fun hc4 => ?_) (fun hc4 => ?_)
             rotate_left
             · (first | (exact absurd rfl hc4) | (exfalso; omega) | (exfalso; simp at hc4; done))
             refine G_val rfl rfl rfl rfl (V_move rfl rfl) ?_
             refine G_call (L2 := [_, _, _, _, _, _, _]) rfl rfl rfl rfl rfl rfl Tryd.call44 (lg_at d g 2 5 7 3) [] [1] rfl rfl ?_
             rintro v post ⟨rfl, rfl⟩
             show G _ _ _ [_, _, _, _, _, _, _] _
             refine G_val rfl rfl rfl rfl (V_eql rfl rfl rfl) ?_
             refine G_val rfl rfl rfl rfl (V_pickT rfl rfl rfl) ?_
             refine G_val rfl rfl rfl rfl (V_move rfl rfl) ?_
             refine G_splitD 56 rfl (fun hc5 => ?_) (fun hc5 => ?_)
             rotate_left
             · (first | (exact absurd rfl hc5) | (exfalso; omega) | (exfalso; simp at hc5; done))
             refine G_val rfl rfl rfl rfl (V_move rfl rfl) ?_
             refine G_call (L2 := [_, _, _, _, _, _, _]) rfl rfl rfl rfl rfl rfl Tryd.call45 (lg_room d g 2 5 7 3 (by omega) (by omega) (by omega)) [] [1] rfl rfl ?_
             rintro v post ⟨rfl, rfl⟩
             show G _ _ _ [_, _, _, _, _, _, _] _
             refine G_val rfl rfl rfl rfl (V_eql rfl rfl rfl) ?_
             refine G_val rfl rfl rfl rfl (V_pickT rfl rfl rfl) ?_
             refine G_val rfl rfl rfl rfl (V_move rfl rfl) ?_
             refine G_splitD 61 rfl (fun hc6 => ?_) (fun hc6 => ?_)
             rotate_left
             · (first | (exact absurd rfl hc6) | (exfalso; omega) | (exfalso; simp at hc6; done))
             refine G_val rfl rfl rfl rfl (V_move rfl rfl) ?_
             refine G_val rfl rfl rfl rfl (V_len rfl rfl Tryd.underlying24 rfl) ?_
             refine G_val rfl rfl rfl rfl (V_eql rfl rfl rfl) ?_
             refine G_val rfl rfl rfl rfl (V_pickT rfl rfl rfl) ?_
             refine G_val rfl rfl rfl rfl (V_move rfl rfl) ?_
             refine G_splitD 66 rfl (fun hc7 => ?_) (fun hc7 => ?_)
             rotate_left
             · (first | (exact absurd rfl hc7) | (exfalso; omega) | (exfalso; simp at hc7; done))
             refine G_val rfl rfl rfl rfl (V_move rfl rfl) ?_
             refine G_val rfl rfl rfl rfl (V_eql rfl rfl rfl) ?_
             refine G_val rfl rfl rfl rfl (V_pickT rfl rfl rfl) ?_
             refine G_val rfl rfl rfl rfl (V_assign rfl rfl) ?_
             refine G_done ?_
             refine G_ret (post := []) Tryd.func34 rfl (RVs_cons (RV_tmp rfl) RVs_nil) [] rfl ?_
             dsimp only [packed]
             exact ⟨rfl, rfl⟩
       · skip
         refine GHop_val rfl rfl rfl rfl (V_bytesS (l := (zt 43)) rfl rfl Tryd.underlying27 Tryd.underlying5 Tryd.underlying9 (mem_at 0 rfl) (by rw [zt_len]) (zt_cells 43)) ?_
         refine GH_all [3] (by kernel_rfl) (by decide) ?_
         refine (And.intro ?_ trivial)
         · skip
           refine GHop_call (L2 := [_, _]) rfl rfl rfl rfl rfl rfl Tryd.call41 ((lg_append d 8 lb lcap lcs slNil (newD 8) h g 2 5 7 0 (zt 42) (by decide) (by omega) (by omega) (by omega) (new_W8) (by rw [zt_len]; omega)).weaken (fun v post h => by rw [lv1, lv2, lk1_eq] at h; exact h)) [2, 2, 2, 2] [] rfl rfl [] (by rintro v post ⟨rfl, lcs1, uw1, h1, rfl⟩; exact ⟨_, rfl⟩) ?_
           rintro v post ⟨rfl, lcs1, uw1, h1, rfl⟩
           show GH _ _ _ _ _ _ _ [_, _, _, _, _, _] _
           refine GH_all [7] (by kernel_rfl) (by decide) ?_
           refine (And.intro ?_ trivial)
           · skip
             refine GHop_call (L2 := [_, _]) rfl rfl rfl rfl rfl rfl Tryd.call41 ((lg_append d 8 lb lcap lcs1 uw1 lk1 h1 g 2 5 7 1 (zt 43) (by decide) (by omega) (by omega) (by omega) (by omega) (by rw [zt_len]; omega)).weaken (fun v post h => by rw [lv3, lv4, lk2_eq] at h; exact h)) [0, 0, 0, 0] [] rfl rfl [] (by rintro v post ⟨rfl, lcs1, uw1, h1, rfl⟩; exact ⟨_, rfl⟩) ?_
             rintro v post ⟨rfl, lcs1, uw1, h1, rfl⟩
             show GH _ _ _ _ _ _ _ [_, _, _, _, _, _] _
             refine GH_take 8 rfl rfl rfl rfl (by kernel_rfl) (by kernel_rfl) (by kernel_rfl) (fun _ _ => (V_assign rfl rfl)) ?_
             refine GH_take 9 rfl rfl rfl rfl (by kernel_rfl) (by kernel_rfl) (by kernel_rfl) (fun _ _ => (V_assign rfl rfl)) ?_
             refine GH_done (by kernel_rfl) ?_
             refine G_seq ?_
             refine G_region (l := [0, 1, 2, 3, 4, 5, 6, 7, 8]) rfl ?_
             refine G_val rfl rfl rfl rfl (V_move rfl rfl) ?_
             refine G_call (L2 := [_, _, _, _, _, _]) rfl rfl rfl rfl rfl rfl Tryd.call48 ((lg_replay d 8 lb lcap lcs1 uw1 lk2 h1 2 5 1 9 (by decide) lv5 (by omega) (by omega) (by omega)).weaken (fun v post h => by rw [show (5 : Int).toNat = 5 from rfl, lv7] at h; exact h)) [] [1, 2, 3] rfl rfl ?_
             rintro v post ⟨ur, hur, rfl, rfl⟩
             show G _ _ _ [_, _, _, _, _, _, _] _
             refine G_val rfl rfl rfl rfl (V_move rfl rfl) ?_
             refine G_val rfl rfl rfl rfl (V_extract rfl rfl rfl) ?_
             refine G_val rfl rfl rfl rfl (V_extract rfl rfl rfl) ?_
             refine G_val rfl rfl rfl rfl (V_extract rfl rfl rfl) ?_
             refine G_val rfl rfl rfl rfl (V_assign rfl rfl) ?_
             refine G_val rfl rfl rfl rfl (V_assign rfl rfl) ?_
             refine G_val rfl rfl rfl rfl (V_assign rfl rfl) ?_
             refine G_done ?_
             refine G_seq ?_
             refine G_region (l := [0, 1, 2, 3, 4, 5, 6, 7, 8, 9, 10, 11, 12, 13, 14, 15, 16, 17, 18, 19, 20, 21, 22, 23, 24, 25, 26, 27, 28, 29, 30, 31, 32, 33, 34, 35, 36, 37]) rfl ?_
             refine G_val rfl rfl rfl rfl (V_move rfl rfl) ?_
             refine G_call (L2 := [_, _, _, _, _, _, _]) rfl rfl rfl rfl rfl rfl Tryd.call37 (ll_num _) [] [] rfl rfl ?_
             rintro v post ⟨rfl, rfl⟩
             show G _ _ _ [_, _, _, _, _, _, _] _
             refine G_val rfl rfl rfl rfl (V_eql rfl rfl rfl) ?_
             refine G_val rfl rfl rfl rfl (V_move rfl rfl) ?_
             refine G_splitD 36 rfl (fun hc1 => ?_) (fun hc1 => ?_)
             rotate_left
             · (first | (exact absurd rfl hc1) | (exfalso; omega) | (exfalso; simp at hc1; done))
             refine G_val rfl rfl rfl rfl (V_move rfl rfl) ?_
             refine G_call (L2 := [_, _, _, _, _, _, _]) rfl rfl rfl rfl rfl rfl Tryd.call37 (ll_num _) [] [] rfl rfl ?_
             rintro v post ⟨rfl, rfl⟩
             show G _ _ _ [_, _, _, _, _, _, _] _
             refine G_val rfl rfl rfl rfl (V_eql rfl rfl rfl) ?_
             refine G_val rfl rfl rfl rfl (V_pickT rfl rfl rfl) ?_
             refine G_val rfl rfl rfl rfl (V_move rfl rfl) ?_
             refine G_splitD 41 rfl (fun hc2 => ?_) (fun hc2 => ?_)
             rotate_left
             · (first | (exact absurd rfl hc2) | (exfalso; omega) | (exfalso; simp at hc2; done))
             refine G_val rfl rfl rfl rfl (V_move rfl rfl) ?_
             refine G_call (L2 := [_, _, _, _, _, _, _]) rfl rfl rfl rfl rfl rfl Tryd.call37 (ll_num _) [] [] rfl rfl ?_
             rintro v post ⟨rfl, rfl⟩
             show G _ _ _ [_, _, _, _, _, _, _] _
             refine G_val rfl rfl rfl rfl (V_eql rfl rfl rfl) ?_
             refine G_val rfl rfl rfl rfl (V_pickT rfl rfl rfl) ?_
             refine G_val rfl rfl rfl rfl (V_move rfl rfl) ?_
             refine G_splitD 46 rfl (fun hc3 => ?_) (fun hc3 => ?_)
             rotate_left
             · (first | (exact absurd rfl hc3) | (exfalso; omega) | (exfalso; simp at hc3; done))
             refine G_val rfl rfl rfl rfl (V_move rfl rfl) ?_
             refine G_call (L2 := [_, _, _, _, _, _, _]) rfl rfl rfl rfl rfl rfl Tryd.call37 (ll_num _) [] [] rfl rfl ?_
             rintro v post ⟨rfl, rfl⟩
             show G _ _ _ [_, _, _, _, _, _, _] _
             refine G_val rfl rfl rfl rfl (V_eql rfl rfl rfl) ?_
             refine G_val rfl rfl rfl rfl (V_pickT rfl rfl rfl) ?_
             refine G_val rfl rfl rfl rfl (V_move rfl rfl) ?_
             refine G_splitD 51 rfl (fun hc4 => ?_) (fun hc4 => ?_)
             rotate_left
             · (first | (exact absurd rfl hc4) | (exfalso; omega) | (exfalso; simp at hc4; done))
             refine G_val rfl rfl rfl rfl (V_move rfl rfl) ?_
             refine G_call (L2 := [_, _, _, _, _, _, _]) rfl rfl rfl rfl rfl rfl Tryd.call44 (lg_at d g 2 5 7 3) [] [1] rfl rfl ?_
             rintro v post ⟨rfl, rfl⟩
             show G _ _ _ [_, _, _, _, _, _, _] _
             refine G_val rfl rfl rfl rfl (V_eql rfl rfl rfl) ?_
             refine G_val rfl rfl rfl rfl (V_pickT rfl rfl rfl) ?_
             refine G_val rfl rfl rfl rfl (V_move rfl rfl) ?_
             refine G_splitD 56 rfl (fun hc5 => ?_) (fun hc5 => ?_)
             rotate_left
             · (first | (exact absurd rfl hc5) | (exfalso; omega) | (exfalso; simp at hc5; done))
             refine G_val rfl rfl rfl rfl (V_move rfl rfl) ?_
             refine G_call (L2 := [_, _, _, _, _, _, _]) rfl rfl rfl rfl rfl rfl Tryd.call45 (lg_room d g 2 5 7 3 (by omega) (by omega) (by omega)) [] [1] rfl rfl ?_
             rintro v post ⟨rfl, rfl⟩
             show G _ _ _ [_, _, _, _, _, _, _] _
             refine G_val rfl rfl rfl rfl (V_eql rfl rfl rfl) ?_
             refine G_val rfl rfl rfl rfl (V_pickT rfl rfl rfl) ?_
             refine G_val rfl rfl rfl rfl (V_move rfl rfl) ?_
             refine G_splitD 61 rfl (fun hc6 => ?_) (fun hc6 => ?_)
             rotate_left
             · (first | (exact absurd rfl hc6) | (exfalso; omega) | (exfalso; simp at hc6; done))
             refine G_val rfl rfl rfl rfl (V_move rfl rfl) ?_
             refine G_val rfl rfl rfl rfl (V_len rfl rfl Tryd.underlying24 rfl) ?_
             refine G_val rfl rfl rfl rfl (V_eql rfl rfl rfl) ?_
             refine G_val rfl rfl rfl rfl (V_pickT rfl rfl rfl) ?_
             refine G_val rfl rfl rfl rfl (V_move rfl rfl) ?_
             refine G_splitD 66 rfl (fun hc7 => ?_) (fun hc7 => ?_)
             rotate_left
             · (first | (exact absurd rfl hc7) | (exfalso; omega) | (exfalso; simp at hc7; done))
             refine G_val rfl rfl rfl rfl (V_move rfl rfl) ?_
             refine G_val rfl rfl rfl rfl (V_eql rfl rfl rfl) ?_
             refine G_val rfl rfl rfl rfl (V_pickT rfl rfl rfl) ?_
             refine G_val rfl rfl rfl rfl (V_assign rfl rfl) ?_
             refine G_done ?_
             refine G_ret (post := []) Tryd.func34 rfl (RVs_cons (RV_tmp rfl) RVs_nil) [] rfl ?_
             dsimp only [packed]
             exact ⟨rfl, rfl⟩
   · skip
     refine GHop_new rfl rfl rfl rfl (N_make (l := 43) (m := 43) rfl Tryd.underlying27 infLogL_5 rfl rfl rfl rfl rfl rfl rfl (by first | decide | omega) (by first | decide | omega | (show 1 * _ ≤ _; omega)) (by first | decide | omega)) [] (fun _ => ⟨_, rfl⟩) (fun b24 => ?_)
     refine GH_all [2, 6] (by kernel_rfl) (by decide) ?_
     refine (And.intro ?_ (And.intro ?_ trivial))
     · skip
       refine GHop_val rfl rfl rfl rfl (V_bytesS (l := (zt 42)) rfl rfl Tryd.underlying27 Tryd.underlying5 Tryd.underlying9 (mem_at 1 rfl) (by rw [zt_len]) (zt_cells 42)) ?_
       refine GH_all [3, 6] (by kernel_rfl) (by decide) ?_
       refine (And.intro ?_ (And.intro ?_ trivial))
       · skip
         refine GHop_call (L2 := [_, _]) rfl rfl rfl rfl rfl rfl Tryd.call41 ((lg_append d 8 lb lcap lcs slNil (newD 8) h g 2 5 7 0 (zt 42) (by decide) (by omega) (by omega) (by omega) (new_W8) (by rw [zt_len]; omega)).weaken (fun v post h => by rw [lv1, lv2, lk1_eq] at h; exact h)) [2, 2, 2, 2] [] rfl rfl [] (by rintro v post ⟨rfl, lcs1, uw1, h1, rfl⟩; exact ⟨_, rfl⟩) ?_
         rintro v post ⟨rfl, lcs1, uw1, h1, rfl⟩
         show GH _ _ _ _ _ _ _ [_, _, _, _, _, _] _
         refine GH_all [6] (by kernel_rfl) (by decide) ?_
         refine (And.intro ?_ trivial)
         · skip
           refine GHop_val rfl rfl rfl rfl (V_bytesS (l := (zt 43)) rfl rfl Tryd.underlying27 Tryd.underlying5 Tryd.underlying9 (mem_at 4 rfl) (by rw [zt_len]) (zt_cells 43)) ?_
           refine GH_all [7] (by kernel_rfl) (by decide) ?_
           refine (And.intro ?_ trivial)
           · skip
             refine GHop_call (L2 := [_, _]) rfl rfl rfl rfl rfl rfl Tryd.call41 ((lg_append d 8 lb lcap lcs1 uw1 lk1 h1 g 2 5 7 1 (zt 43) (by decide) (by omega) (by omega) (by omega) (by omega) (by rw [zt_len]; omega)).weaken (fun v post h => by rw [lv3, lv4, lk2_eq] at h; exact h)) [0, 0, 0, 0] [] rfl rfl [] (by rintro v post ⟨rfl, lcs1, uw1, h1, rfl⟩; exact ⟨_, rfl⟩) ?_
             rintro v post ⟨rfl, lcs1, uw1, h1, rfl⟩
             show GH _ _ _ _ _ _ _ [_, _, _, _, _, _] _
             refine GH_take 8 rfl rfl rfl rfl (by kernel_rfl) (by kernel_rfl) (by kernel_rfl) (fun _ _ => (V_assign rfl rfl)) ?_
             refine GH_take 9 rfl rfl rfl rfl (by kernel_rfl) (by kernel_rfl) (by kernel_rfl) (fun _ _ => (V_assign rfl rfl)) ?_
             refine GH_done (by kernel_rfl) ?_
             refine G_seq ?_
             refine G_region (l := [0, 1, 2, 3, 4, 5, 6, 7, 8]) rfl ?_
             refine G_val rfl rfl rfl rfl (V_move rfl rfl) ?_
             refine G_call (L2 := [_, _, _, _, _, _]) rfl rfl rfl rfl rfl rfl Tryd.call48 ((lg_replay d 8 lb lcap lcs1 uw1 lk2 h1 2 5 1 9 (by decide) lv5 (by omega) (by omega) (by omega)).weaken (fun v post h => by rw [show (5 : Int).toNat = 5 from rfl, lv7] at h; exact h)) [] [1, 2, 3] rfl rfl ?_
             rintro v post ⟨ur, hur, rfl, rfl⟩
             show G _ _ _ [_, _, _, _, _, _, _] _
             refine G_val rfl rfl rfl rfl (V_move rfl rfl) ?_
             refine G_val rfl rfl rfl rfl (V_extract rfl rfl rfl) ?_
             refine G_val rfl rfl rfl rfl (V_extract rfl rfl rfl) ?_
             refine G_val rfl rfl rfl rfl (V_extract rfl rfl rfl) ?_
             refine G_val rfl rfl rfl rfl (V_assign rfl rfl) ?_
             refine G_val rfl rfl rfl rfl (V_assign rfl rfl) ?_
             refine G_val rfl rfl rfl rfl (V_assign rfl rfl) ?_
             refine G_done ?_
             refine G_seq ?_
             refine G_region (l := [0, 1, 2, 3, 4, 5, 6, 7, 8, 9, 10, 11, 12, 13, 14, 15, 16, 17, 18, 19, 20, 21, 22, 23, 24, 25, 26, 27, 28, 29, 30, 31, 32, 33, 34, 35, 36, 37]) rfl ?_
             refine G_val rfl rfl rfl rfl (V_move rfl rfl) ?_
             refine G_call (L2 := [_, _, _, _, _, _, _]) rfl rfl rfl rfl rfl rfl Tryd.call37 (ll_num _) [] [] rfl rfl ?_
             rintro v post ⟨rfl, rfl⟩
             show G _ _ _ [_, _, _, _, _, _, _] _
             refine G_val rfl rfl rfl rfl (V_eql rfl rfl rfl) ?_
             refine G_val rfl rfl rfl rfl (V_move rfl rfl) ?_
             refine G_splitD 36 rfl (fun hc1 => ?_) (fun hc1 => ?_)
             rotate_left
             · (first | (exact absurd rfl hc1) | (exfalso; omega) | (exfalso; simp at hc1; done))
             refine G_val rfl rfl rfl rfl (V_move rfl rfl) ?_
             refine G_call (L2 := [_, _, _, _, _, _, _]) rfl rfl rfl rfl rfl rfl Tryd.call37 (ll_num _) [] [] rfl rfl ?_
             rintro v post ⟨rfl, rfl⟩
             show G _ _ _ [_, _, _, _, _, _, _] _
             refine G_val rfl rfl rfl rfl (V_eql rfl rfl rfl) ?_
             refine G_val rfl rfl rfl rfl (V_pickT rfl rfl rfl) ?_
             refine G_val rfl rfl rfl rfl (V_move rfl rfl) ?_
             refine G_splitD 41 rfl (fun hc2 => ?_) (fun hc2 => ?_)
             rotate_left
             · (first | (exact absurd rfl hc2) | (exfalso; omega) | (exfalso; simp at hc2; done))
             refine G_val rfl rfl rfl rfl (V_move rfl rfl) ?_
             refine G_call (L2 := [_, _, _, _, _, _, _]) rfl rfl rfl rfl rfl rfl Tryd.call37 (ll_num _) [] [] rfl rfl ?_
             rintro v post ⟨rfl, rfl⟩
             show G _ _ _ [_, _, _, _, _, _, _] _
             refine G_val rfl rfl rfl rfl (V_eql rfl rfl rfl) ?_
             refine G_val rfl rfl rfl rfl (V_pickT rfl rfl rfl) ?_
             refine G_val rfl rfl rfl rfl (V_move rfl rfl) ?_
             refine G_splitD 46 rfl (fun hc3 => ?_) (fun hc3 => ?_)
             rotate_left
             · (first | (exact absurd rfl hc3) | (exfalso; omega) | (exfalso; simp at hc3; done))
             refine G_val rfl rfl rfl rfl (V_move rfl rfl) ?_
             refine G_call (L2 := [_, _, _, _, _, _, _]) rfl rfl rfl rfl rfl rfl Tryd.call37 (ll_num _) [] [] rfl rfl ?_
             rintro v post ⟨rfl, rfl⟩
             show G _ _ _ [_, _, _, _, _, _, _] _
             refine G_val rfl rfl rfl rfl (V_eql rfl rfl rfl) ?_
             refine G_val rfl rfl rfl rfl (V_pickT rfl rfl rfl) ?_
             refine G_val rfl rfl rfl rfl (V_move rfl rfl) ?_
             refine G_splitD 51 rfl (fun hc4 => ?_) (fun hc4 => ?_)
             rotate_left
             · (first | (exact absurd rfl hc4) | (exfalso; omega) | (exfalso; simp at hc4; done))
             refine G_val rfl rfl rfl rfl (V_move rfl rfl) ?_
             refine G_call (L2 := [_, _, _, _, _, _, _]) rfl rfl rfl rfl rfl rfl Tryd.call44 (lg_at d g 2 5 7 3) [] [1] rfl rfl ?_
             rintro v post ⟨rfl, rfl⟩
             show G _ _ _ [_, _, _, _, _, _, _] _
             refine G_val rfl rfl rfl rfl (V_eql rfl rfl rfl) ?_
             refine G_val rfl rfl rfl rfl (V_pickT rfl rfl rfl) ?_
             refine G_val rfl rfl rfl rfl (V_move rfl rfl) ?_
             refine G_splitD 56 rfl (fun hc5 => ?_) (fun hc5 => ?_)
             rotate_left
             · (first | (exact absurd rfl hc5) | (exfalso; omega) | (exfalso; simp at hc5; done))
             refine G_val rfl rfl rfl rfl (V_move rfl rfl) ?_
             refine G_call (L2 := [_, _, _, _, _, _, _]) rfl rfl rfl rfl rfl rfl Tryd.call45 (lg_room d g 2 5 7 3 (by omega) (by omega) (by omega)) [] [1] rfl rfl ?_
             rintro v post ⟨rfl, rfl⟩
             show G _ _ _ [_, _, _, _, _, _, _] _
             refine G_val rfl rfl rfl rfl (V_eql rfl rfl rfl) ?_
             refine G_val rfl rfl rfl rfl (V_pickT rfl rfl rfl) ?_
             refine G_val rfl rfl rfl rfl (V_move rfl rfl) ?_
             refine G_splitD 61 rfl (fun hc6 => ?_) (fun hc6 => ?_)
             rotate_left
             · (first | (exact absurd rfl hc6) | (exfalso; omega) | (exfalso; simp at hc6; done))
             refine G_val rfl rfl rfl rfl (V_move rfl rfl) ?_
             refine G_val rfl rfl rfl rfl (V_len rfl rfl Tryd.underlying24 rfl) ?_
             refine G_val rfl rfl rfl rfl (V_eql rfl rfl rfl) ?_
             refine G_val rfl rfl rfl rfl (V_pickT rfl rfl rfl) ?_
             refine G_val rfl rfl rfl rfl (V_move rfl rfl) ?_
             refine G_splitD 66 rfl (fun hc7 => ?_) (fun hc7 => ?_)
             rotate_left
             · (first | (exact absurd rfl hc7) | (exfalso; omega) | (exfalso; simp at hc7; done))
             refine G_val rfl rfl rfl rfl (V_move rfl rfl) ?_
             refine G_val rfl rfl rfl rfl (V_eql rfl rfl rfl) ?_
             refine G_val rfl rfl rfl rfl (V_pickT rfl rfl rfl) ?_
             refine G_val rfl rfl rfl rfl (V_assign rfl rfl) ?_
             refine G_done ?_
             refine G_ret (post := []) Tryd.func34 rfl (RVs_cons (RV_tmp rfl) RVs_nil) [] rfl ?_
             dsimp only [packed]
             exact ⟨rfl, rfl⟩
       · skip
         refine GHop_val rfl rfl rfl rfl (V_bytesS (l := (zt 43)) rfl rfl Tryd.underlying27 Tryd.underlying5 Tryd.underlying9 (mem_at 0 rfl) (by rw [zt_len]) (zt_cells 43)) ?_
         refine GH_all [3] (by kernel_rfl) (by decide) ?_
         refine (And.intro ?_ trivial)
         · skip
           refine GHop_call (L2 := [_, _]) rfl rfl rfl rfl rfl rfl Tryd.call41 ((lg_append d 8 lb lcap lcs slNil (newD 8) h g 2 5 7 0 (zt 42) (by decide) (by omega) (by omega) (by omega) (new_W8) (by rw [zt_len]; omega)).weaken (fun v post h => by rw [lv1, lv2, lk1_eq] at h; exact h)) [2, 2, 2, 2] [] rfl rfl [] (by rintro v post ⟨rfl, lcs1, uw1, h1, rfl⟩; exact ⟨_, rfl⟩) ?_
           rintro v post ⟨rfl, lcs1, uw1, h1, rfl⟩
           show GH _ _ _ _ _ _ _ [_, _, _, _, _, _] _
           refine GH_all [7] (by kernel_rfl) (by decide) ?_
           refine (And.intro ?_ trivial)
           · skip
             refine GHop_call (L2 := [_, _]) rfl rfl rfl rfl rfl rfl Tryd.call41 ((lg_append d 8 lb lcap lcs1 uw1 lk1 h1 g 2 5 7 1 (zt 43) (by decide) (by omega) (by omega) (by omega) (by omega) (by rw [zt_len]; omega)).weaken (fun v post h => by rw [lv3, lv4, lk2_eq] at h; exact h)) [0, 0, 0, 0] [] rfl rfl [] (by rintro v post ⟨rfl, lcs1, uw1, h1, rfl⟩; exact ⟨_, rfl⟩) ?_
             rintro v post ⟨rfl, lcs1, uw1, h1, rfl⟩
             show GH _ _ _ _ _ _ _ [_, _, _, _, _, _] _
             refine GH_take 8 rfl rfl rfl rfl (by kernel_rfl) (by kernel_rfl) (by kernel_rfl) (fun _ _ => (V_assign rfl rfl)) ?_
             refine GH_take 9 rfl rfl rfl rfl (by kernel_rfl) (by kernel_rfl) (by kernel_rfl) (fun _ _ => (V_assign rfl rfl)) ?_
             refine GH_done (by kernel_rfl) ?_
             refine G_seq ?_
             refine G_region (l := [0, 1, 2, 3, 4, 5, 6, 7, 8]) rfl ?_
             refine G_val rfl rfl rfl rfl (V_move rfl rfl) ?_
             refine G_call (L2 := [_, _, _, _, _, _]) rfl rfl rfl rfl rfl rfl Tryd.call48 ((lg_replay d 8 lb lcap lcs1 uw1 lk2 h1 2 5 1 9 (by decide) lv5 (by omega) (by omega) (by omega)).weaken (fun v post h => by rw [show (5 : Int).toNat = 5 from rfl, lv7] at h; exact h)) [] [1, 2, 3] rfl rfl ?_
             rintro v post ⟨ur, hur, rfl, rfl⟩
             show G _ _ _ [_, _, _, _, _, _, _] _
             refine G_val rfl rfl rfl rfl (V_move rfl rfl) ?_
             refine G_val rfl rfl rfl rfl (V_extract rfl rfl rfl) ?_
             refine G_val rfl rfl rfl rfl (V_extract rfl rfl rfl) ?_
             refine G_val rfl rfl rfl rfl (V_extract rfl rfl rfl) ?_
             refine G_val rfl rfl rfl rfl (V_assign rfl rfl) ?_
             refine G_val rfl rfl rfl rfl (V_assign rfl rfl) ?_
             refine G_val rfl rfl rfl rfl (V_assign rfl rfl) ?_
             refine G_done ?_
             refine G_seq ?_
             refine G_region (l := [0, 1, 2, 3, 4, 5, 6, 7, 8, 9, 10, 11, 12, 13, 14, 15, 16, 17, 18, 19, 20, 21, 22, 23, 24, 25, 26, 27, 28, 29, 30, 31, 32, 33, 34, 35, 36, 37]) rfl ?_
             refine G_val rfl rfl rfl rfl (V_move rfl rfl) ?_
             refine G_call (L2 := [_, _, _, _, _, _, _]) rfl rfl rfl rfl rfl rfl Tryd.call37 (ll_num _) [] [] rfl rfl ?_
             rintro v post ⟨rfl, rfl⟩
             show G _ _ _ [_, _, _, _, _, _, _] _
             refine G_val rfl rfl rfl rfl (V_eql rfl rfl rfl) ?_
             refine G_val rfl rfl rfl rfl (V_move rfl rfl) ?_
             refine G_splitD 36 rfl (fun hc1 => ?_) (fun hc1 => ?_)
             rotate_left
             · (first | (exact absurd rfl hc1) | (exfalso; omega) | (exfalso; simp at hc1; done))
             refine G_val rfl rfl rfl rfl (V_move rfl rfl) ?_
             refine G_call (L2 := [_, _, _, _, _, _, _]) rfl rfl rfl rfl rfl rfl Tryd.call37 (ll_num _) [] [] rfl rfl ?_
             rintro v post ⟨rfl, rfl⟩
             show G _ _ _ [_, _, _, _, _, _, _] _
             refine G_val rfl rfl rfl rfl (V_eql rfl rfl rfl) ?_
             refine G_val rfl rfl rfl rfl (V_pickT rfl rfl rfl) ?_
             refine G_val rfl rfl rfl rfl (V_move rfl rfl) ?_
             refine G_splitD 41 rfl (fun hc2 => ?_) (fun hc2 => ?_)
             rotate_left
             · (first | (exact absurd rfl hc2) | (exfalso; omega) | (exfalso; simp at hc2; done))
             refine G_val rfl rfl rfl rfl (V_move rfl rfl) ?_
             refine G_call (L2 := [_, _, _, _, _, _, _]) rfl rfl rfl rfl rfl rfl Tryd.call37 (ll_num _) [] [] rfl rfl ?_
             rintro v post ⟨rfl, rfl⟩
             show G _ _ _ [_, _, _, _, _, _, _] _
             refine G_val rfl rfl rfl rfl (V_eql rfl rfl rfl) ?_
             refine G_val rfl rfl rfl rfl (V_pickT rfl rfl rfl) ?_
             refine G_val rfl rfl rfl rfl (V_move rfl rfl) ?_
             refine G_splitD 46 rfl (fun hc3 => ?_) (fun hc3 => ?_)
             rotate_left
             · (first | (exact absurd rfl hc3) | (exfalso; omega) | (exfalso; simp at hc3; done))
             refine G_val rfl rfl rfl rfl (V_move rfl rfl) ?_
             refine G_call (L2 := [_, _, _, _, _, _, _]) rfl rfl rfl rfl rfl rfl Tryd.call37 (ll_num _) [] [] rfl rfl ?_
             rintro v post ⟨rfl, rfl⟩
             show G _ _ _ [_, _, _, _, _, _, _] _
             refine G_val rfl rfl rfl rfl (V_eql rfl rfl rfl) ?_
             refine G_val rfl rfl rfl rfl (V_pickT rfl rfl rfl) ?_
             refine G_val rfl rfl rfl rfl (V_move rfl rfl) ?_
             refine G_splitD 51 rfl (fun hc4 => ?_) (fun hc4 => ?_)
             rotate_left
             · (first | (exact absurd rfl hc4) | (exfalso; omega) | (exfalso; simp at hc4; done))
             refine G_val rfl rfl rfl rfl (V_move rfl rfl) ?_
             refine G_call (L2 := [_, _, _, _, _, _, _]) rfl rfl rfl rfl rfl rfl Tryd.call44 (lg_at d g 2 5 7 3) [] [1] rfl rfl ?_
             rintro v post ⟨rfl, rfl⟩
             show G _ _ _ [_, _, _, _, _, _, _] _
             refine G_val rfl rfl rfl rfl (V_eql rfl rfl rfl) ?_
             refine G_val rfl rfl rfl rfl (V_pickT rfl rfl rfl) ?_
             refine G_val rfl rfl rfl rfl (V_move rfl rfl) ?_
             refine G_splitD 56 rfl (fun hc5 => ?_) (fun hc5 => ?_)
             rotate_left
             · (first | (exact absurd rfl hc5) | (exfalso; omega) | (exfalso; simp at hc5; done))
             refine G_val rfl rfl rfl rfl (V_move rfl rfl) ?_
             refine G_call (L2 := [_, _, _, _, _, _, _]) rfl rfl rfl rfl rfl rfl Tryd.call45 (lg_room d g 2 5 7 3 (by omega) (by omega) (by omega)) [] [1] rfl rfl ?_
             rintro v post ⟨rfl, rfl⟩
             show G _ _ _ [_, _, _, _, _, _, _] _
             refine G_val rfl rfl rfl rfl (V_eql rfl rfl rfl) ?_
             refine G_val rfl rfl rfl rfl (V_pickT rfl rfl rfl) ?_
             refine G_val rfl rfl rfl rfl (V_move rfl rfl) ?_
             refine G_splitD 61 rfl (fun hc6 => ?_) (fun hc6 => ?_)
             rotate_left
             · (first | (exact absurd rfl hc6) | (exfalso; omega) | (exfalso; simp at hc6; done))
             refine G_val rfl rfl rfl rfl (V_move rfl rfl) ?_
             refine G_val rfl rfl rfl rfl (V_len rfl rfl Tryd.underlying24 rfl) ?_
             refine G_val rfl rfl rfl rfl (V_eql rfl rfl rfl) ?_
             refine G_val rfl rfl rfl rfl (V_pickT rfl rfl rfl) ?_
             refine G_val rfl rfl rfl rfl (V_move rfl rfl) ?_
             refine G_splitD 66 rfl (fun hc7 => ?_) (fun hc7 => ?_)
             rotate_left
             · (first | (exact absurd rfl hc7) | (exfalso; omega) | (exfalso; simp at hc7; done))
             refine G_val rfl rfl rfl rfl (V_move rfl rfl) ?_
             refine G_val rfl rfl rfl rfl (V_eql rfl rfl rfl) ?_
             refine G_val rfl rfl rfl rfl (V_pickT rfl rfl rfl) ?_
             refine G_val rfl rfl rfl rfl (V_assign rfl rfl) ?_
             refine G_done ?_
             refine G_ret (post := []) Tryd.func34 rfl (RVs_cons (RV_tmp rfl) RVs_nil) [] rfl ?_
             dsimp only [packed]
             exact ⟨rfl, rfl⟩
     · skip
       refine GHop_val rfl rfl rfl rfl (V_bytesS (l := (zt 43)) rfl rfl Tryd.underlying27 Tryd.underlying5 Tryd.underlying9 (mem_at 0 rfl) (by rw [zt_len]) (zt_cells 43)) ?_
       refine GH_all [2] (by kernel_rfl) (by decide) ?_
       refine (And.intro ?_ trivial)
       · skip
         refine GHop_val rfl rfl rfl rfl (V_bytesS (l := (zt 42)) rfl rfl Tryd.underlying27 Tryd.underlying5 Tryd.underlying9 (mem_at 1 rfl) (by rw [zt_len]) (zt_cells 42)) ?_
         refine GH_all [3] (by kernel_rfl) (by decide) ?_
         refine (And.intro ?_ trivial)
         · skip
           refine GHop_call (L2 := [_, _]) rfl rfl rfl rfl rfl rfl Tryd.call41 ((lg_append d 8 lb lcap lcs slNil (newD 8) h g 2 5 7 0 (zt 42) (by decide) (by omega) (by omega) (by omega) (new_W8) (by rw [zt_len]; omega)).weaken (fun v post h => by rw [lv1, lv2, lk1_eq] at h; exact h)) [2, 2, 2, 2] [] rfl rfl [] (by rintro v post ⟨rfl, lcs1, uw1, h1, rfl⟩; exact ⟨_, rfl⟩) ?_
           rintro v post ⟨rfl, lcs1, uw1, h1, rfl⟩
           show GH _ _ _ _ _ _ _ [_, _, _, _, _, _] _
           refine GH_all [7] (by kernel_rfl) (by decide) ?_
           refine (And.intro ?_ trivial)
           · skip
             refine GHop_call (L2 := [_, _]) rfl rfl rfl rfl rfl rfl Tryd.call41 ((lg_append d 8 lb lcap lcs1 uw1 lk1 h1 g 2 5 7 1 (zt 43) (by decide) (by omega) (by omega) (by omega) (by omega) (by rw [zt_len]; omega)).weaken (fun v post h => by rw [lv3, lv4, lk2_eq] at h; exact h)) [0, 0, 0, 0] [] rfl rfl [] (by rintro v post ⟨rfl, lcs1, uw1, h1, rfl⟩; exact ⟨_, rfl⟩) ?_
             rintro v post ⟨rfl, lcs1, uw1, h1, rfl⟩
             show GH _ _ _ _ _ _ _ [_, _, _, _, _, _] _
             refine GH_take 8 rfl rfl rfl rfl (by kernel_rfl) (by kernel_rfl) (by kernel_rfl) (fun _ _ => (V_assign rfl rfl)) ?_
             refine GH_take 9 rfl rfl rfl rfl (by kernel_rfl) (by kernel_rfl) (by kernel_rfl) (fun _ _ => (V_assign rfl rfl)) ?_
             refine GH_done (by kernel_rfl) ?_
             refine G_seq ?_
             refine G_region (l := [0, 1, 2, 3, 4, 5, 6, 7, 8]) rfl ?_
             refine G_val rfl rfl rfl rfl (V_move rfl rfl) ?_
             refine G_call (L2 := [_, _, _, _, _, _]) rfl rfl rfl rfl rfl rfl Tryd.call48 ((lg_replay d 8 lb lcap lcs1 uw1 lk2 h1 2 5 1 9 (by decide) lv5 (by omega) (by omega) (by omega)).weaken (fun v post h => by rw [show (5 : Int).toNat = 5 from rfl, lv7] at h; exact h)) [] [1, 2, 3] rfl rfl ?_
             rintro v post ⟨ur, hur, rfl, rfl⟩
             show G _ _ _ [_, _, _, _, _, _, _] _
             refine G_val rfl rfl rfl rfl (V_move rfl rfl) ?_
             refine G_val rfl rfl rfl rfl (V_extract rfl rfl rfl) ?_
             refine G_val rfl rfl rfl rfl (V_extract rfl rfl rfl) ?_
             refine G_val rfl rfl rfl rfl (V_extract rfl rfl rfl) ?_
             refine G_val rfl rfl rfl rfl (V_assign rfl rfl) ?_
             refine G_val rfl rfl rfl rfl (V_assign rfl rfl) ?_
             refine G_val rfl rfl rfl rfl (V_assign rfl rfl) ?_
             refine G_done ?_
             refine G_seq ?_
             refine G_region (l := [0, 1, 2, 3, 4, 5, 6, 7, 8, 9, 10, 11, 12, 13, 14, 15, 16, 17, 18, 19, 20, 21, 22, 23, 24, 25, 26, 27, 28, 29, 30, 31, 32, 33, 34, 35, 36, 37]) rfl ?_
             refine G_val rfl rfl rfl rfl (V_move rfl rfl) ?_
             refine G_call (L2 := [_, _, _, _, _, _, _]) rfl rfl rfl rfl rfl rfl Tryd.call37 (ll_num _) [] [] rfl rfl ?_
             rintro v post ⟨rfl, rfl⟩
             show G _ _ _ [_, _, _, _, _, _, _] _
             refine G_val rfl rfl rfl rfl (V_eql rfl rfl rfl) ?_
             refine G_val rfl rfl rfl rfl (V_move rfl rfl) ?_
             refine G_splitD 36 rfl (fun hc1 => ?_) (fun hc1 => ?_)
             rotate_left
             · (first | (exact absurd rfl hc1) | (exfalso; omega) | (exfalso; simp at hc1; done))
             refine G_val rfl rfl rfl rfl (V_move rfl rfl) ?_
             refine G_call (L2 := [_, _, _, _, _, _, _]) rfl rfl rfl rfl rfl rfl Tryd.call37 (ll_num _) [] [] rfl rfl ?_
             rintro v post ⟨rfl, rfl⟩
             show G _ _ _ [_, _, _, _, _, _, _] _
             refine G_val rfl rfl rfl rfl (V_eql rfl rfl rfl) ?_
             refine G_val rfl rfl rfl rfl (V_pickT rfl rfl rfl) ?_
             refine G_val rfl rfl rfl rfl (V_move rfl rfl) ?_
             refine G_splitD 41 rfl (fun hc2 => ?_) (fun hc2 => ?_)
             rotate_left
             · (first | (exact absurd rfl hc2) | (exfalso; omega) | (exfalso; simp at hc2; done))
             refine G_val rfl rfl rfl rfl (V_move rfl rfl) ?_
             refine G_call (L2 := [_, _, _, _, _, _, _]) rfl rfl rfl rfl rfl rfl Tryd.call37 (ll_num _) [] [] rfl rfl ?_
             rintro v post ⟨rfl, rfl⟩
             show G _ _ _ [_, _, _, _, _, _, _] _
             refine G_val rfl rfl rfl rfl (V_eql rfl rfl rfl) ?_
             refine G_val rfl rfl rfl rfl (V_pickT rfl rfl rfl) ?_
             refine G_val rfl rfl rfl rfl (V_move rfl rfl) ?_
             refine G_splitD 46 rfl (fun hc3 => ?_) (fun hc3 => ?_)
             rotate_left
             · (first | (exact absurd rfl hc3) | (exfalso; omega) | (exfalso; simp at hc3; done))
             refine G_val rfl rfl rfl rfl (V_move rfl rfl) ?_
             refine G_call (L2 := [_, _, _, _, _, _, _]) rfl rfl rfl rfl rfl rfl Tryd.call37 (ll_num _) [] [] rfl rfl ?_
             rintro v post ⟨rfl, rfl⟩
             show G _ _ _ [_, _, _, _, _, _, _] _
             refine G_val rfl rfl rfl rfl (V_eql rfl rfl rfl) ?_
             refine G_val rfl rfl rfl rfl (V_pickT rfl rfl rfl) ?_
             refine G_val rfl rfl rfl rfl (V_move rfl rfl) ?_
             refine G_splitD 51 rfl (fun hc4 => ?_) (fun hc4 => ?_)
             rotate_left
             · (first | (exact absurd rfl hc4) | (exfalso; omega) | (exfalso; simp at hc4; done))
             refine G_val rfl rfl rfl rfl (V_move rfl rfl) ?_
             refine G_call (L2 := [_, _, _, _, _, _, _]) rfl rfl rfl rfl rfl rfl Tryd.call44 (lg_at d g 2 5 7 3) [] [1] rfl rfl ?_
             rintro v post ⟨rfl, rfl⟩
             show G _ _ _ [_, _, _, _, _, _, _] _
             refine G_val rfl rfl rfl rfl (V_eql rfl rfl rfl) ?_
             refine G_val rfl rfl rfl rfl (V_pickT rfl rfl rfl) ?_
             refine G_val rfl rfl rfl rfl (V_move rfl rfl) ?_
             refine G_splitD 56 rfl (fun hc5 => ?_) (fun hc5 => ?_)
             rotate_left
             · (first | (exact absurd rfl hc5) | (exfalso; omega) | (exfalso; simp at hc5; done))
             refine G_val rfl rfl rfl rfl (V_move rfl rfl) ?_
             refine G_call (L2 := [_, _, _, _, _, _, _]) rfl rfl rfl rfl rfl rfl Tryd.call45 (lg_room d g 2 5 7 3 (by omega) (by omega) (by omega)) [] [1] rfl rfl ?_
             rintro v post ⟨rfl, rfl⟩
             show G _ _ _ [_, _, _, _, _, _, _] _
             refine G_val rfl rfl rfl rfl (V_eql rfl rfl rfl) ?_
             refine G_val rfl rfl rfl rfl (V_pickT rfl rfl rfl) ?_
             refine G_val rfl rfl rfl rfl (V_move rfl rfl) ?_
             refine G_splitD 61 rfl (fun hc6 => ?_) (fun hc6 => ?_)
             rotate_left
             · (first | (exact absurd rfl hc6) | (exfalso; omega) | (exfalso; simp at hc6; done))
             refine G_val rfl rfl rfl rfl (V_move rfl rfl) ?_
             refine G_val rfl rfl rfl rfl (V_len rfl rfl Tryd.underlying24 rfl) ?_
             refine G_val rfl rfl rfl rfl (V_eql rfl rfl rfl) ?_
             refine G_val rfl rfl rfl rfl (V_pickT rfl rfl rfl) ?_
             refine G_val rfl rfl rfl rfl (V_move rfl rfl) ?_
             refine G_splitD 66 rfl (fun hc7 => ?_) (fun hc7 => ?_)
             rotate_left
             · (first | (exact absurd rfl hc7) | (exfalso; omega) | (exfalso; simp at hc7; done))
             refine G_val rfl rfl rfl rfl (V_move rfl rfl) ?_
             refine G_val rfl rfl rfl rfl (V_eql rfl rfl rfl) ?_
             refine G_val rfl rfl rfl rfl (V_pickT rfl rfl rfl) ?_
             refine G_val rfl rfl rfl rfl (V_assign rfl rfl) ?_
             refine G_done ?_
             refine G_ret (post := []) Tryd.func34 rfl (RVs_cons (RV_tmp rfl) RVs_nil) [] rfl ?_
             dsimp only [packed]
             exact ⟨rfl, rfl⟩
 · skip
   refine GHop_new rfl rfl rfl rfl (N_make (l := 43) (m := 43) rfl Tryd.underlying27 infLogL_5 rfl rfl rfl rfl rfl rfl rfl (by first | decide | omega) (by first | decide | omega | (show 1 * _ ≤ _; omega)) (by first | decide | omega)) [] (fun _ => ⟨_, rfl⟩) (fun b24 => ?_)
   refine GH_all [1, 6] (by kernel_rfl) (by decide) ?_
   refine (And.intro ?_ (And.intro ?_ trivial))
   · skip
     refine GHop_new rfl rfl rfl rfl (N_make (l := 42) (m := 42) rfl Tryd.underlying27 infLogL_5 rfl rfl rfl rfl rfl rfl rfl (by first | decide | omega) (by first | decide | omega | (show 1 * _ ≤ _; omega)) (by first | decide | omega)) [] (fun _ => ⟨_, rfl⟩) (fun b20 => ?_)
     refine GH_all [2, 6] (by kernel_rfl) (by decide) ?_
     refine (And.intro ?_ (And.intro ?_ trivial))
     · skip
       refine GHop_val rfl rfl rfl rfl (V_bytesS (l := (zt 42)) rfl rfl Tryd.underlying27 Tryd.underlying5 Tryd.underlying9 (mem_at 0 rfl) (by rw [zt_len]) (zt_cells 42)) ?_
       refine GH_all [3, 6] (by kernel_rfl) (by decide) ?_
       refine (And.intro ?_ (And.intro ?_ trivial))
       · skip
         refine GHop_call (L2 := [_, _]) rfl rfl rfl rfl rfl rfl Tryd.call41 ((lg_append d 8 lb lcap lcs slNil (newD 8) h g 2 5 7 0 (zt 42) (by decide) (by omega) (by omega) (by omega) (new_W8) (by rw [zt_len]; omega)).weaken (fun v post h => by rw [lv1, lv2, lk1_eq] at h; exact h)) [2, 2, 2, 2] [] rfl rfl [] (by rintro v post ⟨rfl, lcs1, uw1, h1, rfl⟩; exact ⟨_, rfl⟩) ?_
         rintro v post ⟨rfl, lcs1, uw1, h1, rfl⟩
         show GH _ _ _ _ _ _ _ [_, _, _, _, _, _] _
         refine GH_all [6] (by kernel_rfl) (by decide) ?_
         refine (And.intro ?_ trivial)
         · skip
           refine GHop_val rfl rfl rfl rfl (V_bytesS (l := (zt 43)) rfl rfl Tryd.underlying27 Tryd.underlying5 Tryd.underlying9 (mem_at 5 rfl) (by rw [zt_len]) (zt_cells 43)) ?_
           refine GH_all [7] (by kernel_rfl) (by decide) ?_
           refine (And.intro ?_ trivial)
           · skip
             refine GHop_call (L2 := [_, _]) rfl rfl rfl rfl rfl rfl Tryd.call41 ((lg_append d 8 lb lcap lcs1 uw1 lk1 h1 g 2 5 7 1 (zt 43) (by decide) (by omega) (by omega) (by omega) (by omega) (by rw [zt_len]; omega)).weaken (fun v post h => by rw [lv3, lv4, lk2_eq] at h; exact h)) [0, 0, 0, 0] [] rfl rfl [] (by rintro v post ⟨rfl, lcs1, uw1, h1, rfl⟩; exact ⟨_, rfl⟩) ?_
             rintro v post ⟨rfl, lcs1, uw1, h1, rfl⟩
             show GH _ _ _ _ _ _ _ [_, _, _, _, _, _] _
             refine GH_take 8 rfl rfl rfl rfl (by kernel_rfl) (by kernel_rfl) (by kernel_rfl) (fun _ _ => (V_assign rfl rfl)) ?_
             refine GH_take 9 rfl rfl rfl rfl (by kernel_rfl) (by kernel_rfl) (by kernel_rfl) (fun _ _ => (V_assign rfl rfl)) ?_
             refine GH_done (by kernel_rfl) ?_
             refine G_seq ?_
             refine G_region (l := [0, 1, 2, 3, 4, 5, 6, 7, 8]) rfl ?_
             refine G_val rfl rfl rfl rfl (V_move rfl rfl) ?_
             refine G_call (L2 := [_, _, _, _, _, _]) rfl rfl rfl rfl rfl rfl Tryd.call48 ((lg_replay d 8 lb lcap lcs1 uw1 lk2 h1 2 5 1 9 (by decide) lv5 (by omega) (by omega) (by omega)).weaken (fun v post h => by rw [show (5 : Int).toNat = 5 from rfl, lv7] at h; exact h)) [] [1, 2, 3] rfl rfl ?_
             rintro v post ⟨ur, hur, rfl, rfl⟩
             show G _ _ _ [_, _, _, _, _, _, _] _
             refine G_val rfl rfl rfl rfl (V_move rfl rfl) ?_
             refine G_val rfl rfl rfl rfl (V_extract rfl rfl rfl) ?_
             refine G_val rfl rfl rfl rfl (V_extract rfl rfl rfl) ?_
             refine G_val rfl rfl rfl rfl (V_extract rfl rfl rfl) ?_
             refine G_val rfl rfl rfl rfl (V_assign rfl rfl) ?_
             refine G_val rfl rfl rfl rfl (V_assign rfl rfl) ?_
             refine G_val rfl rfl rfl rfl (V_assign rfl rfl) ?_
             refine G_done ?_
             refine G_seq ?_
             refine G_region (l := [0, 1, 2, 3, 4, 5, 6, 7, 8, 9, 10, 11, 12, 13, 14, 15, 16, 17, 18, 19, 20, 21, 22, 23, 24, 25, 26, 27, 28, 29, 30, 31, 32, 33, 34, 35, 36, 37]) rfl ?_
             refine G_val rfl rfl rfl rfl (V_move rfl rfl) ?_
             refine G_call (L2 := [_, _, _, _, _, _, _]) rfl rfl rfl rfl rfl rfl Tryd.call37 (ll_num _) [] [] rfl rfl ?_
             rintro v post ⟨rfl, rfl⟩
             show G _ _ _ [_, _, _, _, _, _, _] _
             refine G_val rfl rfl rfl rfl (V_eql rfl rfl rfl) ?_
             refine G_val rfl rfl rfl rfl (V_move rfl rfl) ?_
             refine G_splitD 36 rfl (fun hc1 => ?_) (fun hc1 => ?_)
             rotate_left
             · (first | (exact absurd rfl hc1) | (exfalso; omega) | (exfalso; simp at hc1; done))
             refine G_val rfl rfl rfl rfl (V_move rfl rfl) ?_
             refine G_call (L2 := [_, _, _, _, _, _, _]) rfl rfl rfl rfl rfl rfl Tryd.call37 (ll_num _) [] [] rfl rfl ?_
             rintro v post ⟨rfl, rfl⟩
             show G _ _ _ [_, _, _, _, _, _, _] _
             refine G_val rfl rfl rfl rfl (V_eql rfl rfl rfl) ?_
             refine G_val rfl rfl rfl rfl (V_pickT rfl rfl rfl) ?_
             refine G_val rfl rfl rfl rfl (V_move rfl rfl) ?_
             refine G_splitD 41 rfl (fun hc2 => ?_) (fun hc2 => ?_)
             rotate_left
             · (first | (exact absurd rfl hc2) | (exfalso; omega) | (exfalso; simp at hc2; done))
             refine G_val rfl rfl rfl rfl (V_move rfl rfl) ?_
             refine G_call (L2 := [_, _, _, _, _, _, _]) rfl rfl rfl rfl rfl rfl Tryd.call37 (ll_num _) [] [] rfl rfl ?_
             rintro v post ⟨rfl, rfl⟩
             show G _ _ _ [_, _, _, _, _, _, _] _
             refine G_val rfl rfl rfl rfl (V_eql rfl rfl rfl) ?_
             refine G_val rfl rfl rfl rfl (V_pickT rfl rfl rfl) ?_
             refine G_val rfl rfl rfl rfl (V_move rfl rfl) ?_
             refine G_splitD 46 rfl (fun hc3 => ?_) (fun hc3 => ?_)
             rotate_left
             · (first | (exact absurd rfl hc3) | (exfalso; omega) | (exfalso; simp at hc3; done))
             refine G_val rfl rfl rfl rfl (V_move rfl rfl) ?_
             refine G_call (L2 := [_, _, _, _, _, _, _]) rfl rfl rfl rfl rfl rfl Tryd.call37 (ll_num _) [] [] rfl rfl ?_
             rintro v post ⟨rfl, rfl⟩
             show G _ _ _ [_, _, _, _, _, _, _] _
             refine G_val rfl rfl rfl rfl (V_eql rfl rfl rfl) ?_
             refine G_val rfl rfl rfl rfl (V_pickT rfl rfl rfl) ?_
             refine G_val rfl rfl rfl rfl (V_move rfl rfl) ?_
             refine G_splitD 51 rfl (fun hc4 => ?_) (fun hc4 => ?_)
             rotate_left
             · (first | (exact absurd rfl hc4) | (exfalso; omega) | (exfalso; simp at hc4; done))
             refine G_val rfl rfl rfl rfl (V_move rfl rfl) ?_
             refine G_call (L2 := [_, _, _, _, _, _, _]) rfl rfl rfl rfl rfl rfl Tryd.call44 (lg_at d g 2 5 7 3) [] [1] rfl rfl ?_
             rintro v post ⟨rfl, rfl⟩
             show G _ _ _ [_, _, _, _, _, _, _] _
             refine G_val rfl rfl rfl rfl (V_eql rfl rfl rfl) ?_
             refine G_val rfl rfl rfl rfl (V_pickT rfl rfl rfl) ?_
             refine G_val rfl rfl rfl rfl (V_move rfl rfl) ?_
             refine G_splitD 56 rfl (fun hc5 => ?_) (fun hc5 => ?_)
             rotate_left
             · (first | (exact absurd rfl hc5) | (exfalso; omega) | (exfalso; simp at hc5; done))
             refine G_val rfl rfl rfl rfl (V_move rfl rfl) ?_
             refine G_call (L2 := [_, _, _, _, _, _, _]) rfl rfl rfl rfl rfl rfl Tryd.call45 (lg_room d g 2 5 7 3 (by omega) (by omega) (by omega)) [] [1] rfl rfl ?_
             rintro v post ⟨rfl, rfl⟩
             show G _ _ _ [_, _, _, _, _, _, _] _
             refine G_val rfl rfl rfl rfl (V_eql rfl rfl rfl) ?_
             refine G_val rfl rfl rfl rfl (V_pickT rfl rfl rfl) ?_
             refine G_val rfl rfl rfl rfl (V_move rfl rfl) ?_
             refine G_splitD 61 rfl (fun hc6 => ?_) (fun hc6 => ?_)
             rotate_left
             · (first | (exact absurd rfl hc6) | (exfalso; omega) | (exfalso; simp at hc6; done))
             refine G_val rfl rfl rfl rfl (V_move rfl rfl) ?_
             refine G_val rfl rfl rfl rfl (V_len rfl rfl Tryd.underlying24 rfl) ?_
             refine G_val rfl rfl rfl rfl (V_eql rfl rfl rfl) ?_
             refine G_val rfl rfl rfl rfl (V_pickT rfl rfl rfl) ?_
             refine G_val rfl rfl rfl rfl (V_move rfl rfl) ?_
             refine G_splitD 66 rfl (fun hc7 => ?_) (fun hc7 => ?_)
             rotate_left
             · (first | (exact absurd rfl hc7) | (exfalso; omega) | (exfalso; simp at hc7; done))
             refine G_val rfl rfl rfl rfl (V_move rfl rfl) ?_
             refine G_val rfl rfl rfl rfl (V_eql rfl rfl rfl) ?_
             refine G_val rfl rfl rfl rfl (V_pickT rfl rfl rfl) ?_
             refine G_val rfl rfl rfl rfl (V_assign rfl rfl) ?_
             refine G_done ?_
             refine G_ret (post := []) Tryd.func34 rfl (RVs_cons (RV_tmp rfl) RVs_nil) [] rfl ?_
             dsimp only [packed]
             exact ⟨rfl, rfl⟩
       · skip
         refine GHop_val rfl rfl rfl rfl (V_bytesS (l := (zt 43)) rfl rfl Tryd.underlying27 Tryd.underlying5 Tryd.underlying9 (mem_at 1 rfl) (by rw [zt_len]) (zt_cells 43)) ?_
         refine GH_all [3] (by kernel_rfl) (by decide) ?_
         refine (And.intro ?_ trivial)
         · skip
           refine GHop_call (L2 := [_, _]) rfl rfl rfl rfl rfl rfl Tryd.call41 ((lg_append d 8 lb lcap lcs slNil (newD 8) h g 2 5 7 0 (zt 42) (by decide) (by omega) (by omega) (by omega) (new_W8) (by rw [zt_len]; omega)).weaken (fun v post h => by rw [lv1, lv2, lk1_eq] at h; exact h)) [2, 2, 2, 2] [] rfl rfl [] (by rintro v post ⟨rfl, lcs1, uw1, h1, rfl⟩; exact ⟨_, rfl⟩) ?_
           rintro v post ⟨rfl, lcs1, uw1, h1, rfl⟩
           show GH _ _ _ _ _ _ _ [_, _, _, _, _, _] _
           refine GH_all [7] (by kernel_rfl) (by decide) ?_
           refine (And.intro ?_ trivial)
           · skip
             refine GHop_call (L2 := [_, _]) rfl rfl rfl rfl rfl rfl Tryd.call41 ((lg_append d 8 lb lcap lcs1 uw1 lk1 h1 g 2 5 7 1 (zt 43) (by decide) (by omega) (by omega) (by omega) (by omega) (by rw [zt_len]; omega)).weaken (fun v post h => by rw [lv3, lv4, lk2_eq] at h; exact h)) [0, 0, 0, 0] [] rfl rfl [] (by rintro v post ⟨rfl, lcs1, uw1, h1, rfl⟩; exact ⟨_, rfl⟩) ?_
             rintro v post ⟨rfl, lcs1, uw1, h1, rfl⟩
             show GH _ _ _ _ _ _ _ [_, _, _, _, _, _] _
             refine GH_take 8 rfl rfl rfl rfl (by kernel_rfl) (by kernel_rfl) (by kernel_rfl) (fun _ _ => (V_assign rfl rfl)) ?_
             refine GH_take 9 rfl rfl rfl rfl (by kernel_rfl) (by kernel_rfl) (by kernel_rfl) (fun _ _ => (V_assign rfl rfl)) ?_
             refine GH_done (by kernel_rfl) ?_
             refine G_seq ?_
             refine G_region (l := [0, 1, 2, 3, 4, 5, 6, 7, 8]) rfl ?_
             refine G_val rfl rfl rfl rfl (V_move rfl rfl) ?_
             refine G_call (L2 := [_, _, _, _, _, _]) rfl rfl rfl rfl rfl rfl Tryd.call48 ((lg_replay d 8 lb lcap lcs1 uw1 lk2 h1 2 5 1 9 (by decide) lv5 (by omega) (by omega) (by omega)).weaken (fun v post h => by rw [show (5 : Int).toNat = 5 from rfl, lv7] at h; exact h)) [] [1, 2, 3] rfl rfl ?_
             rintro v post ⟨ur, hur, rfl, rfl⟩
             show G _ _ _ [_, _, _, _, _, _, _] _
             refine G_val rfl rfl rfl rfl (V_move rfl rfl) ?_
             refine G_val rfl rfl rfl rfl (V_extract rfl rfl rfl) ?_
             refine G_val rfl rfl rfl rfl (V_extract rfl rfl rfl) ?_
             refine G_val rfl rfl rfl rfl (V_extract rfl rfl rfl) ?_
             refine G_val rfl rfl rfl rfl (V_assign rfl rfl) ?_
             refine G_val rfl rfl rfl rfl (V_assign rfl rfl) ?_
             refine G_val rfl rfl rfl rfl (V_assign rfl rfl) ?_
             refine G_done ?_
             refine G_seq ?_
             refine G_region (l := [0, 1, 2, 3, 4, 5, 6, 7, 8, 9, 10, 11, 12, 13, 14, 15, 16, 17, 18, 19, 20, 21, 22, 23, 24, 25, 26, 27, 28, 29, 30, 31, 32, 33, 34, 35, 36, 37]) rfl ?_
             refine G_val rfl rfl rfl rfl (V_move rfl rfl) ?_
             refine G_call (L2 := [_, _, _, _, _, _, _]) rfl rfl rfl rfl rfl rfl Tryd.call37 (ll_num _) [] [] rfl rfl ?_
             rintro v post ⟨rfl, rfl⟩
             show G _ _ _ [_, _, _, _, _, _, _] _
             refine G_val rfl rfl rfl rfl (V_eql rfl rfl rfl) ?_
             refine G_val rfl rfl rfl rfl (V_move rfl rfl) ?_
             refine G_splitD 36 rfl (fun hc1 => ?_) (fun hc1 => ?_)
             rotate_left
             · (first | (exact absurd rfl hc1) | (exfalso; omega) | (exfalso; simp at hc1; done))
             refine G_val rfl rfl rfl rfl (V_move rfl rfl) ?_
             refine G_call (L2 := [_, _, _, _, _, _, _]) rfl rfl rfl rfl rfl rfl Tryd.call37 (ll_num _) [] [] rfl rfl ?_
             rintro v post ⟨rfl, rfl⟩
             show G _ _ _ [_, _, _, _, _, _, _] _
             refine G_val rfl rfl rfl rfl (V_eql rfl rfl rfl) ?_
             refine G_val rfl rfl rfl rfl (V_pickT rfl rfl rfl) ?_
             refine G_val rfl rfl rfl rfl (V_move rfl rfl) ?_
             refine G_splitD 41 rfl (fun hc2 => ?_) (fun hc2 => ?_)
             rotate_left
             · (first | (exact absurd rfl hc2) | (exfalso; omega) | (exfalso; simp at hc2; done))
             refine G_val rfl rfl rfl rfl (V_move rfl rfl) ?_
             refine G_call (L2 := [_, _, _, _, _, _, _]) rfl rfl rfl rfl rfl rfl Tryd.call37 (ll_num _) [] [] rfl rfl ?_
             rintro v post ⟨rfl, rfl⟩
             show G _ _ _ [_, _, _, _, _, _, _] _
             refine G_val rfl rfl rfl rfl (V_eql rfl rfl rfl) ?_
             refine G_val rfl rfl rfl rfl (V_pickT rfl rfl rfl) ?_
             refine G_val rfl rfl rfl rfl (V_move rfl rfl) ?_
             refine G_splitD 46 rfl (fun hc3 => ?_) (fun hc3 => ?_)
             rotate_left
             · (first | (exact absurd rfl hc3) | (exfalso; omega) | (exfalso; simp at hc3; done))
             refine G_val rfl rfl rfl rfl (V_move rfl rfl) ?_
             refine G_call (L2 := [_, _, _, _, _, _, _]) rfl rfl rfl rfl rfl rfl Tryd.call37 (ll_num _) [] [] rfl rfl ?_
             rintro v post ⟨rfl, rfl⟩
             show G _ _ _ [_, _, _, _, _, _, _] _
             refine G_val rfl rfl rfl rfl (V_eql rfl rfl rfl) ?_
             refine G_val rfl rfl rfl rfl (V_pickT rfl rfl rfl) ?_
             refine G_val rfl rfl rfl rfl (V_move rfl rfl) ?_
             refine G_splitD 51 rfl (fun hc4 => ?_) (fun hc4 => ?_)
             rotate_left
             · (first | (exact absurd rfl hc4) | (exfalso; omega) | (exfalso; simp at hc4; done))
             refine G_val rfl rfl rfl rfl (V_move rfl rfl) ?_
             refine G_call (L2 := [_, _, _, _, _, _, _]) rfl rfl rfl rfl rfl rfl Tryd.call44 (lg_at d g 2 5 7 3) [] [1] rfl rfl ?_
             rintro v post ⟨rfl, rfl⟩
             show G _ _ _ [_, _, _, _, _, _, _] _
             refine G_val rfl rfl rfl rfl (V_eql rfl rfl rfl) ?_
             refine G_val rfl rfl rfl rfl (V_pickT rfl rfl rfl) ?_
             refine G_val rfl rfl rfl rfl (V_move rfl rfl) ?_
             refine G_splitD 56 rfl (fun hc5 => ?_) (fun hc5 => ?_)
             rotate_left
             · (first | (exact absurd rfl hc5) | (exfalso; omega) | (exfalso; simp at hc5; done))
             refine G_val rfl rfl rfl rfl (V_move rfl rfl) ?_
             refine G_call (L2 := [_, _, _, _, _, _, _]) rfl rfl rfl rfl rfl rfl Tryd.call45 (lg_room d g 2 5 7 3 (by omega) (by omega) (by omega)) [] [1] rfl rfl ?_
             rintro v post ⟨rfl, rfl⟩
             show G _ _ _ [_, _, _, _, _, _, _] _
             refine G_val rfl rfl rfl rfl (V_eql rfl rfl rfl) ?_
             refine G_val rfl rfl rfl rfl (V_pickT rfl rfl rfl) ?_
             refine G_val rfl rfl rfl rfl (V_move rfl rfl) ?_
             refine G_splitD 61 rfl (fun hc6 => ?_) (fun hc6 => ?_)
             rotate_left
             · (first | (exact absurd rfl hc6) | (exfalso; omega) | (exfalso; simp at hc6; done))
             refine G_val rfl rfl rfl rfl (V_move rfl rfl) ?_
             refine G_val rfl rfl rfl rfl (V_len rfl rfl Tryd.underlying24 rfl) ?_
             refine G_val rfl rfl rfl rfl (V_eql rfl rfl rfl) ?_
             refine G_val rfl rfl rfl rfl (V_pickT rfl rfl rfl) ?_
             refine G_val rfl rfl rfl rfl (V_move rfl rfl) ?_
             refine G_splitD 66 rfl (fun hc7 => ?_) (fun hc7 => ?_)
             rotate_left
             · (first | (exact absurd rfl hc7) | (exfalso; omega) | (exfalso; simp at hc7; done))
             refine G_val rfl rfl rfl rfl (V_move rfl rfl) ?_
             refine G_val rfl rfl rfl rfl (V_eql rfl rfl rfl) ?_
             refine G_val rfl rfl rfl rfl (V_pickT rfl rfl rfl) ?_
             refine G_val rfl rfl rfl rfl (V_assign rfl rfl) ?_
             refine G_done ?_
             refine G_ret (post := []) Tryd.func34 rfl (RVs_cons (RV_tmp rfl) RVs_nil) [] rfl ?_
             dsimp only [packed]
             exact ⟨rfl, rfl⟩
     · skip
       refine GHop_val rfl rfl rfl rfl (V_bytesS (l := (zt 43)) rfl rfl Tryd.underlying27 Tryd.underlying5 Tryd.underlying9 (mem_at 1 rfl) (by rw [zt_len]) (zt_cells 43)) ?_
       refine GH_all [2] (by kernel_rfl) (by decide) ?_
       refine (And.intro ?_ trivial)
       · skip
         refine GHop_val rfl rfl rfl rfl (V_bytesS (l := (zt 42)) rfl rfl Tryd.underlying27 Tryd.underlying5 Tryd.underlying9 (mem_at 0 rfl) (by rw [zt_len]) (zt_cells 42)) ?_
         refine GH_all [3] (by kernel_rfl) (by decide) ?_
         refine (And.intro ?_ trivial)
         · skip
           refine GHop_call (L2 := [_, _]) rfl rfl rfl rfl rfl rfl Tryd.call41 ((lg_append d 8 lb lcap lcs slNil (newD 8) h g 2 5 7 0 (zt 42) (by decide) (by omega) (by omega) (by omega) (new_W8) (by rw [zt_len]; omega)).weaken (fun v post h => by rw [lv1, lv2, lk1_eq] at h; exact h)) [2, 2, 2, 2] [] rfl rfl [] (by rintro v post ⟨rfl, lcs1, uw1, h1, rfl⟩; exact ⟨_, rfl⟩) ?_
           rintro v post ⟨rfl, lcs1, uw1, h1, rfl⟩
           show GH _ _ _ _ _ _ _ [_, _, _, _, _, _] _
           refine GH_all [7] (by kernel_rfl) (by decide) ?_
           refine (And.intro ?_ trivial)
           · skip
             refine GHop_call (L2 := [_, _]) rfl rfl rfl rfl rfl rfl Tryd.call41 ((lg_append d 8 lb lcap lcs1 uw1 lk1 h1 g 2 5 7 1 (zt 43) (by decide) (by omega) (by omega) (by omega) (by omega) (by rw [zt_len]; omega)).weaken (fun v post h => by rw [lv3, lv4, lk2_eq] at h; exact h)) [0, 0, 0, 0] [] rfl rfl [] (by rintro v post ⟨rfl, lcs1, uw1, h1, rfl⟩; exact ⟨_, rfl⟩) ?_
             rintro v post ⟨rfl, lcs1, uw1, h1, rfl⟩
             show GH _ _ _ _ _ _ _ [_, _, _, _, _, _] _
             refine GH_take 8 rfl rfl rfl rfl (by kernel_rfl) (by kernel_rfl) (by kernel_rfl) (fun _ _ => (V_assign rfl rfl)) ?_
             refine GH_take 9 rfl rfl rfl rfl (by kernel_rfl) (by kernel_rfl) (by kernel_rfl) (fun _ _ => (V_assign rfl rfl)) ?_
             refine GH_done (by kernel_rfl) ?_
             refine G_seq ?_
             refine G_region (l := [0, 1, 2, 3, 4, 5, 6, 7, 8]) rfl ?_
             refine G_val rfl rfl rfl rfl (V_move rfl rfl) ?_
             refine G_call (L2 := [_, _, _, _, _, _]) rfl rfl rfl rfl rfl rfl Tryd.call48 ((lg_replay d 8 lb lcap lcs1 uw1 lk2 h1 2 5 1 9 (by decide) lv5 (by omega) (by omega) (by omega)).weaken (fun v post h => by rw [show (5 : Int).toNat = 5 from rfl, lv7] at h; exact h)) [] [1, 2, 3] rfl rfl ?_
             rintro v post ⟨ur, hur, rfl, rfl⟩
             show G _ _ _ [_, _, _, _, _, _, _] _
             refine G_val rfl rfl rfl rfl (V_move rfl rfl) ?_
             refine G_val rfl rfl rfl rfl (V_extract rfl rfl rfl) ?_
             refine G_val rfl rfl rfl rfl (V_extract rfl rfl rfl) ?_
             refine G_val rfl rfl rfl rfl (V_extract rfl rfl rfl) ?_
             refine G_val rfl rfl rfl rfl (V_assign rfl rfl) ?_
             refine G_val rfl rfl rfl rfl (V_assign rfl rfl) ?_
             refine G_val rfl rfl rfl rfl (V_assign rfl rfl) ?_
             refine G_done ?_
             refine G_seq ?_
             refine G_region (l := [0, 1, 2, 3, 4, 5, 6, 7, 8, 9, 10, 11, 12, 13, 14, 15, 16, 17, 18, 19, 20, 21, 22, 23, 24, 25, 26, 27, 28, 29, 30, 31, 32, 33, 34, 35, 36, 37]) rfl ?_
             refine G_val rfl rfl rfl rfl (V_move rfl rfl) ?_
             refine G_call (L2 := [_, _, _, _, _, _, _]) rfl rfl rfl rfl rfl rfl Tryd.call37 (ll_num _) [] [] rfl rfl ?_
             rintro v post ⟨rfl, rfl⟩
             show G _ _ _ [_, _, _, _, _, _, _] _
             refine G_val rfl rfl rfl rfl (V_eql rfl rfl rfl) ?_
             refine G_val rfl rfl rfl rfl (V_move rfl rfl) ?_
             refine G_splitD 36 rfl (fun hc1 => ?_) (fun hc1 => ?_)
             rotate_left
             · (first | (exact absurd rfl hc1) | (exfalso; omega) | (exfalso; simp at hc1; done))
             refine G_val rfl rfl rfl rfl (V_move rfl rfl) ?_
             refine G_call (L2 := [_, _, _, _, _, _, _]) rfl rfl rfl rfl rfl rfl Tryd.call37 (ll_num _) [] [] rfl rfl ?_
             rintro v post ⟨rfl, rfl⟩
             show G _ _ _ [_, _, _, _, _, _, _] _
             refine G_val rfl rfl rfl rfl (V_eql rfl rfl rfl) ?_
             refine G_val rfl rfl rfl rfl (V_pickT rfl rfl rfl) ?_
             refine G_val rfl rfl rfl rfl (V_move rfl rfl) ?_
             refine G_splitD 41 rfl (fun hc2 => ?_) (fun hc2 => ?_)
             rotate_left
             · (first | (exact absurd rfl hc2) | (exfalso; omega) | (exfalso; simp at hc2; done))
             refine G_val rfl rfl rfl rfl (V_move rfl rfl) ?_
             refine G_call (L2 := [_, _, _, _, _, _, _]) rfl rfl rfl rfl rfl rfl Tryd.call37 (ll_num _) [] [] rfl rfl ?_
             rintro v post ⟨rfl, rfl⟩
             show G _ _ _ [_, _, _, _, _, _, _] _
             refine G_val rfl rfl rfl rfl (V_eql rfl rfl rfl) ?_
             refine G_val rfl rfl rfl rfl (V_pickT rfl rfl rfl) ?_
             refine G_val rfl rfl rfl rfl (V_move rfl rfl) ?_
             refine G_splitD 46 rfl (fun hc3 => ?_) (fun hc3 => ?_)
             rotate_left
             · (first | (exact absurd rfl hc3) | (exfalso; omega) | (exfalso; simp at hc3; done))
             refine G_val rfl rfl rfl rfl (V_move rfl rfl) ?_
             refine G_call (L2 := [_, _, _, _, _, _, _]) rfl rfl rfl rfl rfl rfl Tryd.call37 (ll_num _) [] [] rfl rfl ?_
             rintro v post ⟨rfl, rfl⟩
             show G _ _ _ [_, _, _, _, _, _, _] _
             refine G_val rfl rfl rfl rfl (V_eql rfl rfl rfl) ?_
             refine G_val rfl rfl rfl rfl (V_pickT rfl rfl rfl) ?_
             refine G_val rfl rfl rfl rfl (V_move rfl rfl) ?_
             refine G_splitD 51 rfl (fun hc4 => ?_) (fun hc4 => ?_)
             rotate_left
             · (first | (exact absurd rfl hc4) | (exfalso; omega) | (exfalso; simp at hc4; done))
             refine G_val rfl rfl rfl rfl (V_move rfl rfl) ?_
             refine G_call (L2 := [_, _, _, _, _, _, _]) rfl rfl rfl rfl rfl rfl Tryd.call44 (lg_at d g 2 5 7 3) [] [1] rfl rfl ?_
             rintro v post ⟨rfl, rfl⟩
             show G _ _ _ [_, _, _, _, _, _, _] _
             refine G_val rfl rfl rfl rfl (V_eql rfl rfl rfl) ?_
             refine G_val rfl rfl rfl rfl (V_pickT rfl rfl rfl) ?_
             refine G_val rfl rfl rfl rfl (V_move rfl rfl) ?_
             refine G_splitD 56 rfl (fun hc5 => ?_) (fun hc5 => ?_)
             rotate_left
             · (first | (exact absurd rfl hc5) | (exfalso; omega) | (exfalso; simp at hc5; done))
             refine G_val rfl rfl rfl rfl (V_move rfl rfl) ?_
             refine G_call (L2 := [_, _, _, _, _, _, _]) rfl rfl rfl rfl rfl rfl Tryd.call45 (lg_room d g 2 5 7 3 (by omega) (by omega) (by omega)) [] [1] rfl rfl ?_
             rintro v post ⟨rfl, rfl⟩
             show G _ _ _ [_, _, _, _, _, _, _] _
             refine G_val rfl rfl rfl rfl (V_eql rfl rfl rfl) ?_
             refine G_val rfl rfl rfl rfl (V_pickT rfl rfl rfl) ?_
             refine G_val rfl rfl rfl rfl (V_move rfl rfl) ?_
             refine G_splitD 61 rfl (fun hc6 => ?_) (fun hc6 => ?_)
             rotate_left
             · (first | (exact absurd rfl hc6) | (exfalso; omega) | (exfalso; simp at hc6; done))
             refine G_val rfl rfl rfl rfl (V_move rfl rfl) ?_
             refine G_val rfl rfl rfl rfl (V_len rfl rfl Tryd.underlying24 rfl) ?_
             refine G_val rfl rfl rfl rfl (V_eql rfl rfl rfl) ?_
             refine G_val rfl rfl rfl rfl (V_pickT rfl rfl rfl) ?_
             refine G_val rfl rfl rfl rfl (V_move rfl rfl) ?_
             refine G_splitD 66 rfl (fun hc7 => ?_) (fun hc7 => ?_)
             rotate_left
             · (first | (exact absurd rfl hc7) | (exfalso; omega) | (exfalso; simp at hc7; done))
             refine G_val rfl rfl rfl rfl (V_move rfl rfl) ?_
             refine G_val rfl rfl rfl rfl (V_eql rfl rfl rfl) ?_
             refine G_val rfl rfl rfl rfl (V_pickT rfl rfl rfl) ?_
             refine G_val rfl rfl rfl rfl (V_assign rfl rfl) ?_
             refine G_done ?_
             refine G_ret (post := []) Tryd.func34 rfl (RVs_cons (RV_tmp rfl) RVs_nil) [] rfl ?_
             dsimp only [packed]
             exact ⟨rfl, rfl⟩
   · skip
     refine GHop_val rfl rfl rfl rfl (V_bytesS (l := (zt 43)) rfl rfl Tryd.underlying27 Tryd.underlying5 Tryd.underlying9 (mem_at 0 rfl) (by rw [zt_len]) (zt_cells 43)) ?_
     refine GH_all [1] (by kernel_rfl) (by decide) ?_
     refine (And.intro ?_ trivial)
     · skip
       refine GHop_new rfl rfl rfl rfl (N_make (l := 42) (m := 42) rfl Tryd.underlying27 infLogL_5 rfl rfl rfl rfl rfl rfl rfl (by first | decide | omega) (by first | decide | omega | (show 1 * _ ≤ _; omega)) (by first | decide | omega)) [] (fun _ => ⟨_, rfl⟩) (fun b20 => ?_)
       refine GH_all [2] (by kernel_rfl) (by decide) ?_
       refine (And.intro ?_ trivial)
       · skip
         refine GHop_val rfl rfl rfl rfl (V_bytesS (l := (zt 42)) rfl rfl Tryd.underlying27 Tryd.underlying5 Tryd.underlying9 (mem_at 0 rfl) (by rw [zt_len]) (zt_cells 42)) ?_
         refine GH_all [3] (by kernel_rfl) (by decide) ?_
         refine (And.intro ?_ trivial)
         · skip
           refine GHop_call (L2 := [_, _]) rfl rfl rfl rfl rfl rfl Tryd.call41 ((lg_append d 8 lb lcap lcs slNil (newD 8) h g 2 5 7 0 (zt 42) (by decide) (by omega) (by omega) (by omega) (new_W8) (by rw [zt_len]; omega)).weaken (fun v post h => by rw [lv1, lv2, lk1_eq] at h; exact h)) [2, 2, 2, 2] [] rfl rfl [] (by rintro v post ⟨rfl, lcs1, uw1, h1, rfl⟩; exact ⟨_, rfl⟩) ?_
           rintro v post ⟨rfl, lcs1, uw1, h1, rfl⟩
           show GH _ _ _ _ _ _ _ [_, _, _, _, _, _] _
           refine GH_all [7] (by kernel_rfl) (by decide) ?_
           refine (And.intro ?_ trivial)
           · skip
             refine GHop_call (L2 := [_, _]) rfl rfl rfl rfl rfl rfl Tryd.call41 ((lg_append d 8 lb lcap lcs1 uw1 lk1 h1 g 2 5 7 1 (zt 43) (by decide) (by omega) (by omega) (by omega) (by omega) (by rw [zt_len]; omega)).weaken (fun v post h => by rw [lv3, lv4, lk2_eq] at h; exact h)) [0, 0, 0, 0] [] rfl rfl [] (by rintro v post ⟨rfl, lcs1, uw1, h1, rfl⟩; exact ⟨_, rfl⟩) ?_
             rintro v post ⟨rfl, lcs1, uw1, h1, rfl⟩
             show GH _ _ _ _ _ _ _ [_, _, _, _, _, _] _
             refine GH_take 8 rfl rfl rfl rfl (by kernel_rfl) (by kernel_rfl) (by kernel_rfl) (fun _ _ => (V_assign rfl rfl)) ?_
             refine GH_take 9 rfl rfl rfl rfl (by kernel_rfl) (by kernel_rfl) (by kernel_rfl) (fun _ _ => (V_assign rfl rfl)) ?_
             refine GH_done (by kernel_rfl) ?_
             refine G_seq ?_
             refine G_region (l := [0, 1, 2, 3, 4, 5, 6, 7, 8]) rfl ?_
             refine G_val rfl rfl rfl rfl (V_move rfl rfl) ?_
             refine G_call (L2 := [_, _, _, _, _, _]) rfl rfl rfl rfl rfl rfl Tryd.call48 ((lg_replay d 8 lb lcap lcs1 uw1 lk2 h1 2 5 1 9 (by decide) lv5 (by omega) (by omega) (by omega)).weaken (fun v post h => by rw [show (5 : Int).toNat = 5 from rfl, lv7] at h; exact h)) [] [1, 2, 3] rfl rfl ?_
             rintro v post ⟨ur, hur, rfl, rfl⟩
             show G _ _ _ [_, _, _, _, _, _, _] _
             refine G_val rfl rfl rfl rfl (V_move rfl rfl) ?_
             refine G_val rfl rfl rfl rfl (V_extract rfl rfl rfl) ?_
             refine G_val rfl rfl rfl rfl (V_extract rfl rfl rfl) ?_
             refine G_val rfl rfl rfl rfl (V_extract rfl rfl rfl) ?_
             refine G_val rfl rfl rfl rfl (V_assign rfl rfl) ?_
             refine G_val rfl rfl rfl rfl (V_assign rfl rfl) ?_
             refine G_val rfl rfl rfl rfl (V_assign rfl rfl) ?_
             refine G_done ?_
             refine G_seq ?_
             refine G_region (l := [0, 1, 2, 3, 4, 5, 6, 7, 8, 9, 10, 11, 12, 13, 14, 15, 16, 17, 18, 19, 20, 21, 22, 23, 24, 25, 26, 27, 28, 29, 30, 31, 32, 33, 34, 35, 36, 37]) rfl ?_
             refine G_val rfl rfl rfl rfl (V_move rfl rfl) ?_
             refine G_call (L2 := [_, _, _, _, _, _, _]) rfl rfl rfl rfl rfl rfl Tryd.call37 (ll_num _) [] [] rfl rfl ?_
             rintro v post ⟨rfl, rfl⟩
             show G _ _ _ [_, _, _, _, _, _, _] _
             refine G_val rfl rfl rfl rfl (V_eql rfl rfl rfl) ?_
             refine G_val rfl rfl rfl rfl (V_move rfl rfl) ?_
             refine G_splitD 36 rfl (fun hc1 => ?_) (fun hc1 => ?_)
             rotate_left
             · (first | (exact absurd rfl hc1) | (exfalso; omega) | (exfalso; simp at hc1; done))
             refine G_val rfl rfl rfl rfl (V_move rfl rfl) ?_
             refine G_call (L2 := [_, _, _, _, _, _, _]) rfl rfl rfl rfl rfl rfl Tryd.call37 (ll_num _) [] [] rfl rfl ?_
             rintro v post ⟨rfl, rfl⟩
             show G _ _ _ [_, _, _, _, _, _, _] _
             refine G_val rfl rfl rfl rfl (V_eql rfl rfl rfl) ?_
             refine G_val rfl rfl rfl rfl (V_pickT rfl rfl rfl) ?_
             refine G_val rfl rfl rfl rfl (V_move rfl rfl) ?_
             refine G_splitD 41 rfl (fun hc2 => ?_) (fun hc2 => ?_)
             rotate_left
             · (first | (exact absurd rfl hc2) | (exfalso; omega) | (exfalso; simp at hc2; done))
             refine G_val rfl rfl rfl rfl (V_move rfl rfl) ?_
             refine G_call (L2 := [_, _, _, _, _, _, _]) rfl rfl rfl rfl rfl rfl Tryd.call37 (ll_num _) [] [] rfl rfl ?_
             rintro v post ⟨rfl, rfl⟩
             show G _ _ _ [_, _, _, _, _, _, _] _
             refine G_val rfl rfl rfl rfl (V_eql rfl rfl rfl) ?_
             refine G_val rfl rfl rfl rfl (V_pickT rfl rfl rfl) ?_
             refine G_val rfl rfl rfl rfl (V_move rfl rfl) ?_
             refine G_splitD 46 rfl (fun hc3 => ?_) (fun hc3 => ?_)
             rotate_left
             · (first | (exact absurd rfl hc3) | (exfalso; omega) | (exfalso; simp at hc3; done))
             refine G_val rfl rfl rfl rfl (V_move rfl rfl) ?_
             refine G_call (L2 := [_, _, _, _, _, _, _]) rfl rfl rfl rfl rfl rfl Tryd.call37 (ll_num _) [] [] rfl rfl ?_
             rintro v post ⟨rfl, rfl⟩
             show G _ _ _ [_, _, _, _, _, _, _] _
             refine G_val rfl rfl rfl rfl (V_eql rfl rfl rfl) ?_
             refine G_val rfl rfl rfl rfl (V_pickT rfl rfl rfl) ?_
             refine G_val rfl rfl rfl rfl (V_move rfl rfl) ?_
             refine G_splitD 51 rfl (fun hc4 => ?_) (fun hc4 => ?_)
             rotate_left
             · (first | (exact absurd rfl hc4) | (exfalso; omega) | (exfalso; simp at hc4; done))
             refine G_val rfl rfl rfl rfl (V_move rfl rfl) ?_
             refine G_call (L2 := [_, _, _, _, _, _, _]) rfl rfl rfl rfl rfl rfl Tryd.call44 (lg_at d g 2 5 7 3) [] [1] rfl rfl ?_
             rintro v post ⟨rfl, rfl⟩
             show G _ _ _ [_, _, _, _, _, _, _] _
             refine G_val rfl rfl rfl rfl (V_eql rfl rfl rfl) ?_
             refine G_val rfl rfl rfl rfl (V_pickT rfl rfl rfl) ?_
             refine G_val rfl rfl rfl rfl (V_move rfl rfl) ?_
             refine G_splitD 56 rfl (fun hc5 => ?_) (fun hc5 => ?_)
             rotate_left
             · (first | (exact absurd rfl hc5) | (exfalso; omega) | (exfalso; simp at hc5; done))
             refine G_val rfl rfl rfl rfl (V_move rfl rfl) ?_
             refine G_call (L2 := [_, _, _, _, _, _, _]) rfl rfl rfl rfl rfl rfl Tryd.call45 (lg_room d g 2 5 7 3 (by omega) (by omega) (by omega)) [] [1] rfl rfl ?_
             rintro v post ⟨rfl, rfl⟩
             show G _ _ _ [_, _, _, _, _, _, _] _
             refine G_val rfl rfl rfl rfl (V_eql rfl rfl rfl) ?_
             refine G_val rfl rfl rfl rfl (V_pickT rfl rfl rfl) ?_
             refine G_val rfl rfl rfl rfl (V_move rfl rfl) ?_
             refine G_splitD 61 rfl (fun hc6 => ?_) (fun hc6 => ?_)
             rotate_left
             · (first | (exact absurd rfl hc6) | (exfalso; omega) | (exfalso; simp at hc6; done))
             refine G_val rfl rfl rfl rfl (V_move rfl rfl) ?_
             refine G_val rfl rfl rfl rfl (V_len rfl rfl Tryd.underlying24 rfl) ?_
             refine G_val rfl rfl rfl rfl (V_eql rfl rfl rfl) ?_
             refine G_val rfl rfl rfl rfl (V_pickT rfl rfl rfl) ?_
             refine G_val rfl rfl rfl rfl (V_move rfl rfl) ?_
             refine G_splitD 66 rfl (fun hc7 => ?_) (fun hc7 => ?_)
             rotate_left
             · (first | (exact absurd rfl hc7) | (exfalso; omega) | (exfalso; simp at hc7; done))
             refine G_val rfl rfl rfl rfl (V_move rfl rfl) ?_
             refine G_val rfl rfl rfl rfl (V_eql rfl rfl rfl) ?_
             refine G_val rfl rfl rfl rfl (V_pickT rfl rfl rfl) ?_
             refine G_val rfl rfl rfl rfl (V_assign rfl rfl) ?_
             refine G_done ?_
             refine G_ret (post := []) Tryd.func34 rfl (RVs_cons (RV_tmp rfl) RVs_nil) [] rfl ?_
             dsimp only [packed]
             exact ⟨rfl, rfl⟩

end
end Go.Proofs.YtbblkgdejgoncaaDoor

/- The reference of layer 22 at the program's disk whose power stays; the blocks of an append by the reference of layer 26. -/
set_option linter.unusedSimpArgs false
set_option linter.unusedVariables false
namespace Go.Proofs.YtbblkgdejgoncaaDoor
open Go.ChangeShapes Go.WideShapes Go.ChangeAt Go.RowKit

section
theorem infLogAP_3 : Tryd.prog.info? 3 = some Tryd.t3 := by kernel_rfl
theorem infLogAP_4 : Tryd.prog.info? 4 = some Tryd.t4 := by kernel_rfl
theorem infLogAP_5 : Tryd.prog.info? 5 = some Tryd.t5 := by kernel_rfl
theorem infLogAP_9 : Tryd.prog.info? 9 = some Tryd.t9 := by kernel_rfl
theorem infLogAP_24 : Tryd.prog.info? 24 = some Tryd.t24 := by kernel_rfl
theorem infLogAP_70 : Tryd.prog.info? 70 = some Tryd.t70 := by kernel_rfl
theorem infLogAP_72 : Tryd.prog.info? 72 = some Tryd.t72 := by kernel_rfl
theorem infLogAP_140 : Tryd.prog.info? 140 = some Tryd.t140 := by kernel_rfl
theorem plcLogAP_72 : placesOf Tryd.prog (Tryd.prog.fieldsOf 72) = some [(0, 1), (1, 1), (2, 1), (3, 1)] := by kernel_rfl
theorem plcLogAP_140 : placesOf Tryd.prog (Tryd.prog.fieldsOf 140) = some [(0, 1), (1, 1)] := by kernel_rfl


theorem ap_src {c : Cx} {L : List (Option Nat × Obj)} {sz off cap m : Nat} {ob : Option Nat} {cs : Array Value} {T : TypeId} {fr : Nat × Nat} {news : List Value} (h : Sees sz ob off cap cs news m) (hm : (ob, Obj.cells cs T fr) ∈ c.A ++ L) (h1 : ∀ x ∈ news, x.oneCell' = true) (w : World) (hw : Has w c.A L) :
    Src c.P w sz (sv ob off m cap) m news := by
  cases ob with
  | none =>
    have h0 := h.isNil rfl
    have h2 := h.le
    have hm0 : m = 0 := by omega
    have hl := h.len
    rw [hm0, Nat.zero_mul] at hl
    rw [List.length_eq_zero_iff.1 hl, hm0, h0]
    exact src_nil
  | some b => exact src_mem hm h.len (by rw [h.len]; exact h.part) h1 w hw
theorem wcs_one (W : List (Int × List UInt8)) : ∀ x ∈ W.flatMap wCells, x.oneCell' = true := by
  intro x hx
  obtain ⟨m, _, hx⟩ := List.mem_flatMap.1 hx
  simp only [wCells, List.mem_cons, List.not_mem_nil, or_false] at hx
  rcases hx with rfl | rfl <;> rfl

set_option maxRecDepth 100000 in
set_option maxHeartbeats 1000000 in
theorem ap_zero  :
    Ct Tryd.prog 30 [] [] [] fun v post => v = .string (bs zs64) ∧ post = [] := by
 refine ct_of Tryd.func30 rfl rfl (fun w0 => ?_)
 show G _ _ [] _ _
 refine G_seq ?_
 refine G_region (l := [0]) rfl ?_
 refine G_val rfl rfl rfl rfl (V_assign rfl rfl) ?_
 refine G_done ?_
 refine G_seq ?_
 refine G_region (l := [0, 1, 2]) rfl ?_
 refine G_new rfl rfl rfl rfl (N_make (l := 64) (m := 64) rfl Tryd.underlying27 infLogAP_5 rfl rfl rfl rfl rfl rfl rfl (by first | decide | omega) (by first | decide | omega | (show 1 * _ ≤ _; omega)) (by first | decide | omega)) (fun b1 => ?_)
 refine G_val rfl rfl rfl rfl (V_bytesS (l := (List.replicate 64 0)) rfl rfl Tryd.underlying27 Tryd.underlying5 Tryd.underlying9 (mem_at 0 rfl) (by simp) (by rfl)) ?_
 refine G_val rfl rfl rfl rfl (V_assign rfl rfl) ?_
 refine G_done ?_
 refine G_ret (post := []) Tryd.func30 rfl (RVs_cons (RV_tmp rfl) RVs_nil) [] rfl ?_
 dsimp only [packed]
 exact ⟨rfl, rfl⟩

set_option maxRecDepth 100000 in
set_option maxHeartbeats 1000000 in
theorem ap_new (n : Nat) (h1 : 1 ≤ n) (h2 : n ≤ 4096) :
    Ct Tryd.prog 38 [.int .i64 (n : Int)] [] [] fun v post => ∃ lb lcap lcs, v = .agg #[.slice (some ⟨lb, 0, none⟩) n lcap, slNil.v 0, .int .i64 (-1), .bool false] ∧ DkAt (newD n) n lb lcs lcap slNil ∧ post = [(some lb, .cells lcs 9 (0, 0)), (slNil.ob, .cells slNil.cs 140 slNil.fz)] := by
 refine ct_of Tryd.func38 rfl rfl (fun w0 => ?_)
 show G _ _ [(0, _)] _ _
 refine G_seq ?_
 refine G_region (l := [0]) rfl ?_
 refine G_new rfl rfl rfl rfl (N_allocA rfl infLogAP_72 rfl) (fun b2 => ?_)
 refine G_done ?_
 refine G_seq ?_
 refine G_region (l := [0, 1, 2]) rfl ?_
 refine G_val rfl rfl rfl rfl (V_buildS (cs := [_, _, _, _]) rfl Tryd.underlying72 infLogAP_72 rfl plcLogAP_72 rfl rfl rfl) ?_
 refine G_new rfl rfl rfl rfl (N_allocA rfl infLogAP_72 rfl) (fun b3 => ?_)
 refine G_put (l1 := []) (L' := [_, _]) rfl rfl rfl rfl (P_storeA (s := 4) rfl rfl rfl (mem_at 0 rfl) (by first | rfl | (simp [bcells_length, wCells, kCells, rgC, lgC, rdC, Sl.v]; done) | (simp [bcells_length, wCells, kCells, rgC, lgC, rdC, Sl.v]; omega) | (simp [bcells_length, *, wCells, kCells, rgC, lgC, rdC, Sl.v]; done)) infLogAP_72 rfl (by first | rfl | (simp [bcells_length, wCells, kCells, rgC, lgC, rdC, Sl.v]; done) | (simp [bcells_length, wCells, kCells, rgC, lgC, rdC, Sl.v]; omega) | (simp [bcells_length, *, wCells, kCells, rgC, lgC, rdC, Sl.v]; done)) (by first | rfl | exact bcells_all _ | (simp [Value.oneCell', wCells, kCells, rgC, lgC, rdC, Sl.v]; done) | (simp [Value.oneCell', *, wCells, kCells, rgC, lgC, rdC, Sl.v]; done))) rfl ?_
 refine G_done ?_
 refine G_seq ?_
 refine G_seq ?_
 refine G_addNone (.cells #[] 9 (0, 0)) ?_
 refine G_region (l := [0]) rfl ?_
 refine G_val rfl rfl rfl rfl (V_assign rfl rfl) ?_
 refine G_done ?_
 refine G_block ?_
 refine G_sub ?he3 [2, 1, 0] ?hl3 (G_loop (X := Nat × Sl) (fun x => match x with | ⟨i, u⟩ => i ≤ n ∧ Own 1 u ((List.replicate i zs64).map strC) i ∧ u.fz = (0, 0)) (fun x => match x with | ⟨i, u⟩ => n - i) (fun x => match x with | ⟨i, u⟩ => [(0, .int .i64 (n : Int)), (2, .pointer (some ⟨b2, 0, none⟩)), (3, .pointer (some ⟨b3, 0, none⟩)), (4, .int .i64 (i : Int))]) (fun x => match x with | ⟨i, u⟩ => [(some b2, .cells #[.slice none 0 0, .slice none 0 0, .int .i64 0, .bool false] 72 (0, 0)), (some b3, .cells #[u.v i, .slice none 0 0, .int .i64 (-1), .bool false] 72 (0, 0)), (u.ob, .cells u.cs 9 u.fz)]) ?round3 (0, slNil) ?h03)
 case he3 => exact (And.intro rfl (And.intro rfl (And.intro rfl (And.intro rfl trivial))))
 case hl3 => exact ⟨_, rfl⟩
 case h03 => exact ⟨Nat.zero_le _, own_nil 1, rfl⟩
 case round3 =>
  intro x hJ ih
  try dsimp only at hJ ih
  obtain ⟨i, u⟩ := x
  try dsimp only at hJ ih
  obtain ⟨hi, hux, hfz⟩ := hJ
  show G _ _ [(0, .int .i64 (n : Int)), (2, .pointer (some ⟨b2, 0, none⟩)), (3, .pointer (some ⟨b3, 0, none⟩)), (4, .int .i64 (i : Int))] [(some b2, .cells #[.slice none 0 0, .slice none 0 0, .int .i64 0, .bool false] 72 (0, 0)), (some b3, .cells #[u.v i, .slice none 0 0, .int .i64 (-1), .bool false] 72 (0, 0)), (u.ob, .cells u.cs 9 u.fz)] _
  refine G_seq ?_
  refine G_seq ?_
  refine G_region (l := [0, 1, 2]) rfl ?_
  refine G_val rfl rfl rfl rfl (V_move rfl rfl) ?_
  refine G_val rfl rfl rfl rfl (V_move rfl rfl) ?_
  refine G_val rfl rfl rfl rfl (V_lss rfl rfl rfl) ?_
  refine G_done ?_
  refine G_ifD rfl (fun hc1 => ?_) (fun hc1 => ?_)
  · skip
    refine G_skip ?_
    refine G_seq ?_
    refine G_block ?_
    refine GH_start (Lq := []) (isq := []) (m := 7) mixedK rfl rfl ?_
    refine GH_take 0 rfl rfl rfl rfl (by kernel_rfl) (by kernel_rfl) (by kernel_rfl) (fun _ _ => (V_fieldAddr (fo := 0) rfl Tryd.underlying72 rfl infLogAP_24 rfl rfl rfl)) ?_
    refine GH_all [1, 2] (by kernel_rfl) (by decide) ?_
    refine (And.intro ?_ (And.intro ?_ trivial))
    · skip
      refine GHop_val rfl rfl rfl rfl (V_load1 rfl rfl (mem_at 1 rfl) rfl Tryd.underlying24 rfl) ?_
      refine GH_all [2] (by kernel_rfl) (by decide) ?_
      refine (And.intro ?_ trivial)
      · skip
        refine GHop_call (L2 := [_, _, _]) rfl rfl rfl rfl rfl rfl Tryd.call30 (ap_zero) [] [] rfl rfl [] (by rintro v post ⟨rfl, rfl⟩; exact ⟨_, rfl⟩) ?_
        rintro v post ⟨rfl, rfl⟩
        show GH _ _ _ _ _ _ _ [_, _, _] _
        refine GH_all [3] (by kernel_rfl) (by decide) ?_
        refine (And.intro ?_ trivial)
        · skip
          refine GHop_new rfl rfl rfl rfl (N_buildAll (s := 1) (cs := [_]) rfl Tryd.underlying24 infLogAP_9 rfl rfl rfl rfl rfl rfl rfl rfl rfl) [] (fun _ => ⟨_, rfl⟩) (fun b14 => ?_)
          refine GH_all [4] (by kernel_rfl) (by decide) ?_
          refine (And.intro ?_ trivial)
          · skip
            refine GHop_append (l1 := [_, _, _]) (s := u) (nn := i) (m := 1) (news := [strC zs64]) (bt := 16) rfl rfl rfl rfl Tryd.underlying24 Tryd.underlying24 (by first | exact .inl rfl | exact .inr ⟨_, rfl⟩) infLogAP_9 rfl rfl rfl rfl rfl rfl hux rfl (src_mem (mem_at 0 rfl) rfl rfl (by simp [strC, Value.oneCell'])) (by omega) (by omega) [] (fun _ => ⟨_, rfl⟩) ?_
            intro u1 hu1 hq1
            show GH _ _ _ _ _ _ _ [_, _, _, _] _
            refine GH_take 5 rfl rfl rfl rfl (by kernel_rfl) (by kernel_rfl) (by kernel_rfl) (fun _ _ => (V_fieldAddr (fo := 0) rfl Tryd.underlying72 rfl infLogAP_24 rfl rfl rfl)) ?_
            refine GH_all [6] (by kernel_rfl) (by decide) ?_
            refine (And.intro ?_ trivial)
            · skip
              refine GHop_put (l1 := [_, _]) (L' := [_, _, _, _]) rfl rfl rfl rfl (P_store1 rfl rfl rfl (mem_at 2 rfl) (by first | exact of_decide_eq_true rfl | omega | (simp [wCells, kCells, rgC, lgC, rdC, Sl.v]; done) | (simp [wCells, kCells, rgC, lgC, rdC, Sl.v]; omega) | (simp [wCells, kCells, rgC, lgC, rdC, Sl.v] at *; omega)) infLogAP_24 rfl rfl) rfl [] rfl ?_
              refine GH_done (by kernel_rfl) ?_
              refine G_inBlock ?_
              refine G_region (l := [0, 1, 2]) rfl ?_
              refine G_val rfl rfl rfl rfl (V_move rfl rfl) ?_
              first
                | refine G_val rfl rfl rfl rfl ((V_add rfl rfl rfl).int (wrap_i64 (by omega))) ?_
                | refine G_val rfl rfl rfl rfl (V_add rfl rfl rfl) ?_
              refine G_val rfl rfl rfl rfl (V_assign rfl rfl) ?_
              refine G_done ?_
              refine G_sub ?_ [1, 1, 1] ?_ (ih (i + 1, u1) ?_ ?_)
              · (refine (And.intro ?_ (And.intro ?_ (And.intro ?_ (And.intro ?_ trivial)))) <;> first | rfl | exact slot_int (by omega) | exact slot_int (by simp))
              · exact ⟨_, rfl⟩
              · exact ⟨by omega, by rw [← rep_next]; exact hu1, hq1.fz hfz⟩
              · (first | omega | (dsimp only; omega))
    · skip
      refine GHop_call (L2 := [_, _, _]) rfl rfl rfl rfl rfl rfl Tryd.call30 (ap_zero) [] [] rfl rfl [] (by rintro v post ⟨rfl, rfl⟩; exact ⟨_, rfl⟩) ?_
      rintro v post ⟨rfl, rfl⟩
      show GH _ _ _ _ _ _ _ [_, _, _] _
      refine GH_all [1, 3] (by kernel_rfl) (by decide) ?_
      refine (And.intro ?_ (And.intro ?_ trivial))
      · skip
        refine GHop_val rfl rfl rfl rfl (V_load1 rfl rfl (mem_at 1 rfl) rfl Tryd.underlying24 rfl) ?_
        refine GH_all [3] (by kernel_rfl) (by decide) ?_
        refine (And.intro ?_ trivial)
        · skip
          refine GHop_new rfl rfl rfl rfl (N_buildAll (s := 1) (cs := [_]) rfl Tryd.underlying24 infLogAP_9 rfl rfl rfl rfl rfl rfl rfl rfl rfl) [] (fun _ => ⟨_, rfl⟩) (fun b14 => ?_)
          refine GH_all [4] (by kernel_rfl) (by decide) ?_
          refine (And.intro ?_ trivial)
          · skip
            refine GHop_append (l1 := [_, _, _]) (s := u) (nn := i) (m := 1) (news := [strC zs64]) (bt := 16) rfl rfl rfl rfl Tryd.underlying24 Tryd.underlying24 (by first | exact .inl rfl | exact .inr ⟨_, rfl⟩) infLogAP_9 rfl rfl rfl rfl rfl rfl hux rfl (src_mem (mem_at 0 rfl) rfl rfl (by simp [strC, Value.oneCell'])) (by omega) (by omega) [] (fun _ => ⟨_, rfl⟩) ?_
            intro u1 hu1 hq1
            show GH _ _ _ _ _ _ _ [_, _, _, _] _
            refine GH_take 5 rfl rfl rfl rfl (by kernel_rfl) (by kernel_rfl) (by kernel_rfl) (fun _ _ => (V_fieldAddr (fo := 0) rfl Tryd.underlying72 rfl infLogAP_24 rfl rfl rfl)) ?_
            refine GH_all [6] (by kernel_rfl) (by decide) ?_
            refine (And.intro ?_ trivial)
            · skip
              refine GHop_put (l1 := [_, _]) (L' := [_, _, _, _]) rfl rfl rfl rfl (P_store1 rfl rfl rfl (mem_at 2 rfl) (by first | exact of_decide_eq_true rfl | omega | (simp [wCells, kCells, rgC, lgC, rdC, Sl.v]; done) | (simp [wCells, kCells, rgC, lgC, rdC, Sl.v]; omega) | (simp [wCells, kCells, rgC, lgC, rdC, Sl.v] at *; omega)) infLogAP_24 rfl rfl) rfl [] rfl ?_
              refine GH_done (by kernel_rfl) ?_
              refine G_inBlock ?_
              refine G_region (l := [0, 1, 2]) rfl ?_
              refine G_val rfl rfl rfl rfl (V_move rfl rfl) ?_
              first
                | refine G_val rfl rfl rfl rfl ((V_add rfl rfl rfl).int (wrap_i64 (by omega))) ?_
                | refine G_val rfl rfl rfl rfl (V_add rfl rfl rfl) ?_
              refine G_val rfl rfl rfl rfl (V_assign rfl rfl) ?_
              refine G_done ?_
              refine G_sub ?_ [1, 1, 1] ?_ (ih (i + 1, u1) ?_ ?_)
              · (refine (And.intro ?_ (And.intro ?_ (And.intro ?_ (And.intro ?_ trivial)))) <;> first | rfl | exact slot_int (by omega) | exact slot_int (by simp))
              · exact ⟨_, rfl⟩
              · exact ⟨by omega, by rw [← rep_next]; exact hu1, hq1.fz hfz⟩
              · (first | omega | (dsimp only; omega))
      · skip
        refine GHop_new rfl rfl rfl rfl (N_buildAll (s := 1) (cs := [_]) rfl Tryd.underlying24 infLogAP_9 rfl rfl rfl rfl rfl rfl rfl rfl rfl) [] (fun _ => ⟨_, rfl⟩) (fun b14 => ?_)
        refine GH_all [1] (by kernel_rfl) (by decide) ?_
        refine (And.intro ?_ trivial)
        · skip
          refine GHop_val rfl rfl rfl rfl (V_load1 rfl rfl (mem_at 2 rfl) rfl Tryd.underlying24 rfl) ?_
          refine GH_all [4] (by kernel_rfl) (by decide) ?_
          refine (And.intro ?_ trivial)
          · skip
            refine GHop_append (l1 := [_, _, _]) (s := u) (nn := i) (m := 1) (news := [strC zs64]) (bt := 16) rfl rfl rfl rfl Tryd.underlying24 Tryd.underlying24 (by first | exact .inl rfl | exact .inr ⟨_, rfl⟩) infLogAP_9 rfl rfl rfl rfl rfl rfl hux rfl (src_mem (mem_at 0 rfl) rfl rfl (by simp [strC, Value.oneCell'])) (by omega) (by omega) [] (fun _ => ⟨_, rfl⟩) ?_
            intro u1 hu1 hq1
            show GH _ _ _ _ _ _ _ [_, _, _, _] _
            refine GH_take 5 rfl rfl rfl rfl (by kernel_rfl) (by kernel_rfl) (by kernel_rfl) (fun _ _ => (V_fieldAddr (fo := 0) rfl Tryd.underlying72 rfl infLogAP_24 rfl rfl rfl)) ?_
            refine GH_all [6] (by kernel_rfl) (by decide) ?_
            refine (And.intro ?_ trivial)
            · skip
              refine GHop_put (l1 := [_, _]) (L' := [_, _, _, _]) rfl rfl rfl rfl (P_store1 rfl rfl rfl (mem_at 2 rfl) (by first | exact of_decide_eq_true rfl | omega | (simp [wCells, kCells, rgC, lgC, rdC, Sl.v]; done) | (simp [wCells, kCells, rgC, lgC, rdC, Sl.v]; omega) | (simp [wCells, kCells, rgC, lgC, rdC, Sl.v] at *; omega)) infLogAP_24 rfl rfl) rfl [] rfl ?_
              refine GH_done (by kernel_rfl) ?_
              refine G_inBlock ?_
              refine G_region (l := [0, 1, 2]) rfl ?_
              refine G_val rfl rfl rfl rfl (V_move rfl rfl) ?_
              first
                | refine G_val rfl rfl rfl rfl ((V_add rfl rfl rfl).int (wrap_i64 (by omega))) ?_
                | refine G_val rfl rfl rfl rfl (V_add rfl rfl rfl) ?_
              refine G_val rfl rfl rfl rfl (V_assign rfl rfl) ?_
              refine G_done ?_
              refine G_sub ?_ [1, 1, 1] ?_ (ih (i + 1, u1) ?_ ?_)
              · (refine (And.intro ?_ (And.intro ?_ (And.intro ?_ (And.intro ?_ trivial)))) <;> first | rfl | exact slot_int (by omega) | exact slot_int (by simp))
              · exact ⟨_, rfl⟩
              · exact ⟨by omega, by rw [← rep_next]; exact hu1, hq1.fz hfz⟩
              · (first | omega | (dsimp only; omega))
  refine G_exit rfl ?_
  refine G_seq ?_
  obtain rfl : i = n := by omega
  obtain ⟨uo, ucs, ufz, ucap⟩ := u
  simp only at hfz
  subst hfz
  obtain ⟨lb, rfl⟩ := hux.isSome (by omega)
  refine G_addNone (.cells #[] 140 (0, 0)) ?_
  refine G_region (l := [0, 1]) rfl ?_
  first
    | refine G_val rfl rfl rfl rfl (V_loadW (s := 4) rfl rfl (mem_at 2 rfl) Tryd.underlying72 rfl infLogAP_72 rfl (by first | rfl | (simp [bcells_length, wCells, kCells, rgC, lgC, rdC, Sl.v]; done) | (simp [bcells_length, wCells, kCells, rgC, lgC, rdC, Sl.v]; omega) | (simp [bcells_length, *, wCells, kCells, rgC, lgC, rdC, Sl.v]; done))) ?_
    | refine G_val rfl rfl rfl rfl (V_loadA (s := 4) rfl rfl (mem_at 2 rfl) Tryd.underlying72 rfl infLogAP_72 rfl rfl (by first | rfl | (simp [bcells_length, wCells, kCells, rgC, lgC, rdC, Sl.v]; done) | (simp [bcells_length, wCells, kCells, rgC, lgC, rdC, Sl.v]; omega) | (simp [bcells_length, *, wCells, kCells, rgC, lgC, rdC, Sl.v]; done))) ?_
  refine G_put (l1 := [_]) (L' := [_, _, _, _]) rfl rfl rfl rfl (P_storeA (s := 4) rfl rfl rfl (mem_at 1 rfl) (by first | rfl | (simp [bcells_length, wCells, kCells, rgC, lgC, rdC, Sl.v]; done) | (simp [bcells_length, wCells, kCells, rgC, lgC, rdC, Sl.v]; omega) | (simp [bcells_length, *, wCells, kCells, rgC, lgC, rdC, Sl.v]; done)) infLogAP_72 rfl (by first | rfl | (simp [bcells_length, wCells, kCells, rgC, lgC, rdC, Sl.v]; done) | (simp [bcells_length, wCells, kCells, rgC, lgC, rdC, Sl.v]; omega) | (simp [bcells_length, *, wCells, kCells, rgC, lgC, rdC, Sl.v]; done)) (by first | rfl | exact bcells_all _ | (simp [Value.oneCell', wCells, kCells, rgC, lgC, rdC, Sl.v]; done) | (simp [Value.oneCell', *, wCells, kCells, rgC, lgC, rdC, Sl.v]; done))) rfl ?_
  refine G_done ?_
  refine G_ret (post := [_, _]) Tryd.func38 rfl (RVs_cons (RV_cell (s := 4) rfl (mem_at 1 rfl) Tryd.underlying72 rfl infLogAP_72 rfl (by first | rfl | (simp [bcells_length, wCells, kCells, rgC, lgC, rdC, Sl.v]; done) | (simp [bcells_length, wCells, kCells, rgC, lgC, rdC, Sl.v]; omega) | (simp [bcells_length, *, wCells, kCells, rgC, lgC, rdC, Sl.v]; done))) RVs_nil) [3, 0] rfl ?_
  dsimp only [packed]
  exact ⟨lb, ucap, ucs, rfl, newD_at h1 h2 hux, rfl⟩

set_option maxRecDepth 100000 in
set_option maxHeartbeats 1000000 in
theorem ap_step (d lb n lcap : Nat) (uw : Sl) (m : Nat) :
    Ct Tryd.prog 77 [.pointer (some ⟨d, 0, none⟩)] [(some d, .cells #[.slice (some ⟨lb, 0, none⟩) n lcap, (uw.v m), .int .i64 (-1), .bool false] 72 (0, 0))] [] fun v post => v = .bool true ∧ post = [] := by
 refine ct_of Tryd.func77 rfl rfl (fun w0 => ?_)
 show G _ _ [(0, _)] _ _
 refine G_seq ?_
 refine G_region (l := [0]) rfl ?_
 refine G_val rfl rfl rfl rfl (V_assign rfl rfl) ?_
 refine G_done ?_
 refine G_seq ?_
 refine G_seq ?_
 refine G_region (l := [0, 1, 2, 3, 4]) rfl ?_
 refine G_val rfl rfl rfl rfl (V_move rfl rfl) ?_
 first
   | refine G_val rfl rfl rfl rfl (V_nilCheck rfl rfl) ?_
   | refine G_val rfl rfl rfl rfl (V_nilCheckF rfl rfl) ?_
 refine G_val rfl rfl rfl rfl (V_fieldAddr (fo := 2) rfl Tryd.underlying72 rfl infLogAP_3 rfl rfl rfl) ?_
 refine G_val rfl rfl rfl rfl (V_load1 rfl rfl (mem_at 0 rfl) rfl Tryd.underlying3 rfl) ?_
 refine G_val rfl rfl rfl rfl (V_eql rfl rfl rfl) ?_
 refine G_done ?_
 refine G_ifD rfl (fun hc1 => ?_) (fun hc1 => ?_)
 · (first | (exact absurd rfl hc1) | (exfalso; omega) | (exfalso; simp at hc1; done))
 refine G_skip ?_
 refine G_seq ?_
 refine G_seq ?_
 refine G_region (l := [0, 1, 2, 3]) rfl ?_
 refine G_val rfl rfl rfl rfl (V_move rfl rfl) ?_
 first
   | refine G_val rfl rfl rfl rfl (V_nilCheck rfl rfl) ?_
   | refine G_val rfl rfl rfl rfl (V_nilCheckF rfl rfl) ?_
 refine G_val rfl rfl rfl rfl (V_fieldAddr (fo := 3) rfl Tryd.underlying72 rfl infLogAP_4 rfl rfl rfl) ?_
 refine G_val rfl rfl rfl rfl (V_load1 rfl rfl (mem_at 0 rfl) rfl Tryd.underlying4 rfl) ?_
 refine G_done ?_
 refine G_if rfl (fun hc2 => ?_) (fun hc2 => ?_)
 · (first | (exact absurd rfl hc2) | (exfalso; omega) | (exfalso; simp at hc2; done))
 refine G_skip ?_
 refine G_seq ?_
 refine G_seq ?_
 refine G_region (l := [0, 1, 2, 3, 4]) rfl ?_
 refine G_val rfl rfl rfl rfl (V_move rfl rfl) ?_
 first
   | refine G_val rfl rfl rfl rfl (V_nilCheck rfl rfl) ?_
   | refine G_val rfl rfl rfl rfl (V_nilCheckF rfl rfl) ?_
 refine G_val rfl rfl rfl rfl (V_fieldAddr (fo := 2) rfl Tryd.underlying72 rfl infLogAP_3 rfl rfl rfl) ?_
 refine G_val rfl rfl rfl rfl (V_load1 rfl rfl (mem_at 0 rfl) rfl Tryd.underlying3 rfl) ?_
 refine G_val rfl rfl rfl rfl (V_gtr rfl rfl rfl) ?_
 refine G_done ?_
 refine G_ifD rfl (fun hc3 => ?_) (fun hc3 => ?_)
 · (first | (exact absurd rfl hc3) | (exfalso; omega) | (exfalso; simp at hc3; done))
 refine G_skip ?_
 refine G_seq ?_
 refine G_region (l := [0]) rfl ?_
 refine G_val rfl rfl rfl rfl (V_assign rfl rfl) ?_
 refine G_done ?_
 refine G_ret (post := []) Tryd.func77 rfl (RVs_cons (RV_tmp rfl) RVs_nil) [] rfl ?_
 dsimp only [packed]
 exact ⟨rfl, rfl⟩

set_option maxRecDepth 100000 in
set_option maxHeartbeats 1000000 in
theorem ap_has (lb n lcap : Nat) (hn : n ≤ 1000000) (uw : Sl) (m : Nat) (a : Int) :
    Ct Tryd.prog 76 [.agg #[.slice (some ⟨lb, 0, none⟩) n lcap, (uw.v m), .int .i64 (-1), .bool false], .int .i64 a] [] [] fun v post => v = .bool (decide (0 ≤ a ∧ a < (n : Int))) ∧ post = [] := by
 refine ct_of Tryd.func76 rfl rfl (fun w0 => ?_)
 show G _ _ [(0, _), (1, _)] _ _
 refine G_seq ?_
 refine G_region (l := [0, 1]) rfl ?_
 refine G_new rfl rfl rfl rfl (N_boxA rfl rfl) (fun b2 => ?_)
 refine G_val rfl rfl rfl rfl (V_assign rfl rfl) ?_
 refine G_done ?_
 refine G_seq ?_
 refine G_region (l := [0, 1, 2, 3, 4, 5, 6, 7, 8, 9]) rfl ?_
 refine G_val rfl rfl rfl rfl (V_move rfl rfl) ?_
 refine G_val rfl rfl rfl rfl (V_geq rfl rfl rfl) ?_
 refine G_val rfl rfl rfl rfl (V_move rfl rfl) ?_
 refine G_splitD 7 rfl (fun hc1 => ?_) (fun hc1 => ?_)
 · skip
   refine G_val rfl rfl rfl rfl (V_move rfl rfl) ?_
   refine G_val rfl rfl rfl rfl (V_fieldAddr (fo := 0) rfl Tryd.underlying72 rfl infLogAP_24 rfl rfl rfl) ?_
   refine G_val rfl rfl rfl rfl (V_load1 rfl rfl (mem_at 0 rfl) rfl Tryd.underlying24 rfl) ?_
   refine G_val rfl rfl rfl rfl (V_len rfl rfl Tryd.underlying24 rfl) ?_
   refine G_val rfl rfl rfl rfl (V_lss rfl rfl rfl) ?_
   refine G_val rfl rfl rfl rfl (V_pickT rfl rfl rfl) ?_
   refine G_val rfl rfl rfl rfl (V_assign rfl rfl) ?_
   refine G_done ?_
   refine G_ret (post := []) Tryd.func76 rfl (RVs_cons (RV_tmp rfl) RVs_nil) [] rfl ?_
   dsimp only [packed]
   refine ⟨?_, rfl⟩; first | exact bool_eq (decide_eq_decide.2 (by omega)) | exact bool_eq (decide_eq_true (by omega)).symm | exact bool_eq (decide_eq_false (by omega)).symm
 refine G_off rfl rfl rfl rfl ?_
 refine G_off rfl rfl rfl rfl ?_
 refine G_off rfl rfl rfl rfl ?_
 refine G_off rfl rfl rfl rfl ?_
 refine G_off rfl rfl rfl rfl ?_
 refine G_val rfl rfl rfl rfl (V_pickF rfl rfl rfl) ?_
 refine G_val rfl rfl rfl rfl (V_assign rfl rfl) ?_
 refine G_done ?_
 refine G_ret (post := []) Tryd.func76 rfl (RVs_cons (RV_tmp rfl) RVs_nil) [] rfl ?_
 dsimp only [packed]
 refine ⟨?_, rfl⟩; first | exact bool_eq (decide_eq_decide.2 (by omega)) | exact bool_eq (decide_eq_true (by omega)).symm | exact bool_eq (decide_eq_false (by omega)).symm

set_option maxRecDepth 100000 in
set_option maxHeartbeats 1000000 in
theorem ap_read (lb n lcap : Nat) (lcs : Array Value) (uw : Sl) (k : Dk) (h : DkAt k n lb lcs lcap uw) (hl : Lively k) (a : Int) (ha : 0 ≤ a ∧ a < (n : Int)) :
    Ct Tryd.prog 46 [.agg #[.slice (some ⟨lb, 0, none⟩) n lcap, (uw.v k.W.length), .int .i64 (-1), .bool false], .int .i64 a] [(some lb, .cells lcs 9 (0, 0)), (uw.ob, .cells uw.cs 140 uw.fz)] [] fun v post => v = .tuple #[.string (bs (k.readS a)), .int .i64 0] ∧ post = [] := by
 have hb := h.bd
 have hb1 := hb.n1
 have hb2 := hb.n4
 have hb3 := hb.ncs
 have hb4 := hb.ncap
 have hb5 := hb.cap
 have hb6 := hb.w
 have hb7 := hb.wc
 have hln := h.len
 have hae : hasE k.L.length a = 0 := hasE_ok.2 (by omega)
 refine ct_of Tryd.func46 rfl rfl (fun w0 => ?_)
 show G _ _ [(0, _), (1, _)] _ _
 refine G_seq ?_
 refine G_region (l := [0, 1, 2]) rfl ?_
 refine G_new rfl rfl rfl rfl (N_boxA rfl rfl) (fun b2 => ?_)
 refine G_val rfl rfl rfl rfl (V_assign rfl rfl) ?_
 refine G_val rfl rfl rfl rfl (V_assign rfl rfl) ?_
 refine G_done ?_
 refine G_seq ?_
 refine G_seq ?_
 refine G_region (l := [0, 1, 2, 3]) rfl ?_
 first
   | refine G_val rfl rfl rfl rfl (V_loadW (s := 4) rfl rfl (mem_at 2 rfl) Tryd.underlying72 rfl infLogAP_72 rfl (by first | rfl | (simp [bcells_length, wCells, kCells, rgC, lgC, rdC, Sl.v]; done) | (simp [bcells_length, wCells, kCells, rgC, lgC, rdC, Sl.v]; omega) | (simp [bcells_length, *, wCells, kCells, rgC, lgC, rdC, Sl.v]; done))) ?_
   | refine G_val rfl rfl rfl rfl (V_loadA (s := 4) rfl rfl (mem_at 2 rfl) Tryd.underlying72 rfl infLogAP_72 rfl rfl (by first | rfl | (simp [bcells_length, wCells, kCells, rgC, lgC, rdC, Sl.v]; done) | (simp [bcells_length, wCells, kCells, rgC, lgC, rdC, Sl.v]; omega) | (simp [bcells_length, *, wCells, kCells, rgC, lgC, rdC, Sl.v]; done))) ?_
 refine G_val rfl rfl rfl rfl (V_move rfl rfl) ?_
 refine G_call (L2 := [_]) rfl rfl rfl rfl rfl rfl Tryd.call76 ((ap_has lb n lcap (by omega) uw k.W.length a).weaken (fun v post h => by rw [decide_eq_true ha] at h; exact h)) [] [] rfl rfl ?_
 rintro v post ⟨rfl, rfl⟩
 show G _ _ _ [_] _
 refine G_val rfl rfl rfl rfl (V_not rfl rfl) ?_
 refine G_done ?_
 refine G_else rfl ?_
 refine G_skip ?_
 refine G_seq ?_
 refine G_seq ?_
 refine G_region (l := [0, 1]) rfl ?_
 refine G_val rfl rfl rfl rfl (V_fieldAddr (fo := 3) rfl Tryd.underlying72 rfl infLogAP_4 rfl rfl rfl) ?_
 refine G_val rfl rfl rfl rfl (V_load1 rfl rfl (mem_at 2 rfl) rfl Tryd.underlying4 rfl) ?_
 refine G_done ?_
 refine G_if rfl (fun hc1 => ?_) (fun hc1 => ?_)
 · (first | (exact absurd rfl hc1) | (exfalso; omega) | (exfalso; simp at hc1; done))
 refine G_skip ?_
 refine G_seq ?_
 refine G_region (l := [0, 1, 2, 3, 4, 5]) rfl ?_
 refine G_val rfl rfl rfl rfl (V_fieldAddr (fo := 0) rfl Tryd.underlying72 rfl infLogAP_24 rfl rfl rfl) ?_
 refine G_val rfl rfl rfl rfl (V_load1 rfl rfl (mem_at 2 rfl) rfl Tryd.underlying24 rfl) ?_
 refine G_val rfl rfl rfl rfl (V_move rfl rfl) ?_
 first
   | refine G_val rfl rfl rfl rfl (V_indexAddrN (s := 1) rfl Tryd.underlying24 infLogAP_9 rfl rfl rfl rfl (by omega)) ?_
   | refine G_val rfl rfl rfl rfl (V_indexAddr (s := 1) rfl Tryd.underlying24 infLogAP_9 rfl rfl rfl (by omega) (by first | omega | (simp [wCells, kCells, rgC, lgC, rdC, Sl.v]; done) | (simp [wCells, kCells, rgC, lgC, rdC, Sl.v]; omega) | (simp [wCells, kCells, rgC, lgC, rdC, Sl.v] at *; omega))) ?_
 refine G_val rfl rfl rfl rfl (V_load1 rfl rfl (mem_at 0 rfl) (nth_of (own_str h.l a.toNat (by omega))) Tryd.underlying9 rfl) ?_
 refine G_val rfl rfl rfl rfl (V_assign rfl rfl) ?_
 refine G_done ?_
 refine G_seq ?_
 refine G_seq ?_
 refine G_region (l := [0]) rfl ?_
 refine G_val rfl rfl rfl rfl (V_assign rfl rfl) ?_
 refine G_done ?_
 refine G_block ?_
 refine G_sub ?he7 [0] ?hl7 (G_loop (X := Nat) (fun i => i ≤ k.W.length) (fun i => k.W.length - i) (fun i => [(1, .int .i64 a), (2, .pointer (some ⟨b2, 0, none⟩)), (6, .string (bs (lastW (k.L.getD a.toNat []) a (k.W.take i)))), (7, .int .i64 (i : Int))]) (fun i => [(some b2, .cells #[.slice (some ⟨lb, 0, none⟩) n lcap, (uw.v k.W.length), .int .i64 (-1), .bool false] 72 (0, 0))]) ?round7 0 ?h07)
 case he7 => exact (And.intro rfl (And.intro rfl (And.intro rfl (And.intro rfl trivial))))
 case hl7 => exact ⟨_, rfl⟩
 case h07 => exact Nat.zero_le _
 case round7 =>
  intro i hJ ih
  try dsimp only at hJ ih
  refine G_seq ?_
  refine G_seq ?_
  refine G_region (l := [0, 1, 2, 3, 4]) rfl ?_
  refine G_val rfl rfl rfl rfl (V_move rfl rfl) ?_
  refine G_val rfl rfl rfl rfl (V_fieldAddr (fo := 1) rfl Tryd.underlying72 rfl infLogAP_70 rfl rfl rfl) ?_
  refine G_val rfl rfl rfl rfl (V_load1 rfl rfl (mem_at 2 rfl) rfl Tryd.underlying70 rfl) ?_
  refine G_val rfl rfl rfl rfl (V_len rfl rfl Tryd.underlying70 rfl) ?_
  refine G_val rfl rfl rfl rfl (V_lss rfl rfl rfl) ?_
  refine G_done ?_
  refine G_ifD rfl (fun hc2 => ?_) (fun hc2 => ?_)
  · skip
    refine G_skip ?_
    refine G_seq ?_
    refine G_block ?_
    refine G_seq ?_
    obtain ⟨x, hx⟩ := getI (show i < k.W.length by omega)
    obtain ⟨wo, wcs, wfz, wcap⟩ := uw
    obtain ⟨wb, rfl⟩ := h.w.isSome (by omega)
    refine G_region (l := [0, 1, 2, 3, 4, 5, 6, 7]) rfl ?_
    refine G_val rfl rfl rfl rfl (V_fieldAddr (fo := 1) rfl Tryd.underlying72 rfl infLogAP_70 rfl rfl rfl) ?_
    refine G_val rfl rfl rfl rfl (V_load1 rfl rfl (mem_at 2 rfl) rfl Tryd.underlying70 rfl) ?_
    refine G_val rfl rfl rfl rfl (V_move rfl rfl) ?_
    first
      | refine G_val rfl rfl rfl rfl (V_indexAddrN (s := 2) rfl Tryd.underlying70 infLogAP_140 rfl rfl rfl rfl (by omega)) ?_
      | refine G_val rfl rfl rfl rfl (V_indexAddr (s := 2) rfl Tryd.underlying70 infLogAP_140 rfl rfl rfl (by omega) (by first | omega | (simp [wCells, kCells, rgC, lgC, rdC, Sl.v]; done) | (simp [wCells, kCells, rgC, lgC, rdC, Sl.v]; omega) | (simp [wCells, kCells, rgC, lgC, rdC, Sl.v] at *; omega))) ?_
    refine G_val rfl rfl rfl rfl (V_fieldAddr (fo := _) rfl Tryd.underlying140 rfl infLogAP_3 rfl rfl rfl) ?_
    refine G_val rfl rfl rfl rfl (V_load1 rfl rfl (mem_at 1 rfl) (nth_of (cell_at h.w.sees w_len hx 0 (by omega) rfl)) Tryd.underlying3 rfl) ?_
    refine G_val rfl rfl rfl rfl (V_move rfl rfl) ?_
    refine G_val rfl rfl rfl rfl (V_eql rfl rfl rfl) ?_
    refine G_done ?_
    refine G_ifD rfl (fun hc3 => ?_) (fun hc3 => ?_)
    · skip
      refine G_region (l := [0, 1, 2, 3, 4, 5, 6]) rfl ?_
      refine G_val rfl rfl rfl rfl (V_fieldAddr (fo := 1) rfl Tryd.underlying72 rfl infLogAP_70 rfl rfl rfl) ?_
      refine G_val rfl rfl rfl rfl (V_load1 rfl rfl (mem_at 2 rfl) rfl Tryd.underlying70 rfl) ?_
      refine G_val rfl rfl rfl rfl (V_move rfl rfl) ?_
      first
        | refine G_val rfl rfl rfl rfl (V_indexAddrN (s := 2) rfl Tryd.underlying70 infLogAP_140 rfl rfl rfl rfl (by omega)) ?_
        | refine G_val rfl rfl rfl rfl (V_indexAddr (s := 2) rfl Tryd.underlying70 infLogAP_140 rfl rfl rfl (by omega) (by first | omega | (simp [wCells, kCells, rgC, lgC, rdC, Sl.v]; done) | (simp [wCells, kCells, rgC, lgC, rdC, Sl.v]; omega) | (simp [wCells, kCells, rgC, lgC, rdC, Sl.v] at *; omega))) ?_
      refine G_val rfl rfl rfl rfl (V_fieldAddr (fo := _ + 1) rfl Tryd.underlying140 rfl infLogAP_9 rfl rfl rfl) ?_
      refine G_val rfl rfl rfl rfl (V_load1 rfl rfl (mem_at 1 rfl) (nth_of (cell_at h.w.sees w_len hx 1 (by omega) rfl)) Tryd.underlying9 rfl) ?_
      refine G_val rfl rfl rfl rfl (V_assign rfl rfl) ?_
      refine G_done ?_
      refine G_inBlock ?_
      first | (rw [lastW_yes (s := k.L.getD a.toNat []) hx (by assumption)]) | skip
      refine G_region (l := [0, 1, 2]) rfl ?_
      refine G_val rfl rfl rfl rfl (V_move rfl rfl) ?_
      first
        | refine G_val rfl rfl rfl rfl ((V_add rfl rfl rfl).int (wrap_i64 (by omega))) ?_
        | refine G_val rfl rfl rfl rfl (V_add rfl rfl rfl) ?_
      refine G_val rfl rfl rfl rfl (V_assign rfl rfl) ?_
      refine G_done ?_
      refine G_sub ?_ [0] ?_ (ih (i + 1) ?_ ?_)
      · refine (And.intro rfl (And.intro rfl (And.intro (slot_str (by first | exact (lastW_yes hx (by assumption)).symm | exact (lastW_no hx (by assumption)).symm)) (And.intro rfl trivial))))
      · exact ⟨_, rfl⟩
      · omega
      · (first | omega | (dsimp only; omega))
    refine G_skip ?_
    refine G_inBlock ?_
    first | (rw [lastW_yes (s := k.L.getD a.toNat []) hx (by assumption)]) | skip
    refine G_region (l := [0, 1, 2]) rfl ?_
    refine G_val rfl rfl rfl rfl (V_move rfl rfl) ?_
    first
      | refine G_val rfl rfl rfl rfl ((V_add rfl rfl rfl).int (wrap_i64 (by omega))) ?_
      | refine G_val rfl rfl rfl rfl (V_add rfl rfl rfl) ?_
    refine G_val rfl rfl rfl rfl (V_assign rfl rfl) ?_
    refine G_done ?_
    refine G_sub ?_ [0] ?_ (ih (i + 1) ?_ ?_)
    · refine (And.intro rfl (And.intro rfl (And.intro (slot_str (by first | exact (lastW_yes hx (by assumption)).symm | exact (lastW_no hx (by assumption)).symm)) (And.intro rfl trivial))))
    · exact ⟨_, rfl⟩
    · omega
    · (first | omega | (dsimp only; omega))
  refine G_exit rfl ?_
  refine G_seq ?_
  refine G_region (l := [0, 1, 2]) rfl ?_
  refine G_val rfl rfl rfl rfl (V_move rfl rfl) ?_
  refine G_val rfl rfl rfl rfl (V_assign rfl rfl) ?_
  refine G_val rfl rfl rfl rfl (V_assign rfl rfl) ?_
  refine G_done ?_
  refine G_ret (post := []) Tryd.func46 rfl (RVs_cons (RV_tmp rfl) (RVs_cons (RV_tmp rfl) RVs_nil)) [] rfl ?_
  dsimp only [packed]
  obtain ⟨e1, e2⟩ := read_yes hae (by rw [hl.dead]; exact Bool.false_ne_true); rw [e2, show k.W.take i = k.W from List.take_of_length_le (by omega)]; exact ⟨rfl, rfl⟩

set_option maxRecDepth 100000 in
set_option maxHeartbeats 1000000 in
theorem ap_write (d : Nat) (lb n lcap : Nat) (lcs : Array Value) (uw : Sl) (k : Dk) (h : DkAt k n lb lcs lcap uw) (hl : Lively k) (a : Int) (ha : 0 ≤ a ∧ a < (n : Int)) (s : List UInt8) (hs : s.length = 64) (hW : k.W.length ≤ 1000000) :
    Ct Tryd.prog 43 [.pointer (some ⟨d, 0, none⟩), .int .i64 a, .string (bs s)] [(uw.ob, .cells uw.cs 140 uw.fz)] [(some d, .cells #[.slice (some ⟨lb, 0, none⟩) n lcap, (uw.v k.W.length), .int .i64 (-1), .bool false] 72 (0, 0))] fun v post => v = .int .i64 0 ∧ ∃ u1, Own 2 u1 (k.W.flatMap wCells ++ wCells (a, s)) (k.W.length + 1) ∧ post = [(some d, .cells #[.slice (some ⟨lb, 0, none⟩) n lcap, (u1.v (k.W.length + 1)), .int .i64 (-1), .bool false] 72 (0, 0)), (u1.ob, .cells u1.cs 140 u1.fz)] := by
 have hb := h.bd
 have hb1 := hb.n1
 have hb2 := hb.n4
 have hb3 := hb.ncs
 have hb4 := hb.ncap
 have hb5 := hb.cap
 have hb6 := hb.w
 have hb7 := hb.wc
 have hln := h.len
 refine ct_of Tryd.func43 rfl rfl (fun w0 => ?_)
 show G _ _ [(0, _), (1, _), (2, _)] _ _
 refine G_seq ?_
 refine G_region (l := [0]) rfl ?_
 refine G_val rfl rfl rfl rfl (V_assign rfl rfl) ?_
 refine G_done ?_
 refine G_seq ?_
 refine G_seq ?_
 refine G_region (l := [0, 1, 2, 3, 4, 5]) rfl ?_
 refine G_val rfl rfl rfl rfl (V_move rfl rfl) ?_
 first
   | refine G_val rfl rfl rfl rfl (V_nilCheck rfl rfl) ?_
   | refine G_val rfl rfl rfl rfl (V_nilCheckF rfl rfl) ?_
 first
   | refine G_val rfl rfl rfl rfl (V_loadW (s := 4) rfl rfl (mem_at 1 rfl) Tryd.underlying72 rfl infLogAP_72 rfl (by first | rfl | (simp [bcells_length, wCells, kCells, rgC, lgC, rdC, Sl.v]; done) | (simp [bcells_length, wCells, kCells, rgC, lgC, rdC, Sl.v]; omega) | (simp [bcells_length, *, wCells, kCells, rgC, lgC, rdC, Sl.v]; done))) ?_
   | refine G_val rfl rfl rfl rfl (V_loadA (s := 4) rfl rfl (mem_at 1 rfl) Tryd.underlying72 rfl infLogAP_72 rfl rfl (by first | rfl | (simp [bcells_length, wCells, kCells, rgC, lgC, rdC, Sl.v]; done) | (simp [bcells_length, wCells, kCells, rgC, lgC, rdC, Sl.v]; omega) | (simp [bcells_length, *, wCells, kCells, rgC, lgC, rdC, Sl.v]; done))) ?_
 refine G_val rfl rfl rfl rfl (V_move rfl rfl) ?_
 refine G_call (L2 := [_]) rfl rfl rfl rfl rfl rfl Tryd.call76 ((ap_has lb n lcap (by omega) uw k.W.length a).weaken (fun v post h => by rw [decide_eq_true ha] at h; exact h)) [] [] rfl rfl ?_
 rintro v post ⟨rfl, rfl⟩
 show G _ _ _ [_] _
 refine G_val rfl rfl rfl rfl (V_not rfl rfl) ?_
 refine G_done ?_
 refine G_else rfl ?_
 refine G_skip ?_
 refine G_seq ?_
 refine G_seq ?_
 refine G_region (l := [0, 1, 2]) rfl ?_
 refine G_val rfl rfl rfl rfl (V_move rfl rfl) ?_
 refine G_val rfl rfl rfl rfl (V_slen rfl rfl Tryd.underlying9 rfl) ?_
 refine G_val rfl rfl rfl rfl (V_neq rfl rfl rfl) ?_
 refine G_done ?_
 refine G_ifD rfl (fun hc1 => ?_) (fun hc1 => ?_)
 · (first | (exact absurd rfl hc1) | (exfalso; omega) | (exfalso; simp at hc1; done))
 refine G_skip ?_
 refine G_seq ?_
 refine G_seq ?_
 refine G_region (l := [0, 1, 2]) rfl ?_
 refine G_val rfl rfl rfl rfl (V_move rfl rfl) ?_
 refine G_call (L2 := [_]) rfl rfl rfl rfl rfl rfl Tryd.call77 (ap_step d lb n lcap uw k.W.length) [] [1] rfl rfl ?_
 rintro v post ⟨rfl, rfl⟩
 show G _ _ _ [_] _
 refine G_val rfl rfl rfl rfl (V_not rfl rfl) ?_
 refine G_done ?_
 refine G_else rfl ?_
 refine G_skip ?_
 refine G_seq ?_
 refine G_region (l := [0, 1, 2, 3, 4, 5, 6, 7, 8, 9, 10, 11, 12, 13, 14]) rfl ?_
 refine G_val rfl rfl rfl rfl (V_move rfl rfl) ?_
 refine G_new rfl rfl rfl rfl (N_build0 rfl Tryd.underlying70 infLogAP_140) (fun b20 => ?_)
 refine G_val rfl rfl rfl rfl (V_move rfl rfl) ?_
 first
   | refine G_val rfl rfl rfl rfl (V_nilCheck rfl rfl) ?_
   | refine G_val rfl rfl rfl rfl (V_nilCheckF rfl rfl) ?_
 refine G_val rfl rfl rfl rfl (V_fieldAddr (fo := 1) rfl Tryd.underlying72 rfl infLogAP_70 rfl rfl rfl) ?_
 refine G_val rfl rfl rfl rfl (V_load1 rfl rfl (mem_at 2 rfl) rfl Tryd.underlying70 rfl) ?_
 refine G_append (l1 := []) (s := ⟨some b20, #[], (0, 0), 0⟩) (nn := 0) (m := k.W.length) (news := (k.W.flatMap wCells)) (bt := 24) rfl rfl rfl rfl Tryd.underlying70 Tryd.underlying70 (by first | exact .inl rfl | exact .inr ⟨_, rfl⟩) infLogAP_140 rfl rfl rfl rfl rfl rfl (own_empty 2 b20) rfl (ap_src h.w.sees (List.mem_append_left _ (List.mem_cons.2 (.inl rfl))) (wcs_one k.W)) (by omega) (by have hz : (2 : Nat) = 2 := rfl; omega) ?_
 intro ua hua _
 show G _ _ _ [_, _] _
 refine G_val rfl rfl rfl rfl (V_move rfl rfl) ?_
 refine G_val rfl rfl rfl rfl (V_move rfl rfl) ?_
 refine G_val rfl rfl rfl rfl (V_buildS (cs := [_, _]) rfl Tryd.underlying140 infLogAP_140 rfl plcLogAP_140 rfl rfl rfl) ?_
 refine G_new rfl rfl rfl rfl (N_buildAll (s := 2) (cs := [_, _]) rfl Tryd.underlying70 infLogAP_140 rfl rfl rfl rfl rfl rfl rfl rfl rfl) (fun b29 => ?_)
 refine G_append (l1 := [_]) (s := ua) (nn := (0 + k.W.length)) (m := 1) (news := (wCells (a, s))) (bt := 24) rfl rfl rfl rfl Tryd.underlying70 Tryd.underlying70 (by first | exact .inl rfl | exact .inr ⟨_, rfl⟩) infLogAP_140 rfl rfl rfl rfl rfl rfl hua rfl (src_mem (mem_at 1 rfl) rfl rfl (by simp [wCells, Value.oneCell'])) (by omega) (by omega) ?_
 intro um hum _
 show G _ _ _ [_, _, _] _
 first
   | refine G_val rfl rfl rfl rfl (V_nilCheck rfl rfl) ?_
   | refine G_val rfl rfl rfl rfl (V_nilCheckF rfl rfl) ?_
 refine G_val rfl rfl rfl rfl (V_fieldAddr (fo := 1) rfl Tryd.underlying72 rfl infLogAP_70 rfl rfl rfl) ?_
 refine G_put (l1 := [_, _]) (L' := [_, _, _]) rfl rfl rfl rfl (P_store1 rfl rfl rfl (mem_at 2 rfl) (by first | exact of_decide_eq_true rfl | omega | (simp [wCells, kCells, rgC, lgC, rdC, Sl.v]; done) | (simp [wCells, kCells, rgC, lgC, rdC, Sl.v]; omega) | (simp [wCells, kCells, rgC, lgC, rdC, Sl.v] at *; omega)) infLogAP_70 rfl rfl) rfl ?_
 refine G_done ?_
 refine G_seq ?_
 refine G_region (l := [0]) rfl ?_
 refine G_val rfl rfl rfl rfl (V_assign rfl rfl) ?_
 refine G_done ?_
 refine G_ret (post := [_, _]) Tryd.func43 rfl (RVs_cons (RV_tmp rfl) RVs_nil) [2, 1] rfl ?_
 dsimp only [packed]
 rw [List.nil_append, Nat.zero_add] at hum; rw [Nat.zero_add]; exact ⟨rfl, um, hum, rfl⟩


def lbTo (e a : Nat) (s : List UInt8) (i : Nat) : List (List UInt8) := (lblks e a (piecesF s)).take i
theorem lbTo_next {e a : Nat} {s : List UInt8} {i : Nat} {p : List UInt8} (h : (piecesF s)[i]? = some p) : (lbTo e a s i).map strC ++ [strC (sealL e (a + i) p)] = (lbTo e a s (i + 1)).map strC := by
  have hx : (lblks e a (piecesF s))[i]? = some (sealL e (a + i) p) := by rw [lblks_at, h]; rfl
  unfold lbTo
  rw [List.take_add_one, hx, List.map_append]; rfl
theorem lbTo_all {e a : Nat} {s : List UInt8} {i : Nat} (h : manyN s.length ≤ i) : lbTo e a s i = lblks e a (piecesF s) := by
  unfold lbTo; exact List.take_of_length_le (by rw [lblks_len, piecesF_len]; exact h)

set_option maxRecDepth 100000 in
set_option maxHeartbeats 1000000 in
theorem ap_blocks (s : List UInt8) (hle : s.length ≤ 1000) (e : Nat) (he0 : 0 < e) (he : e < 4294967296) (a : Nat) (ha : a ≤ 1000000) :
    Ct Tryd.prog 42 [.string (bs s), .int .u32 (e : Int), .int .i64 (a : Int)] [] [] fun v post => ∃ u : Sl, Own 1 u ((lblks e a (piecesF s)).map strC) (manyN s.length) ∧ v = u.v (manyN s.length) ∧ post = [(u.ob, .cells u.cs 9 u.fz)] := by
 have hpl := piecesF_len s
 have hm21 : manyN s.length ≤ 21 := by unfold manyN; omega
 refine ct_of Tryd.func42 rfl rfl (fun w0 => ?_)
 show G _ _ [(0, _), (1, _), (2, _)] _ _
 refine G_seq ?_
 refine G_region (l := [0]) rfl ?_
 refine G_val rfl rfl rfl rfl (V_assign rfl rfl) ?_
 refine G_done ?_
 refine G_seq ?_
 refine G_region (l := [0, 1, 2, 3, 4, 5, 6]) rfl ?_
 refine G_val rfl rfl rfl rfl (V_move rfl rfl) ?_
 refine G_call (L2 := []) rfl rfl rfl rfl rfl rfl Tryd.call13 ((rfr_encode s (by omega)).weaken (fun v post h => by rw [(encF_yes hle).1, (encF_yes hle).2, piecesF_len] at h; exact h)) [] [] rfl rfl ?_
 rintro v post ⟨u, hu, rfl, rfl⟩
 show G _ _ _ [_] _
 refine G_val rfl rfl rfl rfl (V_move rfl rfl) ?_
 refine G_val rfl rfl rfl rfl (V_extract rfl rfl rfl) ?_
 refine G_val rfl rfl rfl rfl (V_extract rfl rfl rfl) ?_
 refine G_val rfl rfl rfl rfl (V_assign rfl rfl) ?_
 refine G_val rfl rfl rfl rfl (V_assign rfl rfl) ?_
 refine G_done ?_
 refine G_seq ?_
 refine G_region (l := [0, 1]) rfl ?_
 refine G_new rfl rfl rfl rfl (N_build0 rfl Tryd.underlying24 infLogAP_9) (fun b18 => ?_)
 refine G_val rfl rfl rfl rfl (V_assign rfl rfl) ?_
 refine G_done ?_
 refine G_seq ?_
 refine G_seq ?_
 refine G_region (l := [0]) rfl ?_
 refine G_val rfl rfl rfl rfl (V_assign rfl rfl) ?_
 refine G_done ?_
 refine G_block ?_
 refine G_sub ?he4 [1, 0] ?hl4 (G_loop (X := Nat × Sl) (fun x => match x with | ⟨i, v⟩ => i ≤ manyN s.length ∧ Own 1 v ((lbTo e a s i).map strC) i) (fun x => match x with | ⟨i, v⟩ => manyN s.length - i) (fun x => match x with | ⟨i, v⟩ => [(1, .int .u32 (e : Int)), (2, .int .i64 (a : Int)), (7, u.v (manyN s.length)), (9, v.v i), (10, .int .i64 (i : Int))]) (fun x => match x with | ⟨i, v⟩ => [(u.ob, .cells u.cs 9 u.fz), (v.ob, .cells v.cs 9 v.fz)]) ?round4 (0, ⟨some b18, #[], (0, 0), 0⟩) ?h04)
 case he4 => exact (And.intro rfl (And.intro rfl (And.intro rfl (And.intro rfl (And.intro rfl trivial)))))
 case hl4 => exact ⟨_, rfl⟩
 case h04 => exact ⟨Nat.zero_le _, own_empty 1 b18⟩
 case round4 =>
  intro x hJ ih
  try dsimp only at hJ ih
  obtain ⟨i, v⟩ := x
  try dsimp only at hJ ih
  obtain ⟨hi, hvx⟩ := hJ
  show G _ _ [(1, .int .u32 (e : Int)), (2, .int .i64 (a : Int)), (7, u.v (manyN s.length)), (9, v.v i), (10, .int .i64 (i : Int))] [(u.ob, .cells u.cs 9 u.fz), (v.ob, .cells v.cs 9 v.fz)] _
  refine G_seq ?_
  refine G_seq ?_
  refine G_region (l := [0, 1, 2, 3]) rfl ?_
  refine G_val rfl rfl rfl rfl (V_move rfl rfl) ?_
  refine G_val rfl rfl rfl rfl (V_move rfl rfl) ?_
  refine G_val rfl rfl rfl rfl (V_len rfl rfl Tryd.underlying24 rfl) ?_
  refine G_val rfl rfl rfl rfl (V_lss rfl rfl rfl) ?_
  refine G_done ?_
  refine G_ifD rfl (fun hc1 => ?_) (fun hc1 => ?_)
  · skip
    refine G_skip ?_
    refine G_seq ?_
    refine G_block ?_
    refine G_seq ?_
    obtain ⟨p, hp⟩ := getI (show i < (piecesF s).length by omega)
    have hp48 := piecesF_48 s p (List.mem_of_getElem? hp)
    have hpE : sealE e p = 0 := (sealE_cases _ _).2 (by omega)
    obtain ⟨uo, ucs, ufz, ucap⟩ := u
    obtain ⟨ub, rfl⟩ := hu.isSome (by omega)
    refine G_region (l := [0, 1, 2, 3, 4, 5, 6, 7, 8, 9, 10, 11, 12, 13, 14]) rfl ?_
    refine G_val rfl rfl rfl rfl (V_move rfl rfl) ?_
    refine G_val rfl rfl rfl rfl (V_move rfl rfl) ?_
    refine G_val rfl rfl rfl rfl (V_move rfl rfl) ?_
    refine G_val rfl rfl rfl rfl (Val.int (e' := ((a + i : Nat) : Int)) (V_add rfl rfl rfl) (by rw [wrap_i64 (by omega)]; omega)) ?_
    first
      | refine G_val rfl rfl rfl rfl ((V_conv rfl rfl Tryd.underlying3 Tryd.underlying22).int (wrap_u32 (by omega))) ?_
      | refine G_val rfl rfl rfl rfl (V_conv rfl rfl Tryd.underlying3 Tryd.underlying22) ?_
    refine G_val rfl rfl rfl rfl (V_move rfl rfl) ?_
    refine G_val rfl rfl rfl rfl (V_move rfl rfl) ?_
    first
      | refine G_val rfl rfl rfl rfl (V_indexAddrN (s := 1) rfl Tryd.underlying24 infLogAP_9 rfl rfl rfl rfl (by omega)) ?_
      | refine G_val rfl rfl rfl rfl (V_indexAddr (s := 1) rfl Tryd.underlying24 infLogAP_9 rfl rfl rfl (by omega) (by first | omega | (simp [wCells, kCells, rgC, lgC, rdC, Sl.v]; done) | (simp [wCells, kCells, rgC, lgC, rdC, Sl.v]; omega) | (simp [wCells, kCells, rgC, lgC, rdC, Sl.v] at *; omega))) ?_
    refine G_val rfl rfl rfl rfl (V_load1 rfl rfl (mem_at 0 rfl) (nth_of (show ucs[0 + i * 1]? = some (strC p) by rw [Nat.zero_add, Nat.mul_one]; exact hu.nth (by simp [hp]))) Tryd.underlying9 rfl) ?_
    refine G_call (L2 := [_, _]) rfl rfl rfl rfl rfl rfl Tryd.call62 ((rseal_seal e (a + i) p he (by omega) (by omega)).weaken (fun v post h => by rw [hpE] at h; exact h)) [] [] rfl rfl ?_
    rintro v post ⟨rfl, rfl⟩
    show G _ _ _ [_, _] _
    refine G_val rfl rfl rfl rfl (V_move rfl rfl) ?_
    refine G_val rfl rfl rfl rfl (V_extract rfl rfl rfl) ?_
    refine G_val rfl rfl rfl rfl (V_extract rfl rfl rfl) ?_
    refine G_val rfl rfl rfl rfl (V_assign rfl rfl) ?_
    refine G_val rfl rfl rfl rfl (V_assign rfl rfl) ?_
    refine G_done ?_
    refine G_region (l := [0, 1, 2, 3, 4]) rfl ?_
    refine G_val rfl rfl rfl rfl (V_move rfl rfl) ?_
    refine G_val rfl rfl rfl rfl (V_move rfl rfl) ?_
    refine G_new rfl rfl rfl rfl (N_buildAll (s := 1) (cs := [_]) rfl Tryd.underlying24 infLogAP_9 rfl rfl rfl rfl rfl rfl rfl rfl rfl) (fun b40 => ?_)
    refine G_append (l1 := [_, _]) (s := v) (nn := i) (m := 1) (news := [strC (sealL e (a + i) p)]) (bt := 16) rfl rfl rfl rfl Tryd.underlying24 Tryd.underlying24 (by first | exact .inl rfl | exact .inr ⟨_, rfl⟩) infLogAP_9 rfl rfl rfl rfl rfl rfl hvx rfl (src_mem (mem_at 0 rfl) rfl rfl (by simp [strC, Value.oneCell'])) (by omega) (by omega) ?_
    intro v1 hv1 _
    show G _ _ _ [_, _, _] _
    refine G_val rfl rfl rfl rfl (V_assign rfl rfl) ?_
    refine G_done ?_
    refine G_inBlock ?_
    refine G_region (l := [0, 1, 2]) rfl ?_
    refine G_val rfl rfl rfl rfl (V_move rfl rfl) ?_
    first
      | refine G_val rfl rfl rfl rfl ((V_add rfl rfl rfl).int (wrap_i64 (by omega))) ?_
      | refine G_val rfl rfl rfl rfl (V_add rfl rfl rfl) ?_
    refine G_val rfl rfl rfl rfl (V_assign rfl rfl) ?_
    refine G_done ?_
    refine G_sub ?_ [1, 1] ?_ (ih (i + 1, v1) ?_ ?_)
    · (refine (And.intro ?_ (And.intro ?_ (And.intro ?_ (And.intro ?_ (And.intro ?_ trivial))))) <;> first | rfl | exact slot_int (by omega) | exact slot_int (by simp))
    · exact ⟨_, rfl⟩
    · exact ⟨by omega, by rw [← lbTo_next hp]; exact hv1⟩
    · (first | omega | (dsimp only; omega))
  refine G_exit rfl ?_
  refine G_seq ?_
  refine G_region (l := [0, 1]) rfl ?_
  refine G_val rfl rfl rfl rfl (V_move rfl rfl) ?_
  refine G_val rfl rfl rfl rfl (V_assign rfl rfl) ?_
  refine G_done ?_
  refine G_ret (post := [_]) Tryd.func42 rfl (RVs_cons (RV_tmp rfl) RVs_nil) [1] rfl ?_
  dsimp only [packed]
  obtain rfl : i = manyN s.length := by omega
  rw [lbTo_all (Nat.le_refl _)] at hvx
  exact ⟨v, hvx, rfl, rfl⟩

end
end Go.Proofs.YtbblkgdejgoncaaDoor

/- From a law's walk to the form of a row that lists package-level variables: one lemma for all laws of such a seat. -/
namespace Go.Proofs.YtbblkgdejgoncaaDoor
open Go.ChangeShapes Go.WideShapes Go.ChangeAt Go.RowKit

set_option maxRecDepth 100000 in
theorem law_end {f : FuncId} {F : Func} {s : ChangeSpec} {H : Type} {enc : TypeId × Value → H}
    (hvars : s.vars = []) (hrt : F.resultTypes.toList = [4]) (hrs : F.resultTypes.size = 1)
    (hread : ∀ t ∈ F.params.toList, Tryd.prog.readableRec t = true ∧ t < Tryd.prog.types.size)
    (hspec : ∀ ds : List (DataW H), ds.length = F.params.toList.length → s.fn H (ds ++ []) = { results := [.lit (.bool true)], args := ds })
    (walk : LawWalk f F) (W : World) (base : Nat) (args : Array Value) (ds gs : List (DataW H)) (before : List MemPlace)
    (hval : ∀ (j : Nat) t v, F.params[j]? = some t → args[j]? = some v → Value.okWide Tryd.prog W .any base t v)
    (hW : DataW.Whole enc Tryd.prog F.params.toList s.vars false W args.toList ds gs before) :
    Calls Tryd.prog f args W fun e W' => ∃ v, e = .returned v ∧ s.post enc Tryd.prog F false true false false W args v W' := by
  have hW' := hW
  obtain ⟨p, q, hA, hV, rfl, hfz, hnd⟩ := hW
  rw [hvars] at hV
  obtain ⟨rfl, rfl⟩ := trodVars_none hV
  have hlen := trodAll_len _ _ _ _ hA
  refine (walk H enc W base args ds p hval hA).mono fun e W' ⟨he, hb⟩ => ?_
  subst he
  refine ⟨_, rfl, ds, [], _, [], p, [], hW', ?_, ?_, ?_, hb.frame _, fun h => by cases h⟩
  rotate_left
  · rw [hspec ds hlen]
    exact trodAll_below Tryd.laidOutK hb _ _ _ _ hread hA
  · rw [hvars, hspec ds hlen]
    rfl
  · rw [hspec ds hlen, hrt, hrs]
    exact trodAll_mk1 (shut_bool Tryd.underlying4 _)
end Go.Proofs.YtbblkgdejgoncaaDoor

set_option linter.unusedSimpArgs false
set_option linter.unusedVariables false
namespace Go.Proofs.YtbblkgdejgoncaaDoor
open Go.ChangeShapes Go.WideShapes Go.ChangeAt Go.RowKit

section
theorem infLawLogAppends_3 : Tryd.prog.info? 3 = some Tryd.t3 := by kernel_rfl
theorem infLawLogAppends_9 : Tryd.prog.info? 9 = some Tryd.t9 := by kernel_rfl
theorem infLawLogAppends_22 : Tryd.prog.info? 22 = some Tryd.t22 := by kernel_rfl
theorem infLawLogAppends_72 : Tryd.prog.info? 72 = some Tryd.t72 := by kernel_rfl


theorem ap_cases (f b a : Int) (e : Nat) : (¬ regB 20 f b ∧ rgE 20 f b ≠ 0) ∨ (regB 20 f b ∧ rgE 20 f b = 0 ∧ ((e : Int) = 0 ∨ a < 0 ∨ b < a)) ∨ (∃ m : Nat, a = (m : Int) ∧ regB 20 f b ∧ rgE 20 f b = 0 ∧ 0 < e ∧ (m : Int) ≤ b ∧ 0 ≤ f ∧ 1 ≤ b ∧ f + b ≤ 20) := by
  have h1 : rgE 20 f b = 0 ↔ _ := rgE_ok
  by_cases h : regB 20 f b
  · have h2 : rgE 20 f b = 0 := h1.2 (by unfold regB at h; omega)
    have h3 := h1.1 h2
    by_cases h4 : (e : Int) = 0 ∨ a < 0 ∨ b < a
    · exact .inr (.inl ⟨h, h2, h4⟩)
    · exact .inr (.inr ⟨a.toNat, by omega, h, h2, by omega, by omega, h3.1, h3.2.1, h3.2.2⟩)
  · exact .inl ⟨h, fun h2 => h (by have h3 := h1.1 h2; unfold regB; omega)⟩
theorem lg_new_no {n : Nat} {f b : Int} {e : Nat} {a : Int} {d : Nat} {v : Value} {post : List (Option Nat × Obj)} (hr : rgE n f b ≠ 0 ∨ ((e : Int) = 0 ∨ a < 0 ∨ b < a))
    (h : (rgE n f b ≠ 0 ∧ v = .tuple #[.pointer none, .int .i64 1] ∧ post = []) ∨ (rgE n f b = 0 ∧ ((e : Int) = 0 ∨ a < 0 ∨ b < a) ∧ v = .tuple #[.pointer none, .int .i64 1] ∧ post = []) ∨ (rgE n f b = 0 ∧ 0 < e ∧ 0 ≤ a ∧ a ≤ b ∧ ∃ g, v = .tuple #[.pointer (some ⟨g, 0, none⟩), .int .i64 0] ∧ post = [(some g, .cells (lgC d f b e a.toNat).toArray 136 (0, 0))])) :
    v = .tuple #[.pointer none, .int .i64 1] ∧ post = [] := by
  rcases h with h | h | h
  · exact h.2
  · exact h.2.2
  · rcases hr with hr | hr
    · exact absurd h.1 hr
    · omega
theorem lgE3 (r : Int) (s : List UInt8) : (1000 < s.length ∧ lgE r s = 4) ∨ (s.length ≤ 1000 ∧ r < (manyN s.length : Int) ∧ lgE r s = 17) ∨ (s.length ≤ 1000 ∧ (manyN s.length : Int) ≤ r ∧ lgE r s = 0 ∧ manyN s.length ≤ 21) := by
  unfold lgE
  by_cases h1 : 1000 < s.length
  · exact .inl ⟨h1, if_pos h1⟩
  · rw [if_neg h1]
    by_cases h2 : r < (manyN s.length : Int)
    · exact .inr (.inl ⟨by omega, h2, if_pos h2⟩)
    · exact .inr (.inr ⟨by omega, by omega, if_neg h2, by unfold manyN; omega⟩)
theorem fits_no {r : Int} {s : List UInt8} (h : lgE r s ≠ 0) : decide (fitsL r s) = false := decide_eq_false (fun hf => h (lgE_0.2 hf))
theorem fits_yes {r : Int} {s : List UInt8} (h : lgE r s = 0) : decide (fitsL r s) = true := decide_eq_true (lgE_0.1 h)
/-- An append on a disk whose power stays. -/
theorem ap_yes {k : Dk} (hk : Lively k) {f b : Int} {e m : Nat} {s : List UInt8} (h : lgE (b - m) s = 0) (he : 0 < e) (hf : 0 ≤ f) (hb : f + b ≤ (k.L.length : Int)) :
    appK k f b e m s = wrsK k (f + m) (lblks e m (piecesF s)) ∧ appE k f b e m s = 0 ∧ appA k f b e m s = m + manyN s.length ∧ (wrsK k (f + m) (lblks e m (piecesF s))).W.length ≤ k.W.length + manyN s.length ∧ Lively (wrsK k (f + m) (lblks e m (piecesF s))) := by
  obtain ⟨e1, e2⟩ := app_yes (k := k) (f := f) (e := e) h
  have hfit := (lgE_0.1 h).2
  have h64 := lblks_64 he (piecesF_48 s) m
  have hl : (lblks e m (piecesF s)).length = manyN s.length := by rw [lblks_len, piecesF_len]
  obtain ⟨w1, w2, w3, w4⟩ := wrs_lively (lblks e m (piecesF s)) k (f + m) hk h64 (by omega) (by rw [hl]; omega)
  have hW := wrs_W (lblks e m (piecesF s)) k (f + m)
  rw [hl] at hW
  exact ⟨e1, by rw [e2]; exact w1, by unfold appA; rw [e2, w1]; rfl, hW, w4⟩
attribute [local irreducible] appK appE appA manyN lblks piecesF wrsK wrsE lgE
theorem new_W0 (n : Nat) : (newD n).W.length = 0 := by unfold newD; rfl

set_option maxRecDepth 100000 in
set_option maxHeartbeats 4000000 in
theorem logAppends_all (f b a : Int) (e : Nat) (hf0 : -9223372036854775808 ≤ f) (hf1 : f ≤ 9223372036854775807) (hb0 : -9223372036854775808 ≤ b) (hb1 : b ≤ 9223372036854775807) (ha0 : -9223372036854775808 ≤ a) (ha1 : a ≤ 9223372036854775807) (he : e < 4294967296) (o1 : Option Nat) (p1 q1 : Nat) (c1 : Array Value) (T1 : TypeId) (f1 : Nat × Nat) (ss : List (List UInt8)) (hs : Sees 1 o1 p1 q1 c1 (ss.map strC) ss.length) (hss : ∀ s ∈ ss, s.length ≤ 9223372036854775807) :
    Ct Tryd.prog 8 [.agg #[.int .i64 f, .int .i64 b, .int .i64 a, .int .u32 (e : Int)], sv o1 p1 ss.length q1] [(o1, .cells c1 T1 f1)] [] fun v post => v = .bool true ∧ post = [] := by
 have hs1 := hs.le
 have hs2 := hs.max
 refine ct_of Tryd.func8 rfl rfl (fun w0 => ?_)
 show G _ _ [(0, _), (1, _)] _ _
 refine G_seq ?_
 refine G_region (l := [0, 1]) rfl ?_
 refine G_new rfl rfl rfl rfl (N_boxA rfl rfl) (fun b2 => ?_)
 refine G_val rfl rfl rfl rfl (V_assign rfl rfl) ?_
 refine G_done ?_
 refine G_seq ?_
 refine G_seq ?_
 refine G_region (l := [0, 1, 2]) rfl ?_
 refine G_val rfl rfl rfl rfl (V_move rfl rfl) ?_
 refine G_val rfl rfl rfl rfl (V_len rfl rfl Tryd.underlying24 rfl) ?_
 refine G_val rfl rfl rfl rfl (V_gtr rfl rfl rfl) ?_
 refine G_done ?_
 refine G_ifD rfl (fun hc1 => ?_) (fun hc1 => ?_)
 · skip
   refine G_seq ?_
   refine G_region (l := [0, 1]) rfl ?_
   refine G_call (L2 := [_]) rfl rfl rfl rfl rfl rfl Tryd.call34 (ll_live) [] [] rfl rfl ?_
   rintro v post ⟨rfl, rfl⟩
   show G _ _ _ [_] _
   refine G_val rfl rfl rfl rfl (V_assign rfl rfl) ?_
   refine G_done ?_
   refine G_ret (post := []) Tryd.func8 rfl (RVs_cons (RV_tmp rfl) RVs_nil) [] rfl ?_
   dsimp only [packed]
   exact ⟨rfl, rfl⟩
 refine G_skip ?_
 refine G_seq ?_
 refine G_region (l := [0, 1, 2, 3, 4, 5]) rfl ?_
 refine G_call (L2 := [_]) rfl rfl rfl rfl rfl rfl Tryd.call17 (dk_new 20 (by omega) (by omega)) [] [] rfl rfl ?_
 rintro v post ⟨d, lb, lcap, lcs, rfl, h, rfl⟩
 show G _ _ _ [_, _, _, _] _
 refine G_val rfl rfl rfl rfl (V_move rfl rfl) ?_
 refine G_val rfl rfl rfl rfl (V_extract rfl rfl rfl) ?_
 refine G_val rfl rfl rfl rfl (V_extract rfl rfl rfl) ?_
 refine G_val rfl rfl rfl rfl (V_assign rfl rfl) ?_
 refine G_val rfl rfl rfl rfl (V_assign rfl rfl) ?_
 refine G_done ?_
 refine G_seq ?_
 rcases ap_cases f b a e with ⟨c1, c2⟩ | ⟨c1, c2, c3⟩ | ⟨m0, rfl, c1, c2, c3, c4, c5, c6, c7⟩
 · skip
   refine G_region (l := [0, 1, 2, 3, 4, 5, 6, 7, 8, 9, 10, 11, 12, 13, 14]) rfl ?_
   refine G_val rfl rfl rfl rfl (V_move rfl rfl) ?_
   refine G_val rfl rfl rfl rfl (V_fieldAddr (fo := 0) rfl Tryd.underlying65 rfl infLawLogAppends_3 rfl rfl rfl) ?_
   refine G_val rfl rfl rfl rfl (V_load1 rfl rfl (mem_at 4 rfl) rfl Tryd.underlying3 rfl) ?_
   refine G_val rfl rfl rfl rfl (V_fieldAddr (fo := 1) rfl Tryd.underlying65 rfl infLawLogAppends_3 rfl rfl rfl) ?_
   refine G_val rfl rfl rfl rfl (V_load1 rfl rfl (mem_at 4 rfl) rfl Tryd.underlying3 rfl) ?_
   refine G_val rfl rfl rfl rfl (V_fieldAddr (fo := 3) rfl Tryd.underlying65 rfl infLawLogAppends_22 rfl rfl rfl) ?_
   refine G_val rfl rfl rfl rfl (V_load1 rfl rfl (mem_at 4 rfl) rfl Tryd.underlying22 rfl) ?_
   refine G_val rfl rfl rfl rfl (V_fieldAddr (fo := 2) rfl Tryd.underlying65 rfl infLawLogAppends_3 rfl rfl rfl) ?_
   refine G_val rfl rfl rfl rfl (V_load1 rfl rfl (mem_at 4 rfl) rfl Tryd.underlying3 rfl) ?_
   refine G_call (L2 := [_, _, _, _]) rfl rfl rfl rfl rfl rfl Tryd.call35 ((lg_new d 20 lb lcap lcs slNil (newD 20) h f b (by omega) (by omega) (by omega) (by omega) e a (by omega) (by omega) (by omega)).weaken (fun v post h => lg_new_no (.inl c2) h)) [] [1] rfl rfl ?_
   rintro v post ⟨rfl, rfl⟩
   show G _ _ _ [_, _, _, _] _
   refine G_val rfl rfl rfl rfl (V_move rfl rfl) ?_
   refine G_val rfl rfl rfl rfl (V_extract rfl rfl rfl) ?_
   refine G_val rfl rfl rfl rfl (V_extract rfl rfl rfl) ?_
   refine G_val rfl rfl rfl rfl (V_assign rfl rfl) ?_
   refine G_val rfl rfl rfl rfl (V_assign rfl rfl) ?_
   refine G_done ?_
   refine G_seq ?_
   refine G_seq ?_
   refine G_region (l := [0, 1, 2, 3, 4, 5, 6, 7, 8, 9, 10, 11, 12, 13, 14, 15, 16, 17, 18, 19, 20, 21, 22]) rfl ?_
   refine G_val rfl rfl rfl rfl (V_fieldAddr (fo := 0) rfl Tryd.underlying65 rfl infLawLogAppends_3 rfl rfl rfl) ?_
   refine G_val rfl rfl rfl rfl (V_load1 rfl rfl (mem_at 4 rfl) rfl Tryd.underlying3 rfl) ?_
   refine G_val rfl rfl rfl rfl (V_fieldAddr (fo := 1) rfl Tryd.underlying65 rfl infLawLogAppends_3 rfl rfl rfl) ?_
   refine G_val rfl rfl rfl rfl (V_load1 rfl rfl (mem_at 4 rfl) rfl Tryd.underlying3 rfl) ?_
   refine G_call (L2 := [_, _, _, _]) rfl rfl rfl rfl rfl rfl Tryd.call36 ((rl_region 20 f b (by omega) (by omega) (by omega) (by omega) (by omega)).weaken (fun v post h => by rw [decide_eq_false c1] at h; exact h)) [] [] rfl rfl ?_
   rintro v post ⟨rfl, rfl⟩
   show G _ _ _ [_, _, _, _] _
   refine G_val rfl rfl rfl rfl (V_not rfl rfl) ?_
   refine G_val rfl rfl rfl rfl (V_move rfl rfl) ?_
   refine G_off rfl rfl rfl rfl ?_
   refine G_off rfl rfl rfl rfl ?_
   refine G_off rfl rfl rfl rfl ?_
   refine G_val rfl rfl rfl rfl (V_pickT rfl rfl rfl) ?_
   refine G_val rfl rfl rfl rfl (V_move rfl rfl) ?_
   refine G_off rfl rfl rfl rfl ?_
   refine G_off rfl rfl rfl rfl ?_
   refine G_off rfl rfl rfl rfl ?_
   refine G_val rfl rfl rfl rfl (V_pickT rfl rfl rfl) ?_
   refine G_val rfl rfl rfl rfl (V_move rfl rfl) ?_
   refine G_off rfl rfl rfl rfl ?_
   refine G_off rfl rfl rfl rfl ?_
   refine G_off rfl rfl rfl rfl ?_
   refine G_off rfl rfl rfl rfl ?_
   refine G_off rfl rfl rfl rfl ?_
   refine G_val rfl rfl rfl rfl (V_pickT rfl rfl rfl) ?_
   refine G_done ?_
   refine G_then rfl ?_
   refine G_seq ?_
   refine G_region (l := [0, 1, 2, 3, 4, 5, 6, 7, 8, 9, 10, 11, 12, 13, 14, 15]) rfl ?_
   refine G_val rfl rfl rfl rfl (V_move rfl rfl) ?_
   refine G_call (L2 := [_, _, _, _]) rfl rfl rfl rfl rfl rfl Tryd.call37 (ll_num _) [] [] rfl rfl ?_
   rintro v post ⟨rfl, rfl⟩
   show G _ _ _ [_, _, _, _] _
   refine G_val rfl rfl rfl rfl (V_eql rfl rfl rfl) ?_
   refine G_val rfl rfl rfl rfl (V_move rfl rfl) ?_
   refine G_splitD 68 rfl (fun hc2 => ?_) (fun hc2 => ?_)
   rotate_left
   · (first | (exact absurd rfl hc2) | (exfalso; omega) | (exfalso; simp at hc2; done))
   refine G_val rfl rfl rfl rfl (V_move rfl rfl) ?_
   refine G_call (L2 := [_, _, _, _]) rfl rfl rfl rfl rfl rfl Tryd.call37 (ll_num _) [] [] rfl rfl ?_
   rintro v post ⟨rfl, rfl⟩
   show G _ _ _ [_, _, _, _] _
   refine G_val rfl rfl rfl rfl (V_eql rfl rfl rfl) ?_
   refine G_val rfl rfl rfl rfl (V_pickT rfl rfl rfl) ?_
   refine G_val rfl rfl rfl rfl (V_move rfl rfl) ?_
   refine G_splitD 73 rfl (fun hc3 => ?_) (fun hc3 => ?_)
   rotate_left
   · (first | (exact absurd rfl hc3) | (exfalso; omega) | (exfalso; simp at hc3; done))
   refine G_val rfl rfl rfl rfl (V_move rfl rfl) ?_
   refine G_val rfl rfl rfl rfl (V_peqlN rfl Tryd.underlying66 rfl rfl) ?_
   refine G_val rfl rfl rfl rfl (V_pickT rfl rfl rfl) ?_
   refine G_val rfl rfl rfl rfl (V_move rfl rfl) ?_
   refine G_split 77 rfl (fun hc4 => ?_) (fun hc4 => ?_)
   rotate_left
   · (first | (exact absurd rfl hc4) | (exfalso; omega) | (exfalso; simp at hc4; done))
   refine G_call (L2 := [_, _, _, _]) rfl rfl rfl rfl rfl rfl Tryd.call34 (ll_live) [] [] rfl rfl ?_
   rintro v post ⟨rfl, rfl⟩
   show G _ _ _ [_, _, _, _] _
   refine G_val rfl rfl rfl rfl (V_pickT rfl rfl rfl) ?_
   refine G_val rfl rfl rfl rfl (V_assign rfl rfl) ?_
   refine G_done ?_
   refine G_ret (post := []) Tryd.func8 rfl (RVs_cons (RV_tmp rfl) RVs_nil) [] rfl ?_
   dsimp only [packed]
   exact ⟨rfl, rfl⟩
 · skip
   refine G_region (l := [0, 1, 2, 3, 4, 5, 6, 7, 8, 9, 10, 11, 12, 13, 14]) rfl ?_
   refine G_val rfl rfl rfl rfl (V_move rfl rfl) ?_
   refine G_val rfl rfl rfl rfl (V_fieldAddr (fo := 0) rfl Tryd.underlying65 rfl infLawLogAppends_3 rfl rfl rfl) ?_
   refine G_val rfl rfl rfl rfl (V_load1 rfl rfl (mem_at 4 rfl) rfl Tryd.underlying3 rfl) ?_
   refine G_val rfl rfl rfl rfl (V_fieldAddr (fo := 1) rfl Tryd.underlying65 rfl infLawLogAppends_3 rfl rfl rfl) ?_
   refine G_val rfl rfl rfl rfl (V_load1 rfl rfl (mem_at 4 rfl) rfl Tryd.underlying3 rfl) ?_
   refine G_val rfl rfl rfl rfl (V_fieldAddr (fo := 3) rfl Tryd.underlying65 rfl infLawLogAppends_22 rfl rfl rfl) ?_
   refine G_val rfl rfl rfl rfl (V_load1 rfl rfl (mem_at 4 rfl) rfl Tryd.underlying22 rfl) ?_
   refine G_val rfl rfl rfl rfl (V_fieldAddr (fo := 2) rfl Tryd.underlying65 rfl infLawLogAppends_3 rfl rfl rfl) ?_
   refine G_val rfl rfl rfl rfl (V_load1 rfl rfl (mem_at 4 rfl) rfl Tryd.underlying3 rfl) ?_
   refine G_call (L2 := [_, _, _, _]) rfl rfl rfl rfl rfl rfl Tryd.call35 ((lg_new d 20 lb lcap lcs slNil (newD 20) h f b (by omega) (by omega) (by omega) (by omega) e a (by omega) (by omega) (by omega)).weaken (fun v post h => lg_new_no (.inr c3) h)) [] [1] rfl rfl ?_
   rintro v post ⟨rfl, rfl⟩
   show G _ _ _ [_, _, _, _] _
   refine G_val rfl rfl rfl rfl (V_move rfl rfl) ?_
   refine G_val rfl rfl rfl rfl (V_extract rfl rfl rfl) ?_
   refine G_val rfl rfl rfl rfl (V_extract rfl rfl rfl) ?_
   refine G_val rfl rfl rfl rfl (V_assign rfl rfl) ?_
   refine G_val rfl rfl rfl rfl (V_assign rfl rfl) ?_
   refine G_done ?_
   refine G_seq ?_
   refine G_seq ?_
   refine G_region (l := [0, 1, 2, 3, 4, 5, 6, 7, 8, 9, 10, 11, 12, 13, 14, 15, 16, 17, 18, 19, 20, 21, 22]) rfl ?_
   refine G_val rfl rfl rfl rfl (V_fieldAddr (fo := 0) rfl Tryd.underlying65 rfl infLawLogAppends_3 rfl rfl rfl) ?_
   refine G_val rfl rfl rfl rfl (V_load1 rfl rfl (mem_at 4 rfl) rfl Tryd.underlying3 rfl) ?_
   refine G_val rfl rfl rfl rfl (V_fieldAddr (fo := 1) rfl Tryd.underlying65 rfl infLawLogAppends_3 rfl rfl rfl) ?_
   refine G_val rfl rfl rfl rfl (V_load1 rfl rfl (mem_at 4 rfl) rfl Tryd.underlying3 rfl) ?_
   refine G_call (L2 := [_, _, _, _]) rfl rfl rfl rfl rfl rfl Tryd.call36 ((rl_region 20 f b (by omega) (by omega) (by omega) (by omega) (by omega)).weaken (fun v post h => by rw [decide_eq_true c1] at h; exact h)) [] [] rfl rfl ?_
   rintro v post ⟨rfl, rfl⟩
   show G _ _ _ [_, _, _, _] _
   refine G_val rfl rfl rfl rfl (V_not rfl rfl) ?_
   refine G_val rfl rfl rfl rfl (V_move rfl rfl) ?_
   refine G_val rfl rfl rfl rfl (V_fieldAddr (fo := 3) rfl Tryd.underlying65 rfl infLawLogAppends_22 rfl rfl rfl) ?_
   refine G_val rfl rfl rfl rfl (V_load1 rfl rfl (mem_at 4 rfl) rfl Tryd.underlying22 rfl) ?_
   refine G_val rfl rfl rfl rfl (V_eql rfl rfl rfl) ?_
   refine G_val rfl rfl rfl rfl (V_pickF rfl rfl rfl) ?_
   refine G_val rfl rfl rfl rfl (V_move rfl rfl) ?_
   refine G_splitD 53 rfl (fun hc2 => ?_) (fun hc2 => ?_)
   · skip
     refine G_off rfl rfl rfl rfl ?_
     refine G_off rfl rfl rfl rfl ?_
     refine G_off rfl rfl rfl rfl ?_
     refine G_val rfl rfl rfl rfl (V_pickT rfl rfl rfl) ?_
     refine G_val rfl rfl rfl rfl (V_move rfl rfl) ?_
     refine G_off rfl rfl rfl rfl ?_
     refine G_off rfl rfl rfl rfl ?_
     refine G_off rfl rfl rfl rfl ?_
     refine G_off rfl rfl rfl rfl ?_
     refine G_off rfl rfl rfl rfl ?_
     refine G_val rfl rfl rfl rfl (V_pickT rfl rfl rfl) ?_
     refine G_done ?_
     refine G_then rfl ?_
     refine G_seq ?_
     refine G_region (l := [0, 1, 2, 3, 4, 5, 6, 7, 8, 9, 10, 11, 12, 13, 14, 15]) rfl ?_
     refine G_val rfl rfl rfl rfl (V_move rfl rfl) ?_
     refine G_call (L2 := [_, _, _, _]) rfl rfl rfl rfl rfl rfl Tryd.call37 (ll_num _) [] [] rfl rfl ?_
     rintro v post ⟨rfl, rfl⟩
     show G _ _ _ [_, _, _, _] _
     refine G_val rfl rfl rfl rfl (V_eql rfl rfl rfl) ?_
     refine G_val rfl rfl rfl rfl (V_move rfl rfl) ?_
     refine G_splitD 68 rfl (fun hc3 => ?_) (fun hc3 => ?_)
     rotate_left
     · (first | (exact absurd rfl hc3) | (exfalso; omega) | (exfalso; simp at hc3; done))
     refine G_val rfl rfl rfl rfl (V_move rfl rfl) ?_
     refine G_call (L2 := [_, _, _, _]) rfl rfl rfl rfl rfl rfl Tryd.call37 (ll_num _) [] [] rfl rfl ?_
     rintro v post ⟨rfl, rfl⟩
     show G _ _ _ [_, _, _, _] _
     refine G_val rfl rfl rfl rfl (V_eql rfl rfl rfl) ?_
     refine G_val rfl rfl rfl rfl (V_pickT rfl rfl rfl) ?_
     refine G_val rfl rfl rfl rfl (V_move rfl rfl) ?_
     refine G_splitD 73 rfl (fun hc4 => ?_) (fun hc4 => ?_)
     rotate_left
     · (first | (exact absurd rfl hc4) | (exfalso; omega) | (exfalso; simp at hc4; done))
     refine G_val rfl rfl rfl rfl (V_move rfl rfl) ?_
     refine G_val rfl rfl rfl rfl (V_peqlN rfl Tryd.underlying66 rfl rfl) ?_
     refine G_val rfl rfl rfl rfl (V_pickT rfl rfl rfl) ?_
     refine G_val rfl rfl rfl rfl (V_move rfl rfl) ?_
     refine G_split 77 rfl (fun hc5 => ?_) (fun hc5 => ?_)
     rotate_left
     · (first | (exact absurd rfl hc5) | (exfalso; omega) | (exfalso; simp at hc5; done))
     refine G_call (L2 := [_, _, _, _]) rfl rfl rfl rfl rfl rfl Tryd.call34 (ll_live) [] [] rfl rfl ?_
     rintro v post ⟨rfl, rfl⟩
     show G _ _ _ [_, _, _, _] _
     refine G_val rfl rfl rfl rfl (V_pickT rfl rfl rfl) ?_
     refine G_val rfl rfl rfl rfl (V_assign rfl rfl) ?_
     refine G_done ?_
     refine G_ret (post := []) Tryd.func8 rfl (RVs_cons (RV_tmp rfl) RVs_nil) [] rfl ?_
     dsimp only [packed]
     exact ⟨rfl, rfl⟩
   refine G_val rfl rfl rfl rfl (V_fieldAddr (fo := 2) rfl Tryd.underlying65 rfl infLawLogAppends_3 rfl rfl rfl) ?_
   refine G_val rfl rfl rfl rfl (V_load1 rfl rfl (mem_at 4 rfl) rfl Tryd.underlying3 rfl) ?_
   refine G_val rfl rfl rfl rfl (V_lss rfl rfl rfl) ?_
   refine G_val rfl rfl rfl rfl (V_pickF rfl rfl rfl) ?_
   refine G_val rfl rfl rfl rfl (V_move rfl rfl) ?_
   refine G_splitD 58 rfl (fun hc3 => ?_) (fun hc3 => ?_)
   · skip
     refine G_off rfl rfl rfl rfl ?_
     refine G_off rfl rfl rfl rfl ?_
     refine G_off rfl rfl rfl rfl ?_
     refine G_off rfl rfl rfl rfl ?_
     refine G_off rfl rfl rfl rfl ?_
     refine G_val rfl rfl rfl rfl (V_pickT rfl rfl rfl) ?_
     refine G_done ?_
     refine G_then rfl ?_
     refine G_seq ?_
     refine G_region (l := [0, 1, 2, 3, 4, 5, 6, 7, 8, 9, 10, 11, 12, 13, 14, 15]) rfl ?_
     refine G_val rfl rfl rfl rfl (V_move rfl rfl) ?_
     refine G_call (L2 := [_, _, _, _]) rfl rfl rfl rfl rfl rfl Tryd.call37 (ll_num _) [] [] rfl rfl ?_
     rintro v post ⟨rfl, rfl⟩
     show G _ _ _ [_, _, _, _] _
     refine G_val rfl rfl rfl rfl (V_eql rfl rfl rfl) ?_
     refine G_val rfl rfl rfl rfl (V_move rfl rfl) ?_
     refine G_splitD 68 rfl (fun hc4 => ?_) (fun hc4 => ?_)
     rotate_left
     · (first | (exact absurd rfl hc4) | (exfalso; omega) | (exfalso; simp at hc4; done))
     refine G_val rfl rfl rfl rfl (V_move rfl rfl) ?_
     refine G_call (L2 := [_, _, _, _]) rfl rfl rfl rfl rfl rfl Tryd.call37 (ll_num _) [] [] rfl rfl ?_
     rintro v post ⟨rfl, rfl⟩
     show G _ _ _ [_, _, _, _] _
     refine G_val rfl rfl rfl rfl (V_eql rfl rfl rfl) ?_
     refine G_val rfl rfl rfl rfl (V_pickT rfl rfl rfl) ?_
     refine G_val rfl rfl rfl rfl (V_move rfl rfl) ?_
     refine G_splitD 73 rfl (fun hc5 => ?_) (fun hc5 => ?_)
     rotate_left
     · (first | (exact absurd rfl hc5) | (exfalso; omega) | (exfalso; simp at hc5; done))
     refine G_val rfl rfl rfl rfl (V_move rfl rfl) ?_
     refine G_val rfl rfl rfl rfl (V_peqlN rfl Tryd.underlying66 rfl rfl) ?_
     refine G_val rfl rfl rfl rfl (V_pickT rfl rfl rfl) ?_
     refine G_val rfl rfl rfl rfl (V_move rfl rfl) ?_
     refine G_split 77 rfl (fun hc6 => ?_) (fun hc6 => ?_)
     rotate_left
     · (first | (exact absurd rfl hc6) | (exfalso; omega) | (exfalso; simp at hc6; done))
     refine G_call (L2 := [_, _, _, _]) rfl rfl rfl rfl rfl rfl Tryd.call34 (ll_live) [] [] rfl rfl ?_
     rintro v post ⟨rfl, rfl⟩
     show G _ _ _ [_, _, _, _] _
     refine G_val rfl rfl rfl rfl (V_pickT rfl rfl rfl) ?_
     refine G_val rfl rfl rfl rfl (V_assign rfl rfl) ?_
     refine G_done ?_
     refine G_ret (post := []) Tryd.func8 rfl (RVs_cons (RV_tmp rfl) RVs_nil) [] rfl ?_
     dsimp only [packed]
     exact ⟨rfl, rfl⟩
   refine G_val rfl rfl rfl rfl (V_fieldAddr (fo := 2) rfl Tryd.underlying65 rfl infLawLogAppends_3 rfl rfl rfl) ?_
   refine G_val rfl rfl rfl rfl (V_load1 rfl rfl (mem_at 4 rfl) rfl Tryd.underlying3 rfl) ?_
   refine G_val rfl rfl rfl rfl (V_fieldAddr (fo := 1) rfl Tryd.underlying65 rfl infLawLogAppends_3 rfl rfl rfl) ?_
   refine G_val rfl rfl rfl rfl (V_load1 rfl rfl (mem_at 4 rfl) rfl Tryd.underlying3 rfl) ?_
   refine G_val rfl rfl rfl rfl (V_gtr rfl rfl rfl) ?_
   refine G_val rfl rfl rfl rfl (V_pickF rfl rfl rfl) ?_
   refine G_done ?_
   refine G_ifD rfl (fun hc4 => ?_) (fun hc4 => ?_)
   rotate_left
   · (first | (exact absurd rfl hc4) | (exfalso; omega) | (exfalso; simp at hc4; done))
   refine G_seq ?_
   refine G_region (l := [0, 1, 2, 3, 4, 5, 6, 7, 8, 9, 10, 11, 12, 13, 14, 15]) rfl ?_
   refine G_val rfl rfl rfl rfl (V_move rfl rfl) ?_
   refine G_call (L2 := [_, _, _, _]) rfl rfl rfl rfl rfl rfl Tryd.call37 (ll_num _) [] [] rfl rfl ?_
   rintro v post ⟨rfl, rfl⟩
   show G _ _ _ [_, _, _, _] _
   refine G_val rfl rfl rfl rfl (V_eql rfl rfl rfl) ?_
   refine G_val rfl rfl rfl rfl (V_move rfl rfl) ?_
   refine G_splitD 68 rfl (fun hc5 => ?_) (fun hc5 => ?_)
   rotate_left
   · (first | (exact absurd rfl hc5) | (exfalso; omega) | (exfalso; simp at hc5; done))
   refine G_val rfl rfl rfl rfl (V_move rfl rfl) ?_
   refine G_call (L2 := [_, _, _, _]) rfl rfl rfl rfl rfl rfl Tryd.call37 (ll_num _) [] [] rfl rfl ?_
   rintro v post ⟨rfl, rfl⟩
   show G _ _ _ [_, _, _, _] _
   refine G_val rfl rfl rfl rfl (V_eql rfl rfl rfl) ?_
   refine G_val rfl rfl rfl rfl (V_pickT rfl rfl rfl) ?_
   refine G_val rfl rfl rfl rfl (V_move rfl rfl) ?_
   refine G_splitD 73 rfl (fun hc6 => ?_) (fun hc6 => ?_)
   rotate_left
   · (first | (exact absurd rfl hc6) | (exfalso; omega) | (exfalso; simp at hc6; done))
   refine G_val rfl rfl rfl rfl (V_move rfl rfl) ?_
   refine G_val rfl rfl rfl rfl (V_peqlN rfl Tryd.underlying66 rfl rfl) ?_
   refine G_val rfl rfl rfl rfl (V_pickT rfl rfl rfl) ?_
   refine G_val rfl rfl rfl rfl (V_move rfl rfl) ?_
   refine G_split 77 rfl (fun hc7 => ?_) (fun hc7 => ?_)
   rotate_left
   · (first | (exact absurd rfl hc7) | (exfalso; omega) | (exfalso; simp at hc7; done))
   refine G_call (L2 := [_, _, _, _]) rfl rfl rfl rfl rfl rfl Tryd.call34 (ll_live) [] [] rfl rfl ?_
   rintro v post ⟨rfl, rfl⟩
   show G _ _ _ [_, _, _, _] _
   refine G_val rfl rfl rfl rfl (V_pickT rfl rfl rfl) ?_
   refine G_val rfl rfl rfl rfl (V_assign rfl rfl) ?_
   refine G_done ?_
   refine G_ret (post := []) Tryd.func8 rfl (RVs_cons (RV_tmp rfl) RVs_nil) [] rfl ?_
   dsimp only [packed]
   exact ⟨rfl, rfl⟩
 · skip
   refine G_region (l := [0, 1, 2, 3, 4, 5, 6, 7, 8, 9, 10, 11, 12, 13, 14]) rfl ?_
   refine G_val rfl rfl rfl rfl (V_move rfl rfl) ?_
   refine G_val rfl rfl rfl rfl (V_fieldAddr (fo := 0) rfl Tryd.underlying65 rfl infLawLogAppends_3 rfl rfl rfl) ?_
   refine G_val rfl rfl rfl rfl (V_load1 rfl rfl (mem_at 4 rfl) rfl Tryd.underlying3 rfl) ?_
   refine G_val rfl rfl rfl rfl (V_fieldAddr (fo := 1) rfl Tryd.underlying65 rfl infLawLogAppends_3 rfl rfl rfl) ?_
   refine G_val rfl rfl rfl rfl (V_load1 rfl rfl (mem_at 4 rfl) rfl Tryd.underlying3 rfl) ?_
   refine G_val rfl rfl rfl rfl (V_fieldAddr (fo := 3) rfl Tryd.underlying65 rfl infLawLogAppends_22 rfl rfl rfl) ?_
   refine G_val rfl rfl rfl rfl (V_load1 rfl rfl (mem_at 4 rfl) rfl Tryd.underlying22 rfl) ?_
   refine G_val rfl rfl rfl rfl (V_fieldAddr (fo := 2) rfl Tryd.underlying65 rfl infLawLogAppends_3 rfl rfl rfl) ?_
   refine G_val rfl rfl rfl rfl (V_load1 rfl rfl (mem_at 4 rfl) rfl Tryd.underlying3 rfl) ?_
   refine G_call (L2 := [_, _, _, _]) rfl rfl rfl rfl rfl rfl Tryd.call35 ((lg_new d 20 lb lcap lcs slNil (newD 20) h f b (by omega) (by omega) (by omega) (by omega) e (m0 : Int) (by omega) (by omega) (by omega)).weaken (fun v post h => lg_new_ok c2 c3 (by omega) c4 h)) [] [1] rfl rfl ?_
   rintro v post ⟨g, rfl, rfl⟩
   show G _ _ _ [_, _, _, _, _] _
   refine G_val rfl rfl rfl rfl (V_move rfl rfl) ?_
   refine G_val rfl rfl rfl rfl (V_extract rfl rfl rfl) ?_
   refine G_val rfl rfl rfl rfl (V_extract rfl rfl rfl) ?_
   refine G_val rfl rfl rfl rfl (V_assign rfl rfl) ?_
   refine G_val rfl rfl rfl rfl (V_assign rfl rfl) ?_
   refine G_done ?_
   refine G_seq ?_
   refine G_seq ?_
   refine G_region (l := [0, 1, 2, 3, 4, 5, 6, 7, 8, 9, 10, 11, 12, 13, 14, 15, 16, 17, 18, 19, 20, 21, 22]) rfl ?_
   refine G_val rfl rfl rfl rfl (V_fieldAddr (fo := 0) rfl Tryd.underlying65 rfl infLawLogAppends_3 rfl rfl rfl) ?_
   refine G_val rfl rfl rfl rfl (V_load1 rfl rfl (mem_at 5 rfl) rfl Tryd.underlying3 rfl) ?_
   refine G_val rfl rfl rfl rfl (V_fieldAddr (fo := 1) rfl Tryd.underlying65 rfl infLawLogAppends_3 rfl rfl rfl) ?_
   refine G_val rfl rfl rfl rfl (V_load1 rfl rfl (mem_at 5 rfl) rfl Tryd.underlying3 rfl) ?_
   refine G_call (L2 := [_, _, _, _, _]) rfl rfl rfl rfl rfl rfl Tryd.call36 ((rl_region 20 f b (by omega) (by omega) (by omega) (by omega) (by omega)).weaken (fun v post h => by rw [decide_eq_true c1] at h; exact h)) [] [] rfl rfl ?_
   rintro v post ⟨rfl, rfl⟩
   show G _ _ _ [_, _, _, _, _] _
   refine G_val rfl rfl rfl rfl (V_not rfl rfl) ?_
   refine G_val rfl rfl rfl rfl (V_move rfl rfl) ?_
   refine G_val rfl rfl rfl rfl (V_fieldAddr (fo := 3) rfl Tryd.underlying65 rfl infLawLogAppends_22 rfl rfl rfl) ?_
   refine G_val rfl rfl rfl rfl (V_load1 rfl rfl (mem_at 5 rfl) rfl Tryd.underlying22 rfl) ?_
   refine G_val rfl rfl rfl rfl (V_eql rfl rfl rfl) ?_
   refine G_val rfl rfl rfl rfl (V_pickF rfl rfl rfl) ?_
   refine G_val rfl rfl rfl rfl (V_move rfl rfl) ?_
   refine G_splitD 53 rfl (fun hc2 => ?_) (fun hc2 => ?_)
   · (first | (exact absurd rfl hc2) | (exfalso; omega) | (exfalso; simp at hc2; done))
   refine G_val rfl rfl rfl rfl (V_fieldAddr (fo := 2) rfl Tryd.underlying65 rfl infLawLogAppends_3 rfl rfl rfl) ?_
   refine G_val rfl rfl rfl rfl (V_load1 rfl rfl (mem_at 5 rfl) rfl Tryd.underlying3 rfl) ?_
   refine G_val rfl rfl rfl rfl (V_lss rfl rfl rfl) ?_
   refine G_val rfl rfl rfl rfl (V_pickF rfl rfl rfl) ?_
   refine G_val rfl rfl rfl rfl (V_move rfl rfl) ?_
   refine G_splitD 58 rfl (fun hc3 => ?_) (fun hc3 => ?_)
   · (first | (exact absurd rfl hc3) | (exfalso; omega) | (exfalso; simp at hc3; done))
   refine G_val rfl rfl rfl rfl (V_fieldAddr (fo := 2) rfl Tryd.underlying65 rfl infLawLogAppends_3 rfl rfl rfl) ?_
   refine G_val rfl rfl rfl rfl (V_load1 rfl rfl (mem_at 5 rfl) rfl Tryd.underlying3 rfl) ?_
   refine G_val rfl rfl rfl rfl (V_fieldAddr (fo := 1) rfl Tryd.underlying65 rfl infLawLogAppends_3 rfl rfl rfl) ?_
   refine G_val rfl rfl rfl rfl (V_load1 rfl rfl (mem_at 5 rfl) rfl Tryd.underlying3 rfl) ?_
   refine G_val rfl rfl rfl rfl (V_gtr rfl rfl rfl) ?_
   refine G_val rfl rfl rfl rfl (V_pickF rfl rfl rfl) ?_
   refine G_done ?_
   refine G_ifD rfl (fun hc4 => ?_) (fun hc4 => ?_)
   · (first | (exact absurd rfl hc4) | (exfalso; omega) | (exfalso; simp at hc4; done))
   refine G_skip ?_
   refine G_seq ?_
   refine G_region (l := [0, 1, 2]) rfl ?_
   refine G_call (L2 := [_, _, _, _, _]) rfl rfl rfl rfl rfl rfl Tryd.call38 (ap_new 20 (by omega) (by omega)) [] [] rfl rfl ?_
   rintro v post ⟨lb2, lcap2, lcs2, rfl, h2, rfl⟩
   show G _ _ _ [_, _, _, _, _, _, _] _
   refine G_new rfl rfl rfl rfl (N_allocA rfl infLawLogAppends_72 rfl) (fun b9 => ?_)
   refine G_put (l1 := []) (L' := [_, _, _, _, _, _, _, _]) rfl rfl rfl rfl (P_storeA (s := 4) rfl rfl rfl (mem_at 0 rfl) (by first | rfl | (simp [bcells_length, wCells, kCells, rgC, lgC, rdC, Sl.v]; done) | (simp [bcells_length, wCells, kCells, rgC, lgC, rdC, Sl.v]; omega) | (simp [bcells_length, *, wCells, kCells, rgC, lgC, rdC, Sl.v]; done)) infLawLogAppends_72 rfl (by first | rfl | (simp [bcells_length, wCells, kCells, rgC, lgC, rdC, Sl.v]; done) | (simp [bcells_length, wCells, kCells, rgC, lgC, rdC, Sl.v]; omega) | (simp [bcells_length, *, wCells, kCells, rgC, lgC, rdC, Sl.v]; done)) (by first | rfl | exact bcells_all _ | (simp [Value.oneCell', wCells, kCells, rgC, lgC, rdC, Sl.v]; done) | (simp [Value.oneCell', *, wCells, kCells, rgC, lgC, rdC, Sl.v]; done))) rfl ?_
   refine G_done ?_
   refine G_seq ?_
   refine G_region (l := [0, 1, 2]) rfl ?_
   refine G_val rfl rfl rfl rfl (V_fieldAddr (fo := 2) rfl Tryd.underlying65 rfl infLawLogAppends_3 rfl rfl rfl) ?_
   refine G_val rfl rfl rfl rfl (V_load1 rfl rfl (mem_at 8 rfl) rfl Tryd.underlying3 rfl) ?_
   refine G_val rfl rfl rfl rfl (V_assign rfl rfl) ?_
   refine G_done ?_
   refine G_seq ?_
   refine G_seq ?_
   refine G_region (l := [0]) rfl ?_
   refine G_val rfl rfl rfl rfl (V_assign rfl rfl) ?_
   refine G_done ?_
   refine G_block ?_
   refine G_sub ?he10 [7, 3, 3, 3, 3, 0, 0, 0] ?hl10 (G_loop (X := Nat × Dk × Nat × Array Value × Sl × Sl) (fun x => match x with | ⟨i, kk, m, cs, v, v2⟩ => i ≤ ss.length ∧ DkAt kk 20 lb cs lcap v ∧ DkAt kk 20 lb2 lcs2 lcap2 v2 ∧ Lively kk ∧ (m : Int) ≤ b ∧ kk.W.length ≤ 21 * i) (fun x => match x with | ⟨i, kk, m, cs, v, v2⟩ => ss.length - i) (fun x => match x with | ⟨i, kk, m, cs, v, v2⟩ => [(1, sv o1 p1 ss.length q1), (2, .pointer (some ⟨b2, 0, none⟩)), (5, .pointer (some ⟨d, 0, none⟩)), (6, .int .i64 0), (7, .pointer (some ⟨g, 0, none⟩)), (8, .int .i64 0), (9, .pointer (some ⟨b9, 0, none⟩)), (10, .int .i64 (m : Int)), (11, .int .i64 (i : Int))]) (fun x => match x with | ⟨i, kk, m, cs, v, v2⟩ => [(some b2, .cells #[.int .i64 f, .int .i64 b, .int .i64 (m0 : Int), .int .u32 (e : Int)] 65 (0, 0)), (some g, .cells (lgC d f b e m).toArray 136 (0, 0)), (some d, .cells #[.slice (some ⟨lb, 0, none⟩) 20 lcap, v.v kk.W.length, .int .i64 kk.fuse, .bool kk.dead] 110 (0, 0)), (some lb, .cells cs 9 (0, 0)), (v.ob, .cells v.cs 116 v.fz), (some b9, .cells #[.slice (some ⟨lb2, 0, none⟩) 20 lcap2, v2.v kk.W.length, .int .i64 (-1), .bool false] 72 (0, 0)), (some lb2, .cells lcs2 9 (0, 0)), (v2.ob, .cells v2.cs 140 v2.fz)]) ?round10 (0, newD 20, m0, lcs, slNil, slNil) ?h010)
   case he10 => exact (And.intro rfl (And.intro rfl (And.intro rfl (And.intro rfl (And.intro rfl (And.intro rfl (And.intro rfl (And.intro rfl (And.intro rfl trivial)))))))))
   case hl10 => exact ⟨_, rfl⟩
   case h010 => exact ⟨Nat.zero_le _, h, h2, newD_lively 20, c4, by show (newD 20).W.length ≤ _; rw [new_W0]; exact Nat.zero_le _⟩
   case round10 =>
    intro x hJ ih
    try dsimp only at hJ ih
    obtain ⟨i, kk, m, cs, v, v2⟩ := x
    try dsimp only at hJ ih
    obtain ⟨hi, hkk, hk2, hlk, c4, hww⟩ := hJ
    show G _ _ [(1, sv o1 p1 ss.length q1), (2, .pointer (some ⟨b2, 0, none⟩)), (5, .pointer (some ⟨d, 0, none⟩)), (6, .int .i64 0), (7, .pointer (some ⟨g, 0, none⟩)), (8, .int .i64 0), (9, .pointer (some ⟨b9, 0, none⟩)), (10, .int .i64 (m : Int)), (11, .int .i64 (i : Int))] [(some b2, .cells #[.int .i64 f, .int .i64 b, .int .i64 (m0 : Int), .int .u32 (e : Int)] 65 (0, 0)), (some g, .cells (lgC d f b e m).toArray 136 (0, 0)), (some d, .cells #[.slice (some ⟨lb, 0, none⟩) 20 lcap, v.v kk.W.length, .int .i64 kk.fuse, .bool kk.dead] 110 (0, 0)), (some lb, .cells cs 9 (0, 0)), (v.ob, .cells v.cs 116 v.fz), (some b9, .cells #[.slice (some ⟨lb2, 0, none⟩) 20 lcap2, v2.v kk.W.length, .int .i64 (-1), .bool false] 72 (0, 0)), (some lb2, .cells lcs2 9 (0, 0)), (v2.ob, .cells v2.cs 140 v2.fz)] _
    refine G_seq ?_
    refine G_seq ?_
    refine G_region (l := [0, 1, 2, 3]) rfl ?_
    refine G_val rfl rfl rfl rfl (V_move rfl rfl) ?_
    refine G_val rfl rfl rfl rfl (V_move rfl rfl) ?_
    refine G_val rfl rfl rfl rfl (V_len rfl rfl Tryd.underlying24 rfl) ?_
    refine G_val rfl rfl rfl rfl (V_lss rfl rfl rfl) ?_
    refine G_done ?_
    refine G_ifD rfl (fun hc5 => ?_) (fun hc5 => ?_)
    · skip
      refine G_skip ?_
      refine G_seq ?_
      refine G_block ?_
      refine G_seq ?_
      obtain ⟨bq1, rfl⟩ := hs.isSome (by omega)
      obtain ⟨s, hx⟩ := getI (show i < ss.length by omega)
      have hsl := hss s (List.mem_of_getElem? hx)
      have hkl := hkk.len
      refine G_region (l := [0, 1, 2, 3, 4]) rfl ?_
      refine G_val rfl rfl rfl rfl (V_move rfl rfl) ?_
      refine G_val rfl rfl rfl rfl (V_move rfl rfl) ?_
      first
        | refine G_val rfl rfl rfl rfl (V_indexAddrN (s := 1) rfl Tryd.underlying24 infLawLogAppends_9 rfl rfl rfl rfl (by omega)) ?_
        | refine G_val rfl rfl rfl rfl (V_indexAddr (s := 1) rfl Tryd.underlying24 infLawLogAppends_9 rfl rfl rfl (by omega) (by first | omega | (simp [wCells, kCells, rgC, lgC, rdC, Sl.v]; done) | (simp [wCells, kCells, rgC, lgC, rdC, Sl.v]; omega) | (simp [wCells, kCells, rgC, lgC, rdC, Sl.v] at *; omega))) ?_
      refine G_val rfl rfl rfl rfl (V_load1 rfl rfl (mem_at 0 rfl) (nth_of (hs.cell hx)) Tryd.underlying9 rfl) ?_
      refine G_val rfl rfl rfl rfl (V_assign rfl rfl) ?_
      refine G_done ?_
      refine G_seq ?_
      refine G_seq ?_
      refine G_region (l := [0, 1, 2]) rfl ?_
      refine G_val rfl rfl rfl rfl (V_move rfl rfl) ?_
      refine G_val rfl rfl rfl rfl (V_slen rfl rfl Tryd.underlying9 rfl) ?_
      refine G_val rfl rfl rfl rfl (V_gtr rfl rfl rfl) ?_
      refine G_done ?_
      refine G_ifD rfl (fun hc6 => ?_) (fun hc6 => ?_)
      · skip
        refine G_seq ?_
        refine G_region (l := [0, 1]) rfl ?_
        refine G_call (L2 := [_, _, _, _, _, _, _, _]) rfl rfl rfl rfl rfl rfl Tryd.call34 (ll_live) [] [] rfl rfl ?_
        rintro v post ⟨rfl, rfl⟩
        show G _ _ _ [_, _, _, _, _, _, _, _] _
        refine G_val rfl rfl rfl rfl (V_assign rfl rfl) ?_
        refine G_done ?_
        refine G_ret (post := []) Tryd.func8 rfl (RVs_cons (RV_tmp rfl) RVs_nil) [] rfl ?_
        dsimp only [packed]
        exact ⟨rfl, rfl⟩
      refine G_skip ?_
      refine G_seq ?_
      refine G_region (l := [0]) rfl ?_
      refine G_val rfl rfl rfl rfl (V_assign rfl rfl) ?_
      refine G_done ?_
      refine G_seq ?_
      refine G_seq ?_
      rcases lgE3 (b - (m : Int)) s with ⟨d1, hE⟩ | ⟨d1, d2, hE⟩ | ⟨d1, d2, hE, d3⟩
      · skip
        refine G_region (l := [0, 1, 2]) rfl ?_
        refine G_val rfl rfl rfl rfl (V_move rfl rfl) ?_
        refine G_val rfl rfl rfl rfl (V_slen rfl rfl Tryd.underlying9 rfl) ?_
        refine G_val rfl rfl rfl rfl (V_gtr rfl rfl rfl) ?_
        refine G_done ?_
        refine G_ifD rfl (fun hc7 => ?_) (fun hc7 => ?_)
        rotate_left
        · (first | (exact absurd rfl hc7) | (exfalso; omega) | (exfalso; simp at hc7; done))
        refine G_region (l := [0]) rfl ?_
        refine G_val rfl rfl rfl rfl (V_assign rfl rfl) ?_
        refine G_done ?_
        refine G_seq ?_
        refine G_seq ?_
        refine G_region (l := [0, 1, 2, 3, 4, 5, 6, 7, 8, 9, 10, 11, 12, 13]) rfl ?_
        refine G_val rfl rfl rfl rfl (V_move rfl rfl) ?_
        refine G_val rfl rfl rfl rfl (V_move rfl rfl) ?_
        refine G_call (L2 := [_, _, _, _, _, _, _, _]) rfl rfl rfl rfl rfl rfl Tryd.call40 ((lg_fits d g f b e m s (by omega) (by omega) (by omega) (by omega)).weaken (fun v post h => by rw [fits_no (by omega)] at h; exact h)) [] [2] rfl rfl ?_
        rintro v post ⟨rfl, rfl⟩
        show G _ _ _ [_, _, _, _, _, _, _, _] _
        refine G_val rfl rfl rfl rfl (V_move rfl rfl) ?_
        refine G_val rfl rfl rfl rfl (V_eql rfl rfl rfl) ?_
        refine G_val rfl rfl rfl rfl (V_bneq rfl Tryd.underlying4 rfl rfl) ?_
        refine G_val rfl rfl rfl rfl (V_move rfl rfl) ?_
        refine G_splitD 114 rfl (fun hc8 => ?_) (fun hc8 => ?_)
        · (first | (exact absurd rfl hc8) | (exfalso; omega) | (exfalso; simp at hc8; done))
        refine G_val rfl rfl rfl rfl (V_move rfl rfl) ?_
        refine G_val rfl rfl rfl rfl (V_move rfl rfl) ?_
        refine G_call (L2 := [_, _, _, _]) rfl rfl rfl rfl rfl rfl Tryd.call41 ((lg_append d 20 lb lcap cs v kk hkk g f b e m s c2 c3 (by omega) c4 (by omega) (by omega)).weaken (fun v post h => by rw [(app_no (k := kk) (f := f) (e := e) (b := b) (a := m) (s := s) (by omega)).1, (app_no (k := kk) (f := f) (e := e) (b := b) (a := m) (s := s) (by omega)).2.1, (app_no (k := kk) (f := f) (e := e) (b := b) (a := m) (s := s) (by omega)).2.2, hE] at h; exact h)) [1, 1, 1, 1] [] rfl rfl ?_
        rintro v post ⟨rfl, lcs1, uw1, h1, rfl⟩
        show G _ _ _ [_, _, _, _, _, _, _, _] _
        refine G_call (L2 := [_, _, _, _, _, _, _, _]) rfl rfl rfl rfl rfl rfl Tryd.call37 (ll_num _) [] [] rfl rfl ?_
        rintro v post ⟨rfl, rfl⟩
        show G _ _ _ [_, _, _, _, _, _, _, _] _
        refine G_val rfl rfl rfl rfl (V_move rfl rfl) ?_
        refine G_val rfl rfl rfl rfl (V_neq rfl rfl rfl) ?_
        refine G_val rfl rfl rfl rfl (V_pickF rfl rfl rfl) ?_
        refine G_done ?_
        refine G_ifD rfl (fun hc9 => ?_) (fun hc9 => ?_)
        · (first | (exact absurd rfl hc9) | (exfalso; omega) | (exfalso; simp at hc9; done))
        refine G_skip ?_
        refine G_seq ?_
        refine G_seq ?_
        refine G_region (l := [0, 1]) rfl ?_
        refine G_val rfl rfl rfl rfl (V_move rfl rfl) ?_
        refine G_val rfl rfl rfl rfl (V_eql rfl rfl rfl) ?_
        refine G_done ?_
        refine G_ifD rfl (fun hc10 => ?_) (fun hc10 => ?_)
        · (first | (exact absurd rfl hc10) | (exfalso; omega) | (exfalso; simp at hc10; done))
        refine G_skip ?_
        refine G_seq ?_
        refine GH_start (Lq := [_, _]) (isq := [0, 3]) (m := 13) mixedK rfl rfl ?_
        refine GH_take 0 rfl rfl rfl rfl (by kernel_rfl) (by kernel_rfl) (by kernel_rfl) (fun _ _ => (V_move rfl rfl)) ?_
        refine GH_take 2 rfl rfl rfl rfl (by kernel_rfl) (by kernel_rfl) (by kernel_rfl) (fun _ _ => (V_move rfl rfl)) ?_
        refine GH_all [1] (by kernel_rfl) (by decide) ?_
        refine (And.intro ?_ trivial)
        · skip
          refine GHop_call (L2 := [_, _, _, _, _, _, _, _]) rfl rfl rfl rfl rfl rfl Tryd.call44 (lg_at d g f b e m) [] [1] rfl rfl [0, 3] (by rintro v post ⟨rfl, rfl⟩; exact ⟨_, rfl⟩) ?_
          rintro v post ⟨rfl, rfl⟩
          show GH _ _ _ _ _ _ _ [_, _, _, _, _, _, _, _] _
          refine GH_take 3 rfl rfl rfl rfl (by kernel_rfl) (by kernel_rfl) (by kernel_rfl) (fun _ _ => (V_neq rfl rfl rfl)) ?_
          refine GH_take 4 rfl rfl rfl rfl (by kernel_rfl) (by kernel_rfl) (by kernel_rfl) (fun _ _ => (V_move rfl rfl)) ?_
          refine GH_splitD 154 rfl (fun hc11 => ?_) (fun hc11 => ?_)
          · (first | (exact absurd rfl hc11) | (exfalso; omega) | (exfalso; simp at hc11; done))
          refine GH_take 5 rfl rfl rfl rfl (by kernel_rfl) (by kernel_rfl) (by kernel_rfl) (fun _ _ => (V_move rfl rfl)) ?_
          refine GH_take 7 rfl rfl rfl rfl (by kernel_rfl) (by kernel_rfl) (by kernel_rfl) (fun _ _ => (V_fieldAddr (fo := 1) rfl Tryd.underlying65 rfl infLawLogAppends_3 rfl rfl rfl)) ?_
          refine GH_take 8 rfl rfl rfl rfl (by kernel_rfl) (by kernel_rfl) (by kernel_rfl) (fun _ _ => (V_load1 rfl rfl (mem_at 2 rfl) rfl Tryd.underlying3 rfl)) ?_
          refine GH_take 9 rfl rfl rfl rfl (by kernel_rfl) (by kernel_rfl) (by kernel_rfl) (fun _ _ => (V_move rfl rfl)) ?_
          first
            | refine GH_take 10 rfl rfl rfl rfl (by kernel_rfl) (by kernel_rfl) (by kernel_rfl) (fun _ _ => ((V_sub rfl rfl rfl).int (wrap_i64 (by omega)))) ?_
            | refine GH_take 10 rfl rfl rfl rfl (by kernel_rfl) (by kernel_rfl) (by kernel_rfl) (fun _ _ => (V_sub rfl rfl rfl)) ?_
          refine GH_all [6] (by kernel_rfl) (by decide) ?_
          refine (And.intro ?_ trivial)
          · skip
            refine GHop_call (L2 := [_, _, _, _, _, _, _, _]) rfl rfl rfl rfl rfl rfl Tryd.call45 (lg_room d g f b e m (by omega) (by omega) (by omega)) [] [1] rfl rfl [0, 3] (by rintro v post ⟨rfl, rfl⟩; exact ⟨_, rfl⟩) ?_
            rintro v post ⟨rfl, rfl⟩
            show GH _ _ _ _ _ _ _ [_, _, _, _, _, _, _, _] _
            refine GH_take 11 rfl rfl rfl rfl (by kernel_rfl) (by kernel_rfl) (by kernel_rfl) (fun _ _ => (V_neq rfl rfl rfl)) ?_
            refine GH_take 12 rfl rfl rfl rfl (by kernel_rfl) (by kernel_rfl) (by kernel_rfl) (fun _ _ => (V_pickF rfl rfl rfl)) ?_
            refine GH_done (by kernel_rfl) ?_
            refine G_ifD rfl (fun hc12 => ?_) (fun hc12 => ?_)
            · (first | (exact absurd rfl hc12) | (exfalso; omega) | (exfalso; simp at hc12; done))
            refine G_skip ?_
            refine G_inBlock ?_
            refine G_region (l := [0, 1, 2]) rfl ?_
            refine G_val rfl rfl rfl rfl (V_move rfl rfl) ?_
            first
              | refine G_val rfl rfl rfl rfl ((V_add rfl rfl rfl).int (wrap_i64 (by omega))) ?_
              | refine G_val rfl rfl rfl rfl (V_add rfl rfl rfl) ?_
            refine G_val rfl rfl rfl rfl (V_assign rfl rfl) ?_
            refine G_done ?_
            refine G_sub ?_ [4, 0, 0, 0, 0, 0, 0, 0] ?_ (ih (i + 1, kk, m, lcs1, uw1, v2) ?_ ?_)
            · (refine (And.intro ?_ (And.intro ?_ (And.intro ?_ (And.intro ?_ (And.intro ?_ (And.intro ?_ (And.intro ?_ (And.intro ?_ (And.intro ?_ trivial))))))))) <;> first | rfl | exact slot_int (by omega) | exact slot_int (by simp))
            · exact ⟨_, rfl⟩
            · (exact ⟨by omega, h1, hk2, hlk, c4, by show kk.W.length ≤ 21 * (i + 1); omega⟩)
            · (first | omega | (dsimp only; omega))
      · skip
        refine G_region (l := [0, 1, 2]) rfl ?_
        refine G_val rfl rfl rfl rfl (V_move rfl rfl) ?_
        refine G_val rfl rfl rfl rfl (V_slen rfl rfl Tryd.underlying9 rfl) ?_
        refine G_val rfl rfl rfl rfl (V_gtr rfl rfl rfl) ?_
        refine G_done ?_
        refine G_ifD rfl (fun hc7 => ?_) (fun hc7 => ?_)
        · (first | (exact absurd rfl hc7) | (exfalso; omega) | (exfalso; simp at hc7; done))
        refine G_seq ?_
        refine GH_start (Lq := [_]) (isq := [0]) (m := 8) mixedK rfl rfl ?_
        refine GH_take 0 rfl rfl rfl rfl (by kernel_rfl) (by kernel_rfl) (by kernel_rfl) (fun _ _ => (V_move rfl rfl)) ?_
        refine GH_take 1 rfl rfl rfl rfl (by kernel_rfl) (by kernel_rfl) (by kernel_rfl) (fun _ _ => (V_slen rfl rfl Tryd.underlying9 rfl)) ?_
        refine GH_take 3 rfl rfl rfl rfl (by kernel_rfl) (by kernel_rfl) (by kernel_rfl) (fun _ _ => (V_fieldAddr (fo := 1) rfl Tryd.underlying65 rfl infLawLogAppends_3 rfl rfl rfl)) ?_
        refine GH_take 4 rfl rfl rfl rfl (by kernel_rfl) (by kernel_rfl) (by kernel_rfl) (fun _ _ => (V_load1 rfl rfl (mem_at 1 rfl) rfl Tryd.underlying3 rfl)) ?_
        refine GH_take 5 rfl rfl rfl rfl (by kernel_rfl) (by kernel_rfl) (by kernel_rfl) (fun _ _ => (V_move rfl rfl)) ?_
        first
          | refine GH_take 6 rfl rfl rfl rfl (by kernel_rfl) (by kernel_rfl) (by kernel_rfl) (fun _ _ => ((V_sub rfl rfl rfl).int (wrap_i64 (by omega)))) ?_
          | refine GH_take 6 rfl rfl rfl rfl (by kernel_rfl) (by kernel_rfl) (by kernel_rfl) (fun _ _ => (V_sub rfl rfl rfl)) ?_
        refine GH_all [2] (by kernel_rfl) (by decide) ?_
        refine (And.intro ?_ trivial)
        · skip
          refine GHop_call (L2 := [_, _, _, _, _, _, _, _]) rfl rfl rfl rfl rfl rfl Tryd.call39 (rfr_many s.length (by omega)) [] [] rfl rfl [0] (by rintro v post ⟨rfl, rfl⟩; exact ⟨_, rfl⟩) ?_
          rintro v post ⟨rfl, rfl⟩
          show GH _ _ _ _ _ _ _ [_, _, _, _, _, _, _, _] _
          refine GH_take 7 rfl rfl rfl rfl (by kernel_rfl) (by kernel_rfl) (by kernel_rfl) (fun _ _ => (V_gtr rfl rfl rfl)) ?_
          refine GH_done (by kernel_rfl) ?_
          refine G_ifD rfl (fun hc8 => ?_) (fun hc8 => ?_)
          rotate_left
          · (first | (exact absurd rfl hc8) | (exfalso; omega) | (exfalso; simp at hc8; done))
          refine G_region (l := [0]) rfl ?_
          refine G_val rfl rfl rfl rfl (V_assign rfl rfl) ?_
          refine G_done ?_
          refine G_seq ?_
          refine G_seq ?_
          refine G_region (l := [0, 1, 2, 3, 4, 5, 6, 7, 8, 9, 10, 11, 12, 13]) rfl ?_
          refine G_val rfl rfl rfl rfl (V_move rfl rfl) ?_
          refine G_val rfl rfl rfl rfl (V_move rfl rfl) ?_
          refine G_call (L2 := [_, _, _, _, _, _, _, _]) rfl rfl rfl rfl rfl rfl Tryd.call40 ((lg_fits d g f b e m s (by omega) (by omega) (by omega) (by omega)).weaken (fun v post h => by rw [fits_no (by omega)] at h; exact h)) [] [2] rfl rfl ?_
          rintro v post ⟨rfl, rfl⟩
          show G _ _ _ [_, _, _, _, _, _, _, _] _
          refine G_val rfl rfl rfl rfl (V_move rfl rfl) ?_
          refine G_val rfl rfl rfl rfl (V_eql rfl rfl rfl) ?_
          refine G_val rfl rfl rfl rfl (V_bneq rfl Tryd.underlying4 rfl rfl) ?_
          refine G_val rfl rfl rfl rfl (V_move rfl rfl) ?_
          refine G_splitD 114 rfl (fun hc9 => ?_) (fun hc9 => ?_)
          · (first | (exact absurd rfl hc9) | (exfalso; omega) | (exfalso; simp at hc9; done))
          refine G_val rfl rfl rfl rfl (V_move rfl rfl) ?_
          refine G_val rfl rfl rfl rfl (V_move rfl rfl) ?_
          refine G_call (L2 := [_, _, _, _]) rfl rfl rfl rfl rfl rfl Tryd.call41 ((lg_append d 20 lb lcap cs v kk hkk g f b e m s c2 c3 (by omega) c4 (by omega) (by omega)).weaken (fun v post h => by rw [(app_no (k := kk) (f := f) (e := e) (b := b) (a := m) (s := s) (by omega)).1, (app_no (k := kk) (f := f) (e := e) (b := b) (a := m) (s := s) (by omega)).2.1, (app_no (k := kk) (f := f) (e := e) (b := b) (a := m) (s := s) (by omega)).2.2, hE] at h; exact h)) [1, 1, 1, 1] [] rfl rfl ?_
          rintro v post ⟨rfl, lcs1, uw1, h1, rfl⟩
          show G _ _ _ [_, _, _, _, _, _, _, _] _
          refine G_call (L2 := [_, _, _, _, _, _, _, _]) rfl rfl rfl rfl rfl rfl Tryd.call37 (ll_num _) [] [] rfl rfl ?_
          rintro v post ⟨rfl, rfl⟩
          show G _ _ _ [_, _, _, _, _, _, _, _] _
          refine G_val rfl rfl rfl rfl (V_move rfl rfl) ?_
          refine G_val rfl rfl rfl rfl (V_neq rfl rfl rfl) ?_
          refine G_val rfl rfl rfl rfl (V_pickF rfl rfl rfl) ?_
          refine G_done ?_
          refine G_ifD rfl (fun hc10 => ?_) (fun hc10 => ?_)
          · (first | (exact absurd rfl hc10) | (exfalso; omega) | (exfalso; simp at hc10; done))
          refine G_skip ?_
          refine G_seq ?_
          refine G_seq ?_
          refine G_region (l := [0, 1]) rfl ?_
          refine G_val rfl rfl rfl rfl (V_move rfl rfl) ?_
          refine G_val rfl rfl rfl rfl (V_eql rfl rfl rfl) ?_
          refine G_done ?_
          refine G_ifD rfl (fun hc11 => ?_) (fun hc11 => ?_)
          · (first | (exact absurd rfl hc11) | (exfalso; omega) | (exfalso; simp at hc11; done))
          refine G_skip ?_
          refine G_seq ?_
          refine GH_start (Lq := [_, _]) (isq := [0, 3]) (m := 13) mixedK rfl rfl ?_
          refine GH_take 0 rfl rfl rfl rfl (by kernel_rfl) (by kernel_rfl) (by kernel_rfl) (fun _ _ => (V_move rfl rfl)) ?_
          refine GH_take 2 rfl rfl rfl rfl (by kernel_rfl) (by kernel_rfl) (by kernel_rfl) (fun _ _ => (V_move rfl rfl)) ?_
          refine GH_all [1] (by kernel_rfl) (by decide) ?_
          refine (And.intro ?_ trivial)
          · skip
            refine GHop_call (L2 := [_, _, _, _, _, _, _, _]) rfl rfl rfl rfl rfl rfl Tryd.call44 (lg_at d g f b e m) [] [1] rfl rfl [0, 3] (by rintro v post ⟨rfl, rfl⟩; exact ⟨_, rfl⟩) ?_
            rintro v post ⟨rfl, rfl⟩
            show GH _ _ _ _ _ _ _ [_, _, _, _, _, _, _, _] _
            refine GH_take 3 rfl rfl rfl rfl (by kernel_rfl) (by kernel_rfl) (by kernel_rfl) (fun _ _ => (V_neq rfl rfl rfl)) ?_
            refine GH_take 4 rfl rfl rfl rfl (by kernel_rfl) (by kernel_rfl) (by kernel_rfl) (fun _ _ => (V_move rfl rfl)) ?_
            refine GH_splitD 154 rfl (fun hc12 => ?_) (fun hc12 => ?_)
            · (first | (exact absurd rfl hc12) | (exfalso; omega) | (exfalso; simp at hc12; done))
            refine GH_take 5 rfl rfl rfl rfl (by kernel_rfl) (by kernel_rfl) (by kernel_rfl) (fun _ _ => (V_move rfl rfl)) ?_
            refine GH_take 7 rfl rfl rfl rfl (by kernel_rfl) (by kernel_rfl) (by kernel_rfl) (fun _ _ => (V_fieldAddr (fo := 1) rfl Tryd.underlying65 rfl infLawLogAppends_3 rfl rfl rfl)) ?_
            refine GH_take 8 rfl rfl rfl rfl (by kernel_rfl) (by kernel_rfl) (by kernel_rfl) (fun _ _ => (V_load1 rfl rfl (mem_at 2 rfl) rfl Tryd.underlying3 rfl)) ?_
            refine GH_take 9 rfl rfl rfl rfl (by kernel_rfl) (by kernel_rfl) (by kernel_rfl) (fun _ _ => (V_move rfl rfl)) ?_
            first
              | refine GH_take 10 rfl rfl rfl rfl (by kernel_rfl) (by kernel_rfl) (by kernel_rfl) (fun _ _ => ((V_sub rfl rfl rfl).int (wrap_i64 (by omega)))) ?_
              | refine GH_take 10 rfl rfl rfl rfl (by kernel_rfl) (by kernel_rfl) (by kernel_rfl) (fun _ _ => (V_sub rfl rfl rfl)) ?_
            refine GH_all [6] (by kernel_rfl) (by decide) ?_
            refine (And.intro ?_ trivial)
            · skip
              refine GHop_call (L2 := [_, _, _, _, _, _, _, _]) rfl rfl rfl rfl rfl rfl Tryd.call45 (lg_room d g f b e m (by omega) (by omega) (by omega)) [] [1] rfl rfl [0, 3] (by rintro v post ⟨rfl, rfl⟩; exact ⟨_, rfl⟩) ?_
              rintro v post ⟨rfl, rfl⟩
              show GH _ _ _ _ _ _ _ [_, _, _, _, _, _, _, _] _
              refine GH_take 11 rfl rfl rfl rfl (by kernel_rfl) (by kernel_rfl) (by kernel_rfl) (fun _ _ => (V_neq rfl rfl rfl)) ?_
              refine GH_take 12 rfl rfl rfl rfl (by kernel_rfl) (by kernel_rfl) (by kernel_rfl) (fun _ _ => (V_pickF rfl rfl rfl)) ?_
              refine GH_done (by kernel_rfl) ?_
              refine G_ifD rfl (fun hc13 => ?_) (fun hc13 => ?_)
              · (first | (exact absurd rfl hc13) | (exfalso; omega) | (exfalso; simp at hc13; done))
              refine G_skip ?_
              refine G_inBlock ?_
              refine G_region (l := [0, 1, 2]) rfl ?_
              refine G_val rfl rfl rfl rfl (V_move rfl rfl) ?_
              first
                | refine G_val rfl rfl rfl rfl ((V_add rfl rfl rfl).int (wrap_i64 (by omega))) ?_
                | refine G_val rfl rfl rfl rfl (V_add rfl rfl rfl) ?_
              refine G_val rfl rfl rfl rfl (V_assign rfl rfl) ?_
              refine G_done ?_
              refine G_sub ?_ [4, 0, 0, 0, 0, 0, 0, 0] ?_ (ih (i + 1, kk, m, lcs1, uw1, v2) ?_ ?_)
              · (refine (And.intro ?_ (And.intro ?_ (And.intro ?_ (And.intro ?_ (And.intro ?_ (And.intro ?_ (And.intro ?_ (And.intro ?_ (And.intro ?_ trivial))))))))) <;> first | rfl | exact slot_int (by omega) | exact slot_int (by simp))
              · exact ⟨_, rfl⟩
              · (exact ⟨by omega, h1, hk2, hlk, c4, by show kk.W.length ≤ 21 * (i + 1); omega⟩)
              · (first | omega | (dsimp only; omega))
      · skip
        refine G_region (l := [0, 1, 2]) rfl ?_
        refine G_val rfl rfl rfl rfl (V_move rfl rfl) ?_
        refine G_val rfl rfl rfl rfl (V_slen rfl rfl Tryd.underlying9 rfl) ?_
        refine G_val rfl rfl rfl rfl (V_gtr rfl rfl rfl) ?_
        refine G_done ?_
        refine G_ifD rfl (fun hc7 => ?_) (fun hc7 => ?_)
        · (first | (exact absurd rfl hc7) | (exfalso; omega) | (exfalso; simp at hc7; done))
        refine G_seq ?_
        refine GH_start (Lq := [_]) (isq := [0]) (m := 8) mixedK rfl rfl ?_
        refine GH_take 0 rfl rfl rfl rfl (by kernel_rfl) (by kernel_rfl) (by kernel_rfl) (fun _ _ => (V_move rfl rfl)) ?_
        refine GH_take 1 rfl rfl rfl rfl (by kernel_rfl) (by kernel_rfl) (by kernel_rfl) (fun _ _ => (V_slen rfl rfl Tryd.underlying9 rfl)) ?_
        refine GH_take 3 rfl rfl rfl rfl (by kernel_rfl) (by kernel_rfl) (by kernel_rfl) (fun _ _ => (V_fieldAddr (fo := 1) rfl Tryd.underlying65 rfl infLawLogAppends_3 rfl rfl rfl)) ?_
        refine GH_take 4 rfl rfl rfl rfl (by kernel_rfl) (by kernel_rfl) (by kernel_rfl) (fun _ _ => (V_load1 rfl rfl (mem_at 1 rfl) rfl Tryd.underlying3 rfl)) ?_
        refine GH_take 5 rfl rfl rfl rfl (by kernel_rfl) (by kernel_rfl) (by kernel_rfl) (fun _ _ => (V_move rfl rfl)) ?_
        first
          | refine GH_take 6 rfl rfl rfl rfl (by kernel_rfl) (by kernel_rfl) (by kernel_rfl) (fun _ _ => ((V_sub rfl rfl rfl).int (wrap_i64 (by omega)))) ?_
          | refine GH_take 6 rfl rfl rfl rfl (by kernel_rfl) (by kernel_rfl) (by kernel_rfl) (fun _ _ => (V_sub rfl rfl rfl)) ?_
        refine GH_all [2] (by kernel_rfl) (by decide) ?_
        refine (And.intro ?_ trivial)
        · skip
          refine GHop_call (L2 := [_, _, _, _, _, _, _, _]) rfl rfl rfl rfl rfl rfl Tryd.call39 (rfr_many s.length (by omega)) [] [] rfl rfl [0] (by rintro v post ⟨rfl, rfl⟩; exact ⟨_, rfl⟩) ?_
          rintro v post ⟨rfl, rfl⟩
          show GH _ _ _ _ _ _ _ [_, _, _, _, _, _, _, _] _
          refine GH_take 7 rfl rfl rfl rfl (by kernel_rfl) (by kernel_rfl) (by kernel_rfl) (fun _ _ => (V_gtr rfl rfl rfl)) ?_
          refine GH_done (by kernel_rfl) ?_
          refine G_ifD rfl (fun hc8 => ?_) (fun hc8 => ?_)
          · (first | (exact absurd rfl hc8) | (exfalso; omega) | (exfalso; simp at hc8; done))
          refine G_skip ?_
          refine G_seq ?_
          refine G_seq ?_
          refine G_region (l := [0, 1, 2, 3, 4, 5, 6, 7, 8, 9, 10, 11, 12, 13]) rfl ?_
          refine G_val rfl rfl rfl rfl (V_move rfl rfl) ?_
          refine G_val rfl rfl rfl rfl (V_move rfl rfl) ?_
          refine G_call (L2 := [_, _, _, _, _, _, _, _]) rfl rfl rfl rfl rfl rfl Tryd.call40 ((lg_fits d g f b e m s (by omega) (by omega) (by omega) (by omega)).weaken (fun v post h => by rw [fits_yes hE] at h; exact h)) [] [2] rfl rfl ?_
          rintro v post ⟨rfl, rfl⟩
          show G _ _ _ [_, _, _, _, _, _, _, _] _
          refine G_val rfl rfl rfl rfl (V_move rfl rfl) ?_
          refine G_val rfl rfl rfl rfl (V_eql rfl rfl rfl) ?_
          refine G_val rfl rfl rfl rfl (V_bneq rfl Tryd.underlying4 rfl rfl) ?_
          refine G_val rfl rfl rfl rfl (V_move rfl rfl) ?_
          refine G_splitD 114 rfl (fun hc9 => ?_) (fun hc9 => ?_)
          · (first | (exact absurd rfl hc9) | (exfalso; omega) | (exfalso; simp at hc9; done))
          refine G_val rfl rfl rfl rfl (V_move rfl rfl) ?_
          refine G_val rfl rfl rfl rfl (V_move rfl rfl) ?_
          refine G_call (L2 := [_, _, _, _]) rfl rfl rfl rfl rfl rfl Tryd.call41 ((lg_append d 20 lb lcap cs v kk hkk g f b e m s c2 c3 (by omega) c4 (by omega) (by omega)).weaken (fun v post h => by rw [(ap_yes hlk hE c3 c5 (by omega)).1, (ap_yes hlk hE c3 c5 (by omega)).2.1, (ap_yes hlk hE c3 c5 (by omega)).2.2.1] at h; exact h)) [1, 1, 1, 1] [] rfl rfl ?_
          rintro v post ⟨rfl, lcs1, uw1, h1, rfl⟩
          show G _ _ _ [_, _, _, _, _, _, _, _] _
          refine G_call (L2 := [_, _, _, _, _, _, _, _]) rfl rfl rfl rfl rfl rfl Tryd.call37 (ll_num _) [] [] rfl rfl ?_
          rintro v post ⟨rfl, rfl⟩
          show G _ _ _ [_, _, _, _, _, _, _, _] _
          refine G_val rfl rfl rfl rfl (V_move rfl rfl) ?_
          refine G_val rfl rfl rfl rfl (V_neq rfl rfl rfl) ?_
          refine G_val rfl rfl rfl rfl (V_pickF rfl rfl rfl) ?_
          refine G_done ?_
          refine G_ifD rfl (fun hc10 => ?_) (fun hc10 => ?_)
          · (first | (exact absurd rfl hc10) | (exfalso; omega) | (exfalso; simp at hc10; done))
          refine G_skip ?_
          refine G_seq ?_
          refine G_seq ?_
          refine G_region (l := [0, 1]) rfl ?_
          refine G_val rfl rfl rfl rfl (V_move rfl rfl) ?_
          refine G_val rfl rfl rfl rfl (V_eql rfl rfl rfl) ?_
          refine G_done ?_
          refine G_ifD rfl (fun hc11 => ?_) (fun hc11 => ?_)
          rotate_left
          · (first | (exact absurd rfl hc11) | (exfalso; omega) | (exfalso; simp at hc11; done))
          refine G_seq ?_
          refine G_region (l := [0, 1, 2, 3, 4, 5]) rfl ?_
          refine G_val rfl rfl rfl rfl (V_move rfl rfl) ?_
          refine G_val rfl rfl rfl rfl (V_fieldAddr (fo := 3) rfl Tryd.underlying65 rfl infLawLogAppends_22 rfl rfl rfl) ?_
          refine G_val rfl rfl rfl rfl (V_load1 rfl rfl (mem_at 5 rfl) rfl Tryd.underlying22 rfl) ?_
          refine G_val rfl rfl rfl rfl (V_move rfl rfl) ?_
          refine G_call (L2 := [_, _, _, _, _, _, _, _]) rfl rfl rfl rfl rfl rfl Tryd.call42 (ap_blocks s d1 e c3 he m (by omega)) [] [] rfl rfl ?_
          rintro v post ⟨ub, hub, rfl, rfl⟩
          show G _ _ _ [_, _, _, _, _, _, _, _, _] _
          refine G_val rfl rfl rfl rfl (V_assign rfl rfl) ?_
          refine G_done ?_
          refine G_seq ?_
          refine G_seq ?_
          obtain ⟨a1, a2, a3, hWn, hln⟩ := ap_yes hlk hE c3 c5 (by omega)
          refine G_region (l := [0]) rfl ?_
          refine G_val rfl rfl rfl rfl (V_assign rfl rfl) ?_
          refine G_done ?_
          refine G_block ?_
          refine G_sub ?he25 [5, 1, 1, 1, 1, 1, 1, 1, 0] ?hl25 (G_loop (X := Nat × Dk × Sl) (fun y => match y with | ⟨j, kq, v3⟩ => j ≤ manyN s.length ∧ DkAt kq 20 lb2 lcs2 lcap2 v3 ∧ WrsAt kk kq (f + (m : Int)) (lblks e m (piecesF s)) j ∧ Lively kq ∧ kq.W.length ≤ kk.W.length + j) (fun y => match y with | ⟨j, kq, v3⟩ => manyN s.length - j) (fun y => match y with | ⟨j, kq, v3⟩ => [(1, sv (some bq1) p1 ss.length q1), (2, .pointer (some ⟨b2, 0, none⟩)), (5, .pointer (some ⟨d, 0, none⟩)), (6, .int .i64 0), (7, .pointer (some ⟨g, 0, none⟩)), (8, .int .i64 0), (9, .pointer (some ⟨b9, 0, none⟩)), (10, .int .i64 (m : Int)), (11, .int .i64 (i : Int)), (14, ub.v (manyN s.length)), (15, .int .i64 (j : Int))]) (fun y => match y with | ⟨j, kq, v3⟩ => [(some b2, .cells #[.int .i64 f, .int .i64 b, .int .i64 (m0 : Int), .int .u32 (e : Int)] 65 (0, 0)), (some g, .cells (lgC d f b e (m + manyN s.length)).toArray 136 (0, 0)), (some d, .cells #[.slice (some ⟨lb, 0, none⟩) 20 lcap, uw1.v (wrsK kk (f + (m : Int)) (lblks e m (piecesF s))).W.length, .int .i64 (wrsK kk (f + (m : Int)) (lblks e m (piecesF s))).fuse, .bool (wrsK kk (f + (m : Int)) (lblks e m (piecesF s))).dead] 110 (0, 0)), (some lb, .cells lcs1 9 (0, 0)), (uw1.ob, .cells uw1.cs 116 uw1.fz), (some b9, .cells #[.slice (some ⟨lb2, 0, none⟩) 20 lcap2, v3.v kq.W.length, .int .i64 (-1), .bool false] 72 (0, 0)), (some lb2, .cells lcs2 9 (0, 0)), (v3.ob, .cells v3.cs 140 v3.fz), (ub.ob, .cells ub.cs 9 ub.fz)]) ?round25 (0, kk, v2) ?h025)
          case he25 => exact (And.intro rfl (And.intro rfl (And.intro rfl (And.intro rfl (And.intro rfl (And.intro rfl (And.intro rfl (And.intro rfl (And.intro rfl (And.intro rfl (And.intro rfl trivial)))))))))))
          case hl25 => exact ⟨_, rfl⟩
          case h025 => exact ⟨Nat.zero_le _, hk2, wrs_start kk _ _, hlk, Nat.le_refl _⟩
          case round25 =>
           intro y hJ ih2
           try dsimp only at hJ ih2
           obtain ⟨j, kq, v3⟩ := y
           try dsimp only at hJ ih2
           obtain ⟨hj, hq, hwr, hlq, hwq⟩ := hJ
           show G _ _ [(1, sv (some bq1) p1 ss.length q1), (2, .pointer (some ⟨b2, 0, none⟩)), (5, .pointer (some ⟨d, 0, none⟩)), (6, .int .i64 0), (7, .pointer (some ⟨g, 0, none⟩)), (8, .int .i64 0), (9, .pointer (some ⟨b9, 0, none⟩)), (10, .int .i64 (m : Int)), (11, .int .i64 (i : Int)), (14, ub.v (manyN s.length)), (15, .int .i64 (j : Int))] [(some b2, .cells #[.int .i64 f, .int .i64 b, .int .i64 (m0 : Int), .int .u32 (e : Int)] 65 (0, 0)), (some g, .cells (lgC d f b e (m + manyN s.length)).toArray 136 (0, 0)), (some d, .cells #[.slice (some ⟨lb, 0, none⟩) 20 lcap, uw1.v (wrsK kk (f + (m : Int)) (lblks e m (piecesF s))).W.length, .int .i64 (wrsK kk (f + (m : Int)) (lblks e m (piecesF s))).fuse, .bool (wrsK kk (f + (m : Int)) (lblks e m (piecesF s))).dead] 110 (0, 0)), (some lb, .cells lcs1 9 (0, 0)), (uw1.ob, .cells uw1.cs 116 uw1.fz), (some b9, .cells #[.slice (some ⟨lb2, 0, none⟩) 20 lcap2, v3.v kq.W.length, .int .i64 (-1), .bool false] 72 (0, 0)), (some lb2, .cells lcs2 9 (0, 0)), (v3.ob, .cells v3.cs 140 v3.fz), (ub.ob, .cells ub.cs 9 ub.fz)] _
           refine G_seq ?_
           refine G_seq ?_
           refine G_region (l := [0, 1, 2, 3]) rfl ?_
           refine G_val rfl rfl rfl rfl (V_move rfl rfl) ?_
           refine G_val rfl rfl rfl rfl (V_move rfl rfl) ?_
           refine G_val rfl rfl rfl rfl (V_len rfl rfl Tryd.underlying24 rfl) ?_
           refine G_val rfl rfl rfl rfl (V_lss rfl rfl rfl) ?_
           refine G_done ?_
           refine G_ifD rfl (fun hc12 => ?_) (fun hc12 => ?_)
           · skip
             refine G_skip ?_
             refine G_seq ?_
             refine G_block ?_
             obtain ⟨bl, hbl⟩ := getI (show j < (lblks e m (piecesF s)).length by rw [lblks_len, piecesF_len]; omega)
             have hb64 := lblks_64 c3 (piecesF_48 s) m bl (List.mem_of_getElem? hbl)
             have hql := hq.len
             obtain ⟨w1, w2, w3, w4⟩ := write_lively hlq (a := f + (m : Int) + (j : Int)) (s := bl) ⟨by omega, by omega⟩ hb64
             obtain ⟨uo, ucs, ufz, ucap⟩ := ub
             obtain ⟨ubb, rfl⟩ := hub.isSome (by omega)
             refine GH_start (Lq := [_, _]) (isq := [0, 7]) (m := 11) mixedK rfl rfl ?_
             refine GH_take 0 rfl rfl rfl rfl (by kernel_rfl) (by kernel_rfl) (by kernel_rfl) (fun _ _ => (V_fieldAddr (fo := 0) rfl Tryd.underlying65 rfl infLawLogAppends_3 rfl rfl rfl)) ?_
             refine GH_take 1 rfl rfl rfl rfl (by kernel_rfl) (by kernel_rfl) (by kernel_rfl) (fun _ _ => (V_load1 rfl rfl (mem_at 1 rfl) rfl Tryd.underlying3 rfl)) ?_
             refine GH_take 2 rfl rfl rfl rfl (by kernel_rfl) (by kernel_rfl) (by kernel_rfl) (fun _ _ => (V_move rfl rfl)) ?_
             first
               | refine GH_take 3 rfl rfl rfl rfl (by kernel_rfl) (by kernel_rfl) (by kernel_rfl) (fun _ _ => ((V_add rfl rfl rfl).int (wrap_i64 (by omega)))) ?_
               | refine GH_take 3 rfl rfl rfl rfl (by kernel_rfl) (by kernel_rfl) (by kernel_rfl) (fun _ _ => (V_add rfl rfl rfl)) ?_
             refine GH_take 4 rfl rfl rfl rfl (by kernel_rfl) (by kernel_rfl) (by kernel_rfl) (fun _ _ => (V_move rfl rfl)) ?_
             first
               | refine GH_take 5 rfl rfl rfl rfl (by kernel_rfl) (by kernel_rfl) (by kernel_rfl) (fun _ _ => ((V_add rfl rfl rfl).int (wrap_i64 (by omega)))) ?_
               | refine GH_take 5 rfl rfl rfl rfl (by kernel_rfl) (by kernel_rfl) (by kernel_rfl) (fun _ _ => (V_add rfl rfl rfl)) ?_
             refine GH_take 6 rfl rfl rfl rfl (by kernel_rfl) (by kernel_rfl) (by kernel_rfl) (fun _ _ => (V_move rfl rfl)) ?_
             refine GH_take 7 rfl rfl rfl rfl (by kernel_rfl) (by kernel_rfl) (by kernel_rfl) (fun _ _ => (V_move rfl rfl)) ?_
             first
               | refine GH_take 8 rfl rfl rfl rfl (by kernel_rfl) (by kernel_rfl) (by kernel_rfl) (fun _ _ => (V_indexAddrN (s := 1) rfl Tryd.underlying24 infLawLogAppends_9 rfl rfl rfl rfl (by omega))) ?_
               | refine GH_take 8 rfl rfl rfl rfl (by kernel_rfl) (by kernel_rfl) (by kernel_rfl) (fun _ _ => (V_indexAddr (s := 1) rfl Tryd.underlying24 infLawLogAppends_9 rfl rfl rfl (by omega) (by first | omega | (simp [wCells, kCells, rgC, lgC, rdC, Sl.v]; done) | (simp [wCells, kCells, rgC, lgC, rdC, Sl.v]; omega) | (simp [wCells, kCells, rgC, lgC, rdC, Sl.v] at *; omega)))) ?_
             refine GH_take 9 rfl rfl rfl rfl (by kernel_rfl) (by kernel_rfl) (by kernel_rfl) (fun _ _ => (V_load1 rfl rfl (mem_at 2 rfl) (nth_of (show ucs[0 + j * 1]? = some (strC bl) by rw [Nat.zero_add, Nat.mul_one]; exact hub.nth (by simp [hbl]))) Tryd.underlying9 rfl)) ?_
             refine GH_all [10] (by kernel_rfl) (by decide) ?_
             refine (And.intro ?_ trivial)
             · skip
               refine GHop_call (L2 := [_, _, _, _, _, _, _, _]) rfl rfl rfl rfl rfl rfl Tryd.call43 (ap_write b9 lb2 20 lcap2 lcs2 v3 kq hq hlq (f + (m : Int) + (j : Int)) ⟨by omega, by omega⟩ bl hb64 (by omega)) [5] [7] rfl rfl [2, 8] (by rintro v post ⟨rfl, u1, hu1, rfl⟩; exact ⟨_, rfl⟩) ?_
               rintro v post ⟨rfl, u1, hu1, rfl⟩
               show GH _ _ _ _ _ _ _ [_, _, _, _, _, _, _, _, _, _] _
               refine GH_done (by kernel_rfl) ?_
               refine G_inBlock ?_
               have hqn : DkAt (kq.write (f + (m : Int) + (j : Int)) bl) 20 lb2 lcs2 lcap2 u1 := by
                 obtain ⟨e1, _⟩ := write_live (hasE_ok.2 ⟨by omega, by omega⟩ : hasE kq.L.length (f + (m : Int) + (j : Int)) = 0) hb64 (lively_spent hlq).1
                 rw [e1]; exact pushed_at (spent_at hq) hu1 ⟨by omega, by omega⟩ hb64
               have hwl3 : kq.W.length + 1 = (kq.write (f + (m : Int) + (j : Int)) bl).W.length := by rw [w3]; simp
               rw [hwl3]
               refine G_region (l := [0, 1, 2]) rfl ?_
               refine G_val rfl rfl rfl rfl (V_move rfl rfl) ?_
               first
                 | refine G_val rfl rfl rfl rfl ((V_add rfl rfl rfl).int (wrap_i64 (by omega))) ?_
                 | refine G_val rfl rfl rfl rfl (V_add rfl rfl rfl) ?_
               refine G_val rfl rfl rfl rfl (V_assign rfl rfl) ?_
               refine G_done ?_
               refine G_sub ?_ [2, 2, 2, 2, 2, 0, 1, 0, 1] ?_ (ih2 (j + 1, kq.write (f + (m : Int) + (j : Int)) bl, u1) ?_ ?_)
               · (refine (And.intro ?_ (And.intro ?_ (And.intro ?_ (And.intro ?_ (And.intro ?_ (And.intro ?_ (And.intro ?_ (And.intro ?_ (And.intro ?_ (And.intro ?_ (And.intro ?_ trivial))))))))))) <;> first | rfl | exact slot_int (by omega) | exact slot_int (by simp))
               · exact ⟨_, rfl⟩
               · (exact ⟨by omega, hqn, wrs_next hwr hbl w1, w4, by show (kq.write (f + (m : Int) + (j : Int)) bl).W.length ≤ kk.W.length + (j + 1); omega⟩)
               · (first | omega | (dsimp only; omega))
           refine G_exit rfl ?_
           obtain rfl : j = manyN s.length := by omega
           obtain ⟨q1, _⟩ := wrs_end hwr (Nat.le_of_eq (by rw [lblks_len, piecesF_len]))
           rw [q1] at h1
           rw [q1]
           refine G_region (l := [0, 1, 2, 3, 4]) rfl ?_
           refine G_val rfl rfl rfl rfl (V_move rfl rfl) ?_
           refine G_val rfl rfl rfl rfl (V_move rfl rfl) ?_
           refine G_val rfl rfl rfl rfl (V_len rfl rfl Tryd.underlying24 rfl) ?_
           first
             | refine G_val rfl rfl rfl rfl ((V_add rfl rfl rfl).int (wrap_i64 (by omega))) ?_
             | refine G_val rfl rfl rfl rfl (V_add rfl rfl rfl) ?_
           refine G_val rfl rfl rfl rfl (V_assign rfl rfl) ?_
           refine G_done ?_
           refine G_seq ?_
           refine GH_start (Lq := [_, _]) (isq := [1, 0]) (m := 13) mixedK rfl rfl ?_
           refine GH_take 0 rfl rfl rfl rfl (by kernel_rfl) (by kernel_rfl) (by kernel_rfl) (fun _ _ => (V_move rfl rfl)) ?_
           refine GH_take 2 rfl rfl rfl rfl (by kernel_rfl) (by kernel_rfl) (by kernel_rfl) (fun _ _ => (V_move rfl rfl)) ?_
           refine GH_all [1] (by kernel_rfl) (by decide) ?_
           refine (And.intro ?_ trivial)
           · skip
             refine GHop_call (L2 := [_, _, _, _, _, _, _, _, _]) rfl rfl rfl rfl rfl rfl Tryd.call44 (lg_at d g f b e (m + manyN s.length)) [] [2] rfl rfl [1, 0] (by rintro v post ⟨rfl, rfl⟩; exact ⟨_, rfl⟩) ?_
             rintro v post ⟨rfl, rfl⟩
             show GH _ _ _ _ _ _ _ [_, _, _, _, _, _, _, _, _] _
             refine GH_take 3 rfl rfl rfl rfl (by kernel_rfl) (by kernel_rfl) (by kernel_rfl) (fun _ _ => (V_neq rfl rfl rfl)) ?_
             refine GH_take 4 rfl rfl rfl rfl (by kernel_rfl) (by kernel_rfl) (by kernel_rfl) (fun _ _ => (V_move rfl rfl)) ?_
             refine GH_splitD 154 rfl (fun hc13 => ?_) (fun hc13 => ?_)
             · (first | (exact absurd rfl hc13) | (exfalso; omega) | (exfalso; simp at hc13; done))
             refine GH_take 5 rfl rfl rfl rfl (by kernel_rfl) (by kernel_rfl) (by kernel_rfl) (fun _ _ => (V_move rfl rfl)) ?_
             refine GH_take 7 rfl rfl rfl rfl (by kernel_rfl) (by kernel_rfl) (by kernel_rfl) (fun _ _ => (V_fieldAddr (fo := 1) rfl Tryd.underlying65 rfl infLawLogAppends_3 rfl rfl rfl)) ?_
             refine GH_take 8 rfl rfl rfl rfl (by kernel_rfl) (by kernel_rfl) (by kernel_rfl) (fun _ _ => (V_load1 rfl rfl (mem_at 2 rfl) rfl Tryd.underlying3 rfl)) ?_
             refine GH_take 9 rfl rfl rfl rfl (by kernel_rfl) (by kernel_rfl) (by kernel_rfl) (fun _ _ => (V_move rfl rfl)) ?_
             first
               | refine GH_take 10 rfl rfl rfl rfl (by kernel_rfl) (by kernel_rfl) (by kernel_rfl) (fun _ _ => ((V_sub rfl rfl rfl).int (wrap_i64 (by omega)))) ?_
               | refine GH_take 10 rfl rfl rfl rfl (by kernel_rfl) (by kernel_rfl) (by kernel_rfl) (fun _ _ => (V_sub rfl rfl rfl)) ?_
             refine GH_all [6] (by kernel_rfl) (by decide) ?_
             refine (And.intro ?_ trivial)
             · skip
               refine GHop_call (L2 := [_, _, _, _, _, _, _, _, _]) rfl rfl rfl rfl rfl rfl Tryd.call45 (lg_room d g f b e (m + manyN s.length) (by omega) (by omega) (by omega)) [] [2] rfl rfl [1, 0] (by rintro v post ⟨rfl, rfl⟩; exact ⟨_, rfl⟩) ?_
               rintro v post ⟨rfl, rfl⟩
               show GH _ _ _ _ _ _ _ [_, _, _, _, _, _, _, _, _] _
               refine GH_take 11 rfl rfl rfl rfl (by kernel_rfl) (by kernel_rfl) (by kernel_rfl) (fun _ _ => (V_neq rfl rfl rfl)) ?_
               refine GH_take 12 rfl rfl rfl rfl (by kernel_rfl) (by kernel_rfl) (by kernel_rfl) (fun _ _ => (V_pickF rfl rfl rfl)) ?_
               refine GH_done (by kernel_rfl) ?_
               refine G_ifD rfl (fun hc14 => ?_) (fun hc14 => ?_)
               · (first | (exact absurd rfl hc14) | (exfalso; omega) | (exfalso; simp at hc14; done))
               refine G_skip ?_
               refine G_inBlock ?_
               refine G_region (l := [0, 1, 2]) rfl ?_
               refine G_val rfl rfl rfl rfl (V_move rfl rfl) ?_
               first
                 | refine G_val rfl rfl rfl rfl ((V_add rfl rfl rfl).int (wrap_i64 (by omega))) ?_
                 | refine G_val rfl rfl rfl rfl (V_add rfl rfl rfl) ?_
               refine G_val rfl rfl rfl rfl (V_assign rfl rfl) ?_
               refine G_done ?_
               refine G_sub ?_ [0, 0, 0, 0, 0, 0, 0, 0] ?_ (ih (i + 1, kq, m + manyN s.length, lcs1, uw1, v3) ?_ ?_)
               · (refine (And.intro ?_ (And.intro ?_ (And.intro ?_ (And.intro ?_ (And.intro ?_ (And.intro ?_ (And.intro ?_ (And.intro ?_ (And.intro ?_ trivial))))))))) <;> first | rfl | exact slot_int (by omega) | exact slot_int (by simp))
               · exact ⟨_, rfl⟩
               · (exact ⟨by omega, h1, hq, hlq, by show ((m + manyN s.length : Nat) : Int) ≤ b; omega, by show kq.W.length ≤ 21 * (i + 1); omega⟩)
               · (first | omega | (dsimp only; omega))
    refine G_exit rfl ?_
    refine G_seq ?_
    refine G_seq ?_
    refine G_region (l := [0]) rfl ?_
    refine G_val rfl rfl rfl rfl (V_assign rfl rfl) ?_
    refine G_done ?_
    refine G_block ?_
    refine G_sub ?he32 [0, 0, 0, 0, 0, 0, 0, 0] ?hl32 (G_loop (X := Nat) (fun i => i ≤ 20) (fun i => 20 - i) (fun i => [(2, .pointer (some ⟨b2, 0, none⟩)), (5, .pointer (some ⟨d, 0, none⟩)), (6, .int .i64 0), (7, .pointer (some ⟨g, 0, none⟩)), (8, .int .i64 0), (9, .pointer (some ⟨b9, 0, none⟩)), (16, .int .i64 (i : Int))]) (fun i => [(some b2, .cells #[.int .i64 f, .int .i64 b, .int .i64 (m0 : Int), .int .u32 (e : Int)] 65 (0, 0)), (some g, .cells (lgC d f b e m).toArray 136 (0, 0)), (some d, .cells #[.slice (some ⟨lb, 0, none⟩) 20 lcap, v.v kk.W.length, .int .i64 kk.fuse, .bool kk.dead] 110 (0, 0)), (some lb, .cells cs 9 (0, 0)), (v.ob, .cells v.cs 116 v.fz), (some b9, .cells #[.slice (some ⟨lb2, 0, none⟩) 20 lcap2, v2.v kk.W.length, .int .i64 (-1), .bool false] 72 (0, 0)), (some lb2, .cells lcs2 9 (0, 0)), (v2.ob, .cells v2.cs 140 v2.fz)]) ?round32 0 ?h032)
    case he32 => exact (And.intro rfl (And.intro rfl (And.intro rfl (And.intro rfl (And.intro rfl (And.intro rfl (And.intro rfl trivial)))))))
    case hl32 => exact ⟨_, rfl⟩
    case h032 => exact Nat.zero_le _
    case round32 =>
     intro i hJ ih
     try dsimp only at hJ ih
     refine G_seq ?_
     refine G_seq ?_
     refine G_region (l := [0, 1]) rfl ?_
     refine G_val rfl rfl rfl rfl (V_move rfl rfl) ?_
     refine G_val rfl rfl rfl rfl (V_lss rfl rfl rfl) ?_
     refine G_done ?_
     refine G_ifD rfl (fun hc6 => ?_) (fun hc6 => ?_)
     · skip
       refine G_skip ?_
       refine G_seq ?_
       refine G_block ?_
       refine G_seq ?_
       have hkl := hkk.len
       have hrE : kk.readE (i : Int) = 0 := (read_yes (hasE_ok.2 ⟨by omega, by omega⟩) (by rw [hlk.dead]; exact Bool.false_ne_true)).1
       refine G_region (l := [0, 1, 2, 3, 4, 5, 6, 7]) rfl ?_
       refine G_val rfl rfl rfl rfl (V_move rfl rfl) ?_
       refine G_val rfl rfl rfl rfl (V_move rfl rfl) ?_
       refine G_call (L2 := [_, _, _, _, _, _, _, _]) rfl rfl rfl rfl rfl rfl Tryd.call29 ((dk_read d 20 lb lcap cs v kk hkk (i : Int)).weaken (fun v post h => by rw [hrE] at h; exact h)) [] [3, 4, 5] rfl rfl ?_
       rintro v post ⟨rfl, rfl⟩
       show G _ _ _ [_, _, _, _, _, _, _, _] _
       refine G_val rfl rfl rfl rfl (V_move rfl rfl) ?_
       refine G_val rfl rfl rfl rfl (V_extract rfl rfl rfl) ?_
       refine G_val rfl rfl rfl rfl (V_extract rfl rfl rfl) ?_
       refine G_val rfl rfl rfl rfl (V_assign rfl rfl) ?_
       refine G_val rfl rfl rfl rfl (V_assign rfl rfl) ?_
       refine G_done ?_
       refine G_seq ?_
       refine G_region (l := [0, 1, 2, 3, 4, 5, 6, 7]) rfl ?_
       first
         | refine G_val rfl rfl rfl rfl (V_loadW (s := 4) rfl rfl (mem_at 6 rfl) Tryd.underlying72 rfl infLawLogAppends_72 rfl (by first | rfl | (simp [bcells_length, wCells, kCells, rgC, lgC, rdC, Sl.v]; done) | (simp [bcells_length, wCells, kCells, rgC, lgC, rdC, Sl.v]; omega) | (simp [bcells_length, *, wCells, kCells, rgC, lgC, rdC, Sl.v]; done))) ?_
         | refine G_val rfl rfl rfl rfl (V_loadA (s := 4) rfl rfl (mem_at 6 rfl) Tryd.underlying72 rfl infLawLogAppends_72 rfl rfl (by first | rfl | (simp [bcells_length, wCells, kCells, rgC, lgC, rdC, Sl.v]; done) | (simp [bcells_length, wCells, kCells, rgC, lgC, rdC, Sl.v]; omega) | (simp [bcells_length, *, wCells, kCells, rgC, lgC, rdC, Sl.v]; done))) ?_
       refine G_val rfl rfl rfl rfl (V_move rfl rfl) ?_
       refine G_call (L2 := [_, _, _, _, _, _, _, _]) rfl rfl rfl rfl rfl rfl Tryd.call46 (ap_read lb2 20 lcap2 lcs2 v2 kk hk2 hlk (i : Int) ⟨by omega, by omega⟩) [] [7, 8] rfl rfl ?_
       rintro v post ⟨rfl, rfl⟩
       show G _ _ _ [_, _, _, _, _, _, _, _] _
       refine G_val rfl rfl rfl rfl (V_move rfl rfl) ?_
       refine G_val rfl rfl rfl rfl (V_extract rfl rfl rfl) ?_
       refine G_val rfl rfl rfl rfl (V_extract rfl rfl rfl) ?_
       refine G_val rfl rfl rfl rfl (V_assign rfl rfl) ?_
       refine G_val rfl rfl rfl rfl (V_assign rfl rfl) ?_
       refine G_done ?_
       refine G_seq ?_
       refine G_region (l := [0, 1, 2, 3, 4, 5, 6, 7]) rfl ?_
       refine G_val rfl rfl rfl rfl (V_move rfl rfl) ?_
       refine G_val rfl rfl rfl rfl (V_move rfl rfl) ?_
       refine G_val rfl rfl rfl rfl (V_sneq rfl rfl rfl) ?_
       refine G_val rfl rfl rfl rfl (V_move rfl rfl) ?_
       refine G_splitD 182 rfl (fun hc7 => ?_) (fun hc7 => ?_)
       · (first | (exact absurd rfl hc7) | (exfalso; omega) | (exfalso; simp at hc7; done))
       refine G_val rfl rfl rfl rfl (V_move rfl rfl) ?_
       refine G_call (L2 := [_, _, _, _, _, _, _, _]) rfl rfl rfl rfl rfl rfl Tryd.call37 (ll_num _) [] [] rfl rfl ?_
       rintro v post ⟨rfl, rfl⟩
       show G _ _ _ [_, _, _, _, _, _, _, _] _
       refine G_val rfl rfl rfl rfl (V_neq rfl rfl rfl) ?_
       refine G_val rfl rfl rfl rfl (V_pickF rfl rfl rfl) ?_
       refine G_done ?_
       refine G_ifD rfl (fun hc8 => ?_) (fun hc8 => ?_)
       · (first | (exact absurd rfl hc8) | (exfalso; omega) | (exfalso; simp at hc8; done))
       refine G_skip ?_
       refine G_inBlock ?_
       refine G_region (l := [0, 1, 2]) rfl ?_
       refine G_val rfl rfl rfl rfl (V_move rfl rfl) ?_
       first
         | refine G_val rfl rfl rfl rfl ((V_add rfl rfl rfl).int (wrap_i64 (by omega))) ?_
         | refine G_val rfl rfl rfl rfl (V_add rfl rfl rfl) ?_
       refine G_val rfl rfl rfl rfl (V_assign rfl rfl) ?_
       refine G_done ?_
       refine G_sub ?_ [0, 0, 0, 0, 0, 0, 0, 0] ?_ (ih (i + 1) ?_ ?_)
       · (refine (And.intro ?_ (And.intro ?_ (And.intro ?_ (And.intro ?_ (And.intro ?_ (And.intro ?_ (And.intro ?_ trivial))))))) <;> first | rfl | exact slot_int (by omega) | exact slot_int (by simp))
       · exact ⟨_, rfl⟩
       · omega
       · (first | omega | (dsimp only; omega))
     refine G_exit rfl ?_
     refine G_seq ?_
     refine G_region (l := [0, 1, 2, 3, 4, 5, 6, 7, 8, 9, 10, 11]) rfl ?_
     refine G_val rfl rfl rfl rfl (V_move rfl rfl) ?_
     refine G_call (L2 := [_, _, _, _, _, _, _, _]) rfl rfl rfl rfl rfl rfl Tryd.call37 (ll_num _) [] [] rfl rfl ?_
     rintro v post ⟨rfl, rfl⟩
     show G _ _ _ [_, _, _, _, _, _, _, _] _
     refine G_val rfl rfl rfl rfl (V_eql rfl rfl rfl) ?_
     refine G_val rfl rfl rfl rfl (V_move rfl rfl) ?_
     refine G_splitD 190 rfl (fun hc7 => ?_) (fun hc7 => ?_)
     rotate_left
     · (first | (exact absurd rfl hc7) | (exfalso; omega) | (exfalso; simp at hc7; done))
     refine G_val rfl rfl rfl rfl (V_move rfl rfl) ?_
     refine G_call (L2 := [_, _, _, _, _, _, _, _]) rfl rfl rfl rfl rfl rfl Tryd.call37 (ll_num _) [] [] rfl rfl ?_
     rintro v post ⟨rfl, rfl⟩
     show G _ _ _ [_, _, _, _, _, _, _, _] _
     refine G_val rfl rfl rfl rfl (V_eql rfl rfl rfl) ?_
     refine G_val rfl rfl rfl rfl (V_pickT rfl rfl rfl) ?_
     refine G_val rfl rfl rfl rfl (V_move rfl rfl) ?_
     refine G_splitD 195 rfl (fun hc8 => ?_) (fun hc8 => ?_)
     rotate_left
     · (first | (exact absurd rfl hc8) | (exfalso; omega) | (exfalso; simp at hc8; done))
     refine G_call (L2 := [_, _, _, _, _, _, _, _]) rfl rfl rfl rfl rfl rfl Tryd.call34 (ll_live) [] [] rfl rfl ?_
     rintro v post ⟨rfl, rfl⟩
     show G _ _ _ [_, _, _, _, _, _, _, _] _
     refine G_val rfl rfl rfl rfl (V_pickT rfl rfl rfl) ?_
     refine G_val rfl rfl rfl rfl (V_assign rfl rfl) ?_
     refine G_done ?_
     refine G_ret (post := []) Tryd.func8 rfl (RVs_cons (RV_tmp rfl) RVs_nil) [] rfl ?_
     dsimp only [packed]
     exact ⟨rfl, rfl⟩


theorem okv_slice {P : Program} {W : World} {r : Reach} {b : Nat} {t e : TypeId} {v : Value} (h : Value.okWide P W r b t v) (ht : P.underlying t = some (.slice e)) : ∃ p i j, v = .slice p i j ∧ Cell.okWide P W r b t v := by
  have h1 := okv_cell h ht rfl
  have h2 := h1
  unfold Cell.okWide at h2
  rw [ht] at h2
  cases v <;> first | exact ⟨_, _, _, rfl, h1⟩ | (exfalso; first | exact h2 | (unfold Cell.ok at h2; rw [ht] at h2; exact h2) | (simp [Cell.ok, ht] at h2; done))
instance : Inhabited (List UInt8) := ⟨[]⟩
theorem one_str {W : World} {es : List Value} (hl : es.length = 1) (h : Reads Tryd.prog W 9 es) : ∃ s : List UInt8, es = (fun s => [strC s]) s ∧ s.length ≤ 9223372036854775807 := by
  obtain ⟨t, e1, pt⟩ := reads_str h Tryd.underlying9
  exact ⟨t, e1, pt⟩
set_option maxRecDepth 100000 in
theorem where26_types : Tryd.prog.cellTypes Tryd.prog.depth 65 = some [3, 3, 3, 22] := by kernel_rfl
theorem flat_one {α : Type} (f : α → Value) : ∀ l : List α, l.flatMap (fun s => [f s]) = l.map f
  | [] => rfl
  | _ :: r => by simp [flat_one f r]
set_option maxRecDepth 100000 in
theorem logAppends_walk : LawWalk 8 Tryd.f8 := lawwalk_reads (fun W base args hs hval => by
  rw [Tryd.params8] at hs hval
  obtain ⟨l⟩ := args
  match l, hs with
  | [a, b], _ =>
    obtain ⟨cs, rfl, hl, hc⟩ := okv_agg (s := 4) (hval 0 65 a rfl rfl).1 Tryd.underlying65 rfl where26_types (by kernel_rfl) rfl
    obtain ⟨h0, hr⟩ := hval 1 24 b rfl rfl
    obtain ⟨p, i, j, rfl, hv⟩ := okv_slice h0 Tryd.underlying24
    obtain ⟨o1, p1, q1, c1, T1, f1, ss, e1, hk, hg, hb⟩ := reads_slice (sz := 1) hr Tryd.underlying24 (by kernel_rfl) rfl hv (fun s => [strC s]) (fun _ => rfl) (fun s => s.length ≤ 9223372036854775807) (fun es hl h => one_str hl h)
    rw [e1]
    rw [flat_one] at hk
    match cs, hl, hc with
    | [v0, v1, v2, v3], _, hc =>
      obtain ⟨n0, rfl, a0, b0⟩ := okc_int (hc 0 v0 3 rfl rfl) Tryd.underlying3
      obtain ⟨n1, rfl, a1, b1⟩ := okc_int (hc 1 v1 3 rfl rfl) Tryd.underlying3
      obtain ⟨n2, rfl, a2, b2⟩ := okc_int (hc 2 v2 3 rfl rfl) Tryd.underlying3
      obtain ⟨n3, rfl, a3, b3⟩ := okc_int (hc 3 v3 22 rfl rfl) Tryd.underlying22
      have b3 : n3 ≤ (4294967295 : Int) := b3
      obtain ⟨m3, rfl⟩ := Int.eq_ofNat_of_zero_le (show (0 : Int) ≤ n3 from a3)
      exact ⟨_, has_cons (has_nil _) hb, logAppends_all n0 n1 n2 m3 a0 b0 a1 b1 a2 b2 (by omega) o1 p1 q1 c1 T1 f1 ss hk hg⟩)


set_option maxRecDepth 100000 in
theorem logAppends_lifted (os : Os) (started : os.Started) (H : Type) (enc : TypeId × Value → H) :
    ReturnsInHanded {} Tryd.checked os 8 .any (fun w args => (Rows.logAppendsSpec.pre enc Tryd.prog Tryd.f8 [] false w args ∧ laidMetH Tryd.prog Rows.logAppendsRow.laid w) ∧ sizedMet enc Tryd.prog Tryd.f8 (OpenSpec.ofChange Rows.logAppendsSpec) false w args)
      (Rows.logAppendsSpec.post enc Tryd.prog Tryd.f8 false true false false) := by
  refine returnsInHanded_of_change_and (C := Tryd.checked) (X := fun w _ => laidMetH Tryd.prog Rows.logAppendsRow.laid w) (fun _ _ _ hh h => h.of_heap hh) Tryd.ownK started (by kernel_rfl) Tryd.func8
    (ChangeSpec.witness_shaped (enc := enc) (C := Tryd.checked) (os := os) (X := fun w _ => laidMetH Tryd.prog Rows.logAppendsRow.laid w) false (World.laidAll Tryd.prog os Rows.logAppendsRow.laid) #[.agg #[.int .i64 0, .int .i64 0, .int .i64 0, .int .u32 0], .slice none 0 0] 8 (World.laidAll_os _ _ _)
      (World.shaped_of_ZipB (by kernel_rfl) (by kernel_rfl)) (by kernel_rfl) (by kernel_rfl) (by kernel_rfl)
      (by rw [MakeChecks.laidMetH_plain _ _ _ (by kernel_rfl)]; exact laidMet_laidAll _ (by kernel_rfl) (by kernel_rfl))) ?_
  intro W base args ds gs before hval hW _ _ _ _
  exact law_end (s := Rows.logAppendsSpec) rfl (by kernel_rfl) (by kernel_rfl) (by decide +kernel) (fun ds h => by match ds, h with | [_, _], _ => rfl) logAppends_walk W base args ds gs before hval hW
theorem logAppends_said : Rows.LogAppendsSaid :=
  OpenClaim.holds_of_wide 8 Tryd.f8 rfl rfl rfl rfl rfl rfl rfl ⟨rfl, rfl, rfl, rfl, rfl⟩ rfl rfl rfl rfl rfl (by kernel_rfl) Tryd.func8 (by kernel_rfl)
    (of_decide_eq_true (by kernel_rfl)) (by unfold Func.isWrapper; first | (rw [if_pos (by decide +kernel)]; kernel_rfl) | (rw [if_neg (by decide +kernel)]; exact ⟨rfl, rfl⟩))
    (fun os started H enc _ => logAppends_lifted os started H enc)
theorem logAppends_holds : Rows.LogAppendsCardSaid :=
  Claim7.holds_tied_plain_at .later [] _ _ _ _ logAppends_said (fun _ h => by cases h) (by kernel_rfl) (fun _ h => by cases h) logAppends_row_tie rfl ⟨rfl, rfl⟩ (by kernel_rfl) rfl
    (fun f fn hf hfn => by
      obtain rfl : f = 8 := Option.some.inj ((show Tryd.prog.funcNamed "billet/billetlaw26.LogAppends" = some 8 by kernel_rfl).symm.trans hf) |>.symm
      obtain rfl : fn = Tryd.f8 := (Option.some.inj (Tryd.func8.symm.trans hfn)).symm
      exact ⟨by kernel_rfl, fun j t ht => by
        rw [Tryd.params8] at ht
        have hm : t ∈ [65, 24] := by simpa using Array.mem_of_getElem? ht
        have hall : ([65, 24].all fun u => !Tryd.prog.wantsStandIn u) = true := by kernel_rfl
        exact (show Tryd.prog.wantsStandIn t = false by simpa using List.all_eq_true.1 hall t hm)⟩)
    (by kernel_rfl)
#print axioms logAppends_holds

end
end Go.Proofs.YtbblkgdejgoncaaDoor
