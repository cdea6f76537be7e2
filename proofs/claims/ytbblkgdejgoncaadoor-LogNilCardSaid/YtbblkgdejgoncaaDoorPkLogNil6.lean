/- The law LogNil: of no disk there is no log, and nothing is replayed; of no log nothing is told; the call returns true and leaves its arguments as they were. -/
import Derived.Test.YtbblkgdejgoncaaDoorPkLogNil1
import Derived.Test.YtbblkgdejgoncaaDoorPkLogNil2
import Derived.Test.YtbblkgdejgoncaaDoorPkLogNil3
import Derived.Test.YtbblkgdejgoncaaDoorPkLogNil4
import Derived.Test.YtbblkgdejgoncaaDoorPkLogNil5
import Derived.Test.YtbblkgdejgoncaaDoorCards
import Derived.Test.YtbblkgdejgoncaaDoorTie
import Derived.Lay
import Derived.LaidOnce
import Derived.SevenTiedAt
import Derived.Deep.DeepHandedRow

/- The laws of layer 26: what they have in common; the example. -/
set_option linter.unusedSimpArgs false
set_option linter.unusedVariables false
namespace Go.Proofs.YtbblkgdejgoncaaDoor
open Go Go.ChangeShapes Go.WideShapes Go.ChangeAt Go.RowKit

section
theorem infLogL_5 : Tryd.prog.info? 5 = some Tryd.t5 := by kernel_rfl


def regB (n : Nat) (f b : Int) : Prop := 0 ≤ f ∧ 1 ≤ b ∧ b ≤ (n : Int) ∧ f ≤ (n : Int) - b
instance (n : Nat) (f b : Int) : Decidable (regB n f b) := by unfold regB; infer_instance

set_option maxRecDepth 100000 in
set_option maxHeartbeats 1000000 in
theorem rl_region (n : Nat) (f b : Int) (hn : n ≤ 1000000) (hf0 : -9223372036854775808 ≤ f) (hf1 : f ≤ 9223372036854775807) (hb0 : -9223372036854775808 ≤ b) (hb1 : b ≤ 9223372036854775807) :
    Ct Tryd.prog 36 [.int .i64 (n : Int), .int .i64 f, .int .i64 b] [] [] fun v post => v = .bool (decide (regB n f b)) ∧ post = [] := by
 refine ct_of Tryd.func36 rfl rfl (fun w0 => ?_)
 show G _ _ [(0, _), (1, _), (2, _)] _ _
 refine G_seq ?_
 refine G_region (l := [0]) rfl ?_
 refine G_val rfl rfl rfl rfl (V_assign rfl rfl) ?_
 refine G_done ?_
 refine G_seq ?_
 refine G_region (l := [0, 1, 2, 3, 4, 5, 6, 7, 8, 9, 10, 11, 12, 13, 14, 15, 16, 17, 18]) rfl ?_
 refine G_val rfl rfl rfl rfl (V_move rfl rfl) ?_
 refine G_val rfl rfl rfl rfl (V_geq rfl rfl rfl) ?_
 refine G_val rfl rfl rfl rfl (V_move rfl rfl) ?_
 refine G_splitD 9 rfl (fun hc1 => ?_) (fun hc1 => ?_)
 · skip
   refine G_val rfl rfl rfl rfl (V_move rfl rfl) ?_
   refine G_val rfl rfl rfl rfl (V_geq rfl rfl rfl) ?_
   refine G_val rfl rfl rfl rfl (V_pickT rfl rfl rfl) ?_
   refine G_val rfl rfl rfl rfl (V_move rfl rfl) ?_
   refine G_splitD 13 rfl (fun hc2 => ?_) (fun hc2 => ?_)
   · skip
     refine G_val rfl rfl rfl rfl (V_move rfl rfl) ?_
     refine G_val rfl rfl rfl rfl (V_move rfl rfl) ?_
     refine G_val rfl rfl rfl rfl (V_leq rfl rfl rfl) ?_
     refine G_val rfl rfl rfl rfl (V_pickT rfl rfl rfl) ?_
     refine G_val rfl rfl rfl rfl (V_move rfl rfl) ?_
     refine G_splitD 18 rfl (fun hc3 => ?_) (fun hc3 => ?_)
     · skip
       refine G_val rfl rfl rfl rfl (V_move rfl rfl) ?_
       refine G_val rfl rfl rfl rfl (V_move rfl rfl) ?_
       refine G_val rfl rfl rfl rfl (V_move rfl rfl) ?_
       first
         | refine G_val rfl rfl rfl rfl ((V_sub rfl rfl rfl).int (wrap_i64 (by omega))) ?_
         | refine G_val rfl rfl rfl rfl (V_sub rfl rfl rfl) ?_
       refine G_val rfl rfl rfl rfl (V_leq rfl rfl rfl) ?_
       refine G_val rfl rfl rfl rfl (V_pickT rfl rfl rfl) ?_
       refine G_val rfl rfl rfl rfl (V_assign rfl rfl) ?_
       refine G_done ?_
       refine G_ret (post := []) Tryd.func36 rfl (RVs_cons (RV_tmp rfl) RVs_nil) [] rfl ?_
       dsimp only [packed]
       refine ⟨?_, rfl⟩; first | exact bool_eq (decide_eq_true (by unfold regB; omega)).symm | exact bool_eq (decide_eq_false (by unfold regB; omega)).symm | exact bool_eq (decide_eq_decide.2 (by unfold regB; omega))
     refine G_off rfl rfl rfl rfl ?_
     refine G_off rfl rfl rfl rfl ?_
     refine G_off rfl rfl rfl rfl ?_
     refine G_off rfl rfl rfl rfl ?_
     refine G_off rfl rfl rfl rfl ?_
     refine G_val rfl rfl rfl rfl (V_pickF rfl rfl rfl) ?_
     refine G_val rfl rfl rfl rfl (V_assign rfl rfl) ?_
     refine G_done ?_
     refine G_ret (post := []) Tryd.func36 rfl (RVs_cons (RV_tmp rfl) RVs_nil) [] rfl ?_
     dsimp only [packed]
     refine ⟨?_, rfl⟩; first | exact bool_eq (decide_eq_true (by unfold regB; omega)).symm | exact bool_eq (decide_eq_false (by unfold regB; omega)).symm | exact bool_eq (decide_eq_decide.2 (by unfold regB; omega))
   refine G_off rfl rfl rfl rfl ?_
   refine G_off rfl rfl rfl rfl ?_
   refine G_off rfl rfl rfl rfl ?_
   refine G_val rfl rfl rfl rfl (V_pickF rfl rfl rfl) ?_
   refine G_val rfl rfl rfl rfl (V_move rfl rfl) ?_
   refine G_off rfl rfl rfl rfl ?_
   refine G_off rfl rfl rfl rfl ?_
   refine G_off rfl rfl rfl rfl ?_
   refine G_off rfl rfl rfl rfl ?_
   refine G_off rfl rfl rfl rfl ?_
   refine G_val rfl rfl rfl rfl (V_pickF rfl rfl rfl) ?_
   refine G_val rfl rfl rfl rfl (V_assign rfl rfl) ?_
   refine G_done ?_
   refine G_ret (post := []) Tryd.func36 rfl (RVs_cons (RV_tmp rfl) RVs_nil) [] rfl ?_
   dsimp only [packed]
   refine ⟨?_, rfl⟩; first | exact bool_eq (decide_eq_true (by unfold regB; omega)).symm | exact bool_eq (decide_eq_false (by unfold regB; omega)).symm | exact bool_eq (decide_eq_decide.2 (by unfold regB; omega))
 refine G_off rfl rfl rfl rfl ?_
 refine G_off rfl rfl rfl rfl ?_
 refine G_val rfl rfl rfl rfl (V_pickF rfl rfl rfl) ?_
 refine G_val rfl rfl rfl rfl (V_move rfl rfl) ?_
 refine G_off rfl rfl rfl rfl ?_
 refine G_off rfl rfl rfl rfl ?_
 refine G_off rfl rfl rfl rfl ?_
 refine G_val rfl rfl rfl rfl (V_pickF rfl rfl rfl) ?_
 refine G_val rfl rfl rfl rfl (V_move rfl rfl) ?_
 refine G_off rfl rfl rfl rfl ?_
 refine G_off rfl rfl rfl rfl ?_
 refine G_off rfl rfl rfl rfl ?_
 refine G_off rfl rfl rfl rfl ?_
 refine G_off rfl rfl rfl rfl ?_
 refine G_val rfl rfl rfl rfl (V_pickF rfl rfl rfl) ?_
 refine G_val rfl rfl rfl rfl (V_assign rfl rfl) ?_
 refine G_done ?_
 refine G_ret (post := []) Tryd.func36 rfl (RVs_cons (RV_tmp rfl) RVs_nil) [] rfl ?_
 dsimp only [packed]
 refine ⟨?_, rfl⟩; first | exact bool_eq (decide_eq_true (by unfold regB; omega)).symm | exact bool_eq (decide_eq_false (by unfold regB; omega)).symm | exact bool_eq (decide_eq_decide.2 (by unfold regB; omega))

set_option maxRecDepth 100000 in
set_option maxHeartbeats 1000000 in
theorem ll_num (n : Int) :
    Ct Tryd.prog 37 [.int .i64 n] [] [] fun v post => v = .int .i64 n ∧ post = [] := by
 refine ct_of Tryd.func37 rfl rfl (fun w0 => ?_)
 show G _ _ [(0, _)] _ _
 refine G_seq ?_
 refine G_region (l := [0]) rfl ?_
 refine G_val rfl rfl rfl rfl (V_assign rfl rfl) ?_
 refine G_done ?_
 refine G_seq ?_
 refine G_region (l := [0, 1]) rfl ?_
 refine G_val rfl rfl rfl rfl (V_move rfl rfl) ?_
 refine G_val rfl rfl rfl rfl (V_assign rfl rfl) ?_
 refine G_done ?_
 refine G_ret (post := []) Tryd.func37 rfl (RVs_cons (RV_tmp rfl) RVs_nil) [] rfl ?_
 dsimp only [packed]
 exact ⟨rfl, rfl⟩


theorem lg_new_ok {n : Nat} {f b : Int} {e : Nat} {a : Int} {d : Nat} {v : Value} {post : List (Option Nat × Obj)} (hr : rgE n f b = 0) (he : 0 < e) (h0 : 0 ≤ a) (h1 : a ≤ b)
    (h : (rgE n f b ≠ 0 ∧ v = .tuple #[.pointer none, .int .i64 1] ∧ post = []) ∨ (rgE n f b = 0 ∧ ((e : Int) = 0 ∨ a < 0 ∨ b < a) ∧ v = .tuple #[.pointer none, .int .i64 1] ∧ post = []) ∨ (rgE n f b = 0 ∧ 0 < e ∧ 0 ≤ a ∧ a ≤ b ∧ ∃ g, v = .tuple #[.pointer (some ⟨g, 0, none⟩), .int .i64 0] ∧ post = [(some g, .cells (lgC d f b e a.toNat).toArray 136 (0, 0))])) :
    ∃ g, v = .tuple #[.pointer (some ⟨g, 0, none⟩), .int .i64 0] ∧ post = [(some g, .cells (lgC d f b e a.toNat).toArray 136 (0, 0))] := by
  rcases h with h | h | h
  · exact absurd hr h.1
  · have := h.2.1; omega
  · exact h.2.2.2.2
attribute [local irreducible] lk1 lk2 rp rpN appK appE appA newD zt

theorem zt_cells (n : Nat) : ((List.replicate n (Value.int .u8 0)).toArray.toList.drop 0).take n = bcells (zt n) := by
  rw [List.drop_zero, List.take_of_length_le (by simp)]; unfold zt; rw [bcells_zero]
set_option maxRecDepth 100000 in
set_option maxHeartbeats 4000000 in
theorem ll_live  :
    Ct Tryd.prog 34 [] [] [] fun v post => v = .bool true ∧ post = [] := by
 obtain ⟨lv1, lv2, lv3, lv4, lv5, lv6, lv7⟩ := live_log
 refine ct_of Tryd.func34 rfl rfl (fun w0 => ?_)
 show G _ _ [] _ _
 refine G_seq ?_
 refine G_region (l := [0]) rfl ?_
 refine G_val rfl rfl rfl rfl (V_assign rfl rfl) ?_
 refine G_done ?_
 refine G_seq ?_
 refine G_region (l := [0, 1, 2, 3, 4, 5]) rfl ?_
 refine G_call (L2 := []) rfl rfl rfl rfl rfl rfl Tryd.call17 (dk_new 8 (by omega) (by omega)) [] [] rfl rfl ?_
 rintro v post ⟨d, lb, lcap, lcs, rfl, h, rfl⟩
 show G _ _ _ [_, _, _] _
 refine G_val rfl rfl rfl rfl (V_move rfl rfl) ?_
 refine G_val rfl rfl rfl rfl (V_extract rfl rfl rfl) ?_
 refine G_val rfl rfl rfl rfl (V_extract rfl rfl rfl) ?_
 refine G_val rfl rfl rfl rfl (V_assign rfl rfl) ?_
 refine G_val rfl rfl rfl rfl (V_assign rfl rfl) ?_
 refine G_done ?_
 refine G_seq ?_
 refine G_region (l := [0, 1, 2, 3, 4, 5, 6]) rfl ?_
 refine G_val rfl rfl rfl rfl (V_move rfl rfl) ?_
 refine G_call (L2 := [_, _, _]) rfl rfl rfl rfl rfl rfl Tryd.call35 ((lg_new d 8 lb lcap lcs slNil (newD 8) h 2 5 (by omega) (by omega) (by omega) (by omega) 7 0 (by omega) (by omega) (by omega)).weaken (fun v post h => lg_new_ok (by decide) (by omega) (by omega) (by omega) h)) [] [0] rfl rfl ?_
 rintro v post ⟨g, rfl, rfl⟩
 show G _ _ _ [_, _, _, _] _
 refine G_val rfl rfl rfl rfl (V_move rfl rfl) ?_
 refine G_val rfl rfl rfl rfl (V_extract rfl rfl rfl) ?_
 refine G_val rfl rfl rfl rfl (V_extract rfl rfl rfl) ?_
 refine G_val rfl rfl rfl rfl (V_assign rfl rfl) ?_
 refine G_val rfl rfl rfl rfl (V_assign rfl rfl) ?_
 refine G_done ?_
 refine G_seq ?_
 refine GH_start (Lq := []) (isq := []) (m := 10) mixedK rfl rfl ?_
 refine GH_take 0 rfl rfl rfl rfl (by kernel_rfl) (by kernel_rfl) (by kernel_rfl) (fun _ _ => (V_move rfl rfl)) ?_
 refine GH_take 4 rfl rfl rfl rfl (by kernel_rfl) (by kernel_rfl) (by kernel_rfl) (fun _ _ => (V_move rfl rfl)) ?_
 refine GH_all [1, 5] (by kernel_rfl) (by decide) ?_
 refine (And.intro ?_ (And.intro ?_ trivial))
 · skip
   refine GHop_new rfl rfl rfl rfl (N_make (l := 42) (m := 42) rfl Tryd.underlying27 infLogL_5 rfl rfl rfl rfl rfl rfl rfl (by first | decide | omega) (by first | decide | omega | (show 1 * _ ≤ _; omega)) (by first | decide | omega)) [] (fun _ => ⟨_, rfl⟩) (fun b20 => ?_)
   refine GH_all [2, 5] (by kernel_rfl) (by decide) ?_
   refine (And.intro ?_ (And.intro ?_ trivial))
   · skip
     refine GHop_val rfl rfl rfl rfl (V_bytesS (l := (zt 42)) rfl rfl Tryd.underlying27 Tryd.underlying5 Tryd.underlying9 (mem_at 0 rfl) (by rw [zt_len]) (zt_cells 42)) ?_
     refine GH_all [3, 5] (by kernel_rfl) (by decide) ?_
     refine (And.intro ?_ (And.intro ?_ trivial))
     · skip
       refine GHop_call (L2 := [_]) rfl rfl rfl rfl rfl rfl Tryd.call41 ((lg_append d 8 lb lcap lcs slNil (newD 8) h g 2 5 7 0 (zt 42) (by decide) (by omega) (by omega) (by omega) (new_W8) (by rw [zt_len]; omega)).weaken (fun v post h => by rw [lv1, lv2, lk1_eq] at h; exact h)) [1, 1, 1, 1] [] rfl rfl [] (by rintro v post ⟨rfl, lcs1, uw1, h1, rfl⟩; exact ⟨_, rfl⟩) ?_
       rintro v post ⟨rfl, lcs1, uw1, h1, rfl⟩
       show GH _ _ _ _ _ _ _ [_, _, _, _, _] _
       refine GH_all [5] (by kernel_rfl) (by decide) ?_
       refine (And.intro ?_ trivial)
       · skip
         refine GHop_new rfl rfl rfl rfl (N_make (l := 43) (m := 43) rfl Tryd.underlying27 infLogL_5 rfl rfl rfl rfl rfl rfl rfl (by first | decide | omega) (by first | decide | omega | (show 1 * _ ≤ _; omega)) (by first | decide | omega)) [] (fun _ => ⟨_, rfl⟩) (fun b24 => ?_)
         refine GH_all [6] (by kernel_rfl) (by decide) ?_
         refine (And.intro ?_ trivial)
         · skip
           refine GHop_val rfl rfl rfl rfl (V_bytesS (l := (zt 43)) rfl rfl Tryd.underlying27 Tryd.underlying5 Tryd.underlying9 (mem_at 0 rfl) (by rw [zt_len]) (zt_cells 43)) ?_
           refine GH_all [7] (by kernel_rfl) (by decide) ?_
           refine (And.intro ?_ trivial)
           · skip
             refine GHop_call (L2 := [_, _]) rfl rfl rfl rfl rfl rfl Tryd.call41 ((lg_append d 8 lb lcap lcs1 uw1 lk1 h1 g 2 5 7 1 (zt 43) (by decide) (by omega) (by omega) (by omega) (by omega) (by rw [zt_len]; omega)).weaken (fun v post h => by rw [lv3, lv4, lk2_eq] at h; exact h)) [1, 1, 1, 1] [] rfl rfl [] (by rintro v post ⟨rfl, lcs1, uw1, h1, rfl⟩; exact ⟨_, rfl⟩) ?_
             rintro v post ⟨rfl, lcs1, uw1, h1, rfl⟩
             show GH _ _ _ _ _ _ _ [_, _, _, _, _, _] _
             refine GH_take 8 rfl rfl rfl rfl (by kernel_rfl) (by kernel_rfl) (by kernel_rfl) (fun _ _ => (V_assign rfl rfl)) ?_
             refine GH_take 9 rfl rfl rfl rfl (by kernel_rfl) (by kernel_rfl) (by kernel_rfl) (fun _ _ => (V_assign rfl rfl)) ?_
             refine GH_done (by kernel_rfl) ?_
             refine G_seq ?_
             refine G_region (l := [0, 1, 2, 3, 4, 5, 6, 7, 8]) rfl ?_
             refine G_val rfl rfl rfl rfl (V_move rfl rfl) ?_
             refine G_call (L2 := [_, _, _, _, _, _]) rfl rfl rfl rfl rfl rfl Tryd.call48 ((lg_replay d 8 lb lcap lcs1 uw1 lk2 h1 2 5 1 9 (by decide) lv5 (by omega) (by omega) (by omega)).weaken (fun v post h => by rw [show (5 : Int).toNat = 5 from rfl, lv7] at h; exact h)) [] [1, 2, 3] rfl rfl ?_
             rintro v post ⟨ur, hur, rfl, rfl⟩
             show G _ _ _ [_, _, _, _, _, _, _] _
             refine G_val rfl rfl rfl rfl (V_move rfl rfl) ?_
             refine G_val rfl rfl rfl rfl (V_extract rfl rfl rfl) ?_
             refine G_val rfl rfl rfl rfl (V_extract rfl rfl rfl) ?_
             refine G_val rfl rfl rfl rfl (V_extract rfl rfl rfl) ?_
             refine G_val rfl rfl rfl rfl (V_assign rfl rfl) ?_
             refine G_val rfl rfl rfl rfl (V_assign rfl rfl) ?_
             refine G_val rfl rfl rfl rfl (V_assign rfl rfl) ?_
             refine G_done ?_
             refine G_seq ?_
             refine G_region (l := [0, 1, 2, 3, 4, 5, 6, 7, 8, 9, 10, 11, 12, 13, 14, 15, 16, 17, 18, 19, 20, 21, 22, 23, 24, 25, 26, 27, 28, 29, 30, 31, 32, 33, 34, 35, 36, 37]) rfl ?_
             refine G_val rfl rfl rfl rfl (V_move rfl rfl) ?_
             refine G_call (L2 := [_, _, _, _, _, _, _]) rfl rfl rfl rfl rfl rfl Tryd.call37 (ll_num _) [] [] rfl rfl ?_
             rintro v post ⟨rfl, rfl⟩
             show G _ _ _ [_, _, _, _, _, _, _] _
             refine G_val rfl rfl rfl rfl (V_eql rfl rfl rfl) ?_
             refine G_val rfl rfl rfl rfl (V_move rfl rfl) ?_
             refine G_splitD 36 rfl (fun hc1 => ?_) (fun hc1 => ?_)
             rotate_left
             · (first | (exact absurd rfl hc1) | (exfalso; omega) | (exfalso; simp at hc1; done))
             refine G_val rfl rfl rfl rfl (V_move rfl rfl) ?_
             refine G_call (L2 := [_, _, _, _, _, _, _]) rfl rfl rfl rfl rfl rfl Tryd.call37 (ll_num _) [] [] rfl rfl ?_
             rintro v post ⟨rfl, rfl⟩
             show G _ _ _ [_, _, _, _, _, _, _] _
             refine G_val rfl rfl rfl rfl (V_eql rfl rfl rfl) ?_
             refine G_val rfl rfl rfl rfl (V_pickT rfl rfl rfl) ?_
             refine G_val rfl rfl rfl rfl (V_move rfl rfl) ?_
             refine G_splitD 41 rfl (fun hc2 => ?_) (fun hc2 => ?_)
             rotate_left
             · (first | (exact absurd rfl hc2) | (exfalso; omega) | (exfalso; simp at hc2; done))
             refine G_val rfl rfl rfl rfl (V_move rfl rfl) ?_
             refine G_call (L2 := [_, _, _, _, _, _, _]) rfl rfl rfl rfl rfl rfl Tryd.call37 (ll_num _) [] [] rfl rfl ?_
             rintro v post ⟨rfl, rfl⟩
             show G _ _ _ [_, _, _, _, _, _, _] _
             refine G_val rfl rfl rfl rfl (V_eql rfl rfl rfl) ?_
             refine G_val rfl rfl rfl rfl (V_pickT rfl rfl rfl) ?_
             refine G_val rfl rfl rfl rfl (V_move rfl rfl) ?_
             refine G_splitD 46 rfl (fun hc3 => ?_) (fun hc3 => ?_)
             rotate_left
             · (first | (exact absurd rfl hc3) | (exfalso; omega) | (exfalso; simp at hc3; done))
             refine G_val rfl rfl rfl rfl (V_move rfl rfl) ?_
             refine G_call (L2 := [_, _, _, _, _, _, _]) rfl rfl rfl rfl rfl rfl Tryd.call37 (ll_num _) [] [] rfl rfl ?_
             rintro v post ⟨rfl, rfl⟩
             show G _ _ _ [_, _, _, _, _, _, _] _
             refine G_val rfl rfl rfl rfl (V_eql rfl rfl rfl) ?_
             refine G_val rfl rfl rfl rfl (V_pickT rfl rfl rfl) ?_
             refine G_val rfl rfl rfl rfl (V_move rfl rfl) ?_
             refine G_splitD 51 rfl (fun hc4 => ?_) (fun hc4 => ?_)
             rotate_left
             · (first | (exact absurd rfl hc4) | (exfalso; omega) | (exfalso; simp at hc4; done))
             refine G_val rfl rfl rfl rfl (V_move rfl rfl) ?_
             refine G_call (L2 := [_, _, _, _, _, _, _]) rfl rfl rfl rfl rfl rfl Tryd.call44 (lg_at d g 2 5 7 3) [] [1] rfl rfl ?_
             rintro v post ⟨rfl, rfl⟩
             show G _ _ _ [_, _, _, _, _, _, _] _
             refine G_val rfl rfl rfl rfl (V_eql rfl rfl rfl) ?_
             refine G_val rfl rfl rfl rfl (V_pickT rfl rfl rfl) ?_
             refine G_val rfl rfl rfl rfl (V_move rfl rfl) ?_
             refine G_splitD 56 rfl (fun hc5 => ?_) (fun hc5 => ?_)
             rotate_left
             · (first | (exact absurd rfl hc5) | (exfalso; omega) | (exfalso; simp at hc5; done))
             refine G_val rfl rfl rfl rfl (V_move rfl rfl) ?_
             refine G_call (L2 := [_, _, _, _, _, _, _]) rfl rfl rfl rfl rfl rfl Tryd.call45 (lg_room d g 2 5 7 3 (by omega) (by omega) (by omega)) [] [1] rfl rfl ?_
             rintro v post ⟨rfl, rfl⟩
             show G _ _ _ [_, _, _, _, _, _, _] _
             refine G_val rfl rfl rfl rfl (V_eql rfl rfl rfl) ?_
             refine G_val rfl rfl rfl rfl (V_pickT rfl rfl rfl) ?_
             refine G_val rfl rfl rfl rfl (V_move rfl rfl) ?_
             refine G_splitD 61 rfl (fun hc6 => ?_) (fun hc6 => ?_)
             rotate_left
             · (first | (exact absurd rfl hc6) | (exfalso; omega) | (exfalso; simp at hc6; done))
             refine G_val rfl rfl rfl rfl (V_move rfl rfl) ?_
             refine G_val rfl rfl rfl rfl (V_len rfl rfl Tryd.underlying24 rfl) ?_
             refine G_val rfl rfl rfl rfl (V_eql rfl rfl rfl) ?_
             refine G_val rfl rfl rfl rfl (V_pickT rfl rfl rfl) ?_
             refine G_val rfl rfl rfl rfl (V_move rfl rfl) ?_
             refine G_splitD 66 rfl (fun hc7 => ?_) (fun hc7 => ?_)
             rotate_left
             · (first | (exact absurd rfl hc7) | (exfalso; omega) | (exfalso; simp at hc7; done))
             refine G_val rfl rfl rfl rfl (V_move rfl rfl) ?_
             refine G_val rfl rfl rfl rfl (V_eql rfl rfl rfl) ?_
             refine G_val rfl rfl rfl rfl (V_pickT rfl rfl rfl) ?_
             refine G_val rfl rfl rfl rfl (V_assign rfl rfl) ?_
             refine G_done ?_
             refine G_ret (post := []) Tryd.func34 rfl (RVs_cons (RV_tmp rfl) RVs_nil) [] rfl ?_
             dsimp only [packed]
             exact ⟨rfl, rfl⟩
     · skip
       refine GHop_new rfl rfl rfl rfl (N_make (l := 43) (m := 43) rfl Tryd.underlying27 infLogL_5 rfl rfl rfl rfl rfl rfl rfl (by first | decide | omega) (by first | decide | omega | (show 1 * _ ≤ _; omega)) (by first | decide | omega)) [] (fun _ => ⟨_, rfl⟩) (fun b24 => ?_)
       refine GH_all [3, 6] (by kernel_rfl) (by decide) ?_
       refine (And.intro ?_ (And.intro ?_ trivial))
       · skip
         refine GHop_call (L2 := [_, _]) rfl rfl rfl rfl rfl rfl Tryd.call41 ((lg_append d 8 lb lcap lcs slNil (newD 8) h g 2 5 7 0 (zt 42) (by decide) (by omega) (by omega) (by omega) (new_W8) (by rw [zt_len]; omega)).weaken (fun v post h => by rw [lv1, lv2, lk1_eq] at h; exact h)) [2, 2, 2, 2] [] rfl rfl [] (by rintro v post ⟨rfl, lcs1, uw1, h1, rfl⟩; exact ⟨_, rfl⟩) ?_
         rintro v post ⟨rfl, lcs1, uw1, h1, rfl⟩
         show GH _ _ _ _ _ _ _ [_, _, _, _, _, _] _
         refine GH_all [6] (by kernel_rfl) (by decide) ?_
         refine (And.intro ?_ trivial)
         · skip
           refine GHop_val rfl rfl rfl rfl (V_bytesS (l := (zt 43)) rfl rfl Tryd.underlying27 Tryd.underlying5 Tryd.underlying9 (mem_at 4 rfl) (by rw [zt_len]) (zt_cells 43)) ?_
           refine GH_all [7] (by kernel_rfl) (by decide) ?_
           refine (And.intro ?_ trivial)
           · skip
             refine GHop_call (L2 := [_, _]) rfl rfl rfl rfl rfl rfl Tryd.call41 ((lg_append d 8 lb lcap lcs1 uw1 lk1 h1 g 2 5 7 1 (zt 43) (by decide) (by omega) (by omega) (by omega) (by omega) (by rw [zt_len]; omega)).weaken (fun v post h => by rw [lv3, lv4, lk2_eq] at h; exact h)) [0, 0, 0, 0] [] rfl rfl [] (by rintro v post ⟨rfl, lcs1, uw1, h1, rfl⟩; exact ⟨_, rfl⟩) ?_
             rintro v post ⟨rfl, lcs1, uw1, h1, rfl⟩
             show GH _ _ _ _ _ _ _ [_, _, _, _, _, _] _
             refine GH_take 8 rfl rfl rfl rfl (by kernel_rfl) (by kernel_rfl) (by kernel_rfl) (fun _ _ => (V_assign rfl rfl)) ?_
             refine GH_take 9 rfl rfl rfl rfl (by kernel_rfl) (by kernel_rfl) (by kernel_rfl) (fun _ _ => (V_assign rfl rfl)) ?_
             refine GH_done (by kernel_rfl) ?_
             refine G_seq ?_
             refine G_region (l := [0, 1, 2, 3, 4, 5, 6, 7, 8]) rfl ?_
             refine G_val rfl rfl rfl rfl (V_move rfl rfl) ?_
             refine G_call (L2 := [_, _, _, _, _, _]) rfl rfl rfl rfl rfl rfl Tryd.call48 ((lg_replay d 8 lb lcap lcs1 uw1 lk2 h1 2 5 1 9 (by decide) lv5 (by omega) (by omega) (by omega)).weaken (fun v post h => by rw [show (5 : Int).toNat = 5 from rfl, lv7] at h; exact h)) [] [1, 2, 3] rfl rfl ?_
             rintro v post ⟨ur, hur, rfl, rfl⟩
             show G _ _ _ [_, _, _, _, _, _, _] _
             refine G_val rfl rfl rfl rfl (V_move rfl rfl) ?_
             refine G_val rfl rfl rfl rfl (V_extract rfl rfl rfl) ?_
             refine G_val rfl rfl rfl rfl (V_extract rfl rfl rfl) ?_
             refine G_val rfl rfl rfl rfl (V_extract rfl rfl rfl) ?_
             refine G_val rfl rfl rfl rfl (V_assign rfl rfl) ?_
             refine G_val rfl rfl rfl rfl (V_assign rfl rfl) ?_
             refine G_val rfl rfl rfl rfl (V_assign rfl rfl) ?_
             refine G_done ?_
             refine G_seq ?_
             refine G_region (l := [0, 1, 2, 3, 4, 5, 6, 7, 8, 9, 10, 11, 12, 13, 14, 15, 16, 17, 18, 19, 20, 21, 22, 23, 24, 25, 26, 27, 28, 29, 30, 31, 32, 33, 34, 35, 36, 37]) rfl ?_
             refine G_val rfl rfl rfl rfl (V_move rfl rfl) ?_
             refine G_call (L2 := [_, _, _, _, _, _, _]) rfl rfl rfl rfl rfl rfl Tryd.call37 (ll_num _) [] [] rfl rfl ?_
             rintro v post ⟨rfl, rfl⟩
             show G _ _ _ [_, _, _, _, _, _, _] _
             refine G_val rfl rfl rfl rfl (V_eql rfl rfl rfl) ?_
             refine G_val rfl rfl rfl rfl (V_move rfl rfl) ?_
             refine G_splitD 36 rfl (fun hc1 => ?_) (fun hc1 => ?_)
             rotate_left
             · (first | (exact absurd rfl hc1) | (exfalso; omega) | (exfalso; simp at hc1; done))
             refine G_val rfl rfl rfl rfl (V_move rfl rfl) ?_
             refine G_call (L2 := [_, _, _, _, _, _, _]) rfl rfl rfl rfl rfl rfl Tryd.call37 (ll_num _) [] [] rfl rfl ?_
             rintro v post ⟨rfl, rfl⟩
             show G _ _ _ [_, _, _, _, _, _, _] _
             refine G_val rfl rfl rfl rfl (V_eql rfl rfl rfl) ?_
             refine G_val rfl rfl rfl rfl (V_pickT rfl rfl rfl) ?_
             refine G_val rfl rfl rfl rfl (V_move rfl rfl) ?_
             refine G_splitD 41 rfl (fun hc2 => ?_) (fun hc2 => ?_)
             rotate_left
             · (first | (exact absurd rfl hc2) | (exfalso; omega) | (exfalso; simp at hc2; done))
             refine G_val rfl rfl rfl rfl (V_move rfl rfl) ?_
             refine G_call (L2 := [_, _, _, _, _, _, _]) rfl rfl rfl rfl rfl rfl Tryd.call37 (ll_num _) [] [] rfl rfl ?_
             rintro v post ⟨rfl, rfl⟩
             show G _ _ _ [_, _, _, _, _, _, _] _
             refine G_val rfl rfl rfl rfl (V_eql rfl rfl rfl) ?_
             refine G_val rfl rfl rfl rfl (V_pickT rfl rfl rfl) ?_
             refine G_val rfl rfl rfl rfl (V_move rfl rfl) ?_
             refine G_splitD 46 rfl (fun hc3 => ?_) (fun hc3 => ?_)
             rotate_left
             · (first | (exact absurd rfl hc3) | (exfalso; omega) | (exfalso; simp at hc3; done))
             refine G_val rfl rfl rfl rfl (V_move rfl rfl) ?_
             refine G_call (L2 := [_, _, _, _, _, _, _]) rfl rfl rfl rfl rfl rfl Tryd.call37 (ll_num _) [] [] rfl rfl ?_
             rintro v post ⟨rfl, rfl⟩
             show G _ _ _ [_, _, _, _, _, _, _] _
             refine G_val rfl rfl rfl rfl (V_eql rfl rfl rfl) ?_
             refine G_val rfl rfl rfl rfl (V_pickT rfl rfl rfl) ?_
             refine G_val rfl rfl rfl rfl (V_move rfl rfl) ?_
             refine G_splitD 51 rfl (fun hc4 => ?_) (fun hc4 => ?_)
             rotate_left
             · (first | (exact absurd rfl hc4) | (exfalso; omega) | (exfalso; simp at hc4; done))
             refine G_val rfl rfl rfl rfl (V_move rfl rfl) ?_
             refine G_call (L2 := [_, _, _, _, _, _, _]) rfl rfl rfl rfl rfl rfl Tryd.call44 (lg_at d g 2 5 7 3) [] [1] rfl rfl ?_
             rintro v post ⟨rfl, rfl⟩
             show G _ _ _ [_, _, _, _, _, _, _] _
             refine G_val rfl rfl rfl rfl (V_eql rfl rfl rfl) ?_
             refine G_val rfl rfl rfl rfl (V_pickT rfl rfl rfl) ?_
             refine G_val rfl rfl rfl rfl (V_move rfl rfl) ?_
             refine G_splitD 56 rfl (fun hc5 => ?_) (fun hc5 => ?_)
             rotate_left
             · (first | (exact absurd rfl hc5) | (exfalso; omega) | (exfalso; simp at hc5; done))
             refine G_val rfl rfl rfl rfl (V_move rfl rfl) ?_
             refine G_call (L2 := [_, _, _, _, _, _, _]) rfl rfl rfl rfl rfl rfl Tryd.call45 (lg_room d g 2 5 7 3 (by omega) (by omega) (by omega)) [] [1] rfl rfl ?_
             rintro v post ⟨rfl, rfl⟩
             show G _ _ _ [_, _, _, _, _, _, _] _
             refine G_val rfl rfl rfl rfl (V_eql rfl rfl rfl) ?_
             refine G_val rfl rfl rfl rfl (V_pickT rfl rfl rfl) ?_
             refine G_val rfl rfl rfl rfl (V_move rfl rfl) ?_
             refine G_splitD 61 rfl (fun hc6 => ?_) (fun hc6 => ?_)
             rotate_left
             · (first | (exact absurd rfl hc6) | (exfalso; omega) | (exfalso; simp at hc6; done))
             refine G_val rfl rfl rfl rfl (V_move rfl rfl) ?_
             refine G_val rfl rfl rfl rfl (V_len rfl rfl Tryd.underlying24 rfl) ?_
             refine G_val rfl rfl rfl rfl (V_eql rfl rfl rfl) ?_
             refine G_val rfl rfl rfl rfl (V_pickT rfl rfl rfl) ?_
             refine G_val rfl rfl rfl rfl (V_move rfl rfl) ?_
             refine G_splitD 66 rfl (fun hc7 => ?_) (fun hc7 => ?_)
             rotate_left
             · (first | (exact absurd rfl hc7) | (exfalso; omega) | (exfalso; simp at hc7; done))
             refine G_val rfl rfl rfl rfl (V_move rfl rfl) ?_
             refine G_val rfl rfl rfl rfl (V_eql rfl rfl rfl) ?_
             refine G_val rfl rfl rfl rfl (V_pickT rfl rfl rfl) ?_
             refine G_val rfl rfl rfl rfl (V_assign rfl rfl) ?_
             refine G_done ?_
             refine G_ret (post := []) Tryd.func34 rfl (RVs_cons (RV_tmp rfl) RVs_nil) [] rfl ?_
             dsimp only [packed]
             exact ⟨rfl, rfl⟩
       · skip
         refine GHop_val rfl rfl rfl rfl (V_bytesS (l := (zt 43)) rfl rfl Tryd.underlying27 Tryd.underlying5 Tryd.underlying9 (mem_at 0 rfl) (by rw [zt_len]) (zt_cells 43)) ?_
         refine GH_all [3] (by kernel_rfl) (by decide) ?_
         refine (And.intro ?_ trivial)
         · skip
           refine GHop_call (L2 := [_, _]) rfl rfl rfl rfl rfl rfl Tryd.call41 ((lg_append d 8 lb lcap lcs slNil (newD 8) h g 2 5 7 0 (zt 42) (by decide) (by omega) (by omega) (by omega) (new_W8) (by rw [zt_len]; omega)).weaken (fun v post h => by rw [lv1, lv2, lk1_eq] at h; exact h)) [2, 2, 2, 2] [] rfl rfl [] (by rintro v post ⟨rfl, lcs1, uw1, h1, rfl⟩; exact ⟨_, rfl⟩) ?_
           rintro v post ⟨rfl, lcs1, uw1, h1, rfl⟩
           show GH _ _ _ _ _ _ _ [_, _, _, _, _, _] _
           refine GH_all [7] (by kernel_rfl) (by decide) ?_
           refine (And.intro ?_ trivial)
           · skip
             refine GHop_call (L2 := [_, _]) rfl rfl rfl rfl rfl rfl Tryd.call41 ((lg_append d 8 lb lcap lcs1 uw1 lk1 h1 g 2 5 7 1 (zt 43) (by decide) (by omega) (by omega) (by omega) (by omega) (by rw [zt_len]; omega)).weaken (fun v post h => by rw [lv3, lv4, lk2_eq] at h; exact h)) [0, 0, 0, 0] [] rfl rfl [] (by rintro v post ⟨rfl, lcs1, uw1, h1, rfl⟩; exact ⟨_, rfl⟩) ?_
             rintro v post ⟨rfl, lcs1, uw1, h1, rfl⟩
             show GH _ _ _ _ _ _ _ [_, _, _, _, _, _] _
             refine GH_take 8 rfl rfl rfl rfl (by kernel_rfl) (by kernel_rfl) (by kernel_rfl) (fun _ _ => (V_assign rfl rfl)) ?_
             refine GH_take 9 rfl rfl rfl rfl (by kernel_rfl) (by kernel_rfl) (by kernel_rfl) (fun _ _ => (V_assign rfl rfl)) ?_
             refine GH_done (by kernel_rfl) ?_
             refine G_seq ?_
             refine G_region (l := [0, 1, 2, 3, 4, 5, 6, 7, 8]) rfl ?_
             refine G_val rfl rfl rfl rfl (V_move rfl rfl) ?_
             refine G_call (L2 := [_, _, _, _, _, _]) rfl rfl rfl rfl rfl rfl Tryd.call48 ((lg_replay d 8 lb lcap lcs1 uw1 lk2 h1 2 5 1 9 (by decide) lv5 (by omega) (by omega) (by omega)).weaken (fun v post h => by rw [show (5 : Int).toNat = 5 from rfl, lv7] at h; exact h)) [] [1, 2, 3] rfl rfl ?_
             rintro v post ⟨ur, hur, rfl, rfl⟩
             show G _ _ _ [_, _, _, _, _, _, _] _
             refine G_val rfl rfl rfl rfl (V_move rfl rfl) ?_
             refine G_val rfl rfl rfl rfl (V_extract rfl rfl rfl) ?_
             refine G_val rfl rfl rfl rfl (V_extract rfl rfl rfl) ?_
             refine G_val rfl rfl rfl rfl (V_extract rfl rfl rfl) ?_
             refine G_val rfl rfl rfl rfl (V_assign rfl rfl) ?_
             refine G_val rfl rfl rfl rfl (V_assign rfl rfl) ?_
             refine G_val rfl rfl rfl rfl (V_assign rfl rfl) ?_
             refine G_done ?_
             refine G_seq ?_
             refine G_region (l := [0, 1, 2, 3, 4, 5, 6, 7, 8, 9, 10, 11, 12, 13, 14, 15, 16, 17, 18, 19, 20, 21, 22, 23, 24, 25, 26, 27, 28, 29, 30, 31, 32, 33, 34, 35, 36, 37]) rfl ?_
             refine G_val rfl rfl rfl rfl (V_move rfl rfl) ?_
             refine G_call (L2 := [_, _, _, _, _, _, _]) rfl rfl rfl rfl rfl rfl Tryd.call37 (ll_num _) [] [] rfl rfl ?_
             rintro v post ⟨rfl, rfl⟩
             show G _ _ _ [_, _, _, _, _, _, _] _
             refine G_val rfl rfl rfl rfl (V_eql rfl rfl rfl) ?_
             refine G_val rfl rfl rfl rfl (V_move rfl rfl) ?_
             refine G_splitD 36 rfl (fun hc1 => ?_) (fun hc1 => ?_)
             rotate_left
             · (first | (exact absurd rfl hc1) | (exfalso; omega) | (exfalso; simp at hc1; done))
             refine G_val rfl rfl rfl rfl (V_move rfl rfl) ?_
             refine G_call (L2 := [_, _, _, _, _, _, _]) rfl rfl rfl rfl rfl rfl Tryd.call37 (ll_num _) [] [] rfl rfl ?_
             rintro v post ⟨rfl, rfl⟩
             show G _ _ _ [_, _, _, _, _, _, _] _
             refine G_val rfl rfl rfl rfl (V_eql rfl rfl rfl) ?_
             refine G_val rfl rfl rfl rfl (V_pickT rfl rfl rfl) ?_
             refine G_val rfl rfl rfl rfl (V_move rfl rfl) ?_
             refine G_splitD 41 rfl (fun hc2 => ?_) (fun hc2 => ?_)
             rotate_left
             · (first | (exact absurd rfl hc2) | (exfalso; omega) | (exfalso; simp at hc2; done))
             refine G_val rfl rfl rfl rfl (V_move rfl rfl) ?_
             refine G_call (L2 := [_, _, _, _, _, _, _]) rfl rfl rfl rfl rfl rfl Tryd.call37 (ll_num _) [] [] rfl rfl ?_
             rintro v post ⟨rfl, rfl⟩
             show G _ _ _ [_, _, _, _, _, _, _] _
             refine G_val rfl rfl rfl rfl (V_eql rfl rfl rfl) ?_
             refine G_val rfl rfl rfl rfl (V_pickT rfl rfl rfl) ?_
             refine G_val rfl rfl rfl rfl (V_move rfl rfl) ?_
             refine G_splitD 46 rfl (fun hc3 => ?_) (fun hc3 => ?_)
             rotate_left
             · (first | (exact absurd rfl hc3) | (exfalso; omega) | (exfalso; simp at hc3; done))
             refine G_val rfl rfl rfl rfl (V_move rfl rfl) ?_
             refine G_call (L2 := [_, _, _, _, _, _, _]) rfl rfl rfl rfl rfl rfl Tryd.call37 (ll_num _) [] [] rfl rfl ?_
             rintro v post ⟨rfl, rfl⟩
             show G _ _ _ [_, _, _, _, _, _, _] _
             refine G_val rfl rfl rfl rfl (V_eql rfl rfl rfl) ?_
             refine G_val rfl rfl rfl rfl (V_pickT rfl rfl rfl) ?_
             refine G_val rfl rfl rfl rfl (V_move rfl rfl) ?_
             refine G_splitD 51 rfl (fun hc4 => ?_) (fun hc4 => ?_)
             rotate_left
             · (first | (exact absurd rfl hc4) | (exfalso; omega) | (exfalso; simp at hc4; done))
             refine G_val rfl rfl rfl rfl (V_move rfl rfl) ?_
             refine G_call (L2 := [_, _, _, _, _, _, _]) rfl rfl rfl rfl rfl rfl Tryd.call44 (lg_at d g 2 5 7 3) [] [1] rfl rfl ?_
             rintro v post ⟨rfl, rfl⟩
             show G _ _ _ [_, _, _, _, _, _, _] _
             refine G_val rfl rfl rfl rfl (V_eql rfl rfl rfl) ?_
             refine G_val rfl rfl rfl rfl (V_pickT rfl rfl rfl) ?_
             refine G_val rfl rfl rfl rfl (V_move rfl rfl) ?_
             refine G_splitD 56 rfl (fun hc5 => ?_) (fun hc5 => ?_)
             rotate_left
             · (first | (exact absurd rfl hc5) | (exfalso; omega) | (exfalso; simp at hc5; done))
             refine G_val rfl rfl rfl rfl (V_move rfl rfl) ?_
             refine G_call (L2 := [_, _, _, _, _, _, _]) rfl rfl rfl rfl rfl rfl Tryd.call45 (lg_room d g 2 5 7 3 (by omega) (by omega) (by omega)) [] [1] rfl rfl ?_
             rintro v post ⟨rfl, rfl⟩
             show G _ _ _ [_, _, _, _, _, _, _] _
             refine G_val rfl rfl rfl rfl (V_eql rfl rfl rfl) ?_
             refine G_val rfl rfl rfl rfl (V_pickT rfl rfl rfl) ?_
             refine G_val rfl rfl rfl rfl (V_move rfl rfl) ?_
             refine G_splitD 61 rfl (fun hc6 => ?_) (fun hc6 => ?_)
             rotate_left
             · (first | (exact absurd rfl hc6) | (exfalso; omega) | (exfalso; simp at hc6; done))
             refine G_val rfl rfl rfl rfl (V_move rfl rfl) ?_
             refine G_val rfl rfl rfl rfl (V_len rfl rfl Tryd.underlying24 rfl) ?_
             refine G_val rfl rfl rfl rfl (V_eql rfl rfl rfl) ?_
             refine G_val rfl rfl rfl rfl (V_pickT rfl rfl rfl) ?_
             refine G_val rfl rfl rfl rfl (V_move rfl rfl) ?_
             refine G_splitD 66 rfl (fun hc7 => ?_) (fun hc7 => ?_)
             rotate_left
             · (first | (exact absurd rfl hc7) | (exfalso; omega) | (exfalso; simp at hc7; done))
             refine G_val rfl rfl rfl rfl (V_move rfl rfl) ?_
             refine G_val rfl rfl rfl rfl (V_eql rfl rfl rfl) ?_
             refine G_val rfl rfl rfl rfl (V_pickT rfl rfl rfl) ?_
             refine G_val rfl rfl rfl rfl (V_assign rfl rfl) ?_
             refine G_done ?_
             refine G_ret (post := []) Tryd.func34 rfl (RVs_cons (RV_tmp rfl) RVs_nil) [] rfl ?_
             dsimp only [packed]
             exact ⟨rfl, rfl⟩
   · skip
     refine GHop_new rfl rfl rfl rfl (N_make (l := 43) (m := 43) rfl Tryd.underlying27 infLogL_5 rfl rfl rfl rfl rfl rfl rfl (by first | decide | omega) (by first | decide | omega | (show 1 * _ ≤ _; omega)) (by first | decide | omega)) [] (fun _ => ⟨_, rfl⟩) (fun b24 => ?_)
     refine GH_all [2, 6] (by kernel_rfl) (by decide) ?_
     refine (And.intro ?_ (And.intro ?_ trivial))
     · skip
       refine GHop_val rfl rfl rfl rfl (V_bytesS (l := (zt 42)) rfl rfl Tryd.underlying27 Tryd.underlying5 Tryd.underlying9 (mem_at 1 rfl) (by rw [zt_len]) (zt_cells 42)) ?_
       refine GH_all [3, 6] (by kernel_rfl) (by decide) ?_
       refine (And.intro ?_ (And.intro ?_ trivial))
       · skip
         refine GHop_call (L2 := [_, _]) rfl rfl rfl rfl rfl rfl Tryd.call41 ((lg_append d 8 lb lcap lcs slNil (newD 8) h g 2 5 7 0 (zt 42) (by decide) (by omega) (by omega) (by omega) (new_W8) (by rw [zt_len]; omega)).weaken (fun v post h => by rw [lv1, lv2, lk1_eq] at h; exact h)) [2, 2, 2, 2] [] rfl rfl [] (by rintro v post ⟨rfl, lcs1, uw1, h1, rfl⟩; exact ⟨_, rfl⟩) ?_
         rintro v post ⟨rfl, lcs1, uw1, h1, rfl⟩
         show GH _ _ _ _ _ _ _ [_, _, _, _, _, _] _
         refine GH_all [6] (by kernel_rfl) (by decide) ?_
         refine (And.intro ?_ trivial)
         · skip
           refine GHop_val rfl rfl rfl rfl (V_bytesS (l := (zt 43)) rfl rfl Tryd.underlying27 Tryd.underlying5 Tryd.underlying9 (mem_at 4 rfl) (by rw [zt_len]) (zt_cells 43)) ?_
           refine GH_all [7] (by kernel_rfl) (by decide) ?_
           refine (And.intro ?_ trivial)
           · skip
             refine GHop_call (L2 := [_, _]) rfl rfl rfl rfl rfl rfl Tryd.call41 ((lg_append d 8 lb lcap lcs1 uw1 lk1 h1 g 2 5 7 1 (zt 43) (by decide) (by omega) (by omega) (by omega) (by omega) (by rw [zt_len]; omega)).weaken (fun v post h => by rw [lv3, lv4, lk2_eq] at h; exact h)) [0, 0, 0, 0] [] rfl rfl [] (by rintro v post ⟨rfl, lcs1, uw1, h1, rfl⟩; exact ⟨_, rfl⟩) ?_
             rintro v post ⟨rfl, lcs1, uw1, h1, rfl⟩
             show GH _ _ _ _ _ _ _ [_, _, _, _, _, _] _
             refine GH_take 8 rfl rfl rfl rfl (by kernel_rfl) (by kernel_rfl) (by kernel_rfl) (fun _ _ => (V_assign rfl rfl)) ?_
             refine GH_take 9 rfl rfl rfl rfl (by kernel_rfl) (by kernel_rfl) (by kernel_rfl) (fun _ _ => (V_assign rfl rfl)) ?_
             refine GH_done (by kernel_rfl) ?_
             refine G_seq ?_
             refine G_region (l := [0, 1, 2, 3, 4, 5, 6, 7, 8]) rfl ?_
             refine G_val rfl rfl rfl rfl (V_move rfl rfl) ?_
             refine G_call (L2 := [_, _, _, _, _, _]) rfl rfl rfl rfl rfl rfl Tryd.call48 ((lg_replay d 8 lb lcap lcs1 uw1 lk2 h1 2 5 1 9 (by decide) lv5 (by omega) (by omega) (by omega)).weaken (fun v post h => by rw [show (5 : Int).toNat = 5 from rfl, lv7] at h; exact h)) [] [1, 2, 3] rfl rfl ?_
             rintro v post ⟨ur, hur, rfl, rfl⟩
             show G _ _ _ [_, _, _, _, _, _, _] _
             refine G_val rfl rfl rfl rfl (V_move rfl rfl) ?_
             refine G_val rfl rfl rfl rfl (V_extract rfl rfl rfl) ?_
             refine G_val rfl rfl rfl rfl (V_extract rfl rfl rfl) ?_
             refine G_val rfl rfl rfl rfl (V_extract rfl rfl rfl) ?_
             refine G_val rfl rfl rfl rfl (V_assign rfl rfl) ?_
             refine G_val rfl rfl rfl rfl (V_assign rfl rfl) ?_
             refine G_val rfl rfl rfl rfl (V_assign rfl rfl) ?_
             refine G_done ?_
             refine G_seq ?_
             refine G_region (l := [0, 1, 2, 3, 4, 5, 6, 7, 8, 9, 10, 11, 12, 13, 14, 15, 16, 17, 18, 19, 20, 21, 22, 23, 24, 25, 26, 27, 28, 29, 30, 31, 32, 33, 34, 35, 36, 37]) rfl ?_
             refine G_val rfl rfl rfl rfl (V_move rfl rfl) ?_
             refine G_call (L2 := [_, _, _, _, _, _, _]) rfl rfl rfl rfl rfl rfl Tryd.call37 (ll_num _) [] [] rfl rfl ?_
             rintro v post ⟨rfl, rfl⟩
             show G _ _ _ [_, _, _, _, _, _, _] _
             refine G_val rfl rfl rfl rfl (V_eql rfl rfl rfl) ?_
             refine G_val rfl rfl rfl rfl (V_move rfl rfl) ?_
             refine G_splitD 36 rfl (fun hc1 => ?_) (fun hc1 => ?_)
             rotate_left
             · (first | (exact absurd rfl hc1) | (exfalso; omega) | (exfalso; simp at hc1; done))
             refine G_val rfl rfl rfl rfl (V_move rfl rfl) ?_
             refine G_call (L2 := [_, _, _, _, _, _, _]) rfl rfl rfl rfl rfl rfl Tryd.call37 (ll_num _) [] [] rfl rfl ?_
             rintro v post ⟨rfl, rfl⟩
             show G _ _ _ [_, _, _, _, _, _, _] _
             refine G_val rfl rfl rfl rfl (V_eql rfl rfl rfl) ?_
             refine G_val rfl rfl rfl rfl (V_pickT rfl rfl rfl) ?_
             refine G_val rfl rfl rfl rfl (V_move rfl rfl) ?_
             refine G_splitD 41 rfl (fun hc2 => ?_) (fun hc2 => ?_)
             rotate_left
             · (first | (exact absurd rfl hc2) | (exfalso; omega) | (exfalso; simp at hc2; done))
             refine G_val rfl rfl rfl rfl (V_move rfl rfl) ?_
             refine G_call (L2 := [_, _, _, _, _, _, _]) rfl rfl rfl rfl rfl rfl Tryd.call37 (ll_num _) [] [] rfl rfl ?_
             rintro v post ⟨rfl, rfl⟩
             show G _ _ _ [_, _, _, _, _, _, _] _
             refine G_val rfl rfl rfl rfl (V_eql rfl rfl rfl) ?_
             refine G_val rfl rfl rfl rfl (V_pickT rfl rfl rfl) ?_
             refine G_val rfl rfl rfl rfl (V_move rfl rfl) ?_
             refine G_splitD 46 rfl (fun hc3 => ?_) (fun hc3 => ?_)
             rotate_left
             · (first | (exact absurd rfl hc3) | (exfalso; omega) | (exfalso; simp at hc3; done))
             refine G_val rfl rfl rfl rfl (V_move rfl rfl) ?_
             refine G_call (L2 := [_, _, _, _, _, _, _]) rfl rfl rfl rfl rfl rfl Tryd.call37 (ll_num _) [] [] rfl rfl ?_
             rintro v post ⟨rfl, rfl⟩
             show G _ _ _ [_, _, _, _, _, _, _] _
             refine G_val rfl rfl rfl rfl (V_eql rfl rfl rfl) ?_
             refine G_val rfl rfl rfl rfl (V_pickT rfl rfl rfl) ?_
             refine G_val rfl rfl rfl rfl (V_move rfl rfl) ?_
             refine G_splitD 51 rfl (fun hc4 => ?_) (fun hc4 => ?_)
             rotate_left
             · (first | (exact absurd rfl hc4) | (exfalso; omega) | (exfalso; simp at hc4; done))
             refine G_val rfl rfl rfl rfl (V_move rfl rfl) ?_
             refine G_call (L2 := [_, _, _, _, _, _, _]) rfl rfl rfl rfl rfl rfl Tryd.call44 (lg_at d g 2 5 7 3) [] [1] rfl rfl ?_
             rintro v post ⟨rfl, rfl⟩
             show G _ _ _ [_, _, _, _, _, _, _] _
             refine G_val rfl rfl rfl rfl (V_eql rfl rfl rfl) ?_
             refine G_val rfl rfl rfl rfl (V_pickT rfl rfl rfl) ?_
             refine G_val rfl rfl rfl rfl (V_move rfl rfl) ?_
             refine G_splitD 56 rfl (fun hc5 => ?_) (fun hc5 => ?_)
             rotate_left
             · (first | (exact absurd rfl hc5) | (exfalso; omega) | (exfalso; simp at hc5; done))
             refine G_val rfl rfl rfl rfl (V_move rfl rfl) ?_
             refine G_call (L2 := [_, _, _, _, _, _, _]) rfl rfl rfl rfl rfl rfl Tryd.call45 (lg_room d g 2 5 7 3 (by omega) (by omega) (by omega)) [] [1] rfl rfl ?_
             rintro v post ⟨rfl, rfl⟩
             show G _ _ _ [_, _, _, _, _, _, _] _
             refine G_val rfl rfl rfl rfl (V_eql rfl rfl rfl) ?_
             refine G_val rfl rfl rfl rfl (V_pickT rfl rfl rfl) ?_
             refine G_val rfl rfl rfl rfl (V_move rfl rfl) ?_
             refine G_splitD 61 rfl (fun hc6 => ?_) (fun hc6 => ?_)
             rotate_left
             · (first | (exact absurd rfl hc6) | (exfalso; omega) | (exfalso; simp at hc6; done))
             refine G_val rfl rfl rfl rfl (V_move rfl rfl) ?_
             refine G_val rfl rfl rfl rfl (V_len rfl rfl Tryd.underlying24 rfl) ?_
             refine G_val rfl rfl rfl rfl (V_eql rfl rfl rfl) ?_
             refine G_val rfl rfl rfl rfl (V_pickT rfl rfl rfl) ?_
             refine G_val rfl rfl rfl rfl (V_move rfl rfl) ?_
             refine G_splitD 66 rfl (fun hc7 => ?_) (fun hc7 => ?_)
             rotate_left
             · (first | (exact absurd rfl hc7) | (exfalso; omega) | (exfalso; simp at hc7; done))
             refine G_val rfl rfl rfl rfl (V_move rfl rfl) ?_
             refine G_val rfl rfl rfl rfl (V_eql rfl rfl rfl) ?_
             refine G_val rfl rfl rfl rfl (V_pickT rfl rfl rfl) ?_
             refine G_val rfl rfl rfl rfl (V_assign rfl rfl) ?_
             refine G_done ?_
             refine G_ret (post := []) Tryd.func34 rfl (RVs_cons (RV_tmp rfl) RVs_nil) [] rfl ?_
             dsimp only [packed]
             exact ⟨rfl, rfl⟩
       · skip
         refine GHop_val rfl rfl rfl rfl (V_bytesS (l := (zt 43)) rfl rfl Tryd.underlying27 Tryd.underlying5 Tryd.underlying9 (mem_at 0 rfl) (by rw [zt_len]) (zt_cells 43)) ?_
         refine GH_all [3] (by kernel_rfl) (by decide) ?_
         refine (And.intro ?_ trivial)
         · skip
           refine GHop_call (L2 := [_, _]) rfl rfl rfl rfl rfl rfl Tryd.call41 ((lg_append d 8 lb lcap lcs slNil (newD 8) h g 2 5 7 0 (zt 42) (by decide) (by omega) (by omega) (by omega) (new_W8) (by rw [zt_len]; omega)).weaken (fun v post h => by rw [lv1, lv2, lk1_eq] at h; exact h)) [2, 2, 2, 2] [] rfl rfl [] (by rintro v post ⟨rfl, lcs1, uw1, h1, rfl⟩; exact ⟨_, rfl⟩) ?_
           rintro v post ⟨rfl, lcs1, uw1, h1, rfl⟩
           show GH _ _ _ _ _ _ _ [_, _, _, _, _, _] _
           refine GH_all [7] (by kernel_rfl) (by decide) ?_
           refine (And.intro ?_ trivial)
           · skip
             refine GHop_call (L2 := [_, _]) rfl rfl rfl rfl rfl rfl Tryd.call41 ((lg_append d 8 lb lcap lcs1 uw1 lk1 h1 g 2 5 7 1 (zt 43) (by decide) (by omega) (by omega) (by omega) (by omega) (by rw [zt_len]; omega)).weaken (fun v post h => by rw [lv3, lv4, lk2_eq] at h; exact h)) [0, 0, 0, 0] [] rfl rfl [] (by rintro v post ⟨rfl, lcs1, uw1, h1, rfl⟩; exact ⟨_, rfl⟩) ?_
             rintro v post ⟨rfl, lcs1, uw1, h1, rfl⟩
             show GH _ _ _ _ _ _ _ [_, _, _, _, _, _] _
             refine GH_take 8 rfl rfl rfl rfl (by kernel_rfl) (by kernel_rfl) (by kernel_rfl) (fun _ _ => (V_assign rfl rfl)) ?_
             refine GH_take 9 rfl rfl rfl rfl (by kernel_rfl) (by kernel_rfl) (by kernel_rfl) (fun _ _ => (V_assign rfl rfl)) ?_
             refine GH_done (by kernel_rfl) ?_
             refine G_seq ?_
             refine G_region (l := [0, 1, 2, 3, 4, 5, 6, 7, 8]) rfl ?_
             refine G_val rfl rfl rfl rfl (V_move rfl rfl) ?_
             refine G_call (L2 := [_, _, _, _, _, _]) rfl rfl rfl rfl rfl rfl Tryd.call48 ((lg_replay d 8 lb lcap lcs1 uw1 lk2 h1 2 5 1 9 (by decide) lv5 (by omega) (by omega) (by omega)).weaken (fun v post h => by rw [show (5 : Int).toNat = 5 from rfl, lv7] at h; exact h)) [] [1, 2, 3] rfl rfl ?_
             rintro v post ⟨ur, hur, rfl, rfl⟩
             show G _ _ _ [_, _, _, _, _, _, _] _
             refine G_val rfl rfl rfl rfl (V_move rfl rfl) ?_
             refine G_val rfl rfl rfl rfl (V_extract rfl rfl rfl) ?_
             refine G_val rfl rfl rfl rfl (V_extract rfl rfl rfl) ?_
             refine G_val rfl rfl rfl rfl (V_extract rfl rfl rfl) ?_
             refine G_val rfl rfl rfl rfl (V_assign rfl rfl) ?_
             refine G_val rfl rfl rfl rfl (V_assign rfl rfl) ?_
             refine G_val rfl rfl rfl rfl (V_assign rfl rfl) ?_
             refine G_done ?_
             refine G_seq ?_
             refine G_region (l := [0, 1, 2, 3, 4, 5, 6, 7, 8, 9, 10, 11, 12, 13, 14, 15, 16, 17, 18, 19, 20, 21, 22, 23, 24, 25, 26, 27, 28, 29, 30, 31, 32, 33, 34, 35, 36, 37]) rfl ?_
             refine G_val rfl rfl rfl rfl (V_move rfl rfl) ?_
             refine G_call (L2 := [_, _, _, _, _, _, _]) rfl rfl rfl rfl rfl rfl Tryd.call37 (ll_num _) [] [] rfl rfl ?_
             rintro v post ⟨rfl, rfl⟩
             show G _ _ _ [_, _, _, _, _, _, _] _
             refine G_val rfl rfl rfl rfl (V_eql rfl rfl rfl) ?_
             refine G_val rfl rfl rfl rfl (V_move rfl rfl) ?_
             refine G_splitD 36 rfl (fun hc1 => ?_) (fun hc1 => ?_)
             rotate_left
             · (first | (exact absurd rfl hc1) | (exfalso; omega) | (exfalso; simp at hc1; done))
             refine G_val rfl rfl rfl rfl (V_move rfl rfl) ?_
             refine G_call (L2 := [_, _, _, _, _, _, _]) rfl rfl rfl rfl rfl rfl Tryd.call37 (ll_num _) [] [] rfl rfl ?_
             rintro v post ⟨rfl, rfl⟩
             show G _ _ _ [_, _, _, _, _, _, _] _
             refine G_val rfl rfl rfl rfl (V_eql rfl rfl rfl) ?_
             refine G_val rfl rfl rfl rfl (V_pickT rfl rfl rfl) ?_
             refine G_val rfl rfl rfl rfl (V_move rfl rfl) ?_
             refine G_splitD 41 rfl (fun hc2 => ?_) (fun hc2 => ?_)
             rotate_left
             · (first | (exact absurd rfl hc2) | (exfalso; omega) | (exfalso; simp at hc2; done))
             refine G_val rfl rfl rfl rfl (V_move rfl rfl) ?_
             refine G_call (L2 := [_, _, _, _, _, _, _]) rfl rfl rfl rfl rfl rfl Tryd.call37 (ll_num _) [] [] rfl rfl ?_
             rintro v post ⟨rfl, rfl⟩
             show G _ _ _ [_, _, _, _, _, _, _] _
             refine G_val rfl rfl rfl rfl (V_eql rfl rfl rfl) ?_
             refine G_val rfl rfl rfl rfl (V_pickT rfl rfl rfl) ?_
             refine G_val rfl rfl rfl rfl (V_move rfl rfl) ?_
             refine G_splitD 46 rfl (fun hc3 => ?_) (fun hc3 => ?_)
             rotate_left
             · (first | (exact absurd rfl hc3) | (exfalso; omega) | (exfalso; simp at hc3; done))
             refine G_val rfl rfl rfl rfl (V_move rfl rfl) ?_
             refine G_call (L2 := [_, _, _, _, _, _, _]) rfl rfl rfl rfl rfl rfl Tryd.call37 (ll_num _) [] [] rfl rfl ?_
             rintro v post ⟨rfl, rfl⟩
             show G _ _ _ [_, _, _, _, _, _, _] _
             refine G_val rfl rfl rfl rfl (V_eql rfl rfl rfl) ?_
             refine G_val rfl rfl rfl rfl (V_pickT rfl rfl rfl) ?_
             refine G_val rfl rfl rfl rfl (V_move rfl rfl) ?_
             refine G_splitD 51 rfl (fun hc4 => ?_) (fun hc4 => ?_)
             rotate_left
             · (first | (exact absurd rfl hc4) | (exfalso; omega) | (exfalso; simp at hc4; done))
             refine G_val rfl rfl rfl rfl (V_move rfl rfl) ?_
             refine G_call (L2 := [_, _, _, _, _, _, _]) rfl rfl rfl rfl rfl rfl Tryd.call44 (lg_at d g 2 5 7 3) [] [1] rfl rfl ?_
             rintro v post ⟨rfl, rfl⟩
             show G _ _ _ [_, _, _, _, _, _, _] _
             refine G_val rfl rfl rfl rfl (V_eql rfl rfl rfl) ?_
             refine G_val rfl rfl rfl rfl (V_pickT rfl rfl rfl) ?_
             refine G_val rfl rfl rfl rfl (V_move rfl rfl) ?_
             refine G_splitD 56 rfl (fun hc5 => ?_) (fun hc5 => ?_)
             rotate_left
             · (first | (exact absurd rfl hc5) | (exfalso; omega) | (exfalso; simp at hc5; done))
             refine G_val rfl rfl rfl rfl (V_move rfl rfl) ?_
             refine G_call (L2 := [_, _, _, _, _, _, _]) rfl rfl rfl rfl rfl rfl Tryd.call45 (lg_room d g 2 5 7 3 (by omega) (by omega) (by omega)) [] [1] rfl rfl ?_
             rintro v post ⟨rfl, rfl⟩
             show G _ _ _ [_, _, _, _, _, _, _] _
             refine G_val rfl rfl rfl rfl (V_eql rfl rfl rfl) ?_
             refine G_val rfl rfl rfl rfl (V_pickT rfl rfl rfl) ?_
             refine G_val rfl rfl rfl rfl (V_move rfl rfl) ?_
             refine G_splitD 61 rfl (fun hc6 => ?_) (fun hc6 => ?_)
             rotate_left
             · (first | (exact absurd rfl hc6) | (exfalso; omega) | (exfalso; simp at hc6; done))
             refine G_val rfl rfl rfl rfl (V_move rfl rfl) ?_
             refine G_val rfl rfl rfl rfl (V_len rfl rfl Tryd.underlying24 rfl) ?_
             refine G_val rfl rfl rfl rfl (V_eql rfl rfl rfl) ?_
             refine G_val rfl rfl rfl rfl (V_pickT rfl rfl rfl) ?_
             refine G_val rfl rfl rfl rfl (V_move rfl rfl) ?_
             refine G_splitD 66 rfl (fun hc7 => ?_) (fun hc7 => ?_)
             rotate_left
             · (first | (exact absurd rfl hc7) | (exfalso; omega) | (exfalso; simp at hc7; done))
             refine G_val rfl rfl rfl rfl (V_move rfl rfl) ?_
             refine G_val rfl rfl rfl rfl (V_eql rfl rfl rfl) ?_
             refine G_val rfl rfl rfl rfl (V_pickT rfl rfl rfl) ?_
             refine G_val rfl rfl rfl rfl (V_assign rfl rfl) ?_
             refine G_done ?_
             refine G_ret (post := []) Tryd.func34 rfl (RVs_cons (RV_tmp rfl) RVs_nil) [] rfl ?_
             dsimp only [packed]
             exact ⟨rfl, rfl⟩
     · skip
       refine GHop_val rfl rfl rfl rfl (V_bytesS (l := (zt 43)) rfl rfl Tryd.underlying27 Tryd.underlying5 Tryd.underlying9 (mem_at 0 rfl) (by rw [zt_len]) (zt_cells 43)) ?_
       refine GH_all [2] (by kernel_rfl) (by decide) ?_
       refine (And.intro ?_ trivial)
       · skip
         refine GHop_val rfl rfl rfl rfl (V_bytesS (l := (zt 42)) rfl rfl Tryd.underlying27 Tryd.underlying5 Tryd.underlying9 (mem_at 1 rfl) (by rw [zt_len]) (zt_cells 42)) ?_
         refine GH_all [3] (by kernel_rfl) (by decide) ?_
         refine (And.intro ?_ trivial)
         · skip
           refine GHop_call (L2 := [_, _]) rfl rfl rfl rfl rfl rfl Tryd.call41 ((lg_append d 8 lb lcap lcs slNil (newD 8) h g 2 5 7 0 (zt 42) (by decide) (by omega) (by omega) (by omega) (new_W8) (by rw [zt_len]; omega)).weaken (fun v post h => by rw [lv1, lv2, lk1_eq] at h; exact h)) [2, 2, 2, 2] [] rfl rfl [] (by rintro v post ⟨rfl, lcs1, uw1, h1, rfl⟩; exact ⟨_, rfl⟩) ?_
           rintro v post ⟨rfl, lcs1, uw1, h1, rfl⟩
           show GH _ _ _ _ _ _ _ [_, _, _, _, _, _] _
           refine GH_all [7] (by kernel_rfl) (by decide) ?_
           refine (And.intro ?_ trivial)
           · skip
             refine GHop_call (L2 := [_, _]) rfl rfl rfl rfl rfl rfl Tryd.call41 ((lg_append d 8 lb lcap lcs1 uw1 lk1 h1 g 2 5 7 1 (zt 43) (by decide) (by omega) (by omega) (by omega) (by omega) (by rw [zt_len]; omega)).weaken (fun v post h => by rw [lv3, lv4, lk2_eq] at h; exact h)) [0, 0, 0, 0] [] rfl rfl [] (by rintro v post ⟨rfl, lcs1, uw1, h1, rfl⟩; exact ⟨_, rfl⟩) ?_
             rintro v post ⟨rfl, lcs1, uw1, h1, rfl⟩
             show GH _ _ _ _ _ _ _ [_, _, _, _, _, _] _
             refine GH_take 8 rfl rfl rfl rfl (by kernel_rfl) (by kernel_rfl) (by kernel_rfl) (fun _ _ => (V_assign rfl rfl)) ?_
             refine GH_take 9 rfl rfl rfl rfl (by kernel_rfl) (by kernel_rfl) (by kernel_rfl) (fun _ _ => (V_assign rfl rfl)) ?_
             refine GH_done (by kernel_rfl) ?_
             refine G_seq ?_
             refine G_region (l := [0, 1, 2, 3, 4, 5, 6, 7, 8]) rfl ?_
             refine G_val rfl rfl rfl rfl (V_move rfl rfl) ?_
             refine G_call (L2 := [_, _, _, _, _, _]) rfl rfl rfl rfl rfl rfl Tryd.call48 ((lg_replay d 8 lb lcap lcs1 uw1 lk2 h1 2 5 1 9 (by decide) lv5 (by omega) (by omega) (by omega)).weaken (fun v post h => by rw [show (5 : Int).toNat = 5 from rfl, lv7] at h; exact h)) [] [1, 2, 3] rfl rfl ?_
             rintro v post ⟨ur, hur, rfl, rfl⟩
             show G _ _ _ [_, _, _, _, _, _, _] _
             refine G_val rfl rfl rfl rfl (V_move rfl rfl) ?_
             refine G_val rfl rfl rfl rfl (V_extract rfl rfl rfl) ?_
             refine G_val rfl rfl rfl rfl (V_extract rfl rfl rfl) ?_
             refine G_val rfl rfl rfl rfl (V_extract rfl rfl rfl) ?_
             refine G_val rfl rfl rfl rfl (V_assign rfl rfl) ?_
             refine G_val rfl rfl rfl rfl (V_assign rfl rfl) ?_
             refine G_val rfl rfl rfl rfl (V_assign rfl rfl) ?_
             refine G_done ?_
             refine G_seq ?_
             refine G_region (l := [0, 1, 2, 3, 4, 5, 6, 7, 8, 9, 10, 11, 12, 13, 14, 15, 16, 17, 18, 19, 20, 21, 22, 23, 24, 25, 26, 27, 28, 29, 30, 31, 32, 33, 34, 35, 36, 37]) rfl ?_
             refine G_val rfl rfl rfl rfl (V_move rfl rfl) ?_
             refine G_call (L2 := [_, _, _, _, _, _, _]) rfl rfl rfl rfl rfl rfl Tryd.call37 (ll_num _) [] [] rfl rfl ?_
             rintro v post ⟨rfl, rfl⟩
             show G _ _ _ [_, _, _, _, _, _, _] _
             refine G_val rfl rfl rfl rfl (V_eql rfl rfl rfl) ?_
             refine G_val rfl rfl rfl rfl (V_move rfl rfl) ?_
             refine G_splitD 36 rfl (fun hc1 => ?_) (fun hc1 => ?_)
             rotate_left
             · (first | (exact absurd rfl hc1) | (exfalso; omega) | (exfalso; simp at hc1; done))
             refine G_val rfl rfl rfl rfl (V_move rfl rfl) ?_
             refine G_call (L2 := [_, _, _, _, _, _, _]) rfl rfl rfl rfl rfl rfl Tryd.call37 (ll_num _) [] [] rfl rfl ?_
             rintro v post ⟨rfl, rfl⟩
             show G _ _ _ [_, _, _, _, _, _, _] _
             refine G_val rfl rfl rfl rfl (V_eql rfl rfl rfl) ?_
             refine G_val rfl rfl rfl rfl (V_pickT rfl rfl rfl) ?_
             refine G_val rfl rfl rfl rfl (V_move rfl rfl) ?_
             refine G_splitD 41 rfl (fun hc2 => ?_) (fun hc2 => ?_)
             rotate_left
             · (first | (exact absurd rfl hc2) | (exfalso; omega) | (exfalso; simp at hc2; done))
             refine G_val rfl rfl rfl rfl (V_move rfl rfl) ?_
             refine G_call (L2 := [_, _, _, _, _, _, _]) rfl rfl rfl rfl rfl rfl Tryd.call37 (ll_num _) [] [] rfl rfl ?_
             rintro v post ⟨rfl, rfl⟩
             show G _ _ _ [_, _, _, _, _, _, _] _
             refine G_val rfl rfl rfl rfl (V_eql rfl rfl rfl) ?_
             refine G_val rfl rfl rfl rfl (V_pickT rfl rfl rfl) ?_
             refine G_val rfl rfl rfl rfl (V_move rfl rfl) ?_
             refine G_splitD 46 rfl (fun hc3 => ?_) (fun hc3 => ?_)
             rotate_left
             · (first | (exact absurd rfl hc3) | (exfalso; omega) | (exfalso; simp at hc3; done))
             refine G_val rfl rfl rfl rfl (V_move rfl rfl) ?_
             refine G_call (L2 := [_, _, _, _, _, _, _]) rfl rfl rfl rfl rfl rfl Tryd.call37 (ll_num _) [] [] rfl rfl ?_
             rintro v post ⟨rfl, rfl⟩
             show G _ _ _ [_, _, _, _, _, _, _] _
             refine G_val rfl rfl rfl rfl (V_eql rfl rfl rfl) ?_
             refine G_val rfl rfl rfl rfl (V_pickT rfl rfl rfl) ?_
             refine G_val rfl rfl rfl rfl (V_move rfl rfl) ?_
             refine G_splitD 51 rfl (fun hc4 => ?_) (fun hc4 => ?_)
             rotate_left
             · (first | (exact absurd rfl hc4) | (exfalso; omega) | (exfalso; simp at hc4; done))
             refine G_val rfl rfl rfl rfl (V_move rfl rfl) ?_
             refine G_call (L2 := [_, _, _, _, _, _, _]) rfl rfl rfl rfl rfl rfl Tryd.call44 (lg_at d g 2 5 7 3) [] [1] rfl rfl ?_
             rintro v post ⟨rfl, rfl⟩
             show G _ _ _ [_, _, _, _, _, _, _] _
             refine G_val rfl rfl rfl rfl (V_eql rfl rfl rfl) ?_
             refine G_val rfl rfl rfl rfl (V_pickT rfl rfl rfl) ?_
             refine G_val rfl rfl rfl rfl (V_move rfl rfl) ?_
             refine G_splitD 56 rfl (fun hc5 => ?_) (fun hc5 => ?_)
             rotate_left
             · (first | (exact absurd rfl hc5) | (exfalso; omega) | (exfalso; simp at hc5; done))
             refine G_val rfl rfl rfl rfl (V_move rfl rfl) ?_
             refine G_call (L2 := [_, _, _, _, _, _, _]) rfl rfl rfl rfl rfl rfl Tryd.call45 (lg_room d g 2 5 7 3 (by omega) (by omega) (by omega)) [] [1] rfl rfl ?_
             rintro v post ⟨rfl, rfl⟩
             show G _ _ _ [_, _, _, _, _, _, _] _
             refine G_val rfl rfl rfl rfl (V_eql rfl rfl rfl) ?_
             refine G_val rfl rfl rfl rfl (V_pickT rfl rfl rfl) ?_
             refine G_val rfl rfl rfl rfl (V_move rfl rfl) ?_
             refine G_splitD 61 rfl (fun hc6 => ?_) (fun hc6 => ?_)
             rotate_left
             · (first | (exact absurd rfl hc6) | (exfalso; omega) | (exfalso; simp at hc6; done))
             refine G_val rfl rfl rfl rfl (V_move rfl rfl) ?_
             refine G_val rfl rfl rfl rfl (V_len rfl rfl Tryd.underlying24 rfl) ?_
             refine G_val rfl rfl rfl rfl (V_eql rfl rfl rfl) ?_
             refine G_val rfl rfl rfl rfl (V_pickT rfl rfl rfl) ?_
             refine G_val rfl rfl rfl rfl (V_move rfl rfl) ?_
             refine G_splitD 66 rfl (fun hc7 => ?_) (fun hc7 => ?_)
             rotate_left
             · (first | (exact absurd rfl hc7) | (exfalso; omega) | (exfalso; simp at hc7; done))
             refine G_val rfl rfl rfl rfl (V_move rfl rfl) ?_
             refine G_val rfl rfl rfl rfl (V_eql rfl rfl rfl) ?_
             refine G_val rfl rfl rfl rfl (V_pickT rfl rfl rfl) ?_
             refine G_val rfl rfl rfl rfl (V_assign rfl rfl) ?_
             refine G_done ?_
             refine G_ret (post := []) Tryd.func34 rfl (RVs_cons (RV_tmp rfl) RVs_nil) [] rfl ?_
             dsimp only [packed]
             exact ⟨rfl, rfl⟩
 · skip
   refine GHop_new rfl rfl rfl rfl (N_make (l := 43) (m := 43) rfl Tryd.underlying27 infLogL_5 rfl rfl rfl rfl rfl rfl rfl (by first | decide | omega) (by first | decide | omega | (show 1 * _ ≤ _; omega)) (by first | decide | omega)) [] (fun _ => ⟨_, rfl⟩) (fun b24 => ?_)
   refine GH_all [1, 6] (by kernel_rfl) (by decide) ?_
   refine (And.intro ?_ (And.intro ?_ trivial))
   · skip
     refine GHop_new rfl rfl rfl rfl (N_make (l := 42) (m := 42) rfl Tryd.underlying27 infLogL_5 rfl rfl rfl rfl rfl rfl rfl (by first | decide | omega) (by first | decide | omega | (show 1 * _ ≤ _; omega)) (by first | decide | omega)) [] (fun _ => ⟨_, rfl⟩) (fun b20 => ?_)
     refine GH_all [2, 6] (by kernel_rfl) (by decide) ?_
     refine (And.intro ?_ (And.intro ?_ trivial))
     · skip
       refine GHop_val rfl rfl rfl rfl (V_bytesS (l := (zt 42)) rfl rfl Tryd.underlying27 Tryd.underlying5 Tryd.underlying9 (mem_at 0 rfl) (by rw [zt_len]) (zt_cells 42)) ?_
       refine GH_all [3, 6] (by kernel_rfl) (by decide) ?_
       refine (And.intro ?_ (And.intro ?_ trivial))
       · skip
         refine GHop_call (L2 := [_, _]) rfl rfl rfl rfl rfl rfl Tryd.call41 ((lg_append d 8 lb lcap lcs slNil (newD 8) h g 2 5 7 0 (zt 42) (by decide) (by omega) (by omega) (by omega) (new_W8) (by rw [zt_len]; omega)).weaken (fun v post h => by rw [lv1, lv2, lk1_eq] at h; exact h)) [2, 2, 2, 2] [] rfl rfl [] (by rintro v post ⟨rfl, lcs1, uw1, h1, rfl⟩; exact ⟨_, rfl⟩) ?_
         rintro v post ⟨rfl, lcs1, uw1, h1, rfl⟩
         show GH _ _ _ _ _ _ _ [_, _, _, _, _, _] _
         refine GH_all [6] (by kernel_rfl) (by decide) ?_
         refine (And.intro ?_ trivial)
         · skip
           refine GHop_val rfl rfl rfl rfl (V_bytesS (l := (zt 43)) rfl rfl Tryd.underlying27 Tryd.underlying5 Tryd.underlying9 (mem_at 5 rfl) (by rw [zt_len]) (zt_cells 43)) ?_
           refine GH_all [7] (by kernel_rfl) (by decide) ?_
           refine (And.intro ?_ trivial)
           · skip
             refine GHop_call (L2 := [_, _]) rfl rfl rfl rfl rfl rfl Tryd.call41 ((lg_append d 8 lb lcap lcs1 uw1 lk1 h1 g 2 5 7 1 (zt 43) (by decide) (by omega) (by omega) (by omega) (by omega) (by rw [zt_len]; omega)).weaken (fun v post h => by rw [lv3, lv4, lk2_eq] at h; exact h)) [0, 0, 0, 0] [] rfl rfl [] (by rintro v post ⟨rfl, lcs1, uw1, h1, rfl⟩; exact ⟨_, rfl⟩) ?_
             rintro v post ⟨rfl, lcs1, uw1, h1, rfl⟩
             show GH _ _ _ _ _ _ _ [_, _, _, _, _, _] _
             refine GH_take 8 rfl rfl rfl rfl (by kernel_rfl) (by kernel_rfl) (by kernel_rfl) (fun _ _ => (V_assign rfl rfl)) ?_
             refine GH_take 9 rfl rfl rfl rfl (by kernel_rfl) (by kernel_rfl) (by kernel_rfl) (fun _ _ => (V_assign rfl rfl)) ?_
             refine GH_done (by kernel_rfl) ?_
             refine G_seq ?_
             refine G_region (l := [0, 1, 2, 3, 4, 5, 6, 7, 8]) rfl ?_
             refine G_val rfl rfl rfl rfl (V_move rfl rfl) ?_
             refine G_call (L2 := [_, _, _, _, _, _]) rfl rfl rfl rfl rfl rfl Tryd.call48 ((lg_replay d 8 lb lcap lcs1 uw1 lk2 h1 2 5 1 9 (by decide) lv5 (by omega) (by omega) (by omega)).weaken (fun v post h => by rw [show (5 : Int).toNat = 5 from rfl, lv7] at h; exact h)) [] [1, 2, 3] rfl rfl ?_
             rintro v post ⟨ur, hur, rfl, rfl⟩
             show G _ _ _ [_, _, _, _, _, _, _] _
             refine G_val rfl rfl rfl rfl (V_move rfl rfl) ?_
             refine G_val rfl rfl rfl rfl (V_extract rfl rfl rfl) ?_
             refine G_val rfl rfl rfl rfl (V_extract rfl rfl rfl) ?_
             refine G_val rfl rfl rfl rfl (V_extract rfl rfl rfl) ?_
             refine G_val rfl rfl rfl rfl (V_assign rfl rfl) ?_
             refine G_val rfl rfl rfl rfl (V_assign rfl rfl) ?_
             refine G_val rfl rfl rfl rfl (V_assign rfl rfl) ?_
             refine G_done ?_
             refine G_seq ?_
             refine G_region (l := [0, 1, 2, 3, 4, 5, 6, 7, 8, 9, 10, 11, 12, 13, 14, 15, 16, 17, 18, 19, 20, 21, 22, 23, 24, 25, 26, 27, 28, 29, 30, 31, 32, 33, 34, 35, 36, 37]) rfl ?_
             refine G_val rfl rfl rfl rfl (V_move rfl rfl) ?_
             refine G_call (L2 := [_, _, _, _, _, _, _]) rfl rfl rfl rfl rfl rfl Tryd.call37 (ll_num _) [] [] rfl rfl ?_
             rintro v post ⟨rfl, rfl⟩
             show G _ _ _ [_, _, _, _, _, _, _] _
             refine G_val rfl rfl rfl rfl (V_eql rfl rfl rfl) ?_
             refine G_val rfl rfl rfl rfl (V_move rfl rfl) ?_
             refine G_splitD 36 rfl (fun hc1 => ?_) (fun hc1 => ?_)
             rotate_left
             · (first | (exact absurd rfl hc1) | (exfalso; omega) | (exfalso; simp at hc1; done))
             refine G_val rfl rfl rfl rfl (V_move rfl rfl) ?_
             refine G_call (L2 := [_, _, _, _, _, _, _]) rfl rfl rfl rfl rfl rfl Tryd.call37 (ll_num _) [] [] rfl rfl ?_
             rintro v post ⟨rfl, rfl⟩
             show G _ _ _ [_, _, _, _, _, _, _] _
             refine G_val rfl rfl rfl rfl (V_eql rfl rfl rfl) ?_
             refine G_val rfl rfl rfl rfl (V_pickT rfl rfl rfl) ?_
             refine G_val rfl rfl rfl rfl (V_move rfl rfl) ?_
             refine G_splitD 41 rfl (fun hc2 => ?_) (fun hc2 => ?_)
             rotate_left
             · (first | (exact absurd rfl hc2) | (exfalso; omega) | (exfalso; simp at hc2; done))
             refine G_val rfl rfl rfl rfl (V_move rfl rfl) ?_
             refine G_call (L2 := [_, _, _, _, _, _, _]) rfl rfl rfl rfl rfl rfl Tryd.call37 (ll_num _) [] [] rfl rfl ?_
             rintro v post ⟨rfl, rfl⟩
             show G _ _ _ [_, _, _, _, _, _, _] _
             refine G_val rfl rfl rfl rfl (V_eql rfl rfl rfl) ?_
             refine G_val rfl rfl rfl rfl (V_pickT rfl rfl rfl) ?_
             refine G_val rfl rfl rfl rfl (V_move rfl rfl) ?_
             refine G_splitD 46 rfl (fun hc3 => ?_) (fun hc3 => ?_)
             rotate_left
             · (first | (exact absurd rfl hc3) | (exfalso; omega) | (exfalso; simp at hc3; done))
             refine G_val rfl rfl rfl rfl (V_move rfl rfl) ?_
             refine G_call (L2 := [_, _, _, _, _, _, _]) rfl rfl rfl rfl rfl rfl Tryd.call37 (ll_num _) [] [] rfl rfl ?_
             rintro v post ⟨rfl, rfl⟩
             show G _ _ _ [_, _, _, _, _, _, _] _
             refine G_val rfl rfl rfl rfl (V_eql rfl rfl rfl) ?_
             refine G_val rfl rfl rfl rfl (V_pickT rfl rfl rfl) ?_
             refine G_val rfl rfl rfl rfl (V_move rfl rfl) ?_
             refine G_splitD 51 rfl (fun hc4 => ?_) (fun hc4 => ?_)
             rotate_left
             · (first | (exact absurd rfl hc4) | (exfalso; omega) | (exfalso; simp at hc4; done))
             refine G_val rfl rfl rfl rfl (V_move rfl rfl) ?_
             refine G_call (L2 := [_, _, _, _, _, _, _]) rfl rfl rfl rfl rfl rfl Tryd.call44 (lg_at d g 2 5 7 3) [] [1] rfl rfl ?_
             rintro v post ⟨rfl, rfl⟩
             show G _ _ _ [_, _, _, _, _, _, _] _
             refine G_val rfl rfl rfl rfl (V_eql rfl rfl rfl) ?_
             refine G_val rfl rfl rfl rfl (V_pickT rfl rfl rfl) ?_
             refine G_val rfl rfl rfl rfl (V_move rfl rfl) ?_
             refine G_splitD 56 rfl (fun hc5 => ?_) (fun hc5 => ?_)
             rotate_left
             · (first | (exact absurd rfl hc5) | (exfalso; omega) | (exfalso; simp at hc5; done))
             refine G_val rfl rfl rfl rfl (V_move rfl rfl) ?_
             refine G_call (L2 := [_, _, _, _, _, _, _]) rfl rfl rfl rfl rfl rfl Tryd.call45 (lg_room d g 2 5 7 3 (by omega) (by omega) (by omega)) [] [1] rfl rfl ?_
             rintro v post ⟨rfl, rfl⟩
             show G _ _ _ [_, _, _, _, _, _, _] _
             refine G_val rfl rfl rfl rfl (V_eql rfl rfl rfl) ?_
             refine G_val rfl rfl rfl rfl (V_pickT rfl rfl rfl) ?_
             refine G_val rfl rfl rfl rfl (V_move rfl rfl) ?_
             refine G_splitD 61 rfl (fun hc6 => ?_) (fun hc6 => ?_)
             rotate_left
             · (first | (exact absurd rfl hc6) | (exfalso; omega) | (exfalso; simp at hc6; done))
             refine G_val rfl rfl rfl rfl (V_move rfl rfl) ?_
             refine G_val rfl rfl rfl rfl (V_len rfl rfl Tryd.underlying24 rfl) ?_
             refine G_val rfl rfl rfl rfl (V_eql rfl rfl rfl) ?_
             refine G_val rfl rfl rfl rfl (V_pickT rfl rfl rfl) ?_
             refine G_val rfl rfl rfl rfl (V_move rfl rfl) ?_
             refine G_splitD 66 rfl (fun hc7 => ?_) (fun hc7 => ?_)
             rotate_left
             · (first | (exact absurd rfl hc7) | (exfalso; omega) | (exfalso; simp at hc7; done))
             refine G_val rfl rfl rfl rfl (V_move rfl rfl) ?_
             refine G_val rfl rfl rfl rfl (V_eql rfl rfl rfl) ?_
             refine G_val rfl rfl rfl rfl (V_pickT rfl rfl rfl) ?_
             refine G_val rfl rfl rfl rfl (V_assign rfl rfl) ?_
             refine G_done ?_
             refine G_ret (post := []) Tryd.func34 rfl (RVs_cons (RV_tmp rfl) RVs_nil) [] rfl ?_
             dsimp only [packed]
             exact ⟨rfl, rfl⟩
       · skip
         refine GHop_val rfl rfl rfl rfl (V_bytesS (l := (zt 43)) rfl rfl Tryd.underlying27 Tryd.underlying5 Tryd.underlying9 (mem_at 1 rfl) (by rw [zt_len]) (zt_cells 43)) ?_
         refine GH_all [3] (by kernel_rfl) (by decide) ?_
         refine (And.intro ?_ trivial)
         · skip
           refine GHop_call (L2 := [_, _]) rfl rfl rfl rfl rfl rfl Tryd.call41 ((lg_append d 8 lb lcap lcs slNil (newD 8) h g 2 5 7 0 (zt 42) (by decide) (by omega) (by omega) (by omega) (new_W8) (by rw [zt_len]; omega)).weaken (fun v post h => by rw [lv1, lv2, lk1_eq] at h; exact h)) [2, 2, 2, 2] [] rfl rfl [] (by rintro v post ⟨rfl, lcs1, uw1, h1, rfl⟩; exact ⟨_, rfl⟩) ?_
           rintro v post ⟨rfl, lcs1, uw1, h1, rfl⟩
           show GH _ _ _ _ _ _ _ [_, _, _, _, _, _] _
           refine GH_all [7] (by kernel_rfl) (by decide) ?_
           refine (And.intro ?_ trivial)
           · skip
             refine GHop_call (L2 := [_, _]) rfl rfl rfl rfl rfl rfl Tryd.call41 ((lg_append d 8 lb lcap lcs1 uw1 lk1 h1 g 2 5 7 1 (zt 43) (by decide) (by omega) (by omega) (by omega) (by omega) (by rw [zt_len]; omega)).weaken (fun v post h => by rw [lv3, lv4, lk2_eq] at h; exact h)) [0, 0, 0, 0] [] rfl rfl [] (by rintro v post ⟨rfl, lcs1, uw1, h1, rfl⟩; exact ⟨_, rfl⟩) ?_
             rintro v post ⟨rfl, lcs1, uw1, h1, rfl⟩
             show GH _ _ _ _ _ _ _ [_, _, _, _, _, _] _
             refine GH_take 8 rfl rfl rfl rfl (by kernel_rfl) (by kernel_rfl) (by kernel_rfl) (fun _ _ => (V_assign rfl rfl)) ?_
             refine GH_take 9 rfl rfl rfl rfl (by kernel_rfl) (by kernel_rfl) (by kernel_rfl) (fun _ _ => (V_assign rfl rfl)) ?_
             refine GH_done (by kernel_rfl) ?_
             refine G_seq ?_
             refine G_region (l := [0, 1, 2, 3, 4, 5, 6, 7, 8]) rfl ?_
             refine G_val rfl rfl rfl rfl (V_move rfl rfl) ?_
             refine G_call (L2 := [_, _, _, _, _, _]) rfl rfl rfl rfl rfl rfl Tryd.call48 ((lg_replay d 8 lb lcap lcs1 uw1 lk2 h1 2 5 1 9 (by decide) lv5 (by omega) (by omega) (by omega)).weaken (fun v post h => by rw [show (5 : Int).toNat = 5 from rfl, lv7] at h; exact h)) [] [1, 2, 3] rfl rfl ?_
             rintro v post ⟨ur, hur, rfl, rfl⟩
             show G _ _ _ [_, _, _, _, _, _, _] _
             refine G_val rfl rfl rfl rfl (V_move rfl rfl) ?_
             refine G_val rfl rfl rfl rfl (V_extract rfl rfl rfl) ?_
             refine G_val rfl rfl rfl rfl (V_extract rfl rfl rfl) ?_
             refine G_val rfl rfl rfl rfl (V_extract rfl rfl rfl) ?_
             refine G_val rfl rfl rfl rfl (V_assign rfl rfl) ?_
             refine G_val rfl rfl rfl rfl (V_assign rfl rfl) ?_
             refine G_val rfl rfl rfl rfl (V_assign rfl rfl) ?_
             refine G_done ?_
             refine G_seq ?_
             refine G_region (l := [0, 1, 2, 3, 4, 5, 6, 7, 8, 9, 10, 11, 12, 13, 14, 15, 16, 17, 18, 19, 20, 21, 22, 23, 24, 25, 26, 27, 28, 29, 30, 31, 32, 33, 34, 35, 36, 37]) rfl ?_
             refine G_val rfl rfl rfl rfl (V_move rfl rfl) ?_
             refine G_call (L2 := [_, _, _, _, _, _, _]) rfl rfl rfl rfl rfl rfl Tryd.call37 (ll_num _) [] [] rfl rfl ?_
             rintro v post ⟨rfl, rfl⟩
             show G _ _ _ [_, _, _, _, _, _, _] _
             refine G_val rfl rfl rfl rfl (V_eql rfl rfl rfl) ?_
             refine G_val rfl rfl rfl rfl (V_move rfl rfl) ?_
             refine G_splitD 36 rfl (fun hc1 => ?_) (fun hc1 => ?_)
             rotate_left
             · (first | (exact absurd rfl hc1) | (exfalso; omega) | (exfalso; simp at hc1; done))
             refine G_val rfl rfl rfl rfl (V_move rfl rfl) ?_
             refine G_call (L2 := [_, _, _, _, _, _, _]) rfl rfl rfl rfl rfl rfl Tryd.call37 (ll_num _) [] [] rfl rfl ?_
             rintro v post ⟨rfl, rfl⟩
             show G _ _ _ [_, _, _, _, _, _, _] _
             refine G_val rfl rfl rfl rfl (V_eql rfl rfl rfl) ?_
             refine G_val rfl rfl rfl rfl (V_pickT rfl rfl rfl) ?_
             refine G_val rfl rfl rfl rfl (V_move rfl rfl) ?_
             refine G_splitD 41 rfl (fun hc2 => ?_) (fun hc2 => ?_)
             rotate_left
             · (first | (exact absurd rfl hc2) | (exfalso; omega) | (exfalso; simp at hc2; done))
             refine G_val rfl rfl rfl rfl (V_move rfl rfl) ?_
             refine G_call (L2 := [_, _, _, _, _, _, _]) rfl rfl rfl rfl rfl rfl Tryd.call37 (ll_num _) [] [] rfl rfl ?_
             rintro v post ⟨rfl, rfl⟩
             show G _ _ _ [_, _, _, _, _, _, _] _
             refine G_val rfl rfl rfl rfl (V_eql rfl rfl rfl) ?_
             refine G_val rfl rfl rfl rfl (V_pickT rfl rfl rfl) ?_
             refine G_val rfl rfl rfl rfl (V_move rfl rfl) ?_
             refine G_splitD 46 rfl (fun hc3 => ?_) (fun hc3 => ?_)
             rotate_left
             · (first | (exact absurd rfl hc3) | (exfalso; omega) | (exfalso; simp at hc3; done))
             refine G_val rfl rfl rfl rfl (V_move rfl rfl) ?_
             refine G_call (L2 := [_, _, _, _, _, _, _]) rfl rfl rfl rfl rfl rfl Tryd.call37 (ll_num _) [] [] rfl rfl ?_
             rintro v post ⟨rfl, rfl⟩
             show G _ _ _ [_, _, _, _, _, _, _] _
             refine G_val rfl rfl rfl rfl (V_eql rfl rfl rfl) ?_
             refine G_val rfl rfl rfl rfl (V_pickT rfl rfl rfl) ?_
             refine G_val rfl rfl rfl rfl (V_move rfl rfl) ?_
             refine G_splitD 51 rfl (fun hc4 => ?_) (fun hc4 => ?_)
             rotate_left
             · (first | (exact absurd rfl hc4) | (exfalso; omega) | (exfalso; simp at hc4; done))
             refine G_val rfl rfl rfl rfl (V_move rfl rfl) ?_
             refine G_call (L2 := [_, _, _, _, _, _, _]) rfl rfl rfl rfl rfl rfl Tryd.call44 (lg_at d g 2 5 7 3) [] [1] rfl rfl ?_
             rintro v post ⟨rfl, rfl⟩
             show G _ _ _ [_, _, _, _, _, _, _] _
             refine G_val rfl rfl rfl rfl (V_eql rfl rfl rfl) ?_
             refine G_val rfl rfl rfl rfl (V_pickT rfl rfl rfl) ?_
             refine G_val rfl rfl rfl rfl (V_move rfl rfl) ?_
             refine G_splitD 56 rfl (fun hc5 => ?_) (fun hc5 => ?_)
             rotate_left
             · (first | (exact absurd rfl hc5) | (exfalso; omega) | (exfalso; simp at hc5; done))
             refine G_val rfl rfl rfl rfl (V_move rfl rfl) ?_
             refine G_call (L2 := [_, _, _, _, _, _, _]) rfl rfl rfl rfl rfl rfl Tryd.call45 (lg_room d g 2 5 7 3 (by omega) (by omega) (by omega)) [] [1] rfl rfl ?_
             rintro v post ⟨rfl, rfl⟩
             show G _ _ _ [_, _, _, _, _, _, _] _
             refine G_val rfl rfl rfl rfl (V_eql rfl rfl rfl) ?_
             refine G_val rfl rfl rfl rfl (V_pickT rfl rfl rfl) ?_
             refine G_val rfl rfl rfl rfl (V_move rfl rfl) ?_
             refine G_splitD 61 rfl (fun hc6 => ?_) (fun hc6 => ?_)
             rotate_left
             · (first | (exact absurd rfl hc6) | (exfalso; omega) | (exfalso; simp at hc6; done))
             refine G_val rfl rfl rfl rfl (V_move rfl rfl) ?_
             refine G_val rfl rfl rfl rfl (V_len rfl rfl Tryd.underlying24 rfl) ?_
             refine G_val rfl rfl rfl rfl (V_eql rfl rfl rfl) ?_
             refine G_val rfl rfl rfl rfl (V_pickT rfl rfl rfl) ?_
             refine G_val rfl rfl rfl rfl (V_move rfl rfl) ?_
             refine G_splitD 66 rfl (fun hc7 => ?_) (fun hc7 => ?_)
             rotate_left
             · (first | (exact absurd rfl hc7) | (exfalso; omega) | (exfalso; simp at hc7; done))
             refine G_val rfl rfl rfl rfl (V_move rfl rfl) ?_
             refine G_val rfl rfl rfl rfl (V_eql rfl rfl rfl) ?_
             refine G_val rfl rfl rfl rfl (V_pickT rfl rfl rfl) ?_
             refine G_val rfl rfl rfl rfl (V_assign rfl rfl) ?_
             refine G_done ?_
             refine G_ret (post := []) Tryd.func34 rfl (RVs_cons (RV_tmp rfl) RVs_nil) [] rfl ?_
             dsimp only [packed]
             exact ⟨rfl, rfl⟩
     · skip
       refine GHop_val rfl rfl rfl rfl (V_bytesS (l := (zt 43)) rfl rfl Tryd.underlying27 Tryd.underlying5 Tryd.underlying9 (mem_at 1 rfl) (by rw [zt_len]) (zt_cells 43)) ?_
       refine GH_all [2] (by kernel_rfl) (by decide) ?_
       refine (And.intro ?_ trivial)
       · skip
         refine GHop_val rfl rfl rfl rfl (V_bytesS (l := (zt 42)) rfl rfl Tryd.underlying27 Tryd.underlying5 Tryd.underlying9 (mem_at 0 rfl) (by rw [zt_len]) (zt_cells 42)) ?_
         refine GH_all [3] (by kernel_rfl) (by decide) ?_
         refine (And.intro ?_ trivial)
         · skip
           refine GHop_call (L2 := [_, _]) rfl rfl rfl rfl rfl rfl Tryd.call41 ((lg_append d 8 lb lcap lcs slNil (newD 8) h g 2 5 7 0 (zt 42) (by decide) (by omega) (by omega) (by omega) (new_W8) (by rw [zt_len]; omega)).weaken (fun v post h => by rw [lv1, lv2, lk1_eq] at h; exact h)) [2, 2, 2, 2] [] rfl rfl [] (by rintro v post ⟨rfl, lcs1, uw1, h1, rfl⟩; exact ⟨_, rfl⟩) ?_
           rintro v post ⟨rfl, lcs1, uw1, h1, rfl⟩
           show GH _ _ _ _ _ _ _ [_, _, _, _, _, _] _
           refine GH_all [7] (by kernel_rfl) (by decide) ?_
           refine (And.intro ?_ trivial)
           · skip
             refine GHop_call (L2 := [_, _]) rfl rfl rfl rfl rfl rfl Tryd.call41 ((lg_append d 8 lb lcap lcs1 uw1 lk1 h1 g 2 5 7 1 (zt 43) (by decide) (by omega) (by omega) (by omega) (by omega) (by rw [zt_len]; omega)).weaken (fun v post h => by rw [lv3, lv4, lk2_eq] at h; exact h)) [0, 0, 0, 0] [] rfl rfl [] (by rintro v post ⟨rfl, lcs1, uw1, h1, rfl⟩; exact ⟨_, rfl⟩) ?_
             rintro v post ⟨rfl, lcs1, uw1, h1, rfl⟩
             show GH _ _ _ _ _ _ _ [_, _, _, _, _, _] _
             refine GH_take 8 rfl rfl rfl rfl (by kernel_rfl) (by kernel_rfl) (by kernel_rfl) (fun _ _ => (V_assign rfl rfl)) ?_
             refine GH_take 9 rfl rfl rfl rfl (by kernel_rfl) (by kernel_rfl) (by kernel_rfl) (fun _ _ => (V_assign rfl rfl)) ?_
             refine GH_done (by kernel_rfl) ?_
             refine G_seq ?_
             refine G_region (l := [0, 1, 2, 3, 4, 5, 6, 7, 8]) rfl ?_
             refine G_val rfl rfl rfl rfl (V_move rfl rfl) ?_
             refine G_call (L2 := [_, _, _, _, _, _]) rfl rfl rfl rfl rfl rfl Tryd.call48 ((lg_replay d 8 lb lcap lcs1 uw1 lk2 h1 2 5 1 9 (by decide) lv5 (by omega) (by omega) (by omega)).weaken (fun v post h => by rw [show (5 : Int).toNat = 5 from rfl, lv7] at h; exact h)) [] [1, 2, 3] rfl rfl ?_
             rintro v post ⟨ur, hur, rfl, rfl⟩
             show G _ _ _ [_, _, _, _, _, _, _] _
             refine G_val rfl rfl rfl rfl (V_move rfl rfl) ?_
             refine G_val rfl rfl rfl rfl (V_extract rfl rfl rfl) ?_
             refine G_val rfl rfl rfl rfl (V_extract rfl rfl rfl) ?_
             refine G_val rfl rfl rfl rfl (V_extract rfl rfl rfl) ?_
             refine G_val rfl rfl rfl rfl (V_assign rfl rfl) ?_
             refine G_val rfl rfl rfl rfl (V_assign rfl rfl) ?_
             refine G_val rfl rfl rfl rfl (V_assign rfl rfl) ?_
             refine G_done ?_
             refine G_seq ?_
             refine G_region (l := [0, 1, 2, 3, 4, 5, 6, 7, 8, 9, 10, 11, 12, 13, 14, 15, 16, 17, 18, 19, 20, 21, 22, 23, 24, 25, 26, 27, 28, 29, 30, 31, 32, 33, 34, 35, 36, 37]) rfl ?_
             refine G_val rfl rfl rfl rfl (V_move rfl rfl) ?_
             refine G_call (L2 := [_, _, _, _, _, _, _]) rfl rfl rfl rfl rfl rfl Tryd.call37 (ll_num _) [] [] rfl rfl ?_
             rintro v post ⟨rfl, rfl⟩
             show G _ _ _ [_, _, _, _, _, _, _] _
             refine G_val rfl rfl rfl rfl (V_eql rfl rfl rfl) ?_
             refine G_val rfl rfl rfl rfl (V_move rfl rfl) ?_
             refine G_splitD 36 rfl (fun hc1 => ?_) (fun hc1 => ?_)
             rotate_left
             · (first | (exact absurd rfl hc1) | (exfalso; omega) | (exfalso; simp at hc1; done))
             refine G_val rfl rfl rfl rfl (V_move rfl rfl) ?_
             refine G_call (L2 := [_, _, _, _, _, _, _]) rfl rfl rfl rfl rfl rfl Tryd.call37 (ll_num _) [] [] rfl rfl ?_
             rintro v post ⟨rfl, rfl⟩
             show G _ _ _ [_, _, _, _, _, _, _] _
             refine G_val rfl rfl rfl rfl (V_eql rfl rfl rfl) ?_
             refine G_val rfl rfl rfl rfl (V_pickT rfl rfl rfl) ?_
             refine G_val rfl rfl rfl rfl (V_move rfl rfl) ?_
             refine G_splitD 41 rfl (fun hc2 => ?_) (fun hc2 => ?_)
             rotate_left
             · (first | (exact absurd rfl hc2) | (exfalso; omega) | (exfalso; simp at hc2; done))
             refine G_val rfl rfl rfl rfl (V_move rfl rfl) ?_
             refine G_call (L2 := [_, _, _, _, _, _, _]) rfl rfl rfl rfl rfl rfl Tryd.call37 (ll_num _) [] [] rfl rfl ?_
             rintro v post ⟨rfl, rfl⟩
             show G _ _ _ [_, _, _, _, _, _, _] _
             refine G_val rfl rfl rfl rfl (V_eql rfl rfl rfl) ?_
             refine G_val rfl rfl rfl rfl (V_pickT rfl rfl rfl) ?_
             refine G_val rfl rfl rfl rfl (V_move rfl rfl) ?_
             refine G_splitD 46 rfl (fun hc3 => ?_) (fun hc3 => ?_)
             rotate_left
             · (first | (exact absurd rfl hc3) | (exfalso; omega) | (exfalso; simp at hc3; done))
             refine G_val rfl rfl rfl rfl (V_move rfl rfl) ?_
             refine G_call (L2 := [_, _, _, _, _, _, _]) rfl rfl rfl rfl rfl rfl Tryd.call37 (ll_num _) [] [] rfl rfl ?_
             rintro v post ⟨rfl, rfl⟩
             show G _ _ _ [_, _, _, _, _, _, _] _
             refine G_val rfl rfl rfl rfl (V_eql rfl rfl rfl) ?_
             refine G_val rfl rfl rfl rfl (V_pickT rfl rfl rfl) ?_
             refine G_val rfl rfl rfl rfl (V_move rfl rfl) ?_
             refine G_splitD 51 rfl (fun hc4 => ?_) (fun hc4 => ?_)
             rotate_left
             · (first | (exact absurd rfl hc4) | (exfalso; omega) | (exfalso; simp at hc4; done))
             refine G_val rfl rfl rfl rfl (V_move rfl rfl) ?_
             refine G_call (L2 := [_, _, _, _, _, _, _]) rfl rfl rfl rfl rfl rfl Tryd.call44 (lg_at d g 2 5 7 3) [] [1] rfl rfl ?_
             rintro v post ⟨rfl, rfl⟩
             show G _ _ _ [_, _, _, _, _, _, _] _
             refine G_val rfl rfl rfl rfl (V_eql rfl rfl rfl) ?_
             refine G_val rfl rfl rfl rfl (V_pickT rfl rfl rfl) ?_
             refine G_val rfl rfl rfl rfl (V_move rfl rfl) ?_
             refine G_splitD 56 rfl (fun hc5 => ?_) (fun hc5 => ?_)
             rotate_left
             · (first | (exact absurd rfl hc5) | (exfalso; omega) | (exfalso; simp at hc5; done))
             refine G_val rfl rfl rfl rfl (V_move rfl rfl) ?_
             refine G_call (L2 := [_, _, _, _, _, _, _]) rfl rfl rfl rfl rfl rfl Tryd.call45 (lg_room d g 2 5 7 3 (by omega) (by omega) (by omega)) [] [1] rfl rfl ?_
             rintro v post ⟨rfl, rfl⟩
             show G _ _ _ [_, _, _, _, _, _, _] _
             refine G_val rfl rfl rfl rfl (V_eql rfl rfl rfl) ?_
             refine G_val rfl rfl rfl rfl (V_pickT rfl rfl rfl) ?_
             refine G_val rfl rfl rfl rfl (V_move rfl rfl) ?_
             refine G_splitD 61 rfl (fun hc6 => ?_) (fun hc6 => ?_)
             rotate_left
             · (first | (exact absurd rfl hc6) | (exfalso; omega) | (exfalso; simp at hc6; done))
             refine G_val rfl rfl rfl rfl (V_move rfl rfl) ?_
             refine G_val rfl rfl rfl rfl (V_len rfl rfl Tryd.underlying24 rfl) ?_
             refine G_val rfl rfl rfl rfl (V_eql rfl rfl rfl) ?_
             refine G_val rfl rfl rfl rfl (V_pickT rfl rfl rfl) ?_
             refine G_val rfl rfl rfl rfl (V_move rfl rfl) ?_
             refine G_splitD 66 rfl (fun hc7 => ?_) (fun hc7 => ?_)
             rotate_left
             · (first | (exact absurd rfl hc7) | (exfalso; omega) | (exfalso; simp at hc7; done))
             refine G_val rfl rfl rfl rfl (V_move rfl rfl) ?_
             refine G_val rfl rfl rfl rfl (V_eql rfl rfl rfl) ?_
             refine G_val rfl rfl rfl rfl (V_pickT rfl rfl rfl) ?_
             refine G_val rfl rfl rfl rfl (V_assign rfl rfl) ?_
             refine G_done ?_
             refine G_ret (post := []) Tryd.func34 rfl (RVs_cons (RV_tmp rfl) RVs_nil) [] rfl ?_
             dsimp only [packed]
             exact ⟨rfl, rfl⟩
   · skip
     refine GHop_val rfl rfl rfl rfl (V_bytesS (l := (zt 43)) rfl rfl Tryd.underlying27 Tryd.underlying5 Tryd.underlying9 (mem_at 0 rfl) (by rw [zt_len]) (zt_cells 43)) ?_
     refine GH_all [1] (by kernel_rfl) (by decide) ?_
     refine (And.intro ?_ trivial)
     · skip
       refine GHop_new rfl rfl rfl rfl (N_make (l := 42) (m := 42) rfl Tryd.underlying27 infLogL_5 rfl rfl rfl rfl rfl rfl rfl (by first | decide | omega) (by first | decide | omega | (show 1 * _ ≤ _; omega)) (by first | decide | omega)) [] (fun _ => ⟨_, rfl⟩) (fun b20 => ?_)
       refine GH_all [2] (by kernel_rfl) (by decide) ?_
       refine (And.intro ?_ trivial)
       · skip
         refine GHop_val rfl rfl rfl rfl (V_bytesS (l := (zt 42)) rfl rfl Tryd.underlying27 Tryd.underlying5 Tryd.underlying9 (mem_at 0 rfl) (by rw [zt_len]) (zt_cells 42)) ?_
         refine GH_all [3] (by kernel_rfl) (by decide) ?_
         refine (And.intro ?_ trivial)
         · skip
           refine GHop_call (L2 := [_, _]) rfl rfl rfl rfl rfl rfl Tryd.call41 ((lg_append d 8 lb lcap lcs slNil (newD 8) h g 2 5 7 0 (zt 42) (by decide) (by omega) (by omega) (by omega) (new_W8) (by rw [zt_len]; omega)).weaken (fun v post h => by rw [lv1, lv2, lk1_eq] at h; exact h)) [2, 2, 2, 2] [] rfl rfl [] (by rintro v post ⟨rfl, lcs1, uw1, h1, rfl⟩; exact ⟨_, rfl⟩) ?_
           rintro v post ⟨rfl, lcs1, uw1, h1, rfl⟩
           show GH _ _ _ _ _ _ _ [_, _, _, _, _, _] _
           refine GH_all [7] (by kernel_rfl) (by decide) ?_
           refine (And.intro ?_ trivial)
           · skip
             refine GHop_call (L2 := [_, _]) rfl rfl rfl rfl rfl rfl Tryd.call41 ((lg_append d 8 lb lcap lcs1 uw1 lk1 h1 g 2 5 7 1 (zt 43) (by decide) (by omega) (by omega) (by omega) (by omega) (by rw [zt_len]; omega)).weaken (fun v post h => by rw [lv3, lv4, lk2_eq] at h; exact h)) [0, 0, 0, 0] [] rfl rfl [] (by rintro v post ⟨rfl, lcs1, uw1, h1, rfl⟩; exact ⟨_, rfl⟩) ?_
             rintro v post ⟨rfl, lcs1, uw1, h1, rfl⟩
             show GH _ _ _ _ _ _ _ [_, _, _, _, _, _] _
             refine GH_take 8 rfl rfl rfl rfl (by kernel_rfl) (by kernel_rfl) (by kernel_rfl) (fun _ _ => (V_assign rfl rfl)) ?_
             refine GH_take 9 rfl rfl rfl rfl (by kernel_rfl) (by kernel_rfl) (by kernel_rfl) (fun _ _ => (V_assign rfl rfl)) ?_
             refine GH_done (by kernel_rfl) ?_
             refine G_seq ?_
             refine G_region (l := [0, 1, 2, 3, 4, 5, 6, 7, 8]) rfl ?_
             refine G_val rfl rfl rfl rfl (V_move rfl rfl) ?_
             refine G_call (L2 := [_, _, _, _, _, _]) rfl rfl rfl rfl rfl rfl Tryd.call48 ((lg_replay d 8 lb lcap lcs1 uw1 lk2 h1 2 5 1 9 (by decide) lv5 (by omega) (by omega) (by omega)).weaken (fun v post h => by rw [show (5 : Int).toNat = 5 from rfl, lv7] at h; exact h)) [] [1, 2, 3] rfl rfl ?_
             rintro v post ⟨ur, hur, rfl, rfl⟩
             show G _ _ _ [_, _, _, _, _, _, _] _
             refine G_val rfl rfl rfl rfl (V_move rfl rfl) ?_
             refine G_val rfl rfl rfl rfl (V_extract rfl rfl rfl) ?_
             refine G_val rfl rfl rfl rfl (V_extract rfl rfl rfl) ?_
             refine G_val rfl rfl rfl rfl (V_extract rfl rfl rfl) ?_
             refine G_val rfl rfl rfl rfl (V_assign rfl rfl) ?_
             refine G_val rfl rfl rfl rfl (V_assign rfl rfl) ?_
             refine G_val rfl rfl rfl rfl (V_assign rfl rfl) ?_
             refine G_done ?_
             refine G_seq ?_
             refine G_region (l := [0, 1, 2, 3, 4, 5, 6, 7, 8, 9, 10, 11, 12, 13, 14, 15, 16, 17, 18, 19, 20, 21, 22, 23, 24, 25, 26, 27, 28, 29, 30, 31, 32, 33, 34, 35, 36, 37]) rfl ?_
             refine G_val rfl rfl rfl rfl (V_move rfl rfl) ?_
             refine G_call (L2 := [_, _, _, _, _, _, _]) rfl rfl rfl rfl rfl rfl Tryd.call37 (ll_num _) [] [] rfl rfl ?_
             rintro v post ⟨rfl, rfl⟩
             show G _ _ _ [_, _, _, _, _, _, _] _
             refine G_val rfl rfl rfl rfl (V_eql rfl rfl rfl) ?_
             refine G_val rfl rfl rfl rfl (V_move rfl rfl) ?_
             refine G_splitD 36 rfl (fun hc1 => ?_) (fun hc1 => ?_)
             rotate_left
             · (first | (exact absurd rfl hc1) | (exfalso; omega) | (exfalso; simp at hc1; done))
             refine G_val rfl rfl rfl rfl (V_move rfl rfl) ?_
             refine G_call (L2 := [_, _, _, _, _, _, _]) rfl rfl rfl rfl rfl rfl Tryd.call37 (ll_num _) [] [] rfl rfl ?_
             rintro v post ⟨rfl, rfl⟩
             show G _ _ _ [_, _, _, _, _, _, _] _
             refine G_val rfl rfl rfl rfl (V_eql rfl rfl rfl) ?_
             refine G_val rfl rfl rfl rfl (V_pickT rfl rfl rfl) ?_
             refine G_val rfl rfl rfl rfl (V_move rfl rfl) ?_
             refine G_splitD 41 rfl (fun hc2 => ?_) (fun hc2 => ?_)
             rotate_left
             · (first | (exact absurd rfl hc2) | (exfalso; omega) | (exfalso; simp at hc2; done))
             refine G_val rfl rfl rfl rfl (V_move rfl rfl) ?_
             refine G_call (L2 := [_, _, _, _, _, _, _]) rfl rfl rfl rfl rfl rfl Tryd.call37 (ll_num _) [] [] rfl rfl ?_
             rintro v post ⟨rfl, rfl⟩
             show G _ _ _ [_, _, _, _, _, _, _] _
             refine G_val rfl rfl rfl rfl (V_eql rfl rfl rfl) ?_
             refine G_val rfl rfl rfl rfl (V_pickT rfl rfl rfl) ?_
             refine G_val rfl rfl rfl rfl (V_move rfl rfl) ?_
             refine G_splitD 46 rfl (fun hc3 => ?_) (fun hc3 => ?_)
             rotate_left
             · (first | (exact absurd rfl hc3) | (exfalso; omega) | (exfalso; simp at hc3; done))
             refine G_val rfl rfl rfl rfl (V_move rfl rfl) ?_
             refine G_call (L2 := [_, _, _, _, _, _, _]) rfl rfl rfl rfl rfl rfl Tryd.call37 (ll_num _) [] [] rfl rfl ?_
             rintro v post ⟨rfl, rfl⟩
             show G _ _ _ [_, _, _, _, _, _, _] _
             refine G_val rfl rfl rfl rfl (V_eql rfl rfl rfl) ?_
             refine G_val rfl rfl rfl rfl (V_pickT rfl rfl rfl) ?_
             refine G_val rfl rfl rfl rfl (V_move rfl rfl) ?_
             refine G_splitD 51 rfl (fun hc4 => ?_) (fun hc4 => ?_)
             rotate_left
             · (first | (exact absurd rfl hc4) | (exfalso; omega) | (exfalso; simp at hc4; done))
             refine G_val rfl rfl rfl rfl (V_move rfl rfl) ?_
             refine G_call (L2 := [_, _, _, _, _, _, _]) rfl rfl rfl rfl rfl rfl Tryd.call44 (lg_at d g 2 5 7 3) [] [1] rfl rfl ?_
             rintro v post ⟨rfl, rfl⟩
             show G _ _ _ [_, _, _, _, _, _, _] _
             refine G_val rfl rfl rfl rfl (V_eql rfl rfl rfl) ?_
             refine G_val rfl rfl rfl rfl (V_pickT rfl rfl rfl) ?_
             refine G_val rfl rfl rfl rfl (V_move rfl rfl) ?_
             refine G_splitD 56 rfl (fun hc5 => ?_) (fun hc5 => ?_)
             rotate_left
             · (first | (exact absurd rfl hc5) | (exfalso; omega) | (exfalso; simp at hc5; done))
             refine G_val rfl rfl rfl rfl (V_move rfl rfl) ?_
             refine G_call (L2 := [_, _, _, _, _, _, _]) rfl rfl rfl rfl rfl rfl Tryd.call45 (lg_room d g 2 5 7 3 (by omega) (by omega) (by omega)) [] [1] rfl rfl ?_
             rintro v post ⟨rfl, rfl⟩
             show G _ _ _ [_, _, _, _, _, _, _] _
             refine G_val rfl rfl rfl rfl (V_eql rfl rfl rfl) ?_
             refine G_val rfl rfl rfl rfl (V_pickT rfl rfl rfl) ?_
             refine G_val rfl rfl rfl rfl (V_move rfl rfl) ?_
             refine G_splitD 61 rfl (fun hc6 => ?_) (fun hc6 => ?_)
             rotate_left
             · (first | (exact absurd rfl hc6) | (exfalso; omega) | (exfalso; simp at hc6; done))
             refine G_val rfl rfl rfl rfl (V_move rfl rfl) ?_
             refine G_val rfl rfl rfl rfl (V_len rfl rfl Tryd.underlying24 rfl) ?_
             refine G_val rfl rfl rfl rfl (V_eql rfl rfl rfl) ?_
             refine G_val rfl rfl rfl rfl (V_pickT rfl rfl rfl) ?_
             refine G_val rfl rfl rfl rfl (V_move rfl rfl) ?_
             refine G_splitD 66 rfl (fun hc7 => ?_) (fun hc7 => ?_)
             rotate_left
             · (first | (exact absurd rfl hc7) | (exfalso; omega) | (exfalso; simp at hc7; done))
             refine G_val rfl rfl rfl rfl (V_move rfl rfl) ?_
             refine G_val rfl rfl rfl rfl (V_eql rfl rfl rfl) ?_
             refine G_val rfl rfl rfl rfl (V_pickT rfl rfl rfl) ?_
             refine G_val rfl rfl rfl rfl (V_assign rfl rfl) ?_
             refine G_done ?_
             refine G_ret (post := []) Tryd.func34 rfl (RVs_cons (RV_tmp rfl) RVs_nil) [] rfl ?_
             dsimp only [packed]
             exact ⟨rfl, rfl⟩

end
end Go.Proofs.YtbblkgdejgoncaaDoor

/- From a law's walk to the form of a row that lists package-level variables: one lemma for all laws of such a seat. -/
namespace Go.Proofs.YtbblkgdejgoncaaDoor
open Go.ChangeShapes Go.WideShapes Go.ChangeAt Go.RowKit

set_option maxRecDepth 100000 in
theorem law_end {f : FuncId} {F : Func} {s : ChangeSpec} {H : Type} {enc : TypeId × Value → H}
    (hvars : s.vars = []) (hrt : F.resultTypes.toList = [4]) (hrs : F.resultTypes.size = 1)
    (hread : ∀ t ∈ F.params.toList, Tryd.prog.readableRec t = true ∧ t < Tryd.prog.types.size)
    (hspec : ∀ ds : List (DataW H), ds.length = F.params.toList.length → s.fn H (ds ++ []) = { results := [.lit (.bool true)], args := ds })
    (walk : LawWalk f F) (W : World) (base : Nat) (args : Array Value) (ds gs : List (DataW H)) (before : List MemPlace)
    (hval : ∀ (j : Nat) t v, F.params[j]? = some t → args[j]? = some v → Value.okWide Tryd.prog W .any base t v)
    (hW : DataW.Whole enc Tryd.prog F.params.toList s.vars false W args.toList ds gs before) :
    Calls Tryd.prog f args W fun e W' => ∃ v, e = .returned v ∧ s.post enc Tryd.prog F false true false false W args v W' := by
  have hW' := hW
  obtain ⟨p, q, hA, hV, rfl, hfz, hnd⟩ := hW
  rw [hvars] at hV
  obtain ⟨rfl, rfl⟩ := trodVars_none hV
  have hlen := trodAll_len _ _ _ _ hA
  refine (walk H enc W base args ds p hval hA).mono fun e W' ⟨he, hb⟩ => ?_
  subst he
  refine ⟨_, rfl, ds, [], _, [], p, [], hW', ?_, ?_, ?_, hb.frame _, fun h => by cases h⟩
  rotate_left
  · rw [hspec ds hlen]
    exact trodAll_below Tryd.laidOutK hb _ _ _ _ hread hA
  · rw [hvars, hspec ds hlen]
    rfl
  · rw [hspec ds hlen, hrt, hrs]
    exact trodAll_mk1 (shut_bool Tryd.underlying4 _)
end Go.Proofs.YtbblkgdejgoncaaDoor

set_option linter.unusedSimpArgs false
set_option linter.unusedVariables false
namespace Go.Proofs.YtbblkgdejgoncaaDoor
open Go.ChangeShapes Go.WideShapes Go.ChangeAt Go.RowKit

section
theorem infLawLogNil_3 : Tryd.prog.info? 3 = some Tryd.t3 := by kernel_rfl
theorem infLawLogNil_22 : Tryd.prog.info? 22 = some Tryd.t22 := by kernel_rfl

set_option maxRecDepth 100000 in
set_option maxHeartbeats 1000000 in
theorem logNil_all (s : List UInt8) (f b a e : Int) :
    Ct Tryd.prog 10 [.string (bs s), .agg #[.int .i64 f, .int .i64 b, .int .i64 a, .int .u32 e]] [] [] fun v post => v = .bool true ∧ post = [] := by
 refine ct_of Tryd.func10 rfl rfl (fun w0 => ?_)
 show G _ _ [(0, _), (1, _)] _ _
 refine G_seq ?_
 refine G_region (l := [0, 1]) rfl ?_
 refine G_new rfl rfl rfl rfl (N_boxA rfl rfl) (fun b3 => ?_)
 refine G_val rfl rfl rfl rfl (V_assign rfl rfl) ?_
 refine G_done ?_
 refine G_seq ?_
 refine G_region (l := [0]) rfl ?_
 refine G_val rfl rfl rfl rfl (V_assign rfl rfl) ?_
 refine G_done ?_
 refine G_seq ?_
 refine G_region (l := [0, 1, 2, 3, 4, 5, 6, 7, 8, 9, 10, 11, 12, 13]) rfl ?_
 refine G_val rfl rfl rfl rfl (V_fieldAddr (fo := 0) rfl Tryd.underlying65 rfl infLawLogNil_3 rfl rfl rfl) ?_
 refine G_val rfl rfl rfl rfl (V_load1 rfl rfl (mem_at 0 rfl) rfl Tryd.underlying3 rfl) ?_
 refine G_val rfl rfl rfl rfl (V_fieldAddr (fo := 1) rfl Tryd.underlying65 rfl infLawLogNil_3 rfl rfl rfl) ?_
 refine G_val rfl rfl rfl rfl (V_load1 rfl rfl (mem_at 0 rfl) rfl Tryd.underlying3 rfl) ?_
 refine G_val rfl rfl rfl rfl (V_fieldAddr (fo := 3) rfl Tryd.underlying65 rfl infLawLogNil_22 rfl rfl rfl) ?_
 refine G_val rfl rfl rfl rfl (V_load1 rfl rfl (mem_at 0 rfl) rfl Tryd.underlying22 rfl) ?_
 refine G_val rfl rfl rfl rfl (V_fieldAddr (fo := 2) rfl Tryd.underlying65 rfl infLawLogNil_3 rfl rfl rfl) ?_
 refine G_val rfl rfl rfl rfl (V_load1 rfl rfl (mem_at 0 rfl) rfl Tryd.underlying3 rfl) ?_
 refine G_call (L2 := [_]) rfl rfl rfl rfl rfl rfl Tryd.call35 (lg_new_nil _ _ _ _) [] [] rfl rfl ?_
 rintro v post ⟨rfl, rfl⟩
 show G _ _ _ [_] _
 refine G_val rfl rfl rfl rfl (V_move rfl rfl) ?_
 refine G_val rfl rfl rfl rfl (V_extract rfl rfl rfl) ?_
 refine G_val rfl rfl rfl rfl (V_extract rfl rfl rfl) ?_
 refine G_val rfl rfl rfl rfl (V_assign rfl rfl) ?_
 refine G_val rfl rfl rfl rfl (V_assign rfl rfl) ?_
 refine G_done ?_
 refine G_seq ?_
 refine G_region (l := [0, 1, 2, 3, 4, 5, 6, 7, 8, 9, 10, 11, 12, 13, 14, 15]) rfl ?_
 refine G_val rfl rfl rfl rfl (V_fieldAddr (fo := 0) rfl Tryd.underlying65 rfl infLawLogNil_3 rfl rfl rfl) ?_
 refine G_val rfl rfl rfl rfl (V_load1 rfl rfl (mem_at 0 rfl) rfl Tryd.underlying3 rfl) ?_
 refine G_val rfl rfl rfl rfl (V_fieldAddr (fo := 1) rfl Tryd.underlying65 rfl infLawLogNil_3 rfl rfl rfl) ?_
 refine G_val rfl rfl rfl rfl (V_load1 rfl rfl (mem_at 0 rfl) rfl Tryd.underlying3 rfl) ?_
 refine G_val rfl rfl rfl rfl (V_fieldAddr (fo := 3) rfl Tryd.underlying65 rfl infLawLogNil_22 rfl rfl rfl) ?_
 refine G_val rfl rfl rfl rfl (V_load1 rfl rfl (mem_at 0 rfl) rfl Tryd.underlying22 rfl) ?_
 refine G_val rfl rfl rfl rfl (V_fieldAddr (fo := 3) rfl Tryd.underlying65 rfl infLawLogNil_22 rfl rfl rfl) ?_
 refine G_val rfl rfl rfl rfl (V_load1 rfl rfl (mem_at 0 rfl) rfl Tryd.underlying22 rfl) ?_
 refine G_call (L2 := [_]) rfl rfl rfl rfl rfl rfl Tryd.call48 (lg_replay_nil _ _ _ _) [] [] rfl rfl ?_
 rintro v post ⟨rfl, rfl⟩
 show G _ _ _ [_] _
 refine G_val rfl rfl rfl rfl (V_move rfl rfl) ?_
 refine G_val rfl rfl rfl rfl (V_extract rfl rfl rfl) ?_
 refine G_val rfl rfl rfl rfl (V_extract rfl rfl rfl) ?_
 refine G_val rfl rfl rfl rfl (V_extract rfl rfl rfl) ?_
 refine G_val rfl rfl rfl rfl (V_assign rfl rfl) ?_
 refine G_val rfl rfl rfl rfl (V_assign rfl rfl) ?_
 refine G_val rfl rfl rfl rfl (V_assign rfl rfl) ?_
 refine G_done ?_
 refine G_seq ?_
 refine G_region (l := [0, 1, 2, 3, 4, 5, 6, 7, 8, 9, 10, 11, 12, 13, 14, 15, 16, 17, 18, 19, 20, 21, 22, 23, 24, 25, 26, 27, 28, 29, 30, 31, 32, 33, 34, 35, 36, 37, 38, 39, 40, 41, 42, 43, 44, 45, 46, 47]) rfl ?_
 refine G_val rfl rfl rfl rfl (V_move rfl rfl) ?_
 refine G_val rfl rfl rfl rfl (V_peqlN rfl Tryd.underlying66 rfl rfl) ?_
 refine G_val rfl rfl rfl rfl (V_move rfl rfl) ?_
 refine G_split 38 rfl (fun hc1 => ?_) (fun hc1 => ?_)
 rotate_left
 · (first | (exact absurd rfl hc1) | (exfalso; omega) | (exfalso; simp at hc1; done))
 refine G_val rfl rfl rfl rfl (V_move rfl rfl) ?_
 refine G_call (L2 := [_]) rfl rfl rfl rfl rfl rfl Tryd.call37 (ll_num _) [] [] rfl rfl ?_
 rintro v post ⟨rfl, rfl⟩
 show G _ _ _ [_] _
 refine G_val rfl rfl rfl rfl (V_eql rfl rfl rfl) ?_
 refine G_val rfl rfl rfl rfl (V_pickT rfl rfl rfl) ?_
 refine G_val rfl rfl rfl rfl (V_move rfl rfl) ?_
 refine G_splitD 43 rfl (fun hc2 => ?_) (fun hc2 => ?_)
 rotate_left
 · (first | (exact absurd rfl hc2) | (exfalso; omega) | (exfalso; simp at hc2; done))
 refine G_val rfl rfl rfl rfl (V_move rfl rfl) ?_
 refine G_val rfl rfl rfl rfl (V_len rfl rfl Tryd.underlying24 rfl) ?_
 refine G_val rfl rfl rfl rfl (V_eql rfl rfl rfl) ?_
 refine G_val rfl rfl rfl rfl (V_pickT rfl rfl rfl) ?_
 refine G_val rfl rfl rfl rfl (V_move rfl rfl) ?_
 refine G_splitD 48 rfl (fun hc3 => ?_) (fun hc3 => ?_)
 rotate_left
 · (first | (exact absurd rfl hc3) | (exfalso; omega) | (exfalso; simp at hc3; done))
 refine G_val rfl rfl rfl rfl (V_move rfl rfl) ?_
 refine G_val rfl rfl rfl rfl (V_eql rfl rfl rfl) ?_
 refine G_val rfl rfl rfl rfl (V_pickT rfl rfl rfl) ?_
 refine G_val rfl rfl rfl rfl (V_move rfl rfl) ?_
 refine G_splitD 52 rfl (fun hc4 => ?_) (fun hc4 => ?_)
 rotate_left
 · (first | (exact absurd rfl hc4) | (exfalso; omega) | (exfalso; simp at hc4; done))
 refine G_val rfl rfl rfl rfl (V_move rfl rfl) ?_
 refine G_call (L2 := [_]) rfl rfl rfl rfl rfl rfl Tryd.call37 (ll_num _) [] [] rfl rfl ?_
 rintro v post ⟨rfl, rfl⟩
 show G _ _ _ [_] _
 refine G_val rfl rfl rfl rfl (V_eql rfl rfl rfl) ?_
 refine G_val rfl rfl rfl rfl (V_pickT rfl rfl rfl) ?_
 refine G_val rfl rfl rfl rfl (V_move rfl rfl) ?_
 refine G_splitD 57 rfl (fun hc5 => ?_) (fun hc5 => ?_)
 rotate_left
 · (first | (exact absurd rfl hc5) | (exfalso; omega) | (exfalso; simp at hc5; done))
 refine G_val rfl rfl rfl rfl (V_move rfl rfl) ?_
 refine G_val rfl rfl rfl rfl (V_move rfl rfl) ?_
 refine G_call (L2 := [_]) rfl rfl rfl rfl rfl rfl Tryd.call41 (lg_append_nil _) [] [] rfl rfl ?_
 rintro v post ⟨rfl, rfl⟩
 show G _ _ _ [_] _
 refine G_call (L2 := [_]) rfl rfl rfl rfl rfl rfl Tryd.call37 (ll_num _) [] [] rfl rfl ?_
 rintro v post ⟨rfl, rfl⟩
 show G _ _ _ [_] _
 refine G_val rfl rfl rfl rfl (V_eql rfl rfl rfl) ?_
 refine G_val rfl rfl rfl rfl (V_pickT rfl rfl rfl) ?_
 refine G_val rfl rfl rfl rfl (V_move rfl rfl) ?_
 refine G_splitD 64 rfl (fun hc6 => ?_) (fun hc6 => ?_)
 rotate_left
 · (first | (exact absurd rfl hc6) | (exfalso; omega) | (exfalso; simp at hc6; done))
 refine G_val rfl rfl rfl rfl (V_move rfl rfl) ?_
 refine G_val rfl rfl rfl rfl (V_move rfl rfl) ?_
 refine G_call (L2 := [_]) rfl rfl rfl rfl rfl rfl Tryd.call40 (lg_fits_nil _) [] [] rfl rfl ?_
 rintro v post ⟨rfl, rfl⟩
 show G _ _ _ [_] _
 refine G_val rfl rfl rfl rfl (V_not rfl rfl) ?_
 refine G_val rfl rfl rfl rfl (V_pickT rfl rfl rfl) ?_
 refine G_val rfl rfl rfl rfl (V_move rfl rfl) ?_
 refine G_split 70 rfl (fun hc7 => ?_) (fun hc7 => ?_)
 rotate_left
 · (first | (exact absurd rfl hc7) | (exfalso; omega) | (exfalso; simp at hc7; done))
 refine G_val rfl rfl rfl rfl (V_move rfl rfl) ?_
 refine G_call (L2 := [_]) rfl rfl rfl rfl rfl rfl Tryd.call44 lg_at_nil [] [] rfl rfl ?_
 rintro v post ⟨rfl, rfl⟩
 show G _ _ _ [_] _
 refine G_val rfl rfl rfl rfl (V_eql rfl rfl rfl) ?_
 refine G_val rfl rfl rfl rfl (V_pickT rfl rfl rfl) ?_
 refine G_val rfl rfl rfl rfl (V_move rfl rfl) ?_
 refine G_splitD 75 rfl (fun hc8 => ?_) (fun hc8 => ?_)
 rotate_left
 · (first | (exact absurd rfl hc8) | (exfalso; omega) | (exfalso; simp at hc8; done))
 refine G_val rfl rfl rfl rfl (V_move rfl rfl) ?_
 refine G_call (L2 := [_]) rfl rfl rfl rfl rfl rfl Tryd.call45 lg_room_nil [] [] rfl rfl ?_
 rintro v post ⟨rfl, rfl⟩
 show G _ _ _ [_] _
 refine G_val rfl rfl rfl rfl (V_eql rfl rfl rfl) ?_
 refine G_val rfl rfl rfl rfl (V_pickT rfl rfl rfl) ?_
 refine G_val rfl rfl rfl rfl (V_move rfl rfl) ?_
 refine G_splitD 80 rfl (fun hc9 => ?_) (fun hc9 => ?_)
 rotate_left
 · (first | (exact absurd rfl hc9) | (exfalso; omega) | (exfalso; simp at hc9; done))
 refine G_call (L2 := [_]) rfl rfl rfl rfl rfl rfl Tryd.call34 (ll_live) [] [] rfl rfl ?_
 rintro v post ⟨rfl, rfl⟩
 show G _ _ _ [_] _
 refine G_val rfl rfl rfl rfl (V_pickT rfl rfl rfl) ?_
 refine G_val rfl rfl rfl rfl (V_assign rfl rfl) ?_
 refine G_done ?_
 refine G_ret (post := []) Tryd.func10 rfl (RVs_cons (RV_tmp rfl) RVs_nil) [] rfl ?_
 dsimp only [packed]
 exact ⟨rfl, rfl⟩


set_option maxRecDepth 100000 in
theorem where_types : Tryd.prog.cellTypes Tryd.prog.depth 65 = some [3, 3, 3, 22] := by kernel_rfl
set_option maxRecDepth 100000 in
theorem logNil_walk : LawWalk 10 Tryd.f10 := lawwalk_reads (fun W base args hs hval => by
  rw [Tryd.params10] at hs hval
  obtain ⟨l⟩ := args
  match l, hs with
  | [a, b], _ =>
    obtain ⟨t, rfl, pt⟩ := okc_str (okv_cell (hval 0 9 a rfl rfl).1 Tryd.underlying9 rfl) Tryd.underlying9
    obtain ⟨cs, rfl, hl, hc⟩ := okv_agg (s := 4) (hval 1 65 b rfl rfl).1 Tryd.underlying65 rfl where_types (by kernel_rfl) rfl
    match cs, hl, hc with
    | [v0, v1, v2, v3], _, hc =>
      obtain ⟨n0, rfl, a0, b0⟩ := okc_int (hc 0 v0 3 rfl rfl) Tryd.underlying3
      obtain ⟨n1, rfl, a1, b1⟩ := okc_int (hc 1 v1 3 rfl rfl) Tryd.underlying3
      obtain ⟨n2, rfl, a2, b2⟩ := okc_int (hc 2 v2 3 rfl rfl) Tryd.underlying3
      obtain ⟨n3, rfl, a3, b3⟩ := okc_int (hc 3 v3 22 rfl rfl) Tryd.underlying22
      exact ⟨_, has_nil _, logNil_all t n0 n1 n2 n3⟩)


set_option maxRecDepth 100000 in
theorem logNil_lifted (os : Os) (started : os.Started) (H : Type) (enc : TypeId × Value → H) :
    ReturnsInHanded {} Tryd.checked os 10 .any (fun w args => (Rows.logNilSpec.pre enc Tryd.prog Tryd.f10 [] false w args ∧ laidMetH Tryd.prog Rows.logNilRow.laid w) ∧ sizedMet enc Tryd.prog Tryd.f10 (OpenSpec.ofChange Rows.logNilSpec) false w args)
      (Rows.logNilSpec.post enc Tryd.prog Tryd.f10 false true false false) := by
  refine returnsInHanded_of_change_and (C := Tryd.checked) (X := fun w _ => laidMetH Tryd.prog Rows.logNilRow.laid w) (fun _ _ _ hh h => h.of_heap hh) Tryd.ownK started (by kernel_rfl) Tryd.func10
    (ChangeSpec.witness_shaped (enc := enc) (C := Tryd.checked) (os := os) (X := fun w _ => laidMetH Tryd.prog Rows.logNilRow.laid w) false (World.laidAll Tryd.prog os Rows.logNilRow.laid) #[.string ByteArray.empty, .agg #[.int .i64 0, .int .i64 0, .int .i64 0, .int .u32 0]] 8 (World.laidAll_os _ _ _)
      (World.shaped_of_ZipB (by kernel_rfl) (by kernel_rfl)) (by kernel_rfl) (by kernel_rfl) (by kernel_rfl)
      (by rw [MakeChecks.laidMetH_plain _ _ _ (by kernel_rfl)]; exact laidMet_laidAll _ (by kernel_rfl) (by kernel_rfl))) ?_
  intro W base args ds gs before hval hW _ _ _ _
  exact law_end (s := Rows.logNilSpec) rfl (by kernel_rfl) (by kernel_rfl) (by decide +kernel) (fun ds h => by match ds, h with | [_, _], _ => rfl) logNil_walk W base args ds gs before hval hW
theorem logNil_said : Rows.LogNilSaid :=
  OpenClaim.holds_of_wide 10 Tryd.f10 rfl rfl rfl rfl rfl rfl rfl ⟨rfl, rfl, rfl, rfl, rfl⟩ rfl rfl rfl rfl rfl (by kernel_rfl) Tryd.func10 (by kernel_rfl)
    (of_decide_eq_true (by kernel_rfl)) (by unfold Func.isWrapper; first | (rw [if_pos (by decide +kernel)]; kernel_rfl) | (rw [if_neg (by decide +kernel)]; exact ⟨rfl, rfl⟩))
    (fun os started H enc _ => logNil_lifted os started H enc)
theorem logNil_holds : Rows.LogNilCardSaid :=
  Claim7.holds_tied_plain_at .later [] _ _ _ _ logNil_said (fun _ h => by cases h) (by kernel_rfl) (fun _ h => by cases h) logNil_row_tie rfl ⟨rfl, rfl⟩ (by kernel_rfl) rfl
    (fun f fn hf hfn => by
      obtain rfl : f = 10 := Option.some.inj ((show Tryd.prog.funcNamed "billet/billetlaw26.LogNil" = some 10 by kernel_rfl).symm.trans hf) |>.symm
      obtain rfl : fn = Tryd.f10 := (Option.some.inj (Tryd.func10.symm.trans hfn)).symm
      exact ⟨by kernel_rfl, fun j t ht => by
        rw [Tryd.params10] at ht
        have hm : t ∈ [9, 65] := by simpa using Array.mem_of_getElem? ht
        have hall : ([9, 65].all fun u => !Tryd.prog.wantsStandIn u) = true := by kernel_rfl
        exact (show Tryd.prog.wantsStandIn t = false by simpa using List.all_eq_true.1 hall t hm)⟩)
    (by kernel_rfl)
#print axioms logNil_holds

end
end Go.Proofs.YtbblkgdejgoncaaDoor
