/- What the law LogFalls needs, part 6. -/
import Derived.Test.YtbblkgdejgoncaaDoorPkLogFalls1
import Derived.Test.YtbblkgdejgoncaaDoorPkLogFalls2
import Derived.Test.YtbblkgdejgoncaaDoorPkLogFalls3
import Derived.Test.YtbblkgdejgoncaaDoorPkLogFalls4
import Derived.Test.YtbblkgdejgoncaaDoorPkLogFalls5


/- The laws of layer 26: what they have in common; the example. -/
set_option linter.unusedSimpArgs false
set_option linter.unusedVariables false
namespace Go.Proofs.YtbblkgdejgoncaaDoor
open Go Go.ChangeShapes Go.WideShapes Go.ChangeAt Go.RowKit

section
theorem infLogL_5 : Tryd.prog.info? 5 = some Tryd.t5 := by kernel_rfl


def regB (n : Nat) (f b : Int) : Prop := 0 ≤ f ∧ 1 ≤ b ∧ b ≤ (n : Int) ∧ f ≤ (n : Int) - b
instance (n : Nat) (f b : Int) : Decidable (regB n f b) := by unfold regB; infer_instance

set_option maxRecDepth 100000 in
set_option maxHeartbeats 1000000 in
theorem rl_region (n : Nat) (f b : Int) (hn : n ≤ 1000000) (hf0 : -9223372036854775808 ≤ f) (hf1 : f ≤ 9223372036854775807) (hb0 : -9223372036854775808 ≤ b) (hb1 : b ≤ 9223372036854775807) :
    Ct Tryd.prog 36 [.int .i64 (n : Int), .int .i64 f, .int .i64 b] [] [] fun v post => v = .bool (decide (regB n f b)) ∧ post = [] := by
 refine ct_of Tryd.func36 rfl rfl (fun w0 => ?_)
 show G _ _ [(0, _), (1, _), (2, _)] _ _
 refine G_seq ?_
 refine G_region (l := [0]) rfl ?_
 refine G_val rfl rfl rfl rfl (V_assign rfl rfl) ?_
 refine G_done ?_
 refine G_seq ?_
 refine G_region (l := [0, 1, 2, 3, 4, 5, 6, 7, 8, 9, 10, 11, 12, 13, 14, 15, 16, 17, 18]) rfl ?_
 refine G_val rfl rfl rfl rfl (V_move rfl rfl) ?_
 refine G_val rfl rfl rfl rfl (V_geq rfl rfl rfl) ?_
 refine G_val rfl rfl rfl rfl (V_move rfl rfl) ?_
 refine G_splitD 9 rfl (fun hc1 => ?_) (fun hc1 => ?_)
 · skip
   refine G_val rfl rfl rfl rfl (V_move rfl rfl) ?_
   refine G_val rfl rfl rfl rfl (V_geq rfl rfl rfl) ?_
   refine G_val rfl rfl rfl rfl (V_pickT rfl rfl rfl) ?_
   refine G_val rfl rfl rfl rfl (V_move rfl rfl) ?_
   refine G_splitD 13 rfl (fun hc2 => ?_) (fun hc2 => ?_)
   · skip
     refine G_val rfl rfl rfl rfl (V_move rfl rfl) ?_
     refine G_val rfl rfl rfl rfl (V_move rfl rfl) ?_
     refine G_val rfl rfl rfl rfl (V_leq rfl rfl rfl) ?_
     refine G_val rfl rfl rfl rfl (V_pickT rfl rfl rfl) ?_
     refine G_val rfl rfl rfl rfl (V_move rfl rfl) ?_
     refine G_splitD 18 rfl (fun hc3 => ?_) (fun hc3 => ?_)
     · skip
       refine G_val rfl rfl rfl rfl (V_move rfl rfl) ?_
       refine G_val rfl rfl rfl rfl (V_move rfl rfl) ?_
       refine G_val rfl rfl rfl rfl (V_move rfl rfl) ?_
       first
         | refine G_val rfl rfl rfl rfl ((V_sub rfl rfl rfl).int (wrap_i64 (by omega))) ?_
         | refine G_val rfl rfl rfl rfl (V_sub rfl rfl rfl) ?_
       refine G_val rfl rfl rfl rfl (V_leq rfl rfl rfl) ?_
       refine G_val rfl rfl rfl rfl (V_pickT rfl rfl rfl) ?_
       refine G_val rfl rfl rfl rfl (V_assign rfl rfl) ?_
       refine G_done ?_
       refine G_ret (post := []) Tryd.func36 rfl (RVs_cons (RV_tmp rfl) RVs_nil) [] rfl ?_
       dsimp only [packed]
       refine ⟨?_, rfl⟩; first | exact bool_eq (decide_eq_true (by unfold regB; omega)).symm | exact bool_eq (decide_eq_false (by unfold regB; omega)).symm | exact bool_eq (decide_eq_decide.2 (by unfold regB; omega))
     refine G_off rfl rfl rfl rfl ?_
     refine G_off rfl rfl rfl rfl ?_
     refine G_off rfl rfl rfl rfl ?_
     refine G_off rfl rfl rfl rfl ?_
     refine G_off rfl rfl rfl rfl ?_
     refine G_val rfl rfl rfl rfl (V_pickF rfl rfl rfl) ?_
     refine G_val rfl rfl rfl rfl (V_assign rfl rfl) ?_
     refine G_done ?_
     refine G_ret (post := []) Tryd.func36 rfl (RVs_cons (RV_tmp rfl) RVs_nil) [] rfl ?_
     dsimp only [packed]
     refine ⟨?_, rfl⟩; first | exact bool_eq (decide_eq_true (by unfold regB; omega)).symm | exact bool_eq (decide_eq_false (by unfold regB; omega)).symm | exact bool_eq (decide_eq_decide.2 (by unfold regB; omega))
   refine G_off rfl rfl rfl rfl ?_
   refine G_off rfl rfl rfl rfl ?_
   refine G_off rfl rfl rfl rfl ?_
   refine G_val rfl rfl rfl rfl (V_pickF rfl rfl rfl) ?_
   refine G_val rfl rfl rfl rfl (V_move rfl rfl) ?_
   refine G_off rfl rfl rfl rfl ?_
   refine G_off rfl rfl rfl rfl ?_
   refine G_off rfl rfl rfl rfl ?_
   refine G_off rfl rfl rfl rfl ?_
   refine G_off rfl rfl rfl rfl ?_
   refine G_val rfl rfl rfl rfl (V_pickF rfl rfl rfl) ?_
   refine G_val rfl rfl rfl rfl (V_assign rfl rfl) ?_
   refine G_done ?_
   refine G_ret (post := []) Tryd.func36 rfl (RVs_cons (RV_tmp rfl) RVs_nil) [] rfl ?_
   dsimp only [packed]
   refine ⟨?_, rfl⟩; first | exact bool_eq (decide_eq_true (by unfold regB; omega)).symm | exact bool_eq (decide_eq_false (by unfold regB; omega)).symm | exact bool_eq (decide_eq_decide.2 (by unfold regB; omega))
 refine G_off rfl rfl rfl rfl ?_
 refine G_off rfl rfl rfl rfl ?_
 refine G_val rfl rfl rfl rfl (V_pickF rfl rfl rfl) ?_
 refine G_val rfl rfl rfl rfl (V_move rfl rfl) ?_
 refine G_off rfl rfl rfl rfl ?_
 refine G_off rfl rfl rfl rfl ?_
 refine G_off rfl rfl rfl rfl ?_
 refine G_val rfl rfl rfl rfl (V_pickF rfl rfl rfl) ?_
 refine G_val rfl rfl rfl rfl (V_move rfl rfl) ?_
 refine G_off rfl rfl rfl rfl ?_
 refine G_off rfl rfl rfl rfl ?_
 refine G_off rfl rfl rfl rfl ?_
 refine G_off rfl rfl rfl rfl ?_
 refine G_off rfl rfl rfl rfl ?_
 refine G_val rfl rfl rfl rfl (V_pickF rfl rfl rfl) ?_
 refine G_val rfl rfl rfl rfl (V_assign rfl rfl) ?_
 refine G_done ?_
 refine G_ret (post := []) Tryd.func36 rfl (RVs_cons (RV_tmp rfl) RVs_nil) [] rfl ?_
 dsimp only [packed]
 refine ⟨?_, rfl⟩; first | exact bool_eq (decide_eq_true (by unfold regB; omega)).symm | exact bool_eq (decide_eq_false (by unfold regB; omega)).symm | exact bool_eq (decide_eq_decide.2 (by unfold regB; omega))

set_option maxRecDepth 100000 in
set_option maxHeartbeats 1000000 in
theorem ll_num (n : Int) :
    Ct Tryd.prog 37 [.int .i64 n] [] [] fun v post => v = .int .i64 n ∧ post = [] := by
 refine ct_of Tryd.func37 rfl rfl (fun w0 => ?_)
 show G _ _ [(0, _)] _ _
 refine G_seq ?_
 refine G_region (l := [0]) rfl ?_
 refine G_val rfl rfl rfl rfl (V_assign rfl rfl) ?_
 refine G_done ?_
 refine G_seq ?_
 refine G_region (l := [0, 1]) rfl ?_
 refine G_val rfl rfl rfl rfl (V_move rfl rfl) ?_
 refine G_val rfl rfl rfl rfl (V_assign rfl rfl) ?_
 refine G_done ?_
 refine G_ret (post := []) Tryd.func37 rfl (RVs_cons (RV_tmp rfl) RVs_nil) [] rfl ?_
 dsimp only [packed]
 exact ⟨rfl, rfl⟩


theorem lg_new_ok {n : Nat} {f b : Int} {e : Nat} {a : Int} {d : Nat} {v : Value} {post : List (Option Nat × Obj)} (hr : rgE n f b = 0) (he : 0 < e) (h0 : 0 ≤ a) (h1 : a ≤ b)
    (h : (rgE n f b ≠ 0 ∧ v = .tuple #[.pointer none, .int .i64 1] ∧ post = []) ∨ (rgE n f b = 0 ∧ ((e : Int) = 0 ∨ a < 0 ∨ b < a) ∧ v = .tuple #[.pointer none, .int .i64 1] ∧ post = []) ∨ (rgE n f b = 0 ∧ 0 < e ∧ 0 ≤ a ∧ a ≤ b ∧ ∃ g, v = .tuple #[.pointer (some ⟨g, 0, none⟩), .int .i64 0] ∧ post = [(some g, .cells (lgC d f b e a.toNat).toArray 136 (0, 0))])) :
    ∃ g, v = .tuple #[.pointer (some ⟨g, 0, none⟩), .int .i64 0] ∧ post = [(some g, .cells (lgC d f b e a.toNat).toArray 136 (0, 0))] := by
  rcases h with h | h | h
  · exact absurd hr h.1
  · have := h.2.1; omega
  · exact h.2.2.2.2
attribute [local irreducible] lk1 lk2 rp rpN appK appE appA newD zt

theorem zt_cells (n : Nat) : ((List.replicate n (Value.int .u8 0)).toArray.toList.drop 0).take n = bcells (zt n) := by
  rw [List.drop_zero, List.take_of_length_le (by simp)]; unfold zt; rw [bcells_zero]
set_option maxRecDepth 100000 in
set_option maxHeartbeats 4000000 in
theorem ll_live  :
    Ct Tryd.prog 34 [] [] [] fun v post => v = .bool true ∧ post = [] := by
 obtain ⟨lv1, lv2, lv3, lv4, lv5, lv6, lv7⟩ := live_log
 refine ct_of Tryd.func34 rfl rfl (fun w0 => ?_)
 show G _ _ [] _ _
 refine G_seq ?_
 refine G_region (l := [0]) rfl ?_
 refine G_val rfl rfl rfl rfl (V_assign rfl rfl) ?_
 refine G_done ?_
 refine G_seq ?_
 refine G_region (l := [0, 1, 2, 3, 4, 5]) rfl ?_
 refine G_call (L2 := []) rfl rfl rfl rfl rfl rfl Tryd.call17 (dk_new 8 (by omega) (by omega)) [] [] rfl rfl ?_
 rintro v post ⟨d, lb, lcap, lcs, rfl, h, rfl⟩
 show G _ _ _ [_, _, _] _
 refine G_val rfl rfl rfl rfl (V_move rfl rfl) ?_
 refine G_val rfl rfl rfl rfl (V_extract rfl rfl rfl) ?_
 refine G_val rfl rfl rfl rfl (V_extract rfl rfl rfl) ?_
 refine G_val rfl rfl rfl rfl (V_assign rfl rfl) ?_
 refine G_val rfl rfl rfl rfl (V_assign rfl rfl) ?_
 refine G_done ?_
 refine G_seq ?_
 refine G_region (l := [0, 1, 2, 3, 4, 5, 6]) rfl ?_
 refine G_val rfl rfl rfl rfl (V_move rfl rfl) ?_
 refine G_call (L2 := [_, _, _]) rfl rfl rfl rfl rfl rfl Tryd.call35 ((lg_new d 8 lb lcap lcs slNil (newD 8) h 2 5 (by omega) (by omega) (by omega) (by omega) 7 0 (by omega) (by omega) (by omega)).weaken (fun v post h => lg_new_ok (by decide) (by omega) (by omega) (by omega) h)) [] [0] rfl rfl ?_
 rintro v post ⟨g, rfl, rfl⟩
 show G _ _ _ [_, _, _, _] _
 refine G_val rfl rfl rfl rfl (V_move rfl rfl) ?_
 refine G_val rfl rfl rfl rfl (V_extract rfl rfl rfl) ?_
 refine G_val rfl rfl rfl rfl (V_extract rfl rfl rfl) ?_
 refine G_val rfl rfl rfl rfl (V_assign rfl rfl) ?_
 refine G_val rfl rfl rfl rfl (V_assign rfl rfl) ?_
 refine G_done ?_
 refine G_seq ?_
 refine GH_start (Lq := []) (isq := []) (m := 10) mixedK rfl rfl ?_
 refine GH_take 0 rfl rfl rfl rfl (by kernel_rfl) (by kernel_rfl) (by kernel_rfl) (fun _ _ => (V_move rfl rfl)) ?_
 refine GH_take 4 rfl rfl rfl rfl (by kernel_rfl) (by kernel_rfl) (by kernel_rfl) (fun _ _ => (V_move rfl rfl)) ?_
 refine GH_all [1, 5] (by kernel_rfl) (by decide) ?_
 refine (And.intro ?_ (And.intro ?_ trivial))
 · skip
   refine GHop_new rfl rfl rfl rfl (N_make (l := 42) (m := 42) rfl Tryd.underlying27 infLogL_5 rfl rfl rfl rfl rfl rfl rfl (by first | decide | omega) (by first | decide | omega | (show 1 * _ ≤ _; omega)) (by first | decide | omega)) [] (fun _ => ⟨_, rfl⟩) (fun b20 => ?_)
   refine GH_all [2, 5] (by kernel_rfl) (by decide) ?_
   refine (And.intro ?_ (And.intro ?_ trivial))
   · skip
     refine GHop_val rfl rfl rfl rfl (V_bytesS (l := (zt 42)) rfl rfl Tryd.underlying27 Tryd.underlying5 Tryd.underlying9 (mem_at 0 rfl) (by rw [zt_len]) (zt_cells 42)) ?_
     refine GH_all [3, 5] (by kernel_rfl) (by decide) ?_
     refine (And.intro ?_ (And.intro ?_ trivial))
     · skip
       refine GHop_call (L2 := [_]) rfl rfl rfl rfl rfl rfl Tryd.call41 ((lg_append d 8 lb lcap lcs slNil (newD 8) h g 2 5 7 0 (zt 42) (by decide) (by omega) (by omega) (by omega) (new_W8) (by rw [zt_len]; omega)).weaken (fun v post h => by rw [lv1, lv2, lk1_eq] at h; exact h)) [1, 1, 1, 1] [] rfl rfl [] (by rintro v post ⟨rfl, lcs1, uw1, h1, rfl⟩; exact ⟨_, rfl⟩) ?_
       rintro v post ⟨rfl, lcs1, uw1, h1, rfl⟩
       show GH _ _ _ _ _ _ _ [_, _, _, _, _] _
       refine GH_all [5] (by kernel_rfl) (by decide) ?_
       refine (And.intro ?_ trivial)
       · skip
         refine GHop_new rfl rfl rfl rfl (N_make (l := 43) (m := 43) rfl Tryd.underlying27 infLogL_5 rfl rfl rfl rfl rfl rfl rfl (by first | decide | omega) (by first | decide | omega | (show 1 * _ ≤ _; omega)) (by first | decide | omega)) [] (fun _ => ⟨_, rfl⟩) (fun b24 => ?_)
         refine GH_all [6] (by kernel_rfl) (by decide) ?_
         refine (And.intro ?_ trivial)
         · skip
           refine GHop_val rfl rfl rfl rfl (V_bytesS (l := (zt 43)) rfl rfl Tryd.underlying27 Tryd.underlying5 Tryd.underlying9 (mem_at 0 rfl) (by rw [zt_len]) (zt_cells 43)) ?_
           refine GH_all [7] (by kernel_rfl) (by decide) ?_
           refine (And.intro ?_ trivial)
           · skip
             refine GHop_call (L2 := [_, _]) rfl rfl rfl rfl rfl rfl Tryd.call41 ((lg_append d 8 lb lcap lcs1 uw1 lk1 h1 g 2 5 7 1 (zt 43) (by decide) (by omega) (by omega) (by omega) (by omega) (by rw [zt_len]; omega)).weaken (fun v post h => by rw [lv3, lv4, lk2_eq] at h; exact h)) [1, 1, 1, 1] [] rfl rfl [] (by rintro v post ⟨rfl, lcs1, uw1, h1, rfl⟩; exact ⟨_, rfl⟩) ?_
             rintro v post ⟨rfl, lcs1, uw1, h1, rfl⟩
             show GH _ _ _ _ _ _ _ [_, _, _, _, _, _] _
             refine GH_take 8 rfl rfl rfl rfl (by kernel_rfl) (by kernel_rfl) (by kernel_rfl) (fun _ _ => (V_assign rfl rfl)) ?_
             refine GH_take 9 rfl rfl rfl rfl (by kernel_rfl) (by kernel_rfl) (by kernel_rfl) (fun _ _ => (V_assign rfl rfl)) ?_
             refine GH_done (by kernel_rfl) ?_
             refine G_seq ?_
             refine G_region (l := [0, 1, 2, 3, 4, 5, 6, 7, 8]) rfl ?_
             refine G_val rfl rfl rfl rfl (V_move rfl rfl) ?_
             refine G_call (L2 := [_, _, _, _, _, _]) rfl rfl rfl rfl rfl rfl Tryd.call48 ((lg_replay d 8 lb lcap lcs1 uw1 lk2 h1 2 5 1 9 (by decide) lv5 (by omega) (by omega) (by omega)).weaken (fun v post h => by rw [show (5 : Int).toNat = 5 from rfl, lv7] at h; exact h)) [] [1, 2, 3] rfl rfl ?_
             rintro v post ⟨ur, hur, rfl, rfl⟩
             show G _ _ _ [_, _, _, _, _, _, _] _
             refine G_val rfl rfl rfl rfl (V_move rfl rfl) ?_
             refine G_val rfl rfl rfl rfl (V_extract rfl rfl rfl) ?_
             refine G_val rfl rfl rfl rfl (V_extract rfl rfl rfl) ?_
             refine G_val rfl rfl rfl rfl (V_extract rfl rfl rfl) ?_
             refine G_val rfl rfl rfl rfl (V_assign rfl rfl) ?_
             refine G_val rfl rfl rfl rfl (V_assign rfl rfl) ?_
             refine G_val rfl rfl rfl rfl (V_assign rfl rfl) ?_
             refine G_done ?_
             refine G_seq ?_
             refine G_region (l := [0, 1, 2, 3, 4, 5, 6, 7, 8, 9, 10, 11, 12, 13, 14, 15, 16, 17, 18, 19, 20, 21, 22, 23, 24, 25, 26, 27, 28, 29, 30, 31, 32, 33, 34, 35, 36, 37]) rfl ?_
             refine G_val rfl rfl rfl rfl (V_move rfl rfl) ?_
             refine G_call (L2 := [_, _, _, _, _, _, _]) rfl rfl rfl rfl rfl rfl Tryd.call37 (ll_num _) [] [] rfl rfl ?_
             rintro v post ⟨rfl, rfl⟩
             show G _ _ _ [_, _, _, _, _, _, _] _
             refine G_val rfl rfl rfl rfl (V_eql rfl rfl rfl) ?_
             refine G_val rfl rfl rfl rfl (V_move rfl rfl) ?_
             refine G_splitD 36 rfl (fun hc1 => ?_) (fun hc1 => ?_)
             rotate_left
             · (first | (exact absurd rfl hc1) | (exfalso; omega) | (exfalso; simp at hc1; done))
             refine G_val rfl rfl rfl rfl (V_move rfl rfl) ?_
             refine G_call (L2 := [_, _, _, _, _, _, _]) rfl rfl rfl rfl rfl rfl Tryd.call37 (ll_num _) [] [] rfl rfl ?_
             rintro v post ⟨rfl, rfl⟩
             show G _ _ _ [_, _, _, _, _, _, _] _
             refine G_val rfl rfl rfl rfl (V_eql rfl rfl rfl) ?_
             refine G_val rfl rfl rfl rfl (V_pickT rfl rfl rfl) ?_
             refine G_val rfl rfl rfl rfl (V_move rfl rfl) ?_
             refine G_splitD 41 rfl (fun hc2 => ?_) (fun hc2 => ?_)
             rotate_left
             · (first | (exact absurd rfl hc2) | (exfalso; omega) | (exfalso; simp at hc2; done))
             refine G_val rfl rfl rfl rfl (V_move rfl rfl) ?_
             refine G_call (L2 := [_, _, _, _, _, _, _]) rfl rfl rfl rfl rfl rfl Tryd.call37 (ll_num _) [] [] rfl rfl ?_
             rintro v post ⟨rfl, rfl⟩
             show G _ _ _ [_, _, _, _, _, _, _] _
             refine G_val rfl rfl rfl rfl (V_eql rfl rfl rfl) ?_
             refine G_val rfl rfl rfl rfl (V_pickT rfl rfl rfl) ?_
             refine G_val rfl rfl rfl rfl (V_move rfl rfl) ?_
             refine G_splitD 46 rfl (fun hc3 => ?_) (fun hc3 => ?_)
             rotate_left
             · (first | (exact absurd rfl hc3) | (exfalso; omega) | (exfalso; simp at hc3; done))
             refine G_val rfl rfl rfl rfl (V_move rfl rfl) ?_
             refine G_call (L2 := [_, _, _, _, _, _, _]) rfl rfl rfl rfl rfl rfl Tryd.call37 (ll_num _) [] [] rfl rfl ?_
             rintro v post ⟨rfl, rfl⟩
             show G _ _ _ [_, _, _, _, _, _, _] _
             refine G_val rfl rfl rfl rfl (V_eql rfl rfl rfl) ?_
             refine G_val rfl rfl rfl rfl (V_pickT rfl rfl rfl) ?_
             refine G_val rfl rfl rfl rfl (V_move rfl rfl) ?_
             refine G_splitD 51 rfl (fun hc4 => ?_) (fun hc4 => ?_)
             rotate_left
             · (first | (exact absurd rfl hc4) | (exfalso; omega) | (exfalso; simp at hc4; done))
             refine G_val rfl rfl rfl rfl (V_move rfl rfl) ?_
             refine G_call (L2 := [_, _, _, _, _, _, _]) rfl rfl rfl rfl rfl rfl Tryd.call44 (lg_at d g 2 5 7 3) [] [1] rfl rfl ?_
             rintro v post ⟨rfl, rfl⟩
             show G _ _ _ [_, _, _, _, _, _, _] _
             refine G_val rfl rfl rfl rfl (V_eql rfl rfl rfl) ?_
             refine G_val rfl rfl rfl rfl (V_pickT rfl rfl rfl) ?_
             refine G_val rfl rfl rfl rfl (V_move rfl rfl) ?_
             refine G_splitD 56 rfl (fun hc5 => ?_) (fun hc5 => ?_)
             rotate_left
             · (first | (exact absurd rfl hc5) | (exfalso; omega) | (exfalso; simp at hc5; done))
             refine G_val rfl rfl rfl rfl (V_move rfl rfl) ?_
             refine G_call (L2 := [_, _, _, _, _, _, _]) rfl rfl rfl rfl rfl rfl Tryd.call45 (lg_room d g 2 5 7 3 (by omega) (by omega) (by omega)) [] [1] rfl rfl ?_
             rintro v post ⟨rfl, rfl⟩
             show G _ _ _ [_, _, _, _, _, _, _] _
             refine G_val rfl rfl rfl rfl (V_eql rfl rfl rfl) ?_
             refine G_val rfl rfl rfl rfl (V_pickT rfl rfl rfl) ?_
             refine G_val rfl rfl rfl rfl (V_move rfl rfl) ?_
             refine G_splitD 61 rfl (fun hc6 => ?_) (fun hc6 => ?_)
             rotate_left
             · (first | (exact absurd rfl hc6) | (exfalso; omega) | (exfalso; simp at hc6; done))
             refine G_val rfl rfl rfl rfl (V_move rfl rfl) ?_
             refine G_val rfl rfl rfl rfl (V_len rfl rfl Tryd.underlying24 rfl) ?_
             refine G_val rfl rfl rfl rfl (V_eql rfl rfl rfl) ?_
             refine G_val rfl rfl rfl rfl (V_pickT rfl rfl rfl) ?_
             refine G_val rfl rfl rfl rfl (V_move rfl rfl) ?_
             refine G_splitD 66 rfl (fun hc7 => ?_) (fun hc7 => ?_)
             rotate_left
             · (first | (exact absurd rfl hc7) | (exfalso; omega) | (exfalso; simp at hc7; done))
             refine G_val rfl rfl rfl rfl (V_move rfl rfl) ?_
             refine G_val rfl rfl rfl rfl (V_eql rfl rfl rfl) ?_
             refine G_val rfl rfl rfl rfl (V_pickT rfl rfl rfl) ?_
             refine G_val rfl rfl rfl rfl (V_assign rfl rfl) ?_
             refine G_done ?_
             refine G_ret (post := []) Tryd.func34 rfl (RVs_cons (RV_tmp rfl) RVs_nil) [] rfl ?_
             dsimp only [packed]
             exact ⟨rfl, rfl⟩
     · skip
       refine GHop_new rfl rfl rfl rfl (N_make (l := 43) (m := 43) rfl Tryd.underlying27 infLogL_5 rfl rfl rfl rfl rfl rfl rfl (by first | decide | omega) (by first | decide | omega | (show 1 * _ ≤ _; omega)) (by first | decide | omega)) [] (fun _ => ⟨_, rfl⟩) (fun b24 => ?_)
       refine GH_all [3, 6] (by kernel_rfl) (by decide) ?_
       refine (And.intro ?_ (And.intro ?_ trivial))
       · skip
         refine GHop_call (L2 := [_, _]) rfl rfl rfl rfl rfl rfl Tryd.call41 ((lg_append d 8 lb lcap lcs slNil (newD 8) h g 2 5 7 0 (zt 42) (by decide) (by omega) (by omega) (by omega) (new_W8) (by rw [zt_len]; omega)).weaken (fun v post h => by rw [lv1, lv2, lk1_eq] at h; exact h)) [2, 2, 2, 2] [] rfl rfl [] (by rintro v post ⟨rfl, lcs1, uw1, h1, rfl⟩; exact ⟨_, rfl⟩) ?_
         rintro v post ⟨rfl, lcs1, uw1, h1, rfl⟩
         show GH _ _ _ _ _ _ _ [_, _, _, _, _, _] _
         refine GH_all [6] (by kernel_rfl) (by decide) ?_
         refine (And.intro ?_ trivial)
         · skip
           refine GHop_val rfl rfl rfl rfl (V_bytesS (l := (zt 43)) rfl rfl Tryd.underlying27 Tryd.underlying5 Tryd.underlying9 (mem_at 4 rfl) (by rw [zt_len]) (zt_cells 43)) ?_
           refine GH_all [7] (by kernel_rfl) (by decide) ?_
           refine (And.intro ?_ trivial)
           · skip
             refine GHop_call (L2 := [_, _]) rfl rfl rfl rfl rfl rfl Tryd.call41 ((lg_append d 8 lb lcap lcs1 uw1 lk1 h1 g 2 5 7 1 (zt 43) (by decide) (by omega) (by omega) (by omega) (by omega) (by rw [zt_len]; omega)).weaken (fun v post h => by rw [lv3, lv4, lk2_eq] at h; exact h)) [0, 0, 0, 0] [] rfl rfl [] (by rintro v post ⟨rfl, lcs1, uw1, h1, rfl⟩; exact ⟨_, rfl⟩) ?_
             rintro v post ⟨rfl, lcs1, uw1, h1, rfl⟩
             show GH _ _ _ _ _ _ _ [_, _, _, _, _, _] _
             refine GH_take 8 rfl rfl rfl rfl (by kernel_rfl) (by kernel_rfl) (by kernel_rfl) (fun _ _ => (V_assign rfl rfl)) ?_
             refine GH_take 9 rfl rfl rfl rfl (by kernel_rfl) (by kernel_rfl) (by kernel_rfl) (fun _ _ => (V_assign rfl rfl)) ?_
             refine GH_done (by kernel_rfl) ?_
             refine G_seq ?_
             refine G_region (l := [0, 1, 2, 3, 4, 5, 6, 7, 8]) rfl ?_
             refine G_val rfl rfl rfl rfl (V_move rfl rfl) ?_
             refine G_call (L2 := [_, _, _, _, _, _]) rfl rfl rfl rfl rfl rfl Tryd.call48 ((lg_replay d 8 lb lcap lcs1 uw1 lk2 h1 2 5 1 9 (by decide) lv5 (by omega) (by omega) (by omega)).weaken (fun v post h => by rw [show (5 : Int).toNat = 5 from rfl, lv7] at h; exact h)) [] [1, 2, 3] rfl rfl ?_
             rintro v post ⟨ur, hur, rfl, rfl⟩
             show G _ _ _ [_, _, _, _, _, _, _] _
             refine G_val rfl rfl rfl rfl (V_move rfl rfl) ?_
             refine G_val rfl rfl rfl rfl (V_extract rfl rfl rfl) ?_
             refine G_val rfl rfl rfl rfl (V_extract rfl rfl rfl) ?_
             refine G_val rfl rfl rfl rfl (V_extract rfl rfl rfl) ?_
             refine G_val rfl rfl rfl rfl (V_assign rfl rfl) ?_
             refine G_val rfl rfl rfl rfl (V_assign rfl rfl) ?_
             refine G_val rfl rfl rfl rfl (V_assign rfl rfl) ?_
             refine G_done ?_
             refine G_seq ?_
             refine G_region (l := [0, 1, 2, 3, 4, 5, 6, 7, 8, 9, 10, 11, 12, 13, 14, 15, 16, 17, 18, 19, 20, 21, 22, 23, 24, 25, 26, 27, 28, 29, 30, 31, 32, 33, 34, 35, 36, 37]) rfl ?_
             refine G_val rfl rfl rfl rfl (V_move rfl rfl) ?_
             refine G_call (L2 := [_, _, _, _, _, _, _]) rfl rfl rfl rfl rfl rfl Tryd.call37 (ll_num _) [] [] rfl rfl ?_
             rintro v post ⟨rfl, rfl⟩
             show G _ _ _ [_, _, _, _, _, _, _] _
             refine G_val rfl rfl rfl rfl (V_eql rfl rfl rfl) ?_
             refine G_val rfl rfl rfl rfl (V_move rfl rfl) ?_
             refine G_splitD 36 rfl (fun hc1 => ?_) (fun hc1 => ?_)
             rotate_left
             · (first | (exact absurd rfl hc1) | (exfalso; omega) | (exfalso; simp at hc1; done))
             refine G_val rfl rfl rfl rfl (V_move rfl rfl) ?_
             refine G_call (L2 := [_, _, _, _, _, _, _]) rfl rfl rfl rfl rfl rfl Tryd.call37 (ll_num _) [] [] rfl rfl ?_
             rintro v post ⟨rfl, rfl⟩
             show G _ _ _ [_, _, _, _, _, _, _] _
             refine G_val rfl rfl rfl rfl (V_eql rfl rfl rfl) ?_
             refine G_val rfl rfl rfl rfl (V_pickT rfl rfl rfl) ?_
             refine G_val rfl rfl rfl rfl (V_move rfl rfl) ?_
             refine G_splitD 41 rfl (fun hc2 => ?_) (fun hc2 => ?_)
             rotate_left
             · (first | (exact absurd rfl hc2) | (exfalso; omega) | (exfalso; simp at hc2; done))
             refine G_val rfl rfl rfl rfl (V_move rfl rfl) ?_
             refine G_call (L2 := [_, _, _, _, _, _, _]) rfl rfl rfl rfl rfl rfl Tryd.call37 (ll_num _) [] [] rfl rfl ?_
             rintro v post ⟨rfl, rfl⟩
             show G _ _ _ [_, _, _, _, _, _, _] _
             refine G_val rfl rfl rfl rfl (V_eql rfl rfl rfl) ?_
             refine G_val rfl rfl rfl rfl (V_pickT rfl rfl rfl) ?_
             refine G_val rfl rfl rfl rfl (V_move rfl rfl) ?_
             refine G_splitD 46 rfl (fun hc3 => ?_) (fun hc3 => ?_)
             rotate_left
             · (first | (exact absurd rfl hc3) | (exfalso; omega) | (exfalso; simp at hc3; done))
             refine G_val rfl rfl rfl rfl (V_move rfl rfl) ?_
             refine G_call (L2 := [_, _, _, _, _, _, _]) rfl rfl rfl rfl rfl rfl Tryd.call37 (ll_num _) [] [] rfl rfl ?_
             rintro v post ⟨rfl, rfl⟩
             show G _ _ _ [_, _, _, _, _, _, _] _
             refine G_val rfl rfl rfl rfl (V_eql rfl rfl rfl) ?_
             refine G_val rfl rfl rfl rfl (V_pickT rfl rfl rfl) ?_
             refine G_val rfl rfl rfl rfl (V_move rfl rfl) ?_
             refine G_splitD 51 rfl (fun hc4 => ?_) (fun hc4 => ?_)
             rotate_left
             · (first | (exact absurd rfl hc4) | (exfalso; omega) | (exfalso; simp at hc4; done))
             refine G_val rfl rfl rfl rfl (V_move rfl rfl) ?_
             refine G_call (L2 := [_, _, _, _, _, _, _]) rfl rfl rfl rfl rfl rfl Tryd.call44 (lg_at d g 2 5 7 3) [] [1] rfl rfl ?_
             rintro v post ⟨rfl, rfl⟩
             show G _ _ _ [_, _, _, _, _, _, _] _
             refine G_val rfl rfl rfl rfl (V_eql rfl rfl rfl) ?_
             refine G_val rfl rfl rfl rfl (V_pickT rfl rfl rfl) ?_
             refine G_val rfl rfl rfl rfl (V_move rfl rfl) ?_
             refine G_splitD 56 rfl (fun hc5 => ?_) (fun hc5 => ?_)
             rotate_left
             · (first | (exact absurd rfl hc5) | (exfalso; omega) | (exfalso; simp at hc5; done))
             refine G_val rfl rfl rfl rfl (V_move rfl rfl) ?_
             refine G_call (L2 := [_, _, _, _, _, _, _]) rfl rfl rfl rfl rfl rfl Tryd.call45 (lg_room d g 2 5 7 3 (by omega) (by omega) (by omega)) [] [1] rfl rfl ?_
             rintro v post ⟨rfl, rfl⟩
             show G _ _ _ [_, _, _, _, _, _, _] _
             refine G_val rfl rfl rfl rfl (V_eql rfl rfl rfl) ?_
             refine G_val rfl rfl rfl rfl (V_pickT rfl rfl rfl) ?_
             refine G_val rfl rfl rfl rfl (V_move rfl rfl) ?_
             refine G_splitD 61 rfl (fun hc6 => ?_) (fun hc6 => ?_)
             rotate_left
             · (first | (exact absurd rfl hc6) | (exfalso; omega) | (exfalso; simp at hc6; done))
             refine G_val rfl rfl rfl rfl (V_move rfl rfl) ?_
             refine G_val rfl rfl rfl rfl (V_len rfl rfl Tryd.underlying24 rfl) ?_
             refine G_val rfl rfl rfl rfl (V_eql rfl rfl rfl) ?_
             refine G_val rfl rfl rfl rfl (V_pickT rfl rfl rfl) ?_
             refine G_val rfl rfl rfl rfl (V_move rfl rfl) ?_
             refine G_splitD 66 rfl (fun hc7 => ?_) (fun hc7 => ?_)
             rotate_left
             · (first | (exact absurd rfl hc7) | (exfalso; omega) | (exfalso; simp at hc7; done))
             refine G_val rfl rfl rfl rfl (V_move rfl rfl) ?_
             refine G_val rfl rfl rfl rfl (V_eql rfl rfl rfl) ?_
             refine G_val rfl rfl rfl rfl (V_pickT rfl rfl rfl) ?_
             refine G_val rfl rfl rfl rfl (V_assign rfl rfl) ?_
             refine G_done ?_
             refine G_ret (post := []) Tryd.func34 rfl (RVs_cons (RV_tmp rfl) RVs_nil) [] rfl ?_
             dsimp only [packed]
             exact ⟨rfl, rfl⟩
       · skip
         refine GHop_val rfl rfl rfl rfl (V_bytesS (l := (zt 43)) rfl rfl Tryd.underlying27 Tryd.underlying5 Tryd.underlying9 (mem_at 0 rfl) (by rw [zt_len]) (zt_cells 43)) ?_
         refine GH_all [3] (by kernel_rfl) (by decide) ?_
         refine (And.intro ?_ trivial)
         · skip
           refine GHop_call (L2 := [_, _]) rfl rfl rfl rfl rfl rfl Tryd.call41 ((lg_append d 8 lb lcap lcs slNil (newD 8) h g 2 5 7 0 (zt 42) (by decide) (by omega) (by omega) (by omega) (new_W8) (by rw [zt_len]; omega)).weaken (fun v post h => by rw [lv1, lv2, lk1_eq] at h; exact h)) [2, 2, 2, 2] [] rfl rfl [] (by rintro v post ⟨rfl, lcs1, uw1, h1, rfl⟩; exact ⟨_, rfl⟩) ?_
           rintro v post ⟨rfl, lcs1, uw1, h1, rfl⟩
           show GH _ _ _ _ _ _ _ [_, _, _, _, _, _] _
           refine GH_all [7] (by kernel_rfl) (by decide) ?_
           refine (And.intro ?_ trivial)
           · skip
             refine GHop_call (L2 := [_, _]) rfl rfl rfl rfl rfl rfl Tryd.call41 ((lg_append d 8 lb lcap lcs1 uw1 lk1 h1 g 2 5 7 1 (zt 43) (by decide) (by omega) (by omega) (by omega) (by omega) (by rw [zt_len]; omega)).weaken (fun v post h => by rw [lv3, lv4, lk2_eq] at h; exact h)) [0, 0, 0, 0] [] rfl rfl [] (by rintro v post ⟨rfl, lcs1, uw1, h1, rfl⟩; exact ⟨_, rfl⟩) ?_
             rintro v post ⟨rfl, lcs1, uw1, h1, rfl⟩
             show GH _ _ _ _ _ _ _ [_, _, _, _, _, _] _
             refine GH_take 8 rfl rfl rfl rfl (by kernel_rfl) (by kernel_rfl) (by kernel_rfl) (fun _ _ => (V_assign rfl rfl)) ?_
             refine GH_take 9 rfl rfl rfl rfl (by kernel_rfl) (by kernel_rfl) (by kernel_rfl) (fun _ _ => (V_assign rfl rfl)) ?_
             refine GH_done (by kernel_rfl) ?_
             refine G_seq ?_
             refine G_region (l := [0, 1, 2, 3, 4, 5, 6, 7, 8]) rfl ?_
             refine G_val rfl rfl rfl rfl (V_move rfl rfl) ?_
             refine G_call (L2 := [_, _, _, _, _, _]) rfl rfl rfl rfl rfl rfl Tryd.call48 ((lg_replay d 8 lb lcap lcs1 uw1 lk2 h1 2 5 1 9 (by decide) lv5 (by omega) (by omega) (by omega)).weaken (fun v post h => by rw [show (5 : Int).toNat = 5 from rfl, lv7] at h; exact h)) [] [1, 2, 3] rfl rfl ?_
             rintro v post ⟨ur, hur, rfl, rfl⟩
             show G _ _ _ [_, _, _, _, _, _, _] _
             refine G_val rfl rfl rfl rfl (V_move rfl rfl) ?_
             refine G_val rfl rfl rfl rfl (V_extract rfl rfl rfl) ?_
             refine G_val rfl rfl rfl rfl (V_extract rfl rfl rfl) ?_
             refine G_val rfl rfl rfl rfl (V_extract rfl rfl rfl) ?_
             refine G_val rfl rfl rfl rfl (V_assign rfl rfl) ?_
             refine G_val rfl rfl rfl rfl (V_assign rfl rfl) ?_
             refine G_val rfl rfl rfl rfl (V_assign rfl rfl) ?_
             refine G_done ?_
             refine G_seq ?_
             refine G_region (l := [0, 1, 2, 3, 4, 5, 6, 7, 8, 9, 10, 11, 12, 13, 14, 15, 16, 17, 18, 19, 20, 21, 22, 23, 24, 25, 26, 27, 28, 29, 30, 31, 32, 33, 34, 35, 36, 37]) rfl ?_
             refine G_val rfl rfl rfl rfl (V_move rfl rfl) ?_
             refine G_call (L2 := [_, _, _, _, _, _, _]) rfl rfl rfl rfl rfl rfl Tryd.call37 (ll_num _) [] [] rfl rfl ?_
             rintro v post ⟨rfl, rfl⟩
             show G _ _ _ [_, _, _, _, _, _, _] _
             refine G_val rfl rfl rfl rfl (V_eql rfl rfl rfl) ?_
             refine G_val rfl rfl rfl rfl (V_move rfl rfl) ?_
             refine G_splitD 36 rfl (fun hc1 => ?_) (fun hc1 => ?_)
             rotate_left
             · (first | (exact absurd rfl hc1) | (exfalso; omega) | (exfalso; simp at hc1; done))
             refine G_val rfl rfl rfl rfl (V_move rfl rfl) ?_
             refine G_call (L2 := [_, _, _, _, _, _, _]) rfl rfl rfl rfl rfl rfl Tryd.call37 (ll_num _) [] [] rfl rfl ?_
             rintro v post ⟨rfl, rfl⟩
             show G _ _ _ [_, _, _, _, _, _, _] _
             refine G_val rfl rfl rfl rfl (V_eql rfl rfl rfl) ?_
             refine G_val rfl rfl rfl rfl (V_pickT rfl rfl rfl) ?_
             refine G_val rfl rfl rfl rfl (V_move rfl rfl) ?_
             refine G_splitD 41 rfl (fun hc2 => ?_) (fun hc2 => ?_)
             rotate_left
             · (first | (exact absurd rfl hc2) | (exfalso; omega) | (exfalso; simp at hc2; done))
             refine G_val rfl rfl rfl rfl (V_move rfl rfl) ?_
             refine G_call (L2 := [_, _, _, _, _, _, _]) rfl rfl rfl rfl rfl rfl Tryd.call37 (ll_num _) [] [] rfl rfl ?_
             rintro v post ⟨rfl, rfl⟩
             show G _ _ _ [_, _, _, _, _, _, _] _
             refine G_val rfl rfl rfl rfl (V_eql rfl rfl rfl) ?_
             refine G_val rfl rfl rfl rfl (V_pickT rfl rfl rfl) ?_
             refine G_val rfl rfl rfl rfl (V_move rfl rfl) ?_
             refine G_splitD 46 rfl (fun hc3 => ?_) (fun hc3 => ?_)
             rotate_left
             · (first | (exact absurd rfl hc3) | (exfalso; omega) | (exfalso; simp at hc3; done))
             refine G_val rfl rfl rfl rfl (V_move rfl rfl) ?_
             refine G_call (L2 := [_, _, _, _, _, _, _]) rfl rfl rfl rfl rfl rfl Tryd.call37 (ll_num _) [] [] rfl rfl ?_
             rintro v post ⟨rfl, rfl⟩
             show G _ _ _ [_, _, _, _, _, _, _] _
             refine G_val rfl rfl rfl rfl (V_eql rfl rfl rfl) ?_
             refine G_val rfl rfl rfl rfl (V_pickT rfl rfl rfl) ?_
             refine G_val rfl rfl rfl rfl (V_move rfl rfl) ?_
             refine G_splitD 51 rfl (fun hc4 => ?_) (fun hc4 => ?_)
             rotate_left
             · (first | (exact absurd rfl hc4) | (exfalso; omega) | (exfalso; simp at hc4; done))
             refine G_val rfl rfl rfl rfl (V_move rfl rfl) ?_
             refine G_call (L2 := [_, _, _, _, _, _, _]) rfl rfl rfl rfl rfl rfl Tryd.call44 (lg_at d g 2 5 7 3) [] [1] rfl rfl ?_
             rintro v post ⟨rfl, rfl⟩
             show G _ _ _ [_, _, _, _, _, _, _] _
             refine G_val rfl rfl rfl rfl (V_eql rfl rfl rfl) ?_
             refine G_val rfl rfl rfl rfl (V_pickT rfl rfl rfl) ?_
             refine G_val rfl rfl rfl rfl (V_move rfl rfl) ?_
             refine G_splitD 56 rfl (fun hc5 => ?_) (fun hc5 => ?_)
             rotate_left
             · (first | (exact absurd rfl hc5) | (exfalso; omega) | (exfalso; simp at hc5; done))
             refine G_val rfl rfl rfl rfl (V_move rfl rfl) ?_
             refine G_call (L2 := [_, _, _, _, _, _, _]) rfl rfl rfl rfl rfl rfl Tryd.call45 (lg_room d g 2 5 7 3 (by omega) (by omega) (by omega)) [] [1] rfl rfl ?_
             rintro v post ⟨rfl, rfl⟩
             show G _ _ _ [_, _, _, _, _, _, _] _
             refine G_val rfl rfl rfl rfl (V_eql rfl rfl rfl) ?_
             refine G_val rfl rfl rfl rfl (V_pickT rfl rfl rfl) ?_
             refine G_val rfl rfl rfl rfl (V_move rfl rfl) ?_
             refine G_splitD 61 rfl (fun hc6 => ?_) (fun hc6 => ?_)
             rotate_left
             · (first | (exact absurd rfl hc6) | (exfalso; omega) | (exfalso; simp at hc6; done))
             refine G_val rfl rfl rfl rfl (V_move rfl rfl) ?_
             refine G_val rfl rfl rfl rfl (V_len rfl rfl Tryd.underlying24 rfl) ?_
             refine G_val rfl rfl rfl rfl (V_eql rfl rfl rfl) ?_
             refine G_val rfl rfl rfl rfl (V_pickT rfl rfl rfl) ?_
             refine G_val rfl rfl rfl rfl (V_move rfl rfl) ?_
             refine G_splitD 66 rfl (fun hc7 => ?_) (fun hc7 => ?_)
             rotate_left
             · (first | (exact absurd rfl hc7) | (exfalso; omega) | (exfalso; simp at hc7; done))
             refine G_val rfl rfl rfl rfl (V_move rfl rfl) ?_
             refine G_val rfl rfl rfl rfl (V_eql rfl rfl rfl) ?_
             refine G_val rfl rfl rfl rfl (V_pickT rfl rfl rfl) ?_
             refine G_val rfl rfl rfl rfl (V_assign rfl rfl) ?_
             refine G_done ?_
             refine G_ret (post := []) Tryd.func34 rfl (RVs_cons (RV_tmp rfl) RVs_nil) [] rfl ?_
             dsimp only [packed]
             exact ⟨rfl, rfl⟩
   · skip
     refine GHop_new rfl rfl rfl rfl (N_make (l := 43) (m := 43) rfl Tryd.underlying27 infLogL_5 rfl rfl rfl rfl rfl rfl rfl (by first | decide | omega) (by first | decide | omega | (show 1 * _ ≤ _; omega)) (by first | decide | omega)) [] (fun _ => ⟨_, rfl⟩) (fun b24 => ?_)
     refine GH_all [2, 6] (by kernel_rfl) (by decide) ?_
     refine (And.intro ?_ (And.intro ?_ trivial))
     · skip
       refine GHop_val rfl rfl rfl rfl (V_bytesS (l := (zt 42)) rfl rfl Tryd.underlying27 Tryd.underlying5 Tryd.underlying9 (mem_at 1 rfl) (by rw [zt_len]) (zt_cells 42)) ?_
       refine GH_all [3, 6] (by kernel_rfl) (by decide) ?_
       refine (And.intro ?_ (And.intro ?_ trivial))
       · skip
         refine GHop_call (L2 := [_, _]) rfl rfl rfl rfl rfl rfl Tryd.call41 ((lg_append d 8 lb lcap lcs slNil (newD 8) h g 2 5 7 0 (zt 42) (by decide) (by omega) (by omega) (by omega) (new_W8) (by rw [zt_len]; omega)).weaken (fun v post h => by rw [lv1, lv2, lk1_eq] at h; exact h)) [2, 2, 2, 2] [] rfl rfl [] (by rintro v post ⟨rfl, lcs1, uw1, h1, rfl⟩; exact ⟨_, rfl⟩) ?_
         rintro v post ⟨rfl, lcs1, uw1, h1, rfl⟩
         show GH _ _ _ _ _ _ _ [_, _, _, _, _, _] _
         refine GH_all [6] (by kernel_rfl) (by decide) ?_
         refine (And.intro ?_ trivial)
         · skip
           refine GHop_val rfl rfl rfl rfl (V_bytesS (l := (zt 43)) rfl rfl Tryd.underlying27 Tryd.underlying5 Tryd.underlying9 (mem_at 4 rfl) (by rw [zt_len]) (zt_cells 43)) ?_
           refine GH_all [7] (by kernel_rfl) (by decide) ?_
           refine (And.intro ?_ trivial)
           · skip
             refine GHop_call (L2 := [_, _]) rfl rfl rfl rfl rfl rfl Tryd.call41 ((lg_append d 8 lb lcap lcs1 uw1 lk1 h1 g 2 5 7 1 (zt 43) (by decide) (by omega) (by omega) (by omega) (by omega) (by rw [zt_len]; omega)).weaken (fun v post h => by rw [lv3, lv4, lk2_eq] at h; exact h)) [0, 0, 0, 0] [] rfl rfl [] (by rintro v post ⟨rfl, lcs1, uw1, h1, rfl⟩; exact ⟨_, rfl⟩) ?_
             rintro v post ⟨rfl, lcs1, uw1, h1, rfl⟩
             show GH _ _ _ _ _ _ _ [_, _, _, _, _, _] _
             refine GH_take 8 rfl rfl rfl rfl (by kernel_rfl) (by kernel_rfl) (by kernel_rfl) (fun _ _ => (V_assign rfl rfl)) ?_
             refine GH_take 9 rfl rfl rfl rfl (by kernel_rfl) (by kernel_rfl) (by kernel_rfl) (fun _ _ => (V_assign rfl rfl)) ?_
             refine GH_done (by kernel_rfl) ?_
             refine G_seq ?_
             refine G_region (l := [0, 1, 2, 3, 4, 5, 6, 7, 8]) rfl ?_
             refine G_val rfl rfl rfl rfl (V_move rfl rfl) ?_
             refine G_call (L2 := [_, _, _, _, _, _]) rfl rfl rfl rfl rfl rfl Tryd.call48 ((lg_replay d 8 lb lcap lcs1 uw1 lk2 h1 2 5 1 9 (by decide) lv5 (by omega) (by omega) (by omega)).weaken (fun v post h => by rw [show (5 : Int).toNat = 5 from rfl, lv7] at h; exact h)) [] [1, 2, 3] rfl rfl ?_
             rintro v post ⟨ur, hur, rfl, rfl⟩
             show G _ _ _ [_, _, _, _, _, _, _] _
             refine G_val rfl rfl rfl rfl (V_move rfl rfl) ?_
             refine G_val rfl rfl rfl rfl (V_extract rfl rfl rfl) ?_
             refine G_val rfl rfl rfl rfl (V_extract rfl rfl rfl) ?_
             refine G_val rfl rfl rfl rfl (V_extract rfl rfl rfl) ?_
             refine G_val rfl rfl rfl rfl (V_assign rfl rfl) ?_
             refine G_val rfl rfl rfl rfl (V_assign rfl rfl) ?_
             refine G_val rfl rfl rfl rfl (V_assign rfl rfl) ?_
             refine G_done ?_
             refine G_seq ?_
             refine G_region (l := [0, 1, 2, 3, 4, 5, 6, 7, 8, 9, 10, 11, 12, 13, 14, 15, 16, 17, 18, 19, 20, 21, 22, 23, 24, 25, 26, 27, 28, 29, 30, 31, 32, 33, 34, 35, 36, 37]) rfl ?_
             refine G_val rfl rfl rfl rfl (V_move rfl rfl) ?_
             refine G_call (L2 := [_, _, _, _, _, _, _]) rfl rfl rfl rfl rfl rfl Tryd.call37 (ll_num _) [] [] rfl rfl ?_
             rintro v post ⟨rfl, rfl⟩
             show G _ _ _ [_, _, _, _, _, _, _] _
             refine G_val rfl rfl rfl rfl (V_eql rfl rfl rfl) ?_
             refine G_val rfl rfl rfl rfl (V_move rfl rfl) ?_
             refine G_splitD 36 rfl (fun hc1 => ?_) (fun hc1 => ?_)
             rotate_left
             · (first | (exact absurd rfl hc1) | (exfalso; omega) | (exfalso; simp at hc1; done))
             refine G_val rfl rfl rfl rfl (V_move rfl rfl) ?_
             refine G_call (L2 := [_, _, _, _, _, _, _]) rfl rfl rfl rfl rfl rfl Tryd.call37 (ll_num _) [] [] rfl rfl ?_
             rintro v post ⟨rfl, rfl⟩
             show G _ _ _ [_, _, _, _, _, _, _] _
             refine G_val rfl rfl rfl rfl (V_eql rfl rfl rfl) ?_
             refine G_val rfl rfl rfl rfl (V_pickT rfl rfl rfl) ?_
             refine G_val rfl rfl rfl rfl (V_move rfl rfl) ?_
             refine G_splitD 41 rfl (fun hc2 => ?_) (fun hc2 => ?_)
             rotate_left
             · (first | (exact absurd rfl hc2) | (exfalso; omega) | (exfalso; simp at hc2; done))
             refine G_val rfl rfl rfl rfl (V_move rfl rfl) ?_
             refine G_call (L2 := [_, _, _, _, _, _, _]) rfl rfl rfl rfl rfl rfl Tryd.call37 (ll_num _) [] [] rfl rfl ?_
             rintro v post ⟨rfl, rfl⟩
             show G _ _ _ [_, _, _, _, _, _, _] _
             refine G_val rfl rfl rfl rfl (V_eql rfl rfl rfl) ?_
             refine G_val rfl rfl rfl rfl (V_pickT rfl rfl rfl) ?_
             refine G_val rfl rfl rfl rfl (V_move rfl rfl) ?_
             refine G_splitD 46 rfl (fun hc3 => ?_) (fun hc3 => ?_)
             rotate_left
             · (first | (exact absurd rfl hc3) | (exfalso; omega) | (exfalso; simp at hc3; done))
             refine G_val rfl rfl rfl rfl (V_move rfl rfl) ?_
             refine G_call (L2 := [_, _, _, _, _, _, _]) rfl rfl rfl rfl rfl rfl Tryd.call37 (ll_num _) [] [] rfl rfl ?_
             rintro v post ⟨rfl, rfl⟩
             show G _ _ _ [_, _, _, _, _, _, _] _
             refine G_val rfl rfl rfl rfl (V_eql rfl rfl rfl) ?_
             refine G_val rfl rfl rfl rfl (V_pickT rfl rfl rfl) ?_
             refine G_val rfl rfl rfl rfl (V_move rfl rfl) ?_
             refine G_splitD 51 rfl (fun hc4 => ?_) (fun hc4 => ?_)
             rotate_left
             · (first | (exact absurd rfl hc4) | (exfalso; omega) | (exfalso; simp at hc4; done))
             refine G_val rfl rfl rfl rfl (V_move rfl rfl) ?_
             refine G_call (L2 := [_, _, _, _, _, _, _]) rfl rfl rfl rfl rfl rfl Tryd.call44 (lg_at d g 2 5 7 3) [] [1] rfl rfl ?_
             rintro v post ⟨rfl, rfl⟩
             show G _ _ _ [_, _, _, _, _, _, _] _
             refine G_val rfl rfl rfl rfl (V_eql rfl rfl rfl) ?_
             refine G_val rfl rfl rfl rfl (V_pickT rfl rfl rfl) ?_
             refine G_val rfl rfl rfl rfl (V_move rfl rfl) ?_
             refine G_splitD 56 rfl (fun hc5 => ?_) (fun hc5 => ?_)
             rotate_left
             · (first | (exact absurd rfl hc5) | (exfalso; omega) | (exfalso; simp at hc5; done))
             refine G_val rfl rfl rfl rfl (V_move rfl rfl) ?_
             refine G_call (L2 := [_, _, _, _, _, _, _]) rfl rfl rfl rfl rfl rfl Tryd.call45 (lg_room d g 2 5 7 3 (by omega) (by omega) (by omega)) [] [1] rfl rfl ?_
             rintro v post ⟨rfl, rfl⟩
             show G _ _ _ [_, _, _, _, _, _, _] _
             refine G_val rfl rfl rfl rfl (V_eql rfl rfl rfl) ?_
             refine G_val rfl rfl rfl rfl (V_pickT rfl rfl rfl) ?_
             refine G_val rfl rfl rfl rfl (V_move rfl rfl) ?_
             refine G_splitD 61 rfl (fun hc6 => ?_) (fun hc6 => ?_)
             rotate_left
             · (first | (exact absurd rfl hc6) | (exfalso; omega) | (exfalso; simp at hc6; done))
             refine G_val rfl rfl rfl rfl (V_move rfl rfl) ?_
             refine G_val rfl rfl rfl rfl (V_len rfl rfl Tryd.underlying24 rfl) ?_
             refine G_val rfl rfl rfl rfl (V_eql rfl rfl rfl) ?_
             refine G_val rfl rfl rfl rfl (V_pickT rfl rfl rfl) ?_
             refine G_val rfl rfl rfl rfl (V_move rfl rfl) ?_
             refine G_splitD 66 rfl (fun hc7 => ?_) (fun hc7 => ?_)
             rotate_left
             · (first | (exact absurd rfl hc7) | (exfalso; omega) | (exfalso; simp at hc7; done))
             refine G_val rfl rfl rfl rfl (V_move rfl rfl) ?_
             refine G_val rfl rfl rfl rfl (V_eql rfl rfl rfl) ?_
             refine G_val rfl rfl rfl rfl (V_pickT rfl rfl rfl) ?_
             refine G_val rfl rfl rfl rfl (V_assign rfl rfl) ?_
             refine G_done ?_
             refine G_ret (post := []) Tryd.func34 rfl (RVs_cons (RV_tmp rfl) RVs_nil) [] rfl ?_
             dsimp only [packed]
             exact ⟨rfl, rfl⟩
       · skip
         refine GHop_val rfl rfl rfl rfl (V_bytesS (l := (zt 43)) rfl rfl Tryd.underlying27 Tryd.underlying5 Tryd.underlying9 (mem_at 0 rfl) (by rw [zt_len]) (zt_cells 43)) ?_
         refine GH_all [3] (by kernel_rfl) (by decide) ?_
         refine (And.intro ?_ trivial)
         · skip
           refine GHop_call (L2 := [_, _]) rfl rfl rfl rfl rfl rfl Tryd.call41 ((lg_append d 8 lb lcap lcs slNil (newD 8) h g 2 5 7 0 (zt 42) (by decide) (by omega) (by omega) (by omega) (new_W8) (by rw [zt_len]; omega)).weaken (fun v post h => by rw [lv1, lv2, lk1_eq] at h; exact h)) [2, 2, 2, 2] [] rfl rfl [] (by rintro v post ⟨rfl, lcs1, uw1, h1, rfl⟩; exact ⟨_, rfl⟩) ?_
           rintro v post ⟨rfl, lcs1, uw1, h1, rfl⟩
           show GH _ _ _ _ _ _ _ [_, _, _, _, _, _] _
           refine GH_all [7] (by kernel_rfl) (by decide) ?_
           refine (And.intro ?_ trivial)
           · skip
             refine GHop_call (L2 := [_, _]) rfl rfl rfl rfl rfl rfl Tryd.call41 ((lg_append d 8 lb lcap lcs1 uw1 lk1 h1 g 2 5 7 1 (zt 43) (by decide) (by omega) (by omega) (by omega) (by omega) (by rw [zt_len]; omega)).weaken (fun v post h => by rw [lv3, lv4, lk2_eq] at h; exact h)) [0, 0, 0, 0] [] rfl rfl [] (by rintro v post ⟨rfl, lcs1, uw1, h1, rfl⟩; exact ⟨_, rfl⟩) ?_
             rintro v post ⟨rfl, lcs1, uw1, h1, rfl⟩
             show GH _ _ _ _ _ _ _ [_, _, _, _, _, _] _
             refine GH_take 8 rfl rfl rfl rfl (by kernel_rfl) (by kernel_rfl) (by kernel_rfl) (fun _ _ => (V_assign rfl rfl)) ?_
             refine GH_take 9 rfl rfl rfl rfl (by kernel_rfl) (by kernel_rfl) (by kernel_rfl) (fun _ _ => (V_assign rfl rfl)) ?_
             refine GH_done (by kernel_rfl) ?_
             refine G_seq ?_
             refine G_region (l := [0, 1, 2, 3, 4, 5, 6, 7, 8]) rfl ?_
             refine G_val rfl rfl rfl rfl (V_move rfl rfl) ?_
             refine G_call (L2 := [_, _, _, _, _, _]) rfl rfl rfl rfl rfl rfl Tryd.call48 ((lg_replay d 8 lb lcap lcs1 uw1 lk2 h1 2 5 1 9 (by decide) lv5 (by omega) (by omega) (by omega)).weaken (fun v post h => by rw [show (5 : Int).toNat = 5 from rfl, lv7] at h; exact h)) [] [1, 2, 3] rfl rfl ?_
             rintro v post ⟨ur, hur, rfl, rfl⟩
             show G _ _ _ [_, _, _, _, _, _, _] _
             refine G_val rfl rfl rfl rfl (V_move rfl rfl) ?_
             refine G_val rfl rfl rfl rfl (V_extract rfl rfl rfl) ?_
             refine G_val rfl rfl rfl rfl (V_extract rfl rfl rfl) ?_
             refine G_val rfl rfl rfl rfl (V_extract rfl rfl rfl) ?_
             refine G_val rfl rfl rfl rfl (V_assign rfl rfl) ?_
             refine G_val rfl rfl rfl rfl (V_assign rfl rfl) ?_
             refine G_val rfl rfl rfl rfl (V_assign rfl rfl) ?_
             refine G_done ?_
             refine G_seq ?_
             refine G_region (l := [0, 1, 2, 3, 4, 5, 6, 7, 8, 9, 10, 11, 12, 13, 14, 15, 16, 17, 18, 19, 20, 21, 22, 23, 24, 25, 26, 27, 28, 29, 30, 31, 32, 33, 34, 35, 36, 37]) rfl ?_
             refine G_val rfl rfl rfl rfl (V_move rfl rfl) ?_
             refine G_call (L2 := [_, _, _, _, _, _, _]) rfl rfl rfl rfl rfl rfl Tryd.call37 (ll_num _) [] [] rfl rfl ?_
             rintro v post ⟨rfl, rfl⟩
             show G _ _ _ [_, _, _, _, _, _, _] _
             refine G_val rfl rfl rfl rfl (V_eql rfl rfl rfl) ?_
             refine G_val rfl rfl rfl rfl (V_move rfl rfl) ?_
             refine G_splitD 36 rfl (fun hc1 => ?_) (fun hc1 => ?_)
             rotate_left
             · (first | (exact absurd rfl hc1) | (exfalso; omega) | (exfalso; simp at hc1; done))
             refine G_val rfl rfl rfl rfl (V_move rfl rfl) ?_
             refine G_call (L2 := [_, _, _, _, _, _, _]) rfl rfl rfl rfl rfl rfl Tryd.call37 (ll_num _) [] [] rfl rfl ?_
             rintro v post ⟨rfl, rfl⟩
             show G _ _ _ [_, _, _, _, _, _, _] _
             refine G_val rfl rfl rfl rfl (V_eql rfl rfl rfl) ?_
             refine G_val rfl rfl rfl rfl (V_pickT rfl rfl rfl) ?_
             refine G_val rfl rfl rfl rfl (V_move rfl rfl) ?_
             refine G_splitD 41 rfl (fun hc2 => ?_) (fun hc2 => ?_)
             rotate_left
             · (first | (exact absurd rfl hc2) | (exfalso; omega) | (exfalso; simp at hc2; done))
             refine G_val rfl rfl rfl rfl (V_move rfl rfl) ?_
             refine G_call (L2 := [_, _, _, _, _, _, _]) rfl rfl rfl rfl rfl rfl Tryd.call37 (ll_num _) [] [] rfl rfl ?_
             rintro v post ⟨rfl, rfl⟩
             show G _ _ _ [_, _, _, _, _, _, _] _
             refine G_val rfl rfl rfl rfl (V_eql rfl rfl rfl) ?_
             refine G_val rfl rfl rfl rfl (V_pickT rfl rfl rfl) ?_
             refine G_val rfl rfl rfl rfl (V_move rfl rfl) ?_
             refine G_splitD 46 rfl (fun hc3 => ?_) (fun hc3 => ?_)
             rotate_left
             · (first | (exact absurd rfl hc3) | (exfalso; omega) | (exfalso; simp at hc3; done))
             refine G_val rfl rfl rfl rfl (V_move rfl rfl) ?_
             refine G_call (L2 := [_, _, _, _, _, _, _]) rfl rfl rfl rfl rfl rfl Tryd.call37 (ll_num _) [] [] rfl rfl ?_
             rintro v post ⟨rfl, rfl⟩
             show G _ _ _ [_, _, _, _, _, _, _] _
             refine G_val rfl rfl rfl rfl (V_eql rfl rfl rfl) ?_
             refine G_val rfl rfl rfl rfl (V_pickT rfl rfl rfl) ?_
             refine G_val rfl rfl rfl rfl (V_move rfl rfl) ?_
             refine G_splitD 51 rfl (fun hc4 => ?_) (fun hc4 => ?_)
             rotate_left
             · (first | (exact absurd rfl hc4) | (exfalso; omega) | (exfalso; simp at hc4; done))
             refine G_val rfl rfl rfl rfl (V_move rfl rfl) ?_
             refine G_call (L2 := [_, _, _, _, _, _, _]) rfl rfl rfl rfl rfl rfl Tryd.call44 (lg_at d g 2 5 7 3) [] [1] rfl rfl ?_
             rintro v post ⟨rfl, rfl⟩
             show G _ _ _ [_, _, _, _, _, _, _] _
             refine G_val rfl rfl rfl rfl (V_eql rfl rfl rfl) ?_
             refine G_val rfl rfl rfl rfl (V_pickT rfl rfl rfl) ?_
             refine G_val rfl rfl rfl rfl (V_move rfl rfl) ?_
             refine G_splitD 56 rfl (fun hc5 => ?_) (fun hc5 => ?_)
             rotate_left
             · (first | (exact absurd rfl hc5) | (exfalso; omega) | (exfalso; simp at hc5; done))
             refine G_val rfl rfl rfl rfl (V_move rfl rfl) ?_
             refine G_call (L2 := [_, _, _, _, _, _, _]) rfl rfl rfl rfl rfl rfl Tryd.call45 (lg_room d g 2 5 7 3 (by omega) (by omega) (by omega)) [] [1] rfl rfl ?_
             rintro v post ⟨rfl, rfl⟩
             show G _ _ _ [_, _, _, _, _, _, _] _
             refine G_val rfl rfl rfl rfl (V_eql rfl rfl rfl) ?_
             refine G_val rfl rfl rfl rfl (V_pickT rfl rfl rfl) ?_
             refine G_val rfl rfl rfl rfl (V_move rfl rfl) ?_
             refine G_splitD 61 rfl (fun hc6 => ?_) (fun hc6 => ?_)
             rotate_left
             · (first | (exact absurd rfl hc6) | (exfalso; omega) | (exfalso; simp at hc6; done))
             refine G_val rfl rfl rfl rfl (V_move rfl rfl) ?_
             refine G_val rfl rfl rfl rfl (V_len rfl rfl Tryd.underlying24 rfl) ?_
             refine G_val rfl rfl rfl rfl (V_eql rfl rfl rfl) ?_
             refine G_val rfl rfl rfl rfl (V_pickT rfl rfl rfl) ?_
             refine G_val rfl rfl rfl rfl (V_move rfl rfl) ?_
             refine G_splitD 66 rfl (fun hc7 => ?_) (fun hc7 => ?_)
             rotate_left
             · (first | (exact absurd rfl hc7) | (exfalso; omega) | (exfalso; simp at hc7; done))
             refine G_val rfl rfl rfl rfl (V_move rfl rfl) ?_
             refine G_val rfl rfl rfl rfl (V_eql rfl rfl rfl) ?_
             refine G_val rfl rfl rfl rfl (V_pickT rfl rfl rfl) ?_
             refine G_val rfl rfl rfl rfl (V_assign rfl rfl) ?_
             refine G_done ?_
             refine G_ret (post := []) Tryd.func34 rfl (RVs_cons (RV_tmp rfl) RVs_nil) [] rfl ?_
             dsimp only [packed]
             exact ⟨rfl, rfl⟩
     · skip
       refine GHop_val rfl rfl rfl rfl (V_bytesS (l := (zt 43)) rfl rfl Tryd.underlying27 Tryd.underlying5 Tryd.underlying9 (mem_at 0 rfl) (by rw [zt_len]) (zt_cells 43)) ?_
       refine GH_all [2] (by kernel_rfl) (by decide) ?_
       refine (And.intro ?_ trivial)
       · skip
         refine GHop_val rfl rfl rfl rfl (V_bytesS (l := (zt 42)) rfl rfl Tryd.underlying27 Tryd.underlying5 Tryd.underlying9 (mem_at 1 rfl) (by rw [zt_len]) (zt_cells 42)) ?_
         refine GH_all [3] (by kernel_rfl) (by decide) ?_
         refine (And.intro ?_ trivial)
         · skip
           refine GHop_call (L2 := [_, _]) rfl rfl rfl rfl rfl rfl Tryd.call41 ((lg_append d 8 lb lcap lcs slNil (newD 8) h g 2 5 7 0 (zt 42) (by decide) (by omega) (by omega) (by omega) (new_W8) (by rw [zt_len]; omega)).weaken (fun v post h => by rw [lv1, lv2, lk1_eq] at h; exact h)) [2, 2, 2, 2] [] rfl rfl [] (by rintro v post ⟨rfl, lcs1, uw1, h1, rfl⟩; exact ⟨_, rfl⟩) ?_
           rintro v post ⟨rfl, lcs1, uw1, h1, rfl⟩
           show GH _ _ _ _ _ _ _ [_, _, _, _, _, _] _
           refine GH_all [7] (by kernel_rfl) (by decide) ?_
           refine (And.intro ?_ trivial)
           · skip
             refine GHop_call (L2 := [_, _]) rfl rfl rfl rfl rfl rfl Tryd.call41 ((lg_append d 8 lb lcap lcs1 uw1 lk1 h1 g 2 5 7 1 (zt 43) (by decide) (by omega) (by omega) (by omega) (by omega) (by rw [zt_len]; omega)).weaken (fun v post h => by rw [lv3, lv4, lk2_eq] at h; exact h)) [0, 0, 0, 0] [] rfl rfl [] (by rintro v post ⟨rfl, lcs1, uw1, h1, rfl⟩; exact ⟨_, rfl⟩) ?_
             rintro v post ⟨rfl, lcs1, uw1, h1, rfl⟩
             show GH _ _ _ _ _ _ _ [_, _, _, _, _, _] _
             refine GH_take 8 rfl rfl rfl rfl (by kernel_rfl) (by kernel_rfl) (by kernel_rfl) (fun _ _ => (V_assign rfl rfl)) ?_
             refine GH_take 9 rfl rfl rfl rfl (by kernel_rfl) (by kernel_rfl) (by kernel_rfl) (fun _ _ => (V_assign rfl rfl)) ?_
             refine GH_done (by kernel_rfl) ?_
             refine G_seq ?_
             refine G_region (l := [0, 1, 2, 3, 4, 5, 6, 7, 8]) rfl ?_
             refine G_val rfl rfl rfl rfl (V_move rfl rfl) ?_
             refine G_call (L2 := [_, _, _, _, _, _]) rfl rfl rfl rfl rfl rfl Tryd.call48 ((lg_replay d 8 lb lcap lcs1 uw1 lk2 h1 2 5 1 9 (by decide) lv5 (by omega) (by omega) (by omega)).weaken (fun v post h => by rw [show (5 : Int).toNat = 5 from rfl, lv7] at h; exact h)) [] [1, 2, 3] rfl rfl ?_
             rintro v post ⟨ur, hur, rfl, rfl⟩
             show G _ _ _ [_, _, _, _, _, _, _] _
             refine G_val rfl rfl rfl rfl (V_move rfl rfl) ?_
             refine G_val rfl rfl rfl rfl (V_extract rfl rfl rfl) ?_
             refine G_val rfl rfl rfl rfl (V_extract rfl rfl rfl) ?_
             refine G_val rfl rfl rfl rfl (V_extract rfl rfl rfl) ?_
             refine G_val rfl rfl rfl rfl (V_assign rfl rfl) ?_
             refine G_val rfl rfl rfl rfl (V_assign rfl rfl) ?_
             refine G_val rfl rfl rfl rfl (V_assign rfl rfl) ?_
             refine G_done ?_
             refine G_seq ?_
             refine G_region (l := [0, 1, 2, 3, 4, 5, 6, 7, 8, 9, 10, 11, 12, 13, 14, 15, 16, 17, 18, 19, 20, 21, 22, 23, 24, 25, 26, 27, 28, 29, 30, 31, 32, 33, 34, 35, 36, 37]) rfl ?_
             refine G_val rfl rfl rfl rfl (V_move rfl rfl) ?_
             refine G_call (L2 := [_, _, _, _, _, _, _]) rfl rfl rfl rfl rfl rfl Tryd.call37 (ll_num _) [] [] rfl rfl ?_
             rintro v post ⟨rfl, rfl⟩
             show G _ _ _ [_, _, _, _, _, _, _] _
             refine G_val rfl rfl rfl rfl (V_eql rfl rfl rfl) ?_
             refine G_val rfl rfl rfl rfl (V_move rfl rfl) ?_
             refine G_splitD 36 rfl (fun hc1 => ?_) (fun hc1 => ?_)
             rotate_left
             · (first | (exact absurd rfl hc1) | (exfalso; omega) | (exfalso; simp at hc1; done))
             refine G_val rfl rfl rfl rfl (V_move rfl rfl) ?_
             refine G_call (L2 := [_, _, _, _, _, _, _]) rfl rfl rfl rfl rfl rfl Tryd.call37 (ll_num _) [] [] rfl rfl ?_
             rintro v post ⟨rfl, rfl⟩
             show G _ _ _ [_, _, _, _, _, _, _] _
             refine G_val rfl rfl rfl rfl (V_eql rfl rfl rfl) ?_
             refine G_val rfl rfl rfl rfl (V_pickT rfl rfl rfl) ?_
             refine G_val rfl rfl rfl rfl (V_move rfl rfl) ?_
             refine G_splitD 41 rfl (fun hc2 => ?_) (fun hc2 => ?_)
             rotate_left
             · (first | (exact absurd rfl hc2) | (exfalso; omega) | (exfalso; simp at hc2; done))
             refine G_val rfl rfl rfl rfl (V_move rfl rfl) ?_
             refine G_call (L2 := [_, _, _, _, _, _, _]) rfl rfl rfl rfl rfl rfl Tryd.call37 (ll_num _) [] [] rfl rfl ?_
             rintro v post ⟨rfl, rfl⟩
             show G _ _ _ [_, _, _, _, _, _, _] _
             refine G_val rfl rfl rfl rfl (V_eql rfl rfl rfl) ?_
             refine G_val rfl rfl rfl rfl (V_pickT rfl rfl rfl) ?_
             refine G_val rfl rfl rfl rfl (V_move rfl rfl) ?_
             refine G_splitD 46 rfl (fun hc3 => ?_) (fun hc3 => ?_)
             rotate_left
             · (first | (exact absurd rfl hc3) | (exfalso; omega) | (exfalso; simp at hc3; done))
             refine G_val rfl rfl rfl rfl (V_move rfl rfl) ?_
             refine G_call (L2 := [_, _, _, _, _, _, _]) rfl rfl rfl rfl rfl rfl Tryd.call37 (ll_num _) [] [] rfl rfl ?_
             rintro v post ⟨rfl, rfl⟩
             show G _ _ _ [_, _, _, _, _, _, _] _
             refine G_val rfl rfl rfl rfl (V_eql rfl rfl rfl) ?_
             refine G_val rfl rfl rfl rfl (V_pickT rfl rfl rfl) ?_
             refine G_val rfl rfl rfl rfl (V_move rfl rfl) ?_
             refine G_splitD 51 rfl (fun hc4 => ?_) (fun hc4 => ?_)
             rotate_left
             · (first | (exact absurd rfl hc4) | (exfalso; omega) | (exfalso; simp at hc4; done))
             refine G_val rfl rfl rfl rfl (V_move rfl rfl) ?_
             refine G_call (L2 := [_, _, _, _, _, _, _]) rfl rfl rfl rfl rfl rfl Tryd.call44 (lg_at d g 2 5 7 3) [] [1] rfl rfl ?_
             rintro v post ⟨rfl, rfl⟩
             show G _ _ _ [_, _, _, _, _, _, _] _
             refine G_val rfl rfl rfl rfl (V_eql rfl rfl rfl) ?_
             refine G_val rfl rfl rfl rfl (V_pickT rfl rfl rfl) ?_
             refine G_val rfl rfl rfl rfl (V_move rfl rfl) ?_
             refine G_splitD 56 rfl (fun hc5 => ?_) (fun hc5 => ?_)
             rotate_left
             · (first | (exact absurd rfl hc5) | (exfalso; omega) | (exfalso; simp at hc5; done))
             refine G_val rfl rfl rfl rfl (V_move rfl rfl) ?_
             refine G_call (L2 := [_, _, _, _, _, _, _]) rfl rfl rfl rfl rfl rfl Tryd.call45 (lg_room d g 2 5 7 3 (by omega) (by omega) (by omega)) [] [1] rfl rfl ?_
             rintro v post ⟨rfl, rfl⟩
             show G _ _ _ [_, _, _, _, _, _, _] _
             refine G_val rfl rfl rfl rfl (V_eql rfl rfl rfl) ?_
             refine G_val rfl rfl rfl rfl (V_pickT rfl rfl rfl) ?_
             refine G_val rfl rfl rfl rfl (V_move rfl rfl) ?_
             refine G_splitD 61 rfl (fun hc6 => ?_) (fun hc6 => ?_)
             rotate_left
             · (first | (exact absurd rfl hc6) | (exfalso; omega) | (exfalso; simp at hc6; done))
             refine G_val rfl rfl rfl rfl (V_move rfl rfl) ?_
             refine G_val rfl rfl rfl rfl (V_len rfl rfl Tryd.underlying24 rfl) ?_
             refine G_val rfl rfl rfl rfl (V_eql rfl rfl rfl) ?_
             refine G_val rfl rfl rfl rfl (V_pickT rfl rfl rfl) ?_
             refine G_val rfl rfl rfl rfl (V_move rfl rfl) ?_
             refine G_splitD 66 rfl (fun hc7 => ?_) (fun hc7 => ?_)
             rotate_left
             · (first | (exact absurd rfl hc7) | (exfalso; omega) | (exfalso; simp at hc7; done))
             refine G_val rfl rfl rfl rfl (V_move rfl rfl) ?_
             refine G_val rfl rfl rfl rfl (V_eql rfl rfl rfl) ?_
             refine G_val rfl rfl rfl rfl (V_pickT rfl rfl rfl) ?_
             refine G_val rfl rfl rfl rfl (V_assign rfl rfl) ?_
             refine G_done ?_
             refine G_ret (post := []) Tryd.func34 rfl (RVs_cons (RV_tmp rfl) RVs_nil) [] rfl ?_
             dsimp only [packed]
             exact ⟨rfl, rfl⟩
 · skip
   refine GHop_new rfl rfl rfl rfl (N_make (l := 43) (m := 43) rfl Tryd.underlying27 infLogL_5 rfl rfl rfl rfl rfl rfl rfl (by first | decide | omega) (by first | decide | omega | (show 1 * _ ≤ _; omega)) (by first | decide | omega)) [] (fun _ => ⟨_, rfl⟩) (fun b24 => ?_)
   refine GH_all [1, 6] (by kernel_rfl) (by decide) ?_
   refine (And.intro ?_ (And.intro ?_ trivial))
   · skip
     refine GHop_new rfl rfl rfl rfl (N_make (l := 42) (m := 42) rfl Tryd.underlying27 infLogL_5 rfl rfl rfl rfl rfl rfl rfl (by first | decide | omega) (by first | decide | omega | (show 1 * _ ≤ _; omega)) (by first | decide | omega)) [] (fun _ => ⟨_, rfl⟩) (fun b20 => ?_)
     refine GH_all [2, 6] (by kernel_rfl) (by decide) ?_
     refine (And.intro ?_ (And.intro ?_ trivial))
     · skip
       refine GHop_val rfl rfl rfl rfl (V_bytesS (l := (zt 42)) rfl rfl Tryd.underlying27 Tryd.underlying5 Tryd.underlying9 (mem_at 0 rfl) (by rw [zt_len]) (zt_cells 42)) ?_
       refine GH_all [3, 6] (by kernel_rfl) (by decide) ?_
       refine (And.intro ?_ (And.intro ?_ trivial))
       · skip
         refine GHop_call (L2 := [_, _]) rfl rfl rfl rfl rfl rfl Tryd.call41 ((lg_append d 8 lb lcap lcs slNil (newD 8) h g 2 5 7 0 (zt 42) (by decide) (by omega) (by omega) (by omega) (new_W8) (by rw [zt_len]; omega)).weaken (fun v post h => by rw [lv1, lv2, lk1_eq] at h; exact h)) [2, 2, 2, 2] [] rfl rfl [] (by rintro v post ⟨rfl, lcs1, uw1, h1, rfl⟩; exact ⟨_, rfl⟩) ?_
         rintro v post ⟨rfl, lcs1, uw1, h1, rfl⟩
         show GH _ _ _ _ _ _ _ [_, _, _, _, _, _] _
         refine GH_all [6] (by kernel_rfl) (by decide) ?_
         refine (And.intro ?_ trivial)
         · skip
           refine GHop_val rfl rfl rfl rfl (V_bytesS (l := (zt 43)) rfl rfl Tryd.underlying27 Tryd.underlying5 Tryd.underlying9 (mem_at 5 rfl) (by rw [zt_len]) (zt_cells 43)) ?_
           refine GH_all [7] (by kernel_rfl) (by decide) ?_
           refine (And.intro ?_ trivial)
           · skip
             refine GHop_call (L2 := [_, _]) rfl rfl rfl rfl rfl rfl Tryd.call41 ((lg_append d 8 lb lcap lcs1 uw1 lk1 h1 g 2 5 7 1 (zt 43) (by decide) (by omega) (by omega) (by omega) (by omega) (by rw [zt_len]; omega)).weaken (fun v post h => by rw [lv3, lv4, lk2_eq] at h; exact h)) [0, 0, 0, 0] [] rfl rfl [] (by rintro v post ⟨rfl, lcs1, uw1, h1, rfl⟩; exact ⟨_, rfl⟩) ?_
             rintro v post ⟨rfl, lcs1, uw1, h1, rfl⟩
             show GH _ _ _ _ _ _ _ [_, _, _, _, _, _] _
             refine GH_take 8 rfl rfl rfl rfl (by kernel_rfl) (by kernel_rfl) (by kernel_rfl) (fun _ _ => (V_assign rfl rfl)) ?_
             refine GH_take 9 rfl rfl rfl rfl (by kernel_rfl) (by kernel_rfl) (by kernel_rfl) (fun _ _ => (V_assign rfl rfl)) ?_
             refine GH_done (by kernel_rfl) ?_
             refine G_seq ?_
             refine G_region (l := [0, 1, 2, 3, 4, 5, 6, 7, 8]) rfl ?_
             refine G_val rfl rfl rfl rfl (V_move rfl rfl) ?_
             refine G_call (L2 := [_, _, _, _, _, _]) rfl rfl rfl rfl rfl rfl Tryd.call48 ((lg_replay d 8 lb lcap lcs1 uw1 lk2 h1 2 5 1 9 (by decide) lv5 (by omega) (by omega) (by omega)).weaken (fun v post h => by rw [show (5 : Int).toNat = 5 from rfl, lv7] at h; exact h)) [] [1, 2, 3] rfl rfl ?_
             rintro v post ⟨ur, hur, rfl, rfl⟩
             show G _ _ _ [_, _, _, _, _, _, _] _
             refine G_val rfl rfl rfl rfl (V_move rfl rfl) ?_
             refine G_val rfl rfl rfl rfl (V_extract rfl rfl rfl) ?_
             refine G_val rfl rfl rfl rfl (V_extract rfl rfl rfl) ?_
             refine G_val rfl rfl rfl rfl (V_extract rfl rfl rfl) ?_
             refine G_val rfl rfl rfl rfl (V_assign rfl rfl) ?_
             refine G_val rfl rfl rfl rfl (V_assign rfl rfl) ?_
             refine G_val rfl rfl rfl rfl (V_assign rfl rfl) ?_
             refine G_done ?_
             refine G_seq ?_
             refine G_region (l := [0, 1, 2, 3, 4, 5, 6, 7, 8, 9, 10, 11, 12, 13, 14, 15, 16, 17, 18, 19, 20, 21, 22, 23, 24, 25, 26, 27, 28, 29, 30, 31, 32, 33, 34, 35, 36, 37]) rfl ?_
             refine G_val rfl rfl rfl rfl (V_move rfl rfl) ?_
             refine G_call (L2 := [_, _, _, _, _, _, _]) rfl rfl rfl rfl rfl rfl Tryd.call37 (ll_num _) [] [] rfl rfl ?_
             rintro v post ⟨rfl, rfl⟩
             show G _ _ _ [_, _, _, _, _, _, _] _
             refine G_val rfl rfl rfl rfl (V_eql rfl rfl rfl) ?_
             refine G_val rfl rfl rfl rfl (V_move rfl rfl) ?_
             refine G_splitD 36 rfl (fun hc1 => ?_) (fun hc1 => ?_)
             rotate_left
             · (first | (exact absurd rfl hc1) | (exfalso; omega) | (exfalso; simp at hc1; done))
             refine G_val rfl rfl rfl rfl (V_move rfl rfl) ?_
             refine G_call (L2 := [_, _, _, _, _, _, _]) rfl rfl rfl rfl rfl rfl Tryd.call37 (ll_num _) [] [] rfl rfl ?_
             rintro v post ⟨rfl, rfl⟩
             show G _ _ _ [_, _, _, _, _, _, _] _
             refine G_val rfl rfl rfl rfl (V_eql rfl rfl rfl) ?_
             refine G_val rfl rfl rfl rfl (V_pickT rfl rfl rfl) ?_
             refine G_val rfl rfl rfl rfl (V_move rfl rfl) ?_
             refine G_splitD 41 rfl (fun hc2 => ?_) (fun hc2 => ?_)
             rotate_left
             · (first | (exact absurd rfl hc2) | (exfalso; omega) | (exfalso; simp at hc2; done))
             refine G_val rfl rfl rfl rfl (V_move rfl rfl) ?_
             refine G_call (L2 := [_, _, _, _, _, _, _]) rfl rfl rfl rfl rfl rfl Tryd.call37 (ll_num _) [] [] rfl rfl ?_
             rintro v post ⟨rfl, rfl⟩
             show G _ _ _ [_, _, _, _, _, _, _] _
             refine G_val rfl rfl rfl rfl (V_eql rfl rfl rfl) ?_
             refine G_val rfl rfl rfl rfl (V_pickT rfl rfl rfl) ?_
             refine G_val rfl rfl rfl rfl (V_move rfl rfl) ?_
             refine G_splitD 46 rfl (fun hc3 => ?_) (fun hc3 => ?_)
             rotate_left
             · (first | (exact absurd rfl hc3) | (exfalso; omega) | (exfalso; simp at hc3; done))
             refine G_val rfl rfl rfl rfl (V_move rfl rfl) ?_
             refine G_call (L2 := [_, _, _, _, _, _, _]) rfl rfl rfl rfl rfl rfl Tryd.call37 (ll_num _) [] [] rfl rfl ?_
             rintro v post ⟨rfl, rfl⟩
             show G _ _ _ [_, _, _, _, _, _, _] _
             refine G_val rfl rfl rfl rfl (V_eql rfl rfl rfl) ?_
             refine G_val rfl rfl rfl rfl (V_pickT rfl rfl rfl) ?_
             refine G_val rfl rfl rfl rfl (V_move rfl rfl) ?_
             refine G_splitD 51 rfl (fun hc4 => ?_) (fun hc4 => ?_)
             rotate_left
             · (first | (exact absurd rfl hc4) | (exfalso; omega) | (exfalso; simp at hc4; done))
             refine G_val rfl rfl rfl rfl (V_move rfl rfl) ?_
             refine G_call (L2 := [_, _, _, _, _, _, _]) rfl rfl rfl rfl rfl rfl Tryd.call44 (lg_at d g 2 5 7 3) [] [1] rfl rfl ?_
             rintro v post ⟨rfl, rfl⟩
             show G _ _ _ [_, _, _, _, _, _, _] _
             refine G_val rfl rfl rfl rfl (V_eql rfl rfl rfl) ?_
             refine G_val rfl rfl rfl rfl (V_pickT rfl rfl rfl) ?_
             refine G_val rfl rfl rfl rfl (V_move rfl rfl) ?_
             refine G_splitD 56 rfl (fun hc5 => ?_) (fun hc5 => ?_)
             rotate_left
             · (first | (exact absurd rfl hc5) | (exfalso; omega) | (exfalso; simp at hc5; done))
             refine G_val rfl rfl rfl rfl (V_move rfl rfl) ?_
             refine G_call (L2 := [_, _, _, _, _, _, _]) rfl rfl rfl rfl rfl rfl Tryd.call45 (lg_room d g 2 5 7 3 (by omega) (by omega) (by omega)) [] [1] rfl rfl ?_
             rintro v post ⟨rfl, rfl⟩
             show G _ _ _ [_, _, _, _, _, _, _] _
             refine G_val rfl rfl rfl rfl (V_eql rfl rfl rfl) ?_
             refine G_val rfl rfl rfl rfl (V_pickT rfl rfl rfl) ?_
             refine G_val rfl rfl rfl rfl (V_move rfl rfl) ?_
             refine G_splitD 61 rfl (fun hc6 => ?_) (fun hc6 => ?_)
             rotate_left
             · (first | (exact absurd rfl hc6) | (exfalso; omega) | (exfalso; simp at hc6; done))
             refine G_val rfl rfl rfl rfl (V_move rfl rfl) ?_
             refine G_val rfl rfl rfl rfl (V_len rfl rfl Tryd.underlying24 rfl) ?_
             refine G_val rfl rfl rfl rfl (V_eql rfl rfl rfl) ?_
             refine G_val rfl rfl rfl rfl (V_pickT rfl rfl rfl) ?_
             refine G_val rfl rfl rfl rfl (V_move rfl rfl) ?_
             refine G_splitD 66 rfl (fun hc7 => ?_) (fun hc7 => ?_)
             rotate_left
             · (first | (exact absurd rfl hc7) | (exfalso; omega) | (exfalso; simp at hc7; done))
             refine G_val rfl rfl rfl rfl (V_move rfl rfl) ?_
             refine G_val rfl rfl rfl rfl (V_eql rfl rfl rfl) ?_
             refine G_val rfl rfl rfl rfl (V_pickT rfl rfl rfl) ?_
             refine G_val rfl rfl rfl rfl (V_assign rfl rfl) ?_
             refine G_done ?_
             refine G_ret (post := []) Tryd.func34 rfl (RVs_cons (RV_tmp rfl) RVs_nil) [] rfl ?_
             dsimp only [packed]
             exact ⟨rfl, rfl⟩
       · skip
         refine GHop_val rfl rfl rfl rfl (V_bytesS (l := (zt 43)) rfl rfl Tryd.underlying27 Tryd.underlying5 Tryd.underlying9 (mem_at 1 rfl) (by rw [zt_len]) (zt_cells 43)) ?_
         refine GH_all [3] (by kernel_rfl) (by decide) ?_
         refine (And.intro ?_ trivial)
         · skip
           refine GHop_call (L2 := [_, _]) rfl rfl rfl rfl rfl rfl Tryd.call41 ((lg_append d 8 lb lcap lcs slNil (newD 8) h g 2 5 7 0 (zt 42) (by decide) (by omega) (by omega) (by omega) (new_W8) (by rw [zt_len]; omega)).weaken (fun v post h => by rw [lv1, lv2, lk1_eq] at h; exact h)) [2, 2, 2, 2] [] rfl rfl [] (by rintro v post ⟨rfl, lcs1, uw1, h1, rfl⟩; exact ⟨_, rfl⟩) ?_
           rintro v post ⟨rfl, lcs1, uw1, h1, rfl⟩
           show GH _ _ _ _ _ _ _ [_, _, _, _, _, _] _
           refine GH_all [7] (by kernel_rfl) (by decide) ?_
           refine (And.intro ?_ trivial)
           · skip
             refine GHop_call (L2 := [_, _]) rfl rfl rfl rfl rfl rfl Tryd.call41 ((lg_append d 8 lb lcap lcs1 uw1 lk1 h1 g 2 5 7 1 (zt 43) (by decide) (by omega) (by omega) (by omega) (by omega) (by rw [zt_len]; omega)).weaken (fun v post h => by rw [lv3, lv4, lk2_eq] at h; exact h)) [0, 0, 0, 0] [] rfl rfl [] (by rintro v post ⟨rfl, lcs1, uw1, h1, rfl⟩; exact ⟨_, rfl⟩) ?_
             rintro v post ⟨rfl, lcs1, uw1, h1, rfl⟩
             show GH _ _ _ _ _ _ _ [_, _, _, _, _, _] _
             refine GH_take 8 rfl rfl rfl rfl (by kernel_rfl) (by kernel_rfl) (by kernel_rfl) (fun _ _ => (V_assign rfl rfl)) ?_
             refine GH_take 9 rfl rfl rfl rfl (by kernel_rfl) (by kernel_rfl) (by kernel_rfl) (fun _ _ => (V_assign rfl rfl)) ?_
             refine GH_done (by kernel_rfl) ?_
             refine G_seq ?_
             refine G_region (l := [0, 1, 2, 3, 4, 5, 6, 7, 8]) rfl ?_
             refine G_val rfl rfl rfl rfl (V_move rfl rfl) ?_
             refine G_call (L2 := [_, _, _, _, _, _]) rfl rfl rfl rfl rfl rfl Tryd.call48 ((lg_replay d 8 lb lcap lcs1 uw1 lk2 h1 2 5 1 9 (by decide) lv5 (by omega) (by omega) (by omega)).weaken (fun v post h => by rw [show (5 : Int).toNat = 5 from rfl, lv7] at h; exact h)) [] [1, 2, 3] rfl rfl ?_
             rintro v post ⟨ur, hur, rfl, rfl⟩
             show G _ _ _ [_, _, _, _, _, _, _] _
             refine G_val rfl rfl rfl rfl (V_move rfl rfl) ?_
             refine G_val rfl rfl rfl rfl (V_extract rfl rfl rfl) ?_
             refine G_val rfl rfl rfl rfl (V_extract rfl rfl rfl) ?_
             refine G_val rfl rfl rfl rfl (V_extract rfl rfl rfl) ?_
             refine G_val rfl rfl rfl rfl (V_assign rfl rfl) ?_
             refine G_val rfl rfl rfl rfl (V_assign rfl rfl) ?_
             refine G_val rfl rfl rfl rfl (V_assign rfl rfl) ?_
             refine G_done ?_
             refine G_seq ?_
             refine G_region (l := [0, 1, 2, 3, 4, 5, 6, 7, 8, 9, 10, 11, 12, 13, 14, 15, 16, 17, 18, 19, 20, 21, 22, 23, 24, 25, 26, 27, 28, 29, 30, 31, 32, 33, 34, 35, 36, 37]) rfl ?_
             refine G_val rfl rfl rfl rfl (V_move rfl rfl) ?_
             refine G_call (L2 := [_, _, _, _, _, _, _]) rfl rfl rfl rfl rfl rfl Tryd.call37 (ll_num _) [] [] rfl rfl ?_
             rintro v post ⟨rfl, rfl⟩
             show G _ _ _ [_, _, _, _, _, _, _] _
             refine G_val rfl rfl rfl rfl (V_eql rfl rfl rfl) ?_
             refine G_val rfl rfl rfl rfl (V_move rfl rfl) ?_
             refine G_splitD 36 rfl (fun hc1 => ?_) (fun hc1 => ?_)
             rotate_left
             · (first | (exact absurd rfl hc1) | (exfalso; omega) | (exfalso; simp at hc1; done))
             refine G_val rfl rfl rfl rfl (V_move rfl rfl) ?_
             refine G_call (L2 := [_, _, _, _, _, _, _]) rfl rfl rfl rfl rfl rfl Tryd.call37 (ll_num _) [] [] rfl rfl ?_
             rintro v post ⟨rfl, rfl⟩
             show G _ _ _ [_, _, _, _, _, _, _] _
             refine G_val rfl rfl rfl rfl (V_eql rfl rfl rfl) ?_
             refine G_val rfl rfl rfl rfl (V_pickT rfl rfl rfl) ?_
             refine G_val rfl rfl rfl rfl (V_move rfl rfl) ?_
             refine G_splitD 41 rfl (fun hc2 => ?_) (fun hc2 => ?_)
             rotate_left
             · (first | (exact absurd rfl hc2) | (exfalso; omega) | (exfalso; simp at hc2; done))
             refine G_val rfl rfl rfl rfl (V_move rfl rfl) ?_
             refine G_call (L2 := [_, _, _, _, _, _, _]) rfl rfl rfl rfl rfl rfl Tryd.call37 (ll_num _) [] [] rfl rfl ?_
             rintro v post ⟨rfl, rfl⟩
             show G _ _ _ [_, _, _, _, _, _, _] _
             refine G_val rfl rfl rfl rfl (V_eql rfl rfl rfl) ?_
             refine G_val rfl rfl rfl rfl (V_pickT rfl rfl rfl) ?_
             refine G_val rfl rfl rfl rfl (V_move rfl rfl) ?_
             refine G_splitD 46 rfl (fun hc3 => ?_) (fun hc3 => ?_)
             rotate_left
             · (first | (exact absurd rfl hc3) | (exfalso; omega) | (exfalso; simp at hc3; done))
             refine G_val rfl rfl rfl rfl (V_move rfl rfl) ?_
             refine G_call (L2 := [_, _, _, _, _, _, _]) rfl rfl rfl rfl rfl rfl Tryd.call37 (ll_num _) [] [] rfl rfl ?_
             rintro v post ⟨rfl, rfl⟩
             show G _ _ _ [_, _, _, _, _, _, _] _
             refine G_val rfl rfl rfl rfl (V_eql rfl rfl rfl) ?_
             refine G_val rfl rfl rfl rfl (V_pickT rfl rfl rfl) ?_
             refine G_val rfl rfl rfl rfl (V_move rfl rfl) ?_
             refine G_splitD 51 rfl (fun hc4 => ?_) (fun hc4 => ?_)
             rotate_left
             · (first | (exact absurd rfl hc4) | (exfalso; omega) | (exfalso; simp at hc4; done))
             refine G_val rfl rfl rfl rfl (V_move rfl rfl) ?_
             refine G_call (L2 := [_, _, _, _, _, _, _]) rfl rfl rfl rfl rfl rfl Tryd.call44 (lg_at d g 2 5 7 3) [] [1] rfl rfl ?_
             rintro v post ⟨rfl, rfl⟩
             show G _ _ _ [_, _, _, _, _, _, _] _
             refine G_val rfl rfl rfl rfl (V_eql rfl rfl rfl) ?_
             refine G_val rfl rfl rfl rfl (V_pickT rfl rfl rfl) ?_
             refine G_val rfl rfl rfl rfl (V_move rfl rfl) ?_
             refine G_splitD 56 rfl (fun hc5 => ?_) (fun hc5 => ?_)
             rotate_left
             · (first | (exact absurd rfl hc5) | (exfalso; omega) | (exfalso; simp at hc5; done))
             refine G_val rfl rfl rfl rfl (V_move rfl rfl) ?_
             refine G_call (L2 := [_, _, _, _, _, _, _]) rfl rfl rfl rfl rfl rfl Tryd.call45 (lg_room d g 2 5 7 3 (by omega) (by omega) (by omega)) [] [1] rfl rfl ?_
             rintro v post ⟨rfl, rfl⟩
             show G _ _ _ [_, _, _, _, _, _, _] _
             refine G_val rfl rfl rfl rfl (V_eql rfl rfl rfl) ?_
             refine G_val rfl rfl rfl rfl (V_pickT rfl rfl rfl) ?_
             refine G_val rfl rfl rfl rfl (V_move rfl rfl) ?_
             refine G_splitD 61 rfl (fun hc6 => ?_) (fun hc6 => ?_)
             rotate_left
             · (first | (exact absurd rfl hc6) | (exfalso; omega) | (exfalso; simp at hc6; done))
             refine G_val rfl rfl rfl rfl (V_move rfl rfl) ?_
             refine G_val rfl rfl rfl rfl (V_len rfl rfl Tryd.underlying24 rfl) ?_
             refine G_val rfl rfl rfl rfl (V_eql rfl rfl rfl) ?_
             refine G_val rfl rfl rfl rfl (V_pickT rfl rfl rfl) ?_
             refine G_val rfl rfl rfl rfl (V_move rfl rfl) ?_
             refine G_splitD 66 rfl (fun hc7 => ?_) (fun hc7 => ?_)
             rotate_left
             · (first | (exact absurd rfl hc7) | (exfalso; omega) | (exfalso; simp at hc7; done))
             refine G_val rfl rfl rfl rfl (V_move rfl rfl) ?_
             refine G_val rfl rfl rfl rfl (V_eql rfl rfl rfl) ?_
             refine G_val rfl rfl rfl rfl (V_pickT rfl rfl rfl) ?_
             refine G_val rfl rfl rfl rfl (V_assign rfl rfl) ?_
             refine G_done ?_
             refine G_ret (post := []) Tryd.func34 rfl (RVs_cons (RV_tmp rfl) RVs_nil) [] rfl ?_
             dsimp only [packed]
             exact ⟨rfl, rfl⟩
     · skip
       refine GHop_val rfl rfl rfl rfl (V_bytesS (l := (zt 43)) rfl rfl Tryd.underlying27 Tryd.underlying5 Tryd.underlying9 (mem_at 1 rfl) (by rw [zt_len]) (zt_cells 43)) ?_
       refine GH_all [2] (by kernel_rfl) (by decide) ?_
       refine (And.intro ?_ trivial)
       · skip
         refine GHop_val rfl rfl rfl rfl (V_bytesS (l := (zt 42)) rfl rfl Tryd.underlying27 Tryd.underlying5 Tryd.underlying9 (mem_at 0 rfl) (by rw [zt_len]) (zt_cells 42)) ?_
         refine GH_all [3] (by kernel_rfl) (by decide) ?_
         refine (And.intro ?_ trivial)
         · skip
           refine GHop_call (L2 := [_, _]) rfl rfl rfl rfl rfl rfl Tryd.call41 ((lg_append d 8 lb lcap lcs slNil (newD 8) h g 2 5 7 0 (zt 42) (by decide) (by omega) (by omega) (by omega) (new_W8) (by rw [zt_len]; omega)).weaken (fun v post h => by rw [lv1, lv2, lk1_eq] at h; exact h)) [2, 2, 2, 2] [] rfl rfl [] (by rintro v post ⟨rfl, lcs1, uw1, h1, rfl⟩; exact ⟨_, rfl⟩) ?_
           rintro v post ⟨rfl, lcs1, uw1, h1, rfl⟩
           show GH _ _ _ _ _ _ _ [_, _, _, _, _, _] _
           refine GH_all [7] (by kernel_rfl) (by decide) ?_
           refine (And.intro ?_ trivial)
           · skip
             refine GHop_call (L2 := [_, _]) rfl rfl rfl rfl rfl rfl Tryd.call41 ((lg_append d 8 lb lcap lcs1 uw1 lk1 h1 g 2 5 7 1 (zt 43) (by decide) (by omega) (by omega) (by omega) (by omega) (by rw [zt_len]; omega)).weaken (fun v post h => by rw [lv3, lv4, lk2_eq] at h; exact h)) [0, 0, 0, 0] [] rfl rfl [] (by rintro v post ⟨rfl, lcs1, uw1, h1, rfl⟩; exact ⟨_, rfl⟩) ?_
             rintro v post ⟨rfl, lcs1, uw1, h1, rfl⟩
             show GH _ _ _ _ _ _ _ [_, _, _, _, _, _] _
             refine GH_take 8 rfl rfl rfl rfl (by kernel_rfl) (by kernel_rfl) (by kernel_rfl) (fun _ _ => (V_assign rfl rfl)) ?_
             refine GH_take 9 rfl rfl rfl rfl (by kernel_rfl) (by kernel_rfl) (by kernel_rfl) (fun _ _ => (V_assign rfl rfl)) ?_
             refine GH_done (by kernel_rfl) ?_
             refine G_seq ?_
             refine G_region (l := [0, 1, 2, 3, 4, 5, 6, 7, 8]) rfl ?_
             refine G_val rfl rfl rfl rfl (V_move rfl rfl) ?_
             refine G_call (L2 := [_, _, _, _, _, _]) rfl rfl rfl rfl rfl rfl Tryd.call48 ((lg_replay d 8 lb lcap lcs1 uw1 lk2 h1 2 5 1 9 (by decide) lv5 (by omega) (by omega) (by omega)).weaken (fun v post h => by rw [show (5 : Int).toNat = 5 from rfl, lv7] at h; exact h)) [] [1, 2, 3] rfl rfl ?_
             rintro v post ⟨ur, hur, rfl, rfl⟩
             show G _ _ _ [_, _, _, _, _, _, _] _
             refine G_val rfl rfl rfl rfl (V_move rfl rfl) ?_
             refine G_val rfl rfl rfl rfl (V_extract rfl rfl rfl) ?_
             refine G_val rfl rfl rfl rfl (V_extract rfl rfl rfl) ?_
             refine G_val rfl rfl rfl rfl (V_extract rfl rfl rfl) ?_
             refine G_val rfl rfl rfl rfl (V_assign rfl rfl) ?_
             refine G_val rfl rfl rfl rfl (V_assign rfl rfl) ?_
             refine G_val rfl rfl rfl rfl (V_assign rfl rfl) ?_
             refine G_done ?_
             refine G_seq ?_
             refine G_region (l := [0, 1, 2, 3, 4, 5, 6, 7, 8, 9, 10, 11, 12, 13, 14, 15, 16, 17, 18, 19, 20, 21, 22, 23, 24, 25, 26, 27, 28, 29, 30, 31, 32, 33, 34, 35, 36, 37]) rfl ?_
             refine G_val rfl rfl rfl rfl (V_move rfl rfl) ?_
             refine G_call (L2 := [_, _, _, _, _, _, _]) rfl rfl rfl rfl rfl rfl Tryd.call37 (ll_num _) [] [] rfl rfl ?_
             rintro v post ⟨rfl, rfl⟩
             show G _ _ _ [_, _, _, _, _, _, _] _
             refine G_val rfl rfl rfl rfl (V_eql rfl rfl rfl) ?_
             refine G_val rfl rfl rfl rfl (V_move rfl rfl) ?_
             refine G_splitD 36 rfl (fun hc1 => ?_) (fun hc1 => ?_)
             rotate_left
             · (first | (exact absurd rfl hc1) | (exfalso; omega) | (exfalso; simp at hc1; done))
             refine G_val rfl rfl rfl rfl (V_move rfl rfl) ?_
             refine G_call (L2 := [_, _, _, _, _, _, _]) rfl rfl rfl rfl rfl rfl Tryd.call37 (ll_num _) [] [] rfl rfl ?_
             rintro v post ⟨rfl, rfl⟩
             show G _ _ _ [_, _, _, _, _, _, _] _
             refine G_val rfl rfl rfl rfl (V_eql rfl rfl rfl) ?_
             refine G_val rfl rfl rfl rfl (V_pickT rfl rfl rfl) ?_
             refine G_val rfl rfl rfl rfl (V_move rfl rfl) ?_
             refine G_splitD 41 rfl (fun hc2 => ?_) (fun hc2 => ?_)
             rotate_left
             · (first | (exact absurd rfl hc2) | (exfalso; omega) | (exfalso; simp at hc2; done))
             refine G_val rfl rfl rfl rfl (V_move rfl rfl) ?_
             refine G_call (L2 := [_, _, _, _, _, _, _]) rfl rfl rfl rfl rfl rfl Tryd.call37 (ll_num _) [] [] rfl rfl ?_
             rintro v post ⟨rfl, rfl⟩
             show G _ _ _ [_, _, _, _, _, _, _] _
             refine G_val rfl rfl rfl rfl (V_eql rfl rfl rfl) ?_
             refine G_val rfl rfl rfl rfl (V_pickT rfl rfl rfl) ?_
             refine G_val rfl rfl rfl rfl (V_move rfl rfl) ?_
             refine G_splitD 46 rfl (fun hc3 => ?_) (fun hc3 => ?_)
             rotate_left
             · (first | (exact absurd rfl hc3) | (exfalso; omega) | (exfalso; simp at hc3; done))
             refine G_val rfl rfl rfl rfl (V_move rfl rfl) ?_
             refine G_call (L2 := [_, _, _, _, _, _, _]) rfl rfl rfl rfl rfl rfl Tryd.call37 (ll_num _) [] [] rfl rfl ?_
             rintro v post ⟨rfl, rfl⟩
             show G _ _ _ [_, _, _, _, _, _, _] _
             refine G_val rfl rfl rfl rfl (V_eql rfl rfl rfl) ?_
             refine G_val rfl rfl rfl rfl (V_pickT rfl rfl rfl) ?_
             refine G_val rfl rfl rfl rfl (V_move rfl rfl) ?_
             refine G_splitD 51 rfl (fun hc4 => ?_) (fun hc4 => ?_)
             rotate_left
             · (first | (exact absurd rfl hc4) | (exfalso; omega) | (exfalso; simp at hc4; done))
             refine G_val rfl rfl rfl rfl (V_move rfl rfl) ?_
             refine G_call (L2 := [_, _, _, _, _, _, _]) rfl rfl rfl rfl rfl rfl Tryd.call44 (lg_at d g 2 5 7 3) [] [1] rfl rfl ?_
             rintro v post ⟨rfl, rfl⟩
             show G _ _ _ [_, _, _, _, _, _, _] _
             refine G_val rfl rfl rfl rfl (V_eql rfl rfl rfl) ?_
             refine G_val rfl rfl rfl rfl (V_pickT rfl rfl rfl) ?_
             refine G_val rfl rfl rfl rfl (V_move rfl rfl) ?_
             refine G_splitD 56 rfl (fun hc5 => ?_) (fun hc5 => ?_)
             rotate_left
             · (first | (exact absurd rfl hc5) | (exfalso; omega) | (exfalso; simp at hc5; done))
             refine G_val rfl rfl rfl rfl (V_move rfl rfl) ?_
             refine G_call (L2 := [_, _, _, _, _, _, _]) rfl rfl rfl rfl rfl rfl Tryd.call45 (lg_room d g 2 5 7 3 (by omega) (by omega) (by omega)) [] [1] rfl rfl ?_
             rintro v post ⟨rfl, rfl⟩
             show G _ _ _ [_, _, _, _, _, _, _] _
             refine G_val rfl rfl rfl rfl (V_eql rfl rfl rfl) ?_
             refine G_val rfl rfl rfl rfl (V_pickT rfl rfl rfl) ?_
             refine G_val rfl rfl rfl rfl (V_move rfl rfl) ?_
             refine G_splitD 61 rfl (fun hc6 => ?_) (fun hc6 => ?_)
             rotate_left
             · (first | (exact absurd rfl hc6) | (exfalso; omega) | (exfalso; simp at hc6; done))
             refine G_val rfl rfl rfl rfl (V_move rfl rfl) ?_
             refine G_val rfl rfl rfl rfl (V_len rfl rfl Tryd.underlying24 rfl) ?_
             refine G_val rfl rfl rfl rfl (V_eql rfl rfl rfl) ?_
             refine G_val rfl rfl rfl rfl (V_pickT rfl rfl rfl) ?_
             refine G_val rfl rfl rfl rfl (V_move rfl rfl) ?_
             refine G_splitD 66 rfl (fun hc7 => ?_) (fun hc7 => ?_)
             rotate_left
             · (first | (exact absurd rfl hc7) | (exfalso; omega) | (exfalso; simp at hc7; done))
             refine G_val rfl rfl rfl rfl (V_move rfl rfl) ?_
             refine G_val rfl rfl rfl rfl (V_eql rfl rfl rfl) ?_
             refine G_val rfl rfl rfl rfl (V_pickT rfl rfl rfl) ?_
             refine G_val rfl rfl rfl rfl (V_assign rfl rfl) ?_
             refine G_done ?_
             refine G_ret (post := []) Tryd.func34 rfl (RVs_cons (RV_tmp rfl) RVs_nil) [] rfl ?_
             dsimp only [packed]
             exact ⟨rfl, rfl⟩
   · skip
     refine GHop_val rfl rfl rfl rfl (V_bytesS (l := (zt 43)) rfl rfl Tryd.underlying27 Tryd.underlying5 Tryd.underlying9 (mem_at 0 rfl) (by rw [zt_len]) (zt_cells 43)) ?_
     refine GH_all [1] (by kernel_rfl) (by decide) ?_
     refine (And.intro ?_ trivial)
     · skip
       refine GHop_new rfl rfl rfl rfl (N_make (l := 42) (m := 42) rfl Tryd.underlying27 infLogL_5 rfl rfl rfl rfl rfl rfl rfl (by first | decide | omega) (by first | decide | omega | (show 1 * _ ≤ _; omega)) (by first | decide | omega)) [] (fun _ => ⟨_, rfl⟩) (fun b20 => ?_)
       refine GH_all [2] (by kernel_rfl) (by decide) ?_
       refine (And.intro ?_ trivial)
       · skip
         refine GHop_val rfl rfl rfl rfl (V_bytesS (l := (zt 42)) rfl rfl Tryd.underlying27 Tryd.underlying5 Tryd.underlying9 (mem_at 0 rfl) (by rw [zt_len]) (zt_cells 42)) ?_
         refine GH_all [3] (by kernel_rfl) (by decide) ?_
         refine (And.intro ?_ trivial)
         · skip
           refine GHop_call (L2 := [_, _]) rfl rfl rfl rfl rfl rfl Tryd.call41 ((lg_append d 8 lb lcap lcs slNil (newD 8) h g 2 5 7 0 (zt 42) (by decide) (by omega) (by omega) (by omega) (new_W8) (by rw [zt_len]; omega)).weaken (fun v post h => by rw [lv1, lv2, lk1_eq] at h; exact h)) [2, 2, 2, 2] [] rfl rfl [] (by rintro v post ⟨rfl, lcs1, uw1, h1, rfl⟩; exact ⟨_, rfl⟩) ?_
           rintro v post ⟨rfl, lcs1, uw1, h1, rfl⟩
           show GH _ _ _ _ _ _ _ [_, _, _, _, _, _] _
           refine GH_all [7] (by kernel_rfl) (by decide) ?_
           refine (And.intro ?_ trivial)
           · skip
             refine GHop_call (L2 := [_, _]) rfl rfl rfl rfl rfl rfl Tryd.call41 ((lg_append d 8 lb lcap lcs1 uw1 lk1 h1 g 2 5 7 1 (zt 43) (by decide) (by omega) (by omega) (by omega) (by omega) (by rw [zt_len]; omega)).weaken (fun v post h => by rw [lv3, lv4, lk2_eq] at h; exact h)) [0, 0, 0, 0] [] rfl rfl [] (by rintro v post ⟨rfl, lcs1, uw1, h1, rfl⟩; exact ⟨_, rfl⟩) ?_
             rintro v post ⟨rfl, lcs1, uw1, h1, rfl⟩
             show GH _ _ _ _ _ _ _ [_, _, _, _, _, _] _
             refine GH_take 8 rfl rfl rfl rfl (by kernel_rfl) (by kernel_rfl) (by kernel_rfl) (fun _ _ => (V_assign rfl rfl)) ?_
             refine GH_take 9 rfl rfl rfl rfl (by kernel_rfl) (by kernel_rfl) (by kernel_rfl) (fun _ _ => (V_assign rfl rfl)) ?_
             refine GH_done (by kernel_rfl) ?_
             refine G_seq ?_
             refine G_region (l := [0, 1, 2, 3, 4, 5, 6, 7, 8]) rfl ?_
             refine G_val rfl rfl rfl rfl (V_move rfl rfl) ?_
             refine G_call (L2 := [_, _, _, _, _, _]) rfl rfl rfl rfl rfl rfl Tryd.call48 ((lg_replay d 8 lb lcap lcs1 uw1 lk2 h1 2 5 1 9 (by decide) lv5 (by omega) (by omega) (by omega)).weaken (fun v post h => by rw [show (5 : Int).toNat = 5 from rfl, lv7] at h; exact h)) [] [1, 2, 3] rfl rfl ?_
             rintro v post ⟨ur, hur, rfl, rfl⟩
             show G _ _ _ [_, _, _, _, _, _, _] _
             refine G_val rfl rfl rfl rfl (V_move rfl rfl) ?_
             refine G_val rfl rfl rfl rfl (V_extract rfl rfl rfl) ?_
             refine G_val rfl rfl rfl rfl (V_extract rfl rfl rfl) ?_
             refine G_val rfl rfl rfl rfl (V_extract rfl rfl rfl) ?_
             refine G_val rfl rfl rfl rfl (V_assign rfl rfl) ?_
             refine G_val rfl rfl rfl rfl (V_assign rfl rfl) ?_
             refine G_val rfl rfl rfl rfl (V_assign rfl rfl) ?_
             refine G_done ?_
             refine G_seq ?_
             refine G_region (l := [0, 1, 2, 3, 4, 5, 6, 7, 8, 9, 10, 11, 12, 13, 14, 15, 16, 17, 18, 19, 20, 21, 22, 23, 24, 25, 26, 27, 28, 29, 30, 31, 32, 33, 34, 35, 36, 37]) rfl ?_
             refine G_val rfl rfl rfl rfl (V_move rfl rfl) ?_
             refine G_call (L2 := [_, _, _, _, _, _, _]) rfl rfl rfl rfl rfl rfl Tryd.call37 (ll_num _) [] [] rfl rfl ?_
             rintro v post ⟨rfl, rfl⟩
             show G _ _ _ [_, _, _, _, _, _, _] _
             refine G_val rfl rfl rfl rfl (V_eql rfl rfl rfl) ?_
             refine G_val rfl rfl rfl rfl (V_move rfl rfl) ?_
             refine G_splitD 36 rfl (fun hc1 => ?_) (fun hc1 => ?_)
             rotate_left
             · (first | (exact absurd rfl hc1) | (exfalso; omega) | (exfalso; simp at hc1; done))
             refine G_val rfl rfl rfl rfl (V_move rfl rfl) ?_
             refine G_call (L2 := [_, _, _, _, _, _, _]) rfl rfl rfl rfl rfl rfl Tryd.call37 (ll_num _) [] [] rfl rfl ?_
             rintro v post ⟨rfl, rfl⟩
             show G _ _ _ [_, _, _, _, _, _, _] _
             refine G_val rfl rfl rfl rfl (V_eql rfl rfl rfl) ?_
             refine G_val rfl rfl rfl rfl (V_pickT rfl rfl rfl) ?_
             refine G_val rfl rfl rfl rfl (V_move rfl rfl) ?_
             refine G_splitD 41 rfl (fun hc2 => ?_) (fun hc2 => ?_)
             rotate_left
             · (first | (exact absurd rfl hc2) | (exfalso; omega) | (exfalso; simp at hc2; done))
             refine G_val rfl rfl rfl rfl (V_move rfl rfl) ?_
             refine G_call (L2 := [_, _, _, _, _, _, _]) rfl rfl rfl rfl rfl rfl Tryd.call37 (ll_num _) [] [] rfl rfl ?_
             rintro v post ⟨rfl, rfl⟩
             show G _ _ _ [_, _, _, _, _, _, _] _
             refine G_val rfl rfl rfl rfl (V_eql rfl rfl rfl) ?_
             refine G_val rfl rfl rfl rfl (V_pickT rfl rfl rfl) ?_
             refine G_val rfl rfl rfl rfl (V_move rfl rfl) ?_
             refine G_splitD 46 rfl (fun hc3 => ?_) (fun hc3 => ?_)
             rotate_left
             · (first | (exact absurd rfl hc3) | (exfalso; omega) | (exfalso; simp at hc3; done))
             refine G_val rfl rfl rfl rfl (V_move rfl rfl) ?_
             refine G_call (L2 := [_, _, _, _, _, _, _]) rfl rfl rfl rfl rfl rfl Tryd.call37 (ll_num _) [] [] rfl rfl ?_
             rintro v post ⟨rfl, rfl⟩
             show G _ _ _ [_, _, _, _, _, _, _] _
             refine G_val rfl rfl rfl rfl (V_eql rfl rfl rfl) ?_
             refine G_val rfl rfl rfl rfl (V_pickT rfl rfl rfl) ?_
             refine G_val rfl rfl rfl rfl (V_move rfl rfl) ?_
             refine G_splitD 51 rfl (fun hc4 => ?_) (fun hc4 => ?_)
             rotate_left
             · (first | (exact absurd rfl hc4) | (exfalso; omega) | (exfalso; simp at hc4; done))
             refine G_val rfl rfl rfl rfl (V_move rfl rfl) ?_
             refine G_call (L2 := [_, _, _, _, _, _, _]) rfl rfl rfl rfl rfl rfl Tryd.call44 (lg_at d g 2 5 7 3) [] [1] rfl rfl ?_
             rintro v post ⟨rfl, rfl⟩
             show G _ _ _ [_, _, _, _, _, _, _] _
             refine G_val rfl rfl rfl rfl (V_eql rfl rfl rfl) ?_
             refine G_val rfl rfl rfl rfl (V_pickT rfl rfl rfl) ?_
             refine G_val rfl rfl rfl rfl (V_move rfl rfl) ?_
             refine G_splitD 56 rfl (fun hc5 => ?_) (fun hc5 => ?_)
             rotate_left
             · (first | (exact absurd rfl hc5) | (exfalso; omega) | (exfalso; simp at hc5; done))
             refine G_val rfl rfl rfl rfl (V_move rfl rfl) ?_
             refine G_call (L2 := [_, _, _, _, _, _, _]) rfl rfl rfl rfl rfl rfl Tryd.call45 (lg_room d g 2 5 7 3 (by omega) (by omega) (by omega)) [] [1] rfl rfl ?_
             rintro v post ⟨rfl, rfl⟩
             show G _ _ _ [_, _, _, _, _, _, _] _
             refine G_val rfl rfl rfl rfl (V_eql rfl rfl rfl) ?_
             refine G_val rfl rfl rfl rfl (V_pickT rfl rfl rfl) ?_
             refine G_val rfl rfl rfl rfl (V_move rfl rfl) ?_
             refine G_splitD 61 rfl (fun hc6 => ?_) (fun hc6 => ?_)
             rotate_left
             · (first | (exact absurd rfl hc6) | (exfalso; omega) | (exfalso; simp at hc6; done))
             refine G_val rfl rfl rfl rfl (V_move rfl rfl) ?_
             refine G_val rfl rfl rfl rfl (V_len rfl rfl Tryd.underlying24 rfl) ?_
             refine G_val rfl rfl rfl rfl (V_eql rfl rfl rfl) ?_
             refine G_val rfl rfl rfl rfl (V_pickT rfl rfl rfl) ?_
             refine G_val rfl rfl rfl rfl (V_move rfl rfl) ?_
             refine G_splitD 66 rfl (fun hc7 => ?_) (fun hc7 => ?_)
             rotate_left
             · (first | (exact absurd rfl hc7) | (exfalso; omega) | (exfalso; simp at hc7; done))
             refine G_val rfl rfl rfl rfl (V_move rfl rfl) ?_
             refine G_val rfl rfl rfl rfl (V_eql rfl rfl rfl) ?_
             refine G_val rfl rfl rfl rfl (V_pickT rfl rfl rfl) ?_
             refine G_val rfl rfl rfl rfl (V_assign rfl rfl) ?_
             refine G_done ?_
             refine G_ret (post := []) Tryd.func34 rfl (RVs_cons (RV_tmp rfl) RVs_nil) [] rfl ?_
             dsimp only [packed]
             exact ⟨rfl, rfl⟩

end
end Go.Proofs.YtbblkgdejgoncaaDoor

/- A log on a disk whose power goes, however often (layer 26), in plain lists. -/
set_option linter.unusedSimpArgs false
set_option linter.unusedVariables false
namespace Go.Proofs.YtbblkgdejgoncaaDoor
open Go Go.RowKit

section



/-- Some blocks of a disk. -/
def reg (f n : Nat) (L : List (List UInt8)) : List (List UInt8) := (L.drop f).take n
theorem reg_len {f n : Nat} {L : List (List UInt8)} (h : f + n ≤ L.length) : (reg f n L).length = n := by unfold reg; rw [List.length_take, List.length_drop]; omega
theorem reg_get {f n i : Nat} (L : List (List UInt8)) (hi : i < n) : (reg f n L).getD i [] = L.getD (f + i) [] := by
  unfold reg; rw [List.getD_eq_getElem?_getD, List.getElem?_take, if_pos hi, List.getElem?_drop, List.getD_eq_getElem?_getD]
theorem reg_out {f n i : Nat} (L : List (List UInt8)) (hi : n ≤ i) : (reg f n L).getD i [] = [] := by
  unfold reg; rw [List.getD_eq_getElem?_getD, List.getElem?_take, if_neg (by omega)]; rfl
theorem list_out {L : List (List UInt8)} {i : Nat} (hi : L.length ≤ i) : L.getD i [] = [] := by rw [List.getD_eq_getElem?_getD, List.getElem?_eq_none hi]; rfl
theorem rdB_reg {k : Dk} (ho : DkOk k) (hd : k.dead = false) (hw : k.W = []) {f n : Nat} (hn : f + n ≤ k.L.length) : rdB k (f : Int) n = reg f n k.L := by
  apply List.ext_getElem?
  intro i
  by_cases hi : i < n
  · have h1 := rdB_view ho hd hi hn
    rw [view_nil hw, ← reg_get k.L hi] at h1
    rw [List.getD_eq_getElem?_getD, List.getD_eq_getElem?_getD] at h1
    obtain ⟨x, hx⟩ := getI (show i < (rdB k (f : Int) n).length by rw [rdB_len]; exact hi)
    obtain ⟨y, hy⟩ := getI (show i < (reg f n k.L).length by rw [reg_len hn]; exact hi)
    rw [hx, hy] at h1 ⊢
    simpa using h1
  · rw [List.getElem?_eq_none (by rw [rdB_len]; omega), List.getElem?_eq_none (by rw [reg_len hn]; omega)]
theorem applyW_other {j : Nat} : ∀ (W : List (Int × List UInt8)) (L : List (List UInt8)), (∀ x ∈ W, x.1.toNat ≠ j) → (applyW L W).getD j [] = L.getD j []
  | [], _, _ => rfl
  | x :: W, L, h => by
    show (applyW (L.set x.1.toNat x.2) W).getD j [] = _
    rw [applyW_other W _ (fun y hy => h y (by simp [hy])), List.getD_eq_getElem?_getD, List.getElem?_set_ne (h x (by simp)), List.getD_eq_getElem?_getD]
theorem wrs_dead : ∀ (bl : List (List UInt8)) (k : Dk) (a : Int), k.dead = true → bl ≠ [] → (∀ b ∈ bl, b.length = 64) → 0 ≤ a → a + (bl.length : Int) ≤ (k.L.length : Int) → wrsE k a bl = 21 ∧ (wrsK k a bl).L = k.L ∧ (wrsK k a bl).W = k.W ∧ (wrsK k a bl).dead = true
  | [], _, _, _, h, _, _, _ => absurd rfl h
  | b :: r, k, a, hd, _, hb, h0, h1 => by
    rw [List.length_cons] at h1
    obtain ⟨e1, e2⟩ := write_dead (k := k) (a := a) (s := b) (hasE_ok.2 (by omega)) (hb b (by simp)) (by unfold spD; rw [hd]; rfl)
    have hs : k.spent.dead = true := by show spD _ _ = true; unfold spD; rw [hd]; rfl
    rw [wrsK, wrsE, if_pos (by rw [e2]; decide), if_pos (by rw [e2]; decide), e1, e2]
    exact ⟨rfl, rfl, rfl, hs⟩
theorem Over.extend {e0 e a : Nat} {rb rb' P : List (List UInt8)} (h : Over e0 e rb rb' a P) {Q : List (List UInt8)} (hq : ∀ q ∈ Q, q.length = 48) : Over e0 e rb rb' a (P ++ Q) :=
  ⟨h.len, h.low, h.e1, h.e2, fun i p hp hi => by
    rcases Nat.lt_or_ge i P.length with hlt | hge
    · rw [List.getElem?_append_left hlt] at hp; exact h.news i p hp hi
    · exact .inl (h.olds (a + i) (by omega)), fun i hi => h.olds i (by rw [List.length_append] at hi; omega), fun p hp => by
    rcases List.mem_append.1 hp with hp | hp
    · exact h.p48 p hp
    · exact hq p hp⟩
/-- How a log and its disk stand: what lay there when the epoch began (rb: of it base was replayed, up to a0), what was appended since, wholly, and what not, and how much of it is sure. -/
structure Fl (f n base0 N e : Nat) (k : Dk) (a : Nat) (rb : List (List UInt8)) (base : List (List UInt8)) (a0 : Nat) (done rest : List (List UInt8)) (m : Nat) : Prop where
  len : k.L.length = N
  fn : f + n ≤ N
  n4 : n ≤ 4096
  e1 : 1 ≤ e
  e2 : e < 256
  be : base0 ≤ e
  t1000 : ∀ t ∈ done ++ rest, t.length ≤ 1000
  rp0 : rp rb (e - 1) base0 0 = (base, a0)
  at_ : a = a0 + (pcs done).length
  atn : a ≤ n
  rbl : rb.length = n
  over : Over (e - 1) e rb (reg f n k.L) a0 (pcs (done ++ rest))
  olds : ∀ i, i < a0 → (reg f n k.L).getD i [] = rb.getD i []
  wat : ∀ x ∈ k.W, ∃ (i : Nat) (p : List UInt8), (pcs (done ++ rest))[i]? = some p ∧ a0 + i < n ∧ x = (((f + a0 + i : Nat) : Int), sealL e (a0 + i) p)
  vw : ∀ i p, (pcs done)[i]? = some p → (view k).getD (f + a0 + i) [] = sealL e (a0 + i) p
  live : k.dead = false → rest = []
  ml : m ≤ done.length
  whole : WholeTo e (reg f n k.L) a0 (pcs (done.take m))
theorem rp_end_le {rb : List (List UInt8)} {e base0 : Nat} : (rp rb e base0 0).2 ≤ rb.length := by
  obtain ⟨b, hc, _⟩ := rp_reach rb e base0
  exact hc.le.1
theorem fl_start {f n base0 N e : Nat} {k : Dk} {base : List (List UInt8)} {a0 : Nat} (hl : k.L.length = N) (hf : f + n ≤ N) (hn : n ≤ 4096) (h1 : 1 ≤ e) (h2 : e < 256) (hb : base0 ≤ e) (hw : k.W = []) (hlow : ∀ i, i < n → Low (e - 1) ((reg f n k.L).getD i [])) (hr : rp (reg f n k.L) (e - 1) base0 0 = (base, a0)) :
    Fl f n base0 N e k a0 (reg f n k.L) base a0 [] [] 0 := by
  have hrl := reg_len (n := n) (f := f) (L := k.L) (by omega)
  have h0 := rp_end_le (rb := reg f n k.L) (e := e - 1) (base0 := base0)
  rw [hr, hrl] at h0
  exact ⟨hl, hf, hn, h1, h2, hb, fun t ht => (by cases ht), hr, by simp [pcs], h0, hrl,
    ⟨rfl, fun i hi => hlow i (by rw [hrl] at hi; exact hi), by omega, h2, fun i p hp => (by simp [pcs] at hp), fun _ _ => rfl, fun p hp => (by simp [pcs] at hp)⟩,
    fun _ _ => rfl, fun x hx => (by rw [hw] at hx; cases hx), fun i p hp => (by simp [pcs] at hp), fun _ => rfl, Nat.zero_le _, fun i p hp => (by simp [pcs] at hp)⟩
theorem fl_fuse {f n base0 N e a a0 m : Nat} {k : Dk} {rb base done rest : List (List UInt8)} (h : Fl f n base0 N e k a rb base a0 done rest m) (z : Int) : Fl f n base0 N e (k.setFuse z) a rb base a0 done rest m :=
  ⟨h.len, h.fn, h.n4, h.e1, h.e2, h.be, h.t1000, h.rp0, h.at_, h.atn, h.rbl, h.over, h.olds, h.wat, h.vw, h.live, h.ml, h.whole⟩
theorem pcs_one (s : List UInt8) : pcs [s] = piecesF s := by rw [pcs_cons]; simp [pcs]
/-- What an Append that has room makes of it. -/
theorem fl_append {f n base0 N e a a0 m : Nat} {k : Dk} {rb base done rest : List (List UInt8)} (h : Fl f n base0 N e k a rb base a0 done rest m) {s : List UInt8} (hs : s.length ≤ 1000) (hfit : fitsL ((n : Int) - (a : Int)) s) :
    (appE k (f : Int) n e a s = 0 ∧ appA k (f : Int) n e a s = a + manyN s.length ∧ rest = [] ∧ Fl f n base0 N e (appK k (f : Int) n e a s) (a + manyN s.length) rb base a0 (done ++ [s]) [] m) ∨
    (appE k (f : Int) n e a s = 21 ∧ appA k (f : Int) n e a s = a ∧ Fl f n base0 N e (appK k (f : Int) n e a s) a rb base a0 done (rest ++ [s]) m) := by
  have hfn := h.fn
  have hatn := h.atn
  have hat := h.at_
  have hlen := h.len
  have he1 := h.e1
  have hf2 := hfit.2
  have hpl := piecesF_len s
  have hpos := manyN_pos s.length
  obtain ⟨e1, e2⟩ := app_yes (k := k) (f := (f : Int)) (e := e) (lgE_0.2 hfit)
  rw [show (f : Int) + (a : Int) = ((f + a : Nat) : Int) by omega] at e1 e2
  have hbl : (lblks e a (piecesF s)).length = manyN s.length := by rw [lblks_len, piecesF_len]
  have hb64 := lblks_64 (e := e) (by omega) (piecesF_48 s) a
  have ht : ∀ t ∈ done ++ (rest ++ [s]), t.length ≤ 1000 := fun t ht => by
    rw [← List.append_assoc] at ht
    rcases List.mem_append.1 ht with ht | ht
    · exact h.t1000 t ht
    · rw [List.mem_singleton.1 ht]; exact hs
  have hP : pcs (done ++ (rest ++ [s])) = pcs (done ++ rest) ++ piecesF s := by rw [← List.append_assoc, pcs_app _ [s], pcs_one]
  cases hd : k.dead with
  | true =>
    obtain ⟨g1, g2, g3, g4⟩ := wrs_dead (lblks e a (piecesF s)) k ((f + a : Nat) : Int) hd (fun x => by rw [x] at hbl; simp at hbl; omega) hb64 (by omega) (by rw [hbl, hlen]; omega)
    have hE : appE k (f : Int) n e a s = 21 := e2.trans g1
    refine .inr ⟨hE, app_A1 (by rw [hE]; decide), ?_⟩
    rw [e1]
    have hv : view (wrsK k ((f + a : Nat) : Int) (lblks e a (piecesF s))) = view k := by unfold view; rw [g2, g3]
    refine ⟨by rw [g2]; exact hlen, hfn, h.n4, he1, h.e2, h.be, ht, h.rp0, hat, hatn, h.rbl, by rw [g2, hP]; exact h.over.extend (piecesF_48 s), by rw [g2]; exact h.olds, fun x hx => ?_, by rw [hv]; exact h.vw, fun x => (by rw [g4] at x; cases x), h.ml, by rw [g2]; exact h.whole⟩
    rw [g3] at hx
    obtain ⟨i, p, q1, q2, q3⟩ := h.wat x hx
    exact ⟨i, p, by rw [hP, List.getElem?_append_left (List.getElem?_eq_some_iff.1 q1).1]; exact q1, q2, q3⟩
  | false =>
    have hrest := h.live hd
    subst hrest
    rw [List.append_nil] at hP
    rw [List.nil_append] at hP ht ⊢
    have hover := h.over
    have hwat := h.wat
    rw [List.append_nil] at hover hwat
    obtain ⟨j, hj, g2, g3, g4⟩ := wrs_all (lblks e a (piecesF s)) k ((f + a : Nat) : Int) hb64 (by omega) (by rw [hbl, hlen]; omega)
    have hwat' : ∀ x ∈ (wrsK k ((f + a : Nat) : Int) (lblks e a (piecesF s))).W, ∃ (i : Nat) (p : List UInt8), (pcs (done ++ [s]))[i]? = some p ∧ a0 + i < n ∧ x = (((f + a0 + i : Nat) : Int), sealL e (a0 + i) p) := fun x hx => by
      rw [g3] at hx
      rcases List.mem_append.1 hx with hx | hx
      · obtain ⟨i, p, q1, q2, q3⟩ := hwat x hx
        exact ⟨i, p, by rw [hP, List.getElem?_append_left (List.getElem?_eq_some_iff.1 q1).1]; exact q1, q2, q3⟩
      · obtain ⟨i, b, q1, q2⟩ := places_mem hx
        rw [List.getElem?_take] at q1
        split at q1
        · rename_i hij
          rw [lblks_at] at q1
          cases hp : (piecesF s)[i]? with
          | none => rw [hp] at q1; cases q1
          | some p =>
            rw [hp] at q1
            simp only [Option.map_some, Option.some.injEq] at q1
            have hi : i < (piecesF s).length := (List.getElem?_eq_some_iff.1 hp).1
            refine ⟨(pcs done).length + i, p, ?_, by omega, ?_⟩
            · rw [hP, List.getElem?_append_right (by omega), show (pcs done).length + i - (pcs done).length = i by omega]; exact hp
            · rw [q2, ← q1, show a0 + ((pcs done).length + i) = a + i by omega]
              rw [Prod.mk.injEq]; exact ⟨by omega, rfl⟩
        · cases q1
    have hvw : ∀ (t : Nat), t ≤ (lblks e a (piecesF s)).length → ∀ i, i < N → (applyW (view k) (places ((f + a : Nat) : Int) ((lblks e a (piecesF s)).take t))).getD i [] = if f + a ≤ i ∧ i < f + a + t then (lblks e a (piecesF s)).getD (i - (f + a)) [] else (view k).getD i [] := fun t ht' i hi => by
      have hvl := view_len k
      have htl : ((lblks e a (piecesF s)).take t).length = t := by rw [List.length_take]; omega
      rw [applyW_places _ _ _ (by rw [htl, hvl]; omega) i (by rw [hvl]; omega), htl]
      by_cases hc : f + a ≤ i ∧ i < f + a + t
      · rw [if_pos hc, if_pos hc, List.getD_eq_getElem?_getD, List.getElem?_take, if_pos (by omega), List.getD_eq_getElem?_getD]
      · rw [if_neg hc, if_neg hc]
    have hview : view (wrsK k ((f + a : Nat) : Int) (lblks e a (piecesF s))) = applyW (view k) (places ((f + a : Nat) : Int) ((lblks e a (piecesF s)).take j)) := by unfold view; rw [g2, g3, applyW_app]
    have hvold : ∀ i p, (pcs done)[i]? = some p → (view (wrsK k ((f + a : Nat) : Int) (lblks e a (piecesF s)))).getD (f + a0 + i) [] = sealL e (a0 + i) p := fun i p hp => by
      have hi := (List.getElem?_eq_some_iff.1 hp).1
      rw [hview, hvw j (by omega) _ (by omega), if_neg (by omega)]
      exact h.vw i p hp
    rcases g4 with ⟨g4, g5, g6⟩ | ⟨g4, g5, g6⟩
    · have hE : appE k (f : Int) n e a s = 0 := e2.trans g4
      refine .inl ⟨hE, app_A0 hE, rfl, ?_⟩
      rw [e1]
      refine ⟨by rw [g2]; exact hlen, hfn, h.n4, he1, h.e2, h.be, by rw [List.append_nil]; exact ht, h.rp0, by rw [hP, List.length_append, hpl]; omega, by omega, h.rbl, by rw [g2, List.append_nil, hP]; exact hover.extend (piecesF_48 s), by rw [g2]; exact h.olds, by rw [List.append_nil]; exact hwat', fun i p hp => ?_, fun _ => rfl, by rw [List.length_append]; have := h.ml; omega, ?_⟩
      · rw [hP] at hp
        rcases Nat.lt_or_ge i (pcs done).length with hi | hi
        · rw [List.getElem?_append_left hi] at hp; exact hvold i p hp
        · rw [List.getElem?_append_right hi] at hp
          have hi2 := (List.getElem?_eq_some_iff.1 hp).1
          rw [hview, hvw j (by omega) _ (by omega), if_pos (by omega), show f + a0 + i - (f + a) = i - (pcs done).length by omega, lblks_get hp]
          congr 1; omega
      · rw [g2, List.take_append_of_le_length h.ml]; exact h.whole
    · have hE : appE k (f : Int) n e a s = 21 := e2.trans g4
      refine .inr ⟨hE, app_A1 (by rw [hE]; decide), ?_⟩
      rw [e1]
      exact ⟨by rw [g2]; exact hlen, hfn, h.n4, he1, h.e2, h.be, ht, h.rp0, hat, hatn, h.rbl, by rw [g2, hP]; exact hover.extend (piecesF_48 s), by rw [g2]; exact h.olds, hwat', hvold, fun x => (by rw [g6] at x; cases x), h.ml, by rw [g2]; exact h.whole⟩
theorem fl_sync {f n base0 N e a a0 m : Nat} {k : Dk} {rb base done rest : List (List UInt8)} (h : Fl f n base0 N e k a rb base a0 done rest m) :
    (k.syncE = 0 ∧ rest = [] ∧ Fl f n base0 N e k.sync a rb base a0 done [] done.length) ∨ (k.syncE = 21 ∧ Fl f n base0 N e k.sync a rb base a0 done rest m) := by
  have hfn := h.fn
  have hatn := h.atn
  have hat := h.at_
  have hlen := h.len
  have he1 := h.e1
  cases hd : spD k.fuse k.dead with
  | true =>
    obtain ⟨e1, e2⟩ := sync_dead hd
    refine .inr ⟨e2, ?_⟩
    rw [e1]
    exact ⟨hlen, hfn, h.n4, he1, h.e2, h.be, h.t1000, h.rp0, hat, hatn, h.rbl, h.over, h.olds, h.wat, h.vw, fun x => (by rw [show k.spent.dead = true from hd] at x; cases x), h.ml, h.whole⟩
  | false =>
    obtain ⟨e1, e2⟩ := sync_live hd
    have hkd : k.dead = false := by
      cases hq : k.dead with
      | false => rfl
      | true => unfold spD at hd; rw [hq] at hd; cases hd
    have hrest := h.live hkd
    subst hrest
    refine .inl ⟨e2, rfl, ?_⟩
    rw [e1]
    have hL : k.spent.flushed.L = view k := rfl
    have hover := h.over
    have hwat := h.wat
    rw [List.append_nil] at hover hwat
    have hvl := view_len k
    have hwhole : WholeTo e (reg f n (view k)) a0 (pcs done) := fun i p hp => by
      have hi := (List.getElem?_eq_some_iff.1 hp).1
      rw [reg_get _ (by omega), ← Nat.add_assoc]; exact h.vw i p hp
    have hother : ∀ i, i < n → (i < a0 ∨ a0 + (pcs done).length ≤ i) → (reg f n (view k)).getD i [] = (reg f n k.L).getD i [] := fun i hi hc => by
      rw [reg_get _ hi, reg_get _ hi]
      refine applyW_other _ _ (fun x hx => ?_)
      obtain ⟨t, p, q1, _, q3⟩ := hwat x hx
      have ht := (List.getElem?_eq_some_iff.1 q1).1
      rw [q3]; simp only; omega
    refine ⟨by rw [hL, hvl]; exact hlen, hfn, h.n4, he1, h.e2, h.be, by have := h.t1000; exact this, h.rp0, hat, hatn, h.rbl, ?_, fun i hi => ?_, fun x hx => (by cases hx), fun i p hp => ?_, fun _ => rfl, Nat.le_refl _, by rw [List.take_length, hL]; exact hwhole⟩
    · rw [hL, List.append_nil]
      refine ⟨by rw [reg_len (by rw [hvl]; omega)]; exact h.rbl.symm, hover.low, hover.e1, hover.e2, fun i p hp hi => ?_, fun i hi => ?_, hover.p48⟩
      · rw [hwhole i p hp]
        exact lain_seal (by omega) h.e2 (hover.p48 p (List.mem_of_getElem? hp))
      · by_cases hin : i < n
        · rw [hother i hin (.inr hi)]; exact hover.olds i hi
        · rw [reg_out _ (by omega), list_out (by rw [h.rbl]; omega)]
    · rw [hL, hother i (by omega) (.inl hi)]; exact h.olds i hi
    · exact h.vw i p hp
/-- What a crash leaves: the first ones of what was appended, all that is sure. -/
theorem fl_crash {f n base0 N e a a0 m : Nat} {k : Dk} {rb base done rest : List (List UInt8)} (h : Fl f n base0 N e k a rb base a0 done rest m) (ks : List (Int × Int)) :
    (k.crash ks).L.length = N ∧ (∀ i, i < n → Low e ((reg f n (k.crash ks).L).getD i [])) ∧ ∃ j a1, m ≤ j ∧ j ≤ (done ++ rest).length ∧ rp (reg f n (k.crash ks).L) e base0 0 = (base ++ (done ++ rest).take j, a1) := by
  have hfn := h.fn
  have hatn := h.atn
  have hat := h.at_
  have hlen := h.len
  have he1 := h.e1
  have he2 := h.e2
  have hover := h.over
  have hrl := reg_len (n := n) (f := f) (L := k.L) (by omega)
  have hcl : (k.crash ks).L.length = N := by rw [crash_len]; exact hlen
  have hinv := keeps_inv (W := k.W) (fun r b => ∀ i, i < n → r = f + i → (∀ t p, (pcs (done ++ rest))[t]? = some p → i = a0 + t → Lain e p (rb.getD i []) b) ∧ ((i < a0 ∨ a0 + (pcs (done ++ rest)).length ≤ i) → b = rb.getD i []) ∧ (∀ t p, (pcs (done.take m))[t]? = some p → i = a0 + t → b = sealL e i p)) (fun x hx b c hc hI => by
      intro i hi hr
      obtain ⟨t, p, q1, q2, q3⟩ := h.wat x hx
      have ht := (List.getElem?_eq_some_iff.1 q1).1
      have hx1 : x.1.toNat = f + a0 + t := by rw [q3]; simp only; omega
      have hit : i = a0 + t := by omega
      obtain ⟨i1, i2, i3⟩ := hI i hi hr
      have hlow := hover.low i (by rw [h.rbl]; exact hi)
      have hp48 := hover.p48 p (List.mem_of_getElem? q1)
      refine ⟨fun t' p' hp' hi' => ?_, fun hc' => by omega, fun t' p' hp' hi' => ?_⟩
      · have : t' = t := by omega
        subst this
        rw [q1] at hp'; cases hp'
        rw [q3, ← hit]
        exact lain_over hlow hover.e1 he2 hp48 (i1 _ _ q1 hit) hc
      · have : t' = t := by omega
        subst this
        have hb := i3 _ _ hp' hit
        have hpp : p' = p := by
          have h1 := (List.getElem?_eq_some_iff.1 hp').1
          have hsub : pcs (done ++ rest) = pcs (done.take m) ++ pcs (done.drop m ++ rest) := by rw [← pcs_app, ← List.append_assoc, List.take_append_drop]
          rw [hsub, List.getElem?_append_left h1, hp'] at q1
          cases q1; rfl
        rw [hb, q3, hpp, ← hit, List.take_append_drop]) ks k.L (fun x hx => by
      obtain ⟨t, p, _, q2, q3⟩ := h.wat x hx
      rw [q3, hlen]; simp only; omega) (fun r hr i hi hri => by
      subst hri
      have hg := reg_get k.L hi (f := f)
      refine ⟨fun t p hp hit => ?_, fun hc => ?_, fun t p hp hit => ?_⟩
      · have := hover.news t p hp (by rw [h.rbl]; omega)
        rw [← hit, hg] at this; exact this
      · rw [← hg]
        rcases hc with hc | hc
        · exact h.olds i hc
        · exact hover.olds i hc
      · have := h.whole t p hp
        rw [← hit, hg] at this; exact this)
  have hblk : ∀ i, i < n → (reg f n (k.crash ks).L).getD i [] = (keepsL k.W k.L ks).getD (f + i) [] := fun i hi => reg_get _ hi
  have hI := fun i (hi : i < n) => hinv (f + i) (by rw [hlen]; omega) i hi rfl
  have hover' : Over (e - 1) e rb (reg f n (k.crash ks).L) a0 (pcs (done ++ rest)) := by
    refine ⟨by rw [reg_len (by rw [hcl]; omega)]; exact h.rbl.symm, hover.low, hover.e1, he2, fun t p hp ht => ?_, fun i hi => ?_, hover.p48⟩
    · rw [h.rbl] at ht
      rw [hblk _ ht]; exact (hI _ ht).1 t p hp rfl
    · by_cases hin : i < n
      · rw [hblk i hin]; exact (hI i hin).2.1 (.inr hi)
      · rw [reg_out _ (by omega), list_out (by rw [h.rbl]; omega)]
  have ha0 : a0 ≤ n := by omega
  refine ⟨hcl, fun i hi => ?_, ?_⟩
  · have hlow := hover.low i (by rw [h.rbl]; exact hi)
    by_cases hc : i < a0 ∨ a0 + (pcs (done ++ rest)).length ≤ i
    · rw [hblk i hi, (hI i hi).2.1 hc]; exact hlow.mono (by omega)
    · obtain ⟨p, hp⟩ := getI (show i - a0 < (pcs (done ++ rest)).length by omega)
      have := (hI i hi).1 (i - a0) p hp (by omega)
      rw [hblk i hi]
      exact low_lain hlow (by omega) this
  · have hsub : (pcs (done.take m)).length ≤ (pcs done).length := by
      have : pcs done = pcs (done.take m) ++ pcs (done.drop m) := by rw [← pcs_app, List.take_append_drop]
      rw [this, List.length_append]; omega
    have hm := h.ml
    have htk : (done ++ rest).take m = done.take m := List.take_append_of_le_length hm
    have key := more_all (base := base0) (rb := rb) (rb' := reg f n (k.crash ks).L) (by rw [reg_len (by rw [hcl]; omega)]; exact h.n4) (ts := done ++ rest) (m := m) (by rw [h.rp0]; exact hover') (fun i hi => by
        rw [h.rp0] at hi
        have hi : i < a0 := hi
        rw [hblk i (by omega)]; exact (hI i (by omega)).2.1 (.inl hi)) h.be h.t1000 (by rw [List.length_append]; omega) (by
        rw [h.rp0, htk]
        intro t p hp
        have ht := (List.getElem?_eq_some_iff.1 hp).1
        show (reg f n (k.crash ks).L).getD (a0 + t) [] = sealL e (a0 + t) p
        rw [hblk _ (by omega)]; exact (hI _ (by omega)).2.2 t p hp rfl) (by
        rw [h.rp0, htk, reg_len (by rw [hcl]; omega)]
        show a0 + _ ≤ n
        omega)
    obtain ⟨j, j1, j2, j3⟩ := key
    rw [h.rp0] at j3
    exact ⟨j, _, j1, j2, j3⟩

end
end Go.Proofs.YtbblkgdejgoncaaDoor

/- Calls of contracts that read blocks of which not all are listed one by one. No program in sight. -/
set_option linter.unusedSimpArgs false
set_option linter.unusedVariables false
namespace Go.Proofs.YtbblkgdejgoncaaDoor
open Go Go.RowKit

theorem subA_nil {M : List (Option Nat × Obj)} : ∀ x ∈ ([] : List (Option Nat × Obj)), x ∈ M := fun _ h => by cases h
theorem subA_cons {M A : List (Option Nat × Obj)} {x : Option Nat × Obj} (hx : x ∈ M) (h : ∀ y ∈ A, y ∈ M) : ∀ y ∈ x :: A, y ∈ M := fun y hy => by
  rcases List.mem_cons.1 hy with e | hy
  · subst e; exact hx
  · exact h y hy
section
variable {c : Cx} {n : Nat} {env : List (Nat × Value)} {L : List (Option Nat × Obj)} {k : List Item}
theorem G_callM {ops : Array Oper} {i : Nat} {rest : List Nat} {o : Oper} {d : Nat} {g : FuncId} {xs : Array Operand} {ts : Array TypeId} {args : List Value} {A' L' L2 : List (Option Nat × Obj)} {R' : Value → List (Option Nat × Obj) → Prop}
    (ho : ops[i]? = some o) (hd : o.dst = some d) (hn : Nat.blt d n = true) (hg : fguard ops env o = some true) (hop : o.op = .call ⟨.value (.func g), xs, ts⟩) (hxs : fevs env xs.toList = some args)
    (hcf : ∀ (az : Array Value) w, (callFunc g az).run c.P w = .ok (.enter g az) w) (hct : Ct c.P g args A' L' R') (is : List Nat) (hL : tk is L = some (L', L2)) (hA : ∀ x ∈ A', x ∈ c.A ++ L2)
    (K : ∀ v post, R' v post → G c n ((d, v) :: env) (post ++ L2) (.inRegion ops rest :: k)) : G c n env L (.inRegion ops (i :: rest) :: k) := by
  intro a w hk hm
  refine goes_op ho (wanted_of hk hg) ?_
  have hx : xs.map a.eval = args.toArray := by
    apply Array.toList_inj.1
    simpa using hk.evals hxs
  have hr : (execOp a.eval o).run c.P w = .ok (.enter g args.toArray) w := by
    unfold execOp
    simp [hop, resolve, Act.eval, Deferred.ofValue, hx, invoke, hcf]
  rw [hr, Oper.upon_enter]
  refine (hct w (hm.has_callP (tk_perm hL) hA)).mono fun e w' ⟨v, post, he, hR, hp⟩ => ?_
  subst he
  simp only [hd]
  exact K v post hR _ w' (hk.put hn v) (hm.callP (tk_perm hL) hp)
theorem G_callMN {ops : Array Oper} {i : Nat} {rest : List Nat} {o : Oper} {g : FuncId} {xs : Array Operand} {ts : Array TypeId} {args : List Value} {A' L' L2 : List (Option Nat × Obj)} {R' : Value → List (Option Nat × Obj) → Prop}
    (ho : ops[i]? = some o) (hd : o.dst = none) (hg : fguard ops env o = some true) (hop : o.op = .call ⟨.value (.func g), xs, ts⟩) (hxs : fevs env xs.toList = some args)
    (hcf : ∀ (az : Array Value) w, (callFunc g az).run c.P w = .ok (.enter g az) w) (hct : Ct c.P g args A' L' R') (is : List Nat) (hL : tk is L = some (L', L2)) (hA : ∀ x ∈ A', x ∈ c.A ++ L2)
    (K : ∀ v post, R' v post → G c n env (post ++ L2) (.inRegion ops rest :: k)) : G c n env L (.inRegion ops (i :: rest) :: k) := by
  intro a w hk hm
  refine goes_op ho (wanted_of hk hg) ?_
  have hx : xs.map a.eval = args.toArray := by
    apply Array.toList_inj.1
    simpa using hk.evals hxs
  have hr : (execOp a.eval o).run c.P w = .ok (.enter g args.toArray) w := by
    unfold execOp
    simp [hop, resolve, Act.eval, Deferred.ofValue, hx, invoke, hcf]
  rw [hr, Oper.upon_enter]
  refine (hct w (hm.has_callP (tk_perm hL) hA)).mono fun e w' ⟨v, post, he, hR, hp⟩ => ?_
  subst he
  simp only [hd]
  exact K v post hR _ w' (hk.putNone v) (hm.callP (tk_perm hL) hp)
end
/-- A slice that the call has is appended to another one. -/
theorem src_own {c : Cx} {L : List (Option Nat × Obj)} {u : Sl} {m : Nat} {T : TypeId} {news : List Value} (hu : Own 1 u news m) (hm : (u.ob, Obj.cells u.cs T u.fz) ∈ c.A ++ L) (h1 : ∀ x ∈ news, x.oneCell' = true) (w : World) (hw : Has w c.A L) :
    Src c.P w 1 (u.v m) m news := by
  obtain ⟨ob, cs, fz, cap⟩ := u
  have hs := hu.sees
  cases ob with
  | none =>
    have h0 := hs.isNil rfl
    have h2 := hs.le
    simp only at h0 h2
    have hm0 : m = 0 := by omega
    have hl := hs.len
    rw [hm0, Nat.zero_mul] at hl
    rw [List.length_eq_zero_iff.1 hl, hm0]
    show Src c.P w 1 (.slice none 0 cap) 0 []
    rw [h0]
    exact src_nil
  | some b => exact src_mem hm hs.len (by rw [hs.len]; exact hs.part) h1 w hw
theorem strs_all (ls : List (List UInt8)) : ∀ u ∈ ls.map strC, u.oneCell' = true := by
  intro u hu
  obtain ⟨l, _, rfl⟩ := List.mem_map.1 hu
  simp [strC, Value.oneCell']
theorem sees_nil0 (sz : Nat) : Sees sz none 0 0 #[] [] 0 := ⟨by simp, Nat.le_refl _, by omega, by simp, fun _ => rfl⟩
end Go.Proofs.YtbblkgdejgoncaaDoor
