/- What the laws of layer 27 say: what was put is got; the reference; the example. -/
import Derived.Test.YtbblkgdejgoncaaDoorSnapW
import Derived.Test.YtbblkgdejgoncaaDoorLaw3
set_option linter.unusedSimpArgs false
set_option linter.unusedVariables false
namespace Go.Proofs.YtbblkgdejgoncaaDoor
open Go Go.ChangeShapes Go.WideShapes Go.ChangeAt Go.RowKit

section
theorem infSnapL_5 : Tryd.prog.info? 5 = some Tryd.t5 := by kernel_rfl


theorem blksS_get (e : Nat) (s : List UInt8) {i : Nat} (h : i < manyS s.length) : (blksS e s).getD i [] = blkS e s i := by rw [List.getD_eq_getElem?_getD, blksS_at e s h]; rfl
/-- What a disk reads behind a text was put whole. -/
theorem view_put {k : Dk} {f : Nat} {b : Int} {e : Nat} {s : List UInt8} (h : DkOk k) (hl : Lively k) (hr : regE k.L.length (f : Int) b e = 0) (hm : (manyS s.length : Int) ≤ b) :
    putE k (f : Int) b e s = 0 ∧ Lively (putK k (f : Int) b e s) ∧ (putK k (f : Int) b e s).L = k.L ∧ (putK k (f : Int) b e s).W = k.W ++ places (f : Int) (blksS e s) ∧
    ∀ i, i < k.L.length → (view (putK k (f : Int) b e s)).getD i [] = if f ≤ i ∧ i < f + manyS s.length then blkS e s (i - f) else (view k).getD i [] := by
  obtain ⟨e1, e2⟩ := put_yes (k := k) (s := s) hr hm
  have hr' := hr
  rw [regE_ok] at hr'
  have hbl := blksS_len e s
  obtain ⟨g1, g2, g3, g4⟩ := wrs_lively (blksS e s) k (f : Int) hl (blksS_64 s hr'.2.2.2) (by omega) (by rw [hbl]; omega)
  rw [e1, e2]
  refine ⟨g1, g4, g2, g3, fun i hi => ?_⟩
  have hv : view (wrsK k (f : Int) (blksS e s)) = applyW (view k) (places (f : Int) (blksS e s)) := by
    unfold view; rw [g2, g3, applyW_app]
  have hvl := view_len k
  rw [hv, applyW_places _ _ _ (by rw [hbl, hvl]; omega) i (by rw [hvl]; exact hi), hbl]
  by_cases hc : f ≤ i ∧ i < f + manyS s.length
  · rw [if_pos hc, if_pos hc, blksS_get e s (by omega)]
  · rw [if_neg hc, if_neg hc]
/-- What reads as a text's blocks is got as the text. -/
theorem got_of {k : Dk} {f : Nat} {b : Int} {e : Nat} {s : List UInt8} (h : DkOk k) (hd : k.dead = false) (he : e < 4294967296) (hr : regE k.L.length (f : Int) b e = 0) (hm : (manyS s.length : Int) ≤ b) (hv : ∀ i, i < manyS s.length → (view k).getD (f + i) [] = blkS e s i) :
    gotT k (f : Int) b e (s.length : Int) = s ∧ gotE k (f : Int) b e (s.length : Int) = 0 := by
  obtain ⟨e1, e2⟩ := got_yes (z := (s.length : Int)) hr
  rw [e1, e2]
  have hr' := hr
  rw [regE_ok] at hr'
  have h4 := h.n4
  refine get_text hr'.2.2.2 he (by omega) (by rw [rdB_len]; omega) (fun i hi => ?_)
  have hrd : (rdB k (f : Int) b.toNat).getD i [] = blkS e s i := by
    rw [rdB_get (by omega), show (f : Int) + (i : Int) = ((f + i : Nat) : Int) by omega, (read_view h hd (by omega)).1, hv i hi]
  rw [hrd]
  exact blk_open hr'.2.2.2 he hi (by omega)
theorem put_got {k : Dk} {f : Nat} {b : Int} {e : Nat} {s : List UInt8} (h : DkOk k) (hl : Lively k) (he : e < 4294967296) (hr : regE k.L.length (f : Int) b e = 0) (hm : (manyS s.length : Int) ≤ b) :
    gotT (putK k (f : Int) b e s) (f : Int) b e (s.length : Int) = s ∧ gotE (putK k (f : Int) b e s) (f : Int) b e (s.length : Int) = 0 := by
  obtain ⟨e1, e2, e3, e4, e5⟩ := view_put (s := s) h hl hr hm
  have hr' := hr
  rw [regE_ok] at hr'
  refine got_of (put_ok h _ _ _ _) e2.dead he (by rw [put_len]; exact hr) hm (fun i hi => ?_)
  rw [e5 (f + i) (by omega), if_pos (by omega), Nat.add_sub_cancel_left]
def liveT : List UInt8 := List.replicate 47 0 ++ [97, 98]
theorem liveT_len : liveT.length = 49 := rfl
theorem live_snap : putE (newD 5) 1 3 7 liveT = 0 ∧ gotT (putK (newD 5) 1 3 7 liveT) 1 3 7 49 = liveT ∧ gotE (putK (newD 5) 1 3 7 liveT) 1 3 7 49 = 0 ∧ (putK (newD 5) 1 3 7 liveT).dead = false := by
  have h := newD_ok 5 (by omega) (by omega)
  have hr : regE (newD 5).L.length ((1 : Nat) : Int) 3 7 = 0 := by decide
  have hm : (manyS liveT.length : Int) ≤ 3 := by decide
  obtain ⟨a, b⟩ := put_got (s := liveT) h (newD_lively 5) (by omega) hr hm
  obtain ⟨c, d, _⟩ := view_put (s := liveT) h (newD_lively 5) hr hm
  exact ⟨c, a, b, d.dead⟩

set_option maxRecDepth 100000 in
set_option maxHeartbeats 1000000 in
theorem rsn_many (n : Nat) (h : n ≤ 9223372036854775000) :
    Ct Tryd.prog 25 [.int .i64 (n : Int)] [] [] fun v post => v = .int .i64 ((manyS n : Nat) : Int) ∧ post = [] := by
 refine ct_of Tryd.func25 rfl rfl (fun w0 => ?_)
 show G _ _ [(0, _)] _ _
 refine G_seq ?_
 refine G_region (l := [0]) rfl ?_
 refine G_val rfl rfl rfl rfl (V_assign rfl rfl) ?_
 refine G_done ?_
 refine G_seq ?_
 refine G_region (l := [0]) rfl ?_
 refine G_val rfl rfl rfl rfl (V_assign rfl rfl) ?_
 refine G_done ?_
 refine G_seq ?_
 refine G_block ?_
 refine G_sub ?he2 [] ?hl2 (G_loop (X := Nat) (fun k => 48 * k < n + 48) (fun k => n + 48 - 48 * k) (fun k => [(0, .int .i64 (n : Int)), (3, .int .i64 (k : Int))]) (fun k => []) ?round2 0 ?h02)
 case he2 => exact (And.intro rfl (And.intro rfl trivial))
 case hl2 => exact ⟨_, rfl⟩
 case h02 => omega
 case round2 =>
  intro k hJ ih
  try dsimp only at hJ ih
  refine G_seq ?_
  refine G_seq ?_
  refine G_region (l := [0, 1, 2, 3]) rfl ?_
  refine G_val rfl rfl rfl rfl (V_move rfl rfl) ?_
  first
    | refine G_val rfl rfl rfl rfl ((V_mul rfl rfl rfl).int (wrap_i64 (by omega))) ?_
    | refine G_val rfl rfl rfl rfl (V_mul rfl rfl rfl) ?_
  refine G_val rfl rfl rfl rfl (V_move rfl rfl) ?_
  refine G_val rfl rfl rfl rfl (V_lss rfl rfl rfl) ?_
  refine G_done ?_
  refine G_ifD rfl (fun hc1 => ?_) (fun hc1 => ?_)
  · skip
    refine G_skip ?_
    refine G_block ?_
    refine G_region (l := [0, 1, 2]) rfl ?_
    refine G_val rfl rfl rfl rfl (V_move rfl rfl) ?_
    first
      | refine G_val rfl rfl rfl rfl ((V_add rfl rfl rfl).int (wrap_i64 (by omega))) ?_
      | refine G_val rfl rfl rfl rfl (V_add rfl rfl rfl) ?_
    refine G_val rfl rfl rfl rfl (V_assign rfl rfl) ?_
    refine G_done ?_
    refine G_inBlock ?_
    refine G_sub ?_ [] ?_ (ih (k + 1) ?_ ?_)
    · (refine (And.intro ?_ (And.intro ?_ trivial)) <;> first | rfl | exact slot_int (by omega) | exact slot_int (by simp))
    · exact ⟨_, rfl⟩
    · omega
    · omega
  refine G_exit rfl ?_
  refine G_seq ?_
  refine G_region (l := [0, 1]) rfl ?_
  refine G_val rfl rfl rfl rfl (V_move rfl rfl) ?_
  refine G_val rfl rfl rfl rfl (V_assign rfl rfl) ?_
  refine G_done ?_
  refine G_ret (post := []) Tryd.func25 rfl (RVs_cons (RV_tmp rfl) RVs_nil) [] rfl ?_
  dsimp only [packed]
  exact ⟨by rw [show manyS n = k by unfold manyS; omega], rfl⟩


def regB (n : Nat) (f b : Int) : Prop := 0 ≤ f ∧ 1 ≤ b ∧ b ≤ (n : Int) ∧ f ≤ (n : Int) - b
instance (n : Nat) (f b : Int) : Decidable (regB n f b) := by unfold regB; infer_instance
theorem regE_B {n : Nat} {f b : Int} {e : Nat} (h : regB n f b) (he : ¬ (e : Int) = 0) : regE n f b e = 0 := by rw [regE_ok]; unfold regB at h; omega
theorem regE_notB {n : Nat} {f b : Int} {e : Nat} (h : ¬ regB n f b ∨ (e : Int) = 0) : regE n f b e = 1 := by
  unfold regE; unfold regB at h; rw [if_pos (by omega)]

set_option maxRecDepth 100000 in
set_option maxHeartbeats 1000000 in
theorem rl_region (n : Nat) (f b : Int) (hn : n ≤ 1000000) (hf0 : -9223372036854775808 ≤ f) (hf1 : f ≤ 9223372036854775807) (hb0 : -9223372036854775808 ≤ b) (hb1 : b ≤ 9223372036854775807) :
    Ct Tryd.prog 36 [.int .i64 (n : Int), .int .i64 f, .int .i64 b] [] [] fun v post => v = .bool (decide (regB n f b)) ∧ post = [] := by
 refine ct_of Tryd.func36 rfl rfl (fun w0 => ?_)
 show G _ _ [(0, _), (1, _), (2, _)] _ _
 refine G_seq ?_
 refine G_region (l := [0]) rfl ?_
 refine G_val rfl rfl rfl rfl (V_assign rfl rfl) ?_
 refine G_done ?_
 refine G_seq ?_
 refine G_region (l := [0, 1, 2, 3, 4, 5, 6, 7, 8, 9, 10, 11, 12, 13, 14, 15, 16, 17, 18]) rfl ?_
 refine G_val rfl rfl rfl rfl (V_move rfl rfl) ?_
 refine G_val rfl rfl rfl rfl (V_geq rfl rfl rfl) ?_
 refine G_val rfl rfl rfl rfl (V_move rfl rfl) ?_
 refine G_splitD 9 rfl (fun hc1 => ?_) (fun hc1 => ?_)
 · skip
   refine G_val rfl rfl rfl rfl (V_move rfl rfl) ?_
   refine G_val rfl rfl rfl rfl (V_geq rfl rfl rfl) ?_
   refine G_val rfl rfl rfl rfl (V_pickT rfl rfl rfl) ?_
   refine G_val rfl rfl rfl rfl (V_move rfl rfl) ?_
   refine G_splitD 13 rfl (fun hc2 => ?_) (fun hc2 => ?_)
   · skip
     refine G_val rfl rfl rfl rfl (V_move rfl rfl) ?_
     refine G_val rfl rfl rfl rfl (V_move rfl rfl) ?_
     refine G_val rfl rfl rfl rfl (V_leq rfl rfl rfl) ?_
     refine G_val rfl rfl rfl rfl (V_pickT rfl rfl rfl) ?_
     refine G_val rfl rfl rfl rfl (V_move rfl rfl) ?_
     refine G_splitD 18 rfl (fun hc3 => ?_) (fun hc3 => ?_)
     · skip
       refine G_val rfl rfl rfl rfl (V_move rfl rfl) ?_
       refine G_val rfl rfl rfl rfl (V_move rfl rfl) ?_
       refine G_val rfl rfl rfl rfl (V_move rfl rfl) ?_
       first
         | refine G_val rfl rfl rfl rfl ((V_sub rfl rfl rfl).int (wrap_i64 (by omega))) ?_
         | refine G_val rfl rfl rfl rfl (V_sub rfl rfl rfl) ?_
       refine G_val rfl rfl rfl rfl (V_leq rfl rfl rfl) ?_
       refine G_val rfl rfl rfl rfl (V_pickT rfl rfl rfl) ?_
       refine G_val rfl rfl rfl rfl (V_assign rfl rfl) ?_
       refine G_done ?_
       refine G_ret (post := []) Tryd.func36 rfl (RVs_cons (RV_tmp rfl) RVs_nil) [] rfl ?_
       dsimp only [packed]
       refine ⟨?_, rfl⟩; first | exact bool_eq (decide_eq_true (by unfold regB; omega)).symm | exact bool_eq (decide_eq_false (by unfold regB; omega)).symm | exact bool_eq (decide_eq_decide.2 (by unfold regB; omega))
     refine G_off rfl rfl rfl rfl ?_
     refine G_off rfl rfl rfl rfl ?_
     refine G_off rfl rfl rfl rfl ?_
     refine G_off rfl rfl rfl rfl ?_
     refine G_off rfl rfl rfl rfl ?_
     refine G_val rfl rfl rfl rfl (V_pickF rfl rfl rfl) ?_
     refine G_val rfl rfl rfl rfl (V_assign rfl rfl) ?_
     refine G_done ?_
     refine G_ret (post := []) Tryd.func36 rfl (RVs_cons (RV_tmp rfl) RVs_nil) [] rfl ?_
     dsimp only [packed]
     refine ⟨?_, rfl⟩; first | exact bool_eq (decide_eq_true (by unfold regB; omega)).symm | exact bool_eq (decide_eq_false (by unfold regB; omega)).symm | exact bool_eq (decide_eq_decide.2 (by unfold regB; omega))
   refine G_off rfl rfl rfl rfl ?_
   refine G_off rfl rfl rfl rfl ?_
   refine G_off rfl rfl rfl rfl ?_
   refine G_val rfl rfl rfl rfl (V_pickF rfl rfl rfl) ?_
   refine G_val rfl rfl rfl rfl (V_move rfl rfl) ?_
   refine G_off rfl rfl rfl rfl ?_
   refine G_off rfl rfl rfl rfl ?_
   refine G_off rfl rfl rfl rfl ?_
   refine G_off rfl rfl rfl rfl ?_
   refine G_off rfl rfl rfl rfl ?_
   refine G_val rfl rfl rfl rfl (V_pickF rfl rfl rfl) ?_
   refine G_val rfl rfl rfl rfl (V_assign rfl rfl) ?_
   refine G_done ?_
   refine G_ret (post := []) Tryd.func36 rfl (RVs_cons (RV_tmp rfl) RVs_nil) [] rfl ?_
   dsimp only [packed]
   refine ⟨?_, rfl⟩; first | exact bool_eq (decide_eq_true (by unfold regB; omega)).symm | exact bool_eq (decide_eq_false (by unfold regB; omega)).symm | exact bool_eq (decide_eq_decide.2 (by unfold regB; omega))
 refine G_off rfl rfl rfl rfl ?_
 refine G_off rfl rfl rfl rfl ?_
 refine G_val rfl rfl rfl rfl (V_pickF rfl rfl rfl) ?_
 refine G_val rfl rfl rfl rfl (V_move rfl rfl) ?_
 refine G_off rfl rfl rfl rfl ?_
 refine G_off rfl rfl rfl rfl ?_
 refine G_off rfl rfl rfl rfl ?_
 refine G_val rfl rfl rfl rfl (V_pickF rfl rfl rfl) ?_
 refine G_val rfl rfl rfl rfl (V_move rfl rfl) ?_
 refine G_off rfl rfl rfl rfl ?_
 refine G_off rfl rfl rfl rfl ?_
 refine G_off rfl rfl rfl rfl ?_
 refine G_off rfl rfl rfl rfl ?_
 refine G_off rfl rfl rfl rfl ?_
 refine G_val rfl rfl rfl rfl (V_pickF rfl rfl rfl) ?_
 refine G_val rfl rfl rfl rfl (V_assign rfl rfl) ?_
 refine G_done ?_
 refine G_ret (post := []) Tryd.func36 rfl (RVs_cons (RV_tmp rfl) RVs_nil) [] rfl ?_
 dsimp only [packed]
 refine ⟨?_, rfl⟩; first | exact bool_eq (decide_eq_true (by unfold regB; omega)).symm | exact bool_eq (decide_eq_false (by unfold regB; omega)).symm | exact bool_eq (decide_eq_decide.2 (by unfold regB; omega))

set_option maxRecDepth 100000 in
set_option maxHeartbeats 1000000 in
theorem rsn_wrong (n : Nat) (f b : Int) (hn : n ≤ 1000000) (hf0 : -9223372036854775808 ≤ f) (hf1 : f ≤ 9223372036854775807) (hb0 : -9223372036854775808 ≤ b) (hb1 : b ≤ 9223372036854775807) (e : Nat) :
    Ct Tryd.prog 24 [.int .i64 (n : Int), .int .i64 f, .int .i64 b, .int .u32 (e : Int)] [] [] fun v post => v = .int .i64 (regE n f b e) ∧ post = [] := by
 refine ct_of Tryd.func24 rfl rfl (fun w0 => ?_)
 show G _ _ [(0, _), (1, _), (2, _), (3, _)] _ _
 refine G_seq ?_
 refine G_region (l := [0]) rfl ?_
 refine G_val rfl rfl rfl rfl (V_assign rfl rfl) ?_
 refine G_done ?_
 refine G_seq ?_
 refine G_seq ?_
 refine G_region (l := [0, 1, 2, 3, 4, 5, 6, 7, 8]) rfl ?_
 refine G_val rfl rfl rfl rfl (V_move rfl rfl) ?_
 refine G_val rfl rfl rfl rfl (V_move rfl rfl) ?_
 refine G_val rfl rfl rfl rfl (V_move rfl rfl) ?_
 refine G_call (L2 := []) rfl rfl rfl rfl rfl rfl Tryd.call36 (rl_region _ _ _ (by omega) (by omega) (by omega) (by omega) (by omega)) [] [] rfl rfl ?_
 rintro v post ⟨rfl, rfl⟩
 refine G_val rfl rfl rfl rfl (V_not rfl rfl) ?_
 refine G_val rfl rfl rfl rfl (V_move rfl rfl) ?_
 refine G_split 14 rfl (fun hc1 => ?_) (fun hc1 => ?_)
 · skip
   refine G_off rfl rfl rfl rfl ?_
   refine G_off rfl rfl rfl rfl ?_
   refine G_val rfl rfl rfl rfl (V_pickT rfl rfl rfl) ?_
   refine G_done ?_
   refine G_then rfl ?_
   refine G_seq ?_
   refine G_region (l := [0]) rfl ?_
   refine G_val rfl rfl rfl rfl (V_assign rfl rfl) ?_
   refine G_done ?_
   refine G_ret (post := []) Tryd.func24 rfl (RVs_cons (RV_tmp rfl) RVs_nil) [] rfl ?_
   dsimp only [packed]
   refine ⟨int_eq ?_, rfl⟩
   first
     | exact (regE_notB (.inr (by omega))).symm
     | exact (regE_notB (.inl (by simp_all))).symm
     | exact (regE_B (by simp_all) (by omega)).symm
 refine G_val rfl rfl rfl rfl (V_move rfl rfl) ?_
 refine G_val rfl rfl rfl rfl (V_eql rfl rfl rfl) ?_
 refine G_val rfl rfl rfl rfl (V_pickF rfl rfl rfl) ?_
 refine G_done ?_
 refine G_ifD rfl (fun hc2 => ?_) (fun hc2 => ?_)
 · skip
   refine G_seq ?_
   refine G_region (l := [0]) rfl ?_
   refine G_val rfl rfl rfl rfl (V_assign rfl rfl) ?_
   refine G_done ?_
   refine G_ret (post := []) Tryd.func24 rfl (RVs_cons (RV_tmp rfl) RVs_nil) [] rfl ?_
   dsimp only [packed]
   refine ⟨int_eq ?_, rfl⟩
   first
     | exact (regE_notB (.inr (by omega))).symm
     | exact (regE_notB (.inl (by simp_all))).symm
     | exact (regE_B (by simp_all) (by omega)).symm
 refine G_skip ?_
 refine G_seq ?_
 refine G_region (l := [0]) rfl ?_
 refine G_val rfl rfl rfl rfl (V_assign rfl rfl) ?_
 refine G_done ?_
 refine G_ret (post := []) Tryd.func24 rfl (RVs_cons (RV_tmp rfl) RVs_nil) [] rfl ?_
 dsimp only [packed]
 refine ⟨int_eq ?_, rfl⟩
 first
   | exact (regE_notB (.inr (by omega))).symm
   | exact (regE_notB (.inl (by simp_all))).symm
   | exact (regE_B (by simp_all) (by omega)).symm

set_option maxRecDepth 100000 in
set_option maxHeartbeats 1000000 in
theorem rd_zero  :
    Ct Tryd.prog 30 [] [] [] fun v post => v = .string (bs zs64) ∧ post = [] := by
 refine ct_of Tryd.func30 rfl rfl (fun w0 => ?_)
 show G _ _ [] _ _
 refine G_seq ?_
 refine G_region (l := [0]) rfl ?_
 refine G_val rfl rfl rfl rfl (V_assign rfl rfl) ?_
 refine G_done ?_
 refine G_seq ?_
 refine G_region (l := [0, 1, 2]) rfl ?_
 refine G_new rfl rfl rfl rfl (N_make (l := 64) (m := 64) rfl Tryd.underlying27 infSnapL_5 rfl rfl rfl rfl rfl rfl rfl (by first | decide | omega) (by first | decide | omega | (show 1 * _ ≤ _; omega)) (by first | decide | omega)) (fun b1 => ?_)
 refine G_val rfl rfl rfl rfl (V_bytesS (l := (List.replicate 64 0)) rfl rfl Tryd.underlying27 Tryd.underlying5 Tryd.underlying9 (mem_at 0 rfl) (by simp) (by rfl)) ?_
 refine G_val rfl rfl rfl rfl (V_assign rfl rfl) ?_
 refine G_done ?_
 refine G_ret (post := []) Tryd.func30 rfl (RVs_cons (RV_tmp rfl) RVs_nil) [] rfl ?_
 dsimp only [packed]
 exact ⟨rfl, rfl⟩

set_option maxRecDepth 100000 in
set_option maxHeartbeats 1000000 in
theorem sl_num (n : Int) :
    Ct Tryd.prog 19 [.int .i64 n] [] [] fun v post => v = .int .i64 n ∧ post = [] := by
 refine ct_of Tryd.func19 rfl rfl (fun w0 => ?_)
 show G _ _ [(0, _)] _ _
 refine G_seq ?_
 refine G_region (l := [0]) rfl ?_
 refine G_val rfl rfl rfl rfl (V_assign rfl rfl) ?_
 refine G_done ?_
 refine G_seq ?_
 refine G_region (l := [0, 1]) rfl ?_
 refine G_val rfl rfl rfl rfl (V_move rfl rfl) ?_
 refine G_val rfl rfl rfl rfl (V_assign rfl rfl) ?_
 refine G_done ?_
 refine G_ret (post := []) Tryd.func19 rfl (RVs_cons (RV_tmp rfl) RVs_nil) [] rfl ?_
 dsimp only [packed]
 exact ⟨rfl, rfl⟩

set_option maxRecDepth 100000 in
set_option maxHeartbeats 1000000 in
theorem snl_live  :
    Ct Tryd.prog 16 [] [] [] fun v post => v = .bool true ∧ post = [] := by
 obtain ⟨lv1, lv2, lv3, lv4⟩ := live_snap
 refine ct_of Tryd.func16 rfl rfl (fun w0 => ?_)
 show G _ _ [] _ _
 refine G_seq ?_
 refine G_region (l := [0]) rfl ?_
 refine G_val rfl rfl rfl rfl (V_assign rfl rfl) ?_
 refine G_done ?_
 refine G_seq ?_
 refine G_region (l := [0, 1, 2, 3, 4, 5]) rfl ?_
 refine G_call (L2 := []) rfl rfl rfl rfl rfl rfl Tryd.call17 (dk_new 5 (by omega) (by omega)) [] [] rfl rfl ?_
 rintro v post ⟨d, lb, lcap, lcs, rfl, h, rfl⟩
 show G _ _ _ [_, _, _] _
 refine G_val rfl rfl rfl rfl (V_move rfl rfl) ?_
 refine G_val rfl rfl rfl rfl (V_extract rfl rfl rfl) ?_
 refine G_val rfl rfl rfl rfl (V_extract rfl rfl rfl) ?_
 refine G_val rfl rfl rfl rfl (V_assign rfl rfl) ?_
 refine G_val rfl rfl rfl rfl (V_assign rfl rfl) ?_
 refine G_done ?_
 refine G_seq ?_
 refine G_region (l := [0, 1, 2, 3]) rfl ?_
 refine G_new rfl rfl rfl rfl (N_make (l := 47) (m := 47) rfl Tryd.underlying27 infSnapL_5 rfl rfl rfl rfl rfl rfl rfl (by first | decide | omega) (by first | decide | omega | (show 1 * _ ≤ _; omega)) (by first | decide | omega)) (fun b11 => ?_)
 refine G_val rfl rfl rfl rfl (V_bytesS (l := (List.replicate 47 0)) rfl rfl Tryd.underlying27 Tryd.underlying5 Tryd.underlying9 (mem_at 0 rfl) (by simp) (by rfl)) ?_
 refine G_val rfl rfl rfl rfl (V_sadd rfl rfl rfl (by first | omega | (simp [wCells, kCells, wCells, kCells, wCells, kCells, wCells, kCells, wCells, kCells]; done) | (simp [wCells, kCells, wCells, kCells, wCells, kCells, wCells, kCells, wCells, kCells]; omega) | (simp [wCells, kCells, wCells, kCells, wCells, kCells, wCells, kCells, wCells, kCells] at *; omega))) ?_
 refine G_val rfl rfl rfl rfl (V_assign rfl rfl) ?_
 refine G_done ?_
 refine G_seq ?_
 rw [show List.replicate 47 0 ++ [97, 98] = liveT from rfl]
 refine G_region (l := [0, 1, 2, 3]) rfl ?_
 refine G_val rfl rfl rfl rfl (V_move rfl rfl) ?_
 refine G_val rfl rfl rfl rfl (V_move rfl rfl) ?_
 refine G_call (L2 := [_]) rfl rfl rfl rfl rfl rfl Tryd.call23 ((sn_put d 5 lb lcap lcs slNil (newD 5) h 1 3 7 (by omega) (by omega) (by omega) (by omega) (by omega) liveT (by decide) (by rw [liveT_len]; omega)).weaken (fun v post h => by rw [lv1] at h; exact h)) [1, 1, 1] [] rfl rfl ?_
 rintro v post ⟨rfl, lcs1, uw1, h1, rfl⟩
 show G _ _ _ [_, _, _, _] _
 refine G_val rfl rfl rfl rfl (V_assign rfl rfl) ?_
 refine G_done ?_
 refine G_seq ?_
 refine G_region (l := [0, 1, 2, 3, 4, 5, 6]) rfl ?_
 refine G_val rfl rfl rfl rfl (V_move rfl rfl) ?_
 refine G_call (L2 := [_, _, _, _]) rfl rfl rfl rfl rfl rfl Tryd.call21 ((sn_get d 5 lb lcap lcs1 uw1 (putK (newD 5) 1 3 7 liveT) h1 1 3 7 (by omega) (by omega) (by omega) (by omega) (by omega) 49 (by omega) lv4).weaken (fun v post h => by rw [lv2, lv3] at h; exact h)) [] [0, 1, 2] rfl rfl ?_
 rintro v post ⟨rfl, rfl⟩
 show G _ _ _ [_, _, _, _] _
 refine G_val rfl rfl rfl rfl (V_move rfl rfl) ?_
 refine G_val rfl rfl rfl rfl (V_extract rfl rfl rfl) ?_
 refine G_val rfl rfl rfl rfl (V_extract rfl rfl rfl) ?_
 refine G_val rfl rfl rfl rfl (V_assign rfl rfl) ?_
 refine G_val rfl rfl rfl rfl (V_assign rfl rfl) ?_
 refine G_done ?_
 refine G_seq ?_
 refine G_region (l := [0, 1, 2, 3, 4, 5, 6, 7, 8, 9, 10, 11, 12, 13, 14, 15, 16, 17, 18, 19, 20, 21]) rfl ?_
 refine G_call (L2 := [_, _, _, _]) rfl rfl rfl rfl rfl rfl Tryd.call26 (sn_many 48 (by omega)) [] [] rfl rfl ?_
 rintro v post ⟨rfl, rfl⟩
 show G _ _ _ [_, _, _, _] _
 refine G_val rfl rfl rfl rfl (V_eql rfl rfl rfl) ?_
 refine G_val rfl rfl rfl rfl (V_move rfl rfl) ?_
 refine G_splitD 24 rfl (fun hc1 => ?_) (fun hc1 => ?_)
 rotate_left
 · (first | (exact absurd rfl hc1) | (exact absurd hc1 (by decide)) | (exact absurd (by decide) hc1) | (exfalso; omega))
 refine G_call (L2 := [_, _, _, _]) rfl rfl rfl rfl rfl rfl Tryd.call26 (sn_many 49 (by omega)) [] [] rfl rfl ?_
 rintro v post ⟨rfl, rfl⟩
 show G _ _ _ [_, _, _, _] _
 refine G_val rfl rfl rfl rfl (V_eql rfl rfl rfl) ?_
 refine G_val rfl rfl rfl rfl (V_pickT rfl rfl rfl) ?_
 refine G_val rfl rfl rfl rfl (V_move rfl rfl) ?_
 refine G_splitD 28 rfl (fun hc2 => ?_) (fun hc2 => ?_)
 rotate_left
 · (first | (exact absurd rfl hc2) | (exact absurd hc2 (by decide)) | (exact absurd (by decide) hc2) | (exfalso; omega))
 refine G_val rfl rfl rfl rfl (V_move rfl rfl) ?_
 refine G_call (L2 := [_, _, _, _]) rfl rfl rfl rfl rfl rfl Tryd.call19 (sl_num _) [] [] rfl rfl ?_
 rintro v post ⟨rfl, rfl⟩
 show G _ _ _ [_, _, _, _] _
 refine G_val rfl rfl rfl rfl (V_eql rfl rfl rfl) ?_
 refine G_val rfl rfl rfl rfl (V_pickT rfl rfl rfl) ?_
 refine G_val rfl rfl rfl rfl (V_move rfl rfl) ?_
 refine G_splitD 33 rfl (fun hc3 => ?_) (fun hc3 => ?_)
 rotate_left
 · (first | (exact absurd rfl hc3) | (exact absurd hc3 (by decide)) | (exact absurd (by decide) hc3) | (exfalso; omega))
 refine G_val rfl rfl rfl rfl (V_move rfl rfl) ?_
 refine G_call (L2 := [_, _, _, _]) rfl rfl rfl rfl rfl rfl Tryd.call19 (sl_num _) [] [] rfl rfl ?_
 rintro v post ⟨rfl, rfl⟩
 show G _ _ _ [_, _, _, _] _
 refine G_val rfl rfl rfl rfl (V_eql rfl rfl rfl) ?_
 refine G_val rfl rfl rfl rfl (V_pickT rfl rfl rfl) ?_
 refine G_val rfl rfl rfl rfl (V_move rfl rfl) ?_
 refine G_splitD 38 rfl (fun hc4 => ?_) (fun hc4 => ?_)
 rotate_left
 · (first | (exact absurd rfl hc4) | (exact absurd hc4 (by decide)) | (exact absurd (by decide) hc4) | (exfalso; omega))
 refine G_val rfl rfl rfl rfl (V_move rfl rfl) ?_
 refine G_val rfl rfl rfl rfl (V_move rfl rfl) ?_
 refine G_val rfl rfl rfl rfl (V_seql rfl rfl rfl) ?_
 refine G_val rfl rfl rfl rfl (V_pickT rfl rfl rfl) ?_
 refine G_val rfl rfl rfl rfl (V_assign rfl rfl) ?_
 refine G_done ?_
 refine G_ret (post := []) Tryd.func16 rfl (RVs_cons (RV_tmp rfl) RVs_nil) [] rfl ?_
 dsimp only [packed]
 exact ⟨rfl, rfl⟩

end
end Go.Proofs.YtbblkgdejgoncaaDoor
