/- The law MsgCleans, walked. -/
import Derived.Test.YtgnbgjllogjecaaRMsgW
import Derived.Test.YtgnbgjllogjecaaLaw2
set_option linter.unusedSimpArgs false
set_option linter.unusedVariables false
namespace Go.Proofs.Ytgnbgjllogjecaa
open Go Go.RowKit

section
theorem infMsgCleansL_84 : Try.prog.info? 84 = some Try.t84 := by kernel_rfl
theorem plcMsgCleansL_84 : placesOf Try.prog (Try.prog.fieldsOf 84) = some [(0, 1), (1, 1), (2, 1), (3, 1), (4, 1), (5, 1), (6, 1), (7, 1), (8, 1), (9, 1), (10, 1), (11, 1), (12, 1), (13, 1), (14, 1), (15, 1), (16, 1)] := by kernel_rfl


set_option maxRecDepth 100000 in
theorem key_rq (q : Rq) (h : RqOk q) : Try.prog.keyLits 2 84 (rqCells q).toArray.toList = some (rqLits q) := by
  obtain ⟨hk, ht, hn⟩ := h
  refine fits_keys Try.underlying84 (by kernel_rfl) (by kernel_rfl) ?_
  refine ⟨rfl, (by kernel_rfl), key_int Try.underlying3 hk.1 hk.2, ?_⟩
  iterate 6 refine ⟨rfl, (by kernel_rfl), key_str Try.underlying9 (ht _), ?_⟩
  iterate 9 refine ⟨rfl, (by kernel_rfl), key_int Try.underlying3 (hn _).1 (hn _).2, ?_⟩
  exact ⟨rfl, (by kernel_rfl), key_bool Try.underlying4, trivial⟩
theorem msg_clean2 (q : Rq) : Ct Try.prog 49 [.agg (rqCells q).toArray] [] [] (fun v post => v = .agg (rqCells (refRq q)).toArray ∧ post = []) :=
  (msg_clean q).weaken (fun v post h => by rw [refRq_cells] at h; exact h)
theorem may_twice (q : Rq) : mayQ (refRq q) = mayQ q := by rw [mayQ_r, mayQ_r, rmayQ_ref]
def liveRq : Rq := ⟨8, fun i => if i = 3 then [97] else [], fun i => if i = 7 then 3 else 0, false⟩
def liveRq2 : Rq := ⟨8, fun i => if i = 3 then [97] else [], fun _ => 0, false⟩
theorem liveRq_ok : RqOk liveRq := by
  refine ⟨by decide, fun i => ?_, fun i => ?_⟩
  · unfold liveRq; simp only; split <;> simp
  · unfold liveRq; simp only; split <;> omega
theorem liveRq2_ok : RqOk liveRq2 := by
  refine ⟨by decide, fun i => ?_, fun i => ?_⟩
  · unfold liveRq2; simp only; split <;> simp
  · unfold liveRq2; simp only; omega
theorem live_same : rqLits (refRq liveRq) = rqLits liveRq2 := rfl

set_option maxRecDepth 100000 in
set_option maxHeartbeats 1000000 in
theorem msglaw_live  :
    Ct Try.prog 53 [] [] [] fun v post => v = .bool true ∧ post = [] := by
 refine ct_of Try.func53 rfl rfl (fun w0 => ?_)
 show G _ _ [] _ _
 refine G_seq ?_
 refine G_region (l := [0]) rfl ?_
 refine G_val rfl rfl rfl rfl (V_assign rfl rfl) ?_
 refine G_done ?_
 refine G_seq ?_
 refine G_region (l := [0, 1, 2, 3, 4, 5, 6, 7, 8]) rfl ?_
 refine G_val rfl rfl rfl rfl (V_buildS (cs := [_, _, _, _, _, _, _, _, _, _, _, _, _, _, _, _, _]) rfl Try.underlying84 infMsgCleansL_84 rfl plcMsgCleansL_84 rfl rfl rfl) ?_
 refine G_call (L2 := []) rfl rfl rfl rfl rfl rfl Try.call49 (msg_clean2 liveRq) [] [] rfl rfl ?_
 rintro v post ⟨rfl, rfl⟩
 refine G_val rfl rfl rfl rfl (V_buildS (cs := [_, _, _, _, _, _, _, _, _, _, _, _, _, _, _, _, _]) rfl Try.underlying84 infMsgCleansL_84 rfl plcMsgCleansL_84 rfl rfl rfl) ?_
 refine G_val rfl rfl rfl rfl (V_aggeql (m := 6) rfl Try.eqGuardType84 (by kernel_rfl) (by decide) (formed_of Try.underlying84 rfl (by kernel_rfl : Try.prog.cellsOf 84 = 17) (by first | rfl | (simp [bcells_length, rqCells, rqCells, rqCells]; done) | (simp [bcells_length, rqCells, rqCells, rqCells]; omega) | (simp [bcells_length, *, rqCells, rqCells, rqCells]; done))) (formed_of Try.underlying84 rfl (by kernel_rfl : Try.prog.cellsOf 84 = 17) (by first | rfl | (simp [bcells_length, rqCells, rqCells, rqCells]; done) | (simp [bcells_length, rqCells, rqCells, rqCells]; omega) | (simp [bcells_length, *, rqCells, rqCells, rqCells]; done))) rfl rfl (key_rq _ (refRq_ok liveRq_ok)) (key_rq liveRq2 liveRq2_ok)) ?_
 refine G_val rfl rfl rfl rfl (V_move rfl rfl) ?_
 refine G_splitD 5 rfl (fun hc1 => ?_) (fun hc1 => ?_)
 rotate_left
 · (first | (exact absurd live_same hc1) | (exact absurd rfl hc1) | (exfalso; omega))
 refine G_call (L2 := []) rfl rfl rfl rfl rfl rfl Try.call57 (msg_word _) [] [] rfl rfl ?_
 rintro v post ⟨rfl, rfl⟩
 refine G_val rfl rfl rfl rfl (V_seql rfl rfl rfl) ?_
 refine G_val rfl rfl rfl rfl (V_pickT rfl rfl rfl) ?_
 refine G_val rfl rfl rfl rfl (V_assign rfl rfl) ?_
 refine G_done ?_
 refine G_ret (post := []) Try.func53 rfl (RVs_cons (RV_tmp rfl) RVs_nil) [] rfl ?_
 dsimp only [packed]
 exact ⟨rfl, rfl⟩

set_option maxRecDepth 100000 in
set_option maxHeartbeats 1000000 in
theorem msgCleans_all (q : Rq) (hq : RqOk q) :
    Ct Try.prog 11 [.agg (rqCells q).toArray] [] [] fun v post => v = .bool true ∧ post = [] := by
 have hq2 := refRq_ok hq
 have hq3 := refRq_ok hq2
 refine ct_of Try.func11 rfl rfl (fun w0 => ?_)
 show G _ _ [(0, _)] _ _
 refine G_seq ?_
 refine G_region (l := [0, 1]) rfl ?_
 refine G_new rfl rfl rfl rfl (N_boxA rfl rfl) (fun b1 => ?_)
 refine G_val rfl rfl rfl rfl (V_assign rfl rfl) ?_
 refine G_done ?_
 refine G_seq ?_
 refine G_region (l := [0, 1, 2, 3]) rfl ?_
 first
   | refine G_val rfl rfl rfl rfl (V_loadW (s := 17) rfl rfl (mem_at 0 rfl) Try.underlying84 rfl infMsgCleansL_84 rfl (by first | rfl | (simp [bcells_length, rqCells, rqCells, rqCells]; done) | (simp [bcells_length, rqCells, rqCells, rqCells]; omega) | (simp [bcells_length, *, rqCells, rqCells, rqCells]; done))) ?_
   | refine G_val rfl rfl rfl rfl (V_loadA (s := 17) rfl rfl (mem_at 0 rfl) Try.underlying84 rfl infMsgCleansL_84 rfl rfl (by first | rfl | (simp [bcells_length, rqCells, rqCells, rqCells]; done) | (simp [bcells_length, rqCells, rqCells, rqCells]; omega) | (simp [bcells_length, *, rqCells, rqCells, rqCells]; done))) ?_
 refine G_call (L2 := [_]) rfl rfl rfl rfl rfl rfl Try.call49 (msg_clean2 _) [] [] rfl rfl ?_
 rintro v post ⟨rfl, rfl⟩
 show G _ _ _ [_] _
 refine G_new rfl rfl rfl rfl (N_allocA rfl infMsgCleansL_84 rfl) (fun b3 => ?_)
 refine G_put (l1 := []) (L' := [_, _]) rfl rfl rfl rfl (P_storeA (s := 17) rfl rfl rfl (mem_at 0 rfl) (by first | rfl | (simp [bcells_length, rqCells, rqCells, rqCells]; done) | (simp [bcells_length, rqCells, rqCells, rqCells]; omega) | (simp [bcells_length, *, rqCells, rqCells, rqCells]; done)) infMsgCleansL_84 rfl (by first | rfl | (simp [bcells_length, rqCells, rqCells, rqCells]; done) | (simp [bcells_length, rqCells, rqCells, rqCells]; omega) | (simp [bcells_length, *, rqCells, rqCells, rqCells]; done)) (by first | rfl | exact bcells_all _ | (simp [Value.oneCell', rqCells, rqCells, rqCells]; done) | (simp [Value.oneCell', *, rqCells, rqCells, rqCells]; done))) rfl ?_
 refine G_done ?_
 refine G_seq ?_
 refine G_draw mixedK (by kernel_rfl) ?_
 first
   | refine GQ_val rfl rfl rfl rfl (V_loadW (s := 17) rfl rfl (mem_at 0 rfl) Try.underlying84 rfl infMsgCleansL_84 rfl (by first | rfl | (simp [bcells_length, rqCells, rqCells, rqCells]; done) | (simp [bcells_length, rqCells, rqCells, rqCells]; omega) | (simp [bcells_length, *, rqCells, rqCells, rqCells]; done))) ?_
   | refine GQ_val rfl rfl rfl rfl (V_loadA (s := 17) rfl rfl (mem_at 0 rfl) Try.underlying84 rfl infMsgCleansL_84 rfl rfl (by first | rfl | (simp [bcells_length, rqCells, rqCells, rqCells]; done) | (simp [bcells_length, rqCells, rqCells, rqCells]; omega) | (simp [bcells_length, *, rqCells, rqCells, rqCells]; done))) ?_
 first
   | refine GQ_val rfl rfl rfl rfl (V_loadW (s := 17) rfl rfl (mem_at 1 rfl) Try.underlying84 rfl infMsgCleansL_84 rfl (by first | rfl | (simp [bcells_length, rqCells, rqCells, rqCells]; done) | (simp [bcells_length, rqCells, rqCells, rqCells]; omega) | (simp [bcells_length, *, rqCells, rqCells, rqCells]; done))) ?_
   | refine GQ_val rfl rfl rfl rfl (V_loadA (s := 17) rfl rfl (mem_at 1 rfl) Try.underlying84 rfl infMsgCleansL_84 rfl rfl (by first | rfl | (simp [bcells_length, rqCells, rqCells, rqCells]; done) | (simp [bcells_length, rqCells, rqCells, rqCells]; omega) | (simp [bcells_length, *, rqCells, rqCells, rqCells]; done))) ?_
 refine GQ_call rfl rfl rfl rfl rfl rfl Try.call50 (rmsg_clean _) [] rfl (fun v post hp => (hp : _ ∧ _).1) ?_
 refine GQ_val rfl rfl rfl rfl (V_aggeql (m := 6) rfl Try.eqGuardType84 (by kernel_rfl) (by decide) (formed_of Try.underlying84 rfl (by kernel_rfl : Try.prog.cellsOf 84 = 17) (by first | rfl | (simp [bcells_length, rqCells, rqCells, rqCells]; done) | (simp [bcells_length, rqCells, rqCells, rqCells]; omega) | (simp [bcells_length, *, rqCells, rqCells, rqCells]; done))) (formed_of Try.underlying84 rfl (by kernel_rfl : Try.prog.cellsOf 84 = 17) (by first | rfl | (simp [bcells_length, rqCells, rqCells, rqCells]; done) | (simp [bcells_length, rqCells, rqCells, rqCells]; omega) | (simp [bcells_length, *, rqCells, rqCells, rqCells]; done))) rfl rfl (key_rq _ hq2) (key_rq _ hq2)) ?_
 refine GQ_val rfl rfl rfl rfl (V_move rfl rfl) ?_
 refine GQ_splitD 10 rfl (fun hc1 => ?_) (fun hc1 => ?_)
 rotate_left
 · (first | (exact absurd rfl hc1) | (exact absurd (mayQ_r q) hc1) | (exact absurd (congrArg rqLits (refRq_twice q)) hc1) | (exact absurd (may_twice q) hc1) | (exfalso; omega))
 first
   | refine GQ_val rfl rfl rfl rfl (V_loadW (s := 17) rfl rfl (mem_at 1 rfl) Try.underlying84 rfl infMsgCleansL_84 rfl (by first | rfl | (simp [bcells_length, rqCells, rqCells, rqCells]; done) | (simp [bcells_length, rqCells, rqCells, rqCells]; omega) | (simp [bcells_length, *, rqCells, rqCells, rqCells]; done))) ?_
   | refine GQ_val rfl rfl rfl rfl (V_loadA (s := 17) rfl rfl (mem_at 1 rfl) Try.underlying84 rfl infMsgCleansL_84 rfl rfl (by first | rfl | (simp [bcells_length, rqCells, rqCells, rqCells]; done) | (simp [bcells_length, rqCells, rqCells, rqCells]; omega) | (simp [bcells_length, *, rqCells, rqCells, rqCells]; done))) ?_
 refine GQ_call rfl rfl rfl rfl rfl rfl Try.call51 (msg_may _ (by assumption)) [] rfl (fun v post hp => (hp : _ ∧ _).1) ?_
 first
   | refine GQ_val rfl rfl rfl rfl (V_loadW (s := 17) rfl rfl (mem_at 1 rfl) Try.underlying84 rfl infMsgCleansL_84 rfl (by first | rfl | (simp [bcells_length, rqCells, rqCells, rqCells]; done) | (simp [bcells_length, rqCells, rqCells, rqCells]; omega) | (simp [bcells_length, *, rqCells, rqCells, rqCells]; done))) ?_
   | refine GQ_val rfl rfl rfl rfl (V_loadA (s := 17) rfl rfl (mem_at 1 rfl) Try.underlying84 rfl infMsgCleansL_84 rfl rfl (by first | rfl | (simp [bcells_length, rqCells, rqCells, rqCells]; done) | (simp [bcells_length, rqCells, rqCells, rqCells]; omega) | (simp [bcells_length, *, rqCells, rqCells, rqCells]; done))) ?_
 refine GQ_call rfl rfl rfl rfl rfl rfl Try.call52 (rmsg_may _ (by assumption)) [] rfl (fun v post hp => (hp : _ ∧ _).1) ?_
 refine GQ_val rfl rfl rfl rfl (V_beql rfl Try.underlying4 rfl rfl) ?_
 refine GQ_val rfl rfl rfl rfl (V_pickT rfl rfl rfl) ?_
 refine GQ_val rfl rfl rfl rfl (V_move rfl rfl) ?_
 refine GQ_splitD 17 rfl (fun hc2 => ?_) (fun hc2 => ?_)
 rotate_left
 · (first | (exact absurd rfl hc2) | (exact absurd (mayQ_r q) hc2) | (exact absurd (congrArg rqLits (refRq_twice q)) hc2) | (exact absurd (may_twice q) hc2) | (exfalso; omega))
 first
   | refine GQ_val rfl rfl rfl rfl (V_loadW (s := 17) rfl rfl (mem_at 0 rfl) Try.underlying84 rfl infMsgCleansL_84 rfl (by first | rfl | (simp [bcells_length, rqCells, rqCells, rqCells]; done) | (simp [bcells_length, rqCells, rqCells, rqCells]; omega) | (simp [bcells_length, *, rqCells, rqCells, rqCells]; done))) ?_
   | refine GQ_val rfl rfl rfl rfl (V_loadA (s := 17) rfl rfl (mem_at 0 rfl) Try.underlying84 rfl infMsgCleansL_84 rfl rfl (by first | rfl | (simp [bcells_length, rqCells, rqCells, rqCells]; done) | (simp [bcells_length, rqCells, rqCells, rqCells]; omega) | (simp [bcells_length, *, rqCells, rqCells, rqCells]; done))) ?_
 refine GQ_call rfl rfl rfl rfl rfl rfl Try.call49 (msg_clean2 _) [] rfl (fun v post hp => (hp : _ ∧ _).1) ?_
 first
   | refine GQ_val rfl rfl rfl rfl (V_loadW (s := 17) rfl rfl (mem_at 0 rfl) Try.underlying84 rfl infMsgCleansL_84 rfl (by first | rfl | (simp [bcells_length, rqCells, rqCells, rqCells]; done) | (simp [bcells_length, rqCells, rqCells, rqCells]; omega) | (simp [bcells_length, *, rqCells, rqCells, rqCells]; done))) ?_
   | refine GQ_val rfl rfl rfl rfl (V_loadA (s := 17) rfl rfl (mem_at 0 rfl) Try.underlying84 rfl infMsgCleansL_84 rfl rfl (by first | rfl | (simp [bcells_length, rqCells, rqCells, rqCells]; done) | (simp [bcells_length, rqCells, rqCells, rqCells]; omega) | (simp [bcells_length, *, rqCells, rqCells, rqCells]; done))) ?_
 refine GQ_val rfl rfl rfl rfl (V_aggeql (m := 6) rfl Try.eqGuardType84 (by kernel_rfl) (by decide) (formed_of Try.underlying84 rfl (by kernel_rfl : Try.prog.cellsOf 84 = 17) (by first | rfl | (simp [bcells_length, rqCells, rqCells, rqCells]; done) | (simp [bcells_length, rqCells, rqCells, rqCells]; omega) | (simp [bcells_length, *, rqCells, rqCells, rqCells]; done))) (formed_of Try.underlying84 rfl (by kernel_rfl : Try.prog.cellsOf 84 = 17) (by first | rfl | (simp [bcells_length, rqCells, rqCells, rqCells]; done) | (simp [bcells_length, rqCells, rqCells, rqCells]; omega) | (simp [bcells_length, *, rqCells, rqCells, rqCells]; done))) rfl rfl (key_rq _ hq3) (key_rq _ hq2)) ?_
 refine GQ_val rfl rfl rfl rfl (V_pickT rfl rfl rfl) ?_
 refine GQ_val rfl rfl rfl rfl (V_move rfl rfl) ?_
 refine GQ_splitD 23 rfl (fun hc3 => ?_) (fun hc3 => ?_)
 rotate_left
 · (first | (exact absurd rfl hc3) | (exact absurd (mayQ_r q) hc3) | (exact absurd (congrArg rqLits (refRq_twice q)) hc3) | (exact absurd (may_twice q) hc3) | (exfalso; omega))
 first
   | refine GQ_val rfl rfl rfl rfl (V_loadW (s := 17) rfl rfl (mem_at 0 rfl) Try.underlying84 rfl infMsgCleansL_84 rfl (by first | rfl | (simp [bcells_length, rqCells, rqCells, rqCells]; done) | (simp [bcells_length, rqCells, rqCells, rqCells]; omega) | (simp [bcells_length, *, rqCells, rqCells, rqCells]; done))) ?_
   | refine GQ_val rfl rfl rfl rfl (V_loadA (s := 17) rfl rfl (mem_at 0 rfl) Try.underlying84 rfl infMsgCleansL_84 rfl rfl (by first | rfl | (simp [bcells_length, rqCells, rqCells, rqCells]; done) | (simp [bcells_length, rqCells, rqCells, rqCells]; omega) | (simp [bcells_length, *, rqCells, rqCells, rqCells]; done))) ?_
 refine GQ_call rfl rfl rfl rfl rfl rfl Try.call51 (msg_may _ (by assumption)) [] rfl (fun v post hp => (hp : _ ∧ _).1) ?_
 first
   | refine GQ_val rfl rfl rfl rfl (V_loadW (s := 17) rfl rfl (mem_at 1 rfl) Try.underlying84 rfl infMsgCleansL_84 rfl (by first | rfl | (simp [bcells_length, rqCells, rqCells, rqCells]; done) | (simp [bcells_length, rqCells, rqCells, rqCells]; omega) | (simp [bcells_length, *, rqCells, rqCells, rqCells]; done))) ?_
   | refine GQ_val rfl rfl rfl rfl (V_loadA (s := 17) rfl rfl (mem_at 1 rfl) Try.underlying84 rfl infMsgCleansL_84 rfl rfl (by first | rfl | (simp [bcells_length, rqCells, rqCells, rqCells]; done) | (simp [bcells_length, rqCells, rqCells, rqCells]; omega) | (simp [bcells_length, *, rqCells, rqCells, rqCells]; done))) ?_
 refine GQ_call rfl rfl rfl rfl rfl rfl Try.call51 (msg_may _ (by assumption)) [] rfl (fun v post hp => (hp : _ ∧ _).1) ?_
 refine GQ_val rfl rfl rfl rfl (V_beql rfl Try.underlying4 rfl rfl) ?_
 refine GQ_val rfl rfl rfl rfl (V_pickT rfl rfl rfl) ?_
 refine GQ_val rfl rfl rfl rfl (V_move rfl rfl) ?_
 refine GQ_splitD 30 rfl (fun hc4 => ?_) (fun hc4 => ?_)
 rotate_left
 · (first | (exact absurd rfl hc4) | (exact absurd (mayQ_r q) hc4) | (exact absurd (congrArg rqLits (refRq_twice q)) hc4) | (exact absurd (may_twice q) hc4) | (exfalso; omega))
 refine GQ_call rfl rfl rfl rfl rfl rfl Try.call53 (msglaw_live) [] rfl (fun v post hp => (hp : _ ∧ _).1) ?_
 refine GQ_val rfl rfl rfl rfl (V_pickT rfl rfl rfl) ?_
 refine GQ_val rfl rfl rfl rfl (V_assign rfl rfl) ?_
 refine GQ_done rfl ?_
 refine G_ret (post := []) Try.func11 rfl (RVs_cons (RV_tmp rfl) RVs_nil) [] rfl ?_
 dsimp only [packed]
 exact ⟨rfl, rfl⟩


set_option maxRecDepth 100000 in
theorem rq_types : Try.prog.cellTypes Try.prog.depth 84 = some [3, 9, 9, 9, 9, 9, 9, 3, 3, 3, 3, 3, 3, 3, 3, 3, 4] := by kernel_rfl
set_option maxRecDepth 100000 in
theorem rq_of {W : World} {b : Nat} {v : Value} (h : Value.okWide Try.prog W .any b 84 v) : ∃ q : Rq, v = .agg (rqCells q).toArray ∧ RqOk q := by
  obtain ⟨cs, rfl, hl, hc⟩ := okv_agg (s := 17) h Try.underlying84 rfl rq_types (by kernel_rfl) rfl
  match cs, hl, hc with
  | [v0, v1, v2, v3, v4, v5, v6, v7, v8, v9, v10, v11, v12, v13, v14, v15, v16], _, hc =>
    obtain ⟨k, rfl, k1, k2⟩ := okc_int (hc 0 v0 3 rfl rfl) Try.underlying3
    obtain ⟨s1, rfl, p1⟩ := okc_str (hc 1 v1 9 rfl rfl) Try.underlying9
    obtain ⟨s2, rfl, p2⟩ := okc_str (hc 2 v2 9 rfl rfl) Try.underlying9
    obtain ⟨s3, rfl, p3⟩ := okc_str (hc 3 v3 9 rfl rfl) Try.underlying9
    obtain ⟨s4, rfl, p4⟩ := okc_str (hc 4 v4 9 rfl rfl) Try.underlying9
    obtain ⟨s5, rfl, p5⟩ := okc_str (hc 5 v5 9 rfl rfl) Try.underlying9
    obtain ⟨s6, rfl, p6⟩ := okc_str (hc 6 v6 9 rfl rfl) Try.underlying9
    obtain ⟨n7, rfl, a7, b7⟩ := okc_int (hc 7 v7 3 rfl rfl) Try.underlying3
    obtain ⟨n8, rfl, a8, b8⟩ := okc_int (hc 8 v8 3 rfl rfl) Try.underlying3
    obtain ⟨n9, rfl, a9, b9⟩ := okc_int (hc 9 v9 3 rfl rfl) Try.underlying3
    obtain ⟨n10, rfl, a10, b10⟩ := okc_int (hc 10 v10 3 rfl rfl) Try.underlying3
    obtain ⟨n11, rfl, a11, b11⟩ := okc_int (hc 11 v11 3 rfl rfl) Try.underlying3
    obtain ⟨n12, rfl, a12, b12⟩ := okc_int (hc 12 v12 3 rfl rfl) Try.underlying3
    obtain ⟨n13, rfl, a13, b13⟩ := okc_int (hc 13 v13 3 rfl rfl) Try.underlying3
    obtain ⟨n14, rfl, a14, b14⟩ := okc_int (hc 14 v14 3 rfl rfl) Try.underlying3
    obtain ⟨n15, rfl, a15, b15⟩ := okc_int (hc 15 v15 3 rfl rfl) Try.underlying3
    obtain ⟨fl, rfl⟩ := okc_bool (hc 16 v16 4 rfl rfl) Try.underlying4
    refine ⟨⟨k, fun i => if i = 1 then s1 else if i = 2 then s2 else if i = 3 then s3 else if i = 4 then s4 else if i = 5 then s5 else s6,
      fun i => if i = 7 then n7 else if i = 8 then n8 else if i = 9 then n9 else if i = 10 then n10 else if i = 11 then n11 else if i = 12 then n12 else if i = 13 then n13 else if i = 14 then n14 else n15, fl⟩, rfl, ⟨k1, k2⟩, fun i => ?_, fun i => ?_⟩
    · show (if i = 1 then s1 else if i = 2 then s2 else if i = 3 then s3 else if i = 4 then s4 else if i = 5 then s5 else s6).length ≤ _
      repeat' split
      all_goals assumption
    · show _ ≤ (if i = 7 then n7 else if i = 8 then n8 else if i = 9 then n9 else if i = 10 then n10 else if i = 11 then n11 else if i = 12 then n12 else if i = 13 then n13 else if i = 14 then n14 else n15) ∧ (if i = 7 then n7 else if i = 8 then n8 else if i = 9 then n9 else if i = 10 then n10 else if i = 11 then n11 else if i = 12 then n12 else if i = 13 then n13 else if i = 14 then n14 else n15) ≤ _
      repeat' split
      all_goals exact ⟨by assumption, by assumption⟩
set_option maxRecDepth 100000 in
theorem msgCleans_walk : LawWalk 11 Try.f11 := lawwalk_of (fun W base args hs hval => by
  rw [Try.params11] at hs hval
  obtain ⟨l⟩ := args
  match l, hs with
  | [a], _ =>
    obtain ⟨q, rfl, hq⟩ := rq_of (hval 0 84 a rfl rfl)
    exact ⟨[], ⟨.nil, fun _ _ h => by cases h⟩, msgCleans_all q hq⟩)

end
end Go.Proofs.Ytgnbgjllogjecaa
