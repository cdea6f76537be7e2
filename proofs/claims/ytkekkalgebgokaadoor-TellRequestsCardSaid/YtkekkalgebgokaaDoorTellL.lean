/- The laws of layer 45: what they have in common. -/
import Derived.Test.YtkekkalgebgokaaDoorTellJ
import Derived.Test.YtkekkalgebgokaaDoorLawX
import Derived.Test.YtkekkalgebgokaaDoorLawW
import Derived.Test.YtkekkalgebgokaaDoorRqL
set_option linter.unusedSimpArgs false
set_option linter.unusedVariables false
namespace Go.Proofs.YtkekkalgebgokaaDoor
open Go.ChangeShapes Go.WideShapes Go.ChangeAt Go.RowKit

section
theorem infTellL_27 : Tryd.prog.info? 27 = some Tryd.t27 := by kernel_rfl
theorem infTellL_52 : Tryd.prog.info? 52 = some Tryd.t52 := by kernel_rfl
theorem plcTellL_27 : placesOf Tryd.prog (Tryd.prog.fieldsOf 27) = some [(0, 1), (1, 1), (2, 1), (3, 1), (4, 1), (5, 1), (6, 1), (7, 1), (8, 1), (9, 1), (10, 1), (11, 1), (12, 1), (13, 1), (14, 1), (15, 1), (16, 1)] := by kernel_rfl
theorem plcTellL_52 : placesOf Tryd.prog (Tryd.prog.fieldsOf 52) = some [(0, 1), (1, 1), (2, 1), (3, 1), (4, 1), (5, 1), (6, 1), (7, 1), (8, 1), (9, 1), (10, 1), (11, 1)] := by kernel_rfl


def LaidN (W : World) : Prop := laidMetH Tryd.prog Rows.tellWordsRow.laid W
set_option maxRecDepth 100000 in
theorem laid_tab {W : World} (h : LaidN W) : ∃ T fr, W.heap[0]? = some (.cells powC T fr) := by
  have h2 : laidMet Tryd.prog Rows.tellWordsRow.laid W := by
    have e := MakeChecks.laidMetH_plain Tryd.prog Rows.tellWordsRow.laid W (by kernel_rfl)
    rw [← e]; exact h
  obtain ⟨ps, hv, _⟩ := h2
  obtain ⟨g1, t1, c1, f1, p1, q1, _, _, _, _, hv, _⟩ := hv
  obtain ⟨g2, t2, c2, f2, p2, q2, _, _, _, _, hv, _⟩ := hv
  have ht := tabIs_vars (k := .u64) (zs := Lib.pow10Tab) (g := 0) (t := 142) (e := 32) (n := 20) laysN.m17 (by kernel_rfl) Tryd.underlying142 Tryd.underlying32 (by kernel_rfl) (by kernel_rfl) hv
  unfold Lib.TabIs World.var? at ht
  rw [show Tryd.prog.globalNamed "internal/strconv.uint64pow10" = some 0 from laysN.m17, Option.bind_some] at ht
  split at ht
  · rename_i cs T fr hb
    exact ⟨T, fr, by rw [hb]; cases ht; rfl⟩
  · cases ht
def liveQ : Rq := ⟨12, fun i => if i = 3 then [119] else [], fun _ => 0, true⟩
theorem liveQ_ok : RqT liveQ := by
  refine ⟨fun i => ?_, fun i => ?_⟩
  · unfold liveQ; simp only; split <;> simp
  · unfold liveQ; simp only; omega
theorem liveQ_text : reqT liveQ = [112, 97, 117, 115, 101, 32, 110, 61, 34, 119, 34, 32, 98, 61, 111, 110] := by decide +kernel
theorem itoa3 : Lib.itoa 3 = [51] := by unfold Lib.itoa; rw [if_neg (by decide)]; exact Lib.decDigits_one (by decide)
theorem live_r1 : replyT (partsR [] [] 0 3 4 0 0 0 0 0 0) = [111, 112, 61, 51, 32, 115, 116, 97, 116, 101, 61, 99, 111, 109, 112, 108, 101, 116, 101, 100] := by
  have e : partsR [] [] 0 3 4 0 0 0 0 0 0 = [part [111, 112] (Lib.itoa 3), part [115, 116, 97, 116, 101] (wordT 4)] := rfl
  rw [e, itoa3]; rfl
theorem live_r0 : replyT (partsR [] [] 0 0 0 0 0 0 0 0 0) = [111, 107] := rfl

set_option maxRecDepth 100000 in
set_option maxHeartbeats 1000000 in
theorem tell_live (T0 : TypeId) (r0 : Nat × Nat) :
    Ct Tryd.prog 6 [] [(some 0, .cells powC T0 r0)] [] fun v post => v = .bool true ∧ post = [] := by
 refine ct_of Tryd.func6 rfl rfl (fun w0 => ?_)
 show G _ _ [] _ _
 refine G_seq ?_
 refine G_region (l := [0]) rfl ?_
 refine G_val rfl rfl rfl rfl (V_assign rfl rfl) ?_
 refine G_done ?_
 refine G_seq ?_
 refine G_region (l := [0, 1, 2, 3, 4, 5, 6, 7, 8, 9, 10, 11, 12, 13]) rfl ?_
 refine G_val rfl rfl rfl rfl (V_buildS (cs := [_, _, _, _, _, _, _, _, _, _, _, _, _, _, _, _, _]) rfl Tryd.underlying27 infTellL_27 rfl plcTellL_27 rfl rfl rfl) ?_
 refine G_call (L2 := []) rfl rfl rfl rfl rfl rfl Tryd.call11 ((tl_request liveQ liveQ_ok T0 r0).weaken (fun v post h => by rw [liveQ_text] at h; exact h)) [] [0] rfl rfl ?_
 rintro v post ⟨rfl, rfl⟩
 refine G_val rfl rfl rfl rfl (V_seql rfl rfl rfl) ?_
 refine G_val rfl rfl rfl rfl (V_move rfl rfl) ?_
 refine G_splitD 4 rfl (fun hc1 => ?_) (fun hc1 => ?_)
 rotate_left
 · (first | contradiction | (exact absurd rfl hc1) | (exfalso; omega) | (simp at hc1; done) | (exact absurd hc1 (by decide)) | (exact absurd (by decide) hc1))
 refine G_val rfl rfl rfl rfl (V_buildS (cs := [_, _, _, _, _, _, _, _, _, _, _, _]) rfl Tryd.underlying52 infTellL_52 rfl plcTellL_52 rfl rfl rfl) ?_
 refine G_call (L2 := []) rfl rfl rfl rfl rfl rfl Tryd.call19 ((tl_reply [] [] 0 3 4 0 0 0 0 0 0 (by simp) (by simp) (by decide) (by decide) (by decide) (by decide) (by decide) (by decide) (by decide) (by decide) (by decide) (by decide) (by decide) (by decide) (by decide) (by decide) (by decide) (by decide) (by decide) (by decide) T0 r0).weaken (fun v post h => by rw [live_r1] at h; exact h)) [] [0] rfl rfl ?_
 rintro v post ⟨rfl, rfl⟩
 refine G_val rfl rfl rfl rfl (V_seql rfl rfl rfl) ?_
 refine G_val rfl rfl rfl rfl (V_pickT rfl rfl rfl) ?_
 refine G_val rfl rfl rfl rfl (V_move rfl rfl) ?_
 refine G_splitD 9 rfl (fun hc2 => ?_) (fun hc2 => ?_)
 rotate_left
 · (first | contradiction | (exact absurd rfl hc2) | (exfalso; omega) | (simp at hc2; done) | (exact absurd hc2 (by decide)) | (exact absurd (by decide) hc2))
 refine G_val rfl rfl rfl rfl (V_buildS (cs := [_, _, _, _, _, _, _, _, _, _, _, _]) rfl Tryd.underlying52 infTellL_52 rfl plcTellL_52 rfl rfl rfl) ?_
 refine G_call (L2 := []) rfl rfl rfl rfl rfl rfl Tryd.call19 ((tl_reply [] [] 0 0 0 0 0 0 0 0 0 (by simp) (by simp) (by decide) (by decide) (by decide) (by decide) (by decide) (by decide) (by decide) (by decide) (by decide) (by decide) (by decide) (by decide) (by decide) (by decide) (by decide) (by decide) (by decide) (by decide) T0 r0).weaken (fun v post h => by rw [live_r0] at h; exact h)) [] [0] rfl rfl ?_
 rintro v post ⟨rfl, rfl⟩
 refine G_val rfl rfl rfl rfl (V_seql rfl rfl rfl) ?_
 refine G_val rfl rfl rfl rfl (V_pickT rfl rfl rfl) ?_
 refine G_val rfl rfl rfl rfl (V_assign rfl rfl) ?_
 refine G_done ?_
 refine G_ret (post := []) Tryd.func6 rfl (RVs_cons (RV_tmp rfl) RVs_nil) [] rfl ?_
 dsimp only [packed]
 exact ⟨rfl, rfl⟩

end
end Go.Proofs.YtkekkalgebgokaaDoor
