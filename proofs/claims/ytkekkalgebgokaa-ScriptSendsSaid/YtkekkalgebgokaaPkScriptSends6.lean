/- What the law ScriptSends needs, part 6. -/
import Derived.Test.YtkekkalgebgokaaPkScriptSends1
import Derived.Test.YtkekkalgebgokaaPkScriptSends2
import Derived.Test.YtkekkalgebgokaaPkScriptSends3
import Derived.Test.YtkekkalgebgokaaPkScriptSends4
import Derived.Test.YtkekkalgebgokaaPkScriptSends5


/- The walks of the reference of layer 19. -/
set_option linter.unusedSimpArgs false
set_option linter.unusedVariables false
namespace Go.Proofs.Ytkekkalgebgokaa
open Go Go.RowKit

section
theorem infRMsgW_3 : Try.prog.info? 3 = some Try.t3 := by kernel_rfl
theorem infRMsgW_4 : Try.prog.info? 4 = some Try.t4 := by kernel_rfl
theorem infRMsgW_9 : Try.prog.info? 9 = some Try.t9 := by kernel_rfl
theorem infRMsgW_67 : Try.prog.info? 67 = some Try.t67 := by kernel_rfl
theorem plcRMsgW_67 : placesOf Try.prog (Try.prog.fieldsOf 67) = some [(0, 1), (1, 1), (2, 1), (3, 1), (4, 1), (5, 1), (6, 1), (7, 1), (8, 1), (9, 1), (10, 1), (11, 1), (12, 1), (13, 1), (14, 1), (15, 1), (16, 1)] := by kernel_rfl


theorem fieldsK_rest (k : Int) (h : (k < 1 ∨ 12 < k) ∧ ¬ k = 15 ∧ ¬ k = 16) : fieldsK k = [] := by
  by_cases hk : 1 ≤ k ∧ k ≤ 17
  · have : k = 13 ∨ k = 14 ∨ k = 17 := by omega
    rcases this with rfl | rfl | rfl <;> rfl
  · exact fieldsK_no k hk
theorem has_no {k c : Int} {j : Nat} (hj : (fieldsK k).length ≤ j) (h : ((fieldsK k).take j).any (fun x => decide ((x.toNat : Int) = c)) = false) : hasI k c = false := by
  unfold hasI
  rwa [List.take_of_length_le hj] at h
theorem has_yes {k c : Int} {j : Nat} (hj : j < (fieldsK k).length) (h : (((fieldsK k).getD j 0).toNat : Int) = c) : hasI k c = true := by
  unfold hasI
  rw [List.any_eq_true]
  exact ⟨(fieldsK k).getD j 0, by rw [List.getD_eq_getElem?_getD, List.getElem?_eq_getElem hj]; simp, by simpa using h⟩
theorem has_next {k c : Int} {j : Nat} (hj : j < (fieldsK k).length) (ha : ((fieldsK k).take j).any (fun x => decide ((x.toNat : Int) = c)) = false) (h : ¬ (((fieldsK k).getD j 0).toNat : Int) = c) : ((fieldsK k).take (j + 1)).any (fun x => decide ((x.toNat : Int) = c)) = false := by
  rw [List.take_succ_eq_append_getElem hj, List.any_append, ha]
  rw [List.getD_eq_getElem?_getD, List.getElem?_eq_getElem hj] at h
  simpa using h
def strV (s : List UInt8) : Value := .string (bs s)
def intV (n : Int) : Value := .int .i64 n
theorem map_at {α : Type} (f : α → Value) (l : List α) (d : α) (k : Nat) (h : k < l.length) : (l.map f).toArray[0 + k * 1]? = some (f (l.getD k d)) := by
  simp [h]
theorem all_nextD {α : Type} (p : α → Bool) (l : List α) (d : α) (k : Nat) (h : k < l.length) (ha : (l.take k).all p = true) (hp : p (l.getD k d) = true) : (l.take (k + 1)).all p = true := by
  rw [List.take_succ_eq_append_getElem h, List.all_append, ha]
  rw [List.getD_eq_getElem?_getD, List.getElem?_eq_getElem h] at hp
  simpa using hp
theorem not_all {α : Type} (p : α → Bool) (l : List α) (d : α) (k : Nat) (h : k < l.length) (hp : p (l.getD k d) = false) : ¬ l.all p = true := by
  intro ha
  rw [List.all_eq_true] at ha
  have := ha (l.getD k d) (by rw [List.getD_eq_getElem?_getD, List.getElem?_eq_getElem h]; simp)
  rw [hp] at this
  cases this
def tooLong (s : List UInt8) : Bool := decide (s.length ≤ 100)
def inRange (n : Int) : Bool := decide (0 ≤ n ∧ n ≤ 1099511627776)
theorem rmay_no1 {q : Rq} {k : Nat} (hk : k < 6) (h : 100 < ((((texts6 (refRq q)).getD k []).length : Nat) : Int)) : rmayQ q = false := by
  have := not_all tooLong (texts6 (refRq q)) [] k hk (by unfold tooLong; rw [decide_eq_false_iff_not]; omega)
  unfold rmayQ
  rw [if_neg (fun h => this h.1)]
theorem rmay_no2 {q : Rq} {k : Nat} (hk : k < 9) (h : ¬ (0 ≤ (nums9 (refRq q)).getD k 0 ∧ (nums9 (refRq q)).getD k 0 ≤ 1099511627776)) : rmayQ q = false := by
  have := not_all inRange (nums9 (refRq q)) 0 k hk (by unfold inRange; simp only [decide_eq_false_iff_not]; exact h)
  unfold rmayQ
  rw [if_neg (fun h => this h.2.1)]
theorem rmay_end {q : Rq} (h1 : ((texts6 (refRq q)).take 6).all tooLong = true) (h2 : ((nums9 (refRq q)).take 9).all inRange = true) : rmayQ q = isKind q.kind := by
  have h1 : (texts6 (refRq q)).all (fun s => decide (s.length ≤ 100)) = true := h1
  have h2 : (nums9 (refRq q)).all (fun n => decide (0 ≤ n ∧ n ≤ 1099511627776)) = true := h2
  unfold rmayQ
  simp only [h1, h2, true_and]
  cases isKind q.kind <;> rfl

set_option maxRecDepth 100000 in
set_option maxHeartbeats 1000000 in
theorem rmsg_fields (k : Int) :
    Ct Try.prog 89 [.int .i64 k] [] [] fun v post => v = .string (bs (fieldsK k)) ∧ post = [] := by
 refine ct_of Try.func89 rfl rfl (fun w0 => ?_)
 show G _ _ [(0, _)] _ _
 refine G_seq ?_
 refine G_region (l := [0]) rfl ?_
 refine G_val rfl rfl rfl rfl (V_assign rfl rfl) ?_
 refine G_done ?_
 refine G_seq ?_
 refine G_seq ?_
 refine G_region (l := [0]) rfl ?_
 refine G_val rfl rfl rfl rfl (V_move rfl rfl) ?_
 refine G_done ?_
 refine G_block ?_
 refine G_seq ?_
 refine G_region (l := [0, 1]) rfl ?_
 refine G_val rfl rfl rfl rfl (V_eql rfl rfl rfl) ?_
 refine G_val rfl rfl rfl rfl (V_assign rfl rfl) ?_
 refine G_done ?_
 refine G_ifD rfl (fun hc1 => ?_) (fun hc1 => ?_)
 · skip
   refine G_seq ?_
   refine G_region (l := [0]) rfl ?_
   refine G_val rfl rfl rfl rfl (V_assign rfl rfl) ?_
   refine G_done ?_
   refine G_ret (post := []) Try.func89 rfl (RVs_cons (RV_tmp rfl) RVs_nil) [] rfl ?_
   dsimp only [packed]
   refine ⟨str_eq ?_, rfl⟩
   first
     | (rw [show k = 1 from (by omega)]; rfl)
     | (rw [show k = 2 from (by omega)]; rfl)
     | (rw [show k = 3 from (by omega)]; rfl)
     | (rw [show k = 4 from (by omega)]; rfl)
     | (rw [show k = 5 from (by omega)]; rfl)
     | (rw [show k = 6 from (by omega)]; rfl)
     | (rw [show k = 7 from (by omega)]; rfl)
     | (rw [show k = 8 from (by omega)]; rfl)
     | (rw [show k = 9 from (by omega)]; rfl)
     | (rw [show k = 10 from (by omega)]; rfl)
     | (rw [show k = 11 from (by omega)]; rfl)
     | (rw [show k = 12 from (by omega)]; rfl)
     | (rw [show k = 15 from (by omega)]; rfl)
     | (rw [show k = 16 from (by omega)]; rfl)
     | exact (fieldsK_rest k (by omega)).symm
 refine G_seq ?_
 refine G_region (l := [0, 1]) rfl ?_
 refine G_val rfl rfl rfl rfl (V_eql rfl rfl rfl) ?_
 refine G_val rfl rfl rfl rfl (V_assign rfl rfl) ?_
 refine G_done ?_
 refine G_ifD rfl (fun hc2 => ?_) (fun hc2 => ?_)
 · skip
   refine G_seq ?_
   refine G_region (l := [0]) rfl ?_
   refine G_val rfl rfl rfl rfl (V_assign rfl rfl) ?_
   refine G_done ?_
   refine G_ret (post := []) Try.func89 rfl (RVs_cons (RV_tmp rfl) RVs_nil) [] rfl ?_
   dsimp only [packed]
   refine ⟨str_eq ?_, rfl⟩
   first
     | (rw [show k = 1 from (by omega)]; rfl)
     | (rw [show k = 2 from (by omega)]; rfl)
     | (rw [show k = 3 from (by omega)]; rfl)
     | (rw [show k = 4 from (by omega)]; rfl)
     | (rw [show k = 5 from (by omega)]; rfl)
     | (rw [show k = 6 from (by omega)]; rfl)
     | (rw [show k = 7 from (by omega)]; rfl)
     | (rw [show k = 8 from (by omega)]; rfl)
     | (rw [show k = 9 from (by omega)]; rfl)
     | (rw [show k = 10 from (by omega)]; rfl)
     | (rw [show k = 11 from (by omega)]; rfl)
     | (rw [show k = 12 from (by omega)]; rfl)
     | (rw [show k = 15 from (by omega)]; rfl)
     | (rw [show k = 16 from (by omega)]; rfl)
     | exact (fieldsK_rest k (by omega)).symm
 refine G_seq ?_
 refine G_region (l := [0, 1]) rfl ?_
 refine G_val rfl rfl rfl rfl (V_eql rfl rfl rfl) ?_
 refine G_val rfl rfl rfl rfl (V_assign rfl rfl) ?_
 refine G_done ?_
 refine G_ifD rfl (fun hc3 => ?_) (fun hc3 => ?_)
 · skip
   refine G_seq ?_
   refine G_region (l := [0]) rfl ?_
   refine G_val rfl rfl rfl rfl (V_assign rfl rfl) ?_
   refine G_done ?_
   refine G_ret (post := []) Try.func89 rfl (RVs_cons (RV_tmp rfl) RVs_nil) [] rfl ?_
   dsimp only [packed]
   refine ⟨str_eq ?_, rfl⟩
   first
     | (rw [show k = 1 from (by omega)]; rfl)
     | (rw [show k = 2 from (by omega)]; rfl)
     | (rw [show k = 3 from (by omega)]; rfl)
     | (rw [show k = 4 from (by omega)]; rfl)
     | (rw [show k = 5 from (by omega)]; rfl)
     | (rw [show k = 6 from (by omega)]; rfl)
     | (rw [show k = 7 from (by omega)]; rfl)
     | (rw [show k = 8 from (by omega)]; rfl)
     | (rw [show k = 9 from (by omega)]; rfl)
     | (rw [show k = 10 from (by omega)]; rfl)
     | (rw [show k = 11 from (by omega)]; rfl)
     | (rw [show k = 12 from (by omega)]; rfl)
     | (rw [show k = 15 from (by omega)]; rfl)
     | (rw [show k = 16 from (by omega)]; rfl)
     | exact (fieldsK_rest k (by omega)).symm
 refine G_seq ?_
 refine G_region (l := [0, 1]) rfl ?_
 refine G_val rfl rfl rfl rfl (V_eql rfl rfl rfl) ?_
 refine G_val rfl rfl rfl rfl (V_assign rfl rfl) ?_
 refine G_done ?_
 refine G_ifD rfl (fun hc4 => ?_) (fun hc4 => ?_)
 · skip
   refine G_seq ?_
   refine G_region (l := [0]) rfl ?_
   refine G_val rfl rfl rfl rfl (V_assign rfl rfl) ?_
   refine G_done ?_
   refine G_ret (post := []) Try.func89 rfl (RVs_cons (RV_tmp rfl) RVs_nil) [] rfl ?_
   dsimp only [packed]
   refine ⟨str_eq ?_, rfl⟩
   first
     | (rw [show k = 1 from (by omega)]; rfl)
     | (rw [show k = 2 from (by omega)]; rfl)
     | (rw [show k = 3 from (by omega)]; rfl)
     | (rw [show k = 4 from (by omega)]; rfl)
     | (rw [show k = 5 from (by omega)]; rfl)
     | (rw [show k = 6 from (by omega)]; rfl)
     | (rw [show k = 7 from (by omega)]; rfl)
     | (rw [show k = 8 from (by omega)]; rfl)
     | (rw [show k = 9 from (by omega)]; rfl)
     | (rw [show k = 10 from (by omega)]; rfl)
     | (rw [show k = 11 from (by omega)]; rfl)
     | (rw [show k = 12 from (by omega)]; rfl)
     | (rw [show k = 15 from (by omega)]; rfl)
     | (rw [show k = 16 from (by omega)]; rfl)
     | exact (fieldsK_rest k (by omega)).symm
 refine G_seq ?_
 refine G_seq ?_
 refine G_region (l := [0, 1]) rfl ?_
 refine G_val rfl rfl rfl rfl (V_eql rfl rfl rfl) ?_
 refine G_val rfl rfl rfl rfl (V_assign rfl rfl) ?_
 refine G_done ?_
 refine G_ifD rfl (fun hc5 => ?_) (fun hc5 => ?_)
 · skip
   refine G_skip ?_
   refine G_ifD rfl (fun hc6 => ?_) (fun hc6 => ?_)
   rotate_left
   · (exfalso; omega)
   refine G_seq ?_
   refine G_region (l := [0]) rfl ?_
   refine G_val rfl rfl rfl rfl (V_assign rfl rfl) ?_
   refine G_done ?_
   refine G_ret (post := []) Try.func89 rfl (RVs_cons (RV_tmp rfl) RVs_nil) [] rfl ?_
   dsimp only [packed]
   refine ⟨str_eq ?_, rfl⟩
   first
     | (rw [show k = 1 from (by omega)]; rfl)
     | (rw [show k = 2 from (by omega)]; rfl)
     | (rw [show k = 3 from (by omega)]; rfl)
     | (rw [show k = 4 from (by omega)]; rfl)
     | (rw [show k = 5 from (by omega)]; rfl)
     | (rw [show k = 6 from (by omega)]; rfl)
     | (rw [show k = 7 from (by omega)]; rfl)
     | (rw [show k = 8 from (by omega)]; rfl)
     | (rw [show k = 9 from (by omega)]; rfl)
     | (rw [show k = 10 from (by omega)]; rfl)
     | (rw [show k = 11 from (by omega)]; rfl)
     | (rw [show k = 12 from (by omega)]; rfl)
     | (rw [show k = 15 from (by omega)]; rfl)
     | (rw [show k = 16 from (by omega)]; rfl)
     | exact (fieldsK_rest k (by omega)).symm
 refine G_region (l := [0, 1]) rfl ?_
 refine G_val rfl rfl rfl rfl (V_eql rfl rfl rfl) ?_
 refine G_val rfl rfl rfl rfl (V_assign rfl rfl) ?_
 refine G_done ?_
 refine G_ifD rfl (fun hc6 => ?_) (fun hc6 => ?_)
 · skip
   refine G_seq ?_
   refine G_region (l := [0]) rfl ?_
   refine G_val rfl rfl rfl rfl (V_assign rfl rfl) ?_
   refine G_done ?_
   refine G_ret (post := []) Try.func89 rfl (RVs_cons (RV_tmp rfl) RVs_nil) [] rfl ?_
   dsimp only [packed]
   refine ⟨str_eq ?_, rfl⟩
   first
     | (rw [show k = 1 from (by omega)]; rfl)
     | (rw [show k = 2 from (by omega)]; rfl)
     | (rw [show k = 3 from (by omega)]; rfl)
     | (rw [show k = 4 from (by omega)]; rfl)
     | (rw [show k = 5 from (by omega)]; rfl)
     | (rw [show k = 6 from (by omega)]; rfl)
     | (rw [show k = 7 from (by omega)]; rfl)
     | (rw [show k = 8 from (by omega)]; rfl)
     | (rw [show k = 9 from (by omega)]; rfl)
     | (rw [show k = 10 from (by omega)]; rfl)
     | (rw [show k = 11 from (by omega)]; rfl)
     | (rw [show k = 12 from (by omega)]; rfl)
     | (rw [show k = 15 from (by omega)]; rfl)
     | (rw [show k = 16 from (by omega)]; rfl)
     | exact (fieldsK_rest k (by omega)).symm
 refine G_seq ?_
 refine G_region (l := [0, 1]) rfl ?_
 refine G_val rfl rfl rfl rfl (V_eql rfl rfl rfl) ?_
 refine G_val rfl rfl rfl rfl (V_assign rfl rfl) ?_
 refine G_done ?_
 refine G_ifD rfl (fun hc7 => ?_) (fun hc7 => ?_)
 · skip
   refine G_seq ?_
   refine G_region (l := [0]) rfl ?_
   refine G_val rfl rfl rfl rfl (V_assign rfl rfl) ?_
   refine G_done ?_
   refine G_ret (post := []) Try.func89 rfl (RVs_cons (RV_tmp rfl) RVs_nil) [] rfl ?_
   dsimp only [packed]
   refine ⟨str_eq ?_, rfl⟩
   first
     | (rw [show k = 1 from (by omega)]; rfl)
     | (rw [show k = 2 from (by omega)]; rfl)
     | (rw [show k = 3 from (by omega)]; rfl)
     | (rw [show k = 4 from (by omega)]; rfl)
     | (rw [show k = 5 from (by omega)]; rfl)
     | (rw [show k = 6 from (by omega)]; rfl)
     | (rw [show k = 7 from (by omega)]; rfl)
     | (rw [show k = 8 from (by omega)]; rfl)
     | (rw [show k = 9 from (by omega)]; rfl)
     | (rw [show k = 10 from (by omega)]; rfl)
     | (rw [show k = 11 from (by omega)]; rfl)
     | (rw [show k = 12 from (by omega)]; rfl)
     | (rw [show k = 15 from (by omega)]; rfl)
     | (rw [show k = 16 from (by omega)]; rfl)
     | exact (fieldsK_rest k (by omega)).symm
 refine G_seq ?_
 refine G_seq ?_
 refine G_region (l := [0, 1]) rfl ?_
 refine G_val rfl rfl rfl rfl (V_eql rfl rfl rfl) ?_
 refine G_val rfl rfl rfl rfl (V_assign rfl rfl) ?_
 refine G_done ?_
 refine G_ifD rfl (fun hc8 => ?_) (fun hc8 => ?_)
 · skip
   refine G_skip ?_
   refine G_ifD rfl (fun hc9 => ?_) (fun hc9 => ?_)
   rotate_left
   · (exfalso; omega)
   refine G_seq ?_
   refine G_region (l := [0]) rfl ?_
   refine G_val rfl rfl rfl rfl (V_assign rfl rfl) ?_
   refine G_done ?_
   refine G_ret (post := []) Try.func89 rfl (RVs_cons (RV_tmp rfl) RVs_nil) [] rfl ?_
   dsimp only [packed]
   refine ⟨str_eq ?_, rfl⟩
   first
     | (rw [show k = 1 from (by omega)]; rfl)
     | (rw [show k = 2 from (by omega)]; rfl)
     | (rw [show k = 3 from (by omega)]; rfl)
     | (rw [show k = 4 from (by omega)]; rfl)
     | (rw [show k = 5 from (by omega)]; rfl)
     | (rw [show k = 6 from (by omega)]; rfl)
     | (rw [show k = 7 from (by omega)]; rfl)
     | (rw [show k = 8 from (by omega)]; rfl)
     | (rw [show k = 9 from (by omega)]; rfl)
     | (rw [show k = 10 from (by omega)]; rfl)
     | (rw [show k = 11 from (by omega)]; rfl)
     | (rw [show k = 12 from (by omega)]; rfl)
     | (rw [show k = 15 from (by omega)]; rfl)
     | (rw [show k = 16 from (by omega)]; rfl)
     | exact (fieldsK_rest k (by omega)).symm
 refine G_seq ?_
 refine G_region (l := [0, 1]) rfl ?_
 refine G_val rfl rfl rfl rfl (V_eql rfl rfl rfl) ?_
 refine G_val rfl rfl rfl rfl (V_assign rfl rfl) ?_
 refine G_done ?_
 refine G_ifD rfl (fun hc9 => ?_) (fun hc9 => ?_)
 · skip
   refine G_skip ?_
   refine G_ifD rfl (fun hc10 => ?_) (fun hc10 => ?_)
   rotate_left
   · (exfalso; omega)
   refine G_seq ?_
   refine G_region (l := [0]) rfl ?_
   refine G_val rfl rfl rfl rfl (V_assign rfl rfl) ?_
   refine G_done ?_
   refine G_ret (post := []) Try.func89 rfl (RVs_cons (RV_tmp rfl) RVs_nil) [] rfl ?_
   dsimp only [packed]
   refine ⟨str_eq ?_, rfl⟩
   first
     | (rw [show k = 1 from (by omega)]; rfl)
     | (rw [show k = 2 from (by omega)]; rfl)
     | (rw [show k = 3 from (by omega)]; rfl)
     | (rw [show k = 4 from (by omega)]; rfl)
     | (rw [show k = 5 from (by omega)]; rfl)
     | (rw [show k = 6 from (by omega)]; rfl)
     | (rw [show k = 7 from (by omega)]; rfl)
     | (rw [show k = 8 from (by omega)]; rfl)
     | (rw [show k = 9 from (by omega)]; rfl)
     | (rw [show k = 10 from (by omega)]; rfl)
     | (rw [show k = 11 from (by omega)]; rfl)
     | (rw [show k = 12 from (by omega)]; rfl)
     | (rw [show k = 15 from (by omega)]; rfl)
     | (rw [show k = 16 from (by omega)]; rfl)
     | exact (fieldsK_rest k (by omega)).symm
 refine G_region (l := [0, 1]) rfl ?_
 refine G_val rfl rfl rfl rfl (V_eql rfl rfl rfl) ?_
 refine G_val rfl rfl rfl rfl (V_assign rfl rfl) ?_
 refine G_done ?_
 refine G_ifD rfl (fun hc10 => ?_) (fun hc10 => ?_)
 · skip
   refine G_seq ?_
   refine G_region (l := [0]) rfl ?_
   refine G_val rfl rfl rfl rfl (V_assign rfl rfl) ?_
   refine G_done ?_
   refine G_ret (post := []) Try.func89 rfl (RVs_cons (RV_tmp rfl) RVs_nil) [] rfl ?_
   dsimp only [packed]
   refine ⟨str_eq ?_, rfl⟩
   first
     | (rw [show k = 1 from (by omega)]; rfl)
     | (rw [show k = 2 from (by omega)]; rfl)
     | (rw [show k = 3 from (by omega)]; rfl)
     | (rw [show k = 4 from (by omega)]; rfl)
     | (rw [show k = 5 from (by omega)]; rfl)
     | (rw [show k = 6 from (by omega)]; rfl)
     | (rw [show k = 7 from (by omega)]; rfl)
     | (rw [show k = 8 from (by omega)]; rfl)
     | (rw [show k = 9 from (by omega)]; rfl)
     | (rw [show k = 10 from (by omega)]; rfl)
     | (rw [show k = 11 from (by omega)]; rfl)
     | (rw [show k = 12 from (by omega)]; rfl)
     | (rw [show k = 15 from (by omega)]; rfl)
     | (rw [show k = 16 from (by omega)]; rfl)
     | exact (fieldsK_rest k (by omega)).symm
 refine G_seq ?_
 refine G_region (l := [0, 1]) rfl ?_
 refine G_val rfl rfl rfl rfl (V_eql rfl rfl rfl) ?_
 refine G_val rfl rfl rfl rfl (V_assign rfl rfl) ?_
 refine G_done ?_
 refine G_ifD rfl (fun hc11 => ?_) (fun hc11 => ?_)
 · skip
   refine G_seq ?_
   refine G_region (l := [0]) rfl ?_
   refine G_val rfl rfl rfl rfl (V_assign rfl rfl) ?_
   refine G_done ?_
   refine G_ret (post := []) Try.func89 rfl (RVs_cons (RV_tmp rfl) RVs_nil) [] rfl ?_
   dsimp only [packed]
   refine ⟨str_eq ?_, rfl⟩
   first
     | (rw [show k = 1 from (by omega)]; rfl)
     | (rw [show k = 2 from (by omega)]; rfl)
     | (rw [show k = 3 from (by omega)]; rfl)
     | (rw [show k = 4 from (by omega)]; rfl)
     | (rw [show k = 5 from (by omega)]; rfl)
     | (rw [show k = 6 from (by omega)]; rfl)
     | (rw [show k = 7 from (by omega)]; rfl)
     | (rw [show k = 8 from (by omega)]; rfl)
     | (rw [show k = 9 from (by omega)]; rfl)
     | (rw [show k = 10 from (by omega)]; rfl)
     | (rw [show k = 11 from (by omega)]; rfl)
     | (rw [show k = 12 from (by omega)]; rfl)
     | (rw [show k = 15 from (by omega)]; rfl)
     | (rw [show k = 16 from (by omega)]; rfl)
     | exact (fieldsK_rest k (by omega)).symm
 refine G_seq ?_
 refine G_region (l := [0, 1]) rfl ?_
 refine G_val rfl rfl rfl rfl (V_eql rfl rfl rfl) ?_
 refine G_val rfl rfl rfl rfl (V_assign rfl rfl) ?_
 refine G_done ?_
 refine G_ifD rfl (fun hc12 => ?_) (fun hc12 => ?_)
 · skip
   refine G_seq ?_
   refine G_region (l := [0]) rfl ?_
   refine G_val rfl rfl rfl rfl (V_assign rfl rfl) ?_
   refine G_done ?_
   refine G_ret (post := []) Try.func89 rfl (RVs_cons (RV_tmp rfl) RVs_nil) [] rfl ?_
   dsimp only [packed]
   refine ⟨str_eq ?_, rfl⟩
   first
     | (rw [show k = 1 from (by omega)]; rfl)
     | (rw [show k = 2 from (by omega)]; rfl)
     | (rw [show k = 3 from (by omega)]; rfl)
     | (rw [show k = 4 from (by omega)]; rfl)
     | (rw [show k = 5 from (by omega)]; rfl)
     | (rw [show k = 6 from (by omega)]; rfl)
     | (rw [show k = 7 from (by omega)]; rfl)
     | (rw [show k = 8 from (by omega)]; rfl)
     | (rw [show k = 9 from (by omega)]; rfl)
     | (rw [show k = 10 from (by omega)]; rfl)
     | (rw [show k = 11 from (by omega)]; rfl)
     | (rw [show k = 12 from (by omega)]; rfl)
     | (rw [show k = 15 from (by omega)]; rfl)
     | (rw [show k = 16 from (by omega)]; rfl)
     | exact (fieldsK_rest k (by omega)).symm
 refine G_seq ?_
 refine G_region (l := [0, 1]) rfl ?_
 refine G_val rfl rfl rfl rfl (V_eql rfl rfl rfl) ?_
 refine G_val rfl rfl rfl rfl (V_assign rfl rfl) ?_
 refine G_done ?_
 refine G_ifD rfl (fun hc13 => ?_) (fun hc13 => ?_)
 · skip
   refine G_seq ?_
   refine G_region (l := [0]) rfl ?_
   refine G_val rfl rfl rfl rfl (V_assign rfl rfl) ?_
   refine G_done ?_
   refine G_ret (post := []) Try.func89 rfl (RVs_cons (RV_tmp rfl) RVs_nil) [] rfl ?_
   dsimp only [packed]
   refine ⟨str_eq ?_, rfl⟩
   first
     | (rw [show k = 1 from (by omega)]; rfl)
     | (rw [show k = 2 from (by omega)]; rfl)
     | (rw [show k = 3 from (by omega)]; rfl)
     | (rw [show k = 4 from (by omega)]; rfl)
     | (rw [show k = 5 from (by omega)]; rfl)
     | (rw [show k = 6 from (by omega)]; rfl)
     | (rw [show k = 7 from (by omega)]; rfl)
     | (rw [show k = 8 from (by omega)]; rfl)
     | (rw [show k = 9 from (by omega)]; rfl)
     | (rw [show k = 10 from (by omega)]; rfl)
     | (rw [show k = 11 from (by omega)]; rfl)
     | (rw [show k = 12 from (by omega)]; rfl)
     | (rw [show k = 15 from (by omega)]; rfl)
     | (rw [show k = 16 from (by omega)]; rfl)
     | exact (fieldsK_rest k (by omega)).symm
 refine G_seq ?_
 refine G_region (l := [0, 1]) rfl ?_
 refine G_val rfl rfl rfl rfl (V_eql rfl rfl rfl) ?_
 refine G_val rfl rfl rfl rfl (V_assign rfl rfl) ?_
 refine G_done ?_
 refine G_ifD rfl (fun hc14 => ?_) (fun hc14 => ?_)
 · skip
   refine G_seq ?_
   refine G_region (l := [0]) rfl ?_
   refine G_val rfl rfl rfl rfl (V_assign rfl rfl) ?_
   refine G_done ?_
   refine G_ret (post := []) Try.func89 rfl (RVs_cons (RV_tmp rfl) RVs_nil) [] rfl ?_
   dsimp only [packed]
   refine ⟨str_eq ?_, rfl⟩
   first
     | (rw [show k = 1 from (by omega)]; rfl)
     | (rw [show k = 2 from (by omega)]; rfl)
     | (rw [show k = 3 from (by omega)]; rfl)
     | (rw [show k = 4 from (by omega)]; rfl)
     | (rw [show k = 5 from (by omega)]; rfl)
     | (rw [show k = 6 from (by omega)]; rfl)
     | (rw [show k = 7 from (by omega)]; rfl)
     | (rw [show k = 8 from (by omega)]; rfl)
     | (rw [show k = 9 from (by omega)]; rfl)
     | (rw [show k = 10 from (by omega)]; rfl)
     | (rw [show k = 11 from (by omega)]; rfl)
     | (rw [show k = 12 from (by omega)]; rfl)
     | (rw [show k = 15 from (by omega)]; rfl)
     | (rw [show k = 16 from (by omega)]; rfl)
     | exact (fieldsK_rest k (by omega)).symm
 refine G_skip ?_
 refine G_inBlock ?_
 refine G_seq ?_
 refine G_region (l := [0]) rfl ?_
 refine G_val rfl rfl rfl rfl (V_assign rfl rfl) ?_
 refine G_done ?_
 refine G_ret (post := []) Try.func89 rfl (RVs_cons (RV_tmp rfl) RVs_nil) [] rfl ?_
 dsimp only [packed]
 refine ⟨str_eq ?_, rfl⟩
 first
   | (rw [show k = 1 from (by omega)]; rfl)
   | (rw [show k = 2 from (by omega)]; rfl)
   | (rw [show k = 3 from (by omega)]; rfl)
   | (rw [show k = 4 from (by omega)]; rfl)
   | (rw [show k = 5 from (by omega)]; rfl)
   | (rw [show k = 6 from (by omega)]; rfl)
   | (rw [show k = 7 from (by omega)]; rfl)
   | (rw [show k = 8 from (by omega)]; rfl)
   | (rw [show k = 9 from (by omega)]; rfl)
   | (rw [show k = 10 from (by omega)]; rfl)
   | (rw [show k = 11 from (by omega)]; rfl)
   | (rw [show k = 12 from (by omega)]; rfl)
   | (rw [show k = 15 from (by omega)]; rfl)
   | (rw [show k = 16 from (by omega)]; rfl)
   | exact (fieldsK_rest k (by omega)).symm

set_option maxRecDepth 100000 in
set_option maxHeartbeats 1000000 in
theorem rmsg_has (k c : Int) :
    Ct Try.prog 161 [.int .i64 k, .int .u8 c] [] [] fun v post => v = .bool (hasI k c) ∧ post = [] := by
 have hfl := fieldsK_len k
 refine ct_of Try.func161 rfl rfl (fun w0 => ?_)
 show G _ _ [(0, _), (1, _)] _ _
 refine G_seq ?_
 refine G_region (l := [0]) rfl ?_
 refine G_val rfl rfl rfl rfl (V_assign rfl rfl) ?_
 refine G_done ?_
 refine G_seq ?_
 refine G_region (l := [0, 1, 2]) rfl ?_
 refine G_val rfl rfl rfl rfl (V_move rfl rfl) ?_
 refine G_call (L2 := []) rfl rfl rfl rfl rfl rfl Try.call89 (rmsg_fields _) [] [] rfl rfl ?_
 rintro v post ⟨rfl, rfl⟩
 refine G_val rfl rfl rfl rfl (V_assign rfl rfl) ?_
 refine G_done ?_
 refine G_seq ?_
 refine G_seq ?_
 refine G_region (l := [0]) rfl ?_
 refine G_val rfl rfl rfl rfl (V_assign rfl rfl) ?_
 refine G_done ?_
 refine G_block ?_
 refine G_sub ?he3 [] ?hl3 (G_loop (X := Nat) (fun j => j ≤ (fieldsK k).length ∧ ((fieldsK k).take j).any (fun x => decide ((x.toNat : Int) = c)) = false) (fun j => (fieldsK k).length - j) (fun j => [(1, .int .u8 c), (5, .string (bs (fieldsK k))), (6, .int .i64 (j : Int))]) (fun j => []) ?round3 0 ?h03)
 case he3 => exact (And.intro rfl (And.intro rfl (And.intro rfl trivial)))
 case hl3 => exact ⟨_, rfl⟩
 case h03 => exact ⟨Nat.zero_le _, rfl⟩
 case round3 =>
  intro j hJ ih
  try dsimp only at hJ ih
  obtain ⟨hj, hall⟩ := hJ
  refine G_seq ?_
  refine G_seq ?_
  refine G_region (l := [0, 1, 2, 3]) rfl ?_
  refine G_val rfl rfl rfl rfl (V_move rfl rfl) ?_
  refine G_val rfl rfl rfl rfl (V_move rfl rfl) ?_
  refine G_val rfl rfl rfl rfl (V_slen rfl rfl Try.underlying9 rfl) ?_
  refine G_val rfl rfl rfl rfl (V_lss rfl rfl rfl) ?_
  refine G_done ?_
  refine G_ifD rfl (fun hc1 => ?_) (fun hc1 => ?_)
  · skip
    refine G_skip ?_
    refine G_seq ?_
    refine G_block ?_
    refine G_seq ?_
    refine G_region (l := [0, 1, 2, 3, 4]) rfl ?_
    refine G_val rfl rfl rfl rfl (V_move rfl rfl) ?_
    refine G_val rfl rfl rfl rfl (V_move rfl rfl) ?_
    first
      | refine G_val rfl rfl rfl rfl (V_sindexN rfl Try.underlying9 rfl rfl rfl (by omega)) ?_
      | refine G_val rfl rfl rfl rfl (V_sindexD rfl Try.underlying9 rfl rfl (by omega) (by first | omega | (simp [rqCells]; done) | (simp [rqCells]; omega) | (simp [rqCells] at *; omega))) ?_
    refine G_val rfl rfl rfl rfl (V_move rfl rfl) ?_
    refine G_val rfl rfl rfl rfl (V_eql rfl rfl rfl) ?_
    refine G_done ?_
    refine G_ifD rfl (fun hc2 => ?_) (fun hc2 => ?_)
    · skip
      refine G_seq ?_
      refine G_region (l := [0]) rfl ?_
      refine G_val rfl rfl rfl rfl (V_assign rfl rfl) ?_
      refine G_done ?_
      refine G_ret (post := []) Try.func161 rfl (RVs_cons (RV_tmp rfl) RVs_nil) [] rfl ?_
      dsimp only [packed]
      first | exact ⟨bool_eq (has_yes (j := j) (by omega) (by assumption)).symm, rfl⟩ | exact ⟨bool_eq (has_no (j := j) (by omega) hall).symm, rfl⟩
    refine G_skip ?_
    refine G_inBlock ?_
    refine G_region (l := [0, 1, 2]) rfl ?_
    refine G_val rfl rfl rfl rfl (V_move rfl rfl) ?_
    first
      | refine G_val rfl rfl rfl rfl ((V_add rfl rfl rfl).int (wrap_i64 (by omega))) ?_
      | refine G_val rfl rfl rfl rfl (V_add rfl rfl rfl) ?_
    refine G_val rfl rfl rfl rfl (V_assign rfl rfl) ?_
    refine G_done ?_
    refine G_sub ?_ [] ?_ (ih (j + 1) ?_ ?_)
    · (refine (And.intro ?_ (And.intro ?_ (And.intro ?_ trivial))) <;> first | rfl | exact slot_int (by omega) | exact slot_int (by simp))
    · exact ⟨_, rfl⟩
    · exact ⟨by omega, has_next (by omega) hall (by assumption)⟩
    · (first | omega | (dsimp only; omega))
  refine G_exit rfl ?_
  refine G_seq ?_
  refine G_region (l := [0]) rfl ?_
  refine G_val rfl rfl rfl rfl (V_assign rfl rfl) ?_
  refine G_done ?_
  refine G_ret (post := []) Try.func161 rfl (RVs_cons (RV_tmp rfl) RVs_nil) [] rfl ?_
  dsimp only [packed]
  first | exact ⟨bool_eq (has_yes (j := j) (by omega) (by assumption)).symm, rfl⟩ | exact ⟨bool_eq (has_no (j := j) (by omega) hall).symm, rfl⟩

set_option maxRecDepth 100000 in
set_option maxHeartbeats 1000000 in
theorem rmsg_text (k c : Int) (s : List UInt8) :
    Ct Try.prog 159 [.int .i64 k, .int .u8 c, .string (bs s)] [] [] fun v post => v = .string (bs (selT (hasI k c) s)) ∧ post = [] := by
 refine ct_of Try.func159 rfl rfl (fun w0 => ?_)
 show G _ _ [(0, _), (1, _), (2, _)] _ _
 refine G_seq ?_
 refine G_region (l := [0]) rfl ?_
 refine G_val rfl rfl rfl rfl (V_assign rfl rfl) ?_
 refine G_done ?_
 refine G_seq ?_
 refine G_seq ?_
 refine G_region (l := [0, 1, 2]) rfl ?_
 refine G_val rfl rfl rfl rfl (V_move rfl rfl) ?_
 refine G_val rfl rfl rfl rfl (V_move rfl rfl) ?_
 refine G_call (L2 := []) rfl rfl rfl rfl rfl rfl Try.call161 (rmsg_has _ _) [] [] rfl rfl ?_
 rintro v post ⟨rfl, rfl⟩
 refine G_done ?_
 refine G_if rfl (fun hc1 => ?_) (fun hc1 => ?_)
 · skip
   refine G_seq ?_
   refine G_region (l := [0, 1]) rfl ?_
   refine G_val rfl rfl rfl rfl (V_move rfl rfl) ?_
   refine G_val rfl rfl rfl rfl (V_assign rfl rfl) ?_
   refine G_done ?_
   refine G_ret (post := []) Try.func159 rfl (RVs_cons (RV_tmp rfl) RVs_nil) [] rfl ?_
   dsimp only [packed]
   refine ⟨str_eq ?_, rfl⟩; simp [selT, *]
 refine G_skip ?_
 refine G_seq ?_
 refine G_region (l := [0]) rfl ?_
 refine G_val rfl rfl rfl rfl (V_assign rfl rfl) ?_
 refine G_done ?_
 refine G_ret (post := []) Try.func159 rfl (RVs_cons (RV_tmp rfl) RVs_nil) [] rfl ?_
 dsimp only [packed]
 refine ⟨str_eq ?_, rfl⟩; simp [selT, *]

set_option maxRecDepth 100000 in
set_option maxHeartbeats 1000000 in
theorem rmsg_number (k c n : Int) :
    Ct Try.prog 160 [.int .i64 k, .int .u8 c, .int .i64 n] [] [] fun v post => v = .int .i64 (selN (hasI k c) n) ∧ post = [] := by
 refine ct_of Try.func160 rfl rfl (fun w0 => ?_)
 show G _ _ [(0, _), (1, _), (2, _)] _ _
 refine G_seq ?_
 refine G_region (l := [0]) rfl ?_
 refine G_val rfl rfl rfl rfl (V_assign rfl rfl) ?_
 refine G_done ?_
 refine G_seq ?_
 refine G_seq ?_
 refine G_region (l := [0, 1, 2]) rfl ?_
 refine G_val rfl rfl rfl rfl (V_move rfl rfl) ?_
 refine G_val rfl rfl rfl rfl (V_move rfl rfl) ?_
 refine G_call (L2 := []) rfl rfl rfl rfl rfl rfl Try.call161 (rmsg_has _ _) [] [] rfl rfl ?_
 rintro v post ⟨rfl, rfl⟩
 refine G_done ?_
 refine G_if rfl (fun hc1 => ?_) (fun hc1 => ?_)
 · skip
   refine G_seq ?_
   refine G_region (l := [0, 1]) rfl ?_
   refine G_val rfl rfl rfl rfl (V_move rfl rfl) ?_
   refine G_val rfl rfl rfl rfl (V_assign rfl rfl) ?_
   refine G_done ?_
   refine G_ret (post := []) Try.func160 rfl (RVs_cons (RV_tmp rfl) RVs_nil) [] rfl ?_
   dsimp only [packed]
   refine ⟨int_eq ?_, rfl⟩; simp [selN, *]
 refine G_skip ?_
 refine G_seq ?_
 refine G_region (l := [0]) rfl ?_
 refine G_val rfl rfl rfl rfl (V_assign rfl rfl) ?_
 refine G_done ?_
 refine G_ret (post := []) Try.func160 rfl (RVs_cons (RV_tmp rfl) RVs_nil) [] rfl ?_
 dsimp only [packed]
 refine ⟨int_eq ?_, rfl⟩; simp [selN, *]

set_option maxRecDepth 100000 in
set_option maxHeartbeats 4000000 in
theorem rmsg_clean (q : Rq) :
    Ct Try.prog 139 [.agg (rqCells q).toArray] [] [] fun v post => v = .agg (rqCells (refRq q)).toArray ∧ post = [] := by
 refine ct_of Try.func139 rfl rfl (fun w0 => ?_)
 show G _ _ [(0, _)] _ _
 refine G_seq ?_
 refine G_region (l := [0, 1]) rfl ?_
 refine G_new rfl rfl rfl rfl (N_boxA rfl rfl) (fun b1 => ?_)
 refine G_new rfl rfl rfl rfl (N_allocA rfl infRMsgW_67 rfl) (fun b2 => ?_)
 refine G_done ?_
 refine G_seq ?_
 refine G_region (l := [0, 1, 2]) rfl ?_
 refine G_val rfl rfl rfl rfl (V_fieldAddr (fo := 0) rfl Try.underlying67 rfl infRMsgW_3 rfl rfl rfl) ?_
 refine G_val rfl rfl rfl rfl (V_load1 rfl rfl (mem_at 1 rfl) rfl Try.underlying3 rfl) ?_
 refine G_val rfl rfl rfl rfl (V_assign rfl rfl) ?_
 refine G_done ?_
 refine G_seq ?_
 refine G_region (l := [0, 1, 2, 3]) rfl ?_
 refine G_val rfl rfl rfl rfl (V_move rfl rfl) ?_
 refine G_val rfl rfl rfl rfl (V_buildS (cs := [_, _, _, _, _, _, _, _, _, _, _, _, _, _, _, _, _]) rfl Try.underlying67 infRMsgW_67 rfl plcRMsgW_67 rfl rfl rfl) ?_
 refine G_new rfl rfl rfl rfl (N_allocA rfl infRMsgW_67 rfl) (fun b4 => ?_)
 refine G_put (l1 := []) (L' := [_, _, _]) rfl rfl rfl rfl (P_storeA (s := 17) rfl rfl rfl (mem_at 0 rfl) (by first | rfl | (simp [bcells_length, rqCells]; done) | (simp [bcells_length, rqCells]; omega) | (simp [bcells_length, *, rqCells]; done)) infRMsgW_67 rfl (by first | rfl | (simp [bcells_length, rqCells]; done) | (simp [bcells_length, rqCells]; omega) | (simp [bcells_length, *, rqCells]; done)) (by first | rfl | exact bcells_all _ | (simp [Value.oneCell', rqCells]; done) | (simp [Value.oneCell', *, rqCells]; done))) rfl ?_
 refine G_done ?_
 refine G_seq ?_
 show G _ _ _ [(some b4, .cells (rqCells (rqBare q.kind)).toArray 67 (0, 0)), _, _] _
 refine G_region (l := [0, 1, 2, 3, 4, 5]) rfl ?_
 refine G_val rfl rfl rfl rfl (V_move rfl rfl) ?_
 refine G_val rfl rfl rfl rfl (V_fieldAddr (fo := 1) rfl Try.underlying67 rfl infRMsgW_9 rfl rfl rfl) ?_
 refine G_val rfl rfl rfl rfl (V_load1 rfl rfl (mem_at 2 rfl) rfl Try.underlying9 rfl) ?_
 refine G_call (L2 := [_, _, _]) rfl rfl rfl rfl rfl rfl Try.call159 (rmsg_text _ _ _) [] [] rfl rfl ?_
 rintro v post ⟨rfl, rfl⟩
 show G _ _ _ [_, _, _] _
 refine G_val rfl rfl rfl rfl (V_fieldAddr (fo := 1) rfl Try.underlying67 rfl infRMsgW_9 rfl rfl rfl) ?_
 refine G_put (l1 := []) (L' := [_, _, _]) rfl rfl rfl rfl (P_store1 rfl rfl rfl (mem_at 0 rfl) (by first | exact of_decide_eq_true rfl | omega | (simp [rqCells]; done) | (simp [rqCells]; omega) | (simp [rqCells] at *; omega)) infRMsgW_9 rfl rfl) rfl ?_
 rw [rqCells_setText _ 1 (by omega) (by omega)]
 refine G_done ?_
 refine G_seq ?_
 refine G_region (l := [0, 1, 2, 3, 4, 5]) rfl ?_
 refine G_val rfl rfl rfl rfl (V_move rfl rfl) ?_
 refine G_val rfl rfl rfl rfl (V_fieldAddr (fo := 2) rfl Try.underlying67 rfl infRMsgW_9 rfl rfl rfl) ?_
 refine G_val rfl rfl rfl rfl (V_load1 rfl rfl (mem_at 2 rfl) rfl Try.underlying9 rfl) ?_
 refine G_call (L2 := [_, _, _]) rfl rfl rfl rfl rfl rfl Try.call159 (rmsg_text _ _ _) [] [] rfl rfl ?_
 rintro v post ⟨rfl, rfl⟩
 show G _ _ _ [_, _, _] _
 refine G_val rfl rfl rfl rfl (V_fieldAddr (fo := 2) rfl Try.underlying67 rfl infRMsgW_9 rfl rfl rfl) ?_
 refine G_put (l1 := []) (L' := [_, _, _]) rfl rfl rfl rfl (P_store1 rfl rfl rfl (mem_at 0 rfl) (by first | exact of_decide_eq_true rfl | omega | (simp [rqCells]; done) | (simp [rqCells]; omega) | (simp [rqCells] at *; omega)) infRMsgW_9 rfl rfl) rfl ?_
 rw [rqCells_setText _ 2 (by omega) (by omega)]
 refine G_done ?_
 refine G_seq ?_
 refine G_region (l := [0, 1, 2, 3, 4, 5]) rfl ?_
 refine G_val rfl rfl rfl rfl (V_move rfl rfl) ?_
 refine G_val rfl rfl rfl rfl (V_fieldAddr (fo := 3) rfl Try.underlying67 rfl infRMsgW_9 rfl rfl rfl) ?_
 refine G_val rfl rfl rfl rfl (V_load1 rfl rfl (mem_at 2 rfl) rfl Try.underlying9 rfl) ?_
 refine G_call (L2 := [_, _, _]) rfl rfl rfl rfl rfl rfl Try.call159 (rmsg_text _ _ _) [] [] rfl rfl ?_
 rintro v post ⟨rfl, rfl⟩
 show G _ _ _ [_, _, _] _
 refine G_val rfl rfl rfl rfl (V_fieldAddr (fo := 3) rfl Try.underlying67 rfl infRMsgW_9 rfl rfl rfl) ?_
 refine G_put (l1 := []) (L' := [_, _, _]) rfl rfl rfl rfl (P_store1 rfl rfl rfl (mem_at 0 rfl) (by first | exact of_decide_eq_true rfl | omega | (simp [rqCells]; done) | (simp [rqCells]; omega) | (simp [rqCells] at *; omega)) infRMsgW_9 rfl rfl) rfl ?_
 rw [rqCells_setText _ 3 (by omega) (by omega)]
 refine G_done ?_
 refine G_seq ?_
 refine G_region (l := [0, 1, 2, 3, 4, 5]) rfl ?_
 refine G_val rfl rfl rfl rfl (V_move rfl rfl) ?_
 refine G_val rfl rfl rfl rfl (V_fieldAddr (fo := 4) rfl Try.underlying67 rfl infRMsgW_9 rfl rfl rfl) ?_
 refine G_val rfl rfl rfl rfl (V_load1 rfl rfl (mem_at 2 rfl) rfl Try.underlying9 rfl) ?_
 refine G_call (L2 := [_, _, _]) rfl rfl rfl rfl rfl rfl Try.call159 (rmsg_text _ _ _) [] [] rfl rfl ?_
 rintro v post ⟨rfl, rfl⟩
 show G _ _ _ [_, _, _] _
 refine G_val rfl rfl rfl rfl (V_fieldAddr (fo := 4) rfl Try.underlying67 rfl infRMsgW_9 rfl rfl rfl) ?_
 refine G_put (l1 := []) (L' := [_, _, _]) rfl rfl rfl rfl (P_store1 rfl rfl rfl (mem_at 0 rfl) (by first | exact of_decide_eq_true rfl | omega | (simp [rqCells]; done) | (simp [rqCells]; omega) | (simp [rqCells] at *; omega)) infRMsgW_9 rfl rfl) rfl ?_
 rw [rqCells_setText _ 4 (by omega) (by omega)]
 refine G_done ?_
 refine G_seq ?_
 refine G_region (l := [0, 1, 2, 3, 4, 5]) rfl ?_
 refine G_val rfl rfl rfl rfl (V_move rfl rfl) ?_
 refine G_val rfl rfl rfl rfl (V_fieldAddr (fo := 5) rfl Try.underlying67 rfl infRMsgW_9 rfl rfl rfl) ?_
 refine G_val rfl rfl rfl rfl (V_load1 rfl rfl (mem_at 2 rfl) rfl Try.underlying9 rfl) ?_
 refine G_call (L2 := [_, _, _]) rfl rfl rfl rfl rfl rfl Try.call159 (rmsg_text _ _ _) [] [] rfl rfl ?_
 rintro v post ⟨rfl, rfl⟩
 show G _ _ _ [_, _, _] _
 refine G_val rfl rfl rfl rfl (V_fieldAddr (fo := 5) rfl Try.underlying67 rfl infRMsgW_9 rfl rfl rfl) ?_
 refine G_put (l1 := []) (L' := [_, _, _]) rfl rfl rfl rfl (P_store1 rfl rfl rfl (mem_at 0 rfl) (by first | exact of_decide_eq_true rfl | omega | (simp [rqCells]; done) | (simp [rqCells]; omega) | (simp [rqCells] at *; omega)) infRMsgW_9 rfl rfl) rfl ?_
 rw [rqCells_setText _ 5 (by omega) (by omega)]
 refine G_done ?_
 refine G_seq ?_
 refine G_region (l := [0, 1, 2, 3, 4, 5]) rfl ?_
 refine G_val rfl rfl rfl rfl (V_move rfl rfl) ?_
 refine G_val rfl rfl rfl rfl (V_fieldAddr (fo := 6) rfl Try.underlying67 rfl infRMsgW_9 rfl rfl rfl) ?_
 refine G_val rfl rfl rfl rfl (V_load1 rfl rfl (mem_at 2 rfl) rfl Try.underlying9 rfl) ?_
 refine G_call (L2 := [_, _, _]) rfl rfl rfl rfl rfl rfl Try.call159 (rmsg_text _ _ _) [] [] rfl rfl ?_
 rintro v post ⟨rfl, rfl⟩
 show G _ _ _ [_, _, _] _
 refine G_val rfl rfl rfl rfl (V_fieldAddr (fo := 6) rfl Try.underlying67 rfl infRMsgW_9 rfl rfl rfl) ?_
 refine G_put (l1 := []) (L' := [_, _, _]) rfl rfl rfl rfl (P_store1 rfl rfl rfl (mem_at 0 rfl) (by first | exact of_decide_eq_true rfl | omega | (simp [rqCells]; done) | (simp [rqCells]; omega) | (simp [rqCells] at *; omega)) infRMsgW_9 rfl rfl) rfl ?_
 rw [rqCells_setText _ 6 (by omega) (by omega)]
 refine G_done ?_
 refine G_seq ?_
 refine G_region (l := [0, 1, 2, 3, 4, 5]) rfl ?_
 refine G_val rfl rfl rfl rfl (V_move rfl rfl) ?_
 refine G_val rfl rfl rfl rfl (V_fieldAddr (fo := 7) rfl Try.underlying67 rfl infRMsgW_3 rfl rfl rfl) ?_
 refine G_val rfl rfl rfl rfl (V_load1 rfl rfl (mem_at 2 rfl) rfl Try.underlying3 rfl) ?_
 refine G_call (L2 := [_, _, _]) rfl rfl rfl rfl rfl rfl Try.call160 (rmsg_number _ _ _) [] [] rfl rfl ?_
 rintro v post ⟨rfl, rfl⟩
 show G _ _ _ [_, _, _] _
 refine G_val rfl rfl rfl rfl (V_fieldAddr (fo := 7) rfl Try.underlying67 rfl infRMsgW_3 rfl rfl rfl) ?_
 refine G_put (l1 := []) (L' := [_, _, _]) rfl rfl rfl rfl (P_store1 rfl rfl rfl (mem_at 0 rfl) (by first | exact of_decide_eq_true rfl | omega | (simp [rqCells]; done) | (simp [rqCells]; omega) | (simp [rqCells] at *; omega)) infRMsgW_3 rfl rfl) rfl ?_
 rw [rqCells_setNum _ 7 (by omega) (by omega)]
 refine G_done ?_
 refine G_seq ?_
 refine G_region (l := [0, 1, 2, 3, 4, 5]) rfl ?_
 refine G_val rfl rfl rfl rfl (V_move rfl rfl) ?_
 refine G_val rfl rfl rfl rfl (V_fieldAddr (fo := 8) rfl Try.underlying67 rfl infRMsgW_3 rfl rfl rfl) ?_
 refine G_val rfl rfl rfl rfl (V_load1 rfl rfl (mem_at 2 rfl) rfl Try.underlying3 rfl) ?_
 refine G_call (L2 := [_, _, _]) rfl rfl rfl rfl rfl rfl Try.call160 (rmsg_number _ _ _) [] [] rfl rfl ?_
 rintro v post ⟨rfl, rfl⟩
 show G _ _ _ [_, _, _] _
 refine G_val rfl rfl rfl rfl (V_fieldAddr (fo := 8) rfl Try.underlying67 rfl infRMsgW_3 rfl rfl rfl) ?_
 refine G_put (l1 := []) (L' := [_, _, _]) rfl rfl rfl rfl (P_store1 rfl rfl rfl (mem_at 0 rfl) (by first | exact of_decide_eq_true rfl | omega | (simp [rqCells]; done) | (simp [rqCells]; omega) | (simp [rqCells] at *; omega)) infRMsgW_3 rfl rfl) rfl ?_
 rw [rqCells_setNum _ 8 (by omega) (by omega)]
 refine G_done ?_
 refine G_seq ?_
 refine G_region (l := [0, 1, 2, 3, 4, 5]) rfl ?_
 refine G_val rfl rfl rfl rfl (V_move rfl rfl) ?_
 refine G_val rfl rfl rfl rfl (V_fieldAddr (fo := 9) rfl Try.underlying67 rfl infRMsgW_3 rfl rfl rfl) ?_
 refine G_val rfl rfl rfl rfl (V_load1 rfl rfl (mem_at 2 rfl) rfl Try.underlying3 rfl) ?_
 refine G_call (L2 := [_, _, _]) rfl rfl rfl rfl rfl rfl Try.call160 (rmsg_number _ _ _) [] [] rfl rfl ?_
 rintro v post ⟨rfl, rfl⟩
 show G _ _ _ [_, _, _] _
 refine G_val rfl rfl rfl rfl (V_fieldAddr (fo := 9) rfl Try.underlying67 rfl infRMsgW_3 rfl rfl rfl) ?_
 refine G_put (l1 := []) (L' := [_, _, _]) rfl rfl rfl rfl (P_store1 rfl rfl rfl (mem_at 0 rfl) (by first | exact of_decide_eq_true rfl | omega | (simp [rqCells]; done) | (simp [rqCells]; omega) | (simp [rqCells] at *; omega)) infRMsgW_3 rfl rfl) rfl ?_
 rw [rqCells_setNum _ 9 (by omega) (by omega)]
 refine G_done ?_
 refine G_seq ?_
 refine G_region (l := [0, 1, 2, 3, 4, 5]) rfl ?_
 refine G_val rfl rfl rfl rfl (V_move rfl rfl) ?_
 refine G_val rfl rfl rfl rfl (V_fieldAddr (fo := 10) rfl Try.underlying67 rfl infRMsgW_3 rfl rfl rfl) ?_
 refine G_val rfl rfl rfl rfl (V_load1 rfl rfl (mem_at 2 rfl) rfl Try.underlying3 rfl) ?_
 refine G_call (L2 := [_, _, _]) rfl rfl rfl rfl rfl rfl Try.call160 (rmsg_number _ _ _) [] [] rfl rfl ?_
 rintro v post ⟨rfl, rfl⟩
 show G _ _ _ [_, _, _] _
 refine G_val rfl rfl rfl rfl (V_fieldAddr (fo := 10) rfl Try.underlying67 rfl infRMsgW_3 rfl rfl rfl) ?_
 refine G_put (l1 := []) (L' := [_, _, _]) rfl rfl rfl rfl (P_store1 rfl rfl rfl (mem_at 0 rfl) (by first | exact of_decide_eq_true rfl | omega | (simp [rqCells]; done) | (simp [rqCells]; omega) | (simp [rqCells] at *; omega)) infRMsgW_3 rfl rfl) rfl ?_
 rw [rqCells_setNum _ 10 (by omega) (by omega)]
 refine G_done ?_
 refine G_seq ?_
 refine G_region (l := [0, 1, 2, 3, 4, 5]) rfl ?_
 refine G_val rfl rfl rfl rfl (V_move rfl rfl) ?_
 refine G_val rfl rfl rfl rfl (V_fieldAddr (fo := 11) rfl Try.underlying67 rfl infRMsgW_3 rfl rfl rfl) ?_
 refine G_val rfl rfl rfl rfl (V_load1 rfl rfl (mem_at 2 rfl) rfl Try.underlying3 rfl) ?_
 refine G_call (L2 := [_, _, _]) rfl rfl rfl rfl rfl rfl Try.call160 (rmsg_number _ _ _) [] [] rfl rfl ?_
 rintro v post ⟨rfl, rfl⟩
 show G _ _ _ [_, _, _] _
 refine G_val rfl rfl rfl rfl (V_fieldAddr (fo := 11) rfl Try.underlying67 rfl infRMsgW_3 rfl rfl rfl) ?_
 refine G_put (l1 := []) (L' := [_, _, _]) rfl rfl rfl rfl (P_store1 rfl rfl rfl (mem_at 0 rfl) (by first | exact of_decide_eq_true rfl | omega | (simp [rqCells]; done) | (simp [rqCells]; omega) | (simp [rqCells] at *; omega)) infRMsgW_3 rfl rfl) rfl ?_
 rw [rqCells_setNum _ 11 (by omega) (by omega)]
 refine G_done ?_
 refine G_seq ?_
 refine G_region (l := [0, 1, 2, 3, 4, 5]) rfl ?_
 refine G_val rfl rfl rfl rfl (V_move rfl rfl) ?_
 refine G_val rfl rfl rfl rfl (V_fieldAddr (fo := 12) rfl Try.underlying67 rfl infRMsgW_3 rfl rfl rfl) ?_
 refine G_val rfl rfl rfl rfl (V_load1 rfl rfl (mem_at 2 rfl) rfl Try.underlying3 rfl) ?_
 refine G_call (L2 := [_, _, _]) rfl rfl rfl rfl rfl rfl Try.call160 (rmsg_number _ _ _) [] [] rfl rfl ?_
 rintro v post ⟨rfl, rfl⟩
 show G _ _ _ [_, _, _] _
 refine G_val rfl rfl rfl rfl (V_fieldAddr (fo := 12) rfl Try.underlying67 rfl infRMsgW_3 rfl rfl rfl) ?_
 refine G_put (l1 := []) (L' := [_, _, _]) rfl rfl rfl rfl (P_store1 rfl rfl rfl (mem_at 0 rfl) (by first | exact of_decide_eq_true rfl | omega | (simp [rqCells]; done) | (simp [rqCells]; omega) | (simp [rqCells] at *; omega)) infRMsgW_3 rfl rfl) rfl ?_
 rw [rqCells_setNum _ 12 (by omega) (by omega)]
 refine G_done ?_
 refine G_seq ?_
 refine G_region (l := [0, 1, 2, 3, 4, 5]) rfl ?_
 refine G_val rfl rfl rfl rfl (V_move rfl rfl) ?_
 refine G_val rfl rfl rfl rfl (V_fieldAddr (fo := 13) rfl Try.underlying67 rfl infRMsgW_3 rfl rfl rfl) ?_
 refine G_val rfl rfl rfl rfl (V_load1 rfl rfl (mem_at 2 rfl) rfl Try.underlying3 rfl) ?_
 refine G_call (L2 := [_, _, _]) rfl rfl rfl rfl rfl rfl Try.call160 (rmsg_number _ _ _) [] [] rfl rfl ?_
 rintro v post ⟨rfl, rfl⟩
 show G _ _ _ [_, _, _] _
 refine G_val rfl rfl rfl rfl (V_fieldAddr (fo := 13) rfl Try.underlying67 rfl infRMsgW_3 rfl rfl rfl) ?_
 refine G_put (l1 := []) (L' := [_, _, _]) rfl rfl rfl rfl (P_store1 rfl rfl rfl (mem_at 0 rfl) (by first | exact of_decide_eq_true rfl | omega | (simp [rqCells]; done) | (simp [rqCells]; omega) | (simp [rqCells] at *; omega)) infRMsgW_3 rfl rfl) rfl ?_
 rw [rqCells_setNum _ 13 (by omega) (by omega)]
 refine G_done ?_
 refine G_seq ?_
 refine G_region (l := [0, 1, 2, 3, 4, 5]) rfl ?_
 refine G_val rfl rfl rfl rfl (V_move rfl rfl) ?_
 refine G_val rfl rfl rfl rfl (V_fieldAddr (fo := 14) rfl Try.underlying67 rfl infRMsgW_3 rfl rfl rfl) ?_
 refine G_val rfl rfl rfl rfl (V_load1 rfl rfl (mem_at 2 rfl) rfl Try.underlying3 rfl) ?_
 refine G_call (L2 := [_, _, _]) rfl rfl rfl rfl rfl rfl Try.call160 (rmsg_number _ _ _) [] [] rfl rfl ?_
 rintro v post ⟨rfl, rfl⟩
 show G _ _ _ [_, _, _] _
 refine G_val rfl rfl rfl rfl (V_fieldAddr (fo := 14) rfl Try.underlying67 rfl infRMsgW_3 rfl rfl rfl) ?_
 refine G_put (l1 := []) (L' := [_, _, _]) rfl rfl rfl rfl (P_store1 rfl rfl rfl (mem_at 0 rfl) (by first | exact of_decide_eq_true rfl | omega | (simp [rqCells]; done) | (simp [rqCells]; omega) | (simp [rqCells] at *; omega)) infRMsgW_3 rfl rfl) rfl ?_
 rw [rqCells_setNum _ 14 (by omega) (by omega)]
 refine G_done ?_
 refine G_seq ?_
 refine G_region (l := [0, 1, 2, 3, 4, 5]) rfl ?_
 refine G_val rfl rfl rfl rfl (V_move rfl rfl) ?_
 refine G_val rfl rfl rfl rfl (V_fieldAddr (fo := 15) rfl Try.underlying67 rfl infRMsgW_3 rfl rfl rfl) ?_
 refine G_val rfl rfl rfl rfl (V_load1 rfl rfl (mem_at 2 rfl) rfl Try.underlying3 rfl) ?_
 refine G_call (L2 := [_, _, _]) rfl rfl rfl rfl rfl rfl Try.call160 (rmsg_number _ _ _) [] [] rfl rfl ?_
 rintro v post ⟨rfl, rfl⟩
 show G _ _ _ [_, _, _] _
 refine G_val rfl rfl rfl rfl (V_fieldAddr (fo := 15) rfl Try.underlying67 rfl infRMsgW_3 rfl rfl rfl) ?_
 refine G_put (l1 := []) (L' := [_, _, _]) rfl rfl rfl rfl (P_store1 rfl rfl rfl (mem_at 0 rfl) (by first | exact of_decide_eq_true rfl | omega | (simp [rqCells]; done) | (simp [rqCells]; omega) | (simp [rqCells] at *; omega)) infRMsgW_3 rfl rfl) rfl ?_
 rw [rqCells_setNum _ 15 (by omega) (by omega)]
 refine G_done ?_
 refine G_seq ?_
 refine G_region (l := [0, 1, 2, 3, 4, 5, 6, 7]) rfl ?_
 refine G_val rfl rfl rfl rfl (V_fieldAddr (fo := 16) rfl Try.underlying67 rfl infRMsgW_4 rfl rfl rfl) ?_
 refine G_val rfl rfl rfl rfl (V_load1 rfl rfl (mem_at 2 rfl) rfl Try.underlying4 rfl) ?_
 refine G_val rfl rfl rfl rfl (V_move rfl rfl) ?_
 refine G_split 86 rfl (fun hc1 => ?_) (fun hc1 => ?_)
 · skip
   refine G_val rfl rfl rfl rfl (V_move rfl rfl) ?_
   refine G_call (L2 := [_, _, _]) rfl rfl rfl rfl rfl rfl Try.call161 (rmsg_has _ _) [] [] rfl rfl ?_
   rintro v post ⟨rfl, rfl⟩
   show G _ _ _ [_, _, _] _
   refine G_val rfl rfl rfl rfl (V_pickT rfl rfl rfl) ?_
   refine G_val rfl rfl rfl rfl (V_fieldAddr (fo := 16) rfl Try.underlying67 rfl infRMsgW_4 rfl rfl rfl) ?_
   refine G_put (l1 := []) (L' := [_, _, _]) rfl rfl rfl rfl (P_store1 rfl rfl rfl (mem_at 0 rfl) (by first | exact of_decide_eq_true rfl | omega | (simp [rqCells]; done) | (simp [rqCells]; omega) | (simp [rqCells] at *; omega)) infRMsgW_4 rfl rfl) rfl ?_
   rw [rqCells_setFlag]
   refine G_done ?_
   refine G_seq ?_
   refine G_region (l := [0, 1]) rfl ?_
   first
     | refine G_val rfl rfl rfl rfl (V_loadW (s := 17) rfl rfl (mem_at 0 rfl) Try.underlying67 rfl infRMsgW_67 rfl (by first | rfl | (simp [bcells_length, rqCells]; done) | (simp [bcells_length, rqCells]; omega) | (simp [bcells_length, *, rqCells]; done))) ?_
     | refine G_val rfl rfl rfl rfl (V_loadA (s := 17) rfl rfl (mem_at 0 rfl) Try.underlying67 rfl infRMsgW_67 rfl rfl (by first | rfl | (simp [bcells_length, rqCells]; done) | (simp [bcells_length, rqCells]; omega) | (simp [bcells_length, *, rqCells]; done))) ?_
   refine G_put (l1 := [_]) (L' := [_, _, _]) rfl rfl rfl rfl (P_storeA (s := 17) rfl rfl rfl (mem_at 1 rfl) (by first | rfl | (simp [bcells_length, rqCells]; done) | (simp [bcells_length, rqCells]; omega) | (simp [bcells_length, *, rqCells]; done)) infRMsgW_67 rfl (by first | rfl | (simp [bcells_length, rqCells]; done) | (simp [bcells_length, rqCells]; omega) | (simp [bcells_length, *, rqCells]; done)) (by first | rfl | exact bcells_all _ | (simp [Value.oneCell', rqCells]; done) | (simp [Value.oneCell', *, rqCells]; done))) rfl ?_
   refine G_done ?_
   refine G_ret (post := []) Try.func139 rfl (RVs_cons (RV_cell (s := 17) rfl (mem_at 1 rfl) Try.underlying67 rfl infRMsgW_67 rfl (by first | rfl | (simp [bcells_length, rqCells]; done) | (simp [bcells_length, rqCells]; omega) | (simp [bcells_length, *, rqCells]; done))) RVs_nil) [] rfl ?_
   dsimp only [packed]
   refine ⟨?_, rfl⟩; unfold refRq selB; rw [hc1]; rfl
 refine G_off rfl rfl rfl rfl ?_
 refine G_off rfl rfl rfl rfl ?_
 refine G_val rfl rfl rfl rfl (V_pickF rfl rfl rfl) ?_
 refine G_val rfl rfl rfl rfl (V_fieldAddr (fo := 16) rfl Try.underlying67 rfl infRMsgW_4 rfl rfl rfl) ?_
 refine G_put (l1 := []) (L' := [_, _, _]) rfl rfl rfl rfl (P_store1 rfl rfl rfl (mem_at 0 rfl) (by first | exact of_decide_eq_true rfl | omega | (simp [rqCells]; done) | (simp [rqCells]; omega) | (simp [rqCells] at *; omega)) infRMsgW_4 rfl rfl) rfl ?_
 rw [rqCells_setFlag]
 refine G_done ?_
 refine G_seq ?_
 refine G_region (l := [0, 1]) rfl ?_
 first
   | refine G_val rfl rfl rfl rfl (V_loadW (s := 17) rfl rfl (mem_at 0 rfl) Try.underlying67 rfl infRMsgW_67 rfl (by first | rfl | (simp [bcells_length, rqCells]; done) | (simp [bcells_length, rqCells]; omega) | (simp [bcells_length, *, rqCells]; done))) ?_
   | refine G_val rfl rfl rfl rfl (V_loadA (s := 17) rfl rfl (mem_at 0 rfl) Try.underlying67 rfl infRMsgW_67 rfl rfl (by first | rfl | (simp [bcells_length, rqCells]; done) | (simp [bcells_length, rqCells]; omega) | (simp [bcells_length, *, rqCells]; done))) ?_
 refine G_put (l1 := [_]) (L' := [_, _, _]) rfl rfl rfl rfl (P_storeA (s := 17) rfl rfl rfl (mem_at 1 rfl) (by first | rfl | (simp [bcells_length, rqCells]; done) | (simp [bcells_length, rqCells]; omega) | (simp [bcells_length, *, rqCells]; done)) infRMsgW_67 rfl (by first | rfl | (simp [bcells_length, rqCells]; done) | (simp [bcells_length, rqCells]; omega) | (simp [bcells_length, *, rqCells]; done)) (by first | rfl | exact bcells_all _ | (simp [Value.oneCell', rqCells]; done) | (simp [Value.oneCell', *, rqCells]; done))) rfl ?_
 refine G_done ?_
 refine G_ret (post := []) Try.func139 rfl (RVs_cons (RV_cell (s := 17) rfl (mem_at 1 rfl) Try.underlying67 rfl infRMsgW_67 rfl (by first | rfl | (simp [bcells_length, rqCells]; done) | (simp [bcells_length, rqCells]; omega) | (simp [bcells_length, *, rqCells]; done))) RVs_nil) [] rfl ?_
 dsimp only [packed]
 refine ⟨?_, rfl⟩; unfold refRq selB; rw [hc1]; rfl

set_option maxRecDepth 100000 in
set_option maxHeartbeats 1000000 in
theorem rmsg_may (q : Rq) (hq : RqOk q) :
    Ct Try.prog 88 [.agg (rqCells q).toArray] [] [] fun v post => v = .bool (rmayQ q) ∧ post = [] := by
 have htl := (refRq_ok hq).2.1
 have l6 : (texts6 (refRq q)).length = 6 := rfl
 have l9 : (nums9 (refRq q)).length = 9 := rfl
 refine ct_of Try.func88 rfl rfl (fun w0 => ?_)
 show G _ _ [(0, _)] _ _
 refine G_seq ?_
 refine G_region (l := [0, 1]) rfl ?_
 refine G_new rfl rfl rfl rfl (N_boxA rfl rfl) (fun b1 => ?_)
 refine G_val rfl rfl rfl rfl (V_assign rfl rfl) ?_
 refine G_done ?_
 refine G_seq ?_
 refine G_region (l := [0, 1, 2, 3]) rfl ?_
 first
   | refine G_val rfl rfl rfl rfl (V_loadW (s := 17) rfl rfl (mem_at 0 rfl) Try.underlying67 rfl infRMsgW_67 rfl (by first | rfl | (simp [bcells_length, rqCells]; done) | (simp [bcells_length, rqCells]; omega) | (simp [bcells_length, *, rqCells]; done))) ?_
   | refine G_val rfl rfl rfl rfl (V_loadA (s := 17) rfl rfl (mem_at 0 rfl) Try.underlying67 rfl infRMsgW_67 rfl rfl (by first | rfl | (simp [bcells_length, rqCells]; done) | (simp [bcells_length, rqCells]; omega) | (simp [bcells_length, *, rqCells]; done))) ?_
 refine G_call (L2 := [_]) rfl rfl rfl rfl rfl rfl Try.call139 (rmsg_clean _) [] [] rfl rfl ?_
 rintro v post ⟨rfl, rfl⟩
 show G _ _ _ [_] _
 refine G_new rfl rfl rfl rfl (N_allocA rfl infRMsgW_67 rfl) (fun b3 => ?_)
 refine G_put (l1 := []) (L' := [_, _]) rfl rfl rfl rfl (P_storeA (s := 17) rfl rfl rfl (mem_at 0 rfl) (by first | rfl | (simp [bcells_length, rqCells]; done) | (simp [bcells_length, rqCells]; omega) | (simp [bcells_length, *, rqCells]; done)) infRMsgW_67 rfl (by first | rfl | (simp [bcells_length, rqCells]; done) | (simp [bcells_length, rqCells]; omega) | (simp [bcells_length, *, rqCells]; done)) (by first | rfl | exact bcells_all _ | (simp [Value.oneCell', rqCells]; done) | (simp [Value.oneCell', *, rqCells]; done))) rfl ?_
 refine G_done ?_
 refine G_seq ?_
 refine G_region (l := [0, 1, 2, 3, 4, 5, 6, 7, 8, 9, 10, 11, 12, 13]) rfl ?_
 refine G_val rfl rfl rfl rfl (V_fieldAddr (fo := 1) rfl Try.underlying67 rfl infRMsgW_9 rfl rfl rfl) ?_
 refine G_val rfl rfl rfl rfl (V_load1 rfl rfl (mem_at 0 rfl) rfl Try.underlying9 rfl) ?_
 refine G_val rfl rfl rfl rfl (V_fieldAddr (fo := 2) rfl Try.underlying67 rfl infRMsgW_9 rfl rfl rfl) ?_
 refine G_val rfl rfl rfl rfl (V_load1 rfl rfl (mem_at 0 rfl) rfl Try.underlying9 rfl) ?_
 refine G_val rfl rfl rfl rfl (V_fieldAddr (fo := 3) rfl Try.underlying67 rfl infRMsgW_9 rfl rfl rfl) ?_
 refine G_val rfl rfl rfl rfl (V_load1 rfl rfl (mem_at 0 rfl) rfl Try.underlying9 rfl) ?_
 refine G_val rfl rfl rfl rfl (V_fieldAddr (fo := 4) rfl Try.underlying67 rfl infRMsgW_9 rfl rfl rfl) ?_
 refine G_val rfl rfl rfl rfl (V_load1 rfl rfl (mem_at 0 rfl) rfl Try.underlying9 rfl) ?_
 refine G_val rfl rfl rfl rfl (V_fieldAddr (fo := 5) rfl Try.underlying67 rfl infRMsgW_9 rfl rfl rfl) ?_
 refine G_val rfl rfl rfl rfl (V_load1 rfl rfl (mem_at 0 rfl) rfl Try.underlying9 rfl) ?_
 refine G_val rfl rfl rfl rfl (V_fieldAddr (fo := 6) rfl Try.underlying67 rfl infRMsgW_9 rfl rfl rfl) ?_
 refine G_val rfl rfl rfl rfl (V_load1 rfl rfl (mem_at 0 rfl) rfl Try.underlying9 rfl) ?_
 refine G_new rfl rfl rfl rfl (N_buildAll (s := 1) (cs := [_, _, _, _, _, _]) rfl Try.underlying220 infRMsgW_9 rfl rfl rfl rfl rfl rfl rfl rfl rfl) (fun b22 => ?_)
 refine G_val rfl rfl rfl rfl (V_assign rfl rfl) ?_
 refine G_done ?_
 refine G_seq ?_
 refine G_seq ?_
 refine G_region (l := [0]) rfl ?_
 refine G_val rfl rfl rfl rfl (V_assign rfl rfl) ?_
 refine G_done ?_
 refine G_block ?_
 refine G_sub ?he4 [0, 0, 0] ?hl4 (G_loop (X := Nat) (fun k => k ≤ 6 ∧ ((texts6 (refRq q)).take k).all tooLong = true) (fun k => 6 - k) (fun k => [(1, .pointer (some ⟨b1, 0, none⟩)), (3, .pointer (some ⟨b3, 0, none⟩)), (4, .slice (some ⟨b22, 0, none⟩) 6 6), (5, .int .i64 (k : Int))]) (fun k => [(some b22, .cells ((texts6 (refRq q)).map strV).toArray 9 (0, 0)), (some b3, .cells (rqCells (refRq q)).toArray 67 (0, 0)), (some b1, .cells (rqCells q).toArray 67 (0, 0))]) ?round4 0 ?h04)
 case he4 => exact (And.intro rfl (And.intro rfl (And.intro rfl (And.intro rfl trivial))))
 case hl4 => exact ⟨_, rfl⟩
 case h04 => exact ⟨by omega, rfl⟩
 case round4 =>
  intro k hJ ih
  try dsimp only at hJ ih
  obtain ⟨hk, hall⟩ := hJ
  refine G_seq ?_
  refine G_seq ?_
  refine G_region (l := [0, 1, 2, 3]) rfl ?_
  refine G_val rfl rfl rfl rfl (V_move rfl rfl) ?_
  refine G_val rfl rfl rfl rfl (V_move rfl rfl) ?_
  refine G_val rfl rfl rfl rfl (V_len rfl rfl Try.underlying220 rfl) ?_
  refine G_val rfl rfl rfl rfl (V_lss rfl rfl rfl) ?_
  refine G_done ?_
  refine G_ifD rfl (fun hc1 => ?_) (fun hc1 => ?_)
  · skip
    refine G_skip ?_
    refine G_seq ?_
    refine G_block ?_
    refine G_seq ?_
    refine G_region (l := [0, 1, 2, 3, 4, 5]) rfl ?_
    refine G_val rfl rfl rfl rfl (V_move rfl rfl) ?_
    refine G_val rfl rfl rfl rfl (V_move rfl rfl) ?_
    first
      | refine G_val rfl rfl rfl rfl (V_indexAddrN (s := 1) rfl Try.underlying220 infRMsgW_9 rfl rfl rfl rfl (by omega)) ?_
      | refine G_val rfl rfl rfl rfl (V_indexAddr (s := 1) rfl Try.underlying220 infRMsgW_9 rfl rfl rfl (by omega) (by first | omega | (simp [rqCells]; done) | (simp [rqCells]; omega) | (simp [rqCells] at *; omega))) ?_
    refine G_val rfl rfl rfl rfl (V_load1 rfl rfl (mem_at 0 rfl) (nth_of (map_at strV (texts6 (refRq q)) [] k (by omega))) Try.underlying9 rfl) ?_
    refine G_val rfl rfl rfl rfl (V_slen rfl rfl Try.underlying9 rfl) ?_
    refine G_val rfl rfl rfl rfl (V_gtr rfl rfl rfl) ?_
    refine G_done ?_
    refine G_ifD rfl (fun hc2 => ?_) (fun hc2 => ?_)
    · skip
      refine G_seq ?_
      refine G_region (l := [0]) rfl ?_
      refine G_val rfl rfl rfl rfl (V_assign rfl rfl) ?_
      refine G_done ?_
      refine G_ret (post := []) Try.func88 rfl (RVs_cons (RV_tmp rfl) RVs_nil) [] rfl ?_
      dsimp only [packed]
      first
        | exact ⟨bool_eq (rmay_no1 (k := k) (by omega) (by assumption)).symm, rfl⟩
        | exact ⟨bool_eq (rmay_no2 (k := j) (by omega) (by omega)).symm, rfl⟩
        | (obtain rfl : k = 6 := by omega
           obtain rfl : j = 9 := by omega
           refine ⟨bool_eq ?_, rfl⟩
           rw [rmay_end hall hall2]
           unfold isKind
           first | (symm; simp; omega) | (simp; omega))
    refine G_skip ?_
    refine G_inBlock ?_
    refine G_region (l := [0, 1, 2]) rfl ?_
    refine G_val rfl rfl rfl rfl (V_move rfl rfl) ?_
    first
      | refine G_val rfl rfl rfl rfl ((V_add rfl rfl rfl).int (wrap_i64 (by omega))) ?_
      | refine G_val rfl rfl rfl rfl (V_add rfl rfl rfl) ?_
    refine G_val rfl rfl rfl rfl (V_assign rfl rfl) ?_
    refine G_done ?_
    refine G_sub ?_ [0, 0, 0] ?_ (ih (k + 1) ?_ ?_)
    · (refine (And.intro ?_ (And.intro ?_ (And.intro ?_ (And.intro ?_ trivial)))) <;> first | rfl | exact slot_int (by omega) | exact slot_int (by simp))
    · exact ⟨_, rfl⟩
    · exact ⟨by omega, all_nextD tooLong _ [] k (by omega) hall (by unfold tooLong; rw [decide_eq_true_eq]; omega)⟩
    · (first | omega | (dsimp only; omega))
  refine G_exit rfl ?_
  refine G_seq ?_
  refine G_region (l := [0, 1, 2, 3, 4, 5, 6, 7, 8, 9, 10, 11, 12, 13, 14, 15, 16, 17, 18, 19]) rfl ?_
  refine G_val rfl rfl rfl rfl (V_fieldAddr (fo := 7) rfl Try.underlying67 rfl infRMsgW_3 rfl rfl rfl) ?_
  refine G_val rfl rfl rfl rfl (V_load1 rfl rfl (mem_at 1 rfl) rfl Try.underlying3 rfl) ?_
  refine G_val rfl rfl rfl rfl (V_fieldAddr (fo := 8) rfl Try.underlying67 rfl infRMsgW_3 rfl rfl rfl) ?_
  refine G_val rfl rfl rfl rfl (V_load1 rfl rfl (mem_at 1 rfl) rfl Try.underlying3 rfl) ?_
  refine G_val rfl rfl rfl rfl (V_fieldAddr (fo := 9) rfl Try.underlying67 rfl infRMsgW_3 rfl rfl rfl) ?_
  refine G_val rfl rfl rfl rfl (V_load1 rfl rfl (mem_at 1 rfl) rfl Try.underlying3 rfl) ?_
  refine G_val rfl rfl rfl rfl (V_fieldAddr (fo := 10) rfl Try.underlying67 rfl infRMsgW_3 rfl rfl rfl) ?_
  refine G_val rfl rfl rfl rfl (V_load1 rfl rfl (mem_at 1 rfl) rfl Try.underlying3 rfl) ?_
  refine G_val rfl rfl rfl rfl (V_fieldAddr (fo := 11) rfl Try.underlying67 rfl infRMsgW_3 rfl rfl rfl) ?_
  refine G_val rfl rfl rfl rfl (V_load1 rfl rfl (mem_at 1 rfl) rfl Try.underlying3 rfl) ?_
  refine G_val rfl rfl rfl rfl (V_fieldAddr (fo := 12) rfl Try.underlying67 rfl infRMsgW_3 rfl rfl rfl) ?_
  refine G_val rfl rfl rfl rfl (V_load1 rfl rfl (mem_at 1 rfl) rfl Try.underlying3 rfl) ?_
  refine G_val rfl rfl rfl rfl (V_fieldAddr (fo := 13) rfl Try.underlying67 rfl infRMsgW_3 rfl rfl rfl) ?_
  refine G_val rfl rfl rfl rfl (V_load1 rfl rfl (mem_at 1 rfl) rfl Try.underlying3 rfl) ?_
  refine G_val rfl rfl rfl rfl (V_fieldAddr (fo := 14) rfl Try.underlying67 rfl infRMsgW_3 rfl rfl rfl) ?_
  refine G_val rfl rfl rfl rfl (V_load1 rfl rfl (mem_at 1 rfl) rfl Try.underlying3 rfl) ?_
  refine G_val rfl rfl rfl rfl (V_fieldAddr (fo := 15) rfl Try.underlying67 rfl infRMsgW_3 rfl rfl rfl) ?_
  refine G_val rfl rfl rfl rfl (V_load1 rfl rfl (mem_at 1 rfl) rfl Try.underlying3 rfl) ?_
  refine G_new rfl rfl rfl rfl (N_buildAll (s := 1) (cs := [_, _, _, _, _, _, _, _, _]) rfl Try.underlying99 infRMsgW_3 rfl rfl rfl rfl rfl rfl rfl rfl rfl) (fun b53 => ?_)
  refine G_val rfl rfl rfl rfl (V_assign rfl rfl) ?_
  refine G_done ?_
  refine G_seq ?_
  refine G_seq ?_
  refine G_region (l := [0]) rfl ?_
  refine G_val rfl rfl rfl rfl (V_assign rfl rfl) ?_
  refine G_done ?_
  refine G_block ?_
  refine G_sub ?he10 [0, 2] ?hl10 (G_loop (X := Nat) (fun j => j ≤ 9 ∧ ((nums9 (refRq q)).take j).all inRange = true) (fun j => 9 - j) (fun j => [(1, .pointer (some ⟨b1, 0, none⟩)), (6, .slice (some ⟨b53, 0, none⟩) 9 9), (7, .int .i64 (j : Int))]) (fun j => [(some b53, .cells ((nums9 (refRq q)).map intV).toArray 3 (0, 0)), (some b1, .cells (rqCells q).toArray 67 (0, 0))]) ?round10 0 ?h010)
  case he10 => exact (And.intro rfl (And.intro rfl (And.intro rfl trivial)))
  case hl10 => exact ⟨_, rfl⟩
  case h010 => exact ⟨by omega, rfl⟩
  case round10 =>
   intro j hJ ih
   try dsimp only at hJ ih
   obtain ⟨hj, hall2⟩ := hJ
   refine G_seq ?_
   refine G_seq ?_
   refine G_region (l := [0, 1, 2, 3]) rfl ?_
   refine G_val rfl rfl rfl rfl (V_move rfl rfl) ?_
   refine G_val rfl rfl rfl rfl (V_move rfl rfl) ?_
   refine G_val rfl rfl rfl rfl (V_len rfl rfl Try.underlying99 rfl) ?_
   refine G_val rfl rfl rfl rfl (V_lss rfl rfl rfl) ?_
   refine G_done ?_
   refine G_ifD rfl (fun hc2 => ?_) (fun hc2 => ?_)
   · skip
     refine G_skip ?_
     refine G_seq ?_
     refine G_block ?_
     refine G_seq ?_
     refine G_region (l := [0, 1, 2, 3, 4, 5, 6, 7, 8, 9, 10, 11]) rfl ?_
     refine G_val rfl rfl rfl rfl (V_move rfl rfl) ?_
     refine G_val rfl rfl rfl rfl (V_move rfl rfl) ?_
     first
       | refine G_val rfl rfl rfl rfl (V_indexAddrN (s := 1) rfl Try.underlying99 infRMsgW_3 rfl rfl rfl rfl (by omega)) ?_
       | refine G_val rfl rfl rfl rfl (V_indexAddr (s := 1) rfl Try.underlying99 infRMsgW_3 rfl rfl rfl (by omega) (by first | omega | (simp [rqCells]; done) | (simp [rqCells]; omega) | (simp [rqCells] at *; omega))) ?_
     refine G_val rfl rfl rfl rfl (V_load1 rfl rfl (mem_at 0 rfl) (nth_of (map_at intV (nums9 (refRq q)) 0 j (by omega))) Try.underlying3 rfl) ?_
     refine G_val rfl rfl rfl rfl (V_lss rfl rfl rfl) ?_
     refine G_val rfl rfl rfl rfl (V_move rfl rfl) ?_
     refine G_splitD 65 rfl (fun hc3 => ?_) (fun hc3 => ?_)
     · skip
       refine G_off rfl rfl rfl rfl ?_
       refine G_off rfl rfl rfl rfl ?_
       refine G_off rfl rfl rfl rfl ?_
       refine G_off rfl rfl rfl rfl ?_
       refine G_off rfl rfl rfl rfl ?_
       refine G_val rfl rfl rfl rfl (V_pickT rfl rfl rfl) ?_
       refine G_done ?_
       refine G_then rfl ?_
       refine G_seq ?_
       refine G_region (l := [0]) rfl ?_
       refine G_val rfl rfl rfl rfl (V_assign rfl rfl) ?_
       refine G_done ?_
       refine G_ret (post := []) Try.func88 rfl (RVs_cons (RV_tmp rfl) RVs_nil) [] rfl ?_
       dsimp only [packed]
       first
         | exact ⟨bool_eq (rmay_no1 (k := k) (by omega) (by assumption)).symm, rfl⟩
         | exact ⟨bool_eq (rmay_no2 (k := j) (by omega) (by omega)).symm, rfl⟩
         | (obtain rfl : k = 6 := by omega
            obtain rfl : j = 9 := by omega
            refine ⟨bool_eq ?_, rfl⟩
            rw [rmay_end hall hall2]
            unfold isKind
            first | (symm; simp; omega) | (simp; omega))
     refine G_val rfl rfl rfl rfl (V_move rfl rfl) ?_
     refine G_val rfl rfl rfl rfl (V_move rfl rfl) ?_
     first
       | refine G_val rfl rfl rfl rfl (V_indexAddrN (s := 1) rfl Try.underlying99 infRMsgW_3 rfl rfl rfl rfl (by omega)) ?_
       | refine G_val rfl rfl rfl rfl (V_indexAddr (s := 1) rfl Try.underlying99 infRMsgW_3 rfl rfl rfl (by omega) (by first | omega | (simp [rqCells]; done) | (simp [rqCells]; omega) | (simp [rqCells] at *; omega))) ?_
     refine G_val rfl rfl rfl rfl (V_load1 rfl rfl (mem_at 0 rfl) (nth_of (map_at intV (nums9 (refRq q)) 0 j (by omega))) Try.underlying3 rfl) ?_
     refine G_val rfl rfl rfl rfl (V_gtr rfl rfl rfl) ?_
     refine G_val rfl rfl rfl rfl (V_pickF rfl rfl rfl) ?_
     refine G_done ?_
     refine G_ifD rfl (fun hc4 => ?_) (fun hc4 => ?_)
     · skip
       refine G_seq ?_
       refine G_region (l := [0]) rfl ?_
       refine G_val rfl rfl rfl rfl (V_assign rfl rfl) ?_
       refine G_done ?_
       refine G_ret (post := []) Try.func88 rfl (RVs_cons (RV_tmp rfl) RVs_nil) [] rfl ?_
       dsimp only [packed]
       first
         | exact ⟨bool_eq (rmay_no1 (k := k) (by omega) (by assumption)).symm, rfl⟩
         | exact ⟨bool_eq (rmay_no2 (k := j) (by omega) (by omega)).symm, rfl⟩
         | (obtain rfl : k = 6 := by omega
            obtain rfl : j = 9 := by omega
            refine ⟨bool_eq ?_, rfl⟩
            rw [rmay_end hall hall2]
            unfold isKind
            first | (symm; simp; omega) | (simp; omega))
     refine G_skip ?_
     refine G_inBlock ?_
     refine G_region (l := [0, 1, 2]) rfl ?_
     refine G_val rfl rfl rfl rfl (V_move rfl rfl) ?_
     first
       | refine G_val rfl rfl rfl rfl ((V_add rfl rfl rfl).int (wrap_i64 (by omega))) ?_
       | refine G_val rfl rfl rfl rfl (V_add rfl rfl rfl) ?_
     refine G_val rfl rfl rfl rfl (V_assign rfl rfl) ?_
     refine G_done ?_
     refine G_sub ?_ [0, 0] ?_ (ih (j + 1) ?_ ?_)
     · (refine (And.intro ?_ (And.intro ?_ (And.intro ?_ trivial))) <;> first | rfl | exact slot_int (by omega) | exact slot_int (by simp))
     · exact ⟨_, rfl⟩
     · exact ⟨by omega, all_nextD inRange _ 0 j (by omega) hall2 (by unfold inRange; simp only [decide_eq_true_eq]; omega)⟩
     · (first | omega | (dsimp only; omega))
   refine G_exit rfl ?_
   refine G_seq ?_
   refine G_region (l := [0, 1, 2, 3, 4, 5, 6, 7, 8]) rfl ?_
   refine G_val rfl rfl rfl rfl (V_fieldAddr (fo := 0) rfl Try.underlying67 rfl infRMsgW_3 rfl rfl rfl) ?_
   refine G_val rfl rfl rfl rfl (V_load1 rfl rfl (mem_at 1 rfl) rfl Try.underlying3 rfl) ?_
   refine G_val rfl rfl rfl rfl (V_geq rfl rfl rfl) ?_
   refine G_val rfl rfl rfl rfl (V_move rfl rfl) ?_
   refine G_splitD 75 rfl (fun hc3 => ?_) (fun hc3 => ?_)
   · skip
     refine G_val rfl rfl rfl rfl (V_fieldAddr (fo := 0) rfl Try.underlying67 rfl infRMsgW_3 rfl rfl rfl) ?_
     refine G_val rfl rfl rfl rfl (V_load1 rfl rfl (mem_at 1 rfl) rfl Try.underlying3 rfl) ?_
     refine G_val rfl rfl rfl rfl (V_leq rfl rfl rfl) ?_
     refine G_val rfl rfl rfl rfl (V_pickT rfl rfl rfl) ?_
     refine G_val rfl rfl rfl rfl (V_assign rfl rfl) ?_
     refine G_done ?_
     refine G_ret (post := []) Try.func88 rfl (RVs_cons (RV_tmp rfl) RVs_nil) [] rfl ?_
     dsimp only [packed]
     first
       | exact ⟨bool_eq (rmay_no1 (k := k) (by omega) (by assumption)).symm, rfl⟩
       | exact ⟨bool_eq (rmay_no2 (k := j) (by omega) (by omega)).symm, rfl⟩
       | (obtain rfl : k = 6 := by omega
          obtain rfl : j = 9 := by omega
          refine ⟨bool_eq ?_, rfl⟩
          rw [rmay_end hall hall2]
          unfold isKind
          first | (symm; simp; omega) | (simp; omega))
   refine G_off rfl rfl rfl rfl ?_
   refine G_off rfl rfl rfl rfl ?_
   refine G_off rfl rfl rfl rfl ?_
   refine G_val rfl rfl rfl rfl (V_pickF rfl rfl rfl) ?_
   refine G_val rfl rfl rfl rfl (V_assign rfl rfl) ?_
   refine G_done ?_
   refine G_ret (post := []) Try.func88 rfl (RVs_cons (RV_tmp rfl) RVs_nil) [] rfl ?_
   dsimp only [packed]
   first
     | exact ⟨bool_eq (rmay_no1 (k := k) (by omega) (by assumption)).symm, rfl⟩
     | exact ⟨bool_eq (rmay_no2 (k := j) (by omega) (by omega)).symm, rfl⟩
     | (obtain rfl : k = 6 := by omega
        obtain rfl : j = 9 := by omega
        refine ⟨bool_eq ?_, rfl⟩
        rw [rmay_end hall hall2]
        unfold isKind
        first | (symm; simp; omega) | (simp; omega))

end
end Go.Proofs.Ytkekkalgebgokaa

/- The walks of wire.Encode and wire.Decode, and of the document's. -/
set_option linter.unusedSimpArgs false
set_option linter.unusedVariables false
namespace Go.Proofs.Ytkekkalgebgokaa
open Go Go.RowKit

section
theorem infWireR_3 : Try.prog.info? 3 = some Try.t3 := by kernel_rfl
theorem infWireR_4 : Try.prog.info? 4 = some Try.t4 := by kernel_rfl
theorem infWireR_9 : Try.prog.info? 9 = some Try.t9 := by kernel_rfl
theorem infWireR_67 : Try.prog.info? 67 = some Try.t67 := by kernel_rfl
theorem infWireR_78 : Try.prog.info? 78 = some Try.t78 := by kernel_rfl
theorem infWireR_236 : Try.prog.info? 236 = some Try.t236 := by kernel_rfl


theorem wireE_no {q : Rq} (h : (!mayQ q) = true) : wireE q = .tuple #[.string (bs []), .int .i64 1] := by
  unfold wireE; rw [if_neg]; simpa using h
theorem wireE_long {q : Rq} (h : (!mayQ q) = false) (hl : 480 < ((encQ q).length : Int)) : wireE q = .tuple #[.string (bs []), .int .i64 4] := by
  unfold wireE; rw [if_pos (by simpa using h), if_pos (by omega)]
theorem wireE_yes {q : Rq} (h : (!mayQ q) = false) (hl : ¬ 480 < ((encQ q).length : Int)) : wireE q = .tuple #[.string (bs (encQ q)), .int .i64 0] := by
  unfold wireE; rw [if_pos (by simpa using h), if_neg (by omega)]
theorem encQ_len {q : Rq} (h : mayQ q = true) : (encQ q).length ≤ 800 := by
  obtain ⟨⟨k1, k2⟩, hf⟩ := may_fok h
  have h1 := encFs_len (fieldsK q.kind) hf
  have h2 := fieldsK_len q.kind
  have h3 := chainI_len q.kind (by omega) (by omega)
  unfold encQ
  rw [List.length_append]
  omega

set_option maxRecDepth 100000 in
set_option maxHeartbeats 1000000 in
theorem wire_encode (q : Rq) (hq : RqOk q) :
    Ct Try.prog 87 [.agg (rqCells q).toArray] [] [] fun v post => v = wireE q ∧ post = [] := by
 refine ct_of Try.func87 rfl rfl (fun w0 => ?_)
 show G _ _ [(0, _)] _ _
 refine G_seq ?_
 refine G_region (l := [0, 1, 2]) rfl ?_
 refine G_new rfl rfl rfl rfl (N_boxA rfl rfl) (fun b1 => ?_)
 refine G_val rfl rfl rfl rfl (V_assign rfl rfl) ?_
 refine G_val rfl rfl rfl rfl (V_assign rfl rfl) ?_
 refine G_done ?_
 refine G_seq ?_
 refine G_seq ?_
 refine G_region (l := [0, 1, 2]) rfl ?_
 first
   | refine G_val rfl rfl rfl rfl (V_loadW (s := 17) rfl rfl (mem_at 0 rfl) Try.underlying67 rfl infWireR_67 rfl (by first | rfl | (simp [bcells_length, rqCells]; done) | (simp [bcells_length, rqCells]; omega) | (simp [bcells_length, *, rqCells]; done))) ?_
   | refine G_val rfl rfl rfl rfl (V_loadA (s := 17) rfl rfl (mem_at 0 rfl) Try.underlying67 rfl infWireR_67 rfl rfl (by first | rfl | (simp [bcells_length, rqCells]; done) | (simp [bcells_length, rqCells]; omega) | (simp [bcells_length, *, rqCells]; done))) ?_
 refine G_call (L2 := [_]) rfl rfl rfl rfl rfl rfl Try.call136 (msg_may _ (by assumption)) [] [] rfl rfl ?_
 rintro v post ⟨rfl, rfl⟩
 show G _ _ _ [_] _
 refine G_val rfl rfl rfl rfl (V_not rfl rfl) ?_
 refine G_done ?_
 refine G_if rfl (fun hc1 => ?_) (fun hc1 => ?_)
 · skip
   refine G_seq ?_
   refine G_region (l := [0, 1]) rfl ?_
   refine G_val rfl rfl rfl rfl (V_assign rfl rfl) ?_
   refine G_val rfl rfl rfl rfl (V_assign rfl rfl) ?_
   refine G_done ?_
   refine G_ret (post := []) Try.func87 rfl (RVs_cons (RV_tmp rfl) (RVs_cons (RV_tmp rfl) RVs_nil)) [] rfl ?_
   dsimp only [packed]
   first
     | exact ⟨(wireE_no (by assumption)).symm, rfl⟩
     | exact ⟨(wireE_long (by assumption) (by assumption)).symm, rfl⟩
     | exact ⟨(wireE_yes (by assumption) (by assumption)).symm, rfl⟩
 refine G_skip ?_
 refine G_seq ?_
 refine G_region (l := [0]) rfl ?_
 refine G_new rfl rfl rfl rfl (N_allocA rfl infWireR_236 rfl) (fun b4 => ?_)
 refine G_done ?_
 refine G_seq ?_
 refine G_addNone (.cells #[] 5 (0, 0)) ?_
 refine G_region (l := [0]) rfl ?_
 refine G_call (L2 := [_]) rfl rfl rfl rfl rfl rfl Try.call137 (w_all b4 b1 (.pointer none) slNil (.inl rfl) txt_nil q (by simpa using hc1)) [1, 0] [0] rfl rfl ?_
 rintro v post ⟨rfl, u1, hu1, rfl⟩
 show G _ _ _ [_, _, _] _
 have hel := encQ_len (q := q) (by simpa using hc1)
 refine G_done ?_
 refine G_seq ?_
 refine G_seq ?_
 refine G_region (l := [0, 1, 2]) rfl ?_
 refine G_val rfl rfl rfl rfl (V_fieldAddr (fo := 0) rfl Try.underlying236 rfl infWireR_78 rfl rfl rfl) ?_
 refine G_call (L2 := [_, _, _]) rfl rfl rfl rfl rfl rfl Try.call138 (cbld_len _ _ _ _ _ _) [] [0] rfl rfl ?_
 rintro v post ⟨rfl, rfl⟩
 show G _ _ _ [_, _, _] _
 refine G_val rfl rfl rfl rfl (V_gtr rfl rfl rfl) ?_
 refine G_done ?_
 refine G_ifD rfl (fun hc2 => ?_) (fun hc2 => ?_)
 · skip
   refine G_seq ?_
   refine G_region (l := [0, 1]) rfl ?_
   refine G_val rfl rfl rfl rfl (V_assign rfl rfl) ?_
   refine G_val rfl rfl rfl rfl (V_assign rfl rfl) ?_
   refine G_done ?_
   refine G_ret (post := []) Try.func87 rfl (RVs_cons (RV_tmp rfl) (RVs_cons (RV_tmp rfl) RVs_nil)) [] rfl ?_
   dsimp only [packed]
   first
     | exact ⟨(wireE_no (by assumption)).symm, rfl⟩
     | exact ⟨(wireE_long (by assumption) (by assumption)).symm, rfl⟩
     | exact ⟨(wireE_yes (by assumption) (by assumption)).symm, rfl⟩
 refine G_skip ?_
 refine G_seq ?_
 refine G_region (l := [0, 1, 2, 3]) rfl ?_
 refine G_val rfl rfl rfl rfl (V_fieldAddr (fo := 0) rfl Try.underlying236 rfl infWireR_78 rfl rfl rfl) ?_
 refine G_call (L2 := [_]) rfl rfl rfl rfl rfl rfl Try.call53 (cbld_string _ _ _ _ _ _ hu1 (by omega)) [0, 0] [] rfl rfl ?_
 rintro v post ⟨rfl, u1, hu1, rfl⟩
 show G _ _ _ [_, _, _] _
 refine G_val rfl rfl rfl rfl (V_assign rfl rfl) ?_
 refine G_val rfl rfl rfl rfl (V_assign rfl rfl) ?_
 refine G_done ?_
 refine G_ret (post := []) Try.func87 rfl (RVs_cons (RV_tmp rfl) (RVs_cons (RV_tmp rfl) RVs_nil)) [] rfl ?_
 dsimp only [packed]
 first
   | exact ⟨(wireE_no (by assumption)).symm, rfl⟩
   | exact ⟨(wireE_long (by assumption) (by assumption)).symm, rfl⟩
   | exact ⟨(wireE_yes (by assumption) (by assumption)).symm, rfl⟩


theorem decW_long {l : List UInt8} (h : 480 < (l.length : Int)) : decW l = 4 ∧ decQ l = rqBare 0 := by
  have h' : 480 < l.length := by omega
  unfold decW decQ; simp only [if_pos h']; exact ⟨trivial, trivial⟩
theorem decW_no {l : List UInt8} (h : ¬ 480 < (l.length : Int)) (hd : ¬ decOk l) : decW l = 3 ∧ decQ l = rqBare 0 := by
  have h' : ¬ 480 < l.length := by omega
  unfold decW decQ; simp only [if_neg h', if_neg hd]; exact ⟨trivial, trivial⟩
theorem decW_yes {l : List UInt8} (h : ¬ 480 < (l.length : Int)) (hd : decOk l) : decW l = 0 ∧ decQ l = (dfs l).1 := by
  have h' : ¬ 480 < l.length := by omega
  unfold decW decQ; simp only [if_neg h', if_pos hd]; exact ⟨trivial, trivial⟩
theorem rdecW_long {l : List UInt8} (h : 480 < (l.length : Int)) : rdecW l = 4 ∧ rdecQ l = rqBare 0 := by
  have h' : 480 < l.length := by omega
  unfold rdecW rdecQ; simp only [if_pos h']; exact ⟨trivial, trivial⟩
theorem rdecW_no {l : List UInt8} (h : ¬ 480 < (l.length : Int)) (hd : ¬ rdecOk l) : rdecW l = 3 ∧ rdecQ l = rqBare 0 := by
  have h' : ¬ 480 < l.length := by omega
  unfold rdecW rdecQ; simp only [if_neg h', if_neg hd]; exact ⟨trivial, trivial⟩
theorem rdecW_yes {l : List UInt8} (h : ¬ 480 < (l.length : Int)) (hd : rdecOk l) : rdecW l = 0 ∧ rdecQ l = (rfs l).1 := by
  have h' : ¬ 480 < l.length := by omega
  unfold rdecW rdecQ; simp only [if_neg h', if_pos hd]; exact ⟨trivial, trivial⟩
theorem rdF_tx (q : Rq) (c : Int) (l : List UInt8) (e : Nat) (he : e ≤ 1000) (h : (∀ i, (q.tx i).length ≤ 9223372036854775807) ∧ ∀ i, -9223372036854775808 ≤ q.nx i ∧ q.nx i ≤ 9223372036854775807) : (∀ i, ((rdF q c l e).1.tx i).length ≤ 9223372036854775807) ∧ ∀ i, -9223372036854775808 ≤ (rdF q c l e).1.nx i ∧ (rdF q c l e).1.nx i ≤ 9223372036854775807 := by
  rcases letter3 c with ⟨i, htx, hnx, hb1, hb2⟩ | ⟨i, htx, hnx, hb1, hb2⟩ | ⟨htx, hnx⟩
  · rw [rdF_text l e htx]
    have := (rdStr_bd 100 l e he (by omega)).1
    refine ⟨fun j => ?_, h.2⟩
    show (if j = i then _ else _ : List UInt8).length ≤ _
    split
    · omega
    · exact h.1 j
  · rw [rdF_num l e htx hnx]
    have := (rdInt_bd 1099511627776 l e he (by omega)).1
    refine ⟨h.1, fun j => ?_⟩
    show _ ≤ (if j = i then _ else _ : Int) ∧ (if j = i then _ else _ : Int) ≤ _
    split
    · omega
    · exact h.2 j
  · rw [rdF_flag l e htx hnx]; exact h
theorem rdFs_tx (q : Rq) (l : List UInt8) (e : Nat) (he : e ≤ 1000) (cs : List UInt8) (h : (∀ i, (q.tx i).length ≤ 9223372036854775807) ∧ ∀ i, -9223372036854775808 ≤ q.nx i ∧ q.nx i ≤ 9223372036854775807) : ∀ k, (∀ i, ((rdFs q (cs.take k) l e).1.tx i).length ≤ 9223372036854775807) ∧ ∀ i, -9223372036854775808 ≤ (rdFs q (cs.take k) l e).1.nx i ∧ (rdFs q (cs.take k) l e).1.nx i ≤ 9223372036854775807
  | 0 => h
  | k + 1 => by
    have ih := rdFs_tx q l e he cs h k
    by_cases hk : k < cs.length
    · rw [rdFs_next q cs k hk]
      exact rdF_tx _ _ _ _ (rdFs_bd q l e he cs k).2 ih
    · rw [List.take_of_length_le (by omega)] at ih ⊢
      exact ih
theorem bare_tx (k : Int) : (∀ i, ((rqBare k).tx i).length ≤ 9223372036854775807) ∧ ∀ i, -9223372036854775808 ≤ (rqBare k).nx i ∧ (rqBare k).nx i ≤ 9223372036854775807 :=
  ⟨fun i => by simp [rqBare], fun i => by simp [rqBare]⟩
theorem dfs_ok (l : List UInt8) : RqOk (dfs l).1 := by
  have hb := dk_bd l
  have h := rdFs_tx (rqBare ((dk l).1 : Int)) (dk l).2.1 (dk l).2.2 hb.2.2 (fieldsK ((dk l).1 : Int)) (bare_tx _) (fieldsK ((dk l).1 : Int)).length
  rw [List.take_length] at h
  have hk : (dfs l).1.kind = ((dk l).1 : Int) := rdFs_kind _ _ _ _
  refine ⟨?_, h⟩
  rw [hk]
  omega
theorem bare0_ok : RqOk (rqBare 0) := ⟨by simp [rqBare], bare_tx 0⟩
theorem decQ_ok (l : List UInt8) : RqOk (decQ l) := by
  unfold decQ
  split
  · exact bare0_ok
  · split
    · exact dfs_ok l
    · exact bare0_ok
attribute [local irreducible] dk dfs

set_option maxRecDepth 100000 in
set_option maxHeartbeats 1000000 in
theorem rw_flag (b : Bool) :
    Ct Try.prog 140 [.bool b] [] [] fun v post => v = .int .i64 (if b then 1 else 0) ∧ post = [] := by
 refine ct_of Try.func140 rfl rfl (fun w0 => ?_)
 show G _ _ [(0, _)] _ _
 refine G_seq ?_
 refine G_region (l := [0]) rfl ?_
 refine G_val rfl rfl rfl rfl (V_assign rfl rfl) ?_
 refine G_done ?_
 refine G_seq ?_
 refine G_seq ?_
 cases b
 · skip
   refine G_region (l := [0]) rfl ?_
   refine G_val rfl rfl rfl rfl (V_move rfl rfl) ?_
   refine G_done ?_
   refine G_if rfl (fun hc1 => ?_) (fun hc1 => ?_)
   · (first | (exact absurd rfl hc1) | (exact absurd hc1 (by decide)) | (exfalso; omega))
   refine G_skip ?_
   refine G_seq ?_
   refine G_region (l := [0]) rfl ?_
   refine G_val rfl rfl rfl rfl (V_assign rfl rfl) ?_
   refine G_done ?_
   refine G_ret (post := []) Try.func140 rfl (RVs_cons (RV_tmp rfl) RVs_nil) [] rfl ?_
   dsimp only [packed]
   exact ⟨rfl, rfl⟩
 · skip
   refine G_region (l := [0]) rfl ?_
   refine G_val rfl rfl rfl rfl (V_move rfl rfl) ?_
   refine G_done ?_
   refine G_if rfl (fun hc1 => ?_) (fun hc1 => ?_)
   rotate_left
   · (first | (exact absurd rfl hc1) | (exact absurd hc1 (by decide)) | (exfalso; omega))
   refine G_seq ?_
   refine G_region (l := [0]) rfl ?_
   refine G_val rfl rfl rfl rfl (V_assign rfl rfl) ?_
   refine G_done ?_
   refine G_ret (post := []) Try.func140 rfl (RVs_cons (RV_tmp rfl) RVs_nil) [] rfl ?_
   dsimp only [packed]
   exact ⟨rfl, rfl⟩

set_option maxRecDepth 100000 in
set_option maxHeartbeats 1000000 in
theorem rw_num (x : Int) (hx : 0 ≤ x ∧ x ≤ 1099511627776) :
    Ct Try.prog 82 [.int .i64 x] [] [] fun v post => v = .string (bs (chainI x)) ∧ post = [] := by
 obtain ⟨hx0, hx1⟩ := hx
 refine ct_of Try.func82 rfl rfl (fun w0 => ?_)
 show G _ _ [(0, _)] _ _
 refine G_seq ?_
 refine G_region (l := [0]) rfl ?_
 refine G_val rfl rfl rfl rfl (V_assign rfl rfl) ?_
 refine G_done ?_
 refine G_seq ?_
 refine G_region (l := [0, 1, 2, 3]) rfl ?_
 refine G_val rfl rfl rfl rfl (V_move rfl rfl) ?_
 first
   | refine G_val rfl rfl rfl rfl ((V_conv rfl rfl Try.underlying3 Try.underlying23).int (wrap_u64 (by omega))) ?_
   | refine G_val rfl rfl rfl rfl (V_conv rfl rfl Try.underlying3 Try.underlying23) ?_
 refine G_call (L2 := []) rfl rfl rfl rfl rfl rfl Try.call118 (ct_rchain _ (by omega) (by omega)) [] [] rfl rfl ?_
 rintro v post ⟨rfl, rfl⟩
 refine G_val rfl rfl rfl rfl (V_assign rfl rfl) ?_
 refine G_done ?_
 refine G_ret (post := []) Try.func82 rfl (RVs_cons (RV_tmp rfl) RVs_nil) [] rfl ?_
 dsimp only [packed]
 exact ⟨rfl, rfl⟩

set_option maxRecDepth 100000 in
set_option maxHeartbeats 1000000 in
theorem rw_field (q : Rq) (c : Int) (hf : FOk q c) :
    Ct Try.prog 90 [.agg (rqCells q).toArray, .int .u8 c] [] [] fun v post => v = .string (bs (encF q c)) ∧ post = [] := by
 refine ct_of Try.func90 rfl rfl (fun w0 => ?_)
 show G _ _ [(0, _), (1, _)] _ _
 refine G_seq ?_
 refine G_region (l := [0, 1]) rfl ?_
 refine G_new rfl rfl rfl rfl (N_boxA rfl rfl) (fun b2 => ?_)
 refine G_val rfl rfl rfl rfl (V_assign rfl rfl) ?_
 refine G_done ?_
 refine G_seq ?_
 refine G_seq ?_
 refine G_region (l := [0]) rfl ?_
 refine G_val rfl rfl rfl rfl (V_move rfl rfl) ?_
 refine G_done ?_
 refine G_block ?_
 refine G_seq ?_
 refine G_region (l := [0, 1]) rfl ?_
 refine G_val rfl rfl rfl rfl (V_eql rfl rfl rfl) ?_
 refine G_val rfl rfl rfl rfl (V_assign rfl rfl) ?_
 refine G_done ?_
 refine G_ifD rfl (fun hc1 => ?_) (fun hc1 => ?_)
 · skip
   refine G_seq ?_
   refine G_region (l := [0, 1, 2, 3]) rfl ?_
   refine G_val rfl rfl rfl rfl (V_fieldAddr (fo := 1) rfl Try.underlying67 rfl infWireR_9 rfl rfl rfl) ?_
   refine G_val rfl rfl rfl rfl (V_load1 rfl rfl (mem_at 0 rfl) rfl Try.underlying9 rfl) ?_
   refine G_call (L2 := [_]) rfl rfl rfl rfl rfl rfl Try.call119 (ct_rtext (q.tx 1) (by have := hf.t 1 (by simp [textIdx, *]); omega)) [] [] rfl rfl ?_
   rintro v post ⟨rfl, rfl⟩
   show G _ _ _ [_] _
   refine G_val rfl rfl rfl rfl (V_assign rfl rfl) ?_
   refine G_done ?_
   refine G_ret (post := []) Try.func90 rfl (RVs_cons (RV_tmp rfl) RVs_nil) [] rfl ?_
   dsimp only [packed]
   refine ⟨str_eq ?_, rfl⟩; simp [encF, textIdx, numIdx, *]
 refine G_seq ?_
 refine G_region (l := [0, 1]) rfl ?_
 refine G_val rfl rfl rfl rfl (V_eql rfl rfl rfl) ?_
 refine G_val rfl rfl rfl rfl (V_assign rfl rfl) ?_
 refine G_done ?_
 refine G_ifD rfl (fun hc2 => ?_) (fun hc2 => ?_)
 · skip
   refine G_seq ?_
   refine G_region (l := [0, 1, 2, 3]) rfl ?_
   refine G_val rfl rfl rfl rfl (V_fieldAddr (fo := 2) rfl Try.underlying67 rfl infWireR_9 rfl rfl rfl) ?_
   refine G_val rfl rfl rfl rfl (V_load1 rfl rfl (mem_at 0 rfl) rfl Try.underlying9 rfl) ?_
   refine G_call (L2 := [_]) rfl rfl rfl rfl rfl rfl Try.call119 (ct_rtext (q.tx 2) (by have := hf.t 2 (by simp [textIdx, *]); omega)) [] [] rfl rfl ?_
   rintro v post ⟨rfl, rfl⟩
   show G _ _ _ [_] _
   refine G_val rfl rfl rfl rfl (V_assign rfl rfl) ?_
   refine G_done ?_
   refine G_ret (post := []) Try.func90 rfl (RVs_cons (RV_tmp rfl) RVs_nil) [] rfl ?_
   dsimp only [packed]
   refine ⟨str_eq ?_, rfl⟩; simp [encF, textIdx, numIdx, *]
 refine G_seq ?_
 refine G_region (l := [0, 1]) rfl ?_
 refine G_val rfl rfl rfl rfl (V_eql rfl rfl rfl) ?_
 refine G_val rfl rfl rfl rfl (V_assign rfl rfl) ?_
 refine G_done ?_
 refine G_ifD rfl (fun hc3 => ?_) (fun hc3 => ?_)
 · skip
   refine G_seq ?_
   refine G_region (l := [0, 1, 2, 3]) rfl ?_
   refine G_val rfl rfl rfl rfl (V_fieldAddr (fo := 3) rfl Try.underlying67 rfl infWireR_9 rfl rfl rfl) ?_
   refine G_val rfl rfl rfl rfl (V_load1 rfl rfl (mem_at 0 rfl) rfl Try.underlying9 rfl) ?_
   refine G_call (L2 := [_]) rfl rfl rfl rfl rfl rfl Try.call119 (ct_rtext (q.tx 3) (by have := hf.t 3 (by simp [textIdx, *]); omega)) [] [] rfl rfl ?_
   rintro v post ⟨rfl, rfl⟩
   show G _ _ _ [_] _
   refine G_val rfl rfl rfl rfl (V_assign rfl rfl) ?_
   refine G_done ?_
   refine G_ret (post := []) Try.func90 rfl (RVs_cons (RV_tmp rfl) RVs_nil) [] rfl ?_
   dsimp only [packed]
   refine ⟨str_eq ?_, rfl⟩; simp [encF, textIdx, numIdx, *]
 refine G_seq ?_
 refine G_region (l := [0, 1]) rfl ?_
 refine G_val rfl rfl rfl rfl (V_eql rfl rfl rfl) ?_
 refine G_val rfl rfl rfl rfl (V_assign rfl rfl) ?_
 refine G_done ?_
 refine G_ifD rfl (fun hc4 => ?_) (fun hc4 => ?_)
 · skip
   refine G_seq ?_
   refine G_region (l := [0, 1, 2, 3]) rfl ?_
   refine G_val rfl rfl rfl rfl (V_fieldAddr (fo := 4) rfl Try.underlying67 rfl infWireR_9 rfl rfl rfl) ?_
   refine G_val rfl rfl rfl rfl (V_load1 rfl rfl (mem_at 0 rfl) rfl Try.underlying9 rfl) ?_
   refine G_call (L2 := [_]) rfl rfl rfl rfl rfl rfl Try.call119 (ct_rtext (q.tx 4) (by have := hf.t 4 (by simp [textIdx, *]); omega)) [] [] rfl rfl ?_
   rintro v post ⟨rfl, rfl⟩
   show G _ _ _ [_] _
   refine G_val rfl rfl rfl rfl (V_assign rfl rfl) ?_
   refine G_done ?_
   refine G_ret (post := []) Try.func90 rfl (RVs_cons (RV_tmp rfl) RVs_nil) [] rfl ?_
   dsimp only [packed]
   refine ⟨str_eq ?_, rfl⟩; simp [encF, textIdx, numIdx, *]
 refine G_seq ?_
 refine G_region (l := [0, 1]) rfl ?_
 refine G_val rfl rfl rfl rfl (V_eql rfl rfl rfl) ?_
 refine G_val rfl rfl rfl rfl (V_assign rfl rfl) ?_
 refine G_done ?_
 refine G_ifD rfl (fun hc5 => ?_) (fun hc5 => ?_)
 · skip
   refine G_seq ?_
   refine G_region (l := [0, 1, 2, 3]) rfl ?_
   refine G_val rfl rfl rfl rfl (V_fieldAddr (fo := 5) rfl Try.underlying67 rfl infWireR_9 rfl rfl rfl) ?_
   refine G_val rfl rfl rfl rfl (V_load1 rfl rfl (mem_at 0 rfl) rfl Try.underlying9 rfl) ?_
   refine G_call (L2 := [_]) rfl rfl rfl rfl rfl rfl Try.call119 (ct_rtext (q.tx 5) (by have := hf.t 5 (by simp [textIdx, *]); omega)) [] [] rfl rfl ?_
   rintro v post ⟨rfl, rfl⟩
   show G _ _ _ [_] _
   refine G_val rfl rfl rfl rfl (V_assign rfl rfl) ?_
   refine G_done ?_
   refine G_ret (post := []) Try.func90 rfl (RVs_cons (RV_tmp rfl) RVs_nil) [] rfl ?_
   dsimp only [packed]
   refine ⟨str_eq ?_, rfl⟩; simp [encF, textIdx, numIdx, *]
 refine G_seq ?_
 refine G_region (l := [0, 1]) rfl ?_
 refine G_val rfl rfl rfl rfl (V_eql rfl rfl rfl) ?_
 refine G_val rfl rfl rfl rfl (V_assign rfl rfl) ?_
 refine G_done ?_
 refine G_ifD rfl (fun hc6 => ?_) (fun hc6 => ?_)
 · skip
   refine G_seq ?_
   refine G_region (l := [0, 1, 2, 3]) rfl ?_
   refine G_val rfl rfl rfl rfl (V_fieldAddr (fo := 6) rfl Try.underlying67 rfl infWireR_9 rfl rfl rfl) ?_
   refine G_val rfl rfl rfl rfl (V_load1 rfl rfl (mem_at 0 rfl) rfl Try.underlying9 rfl) ?_
   refine G_call (L2 := [_]) rfl rfl rfl rfl rfl rfl Try.call119 (ct_rtext (q.tx 6) (by have := hf.t 6 (by simp [textIdx, *]); omega)) [] [] rfl rfl ?_
   rintro v post ⟨rfl, rfl⟩
   show G _ _ _ [_] _
   refine G_val rfl rfl rfl rfl (V_assign rfl rfl) ?_
   refine G_done ?_
   refine G_ret (post := []) Try.func90 rfl (RVs_cons (RV_tmp rfl) RVs_nil) [] rfl ?_
   dsimp only [packed]
   refine ⟨str_eq ?_, rfl⟩; simp [encF, textIdx, numIdx, *]
 refine G_seq ?_
 refine G_region (l := [0, 1]) rfl ?_
 refine G_val rfl rfl rfl rfl (V_eql rfl rfl rfl) ?_
 refine G_val rfl rfl rfl rfl (V_assign rfl rfl) ?_
 refine G_done ?_
 refine G_ifD rfl (fun hc7 => ?_) (fun hc7 => ?_)
 · skip
   refine G_seq ?_
   refine G_region (l := [0, 1, 2, 3]) rfl ?_
   refine G_val rfl rfl rfl rfl (V_fieldAddr (fo := 7) rfl Try.underlying67 rfl infWireR_3 rfl rfl rfl) ?_
   refine G_val rfl rfl rfl rfl (V_load1 rfl rfl (mem_at 0 rfl) rfl Try.underlying3 rfl) ?_
   refine G_call (L2 := [_]) rfl rfl rfl rfl rfl rfl Try.call82 (rw_num (q.nx 7) (hf.n 7 (by simp [textIdx, *]) (by simp [numIdx, *]))) [] [] rfl rfl ?_
   rintro v post ⟨rfl, rfl⟩
   show G _ _ _ [_] _
   refine G_val rfl rfl rfl rfl (V_assign rfl rfl) ?_
   refine G_done ?_
   refine G_ret (post := []) Try.func90 rfl (RVs_cons (RV_tmp rfl) RVs_nil) [] rfl ?_
   dsimp only [packed]
   refine ⟨str_eq ?_, rfl⟩; simp [encF, textIdx, numIdx, *]
 refine G_seq ?_
 refine G_region (l := [0, 1]) rfl ?_
 refine G_val rfl rfl rfl rfl (V_eql rfl rfl rfl) ?_
 refine G_val rfl rfl rfl rfl (V_assign rfl rfl) ?_
 refine G_done ?_
 refine G_ifD rfl (fun hc8 => ?_) (fun hc8 => ?_)
 · skip
   refine G_seq ?_
   refine G_region (l := [0, 1, 2, 3]) rfl ?_
   refine G_val rfl rfl rfl rfl (V_fieldAddr (fo := 8) rfl Try.underlying67 rfl infWireR_3 rfl rfl rfl) ?_
   refine G_val rfl rfl rfl rfl (V_load1 rfl rfl (mem_at 0 rfl) rfl Try.underlying3 rfl) ?_
   refine G_call (L2 := [_]) rfl rfl rfl rfl rfl rfl Try.call82 (rw_num (q.nx 8) (hf.n 8 (by simp [textIdx, *]) (by simp [numIdx, *]))) [] [] rfl rfl ?_
   rintro v post ⟨rfl, rfl⟩
   show G _ _ _ [_] _
   refine G_val rfl rfl rfl rfl (V_assign rfl rfl) ?_
   refine G_done ?_
   refine G_ret (post := []) Try.func90 rfl (RVs_cons (RV_tmp rfl) RVs_nil) [] rfl ?_
   dsimp only [packed]
   refine ⟨str_eq ?_, rfl⟩; simp [encF, textIdx, numIdx, *]
 refine G_seq ?_
 refine G_region (l := [0, 1]) rfl ?_
 refine G_val rfl rfl rfl rfl (V_eql rfl rfl rfl) ?_
 refine G_val rfl rfl rfl rfl (V_assign rfl rfl) ?_
 refine G_done ?_
 refine G_ifD rfl (fun hc9 => ?_) (fun hc9 => ?_)
 · skip
   refine G_seq ?_
   refine G_region (l := [0, 1, 2, 3]) rfl ?_
   refine G_val rfl rfl rfl rfl (V_fieldAddr (fo := 9) rfl Try.underlying67 rfl infWireR_3 rfl rfl rfl) ?_
   refine G_val rfl rfl rfl rfl (V_load1 rfl rfl (mem_at 0 rfl) rfl Try.underlying3 rfl) ?_
   refine G_call (L2 := [_]) rfl rfl rfl rfl rfl rfl Try.call82 (rw_num (q.nx 9) (hf.n 9 (by simp [textIdx, *]) (by simp [numIdx, *]))) [] [] rfl rfl ?_
   rintro v post ⟨rfl, rfl⟩
   show G _ _ _ [_] _
   refine G_val rfl rfl rfl rfl (V_assign rfl rfl) ?_
   refine G_done ?_
   refine G_ret (post := []) Try.func90 rfl (RVs_cons (RV_tmp rfl) RVs_nil) [] rfl ?_
   dsimp only [packed]
   refine ⟨str_eq ?_, rfl⟩; simp [encF, textIdx, numIdx, *]
 refine G_seq ?_
 refine G_region (l := [0, 1]) rfl ?_
 refine G_val rfl rfl rfl rfl (V_eql rfl rfl rfl) ?_
 refine G_val rfl rfl rfl rfl (V_assign rfl rfl) ?_
 refine G_done ?_
 refine G_ifD rfl (fun hc10 => ?_) (fun hc10 => ?_)
 · skip
   refine G_seq ?_
   refine G_region (l := [0, 1, 2, 3]) rfl ?_
   refine G_val rfl rfl rfl rfl (V_fieldAddr (fo := 10) rfl Try.underlying67 rfl infWireR_3 rfl rfl rfl) ?_
   refine G_val rfl rfl rfl rfl (V_load1 rfl rfl (mem_at 0 rfl) rfl Try.underlying3 rfl) ?_
   refine G_call (L2 := [_]) rfl rfl rfl rfl rfl rfl Try.call82 (rw_num (q.nx 10) (hf.n 10 (by simp [textIdx, *]) (by simp [numIdx, *]))) [] [] rfl rfl ?_
   rintro v post ⟨rfl, rfl⟩
   show G _ _ _ [_] _
   refine G_val rfl rfl rfl rfl (V_assign rfl rfl) ?_
   refine G_done ?_
   refine G_ret (post := []) Try.func90 rfl (RVs_cons (RV_tmp rfl) RVs_nil) [] rfl ?_
   dsimp only [packed]
   refine ⟨str_eq ?_, rfl⟩; simp [encF, textIdx, numIdx, *]
 refine G_seq ?_
 refine G_region (l := [0, 1]) rfl ?_
 refine G_val rfl rfl rfl rfl (V_eql rfl rfl rfl) ?_
 refine G_val rfl rfl rfl rfl (V_assign rfl rfl) ?_
 refine G_done ?_
 refine G_ifD rfl (fun hc11 => ?_) (fun hc11 => ?_)
 · skip
   refine G_seq ?_
   refine G_region (l := [0, 1, 2, 3]) rfl ?_
   refine G_val rfl rfl rfl rfl (V_fieldAddr (fo := 11) rfl Try.underlying67 rfl infWireR_3 rfl rfl rfl) ?_
   refine G_val rfl rfl rfl rfl (V_load1 rfl rfl (mem_at 0 rfl) rfl Try.underlying3 rfl) ?_
   refine G_call (L2 := [_]) rfl rfl rfl rfl rfl rfl Try.call82 (rw_num (q.nx 11) (hf.n 11 (by simp [textIdx, *]) (by simp [numIdx, *]))) [] [] rfl rfl ?_
   rintro v post ⟨rfl, rfl⟩
   show G _ _ _ [_] _
   refine G_val rfl rfl rfl rfl (V_assign rfl rfl) ?_
   refine G_done ?_
   refine G_ret (post := []) Try.func90 rfl (RVs_cons (RV_tmp rfl) RVs_nil) [] rfl ?_
   dsimp only [packed]
   refine ⟨str_eq ?_, rfl⟩; simp [encF, textIdx, numIdx, *]
 refine G_seq ?_
 refine G_region (l := [0, 1]) rfl ?_
 refine G_val rfl rfl rfl rfl (V_eql rfl rfl rfl) ?_
 refine G_val rfl rfl rfl rfl (V_assign rfl rfl) ?_
 refine G_done ?_
 refine G_ifD rfl (fun hc12 => ?_) (fun hc12 => ?_)
 · skip
   refine G_seq ?_
   refine G_region (l := [0, 1, 2, 3]) rfl ?_
   refine G_val rfl rfl rfl rfl (V_fieldAddr (fo := 12) rfl Try.underlying67 rfl infWireR_3 rfl rfl rfl) ?_
   refine G_val rfl rfl rfl rfl (V_load1 rfl rfl (mem_at 0 rfl) rfl Try.underlying3 rfl) ?_
   refine G_call (L2 := [_]) rfl rfl rfl rfl rfl rfl Try.call82 (rw_num (q.nx 12) (hf.n 12 (by simp [textIdx, *]) (by simp [numIdx, *]))) [] [] rfl rfl ?_
   rintro v post ⟨rfl, rfl⟩
   show G _ _ _ [_] _
   refine G_val rfl rfl rfl rfl (V_assign rfl rfl) ?_
   refine G_done ?_
   refine G_ret (post := []) Try.func90 rfl (RVs_cons (RV_tmp rfl) RVs_nil) [] rfl ?_
   dsimp only [packed]
   refine ⟨str_eq ?_, rfl⟩; simp [encF, textIdx, numIdx, *]
 refine G_seq ?_
 refine G_region (l := [0, 1]) rfl ?_
 refine G_val rfl rfl rfl rfl (V_eql rfl rfl rfl) ?_
 refine G_val rfl rfl rfl rfl (V_assign rfl rfl) ?_
 refine G_done ?_
 refine G_ifD rfl (fun hc13 => ?_) (fun hc13 => ?_)
 · skip
   refine G_seq ?_
   refine G_region (l := [0, 1, 2, 3]) rfl ?_
   refine G_val rfl rfl rfl rfl (V_fieldAddr (fo := 13) rfl Try.underlying67 rfl infWireR_3 rfl rfl rfl) ?_
   refine G_val rfl rfl rfl rfl (V_load1 rfl rfl (mem_at 0 rfl) rfl Try.underlying3 rfl) ?_
   refine G_call (L2 := [_]) rfl rfl rfl rfl rfl rfl Try.call82 (rw_num (q.nx 13) (hf.n 13 (by simp [textIdx, *]) (by simp [numIdx, *]))) [] [] rfl rfl ?_
   rintro v post ⟨rfl, rfl⟩
   show G _ _ _ [_] _
   refine G_val rfl rfl rfl rfl (V_assign rfl rfl) ?_
   refine G_done ?_
   refine G_ret (post := []) Try.func90 rfl (RVs_cons (RV_tmp rfl) RVs_nil) [] rfl ?_
   dsimp only [packed]
   refine ⟨str_eq ?_, rfl⟩; simp [encF, textIdx, numIdx, *]
 refine G_seq ?_
 refine G_region (l := [0, 1]) rfl ?_
 refine G_val rfl rfl rfl rfl (V_eql rfl rfl rfl) ?_
 refine G_val rfl rfl rfl rfl (V_assign rfl rfl) ?_
 refine G_done ?_
 refine G_ifD rfl (fun hc14 => ?_) (fun hc14 => ?_)
 · skip
   refine G_seq ?_
   refine G_region (l := [0, 1, 2, 3]) rfl ?_
   refine G_val rfl rfl rfl rfl (V_fieldAddr (fo := 14) rfl Try.underlying67 rfl infWireR_3 rfl rfl rfl) ?_
   refine G_val rfl rfl rfl rfl (V_load1 rfl rfl (mem_at 0 rfl) rfl Try.underlying3 rfl) ?_
   refine G_call (L2 := [_]) rfl rfl rfl rfl rfl rfl Try.call82 (rw_num (q.nx 14) (hf.n 14 (by simp [textIdx, *]) (by simp [numIdx, *]))) [] [] rfl rfl ?_
   rintro v post ⟨rfl, rfl⟩
   show G _ _ _ [_] _
   refine G_val rfl rfl rfl rfl (V_assign rfl rfl) ?_
   refine G_done ?_
   refine G_ret (post := []) Try.func90 rfl (RVs_cons (RV_tmp rfl) RVs_nil) [] rfl ?_
   dsimp only [packed]
   refine ⟨str_eq ?_, rfl⟩; simp [encF, textIdx, numIdx, *]
 refine G_seq ?_
 refine G_region (l := [0, 1]) rfl ?_
 refine G_val rfl rfl rfl rfl (V_eql rfl rfl rfl) ?_
 refine G_val rfl rfl rfl rfl (V_assign rfl rfl) ?_
 refine G_done ?_
 refine G_ifD rfl (fun hc15 => ?_) (fun hc15 => ?_)
 · skip
   refine G_seq ?_
   refine G_region (l := [0, 1, 2, 3]) rfl ?_
   refine G_val rfl rfl rfl rfl (V_fieldAddr (fo := 15) rfl Try.underlying67 rfl infWireR_3 rfl rfl rfl) ?_
   refine G_val rfl rfl rfl rfl (V_load1 rfl rfl (mem_at 0 rfl) rfl Try.underlying3 rfl) ?_
   refine G_call (L2 := [_]) rfl rfl rfl rfl rfl rfl Try.call82 (rw_num (q.nx 15) (hf.n 15 (by simp [textIdx, *]) (by simp [numIdx, *]))) [] [] rfl rfl ?_
   rintro v post ⟨rfl, rfl⟩
   show G _ _ _ [_] _
   refine G_val rfl rfl rfl rfl (V_assign rfl rfl) ?_
   refine G_done ?_
   refine G_ret (post := []) Try.func90 rfl (RVs_cons (RV_tmp rfl) RVs_nil) [] rfl ?_
   dsimp only [packed]
   refine ⟨str_eq ?_, rfl⟩; simp [encF, textIdx, numIdx, *]
 refine G_skip ?_
 refine G_inBlock ?_
 refine G_seq ?_
 refine G_region (l := [0, 1, 2, 3, 4]) rfl ?_
 refine G_val rfl rfl rfl rfl (V_fieldAddr (fo := 16) rfl Try.underlying67 rfl infWireR_4 rfl rfl rfl) ?_
 refine G_val rfl rfl rfl rfl (V_load1 rfl rfl (mem_at 0 rfl) rfl Try.underlying4 rfl) ?_
 refine G_call (L2 := [_]) rfl rfl rfl rfl rfl rfl Try.call140 (rw_flag _) [] [] rfl rfl ?_
 rintro v post ⟨rfl, rfl⟩
 show G _ _ _ [_] _
 refine G_call (L2 := [_]) rfl rfl rfl rfl rfl rfl Try.call82 (rw_num (if q.flag then 1 else 0) (by split <;> omega)) [] [] rfl rfl ?_
 rintro v post ⟨rfl, rfl⟩
 show G _ _ _ [_] _
 refine G_val rfl rfl rfl rfl (V_assign rfl rfl) ?_
 refine G_done ?_
 refine G_ret (post := []) Try.func90 rfl (RVs_cons (RV_tmp rfl) RVs_nil) [] rfl ?_
 dsimp only [packed]
 refine ⟨str_eq ?_, rfl⟩; simp [encF, textIdx, numIdx, *]

end
end Go.Proofs.Ytkekkalgebgokaa

/- The walks of the document's wire.Encode and wire.Decode. -/
set_option linter.unusedSimpArgs false
set_option linter.unusedVariables false
namespace Go.Proofs.Ytkekkalgebgokaa
open Go Go.RowKit

section
theorem infWireS_3 : Try.prog.info? 3 = some Try.t3 := by kernel_rfl
theorem infWireS_67 : Try.prog.info? 67 = some Try.t67 := by kernel_rfl

set_option maxRecDepth 100000 in
set_option maxHeartbeats 1000000 in
theorem rw_encode (q : Rq) (hq : RqOk q) :
    Ct Try.prog 30 [.agg (rqCells q).toArray] [] [] fun v post => v = wireE q ∧ post = [] := by
 have hfl := fieldsK_len q.kind
 refine ct_of Try.func30 rfl rfl (fun w0 => ?_)
 show G _ _ [(0, _)] _ _
 refine G_seq ?_
 refine G_region (l := [0, 1, 2]) rfl ?_
 refine G_new rfl rfl rfl rfl (N_boxA rfl rfl) (fun b1 => ?_)
 refine G_val rfl rfl rfl rfl (V_assign rfl rfl) ?_
 refine G_val rfl rfl rfl rfl (V_assign rfl rfl) ?_
 refine G_done ?_
 refine G_seq ?_
 refine G_seq ?_
 refine G_region (l := [0, 1, 2]) rfl ?_
 first
   | refine G_val rfl rfl rfl rfl (V_loadW (s := 17) rfl rfl (mem_at 0 rfl) Try.underlying67 rfl infWireS_67 rfl (by first | rfl | (simp [bcells_length, rqCells]; done) | (simp [bcells_length, rqCells]; omega) | (simp [bcells_length, *, rqCells]; done))) ?_
   | refine G_val rfl rfl rfl rfl (V_loadA (s := 17) rfl rfl (mem_at 0 rfl) Try.underlying67 rfl infWireS_67 rfl rfl (by first | rfl | (simp [bcells_length, rqCells]; done) | (simp [bcells_length, rqCells]; omega) | (simp [bcells_length, *, rqCells]; done))) ?_
 refine G_call (L2 := [_]) rfl rfl rfl rfl rfl rfl Try.call88 ((rmsg_may q hq).weaken (fun v post h => by rw [← mayQ_r] at h; exact h)) [] [] rfl rfl ?_
 rintro v post ⟨rfl, rfl⟩
 show G _ _ _ [_] _
 refine G_val rfl rfl rfl rfl (V_not rfl rfl) ?_
 refine G_done ?_
 refine G_if rfl (fun hc1 => ?_) (fun hc1 => ?_)
 · skip
   refine G_seq ?_
   refine G_region (l := [0, 1]) rfl ?_
   refine G_val rfl rfl rfl rfl (V_assign rfl rfl) ?_
   refine G_val rfl rfl rfl rfl (V_assign rfl rfl) ?_
   refine G_done ?_
   refine G_ret (post := []) Try.func30 rfl (RVs_cons (RV_tmp rfl) (RVs_cons (RV_tmp rfl) RVs_nil)) [] rfl ?_
   dsimp only [packed]
   first
     | exact ⟨(wireE_no (by assumption)).symm, rfl⟩
     | exact ⟨(wireE_long (by assumption) (by assumption)).symm, rfl⟩
     | exact ⟨(wireE_yes (by assumption) (by assumption)).symm, rfl⟩
 refine G_skip ?_
 refine G_seq ?_
 obtain ⟨⟨hk1, hk2⟩, hfk⟩ := may_fok (by simpa using hc1 : mayQ q = true)
 have hkl := chainI_len q.kind (by omega) (by omega)
 have hel := encQ_len (q := q) (by simpa using hc1)
 refine G_region (l := [0, 1, 2, 3]) rfl ?_
 refine G_val rfl rfl rfl rfl (V_fieldAddr (fo := 0) rfl Try.underlying67 rfl infWireS_3 rfl rfl rfl) ?_
 refine G_val rfl rfl rfl rfl (V_load1 rfl rfl (mem_at 0 rfl) rfl Try.underlying3 rfl) ?_
 refine G_call (L2 := [_]) rfl rfl rfl rfl rfl rfl Try.call82 (rw_num _ ⟨by omega, by omega⟩) [] [] rfl rfl ?_
 rintro v post ⟨rfl, rfl⟩
 show G _ _ _ [_] _
 refine G_val rfl rfl rfl rfl (V_assign rfl rfl) ?_
 refine G_done ?_
 refine G_seq ?_
 refine G_region (l := [0, 1, 2, 3]) rfl ?_
 refine G_val rfl rfl rfl rfl (V_fieldAddr (fo := 0) rfl Try.underlying67 rfl infWireS_3 rfl rfl rfl) ?_
 refine G_val rfl rfl rfl rfl (V_load1 rfl rfl (mem_at 0 rfl) rfl Try.underlying3 rfl) ?_
 refine G_call (L2 := [_]) rfl rfl rfl rfl rfl rfl Try.call89 (rmsg_fields _) [] [] rfl rfl ?_
 rintro v post ⟨rfl, rfl⟩
 show G _ _ _ [_] _
 refine G_val rfl rfl rfl rfl (V_assign rfl rfl) ?_
 refine G_done ?_
 refine G_seq ?_
 refine G_seq ?_
 refine G_region (l := [0]) rfl ?_
 refine G_val rfl rfl rfl rfl (V_assign rfl rfl) ?_
 refine G_done ?_
 refine G_block ?_
 refine G_sub ?he6 [0] ?hl6 (G_loop (X := Nat) (fun i => i ≤ (fieldsK q.kind).length) (fun i => (fieldsK q.kind).length - i) (fun i => [(1, .pointer (some ⟨b1, 0, none⟩)), (4, .string (bs (chainI q.kind ++ encFs q ((fieldsK q.kind).take i)))), (5, .string (bs (fieldsK q.kind))), (6, .int .i64 (i : Int))]) (fun i => [(some b1, .cells (rqCells q).toArray 67 (0, 0))]) ?round6 0 ?h06)
 case he6 => refine (And.intro rfl (And.intro (by simp [encFs]; rfl) (And.intro rfl (And.intro rfl trivial))))
 case hl6 => exact ⟨_, rfl⟩
 case h06 => exact Nat.zero_le _
 case round6 =>
  intro i hJ ih
  try dsimp only at hJ ih
  refine G_seq ?_
  refine G_seq ?_
  refine G_region (l := [0, 1, 2, 3]) rfl ?_
  refine G_val rfl rfl rfl rfl (V_move rfl rfl) ?_
  refine G_val rfl rfl rfl rfl (V_move rfl rfl) ?_
  refine G_val rfl rfl rfl rfl (V_slen rfl rfl Try.underlying9 rfl) ?_
  refine G_val rfl rfl rfl rfl (V_lss rfl rfl rfl) ?_
  refine G_done ?_
  refine G_ifD rfl (fun hc2 => ?_) (fun hc2 => ?_)
  · skip
    refine G_skip ?_
    refine G_seq ?_
    refine G_block ?_
    have hen := encFs_len (q := q) ((fieldsK q.kind).take i) (fun c hc => hfk c (List.mem_of_mem_take hc))
    have hkl3 : ((fieldsK q.kind).take i).length ≤ 7 := by simp; omega
    have hef := encF_len (hfk _ (getD_mem (k := i) (by omega)))
    refine GH_start (Lq := [_]) (isq := [0]) (m := 8) mixedK rfl rfl ?_
    refine GH_take 0 rfl rfl rfl rfl (by kernel_rfl) (by kernel_rfl) (by kernel_rfl) (fun _ _ => (V_move rfl rfl)) ?_
    first
      | refine GH_take 1 rfl rfl rfl rfl (by kernel_rfl) (by kernel_rfl) (by kernel_rfl) (fun _ _ => (V_loadW (s := 17) rfl rfl (mem_at 0 rfl) Try.underlying67 rfl infWireS_67 rfl (by first | rfl | (simp [bcells_length, rqCells]; done) | (simp [bcells_length, rqCells]; omega) | (simp [bcells_length, *, rqCells]; done)))) ?_
      | refine GH_take 1 rfl rfl rfl rfl (by kernel_rfl) (by kernel_rfl) (by kernel_rfl) (fun _ _ => (V_loadA (s := 17) rfl rfl (mem_at 0 rfl) Try.underlying67 rfl infWireS_67 rfl rfl (by first | rfl | (simp [bcells_length, rqCells]; done) | (simp [bcells_length, rqCells]; omega) | (simp [bcells_length, *, rqCells]; done)))) ?_
    refine GH_take 2 rfl rfl rfl rfl (by kernel_rfl) (by kernel_rfl) (by kernel_rfl) (fun _ _ => (V_move rfl rfl)) ?_
    refine GH_take 3 rfl rfl rfl rfl (by kernel_rfl) (by kernel_rfl) (by kernel_rfl) (fun _ _ => (V_move rfl rfl)) ?_
    first
      | refine GH_take 4 rfl rfl rfl rfl (by kernel_rfl) (by kernel_rfl) (by kernel_rfl) (fun _ _ => (V_sindexN rfl Try.underlying9 rfl rfl rfl (by omega))) ?_
      | refine GH_take 4 rfl rfl rfl rfl (by kernel_rfl) (by kernel_rfl) (by kernel_rfl) (fun _ _ => (V_sindexD rfl Try.underlying9 rfl rfl (by omega) (by first | omega | (simp [rqCells]; done) | (simp [rqCells]; omega) | (simp [rqCells] at *; omega)))) ?_
    refine GH_all [5] (by kernel_rfl) (by decide) ?_
    refine (And.intro ?_ trivial)
    · skip
      refine GHop_call (L2 := [_]) rfl rfl rfl rfl rfl rfl Try.call90 (rw_field q _ (hfk _ (getD_mem (by omega)))) [] [] rfl rfl [0] (by rintro v post ⟨rfl, rfl⟩; exact ⟨_, rfl⟩) ?_
      rintro v post ⟨rfl, rfl⟩
      show GH _ _ _ _ _ _ _ [_] _
      refine GH_take 6 rfl rfl rfl rfl (by kernel_rfl) (by kernel_rfl) (by kernel_rfl) (fun _ _ => (V_sadd rfl rfl rfl (by first | omega | (simp [rqCells]; done) | (simp [rqCells]; omega) | (simp [rqCells] at *; omega)))) ?_
      refine GH_take 7 rfl rfl rfl rfl (by kernel_rfl) (by kernel_rfl) (by kernel_rfl) (fun _ _ => (V_assign rfl rfl)) ?_
      refine GH_done (by kernel_rfl) ?_
      refine G_inBlock ?_
      rw [List.append_assoc, ← encFs_next q (fieldsK q.kind) i (by omega)]
      refine G_region (l := [0, 1, 2]) rfl ?_
      refine G_val rfl rfl rfl rfl (V_move rfl rfl) ?_
      first
        | refine G_val rfl rfl rfl rfl ((V_add rfl rfl rfl).int (wrap_i64 (by omega))) ?_
        | refine G_val rfl rfl rfl rfl (V_add rfl rfl rfl) ?_
      refine G_val rfl rfl rfl rfl (V_assign rfl rfl) ?_
      refine G_done ?_
      refine G_sub ?_ [0] ?_ (ih (i + 1) ?_ ?_)
      · (refine (And.intro ?_ (And.intro ?_ (And.intro ?_ (And.intro ?_ trivial)))) <;> first | rfl | exact slot_int (by omega) | exact slot_int (by simp))
      · exact ⟨_, rfl⟩
      · omega
      · (first | omega | (dsimp only; omega))
  refine G_exit rfl ?_
  refine G_seq ?_
  refine G_seq ?_
  have eE : chainI q.kind ++ encFs q ((fieldsK q.kind).take i) = encQ q := by rw [List.take_of_length_le (by omega)]; rfl
  rw [eE]
  refine G_region (l := [0, 1, 2]) rfl ?_
  refine G_val rfl rfl rfl rfl (V_move rfl rfl) ?_
  refine G_val rfl rfl rfl rfl (V_slen rfl rfl Try.underlying9 rfl) ?_
  refine G_val rfl rfl rfl rfl (V_gtr rfl rfl rfl) ?_
  refine G_done ?_
  refine G_ifD rfl (fun hc3 => ?_) (fun hc3 => ?_)
  · skip
    refine G_seq ?_
    refine G_region (l := [0, 1]) rfl ?_
    refine G_val rfl rfl rfl rfl (V_assign rfl rfl) ?_
    refine G_val rfl rfl rfl rfl (V_assign rfl rfl) ?_
    refine G_done ?_
    refine G_ret (post := []) Try.func30 rfl (RVs_cons (RV_tmp rfl) (RVs_cons (RV_tmp rfl) RVs_nil)) [] rfl ?_
    dsimp only [packed]
    first
      | exact ⟨(wireE_no (by assumption)).symm, rfl⟩
      | exact ⟨(wireE_long (by assumption) (by assumption)).symm, rfl⟩
      | exact ⟨(wireE_yes (by assumption) (by assumption)).symm, rfl⟩
  refine G_skip ?_
  refine G_seq ?_
  refine G_region (l := [0, 1, 2]) rfl ?_
  refine G_val rfl rfl rfl rfl (V_move rfl rfl) ?_
  refine G_val rfl rfl rfl rfl (V_assign rfl rfl) ?_
  refine G_val rfl rfl rfl rfl (V_assign rfl rfl) ?_
  refine G_done ?_
  refine G_ret (post := []) Try.func30 rfl (RVs_cons (RV_tmp rfl) (RVs_cons (RV_tmp rfl) RVs_nil)) [] rfl ?_
  dsimp only [packed]
  first
    | exact ⟨(wireE_no (by assumption)).symm, rfl⟩
    | exact ⟨(wireE_long (by assumption) (by assumption)).symm, rfl⟩
    | exact ⟨(wireE_yes (by assumption) (by assumption)).symm, rfl⟩


theorem rk_bd (l : List UInt8) : (((rk l).1 : Nat) : Int) ≤ 17 ∧ (rk l).2.1.length ≤ l.length ∧ (rk l).2.2 ≤ 1000 := rdInt_bd 17 l 0 (by omega) (by omega)
theorem k_rk (b : Nat) (l : List UInt8) (hl : l.length ≤ 140737488350000) : Ct Try.prog 40 [.pointer (some ⟨b, 0, none⟩), .int .i64 17] [] [(some b, .cells #[.string (bs l), .int .i64 ((0 : Nat) : Int)] 86 (0, 0))] (fun r post => r = .int .i64 (((rk l).1 : Nat) : Int) ∧ post = [(some b, .cells #[.string (bs (rk l).2.1), .int .i64 (((rk l).2.2 : Nat) : Int)] 86 (0, 0))]) := by
  unfold rk
  exact rrd_int b l 0 17 (by omega) (by omega) ⟨by omega, by omega⟩
attribute [local irreducible] rk

end
end Go.Proofs.Ytkekkalgebgokaa

/- Requests as arguments: what can be read of them, and their literals. -/
set_option linter.unusedSimpArgs false
set_option linter.unusedVariables false
namespace Go.Proofs.Ytkekkalgebgokaa
open Go Go.RowKit

section



set_option maxRecDepth 100000 in
theorem key_rq (q : Rq) (h : RqOk q) : Try.prog.keyLits 2 67 (rqCells q).toArray.toList = some (rqLits q) := by
  obtain ⟨hk, ht, hn⟩ := h
  refine fits_keys Try.underlying67 (by kernel_rfl) (by kernel_rfl) ?_
  refine ⟨rfl, (by kernel_rfl), key_int Try.underlying3 hk.1 hk.2, ?_⟩
  iterate 6 refine ⟨rfl, (by kernel_rfl), key_str Try.underlying9 (ht _), ?_⟩
  iterate 9 refine ⟨rfl, (by kernel_rfl), key_int Try.underlying3 (hn _).1 (hn _).2, ?_⟩
  exact ⟨rfl, (by kernel_rfl), key_bool Try.underlying4, trivial⟩
set_option maxRecDepth 100000 in
theorem rq_types : Try.prog.cellTypes Try.prog.depth 67 = some [3, 9, 9, 9, 9, 9, 9, 3, 3, 3, 3, 3, 3, 3, 3, 3, 4] := by kernel_rfl
set_option maxRecDepth 100000 in
theorem rq_of {W : World} {b : Nat} {v : Value} (h : Value.okWide Try.prog W .any b 67 v) : ∃ q : Rq, v = .agg (rqCells q).toArray ∧ RqOk q := by
  obtain ⟨cs, rfl, hl, hc⟩ := okv_agg (s := 17) h Try.underlying67 rfl rq_types (by kernel_rfl) rfl
  match cs, hl, hc with
  | [v0, v1, v2, v3, v4, v5, v6, v7, v8, v9, v10, v11, v12, v13, v14, v15, v16], _, hc =>
    obtain ⟨k, rfl, k1, k2⟩ := okc_int (hc 0 v0 3 rfl rfl) Try.underlying3
    obtain ⟨s1, rfl, p1⟩ := okc_str (hc 1 v1 9 rfl rfl) Try.underlying9
    obtain ⟨s2, rfl, p2⟩ := okc_str (hc 2 v2 9 rfl rfl) Try.underlying9
    obtain ⟨s3, rfl, p3⟩ := okc_str (hc 3 v3 9 rfl rfl) Try.underlying9
    obtain ⟨s4, rfl, p4⟩ := okc_str (hc 4 v4 9 rfl rfl) Try.underlying9
    obtain ⟨s5, rfl, p5⟩ := okc_str (hc 5 v5 9 rfl rfl) Try.underlying9
    obtain ⟨s6, rfl, p6⟩ := okc_str (hc 6 v6 9 rfl rfl) Try.underlying9
    obtain ⟨n7, rfl, a7, b7⟩ := okc_int (hc 7 v7 3 rfl rfl) Try.underlying3
    obtain ⟨n8, rfl, a8, b8⟩ := okc_int (hc 8 v8 3 rfl rfl) Try.underlying3
    obtain ⟨n9, rfl, a9, b9⟩ := okc_int (hc 9 v9 3 rfl rfl) Try.underlying3
    obtain ⟨n10, rfl, a10, b10⟩ := okc_int (hc 10 v10 3 rfl rfl) Try.underlying3
    obtain ⟨n11, rfl, a11, b11⟩ := okc_int (hc 11 v11 3 rfl rfl) Try.underlying3
    obtain ⟨n12, rfl, a12, b12⟩ := okc_int (hc 12 v12 3 rfl rfl) Try.underlying3
    obtain ⟨n13, rfl, a13, b13⟩ := okc_int (hc 13 v13 3 rfl rfl) Try.underlying3
    obtain ⟨n14, rfl, a14, b14⟩ := okc_int (hc 14 v14 3 rfl rfl) Try.underlying3
    obtain ⟨n15, rfl, a15, b15⟩ := okc_int (hc 15 v15 3 rfl rfl) Try.underlying3
    obtain ⟨fl, rfl⟩ := okc_bool (hc 16 v16 4 rfl rfl) Try.underlying4
    refine ⟨⟨k, fun i => if i = 1 then s1 else if i = 2 then s2 else if i = 3 then s3 else if i = 4 then s4 else if i = 5 then s5 else s6,
      fun i => if i = 7 then n7 else if i = 8 then n8 else if i = 9 then n9 else if i = 10 then n10 else if i = 11 then n11 else if i = 12 then n12 else if i = 13 then n13 else if i = 14 then n14 else n15, fl⟩, rfl, ⟨k1, k2⟩, fun i => ?_, fun i => ?_⟩
    · show (if i = 1 then s1 else if i = 2 then s2 else if i = 3 then s3 else if i = 4 then s4 else if i = 5 then s5 else s6).length ≤ _
      repeat' split
      all_goals assumption
    · show _ ≤ (if i = 7 then n7 else if i = 8 then n8 else if i = 9 then n9 else if i = 10 then n10 else if i = 11 then n11 else if i = 12 then n12 else if i = 13 then n13 else if i = 14 then n14 else n15) ∧ (if i = 7 then n7 else if i = 8 then n8 else if i = 9 then n9 else if i = 10 then n10 else if i = 11 then n11 else if i = 12 then n12 else if i = 13 then n13 else if i = 14 then n14 else n15) ≤ _
      repeat' split
      all_goals exact ⟨by assumption, by assumption⟩

end
end Go.Proofs.Ytkekkalgebgokaa

/- The laws of layer 20: what they have in common. -/
set_option linter.unusedSimpArgs false
set_option linter.unusedVariables false
namespace Go.Proofs.Ytkekkalgebgokaa
open Go Go.RowKit

section



theorem wire3 (q : Rq) : (mayQ q = false ∧ wireE q = .tuple #[.string (bs []), .int .i64 1]) ∨ ((mayQ q = true ∧ 480 < (encQ q).length) ∧ wireE q = .tuple #[.string (bs []), .int .i64 4]) ∨ ((mayQ q = true ∧ ¬ 480 < (encQ q).length) ∧ wireE q = .tuple #[.string (bs (encQ q)), .int .i64 0]) := by
  cases h : mayQ q
  · exact .inl ⟨rfl, wireE_no (by rw [h]; rfl)⟩
  · by_cases hl : 480 < (encQ q).length
    · exact .inr (.inl ⟨⟨rfl, hl⟩, wireE_long (by rw [h]; rfl) (by omega)⟩)
    · exact .inr (.inr ⟨⟨rfl, hl⟩, wireE_yes (by rw [h]; rfl) (by omega)⟩)
def liveW : Rq := ⟨8, fun i => if i = 3 then [97] else [], fun _ => 0, false⟩
theorem liveW_ok : RqOk liveW := by
  refine ⟨by decide, fun i => ?_, fun i => ?_⟩
  · unfold liveW; simp only; split <;> simp
  · unfold liveW; simp only; omega
theorem liveW_enc : encQ liveW = [8, 1, 97] := by
  have h0 : chain 8 = [8] := chain_small 8 (by omega)
  have h1 : chain 1 = [1] := chain_small 1 (by omega)
  show chain 8 ++ (text [97] ++ []) = _
  unfold text
  rw [h0]
  show [8] ++ (chain 1 ++ [97] ++ []) = _
  rw [h1]; rfl
theorem liveW_may : mayQ liveW = true := by
  unfold mayQ
  rw [if_pos]
  refine ⟨by decide, ?_⟩
  show [110].all (okL liveW) = true
  decide
theorem live_wire : wireE liveW = .tuple #[.string (bs [8, 1, 97]), .int .i64 0] := by
  rw [wireE_yes (by rw [liveW_may]; rfl) (by rw [liveW_enc]; decide), liveW_enc]
theorem decQ_bare {l : List UInt8} (h : ¬ decW l = 0) : decQ l = rqBare 0 ∧ wireE (decQ l) = .tuple #[.string (bs []), .int .i64 1] := by
  have e : decQ l = rqBare 0 := by
    unfold decW at h
    unfold decQ
    split
    · rfl
    · rename_i hl
      rw [if_neg hl] at h
      split
      · rename_i hd; rw [if_pos hd] at h; exact absurd rfl h
      · rfl
  refine ⟨e, ?_⟩
  rw [e]
  exact wireE_no (by unfold mayQ; rw [if_neg]; rfl; rintro ⟨h1, _⟩; exact absurd h1 (by decide))
theorem wireE_back {l : List UInt8} (h : decW l = 0) : wireE (decQ l) = .tuple #[.string (bs l), .int .i64 0] := by
  obtain ⟨h1, h2, h3⟩ := wire_back l h
  rw [wireE_yes (by rw [h2]; rfl) (by rw [h1]; omega), h1]
end
end Go.Proofs.Ytkekkalgebgokaa
