/- What the law TellStates needs, part 3. -/
import Derived.Test.YtjnaeoelnmhjfaaDoorPkTellStates1
import Derived.Test.YtjnaeoelnmhjfaaDoorPkTellStates2


/- The walks of the reference of layer 19. -/
set_option linter.unusedSimpArgs false
set_option linter.unusedVariables false
namespace Go.Proofs.YtjnaeoelnmhjfaaDoor
open Go Go.RowKit

section
theorem infRMsgW_3 : Tryd.prog.info? 3 = some Tryd.t3 := by kernel_rfl
theorem infRMsgW_4 : Tryd.prog.info? 4 = some Tryd.t4 := by kernel_rfl
theorem infRMsgW_9 : Tryd.prog.info? 9 = some Tryd.t9 := by kernel_rfl
theorem infRMsgW_27 : Tryd.prog.info? 27 = some Tryd.t27 := by kernel_rfl
theorem plcRMsgW_27 : placesOf Tryd.prog (Tryd.prog.fieldsOf 27) = some [(0, 1), (1, 1), (2, 1), (3, 1), (4, 1), (5, 1), (6, 1), (7, 1), (8, 1), (9, 1), (10, 1), (11, 1), (12, 1), (13, 1), (14, 1), (15, 1), (16, 1)] := by kernel_rfl


theorem fieldsK_rest (k : Int) (h : (k < 1 ∨ 12 < k) ∧ ¬ k = 15 ∧ ¬ k = 16) : fieldsK k = [] := by
  by_cases hk : 1 ≤ k ∧ k ≤ 17
  · have : k = 13 ∨ k = 14 ∨ k = 17 := by omega
    rcases this with rfl | rfl | rfl <;> rfl
  · exact fieldsK_no k hk
theorem has_no {k c : Int} {j : Nat} (hj : (fieldsK k).length ≤ j) (h : ((fieldsK k).take j).any (fun x => decide ((x.toNat : Int) = c)) = false) : hasI k c = false := by
  unfold hasI
  rwa [List.take_of_length_le hj] at h
theorem has_yes {k c : Int} {j : Nat} (hj : j < (fieldsK k).length) (h : (((fieldsK k).getD j 0).toNat : Int) = c) : hasI k c = true := by
  unfold hasI
  rw [List.any_eq_true]
  exact ⟨(fieldsK k).getD j 0, by rw [List.getD_eq_getElem?_getD, List.getElem?_eq_getElem hj]; simp, by simpa using h⟩
theorem has_next {k c : Int} {j : Nat} (hj : j < (fieldsK k).length) (ha : ((fieldsK k).take j).any (fun x => decide ((x.toNat : Int) = c)) = false) (h : ¬ (((fieldsK k).getD j 0).toNat : Int) = c) : ((fieldsK k).take (j + 1)).any (fun x => decide ((x.toNat : Int) = c)) = false := by
  rw [List.take_succ_eq_append_getElem hj, List.any_append, ha]
  rw [List.getD_eq_getElem?_getD, List.getElem?_eq_getElem hj] at h
  simpa using h
def strV (s : List UInt8) : Value := .string (bs s)
def intV (n : Int) : Value := .int .i64 n
theorem map_at {α : Type} (f : α → Value) (l : List α) (d : α) (k : Nat) (h : k < l.length) : (l.map f).toArray[0 + k * 1]? = some (f (l.getD k d)) := by
  simp [h]
theorem all_nextD {α : Type} (p : α → Bool) (l : List α) (d : α) (k : Nat) (h : k < l.length) (ha : (l.take k).all p = true) (hp : p (l.getD k d) = true) : (l.take (k + 1)).all p = true := by
  rw [List.take_succ_eq_append_getElem h, List.all_append, ha]
  rw [List.getD_eq_getElem?_getD, List.getElem?_eq_getElem h] at hp
  simpa using hp
theorem not_all {α : Type} (p : α → Bool) (l : List α) (d : α) (k : Nat) (h : k < l.length) (hp : p (l.getD k d) = false) : ¬ l.all p = true := by
  intro ha
  rw [List.all_eq_true] at ha
  have := ha (l.getD k d) (by rw [List.getD_eq_getElem?_getD, List.getElem?_eq_getElem h]; simp)
  rw [hp] at this
  cases this
def tooLong (s : List UInt8) : Bool := decide (s.length ≤ 100)
def inRange (n : Int) : Bool := decide (0 ≤ n ∧ n ≤ 1099511627776)
theorem rmay_no1 {q : Rq} {k : Nat} (hk : k < 6) (h : 100 < ((((texts6 (refRq q)).getD k []).length : Nat) : Int)) : rmayQ q = false := by
  have := not_all tooLong (texts6 (refRq q)) [] k hk (by unfold tooLong; rw [decide_eq_false_iff_not]; omega)
  unfold rmayQ
  rw [if_neg (fun h => this h.1)]
theorem rmay_no2 {q : Rq} {k : Nat} (hk : k < 9) (h : ¬ (0 ≤ (nums9 (refRq q)).getD k 0 ∧ (nums9 (refRq q)).getD k 0 ≤ 1099511627776)) : rmayQ q = false := by
  have := not_all inRange (nums9 (refRq q)) 0 k hk (by unfold inRange; simp only [decide_eq_false_iff_not]; exact h)
  unfold rmayQ
  rw [if_neg (fun h => this h.2.1)]
theorem rmay_end {q : Rq} (h1 : ((texts6 (refRq q)).take 6).all tooLong = true) (h2 : ((nums9 (refRq q)).take 9).all inRange = true) : rmayQ q = isKind q.kind := by
  have h1 : (texts6 (refRq q)).all (fun s => decide (s.length ≤ 100)) = true := h1
  have h2 : (nums9 (refRq q)).all (fun n => decide (0 ≤ n ∧ n ≤ 1099511627776)) = true := h2
  unfold rmayQ
  simp only [h1, h2, true_and]
  cases isKind q.kind <;> rfl

set_option maxRecDepth 100000 in
set_option maxHeartbeats 1000000 in
theorem rmsg_fields (k : Int) :
    Ct Tryd.prog 29 [.int .i64 k] [] [] fun v post => v = .string (bs (fieldsK k)) ∧ post = [] := by
 refine ct_of Tryd.func29 rfl rfl (fun w0 => ?_)
 show G _ _ [(0, _)] _ _
 refine G_seq ?_
 refine G_region (l := [0]) rfl ?_
 refine G_val rfl rfl rfl rfl (V_assign rfl rfl) ?_
 refine G_done ?_
 refine G_seq ?_
 refine G_seq ?_
 refine G_region (l := [0]) rfl ?_
 refine G_val rfl rfl rfl rfl (V_move rfl rfl) ?_
 refine G_done ?_
 refine G_block ?_
 refine G_seq ?_
 refine G_region (l := [0, 1]) rfl ?_
 refine G_val rfl rfl rfl rfl (V_eql rfl rfl rfl) ?_
 refine G_val rfl rfl rfl rfl (V_assign rfl rfl) ?_
 refine G_done ?_
 refine G_ifD rfl (fun hc1 => ?_) (fun hc1 => ?_)
 · skip
   refine G_seq ?_
   refine G_region (l := [0]) rfl ?_
   refine G_val rfl rfl rfl rfl (V_assign rfl rfl) ?_
   refine G_done ?_
   refine G_ret (post := []) Tryd.func29 rfl (RVs_cons (RV_tmp rfl) RVs_nil) [] rfl ?_
   dsimp only [packed]
   refine ⟨str_eq ?_, rfl⟩
   first
     | (rw [show k = 1 from (by omega)]; rfl)
     | (rw [show k = 2 from (by omega)]; rfl)
     | (rw [show k = 3 from (by omega)]; rfl)
     | (rw [show k = 4 from (by omega)]; rfl)
     | (rw [show k = 5 from (by omega)]; rfl)
     | (rw [show k = 6 from (by omega)]; rfl)
     | (rw [show k = 7 from (by omega)]; rfl)
     | (rw [show k = 8 from (by omega)]; rfl)
     | (rw [show k = 9 from (by omega)]; rfl)
     | (rw [show k = 10 from (by omega)]; rfl)
     | (rw [show k = 11 from (by omega)]; rfl)
     | (rw [show k = 12 from (by omega)]; rfl)
     | (rw [show k = 15 from (by omega)]; rfl)
     | (rw [show k = 16 from (by omega)]; rfl)
     | exact (fieldsK_rest k (by omega)).symm
 refine G_seq ?_
 refine G_region (l := [0, 1]) rfl ?_
 refine G_val rfl rfl rfl rfl (V_eql rfl rfl rfl) ?_
 refine G_val rfl rfl rfl rfl (V_assign rfl rfl) ?_
 refine G_done ?_
 refine G_ifD rfl (fun hc2 => ?_) (fun hc2 => ?_)
 · skip
   refine G_seq ?_
   refine G_region (l := [0]) rfl ?_
   refine G_val rfl rfl rfl rfl (V_assign rfl rfl) ?_
   refine G_done ?_
   refine G_ret (post := []) Tryd.func29 rfl (RVs_cons (RV_tmp rfl) RVs_nil) [] rfl ?_
   dsimp only [packed]
   refine ⟨str_eq ?_, rfl⟩
   first
     | (rw [show k = 1 from (by omega)]; rfl)
     | (rw [show k = 2 from (by omega)]; rfl)
     | (rw [show k = 3 from (by omega)]; rfl)
     | (rw [show k = 4 from (by omega)]; rfl)
     | (rw [show k = 5 from (by omega)]; rfl)
     | (rw [show k = 6 from (by omega)]; rfl)
     | (rw [show k = 7 from (by omega)]; rfl)
     | (rw [show k = 8 from (by omega)]; rfl)
     | (rw [show k = 9 from (by omega)]; rfl)
     | (rw [show k = 10 from (by omega)]; rfl)
     | (rw [show k = 11 from (by omega)]; rfl)
     | (rw [show k = 12 from (by omega)]; rfl)
     | (rw [show k = 15 from (by omega)]; rfl)
     | (rw [show k = 16 from (by omega)]; rfl)
     | exact (fieldsK_rest k (by omega)).symm
 refine G_seq ?_
 refine G_region (l := [0, 1]) rfl ?_
 refine G_val rfl rfl rfl rfl (V_eql rfl rfl rfl) ?_
 refine G_val rfl rfl rfl rfl (V_assign rfl rfl) ?_
 refine G_done ?_
 refine G_ifD rfl (fun hc3 => ?_) (fun hc3 => ?_)
 · skip
   refine G_seq ?_
   refine G_region (l := [0]) rfl ?_
   refine G_val rfl rfl rfl rfl (V_assign rfl rfl) ?_
   refine G_done ?_
   refine G_ret (post := []) Tryd.func29 rfl (RVs_cons (RV_tmp rfl) RVs_nil) [] rfl ?_
   dsimp only [packed]
   refine ⟨str_eq ?_, rfl⟩
   first
     | (rw [show k = 1 from (by omega)]; rfl)
     | (rw [show k = 2 from (by omega)]; rfl)
     | (rw [show k = 3 from (by omega)]; rfl)
     | (rw [show k = 4 from (by omega)]; rfl)
     | (rw [show k = 5 from (by omega)]; rfl)
     | (rw [show k = 6 from (by omega)]; rfl)
     | (rw [show k = 7 from (by omega)]; rfl)
     | (rw [show k = 8 from (by omega)]; rfl)
     | (rw [show k = 9 from (by omega)]; rfl)
     | (rw [show k = 10 from (by omega)]; rfl)
     | (rw [show k = 11 from (by omega)]; rfl)
     | (rw [show k = 12 from (by omega)]; rfl)
     | (rw [show k = 15 from (by omega)]; rfl)
     | (rw [show k = 16 from (by omega)]; rfl)
     | exact (fieldsK_rest k (by omega)).symm
 refine G_seq ?_
 refine G_region (l := [0, 1]) rfl ?_
 refine G_val rfl rfl rfl rfl (V_eql rfl rfl rfl) ?_
 refine G_val rfl rfl rfl rfl (V_assign rfl rfl) ?_
 refine G_done ?_
 refine G_ifD rfl (fun hc4 => ?_) (fun hc4 => ?_)
 · skip
   refine G_seq ?_
   refine G_region (l := [0]) rfl ?_
   refine G_val rfl rfl rfl rfl (V_assign rfl rfl) ?_
   refine G_done ?_
   refine G_ret (post := []) Tryd.func29 rfl (RVs_cons (RV_tmp rfl) RVs_nil) [] rfl ?_
   dsimp only [packed]
   refine ⟨str_eq ?_, rfl⟩
   first
     | (rw [show k = 1 from (by omega)]; rfl)
     | (rw [show k = 2 from (by omega)]; rfl)
     | (rw [show k = 3 from (by omega)]; rfl)
     | (rw [show k = 4 from (by omega)]; rfl)
     | (rw [show k = 5 from (by omega)]; rfl)
     | (rw [show k = 6 from (by omega)]; rfl)
     | (rw [show k = 7 from (by omega)]; rfl)
     | (rw [show k = 8 from (by omega)]; rfl)
     | (rw [show k = 9 from (by omega)]; rfl)
     | (rw [show k = 10 from (by omega)]; rfl)
     | (rw [show k = 11 from (by omega)]; rfl)
     | (rw [show k = 12 from (by omega)]; rfl)
     | (rw [show k = 15 from (by omega)]; rfl)
     | (rw [show k = 16 from (by omega)]; rfl)
     | exact (fieldsK_rest k (by omega)).symm
 refine G_seq ?_
 refine G_seq ?_
 refine G_region (l := [0, 1]) rfl ?_
 refine G_val rfl rfl rfl rfl (V_eql rfl rfl rfl) ?_
 refine G_val rfl rfl rfl rfl (V_assign rfl rfl) ?_
 refine G_done ?_
 refine G_ifD rfl (fun hc5 => ?_) (fun hc5 => ?_)
 · skip
   refine G_skip ?_
   refine G_ifD rfl (fun hc6 => ?_) (fun hc6 => ?_)
   rotate_left
   · (exfalso; omega)
   refine G_seq ?_
   refine G_region (l := [0]) rfl ?_
   refine G_val rfl rfl rfl rfl (V_assign rfl rfl) ?_
   refine G_done ?_
   refine G_ret (post := []) Tryd.func29 rfl (RVs_cons (RV_tmp rfl) RVs_nil) [] rfl ?_
   dsimp only [packed]
   refine ⟨str_eq ?_, rfl⟩
   first
     | (rw [show k = 1 from (by omega)]; rfl)
     | (rw [show k = 2 from (by omega)]; rfl)
     | (rw [show k = 3 from (by omega)]; rfl)
     | (rw [show k = 4 from (by omega)]; rfl)
     | (rw [show k = 5 from (by omega)]; rfl)
     | (rw [show k = 6 from (by omega)]; rfl)
     | (rw [show k = 7 from (by omega)]; rfl)
     | (rw [show k = 8 from (by omega)]; rfl)
     | (rw [show k = 9 from (by omega)]; rfl)
     | (rw [show k = 10 from (by omega)]; rfl)
     | (rw [show k = 11 from (by omega)]; rfl)
     | (rw [show k = 12 from (by omega)]; rfl)
     | (rw [show k = 15 from (by omega)]; rfl)
     | (rw [show k = 16 from (by omega)]; rfl)
     | exact (fieldsK_rest k (by omega)).symm
 refine G_region (l := [0, 1]) rfl ?_
 refine G_val rfl rfl rfl rfl (V_eql rfl rfl rfl) ?_
 refine G_val rfl rfl rfl rfl (V_assign rfl rfl) ?_
 refine G_done ?_
 refine G_ifD rfl (fun hc6 => ?_) (fun hc6 => ?_)
 · skip
   refine G_seq ?_
   refine G_region (l := [0]) rfl ?_
   refine G_val rfl rfl rfl rfl (V_assign rfl rfl) ?_
   refine G_done ?_
   refine G_ret (post := []) Tryd.func29 rfl (RVs_cons (RV_tmp rfl) RVs_nil) [] rfl ?_
   dsimp only [packed]
   refine ⟨str_eq ?_, rfl⟩
   first
     | (rw [show k = 1 from (by omega)]; rfl)
     | (rw [show k = 2 from (by omega)]; rfl)
     | (rw [show k = 3 from (by omega)]; rfl)
     | (rw [show k = 4 from (by omega)]; rfl)
     | (rw [show k = 5 from (by omega)]; rfl)
     | (rw [show k = 6 from (by omega)]; rfl)
     | (rw [show k = 7 from (by omega)]; rfl)
     | (rw [show k = 8 from (by omega)]; rfl)
     | (rw [show k = 9 from (by omega)]; rfl)
     | (rw [show k = 10 from (by omega)]; rfl)
     | (rw [show k = 11 from (by omega)]; rfl)
     | (rw [show k = 12 from (by omega)]; rfl)
     | (rw [show k = 15 from (by omega)]; rfl)
     | (rw [show k = 16 from (by omega)]; rfl)
     | exact (fieldsK_rest k (by omega)).symm
 refine G_seq ?_
 refine G_region (l := [0, 1]) rfl ?_
 refine G_val rfl rfl rfl rfl (V_eql rfl rfl rfl) ?_
 refine G_val rfl rfl rfl rfl (V_assign rfl rfl) ?_
 refine G_done ?_
 refine G_ifD rfl (fun hc7 => ?_) (fun hc7 => ?_)
 · skip
   refine G_seq ?_
   refine G_region (l := [0]) rfl ?_
   refine G_val rfl rfl rfl rfl (V_assign rfl rfl) ?_
   refine G_done ?_
   refine G_ret (post := []) Tryd.func29 rfl (RVs_cons (RV_tmp rfl) RVs_nil) [] rfl ?_
   dsimp only [packed]
   refine ⟨str_eq ?_, rfl⟩
   first
     | (rw [show k = 1 from (by omega)]; rfl)
     | (rw [show k = 2 from (by omega)]; rfl)
     | (rw [show k = 3 from (by omega)]; rfl)
     | (rw [show k = 4 from (by omega)]; rfl)
     | (rw [show k = 5 from (by omega)]; rfl)
     | (rw [show k = 6 from (by omega)]; rfl)
     | (rw [show k = 7 from (by omega)]; rfl)
     | (rw [show k = 8 from (by omega)]; rfl)
     | (rw [show k = 9 from (by omega)]; rfl)
     | (rw [show k = 10 from (by omega)]; rfl)
     | (rw [show k = 11 from (by omega)]; rfl)
     | (rw [show k = 12 from (by omega)]; rfl)
     | (rw [show k = 15 from (by omega)]; rfl)
     | (rw [show k = 16 from (by omega)]; rfl)
     | exact (fieldsK_rest k (by omega)).symm
 refine G_seq ?_
 refine G_seq ?_
 refine G_region (l := [0, 1]) rfl ?_
 refine G_val rfl rfl rfl rfl (V_eql rfl rfl rfl) ?_
 refine G_val rfl rfl rfl rfl (V_assign rfl rfl) ?_
 refine G_done ?_
 refine G_ifD rfl (fun hc8 => ?_) (fun hc8 => ?_)
 · skip
   refine G_skip ?_
   refine G_ifD rfl (fun hc9 => ?_) (fun hc9 => ?_)
   rotate_left
   · (exfalso; omega)
   refine G_seq ?_
   refine G_region (l := [0]) rfl ?_
   refine G_val rfl rfl rfl rfl (V_assign rfl rfl) ?_
   refine G_done ?_
   refine G_ret (post := []) Tryd.func29 rfl (RVs_cons (RV_tmp rfl) RVs_nil) [] rfl ?_
   dsimp only [packed]
   refine ⟨str_eq ?_, rfl⟩
   first
     | (rw [show k = 1 from (by omega)]; rfl)
     | (rw [show k = 2 from (by omega)]; rfl)
     | (rw [show k = 3 from (by omega)]; rfl)
     | (rw [show k = 4 from (by omega)]; rfl)
     | (rw [show k = 5 from (by omega)]; rfl)
     | (rw [show k = 6 from (by omega)]; rfl)
     | (rw [show k = 7 from (by omega)]; rfl)
     | (rw [show k = 8 from (by omega)]; rfl)
     | (rw [show k = 9 from (by omega)]; rfl)
     | (rw [show k = 10 from (by omega)]; rfl)
     | (rw [show k = 11 from (by omega)]; rfl)
     | (rw [show k = 12 from (by omega)]; rfl)
     | (rw [show k = 15 from (by omega)]; rfl)
     | (rw [show k = 16 from (by omega)]; rfl)
     | exact (fieldsK_rest k (by omega)).symm
 refine G_seq ?_
 refine G_region (l := [0, 1]) rfl ?_
 refine G_val rfl rfl rfl rfl (V_eql rfl rfl rfl) ?_
 refine G_val rfl rfl rfl rfl (V_assign rfl rfl) ?_
 refine G_done ?_
 refine G_ifD rfl (fun hc9 => ?_) (fun hc9 => ?_)
 · skip
   refine G_skip ?_
   refine G_ifD rfl (fun hc10 => ?_) (fun hc10 => ?_)
   rotate_left
   · (exfalso; omega)
   refine G_seq ?_
   refine G_region (l := [0]) rfl ?_
   refine G_val rfl rfl rfl rfl (V_assign rfl rfl) ?_
   refine G_done ?_
   refine G_ret (post := []) Tryd.func29 rfl (RVs_cons (RV_tmp rfl) RVs_nil) [] rfl ?_
   dsimp only [packed]
   refine ⟨str_eq ?_, rfl⟩
   first
     | (rw [show k = 1 from (by omega)]; rfl)
     | (rw [show k = 2 from (by omega)]; rfl)
     | (rw [show k = 3 from (by omega)]; rfl)
     | (rw [show k = 4 from (by omega)]; rfl)
     | (rw [show k = 5 from (by omega)]; rfl)
     | (rw [show k = 6 from (by omega)]; rfl)
     | (rw [show k = 7 from (by omega)]; rfl)
     | (rw [show k = 8 from (by omega)]; rfl)
     | (rw [show k = 9 from (by omega)]; rfl)
     | (rw [show k = 10 from (by omega)]; rfl)
     | (rw [show k = 11 from (by omega)]; rfl)
     | (rw [show k = 12 from (by omega)]; rfl)
     | (rw [show k = 15 from (by omega)]; rfl)
     | (rw [show k = 16 from (by omega)]; rfl)
     | exact (fieldsK_rest k (by omega)).symm
 refine G_region (l := [0, 1]) rfl ?_
 refine G_val rfl rfl rfl rfl (V_eql rfl rfl rfl) ?_
 refine G_val rfl rfl rfl rfl (V_assign rfl rfl) ?_
 refine G_done ?_
 refine G_ifD rfl (fun hc10 => ?_) (fun hc10 => ?_)
 · skip
   refine G_seq ?_
   refine G_region (l := [0]) rfl ?_
   refine G_val rfl rfl rfl rfl (V_assign rfl rfl) ?_
   refine G_done ?_
   refine G_ret (post := []) Tryd.func29 rfl (RVs_cons (RV_tmp rfl) RVs_nil) [] rfl ?_
   dsimp only [packed]
   refine ⟨str_eq ?_, rfl⟩
   first
     | (rw [show k = 1 from (by omega)]; rfl)
     | (rw [show k = 2 from (by omega)]; rfl)
     | (rw [show k = 3 from (by omega)]; rfl)
     | (rw [show k = 4 from (by omega)]; rfl)
     | (rw [show k = 5 from (by omega)]; rfl)
     | (rw [show k = 6 from (by omega)]; rfl)
     | (rw [show k = 7 from (by omega)]; rfl)
     | (rw [show k = 8 from (by omega)]; rfl)
     | (rw [show k = 9 from (by omega)]; rfl)
     | (rw [show k = 10 from (by omega)]; rfl)
     | (rw [show k = 11 from (by omega)]; rfl)
     | (rw [show k = 12 from (by omega)]; rfl)
     | (rw [show k = 15 from (by omega)]; rfl)
     | (rw [show k = 16 from (by omega)]; rfl)
     | exact (fieldsK_rest k (by omega)).symm
 refine G_seq ?_
 refine G_region (l := [0, 1]) rfl ?_
 refine G_val rfl rfl rfl rfl (V_eql rfl rfl rfl) ?_
 refine G_val rfl rfl rfl rfl (V_assign rfl rfl) ?_
 refine G_done ?_
 refine G_ifD rfl (fun hc11 => ?_) (fun hc11 => ?_)
 · skip
   refine G_seq ?_
   refine G_region (l := [0]) rfl ?_
   refine G_val rfl rfl rfl rfl (V_assign rfl rfl) ?_
   refine G_done ?_
   refine G_ret (post := []) Tryd.func29 rfl (RVs_cons (RV_tmp rfl) RVs_nil) [] rfl ?_
   dsimp only [packed]
   refine ⟨str_eq ?_, rfl⟩
   first
     | (rw [show k = 1 from (by omega)]; rfl)
     | (rw [show k = 2 from (by omega)]; rfl)
     | (rw [show k = 3 from (by omega)]; rfl)
     | (rw [show k = 4 from (by omega)]; rfl)
     | (rw [show k = 5 from (by omega)]; rfl)
     | (rw [show k = 6 from (by omega)]; rfl)
     | (rw [show k = 7 from (by omega)]; rfl)
     | (rw [show k = 8 from (by omega)]; rfl)
     | (rw [show k = 9 from (by omega)]; rfl)
     | (rw [show k = 10 from (by omega)]; rfl)
     | (rw [show k = 11 from (by omega)]; rfl)
     | (rw [show k = 12 from (by omega)]; rfl)
     | (rw [show k = 15 from (by omega)]; rfl)
     | (rw [show k = 16 from (by omega)]; rfl)
     | exact (fieldsK_rest k (by omega)).symm
 refine G_seq ?_
 refine G_region (l := [0, 1]) rfl ?_
 refine G_val rfl rfl rfl rfl (V_eql rfl rfl rfl) ?_
 refine G_val rfl rfl rfl rfl (V_assign rfl rfl) ?_
 refine G_done ?_
 refine G_ifD rfl (fun hc12 => ?_) (fun hc12 => ?_)
 · skip
   refine G_seq ?_
   refine G_region (l := [0]) rfl ?_
   refine G_val rfl rfl rfl rfl (V_assign rfl rfl) ?_
   refine G_done ?_
   refine G_ret (post := []) Tryd.func29 rfl (RVs_cons (RV_tmp rfl) RVs_nil) [] rfl ?_
   dsimp only [packed]
   refine ⟨str_eq ?_, rfl⟩
   first
     | (rw [show k = 1 from (by omega)]; rfl)
     | (rw [show k = 2 from (by omega)]; rfl)
     | (rw [show k = 3 from (by omega)]; rfl)
     | (rw [show k = 4 from (by omega)]; rfl)
     | (rw [show k = 5 from (by omega)]; rfl)
     | (rw [show k = 6 from (by omega)]; rfl)
     | (rw [show k = 7 from (by omega)]; rfl)
     | (rw [show k = 8 from (by omega)]; rfl)
     | (rw [show k = 9 from (by omega)]; rfl)
     | (rw [show k = 10 from (by omega)]; rfl)
     | (rw [show k = 11 from (by omega)]; rfl)
     | (rw [show k = 12 from (by omega)]; rfl)
     | (rw [show k = 15 from (by omega)]; rfl)
     | (rw [show k = 16 from (by omega)]; rfl)
     | exact (fieldsK_rest k (by omega)).symm
 refine G_seq ?_
 refine G_region (l := [0, 1]) rfl ?_
 refine G_val rfl rfl rfl rfl (V_eql rfl rfl rfl) ?_
 refine G_val rfl rfl rfl rfl (V_assign rfl rfl) ?_
 refine G_done ?_
 refine G_ifD rfl (fun hc13 => ?_) (fun hc13 => ?_)
 · skip
   refine G_seq ?_
   refine G_region (l := [0]) rfl ?_
   refine G_val rfl rfl rfl rfl (V_assign rfl rfl) ?_
   refine G_done ?_
   refine G_ret (post := []) Tryd.func29 rfl (RVs_cons (RV_tmp rfl) RVs_nil) [] rfl ?_
   dsimp only [packed]
   refine ⟨str_eq ?_, rfl⟩
   first
     | (rw [show k = 1 from (by omega)]; rfl)
     | (rw [show k = 2 from (by omega)]; rfl)
     | (rw [show k = 3 from (by omega)]; rfl)
     | (rw [show k = 4 from (by omega)]; rfl)
     | (rw [show k = 5 from (by omega)]; rfl)
     | (rw [show k = 6 from (by omega)]; rfl)
     | (rw [show k = 7 from (by omega)]; rfl)
     | (rw [show k = 8 from (by omega)]; rfl)
     | (rw [show k = 9 from (by omega)]; rfl)
     | (rw [show k = 10 from (by omega)]; rfl)
     | (rw [show k = 11 from (by omega)]; rfl)
     | (rw [show k = 12 from (by omega)]; rfl)
     | (rw [show k = 15 from (by omega)]; rfl)
     | (rw [show k = 16 from (by omega)]; rfl)
     | exact (fieldsK_rest k (by omega)).symm
 refine G_seq ?_
 refine G_region (l := [0, 1]) rfl ?_
 refine G_val rfl rfl rfl rfl (V_eql rfl rfl rfl) ?_
 refine G_val rfl rfl rfl rfl (V_assign rfl rfl) ?_
 refine G_done ?_
 refine G_ifD rfl (fun hc14 => ?_) (fun hc14 => ?_)
 · skip
   refine G_seq ?_
   refine G_region (l := [0]) rfl ?_
   refine G_val rfl rfl rfl rfl (V_assign rfl rfl) ?_
   refine G_done ?_
   refine G_ret (post := []) Tryd.func29 rfl (RVs_cons (RV_tmp rfl) RVs_nil) [] rfl ?_
   dsimp only [packed]
   refine ⟨str_eq ?_, rfl⟩
   first
     | (rw [show k = 1 from (by omega)]; rfl)
     | (rw [show k = 2 from (by omega)]; rfl)
     | (rw [show k = 3 from (by omega)]; rfl)
     | (rw [show k = 4 from (by omega)]; rfl)
     | (rw [show k = 5 from (by omega)]; rfl)
     | (rw [show k = 6 from (by omega)]; rfl)
     | (rw [show k = 7 from (by omega)]; rfl)
     | (rw [show k = 8 from (by omega)]; rfl)
     | (rw [show k = 9 from (by omega)]; rfl)
     | (rw [show k = 10 from (by omega)]; rfl)
     | (rw [show k = 11 from (by omega)]; rfl)
     | (rw [show k = 12 from (by omega)]; rfl)
     | (rw [show k = 15 from (by omega)]; rfl)
     | (rw [show k = 16 from (by omega)]; rfl)
     | exact (fieldsK_rest k (by omega)).symm
 refine G_skip ?_
 refine G_inBlock ?_
 refine G_seq ?_
 refine G_region (l := [0]) rfl ?_
 refine G_val rfl rfl rfl rfl (V_assign rfl rfl) ?_
 refine G_done ?_
 refine G_ret (post := []) Tryd.func29 rfl (RVs_cons (RV_tmp rfl) RVs_nil) [] rfl ?_
 dsimp only [packed]
 refine ⟨str_eq ?_, rfl⟩
 first
   | (rw [show k = 1 from (by omega)]; rfl)
   | (rw [show k = 2 from (by omega)]; rfl)
   | (rw [show k = 3 from (by omega)]; rfl)
   | (rw [show k = 4 from (by omega)]; rfl)
   | (rw [show k = 5 from (by omega)]; rfl)
   | (rw [show k = 6 from (by omega)]; rfl)
   | (rw [show k = 7 from (by omega)]; rfl)
   | (rw [show k = 8 from (by omega)]; rfl)
   | (rw [show k = 9 from (by omega)]; rfl)
   | (rw [show k = 10 from (by omega)]; rfl)
   | (rw [show k = 11 from (by omega)]; rfl)
   | (rw [show k = 12 from (by omega)]; rfl)
   | (rw [show k = 15 from (by omega)]; rfl)
   | (rw [show k = 16 from (by omega)]; rfl)
   | exact (fieldsK_rest k (by omega)).symm

set_option maxRecDepth 100000 in
set_option maxHeartbeats 1000000 in
theorem rmsg_has (k c : Int) :
    Ct Tryd.prog 33 [.int .i64 k, .int .u8 c] [] [] fun v post => v = .bool (hasI k c) ∧ post = [] := by
 have hfl := fieldsK_len k
 refine ct_of Tryd.func33 rfl rfl (fun w0 => ?_)
 show G _ _ [(0, _), (1, _)] _ _
 refine G_seq ?_
 refine G_region (l := [0]) rfl ?_
 refine G_val rfl rfl rfl rfl (V_assign rfl rfl) ?_
 refine G_done ?_
 refine G_seq ?_
 refine G_region (l := [0, 1, 2]) rfl ?_
 refine G_val rfl rfl rfl rfl (V_move rfl rfl) ?_
 refine G_call (L2 := []) rfl rfl rfl rfl rfl rfl Tryd.call29 (rmsg_fields _) [] [] rfl rfl ?_
 rintro v post ⟨rfl, rfl⟩
 refine G_val rfl rfl rfl rfl (V_assign rfl rfl) ?_
 refine G_done ?_
 refine G_seq ?_
 refine G_seq ?_
 refine G_region (l := [0]) rfl ?_
 refine G_val rfl rfl rfl rfl (V_assign rfl rfl) ?_
 refine G_done ?_
 refine G_block ?_
 refine G_sub ?he3 [] ?hl3 (G_loop (X := Nat) (fun j => j ≤ (fieldsK k).length ∧ ((fieldsK k).take j).any (fun x => decide ((x.toNat : Int) = c)) = false) (fun j => (fieldsK k).length - j) (fun j => [(1, .int .u8 c), (5, .string (bs (fieldsK k))), (6, .int .i64 (j : Int))]) (fun j => []) ?round3 0 ?h03)
 case he3 => exact (And.intro rfl (And.intro rfl (And.intro rfl trivial)))
 case hl3 => exact ⟨_, rfl⟩
 case h03 => exact ⟨Nat.zero_le _, rfl⟩
 case round3 =>
  intro j hJ ih
  try dsimp only at hJ ih
  obtain ⟨hj, hall⟩ := hJ
  refine G_seq ?_
  refine G_seq ?_
  refine G_region (l := [0, 1, 2, 3]) rfl ?_
  refine G_val rfl rfl rfl rfl (V_move rfl rfl) ?_
  refine G_val rfl rfl rfl rfl (V_move rfl rfl) ?_
  refine G_val rfl rfl rfl rfl (V_slen rfl rfl Tryd.underlying9 rfl) ?_
  refine G_val rfl rfl rfl rfl (V_lss rfl rfl rfl) ?_
  refine G_done ?_
  refine G_ifD rfl (fun hc1 => ?_) (fun hc1 => ?_)
  · skip
    refine G_skip ?_
    refine G_seq ?_
    refine G_block ?_
    refine G_seq ?_
    refine G_region (l := [0, 1, 2, 3, 4]) rfl ?_
    refine G_val rfl rfl rfl rfl (V_move rfl rfl) ?_
    refine G_val rfl rfl rfl rfl (V_move rfl rfl) ?_
    first
      | refine G_val rfl rfl rfl rfl (V_sindexN rfl Tryd.underlying9 rfl rfl rfl (by omega)) ?_
      | refine G_val rfl rfl rfl rfl (V_sindexD rfl Tryd.underlying9 rfl rfl (by omega) (by first | omega | (simp [rqCells]; done) | (simp [rqCells]; omega) | (simp [rqCells] at *; omega))) ?_
    refine G_val rfl rfl rfl rfl (V_move rfl rfl) ?_
    refine G_val rfl rfl rfl rfl (V_eql rfl rfl rfl) ?_
    refine G_done ?_
    refine G_ifD rfl (fun hc2 => ?_) (fun hc2 => ?_)
    · skip
      refine G_seq ?_
      refine G_region (l := [0]) rfl ?_
      refine G_val rfl rfl rfl rfl (V_assign rfl rfl) ?_
      refine G_done ?_
      refine G_ret (post := []) Tryd.func33 rfl (RVs_cons (RV_tmp rfl) RVs_nil) [] rfl ?_
      dsimp only [packed]
      first | exact ⟨bool_eq (has_yes (j := j) (by omega) (by assumption)).symm, rfl⟩ | exact ⟨bool_eq (has_no (j := j) (by omega) hall).symm, rfl⟩
    refine G_skip ?_
    refine G_inBlock ?_
    refine G_region (l := [0, 1, 2]) rfl ?_
    refine G_val rfl rfl rfl rfl (V_move rfl rfl) ?_
    first
      | refine G_val rfl rfl rfl rfl ((V_add rfl rfl rfl).int (wrap_i64 (by omega))) ?_
      | refine G_val rfl rfl rfl rfl (V_add rfl rfl rfl) ?_
    refine G_val rfl rfl rfl rfl (V_assign rfl rfl) ?_
    refine G_done ?_
    refine G_sub ?_ [] ?_ (ih (j + 1) ?_ ?_)
    · (refine (And.intro ?_ (And.intro ?_ (And.intro ?_ trivial))) <;> first | rfl | exact slot_int (by omega) | exact slot_int (by simp))
    · exact ⟨_, rfl⟩
    · exact ⟨by omega, has_next (by omega) hall (by assumption)⟩
    · (first | omega | (dsimp only; omega))
  refine G_exit rfl ?_
  refine G_seq ?_
  refine G_region (l := [0]) rfl ?_
  refine G_val rfl rfl rfl rfl (V_assign rfl rfl) ?_
  refine G_done ?_
  refine G_ret (post := []) Tryd.func33 rfl (RVs_cons (RV_tmp rfl) RVs_nil) [] rfl ?_
  dsimp only [packed]
  first | exact ⟨bool_eq (has_yes (j := j) (by omega) (by assumption)).symm, rfl⟩ | exact ⟨bool_eq (has_no (j := j) (by omega) hall).symm, rfl⟩

set_option maxRecDepth 100000 in
set_option maxHeartbeats 1000000 in
theorem rmsg_text (k c : Int) (s : List UInt8) :
    Ct Tryd.prog 31 [.int .i64 k, .int .u8 c, .string (bs s)] [] [] fun v post => v = .string (bs (selT (hasI k c) s)) ∧ post = [] := by
 refine ct_of Tryd.func31 rfl rfl (fun w0 => ?_)
 show G _ _ [(0, _), (1, _), (2, _)] _ _
 refine G_seq ?_
 refine G_region (l := [0]) rfl ?_
 refine G_val rfl rfl rfl rfl (V_assign rfl rfl) ?_
 refine G_done ?_
 refine G_seq ?_
 refine G_seq ?_
 refine G_region (l := [0, 1, 2]) rfl ?_
 refine G_val rfl rfl rfl rfl (V_move rfl rfl) ?_
 refine G_val rfl rfl rfl rfl (V_move rfl rfl) ?_
 refine G_call (L2 := []) rfl rfl rfl rfl rfl rfl Tryd.call33 (rmsg_has _ _) [] [] rfl rfl ?_
 rintro v post ⟨rfl, rfl⟩
 refine G_done ?_
 refine G_if rfl (fun hc1 => ?_) (fun hc1 => ?_)
 · skip
   refine G_seq ?_
   refine G_region (l := [0, 1]) rfl ?_
   refine G_val rfl rfl rfl rfl (V_move rfl rfl) ?_
   refine G_val rfl rfl rfl rfl (V_assign rfl rfl) ?_
   refine G_done ?_
   refine G_ret (post := []) Tryd.func31 rfl (RVs_cons (RV_tmp rfl) RVs_nil) [] rfl ?_
   dsimp only [packed]
   refine ⟨str_eq ?_, rfl⟩; simp [selT, *]
 refine G_skip ?_
 refine G_seq ?_
 refine G_region (l := [0]) rfl ?_
 refine G_val rfl rfl rfl rfl (V_assign rfl rfl) ?_
 refine G_done ?_
 refine G_ret (post := []) Tryd.func31 rfl (RVs_cons (RV_tmp rfl) RVs_nil) [] rfl ?_
 dsimp only [packed]
 refine ⟨str_eq ?_, rfl⟩; simp [selT, *]

set_option maxRecDepth 100000 in
set_option maxHeartbeats 1000000 in
theorem rmsg_number (k c n : Int) :
    Ct Tryd.prog 32 [.int .i64 k, .int .u8 c, .int .i64 n] [] [] fun v post => v = .int .i64 (selN (hasI k c) n) ∧ post = [] := by
 refine ct_of Tryd.func32 rfl rfl (fun w0 => ?_)
 show G _ _ [(0, _), (1, _), (2, _)] _ _
 refine G_seq ?_
 refine G_region (l := [0]) rfl ?_
 refine G_val rfl rfl rfl rfl (V_assign rfl rfl) ?_
 refine G_done ?_
 refine G_seq ?_
 refine G_seq ?_
 refine G_region (l := [0, 1, 2]) rfl ?_
 refine G_val rfl rfl rfl rfl (V_move rfl rfl) ?_
 refine G_val rfl rfl rfl rfl (V_move rfl rfl) ?_
 refine G_call (L2 := []) rfl rfl rfl rfl rfl rfl Tryd.call33 (rmsg_has _ _) [] [] rfl rfl ?_
 rintro v post ⟨rfl, rfl⟩
 refine G_done ?_
 refine G_if rfl (fun hc1 => ?_) (fun hc1 => ?_)
 · skip
   refine G_seq ?_
   refine G_region (l := [0, 1]) rfl ?_
   refine G_val rfl rfl rfl rfl (V_move rfl rfl) ?_
   refine G_val rfl rfl rfl rfl (V_assign rfl rfl) ?_
   refine G_done ?_
   refine G_ret (post := []) Tryd.func32 rfl (RVs_cons (RV_tmp rfl) RVs_nil) [] rfl ?_
   dsimp only [packed]
   refine ⟨int_eq ?_, rfl⟩; simp [selN, *]
 refine G_skip ?_
 refine G_seq ?_
 refine G_region (l := [0]) rfl ?_
 refine G_val rfl rfl rfl rfl (V_assign rfl rfl) ?_
 refine G_done ?_
 refine G_ret (post := []) Tryd.func32 rfl (RVs_cons (RV_tmp rfl) RVs_nil) [] rfl ?_
 dsimp only [packed]
 refine ⟨int_eq ?_, rfl⟩; simp [selN, *]

set_option maxRecDepth 100000 in
set_option maxHeartbeats 4000000 in
theorem rmsg_clean (q : Rq) :
    Ct Tryd.prog 14 [.agg (rqCells q).toArray] [] [] fun v post => v = .agg (rqCells (refRq q)).toArray ∧ post = [] := by
 refine ct_of Tryd.func14 rfl rfl (fun w0 => ?_)
 show G _ _ [(0, _)] _ _
 refine G_seq ?_
 refine G_region (l := [0, 1]) rfl ?_
 refine G_new rfl rfl rfl rfl (N_boxA rfl rfl) (fun b1 => ?_)
 refine G_new rfl rfl rfl rfl (N_allocA rfl infRMsgW_27 rfl) (fun b2 => ?_)
 refine G_done ?_
 refine G_seq ?_
 refine G_region (l := [0, 1, 2]) rfl ?_
 refine G_val rfl rfl rfl rfl (V_fieldAddr (fo := 0) rfl Tryd.underlying27 rfl infRMsgW_3 rfl rfl rfl) ?_
 refine G_val rfl rfl rfl rfl (V_load1 rfl rfl (mem_at 1 rfl) rfl Tryd.underlying3 rfl) ?_
 refine G_val rfl rfl rfl rfl (V_assign rfl rfl) ?_
 refine G_done ?_
 refine G_seq ?_
 refine G_region (l := [0, 1, 2, 3]) rfl ?_
 refine G_val rfl rfl rfl rfl (V_move rfl rfl) ?_
 refine G_val rfl rfl rfl rfl (V_buildS (cs := [_, _, _, _, _, _, _, _, _, _, _, _, _, _, _, _, _]) rfl Tryd.underlying27 infRMsgW_27 rfl plcRMsgW_27 rfl rfl rfl) ?_
 refine G_new rfl rfl rfl rfl (N_allocA rfl infRMsgW_27 rfl) (fun b4 => ?_)
 refine G_put (l1 := []) (L' := [_, _, _]) rfl rfl rfl rfl (P_storeA (s := 17) rfl rfl rfl (mem_at 0 rfl) (by first | rfl | (simp [bcells_length, rqCells]; done) | (simp [bcells_length, rqCells]; omega) | (simp [bcells_length, *, rqCells]; done)) infRMsgW_27 rfl (by first | rfl | (simp [bcells_length, rqCells]; done) | (simp [bcells_length, rqCells]; omega) | (simp [bcells_length, *, rqCells]; done)) (by first | rfl | exact bcells_all _ | (simp [Value.oneCell', rqCells]; done) | (simp [Value.oneCell', *, rqCells]; done))) rfl ?_
 refine G_done ?_
 refine G_seq ?_
 show G _ _ _ [(some b4, .cells (rqCells (rqBare q.kind)).toArray 27 (0, 0)), _, _] _
 refine G_region (l := [0, 1, 2, 3, 4, 5]) rfl ?_
 refine G_val rfl rfl rfl rfl (V_move rfl rfl) ?_
 refine G_val rfl rfl rfl rfl (V_fieldAddr (fo := 1) rfl Tryd.underlying27 rfl infRMsgW_9 rfl rfl rfl) ?_
 refine G_val rfl rfl rfl rfl (V_load1 rfl rfl (mem_at 2 rfl) rfl Tryd.underlying9 rfl) ?_
 refine G_call (L2 := [_, _, _]) rfl rfl rfl rfl rfl rfl Tryd.call31 (rmsg_text _ _ _) [] [] rfl rfl ?_
 rintro v post ⟨rfl, rfl⟩
 show G _ _ _ [_, _, _] _
 refine G_val rfl rfl rfl rfl (V_fieldAddr (fo := 1) rfl Tryd.underlying27 rfl infRMsgW_9 rfl rfl rfl) ?_
 refine G_put (l1 := []) (L' := [_, _, _]) rfl rfl rfl rfl (P_store1 rfl rfl rfl (mem_at 0 rfl) (by first | exact of_decide_eq_true rfl | omega | (simp [rqCells]; done) | (simp [rqCells]; omega) | (simp [rqCells] at *; omega)) infRMsgW_9 rfl rfl) rfl ?_
 rw [rqCells_setText _ 1 (by omega) (by omega)]
 refine G_done ?_
 refine G_seq ?_
 refine G_region (l := [0, 1, 2, 3, 4, 5]) rfl ?_
 refine G_val rfl rfl rfl rfl (V_move rfl rfl) ?_
 refine G_val rfl rfl rfl rfl (V_fieldAddr (fo := 2) rfl Tryd.underlying27 rfl infRMsgW_9 rfl rfl rfl) ?_
 refine G_val rfl rfl rfl rfl (V_load1 rfl rfl (mem_at 2 rfl) rfl Tryd.underlying9 rfl) ?_
 refine G_call (L2 := [_, _, _]) rfl rfl rfl rfl rfl rfl Tryd.call31 (rmsg_text _ _ _) [] [] rfl rfl ?_
 rintro v post ⟨rfl, rfl⟩
 show G _ _ _ [_, _, _] _
 refine G_val rfl rfl rfl rfl (V_fieldAddr (fo := 2) rfl Tryd.underlying27 rfl infRMsgW_9 rfl rfl rfl) ?_
 refine G_put (l1 := []) (L' := [_, _, _]) rfl rfl rfl rfl (P_store1 rfl rfl rfl (mem_at 0 rfl) (by first | exact of_decide_eq_true rfl | omega | (simp [rqCells]; done) | (simp [rqCells]; omega) | (simp [rqCells] at *; omega)) infRMsgW_9 rfl rfl) rfl ?_
 rw [rqCells_setText _ 2 (by omega) (by omega)]
 refine G_done ?_
 refine G_seq ?_
 refine G_region (l := [0, 1, 2, 3, 4, 5]) rfl ?_
 refine G_val rfl rfl rfl rfl (V_move rfl rfl) ?_
 refine G_val rfl rfl rfl rfl (V_fieldAddr (fo := 3) rfl Tryd.underlying27 rfl infRMsgW_9 rfl rfl rfl) ?_
 refine G_val rfl rfl rfl rfl (V_load1 rfl rfl (mem_at 2 rfl) rfl Tryd.underlying9 rfl) ?_
 refine G_call (L2 := [_, _, _]) rfl rfl rfl rfl rfl rfl Tryd.call31 (rmsg_text _ _ _) [] [] rfl rfl ?_
 rintro v post ⟨rfl, rfl⟩
 show G _ _ _ [_, _, _] _
 refine G_val rfl rfl rfl rfl (V_fieldAddr (fo := 3) rfl Tryd.underlying27 rfl infRMsgW_9 rfl rfl rfl) ?_
 refine G_put (l1 := []) (L' := [_, _, _]) rfl rfl rfl rfl (P_store1 rfl rfl rfl (mem_at 0 rfl) (by first | exact of_decide_eq_true rfl | omega | (simp [rqCells]; done) | (simp [rqCells]; omega) | (simp [rqCells] at *; omega)) infRMsgW_9 rfl rfl) rfl ?_
 rw [rqCells_setText _ 3 (by omega) (by omega)]
 refine G_done ?_
 refine G_seq ?_
 refine G_region (l := [0, 1, 2, 3, 4, 5]) rfl ?_
 refine G_val rfl rfl rfl rfl (V_move rfl rfl) ?_
 refine G_val rfl rfl rfl rfl (V_fieldAddr (fo := 4) rfl Tryd.underlying27 rfl infRMsgW_9 rfl rfl rfl) ?_
 refine G_val rfl rfl rfl rfl (V_load1 rfl rfl (mem_at 2 rfl) rfl Tryd.underlying9 rfl) ?_
 refine G_call (L2 := [_, _, _]) rfl rfl rfl rfl rfl rfl Tryd.call31 (rmsg_text _ _ _) [] [] rfl rfl ?_
 rintro v post ⟨rfl, rfl⟩
 show G _ _ _ [_, _, _] _
 refine G_val rfl rfl rfl rfl (V_fieldAddr (fo := 4) rfl Tryd.underlying27 rfl infRMsgW_9 rfl rfl rfl) ?_
 refine G_put (l1 := []) (L' := [_, _, _]) rfl rfl rfl rfl (P_store1 rfl rfl rfl (mem_at 0 rfl) (by first | exact of_decide_eq_true rfl | omega | (simp [rqCells]; done) | (simp [rqCells]; omega) | (simp [rqCells] at *; omega)) infRMsgW_9 rfl rfl) rfl ?_
 rw [rqCells_setText _ 4 (by omega) (by omega)]
 refine G_done ?_
 refine G_seq ?_
 refine G_region (l := [0, 1, 2, 3, 4, 5]) rfl ?_
 refine G_val rfl rfl rfl rfl (V_move rfl rfl) ?_
 refine G_val rfl rfl rfl rfl (V_fieldAddr (fo := 5) rfl Tryd.underlying27 rfl infRMsgW_9 rfl rfl rfl) ?_
 refine G_val rfl rfl rfl rfl (V_load1 rfl rfl (mem_at 2 rfl) rfl Tryd.underlying9 rfl) ?_
 refine G_call (L2 := [_, _, _]) rfl rfl rfl rfl rfl rfl Tryd.call31 (rmsg_text _ _ _) [] [] rfl rfl ?_
 rintro v post ⟨rfl, rfl⟩
 show G _ _ _ [_, _, _] _
 refine G_val rfl rfl rfl rfl (V_fieldAddr (fo := 5) rfl Tryd.underlying27 rfl infRMsgW_9 rfl rfl rfl) ?_
 refine G_put (l1 := []) (L' := [_, _, _]) rfl rfl rfl rfl (P_store1 rfl rfl rfl (mem_at 0 rfl) (by first | exact of_decide_eq_true rfl | omega | (simp [rqCells]; done) | (simp [rqCells]; omega) | (simp [rqCells] at *; omega)) infRMsgW_9 rfl rfl) rfl ?_
 rw [rqCells_setText _ 5 (by omega) (by omega)]
 refine G_done ?_
 refine G_seq ?_
 refine G_region (l := [0, 1, 2, 3, 4, 5]) rfl ?_
 refine G_val rfl rfl rfl rfl (V_move rfl rfl) ?_
 refine G_val rfl rfl rfl rfl (V_fieldAddr (fo := 6) rfl Tryd.underlying27 rfl infRMsgW_9 rfl rfl rfl) ?_
 refine G_val rfl rfl rfl rfl (V_load1 rfl rfl (mem_at 2 rfl) rfl Tryd.underlying9 rfl) ?_
 refine G_call (L2 := [_, _, _]) rfl rfl rfl rfl rfl rfl Tryd.call31 (rmsg_text _ _ _) [] [] rfl rfl ?_
 rintro v post ⟨rfl, rfl⟩
 show G _ _ _ [_, _, _] _
 refine G_val rfl rfl rfl rfl (V_fieldAddr (fo := 6) rfl Tryd.underlying27 rfl infRMsgW_9 rfl rfl rfl) ?_
 refine G_put (l1 := []) (L' := [_, _, _]) rfl rfl rfl rfl (P_store1 rfl rfl rfl (mem_at 0 rfl) (by first | exact of_decide_eq_true rfl | omega | (simp [rqCells]; done) | (simp [rqCells]; omega) | (simp [rqCells] at *; omega)) infRMsgW_9 rfl rfl) rfl ?_
 rw [rqCells_setText _ 6 (by omega) (by omega)]
 refine G_done ?_
 refine G_seq ?_
 refine G_region (l := [0, 1, 2, 3, 4, 5]) rfl ?_
 refine G_val rfl rfl rfl rfl (V_move rfl rfl) ?_
 refine G_val rfl rfl rfl rfl (V_fieldAddr (fo := 7) rfl Tryd.underlying27 rfl infRMsgW_3 rfl rfl rfl) ?_
 refine G_val rfl rfl rfl rfl (V_load1 rfl rfl (mem_at 2 rfl) rfl Tryd.underlying3 rfl) ?_
 refine G_call (L2 := [_, _, _]) rfl rfl rfl rfl rfl rfl Tryd.call32 (rmsg_number _ _ _) [] [] rfl rfl ?_
 rintro v post ⟨rfl, rfl⟩
 show G _ _ _ [_, _, _] _
 refine G_val rfl rfl rfl rfl (V_fieldAddr (fo := 7) rfl Tryd.underlying27 rfl infRMsgW_3 rfl rfl rfl) ?_
 refine G_put (l1 := []) (L' := [_, _, _]) rfl rfl rfl rfl (P_store1 rfl rfl rfl (mem_at 0 rfl) (by first | exact of_decide_eq_true rfl | omega | (simp [rqCells]; done) | (simp [rqCells]; omega) | (simp [rqCells] at *; omega)) infRMsgW_3 rfl rfl) rfl ?_
 rw [rqCells_setNum _ 7 (by omega) (by omega)]
 refine G_done ?_
 refine G_seq ?_
 refine G_region (l := [0, 1, 2, 3, 4, 5]) rfl ?_
 refine G_val rfl rfl rfl rfl (V_move rfl rfl) ?_
 refine G_val rfl rfl rfl rfl (V_fieldAddr (fo := 8) rfl Tryd.underlying27 rfl infRMsgW_3 rfl rfl rfl) ?_
 refine G_val rfl rfl rfl rfl (V_load1 rfl rfl (mem_at 2 rfl) rfl Tryd.underlying3 rfl) ?_
 refine G_call (L2 := [_, _, _]) rfl rfl rfl rfl rfl rfl Tryd.call32 (rmsg_number _ _ _) [] [] rfl rfl ?_
 rintro v post ⟨rfl, rfl⟩
 show G _ _ _ [_, _, _] _
 refine G_val rfl rfl rfl rfl (V_fieldAddr (fo := 8) rfl Tryd.underlying27 rfl infRMsgW_3 rfl rfl rfl) ?_
 refine G_put (l1 := []) (L' := [_, _, _]) rfl rfl rfl rfl (P_store1 rfl rfl rfl (mem_at 0 rfl) (by first | exact of_decide_eq_true rfl | omega | (simp [rqCells]; done) | (simp [rqCells]; omega) | (simp [rqCells] at *; omega)) infRMsgW_3 rfl rfl) rfl ?_
 rw [rqCells_setNum _ 8 (by omega) (by omega)]
 refine G_done ?_
 refine G_seq ?_
 refine G_region (l := [0, 1, 2, 3, 4, 5]) rfl ?_
 refine G_val rfl rfl rfl rfl (V_move rfl rfl) ?_
 refine G_val rfl rfl rfl rfl (V_fieldAddr (fo := 9) rfl Tryd.underlying27 rfl infRMsgW_3 rfl rfl rfl) ?_
 refine G_val rfl rfl rfl rfl (V_load1 rfl rfl (mem_at 2 rfl) rfl Tryd.underlying3 rfl) ?_
 refine G_call (L2 := [_, _, _]) rfl rfl rfl rfl rfl rfl Tryd.call32 (rmsg_number _ _ _) [] [] rfl rfl ?_
 rintro v post ⟨rfl, rfl⟩
 show G _ _ _ [_, _, _] _
 refine G_val rfl rfl rfl rfl (V_fieldAddr (fo := 9) rfl Tryd.underlying27 rfl infRMsgW_3 rfl rfl rfl) ?_
 refine G_put (l1 := []) (L' := [_, _, _]) rfl rfl rfl rfl (P_store1 rfl rfl rfl (mem_at 0 rfl) (by first | exact of_decide_eq_true rfl | omega | (simp [rqCells]; done) | (simp [rqCells]; omega) | (simp [rqCells] at *; omega)) infRMsgW_3 rfl rfl) rfl ?_
 rw [rqCells_setNum _ 9 (by omega) (by omega)]
 refine G_done ?_
 refine G_seq ?_
 refine G_region (l := [0, 1, 2, 3, 4, 5]) rfl ?_
 refine G_val rfl rfl rfl rfl (V_move rfl rfl) ?_
 refine G_val rfl rfl rfl rfl (V_fieldAddr (fo := 10) rfl Tryd.underlying27 rfl infRMsgW_3 rfl rfl rfl) ?_
 refine G_val rfl rfl rfl rfl (V_load1 rfl rfl (mem_at 2 rfl) rfl Tryd.underlying3 rfl) ?_
 refine G_call (L2 := [_, _, _]) rfl rfl rfl rfl rfl rfl Tryd.call32 (rmsg_number _ _ _) [] [] rfl rfl ?_
 rintro v post ⟨rfl, rfl⟩
 show G _ _ _ [_, _, _] _
 refine G_val rfl rfl rfl rfl (V_fieldAddr (fo := 10) rfl Tryd.underlying27 rfl infRMsgW_3 rfl rfl rfl) ?_
 refine G_put (l1 := []) (L' := [_, _, _]) rfl rfl rfl rfl (P_store1 rfl rfl rfl (mem_at 0 rfl) (by first | exact of_decide_eq_true rfl | omega | (simp [rqCells]; done) | (simp [rqCells]; omega) | (simp [rqCells] at *; omega)) infRMsgW_3 rfl rfl) rfl ?_
 rw [rqCells_setNum _ 10 (by omega) (by omega)]
 refine G_done ?_
 refine G_seq ?_
 refine G_region (l := [0, 1, 2, 3, 4, 5]) rfl ?_
 refine G_val rfl rfl rfl rfl (V_move rfl rfl) ?_
 refine G_val rfl rfl rfl rfl (V_fieldAddr (fo := 11) rfl Tryd.underlying27 rfl infRMsgW_3 rfl rfl rfl) ?_
 refine G_val rfl rfl rfl rfl (V_load1 rfl rfl (mem_at 2 rfl) rfl Tryd.underlying3 rfl) ?_
 refine G_call (L2 := [_, _, _]) rfl rfl rfl rfl rfl rfl Tryd.call32 (rmsg_number _ _ _) [] [] rfl rfl ?_
 rintro v post ⟨rfl, rfl⟩
 show G _ _ _ [_, _, _] _
 refine G_val rfl rfl rfl rfl (V_fieldAddr (fo := 11) rfl Tryd.underlying27 rfl infRMsgW_3 rfl rfl rfl) ?_
 refine G_put (l1 := []) (L' := [_, _, _]) rfl rfl rfl rfl (P_store1 rfl rfl rfl (mem_at 0 rfl) (by first | exact of_decide_eq_true rfl | omega | (simp [rqCells]; done) | (simp [rqCells]; omega) | (simp [rqCells] at *; omega)) infRMsgW_3 rfl rfl) rfl ?_
 rw [rqCells_setNum _ 11 (by omega) (by omega)]
 refine G_done ?_
 refine G_seq ?_
 refine G_region (l := [0, 1, 2, 3, 4, 5]) rfl ?_
 refine G_val rfl rfl rfl rfl (V_move rfl rfl) ?_
 refine G_val rfl rfl rfl rfl (V_fieldAddr (fo := 12) rfl Tryd.underlying27 rfl infRMsgW_3 rfl rfl rfl) ?_
 refine G_val rfl rfl rfl rfl (V_load1 rfl rfl (mem_at 2 rfl) rfl Tryd.underlying3 rfl) ?_
 refine G_call (L2 := [_, _, _]) rfl rfl rfl rfl rfl rfl Tryd.call32 (rmsg_number _ _ _) [] [] rfl rfl ?_
 rintro v post ⟨rfl, rfl⟩
 show G _ _ _ [_, _, _] _
 refine G_val rfl rfl rfl rfl (V_fieldAddr (fo := 12) rfl Tryd.underlying27 rfl infRMsgW_3 rfl rfl rfl) ?_
 refine G_put (l1 := []) (L' := [_, _, _]) rfl rfl rfl rfl (P_store1 rfl rfl rfl (mem_at 0 rfl) (by first | exact of_decide_eq_true rfl | omega | (simp [rqCells]; done) | (simp [rqCells]; omega) | (simp [rqCells] at *; omega)) infRMsgW_3 rfl rfl) rfl ?_
 rw [rqCells_setNum _ 12 (by omega) (by omega)]
 refine G_done ?_
 refine G_seq ?_
 refine G_region (l := [0, 1, 2, 3, 4, 5]) rfl ?_
 refine G_val rfl rfl rfl rfl (V_move rfl rfl) ?_
 refine G_val rfl rfl rfl rfl (V_fieldAddr (fo := 13) rfl Tryd.underlying27 rfl infRMsgW_3 rfl rfl rfl) ?_
 refine G_val rfl rfl rfl rfl (V_load1 rfl rfl (mem_at 2 rfl) rfl Tryd.underlying3 rfl) ?_
 refine G_call (L2 := [_, _, _]) rfl rfl rfl rfl rfl rfl Tryd.call32 (rmsg_number _ _ _) [] [] rfl rfl ?_
 rintro v post ⟨rfl, rfl⟩
 show G _ _ _ [_, _, _] _
 refine G_val rfl rfl rfl rfl (V_fieldAddr (fo := 13) rfl Tryd.underlying27 rfl infRMsgW_3 rfl rfl rfl) ?_
 refine G_put (l1 := []) (L' := [_, _, _]) rfl rfl rfl rfl (P_store1 rfl rfl rfl (mem_at 0 rfl) (by first | exact of_decide_eq_true rfl | omega | (simp [rqCells]; done) | (simp [rqCells]; omega) | (simp [rqCells] at *; omega)) infRMsgW_3 rfl rfl) rfl ?_
 rw [rqCells_setNum _ 13 (by omega) (by omega)]
 refine G_done ?_
 refine G_seq ?_
 refine G_region (l := [0, 1, 2, 3, 4, 5]) rfl ?_
 refine G_val rfl rfl rfl rfl (V_move rfl rfl) ?_
 refine G_val rfl rfl rfl rfl (V_fieldAddr (fo := 14) rfl Tryd.underlying27 rfl infRMsgW_3 rfl rfl rfl) ?_
 refine G_val rfl rfl rfl rfl (V_load1 rfl rfl (mem_at 2 rfl) rfl Tryd.underlying3 rfl) ?_
 refine G_call (L2 := [_, _, _]) rfl rfl rfl rfl rfl rfl Tryd.call32 (rmsg_number _ _ _) [] [] rfl rfl ?_
 rintro v post ⟨rfl, rfl⟩
 show G _ _ _ [_, _, _] _
 refine G_val rfl rfl rfl rfl (V_fieldAddr (fo := 14) rfl Tryd.underlying27 rfl infRMsgW_3 rfl rfl rfl) ?_
 refine G_put (l1 := []) (L' := [_, _, _]) rfl rfl rfl rfl (P_store1 rfl rfl rfl (mem_at 0 rfl) (by first | exact of_decide_eq_true rfl | omega | (simp [rqCells]; done) | (simp [rqCells]; omega) | (simp [rqCells] at *; omega)) infRMsgW_3 rfl rfl) rfl ?_
 rw [rqCells_setNum _ 14 (by omega) (by omega)]
 refine G_done ?_
 refine G_seq ?_
 refine G_region (l := [0, 1, 2, 3, 4, 5]) rfl ?_
 refine G_val rfl rfl rfl rfl (V_move rfl rfl) ?_
 refine G_val rfl rfl rfl rfl (V_fieldAddr (fo := 15) rfl Tryd.underlying27 rfl infRMsgW_3 rfl rfl rfl) ?_
 refine G_val rfl rfl rfl rfl (V_load1 rfl rfl (mem_at 2 rfl) rfl Tryd.underlying3 rfl) ?_
 refine G_call (L2 := [_, _, _]) rfl rfl rfl rfl rfl rfl Tryd.call32 (rmsg_number _ _ _) [] [] rfl rfl ?_
 rintro v post ⟨rfl, rfl⟩
 show G _ _ _ [_, _, _] _
 refine G_val rfl rfl rfl rfl (V_fieldAddr (fo := 15) rfl Tryd.underlying27 rfl infRMsgW_3 rfl rfl rfl) ?_
 refine G_put (l1 := []) (L' := [_, _, _]) rfl rfl rfl rfl (P_store1 rfl rfl rfl (mem_at 0 rfl) (by first | exact of_decide_eq_true rfl | omega | (simp [rqCells]; done) | (simp [rqCells]; omega) | (simp [rqCells] at *; omega)) infRMsgW_3 rfl rfl) rfl ?_
 rw [rqCells_setNum _ 15 (by omega) (by omega)]
 refine G_done ?_
 refine G_seq ?_
 refine G_region (l := [0, 1, 2, 3, 4, 5, 6, 7]) rfl ?_
 refine G_val rfl rfl rfl rfl (V_fieldAddr (fo := 16) rfl Tryd.underlying27 rfl infRMsgW_4 rfl rfl rfl) ?_
 refine G_val rfl rfl rfl rfl (V_load1 rfl rfl (mem_at 2 rfl) rfl Tryd.underlying4 rfl) ?_
 refine G_val rfl rfl rfl rfl (V_move rfl rfl) ?_
 refine G_split 86 rfl (fun hc1 => ?_) (fun hc1 => ?_)
 · skip
   refine G_val rfl rfl rfl rfl (V_move rfl rfl) ?_
   refine G_call (L2 := [_, _, _]) rfl rfl rfl rfl rfl rfl Tryd.call33 (rmsg_has _ _) [] [] rfl rfl ?_
   rintro v post ⟨rfl, rfl⟩
   show G _ _ _ [_, _, _] _
   refine G_val rfl rfl rfl rfl (V_pickT rfl rfl rfl) ?_
   refine G_val rfl rfl rfl rfl (V_fieldAddr (fo := 16) rfl Tryd.underlying27 rfl infRMsgW_4 rfl rfl rfl) ?_
   refine G_put (l1 := []) (L' := [_, _, _]) rfl rfl rfl rfl (P_store1 rfl rfl rfl (mem_at 0 rfl) (by first | exact of_decide_eq_true rfl | omega | (simp [rqCells]; done) | (simp [rqCells]; omega) | (simp [rqCells] at *; omega)) infRMsgW_4 rfl rfl) rfl ?_
   rw [rqCells_setFlag]
   refine G_done ?_
   refine G_seq ?_
   refine G_region (l := [0, 1]) rfl ?_
   first
     | refine G_val rfl rfl rfl rfl (V_loadW (s := 17) rfl rfl (mem_at 0 rfl) Tryd.underlying27 rfl infRMsgW_27 rfl (by first | rfl | (simp [bcells_length, rqCells]; done) | (simp [bcells_length, rqCells]; omega) | (simp [bcells_length, *, rqCells]; done))) ?_
     | refine G_val rfl rfl rfl rfl (V_loadA (s := 17) rfl rfl (mem_at 0 rfl) Tryd.underlying27 rfl infRMsgW_27 rfl rfl (by first | rfl | (simp [bcells_length, rqCells]; done) | (simp [bcells_length, rqCells]; omega) | (simp [bcells_length, *, rqCells]; done))) ?_
   refine G_put (l1 := [_]) (L' := [_, _, _]) rfl rfl rfl rfl (P_storeA (s := 17) rfl rfl rfl (mem_at 1 rfl) (by first | rfl | (simp [bcells_length, rqCells]; done) | (simp [bcells_length, rqCells]; omega) | (simp [bcells_length, *, rqCells]; done)) infRMsgW_27 rfl (by first | rfl | (simp [bcells_length, rqCells]; done) | (simp [bcells_length, rqCells]; omega) | (simp [bcells_length, *, rqCells]; done)) (by first | rfl | exact bcells_all _ | (simp [Value.oneCell', rqCells]; done) | (simp [Value.oneCell', *, rqCells]; done))) rfl ?_
   refine G_done ?_
   refine G_ret (post := []) Tryd.func14 rfl (RVs_cons (RV_cell (s := 17) rfl (mem_at 1 rfl) Tryd.underlying27 rfl infRMsgW_27 rfl (by first | rfl | (simp [bcells_length, rqCells]; done) | (simp [bcells_length, rqCells]; omega) | (simp [bcells_length, *, rqCells]; done))) RVs_nil) [] rfl ?_
   dsimp only [packed]
   refine ⟨?_, rfl⟩; unfold refRq selB; rw [hc1]; rfl
 refine G_off rfl rfl rfl rfl ?_
 refine G_off rfl rfl rfl rfl ?_
 refine G_val rfl rfl rfl rfl (V_pickF rfl rfl rfl) ?_
 refine G_val rfl rfl rfl rfl (V_fieldAddr (fo := 16) rfl Tryd.underlying27 rfl infRMsgW_4 rfl rfl rfl) ?_
 refine G_put (l1 := []) (L' := [_, _, _]) rfl rfl rfl rfl (P_store1 rfl rfl rfl (mem_at 0 rfl) (by first | exact of_decide_eq_true rfl | omega | (simp [rqCells]; done) | (simp [rqCells]; omega) | (simp [rqCells] at *; omega)) infRMsgW_4 rfl rfl) rfl ?_
 rw [rqCells_setFlag]
 refine G_done ?_
 refine G_seq ?_
 refine G_region (l := [0, 1]) rfl ?_
 first
   | refine G_val rfl rfl rfl rfl (V_loadW (s := 17) rfl rfl (mem_at 0 rfl) Tryd.underlying27 rfl infRMsgW_27 rfl (by first | rfl | (simp [bcells_length, rqCells]; done) | (simp [bcells_length, rqCells]; omega) | (simp [bcells_length, *, rqCells]; done))) ?_
   | refine G_val rfl rfl rfl rfl (V_loadA (s := 17) rfl rfl (mem_at 0 rfl) Tryd.underlying27 rfl infRMsgW_27 rfl rfl (by first | rfl | (simp [bcells_length, rqCells]; done) | (simp [bcells_length, rqCells]; omega) | (simp [bcells_length, *, rqCells]; done))) ?_
 refine G_put (l1 := [_]) (L' := [_, _, _]) rfl rfl rfl rfl (P_storeA (s := 17) rfl rfl rfl (mem_at 1 rfl) (by first | rfl | (simp [bcells_length, rqCells]; done) | (simp [bcells_length, rqCells]; omega) | (simp [bcells_length, *, rqCells]; done)) infRMsgW_27 rfl (by first | rfl | (simp [bcells_length, rqCells]; done) | (simp [bcells_length, rqCells]; omega) | (simp [bcells_length, *, rqCells]; done)) (by first | rfl | exact bcells_all _ | (simp [Value.oneCell', rqCells]; done) | (simp [Value.oneCell', *, rqCells]; done))) rfl ?_
 refine G_done ?_
 refine G_ret (post := []) Tryd.func14 rfl (RVs_cons (RV_cell (s := 17) rfl (mem_at 1 rfl) Tryd.underlying27 rfl infRMsgW_27 rfl (by first | rfl | (simp [bcells_length, rqCells]; done) | (simp [bcells_length, rqCells]; omega) | (simp [bcells_length, *, rqCells]; done))) RVs_nil) [] rfl ?_
 dsimp only [packed]
 refine ⟨?_, rfl⟩; unfold refRq selB; rw [hc1]; rfl

set_option maxRecDepth 100000 in
set_option maxHeartbeats 1000000 in
theorem rmsg_may (q : Rq) (hq : RqOk q) :
    Ct Tryd.prog 13 [.agg (rqCells q).toArray] [] [] fun v post => v = .bool (rmayQ q) ∧ post = [] := by
 have htl := (refRq_ok hq).2.1
 have l6 : (texts6 (refRq q)).length = 6 := rfl
 have l9 : (nums9 (refRq q)).length = 9 := rfl
 refine ct_of Tryd.func13 rfl rfl (fun w0 => ?_)
 show G _ _ [(0, _)] _ _
 refine G_seq ?_
 refine G_region (l := [0, 1]) rfl ?_
 refine G_new rfl rfl rfl rfl (N_boxA rfl rfl) (fun b1 => ?_)
 refine G_val rfl rfl rfl rfl (V_assign rfl rfl) ?_
 refine G_done ?_
 refine G_seq ?_
 refine G_region (l := [0, 1, 2, 3]) rfl ?_
 first
   | refine G_val rfl rfl rfl rfl (V_loadW (s := 17) rfl rfl (mem_at 0 rfl) Tryd.underlying27 rfl infRMsgW_27 rfl (by first | rfl | (simp [bcells_length, rqCells]; done) | (simp [bcells_length, rqCells]; omega) | (simp [bcells_length, *, rqCells]; done))) ?_
   | refine G_val rfl rfl rfl rfl (V_loadA (s := 17) rfl rfl (mem_at 0 rfl) Tryd.underlying27 rfl infRMsgW_27 rfl rfl (by first | rfl | (simp [bcells_length, rqCells]; done) | (simp [bcells_length, rqCells]; omega) | (simp [bcells_length, *, rqCells]; done))) ?_
 refine G_call (L2 := [_]) rfl rfl rfl rfl rfl rfl Tryd.call14 (rmsg_clean _) [] [] rfl rfl ?_
 rintro v post ⟨rfl, rfl⟩
 show G _ _ _ [_] _
 refine G_new rfl rfl rfl rfl (N_allocA rfl infRMsgW_27 rfl) (fun b3 => ?_)
 refine G_put (l1 := []) (L' := [_, _]) rfl rfl rfl rfl (P_storeA (s := 17) rfl rfl rfl (mem_at 0 rfl) (by first | rfl | (simp [bcells_length, rqCells]; done) | (simp [bcells_length, rqCells]; omega) | (simp [bcells_length, *, rqCells]; done)) infRMsgW_27 rfl (by first | rfl | (simp [bcells_length, rqCells]; done) | (simp [bcells_length, rqCells]; omega) | (simp [bcells_length, *, rqCells]; done)) (by first | rfl | exact bcells_all _ | (simp [Value.oneCell', rqCells]; done) | (simp [Value.oneCell', *, rqCells]; done))) rfl ?_
 refine G_done ?_
 refine G_seq ?_
 refine G_region (l := [0, 1, 2, 3, 4, 5, 6, 7, 8, 9, 10, 11, 12, 13]) rfl ?_
 refine G_val rfl rfl rfl rfl (V_fieldAddr (fo := 1) rfl Tryd.underlying27 rfl infRMsgW_9 rfl rfl rfl) ?_
 refine G_val rfl rfl rfl rfl (V_load1 rfl rfl (mem_at 0 rfl) rfl Tryd.underlying9 rfl) ?_
 refine G_val rfl rfl rfl rfl (V_fieldAddr (fo := 2) rfl Tryd.underlying27 rfl infRMsgW_9 rfl rfl rfl) ?_
 refine G_val rfl rfl rfl rfl (V_load1 rfl rfl (mem_at 0 rfl) rfl Tryd.underlying9 rfl) ?_
 refine G_val rfl rfl rfl rfl (V_fieldAddr (fo := 3) rfl Tryd.underlying27 rfl infRMsgW_9 rfl rfl rfl) ?_
 refine G_val rfl rfl rfl rfl (V_load1 rfl rfl (mem_at 0 rfl) rfl Tryd.underlying9 rfl) ?_
 refine G_val rfl rfl rfl rfl (V_fieldAddr (fo := 4) rfl Tryd.underlying27 rfl infRMsgW_9 rfl rfl rfl) ?_
 refine G_val rfl rfl rfl rfl (V_load1 rfl rfl (mem_at 0 rfl) rfl Tryd.underlying9 rfl) ?_
 refine G_val rfl rfl rfl rfl (V_fieldAddr (fo := 5) rfl Tryd.underlying27 rfl infRMsgW_9 rfl rfl rfl) ?_
 refine G_val rfl rfl rfl rfl (V_load1 rfl rfl (mem_at 0 rfl) rfl Tryd.underlying9 rfl) ?_
 refine G_val rfl rfl rfl rfl (V_fieldAddr (fo := 6) rfl Tryd.underlying27 rfl infRMsgW_9 rfl rfl rfl) ?_
 refine G_val rfl rfl rfl rfl (V_load1 rfl rfl (mem_at 0 rfl) rfl Tryd.underlying9 rfl) ?_
 refine G_new rfl rfl rfl rfl (N_buildAll (s := 1) (cs := [_, _, _, _, _, _]) rfl Tryd.underlying53 infRMsgW_9 rfl rfl rfl rfl rfl rfl rfl rfl rfl) (fun b22 => ?_)
 refine G_val rfl rfl rfl rfl (V_assign rfl rfl) ?_
 refine G_done ?_
 refine G_seq ?_
 refine G_seq ?_
 refine G_region (l := [0]) rfl ?_
 refine G_val rfl rfl rfl rfl (V_assign rfl rfl) ?_
 refine G_done ?_
 refine G_block ?_
 refine G_sub ?he4 [0, 0, 0] ?hl4 (G_loop (X := Nat) (fun k => k ≤ 6 ∧ ((texts6 (refRq q)).take k).all tooLong = true) (fun k => 6 - k) (fun k => [(1, .pointer (some ⟨b1, 0, none⟩)), (3, .pointer (some ⟨b3, 0, none⟩)), (4, .slice (some ⟨b22, 0, none⟩) 6 6), (5, .int .i64 (k : Int))]) (fun k => [(some b22, .cells ((texts6 (refRq q)).map strV).toArray 9 (0, 0)), (some b3, .cells (rqCells (refRq q)).toArray 27 (0, 0)), (some b1, .cells (rqCells q).toArray 27 (0, 0))]) ?round4 0 ?h04)
 case he4 => exact (And.intro rfl (And.intro rfl (And.intro rfl (And.intro rfl trivial))))
 case hl4 => exact ⟨_, rfl⟩
 case h04 => exact ⟨by omega, rfl⟩
 case round4 =>
  intro k hJ ih
  try dsimp only at hJ ih
  obtain ⟨hk, hall⟩ := hJ
  refine G_seq ?_
  refine G_seq ?_
  refine G_region (l := [0, 1, 2, 3]) rfl ?_
  refine G_val rfl rfl rfl rfl (V_move rfl rfl) ?_
  refine G_val rfl rfl rfl rfl (V_move rfl rfl) ?_
  refine G_val rfl rfl rfl rfl (V_len rfl rfl Tryd.underlying53 rfl) ?_
  refine G_val rfl rfl rfl rfl (V_lss rfl rfl rfl) ?_
  refine G_done ?_
  refine G_ifD rfl (fun hc1 => ?_) (fun hc1 => ?_)
  · skip
    refine G_skip ?_
    refine G_seq ?_
    refine G_block ?_
    refine G_seq ?_
    refine G_region (l := [0, 1, 2, 3, 4, 5]) rfl ?_
    refine G_val rfl rfl rfl rfl (V_move rfl rfl) ?_
    refine G_val rfl rfl rfl rfl (V_move rfl rfl) ?_
    first
      | refine G_val rfl rfl rfl rfl (V_indexAddrN (s := 1) rfl Tryd.underlying53 infRMsgW_9 rfl rfl rfl rfl (by omega)) ?_
      | refine G_val rfl rfl rfl rfl (V_indexAddr (s := 1) rfl Tryd.underlying53 infRMsgW_9 rfl rfl rfl (by omega) (by first | omega | (simp [rqCells]; done) | (simp [rqCells]; omega) | (simp [rqCells] at *; omega))) ?_
    refine G_val rfl rfl rfl rfl (V_load1 rfl rfl (mem_at 0 rfl) (nth_of (map_at strV (texts6 (refRq q)) [] k (by omega))) Tryd.underlying9 rfl) ?_
    refine G_val rfl rfl rfl rfl (V_slen rfl rfl Tryd.underlying9 rfl) ?_
    refine G_val rfl rfl rfl rfl (V_gtr rfl rfl rfl) ?_
    refine G_done ?_
    refine G_ifD rfl (fun hc2 => ?_) (fun hc2 => ?_)
    · skip
      refine G_seq ?_
      refine G_region (l := [0]) rfl ?_
      refine G_val rfl rfl rfl rfl (V_assign rfl rfl) ?_
      refine G_done ?_
      refine G_ret (post := []) Tryd.func13 rfl (RVs_cons (RV_tmp rfl) RVs_nil) [] rfl ?_
      dsimp only [packed]
      first
        | exact ⟨bool_eq (rmay_no1 (k := k) (by omega) (by assumption)).symm, rfl⟩
        | exact ⟨bool_eq (rmay_no2 (k := j) (by omega) (by omega)).symm, rfl⟩
        | (obtain rfl : k = 6 := by omega
           obtain rfl : j = 9 := by omega
           refine ⟨bool_eq ?_, rfl⟩
           rw [rmay_end hall hall2]
           unfold isKind
           first | (symm; simp; omega) | (simp; omega))
    refine G_skip ?_
    refine G_inBlock ?_
    refine G_region (l := [0, 1, 2]) rfl ?_
    refine G_val rfl rfl rfl rfl (V_move rfl rfl) ?_
    first
      | refine G_val rfl rfl rfl rfl ((V_add rfl rfl rfl).int (wrap_i64 (by omega))) ?_
      | refine G_val rfl rfl rfl rfl (V_add rfl rfl rfl) ?_
    refine G_val rfl rfl rfl rfl (V_assign rfl rfl) ?_
    refine G_done ?_
    refine G_sub ?_ [0, 0, 0] ?_ (ih (k + 1) ?_ ?_)
    · (refine (And.intro ?_ (And.intro ?_ (And.intro ?_ (And.intro ?_ trivial)))) <;> first | rfl | exact slot_int (by omega) | exact slot_int (by simp))
    · exact ⟨_, rfl⟩
    · exact ⟨by omega, all_nextD tooLong _ [] k (by omega) hall (by unfold tooLong; rw [decide_eq_true_eq]; omega)⟩
    · (first | omega | (dsimp only; omega))
  refine G_exit rfl ?_
  refine G_seq ?_
  refine G_region (l := [0, 1, 2, 3, 4, 5, 6, 7, 8, 9, 10, 11, 12, 13, 14, 15, 16, 17, 18, 19]) rfl ?_
  refine G_val rfl rfl rfl rfl (V_fieldAddr (fo := 7) rfl Tryd.underlying27 rfl infRMsgW_3 rfl rfl rfl) ?_
  refine G_val rfl rfl rfl rfl (V_load1 rfl rfl (mem_at 1 rfl) rfl Tryd.underlying3 rfl) ?_
  refine G_val rfl rfl rfl rfl (V_fieldAddr (fo := 8) rfl Tryd.underlying27 rfl infRMsgW_3 rfl rfl rfl) ?_
  refine G_val rfl rfl rfl rfl (V_load1 rfl rfl (mem_at 1 rfl) rfl Tryd.underlying3 rfl) ?_
  refine G_val rfl rfl rfl rfl (V_fieldAddr (fo := 9) rfl Tryd.underlying27 rfl infRMsgW_3 rfl rfl rfl) ?_
  refine G_val rfl rfl rfl rfl (V_load1 rfl rfl (mem_at 1 rfl) rfl Tryd.underlying3 rfl) ?_
  refine G_val rfl rfl rfl rfl (V_fieldAddr (fo := 10) rfl Tryd.underlying27 rfl infRMsgW_3 rfl rfl rfl) ?_
  refine G_val rfl rfl rfl rfl (V_load1 rfl rfl (mem_at 1 rfl) rfl Tryd.underlying3 rfl) ?_
  refine G_val rfl rfl rfl rfl (V_fieldAddr (fo := 11) rfl Tryd.underlying27 rfl infRMsgW_3 rfl rfl rfl) ?_
  refine G_val rfl rfl rfl rfl (V_load1 rfl rfl (mem_at 1 rfl) rfl Tryd.underlying3 rfl) ?_
  refine G_val rfl rfl rfl rfl (V_fieldAddr (fo := 12) rfl Tryd.underlying27 rfl infRMsgW_3 rfl rfl rfl) ?_
  refine G_val rfl rfl rfl rfl (V_load1 rfl rfl (mem_at 1 rfl) rfl Tryd.underlying3 rfl) ?_
  refine G_val rfl rfl rfl rfl (V_fieldAddr (fo := 13) rfl Tryd.underlying27 rfl infRMsgW_3 rfl rfl rfl) ?_
  refine G_val rfl rfl rfl rfl (V_load1 rfl rfl (mem_at 1 rfl) rfl Tryd.underlying3 rfl) ?_
  refine G_val rfl rfl rfl rfl (V_fieldAddr (fo := 14) rfl Tryd.underlying27 rfl infRMsgW_3 rfl rfl rfl) ?_
  refine G_val rfl rfl rfl rfl (V_load1 rfl rfl (mem_at 1 rfl) rfl Tryd.underlying3 rfl) ?_
  refine G_val rfl rfl rfl rfl (V_fieldAddr (fo := 15) rfl Tryd.underlying27 rfl infRMsgW_3 rfl rfl rfl) ?_
  refine G_val rfl rfl rfl rfl (V_load1 rfl rfl (mem_at 1 rfl) rfl Tryd.underlying3 rfl) ?_
  refine G_new rfl rfl rfl rfl (N_buildAll (s := 1) (cs := [_, _, _, _, _, _, _, _, _]) rfl Tryd.underlying68 infRMsgW_3 rfl rfl rfl rfl rfl rfl rfl rfl rfl) (fun b53 => ?_)
  refine G_val rfl rfl rfl rfl (V_assign rfl rfl) ?_
  refine G_done ?_
  refine G_seq ?_
  refine G_seq ?_
  refine G_region (l := [0]) rfl ?_
  refine G_val rfl rfl rfl rfl (V_assign rfl rfl) ?_
  refine G_done ?_
  refine G_block ?_
  refine G_sub ?he10 [0, 2] ?hl10 (G_loop (X := Nat) (fun j => j ≤ 9 ∧ ((nums9 (refRq q)).take j).all inRange = true) (fun j => 9 - j) (fun j => [(1, .pointer (some ⟨b1, 0, none⟩)), (6, .slice (some ⟨b53, 0, none⟩) 9 9), (7, .int .i64 (j : Int))]) (fun j => [(some b53, .cells ((nums9 (refRq q)).map intV).toArray 3 (0, 0)), (some b1, .cells (rqCells q).toArray 27 (0, 0))]) ?round10 0 ?h010)
  case he10 => exact (And.intro rfl (And.intro rfl (And.intro rfl trivial)))
  case hl10 => exact ⟨_, rfl⟩
  case h010 => exact ⟨by omega, rfl⟩
  case round10 =>
   intro j hJ ih
   try dsimp only at hJ ih
   obtain ⟨hj, hall2⟩ := hJ
   refine G_seq ?_
   refine G_seq ?_
   refine G_region (l := [0, 1, 2, 3]) rfl ?_
   refine G_val rfl rfl rfl rfl (V_move rfl rfl) ?_
   refine G_val rfl rfl rfl rfl (V_move rfl rfl) ?_
   refine G_val rfl rfl rfl rfl (V_len rfl rfl Tryd.underlying68 rfl) ?_
   refine G_val rfl rfl rfl rfl (V_lss rfl rfl rfl) ?_
   refine G_done ?_
   refine G_ifD rfl (fun hc2 => ?_) (fun hc2 => ?_)
   · skip
     refine G_skip ?_
     refine G_seq ?_
     refine G_block ?_
     refine G_seq ?_
     refine G_region (l := [0, 1, 2, 3, 4, 5, 6, 7, 8, 9, 10, 11]) rfl ?_
     refine G_val rfl rfl rfl rfl (V_move rfl rfl) ?_
     refine G_val rfl rfl rfl rfl (V_move rfl rfl) ?_
     first
       | refine G_val rfl rfl rfl rfl (V_indexAddrN (s := 1) rfl Tryd.underlying68 infRMsgW_3 rfl rfl rfl rfl (by omega)) ?_
       | refine G_val rfl rfl rfl rfl (V_indexAddr (s := 1) rfl Tryd.underlying68 infRMsgW_3 rfl rfl rfl (by omega) (by first | omega | (simp [rqCells]; done) | (simp [rqCells]; omega) | (simp [rqCells] at *; omega))) ?_
     refine G_val rfl rfl rfl rfl (V_load1 rfl rfl (mem_at 0 rfl) (nth_of (map_at intV (nums9 (refRq q)) 0 j (by omega))) Tryd.underlying3 rfl) ?_
     refine G_val rfl rfl rfl rfl (V_lss rfl rfl rfl) ?_
     refine G_val rfl rfl rfl rfl (V_move rfl rfl) ?_
     refine G_splitD 65 rfl (fun hc3 => ?_) (fun hc3 => ?_)
     · skip
       refine G_off rfl rfl rfl rfl ?_
       refine G_off rfl rfl rfl rfl ?_
       refine G_off rfl rfl rfl rfl ?_
       refine G_off rfl rfl rfl rfl ?_
       refine G_off rfl rfl rfl rfl ?_
       refine G_val rfl rfl rfl rfl (V_pickT rfl rfl rfl) ?_
       refine G_done ?_
       refine G_then rfl ?_
       refine G_seq ?_
       refine G_region (l := [0]) rfl ?_
       refine G_val rfl rfl rfl rfl (V_assign rfl rfl) ?_
       refine G_done ?_
       refine G_ret (post := []) Tryd.func13 rfl (RVs_cons (RV_tmp rfl) RVs_nil) [] rfl ?_
       dsimp only [packed]
       first
         | exact ⟨bool_eq (rmay_no1 (k := k) (by omega) (by assumption)).symm, rfl⟩
         | exact ⟨bool_eq (rmay_no2 (k := j) (by omega) (by omega)).symm, rfl⟩
         | (obtain rfl : k = 6 := by omega
            obtain rfl : j = 9 := by omega
            refine ⟨bool_eq ?_, rfl⟩
            rw [rmay_end hall hall2]
            unfold isKind
            first | (symm; simp; omega) | (simp; omega))
     refine G_val rfl rfl rfl rfl (V_move rfl rfl) ?_
     refine G_val rfl rfl rfl rfl (V_move rfl rfl) ?_
     first
       | refine G_val rfl rfl rfl rfl (V_indexAddrN (s := 1) rfl Tryd.underlying68 infRMsgW_3 rfl rfl rfl rfl (by omega)) ?_
       | refine G_val rfl rfl rfl rfl (V_indexAddr (s := 1) rfl Tryd.underlying68 infRMsgW_3 rfl rfl rfl (by omega) (by first | omega | (simp [rqCells]; done) | (simp [rqCells]; omega) | (simp [rqCells] at *; omega))) ?_
     refine G_val rfl rfl rfl rfl (V_load1 rfl rfl (mem_at 0 rfl) (nth_of (map_at intV (nums9 (refRq q)) 0 j (by omega))) Tryd.underlying3 rfl) ?_
     refine G_val rfl rfl rfl rfl (V_gtr rfl rfl rfl) ?_
     refine G_val rfl rfl rfl rfl (V_pickF rfl rfl rfl) ?_
     refine G_done ?_
     refine G_ifD rfl (fun hc4 => ?_) (fun hc4 => ?_)
     · skip
       refine G_seq ?_
       refine G_region (l := [0]) rfl ?_
       refine G_val rfl rfl rfl rfl (V_assign rfl rfl) ?_
       refine G_done ?_
       refine G_ret (post := []) Tryd.func13 rfl (RVs_cons (RV_tmp rfl) RVs_nil) [] rfl ?_
       dsimp only [packed]
       first
         | exact ⟨bool_eq (rmay_no1 (k := k) (by omega) (by assumption)).symm, rfl⟩
         | exact ⟨bool_eq (rmay_no2 (k := j) (by omega) (by omega)).symm, rfl⟩
         | (obtain rfl : k = 6 := by omega
            obtain rfl : j = 9 := by omega
            refine ⟨bool_eq ?_, rfl⟩
            rw [rmay_end hall hall2]
            unfold isKind
            first | (symm; simp; omega) | (simp; omega))
     refine G_skip ?_
     refine G_inBlock ?_
     refine G_region (l := [0, 1, 2]) rfl ?_
     refine G_val rfl rfl rfl rfl (V_move rfl rfl) ?_
     first
       | refine G_val rfl rfl rfl rfl ((V_add rfl rfl rfl).int (wrap_i64 (by omega))) ?_
       | refine G_val rfl rfl rfl rfl (V_add rfl rfl rfl) ?_
     refine G_val rfl rfl rfl rfl (V_assign rfl rfl) ?_
     refine G_done ?_
     refine G_sub ?_ [0, 0] ?_ (ih (j + 1) ?_ ?_)
     · (refine (And.intro ?_ (And.intro ?_ (And.intro ?_ trivial))) <;> first | rfl | exact slot_int (by omega) | exact slot_int (by simp))
     · exact ⟨_, rfl⟩
     · exact ⟨by omega, all_nextD inRange _ 0 j (by omega) hall2 (by unfold inRange; simp only [decide_eq_true_eq]; omega)⟩
     · (first | omega | (dsimp only; omega))
   refine G_exit rfl ?_
   refine G_seq ?_
   refine G_region (l := [0, 1, 2, 3, 4, 5, 6, 7, 8]) rfl ?_
   refine G_val rfl rfl rfl rfl (V_fieldAddr (fo := 0) rfl Tryd.underlying27 rfl infRMsgW_3 rfl rfl rfl) ?_
   refine G_val rfl rfl rfl rfl (V_load1 rfl rfl (mem_at 1 rfl) rfl Tryd.underlying3 rfl) ?_
   refine G_val rfl rfl rfl rfl (V_geq rfl rfl rfl) ?_
   refine G_val rfl rfl rfl rfl (V_move rfl rfl) ?_
   refine G_splitD 75 rfl (fun hc3 => ?_) (fun hc3 => ?_)
   · skip
     refine G_val rfl rfl rfl rfl (V_fieldAddr (fo := 0) rfl Tryd.underlying27 rfl infRMsgW_3 rfl rfl rfl) ?_
     refine G_val rfl rfl rfl rfl (V_load1 rfl rfl (mem_at 1 rfl) rfl Tryd.underlying3 rfl) ?_
     refine G_val rfl rfl rfl rfl (V_leq rfl rfl rfl) ?_
     refine G_val rfl rfl rfl rfl (V_pickT rfl rfl rfl) ?_
     refine G_val rfl rfl rfl rfl (V_assign rfl rfl) ?_
     refine G_done ?_
     refine G_ret (post := []) Tryd.func13 rfl (RVs_cons (RV_tmp rfl) RVs_nil) [] rfl ?_
     dsimp only [packed]
     first
       | exact ⟨bool_eq (rmay_no1 (k := k) (by omega) (by assumption)).symm, rfl⟩
       | exact ⟨bool_eq (rmay_no2 (k := j) (by omega) (by omega)).symm, rfl⟩
       | (obtain rfl : k = 6 := by omega
          obtain rfl : j = 9 := by omega
          refine ⟨bool_eq ?_, rfl⟩
          rw [rmay_end hall hall2]
          unfold isKind
          first | (symm; simp; omega) | (simp; omega))
   refine G_off rfl rfl rfl rfl ?_
   refine G_off rfl rfl rfl rfl ?_
   refine G_off rfl rfl rfl rfl ?_
   refine G_val rfl rfl rfl rfl (V_pickF rfl rfl rfl) ?_
   refine G_val rfl rfl rfl rfl (V_assign rfl rfl) ?_
   refine G_done ?_
   refine G_ret (post := []) Tryd.func13 rfl (RVs_cons (RV_tmp rfl) RVs_nil) [] rfl ?_
   dsimp only [packed]
   first
     | exact ⟨bool_eq (rmay_no1 (k := k) (by omega) (by assumption)).symm, rfl⟩
     | exact ⟨bool_eq (rmay_no2 (k := j) (by omega) (by omega)).symm, rfl⟩
     | (obtain rfl : k = 6 := by omega
        obtain rfl : j = 9 := by omega
        refine ⟨bool_eq ?_, rfl⟩
        rw [rmay_end hall hall2]
        unfold isKind
        first | (symm; simp; omega) | (simp; omega))

end
end Go.Proofs.YtjnaeoelnmhjfaaDoor
