/- The walks of layer 19: requests, and their fields. -/
import Derived.Test.YtkekkalgebgokaaDoorGK
import Derived.Test.YtkekkalgebgokaaDoorMsgQ
set_option linter.unusedSimpArgs false
set_option linter.unusedVariables false
namespace Go.Proofs.YtkekkalgebgokaaDoor
open Go Go.RowKit

section
theorem infMsgW_105 : Tryd.prog.info? 105 = some Tryd.t105 := by kernel_rfl
theorem plcMsgW_105 : placesOf Tryd.prog (Tryd.prog.fieldsOf 105) = some [(0, 1), (1, 1)] := by kernel_rfl


theorem may_no1 {q : Rq} (h : (!isKind q.kind) = true) : mayQ q = false := by
  unfold mayQ; simp at h; simp [h]
theorem may_no2 {q : Rq} {k : Nat} (hk : k < (fieldsK q.kind).length) (h : okL q ((fieldsK q.kind).getD k 0) = false) : mayQ q = false := by
  unfold mayQ
  rw [if_neg]
  rintro ⟨_, h2⟩
  rw [List.all_eq_true] at h2
  have := h2 ((fieldsK q.kind).getD k 0) (by rw [List.getD_eq_getElem?_getD, List.getElem?_eq_getElem hk]; simp)
  rw [h] at this
  cases this
theorem may_yes {q : Rq} {k : Nat} (h : (!isKind q.kind) = false) (hk : (fieldsK q.kind).length ≤ k) (ha : ((fieldsK q.kind).take k).all (okL q) = true) : mayQ q = true := by
  unfold mayQ
  rw [List.take_of_length_le hk] at ha
  simp at h
  rw [if_pos ⟨h, ha⟩]
theorem may_next {q : Rq} {k : Nat} (hk : k < (fieldsK q.kind).length) (ha : ((fieldsK q.kind).take k).all (okL q) = true) (h : okL q ((fieldsK q.kind).getD k 0) = true) : ((fieldsK q.kind).take (k + 1)).all (okL q) = true := by
  rw [List.take_succ_eq_append_getElem hk, List.all_append, ha]
  rw [List.getD_eq_getElem?_getD, List.getElem?_eq_getElem hk] at h
  simpa using h
theorem okL_text {q : Rq} {c : UInt8} {i : Nat} (h : textIdx (c.toNat : Int) = some i) : okL q c = decide ((q.tx i).length ≤ 100) := by unfold okL; rw [h]
theorem okL_num {q : Rq} {c : UInt8} {i : Nat} (h0 : textIdx (c.toNat : Int) = none) (h : numIdx (c.toNat : Int) = some i) : okL q c = decide (0 ≤ q.nx i ∧ q.nx i ≤ 1099511627776) := by unfold okL; rw [h0, h]
theorem okL_flag {q : Rq} {c : UInt8} (h0 : textIdx (c.toNat : Int) = none) (h : numIdx (c.toNat : Int) = none) : okL q c = true := by unfold okL; rw [h0, h]
theorem fold_next (q : Rq) (k : Nat) (hk : k < (fieldsK q.kind).length) : ((fieldsK q.kind).take (k + 1)).foldl (rqTake q) (rqBare q.kind) = rqTake q (((fieldsK q.kind).take k).foldl (rqTake q) (rqBare q.kind)) ((fieldsK q.kind).getD k 0) := by
  rw [List.take_succ_eq_append_getElem hk, List.foldl_append]
  rw [List.getD_eq_getElem?_getD, List.getElem?_eq_getElem hk]
  rfl
def rqAt (q : Rq) (k : Nat) : Rq := ((fieldsK q.kind).take k).foldl (rqTake q) (rqBare q.kind)
theorem rqAt_text (q : Rq) (k i : Nat) (hk : k < (fieldsK q.kind).length) (h : textIdx (((fieldsK q.kind).getD k 0).toNat : Int) = some i) : (rqCells (rqAt q k)).toArray.setIfInBounds i (.string (bs (q.tx i))) = (rqCells (rqAt q (k + 1))).toArray := by
  have hb := textIdx_bd _ _ h
  rw [rqCells_setText _ i hb.1 hb.2]
  unfold rqAt
  rw [fold_next q k hk, rqTake_text _ _ _ i h]
theorem rqAt_num (q : Rq) (k i : Nat) (hk : k < (fieldsK q.kind).length) (h0 : textIdx (((fieldsK q.kind).getD k 0).toNat : Int) = none) (h : numIdx (((fieldsK q.kind).getD k 0).toNat : Int) = some i) : (rqCells (rqAt q k)).toArray.setIfInBounds i (.int .i64 (q.nx i)) = (rqCells (rqAt q (k + 1))).toArray := by
  have hb := numIdx_bd _ _ h
  rw [rqCells_setNum _ i hb.1 hb.2]
  unfold rqAt
  rw [fold_next q k hk, rqTake_num _ _ _ i h0 h]
theorem rqAt_flag (q : Rq) (k : Nat) (hk : k < (fieldsK q.kind).length) (h0 : textIdx (((fieldsK q.kind).getD k 0).toNat : Int) = none) (h : numIdx (((fieldsK q.kind).getD k 0).toNat : Int) = none) : (rqCells (rqAt q k)).toArray.setIfInBounds 16 (.bool q.flag) = (rqCells (rqAt q (k + 1))).toArray := by
  rw [rqCells_setFlag]
  unfold rqAt
  rw [fold_next q k hk, rqTake_flag _ _ _ h0 h]
theorem rqAt_end (q : Rq) (k : Nat) (hk : (fieldsK q.kind).length ≤ k) : rqAt q k = rqClean q := by
  unfold rqAt rqClean
  rw [List.take_of_length_le hk]

set_option maxRecDepth 100000 in
set_option maxHeartbeats 1000000 in
theorem msg_is (k : Int) :
    Ct Tryd.prog 59 [.int .i64 k] [] [] fun v post => v = .bool (isKind k) ∧ post = [] := by
 refine ct_of Tryd.func59 rfl rfl (fun w0 => ?_)
 show G _ _ [(0, _)] _ _
 refine G_seq ?_
 refine G_region (l := [0]) rfl ?_
 refine G_val rfl rfl rfl rfl (V_assign rfl rfl) ?_
 refine G_done ?_
 refine G_seq ?_
 refine G_region (l := [0, 1, 2, 3, 4, 5, 6]) rfl ?_
 refine G_val rfl rfl rfl rfl (V_move rfl rfl) ?_
 refine G_val rfl rfl rfl rfl (V_geq rfl rfl rfl) ?_
 refine G_val rfl rfl rfl rfl (V_move rfl rfl) ?_
 refine G_splitD 5 rfl (fun hc1 => ?_) (fun hc1 => ?_)
 · skip
   refine G_val rfl rfl rfl rfl (V_move rfl rfl) ?_
   refine G_val rfl rfl rfl rfl (V_leq rfl rfl rfl) ?_
   refine G_val rfl rfl rfl rfl (V_pickT rfl rfl rfl) ?_
   refine G_val rfl rfl rfl rfl (V_assign rfl rfl) ?_
   refine G_done ?_
   refine G_ret (post := []) Tryd.func59 rfl (RVs_cons (RV_tmp rfl) RVs_nil) [] rfl ?_
   dsimp only [packed]
   refine ⟨bool_eq ?_, rfl⟩; unfold isKind; first | (symm; simp; omega) | (simp; omega)
 refine G_off rfl rfl rfl rfl ?_
 refine G_off rfl rfl rfl rfl ?_
 refine G_val rfl rfl rfl rfl (V_pickF rfl rfl rfl) ?_
 refine G_val rfl rfl rfl rfl (V_assign rfl rfl) ?_
 refine G_done ?_
 refine G_ret (post := []) Tryd.func59 rfl (RVs_cons (RV_tmp rfl) RVs_nil) [] rfl ?_
 dsimp only [packed]
 refine ⟨bool_eq ?_, rfl⟩; unfold isKind; first | (symm; simp; omega) | (simp; omega)

set_option maxRecDepth 100000 in
set_option maxHeartbeats 1000000 in
theorem msg_forms  :
    Ct Tryd.prog 60 [] [] [] fun v post => ∃ b, v = .slice (some ⟨b, 0, none⟩) 18 18 ∧ post = [(some b, .cells formArr 105 (0, 0))] := by
 refine ct_of Tryd.func60 rfl rfl (fun w0 => ?_)
 show G _ _ [] _ _
 refine G_seq ?_
 refine G_region (l := [0]) rfl ?_
 refine G_val rfl rfl rfl rfl (V_assign rfl rfl) ?_
 refine G_done ?_
 refine G_seq ?_
 refine G_region (l := [0, 1, 2, 3, 4, 5, 6, 7, 8, 9, 10, 11, 12, 13, 14, 15, 16, 17, 18, 19]) rfl ?_
 refine G_val rfl rfl rfl rfl (V_buildS (cs := [_, _]) rfl Tryd.underlying105 infMsgW_105 rfl plcMsgW_105 rfl rfl rfl) ?_
 refine G_val rfl rfl rfl rfl (V_buildS (cs := [_, _]) rfl Tryd.underlying105 infMsgW_105 rfl plcMsgW_105 rfl rfl rfl) ?_
 refine G_val rfl rfl rfl rfl (V_buildS (cs := [_, _]) rfl Tryd.underlying105 infMsgW_105 rfl plcMsgW_105 rfl rfl rfl) ?_
 refine G_val rfl rfl rfl rfl (V_buildS (cs := [_, _]) rfl Tryd.underlying105 infMsgW_105 rfl plcMsgW_105 rfl rfl rfl) ?_
 refine G_val rfl rfl rfl rfl (V_buildS (cs := [_, _]) rfl Tryd.underlying105 infMsgW_105 rfl plcMsgW_105 rfl rfl rfl) ?_
 refine G_val rfl rfl rfl rfl (V_buildS (cs := [_, _]) rfl Tryd.underlying105 infMsgW_105 rfl plcMsgW_105 rfl rfl rfl) ?_
 refine G_val rfl rfl rfl rfl (V_buildS (cs := [_, _]) rfl Tryd.underlying105 infMsgW_105 rfl plcMsgW_105 rfl rfl rfl) ?_
 refine G_val rfl rfl rfl rfl (V_buildS (cs := [_, _]) rfl Tryd.underlying105 infMsgW_105 rfl plcMsgW_105 rfl rfl rfl) ?_
 refine G_val rfl rfl rfl rfl (V_buildS (cs := [_, _]) rfl Tryd.underlying105 infMsgW_105 rfl plcMsgW_105 rfl rfl rfl) ?_
 refine G_val rfl rfl rfl rfl (V_buildS (cs := [_, _]) rfl Tryd.underlying105 infMsgW_105 rfl plcMsgW_105 rfl rfl rfl) ?_
 refine G_val rfl rfl rfl rfl (V_buildS (cs := [_, _]) rfl Tryd.underlying105 infMsgW_105 rfl plcMsgW_105 rfl rfl rfl) ?_
 refine G_val rfl rfl rfl rfl (V_buildS (cs := [_, _]) rfl Tryd.underlying105 infMsgW_105 rfl plcMsgW_105 rfl rfl rfl) ?_
 refine G_val rfl rfl rfl rfl (V_buildS (cs := [_, _]) rfl Tryd.underlying105 infMsgW_105 rfl plcMsgW_105 rfl rfl rfl) ?_
 refine G_val rfl rfl rfl rfl (V_buildS (cs := [_, _]) rfl Tryd.underlying105 infMsgW_105 rfl plcMsgW_105 rfl rfl rfl) ?_
 refine G_val rfl rfl rfl rfl (V_buildS (cs := [_, _]) rfl Tryd.underlying105 infMsgW_105 rfl plcMsgW_105 rfl rfl rfl) ?_
 refine G_val rfl rfl rfl rfl (V_buildS (cs := [_, _]) rfl Tryd.underlying105 infMsgW_105 rfl plcMsgW_105 rfl rfl rfl) ?_
 refine G_val rfl rfl rfl rfl (V_buildS (cs := [_, _]) rfl Tryd.underlying105 infMsgW_105 rfl plcMsgW_105 rfl rfl rfl) ?_
 refine G_val rfl rfl rfl rfl (V_buildS (cs := [_, _]) rfl Tryd.underlying105 infMsgW_105 rfl plcMsgW_105 rfl rfl rfl) ?_
 refine G_new rfl rfl rfl rfl (N_buildAll (s := 2) (cs := [_, _, _, _, _, _, _, _, _, _, _, _, _, _, _, _, _, _, _, _, _, _, _, _, _, _, _, _, _, _, _, _, _, _, _, _]) rfl Tryd.underlying128 infMsgW_105 rfl rfl rfl rfl rfl rfl rfl rfl rfl) (fun b19 => ?_)
 refine G_val rfl rfl rfl rfl (V_assign rfl rfl) ?_
 refine G_done ?_
 refine G_ret (post := [_]) Tryd.func60 rfl (RVs_cons (RV_tmp rfl) RVs_nil) [0] rfl ?_
 dsimp only [packed]
 exact ⟨_, rfl, rfl⟩


theorem formArr_ext : ∀ m, m < 18 → formArr.extract (0 + m * 2) (0 + m * 2 + 2) = #[.string (bs (wordOf m)), .string (bs (fieldsOf m))] := by
  intro m hm
  match m, hm with
  | 0, _ => rfl
  | 1, _ => rfl
  | 2, _ => rfl
  | 3, _ => rfl
  | 4, _ => rfl
  | 5, _ => rfl
  | 6, _ => rfl
  | 7, _ => rfl
  | 8, _ => rfl
  | 9, _ => rfl
  | 10, _ => rfl
  | 11, _ => rfl
  | 12, _ => rfl
  | 13, _ => rfl
  | 14, _ => rfl
  | 15, _ => rfl
  | 16, _ => rfl
  | 17, _ => rfl
  | _ + 18, h => exact absurd h (by omega)
def formV (k : Int) : Value := .agg #[.string (bs (wordK k)), .string (bs (fieldsK k))]
theorem formV_no {k : Int} (h : (!isKind k) = true) : formV k = .agg #[.string (bs []), .string (bs [])] := by
  have h : ¬ (1 ≤ k ∧ k ≤ 17) := by
    intro hk
    unfold isKind at h
    simp [hk] at h
  unfold formV
  rw [wordK_no k h, fieldsK_no k h]
theorem formV_yes {m : Nat} (h1 : 1 ≤ m) (h2 : m ≤ 17) : formV (m : Int) = .agg #[.string (bs (wordOf m)), .string (bs (fieldsOf m))] := by
  unfold formV
  rw [wordK_yes m h1 h2, fieldsK_yes m h1 h2]

set_option maxRecDepth 100000 in
set_option maxHeartbeats 1000000 in
theorem msg_of (k : Int) :
    Ct Tryd.prog 50 [.int .i64 k] [] [] fun v post => v = formV k ∧ post = [] := by
 refine ct_of Tryd.func50 rfl rfl (fun w0 => ?_)
 show G _ _ [(0, _)] _ _
 refine G_seq ?_
 refine G_region (l := [0]) rfl ?_
 refine G_new rfl rfl rfl rfl (N_allocA rfl infMsgW_105 rfl) (fun b2 => ?_)
 refine G_done ?_
 refine G_seq ?_
 refine G_seq ?_
 refine G_region (l := [0, 1, 2]) rfl ?_
 refine G_val rfl rfl rfl rfl (V_move rfl rfl) ?_
 refine G_call (L2 := [_]) rfl rfl rfl rfl rfl rfl Tryd.call59 (msg_is _) [] [] rfl rfl ?_
 rintro v post ⟨rfl, rfl⟩
 show G _ _ _ [_] _
 refine G_val rfl rfl rfl rfl (V_not rfl rfl) ?_
 refine G_done ?_
 refine G_if rfl (fun hc1 => ?_) (fun hc1 => ?_)
 · skip
   refine G_seq ?_
   refine G_region (l := [0, 1]) rfl ?_
   refine G_val rfl rfl rfl rfl (V_buildS (cs := [_, _]) rfl Tryd.underlying105 infMsgW_105 rfl plcMsgW_105 rfl rfl rfl) ?_
   refine G_put (l1 := []) (L' := [_]) rfl rfl rfl rfl (P_storeA (s := 2) rfl rfl rfl (mem_at 0 rfl) (by first | rfl | (simp [bcells_length, rqCells]; done) | (simp [bcells_length, rqCells]; omega) | (simp [bcells_length, *, rqCells]; done)) infMsgW_105 rfl (by first | rfl | (simp [bcells_length, rqCells]; done) | (simp [bcells_length, rqCells]; omega) | (simp [bcells_length, *, rqCells]; done)) (by first | rfl | exact bcells_all _ | (simp [Value.oneCell', rqCells]; done) | (simp [Value.oneCell', *, rqCells]; done))) rfl ?_
   refine G_done ?_
   refine G_ret (post := []) Tryd.func50 rfl (RVs_cons (RV_cell (s := 2) rfl (mem_at 0 rfl) Tryd.underlying105 rfl infMsgW_105 rfl (by first | rfl | (simp [bcells_length, rqCells]; done) | (simp [bcells_length, rqCells]; omega) | (simp [bcells_length, *, rqCells]; done))) RVs_nil) [] rfl ?_
   dsimp only [packed]
   first | exact ⟨(formV_no (by assumption)).symm, rfl⟩ | exact ⟨(formV_yes (by omega) (by omega)).symm, rfl⟩
 refine G_skip ?_
 refine G_seq ?_
 have hkk : 1 ≤ k ∧ k ≤ 17 := by
   have h := hc1
   unfold isKind at h
   simp at h
   omega
 obtain ⟨m, rfl⟩ := Int.eq_ofNat_of_zero_le (show 0 ≤ k by omega)
 refine G_region (l := [0, 1, 2, 3, 4]) rfl ?_
 refine G_call (L2 := [_]) rfl rfl rfl rfl rfl rfl Tryd.call60 (msg_forms) [] [] rfl rfl ?_
 rintro v post ⟨bf, rfl, rfl⟩
 show G _ _ _ [_, _] _
 refine G_val rfl rfl rfl rfl (V_move rfl rfl) ?_
 first
   | refine G_val rfl rfl rfl rfl (V_indexAddrN (s := 2) rfl Tryd.underlying128 infMsgW_105 rfl rfl rfl rfl (by omega)) ?_
   | refine G_val rfl rfl rfl rfl (V_indexAddr (s := 2) rfl Tryd.underlying128 infMsgW_105 rfl rfl rfl (by omega) (by first | omega | (simp [rqCells]; done) | (simp [rqCells]; omega) | (simp [rqCells] at *; omega))) ?_
 refine G_val rfl rfl rfl rfl (V_loadA (s := 2) (vs := #[.string (bs (wordOf m)), .string (bs (fieldsOf m))]) rfl rfl (mem_at 0 rfl) Tryd.underlying105 rfl infMsgW_105 rfl (formArr_ext m (by omega)) rfl) ?_
 refine G_put (l1 := [_]) (L' := [_, _]) rfl rfl rfl rfl (P_storeA (s := 2) rfl rfl rfl (mem_at 1 rfl) (by first | rfl | (simp [bcells_length, rqCells]; done) | (simp [bcells_length, rqCells]; omega) | (simp [bcells_length, *, rqCells]; done)) infMsgW_105 rfl (by first | rfl | (simp [bcells_length, rqCells]; done) | (simp [bcells_length, rqCells]; omega) | (simp [bcells_length, *, rqCells]; done)) (by first | rfl | exact bcells_all _ | (simp [Value.oneCell', rqCells]; done) | (simp [Value.oneCell', *, rqCells]; done))) rfl ?_
 refine G_done ?_
 refine G_ret (post := []) Tryd.func50 rfl (RVs_cons (RV_cell (s := 2) rfl (mem_at 1 rfl) Tryd.underlying105 rfl infMsgW_105 rfl (by first | rfl | (simp [bcells_length, rqCells]; done) | (simp [bcells_length, rqCells]; omega) | (simp [bcells_length, *, rqCells]; done))) RVs_nil) [] rfl ?_
 dsimp only [packed]
 first | exact ⟨(formV_no (by assumption)).symm, rfl⟩ | exact ⟨(formV_yes (by omega) (by omega)).symm, rfl⟩

set_option maxRecDepth 100000 in
set_option maxHeartbeats 1000000 in
theorem msg_fields (k : Int) :
    Ct Tryd.prog 26 [.int .i64 k] [] [] fun v post => v = .string (bs (fieldsK k)) ∧ post = [] := by
 refine ct_of Tryd.func26 rfl rfl (fun w0 => ?_)
 show G _ _ [(0, _)] _ _
 refine G_seq ?_
 refine G_region (l := [0]) rfl ?_
 refine G_val rfl rfl rfl rfl (V_assign rfl rfl) ?_
 refine G_done ?_
 refine G_seq ?_
 refine G_region (l := [0, 1, 2, 3]) rfl ?_
 refine G_val rfl rfl rfl rfl (V_move rfl rfl) ?_
 refine G_call (L2 := []) rfl rfl rfl rfl rfl rfl Tryd.call50 (msg_of _) [] [] rfl rfl ?_
 rintro v post ⟨rfl, rfl⟩
 refine G_val rfl rfl rfl rfl (V_field1 rfl Tryd.underlying105 rfl Tryd.underlying9 rfl rfl rfl) ?_
 refine G_val rfl rfl rfl rfl (V_assign rfl rfl) ?_
 refine G_done ?_
 refine G_ret (post := []) Tryd.func26 rfl (RVs_cons (RV_tmp rfl) RVs_nil) [] rfl ?_
 dsimp only [packed]
 exact ⟨rfl, rfl⟩

set_option maxRecDepth 100000 in
set_option maxHeartbeats 1000000 in
theorem msg_word (k : Int) :
    Ct Tryd.prog 25 [.int .i64 k] [] [] fun v post => v = .string (bs (wordK k)) ∧ post = [] := by
 refine ct_of Tryd.func25 rfl rfl (fun w0 => ?_)
 show G _ _ [(0, _)] _ _
 refine G_seq ?_
 refine G_region (l := [0]) rfl ?_
 refine G_val rfl rfl rfl rfl (V_assign rfl rfl) ?_
 refine G_done ?_
 refine G_seq ?_
 refine G_region (l := [0, 1, 2, 3]) rfl ?_
 refine G_val rfl rfl rfl rfl (V_move rfl rfl) ?_
 refine G_call (L2 := []) rfl rfl rfl rfl rfl rfl Tryd.call50 (msg_of _) [] [] rfl rfl ?_
 rintro v post ⟨rfl, rfl⟩
 refine G_val rfl rfl rfl rfl (V_field1 rfl Tryd.underlying105 rfl Tryd.underlying9 rfl rfl rfl) ?_
 refine G_val rfl rfl rfl rfl (V_assign rfl rfl) ?_
 refine G_done ?_
 refine G_ret (post := []) Tryd.func25 rfl (RVs_cons (RV_tmp rfl) RVs_nil) [] rfl ?_
 dsimp only [packed]
 exact ⟨rfl, rfl⟩


theorem letter3 (c : Int) : (∃ i, textIdx c = some i ∧ numIdx c = none ∧ 1 ≤ i ∧ i ≤ 6) ∨ (∃ i, textIdx c = none ∧ numIdx c = some i ∧ 7 ≤ i ∧ i ≤ 15) ∨ (textIdx c = none ∧ numIdx c = none) := by
  rcases htx : textIdx c with _ | i
  · rcases hnx : numIdx c with _ | i
    · exact .inr (.inr ⟨rfl, rfl⟩)
    · have hb := numIdx_bd _ _ hnx
      exact .inr (.inl ⟨i, rfl, rfl, hb.1, hb.2⟩)
  · have hb := textIdx_bd _ _ htx
    exact .inl ⟨i, rfl, textIdx_num _ _ htx, hb.1, hb.2⟩

end
end Go.Proofs.YtkekkalgebgokaaDoor
