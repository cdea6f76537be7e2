/- The walks of layer 19: requests, and their fields. -/
import Derived.Test.YtkidmbaakdaflaaGK
import Derived.Test.YtkidmbaakdaflaaMsgQ
set_option linter.unusedSimpArgs false
set_option linter.unusedVariables false
namespace Go.Proofs.Ytkidmbaakdaflaa
open Go Go.RowKit

section
theorem infMsgW_3 : Try.prog.info? 3 = some Try.t3 := by kernel_rfl
theorem infMsgW_9 : Try.prog.info? 9 = some Try.t9 := by kernel_rfl
theorem infMsgW_211 : Try.prog.info? 211 = some Try.t211 := by kernel_rfl
theorem plcMsgW_211 : placesOf Try.prog (Try.prog.fieldsOf 211) = some [(0, 1), (1, 1)] := by kernel_rfl


theorem may_no1 {q : Rq} (h : (!isKind q.kind) = true) : mayQ q = false := by
  unfold mayQ; simp at h; simp [h]
theorem may_no2 {q : Rq} {k : Nat} (hk : k < (fieldsK q.kind).length) (h : okL q ((fieldsK q.kind).getD k 0) = false) : mayQ q = false := by
  unfold mayQ
  rw [if_neg]
  rintro ⟨_, h2⟩
  rw [List.all_eq_true] at h2
  have := h2 ((fieldsK q.kind).getD k 0) (by rw [List.getD_eq_getElem?_getD, List.getElem?_eq_getElem hk]; simp)
  rw [h] at this
  cases this
theorem may_yes {q : Rq} {k : Nat} (h : (!isKind q.kind) = false) (hk : (fieldsK q.kind).length ≤ k) (ha : ((fieldsK q.kind).take k).all (okL q) = true) : mayQ q = true := by
  unfold mayQ
  rw [List.take_of_length_le hk] at ha
  simp at h
  rw [if_pos ⟨h, ha⟩]
theorem may_next {q : Rq} {k : Nat} (hk : k < (fieldsK q.kind).length) (ha : ((fieldsK q.kind).take k).all (okL q) = true) (h : okL q ((fieldsK q.kind).getD k 0) = true) : ((fieldsK q.kind).take (k + 1)).all (okL q) = true := by
  rw [List.take_succ_eq_append_getElem hk, List.all_append, ha]
  rw [List.getD_eq_getElem?_getD, List.getElem?_eq_getElem hk] at h
  simpa using h
theorem okL_text {q : Rq} {c : UInt8} {i : Nat} (h : textIdx (c.toNat : Int) = some i) : okL q c = decide ((q.tx i).length ≤ 100) := by unfold okL; rw [h]
theorem okL_num {q : Rq} {c : UInt8} {i : Nat} (h0 : textIdx (c.toNat : Int) = none) (h : numIdx (c.toNat : Int) = some i) : okL q c = decide (0 ≤ q.nx i ∧ q.nx i ≤ 1099511627776) := by unfold okL; rw [h0, h]
theorem okL_flag {q : Rq} {c : UInt8} (h0 : textIdx (c.toNat : Int) = none) (h : numIdx (c.toNat : Int) = none) : okL q c = true := by unfold okL; rw [h0, h]
theorem fold_next (q : Rq) (k : Nat) (hk : k < (fieldsK q.kind).length) : ((fieldsK q.kind).take (k + 1)).foldl (rqTake q) (rqBare q.kind) = rqTake q (((fieldsK q.kind).take k).foldl (rqTake q) (rqBare q.kind)) ((fieldsK q.kind).getD k 0) := by
  rw [List.take_succ_eq_append_getElem hk, List.foldl_append]
  rw [List.getD_eq_getElem?_getD, List.getElem?_eq_getElem hk]
  rfl
def rqAt (q : Rq) (k : Nat) : Rq := ((fieldsK q.kind).take k).foldl (rqTake q) (rqBare q.kind)
theorem rqAt_text (q : Rq) (k i : Nat) (hk : k < (fieldsK q.kind).length) (h : textIdx (((fieldsK q.kind).getD k 0).toNat : Int) = some i) : (rqCells (rqAt q k)).toArray.setIfInBounds i (.string (bs (q.tx i))) = (rqCells (rqAt q (k + 1))).toArray := by
  have hb := textIdx_bd _ _ h
  rw [rqCells_setText _ i hb.1 hb.2]
  unfold rqAt
  rw [fold_next q k hk, rqTake_text _ _ _ i h]
theorem rqAt_num (q : Rq) (k i : Nat) (hk : k < (fieldsK q.kind).length) (h0 : textIdx (((fieldsK q.kind).getD k 0).toNat : Int) = none) (h : numIdx (((fieldsK q.kind).getD k 0).toNat : Int) = some i) : (rqCells (rqAt q k)).toArray.setIfInBounds i (.int .i64 (q.nx i)) = (rqCells (rqAt q (k + 1))).toArray := by
  have hb := numIdx_bd _ _ h
  rw [rqCells_setNum _ i hb.1 hb.2]
  unfold rqAt
  rw [fold_next q k hk, rqTake_num _ _ _ i h0 h]
theorem rqAt_flag (q : Rq) (k : Nat) (hk : k < (fieldsK q.kind).length) (h0 : textIdx (((fieldsK q.kind).getD k 0).toNat : Int) = none) (h : numIdx (((fieldsK q.kind).getD k 0).toNat : Int) = none) : (rqCells (rqAt q k)).toArray.setIfInBounds 16 (.bool q.flag) = (rqCells (rqAt q (k + 1))).toArray := by
  rw [rqCells_setFlag]
  unfold rqAt
  rw [fold_next q k hk, rqTake_flag _ _ _ h0 h]
theorem rqAt_end (q : Rq) (k : Nat) (hk : (fieldsK q.kind).length ≤ k) : rqAt q k = rqClean q := by
  unfold rqAt rqClean
  rw [List.take_of_length_le hk]

set_option maxRecDepth 100000 in
set_option maxHeartbeats 1000000 in
theorem msg_is (k : Int) :
    Ct Try.prog 134 [.int .i64 k] [] [] fun v post => v = .bool (isKind k) ∧ post = [] := by
 refine ct_of Try.func134 rfl rfl (fun w0 => ?_)
 show G _ _ [(0, _)] _ _
 refine G_seq ?_
 refine G_region (l := [0]) rfl ?_
 refine G_val rfl rfl rfl rfl (V_assign rfl rfl) ?_
 refine G_done ?_
 refine G_seq ?_
 refine G_region (l := [0, 1, 2, 3, 4, 5, 6]) rfl ?_
 refine G_val rfl rfl rfl rfl (V_move rfl rfl) ?_
 refine G_val rfl rfl rfl rfl (V_geq rfl rfl rfl) ?_
 refine G_val rfl rfl rfl rfl (V_move rfl rfl) ?_
 refine G_splitD 5 rfl (fun hc1 => ?_) (fun hc1 => ?_)
 · skip
   refine G_val rfl rfl rfl rfl (V_move rfl rfl) ?_
   refine G_val rfl rfl rfl rfl (V_leq rfl rfl rfl) ?_
   refine G_val rfl rfl rfl rfl (V_pickT rfl rfl rfl) ?_
   refine G_val rfl rfl rfl rfl (V_assign rfl rfl) ?_
   refine G_done ?_
   refine G_ret (post := []) Try.func134 rfl (RVs_cons (RV_tmp rfl) RVs_nil) [] rfl ?_
   dsimp only [packed]
   refine ⟨bool_eq ?_, rfl⟩; unfold isKind; first | (symm; simp; omega) | (simp; omega)
 refine G_off rfl rfl rfl rfl ?_
 refine G_off rfl rfl rfl rfl ?_
 refine G_val rfl rfl rfl rfl (V_pickF rfl rfl rfl) ?_
 refine G_val rfl rfl rfl rfl (V_assign rfl rfl) ?_
 refine G_done ?_
 refine G_ret (post := []) Try.func134 rfl (RVs_cons (RV_tmp rfl) RVs_nil) [] rfl ?_
 dsimp only [packed]
 refine ⟨bool_eq ?_, rfl⟩; unfold isKind; first | (symm; simp; omega) | (simp; omega)

set_option maxRecDepth 100000 in
set_option maxHeartbeats 1000000 in
theorem msg_forms  :
    Ct Try.prog 162 [] [] [] fun v post => ∃ b, v = .slice (some ⟨b, 0, none⟩) 18 18 ∧ post = [(some b, .cells formArr 211 (0, 0))] := by
 refine ct_of Try.func162 rfl rfl (fun w0 => ?_)
 show G _ _ [] _ _
 refine G_seq ?_
 refine G_region (l := [0]) rfl ?_
 refine G_val rfl rfl rfl rfl (V_assign rfl rfl) ?_
 refine G_done ?_
 refine G_seq ?_
 refine G_region (l := [0, 1, 2, 3, 4, 5, 6, 7, 8, 9, 10, 11, 12, 13, 14, 15, 16, 17, 18, 19]) rfl ?_
 refine G_val rfl rfl rfl rfl (V_buildS (cs := [_, _]) rfl Try.underlying211 infMsgW_211 rfl plcMsgW_211 rfl rfl rfl) ?_
 refine G_val rfl rfl rfl rfl (V_buildS (cs := [_, _]) rfl Try.underlying211 infMsgW_211 rfl plcMsgW_211 rfl rfl rfl) ?_
 refine G_val rfl rfl rfl rfl (V_buildS (cs := [_, _]) rfl Try.underlying211 infMsgW_211 rfl plcMsgW_211 rfl rfl rfl) ?_
 refine G_val rfl rfl rfl rfl (V_buildS (cs := [_, _]) rfl Try.underlying211 infMsgW_211 rfl plcMsgW_211 rfl rfl rfl) ?_
 refine G_val rfl rfl rfl rfl (V_buildS (cs := [_, _]) rfl Try.underlying211 infMsgW_211 rfl plcMsgW_211 rfl rfl rfl) ?_
 refine G_val rfl rfl rfl rfl (V_buildS (cs := [_, _]) rfl Try.underlying211 infMsgW_211 rfl plcMsgW_211 rfl rfl rfl) ?_
 refine G_val rfl rfl rfl rfl (V_buildS (cs := [_, _]) rfl Try.underlying211 infMsgW_211 rfl plcMsgW_211 rfl rfl rfl) ?_
 refine G_val rfl rfl rfl rfl (V_buildS (cs := [_, _]) rfl Try.underlying211 infMsgW_211 rfl plcMsgW_211 rfl rfl rfl) ?_
 refine G_val rfl rfl rfl rfl (V_buildS (cs := [_, _]) rfl Try.underlying211 infMsgW_211 rfl plcMsgW_211 rfl rfl rfl) ?_
 refine G_val rfl rfl rfl rfl (V_buildS (cs := [_, _]) rfl Try.underlying211 infMsgW_211 rfl plcMsgW_211 rfl rfl rfl) ?_
 refine G_val rfl rfl rfl rfl (V_buildS (cs := [_, _]) rfl Try.underlying211 infMsgW_211 rfl plcMsgW_211 rfl rfl rfl) ?_
 refine G_val rfl rfl rfl rfl (V_buildS (cs := [_, _]) rfl Try.underlying211 infMsgW_211 rfl plcMsgW_211 rfl rfl rfl) ?_
 refine G_val rfl rfl rfl rfl (V_buildS (cs := [_, _]) rfl Try.underlying211 infMsgW_211 rfl plcMsgW_211 rfl rfl rfl) ?_
 refine G_val rfl rfl rfl rfl (V_buildS (cs := [_, _]) rfl Try.underlying211 infMsgW_211 rfl plcMsgW_211 rfl rfl rfl) ?_
 refine G_val rfl rfl rfl rfl (V_buildS (cs := [_, _]) rfl Try.underlying211 infMsgW_211 rfl plcMsgW_211 rfl rfl rfl) ?_
 refine G_val rfl rfl rfl rfl (V_buildS (cs := [_, _]) rfl Try.underlying211 infMsgW_211 rfl plcMsgW_211 rfl rfl rfl) ?_
 refine G_val rfl rfl rfl rfl (V_buildS (cs := [_, _]) rfl Try.underlying211 infMsgW_211 rfl plcMsgW_211 rfl rfl rfl) ?_
 refine G_val rfl rfl rfl rfl (V_buildS (cs := [_, _]) rfl Try.underlying211 infMsgW_211 rfl plcMsgW_211 rfl rfl rfl) ?_
 refine G_new rfl rfl rfl rfl (N_buildAll (s := 2) (cs := [_, _, _, _, _, _, _, _, _, _, _, _, _, _, _, _, _, _, _, _, _, _, _, _, _, _, _, _, _, _, _, _, _, _, _, _]) rfl Try.underlying223 infMsgW_211 rfl rfl rfl rfl rfl rfl rfl rfl rfl) (fun b19 => ?_)
 refine G_val rfl rfl rfl rfl (V_assign rfl rfl) ?_
 refine G_done ?_
 refine G_ret (post := [_]) Try.func162 rfl (RVs_cons (RV_tmp rfl) RVs_nil) [0] rfl ?_
 dsimp only [packed]
 exact ⟨_, rfl, rfl⟩


theorem formArr_ext : ∀ m, m < 18 → formArr.extract (0 + m * 2) (0 + m * 2 + 2) = #[.string (bs (wordOf m)), .string (bs (fieldsOf m))] := by
  intro m hm
  match m, hm with
  | 0, _ => rfl
  | 1, _ => rfl
  | 2, _ => rfl
  | 3, _ => rfl
  | 4, _ => rfl
  | 5, _ => rfl
  | 6, _ => rfl
  | 7, _ => rfl
  | 8, _ => rfl
  | 9, _ => rfl
  | 10, _ => rfl
  | 11, _ => rfl
  | 12, _ => rfl
  | 13, _ => rfl
  | 14, _ => rfl
  | 15, _ => rfl
  | 16, _ => rfl
  | 17, _ => rfl
  | _ + 18, h => exact absurd h (by omega)
def formV (k : Int) : Value := .agg #[.string (bs (wordK k)), .string (bs (fieldsK k))]
theorem formV_no {k : Int} (h : (!isKind k) = true) : formV k = .agg #[.string (bs []), .string (bs [])] := by
  have h : ¬ (1 ≤ k ∧ k ≤ 17) := by
    intro hk
    unfold isKind at h
    simp [hk] at h
  unfold formV
  rw [wordK_no k h, fieldsK_no k h]
theorem formV_yes {m : Nat} (h1 : 1 ≤ m) (h2 : m ≤ 17) : formV (m : Int) = .agg #[.string (bs (wordOf m)), .string (bs (fieldsOf m))] := by
  unfold formV
  rw [wordK_yes m h1 h2, fieldsK_yes m h1 h2]

set_option maxRecDepth 100000 in
set_option maxHeartbeats 1000000 in
theorem msg_of (k : Int) :
    Ct Try.prog 154 [.int .i64 k] [] [] fun v post => v = formV k ∧ post = [] := by
 refine ct_of Try.func154 rfl rfl (fun w0 => ?_)
 show G _ _ [(0, _)] _ _
 refine G_seq ?_
 refine G_region (l := [0]) rfl ?_
 refine G_new rfl rfl rfl rfl (N_allocA rfl infMsgW_211 rfl) (fun b2 => ?_)
 refine G_done ?_
 refine G_seq ?_
 refine G_seq ?_
 refine G_region (l := [0, 1, 2]) rfl ?_
 refine G_val rfl rfl rfl rfl (V_move rfl rfl) ?_
 refine G_call (L2 := [_]) rfl rfl rfl rfl rfl rfl Try.call134 (msg_is _) [] [] rfl rfl ?_
 rintro v post ⟨rfl, rfl⟩
 show G _ _ _ [_] _
 refine G_val rfl rfl rfl rfl (V_not rfl rfl) ?_
 refine G_done ?_
 refine G_if rfl (fun hc1 => ?_) (fun hc1 => ?_)
 · skip
   refine G_seq ?_
   refine G_region (l := [0, 1]) rfl ?_
   refine G_val rfl rfl rfl rfl (V_buildS (cs := [_, _]) rfl Try.underlying211 infMsgW_211 rfl plcMsgW_211 rfl rfl rfl) ?_
   refine G_put (l1 := []) (L' := [_]) rfl rfl rfl rfl (P_storeA (s := 2) rfl rfl rfl (mem_at 0 rfl) (by first | rfl | (simp [bcells_length, rqCells]; done) | (simp [bcells_length, rqCells]; omega) | (simp [bcells_length, *, rqCells]; done)) infMsgW_211 rfl (by first | rfl | (simp [bcells_length, rqCells]; done) | (simp [bcells_length, rqCells]; omega) | (simp [bcells_length, *, rqCells]; done)) (by first | rfl | exact bcells_all _ | (simp [Value.oneCell', rqCells]; done) | (simp [Value.oneCell', *, rqCells]; done))) rfl ?_
   refine G_done ?_
   refine G_ret (post := []) Try.func154 rfl (RVs_cons (RV_cell (s := 2) rfl (mem_at 0 rfl) Try.underlying211 rfl infMsgW_211 rfl (by first | rfl | (simp [bcells_length, rqCells]; done) | (simp [bcells_length, rqCells]; omega) | (simp [bcells_length, *, rqCells]; done))) RVs_nil) [] rfl ?_
   dsimp only [packed]
   first | exact ⟨(formV_no (by assumption)).symm, rfl⟩ | exact ⟨(formV_yes (by omega) (by omega)).symm, rfl⟩
 refine G_skip ?_
 refine G_seq ?_
 have hkk : 1 ≤ k ∧ k ≤ 17 := by
   have h := hc1
   unfold isKind at h
   simp at h
   omega
 obtain ⟨m, rfl⟩ := Int.eq_ofNat_of_zero_le (show 0 ≤ k by omega)
 refine G_region (l := [0, 1, 2, 3, 4]) rfl ?_
 refine G_call (L2 := [_]) rfl rfl rfl rfl rfl rfl Try.call162 (msg_forms) [] [] rfl rfl ?_
 rintro v post ⟨bf, rfl, rfl⟩
 show G _ _ _ [_, _] _
 refine G_val rfl rfl rfl rfl (V_move rfl rfl) ?_
 first
   | refine G_val rfl rfl rfl rfl (V_indexAddrN rfl Try.underlying223 infMsgW_211 rfl rfl rfl rfl (by omega)) ?_
   | refine G_val rfl rfl rfl rfl (V_indexAddr rfl Try.underlying223 infMsgW_211 rfl rfl rfl (by omega) (by first | omega | (simp [rqCells]; done) | (simp [rqCells]; omega) | (simp [rqCells] at *; omega))) ?_
 refine G_val rfl rfl rfl rfl (V_loadA (s := 2) (vs := #[.string (bs (wordOf m)), .string (bs (fieldsOf m))]) rfl rfl (mem_at 0 rfl) Try.underlying211 rfl infMsgW_211 rfl (formArr_ext m (by omega)) rfl) ?_
 refine G_put (l1 := [_]) (L' := [_, _]) rfl rfl rfl rfl (P_storeA (s := 2) rfl rfl rfl (mem_at 1 rfl) (by first | rfl | (simp [bcells_length, rqCells]; done) | (simp [bcells_length, rqCells]; omega) | (simp [bcells_length, *, rqCells]; done)) infMsgW_211 rfl (by first | rfl | (simp [bcells_length, rqCells]; done) | (simp [bcells_length, rqCells]; omega) | (simp [bcells_length, *, rqCells]; done)) (by first | rfl | exact bcells_all _ | (simp [Value.oneCell', rqCells]; done) | (simp [Value.oneCell', *, rqCells]; done))) rfl ?_
 refine G_done ?_
 refine G_ret (post := []) Try.func154 rfl (RVs_cons (RV_cell (s := 2) rfl (mem_at 1 rfl) Try.underlying211 rfl infMsgW_211 rfl (by first | rfl | (simp [bcells_length, rqCells]; done) | (simp [bcells_length, rqCells]; omega) | (simp [bcells_length, *, rqCells]; done))) RVs_nil) [] rfl ?_
 dsimp only [packed]
 first | exact ⟨(formV_no (by assumption)).symm, rfl⟩ | exact ⟨(formV_yes (by omega) (by omega)).symm, rfl⟩

set_option maxRecDepth 100000 in
set_option maxHeartbeats 1000000 in
theorem msg_fields (k : Int) :
    Ct Try.prog 135 [.int .i64 k] [] [] fun v post => v = .string (bs (fieldsK k)) ∧ post = [] := by
 refine ct_of Try.func135 rfl rfl (fun w0 => ?_)
 show G _ _ [(0, _)] _ _
 refine G_seq ?_
 refine G_region (l := [0]) rfl ?_
 refine G_val rfl rfl rfl rfl (V_assign rfl rfl) ?_
 refine G_done ?_
 refine G_seq ?_
 refine G_region (l := [0, 1, 2, 3]) rfl ?_
 refine G_val rfl rfl rfl rfl (V_move rfl rfl) ?_
 refine G_call (L2 := []) rfl rfl rfl rfl rfl rfl Try.call154 (msg_of _) [] [] rfl rfl ?_
 rintro v post ⟨rfl, rfl⟩
 refine G_val rfl rfl rfl rfl (V_field1 rfl Try.underlying211 rfl Try.underlying9 rfl rfl rfl) ?_
 refine G_val rfl rfl rfl rfl (V_assign rfl rfl) ?_
 refine G_done ?_
 refine G_ret (post := []) Try.func135 rfl (RVs_cons (RV_tmp rfl) RVs_nil) [] rfl ?_
 dsimp only [packed]
 exact ⟨rfl, rfl⟩

set_option maxRecDepth 100000 in
set_option maxHeartbeats 1000000 in
theorem msg_text (b : Nat) (c : Int) (i : Option Nat) (h : textIdx c = i) :
    Ct Try.prog 136 [.pointer (some ⟨b, 0, none⟩), .int .i32 c] [] [] fun v post => v = ptrAt b i ∧ post = [] := by
 refine ct_of Try.func136 rfl rfl (fun w0 => ?_)
 show G _ _ [(0, _), (1, _)] _ _
 refine G_seq ?_
 refine G_region (l := [0]) rfl ?_
 refine G_val rfl rfl rfl rfl (V_assign rfl rfl) ?_
 refine G_done ?_
 refine G_seq ?_
 refine G_seq ?_
 refine G_region (l := [0]) rfl ?_
 refine G_val rfl rfl rfl rfl (V_move rfl rfl) ?_
 refine G_done ?_
 refine G_block ?_
 refine G_seq ?_
 refine G_region (l := [0, 1]) rfl ?_
 refine G_val rfl rfl rfl rfl (V_eql rfl rfl rfl) ?_
 refine G_val rfl rfl rfl rfl (V_assign rfl rfl) ?_
 refine G_done ?_
 refine G_ifD rfl (fun hc1 => ?_) (fun hc1 => ?_)
 · skip
   refine G_seq ?_
   refine G_region (l := [0, 1, 2, 3]) rfl ?_
   refine G_val rfl rfl rfl rfl (V_move rfl rfl) ?_
   first
     | refine G_val rfl rfl rfl rfl (V_nilCheck rfl rfl) ?_
     | refine G_val rfl rfl rfl rfl (V_nilCheckF rfl rfl) ?_
   refine G_val rfl rfl rfl rfl (V_fieldAddr (fo := _ + 1) rfl Try.underlying40 rfl infMsgW_9 rfl rfl rfl) ?_
   refine G_val rfl rfl rfl rfl (V_assign rfl rfl) ?_
   refine G_done ?_
   refine G_ret (post := []) Try.func136 rfl (RVs_cons (RV_tmp rfl) RVs_nil) [] rfl ?_
   dsimp only [packed]
   refine ⟨?_, rfl⟩; subst h; simp [textIdx, ptrAt, *]
 refine G_seq ?_
 refine G_region (l := [0, 1]) rfl ?_
 refine G_val rfl rfl rfl rfl (V_eql rfl rfl rfl) ?_
 refine G_val rfl rfl rfl rfl (V_assign rfl rfl) ?_
 refine G_done ?_
 refine G_ifD rfl (fun hc2 => ?_) (fun hc2 => ?_)
 · skip
   refine G_seq ?_
   refine G_region (l := [0, 1, 2, 3]) rfl ?_
   refine G_val rfl rfl rfl rfl (V_move rfl rfl) ?_
   first
     | refine G_val rfl rfl rfl rfl (V_nilCheck rfl rfl) ?_
     | refine G_val rfl rfl rfl rfl (V_nilCheckF rfl rfl) ?_
   refine G_val rfl rfl rfl rfl (V_fieldAddr (fo := _ + 2) rfl Try.underlying40 rfl infMsgW_9 rfl rfl rfl) ?_
   refine G_val rfl rfl rfl rfl (V_assign rfl rfl) ?_
   refine G_done ?_
   refine G_ret (post := []) Try.func136 rfl (RVs_cons (RV_tmp rfl) RVs_nil) [] rfl ?_
   dsimp only [packed]
   refine ⟨?_, rfl⟩; subst h; simp [textIdx, ptrAt, *]
 refine G_seq ?_
 refine G_region (l := [0, 1]) rfl ?_
 refine G_val rfl rfl rfl rfl (V_eql rfl rfl rfl) ?_
 refine G_val rfl rfl rfl rfl (V_assign rfl rfl) ?_
 refine G_done ?_
 refine G_ifD rfl (fun hc3 => ?_) (fun hc3 => ?_)
 · skip
   refine G_seq ?_
   refine G_region (l := [0, 1, 2, 3]) rfl ?_
   refine G_val rfl rfl rfl rfl (V_move rfl rfl) ?_
   first
     | refine G_val rfl rfl rfl rfl (V_nilCheck rfl rfl) ?_
     | refine G_val rfl rfl rfl rfl (V_nilCheckF rfl rfl) ?_
   refine G_val rfl rfl rfl rfl (V_fieldAddr (fo := _ + 3) rfl Try.underlying40 rfl infMsgW_9 rfl rfl rfl) ?_
   refine G_val rfl rfl rfl rfl (V_assign rfl rfl) ?_
   refine G_done ?_
   refine G_ret (post := []) Try.func136 rfl (RVs_cons (RV_tmp rfl) RVs_nil) [] rfl ?_
   dsimp only [packed]
   refine ⟨?_, rfl⟩; subst h; simp [textIdx, ptrAt, *]
 refine G_seq ?_
 refine G_region (l := [0, 1]) rfl ?_
 refine G_val rfl rfl rfl rfl (V_eql rfl rfl rfl) ?_
 refine G_val rfl rfl rfl rfl (V_assign rfl rfl) ?_
 refine G_done ?_
 refine G_ifD rfl (fun hc4 => ?_) (fun hc4 => ?_)
 · skip
   refine G_seq ?_
   refine G_region (l := [0, 1, 2, 3]) rfl ?_
   refine G_val rfl rfl rfl rfl (V_move rfl rfl) ?_
   first
     | refine G_val rfl rfl rfl rfl (V_nilCheck rfl rfl) ?_
     | refine G_val rfl rfl rfl rfl (V_nilCheckF rfl rfl) ?_
   refine G_val rfl rfl rfl rfl (V_fieldAddr (fo := _ + 4) rfl Try.underlying40 rfl infMsgW_9 rfl rfl rfl) ?_
   refine G_val rfl rfl rfl rfl (V_assign rfl rfl) ?_
   refine G_done ?_
   refine G_ret (post := []) Try.func136 rfl (RVs_cons (RV_tmp rfl) RVs_nil) [] rfl ?_
   dsimp only [packed]
   refine ⟨?_, rfl⟩; subst h; simp [textIdx, ptrAt, *]
 refine G_seq ?_
 refine G_region (l := [0, 1]) rfl ?_
 refine G_val rfl rfl rfl rfl (V_eql rfl rfl rfl) ?_
 refine G_val rfl rfl rfl rfl (V_assign rfl rfl) ?_
 refine G_done ?_
 refine G_ifD rfl (fun hc5 => ?_) (fun hc5 => ?_)
 · skip
   refine G_seq ?_
   refine G_region (l := [0, 1, 2, 3]) rfl ?_
   refine G_val rfl rfl rfl rfl (V_move rfl rfl) ?_
   first
     | refine G_val rfl rfl rfl rfl (V_nilCheck rfl rfl) ?_
     | refine G_val rfl rfl rfl rfl (V_nilCheckF rfl rfl) ?_
   refine G_val rfl rfl rfl rfl (V_fieldAddr (fo := _ + 5) rfl Try.underlying40 rfl infMsgW_9 rfl rfl rfl) ?_
   refine G_val rfl rfl rfl rfl (V_assign rfl rfl) ?_
   refine G_done ?_
   refine G_ret (post := []) Try.func136 rfl (RVs_cons (RV_tmp rfl) RVs_nil) [] rfl ?_
   dsimp only [packed]
   refine ⟨?_, rfl⟩; subst h; simp [textIdx, ptrAt, *]
 refine G_seq ?_
 refine G_region (l := [0, 1]) rfl ?_
 refine G_val rfl rfl rfl rfl (V_eql rfl rfl rfl) ?_
 refine G_val rfl rfl rfl rfl (V_assign rfl rfl) ?_
 refine G_done ?_
 refine G_ifD rfl (fun hc6 => ?_) (fun hc6 => ?_)
 · skip
   refine G_seq ?_
   refine G_region (l := [0, 1, 2, 3]) rfl ?_
   refine G_val rfl rfl rfl rfl (V_move rfl rfl) ?_
   first
     | refine G_val rfl rfl rfl rfl (V_nilCheck rfl rfl) ?_
     | refine G_val rfl rfl rfl rfl (V_nilCheckF rfl rfl) ?_
   refine G_val rfl rfl rfl rfl (V_fieldAddr (fo := _ + 6) rfl Try.underlying40 rfl infMsgW_9 rfl rfl rfl) ?_
   refine G_val rfl rfl rfl rfl (V_assign rfl rfl) ?_
   refine G_done ?_
   refine G_ret (post := []) Try.func136 rfl (RVs_cons (RV_tmp rfl) RVs_nil) [] rfl ?_
   dsimp only [packed]
   refine ⟨?_, rfl⟩; subst h; simp [textIdx, ptrAt, *]
 refine G_skip ?_
 refine G_inBlock ?_
 refine G_seq ?_
 refine G_region (l := [0]) rfl ?_
 refine G_val rfl rfl rfl rfl (V_assign rfl rfl) ?_
 refine G_done ?_
 refine G_ret (post := []) Try.func136 rfl (RVs_cons (RV_tmp rfl) RVs_nil) [] rfl ?_
 dsimp only [packed]
 refine ⟨?_, rfl⟩; subst h; simp [textIdx, ptrAt, *]

set_option maxRecDepth 100000 in
set_option maxHeartbeats 1000000 in
theorem msg_number (b : Nat) (c : Int) (i : Option Nat) (h : numIdx c = i) :
    Ct Try.prog 137 [.pointer (some ⟨b, 0, none⟩), .int .i32 c] [] [] fun v post => v = ptrAt b i ∧ post = [] := by
 refine ct_of Try.func137 rfl rfl (fun w0 => ?_)
 show G _ _ [(0, _), (1, _)] _ _
 refine G_seq ?_
 refine G_region (l := [0]) rfl ?_
 refine G_val rfl rfl rfl rfl (V_assign rfl rfl) ?_
 refine G_done ?_
 refine G_seq ?_
 refine G_seq ?_
 refine G_region (l := [0]) rfl ?_
 refine G_val rfl rfl rfl rfl (V_move rfl rfl) ?_
 refine G_done ?_
 refine G_block ?_
 refine G_seq ?_
 refine G_region (l := [0, 1]) rfl ?_
 refine G_val rfl rfl rfl rfl (V_eql rfl rfl rfl) ?_
 refine G_val rfl rfl rfl rfl (V_assign rfl rfl) ?_
 refine G_done ?_
 refine G_ifD rfl (fun hc1 => ?_) (fun hc1 => ?_)
 · skip
   refine G_seq ?_
   refine G_region (l := [0, 1, 2, 3]) rfl ?_
   refine G_val rfl rfl rfl rfl (V_move rfl rfl) ?_
   first
     | refine G_val rfl rfl rfl rfl (V_nilCheck rfl rfl) ?_
     | refine G_val rfl rfl rfl rfl (V_nilCheckF rfl rfl) ?_
   refine G_val rfl rfl rfl rfl (V_fieldAddr (fo := _ + 7) rfl Try.underlying40 rfl infMsgW_3 rfl rfl rfl) ?_
   refine G_val rfl rfl rfl rfl (V_assign rfl rfl) ?_
   refine G_done ?_
   refine G_ret (post := []) Try.func137 rfl (RVs_cons (RV_tmp rfl) RVs_nil) [] rfl ?_
   dsimp only [packed]
   refine ⟨?_, rfl⟩; subst h; simp [numIdx, ptrAt, *]
 refine G_seq ?_
 refine G_region (l := [0, 1]) rfl ?_
 refine G_val rfl rfl rfl rfl (V_eql rfl rfl rfl) ?_
 refine G_val rfl rfl rfl rfl (V_assign rfl rfl) ?_
 refine G_done ?_
 refine G_ifD rfl (fun hc2 => ?_) (fun hc2 => ?_)
 · skip
   refine G_seq ?_
   refine G_region (l := [0, 1, 2, 3]) rfl ?_
   refine G_val rfl rfl rfl rfl (V_move rfl rfl) ?_
   first
     | refine G_val rfl rfl rfl rfl (V_nilCheck rfl rfl) ?_
     | refine G_val rfl rfl rfl rfl (V_nilCheckF rfl rfl) ?_
   refine G_val rfl rfl rfl rfl (V_fieldAddr (fo := _ + 8) rfl Try.underlying40 rfl infMsgW_3 rfl rfl rfl) ?_
   refine G_val rfl rfl rfl rfl (V_assign rfl rfl) ?_
   refine G_done ?_
   refine G_ret (post := []) Try.func137 rfl (RVs_cons (RV_tmp rfl) RVs_nil) [] rfl ?_
   dsimp only [packed]
   refine ⟨?_, rfl⟩; subst h; simp [numIdx, ptrAt, *]
 refine G_seq ?_
 refine G_region (l := [0, 1]) rfl ?_
 refine G_val rfl rfl rfl rfl (V_eql rfl rfl rfl) ?_
 refine G_val rfl rfl rfl rfl (V_assign rfl rfl) ?_
 refine G_done ?_
 refine G_ifD rfl (fun hc3 => ?_) (fun hc3 => ?_)
 · skip
   refine G_seq ?_
   refine G_region (l := [0, 1, 2, 3]) rfl ?_
   refine G_val rfl rfl rfl rfl (V_move rfl rfl) ?_
   first
     | refine G_val rfl rfl rfl rfl (V_nilCheck rfl rfl) ?_
     | refine G_val rfl rfl rfl rfl (V_nilCheckF rfl rfl) ?_
   refine G_val rfl rfl rfl rfl (V_fieldAddr (fo := _ + 9) rfl Try.underlying40 rfl infMsgW_3 rfl rfl rfl) ?_
   refine G_val rfl rfl rfl rfl (V_assign rfl rfl) ?_
   refine G_done ?_
   refine G_ret (post := []) Try.func137 rfl (RVs_cons (RV_tmp rfl) RVs_nil) [] rfl ?_
   dsimp only [packed]
   refine ⟨?_, rfl⟩; subst h; simp [numIdx, ptrAt, *]
 refine G_seq ?_
 refine G_region (l := [0, 1]) rfl ?_
 refine G_val rfl rfl rfl rfl (V_eql rfl rfl rfl) ?_
 refine G_val rfl rfl rfl rfl (V_assign rfl rfl) ?_
 refine G_done ?_
 refine G_ifD rfl (fun hc4 => ?_) (fun hc4 => ?_)
 · skip
   refine G_seq ?_
   refine G_region (l := [0, 1, 2, 3]) rfl ?_
   refine G_val rfl rfl rfl rfl (V_move rfl rfl) ?_
   first
     | refine G_val rfl rfl rfl rfl (V_nilCheck rfl rfl) ?_
     | refine G_val rfl rfl rfl rfl (V_nilCheckF rfl rfl) ?_
   refine G_val rfl rfl rfl rfl (V_fieldAddr (fo := _ + 10) rfl Try.underlying40 rfl infMsgW_3 rfl rfl rfl) ?_
   refine G_val rfl rfl rfl rfl (V_assign rfl rfl) ?_
   refine G_done ?_
   refine G_ret (post := []) Try.func137 rfl (RVs_cons (RV_tmp rfl) RVs_nil) [] rfl ?_
   dsimp only [packed]
   refine ⟨?_, rfl⟩; subst h; simp [numIdx, ptrAt, *]
 refine G_seq ?_
 refine G_region (l := [0, 1]) rfl ?_
 refine G_val rfl rfl rfl rfl (V_eql rfl rfl rfl) ?_
 refine G_val rfl rfl rfl rfl (V_assign rfl rfl) ?_
 refine G_done ?_
 refine G_ifD rfl (fun hc5 => ?_) (fun hc5 => ?_)
 · skip
   refine G_seq ?_
   refine G_region (l := [0, 1, 2, 3]) rfl ?_
   refine G_val rfl rfl rfl rfl (V_move rfl rfl) ?_
   first
     | refine G_val rfl rfl rfl rfl (V_nilCheck rfl rfl) ?_
     | refine G_val rfl rfl rfl rfl (V_nilCheckF rfl rfl) ?_
   refine G_val rfl rfl rfl rfl (V_fieldAddr (fo := _ + 11) rfl Try.underlying40 rfl infMsgW_3 rfl rfl rfl) ?_
   refine G_val rfl rfl rfl rfl (V_assign rfl rfl) ?_
   refine G_done ?_
   refine G_ret (post := []) Try.func137 rfl (RVs_cons (RV_tmp rfl) RVs_nil) [] rfl ?_
   dsimp only [packed]
   refine ⟨?_, rfl⟩; subst h; simp [numIdx, ptrAt, *]
 refine G_seq ?_
 refine G_region (l := [0, 1]) rfl ?_
 refine G_val rfl rfl rfl rfl (V_eql rfl rfl rfl) ?_
 refine G_val rfl rfl rfl rfl (V_assign rfl rfl) ?_
 refine G_done ?_
 refine G_ifD rfl (fun hc6 => ?_) (fun hc6 => ?_)
 · skip
   refine G_seq ?_
   refine G_region (l := [0, 1, 2, 3]) rfl ?_
   refine G_val rfl rfl rfl rfl (V_move rfl rfl) ?_
   first
     | refine G_val rfl rfl rfl rfl (V_nilCheck rfl rfl) ?_
     | refine G_val rfl rfl rfl rfl (V_nilCheckF rfl rfl) ?_
   refine G_val rfl rfl rfl rfl (V_fieldAddr (fo := _ + 12) rfl Try.underlying40 rfl infMsgW_3 rfl rfl rfl) ?_
   refine G_val rfl rfl rfl rfl (V_assign rfl rfl) ?_
   refine G_done ?_
   refine G_ret (post := []) Try.func137 rfl (RVs_cons (RV_tmp rfl) RVs_nil) [] rfl ?_
   dsimp only [packed]
   refine ⟨?_, rfl⟩; subst h; simp [numIdx, ptrAt, *]
 refine G_seq ?_
 refine G_region (l := [0, 1]) rfl ?_
 refine G_val rfl rfl rfl rfl (V_eql rfl rfl rfl) ?_
 refine G_val rfl rfl rfl rfl (V_assign rfl rfl) ?_
 refine G_done ?_
 refine G_ifD rfl (fun hc7 => ?_) (fun hc7 => ?_)
 · skip
   refine G_seq ?_
   refine G_region (l := [0, 1, 2, 3]) rfl ?_
   refine G_val rfl rfl rfl rfl (V_move rfl rfl) ?_
   first
     | refine G_val rfl rfl rfl rfl (V_nilCheck rfl rfl) ?_
     | refine G_val rfl rfl rfl rfl (V_nilCheckF rfl rfl) ?_
   refine G_val rfl rfl rfl rfl (V_fieldAddr (fo := _ + 13) rfl Try.underlying40 rfl infMsgW_3 rfl rfl rfl) ?_
   refine G_val rfl rfl rfl rfl (V_assign rfl rfl) ?_
   refine G_done ?_
   refine G_ret (post := []) Try.func137 rfl (RVs_cons (RV_tmp rfl) RVs_nil) [] rfl ?_
   dsimp only [packed]
   refine ⟨?_, rfl⟩; subst h; simp [numIdx, ptrAt, *]
 refine G_seq ?_
 refine G_region (l := [0, 1]) rfl ?_
 refine G_val rfl rfl rfl rfl (V_eql rfl rfl rfl) ?_
 refine G_val rfl rfl rfl rfl (V_assign rfl rfl) ?_
 refine G_done ?_
 refine G_ifD rfl (fun hc8 => ?_) (fun hc8 => ?_)
 · skip
   refine G_seq ?_
   refine G_region (l := [0, 1, 2, 3]) rfl ?_
   refine G_val rfl rfl rfl rfl (V_move rfl rfl) ?_
   first
     | refine G_val rfl rfl rfl rfl (V_nilCheck rfl rfl) ?_
     | refine G_val rfl rfl rfl rfl (V_nilCheckF rfl rfl) ?_
   refine G_val rfl rfl rfl rfl (V_fieldAddr (fo := _ + 14) rfl Try.underlying40 rfl infMsgW_3 rfl rfl rfl) ?_
   refine G_val rfl rfl rfl rfl (V_assign rfl rfl) ?_
   refine G_done ?_
   refine G_ret (post := []) Try.func137 rfl (RVs_cons (RV_tmp rfl) RVs_nil) [] rfl ?_
   dsimp only [packed]
   refine ⟨?_, rfl⟩; subst h; simp [numIdx, ptrAt, *]
 refine G_seq ?_
 refine G_region (l := [0, 1]) rfl ?_
 refine G_val rfl rfl rfl rfl (V_eql rfl rfl rfl) ?_
 refine G_val rfl rfl rfl rfl (V_assign rfl rfl) ?_
 refine G_done ?_
 refine G_ifD rfl (fun hc9 => ?_) (fun hc9 => ?_)
 · skip
   refine G_seq ?_
   refine G_region (l := [0, 1, 2, 3]) rfl ?_
   refine G_val rfl rfl rfl rfl (V_move rfl rfl) ?_
   first
     | refine G_val rfl rfl rfl rfl (V_nilCheck rfl rfl) ?_
     | refine G_val rfl rfl rfl rfl (V_nilCheckF rfl rfl) ?_
   refine G_val rfl rfl rfl rfl (V_fieldAddr (fo := _ + 15) rfl Try.underlying40 rfl infMsgW_3 rfl rfl rfl) ?_
   refine G_val rfl rfl rfl rfl (V_assign rfl rfl) ?_
   refine G_done ?_
   refine G_ret (post := []) Try.func137 rfl (RVs_cons (RV_tmp rfl) RVs_nil) [] rfl ?_
   dsimp only [packed]
   refine ⟨?_, rfl⟩; subst h; simp [numIdx, ptrAt, *]
 refine G_skip ?_
 refine G_inBlock ?_
 refine G_seq ?_
 refine G_region (l := [0]) rfl ?_
 refine G_val rfl rfl rfl rfl (V_assign rfl rfl) ?_
 refine G_done ?_
 refine G_ret (post := []) Try.func137 rfl (RVs_cons (RV_tmp rfl) RVs_nil) [] rfl ?_
 dsimp only [packed]
 refine ⟨?_, rfl⟩; subst h; simp [numIdx, ptrAt, *]


theorem letter3 (c : Int) : (∃ i, textIdx c = some i ∧ numIdx c = none ∧ 1 ≤ i ∧ i ≤ 6) ∨ (∃ i, textIdx c = none ∧ numIdx c = some i ∧ 7 ≤ i ∧ i ≤ 15) ∨ (textIdx c = none ∧ numIdx c = none) := by
  rcases htx : textIdx c with _ | i
  · rcases hnx : numIdx c with _ | i
    · exact .inr (.inr ⟨rfl, rfl⟩)
    · have hb := numIdx_bd _ _ hnx
      exact .inr (.inl ⟨i, rfl, rfl, hb.1, hb.2⟩)
  · have hb := textIdx_bd _ _ htx
    exact .inl ⟨i, rfl, textIdx_num _ _ htx, hb.1, hb.2⟩

set_option maxRecDepth 100000 in
set_option maxHeartbeats 1000000 in
theorem msg_may (q : Rq) (hq : RqOk q) :
    Ct Try.prog 95 [.agg (rqCells q).toArray] [] [] fun v post => v = .bool (mayQ q) ∧ post = [] := by
 have htl := hq.2.1
 refine ct_of Try.func95 rfl rfl (fun w0 => ?_)
 show G _ _ [(0, _)] _ _
 refine G_seq ?_
 refine G_region (l := [0, 1]) rfl ?_
 refine G_new rfl rfl rfl rfl (N_boxA rfl rfl) (fun b1 => ?_)
 refine G_val rfl rfl rfl rfl (V_assign rfl rfl) ?_
 refine G_done ?_
 refine G_seq ?_
 refine G_seq ?_
 refine G_region (l := [0, 1, 2, 3]) rfl ?_
 refine G_val rfl rfl rfl rfl (V_fieldAddr (fo := 0) rfl Try.underlying40 rfl infMsgW_3 rfl rfl rfl) ?_
 refine G_val rfl rfl rfl rfl (V_load1 rfl rfl (mem_at 0 rfl) rfl Try.underlying3 rfl) ?_
 refine G_call (L2 := [_]) rfl rfl rfl rfl rfl rfl Try.call134 (msg_is _) [] [] rfl rfl ?_
 rintro v post ⟨rfl, rfl⟩
 show G _ _ _ [_] _
 refine G_val rfl rfl rfl rfl (V_not rfl rfl) ?_
 refine G_done ?_
 refine G_if rfl (fun hc1 => ?_) (fun hc1 => ?_)
 · skip
   refine G_seq ?_
   refine G_region (l := [0]) rfl ?_
   refine G_val rfl rfl rfl rfl (V_assign rfl rfl) ?_
   refine G_done ?_
   refine G_ret (post := []) Try.func95 rfl (RVs_cons (RV_tmp rfl) RVs_nil) [] rfl ?_
   dsimp only [packed]
   first
     | exact ⟨bool_eq (may_no1 (by assumption)).symm, rfl⟩
     | exact ⟨bool_eq (may_no2 hlt (by first | (rw [okL_text htx]; simp; omega) | (rw [okL_num htx hnx]; simp; omega))).symm, rfl⟩
     | exact ⟨bool_eq (may_yes (by assumption) hlt hall).symm, rfl⟩
 refine G_skip ?_
 refine G_seq ?_
 refine G_seq ?_
 refine G_region (l := [0, 1, 2, 3]) rfl ?_
 refine G_val rfl rfl rfl rfl (V_fieldAddr (fo := 0) rfl Try.underlying40 rfl infMsgW_3 rfl rfl rfl) ?_
 refine G_val rfl rfl rfl rfl (V_load1 rfl rfl (mem_at 0 rfl) rfl Try.underlying3 rfl) ?_
 refine G_call (L2 := [_]) rfl rfl rfl rfl rfl rfl Try.call135 (msg_fields _) [] [] rfl rfl ?_
 rintro v post ⟨rfl, rfl⟩
 show G _ _ _ [_] _
 refine G_new rfl rfl rfl rfl (N_range rfl Try.underlying9 rfl) (fun b14 => ?_)
 refine G_done ?_
 refine G_block ?_
 refine G_sub ?he4 [0, 0] ?hl4 (G_loop (X := Nat) (fun k => k ≤ (fieldsK q.kind).length ∧ ((fieldsK q.kind).take k).all (okL q) = true) (fun k => (fieldsK q.kind).length - k) (fun k => [(1, .pointer (some ⟨b1, 0, none⟩)), (14, .pointer (some ⟨b14, 0, none⟩))]) (fun k => [(some b14, .stringIter (bs (fieldsK q.kind)) k), (some b1, .cells (rqCells q).toArray 40 (0, 0))]) ?round4 0 ?h04)
 case he4 => exact (And.intro rfl (And.intro rfl trivial))
 case hl4 => exact ⟨_, rfl⟩
 case h04 => exact ⟨Nat.zero_le _, rfl⟩
 case round4 =>
  intro k hJ ih
  try dsimp only at hJ ih
  obtain ⟨hk, hall⟩ := hJ
  have hti := htl
  clear htl
  refine G_seq ?_
  refine G_region (l := [0, 1]) rfl ?_
  rcases Nat.lt_or_ge k (fieldsK q.kind).length with hlt | hlt
  · skip
    refine G_putV (l1 := []) (L' := [_, _]) rfl rfl rfl rfl rfl (P_next rfl rfl (mem_at 0 rfl) hlt (fieldsK_ascii q.kind k hlt)) rfl ?_
    refine G_val rfl rfl rfl rfl (V_extract rfl rfl rfl) ?_
    refine G_done ?_
    refine G_seq ?_
    refine G_then rfl ?_
    refine G_skip ?_
    refine G_block ?_
    refine G_seq ?_
    refine G_region (l := [0, 1]) rfl ?_
    refine G_val rfl rfl rfl rfl (V_extract rfl rfl rfl) ?_
    refine G_val rfl rfl rfl rfl (V_assign rfl rfl) ?_
    refine G_done ?_
    refine G_seq ?_
    refine G_seq ?_
    rcases letter3 (((fieldsK q.kind).getD k 0).toNat : Int) with ⟨i, htx, hnx, hb1, hb2⟩ | ⟨i, htx, hnx, hb1, hb2⟩ | ⟨htx, hnx⟩
    · skip
      refine G_region (l := [0, 1, 2]) rfl ?_
      refine G_val rfl rfl rfl rfl (V_move rfl rfl) ?_
      refine G_call (L2 := [_, _]) rfl rfl rfl rfl rfl rfl Try.call136 (msg_text _ _ (some i) htx) [] [] rfl rfl ?_
      rintro v post ⟨rfl, rfl⟩
      show G _ _ _ [_, _] _
      refine G_val rfl rfl rfl rfl (V_assign rfl rfl) ?_
      refine G_done ?_
      refine G_seq ?_
      refine G_region (l := [0, 1, 2, 3, 4, 5, 6, 7, 8]) rfl ?_
      refine G_val rfl rfl rfl rfl (V_move rfl rfl) ?_
      refine G_val rfl rfl rfl rfl (V_pneqN rfl Try.underlying187 rfl rfl) ?_
      refine G_val rfl rfl rfl rfl (V_move rfl rfl) ?_
      refine G_val rfl rfl rfl rfl (V_move rfl rfl) ?_
      first
        | refine G_val rfl rfl rfl rfl (V_nilCheck rfl rfl) ?_
        | refine G_val rfl rfl rfl rfl (V_nilCheckF rfl rfl) ?_
      refine G_val rfl rfl rfl rfl (V_load1 rfl rfl (mem_at 1 rfl) (nth_of (rqCells_text q i hb1 hb2)) Try.underlying9 rfl) ?_
      refine G_val rfl rfl rfl rfl (V_slen rfl rfl Try.underlying9 rfl) ?_
      refine G_val rfl rfl rfl rfl (V_gtr rfl rfl rfl) ?_
      refine G_val rfl rfl rfl rfl (V_pickT rfl rfl rfl) ?_
      refine G_done ?_
      refine G_ifD rfl (fun hc2 => ?_) (fun hc2 => ?_)
      · skip
        refine G_seq ?_
        refine G_region (l := [0]) rfl ?_
        refine G_val rfl rfl rfl rfl (V_assign rfl rfl) ?_
        refine G_done ?_
        refine G_ret (post := []) Try.func95 rfl (RVs_cons (RV_tmp rfl) RVs_nil) [] rfl ?_
        dsimp only [packed]
        first
          | exact ⟨bool_eq (may_no1 (by assumption)).symm, rfl⟩
          | exact ⟨bool_eq (may_no2 hlt (by first | (rw [okL_text htx]; simp; omega) | (rw [okL_num htx hnx]; simp; omega))).symm, rfl⟩
          | exact ⟨bool_eq (may_yes (by assumption) hlt hall).symm, rfl⟩
      refine G_skip ?_
      refine G_seq ?_
      refine G_region (l := [0, 1, 2]) rfl ?_
      refine G_val rfl rfl rfl rfl (V_move rfl rfl) ?_
      refine G_call (L2 := [_, _]) rfl rfl rfl rfl rfl rfl Try.call137 (msg_number _ _ none hnx) [] [] rfl rfl ?_
      rintro v post ⟨rfl, rfl⟩
      show G _ _ _ [_, _] _
      refine G_val rfl rfl rfl rfl (V_assign rfl rfl) ?_
      refine G_done ?_
      refine G_seq ?_
      refine G_region (l := [0, 1, 2, 3, 4, 5, 6, 7, 8, 9, 10, 11, 12, 13]) rfl ?_
      refine G_val rfl rfl rfl rfl (V_move rfl rfl) ?_
      refine G_val rfl rfl rfl rfl (V_pneqN rfl Try.underlying99 rfl rfl) ?_
      refine G_val rfl rfl rfl rfl (V_move rfl rfl) ?_
      refine G_off rfl rfl rfl rfl ?_
      refine G_off rfl rfl rfl rfl ?_
      refine G_off rfl rfl rfl rfl ?_
      refine G_off rfl rfl rfl rfl ?_
      refine G_off rfl rfl rfl rfl ?_
      refine G_off rfl rfl rfl rfl ?_
      refine G_off rfl rfl rfl rfl ?_
      refine G_off rfl rfl rfl rfl ?_
      refine G_off rfl rfl rfl rfl ?_
      refine G_off rfl rfl rfl rfl ?_
      refine G_val rfl rfl rfl rfl (V_pickF rfl rfl rfl) ?_
      refine G_done ?_
      refine G_else rfl ?_
      refine G_skip ?_
      refine G_inBlock ?_
      refine G_sub ?_ [0, 0] ?_ (ih (k + 1) ?_ ?_)
      · (refine (And.intro ?_ (And.intro ?_ trivial)) <;> first | rfl | exact slot_int (by omega) | exact slot_int (by simp))
      · exact ⟨_, rfl⟩
      · exact ⟨hlt, may_next hlt hall (by first | exact okL_flag htx hnx | (rw [okL_text htx]; simp; omega) | (rw [okL_num htx hnx]; simp; omega))⟩
      · (first | omega | (dsimp only; omega))
    · skip
      refine G_region (l := [0, 1, 2]) rfl ?_
      refine G_val rfl rfl rfl rfl (V_move rfl rfl) ?_
      refine G_call (L2 := [_, _]) rfl rfl rfl rfl rfl rfl Try.call136 (msg_text _ _ none htx) [] [] rfl rfl ?_
      rintro v post ⟨rfl, rfl⟩
      show G _ _ _ [_, _] _
      refine G_val rfl rfl rfl rfl (V_assign rfl rfl) ?_
      refine G_done ?_
      refine G_seq ?_
      refine G_region (l := [0, 1, 2, 3, 4, 5, 6, 7, 8]) rfl ?_
      refine G_val rfl rfl rfl rfl (V_move rfl rfl) ?_
      refine G_val rfl rfl rfl rfl (V_pneqN rfl Try.underlying187 rfl rfl) ?_
      refine G_val rfl rfl rfl rfl (V_move rfl rfl) ?_
      refine G_off rfl rfl rfl rfl ?_
      refine G_off rfl rfl rfl rfl ?_
      refine G_off rfl rfl rfl rfl ?_
      refine G_off rfl rfl rfl rfl ?_
      refine G_off rfl rfl rfl rfl ?_
      refine G_val rfl rfl rfl rfl (V_pickF rfl rfl rfl) ?_
      refine G_done ?_
      refine G_else rfl ?_
      refine G_skip ?_
      refine G_seq ?_
      refine G_region (l := [0, 1, 2]) rfl ?_
      refine G_val rfl rfl rfl rfl (V_move rfl rfl) ?_
      refine G_call (L2 := [_, _]) rfl rfl rfl rfl rfl rfl Try.call137 (msg_number _ _ (some i) hnx) [] [] rfl rfl ?_
      rintro v post ⟨rfl, rfl⟩
      show G _ _ _ [_, _] _
      refine G_val rfl rfl rfl rfl (V_assign rfl rfl) ?_
      refine G_done ?_
      refine G_seq ?_
      refine G_region (l := [0, 1, 2, 3, 4, 5, 6, 7, 8, 9, 10, 11, 12, 13]) rfl ?_
      refine G_val rfl rfl rfl rfl (V_move rfl rfl) ?_
      refine G_val rfl rfl rfl rfl (V_pneqN rfl Try.underlying99 rfl rfl) ?_
      refine G_val rfl rfl rfl rfl (V_move rfl rfl) ?_
      refine G_val rfl rfl rfl rfl (V_move rfl rfl) ?_
      first
        | refine G_val rfl rfl rfl rfl (V_nilCheck rfl rfl) ?_
        | refine G_val rfl rfl rfl rfl (V_nilCheckF rfl rfl) ?_
      refine G_val rfl rfl rfl rfl (V_load1 rfl rfl (mem_at 1 rfl) (nth_of (rqCells_num q i hb1 hb2)) Try.underlying3 rfl) ?_
      refine G_val rfl rfl rfl rfl (V_lss rfl rfl rfl) ?_
      refine G_val rfl rfl rfl rfl (V_move rfl rfl) ?_
      refine G_splitD 38 rfl (fun hc2 => ?_) (fun hc2 => ?_)
      · skip
        refine G_off rfl rfl rfl rfl ?_
        refine G_off rfl rfl rfl rfl ?_
        refine G_off rfl rfl rfl rfl ?_
        refine G_off rfl rfl rfl rfl ?_
        refine G_val rfl rfl rfl rfl (V_pickT rfl rfl rfl) ?_
        refine G_val rfl rfl rfl rfl (V_pickT rfl rfl rfl) ?_
        refine G_done ?_
        refine G_then rfl ?_
        refine G_seq ?_
        refine G_region (l := [0]) rfl ?_
        refine G_val rfl rfl rfl rfl (V_assign rfl rfl) ?_
        refine G_done ?_
        refine G_ret (post := []) Try.func95 rfl (RVs_cons (RV_tmp rfl) RVs_nil) [] rfl ?_
        dsimp only [packed]
        first
          | exact ⟨bool_eq (may_no1 (by assumption)).symm, rfl⟩
          | exact ⟨bool_eq (may_no2 hlt (by first | (rw [okL_text htx]; simp; omega) | (rw [okL_num htx hnx]; simp; omega))).symm, rfl⟩
          | exact ⟨bool_eq (may_yes (by assumption) hlt hall).symm, rfl⟩
      refine G_val rfl rfl rfl rfl (V_move rfl rfl) ?_
      first
        | refine G_val rfl rfl rfl rfl (V_nilCheck rfl rfl) ?_
        | refine G_val rfl rfl rfl rfl (V_nilCheckF rfl rfl) ?_
      refine G_val rfl rfl rfl rfl (V_load1 rfl rfl (mem_at 1 rfl) (nth_of (rqCells_num q i hb1 hb2)) Try.underlying3 rfl) ?_
      refine G_val rfl rfl rfl rfl (V_gtr rfl rfl rfl) ?_
      refine G_val rfl rfl rfl rfl (V_pickF rfl rfl rfl) ?_
      refine G_val rfl rfl rfl rfl (V_pickT rfl rfl rfl) ?_
      refine G_done ?_
      refine G_ifD rfl (fun hc3 => ?_) (fun hc3 => ?_)
      · skip
        refine G_seq ?_
        refine G_region (l := [0]) rfl ?_
        refine G_val rfl rfl rfl rfl (V_assign rfl rfl) ?_
        refine G_done ?_
        refine G_ret (post := []) Try.func95 rfl (RVs_cons (RV_tmp rfl) RVs_nil) [] rfl ?_
        dsimp only [packed]
        first
          | exact ⟨bool_eq (may_no1 (by assumption)).symm, rfl⟩
          | exact ⟨bool_eq (may_no2 hlt (by first | (rw [okL_text htx]; simp; omega) | (rw [okL_num htx hnx]; simp; omega))).symm, rfl⟩
          | exact ⟨bool_eq (may_yes (by assumption) hlt hall).symm, rfl⟩
      refine G_skip ?_
      refine G_inBlock ?_
      refine G_sub ?_ [0, 0] ?_ (ih (k + 1) ?_ ?_)
      · (refine (And.intro ?_ (And.intro ?_ trivial)) <;> first | rfl | exact slot_int (by omega) | exact slot_int (by simp))
      · exact ⟨_, rfl⟩
      · exact ⟨hlt, may_next hlt hall (by first | exact okL_flag htx hnx | (rw [okL_text htx]; simp; omega) | (rw [okL_num htx hnx]; simp; omega))⟩
      · (first | omega | (dsimp only; omega))
    · skip
      refine G_region (l := [0, 1, 2]) rfl ?_
      refine G_val rfl rfl rfl rfl (V_move rfl rfl) ?_
      refine G_call (L2 := [_, _]) rfl rfl rfl rfl rfl rfl Try.call136 (msg_text _ _ none htx) [] [] rfl rfl ?_
      rintro v post ⟨rfl, rfl⟩
      show G _ _ _ [_, _] _
      refine G_val rfl rfl rfl rfl (V_assign rfl rfl) ?_
      refine G_done ?_
      refine G_seq ?_
      refine G_region (l := [0, 1, 2, 3, 4, 5, 6, 7, 8]) rfl ?_
      refine G_val rfl rfl rfl rfl (V_move rfl rfl) ?_
      refine G_val rfl rfl rfl rfl (V_pneqN rfl Try.underlying187 rfl rfl) ?_
      refine G_val rfl rfl rfl rfl (V_move rfl rfl) ?_
      refine G_off rfl rfl rfl rfl ?_
      refine G_off rfl rfl rfl rfl ?_
      refine G_off rfl rfl rfl rfl ?_
      refine G_off rfl rfl rfl rfl ?_
      refine G_off rfl rfl rfl rfl ?_
      refine G_val rfl rfl rfl rfl (V_pickF rfl rfl rfl) ?_
      refine G_done ?_
      refine G_else rfl ?_
      refine G_skip ?_
      refine G_seq ?_
      refine G_region (l := [0, 1, 2]) rfl ?_
      refine G_val rfl rfl rfl rfl (V_move rfl rfl) ?_
      refine G_call (L2 := [_, _]) rfl rfl rfl rfl rfl rfl Try.call137 (msg_number _ _ none hnx) [] [] rfl rfl ?_
      rintro v post ⟨rfl, rfl⟩
      show G _ _ _ [_, _] _
      refine G_val rfl rfl rfl rfl (V_assign rfl rfl) ?_
      refine G_done ?_
      refine G_seq ?_
      refine G_region (l := [0, 1, 2, 3, 4, 5, 6, 7, 8, 9, 10, 11, 12, 13]) rfl ?_
      refine G_val rfl rfl rfl rfl (V_move rfl rfl) ?_
      refine G_val rfl rfl rfl rfl (V_pneqN rfl Try.underlying99 rfl rfl) ?_
      refine G_val rfl rfl rfl rfl (V_move rfl rfl) ?_
      refine G_off rfl rfl rfl rfl ?_
      refine G_off rfl rfl rfl rfl ?_
      refine G_off rfl rfl rfl rfl ?_
      refine G_off rfl rfl rfl rfl ?_
      refine G_off rfl rfl rfl rfl ?_
      refine G_off rfl rfl rfl rfl ?_
      refine G_off rfl rfl rfl rfl ?_
      refine G_off rfl rfl rfl rfl ?_
      refine G_off rfl rfl rfl rfl ?_
      refine G_off rfl rfl rfl rfl ?_
      refine G_val rfl rfl rfl rfl (V_pickF rfl rfl rfl) ?_
      refine G_done ?_
      refine G_else rfl ?_
      refine G_skip ?_
      refine G_inBlock ?_
      refine G_sub ?_ [0, 0] ?_ (ih (k + 1) ?_ ?_)
      · (refine (And.intro ?_ (And.intro ?_ trivial)) <;> first | rfl | exact slot_int (by omega) | exact slot_int (by simp))
      · exact ⟨_, rfl⟩
      · exact ⟨hlt, may_next hlt hall (by first | exact okL_flag htx hnx | (rw [okL_text htx]; simp; omega) | (rw [okL_num htx hnx]; simp; omega))⟩
      · (first | omega | (dsimp only; omega))
  refine G_val rfl rfl rfl rfl (V_nextE rfl rfl (mem_at 0 rfl) hlt) ?_
  refine G_val rfl rfl rfl rfl (V_extract rfl rfl rfl) ?_
  refine G_done ?_
  refine G_seq ?_
  refine G_else rfl ?_
  refine G_exit rfl ?_
  refine G_seq ?_
  refine G_region (l := [0]) rfl ?_
  refine G_val rfl rfl rfl rfl (V_assign rfl rfl) ?_
  refine G_done ?_
  refine G_ret (post := []) Try.func95 rfl (RVs_cons (RV_tmp rfl) RVs_nil) [] rfl ?_
  dsimp only [packed]
  first
    | exact ⟨bool_eq (may_no1 (by assumption)).symm, rfl⟩
    | exact ⟨bool_eq (may_no2 hlt (by first | (rw [okL_text htx]; simp; omega) | (rw [okL_num htx hnx]; simp; omega))).symm, rfl⟩
    | exact ⟨bool_eq (may_yes (by assumption) hlt hall).symm, rfl⟩

end
end Go.Proofs.Ytkidmbaakdaflaa
