/- The walks of layer 24, on: the super of a block; the document's answer. -/
import Derived.Test.YtkidmbaakdaflaaSuperW
set_option linter.unusedSimpArgs false
set_option linter.unusedVariables false
namespace Go.Proofs.Ytkidmbaakdaflaa
open Go Go.RowKit

section
theorem infSuperR_3 : Try.prog.info? 3 = some Try.t3 := by kernel_rfl
theorem infSuperR_9 : Try.prog.info? 9 = some Try.t9 := by kernel_rfl
theorem infSuperR_73 : Try.prog.info? 73 = some Try.t73 := by kernel_rfl
theorem infSuperR_75 : Try.prog.info? 75 = some Try.t75 := by kernel_rfl
theorem plcSuperR_75 : placesOf Try.prog (Try.prog.fieldsOf 75) = some [(0, 1), (1, 1), (2, 1), (3, 1), (4, 1)] := by kernel_rfl


theorem open_tup {b : List UInt8} (h : openOk b = true) : openT b = .tuple #[.int .u32 ((openE b : Nat) : Int), .int .u32 ((openI b : Nat) : Int), .string (bs (openD b)), .bool true] := by unfold openT; rw [h]
theorem isS_not1 {b : List UInt8} (h : openOk b = false) : ¬ isS b := fun x => absurd (h.symm.trans x.1) Bool.false_ne_true
theorem isS_not2 {b : List UInt8} (h : ¬ (openD b).take 2 = [66, 76]) : ¬ isS b := fun x => h (isS_magic x)
theorem is3 (b : List UInt8) (ho : openOk b = true) : isS b ∨ (¬ isS b ∧ ¬ MayS (getS (openD b))) ∨ (¬ isS b ∧ MayS (getS (openD b)) ∧ ¬ encS (getS (openD b)) = b) := by
  by_cases h : isS b
  · exact .inl h
  · by_cases hm : MayS (getS (openD b))
    · exact .inr (.inr ⟨h, hm, fun e => h ⟨ho, hm, e⟩⟩)
    · exact .inr (.inl ⟨h, hm⟩)
theorem enc_is {b : List UInt8} (h : isS b) : encT (getS (openD b)) = b ∧ encE (getS (openD b)) = 0 := by
  obtain ⟨e1, e2⟩ := encT_yes (decide_eq_true h.2.1)
  exact ⟨e1.trans h.2.2, e2⟩
theorem cut_at (l : List UInt8) (a n : Nat) : (l.take (a + n)).drop a = (l.drop a).take n := by rw [List.drop_take]; congr 1; omega
theorem num_in (l : List UInt8) (a n : Nat) : num ((l.drop a).take n) < 256 ^ n := num_len_lt (by simp; omega)
def decT (b : List UInt8) : Value := .tuple #[.agg (spCells (decS b)).toArray, .bool (decide (isS b))]
theorem decT_yes {b : List UInt8} (h : isS b) : decT b = .tuple #[.agg (spCells (getS (openD b))).toArray, .bool true] := by unfold decT; rw [decS_yes h, decide_eq_true h]
theorem decT_no {b : List UInt8} (h : ¬ isS b) : decT b = .tuple #[.agg (spCells zeroSp).toArray, .bool false] := by unfold decT; rw [decS_no h, decide_eq_false h]

set_option maxRecDepth 100000 in
set_option maxHeartbeats 1000000 in
theorem sup_dec1 (b6 b8 : Nat) (D : List UInt8) (a n : Nat) (hn : 1 ≤ n ∧ n ≤ 8) (hl : a + n ≤ D.length) (hD : D.length ≤ 1000) :
    Ct Try.prog 119 [.int .i64 (n : Int), .pointer (some ⟨b6, 0, none⟩), .pointer (some ⟨b8, 0, none⟩)] [(some b6, .cells #[.string (bs D)] 9 (0, 0))] [(some b8, .cells #[.int .i64 (a : Int)] 3 (0, 0))] fun v post => v = .int .u64 ((num ((D.drop a).take n) : Nat) : Int) ∧ post = [(some b8, .cells #[.int .i64 ((a + n : Nat) : Int)] 3 (0, 0))] := by
 obtain ⟨hn1, hn8⟩ := hn
 refine ct_of Try.func119 rfl rfl (fun w0 => ?_)
 show G _ _ [(0, _), (1, _), (2, _)] _ _
 refine G_seq ?_
 refine G_region (l := [0]) rfl ?_
 refine G_val rfl rfl rfl rfl (V_assign rfl rfl) ?_
 refine G_done ?_
 refine G_seq ?_
 refine G_region (l := [0, 1, 2, 3, 4, 5, 6, 7, 8, 9, 10, 11]) rfl ?_
 refine G_val rfl rfl rfl rfl (V_load1 rfl rfl (mem_at 0 rfl) rfl Try.underlying9 rfl) ?_
 refine G_val rfl rfl rfl rfl (V_load1 rfl rfl (mem_at 1 rfl) rfl Try.underlying3 rfl) ?_
 refine G_val rfl rfl rfl rfl (V_load1 rfl rfl (mem_at 1 rfl) rfl Try.underlying3 rfl) ?_
 refine G_val rfl rfl rfl rfl (V_move rfl rfl) ?_
 refine G_val rfl rfl rfl rfl (Val.int (e' := ((a + n : Nat) : Int)) (V_add rfl rfl rfl) (by rw [wrap_i64 (by omega)]; omega)) ?_
 refine G_val rfl rfl rfl rfl (V_ssliceN (lo := a) (hi := a + n) rfl Try.underlying9 rfl rfl rfl rfl rfl (by omega) (by omega)) ?_
 refine G_call (L2 := [_]) rfl rfl rfl rfl rfl rfl Try.call120 (ct_number ((D.take (a + n)).drop a) (by simp; omega) (by simp; omega)) [] [] rfl rfl ?_
 rintro v post ⟨rfl, rfl⟩
 show G _ _ _ [_] _
 refine G_val rfl rfl rfl rfl (V_move rfl rfl) ?_
 refine G_val rfl rfl rfl rfl (V_extract rfl rfl rfl) ?_
 refine G_val rfl rfl rfl rfl (V_extract rfl rfl rfl) ?_
 refine G_val rfl rfl rfl rfl (V_assign rfl rfl) ?_
 refine G_val rfl rfl rfl rfl (V_assign rfl rfl) ?_
 refine G_done ?_
 refine G_seq ?_
 refine G_region (l := [0, 1, 2, 3]) rfl ?_
 refine G_val rfl rfl rfl rfl (V_load1 rfl rfl (mem_at 1 rfl) rfl Try.underlying3 rfl) ?_
 refine G_val rfl rfl rfl rfl (V_move rfl rfl) ?_
 refine G_val rfl rfl rfl rfl (Val.int (e' := ((a + n : Nat) : Int)) (V_add rfl rfl rfl) (by rw [wrap_i64 (by omega)]; omega)) ?_
 refine G_put (l1 := []) (L' := [_]) rfl rfl rfl rfl (P_store1 rfl rfl rfl (mem_at 0 rfl) (by first | exact of_decide_eq_true rfl | omega | (simp [spCells, pCells, spCells, pCells]; done) | (simp [spCells, pCells, spCells, pCells]; omega) | (simp [spCells, pCells, spCells, pCells] at *; omega)) infSuperR_3 rfl rfl) rfl ?_
 refine G_done ?_
 refine G_seq ?_
 refine G_region (l := [0, 1]) rfl ?_
 refine G_val rfl rfl rfl rfl (V_move rfl rfl) ?_
 refine G_val rfl rfl rfl rfl (V_assign rfl rfl) ?_
 refine G_done ?_
 refine G_ret (post := [_]) Try.func119 rfl (RVs_cons (RV_tmp rfl) RVs_nil) [0] rfl ?_
 dsimp only [packed]
 rw [cut_at]; exact ⟨rfl, rfl⟩

set_option maxRecDepth 100000 in
set_option maxHeartbeats 1000000 in
theorem sup_decode (b : List UInt8) (hb : b.length ≤ 9223372036854775807) :
    Ct Try.prog 50 [.string (bs b)] [] [] fun v post => v = decT b ∧ post = [] := by
 refine ct_of Try.func50 rfl rfl (fun w0 => ?_)
 show G _ _ [(0, _)] _ _
 refine G_seq ?_
 refine G_region (l := [0, 1]) rfl ?_
 refine G_new rfl rfl rfl rfl (N_allocA rfl infSuperR_75 rfl) (fun b2 => ?_)
 refine G_val rfl rfl rfl rfl (V_assign rfl rfl) ?_
 refine G_done ?_
 refine G_seq ?_
 cases ho : openOk b
 · skip
   refine G_region (l := [0, 1, 2, 3, 4, 5, 6, 7, 8, 9, 10, 11]) rfl ?_
   refine G_val rfl rfl rfl rfl (V_move rfl rfl) ?_
   refine G_call (L2 := [_]) rfl rfl rfl rfl rfl rfl Try.call118 ((seal_open b hb).weaken (fun v post h => by rw [open_not ho] at h; exact h)) [] [] rfl rfl ?_
   rintro v post ⟨rfl, rfl⟩
   show G _ _ _ [_] _
   refine G_val rfl rfl rfl rfl (V_move rfl rfl) ?_
   refine G_val rfl rfl rfl rfl (V_extract rfl rfl rfl) ?_
   refine G_val rfl rfl rfl rfl (V_extract rfl rfl rfl) ?_
   refine G_val rfl rfl rfl rfl (V_extract rfl rfl rfl) ?_
   refine G_val rfl rfl rfl rfl (V_extract rfl rfl rfl) ?_
   refine G_new rfl rfl rfl rfl (N_alloc1 rfl infSuperR_9 rfl rfl) (fun b6 => ?_)
   refine G_val rfl rfl rfl rfl (V_assign rfl rfl) ?_
   refine G_val rfl rfl rfl rfl (V_assign rfl rfl) ?_
   refine G_put (l1 := []) (L' := [_, _]) rfl rfl rfl rfl (P_store1 rfl rfl rfl (mem_at 0 rfl) (by first | exact of_decide_eq_true rfl | omega | (simp [spCells, pCells, spCells, pCells]; done) | (simp [spCells, pCells, spCells, pCells]; omega) | (simp [spCells, pCells, spCells, pCells] at *; omega)) infSuperR_9 rfl rfl) rfl ?_
   refine G_val rfl rfl rfl rfl (V_assign rfl rfl) ?_
   refine G_done ?_
   refine G_seq ?_
   refine G_seq ?_
   first | have hd48 := openD_64 ho | skip
   refine G_region (l := [0, 1, 2, 3, 4, 5, 6]) rfl ?_
   refine G_val rfl rfl rfl rfl (V_move rfl rfl) ?_
   refine G_val rfl rfl rfl rfl (V_not rfl rfl) ?_
   refine G_val rfl rfl rfl rfl (V_move rfl rfl) ?_
   refine G_split 22 rfl (fun hc1 => ?_) (fun hc1 => ?_)
   rotate_left
   · (first | (exact absurd rfl hc1) | (exact absurd hc1 Bool.false_ne_true) | (exact absurd hc1 (by decide)) | (exact absurd hc1 hne) | (exact absurd hne hc1) | (exfalso; omega))
   refine G_off rfl rfl rfl rfl ?_
   refine G_off rfl rfl rfl rfl ?_
   refine G_off rfl rfl rfl rfl ?_
   refine G_val rfl rfl rfl rfl (V_pickT rfl rfl rfl) ?_
   refine G_done ?_
   refine G_then rfl ?_
   refine G_seq ?_
   refine G_region (l := [0, 1, 2]) rfl ?_
   refine G_val rfl rfl rfl rfl (V_buildS (cs := [_, _, _, _, _]) rfl Try.underlying75 infSuperR_75 rfl plcSuperR_75 rfl rfl rfl) ?_
   refine G_put (l1 := [_]) (L' := [_, _]) rfl rfl rfl rfl (P_storeA (s := 5) rfl rfl rfl (mem_at 1 rfl) (by first | rfl | (simp [bcells_length, spCells, pCells, spCells, pCells]; done) | (simp [bcells_length, spCells, pCells, spCells, pCells]; omega) | (simp [bcells_length, *, spCells, pCells, spCells, pCells]; done)) infSuperR_75 rfl (by first | rfl | (simp [bcells_length, spCells, pCells, spCells, pCells]; done) | (simp [bcells_length, spCells, pCells, spCells, pCells]; omega) | (simp [bcells_length, *, spCells, pCells, spCells, pCells]; done)) (by first | rfl | exact bcells_all _ | (simp [Value.oneCell', spCells, pCells, spCells, pCells]; done) | (simp [Value.oneCell', *, spCells, pCells, spCells, pCells]; done))) rfl ?_
   refine G_val rfl rfl rfl rfl (V_assign rfl rfl) ?_
   refine G_done ?_
   refine G_ret (post := []) Try.func50 rfl (RVs_cons (RV_cell (s := 5) rfl (mem_at 1 rfl) Try.underlying75 rfl infSuperR_75 rfl (by first | rfl | (simp [bcells_length, spCells, pCells, spCells, pCells]; done) | (simp [bcells_length, spCells, pCells, spCells, pCells]; omega) | (simp [bcells_length, *, spCells, pCells, spCells, pCells]; done))) (RVs_cons (RV_tmp rfl) RVs_nil)) [] rfl ?_
   dsimp only [packed]
   first
     | exact ⟨(decT_no (isS_not1 ho)).symm, rfl⟩
     | exact ⟨(decT_no (isS_not2 (by assumption))).symm, rfl⟩
     | exact ⟨(decT_no his).symm, rfl⟩
     | exact ⟨(decT_yes his).symm, rfl⟩
 · skip
   refine G_region (l := [0, 1, 2, 3, 4, 5, 6, 7, 8, 9, 10, 11]) rfl ?_
   refine G_val rfl rfl rfl rfl (V_move rfl rfl) ?_
   refine G_call (L2 := [_]) rfl rfl rfl rfl rfl rfl Try.call118 ((seal_open b hb).weaken (fun v post h => by rw [open_tup ho] at h; exact h)) [] [] rfl rfl ?_
   rintro v post ⟨rfl, rfl⟩
   show G _ _ _ [_] _
   refine G_val rfl rfl rfl rfl (V_move rfl rfl) ?_
   refine G_val rfl rfl rfl rfl (V_extract rfl rfl rfl) ?_
   refine G_val rfl rfl rfl rfl (V_extract rfl rfl rfl) ?_
   refine G_val rfl rfl rfl rfl (V_extract rfl rfl rfl) ?_
   refine G_val rfl rfl rfl rfl (V_extract rfl rfl rfl) ?_
   refine G_new rfl rfl rfl rfl (N_alloc1 rfl infSuperR_9 rfl rfl) (fun b6 => ?_)
   refine G_val rfl rfl rfl rfl (V_assign rfl rfl) ?_
   refine G_val rfl rfl rfl rfl (V_assign rfl rfl) ?_
   refine G_put (l1 := []) (L' := [_, _]) rfl rfl rfl rfl (P_store1 rfl rfl rfl (mem_at 0 rfl) (by first | exact of_decide_eq_true rfl | omega | (simp [spCells, pCells, spCells, pCells]; done) | (simp [spCells, pCells, spCells, pCells]; omega) | (simp [spCells, pCells, spCells, pCells] at *; omega)) infSuperR_9 rfl rfl) rfl ?_
   refine G_val rfl rfl rfl rfl (V_assign rfl rfl) ?_
   refine G_done ?_
   refine G_seq ?_
   refine G_seq ?_
   first | have hd48 := openD_64 ho | skip
   refine G_region (l := [0, 1, 2, 3, 4, 5, 6]) rfl ?_
   refine G_val rfl rfl rfl rfl (V_move rfl rfl) ?_
   refine G_val rfl rfl rfl rfl (V_not rfl rfl) ?_
   refine G_val rfl rfl rfl rfl (V_move rfl rfl) ?_
   refine G_split 22 rfl (fun hc1 => ?_) (fun hc1 => ?_)
   · (first | (exact absurd rfl hc1) | (exact absurd hc1 Bool.false_ne_true) | (exact absurd hc1 (by decide)) | (exact absurd hc1 hne) | (exact absurd hne hc1) | (exfalso; omega))
   refine G_val rfl rfl rfl rfl (V_load1 rfl rfl (mem_at 0 rfl) rfl Try.underlying9 rfl) ?_
   first
     | refine G_val rfl rfl rfl rfl (V_ssliceHN (hi := 2) rfl Try.underlying9 rfl rfl rfl (by first | omega | (simp [spCells, pCells, spCells, pCells]; done) | (simp [spCells, pCells, spCells, pCells]; omega) | (simp [spCells, pCells, spCells, pCells] at *; omega))) ?_
     | refine G_val rfl rfl rfl rfl (V_ssliceH rfl Try.underlying9 rfl rfl (by first | omega | (simp [spCells, pCells, spCells, pCells]; done) | (simp [spCells, pCells, spCells, pCells]; omega) | (simp [spCells, pCells, spCells, pCells] at *; omega)) (by first | omega | (simp [spCells, pCells, spCells, pCells]; done) | (simp [spCells, pCells, spCells, pCells]; omega) | (simp [spCells, pCells, spCells, pCells] at *; omega))) ?_
   refine G_val rfl rfl rfl rfl (V_sneq rfl rfl rfl) ?_
   refine G_val rfl rfl rfl rfl (V_pickF rfl rfl rfl) ?_
   refine G_done ?_
   refine G_ifD rfl (fun hc2 => ?_) (fun hc2 => ?_)
   · skip
     refine G_seq ?_
     refine G_region (l := [0, 1, 2]) rfl ?_
     refine G_val rfl rfl rfl rfl (V_buildS (cs := [_, _, _, _, _]) rfl Try.underlying75 infSuperR_75 rfl plcSuperR_75 rfl rfl rfl) ?_
     refine G_put (l1 := [_]) (L' := [_, _]) rfl rfl rfl rfl (P_storeA (s := 5) rfl rfl rfl (mem_at 1 rfl) (by first | rfl | (simp [bcells_length, spCells, pCells, spCells, pCells]; done) | (simp [bcells_length, spCells, pCells, spCells, pCells]; omega) | (simp [bcells_length, *, spCells, pCells, spCells, pCells]; done)) infSuperR_75 rfl (by first | rfl | (simp [bcells_length, spCells, pCells, spCells, pCells]; done) | (simp [bcells_length, spCells, pCells, spCells, pCells]; omega) | (simp [bcells_length, *, spCells, pCells, spCells, pCells]; done)) (by first | rfl | exact bcells_all _ | (simp [Value.oneCell', spCells, pCells, spCells, pCells]; done) | (simp [Value.oneCell', *, spCells, pCells, spCells, pCells]; done))) rfl ?_
     refine G_val rfl rfl rfl rfl (V_assign rfl rfl) ?_
     refine G_done ?_
     refine G_ret (post := []) Try.func50 rfl (RVs_cons (RV_cell (s := 5) rfl (mem_at 1 rfl) Try.underlying75 rfl infSuperR_75 rfl (by first | rfl | (simp [bcells_length, spCells, pCells, spCells, pCells]; done) | (simp [bcells_length, spCells, pCells, spCells, pCells]; omega) | (simp [bcells_length, *, spCells, pCells, spCells, pCells]; done))) (RVs_cons (RV_tmp rfl) RVs_nil)) [] rfl ?_
     dsimp only [packed]
     first
       | exact ⟨(decT_no (isS_not1 ho)).symm, rfl⟩
       | exact ⟨(decT_no (isS_not2 (by assumption))).symm, rfl⟩
       | exact ⟨(decT_no his).symm, rfl⟩
       | exact ⟨(decT_yes his).symm, rfl⟩
   refine G_skip ?_
   refine G_seq ?_
   have n1 := num_in (openD b) 2 4
   have n2 := num_in (openD b) 6 4
   have n3 := num_in (openD b) 10 4
   have n4 := num_in (openD b) 14 1
   have n5 := num_in (openD b) 15 8
   refine G_region (l := [0, 1]) rfl ?_
   refine G_new rfl rfl rfl rfl (N_alloc1 rfl infSuperR_3 rfl rfl) (fun b8 => ?_)
   refine G_put (l1 := []) (L' := [_, _, _]) rfl rfl rfl rfl (P_store1 rfl rfl rfl (mem_at 0 rfl) (by first | exact of_decide_eq_true rfl | omega | (simp [spCells, pCells, spCells, pCells]; done) | (simp [spCells, pCells, spCells, pCells]; omega) | (simp [spCells, pCells, spCells, pCells] at *; omega)) infSuperR_3 rfl rfl) rfl ?_
   refine G_done ?_
   refine G_seq ?_
   refine G_region (l := [0, 1]) rfl ?_
   refine G_val rfl rfl rfl rfl (V_func rfl rfl rfl) ?_
   refine G_val rfl rfl rfl rfl (V_assign rfl rfl) ?_
   refine G_done ?_
   refine G_seq ?_
   refine G_region (l := [0, 1, 2, 3, 4, 5, 6, 7, 8, 9, 10, 11, 12, 13, 14, 15, 16, 17]) rfl ?_
   refine G_val rfl rfl rfl rfl (V_move rfl rfl) ?_
   refine G_callC (L2 := [_, _]) rfl rfl rfl rfl rfl rfl Try.call119 rfl (sup_dec1 b6 b8 (openD b) 2 4 (by omega) (by omega) (by omega)) [0] [0] rfl rfl ?_
   rintro v post ⟨rfl, rfl⟩
   show G _ _ _ [_, _, _] _
   first
     | refine G_val rfl rfl rfl rfl ((V_conv rfl rfl Try.underlying94 Try.underlying73).int (wrap_u32 (by omega))) ?_
     | refine G_val rfl rfl rfl rfl (V_conv rfl rfl Try.underlying94 Try.underlying73) ?_
   refine G_val rfl rfl rfl rfl (V_move rfl rfl) ?_
   refine G_callC (L2 := [_, _]) rfl rfl rfl rfl rfl rfl Try.call119 rfl (sup_dec1 b6 b8 (openD b) 6 4 (by omega) (by omega) (by omega)) [0] [0] rfl rfl ?_
   rintro v post ⟨rfl, rfl⟩
   show G _ _ _ [_, _, _] _
   first
     | refine G_val rfl rfl rfl rfl ((V_conv rfl rfl Try.underlying94 Try.underlying73).int (wrap_u32 (by omega))) ?_
     | refine G_val rfl rfl rfl rfl (V_conv rfl rfl Try.underlying94 Try.underlying73) ?_
   refine G_val rfl rfl rfl rfl (V_move rfl rfl) ?_
   refine G_callC (L2 := [_, _]) rfl rfl rfl rfl rfl rfl Try.call119 rfl (sup_dec1 b6 b8 (openD b) 10 4 (by omega) (by omega) (by omega)) [0] [0] rfl rfl ?_
   rintro v post ⟨rfl, rfl⟩
   show G _ _ _ [_, _, _] _
   first
     | refine G_val rfl rfl rfl rfl ((V_conv rfl rfl Try.underlying94 Try.underlying73).int (wrap_u32 (by omega))) ?_
     | refine G_val rfl rfl rfl rfl (V_conv rfl rfl Try.underlying94 Try.underlying73) ?_
   refine G_val rfl rfl rfl rfl (V_move rfl rfl) ?_
   refine G_callC (L2 := [_, _]) rfl rfl rfl rfl rfl rfl Try.call119 rfl (sup_dec1 b6 b8 (openD b) 14 1 (by omega) (by omega) (by omega)) [0] [0] rfl rfl ?_
   rintro v post ⟨rfl, rfl⟩
   show G _ _ _ [_, _, _] _
   first
     | refine G_val rfl rfl rfl rfl ((V_conv rfl rfl Try.underlying94 Try.underlying3).int (wrap_i64 (by omega))) ?_
     | refine G_val rfl rfl rfl rfl (V_conv rfl rfl Try.underlying94 Try.underlying3) ?_
   refine G_val rfl rfl rfl rfl (V_move rfl rfl) ?_
   refine G_callC (L2 := [_, _]) rfl rfl rfl rfl rfl rfl Try.call119 rfl (sup_dec1 b6 b8 (openD b) 15 8 (by omega) (by omega) (by omega)) [0] [0] rfl rfl ?_
   rintro v post ⟨rfl, rfl⟩
   show G _ _ _ [_, _, _] _
   first
     | refine G_val rfl rfl rfl rfl ((V_conv rfl rfl Try.underlying94 Try.underlying3).int (wrap_i64 (by omega))) ?_
     | refine G_val rfl rfl rfl rfl (V_conv rfl rfl Try.underlying94 Try.underlying3) ?_
   refine G_val rfl rfl rfl rfl (V_buildS (cs := [_, _, _, _, _]) rfl Try.underlying75 infSuperR_75 rfl plcSuperR_75 rfl rfl rfl) ?_
   refine G_new rfl rfl rfl rfl (N_allocA rfl infSuperR_75 rfl) (fun b10 => ?_)
   refine G_put (l1 := []) (L' := [_, _, _, _]) rfl rfl rfl rfl (P_storeA (s := 5) rfl rfl rfl (mem_at 0 rfl) (by first | rfl | (simp [bcells_length, spCells, pCells, spCells, pCells]; done) | (simp [bcells_length, spCells, pCells, spCells, pCells]; omega) | (simp [bcells_length, *, spCells, pCells, spCells, pCells]; done)) infSuperR_75 rfl (by first | rfl | (simp [bcells_length, spCells, pCells, spCells, pCells]; done) | (simp [bcells_length, spCells, pCells, spCells, pCells]; omega) | (simp [bcells_length, *, spCells, pCells, spCells, pCells]; done)) (by first | rfl | exact bcells_all _ | (simp [Value.oneCell', spCells, pCells, spCells, pCells]; done) | (simp [Value.oneCell', *, spCells, pCells, spCells, pCells]; done))) rfl ?_
   refine G_done ?_
   refine G_seq ?_
   refine G_seq ?_
   rcases is3 b ho with his | ⟨his, hm⟩ | ⟨his, hm, hne⟩
   · skip
     refine G_region (l := [0, 1, 2, 3, 4, 5, 6]) rfl ?_
     first
       | refine G_val rfl rfl rfl rfl (V_loadW (s := 5) rfl rfl (mem_at 0 rfl) Try.underlying75 rfl infSuperR_75 rfl (by first | rfl | (simp [bcells_length, spCells, pCells, spCells, pCells]; done) | (simp [bcells_length, spCells, pCells, spCells, pCells]; omega) | (simp [bcells_length, *, spCells, pCells, spCells, pCells]; done))) ?_
       | refine G_val rfl rfl rfl rfl (V_loadA (s := 5) rfl rfl (mem_at 0 rfl) Try.underlying75 rfl infSuperR_75 rfl rfl (by first | rfl | (simp [bcells_length, spCells, pCells, spCells, pCells]; done) | (simp [bcells_length, spCells, pCells, spCells, pCells]; omega) | (simp [bcells_length, *, spCells, pCells, spCells, pCells]; done))) ?_
     refine G_call (L2 := [_, _, _, _]) rfl rfl rfl rfl rfl rfl Try.call48 ((sup_encode (getS (openD b)) (getS_ok _)).weaken (fun v post h => by rw [(enc_is his).1, (enc_is his).2] at h; exact h)) [] [] rfl rfl ?_
     rintro v post ⟨rfl, rfl⟩
     show G _ _ _ [_, _, _, _] _
     refine G_val rfl rfl rfl rfl (V_move rfl rfl) ?_
     refine G_val rfl rfl rfl rfl (V_extract rfl rfl rfl) ?_
     refine G_val rfl rfl rfl rfl (V_extract rfl rfl rfl) ?_
     refine G_val rfl rfl rfl rfl (V_assign rfl rfl) ?_
     refine G_val rfl rfl rfl rfl (V_assign rfl rfl) ?_
     refine G_done ?_
     refine G_seq ?_
     refine G_region (l := [0, 1, 2, 3, 4, 5, 6]) rfl ?_
     refine G_val rfl rfl rfl rfl (V_move rfl rfl) ?_
     refine G_val rfl rfl rfl rfl (V_neq rfl rfl rfl) ?_
     refine G_val rfl rfl rfl rfl (V_move rfl rfl) ?_
     refine G_splitD 52 rfl (fun hc3 => ?_) (fun hc3 => ?_)
     · (first | (exact absurd rfl hc3) | (exact absurd hc3 Bool.false_ne_true) | (exact absurd hc3 (by decide)) | (exact absurd hc3 hne) | (exact absurd hne hc3) | (exfalso; omega))
     refine G_val rfl rfl rfl rfl (V_move rfl rfl) ?_
     refine G_val rfl rfl rfl rfl (V_move rfl rfl) ?_
     refine G_val rfl rfl rfl rfl (V_sneq rfl rfl rfl) ?_
     refine G_val rfl rfl rfl rfl (V_pickF rfl rfl rfl) ?_
     refine G_done ?_
     refine G_ifD rfl (fun hc4 => ?_) (fun hc4 => ?_)
     · (first | (exact absurd rfl hc4) | (exact absurd hc4 Bool.false_ne_true) | (exact absurd hc4 (by decide)) | (exact absurd hc4 hne) | (exact absurd hne hc4) | (exfalso; omega))
     refine G_skip ?_
     refine G_seq ?_
     refine G_region (l := [0, 1, 2]) rfl ?_
     first
       | refine G_val rfl rfl rfl rfl (V_loadW (s := 5) rfl rfl (mem_at 0 rfl) Try.underlying75 rfl infSuperR_75 rfl (by first | rfl | (simp [bcells_length, spCells, pCells, spCells, pCells]; done) | (simp [bcells_length, spCells, pCells, spCells, pCells]; omega) | (simp [bcells_length, *, spCells, pCells, spCells, pCells]; done))) ?_
       | refine G_val rfl rfl rfl rfl (V_loadA (s := 5) rfl rfl (mem_at 0 rfl) Try.underlying75 rfl infSuperR_75 rfl rfl (by first | rfl | (simp [bcells_length, spCells, pCells, spCells, pCells]; done) | (simp [bcells_length, spCells, pCells, spCells, pCells]; omega) | (simp [bcells_length, *, spCells, pCells, spCells, pCells]; done))) ?_
     refine G_put (l1 := [_, _, _]) (L' := [_, _, _, _]) rfl rfl rfl rfl (P_storeA (s := 5) rfl rfl rfl (mem_at 3 rfl) (by first | rfl | (simp [bcells_length, spCells, pCells, spCells, pCells]; done) | (simp [bcells_length, spCells, pCells, spCells, pCells]; omega) | (simp [bcells_length, *, spCells, pCells, spCells, pCells]; done)) infSuperR_75 rfl (by first | rfl | (simp [bcells_length, spCells, pCells, spCells, pCells]; done) | (simp [bcells_length, spCells, pCells, spCells, pCells]; omega) | (simp [bcells_length, *, spCells, pCells, spCells, pCells]; done)) (by first | rfl | exact bcells_all _ | (simp [Value.oneCell', spCells, pCells, spCells, pCells]; done) | (simp [Value.oneCell', *, spCells, pCells, spCells, pCells]; done))) rfl ?_
     refine G_val rfl rfl rfl rfl (V_assign rfl rfl) ?_
     refine G_done ?_
     refine G_ret (post := []) Try.func50 rfl (RVs_cons (RV_cell (s := 5) rfl (mem_at 3 rfl) Try.underlying75 rfl infSuperR_75 rfl (by first | rfl | (simp [bcells_length, spCells, pCells, spCells, pCells]; done) | (simp [bcells_length, spCells, pCells, spCells, pCells]; omega) | (simp [bcells_length, *, spCells, pCells, spCells, pCells]; done))) (RVs_cons (RV_tmp rfl) RVs_nil)) [] rfl ?_
     dsimp only [packed]
     first
       | exact ⟨(decT_no (isS_not1 ho)).symm, rfl⟩
       | exact ⟨(decT_no (isS_not2 (by assumption))).symm, rfl⟩
       | exact ⟨(decT_no his).symm, rfl⟩
       | exact ⟨(decT_yes his).symm, rfl⟩
   · skip
     refine G_region (l := [0, 1, 2, 3, 4, 5, 6]) rfl ?_
     first
       | refine G_val rfl rfl rfl rfl (V_loadW (s := 5) rfl rfl (mem_at 0 rfl) Try.underlying75 rfl infSuperR_75 rfl (by first | rfl | (simp [bcells_length, spCells, pCells, spCells, pCells]; done) | (simp [bcells_length, spCells, pCells, spCells, pCells]; omega) | (simp [bcells_length, *, spCells, pCells, spCells, pCells]; done))) ?_
       | refine G_val rfl rfl rfl rfl (V_loadA (s := 5) rfl rfl (mem_at 0 rfl) Try.underlying75 rfl infSuperR_75 rfl rfl (by first | rfl | (simp [bcells_length, spCells, pCells, spCells, pCells]; done) | (simp [bcells_length, spCells, pCells, spCells, pCells]; omega) | (simp [bcells_length, *, spCells, pCells, spCells, pCells]; done))) ?_
     refine G_call (L2 := [_, _, _, _]) rfl rfl rfl rfl rfl rfl Try.call48 ((sup_encode (getS (openD b)) (getS_ok _)).weaken (fun v post h => by rw [(encT_no (decide_eq_false hm)).1, (encT_no (decide_eq_false hm)).2] at h; exact h)) [] [] rfl rfl ?_
     rintro v post ⟨rfl, rfl⟩
     show G _ _ _ [_, _, _, _] _
     refine G_val rfl rfl rfl rfl (V_move rfl rfl) ?_
     refine G_val rfl rfl rfl rfl (V_extract rfl rfl rfl) ?_
     refine G_val rfl rfl rfl rfl (V_extract rfl rfl rfl) ?_
     refine G_val rfl rfl rfl rfl (V_assign rfl rfl) ?_
     refine G_val rfl rfl rfl rfl (V_assign rfl rfl) ?_
     refine G_done ?_
     refine G_seq ?_
     refine G_region (l := [0, 1, 2, 3, 4, 5, 6]) rfl ?_
     refine G_val rfl rfl rfl rfl (V_move rfl rfl) ?_
     refine G_val rfl rfl rfl rfl (V_neq rfl rfl rfl) ?_
     refine G_val rfl rfl rfl rfl (V_move rfl rfl) ?_
     refine G_splitD 52 rfl (fun hc3 => ?_) (fun hc3 => ?_)
     rotate_left
     · (first | (exact absurd rfl hc3) | (exact absurd hc3 Bool.false_ne_true) | (exact absurd hc3 (by decide)) | (exact absurd hc3 hne) | (exact absurd hne hc3) | (exfalso; omega))
     refine G_off rfl rfl rfl rfl ?_
     refine G_off rfl rfl rfl rfl ?_
     refine G_off rfl rfl rfl rfl ?_
     refine G_val rfl rfl rfl rfl (V_pickT rfl rfl rfl) ?_
     refine G_done ?_
     refine G_then rfl ?_
     refine G_seq ?_
     refine G_region (l := [0, 1, 2]) rfl ?_
     refine G_val rfl rfl rfl rfl (V_buildS (cs := [_, _, _, _, _]) rfl Try.underlying75 infSuperR_75 rfl plcSuperR_75 rfl rfl rfl) ?_
     refine G_put (l1 := [_, _, _]) (L' := [_, _, _, _]) rfl rfl rfl rfl (P_storeA (s := 5) rfl rfl rfl (mem_at 3 rfl) (by first | rfl | (simp [bcells_length, spCells, pCells, spCells, pCells]; done) | (simp [bcells_length, spCells, pCells, spCells, pCells]; omega) | (simp [bcells_length, *, spCells, pCells, spCells, pCells]; done)) infSuperR_75 rfl (by first | rfl | (simp [bcells_length, spCells, pCells, spCells, pCells]; done) | (simp [bcells_length, spCells, pCells, spCells, pCells]; omega) | (simp [bcells_length, *, spCells, pCells, spCells, pCells]; done)) (by first | rfl | exact bcells_all _ | (simp [Value.oneCell', spCells, pCells, spCells, pCells]; done) | (simp [Value.oneCell', *, spCells, pCells, spCells, pCells]; done))) rfl ?_
     refine G_val rfl rfl rfl rfl (V_assign rfl rfl) ?_
     refine G_done ?_
     refine G_ret (post := []) Try.func50 rfl (RVs_cons (RV_cell (s := 5) rfl (mem_at 3 rfl) Try.underlying75 rfl infSuperR_75 rfl (by first | rfl | (simp [bcells_length, spCells, pCells, spCells, pCells]; done) | (simp [bcells_length, spCells, pCells, spCells, pCells]; omega) | (simp [bcells_length, *, spCells, pCells, spCells, pCells]; done))) (RVs_cons (RV_tmp rfl) RVs_nil)) [] rfl ?_
     dsimp only [packed]
     first
       | exact ⟨(decT_no (isS_not1 ho)).symm, rfl⟩
       | exact ⟨(decT_no (isS_not2 (by assumption))).symm, rfl⟩
       | exact ⟨(decT_no his).symm, rfl⟩
       | exact ⟨(decT_yes his).symm, rfl⟩
   · skip
     refine G_region (l := [0, 1, 2, 3, 4, 5, 6]) rfl ?_
     first
       | refine G_val rfl rfl rfl rfl (V_loadW (s := 5) rfl rfl (mem_at 0 rfl) Try.underlying75 rfl infSuperR_75 rfl (by first | rfl | (simp [bcells_length, spCells, pCells, spCells, pCells]; done) | (simp [bcells_length, spCells, pCells, spCells, pCells]; omega) | (simp [bcells_length, *, spCells, pCells, spCells, pCells]; done))) ?_
       | refine G_val rfl rfl rfl rfl (V_loadA (s := 5) rfl rfl (mem_at 0 rfl) Try.underlying75 rfl infSuperR_75 rfl rfl (by first | rfl | (simp [bcells_length, spCells, pCells, spCells, pCells]; done) | (simp [bcells_length, spCells, pCells, spCells, pCells]; omega) | (simp [bcells_length, *, spCells, pCells, spCells, pCells]; done))) ?_
     refine G_call (L2 := [_, _, _, _]) rfl rfl rfl rfl rfl rfl Try.call48 ((sup_encode (getS (openD b)) (getS_ok _)).weaken (fun v post h => by rw [(encT_yes (decide_eq_true hm)).1, (encT_yes (decide_eq_true hm)).2] at h; exact h)) [] [] rfl rfl ?_
     rintro v post ⟨rfl, rfl⟩
     show G _ _ _ [_, _, _, _] _
     refine G_val rfl rfl rfl rfl (V_move rfl rfl) ?_
     refine G_val rfl rfl rfl rfl (V_extract rfl rfl rfl) ?_
     refine G_val rfl rfl rfl rfl (V_extract rfl rfl rfl) ?_
     refine G_val rfl rfl rfl rfl (V_assign rfl rfl) ?_
     refine G_val rfl rfl rfl rfl (V_assign rfl rfl) ?_
     refine G_done ?_
     refine G_seq ?_
     refine G_region (l := [0, 1, 2, 3, 4, 5, 6]) rfl ?_
     refine G_val rfl rfl rfl rfl (V_move rfl rfl) ?_
     refine G_val rfl rfl rfl rfl (V_neq rfl rfl rfl) ?_
     refine G_val rfl rfl rfl rfl (V_move rfl rfl) ?_
     refine G_splitD 52 rfl (fun hc3 => ?_) (fun hc3 => ?_)
     · (first | (exact absurd rfl hc3) | (exact absurd hc3 Bool.false_ne_true) | (exact absurd hc3 (by decide)) | (exact absurd hc3 hne) | (exact absurd hne hc3) | (exfalso; omega))
     refine G_val rfl rfl rfl rfl (V_move rfl rfl) ?_
     refine G_val rfl rfl rfl rfl (V_move rfl rfl) ?_
     refine G_val rfl rfl rfl rfl (V_sneq rfl rfl rfl) ?_
     refine G_val rfl rfl rfl rfl (V_pickF rfl rfl rfl) ?_
     refine G_done ?_
     refine G_ifD rfl (fun hc4 => ?_) (fun hc4 => ?_)
     rotate_left
     · (first | (exact absurd rfl hc4) | (exact absurd hc4 Bool.false_ne_true) | (exact absurd hc4 (by decide)) | (exact absurd hc4 hne) | (exact absurd hne hc4) | (exfalso; omega))
     refine G_seq ?_
     refine G_region (l := [0, 1, 2]) rfl ?_
     refine G_val rfl rfl rfl rfl (V_buildS (cs := [_, _, _, _, _]) rfl Try.underlying75 infSuperR_75 rfl plcSuperR_75 rfl rfl rfl) ?_
     refine G_put (l1 := [_, _, _]) (L' := [_, _, _, _]) rfl rfl rfl rfl (P_storeA (s := 5) rfl rfl rfl (mem_at 3 rfl) (by first | rfl | (simp [bcells_length, spCells, pCells, spCells, pCells]; done) | (simp [bcells_length, spCells, pCells, spCells, pCells]; omega) | (simp [bcells_length, *, spCells, pCells, spCells, pCells]; done)) infSuperR_75 rfl (by first | rfl | (simp [bcells_length, spCells, pCells, spCells, pCells]; done) | (simp [bcells_length, spCells, pCells, spCells, pCells]; omega) | (simp [bcells_length, *, spCells, pCells, spCells, pCells]; done)) (by first | rfl | exact bcells_all _ | (simp [Value.oneCell', spCells, pCells, spCells, pCells]; done) | (simp [Value.oneCell', *, spCells, pCells, spCells, pCells]; done))) rfl ?_
     refine G_val rfl rfl rfl rfl (V_assign rfl rfl) ?_
     refine G_done ?_
     refine G_ret (post := []) Try.func50 rfl (RVs_cons (RV_cell (s := 5) rfl (mem_at 3 rfl) Try.underlying75 rfl infSuperR_75 rfl (by first | rfl | (simp [bcells_length, spCells, pCells, spCells, pCells]; done) | (simp [bcells_length, spCells, pCells, spCells, pCells]; omega) | (simp [bcells_length, *, spCells, pCells, spCells, pCells]; done))) (RVs_cons (RV_tmp rfl) RVs_nil)) [] rfl ?_
     dsimp only [packed]
     first
       | exact ⟨(decT_no (isS_not1 ho)).symm, rfl⟩
       | exact ⟨(decT_no (isS_not2 (by assumption))).symm, rfl⟩
       | exact ⟨(decT_no his).symm, rfl⟩
       | exact ⟨(decT_yes his).symm, rfl⟩

set_option maxRecDepth 100000 in
set_option maxHeartbeats 1000000 in
theorem rsup_fixed (v : Int) (n : Nat) (h1 : 1 ≤ n) (h8 : n ≤ 8) (h0 : 0 ≤ v) (h : v < ((256 ^ n : Nat) : Int)) (h64 : v < 18446744073709551616) :
    Ct Try.prog 115 [.int .u64 v, .int .i64 (n : Int)] [] [] fun v' post => v' = .string (bs (be n v.toNat)) ∧ post = [] := by
 refine ct_of Try.func115 rfl rfl (fun w0 => ?_)
 show G _ _ [(0, _), (1, _)] _ _
 refine G_seq ?_
 refine G_region (l := [0]) rfl ?_
 refine G_val rfl rfl rfl rfl (V_assign rfl rfl) ?_
 refine G_done ?_
 refine G_seq ?_
 refine G_region (l := [0, 1, 2, 3, 4, 5, 6, 7]) rfl ?_
 refine G_val rfl rfl rfl rfl (V_move rfl rfl) ?_
 refine G_val rfl rfl rfl rfl (V_move rfl rfl) ?_
 refine G_call (L2 := []) rfl rfl rfl rfl rfl rfl Try.call147 (ct_rfixed v n h1 h8 h0 h h64) [] [] rfl rfl ?_
 rintro v post ⟨rfl, rfl⟩
 refine G_val rfl rfl rfl rfl (V_move rfl rfl) ?_
 refine G_val rfl rfl rfl rfl (V_extract rfl rfl rfl) ?_
 refine G_val rfl rfl rfl rfl (V_extract rfl rfl rfl) ?_
 refine G_val rfl rfl rfl rfl (V_assign rfl rfl) ?_
 refine G_val rfl rfl rfl rfl (V_assign rfl rfl) ?_
 refine G_done ?_
 refine G_seq ?_
 refine G_region (l := [0, 1]) rfl ?_
 refine G_val rfl rfl rfl rfl (V_move rfl rfl) ?_
 refine G_val rfl rfl rfl rfl (V_assign rfl rfl) ?_
 refine G_done ?_
 refine G_ret (post := []) Try.func115 rfl (RVs_cons (RV_tmp rfl) RVs_nil) [] rfl ?_
 dsimp only [packed]
 exact ⟨rfl, rfl⟩

set_option maxRecDepth 100000 in
set_option maxHeartbeats 1000000 in
theorem rsup_number (l : List UInt8) (h1 : 1 ≤ l.length) (h8 : l.length ≤ 8) :
    Ct Try.prog 122 [.string (bs l)] [] [] fun v post => v = .int .u64 ((num l : Nat) : Int) ∧ post = [] := by
 refine ct_of Try.func122 rfl rfl (fun w0 => ?_)
 show G _ _ [(0, _)] _ _
 refine G_seq ?_
 refine G_region (l := [0]) rfl ?_
 refine G_val rfl rfl rfl rfl (V_assign rfl rfl) ?_
 refine G_done ?_
 refine G_seq ?_
 refine G_region (l := [0, 1, 2, 3, 4, 5, 6]) rfl ?_
 refine G_val rfl rfl rfl rfl (V_move rfl rfl) ?_
 refine G_call (L2 := []) rfl rfl rfl rfl rfl rfl Try.call152 (ct_rnumber l h1 h8) [] [] rfl rfl ?_
 rintro v post ⟨rfl, rfl⟩
 refine G_val rfl rfl rfl rfl (V_move rfl rfl) ?_
 refine G_val rfl rfl rfl rfl (V_extract rfl rfl rfl) ?_
 refine G_val rfl rfl rfl rfl (V_extract rfl rfl rfl) ?_
 refine G_val rfl rfl rfl rfl (V_assign rfl rfl) ?_
 refine G_val rfl rfl rfl rfl (V_assign rfl rfl) ?_
 refine G_done ?_
 refine G_seq ?_
 refine G_region (l := [0, 1]) rfl ?_
 refine G_val rfl rfl rfl rfl (V_move rfl rfl) ?_
 refine G_val rfl rfl rfl rfl (V_assign rfl rfl) ?_
 refine G_done ?_
 refine G_ret (post := []) Try.func122 rfl (RVs_cons (RV_tmp rfl) RVs_nil) [] rfl ?_
 dsimp only [packed]
 exact ⟨rfl, rfl⟩


theorem body_cat (s : Sp) : [66, 76] ++ be 4 (s.seq : Int).toNat ++ be 4 (s.base : Int).toNat ++ be 4 (s.epoch : Int).toNat ++ be 1 s.slot.toNat ++ be 8 s.size.toNat = bodyS s := by simp [bodyS, joinP, partsS]
theorem zeros_next (l : List UInt8) (i : Nat) : l ++ List.replicate i 0 ++ [0] = l ++ List.replicate (i + 1) 0 := by rw [List.append_assoc, List.replicate_succ']

set_option maxRecDepth 100000 in
set_option maxHeartbeats 1000000 in
theorem rsup_encode (s : Sp) (hs : SpOk s) :
    Ct Try.prog 49 [.agg (spCells s).toArray] [] [] fun v post => v = .tuple #[.string (bs (encT s)), .int .i64 (encE s)] ∧ post = [] := by
 refine ct_of Try.func49 rfl rfl (fun w0 => ?_)
 show G _ _ [(0, _)] _ _
 refine G_seq ?_
 refine G_region (l := [0, 1, 2]) rfl ?_
 refine G_new rfl rfl rfl rfl (N_boxA rfl rfl) (fun b1 => ?_)
 refine G_val rfl rfl rfl rfl (V_assign rfl rfl) ?_
 refine G_val rfl rfl rfl rfl (V_assign rfl rfl) ?_
 refine G_done ?_
 refine G_seq ?_
 refine G_seq ?_
 refine G_region (l := [0, 1, 2]) rfl ?_
 first
   | refine G_val rfl rfl rfl rfl (V_loadW (s := 5) rfl rfl (mem_at 0 rfl) Try.underlying75 rfl infSuperR_75 rfl (by first | rfl | (simp [bcells_length, spCells, pCells, spCells, pCells]; done) | (simp [bcells_length, spCells, pCells, spCells, pCells]; omega) | (simp [bcells_length, *, spCells, pCells, spCells, pCells]; done))) ?_
   | refine G_val rfl rfl rfl rfl (V_loadA (s := 5) rfl rfl (mem_at 0 rfl) Try.underlying75 rfl infSuperR_75 rfl rfl (by first | rfl | (simp [bcells_length, spCells, pCells, spCells, pCells]; done) | (simp [bcells_length, spCells, pCells, spCells, pCells]; omega) | (simp [bcells_length, *, spCells, pCells, spCells, pCells]; done))) ?_
 refine G_call (L2 := [_]) rfl rfl rfl rfl rfl rfl Try.call54 (rsup_may _ (by assumption)) [] [] rfl rfl ?_
 rintro v post ⟨rfl, rfl⟩
 show G _ _ _ [_] _
 refine G_val rfl rfl rfl rfl (V_not rfl rfl) ?_
 refine G_done ?_
 refine G_if rfl (fun hc1 => ?_) (fun hc1 => ?_)
 · skip
   refine G_seq ?_
   refine G_region (l := [0, 1]) rfl ?_
   refine G_val rfl rfl rfl rfl (V_assign rfl rfl) ?_
   refine G_val rfl rfl rfl rfl (V_assign rfl rfl) ?_
   refine G_done ?_
   refine G_ret (post := []) Try.func49 rfl (RVs_cons (RV_tmp rfl) (RVs_cons (RV_tmp rfl) RVs_nil)) [] rfl ?_
   dsimp only [packed]
   first
     | (obtain ⟨e1, e2⟩ := encT_no (s := s) (by first | assumption | (simpa using hc1)); rw [e1, e2]; exact ⟨rfl, rfl⟩)
     | (obtain ⟨e1, e2⟩ := encT_yes hmd
        have e3 : sealE s.seq (dataS s) = 0 := encS_E hm0
        rw [e1, e2]
        refine ⟨?_, rfl⟩
        show Value.tuple #[.string (bs (sealL s.seq 0 (dataS s))), .int .i64 ((sealE s.seq (dataS s) : Nat) : Int)] = _
        rw [e3]; rfl)
 refine G_skip ?_
 refine G_seq ?_
 have hm0 : MayS s := of_decide_eq_true (by first | assumption | (simpa using hc1))
 have hmd : decide (MayS s) = true := by first | assumption | (simpa using hc1)
 have hm := of_decide_eq_true hmd
 have hbl := bodyS_len s
 have hcl := crcN_lt (bodyS s)
 have hbe := be_length 4 (crcN (bodyS s))
 have hpf := partsS_fit hs hm
 have hjl := joinP_len hpf
 have hjl2 : (partsS s).length = 5 := rfl
 have hq := hs.q1
 have hb := hs.b1
 have he := hs.e1
 obtain ⟨mm1, mm2, mm3, mm4, mm5, mm6⟩ := hm
 have hdl := dataS_len s
 have hj2 : (joinP [((crcN (bodyS s) : Int), 4)]).length = 4 := by rw [join_crc]; exact be_length 4 _
 have fp1 : FitP ((s.seq : Int), 4) := hpf _ (by simp [partsS])
 have fp2 : FitP ((s.base : Int), 4) := hpf _ (by simp [partsS])
 have fp3 : FitP ((s.epoch : Int), 4) := hpf _ (by simp [partsS])
 have fp4 : FitP (s.slot, 1) := hpf _ (by simp [partsS])
 have fp5 : FitP (s.size, 8) := hpf _ (by simp [partsS])
 have fp6 : FitP ((crcN (bodyS s) : Int), 4) := crc_fit (bodyS s) _ (by simp)
 have q1 := be_length 4 (s.seq : Int).toNat
 have q2 := be_length 4 (s.base : Int).toNat
 have q3 := be_length 4 (s.epoch : Int).toNat
 have q4 := be_length 1 s.slot.toNat
 have q5 := be_length 8 s.size.toNat
 have q6 := be_length 4 ((crcN (bodyS s) : Int)).toNat
 refine GH_start (Lq := [_]) (isq := [0]) (m := 26) mixedK rfl rfl ?_
 refine GH_take 0 rfl rfl rfl rfl (by kernel_rfl) (by kernel_rfl) (by kernel_rfl) (fun _ _ => (V_fieldAddr (fo := 0) rfl Try.underlying75 rfl infSuperR_73 rfl rfl rfl)) ?_
 refine GH_take 1 rfl rfl rfl rfl (by kernel_rfl) (by kernel_rfl) (by kernel_rfl) (fun _ _ => (V_load1 rfl rfl (mem_at 0 rfl) rfl Try.underlying73 rfl)) ?_
 first
   | refine GH_take 2 rfl rfl rfl rfl (by kernel_rfl) (by kernel_rfl) (by kernel_rfl) (fun _ _ => ((V_conv rfl rfl Try.underlying73 Try.underlying94).int (wrap_u64 (by omega)))) ?_
   | refine GH_take 2 rfl rfl rfl rfl (by kernel_rfl) (by kernel_rfl) (by kernel_rfl) (fun _ _ => (V_conv rfl rfl Try.underlying73 Try.underlying94)) ?_
 refine GH_take 5 rfl rfl rfl rfl (by kernel_rfl) (by kernel_rfl) (by kernel_rfl) (fun _ _ => (V_fieldAddr (fo := 1) rfl Try.underlying75 rfl infSuperR_73 rfl rfl rfl)) ?_
 refine GH_take 6 rfl rfl rfl rfl (by kernel_rfl) (by kernel_rfl) (by kernel_rfl) (fun _ _ => (V_load1 rfl rfl (mem_at 0 rfl) rfl Try.underlying73 rfl)) ?_
 first
   | refine GH_take 7 rfl rfl rfl rfl (by kernel_rfl) (by kernel_rfl) (by kernel_rfl) (fun _ _ => ((V_conv rfl rfl Try.underlying73 Try.underlying94).int (wrap_u64 (by omega)))) ?_
   | refine GH_take 7 rfl rfl rfl rfl (by kernel_rfl) (by kernel_rfl) (by kernel_rfl) (fun _ _ => (V_conv rfl rfl Try.underlying73 Try.underlying94)) ?_
 refine GH_take 10 rfl rfl rfl rfl (by kernel_rfl) (by kernel_rfl) (by kernel_rfl) (fun _ _ => (V_fieldAddr (fo := 2) rfl Try.underlying75 rfl infSuperR_73 rfl rfl rfl)) ?_
 refine GH_take 11 rfl rfl rfl rfl (by kernel_rfl) (by kernel_rfl) (by kernel_rfl) (fun _ _ => (V_load1 rfl rfl (mem_at 0 rfl) rfl Try.underlying73 rfl)) ?_
 first
   | refine GH_take 12 rfl rfl rfl rfl (by kernel_rfl) (by kernel_rfl) (by kernel_rfl) (fun _ _ => ((V_conv rfl rfl Try.underlying73 Try.underlying94).int (wrap_u64 (by omega)))) ?_
   | refine GH_take 12 rfl rfl rfl rfl (by kernel_rfl) (by kernel_rfl) (by kernel_rfl) (fun _ _ => (V_conv rfl rfl Try.underlying73 Try.underlying94)) ?_
 refine GH_take 15 rfl rfl rfl rfl (by kernel_rfl) (by kernel_rfl) (by kernel_rfl) (fun _ _ => (V_fieldAddr (fo := 3) rfl Try.underlying75 rfl infSuperR_3 rfl rfl rfl)) ?_
 refine GH_take 16 rfl rfl rfl rfl (by kernel_rfl) (by kernel_rfl) (by kernel_rfl) (fun _ _ => (V_load1 rfl rfl (mem_at 0 rfl) rfl Try.underlying3 rfl)) ?_
 first
   | refine GH_take 17 rfl rfl rfl rfl (by kernel_rfl) (by kernel_rfl) (by kernel_rfl) (fun _ _ => ((V_conv rfl rfl Try.underlying3 Try.underlying94).int (wrap_u64 (by omega)))) ?_
   | refine GH_take 17 rfl rfl rfl rfl (by kernel_rfl) (by kernel_rfl) (by kernel_rfl) (fun _ _ => (V_conv rfl rfl Try.underlying3 Try.underlying94)) ?_
 refine GH_take 20 rfl rfl rfl rfl (by kernel_rfl) (by kernel_rfl) (by kernel_rfl) (fun _ _ => (V_fieldAddr (fo := 4) rfl Try.underlying75 rfl infSuperR_3 rfl rfl rfl)) ?_
 refine GH_take 21 rfl rfl rfl rfl (by kernel_rfl) (by kernel_rfl) (by kernel_rfl) (fun _ _ => (V_load1 rfl rfl (mem_at 0 rfl) rfl Try.underlying3 rfl)) ?_
 first
   | refine GH_take 22 rfl rfl rfl rfl (by kernel_rfl) (by kernel_rfl) (by kernel_rfl) (fun _ _ => ((V_conv rfl rfl Try.underlying3 Try.underlying94).int (wrap_u64 (by omega)))) ?_
   | refine GH_take 22 rfl rfl rfl rfl (by kernel_rfl) (by kernel_rfl) (by kernel_rfl) (fun _ _ => (V_conv rfl rfl Try.underlying3 Try.underlying94)) ?_
 refine GH_all [3] (by kernel_rfl) (by decide) ?_
 refine (And.intro ?_ trivial)
 · skip
   refine GHop_call (L2 := [_]) rfl rfl rfl rfl rfl rfl Try.call115 (rsup_fixed ((s.seq : Int)) 4 (by omega) (by omega) fp1.2.2.1 fp1.2.2.2.1 fp1.2.2.2.2) [] [] rfl rfl [0] (by rintro v post ⟨rfl, rfl⟩; exact ⟨_, rfl⟩) ?_
   rintro v post ⟨rfl, rfl⟩
   show GH _ _ _ _ _ _ _ [_] _
   refine GH_take 4 rfl rfl rfl rfl (by kernel_rfl) (by kernel_rfl) (by kernel_rfl) (fun _ _ => (V_sadd rfl rfl rfl (by first | omega | (simp [spCells, pCells, spCells, pCells]; done) | (simp [spCells, pCells, spCells, pCells]; omega) | (simp [spCells, pCells, spCells, pCells] at *; omega)))) ?_
   refine GH_all [8] (by kernel_rfl) (by decide) ?_
   refine (And.intro ?_ trivial)
   · skip
     refine GHop_call (L2 := [_]) rfl rfl rfl rfl rfl rfl Try.call115 (rsup_fixed ((s.base : Int)) 4 (by omega) (by omega) fp2.2.2.1 fp2.2.2.2.1 fp2.2.2.2.2) [] [] rfl rfl [0] (by rintro v post ⟨rfl, rfl⟩; exact ⟨_, rfl⟩) ?_
     rintro v post ⟨rfl, rfl⟩
     show GH _ _ _ _ _ _ _ [_] _
     refine GH_take 9 rfl rfl rfl rfl (by kernel_rfl) (by kernel_rfl) (by kernel_rfl) (fun _ _ => (V_sadd rfl rfl rfl (by first | omega | (simp [spCells, pCells, spCells, pCells]; done) | (simp [spCells, pCells, spCells, pCells]; omega) | (simp [spCells, pCells, spCells, pCells] at *; omega)))) ?_
     refine GH_all [13] (by kernel_rfl) (by decide) ?_
     refine (And.intro ?_ trivial)
     · skip
       refine GHop_call (L2 := [_]) rfl rfl rfl rfl rfl rfl Try.call115 (rsup_fixed ((s.epoch : Int)) 4 (by omega) (by omega) fp3.2.2.1 fp3.2.2.2.1 fp3.2.2.2.2) [] [] rfl rfl [0] (by rintro v post ⟨rfl, rfl⟩; exact ⟨_, rfl⟩) ?_
       rintro v post ⟨rfl, rfl⟩
       show GH _ _ _ _ _ _ _ [_] _
       refine GH_take 14 rfl rfl rfl rfl (by kernel_rfl) (by kernel_rfl) (by kernel_rfl) (fun _ _ => (V_sadd rfl rfl rfl (by first | omega | (simp [spCells, pCells, spCells, pCells]; done) | (simp [spCells, pCells, spCells, pCells]; omega) | (simp [spCells, pCells, spCells, pCells] at *; omega)))) ?_
       refine GH_all [18] (by kernel_rfl) (by decide) ?_
       refine (And.intro ?_ trivial)
       · skip
         refine GHop_call (L2 := [_]) rfl rfl rfl rfl rfl rfl Try.call115 (rsup_fixed (s.slot) 1 (by omega) (by omega) fp4.2.2.1 fp4.2.2.2.1 fp4.2.2.2.2) [] [] rfl rfl [0] (by rintro v post ⟨rfl, rfl⟩; exact ⟨_, rfl⟩) ?_
         rintro v post ⟨rfl, rfl⟩
         show GH _ _ _ _ _ _ _ [_] _
         refine GH_take 19 rfl rfl rfl rfl (by kernel_rfl) (by kernel_rfl) (by kernel_rfl) (fun _ _ => (V_sadd rfl rfl rfl (by first | omega | (simp [spCells, pCells, spCells, pCells]; done) | (simp [spCells, pCells, spCells, pCells]; omega) | (simp [spCells, pCells, spCells, pCells] at *; omega)))) ?_
         refine GH_all [23] (by kernel_rfl) (by decide) ?_
         refine (And.intro ?_ trivial)
         · skip
           refine GHop_call (L2 := [_]) rfl rfl rfl rfl rfl rfl Try.call115 (rsup_fixed (s.size) 8 (by omega) (by omega) fp5.2.2.1 fp5.2.2.2.1 fp5.2.2.2.2) [] [] rfl rfl [0] (by rintro v post ⟨rfl, rfl⟩; exact ⟨_, rfl⟩) ?_
           rintro v post ⟨rfl, rfl⟩
           show GH _ _ _ _ _ _ _ [_] _
           refine GH_take 24 rfl rfl rfl rfl (by kernel_rfl) (by kernel_rfl) (by kernel_rfl) (fun _ _ => (V_sadd rfl rfl rfl (by first | omega | (simp [spCells, pCells, spCells, pCells]; done) | (simp [spCells, pCells, spCells, pCells]; omega) | (simp [spCells, pCells, spCells, pCells] at *; omega)))) ?_
           refine GH_take 25 rfl rfl rfl rfl (by kernel_rfl) (by kernel_rfl) (by kernel_rfl) (fun _ _ => (V_assign rfl rfl)) ?_
           refine GH_done (by kernel_rfl) ?_
           refine G_seq ?_
           rw [body_cat]
           refine G_region (l := [0, 1, 2, 3, 4, 5, 6]) rfl ?_
           refine G_val rfl rfl rfl rfl (V_move rfl rfl) ?_
           refine G_val rfl rfl rfl rfl (V_move rfl rfl) ?_
           refine G_call (L2 := [_]) rfl rfl rfl rfl rfl rfl Try.call116 (rsum_of (bodyS s) (by omega)) [] [] rfl rfl ?_
           rintro v post ⟨rfl, rfl⟩
           show G _ _ _ [_] _
           first
             | refine G_val rfl rfl rfl rfl ((V_conv rfl rfl Try.underlying73 Try.underlying94).int (wrap_u64 (by omega))) ?_
             | refine G_val rfl rfl rfl rfl (V_conv rfl rfl Try.underlying73 Try.underlying94) ?_
           refine G_call (L2 := [_]) rfl rfl rfl rfl rfl rfl Try.call115 (rsup_fixed ((crcN (bodyS s) : Int)) 4 (by omega) (by omega) fp6.2.2.1 fp6.2.2.2.1 fp6.2.2.2.2) [] [] rfl rfl ?_
           rintro v post ⟨rfl, rfl⟩
           show G _ _ _ [_] _
           refine G_val rfl rfl rfl rfl (V_sadd rfl rfl rfl (by first | omega | (simp [spCells, pCells, spCells, pCells]; done) | (simp [spCells, pCells, spCells, pCells]; omega) | (simp [spCells, pCells, spCells, pCells] at *; omega))) ?_
           refine G_val rfl rfl rfl rfl (V_assign rfl rfl) ?_
           refine G_done ?_
           refine G_seq ?_
           refine G_block ?_
           refine G_sub ?he5 [0] ?hl5 (G_loop (X := Nat) (fun i => i ≤ 21) (fun i => 21 - i) (fun i => [(1, .pointer (some ⟨b1, 0, none⟩)), (4, .string (bs (bodyS s ++ be 4 ((crcN (bodyS s) : Int)).toNat ++ List.replicate i 0)))]) (fun i => [(some b1, .cells (spCells s).toArray 75 (0, 0))]) ?round5 0 ?h05)
           case he5 => refine (And.intro rfl (And.intro (by simp; rfl) trivial))
           case hl5 => exact ⟨_, rfl⟩
           case h05 => exact Nat.zero_le _
           case round5 =>
            intro i hJ ih
            try dsimp only at hJ ih
            refine G_seq ?_
            refine G_seq ?_
            refine G_region (l := [0, 1, 2]) rfl ?_
            refine G_val rfl rfl rfl rfl (V_move rfl rfl) ?_
            refine G_val rfl rfl rfl rfl (V_slen rfl rfl Try.underlying9 rfl) ?_
            refine G_val rfl rfl rfl rfl (V_lss rfl rfl rfl) ?_
            refine G_done ?_
            refine G_ifD rfl (fun hc2 => ?_) (fun hc2 => ?_)
            · skip
              refine G_skip ?_
              refine G_block ?_
              refine G_region (l := [0, 1, 2]) rfl ?_
              refine G_val rfl rfl rfl rfl (V_move rfl rfl) ?_
              refine G_val rfl rfl rfl rfl (V_sadd rfl rfl rfl (by first | omega | (simp [spCells, pCells, spCells, pCells]; done) | (simp [spCells, pCells, spCells, pCells]; omega) | (simp [spCells, pCells, spCells, pCells] at *; omega))) ?_
              refine G_val rfl rfl rfl rfl (V_assign rfl rfl) ?_
              refine G_done ?_
              refine G_inBlock ?_
              refine G_sub ?_ [0] ?_ (ih (i + 1) ?_ ?_)
              · (refine (And.intro rfl (And.intro (slot_str (zeros_next _ i)) trivial)))
              · exact ⟨_, rfl⟩
              · (have hh := hc2; simp only [List.length_append, List.length_replicate] at hh; omega)
              · (have hh := hc2; simp only [List.length_append, List.length_replicate] at hh; omega)
            refine G_exit rfl ?_
            refine G_seq ?_
            obtain rfl : i = 21 := by simp only [List.length_append, List.length_replicate] at *; omega
            refine G_region (l := [0, 1, 2, 3, 4, 5, 6, 7]) rfl ?_
            refine G_val rfl rfl rfl rfl (V_fieldAddr (fo := 0) rfl Try.underlying75 rfl infSuperR_73 rfl rfl rfl) ?_
            refine G_val rfl rfl rfl rfl (V_load1 rfl rfl (mem_at 0 rfl) rfl Try.underlying73 rfl) ?_
            refine G_val rfl rfl rfl rfl (V_move rfl rfl) ?_
            refine G_call (L2 := [_]) rfl rfl rfl rfl rfl rfl Try.call117 (rseal_seal s.seq 0 (dataS s) (by omega) (by omega) (by omega)) [] [] rfl rfl ?_
            rintro v post ⟨rfl, rfl⟩
            show G _ _ _ [_] _
            refine G_val rfl rfl rfl rfl (V_extract rfl rfl rfl) ?_
            refine G_val rfl rfl rfl rfl (V_extract rfl rfl rfl) ?_
            refine G_val rfl rfl rfl rfl (V_assign rfl rfl) ?_
            refine G_val rfl rfl rfl rfl (V_assign rfl rfl) ?_
            refine G_done ?_
            refine G_ret (post := []) Try.func49 rfl (RVs_cons (RV_tmp rfl) (RVs_cons (RV_tmp rfl) RVs_nil)) [] rfl ?_
            dsimp only [packed]
            first
              | (obtain ⟨e1, e2⟩ := encT_no (s := s) (by first | assumption | (simpa using hc1)); rw [e1, e2]; exact ⟨rfl, rfl⟩)
              | (obtain ⟨e1, e2⟩ := encT_yes hmd
                 have e3 : sealE s.seq (dataS s) = 0 := encS_E hm0
                 rw [e1, e2]
                 refine ⟨?_, rfl⟩
                 show Value.tuple #[.string (bs (sealL s.seq 0 (dataS s))), .int .i64 ((sealE s.seq (dataS s) : Nat) : Int)] = _
                 rw [e3]; rfl)

end
end Go.Proofs.Ytkidmbaakdaflaa
