/- The walks of layer 40: which events may be, and each as bytes; the program's and the document's. -/
import Derived.Test.YtkekkalgebgokaaScriptQ
import Derived.Test.YtkekkalgebgokaaBld
import Derived.Test.YtkekkalgebgokaaOctC
import Derived.Test.YtkekkalgebgokaaReadW
import Derived.Test.YtkekkalgebgokaaGK
import Derived.Test.YtkekkalgebgokaaG14
import Derived.Test.YtkekkalgebgokaaG16
set_option linter.unusedSimpArgs false
set_option linter.unusedVariables false
namespace Go.Proofs.Ytkekkalgebgokaa
open Go Go.RowKit

section
theorem infScriptW_3 : Try.prog.info? 3 = some Try.t3 := by kernel_rfl
theorem infScriptW_9 : Try.prog.info? 9 = some Try.t9 := by kernel_rfl
theorem infScriptW_56 : Try.prog.info? 56 = some Try.t56 := by kernel_rfl
theorem infScriptW_151 : Try.prog.info? 151 = some Try.t151 := by kernel_rfl

set_option maxRecDepth 100000 in
set_option maxHeartbeats 1000000 in
theorem sc_fields (k : Int) :
    Ct Try.prog 75 [.int .i64 k] [] [] fun v post => v = .string (bs (fieldsE k)) ∧ post = [] := by
 refine ct_of Try.func75 rfl rfl (fun w0 => ?_)
 show G _ _ [(0, _)] _ _
 refine G_seq ?_
 refine G_region (l := [0]) rfl ?_
 refine G_val rfl rfl rfl rfl (V_assign rfl rfl) ?_
 refine G_done ?_
 refine G_seq ?_
 refine G_seq ?_
 refine G_region (l := [0]) rfl ?_
 refine G_val rfl rfl rfl rfl (V_move rfl rfl) ?_
 refine G_done ?_
 refine G_block ?_
 refine G_seq ?_
 refine G_region (l := [0, 1]) rfl ?_
 refine G_val rfl rfl rfl rfl (V_eql rfl rfl rfl) ?_
 refine G_val rfl rfl rfl rfl (V_assign rfl rfl) ?_
 refine G_done ?_
 refine G_ifD rfl (fun hc1 => ?_) (fun hc1 => ?_)
 · skip
   refine G_seq ?_
   refine G_region (l := [0]) rfl ?_
   refine G_val rfl rfl rfl rfl (V_assign rfl rfl) ?_
   refine G_done ?_
   refine G_ret (post := []) Try.func75 rfl (RVs_cons (RV_tmp rfl) RVs_nil) [] rfl ?_
   dsimp only [packed]
   refine ⟨str_eq ?_, rfl⟩; unfold fieldsE; simp [*]
 refine G_seq ?_
 refine G_region (l := [0, 1]) rfl ?_
 refine G_val rfl rfl rfl rfl (V_eql rfl rfl rfl) ?_
 refine G_val rfl rfl rfl rfl (V_assign rfl rfl) ?_
 refine G_done ?_
 refine G_ifD rfl (fun hc2 => ?_) (fun hc2 => ?_)
 · skip
   refine G_seq ?_
   refine G_region (l := [0]) rfl ?_
   refine G_val rfl rfl rfl rfl (V_assign rfl rfl) ?_
   refine G_done ?_
   refine G_ret (post := []) Try.func75 rfl (RVs_cons (RV_tmp rfl) RVs_nil) [] rfl ?_
   dsimp only [packed]
   refine ⟨str_eq ?_, rfl⟩; unfold fieldsE; simp [*]
 refine G_seq ?_
 refine G_region (l := [0, 1]) rfl ?_
 refine G_val rfl rfl rfl rfl (V_eql rfl rfl rfl) ?_
 refine G_val rfl rfl rfl rfl (V_assign rfl rfl) ?_
 refine G_done ?_
 refine G_ifD rfl (fun hc3 => ?_) (fun hc3 => ?_)
 · skip
   refine G_seq ?_
   refine G_region (l := [0]) rfl ?_
   refine G_val rfl rfl rfl rfl (V_assign rfl rfl) ?_
   refine G_done ?_
   refine G_ret (post := []) Try.func75 rfl (RVs_cons (RV_tmp rfl) RVs_nil) [] rfl ?_
   dsimp only [packed]
   refine ⟨str_eq ?_, rfl⟩; unfold fieldsE; simp [*]
 refine G_skip ?_
 refine G_inBlock ?_
 refine G_seq ?_
 refine G_region (l := [0]) rfl ?_
 refine G_val rfl rfl rfl rfl (V_assign rfl rfl) ?_
 refine G_done ?_
 refine G_ret (post := []) Try.func75 rfl (RVs_cons (RV_tmp rfl) RVs_nil) [] rfl ?_
 dsimp only [packed]
 refine ⟨str_eq ?_, rfl⟩; unfold fieldsE; simp [*]

set_option maxRecDepth 100000 in
set_option maxHeartbeats 1000000 in
theorem sl_indexByte (l : List UInt8) (x : UInt8) :
    Ct Try.prog 166 [.string (bs l), .int .u8 (x.toNat : Int)] [] [] fun v post => v = .int .i64 (Lib.indexByte l x) ∧ post = [] := by
 refine ct_of Try.func166 rfl rfl (fun w0 => ?_)
 show G _ _ [(0, _), (1, _)] _ _
 refine G_seq ?_
 refine G_region (l := [0]) rfl ?_
 refine G_val rfl rfl rfl rfl (V_assign rfl rfl) ?_
 refine G_done ?_
 refine G_seq ?_
 refine G_region (l := [0, 1, 2, 3]) rfl ?_
 refine G_val rfl rfl rfl rfl (V_move rfl rfl) ?_
 refine G_val rfl rfl rfl rfl (V_move rfl rfl) ?_
 refine G_val rfl rfl rfl rfl (V_extern (ev := Extern.BytealgIndexByte.indexByte) rfl rfl Try.func175 (by kernel_rfl) (by kernel_rfl) (by kernel_rfl) (by kernel_rfl) (fun w => ext_indexByte l x w)) ?_
 refine G_val rfl rfl rfl rfl (V_assign rfl rfl) ?_
 refine G_done ?_
 refine G_ret (post := []) Try.func166 rfl (RVs_cons (RV_tmp rfl) RVs_nil) [] rfl ?_
 dsimp only [packed]
 exact ⟨rfl, rfl⟩

set_option maxRecDepth 100000 in
set_option maxHeartbeats 1000000 in
theorem sl_index1 (l : List UInt8) (x : UInt8) :
    Ct Try.prog 150 [.string (bs l), .string (bs [x])] [] [] fun v post => v = .int .i64 (Lib.indexByte l x) ∧ post = [] := by
 refine ct_of Try.func150 rfl rfl (fun w0 => ?_)
 show G _ _ [(0, _), (1, _)] _ _
 refine G_seq ?_
 refine G_region (l := [0]) rfl ?_
 refine G_val rfl rfl rfl rfl (V_assign rfl rfl) ?_
 refine G_done ?_
 refine G_seq ?_
 refine G_region (l := [0, 1, 2]) rfl ?_
 refine G_val rfl rfl rfl rfl (V_move rfl rfl) ?_
 refine G_val rfl rfl rfl rfl (V_slen rfl rfl Try.underlying9 rfl) ?_
 refine G_val rfl rfl rfl rfl (V_assign rfl rfl) ?_
 refine G_done ?_
 refine G_seq ?_
 refine G_block ?_
 refine G_seq ?_
 refine G_region (l := [0, 1, 2, 3, 4, 5, 6, 7]) rfl ?_
 refine G_val rfl rfl rfl rfl (V_move rfl rfl) ?_
 refine G_val rfl rfl rfl rfl (V_eql rfl rfl rfl) ?_
 refine G_val rfl rfl rfl rfl (V_move rfl rfl) ?_
 refine G_splitD 19 rfl (fun hc1 => ?_) (fun hc1 => ?_)
 · (first | contradiction | (exact absurd rfl hc1) | (exfalso; omega) | (simp at hc1; done) | (exact absurd hc1 (by decide)) | (exact absurd (by decide) hc1))
 refine G_val rfl rfl rfl rfl (V_move rfl rfl) ?_
 refine G_val rfl rfl rfl rfl (V_move rfl rfl) ?_
 refine G_val rfl rfl rfl rfl (V_seql rfl rfl rfl) ?_
 refine G_val rfl rfl rfl rfl (V_pickF rfl rfl rfl) ?_
 refine G_val rfl rfl rfl rfl (V_assign rfl rfl) ?_
 refine G_done ?_
 refine G_ifD rfl (fun hc2 => ?_) (fun hc2 => ?_)
 · skip
   refine G_seq ?_
   refine G_region (l := [0]) rfl ?_
   refine G_val rfl rfl rfl rfl (V_assign rfl rfl) ?_
   refine G_done ?_
   refine G_ret (post := []) Try.func150 rfl (RVs_cons (RV_tmp rfl) RVs_nil) [] rfl ?_
   dsimp only [packed]
   first
     | exact ⟨rfl, rfl⟩
     | (obtain rfl : l = [x] := by first | assumption | exact (by assumption : [x] = l).symm
        exact ⟨int_eq (by simp [Lib.indexByte]), rfl⟩)
 refine G_seq ?_
 refine G_region (l := [0, 1, 2]) rfl ?_
 refine G_val rfl rfl rfl rfl (V_move rfl rfl) ?_
 refine G_val rfl rfl rfl rfl (V_eql rfl rfl rfl) ?_
 refine G_val rfl rfl rfl rfl (V_assign rfl rfl) ?_
 refine G_done ?_
 refine G_ifD rfl (fun hc3 => ?_) (fun hc3 => ?_)
 rotate_left
 · (first | contradiction | (exact absurd rfl hc3) | (exfalso; omega) | (simp at hc3; done) | (exact absurd hc3 (by decide)) | (exact absurd (by decide) hc3))
 refine G_seq ?_
 refine G_region (l := [0, 1, 2, 3, 4]) rfl ?_
 refine G_val rfl rfl rfl rfl (V_move rfl rfl) ?_
 refine G_val rfl rfl rfl rfl (V_move rfl rfl) ?_
 first
   | refine G_val rfl rfl rfl rfl (V_sindexN rfl Try.underlying9 rfl rfl rfl (by omega)) ?_
   | refine G_val rfl rfl rfl rfl (V_sindexD rfl Try.underlying9 rfl rfl (by omega) (by first | omega | (simp [evC, evV, kC]; done) | (simp [evC, evV, kC]; omega) | (simp [evC, evV, kC] at *; omega))) ?_
 refine G_call (L2 := []) rfl rfl rfl rfl rfl rfl Try.call166 (sl_indexByte _ _) [] [] rfl rfl ?_
 rintro v post ⟨rfl, rfl⟩
 refine G_val rfl rfl rfl rfl (V_assign rfl rfl) ?_
 refine G_done ?_
 refine G_ret (post := []) Try.func150 rfl (RVs_cons (RV_tmp rfl) RVs_nil) [] rfl ?_
 dsimp only [packed]
 first
   | exact ⟨rfl, rfl⟩
   | (obtain rfl : l = [x] := by first | assumption | exact (by assumption : [x] = l).symm
      exact ⟨int_eq (by simp [Lib.indexByte]), rfl⟩)

set_option maxRecDepth 100000 in
set_option maxHeartbeats 1000000 in
theorem st_index1 (l : List UInt8) (x : UInt8) :
    Ct Try.prog 127 [.string (bs l), .string (bs [x])] [] [] fun v post => v = .int .i64 (Lib.indexByte l x) ∧ post = [] := by
 refine ct_of Try.func127 rfl rfl (fun w0 => ?_)
 show G _ _ [(0, _), (1, _)] _ _
 refine G_seq ?_
 refine G_region (l := [0]) rfl ?_
 refine G_val rfl rfl rfl rfl (V_assign rfl rfl) ?_
 refine G_done ?_
 refine G_seq ?_
 refine G_region (l := [0, 1, 2, 3]) rfl ?_
 refine G_val rfl rfl rfl rfl (V_move rfl rfl) ?_
 refine G_val rfl rfl rfl rfl (V_move rfl rfl) ?_
 refine G_call (L2 := []) rfl rfl rfl rfl rfl rfl Try.call150 (sl_index1 _ _) [] [] rfl rfl ?_
 rintro v post ⟨rfl, rfl⟩
 refine G_val rfl rfl rfl rfl (V_assign rfl rfl) ?_
 refine G_done ?_
 refine G_ret (post := []) Try.func127 rfl (RVs_cons (RV_tmp rfl) RVs_nil) [] rfl ?_
 dsimp only [packed]
 exact ⟨rfl, rfl⟩

set_option maxRecDepth 100000 in
set_option maxHeartbeats 1000000 in
theorem st_contains1 (l : List UInt8) (x : UInt8) :
    Ct Try.prog 74 [.string (bs l), .string (bs [x])] [] [] fun v post => v = .bool (decide (0 ≤ Lib.indexByte l x)) ∧ post = [] := by
 refine ct_of Try.func74 rfl rfl (fun w0 => ?_)
 show G _ _ [(0, _), (1, _)] _ _
 refine G_seq ?_
 refine G_region (l := [0]) rfl ?_
 refine G_val rfl rfl rfl rfl (V_assign rfl rfl) ?_
 refine G_done ?_
 refine G_seq ?_
 refine G_region (l := [0, 1, 2, 3, 4]) rfl ?_
 refine G_val rfl rfl rfl rfl (V_move rfl rfl) ?_
 refine G_val rfl rfl rfl rfl (V_move rfl rfl) ?_
 refine G_call (L2 := []) rfl rfl rfl rfl rfl rfl Try.call127 (st_index1 _ _) [] [] rfl rfl ?_
 rintro v post ⟨rfl, rfl⟩
 refine G_val rfl rfl rfl rfl (V_geq rfl rfl rfl) ?_
 refine G_val rfl rfl rfl rfl (V_assign rfl rfl) ?_
 refine G_done ?_
 refine G_ret (post := []) Try.func74 rfl (RVs_cons (RV_tmp rfl) RVs_nil) [] rfl ?_
 dsimp only [packed]
 exact ⟨rfl, rfl⟩

set_option maxRecDepth 100000 in
set_option maxHeartbeats 1000000 in
theorem sc_wrong (x : Int × Int) :
    Ct Try.prog 77 [.agg (kC x).toArray] [] [] fun v post => v = .bool (badK x) ∧ post = [] := by
 refine ct_of Try.func77 rfl rfl (fun w0 => ?_)
 show G _ _ [(0, _)] _ _
 refine G_seq ?_
 refine G_region (l := [0, 1]) rfl ?_
 refine G_new rfl rfl rfl rfl (N_boxA rfl rfl) (fun b1 => ?_)
 refine G_val rfl rfl rfl rfl (V_assign rfl rfl) ?_
 refine G_done ?_
 refine G_seq ?_
 refine G_region (l := [0, 1, 2, 3, 4, 5, 6, 7, 8, 9, 10, 11, 12, 13, 14, 15, 16, 17, 18]) rfl ?_
 refine G_val rfl rfl rfl rfl (V_fieldAddr (fo := 0) rfl Try.underlying151 rfl infScriptW_3 rfl rfl rfl) ?_
 refine G_val rfl rfl rfl rfl (V_load1 rfl rfl (mem_at 0 rfl) rfl Try.underlying3 rfl) ?_
 refine G_val rfl rfl rfl rfl (V_lss rfl rfl rfl) ?_
 refine G_val rfl rfl rfl rfl (V_move rfl rfl) ?_
 refine G_splitD 6 rfl (fun hc1 => ?_) (fun hc1 => ?_)
 · skip
   refine G_off rfl rfl rfl rfl ?_
   refine G_off rfl rfl rfl rfl ?_
   refine G_off rfl rfl rfl rfl ?_
   refine G_val rfl rfl rfl rfl (V_pickT rfl rfl rfl) ?_
   refine G_val rfl rfl rfl rfl (V_move rfl rfl) ?_
   refine G_off rfl rfl rfl rfl ?_
   refine G_off rfl rfl rfl rfl ?_
   refine G_off rfl rfl rfl rfl ?_
   refine G_val rfl rfl rfl rfl (V_pickT rfl rfl rfl) ?_
   refine G_val rfl rfl rfl rfl (V_move rfl rfl) ?_
   refine G_off rfl rfl rfl rfl ?_
   refine G_off rfl rfl rfl rfl ?_
   refine G_off rfl rfl rfl rfl ?_
   refine G_val rfl rfl rfl rfl (V_pickT rfl rfl rfl) ?_
   refine G_val rfl rfl rfl rfl (V_assign rfl rfl) ?_
   refine G_done ?_
   refine G_ret (post := []) Try.func77 rfl (RVs_cons (RV_tmp rfl) RVs_nil) [] rfl ?_
   dsimp only [packed]
   refine ⟨bool_eq ?_, rfl⟩; unfold badK; first | exact (decide_eq_true (by omega)).symm | exact (decide_eq_false (by omega)).symm | exact decide_eq_decide.2 (by omega)
 refine G_val rfl rfl rfl rfl (V_fieldAddr (fo := 0) rfl Try.underlying151 rfl infScriptW_3 rfl rfl rfl) ?_
 refine G_val rfl rfl rfl rfl (V_load1 rfl rfl (mem_at 0 rfl) rfl Try.underlying3 rfl) ?_
 refine G_val rfl rfl rfl rfl (V_gtr rfl rfl rfl) ?_
 refine G_val rfl rfl rfl rfl (V_pickF rfl rfl rfl) ?_
 refine G_val rfl rfl rfl rfl (V_move rfl rfl) ?_
 refine G_splitD 11 rfl (fun hc2 => ?_) (fun hc2 => ?_)
 · skip
   refine G_off rfl rfl rfl rfl ?_
   refine G_off rfl rfl rfl rfl ?_
   refine G_off rfl rfl rfl rfl ?_
   refine G_val rfl rfl rfl rfl (V_pickT rfl rfl rfl) ?_
   refine G_val rfl rfl rfl rfl (V_move rfl rfl) ?_
   refine G_off rfl rfl rfl rfl ?_
   refine G_off rfl rfl rfl rfl ?_
   refine G_off rfl rfl rfl rfl ?_
   refine G_val rfl rfl rfl rfl (V_pickT rfl rfl rfl) ?_
   refine G_val rfl rfl rfl rfl (V_assign rfl rfl) ?_
   refine G_done ?_
   refine G_ret (post := []) Try.func77 rfl (RVs_cons (RV_tmp rfl) RVs_nil) [] rfl ?_
   dsimp only [packed]
   refine ⟨bool_eq ?_, rfl⟩; unfold badK; first | exact (decide_eq_true (by omega)).symm | exact (decide_eq_false (by omega)).symm | exact decide_eq_decide.2 (by omega)
 refine G_val rfl rfl rfl rfl (V_fieldAddr (fo := 1) rfl Try.underlying151 rfl infScriptW_3 rfl rfl rfl) ?_
 refine G_val rfl rfl rfl rfl (V_load1 rfl rfl (mem_at 0 rfl) rfl Try.underlying3 rfl) ?_
 refine G_val rfl rfl rfl rfl (V_lss rfl rfl rfl) ?_
 refine G_val rfl rfl rfl rfl (V_pickF rfl rfl rfl) ?_
 refine G_val rfl rfl rfl rfl (V_move rfl rfl) ?_
 refine G_splitD 16 rfl (fun hc3 => ?_) (fun hc3 => ?_)
 · skip
   refine G_off rfl rfl rfl rfl ?_
   refine G_off rfl rfl rfl rfl ?_
   refine G_off rfl rfl rfl rfl ?_
   refine G_val rfl rfl rfl rfl (V_pickT rfl rfl rfl) ?_
   refine G_val rfl rfl rfl rfl (V_assign rfl rfl) ?_
   refine G_done ?_
   refine G_ret (post := []) Try.func77 rfl (RVs_cons (RV_tmp rfl) RVs_nil) [] rfl ?_
   dsimp only [packed]
   refine ⟨bool_eq ?_, rfl⟩; unfold badK; first | exact (decide_eq_true (by omega)).symm | exact (decide_eq_false (by omega)).symm | exact decide_eq_decide.2 (by omega)
 refine G_val rfl rfl rfl rfl (V_fieldAddr (fo := 1) rfl Try.underlying151 rfl infScriptW_3 rfl rfl rfl) ?_
 refine G_val rfl rfl rfl rfl (V_load1 rfl rfl (mem_at 0 rfl) rfl Try.underlying3 rfl) ?_
 refine G_val rfl rfl rfl rfl (V_gtr rfl rfl rfl) ?_
 refine G_val rfl rfl rfl rfl (V_pickF rfl rfl rfl) ?_
 refine G_val rfl rfl rfl rfl (V_assign rfl rfl) ?_
 refine G_done ?_
 refine G_ret (post := []) Try.func77 rfl (RVs_cons (RV_tmp rfl) RVs_nil) [] rfl ?_
 dsimp only [packed]
 refine ⟨bool_eq ?_, rfl⟩; unfold badK; first | exact (decide_eq_true (by omega)).symm | exact (decide_eq_false (by omega)).symm | exact decide_eq_decide.2 (by omega)

set_option maxRecDepth 100000 in
set_option maxHeartbeats 1000000 in
theorem sc_indexK (o1 : Option Nat) (p1 q1 : Nat) (c1 : Array Value) (T1 : TypeId) (f1 : Nat × Nat) (ks : List (Int × Int)) (h1 : Sees 2 o1 p1 q1 c1 (ks.flatMap kC) ks.length) :
    Ct Try.prog 128 [sv o1 p1 ks.length q1, .func (.func 77) #[] #[]] [(o1, .cells c1 T1 f1)] [] fun v post => (∃ z, v = .int .i64 z ∧ decide (0 ≤ z) = ks.any badK) ∧ post = [] := by
 have hl1 := h1.le
 have hl2 := h1.max
 refine ct_of Try.func128 rfl rfl (fun w0 => ?_)
 show G _ _ [(0, _), (1, _)] _ _
 refine G_seq ?_
 refine G_region (l := [0]) rfl ?_
 refine G_val rfl rfl rfl rfl (V_assign rfl rfl) ?_
 refine G_done ?_
 refine G_seq ?_
 refine G_seq ?_
 refine G_region (l := [0, 1, 2]) rfl ?_
 refine G_val rfl rfl rfl rfl (V_move rfl rfl) ?_
 refine G_val rfl rfl rfl rfl (V_len rfl rfl Try.underlying56 rfl) ?_
 refine G_val rfl rfl rfl rfl (V_move rfl rfl) ?_
 refine G_done ?_
 refine G_block ?_
 refine G_sub ?he2 [] ?hl2 (G_loop (X := Nat) (fun i => i ≤ ks.length ∧ (ks.take i).any badK = false) (fun i => ks.length - i) (fun i => [(0, sv o1 p1 ks.length q1), (1, .func (.func 77) #[] #[]), (7, .int .i64 (ks.length : Int)), (8, .int .i64 (i : Int))]) (fun i => []) ?round2 0 ?h02)
 case he2 => exact (And.intro rfl (And.intro rfl (And.intro rfl (And.intro rfl trivial))))
 case hl2 => exact ⟨_, rfl⟩
 case h02 => exact ⟨Nat.zero_le _, rfl⟩
 case round2 =>
  intro i hJ ih
  try dsimp only at hJ ih
  obtain ⟨hi, ht⟩ := hJ
  refine G_seq ?_
  refine G_region (l := [0]) rfl ?_
  refine G_val rfl rfl rfl rfl (V_lss rfl rfl rfl) ?_
  refine G_done ?_
  refine G_seq ?_
  refine G_ifD rfl (fun hc1 => ?_) (fun hc1 => ?_)
  · skip
    refine G_skip ?_
    refine G_seq ?_
    refine G_block ?_
    refine G_seq ?_
    refine G_region (l := [0, 1]) rfl ?_
    refine G_val rfl rfl rfl rfl (V_move rfl rfl) ?_
    refine G_val rfl rfl rfl rfl (V_assign rfl rfl) ?_
    refine G_done ?_
    refine G_seq ?_
    obtain ⟨x, hx⟩ := getI (show i < ks.length by omega)
    obtain ⟨b1, rfl⟩ := h1.isSome (by omega)
    refine G_region (l := [0, 1, 2, 3, 4, 5]) rfl ?_
    refine G_val rfl rfl rfl rfl (V_move rfl rfl) ?_
    refine G_val rfl rfl rfl rfl (V_move rfl rfl) ?_
    refine G_val rfl rfl rfl rfl (V_move rfl rfl) ?_
    first
      | refine G_val rfl rfl rfl rfl (V_indexAddrN (s := 2) rfl Try.underlying56 infScriptW_151 rfl rfl rfl rfl (by omega)) ?_
      | refine G_val rfl rfl rfl rfl (V_indexAddr (s := 2) rfl Try.underlying56 infScriptW_151 rfl rfl rfl (by omega) (by first | omega | (simp [evC, evV, kC]; done) | (simp [evC, evV, kC]; omega) | (simp [evC, evV, kC] at *; omega))) ?_
    refine G_val rfl rfl rfl rfl (V_loadA (s := 2) (vs := (kC x).toArray) rfl rfl (mem_at 0 rfl) Try.underlying151 rfl infScriptW_151 rfl (h1.elem kC_len hx) (by first | rfl | (simp [bcells_length, evC, evV, kC]; done) | (simp [bcells_length, evC, evV, kC]; omega) | (simp [bcells_length, *, evC, evV, kC]; done))) ?_
    refine G_callC (L2 := []) rfl rfl rfl rfl rfl rfl Try.call77 rfl (sc_wrong _) [] [] rfl rfl ?_
    rintro v post ⟨rfl, rfl⟩
    refine G_done ?_
    refine G_if rfl (fun hc2 => ?_) (fun hc2 => ?_)
    · skip
      refine G_seq ?_
      refine G_region (l := [0, 1]) rfl ?_
      refine G_val rfl rfl rfl rfl (V_move rfl rfl) ?_
      refine G_val rfl rfl rfl rfl (V_assign rfl rfl) ?_
      refine G_done ?_
      refine G_ret (post := []) Try.func128 rfl (RVs_cons (RV_tmp rfl) RVs_nil) [] rfl ?_
      dsimp only [packed]
      first
        | exact ⟨⟨_, rfl, by rw [any_yes hx (by assumption)]; simp⟩, rfl⟩
        | exact ⟨⟨_, rfl, by rw [any_end ht (by omega)]; rfl⟩, rfl⟩
    refine G_skip ?_
    refine G_inBlock ?_
    refine G_region (l := [0, 1]) rfl ?_
    first
      | refine G_val rfl rfl rfl rfl ((V_add rfl rfl rfl).int (wrap_i64 (by omega))) ?_
      | refine G_val rfl rfl rfl rfl (V_add rfl rfl rfl) ?_
    refine G_val rfl rfl rfl rfl (V_move rfl rfl) ?_
    refine G_done ?_
    refine G_sub ?_ [] ?_ (ih (i + 1) ?_ ?_)
    · (refine (And.intro ?_ (And.intro ?_ (And.intro ?_ (And.intro ?_ trivial)))) <;> first | rfl | exact slot_int (by omega) | exact slot_int (by simp))
    · exact ⟨_, rfl⟩
    · exact ⟨by omega, any_next ht hx (by simpa using ‹badK x = false›)⟩
    · (first | omega | (dsimp only; omega))
  refine G_exit rfl ?_
  refine G_seq ?_
  refine G_region (l := [0]) rfl ?_
  refine G_val rfl rfl rfl rfl (V_assign rfl rfl) ?_
  refine G_done ?_
  refine G_ret (post := []) Try.func128 rfl (RVs_cons (RV_tmp rfl) RVs_nil) [] rfl ?_
  dsimp only [packed]
  first
    | exact ⟨⟨_, rfl, by rw [any_yes hx (by assumption)]; simp⟩, rfl⟩
    | exact ⟨⟨_, rfl, by rw [any_end ht (by omega)]; rfl⟩, rfl⟩

set_option maxRecDepth 100000 in
set_option maxHeartbeats 1000000 in
theorem sc_indexK0 (p : Option Addr) :
    Ct Try.prog 128 [.slice p 0 0, .func (.func 77) #[] #[]] [] [] fun v post => (∃ z, v = .int .i64 z ∧ decide (0 ≤ z) = false) ∧ post = [] := by
 refine ct_of Try.func128 rfl rfl (fun w0 => ?_)
 show G _ _ [(0, _), (1, _)] _ _
 refine G_seq ?_
 refine G_region (l := [0]) rfl ?_
 refine G_val rfl rfl rfl rfl (V_assign rfl rfl) ?_
 refine G_done ?_
 refine G_seq ?_
 refine G_seq ?_
 refine G_region (l := [0, 1, 2]) rfl ?_
 refine G_val rfl rfl rfl rfl (V_move rfl rfl) ?_
 refine G_val rfl rfl rfl rfl (V_len rfl rfl Try.underlying56 rfl) ?_
 refine G_val rfl rfl rfl rfl (V_move rfl rfl) ?_
 refine G_done ?_
 refine G_block ?_
 refine G_sub ?he2 [] ?hl2 (G_loop (X := Nat) (fun i => i = 0) (fun i => 0) (fun i => [(0, .slice p 0 0), (1, .func (.func 77) #[] #[]), (7, .int .i64 0), (8, .int .i64 (i : Int))]) (fun i => []) ?round2 0 ?h02)
 case he2 => exact (And.intro rfl (And.intro rfl (And.intro rfl (And.intro rfl trivial))))
 case hl2 => exact ⟨_, rfl⟩
 case h02 => rfl
 case round2 =>
  intro i hJ ih
  try dsimp only at hJ ih
  obtain hi := hJ
  refine G_seq ?_
  refine G_region (l := [0]) rfl ?_
  refine G_val rfl rfl rfl rfl (V_lss rfl rfl rfl) ?_
  refine G_done ?_
  refine G_seq ?_
  refine G_ifD rfl (fun hc1 => ?_) (fun hc1 => ?_)
  · (first | contradiction | (exact absurd rfl hc1) | (exfalso; omega) | (simp at hc1; done) | (exact absurd hc1 (by decide)) | (exact absurd (by decide) hc1))
  refine G_exit rfl ?_
  refine G_seq ?_
  refine G_region (l := [0]) rfl ?_
  refine G_val rfl rfl rfl rfl (V_assign rfl rfl) ?_
  refine G_done ?_
  refine G_ret (post := []) Try.func128 rfl (RVs_cons (RV_tmp rfl) RVs_nil) [] rfl ?_
  dsimp only [packed]
  exact ⟨⟨_, rfl, rfl⟩, rfl⟩

set_option maxRecDepth 100000 in
set_option maxHeartbeats 1000000 in
theorem sc_containsK1 (o1 : Option Nat) (p1 q1 : Nat) (c1 : Array Value) (T1 : TypeId) (f1 : Nat × Nat) (ks : List (Int × Int)) (h1 : Sees 2 o1 p1 q1 c1 (ks.flatMap kC) ks.length) :
    Ct Try.prog 76 [sv o1 p1 ks.length q1, .func (.func 77) #[] #[]] [(o1, .cells c1 T1 f1)] [] fun v post => v = .bool (ks.any badK) ∧ post = [] := by
 have hl1 := h1.le
 have hl2 := h1.max
 refine ct_of Try.func76 rfl rfl (fun w0 => ?_)
 show G _ _ [(0, _), (1, _)] _ _
 refine G_seq ?_
 refine G_region (l := [0]) rfl ?_
 refine G_val rfl rfl rfl rfl (V_assign rfl rfl) ?_
 refine G_done ?_
 refine G_seq ?_
 refine G_region (l := [0, 1, 2, 3, 4]) rfl ?_
 refine G_val rfl rfl rfl rfl (V_move rfl rfl) ?_
 refine G_val rfl rfl rfl rfl (V_move rfl rfl) ?_
 refine G_call (L2 := []) rfl rfl rfl rfl rfl rfl Try.call128 (sc_indexK _ _ _ _ _ _ ks h1) [] [0] rfl rfl ?_
 rintro v post ⟨⟨z, rfl, hz⟩, rfl⟩
 refine G_val rfl rfl rfl rfl (V_geq rfl rfl rfl) ?_
 refine G_val rfl rfl rfl rfl (V_assign rfl rfl) ?_
 refine G_done ?_
 refine G_ret (post := []) Try.func76 rfl (RVs_cons (RV_tmp rfl) RVs_nil) [] rfl ?_
 dsimp only [packed]
 exact ⟨bool_eq (by rw [← hz]), rfl⟩

set_option maxRecDepth 100000 in
set_option maxHeartbeats 1000000 in
theorem sc_containsK0 (p : Option Addr) :
    Ct Try.prog 76 [.slice p 0 0, .func (.func 77) #[] #[]] [] [] fun v post => v = .bool false ∧ post = [] := by
 refine ct_of Try.func76 rfl rfl (fun w0 => ?_)
 show G _ _ [(0, _), (1, _)] _ _
 refine G_seq ?_
 refine G_region (l := [0]) rfl ?_
 refine G_val rfl rfl rfl rfl (V_assign rfl rfl) ?_
 refine G_done ?_
 refine G_seq ?_
 refine G_region (l := [0, 1, 2, 3, 4]) rfl ?_
 refine G_val rfl rfl rfl rfl (V_move rfl rfl) ?_
 refine G_val rfl rfl rfl rfl (V_move rfl rfl) ?_
 refine G_call (L2 := []) rfl rfl rfl rfl rfl rfl Try.call128 (sc_indexK0 p) [] [] rfl rfl ?_
 rintro v post ⟨⟨z, rfl, hz⟩, rfl⟩
 refine G_val rfl rfl rfl rfl (V_geq rfl rfl rfl) ?_
 refine G_val rfl rfl rfl rfl (V_assign rfl rfl) ?_
 refine G_done ?_
 refine G_ret (post := []) Try.func76 rfl (RVs_cons (RV_tmp rfl) RVs_nil) [] rfl ?_
 dsimp only [packed]
 exact ⟨bool_eq (by rw [← hz]), rfl⟩


theorem ct_more {P : Program} {f : FuncId} {args : List Value} {A L : List (Option Nat × Obj)} {R : Value → List (Option Nat × Obj) → Prop} (h : Ct P f args [] L R) : Ct P f args A L R := fun w0 hh => h w0 hh.dropA
theorem sc_containsK (m : Em) (hm : EmOk m) : Ct Try.prog 76 [evS m, .func (.func 77) #[] #[]] [evK m] [] (fun v post => v = .bool (m.v.ks.any badK) ∧ post = []) := by
  rcases hm.sees with ⟨e, hs⟩ | ⟨e1, e2⟩
  · unfold evS; rw [e]; exact sc_containsK1 _ _ _ _ _ _ _ hs
  · unfold evS; rw [e1, e2]; exact ct_more (sc_containsK0 m.p)
theorem has_1 {k : Int} (h : k = 1) : hasE' k 116 = true ∧ hasE' k 98 = true ∧ hasE' k 102 = false ∧ hasE' k 107 = false := by subst h; decide
theorem has_2 {k : Int} (h : k = 2) : hasE' k 116 = true ∧ hasE' k 98 = false ∧ hasE' k 102 = false ∧ hasE' k 107 = false := by subst h; decide
theorem has_3 {k : Int} (h : k = 3) : hasE' k 116 = true ∧ hasE' k 98 = true ∧ hasE' k 102 = true ∧ hasE' k 107 = true := by subst h; decide
theorem has_0 {k : Int} (h : ¬ (1 ≤ k ∧ k ≤ 3)) : hasE' k 116 = false ∧ hasE' k 98 = false ∧ hasE' k 102 = false ∧ hasE' k 107 = false := by unfold hasE'; rw [fields_none h]; decide


theorem may_ff {e : Ev} (h : ¬ (1 ≤ e.kd ∧ e.kd ≤ 3) ∨ 600 < (e.b.length : Int) ∨ (e.kd = 2 ∧ ¬ e.b = []) ∨ (e.kd ≠ 3 ∧ ¬ e.f = 0) ∨ (e.kd ≠ 3 ∧ 0 < (e.ks.length : Int)) ∨ e.f < -1 ∨ 1099511627776 ≤ e.f ∨ 64 < (e.ks.length : Int) ∨ e.ks.any badK = true) : decide (MayE e) = false := by
  rw [decide_eq_false_iff_not]
  rintro ⟨h1, h2, h3, h4, h5, h6, h7⟩
  rcases h with h | h | h | h | h | h | h | h | h
  · exact h h1
  · omega
  · exact h.2 (h3 h.1)
  · exact h.2 (h4 h.1).1
  · have := (h4 h.1).2; rw [this] at h; simp at h
  · omega
  · omega
  · omega
  · rw [List.any_eq_true] at h
    obtain ⟨x, hx, hb⟩ := h
    rw [h7 x hx] at hb; cases hb
theorem may_tt {e : Ev} (h1 : 1 ≤ e.kd ∧ e.kd ≤ 3) (h2 : (e.b.length : Int) ≤ 600) (h3 : e.kd = 2 → e.b = []) (h4 : e.kd ≠ 3 → e.f = 0 ∧ e.ks = []) (h5 : -1 ≤ e.f ∧ e.f < 1099511627776) (h6 : (e.ks.length : Int) ≤ 64) (h7 : e.ks.any badK = false) : decide (MayE e) = true := by
  rw [decide_eq_true_eq]
  refine ⟨h1, by omega, h3, h4, h5, by omega, fun x hx => ?_⟩
  rw [List.any_eq_false] at h7
  simpa using h7 x hx

set_option maxRecDepth 100000 in
set_option maxHeartbeats 1000000 in
theorem sc_has (b : Nat) (m : Em) (x : UInt8) :
    Ct Try.prog 73 [.string (bs [x]), .pointer (some ⟨b, 0, none⟩)] [(some b, .cells (evC m).toArray 58 (0, 0))] [] fun v post => v = .bool (hasE' m.v.kd x) ∧ post = [] := by
 refine ct_of Try.func73 rfl rfl (fun w0 => ?_)
 show G _ _ [(0, _), (1, _)] _ _
 refine G_seq ?_
 refine G_region (l := [0]) rfl ?_
 refine G_val rfl rfl rfl rfl (V_assign rfl rfl) ?_
 refine G_done ?_
 refine G_seq ?_
 refine G_region (l := [0, 1, 2, 3, 4, 5]) rfl ?_
 refine G_val rfl rfl rfl rfl (V_fieldAddr (fo := 0) rfl Try.underlying58 rfl infScriptW_3 rfl rfl rfl) ?_
 refine G_val rfl rfl rfl rfl (V_load1 rfl rfl (mem_at 0 rfl) rfl Try.underlying3 rfl) ?_
 refine G_call (L2 := []) rfl rfl rfl rfl rfl rfl Try.call75 (sc_fields _) [] [] rfl rfl ?_
 rintro v post ⟨rfl, rfl⟩
 refine G_val rfl rfl rfl rfl (V_move rfl rfl) ?_
 refine G_call (L2 := []) rfl rfl rfl rfl rfl rfl Try.call74 (st_contains1 _ _) [] [] rfl rfl ?_
 rintro v post ⟨rfl, rfl⟩
 refine G_val rfl rfl rfl rfl (V_assign rfl rfl) ?_
 refine G_done ?_
 refine G_ret (post := []) Try.func73 rfl (RVs_cons (RV_tmp rfl) RVs_nil) [] rfl ?_
 dsimp only [packed]
 exact ⟨bool_eq (by unfold hasE'; rfl), rfl⟩

set_option maxRecDepth 100000 in
set_option maxHeartbeats 1000000 in
theorem sc_may (m : Em) (hm : EmOk m) :
    Ct Try.prog 21 [.agg (evC m).toArray] [evK m] [] fun v post => v = .bool (decide (MayE m.v)) ∧ post = [] := by
 have hle := hm.le
 have hmax := hm.max
 obtain ⟨hk0, hk1⟩ := hm.k
 obtain ⟨hf0, hf1⟩ := hm.f
 have hb1 := hm.b
 have ht1 := hm.t
 refine ct_of Try.func21 rfl rfl (fun w0 => ?_)
 show G _ _ [(0, _)] _ _
 refine G_seq ?_
 refine G_region (l := [0, 1]) rfl ?_
 refine G_new rfl rfl rfl rfl (N_boxA rfl rfl) (fun b1 => ?_)
 refine G_val rfl rfl rfl rfl (V_assign rfl rfl) ?_
 refine G_done ?_
 refine G_seq ?_
 rcases kinds m.v.kd with hkd | hkd | hkd | hkd
 · skip
   refine G_region (l := [0, 1]) rfl ?_
   refine G_val rfl rfl rfl rfl (V_func rfl rfl rfl) ?_
   refine G_val rfl rfl rfl rfl (V_assign rfl rfl) ?_
   refine G_done ?_
   refine G_seq ?_
   refine G_block ?_
   refine G_seq ?_
   refine G_seq ?_
   refine G_region (l := [0, 1, 2, 3]) rfl ?_
   refine G_val rfl rfl rfl rfl (V_move rfl rfl) ?_
   refine G_callC (L2 := [_]) rfl rfl rfl rfl rfl rfl Try.call73 rfl ((sc_has b1 m 116).weaken (fun v post h => by rw [(has_1 hkd).1] at h; exact h)) [] [1] rfl rfl ?_
   rintro v post ⟨rfl, rfl⟩
   show G _ _ _ [_] _
   refine G_val rfl rfl rfl rfl (V_not rfl rfl) ?_
   refine G_val rfl rfl rfl rfl (V_assign rfl rfl) ?_
   refine G_done ?_
   refine G_else rfl ?_
   refine G_seq ?_
   refine G_region (l := [0, 1, 2, 3, 4, 5, 6, 7, 8]) rfl ?_
   refine G_val rfl rfl rfl rfl (V_move rfl rfl) ?_
   refine G_callC (L2 := [_]) rfl rfl rfl rfl rfl rfl Try.call73 rfl ((sc_has b1 m 98).weaken (fun v post h => by rw [(has_1 hkd).2.1] at h; exact h)) [] [1] rfl rfl ?_
   rintro v post ⟨rfl, rfl⟩
   show G _ _ _ [_] _
   refine G_val rfl rfl rfl rfl (V_not rfl rfl) ?_
   refine G_val rfl rfl rfl rfl (V_move rfl rfl) ?_
   refine G_off rfl rfl rfl rfl ?_
   refine G_off rfl rfl rfl rfl ?_
   refine G_off rfl rfl rfl rfl ?_
   refine G_val rfl rfl rfl rfl (V_pickF rfl rfl rfl) ?_
   refine G_val rfl rfl rfl rfl (V_assign rfl rfl) ?_
   refine G_done ?_
   refine G_else rfl ?_
   refine G_seq ?_
   refine G_region (l := [0, 1, 2, 3, 4, 5, 6, 7, 8]) rfl ?_
   refine G_val rfl rfl rfl rfl (V_move rfl rfl) ?_
   refine G_callC (L2 := [_]) rfl rfl rfl rfl rfl rfl Try.call73 rfl ((sc_has b1 m 102).weaken (fun v post h => by rw [(has_1 hkd).2.2.1] at h; exact h)) [] [1] rfl rfl ?_
   rintro v post ⟨rfl, rfl⟩
   show G _ _ _ [_] _
   refine G_val rfl rfl rfl rfl (V_not rfl rfl) ?_
   refine G_val rfl rfl rfl rfl (V_move rfl rfl) ?_
   refine G_val rfl rfl rfl rfl (V_fieldAddr (fo := 3) rfl Try.underlying58 rfl infScriptW_3 rfl rfl rfl) ?_
   refine G_val rfl rfl rfl rfl (V_load1 rfl rfl (mem_at 1 rfl) rfl Try.underlying3 rfl) ?_
   refine G_val rfl rfl rfl rfl (V_neq rfl rfl rfl) ?_
   refine G_val rfl rfl rfl rfl (V_pickT rfl rfl rfl) ?_
   refine G_val rfl rfl rfl rfl (V_assign rfl rfl) ?_
   refine G_done ?_
   refine G_ifD rfl (fun hc1 => ?_) (fun hc1 => ?_)
   · skip
     refine G_skip ?_
     refine G_ifD rfl (fun hc2 => ?_) (fun hc2 => ?_)
     rotate_left
     · (first | contradiction | (exact absurd rfl hc2) | (exfalso; omega) | (simp at hc2; done) | (exact absurd hc2 (by decide)) | (exact absurd (by decide) hc2))
     refine G_seq ?_
     refine G_region (l := [0]) rfl ?_
     refine G_val rfl rfl rfl rfl (V_assign rfl rfl) ?_
     refine G_done ?_
     refine G_ret (post := []) Try.func21 rfl (RVs_cons (RV_tmp rfl) RVs_nil) [] rfl ?_
     dsimp only [packed]
     first
       | (refine ⟨bool_eq (may_ff (by first | exact .inl (by omega) | exact .inr (.inl (by omega)) | exact .inr (.inr (.inl ⟨by omega, by assumption⟩)) | exact .inr (.inr (.inr (.inl ⟨by omega, by omega⟩))) | exact .inr (.inr (.inr (.inr (.inl ⟨by omega, by omega⟩)))) | exact .inr (.inr (.inr (.inr (.inr (.inl (by omega)))))) | exact .inr (.inr (.inr (.inr (.inr (.inr (.inl (by omega))))))) | exact .inr (.inr (.inr (.inr (.inr (.inr (.inr (.inl (by omega)))))))) | exact .inr (.inr (.inr (.inr (.inr (.inr (.inr (.inr (by assumption)))))))))).symm, rfl⟩; done)
       | (rcases hany : m.v.ks.any badK with _ | _
          · exact ⟨bool_eq (may_tt (by omega) (by omega) (by first | (intro hh; exfalso; omega) | (intro _; exact Classical.not_not.1 (by assumption)) | (intro _; assumption)) (by first | (intro hh; exfalso; omega) | (intro _; exact ⟨by omega, List.length_eq_zero_iff.1 (by omega)⟩)) (by omega) (by omega) hany).symm, rfl⟩
          · exact ⟨bool_eq (may_ff (by first | exact .inl (by omega) | exact .inr (.inl (by omega)) | exact .inr (.inr (.inl ⟨by omega, by assumption⟩)) | exact .inr (.inr (.inr (.inl ⟨by omega, by omega⟩))) | exact .inr (.inr (.inr (.inr (.inl ⟨by omega, by omega⟩)))) | exact .inr (.inr (.inr (.inr (.inr (.inl (by omega)))))) | exact .inr (.inr (.inr (.inr (.inr (.inr (.inl (by omega))))))) | exact .inr (.inr (.inr (.inr (.inr (.inr (.inr (.inl (by omega)))))))) | exact .inr (.inr (.inr (.inr (.inr (.inr (.inr (.inr (by assumption)))))))))).symm, rfl⟩)
   refine G_region (l := [0, 1, 2, 3, 4, 5, 6, 7, 8, 9]) rfl ?_
   refine G_val rfl rfl rfl rfl (V_move rfl rfl) ?_
   refine G_callC (L2 := [_]) rfl rfl rfl rfl rfl rfl Try.call73 rfl ((sc_has b1 m 107).weaken (fun v post h => by rw [(has_1 hkd).2.2.2] at h; exact h)) [] [1] rfl rfl ?_
   rintro v post ⟨rfl, rfl⟩
   show G _ _ _ [_] _
   refine G_val rfl rfl rfl rfl (V_not rfl rfl) ?_
   refine G_val rfl rfl rfl rfl (V_move rfl rfl) ?_
   refine G_val rfl rfl rfl rfl (V_fieldAddr (fo := 4) rfl Try.underlying58 rfl infScriptW_56 rfl rfl rfl) ?_
   refine G_val rfl rfl rfl rfl (V_load1 rfl rfl (mem_at 1 rfl) rfl Try.underlying56 rfl) ?_
   refine G_val rfl rfl rfl rfl (V_len rfl rfl Try.underlying56 rfl) ?_
   refine G_val rfl rfl rfl rfl (V_gtr rfl rfl rfl) ?_
   refine G_val rfl rfl rfl rfl (V_pickT rfl rfl rfl) ?_
   refine G_val rfl rfl rfl rfl (V_assign rfl rfl) ?_
   refine G_done ?_
   refine G_ifD rfl (fun hc2 => ?_) (fun hc2 => ?_)
   · skip
     refine G_seq ?_
     refine G_region (l := [0]) rfl ?_
     refine G_val rfl rfl rfl rfl (V_assign rfl rfl) ?_
     refine G_done ?_
     refine G_ret (post := []) Try.func21 rfl (RVs_cons (RV_tmp rfl) RVs_nil) [] rfl ?_
     dsimp only [packed]
     first
       | (refine ⟨bool_eq (may_ff (by first | exact .inl (by omega) | exact .inr (.inl (by omega)) | exact .inr (.inr (.inl ⟨by omega, by assumption⟩)) | exact .inr (.inr (.inr (.inl ⟨by omega, by omega⟩))) | exact .inr (.inr (.inr (.inr (.inl ⟨by omega, by omega⟩)))) | exact .inr (.inr (.inr (.inr (.inr (.inl (by omega)))))) | exact .inr (.inr (.inr (.inr (.inr (.inr (.inl (by omega))))))) | exact .inr (.inr (.inr (.inr (.inr (.inr (.inr (.inl (by omega)))))))) | exact .inr (.inr (.inr (.inr (.inr (.inr (.inr (.inr (by assumption)))))))))).symm, rfl⟩; done)
       | (rcases hany : m.v.ks.any badK with _ | _
          · exact ⟨bool_eq (may_tt (by omega) (by omega) (by first | (intro hh; exfalso; omega) | (intro _; exact Classical.not_not.1 (by assumption)) | (intro _; assumption)) (by first | (intro hh; exfalso; omega) | (intro _; exact ⟨by omega, List.length_eq_zero_iff.1 (by omega)⟩)) (by omega) (by omega) hany).symm, rfl⟩
          · exact ⟨bool_eq (may_ff (by first | exact .inl (by omega) | exact .inr (.inl (by omega)) | exact .inr (.inr (.inl ⟨by omega, by assumption⟩)) | exact .inr (.inr (.inr (.inl ⟨by omega, by omega⟩))) | exact .inr (.inr (.inr (.inr (.inl ⟨by omega, by omega⟩)))) | exact .inr (.inr (.inr (.inr (.inr (.inl (by omega)))))) | exact .inr (.inr (.inr (.inr (.inr (.inr (.inl (by omega))))))) | exact .inr (.inr (.inr (.inr (.inr (.inr (.inr (.inl (by omega)))))))) | exact .inr (.inr (.inr (.inr (.inr (.inr (.inr (.inr (by assumption)))))))))).symm, rfl⟩)
   refine G_skip ?_
   refine G_inBlock ?_
   refine G_seq ?_
   refine G_region (l := [0, 1, 2, 3, 4, 5, 6, 7, 8, 9, 10, 11, 12, 13, 14, 15, 16, 17, 18, 19, 20, 21, 22, 23, 24, 25, 26]) rfl ?_
   refine G_val rfl rfl rfl rfl (V_fieldAddr (fo := 1) rfl Try.underlying58 rfl infScriptW_9 rfl rfl rfl) ?_
   refine G_val rfl rfl rfl rfl (V_load1 rfl rfl (mem_at 1 rfl) rfl Try.underlying9 rfl) ?_
   refine G_val rfl rfl rfl rfl (V_slen rfl rfl Try.underlying9 rfl) ?_
   refine G_val rfl rfl rfl rfl (V_leq rfl rfl rfl) ?_
   refine G_val rfl rfl rfl rfl (V_move rfl rfl) ?_
   refine G_splitD 38 rfl (fun hc3 => ?_) (fun hc3 => ?_)
   · skip
     refine G_val rfl rfl rfl rfl (V_fieldAddr (fo := 3) rfl Try.underlying58 rfl infScriptW_3 rfl rfl rfl) ?_
     refine G_val rfl rfl rfl rfl (V_load1 rfl rfl (mem_at 1 rfl) rfl Try.underlying3 rfl) ?_
     refine G_val rfl rfl rfl rfl (V_geq rfl rfl rfl) ?_
     refine G_val rfl rfl rfl rfl (V_pickT rfl rfl rfl) ?_
     refine G_val rfl rfl rfl rfl (V_move rfl rfl) ?_
     refine G_splitD 43 rfl (fun hc4 => ?_) (fun hc4 => ?_)
     rotate_left
     · (first | contradiction | (exact absurd rfl hc4) | (exfalso; omega) | (simp at hc4; done) | (exact absurd hc4 (by decide)) | (exact absurd (by decide) hc4))
     refine G_val rfl rfl rfl rfl (V_fieldAddr (fo := 3) rfl Try.underlying58 rfl infScriptW_3 rfl rfl rfl) ?_
     refine G_val rfl rfl rfl rfl (V_load1 rfl rfl (mem_at 1 rfl) rfl Try.underlying3 rfl) ?_
     refine G_val rfl rfl rfl rfl (V_lss rfl rfl rfl) ?_
     refine G_val rfl rfl rfl rfl (V_pickT rfl rfl rfl) ?_
     refine G_val rfl rfl rfl rfl (V_move rfl rfl) ?_
     refine G_splitD 48 rfl (fun hc5 => ?_) (fun hc5 => ?_)
     rotate_left
     · (first | contradiction | (exact absurd rfl hc5) | (exfalso; omega) | (simp at hc5; done) | (exact absurd hc5 (by decide)) | (exact absurd (by decide) hc5))
     refine G_val rfl rfl rfl rfl (V_fieldAddr (fo := 4) rfl Try.underlying58 rfl infScriptW_56 rfl rfl rfl) ?_
     refine G_val rfl rfl rfl rfl (V_load1 rfl rfl (mem_at 1 rfl) rfl Try.underlying56 rfl) ?_
     refine G_val rfl rfl rfl rfl (V_len rfl rfl Try.underlying56 rfl) ?_
     refine G_val rfl rfl rfl rfl (V_leq rfl rfl rfl) ?_
     refine G_val rfl rfl rfl rfl (V_pickT rfl rfl rfl) ?_
     refine G_val rfl rfl rfl rfl (V_move rfl rfl) ?_
     refine G_splitD 54 rfl (fun hc6 => ?_) (fun hc6 => ?_)
     rotate_left
     · (first | contradiction | (exact absurd rfl hc6) | (exfalso; omega) | (simp at hc6; done) | (exact absurd hc6 (by decide)) | (exact absurd (by decide) hc6))
     refine G_val rfl rfl rfl rfl (V_fieldAddr (fo := 4) rfl Try.underlying58 rfl infScriptW_56 rfl rfl rfl) ?_
     refine G_val rfl rfl rfl rfl (V_load1 rfl rfl (mem_at 1 rfl) rfl Try.underlying56 rfl) ?_
     refine G_call (L2 := [_]) rfl rfl rfl rfl rfl rfl Try.call76 (sc_containsK m hm) [] [0] rfl rfl ?_
     rintro v post ⟨rfl, rfl⟩
     show G _ _ _ [_] _
     refine G_val rfl rfl rfl rfl (V_not rfl rfl) ?_
     refine G_val rfl rfl rfl rfl (V_pickT rfl rfl rfl) ?_
     refine G_val rfl rfl rfl rfl (V_assign rfl rfl) ?_
     refine G_done ?_
     refine G_ret (post := []) Try.func21 rfl (RVs_cons (RV_tmp rfl) RVs_nil) [] rfl ?_
     dsimp only [packed]
     first
       | (refine ⟨bool_eq (may_ff (by first | exact .inl (by omega) | exact .inr (.inl (by omega)) | exact .inr (.inr (.inl ⟨by omega, by assumption⟩)) | exact .inr (.inr (.inr (.inl ⟨by omega, by omega⟩))) | exact .inr (.inr (.inr (.inr (.inl ⟨by omega, by omega⟩)))) | exact .inr (.inr (.inr (.inr (.inr (.inl (by omega)))))) | exact .inr (.inr (.inr (.inr (.inr (.inr (.inl (by omega))))))) | exact .inr (.inr (.inr (.inr (.inr (.inr (.inr (.inl (by omega)))))))) | exact .inr (.inr (.inr (.inr (.inr (.inr (.inr (.inr (by assumption)))))))))).symm, rfl⟩; done)
       | (rcases hany : m.v.ks.any badK with _ | _
          · exact ⟨bool_eq (may_tt (by omega) (by omega) (by first | (intro hh; exfalso; omega) | (intro _; exact Classical.not_not.1 (by assumption)) | (intro _; assumption)) (by first | (intro hh; exfalso; omega) | (intro _; exact ⟨by omega, List.length_eq_zero_iff.1 (by omega)⟩)) (by omega) (by omega) hany).symm, rfl⟩
          · exact ⟨bool_eq (may_ff (by first | exact .inl (by omega) | exact .inr (.inl (by omega)) | exact .inr (.inr (.inl ⟨by omega, by assumption⟩)) | exact .inr (.inr (.inr (.inl ⟨by omega, by omega⟩))) | exact .inr (.inr (.inr (.inr (.inl ⟨by omega, by omega⟩)))) | exact .inr (.inr (.inr (.inr (.inr (.inl (by omega)))))) | exact .inr (.inr (.inr (.inr (.inr (.inr (.inl (by omega))))))) | exact .inr (.inr (.inr (.inr (.inr (.inr (.inr (.inl (by omega)))))))) | exact .inr (.inr (.inr (.inr (.inr (.inr (.inr (.inr (by assumption)))))))))).symm, rfl⟩)
   refine G_off rfl rfl rfl rfl ?_
   refine G_off rfl rfl rfl rfl ?_
   refine G_off rfl rfl rfl rfl ?_
   refine G_val rfl rfl rfl rfl (V_pickF rfl rfl rfl) ?_
   refine G_val rfl rfl rfl rfl (V_move rfl rfl) ?_
   refine G_off rfl rfl rfl rfl ?_
   refine G_off rfl rfl rfl rfl ?_
   refine G_off rfl rfl rfl rfl ?_
   refine G_val rfl rfl rfl rfl (V_pickF rfl rfl rfl) ?_
   refine G_val rfl rfl rfl rfl (V_move rfl rfl) ?_
   refine G_off rfl rfl rfl rfl ?_
   refine G_off rfl rfl rfl rfl ?_
   refine G_off rfl rfl rfl rfl ?_
   refine G_off rfl rfl rfl rfl ?_
   refine G_val rfl rfl rfl rfl (V_pickF rfl rfl rfl) ?_
   refine G_val rfl rfl rfl rfl (V_move rfl rfl) ?_
   refine G_off rfl rfl rfl rfl ?_
   refine G_off rfl rfl rfl rfl ?_
   refine G_off rfl rfl rfl rfl ?_
   refine G_off rfl rfl rfl rfl ?_
   refine G_val rfl rfl rfl rfl (V_pickF rfl rfl rfl) ?_
   refine G_val rfl rfl rfl rfl (V_assign rfl rfl) ?_
   refine G_done ?_
   refine G_ret (post := []) Try.func21 rfl (RVs_cons (RV_tmp rfl) RVs_nil) [] rfl ?_
   dsimp only [packed]
   first
     | (refine ⟨bool_eq (may_ff (by first | exact .inl (by omega) | exact .inr (.inl (by omega)) | exact .inr (.inr (.inl ⟨by omega, by assumption⟩)) | exact .inr (.inr (.inr (.inl ⟨by omega, by omega⟩))) | exact .inr (.inr (.inr (.inr (.inl ⟨by omega, by omega⟩)))) | exact .inr (.inr (.inr (.inr (.inr (.inl (by omega)))))) | exact .inr (.inr (.inr (.inr (.inr (.inr (.inl (by omega))))))) | exact .inr (.inr (.inr (.inr (.inr (.inr (.inr (.inl (by omega)))))))) | exact .inr (.inr (.inr (.inr (.inr (.inr (.inr (.inr (by assumption)))))))))).symm, rfl⟩; done)
     | (rcases hany : m.v.ks.any badK with _ | _
        · exact ⟨bool_eq (may_tt (by omega) (by omega) (by first | (intro hh; exfalso; omega) | (intro _; exact Classical.not_not.1 (by assumption)) | (intro _; assumption)) (by first | (intro hh; exfalso; omega) | (intro _; exact ⟨by omega, List.length_eq_zero_iff.1 (by omega)⟩)) (by omega) (by omega) hany).symm, rfl⟩
        · exact ⟨bool_eq (may_ff (by first | exact .inl (by omega) | exact .inr (.inl (by omega)) | exact .inr (.inr (.inl ⟨by omega, by assumption⟩)) | exact .inr (.inr (.inr (.inl ⟨by omega, by omega⟩))) | exact .inr (.inr (.inr (.inr (.inl ⟨by omega, by omega⟩)))) | exact .inr (.inr (.inr (.inr (.inr (.inl (by omega)))))) | exact .inr (.inr (.inr (.inr (.inr (.inr (.inl (by omega))))))) | exact .inr (.inr (.inr (.inr (.inr (.inr (.inr (.inl (by omega)))))))) | exact .inr (.inr (.inr (.inr (.inr (.inr (.inr (.inr (by assumption)))))))))).symm, rfl⟩)
 · skip
   refine G_region (l := [0, 1]) rfl ?_
   refine G_val rfl rfl rfl rfl (V_func rfl rfl rfl) ?_
   refine G_val rfl rfl rfl rfl (V_assign rfl rfl) ?_
   refine G_done ?_
   refine G_seq ?_
   refine G_block ?_
   refine G_seq ?_
   refine G_seq ?_
   refine G_region (l := [0, 1, 2, 3]) rfl ?_
   refine G_val rfl rfl rfl rfl (V_move rfl rfl) ?_
   refine G_callC (L2 := [_]) rfl rfl rfl rfl rfl rfl Try.call73 rfl ((sc_has b1 m 116).weaken (fun v post h => by rw [(has_2 hkd).1] at h; exact h)) [] [1] rfl rfl ?_
   rintro v post ⟨rfl, rfl⟩
   show G _ _ _ [_] _
   refine G_val rfl rfl rfl rfl (V_not rfl rfl) ?_
   refine G_val rfl rfl rfl rfl (V_assign rfl rfl) ?_
   refine G_done ?_
   refine G_else rfl ?_
   refine G_seq ?_
   refine G_region (l := [0, 1, 2, 3, 4, 5, 6, 7, 8]) rfl ?_
   refine G_val rfl rfl rfl rfl (V_move rfl rfl) ?_
   refine G_callC (L2 := [_]) rfl rfl rfl rfl rfl rfl Try.call73 rfl ((sc_has b1 m 98).weaken (fun v post h => by rw [(has_2 hkd).2.1] at h; exact h)) [] [1] rfl rfl ?_
   rintro v post ⟨rfl, rfl⟩
   show G _ _ _ [_] _
   refine G_val rfl rfl rfl rfl (V_not rfl rfl) ?_
   refine G_val rfl rfl rfl rfl (V_move rfl rfl) ?_
   refine G_val rfl rfl rfl rfl (V_fieldAddr (fo := 1) rfl Try.underlying58 rfl infScriptW_9 rfl rfl rfl) ?_
   refine G_val rfl rfl rfl rfl (V_load1 rfl rfl (mem_at 1 rfl) rfl Try.underlying9 rfl) ?_
   refine G_val rfl rfl rfl rfl (V_sneq rfl rfl rfl) ?_
   refine G_val rfl rfl rfl rfl (V_pickT rfl rfl rfl) ?_
   refine G_val rfl rfl rfl rfl (V_assign rfl rfl) ?_
   refine G_done ?_
   refine G_ifD rfl (fun hc1 => ?_) (fun hc1 => ?_)
   · skip
     refine G_skip ?_
     refine G_ifD rfl (fun hc2 => ?_) (fun hc2 => ?_)
     rotate_left
     · (first | contradiction | (exact absurd rfl hc2) | (exfalso; omega) | (simp at hc2; done) | (exact absurd hc2 (by decide)) | (exact absurd (by decide) hc2))
     refine G_seq ?_
     refine G_region (l := [0]) rfl ?_
     refine G_val rfl rfl rfl rfl (V_assign rfl rfl) ?_
     refine G_done ?_
     refine G_ret (post := []) Try.func21 rfl (RVs_cons (RV_tmp rfl) RVs_nil) [] rfl ?_
     dsimp only [packed]
     first
       | (refine ⟨bool_eq (may_ff (by first | exact .inl (by omega) | exact .inr (.inl (by omega)) | exact .inr (.inr (.inl ⟨by omega, by assumption⟩)) | exact .inr (.inr (.inr (.inl ⟨by omega, by omega⟩))) | exact .inr (.inr (.inr (.inr (.inl ⟨by omega, by omega⟩)))) | exact .inr (.inr (.inr (.inr (.inr (.inl (by omega)))))) | exact .inr (.inr (.inr (.inr (.inr (.inr (.inl (by omega))))))) | exact .inr (.inr (.inr (.inr (.inr (.inr (.inr (.inl (by omega)))))))) | exact .inr (.inr (.inr (.inr (.inr (.inr (.inr (.inr (by assumption)))))))))).symm, rfl⟩; done)
       | (rcases hany : m.v.ks.any badK with _ | _
          · exact ⟨bool_eq (may_tt (by omega) (by omega) (by first | (intro hh; exfalso; omega) | (intro _; exact Classical.not_not.1 (by assumption)) | (intro _; assumption)) (by first | (intro hh; exfalso; omega) | (intro _; exact ⟨by omega, List.length_eq_zero_iff.1 (by omega)⟩)) (by omega) (by omega) hany).symm, rfl⟩
          · exact ⟨bool_eq (may_ff (by first | exact .inl (by omega) | exact .inr (.inl (by omega)) | exact .inr (.inr (.inl ⟨by omega, by assumption⟩)) | exact .inr (.inr (.inr (.inl ⟨by omega, by omega⟩))) | exact .inr (.inr (.inr (.inr (.inl ⟨by omega, by omega⟩)))) | exact .inr (.inr (.inr (.inr (.inr (.inl (by omega)))))) | exact .inr (.inr (.inr (.inr (.inr (.inr (.inl (by omega))))))) | exact .inr (.inr (.inr (.inr (.inr (.inr (.inr (.inl (by omega)))))))) | exact .inr (.inr (.inr (.inr (.inr (.inr (.inr (.inr (by assumption)))))))))).symm, rfl⟩)
   refine G_seq ?_
   refine G_region (l := [0, 1, 2, 3, 4, 5, 6, 7, 8]) rfl ?_
   refine G_val rfl rfl rfl rfl (V_move rfl rfl) ?_
   refine G_callC (L2 := [_]) rfl rfl rfl rfl rfl rfl Try.call73 rfl ((sc_has b1 m 102).weaken (fun v post h => by rw [(has_2 hkd).2.2.1] at h; exact h)) [] [1] rfl rfl ?_
   rintro v post ⟨rfl, rfl⟩
   show G _ _ _ [_] _
   refine G_val rfl rfl rfl rfl (V_not rfl rfl) ?_
   refine G_val rfl rfl rfl rfl (V_move rfl rfl) ?_
   refine G_val rfl rfl rfl rfl (V_fieldAddr (fo := 3) rfl Try.underlying58 rfl infScriptW_3 rfl rfl rfl) ?_
   refine G_val rfl rfl rfl rfl (V_load1 rfl rfl (mem_at 1 rfl) rfl Try.underlying3 rfl) ?_
   refine G_val rfl rfl rfl rfl (V_neq rfl rfl rfl) ?_
   refine G_val rfl rfl rfl rfl (V_pickT rfl rfl rfl) ?_
   refine G_val rfl rfl rfl rfl (V_assign rfl rfl) ?_
   refine G_done ?_
   refine G_ifD rfl (fun hc2 => ?_) (fun hc2 => ?_)
   · skip
     refine G_skip ?_
     refine G_ifD rfl (fun hc3 => ?_) (fun hc3 => ?_)
     rotate_left
     · (first | contradiction | (exact absurd rfl hc3) | (exfalso; omega) | (simp at hc3; done) | (exact absurd hc3 (by decide)) | (exact absurd (by decide) hc3))
     refine G_seq ?_
     refine G_region (l := [0]) rfl ?_
     refine G_val rfl rfl rfl rfl (V_assign rfl rfl) ?_
     refine G_done ?_
     refine G_ret (post := []) Try.func21 rfl (RVs_cons (RV_tmp rfl) RVs_nil) [] rfl ?_
     dsimp only [packed]
     first
       | (refine ⟨bool_eq (may_ff (by first | exact .inl (by omega) | exact .inr (.inl (by omega)) | exact .inr (.inr (.inl ⟨by omega, by assumption⟩)) | exact .inr (.inr (.inr (.inl ⟨by omega, by omega⟩))) | exact .inr (.inr (.inr (.inr (.inl ⟨by omega, by omega⟩)))) | exact .inr (.inr (.inr (.inr (.inr (.inl (by omega)))))) | exact .inr (.inr (.inr (.inr (.inr (.inr (.inl (by omega))))))) | exact .inr (.inr (.inr (.inr (.inr (.inr (.inr (.inl (by omega)))))))) | exact .inr (.inr (.inr (.inr (.inr (.inr (.inr (.inr (by assumption)))))))))).symm, rfl⟩; done)
       | (rcases hany : m.v.ks.any badK with _ | _
          · exact ⟨bool_eq (may_tt (by omega) (by omega) (by first | (intro hh; exfalso; omega) | (intro _; exact Classical.not_not.1 (by assumption)) | (intro _; assumption)) (by first | (intro hh; exfalso; omega) | (intro _; exact ⟨by omega, List.length_eq_zero_iff.1 (by omega)⟩)) (by omega) (by omega) hany).symm, rfl⟩
          · exact ⟨bool_eq (may_ff (by first | exact .inl (by omega) | exact .inr (.inl (by omega)) | exact .inr (.inr (.inl ⟨by omega, by assumption⟩)) | exact .inr (.inr (.inr (.inl ⟨by omega, by omega⟩))) | exact .inr (.inr (.inr (.inr (.inl ⟨by omega, by omega⟩)))) | exact .inr (.inr (.inr (.inr (.inr (.inl (by omega)))))) | exact .inr (.inr (.inr (.inr (.inr (.inr (.inl (by omega))))))) | exact .inr (.inr (.inr (.inr (.inr (.inr (.inr (.inl (by omega)))))))) | exact .inr (.inr (.inr (.inr (.inr (.inr (.inr (.inr (by assumption)))))))))).symm, rfl⟩)
   refine G_region (l := [0, 1, 2, 3, 4, 5, 6, 7, 8, 9]) rfl ?_
   refine G_val rfl rfl rfl rfl (V_move rfl rfl) ?_
   refine G_callC (L2 := [_]) rfl rfl rfl rfl rfl rfl Try.call73 rfl ((sc_has b1 m 107).weaken (fun v post h => by rw [(has_2 hkd).2.2.2] at h; exact h)) [] [1] rfl rfl ?_
   rintro v post ⟨rfl, rfl⟩
   show G _ _ _ [_] _
   refine G_val rfl rfl rfl rfl (V_not rfl rfl) ?_
   refine G_val rfl rfl rfl rfl (V_move rfl rfl) ?_
   refine G_val rfl rfl rfl rfl (V_fieldAddr (fo := 4) rfl Try.underlying58 rfl infScriptW_56 rfl rfl rfl) ?_
   refine G_val rfl rfl rfl rfl (V_load1 rfl rfl (mem_at 1 rfl) rfl Try.underlying56 rfl) ?_
   refine G_val rfl rfl rfl rfl (V_len rfl rfl Try.underlying56 rfl) ?_
   refine G_val rfl rfl rfl rfl (V_gtr rfl rfl rfl) ?_
   refine G_val rfl rfl rfl rfl (V_pickT rfl rfl rfl) ?_
   refine G_val rfl rfl rfl rfl (V_assign rfl rfl) ?_
   refine G_done ?_
   refine G_ifD rfl (fun hc3 => ?_) (fun hc3 => ?_)
   · skip
     refine G_seq ?_
     refine G_region (l := [0]) rfl ?_
     refine G_val rfl rfl rfl rfl (V_assign rfl rfl) ?_
     refine G_done ?_
     refine G_ret (post := []) Try.func21 rfl (RVs_cons (RV_tmp rfl) RVs_nil) [] rfl ?_
     dsimp only [packed]
     first
       | (refine ⟨bool_eq (may_ff (by first | exact .inl (by omega) | exact .inr (.inl (by omega)) | exact .inr (.inr (.inl ⟨by omega, by assumption⟩)) | exact .inr (.inr (.inr (.inl ⟨by omega, by omega⟩))) | exact .inr (.inr (.inr (.inr (.inl ⟨by omega, by omega⟩)))) | exact .inr (.inr (.inr (.inr (.inr (.inl (by omega)))))) | exact .inr (.inr (.inr (.inr (.inr (.inr (.inl (by omega))))))) | exact .inr (.inr (.inr (.inr (.inr (.inr (.inr (.inl (by omega)))))))) | exact .inr (.inr (.inr (.inr (.inr (.inr (.inr (.inr (by assumption)))))))))).symm, rfl⟩; done)
       | (rcases hany : m.v.ks.any badK with _ | _
          · exact ⟨bool_eq (may_tt (by omega) (by omega) (by first | (intro hh; exfalso; omega) | (intro _; exact Classical.not_not.1 (by assumption)) | (intro _; assumption)) (by first | (intro hh; exfalso; omega) | (intro _; exact ⟨by omega, List.length_eq_zero_iff.1 (by omega)⟩)) (by omega) (by omega) hany).symm, rfl⟩
          · exact ⟨bool_eq (may_ff (by first | exact .inl (by omega) | exact .inr (.inl (by omega)) | exact .inr (.inr (.inl ⟨by omega, by assumption⟩)) | exact .inr (.inr (.inr (.inl ⟨by omega, by omega⟩))) | exact .inr (.inr (.inr (.inr (.inl ⟨by omega, by omega⟩)))) | exact .inr (.inr (.inr (.inr (.inr (.inl (by omega)))))) | exact .inr (.inr (.inr (.inr (.inr (.inr (.inl (by omega))))))) | exact .inr (.inr (.inr (.inr (.inr (.inr (.inr (.inl (by omega)))))))) | exact .inr (.inr (.inr (.inr (.inr (.inr (.inr (.inr (by assumption)))))))))).symm, rfl⟩)
   refine G_skip ?_
   refine G_inBlock ?_
   refine G_seq ?_
   refine G_region (l := [0, 1, 2, 3, 4, 5, 6, 7, 8, 9, 10, 11, 12, 13, 14, 15, 16, 17, 18, 19, 20, 21, 22, 23, 24, 25, 26]) rfl ?_
   refine G_val rfl rfl rfl rfl (V_fieldAddr (fo := 1) rfl Try.underlying58 rfl infScriptW_9 rfl rfl rfl) ?_
   refine G_val rfl rfl rfl rfl (V_load1 rfl rfl (mem_at 1 rfl) rfl Try.underlying9 rfl) ?_
   refine G_val rfl rfl rfl rfl (V_slen rfl rfl Try.underlying9 rfl) ?_
   refine G_val rfl rfl rfl rfl (V_leq rfl rfl rfl) ?_
   refine G_val rfl rfl rfl rfl (V_move rfl rfl) ?_
   refine G_splitD 38 rfl (fun hc4 => ?_) (fun hc4 => ?_)
   · skip
     refine G_val rfl rfl rfl rfl (V_fieldAddr (fo := 3) rfl Try.underlying58 rfl infScriptW_3 rfl rfl rfl) ?_
     refine G_val rfl rfl rfl rfl (V_load1 rfl rfl (mem_at 1 rfl) rfl Try.underlying3 rfl) ?_
     refine G_val rfl rfl rfl rfl (V_geq rfl rfl rfl) ?_
     refine G_val rfl rfl rfl rfl (V_pickT rfl rfl rfl) ?_
     refine G_val rfl rfl rfl rfl (V_move rfl rfl) ?_
     refine G_splitD 43 rfl (fun hc5 => ?_) (fun hc5 => ?_)
     rotate_left
     · (first | contradiction | (exact absurd rfl hc5) | (exfalso; omega) | (simp at hc5; done) | (exact absurd hc5 (by decide)) | (exact absurd (by decide) hc5))
     refine G_val rfl rfl rfl rfl (V_fieldAddr (fo := 3) rfl Try.underlying58 rfl infScriptW_3 rfl rfl rfl) ?_
     refine G_val rfl rfl rfl rfl (V_load1 rfl rfl (mem_at 1 rfl) rfl Try.underlying3 rfl) ?_
     refine G_val rfl rfl rfl rfl (V_lss rfl rfl rfl) ?_
     refine G_val rfl rfl rfl rfl (V_pickT rfl rfl rfl) ?_
     refine G_val rfl rfl rfl rfl (V_move rfl rfl) ?_
     refine G_splitD 48 rfl (fun hc6 => ?_) (fun hc6 => ?_)
     rotate_left
     · (first | contradiction | (exact absurd rfl hc6) | (exfalso; omega) | (simp at hc6; done) | (exact absurd hc6 (by decide)) | (exact absurd (by decide) hc6))
     refine G_val rfl rfl rfl rfl (V_fieldAddr (fo := 4) rfl Try.underlying58 rfl infScriptW_56 rfl rfl rfl) ?_
     refine G_val rfl rfl rfl rfl (V_load1 rfl rfl (mem_at 1 rfl) rfl Try.underlying56 rfl) ?_
     refine G_val rfl rfl rfl rfl (V_len rfl rfl Try.underlying56 rfl) ?_
     refine G_val rfl rfl rfl rfl (V_leq rfl rfl rfl) ?_
     refine G_val rfl rfl rfl rfl (V_pickT rfl rfl rfl) ?_
     refine G_val rfl rfl rfl rfl (V_move rfl rfl) ?_
     refine G_splitD 54 rfl (fun hc7 => ?_) (fun hc7 => ?_)
     rotate_left
     · (first | contradiction | (exact absurd rfl hc7) | (exfalso; omega) | (simp at hc7; done) | (exact absurd hc7 (by decide)) | (exact absurd (by decide) hc7))
     refine G_val rfl rfl rfl rfl (V_fieldAddr (fo := 4) rfl Try.underlying58 rfl infScriptW_56 rfl rfl rfl) ?_
     refine G_val rfl rfl rfl rfl (V_load1 rfl rfl (mem_at 1 rfl) rfl Try.underlying56 rfl) ?_
     refine G_call (L2 := [_]) rfl rfl rfl rfl rfl rfl Try.call76 (sc_containsK m hm) [] [0] rfl rfl ?_
     rintro v post ⟨rfl, rfl⟩
     show G _ _ _ [_] _
     refine G_val rfl rfl rfl rfl (V_not rfl rfl) ?_
     refine G_val rfl rfl rfl rfl (V_pickT rfl rfl rfl) ?_
     refine G_val rfl rfl rfl rfl (V_assign rfl rfl) ?_
     refine G_done ?_
     refine G_ret (post := []) Try.func21 rfl (RVs_cons (RV_tmp rfl) RVs_nil) [] rfl ?_
     dsimp only [packed]
     first
       | (refine ⟨bool_eq (may_ff (by first | exact .inl (by omega) | exact .inr (.inl (by omega)) | exact .inr (.inr (.inl ⟨by omega, by assumption⟩)) | exact .inr (.inr (.inr (.inl ⟨by omega, by omega⟩))) | exact .inr (.inr (.inr (.inr (.inl ⟨by omega, by omega⟩)))) | exact .inr (.inr (.inr (.inr (.inr (.inl (by omega)))))) | exact .inr (.inr (.inr (.inr (.inr (.inr (.inl (by omega))))))) | exact .inr (.inr (.inr (.inr (.inr (.inr (.inr (.inl (by omega)))))))) | exact .inr (.inr (.inr (.inr (.inr (.inr (.inr (.inr (by assumption)))))))))).symm, rfl⟩; done)
       | (rcases hany : m.v.ks.any badK with _ | _
          · exact ⟨bool_eq (may_tt (by omega) (by omega) (by first | (intro hh; exfalso; omega) | (intro _; exact Classical.not_not.1 (by assumption)) | (intro _; assumption)) (by first | (intro hh; exfalso; omega) | (intro _; exact ⟨by omega, List.length_eq_zero_iff.1 (by omega)⟩)) (by omega) (by omega) hany).symm, rfl⟩
          · exact ⟨bool_eq (may_ff (by first | exact .inl (by omega) | exact .inr (.inl (by omega)) | exact .inr (.inr (.inl ⟨by omega, by assumption⟩)) | exact .inr (.inr (.inr (.inl ⟨by omega, by omega⟩))) | exact .inr (.inr (.inr (.inr (.inl ⟨by omega, by omega⟩)))) | exact .inr (.inr (.inr (.inr (.inr (.inl (by omega)))))) | exact .inr (.inr (.inr (.inr (.inr (.inr (.inl (by omega))))))) | exact .inr (.inr (.inr (.inr (.inr (.inr (.inr (.inl (by omega)))))))) | exact .inr (.inr (.inr (.inr (.inr (.inr (.inr (.inr (by assumption)))))))))).symm, rfl⟩)
   refine G_off rfl rfl rfl rfl ?_
   refine G_off rfl rfl rfl rfl ?_
   refine G_off rfl rfl rfl rfl ?_
   refine G_val rfl rfl rfl rfl (V_pickF rfl rfl rfl) ?_
   refine G_val rfl rfl rfl rfl (V_move rfl rfl) ?_
   refine G_off rfl rfl rfl rfl ?_
   refine G_off rfl rfl rfl rfl ?_
   refine G_off rfl rfl rfl rfl ?_
   refine G_val rfl rfl rfl rfl (V_pickF rfl rfl rfl) ?_
   refine G_val rfl rfl rfl rfl (V_move rfl rfl) ?_
   refine G_off rfl rfl rfl rfl ?_
   refine G_off rfl rfl rfl rfl ?_
   refine G_off rfl rfl rfl rfl ?_
   refine G_off rfl rfl rfl rfl ?_
   refine G_val rfl rfl rfl rfl (V_pickF rfl rfl rfl) ?_
   refine G_val rfl rfl rfl rfl (V_move rfl rfl) ?_
   refine G_off rfl rfl rfl rfl ?_
   refine G_off rfl rfl rfl rfl ?_
   refine G_off rfl rfl rfl rfl ?_
   refine G_off rfl rfl rfl rfl ?_
   refine G_val rfl rfl rfl rfl (V_pickF rfl rfl rfl) ?_
   refine G_val rfl rfl rfl rfl (V_assign rfl rfl) ?_
   refine G_done ?_
   refine G_ret (post := []) Try.func21 rfl (RVs_cons (RV_tmp rfl) RVs_nil) [] rfl ?_
   dsimp only [packed]
   first
     | (refine ⟨bool_eq (may_ff (by first | exact .inl (by omega) | exact .inr (.inl (by omega)) | exact .inr (.inr (.inl ⟨by omega, by assumption⟩)) | exact .inr (.inr (.inr (.inl ⟨by omega, by omega⟩))) | exact .inr (.inr (.inr (.inr (.inl ⟨by omega, by omega⟩)))) | exact .inr (.inr (.inr (.inr (.inr (.inl (by omega)))))) | exact .inr (.inr (.inr (.inr (.inr (.inr (.inl (by omega))))))) | exact .inr (.inr (.inr (.inr (.inr (.inr (.inr (.inl (by omega)))))))) | exact .inr (.inr (.inr (.inr (.inr (.inr (.inr (.inr (by assumption)))))))))).symm, rfl⟩; done)
     | (rcases hany : m.v.ks.any badK with _ | _
        · exact ⟨bool_eq (may_tt (by omega) (by omega) (by first | (intro hh; exfalso; omega) | (intro _; exact Classical.not_not.1 (by assumption)) | (intro _; assumption)) (by first | (intro hh; exfalso; omega) | (intro _; exact ⟨by omega, List.length_eq_zero_iff.1 (by omega)⟩)) (by omega) (by omega) hany).symm, rfl⟩
        · exact ⟨bool_eq (may_ff (by first | exact .inl (by omega) | exact .inr (.inl (by omega)) | exact .inr (.inr (.inl ⟨by omega, by assumption⟩)) | exact .inr (.inr (.inr (.inl ⟨by omega, by omega⟩))) | exact .inr (.inr (.inr (.inr (.inl ⟨by omega, by omega⟩)))) | exact .inr (.inr (.inr (.inr (.inr (.inl (by omega)))))) | exact .inr (.inr (.inr (.inr (.inr (.inr (.inl (by omega))))))) | exact .inr (.inr (.inr (.inr (.inr (.inr (.inr (.inl (by omega)))))))) | exact .inr (.inr (.inr (.inr (.inr (.inr (.inr (.inr (by assumption)))))))))).symm, rfl⟩)
 · skip
   refine G_region (l := [0, 1]) rfl ?_
   refine G_val rfl rfl rfl rfl (V_func rfl rfl rfl) ?_
   refine G_val rfl rfl rfl rfl (V_assign rfl rfl) ?_
   refine G_done ?_
   refine G_seq ?_
   refine G_block ?_
   refine G_seq ?_
   refine G_seq ?_
   refine G_region (l := [0, 1, 2, 3]) rfl ?_
   refine G_val rfl rfl rfl rfl (V_move rfl rfl) ?_
   refine G_callC (L2 := [_]) rfl rfl rfl rfl rfl rfl Try.call73 rfl ((sc_has b1 m 116).weaken (fun v post h => by rw [(has_3 hkd).1] at h; exact h)) [] [1] rfl rfl ?_
   rintro v post ⟨rfl, rfl⟩
   show G _ _ _ [_] _
   refine G_val rfl rfl rfl rfl (V_not rfl rfl) ?_
   refine G_val rfl rfl rfl rfl (V_assign rfl rfl) ?_
   refine G_done ?_
   refine G_else rfl ?_
   refine G_seq ?_
   refine G_region (l := [0, 1, 2, 3, 4, 5, 6, 7, 8]) rfl ?_
   refine G_val rfl rfl rfl rfl (V_move rfl rfl) ?_
   refine G_callC (L2 := [_]) rfl rfl rfl rfl rfl rfl Try.call73 rfl ((sc_has b1 m 98).weaken (fun v post h => by rw [(has_3 hkd).2.1] at h; exact h)) [] [1] rfl rfl ?_
   rintro v post ⟨rfl, rfl⟩
   show G _ _ _ [_] _
   refine G_val rfl rfl rfl rfl (V_not rfl rfl) ?_
   refine G_val rfl rfl rfl rfl (V_move rfl rfl) ?_
   refine G_off rfl rfl rfl rfl ?_
   refine G_off rfl rfl rfl rfl ?_
   refine G_off rfl rfl rfl rfl ?_
   refine G_val rfl rfl rfl rfl (V_pickF rfl rfl rfl) ?_
   refine G_val rfl rfl rfl rfl (V_assign rfl rfl) ?_
   refine G_done ?_
   refine G_else rfl ?_
   refine G_seq ?_
   refine G_region (l := [0, 1, 2, 3, 4, 5, 6, 7, 8]) rfl ?_
   refine G_val rfl rfl rfl rfl (V_move rfl rfl) ?_
   refine G_callC (L2 := [_]) rfl rfl rfl rfl rfl rfl Try.call73 rfl ((sc_has b1 m 102).weaken (fun v post h => by rw [(has_3 hkd).2.2.1] at h; exact h)) [] [1] rfl rfl ?_
   rintro v post ⟨rfl, rfl⟩
   show G _ _ _ [_] _
   refine G_val rfl rfl rfl rfl (V_not rfl rfl) ?_
   refine G_val rfl rfl rfl rfl (V_move rfl rfl) ?_
   refine G_off rfl rfl rfl rfl ?_
   refine G_off rfl rfl rfl rfl ?_
   refine G_off rfl rfl rfl rfl ?_
   refine G_val rfl rfl rfl rfl (V_pickF rfl rfl rfl) ?_
   refine G_val rfl rfl rfl rfl (V_assign rfl rfl) ?_
   refine G_done ?_
   refine G_else rfl ?_
   refine G_region (l := [0, 1, 2, 3, 4, 5, 6, 7, 8, 9]) rfl ?_
   refine G_val rfl rfl rfl rfl (V_move rfl rfl) ?_
   refine G_callC (L2 := [_]) rfl rfl rfl rfl rfl rfl Try.call73 rfl ((sc_has b1 m 107).weaken (fun v post h => by rw [(has_3 hkd).2.2.2] at h; exact h)) [] [1] rfl rfl ?_
   rintro v post ⟨rfl, rfl⟩
   show G _ _ _ [_] _
   refine G_val rfl rfl rfl rfl (V_not rfl rfl) ?_
   refine G_val rfl rfl rfl rfl (V_move rfl rfl) ?_
   refine G_off rfl rfl rfl rfl ?_
   refine G_off rfl rfl rfl rfl ?_
   refine G_off rfl rfl rfl rfl ?_
   refine G_off rfl rfl rfl rfl ?_
   refine G_val rfl rfl rfl rfl (V_pickF rfl rfl rfl) ?_
   refine G_val rfl rfl rfl rfl (V_assign rfl rfl) ?_
   refine G_done ?_
   refine G_else rfl ?_
   refine G_skip ?_
   refine G_inBlock ?_
   refine G_seq ?_
   refine G_region (l := [0, 1, 2, 3, 4, 5, 6, 7, 8, 9, 10, 11, 12, 13, 14, 15, 16, 17, 18, 19, 20, 21, 22, 23, 24, 25, 26]) rfl ?_
   refine G_val rfl rfl rfl rfl (V_fieldAddr (fo := 1) rfl Try.underlying58 rfl infScriptW_9 rfl rfl rfl) ?_
   refine G_val rfl rfl rfl rfl (V_load1 rfl rfl (mem_at 1 rfl) rfl Try.underlying9 rfl) ?_
   refine G_val rfl rfl rfl rfl (V_slen rfl rfl Try.underlying9 rfl) ?_
   refine G_val rfl rfl rfl rfl (V_leq rfl rfl rfl) ?_
   refine G_val rfl rfl rfl rfl (V_move rfl rfl) ?_
   refine G_splitD 38 rfl (fun hc1 => ?_) (fun hc1 => ?_)
   · skip
     refine G_val rfl rfl rfl rfl (V_fieldAddr (fo := 3) rfl Try.underlying58 rfl infScriptW_3 rfl rfl rfl) ?_
     refine G_val rfl rfl rfl rfl (V_load1 rfl rfl (mem_at 1 rfl) rfl Try.underlying3 rfl) ?_
     refine G_val rfl rfl rfl rfl (V_geq rfl rfl rfl) ?_
     refine G_val rfl rfl rfl rfl (V_pickT rfl rfl rfl) ?_
     refine G_val rfl rfl rfl rfl (V_move rfl rfl) ?_
     refine G_splitD 43 rfl (fun hc2 => ?_) (fun hc2 => ?_)
     · skip
       refine G_val rfl rfl rfl rfl (V_fieldAddr (fo := 3) rfl Try.underlying58 rfl infScriptW_3 rfl rfl rfl) ?_
       refine G_val rfl rfl rfl rfl (V_load1 rfl rfl (mem_at 1 rfl) rfl Try.underlying3 rfl) ?_
       refine G_val rfl rfl rfl rfl (V_lss rfl rfl rfl) ?_
       refine G_val rfl rfl rfl rfl (V_pickT rfl rfl rfl) ?_
       refine G_val rfl rfl rfl rfl (V_move rfl rfl) ?_
       refine G_splitD 48 rfl (fun hc3 => ?_) (fun hc3 => ?_)
       · skip
         refine G_val rfl rfl rfl rfl (V_fieldAddr (fo := 4) rfl Try.underlying58 rfl infScriptW_56 rfl rfl rfl) ?_
         refine G_val rfl rfl rfl rfl (V_load1 rfl rfl (mem_at 1 rfl) rfl Try.underlying56 rfl) ?_
         refine G_val rfl rfl rfl rfl (V_len rfl rfl Try.underlying56 rfl) ?_
         refine G_val rfl rfl rfl rfl (V_leq rfl rfl rfl) ?_
         refine G_val rfl rfl rfl rfl (V_pickT rfl rfl rfl) ?_
         refine G_val rfl rfl rfl rfl (V_move rfl rfl) ?_
         refine G_splitD 54 rfl (fun hc4 => ?_) (fun hc4 => ?_)
         · skip
           refine G_val rfl rfl rfl rfl (V_fieldAddr (fo := 4) rfl Try.underlying58 rfl infScriptW_56 rfl rfl rfl) ?_
           refine G_val rfl rfl rfl rfl (V_load1 rfl rfl (mem_at 1 rfl) rfl Try.underlying56 rfl) ?_
           refine G_call (L2 := [_]) rfl rfl rfl rfl rfl rfl Try.call76 (sc_containsK m hm) [] [0] rfl rfl ?_
           rintro v post ⟨rfl, rfl⟩
           show G _ _ _ [_] _
           refine G_val rfl rfl rfl rfl (V_not rfl rfl) ?_
           refine G_val rfl rfl rfl rfl (V_pickT rfl rfl rfl) ?_
           refine G_val rfl rfl rfl rfl (V_assign rfl rfl) ?_
           refine G_done ?_
           refine G_ret (post := []) Try.func21 rfl (RVs_cons (RV_tmp rfl) RVs_nil) [] rfl ?_
           dsimp only [packed]
           first
             | (refine ⟨bool_eq (may_ff (by first | exact .inl (by omega) | exact .inr (.inl (by omega)) | exact .inr (.inr (.inl ⟨by omega, by assumption⟩)) | exact .inr (.inr (.inr (.inl ⟨by omega, by omega⟩))) | exact .inr (.inr (.inr (.inr (.inl ⟨by omega, by omega⟩)))) | exact .inr (.inr (.inr (.inr (.inr (.inl (by omega)))))) | exact .inr (.inr (.inr (.inr (.inr (.inr (.inl (by omega))))))) | exact .inr (.inr (.inr (.inr (.inr (.inr (.inr (.inl (by omega)))))))) | exact .inr (.inr (.inr (.inr (.inr (.inr (.inr (.inr (by assumption)))))))))).symm, rfl⟩; done)
             | (rcases hany : m.v.ks.any badK with _ | _
                · exact ⟨bool_eq (may_tt (by omega) (by omega) (by first | (intro hh; exfalso; omega) | (intro _; exact Classical.not_not.1 (by assumption)) | (intro _; assumption)) (by first | (intro hh; exfalso; omega) | (intro _; exact ⟨by omega, List.length_eq_zero_iff.1 (by omega)⟩)) (by omega) (by omega) hany).symm, rfl⟩
                · exact ⟨bool_eq (may_ff (by first | exact .inl (by omega) | exact .inr (.inl (by omega)) | exact .inr (.inr (.inl ⟨by omega, by assumption⟩)) | exact .inr (.inr (.inr (.inl ⟨by omega, by omega⟩))) | exact .inr (.inr (.inr (.inr (.inl ⟨by omega, by omega⟩)))) | exact .inr (.inr (.inr (.inr (.inr (.inl (by omega)))))) | exact .inr (.inr (.inr (.inr (.inr (.inr (.inl (by omega))))))) | exact .inr (.inr (.inr (.inr (.inr (.inr (.inr (.inl (by omega)))))))) | exact .inr (.inr (.inr (.inr (.inr (.inr (.inr (.inr (by assumption)))))))))).symm, rfl⟩)
         refine G_off rfl rfl rfl rfl ?_
         refine G_off rfl rfl rfl rfl ?_
         refine G_off rfl rfl rfl rfl ?_
         refine G_off rfl rfl rfl rfl ?_
         refine G_val rfl rfl rfl rfl (V_pickF rfl rfl rfl) ?_
         refine G_val rfl rfl rfl rfl (V_assign rfl rfl) ?_
         refine G_done ?_
         refine G_ret (post := []) Try.func21 rfl (RVs_cons (RV_tmp rfl) RVs_nil) [] rfl ?_
         dsimp only [packed]
         first
           | (refine ⟨bool_eq (may_ff (by first | exact .inl (by omega) | exact .inr (.inl (by omega)) | exact .inr (.inr (.inl ⟨by omega, by assumption⟩)) | exact .inr (.inr (.inr (.inl ⟨by omega, by omega⟩))) | exact .inr (.inr (.inr (.inr (.inl ⟨by omega, by omega⟩)))) | exact .inr (.inr (.inr (.inr (.inr (.inl (by omega)))))) | exact .inr (.inr (.inr (.inr (.inr (.inr (.inl (by omega))))))) | exact .inr (.inr (.inr (.inr (.inr (.inr (.inr (.inl (by omega)))))))) | exact .inr (.inr (.inr (.inr (.inr (.inr (.inr (.inr (by assumption)))))))))).symm, rfl⟩; done)
           | (rcases hany : m.v.ks.any badK with _ | _
              · exact ⟨bool_eq (may_tt (by omega) (by omega) (by first | (intro hh; exfalso; omega) | (intro _; exact Classical.not_not.1 (by assumption)) | (intro _; assumption)) (by first | (intro hh; exfalso; omega) | (intro _; exact ⟨by omega, List.length_eq_zero_iff.1 (by omega)⟩)) (by omega) (by omega) hany).symm, rfl⟩
              · exact ⟨bool_eq (may_ff (by first | exact .inl (by omega) | exact .inr (.inl (by omega)) | exact .inr (.inr (.inl ⟨by omega, by assumption⟩)) | exact .inr (.inr (.inr (.inl ⟨by omega, by omega⟩))) | exact .inr (.inr (.inr (.inr (.inl ⟨by omega, by omega⟩)))) | exact .inr (.inr (.inr (.inr (.inr (.inl (by omega)))))) | exact .inr (.inr (.inr (.inr (.inr (.inr (.inl (by omega))))))) | exact .inr (.inr (.inr (.inr (.inr (.inr (.inr (.inl (by omega)))))))) | exact .inr (.inr (.inr (.inr (.inr (.inr (.inr (.inr (by assumption)))))))))).symm, rfl⟩)
       refine G_off rfl rfl rfl rfl ?_
       refine G_off rfl rfl rfl rfl ?_
       refine G_off rfl rfl rfl rfl ?_
       refine G_off rfl rfl rfl rfl ?_
       refine G_val rfl rfl rfl rfl (V_pickF rfl rfl rfl) ?_
       refine G_val rfl rfl rfl rfl (V_move rfl rfl) ?_
       refine G_off rfl rfl rfl rfl ?_
       refine G_off rfl rfl rfl rfl ?_
       refine G_off rfl rfl rfl rfl ?_
       refine G_off rfl rfl rfl rfl ?_
       refine G_val rfl rfl rfl rfl (V_pickF rfl rfl rfl) ?_
       refine G_val rfl rfl rfl rfl (V_assign rfl rfl) ?_
       refine G_done ?_
       refine G_ret (post := []) Try.func21 rfl (RVs_cons (RV_tmp rfl) RVs_nil) [] rfl ?_
       dsimp only [packed]
       first
         | (refine ⟨bool_eq (may_ff (by first | exact .inl (by omega) | exact .inr (.inl (by omega)) | exact .inr (.inr (.inl ⟨by omega, by assumption⟩)) | exact .inr (.inr (.inr (.inl ⟨by omega, by omega⟩))) | exact .inr (.inr (.inr (.inr (.inl ⟨by omega, by omega⟩)))) | exact .inr (.inr (.inr (.inr (.inr (.inl (by omega)))))) | exact .inr (.inr (.inr (.inr (.inr (.inr (.inl (by omega))))))) | exact .inr (.inr (.inr (.inr (.inr (.inr (.inr (.inl (by omega)))))))) | exact .inr (.inr (.inr (.inr (.inr (.inr (.inr (.inr (by assumption)))))))))).symm, rfl⟩; done)
         | (rcases hany : m.v.ks.any badK with _ | _
            · exact ⟨bool_eq (may_tt (by omega) (by omega) (by first | (intro hh; exfalso; omega) | (intro _; exact Classical.not_not.1 (by assumption)) | (intro _; assumption)) (by first | (intro hh; exfalso; omega) | (intro _; exact ⟨by omega, List.length_eq_zero_iff.1 (by omega)⟩)) (by omega) (by omega) hany).symm, rfl⟩
            · exact ⟨bool_eq (may_ff (by first | exact .inl (by omega) | exact .inr (.inl (by omega)) | exact .inr (.inr (.inl ⟨by omega, by assumption⟩)) | exact .inr (.inr (.inr (.inl ⟨by omega, by omega⟩))) | exact .inr (.inr (.inr (.inr (.inl ⟨by omega, by omega⟩)))) | exact .inr (.inr (.inr (.inr (.inr (.inl (by omega)))))) | exact .inr (.inr (.inr (.inr (.inr (.inr (.inl (by omega))))))) | exact .inr (.inr (.inr (.inr (.inr (.inr (.inr (.inl (by omega)))))))) | exact .inr (.inr (.inr (.inr (.inr (.inr (.inr (.inr (by assumption)))))))))).symm, rfl⟩)
     refine G_off rfl rfl rfl rfl ?_
     refine G_off rfl rfl rfl rfl ?_
     refine G_off rfl rfl rfl rfl ?_
     refine G_val rfl rfl rfl rfl (V_pickF rfl rfl rfl) ?_
     refine G_val rfl rfl rfl rfl (V_move rfl rfl) ?_
     refine G_off rfl rfl rfl rfl ?_
     refine G_off rfl rfl rfl rfl ?_
     refine G_off rfl rfl rfl rfl ?_
     refine G_off rfl rfl rfl rfl ?_
     refine G_val rfl rfl rfl rfl (V_pickF rfl rfl rfl) ?_
     refine G_val rfl rfl rfl rfl (V_move rfl rfl) ?_
     refine G_off rfl rfl rfl rfl ?_
     refine G_off rfl rfl rfl rfl ?_
     refine G_off rfl rfl rfl rfl ?_
     refine G_off rfl rfl rfl rfl ?_
     refine G_val rfl rfl rfl rfl (V_pickF rfl rfl rfl) ?_
     refine G_val rfl rfl rfl rfl (V_assign rfl rfl) ?_
     refine G_done ?_
     refine G_ret (post := []) Try.func21 rfl (RVs_cons (RV_tmp rfl) RVs_nil) [] rfl ?_
     dsimp only [packed]
     first
       | (refine ⟨bool_eq (may_ff (by first | exact .inl (by omega) | exact .inr (.inl (by omega)) | exact .inr (.inr (.inl ⟨by omega, by assumption⟩)) | exact .inr (.inr (.inr (.inl ⟨by omega, by omega⟩))) | exact .inr (.inr (.inr (.inr (.inl ⟨by omega, by omega⟩)))) | exact .inr (.inr (.inr (.inr (.inr (.inl (by omega)))))) | exact .inr (.inr (.inr (.inr (.inr (.inr (.inl (by omega))))))) | exact .inr (.inr (.inr (.inr (.inr (.inr (.inr (.inl (by omega)))))))) | exact .inr (.inr (.inr (.inr (.inr (.inr (.inr (.inr (by assumption)))))))))).symm, rfl⟩; done)
       | (rcases hany : m.v.ks.any badK with _ | _
          · exact ⟨bool_eq (may_tt (by omega) (by omega) (by first | (intro hh; exfalso; omega) | (intro _; exact Classical.not_not.1 (by assumption)) | (intro _; assumption)) (by first | (intro hh; exfalso; omega) | (intro _; exact ⟨by omega, List.length_eq_zero_iff.1 (by omega)⟩)) (by omega) (by omega) hany).symm, rfl⟩
          · exact ⟨bool_eq (may_ff (by first | exact .inl (by omega) | exact .inr (.inl (by omega)) | exact .inr (.inr (.inl ⟨by omega, by assumption⟩)) | exact .inr (.inr (.inr (.inl ⟨by omega, by omega⟩))) | exact .inr (.inr (.inr (.inr (.inl ⟨by omega, by omega⟩)))) | exact .inr (.inr (.inr (.inr (.inr (.inl (by omega)))))) | exact .inr (.inr (.inr (.inr (.inr (.inr (.inl (by omega))))))) | exact .inr (.inr (.inr (.inr (.inr (.inr (.inr (.inl (by omega)))))))) | exact .inr (.inr (.inr (.inr (.inr (.inr (.inr (.inr (by assumption)))))))))).symm, rfl⟩)
   refine G_off rfl rfl rfl rfl ?_
   refine G_off rfl rfl rfl rfl ?_
   refine G_off rfl rfl rfl rfl ?_
   refine G_val rfl rfl rfl rfl (V_pickF rfl rfl rfl) ?_
   refine G_val rfl rfl rfl rfl (V_move rfl rfl) ?_
   refine G_off rfl rfl rfl rfl ?_
   refine G_off rfl rfl rfl rfl ?_
   refine G_off rfl rfl rfl rfl ?_
   refine G_val rfl rfl rfl rfl (V_pickF rfl rfl rfl) ?_
   refine G_val rfl rfl rfl rfl (V_move rfl rfl) ?_
   refine G_off rfl rfl rfl rfl ?_
   refine G_off rfl rfl rfl rfl ?_
   refine G_off rfl rfl rfl rfl ?_
   refine G_off rfl rfl rfl rfl ?_
   refine G_val rfl rfl rfl rfl (V_pickF rfl rfl rfl) ?_
   refine G_val rfl rfl rfl rfl (V_move rfl rfl) ?_
   refine G_off rfl rfl rfl rfl ?_
   refine G_off rfl rfl rfl rfl ?_
   refine G_off rfl rfl rfl rfl ?_
   refine G_off rfl rfl rfl rfl ?_
   refine G_val rfl rfl rfl rfl (V_pickF rfl rfl rfl) ?_
   refine G_val rfl rfl rfl rfl (V_assign rfl rfl) ?_
   refine G_done ?_
   refine G_ret (post := []) Try.func21 rfl (RVs_cons (RV_tmp rfl) RVs_nil) [] rfl ?_
   dsimp only [packed]
   first
     | (refine ⟨bool_eq (may_ff (by first | exact .inl (by omega) | exact .inr (.inl (by omega)) | exact .inr (.inr (.inl ⟨by omega, by assumption⟩)) | exact .inr (.inr (.inr (.inl ⟨by omega, by omega⟩))) | exact .inr (.inr (.inr (.inr (.inl ⟨by omega, by omega⟩)))) | exact .inr (.inr (.inr (.inr (.inr (.inl (by omega)))))) | exact .inr (.inr (.inr (.inr (.inr (.inr (.inl (by omega))))))) | exact .inr (.inr (.inr (.inr (.inr (.inr (.inr (.inl (by omega)))))))) | exact .inr (.inr (.inr (.inr (.inr (.inr (.inr (.inr (by assumption)))))))))).symm, rfl⟩; done)
     | (rcases hany : m.v.ks.any badK with _ | _
        · exact ⟨bool_eq (may_tt (by omega) (by omega) (by first | (intro hh; exfalso; omega) | (intro _; exact Classical.not_not.1 (by assumption)) | (intro _; assumption)) (by first | (intro hh; exfalso; omega) | (intro _; exact ⟨by omega, List.length_eq_zero_iff.1 (by omega)⟩)) (by omega) (by omega) hany).symm, rfl⟩
        · exact ⟨bool_eq (may_ff (by first | exact .inl (by omega) | exact .inr (.inl (by omega)) | exact .inr (.inr (.inl ⟨by omega, by assumption⟩)) | exact .inr (.inr (.inr (.inl ⟨by omega, by omega⟩))) | exact .inr (.inr (.inr (.inr (.inl ⟨by omega, by omega⟩)))) | exact .inr (.inr (.inr (.inr (.inr (.inl (by omega)))))) | exact .inr (.inr (.inr (.inr (.inr (.inr (.inl (by omega))))))) | exact .inr (.inr (.inr (.inr (.inr (.inr (.inr (.inl (by omega)))))))) | exact .inr (.inr (.inr (.inr (.inr (.inr (.inr (.inr (by assumption)))))))))).symm, rfl⟩)
 · skip
   refine G_region (l := [0, 1]) rfl ?_
   refine G_val rfl rfl rfl rfl (V_func rfl rfl rfl) ?_
   refine G_val rfl rfl rfl rfl (V_assign rfl rfl) ?_
   refine G_done ?_
   refine G_seq ?_
   refine G_block ?_
   refine G_seq ?_
   refine G_seq ?_
   refine G_region (l := [0, 1, 2, 3]) rfl ?_
   refine G_val rfl rfl rfl rfl (V_move rfl rfl) ?_
   refine G_callC (L2 := [_]) rfl rfl rfl rfl rfl rfl Try.call73 rfl ((sc_has b1 m 116).weaken (fun v post h => by rw [(has_0 hkd).1] at h; exact h)) [] [1] rfl rfl ?_
   rintro v post ⟨rfl, rfl⟩
   show G _ _ _ [_] _
   refine G_val rfl rfl rfl rfl (V_not rfl rfl) ?_
   refine G_val rfl rfl rfl rfl (V_assign rfl rfl) ?_
   refine G_done ?_
   refine G_then rfl ?_
   refine G_skip ?_
   refine G_then rfl ?_
   refine G_seq ?_
   refine G_region (l := [0]) rfl ?_
   refine G_val rfl rfl rfl rfl (V_assign rfl rfl) ?_
   refine G_done ?_
   refine G_ret (post := []) Try.func21 rfl (RVs_cons (RV_tmp rfl) RVs_nil) [] rfl ?_
   dsimp only [packed]
   first
     | (refine ⟨bool_eq (may_ff (by first | exact .inl (by omega) | exact .inr (.inl (by omega)) | exact .inr (.inr (.inl ⟨by omega, by assumption⟩)) | exact .inr (.inr (.inr (.inl ⟨by omega, by omega⟩))) | exact .inr (.inr (.inr (.inr (.inl ⟨by omega, by omega⟩)))) | exact .inr (.inr (.inr (.inr (.inr (.inl (by omega)))))) | exact .inr (.inr (.inr (.inr (.inr (.inr (.inl (by omega))))))) | exact .inr (.inr (.inr (.inr (.inr (.inr (.inr (.inl (by omega)))))))) | exact .inr (.inr (.inr (.inr (.inr (.inr (.inr (.inr (by assumption)))))))))).symm, rfl⟩; done)
     | (rcases hany : m.v.ks.any badK with _ | _
        · exact ⟨bool_eq (may_tt (by omega) (by omega) (by first | (intro hh; exfalso; omega) | (intro _; exact Classical.not_not.1 (by assumption)) | (intro _; assumption)) (by first | (intro hh; exfalso; omega) | (intro _; exact ⟨by omega, List.length_eq_zero_iff.1 (by omega)⟩)) (by omega) (by omega) hany).symm, rfl⟩
        · exact ⟨bool_eq (may_ff (by first | exact .inl (by omega) | exact .inr (.inl (by omega)) | exact .inr (.inr (.inl ⟨by omega, by assumption⟩)) | exact .inr (.inr (.inr (.inl ⟨by omega, by omega⟩))) | exact .inr (.inr (.inr (.inr (.inl ⟨by omega, by omega⟩)))) | exact .inr (.inr (.inr (.inr (.inr (.inl (by omega)))))) | exact .inr (.inr (.inr (.inr (.inr (.inr (.inl (by omega))))))) | exact .inr (.inr (.inr (.inr (.inr (.inr (.inr (.inl (by omega)))))))) | exact .inr (.inr (.inr (.inr (.inr (.inr (.inr (.inr (by assumption)))))))))).symm, rfl⟩)


theorem dec_both {P Q : Prop} {i1 : Decidable P} {i2 : Decidable Q} (h1 : P → decide Q = true) (h2 : ¬ P → decide Q = false) : decide P = decide Q := by
  by_cases h : P
  · rw [h1 h]; exact decide_eq_true h
  · rw [h2 h]; exact decide_eq_false h

set_option maxRecDepth 100000 in
set_option maxHeartbeats 1000000 in
theorem rsc_may (m : Em) (hm : EmOk m) :
    Ct Try.prog 22 [.agg (evC m).toArray] [evK m] [] fun v post => v = .bool (decide (MayE m.v)) ∧ post = [] := by
 have hle := hm.le
 have hmax := hm.max
 obtain ⟨hk0, hk1⟩ := hm.k
 obtain ⟨hf0, hf1⟩ := hm.f
 have hb1 := hm.b
 have ht1 := hm.t
 refine ct_of Try.func22 rfl rfl (fun w0 => ?_)
 show G _ _ [(0, _)] _ _
 refine G_seq ?_
 refine G_region (l := [0, 1]) rfl ?_
 refine G_new rfl rfl rfl rfl (N_boxA rfl rfl) (fun b1 => ?_)
 refine G_val rfl rfl rfl rfl (V_assign rfl rfl) ?_
 refine G_done ?_
 refine G_seq ?_
 refine G_seq ?_
 refine G_region (l := [0, 1, 2, 3, 4, 5, 6, 7, 8, 9, 10, 11, 12, 13, 14, 15, 16, 17, 18, 19, 20, 21, 22, 23]) rfl ?_
 refine G_val rfl rfl rfl rfl (V_fieldAddr (fo := 0) rfl Try.underlying58 rfl infScriptW_3 rfl rfl rfl) ?_
 refine G_val rfl rfl rfl rfl (V_load1 rfl rfl (mem_at 1 rfl) rfl Try.underlying3 rfl) ?_
 refine G_val rfl rfl rfl rfl (V_lss rfl rfl rfl) ?_
 refine G_val rfl rfl rfl rfl (V_move rfl rfl) ?_
 refine G_splitD 8 rfl (fun hc1 => ?_) (fun hc1 => ?_)
 · skip
   refine G_off rfl rfl rfl rfl ?_
   refine G_off rfl rfl rfl rfl ?_
   refine G_off rfl rfl rfl rfl ?_
   refine G_val rfl rfl rfl rfl (V_pickT rfl rfl rfl) ?_
   refine G_val rfl rfl rfl rfl (V_move rfl rfl) ?_
   refine G_off rfl rfl rfl rfl ?_
   refine G_off rfl rfl rfl rfl ?_
   refine G_off rfl rfl rfl rfl ?_
   refine G_off rfl rfl rfl rfl ?_
   refine G_val rfl rfl rfl rfl (V_pickT rfl rfl rfl) ?_
   refine G_val rfl rfl rfl rfl (V_move rfl rfl) ?_
   refine G_off rfl rfl rfl rfl ?_
   refine G_off rfl rfl rfl rfl ?_
   refine G_off rfl rfl rfl rfl ?_
   refine G_off rfl rfl rfl rfl ?_
   refine G_off rfl rfl rfl rfl ?_
   refine G_off rfl rfl rfl rfl ?_
   refine G_off rfl rfl rfl rfl ?_
   refine G_off rfl rfl rfl rfl ?_
   refine G_val rfl rfl rfl rfl (V_pickT rfl rfl rfl) ?_
   refine G_done ?_
   refine G_then rfl ?_
   refine G_seq ?_
   refine G_region (l := [0]) rfl ?_
   refine G_val rfl rfl rfl rfl (V_assign rfl rfl) ?_
   refine G_done ?_
   refine G_ret (post := []) Try.func22 rfl (RVs_cons (RV_tmp rfl) RVs_nil) [] rfl ?_
   dsimp only [packed]
   first
     | exact ⟨bool_eq (may_ff (by first | exact .inl (by omega) | exact .inr (.inl (by omega)) | exact .inr (.inr (.inl ⟨by omega, by assumption⟩)) | exact .inr (.inr (.inr (.inl ⟨by omega, by omega⟩))) | exact .inr (.inr (.inr (.inr (.inl ⟨by omega, by omega⟩)))) | exact .inr (.inr (.inr (.inr (.inr (.inl (by omega)))))) | exact .inr (.inr (.inr (.inr (.inr (.inr (.inl (by omega))))))) | exact .inr (.inr (.inr (.inr (.inr (.inr (.inr (.inl (by omega)))))))) | exact .inr (.inr (.inr (.inr (.inr (.inr (.inr (.inr (by assumption)))))))) | exact .inr (.inr (.inr (.inr (.inr (.inr (.inr (.inr (any_yes hx (by unfold badK; rw [decide_eq_true_eq]; omega))))))))))).symm, rfl⟩
     | exact ⟨bool_eq (dec_both (fun hz => (may_tt (by omega) (by omega) (by first | (intro hh; exfalso; omega) | (intro _; exact Classical.not_not.1 (by assumption)) | (intro _; assumption)) (by first | (intro hh; exfalso; omega) | (intro _; exact ⟨by omega, List.length_eq_zero_iff.1 (by omega)⟩)) (by omega) (by omega) (by first | exact any_end ht (by omega) | (rw [List.length_eq_zero_iff.1 (show m.v.ks.length = 0 by omega)]; rfl)))) (fun hz => may_ff (by first | exact .inl (by omega) | exact .inr (.inl (by omega)) | exact .inr (.inr (.inl ⟨by omega, by assumption⟩)) | exact .inr (.inr (.inr (.inl ⟨by omega, by omega⟩))) | exact .inr (.inr (.inr (.inr (.inl ⟨by omega, by omega⟩)))) | exact .inr (.inr (.inr (.inr (.inr (.inl (by omega)))))) | exact .inr (.inr (.inr (.inr (.inr (.inr (.inl (by omega))))))) | exact .inr (.inr (.inr (.inr (.inr (.inr (.inr (.inl (by omega)))))))) | exact .inr (.inr (.inr (.inr (.inr (.inr (.inr (.inr (by assumption)))))))) | exact .inr (.inr (.inr (.inr (.inr (.inr (.inr (.inr (any_yes hx (by unfold badK; rw [decide_eq_true_eq]; omega)))))))))))), rfl⟩
 refine G_val rfl rfl rfl rfl (V_fieldAddr (fo := 0) rfl Try.underlying58 rfl infScriptW_3 rfl rfl rfl) ?_
 refine G_val rfl rfl rfl rfl (V_load1 rfl rfl (mem_at 1 rfl) rfl Try.underlying3 rfl) ?_
 refine G_val rfl rfl rfl rfl (V_gtr rfl rfl rfl) ?_
 refine G_val rfl rfl rfl rfl (V_pickF rfl rfl rfl) ?_
 refine G_val rfl rfl rfl rfl (V_move rfl rfl) ?_
 refine G_splitD 13 rfl (fun hc2 => ?_) (fun hc2 => ?_)
 · skip
   refine G_off rfl rfl rfl rfl ?_
   refine G_off rfl rfl rfl rfl ?_
   refine G_off rfl rfl rfl rfl ?_
   refine G_off rfl rfl rfl rfl ?_
   refine G_val rfl rfl rfl rfl (V_pickT rfl rfl rfl) ?_
   refine G_val rfl rfl rfl rfl (V_move rfl rfl) ?_
   refine G_off rfl rfl rfl rfl ?_
   refine G_off rfl rfl rfl rfl ?_
   refine G_off rfl rfl rfl rfl ?_
   refine G_off rfl rfl rfl rfl ?_
   refine G_off rfl rfl rfl rfl ?_
   refine G_off rfl rfl rfl rfl ?_
   refine G_off rfl rfl rfl rfl ?_
   refine G_off rfl rfl rfl rfl ?_
   refine G_val rfl rfl rfl rfl (V_pickT rfl rfl rfl) ?_
   refine G_done ?_
   refine G_then rfl ?_
   refine G_seq ?_
   refine G_region (l := [0]) rfl ?_
   refine G_val rfl rfl rfl rfl (V_assign rfl rfl) ?_
   refine G_done ?_
   refine G_ret (post := []) Try.func22 rfl (RVs_cons (RV_tmp rfl) RVs_nil) [] rfl ?_
   dsimp only [packed]
   first
     | exact ⟨bool_eq (may_ff (by first | exact .inl (by omega) | exact .inr (.inl (by omega)) | exact .inr (.inr (.inl ⟨by omega, by assumption⟩)) | exact .inr (.inr (.inr (.inl ⟨by omega, by omega⟩))) | exact .inr (.inr (.inr (.inr (.inl ⟨by omega, by omega⟩)))) | exact .inr (.inr (.inr (.inr (.inr (.inl (by omega)))))) | exact .inr (.inr (.inr (.inr (.inr (.inr (.inl (by omega))))))) | exact .inr (.inr (.inr (.inr (.inr (.inr (.inr (.inl (by omega)))))))) | exact .inr (.inr (.inr (.inr (.inr (.inr (.inr (.inr (by assumption)))))))) | exact .inr (.inr (.inr (.inr (.inr (.inr (.inr (.inr (any_yes hx (by unfold badK; rw [decide_eq_true_eq]; omega))))))))))).symm, rfl⟩
     | exact ⟨bool_eq (dec_both (fun hz => (may_tt (by omega) (by omega) (by first | (intro hh; exfalso; omega) | (intro _; exact Classical.not_not.1 (by assumption)) | (intro _; assumption)) (by first | (intro hh; exfalso; omega) | (intro _; exact ⟨by omega, List.length_eq_zero_iff.1 (by omega)⟩)) (by omega) (by omega) (by first | exact any_end ht (by omega) | (rw [List.length_eq_zero_iff.1 (show m.v.ks.length = 0 by omega)]; rfl)))) (fun hz => may_ff (by first | exact .inl (by omega) | exact .inr (.inl (by omega)) | exact .inr (.inr (.inl ⟨by omega, by assumption⟩)) | exact .inr (.inr (.inr (.inl ⟨by omega, by omega⟩))) | exact .inr (.inr (.inr (.inr (.inl ⟨by omega, by omega⟩)))) | exact .inr (.inr (.inr (.inr (.inr (.inl (by omega)))))) | exact .inr (.inr (.inr (.inr (.inr (.inr (.inl (by omega))))))) | exact .inr (.inr (.inr (.inr (.inr (.inr (.inr (.inl (by omega)))))))) | exact .inr (.inr (.inr (.inr (.inr (.inr (.inr (.inr (by assumption)))))))) | exact .inr (.inr (.inr (.inr (.inr (.inr (.inr (.inr (any_yes hx (by unfold badK; rw [decide_eq_true_eq]; omega)))))))))))), rfl⟩
 refine G_val rfl rfl rfl rfl (V_fieldAddr (fo := 1) rfl Try.underlying58 rfl infScriptW_9 rfl rfl rfl) ?_
 refine G_val rfl rfl rfl rfl (V_load1 rfl rfl (mem_at 1 rfl) rfl Try.underlying9 rfl) ?_
 refine G_val rfl rfl rfl rfl (V_slen rfl rfl Try.underlying9 rfl) ?_
 refine G_val rfl rfl rfl rfl (V_gtr rfl rfl rfl) ?_
 refine G_val rfl rfl rfl rfl (V_pickF rfl rfl rfl) ?_
 refine G_val rfl rfl rfl rfl (V_move rfl rfl) ?_
 refine G_splitD 19 rfl (fun hc3 => ?_) (fun hc3 => ?_)
 · skip
   refine G_off rfl rfl rfl rfl ?_
   refine G_off rfl rfl rfl rfl ?_
   refine G_off rfl rfl rfl rfl ?_
   refine G_off rfl rfl rfl rfl ?_
   refine G_off rfl rfl rfl rfl ?_
   refine G_off rfl rfl rfl rfl ?_
   refine G_off rfl rfl rfl rfl ?_
   refine G_off rfl rfl rfl rfl ?_
   refine G_val rfl rfl rfl rfl (V_pickT rfl rfl rfl) ?_
   refine G_done ?_
   refine G_then rfl ?_
   refine G_seq ?_
   refine G_region (l := [0]) rfl ?_
   refine G_val rfl rfl rfl rfl (V_assign rfl rfl) ?_
   refine G_done ?_
   refine G_ret (post := []) Try.func22 rfl (RVs_cons (RV_tmp rfl) RVs_nil) [] rfl ?_
   dsimp only [packed]
   first
     | exact ⟨bool_eq (may_ff (by first | exact .inl (by omega) | exact .inr (.inl (by omega)) | exact .inr (.inr (.inl ⟨by omega, by assumption⟩)) | exact .inr (.inr (.inr (.inl ⟨by omega, by omega⟩))) | exact .inr (.inr (.inr (.inr (.inl ⟨by omega, by omega⟩)))) | exact .inr (.inr (.inr (.inr (.inr (.inl (by omega)))))) | exact .inr (.inr (.inr (.inr (.inr (.inr (.inl (by omega))))))) | exact .inr (.inr (.inr (.inr (.inr (.inr (.inr (.inl (by omega)))))))) | exact .inr (.inr (.inr (.inr (.inr (.inr (.inr (.inr (by assumption)))))))) | exact .inr (.inr (.inr (.inr (.inr (.inr (.inr (.inr (any_yes hx (by unfold badK; rw [decide_eq_true_eq]; omega))))))))))).symm, rfl⟩
     | exact ⟨bool_eq (dec_both (fun hz => (may_tt (by omega) (by omega) (by first | (intro hh; exfalso; omega) | (intro _; exact Classical.not_not.1 (by assumption)) | (intro _; assumption)) (by first | (intro hh; exfalso; omega) | (intro _; exact ⟨by omega, List.length_eq_zero_iff.1 (by omega)⟩)) (by omega) (by omega) (by first | exact any_end ht (by omega) | (rw [List.length_eq_zero_iff.1 (show m.v.ks.length = 0 by omega)]; rfl)))) (fun hz => may_ff (by first | exact .inl (by omega) | exact .inr (.inl (by omega)) | exact .inr (.inr (.inl ⟨by omega, by assumption⟩)) | exact .inr (.inr (.inr (.inl ⟨by omega, by omega⟩))) | exact .inr (.inr (.inr (.inr (.inl ⟨by omega, by omega⟩)))) | exact .inr (.inr (.inr (.inr (.inr (.inl (by omega)))))) | exact .inr (.inr (.inr (.inr (.inr (.inr (.inl (by omega))))))) | exact .inr (.inr (.inr (.inr (.inr (.inr (.inr (.inl (by omega)))))))) | exact .inr (.inr (.inr (.inr (.inr (.inr (.inr (.inr (by assumption)))))))) | exact .inr (.inr (.inr (.inr (.inr (.inr (.inr (.inr (any_yes hx (by unfold badK; rw [decide_eq_true_eq]; omega)))))))))))), rfl⟩
 refine G_val rfl rfl rfl rfl (V_fieldAddr (fo := 0) rfl Try.underlying58 rfl infScriptW_3 rfl rfl rfl) ?_
 refine G_val rfl rfl rfl rfl (V_load1 rfl rfl (mem_at 1 rfl) rfl Try.underlying3 rfl) ?_
 refine G_val rfl rfl rfl rfl (V_eql rfl rfl rfl) ?_
 refine G_val rfl rfl rfl rfl (V_move rfl rfl) ?_
 refine G_splitD 23 rfl (fun hc4 => ?_) (fun hc4 => ?_)
 · skip
   refine G_val rfl rfl rfl rfl (V_fieldAddr (fo := 1) rfl Try.underlying58 rfl infScriptW_9 rfl rfl rfl) ?_
   refine G_val rfl rfl rfl rfl (V_load1 rfl rfl (mem_at 1 rfl) rfl Try.underlying9 rfl) ?_
   refine G_val rfl rfl rfl rfl (V_sneq rfl rfl rfl) ?_
   refine G_val rfl rfl rfl rfl (V_pickT rfl rfl rfl) ?_
   refine G_val rfl rfl rfl rfl (V_pickF rfl rfl rfl) ?_
   refine G_done ?_
   refine G_ifD rfl (fun hc5 => ?_) (fun hc5 => ?_)
   · skip
     refine G_seq ?_
     refine G_region (l := [0]) rfl ?_
     refine G_val rfl rfl rfl rfl (V_assign rfl rfl) ?_
     refine G_done ?_
     refine G_ret (post := []) Try.func22 rfl (RVs_cons (RV_tmp rfl) RVs_nil) [] rfl ?_
     dsimp only [packed]
     first
       | exact ⟨bool_eq (may_ff (by first | exact .inl (by omega) | exact .inr (.inl (by omega)) | exact .inr (.inr (.inl ⟨by omega, by assumption⟩)) | exact .inr (.inr (.inr (.inl ⟨by omega, by omega⟩))) | exact .inr (.inr (.inr (.inr (.inl ⟨by omega, by omega⟩)))) | exact .inr (.inr (.inr (.inr (.inr (.inl (by omega)))))) | exact .inr (.inr (.inr (.inr (.inr (.inr (.inl (by omega))))))) | exact .inr (.inr (.inr (.inr (.inr (.inr (.inr (.inl (by omega)))))))) | exact .inr (.inr (.inr (.inr (.inr (.inr (.inr (.inr (by assumption)))))))) | exact .inr (.inr (.inr (.inr (.inr (.inr (.inr (.inr (any_yes hx (by unfold badK; rw [decide_eq_true_eq]; omega))))))))))).symm, rfl⟩
       | exact ⟨bool_eq (dec_both (fun hz => (may_tt (by omega) (by omega) (by first | (intro hh; exfalso; omega) | (intro _; exact Classical.not_not.1 (by assumption)) | (intro _; assumption)) (by first | (intro hh; exfalso; omega) | (intro _; exact ⟨by omega, List.length_eq_zero_iff.1 (by omega)⟩)) (by omega) (by omega) (by first | exact any_end ht (by omega) | (rw [List.length_eq_zero_iff.1 (show m.v.ks.length = 0 by omega)]; rfl)))) (fun hz => may_ff (by first | exact .inl (by omega) | exact .inr (.inl (by omega)) | exact .inr (.inr (.inl ⟨by omega, by assumption⟩)) | exact .inr (.inr (.inr (.inl ⟨by omega, by omega⟩))) | exact .inr (.inr (.inr (.inr (.inl ⟨by omega, by omega⟩)))) | exact .inr (.inr (.inr (.inr (.inr (.inl (by omega)))))) | exact .inr (.inr (.inr (.inr (.inr (.inr (.inl (by omega))))))) | exact .inr (.inr (.inr (.inr (.inr (.inr (.inr (.inl (by omega)))))))) | exact .inr (.inr (.inr (.inr (.inr (.inr (.inr (.inr (by assumption)))))))) | exact .inr (.inr (.inr (.inr (.inr (.inr (.inr (.inr (any_yes hx (by unfold badK; rw [decide_eq_true_eq]; omega)))))))))))), rfl⟩
   refine G_skip ?_
   refine G_seq ?_
   refine G_seq ?_
   refine G_region (l := [0, 1, 2]) rfl ?_
   refine G_val rfl rfl rfl rfl (V_fieldAddr (fo := 0) rfl Try.underlying58 rfl infScriptW_3 rfl rfl rfl) ?_
   refine G_val rfl rfl rfl rfl (V_load1 rfl rfl (mem_at 1 rfl) rfl Try.underlying3 rfl) ?_
   refine G_val rfl rfl rfl rfl (V_neq rfl rfl rfl) ?_
   refine G_done ?_
   refine G_ifD rfl (fun hc6 => ?_) (fun hc6 => ?_)
   rotate_left
   · (first | contradiction | (exact absurd rfl hc6) | (exfalso; omega) | (simp at hc6; done) | (exact absurd hc6 (by decide)) | (exact absurd (by decide) hc6))
   refine G_seq ?_
   refine G_region (l := [0, 1, 2, 3, 4, 5, 6, 7, 8, 9]) rfl ?_
   refine G_val rfl rfl rfl rfl (V_fieldAddr (fo := 3) rfl Try.underlying58 rfl infScriptW_3 rfl rfl rfl) ?_
   refine G_val rfl rfl rfl rfl (V_load1 rfl rfl (mem_at 1 rfl) rfl Try.underlying3 rfl) ?_
   refine G_val rfl rfl rfl rfl (V_eql rfl rfl rfl) ?_
   refine G_val rfl rfl rfl rfl (V_move rfl rfl) ?_
   refine G_splitD 35 rfl (fun hc7 => ?_) (fun hc7 => ?_)
   · skip
     refine G_val rfl rfl rfl rfl (V_fieldAddr (fo := 4) rfl Try.underlying58 rfl infScriptW_56 rfl rfl rfl) ?_
     refine G_val rfl rfl rfl rfl (V_load1 rfl rfl (mem_at 1 rfl) rfl Try.underlying56 rfl) ?_
     refine G_val rfl rfl rfl rfl (V_len rfl rfl Try.underlying56 rfl) ?_
     refine G_val rfl rfl rfl rfl (V_eql rfl rfl rfl) ?_
     refine G_val rfl rfl rfl rfl (V_pickT rfl rfl rfl) ?_
     refine G_val rfl rfl rfl rfl (V_assign rfl rfl) ?_
     refine G_done ?_
     refine G_ret (post := []) Try.func22 rfl (RVs_cons (RV_tmp rfl) RVs_nil) [] rfl ?_
     dsimp only [packed]
     first
       | exact ⟨bool_eq (may_ff (by first | exact .inl (by omega) | exact .inr (.inl (by omega)) | exact .inr (.inr (.inl ⟨by omega, by assumption⟩)) | exact .inr (.inr (.inr (.inl ⟨by omega, by omega⟩))) | exact .inr (.inr (.inr (.inr (.inl ⟨by omega, by omega⟩)))) | exact .inr (.inr (.inr (.inr (.inr (.inl (by omega)))))) | exact .inr (.inr (.inr (.inr (.inr (.inr (.inl (by omega))))))) | exact .inr (.inr (.inr (.inr (.inr (.inr (.inr (.inl (by omega)))))))) | exact .inr (.inr (.inr (.inr (.inr (.inr (.inr (.inr (by assumption)))))))) | exact .inr (.inr (.inr (.inr (.inr (.inr (.inr (.inr (any_yes hx (by unfold badK; rw [decide_eq_true_eq]; omega))))))))))).symm, rfl⟩
       | exact ⟨bool_eq (dec_both (fun hz => (may_tt (by omega) (by omega) (by first | (intro hh; exfalso; omega) | (intro _; exact Classical.not_not.1 (by assumption)) | (intro _; assumption)) (by first | (intro hh; exfalso; omega) | (intro _; exact ⟨by omega, List.length_eq_zero_iff.1 (by omega)⟩)) (by omega) (by omega) (by first | exact any_end ht (by omega) | (rw [List.length_eq_zero_iff.1 (show m.v.ks.length = 0 by omega)]; rfl)))) (fun hz => may_ff (by first | exact .inl (by omega) | exact .inr (.inl (by omega)) | exact .inr (.inr (.inl ⟨by omega, by assumption⟩)) | exact .inr (.inr (.inr (.inl ⟨by omega, by omega⟩))) | exact .inr (.inr (.inr (.inr (.inl ⟨by omega, by omega⟩)))) | exact .inr (.inr (.inr (.inr (.inr (.inl (by omega)))))) | exact .inr (.inr (.inr (.inr (.inr (.inr (.inl (by omega))))))) | exact .inr (.inr (.inr (.inr (.inr (.inr (.inr (.inl (by omega)))))))) | exact .inr (.inr (.inr (.inr (.inr (.inr (.inr (.inr (by assumption)))))))) | exact .inr (.inr (.inr (.inr (.inr (.inr (.inr (.inr (any_yes hx (by unfold badK; rw [decide_eq_true_eq]; omega)))))))))))), rfl⟩
   refine G_off rfl rfl rfl rfl ?_
   refine G_off rfl rfl rfl rfl ?_
   refine G_off rfl rfl rfl rfl ?_
   refine G_off rfl rfl rfl rfl ?_
   refine G_val rfl rfl rfl rfl (V_pickF rfl rfl rfl) ?_
   refine G_val rfl rfl rfl rfl (V_assign rfl rfl) ?_
   refine G_done ?_
   refine G_ret (post := []) Try.func22 rfl (RVs_cons (RV_tmp rfl) RVs_nil) [] rfl ?_
   dsimp only [packed]
   first
     | exact ⟨bool_eq (may_ff (by first | exact .inl (by omega) | exact .inr (.inl (by omega)) | exact .inr (.inr (.inl ⟨by omega, by assumption⟩)) | exact .inr (.inr (.inr (.inl ⟨by omega, by omega⟩))) | exact .inr (.inr (.inr (.inr (.inl ⟨by omega, by omega⟩)))) | exact .inr (.inr (.inr (.inr (.inr (.inl (by omega)))))) | exact .inr (.inr (.inr (.inr (.inr (.inr (.inl (by omega))))))) | exact .inr (.inr (.inr (.inr (.inr (.inr (.inr (.inl (by omega)))))))) | exact .inr (.inr (.inr (.inr (.inr (.inr (.inr (.inr (by assumption)))))))) | exact .inr (.inr (.inr (.inr (.inr (.inr (.inr (.inr (any_yes hx (by unfold badK; rw [decide_eq_true_eq]; omega))))))))))).symm, rfl⟩
     | exact ⟨bool_eq (dec_both (fun hz => (may_tt (by omega) (by omega) (by first | (intro hh; exfalso; omega) | (intro _; exact Classical.not_not.1 (by assumption)) | (intro _; assumption)) (by first | (intro hh; exfalso; omega) | (intro _; exact ⟨by omega, List.length_eq_zero_iff.1 (by omega)⟩)) (by omega) (by omega) (by first | exact any_end ht (by omega) | (rw [List.length_eq_zero_iff.1 (show m.v.ks.length = 0 by omega)]; rfl)))) (fun hz => may_ff (by first | exact .inl (by omega) | exact .inr (.inl (by omega)) | exact .inr (.inr (.inl ⟨by omega, by assumption⟩)) | exact .inr (.inr (.inr (.inl ⟨by omega, by omega⟩))) | exact .inr (.inr (.inr (.inr (.inl ⟨by omega, by omega⟩)))) | exact .inr (.inr (.inr (.inr (.inr (.inl (by omega)))))) | exact .inr (.inr (.inr (.inr (.inr (.inr (.inl (by omega))))))) | exact .inr (.inr (.inr (.inr (.inr (.inr (.inr (.inl (by omega)))))))) | exact .inr (.inr (.inr (.inr (.inr (.inr (.inr (.inr (by assumption)))))))) | exact .inr (.inr (.inr (.inr (.inr (.inr (.inr (.inr (any_yes hx (by unfold badK; rw [decide_eq_true_eq]; omega)))))))))))), rfl⟩
 refine G_off rfl rfl rfl rfl ?_
 refine G_off rfl rfl rfl rfl ?_
 refine G_off rfl rfl rfl rfl ?_
 refine G_val rfl rfl rfl rfl (V_pickF rfl rfl rfl) ?_
 refine G_val rfl rfl rfl rfl (V_pickF rfl rfl rfl) ?_
 refine G_done ?_
 refine G_else rfl ?_
 refine G_skip ?_
 refine G_seq ?_
 refine G_seq ?_
 refine G_region (l := [0, 1, 2]) rfl ?_
 refine G_val rfl rfl rfl rfl (V_fieldAddr (fo := 0) rfl Try.underlying58 rfl infScriptW_3 rfl rfl rfl) ?_
 refine G_val rfl rfl rfl rfl (V_load1 rfl rfl (mem_at 1 rfl) rfl Try.underlying3 rfl) ?_
 refine G_val rfl rfl rfl rfl (V_neq rfl rfl rfl) ?_
 refine G_done ?_
 refine G_ifD rfl (fun hc5 => ?_) (fun hc5 => ?_)
 · skip
   refine G_seq ?_
   refine G_region (l := [0, 1, 2, 3, 4, 5, 6, 7, 8, 9]) rfl ?_
   refine G_val rfl rfl rfl rfl (V_fieldAddr (fo := 3) rfl Try.underlying58 rfl infScriptW_3 rfl rfl rfl) ?_
   refine G_val rfl rfl rfl rfl (V_load1 rfl rfl (mem_at 1 rfl) rfl Try.underlying3 rfl) ?_
   refine G_val rfl rfl rfl rfl (V_eql rfl rfl rfl) ?_
   refine G_val rfl rfl rfl rfl (V_move rfl rfl) ?_
   refine G_splitD 35 rfl (fun hc6 => ?_) (fun hc6 => ?_)
   · skip
     refine G_val rfl rfl rfl rfl (V_fieldAddr (fo := 4) rfl Try.underlying58 rfl infScriptW_56 rfl rfl rfl) ?_
     refine G_val rfl rfl rfl rfl (V_load1 rfl rfl (mem_at 1 rfl) rfl Try.underlying56 rfl) ?_
     refine G_val rfl rfl rfl rfl (V_len rfl rfl Try.underlying56 rfl) ?_
     refine G_val rfl rfl rfl rfl (V_eql rfl rfl rfl) ?_
     refine G_val rfl rfl rfl rfl (V_pickT rfl rfl rfl) ?_
     refine G_val rfl rfl rfl rfl (V_assign rfl rfl) ?_
     refine G_done ?_
     refine G_ret (post := []) Try.func22 rfl (RVs_cons (RV_tmp rfl) RVs_nil) [] rfl ?_
     dsimp only [packed]
     first
       | exact ⟨bool_eq (may_ff (by first | exact .inl (by omega) | exact .inr (.inl (by omega)) | exact .inr (.inr (.inl ⟨by omega, by assumption⟩)) | exact .inr (.inr (.inr (.inl ⟨by omega, by omega⟩))) | exact .inr (.inr (.inr (.inr (.inl ⟨by omega, by omega⟩)))) | exact .inr (.inr (.inr (.inr (.inr (.inl (by omega)))))) | exact .inr (.inr (.inr (.inr (.inr (.inr (.inl (by omega))))))) | exact .inr (.inr (.inr (.inr (.inr (.inr (.inr (.inl (by omega)))))))) | exact .inr (.inr (.inr (.inr (.inr (.inr (.inr (.inr (by assumption)))))))) | exact .inr (.inr (.inr (.inr (.inr (.inr (.inr (.inr (any_yes hx (by unfold badK; rw [decide_eq_true_eq]; omega))))))))))).symm, rfl⟩
       | exact ⟨bool_eq (dec_both (fun hz => (may_tt (by omega) (by omega) (by first | (intro hh; exfalso; omega) | (intro _; exact Classical.not_not.1 (by assumption)) | (intro _; assumption)) (by first | (intro hh; exfalso; omega) | (intro _; exact ⟨by omega, List.length_eq_zero_iff.1 (by omega)⟩)) (by omega) (by omega) (by first | exact any_end ht (by omega) | (rw [List.length_eq_zero_iff.1 (show m.v.ks.length = 0 by omega)]; rfl)))) (fun hz => may_ff (by first | exact .inl (by omega) | exact .inr (.inl (by omega)) | exact .inr (.inr (.inl ⟨by omega, by assumption⟩)) | exact .inr (.inr (.inr (.inl ⟨by omega, by omega⟩))) | exact .inr (.inr (.inr (.inr (.inl ⟨by omega, by omega⟩)))) | exact .inr (.inr (.inr (.inr (.inr (.inl (by omega)))))) | exact .inr (.inr (.inr (.inr (.inr (.inr (.inl (by omega))))))) | exact .inr (.inr (.inr (.inr (.inr (.inr (.inr (.inl (by omega)))))))) | exact .inr (.inr (.inr (.inr (.inr (.inr (.inr (.inr (by assumption)))))))) | exact .inr (.inr (.inr (.inr (.inr (.inr (.inr (.inr (any_yes hx (by unfold badK; rw [decide_eq_true_eq]; omega)))))))))))), rfl⟩
   refine G_off rfl rfl rfl rfl ?_
   refine G_off rfl rfl rfl rfl ?_
   refine G_off rfl rfl rfl rfl ?_
   refine G_off rfl rfl rfl rfl ?_
   refine G_val rfl rfl rfl rfl (V_pickF rfl rfl rfl) ?_
   refine G_val rfl rfl rfl rfl (V_assign rfl rfl) ?_
   refine G_done ?_
   refine G_ret (post := []) Try.func22 rfl (RVs_cons (RV_tmp rfl) RVs_nil) [] rfl ?_
   dsimp only [packed]
   first
     | exact ⟨bool_eq (may_ff (by first | exact .inl (by omega) | exact .inr (.inl (by omega)) | exact .inr (.inr (.inl ⟨by omega, by assumption⟩)) | exact .inr (.inr (.inr (.inl ⟨by omega, by omega⟩))) | exact .inr (.inr (.inr (.inr (.inl ⟨by omega, by omega⟩)))) | exact .inr (.inr (.inr (.inr (.inr (.inl (by omega)))))) | exact .inr (.inr (.inr (.inr (.inr (.inr (.inl (by omega))))))) | exact .inr (.inr (.inr (.inr (.inr (.inr (.inr (.inl (by omega)))))))) | exact .inr (.inr (.inr (.inr (.inr (.inr (.inr (.inr (by assumption)))))))) | exact .inr (.inr (.inr (.inr (.inr (.inr (.inr (.inr (any_yes hx (by unfold badK; rw [decide_eq_true_eq]; omega))))))))))).symm, rfl⟩
     | exact ⟨bool_eq (dec_both (fun hz => (may_tt (by omega) (by omega) (by first | (intro hh; exfalso; omega) | (intro _; exact Classical.not_not.1 (by assumption)) | (intro _; assumption)) (by first | (intro hh; exfalso; omega) | (intro _; exact ⟨by omega, List.length_eq_zero_iff.1 (by omega)⟩)) (by omega) (by omega) (by first | exact any_end ht (by omega) | (rw [List.length_eq_zero_iff.1 (show m.v.ks.length = 0 by omega)]; rfl)))) (fun hz => may_ff (by first | exact .inl (by omega) | exact .inr (.inl (by omega)) | exact .inr (.inr (.inl ⟨by omega, by assumption⟩)) | exact .inr (.inr (.inr (.inl ⟨by omega, by omega⟩))) | exact .inr (.inr (.inr (.inr (.inl ⟨by omega, by omega⟩)))) | exact .inr (.inr (.inr (.inr (.inr (.inl (by omega)))))) | exact .inr (.inr (.inr (.inr (.inr (.inr (.inl (by omega))))))) | exact .inr (.inr (.inr (.inr (.inr (.inr (.inr (.inl (by omega)))))))) | exact .inr (.inr (.inr (.inr (.inr (.inr (.inr (.inr (by assumption)))))))) | exact .inr (.inr (.inr (.inr (.inr (.inr (.inr (.inr (any_yes hx (by unfold badK; rw [decide_eq_true_eq]; omega)))))))))))), rfl⟩
 refine G_skip ?_
 refine G_seq ?_
 refine G_seq ?_
 refine G_region (l := [0]) rfl ?_
 refine G_val rfl rfl rfl rfl (V_assign rfl rfl) ?_
 refine G_done ?_
 refine G_block ?_
 refine G_sub ?he6 [0] ?hl6 (G_loop (X := Nat) (fun i => i ≤ m.v.ks.length ∧ (m.v.ks.take i).any badK = false) (fun i => m.v.ks.length - i) (fun i => [(1, .pointer (some ⟨b1, 0, none⟩)), (3, .int .i64 (i : Int))]) (fun i => [(some b1, .cells (evC m).toArray 58 (0, 0))]) ?round6 0 ?h06)
 case he6 => exact (And.intro rfl (And.intro rfl trivial))
 case hl6 => exact ⟨_, rfl⟩
 case h06 => exact ⟨Nat.zero_le _, rfl⟩
 case round6 =>
  intro i hJ ih
  try dsimp only at hJ ih
  obtain ⟨hi, ht⟩ := hJ
  refine G_seq ?_
  refine G_seq ?_
  refine G_region (l := [0, 1, 2, 3, 4]) rfl ?_
  refine G_val rfl rfl rfl rfl (V_move rfl rfl) ?_
  refine G_val rfl rfl rfl rfl (V_fieldAddr (fo := 4) rfl Try.underlying58 rfl infScriptW_56 rfl rfl rfl) ?_
  refine G_val rfl rfl rfl rfl (V_load1 rfl rfl (mem_at 1 rfl) rfl Try.underlying56 rfl) ?_
  refine G_val rfl rfl rfl rfl (V_len rfl rfl Try.underlying56 rfl) ?_
  refine G_val rfl rfl rfl rfl (V_lss rfl rfl rfl) ?_
  refine G_done ?_
  refine G_ifD rfl (fun hc6 => ?_) (fun hc6 => ?_)
  · skip
    refine G_skip ?_
    refine G_seq ?_
    refine G_block ?_
    refine G_seq ?_
    obtain ⟨x, hx⟩ := getI (show i < m.v.ks.length by omega)
    obtain ⟨kb, hse, hks, hkk⟩ := hm.at (show i < m.v.ks.length by omega)
    have hmem : (some kb, Obj.cells m.cs m.T m.fr) ∈ [evK m] := by rw [hkk]; exact List.mem_singleton.2 rfl
    refine G_region (l := [0, 1, 2, 3, 4, 5, 6]) rfl ?_
    refine G_val rfl rfl rfl rfl (V_fieldAddr (fo := 4) rfl Try.underlying58 rfl infScriptW_56 rfl rfl rfl) ?_
    refine G_val rfl rfl rfl rfl (V_load1 rfl rfl (mem_at 1 rfl) rfl Try.underlying56 rfl) ?_
    rw [hse]
    refine G_val rfl rfl rfl rfl (V_move rfl rfl) ?_
    first
      | refine G_val rfl rfl rfl rfl (V_indexAddrN (s := 2) rfl Try.underlying56 infScriptW_151 rfl rfl rfl rfl (by omega)) ?_
      | refine G_val rfl rfl rfl rfl (V_indexAddr (s := 2) rfl Try.underlying56 infScriptW_151 rfl rfl rfl (by omega) (by first | omega | (simp [evC, evV, kC]; done) | (simp [evC, evV, kC]; omega) | (simp [evC, evV, kC] at *; omega))) ?_
    refine G_val rfl rfl rfl rfl (V_loadA (s := 2) (vs := (kC x).toArray) rfl rfl (List.mem_append_left _ hmem) Try.underlying151 rfl infScriptW_151 rfl (hks.elem kC_len hx) (by first | rfl | (simp [bcells_length, evC, evV, kC]; done) | (simp [bcells_length, evC, evV, kC]; omega) | (simp [bcells_length, *, evC, evV, kC]; done))) ?_
    refine G_new rfl rfl rfl rfl (N_allocA rfl infScriptW_151 rfl) (fun b4 => ?_)
    refine G_put (l1 := []) (L' := [_, _]) rfl rfl rfl rfl (P_storeA (s := 2) rfl rfl rfl (mem_at 0 rfl) (by first | rfl | (simp [bcells_length, evC, evV, kC]; done) | (simp [bcells_length, evC, evV, kC]; omega) | (simp [bcells_length, *, evC, evV, kC]; done)) infScriptW_151 rfl (by first | rfl | (simp [bcells_length, evC, evV, kC]; done) | (simp [bcells_length, evC, evV, kC]; omega) | (simp [bcells_length, *, evC, evV, kC]; done)) (by first | rfl | exact bcells_all _ | (simp [Value.oneCell', evC, evV, kC]; done) | (simp [Value.oneCell', *, evC, evV, kC]; done))) rfl ?_
    refine G_done ?_
    refine G_seq ?_
    refine G_region (l := [0, 1, 2, 3, 4, 5, 6, 7, 8, 9, 10, 11, 12, 13, 14, 15, 16, 17]) rfl ?_
    refine G_val rfl rfl rfl rfl (V_fieldAddr (fo := 0) rfl Try.underlying151 rfl infScriptW_3 rfl rfl rfl) ?_
    refine G_val rfl rfl rfl rfl (V_load1 rfl rfl (mem_at 1 rfl) rfl Try.underlying3 rfl) ?_
    refine G_val rfl rfl rfl rfl (V_lss rfl rfl rfl) ?_
    refine G_val rfl rfl rfl rfl (V_move rfl rfl) ?_
    refine G_splitD 56 rfl (fun hc7 => ?_) (fun hc7 => ?_)
    · skip
      refine G_off rfl rfl rfl rfl ?_
      refine G_off rfl rfl rfl rfl ?_
      refine G_off rfl rfl rfl rfl ?_
      refine G_val rfl rfl rfl rfl (V_pickT rfl rfl rfl) ?_
      refine G_val rfl rfl rfl rfl (V_move rfl rfl) ?_
      refine G_off rfl rfl rfl rfl ?_
      refine G_off rfl rfl rfl rfl ?_
      refine G_off rfl rfl rfl rfl ?_
      refine G_val rfl rfl rfl rfl (V_pickT rfl rfl rfl) ?_
      refine G_val rfl rfl rfl rfl (V_move rfl rfl) ?_
      refine G_off rfl rfl rfl rfl ?_
      refine G_off rfl rfl rfl rfl ?_
      refine G_off rfl rfl rfl rfl ?_
      refine G_val rfl rfl rfl rfl (V_pickT rfl rfl rfl) ?_
      refine G_done ?_
      refine G_then rfl ?_
      refine G_seq ?_
      refine G_region (l := [0]) rfl ?_
      refine G_val rfl rfl rfl rfl (V_assign rfl rfl) ?_
      refine G_done ?_
      refine G_ret (post := []) Try.func22 rfl (RVs_cons (RV_tmp rfl) RVs_nil) [] rfl ?_
      dsimp only [packed]
      first
        | exact ⟨bool_eq (may_ff (by first | exact .inl (by omega) | exact .inr (.inl (by omega)) | exact .inr (.inr (.inl ⟨by omega, by assumption⟩)) | exact .inr (.inr (.inr (.inl ⟨by omega, by omega⟩))) | exact .inr (.inr (.inr (.inr (.inl ⟨by omega, by omega⟩)))) | exact .inr (.inr (.inr (.inr (.inr (.inl (by omega)))))) | exact .inr (.inr (.inr (.inr (.inr (.inr (.inl (by omega))))))) | exact .inr (.inr (.inr (.inr (.inr (.inr (.inr (.inl (by omega)))))))) | exact .inr (.inr (.inr (.inr (.inr (.inr (.inr (.inr (by assumption)))))))) | exact .inr (.inr (.inr (.inr (.inr (.inr (.inr (.inr (any_yes hx (by unfold badK; rw [decide_eq_true_eq]; omega))))))))))).symm, rfl⟩
        | exact ⟨bool_eq (dec_both (fun hz => (may_tt (by omega) (by omega) (by first | (intro hh; exfalso; omega) | (intro _; exact Classical.not_not.1 (by assumption)) | (intro _; assumption)) (by first | (intro hh; exfalso; omega) | (intro _; exact ⟨by omega, List.length_eq_zero_iff.1 (by omega)⟩)) (by omega) (by omega) (by first | exact any_end ht (by omega) | (rw [List.length_eq_zero_iff.1 (show m.v.ks.length = 0 by omega)]; rfl)))) (fun hz => may_ff (by first | exact .inl (by omega) | exact .inr (.inl (by omega)) | exact .inr (.inr (.inl ⟨by omega, by assumption⟩)) | exact .inr (.inr (.inr (.inl ⟨by omega, by omega⟩))) | exact .inr (.inr (.inr (.inr (.inl ⟨by omega, by omega⟩)))) | exact .inr (.inr (.inr (.inr (.inr (.inl (by omega)))))) | exact .inr (.inr (.inr (.inr (.inr (.inr (.inl (by omega))))))) | exact .inr (.inr (.inr (.inr (.inr (.inr (.inr (.inl (by omega)))))))) | exact .inr (.inr (.inr (.inr (.inr (.inr (.inr (.inr (by assumption)))))))) | exact .inr (.inr (.inr (.inr (.inr (.inr (.inr (.inr (any_yes hx (by unfold badK; rw [decide_eq_true_eq]; omega)))))))))))), rfl⟩
    refine G_val rfl rfl rfl rfl (V_fieldAddr (fo := 0) rfl Try.underlying151 rfl infScriptW_3 rfl rfl rfl) ?_
    refine G_val rfl rfl rfl rfl (V_load1 rfl rfl (mem_at 1 rfl) rfl Try.underlying3 rfl) ?_
    refine G_val rfl rfl rfl rfl (V_gtr rfl rfl rfl) ?_
    refine G_val rfl rfl rfl rfl (V_pickF rfl rfl rfl) ?_
    refine G_val rfl rfl rfl rfl (V_move rfl rfl) ?_
    refine G_splitD 61 rfl (fun hc8 => ?_) (fun hc8 => ?_)
    · skip
      refine G_off rfl rfl rfl rfl ?_
      refine G_off rfl rfl rfl rfl ?_
      refine G_off rfl rfl rfl rfl ?_
      refine G_val rfl rfl rfl rfl (V_pickT rfl rfl rfl) ?_
      refine G_val rfl rfl rfl rfl (V_move rfl rfl) ?_
      refine G_off rfl rfl rfl rfl ?_
      refine G_off rfl rfl rfl rfl ?_
      refine G_off rfl rfl rfl rfl ?_
      refine G_val rfl rfl rfl rfl (V_pickT rfl rfl rfl) ?_
      refine G_done ?_
      refine G_then rfl ?_
      refine G_seq ?_
      refine G_region (l := [0]) rfl ?_
      refine G_val rfl rfl rfl rfl (V_assign rfl rfl) ?_
      refine G_done ?_
      refine G_ret (post := []) Try.func22 rfl (RVs_cons (RV_tmp rfl) RVs_nil) [] rfl ?_
      dsimp only [packed]
      first
        | exact ⟨bool_eq (may_ff (by first | exact .inl (by omega) | exact .inr (.inl (by omega)) | exact .inr (.inr (.inl ⟨by omega, by assumption⟩)) | exact .inr (.inr (.inr (.inl ⟨by omega, by omega⟩))) | exact .inr (.inr (.inr (.inr (.inl ⟨by omega, by omega⟩)))) | exact .inr (.inr (.inr (.inr (.inr (.inl (by omega)))))) | exact .inr (.inr (.inr (.inr (.inr (.inr (.inl (by omega))))))) | exact .inr (.inr (.inr (.inr (.inr (.inr (.inr (.inl (by omega)))))))) | exact .inr (.inr (.inr (.inr (.inr (.inr (.inr (.inr (by assumption)))))))) | exact .inr (.inr (.inr (.inr (.inr (.inr (.inr (.inr (any_yes hx (by unfold badK; rw [decide_eq_true_eq]; omega))))))))))).symm, rfl⟩
        | exact ⟨bool_eq (dec_both (fun hz => (may_tt (by omega) (by omega) (by first | (intro hh; exfalso; omega) | (intro _; exact Classical.not_not.1 (by assumption)) | (intro _; assumption)) (by first | (intro hh; exfalso; omega) | (intro _; exact ⟨by omega, List.length_eq_zero_iff.1 (by omega)⟩)) (by omega) (by omega) (by first | exact any_end ht (by omega) | (rw [List.length_eq_zero_iff.1 (show m.v.ks.length = 0 by omega)]; rfl)))) (fun hz => may_ff (by first | exact .inl (by omega) | exact .inr (.inl (by omega)) | exact .inr (.inr (.inl ⟨by omega, by assumption⟩)) | exact .inr (.inr (.inr (.inl ⟨by omega, by omega⟩))) | exact .inr (.inr (.inr (.inr (.inl ⟨by omega, by omega⟩)))) | exact .inr (.inr (.inr (.inr (.inr (.inl (by omega)))))) | exact .inr (.inr (.inr (.inr (.inr (.inr (.inl (by omega))))))) | exact .inr (.inr (.inr (.inr (.inr (.inr (.inr (.inl (by omega)))))))) | exact .inr (.inr (.inr (.inr (.inr (.inr (.inr (.inr (by assumption)))))))) | exact .inr (.inr (.inr (.inr (.inr (.inr (.inr (.inr (any_yes hx (by unfold badK; rw [decide_eq_true_eq]; omega)))))))))))), rfl⟩
    refine G_val rfl rfl rfl rfl (V_fieldAddr (fo := 1) rfl Try.underlying151 rfl infScriptW_3 rfl rfl rfl) ?_
    refine G_val rfl rfl rfl rfl (V_load1 rfl rfl (mem_at 1 rfl) rfl Try.underlying3 rfl) ?_
    refine G_val rfl rfl rfl rfl (V_lss rfl rfl rfl) ?_
    refine G_val rfl rfl rfl rfl (V_pickF rfl rfl rfl) ?_
    refine G_val rfl rfl rfl rfl (V_move rfl rfl) ?_
    refine G_splitD 66 rfl (fun hc9 => ?_) (fun hc9 => ?_)
    · skip
      refine G_off rfl rfl rfl rfl ?_
      refine G_off rfl rfl rfl rfl ?_
      refine G_off rfl rfl rfl rfl ?_
      refine G_val rfl rfl rfl rfl (V_pickT rfl rfl rfl) ?_
      refine G_done ?_
      refine G_then rfl ?_
      refine G_seq ?_
      refine G_region (l := [0]) rfl ?_
      refine G_val rfl rfl rfl rfl (V_assign rfl rfl) ?_
      refine G_done ?_
      refine G_ret (post := []) Try.func22 rfl (RVs_cons (RV_tmp rfl) RVs_nil) [] rfl ?_
      dsimp only [packed]
      first
        | exact ⟨bool_eq (may_ff (by first | exact .inl (by omega) | exact .inr (.inl (by omega)) | exact .inr (.inr (.inl ⟨by omega, by assumption⟩)) | exact .inr (.inr (.inr (.inl ⟨by omega, by omega⟩))) | exact .inr (.inr (.inr (.inr (.inl ⟨by omega, by omega⟩)))) | exact .inr (.inr (.inr (.inr (.inr (.inl (by omega)))))) | exact .inr (.inr (.inr (.inr (.inr (.inr (.inl (by omega))))))) | exact .inr (.inr (.inr (.inr (.inr (.inr (.inr (.inl (by omega)))))))) | exact .inr (.inr (.inr (.inr (.inr (.inr (.inr (.inr (by assumption)))))))) | exact .inr (.inr (.inr (.inr (.inr (.inr (.inr (.inr (any_yes hx (by unfold badK; rw [decide_eq_true_eq]; omega))))))))))).symm, rfl⟩
        | exact ⟨bool_eq (dec_both (fun hz => (may_tt (by omega) (by omega) (by first | (intro hh; exfalso; omega) | (intro _; exact Classical.not_not.1 (by assumption)) | (intro _; assumption)) (by first | (intro hh; exfalso; omega) | (intro _; exact ⟨by omega, List.length_eq_zero_iff.1 (by omega)⟩)) (by omega) (by omega) (by first | exact any_end ht (by omega) | (rw [List.length_eq_zero_iff.1 (show m.v.ks.length = 0 by omega)]; rfl)))) (fun hz => may_ff (by first | exact .inl (by omega) | exact .inr (.inl (by omega)) | exact .inr (.inr (.inl ⟨by omega, by assumption⟩)) | exact .inr (.inr (.inr (.inl ⟨by omega, by omega⟩))) | exact .inr (.inr (.inr (.inr (.inl ⟨by omega, by omega⟩)))) | exact .inr (.inr (.inr (.inr (.inr (.inl (by omega)))))) | exact .inr (.inr (.inr (.inr (.inr (.inr (.inl (by omega))))))) | exact .inr (.inr (.inr (.inr (.inr (.inr (.inr (.inl (by omega)))))))) | exact .inr (.inr (.inr (.inr (.inr (.inr (.inr (.inr (by assumption)))))))) | exact .inr (.inr (.inr (.inr (.inr (.inr (.inr (.inr (any_yes hx (by unfold badK; rw [decide_eq_true_eq]; omega)))))))))))), rfl⟩
    refine G_val rfl rfl rfl rfl (V_fieldAddr (fo := 1) rfl Try.underlying151 rfl infScriptW_3 rfl rfl rfl) ?_
    refine G_val rfl rfl rfl rfl (V_load1 rfl rfl (mem_at 1 rfl) rfl Try.underlying3 rfl) ?_
    refine G_val rfl rfl rfl rfl (V_gtr rfl rfl rfl) ?_
    refine G_val rfl rfl rfl rfl (V_pickF rfl rfl rfl) ?_
    refine G_done ?_
    refine G_ifD rfl (fun hc10 => ?_) (fun hc10 => ?_)
    · skip
      refine G_seq ?_
      refine G_region (l := [0]) rfl ?_
      refine G_val rfl rfl rfl rfl (V_assign rfl rfl) ?_
      refine G_done ?_
      refine G_ret (post := []) Try.func22 rfl (RVs_cons (RV_tmp rfl) RVs_nil) [] rfl ?_
      dsimp only [packed]
      first
        | exact ⟨bool_eq (may_ff (by first | exact .inl (by omega) | exact .inr (.inl (by omega)) | exact .inr (.inr (.inl ⟨by omega, by assumption⟩)) | exact .inr (.inr (.inr (.inl ⟨by omega, by omega⟩))) | exact .inr (.inr (.inr (.inr (.inl ⟨by omega, by omega⟩)))) | exact .inr (.inr (.inr (.inr (.inr (.inl (by omega)))))) | exact .inr (.inr (.inr (.inr (.inr (.inr (.inl (by omega))))))) | exact .inr (.inr (.inr (.inr (.inr (.inr (.inr (.inl (by omega)))))))) | exact .inr (.inr (.inr (.inr (.inr (.inr (.inr (.inr (by assumption)))))))) | exact .inr (.inr (.inr (.inr (.inr (.inr (.inr (.inr (any_yes hx (by unfold badK; rw [decide_eq_true_eq]; omega))))))))))).symm, rfl⟩
        | exact ⟨bool_eq (dec_both (fun hz => (may_tt (by omega) (by omega) (by first | (intro hh; exfalso; omega) | (intro _; exact Classical.not_not.1 (by assumption)) | (intro _; assumption)) (by first | (intro hh; exfalso; omega) | (intro _; exact ⟨by omega, List.length_eq_zero_iff.1 (by omega)⟩)) (by omega) (by omega) (by first | exact any_end ht (by omega) | (rw [List.length_eq_zero_iff.1 (show m.v.ks.length = 0 by omega)]; rfl)))) (fun hz => may_ff (by first | exact .inl (by omega) | exact .inr (.inl (by omega)) | exact .inr (.inr (.inl ⟨by omega, by assumption⟩)) | exact .inr (.inr (.inr (.inl ⟨by omega, by omega⟩))) | exact .inr (.inr (.inr (.inr (.inl ⟨by omega, by omega⟩)))) | exact .inr (.inr (.inr (.inr (.inr (.inl (by omega)))))) | exact .inr (.inr (.inr (.inr (.inr (.inr (.inl (by omega))))))) | exact .inr (.inr (.inr (.inr (.inr (.inr (.inr (.inl (by omega)))))))) | exact .inr (.inr (.inr (.inr (.inr (.inr (.inr (.inr (by assumption)))))))) | exact .inr (.inr (.inr (.inr (.inr (.inr (.inr (.inr (any_yes hx (by unfold badK; rw [decide_eq_true_eq]; omega)))))))))))), rfl⟩
    refine G_skip ?_
    refine G_inBlock ?_
    refine G_region (l := [0, 1, 2]) rfl ?_
    refine G_val rfl rfl rfl rfl (V_move rfl rfl) ?_
    first
      | refine G_val rfl rfl rfl rfl ((V_add rfl rfl rfl).int (wrap_i64 (by omega))) ?_
      | refine G_val rfl rfl rfl rfl (V_add rfl rfl rfl) ?_
    refine G_val rfl rfl rfl rfl (V_assign rfl rfl) ?_
    refine G_done ?_
    refine G_sub ?_ [1] ?_ (ih (i + 1) ?_ ?_)
    · (refine (And.intro ?_ (And.intro ?_ trivial)) <;> first | rfl | exact slot_int (by omega) | exact slot_int (by simp))
    · exact ⟨_, rfl⟩
    · exact ⟨by omega, any_next ht hx (by unfold badK; rw [decide_eq_false_iff_not]; omega)⟩
    · (first | omega | (dsimp only; omega))
  refine G_exit rfl ?_
  refine G_seq ?_
  refine G_region (l := [0, 1, 2, 3, 4, 5, 6, 7, 8, 9, 10, 11, 12, 13, 14]) rfl ?_
  refine G_val rfl rfl rfl rfl (V_fieldAddr (fo := 3) rfl Try.underlying58 rfl infScriptW_3 rfl rfl rfl) ?_
  refine G_val rfl rfl rfl rfl (V_load1 rfl rfl (mem_at 1 rfl) rfl Try.underlying3 rfl) ?_
  refine G_val rfl rfl rfl rfl (V_geq rfl rfl rfl) ?_
  refine G_val rfl rfl rfl rfl (V_move rfl rfl) ?_
  refine G_splitD 74 rfl (fun hc7 => ?_) (fun hc7 => ?_)
  · skip
    refine G_val rfl rfl rfl rfl (V_fieldAddr (fo := 3) rfl Try.underlying58 rfl infScriptW_3 rfl rfl rfl) ?_
    refine G_val rfl rfl rfl rfl (V_load1 rfl rfl (mem_at 1 rfl) rfl Try.underlying3 rfl) ?_
    refine G_val rfl rfl rfl rfl (V_lss rfl rfl rfl) ?_
    refine G_val rfl rfl rfl rfl (V_pickT rfl rfl rfl) ?_
    refine G_val rfl rfl rfl rfl (V_move rfl rfl) ?_
    refine G_splitD 79 rfl (fun hc8 => ?_) (fun hc8 => ?_)
    · skip
      refine G_val rfl rfl rfl rfl (V_fieldAddr (fo := 4) rfl Try.underlying58 rfl infScriptW_56 rfl rfl rfl) ?_
      refine G_val rfl rfl rfl rfl (V_load1 rfl rfl (mem_at 1 rfl) rfl Try.underlying56 rfl) ?_
      refine G_val rfl rfl rfl rfl (V_len rfl rfl Try.underlying56 rfl) ?_
      refine G_val rfl rfl rfl rfl (V_leq rfl rfl rfl) ?_
      refine G_val rfl rfl rfl rfl (V_pickT rfl rfl rfl) ?_
      refine G_val rfl rfl rfl rfl (V_assign rfl rfl) ?_
      refine G_done ?_
      refine G_ret (post := []) Try.func22 rfl (RVs_cons (RV_tmp rfl) RVs_nil) [] rfl ?_
      dsimp only [packed]
      first
        | exact ⟨bool_eq (may_ff (by first | exact .inl (by omega) | exact .inr (.inl (by omega)) | exact .inr (.inr (.inl ⟨by omega, by assumption⟩)) | exact .inr (.inr (.inr (.inl ⟨by omega, by omega⟩))) | exact .inr (.inr (.inr (.inr (.inl ⟨by omega, by omega⟩)))) | exact .inr (.inr (.inr (.inr (.inr (.inl (by omega)))))) | exact .inr (.inr (.inr (.inr (.inr (.inr (.inl (by omega))))))) | exact .inr (.inr (.inr (.inr (.inr (.inr (.inr (.inl (by omega)))))))) | exact .inr (.inr (.inr (.inr (.inr (.inr (.inr (.inr (by assumption)))))))) | exact .inr (.inr (.inr (.inr (.inr (.inr (.inr (.inr (any_yes hx (by unfold badK; rw [decide_eq_true_eq]; omega))))))))))).symm, rfl⟩
        | exact ⟨bool_eq (dec_both (fun hz => (may_tt (by omega) (by omega) (by first | (intro hh; exfalso; omega) | (intro _; exact Classical.not_not.1 (by assumption)) | (intro _; assumption)) (by first | (intro hh; exfalso; omega) | (intro _; exact ⟨by omega, List.length_eq_zero_iff.1 (by omega)⟩)) (by omega) (by omega) (by first | exact any_end ht (by omega) | (rw [List.length_eq_zero_iff.1 (show m.v.ks.length = 0 by omega)]; rfl)))) (fun hz => may_ff (by first | exact .inl (by omega) | exact .inr (.inl (by omega)) | exact .inr (.inr (.inl ⟨by omega, by assumption⟩)) | exact .inr (.inr (.inr (.inl ⟨by omega, by omega⟩))) | exact .inr (.inr (.inr (.inr (.inl ⟨by omega, by omega⟩)))) | exact .inr (.inr (.inr (.inr (.inr (.inl (by omega)))))) | exact .inr (.inr (.inr (.inr (.inr (.inr (.inl (by omega))))))) | exact .inr (.inr (.inr (.inr (.inr (.inr (.inr (.inl (by omega)))))))) | exact .inr (.inr (.inr (.inr (.inr (.inr (.inr (.inr (by assumption)))))))) | exact .inr (.inr (.inr (.inr (.inr (.inr (.inr (.inr (any_yes hx (by unfold badK; rw [decide_eq_true_eq]; omega)))))))))))), rfl⟩
    refine G_off rfl rfl rfl rfl ?_
    refine G_off rfl rfl rfl rfl ?_
    refine G_off rfl rfl rfl rfl ?_
    refine G_off rfl rfl rfl rfl ?_
    refine G_val rfl rfl rfl rfl (V_pickF rfl rfl rfl) ?_
    refine G_val rfl rfl rfl rfl (V_assign rfl rfl) ?_
    refine G_done ?_
    refine G_ret (post := []) Try.func22 rfl (RVs_cons (RV_tmp rfl) RVs_nil) [] rfl ?_
    dsimp only [packed]
    first
      | exact ⟨bool_eq (may_ff (by first | exact .inl (by omega) | exact .inr (.inl (by omega)) | exact .inr (.inr (.inl ⟨by omega, by assumption⟩)) | exact .inr (.inr (.inr (.inl ⟨by omega, by omega⟩))) | exact .inr (.inr (.inr (.inr (.inl ⟨by omega, by omega⟩)))) | exact .inr (.inr (.inr (.inr (.inr (.inl (by omega)))))) | exact .inr (.inr (.inr (.inr (.inr (.inr (.inl (by omega))))))) | exact .inr (.inr (.inr (.inr (.inr (.inr (.inr (.inl (by omega)))))))) | exact .inr (.inr (.inr (.inr (.inr (.inr (.inr (.inr (by assumption)))))))) | exact .inr (.inr (.inr (.inr (.inr (.inr (.inr (.inr (any_yes hx (by unfold badK; rw [decide_eq_true_eq]; omega))))))))))).symm, rfl⟩
      | exact ⟨bool_eq (dec_both (fun hz => (may_tt (by omega) (by omega) (by first | (intro hh; exfalso; omega) | (intro _; exact Classical.not_not.1 (by assumption)) | (intro _; assumption)) (by first | (intro hh; exfalso; omega) | (intro _; exact ⟨by omega, List.length_eq_zero_iff.1 (by omega)⟩)) (by omega) (by omega) (by first | exact any_end ht (by omega) | (rw [List.length_eq_zero_iff.1 (show m.v.ks.length = 0 by omega)]; rfl)))) (fun hz => may_ff (by first | exact .inl (by omega) | exact .inr (.inl (by omega)) | exact .inr (.inr (.inl ⟨by omega, by assumption⟩)) | exact .inr (.inr (.inr (.inl ⟨by omega, by omega⟩))) | exact .inr (.inr (.inr (.inr (.inl ⟨by omega, by omega⟩)))) | exact .inr (.inr (.inr (.inr (.inr (.inl (by omega)))))) | exact .inr (.inr (.inr (.inr (.inr (.inr (.inl (by omega))))))) | exact .inr (.inr (.inr (.inr (.inr (.inr (.inr (.inl (by omega)))))))) | exact .inr (.inr (.inr (.inr (.inr (.inr (.inr (.inr (by assumption)))))))) | exact .inr (.inr (.inr (.inr (.inr (.inr (.inr (.inr (any_yes hx (by unfold badK; rw [decide_eq_true_eq]; omega)))))))))))), rfl⟩
  refine G_off rfl rfl rfl rfl ?_
  refine G_off rfl rfl rfl rfl ?_
  refine G_off rfl rfl rfl rfl ?_
  refine G_val rfl rfl rfl rfl (V_pickF rfl rfl rfl) ?_
  refine G_val rfl rfl rfl rfl (V_move rfl rfl) ?_
  refine G_off rfl rfl rfl rfl ?_
  refine G_off rfl rfl rfl rfl ?_
  refine G_off rfl rfl rfl rfl ?_
  refine G_off rfl rfl rfl rfl ?_
  refine G_val rfl rfl rfl rfl (V_pickF rfl rfl rfl) ?_
  refine G_val rfl rfl rfl rfl (V_assign rfl rfl) ?_
  refine G_done ?_
  refine G_ret (post := []) Try.func22 rfl (RVs_cons (RV_tmp rfl) RVs_nil) [] rfl ?_
  dsimp only [packed]
  first
    | exact ⟨bool_eq (may_ff (by first | exact .inl (by omega) | exact .inr (.inl (by omega)) | exact .inr (.inr (.inl ⟨by omega, by assumption⟩)) | exact .inr (.inr (.inr (.inl ⟨by omega, by omega⟩))) | exact .inr (.inr (.inr (.inr (.inl ⟨by omega, by omega⟩)))) | exact .inr (.inr (.inr (.inr (.inr (.inl (by omega)))))) | exact .inr (.inr (.inr (.inr (.inr (.inr (.inl (by omega))))))) | exact .inr (.inr (.inr (.inr (.inr (.inr (.inr (.inl (by omega)))))))) | exact .inr (.inr (.inr (.inr (.inr (.inr (.inr (.inr (by assumption)))))))) | exact .inr (.inr (.inr (.inr (.inr (.inr (.inr (.inr (any_yes hx (by unfold badK; rw [decide_eq_true_eq]; omega))))))))))).symm, rfl⟩
    | exact ⟨bool_eq (dec_both (fun hz => (may_tt (by omega) (by omega) (by first | (intro hh; exfalso; omega) | (intro _; exact Classical.not_not.1 (by assumption)) | (intro _; assumption)) (by first | (intro hh; exfalso; omega) | (intro _; exact ⟨by omega, List.length_eq_zero_iff.1 (by omega)⟩)) (by omega) (by omega) (by first | exact any_end ht (by omega) | (rw [List.length_eq_zero_iff.1 (show m.v.ks.length = 0 by omega)]; rfl)))) (fun hz => may_ff (by first | exact .inl (by omega) | exact .inr (.inl (by omega)) | exact .inr (.inr (.inl ⟨by omega, by assumption⟩)) | exact .inr (.inr (.inr (.inl ⟨by omega, by omega⟩))) | exact .inr (.inr (.inr (.inr (.inl ⟨by omega, by omega⟩)))) | exact .inr (.inr (.inr (.inr (.inr (.inl (by omega)))))) | exact .inr (.inr (.inr (.inr (.inr (.inr (.inl (by omega))))))) | exact .inr (.inr (.inr (.inr (.inr (.inr (.inr (.inl (by omega)))))))) | exact .inr (.inr (.inr (.inr (.inr (.inr (.inr (.inr (by assumption)))))))) | exact .inr (.inr (.inr (.inr (.inr (.inr (.inr (.inr (any_yes hx (by unfold badK; rw [decide_eq_true_eq]; omega)))))))))))), rfl⟩

end
end Go.Proofs.Ytkekkalgebgokaa
