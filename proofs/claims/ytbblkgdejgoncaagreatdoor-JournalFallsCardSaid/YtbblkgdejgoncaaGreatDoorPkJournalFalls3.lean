/- What the law JournalFalls needs, part 3. -/
import Derived.Test.YtbblkgdejgoncaaGreatDoorPkJournalFalls1
import Derived.Test.YtbblkgdejgoncaaGreatDoorPkJournalFalls2


/- The walks of layer 22: disks. -/
set_option linter.unusedSimpArgs false
set_option linter.unusedVariables false
namespace Go.Proofs.YtbblkgdejgoncaaGreatDoor
open Go Go.RowKit

section
theorem infDiskW_3 : Tryz.prog.info? 3 = some Tryz.t3 := by kernel_rfl
theorem infDiskW_4 : Tryz.prog.info? 4 = some Tryz.t4 := by kernel_rfl
theorem infDiskW_9 : Tryz.prog.info? 9 = some Tryz.t9 := by kernel_rfl
theorem infDiskW_34 : Tryz.prog.info? 34 = some Tryz.t34 := by kernel_rfl
theorem infDiskW_65 : Tryz.prog.info? 65 = some Tryz.t65 := by kernel_rfl
theorem infDiskW_90 : Tryz.prog.info? 90 = some Tryz.t90 := by kernel_rfl

set_option maxRecDepth 100000 in
set_option maxHeartbeats 1000000 in
theorem dk_spent (d : Nat) (s1 s2 : Value) (f : Int) (dd : Bool) (hf : -1 ≤ f ∧ f ≤ 9223372036854775807) :
    Ct Tryz.prog 65 [.pointer (some ⟨d, 0, none⟩)] [] [(some d, .cells #[s1, s2, .int .i64 f, .bool dd] 67 (0, 0))] fun v post => v = .bool (spD f dd) ∧ post = [(some d, .cells #[s1, s2, .int .i64 (spF f dd), .bool (spD f dd)] 67 (0, 0))] := by
 obtain ⟨hf0, hf1⟩ := hf
 refine ct_of Tryz.func65 rfl rfl (fun w0 => ?_)
 show G _ _ [(0, _)] _ _
 refine G_seq ?_
 refine G_region (l := [0]) rfl ?_
 refine G_val rfl rfl rfl rfl (V_assign rfl rfl) ?_
 refine G_done ?_
 refine G_seq ?_
 refine G_block ?_
 refine G_seq ?_
 cases dd
 ·
  refine G_region (l := [0, 1, 2, 3, 4]) rfl ?_
  refine G_val rfl rfl rfl rfl (V_move rfl rfl) ?_
  refine G_val rfl rfl rfl rfl (V_nilCheck rfl rfl) ?_
  refine G_val rfl rfl rfl rfl (V_fieldAddr (fo := 3) rfl Tryz.underlying67 rfl infDiskW_4 rfl rfl rfl) ?_
  refine G_val rfl rfl rfl rfl (V_load1 rfl rfl (mem_at 0 rfl) rfl Tryz.underlying4 rfl) ?_
  refine G_val rfl rfl rfl rfl (V_assign rfl rfl) ?_
  refine G_done ?_
  refine G_if rfl (fun hc1 => ?_) (fun hc1 => ?_)
  · (first | (exact absurd rfl hc1) | (exact absurd hc1 (by decide)) | (exfalso; omega))
  refine G_seq ?_
  refine G_region (l := [0, 1, 2, 3, 4, 5]) rfl ?_
  refine G_val rfl rfl rfl rfl (V_move rfl rfl) ?_
  refine G_val rfl rfl rfl rfl (V_nilCheck rfl rfl) ?_
  refine G_val rfl rfl rfl rfl (V_fieldAddr (fo := 2) rfl Tryz.underlying67 rfl infDiskW_3 rfl rfl rfl) ?_
  refine G_val rfl rfl rfl rfl (V_load1 rfl rfl (mem_at 0 rfl) rfl Tryz.underlying3 rfl) ?_
  refine G_val rfl rfl rfl rfl (V_eql rfl rfl rfl) ?_
  refine G_val rfl rfl rfl rfl (V_assign rfl rfl) ?_
  refine G_done ?_
  refine G_ifD rfl (fun hc2 => ?_) (fun hc2 => ?_)
  ·
   refine G_region (l := [0, 1, 2, 3]) rfl ?_
   refine G_val rfl rfl rfl rfl (V_move rfl rfl) ?_
   refine G_val rfl rfl rfl rfl (V_nilCheck rfl rfl) ?_
   refine G_val rfl rfl rfl rfl (V_fieldAddr (fo := 3) rfl Tryz.underlying67 rfl infDiskW_4 rfl rfl rfl) ?_
   refine G_put (l1 := []) (L' := [_]) rfl rfl rfl rfl (P_store1 rfl rfl rfl (mem_at 0 rfl) (by first | exact of_decide_eq_true rfl | omega | (simp [wCells, kCells]; done) | (simp [wCells, kCells]; omega) | (simp [wCells, kCells] at *; omega)) infDiskW_4 rfl rfl) rfl ?_
   refine G_done ?_
   refine G_inBlock ?_
   refine G_seq ?_
   refine G_region (l := [0, 1, 2, 3, 4]) rfl ?_
   refine G_val rfl rfl rfl rfl (V_move rfl rfl) ?_
   refine G_val rfl rfl rfl rfl (V_nilCheck rfl rfl) ?_
   refine G_val rfl rfl rfl rfl (V_fieldAddr (fo := 3) rfl Tryz.underlying67 rfl infDiskW_4 rfl rfl rfl) ?_
   refine G_val rfl rfl rfl rfl (V_load1 rfl rfl (mem_at 0 rfl) rfl Tryz.underlying4 rfl) ?_
   refine G_val rfl rfl rfl rfl (V_assign rfl rfl) ?_
   refine G_done ?_
   refine G_ret (post := [_]) Tryz.func65 rfl (RVs_cons (RV_tmp rfl) RVs_nil) [0] rfl ?_
   dsimp only [packed]
   first
     | (rw [show spD f true = true from rfl, show spF f true = f from rfl]; exact ⟨rfl, rfl⟩)
     | (rw [show spD f false = true by simp [spD, *], show spF f false = f by simp [spF, *]]; exact ⟨rfl, rfl⟩)
     | (rw [show spD f false = false by simp [spD]; omega, show spF f false = f - 1 by simp [spF]; omega]; exact ⟨rfl, rfl⟩)
     | (rw [show spD f false = false by simp [spD]; omega, show spF f false = f by simp [spF]; omega]; exact ⟨rfl, rfl⟩)
  refine G_seq ?_
  refine G_region (l := [0, 1, 2, 3, 4, 5]) rfl ?_
  refine G_val rfl rfl rfl rfl (V_move rfl rfl) ?_
  refine G_val rfl rfl rfl rfl (V_nilCheck rfl rfl) ?_
  refine G_val rfl rfl rfl rfl (V_fieldAddr (fo := 2) rfl Tryz.underlying67 rfl infDiskW_3 rfl rfl rfl) ?_
  refine G_val rfl rfl rfl rfl (V_load1 rfl rfl (mem_at 0 rfl) rfl Tryz.underlying3 rfl) ?_
  refine G_val rfl rfl rfl rfl (V_gtr rfl rfl rfl) ?_
  refine G_val rfl rfl rfl rfl (V_assign rfl rfl) ?_
  refine G_done ?_
  refine G_ifD rfl (fun hc3 => ?_) (fun hc3 => ?_)
  ·
   refine G_region (l := [0, 1, 2, 3, 4, 5, 6, 7]) rfl ?_
   refine G_val rfl rfl rfl rfl (V_move rfl rfl) ?_
   refine G_val rfl rfl rfl rfl (V_nilCheck rfl rfl) ?_
   refine G_val rfl rfl rfl rfl (V_fieldAddr (fo := 2) rfl Tryz.underlying67 rfl infDiskW_3 rfl rfl rfl) ?_
   refine G_val rfl rfl rfl rfl (V_load1 rfl rfl (mem_at 0 rfl) rfl Tryz.underlying3 rfl) ?_
   refine G_val rfl rfl rfl rfl ((V_sub rfl rfl rfl).int (wrap_i64 (by omega))) ?_
   refine G_val rfl rfl rfl rfl (V_nilCheck rfl rfl) ?_
   refine G_val rfl rfl rfl rfl (V_fieldAddr (fo := 2) rfl Tryz.underlying67 rfl infDiskW_3 rfl rfl rfl) ?_
   refine G_put (l1 := []) (L' := [_]) rfl rfl rfl rfl (P_store1 rfl rfl rfl (mem_at 0 rfl) (by first | exact of_decide_eq_true rfl | omega | (simp [wCells, kCells]; done) | (simp [wCells, kCells]; omega) | (simp [wCells, kCells] at *; omega)) infDiskW_3 rfl rfl) rfl ?_
   refine G_done ?_
   refine G_inBlock ?_
   refine G_seq ?_
   refine G_region (l := [0, 1, 2, 3, 4]) rfl ?_
   refine G_val rfl rfl rfl rfl (V_move rfl rfl) ?_
   refine G_val rfl rfl rfl rfl (V_nilCheck rfl rfl) ?_
   refine G_val rfl rfl rfl rfl (V_fieldAddr (fo := 3) rfl Tryz.underlying67 rfl infDiskW_4 rfl rfl rfl) ?_
   refine G_val rfl rfl rfl rfl (V_load1 rfl rfl (mem_at 0 rfl) rfl Tryz.underlying4 rfl) ?_
   refine G_val rfl rfl rfl rfl (V_assign rfl rfl) ?_
   refine G_done ?_
   refine G_ret (post := [_]) Tryz.func65 rfl (RVs_cons (RV_tmp rfl) RVs_nil) [0] rfl ?_
   dsimp only [packed]
   first
     | (rw [show spD f true = true from rfl, show spF f true = f from rfl]; exact ⟨rfl, rfl⟩)
     | (rw [show spD f false = true by simp [spD, *], show spF f false = f by simp [spF, *]]; exact ⟨rfl, rfl⟩)
     | (rw [show spD f false = false by simp [spD]; omega, show spF f false = f - 1 by simp [spF]; omega]; exact ⟨rfl, rfl⟩)
     | (rw [show spD f false = false by simp [spD]; omega, show spF f false = f by simp [spF]; omega]; exact ⟨rfl, rfl⟩)
  refine G_skip ?_
  refine G_inBlock ?_
  refine G_seq ?_
  refine G_region (l := [0, 1, 2, 3, 4]) rfl ?_
  refine G_val rfl rfl rfl rfl (V_move rfl rfl) ?_
  refine G_val rfl rfl rfl rfl (V_nilCheck rfl rfl) ?_
  refine G_val rfl rfl rfl rfl (V_fieldAddr (fo := 3) rfl Tryz.underlying67 rfl infDiskW_4 rfl rfl rfl) ?_
  refine G_val rfl rfl rfl rfl (V_load1 rfl rfl (mem_at 0 rfl) rfl Tryz.underlying4 rfl) ?_
  refine G_val rfl rfl rfl rfl (V_assign rfl rfl) ?_
  refine G_done ?_
  refine G_ret (post := [_]) Tryz.func65 rfl (RVs_cons (RV_tmp rfl) RVs_nil) [0] rfl ?_
  dsimp only [packed]
  first
    | (rw [show spD f true = true from rfl, show spF f true = f from rfl]; exact ⟨rfl, rfl⟩)
    | (rw [show spD f false = true by simp [spD, *], show spF f false = f by simp [spF, *]]; exact ⟨rfl, rfl⟩)
    | (rw [show spD f false = false by simp [spD]; omega, show spF f false = f - 1 by simp [spF]; omega]; exact ⟨rfl, rfl⟩)
    | (rw [show spD f false = false by simp [spD]; omega, show spF f false = f by simp [spF]; omega]; exact ⟨rfl, rfl⟩)
 ·
  refine G_region (l := [0, 1, 2, 3, 4]) rfl ?_
  refine G_val rfl rfl rfl rfl (V_move rfl rfl) ?_
  refine G_val rfl rfl rfl rfl (V_nilCheck rfl rfl) ?_
  refine G_val rfl rfl rfl rfl (V_fieldAddr (fo := 3) rfl Tryz.underlying67 rfl infDiskW_4 rfl rfl rfl) ?_
  refine G_val rfl rfl rfl rfl (V_load1 rfl rfl (mem_at 0 rfl) rfl Tryz.underlying4 rfl) ?_
  refine G_val rfl rfl rfl rfl (V_assign rfl rfl) ?_
  refine G_done ?_
  refine G_if rfl (fun hc1 => ?_) (fun hc1 => ?_)
  rotate_left
  · (first | (exact absurd rfl hc1) | (exact absurd hc1 (by decide)) | (exfalso; omega))
  refine G_skip ?_
  refine G_inBlock ?_
  refine G_seq ?_
  refine G_region (l := [0, 1, 2, 3, 4]) rfl ?_
  refine G_val rfl rfl rfl rfl (V_move rfl rfl) ?_
  refine G_val rfl rfl rfl rfl (V_nilCheck rfl rfl) ?_
  refine G_val rfl rfl rfl rfl (V_fieldAddr (fo := 3) rfl Tryz.underlying67 rfl infDiskW_4 rfl rfl rfl) ?_
  refine G_val rfl rfl rfl rfl (V_load1 rfl rfl (mem_at 0 rfl) rfl Tryz.underlying4 rfl) ?_
  refine G_val rfl rfl rfl rfl (V_assign rfl rfl) ?_
  refine G_done ?_
  refine G_ret (post := [_]) Tryz.func65 rfl (RVs_cons (RV_tmp rfl) RVs_nil) [0] rfl ?_
  dsimp only [packed]
  first
    | (rw [show spD f true = true from rfl, show spF f true = f from rfl]; exact ⟨rfl, rfl⟩)
    | (rw [show spD f false = true by simp [spD, *], show spF f false = f by simp [spF, *]]; exact ⟨rfl, rfl⟩)
    | (rw [show spD f false = false by simp [spD]; omega, show spF f false = f - 1 by simp [spF]; omega]; exact ⟨rfl, rfl⟩)
    | (rw [show spD f false = false by simp [spD]; omega, show spF f false = f by simp [spF]; omega]; exact ⟨rfl, rfl⟩)

set_option maxRecDepth 100000 in
set_option maxHeartbeats 1000000 in
theorem dk_has (d n lb lcap : Nat) (lcs : Array Value) (uw : Sl) (k : Dk) (h : DkAt k n lb lcs lcap uw) (a : Int) :
    Ct Tryz.prog 81 [.pointer (some ⟨d, 0, none⟩), .int .i64 a] [(some d, .cells #[.slice (some ⟨lb, 0, none⟩) n lcap, uw.v k.W.length, .int .i64 k.fuse, .bool k.dead] 67 (0, 0))] [] fun v post => v = .int .i64 (hasE k.L.length a) ∧ post = [] := by
 have hb := h.bd
 have hb1 := hb.n1
 have hb2 := hb.n4
 have hb3 := hb.ncs
 have hb4 := hb.ncap
 have hb5 := hb.cap
 have hb6 := hb.w
 have hb7 := hb.wc
 have hln := h.len
 refine ct_of Tryz.func81 rfl rfl (fun w0 => ?_)
 show G _ _ [(0, _), (1, _)] _ _
 refine G_seq ?_
 refine G_region (l := [0]) rfl ?_
 refine G_val rfl rfl rfl rfl (V_assign rfl rfl) ?_
 refine G_done ?_
 refine G_seq ?_
 refine G_block ?_
 refine G_seq ?_
 refine G_region (l := [0, 1, 2]) rfl ?_
 refine G_val rfl rfl rfl rfl (V_move rfl rfl) ?_
 refine G_val rfl rfl rfl rfl (V_peqlN rfl Tryz.underlying26 rfl rfl) ?_
 refine G_val rfl rfl rfl rfl (V_assign rfl rfl) ?_
 refine G_done ?_
 refine G_else rfl ?_
 refine G_seq ?_
 refine G_region (l := [0, 1, 2, 3, 4, 5, 6, 7, 8, 9, 10, 11]) rfl ?_
 refine G_val rfl rfl rfl rfl (V_move rfl rfl) ?_
 refine G_val rfl rfl rfl rfl (V_lss rfl rfl rfl) ?_
 refine G_val rfl rfl rfl rfl (V_move rfl rfl) ?_
 refine G_splitD 11 rfl (fun hc1 => ?_) (fun hc1 => ?_)
 ·
  refine G_off rfl rfl rfl rfl ?_
  refine G_off rfl rfl rfl rfl ?_
  refine G_off rfl rfl rfl rfl ?_
  refine G_off rfl rfl rfl rfl ?_
  refine G_off rfl rfl rfl rfl ?_
  refine G_off rfl rfl rfl rfl ?_
  refine G_off rfl rfl rfl rfl ?_
  refine G_val rfl rfl rfl rfl (V_pickT rfl rfl rfl) ?_
  refine G_val rfl rfl rfl rfl (V_assign rfl rfl) ?_
  refine G_done ?_
  refine G_then rfl ?_
  refine G_seq ?_
  refine G_region (l := [0]) rfl ?_
  refine G_val rfl rfl rfl rfl (V_assign rfl rfl) ?_
  refine G_done ?_
  refine G_ret (post := []) Tryz.func81 rfl (RVs_cons (RV_tmp rfl) RVs_nil) [] rfl ?_
  dsimp only [packed]
  refine ⟨int_eq ?_, rfl⟩; unfold hasE; first | (rw [if_pos (by omega)]) | (rw [if_neg (by omega)])
 refine G_val rfl rfl rfl rfl (V_move rfl rfl) ?_
 refine G_val rfl rfl rfl rfl (V_move rfl rfl) ?_
 refine G_val rfl rfl rfl rfl (V_nilCheck rfl rfl) ?_
 refine G_val rfl rfl rfl rfl (V_fieldAddr (fo := 0) rfl Tryz.underlying67 rfl infDiskW_34 rfl rfl rfl) ?_
 refine G_val rfl rfl rfl rfl (V_load1 rfl rfl (mem_at 0 rfl) rfl Tryz.underlying34 rfl) ?_
 refine G_val rfl rfl rfl rfl (V_len rfl rfl Tryz.underlying34 rfl) ?_
 refine G_val rfl rfl rfl rfl (V_geq rfl rfl rfl) ?_
 refine G_val rfl rfl rfl rfl (V_pickF rfl rfl rfl) ?_
 refine G_val rfl rfl rfl rfl (V_assign rfl rfl) ?_
 refine G_done ?_
 refine G_ifD rfl (fun hc2 => ?_) (fun hc2 => ?_)
 ·
  refine G_seq ?_
  refine G_region (l := [0]) rfl ?_
  refine G_val rfl rfl rfl rfl (V_assign rfl rfl) ?_
  refine G_done ?_
  refine G_ret (post := []) Tryz.func81 rfl (RVs_cons (RV_tmp rfl) RVs_nil) [] rfl ?_
  dsimp only [packed]
  refine ⟨int_eq ?_, rfl⟩; unfold hasE; first | (rw [if_pos (by omega)]) | (rw [if_neg (by omega)])
 refine G_skip ?_
 refine G_inBlock ?_
 refine G_seq ?_
 refine G_region (l := [0]) rfl ?_
 refine G_val rfl rfl rfl rfl (V_assign rfl rfl) ?_
 refine G_done ?_
 refine G_ret (post := []) Tryz.func81 rfl (RVs_cons (RV_tmp rfl) RVs_nil) [] rfl ?_
 dsimp only [packed]
 refine ⟨int_eq ?_, rfl⟩; unfold hasE; first | (rw [if_pos (by omega)]) | (rw [if_neg (by omega)])

set_option maxRecDepth 100000 in
set_option maxHeartbeats 1000000 in
theorem dk_has_nil (a : Int) :
    Ct Tryz.prog 81 [.pointer none, .int .i64 a] [] [] fun v post => v = .int .i64 19 ∧ post = [] := by
 refine ct_of Tryz.func81 rfl rfl (fun w0 => ?_)
 show G _ _ [(0, _), (1, _)] _ _
 refine G_seq ?_
 refine G_region (l := [0]) rfl ?_
 refine G_val rfl rfl rfl rfl (V_assign rfl rfl) ?_
 refine G_done ?_
 refine G_seq ?_
 refine G_block ?_
 refine G_seq ?_
 refine G_region (l := [0, 1, 2]) rfl ?_
 refine G_val rfl rfl rfl rfl (V_move rfl rfl) ?_
 refine G_val rfl rfl rfl rfl (V_peqlN rfl Tryz.underlying26 rfl rfl) ?_
 refine G_val rfl rfl rfl rfl (V_assign rfl rfl) ?_
 refine G_done ?_
 refine G_then rfl ?_
 refine G_seq ?_
 refine G_region (l := [0]) rfl ?_
 refine G_val rfl rfl rfl rfl (V_assign rfl rfl) ?_
 refine G_done ?_
 refine G_ret (post := []) Tryz.func81 rfl (RVs_cons (RV_tmp rfl) RVs_nil) [] rfl ?_
 dsimp only [packed]
 exact ⟨rfl, rfl⟩

set_option maxRecDepth 100000 in
set_option maxHeartbeats 1000000 in
theorem dk_lies (d n lb lcap : Nat) (lcs : Array Value) (uw : Sl) (k : Dk) (h : DkAt k n lb lcs lcap uw) (a : Int) :
    Ct Tryz.prog 86 [.pointer (some ⟨d, 0, none⟩), .int .i64 a] [(some d, .cells #[.slice (some ⟨lb, 0, none⟩) n lcap, uw.v k.W.length, .int .i64 k.fuse, .bool k.dead] 67 (0, 0)), (some lb, .cells lcs 9 (0, 0))] [] fun v post => v = .tuple #[.string (bs (k.liesS a)), .int .i64 (hasE k.L.length a)] ∧ post = [] := by
 have hb := h.bd
 have hb1 := hb.n1
 have hb2 := hb.n4
 have hb3 := hb.ncs
 have hb4 := hb.ncap
 have hb5 := hb.cap
 have hb6 := hb.w
 have hb7 := hb.wc
 have hln := h.len
 refine ct_of Tryz.func86 rfl rfl (fun w0 => ?_)
 show G _ _ [(0, _), (1, _)] _ _
 refine G_seq ?_
 refine G_region (l := [0, 1]) rfl ?_
 refine G_val rfl rfl rfl rfl (V_assign rfl rfl) ?_
 refine G_val rfl rfl rfl rfl (V_assign rfl rfl) ?_
 refine G_done ?_
 refine G_seq ?_
 refine G_seq ?_
 refine G_region (l := [0, 1, 2, 3]) rfl ?_
 refine G_val rfl rfl rfl rfl (V_move rfl rfl) ?_
 refine G_val rfl rfl rfl rfl (V_move rfl rfl) ?_
 refine G_call (L2 := []) rfl rfl rfl rfl rfl rfl Tryz.call81 (dk_has _ _ _ _ _ _ _ h _) [] [0] rfl rfl ?_
 rintro v post ⟨rfl, rfl⟩
 refine G_val rfl rfl rfl rfl (V_assign rfl rfl) ?_
 refine G_done ?_
 refine G_seq ?_
 refine G_region (l := [0, 1]) rfl ?_
 refine G_val rfl rfl rfl rfl (V_move rfl rfl) ?_
 refine G_val rfl rfl rfl rfl (V_neq rfl rfl rfl) ?_
 refine G_done ?_
 refine G_ifD rfl (fun hc1 => ?_) (fun hc1 => ?_)
 ·
  refine G_seq ?_
  refine G_region (l := [0, 1, 2]) rfl ?_
  refine G_val rfl rfl rfl rfl (V_move rfl rfl) ?_
  refine G_val rfl rfl rfl rfl (V_assign rfl rfl) ?_
  refine G_val rfl rfl rfl rfl (V_assign rfl rfl) ?_
  refine G_done ?_
  refine G_ret (post := []) Tryz.func86 rfl (RVs_cons (RV_tmp rfl) (RVs_cons (RV_tmp rfl) RVs_nil)) [] rfl ?_
  dsimp only [packed]
  first
    | (rw [lies_no (by assumption)]; exact ⟨rfl, rfl⟩)
    | (rw [lies_yes (Classical.not_not.1 hc1), Classical.not_not.1 hc1]; exact ⟨rfl, rfl⟩)
 refine G_skip ?_
 refine G_seq ?_
 have ha := hasE_ok.1 (Classical.not_not.1 hc1)
 refine G_region (l := [0, 1, 2, 3, 4, 5, 6, 7, 8]) rfl ?_
 refine G_val rfl rfl rfl rfl (V_move rfl rfl) ?_
 refine G_val rfl rfl rfl rfl (V_nilCheck rfl rfl) ?_
 refine G_val rfl rfl rfl rfl (V_fieldAddr (fo := 0) rfl Tryz.underlying67 rfl infDiskW_34 rfl rfl rfl) ?_
 refine G_val rfl rfl rfl rfl (V_load1 rfl rfl (mem_at 0 rfl) rfl Tryz.underlying34 rfl) ?_
 refine G_val rfl rfl rfl rfl (V_move rfl rfl) ?_
 refine G_val rfl rfl rfl rfl (V_indexAddr (s := 1) rfl Tryz.underlying34 infDiskW_9 rfl rfl rfl (by omega) (by first | omega | (simp [wCells, kCells]; done) | (simp [wCells, kCells]; omega) | (simp [wCells, kCells] at *; omega))) ?_
 refine G_val rfl rfl rfl rfl (V_load1 rfl rfl (mem_at 1 rfl) (nth_of (own_str h.l a.toNat (by omega))) Tryz.underlying9 rfl) ?_
 refine G_val rfl rfl rfl rfl (V_assign rfl rfl) ?_
 refine G_val rfl rfl rfl rfl (V_assign rfl rfl) ?_
 refine G_done ?_
 refine G_ret (post := []) Tryz.func86 rfl (RVs_cons (RV_tmp rfl) (RVs_cons (RV_tmp rfl) RVs_nil)) [] rfl ?_
 dsimp only [packed]
 first
   | (rw [lies_no (by assumption)]; exact ⟨rfl, rfl⟩)
   | (rw [lies_yes (Classical.not_not.1 hc1), Classical.not_not.1 hc1]; exact ⟨rfl, rfl⟩)

set_option maxRecDepth 100000 in
set_option maxHeartbeats 1000000 in
theorem dk_lies_nil (a : Int) :
    Ct Tryz.prog 86 [.pointer none, .int .i64 a] [] [] fun v post => v = .tuple #[.string (bs []), .int .i64 19] ∧ post = [] := by
 refine ct_of Tryz.func86 rfl rfl (fun w0 => ?_)
 show G _ _ [(0, _), (1, _)] _ _
 refine G_seq ?_
 refine G_region (l := [0, 1]) rfl ?_
 refine G_val rfl rfl rfl rfl (V_assign rfl rfl) ?_
 refine G_val rfl rfl rfl rfl (V_assign rfl rfl) ?_
 refine G_done ?_
 refine G_seq ?_
 refine G_seq ?_
 refine G_region (l := [0, 1, 2, 3]) rfl ?_
 refine G_val rfl rfl rfl rfl (V_move rfl rfl) ?_
 refine G_val rfl rfl rfl rfl (V_move rfl rfl) ?_
 refine G_call (L2 := []) rfl rfl rfl rfl rfl rfl Tryz.call81 (dk_has_nil a) [] [] rfl rfl ?_
 rintro v post ⟨rfl, rfl⟩
 refine G_val rfl rfl rfl rfl (V_assign rfl rfl) ?_
 refine G_done ?_
 refine G_seq ?_
 refine G_region (l := [0, 1]) rfl ?_
 refine G_val rfl rfl rfl rfl (V_move rfl rfl) ?_
 refine G_val rfl rfl rfl rfl (V_neq rfl rfl rfl) ?_
 refine G_done ?_
 refine G_ifD rfl (fun hc1 => ?_) (fun hc1 => ?_)
 rotate_left
 · (first | (exact absurd rfl hc1) | (exact absurd hc1 (by decide)) | (exfalso; omega))
 refine G_seq ?_
 refine G_region (l := [0, 1, 2]) rfl ?_
 refine G_val rfl rfl rfl rfl (V_move rfl rfl) ?_
 refine G_val rfl rfl rfl rfl (V_assign rfl rfl) ?_
 refine G_val rfl rfl rfl rfl (V_assign rfl rfl) ?_
 refine G_done ?_
 refine G_ret (post := []) Tryz.func86 rfl (RVs_cons (RV_tmp rfl) (RVs_cons (RV_tmp rfl) RVs_nil)) [] rfl ?_
 dsimp only [packed]
 exact ⟨rfl, rfl⟩

set_option maxRecDepth 100000 in
set_option maxHeartbeats 1000000 in
theorem dk_read (d n lb lcap : Nat) (lcs : Array Value) (uw : Sl) (k : Dk) (h : DkAt k n lb lcs lcap uw) (a : Int) :
    Ct Tryz.prog 73 [.pointer (some ⟨d, 0, none⟩), .int .i64 a] [(some d, .cells #[.slice (some ⟨lb, 0, none⟩) n lcap, uw.v k.W.length, .int .i64 k.fuse, .bool k.dead] 67 (0, 0)), (some lb, .cells lcs 9 (0, 0)), (uw.ob, .cells uw.cs 90 uw.fz)] [] fun v post => v = .tuple #[.string (bs (k.readS a)), .int .i64 (k.readE a)] ∧ post = [] := by
 have hb := h.bd
 have hb1 := hb.n1
 have hb2 := hb.n4
 have hb3 := hb.ncs
 have hb4 := hb.ncap
 have hb5 := hb.cap
 have hb6 := hb.w
 have hb7 := hb.wc
 have hln := h.len
 refine ct_of Tryz.func73 rfl rfl (fun w0 => ?_)
 show G _ _ [(0, _), (1, _)] _ _
 refine G_seq ?_
 refine G_region (l := [0, 1]) rfl ?_
 refine G_val rfl rfl rfl rfl (V_assign rfl rfl) ?_
 refine G_val rfl rfl rfl rfl (V_assign rfl rfl) ?_
 refine G_done ?_
 refine G_seq ?_
 refine G_region (l := [0, 1, 2, 3, 4, 5, 6, 7]) rfl ?_
 refine G_val rfl rfl rfl rfl (V_move rfl rfl) ?_
 refine G_val rfl rfl rfl rfl (V_move rfl rfl) ?_
 refine G_call (L2 := []) rfl rfl rfl rfl rfl rfl Tryz.call86 (dk_lies _ _ _ _ _ _ _ h _) [] [0, 1] rfl rfl ?_
 rintro v post ⟨rfl, rfl⟩
 refine G_val rfl rfl rfl rfl (V_move rfl rfl) ?_
 refine G_val rfl rfl rfl rfl (V_extract rfl rfl rfl) ?_
 refine G_val rfl rfl rfl rfl (V_extract rfl rfl rfl) ?_
 refine G_val rfl rfl rfl rfl (V_assign rfl rfl) ?_
 refine G_val rfl rfl rfl rfl (V_assign rfl rfl) ?_
 refine G_done ?_
 refine G_seq ?_
 refine G_block ?_
 refine G_seq ?_
 refine G_region (l := [0, 1, 2]) rfl ?_
 refine G_val rfl rfl rfl rfl (V_move rfl rfl) ?_
 refine G_val rfl rfl rfl rfl (V_neq rfl rfl rfl) ?_
 refine G_val rfl rfl rfl rfl (V_assign rfl rfl) ?_
 refine G_done ?_
 refine G_ifD rfl (fun hc1 => ?_) (fun hc1 => ?_)
 ·
  refine G_seq ?_
  refine G_region (l := [0, 1, 2]) rfl ?_
  refine G_val rfl rfl rfl rfl (V_move rfl rfl) ?_
  refine G_val rfl rfl rfl rfl (V_assign rfl rfl) ?_
  refine G_val rfl rfl rfl rfl (V_assign rfl rfl) ?_
  refine G_done ?_
  refine G_ret (post := []) Tryz.func73 rfl (RVs_cons (RV_tmp rfl) (RVs_cons (RV_tmp rfl) RVs_nil)) [] rfl ?_
  dsimp only [packed]
  first
    | (obtain ⟨e1, e2⟩ := read_no (k := k) (a := a) (by assumption); rw [e1, e2]; exact ⟨rfl, rfl⟩)
    | (obtain ⟨e1, e2⟩ := read_dead ha hdd; rw [e1, e2]; exact ⟨rfl, rfl⟩)
    | (obtain ⟨e1, e2⟩ := read_yes ha (by rw [hdd]; exact Bool.false_ne_true); rw [e1, e2, show k.W.take i = k.W from List.take_of_length_le (by omega)]; exact ⟨rfl, rfl⟩)
 refine G_seq ?_
 have ha := Classical.not_not.1 hc1
 cases hdd : k.dead
 ·
  refine G_region (l := [0, 1, 2, 3, 4]) rfl ?_
  refine G_val rfl rfl rfl rfl (V_move rfl rfl) ?_
  refine G_val rfl rfl rfl rfl (V_nilCheck rfl rfl) ?_
  refine G_val rfl rfl rfl rfl (V_fieldAddr (fo := 3) rfl Tryz.underlying67 rfl infDiskW_4 rfl rfl rfl) ?_
  refine G_val rfl rfl rfl rfl (V_load1 rfl rfl (mem_at 0 rfl) rfl Tryz.underlying4 rfl) ?_
  refine G_val rfl rfl rfl rfl (V_assign rfl rfl) ?_
  refine G_done ?_
  refine G_if rfl (fun hc2 => ?_) (fun hc2 => ?_)
  · (first | (exact absurd rfl hc2) | (exact absurd hc2 (by decide)) | (exfalso; omega))
  refine G_skip ?_
  refine G_inBlock ?_
  refine G_seq ?_
  refine G_seq ?_
  rw [lies_yes ha]
  refine G_region (l := [0, 1, 2, 3, 4, 5]) rfl ?_
  refine G_val rfl rfl rfl rfl (V_move rfl rfl) ?_
  refine G_val rfl rfl rfl rfl (V_nilCheck rfl rfl) ?_
  refine G_val rfl rfl rfl rfl (V_fieldAddr (fo := 1) rfl Tryz.underlying67 rfl infDiskW_65 rfl rfl rfl) ?_
  refine G_val rfl rfl rfl rfl (V_load1 rfl rfl (mem_at 0 rfl) rfl Tryz.underlying65 rfl) ?_
  refine G_val rfl rfl rfl rfl (V_len rfl rfl Tryz.underlying65 rfl) ?_
  refine G_val rfl rfl rfl rfl (V_move rfl rfl) ?_
  refine G_done ?_
  refine G_block ?_
  refine G_sub ?he7 [] ?hl7 (G_loop (X := Nat) (fun i => i ≤ k.W.length) (fun i => k.W.length - i) (fun i => [(0, .pointer (some ⟨d, 0, none⟩)), (1, .int .i64 a), (6, .string (bs (lastW (k.L.getD a.toNat []) a (k.W.take i)))), (28, uw.v k.W.length), (29, .int .i64 (k.W.length : Int)), (30, .int .i64 (i : Int))]) (fun i => []) ?round7 0 ?h07)
  case he7 => exact (And.intro rfl (And.intro rfl (And.intro rfl (And.intro rfl (And.intro rfl (And.intro rfl trivial))))))
  case hl7 => exact ⟨_, rfl⟩
  case h07 => exact Nat.zero_le _
  case round7 =>
   intro i hJ ih
   try dsimp only at hJ ih
   refine G_seq ?_
   refine G_region (l := [0]) rfl ?_
   refine G_val rfl rfl rfl rfl (V_lss rfl rfl rfl) ?_
   refine G_done ?_
   refine G_seq ?_
   refine G_ifD rfl (fun hc3 => ?_) (fun hc3 => ?_)
   ·
    refine G_skip ?_
    refine G_seq ?_
    refine G_block ?_
    refine G_seq ?_
    obtain ⟨x, hx⟩ := getI (show i < k.W.length by omega)
    obtain ⟨wo, wcs, wfz, wcap⟩ := uw
    obtain ⟨wb, rfl⟩ := h.w.isSome (by omega)
    refine G_region (l := [0, 1, 2, 3]) rfl ?_
    refine G_val rfl rfl rfl rfl (V_indexAddrN (s := 2) rfl Tryz.underlying65 infDiskW_90 rfl rfl rfl rfl (by omega)) ?_
    refine G_val rfl rfl rfl rfl (V_loadA (s := 2) (vs := (wCells x).toArray) rfl rfl (mem_at 2 rfl) Tryz.underlying90 rfl infDiskW_90 rfl (h.w.sees.elem w_len hx) (by rfl)) ?_
    refine G_new rfl rfl rfl rfl (N_allocA rfl infDiskW_90 rfl) (fun b9 => ?_)
    refine G_put (l1 := []) (L' := [_]) rfl rfl rfl rfl (P_storeA (s := 2) rfl rfl rfl (mem_at 0 rfl) (by rfl) infDiskW_90 rfl (by rfl) (by simp [Value.oneCell', wCells, kCells])) rfl ?_
    refine G_done ?_
    refine G_seq ?_
    refine G_region (l := [0, 1, 2, 3]) rfl ?_
    refine G_val rfl rfl rfl rfl (V_fieldAddr (fo := 0) rfl Tryz.underlying90 rfl infDiskW_3 rfl rfl rfl) ?_
    refine G_val rfl rfl rfl rfl (V_load1 rfl rfl (mem_at 3 rfl) rfl Tryz.underlying3 rfl) ?_
    refine G_val rfl rfl rfl rfl (V_move rfl rfl) ?_
    refine G_val rfl rfl rfl rfl (V_eql rfl rfl rfl) ?_
    refine G_done ?_
    refine G_ifD rfl (fun hc4 => ?_) (fun hc4 => ?_)
    ·
     refine G_region (l := [0, 1, 2]) rfl ?_
     refine G_val rfl rfl rfl rfl (V_fieldAddr (fo := 1) rfl Tryz.underlying90 rfl infDiskW_9 rfl rfl rfl) ?_
     refine G_val rfl rfl rfl rfl (V_load1 rfl rfl (mem_at 3 rfl) rfl Tryz.underlying9 rfl) ?_
     refine G_val rfl rfl rfl rfl (V_assign rfl rfl) ?_
     refine G_done ?_
     refine G_inBlock ?_
     first | (rw [lastW_yes (s := k.L.getD a.toNat []) hx (by assumption)]) | skip
     refine G_region (l := [0, 1]) rfl ?_
     refine G_val rfl rfl rfl rfl ((V_add rfl rfl rfl).int (wrap_i64 (by omega))) ?_
     refine G_val rfl rfl rfl rfl (V_move rfl rfl) ?_
     refine G_done ?_
     refine G_sub ?_ [] ?_ (ih (i + 1) ?_ ?_)
     · refine (And.intro rfl (And.intro rfl (And.intro (slot_str (by first | exact (lastW_yes hx (by assumption)).symm | exact (lastW_no hx (by assumption)).symm)) (And.intro rfl (And.intro rfl (And.intro rfl trivial))))))
     · exact ⟨_, rfl⟩
     · omega
     · (first | omega | (dsimp only; omega))
    refine G_skip ?_
    refine G_inBlock ?_
    first | (rw [lastW_yes (s := k.L.getD a.toNat []) hx (by assumption)]) | skip
    refine G_region (l := [0, 1]) rfl ?_
    refine G_val rfl rfl rfl rfl ((V_add rfl rfl rfl).int (wrap_i64 (by omega))) ?_
    refine G_val rfl rfl rfl rfl (V_move rfl rfl) ?_
    refine G_done ?_
    refine G_sub ?_ [] ?_ (ih (i + 1) ?_ ?_)
    · refine (And.intro rfl (And.intro rfl (And.intro (slot_str (by first | exact (lastW_yes hx (by assumption)).symm | exact (lastW_no hx (by assumption)).symm)) (And.intro rfl (And.intro rfl (And.intro rfl trivial))))))
    · exact ⟨_, rfl⟩
    · omega
    · (first | omega | (dsimp only; omega))
   refine G_exit rfl ?_
   refine G_seq ?_
   refine G_region (l := [0, 1, 2]) rfl ?_
   refine G_val rfl rfl rfl rfl (V_move rfl rfl) ?_
   refine G_val rfl rfl rfl rfl (V_assign rfl rfl) ?_
   refine G_val rfl rfl rfl rfl (V_assign rfl rfl) ?_
   refine G_done ?_
   refine G_ret (post := []) Tryz.func73 rfl (RVs_cons (RV_tmp rfl) (RVs_cons (RV_tmp rfl) RVs_nil)) [] rfl ?_
   dsimp only [packed]
   first
     | (obtain ⟨e1, e2⟩ := read_no (k := k) (a := a) (by assumption); rw [e1, e2]; exact ⟨rfl, rfl⟩)
     | (obtain ⟨e1, e2⟩ := read_dead ha hdd; rw [e1, e2]; exact ⟨rfl, rfl⟩)
     | (obtain ⟨e1, e2⟩ := read_yes ha (by rw [hdd]; exact Bool.false_ne_true); rw [e1, e2, show k.W.take i = k.W from List.take_of_length_le (by omega)]; exact ⟨rfl, rfl⟩)
 ·
  refine G_region (l := [0, 1, 2, 3, 4]) rfl ?_
  refine G_val rfl rfl rfl rfl (V_move rfl rfl) ?_
  refine G_val rfl rfl rfl rfl (V_nilCheck rfl rfl) ?_
  refine G_val rfl rfl rfl rfl (V_fieldAddr (fo := 3) rfl Tryz.underlying67 rfl infDiskW_4 rfl rfl rfl) ?_
  refine G_val rfl rfl rfl rfl (V_load1 rfl rfl (mem_at 0 rfl) rfl Tryz.underlying4 rfl) ?_
  refine G_val rfl rfl rfl rfl (V_assign rfl rfl) ?_
  refine G_done ?_
  refine G_if rfl (fun hc2 => ?_) (fun hc2 => ?_)
  rotate_left
  · (first | (exact absurd rfl hc2) | (exact absurd hc2 (by decide)) | (exfalso; omega))
  refine G_seq ?_
  refine G_region (l := [0, 1]) rfl ?_
  refine G_val rfl rfl rfl rfl (V_assign rfl rfl) ?_
  refine G_val rfl rfl rfl rfl (V_assign rfl rfl) ?_
  refine G_done ?_
  refine G_ret (post := []) Tryz.func73 rfl (RVs_cons (RV_tmp rfl) (RVs_cons (RV_tmp rfl) RVs_nil)) [] rfl ?_
  dsimp only [packed]
  first
    | (obtain ⟨e1, e2⟩ := read_no (k := k) (a := a) (by assumption); rw [e1, e2]; exact ⟨rfl, rfl⟩)
    | (obtain ⟨e1, e2⟩ := read_dead ha hdd; rw [e1, e2]; exact ⟨rfl, rfl⟩)
    | (obtain ⟨e1, e2⟩ := read_yes ha (by rw [hdd]; exact Bool.false_ne_true); rw [e1, e2, show k.W.take i = k.W from List.take_of_length_le (by omega)]; exact ⟨rfl, rfl⟩)

set_option maxRecDepth 100000 in
set_option maxHeartbeats 1000000 in
theorem dk_read_nil (a : Int) :
    Ct Tryz.prog 73 [.pointer none, .int .i64 a] [] [] fun v post => v = .tuple #[.string (bs []), .int .i64 19] ∧ post = [] := by
 refine ct_of Tryz.func73 rfl rfl (fun w0 => ?_)
 show G _ _ [(0, _), (1, _)] _ _
 refine G_seq ?_
 refine G_region (l := [0, 1]) rfl ?_
 refine G_val rfl rfl rfl rfl (V_assign rfl rfl) ?_
 refine G_val rfl rfl rfl rfl (V_assign rfl rfl) ?_
 refine G_done ?_
 refine G_seq ?_
 refine G_region (l := [0, 1, 2, 3, 4, 5, 6, 7]) rfl ?_
 refine G_val rfl rfl rfl rfl (V_move rfl rfl) ?_
 refine G_val rfl rfl rfl rfl (V_move rfl rfl) ?_
 refine G_call (L2 := []) rfl rfl rfl rfl rfl rfl Tryz.call86 (dk_lies_nil a) [] [] rfl rfl ?_
 rintro v post ⟨rfl, rfl⟩
 refine G_val rfl rfl rfl rfl (V_move rfl rfl) ?_
 refine G_val rfl rfl rfl rfl (V_extract rfl rfl rfl) ?_
 refine G_val rfl rfl rfl rfl (V_extract rfl rfl rfl) ?_
 refine G_val rfl rfl rfl rfl (V_assign rfl rfl) ?_
 refine G_val rfl rfl rfl rfl (V_assign rfl rfl) ?_
 refine G_done ?_
 refine G_seq ?_
 refine G_block ?_
 refine G_seq ?_
 refine G_region (l := [0, 1, 2]) rfl ?_
 refine G_val rfl rfl rfl rfl (V_move rfl rfl) ?_
 refine G_val rfl rfl rfl rfl (V_neq rfl rfl rfl) ?_
 refine G_val rfl rfl rfl rfl (V_assign rfl rfl) ?_
 refine G_done ?_
 refine G_ifD rfl (fun hc1 => ?_) (fun hc1 => ?_)
 rotate_left
 · (first | (exact absurd rfl hc1) | (exact absurd hc1 (by decide)) | (exfalso; omega))
 refine G_seq ?_
 refine G_region (l := [0, 1, 2]) rfl ?_
 refine G_val rfl rfl rfl rfl (V_move rfl rfl) ?_
 refine G_val rfl rfl rfl rfl (V_assign rfl rfl) ?_
 refine G_val rfl rfl rfl rfl (V_assign rfl rfl) ?_
 refine G_done ?_
 refine G_ret (post := []) Tryz.func73 rfl (RVs_cons (RV_tmp rfl) (RVs_cons (RV_tmp rfl) RVs_nil)) [] rfl ?_
 dsimp only [packed]
 exact ⟨rfl, rfl⟩

set_option maxRecDepth 100000 in
set_option maxHeartbeats 1000000 in
theorem dk_size (d n lb lcap : Nat) (lcs : Array Value) (uw : Sl) (k : Dk) (h : DkAt k n lb lcs lcap uw) :
    Ct Tryz.prog 51 [.pointer (some ⟨d, 0, none⟩)] [(some d, .cells #[.slice (some ⟨lb, 0, none⟩) n lcap, uw.v k.W.length, .int .i64 k.fuse, .bool k.dead] 67 (0, 0))] [] fun v post => v = .int .i64 (n : Int) ∧ post = [] := by
 refine ct_of Tryz.func51 rfl rfl (fun w0 => ?_)
 show G _ _ [(0, _)] _ _
 refine G_seq ?_
 refine G_region (l := [0]) rfl ?_
 refine G_val rfl rfl rfl rfl (V_assign rfl rfl) ?_
 refine G_done ?_
 refine G_seq ?_
 refine G_seq ?_
 refine G_region (l := [0, 1]) rfl ?_
 refine G_val rfl rfl rfl rfl (V_move rfl rfl) ?_
 refine G_val rfl rfl rfl rfl (V_peqlN rfl Tryz.underlying26 rfl rfl) ?_
 refine G_done ?_
 refine G_else rfl ?_
 refine G_skip ?_
 refine G_seq ?_
 refine G_region (l := [0, 1, 2, 3, 4, 5]) rfl ?_
 refine G_val rfl rfl rfl rfl (V_move rfl rfl) ?_
 refine G_val rfl rfl rfl rfl (V_nilCheck rfl rfl) ?_
 refine G_val rfl rfl rfl rfl (V_fieldAddr (fo := 0) rfl Tryz.underlying67 rfl infDiskW_34 rfl rfl rfl) ?_
 refine G_val rfl rfl rfl rfl (V_load1 rfl rfl (mem_at 0 rfl) rfl Tryz.underlying34 rfl) ?_
 refine G_val rfl rfl rfl rfl (V_len rfl rfl Tryz.underlying34 rfl) ?_
 refine G_val rfl rfl rfl rfl (V_assign rfl rfl) ?_
 refine G_done ?_
 refine G_ret (post := []) Tryz.func51 rfl (RVs_cons (RV_tmp rfl) RVs_nil) [] rfl ?_
 dsimp only [packed]
 exact ⟨rfl, rfl⟩

set_option maxRecDepth 100000 in
set_option maxHeartbeats 1000000 in
theorem dk_size_nil  :
    Ct Tryz.prog 51 [.pointer none] [] [] fun v post => v = .int .i64 0 ∧ post = [] := by
 refine ct_of Tryz.func51 rfl rfl (fun w0 => ?_)
 show G _ _ [(0, _)] _ _
 refine G_seq ?_
 refine G_region (l := [0]) rfl ?_
 refine G_val rfl rfl rfl rfl (V_assign rfl rfl) ?_
 refine G_done ?_
 refine G_seq ?_
 refine G_seq ?_
 refine G_region (l := [0, 1]) rfl ?_
 refine G_val rfl rfl rfl rfl (V_move rfl rfl) ?_
 refine G_val rfl rfl rfl rfl (V_peqlN rfl Tryz.underlying26 rfl rfl) ?_
 refine G_done ?_
 refine G_then rfl ?_
 refine G_seq ?_
 refine G_region (l := [0]) rfl ?_
 refine G_val rfl rfl rfl rfl (V_assign rfl rfl) ?_
 refine G_done ?_
 refine G_ret (post := []) Tryz.func51 rfl (RVs_cons (RV_tmp rfl) RVs_nil) [] rfl ?_
 dsimp only [packed]
 exact ⟨rfl, rfl⟩

set_option maxRecDepth 100000 in
set_option maxHeartbeats 1000000 in
theorem dk_waiting (d n lb lcap : Nat) (lcs : Array Value) (uw : Sl) (k : Dk) (h : DkAt k n lb lcs lcap uw) :
    Ct Tryz.prog 28 [.pointer (some ⟨d, 0, none⟩)] [(some d, .cells #[.slice (some ⟨lb, 0, none⟩) n lcap, uw.v k.W.length, .int .i64 k.fuse, .bool k.dead] 67 (0, 0))] [] fun v post => v = .int .i64 (k.W.length : Int) ∧ post = [] := by
 refine ct_of Tryz.func28 rfl rfl (fun w0 => ?_)
 show G _ _ [(0, _)] _ _
 refine G_seq ?_
 refine G_region (l := [0]) rfl ?_
 refine G_val rfl rfl rfl rfl (V_assign rfl rfl) ?_
 refine G_done ?_
 refine G_seq ?_
 refine G_seq ?_
 refine G_region (l := [0, 1]) rfl ?_
 refine G_val rfl rfl rfl rfl (V_move rfl rfl) ?_
 refine G_val rfl rfl rfl rfl (V_peqlN rfl Tryz.underlying26 rfl rfl) ?_
 refine G_done ?_
 refine G_else rfl ?_
 refine G_skip ?_
 refine G_seq ?_
 refine G_region (l := [0, 1, 2, 3, 4, 5]) rfl ?_
 refine G_val rfl rfl rfl rfl (V_move rfl rfl) ?_
 refine G_val rfl rfl rfl rfl (V_nilCheck rfl rfl) ?_
 refine G_val rfl rfl rfl rfl (V_fieldAddr (fo := 1) rfl Tryz.underlying67 rfl infDiskW_65 rfl rfl rfl) ?_
 refine G_val rfl rfl rfl rfl (V_load1 rfl rfl (mem_at 0 rfl) rfl Tryz.underlying65 rfl) ?_
 refine G_val rfl rfl rfl rfl (V_len rfl rfl Tryz.underlying65 rfl) ?_
 refine G_val rfl rfl rfl rfl (V_assign rfl rfl) ?_
 refine G_done ?_
 refine G_ret (post := []) Tryz.func28 rfl (RVs_cons (RV_tmp rfl) RVs_nil) [] rfl ?_
 dsimp only [packed]
 exact ⟨rfl, rfl⟩

set_option maxRecDepth 100000 in
set_option maxHeartbeats 1000000 in
theorem dk_waiting_nil  :
    Ct Tryz.prog 28 [.pointer none] [] [] fun v post => v = .int .i64 0 ∧ post = [] := by
 refine ct_of Tryz.func28 rfl rfl (fun w0 => ?_)
 show G _ _ [(0, _)] _ _
 refine G_seq ?_
 refine G_region (l := [0]) rfl ?_
 refine G_val rfl rfl rfl rfl (V_assign rfl rfl) ?_
 refine G_done ?_
 refine G_seq ?_
 refine G_seq ?_
 refine G_region (l := [0, 1]) rfl ?_
 refine G_val rfl rfl rfl rfl (V_move rfl rfl) ?_
 refine G_val rfl rfl rfl rfl (V_peqlN rfl Tryz.underlying26 rfl rfl) ?_
 refine G_done ?_
 refine G_then rfl ?_
 refine G_seq ?_
 refine G_region (l := [0]) rfl ?_
 refine G_val rfl rfl rfl rfl (V_assign rfl rfl) ?_
 refine G_done ?_
 refine G_ret (post := []) Tryz.func28 rfl (RVs_cons (RV_tmp rfl) RVs_nil) [] rfl ?_
 dsimp only [packed]
 exact ⟨rfl, rfl⟩

set_option maxRecDepth 100000 in
set_option maxHeartbeats 1000000 in
theorem dk_fuse (d n lb lcap : Nat) (lcs : Array Value) (uw : Sl) (k : Dk) (h : DkAt k n lb lcs lcap uw) (z : Int) :
    Ct Tryz.prog 24 [.pointer (some ⟨d, 0, none⟩), .int .i64 z] [] [(some d, .cells #[.slice (some ⟨lb, 0, none⟩) n lcap, uw.v k.W.length, .int .i64 k.fuse, .bool k.dead] 67 (0, 0))] fun v post => v = .tuple #[] ∧ post = [(some d, .cells #[.slice (some ⟨lb, 0, none⟩) n lcap, uw.v (k.setFuse z).W.length, .int .i64 (k.setFuse z).fuse, .bool (k.setFuse z).dead] 67 (0, 0))] := by
 refine ct_of Tryz.func24 rfl rfl (fun w0 => ?_)
 show G _ _ [(0, _), (1, _)] _ _
 refine G_seq ?_
 cases hdd : k.dead
 ·
  refine G_region (l := [0, 1, 2, 3, 4, 5, 6, 7, 8]) rfl ?_
  refine G_val rfl rfl rfl rfl (V_move rfl rfl) ?_
  refine G_val rfl rfl rfl rfl (V_pneqN rfl Tryz.underlying26 rfl rfl) ?_
  refine G_val rfl rfl rfl rfl (V_move rfl rfl) ?_
  refine G_val rfl rfl rfl rfl (V_move rfl rfl) ?_
  refine G_val rfl rfl rfl rfl (V_nilCheck rfl rfl) ?_
  refine G_val rfl rfl rfl rfl (V_fieldAddr (fo := 3) rfl Tryz.underlying67 rfl infDiskW_4 rfl rfl rfl) ?_
  refine G_val rfl rfl rfl rfl (V_load1 rfl rfl (mem_at 0 rfl) rfl Tryz.underlying4 rfl) ?_
  refine G_val rfl rfl rfl rfl (V_not rfl rfl) ?_
  refine G_val rfl rfl rfl rfl (V_pickT rfl rfl rfl) ?_
  refine G_done ?_
  refine G_if rfl (fun hc1 => ?_) (fun hc1 => ?_)
  rotate_left
  · (first | (exact absurd rfl hc1) | (exact absurd hc1 (by decide)) | (exfalso; omega))
  refine G_region (l := [0, 1, 2, 3, 4, 5]) rfl ?_
  refine G_val rfl rfl rfl rfl (V_move rfl rfl) ?_
  refine G_val rfl rfl rfl rfl (V_move rfl rfl) ?_
  refine G_val rfl rfl rfl rfl (V_max rfl rfl rfl) ?_
  refine G_val rfl rfl rfl rfl (V_nilCheck rfl rfl) ?_
  refine G_val rfl rfl rfl rfl (V_fieldAddr (fo := 2) rfl Tryz.underlying67 rfl infDiskW_3 rfl rfl rfl) ?_
  refine G_put (l1 := []) (L' := [_]) rfl rfl rfl rfl (P_store1 rfl rfl rfl (mem_at 0 rfl) (by first | exact of_decide_eq_true rfl | omega | (simp [wCells, kCells]; done) | (simp [wCells, kCells]; omega) | (simp [wCells, kCells] at *; omega)) infDiskW_3 rfl rfl) rfl ?_
  refine G_done ?_
  refine G_end (post := [_]) Tryz.func24 rfl RVs_nil [0] rfl ?_
  dsimp only [packed]
  refine ⟨rfl, ?_⟩; unfold Dk.setFuse; simp [hdd]
 ·
  refine G_region (l := [0, 1, 2, 3, 4, 5, 6, 7, 8]) rfl ?_
  refine G_val rfl rfl rfl rfl (V_move rfl rfl) ?_
  refine G_val rfl rfl rfl rfl (V_pneqN rfl Tryz.underlying26 rfl rfl) ?_
  refine G_val rfl rfl rfl rfl (V_move rfl rfl) ?_
  refine G_val rfl rfl rfl rfl (V_move rfl rfl) ?_
  refine G_val rfl rfl rfl rfl (V_nilCheck rfl rfl) ?_
  refine G_val rfl rfl rfl rfl (V_fieldAddr (fo := 3) rfl Tryz.underlying67 rfl infDiskW_4 rfl rfl rfl) ?_
  refine G_val rfl rfl rfl rfl (V_load1 rfl rfl (mem_at 0 rfl) rfl Tryz.underlying4 rfl) ?_
  refine G_val rfl rfl rfl rfl (V_not rfl rfl) ?_
  refine G_val rfl rfl rfl rfl (V_pickT rfl rfl rfl) ?_
  refine G_done ?_
  refine G_if rfl (fun hc1 => ?_) (fun hc1 => ?_)
  · (first | (exact absurd rfl hc1) | (exact absurd hc1 (by decide)) | (exfalso; omega))
  refine G_skip ?_
  refine G_end (post := [_]) Tryz.func24 rfl RVs_nil [0] rfl ?_
  dsimp only [packed]
  refine ⟨rfl, ?_⟩; unfold Dk.setFuse; simp [hdd]

set_option maxRecDepth 100000 in
set_option maxHeartbeats 1000000 in
theorem dk_fuse_nil (z : Int) :
    Ct Tryz.prog 24 [.pointer none, .int .i64 z] [] [] fun v post => v = .tuple #[] ∧ post = [] := by
 refine ct_of Tryz.func24 rfl rfl (fun w0 => ?_)
 show G _ _ [(0, _), (1, _)] _ _
 refine G_seq ?_
 refine G_region (l := [0, 1, 2, 3, 4, 5, 6, 7, 8]) rfl ?_
 refine G_val rfl rfl rfl rfl (V_move rfl rfl) ?_
 refine G_val rfl rfl rfl rfl (V_pneqN rfl Tryz.underlying26 rfl rfl) ?_
 refine G_val rfl rfl rfl rfl (V_move rfl rfl) ?_
 refine G_off rfl rfl rfl rfl ?_
 refine G_off rfl rfl rfl rfl ?_
 refine G_off rfl rfl rfl rfl ?_
 refine G_off rfl rfl rfl rfl ?_
 refine G_off rfl rfl rfl rfl ?_
 refine G_val rfl rfl rfl rfl (V_pickF rfl rfl rfl) ?_
 refine G_done ?_
 refine G_else rfl ?_
 refine G_skip ?_
 refine G_end (post := []) Tryz.func24 rfl RVs_nil [] rfl ?_
 dsimp only [packed]
 exact ⟨rfl, rfl⟩

end
end Go.Proofs.YtbblkgdejgoncaaGreatDoor

/- The walks of layer 22, on: what writes to a disk. -/
set_option linter.unusedSimpArgs false
set_option linter.unusedVariables false
namespace Go.Proofs.YtbblkgdejgoncaaGreatDoor
open Go Go.RowKit

section
theorem infDiskX_3 : Tryz.prog.info? 3 = some Tryz.t3 := by kernel_rfl
theorem infDiskX_9 : Tryz.prog.info? 9 = some Tryz.t9 := by kernel_rfl
theorem infDiskX_34 : Tryz.prog.info? 34 = some Tryz.t34 := by kernel_rfl
theorem infDiskX_65 : Tryz.prog.info? 65 = some Tryz.t65 := by kernel_rfl
theorem infDiskX_90 : Tryz.prog.info? 90 = some Tryz.t90 := by kernel_rfl
theorem plcDiskX_90 : placesOf Tryz.prog (Tryz.prog.fieldsOf 90) = some [(0, 1), (1, 1)] := by kernel_rfl


theorem own_fit {n cap : Nat} {ob : Option Nat} {cs : Array Value} {fz : Nat × Nat} {l : List (List UInt8)} (h : Own 1 ⟨ob, cs, fz, cap⟩ (l.map strC) n) : n ≤ cs.size ∧ l.length = n := by
  have h1 := h.size
  have h2 := h.le
  have h3 := h.len
  simp at h1 h2 h3
  exact ⟨by omega, h3⟩
theorem applyW_end {L : List (List UInt8)} {W : List (Int × List UInt8)} {i : Nat} (h : W.length ≤ i) : applyW L (W.take i) = applyW L W := by rw [List.take_of_length_le h]
theorem flushed_at {k : Dk} {n lb lcap : Nat} {lcs cs : Array Value} {uw : Sl} (h : DkAt k n lb lcs lcap uw) (hc : Own 1 ⟨some lb, cs, (0, 0), lcap⟩ ((applyW k.L k.W).map strC) n) : DkAt k.flushed n lb cs lcap slNil :=
  ⟨by show (applyW _ _).length = _; rw [applyW_len]; exact h.len, hc, own_nil 2, flushed_ok h.ok⟩
theorem keepsL_end {W : List (Int × List UInt8)} {L : List (List UInt8)} {ks : List (Int × Int)} {i : Nat} (h : ks.length ≤ i) : keepsL W L (ks.take i) = keepsL W L ks := by rw [List.take_of_length_le h]
theorem crash_at {k : Dk} {n lb lcap : Nat} {lcs cs : Array Value} {uw : Sl} {ks : List (Int × Int)} (h : DkAt k n lb lcs lcap uw) (hc : Own 1 ⟨some lb, cs, (0, 0), lcap⟩ ((keepsL k.W k.L ks).map strC) n) : DkAt (k.crash ks) n lb cs lcap slNil :=
  ⟨by show (keepsL _ _ _).length = _; rw [keepsL_len]; exact h.len, hc, own_nil 2, crash_ok h.ok ks⟩
theorem pushed_at {k : Dk} {n lb lcap : Nat} {lcs : Array Value} {uw u1 : Sl} {a : Int} {s : List UInt8} (h : DkAt k n lb lcs lcap uw) (hu : Own 2 u1 (k.W.flatMap wCells ++ wCells (a, s)) (k.W.length + 1)) (ha : 0 ≤ a ∧ a < (n : Int)) (hs : s.length = 64) : DkAt (k.pushed a s) n lb lcs lcap u1 :=
  ⟨h.len, h.l, by
    show Own 2 u1 ((k.W ++ [(a, s)]).flatMap wCells) (k.W ++ [(a, s)]).length
    rw [List.flatMap_append, List.length_append]
    simpa using hu, pushed_ok h.ok (by rw [h.len]; exact ha) hs⟩

set_option maxRecDepth 100000 in
set_option maxHeartbeats 1000000 in
theorem dk_flush (d n lb lcap : Nat) (lcs : Array Value) (uw : Sl) (k : Dk) (h : DkAt k n lb lcs lcap uw) :
    Ct Tryz.prog 66 [.pointer (some ⟨d, 0, none⟩)] [] [(some d, .cells #[.slice (some ⟨lb, 0, none⟩) n lcap, uw.v k.W.length, .int .i64 k.fuse, .bool k.dead] 67 (0, 0)), (some lb, .cells lcs 9 (0, 0)), (uw.ob, .cells uw.cs 90 uw.fz)] fun v post => v = .tuple #[] ∧ ∃ lcs1, DkAt k.flushed n lb lcs1 lcap slNil ∧ post = [(some d, .cells #[.slice (some ⟨lb, 0, none⟩) n lcap, slNil.v k.flushed.W.length, .int .i64 k.flushed.fuse, .bool k.flushed.dead] 67 (0, 0)), (some lb, .cells lcs1 9 (0, 0)), (slNil.ob, .cells slNil.cs 90 slNil.fz)] := by
 have hb := h.bd
 have hb1 := hb.n1
 have hb2 := hb.n4
 have hb3 := hb.ncs
 have hb4 := hb.ncap
 have hb5 := hb.cap
 have hb6 := hb.w
 have hb7 := hb.wc
 have hln := h.len
 refine ct_of Tryz.func66 rfl rfl (fun w0 => ?_)
 show G _ _ [(0, _)] _ _
 refine G_seq ?_
 refine G_seq ?_
 refine G_region (l := [0, 1, 2, 3, 4, 5]) rfl ?_
 refine G_val rfl rfl rfl rfl (V_move rfl rfl) ?_
 refine G_val rfl rfl rfl rfl (V_nilCheck rfl rfl) ?_
 refine G_val rfl rfl rfl rfl (V_fieldAddr (fo := 1) rfl Tryz.underlying67 rfl infDiskX_65 rfl rfl rfl) ?_
 refine G_val rfl rfl rfl rfl (V_load1 rfl rfl (mem_at 0 rfl) rfl Tryz.underlying65 rfl) ?_
 refine G_val rfl rfl rfl rfl (V_len rfl rfl Tryz.underlying65 rfl) ?_
 refine G_val rfl rfl rfl rfl (V_move rfl rfl) ?_
 refine G_done ?_
 refine G_block ?_
 refine G_sub ?he1 [0, 0, 0] ?hl1 (G_loop (X := Nat × Array Value) (fun x => match x with | ⟨i, cs⟩ => i ≤ k.W.length ∧ Own 1 ⟨some lb, cs, (0, 0), lcap⟩ ((applyW k.L (k.W.take i)).map strC) n) (fun x => match x with | ⟨i, cs⟩ => k.W.length - i) (fun x => match x with | ⟨i, cs⟩ => [(0, .pointer (some ⟨d, 0, none⟩)), (7, uw.v k.W.length), (8, .int .i64 (k.W.length : Int)), (9, .int .i64 (i : Int))]) (fun x => match x with | ⟨i, cs⟩ => [(some d, .cells #[.slice (some ⟨lb, 0, none⟩) n lcap, uw.v k.W.length, .int .i64 k.fuse, .bool k.dead] 67 (0, 0)), (some lb, .cells cs 9 (0, 0)), (uw.ob, .cells uw.cs 90 uw.fz)]) ?round1 (0, lcs) ?h01)
 case he1 => exact (And.intro rfl (And.intro rfl (And.intro rfl (And.intro rfl trivial))))
 case hl1 => exact ⟨_, rfl⟩
 case h01 => exact ⟨Nat.zero_le _, h.l⟩
 case round1 =>
  intro x hJ ih
  try dsimp only at hJ ih
  obtain ⟨i, cs⟩ := x
  try dsimp only at hJ ih
  obtain ⟨hi, hux⟩ := hJ
  show G _ _ [(0, .pointer (some ⟨d, 0, none⟩)), (7, uw.v k.W.length), (8, .int .i64 (k.W.length : Int)), (9, .int .i64 (i : Int))] [(some d, .cells #[.slice (some ⟨lb, 0, none⟩) n lcap, uw.v k.W.length, .int .i64 k.fuse, .bool k.dead] 67 (0, 0)), (some lb, .cells cs 9 (0, 0)), (uw.ob, .cells uw.cs 90 uw.fz)] _
  refine G_seq ?_
  refine G_region (l := [0]) rfl ?_
  refine G_val rfl rfl rfl rfl (V_lss rfl rfl rfl) ?_
  refine G_done ?_
  refine G_seq ?_
  refine G_ifD rfl (fun hc1 => ?_) (fun hc1 => ?_)
  ·
   refine G_skip ?_
   refine G_seq ?_
   refine G_block ?_
   refine G_seq ?_
   obtain ⟨x, hx⟩ := getI (show i < k.W.length by omega)
   obtain ⟨wo, wcs, wfz, wcap⟩ := uw
   obtain ⟨wb, rfl⟩ := h.w.isSome (by omega)
   obtain ⟨hxa, hxb⟩ := h.ok.wat x (List.mem_of_getElem? hx)
   obtain ⟨hcs, hcl⟩ := own_fit hux
   refine G_region (l := [0, 1, 2, 3]) rfl ?_
   refine G_val rfl rfl rfl rfl (V_indexAddrN (s := 2) rfl Tryz.underlying65 infDiskX_90 rfl rfl rfl rfl (by omega)) ?_
   refine G_val rfl rfl rfl rfl (V_loadA (s := 2) (vs := (wCells x).toArray) rfl rfl (mem_at 2 rfl) Tryz.underlying90 rfl infDiskX_90 rfl (h.w.sees.elem w_len hx) (by rfl)) ?_
   refine G_new rfl rfl rfl rfl (N_allocA rfl infDiskX_90 rfl) (fun b3 => ?_)
   refine G_put (l1 := []) (L' := [_, _, _, _]) rfl rfl rfl rfl (P_storeA (s := 2) rfl rfl rfl (mem_at 0 rfl) (by rfl) infDiskX_90 rfl (by rfl) (by simp [Value.oneCell', wCells, kCells])) rfl ?_
   refine G_done ?_
   refine GH_start (Lq := [_, _]) (isq := [1, 0]) (m := 10) mixedK rfl rfl ?_
   refine GH_take 0 rfl rfl rfl rfl (by kernel_rfl) (by kernel_rfl) (by kernel_rfl) (fun _ _ => (V_move rfl rfl)) ?_
   refine GH_take 1 rfl rfl rfl rfl (by kernel_rfl) (by kernel_rfl) (by kernel_rfl) (fun _ _ => (V_nilCheck rfl rfl)) ?_
   refine GH_take 2 rfl rfl rfl rfl (by kernel_rfl) (by kernel_rfl) (by kernel_rfl) (fun _ _ => (V_fieldAddr (fo := 0) rfl Tryz.underlying67 rfl infDiskX_34 rfl rfl rfl)) ?_
   refine GH_take 3 rfl rfl rfl rfl (by kernel_rfl) (by kernel_rfl) (by kernel_rfl) (fun _ _ => (V_load1 rfl rfl (mem_at 0 rfl) rfl Tryz.underlying34 rfl)) ?_
   refine GH_take 4 rfl rfl rfl rfl (by kernel_rfl) (by kernel_rfl) (by kernel_rfl) (fun _ _ => (V_fieldAddr (fo := 0) rfl Tryz.underlying90 rfl infDiskX_3 rfl rfl rfl)) ?_
   refine GH_take 5 rfl rfl rfl rfl (by kernel_rfl) (by kernel_rfl) (by kernel_rfl) (fun _ _ => (V_load1 rfl rfl (mem_at 1 rfl) rfl Tryz.underlying3 rfl)) ?_
   refine GH_take 6 rfl rfl rfl rfl (by kernel_rfl) (by kernel_rfl) (by kernel_rfl) (fun _ _ => (V_fieldAddr (fo := 1) rfl Tryz.underlying90 rfl infDiskX_9 rfl rfl rfl)) ?_
   refine GH_take 7 rfl rfl rfl rfl (by kernel_rfl) (by kernel_rfl) (by kernel_rfl) (fun _ _ => (V_load1 rfl rfl (mem_at 1 rfl) rfl Tryz.underlying9 rfl)) ?_
   refine GH_take 8 rfl rfl rfl rfl (by kernel_rfl) (by kernel_rfl) (by kernel_rfl) (fun _ _ => (V_indexAddr (s := 1) rfl Tryz.underlying34 infDiskX_9 rfl rfl rfl (by omega) (by first | omega | (simp [wCells, kCells]; done) | (simp [wCells, kCells]; omega) | (simp [wCells, kCells] at *; omega)))) ?_
   refine GH_all [9] (by kernel_rfl) (by decide) ?_
   refine (And.intro ?_ trivial)
   ·
    refine GHop_put (l1 := [_, _]) (L' := [_, _, _, _]) rfl rfl rfl rfl (P_store1 rfl rfl rfl (mem_at 2 rfl) (by first | exact of_decide_eq_true rfl | omega | (simp [wCells, kCells]; done) | (simp [wCells, kCells]; omega) | (simp [wCells, kCells] at *; omega)) infDiskX_9 rfl rfl) rfl [1, 0] rfl ?_
    refine GH_done (by kernel_rfl) ?_
    refine G_inBlock ?_
    refine G_region (l := [0, 1]) rfl ?_
    refine G_val rfl rfl rfl rfl ((V_add rfl rfl rfl).int (wrap_i64 (by omega))) ?_
    refine G_val rfl rfl rfl rfl (V_move rfl rfl) ?_
    refine G_done ?_
    refine G_sub ?_ [1, 1, 1] ?_ (ih (i + 1, cs.setIfInBounds (0 + x.1.toNat * 1) (.string (bs x.2))) ?_ ?_)
    · (refine (And.intro ?_ (And.intro ?_ (And.intro ?_ (And.intro ?_ trivial)))) <;> first | rfl | exact slot_int (by omega) | exact slot_int (by simp))
    · exact ⟨_, rfl⟩
    · exact ⟨by omega, by rw [applyW_next hx]; exact own_set hux x.1.toNat (by omega) x.2⟩
    · (first | omega | (dsimp only; omega))
  refine G_exit rfl ?_
  refine G_addNone (.cells #[] 90 (0, 0)) ?_
  refine G_region (l := [0, 1, 2, 3]) rfl ?_
  refine G_val rfl rfl rfl rfl (V_move rfl rfl) ?_
  refine G_val rfl rfl rfl rfl (V_nilCheck rfl rfl) ?_
  refine G_val rfl rfl rfl rfl (V_fieldAddr (fo := 1) rfl Tryz.underlying67 rfl infDiskX_65 rfl rfl rfl) ?_
  refine G_put (l1 := [_]) (L' := [_, _, _, _]) rfl rfl rfl rfl (P_store1 rfl rfl rfl (mem_at 1 rfl) (by first | exact of_decide_eq_true rfl | omega | (simp [wCells, kCells]; done) | (simp [wCells, kCells]; omega) | (simp [wCells, kCells] at *; omega)) infDiskX_65 rfl rfl) rfl ?_
  refine G_done ?_
  refine G_end (post := [_, _, _]) Tryz.func66 rfl RVs_nil [1, 1, 0] rfl ?_
  dsimp only [packed]
  rw [applyW_end (by omega)] at hux; exact ⟨rfl, cs, flushed_at h hux, rfl⟩

set_option maxRecDepth 100000 in
set_option maxHeartbeats 1000000 in
theorem dk_step_flush (d n lb lcap : Nat) (lcs : Array Value) (uw : Sl) (k : Dk) (h : DkAt k n lb lcs lcap uw) :
    Ct Tryz.prog 64 [.func (.func 65) #[.pointer (some ⟨d, 0, none⟩)] #[], .func (.func 66) #[.pointer (some ⟨d, 0, none⟩)] #[]] [] [(some d, .cells #[.slice (some ⟨lb, 0, none⟩) n lcap, uw.v k.W.length, .int .i64 k.fuse, .bool k.dead] 67 (0, 0)), (some lb, .cells lcs 9 (0, 0)), (uw.ob, .cells uw.cs 90 uw.fz)] fun v post => v = .int .i64 (k.syncE) ∧ ∃ lcs1 uw1, DkAt (k.sync) n lb lcs1 lcap uw1 ∧ post = [(some d, .cells #[.slice (some ⟨lb, 0, none⟩) n lcap, uw1.v (k.sync).W.length, .int .i64 (k.sync).fuse, .bool (k.sync).dead] 67 (0, 0)), (some lb, .cells lcs1 9 (0, 0)), (uw1.ob, .cells uw1.cs 90 uw1.fz)] := by
 have hb := h.bd
 have hb1 := hb.n1
 have hb2 := hb.n4
 have hb3 := hb.ncs
 have hb4 := hb.ncap
 have hb5 := hb.cap
 have hb6 := hb.w
 have hb7 := hb.wc
 have hln := h.len
 refine ct_of Tryz.func64 rfl rfl (fun w0 => ?_)
 show G _ _ [(0, _), (1, _)] _ _
 refine G_seq ?_
 refine G_region (l := [0]) rfl ?_
 refine G_val rfl rfl rfl rfl (V_assign rfl rfl) ?_
 refine G_done ?_
 refine G_seq ?_
 refine G_seq ?_
 refine G_region (l := [0, 1]) rfl ?_
 refine G_val rfl rfl rfl rfl (V_move rfl rfl) ?_
 refine G_callB (L2 := [_, _]) rfl rfl rfl rfl rfl rfl Tryz.call65 rfl (dk_spent _ _ _ _ _ ⟨h.ok.f0, h.ok.f1⟩) [0] [] rfl rfl ?_
 rintro v post ⟨rfl, rfl⟩
 show G _ _ _ [_, _, _] _
 refine G_done ?_
 refine G_if rfl (fun hc1 => ?_) (fun hc1 => ?_)
 ·
  refine G_seq ?_
  refine G_region (l := [0]) rfl ?_
  refine G_val rfl rfl rfl rfl (V_assign rfl rfl) ?_
  refine G_done ?_
  refine G_ret (post := [_, _, _]) Tryz.func64 rfl (RVs_cons (RV_tmp rfl) RVs_nil) [0, 0, 0] rfl ?_
  dsimp only [packed]
  first
    | (obtain ⟨e1, e2⟩ := sync_dead hc1; rw [e1, e2]; exact ⟨rfl, lcs, uw, spent_at h, rfl⟩)
    | (obtain ⟨e1, e2⟩ := sync_live hc1; rw [e1, e2]; exact ⟨rfl, lcs1, slNil, h1, rfl⟩)
 refine G_skip ?_
 refine G_seq ?_
 refine G_region (l := [0, 1]) rfl ?_
 refine G_val rfl rfl rfl rfl (V_move rfl rfl) ?_
 refine G_callB (L2 := []) rfl rfl rfl rfl rfl rfl Tryz.call66 rfl (dk_flush d n lb lcap lcs uw k.spent (spent_at h)) [0, 0, 0] [] rfl rfl ?_
 rintro v post ⟨rfl, lcs1, h1, rfl⟩
 show G _ _ _ [_, _, _] _
 refine G_done ?_
 refine G_seq ?_
 refine G_region (l := [0]) rfl ?_
 refine G_val rfl rfl rfl rfl (V_assign rfl rfl) ?_
 refine G_done ?_
 refine G_ret (post := [_, _, _]) Tryz.func64 rfl (RVs_cons (RV_tmp rfl) RVs_nil) [0, 0, 0] rfl ?_
 dsimp only [packed]
 first
   | (obtain ⟨e1, e2⟩ := sync_dead hc1; rw [e1, e2]; exact ⟨rfl, lcs, uw, spent_at h, rfl⟩)
   | (obtain ⟨e1, e2⟩ := sync_live hc1; rw [e1, e2]; exact ⟨rfl, lcs1, slNil, h1, rfl⟩)

set_option maxRecDepth 100000 in
set_option maxHeartbeats 1000000 in
theorem dk_sync (d n lb lcap : Nat) (lcs : Array Value) (uw : Sl) (k : Dk) (h : DkAt k n lb lcs lcap uw) :
    Ct Tryz.prog 42 [.pointer (some ⟨d, 0, none⟩)] [] [(some d, .cells #[.slice (some ⟨lb, 0, none⟩) n lcap, uw.v k.W.length, .int .i64 k.fuse, .bool k.dead] 67 (0, 0)), (some lb, .cells lcs 9 (0, 0)), (uw.ob, .cells uw.cs 90 uw.fz)] fun v post => v = .int .i64 (k.syncE) ∧ ∃ lcs1 uw1, DkAt (k.sync) n lb lcs1 lcap uw1 ∧ post = [(some d, .cells #[.slice (some ⟨lb, 0, none⟩) n lcap, uw1.v (k.sync).W.length, .int .i64 (k.sync).fuse, .bool (k.sync).dead] 67 (0, 0)), (some lb, .cells lcs1 9 (0, 0)), (uw1.ob, .cells uw1.cs 90 uw1.fz)] := by
 refine ct_of Tryz.func42 rfl rfl (fun w0 => ?_)
 show G _ _ [(0, _)] _ _
 refine G_seq ?_
 refine G_region (l := [0]) rfl ?_
 refine G_val rfl rfl rfl rfl (V_assign rfl rfl) ?_
 refine G_done ?_
 refine G_seq ?_
 refine G_seq ?_
 refine G_region (l := [0, 1]) rfl ?_
 refine G_val rfl rfl rfl rfl (V_move rfl rfl) ?_
 refine G_val rfl rfl rfl rfl (V_peqlN rfl Tryz.underlying26 rfl rfl) ?_
 refine G_done ?_
 refine G_else rfl ?_
 refine G_skip ?_
 refine G_seq ?_
 refine G_region (l := [0, 1, 2, 3, 4, 5]) rfl ?_
 refine G_val rfl rfl rfl rfl (V_move rfl rfl) ?_
 refine G_val rfl rfl rfl rfl (V_func rfl rfl rfl) ?_
 refine G_val rfl rfl rfl rfl (V_move rfl rfl) ?_
 refine G_val rfl rfl rfl rfl (V_func rfl rfl rfl) ?_
 refine G_call (L2 := []) rfl rfl rfl rfl rfl rfl Tryz.call64 (dk_step_flush d n lb lcap lcs uw k h) [0, 0, 0] [] rfl rfl ?_
 rintro v post ⟨rfl, lcs1, uw1, h1, rfl⟩
 show G _ _ _ [_, _, _] _
 refine G_val rfl rfl rfl rfl (V_assign rfl rfl) ?_
 refine G_done ?_
 refine G_ret (post := [_, _, _]) Tryz.func42 rfl (RVs_cons (RV_tmp rfl) RVs_nil) [0, 0, 0] rfl ?_
 dsimp only [packed]
 exact ⟨rfl, lcs1, uw1, h1, rfl⟩

set_option maxRecDepth 100000 in
set_option maxHeartbeats 1000000 in
theorem dk_sync_nil  :
    Ct Tryz.prog 42 [.pointer none] [] [] fun v post => v = .int .i64 19 ∧ post = [] := by
 refine ct_of Tryz.func42 rfl rfl (fun w0 => ?_)
 show G _ _ [(0, _)] _ _
 refine G_seq ?_
 refine G_region (l := [0]) rfl ?_
 refine G_val rfl rfl rfl rfl (V_assign rfl rfl) ?_
 refine G_done ?_
 refine G_seq ?_
 refine G_seq ?_
 refine G_region (l := [0, 1]) rfl ?_
 refine G_val rfl rfl rfl rfl (V_move rfl rfl) ?_
 refine G_val rfl rfl rfl rfl (V_peqlN rfl Tryz.underlying26 rfl rfl) ?_
 refine G_done ?_
 refine G_then rfl ?_
 refine G_seq ?_
 refine G_region (l := [0]) rfl ?_
 refine G_val rfl rfl rfl rfl (V_assign rfl rfl) ?_
 refine G_done ?_
 refine G_ret (post := []) Tryz.func42 rfl (RVs_cons (RV_tmp rfl) RVs_nil) [] rfl ?_
 dsimp only [packed]
 exact ⟨rfl, rfl⟩

set_option maxRecDepth 100000 in
set_option maxHeartbeats 1000000 in
theorem dk_write1 (d n lb lcap : Nat) (lcs : Array Value) (uw : Sl) (k : Dk) (h : DkAt k n lb lcs lcap uw) (b3 b4 b5 : Nat) (a : Int) (s : List UInt8) (hW : k.W.length ≤ 1000000) :
    Ct Tryz.prog 82 [.pointer (some ⟨b3, 0, none⟩), .pointer (some ⟨b4, 0, none⟩), .pointer (some ⟨b5, 0, none⟩)] [(some b3, .cells #[.pointer (some ⟨d, 0, none⟩)] 26 (0, 0)), (some b4, .cells #[.int .i64 a] 3 (0, 0)), (some b5, .cells #[.string (bs s)] 9 (0, 0))] [(some d, .cells #[.slice (some ⟨lb, 0, none⟩) n lcap, uw.v k.W.length, .int .i64 k.fuse, .bool k.dead] 67 (0, 0)), (uw.ob, .cells uw.cs 90 uw.fz)] fun v post => v = .tuple #[] ∧ ∃ u1, Own 2 u1 (k.W.flatMap wCells ++ wCells (a, s)) (k.W.length + 1) ∧ post = [(some d, .cells #[.slice (some ⟨lb, 0, none⟩) n lcap, u1.v (k.W.length + 1), .int .i64 k.fuse, .bool k.dead] 67 (0, 0)), (u1.ob, .cells u1.cs 90 u1.fz)] := by
 have hb := h.bd
 have hb1 := hb.n1
 have hb2 := hb.n4
 have hb3 := hb.ncs
 have hb4 := hb.ncap
 have hb5 := hb.cap
 have hb6 := hb.w
 have hb7 := hb.wc
 have hln := h.len
 refine ct_of Tryz.func82 rfl rfl (fun w0 => ?_)
 show G _ _ [(0, _), (1, _), (2, _)] _ _
 refine GH_start (Lq := []) (isq := []) (m := 13) mixedK rfl rfl ?_
 refine GH_take 0 rfl rfl rfl rfl (by kernel_rfl) (by kernel_rfl) (by kernel_rfl) (fun _ _ => (V_load1 rfl rfl (mem_at 0 rfl) rfl Tryz.underlying26 rfl)) ?_
 refine GH_take 1 rfl rfl rfl rfl (by kernel_rfl) (by kernel_rfl) (by kernel_rfl) (fun _ _ => (V_load1 rfl rfl (mem_at 0 rfl) rfl Tryz.underlying26 rfl)) ?_
 refine GH_take 2 rfl rfl rfl rfl (by kernel_rfl) (by kernel_rfl) (by kernel_rfl) (fun _ _ => (V_nilCheck rfl rfl)) ?_
 refine GH_take 3 rfl rfl rfl rfl (by kernel_rfl) (by kernel_rfl) (by kernel_rfl) (fun _ _ => (V_fieldAddr (fo := 1) rfl Tryz.underlying67 rfl infDiskX_65 rfl rfl rfl)) ?_
 refine GH_take 5 rfl rfl rfl rfl (by kernel_rfl) (by kernel_rfl) (by kernel_rfl) (fun _ _ => (V_load1 rfl rfl (mem_at 1 rfl) rfl Tryz.underlying3 rfl)) ?_
 refine GH_take 6 rfl rfl rfl rfl (by kernel_rfl) (by kernel_rfl) (by kernel_rfl) (fun _ _ => (V_load1 rfl rfl (mem_at 2 rfl) rfl Tryz.underlying9 rfl)) ?_
 refine GH_take 7 rfl rfl rfl rfl (by kernel_rfl) (by kernel_rfl) (by kernel_rfl) (fun _ _ => (V_buildS (cs := [_, _]) rfl Tryz.underlying90 infDiskX_90 rfl plcDiskX_90 rfl rfl rfl)) ?_
 refine GH_all [4, 8] (by kernel_rfl) (by decide) ?_
 refine (And.intro ?_ (And.intro ?_ trivial))
 ·
  refine GHop_val rfl rfl rfl rfl (V_load1 rfl rfl (mem_at 3 rfl) rfl Tryz.underlying65 rfl) ?_
  refine GH_all [8] (by kernel_rfl) (by decide) ?_
  refine (And.intro ?_ trivial)
  ·
   refine GHop_new rfl rfl rfl rfl (N_buildAll (s := 2) (cs := [_, _]) rfl Tryz.underlying65 infDiskX_90 rfl rfl rfl rfl rfl rfl rfl rfl rfl) [] (fun _ => ⟨_, rfl⟩) (fun b11 => ?_)
   refine GH_all [9] (by kernel_rfl) (by decide) ?_
   refine (And.intro ?_ trivial)
   ·
    refine GHop_append (l1 := [_, _]) (s := uw) (nn := k.W.length) (m := 1) (news := wCells (a, s)) (bt := 24) rfl rfl rfl rfl Tryz.underlying65 Tryz.underlying65 (by first | exact .inl rfl | exact .inr ⟨_, rfl⟩) infDiskX_90 rfl rfl rfl rfl rfl rfl h.w rfl (src_mem (mem_at 3 rfl) rfl rfl (by simp [wCells, Value.oneCell'])) (by omega) (by omega) [] (fun _ => ⟨_, rfl⟩) ?_
    intro u1 hu1 _
    show GH _ _ _ _ _ _ _ [_, _, _] _
    refine GH_take 10 rfl rfl rfl rfl (by kernel_rfl) (by kernel_rfl) (by kernel_rfl) (fun _ _ => (V_nilCheck rfl rfl)) ?_
    refine GH_take 11 rfl rfl rfl rfl (by kernel_rfl) (by kernel_rfl) (by kernel_rfl) (fun _ _ => (V_fieldAddr (fo := 1) rfl Tryz.underlying67 rfl infDiskX_65 rfl rfl rfl)) ?_
    refine GH_all [12] (by kernel_rfl) (by decide) ?_
    refine (And.intro ?_ trivial)
    ·
     refine GHop_put (l1 := [_]) (L' := [_, _, _]) rfl rfl rfl rfl (P_store1 rfl rfl rfl (mem_at 1 rfl) (by first | exact of_decide_eq_true rfl | omega | (simp [wCells, kCells]; done) | (simp [wCells, kCells]; omega) | (simp [wCells, kCells] at *; omega)) infDiskX_65 rfl rfl) rfl [] rfl ?_
     refine GH_done (by kernel_rfl) ?_
     refine G_end (post := [_, _]) Tryz.func82 rfl RVs_nil [1, 1] rfl ?_
     dsimp only [packed]
     exact ⟨rfl, u1, hu1, rfl⟩
 ·
  refine GHop_new rfl rfl rfl rfl (N_buildAll (s := 2) (cs := [_, _]) rfl Tryz.underlying65 infDiskX_90 rfl rfl rfl rfl rfl rfl rfl rfl rfl) [] (fun _ => ⟨_, rfl⟩) (fun b11 => ?_)
  refine GH_all [4] (by kernel_rfl) (by decide) ?_
  refine (And.intro ?_ trivial)
  ·
   refine GHop_val rfl rfl rfl rfl (V_load1 rfl rfl (mem_at 4 rfl) rfl Tryz.underlying65 rfl) ?_
   refine GH_all [9] (by kernel_rfl) (by decide) ?_
   refine (And.intro ?_ trivial)
   ·
    refine GHop_append (l1 := [_, _]) (s := uw) (nn := k.W.length) (m := 1) (news := wCells (a, s)) (bt := 24) rfl rfl rfl rfl Tryz.underlying65 Tryz.underlying65 (by first | exact .inl rfl | exact .inr ⟨_, rfl⟩) infDiskX_90 rfl rfl rfl rfl rfl rfl h.w rfl (src_mem (mem_at 3 rfl) rfl rfl (by simp [wCells, Value.oneCell'])) (by omega) (by omega) [] (fun _ => ⟨_, rfl⟩) ?_
    intro u1 hu1 _
    show GH _ _ _ _ _ _ _ [_, _, _] _
    refine GH_take 10 rfl rfl rfl rfl (by kernel_rfl) (by kernel_rfl) (by kernel_rfl) (fun _ _ => (V_nilCheck rfl rfl)) ?_
    refine GH_take 11 rfl rfl rfl rfl (by kernel_rfl) (by kernel_rfl) (by kernel_rfl) (fun _ _ => (V_fieldAddr (fo := 1) rfl Tryz.underlying67 rfl infDiskX_65 rfl rfl rfl)) ?_
    refine GH_all [12] (by kernel_rfl) (by decide) ?_
    refine (And.intro ?_ trivial)
    ·
     refine GHop_put (l1 := [_]) (L' := [_, _, _]) rfl rfl rfl rfl (P_store1 rfl rfl rfl (mem_at 1 rfl) (by first | exact of_decide_eq_true rfl | omega | (simp [wCells, kCells]; done) | (simp [wCells, kCells]; omega) | (simp [wCells, kCells] at *; omega)) infDiskX_65 rfl rfl) rfl [] rfl ?_
     refine GH_done (by kernel_rfl) ?_
     refine G_end (post := [_, _]) Tryz.func82 rfl RVs_nil [1, 1] rfl ?_
     dsimp only [packed]
     exact ⟨rfl, u1, hu1, rfl⟩

set_option maxRecDepth 100000 in
set_option maxHeartbeats 1000000 in
theorem dk_step_write (d n lb lcap : Nat) (lcs : Array Value) (uw : Sl) (k : Dk) (h : DkAt k n lb lcs lcap uw) (b3 b4 b5 : Nat) (a : Int) (s : List UInt8) (hW : k.W.length ≤ 1000000) (ha : hasE k.L.length a = 0) (hs : s.length = 64) :
    Ct Tryz.prog 64 [.func (.func 65) #[.pointer (some ⟨d, 0, none⟩)] #[], .func (.func 82) #[] #[.pointer (some ⟨b3, 0, none⟩), .pointer (some ⟨b4, 0, none⟩), .pointer (some ⟨b5, 0, none⟩)]] [(some b3, .cells #[.pointer (some ⟨d, 0, none⟩)] 26 (0, 0)), (some b4, .cells #[.int .i64 a] 3 (0, 0)), (some b5, .cells #[.string (bs s)] 9 (0, 0))] [(some d, .cells #[.slice (some ⟨lb, 0, none⟩) n lcap, uw.v k.W.length, .int .i64 k.fuse, .bool k.dead] 67 (0, 0)), (some lb, .cells lcs 9 (0, 0)), (uw.ob, .cells uw.cs 90 uw.fz)] fun v post => v = .int .i64 (k.writeE a s) ∧ ∃ lcs1 uw1, DkAt (k.write a s) n lb lcs1 lcap uw1 ∧ post = [(some d, .cells #[.slice (some ⟨lb, 0, none⟩) n lcap, uw1.v (k.write a s).W.length, .int .i64 (k.write a s).fuse, .bool (k.write a s).dead] 67 (0, 0)), (some lb, .cells lcs1 9 (0, 0)), (uw1.ob, .cells uw1.cs 90 uw1.fz)] := by
 have hb := h.bd
 have hb1 := hb.n1
 have hb2 := hb.n4
 have hb3 := hb.ncs
 have hb4 := hb.ncap
 have hb5 := hb.cap
 have hb6 := hb.w
 have hb7 := hb.wc
 have hln := h.len
 refine ct_of Tryz.func64 rfl rfl (fun w0 => ?_)
 show G _ _ [(0, _), (1, _)] _ _
 refine G_seq ?_
 refine G_region (l := [0]) rfl ?_
 refine G_val rfl rfl rfl rfl (V_assign rfl rfl) ?_
 refine G_done ?_
 refine G_seq ?_
 refine G_seq ?_
 refine G_region (l := [0, 1]) rfl ?_
 refine G_val rfl rfl rfl rfl (V_move rfl rfl) ?_
 refine G_callB (L2 := [_, _]) rfl rfl rfl rfl rfl rfl Tryz.call65 rfl (dk_spent _ _ _ _ _ ⟨h.ok.f0, h.ok.f1⟩) [0] [] rfl rfl ?_
 rintro v post ⟨rfl, rfl⟩
 show G _ _ _ [_, _, _] _
 refine G_done ?_
 refine G_if rfl (fun hc1 => ?_) (fun hc1 => ?_)
 ·
  refine G_seq ?_
  refine G_region (l := [0]) rfl ?_
  refine G_val rfl rfl rfl rfl (V_assign rfl rfl) ?_
  refine G_done ?_
  refine G_ret (post := [_, _, _]) Tryz.func64 rfl (RVs_cons (RV_tmp rfl) RVs_nil) [0, 0, 0] rfl ?_
  dsimp only [packed]
  first
    | (obtain ⟨e1, e2⟩ := write_dead ha hs hc1; rw [e1, e2]; exact ⟨rfl, lcs, uw, spent_at h, rfl⟩)
    | (obtain ⟨e1, e2⟩ := write_live ha hs hc1
       have hr := hasE_ok.1 ha
       have e3 : (k.spent.pushed a s).W.length = k.W.length + 1 := by show (k.W ++ [(a, s)]).length = _; simp
       rw [e1, e2, e3]; exact ⟨rfl, lcs, u1, pushed_at (spent_at h) hu1 ⟨hr.1, by omega⟩ hs, rfl⟩)
 refine G_skip ?_
 refine G_seq ?_
 refine G_region (l := [0, 1]) rfl ?_
 refine G_val rfl rfl rfl rfl (V_move rfl rfl) ?_
 refine G_callB (L2 := [_]) rfl rfl rfl rfl rfl rfl Tryz.call82 rfl (dk_write1 d n lb lcap lcs uw k.spent (spent_at h) b3 b4 b5 a s hW) [0, 1] [0, 1, 2] rfl rfl ?_
 rintro v post ⟨rfl, u1, hu1, rfl⟩
 show G _ _ _ [_, _, _] _
 refine G_done ?_
 refine G_seq ?_
 refine G_region (l := [0]) rfl ?_
 refine G_val rfl rfl rfl rfl (V_assign rfl rfl) ?_
 refine G_done ?_
 refine G_ret (post := [_, _, _]) Tryz.func64 rfl (RVs_cons (RV_tmp rfl) RVs_nil) [0, 1, 0] rfl ?_
 dsimp only [packed]
 first
   | (obtain ⟨e1, e2⟩ := write_dead ha hs hc1; rw [e1, e2]; exact ⟨rfl, lcs, uw, spent_at h, rfl⟩)
   | (obtain ⟨e1, e2⟩ := write_live ha hs hc1
      have hr := hasE_ok.1 ha
      have e3 : (k.spent.pushed a s).W.length = k.W.length + 1 := by show (k.W ++ [(a, s)]).length = _; simp
      rw [e1, e2, e3]; exact ⟨rfl, lcs, u1, pushed_at (spent_at h) hu1 ⟨hr.1, by omega⟩ hs, rfl⟩)

set_option maxRecDepth 100000 in
set_option maxHeartbeats 1000000 in
theorem dk_write (d n lb lcap : Nat) (lcs : Array Value) (uw : Sl) (k : Dk) (h : DkAt k n lb lcs lcap uw) (a : Int) (s : List UInt8) (hW : k.W.length ≤ 1000000) :
    Ct Tryz.prog 58 [.pointer (some ⟨d, 0, none⟩), .int .i64 a, .string (bs s)] [] [(some d, .cells #[.slice (some ⟨lb, 0, none⟩) n lcap, uw.v k.W.length, .int .i64 k.fuse, .bool k.dead] 67 (0, 0)), (some lb, .cells lcs 9 (0, 0)), (uw.ob, .cells uw.cs 90 uw.fz)] fun v post => v = .int .i64 (k.writeE a s) ∧ ∃ lcs1 uw1, DkAt (k.write a s) n lb lcs1 lcap uw1 ∧ post = [(some d, .cells #[.slice (some ⟨lb, 0, none⟩) n lcap, uw1.v (k.write a s).W.length, .int .i64 (k.write a s).fuse, .bool (k.write a s).dead] 67 (0, 0)), (some lb, .cells lcs1 9 (0, 0)), (uw1.ob, .cells uw1.cs 90 uw1.fz)] := by
 have hb := h.bd
 have hb1 := hb.n1
 have hb2 := hb.n4
 have hb3 := hb.ncs
 have hb4 := hb.ncap
 have hb5 := hb.cap
 have hb6 := hb.w
 have hb7 := hb.wc
 have hln := h.len
 refine ct_of Tryz.func58 rfl rfl (fun w0 => ?_)
 show G _ _ [(0, _), (1, _), (2, _)] _ _
 refine G_seq ?_
 refine G_region (l := [0, 1, 2, 3]) rfl ?_
 refine G_new rfl rfl rfl rfl (N_box1 rfl rfl rfl) (fun b3 => ?_)
 refine G_new rfl rfl rfl rfl (N_box1 rfl rfl rfl) (fun b4 => ?_)
 refine G_new rfl rfl rfl rfl (N_box1 rfl rfl rfl) (fun b5 => ?_)
 refine G_val rfl rfl rfl rfl (V_assign rfl rfl) ?_
 refine G_done ?_
 refine G_seq ?_
 refine G_seq ?_
 refine G_region (l := [0, 1, 2, 3]) rfl ?_
 refine G_val rfl rfl rfl rfl (V_load1 rfl rfl (mem_at 2 rfl) rfl Tryz.underlying26 rfl) ?_
 refine G_val rfl rfl rfl rfl (V_load1 rfl rfl (mem_at 1 rfl) rfl Tryz.underlying3 rfl) ?_
 refine G_call (L2 := [_, _, _, _, _, _]) rfl rfl rfl rfl rfl rfl Tryz.call81 (dk_has _ _ _ _ _ _ _ h _) [] [3] rfl rfl ?_
 rintro v post ⟨rfl, rfl⟩
 show G _ _ _ [_, _, _, _, _, _] _
 refine G_val rfl rfl rfl rfl (V_assign rfl rfl) ?_
 refine G_done ?_
 refine G_seq ?_
 refine G_region (l := [0, 1]) rfl ?_
 refine G_val rfl rfl rfl rfl (V_move rfl rfl) ?_
 refine G_val rfl rfl rfl rfl (V_neq rfl rfl rfl) ?_
 refine G_done ?_
 refine G_ifD rfl (fun hc1 => ?_) (fun hc1 => ?_)
 ·
  refine G_seq ?_
  refine G_region (l := [0, 1]) rfl ?_
  refine G_val rfl rfl rfl rfl (V_move rfl rfl) ?_
  refine G_val rfl rfl rfl rfl (V_assign rfl rfl) ?_
  refine G_done ?_
  refine G_ret (post := [_, _, _]) Tryz.func58 rfl (RVs_cons (RV_tmp rfl) RVs_nil) [3, 3, 3] rfl ?_
  dsimp only [packed]
  first
    | exact ⟨rfl, lcs1, uw1, h1, rfl⟩
    | (obtain ⟨e1, e2⟩ := write_no1 (s := s) (by assumption : ¬ hasE k.L.length a = 0); rw [e1, e2]; exact ⟨rfl, lcs, uw, h, rfl⟩)
    | (obtain ⟨e1, e2⟩ := write_no2 (Classical.not_not.1 hc1) hc2; rw [e1, e2]; exact ⟨rfl, lcs, uw, h, rfl⟩)
 refine G_skip ?_
 refine G_seq ?_
 refine G_seq ?_
 refine G_region (l := [0, 1, 2]) rfl ?_
 refine G_val rfl rfl rfl rfl (V_load1 rfl rfl (mem_at 0 rfl) rfl Tryz.underlying9 rfl) ?_
 refine G_val rfl rfl rfl rfl (V_slen rfl rfl Tryz.underlying9 rfl) ?_
 refine G_val rfl rfl rfl rfl (V_neq rfl rfl rfl) ?_
 refine G_done ?_
 refine G_ifD rfl (fun hc2 => ?_) (fun hc2 => ?_)
 ·
  refine G_seq ?_
  refine G_region (l := [0]) rfl ?_
  refine G_val rfl rfl rfl rfl (V_assign rfl rfl) ?_
  refine G_done ?_
  refine G_ret (post := [_, _, _]) Tryz.func58 rfl (RVs_cons (RV_tmp rfl) RVs_nil) [3, 3, 3] rfl ?_
  dsimp only [packed]
  first
    | exact ⟨rfl, lcs1, uw1, h1, rfl⟩
    | (obtain ⟨e1, e2⟩ := write_no1 (s := s) (by assumption : ¬ hasE k.L.length a = 0); rw [e1, e2]; exact ⟨rfl, lcs, uw, h, rfl⟩)
    | (obtain ⟨e1, e2⟩ := write_no2 (Classical.not_not.1 hc1) hc2; rw [e1, e2]; exact ⟨rfl, lcs, uw, h, rfl⟩)
 refine G_skip ?_
 refine G_seq ?_
 refine G_region (l := [0, 1, 2, 3, 4]) rfl ?_
 refine G_val rfl rfl rfl rfl (V_load1 rfl rfl (mem_at 2 rfl) rfl Tryz.underlying26 rfl) ?_
 refine G_val rfl rfl rfl rfl (V_func rfl rfl rfl) ?_
 refine G_val rfl rfl rfl rfl (V_func rfl rfl rfl) ?_
 refine G_call (L2 := [_, _, _]) rfl rfl rfl rfl rfl rfl Tryz.call64 (dk_step_write d n lb lcap lcs uw k h b3 b4 b5 a s hW (Classical.not_not.1 hc1) (by omega)) [3, 3, 3] [2, 1, 0] rfl rfl ?_
 rintro v post ⟨rfl, lcs1, uw1, h1, rfl⟩
 show G _ _ _ [_, _, _, _, _, _] _
 refine G_val rfl rfl rfl rfl (V_assign rfl rfl) ?_
 refine G_done ?_
 refine G_ret (post := [_, _, _]) Tryz.func58 rfl (RVs_cons (RV_tmp rfl) RVs_nil) [0, 0, 0] rfl ?_
 dsimp only [packed]
 first
   | exact ⟨rfl, lcs1, uw1, h1, rfl⟩
   | (obtain ⟨e1, e2⟩ := write_no1 (s := s) (by assumption : ¬ hasE k.L.length a = 0); rw [e1, e2]; exact ⟨rfl, lcs, uw, h, rfl⟩)
   | (obtain ⟨e1, e2⟩ := write_no2 (Classical.not_not.1 hc1) hc2; rw [e1, e2]; exact ⟨rfl, lcs, uw, h, rfl⟩)

set_option maxRecDepth 100000 in
set_option maxHeartbeats 1000000 in
theorem dk_write_nil (a : Int) (s : List UInt8) :
    Ct Tryz.prog 58 [.pointer none, .int .i64 a, .string (bs s)] [] [] fun v post => v = .int .i64 19 ∧ post = [] := by
 refine ct_of Tryz.func58 rfl rfl (fun w0 => ?_)
 show G _ _ [(0, _), (1, _), (2, _)] _ _
 refine G_seq ?_
 refine G_region (l := [0, 1, 2, 3]) rfl ?_
 refine G_new rfl rfl rfl rfl (N_box1 rfl rfl rfl) (fun b3 => ?_)
 refine G_new rfl rfl rfl rfl (N_box1 rfl rfl rfl) (fun b4 => ?_)
 refine G_new rfl rfl rfl rfl (N_box1 rfl rfl rfl) (fun b5 => ?_)
 refine G_val rfl rfl rfl rfl (V_assign rfl rfl) ?_
 refine G_done ?_
 refine G_seq ?_
 refine G_seq ?_
 refine G_region (l := [0, 1, 2, 3]) rfl ?_
 refine G_val rfl rfl rfl rfl (V_load1 rfl rfl (mem_at 2 rfl) rfl Tryz.underlying26 rfl) ?_
 refine G_val rfl rfl rfl rfl (V_load1 rfl rfl (mem_at 1 rfl) rfl Tryz.underlying3 rfl) ?_
 refine G_call (L2 := [_, _, _]) rfl rfl rfl rfl rfl rfl Tryz.call81 (dk_has_nil a) [] [] rfl rfl ?_
 rintro v post ⟨rfl, rfl⟩
 show G _ _ _ [_, _, _] _
 refine G_val rfl rfl rfl rfl (V_assign rfl rfl) ?_
 refine G_done ?_
 refine G_seq ?_
 refine G_region (l := [0, 1]) rfl ?_
 refine G_val rfl rfl rfl rfl (V_move rfl rfl) ?_
 refine G_val rfl rfl rfl rfl (V_neq rfl rfl rfl) ?_
 refine G_done ?_
 refine G_ifD rfl (fun hc1 => ?_) (fun hc1 => ?_)
 rotate_left
 · (first | (exact absurd rfl hc1) | (exact absurd hc1 (by decide)) | (exfalso; omega))
 refine G_seq ?_
 refine G_region (l := [0, 1]) rfl ?_
 refine G_val rfl rfl rfl rfl (V_move rfl rfl) ?_
 refine G_val rfl rfl rfl rfl (V_assign rfl rfl) ?_
 refine G_done ?_
 refine G_ret (post := []) Tryz.func58 rfl (RVs_cons (RV_tmp rfl) RVs_nil) [] rfl ?_
 dsimp only [packed]
 exact ⟨rfl, rfl⟩

end
end Go.Proofs.YtbblkgdejgoncaaGreatDoor

/- The walks of layer 22, on: a crash, a new disk. -/
set_option linter.unusedSimpArgs false
set_option linter.unusedVariables false
namespace Go.Proofs.YtbblkgdejgoncaaGreatDoor
open Go Go.RowKit

section
theorem infDiskY_3 : Tryz.prog.info? 3 = some Tryz.t3 := by kernel_rfl
theorem infDiskY_4 : Tryz.prog.info? 4 = some Tryz.t4 := by kernel_rfl
theorem infDiskY_9 : Tryz.prog.info? 9 = some Tryz.t9 := by kernel_rfl
theorem infDiskY_34 : Tryz.prog.info? 34 = some Tryz.t34 := by kernel_rfl
theorem infDiskY_65 : Tryz.prog.info? 65 = some Tryz.t65 := by kernel_rfl
theorem infDiskY_67 : Tryz.prog.info? 67 = some Tryz.t67 := by kernel_rfl
theorem infDiskY_88 : Tryz.prog.info? 88 = some Tryz.t88 := by kernel_rfl
theorem infDiskY_90 : Tryz.prog.info? 90 = some Tryz.t90 := by kernel_rfl
theorem plcDiskY_67 : placesOf Tryz.prog (Tryz.prog.fieldsOf 67) = some [(0, 1), (1, 1), (2, 1), (3, 1)] := by kernel_rfl

set_option maxRecDepth 100000 in
set_option maxHeartbeats 1000000 in
theorem dk_crash (d n lb lcap : Nat) (lcs : Array Value) (uw : Sl) (k : Dk) (h : DkAt k n lb lcs lcap uw) (o1 : Option Nat) (p1 q1 : Nat) (c1 : Array Value) (T1 : TypeId) (f1 : Nat × Nat) (ks : List (Int × Int)) (hs : Sees 2 o1 p1 q1 c1 (ks.flatMap kCells) ks.length) :
    Ct Tryz.prog 26 [.pointer (some ⟨d, 0, none⟩), sv o1 p1 ks.length q1] [(o1, .cells c1 T1 f1)] [(some d, .cells #[.slice (some ⟨lb, 0, none⟩) n lcap, uw.v k.W.length, .int .i64 k.fuse, .bool k.dead] 67 (0, 0)), (some lb, .cells lcs 9 (0, 0)), (uw.ob, .cells uw.cs 90 uw.fz)] fun v post => v = .int .i64 0 ∧ ∃ lcs1, DkAt (k.crash ks) n lb lcs1 lcap slNil ∧ post = [(some d, .cells #[.slice (some ⟨lb, 0, none⟩) n lcap, slNil.v (k.crash ks).W.length, .int .i64 (k.crash ks).fuse, .bool (k.crash ks).dead] 67 (0, 0)), (some lb, .cells lcs1 9 (0, 0)), (slNil.ob, .cells slNil.cs 90 slNil.fz)] := by
 have hb := h.bd
 have hb1 := hb.n1
 have hb2 := hb.n4
 have hb3 := hb.ncs
 have hb4 := hb.ncap
 have hb5 := hb.cap
 have hb6 := hb.w
 have hb7 := hb.wc
 have hln := h.len
 have hk1 := hs.le
 have hk2 := hs.max
 refine ct_of Tryz.func26 rfl rfl (fun w0 => ?_)
 show G _ _ [(0, _), (1, _)] _ _
 refine G_seq ?_
 refine G_region (l := [0]) rfl ?_
 refine G_val rfl rfl rfl rfl (V_assign rfl rfl) ?_
 refine G_done ?_
 refine G_seq ?_
 refine G_seq ?_
 refine G_region (l := [0, 1]) rfl ?_
 refine G_val rfl rfl rfl rfl (V_move rfl rfl) ?_
 refine G_val rfl rfl rfl rfl (V_peqlN rfl Tryz.underlying26 rfl rfl) ?_
 refine G_done ?_
 refine G_else rfl ?_
 refine G_skip ?_
 refine G_seq ?_
 refine G_seq ?_
 refine G_region (l := [0, 1, 2]) rfl ?_
 refine G_val rfl rfl rfl rfl (V_move rfl rfl) ?_
 refine G_val rfl rfl rfl rfl (V_len rfl rfl Tryz.underlying54 rfl) ?_
 refine G_val rfl rfl rfl rfl (V_move rfl rfl) ?_
 refine G_done ?_
 refine G_block ?_
 refine G_sub ?he4 [0, 0, 0] ?hl4 (G_loop (X := Nat × Array Value) (fun x => match x with | ⟨i, cs⟩ => i ≤ ks.length ∧ Own 1 ⟨some lb, cs, (0, 0), lcap⟩ ((keepsL k.W k.L (ks.take i)).map strC) n) (fun x => match x with | ⟨i, cs⟩ => ks.length - i) (fun x => match x with | ⟨i, cs⟩ => [(0, .pointer (some ⟨d, 0, none⟩)), (11, sv o1 p1 ks.length q1), (12, .int .i64 (ks.length : Int)), (13, .int .i64 (i : Int))]) (fun x => match x with | ⟨i, cs⟩ => [(some d, .cells #[.slice (some ⟨lb, 0, none⟩) n lcap, uw.v k.W.length, .int .i64 k.fuse, .bool k.dead] 67 (0, 0)), (some lb, .cells cs 9 (0, 0)), (uw.ob, .cells uw.cs 90 uw.fz)]) ?round4 (0, lcs) ?h04)
 case he4 => exact (And.intro rfl (And.intro rfl (And.intro rfl (And.intro rfl trivial))))
 case hl4 => exact ⟨_, rfl⟩
 case h04 => exact ⟨Nat.zero_le _, h.l⟩
 case round4 =>
  intro x hJ ih
  try dsimp only at hJ ih
  obtain ⟨i, cs⟩ := x
  try dsimp only at hJ ih
  obtain ⟨hi, hux⟩ := hJ
  show G _ _ [(0, .pointer (some ⟨d, 0, none⟩)), (11, sv o1 p1 ks.length q1), (12, .int .i64 (ks.length : Int)), (13, .int .i64 (i : Int))] [(some d, .cells #[.slice (some ⟨lb, 0, none⟩) n lcap, uw.v k.W.length, .int .i64 k.fuse, .bool k.dead] 67 (0, 0)), (some lb, .cells cs 9 (0, 0)), (uw.ob, .cells uw.cs 90 uw.fz)] _
  refine G_seq ?_
  refine G_region (l := [0]) rfl ?_
  refine G_val rfl rfl rfl rfl (V_lss rfl rfl rfl) ?_
  refine G_done ?_
  refine G_seq ?_
  refine G_ifD rfl (fun hc1 => ?_) (fun hc1 => ?_)
  ·
   refine G_skip ?_
   refine G_seq ?_
   refine G_block ?_
   refine G_seq ?_
   obtain ⟨x, hx⟩ := getI (show i < ks.length by omega)
   obtain ⟨b1, rfl⟩ := hs.isSome (by omega)
   obtain ⟨hcs, hcl⟩ := own_fit hux
   refine G_region (l := [0, 1, 2, 3]) rfl ?_
   refine G_val rfl rfl rfl rfl (V_indexAddrN (s := 2) rfl Tryz.underlying54 infDiskY_88 rfl rfl rfl rfl (by omega)) ?_
   refine G_val rfl rfl rfl rfl (V_loadA (s := 2) (vs := (kCells x).toArray) rfl rfl (mem_at 0 rfl) Tryz.underlying88 rfl infDiskY_88 rfl (hs.elem k_len hx) (by rfl)) ?_
   refine G_new rfl rfl rfl rfl (N_allocA rfl infDiskY_88 rfl) (fun b6 => ?_)
   refine G_put (l1 := []) (L' := [_, _, _, _]) rfl rfl rfl rfl (P_storeA (s := 2) rfl rfl rfl (mem_at 0 rfl) (by rfl) infDiskY_88 rfl (by rfl) (by simp [Value.oneCell', wCells, kCells])) rfl ?_
   refine G_done ?_
   refine G_seq ?_
   refine G_seq ?_
   refine GH_start (Lq := [_, _]) (isq := [0, 0]) (m := 13) mixedK rfl rfl ?_
   refine GH_take 0 rfl rfl rfl rfl (by kernel_rfl) (by kernel_rfl) (by kernel_rfl) (fun _ _ => (V_fieldAddr (fo := 0) rfl Tryz.underlying88 rfl infDiskY_3 rfl rfl rfl)) ?_
   refine GH_take 1 rfl rfl rfl rfl (by kernel_rfl) (by kernel_rfl) (by kernel_rfl) (fun _ _ => (V_load1 rfl rfl (mem_at 1 rfl) rfl Tryz.underlying3 rfl)) ?_
   refine GH_take 2 rfl rfl rfl rfl (by kernel_rfl) (by kernel_rfl) (by kernel_rfl) (fun _ _ => (V_lss rfl rfl rfl)) ?_
   refine GH_take 3 rfl rfl rfl rfl (by kernel_rfl) (by kernel_rfl) (by kernel_rfl) (fun _ _ => (V_move rfl rfl)) ?_
   refine GH_splitD 20 rfl (fun hc2 => ?_) (fun hc2 => ?_)
   ·
    refine GH_takeOff 4 rfl rfl rfl rfl (by kernel_rfl) (by kernel_rfl) (by kernel_rfl) ?_
    refine GH_takeOff 5 rfl rfl rfl rfl (by kernel_rfl) (by kernel_rfl) (by kernel_rfl) ?_
    refine GH_takeOff 6 rfl rfl rfl rfl (by kernel_rfl) (by kernel_rfl) (by kernel_rfl) ?_
    refine GH_takeOff 7 rfl rfl rfl rfl (by kernel_rfl) (by kernel_rfl) (by kernel_rfl) ?_
    refine GH_takeOff 8 rfl rfl rfl rfl (by kernel_rfl) (by kernel_rfl) (by kernel_rfl) ?_
    refine GH_takeOff 9 rfl rfl rfl rfl (by kernel_rfl) (by kernel_rfl) (by kernel_rfl) ?_
    refine GH_takeOff 10 rfl rfl rfl rfl (by kernel_rfl) (by kernel_rfl) (by kernel_rfl) ?_
    refine GH_takeOff 11 rfl rfl rfl rfl (by kernel_rfl) (by kernel_rfl) (by kernel_rfl) ?_
    refine GH_take 12 rfl rfl rfl rfl (by kernel_rfl) (by kernel_rfl) (by kernel_rfl) (fun _ _ => (V_pickT rfl rfl rfl)) ?_
    refine GH_done (by kernel_rfl) ?_
    refine G_then rfl ?_
    refine G_exit rfl ?_
    refine G_region (l := [0, 1]) rfl ?_
    refine G_val rfl rfl rfl rfl ((V_add rfl rfl rfl).int (wrap_i64 (by omega))) ?_
    refine G_val rfl rfl rfl rfl (V_move rfl rfl) ?_
    refine G_done ?_
    refine G_sub ?_ [1, 1, 1] ?_ (ih (i + 1, cs) ?_ ?_)
    · (refine (And.intro ?_ (And.intro ?_ (And.intro ?_ (And.intro ?_ trivial)))) <;> first | rfl | exact slot_int (by omega) | exact slot_int (by simp))
    · exact ⟨_, rfl⟩
    · (first | exact ⟨by omega, by rw [keepsL_next hx, keep1_no (by omega)]; exact hux⟩ | exact ⟨by omega, by rw [keepsL_next hx, keep1_yes (by omega) hy]; exact own_set hux y.1.toNat (by omega) _⟩)
    · (first | omega | (dsimp only; omega))
   refine GH_take 4 rfl rfl rfl rfl (by kernel_rfl) (by kernel_rfl) (by kernel_rfl) (fun _ _ => (V_fieldAddr (fo := 0) rfl Tryz.underlying88 rfl infDiskY_3 rfl rfl rfl)) ?_
   refine GH_take 5 rfl rfl rfl rfl (by kernel_rfl) (by kernel_rfl) (by kernel_rfl) (fun _ _ => (V_load1 rfl rfl (mem_at 1 rfl) rfl Tryz.underlying3 rfl)) ?_
   refine GH_take 6 rfl rfl rfl rfl (by kernel_rfl) (by kernel_rfl) (by kernel_rfl) (fun _ _ => (V_move rfl rfl)) ?_
   refine GH_take 7 rfl rfl rfl rfl (by kernel_rfl) (by kernel_rfl) (by kernel_rfl) (fun _ _ => (V_nilCheck rfl rfl)) ?_
   refine GH_take 8 rfl rfl rfl rfl (by kernel_rfl) (by kernel_rfl) (by kernel_rfl) (fun _ _ => (V_fieldAddr (fo := 1) rfl Tryz.underlying67 rfl infDiskY_65 rfl rfl rfl)) ?_
   refine GH_take 9 rfl rfl rfl rfl (by kernel_rfl) (by kernel_rfl) (by kernel_rfl) (fun _ _ => (V_load1 rfl rfl (mem_at 2 rfl) rfl Tryz.underlying65 rfl)) ?_
   refine GH_take 10 rfl rfl rfl rfl (by kernel_rfl) (by kernel_rfl) (by kernel_rfl) (fun _ _ => (V_len rfl rfl Tryz.underlying65 rfl)) ?_
   refine GH_take 11 rfl rfl rfl rfl (by kernel_rfl) (by kernel_rfl) (by kernel_rfl) (fun _ _ => (V_geq rfl rfl rfl)) ?_
   refine GH_take 12 rfl rfl rfl rfl (by kernel_rfl) (by kernel_rfl) (by kernel_rfl) (fun _ _ => (V_pickF rfl rfl rfl)) ?_
   refine GH_done (by kernel_rfl) ?_
   refine G_ifD rfl (fun hc3 => ?_) (fun hc3 => ?_)
   ·
    refine G_exit rfl ?_
    refine G_region (l := [0, 1]) rfl ?_
    refine G_val rfl rfl rfl rfl ((V_add rfl rfl rfl).int (wrap_i64 (by omega))) ?_
    refine G_val rfl rfl rfl rfl (V_move rfl rfl) ?_
    refine G_done ?_
    refine G_sub ?_ [1, 1, 1] ?_ (ih (i + 1, cs) ?_ ?_)
    · (refine (And.intro ?_ (And.intro ?_ (And.intro ?_ (And.intro ?_ trivial)))) <;> first | rfl | exact slot_int (by omega) | exact slot_int (by simp))
    · exact ⟨_, rfl⟩
    · (first | exact ⟨by omega, by rw [keepsL_next hx, keep1_no (by omega)]; exact hux⟩ | exact ⟨by omega, by rw [keepsL_next hx, keep1_yes (by omega) hy]; exact own_set hux y.1.toNat (by omega) _⟩)
    · (first | omega | (dsimp only; omega))
   refine G_skip ?_
   refine G_seq ?_
   obtain ⟨y, hy⟩ := getI (show x.1.toNat < k.W.length by omega)
   obtain ⟨wo, wcs, wfz, wcap⟩ := uw
   obtain ⟨wb, rfl⟩ := h.w.isSome (by omega)
   obtain ⟨hya, hyb⟩ := h.ok.wat y (List.mem_of_getElem? hy)
   have hyc := h.ok.w64 y (List.mem_of_getElem? hy)
   have h64 := getD64 (keepsL_64 h.ok.w64 (ks.take i) k.L h.ok.l64 h.ok.wat) (i := y.1.toNat) (by omega)
   refine GH_start (Lq := [_, _, _]) (isq := [0, 0, 1]) (m := 10) mixedK rfl rfl ?_
   refine GH_take 0 rfl rfl rfl rfl (by kernel_rfl) (by kernel_rfl) (by kernel_rfl) (fun _ _ => (V_move rfl rfl)) ?_
   refine GH_take 1 rfl rfl rfl rfl (by kernel_rfl) (by kernel_rfl) (by kernel_rfl) (fun _ _ => (V_nilCheck rfl rfl)) ?_
   refine GH_take 2 rfl rfl rfl rfl (by kernel_rfl) (by kernel_rfl) (by kernel_rfl) (fun _ _ => (V_fieldAddr (fo := 1) rfl Tryz.underlying67 rfl infDiskY_65 rfl rfl rfl)) ?_
   refine GH_take 3 rfl rfl rfl rfl (by kernel_rfl) (by kernel_rfl) (by kernel_rfl) (fun _ _ => (V_load1 rfl rfl (mem_at 2 rfl) rfl Tryz.underlying65 rfl)) ?_
   refine GH_take 4 rfl rfl rfl rfl (by kernel_rfl) (by kernel_rfl) (by kernel_rfl) (fun _ _ => (V_fieldAddr (fo := 0) rfl Tryz.underlying88 rfl infDiskY_3 rfl rfl rfl)) ?_
   refine GH_take 5 rfl rfl rfl rfl (by kernel_rfl) (by kernel_rfl) (by kernel_rfl) (fun _ _ => (V_load1 rfl rfl (mem_at 1 rfl) rfl Tryz.underlying3 rfl)) ?_
   refine GH_take 6 rfl rfl rfl rfl (by kernel_rfl) (by kernel_rfl) (by kernel_rfl) (fun _ _ => (V_indexAddr (s := 2) rfl Tryz.underlying65 infDiskY_90 rfl rfl rfl (by omega) (by first | omega | (simp [wCells, kCells]; done) | (simp [wCells, kCells]; omega) | (simp [wCells, kCells] at *; omega)))) ?_
   refine GH_take 7 rfl rfl rfl rfl (by kernel_rfl) (by kernel_rfl) (by kernel_rfl) (fun _ _ => (V_loadA (s := 2) (vs := (wCells y).toArray) rfl rfl (mem_at 3 rfl) Tryz.underlying90 rfl infDiskY_90 rfl (h.w.sees.elem w_len hy) (by rfl))) ?_
   refine GH_all [8] (by kernel_rfl) (by decide) ?_
   refine (And.intro ?_ trivial)
   ·
    refine GHop_new rfl rfl rfl rfl (N_allocA rfl infDiskY_90 rfl) [1, 1, 2] (fun _ => ⟨_, rfl⟩) (fun b7 => ?_)
    refine GH_all [9] (by kernel_rfl) (by decide) ?_
    refine (And.intro ?_ trivial)
    ·
     refine GHop_put (l1 := []) (L' := [_, _, _, _, _]) rfl rfl rfl rfl (P_storeA (s := 2) rfl rfl rfl (mem_at 0 rfl) (by rfl) infDiskY_90 rfl (by rfl) (by simp [Value.oneCell', wCells, kCells])) rfl [1, 1, 2] rfl ?_
     refine GH_done (by kernel_rfl) ?_
     refine G_seq ?_
     refine G_region (l := [0, 1, 2, 3, 4]) rfl ?_
     refine G_val rfl rfl rfl rfl (V_fieldAddr (fo := 1) rfl Tryz.underlying88 rfl infDiskY_3 rfl rfl rfl) ?_
     refine G_val rfl rfl rfl rfl (V_load1 rfl rfl (mem_at 2 rfl) rfl Tryz.underlying3 rfl) ?_
     refine G_val rfl rfl rfl rfl (V_max rfl rfl rfl) ?_
     refine G_val rfl rfl rfl rfl (V_min rfl rfl rfl) ?_
     refine G_val rfl rfl rfl rfl (V_assign rfl rfl) ?_
     refine G_done ?_
     refine GH_start (Lq := [_, _]) (isq := [2, 0]) (m := 23) mixedK rfl rfl ?_
     refine GH_take 0 rfl rfl rfl rfl (by kernel_rfl) (by kernel_rfl) (by kernel_rfl) (fun _ _ => (V_move rfl rfl)) ?_
     refine GH_take 1 rfl rfl rfl rfl (by kernel_rfl) (by kernel_rfl) (by kernel_rfl) (fun _ _ => (V_nilCheck rfl rfl)) ?_
     refine GH_take 2 rfl rfl rfl rfl (by kernel_rfl) (by kernel_rfl) (by kernel_rfl) (fun _ _ => (V_fieldAddr (fo := 0) rfl Tryz.underlying67 rfl infDiskY_34 rfl rfl rfl)) ?_
     refine GH_take 3 rfl rfl rfl rfl (by kernel_rfl) (by kernel_rfl) (by kernel_rfl) (fun _ _ => (V_load1 rfl rfl (mem_at 1 rfl) rfl Tryz.underlying34 rfl)) ?_
     refine GH_take 4 rfl rfl rfl rfl (by kernel_rfl) (by kernel_rfl) (by kernel_rfl) (fun _ _ => (V_fieldAddr (fo := 0) rfl Tryz.underlying90 rfl infDiskY_3 rfl rfl rfl)) ?_
     refine GH_take 5 rfl rfl rfl rfl (by kernel_rfl) (by kernel_rfl) (by kernel_rfl) (fun _ _ => (V_load1 rfl rfl (mem_at 2 rfl) rfl Tryz.underlying3 rfl)) ?_
     refine GH_take 6 rfl rfl rfl rfl (by kernel_rfl) (by kernel_rfl) (by kernel_rfl) (fun _ _ => (V_fieldAddr (fo := 1) rfl Tryz.underlying90 rfl infDiskY_9 rfl rfl rfl)) ?_
     refine GH_take 7 rfl rfl rfl rfl (by kernel_rfl) (by kernel_rfl) (by kernel_rfl) (fun _ _ => (V_load1 rfl rfl (mem_at 2 rfl) rfl Tryz.underlying9 rfl)) ?_
     refine GH_take 8 rfl rfl rfl rfl (by kernel_rfl) (by kernel_rfl) (by kernel_rfl) (fun _ _ => (V_move rfl rfl)) ?_
     refine GH_take 9 rfl rfl rfl rfl (by kernel_rfl) (by kernel_rfl) (by kernel_rfl) (fun _ _ => (V_ssliceH rfl Tryz.underlying9 rfl rfl (by first | omega | (simp [wCells, kCells]; done) | (simp [wCells, kCells]; omega) | (simp [wCells, kCells] at *; omega)) (by first | omega | (simp [wCells, kCells]; done) | (simp [wCells, kCells]; omega) | (simp [wCells, kCells] at *; omega)))) ?_
     refine GH_take 10 rfl rfl rfl rfl (by kernel_rfl) (by kernel_rfl) (by kernel_rfl) (fun _ _ => (V_move rfl rfl)) ?_
     refine GH_take 11 rfl rfl rfl rfl (by kernel_rfl) (by kernel_rfl) (by kernel_rfl) (fun _ _ => (V_nilCheck rfl rfl)) ?_
     refine GH_take 12 rfl rfl rfl rfl (by kernel_rfl) (by kernel_rfl) (by kernel_rfl) (fun _ _ => (V_fieldAddr (fo := 0) rfl Tryz.underlying67 rfl infDiskY_34 rfl rfl rfl)) ?_
     refine GH_take 13 rfl rfl rfl rfl (by kernel_rfl) (by kernel_rfl) (by kernel_rfl) (fun _ _ => (V_load1 rfl rfl (mem_at 1 rfl) rfl Tryz.underlying34 rfl)) ?_
     refine GH_take 14 rfl rfl rfl rfl (by kernel_rfl) (by kernel_rfl) (by kernel_rfl) (fun _ _ => (V_fieldAddr (fo := 0) rfl Tryz.underlying90 rfl infDiskY_3 rfl rfl rfl)) ?_
     refine GH_take 15 rfl rfl rfl rfl (by kernel_rfl) (by kernel_rfl) (by kernel_rfl) (fun _ _ => (V_load1 rfl rfl (mem_at 2 rfl) rfl Tryz.underlying3 rfl)) ?_
     refine GH_take 16 rfl rfl rfl rfl (by kernel_rfl) (by kernel_rfl) (by kernel_rfl) (fun _ _ => (V_indexAddr (s := 1) rfl Tryz.underlying34 infDiskY_9 rfl rfl rfl (by omega) (by first | omega | (simp [wCells, kCells]; done) | (simp [wCells, kCells]; omega) | (simp [wCells, kCells] at *; omega)))) ?_
     refine GH_take 18 rfl rfl rfl rfl (by kernel_rfl) (by kernel_rfl) (by kernel_rfl) (fun _ _ => (V_move rfl rfl)) ?_
     refine GH_all [17] (by kernel_rfl) (by decide) ?_
     refine (And.intro ?_ trivial)
     ·
      refine GHop_val rfl rfl rfl rfl (V_load1 rfl rfl (mem_at 4 rfl) (nth_of (own_str hux y.1.toNat (by omega))) Tryz.underlying9 rfl) ?_
      refine GH_take 19 rfl rfl rfl rfl (by kernel_rfl) (by kernel_rfl) (by kernel_rfl) (fun _ _ => (V_ssliceL rfl Tryz.underlying9 rfl rfl (by first | omega | (simp [wCells, kCells]; done) | (simp [wCells, kCells]; omega) | (simp [wCells, kCells] at *; omega)) (by first | omega | (simp [wCells, kCells]; done) | (simp [wCells, kCells]; omega) | (simp [wCells, kCells] at *; omega)))) ?_
      refine GH_take 20 rfl rfl rfl rfl (by kernel_rfl) (by kernel_rfl) (by kernel_rfl) (fun _ _ => (V_sadd rfl rfl rfl (by first | omega | (simp [wCells, kCells]; done) | (simp [wCells, kCells]; omega) | (simp [wCells, kCells] at *; omega)))) ?_
      refine GH_take 21 rfl rfl rfl rfl (by kernel_rfl) (by kernel_rfl) (by kernel_rfl) (fun _ _ => (V_indexAddr (s := 1) rfl Tryz.underlying34 infDiskY_9 rfl rfl rfl (by omega) (by first | omega | (simp [wCells, kCells]; done) | (simp [wCells, kCells]; omega) | (simp [wCells, kCells] at *; omega)))) ?_
      refine GH_all [22] (by kernel_rfl) (by decide) ?_
      refine (And.intro ?_ trivial)
      ·
       refine GHop_put (l1 := [_, _, _]) (L' := [_, _, _, _, _]) rfl rfl rfl rfl (P_store1 rfl rfl rfl (mem_at 3 rfl) (by first | exact of_decide_eq_true rfl | omega | (simp [wCells, kCells]; done) | (simp [wCells, kCells]; omega) | (simp [wCells, kCells] at *; omega)) infDiskY_9 rfl rfl) rfl [2, 0] rfl ?_
       refine GH_done (by kernel_rfl) ?_
       refine G_inBlock ?_
       refine G_region (l := [0, 1]) rfl ?_
       refine G_val rfl rfl rfl rfl ((V_add rfl rfl rfl).int (wrap_i64 (by omega))) ?_
       refine G_val rfl rfl rfl rfl (V_move rfl rfl) ?_
       refine G_done ?_
       refine G_sub ?_ [2, 2, 2] ?_ (ih (i + 1, cs.setIfInBounds (0 + y.1.toNat * 1) (.string (bs (y.2.take (cut64 x.2) ++ ((keepsL k.W k.L (ks.take i)).getD y.1.toNat []).drop (cut64 x.2))))) ?_ ?_)
       · (refine (And.intro ?_ (And.intro ?_ (And.intro ?_ (And.intro ?_ trivial)))) <;> first | rfl | exact slot_int (by omega) | exact slot_int (by simp))
       · exact ⟨_, rfl⟩
       · (first | exact ⟨by omega, by rw [keepsL_next hx, keep1_no (by omega)]; exact hux⟩ | exact ⟨by omega, by rw [keepsL_next hx, keep1_yes (by omega) hy]; exact own_set hux y.1.toNat (by omega) _⟩)
       · (first | omega | (dsimp only; omega))
  refine G_exit rfl ?_
  refine G_seq ?_
  refine G_addNone (.cells #[] 90 (0, 0)) ?_
  refine G_region (l := [0, 1, 2, 3, 4, 5, 6, 7, 8, 9, 10, 11]) rfl ?_
  refine G_val rfl rfl rfl rfl (V_move rfl rfl) ?_
  refine G_val rfl rfl rfl rfl (V_move rfl rfl) ?_
  refine G_val rfl rfl rfl rfl (V_move rfl rfl) ?_
  refine G_val rfl rfl rfl rfl (V_nilCheck rfl rfl) ?_
  refine G_val rfl rfl rfl rfl (V_fieldAddr (fo := 1) rfl Tryz.underlying67 rfl infDiskY_65 rfl rfl rfl) ?_
  refine G_put (l1 := [_]) (L' := [_, _, _, _]) rfl rfl rfl rfl (P_store1 rfl rfl rfl (mem_at 1 rfl) (by first | exact of_decide_eq_true rfl | omega | (simp [wCells, kCells]; done) | (simp [wCells, kCells]; omega) | (simp [wCells, kCells] at *; omega)) infDiskY_65 rfl rfl) rfl ?_
  refine G_val rfl rfl rfl rfl (V_nilCheck rfl rfl) ?_
  refine G_val rfl rfl rfl rfl (V_fieldAddr (fo := 2) rfl Tryz.underlying67 rfl infDiskY_3 rfl rfl rfl) ?_
  refine G_put (l1 := [_]) (L' := [_, _, _, _]) rfl rfl rfl rfl (P_store1 rfl rfl rfl (mem_at 1 rfl) (by first | exact of_decide_eq_true rfl | omega | (simp [wCells, kCells]; done) | (simp [wCells, kCells]; omega) | (simp [wCells, kCells] at *; omega)) infDiskY_3 rfl rfl) rfl ?_
  refine G_val rfl rfl rfl rfl (V_nilCheck rfl rfl) ?_
  refine G_val rfl rfl rfl rfl (V_fieldAddr (fo := 3) rfl Tryz.underlying67 rfl infDiskY_4 rfl rfl rfl) ?_
  refine G_put (l1 := [_]) (L' := [_, _, _, _]) rfl rfl rfl rfl (P_store1 rfl rfl rfl (mem_at 1 rfl) (by first | exact of_decide_eq_true rfl | omega | (simp [wCells, kCells]; done) | (simp [wCells, kCells]; omega) | (simp [wCells, kCells] at *; omega)) infDiskY_4 rfl rfl) rfl ?_
  refine G_done ?_
  refine G_seq ?_
  refine G_region (l := [0]) rfl ?_
  refine G_val rfl rfl rfl rfl (V_assign rfl rfl) ?_
  refine G_done ?_
  refine G_ret (post := [_, _, _]) Tryz.func26 rfl (RVs_cons (RV_tmp rfl) RVs_nil) [1, 1, 0] rfl ?_
  dsimp only [packed]
  rw [keepsL_end (by omega)] at hux; exact ⟨rfl, cs, crash_at h hux, rfl⟩

set_option maxRecDepth 100000 in
set_option maxHeartbeats 1000000 in
theorem dk_crash_nil (o1 : Option Nat) (p1 q1 : Nat) (c1 : Array Value) (T1 : TypeId) (f1 : Nat × Nat) (ks : List (Int × Int)) (hs : Sees 2 o1 p1 q1 c1 (ks.flatMap kCells) ks.length) :
    Ct Tryz.prog 26 [.pointer none, sv o1 p1 ks.length q1] [(o1, .cells c1 T1 f1)] [] fun v post => v = .int .i64 19 ∧ post = [] := by
 refine ct_of Tryz.func26 rfl rfl (fun w0 => ?_)
 show G _ _ [(0, _), (1, _)] _ _
 refine G_seq ?_
 refine G_region (l := [0]) rfl ?_
 refine G_val rfl rfl rfl rfl (V_assign rfl rfl) ?_
 refine G_done ?_
 refine G_seq ?_
 refine G_seq ?_
 refine G_region (l := [0, 1]) rfl ?_
 refine G_val rfl rfl rfl rfl (V_move rfl rfl) ?_
 refine G_val rfl rfl rfl rfl (V_peqlN rfl Tryz.underlying26 rfl rfl) ?_
 refine G_done ?_
 refine G_then rfl ?_
 refine G_seq ?_
 refine G_region (l := [0]) rfl ?_
 refine G_val rfl rfl rfl rfl (V_assign rfl rfl) ?_
 refine G_done ?_
 refine G_ret (post := []) Tryz.func26 rfl (RVs_cons (RV_tmp rfl) RVs_nil) [] rfl ?_
 dsimp only [packed]
 exact ⟨rfl, rfl⟩


def zs64 : List UInt8 := List.replicate 64 0
theorem newD_at {n lb lcap : Nat} {lcs : Array Value} (h1 : 1 ≤ n) (h2 : n ≤ 4096) (h : Own 1 ⟨some lb, lcs, (0, 0), lcap⟩ ((List.replicate n zs64).map strC) n) : DkAt (newD n) n lb lcs lcap slNil :=
  ⟨by simp [newD], h, own_nil 2, newD_ok n h1 h2⟩
theorem rep_next (i : Nat) : (List.replicate i zs64).map strC ++ [strC zs64] = (List.replicate (i + 1) zs64).map strC := by
  rw [show List.replicate (i + 1) zs64 = List.replicate i zs64 ++ [zs64] from List.replicate_succ', List.map_append]; rfl

set_option maxRecDepth 100000 in
set_option maxHeartbeats 1000000 in
theorem dk_new (n : Nat) (h1 : 1 ≤ n) (h2 : n ≤ 4096) :
    Ct Tryz.prog 8 [.int .i64 (n : Int)] [] [] fun v post => ∃ d lb lcap lcs, v = .tuple #[.pointer (some ⟨d, 0, none⟩), .int .i64 0] ∧ DkAt (newD n) n lb lcs lcap slNil ∧ post = [(some d, .cells #[.slice (some ⟨lb, 0, none⟩) n lcap, slNil.v (newD n).W.length, .int .i64 (newD n).fuse, .bool (newD n).dead] 67 (0, 0)), (some lb, .cells lcs 9 (0, 0)), (slNil.ob, .cells slNil.cs 90 slNil.fz)] := by
 refine ct_of Tryz.func8 rfl rfl (fun w0 => ?_)
 show G _ _ [(0, _)] _ _
 refine G_seq ?_
 refine G_region (l := [0, 1]) rfl ?_
 refine G_val rfl rfl rfl rfl (V_assign rfl rfl) ?_
 refine G_val rfl rfl rfl rfl (V_assign rfl rfl) ?_
 refine G_done ?_
 refine G_seq ?_
 refine G_seq ?_
 refine G_region (l := [0, 1, 2, 3, 4, 5]) rfl ?_
 refine G_val rfl rfl rfl rfl (V_move rfl rfl) ?_
 refine G_val rfl rfl rfl rfl (V_lss rfl rfl rfl) ?_
 refine G_val rfl rfl rfl rfl (V_move rfl rfl) ?_
 refine G_splitD 7 rfl (fun hc1 => ?_) (fun hc1 => ?_)
 · (first | (exact absurd rfl hc1) | (exact absurd hc1 (by decide)) | (exfalso; omega))
 refine G_val rfl rfl rfl rfl (V_move rfl rfl) ?_
 refine G_val rfl rfl rfl rfl (V_gtr rfl rfl rfl) ?_
 refine G_val rfl rfl rfl rfl (V_pickF rfl rfl rfl) ?_
 refine G_done ?_
 refine G_ifD rfl (fun hc2 => ?_) (fun hc2 => ?_)
 · (first | (exact absurd rfl hc2) | (exact absurd hc2 (by decide)) | (exfalso; omega))
 refine G_skip ?_
 refine G_seq ?_
 refine G_region (l := [0, 1, 2]) rfl ?_
 refine G_val rfl rfl rfl rfl (V_buildS (cs := [_, _, _, _]) rfl Tryz.underlying67 infDiskY_67 rfl plcDiskY_67 rfl rfl rfl) ?_
 refine G_new rfl rfl rfl rfl (N_boxA rfl rfl) (fun b12 => ?_)
 refine G_val rfl rfl rfl rfl (V_assign rfl rfl) ?_
 refine G_done ?_
 refine G_seq ?_
 refine G_seq ?_
 refine G_addNone (.cells #[] 9 (0, 0)) ?_
 refine G_region (l := [0, 1]) rfl ?_
 refine G_val rfl rfl rfl rfl (V_move rfl rfl) ?_
 refine G_val rfl rfl rfl rfl (V_move rfl rfl) ?_
 refine G_done ?_
 refine G_block ?_
 refine G_sub ?he5 [1, 0] ?hl5 (G_loop (X := Nat × Sl) (fun x => match x with | ⟨i, u⟩ => i ≤ n ∧ Own 1 u ((List.replicate i zs64).map strC) i ∧ u.fz = (0, 0)) (fun x => match x with | ⟨i, u⟩ => n - i) (fun x => match x with | ⟨i, u⟩ => [(4, .pointer (some ⟨b12, 0, none⟩)), (13, .int .i64 (n : Int)), (14, .int .i64 (i : Int))]) (fun x => match x with | ⟨i, u⟩ => [(some b12, .cells #[u.v i, .slice none 0 0, .int .i64 (-1), .bool false] 67 (0, 0)), (u.ob, .cells u.cs 9 u.fz)]) ?round5 (0, slNil) ?h05)
 case he5 => exact (And.intro rfl (And.intro rfl (And.intro rfl trivial)))
 case hl5 => exact ⟨_, rfl⟩
 case h05 => exact ⟨Nat.zero_le _, own_nil 1, rfl⟩
 case round5 =>
  intro x hJ ih
  try dsimp only at hJ ih
  obtain ⟨i, u⟩ := x
  try dsimp only at hJ ih
  obtain ⟨hi, hux, hfz⟩ := hJ
  show G _ _ [(4, .pointer (some ⟨b12, 0, none⟩)), (13, .int .i64 (n : Int)), (14, .int .i64 (i : Int))] [(some b12, .cells #[u.v i, .slice none 0 0, .int .i64 (-1), .bool false] 67 (0, 0)), (u.ob, .cells u.cs 9 u.fz)] _
  refine G_seq ?_
  refine G_region (l := [0]) rfl ?_
  refine G_val rfl rfl rfl rfl (V_lss rfl rfl rfl) ?_
  refine G_done ?_
  refine G_seq ?_
  refine G_ifD rfl (fun hc3 => ?_) (fun hc3 => ?_)
  ·
   refine G_skip ?_
   refine G_seq ?_
   refine G_block ?_
   refine GH_start (Lq := []) (isq := []) (m := 11) mixedK rfl rfl ?_
   refine GH_take 0 rfl rfl rfl rfl (by kernel_rfl) (by kernel_rfl) (by kernel_rfl) (fun _ _ => (V_move rfl rfl)) ?_
   refine GH_take 1 rfl rfl rfl rfl (by kernel_rfl) (by kernel_rfl) (by kernel_rfl) (fun _ _ => (V_move rfl rfl)) ?_
   refine GH_take 2 rfl rfl rfl rfl (by kernel_rfl) (by kernel_rfl) (by kernel_rfl) (fun _ _ => (V_nilCheck rfl rfl)) ?_
   refine GH_take 3 rfl rfl rfl rfl (by kernel_rfl) (by kernel_rfl) (by kernel_rfl) (fun _ _ => (V_fieldAddr (fo := 0) rfl Tryz.underlying67 rfl infDiskY_34 rfl rfl rfl)) ?_
   refine GH_all [4, 5] (by kernel_rfl) (by decide) ?_
   refine (And.intro ?_ (And.intro ?_ trivial))
   ·
    refine GHop_val rfl rfl rfl rfl (V_load1 rfl rfl (mem_at 0 rfl) rfl Tryz.underlying34 rfl) ?_
    refine GH_all [5] (by kernel_rfl) (by decide) ?_
    refine (And.intro ?_ trivial)
    ·
     refine GHop_call (L2 := [_, _]) rfl rfl rfl rfl rfl rfl Tryz.call29 (repeat0 64 (by omega) (by omega)) [] [] rfl rfl [] (by rintro v post ⟨rfl, rfl⟩; exact ⟨_, rfl⟩) ?_
     rintro v post ⟨rfl, rfl⟩
     show GH _ _ _ _ _ _ _ [_, _] _
     refine GH_all [6] (by kernel_rfl) (by decide) ?_
     refine (And.intro ?_ trivial)
     ·
      refine GHop_new rfl rfl rfl rfl (N_buildAll (s := 1) (cs := [_]) rfl Tryz.underlying34 infDiskY_9 rfl rfl rfl rfl rfl rfl rfl rfl rfl) [] (fun _ => ⟨_, rfl⟩) (fun b22 => ?_)
      refine GH_all [7] (by kernel_rfl) (by decide) ?_
      refine (And.intro ?_ trivial)
      ·
       refine GHop_append (l1 := [_, _]) (s := u) (nn := i) (m := 1) (news := [strC zs64]) (bt := 16) rfl rfl rfl rfl Tryz.underlying34 Tryz.underlying34 (by first | exact .inl rfl | exact .inr ⟨_, rfl⟩) infDiskY_9 rfl rfl rfl rfl rfl rfl hux rfl (src_mem (mem_at 0 rfl) rfl rfl (by simp [strC, Value.oneCell'])) (by omega) (by omega) [] (fun _ => ⟨_, rfl⟩) ?_
       intro u1 hu1 hq1
       show GH _ _ _ _ _ _ _ [_, _, _] _
       refine GH_take 8 rfl rfl rfl rfl (by kernel_rfl) (by kernel_rfl) (by kernel_rfl) (fun _ _ => (V_nilCheck rfl rfl)) ?_
       refine GH_take 9 rfl rfl rfl rfl (by kernel_rfl) (by kernel_rfl) (by kernel_rfl) (fun _ _ => (V_fieldAddr (fo := 0) rfl Tryz.underlying67 rfl infDiskY_34 rfl rfl rfl)) ?_
       refine GH_all [10] (by kernel_rfl) (by decide) ?_
       refine (And.intro ?_ trivial)
       ·
        refine GHop_put (l1 := [_]) (L' := [_, _, _]) rfl rfl rfl rfl (P_store1 rfl rfl rfl (mem_at 1 rfl) (by first | exact of_decide_eq_true rfl | omega | (simp [wCells, kCells]; done) | (simp [wCells, kCells]; omega) | (simp [wCells, kCells] at *; omega)) infDiskY_34 rfl rfl) rfl [] rfl ?_
        refine GH_done (by kernel_rfl) ?_
        refine G_inBlock ?_
        refine G_region (l := [0, 1]) rfl ?_
        refine G_val rfl rfl rfl rfl ((V_add rfl rfl rfl).int (wrap_i64 (by omega))) ?_
        refine G_val rfl rfl rfl rfl (V_move rfl rfl) ?_
        refine G_done ?_
        refine G_sub ?_ [1, 1] ?_ (ih (i + 1, u1) ?_ ?_)
        · (refine (And.intro ?_ (And.intro ?_ (And.intro ?_ trivial))) <;> first | rfl | exact slot_int (by omega) | exact slot_int (by simp))
        · exact ⟨_, rfl⟩
        · exact ⟨by omega, by rw [← rep_next]; exact hu1, hq1.fz hfz⟩
        · (first | omega | (dsimp only; omega))
   ·
    refine GHop_call (L2 := [_, _]) rfl rfl rfl rfl rfl rfl Tryz.call29 (repeat0 64 (by omega) (by omega)) [] [] rfl rfl [] (by rintro v post ⟨rfl, rfl⟩; exact ⟨_, rfl⟩) ?_
    rintro v post ⟨rfl, rfl⟩
    show GH _ _ _ _ _ _ _ [_, _] _
    refine GH_all [4, 6] (by kernel_rfl) (by decide) ?_
    refine (And.intro ?_ (And.intro ?_ trivial))
    ·
     refine GHop_val rfl rfl rfl rfl (V_load1 rfl rfl (mem_at 0 rfl) rfl Tryz.underlying34 rfl) ?_
     refine GH_all [6] (by kernel_rfl) (by decide) ?_
     refine (And.intro ?_ trivial)
     ·
      refine GHop_new rfl rfl rfl rfl (N_buildAll (s := 1) (cs := [_]) rfl Tryz.underlying34 infDiskY_9 rfl rfl rfl rfl rfl rfl rfl rfl rfl) [] (fun _ => ⟨_, rfl⟩) (fun b22 => ?_)
      refine GH_all [7] (by kernel_rfl) (by decide) ?_
      refine (And.intro ?_ trivial)
      ·
       refine GHop_append (l1 := [_, _]) (s := u) (nn := i) (m := 1) (news := [strC zs64]) (bt := 16) rfl rfl rfl rfl Tryz.underlying34 Tryz.underlying34 (by first | exact .inl rfl | exact .inr ⟨_, rfl⟩) infDiskY_9 rfl rfl rfl rfl rfl rfl hux rfl (src_mem (mem_at 0 rfl) rfl rfl (by simp [strC, Value.oneCell'])) (by omega) (by omega) [] (fun _ => ⟨_, rfl⟩) ?_
       intro u1 hu1 hq1
       show GH _ _ _ _ _ _ _ [_, _, _] _
       refine GH_take 8 rfl rfl rfl rfl (by kernel_rfl) (by kernel_rfl) (by kernel_rfl) (fun _ _ => (V_nilCheck rfl rfl)) ?_
       refine GH_take 9 rfl rfl rfl rfl (by kernel_rfl) (by kernel_rfl) (by kernel_rfl) (fun _ _ => (V_fieldAddr (fo := 0) rfl Tryz.underlying67 rfl infDiskY_34 rfl rfl rfl)) ?_
       refine GH_all [10] (by kernel_rfl) (by decide) ?_
       refine (And.intro ?_ trivial)
       ·
        refine GHop_put (l1 := [_]) (L' := [_, _, _]) rfl rfl rfl rfl (P_store1 rfl rfl rfl (mem_at 1 rfl) (by first | exact of_decide_eq_true rfl | omega | (simp [wCells, kCells]; done) | (simp [wCells, kCells]; omega) | (simp [wCells, kCells] at *; omega)) infDiskY_34 rfl rfl) rfl [] rfl ?_
        refine GH_done (by kernel_rfl) ?_
        refine G_inBlock ?_
        refine G_region (l := [0, 1]) rfl ?_
        refine G_val rfl rfl rfl rfl ((V_add rfl rfl rfl).int (wrap_i64 (by omega))) ?_
        refine G_val rfl rfl rfl rfl (V_move rfl rfl) ?_
        refine G_done ?_
        refine G_sub ?_ [1, 1] ?_ (ih (i + 1, u1) ?_ ?_)
        · (refine (And.intro ?_ (And.intro ?_ (And.intro ?_ trivial))) <;> first | rfl | exact slot_int (by omega) | exact slot_int (by simp))
        · exact ⟨_, rfl⟩
        · exact ⟨by omega, by rw [← rep_next]; exact hu1, hq1.fz hfz⟩
        · (first | omega | (dsimp only; omega))
    ·
     refine GHop_new rfl rfl rfl rfl (N_buildAll (s := 1) (cs := [_]) rfl Tryz.underlying34 infDiskY_9 rfl rfl rfl rfl rfl rfl rfl rfl rfl) [] (fun _ => ⟨_, rfl⟩) (fun b22 => ?_)
     refine GH_all [4] (by kernel_rfl) (by decide) ?_
     refine (And.intro ?_ trivial)
     ·
      refine GHop_val rfl rfl rfl rfl (V_load1 rfl rfl (mem_at 1 rfl) rfl Tryz.underlying34 rfl) ?_
      refine GH_all [7] (by kernel_rfl) (by decide) ?_
      refine (And.intro ?_ trivial)
      ·
       refine GHop_append (l1 := [_, _]) (s := u) (nn := i) (m := 1) (news := [strC zs64]) (bt := 16) rfl rfl rfl rfl Tryz.underlying34 Tryz.underlying34 (by first | exact .inl rfl | exact .inr ⟨_, rfl⟩) infDiskY_9 rfl rfl rfl rfl rfl rfl hux rfl (src_mem (mem_at 0 rfl) rfl rfl (by simp [strC, Value.oneCell'])) (by omega) (by omega) [] (fun _ => ⟨_, rfl⟩) ?_
       intro u1 hu1 hq1
       show GH _ _ _ _ _ _ _ [_, _, _] _
       refine GH_take 8 rfl rfl rfl rfl (by kernel_rfl) (by kernel_rfl) (by kernel_rfl) (fun _ _ => (V_nilCheck rfl rfl)) ?_
       refine GH_take 9 rfl rfl rfl rfl (by kernel_rfl) (by kernel_rfl) (by kernel_rfl) (fun _ _ => (V_fieldAddr (fo := 0) rfl Tryz.underlying67 rfl infDiskY_34 rfl rfl rfl)) ?_
       refine GH_all [10] (by kernel_rfl) (by decide) ?_
       refine (And.intro ?_ trivial)
       ·
        refine GHop_put (l1 := [_]) (L' := [_, _, _]) rfl rfl rfl rfl (P_store1 rfl rfl rfl (mem_at 1 rfl) (by first | exact of_decide_eq_true rfl | omega | (simp [wCells, kCells]; done) | (simp [wCells, kCells]; omega) | (simp [wCells, kCells] at *; omega)) infDiskY_34 rfl rfl) rfl [] rfl ?_
        refine GH_done (by kernel_rfl) ?_
        refine G_inBlock ?_
        refine G_region (l := [0, 1]) rfl ?_
        refine G_val rfl rfl rfl rfl ((V_add rfl rfl rfl).int (wrap_i64 (by omega))) ?_
        refine G_val rfl rfl rfl rfl (V_move rfl rfl) ?_
        refine G_done ?_
        refine G_sub ?_ [1, 1] ?_ (ih (i + 1, u1) ?_ ?_)
        · (refine (And.intro ?_ (And.intro ?_ (And.intro ?_ trivial))) <;> first | rfl | exact slot_int (by omega) | exact slot_int (by simp))
        · exact ⟨_, rfl⟩
        · exact ⟨by omega, by rw [← rep_next]; exact hu1, hq1.fz hfz⟩
        · (first | omega | (dsimp only; omega))
  refine G_exit rfl ?_
  refine G_seq ?_
  obtain rfl : i = n := by omega
  obtain ⟨uo, ucs, ufz, ucap⟩ := u
  simp only at hfz
  subst hfz
  obtain ⟨lb, rfl⟩ := hux.isSome (by omega)
  refine G_addNone (.cells #[] 90 (0, 0)) ?_
  refine G_region (l := [0, 1, 2]) rfl ?_
  refine G_val rfl rfl rfl rfl (V_move rfl rfl) ?_
  refine G_val rfl rfl rfl rfl (V_assign rfl rfl) ?_
  refine G_val rfl rfl rfl rfl (V_assign rfl rfl) ?_
  refine G_done ?_
  refine G_ret (post := [_, _, _]) Tryz.func8 rfl (RVs_cons (RV_tmp rfl) (RVs_cons (RV_tmp rfl) RVs_nil)) [1, 1, 0] rfl ?_
  dsimp only [packed]
  exact ⟨b12, lb, ucap, ucs, rfl, newD_at h1 h2 hux, rfl⟩

end
end Go.Proofs.YtbblkgdejgoncaaGreatDoor

/- The walks of layer 24, on: which super counts; what a disk loads, and stores. -/
set_option linter.unusedSimpArgs false
set_option linter.unusedVariables false
namespace Go.Proofs.YtbblkgdejgoncaaGreatDoor
open Go Go.RowKit

section
theorem infSuperS_9 : Tryz.prog.info? 9 = some Tryz.t9 := by kernel_rfl
theorem infSuperS_50 : Tryz.prog.info? 50 = some Tryz.t50 := by kernel_rfl
theorem infSuperS_74 : Tryz.prog.info? 74 = some Tryz.t74 := by kernel_rfl


theorem big_size {v : Nat} (h : v < 18446744073709551616) (h2 : 1099511627776 < (v : Int)) : ¬ (0 ≤ IntKind.i64.wrap (v : Int) ∧ IntKind.i64.wrap (v : Int) ≤ 1099511627776) := by
  have e : IntKind.i64.wrap (v : Int) = if 9223372036854775808 ≤ (v : Int) % 18446744073709551616 then (v : Int) % 18446744073709551616 - 18446744073709551616 else (v : Int) % 18446744073709551616 := by simp [IntKind.wrap, IntKind.bits, IntKind.signed]
  rw [e]; split <;> omega
theorem isS_big {b : List UInt8} (h : 1099511627776 < ((num (((openD b).take 23).drop 15) : Nat) : Int)) : ¬ isS b := fun x => by
  have e : ((openD b).take 23).drop 15 = ((openD b).drop 15).take 8 := cut_at (openD b) 15 8
  rw [e] at h
  have h8 := num_in (openD b) 15 8
  exact big_size (by omega) h ⟨x.2.1.2.2.2.2.1, x.2.1.2.2.2.2.2⟩
theorem num_one (D : List UInt8) (h : D.length = 48) : num ((D.drop 14).take 1) = (D.getD 14 0).toNat := by
  have e : (D.drop 14).take 1 = [D.getD 14 0] := by
    have h14 : 14 < D.length := by omega
    rw [List.drop_eq_getElem_cons h14, List.take_succ_cons, List.take_zero, List.getD_eq_getElem?_getD, List.getElem?_eq_getElem h14]; rfl
  rw [e]; simp [num]
theorem openA_ok {b : List UInt8} (h : openOk b = true) : openA b = .agg #[.int .u32 ((openE b : Nat) : Int), .int .u32 ((openI b : Nat) : Int), .string (bs (openD b)), .bool true] := by unfold openA; rw [h]
theorem cells_get (D : List UInt8) (h : D.length = 48) (hz : ((num ((D.take 23).drop 15) : Nat) : Int) ≤ 1099511627776) :
    #[Value.int .u32 ((num ((D.take 6).drop 2) : Nat) : Int), .int .u32 ((num ((D.take 10).drop 6) : Nat) : Int), .int .u32 ((num ((D.take 14).drop 10) : Nat) : Int), .int .i64 (((D.getD (Int.toNat 14) 0).toNat : Nat) : Int), .int .i64 ((num ((D.take 23).drop 15) : Nat) : Int)] = (spCells (getS D)).toArray := by
  have e14 : Int.toNat 14 = 14 := rfl
  rw [e14]
  have e5 : (D.take 23).drop 15 = (D.drop 15).take 8 := cut_at D 15 8
  rw [show (D.take 6).drop 2 = (D.drop 2).take 4 from cut_at D 2 4, show (D.take 10).drop 6 = (D.drop 6).take 4 from cut_at D 6 4, show (D.take 14).drop 10 = (D.drop 10).take 4 from cut_at D 10 4, e5, ← num_one D h]
  rw [e5] at hz
  unfold spCells getS
  rw [wrap_small (by omega) (by omega)]


def pickStep (o : Sp) (b : List UInt8) (i : Nat) : Sp := if isS b ∧ (decSu b).seq % 2 = i ∧ o.seq < (decSu b).seq then decSu b else o
def pickS (a b : List UInt8) : Sp := pickStep (pickStep zeroSp a 0) b 1
def outAt (a b : List UInt8) : Nat → Sp
  | 0 => zeroSp
  | 1 => pickStep zeroSp a 0
  | _ => pickS a b
theorem pickStep_ok {o : Sp} (b : List UInt8) (i : Nat) (h : SpOk o) : SpOk (pickStep o b i) := by
  unfold pickStep; split
  · exact decS_ok b
  · exact h
theorem pickS_ok (a b : List UInt8) : SpOk (pickS a b) := pickStep_ok _ _ (pickStep_ok _ _ zero_ok)
theorem pick_yes {o : Sp} {b : List UInt8} {i : Nat} (h1 : decide (isS b) = true) (h2 : ((decSu b).seq : Int) % 2 = (i : Int)) (h3 : (o.seq : Int) < ((decSu b).seq : Int)) : pickStep o b i = decSu b :=
  if_pos ⟨of_decide_eq_true h1, by omega, by omega⟩
theorem pick_no1 {o : Sp} {b : List UInt8} {i : Nat} (h1 : decide (isS b) = false) : pickStep o b i = o := if_neg fun x => absurd x.1 (of_decide_eq_false h1)
theorem pick_no2 {o : Sp} {b : List UInt8} {i : Nat} (h2 : ¬ ((decSu b).seq : Int) % 2 = (i : Int)) : pickStep o b i = o := if_neg fun x => h2 (by omega)
theorem pick_no3 {o : Sp} {b : List UInt8} {i : Nat} (h3 : ¬ (o.seq : Int) < ((decSu b).seq : Int)) : pickStep o b i = o := if_neg fun x => h3 (by omega)
theorem notS_seq {b : List UInt8} (h : ¬ isS b) : (decSu b).seq = 0 ∧ decSu b = zeroSp := by rw [decS_no h]; exact ⟨rfl, rfl⟩
theorem isS_seq {b : List UInt8} (h : isS b) : 1 ≤ (decSu b).seq := by rw [decS_yes h]; exact h.2.1.1
def evX (a : List UInt8) : Sp := if (decSu a).seq % 2 = 0 then decSu a else zeroSp
def odY (b : List UInt8) : Sp := if (decSu b).seq % 2 = 1 then decSu b else zeroSp
theorem evX_pick (a : List UInt8) : pickStep zeroSp a 0 = evX a := by
  unfold pickStep evX
  by_cases h : isS a
  · have := isS_seq h
    by_cases h2 : (decSu a).seq % 2 = 0
    · rw [if_pos ⟨h, h2, by show 0 < _; omega⟩, if_pos h2]
    · rw [if_neg (fun x => h2 x.2.1), if_neg h2]
  · rw [if_neg (fun x => h x.1), (notS_seq h).2]; simp
theorem pick_ref (a b : List UInt8) : pickS a b = if (evX a).seq < (odY b).seq then odY b else evX a := by
  unfold pickS
  rw [evX_pick]
  unfold pickStep odY
  by_cases h2 : (decSu b).seq % 2 = 1
  · rw [if_pos h2]
    by_cases h : isS b
    · by_cases h3 : (evX a).seq < (decSu b).seq
      · rw [if_pos ⟨h, h2, h3⟩, if_pos h3]
      · rw [if_neg (fun x => h3 x.2.2), if_neg h3]
    · rw [(notS_seq h).1] at h2; omega
  · rw [if_neg h2, if_neg (fun x => h2 x.2.1)]
    rw [if_neg (by show ¬ _ < 0; omega)]

set_option maxRecDepth 100000 in
set_option maxHeartbeats 1000000 in
theorem sup_pick (a b : List UInt8) (ha : a.length ≤ 9223372036854775807) (hb : b.length ≤ 9223372036854775807) :
    Ct Tryz.prog 74 [.string (bs a), .string (bs b)] [] [] fun v post => v = .tuple #[.agg (spCells (pickS a b)).toArray, .bool (decide ((0 : Int) < ((pickS a b).seq : Int)))] ∧ post = [] := by
 refine ct_of Tryz.func74 rfl rfl (fun w0 => ?_)
 show G _ _ [(0, _), (1, _)] _ _
 refine G_seq ?_
 refine G_region (l := [0, 1]) rfl ?_
 refine G_new rfl rfl rfl rfl (N_allocA rfl infSuperS_74 rfl) (fun b4 => ?_)
 refine G_val rfl rfl rfl rfl (V_assign rfl rfl) ?_
 refine G_done ?_
 refine G_seq ?_
 refine G_region (l := [0]) rfl ?_
 refine G_new rfl rfl rfl rfl (N_allocA rfl infSuperS_74 rfl) (fun b6 => ?_)
 refine G_done ?_
 refine G_seq ?_
 refine G_seq ?_
 refine G_region (l := [0, 1, 2, 3, 4]) rfl ?_
 refine G_val rfl rfl rfl rfl (V_move rfl rfl) ?_
 refine G_val rfl rfl rfl rfl (V_move rfl rfl) ?_
 refine G_new rfl rfl rfl rfl (N_buildAll (s := 1) (cs := [_, _]) rfl Tryz.underlying34 infSuperS_9 rfl rfl rfl rfl rfl rfl rfl rfl rfl) (fun b13 => ?_)
 refine G_val rfl rfl rfl rfl (V_len rfl rfl Tryz.underlying34 rfl) ?_
 refine G_val rfl rfl rfl rfl (V_move rfl rfl) ?_
 refine G_done ?_
 refine G_block ?_
 refine G_sub ?he3 [0, 0, 0] ?hl3 (G_loop (X := Nat × Sp) (fun x => match x with | ⟨i, o⟩ => i ≤ 2 ∧ o = outAt a b i) (fun x => match x with | ⟨i, o⟩ => 2 - i) (fun x => match x with | ⟨i, o⟩ => [(4, .pointer (some ⟨b4, 0, none⟩)), (6, .pointer (some ⟨b6, 0, none⟩)), (13, .slice (some ⟨b13, 0, none⟩) 2 2), (14, .int .i64 ((2 : Nat) : Int)), (15, .int .i64 (i : Int))]) (fun x => match x with | ⟨i, o⟩ => [(some b13, .cells #[.string (bs a), .string (bs b)] 9 (0, 0)), (some b6, .cells (spCells o).toArray 74 (0, 0)), (some b4, .cells (spCells zeroSp).toArray 74 (0, 0))]) ?round3 (0, zeroSp) ?h03)
 case he3 => exact (And.intro rfl (And.intro rfl (And.intro rfl (And.intro rfl (And.intro rfl trivial)))))
 case hl3 => exact ⟨_, rfl⟩
 case h03 => exact ⟨Nat.zero_le _, rfl⟩
 case round3 =>
  intro x hJ ih
  try dsimp only at hJ ih
  obtain ⟨i, o⟩ := x
  try dsimp only at hJ ih
  obtain ⟨hi, ho⟩ := hJ
  show G _ _ [(4, .pointer (some ⟨b4, 0, none⟩)), (6, .pointer (some ⟨b6, 0, none⟩)), (13, .slice (some ⟨b13, 0, none⟩) 2 2), (14, .int .i64 ((2 : Nat) : Int)), (15, .int .i64 (i : Int))] [(some b13, .cells #[.string (bs a), .string (bs b)] 9 (0, 0)), (some b6, .cells (spCells o).toArray 74 (0, 0)), (some b4, .cells (spCells zeroSp).toArray 74 (0, 0))] _
  refine G_seq ?_
  refine G_region (l := [0]) rfl ?_
  refine G_val rfl rfl rfl rfl (V_lss rfl rfl rfl) ?_
  refine G_done ?_
  refine G_seq ?_
  refine G_ifD rfl (fun hc1 => ?_) (fun hc1 => ?_)
  ·
   refine G_skip ?_
   refine G_seq ?_
   refine G_block ?_
   refine G_seq ?_
   rcases (by omega : i = 0 ∨ i = 1) with rfl | rfl
   ·
    refine G_region (l := [0, 1, 2, 3, 4]) rfl ?_
    refine G_val rfl rfl rfl rfl (V_move rfl rfl) ?_
    refine G_val rfl rfl rfl rfl (V_indexAddrN (s := 1) rfl Tryz.underlying34 infSuperS_9 rfl rfl rfl rfl (by omega)) ?_
    refine G_val rfl rfl rfl rfl (V_load1 rfl rfl (mem_at 0 rfl) rfl Tryz.underlying9 rfl) ?_
    refine G_val rfl rfl rfl rfl (V_assign rfl rfl) ?_
    refine G_val rfl rfl rfl rfl (V_assign rfl rfl) ?_
    refine G_done ?_
    refine G_seq ?_
    have hqa := (decS_ok a).q1
    have hqb := (decS_ok b).q1
    subst ho
    refine G_region (l := [0, 1, 2, 3, 4, 5, 6, 7]) rfl ?_
    refine G_val rfl rfl rfl rfl (V_move rfl rfl) ?_
    refine G_call (L2 := [_, _, _]) rfl rfl rfl rfl rfl rfl Tryz.call87 (sup_decode a ha) [] [] rfl rfl ?_
    rintro v post ⟨rfl, rfl⟩
    show G _ _ _ [_, _, _] _
    refine G_val rfl rfl rfl rfl (V_move rfl rfl) ?_
    refine G_val rfl rfl rfl rfl (V_extract rfl rfl rfl) ?_
    refine G_val rfl rfl rfl rfl (V_extract rfl rfl rfl) ?_
    refine G_new rfl rfl rfl rfl (N_allocA rfl infSuperS_74 rfl) (fun b9 => ?_)
    refine G_put (l1 := []) (L' := [_, _, _, _]) rfl rfl rfl rfl (P_storeA (s := 5) rfl rfl rfl (mem_at 0 rfl) (by rfl) infSuperS_74 rfl (by rfl) (by simp [Value.oneCell', spCells, pCells, wCells, kCells])) rfl ?_
    refine G_val rfl rfl rfl rfl (V_assign rfl rfl) ?_
    refine G_done ?_
    refine G_seq ?_
    refine G_region (l := [0, 1, 2, 3, 4, 5, 6, 7, 8, 9, 10, 11, 12, 13]) rfl ?_
    refine G_val rfl rfl rfl rfl (V_move rfl rfl) ?_
    refine G_val rfl rfl rfl rfl (V_move rfl rfl) ?_
    refine G_split 26 rfl (fun hc2 => ?_) (fun hc2 => ?_)
    ·
     refine G_val rfl rfl rfl rfl (V_loadW (s := 5) rfl rfl (mem_at 0 rfl) Tryz.underlying74 rfl infSuperS_74 rfl (by rfl)) ?_
     refine G_call (L2 := [_, _, _, _]) rfl rfl rfl rfl rfl rfl Tryz.call59 (sup_place _ (decS_ok a)) [] [] rfl rfl ?_
     rintro v post ⟨rfl, rfl⟩
     show G _ _ _ [_, _, _, _] _
     refine G_val rfl rfl rfl rfl (V_move rfl rfl) ?_
     refine G_val rfl rfl rfl rfl (V_eql rfl rfl rfl) ?_
     refine G_val rfl rfl rfl rfl (V_pickT rfl rfl rfl) ?_
     refine G_val rfl rfl rfl rfl (V_move rfl rfl) ?_
     refine G_splitD 32 rfl (fun hc3 => ?_) (fun hc3 => ?_)
     ·
      refine G_val rfl rfl rfl rfl (V_fieldAddr (fo := 0) rfl Tryz.underlying74 rfl infSuperS_50 rfl rfl rfl) ?_
      refine G_val rfl rfl rfl rfl (V_load1 rfl rfl (mem_at 0 rfl) rfl Tryz.underlying50 rfl) ?_
      refine G_val rfl rfl rfl rfl (V_fieldAddr (fo := 0) rfl Tryz.underlying74 rfl infSuperS_50 rfl rfl rfl) ?_
      refine G_val rfl rfl rfl rfl (V_load1 rfl rfl (mem_at 2 rfl) rfl Tryz.underlying50 rfl) ?_
      refine G_val rfl rfl rfl rfl (V_gtr rfl rfl rfl) ?_
      refine G_val rfl rfl rfl rfl (V_pickT rfl rfl rfl) ?_
      refine G_done ?_
      refine G_ifD rfl (fun hc4 => ?_) (fun hc4 => ?_)
      ·
       have hst := trivial
       ·
        refine G_region (l := [0, 1]) rfl ?_
        refine G_val rfl rfl rfl rfl (V_loadW (s := 5) rfl rfl (mem_at 0 rfl) Tryz.underlying74 rfl infSuperS_74 rfl (by rfl)) ?_
        refine G_put (l1 := [_, _]) (L' := [_, _, _, _]) rfl rfl rfl rfl (P_storeA (s := 5) rfl rfl rfl (mem_at 2 rfl) (by rfl) infSuperS_74 rfl (by rfl) (by simp [Value.oneCell', spCells, pCells, wCells, kCells])) rfl ?_
        refine G_done ?_
        refine G_inBlock ?_
        refine G_region (l := [0, 1]) rfl ?_
        refine G_val rfl rfl rfl rfl ((V_add rfl rfl rfl).int (wrap_i64 (by omega))) ?_
        refine G_val rfl rfl rfl rfl (V_move rfl rfl) ?_
        refine G_done ?_
        refine G_sub ?_ [1, 1, 1] ?_ (ih (1, decSu a) ?_ ?_)
        · (refine (And.intro ?_ (And.intro ?_ (And.intro ?_ (And.intro ?_ (And.intro ?_ trivial))))) <;> first | rfl | exact slot_int (by omega) | exact slot_int (by simp))
        · exact ⟨_, rfl⟩
        · (first
          | exact ⟨by omega, (pick_no1 (by assumption)).symm⟩
          | exact ⟨by omega, (pick_no2 (by assumption)).symm⟩
          | exact ⟨by omega, (pick_no3 (by assumption)).symm⟩
          | exact ⟨by omega, (pick_yes (by assumption) (by assumption) (by assumption)).symm⟩)
        · (first | omega | (dsimp only; omega))
      refine G_skip ?_
      refine G_inBlock ?_
      refine G_region (l := [0, 1]) rfl ?_
      refine G_val rfl rfl rfl rfl ((V_add rfl rfl rfl).int (wrap_i64 (by omega))) ?_
      refine G_val rfl rfl rfl rfl (V_move rfl rfl) ?_
      refine G_done ?_
      refine G_sub ?_ [1, 1, 1] ?_ (ih (1, outAt a b 0) ?_ ?_)
      · (refine (And.intro ?_ (And.intro ?_ (And.intro ?_ (And.intro ?_ (And.intro ?_ trivial))))) <;> first | rfl | exact slot_int (by omega) | exact slot_int (by simp))
      · exact ⟨_, rfl⟩
      · (first
        | exact ⟨by omega, (pick_no1 (by assumption)).symm⟩
        | exact ⟨by omega, (pick_no2 (by assumption)).symm⟩
        | exact ⟨by omega, (pick_no3 (by assumption)).symm⟩
        | exact ⟨by omega, (pick_yes (by assumption) (by assumption) (by assumption)).symm⟩)
      · (first | omega | (dsimp only; omega))
     refine G_off rfl rfl rfl rfl ?_
     refine G_off rfl rfl rfl rfl ?_
     refine G_off rfl rfl rfl rfl ?_
     refine G_off rfl rfl rfl rfl ?_
     refine G_off rfl rfl rfl rfl ?_
     refine G_val rfl rfl rfl rfl (V_pickF rfl rfl rfl) ?_
     refine G_done ?_
     refine G_else rfl ?_
     refine G_skip ?_
     refine G_inBlock ?_
     refine G_region (l := [0, 1]) rfl ?_
     refine G_val rfl rfl rfl rfl ((V_add rfl rfl rfl).int (wrap_i64 (by omega))) ?_
     refine G_val rfl rfl rfl rfl (V_move rfl rfl) ?_
     refine G_done ?_
     refine G_sub ?_ [1, 1, 1] ?_ (ih (1, outAt a b 0) ?_ ?_)
     · (refine (And.intro ?_ (And.intro ?_ (And.intro ?_ (And.intro ?_ (And.intro ?_ trivial))))) <;> first | rfl | exact slot_int (by omega) | exact slot_int (by simp))
     · exact ⟨_, rfl⟩
     · (first
       | exact ⟨by omega, (pick_no1 (by assumption)).symm⟩
       | exact ⟨by omega, (pick_no2 (by assumption)).symm⟩
       | exact ⟨by omega, (pick_no3 (by assumption)).symm⟩
       | exact ⟨by omega, (pick_yes (by assumption) (by assumption) (by assumption)).symm⟩)
     · (first | omega | (dsimp only; omega))
    refine G_off rfl rfl rfl rfl ?_
    refine G_off rfl rfl rfl rfl ?_
    refine G_off rfl rfl rfl rfl ?_
    refine G_off rfl rfl rfl rfl ?_
    refine G_val rfl rfl rfl rfl (V_pickF rfl rfl rfl) ?_
    refine G_val rfl rfl rfl rfl (V_move rfl rfl) ?_
    refine G_off rfl rfl rfl rfl ?_
    refine G_off rfl rfl rfl rfl ?_
    refine G_off rfl rfl rfl rfl ?_
    refine G_off rfl rfl rfl rfl ?_
    refine G_off rfl rfl rfl rfl ?_
    refine G_val rfl rfl rfl rfl (V_pickF rfl rfl rfl) ?_
    refine G_done ?_
    refine G_else rfl ?_
    refine G_skip ?_
    refine G_inBlock ?_
    refine G_region (l := [0, 1]) rfl ?_
    refine G_val rfl rfl rfl rfl ((V_add rfl rfl rfl).int (wrap_i64 (by omega))) ?_
    refine G_val rfl rfl rfl rfl (V_move rfl rfl) ?_
    refine G_done ?_
    refine G_sub ?_ [1, 1, 1] ?_ (ih (1, outAt a b 0) ?_ ?_)
    · (refine (And.intro ?_ (And.intro ?_ (And.intro ?_ (And.intro ?_ (And.intro ?_ trivial))))) <;> first | rfl | exact slot_int (by omega) | exact slot_int (by simp))
    · exact ⟨_, rfl⟩
    · (first
      | exact ⟨by omega, (pick_no1 (by assumption)).symm⟩
      | exact ⟨by omega, (pick_no2 (by assumption)).symm⟩
      | exact ⟨by omega, (pick_no3 (by assumption)).symm⟩
      | exact ⟨by omega, (pick_yes (by assumption) (by assumption) (by assumption)).symm⟩)
    · (first | omega | (dsimp only; omega))
   ·
    refine G_region (l := [0, 1, 2, 3, 4]) rfl ?_
    refine G_val rfl rfl rfl rfl (V_move rfl rfl) ?_
    refine G_val rfl rfl rfl rfl (V_indexAddrN (s := 1) rfl Tryz.underlying34 infSuperS_9 rfl rfl rfl rfl (by omega)) ?_
    refine G_val rfl rfl rfl rfl (V_load1 rfl rfl (mem_at 0 rfl) rfl Tryz.underlying9 rfl) ?_
    refine G_val rfl rfl rfl rfl (V_assign rfl rfl) ?_
    refine G_val rfl rfl rfl rfl (V_assign rfl rfl) ?_
    refine G_done ?_
    refine G_seq ?_
    have hqa := (decS_ok a).q1
    have hqb := (decS_ok b).q1
    subst ho
    refine G_region (l := [0, 1, 2, 3, 4, 5, 6, 7]) rfl ?_
    refine G_val rfl rfl rfl rfl (V_move rfl rfl) ?_
    refine G_call (L2 := [_, _, _]) rfl rfl rfl rfl rfl rfl Tryz.call87 (sup_decode b hb) [] [] rfl rfl ?_
    rintro v post ⟨rfl, rfl⟩
    show G _ _ _ [_, _, _] _
    refine G_val rfl rfl rfl rfl (V_move rfl rfl) ?_
    refine G_val rfl rfl rfl rfl (V_extract rfl rfl rfl) ?_
    refine G_val rfl rfl rfl rfl (V_extract rfl rfl rfl) ?_
    refine G_new rfl rfl rfl rfl (N_allocA rfl infSuperS_74 rfl) (fun b9 => ?_)
    refine G_put (l1 := []) (L' := [_, _, _, _]) rfl rfl rfl rfl (P_storeA (s := 5) rfl rfl rfl (mem_at 0 rfl) (by rfl) infSuperS_74 rfl (by rfl) (by simp [Value.oneCell', spCells, pCells, wCells, kCells])) rfl ?_
    refine G_val rfl rfl rfl rfl (V_assign rfl rfl) ?_
    refine G_done ?_
    refine G_seq ?_
    refine G_region (l := [0, 1, 2, 3, 4, 5, 6, 7, 8, 9, 10, 11, 12, 13]) rfl ?_
    refine G_val rfl rfl rfl rfl (V_move rfl rfl) ?_
    refine G_val rfl rfl rfl rfl (V_move rfl rfl) ?_
    refine G_split 26 rfl (fun hc2 => ?_) (fun hc2 => ?_)
    ·
     refine G_val rfl rfl rfl rfl (V_loadW (s := 5) rfl rfl (mem_at 0 rfl) Tryz.underlying74 rfl infSuperS_74 rfl (by rfl)) ?_
     refine G_call (L2 := [_, _, _, _]) rfl rfl rfl rfl rfl rfl Tryz.call59 (sup_place _ (decS_ok b)) [] [] rfl rfl ?_
     rintro v post ⟨rfl, rfl⟩
     show G _ _ _ [_, _, _, _] _
     refine G_val rfl rfl rfl rfl (V_move rfl rfl) ?_
     refine G_val rfl rfl rfl rfl (V_eql rfl rfl rfl) ?_
     refine G_val rfl rfl rfl rfl (V_pickT rfl rfl rfl) ?_
     refine G_val rfl rfl rfl rfl (V_move rfl rfl) ?_
     refine G_splitD 32 rfl (fun hc3 => ?_) (fun hc3 => ?_)
     ·
      refine G_val rfl rfl rfl rfl (V_fieldAddr (fo := 0) rfl Tryz.underlying74 rfl infSuperS_50 rfl rfl rfl) ?_
      refine G_val rfl rfl rfl rfl (V_load1 rfl rfl (mem_at 0 rfl) rfl Tryz.underlying50 rfl) ?_
      refine G_val rfl rfl rfl rfl (V_fieldAddr (fo := 0) rfl Tryz.underlying74 rfl infSuperS_50 rfl rfl rfl) ?_
      refine G_val rfl rfl rfl rfl (V_load1 rfl rfl (mem_at 2 rfl) rfl Tryz.underlying50 rfl) ?_
      refine G_val rfl rfl rfl rfl (V_gtr rfl rfl rfl) ?_
      refine G_val rfl rfl rfl rfl (V_pickT rfl rfl rfl) ?_
      refine G_done ?_
      refine G_ifD rfl (fun hc4 => ?_) (fun hc4 => ?_)
      ·
       have hst := trivial
       ·
        refine G_region (l := [0, 1]) rfl ?_
        refine G_val rfl rfl rfl rfl (V_loadW (s := 5) rfl rfl (mem_at 0 rfl) Tryz.underlying74 rfl infSuperS_74 rfl (by rfl)) ?_
        refine G_put (l1 := [_, _]) (L' := [_, _, _, _]) rfl rfl rfl rfl (P_storeA (s := 5) rfl rfl rfl (mem_at 2 rfl) (by rfl) infSuperS_74 rfl (by rfl) (by simp [Value.oneCell', spCells, pCells, wCells, kCells])) rfl ?_
        refine G_done ?_
        refine G_inBlock ?_
        refine G_region (l := [0, 1]) rfl ?_
        refine G_val rfl rfl rfl rfl ((V_add rfl rfl rfl).int (wrap_i64 (by omega))) ?_
        refine G_val rfl rfl rfl rfl (V_move rfl rfl) ?_
        refine G_done ?_
        refine G_sub ?_ [1, 1, 1] ?_ (ih (2, decSu b) ?_ ?_)
        · (refine (And.intro ?_ (And.intro ?_ (And.intro ?_ (And.intro ?_ (And.intro ?_ trivial))))) <;> first | rfl | exact slot_int (by omega) | exact slot_int (by simp))
        · exact ⟨_, rfl⟩
        · (first
          | exact ⟨by omega, (pick_no1 (by assumption)).symm⟩
          | exact ⟨by omega, (pick_no2 (by assumption)).symm⟩
          | exact ⟨by omega, (pick_no3 (by assumption)).symm⟩
          | exact ⟨by omega, (pick_yes (by assumption) (by assumption) (by assumption)).symm⟩)
        · (first | omega | (dsimp only; omega))
      refine G_skip ?_
      refine G_inBlock ?_
      refine G_region (l := [0, 1]) rfl ?_
      refine G_val rfl rfl rfl rfl ((V_add rfl rfl rfl).int (wrap_i64 (by omega))) ?_
      refine G_val rfl rfl rfl rfl (V_move rfl rfl) ?_
      refine G_done ?_
      refine G_sub ?_ [1, 1, 1] ?_ (ih (2, outAt a b 1) ?_ ?_)
      · (refine (And.intro ?_ (And.intro ?_ (And.intro ?_ (And.intro ?_ (And.intro ?_ trivial))))) <;> first | rfl | exact slot_int (by omega) | exact slot_int (by simp))
      · exact ⟨_, rfl⟩
      · (first
        | exact ⟨by omega, (pick_no1 (by assumption)).symm⟩
        | exact ⟨by omega, (pick_no2 (by assumption)).symm⟩
        | exact ⟨by omega, (pick_no3 (by assumption)).symm⟩
        | exact ⟨by omega, (pick_yes (by assumption) (by assumption) (by assumption)).symm⟩)
      · (first | omega | (dsimp only; omega))
     refine G_off rfl rfl rfl rfl ?_
     refine G_off rfl rfl rfl rfl ?_
     refine G_off rfl rfl rfl rfl ?_
     refine G_off rfl rfl rfl rfl ?_
     refine G_off rfl rfl rfl rfl ?_
     refine G_val rfl rfl rfl rfl (V_pickF rfl rfl rfl) ?_
     refine G_done ?_
     refine G_else rfl ?_
     refine G_skip ?_
     refine G_inBlock ?_
     refine G_region (l := [0, 1]) rfl ?_
     refine G_val rfl rfl rfl rfl ((V_add rfl rfl rfl).int (wrap_i64 (by omega))) ?_
     refine G_val rfl rfl rfl rfl (V_move rfl rfl) ?_
     refine G_done ?_
     refine G_sub ?_ [1, 1, 1] ?_ (ih (2, outAt a b 1) ?_ ?_)
     · (refine (And.intro ?_ (And.intro ?_ (And.intro ?_ (And.intro ?_ (And.intro ?_ trivial))))) <;> first | rfl | exact slot_int (by omega) | exact slot_int (by simp))
     · exact ⟨_, rfl⟩
     · (first
       | exact ⟨by omega, (pick_no1 (by assumption)).symm⟩
       | exact ⟨by omega, (pick_no2 (by assumption)).symm⟩
       | exact ⟨by omega, (pick_no3 (by assumption)).symm⟩
       | exact ⟨by omega, (pick_yes (by assumption) (by assumption) (by assumption)).symm⟩)
     · (first | omega | (dsimp only; omega))
    refine G_off rfl rfl rfl rfl ?_
    refine G_off rfl rfl rfl rfl ?_
    refine G_off rfl rfl rfl rfl ?_
    refine G_off rfl rfl rfl rfl ?_
    refine G_val rfl rfl rfl rfl (V_pickF rfl rfl rfl) ?_
    refine G_val rfl rfl rfl rfl (V_move rfl rfl) ?_
    refine G_off rfl rfl rfl rfl ?_
    refine G_off rfl rfl rfl rfl ?_
    refine G_off rfl rfl rfl rfl ?_
    refine G_off rfl rfl rfl rfl ?_
    refine G_off rfl rfl rfl rfl ?_
    refine G_val rfl rfl rfl rfl (V_pickF rfl rfl rfl) ?_
    refine G_done ?_
    refine G_else rfl ?_
    refine G_skip ?_
    refine G_inBlock ?_
    refine G_region (l := [0, 1]) rfl ?_
    refine G_val rfl rfl rfl rfl ((V_add rfl rfl rfl).int (wrap_i64 (by omega))) ?_
    refine G_val rfl rfl rfl rfl (V_move rfl rfl) ?_
    refine G_done ?_
    refine G_sub ?_ [1, 1, 1] ?_ (ih (2, outAt a b 1) ?_ ?_)
    · (refine (And.intro ?_ (And.intro ?_ (And.intro ?_ (And.intro ?_ (And.intro ?_ trivial))))) <;> first | rfl | exact slot_int (by omega) | exact slot_int (by simp))
    · exact ⟨_, rfl⟩
    · (first
      | exact ⟨by omega, (pick_no1 (by assumption)).symm⟩
      | exact ⟨by omega, (pick_no2 (by assumption)).symm⟩
      | exact ⟨by omega, (pick_no3 (by assumption)).symm⟩
      | exact ⟨by omega, (pick_yes (by assumption) (by assumption) (by assumption)).symm⟩)
    · (first | omega | (dsimp only; omega))
  refine G_exit rfl ?_
  refine G_seq ?_
  refine GH_start (Lq := [_]) (isq := [1]) (m := 6) mixedK rfl rfl ?_
  refine GH_take 0 rfl rfl rfl rfl (by kernel_rfl) (by kernel_rfl) (by kernel_rfl) (fun _ _ => (V_loadW (s := 5) rfl rfl (mem_at 0 rfl) Tryz.underlying74 rfl infSuperS_74 rfl (by rfl))) ?_
  refine GH_take 1 rfl rfl rfl rfl (by kernel_rfl) (by kernel_rfl) (by kernel_rfl) (fun _ _ => (V_fieldAddr (fo := 0) rfl Tryz.underlying74 rfl infSuperS_50 rfl rfl rfl)) ?_
  refine GH_take 2 rfl rfl rfl rfl (by kernel_rfl) (by kernel_rfl) (by kernel_rfl) (fun _ _ => (V_load1 rfl rfl (mem_at 0 rfl) rfl Tryz.underlying50 rfl)) ?_
  refine GH_take 3 rfl rfl rfl rfl (by kernel_rfl) (by kernel_rfl) (by kernel_rfl) (fun _ _ => (V_gtr rfl rfl rfl)) ?_
  refine GH_all [4] (by kernel_rfl) (by decide) ?_
  refine (And.intro ?_ trivial)
  ·
   refine GHop_put (l1 := [_, _]) (L' := [_, _, _]) rfl rfl rfl rfl (P_storeA (s := 5) rfl rfl rfl (mem_at 2 rfl) (by rfl) infSuperS_74 rfl (by rfl) (by simp [Value.oneCell', spCells, pCells, wCells, kCells])) rfl [1] rfl ?_
   refine GH_take 5 rfl rfl rfl rfl (by kernel_rfl) (by kernel_rfl) (by kernel_rfl) (fun _ _ => (V_assign rfl rfl)) ?_
   refine GH_done (by kernel_rfl) ?_
   refine G_ret (post := []) Tryz.func74 rfl (RVs_cons (RV_cell (s := 5) rfl (mem_at 2 rfl) Tryz.underlying74 rfl infSuperS_74 rfl (by rfl)) (RVs_cons (RV_tmp rfl) RVs_nil)) [] rfl ?_
   dsimp only [packed]
   obtain rfl : i = 2 := by omega
   subst ho
   exact ⟨rfl, rfl⟩

end
end Go.Proofs.YtbblkgdejgoncaaGreatDoor

/- Disks, in plain lists: writes one behind the other; what is read; what a crash leaves of blocks that are sealed. -/
set_option linter.unusedSimpArgs false
set_option linter.unusedVariables false
namespace Go.Proofs.YtbblkgdejgoncaaGreatDoor
open Go Go.RowKit

section



theorem set_getD {L : List (List UInt8)} {i j : Nat} {s : List UInt8} (hj : j < L.length) : (L.set i s).getD j [] = if i = j then s else L.getD j [] := by
  rw [List.getD_eq_getElem?_getD, List.getElem?_set, List.getD_eq_getElem?_getD]
  by_cases h : i = j
  · subst h; simp [hj]
  · simp [h]
theorem applyW_get (j : Nat) : ∀ (W : List (Int × List UInt8)) (L : List (List UInt8)), j < L.length → (∀ x ∈ W, 0 ≤ x.1) → (applyW L W).getD j [] = lastW (L.getD j []) (j : Int) W
  | [], L, _, _ => rfl
  | x :: W, L, hj, hW => by
    have ih := applyW_get j W (L.set x.1.toNat x.2) (by simpa using hj) (fun y hy => hW y (by simp [hy]))
    have hx := hW x (by simp)
    show (applyW (L.set x.1.toNat x.2) W).getD j [] = lastW (if x.1 = (j : Int) then x.2 else L.getD j []) (j : Int) W
    rw [ih, set_getD hj]
    congr 1
    by_cases e : x.1.toNat = j
    · rw [if_pos e, if_pos (by omega)]
    · rw [if_neg e, if_neg (by omega)]
theorem applyW_app (L : List (List UInt8)) (W V : List (Int × List UInt8)) : applyW L (W ++ V) = applyW (applyW L W) V := by
  unfold applyW; rw [List.foldl_append]
/-- A disk whose power stays. -/
structure Lively (k : Dk) : Prop where
  dead : k.dead = false
  fuse : k.fuse = -1
theorem lively_spent {k : Dk} (h : Lively k) : spD k.fuse k.dead = false ∧ Lively k.spent := by
  have h1 := h.dead
  have h2 := h.fuse
  refine ⟨by rw [h1, h2]; rfl, ?_, ?_⟩
  · show spD _ _ = false; rw [h1, h2]; rfl
  · show spF _ _ = -1; rw [h1, h2]; rfl
theorem newD_lively (n : Nat) : Lively (newD n) := ⟨rfl, rfl⟩
theorem crash_lively (k : Dk) (ks : List (Int × Int)) : Lively (k.crash ks) := ⟨rfl, rfl⟩
theorem sync_lively {k : Dk} (h : Lively k) : k.syncE = 0 ∧ k.sync.L = applyW k.L k.W ∧ k.sync.W = [] ∧ Lively k.sync := by
  obtain ⟨s1, s2⟩ := lively_spent h
  obtain ⟨e1, e2⟩ := sync_live s1
  rw [e1]
  exact ⟨e2, rfl, rfl, ⟨s2.dead, s2.fuse⟩⟩
theorem write_lively {k : Dk} (h : Lively k) {a : Int} {s : List UInt8} (ha : 0 ≤ a ∧ a < (k.L.length : Int)) (hs : s.length = 64) : k.writeE a s = 0 ∧ (k.write a s).L = k.L ∧ (k.write a s).W = k.W ++ [(a, s)] ∧ Lively (k.write a s) := by
  obtain ⟨s1, s2⟩ := lively_spent h
  obtain ⟨e1, e2⟩ := write_live (hasE_ok.2 ha) hs s1
  rw [e1]
  exact ⟨e2, rfl, rfl, ⟨s2.dead, s2.fuse⟩⟩
/-- What is read of all blocks. -/
def view (k : Dk) : List (List UInt8) := applyW k.L k.W
theorem view_len (k : Dk) : (view k).length = k.L.length := applyW_len _ _
theorem view_64 {k : Dk} (h : DkOk k) : ∀ s ∈ view k, s.length = 64 := applyW_64 _ _ h.l64 h.w64
theorem read_view {k : Dk} (h : DkOk k) (hd : k.dead = false) {i : Nat} (hi : i < k.L.length) : k.readS (i : Int) = (view k).getD i [] ∧ k.readE (i : Int) = 0 := by
  obtain ⟨e1, e2⟩ := read_yes (k := k) (a := (i : Int)) (hasE_ok.2 (by omega)) (by rw [hd]; exact Bool.false_ne_true)
  refine ⟨?_, e1⟩
  rw [e2, Int.toNat_natCast]
  exact (applyW_get i k.W k.L hi (fun x hx => (h.wat x hx).1)).symm
theorem view_nil {k : Dk} (h : k.W = []) : view k = k.L := by unfold view; rw [h]; rfl

theorem lastW_len {a : Int} : ∀ (W : List (Int × List UInt8)) (s : List UInt8), s.length ≤ 64 → (∀ x ∈ W, x.2.length = 64) → (lastW s a W).length ≤ 64
  | [], s, h, _ => h
  | x :: W, s, h, hW => by
    show (lastW (if x.1 = a then x.2 else s) a W).length ≤ 64
    refine lastW_len W _ ?_ (fun y hy => hW y (by simp [hy]))
    split
    · have := hW x (by simp); omega
    · exact h
theorem readS_len {k : Dk} (h : DkOk k) (a : Int) : (k.readS a).length ≤ 64 := by
  unfold Dk.readS
  split
  · simp
  · rename_i hn
    refine lastW_len _ _ ?_ h.w64
    rcases Nat.lt_or_ge a.toNat k.L.length with hl | hl
    · rw [getD64 h.l64 hl]; exact Nat.le_refl _
    · rw [List.getD_eq_getElem?_getD, List.getElem?_eq_none hl]; simp
/-- Blocks, one behind the other, each with its place. -/
def places (a : Int) : List (List UInt8) → List (Int × List UInt8)
  | [] => []
  | b :: r => (a, b) :: places (a + 1) r
theorem places_len : ∀ (bl : List (List UInt8)) (a : Int), (places a bl).length = bl.length
  | [], _ => rfl
  | b :: r, a => by rw [places, List.length_cons, places_len r, List.length_cons]
theorem places_app : ∀ (bl cl : List (List UInt8)) (a : Int), places a (bl ++ cl) = places a bl ++ places (a + (bl.length : Int)) cl
  | [], cl, a => by simp [places]
  | b :: r, cl, a => by
    rw [List.cons_append, places, places, places_app r cl, List.cons_append, List.length_cons, show a + 1 + (r.length : Int) = a + ((r.length + 1 : Nat) : Int) by omega]
theorem places_mem {x : Int × List UInt8} : ∀ {bl : List (List UInt8)} {a : Int}, x ∈ places a bl → ∃ (i : Nat) (b : List UInt8), bl[i]? = some b ∧ x = (a + (i : Int), b)
  | [], _, h => by cases h
  | b :: r, a, h => by
    rw [places] at h
    rcases List.mem_cons.1 h with rfl | h
    · exact ⟨0, b, rfl, by rw [Prod.mk.injEq]; exact ⟨by omega, rfl⟩⟩
    · obtain ⟨i, c, h1, rfl⟩ := places_mem h
      exact ⟨i + 1, c, by simpa using h1, by rw [Prod.mk.injEq]; exact ⟨by omega, rfl⟩⟩
theorem applyW_places : ∀ (bl : List (List UInt8)) (L : List (List UInt8)) (a : Nat), a + bl.length ≤ L.length → ∀ i, i < L.length → (applyW L (places (a : Int) bl)).getD i [] = if a ≤ i ∧ i < a + bl.length then bl.getD (i - a) [] else L.getD i []
  | [], L, a, _, i, _ => by rw [if_neg (by simp only [List.length_nil]; omega)]; rfl
  | b :: r, L, a, h, i, hi => by
    rw [List.length_cons] at h
    have ih := applyW_places r (L.set a b) (a + 1) (by simp; omega) i (by simpa using hi)
    show (applyW (L.set ((a : Int)).toNat b) (places ((a : Int) + 1) r)).getD i [] = _
    rw [Int.toNat_natCast, show (a : Int) + 1 = ((a + 1 : Nat) : Int) by omega, ih, set_getD hi, List.length_cons]
    by_cases e : a = i
    · subst e
      rw [if_neg (by omega), if_pos rfl, if_pos (by omega), Nat.sub_self]; rfl
    · rw [if_neg e]
      by_cases g : a + 1 ≤ i ∧ i < a + 1 + r.length
      · rw [if_pos g, if_pos (by omega), show i - a = (i - (a + 1)) + 1 by omega]; rfl
      · rw [if_neg g, if_neg (by omega)]
/-- The disk behind writes one behind the other, up to the first error; that error. -/
def wrsK (k : Dk) (a : Int) : List (List UInt8) → Dk
  | [] => k
  | b :: r => if k.writeE a b ≠ 0 then k.write a b else wrsK (k.write a b) (a + 1) r
def wrsE (k : Dk) (a : Int) : List (List UInt8) → Int
  | [] => 0
  | b :: r => if k.writeE a b ≠ 0 then k.writeE a b else wrsE (k.write a b) (a + 1) r
/-- How far a walk of these writes has come. -/
def WrsAt (k kk : Dk) (a : Int) (bl : List (List UInt8)) (i : Nat) : Prop := wrsK k a bl = wrsK kk (a + (i : Int)) (bl.drop i) ∧ wrsE k a bl = wrsE kk (a + (i : Int)) (bl.drop i)
theorem wrs_start (k : Dk) (a : Int) (bl : List (List UInt8)) : WrsAt k k a bl 0 := by unfold WrsAt; simp
theorem wrs_stop {k kk : Dk} {a : Int} {bl : List (List UInt8)} {i : Nat} {b : List UInt8} (h : WrsAt k kk a bl i) (hb : bl[i]? = some b) (he : ¬ kk.writeE (a + (i : Int)) b = 0) : wrsK k a bl = kk.write (a + (i : Int)) b ∧ wrsE k a bl = kk.writeE (a + (i : Int)) b := by
  obtain ⟨hlt, rfl⟩ := List.getElem?_eq_some_iff.1 hb
  obtain ⟨h1, h2⟩ := h
  rw [List.drop_eq_getElem_cons hlt] at h1 h2
  rw [h1, h2, wrsK, wrsE, if_pos he, if_pos he]; exact ⟨rfl, rfl⟩
theorem wrs_next {k kk : Dk} {a : Int} {bl : List (List UInt8)} {i : Nat} {b : List UInt8} (h : WrsAt k kk a bl i) (hb : bl[i]? = some b) (he : kk.writeE (a + (i : Int)) b = 0) : WrsAt k (kk.write (a + (i : Int)) b) a bl (i + 1) := by
  obtain ⟨hlt, rfl⟩ := List.getElem?_eq_some_iff.1 hb
  obtain ⟨h1, h2⟩ := h
  rw [List.drop_eq_getElem_cons hlt] at h1 h2
  unfold WrsAt
  rw [h1, h2, wrsK, wrsE, if_neg (by omega), if_neg (by omega), show a + (i : Int) + 1 = a + ((i + 1 : Nat) : Int) by omega]; exact ⟨rfl, rfl⟩
theorem wrs_end {k kk : Dk} {a : Int} {bl : List (List UInt8)} {i : Nat} (h : WrsAt k kk a bl i) (hi : bl.length ≤ i) : wrsK k a bl = kk ∧ wrsE k a bl = 0 := by
  obtain ⟨h1, h2⟩ := h
  rw [List.drop_of_length_le hi] at h1 h2
  exact ⟨h1, h2⟩
theorem wrs_ok : ∀ (bl : List (List UInt8)) (k : Dk) (a : Int), DkOk k → DkOk (wrsK k a bl)
  | [], _, _, h => h
  | b :: r, k, a, h => by
    rw [wrsK]; split
    · exact write_ok h a b
    · exact wrs_ok r _ _ (write_ok h a b)
theorem wrs_len : ∀ (bl : List (List UInt8)) (k : Dk) (a : Int), (wrsK k a bl).L.length = k.L.length
  | [], _, _ => rfl
  | b :: r, k, a => by
    rw [wrsK]; split
    · exact write_len k a b
    · rw [wrs_len r, write_len]
theorem wrs_W : ∀ (bl : List (List UInt8)) (k : Dk) (a : Int), (wrsK k a bl).W.length ≤ k.W.length + bl.length
  | [], _, _ => Nat.le_refl _
  | b :: r, k, a => by
    have h1 := write_W k a b
    rw [wrsK, List.length_cons]; split
    · omega
    · have := wrs_W r (k.write a b) (a + 1); omega
/-- What writes within a disk leave: so many of them wait; all, if there is no error. -/
theorem wrs_all : ∀ (bl : List (List UInt8)) (k : Dk) (a : Int), (∀ b ∈ bl, b.length = 64) → 0 ≤ a → a + (bl.length : Int) ≤ (k.L.length : Int) →
    ∃ j, j ≤ bl.length ∧ (wrsK k a bl).L = k.L ∧ (wrsK k a bl).W = k.W ++ places a (bl.take j) ∧ ((wrsE k a bl = 0 ∧ j = bl.length ∧ (k.dead = false → (wrsK k a bl).dead = false)) ∨ (wrsE k a bl = 21 ∧ j < bl.length ∧ (wrsK k a bl).dead = true))
  | [], k, a, _, _, _ => ⟨0, Nat.le_refl _, rfl, by simp [wrsK, places], .inl ⟨rfl, rfl, fun h => h⟩⟩
  | b :: r, k, a, hb, h0, h1 => by
    have hb0 := hb b (by simp)
    rw [List.length_cons] at h1
    have hh : hasE k.L.length a = 0 := hasE_ok.2 (by omega)
    cases hd : spD k.fuse k.dead with
    | true =>
      obtain ⟨e1, e2⟩ := write_dead hh hb0 hd
      refine ⟨0, Nat.zero_le _, ?_, ?_, .inr ⟨?_, by simp, ?_⟩⟩
      · rw [wrsK, if_pos (by rw [e2]; decide), e1]; rfl
      · rw [wrsK, if_pos (by rw [e2]; decide), e1]; simp [places]; rfl
      · rw [wrsE, if_pos (by rw [e2]; decide), e2]
      · rw [wrsK, if_pos (by rw [e2]; decide), e1]; exact hd
    | false =>
      obtain ⟨e1, e2⟩ := write_live hh hb0 hd
      obtain ⟨j, hj, g1, g2, g3⟩ := wrs_all r (k.write a b) (a + 1) (fun x hx => hb x (by simp [hx])) (by omega) (by rw [write_len]; omega)
      have ek : wrsK k a (b :: r) = wrsK (k.write a b) (a + 1) r := by rw [wrsK, if_neg (by rw [e2]; simp)]
      have ee : wrsE k a (b :: r) = wrsE (k.write a b) (a + 1) r := by rw [wrsE, if_neg (by rw [e2]; simp)]
      rw [ek, ee]
      have hL : (k.write a b).L = k.L := by rw [e1]; rfl
      have hW : (k.write a b).W = k.W ++ [(a, b)] := by rw [e1]; rfl
      have hD : (k.write a b).dead = false := by rw [e1]; exact hd
      refine ⟨j + 1, by simp; omega, by rw [g1, hL], by rw [g2, hW, List.take_succ_cons, places, List.append_assoc]; rfl, ?_⟩
      rcases g3 with ⟨g3, g4, g5⟩ | ⟨g3, g4, g5⟩
      · exact .inl ⟨g3, by rw [List.length_cons]; omega, fun _ => g5 hD⟩
      · exact .inr ⟨g3, by rw [List.length_cons]; omega, g5⟩
theorem wrs_lively : ∀ (bl : List (List UInt8)) (k : Dk) (a : Int), Lively k → (∀ b ∈ bl, b.length = 64) → 0 ≤ a → a + (bl.length : Int) ≤ (k.L.length : Int) →
    wrsE k a bl = 0 ∧ (wrsK k a bl).L = k.L ∧ (wrsK k a bl).W = k.W ++ places a bl ∧ Lively (wrsK k a bl)
  | [], k, a, h, _, _, _ => ⟨rfl, rfl, by simp [wrsK, places], h⟩
  | b :: r, k, a, h, hb, h0, h1 => by
    rw [List.length_cons] at h1
    obtain ⟨e2, hL, hW, hv⟩ := write_lively h (a := a) (s := b) (by omega) (hb b (by simp))
    obtain ⟨g1, g2, g3, g4⟩ := wrs_lively r (k.write a b) (a + 1) hv (fun x hx => hb x (by simp [hx])) (by omega) (by rw [write_len]; omega)
    have ek : wrsK k a (b :: r) = wrsK (k.write a b) (a + 1) r := by rw [wrsK, if_neg (by rw [e2]; simp)]
    have ee : wrsE k a (b :: r) = wrsE (k.write a b) (a + 1) r := by rw [wrsE, if_neg (by rw [e2]; simp)]
    rw [ek, ee]
    exact ⟨g1, by rw [g2, hL], by rw [g3, hW, places, List.append_assoc]; rfl, g4⟩
/-- What a crash leaves block by block: what no write that stays breaks. -/
theorem keeps_inv {W : List (Int × List UInt8)} (I : Nat → List UInt8 → Prop) (hx : ∀ x ∈ W, ∀ b c, c ≤ 64 → I x.1.toNat b → I x.1.toNat (x.2.take c ++ b.drop c)) :
    ∀ (ks : List (Int × Int)) (L : List (List UInt8)), (∀ x ∈ W, x.1.toNat < L.length) → (∀ i, i < L.length → I i (L.getD i [])) → ∀ i, i < L.length → I i ((keepsL W L ks).getD i [])
  | [], L, _, h, i, hi => h i hi
  | k :: ks, L, hw, h, i, hi => by
    show I i ((keepsL W (keep1 W L k) ks).getD i [])
    have hl := keep1_len W L k
    refine keeps_inv I hx ks (keep1 W L k) (fun x hx' => by rw [hl]; exact hw x hx') (fun i hi => ?_) i (by rw [hl]; exact hi)
    rw [hl] at hi
    by_cases hk : k.1 < 0 ∨ (W.length : Int) ≤ k.1
    · rw [keep1_no hk]; exact h i hi
    · obtain ⟨y, hy⟩ := getI (show k.1.toNat < W.length by omega)
      rw [keep1_yes hk hy, set_getD hi]
      by_cases e : y.1.toNat = i
      · rw [if_pos e]
        have hm := List.mem_of_getElem? hy
        have := hx y hm (L.getD y.1.toNat []) (cut64 k.2) (cut64_le _) (h _ (hw y hm))
        rw [e] at this ⊢
        exact this
      · rw [if_neg e]; exact h i hi

-- blocks that are sealed, and torn
def b3 (b : List UInt8) : Nat := (b.getD 3 0).toNat
def b59 (b : List UInt8) : Nat := (b.getD 59 0).toNat
/-- What has been sealed, whole or in part, by numbers up to this one. -/
structure Low (e : Nat) (b : List UInt8) : Prop where
  len : b.length = 64
  z : b.take 3 = [0, 0, 0]
  p : b3 b ≤ e
  q : b59 b ≤ e
theorem Low.mono {e f : Nat} {b : List UInt8} (h : Low e b) (hef : e ≤ f) : Low f b := ⟨h.len, h.z, Nat.le_trans h.p hef, Nat.le_trans h.q hef⟩
theorem zero_b3 : b3 (List.replicate 64 0) = 0 := by decide
theorem zero_b59 : b59 (List.replicate 64 0) = 0 := by decide
theorem low_zero (e : Nat) : Low e (List.replicate 64 0) := ⟨by simp, by decide, by rw [zero_b3]; omega, by rw [zero_b59]; omega⟩
theorem be4_small {e : Nat} (h : e < 256) : be 4 e = [0, 0, 0, UInt8.ofNat e] := by
  have h1 : e / 256 = 0 := by omega
  have h2 : e % 256 = e := by omega
  simp [be, h1, h2]
theorem sealL_small {e i : Nat} {d : List UInt8} (h0 : 0 < e) (h : e < 256) (hd : d.length = 48) : sealL e i d = [0, 0, 0, UInt8.ofNat e] ++ be 4 i ++ d ++ [0, 0, 0, UInt8.ofNat e] ++ be 4 i := by
  unfold sealL; rw [if_neg (by omega), be4_small h]
theorem seal_facts {e i : Nat} {d : List UInt8} (h0 : 0 < e) (h : e < 256) (hd : d.length = 48) : (sealL e i d).length = 64 ∧ (sealL e i d).take 3 = [0, 0, 0] ∧ b3 (sealL e i d) = e ∧ b59 (sealL e i d) = e ∧ ((sealL e i d).take 56).drop 8 = d := by
  have hE : sealE e d = 0 := (sealE_cases e d).2 (by omega)
  have h4 := be_length 4 i
  have hu : (UInt8.ofNat e).toNat = e := by rw [UInt8.toNat_ofNat']; omega
  refine ⟨sealL_length hE, ?_, ?_, ?_, (sealL_parts hE).2.2.1⟩
  · rw [sealL_small h0 h hd]; rfl
  · rw [sealL_small h0 h hd]; exact hu
  · rw [sealL_small h0 h hd]
    unfold b59
    rw [List.getD_eq_getElem?_getD, List.append_assoc, List.getElem?_append_right (by simp [h4, hd])]
    simp only [List.length_append, List.length_cons, List.length_nil, h4, hd]
    exact hu
theorem low_seal {e i : Nat} {d : List UInt8} (h0 : 0 < e) (h : e < 256) (hd : d.length = 48) : Low e (sealL e i d) := by
  obtain ⟨a, b, c, d, _⟩ := seal_facts (i := i) h0 h hd
  exact ⟨a, b, by omega, by omega⟩
theorem mix_get {S b : List UInt8} {c : Nat} (hS : S.length = 64) (hc : c ≤ 64) (j : Nat) : (S.take c ++ b.drop c)[j]? = if j < c then S[j]? else b[j]? := by
  have hl : (S.take c).length = c := by rw [List.length_take]; omega
  by_cases h : j < c
  · rw [if_pos h, List.getElem?_append_left (by omega), List.getElem?_take, if_pos h]
  · rw [if_neg h, List.getElem?_append_right (by omega), hl, List.getElem?_drop]; congr 1; omega
theorem mix_len {S b : List UInt8} {c : Nat} (hS : S.length = 64) (hb : b.length = 64) (hc : c ≤ 64) : (S.take c ++ b.drop c).length = 64 := by
  rw [List.length_append, List.length_take, List.length_drop]; omega
theorem getD_of {l m : List UInt8} {j k : Nat} (h : l[j]? = m[k]?) : l.getD j 0 = m.getD k 0 := by
  rw [List.getD_eq_getElem?_getD, List.getD_eq_getElem?_getD, h]
/-- What has come of a block when a sealed one was written over it, whole or in part, however often. -/
def Lain (e : Nat) (d b b' : List UInt8) : Prop := b' = b ∨ (b'.length = 64 ∧ b'.take 3 = [0, 0, 0] ∧ b3 b' = e ∧ b59 b' ≤ e ∧ (b59 b' = e → (b'.take 56).drop 8 = d))
theorem lain_seal {e i : Nat} {d b : List UInt8} (h0 : 0 < e) (h : e < 256) (hd : d.length = 48) : Lain e d b (sealL e i d) := by
  obtain ⟨a1, a2, a3, a4, a5⟩ := seal_facts (i := i) h0 h hd
  exact .inr ⟨a1, a2, a3, by omega, fun _ => a5⟩
theorem lain_over {e0 e i : Nat} {d b b' : List UInt8} {c : Nat} (hb : Low e0 b) (he : e0 < e) (h256 : e < 256) (hd : d.length = 48) (h : Lain e d b b') (hc : c ≤ 64) : Lain e d b ((sealL e i d).take c ++ b'.drop c) := by
  obtain ⟨a1, a2, a3, a4, a5⟩ := seal_facts (i := i) (show 0 < e by omega) h256 hd
  generalize hS : sealL e i d = S at a1 a2 a3 a4 a5
  have hb64 : b'.length = 64 := by rcases h with rfl | h; exact hb.len; exact h.1
  have hbz : b'.take 3 = [0, 0, 0] := by rcases h with rfl | h; exact hb.z; exact h.2.1
  have hbq : b59 b' ≤ e := by rcases h with rfl | h; (have := hb.q; omega); exact h.2.2.2.1
  have hbd : b59 b' = e → (b'.take 56).drop 8 = d := by
    rcases h with rfl | h
    · intro x; have := hb.q; omega
    · exact h.2.2.2.2
  by_cases h3 : c ≤ 3
  · have e1 : S.take c = b'.take c := by
      have x1 : S.take c = (S.take 3).take c := by rw [List.take_take]; congr 1; omega
      have x2 : b'.take c = (b'.take 3).take c := by rw [List.take_take]; congr 1; omega
      rw [x1, x2, a2, hbz]
    rw [e1, List.take_append_drop]; exact h
  · right
    refine ⟨mix_len a1 hb64 hc, ?_, ?_, ?_, ?_⟩
    · rw [List.take_append_of_le_length (by rw [List.length_take]; omega), List.take_take, Nat.min_eq_left (by omega), a2]
    · rw [← a3]
      exact congrArg UInt8.toNat (getD_of (by rw [mix_get a1 hc, if_pos (by omega)]))
    · by_cases h59 : 59 < c
      · have : b59 (S.take c ++ b'.drop c) = b59 S := congrArg UInt8.toNat (getD_of (by rw [mix_get a1 hc, if_pos h59]))
        omega
      · have : b59 (S.take c ++ b'.drop c) = b59 b' := congrArg UInt8.toNat (getD_of (by rw [mix_get a1 hc, if_neg h59]))
        omega
    · intro hx
      have hd2 : 59 < c ∨ (b'.take 56).drop 8 = d := by
        by_cases h59 : 59 < c
        · exact .inl h59
        · right
          have : b59 (S.take c ++ b'.drop c) = b59 b' := congrArg UInt8.toNat (getD_of (by rw [mix_get a1 hc, if_neg h59]))
          exact hbd (by omega)
      apply List.ext_getElem?
      intro j
      rw [List.getElem?_drop, List.getElem?_take, mix_get a1 hc]
      by_cases hj : 8 + j < 56
      · rw [if_pos hj]
        have s1 : S[8 + j]? = d[j]? := by rw [← a5, List.getElem?_drop, List.getElem?_take, if_pos hj]
        by_cases hjc : 8 + j < c
        · rw [if_pos hjc, s1]
        · rw [if_neg hjc]
          rcases hd2 with g | g
          · omega
          · rw [← g, List.getElem?_drop, List.getElem?_take, if_pos hj]
      · rw [if_neg hj, List.getElem?_eq_none (by omega)]
theorem low_lain {e0 e : Nat} {d b b' : List UInt8} (hb : Low e0 b) (he : e0 < e) (h : Lain e d b b') : Low e b' := by
  rcases h with rfl | ⟨a, b, c, d, _⟩
  · exact hb.mono (by omega)
  · exact ⟨a, b, by omega, d⟩
theorem open_parts {b : List UInt8} (h : openOk b = true) : b.length = 64 ∧ b.take 8 = b.drop 56 ∧ b3 b = b59 b ∧ openD b = (b.take 56).drop 8 ∧ openE b = num (b.take 4) := by
  have h' := h
  unfold openOk at h'
  have h' : b.length = 64 ∧ b.take 8 = b.drop 56 ∧ num (b.take 4) ≠ 0 := by simpa using h'
  obtain ⟨h1, h2, h3⟩ := h'
  refine ⟨h1, h2, congrArg UInt8.toNat (getD_of ?_), by unfold openD; rw [if_pos h], by unfold openE; rw [if_pos h]⟩
  have := congrArg (fun l => l[3]?) h2
  simpa [List.getElem?_take, List.getElem?_drop] using this
theorem num_low {b : List UInt8} (hl : b.length = 64) (hz : b.take 3 = [0, 0, 0]) : num (b.take 4) = b3 b := by
  have e : b.take 4 = [0, 0, 0, b.getD 3 0] := by
    rw [take_succ_of (a := b.getD 3 0) (by rw [List.getD_eq_getElem?_getD, List.getElem?_eq_getElem (by omega)]; rfl), hz]; rfl
  rw [e]; simp [num, b3]
theorem low_open {e : Nat} {b : List UInt8} (h : Low e b) (ho : openOk b = true) : openE b = b3 b ∧ openE b ≤ e := by
  obtain ⟨_, _, _, _, h5⟩ := open_parts ho
  rw [h5, num_low h.len h.z]; exact ⟨rfl, h.p⟩
theorem lain_open {e0 e : Nat} {d b b' : List UInt8} (hb : Low e0 b) (he : e0 < e) (h : Lain e d b b') (ho : openOk b' = true) : (b' = b ∧ openE b' ≤ e0) ∨ (openE b' = e ∧ openD b' = d) := by
  rcases h with rfl | ⟨a1, a2, a3, a4, a5⟩
  · exact .inl ⟨rfl, (low_open hb ho).2⟩
  · obtain ⟨_, _, h3, h4, h5⟩ := open_parts ho
    right
    refine ⟨by rw [h5, num_low a1 a2, a3], ?_⟩
    rw [h4]; exact a5 (by omega)

end
end Go.Proofs.YtbblkgdejgoncaaGreatDoor

/- The walks of layer 24, on: what a disk loads, and stores. -/
set_option linter.unusedSimpArgs false
set_option linter.unusedVariables false
namespace Go.Proofs.YtbblkgdejgoncaaGreatDoor
open Go Go.RowKit

section
theorem infSuperD_74 : Tryz.prog.info? 74 = some Tryz.t74 := by kernel_rfl
theorem plcSuperD_74 : placesOf Tryz.prog (Tryz.prog.fieldsOf 74) = some [(0, 1), (1, 1), (2, 1), (3, 1), (4, 1)] := by kernel_rfl


theorem pickStep_zero {o : Sp} {b : List UInt8} {i : Nat} (ho : o.seq = 0 → o = zeroSp) (h : (pickStep o b i).seq = 0) : pickStep o b i = zeroSp := by
  unfold pickStep at *
  split
  · rename_i hc; rw [if_pos hc] at h; have := hc.2.2; omega
  · rename_i hc; rw [if_neg hc] at h; exact ho h
theorem pickS_zero {a b : List UInt8} (h : (pickS a b).seq = 0) : pickS a b = zeroSp := pickStep_zero (fun h' => pickStep_zero (fun _ => rfl) h') h
def loadE (k : Dk) : Int := if k.readE 0 ≠ 0 then k.readE 0 else if k.readE 1 ≠ 0 then k.readE 1 else if 0 < (pickS (k.readS 0) (k.readS 1)).seq then 0 else 18
def loadS (k : Dk) : Sp := if k.readE 0 ≠ 0 ∨ k.readE 1 ≠ 0 then zeroSp else pickS (k.readS 0) (k.readS 1)
theorem load_1 {k : Dk} (h : ¬ k.readE 0 = 0) : loadS k = zeroSp ∧ loadE k = k.readE 0 := by
  unfold loadS loadE; rw [if_pos (.inl h), if_pos h]; exact ⟨rfl, rfl⟩
theorem load_2 {k : Dk} (h : k.readE 0 = 0) (h1 : ¬ k.readE 1 = 0) : loadS k = zeroSp ∧ loadE k = k.readE 1 := by
  unfold loadS loadE; rw [if_pos (.inr h1), if_neg (by rw [h]; simp), if_pos h1]; exact ⟨rfl, rfl⟩
theorem load_3 {k : Dk} (h : k.readE 0 = 0) (h1 : k.readE 1 = 0) (h2 : (!decide ((0 : Int) < ((pickS (k.readS 0) (k.readS 1)).seq : Int))) = true) : loadS k = zeroSp ∧ loadE k = 18 := by
  have h3 : ¬ 0 < (pickS (k.readS 0) (k.readS 1)).seq := by simp at h2; omega
  unfold loadS loadE; rw [h, h1]; simp [h3]; exact pickS_zero (by omega)
theorem load_4 {k : Dk} (h : k.readE 0 = 0) (h1 : k.readE 1 = 0) (h2 : (!decide ((0 : Int) < ((pickS (k.readS 0) (k.readS 1)).seq : Int))) = false) : loadS k = pickS (k.readS 0) (k.readS 1) ∧ loadE k = 0 := by
  have h3 : 0 < (pickS (k.readS 0) (k.readS 1)).seq := by simp at h2; omega
  unfold loadS loadE; rw [h, h1]; simp [h3]
def storeK (k : Dk) (s : Sp) : Dk := if MayS s then (if k.writeE ((s.seq : Int) % 2) (encS s) ≠ 0 then k.write ((s.seq : Int) % 2) (encS s) else (k.write ((s.seq : Int) % 2) (encS s)).sync) else k
def storeE (k : Dk) (s : Sp) : Int := if MayS s then (if k.writeE ((s.seq : Int) % 2) (encS s) ≠ 0 then k.writeE ((s.seq : Int) % 2) (encS s) else (k.write ((s.seq : Int) % 2) (encS s)).syncE) else 1
theorem store_no {k : Dk} {s : Sp} (h : ¬ MayS s) : storeK k s = k ∧ storeE k s = 1 := by unfold storeK storeE; rw [if_neg h, if_neg h]; exact ⟨rfl, rfl⟩
theorem store_w {k : Dk} {s : Sp} (h : MayS s) (hw : ¬ k.writeE ((s.seq : Int) % 2) (encS s) = 0) : storeK k s = k.write ((s.seq : Int) % 2) (encS s) ∧ storeE k s = k.writeE ((s.seq : Int) % 2) (encS s) := by
  unfold storeK storeE; rw [if_pos h, if_pos h, if_pos hw, if_pos hw]; exact ⟨rfl, rfl⟩
theorem store_y {k : Dk} {s : Sp} (h : MayS s) (hw : k.writeE ((s.seq : Int) % 2) (encS s) = 0) : storeK k s = (k.write ((s.seq : Int) % 2) (encS s)).sync ∧ storeE k s = (k.write ((s.seq : Int) % 2) (encS s)).syncE := by
  unfold storeK storeE; rw [if_pos h, if_pos h, if_neg (by rw [hw]; simp), if_neg (by rw [hw]; simp)]; exact ⟨rfl, rfl⟩

set_option maxRecDepth 100000 in
set_option maxHeartbeats 1000000 in
theorem sup_load (d n lb lcap : Nat) (lcs : Array Value) (uw : Sl) (k : Dk) (h : DkAt k n lb lcs lcap uw) :
    Ct Tryz.prog 54 [.pointer (some ⟨d, 0, none⟩)] [(some d, .cells #[.slice (some ⟨lb, 0, none⟩) n lcap, uw.v k.W.length, .int .i64 k.fuse, .bool k.dead] 67 (0, 0)), (some lb, .cells lcs 9 (0, 0)), (uw.ob, .cells uw.cs 90 uw.fz)] [] fun v post => v = .tuple #[.agg (spCells (loadS k)).toArray, .int .i64 (loadE k)] ∧ post = [] := by
 have hr0 := readS_len h.ok 0
 have hr1 := readS_len h.ok 1
 refine ct_of Tryz.func54 rfl rfl (fun w0 => ?_)
 show G _ _ [(0, _)] _ _
 refine G_seq ?_
 refine G_region (l := [0, 1]) rfl ?_
 refine G_new rfl rfl rfl rfl (N_allocA rfl infSuperD_74 rfl) (fun b2 => ?_)
 refine G_val rfl rfl rfl rfl (V_assign rfl rfl) ?_
 refine G_done ?_
 refine G_seq ?_
 refine G_region (l := [0, 1, 2, 3, 4, 5, 6]) rfl ?_
 refine G_val rfl rfl rfl rfl (V_move rfl rfl) ?_
 refine G_call (L2 := [_]) rfl rfl rfl rfl rfl rfl Tryz.call73 (dk_read d n lb lcap lcs uw k h 0) [] [0, 1, 2] rfl rfl ?_
 rintro v post ⟨rfl, rfl⟩
 show G _ _ _ [_] _
 refine G_val rfl rfl rfl rfl (V_move rfl rfl) ?_
 refine G_val rfl rfl rfl rfl (V_extract rfl rfl rfl) ?_
 refine G_val rfl rfl rfl rfl (V_extract rfl rfl rfl) ?_
 refine G_val rfl rfl rfl rfl (V_assign rfl rfl) ?_
 refine G_val rfl rfl rfl rfl (V_assign rfl rfl) ?_
 refine G_done ?_
 refine G_seq ?_
 refine G_seq ?_
 refine G_region (l := [0, 1]) rfl ?_
 refine G_val rfl rfl rfl rfl (V_move rfl rfl) ?_
 refine G_val rfl rfl rfl rfl (V_neq rfl rfl rfl) ?_
 refine G_done ?_
 refine G_ifD rfl (fun hc1 => ?_) (fun hc1 => ?_)
 ·
  refine G_seq ?_
  refine G_region (l := [0, 1, 2, 3]) rfl ?_
  refine G_val rfl rfl rfl rfl (V_buildS (cs := [_, _, _, _, _]) rfl Tryz.underlying74 infSuperD_74 rfl plcSuperD_74 rfl rfl rfl) ?_
  refine G_val rfl rfl rfl rfl (V_move rfl rfl) ?_
  refine G_put (l1 := []) (L' := [_]) rfl rfl rfl rfl (P_storeA (s := 5) rfl rfl rfl (mem_at 0 rfl) (by rfl) infSuperD_74 rfl (by rfl) (by simp [Value.oneCell', spCells, pCells, wCells, kCells])) rfl ?_
  refine G_val rfl rfl rfl rfl (V_assign rfl rfl) ?_
  refine G_done ?_
  refine G_ret (post := []) Tryz.func54 rfl (RVs_cons (RV_cell (s := 5) rfl (mem_at 3 rfl) Tryz.underlying74 rfl infSuperD_74 rfl (by rfl)) (RVs_cons (RV_tmp rfl) RVs_nil)) [] rfl ?_
  dsimp only [packed]
  first
    | (obtain ⟨e1, e2⟩ := load_1 (k := k) (by assumption); rw [e1, e2]; exact ⟨rfl, rfl⟩)
    | (obtain ⟨e1, e2⟩ := load_2 (k := k) (by omega) (by assumption); rw [e1, e2]; exact ⟨rfl, rfl⟩)
    | (obtain ⟨e1, e2⟩ := load_3 (k := k) (by omega) (by omega) (by assumption); rw [e1, e2]; exact ⟨rfl, rfl⟩)
    | (obtain ⟨e1, e2⟩ := load_4 (k := k) (by omega) (by omega) (by assumption); rw [e1, e2]; exact ⟨rfl, rfl⟩)
 refine G_skip ?_
 refine G_seq ?_
 refine G_region (l := [0, 1, 2, 3, 4, 5, 6]) rfl ?_
 refine G_val rfl rfl rfl rfl (V_move rfl rfl) ?_
 refine G_call (L2 := [_]) rfl rfl rfl rfl rfl rfl Tryz.call73 (dk_read d n lb lcap lcs uw k h 1) [] [0, 1, 2] rfl rfl ?_
 rintro v post ⟨rfl, rfl⟩
 show G _ _ _ [_] _
 refine G_val rfl rfl rfl rfl (V_move rfl rfl) ?_
 refine G_val rfl rfl rfl rfl (V_extract rfl rfl rfl) ?_
 refine G_val rfl rfl rfl rfl (V_extract rfl rfl rfl) ?_
 refine G_val rfl rfl rfl rfl (V_assign rfl rfl) ?_
 refine G_val rfl rfl rfl rfl (V_assign rfl rfl) ?_
 refine G_done ?_
 refine G_seq ?_
 refine G_seq ?_
 refine G_region (l := [0, 1]) rfl ?_
 refine G_val rfl rfl rfl rfl (V_move rfl rfl) ?_
 refine G_val rfl rfl rfl rfl (V_neq rfl rfl rfl) ?_
 refine G_done ?_
 refine G_ifD rfl (fun hc2 => ?_) (fun hc2 => ?_)
 ·
  refine G_seq ?_
  refine G_region (l := [0, 1, 2, 3]) rfl ?_
  refine G_val rfl rfl rfl rfl (V_buildS (cs := [_, _, _, _, _]) rfl Tryz.underlying74 infSuperD_74 rfl plcSuperD_74 rfl rfl rfl) ?_
  refine G_val rfl rfl rfl rfl (V_move rfl rfl) ?_
  refine G_put (l1 := []) (L' := [_]) rfl rfl rfl rfl (P_storeA (s := 5) rfl rfl rfl (mem_at 0 rfl) (by rfl) infSuperD_74 rfl (by rfl) (by simp [Value.oneCell', spCells, pCells, wCells, kCells])) rfl ?_
  refine G_val rfl rfl rfl rfl (V_assign rfl rfl) ?_
  refine G_done ?_
  refine G_ret (post := []) Tryz.func54 rfl (RVs_cons (RV_cell (s := 5) rfl (mem_at 3 rfl) Tryz.underlying74 rfl infSuperD_74 rfl (by rfl)) (RVs_cons (RV_tmp rfl) RVs_nil)) [] rfl ?_
  dsimp only [packed]
  first
    | (obtain ⟨e1, e2⟩ := load_1 (k := k) (by assumption); rw [e1, e2]; exact ⟨rfl, rfl⟩)
    | (obtain ⟨e1, e2⟩ := load_2 (k := k) (by omega) (by assumption); rw [e1, e2]; exact ⟨rfl, rfl⟩)
    | (obtain ⟨e1, e2⟩ := load_3 (k := k) (by omega) (by omega) (by assumption); rw [e1, e2]; exact ⟨rfl, rfl⟩)
    | (obtain ⟨e1, e2⟩ := load_4 (k := k) (by omega) (by omega) (by assumption); rw [e1, e2]; exact ⟨rfl, rfl⟩)
 refine G_skip ?_
 refine G_seq ?_
 refine G_region (l := [0, 1, 2, 3, 4, 5, 6, 7, 8]) rfl ?_
 refine G_val rfl rfl rfl rfl (V_move rfl rfl) ?_
 refine G_val rfl rfl rfl rfl (V_move rfl rfl) ?_
 refine G_call (L2 := [_]) rfl rfl rfl rfl rfl rfl Tryz.call74 (sup_pick (k.readS 0) (k.readS 1) (by omega) (by omega)) [] [] rfl rfl ?_
 rintro v post ⟨rfl, rfl⟩
 show G _ _ _ [_] _
 refine G_val rfl rfl rfl rfl (V_move rfl rfl) ?_
 refine G_val rfl rfl rfl rfl (V_extract rfl rfl rfl) ?_
 refine G_val rfl rfl rfl rfl (V_extract rfl rfl rfl) ?_
 refine G_new rfl rfl rfl rfl (N_allocA rfl infSuperD_74 rfl) (fun b7 => ?_)
 refine G_put (l1 := []) (L' := [_, _]) rfl rfl rfl rfl (P_storeA (s := 5) rfl rfl rfl (mem_at 0 rfl) (by rfl) infSuperD_74 rfl (by rfl) (by simp [Value.oneCell', spCells, pCells, wCells, kCells])) rfl ?_
 refine G_val rfl rfl rfl rfl (V_assign rfl rfl) ?_
 refine G_done ?_
 refine G_seq ?_
 refine G_seq ?_
 refine G_region (l := [0, 1]) rfl ?_
 refine G_val rfl rfl rfl rfl (V_move rfl rfl) ?_
 refine G_val rfl rfl rfl rfl (V_not rfl rfl) ?_
 refine G_done ?_
 refine G_if rfl (fun hc3 => ?_) (fun hc3 => ?_)
 ·
  refine G_seq ?_
  refine G_region (l := [0, 1, 2]) rfl ?_
  refine G_val rfl rfl rfl rfl (V_buildS (cs := [_, _, _, _, _]) rfl Tryz.underlying74 infSuperD_74 rfl plcSuperD_74 rfl rfl rfl) ?_
  refine G_put (l1 := [_]) (L' := [_, _]) rfl rfl rfl rfl (P_storeA (s := 5) rfl rfl rfl (mem_at 1 rfl) (by rfl) infSuperD_74 rfl (by rfl) (by simp [Value.oneCell', spCells, pCells, wCells, kCells])) rfl ?_
  refine G_val rfl rfl rfl rfl (V_assign rfl rfl) ?_
  refine G_done ?_
  refine G_ret (post := []) Tryz.func54 rfl (RVs_cons (RV_cell (s := 5) rfl (mem_at 4 rfl) Tryz.underlying74 rfl infSuperD_74 rfl (by rfl)) (RVs_cons (RV_tmp rfl) RVs_nil)) [] rfl ?_
  dsimp only [packed]
  first
    | (obtain ⟨e1, e2⟩ := load_1 (k := k) (by assumption); rw [e1, e2]; exact ⟨rfl, rfl⟩)
    | (obtain ⟨e1, e2⟩ := load_2 (k := k) (by omega) (by assumption); rw [e1, e2]; exact ⟨rfl, rfl⟩)
    | (obtain ⟨e1, e2⟩ := load_3 (k := k) (by omega) (by omega) (by assumption); rw [e1, e2]; exact ⟨rfl, rfl⟩)
    | (obtain ⟨e1, e2⟩ := load_4 (k := k) (by omega) (by omega) (by assumption); rw [e1, e2]; exact ⟨rfl, rfl⟩)
 refine G_skip ?_
 refine G_seq ?_
 refine G_region (l := [0, 1, 2]) rfl ?_
 refine G_val rfl rfl rfl rfl (V_loadW (s := 5) rfl rfl (mem_at 3 rfl) Tryz.underlying74 rfl infSuperD_74 rfl (by rfl)) ?_
 refine G_put (l1 := [_]) (L' := [_, _]) rfl rfl rfl rfl (P_storeA (s := 5) rfl rfl rfl (mem_at 1 rfl) (by rfl) infSuperD_74 rfl (by rfl) (by simp [Value.oneCell', spCells, pCells, wCells, kCells])) rfl ?_
 refine G_val rfl rfl rfl rfl (V_assign rfl rfl) ?_
 refine G_done ?_
 refine G_ret (post := []) Tryz.func54 rfl (RVs_cons (RV_cell (s := 5) rfl (mem_at 4 rfl) Tryz.underlying74 rfl infSuperD_74 rfl (by rfl)) (RVs_cons (RV_tmp rfl) RVs_nil)) [] rfl ?_
 dsimp only [packed]
 first
   | (obtain ⟨e1, e2⟩ := load_1 (k := k) (by assumption); rw [e1, e2]; exact ⟨rfl, rfl⟩)
   | (obtain ⟨e1, e2⟩ := load_2 (k := k) (by omega) (by assumption); rw [e1, e2]; exact ⟨rfl, rfl⟩)
   | (obtain ⟨e1, e2⟩ := load_3 (k := k) (by omega) (by omega) (by assumption); rw [e1, e2]; exact ⟨rfl, rfl⟩)
   | (obtain ⟨e1, e2⟩ := load_4 (k := k) (by omega) (by omega) (by assumption); rw [e1, e2]; exact ⟨rfl, rfl⟩)

set_option maxRecDepth 100000 in
set_option maxHeartbeats 1000000 in
theorem sup_load_nil  :
    Ct Tryz.prog 54 [.pointer none] [] [] fun v post => v = .tuple #[.agg (spCells zeroSp).toArray, .int .i64 19] ∧ post = [] := by
 refine ct_of Tryz.func54 rfl rfl (fun w0 => ?_)
 show G _ _ [(0, _)] _ _
 refine G_seq ?_
 refine G_region (l := [0, 1]) rfl ?_
 refine G_new rfl rfl rfl rfl (N_allocA rfl infSuperD_74 rfl) (fun b2 => ?_)
 refine G_val rfl rfl rfl rfl (V_assign rfl rfl) ?_
 refine G_done ?_
 refine G_seq ?_
 refine G_region (l := [0, 1, 2, 3, 4, 5, 6]) rfl ?_
 refine G_val rfl rfl rfl rfl (V_move rfl rfl) ?_
 refine G_call (L2 := [_]) rfl rfl rfl rfl rfl rfl Tryz.call73 (dk_read_nil 0) [] [] rfl rfl ?_
 rintro v post ⟨rfl, rfl⟩
 show G _ _ _ [_] _
 refine G_val rfl rfl rfl rfl (V_move rfl rfl) ?_
 refine G_val rfl rfl rfl rfl (V_extract rfl rfl rfl) ?_
 refine G_val rfl rfl rfl rfl (V_extract rfl rfl rfl) ?_
 refine G_val rfl rfl rfl rfl (V_assign rfl rfl) ?_
 refine G_val rfl rfl rfl rfl (V_assign rfl rfl) ?_
 refine G_done ?_
 refine G_seq ?_
 refine G_seq ?_
 refine G_region (l := [0, 1]) rfl ?_
 refine G_val rfl rfl rfl rfl (V_move rfl rfl) ?_
 refine G_val rfl rfl rfl rfl (V_neq rfl rfl rfl) ?_
 refine G_done ?_
 refine G_ifD rfl (fun hc1 => ?_) (fun hc1 => ?_)
 rotate_left
 · (first | (exact absurd rfl hc1) | (exact absurd hc1 (by decide)) | (exfalso; omega))
 refine G_seq ?_
 refine G_region (l := [0, 1, 2, 3]) rfl ?_
 refine G_val rfl rfl rfl rfl (V_buildS (cs := [_, _, _, _, _]) rfl Tryz.underlying74 infSuperD_74 rfl plcSuperD_74 rfl rfl rfl) ?_
 refine G_val rfl rfl rfl rfl (V_move rfl rfl) ?_
 refine G_put (l1 := []) (L' := [_]) rfl rfl rfl rfl (P_storeA (s := 5) rfl rfl rfl (mem_at 0 rfl) (by rfl) infSuperD_74 rfl (by rfl) (by simp [Value.oneCell', spCells, pCells, wCells, kCells])) rfl ?_
 refine G_val rfl rfl rfl rfl (V_assign rfl rfl) ?_
 refine G_done ?_
 refine G_ret (post := []) Tryz.func54 rfl (RVs_cons (RV_cell (s := 5) rfl (mem_at 0 rfl) Tryz.underlying74 rfl infSuperD_74 rfl (by rfl)) (RVs_cons (RV_tmp rfl) RVs_nil)) [] rfl ?_
 dsimp only [packed]
 exact ⟨rfl, rfl⟩

set_option maxRecDepth 100000 in
set_option maxHeartbeats 1000000 in
theorem sup_store (d n lb lcap : Nat) (lcs : Array Value) (uw : Sl) (k : Dk) (h : DkAt k n lb lcs lcap uw) (s : Sp) (hs : SpOk s) (hW : k.W.length ≤ 1000000) :
    Ct Tryz.prog 35 [.pointer (some ⟨d, 0, none⟩), .agg (spCells s).toArray] [] [(some d, .cells #[.slice (some ⟨lb, 0, none⟩) n lcap, uw.v k.W.length, .int .i64 k.fuse, .bool k.dead] 67 (0, 0)), (some lb, .cells lcs 9 (0, 0)), (uw.ob, .cells uw.cs 90 uw.fz)] fun v post => v = .int .i64 (storeE k s) ∧ ∃ lcs1 uw1, DkAt (storeK k s) n lb lcs1 lcap uw1 ∧ post = [(some d, .cells #[.slice (some ⟨lb, 0, none⟩) n lcap, uw1.v (storeK k s).W.length, .int .i64 (storeK k s).fuse, .bool (storeK k s).dead] 67 (0, 0)), (some lb, .cells lcs1 9 (0, 0)), (uw1.ob, .cells uw1.cs 90 uw1.fz)] := by
 refine ct_of Tryz.func35 rfl rfl (fun w0 => ?_)
 show G _ _ [(0, _), (1, _)] _ _
 refine G_seq ?_
 refine G_region (l := [0, 1]) rfl ?_
 refine G_new rfl rfl rfl rfl (N_boxA rfl rfl) (fun b3 => ?_)
 refine G_val rfl rfl rfl rfl (V_assign rfl rfl) ?_
 refine G_done ?_
 refine G_seq ?_
 refine G_seq ?_
 refine G_region (l := [0, 1]) rfl ?_
 refine G_val rfl rfl rfl rfl (V_move rfl rfl) ?_
 refine G_val rfl rfl rfl rfl (V_peqlN rfl Tryz.underlying26 rfl rfl) ?_
 refine G_done ?_
 refine G_else rfl ?_
 refine G_skip ?_
 refine G_seq ?_
 by_cases hm : MayS s
 ·
  refine G_region (l := [0, 1, 2, 3, 4, 5, 6]) rfl ?_
  refine G_val rfl rfl rfl rfl (V_loadW (s := 5) rfl rfl (mem_at 0 rfl) Tryz.underlying74 rfl infSuperD_74 rfl (by rfl)) ?_
  refine G_call (L2 := [_, _, _, _]) rfl rfl rfl rfl rfl rfl Tryz.call57 ((sup_encode s hs).weaken (fun v post h => by rw [(encT_yes (decide_eq_true hm)).1, (encT_yes (decide_eq_true hm)).2] at h; exact h)) [] [] rfl rfl ?_
  rintro v post ⟨rfl, rfl⟩
  show G _ _ _ [_, _, _, _] _
  refine G_val rfl rfl rfl rfl (V_move rfl rfl) ?_
  refine G_val rfl rfl rfl rfl (V_extract rfl rfl rfl) ?_
  refine G_val rfl rfl rfl rfl (V_extract rfl rfl rfl) ?_
  refine G_val rfl rfl rfl rfl (V_assign rfl rfl) ?_
  refine G_val rfl rfl rfl rfl (V_assign rfl rfl) ?_
  refine G_done ?_
  refine G_seq ?_
  refine G_seq ?_
  refine G_region (l := [0, 1]) rfl ?_
  refine G_val rfl rfl rfl rfl (V_move rfl rfl) ?_
  refine G_val rfl rfl rfl rfl (V_neq rfl rfl rfl) ?_
  refine G_done ?_
  refine G_ifD rfl (fun hc1 => ?_) (fun hc1 => ?_)
  · (first | (exact absurd rfl hc1) | (exact absurd hc1 (by decide)) | (exfalso; omega))
  refine G_skip ?_
  refine G_seq ?_
  refine G_seq ?_
  refine G_region (l := [0, 1, 2, 3, 4, 5]) rfl ?_
  refine G_val rfl rfl rfl rfl (V_move rfl rfl) ?_
  refine G_val rfl rfl rfl rfl (V_loadW (s := 5) rfl rfl (mem_at 0 rfl) Tryz.underlying74 rfl infSuperD_74 rfl (by rfl)) ?_
  refine G_call (L2 := [_, _, _, _]) rfl rfl rfl rfl rfl rfl Tryz.call59 (sup_place s hs) [] [] rfl rfl ?_
  rintro v post ⟨rfl, rfl⟩
  show G _ _ _ [_, _, _, _] _
  refine G_val rfl rfl rfl rfl (V_move rfl rfl) ?_
  refine G_call (L2 := [_]) rfl rfl rfl rfl rfl rfl Tryz.call58 (dk_write d n lb lcap lcs uw k h ((s.seq : Int) % 2) (encS s) hW) [1, 1, 1] [] rfl rfl ?_
  rintro v post ⟨rfl, lcs1, uw1, h1, rfl⟩
  show G _ _ _ [_, _, _, _] _
  refine G_val rfl rfl rfl rfl (V_assign rfl rfl) ?_
  refine G_done ?_
  refine G_seq ?_
  refine G_region (l := [0, 1]) rfl ?_
  refine G_val rfl rfl rfl rfl (V_move rfl rfl) ?_
  refine G_val rfl rfl rfl rfl (V_neq rfl rfl rfl) ?_
  refine G_done ?_
  refine G_ifD rfl (fun hc2 => ?_) (fun hc2 => ?_)
  ·
   refine G_seq ?_
   refine G_region (l := [0, 1]) rfl ?_
   refine G_val rfl rfl rfl rfl (V_move rfl rfl) ?_
   refine G_val rfl rfl rfl rfl (V_assign rfl rfl) ?_
   refine G_done ?_
   refine G_ret (post := [_, _, _]) Tryz.func35 rfl (RVs_cons (RV_tmp rfl) RVs_nil) [0, 0, 0] rfl ?_
   dsimp only [packed]
   first
     | (obtain ⟨e1, e2⟩ := store_no (k := k) hm; rw [e1, e2]; exact ⟨rfl, lcs, uw, h, rfl⟩)
     | (obtain ⟨e1, e2⟩ := store_w (k := k) hm (by assumption); rw [e1, e2]; exact ⟨rfl, lcs1, uw1, h1, rfl⟩)
     | (obtain ⟨e1, e2⟩ := store_y (k := k) hm (by omega); rw [e1, e2]; exact ⟨rfl, lcs1, uw1, h1, rfl⟩)
  refine G_skip ?_
  refine G_seq ?_
  refine G_region (l := [0, 1, 2]) rfl ?_
  refine G_val rfl rfl rfl rfl (V_move rfl rfl) ?_
  refine G_call (L2 := [_]) rfl rfl rfl rfl rfl rfl Tryz.call42 (dk_sync d n lb lcap lcs1 uw1 (k.write ((s.seq : Int) % 2) (encS s)) h1) [0, 0, 0] [] rfl rfl ?_
  rintro v post ⟨rfl, lcs1, uw1, h1, rfl⟩
  show G _ _ _ [_, _, _, _] _
  refine G_val rfl rfl rfl rfl (V_assign rfl rfl) ?_
  refine G_done ?_
  refine G_ret (post := [_, _, _]) Tryz.func35 rfl (RVs_cons (RV_tmp rfl) RVs_nil) [0, 0, 0] rfl ?_
  dsimp only [packed]
  first
    | (obtain ⟨e1, e2⟩ := store_no (k := k) hm; rw [e1, e2]; exact ⟨rfl, lcs, uw, h, rfl⟩)
    | (obtain ⟨e1, e2⟩ := store_w (k := k) hm (by assumption); rw [e1, e2]; exact ⟨rfl, lcs1, uw1, h1, rfl⟩)
    | (obtain ⟨e1, e2⟩ := store_y (k := k) hm (by omega); rw [e1, e2]; exact ⟨rfl, lcs1, uw1, h1, rfl⟩)
 ·
  refine G_region (l := [0, 1, 2, 3, 4, 5, 6]) rfl ?_
  refine G_val rfl rfl rfl rfl (V_loadW (s := 5) rfl rfl (mem_at 0 rfl) Tryz.underlying74 rfl infSuperD_74 rfl (by rfl)) ?_
  refine G_call (L2 := [_, _, _, _]) rfl rfl rfl rfl rfl rfl Tryz.call57 ((sup_encode s hs).weaken (fun v post h => by rw [(encT_no (decide_eq_false hm)).1, (encT_no (decide_eq_false hm)).2] at h; exact h)) [] [] rfl rfl ?_
  rintro v post ⟨rfl, rfl⟩
  show G _ _ _ [_, _, _, _] _
  refine G_val rfl rfl rfl rfl (V_move rfl rfl) ?_
  refine G_val rfl rfl rfl rfl (V_extract rfl rfl rfl) ?_
  refine G_val rfl rfl rfl rfl (V_extract rfl rfl rfl) ?_
  refine G_val rfl rfl rfl rfl (V_assign rfl rfl) ?_
  refine G_val rfl rfl rfl rfl (V_assign rfl rfl) ?_
  refine G_done ?_
  refine G_seq ?_
  refine G_seq ?_
  refine G_region (l := [0, 1]) rfl ?_
  refine G_val rfl rfl rfl rfl (V_move rfl rfl) ?_
  refine G_val rfl rfl rfl rfl (V_neq rfl rfl rfl) ?_
  refine G_done ?_
  refine G_ifD rfl (fun hc1 => ?_) (fun hc1 => ?_)
  rotate_left
  · (first | (exact absurd rfl hc1) | (exact absurd hc1 (by decide)) | (exfalso; omega))
  refine G_seq ?_
  refine G_region (l := [0, 1]) rfl ?_
  refine G_val rfl rfl rfl rfl (V_move rfl rfl) ?_
  refine G_val rfl rfl rfl rfl (V_assign rfl rfl) ?_
  refine G_done ?_
  refine G_ret (post := [_, _, _]) Tryz.func35 rfl (RVs_cons (RV_tmp rfl) RVs_nil) [1, 1, 1] rfl ?_
  dsimp only [packed]
  first
    | (obtain ⟨e1, e2⟩ := store_no (k := k) hm; rw [e1, e2]; exact ⟨rfl, lcs, uw, h, rfl⟩)
    | (obtain ⟨e1, e2⟩ := store_w (k := k) hm (by assumption); rw [e1, e2]; exact ⟨rfl, lcs1, uw1, h1, rfl⟩)
    | (obtain ⟨e1, e2⟩ := store_y (k := k) hm (by omega); rw [e1, e2]; exact ⟨rfl, lcs1, uw1, h1, rfl⟩)

set_option maxRecDepth 100000 in
set_option maxHeartbeats 1000000 in
theorem sup_store_nil (s : Sp) :
    Ct Tryz.prog 35 [.pointer none, .agg (spCells s).toArray] [] [] fun v post => v = .int .i64 19 ∧ post = [] := by
 refine ct_of Tryz.func35 rfl rfl (fun w0 => ?_)
 show G _ _ [(0, _), (1, _)] _ _
 refine G_seq ?_
 refine G_region (l := [0, 1]) rfl ?_
 refine G_new rfl rfl rfl rfl (N_boxA rfl rfl) (fun b3 => ?_)
 refine G_val rfl rfl rfl rfl (V_assign rfl rfl) ?_
 refine G_done ?_
 refine G_seq ?_
 refine G_seq ?_
 refine G_region (l := [0, 1]) rfl ?_
 refine G_val rfl rfl rfl rfl (V_move rfl rfl) ?_
 refine G_val rfl rfl rfl rfl (V_peqlN rfl Tryz.underlying26 rfl rfl) ?_
 refine G_done ?_
 refine G_then rfl ?_
 refine G_seq ?_
 refine G_region (l := [0]) rfl ?_
 refine G_val rfl rfl rfl rfl (V_assign rfl rfl) ?_
 refine G_done ?_
 refine G_ret (post := []) Tryz.func35 rfl (RVs_cons (RV_tmp rfl) RVs_nil) [] rfl ?_
 dsimp only [packed]
 exact ⟨rfl, rfl⟩

end
end Go.Proofs.YtbblkgdejgoncaaGreatDoor

/- Long texts on some blocks of a disk (layer 27), in plain lists. -/
set_option linter.unusedSimpArgs false
set_option linter.unusedVariables false
namespace Go.Proofs.YtbblkgdejgoncaaGreatDoor
open Go Go.RowKit

section



def manyS (n : Nat) : Nat := (n + 47) / 48
theorem manyS_room (n : Nat) : n ≤ 48 * manyS n ∧ 48 * manyS n < n + 48 := by unfold manyS; omega
def padS (s : List UInt8) : List UInt8 := s ++ List.replicate (48 * manyS s.length - s.length) 0
theorem padS_len (s : List UInt8) : (padS s).length = 48 * manyS s.length := by
  have := manyS_room s.length
  rw [padS, List.length_append, List.length_replicate]; omega
def pieceS (s : List UInt8) (i : Nat) : List UInt8 := ((padS s).drop (48 * i)).take 48
theorem pieceS_len (s : List UInt8) {i : Nat} (h : i < manyS s.length) : (pieceS s i).length = 48 := by
  have := padS_len s
  unfold pieceS
  rw [List.length_take, List.length_drop]; omega
def blkS (e : Nat) (s : List UInt8) (i : Nat) : List UInt8 := sealL e i (pieceS s i)
def blksS (e : Nat) (s : List UInt8) : List (List UInt8) := (List.range (manyS s.length)).map (blkS e s)
theorem blksS_len (e : Nat) (s : List UInt8) : (blksS e s).length = manyS s.length := by simp [blksS]
theorem blksS_at (e : Nat) (s : List UInt8) {i : Nat} (h : i < manyS s.length) : (blksS e s)[i]? = some (blkS e s i) := by simp [blksS, h]
theorem blkS_E {e : Nat} (s : List UInt8) {i : Nat} (he : 0 < e) (h : i < manyS s.length) : sealE e (pieceS s i) = 0 := (sealE_cases _ _).2 (by rw [pieceS_len s h]; omega)
theorem blkS_len {e : Nat} (s : List UInt8) {i : Nat} (he : 0 < e) (h : i < manyS s.length) : (blkS e s i).length = 64 := sealL_length (blkS_E s he h)
theorem blksS_64 {e : Nat} (s : List UInt8) (he : 0 < e) : ∀ b ∈ blksS e s, b.length = 64 := by
  intro b hb
  simp only [blksS, List.mem_map, List.mem_range] at hb
  obtain ⟨i, hi, rfl⟩ := hb
  exact blkS_len s he hi
/-- What is wrong with a region, or an epoch. -/
def regE (N : Nat) (f b : Int) (e : Nat) : Int := if f < 0 ∨ b < 1 ∨ (N : Int) < b ∨ (N : Int) - b < f ∨ e = 0 then 1 else 0
theorem regE_ok {N : Nat} {f b : Int} {e : Nat} : regE N f b e = 0 ↔ 0 ≤ f ∧ 1 ≤ b ∧ f + b ≤ (N : Int) ∧ 0 < e := by
  unfold regE
  constructor
  · intro h; split at h
    · cases h
    · omega
  · intro h; rw [if_neg (by omega)]
theorem regE_one {N : Nat} {f b : Int} {e : Nat} (h : ¬ regE N f b e = 0) : regE N f b e = 1 := by
  unfold regE at *; split at h
  · rename_i g; rw [if_pos g]
  · exact absurd rfl h
def putK (k : Dk) (f b : Int) (e : Nat) (s : List UInt8) : Dk := if regE k.L.length f b e ≠ 0 then k else if b < (manyS s.length : Int) then k else wrsK k f (blksS e s)
def putE (k : Dk) (f b : Int) (e : Nat) (s : List UInt8) : Int := if regE k.L.length f b e ≠ 0 then 1 else if b < (manyS s.length : Int) then 17 else wrsE k f (blksS e s)
theorem put_no {k : Dk} {f b : Int} {e : Nat} {s : List UInt8} (h : ¬ regE k.L.length f b e = 0) : putK k f b e s = k ∧ putE k f b e s = 1 := by unfold putK putE; rw [if_pos h, if_pos h]; exact ⟨rfl, rfl⟩
theorem put_full {k : Dk} {f b : Int} {e : Nat} {s : List UInt8} (h : regE k.L.length f b e = 0) (h1 : b < (manyS s.length : Int)) : putK k f b e s = k ∧ putE k f b e s = 17 := by
  unfold putK putE; simp [h, h1]
theorem put_yes {k : Dk} {f b : Int} {e : Nat} {s : List UInt8} (h : regE k.L.length f b e = 0) (h1 : (manyS s.length : Int) ≤ b) : putK k f b e s = wrsK k f (blksS e s) ∧ putE k f b e s = wrsE k f (blksS e s) := by
  unfold putK putE; simp [h, show ¬ b < (manyS s.length : Int) by omega]
theorem put_ok {k : Dk} (h : DkOk k) (f b : Int) (e : Nat) (s : List UInt8) : DkOk (putK k f b e s) := by
  unfold putK; split
  · exact h
  · split
    · exact h
    · exact wrs_ok _ _ _ h
theorem put_len (k : Dk) (f b : Int) (e : Nat) (s : List UInt8) : (putK k f b e s).L.length = k.L.length := by
  unfold putK; split
  · rfl
  · split
    · rfl
    · exact wrs_len _ _ _
-- what is got
def okB (b : List UInt8) (e i : Nat) : Bool := openOk b && decide (openE b = e) && decide (openI b = i)
theorem okB_iff {b : List UInt8} {e i : Nat} : okB b e i = true ↔ openOk b = true ∧ openE b = e ∧ openI b = i := by
  unfold okB; simp [and_assoc]
def catD (bl : List (List UInt8)) : List UInt8 := (bl.map openD).flatten
theorem catD_next {bl : List (List UInt8)} {i : Nat} {b : List UInt8} (h : bl[i]? = some b) : catD (bl.take (i + 1)) = catD (bl.take i) ++ openD b := by
  rw [take_succ_of h]; unfold catD; simp
theorem catD_len {bl : List (List UInt8)} : ∀ {i : Nat}, i ≤ bl.length → (∀ j b, j < i → bl[j]? = some b → openOk b = true) → (catD (bl.take i)).length = 48 * i
  | 0, _, _ => by simp [catD]
  | i + 1, hi, h => by
    obtain ⟨b, hb⟩ := getI (show i < bl.length by omega)
    rw [catD_next hb, List.length_append, catD_len (by omega) (fun j b hj => h j b (by omega))]
    have ho := h i b (by omega) hb
    have : (openD b).length = 48 := by
      obtain ⟨h1, _, _, h4, _⟩ := open_parts ho
      rw [h4]; simp; omega
    omega
/-- All of the first blocks are sealed by an epoch and their places. -/
def okTo (bl : List (List UInt8)) (e m : Nat) : Prop := ∀ j, j < m → okB (bl.getD j []) e j = true
instance (bl : List (List UInt8)) (e m : Nat) : Decidable (okTo bl e m) := by unfold okTo; infer_instance
theorem okTo_next {bl : List (List UInt8)} {e i : Nat} (h : okTo bl e i) (hb : okB (bl.getD i []) e i = true) : okTo bl e (i + 1) := fun j hj => by
  rcases Nat.lt_or_ge j i with h1 | h1
  · exact h j h1
  · obtain rfl : j = i := by omega
    exact hb
theorem okTo_len {bl : List (List UInt8)} {e i : Nat} (h : okTo bl e i) (hi : i ≤ bl.length) : (catD (bl.take i)).length = 48 * i :=
  catD_len hi fun j b hj hb => by
    have := h j hj
    rw [List.getD_eq_getElem?_getD, hb] at this
    exact (okB_iff.1 this).1
def getOk (bl : List (List UInt8)) (e : Nat) (z : Int) : Prop := 0 ≤ z ∧ manyS z.toNat ≤ bl.length ∧ okTo bl e (manyS z.toNat) ∧ ∀ x ∈ (catD (bl.take (manyS z.toNat))).drop z.toNat, x = 0
instance (bl : List (List UInt8)) (e : Nat) (z : Int) : Decidable (getOk bl e z) := by unfold getOk; infer_instance
def getT (bl : List (List UInt8)) (e : Nat) (z : Int) : List UInt8 := if getOk bl e z then (catD (bl.take (manyS z.toNat))).take z.toNat else []
def getE (bl : List (List UInt8)) (e : Nat) (z : Int) : Int := if getOk bl e z then 0 else 18
theorem get_yes {bl : List (List UInt8)} {e : Nat} {z : Int} (h : getOk bl e z) : getT bl e z = (catD (bl.take (manyS z.toNat))).take z.toNat ∧ getE bl e z = 0 := by unfold getT getE; rw [if_pos h, if_pos h]; exact ⟨rfl, rfl⟩
theorem get_no {bl : List (List UInt8)} {e : Nat} {z : Int} (h : ¬ getOk bl e z) : getT bl e z = [] ∧ getE bl e z = 18 := by unfold getT getE; rw [if_neg h, if_neg h]; exact ⟨rfl, rfl⟩
theorem padS_chunk (s : List UInt8) : ∀ m, m ≤ manyS s.length → ((List.range m).map (pieceS s)).flatten = (padS s).take (48 * m)
  | 0, _ => rfl
  | m + 1, h => by
    rw [List.range_succ, List.map_append, List.flatten_append, padS_chunk s m (by omega)]
    simp only [List.map_cons, List.map_nil, List.flatten_cons, List.flatten_nil, List.append_nil]
    unfold pieceS
    rw [show 48 * (m + 1) = 48 * m + 48 by omega, List.take_add]
theorem blk_open {e i : Nat} {s : List UInt8} (he : 0 < e) (he2 : e < 4294967296) (hi : i < manyS s.length) (hi2 : i < 4294967296) : openOk (blkS e s i) = true ∧ openE (blkS e s i) = e ∧ openI (blkS e s i) = i ∧ openD (blkS e s i) = pieceS s i := by
  have h := blkS_E s he hi
  obtain ⟨a, b, c⟩ := open_seal he2 hi2 h
  exact ⟨openOk_seal he2 h, a, b, c⟩
/-- A text whose blocks lie first is got. -/
theorem get_text {bl : List (List UInt8)} {e : Nat} {s : List UInt8} (he : 0 < e) (he2 : e < 4294967296) (hm : manyS s.length < 4294967296) (hl : manyS s.length ≤ bl.length) (hb : ∀ i, i < manyS s.length → openOk (bl.getD i []) = true ∧ openE (bl.getD i []) = e ∧ openI (bl.getD i []) = i ∧ openD (bl.getD i []) = pieceS s i) :
    getT bl e (s.length : Int) = s ∧ getE bl e (s.length : Int) = 0 := by
  have hr := manyS_room s.length
  have hc : catD (bl.take (manyS s.length)) = padS s := by
    have h1 : (bl.take (manyS s.length)).map openD = (List.range (manyS s.length)).map (pieceS s) := by
      apply List.ext_getElem?
      intro j
      rw [List.getElem?_map, List.getElem?_map, List.getElem?_take]
      by_cases hj : j < manyS s.length
      · rw [if_pos hj, List.getElem?_range hj]
        have := (hb j hj).2.2.2
        rw [List.getD_eq_getElem?_getD] at this
        obtain ⟨x, hx⟩ := getI (show j < bl.length by omega)
        rw [hx] at this ⊢
        simp only [Option.map_some, Option.some.injEq]
        exact this
      · rw [if_neg hj, List.getElem?_eq_none (by simpa using hj)]; rfl
    unfold catD
    rw [h1, padS_chunk s _ (Nat.le_refl _), List.take_of_length_le (by rw [padS_len]; exact Nat.le_refl _)]
  have ht : ((s.length : Int)).toNat = s.length := Int.toNat_natCast _
  have hg : getOk bl e (s.length : Int) := by
    unfold getOk
    rw [ht, hc]
    refine ⟨by omega, hl, fun j hj => okB_iff.2 ⟨(hb j hj).1, (hb j hj).2.1, (hb j hj).2.2.1⟩, ?_⟩
    unfold padS
    rw [List.drop_left' rfl]
    intro x hx
    exact List.eq_of_mem_replicate hx
  obtain ⟨g1, g2⟩ := get_yes hg
  refine ⟨?_, g2⟩
  rw [g1, ht, hc]
  unfold padS
  exact List.take_left' rfl
/-- What is got of blocks of which each that opens so is the text's own is the text. -/
theorem get_only {bl : List (List UInt8)} {e : Nat} {s : List UInt8} (he : 0 < e) (he2 : e < 4294967296) (hm : manyS s.length < 4294967296) (hb : ∀ i, i < manyS s.length → i < bl.length → okB (bl.getD i []) e i = true → openD (bl.getD i []) = pieceS s i) :
    (getE bl e (s.length : Int) = 0 ∧ getT bl e (s.length : Int) = s) ∨ getE bl e (s.length : Int) = 18 := by
  by_cases hg : getOk bl e (s.length : Int)
  · have hg' := hg
    obtain ⟨_, g2, g3, _⟩ := hg'
    rw [Int.toNat_natCast] at g2 g3
    obtain ⟨a, b⟩ := get_text he he2 hm g2 (fun i hi => by
      obtain ⟨x, y, z⟩ := okB_iff.1 (g3 i hi)
      exact ⟨x, y, z, hb i hi (by omega) (g3 i hi)⟩)
    exact .inl ⟨b, a⟩
  · exact .inr (get_no hg).2
/-- What is read of some blocks. -/
def rdB (k : Dk) (f : Int) (n : Nat) : List (List UInt8) := (List.range n).map fun (i : Nat) => k.readS (f + (i : Int))
theorem rdB_len (k : Dk) (f : Int) (n : Nat) : (rdB k f n).length = n := by simp [rdB]
theorem rdB_at {k : Dk} {f : Int} {n i : Nat} (h : i < n) : (rdB k f n)[i]? = some (k.readS (f + (i : Int))) := by simp [rdB, h]
theorem rdB_get {k : Dk} {f : Int} {n i : Nat} (h : i < n) : (rdB k f n).getD i [] = k.readS (f + (i : Int)) := by rw [List.getD_eq_getElem?_getD, rdB_at h]; rfl

end
end Go.Proofs.YtbblkgdejgoncaaGreatDoor

/- Sums of texts and numbers of bytes, in plain lists. -/
set_option linter.unusedSimpArgs false
set_option linter.unusedVariables false
namespace Go.Proofs.YtbblkgdejgoncaaGreatDoor
open Go Go.RowKit

section



def crcN (l : List UInt8) : Nat := (sumCrc 4294967295#32 l).toNat
theorem crcN_lt (l : List UInt8) : crcN l < 4294967296 := (sumCrc _ l).isLt
def crcW (ls : List (List UInt8)) : BitVec 32 := ls.foldl sumCrc 4294967295#32
theorem crcW_next {ls : List (List UInt8)} {i : Nat} {s : List UInt8} (h : ls[i]? = some s) : crcW (ls.take (i + 1)) = sumCrc (crcW (ls.take i)) s := by
  rw [take_succ_of h]; unfold crcW; rw [List.foldl_append]; rfl
theorem crcW_two (a b : List UInt8) : (crcW [a, b]).toNat = crcN (a ++ b) := by
  unfold crcW crcN; rw [sumCrc_append]; rfl
theorem crcW_one (a : List UInt8) : (crcW [a]).toNat = crcN a := rfl

end
end Go.Proofs.YtbblkgdejgoncaaGreatDoor

/- Records as pieces (layer 25), in plain lists. -/
set_option linter.unusedSimpArgs false
set_option linter.unusedVariables false
namespace Go.Proofs.YtbblkgdejgoncaaGreatDoor
open Go Go.RowKit

section



def manyN (n : Nat) : Nat := (n + 53) / 48
theorem manyN_pos (n : Nat) : 1 ≤ manyN n := by unfold manyN; omega
theorem manyN_room (n : Nat) : n + 6 ≤ 48 * manyN n ∧ 48 * manyN n < n + 54 := by unfold manyN; omega
/-- The pieces of a text: of 48 bytes each. -/
def chunks (m : Nat) (t : List UInt8) : List (List UInt8) := (List.range m).map fun i => (t.drop (48 * i)).take 48
theorem chunks_len (m : Nat) (t : List UInt8) : (chunks m t).length = m := by simp [chunks]
theorem chunks_next (m : Nat) (t : List UInt8) : chunks (m + 1) t = chunks m t ++ [(t.drop (48 * m)).take 48] := by
  unfold chunks; rw [List.range_succ, List.map_append]; rfl
theorem chunks_at {m i : Nat} (t : List UInt8) (h : i < m) : (chunks m t)[i]? = some ((t.drop (48 * i)).take 48) := by simp [chunks, h]
theorem chunks_cons (m : Nat) (t : List UInt8) : chunks (m + 1) t = t.take 48 :: chunks m (t.drop 48) := by
  unfold chunks
  rw [List.range_succ_eq_map, List.map_cons, List.map_map]
  congr 1
  apply List.map_congr_left
  intro i _
  show (t.drop (48 * (i + 1))).take 48 = ((t.drop 48).drop (48 * i)).take 48
  rw [List.drop_drop, show 48 * (i + 1) = 48 + 48 * i by omega]
theorem chunks_flat : ∀ ls : List (List UInt8), (∀ x ∈ ls, x.length = 48) → chunks ls.length ls.flatten = ls
  | [], _ => rfl
  | x :: ls, h => by
    have hx := h x (by simp)
    rw [List.length_cons, chunks_cons, List.flatten_cons, List.take_left' hx, List.drop_left' hx, chunks_flat ls (fun y hy => h y (by simp [hy]))]
theorem flat_chunks : ∀ (m : Nat) (t : List UInt8), t.length = 48 * m → (chunks m t).flatten = t
  | 0, t, h => by
    have : t = [] := List.length_eq_zero_iff.1 (by omega)
    subst this; rfl
  | m + 1, t, h => by rw [chunks_cons, List.flatten_cons, flat_chunks m (t.drop 48) (by simp; omega), List.take_append_drop]
theorem chunks_all {m : Nat} {t : List UInt8} (h : t.length = 48 * m) : ∀ x ∈ chunks m t, x.length = 48 := by
  intro x hx
  simp only [chunks, List.mem_map, List.mem_range] at hx
  obtain ⟨i, hi, rfl⟩ := hx
  simp; omega
theorem flat_len48 : ∀ ls : List (List UInt8), (∀ x ∈ ls, x.length = 48) → ls.flatten.length = 48 * ls.length
  | [], _ => rfl
  | x :: ls, h => by
    have hx := h x (by simp)
    have := flat_len48 ls (fun y hy => h y (by simp [hy]))
    rw [List.flatten_cons, List.length_append, List.length_cons]; omega
def headF (s : List UInt8) : List UInt8 := be 2 s.length ++ be 4 (crcN (be 2 s.length ++ s))
def bytesF (s : List UInt8) : List UInt8 := headF s ++ s
theorem headF_len (s : List UInt8) : (headF s).length = 6 := by simp [headF, be_length]
theorem bytesF_len (s : List UInt8) : (bytesF s).length = 6 + s.length := by simp [bytesF, headF_len]
def padF (s : List UInt8) : List UInt8 := bytesF s ++ List.replicate (48 * manyN s.length - (6 + s.length)) 0
theorem padF_len (s : List UInt8) : (padF s).length = 48 * manyN s.length := by
  have := manyN_room s.length
  rw [padF, List.length_append, bytesF_len, List.length_replicate]; omega
def piecesF (s : List UInt8) : List (List UInt8) := chunks (manyN s.length) (padF s)
theorem piecesF_len (s : List UInt8) : (piecesF s).length = manyN s.length := chunks_len _ _
def encF (s : List UInt8) : List (List UInt8) := if s.length ≤ 1000 then piecesF s else []
def encFE (s : List UInt8) : Int := if s.length ≤ 1000 then 0 else 4
theorem encF_yes {s : List UInt8} (h : s.length ≤ 1000) : encF s = piecesF s ∧ encFE s = 0 := by unfold encF encFE; rw [if_pos h, if_pos h]; exact ⟨rfl, rfl⟩
theorem encF_no {s : List UInt8} (h : ¬ s.length ≤ 1000) : encF s = [] ∧ encFE s = 4 := by unfold encF encFE; rw [if_neg h, if_neg h]; exact ⟨rfl, rfl⟩
def sizeF (p : List UInt8) : Nat := if p.length ≠ 48 ∨ 1000 < num (p.take 2) then 0 else num (p.take 2)
def sizeFE (p : List UInt8) : Int := if p.length ≠ 48 then 2 else if 1000 < num (p.take 2) then 4 else 0
theorem sizeF_le (p : List UInt8) : sizeF p ≤ 1000 := by unfold sizeF; split <;> omega
theorem sizeF_short {p : List UInt8} (h : p.length ≠ 48) : sizeF p = 0 ∧ sizeFE p = 2 := by unfold sizeF sizeFE; rw [if_pos (Or.inl h), if_pos h]; exact ⟨rfl, rfl⟩
theorem sizeF_long {p : List UInt8} (h : p.length = 48) (h1 : 1000 < num (p.take 2)) : sizeF p = 0 ∧ sizeFE p = 4 := by unfold sizeF sizeFE; rw [if_pos (Or.inr h1), if_neg (by omega), if_pos h1]; exact ⟨rfl, rfl⟩
theorem sizeF_ok {p : List UInt8} (h : p.length = 48) (h1 : ¬ 1000 < num (p.take 2)) : sizeF p = num (p.take 2) ∧ sizeFE p = 0 := by unfold sizeF sizeFE; rw [if_neg (by omega), if_neg (by omega), if_neg h1]; exact ⟨rfl, rfl⟩
theorem sizeFE_zero {p : List UInt8} (h : sizeFE p = 0) : p.length = 48 ∧ sizeF p = num (p.take 2) ∧ num (p.take 2) ≤ 1000 := by
  unfold sizeFE at h
  by_cases h1 : p.length = 48
  · by_cases h2 : 1000 < num (p.take 2)
    · rw [if_neg (by omega), if_pos h2] at h; cases h
    · exact ⟨h1, (sizeF_ok h1 h2).1, by omega⟩
  · rw [if_pos h1] at h; cases h
/-- The record with whose pieces a list begins: the record, how many pieces it has, the error. -/
def firstF (l : List (List UInt8)) : List UInt8 := l.headD []
def nF (l : List (List UInt8)) : Nat := sizeF (firstF l)
def mF (l : List (List UInt8)) : Nat := manyN (nF l)
def allF (l : List (List UInt8)) : List UInt8 := (l.take (mF l)).flatten
def recF (l : List (List UInt8)) : List UInt8 := ((allF l).drop 6).take (nF l)
/-- The first pieces are all of 48 bytes. -/
def fullF (l : List (List UInt8)) : Bool := (l.take (mF l)).all fun x => decide (x.length = 48)
def decE (l : List (List UInt8)) : Int :=
  if l = [] then 2 else if sizeFE (firstF l) ≠ 0 then sizeFE (firstF l) else if l.length < mF l then 2 else if fullF l = false then 2 else if allF l = padF (recF l) then 0 else 3
def decS (l : List (List UInt8)) : List UInt8 := if decE l = 0 then recF l else []
def decM (l : List (List UInt8)) : Nat := if decE l = 0 then mF l else 0
theorem fullF_all {l : List (List UInt8)} (h : fullF l = true) : ∀ x ∈ l.take (mF l), x.length = 48 := fun x hx => by
  have := List.all_eq_true.1 h x hx
  exact of_decide_eq_true this
theorem allF_len {l : List (List UInt8)} (h : fullF l = true) (hl : mF l ≤ l.length) : (allF l).length = 48 * mF l := by
  have := flat_len48 _ (fullF_all h)
  rw [List.length_take, Nat.min_eq_left hl] at this
  exact this
theorem recF_len {l : List (List UInt8)} (h : fullF l = true) (hl : mF l ≤ l.length) : (recF l).length = nF l := by
  have h1 := allF_len h hl
  have h2 := manyN_room (nF l)
  unfold recF
  rw [List.length_take, List.length_drop, h1]
  unfold mF
  omega
/-- What the program looks at: the sum, and that the rest is bytes 0. -/
theorem pad_cases {l : List (List UInt8)} (h : fullF l = true) (hl : mF l ≤ l.length) (hn : sizeFE (firstF l) = 0) (h0 : l ≠ []) :
    (allF l = padF (recF l) ↔ num (((allF l).drop 2).take 4) = crcN ((allF l).take 2 ++ recF l) ∧ ∀ x ∈ (allF l).drop (6 + nF l), x = 0) := by
  have h1 := allF_len h hl
  have h2 := manyN_room (nF l)
  have h3 := recF_len h hl
  have hm : mF l = manyN (nF l) := rfl
  have hmp := manyN_pos (nF l)
  have h4 : (allF l).take 2 = be 2 (nF l) := by
    obtain ⟨p, r, rfl⟩ : ∃ p r, l = p :: r := by cases l with | nil => exact absurd rfl h0 | cons p r => exact ⟨p, r, rfl⟩
    obtain ⟨g1, g2, g3⟩ := sizeFE_zero hn
    have g4 : (allF (p :: r)).take 2 = p.take 2 := by
      unfold allF
      obtain ⟨k, hk⟩ : ∃ k, mF (p :: r) = k + 1 := ⟨mF (p :: r) - 1, by omega⟩
      rw [hk, List.take_succ_cons, List.flatten_cons, List.take_append_of_le_length (by have : p.length = 48 := g1; omega)]
    have g5 : nF (p :: r) = num (p.take 2) := g2
    rw [g4, g5]
    have := be_num (p.take 2)
    have hp : p.length = 48 := g1
    rw [show (p.take 2).length = 2 by simp; omega] at this
    exact this.symm
  have e0 : allF l = (allF l).take 2 ++ ((allF l).drop 2).take 4 ++ recF l ++ (allF l).drop (6 + nF l) := by
    have a1 : (allF l).drop 6 = recF l ++ (allF l).drop (6 + nF l) := by
      unfold recF
      rw [show (allF l).drop (6 + nF l) = ((allF l).drop 6).drop (nF l) by rw [List.drop_drop], List.take_append_drop]
    have a2 : (allF l).drop 2 = ((allF l).drop 2).take 4 ++ (allF l).drop 6 := by
      rw [show (allF l).drop 6 = ((allF l).drop 2).drop 4 by rw [List.drop_drop], List.take_append_drop]
    rw [List.append_assoc, List.append_assoc, ← a1, ← a2, List.take_append_drop]
  have l1 : ((allF l).take 2).length = 2 := by rw [List.length_take, h1, hm]; omega
  have l2 : (((allF l).drop 2).take 4).length = 4 := by rw [List.length_take, List.length_drop, h1, hm]; omega
  have l3 : ((allF l).drop (6 + nF l)).length = 48 * manyN (nF l) - (6 + nF l) := by rw [List.length_drop, h1, hm]
  have e1 : padF (recF l) = be 2 (nF l) ++ be 4 (crcN (be 2 (nF l) ++ recF l)) ++ recF l ++ List.replicate (48 * manyN (nF l) - (6 + nF l)) 0 := by
    unfold padF bytesF headF; rw [h3]
  rw [e1, ← h4]
  constructor
  · intro e
    have e := e0.symm.trans e
    have b1 : ((allF l).take 2 ++ ((allF l).drop 2).take 4 ++ recF l).length = ((allF l).take 2 ++ be 4 (crcN ((allF l).take 2 ++ recF l)) ++ recF l).length := by
      simp only [List.length_append, be_length, l2]
    have hbig := List.append_inj e b1
    obtain ⟨c1, c2⟩ := hbig
    have d1 := List.append_inj' c1 rfl
    have d2 := List.append_inj' d1.1 (by rw [l2, be_length])
    have p4 : 256 ^ 4 = 4294967296 := by decide
    have hc4 := crcN_lt ((allF l).take 2 ++ recF l)
    refine ⟨?_, ?_⟩
    · have d3 := num_be 4 (crcN ((allF l).take 2 ++ recF l)) (by rw [p4]; exact hc4)
      exact (congrArg num d2.2).trans d3
    · rw [c2]
      intro x hx
      exact List.eq_of_mem_replicate hx
  · rintro ⟨c1, c2⟩
    have d1 : ((allF l).drop 2).take 4 = be 4 (crcN ((allF l).take 2 ++ recF l)) := by
      have := be_num (((allF l).drop 2).take 4)
      rw [l2, c1] at this
      exact this.symm
    have d2 : (allF l).drop (6 + nF l) = List.replicate (48 * manyN (nF l) - (6 + nF l)) 0 := List.eq_replicate_iff.2 ⟨l3, c2⟩
    rw [← d1, ← d2]
    exact e0

end
end Go.Proofs.YtbblkgdejgoncaaGreatDoor

/- The sums of texts and the numbers of bytes: contracts. -/
set_option linter.unusedSimpArgs false
set_option linter.unusedVariables false
namespace Go.Proofs.YtbblkgdejgoncaaGreatDoor
open Go Go.RowKit

section
theorem infSumW_9 : Tryz.prog.info? 9 = some Tryz.t9 := by kernel_rfl


theorem ct_crc (x : BitVec 32) (l : List UInt8) (h : l.length ≤ 9223372036854775807) : Ct Tryz.prog 99 [.int .u32 (x.toNat : Int), .string (bs l)] [] [] (fun v post => v = .int .u32 ((sumCrc x l).toNat : Int) ∧ post = []) :=
  ct_same (fun w => by
    have := sum_crc_any x (bs l) w (by rw [bs_size]; omega)
    rw [bs_data] at this
    exact this)
theorem fixed_of (v : Int) (n : Nat) (h1 : 1 ≤ n) (h8 : n ≤ 8) (h0 : 0 ≤ v) (h : v < ((256 ^ n : Nat) : Int)) : fixed v.toNat (n : Int) = (be n v.toNat, 0) := fixed_yes v.toNat n h1 h8 (by omega)
theorem ct_fixed (v : Int) (n : Nat) (h1 : 1 ≤ n) (h8 : n ≤ 8) (h0 : 0 ≤ v) (h : v < ((256 ^ n : Nat) : Int)) (h64 : v < 18446744073709551616) : Ct Tryz.prog 83 [.int .u64 v, .int .i64 (n : Int)] [] [] (fun v' post => v' = .tuple #[.string (bs (be n v.toNat)), .int .i64 0] ∧ post = []) :=
  ct_below (fun w => by
    have := fixed_any v.toNat n w (by unfold U64; omega) (by omega) (by omega)
    rw [fixed_of v n h1 h8 h0 h, Int.toNat_of_nonneg h0] at this
    exact this)
theorem ct_number (l : List UInt8) (h1 : 1 ≤ l.length) (h8 : l.length ≤ 8) : Ct Tryz.prog 101 [.string (bs l)] [] [] (fun v' post => v' = .tuple #[.int .u64 ((num l : Nat) : Int), .int .i64 0] ∧ post = []) :=
  ct_same (fun w => by
    have := number_any (bs l) w (by rw [bs_size]; omega)
    rw [bs_data, number_yes l (by omega)] at this
    exact this)
theorem p256_2 : ((256 ^ 2 : Nat) : Int) = 65536 := by decide
theorem p256_4 : ((256 ^ 4 : Nat) : Int) = 4294967296 := by decide

set_option maxRecDepth 100000 in
set_option maxHeartbeats 1000000 in
theorem sum_of (o1 : Option Nat) (p1 q1 : Nat) (c1 : Array Value) (T1 : TypeId) (f1 : Nat × Nat) (ls : List (List UInt8)) (hs : Sees 1 o1 p1 q1 c1 (ls.map strC) ls.length) (hl : ∀ s ∈ ls, s.length ≤ 9223372036854775807) :
    Ct Tryz.prog 80 [sv o1 p1 ls.length q1] [(o1, .cells c1 T1 f1)] [] fun v post => v = .int .u32 ((crcW ls).toNat : Int) ∧ post = [] := by
 have hk1 := hs.le
 have hk2 := hs.max
 refine ct_of Tryz.func80 rfl rfl (fun w0 => ?_)
 show G _ _ [(0, _)] _ _
 refine G_seq ?_
 refine G_region (l := [0]) rfl ?_
 refine G_val rfl rfl rfl rfl (V_assign rfl rfl) ?_
 refine G_done ?_
 refine G_seq ?_
 refine G_region (l := [0]) rfl ?_
 refine G_val rfl rfl rfl rfl (V_assign rfl rfl) ?_
 refine G_done ?_
 refine G_seq ?_
 refine G_seq ?_
 refine G_region (l := [0, 1, 2]) rfl ?_
 refine G_val rfl rfl rfl rfl (V_move rfl rfl) ?_
 refine G_val rfl rfl rfl rfl (V_len rfl rfl Tryz.underlying34 rfl) ?_
 refine G_val rfl rfl rfl rfl (V_move rfl rfl) ?_
 refine G_done ?_
 refine G_block ?_
 refine G_sub ?he3 [] ?hl3 (G_loop (X := Nat) (fun i => i ≤ ls.length) (fun i => ls.length - i) (fun i => [(3, .int .u32 ((crcW (ls.take i)).toNat : Int)), (6, sv o1 p1 ls.length q1), (7, .int .i64 (ls.length : Int)), (8, .int .i64 (i : Int))]) (fun i => []) ?round3 0 ?h03)
 case he3 => exact (And.intro rfl (And.intro rfl (And.intro rfl (And.intro rfl trivial))))
 case hl3 => exact ⟨_, rfl⟩
 case h03 => exact Nat.zero_le _
 case round3 =>
  intro i hJ ih
  try dsimp only at hJ ih
  refine G_seq ?_
  refine G_region (l := [0]) rfl ?_
  refine G_val rfl rfl rfl rfl (V_lss rfl rfl rfl) ?_
  refine G_done ?_
  refine G_seq ?_
  refine G_ifD rfl (fun hc1 => ?_) (fun hc1 => ?_)
  ·
   refine G_skip ?_
   refine G_seq ?_
   refine G_block ?_
   refine G_seq ?_
   obtain ⟨s, hx⟩ := getI (show i < ls.length by omega)
   obtain ⟨b1, rfl⟩ := hs.isSome (by omega)
   refine G_region (l := [0, 1, 2]) rfl ?_
   refine G_val rfl rfl rfl rfl (V_indexAddrN (s := 1) rfl Tryz.underlying34 infSumW_9 rfl rfl rfl rfl (by omega)) ?_
   refine G_val rfl rfl rfl rfl (V_load1 rfl rfl (mem_at 0 rfl) (nth_of (hs.cell hx)) Tryz.underlying9 rfl) ?_
   refine G_val rfl rfl rfl rfl (V_assign rfl rfl) ?_
   refine G_done ?_
   refine G_region (l := [0, 1, 2, 3]) rfl ?_
   refine G_val rfl rfl rfl rfl (V_move rfl rfl) ?_
   refine G_val rfl rfl rfl rfl (V_move rfl rfl) ?_
   refine G_call (L2 := []) rfl rfl rfl rfl rfl rfl Tryz.call99 (ct_crc _ _ (hl s (List.mem_of_getElem? hx))) [] [] rfl rfl ?_
   rintro v post ⟨rfl, rfl⟩
   refine G_val rfl rfl rfl rfl (V_assign rfl rfl) ?_
   refine G_done ?_
   refine G_inBlock ?_
   rw [← crcW_next hx]
   refine G_region (l := [0, 1]) rfl ?_
   refine G_val rfl rfl rfl rfl ((V_add rfl rfl rfl).int (wrap_i64 (by omega))) ?_
   refine G_val rfl rfl rfl rfl (V_move rfl rfl) ?_
   refine G_done ?_
   refine G_sub ?_ [] ?_ (ih (i + 1) ?_ ?_)
   · (refine (And.intro ?_ (And.intro ?_ (And.intro ?_ (And.intro ?_ trivial)))) <;> first | rfl | exact slot_int (by omega) | exact slot_int (by simp))
   · exact ⟨_, rfl⟩
   · omega
   · (first | omega | (dsimp only; omega))
  refine G_exit rfl ?_
  refine G_seq ?_
  refine G_region (l := [0, 1]) rfl ?_
  refine G_val rfl rfl rfl rfl (V_move rfl rfl) ?_
  refine G_val rfl rfl rfl rfl (V_assign rfl rfl) ?_
  refine G_done ?_
  refine G_ret (post := []) Tryz.func80 rfl (RVs_cons (RV_tmp rfl) RVs_nil) [] rfl ?_
  dsimp only [packed]
  rw [List.take_of_length_le (by omega)]; exact ⟨rfl, rfl⟩

end
end Go.Proofs.YtbblkgdejgoncaaGreatDoor

/- Parts of slices: from a place on; with a third index. -/
set_option linter.unusedSimpArgs false
set_option linter.unusedVariables false
namespace Go.Proofs.YtbblkgdejgoncaaGreatDoor
open Go Go.RowKit

section
variable {c : Cx} {n : Nat} {env : List (Nat × Value)} {L : List (Option Nat × Obj)} {o : Oper}
theorem V_sliceLHM {x xl xh xm : Operand} {t e : TypeId} {ti : TypeInfo} {s b off len cap lo hi mx : Nat} {q q' q'' : IntKind} {zl zh zm : Int} (hop : o.op = .slice t x (some xl) (some xh) (some xm)) (hu : c.P.underlying t = some (.slice e)) (hs : c.P.info? e = some ti) (hsz : ti.size = s) (hx : fev env x = some (.slice (some ⟨b, off, none⟩) len cap))
    (hl : fev env xl = some (.int q zl)) (hh : fev env xh = some (.int q' zh)) (hm : fev env xm = some (.int q'' zm)) (el : zl = (lo : Int)) (eh : zh = (hi : Int)) (em : zm = (mx : Int)) (h1 : lo ≤ hi) (h2 : hi ≤ mx) (h3 : mx ≤ cap) : Val c n env L o (.slice (some ⟨b, if mx = lo then off else off + lo * s, none⟩) (hi - lo) (mx - lo)) := fun a w hk _ => by
  subst el eh em hsz
  have e0 : (0 : Int) ≤ (mx : Int) ∧ (mx : Int) ≤ (cap : Int) := by omega
  have e1 : (0 : Int) ≤ (hi : Int) ∧ (hi : Int) ≤ (mx : Int) := by omega
  have e2 : (0 : Int) ≤ (lo : Int) ∧ (lo : Int) ≤ (hi : Int) := by omega
  simp only [execOp, hop, hk.eval hx, hk.eval hl, hk.eval hh, hk.eval hm, Option.map_some, Option.map_none, Instr.sliceAt, Instr.slice, run_underlying hu, Instr.sliceBounds, Instr.sliceBound, asIntOf, Sem.run_bind, Sem.run_pure, Result.andThen_ok, if_pos e0, if_pos e1, if_pos e2, sizeOf, typeInfo, run_program, hs, Int.toNat_natCast, Option.isSome_none, Option.isSome_some, Bool.false_eq_true, if_false, if_true]
  by_cases h : mx = lo
  · simp [h]
  · simp [h, Addr.add_lit]
theorem V_sliceLo {x xl : Operand} {t e : TypeId} {ti : TypeInfo} {s b off len cap lo : Nat} {q : IntKind} {zl : Int} (hop : o.op = .slice t x (some xl) none none) (hu : c.P.underlying t = some (.slice e)) (hs : c.P.info? e = some ti) (hsz : ti.size = s) (hx : fev env x = some (.slice (some ⟨b, off, none⟩) len cap))
    (hl : fev env xl = some (.int q zl)) (el : zl = (lo : Int)) (h1 : lo ≤ len) (h2 : len ≤ cap) : Val c n env L o (.slice (some ⟨b, if cap = lo then off else off + lo * s, none⟩) (len - lo) (cap - lo)) := fun a w hk _ => by
  subst el hsz
  have e1 : (0 : Int) ≤ (len : Int) ∧ (len : Int) ≤ (cap : Int) := by omega
  have e2 : (0 : Int) ≤ (lo : Int) ∧ (lo : Int) ≤ (len : Int) := by omega
  simp only [execOp, hop, hk.eval hx, hk.eval hl, Option.map_some, Option.map_none, Instr.sliceAt, Instr.slice, run_underlying hu, Instr.sliceBounds, Instr.sliceBound, asIntOf, Sem.run_bind, Sem.run_pure, Result.andThen_ok, if_pos e1, if_pos e2, sizeOf, typeInfo, run_program, hs, Int.toNat_natCast, Option.isSome_none, Bool.false_eq_true, if_false, if_true]
  by_cases h : cap = lo
  · simp [h]
  · simp [h, Addr.add_lit]
end
end Go.Proofs.YtbblkgdejgoncaaGreatDoor

/- The walks of layer 25: records as pieces, the program and the reference. -/
set_option linter.unusedSimpArgs false
set_option linter.unusedVariables false
namespace Go.Proofs.YtbblkgdejgoncaaGreatDoor
open Go Go.RowKit

section
theorem infFrameW_5 : Tryz.prog.info? 5 = some Tryz.t5 := by kernel_rfl
theorem infFrameW_9 : Tryz.prog.info? 9 = some Tryz.t9 := by kernel_rfl


theorem ct_fixedN (v n : Nat) (h1 : 1 ≤ n) (h8 : n ≤ 8) (h : v < 256 ^ n) (h64 : v < 18446744073709551616) : Ct Tryz.prog 83 [.int .u64 (v : Int), .int .i64 (n : Int)] [] [] (fun v' post => v' = .tuple #[.string (bs (be n v)), .int .i64 0] ∧ post = []) :=
  ct_fixed (v : Int) n h1 h8 (by omega) (by omega) (by omega)
theorem fit2 {v : Nat} (h : v < 65536) : v < 256 ^ 2 := h
theorem fit4 {v : Nat} (h : v < 4294967296) : v < 256 ^ 4 := h
theorem mulM (m : Nat) (h : m ≤ 100000) : IntKind.i64.wrap ((m : Int) * 48) = ((m * 48 : Nat) : Int) := by rw [wrap_i64 (by omega)]; omega
theorem mul48 (i : Nat) (h : i ≤ 100000) : IntKind.i64.wrap ((48 : Int) * (i : Int)) = ((48 * i : Nat) : Int) := by rw [wrap_i64 (by omega)]; omega
theorem add48 (i : Nat) (h : i ≤ 10000000) : IntKind.i64.wrap ((i : Int) + 48) = ((i + 48 : Nat) : Int) := by rw [wrap_i64 (by omega)]; omega
theorem add6 (i : Nat) (h : i ≤ 10000000) : IntKind.i64.wrap ((6 : Int) + (i : Int)) = ((6 + i : Nat) : Int) := by rw [wrap_i64 (by omega)]; omega
theorem laid_pad (s : List UInt8) : laid (List.replicate (manyN s.length * 48) (Value.int .u8 0)).toArray 0 (bcells ((bytesF s).take (manyN s.length * 48))) = (bcells (padF s)).toArray := by
  have h := manyN_room s.length
  have hb := bytesF_len s
  rw [List.take_of_length_le (by omega)]
  unfold laid padF
  rw [List.take_zero, List.nil_append, bcells_append, bcells_length, bcells_zero, bcells_drop, List.drop_replicate, hb]
  congr 4
  omega
theorem piece_cells (s : List UInt8) {i : Nat} (h : i < manyN s.length) : ((bcells (padF s)).toArray.toList.drop (if 48 * i + 48 = 48 * i then 0 else 0 + 48 * i * 1)).take (48 * i + 48 - 48 * i) = bcells (((padF s).drop (48 * i)).take 48) := by
  rw [if_neg (by omega), Nat.zero_add, Nat.mul_one, show 48 * i + 48 - 48 * i = 48 by omega, bcells_drop, bcells_take]
theorem piece_len (s : List UInt8) {i : Nat} (h : i < manyN s.length) : (((padF s).drop (48 * i)).take 48).length = 48 * i + 48 - 48 * i := by
  have := padF_len s
  rw [List.length_take, List.length_drop]; omega
theorem piece_cut (t : List UInt8) (i : Nat) : (t.take (48 * i + 48)).drop (48 * i) = (t.drop (48 * i)).take 48 := by
  rw [List.drop_take, show 48 * i + 48 - 48 * i = 48 by omega]
theorem pad_next (s : List UInt8) (k : Nat) : bytesF s ++ List.replicate k 0 ++ [0] = bytesF s ++ List.replicate (k + 1) 0 := by
  rw [List.append_assoc]; congr 1; exact (List.replicate_succ' ..).symm

set_option maxRecDepth 100000 in
set_option maxHeartbeats 1000000 in
theorem fr_manyZ (z : Int) (h0 : -9223372036854775808 ≤ z) (h1 : z ≤ 9223372036854775000) :
    Ct Tryz.prog 61 [.int .i64 z] [] [] fun v post => v = .int .i64 ((manyN z.toNat : Nat) : Int) ∧ post = [] := by
 refine ct_of Tryz.func61 rfl rfl (fun w0 => ?_)
 show G _ _ [(0, _)] _ _
 refine G_seq ?_
 refine G_region (l := [0]) rfl ?_
 refine G_val rfl rfl rfl rfl (V_assign rfl rfl) ?_
 refine G_done ?_
 refine G_seq ?_
 refine G_region (l := [0, 1, 2, 3, 4, 5, 6]) rfl ?_
 refine G_val rfl rfl rfl rfl (V_move rfl rfl) ?_
 refine G_val rfl rfl rfl rfl (V_max rfl rfl rfl) ?_
 refine G_val rfl rfl rfl rfl ((V_add rfl rfl rfl).int (wrap_i64 (by omega))) ?_
 refine G_val rfl rfl rfl rfl ((V_add rfl rfl rfl).int (wrap_i64 (by omega))) ?_
 refine G_val rfl rfl rfl rfl ((V_sub rfl rfl rfl).int (wrap_i64 (by omega))) ?_
 refine G_val rfl rfl rfl rfl (V_quo rfl rfl rfl (by omega) (by omega) (wrap_i64 (by omega))) ?_
 refine G_val rfl rfl rfl rfl (V_assign rfl rfl) ?_
 refine G_done ?_
 refine G_ret (post := []) Tryz.func61 rfl (RVs_cons (RV_tmp rfl) RVs_nil) [] rfl ?_
 dsimp only [packed]
 exact ⟨by rw [show ((manyN z.toNat : Nat) : Int) = (max z 0 + 6 + 48 - 1) / 48 by unfold manyN; omega], rfl⟩


theorem fr_many (n : Nat) (h : n ≤ 9223372036854775000) : Ct Tryz.prog 61 [.int .i64 (n : Int)] [] [] (fun v post => v = .int .i64 ((manyN n : Nat) : Int) ∧ post = []) := fr_manyZ (n : Int) (by omega) (by omega)

set_option maxRecDepth 100000 in
set_option maxHeartbeats 1000000 in
theorem rfr_many (n : Nat) (h : n ≤ 9223372036854775000) :
    Ct Tryz.prog 39 [.int .i64 (n : Int)] [] [] fun v post => v = .int .i64 ((manyN n : Nat) : Int) ∧ post = [] := by
 refine ct_of Tryz.func39 rfl rfl (fun w0 => ?_)
 show G _ _ [(0, _)] _ _
 refine G_seq ?_
 refine G_region (l := [0]) rfl ?_
 refine G_val rfl rfl rfl rfl (V_assign rfl rfl) ?_
 refine G_done ?_
 refine G_seq ?_
 refine G_region (l := [0]) rfl ?_
 refine G_val rfl rfl rfl rfl (V_assign rfl rfl) ?_
 refine G_done ?_
 refine G_seq ?_
 refine G_block ?_
 refine G_sub ?he2 [] ?hl2 (G_loop (X := Nat) (fun k => 1 ≤ k ∧ 48 * k < n + 54) (fun k => n + 54 - 48 * k) (fun k => [(0, .int .i64 (n : Int)), (3, .int .i64 (k : Int))]) (fun k => []) ?round2 1 ?h02)
 case he2 => exact (And.intro rfl (And.intro rfl trivial))
 case hl2 => exact ⟨_, rfl⟩
 case h02 => omega
 case round2 =>
  intro k hJ ih
  try dsimp only at hJ ih
  refine G_seq ?_
  refine G_seq ?_
  refine G_region (l := [0, 1, 2, 3, 4]) rfl ?_
  refine G_val rfl rfl rfl rfl (V_move rfl rfl) ?_
  refine G_val rfl rfl rfl rfl ((V_mul rfl rfl rfl).int (wrap_i64 (by omega))) ?_
  refine G_val rfl rfl rfl rfl (V_move rfl rfl) ?_
  refine G_val rfl rfl rfl rfl ((V_add rfl rfl rfl).int (wrap_i64 (by omega))) ?_
  refine G_val rfl rfl rfl rfl (V_lss rfl rfl rfl) ?_
  refine G_done ?_
  refine G_ifD rfl (fun hc1 => ?_) (fun hc1 => ?_)
  ·
   refine G_skip ?_
   refine G_block ?_
   refine G_region (l := [0, 1, 2]) rfl ?_
   refine G_val rfl rfl rfl rfl (V_move rfl rfl) ?_
   refine G_val rfl rfl rfl rfl ((V_add rfl rfl rfl).int (wrap_i64 (by omega))) ?_
   refine G_val rfl rfl rfl rfl (V_assign rfl rfl) ?_
   refine G_done ?_
   refine G_inBlock ?_
   refine G_sub ?_ [] ?_ (ih (k + 1) ?_ ?_)
   · (refine (And.intro ?_ (And.intro ?_ trivial)) <;> first | rfl | exact slot_int (by omega) | exact slot_int (by simp))
   · exact ⟨_, rfl⟩
   · omega
   · omega
  refine G_exit rfl ?_
  refine G_seq ?_
  refine G_region (l := [0, 1]) rfl ?_
  refine G_val rfl rfl rfl rfl (V_move rfl rfl) ?_
  refine G_val rfl rfl rfl rfl (V_assign rfl rfl) ?_
  refine G_done ?_
  refine G_ret (post := []) Tryz.func39 rfl (RVs_cons (RV_tmp rfl) RVs_nil) [] rfl ?_
  dsimp only [packed]
  exact ⟨by rw [show manyN n = k by unfold manyN; omega], rfl⟩

set_option maxRecDepth 100000 in
set_option maxHeartbeats 1000000 in
theorem fr_size (p : List UInt8) (h : p.length ≤ 9223372036854775807) :
    Ct Tryz.prog 107 [.string (bs p)] [] [] fun v post => v = .tuple #[.int .i64 (sizeF p : Int), .int .i64 (sizeFE p)] ∧ post = [] := by
 have hn := num_lt (p.take 2)
 have hn2 : 256 ^ (p.take 2).length ≤ 256 ^ 2 := Nat.pow_le_pow_right (by omega) (by simp; omega)
 refine ct_of Tryz.func107 rfl rfl (fun w0 => ?_)
 show G _ _ [(0, _)] _ _
 refine G_seq ?_
 refine G_region (l := [0, 1]) rfl ?_
 refine G_val rfl rfl rfl rfl (V_assign rfl rfl) ?_
 refine G_val rfl rfl rfl rfl (V_assign rfl rfl) ?_
 refine G_done ?_
 refine G_seq ?_
 refine G_seq ?_
 refine G_region (l := [0, 1, 2]) rfl ?_
 refine G_val rfl rfl rfl rfl (V_move rfl rfl) ?_
 refine G_val rfl rfl rfl rfl (V_slen rfl rfl Tryz.underlying9 rfl) ?_
 refine G_val rfl rfl rfl rfl (V_neq rfl rfl rfl) ?_
 refine G_done ?_
 refine G_ifD rfl (fun hc1 => ?_) (fun hc1 => ?_)
 ·
  refine G_seq ?_
  refine G_region (l := [0, 1]) rfl ?_
  refine G_val rfl rfl rfl rfl (V_assign rfl rfl) ?_
  refine G_val rfl rfl rfl rfl (V_assign rfl rfl) ?_
  refine G_done ?_
  refine G_ret (post := []) Tryz.func107 rfl (RVs_cons (RV_tmp rfl) (RVs_cons (RV_tmp rfl) RVs_nil)) [] rfl ?_
  dsimp only [packed]
  first
    | (obtain ⟨e1, e2⟩ := sizeF_short (p := p) (by omega); rw [e1, e2]; exact ⟨rfl, rfl⟩)
    | (obtain ⟨e1, e2⟩ := sizeF_long (p := p) (by omega) (by omega); rw [e1, e2]; exact ⟨rfl, rfl⟩)
    | (obtain ⟨e1, e2⟩ := sizeF_ok (p := p) (by omega) (by omega); rw [e1, e2]; exact ⟨rfl, rfl⟩)
 refine G_skip ?_
 refine G_seq ?_
 refine G_region (l := [0, 1, 2, 3, 4, 5, 6, 7]) rfl ?_
 refine G_val rfl rfl rfl rfl (V_move rfl rfl) ?_
 refine G_val rfl rfl rfl rfl (V_ssliceHN (hi := 2) rfl Tryz.underlying9 rfl rfl rfl (by first | omega | (simp; done) | (simp; omega) | (simp at *; omega))) ?_
 refine G_call (L2 := []) rfl rfl rfl rfl rfl rfl Tryz.call101 (ct_number _ (by simp; omega) (by simp; omega)) [] [] rfl rfl ?_
 rintro v post ⟨rfl, rfl⟩
 refine G_val rfl rfl rfl rfl (V_move rfl rfl) ?_
 refine G_val rfl rfl rfl rfl (V_extract rfl rfl rfl) ?_
 refine G_val rfl rfl rfl rfl (V_extract rfl rfl rfl) ?_
 refine G_val rfl rfl rfl rfl (V_assign rfl rfl) ?_
 refine G_val rfl rfl rfl rfl (V_assign rfl rfl) ?_
 refine G_done ?_
 refine G_seq ?_
 refine G_seq ?_
 refine G_region (l := [0, 1]) rfl ?_
 refine G_val rfl rfl rfl rfl (V_move rfl rfl) ?_
 refine G_val rfl rfl rfl rfl (V_gtr rfl rfl rfl) ?_
 refine G_done ?_
 refine G_ifD rfl (fun hc2 => ?_) (fun hc2 => ?_)
 ·
  refine G_seq ?_
  refine G_region (l := [0, 1]) rfl ?_
  refine G_val rfl rfl rfl rfl (V_assign rfl rfl) ?_
  refine G_val rfl rfl rfl rfl (V_assign rfl rfl) ?_
  refine G_done ?_
  refine G_ret (post := []) Tryz.func107 rfl (RVs_cons (RV_tmp rfl) (RVs_cons (RV_tmp rfl) RVs_nil)) [] rfl ?_
  dsimp only [packed]
  first
    | (obtain ⟨e1, e2⟩ := sizeF_short (p := p) (by omega); rw [e1, e2]; exact ⟨rfl, rfl⟩)
    | (obtain ⟨e1, e2⟩ := sizeF_long (p := p) (by omega) (by omega); rw [e1, e2]; exact ⟨rfl, rfl⟩)
    | (obtain ⟨e1, e2⟩ := sizeF_ok (p := p) (by omega) (by omega); rw [e1, e2]; exact ⟨rfl, rfl⟩)
 refine G_skip ?_
 refine G_seq ?_
 refine G_region (l := [0, 1, 2, 3]) rfl ?_
 refine G_val rfl rfl rfl rfl (V_move rfl rfl) ?_
 refine G_val rfl rfl rfl rfl ((V_conv rfl rfl Tryz.underlying124 Tryz.underlying3).int (wrap_i64 (by omega))) ?_
 refine G_val rfl rfl rfl rfl (V_assign rfl rfl) ?_
 refine G_val rfl rfl rfl rfl (V_assign rfl rfl) ?_
 refine G_done ?_
 refine G_ret (post := []) Tryz.func107 rfl (RVs_cons (RV_tmp rfl) (RVs_cons (RV_tmp rfl) RVs_nil)) [] rfl ?_
 dsimp only [packed]
 first
   | (obtain ⟨e1, e2⟩ := sizeF_short (p := p) (by omega); rw [e1, e2]; exact ⟨rfl, rfl⟩)
   | (obtain ⟨e1, e2⟩ := sizeF_long (p := p) (by omega) (by omega); rw [e1, e2]; exact ⟨rfl, rfl⟩)
   | (obtain ⟨e1, e2⟩ := sizeF_ok (p := p) (by omega) (by omega); rw [e1, e2]; exact ⟨rfl, rfl⟩)


theorem num_two (p : List UInt8) (h : p.length = 48) : num (p.take 2) = 256 * (p.getD 0 0).toNat + (p.getD 1 0).toNat := by
  match p, h with
  | a :: b :: r, _ => simp [num]; omega

set_option maxRecDepth 100000 in
set_option maxHeartbeats 1000000 in
theorem fr_encode (s : List UInt8) (h : s.length ≤ 9223372036854775000) :
    Ct Tryz.prog 62 [.string (bs s)] [] [] fun v post => ∃ u : Sl, Own 1 u ((encF s).map strC) (encF s).length ∧ v = .tuple #[u.v (encF s).length, .int .i64 (encFE s)] ∧ post = [(u.ob, .cells u.cs 9 u.fz)] := by
 have hc := crcN_lt (be 2 s.length ++ s)
 have l2 := be_length 2 s.length
 have l4 := be_length 4 (crcN (be 2 s.length ++ s))
 have hm := manyN_room s.length
 have hpl := padF_len s
 refine ct_of Tryz.func62 rfl rfl (fun w0 => ?_)
 show G _ _ [(0, _)] _ _
 refine G_seq ?_
 refine G_region (l := [0, 1]) rfl ?_
 refine G_val rfl rfl rfl rfl (V_assign rfl rfl) ?_
 refine G_val rfl rfl rfl rfl (V_assign rfl rfl) ?_
 refine G_done ?_
 refine G_seq ?_
 refine G_seq ?_
 refine G_addNone (.cells #[] 9 (0, 0)) ?_
 refine G_region (l := [0, 1, 2]) rfl ?_
 refine G_val rfl rfl rfl rfl (V_move rfl rfl) ?_
 refine G_val rfl rfl rfl rfl (V_slen rfl rfl Tryz.underlying9 rfl) ?_
 refine G_val rfl rfl rfl rfl (V_gtr rfl rfl rfl) ?_
 refine G_done ?_
 refine G_ifD rfl (fun hc1 => ?_) (fun hc1 => ?_)
 ·
  refine G_seq ?_
  refine G_region (l := [0, 1]) rfl ?_
  refine G_val rfl rfl rfl rfl (V_assign rfl rfl) ?_
  refine G_val rfl rfl rfl rfl (V_assign rfl rfl) ?_
  refine G_done ?_
  refine G_ret (post := [_]) Tryz.func62 rfl (RVs_cons (RV_tmp rfl) (RVs_cons (RV_tmp rfl) RVs_nil)) [0] rfl ?_
  dsimp only [packed]
  first
    | (obtain ⟨e1, e2⟩ := encF_no (s := s) (by omega); rw [e1, e2]; exact ⟨slNil, own_nil 1, rfl, rfl⟩)
    | (obtain ⟨e1, e2⟩ := encF_yes (s := s) (by omega); obtain rfl : i = manyN s.length := (by omega); rw [e1, e2, piecesF_len]; exact ⟨u, hux, rfl, rfl⟩)
 refine G_skip ?_
 refine G_seq ?_
 refine G_region (l := [0, 1, 2, 3, 4, 5, 6, 7, 8]) rfl ?_
 refine G_val rfl rfl rfl rfl (V_move rfl rfl) ?_
 refine G_val rfl rfl rfl rfl (V_slen rfl rfl Tryz.underlying9 rfl) ?_
 refine G_val rfl rfl rfl rfl ((V_conv rfl rfl Tryz.underlying3 Tryz.underlying124).int (wrap_u64 (by omega))) ?_
 refine G_call (L2 := [_]) rfl rfl rfl rfl rfl rfl Tryz.call83 (ct_fixedN s.length 2 (by omega) (by omega) (fit2 (by omega)) (by omega)) [] [] rfl rfl ?_
 rintro v post ⟨rfl, rfl⟩
 show G _ _ _ [_] _
 refine G_val rfl rfl rfl rfl (V_move rfl rfl) ?_
 refine G_val rfl rfl rfl rfl (V_extract rfl rfl rfl) ?_
 refine G_val rfl rfl rfl rfl (V_extract rfl rfl rfl) ?_
 refine G_val rfl rfl rfl rfl (V_assign rfl rfl) ?_
 refine G_val rfl rfl rfl rfl (V_assign rfl rfl) ?_
 refine G_done ?_
 refine G_seq ?_
 refine G_region (l := [0, 1, 2, 3, 4, 5, 6, 7, 8, 9, 10]) rfl ?_
 refine G_val rfl rfl rfl rfl (V_move rfl rfl) ?_
 refine G_val rfl rfl rfl rfl (V_move rfl rfl) ?_
 refine G_new rfl rfl rfl rfl (N_buildAll (s := 1) (cs := [_, _]) rfl Tryz.underlying34 infFrameW_9 rfl rfl rfl rfl rfl rfl rfl rfl rfl) (fun b24 => ?_)
 refine G_call (L2 := [_, _]) rfl rfl rfl rfl rfl rfl Tryz.call80 (sum_of (some b24) 0 2 _ _ _ [be 2 s.length, s] (sees_strs b24 2 [be 2 s.length, s] rfl (by omega)) (by intro x hx; simp only [List.mem_cons, List.not_mem_nil, or_false] at hx; rcases hx with rfl | rfl <;> omega)) [] [0] rfl rfl ?_
 rintro v post ⟨rfl, rfl⟩
 show G _ _ _ [_, _] _
 rw [crcW_two]
 refine G_val rfl rfl rfl rfl ((V_conv rfl rfl Tryz.underlying50 Tryz.underlying124).int (wrap_u64 (by omega))) ?_
 refine G_call (L2 := [_, _]) rfl rfl rfl rfl rfl rfl Tryz.call83 (ct_fixedN (crcN (be 2 s.length ++ s)) 4 (by omega) (by omega) (fit4 (by omega)) (by omega)) [] [] rfl rfl ?_
 rintro v post ⟨rfl, rfl⟩
 show G _ _ _ [_, _] _
 refine G_val rfl rfl rfl rfl (V_move rfl rfl) ?_
 refine G_val rfl rfl rfl rfl (V_extract rfl rfl rfl) ?_
 refine G_val rfl rfl rfl rfl (V_extract rfl rfl rfl) ?_
 refine G_val rfl rfl rfl rfl (V_assign rfl rfl) ?_
 refine G_val rfl rfl rfl rfl (V_assign rfl rfl) ?_
 refine G_done ?_
 refine G_seq ?_
 refine G_region (l := [0, 1, 2, 3, 4, 5]) rfl ?_
 refine G_val rfl rfl rfl rfl (V_move rfl rfl) ?_
 refine G_val rfl rfl rfl rfl (V_slen rfl rfl Tryz.underlying9 rfl) ?_
 refine G_call (L2 := [_, _]) rfl rfl rfl rfl rfl rfl Tryz.call61 (fr_many _ (by omega)) [] [] rfl rfl ?_
 rintro v post ⟨rfl, rfl⟩
 show G _ _ _ [_, _] _
 refine G_val rfl rfl rfl rfl (Val.int (e' := ((manyN s.length * 48 : Nat) : Int)) (V_mul rfl rfl rfl) (mulM _ (by omega))) ?_
 refine G_new rfl rfl rfl rfl (N_make (l := _) (m := _) rfl Tryz.underlying96 infFrameW_5 rfl rfl rfl rfl rfl rfl rfl (by first | decide | omega) (by first | decide | omega | (show 1 * _ ≤ _; omega)) (by first | decide | omega)) (fun b34 => ?_)
 refine G_val rfl rfl rfl rfl (V_assign rfl rfl) ?_
 refine G_done ?_
 refine G_seq ?_
 refine G_region (l := [0, 1, 2, 3, 4, 5, 6]) rfl ?_
 refine G_val rfl rfl rfl rfl (V_move rfl rfl) ?_
 refine G_val rfl rfl rfl rfl (V_move rfl rfl) ?_
 refine G_val rfl rfl rfl rfl (V_move rfl rfl) ?_
 refine G_val rfl rfl rfl rfl (V_sadd rfl rfl rfl (by first | omega | (simp; done) | (simp; omega) | (simp at *; omega))) ?_
 refine G_val rfl rfl rfl rfl (V_move rfl rfl) ?_
 refine G_val rfl rfl rfl rfl (V_sadd rfl rfl rfl (by first | omega | (simp; done) | (simp; omega) | (simp at *; omega))) ?_
 refine G_putV (l1 := []) (L' := [_, _, _]) rfl rfl rfl rfl rfl (P_copyS rfl rfl Tryz.underlying96 infFrameW_5 rfl rfl rfl (mem_at 0 rfl) (by first | omega | (simp; done) | (simp; omega) | (simp at *; omega))) rfl ?_
 rw [show be 2 s.length ++ be 4 (crcN (be 2 s.length ++ s)) ++ s = bytesF s from rfl, laid_pad]
 refine G_done ?_
 refine G_seq ?_
 refine G_region (l := [0]) rfl ?_
 refine G_val rfl rfl rfl rfl (V_assign rfl rfl) ?_
 refine G_done ?_
 refine G_seq ?_
 refine G_seq ?_
 refine G_region (l := [0]) rfl ?_
 refine G_val rfl rfl rfl rfl (V_assign rfl rfl) ?_
 refine G_done ?_
 refine G_block ?_
 refine G_sub ?he9 [2, 0] ?hl9 (G_loop (X := Nat × Sl) (fun x => match x with | ⟨i, u⟩ => i ≤ manyN s.length ∧ Own 1 u ((chunks i (padF s)).map strC) i) (fun x => match x with | ⟨i, u⟩ => manyN s.length - i) (fun x => match x with | ⟨i, u⟩ => [(8, .slice (some ⟨b34, 0, none⟩) (manyN s.length * 48) (manyN s.length * 48)), (9, u.v i), (10, .int .i64 ((48 * i : Nat) : Int))]) (fun x => match x with | ⟨i, u⟩ => [(u.ob, .cells u.cs 9 u.fz), (some b34, .cells (bcells (padF s)).toArray 5 (0, 0))]) ?round9 (0, slNil) ?h09)
 case he9 => exact (And.intro rfl (And.intro rfl (And.intro rfl trivial)))
 case hl9 => exact ⟨_, rfl⟩
 case h09 => exact ⟨Nat.zero_le _, own_nil 1⟩
 case round9 =>
  intro x hJ ih
  try dsimp only at hJ ih
  obtain ⟨i, u⟩ := x
  try dsimp only at hJ ih
  obtain ⟨hi, hux⟩ := hJ
  show G _ _ [(8, .slice (some ⟨b34, 0, none⟩) (manyN s.length * 48) (manyN s.length * 48)), (9, u.v i), (10, .int .i64 ((48 * i : Nat) : Int))] [(u.ob, .cells u.cs 9 u.fz), (some b34, .cells (bcells (padF s)).toArray 5 (0, 0))] _
  refine G_seq ?_
  refine G_seq ?_
  refine G_region (l := [0, 1, 2, 3]) rfl ?_
  refine G_val rfl rfl rfl rfl (V_move rfl rfl) ?_
  refine G_val rfl rfl rfl rfl (V_move rfl rfl) ?_
  refine G_val rfl rfl rfl rfl (V_len rfl rfl Tryz.underlying96 rfl) ?_
  refine G_val rfl rfl rfl rfl (V_lss rfl rfl rfl) ?_
  refine G_done ?_
  refine G_ifD rfl (fun hc2 => ?_) (fun hc2 => ?_)
  ·
   refine G_skip ?_
   refine G_seq ?_
   refine G_block ?_
   have hi2 : i < manyN s.length := by omega
   refine G_region (l := [0, 1, 2, 3, 4, 5, 6, 7, 8, 9, 10, 11]) rfl ?_
   refine G_val rfl rfl rfl rfl (V_move rfl rfl) ?_
   refine G_val rfl rfl rfl rfl (V_move rfl rfl) ?_
   refine G_val rfl rfl rfl rfl (V_move rfl rfl) ?_
   refine G_val rfl rfl rfl rfl (V_move rfl rfl) ?_
   refine G_val rfl rfl rfl rfl (Val.int (e' := ((48 * i + 48 : Nat) : Int)) (V_add rfl rfl rfl) (add48 _ (by omega))) ?_
   refine G_val rfl rfl rfl rfl (V_move rfl rfl) ?_
   refine G_val rfl rfl rfl rfl (Val.int (e' := ((48 * i + 48 : Nat) : Int)) (V_add rfl rfl rfl) (add48 _ (by omega))) ?_
   refine G_val rfl rfl rfl rfl (V_sliceLHM (lo := _) (hi := _) (mx := _) rfl Tryz.underlying96 infFrameW_5 rfl rfl rfl rfl rfl rfl rfl rfl (by first | omega | (simp; done) | (simp; omega) | (simp at *; omega)) (by first | omega | (simp; done) | (simp; omega) | (simp at *; omega)) (by first | omega | (simp; done) | (simp; omega) | (simp at *; omega))) ?_
   refine G_val rfl rfl rfl rfl (V_bytesS (l := ((padF s).drop (48 * i)).take 48) rfl rfl Tryz.underlying96 Tryz.underlying5 Tryz.underlying9 (mem_at 1 rfl) (piece_len s hi2) (piece_cells s hi2)) ?_
   refine G_new rfl rfl rfl rfl (N_buildAll (s := 1) (cs := [_]) rfl Tryz.underlying34 infFrameW_9 rfl rfl rfl rfl rfl rfl rfl rfl rfl) (fun b57 => ?_)
   refine G_append (l1 := [_]) (s := u) (nn := i) (m := 1) (news := [strC (((padF s).drop (48 * i)).take 48)]) (bt := 16) rfl rfl rfl rfl Tryz.underlying34 Tryz.underlying34 (by first | exact .inl rfl | exact .inr ⟨_, rfl⟩) infFrameW_9 rfl rfl rfl rfl rfl rfl hux rfl (src_mem (mem_at 0 rfl) rfl rfl (by simp [strC, Value.oneCell'])) (by omega) (by omega) ?_
   intro u1 hu1 _
   show G _ _ _ [_, _, _] _
   refine G_val rfl rfl rfl rfl (V_assign rfl rfl) ?_
   refine G_done ?_
   refine G_inBlock ?_
   refine G_region (l := [0, 1, 2]) rfl ?_
   refine G_val rfl rfl rfl rfl (V_move rfl rfl) ?_
   refine G_val rfl rfl rfl rfl ((V_add rfl rfl rfl).int (wrap_i64 (by omega))) ?_
   refine G_val rfl rfl rfl rfl (V_assign rfl rfl) ?_
   refine G_done ?_
   refine G_sub ?_ [1, 1] ?_ (ih (i + 1, u1) ?_ ?_)
   · (refine (And.intro ?_ (And.intro ?_ (And.intro ?_ trivial))) <;> first | rfl | exact slot_int (by omega) | exact slot_int (by simp))
   · exact ⟨_, rfl⟩
   · exact ⟨by omega, by rw [chunks_next, List.map_append]; exact hu1⟩
   · (first | omega | (dsimp only; omega))
  refine G_exit rfl ?_
  refine G_seq ?_
  refine G_region (l := [0, 1, 2]) rfl ?_
  refine G_val rfl rfl rfl rfl (V_move rfl rfl) ?_
  refine G_val rfl rfl rfl rfl (V_assign rfl rfl) ?_
  refine G_val rfl rfl rfl rfl (V_assign rfl rfl) ?_
  refine G_done ?_
  refine G_ret (post := [_]) Tryz.func62 rfl (RVs_cons (RV_tmp rfl) (RVs_cons (RV_tmp rfl) RVs_nil)) [0] rfl ?_
  dsimp only [packed]
  first
    | (obtain ⟨e1, e2⟩ := encF_no (s := s) (by omega); rw [e1, e2]; exact ⟨slNil, own_nil 1, rfl, rfl⟩)
    | (obtain ⟨e1, e2⟩ := encF_yes (s := s) (by omega); obtain rfl : i = manyN s.length := (by omega); rw [e1, e2, piecesF_len]; exact ⟨u, hux, rfl, rfl⟩)

end
end Go.Proofs.YtbblkgdejgoncaaGreatDoor
