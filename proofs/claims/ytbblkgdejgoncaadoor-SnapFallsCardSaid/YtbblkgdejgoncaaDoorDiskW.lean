/- The walks of layer 22: disks. -/
import Derived.Test.YtbblkgdejgoncaaDoorDiskQ
import Derived.Test.YtbblkgdejgoncaaDoorRep
set_option linter.unusedSimpArgs false
set_option linter.unusedVariables false
namespace Go.Proofs.YtbblkgdejgoncaaDoor
open Go Go.RowKit

section
theorem infDiskW_3 : Tryd.prog.info? 3 = some Tryd.t3 := by kernel_rfl
theorem infDiskW_4 : Tryd.prog.info? 4 = some Tryd.t4 := by kernel_rfl
theorem infDiskW_9 : Tryd.prog.info? 9 = some Tryd.t9 := by kernel_rfl
theorem infDiskW_24 : Tryd.prog.info? 24 = some Tryd.t24 := by kernel_rfl
theorem infDiskW_108 : Tryd.prog.info? 108 = some Tryd.t108 := by kernel_rfl
theorem infDiskW_116 : Tryd.prog.info? 116 = some Tryd.t116 := by kernel_rfl

set_option maxRecDepth 100000 in
set_option maxHeartbeats 1000000 in
theorem dk_spent (d : Nat) (s1 s2 : Value) (f : Int) (dd : Bool) (hf : -1 ≤ f ∧ f ≤ 9223372036854775807) :
    Ct Tryd.prog 65 [.pointer (some ⟨d, 0, none⟩)] [] [(some d, .cells #[s1, s2, .int .i64 f, .bool dd] 110 (0, 0))] fun v post => v = .bool (spD f dd) ∧ post = [(some d, .cells #[s1, s2, .int .i64 (spF f dd), .bool (spD f dd)] 110 (0, 0))] := by
 obtain ⟨hf0, hf1⟩ := hf
 refine ct_of Tryd.func65 rfl rfl (fun w0 => ?_)
 show G _ _ [(0, _)] _ _
 refine G_seq ?_
 refine G_region (l := [0]) rfl ?_
 refine G_val rfl rfl rfl rfl (V_assign rfl rfl) ?_
 refine G_done ?_
 refine G_seq ?_
 refine G_block ?_
 refine G_seq ?_
 cases dd
 · skip
   refine G_region (l := [0, 1, 2, 3, 4]) rfl ?_
   refine G_val rfl rfl rfl rfl (V_move rfl rfl) ?_
   first
     | refine G_val rfl rfl rfl rfl (V_nilCheck rfl rfl) ?_
     | refine G_val rfl rfl rfl rfl (V_nilCheckF rfl rfl) ?_
   refine G_val rfl rfl rfl rfl (V_fieldAddr (fo := 3) rfl Tryd.underlying110 rfl infDiskW_4 rfl rfl rfl) ?_
   refine G_val rfl rfl rfl rfl (V_load1 rfl rfl (mem_at 0 rfl) rfl Tryd.underlying4 rfl) ?_
   refine G_val rfl rfl rfl rfl (V_assign rfl rfl) ?_
   refine G_done ?_
   refine G_if rfl (fun hc1 => ?_) (fun hc1 => ?_)
   · (first | (exact absurd rfl hc1) | (exact absurd hc1 (by decide)) | (exfalso; omega))
   refine G_seq ?_
   refine G_region (l := [0, 1, 2, 3, 4, 5]) rfl ?_
   refine G_val rfl rfl rfl rfl (V_move rfl rfl) ?_
   first
     | refine G_val rfl rfl rfl rfl (V_nilCheck rfl rfl) ?_
     | refine G_val rfl rfl rfl rfl (V_nilCheckF rfl rfl) ?_
   refine G_val rfl rfl rfl rfl (V_fieldAddr (fo := 2) rfl Tryd.underlying110 rfl infDiskW_3 rfl rfl rfl) ?_
   refine G_val rfl rfl rfl rfl (V_load1 rfl rfl (mem_at 0 rfl) rfl Tryd.underlying3 rfl) ?_
   refine G_val rfl rfl rfl rfl (V_eql rfl rfl rfl) ?_
   refine G_val rfl rfl rfl rfl (V_assign rfl rfl) ?_
   refine G_done ?_
   refine G_ifD rfl (fun hc2 => ?_) (fun hc2 => ?_)
   · skip
     refine G_region (l := [0, 1, 2, 3]) rfl ?_
     refine G_val rfl rfl rfl rfl (V_move rfl rfl) ?_
     first
       | refine G_val rfl rfl rfl rfl (V_nilCheck rfl rfl) ?_
       | refine G_val rfl rfl rfl rfl (V_nilCheckF rfl rfl) ?_
     refine G_val rfl rfl rfl rfl (V_fieldAddr (fo := 3) rfl Tryd.underlying110 rfl infDiskW_4 rfl rfl rfl) ?_
     refine G_put (l1 := []) (L' := [_]) rfl rfl rfl rfl (P_store1 rfl rfl rfl (mem_at 0 rfl) (by first | exact of_decide_eq_true rfl | omega | (simp [wCells, kCells]; done) | (simp [wCells, kCells]; omega) | (simp [wCells, kCells] at *; omega)) infDiskW_4 rfl rfl) rfl ?_
     refine G_done ?_
     refine G_inBlock ?_
     refine G_seq ?_
     refine G_region (l := [0, 1, 2, 3, 4]) rfl ?_
     refine G_val rfl rfl rfl rfl (V_move rfl rfl) ?_
     first
       | refine G_val rfl rfl rfl rfl (V_nilCheck rfl rfl) ?_
       | refine G_val rfl rfl rfl rfl (V_nilCheckF rfl rfl) ?_
     refine G_val rfl rfl rfl rfl (V_fieldAddr (fo := 3) rfl Tryd.underlying110 rfl infDiskW_4 rfl rfl rfl) ?_
     refine G_val rfl rfl rfl rfl (V_load1 rfl rfl (mem_at 0 rfl) rfl Tryd.underlying4 rfl) ?_
     refine G_val rfl rfl rfl rfl (V_assign rfl rfl) ?_
     refine G_done ?_
     refine G_ret (post := [_]) Tryd.func65 rfl (RVs_cons (RV_tmp rfl) RVs_nil) [0] rfl ?_
     dsimp only [packed]
     first
       | (rw [show spD f true = true from rfl, show spF f true = f from rfl]; exact ⟨rfl, rfl⟩)
       | (rw [show spD f false = true by simp [spD, *], show spF f false = f by simp [spF, *]]; exact ⟨rfl, rfl⟩)
       | (rw [show spD f false = false by simp [spD]; omega, show spF f false = f - 1 by simp [spF]; omega]; exact ⟨rfl, rfl⟩)
       | (rw [show spD f false = false by simp [spD]; omega, show spF f false = f by simp [spF]; omega]; exact ⟨rfl, rfl⟩)
   refine G_seq ?_
   refine G_region (l := [0, 1, 2, 3, 4, 5]) rfl ?_
   refine G_val rfl rfl rfl rfl (V_move rfl rfl) ?_
   first
     | refine G_val rfl rfl rfl rfl (V_nilCheck rfl rfl) ?_
     | refine G_val rfl rfl rfl rfl (V_nilCheckF rfl rfl) ?_
   refine G_val rfl rfl rfl rfl (V_fieldAddr (fo := 2) rfl Tryd.underlying110 rfl infDiskW_3 rfl rfl rfl) ?_
   refine G_val rfl rfl rfl rfl (V_load1 rfl rfl (mem_at 0 rfl) rfl Tryd.underlying3 rfl) ?_
   refine G_val rfl rfl rfl rfl (V_gtr rfl rfl rfl) ?_
   refine G_val rfl rfl rfl rfl (V_assign rfl rfl) ?_
   refine G_done ?_
   refine G_ifD rfl (fun hc3 => ?_) (fun hc3 => ?_)
   · skip
     refine G_region (l := [0, 1, 2, 3, 4, 5, 6, 7]) rfl ?_
     refine G_val rfl rfl rfl rfl (V_move rfl rfl) ?_
     first
       | refine G_val rfl rfl rfl rfl (V_nilCheck rfl rfl) ?_
       | refine G_val rfl rfl rfl rfl (V_nilCheckF rfl rfl) ?_
     refine G_val rfl rfl rfl rfl (V_fieldAddr (fo := 2) rfl Tryd.underlying110 rfl infDiskW_3 rfl rfl rfl) ?_
     refine G_val rfl rfl rfl rfl (V_load1 rfl rfl (mem_at 0 rfl) rfl Tryd.underlying3 rfl) ?_
     first
       | refine G_val rfl rfl rfl rfl ((V_sub rfl rfl rfl).int (wrap_i64 (by omega))) ?_
       | refine G_val rfl rfl rfl rfl (V_sub rfl rfl rfl) ?_
     first
       | refine G_val rfl rfl rfl rfl (V_nilCheck rfl rfl) ?_
       | refine G_val rfl rfl rfl rfl (V_nilCheckF rfl rfl) ?_
     refine G_val rfl rfl rfl rfl (V_fieldAddr (fo := 2) rfl Tryd.underlying110 rfl infDiskW_3 rfl rfl rfl) ?_
     refine G_put (l1 := []) (L' := [_]) rfl rfl rfl rfl (P_store1 rfl rfl rfl (mem_at 0 rfl) (by first | exact of_decide_eq_true rfl | omega | (simp [wCells, kCells]; done) | (simp [wCells, kCells]; omega) | (simp [wCells, kCells] at *; omega)) infDiskW_3 rfl rfl) rfl ?_
     refine G_done ?_
     refine G_inBlock ?_
     refine G_seq ?_
     refine G_region (l := [0, 1, 2, 3, 4]) rfl ?_
     refine G_val rfl rfl rfl rfl (V_move rfl rfl) ?_
     first
       | refine G_val rfl rfl rfl rfl (V_nilCheck rfl rfl) ?_
       | refine G_val rfl rfl rfl rfl (V_nilCheckF rfl rfl) ?_
     refine G_val rfl rfl rfl rfl (V_fieldAddr (fo := 3) rfl Tryd.underlying110 rfl infDiskW_4 rfl rfl rfl) ?_
     refine G_val rfl rfl rfl rfl (V_load1 rfl rfl (mem_at 0 rfl) rfl Tryd.underlying4 rfl) ?_
     refine G_val rfl rfl rfl rfl (V_assign rfl rfl) ?_
     refine G_done ?_
     refine G_ret (post := [_]) Tryd.func65 rfl (RVs_cons (RV_tmp rfl) RVs_nil) [0] rfl ?_
     dsimp only [packed]
     first
       | (rw [show spD f true = true from rfl, show spF f true = f from rfl]; exact ⟨rfl, rfl⟩)
       | (rw [show spD f false = true by simp [spD, *], show spF f false = f by simp [spF, *]]; exact ⟨rfl, rfl⟩)
       | (rw [show spD f false = false by simp [spD]; omega, show spF f false = f - 1 by simp [spF]; omega]; exact ⟨rfl, rfl⟩)
       | (rw [show spD f false = false by simp [spD]; omega, show spF f false = f by simp [spF]; omega]; exact ⟨rfl, rfl⟩)
   refine G_skip ?_
   refine G_inBlock ?_
   refine G_seq ?_
   refine G_region (l := [0, 1, 2, 3, 4]) rfl ?_
   refine G_val rfl rfl rfl rfl (V_move rfl rfl) ?_
   first
     | refine G_val rfl rfl rfl rfl (V_nilCheck rfl rfl) ?_
     | refine G_val rfl rfl rfl rfl (V_nilCheckF rfl rfl) ?_
   refine G_val rfl rfl rfl rfl (V_fieldAddr (fo := 3) rfl Tryd.underlying110 rfl infDiskW_4 rfl rfl rfl) ?_
   refine G_val rfl rfl rfl rfl (V_load1 rfl rfl (mem_at 0 rfl) rfl Tryd.underlying4 rfl) ?_
   refine G_val rfl rfl rfl rfl (V_assign rfl rfl) ?_
   refine G_done ?_
   refine G_ret (post := [_]) Tryd.func65 rfl (RVs_cons (RV_tmp rfl) RVs_nil) [0] rfl ?_
   dsimp only [packed]
   first
     | (rw [show spD f true = true from rfl, show spF f true = f from rfl]; exact ⟨rfl, rfl⟩)
     | (rw [show spD f false = true by simp [spD, *], show spF f false = f by simp [spF, *]]; exact ⟨rfl, rfl⟩)
     | (rw [show spD f false = false by simp [spD]; omega, show spF f false = f - 1 by simp [spF]; omega]; exact ⟨rfl, rfl⟩)
     | (rw [show spD f false = false by simp [spD]; omega, show spF f false = f by simp [spF]; omega]; exact ⟨rfl, rfl⟩)
 · skip
   refine G_region (l := [0, 1, 2, 3, 4]) rfl ?_
   refine G_val rfl rfl rfl rfl (V_move rfl rfl) ?_
   first
     | refine G_val rfl rfl rfl rfl (V_nilCheck rfl rfl) ?_
     | refine G_val rfl rfl rfl rfl (V_nilCheckF rfl rfl) ?_
   refine G_val rfl rfl rfl rfl (V_fieldAddr (fo := 3) rfl Tryd.underlying110 rfl infDiskW_4 rfl rfl rfl) ?_
   refine G_val rfl rfl rfl rfl (V_load1 rfl rfl (mem_at 0 rfl) rfl Tryd.underlying4 rfl) ?_
   refine G_val rfl rfl rfl rfl (V_assign rfl rfl) ?_
   refine G_done ?_
   refine G_if rfl (fun hc1 => ?_) (fun hc1 => ?_)
   rotate_left
   · (first | (exact absurd rfl hc1) | (exact absurd hc1 (by decide)) | (exfalso; omega))
   refine G_skip ?_
   refine G_inBlock ?_
   refine G_seq ?_
   refine G_region (l := [0, 1, 2, 3, 4]) rfl ?_
   refine G_val rfl rfl rfl rfl (V_move rfl rfl) ?_
   first
     | refine G_val rfl rfl rfl rfl (V_nilCheck rfl rfl) ?_
     | refine G_val rfl rfl rfl rfl (V_nilCheckF rfl rfl) ?_
   refine G_val rfl rfl rfl rfl (V_fieldAddr (fo := 3) rfl Tryd.underlying110 rfl infDiskW_4 rfl rfl rfl) ?_
   refine G_val rfl rfl rfl rfl (V_load1 rfl rfl (mem_at 0 rfl) rfl Tryd.underlying4 rfl) ?_
   refine G_val rfl rfl rfl rfl (V_assign rfl rfl) ?_
   refine G_done ?_
   refine G_ret (post := [_]) Tryd.func65 rfl (RVs_cons (RV_tmp rfl) RVs_nil) [0] rfl ?_
   dsimp only [packed]
   first
     | (rw [show spD f true = true from rfl, show spF f true = f from rfl]; exact ⟨rfl, rfl⟩)
     | (rw [show spD f false = true by simp [spD, *], show spF f false = f by simp [spF, *]]; exact ⟨rfl, rfl⟩)
     | (rw [show spD f false = false by simp [spD]; omega, show spF f false = f - 1 by simp [spF]; omega]; exact ⟨rfl, rfl⟩)
     | (rw [show spD f false = false by simp [spD]; omega, show spF f false = f by simp [spF]; omega]; exact ⟨rfl, rfl⟩)

set_option maxRecDepth 100000 in
set_option maxHeartbeats 1000000 in
theorem dk_has (d n lb lcap : Nat) (lcs : Array Value) (uw : Sl) (k : Dk) (h : DkAt k n lb lcs lcap uw) (a : Int) :
    Ct Tryd.prog 63 [.pointer (some ⟨d, 0, none⟩), .int .i64 a] [(some d, .cells #[.slice (some ⟨lb, 0, none⟩) n lcap, uw.v k.W.length, .int .i64 k.fuse, .bool k.dead] 110 (0, 0))] [] fun v post => v = .int .i64 (hasE k.L.length a) ∧ post = [] := by
 have hb := h.bd
 have hb1 := hb.n1
 have hb2 := hb.n4
 have hb3 := hb.ncs
 have hb4 := hb.ncap
 have hb5 := hb.cap
 have hb6 := hb.w
 have hb7 := hb.wc
 have hln := h.len
 refine ct_of Tryd.func63 rfl rfl (fun w0 => ?_)
 show G _ _ [(0, _), (1, _)] _ _
 refine G_seq ?_
 refine G_region (l := [0]) rfl ?_
 refine G_val rfl rfl rfl rfl (V_assign rfl rfl) ?_
 refine G_done ?_
 refine G_seq ?_
 refine G_block ?_
 refine G_seq ?_
 refine G_region (l := [0, 1, 2]) rfl ?_
 refine G_val rfl rfl rfl rfl (V_move rfl rfl) ?_
 refine G_val rfl rfl rfl rfl (V_peqlN rfl Tryd.underlying35 rfl rfl) ?_
 refine G_val rfl rfl rfl rfl (V_assign rfl rfl) ?_
 refine G_done ?_
 refine G_else rfl ?_
 refine G_seq ?_
 refine G_region (l := [0, 1, 2, 3, 4, 5, 6, 7, 8, 9, 10, 11]) rfl ?_
 refine G_val rfl rfl rfl rfl (V_move rfl rfl) ?_
 refine G_val rfl rfl rfl rfl (V_lss rfl rfl rfl) ?_
 refine G_val rfl rfl rfl rfl (V_move rfl rfl) ?_
 refine G_splitD 11 rfl (fun hc1 => ?_) (fun hc1 => ?_)
 · skip
   refine G_off rfl rfl rfl rfl ?_
   refine G_off rfl rfl rfl rfl ?_
   refine G_off rfl rfl rfl rfl ?_
   refine G_off rfl rfl rfl rfl ?_
   refine G_off rfl rfl rfl rfl ?_
   refine G_off rfl rfl rfl rfl ?_
   refine G_off rfl rfl rfl rfl ?_
   refine G_val rfl rfl rfl rfl (V_pickT rfl rfl rfl) ?_
   refine G_val rfl rfl rfl rfl (V_assign rfl rfl) ?_
   refine G_done ?_
   refine G_then rfl ?_
   refine G_seq ?_
   refine G_region (l := [0]) rfl ?_
   refine G_val rfl rfl rfl rfl (V_assign rfl rfl) ?_
   refine G_done ?_
   refine G_ret (post := []) Tryd.func63 rfl (RVs_cons (RV_tmp rfl) RVs_nil) [] rfl ?_
   dsimp only [packed]
   refine ⟨int_eq ?_, rfl⟩; unfold hasE; first | (rw [if_pos (by omega)]) | (rw [if_neg (by omega)])
 refine G_val rfl rfl rfl rfl (V_move rfl rfl) ?_
 refine G_val rfl rfl rfl rfl (V_move rfl rfl) ?_
 first
   | refine G_val rfl rfl rfl rfl (V_nilCheck rfl rfl) ?_
   | refine G_val rfl rfl rfl rfl (V_nilCheckF rfl rfl) ?_
 refine G_val rfl rfl rfl rfl (V_fieldAddr (fo := 0) rfl Tryd.underlying110 rfl infDiskW_24 rfl rfl rfl) ?_
 refine G_val rfl rfl rfl rfl (V_load1 rfl rfl (mem_at 0 rfl) rfl Tryd.underlying24 rfl) ?_
 refine G_val rfl rfl rfl rfl (V_len rfl rfl Tryd.underlying24 rfl) ?_
 refine G_val rfl rfl rfl rfl (V_geq rfl rfl rfl) ?_
 refine G_val rfl rfl rfl rfl (V_pickF rfl rfl rfl) ?_
 refine G_val rfl rfl rfl rfl (V_assign rfl rfl) ?_
 refine G_done ?_
 refine G_ifD rfl (fun hc2 => ?_) (fun hc2 => ?_)
 · skip
   refine G_seq ?_
   refine G_region (l := [0]) rfl ?_
   refine G_val rfl rfl rfl rfl (V_assign rfl rfl) ?_
   refine G_done ?_
   refine G_ret (post := []) Tryd.func63 rfl (RVs_cons (RV_tmp rfl) RVs_nil) [] rfl ?_
   dsimp only [packed]
   refine ⟨int_eq ?_, rfl⟩; unfold hasE; first | (rw [if_pos (by omega)]) | (rw [if_neg (by omega)])
 refine G_skip ?_
 refine G_inBlock ?_
 refine G_seq ?_
 refine G_region (l := [0]) rfl ?_
 refine G_val rfl rfl rfl rfl (V_assign rfl rfl) ?_
 refine G_done ?_
 refine G_ret (post := []) Tryd.func63 rfl (RVs_cons (RV_tmp rfl) RVs_nil) [] rfl ?_
 dsimp only [packed]
 refine ⟨int_eq ?_, rfl⟩; unfold hasE; first | (rw [if_pos (by omega)]) | (rw [if_neg (by omega)])

set_option maxRecDepth 100000 in
set_option maxHeartbeats 1000000 in
theorem dk_has_nil (a : Int) :
    Ct Tryd.prog 63 [.pointer none, .int .i64 a] [] [] fun v post => v = .int .i64 19 ∧ post = [] := by
 refine ct_of Tryd.func63 rfl rfl (fun w0 => ?_)
 show G _ _ [(0, _), (1, _)] _ _
 refine G_seq ?_
 refine G_region (l := [0]) rfl ?_
 refine G_val rfl rfl rfl rfl (V_assign rfl rfl) ?_
 refine G_done ?_
 refine G_seq ?_
 refine G_block ?_
 refine G_seq ?_
 refine G_region (l := [0, 1, 2]) rfl ?_
 refine G_val rfl rfl rfl rfl (V_move rfl rfl) ?_
 refine G_val rfl rfl rfl rfl (V_peqlN rfl Tryd.underlying35 rfl rfl) ?_
 refine G_val rfl rfl rfl rfl (V_assign rfl rfl) ?_
 refine G_done ?_
 refine G_then rfl ?_
 refine G_seq ?_
 refine G_region (l := [0]) rfl ?_
 refine G_val rfl rfl rfl rfl (V_assign rfl rfl) ?_
 refine G_done ?_
 refine G_ret (post := []) Tryd.func63 rfl (RVs_cons (RV_tmp rfl) RVs_nil) [] rfl ?_
 dsimp only [packed]
 exact ⟨rfl, rfl⟩

set_option maxRecDepth 100000 in
set_option maxHeartbeats 1000000 in
theorem dk_lies (d n lb lcap : Nat) (lcs : Array Value) (uw : Sl) (k : Dk) (h : DkAt k n lb lcs lcap uw) (a : Int) :
    Ct Tryd.prog 73 [.pointer (some ⟨d, 0, none⟩), .int .i64 a] [(some d, .cells #[.slice (some ⟨lb, 0, none⟩) n lcap, uw.v k.W.length, .int .i64 k.fuse, .bool k.dead] 110 (0, 0)), (some lb, .cells lcs 9 (0, 0))] [] fun v post => v = .tuple #[.string (bs (k.liesS a)), .int .i64 (hasE k.L.length a)] ∧ post = [] := by
 have hb := h.bd
 have hb1 := hb.n1
 have hb2 := hb.n4
 have hb3 := hb.ncs
 have hb4 := hb.ncap
 have hb5 := hb.cap
 have hb6 := hb.w
 have hb7 := hb.wc
 have hln := h.len
 refine ct_of Tryd.func73 rfl rfl (fun w0 => ?_)
 show G _ _ [(0, _), (1, _)] _ _
 refine G_seq ?_
 refine G_region (l := [0, 1]) rfl ?_
 refine G_val rfl rfl rfl rfl (V_assign rfl rfl) ?_
 refine G_val rfl rfl rfl rfl (V_assign rfl rfl) ?_
 refine G_done ?_
 refine G_seq ?_
 refine G_seq ?_
 refine G_region (l := [0, 1, 2, 3]) rfl ?_
 refine G_val rfl rfl rfl rfl (V_move rfl rfl) ?_
 refine G_val rfl rfl rfl rfl (V_move rfl rfl) ?_
 refine G_call (L2 := []) rfl rfl rfl rfl rfl rfl Tryd.call63 (dk_has _ _ _ _ _ _ _ h _) [] [0] rfl rfl ?_
 rintro v post ⟨rfl, rfl⟩
 refine G_val rfl rfl rfl rfl (V_assign rfl rfl) ?_
 refine G_done ?_
 refine G_seq ?_
 refine G_region (l := [0, 1]) rfl ?_
 refine G_val rfl rfl rfl rfl (V_move rfl rfl) ?_
 refine G_val rfl rfl rfl rfl (V_neq rfl rfl rfl) ?_
 refine G_done ?_
 refine G_ifD rfl (fun hc1 => ?_) (fun hc1 => ?_)
 · skip
   refine G_seq ?_
   refine G_region (l := [0, 1, 2]) rfl ?_
   refine G_val rfl rfl rfl rfl (V_move rfl rfl) ?_
   refine G_val rfl rfl rfl rfl (V_assign rfl rfl) ?_
   refine G_val rfl rfl rfl rfl (V_assign rfl rfl) ?_
   refine G_done ?_
   refine G_ret (post := []) Tryd.func73 rfl (RVs_cons (RV_tmp rfl) (RVs_cons (RV_tmp rfl) RVs_nil)) [] rfl ?_
   dsimp only [packed]
   first
     | (rw [lies_no (by assumption)]; exact ⟨rfl, rfl⟩)
     | (rw [lies_yes (Classical.not_not.1 hc1), Classical.not_not.1 hc1]; exact ⟨rfl, rfl⟩)
 refine G_skip ?_
 refine G_seq ?_
 have ha := hasE_ok.1 (Classical.not_not.1 hc1)
 refine G_region (l := [0, 1, 2, 3, 4, 5, 6, 7, 8]) rfl ?_
 refine G_val rfl rfl rfl rfl (V_move rfl rfl) ?_
 first
   | refine G_val rfl rfl rfl rfl (V_nilCheck rfl rfl) ?_
   | refine G_val rfl rfl rfl rfl (V_nilCheckF rfl rfl) ?_
 refine G_val rfl rfl rfl rfl (V_fieldAddr (fo := 0) rfl Tryd.underlying110 rfl infDiskW_24 rfl rfl rfl) ?_
 refine G_val rfl rfl rfl rfl (V_load1 rfl rfl (mem_at 0 rfl) rfl Tryd.underlying24 rfl) ?_
 refine G_val rfl rfl rfl rfl (V_move rfl rfl) ?_
 first
   | refine G_val rfl rfl rfl rfl (V_indexAddrN (s := 1) rfl Tryd.underlying24 infDiskW_9 rfl rfl rfl rfl (by omega)) ?_
   | refine G_val rfl rfl rfl rfl (V_indexAddr (s := 1) rfl Tryd.underlying24 infDiskW_9 rfl rfl rfl (by omega) (by first | omega | (simp [wCells, kCells]; done) | (simp [wCells, kCells]; omega) | (simp [wCells, kCells] at *; omega))) ?_
 refine G_val rfl rfl rfl rfl (V_load1 rfl rfl (mem_at 1 rfl) (nth_of (own_str h.l a.toNat (by omega))) Tryd.underlying9 rfl) ?_
 refine G_val rfl rfl rfl rfl (V_assign rfl rfl) ?_
 refine G_val rfl rfl rfl rfl (V_assign rfl rfl) ?_
 refine G_done ?_
 refine G_ret (post := []) Tryd.func73 rfl (RVs_cons (RV_tmp rfl) (RVs_cons (RV_tmp rfl) RVs_nil)) [] rfl ?_
 dsimp only [packed]
 first
   | (rw [lies_no (by assumption)]; exact ⟨rfl, rfl⟩)
   | (rw [lies_yes (Classical.not_not.1 hc1), Classical.not_not.1 hc1]; exact ⟨rfl, rfl⟩)

set_option maxRecDepth 100000 in
set_option maxHeartbeats 1000000 in
theorem dk_lies_nil (a : Int) :
    Ct Tryd.prog 73 [.pointer none, .int .i64 a] [] [] fun v post => v = .tuple #[.string (bs []), .int .i64 19] ∧ post = [] := by
 refine ct_of Tryd.func73 rfl rfl (fun w0 => ?_)
 show G _ _ [(0, _), (1, _)] _ _
 refine G_seq ?_
 refine G_region (l := [0, 1]) rfl ?_
 refine G_val rfl rfl rfl rfl (V_assign rfl rfl) ?_
 refine G_val rfl rfl rfl rfl (V_assign rfl rfl) ?_
 refine G_done ?_
 refine G_seq ?_
 refine G_seq ?_
 refine G_region (l := [0, 1, 2, 3]) rfl ?_
 refine G_val rfl rfl rfl rfl (V_move rfl rfl) ?_
 refine G_val rfl rfl rfl rfl (V_move rfl rfl) ?_
 refine G_call (L2 := []) rfl rfl rfl rfl rfl rfl Tryd.call63 (dk_has_nil a) [] [] rfl rfl ?_
 rintro v post ⟨rfl, rfl⟩
 refine G_val rfl rfl rfl rfl (V_assign rfl rfl) ?_
 refine G_done ?_
 refine G_seq ?_
 refine G_region (l := [0, 1]) rfl ?_
 refine G_val rfl rfl rfl rfl (V_move rfl rfl) ?_
 refine G_val rfl rfl rfl rfl (V_neq rfl rfl rfl) ?_
 refine G_done ?_
 refine G_ifD rfl (fun hc1 => ?_) (fun hc1 => ?_)
 rotate_left
 · (first | (exact absurd rfl hc1) | (exact absurd hc1 (by decide)) | (exfalso; omega))
 refine G_seq ?_
 refine G_region (l := [0, 1, 2]) rfl ?_
 refine G_val rfl rfl rfl rfl (V_move rfl rfl) ?_
 refine G_val rfl rfl rfl rfl (V_assign rfl rfl) ?_
 refine G_val rfl rfl rfl rfl (V_assign rfl rfl) ?_
 refine G_done ?_
 refine G_ret (post := []) Tryd.func73 rfl (RVs_cons (RV_tmp rfl) (RVs_cons (RV_tmp rfl) RVs_nil)) [] rfl ?_
 dsimp only [packed]
 exact ⟨rfl, rfl⟩

set_option maxRecDepth 100000 in
set_option maxHeartbeats 1000000 in
theorem dk_read (d n lb lcap : Nat) (lcs : Array Value) (uw : Sl) (k : Dk) (h : DkAt k n lb lcs lcap uw) (a : Int) :
    Ct Tryd.prog 29 [.pointer (some ⟨d, 0, none⟩), .int .i64 a] [(some d, .cells #[.slice (some ⟨lb, 0, none⟩) n lcap, uw.v k.W.length, .int .i64 k.fuse, .bool k.dead] 110 (0, 0)), (some lb, .cells lcs 9 (0, 0)), (uw.ob, .cells uw.cs 116 uw.fz)] [] fun v post => v = .tuple #[.string (bs (k.readS a)), .int .i64 (k.readE a)] ∧ post = [] := by
 have hb := h.bd
 have hb1 := hb.n1
 have hb2 := hb.n4
 have hb3 := hb.ncs
 have hb4 := hb.ncap
 have hb5 := hb.cap
 have hb6 := hb.w
 have hb7 := hb.wc
 have hln := h.len
 refine ct_of Tryd.func29 rfl rfl (fun w0 => ?_)
 show G _ _ [(0, _), (1, _)] _ _
 refine G_seq ?_
 refine G_region (l := [0, 1]) rfl ?_
 refine G_val rfl rfl rfl rfl (V_assign rfl rfl) ?_
 refine G_val rfl rfl rfl rfl (V_assign rfl rfl) ?_
 refine G_done ?_
 refine G_seq ?_
 refine G_region (l := [0, 1, 2, 3, 4, 5, 6, 7]) rfl ?_
 refine G_val rfl rfl rfl rfl (V_move rfl rfl) ?_
 refine G_val rfl rfl rfl rfl (V_move rfl rfl) ?_
 refine G_call (L2 := []) rfl rfl rfl rfl rfl rfl Tryd.call73 (dk_lies _ _ _ _ _ _ _ h _) [] [0, 1] rfl rfl ?_
 rintro v post ⟨rfl, rfl⟩
 refine G_val rfl rfl rfl rfl (V_move rfl rfl) ?_
 refine G_val rfl rfl rfl rfl (V_extract rfl rfl rfl) ?_
 refine G_val rfl rfl rfl rfl (V_extract rfl rfl rfl) ?_
 refine G_val rfl rfl rfl rfl (V_assign rfl rfl) ?_
 refine G_val rfl rfl rfl rfl (V_assign rfl rfl) ?_
 refine G_done ?_
 refine G_seq ?_
 refine G_block ?_
 refine G_seq ?_
 refine G_region (l := [0, 1, 2]) rfl ?_
 refine G_val rfl rfl rfl rfl (V_move rfl rfl) ?_
 refine G_val rfl rfl rfl rfl (V_neq rfl rfl rfl) ?_
 refine G_val rfl rfl rfl rfl (V_assign rfl rfl) ?_
 refine G_done ?_
 refine G_ifD rfl (fun hc1 => ?_) (fun hc1 => ?_)
 · skip
   refine G_seq ?_
   refine G_region (l := [0, 1, 2]) rfl ?_
   refine G_val rfl rfl rfl rfl (V_move rfl rfl) ?_
   refine G_val rfl rfl rfl rfl (V_assign rfl rfl) ?_
   refine G_val rfl rfl rfl rfl (V_assign rfl rfl) ?_
   refine G_done ?_
   refine G_ret (post := []) Tryd.func29 rfl (RVs_cons (RV_tmp rfl) (RVs_cons (RV_tmp rfl) RVs_nil)) [] rfl ?_
   dsimp only [packed]
   first
     | (obtain ⟨e1, e2⟩ := read_no (k := k) (a := a) (by assumption); rw [e1, e2]; exact ⟨rfl, rfl⟩)
     | (obtain ⟨e1, e2⟩ := read_dead ha hdd; rw [e1, e2]; exact ⟨rfl, rfl⟩)
     | (obtain ⟨e1, e2⟩ := read_yes ha (by rw [hdd]; exact Bool.false_ne_true); rw [e1, e2, show k.W.take i = k.W from List.take_of_length_le (by omega)]; exact ⟨rfl, rfl⟩)
 refine G_seq ?_
 have ha := Classical.not_not.1 hc1
 cases hdd : k.dead
 · skip
   have ha := Classical.not_not.1 hc1
   refine G_region (l := [0, 1, 2, 3, 4]) rfl ?_
   refine G_val rfl rfl rfl rfl (V_move rfl rfl) ?_
   first
     | refine G_val rfl rfl rfl rfl (V_nilCheck rfl rfl) ?_
     | refine G_val rfl rfl rfl rfl (V_nilCheckF rfl rfl) ?_
   refine G_val rfl rfl rfl rfl (V_fieldAddr (fo := 3) rfl Tryd.underlying110 rfl infDiskW_4 rfl rfl rfl) ?_
   refine G_val rfl rfl rfl rfl (V_load1 rfl rfl (mem_at 0 rfl) rfl Tryd.underlying4 rfl) ?_
   refine G_val rfl rfl rfl rfl (V_assign rfl rfl) ?_
   refine G_done ?_
   refine G_if rfl (fun hc2 => ?_) (fun hc2 => ?_)
   · (first | (exact absurd rfl hc2) | (exact absurd hc2 (by decide)) | (exfalso; omega))
   refine G_skip ?_
   refine G_inBlock ?_
   refine G_seq ?_
   refine G_seq ?_
   rw [lies_yes ha]
   refine G_region (l := [0, 1, 2, 3, 4, 5]) rfl ?_
   refine G_val rfl rfl rfl rfl (V_move rfl rfl) ?_
   first
     | refine G_val rfl rfl rfl rfl (V_nilCheck rfl rfl) ?_
     | refine G_val rfl rfl rfl rfl (V_nilCheckF rfl rfl) ?_
   refine G_val rfl rfl rfl rfl (V_fieldAddr (fo := 1) rfl Tryd.underlying110 rfl infDiskW_108 rfl rfl rfl) ?_
   refine G_val rfl rfl rfl rfl (V_load1 rfl rfl (mem_at 0 rfl) rfl Tryd.underlying108 rfl) ?_
   refine G_val rfl rfl rfl rfl (V_len rfl rfl Tryd.underlying108 rfl) ?_
   refine G_val rfl rfl rfl rfl (V_move rfl rfl) ?_
   refine G_done ?_
   refine G_block ?_
   refine G_sub ?he7 [] ?hl7 (G_loop (X := Nat) (fun i => i ≤ k.W.length) (fun i => k.W.length - i) (fun i => [(0, .pointer (some ⟨d, 0, none⟩)), (1, .int .i64 a), (6, .string (bs (lastW (k.L.getD a.toNat []) a (k.W.take i)))), (28, uw.v k.W.length), (29, .int .i64 (k.W.length : Int)), (30, .int .i64 (i : Int))]) (fun i => []) ?round7 0 ?h07)
   case he7 => exact (And.intro rfl (And.intro rfl (And.intro rfl (And.intro rfl (And.intro rfl (And.intro rfl trivial))))))
   case hl7 => exact ⟨_, rfl⟩
   case h07 => exact Nat.zero_le _
   case round7 =>
    intro i hJ ih
    try dsimp only at hJ ih
    refine G_seq ?_
    refine G_region (l := [0]) rfl ?_
    refine G_val rfl rfl rfl rfl (V_lss rfl rfl rfl) ?_
    refine G_done ?_
    refine G_seq ?_
    refine G_ifD rfl (fun hc3 => ?_) (fun hc3 => ?_)
    · skip
      refine G_skip ?_
      refine G_seq ?_
      refine G_block ?_
      refine G_seq ?_
      obtain ⟨x, hx⟩ := getI (show i < k.W.length by omega)
      obtain ⟨wo, wcs, wfz, wcap⟩ := uw
      obtain ⟨wb, rfl⟩ := h.w.isSome (by omega)
      refine G_region (l := [0, 1, 2, 3]) rfl ?_
      first
        | refine G_val rfl rfl rfl rfl (V_indexAddrN (s := 2) rfl Tryd.underlying108 infDiskW_116 rfl rfl rfl rfl (by omega)) ?_
        | refine G_val rfl rfl rfl rfl (V_indexAddr (s := 2) rfl Tryd.underlying108 infDiskW_116 rfl rfl rfl (by omega) (by first | omega | (simp [wCells, kCells]; done) | (simp [wCells, kCells]; omega) | (simp [wCells, kCells] at *; omega))) ?_
      refine G_val rfl rfl rfl rfl (V_loadA (s := 2) (vs := (wCells x).toArray) rfl rfl (mem_at 2 rfl) Tryd.underlying116 rfl infDiskW_116 rfl (h.w.sees.elem w_len hx) (by first | rfl | (simp [bcells_length, wCells, kCells]; done) | (simp [bcells_length, wCells, kCells]; omega) | (simp [bcells_length, *, wCells, kCells]; done))) ?_
      refine G_new rfl rfl rfl rfl (N_allocA rfl infDiskW_116 rfl) (fun b9 => ?_)
      refine G_put (l1 := []) (L' := [_]) rfl rfl rfl rfl (P_storeA (s := 2) rfl rfl rfl (mem_at 0 rfl) (by first | rfl | (simp [bcells_length, wCells, kCells]; done) | (simp [bcells_length, wCells, kCells]; omega) | (simp [bcells_length, *, wCells, kCells]; done)) infDiskW_116 rfl (by first | rfl | (simp [bcells_length, wCells, kCells]; done) | (simp [bcells_length, wCells, kCells]; omega) | (simp [bcells_length, *, wCells, kCells]; done)) (by first | rfl | exact bcells_all _ | (simp [Value.oneCell', wCells, kCells]; done) | (simp [Value.oneCell', *, wCells, kCells]; done))) rfl ?_
      refine G_done ?_
      refine G_seq ?_
      refine G_region (l := [0, 1, 2, 3]) rfl ?_
      refine G_val rfl rfl rfl rfl (V_fieldAddr (fo := 0) rfl Tryd.underlying116 rfl infDiskW_3 rfl rfl rfl) ?_
      refine G_val rfl rfl rfl rfl (V_load1 rfl rfl (mem_at 3 rfl) rfl Tryd.underlying3 rfl) ?_
      refine G_val rfl rfl rfl rfl (V_move rfl rfl) ?_
      refine G_val rfl rfl rfl rfl (V_eql rfl rfl rfl) ?_
      refine G_done ?_
      refine G_ifD rfl (fun hc4 => ?_) (fun hc4 => ?_)
      · skip
        refine G_region (l := [0, 1, 2]) rfl ?_
        refine G_val rfl rfl rfl rfl (V_fieldAddr (fo := 1) rfl Tryd.underlying116 rfl infDiskW_9 rfl rfl rfl) ?_
        refine G_val rfl rfl rfl rfl (V_load1 rfl rfl (mem_at 3 rfl) rfl Tryd.underlying9 rfl) ?_
        refine G_val rfl rfl rfl rfl (V_assign rfl rfl) ?_
        refine G_done ?_
        refine G_inBlock ?_
        first | (rw [lastW_yes (s := k.L.getD a.toNat []) hx (by assumption)]) | skip
        refine G_region (l := [0, 1]) rfl ?_
        first
          | refine G_val rfl rfl rfl rfl ((V_add rfl rfl rfl).int (wrap_i64 (by omega))) ?_
          | refine G_val rfl rfl rfl rfl (V_add rfl rfl rfl) ?_
        refine G_val rfl rfl rfl rfl (V_move rfl rfl) ?_
        refine G_done ?_
        refine G_sub ?_ [] ?_ (ih (i + 1) ?_ ?_)
        · refine (And.intro rfl (And.intro rfl (And.intro (slot_str (by first | exact (lastW_yes hx (by assumption)).symm | exact (lastW_no hx (by assumption)).symm)) (And.intro rfl (And.intro rfl (And.intro rfl trivial))))))
        · exact ⟨_, rfl⟩
        · omega
        · (first | omega | (dsimp only; omega))
      refine G_skip ?_
      refine G_inBlock ?_
      first | (rw [lastW_yes (s := k.L.getD a.toNat []) hx (by assumption)]) | skip
      refine G_region (l := [0, 1]) rfl ?_
      first
        | refine G_val rfl rfl rfl rfl ((V_add rfl rfl rfl).int (wrap_i64 (by omega))) ?_
        | refine G_val rfl rfl rfl rfl (V_add rfl rfl rfl) ?_
      refine G_val rfl rfl rfl rfl (V_move rfl rfl) ?_
      refine G_done ?_
      refine G_sub ?_ [] ?_ (ih (i + 1) ?_ ?_)
      · refine (And.intro rfl (And.intro rfl (And.intro (slot_str (by first | exact (lastW_yes hx (by assumption)).symm | exact (lastW_no hx (by assumption)).symm)) (And.intro rfl (And.intro rfl (And.intro rfl trivial))))))
      · exact ⟨_, rfl⟩
      · omega
      · (first | omega | (dsimp only; omega))
    refine G_exit rfl ?_
    refine G_seq ?_
    refine G_region (l := [0, 1, 2]) rfl ?_
    refine G_val rfl rfl rfl rfl (V_move rfl rfl) ?_
    refine G_val rfl rfl rfl rfl (V_assign rfl rfl) ?_
    refine G_val rfl rfl rfl rfl (V_assign rfl rfl) ?_
    refine G_done ?_
    refine G_ret (post := []) Tryd.func29 rfl (RVs_cons (RV_tmp rfl) (RVs_cons (RV_tmp rfl) RVs_nil)) [] rfl ?_
    dsimp only [packed]
    first
      | (obtain ⟨e1, e2⟩ := read_no (k := k) (a := a) (by assumption); rw [e1, e2]; exact ⟨rfl, rfl⟩)
      | (obtain ⟨e1, e2⟩ := read_dead ha hdd; rw [e1, e2]; exact ⟨rfl, rfl⟩)
      | (obtain ⟨e1, e2⟩ := read_yes ha (by rw [hdd]; exact Bool.false_ne_true); rw [e1, e2, show k.W.take i = k.W from List.take_of_length_le (by omega)]; exact ⟨rfl, rfl⟩)
 · skip
   have ha := Classical.not_not.1 hc1
   refine G_region (l := [0, 1, 2, 3, 4]) rfl ?_
   refine G_val rfl rfl rfl rfl (V_move rfl rfl) ?_
   first
     | refine G_val rfl rfl rfl rfl (V_nilCheck rfl rfl) ?_
     | refine G_val rfl rfl rfl rfl (V_nilCheckF rfl rfl) ?_
   refine G_val rfl rfl rfl rfl (V_fieldAddr (fo := 3) rfl Tryd.underlying110 rfl infDiskW_4 rfl rfl rfl) ?_
   refine G_val rfl rfl rfl rfl (V_load1 rfl rfl (mem_at 0 rfl) rfl Tryd.underlying4 rfl) ?_
   refine G_val rfl rfl rfl rfl (V_assign rfl rfl) ?_
   refine G_done ?_
   refine G_if rfl (fun hc2 => ?_) (fun hc2 => ?_)
   rotate_left
   · (first | (exact absurd rfl hc2) | (exact absurd hc2 (by decide)) | (exfalso; omega))
   refine G_seq ?_
   refine G_region (l := [0, 1]) rfl ?_
   refine G_val rfl rfl rfl rfl (V_assign rfl rfl) ?_
   refine G_val rfl rfl rfl rfl (V_assign rfl rfl) ?_
   refine G_done ?_
   refine G_ret (post := []) Tryd.func29 rfl (RVs_cons (RV_tmp rfl) (RVs_cons (RV_tmp rfl) RVs_nil)) [] rfl ?_
   dsimp only [packed]
   first
     | (obtain ⟨e1, e2⟩ := read_no (k := k) (a := a) (by assumption); rw [e1, e2]; exact ⟨rfl, rfl⟩)
     | (obtain ⟨e1, e2⟩ := read_dead ha hdd; rw [e1, e2]; exact ⟨rfl, rfl⟩)
     | (obtain ⟨e1, e2⟩ := read_yes ha (by rw [hdd]; exact Bool.false_ne_true); rw [e1, e2, show k.W.take i = k.W from List.take_of_length_le (by omega)]; exact ⟨rfl, rfl⟩)

set_option maxRecDepth 100000 in
set_option maxHeartbeats 1000000 in
theorem dk_read_nil (a : Int) :
    Ct Tryd.prog 29 [.pointer none, .int .i64 a] [] [] fun v post => v = .tuple #[.string (bs []), .int .i64 19] ∧ post = [] := by
 refine ct_of Tryd.func29 rfl rfl (fun w0 => ?_)
 show G _ _ [(0, _), (1, _)] _ _
 refine G_seq ?_
 refine G_region (l := [0, 1]) rfl ?_
 refine G_val rfl rfl rfl rfl (V_assign rfl rfl) ?_
 refine G_val rfl rfl rfl rfl (V_assign rfl rfl) ?_
 refine G_done ?_
 refine G_seq ?_
 refine G_region (l := [0, 1, 2, 3, 4, 5, 6, 7]) rfl ?_
 refine G_val rfl rfl rfl rfl (V_move rfl rfl) ?_
 refine G_val rfl rfl rfl rfl (V_move rfl rfl) ?_
 refine G_call (L2 := []) rfl rfl rfl rfl rfl rfl Tryd.call73 (dk_lies_nil a) [] [] rfl rfl ?_
 rintro v post ⟨rfl, rfl⟩
 refine G_val rfl rfl rfl rfl (V_move rfl rfl) ?_
 refine G_val rfl rfl rfl rfl (V_extract rfl rfl rfl) ?_
 refine G_val rfl rfl rfl rfl (V_extract rfl rfl rfl) ?_
 refine G_val rfl rfl rfl rfl (V_assign rfl rfl) ?_
 refine G_val rfl rfl rfl rfl (V_assign rfl rfl) ?_
 refine G_done ?_
 refine G_seq ?_
 refine G_block ?_
 refine G_seq ?_
 refine G_region (l := [0, 1, 2]) rfl ?_
 refine G_val rfl rfl rfl rfl (V_move rfl rfl) ?_
 refine G_val rfl rfl rfl rfl (V_neq rfl rfl rfl) ?_
 refine G_val rfl rfl rfl rfl (V_assign rfl rfl) ?_
 refine G_done ?_
 refine G_ifD rfl (fun hc1 => ?_) (fun hc1 => ?_)
 rotate_left
 · (first | (exact absurd rfl hc1) | (exact absurd hc1 (by decide)) | (exfalso; omega))
 refine G_seq ?_
 refine G_region (l := [0, 1, 2]) rfl ?_
 refine G_val rfl rfl rfl rfl (V_move rfl rfl) ?_
 refine G_val rfl rfl rfl rfl (V_assign rfl rfl) ?_
 refine G_val rfl rfl rfl rfl (V_assign rfl rfl) ?_
 refine G_done ?_
 refine G_ret (post := []) Tryd.func29 rfl (RVs_cons (RV_tmp rfl) (RVs_cons (RV_tmp rfl) RVs_nil)) [] rfl ?_
 dsimp only [packed]
 exact ⟨rfl, rfl⟩

set_option maxRecDepth 100000 in
set_option maxHeartbeats 1000000 in
theorem dk_size (d n lb lcap : Nat) (lcs : Array Value) (uw : Sl) (k : Dk) (h : DkAt k n lb lcs lcap uw) :
    Ct Tryd.prog 98 [.pointer (some ⟨d, 0, none⟩)] [(some d, .cells #[.slice (some ⟨lb, 0, none⟩) n lcap, uw.v k.W.length, .int .i64 k.fuse, .bool k.dead] 110 (0, 0))] [] fun v post => v = .int .i64 (n : Int) ∧ post = [] := by
 refine ct_of Tryd.func98 rfl rfl (fun w0 => ?_)
 show G _ _ [(0, _)] _ _
 refine G_seq ?_
 refine G_region (l := [0]) rfl ?_
 refine G_val rfl rfl rfl rfl (V_assign rfl rfl) ?_
 refine G_done ?_
 refine G_seq ?_
 refine G_seq ?_
 refine G_region (l := [0, 1]) rfl ?_
 refine G_val rfl rfl rfl rfl (V_move rfl rfl) ?_
 refine G_val rfl rfl rfl rfl (V_peqlN rfl Tryd.underlying35 rfl rfl) ?_
 refine G_done ?_
 refine G_else rfl ?_
 refine G_skip ?_
 refine G_seq ?_
 refine G_region (l := [0, 1, 2, 3, 4, 5]) rfl ?_
 refine G_val rfl rfl rfl rfl (V_move rfl rfl) ?_
 first
   | refine G_val rfl rfl rfl rfl (V_nilCheck rfl rfl) ?_
   | refine G_val rfl rfl rfl rfl (V_nilCheckF rfl rfl) ?_
 refine G_val rfl rfl rfl rfl (V_fieldAddr (fo := 0) rfl Tryd.underlying110 rfl infDiskW_24 rfl rfl rfl) ?_
 refine G_val rfl rfl rfl rfl (V_load1 rfl rfl (mem_at 0 rfl) rfl Tryd.underlying24 rfl) ?_
 refine G_val rfl rfl rfl rfl (V_len rfl rfl Tryd.underlying24 rfl) ?_
 refine G_val rfl rfl rfl rfl (V_assign rfl rfl) ?_
 refine G_done ?_
 refine G_ret (post := []) Tryd.func98 rfl (RVs_cons (RV_tmp rfl) RVs_nil) [] rfl ?_
 dsimp only [packed]
 exact ⟨rfl, rfl⟩

set_option maxRecDepth 100000 in
set_option maxHeartbeats 1000000 in
theorem dk_size_nil  :
    Ct Tryd.prog 98 [.pointer none] [] [] fun v post => v = .int .i64 0 ∧ post = [] := by
 refine ct_of Tryd.func98 rfl rfl (fun w0 => ?_)
 show G _ _ [(0, _)] _ _
 refine G_seq ?_
 refine G_region (l := [0]) rfl ?_
 refine G_val rfl rfl rfl rfl (V_assign rfl rfl) ?_
 refine G_done ?_
 refine G_seq ?_
 refine G_seq ?_
 refine G_region (l := [0, 1]) rfl ?_
 refine G_val rfl rfl rfl rfl (V_move rfl rfl) ?_
 refine G_val rfl rfl rfl rfl (V_peqlN rfl Tryd.underlying35 rfl rfl) ?_
 refine G_done ?_
 refine G_then rfl ?_
 refine G_seq ?_
 refine G_region (l := [0]) rfl ?_
 refine G_val rfl rfl rfl rfl (V_assign rfl rfl) ?_
 refine G_done ?_
 refine G_ret (post := []) Tryd.func98 rfl (RVs_cons (RV_tmp rfl) RVs_nil) [] rfl ?_
 dsimp only [packed]
 exact ⟨rfl, rfl⟩

set_option maxRecDepth 100000 in
set_option maxHeartbeats 1000000 in
theorem dk_waiting (d n lb lcap : Nat) (lcs : Array Value) (uw : Sl) (k : Dk) (h : DkAt k n lb lcs lcap uw) :
    Ct Tryd.prog 27 [.pointer (some ⟨d, 0, none⟩)] [(some d, .cells #[.slice (some ⟨lb, 0, none⟩) n lcap, uw.v k.W.length, .int .i64 k.fuse, .bool k.dead] 110 (0, 0))] [] fun v post => v = .int .i64 (k.W.length : Int) ∧ post = [] := by
 refine ct_of Tryd.func27 rfl rfl (fun w0 => ?_)
 show G _ _ [(0, _)] _ _
 refine G_seq ?_
 refine G_region (l := [0]) rfl ?_
 refine G_val rfl rfl rfl rfl (V_assign rfl rfl) ?_
 refine G_done ?_
 refine G_seq ?_
 refine G_seq ?_
 refine G_region (l := [0, 1]) rfl ?_
 refine G_val rfl rfl rfl rfl (V_move rfl rfl) ?_
 refine G_val rfl rfl rfl rfl (V_peqlN rfl Tryd.underlying35 rfl rfl) ?_
 refine G_done ?_
 refine G_else rfl ?_
 refine G_skip ?_
 refine G_seq ?_
 refine G_region (l := [0, 1, 2, 3, 4, 5]) rfl ?_
 refine G_val rfl rfl rfl rfl (V_move rfl rfl) ?_
 first
   | refine G_val rfl rfl rfl rfl (V_nilCheck rfl rfl) ?_
   | refine G_val rfl rfl rfl rfl (V_nilCheckF rfl rfl) ?_
 refine G_val rfl rfl rfl rfl (V_fieldAddr (fo := 1) rfl Tryd.underlying110 rfl infDiskW_108 rfl rfl rfl) ?_
 refine G_val rfl rfl rfl rfl (V_load1 rfl rfl (mem_at 0 rfl) rfl Tryd.underlying108 rfl) ?_
 refine G_val rfl rfl rfl rfl (V_len rfl rfl Tryd.underlying108 rfl) ?_
 refine G_val rfl rfl rfl rfl (V_assign rfl rfl) ?_
 refine G_done ?_
 refine G_ret (post := []) Tryd.func27 rfl (RVs_cons (RV_tmp rfl) RVs_nil) [] rfl ?_
 dsimp only [packed]
 exact ⟨rfl, rfl⟩

set_option maxRecDepth 100000 in
set_option maxHeartbeats 1000000 in
theorem dk_waiting_nil  :
    Ct Tryd.prog 27 [.pointer none] [] [] fun v post => v = .int .i64 0 ∧ post = [] := by
 refine ct_of Tryd.func27 rfl rfl (fun w0 => ?_)
 show G _ _ [(0, _)] _ _
 refine G_seq ?_
 refine G_region (l := [0]) rfl ?_
 refine G_val rfl rfl rfl rfl (V_assign rfl rfl) ?_
 refine G_done ?_
 refine G_seq ?_
 refine G_seq ?_
 refine G_region (l := [0, 1]) rfl ?_
 refine G_val rfl rfl rfl rfl (V_move rfl rfl) ?_
 refine G_val rfl rfl rfl rfl (V_peqlN rfl Tryd.underlying35 rfl rfl) ?_
 refine G_done ?_
 refine G_then rfl ?_
 refine G_seq ?_
 refine G_region (l := [0]) rfl ?_
 refine G_val rfl rfl rfl rfl (V_assign rfl rfl) ?_
 refine G_done ?_
 refine G_ret (post := []) Tryd.func27 rfl (RVs_cons (RV_tmp rfl) RVs_nil) [] rfl ?_
 dsimp only [packed]
 exact ⟨rfl, rfl⟩

set_option maxRecDepth 100000 in
set_option maxHeartbeats 1000000 in
theorem dk_fuse (d n lb lcap : Nat) (lcs : Array Value) (uw : Sl) (k : Dk) (h : DkAt k n lb lcs lcap uw) (z : Int) :
    Ct Tryd.prog 32 [.pointer (some ⟨d, 0, none⟩), .int .i64 z] [] [(some d, .cells #[.slice (some ⟨lb, 0, none⟩) n lcap, uw.v k.W.length, .int .i64 k.fuse, .bool k.dead] 110 (0, 0))] fun v post => v = .tuple #[] ∧ post = [(some d, .cells #[.slice (some ⟨lb, 0, none⟩) n lcap, uw.v (k.setFuse z).W.length, .int .i64 (k.setFuse z).fuse, .bool (k.setFuse z).dead] 110 (0, 0))] := by
 refine ct_of Tryd.func32 rfl rfl (fun w0 => ?_)
 show G _ _ [(0, _), (1, _)] _ _
 refine G_seq ?_
 cases hdd : k.dead
 · skip
   refine G_region (l := [0, 1, 2, 3, 4, 5, 6, 7, 8]) rfl ?_
   refine G_val rfl rfl rfl rfl (V_move rfl rfl) ?_
   refine G_val rfl rfl rfl rfl (V_pneqN rfl Tryd.underlying35 rfl rfl) ?_
   refine G_val rfl rfl rfl rfl (V_move rfl rfl) ?_
   refine G_val rfl rfl rfl rfl (V_move rfl rfl) ?_
   first
     | refine G_val rfl rfl rfl rfl (V_nilCheck rfl rfl) ?_
     | refine G_val rfl rfl rfl rfl (V_nilCheckF rfl rfl) ?_
   refine G_val rfl rfl rfl rfl (V_fieldAddr (fo := 3) rfl Tryd.underlying110 rfl infDiskW_4 rfl rfl rfl) ?_
   refine G_val rfl rfl rfl rfl (V_load1 rfl rfl (mem_at 0 rfl) rfl Tryd.underlying4 rfl) ?_
   refine G_val rfl rfl rfl rfl (V_not rfl rfl) ?_
   refine G_val rfl rfl rfl rfl (V_pickT rfl rfl rfl) ?_
   refine G_done ?_
   refine G_if rfl (fun hc1 => ?_) (fun hc1 => ?_)
   rotate_left
   · (first | (exact absurd rfl hc1) | (exact absurd hc1 (by decide)) | (exfalso; omega))
   refine G_region (l := [0, 1, 2, 3, 4, 5]) rfl ?_
   refine G_val rfl rfl rfl rfl (V_move rfl rfl) ?_
   refine G_val rfl rfl rfl rfl (V_move rfl rfl) ?_
   refine G_val rfl rfl rfl rfl (V_max rfl rfl rfl) ?_
   first
     | refine G_val rfl rfl rfl rfl (V_nilCheck rfl rfl) ?_
     | refine G_val rfl rfl rfl rfl (V_nilCheckF rfl rfl) ?_
   refine G_val rfl rfl rfl rfl (V_fieldAddr (fo := 2) rfl Tryd.underlying110 rfl infDiskW_3 rfl rfl rfl) ?_
   refine G_put (l1 := []) (L' := [_]) rfl rfl rfl rfl (P_store1 rfl rfl rfl (mem_at 0 rfl) (by first | exact of_decide_eq_true rfl | omega | (simp [wCells, kCells]; done) | (simp [wCells, kCells]; omega) | (simp [wCells, kCells] at *; omega)) infDiskW_3 rfl rfl) rfl ?_
   refine G_done ?_
   refine G_end (post := [_]) Tryd.func32 rfl RVs_nil [0] rfl ?_
   dsimp only [packed]
   refine ⟨rfl, ?_⟩; unfold Dk.setFuse; simp [hdd]
 · skip
   refine G_region (l := [0, 1, 2, 3, 4, 5, 6, 7, 8]) rfl ?_
   refine G_val rfl rfl rfl rfl (V_move rfl rfl) ?_
   refine G_val rfl rfl rfl rfl (V_pneqN rfl Tryd.underlying35 rfl rfl) ?_
   refine G_val rfl rfl rfl rfl (V_move rfl rfl) ?_
   refine G_val rfl rfl rfl rfl (V_move rfl rfl) ?_
   first
     | refine G_val rfl rfl rfl rfl (V_nilCheck rfl rfl) ?_
     | refine G_val rfl rfl rfl rfl (V_nilCheckF rfl rfl) ?_
   refine G_val rfl rfl rfl rfl (V_fieldAddr (fo := 3) rfl Tryd.underlying110 rfl infDiskW_4 rfl rfl rfl) ?_
   refine G_val rfl rfl rfl rfl (V_load1 rfl rfl (mem_at 0 rfl) rfl Tryd.underlying4 rfl) ?_
   refine G_val rfl rfl rfl rfl (V_not rfl rfl) ?_
   refine G_val rfl rfl rfl rfl (V_pickT rfl rfl rfl) ?_
   refine G_done ?_
   refine G_if rfl (fun hc1 => ?_) (fun hc1 => ?_)
   · (first | (exact absurd rfl hc1) | (exact absurd hc1 (by decide)) | (exfalso; omega))
   refine G_skip ?_
   refine G_end (post := [_]) Tryd.func32 rfl RVs_nil [0] rfl ?_
   dsimp only [packed]
   refine ⟨rfl, ?_⟩; unfold Dk.setFuse; simp [hdd]

set_option maxRecDepth 100000 in
set_option maxHeartbeats 1000000 in
theorem dk_fuse_nil (z : Int) :
    Ct Tryd.prog 32 [.pointer none, .int .i64 z] [] [] fun v post => v = .tuple #[] ∧ post = [] := by
 refine ct_of Tryd.func32 rfl rfl (fun w0 => ?_)
 show G _ _ [(0, _), (1, _)] _ _
 refine G_seq ?_
 refine G_region (l := [0, 1, 2, 3, 4, 5, 6, 7, 8]) rfl ?_
 refine G_val rfl rfl rfl rfl (V_move rfl rfl) ?_
 refine G_val rfl rfl rfl rfl (V_pneqN rfl Tryd.underlying35 rfl rfl) ?_
 refine G_val rfl rfl rfl rfl (V_move rfl rfl) ?_
 refine G_off rfl rfl rfl rfl ?_
 refine G_off rfl rfl rfl rfl ?_
 refine G_off rfl rfl rfl rfl ?_
 refine G_off rfl rfl rfl rfl ?_
 refine G_off rfl rfl rfl rfl ?_
 refine G_val rfl rfl rfl rfl (V_pickF rfl rfl rfl) ?_
 refine G_done ?_
 refine G_else rfl ?_
 refine G_skip ?_
 refine G_end (post := []) Tryd.func32 rfl RVs_nil [] rfl ?_
 dsimp only [packed]
 exact ⟨rfl, rfl⟩

end
end Go.Proofs.YtbblkgdejgoncaaDoor
