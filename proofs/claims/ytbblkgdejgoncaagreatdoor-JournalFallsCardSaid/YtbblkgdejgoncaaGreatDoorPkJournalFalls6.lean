/- What the law JournalFalls needs, part 6. -/
import Derived.Test.YtbblkgdejgoncaaGreatDoorPkJournalFalls1
import Derived.Test.YtbblkgdejgoncaaGreatDoorPkJournalFalls2
import Derived.Test.YtbblkgdejgoncaaGreatDoorPkJournalFalls3
import Derived.Test.YtbblkgdejgoncaaGreatDoorPkJournalFalls4
import Derived.Test.YtbblkgdejgoncaaGreatDoorPkJournalFalls5
import Derived.Lib.Bytealg
import Derived.Test.YtbblkgdejgoncaaGreatDoorRows
import Derived.WalkKit
import Derived.ProofKit
import Derived.OpenShut
import Derived.ShutString
import Derived.ChangeOld
import Derived.Below
import Derived.Deep.Slices

/- The walks of layer 28, on: Format, Look, Open. -/
set_option linter.unusedSimpArgs false
set_option linter.unusedVariables false
namespace Go.Proofs.YtbblkgdejgoncaaGreatDoor
open Go Go.RowKit

section
theorem infJourX_3 : Tryz.prog.info? 3 = some Tryz.t3 := by kernel_rfl
theorem infJourX_9 : Tryz.prog.info? 9 = some Tryz.t9 := by kernel_rfl
theorem infJourX_26 : Tryz.prog.info? 26 = some Tryz.t26 := by kernel_rfl
theorem infJourX_34 : Tryz.prog.info? 34 = some Tryz.t34 := by kernel_rfl
theorem infJourX_50 : Tryz.prog.info? 50 = some Tryz.t50 := by kernel_rfl
theorem infJourX_70 : Tryz.prog.info? 70 = some Tryz.t70 := by kernel_rfl
theorem infJourX_74 : Tryz.prog.info? 74 = some Tryz.t74 := by kernel_rfl
theorem infJourX_76 : Tryz.prog.info? 76 = some Tryz.t76 := by kernel_rfl
theorem infJourX_86 : Tryz.prog.info? 86 = some Tryz.t86 := by kernel_rfl
theorem plcJourX_70 : placesOf Tryz.prog (Tryz.prog.fieldsOf 70) = some [(0, 1), (1, 1)] := by kernel_rfl
theorem plcJourX_74 : placesOf Tryz.prog (Tryz.prog.fieldsOf 74) = some [(0, 1), (1, 1), (2, 1), (3, 1), (4, 1)] := by kernel_rfl
theorem plcJourX_76 : placesOf Tryz.prog (Tryz.prog.fieldsOf 76) = some [(0, 5), (5, 1), (6, 1), (7, 1)] := by kernel_rfl
theorem plcJourX_86 : placesOf Tryz.prog (Tryz.prog.fieldsOf 86) = some [(0, 2), (2, 5), (7, 1)] := by kernel_rfl

set_option maxRecDepth 100000 in
set_option maxHeartbeats 1000000 in
theorem jn_format_1 (d n lb lcap : Nat) (lcs : Array Value) (uw : Sl) (k : Dk) (h : DkAt k n lb lcs lcap uw) (room : Int) (hr0 : -9223372036854775808 ≤ room) (hr1 : room ≤ 9223372036854775807) (hp : partE n room = 1) (s : List UInt8) :
    Ct Tryz.prog 10 [.pointer (some ⟨d, 0, none⟩), .int .i64 room, .string (bs s)] [(some d, .cells #[.slice (some ⟨lb, 0, none⟩) n lcap, uw.v k.W.length, .int .i64 k.fuse, .bool k.dead] 67 (0, 0))] [] fun v post => v = .int .i64 1 ∧ post = [] := by
 refine ct_of Tryz.func10 rfl rfl (fun w0 => ?_)
 show G _ _ [(0, _), (1, _), (2, _)] _ _
 refine G_seq ?_
 refine G_region (l := [0]) rfl ?_
 refine G_val rfl rfl rfl rfl (V_assign rfl rfl) ?_
 refine G_done ?_
 refine G_seq ?_
 refine G_region (l := [0, 1, 2, 3, 4]) rfl ?_
 refine G_val rfl rfl rfl rfl (V_move rfl rfl) ?_
 refine G_val rfl rfl rfl rfl (V_move rfl rfl) ?_
 refine G_val rfl rfl rfl rfl (V_buildS (cs := [_, _]) rfl Tryz.underlying70 infJourX_70 rfl plcJourX_70 rfl rfl rfl) ?_
 refine G_new rfl rfl rfl rfl (N_allocA rfl infJourX_70 rfl) (fun b7 => ?_)
 refine G_put (l1 := []) (L' := [_]) rfl rfl rfl rfl (P_storeA (s := 2) rfl rfl rfl (mem_at 0 rfl) (by rfl) infJourX_70 rfl (by rfl) (by simp [Value.oneCell', spCells, pCells, wCells, kCells, rgC, lgC, rdC, Sl.v, zeroF, foundC, jC])) rfl ?_
 refine G_done ?_
 refine G_seq ?_
 refine G_seq ?_
 refine G_region (l := [0, 1, 2]) rfl ?_
 refine G_val rfl rfl rfl rfl (V_loadW (s := 2) rfl rfl (mem_at 1 rfl) Tryz.underlying70 rfl infJourX_70 rfl (by rfl)) ?_
 refine G_call (L2 := [_]) rfl rfl rfl rfl rfl rfl Tryz.call30 ((jn_check d n lb lcap lcs uw k h room hr0 hr1).weaken (fun v post h => by rw [hp] at h; exact h)) [] [0] rfl rfl ?_
 rintro v post ⟨rfl, rfl⟩
 show G _ _ _ [_] _
 refine G_val rfl rfl rfl rfl (V_assign rfl rfl) ?_
 refine G_done ?_
 refine G_seq ?_
 refine G_region (l := [0, 1]) rfl ?_
 refine G_val rfl rfl rfl rfl (V_move rfl rfl) ?_
 refine G_val rfl rfl rfl rfl (V_neq rfl rfl rfl) ?_
 refine G_done ?_
 refine G_ifD rfl (fun hc1 => ?_) (fun hc1 => ?_)
 rotate_left
 · (first | (exact absurd rfl hc1) | (exact absurd hc1 (by decide)) | (exact absurd (by decide) hc1) | (exfalso; omega))
 refine G_seq ?_
 refine G_region (l := [0, 1]) rfl ?_
 refine G_val rfl rfl rfl rfl (V_move rfl rfl) ?_
 refine G_val rfl rfl rfl rfl (V_assign rfl rfl) ?_
 refine G_done ?_
 refine G_ret (post := []) Tryz.func10 rfl (RVs_cons (RV_tmp rfl) RVs_nil) [] rfl ?_
 dsimp only [packed]
 exact ⟨rfl, rfl⟩

set_option maxRecDepth 100000 in
set_option maxHeartbeats 1000000 in
theorem jn_format (d n lb lcap : Nat) (lcs : Array Value) (uw : Sl) (k : Dk) (h : DkAt k n lb lcs lcap uw) (R : Nat) (hR : R ≤ 100000) (hp : partE n (R : Int) = 0) (s : List UInt8) (hW : k.W.length ≤ 1000) (hsl : s.length ≤ 1000000) :
    Ct Tryz.prog 10 [.pointer (some ⟨d, 0, none⟩), .int .i64 (R : Int), .string (bs s)] [] [(some d, .cells #[.slice (some ⟨lb, 0, none⟩) n lcap, uw.v k.W.length, .int .i64 k.fuse, .bool k.dead] 67 (0, 0)), (some lb, .cells lcs 9 (0, 0)), (uw.ob, .cells uw.cs 90 uw.fz)] fun v post => v = .int .i64 (jputE k 2 (R : Int) (firstS s.length) s) ∧ ∃ lcs1 uw1, DkAt (jputK k 2 (R : Int) (firstS s.length) s) n lb lcs1 lcap uw1 ∧ post = [(some d, .cells #[.slice (some ⟨lb, 0, none⟩) n lcap, uw1.v (jputK k 2 (R : Int) (firstS s.length) s).W.length, .int .i64 (jputK k 2 (R : Int) (firstS s.length) s).fuse, .bool (jputK k 2 (R : Int) (firstS s.length) s).dead] 67 (0, 0)), (some lb, .cells lcs1 9 (0, 0)), (uw1.ob, .cells uw1.cs 90 uw1.fz)] := by
 have hb := h.bd
 have hb1 := hb.n1
 have hb2 := hb.n4
 have hb3 := hb.ncs
 have hb4 := hb.ncap
 have hb5 := hb.cap
 have hb6 := hb.w
 have hb7 := hb.wc
 have hln := h.len
 have hpp := partE_0.1 hp
 refine ct_of Tryz.func10 rfl rfl (fun w0 => ?_)
 show G _ _ [(0, _), (1, _), (2, _)] _ _
 refine G_seq ?_
 refine G_region (l := [0]) rfl ?_
 refine G_val rfl rfl rfl rfl (V_assign rfl rfl) ?_
 refine G_done ?_
 refine G_seq ?_
 refine G_region (l := [0, 1, 2, 3, 4]) rfl ?_
 refine G_val rfl rfl rfl rfl (V_move rfl rfl) ?_
 refine G_val rfl rfl rfl rfl (V_move rfl rfl) ?_
 refine G_val rfl rfl rfl rfl (V_buildS (cs := [_, _]) rfl Tryz.underlying70 infJourX_70 rfl plcJourX_70 rfl rfl rfl) ?_
 refine G_new rfl rfl rfl rfl (N_allocA rfl infJourX_70 rfl) (fun b7 => ?_)
 refine G_put (l1 := []) (L' := [_, _, _, _]) rfl rfl rfl rfl (P_storeA (s := 2) rfl rfl rfl (mem_at 0 rfl) (by rfl) infJourX_70 rfl (by rfl) (by simp [Value.oneCell', spCells, pCells, wCells, kCells, rgC, lgC, rdC, Sl.v, zeroF, foundC, jC])) rfl ?_
 refine G_done ?_
 refine G_seq ?_
 refine G_seq ?_
 refine G_region (l := [0, 1, 2]) rfl ?_
 refine G_val rfl rfl rfl rfl (V_loadW (s := 2) rfl rfl (mem_at 0 rfl) Tryz.underlying70 rfl infJourX_70 rfl (by rfl)) ?_
 refine G_call (L2 := [_, _, _, _]) rfl rfl rfl rfl rfl rfl Tryz.call30 ((jn_check d n lb lcap lcs uw k h (R : Int) (by omega) (by omega)).weaken (fun v post h => by rw [hp] at h; exact h)) [] [1] rfl rfl ?_
 rintro v post ⟨rfl, rfl⟩
 show G _ _ _ [_, _, _, _] _
 refine G_val rfl rfl rfl rfl (V_assign rfl rfl) ?_
 refine G_done ?_
 refine G_seq ?_
 refine G_region (l := [0, 1]) rfl ?_
 refine G_val rfl rfl rfl rfl (V_move rfl rfl) ?_
 refine G_val rfl rfl rfl rfl (V_neq rfl rfl rfl) ?_
 refine G_done ?_
 refine G_ifD rfl (fun hc1 => ?_) (fun hc1 => ?_)
 · (first | (exact absurd rfl hc1) | (exact absurd hc1 (by decide)) | (exact absurd (by decide) hc1) | (exfalso; omega))
 refine G_skip ?_
 refine G_seq ?_
 refine G_region (l := [0, 1, 2, 3, 4]) rfl ?_
 refine G_val rfl rfl rfl rfl (V_loadW (s := 2) rfl rfl (mem_at 0 rfl) Tryz.underlying70 rfl infJourX_70 rfl (by rfl)) ?_
 refine G_val rfl rfl rfl rfl (V_move rfl rfl) ?_
 refine G_val rfl rfl rfl rfl (V_buildS (cs := [_, _, _, _, _]) rfl Tryz.underlying74 infJourX_74 rfl plcJourX_74 rfl rfl rfl) ?_
 refine G_call (L2 := [_]) rfl rfl rfl rfl rfl rfl Tryz.call31 (jn_put d n lb lcap lcs uw k h R 2 ⟨1, 1, 1, 0, 0⟩ s (first_ok hsl) (by simp) (by omega) (by omega) hW hsl) [1, 1, 1] [] rfl rfl ?_
 rintro v post ⟨rfl, lcs1, uw1, h1, rfl⟩
 show G _ _ _ [_, _, _, _] _
 refine G_val rfl rfl rfl rfl (V_assign rfl rfl) ?_
 refine G_done ?_
 refine G_ret (post := [_, _, _]) Tryz.func10 rfl (RVs_cons (RV_tmp rfl) RVs_nil) [0, 0, 0] rfl ?_
 dsimp only [packed]
 exact ⟨rfl, lcs1, uw1, h1, rfl⟩

set_option maxRecDepth 100000 in
set_option maxHeartbeats 1000000 in
theorem jn_format_nil (room : Int) (x : Value) :
    Ct Tryz.prog 10 [.pointer none, .int .i64 room, x] [] [] fun v post => v = .int .i64 19 ∧ post = [] := by
 refine ct_of Tryz.func10 rfl rfl (fun w0 => ?_)
 show G _ _ [(0, _), (1, _), (2, _)] _ _
 refine G_seq ?_
 refine G_region (l := [0]) rfl ?_
 refine G_val rfl rfl rfl rfl (V_assign rfl rfl) ?_
 refine G_done ?_
 refine G_seq ?_
 refine G_region (l := [0, 1, 2, 3, 4]) rfl ?_
 refine G_val rfl rfl rfl rfl (V_move rfl rfl) ?_
 refine G_val rfl rfl rfl rfl (V_move rfl rfl) ?_
 refine G_val rfl rfl rfl rfl (V_buildS (cs := [_, _]) rfl Tryz.underlying70 infJourX_70 rfl plcJourX_70 rfl rfl rfl) ?_
 refine G_new rfl rfl rfl rfl (N_allocA rfl infJourX_70 rfl) (fun b7 => ?_)
 refine G_put (l1 := []) (L' := [_]) rfl rfl rfl rfl (P_storeA (s := 2) rfl rfl rfl (mem_at 0 rfl) (by rfl) infJourX_70 rfl (by rfl) (by simp [Value.oneCell', spCells, pCells, wCells, kCells, rgC, lgC, rdC, Sl.v, zeroF, foundC, jC])) rfl ?_
 refine G_done ?_
 refine G_seq ?_
 refine G_seq ?_
 refine G_region (l := [0, 1, 2]) rfl ?_
 refine G_val rfl rfl rfl rfl (V_loadW (s := 2) rfl rfl (mem_at 0 rfl) Tryz.underlying70 rfl infJourX_70 rfl (by rfl)) ?_
 refine G_call (L2 := [_]) rfl rfl rfl rfl rfl rfl Tryz.call30 (jn_check_nil room) [] [] rfl rfl ?_
 rintro v post ⟨rfl, rfl⟩
 show G _ _ _ [_] _
 refine G_val rfl rfl rfl rfl (V_assign rfl rfl) ?_
 refine G_done ?_
 refine G_seq ?_
 refine G_region (l := [0, 1]) rfl ?_
 refine G_val rfl rfl rfl rfl (V_move rfl rfl) ?_
 refine G_val rfl rfl rfl rfl (V_neq rfl rfl rfl) ?_
 refine G_done ?_
 refine G_ifD rfl (fun hc1 => ?_) (fun hc1 => ?_)
 rotate_left
 · (first | (exact absurd rfl hc1) | (exact absurd hc1 (by decide)) | (exact absurd (by decide) hc1) | (exfalso; omega))
 refine G_seq ?_
 refine G_region (l := [0, 1]) rfl ?_
 refine G_val rfl rfl rfl rfl (V_move rfl rfl) ?_
 refine G_val rfl rfl rfl rfl (V_assign rfl rfl) ?_
 refine G_done ?_
 refine G_ret (post := []) Tryz.func10 rfl (RVs_cons (RV_tmp rfl) RVs_nil) [] rfl ?_
 dsimp only [packed]
 exact ⟨rfl, rfl⟩

set_option maxRecDepth 100000 in
set_option maxHeartbeats 1000000 in
theorem jn_look_1 (d n lb lcap : Nat) (lcs : Array Value) (uw : Sl) (k : Dk) (h : DkAt k n lb lcs lcap uw) (room : Int) (hr0 : -9223372036854775808 ≤ room) (hr1 : room ≤ 9223372036854775807) (hp : partE n room = 1) :
    Ct Tryz.prog 32 [.agg #[.pointer (some ⟨d, 0, none⟩), .int .i64 room]] [(some d, .cells #[.slice (some ⟨lb, 0, none⟩) n lcap, uw.v k.W.length, .int .i64 k.fuse, .bool k.dead] 67 (0, 0))] [] fun v post => v = .tuple #[.agg zeroF.toArray, .int .i64 1] ∧ post = [] := by
 refine ct_of Tryz.func32 rfl rfl (fun w0 => ?_)
 show G _ _ [(0, _)] _ _
 refine G_seq ?_
 refine G_region (l := [0, 1, 2]) rfl ?_
 refine G_new rfl rfl rfl rfl (N_boxA rfl rfl) (fun b1 => ?_)
 refine G_new rfl rfl rfl rfl (N_allocA rfl infJourX_76 rfl) (fun b2 => ?_)
 refine G_val rfl rfl rfl rfl (V_assign rfl rfl) ?_
 refine G_done ?_
 refine G_seq ?_
 refine G_seq ?_
 refine G_region (l := [0, 1, 2]) rfl ?_
 refine G_val rfl rfl rfl rfl (V_loadW (s := 2) rfl rfl (mem_at 2 rfl) Tryz.underlying70 rfl infJourX_70 rfl (by rfl)) ?_
 refine G_call (L2 := [_, _]) rfl rfl rfl rfl rfl rfl Tryz.call30 ((jn_check d n lb lcap lcs uw k h room hr0 hr1).weaken (fun v post h => by rw [hp] at h; exact h)) [] [0] rfl rfl ?_
 rintro v post ⟨rfl, rfl⟩
 show G _ _ _ [_, _] _
 refine G_val rfl rfl rfl rfl (V_assign rfl rfl) ?_
 refine G_done ?_
 refine G_seq ?_
 refine G_region (l := [0, 1]) rfl ?_
 refine G_val rfl rfl rfl rfl (V_move rfl rfl) ?_
 refine G_val rfl rfl rfl rfl (V_neq rfl rfl rfl) ?_
 refine G_done ?_
 refine G_ifD rfl (fun hc1 => ?_) (fun hc1 => ?_)
 rotate_left
 · (first | (exact absurd rfl hc1) | (exact absurd hc1 (by decide)) | (exact absurd (by decide) hc1) | (exfalso; omega))
 refine G_seq ?_
 refine G_region (l := [0, 1, 2, 3]) rfl ?_
 refine G_val rfl rfl rfl rfl (V_buildS (cs := [_, _, _, _, _, _, _, _]) rfl Tryz.underlying76 infJourX_76 rfl plcJourX_76 rfl rfl rfl) ?_
 refine G_val rfl rfl rfl rfl (V_move rfl rfl) ?_
 refine G_put (l1 := []) (L' := [_, _]) rfl rfl rfl rfl (P_storeA (s := 8) rfl rfl rfl (mem_at 0 rfl) (by rfl) infJourX_76 rfl (by rfl) (by simp [Value.oneCell', spCells, pCells, wCells, kCells, rgC, lgC, rdC, Sl.v, zeroF, foundC, jC])) rfl ?_
 refine G_val rfl rfl rfl rfl (V_assign rfl rfl) ?_
 refine G_done ?_
 refine G_ret (post := []) Tryz.func32 rfl (RVs_cons (RV_cell (s := 8) rfl (mem_at 1 rfl) Tryz.underlying76 rfl infJourX_76 rfl (by rfl)) (RVs_cons (RV_tmp rfl) RVs_nil)) [] rfl ?_
 dsimp only [packed]
 exact ⟨rfl, rfl⟩

set_option maxRecDepth 100000 in
set_option maxHeartbeats 1000000 in
theorem jn_look_18 (d n lb lcap : Nat) (lcs : Array Value) (uw : Sl) (k : Dk) (h : DkAt k n lb lcs lcap uw) (R : Nat) (hR : R ≤ 100000) (hp : partE n (R : Int) = 0) (hl : loadE k = 18) :
    Ct Tryz.prog 32 [.agg #[.pointer (some ⟨d, 0, none⟩), .int .i64 (R : Int)]] [(some d, .cells #[.slice (some ⟨lb, 0, none⟩) n lcap, uw.v k.W.length, .int .i64 k.fuse, .bool k.dead] 67 (0, 0)), (some lb, .cells lcs 9 (0, 0)), (uw.ob, .cells uw.cs 90 uw.fz)] [] fun v post => v = .tuple #[.agg zeroF.toArray, .int .i64 18] ∧ post = [] := by
 refine ct_of Tryz.func32 rfl rfl (fun w0 => ?_)
 show G _ _ [(0, _)] _ _
 refine G_seq ?_
 refine G_region (l := [0, 1, 2]) rfl ?_
 refine G_new rfl rfl rfl rfl (N_boxA rfl rfl) (fun b1 => ?_)
 refine G_new rfl rfl rfl rfl (N_allocA rfl infJourX_76 rfl) (fun b2 => ?_)
 refine G_val rfl rfl rfl rfl (V_assign rfl rfl) ?_
 refine G_done ?_
 refine G_seq ?_
 refine G_seq ?_
 refine G_region (l := [0, 1, 2]) rfl ?_
 refine G_val rfl rfl rfl rfl (V_loadW (s := 2) rfl rfl (mem_at 4 rfl) Tryz.underlying70 rfl infJourX_70 rfl (by rfl)) ?_
 refine G_call (L2 := [_, _]) rfl rfl rfl rfl rfl rfl Tryz.call30 ((jn_check d n lb lcap lcs uw k h (R : Int) (by omega) (by omega)).weaken (fun v post h => by rw [hp] at h; exact h)) [] [0] rfl rfl ?_
 rintro v post ⟨rfl, rfl⟩
 show G _ _ _ [_, _] _
 refine G_val rfl rfl rfl rfl (V_assign rfl rfl) ?_
 refine G_done ?_
 refine G_seq ?_
 refine G_region (l := [0, 1]) rfl ?_
 refine G_val rfl rfl rfl rfl (V_move rfl rfl) ?_
 refine G_val rfl rfl rfl rfl (V_neq rfl rfl rfl) ?_
 refine G_done ?_
 refine G_ifD rfl (fun hc1 => ?_) (fun hc1 => ?_)
 · (first | (exact absurd rfl hc1) | (exact absurd hc1 (by decide)) | (exact absurd (by decide) hc1) | (exfalso; omega))
 refine G_skip ?_
 refine G_seq ?_
 refine G_region (l := [0, 1, 2, 3, 4, 5, 6, 7, 8]) rfl ?_
 refine G_val rfl rfl rfl rfl (V_fieldAddr (fo := 0) rfl Tryz.underlying70 rfl infJourX_26 rfl rfl rfl) ?_
 refine G_val rfl rfl rfl rfl (V_load1 rfl rfl (mem_at 4 rfl) rfl Tryz.underlying26 rfl) ?_
 refine G_call (L2 := [_, _]) rfl rfl rfl rfl rfl rfl Tryz.call54 ((sup_load d n lb lcap lcs uw k h).weaken (fun v post h => by rw [hl] at h; exact h)) [] [0, 1, 2] rfl rfl ?_
 rintro v post ⟨rfl, rfl⟩
 show G _ _ _ [_, _] _
 refine G_val rfl rfl rfl rfl (V_move rfl rfl) ?_
 refine G_val rfl rfl rfl rfl (V_extract rfl rfl rfl) ?_
 refine G_val rfl rfl rfl rfl (V_extract rfl rfl rfl) ?_
 refine G_new rfl rfl rfl rfl (N_allocA rfl infJourX_74 rfl) (fun b5 => ?_)
 refine G_put (l1 := []) (L' := [_, _, _]) rfl rfl rfl rfl (P_storeA (s := 5) rfl rfl rfl (mem_at 0 rfl) (by rfl) infJourX_74 rfl (by rfl) (by simp [Value.oneCell', spCells, pCells, wCells, kCells, rgC, lgC, rdC, Sl.v, zeroF, foundC, jC])) rfl ?_
 refine G_val rfl rfl rfl rfl (V_assign rfl rfl) ?_
 refine G_done ?_
 refine G_seq ?_
 refine G_seq ?_
 refine G_region (l := [0, 1]) rfl ?_
 refine G_val rfl rfl rfl rfl (V_move rfl rfl) ?_
 refine G_val rfl rfl rfl rfl (V_neq rfl rfl rfl) ?_
 refine G_done ?_
 refine G_ifD rfl (fun hc2 => ?_) (fun hc2 => ?_)
 rotate_left
 · (first | (exact absurd rfl hc2) | (exact absurd hc2 (by decide)) | (exact absurd (by decide) hc2) | (exfalso; omega))
 refine G_seq ?_
 refine G_region (l := [0, 1, 2, 3]) rfl ?_
 refine G_val rfl rfl rfl rfl (V_buildS (cs := [_, _, _, _, _, _, _, _]) rfl Tryz.underlying76 infJourX_76 rfl plcJourX_76 rfl rfl rfl) ?_
 refine G_val rfl rfl rfl rfl (V_move rfl rfl) ?_
 refine G_put (l1 := [_]) (L' := [_, _, _]) rfl rfl rfl rfl (P_storeA (s := 8) rfl rfl rfl (mem_at 1 rfl) (by rfl) infJourX_76 rfl (by rfl) (by simp [Value.oneCell', spCells, pCells, wCells, kCells, rgC, lgC, rdC, Sl.v, zeroF, foundC, jC])) rfl ?_
 refine G_val rfl rfl rfl rfl (V_assign rfl rfl) ?_
 refine G_done ?_
 refine G_ret (post := []) Tryz.func32 rfl (RVs_cons (RV_cell (s := 8) rfl (mem_at 4 rfl) Tryz.underlying76 rfl infJourX_76 rfl (by rfl)) (RVs_cons (RV_tmp rfl) RVs_nil)) [] rfl ?_
 dsimp only [packed]
 exact ⟨rfl, rfl⟩

set_option maxRecDepth 100000 in
set_option maxHeartbeats 1000000 in
theorem jn_look_nil (room : Int) :
    Ct Tryz.prog 32 [.agg #[.pointer none, .int .i64 room]] [] [] fun v post => v = .tuple #[.agg zeroF.toArray, .int .i64 19] ∧ post = [] := by
 refine ct_of Tryz.func32 rfl rfl (fun w0 => ?_)
 show G _ _ [(0, _)] _ _
 refine G_seq ?_
 refine G_region (l := [0, 1, 2]) rfl ?_
 refine G_new rfl rfl rfl rfl (N_boxA rfl rfl) (fun b1 => ?_)
 refine G_new rfl rfl rfl rfl (N_allocA rfl infJourX_76 rfl) (fun b2 => ?_)
 refine G_val rfl rfl rfl rfl (V_assign rfl rfl) ?_
 refine G_done ?_
 refine G_seq ?_
 refine G_seq ?_
 refine G_region (l := [0, 1, 2]) rfl ?_
 refine G_val rfl rfl rfl rfl (V_loadW (s := 2) rfl rfl (mem_at 1 rfl) Tryz.underlying70 rfl infJourX_70 rfl (by rfl)) ?_
 refine G_call (L2 := [_, _]) rfl rfl rfl rfl rfl rfl Tryz.call30 (jn_check_nil room) [] [] rfl rfl ?_
 rintro v post ⟨rfl, rfl⟩
 show G _ _ _ [_, _] _
 refine G_val rfl rfl rfl rfl (V_assign rfl rfl) ?_
 refine G_done ?_
 refine G_seq ?_
 refine G_region (l := [0, 1]) rfl ?_
 refine G_val rfl rfl rfl rfl (V_move rfl rfl) ?_
 refine G_val rfl rfl rfl rfl (V_neq rfl rfl rfl) ?_
 refine G_done ?_
 refine G_ifD rfl (fun hc1 => ?_) (fun hc1 => ?_)
 rotate_left
 · (first | (exact absurd rfl hc1) | (exact absurd hc1 (by decide)) | (exact absurd (by decide) hc1) | (exfalso; omega))
 refine G_seq ?_
 refine G_region (l := [0, 1, 2, 3]) rfl ?_
 refine G_val rfl rfl rfl rfl (V_buildS (cs := [_, _, _, _, _, _, _, _]) rfl Tryz.underlying76 infJourX_76 rfl plcJourX_76 rfl rfl rfl) ?_
 refine G_val rfl rfl rfl rfl (V_move rfl rfl) ?_
 refine G_put (l1 := []) (L' := [_, _]) rfl rfl rfl rfl (P_storeA (s := 8) rfl rfl rfl (mem_at 0 rfl) (by rfl) infJourX_76 rfl (by rfl) (by simp [Value.oneCell', spCells, pCells, wCells, kCells, rgC, lgC, rdC, Sl.v, zeroF, foundC, jC])) rfl ?_
 refine G_val rfl rfl rfl rfl (V_assign rfl rfl) ?_
 refine G_done ?_
 refine G_ret (post := []) Tryz.func32 rfl (RVs_cons (RV_cell (s := 8) rfl (mem_at 0 rfl) Tryz.underlying76 rfl infJourX_76 rfl (by rfl)) (RVs_cons (RV_tmp rfl) RVs_nil)) [] rfl ?_
 dsimp only [packed]
 exact ⟨rfl, rfl⟩


theorem JD.pe {N R : Nat} {k : Dk} {sp : Sp} {text : List UInt8} {recs : List (List UInt8)} (h : JD N R k sp text recs) : partE N (R : Int) = 0 := partE_0.2 (by have := h.h.rN; have := h.h.r1; omega)
theorem JD.end_ {N R : Nat} {k : Dk} {sp : Sp} {text : List UInt8} {recs : List (List UInt8)} (h : JD N R k sp text recs) : (pcs recs).length ≤ N - (2 + 2 * R) := by
  have := rp_end_le (rb := reg (2 + 2 * R) (N - (2 + 2 * R)) k.L) (e := sp.epoch) (base0 := sp.base)
  rw [h.rpl, reg_len (by have := h.h.rN; have := h.h.len; omega)] at this
  exact this

set_option maxRecDepth 100000 in
set_option maxHeartbeats 2000000 in
theorem jn_look (d n lb lcap : Nat) (lcs : Array Value) (uw : Sl) (k : Dk) (h : DkAt k n lb lcs lcap uw) (R : Nat) (sp : Sp) (text : List UInt8) (recs : List (List UInt8)) (hj : JD n R k sp text recs) :
    Ct Tryz.prog 32 [.agg #[.pointer (some ⟨d, 0, none⟩), .int .i64 (R : Int)]] [(some d, .cells #[.slice (some ⟨lb, 0, none⟩) n lcap, uw.v k.W.length, .int .i64 k.fuse, .bool k.dead] 67 (0, 0)), (some lb, .cells lcs 9 (0, 0)), (uw.ob, .cells uw.cs 90 uw.fz)] [] fun v post => ∃ u : Sl, Own 1 u (recs.map strC) recs.length ∧ v = .tuple #[.agg (foundC sp text (u.v recs.length) (pcs recs).length).toArray, .int .i64 0] ∧ post = [(u.ob, .cells u.cs 9 u.fz)] := by
 have hb := h.bd
 have hb1 := hb.n1
 have hb2 := hb.n4
 have hb3 := hb.ncs
 have hb4 := hb.ncap
 have hb5 := hb.cap
 have hb6 := hb.w
 have hb7 := hb.wc
 have hln := h.len
 have hp := hj.pe
 have hrN := hj.h.rN
 have hn60 := hj.h.n60
 obtain ⟨hl1, hl2⟩ := jd_load hj.h h.ok
 obtain ⟨hg1, hg2⟩ := jd_got hj.h h.ok
 have hrep := jd_rep hj h.ok
 have hsl := slot_f (R := R) hj.h.may
 have hsok := hj.h.ok
 have hb1_ := hsok.b1
 have he1_ := hsok.e1
 have hz1_ := hsok.z1
 have hmb := hj.h.may.2.1
 refine ct_of Tryz.func32 rfl rfl (fun w0 => ?_)
 show G _ _ [(0, _)] _ _
 refine G_seq ?_
 refine G_region (l := [0, 1, 2]) rfl ?_
 refine G_new rfl rfl rfl rfl (N_boxA rfl rfl) (fun b1 => ?_)
 refine G_new rfl rfl rfl rfl (N_allocA rfl infJourX_76 rfl) (fun b2 => ?_)
 refine G_val rfl rfl rfl rfl (V_assign rfl rfl) ?_
 refine G_done ?_
 refine G_seq ?_
 refine G_seq ?_
 refine G_region (l := [0, 1, 2]) rfl ?_
 refine G_val rfl rfl rfl rfl (V_loadW (s := 2) rfl rfl (mem_at 4 rfl) Tryz.underlying70 rfl infJourX_70 rfl (by rfl)) ?_
 refine G_call (L2 := [_, _]) rfl rfl rfl rfl rfl rfl Tryz.call30 ((jn_check d n lb lcap lcs uw k h (R : Int) (by omega) (by omega)).weaken (fun v post h => by rw [hp] at h; exact h)) [] [0] rfl rfl ?_
 rintro v post ⟨rfl, rfl⟩
 show G _ _ _ [_, _] _
 refine G_val rfl rfl rfl rfl (V_assign rfl rfl) ?_
 refine G_done ?_
 refine G_seq ?_
 refine G_region (l := [0, 1]) rfl ?_
 refine G_val rfl rfl rfl rfl (V_move rfl rfl) ?_
 refine G_val rfl rfl rfl rfl (V_neq rfl rfl rfl) ?_
 refine G_done ?_
 refine G_ifD rfl (fun hc1 => ?_) (fun hc1 => ?_)
 · (first | (exact absurd rfl hc1) | (exact absurd hc1 (by decide)) | (exact absurd (by decide) hc1) | (exfalso; omega))
 refine G_skip ?_
 refine G_seq ?_
 refine G_region (l := [0, 1, 2, 3, 4, 5, 6, 7, 8]) rfl ?_
 refine G_val rfl rfl rfl rfl (V_fieldAddr (fo := 0) rfl Tryz.underlying70 rfl infJourX_26 rfl rfl rfl) ?_
 refine G_val rfl rfl rfl rfl (V_load1 rfl rfl (mem_at 4 rfl) rfl Tryz.underlying26 rfl) ?_
 refine G_call (L2 := [_, _]) rfl rfl rfl rfl rfl rfl Tryz.call54 ((sup_load d n lb lcap lcs uw k h).weaken (fun v post h => by rw [hl1, hl2] at h; exact h)) [] [0, 1, 2] rfl rfl ?_
 rintro v post ⟨rfl, rfl⟩
 show G _ _ _ [_, _] _
 refine G_val rfl rfl rfl rfl (V_move rfl rfl) ?_
 refine G_val rfl rfl rfl rfl (V_extract rfl rfl rfl) ?_
 refine G_val rfl rfl rfl rfl (V_extract rfl rfl rfl) ?_
 refine G_new rfl rfl rfl rfl (N_allocA rfl infJourX_74 rfl) (fun b5 => ?_)
 refine G_put (l1 := []) (L' := [_, _, _]) rfl rfl rfl rfl (P_storeA (s := 5) rfl rfl rfl (mem_at 0 rfl) (by rfl) infJourX_74 rfl (by rfl) (by simp [Value.oneCell', spCells, pCells, wCells, kCells, rgC, lgC, rdC, Sl.v, zeroF, foundC, jC])) rfl ?_
 refine G_val rfl rfl rfl rfl (V_assign rfl rfl) ?_
 refine G_done ?_
 refine G_seq ?_
 refine G_seq ?_
 refine G_region (l := [0, 1]) rfl ?_
 refine G_val rfl rfl rfl rfl (V_move rfl rfl) ?_
 refine G_val rfl rfl rfl rfl (V_neq rfl rfl rfl) ?_
 refine G_done ?_
 refine G_ifD rfl (fun hc2 => ?_) (fun hc2 => ?_)
 · (first | (exact absurd rfl hc2) | (exact absurd hc2 (by decide)) | (exact absurd (by decide) hc2) | (exfalso; omega))
 refine G_skip ?_
 refine G_seq ?_
 refine GH_start (Lq := [_, _]) (isq := [2, 0]) (m := 18) mixedK rfl rfl ?_
 refine GH_take 0 rfl rfl rfl rfl (by kernel_rfl) (by kernel_rfl) (by kernel_rfl) (fun _ _ => (V_fieldAddr (fo := 0) rfl Tryz.underlying70 rfl infJourX_26 rfl rfl rfl)) ?_
 refine GH_take 1 rfl rfl rfl rfl (by kernel_rfl) (by kernel_rfl) (by kernel_rfl) (fun _ _ => (V_load1 rfl rfl (mem_at 3 rfl) rfl Tryz.underlying26 rfl)) ?_
 refine GH_take 2 rfl rfl rfl rfl (by kernel_rfl) (by kernel_rfl) (by kernel_rfl) (fun _ _ => (V_loadW (s := 2) rfl rfl (mem_at 3 rfl) Tryz.underlying70 rfl infJourX_70 rfl (by rfl))) ?_
 refine GH_take 3 rfl rfl rfl rfl (by kernel_rfl) (by kernel_rfl) (by kernel_rfl) (fun _ _ => (V_fieldAddr (fo := 3) rfl Tryz.underlying74 rfl infJourX_3 rfl rfl rfl)) ?_
 refine GH_take 4 rfl rfl rfl rfl (by kernel_rfl) (by kernel_rfl) (by kernel_rfl) (fun _ _ => (V_load1 rfl rfl (mem_at 4 rfl) rfl Tryz.underlying3 rfl)) ?_
 refine GH_take 6 rfl rfl rfl rfl (by kernel_rfl) (by kernel_rfl) (by kernel_rfl) (fun _ _ => (V_fieldAddr (fo := 1) rfl Tryz.underlying70 rfl infJourX_3 rfl rfl rfl)) ?_
 refine GH_take 7 rfl rfl rfl rfl (by kernel_rfl) (by kernel_rfl) (by kernel_rfl) (fun _ _ => (V_load1 rfl rfl (mem_at 3 rfl) rfl Tryz.underlying3 rfl)) ?_
 refine GH_take 8 rfl rfl rfl rfl (by kernel_rfl) (by kernel_rfl) (by kernel_rfl) (fun _ _ => (V_fieldAddr (fo := 1) rfl Tryz.underlying74 rfl infJourX_50 rfl rfl rfl)) ?_
 refine GH_take 9 rfl rfl rfl rfl (by kernel_rfl) (by kernel_rfl) (by kernel_rfl) (fun _ _ => (V_load1 rfl rfl (mem_at 4 rfl) rfl Tryz.underlying50 rfl)) ?_
 refine GH_take 10 rfl rfl rfl rfl (by kernel_rfl) (by kernel_rfl) (by kernel_rfl) (fun _ _ => (V_fieldAddr (fo := 4) rfl Tryz.underlying74 rfl infJourX_3 rfl rfl rfl)) ?_
 refine GH_take 11 rfl rfl rfl rfl (by kernel_rfl) (by kernel_rfl) (by kernel_rfl) (fun _ _ => (V_load1 rfl rfl (mem_at 4 rfl) rfl Tryz.underlying3 rfl)) ?_
 refine GH_all [5] (by kernel_rfl) (by decide) ?_
 refine (And.intro ?_ trivial)
 ·
  refine GHop_call (L2 := [_, _, _]) rfl rfl rfl rfl rfl rfl Tryz.call53 (jn_slotZ (.pointer (some ⟨d, 0, none⟩)) rfl (R : Int) sp.slot ((slotF R sp : Nat) : Int) hsl.2 (by omega) (by omega)) [] [] rfl rfl [2, 0] (by rintro v post ⟨rfl, rfl⟩; exact ⟨_, rfl⟩) ?_
  rintro v post ⟨rfl, rfl⟩
  show GH _ _ _ _ _ _ _ [_, _, _] _
  refine GH_all [12] (by kernel_rfl) (by decide) ?_
  refine (And.intro ?_ trivial)
  ·
   refine GHop_call (L2 := [_, _, _]) rfl rfl rfl rfl rfl rfl Tryz.call55 ((sn_get d n lb lcap lcs uw k h ((slotF R sp : Nat) : Int) (R : Int) sp.base (by omega) (by omega) (by omega) (by omega) hb1_ sp.size hz1_ hj.h.alive).weaken (fun v post h => by rw [hg1, hg2] at h; exact h)) [] [0, 1, 2] rfl rfl [2, 0] (by rintro v post ⟨rfl, rfl⟩; exact ⟨_, rfl⟩) ?_
   rintro v post ⟨rfl, rfl⟩
   show GH _ _ _ _ _ _ _ [_, _, _] _
   refine GH_take 13 rfl rfl rfl rfl (by kernel_rfl) (by kernel_rfl) (by kernel_rfl) (fun _ _ => (V_move rfl rfl)) ?_
   refine GH_take 14 rfl rfl rfl rfl (by kernel_rfl) (by kernel_rfl) (by kernel_rfl) (fun _ _ => (V_extract rfl rfl rfl)) ?_
   refine GH_take 15 rfl rfl rfl rfl (by kernel_rfl) (by kernel_rfl) (by kernel_rfl) (fun _ _ => (V_extract rfl rfl rfl)) ?_
   refine GH_take 16 rfl rfl rfl rfl (by kernel_rfl) (by kernel_rfl) (by kernel_rfl) (fun _ _ => (V_assign rfl rfl)) ?_
   refine GH_take 17 rfl rfl rfl rfl (by kernel_rfl) (by kernel_rfl) (by kernel_rfl) (fun _ _ => (V_assign rfl rfl)) ?_
   refine GH_done (by kernel_rfl) ?_
   refine G_seq ?_
   refine G_seq ?_
   refine G_region (l := [0, 1]) rfl ?_
   refine G_val rfl rfl rfl rfl (V_move rfl rfl) ?_
   refine G_val rfl rfl rfl rfl (V_neq rfl rfl rfl) ?_
   refine G_done ?_
   refine G_ifD rfl (fun hc3 => ?_) (fun hc3 => ?_)
   · (first | (exact absurd rfl hc3) | (exact absurd hc3 (by decide)) | (exact absurd (by decide) hc3) | (exfalso; omega))
   refine G_skip ?_
   refine G_seq ?_
   refine GH_start (Lq := [_, _]) (isq := [2, 0]) (m := 18) mixedK rfl rfl ?_
   refine GH_take 0 rfl rfl rfl rfl (by kernel_rfl) (by kernel_rfl) (by kernel_rfl) (fun _ _ => (V_fieldAddr (fo := 0) rfl Tryz.underlying70 rfl infJourX_26 rfl rfl rfl)) ?_
   refine GH_take 1 rfl rfl rfl rfl (by kernel_rfl) (by kernel_rfl) (by kernel_rfl) (fun _ _ => (V_load1 rfl rfl (mem_at 3 rfl) rfl Tryz.underlying26 rfl)) ?_
   refine GH_take 2 rfl rfl rfl rfl (by kernel_rfl) (by kernel_rfl) (by kernel_rfl) (fun _ _ => (V_loadW (s := 2) rfl rfl (mem_at 3 rfl) Tryz.underlying70 rfl infJourX_70 rfl (by rfl))) ?_
   refine GH_take 4 rfl rfl rfl rfl (by kernel_rfl) (by kernel_rfl) (by kernel_rfl) (fun _ _ => (V_loadW (s := 2) rfl rfl (mem_at 3 rfl) Tryz.underlying70 rfl infJourX_70 rfl (by rfl))) ?_
   refine GH_take 6 rfl rfl rfl rfl (by kernel_rfl) (by kernel_rfl) (by kernel_rfl) (fun _ _ => (V_fieldAddr (fo := 1) rfl Tryz.underlying74 rfl infJourX_50 rfl rfl rfl)) ?_
   refine GH_take 7 rfl rfl rfl rfl (by kernel_rfl) (by kernel_rfl) (by kernel_rfl) (fun _ _ => (V_load1 rfl rfl (mem_at 4 rfl) rfl Tryz.underlying50 rfl)) ?_
   refine GH_take 8 rfl rfl rfl rfl (by kernel_rfl) (by kernel_rfl) (by kernel_rfl) (fun _ _ => (V_fieldAddr (fo := 2) rfl Tryz.underlying74 rfl infJourX_50 rfl rfl rfl)) ?_
   refine GH_take 9 rfl rfl rfl rfl (by kernel_rfl) (by kernel_rfl) (by kernel_rfl) (fun _ _ => (V_load1 rfl rfl (mem_at 4 rfl) rfl Tryz.underlying50 rfl)) ?_
   refine GH_all [3] (by kernel_rfl) (by decide) ?_
   refine (And.intro ?_ trivial)
   ·
    refine GHop_call (L2 := [_, _, _]) rfl rfl rfl rfl rfl rfl Tryz.call37 (jn_regionZ (.pointer (some ⟨d, 0, none⟩)) rfl (R : Int) ((2 + 2 * R : Nat) : Int) (by omega) (by omega) (by omega)) [] [] rfl rfl [2, 0] (by rintro v post ⟨rfl, rfl⟩; exact ⟨_, rfl⟩) ?_
    rintro v post ⟨rfl, rfl⟩
    show GH _ _ _ _ _ _ _ [_, _, _] _
    refine GH_all [5] (by kernel_rfl) (by decide) ?_
    refine (And.intro ?_ trivial)
    ·
     refine GHop_call (L2 := [_, _, _]) rfl rfl rfl rfl rfl rfl Tryz.call38 (jn_leftZ d n lb lcap lcs uw k h (R : Int) ((2 + 2 * R : Nat) : Int) (by omega) (by omega) (by omega) ((n - (2 + 2 * R) : Nat) : Int) (by omega)) [] [0] rfl rfl [2, 0] (by rintro v post ⟨rfl, rfl⟩; exact ⟨_, rfl⟩) ?_
     rintro v post ⟨rfl, rfl⟩
     show GH _ _ _ _ _ _ _ [_, _, _] _
     refine GH_all [10] (by kernel_rfl) (by decide) ?_
     refine (And.intro ?_ trivial)
     ·
      refine GHop_call (L2 := [_, _, _]) rfl rfl rfl rfl rfl rfl Tryz.call56 ((lg_replay d n lb lcap lcs uw k h ((2 + 2 * R : Nat) : Int) ((n - (2 + 2 * R) : Nat) : Int) sp.base sp.epoch (rgE_ok.2 (by omega)) hj.h.alive (by omega) hb1_ he1_).weaken (fun v post h => by rw [Int.toNat_natCast, hrep] at h; exact h)) [] [0, 1, 2] rfl rfl [3, 1] (by rintro v post ⟨u, hu, rfl, rfl⟩; exact ⟨_, rfl⟩) ?_
      rintro v post ⟨u, hu, rfl, rfl⟩
      show GH _ _ _ _ _ _ _ [_, _, _, _] _
      refine GH_take 11 rfl rfl rfl rfl (by kernel_rfl) (by kernel_rfl) (by kernel_rfl) (fun _ _ => (V_move rfl rfl)) ?_
      refine GH_take 12 rfl rfl rfl rfl (by kernel_rfl) (by kernel_rfl) (by kernel_rfl) (fun _ _ => (V_extract rfl rfl rfl)) ?_
      refine GH_take 13 rfl rfl rfl rfl (by kernel_rfl) (by kernel_rfl) (by kernel_rfl) (fun _ _ => (V_extract rfl rfl rfl)) ?_
      refine GH_take 14 rfl rfl rfl rfl (by kernel_rfl) (by kernel_rfl) (by kernel_rfl) (fun _ _ => (V_extract rfl rfl rfl)) ?_
      refine GH_take 15 rfl rfl rfl rfl (by kernel_rfl) (by kernel_rfl) (by kernel_rfl) (fun _ _ => (V_assign rfl rfl)) ?_
      refine GH_take 16 rfl rfl rfl rfl (by kernel_rfl) (by kernel_rfl) (by kernel_rfl) (fun _ _ => (V_assign rfl rfl)) ?_
      refine GH_take 17 rfl rfl rfl rfl (by kernel_rfl) (by kernel_rfl) (by kernel_rfl) (fun _ _ => (V_assign rfl rfl)) ?_
      refine GH_done (by kernel_rfl) ?_
      refine G_seq ?_
      refine G_seq ?_
      refine G_region (l := [0, 1]) rfl ?_
      refine G_val rfl rfl rfl rfl (V_move rfl rfl) ?_
      refine G_val rfl rfl rfl rfl (V_neq rfl rfl rfl) ?_
      refine G_done ?_
      refine G_ifD rfl (fun hc4 => ?_) (fun hc4 => ?_)
      · (first | (exact absurd rfl hc4) | (exact absurd hc4 (by decide)) | (exact absurd (by decide) hc4) | (exfalso; omega))
      refine G_skip ?_
      refine G_seq ?_
      refine G_region (l := [0, 1, 2, 3, 4, 5, 6]) rfl ?_
      refine G_val rfl rfl rfl rfl (V_loadW (s := 5) rfl rfl (mem_at 4 rfl) Tryz.underlying74 rfl infJourX_74 rfl (by rfl)) ?_
      refine G_val rfl rfl rfl rfl (V_move rfl rfl) ?_
      refine G_val rfl rfl rfl rfl (V_move rfl rfl) ?_
      refine G_val rfl rfl rfl rfl (V_move rfl rfl) ?_
      refine G_val rfl rfl rfl rfl (V_buildS (cs := [_, _, _, _, _, _, _, _]) rfl Tryz.underlying76 infJourX_76 rfl plcJourX_76 rfl rfl rfl) ?_
      refine G_put (l1 := [_, _]) (L' := [_, _, _, _]) rfl rfl rfl rfl (P_storeA (s := 8) rfl rfl rfl (mem_at 2 rfl) (by rfl) infJourX_76 rfl (by rfl) (by simp [Value.oneCell', spCells, pCells, wCells, kCells, rgC, lgC, rdC, Sl.v, zeroF, foundC, jC])) rfl ?_
      refine G_val rfl rfl rfl rfl (V_assign rfl rfl) ?_
      refine G_done ?_
      refine G_ret (post := [_]) Tryz.func32 rfl (RVs_cons (RV_cell (s := 8) rfl (mem_at 5 rfl) Tryz.underlying76 rfl infJourX_76 rfl (by rfl)) (RVs_cons (RV_tmp rfl) RVs_nil)) [0] rfl ?_
      dsimp only [packed]
      exact ⟨u, hu, rfl, rfl⟩

set_option maxRecDepth 100000 in
set_option maxHeartbeats 1000000 in
theorem jn_Look_1 (d n lb lcap : Nat) (lcs : Array Value) (uw : Sl) (k : Dk) (h : DkAt k n lb lcs lcap uw) (room : Int) (hr0 : -9223372036854775808 ≤ room) (hr1 : room ≤ 9223372036854775807) (hp : partE n room = 1) :
    Ct Tryz.prog 27 [.pointer (some ⟨d, 0, none⟩), .int .i64 room] [(some d, .cells #[.slice (some ⟨lb, 0, none⟩) n lcap, uw.v k.W.length, .int .i64 k.fuse, .bool k.dead] 67 (0, 0))] [] fun v post => v = .tuple #[.string (bs []), .slice none 0 0, .int .i64 1] ∧ post = [] := by
 refine ct_of Tryz.func27 rfl rfl (fun w0 => ?_)
 show G _ _ [(0, _), (1, _)] _ _
 refine G_seq ?_
 refine G_region (l := [0, 1, 2]) rfl ?_
 refine G_val rfl rfl rfl rfl (V_assign rfl rfl) ?_
 refine G_val rfl rfl rfl rfl (V_assign rfl rfl) ?_
 refine G_val rfl rfl rfl rfl (V_assign rfl rfl) ?_
 refine G_done ?_
 refine G_seq ?_
 refine G_region (l := [0, 1, 2, 3, 4, 5, 6, 7, 8, 9]) rfl ?_
 refine G_val rfl rfl rfl rfl (V_move rfl rfl) ?_
 refine G_val rfl rfl rfl rfl (V_move rfl rfl) ?_
 refine G_val rfl rfl rfl rfl (V_buildS (cs := [_, _]) rfl Tryz.underlying70 infJourX_70 rfl plcJourX_70 rfl rfl rfl) ?_
 refine G_call (L2 := []) rfl rfl rfl rfl rfl rfl Tryz.call32 (jn_look_1 d n lb lcap lcs uw k h room hr0 hr1 hp) [] [0] rfl rfl ?_
 rintro v post ⟨rfl, rfl⟩
 refine G_val rfl rfl rfl rfl (V_move rfl rfl) ?_
 refine G_val rfl rfl rfl rfl (V_extract rfl rfl rfl) ?_
 refine G_val rfl rfl rfl rfl (V_extract rfl rfl rfl) ?_
 refine G_new rfl rfl rfl rfl (N_allocA rfl infJourX_76 rfl) (fun b7 => ?_)
 refine G_put (l1 := []) (L' := [_]) rfl rfl rfl rfl (P_storeA (s := 8) rfl rfl rfl (mem_at 0 rfl) (by rfl) infJourX_76 rfl (by rfl) (by simp [Value.oneCell', spCells, pCells, wCells, kCells, rgC, lgC, rdC, Sl.v, zeroF, foundC, jC])) rfl ?_
 refine G_val rfl rfl rfl rfl (V_assign rfl rfl) ?_
 refine G_done ?_
 refine G_seq ?_
 refine GH_start (Lq := [_]) (isq := [0]) (m := 8) mixedK rfl rfl ?_
 refine GH_take 0 rfl rfl rfl rfl (by kernel_rfl) (by kernel_rfl) (by kernel_rfl) (fun _ _ => (V_fieldAddr (fo := 5) rfl Tryz.underlying76 rfl infJourX_9 rfl rfl rfl)) ?_
 refine GH_take 1 rfl rfl rfl rfl (by kernel_rfl) (by kernel_rfl) (by kernel_rfl) (fun _ _ => (V_load1 rfl rfl (mem_at 1 rfl) rfl Tryz.underlying9 rfl)) ?_
 refine GH_take 2 rfl rfl rfl rfl (by kernel_rfl) (by kernel_rfl) (by kernel_rfl) (fun _ _ => (V_fieldAddr (fo := 6) rfl Tryz.underlying76 rfl infJourX_34 rfl rfl rfl)) ?_
 refine GH_take 3 rfl rfl rfl rfl (by kernel_rfl) (by kernel_rfl) (by kernel_rfl) (fun _ _ => (V_load1 rfl rfl (mem_at 1 rfl) rfl Tryz.underlying34 rfl)) ?_
 refine GH_take 4 rfl rfl rfl rfl (by kernel_rfl) (by kernel_rfl) (by kernel_rfl) (fun _ _ => (V_move rfl rfl)) ?_
 refine GH_take 5 rfl rfl rfl rfl (by kernel_rfl) (by kernel_rfl) (by kernel_rfl) (fun _ _ => (V_assign rfl rfl)) ?_
 refine GH_take 6 rfl rfl rfl rfl (by kernel_rfl) (by kernel_rfl) (by kernel_rfl) (fun _ _ => (V_assign rfl rfl)) ?_
 refine GH_take 7 rfl rfl rfl rfl (by kernel_rfl) (by kernel_rfl) (by kernel_rfl) (fun _ _ => (V_assign rfl rfl)) ?_
 refine GH_done (by kernel_rfl) ?_
 refine G_ret (post := []) Tryz.func27 rfl (RVs_cons (RV_tmp rfl) (RVs_cons (RV_tmp rfl) (RVs_cons (RV_tmp rfl) RVs_nil))) [] rfl ?_
 dsimp only [packed]
 exact ⟨rfl, rfl⟩

set_option maxRecDepth 100000 in
set_option maxHeartbeats 1000000 in
theorem jn_Look_18 (d n lb lcap : Nat) (lcs : Array Value) (uw : Sl) (k : Dk) (h : DkAt k n lb lcs lcap uw) (R : Nat) (hR : R ≤ 100000) (hp : partE n (R : Int) = 0) (hl : loadE k = 18) :
    Ct Tryz.prog 27 [.pointer (some ⟨d, 0, none⟩), .int .i64 (R : Int)] [(some d, .cells #[.slice (some ⟨lb, 0, none⟩) n lcap, uw.v k.W.length, .int .i64 k.fuse, .bool k.dead] 67 (0, 0)), (some lb, .cells lcs 9 (0, 0)), (uw.ob, .cells uw.cs 90 uw.fz)] [] fun v post => v = .tuple #[.string (bs []), .slice none 0 0, .int .i64 18] ∧ post = [] := by
 refine ct_of Tryz.func27 rfl rfl (fun w0 => ?_)
 show G _ _ [(0, _), (1, _)] _ _
 refine G_seq ?_
 refine G_region (l := [0, 1, 2]) rfl ?_
 refine G_val rfl rfl rfl rfl (V_assign rfl rfl) ?_
 refine G_val rfl rfl rfl rfl (V_assign rfl rfl) ?_
 refine G_val rfl rfl rfl rfl (V_assign rfl rfl) ?_
 refine G_done ?_
 refine G_seq ?_
 refine G_region (l := [0, 1, 2, 3, 4, 5, 6, 7, 8, 9]) rfl ?_
 refine G_val rfl rfl rfl rfl (V_move rfl rfl) ?_
 refine G_val rfl rfl rfl rfl (V_move rfl rfl) ?_
 refine G_val rfl rfl rfl rfl (V_buildS (cs := [_, _]) rfl Tryz.underlying70 infJourX_70 rfl plcJourX_70 rfl rfl rfl) ?_
 refine G_call (L2 := []) rfl rfl rfl rfl rfl rfl Tryz.call32 (jn_look_18 d n lb lcap lcs uw k h R hR hp hl) [] [0, 1, 2] rfl rfl ?_
 rintro v post ⟨rfl, rfl⟩
 refine G_val rfl rfl rfl rfl (V_move rfl rfl) ?_
 refine G_val rfl rfl rfl rfl (V_extract rfl rfl rfl) ?_
 refine G_val rfl rfl rfl rfl (V_extract rfl rfl rfl) ?_
 refine G_new rfl rfl rfl rfl (N_allocA rfl infJourX_76 rfl) (fun b7 => ?_)
 refine G_put (l1 := []) (L' := [_]) rfl rfl rfl rfl (P_storeA (s := 8) rfl rfl rfl (mem_at 0 rfl) (by rfl) infJourX_76 rfl (by rfl) (by simp [Value.oneCell', spCells, pCells, wCells, kCells, rgC, lgC, rdC, Sl.v, zeroF, foundC, jC])) rfl ?_
 refine G_val rfl rfl rfl rfl (V_assign rfl rfl) ?_
 refine G_done ?_
 refine G_seq ?_
 refine GH_start (Lq := [_]) (isq := [0]) (m := 8) mixedK rfl rfl ?_
 refine GH_take 0 rfl rfl rfl rfl (by kernel_rfl) (by kernel_rfl) (by kernel_rfl) (fun _ _ => (V_fieldAddr (fo := 5) rfl Tryz.underlying76 rfl infJourX_9 rfl rfl rfl)) ?_
 refine GH_take 1 rfl rfl rfl rfl (by kernel_rfl) (by kernel_rfl) (by kernel_rfl) (fun _ _ => (V_load1 rfl rfl (mem_at 3 rfl) rfl Tryz.underlying9 rfl)) ?_
 refine GH_take 2 rfl rfl rfl rfl (by kernel_rfl) (by kernel_rfl) (by kernel_rfl) (fun _ _ => (V_fieldAddr (fo := 6) rfl Tryz.underlying76 rfl infJourX_34 rfl rfl rfl)) ?_
 refine GH_take 3 rfl rfl rfl rfl (by kernel_rfl) (by kernel_rfl) (by kernel_rfl) (fun _ _ => (V_load1 rfl rfl (mem_at 3 rfl) rfl Tryz.underlying34 rfl)) ?_
 refine GH_take 4 rfl rfl rfl rfl (by kernel_rfl) (by kernel_rfl) (by kernel_rfl) (fun _ _ => (V_move rfl rfl)) ?_
 refine GH_take 5 rfl rfl rfl rfl (by kernel_rfl) (by kernel_rfl) (by kernel_rfl) (fun _ _ => (V_assign rfl rfl)) ?_
 refine GH_take 6 rfl rfl rfl rfl (by kernel_rfl) (by kernel_rfl) (by kernel_rfl) (fun _ _ => (V_assign rfl rfl)) ?_
 refine GH_take 7 rfl rfl rfl rfl (by kernel_rfl) (by kernel_rfl) (by kernel_rfl) (fun _ _ => (V_assign rfl rfl)) ?_
 refine GH_done (by kernel_rfl) ?_
 refine G_ret (post := []) Tryz.func27 rfl (RVs_cons (RV_tmp rfl) (RVs_cons (RV_tmp rfl) (RVs_cons (RV_tmp rfl) RVs_nil))) [] rfl ?_
 dsimp only [packed]
 exact ⟨rfl, rfl⟩

set_option maxRecDepth 100000 in
set_option maxHeartbeats 1000000 in
theorem jn_Look_nil (room : Int) :
    Ct Tryz.prog 27 [.pointer none, .int .i64 room] [] [] fun v post => v = .tuple #[.string (bs []), .slice none 0 0, .int .i64 19] ∧ post = [] := by
 refine ct_of Tryz.func27 rfl rfl (fun w0 => ?_)
 show G _ _ [(0, _), (1, _)] _ _
 refine G_seq ?_
 refine G_region (l := [0, 1, 2]) rfl ?_
 refine G_val rfl rfl rfl rfl (V_assign rfl rfl) ?_
 refine G_val rfl rfl rfl rfl (V_assign rfl rfl) ?_
 refine G_val rfl rfl rfl rfl (V_assign rfl rfl) ?_
 refine G_done ?_
 refine G_seq ?_
 refine G_region (l := [0, 1, 2, 3, 4, 5, 6, 7, 8, 9]) rfl ?_
 refine G_val rfl rfl rfl rfl (V_move rfl rfl) ?_
 refine G_val rfl rfl rfl rfl (V_move rfl rfl) ?_
 refine G_val rfl rfl rfl rfl (V_buildS (cs := [_, _]) rfl Tryz.underlying70 infJourX_70 rfl plcJourX_70 rfl rfl rfl) ?_
 refine G_call (L2 := []) rfl rfl rfl rfl rfl rfl Tryz.call32 (jn_look_nil room) [] [] rfl rfl ?_
 rintro v post ⟨rfl, rfl⟩
 refine G_val rfl rfl rfl rfl (V_move rfl rfl) ?_
 refine G_val rfl rfl rfl rfl (V_extract rfl rfl rfl) ?_
 refine G_val rfl rfl rfl rfl (V_extract rfl rfl rfl) ?_
 refine G_new rfl rfl rfl rfl (N_allocA rfl infJourX_76 rfl) (fun b7 => ?_)
 refine G_put (l1 := []) (L' := [_]) rfl rfl rfl rfl (P_storeA (s := 8) rfl rfl rfl (mem_at 0 rfl) (by rfl) infJourX_76 rfl (by rfl) (by simp [Value.oneCell', spCells, pCells, wCells, kCells, rgC, lgC, rdC, Sl.v, zeroF, foundC, jC])) rfl ?_
 refine G_val rfl rfl rfl rfl (V_assign rfl rfl) ?_
 refine G_done ?_
 refine G_seq ?_
 refine GH_start (Lq := [_]) (isq := [0]) (m := 8) mixedK rfl rfl ?_
 refine GH_take 0 rfl rfl rfl rfl (by kernel_rfl) (by kernel_rfl) (by kernel_rfl) (fun _ _ => (V_fieldAddr (fo := 5) rfl Tryz.underlying76 rfl infJourX_9 rfl rfl rfl)) ?_
 refine GH_take 1 rfl rfl rfl rfl (by kernel_rfl) (by kernel_rfl) (by kernel_rfl) (fun _ _ => (V_load1 rfl rfl (mem_at 0 rfl) rfl Tryz.underlying9 rfl)) ?_
 refine GH_take 2 rfl rfl rfl rfl (by kernel_rfl) (by kernel_rfl) (by kernel_rfl) (fun _ _ => (V_fieldAddr (fo := 6) rfl Tryz.underlying76 rfl infJourX_34 rfl rfl rfl)) ?_
 refine GH_take 3 rfl rfl rfl rfl (by kernel_rfl) (by kernel_rfl) (by kernel_rfl) (fun _ _ => (V_load1 rfl rfl (mem_at 0 rfl) rfl Tryz.underlying34 rfl)) ?_
 refine GH_take 4 rfl rfl rfl rfl (by kernel_rfl) (by kernel_rfl) (by kernel_rfl) (fun _ _ => (V_move rfl rfl)) ?_
 refine GH_take 5 rfl rfl rfl rfl (by kernel_rfl) (by kernel_rfl) (by kernel_rfl) (fun _ _ => (V_assign rfl rfl)) ?_
 refine GH_take 6 rfl rfl rfl rfl (by kernel_rfl) (by kernel_rfl) (by kernel_rfl) (fun _ _ => (V_assign rfl rfl)) ?_
 refine GH_take 7 rfl rfl rfl rfl (by kernel_rfl) (by kernel_rfl) (by kernel_rfl) (fun _ _ => (V_assign rfl rfl)) ?_
 refine GH_done (by kernel_rfl) ?_
 refine G_ret (post := []) Tryz.func27 rfl (RVs_cons (RV_tmp rfl) (RVs_cons (RV_tmp rfl) (RVs_cons (RV_tmp rfl) RVs_nil))) [] rfl ?_
 dsimp only [packed]
 exact ⟨rfl, rfl⟩

set_option maxRecDepth 100000 in
set_option maxHeartbeats 1000000 in
theorem jn_Look (d n lb lcap : Nat) (lcs : Array Value) (uw : Sl) (k : Dk) (h : DkAt k n lb lcs lcap uw) (R : Nat) (sp : Sp) (text : List UInt8) (recs : List (List UInt8)) (hj : JD n R k sp text recs) :
    Ct Tryz.prog 27 [.pointer (some ⟨d, 0, none⟩), .int .i64 (R : Int)] [(some d, .cells #[.slice (some ⟨lb, 0, none⟩) n lcap, uw.v k.W.length, .int .i64 k.fuse, .bool k.dead] 67 (0, 0)), (some lb, .cells lcs 9 (0, 0)), (uw.ob, .cells uw.cs 90 uw.fz)] [] fun v post => ∃ u : Sl, Own 1 u (recs.map strC) recs.length ∧ v = .tuple #[.string (bs text), u.v recs.length, .int .i64 0] ∧ post = [(u.ob, .cells u.cs 9 u.fz)] := by
 refine ct_of Tryz.func27 rfl rfl (fun w0 => ?_)
 show G _ _ [(0, _), (1, _)] _ _
 refine G_seq ?_
 refine G_region (l := [0, 1, 2]) rfl ?_
 refine G_val rfl rfl rfl rfl (V_assign rfl rfl) ?_
 refine G_val rfl rfl rfl rfl (V_assign rfl rfl) ?_
 refine G_val rfl rfl rfl rfl (V_assign rfl rfl) ?_
 refine G_done ?_
 refine G_seq ?_
 refine G_region (l := [0, 1, 2, 3, 4, 5, 6, 7, 8, 9]) rfl ?_
 refine G_val rfl rfl rfl rfl (V_move rfl rfl) ?_
 refine G_val rfl rfl rfl rfl (V_move rfl rfl) ?_
 refine G_val rfl rfl rfl rfl (V_buildS (cs := [_, _]) rfl Tryz.underlying70 infJourX_70 rfl plcJourX_70 rfl rfl rfl) ?_
 refine G_call (L2 := []) rfl rfl rfl rfl rfl rfl Tryz.call32 (jn_look d n lb lcap lcs uw k h R sp text recs hj) [] [0, 1, 2] rfl rfl ?_
 rintro v post ⟨u, hu, rfl, rfl⟩
 show G _ _ _ [_] _
 refine G_val rfl rfl rfl rfl (V_move rfl rfl) ?_
 refine G_val rfl rfl rfl rfl (V_extract rfl rfl rfl) ?_
 refine G_val rfl rfl rfl rfl (V_extract rfl rfl rfl) ?_
 refine G_new rfl rfl rfl rfl (N_allocA rfl infJourX_76 rfl) (fun b7 => ?_)
 refine G_put (l1 := []) (L' := [_, _]) rfl rfl rfl rfl (P_storeA (s := 8) rfl rfl rfl (mem_at 0 rfl) (by rfl) infJourX_76 rfl (by rfl) (by simp [Value.oneCell', spCells, pCells, wCells, kCells, rgC, lgC, rdC, Sl.v, zeroF, foundC, jC])) rfl ?_
 refine G_val rfl rfl rfl rfl (V_assign rfl rfl) ?_
 refine G_done ?_
 refine G_seq ?_
 refine GH_start (Lq := [_]) (isq := [0]) (m := 8) mixedK rfl rfl ?_
 refine GH_take 0 rfl rfl rfl rfl (by kernel_rfl) (by kernel_rfl) (by kernel_rfl) (fun _ _ => (V_fieldAddr (fo := 5) rfl Tryz.underlying76 rfl infJourX_9 rfl rfl rfl)) ?_
 refine GH_take 1 rfl rfl rfl rfl (by kernel_rfl) (by kernel_rfl) (by kernel_rfl) (fun _ _ => (V_load1 rfl rfl (mem_at 3 rfl) rfl Tryz.underlying9 rfl)) ?_
 refine GH_take 2 rfl rfl rfl rfl (by kernel_rfl) (by kernel_rfl) (by kernel_rfl) (fun _ _ => (V_fieldAddr (fo := 6) rfl Tryz.underlying76 rfl infJourX_34 rfl rfl rfl)) ?_
 refine GH_take 3 rfl rfl rfl rfl (by kernel_rfl) (by kernel_rfl) (by kernel_rfl) (fun _ _ => (V_load1 rfl rfl (mem_at 3 rfl) rfl Tryz.underlying34 rfl)) ?_
 refine GH_take 4 rfl rfl rfl rfl (by kernel_rfl) (by kernel_rfl) (by kernel_rfl) (fun _ _ => (V_move rfl rfl)) ?_
 refine GH_take 5 rfl rfl rfl rfl (by kernel_rfl) (by kernel_rfl) (by kernel_rfl) (fun _ _ => (V_assign rfl rfl)) ?_
 refine GH_take 6 rfl rfl rfl rfl (by kernel_rfl) (by kernel_rfl) (by kernel_rfl) (fun _ _ => (V_assign rfl rfl)) ?_
 refine GH_take 7 rfl rfl rfl rfl (by kernel_rfl) (by kernel_rfl) (by kernel_rfl) (fun _ _ => (V_assign rfl rfl)) ?_
 refine GH_done (by kernel_rfl) ?_
 refine G_ret (post := [_]) Tryz.func27 rfl (RVs_cons (RV_tmp rfl) (RVs_cons (RV_tmp rfl) (RVs_cons (RV_tmp rfl) RVs_nil))) [1] rfl ?_
 dsimp only [packed]
 exact ⟨u, hu, rfl, rfl⟩

set_option maxRecDepth 100000 in
set_option maxHeartbeats 1000000 in
theorem jn_open_1 (d n lb lcap : Nat) (lcs : Array Value) (uw : Sl) (k : Dk) (h : DkAt k n lb lcs lcap uw) (room : Int) (hr0 : -9223372036854775808 ≤ room) (hr1 : room ≤ 9223372036854775807) (hp : partE n room = 1) :
    Ct Tryz.prog 14 [.pointer (some ⟨d, 0, none⟩), .int .i64 room] [(some d, .cells #[.slice (some ⟨lb, 0, none⟩) n lcap, uw.v k.W.length, .int .i64 k.fuse, .bool k.dead] 67 (0, 0))] [] fun v post => v = .tuple #[.pointer none, .string (bs []), .slice none 0 0, .int .i64 1] ∧ post = [] := by
 refine ct_of Tryz.func14 rfl rfl (fun w0 => ?_)
 show G _ _ [(0, _), (1, _)] _ _
 refine G_seq ?_
 refine G_region (l := [0, 1, 2, 3]) rfl ?_
 refine G_val rfl rfl rfl rfl (V_assign rfl rfl) ?_
 refine G_val rfl rfl rfl rfl (V_assign rfl rfl) ?_
 refine G_val rfl rfl rfl rfl (V_assign rfl rfl) ?_
 refine G_val rfl rfl rfl rfl (V_assign rfl rfl) ?_
 refine G_done ?_
 refine G_seq ?_
 refine G_region (l := [0, 1, 2, 3, 4]) rfl ?_
 refine G_val rfl rfl rfl rfl (V_move rfl rfl) ?_
 refine G_val rfl rfl rfl rfl (V_move rfl rfl) ?_
 refine G_val rfl rfl rfl rfl (V_buildS (cs := [_, _]) rfl Tryz.underlying70 infJourX_70 rfl plcJourX_70 rfl rfl rfl) ?_
 refine G_new rfl rfl rfl rfl (N_allocA rfl infJourX_70 rfl) (fun b8 => ?_)
 refine G_put (l1 := []) (L' := [_]) rfl rfl rfl rfl (P_storeA (s := 2) rfl rfl rfl (mem_at 0 rfl) (by rfl) infJourX_70 rfl (by rfl) (by simp [Value.oneCell', spCells, pCells, wCells, kCells, rgC, lgC, rdC, Sl.v, zeroF, foundC, jC])) rfl ?_
 refine G_done ?_
 refine G_seq ?_
 refine G_region (l := [0, 1, 2, 3, 4, 5, 6, 7]) rfl ?_
 refine G_val rfl rfl rfl rfl (V_loadW (s := 2) rfl rfl (mem_at 1 rfl) Tryz.underlying70 rfl infJourX_70 rfl (by rfl)) ?_
 refine G_call (L2 := [_]) rfl rfl rfl rfl rfl rfl Tryz.call32 (jn_look_1 d n lb lcap lcs uw k h room hr0 hr1 hp) [] [0] rfl rfl ?_
 rintro v post ⟨rfl, rfl⟩
 show G _ _ _ [_] _
 refine G_val rfl rfl rfl rfl (V_move rfl rfl) ?_
 refine G_val rfl rfl rfl rfl (V_extract rfl rfl rfl) ?_
 refine G_val rfl rfl rfl rfl (V_extract rfl rfl rfl) ?_
 refine G_new rfl rfl rfl rfl (N_allocA rfl infJourX_76 rfl) (fun b9 => ?_)
 refine G_put (l1 := []) (L' := [_, _]) rfl rfl rfl rfl (P_storeA (s := 8) rfl rfl rfl (mem_at 0 rfl) (by rfl) infJourX_76 rfl (by rfl) (by simp [Value.oneCell', spCells, pCells, wCells, kCells, rgC, lgC, rdC, Sl.v, zeroF, foundC, jC])) rfl ?_
 refine G_val rfl rfl rfl rfl (V_assign rfl rfl) ?_
 refine G_done ?_
 refine G_seq ?_
 refine G_seq ?_
 refine G_region (l := [0, 1]) rfl ?_
 refine G_val rfl rfl rfl rfl (V_move rfl rfl) ?_
 refine G_val rfl rfl rfl rfl (V_neq rfl rfl rfl) ?_
 refine G_done ?_
 refine G_ifD rfl (fun hc1 => ?_) (fun hc1 => ?_)
 rotate_left
 · (first | (exact absurd rfl hc1) | (exact absurd hc1 (by decide)) | (exact absurd (by decide) hc1) | (exfalso; omega))
 refine G_seq ?_
 refine G_region (l := [0, 1, 2, 3, 4]) rfl ?_
 refine G_val rfl rfl rfl rfl (V_move rfl rfl) ?_
 refine G_val rfl rfl rfl rfl (V_assign rfl rfl) ?_
 refine G_val rfl rfl rfl rfl (V_assign rfl rfl) ?_
 refine G_val rfl rfl rfl rfl (V_assign rfl rfl) ?_
 refine G_val rfl rfl rfl rfl (V_assign rfl rfl) ?_
 refine G_done ?_
 refine G_ret (post := []) Tryz.func14 rfl (RVs_cons (RV_tmp rfl) (RVs_cons (RV_tmp rfl) (RVs_cons (RV_tmp rfl) (RVs_cons (RV_tmp rfl) RVs_nil)))) [] rfl ?_
 dsimp only [packed]
 exact ⟨rfl, rfl⟩

set_option maxRecDepth 100000 in
set_option maxHeartbeats 1000000 in
theorem jn_open_18 (d n lb lcap : Nat) (lcs : Array Value) (uw : Sl) (k : Dk) (h : DkAt k n lb lcs lcap uw) (R : Nat) (hR : R ≤ 100000) (hp : partE n (R : Int) = 0) (hl : loadE k = 18) :
    Ct Tryz.prog 14 [.pointer (some ⟨d, 0, none⟩), .int .i64 (R : Int)] [(some d, .cells #[.slice (some ⟨lb, 0, none⟩) n lcap, uw.v k.W.length, .int .i64 k.fuse, .bool k.dead] 67 (0, 0)), (some lb, .cells lcs 9 (0, 0)), (uw.ob, .cells uw.cs 90 uw.fz)] [] fun v post => v = .tuple #[.pointer none, .string (bs []), .slice none 0 0, .int .i64 18] ∧ post = [] := by
 refine ct_of Tryz.func14 rfl rfl (fun w0 => ?_)
 show G _ _ [(0, _), (1, _)] _ _
 refine G_seq ?_
 refine G_region (l := [0, 1, 2, 3]) rfl ?_
 refine G_val rfl rfl rfl rfl (V_assign rfl rfl) ?_
 refine G_val rfl rfl rfl rfl (V_assign rfl rfl) ?_
 refine G_val rfl rfl rfl rfl (V_assign rfl rfl) ?_
 refine G_val rfl rfl rfl rfl (V_assign rfl rfl) ?_
 refine G_done ?_
 refine G_seq ?_
 refine G_region (l := [0, 1, 2, 3, 4]) rfl ?_
 refine G_val rfl rfl rfl rfl (V_move rfl rfl) ?_
 refine G_val rfl rfl rfl rfl (V_move rfl rfl) ?_
 refine G_val rfl rfl rfl rfl (V_buildS (cs := [_, _]) rfl Tryz.underlying70 infJourX_70 rfl plcJourX_70 rfl rfl rfl) ?_
 refine G_new rfl rfl rfl rfl (N_allocA rfl infJourX_70 rfl) (fun b8 => ?_)
 refine G_put (l1 := []) (L' := [_]) rfl rfl rfl rfl (P_storeA (s := 2) rfl rfl rfl (mem_at 0 rfl) (by rfl) infJourX_70 rfl (by rfl) (by simp [Value.oneCell', spCells, pCells, wCells, kCells, rgC, lgC, rdC, Sl.v, zeroF, foundC, jC])) rfl ?_
 refine G_done ?_
 refine G_seq ?_
 refine G_region (l := [0, 1, 2, 3, 4, 5, 6, 7]) rfl ?_
 refine G_val rfl rfl rfl rfl (V_loadW (s := 2) rfl rfl (mem_at 3 rfl) Tryz.underlying70 rfl infJourX_70 rfl (by rfl)) ?_
 refine G_call (L2 := [_]) rfl rfl rfl rfl rfl rfl Tryz.call32 (jn_look_18 d n lb lcap lcs uw k h R hR hp hl) [] [0, 1, 2] rfl rfl ?_
 rintro v post ⟨rfl, rfl⟩
 show G _ _ _ [_] _
 refine G_val rfl rfl rfl rfl (V_move rfl rfl) ?_
 refine G_val rfl rfl rfl rfl (V_extract rfl rfl rfl) ?_
 refine G_val rfl rfl rfl rfl (V_extract rfl rfl rfl) ?_
 refine G_new rfl rfl rfl rfl (N_allocA rfl infJourX_76 rfl) (fun b9 => ?_)
 refine G_put (l1 := []) (L' := [_, _]) rfl rfl rfl rfl (P_storeA (s := 8) rfl rfl rfl (mem_at 0 rfl) (by rfl) infJourX_76 rfl (by rfl) (by simp [Value.oneCell', spCells, pCells, wCells, kCells, rgC, lgC, rdC, Sl.v, zeroF, foundC, jC])) rfl ?_
 refine G_val rfl rfl rfl rfl (V_assign rfl rfl) ?_
 refine G_done ?_
 refine G_seq ?_
 refine G_seq ?_
 refine G_region (l := [0, 1]) rfl ?_
 refine G_val rfl rfl rfl rfl (V_move rfl rfl) ?_
 refine G_val rfl rfl rfl rfl (V_neq rfl rfl rfl) ?_
 refine G_done ?_
 refine G_ifD rfl (fun hc1 => ?_) (fun hc1 => ?_)
 rotate_left
 · (first | (exact absurd rfl hc1) | (exact absurd hc1 (by decide)) | (exact absurd (by decide) hc1) | (exfalso; omega))
 refine G_seq ?_
 refine G_region (l := [0, 1, 2, 3, 4]) rfl ?_
 refine G_val rfl rfl rfl rfl (V_move rfl rfl) ?_
 refine G_val rfl rfl rfl rfl (V_assign rfl rfl) ?_
 refine G_val rfl rfl rfl rfl (V_assign rfl rfl) ?_
 refine G_val rfl rfl rfl rfl (V_assign rfl rfl) ?_
 refine G_val rfl rfl rfl rfl (V_assign rfl rfl) ?_
 refine G_done ?_
 refine G_ret (post := []) Tryz.func14 rfl (RVs_cons (RV_tmp rfl) (RVs_cons (RV_tmp rfl) (RVs_cons (RV_tmp rfl) (RVs_cons (RV_tmp rfl) RVs_nil)))) [] rfl ?_
 dsimp only [packed]
 exact ⟨rfl, rfl⟩

set_option maxRecDepth 100000 in
set_option maxHeartbeats 1000000 in
theorem jn_open_21 (d n lb lcap : Nat) (lcs : Array Value) (uw : Sl) (k : Dk) (h : DkAt k n lb lcs lcap uw) (R : Nat) (sp : Sp) (text : List UInt8) (recs : List (List UInt8)) (hj : JD n R k sp text recs) (hE : storeE k (nextS sp) = 21) :
    Ct Tryz.prog 14 [.pointer (some ⟨d, 0, none⟩), .int .i64 (R : Int)] [] [(some d, .cells #[.slice (some ⟨lb, 0, none⟩) n lcap, uw.v k.W.length, .int .i64 k.fuse, .bool k.dead] 67 (0, 0)), (some lb, .cells lcs 9 (0, 0)), (uw.ob, .cells uw.cs 90 uw.fz)] fun v post => v = .tuple #[.pointer none, .string (bs []), .slice none 0 0, .int .i64 21] ∧ ∃ lcs1 uw1, DkAt (storeK k (nextS sp)) n lb lcs1 lcap uw1 ∧ post = [(some d, .cells #[.slice (some ⟨lb, 0, none⟩) n lcap, uw1.v (storeK k (nextS sp)).W.length, .int .i64 (storeK k (nextS sp)).fuse, .bool (storeK k (nextS sp)).dead] 67 (0, 0)), (some lb, .cells lcs1 9 (0, 0)), (uw1.ob, .cells uw1.cs 90 uw1.fz)] := by
 have hb := h.bd
 have hb1 := hb.n1
 have hb2 := hb.n4
 have hb3 := hb.ncs
 have hb4 := hb.ncap
 have hb5 := hb.cap
 have hb6 := hb.w
 have hb7 := hb.wc
 have hln := h.len
 have hrN := hj.h.rN
 have hn60 := hj.h.n60
 have hq := hj.h.q
 have heq := hj.h.eq
 have hend := hj.end_
 refine ct_of Tryz.func14 rfl rfl (fun w0 => ?_)
 show G _ _ [(0, _), (1, _)] _ _
 refine G_seq ?_
 refine G_region (l := [0, 1, 2, 3]) rfl ?_
 refine G_val rfl rfl rfl rfl (V_assign rfl rfl) ?_
 refine G_val rfl rfl rfl rfl (V_assign rfl rfl) ?_
 refine G_val rfl rfl rfl rfl (V_assign rfl rfl) ?_
 refine G_val rfl rfl rfl rfl (V_assign rfl rfl) ?_
 refine G_done ?_
 refine G_seq ?_
 refine G_region (l := [0, 1, 2, 3, 4]) rfl ?_
 refine G_val rfl rfl rfl rfl (V_move rfl rfl) ?_
 refine G_val rfl rfl rfl rfl (V_move rfl rfl) ?_
 refine G_val rfl rfl rfl rfl (V_buildS (cs := [_, _]) rfl Tryz.underlying70 infJourX_70 rfl plcJourX_70 rfl rfl rfl) ?_
 refine G_new rfl rfl rfl rfl (N_allocA rfl infJourX_70 rfl) (fun b8 => ?_)
 refine G_put (l1 := []) (L' := [_, _, _, _]) rfl rfl rfl rfl (P_storeA (s := 2) rfl rfl rfl (mem_at 0 rfl) (by rfl) infJourX_70 rfl (by rfl) (by simp [Value.oneCell', spCells, pCells, wCells, kCells, rgC, lgC, rdC, Sl.v, zeroF, foundC, jC])) rfl ?_
 refine G_done ?_
 refine G_seq ?_
 refine G_region (l := [0, 1, 2, 3, 4, 5, 6, 7]) rfl ?_
 refine G_val rfl rfl rfl rfl (V_loadW (s := 2) rfl rfl (mem_at 0 rfl) Tryz.underlying70 rfl infJourX_70 rfl (by rfl)) ?_
 refine G_call (L2 := [_, _, _, _]) rfl rfl rfl rfl rfl rfl Tryz.call32 (jn_look d n lb lcap lcs uw k h R sp text recs hj) [] [1, 2, 3] rfl rfl ?_
 rintro v post ⟨u, hu, rfl, rfl⟩
 show G _ _ _ [_, _, _, _, _] _
 refine G_val rfl rfl rfl rfl (V_move rfl rfl) ?_
 refine G_val rfl rfl rfl rfl (V_extract rfl rfl rfl) ?_
 refine G_val rfl rfl rfl rfl (V_extract rfl rfl rfl) ?_
 refine G_new rfl rfl rfl rfl (N_allocA rfl infJourX_76 rfl) (fun b9 => ?_)
 refine G_put (l1 := []) (L' := [_, _, _, _, _, _]) rfl rfl rfl rfl (P_storeA (s := 8) rfl rfl rfl (mem_at 0 rfl) (by rfl) infJourX_76 rfl (by rfl) (by simp [Value.oneCell', spCells, pCells, wCells, kCells, rgC, lgC, rdC, Sl.v, zeroF, foundC, jC])) rfl ?_
 refine G_val rfl rfl rfl rfl (V_assign rfl rfl) ?_
 refine G_done ?_
 refine G_seq ?_
 refine G_seq ?_
 refine G_region (l := [0, 1]) rfl ?_
 refine G_val rfl rfl rfl rfl (V_move rfl rfl) ?_
 refine G_val rfl rfl rfl rfl (V_neq rfl rfl rfl) ?_
 refine G_done ?_
 refine G_ifD rfl (fun hc1 => ?_) (fun hc1 => ?_)
 · (first | (exact absurd rfl hc1) | (exact absurd hc1 (by decide)) | (exact absurd (by decide) hc1) | (exfalso; omega))
 refine G_skip ?_
 refine G_seq ?_
 refine G_seq ?_
 refine G_region (l := [0, 1, 2]) rfl ?_
 refine G_val rfl rfl rfl rfl (V_fieldAddr (fo := 0) rfl Tryz.underlying76 rfl infJourX_74 rfl rfl rfl) ?_
 refine G_val rfl rfl rfl rfl (V_loadA (s := 5) (vs := (spCells sp).toArray) rfl rfl (mem_at 0 rfl) Tryz.underlying74 rfl infJourX_74 rfl (by simp [foundC, spCells]) (by rfl)) ?_
 refine G_call (L2 := [_, _, _, _, _, _]) rfl rfl rfl rfl rfl rfl Tryz.call33 (jn_last _ (by omega) (by omega)) [] [] rfl rfl ?_
 rintro v post ⟨rfl, rfl⟩
 show G _ _ _ [_, _, _, _, _, _] _
 refine G_done ?_
 refine G_else rfl ?_
 refine G_skip ?_
 refine G_seq ?_
 refine G_region (l := [0, 1, 2, 3, 4]) rfl ?_
 refine G_val rfl rfl rfl rfl (V_fieldAddr (fo := 0) rfl Tryz.underlying76 rfl infJourX_74 rfl rfl rfl) ?_
 refine G_val rfl rfl rfl rfl (V_loadA (s := 5) (vs := (spCells sp).toArray) rfl rfl (mem_at 0 rfl) Tryz.underlying74 rfl infJourX_74 rfl (by simp [foundC, spCells]) (by rfl)) ?_
 refine G_call (L2 := [_, _, _, _, _, _]) rfl rfl rfl rfl rfl rfl Tryz.call34 (jn_next _ (by omega) (by omega)) [] [] rfl rfl ?_
 rintro v post ⟨rfl, rfl⟩
 show G _ _ _ [_, _, _, _, _, _] _
 refine G_new rfl rfl rfl rfl (N_allocA rfl infJourX_74 rfl) (fun b11 => ?_)
 refine G_put (l1 := []) (L' := [_, _, _, _, _, _, _]) rfl rfl rfl rfl (P_storeA (s := 5) rfl rfl rfl (mem_at 0 rfl) (by rfl) infJourX_74 rfl (by rfl) (by simp [Value.oneCell', spCells, pCells, wCells, kCells, rgC, lgC, rdC, Sl.v, zeroF, foundC, jC])) rfl ?_
 refine G_done ?_
 refine G_seq ?_
 refine G_seq ?_
 refine G_region (l := [0, 1, 2, 3]) rfl ?_
 refine G_val rfl rfl rfl rfl (V_move rfl rfl) ?_
 refine G_val rfl rfl rfl rfl (V_loadW (s := 5) rfl rfl (mem_at 0 rfl) Tryz.underlying74 rfl infJourX_74 rfl (by rfl)) ?_
 refine G_call (L2 := [_, _, _, _]) rfl rfl rfl rfl rfl rfl Tryz.call35 ((sup_store d n lb lcap lcs uw k h (nextS sp) (next_ok hj.h.ok hj.h.q hj.h.eq) (by rw [hj.h.w0]; simp)).weaken (fun v post h => by rw [hE] at h; exact h)) [4, 4, 4] [] rfl rfl ?_
 rintro v post ⟨rfl, lcs1, uw1, h1, rfl⟩
 show G _ _ _ [_, _, _, _, _, _, _] _
 refine G_val rfl rfl rfl rfl (V_assign rfl rfl) ?_
 refine G_done ?_
 refine G_seq ?_
 refine G_region (l := [0, 1]) rfl ?_
 refine G_val rfl rfl rfl rfl (V_move rfl rfl) ?_
 refine G_val rfl rfl rfl rfl (V_neq rfl rfl rfl) ?_
 refine G_done ?_
 refine G_ifD rfl (fun hc2 => ?_) (fun hc2 => ?_)
 rotate_left
 · (first | (exact absurd rfl hc2) | (exact absurd hc2 (by decide)) | (exact absurd (by decide) hc2) | (exfalso; omega))
 refine G_seq ?_
 refine G_region (l := [0, 1, 2, 3, 4]) rfl ?_
 refine G_val rfl rfl rfl rfl (V_move rfl rfl) ?_
 refine G_val rfl rfl rfl rfl (V_assign rfl rfl) ?_
 refine G_val rfl rfl rfl rfl (V_assign rfl rfl) ?_
 refine G_val rfl rfl rfl rfl (V_assign rfl rfl) ?_
 refine G_val rfl rfl rfl rfl (V_assign rfl rfl) ?_
 refine G_done ?_
 refine G_ret (post := [_, _, _]) Tryz.func14 rfl (RVs_cons (RV_tmp rfl) (RVs_cons (RV_tmp rfl) (RVs_cons (RV_tmp rfl) (RVs_cons (RV_tmp rfl) RVs_nil)))) [0, 0, 0] rfl ?_
 dsimp only [packed]
 exact ⟨rfl, lcs1, uw1, h1, rfl⟩

set_option maxRecDepth 100000 in
set_option maxHeartbeats 2000000 in
theorem jn_open (d n lb lcap : Nat) (lcs : Array Value) (uw : Sl) (k : Dk) (h : DkAt k n lb lcs lcap uw) (R : Nat) (sp : Sp) (text : List UInt8) (recs : List (List UInt8)) (hj : JD n R k sp text recs) (hE : storeE k (nextS sp) = 0) :
    Ct Tryz.prog 14 [.pointer (some ⟨d, 0, none⟩), .int .i64 (R : Int)] [] [(some d, .cells #[.slice (some ⟨lb, 0, none⟩) n lcap, uw.v k.W.length, .int .i64 k.fuse, .bool k.dead] 67 (0, 0)), (some lb, .cells lcs 9 (0, 0)), (uw.ob, .cells uw.cs 90 uw.fz)] fun v post => ∃ lcs1 uw1 j g u, DkAt (storeK k (nextS sp)) n lb lcs1 lcap uw1 ∧ Own 1 u (recs.map strC) recs.length ∧ v = .tuple #[.pointer (some ⟨j, 0, none⟩), .string (bs text), u.v recs.length, .int .i64 0] ∧ post = [(some d, .cells #[.slice (some ⟨lb, 0, none⟩) n lcap, uw1.v (storeK k (nextS sp)).W.length, .int .i64 (storeK k (nextS sp)).fuse, .bool (storeK k (nextS sp)).dead] 67 (0, 0)), (some lb, .cells lcs1 9 (0, 0)), (uw1.ob, .cells uw1.cs 90 uw1.fz), (some j, .cells (jC d (R : Int) (nextS sp) g).toArray 86 (0, 0)), (some g, .cells (lgC d ((2 + 2 * R : Nat) : Int) ((n - (2 + 2 * R) : Nat) : Int) (sp.epoch + 1) (pcs recs).length).toArray 117 (0, 0)), (u.ob, .cells u.cs 9 u.fz)] := by
 have hb := h.bd
 have hb1 := hb.n1
 have hb2 := hb.n4
 have hb3 := hb.ncs
 have hb4 := hb.ncap
 have hb5 := hb.cap
 have hb6 := hb.w
 have hb7 := hb.wc
 have hln := h.len
 have hrN := hj.h.rN
 have hn60 := hj.h.n60
 have hq := hj.h.q
 have heq := hj.h.eq
 have hend := hj.end_
 refine ct_of Tryz.func14 rfl rfl (fun w0 => ?_)
 show G _ _ [(0, _), (1, _)] _ _
 refine G_seq ?_
 refine G_region (l := [0, 1, 2, 3]) rfl ?_
 refine G_val rfl rfl rfl rfl (V_assign rfl rfl) ?_
 refine G_val rfl rfl rfl rfl (V_assign rfl rfl) ?_
 refine G_val rfl rfl rfl rfl (V_assign rfl rfl) ?_
 refine G_val rfl rfl rfl rfl (V_assign rfl rfl) ?_
 refine G_done ?_
 refine G_seq ?_
 refine G_region (l := [0, 1, 2, 3, 4]) rfl ?_
 refine G_val rfl rfl rfl rfl (V_move rfl rfl) ?_
 refine G_val rfl rfl rfl rfl (V_move rfl rfl) ?_
 refine G_val rfl rfl rfl rfl (V_buildS (cs := [_, _]) rfl Tryz.underlying70 infJourX_70 rfl plcJourX_70 rfl rfl rfl) ?_
 refine G_new rfl rfl rfl rfl (N_allocA rfl infJourX_70 rfl) (fun b8 => ?_)
 refine G_put (l1 := []) (L' := [_, _, _, _]) rfl rfl rfl rfl (P_storeA (s := 2) rfl rfl rfl (mem_at 0 rfl) (by rfl) infJourX_70 rfl (by rfl) (by simp [Value.oneCell', spCells, pCells, wCells, kCells, rgC, lgC, rdC, Sl.v, zeroF, foundC, jC])) rfl ?_
 refine G_done ?_
 refine G_seq ?_
 refine G_region (l := [0, 1, 2, 3, 4, 5, 6, 7]) rfl ?_
 refine G_val rfl rfl rfl rfl (V_loadW (s := 2) rfl rfl (mem_at 0 rfl) Tryz.underlying70 rfl infJourX_70 rfl (by rfl)) ?_
 refine G_call (L2 := [_, _, _, _]) rfl rfl rfl rfl rfl rfl Tryz.call32 (jn_look d n lb lcap lcs uw k h R sp text recs hj) [] [1, 2, 3] rfl rfl ?_
 rintro v post ⟨u, hu, rfl, rfl⟩
 show G _ _ _ [_, _, _, _, _] _
 refine G_val rfl rfl rfl rfl (V_move rfl rfl) ?_
 refine G_val rfl rfl rfl rfl (V_extract rfl rfl rfl) ?_
 refine G_val rfl rfl rfl rfl (V_extract rfl rfl rfl) ?_
 refine G_new rfl rfl rfl rfl (N_allocA rfl infJourX_76 rfl) (fun b9 => ?_)
 refine G_put (l1 := []) (L' := [_, _, _, _, _, _]) rfl rfl rfl rfl (P_storeA (s := 8) rfl rfl rfl (mem_at 0 rfl) (by rfl) infJourX_76 rfl (by rfl) (by simp [Value.oneCell', spCells, pCells, wCells, kCells, rgC, lgC, rdC, Sl.v, zeroF, foundC, jC])) rfl ?_
 refine G_val rfl rfl rfl rfl (V_assign rfl rfl) ?_
 refine G_done ?_
 refine G_seq ?_
 refine G_seq ?_
 refine G_region (l := [0, 1]) rfl ?_
 refine G_val rfl rfl rfl rfl (V_move rfl rfl) ?_
 refine G_val rfl rfl rfl rfl (V_neq rfl rfl rfl) ?_
 refine G_done ?_
 refine G_ifD rfl (fun hc1 => ?_) (fun hc1 => ?_)
 · (first | (exact absurd rfl hc1) | (exact absurd hc1 (by decide)) | (exact absurd (by decide) hc1) | (exfalso; omega))
 refine G_skip ?_
 refine G_seq ?_
 refine G_seq ?_
 refine G_region (l := [0, 1, 2]) rfl ?_
 refine G_val rfl rfl rfl rfl (V_fieldAddr (fo := 0) rfl Tryz.underlying76 rfl infJourX_74 rfl rfl rfl) ?_
 refine G_val rfl rfl rfl rfl (V_loadA (s := 5) (vs := (spCells sp).toArray) rfl rfl (mem_at 0 rfl) Tryz.underlying74 rfl infJourX_74 rfl (by simp [foundC, spCells]) (by rfl)) ?_
 refine G_call (L2 := [_, _, _, _, _, _]) rfl rfl rfl rfl rfl rfl Tryz.call33 (jn_last _ (by omega) (by omega)) [] [] rfl rfl ?_
 rintro v post ⟨rfl, rfl⟩
 show G _ _ _ [_, _, _, _, _, _] _
 refine G_done ?_
 refine G_else rfl ?_
 refine G_skip ?_
 refine G_seq ?_
 refine G_region (l := [0, 1, 2, 3, 4]) rfl ?_
 refine G_val rfl rfl rfl rfl (V_fieldAddr (fo := 0) rfl Tryz.underlying76 rfl infJourX_74 rfl rfl rfl) ?_
 refine G_val rfl rfl rfl rfl (V_loadA (s := 5) (vs := (spCells sp).toArray) rfl rfl (mem_at 0 rfl) Tryz.underlying74 rfl infJourX_74 rfl (by simp [foundC, spCells]) (by rfl)) ?_
 refine G_call (L2 := [_, _, _, _, _, _]) rfl rfl rfl rfl rfl rfl Tryz.call34 (jn_next _ (by omega) (by omega)) [] [] rfl rfl ?_
 rintro v post ⟨rfl, rfl⟩
 show G _ _ _ [_, _, _, _, _, _] _
 refine G_new rfl rfl rfl rfl (N_allocA rfl infJourX_74 rfl) (fun b11 => ?_)
 refine G_put (l1 := []) (L' := [_, _, _, _, _, _, _]) rfl rfl rfl rfl (P_storeA (s := 5) rfl rfl rfl (mem_at 0 rfl) (by rfl) infJourX_74 rfl (by rfl) (by simp [Value.oneCell', spCells, pCells, wCells, kCells, rgC, lgC, rdC, Sl.v, zeroF, foundC, jC])) rfl ?_
 refine G_done ?_
 refine G_seq ?_
 refine G_seq ?_
 refine G_region (l := [0, 1, 2, 3]) rfl ?_
 refine G_val rfl rfl rfl rfl (V_move rfl rfl) ?_
 refine G_val rfl rfl rfl rfl (V_loadW (s := 5) rfl rfl (mem_at 0 rfl) Tryz.underlying74 rfl infJourX_74 rfl (by rfl)) ?_
 refine G_call (L2 := [_, _, _, _]) rfl rfl rfl rfl rfl rfl Tryz.call35 ((sup_store d n lb lcap lcs uw k h (nextS sp) (next_ok hj.h.ok hj.h.q hj.h.eq) (by rw [hj.h.w0]; simp)).weaken (fun v post h => by rw [hE] at h; exact h)) [4, 4, 4] [] rfl rfl ?_
 rintro v post ⟨rfl, lcs1, uw1, h1, rfl⟩
 show G _ _ _ [_, _, _, _, _, _, _] _
 refine G_val rfl rfl rfl rfl (V_assign rfl rfl) ?_
 refine G_done ?_
 refine G_seq ?_
 refine G_region (l := [0, 1]) rfl ?_
 refine G_val rfl rfl rfl rfl (V_move rfl rfl) ?_
 refine G_val rfl rfl rfl rfl (V_neq rfl rfl rfl) ?_
 refine G_done ?_
 refine G_ifD rfl (fun hc2 => ?_) (fun hc2 => ?_)
 · (first | (exact absurd rfl hc2) | (exact absurd hc2 (by decide)) | (exact absurd (by decide) hc2) | (exfalso; omega))
 refine G_skip ?_
 refine G_seq ?_
 refine GH_start (Lq := [_, _, _]) (isq := [6, 3, 3]) (m := 15) mixedK rfl rfl ?_
 refine GH_take 0 rfl rfl rfl rfl (by kernel_rfl) (by kernel_rfl) (by kernel_rfl) (fun _ _ => (V_move rfl rfl)) ?_
 refine GH_take 1 rfl rfl rfl rfl (by kernel_rfl) (by kernel_rfl) (by kernel_rfl) (fun _ _ => (V_loadW (s := 2) rfl rfl (mem_at 0 rfl) Tryz.underlying70 rfl infJourX_70 rfl (by rfl))) ?_
 refine GH_take 3 rfl rfl rfl rfl (by kernel_rfl) (by kernel_rfl) (by kernel_rfl) (fun _ _ => (V_loadW (s := 2) rfl rfl (mem_at 0 rfl) Tryz.underlying70 rfl infJourX_70 rfl (by rfl))) ?_
 refine GH_take 5 rfl rfl rfl rfl (by kernel_rfl) (by kernel_rfl) (by kernel_rfl) (fun _ _ => (V_fieldAddr (fo := 2) rfl Tryz.underlying74 rfl infJourX_50 rfl rfl rfl)) ?_
 refine GH_take 6 rfl rfl rfl rfl (by kernel_rfl) (by kernel_rfl) (by kernel_rfl) (fun _ _ => (V_load1 rfl rfl (mem_at 1 rfl) rfl Tryz.underlying50 rfl)) ?_
 refine GH_take 7 rfl rfl rfl rfl (by kernel_rfl) (by kernel_rfl) (by kernel_rfl) (fun _ _ => (V_fieldAddr (fo := 7) rfl Tryz.underlying76 rfl infJourX_3 rfl rfl rfl)) ?_
 refine GH_take 8 rfl rfl rfl rfl (by kernel_rfl) (by kernel_rfl) (by kernel_rfl) (fun _ _ => (V_load1 rfl rfl (mem_at 2 rfl) rfl Tryz.underlying3 rfl)) ?_
 refine GH_all [2] (by kernel_rfl) (by decide) ?_
 refine (And.intro ?_ trivial)
 ·
  refine GHop_call (L2 := [_, _, _, _, _, _, _]) rfl rfl rfl rfl rfl rfl Tryz.call37 (jn_regionZ (.pointer (some ⟨d, 0, none⟩)) rfl (R : Int) ((2 + 2 * R : Nat) : Int) (by omega) (by omega) (by omega)) [] [] rfl rfl [6, 3, 3] (by rintro v post ⟨rfl, rfl⟩; exact ⟨_, rfl⟩) ?_
  rintro v post ⟨rfl, rfl⟩
  show GH _ _ _ _ _ _ _ [_, _, _, _, _, _, _] _
  refine GH_all [4] (by kernel_rfl) (by decide) ?_
  refine (And.intro ?_ trivial)
  ·
   refine GHop_call (L2 := [_, _, _, _, _, _, _]) rfl rfl rfl rfl rfl rfl Tryz.call38 (jn_leftZ d n lb lcap lcs1 uw1 (storeK k (nextS sp)) h1 (R : Int) ((2 + 2 * R : Nat) : Int) (by omega) (by omega) (by omega) ((n - (2 + 2 * R) : Nat) : Int) (by omega)) [] [0] rfl rfl [6, 3, 3] (by rintro v post ⟨rfl, rfl⟩; exact ⟨_, rfl⟩) ?_
   rintro v post ⟨rfl, rfl⟩
   show GH _ _ _ _ _ _ _ [_, _, _, _, _, _, _] _
   refine GH_all [9] (by kernel_rfl) (by decide) ?_
   refine (And.intro ?_ trivial)
   ·
    refine GHop_call (L2 := [_, _, _, _, _, _, _]) rfl rfl rfl rfl rfl rfl Tryz.call36 ((lg_new d n lb lcap lcs1 uw1 (storeK k (nextS sp)) h1 ((2 + 2 * R : Nat) : Int) ((n - (2 + 2 * R) : Nat) : Int) (by omega) (by omega) (by omega) (by omega) (sp.epoch + 1) ((pcs recs).length : Int) (by omega) (by omega) (by omega)).weaken (fun v post h => by rcases h with ⟨q, _⟩ | ⟨_, q, _⟩ | ⟨_, _, _, _, q⟩ <;> first | exact absurd (rgE_ok.2 (by omega)) q | (exfalso; omega) | exact q)) [] [0] rfl rfl [7, 4, 4] (by rintro v post ⟨g, rfl, rfl⟩; exact ⟨_, rfl⟩) ?_
    rintro v post ⟨g, rfl, rfl⟩
    show GH _ _ _ _ _ _ _ [_, _, _, _, _, _, _, _] _
    refine GH_take 10 rfl rfl rfl rfl (by kernel_rfl) (by kernel_rfl) (by kernel_rfl) (fun _ _ => (V_move rfl rfl)) ?_
    refine GH_take 11 rfl rfl rfl rfl (by kernel_rfl) (by kernel_rfl) (by kernel_rfl) (fun _ _ => (V_extract rfl rfl rfl)) ?_
    refine GH_take 12 rfl rfl rfl rfl (by kernel_rfl) (by kernel_rfl) (by kernel_rfl) (fun _ _ => (V_extract rfl rfl rfl)) ?_
    refine GH_take 13 rfl rfl rfl rfl (by kernel_rfl) (by kernel_rfl) (by kernel_rfl) (fun _ _ => (V_assign rfl rfl)) ?_
    refine GH_take 14 rfl rfl rfl rfl (by kernel_rfl) (by kernel_rfl) (by kernel_rfl) (fun _ _ => (V_assign rfl rfl)) ?_
    refine GH_done (by kernel_rfl) ?_
    refine G_seq ?_
    refine G_seq ?_
    refine G_region (l := [0, 1]) rfl ?_
    refine G_val rfl rfl rfl rfl (V_move rfl rfl) ?_
    refine G_val rfl rfl rfl rfl (V_neq rfl rfl rfl) ?_
    refine G_done ?_
    refine G_ifD rfl (fun hc3 => ?_) (fun hc3 => ?_)
    · (first | (exact absurd rfl hc3) | (exact absurd hc3 (by decide)) | (exact absurd (by decide) hc3) | (exfalso; omega))
    refine G_skip ?_
    refine G_seq ?_
    refine GH_start (Lq := [_, _, _]) (isq := [7, 4, 4]) (m := 13) mixedK rfl rfl ?_
    refine GH_take 0 rfl rfl rfl rfl (by kernel_rfl) (by kernel_rfl) (by kernel_rfl) (fun _ _ => (V_loadW (s := 2) rfl rfl (mem_at 0 rfl) Tryz.underlying70 rfl infJourX_70 rfl (by rfl))) ?_
    refine GH_take 1 rfl rfl rfl rfl (by kernel_rfl) (by kernel_rfl) (by kernel_rfl) (fun _ _ => (V_loadW (s := 5) rfl rfl (mem_at 1 rfl) Tryz.underlying74 rfl infJourX_74 rfl (by rfl))) ?_
    refine GH_take 2 rfl rfl rfl rfl (by kernel_rfl) (by kernel_rfl) (by kernel_rfl) (fun _ _ => (V_move rfl rfl)) ?_
    refine GH_take 3 rfl rfl rfl rfl (by kernel_rfl) (by kernel_rfl) (by kernel_rfl) (fun _ _ => (V_buildS (cs := [_, _, _, _, _, _, _, _]) rfl Tryz.underlying86 infJourX_86 rfl plcJourX_86 rfl rfl rfl)) ?_
    refine GH_take 5 rfl rfl rfl rfl (by kernel_rfl) (by kernel_rfl) (by kernel_rfl) (fun _ _ => (V_fieldAddr (fo := 5) rfl Tryz.underlying76 rfl infJourX_9 rfl rfl rfl)) ?_
    refine GH_take 6 rfl rfl rfl rfl (by kernel_rfl) (by kernel_rfl) (by kernel_rfl) (fun _ _ => (V_load1 rfl rfl (mem_at 2 rfl) rfl Tryz.underlying9 rfl)) ?_
    refine GH_take 7 rfl rfl rfl rfl (by kernel_rfl) (by kernel_rfl) (by kernel_rfl) (fun _ _ => (V_fieldAddr (fo := 6) rfl Tryz.underlying76 rfl infJourX_34 rfl rfl rfl)) ?_
    refine GH_take 8 rfl rfl rfl rfl (by kernel_rfl) (by kernel_rfl) (by kernel_rfl) (fun _ _ => (V_load1 rfl rfl (mem_at 2 rfl) rfl Tryz.underlying34 rfl)) ?_
    refine GH_all [4] (by kernel_rfl) (by decide) ?_
    refine (And.intro ?_ trivial)
    ·
     refine GHop_new rfl rfl rfl rfl (N_boxA rfl rfl) [8, 5, 5] (fun _ => ⟨_, rfl⟩) (fun b57 => ?_)
     refine GH_take 9 rfl rfl rfl rfl (by kernel_rfl) (by kernel_rfl) (by kernel_rfl) (fun _ _ => (V_assign rfl rfl)) ?_
     refine GH_take 10 rfl rfl rfl rfl (by kernel_rfl) (by kernel_rfl) (by kernel_rfl) (fun _ _ => (V_assign rfl rfl)) ?_
     refine GH_take 11 rfl rfl rfl rfl (by kernel_rfl) (by kernel_rfl) (by kernel_rfl) (fun _ _ => (V_assign rfl rfl)) ?_
     refine GH_take 12 rfl rfl rfl rfl (by kernel_rfl) (by kernel_rfl) (by kernel_rfl) (fun _ _ => (V_assign rfl rfl)) ?_
     refine GH_done (by kernel_rfl) ?_
     refine G_ret (post := [_, _, _, _, _, _]) Tryz.func14 rfl (RVs_cons (RV_tmp rfl) (RVs_cons (RV_tmp rfl) (RVs_cons (RV_tmp rfl) (RVs_cons (RV_tmp rfl) RVs_nil)))) [2, 2, 2, 0, 0, 2] rfl ?_
     dsimp only [packed]
     exact ⟨lcs1, uw1, b57, g, u, h1, hu, rfl, rfl⟩

end
end Go.Proofs.YtbblkgdejgoncaaGreatDoor

/- Blocks of unknown number that a call owns. No program in sight. -/
set_option linter.unusedSimpArgs false
set_option linter.unusedVariables false
namespace Go.Proofs.YtbblkgdejgoncaaGreatDoor
open Go Go.RowKit

section
variable {c : Cx} {n : Nat} {env : List (Nat × Value)} {L : List (Option Nat × Obj)} {k : List Item}
theorem G_perm {todo : List Item} {L' : List (Option Nat × Obj)} (hp : L.Perm L') (h : G c n env L' todo) : G c n env L todo :=
  fun a w hk hm => h a w hk (hm.sub (L' := L') (R := []) (by simpa using hp))
/-- What is kept: some blocks by their places, and of the others those of a list. -/
theorem G_subT {todo : List Item} {e : List (Nat × Value)} {L1 T : List (Option Nat × Obj)} (he : FSub e env) (is : List Nat) (hl : ∃ M R, tk is L = some (L1, M) ∧ M.Perm (T ++ R)) (h : G c n e (L1 ++ T) todo) : G c n env L todo :=
  let ⟨_, _, hl, hp⟩ := hl
  fun a w hk hm => h a w (hk.sub he) (hm.sub (R := _) ((tk_perm hl).trans (by
    rw [List.append_assoc]
    exact hp.append_left _)))
theorem G_loop1 {body : Code} (h : G c n env L (.code body :: .inLoop body :: k)) : G c n env L (.code (.loop body) :: k) := fun a w hk hm => goes_of (fun _ _ => step_loop) (h a w hk hm)
theorem G_again {body : Code} (h : G c n env L (.code body :: .inLoop body :: k)) : G c n env L (.inLoop body :: k) := fun a w hk hm => goes_of (fun _ _ => step_inLoop) (h a w hk hm)
theorem G_retT {fn : Func} {rs : List ResultVar} {vs : List Value} {p1 T : List (Option Nat × Obj)} (hf : c.P.funcs[c.f]? = some fn) (hr : fn.results = rs.toArray)
    (hv : RVs c n env L rs vs) (is : List Nat) (hl : ∃ M R, tk is L = some (p1, M) ∧ M.Perm (T ++ R)) (hR : c.R (packed vs) (p1 ++ T)) (hds : c.ds = [] := by rfl) : G c n env L (.code .ret :: k) := by
  obtain ⟨M, R, hl, hp⟩ := hl
  intro a w hk hm b hb hkind cs
  have h3 := goes_ret (post := p1 ++ T) hr hv hk hm
  have hm' : Mem c.w0 c.A c.S (p1 ++ T) w := hm.sub (R := R) ((tk_perm hl).trans (by rw [List.append_assoc]; exact hp.append_left _))
  exact ⟨packed vs, p1 ++ T, w, _, hR, hm'.dropA, .one step_ret, hb, rfl, hk.defers.trans hds, hkind, fn, by rw [← hf, ← hb]; rfl, h3⟩
theorem G_callMC {ops : Array Oper} {i : Nat} {rest : List Nat} {o : Oper} {d : Nat} {g : FuncId} {x : Operand} {xs : Array Operand} {ts : Array TypeId} {args vs : List Value} {A' L' L2 : List (Option Nat × Obj)} {R' : Value → List (Option Nat × Obj) → Prop}
    (ho : ops[i]? = some o) (hd : o.dst = some d) (hn : Nat.blt d n = true) (hg : fguard ops env o = some true) (hop : o.op = .call ⟨.value x, xs, ts⟩) (hxs : fevs env xs.toList = some args)
    (hcf : ∀ (az : Array Value) w, (callFunc g az).run c.P w = .ok (.enter g az) w) (hfn : fev env x = some (.func (.func g) #[] vs.toArray)) (hct : Ct c.P g (args ++ vs) A' L' R') (is : List Nat) (hL : tk is L = some (L', L2)) (hA : ∀ x ∈ A', x ∈ c.A ++ L2)
    (K : ∀ v post, R' v post → G c n ((d, v) :: env) (post ++ L2) (.inRegion ops rest :: k)) : G c n env L (.inRegion ops (i :: rest) :: k) := by
  intro a w hk hm
  refine goes_op ho (wanted_of hk hg) ?_
  have hx : xs.map a.eval = args.toArray := by
    apply Array.toList_inj.1
    simpa using hk.evals hxs
  have hr : (execOp a.eval o).run c.P w = .ok (.enter g (args ++ vs).toArray) w := by
    unfold execOp
    simp only [hop, resolve, hk.eval hfn, hx]
    simp [Deferred.ofValue, invoke, hcf]
  rw [hr, Oper.upon_enter]
  refine (hct w (hm.has_callP (tk_perm hL) hA)).mono fun e w' ⟨v, post, he, hR, hp⟩ => ?_
  subst he
  simp only [hd]
  exact K v post hR _ w' (hk.put hn v) (hm.callP (tk_perm hL) hp)
theorem GHop_callM {ops : Array Oper} {Lq : List (Option Nat × Obj)} {fuel : Nat} {listed : Array Bool} {o : Oper} {i d : Nat} {g : FuncId} {xs : Array Operand} {ts : Array TypeId} {args : List Value} {A' L' L2 : List (Option Nat × Obj)} {R' : Value → List (Option Nat × Obj) → Prop}
    (ho : ops[i]? = some o) (hd : o.dst = some d) (hn : Nat.blt d n = true) (hg : fguard ops env o = some true) (hop : o.op = .call ⟨.value (.func g), xs, ts⟩) (hxs : fevs env xs.toList = some args)
    (hcf : ∀ (az : Array Value) w, (callFunc g az).run c.P w = .ok (.enter g az) w) (hct : Ct c.P g args A' L' R') (is : List Nat) (hL : tk is L = some (L', L2)) (hA : ∀ x ∈ A', x ∈ c.A ++ L2)
    (isq : List Nat) (hq : ∀ v post, R' v post → ∃ M, tk isq (post ++ L2) = some (Lq, M)) (K : ∀ v post, R' v post → GH c n ops Lq fuel (listed.setIfInBounds i true) ((d, v) :: env) (post ++ L2) k) : GHop c n ops Lq fuel listed env L k i := by
  intro a w hk hm hw
  refine ghop_of ho (wanted_of hk hg) ?_
  have hx : xs.map a.eval = args.toArray := by
    apply Array.toList_inj.1
    simpa using hk.evals hxs
  have hr : (execOp a.eval o).run c.P w = .ok (.enter g args.toArray) w := by
    unfold execOp
    simp [hop, resolve, Act.eval, Deferred.ofValue, hx, invoke, hcf]
  rw [hr, Oper.upon_enter]
  refine (hct w (hm.has_callP (tk_perm hL) hA)).mono fun e w' ⟨v, post, he, hR, hp⟩ => ?_
  subst he
  simp only [hd]
  have hm' := hm.callP (tk_perm hL) hp
  obtain ⟨M', hM⟩ := hq v post hR
  exact ⟨hs_of hm' hM, K v post hR _ w' (hk.put hn v) hm' (hs_of hm' hM)⟩
theorem GQ_callM {ops : Array Oper} {i : Nat} {o : Oper} {d : Nat} {g : FuncId} {xs : Array Operand} {ts : Array TypeId} {args : List Value} {A' : List (Option Nat × Obj)} {R' : Value → List (Option Nat × Obj) → Prop} {v0 : Value}
    (ho : ops[i]? = some o) (hd : o.dst = some d) (hn : Nat.blt d n = true) (hg : fguard ops env o = some true) (hop : o.op = .call ⟨.value (.func g), xs, ts⟩) (hxs : fevs env xs.toList = some args)
    (hcf : ∀ (az : Array Value) w, (callFunc g az).run c.P w = .ok (.enter g az) w) (hct : Ct c.P g args A' [] R') (hA : ∀ x ∈ A', x ∈ c.A ++ L) (hv : ∀ v post, R' v post → v = v0)
    (h : GQ c n ops ((d, v0) :: env) L (i + 1) k) : GQ c n ops env L i k := by
  intro a hk
  rw [drop_at ho]
  simp only [wpQuiet]
  rw [if_pos (wanted_of hk hg)]
  refine ⟨v0, fun w hm => ?_, ?_⟩
  · have hx : xs.map a.eval = args.toArray := by
      apply Array.toList_inj.1
      simpa using hk.evals hxs
    have hr : (execOp a.eval o).run c.P w = .ok (.enter g args.toArray) w := by
      unfold execOp
      simp [hop, resolve, Act.eval, Deferred.ofValue, hx, invoke, hcf]
    unfold Oper.quietAt
    rw [hr]
    have hL : tk [] L = some ([], L) := rfl
    refine ⟨rfl, (hct w (hm.has_callP (tk_perm hL) hA)).mono fun e w' ⟨v, post, he, hR, hp⟩ => ?_⟩
    have := hv v post hR
    subst this
    exact ⟨he, (hm.callP (tk_perm hL) hp).sub (L' := L) List.perm_append_comm⟩
  · rw [hd]
    exact h _ (hk.put hn v0)
end
theorem ext_indexByte {P : Program} (l : List UInt8) (x : UInt8) (w : World) : (Extern.BytealgIndexByte.indexByte #[.string (bs l), .int .u8 (x.toNat : Int)]).run P w = .ok (.int .i64 (Lib.indexByte l x)) w := by
  rw [Lib.run_indexByteString]
  simp [bs]
theorem perm_in {α : Type} (P F T T' : List α) : ((P ++ T') ++ (F ++ T)).Perm (P ++ F ++ (T' ++ T)) := by
  rw [List.append_assoc, List.append_assoc]
  refine List.Perm.append_left P ?_
  rw [← List.append_assoc, ← List.append_assoc]
  exact List.Perm.append_right T List.perm_append_comm
theorem perm_in0 {α : Type} (P F T' : List α) : ((P ++ T') ++ F).Perm (P ++ F ++ T') := by
  rw [List.append_assoc, List.append_assoc]
  exact List.Perm.append_left P List.perm_append_comm
theorem perm_bk {α β : Type} (f : β → α) (ms : List β) (m : β) (J1 J2 : List α) : (J1 ++ (f m :: (J2 ++ ms.map f))).Perm ((ms ++ [m]).map f ++ (J1 ++ J2)) := by
  rw [List.map_append, List.map_singleton]
  have h1 : (J1 ++ (f m :: (J2 ++ ms.map f))).Perm (f m :: (J1 ++ (J2 ++ ms.map f))) := List.perm_middle
  have h2 : (J1 ++ (J2 ++ ms.map f)).Perm (ms.map f ++ (J1 ++ J2)) := by rw [← List.append_assoc]; exact List.perm_append_comm
  refine h1.trans ((List.Perm.cons _ h2).trans ?_)
  rw [List.append_assoc]
  exact List.perm_middle.symm
end Go.Proofs.YtbblkgdejgoncaaGreatDoor

/- Stores of whole structs into a part of a block. No program in sight. -/
set_option linter.unusedSimpArgs false
set_option linter.unusedVariables false
namespace Go.Proofs.YtbblkgdejgoncaaGreatDoor
open Go Go.RowKit
def setFrom (cs : Array Value) (o : Nat) : List Value → Array Value
  | [] => cs
  | v :: r => setFrom (cs.setIfInBounds o v) (o + 1) r
section
variable {P : Program}
theorem run_storeCells_in (g o : Nat) (t : TypeId) : ∀ (vs : List Value) (i : Nat) (cur : Array Value) (w : World), w.heap[g]? = some (.cells cur t (0, 0)) → o + i + vs.length ≤ cur.size → (∀ v ∈ vs, v.oneCell' = true) →
    (storeCells ⟨g, o, none⟩ vs i).run P w = .ok () (w.setRow g (setFrom cur (o + i) vs))
  | [], i, cur, w, hg, hl, _ => by
    have hlt : g < w.heap.size := (Array.getElem?_eq_some_iff.1 hg).1
    have hv : w.heap[g] = .cells cur t (0, 0) := (Array.getElem?_eq_some_iff.1 hg).2
    simp only [storeCells, setFrom]
    show Result.ok () w = _
    congr 1
    unfold World.setRow
    cases w with
    | mk heap tape drawn os output =>
      congr 1
      apply Array.ext
      · simp
      · intro k h1 h2
        simp only [Array.getElem_modify]
        split
        · rename_i hk; subst hk; simp at hv; simp [hv]
        · rfl
  | v :: rest, i, cur, w, hg, hl, h1 => by
    have hi : o + i < cur.size := by simp at hl; omega
    have hadd : (⟨g, o, none⟩ : Addr).add i = ⟨g, o + i, none⟩ := by unfold Addr.add; split <;> simp_all
    have hcell : w.cell? ⟨g, o + i, none⟩ = some cur[o + i] := by simp [World.cell?, hg, hi]
    have hfro : w.frozen? ⟨g, o + i, none⟩ = false := by simp [World.frozen?, hg]
    have hst : (store ((⟨g, o, none⟩ : Addr).add i) v).run P w = .ok () (w.setRow g (cur.setIfInBounds (o + i) v)) := by
      rw [hadd, run_store P w _ v _ (h1 v (by simp)), hcell]
      simp [hfro, setCell_eq_setRow w g (o + i) cur t (0, 0) v hg]
    have ih := run_storeCells_in g o t rest (i + 1) (cur.setIfInBounds (o + i) v) (w.setRow g (cur.setIfInBounds (o + i) v)) (setRow_heap w g cur _ t _ hg) (by simp at hl ⊢; omega) (fun x hx => h1 x (by simp [hx]))
    simp only [storeCells, Sem.run_bind, hst, Result.andThen_ok, ih, setRow_setRow, setFrom]
    rfl
end
section
variable {c : Cx} {n : Nat} {env : List (Nat × Value)} {L : List (Option Nat × Obj)} {o : Oper}
theorem P_storeM {x y : Operand} {t T : TypeId} {b off : Nat} {cs vs : Array Value} {ti : TypeInfo} (hop : o.op = .store t x y) (hx : fev env x = some (.pointer (some ⟨b, off, none⟩))) (hy : fev env y = some (.agg vs)) (hm : (some b, Obj.cells cs T (0, 0)) ∈ L) (hsz : Nat.ble (off + vs.size) cs.size = true)
    {s : Nat} (hs : c.P.info? t = some ti) (hz : ti.size = s) (h1 : vs.size = s) (hv : vs.all (·.oneCell') = true) : Put c n env L o b (.cells (setFrom cs off vs.toList) T (0, 0)) := fun a w hk hmm => by
  subst hz
  have hw := hmm.lies hm
  have hle := Nat.le_of_ble_eq_true hsz
  have hst : (storeVar t ⟨b, off, none⟩ (.agg vs)).run c.P w = .ok () (w.setRow b (setFrom cs off vs.toList)) := by
    have := run_storeCells_in (P := c.P) b off T vs.toList 0 cs w hw (by simp; omega) (fun v hv' => (Array.all_eq_true_iff_forall_mem.1 hv) v (by simpa using hv'))
    simp only [Nat.add_zero] at this
    simp [storeVar, sizeOf, typeInfo, hs, Value.cells, h1, this]
  refine ⟨w.setRow b (setFrom cs off vs.toList), ?_, rfl, rfl, rfl, by simp, setRow_heap w b cs _ T _ hw, fun k hne => setRow_other w b k _ hne⟩
  simp [execOp, hop, hk.eval hx, hk.eval hy, Instr.storeAt, Instr.sureAddr, hst]
end
end Go.Proofs.YtbblkgdejgoncaaGreatDoor

/- The walks of layer 28, on: Add, Anew; the document's journal. -/
set_option linter.unusedSimpArgs false
set_option linter.unusedVariables false
namespace Go.Proofs.YtbblkgdejgoncaaGreatDoor
open Go Go.RowKit

section
theorem infJourY_3 : Tryz.prog.info? 3 = some Tryz.t3 := by kernel_rfl
theorem infJourY_9 : Tryz.prog.info? 9 = some Tryz.t9 := by kernel_rfl
theorem infJourY_26 : Tryz.prog.info? 26 = some Tryz.t26 := by kernel_rfl
theorem infJourY_34 : Tryz.prog.info? 34 = some Tryz.t34 := by kernel_rfl
theorem infJourY_36 : Tryz.prog.info? 36 = some Tryz.t36 := by kernel_rfl
theorem infJourY_50 : Tryz.prog.info? 50 = some Tryz.t50 := by kernel_rfl
theorem infJourY_70 : Tryz.prog.info? 70 = some Tryz.t70 := by kernel_rfl
theorem infJourY_74 : Tryz.prog.info? 74 = some Tryz.t74 := by kernel_rfl
theorem infJourY_82 : Tryz.prog.info? 82 = some Tryz.t82 := by kernel_rfl
theorem plcJourY_36 : placesOf Tryz.prog (Tryz.prog.fieldsOf 36) = some [(0, 1), (1, 1), (2, 1), (3, 1), (4, 1), (5, 1)] := by kernel_rfl


/-- A journal as it should be. -/
def wC (t : List UInt8) (v : Value) (a b R e : Int) : List Value := [.string (bs t), v, .int .i64 a, .int .i64 b, .int .i64 R, .int .i64 e]
theorem oth_int {R : Nat} {sp : Sp} (h : MayS sp) : (2 : Int) + (1 - sp.slot) * (R : Int) = ((othF R sp : Nat) : Int) := by
  unfold othF
  rcases h.2.2.2.1 with h | h <;> rw [h] <;> simp
theorem JJ.bd {N R a : Nat} {k : Dk} {sp : Sp} {text : List UInt8} {recs : List (List UInt8)} (h : JJ N R k sp text recs a) : 2 + 2 * R < N ∧ N ≤ 60 ∧ a ≤ N - (2 + 2 * R) ∧ 1 ≤ sp.epoch ∧ sp.epoch < 250 ∧ sp.epoch = sp.seq ∧ k.W = [] ∧ 1 ≤ R ∧ k.L.length = N := by
  have h1 := h.h.may.1
  have h2 := h.h.eq
  have h3 := h.h.q
  exact ⟨h.h.rN, h.h.n60, h.a.2, by omega, by omega, h2, h.h.w0, h.h.r1, h.h.len⟩

set_option maxRecDepth 100000 in
set_option maxHeartbeats 1000000 in
theorem jn_add (d n lb lcap : Nat) (lcs : Array Value) (uw : Sl) (k : Dk) (h : DkAt k n lb lcs lcap uw) (R : Nat) (sp : Sp) (text : List UInt8) (recs : List (List UInt8)) (a j g : Nat) (hj : JJ n R k sp text recs a) (s : List UInt8) (hsl : s.length ≤ 1000000) :
    Ct Tryz.prog 17 [.pointer (some ⟨j, 0, none⟩), .string (bs s)] [(some j, .cells (jC d (R : Int) sp g).toArray 86 (0, 0))] [(some g, .cells (lgC d ((2 + 2 * R : Nat) : Int) ((n - (2 + 2 * R) : Nat) : Int) sp.epoch a).toArray 117 (0, 0)), (some d, .cells #[.slice (some ⟨lb, 0, none⟩) n lcap, uw.v k.W.length, .int .i64 k.fuse, .bool k.dead] 67 (0, 0)), (some lb, .cells lcs 9 (0, 0)), (uw.ob, .cells uw.cs 90 uw.fz)] fun v post => v = .int .i64 (addE k ((2 + 2 * R : Nat) : Int) ((n - (2 + 2 * R) : Nat) : Int) sp.epoch a s) ∧ ∃ lcs1 uw1, DkAt (addK k ((2 + 2 * R : Nat) : Int) ((n - (2 + 2 * R) : Nat) : Int) sp.epoch a s) n lb lcs1 lcap uw1 ∧ post = [(some g, .cells (lgC d ((2 + 2 * R : Nat) : Int) ((n - (2 + 2 * R) : Nat) : Int) sp.epoch (appA k ((2 + 2 * R : Nat) : Int) ((n - (2 + 2 * R) : Nat) : Int) sp.epoch a s)).toArray 117 (0, 0)), (some d, .cells #[.slice (some ⟨lb, 0, none⟩) n lcap, uw1.v (addK k ((2 + 2 * R : Nat) : Int) ((n - (2 + 2 * R) : Nat) : Int) sp.epoch a s).W.length, .int .i64 (addK k ((2 + 2 * R : Nat) : Int) ((n - (2 + 2 * R) : Nat) : Int) sp.epoch a s).fuse, .bool (addK k ((2 + 2 * R : Nat) : Int) ((n - (2 + 2 * R) : Nat) : Int) sp.epoch a s).dead] 67 (0, 0)), (some lb, .cells lcs1 9 (0, 0)), (uw1.ob, .cells uw1.cs 90 uw1.fz)] := by
 have hb := h.bd
 have hb1 := hb.n1
 have hb2 := hb.n4
 have hb3 := hb.ncs
 have hb4 := hb.ncap
 have hb5 := hb.cap
 have hb6 := hb.w
 have hb7 := hb.wc
 have hln := h.len
 obtain ⟨hrN, hn60, hatn, he1, he2, heq, hw0, hr1, hlen⟩ := hj.bd
 refine ct_of Tryz.func17 rfl rfl (fun w0 => ?_)
 show G _ _ [(0, _), (1, _)] _ _
 refine G_seq ?_
 refine G_region (l := [0]) rfl ?_
 refine G_val rfl rfl rfl rfl (V_assign rfl rfl) ?_
 refine G_done ?_
 refine G_seq ?_
 refine G_seq ?_
 refine G_region (l := [0, 1]) rfl ?_
 refine G_val rfl rfl rfl rfl (V_move rfl rfl) ?_
 refine G_val rfl rfl rfl rfl (V_peqlN rfl Tryz.underlying38 rfl rfl) ?_
 refine G_done ?_
 refine G_else rfl ?_
 refine G_skip ?_
 refine G_seq ?_
 refine G_seq ?_
 refine G_region (l := [0, 1, 2, 3, 4, 5, 6]) rfl ?_
 refine G_val rfl rfl rfl rfl (V_move rfl rfl) ?_
 refine G_val rfl rfl rfl rfl (V_nilCheck rfl rfl) ?_
 refine G_val rfl rfl rfl rfl (V_fieldAddr (fo := 7) rfl Tryz.underlying86 rfl infJourY_82 rfl rfl rfl) ?_
 refine G_val rfl rfl rfl rfl (V_load1 rfl rfl (mem_at 0 rfl) rfl Tryz.underlying82 rfl) ?_
 refine G_val rfl rfl rfl rfl (V_move rfl rfl) ?_
 refine G_call (L2 := []) rfl rfl rfl rfl rfl rfl Tryz.call41 (lg_append d n lb lcap lcs uw k h g ((2 + 2 * R : Nat) : Int) ((n - (2 + 2 * R) : Nat) : Int) sp.epoch a s (rgE_ok.2 (by omega)) (by omega) (by omega) (by omega) (by rw [hw0]; simp) (by omega)) [0, 0, 0, 0] [] rfl rfl ?_
 rintro v post ⟨rfl, lcs1, uw1, h1, rfl⟩
 show G _ _ _ [_, _, _, _] _
 refine G_val rfl rfl rfl rfl (V_assign rfl rfl) ?_
 refine G_done ?_
 refine G_seq ?_
 refine G_region (l := [0, 1]) rfl ?_
 refine G_val rfl rfl rfl rfl (V_move rfl rfl) ?_
 refine G_val rfl rfl rfl rfl (V_neq rfl rfl rfl) ?_
 refine G_done ?_
 refine G_ifD rfl (fun hc1 => ?_) (fun hc1 => ?_)
 ·
  refine G_seq ?_
  refine G_region (l := [0, 1]) rfl ?_
  refine G_val rfl rfl rfl rfl (V_move rfl rfl) ?_
  refine G_val rfl rfl rfl rfl (V_assign rfl rfl) ?_
  refine G_done ?_
  refine G_ret (post := [_, _, _, _]) Tryz.func17 rfl (RVs_cons (RV_tmp rfl) RVs_nil) [0, 0, 0, 0] rfl ?_
  dsimp only [packed]
  first
    | (obtain ⟨e1, e2⟩ := add_1 (k := k) (f := ((2 + 2 * R : Nat) : Int)) (b := ((n - (2 + 2 * R) : Nat) : Int)) (e := sp.epoch) (a := a) (s := s) (by assumption); rw [e1, e2]; exact ⟨rfl, lcs1, uw1, h1, rfl⟩)
    | (obtain ⟨e1, e2⟩ := add_2 (k := k) (f := ((2 + 2 * R : Nat) : Int)) (b := ((n - (2 + 2 * R) : Nat) : Int)) (e := sp.epoch) (a := a) (s := s) (by omega); rw [e1, e2]; exact ⟨rfl, lcs1, uw1, h1, rfl⟩)
 refine G_skip ?_
 refine G_seq ?_
 refine G_region (l := [0, 1, 2, 3, 4, 5, 6]) rfl ?_
 refine G_val rfl rfl rfl rfl (V_move rfl rfl) ?_
 refine G_val rfl rfl rfl rfl (V_nilCheck rfl rfl) ?_
 refine G_val rfl rfl rfl rfl (V_fieldAddr (fo := 0) rfl Tryz.underlying86 rfl infJourY_70 rfl rfl rfl) ?_
 refine G_val rfl rfl rfl rfl (V_fieldAddr (fo := 0) rfl Tryz.underlying70 rfl infJourY_26 rfl rfl rfl) ?_
 refine G_val rfl rfl rfl rfl (V_load1 rfl rfl (mem_at 0 rfl) rfl Tryz.underlying26 rfl) ?_
 refine G_call (L2 := [_]) rfl rfl rfl rfl rfl rfl Tryz.call42 (dk_sync d n lb lcap lcs1 uw1 (appK k ((2 + 2 * R : Nat) : Int) ((n - (2 + 2 * R) : Nat) : Int) sp.epoch a s) h1) [1, 1, 1] [] rfl rfl ?_
 rintro v post ⟨rfl, lcs1, uw1, h1, rfl⟩
 show G _ _ _ [_, _, _, _] _
 refine G_val rfl rfl rfl rfl (V_assign rfl rfl) ?_
 refine G_done ?_
 refine G_ret (post := [_, _, _, _]) Tryz.func17 rfl (RVs_cons (RV_tmp rfl) RVs_nil) [3, 0, 0, 0] rfl ?_
 dsimp only [packed]
 first
   | (obtain ⟨e1, e2⟩ := add_1 (k := k) (f := ((2 + 2 * R : Nat) : Int)) (b := ((n - (2 + 2 * R) : Nat) : Int)) (e := sp.epoch) (a := a) (s := s) (by assumption); rw [e1, e2]; exact ⟨rfl, lcs1, uw1, h1, rfl⟩)
   | (obtain ⟨e1, e2⟩ := add_2 (k := k) (f := ((2 + 2 * R : Nat) : Int)) (b := ((n - (2 + 2 * R) : Nat) : Int)) (e := sp.epoch) (a := a) (s := s) (by omega); rw [e1, e2]; exact ⟨rfl, lcs1, uw1, h1, rfl⟩)

set_option maxRecDepth 100000 in
set_option maxHeartbeats 1000000 in
theorem jn_add_nil (x : Value) :
    Ct Tryz.prog 17 [.pointer none, x] [] [] fun v post => v = .int .i64 19 ∧ post = [] := by
 refine ct_of Tryz.func17 rfl rfl (fun w0 => ?_)
 show G _ _ [(0, _), (1, _)] _ _
 refine G_seq ?_
 refine G_region (l := [0]) rfl ?_
 refine G_val rfl rfl rfl rfl (V_assign rfl rfl) ?_
 refine G_done ?_
 refine G_seq ?_
 refine G_seq ?_
 refine G_region (l := [0, 1]) rfl ?_
 refine G_val rfl rfl rfl rfl (V_move rfl rfl) ?_
 refine G_val rfl rfl rfl rfl (V_peqlN rfl Tryz.underlying38 rfl rfl) ?_
 refine G_done ?_
 refine G_then rfl ?_
 refine G_seq ?_
 refine G_region (l := [0]) rfl ?_
 refine G_val rfl rfl rfl rfl (V_assign rfl rfl) ?_
 refine G_done ?_
 refine G_ret (post := []) Tryz.func17 rfl (RVs_cons (RV_tmp rfl) RVs_nil) [] rfl ?_
 dsimp only [packed]
 exact ⟨rfl, rfl⟩

set_option maxRecDepth 100000 in
set_option maxHeartbeats 1000000 in
theorem jn_fits (d n R : Nat) (sp : Sp) (a j g : Nat) (s : List UInt8) (hn : n ≤ 60) (ha : a ≤ 60) (hsl : s.length ≤ 1000000) :
    Ct Tryz.prog 16 [.pointer (some ⟨j, 0, none⟩), .string (bs s)] [(some j, .cells (jC d (R : Int) sp g).toArray 86 (0, 0)), (some g, .cells (lgC d ((2 + 2 * R : Nat) : Int) ((n - (2 + 2 * R) : Nat) : Int) sp.epoch a).toArray 117 (0, 0))] [] fun v post => v = .bool (decide (fitsL (((n - (2 + 2 * R) : Nat) : Int) - (a : Int)) s)) ∧ post = [] := by
 refine ct_of Tryz.func16 rfl rfl (fun w0 => ?_)
 show G _ _ [(0, _), (1, _)] _ _
 refine G_seq ?_
 refine G_region (l := [0]) rfl ?_
 refine G_val rfl rfl rfl rfl (V_assign rfl rfl) ?_
 refine G_done ?_
 refine G_seq ?_
 refine G_region (l := [0, 1, 2, 3, 4, 5, 6, 7, 8, 9, 10]) rfl ?_
 refine G_val rfl rfl rfl rfl (V_move rfl rfl) ?_
 refine G_val rfl rfl rfl rfl (V_pneqN rfl Tryz.underlying38 rfl rfl) ?_
 refine G_val rfl rfl rfl rfl (V_move rfl rfl) ?_
 refine G_val rfl rfl rfl rfl (V_move rfl rfl) ?_
 refine G_val rfl rfl rfl rfl (V_nilCheck rfl rfl) ?_
 refine G_val rfl rfl rfl rfl (V_fieldAddr (fo := 7) rfl Tryz.underlying86 rfl infJourY_82 rfl rfl rfl) ?_
 refine G_val rfl rfl rfl rfl (V_load1 rfl rfl (mem_at 0 rfl) rfl Tryz.underlying82 rfl) ?_
 refine G_val rfl rfl rfl rfl (V_move rfl rfl) ?_
 refine G_call (L2 := []) rfl rfl rfl rfl rfl rfl Tryz.call40 (lg_fits d g ((2 + 2 * R : Nat) : Int) ((n - (2 + 2 * R) : Nat) : Int) sp.epoch a s (by omega) (by omega) (by omega) (by omega)) [] [1] rfl rfl ?_
 rintro v post ⟨rfl, rfl⟩
 refine G_val rfl rfl rfl rfl (V_pickT rfl rfl rfl) ?_
 refine G_val rfl rfl rfl rfl (V_assign rfl rfl) ?_
 refine G_done ?_
 refine G_ret (post := []) Tryz.func16 rfl (RVs_cons (RV_tmp rfl) RVs_nil) [] rfl ?_
 dsimp only [packed]
 exact ⟨rfl, rfl⟩

set_option maxRecDepth 100000 in
set_option maxHeartbeats 1000000 in
theorem jn_fits_nil (x : Value) :
    Ct Tryz.prog 16 [.pointer none, x] [] [] fun v post => v = .bool false ∧ post = [] := by
 refine ct_of Tryz.func16 rfl rfl (fun w0 => ?_)
 show G _ _ [(0, _), (1, _)] _ _
 refine G_seq ?_
 refine G_region (l := [0]) rfl ?_
 refine G_val rfl rfl rfl rfl (V_assign rfl rfl) ?_
 refine G_done ?_
 refine G_seq ?_
 refine G_region (l := [0, 1, 2, 3, 4, 5, 6, 7, 8, 9, 10]) rfl ?_
 refine G_val rfl rfl rfl rfl (V_move rfl rfl) ?_
 refine G_val rfl rfl rfl rfl (V_pneqN rfl Tryz.underlying38 rfl rfl) ?_
 refine G_val rfl rfl rfl rfl (V_move rfl rfl) ?_
 refine G_off rfl rfl rfl rfl ?_
 refine G_off rfl rfl rfl rfl ?_
 refine G_off rfl rfl rfl rfl ?_
 refine G_off rfl rfl rfl rfl ?_
 refine G_off rfl rfl rfl rfl ?_
 refine G_off rfl rfl rfl rfl ?_
 refine G_val rfl rfl rfl rfl (V_pickF rfl rfl rfl) ?_
 refine G_val rfl rfl rfl rfl (V_assign rfl rfl) ?_
 refine G_done ?_
 refine G_ret (post := []) Tryz.func16 rfl (RVs_cons (RV_tmp rfl) RVs_nil) [] rfl ?_
 dsimp only [packed]
 exact ⟨rfl, rfl⟩

set_option maxRecDepth 100000 in
set_option maxHeartbeats 1000000 in
theorem jn_Left (d n R : Nat) (sp : Sp) (a j g : Nat) (hn : n ≤ 60) (ha : a ≤ 60) :
    Ct Tryz.prog 22 [.pointer (some ⟨j, 0, none⟩)] [(some j, .cells (jC d (R : Int) sp g).toArray 86 (0, 0)), (some g, .cells (lgC d ((2 + 2 * R : Nat) : Int) ((n - (2 + 2 * R) : Nat) : Int) sp.epoch a).toArray 117 (0, 0))] [] fun v post => v = .int .i64 (((n - (2 + 2 * R) : Nat) : Int) - (a : Int)) ∧ post = [] := by
 refine ct_of Tryz.func22 rfl rfl (fun w0 => ?_)
 show G _ _ [(0, _)] _ _
 refine G_seq ?_
 refine G_region (l := [0]) rfl ?_
 refine G_val rfl rfl rfl rfl (V_assign rfl rfl) ?_
 refine G_done ?_
 refine G_seq ?_
 refine G_seq ?_
 refine G_region (l := [0, 1]) rfl ?_
 refine G_val rfl rfl rfl rfl (V_move rfl rfl) ?_
 refine G_val rfl rfl rfl rfl (V_peqlN rfl Tryz.underlying38 rfl rfl) ?_
 refine G_done ?_
 refine G_else rfl ?_
 refine G_skip ?_
 refine G_seq ?_
 refine G_region (l := [0, 1, 2, 3, 4, 5]) rfl ?_
 refine G_val rfl rfl rfl rfl (V_move rfl rfl) ?_
 refine G_val rfl rfl rfl rfl (V_nilCheck rfl rfl) ?_
 refine G_val rfl rfl rfl rfl (V_fieldAddr (fo := 7) rfl Tryz.underlying86 rfl infJourY_82 rfl rfl rfl) ?_
 refine G_val rfl rfl rfl rfl (V_load1 rfl rfl (mem_at 0 rfl) rfl Tryz.underlying82 rfl) ?_
 refine G_call (L2 := []) rfl rfl rfl rfl rfl rfl Tryz.call44 (lg_room d g ((2 + 2 * R : Nat) : Int) ((n - (2 + 2 * R) : Nat) : Int) sp.epoch a (by omega) (by omega) (by omega)) [] [1] rfl rfl ?_
 rintro v post ⟨rfl, rfl⟩
 refine G_val rfl rfl rfl rfl (V_assign rfl rfl) ?_
 refine G_done ?_
 refine G_ret (post := []) Tryz.func22 rfl (RVs_cons (RV_tmp rfl) RVs_nil) [] rfl ?_
 dsimp only [packed]
 exact ⟨rfl, rfl⟩

set_option maxRecDepth 100000 in
set_option maxHeartbeats 1000000 in
theorem jn_Left_nil  :
    Ct Tryz.prog 22 [.pointer none] [] [] fun v post => v = .int .i64 0 ∧ post = [] := by
 refine ct_of Tryz.func22 rfl rfl (fun w0 => ?_)
 show G _ _ [(0, _)] _ _
 refine G_seq ?_
 refine G_region (l := [0]) rfl ?_
 refine G_val rfl rfl rfl rfl (V_assign rfl rfl) ?_
 refine G_done ?_
 refine G_seq ?_
 refine G_seq ?_
 refine G_region (l := [0, 1]) rfl ?_
 refine G_val rfl rfl rfl rfl (V_move rfl rfl) ?_
 refine G_val rfl rfl rfl rfl (V_peqlN rfl Tryz.underlying38 rfl rfl) ?_
 refine G_done ?_
 refine G_then rfl ?_
 refine G_seq ?_
 refine G_region (l := [0]) rfl ?_
 refine G_val rfl rfl rfl rfl (V_assign rfl rfl) ?_
 refine G_done ?_
 refine G_ret (post := []) Tryz.func22 rfl (RVs_cons (RV_tmp rfl) RVs_nil) [] rfl ?_
 dsimp only [packed]
 exact ⟨rfl, rfl⟩

set_option maxRecDepth 100000 in
set_option maxHeartbeats 1000000 in
theorem jn_Epoch (d R : Nat) (sp : Sp) (j g : Nat) :
    Ct Tryz.prog 23 [.pointer (some ⟨j, 0, none⟩)] [(some j, .cells (jC d (R : Int) sp g).toArray 86 (0, 0))] [] fun v post => v = .int .u32 (sp.epoch : Int) ∧ post = [] := by
 refine ct_of Tryz.func23 rfl rfl (fun w0 => ?_)
 show G _ _ [(0, _)] _ _
 refine G_seq ?_
 refine G_region (l := [0]) rfl ?_
 refine G_val rfl rfl rfl rfl (V_assign rfl rfl) ?_
 refine G_done ?_
 refine G_seq ?_
 refine G_seq ?_
 refine G_region (l := [0, 1]) rfl ?_
 refine G_val rfl rfl rfl rfl (V_move rfl rfl) ?_
 refine G_val rfl rfl rfl rfl (V_peqlN rfl Tryz.underlying38 rfl rfl) ?_
 refine G_done ?_
 refine G_else rfl ?_
 refine G_skip ?_
 refine G_seq ?_
 refine G_region (l := [0, 1, 2, 3, 4, 5]) rfl ?_
 refine G_val rfl rfl rfl rfl (V_move rfl rfl) ?_
 refine G_val rfl rfl rfl rfl (V_nilCheck rfl rfl) ?_
 refine G_val rfl rfl rfl rfl (V_fieldAddr (fo := 2) rfl Tryz.underlying86 rfl infJourY_74 rfl rfl rfl) ?_
 refine G_val rfl rfl rfl rfl (V_fieldAddr (fo := 4) rfl Tryz.underlying74 rfl infJourY_50 rfl rfl rfl) ?_
 refine G_val rfl rfl rfl rfl (V_load1 rfl rfl (mem_at 0 rfl) rfl Tryz.underlying50 rfl) ?_
 refine G_val rfl rfl rfl rfl (V_assign rfl rfl) ?_
 refine G_done ?_
 refine G_ret (post := []) Tryz.func23 rfl (RVs_cons (RV_tmp rfl) RVs_nil) [] rfl ?_
 dsimp only [packed]
 exact ⟨rfl, rfl⟩

set_option maxRecDepth 100000 in
set_option maxHeartbeats 1000000 in
theorem jn_Epoch_nil  :
    Ct Tryz.prog 23 [.pointer none] [] [] fun v post => v = .int .u32 0 ∧ post = [] := by
 refine ct_of Tryz.func23 rfl rfl (fun w0 => ?_)
 show G _ _ [(0, _)] _ _
 refine G_seq ?_
 refine G_region (l := [0]) rfl ?_
 refine G_val rfl rfl rfl rfl (V_assign rfl rfl) ?_
 refine G_done ?_
 refine G_seq ?_
 refine G_seq ?_
 refine G_region (l := [0, 1]) rfl ?_
 refine G_val rfl rfl rfl rfl (V_move rfl rfl) ?_
 refine G_val rfl rfl rfl rfl (V_peqlN rfl Tryz.underlying38 rfl rfl) ?_
 refine G_done ?_
 refine G_then rfl ?_
 refine G_seq ?_
 refine G_region (l := [0]) rfl ?_
 refine G_val rfl rfl rfl rfl (V_assign rfl rfl) ?_
 refine G_done ?_
 refine G_ret (post := []) Tryz.func23 rfl (RVs_cons (RV_tmp rfl) RVs_nil) [] rfl ?_
 dsimp only [packed]
 exact ⟨rfl, rfl⟩

set_option maxRecDepth 100000 in
set_option maxHeartbeats 1000000 in
theorem jn_anew_nil (x : Value) :
    Ct Tryz.prog 19 [.pointer none, x] [] [] fun v post => v = .int .i64 19 ∧ post = [] := by
 refine ct_of Tryz.func19 rfl rfl (fun w0 => ?_)
 show G _ _ [(0, _), (1, _)] _ _
 refine G_seq ?_
 refine G_region (l := [0]) rfl ?_
 refine G_val rfl rfl rfl rfl (V_assign rfl rfl) ?_
 refine G_done ?_
 refine G_seq ?_
 refine G_block ?_
 refine G_seq ?_
 refine G_region (l := [0, 1, 2]) rfl ?_
 refine G_val rfl rfl rfl rfl (V_move rfl rfl) ?_
 refine G_val rfl rfl rfl rfl (V_peqlN rfl Tryz.underlying38 rfl rfl) ?_
 refine G_val rfl rfl rfl rfl (V_assign rfl rfl) ?_
 refine G_done ?_
 refine G_then rfl ?_
 refine G_seq ?_
 refine G_region (l := [0]) rfl ?_
 refine G_val rfl rfl rfl rfl (V_assign rfl rfl) ?_
 refine G_done ?_
 refine G_ret (post := []) Tryz.func19 rfl (RVs_cons (RV_tmp rfl) RVs_nil) [] rfl ?_
 dsimp only [packed]
 exact ⟨rfl, rfl⟩

set_option maxRecDepth 100000 in
set_option maxHeartbeats 1000000 in
theorem jn_anew_full (d n lb lcap : Nat) (lcs : Array Value) (uw : Sl) (k : Dk) (h : DkAt k n lb lcs lcap uw) (R : Nat) (sp : Sp) (text : List UInt8) (recs : List (List UInt8)) (j g : Nat) (hj : JD n R k sp text recs) (s : List UInt8) (hsl : s.length ≤ 1000000) (hm : R < manyS s.length) :
    Ct Tryz.prog 19 [.pointer (some ⟨j, 0, none⟩), .string (bs s)] [(some j, .cells (jC d (R : Int) sp g).toArray 86 (0, 0))] [] fun v post => v = .int .i64 17 ∧ post = [] := by
 have hb := h.bd
 have hb1 := hb.n1
 have hb2 := hb.n4
 have hb3 := hb.ncs
 have hb4 := hb.ncap
 have hb5 := hb.cap
 have hb6 := hb.w
 have hb7 := hb.wc
 have hln := h.len
 have hrN := hj.h.rN
 have hn60 := hj.h.n60
 have hq := hj.h.q
 have heq := hj.h.eq
 have hms := manyS_room s.length
 have hsl1 := hj.h.may.2.2.2.1
 have hof := oth_f (R := R) hj.h.may
 refine ct_of Tryz.func19 rfl rfl (fun w0 => ?_)
 show G _ _ [(0, _), (1, _)] _ _
 refine G_seq ?_
 refine G_region (l := [0]) rfl ?_
 refine G_val rfl rfl rfl rfl (V_assign rfl rfl) ?_
 refine G_done ?_
 refine G_seq ?_
 refine G_block ?_
 refine G_seq ?_
 refine G_region (l := [0, 1, 2]) rfl ?_
 refine G_val rfl rfl rfl rfl (V_move rfl rfl) ?_
 refine G_val rfl rfl rfl rfl (V_peqlN rfl Tryz.underlying38 rfl rfl) ?_
 refine G_val rfl rfl rfl rfl (V_assign rfl rfl) ?_
 refine G_done ?_
 refine G_else rfl ?_
 refine G_seq ?_
 refine GH_start (Lq := []) (isq := []) (m := 17) mixedK rfl rfl ?_
 refine GH_take 0 rfl rfl rfl rfl (by kernel_rfl) (by kernel_rfl) (by kernel_rfl) (fun _ _ => (V_move rfl rfl)) ?_
 refine GH_take 1 rfl rfl rfl rfl (by kernel_rfl) (by kernel_rfl) (by kernel_rfl) (fun _ _ => (V_slen rfl rfl Tryz.underlying9 rfl)) ?_
 refine GH_take 3 rfl rfl rfl rfl (by kernel_rfl) (by kernel_rfl) (by kernel_rfl) (fun _ _ => (V_move rfl rfl)) ?_
 refine GH_take 4 rfl rfl rfl rfl (by kernel_rfl) (by kernel_rfl) (by kernel_rfl) (fun _ _ => (V_nilCheck rfl rfl)) ?_
 refine GH_take 5 rfl rfl rfl rfl (by kernel_rfl) (by kernel_rfl) (by kernel_rfl) (fun _ _ => (V_fieldAddr (fo := 0) rfl Tryz.underlying86 rfl infJourY_70 rfl rfl rfl)) ?_
 refine GH_take 6 rfl rfl rfl rfl (by kernel_rfl) (by kernel_rfl) (by kernel_rfl) (fun _ _ => (V_fieldAddr (fo := 1) rfl Tryz.underlying70 rfl infJourY_3 rfl rfl rfl)) ?_
 refine GH_take 7 rfl rfl rfl rfl (by kernel_rfl) (by kernel_rfl) (by kernel_rfl) (fun _ _ => (V_load1 rfl rfl (mem_at 0 rfl) rfl Tryz.underlying3 rfl)) ?_
 refine GH_all [2] (by kernel_rfl) (by decide) ?_
 refine (And.intro ?_ trivial)
 ·
  refine GHop_call (L2 := []) rfl rfl rfl rfl rfl rfl Tryz.call43 (sn_many _ (by first | omega | (simp; done) | (simp; omega) | (simp at *; omega))) [] [] rfl rfl [] (by rintro v post ⟨rfl, rfl⟩; exact ⟨_, rfl⟩) ?_
  rintro v post ⟨rfl, rfl⟩
  refine GH_take 8 rfl rfl rfl rfl (by kernel_rfl) (by kernel_rfl) (by kernel_rfl) (fun _ _ => (V_gtr rfl rfl rfl)) ?_
  refine GH_take 9 rfl rfl rfl rfl (by kernel_rfl) (by kernel_rfl) (by kernel_rfl) (fun _ _ => (V_move rfl rfl)) ?_
  refine GH_splitD 22 rfl (fun hc1 => ?_) (fun hc1 => ?_)
  rotate_left
  · (first | (exact absurd rfl hc1) | (exact absurd hc1 (by decide)) | (exact absurd (by decide) hc1) | (exfalso; omega))
  refine GH_takeOff 10 rfl rfl rfl rfl (by kernel_rfl) (by kernel_rfl) (by kernel_rfl) ?_
  refine GH_takeOff 11 rfl rfl rfl rfl (by kernel_rfl) (by kernel_rfl) (by kernel_rfl) ?_
  refine GH_takeOff 12 rfl rfl rfl rfl (by kernel_rfl) (by kernel_rfl) (by kernel_rfl) ?_
  refine GH_takeOff 13 rfl rfl rfl rfl (by kernel_rfl) (by kernel_rfl) (by kernel_rfl) ?_
  refine GH_takeOff 14 rfl rfl rfl rfl (by kernel_rfl) (by kernel_rfl) (by kernel_rfl) ?_
  refine GH_take 15 rfl rfl rfl rfl (by kernel_rfl) (by kernel_rfl) (by kernel_rfl) (fun _ _ => (V_pickT rfl rfl rfl)) ?_
  refine GH_take 16 rfl rfl rfl rfl (by kernel_rfl) (by kernel_rfl) (by kernel_rfl) (fun _ _ => (V_assign rfl rfl)) ?_
  refine GH_done (by kernel_rfl) ?_
  refine G_then rfl ?_
  refine G_seq ?_
  refine G_region (l := [0]) rfl ?_
  refine G_val rfl rfl rfl rfl (V_assign rfl rfl) ?_
  refine G_done ?_
  refine G_ret (post := []) Tryz.func19 rfl (RVs_cons (RV_tmp rfl) RVs_nil) [] rfl ?_
  dsimp only [packed]
  exact ⟨rfl, rfl⟩

set_option maxRecDepth 100000 in
set_option maxHeartbeats 2000000 in
theorem jn_anew_21 (d n lb lcap : Nat) (lcs : Array Value) (uw : Sl) (k : Dk) (h : DkAt k n lb lcs lcap uw) (R : Nat) (sp : Sp) (text : List UInt8) (recs : List (List UInt8)) (j g : Nat) (hj : JD n R k sp text recs) (s : List UInt8) (hsl : s.length ≤ 1000000) (hm : manyS s.length ≤ R) (hE : (jputE k ((othF R sp : Nat) : Int) (R : Int) (anewS sp s.length) s) = 21) :
    Ct Tryz.prog 19 [.pointer (some ⟨j, 0, none⟩), .string (bs s)] [(some j, .cells (jC d (R : Int) sp g).toArray 86 (0, 0))] [(some d, .cells #[.slice (some ⟨lb, 0, none⟩) n lcap, uw.v k.W.length, .int .i64 k.fuse, .bool k.dead] 67 (0, 0)), (some lb, .cells lcs 9 (0, 0)), (uw.ob, .cells uw.cs 90 uw.fz)] fun v post => v = .int .i64 21 ∧ ∃ lcs1 uw1, DkAt (jputK k ((othF R sp : Nat) : Int) (R : Int) (anewS sp s.length) s) n lb lcs1 lcap uw1 ∧ post = [(some d, .cells #[.slice (some ⟨lb, 0, none⟩) n lcap, uw1.v (jputK k ((othF R sp : Nat) : Int) (R : Int) (anewS sp s.length) s).W.length, .int .i64 (jputK k ((othF R sp : Nat) : Int) (R : Int) (anewS sp s.length) s).fuse, .bool (jputK k ((othF R sp : Nat) : Int) (R : Int) (anewS sp s.length) s).dead] 67 (0, 0)), (some lb, .cells lcs1 9 (0, 0)), (uw1.ob, .cells uw1.cs 90 uw1.fz)] := by
 have hb := h.bd
 have hb1 := hb.n1
 have hb2 := hb.n4
 have hb3 := hb.ncs
 have hb4 := hb.ncap
 have hb5 := hb.cap
 have hb6 := hb.w
 have hb7 := hb.wc
 have hln := h.len
 have hrN := hj.h.rN
 have hn60 := hj.h.n60
 have hq := hj.h.q
 have heq := hj.h.eq
 have hms := manyS_room s.length
 have hsl1 := hj.h.may.2.2.2.1
 have hof := oth_f (R := R) hj.h.may
 refine ct_of Tryz.func19 rfl rfl (fun w0 => ?_)
 show G _ _ [(0, _), (1, _)] _ _
 refine G_seq ?_
 refine G_region (l := [0]) rfl ?_
 refine G_val rfl rfl rfl rfl (V_assign rfl rfl) ?_
 refine G_done ?_
 refine G_seq ?_
 refine G_block ?_
 refine G_seq ?_
 refine G_region (l := [0, 1, 2]) rfl ?_
 refine G_val rfl rfl rfl rfl (V_move rfl rfl) ?_
 refine G_val rfl rfl rfl rfl (V_peqlN rfl Tryz.underlying38 rfl rfl) ?_
 refine G_val rfl rfl rfl rfl (V_assign rfl rfl) ?_
 refine G_done ?_
 refine G_else rfl ?_
 refine G_seq ?_
 refine GH_start (Lq := []) (isq := []) (m := 17) mixedK rfl rfl ?_
 refine GH_take 0 rfl rfl rfl rfl (by kernel_rfl) (by kernel_rfl) (by kernel_rfl) (fun _ _ => (V_move rfl rfl)) ?_
 refine GH_take 1 rfl rfl rfl rfl (by kernel_rfl) (by kernel_rfl) (by kernel_rfl) (fun _ _ => (V_slen rfl rfl Tryz.underlying9 rfl)) ?_
 refine GH_take 3 rfl rfl rfl rfl (by kernel_rfl) (by kernel_rfl) (by kernel_rfl) (fun _ _ => (V_move rfl rfl)) ?_
 refine GH_take 4 rfl rfl rfl rfl (by kernel_rfl) (by kernel_rfl) (by kernel_rfl) (fun _ _ => (V_nilCheck rfl rfl)) ?_
 refine GH_take 5 rfl rfl rfl rfl (by kernel_rfl) (by kernel_rfl) (by kernel_rfl) (fun _ _ => (V_fieldAddr (fo := 0) rfl Tryz.underlying86 rfl infJourY_70 rfl rfl rfl)) ?_
 refine GH_take 6 rfl rfl rfl rfl (by kernel_rfl) (by kernel_rfl) (by kernel_rfl) (fun _ _ => (V_fieldAddr (fo := 1) rfl Tryz.underlying70 rfl infJourY_3 rfl rfl rfl)) ?_
 refine GH_take 7 rfl rfl rfl rfl (by kernel_rfl) (by kernel_rfl) (by kernel_rfl) (fun _ _ => (V_load1 rfl rfl (mem_at 0 rfl) rfl Tryz.underlying3 rfl)) ?_
 refine GH_all [2] (by kernel_rfl) (by decide) ?_
 refine (And.intro ?_ trivial)
 ·
  refine GHop_call (L2 := [_, _, _]) rfl rfl rfl rfl rfl rfl Tryz.call43 (sn_many _ (by first | omega | (simp; done) | (simp; omega) | (simp at *; omega))) [] [] rfl rfl [] (by rintro v post ⟨rfl, rfl⟩; exact ⟨_, rfl⟩) ?_
  rintro v post ⟨rfl, rfl⟩
  show GH _ _ _ _ _ _ _ [_, _, _] _
  refine GH_take 8 rfl rfl rfl rfl (by kernel_rfl) (by kernel_rfl) (by kernel_rfl) (fun _ _ => (V_gtr rfl rfl rfl)) ?_
  refine GH_take 9 rfl rfl rfl rfl (by kernel_rfl) (by kernel_rfl) (by kernel_rfl) (fun _ _ => (V_move rfl rfl)) ?_
  refine GH_splitD 22 rfl (fun hc1 => ?_) (fun hc1 => ?_)
  · (first | (exact absurd rfl hc1) | (exact absurd hc1 (by decide)) | (exact absurd (by decide) hc1) | (exfalso; omega))
  refine GH_take 10 rfl rfl rfl rfl (by kernel_rfl) (by kernel_rfl) (by kernel_rfl) (fun _ _ => (V_move rfl rfl)) ?_
  refine GH_take 11 rfl rfl rfl rfl (by kernel_rfl) (by kernel_rfl) (by kernel_rfl) (fun _ _ => (V_nilCheck rfl rfl)) ?_
  refine GH_take 12 rfl rfl rfl rfl (by kernel_rfl) (by kernel_rfl) (by kernel_rfl) (fun _ _ => (V_fieldAddr (fo := 2) rfl Tryz.underlying86 rfl infJourY_74 rfl rfl rfl)) ?_
  refine GH_take 13 rfl rfl rfl rfl (by kernel_rfl) (by kernel_rfl) (by kernel_rfl) (fun _ _ => (V_loadA (s := 5) (vs := (spCells sp).toArray) rfl rfl (mem_at 0 rfl) Tryz.underlying74 rfl infJourY_74 rfl (by simp [jC, spCells]) (by rfl))) ?_
  refine GH_all [14] (by kernel_rfl) (by decide) ?_
  refine (And.intro ?_ trivial)
  ·
   refine GHop_call (L2 := [_, _, _]) rfl rfl rfl rfl rfl rfl Tryz.call33 (jn_last _ (by omega) (by omega)) [] [] rfl rfl [] (by rintro v post ⟨rfl, rfl⟩; exact ⟨_, rfl⟩) ?_
   rintro v post ⟨rfl, rfl⟩
   show GH _ _ _ _ _ _ _ [_, _, _] _
   refine GH_take 15 rfl rfl rfl rfl (by kernel_rfl) (by kernel_rfl) (by kernel_rfl) (fun _ _ => (V_pickF rfl rfl rfl)) ?_
   refine GH_take 16 rfl rfl rfl rfl (by kernel_rfl) (by kernel_rfl) (by kernel_rfl) (fun _ _ => (V_assign rfl rfl)) ?_
   refine GH_done (by kernel_rfl) ?_
   refine G_else rfl ?_
   refine G_skip ?_
   refine G_inBlock ?_
   refine G_seq ?_
   refine G_region (l := [0, 1, 2, 3, 4, 5, 6]) rfl ?_
   refine G_val rfl rfl rfl rfl (V_move rfl rfl) ?_
   refine G_val rfl rfl rfl rfl (V_nilCheck rfl rfl) ?_
   refine G_val rfl rfl rfl rfl (V_fieldAddr (fo := 2) rfl Tryz.underlying86 rfl infJourY_74 rfl rfl rfl) ?_
   refine G_val rfl rfl rfl rfl (V_loadA (s := 5) (vs := (spCells sp).toArray) rfl rfl (mem_at 0 rfl) Tryz.underlying74 rfl infJourY_74 rfl (by simp [jC, spCells]) (by rfl)) ?_
   refine G_call (L2 := [_, _, _]) rfl rfl rfl rfl rfl rfl Tryz.call34 (jn_next _ (by omega) (by omega)) [] [] rfl rfl ?_
   rintro v post ⟨rfl, rfl⟩
   show G _ _ _ [_, _, _] _
   refine G_new rfl rfl rfl rfl (N_allocA rfl infJourY_74 rfl) (fun b5 => ?_)
   refine G_put (l1 := []) (L' := [_, _, _, _]) rfl rfl rfl rfl (P_storeA (s := 5) rfl rfl rfl (mem_at 0 rfl) (by rfl) infJourY_74 rfl (by rfl) (by simp [Value.oneCell', spCells, pCells, wCells, kCells, rgC, lgC, rdC, Sl.v, zeroF, foundC, jC, wC])) rfl ?_
   refine G_done ?_
   refine G_seq ?_
   refine G_region (l := [0, 1, 2, 3, 4, 5, 6, 7, 8, 9, 10, 11, 12]) rfl ?_
   refine G_val rfl rfl rfl rfl (V_fieldAddr (fo := 2) rfl Tryz.underlying74 rfl infJourY_50 rfl rfl rfl) ?_
   refine G_val rfl rfl rfl rfl (V_load1 rfl rfl (mem_at 1 rfl) rfl Tryz.underlying50 rfl) ?_
   refine G_val rfl rfl rfl rfl (V_fieldAddr (fo := 3) rfl Tryz.underlying74 rfl infJourY_3 rfl rfl rfl) ?_
   refine G_val rfl rfl rfl rfl (V_load1 rfl rfl (mem_at 1 rfl) rfl Tryz.underlying3 rfl) ?_
   refine G_val rfl rfl rfl rfl (Val.int (e' := 1 - sp.slot) (V_sub rfl rfl rfl) (by rw [wrap_i64 (by show _ ∧ 1 - sp.slot ≤ _; show -9223372036854775808 ≤ 1 - sp.slot ∧ _; omega)]; rfl)) ?_
   refine G_val rfl rfl rfl rfl (V_move rfl rfl) ?_
   refine G_val rfl rfl rfl rfl (V_slen rfl rfl Tryz.underlying9 rfl) ?_
   refine G_val rfl rfl rfl rfl (V_fieldAddr (fo := 1) rfl Tryz.underlying74 rfl infJourY_50 rfl rfl rfl) ?_
   refine G_put (l1 := []) (L' := [_, _, _, _]) rfl rfl rfl rfl (P_store1 rfl rfl rfl (mem_at 0 rfl) (by first | exact of_decide_eq_true rfl | omega | (simp [spCells, pCells, wCells, kCells, rgC, lgC, rdC, Sl.v, zeroF, foundC, jC, wC]; done) | (simp [spCells, pCells, wCells, kCells, rgC, lgC, rdC, Sl.v, zeroF, foundC, jC, wC]; omega) | (simp [spCells, pCells, wCells, kCells, rgC, lgC, rdC, Sl.v, zeroF, foundC, jC, wC] at *; omega)) infJourY_50 rfl rfl) rfl ?_
   refine G_val rfl rfl rfl rfl (V_fieldAddr (fo := 3) rfl Tryz.underlying74 rfl infJourY_3 rfl rfl rfl) ?_
   refine G_put (l1 := []) (L' := [_, _, _, _]) rfl rfl rfl rfl (P_store1 rfl rfl rfl (mem_at 0 rfl) (by first | exact of_decide_eq_true rfl | omega | (simp [spCells, pCells, wCells, kCells, rgC, lgC, rdC, Sl.v, zeroF, foundC, jC, wC]; done) | (simp [spCells, pCells, wCells, kCells, rgC, lgC, rdC, Sl.v, zeroF, foundC, jC, wC]; omega) | (simp [spCells, pCells, wCells, kCells, rgC, lgC, rdC, Sl.v, zeroF, foundC, jC, wC] at *; omega)) infJourY_3 rfl rfl) rfl ?_
   refine G_val rfl rfl rfl rfl (V_fieldAddr (fo := 4) rfl Tryz.underlying74 rfl infJourY_3 rfl rfl rfl) ?_
   refine G_put (l1 := []) (L' := [_, _, _, _]) rfl rfl rfl rfl (P_store1 rfl rfl rfl (mem_at 0 rfl) (by first | exact of_decide_eq_true rfl | omega | (simp [spCells, pCells, wCells, kCells, rgC, lgC, rdC, Sl.v, zeroF, foundC, jC, wC]; done) | (simp [spCells, pCells, wCells, kCells, rgC, lgC, rdC, Sl.v, zeroF, foundC, jC, wC]; omega) | (simp [spCells, pCells, wCells, kCells, rgC, lgC, rdC, Sl.v, zeroF, foundC, jC, wC] at *; omega)) infJourY_3 rfl rfl) rfl ?_
   refine G_done ?_
   refine G_seq ?_
   refine G_seq ?_
   show G _ _ _ [(some b5, .cells (spCells (anewS sp s.length)).toArray 74 (0, 0)), _, _, _] _
   refine GH_start (Lq := [_]) (isq := [0]) (m := 8) mixedK rfl rfl ?_
   refine GH_take 0 rfl rfl rfl rfl (by kernel_rfl) (by kernel_rfl) (by kernel_rfl) (fun _ _ => (V_move rfl rfl)) ?_
   refine GH_take 1 rfl rfl rfl rfl (by kernel_rfl) (by kernel_rfl) (by kernel_rfl) (fun _ _ => (V_nilCheck rfl rfl)) ?_
   refine GH_take 2 rfl rfl rfl rfl (by kernel_rfl) (by kernel_rfl) (by kernel_rfl) (fun _ _ => (V_fieldAddr (fo := 0) rfl Tryz.underlying86 rfl infJourY_70 rfl rfl rfl)) ?_
   refine GH_take 3 rfl rfl rfl rfl (by kernel_rfl) (by kernel_rfl) (by kernel_rfl) (fun _ _ => (V_loadA (s := 2) (vs := #[.pointer (some ⟨d, 0, none⟩), .int .i64 (R : Int)]) rfl rfl (mem_at 0 rfl) Tryz.underlying70 rfl infJourY_70 rfl (by simp [jC, spCells]) (by rfl))) ?_
   refine GH_take 4 rfl rfl rfl rfl (by kernel_rfl) (by kernel_rfl) (by kernel_rfl) (fun _ _ => (V_move rfl rfl)) ?_
   refine GH_take 5 rfl rfl rfl rfl (by kernel_rfl) (by kernel_rfl) (by kernel_rfl) (fun _ _ => (V_loadW (s := 5) rfl rfl (mem_at 1 rfl) Tryz.underlying74 rfl infJourY_74 rfl (by rfl))) ?_
   refine GH_all [6] (by kernel_rfl) (by decide) ?_
   refine (And.intro ?_ trivial)
   ·
    refine GHop_call (L2 := [_]) rfl rfl rfl rfl rfl rfl Tryz.call31 ((jn_put d n lb lcap lcs uw k h R (othF R sp) (anewS sp s.length) s (anew_ok hj.h.may hsl hq heq) (oth_int hj.h.may) (by omega) (by omega) (by rw [hj.h.w0]; simp) hsl).weaken (fun v post h => (⟨h.1.trans (congrArg (Value.int .i64) hE), h.2⟩ : v = .int .i64 21 ∧ ∃ lcs1 uw1, DkAt (jputK k ((othF R sp : Nat) : Int) (R : Int) (anewS sp s.length) s) n lb lcs1 lcap uw1 ∧ post = [(some d, .cells #[.slice (some ⟨lb, 0, none⟩) n lcap, uw1.v (jputK k ((othF R sp : Nat) : Int) (R : Int) (anewS sp s.length) s).W.length, .int .i64 (jputK k ((othF R sp : Nat) : Int) (R : Int) (anewS sp s.length) s).fuse, .bool (jputK k ((othF R sp : Nat) : Int) (R : Int) (anewS sp s.length) s).dead] 67 (0, 0)), (some lb, .cells lcs1 9 (0, 0)), (uw1.ob, .cells uw1.cs 90 uw1.fz)]))) [1, 1, 1] [] rfl rfl [3] (by rintro v post ⟨rfl, lcs1, uw1, h1, rfl⟩; exact ⟨_, rfl⟩) ?_
    rintro v post ⟨rfl, lcs1, uw1, h1, rfl⟩
    show GH _ _ _ _ _ _ _ [_, _, _, _] _
    refine GH_take 7 rfl rfl rfl rfl (by kernel_rfl) (by kernel_rfl) (by kernel_rfl) (fun _ _ => (V_assign rfl rfl)) ?_
    refine GH_done (by kernel_rfl) ?_
    refine G_seq ?_
    refine G_region (l := [0, 1]) rfl ?_
    refine G_val rfl rfl rfl rfl (V_move rfl rfl) ?_
    refine G_val rfl rfl rfl rfl (V_neq rfl rfl rfl) ?_
    refine G_done ?_
    refine G_ifD rfl (fun hc2 => ?_) (fun hc2 => ?_)
    rotate_left
    · (first | (exact absurd rfl hc2) | (exact absurd hc2 (by decide)) | (exact absurd (by decide) hc2) | (exfalso; omega))
    refine G_seq ?_
    refine G_region (l := [0, 1]) rfl ?_
    refine G_val rfl rfl rfl rfl (V_move rfl rfl) ?_
    refine G_val rfl rfl rfl rfl (V_assign rfl rfl) ?_
    refine G_done ?_
    refine G_ret (post := [_, _, _]) Tryz.func19 rfl (RVs_cons (RV_tmp rfl) RVs_nil) [0, 0, 0] rfl ?_
    dsimp only [packed]
    exact ⟨rfl, lcs1, uw1, h1, rfl⟩

set_option maxRecDepth 100000 in
set_option maxHeartbeats 4000000 in
theorem jn_anew (d n lb lcap : Nat) (lcs : Array Value) (uw : Sl) (k : Dk) (h : DkAt k n lb lcs lcap uw) (R : Nat) (sp : Sp) (text : List UInt8) (recs : List (List UInt8)) (j g : Nat) (hj : JD n R k sp text recs) (s : List UInt8) (hsl : s.length ≤ 1000000) (hm : manyS s.length ≤ R) (hE : (jputE k ((othF R sp : Nat) : Int) (R : Int) (anewS sp s.length) s) = 0) :
    Ct Tryz.prog 19 [.pointer (some ⟨j, 0, none⟩), .string (bs s)] [] [(some j, .cells (jC d (R : Int) sp g).toArray 86 (0, 0)), (some d, .cells #[.slice (some ⟨lb, 0, none⟩) n lcap, uw.v k.W.length, .int .i64 k.fuse, .bool k.dead] 67 (0, 0)), (some lb, .cells lcs 9 (0, 0)), (uw.ob, .cells uw.cs 90 uw.fz)] fun v post => v = .int .i64 0 ∧ ∃ lcs1 uw1 g1, DkAt (jputK k ((othF R sp : Nat) : Int) (R : Int) (anewS sp s.length) s) n lb lcs1 lcap uw1 ∧ post = [(some j, .cells (jC d (R : Int) (anewS sp s.length) g1).toArray 86 (0, 0)), (some d, .cells #[.slice (some ⟨lb, 0, none⟩) n lcap, uw1.v (jputK k ((othF R sp : Nat) : Int) (R : Int) (anewS sp s.length) s).W.length, .int .i64 (jputK k ((othF R sp : Nat) : Int) (R : Int) (anewS sp s.length) s).fuse, .bool (jputK k ((othF R sp : Nat) : Int) (R : Int) (anewS sp s.length) s).dead] 67 (0, 0)), (some lb, .cells lcs1 9 (0, 0)), (uw1.ob, .cells uw1.cs 90 uw1.fz), (some g1, .cells (lgC d ((2 + 2 * R : Nat) : Int) ((n - (2 + 2 * R) : Nat) : Int) (sp.epoch + 1) 0).toArray 117 (0, 0))] := by
 have hb := h.bd
 have hb1 := hb.n1
 have hb2 := hb.n4
 have hb3 := hb.ncs
 have hb4 := hb.ncap
 have hb5 := hb.cap
 have hb6 := hb.w
 have hb7 := hb.wc
 have hln := h.len
 have hrN := hj.h.rN
 have hn60 := hj.h.n60
 have hq := hj.h.q
 have heq := hj.h.eq
 have hms := manyS_room s.length
 have hsl1 := hj.h.may.2.2.2.1
 have hof := oth_f (R := R) hj.h.may
 refine ct_of Tryz.func19 rfl rfl (fun w0 => ?_)
 show G _ _ [(0, _), (1, _)] _ _
 refine G_seq ?_
 refine G_region (l := [0]) rfl ?_
 refine G_val rfl rfl rfl rfl (V_assign rfl rfl) ?_
 refine G_done ?_
 refine G_seq ?_
 refine G_block ?_
 refine G_seq ?_
 refine G_region (l := [0, 1, 2]) rfl ?_
 refine G_val rfl rfl rfl rfl (V_move rfl rfl) ?_
 refine G_val rfl rfl rfl rfl (V_peqlN rfl Tryz.underlying38 rfl rfl) ?_
 refine G_val rfl rfl rfl rfl (V_assign rfl rfl) ?_
 refine G_done ?_
 refine G_else rfl ?_
 refine G_seq ?_
 refine GH_start (Lq := [_]) (isq := [0]) (m := 17) mixedK rfl rfl ?_
 refine GH_take 0 rfl rfl rfl rfl (by kernel_rfl) (by kernel_rfl) (by kernel_rfl) (fun _ _ => (V_move rfl rfl)) ?_
 refine GH_take 1 rfl rfl rfl rfl (by kernel_rfl) (by kernel_rfl) (by kernel_rfl) (fun _ _ => (V_slen rfl rfl Tryz.underlying9 rfl)) ?_
 refine GH_take 3 rfl rfl rfl rfl (by kernel_rfl) (by kernel_rfl) (by kernel_rfl) (fun _ _ => (V_move rfl rfl)) ?_
 refine GH_take 4 rfl rfl rfl rfl (by kernel_rfl) (by kernel_rfl) (by kernel_rfl) (fun _ _ => (V_nilCheck rfl rfl)) ?_
 refine GH_take 5 rfl rfl rfl rfl (by kernel_rfl) (by kernel_rfl) (by kernel_rfl) (fun _ _ => (V_fieldAddr (fo := 0) rfl Tryz.underlying86 rfl infJourY_70 rfl rfl rfl)) ?_
 refine GH_take 6 rfl rfl rfl rfl (by kernel_rfl) (by kernel_rfl) (by kernel_rfl) (fun _ _ => (V_fieldAddr (fo := 1) rfl Tryz.underlying70 rfl infJourY_3 rfl rfl rfl)) ?_
 refine GH_take 7 rfl rfl rfl rfl (by kernel_rfl) (by kernel_rfl) (by kernel_rfl) (fun _ _ => (V_load1 rfl rfl (mem_at 0 rfl) rfl Tryz.underlying3 rfl)) ?_
 refine GH_all [2] (by kernel_rfl) (by decide) ?_
 refine (And.intro ?_ trivial)
 ·
  refine GHop_call (L2 := [_, _, _, _]) rfl rfl rfl rfl rfl rfl Tryz.call43 (sn_many _ (by first | omega | (simp; done) | (simp; omega) | (simp at *; omega))) [] [] rfl rfl [0] (by rintro v post ⟨rfl, rfl⟩; exact ⟨_, rfl⟩) ?_
  rintro v post ⟨rfl, rfl⟩
  show GH _ _ _ _ _ _ _ [_, _, _, _] _
  refine GH_take 8 rfl rfl rfl rfl (by kernel_rfl) (by kernel_rfl) (by kernel_rfl) (fun _ _ => (V_gtr rfl rfl rfl)) ?_
  refine GH_take 9 rfl rfl rfl rfl (by kernel_rfl) (by kernel_rfl) (by kernel_rfl) (fun _ _ => (V_move rfl rfl)) ?_
  refine GH_splitD 22 rfl (fun hc1 => ?_) (fun hc1 => ?_)
  · (first | (exact absurd rfl hc1) | (exact absurd hc1 (by decide)) | (exact absurd (by decide) hc1) | (exfalso; omega))
  refine GH_take 10 rfl rfl rfl rfl (by kernel_rfl) (by kernel_rfl) (by kernel_rfl) (fun _ _ => (V_move rfl rfl)) ?_
  refine GH_take 11 rfl rfl rfl rfl (by kernel_rfl) (by kernel_rfl) (by kernel_rfl) (fun _ _ => (V_nilCheck rfl rfl)) ?_
  refine GH_take 12 rfl rfl rfl rfl (by kernel_rfl) (by kernel_rfl) (by kernel_rfl) (fun _ _ => (V_fieldAddr (fo := 2) rfl Tryz.underlying86 rfl infJourY_74 rfl rfl rfl)) ?_
  refine GH_take 13 rfl rfl rfl rfl (by kernel_rfl) (by kernel_rfl) (by kernel_rfl) (fun _ _ => (V_loadA (s := 5) (vs := (spCells sp).toArray) rfl rfl (mem_at 0 rfl) Tryz.underlying74 rfl infJourY_74 rfl (by simp [jC, spCells]) (by rfl))) ?_
  refine GH_all [14] (by kernel_rfl) (by decide) ?_
  refine (And.intro ?_ trivial)
  ·
   refine GHop_call (L2 := [_, _, _, _]) rfl rfl rfl rfl rfl rfl Tryz.call33 (jn_last _ (by omega) (by omega)) [] [] rfl rfl [0] (by rintro v post ⟨rfl, rfl⟩; exact ⟨_, rfl⟩) ?_
   rintro v post ⟨rfl, rfl⟩
   show GH _ _ _ _ _ _ _ [_, _, _, _] _
   refine GH_take 15 rfl rfl rfl rfl (by kernel_rfl) (by kernel_rfl) (by kernel_rfl) (fun _ _ => (V_pickF rfl rfl rfl)) ?_
   refine GH_take 16 rfl rfl rfl rfl (by kernel_rfl) (by kernel_rfl) (by kernel_rfl) (fun _ _ => (V_assign rfl rfl)) ?_
   refine GH_done (by kernel_rfl) ?_
   refine G_else rfl ?_
   refine G_skip ?_
   refine G_inBlock ?_
   refine G_seq ?_
   refine G_region (l := [0, 1, 2, 3, 4, 5, 6]) rfl ?_
   refine G_val rfl rfl rfl rfl (V_move rfl rfl) ?_
   refine G_val rfl rfl rfl rfl (V_nilCheck rfl rfl) ?_
   refine G_val rfl rfl rfl rfl (V_fieldAddr (fo := 2) rfl Tryz.underlying86 rfl infJourY_74 rfl rfl rfl) ?_
   refine G_val rfl rfl rfl rfl (V_loadA (s := 5) (vs := (spCells sp).toArray) rfl rfl (mem_at 0 rfl) Tryz.underlying74 rfl infJourY_74 rfl (by simp [jC, spCells]) (by rfl)) ?_
   refine G_call (L2 := [_, _, _, _]) rfl rfl rfl rfl rfl rfl Tryz.call34 (jn_next _ (by omega) (by omega)) [] [] rfl rfl ?_
   rintro v post ⟨rfl, rfl⟩
   show G _ _ _ [_, _, _, _] _
   refine G_new rfl rfl rfl rfl (N_allocA rfl infJourY_74 rfl) (fun b5 => ?_)
   refine G_put (l1 := []) (L' := [_, _, _, _, _]) rfl rfl rfl rfl (P_storeA (s := 5) rfl rfl rfl (mem_at 0 rfl) (by rfl) infJourY_74 rfl (by rfl) (by simp [Value.oneCell', spCells, pCells, wCells, kCells, rgC, lgC, rdC, Sl.v, zeroF, foundC, jC, wC])) rfl ?_
   refine G_done ?_
   refine G_seq ?_
   refine G_region (l := [0, 1, 2, 3, 4, 5, 6, 7, 8, 9, 10, 11, 12]) rfl ?_
   refine G_val rfl rfl rfl rfl (V_fieldAddr (fo := 2) rfl Tryz.underlying74 rfl infJourY_50 rfl rfl rfl) ?_
   refine G_val rfl rfl rfl rfl (V_load1 rfl rfl (mem_at 0 rfl) rfl Tryz.underlying50 rfl) ?_
   refine G_val rfl rfl rfl rfl (V_fieldAddr (fo := 3) rfl Tryz.underlying74 rfl infJourY_3 rfl rfl rfl) ?_
   refine G_val rfl rfl rfl rfl (V_load1 rfl rfl (mem_at 0 rfl) rfl Tryz.underlying3 rfl) ?_
   refine G_val rfl rfl rfl rfl (Val.int (e' := 1 - sp.slot) (V_sub rfl rfl rfl) (by rw [wrap_i64 (by show _ ∧ 1 - sp.slot ≤ _; show -9223372036854775808 ≤ 1 - sp.slot ∧ _; omega)]; rfl)) ?_
   refine G_val rfl rfl rfl rfl (V_move rfl rfl) ?_
   refine G_val rfl rfl rfl rfl (V_slen rfl rfl Tryz.underlying9 rfl) ?_
   refine G_val rfl rfl rfl rfl (V_fieldAddr (fo := 1) rfl Tryz.underlying74 rfl infJourY_50 rfl rfl rfl) ?_
   refine G_put (l1 := []) (L' := [_, _, _, _, _]) rfl rfl rfl rfl (P_store1 rfl rfl rfl (mem_at 0 rfl) (by first | exact of_decide_eq_true rfl | omega | (simp [spCells, pCells, wCells, kCells, rgC, lgC, rdC, Sl.v, zeroF, foundC, jC, wC]; done) | (simp [spCells, pCells, wCells, kCells, rgC, lgC, rdC, Sl.v, zeroF, foundC, jC, wC]; omega) | (simp [spCells, pCells, wCells, kCells, rgC, lgC, rdC, Sl.v, zeroF, foundC, jC, wC] at *; omega)) infJourY_50 rfl rfl) rfl ?_
   refine G_val rfl rfl rfl rfl (V_fieldAddr (fo := 3) rfl Tryz.underlying74 rfl infJourY_3 rfl rfl rfl) ?_
   refine G_put (l1 := []) (L' := [_, _, _, _, _]) rfl rfl rfl rfl (P_store1 rfl rfl rfl (mem_at 0 rfl) (by first | exact of_decide_eq_true rfl | omega | (simp [spCells, pCells, wCells, kCells, rgC, lgC, rdC, Sl.v, zeroF, foundC, jC, wC]; done) | (simp [spCells, pCells, wCells, kCells, rgC, lgC, rdC, Sl.v, zeroF, foundC, jC, wC]; omega) | (simp [spCells, pCells, wCells, kCells, rgC, lgC, rdC, Sl.v, zeroF, foundC, jC, wC] at *; omega)) infJourY_3 rfl rfl) rfl ?_
   refine G_val rfl rfl rfl rfl (V_fieldAddr (fo := 4) rfl Tryz.underlying74 rfl infJourY_3 rfl rfl rfl) ?_
   refine G_put (l1 := []) (L' := [_, _, _, _, _]) rfl rfl rfl rfl (P_store1 rfl rfl rfl (mem_at 0 rfl) (by first | exact of_decide_eq_true rfl | omega | (simp [spCells, pCells, wCells, kCells, rgC, lgC, rdC, Sl.v, zeroF, foundC, jC, wC]; done) | (simp [spCells, pCells, wCells, kCells, rgC, lgC, rdC, Sl.v, zeroF, foundC, jC, wC]; omega) | (simp [spCells, pCells, wCells, kCells, rgC, lgC, rdC, Sl.v, zeroF, foundC, jC, wC] at *; omega)) infJourY_3 rfl rfl) rfl ?_
   refine G_done ?_
   refine G_seq ?_
   refine G_seq ?_
   show G _ _ _ [(some b5, .cells (spCells (anewS sp s.length)).toArray 74 (0, 0)), _, _, _, _] _
   refine GH_start (Lq := [_, _]) (isq := [1, 0]) (m := 8) mixedK rfl rfl ?_
   refine GH_take 0 rfl rfl rfl rfl (by kernel_rfl) (by kernel_rfl) (by kernel_rfl) (fun _ _ => (V_move rfl rfl)) ?_
   refine GH_take 1 rfl rfl rfl rfl (by kernel_rfl) (by kernel_rfl) (by kernel_rfl) (fun _ _ => (V_nilCheck rfl rfl)) ?_
   refine GH_take 2 rfl rfl rfl rfl (by kernel_rfl) (by kernel_rfl) (by kernel_rfl) (fun _ _ => (V_fieldAddr (fo := 0) rfl Tryz.underlying86 rfl infJourY_70 rfl rfl rfl)) ?_
   refine GH_take 3 rfl rfl rfl rfl (by kernel_rfl) (by kernel_rfl) (by kernel_rfl) (fun _ _ => (V_loadA (s := 2) (vs := #[.pointer (some ⟨d, 0, none⟩), .int .i64 (R : Int)]) rfl rfl (mem_at 0 rfl) Tryz.underlying70 rfl infJourY_70 rfl (by simp [jC, spCells]) (by rfl))) ?_
   refine GH_take 4 rfl rfl rfl rfl (by kernel_rfl) (by kernel_rfl) (by kernel_rfl) (fun _ _ => (V_move rfl rfl)) ?_
   refine GH_take 5 rfl rfl rfl rfl (by kernel_rfl) (by kernel_rfl) (by kernel_rfl) (fun _ _ => (V_loadW (s := 5) rfl rfl (mem_at 1 rfl) Tryz.underlying74 rfl infJourY_74 rfl (by rfl))) ?_
   refine GH_all [6] (by kernel_rfl) (by decide) ?_
   refine (And.intro ?_ trivial)
   ·
    refine GHop_call (L2 := [_, _]) rfl rfl rfl rfl rfl rfl Tryz.call31 ((jn_put d n lb lcap lcs uw k h R (othF R sp) (anewS sp s.length) s (anew_ok hj.h.may hsl hq heq) (oth_int hj.h.may) (by omega) (by omega) (by rw [hj.h.w0]; simp) hsl).weaken (fun v post h => (⟨h.1.trans (congrArg (Value.int .i64) hE), h.2⟩ : v = .int .i64 0 ∧ ∃ lcs1 uw1, DkAt (jputK k ((othF R sp : Nat) : Int) (R : Int) (anewS sp s.length) s) n lb lcs1 lcap uw1 ∧ post = [(some d, .cells #[.slice (some ⟨lb, 0, none⟩) n lcap, uw1.v (jputK k ((othF R sp : Nat) : Int) (R : Int) (anewS sp s.length) s).W.length, .int .i64 (jputK k ((othF R sp : Nat) : Int) (R : Int) (anewS sp s.length) s).fuse, .bool (jputK k ((othF R sp : Nat) : Int) (R : Int) (anewS sp s.length) s).dead] 67 (0, 0)), (some lb, .cells lcs1 9 (0, 0)), (uw1.ob, .cells uw1.cs 90 uw1.fz)]))) [2, 2, 2] [] rfl rfl [4, 3] (by rintro v post ⟨rfl, lcs1, uw1, h1, rfl⟩; exact ⟨_, rfl⟩) ?_
    rintro v post ⟨rfl, lcs1, uw1, h1, rfl⟩
    show GH _ _ _ _ _ _ _ [_, _, _, _, _] _
    refine GH_take 7 rfl rfl rfl rfl (by kernel_rfl) (by kernel_rfl) (by kernel_rfl) (fun _ _ => (V_assign rfl rfl)) ?_
    refine GH_done (by kernel_rfl) ?_
    refine G_seq ?_
    refine G_region (l := [0, 1]) rfl ?_
    refine G_val rfl rfl rfl rfl (V_move rfl rfl) ?_
    refine G_val rfl rfl rfl rfl (V_neq rfl rfl rfl) ?_
    refine G_done ?_
    refine G_ifD rfl (fun hc2 => ?_) (fun hc2 => ?_)
    · (first | (exact absurd rfl hc2) | (exact absurd hc2 (by decide)) | (exact absurd (by decide) hc2) | (exfalso; omega))
    refine G_skip ?_
    refine G_seq ?_
    refine GH_start (Lq := [_, _]) (isq := [4, 3]) (m := 23) mixedK rfl rfl ?_
    refine GH_take 0 rfl rfl rfl rfl (by kernel_rfl) (by kernel_rfl) (by kernel_rfl) (fun _ _ => (V_move rfl rfl)) ?_
    refine GH_take 1 rfl rfl rfl rfl (by kernel_rfl) (by kernel_rfl) (by kernel_rfl) (fun _ _ => (V_nilCheck rfl rfl)) ?_
    refine GH_take 2 rfl rfl rfl rfl (by kernel_rfl) (by kernel_rfl) (by kernel_rfl) (fun _ _ => (V_fieldAddr (fo := 0) rfl Tryz.underlying86 rfl infJourY_70 rfl rfl rfl)) ?_
    refine GH_take 3 rfl rfl rfl rfl (by kernel_rfl) (by kernel_rfl) (by kernel_rfl) (fun _ _ => (V_fieldAddr (fo := 0) rfl Tryz.underlying70 rfl infJourY_26 rfl rfl rfl)) ?_
    refine GH_take 4 rfl rfl rfl rfl (by kernel_rfl) (by kernel_rfl) (by kernel_rfl) (fun _ _ => (V_load1 rfl rfl (mem_at 0 rfl) rfl Tryz.underlying26 rfl)) ?_
    refine GH_take 5 rfl rfl rfl rfl (by kernel_rfl) (by kernel_rfl) (by kernel_rfl) (fun _ _ => (V_move rfl rfl)) ?_
    refine GH_take 6 rfl rfl rfl rfl (by kernel_rfl) (by kernel_rfl) (by kernel_rfl) (fun _ _ => (V_nilCheck rfl rfl)) ?_
    refine GH_take 7 rfl rfl rfl rfl (by kernel_rfl) (by kernel_rfl) (by kernel_rfl) (fun _ _ => (V_fieldAddr (fo := 0) rfl Tryz.underlying86 rfl infJourY_70 rfl rfl rfl)) ?_
    refine GH_take 8 rfl rfl rfl rfl (by kernel_rfl) (by kernel_rfl) (by kernel_rfl) (fun _ _ => (V_loadA (s := 2) (vs := #[.pointer (some ⟨d, 0, none⟩), .int .i64 (R : Int)]) rfl rfl (mem_at 0 rfl) Tryz.underlying70 rfl infJourY_70 rfl (by simp [jC, spCells]) (by rfl))) ?_
    refine GH_take 10 rfl rfl rfl rfl (by kernel_rfl) (by kernel_rfl) (by kernel_rfl) (fun _ _ => (V_move rfl rfl)) ?_
    refine GH_take 11 rfl rfl rfl rfl (by kernel_rfl) (by kernel_rfl) (by kernel_rfl) (fun _ _ => (V_nilCheck rfl rfl)) ?_
    refine GH_take 12 rfl rfl rfl rfl (by kernel_rfl) (by kernel_rfl) (by kernel_rfl) (fun _ _ => (V_fieldAddr (fo := 0) rfl Tryz.underlying86 rfl infJourY_70 rfl rfl rfl)) ?_
    refine GH_take 13 rfl rfl rfl rfl (by kernel_rfl) (by kernel_rfl) (by kernel_rfl) (fun _ _ => (V_loadA (s := 2) (vs := #[.pointer (some ⟨d, 0, none⟩), .int .i64 (R : Int)]) rfl rfl (mem_at 0 rfl) Tryz.underlying70 rfl infJourY_70 rfl (by simp [jC, spCells]) (by rfl))) ?_
    refine GH_take 15 rfl rfl rfl rfl (by kernel_rfl) (by kernel_rfl) (by kernel_rfl) (fun _ _ => (V_fieldAddr (fo := 2) rfl Tryz.underlying74 rfl infJourY_50 rfl rfl rfl)) ?_
    refine GH_take 16 rfl rfl rfl rfl (by kernel_rfl) (by kernel_rfl) (by kernel_rfl) (fun _ _ => (V_load1 rfl rfl (mem_at 1 rfl) rfl Tryz.underlying50 rfl)) ?_
    refine GH_all [9] (by kernel_rfl) (by decide) ?_
    refine (And.intro ?_ trivial)
    ·
     refine GHop_call (L2 := [_, _, _, _, _]) rfl rfl rfl rfl rfl rfl Tryz.call37 (jn_regionZ (.pointer (some ⟨d, 0, none⟩)) rfl (R : Int) ((2 + 2 * R : Nat) : Int) (by omega) (by omega) (by omega)) [] [] rfl rfl [4, 3] (by rintro v post ⟨rfl, rfl⟩; exact ⟨_, rfl⟩) ?_
     rintro v post ⟨rfl, rfl⟩
     show GH _ _ _ _ _ _ _ [_, _, _, _, _] _
     refine GH_all [14] (by kernel_rfl) (by decide) ?_
     refine (And.intro ?_ trivial)
     ·
      refine GHop_call (L2 := [_, _, _, _, _]) rfl rfl rfl rfl rfl rfl Tryz.call38 (jn_leftZ d n lb lcap lcs1 uw1 (jputK k ((othF R sp : Nat) : Int) (R : Int) (anewS sp s.length) s) h1 (R : Int) ((2 + 2 * R : Nat) : Int) (by omega) (by omega) (by omega) ((n - (2 + 2 * R) : Nat) : Int) (by omega)) [] [0] rfl rfl [4, 3] (by rintro v post ⟨rfl, rfl⟩; exact ⟨_, rfl⟩) ?_
      rintro v post ⟨rfl, rfl⟩
      show GH _ _ _ _ _ _ _ [_, _, _, _, _] _
      refine GH_all [17] (by kernel_rfl) (by decide) ?_
      refine (And.intro ?_ trivial)
      ·
       refine GHop_call (L2 := [_, _, _, _, _]) rfl rfl rfl rfl rfl rfl Tryz.call36 ((lg_new d n lb lcap lcs1 uw1 (jputK k ((othF R sp : Nat) : Int) (R : Int) (anewS sp s.length) s) h1 ((2 + 2 * R : Nat) : Int) ((n - (2 + 2 * R) : Nat) : Int) (by omega) (by omega) (by omega) (by omega) (sp.epoch + 1) (0 : Int) (by omega) (by omega) (by omega)).weaken (fun v post h => by rcases h with ⟨q, _⟩ | ⟨_, q, _⟩ | ⟨_, _, _, _, q⟩ <;> first | exact absurd (rgE_ok.2 (by omega)) q | (exfalso; omega) | exact q)) [] [0] rfl rfl [5, 4] (by rintro v post ⟨g, rfl, rfl⟩; exact ⟨_, rfl⟩) ?_
       rintro v post ⟨g, rfl, rfl⟩
       show GH _ _ _ _ _ _ _ [_, _, _, _, _, _] _
       refine GH_take 18 rfl rfl rfl rfl (by kernel_rfl) (by kernel_rfl) (by kernel_rfl) (fun _ _ => (V_move rfl rfl)) ?_
       refine GH_take 19 rfl rfl rfl rfl (by kernel_rfl) (by kernel_rfl) (by kernel_rfl) (fun _ _ => (V_extract rfl rfl rfl)) ?_
       refine GH_take 20 rfl rfl rfl rfl (by kernel_rfl) (by kernel_rfl) (by kernel_rfl) (fun _ _ => (V_extract rfl rfl rfl)) ?_
       refine GH_take 21 rfl rfl rfl rfl (by kernel_rfl) (by kernel_rfl) (by kernel_rfl) (fun _ _ => (V_assign rfl rfl)) ?_
       refine GH_take 22 rfl rfl rfl rfl (by kernel_rfl) (by kernel_rfl) (by kernel_rfl) (fun _ _ => (V_assign rfl rfl)) ?_
       refine GH_done (by kernel_rfl) ?_
       refine G_seq ?_
       refine G_seq ?_
       refine G_region (l := [0, 1]) rfl ?_
       refine G_val rfl rfl rfl rfl (V_move rfl rfl) ?_
       refine G_val rfl rfl rfl rfl (V_neq rfl rfl rfl) ?_
       refine G_done ?_
       refine G_ifD rfl (fun hc3 => ?_) (fun hc3 => ?_)
       · (first | (exact absurd rfl hc3) | (exact absurd hc3 (by decide)) | (exact absurd (by decide) hc3) | (exfalso; omega))
       refine G_skip ?_
       refine G_seq ?_
       refine G_region (l := [0, 1, 2, 3, 4, 5, 6, 7, 8, 9]) rfl ?_
       refine G_val rfl rfl rfl rfl (V_move rfl rfl) ?_
       refine G_val rfl rfl rfl rfl (V_move rfl rfl) ?_
       refine G_val rfl rfl rfl rfl (V_loadW (s := 5) rfl rfl (mem_at 4 rfl) Tryz.underlying74 rfl infJourY_74 rfl (by rfl)) ?_
       refine G_val rfl rfl rfl rfl (V_move rfl rfl) ?_
       refine G_val rfl rfl rfl rfl (V_nilCheck rfl rfl) ?_
       refine G_val rfl rfl rfl rfl (V_fieldAddr (fo := 2) rfl Tryz.underlying86 rfl infJourY_74 rfl rfl rfl) ?_
       refine G_put (l1 := [_, _, _, _, _]) (L' := [_, _, _, _, _, _]) rfl rfl rfl rfl (P_storeM (off := 2) (s := 5) rfl rfl rfl (mem_at 5 rfl) (by first | rfl | kernel_rfl) infJourY_74 rfl (by rfl) (by simp [Value.oneCell', spCells, pCells, wCells, kCells, rgC, lgC, rdC, Sl.v, zeroF, foundC, jC, wC])) rfl ?_
       refine G_val rfl rfl rfl rfl (V_nilCheck rfl rfl) ?_
       refine G_val rfl rfl rfl rfl (V_fieldAddr (fo := 7) rfl Tryz.underlying86 rfl infJourY_82 rfl rfl rfl) ?_
       refine G_put (l1 := [_, _, _, _, _]) (L' := [_, _, _, _, _, _]) rfl rfl rfl rfl (P_store1 rfl rfl rfl (mem_at 5 rfl) (by first | exact of_decide_eq_true rfl | omega | (simp [spCells, pCells, wCells, kCells, rgC, lgC, rdC, Sl.v, zeroF, foundC, jC, wC]; done) | (simp [spCells, pCells, wCells, kCells, rgC, lgC, rdC, Sl.v, zeroF, foundC, jC, wC]; omega) | (simp [spCells, pCells, wCells, kCells, rgC, lgC, rdC, Sl.v, zeroF, foundC, jC, wC] at *; omega)) infJourY_82 rfl rfl) rfl ?_
       refine G_done ?_
       refine G_seq ?_
       show G _ _ _ [_, _, _, _, _, (some j, .cells (jC d (R : Int) (anewS sp s.length) g).toArray 86 (0, 0))] _
       refine G_region (l := [0]) rfl ?_
       refine G_val rfl rfl rfl rfl (V_assign rfl rfl) ?_
       refine G_done ?_
       refine G_ret (post := [_, _, _, _, _]) Tryz.func19 rfl (RVs_cons (RV_tmp rfl) RVs_nil) [5, 1, 1, 1, 0] rfl ?_
       dsimp only [packed]
       exact ⟨rfl, lcs1, uw1, g, h1, rfl⟩

set_option maxRecDepth 100000 in
set_option maxHeartbeats 1000000 in
theorem rj_parts (n : Nat) (hn : n ≤ 4096) (room : Int) (hr0 : -9223372036854775808 ≤ room) (hr1 : room ≤ 9223372036854775807) :
    Ct Tryz.prog 11 [.int .i64 (n : Int), .int .i64 room] [] [] fun v post => v = .bool (decide (partE n room = 0)) ∧ post = [] := by
 refine ct_of Tryz.func11 rfl rfl (fun w0 => ?_)
 show G _ _ [(0, _), (1, _)] _ _
 refine G_seq ?_
 refine G_region (l := [0]) rfl ?_
 refine G_val rfl rfl rfl rfl (V_assign rfl rfl) ?_
 refine G_done ?_
 refine G_seq ?_
 refine G_region (l := [0, 1, 2, 3, 4, 5, 6, 7, 8, 9, 10, 11, 12, 13, 14]) rfl ?_
 refine G_val rfl rfl rfl rfl (V_move rfl rfl) ?_
 refine G_val rfl rfl rfl rfl (V_geq rfl rfl rfl) ?_
 refine G_val rfl rfl rfl rfl (V_move rfl rfl) ?_
 refine G_splitD 7 rfl (fun hc1 => ?_) (fun hc1 => ?_)
 ·
  refine G_val rfl rfl rfl rfl (V_move rfl rfl) ?_
  refine G_val rfl rfl rfl rfl (V_move rfl rfl) ?_
  refine G_val rfl rfl rfl rfl (V_leq rfl rfl rfl) ?_
  refine G_val rfl rfl rfl rfl (V_pickT rfl rfl rfl) ?_
  refine G_val rfl rfl rfl rfl (V_move rfl rfl) ?_
  refine G_splitD 12 rfl (fun hc2 => ?_) (fun hc2 => ?_)
  ·
   refine G_val rfl rfl rfl rfl (V_move rfl rfl) ?_
   refine G_val rfl rfl rfl rfl ((V_mul rfl rfl rfl).int (wrap_i64 (by omega))) ?_
   refine G_val rfl rfl rfl rfl ((V_add rfl rfl rfl).int (wrap_i64 (by omega))) ?_
   refine G_val rfl rfl rfl rfl (V_move rfl rfl) ?_
   refine G_val rfl rfl rfl rfl (V_lss rfl rfl rfl) ?_
   refine G_val rfl rfl rfl rfl (V_pickT rfl rfl rfl) ?_
   refine G_val rfl rfl rfl rfl (V_assign rfl rfl) ?_
   refine G_done ?_
   refine G_ret (post := []) Tryz.func11 rfl (RVs_cons (RV_tmp rfl) RVs_nil) [] rfl ?_
   dsimp only [packed]
   refine ⟨?_, rfl⟩; first | exact bool_eq (decide_eq_true (partE_0.2 (by omega))).symm | exact bool_eq (decide_eq_false (fun h => by have := partE_0.1 h; omega)).symm | exact bool_eq (decide_eq_decide.2 (by rw [partE_0]; omega))
  refine G_off rfl rfl rfl rfl ?_
  refine G_off rfl rfl rfl rfl ?_
  refine G_off rfl rfl rfl rfl ?_
  refine G_off rfl rfl rfl rfl ?_
  refine G_off rfl rfl rfl rfl ?_
  refine G_val rfl rfl rfl rfl (V_pickF rfl rfl rfl) ?_
  refine G_val rfl rfl rfl rfl (V_assign rfl rfl) ?_
  refine G_done ?_
  refine G_ret (post := []) Tryz.func11 rfl (RVs_cons (RV_tmp rfl) RVs_nil) [] rfl ?_
  dsimp only [packed]
  refine ⟨?_, rfl⟩; first | exact bool_eq (decide_eq_true (partE_0.2 (by omega))).symm | exact bool_eq (decide_eq_false (fun h => by have := partE_0.1 h; omega)).symm | exact bool_eq (decide_eq_decide.2 (by rw [partE_0]; omega))
 refine G_off rfl rfl rfl rfl ?_
 refine G_off rfl rfl rfl rfl ?_
 refine G_off rfl rfl rfl rfl ?_
 refine G_val rfl rfl rfl rfl (V_pickF rfl rfl rfl) ?_
 refine G_val rfl rfl rfl rfl (V_move rfl rfl) ?_
 refine G_off rfl rfl rfl rfl ?_
 refine G_off rfl rfl rfl rfl ?_
 refine G_off rfl rfl rfl rfl ?_
 refine G_off rfl rfl rfl rfl ?_
 refine G_off rfl rfl rfl rfl ?_
 refine G_val rfl rfl rfl rfl (V_pickF rfl rfl rfl) ?_
 refine G_val rfl rfl rfl rfl (V_assign rfl rfl) ?_
 refine G_done ?_
 refine G_ret (post := []) Tryz.func11 rfl (RVs_cons (RV_tmp rfl) RVs_nil) [] rfl ?_
 dsimp only [packed]
 refine ⟨?_, rfl⟩; first | exact bool_eq (decide_eq_true (partE_0.2 (by omega))).symm | exact bool_eq (decide_eq_false (fun h => by have := partE_0.1 h; omega)).symm | exact bool_eq (decide_eq_decide.2 (by rw [partE_0]; omega))

set_option maxRecDepth 100000 in
set_option maxHeartbeats 1000000 in
theorem rj_new (n R : Nat) (hn : n ≤ 60) (hR : 2 + 2 * R < n) (s : List UInt8) :
    Ct Tryz.prog 13 [.int .i64 (n : Int), .int .i64 (R : Int), .string (bs s)] [] [] fun v post => v = .agg (wC s (.slice none 0 0) 0 ((n - (2 + 2 * R) : Nat) : Int) (R : Int) 2).toArray ∧ post = [] := by
 refine ct_of Tryz.func13 rfl rfl (fun w0 => ?_)
 show G _ _ [(0, _), (1, _), (2, _)] _ _
 refine G_seq ?_
 refine G_region (l := [0]) rfl ?_
 refine G_new rfl rfl rfl rfl (N_allocA rfl infJourY_36 rfl) (fun b6 => ?_)
 refine G_done ?_
 refine G_seq ?_
 refine G_region (l := [0, 1, 2, 3, 4, 5, 6, 7, 8]) rfl ?_
 refine G_val rfl rfl rfl rfl (V_move rfl rfl) ?_
 refine G_val rfl rfl rfl rfl (V_move rfl rfl) ?_
 refine G_val rfl rfl rfl rfl ((V_sub rfl rfl rfl).int (wrap_i64 (by omega))) ?_
 refine G_val rfl rfl rfl rfl (V_move rfl rfl) ?_
 refine G_val rfl rfl rfl rfl ((V_mul rfl rfl rfl).int (wrap_i64 (by omega))) ?_
 refine G_val rfl rfl rfl rfl (Val.int (e' := ((n - (2 + 2 * R) : Nat) : Int)) (V_sub rfl rfl rfl) (by rw [wrap_i64 (by omega)]; omega)) ?_
 refine G_val rfl rfl rfl rfl (V_move rfl rfl) ?_
 refine G_val rfl rfl rfl rfl (V_buildS (cs := [_, _, _, _, _, _]) rfl Tryz.underlying36 infJourY_36 rfl plcJourY_36 rfl rfl rfl) ?_
 refine G_put (l1 := []) (L' := [_]) rfl rfl rfl rfl (P_storeA (s := 6) rfl rfl rfl (mem_at 0 rfl) (by rfl) infJourY_36 rfl (by rfl) (by simp [Value.oneCell', spCells, pCells, wCells, kCells, rgC, lgC, rdC, Sl.v, zeroF, foundC, jC, wC])) rfl ?_
 refine G_done ?_
 refine G_ret (post := []) Tryz.func13 rfl (RVs_cons (RV_cell (s := 6) rfl (mem_at 0 rfl) Tryz.underlying36 rfl infJourY_36 rfl (by rfl)) RVs_nil) [] rfl ?_
 dsimp only [packed]
 exact ⟨rfl, rfl⟩

set_option maxRecDepth 100000 in
set_option maxHeartbeats 1000000 in
theorem rsn_many (n : Nat) (h : n ≤ 9223372036854775000) :
    Ct Tryz.prog 12 [.int .i64 (n : Int)] [] [] fun v post => v = .int .i64 ((manyS n : Nat) : Int) ∧ post = [] := by
 refine ct_of Tryz.func12 rfl rfl (fun w0 => ?_)
 show G _ _ [(0, _)] _ _
 refine G_seq ?_
 refine G_region (l := [0]) rfl ?_
 refine G_val rfl rfl rfl rfl (V_assign rfl rfl) ?_
 refine G_done ?_
 refine G_seq ?_
 refine G_region (l := [0]) rfl ?_
 refine G_val rfl rfl rfl rfl (V_assign rfl rfl) ?_
 refine G_done ?_
 refine G_seq ?_
 refine G_block ?_
 refine G_sub ?he2 [] ?hl2 (G_loop (X := Nat) (fun k => 48 * k < n + 48) (fun k => n + 48 - 48 * k) (fun k => [(0, .int .i64 (n : Int)), (3, .int .i64 (k : Int))]) (fun k => []) ?round2 0 ?h02)
 case he2 => exact (And.intro rfl (And.intro rfl trivial))
 case hl2 => exact ⟨_, rfl⟩
 case h02 => omega
 case round2 =>
  intro k hJ ih
  try dsimp only at hJ ih
  refine G_seq ?_
  refine G_seq ?_
  refine G_region (l := [0, 1, 2, 3]) rfl ?_
  refine G_val rfl rfl rfl rfl (V_move rfl rfl) ?_
  refine G_val rfl rfl rfl rfl ((V_mul rfl rfl rfl).int (wrap_i64 (by omega))) ?_
  refine G_val rfl rfl rfl rfl (V_move rfl rfl) ?_
  refine G_val rfl rfl rfl rfl (V_lss rfl rfl rfl) ?_
  refine G_done ?_
  refine G_ifD rfl (fun hc1 => ?_) (fun hc1 => ?_)
  ·
   refine G_skip ?_
   refine G_block ?_
   refine G_region (l := [0, 1, 2]) rfl ?_
   refine G_val rfl rfl rfl rfl (V_move rfl rfl) ?_
   refine G_val rfl rfl rfl rfl ((V_add rfl rfl rfl).int (wrap_i64 (by omega))) ?_
   refine G_val rfl rfl rfl rfl (V_assign rfl rfl) ?_
   refine G_done ?_
   refine G_inBlock ?_
   refine G_sub ?_ [] ?_ (ih (k + 1) ?_ ?_)
   · (refine (And.intro ?_ (And.intro ?_ trivial)) <;> first | rfl | exact slot_int (by omega) | exact slot_int (by simp))
   · exact ⟨_, rfl⟩
   · omega
   · omega
  refine G_exit rfl ?_
  refine G_seq ?_
  refine G_region (l := [0, 1]) rfl ?_
  refine G_val rfl rfl rfl rfl (V_move rfl rfl) ?_
  refine G_val rfl rfl rfl rfl (V_assign rfl rfl) ?_
  refine G_done ?_
  refine G_ret (post := []) Tryz.func12 rfl (RVs_cons (RV_tmp rfl) RVs_nil) [] rfl ?_
  dsimp only [packed]
  exact ⟨by rw [show manyS n = k by unfold manyS; omega], rfl⟩

set_option maxRecDepth 100000 in
set_option maxHeartbeats 1000000 in
theorem rj_add_long (n R a : Nat) (hn : n ≤ 60) (ha : a ≤ 60) (t : List UInt8) (recs : List (List UInt8)) (u : Sl) (e : Int) (he : 0 ≤ e ∧ e ≤ 1000) (s : List UInt8) (hsl : s.length ≤ 1000000) (hl : 1000 < s.length) :
    Ct Tryz.prog 15 [.agg (wC t (u.v recs.length) (a : Int) ((n - (2 + 2 * R) : Nat) : Int) (R : Int) e).toArray, .string (bs s)] [] [] fun v post => v = .tuple #[.agg (wC t (u.v recs.length) (a : Int) ((n - (2 + 2 * R) : Nat) : Int) (R : Int) e).toArray, .int .i64 4] ∧ post = [] := by
 refine ct_of Tryz.func15 rfl rfl (fun w0 => ?_)
 show G _ _ [(0, _), (1, _)] _ _
 refine G_seq ?_
 refine G_region (l := [0, 1, 2]) rfl ?_
 refine G_new rfl rfl rfl rfl (N_boxA rfl rfl) (fun b2 => ?_)
 refine G_new rfl rfl rfl rfl (N_allocA rfl infJourY_36 rfl) (fun b4 => ?_)
 refine G_val rfl rfl rfl rfl (V_assign rfl rfl) ?_
 refine G_done ?_
 refine G_seq ?_
 refine G_seq ?_
 refine G_region (l := [0, 1, 2]) rfl ?_
 refine G_val rfl rfl rfl rfl (V_move rfl rfl) ?_
 refine G_val rfl rfl rfl rfl (V_slen rfl rfl Tryz.underlying9 rfl) ?_
 refine G_val rfl rfl rfl rfl (V_gtr rfl rfl rfl) ?_
 refine G_done ?_
 refine G_ifD rfl (fun hc1 => ?_) (fun hc1 => ?_)
 rotate_left
 · (first | (exact absurd rfl hc1) | (exact absurd hc1 (by decide)) | (exact absurd (by decide) hc1) | (exfalso; omega))
 refine G_seq ?_
 refine G_region (l := [0, 1, 2]) rfl ?_
 refine G_val rfl rfl rfl rfl (V_loadW (s := 6) rfl rfl (mem_at 1 rfl) Tryz.underlying36 rfl infJourY_36 rfl (by rfl)) ?_
 refine G_put (l1 := []) (L' := [_, _]) rfl rfl rfl rfl (P_storeA (s := 6) rfl rfl rfl (mem_at 0 rfl) (by rfl) infJourY_36 rfl (by rfl) (by simp [Value.oneCell', spCells, pCells, wCells, kCells, rgC, lgC, rdC, Sl.v, zeroF, foundC, jC, wC])) rfl ?_
 refine G_val rfl rfl rfl rfl (V_assign rfl rfl) ?_
 refine G_done ?_
 refine G_ret (post := []) Tryz.func15 rfl (RVs_cons (RV_cell (s := 6) rfl (mem_at 0 rfl) Tryz.underlying36 rfl infJourY_36 rfl (by rfl)) (RVs_cons (RV_tmp rfl) RVs_nil)) [] rfl ?_
 dsimp only [packed]
 exact ⟨rfl, rfl⟩

set_option maxRecDepth 100000 in
set_option maxHeartbeats 1000000 in
theorem rj_add_full (n R a : Nat) (hn : n ≤ 60) (ha : a ≤ 60) (t : List UInt8) (recs : List (List UInt8)) (u : Sl) (e : Int) (he : 0 ≤ e ∧ e ≤ 1000) (s : List UInt8) (hsl : s.length ≤ 1000000) (hl : s.length ≤ 1000) (hf : ¬ fitsL (((n - (2 + 2 * R) : Nat) : Int) - (a : Int)) s) :
    Ct Tryz.prog 15 [.agg (wC t (u.v recs.length) (a : Int) ((n - (2 + 2 * R) : Nat) : Int) (R : Int) e).toArray, .string (bs s)] [] [] fun v post => v = .tuple #[.agg (wC t (u.v recs.length) (a : Int) ((n - (2 + 2 * R) : Nat) : Int) (R : Int) e).toArray, .int .i64 17] ∧ post = [] := by
 have hf2 : ¬ (manyN s.length : Int) ≤ ((n - (2 + 2 * R) : Nat) : Int) - (a : Int) := fun x => hf ⟨hl, x⟩
 refine ct_of Tryz.func15 rfl rfl (fun w0 => ?_)
 show G _ _ [(0, _), (1, _)] _ _
 refine G_seq ?_
 refine G_region (l := [0, 1, 2]) rfl ?_
 refine G_new rfl rfl rfl rfl (N_boxA rfl rfl) (fun b2 => ?_)
 refine G_new rfl rfl rfl rfl (N_allocA rfl infJourY_36 rfl) (fun b4 => ?_)
 refine G_val rfl rfl rfl rfl (V_assign rfl rfl) ?_
 refine G_done ?_
 refine G_seq ?_
 refine G_seq ?_
 refine G_region (l := [0, 1, 2]) rfl ?_
 refine G_val rfl rfl rfl rfl (V_move rfl rfl) ?_
 refine G_val rfl rfl rfl rfl (V_slen rfl rfl Tryz.underlying9 rfl) ?_
 refine G_val rfl rfl rfl rfl (V_gtr rfl rfl rfl) ?_
 refine G_done ?_
 refine G_ifD rfl (fun hc1 => ?_) (fun hc1 => ?_)
 · (first | (exact absurd rfl hc1) | (exact absurd hc1 (by decide)) | (exact absurd (by decide) hc1) | (exfalso; omega))
 refine G_skip ?_
 refine G_seq ?_
 refine G_seq ?_
 refine GH_start (Lq := [_]) (isq := [1]) (m := 9) mixedK rfl rfl ?_
 refine GH_take 0 rfl rfl rfl rfl (by kernel_rfl) (by kernel_rfl) (by kernel_rfl) (fun _ _ => (V_move rfl rfl)) ?_
 refine GH_take 1 rfl rfl rfl rfl (by kernel_rfl) (by kernel_rfl) (by kernel_rfl) (fun _ _ => (V_slen rfl rfl Tryz.underlying9 rfl)) ?_
 refine GH_take 3 rfl rfl rfl rfl (by kernel_rfl) (by kernel_rfl) (by kernel_rfl) (fun _ _ => (V_fieldAddr (fo := 3) rfl Tryz.underlying36 rfl infJourY_3 rfl rfl rfl)) ?_
 refine GH_take 4 rfl rfl rfl rfl (by kernel_rfl) (by kernel_rfl) (by kernel_rfl) (fun _ _ => (V_load1 rfl rfl (mem_at 0 rfl) rfl Tryz.underlying3 rfl)) ?_
 refine GH_take 5 rfl rfl rfl rfl (by kernel_rfl) (by kernel_rfl) (by kernel_rfl) (fun _ _ => (V_fieldAddr (fo := 2) rfl Tryz.underlying36 rfl infJourY_3 rfl rfl rfl)) ?_
 refine GH_take 6 rfl rfl rfl rfl (by kernel_rfl) (by kernel_rfl) (by kernel_rfl) (fun _ _ => (V_load1 rfl rfl (mem_at 0 rfl) rfl Tryz.underlying3 rfl)) ?_
 refine GH_take 7 rfl rfl rfl rfl (by kernel_rfl) (by kernel_rfl) (by kernel_rfl) (fun _ _ => ((V_sub rfl rfl rfl).int (wrap_i64 (by omega)))) ?_
 refine GH_all [2] (by kernel_rfl) (by decide) ?_
 refine (And.intro ?_ trivial)
 ·
  refine GHop_call (L2 := [_, _]) rfl rfl rfl rfl rfl rfl Tryz.call39 (rfr_many s.length (by omega)) [] [] rfl rfl [1] (by rintro v post ⟨rfl, rfl⟩; exact ⟨_, rfl⟩) ?_
  rintro v post ⟨rfl, rfl⟩
  show GH _ _ _ _ _ _ _ [_, _] _
  refine GH_take 8 rfl rfl rfl rfl (by kernel_rfl) (by kernel_rfl) (by kernel_rfl) (fun _ _ => (V_gtr rfl rfl rfl)) ?_
  refine GH_done (by kernel_rfl) ?_
  refine G_ifD rfl (fun hc2 => ?_) (fun hc2 => ?_)
  rotate_left
  · (first | (exact absurd rfl hc2) | (exact absurd hc2 (by decide)) | (exact absurd (by decide) hc2) | (exfalso; omega))
  refine G_seq ?_
  refine G_region (l := [0, 1, 2]) rfl ?_
  refine G_val rfl rfl rfl rfl (V_loadW (s := 6) rfl rfl (mem_at 1 rfl) Tryz.underlying36 rfl infJourY_36 rfl (by rfl)) ?_
  refine G_put (l1 := []) (L' := [_, _]) rfl rfl rfl rfl (P_storeA (s := 6) rfl rfl rfl (mem_at 0 rfl) (by rfl) infJourY_36 rfl (by rfl) (by simp [Value.oneCell', spCells, pCells, wCells, kCells, rgC, lgC, rdC, Sl.v, zeroF, foundC, jC, wC])) rfl ?_
  refine G_val rfl rfl rfl rfl (V_assign rfl rfl) ?_
  refine G_done ?_
  refine G_ret (post := []) Tryz.func15 rfl (RVs_cons (RV_cell (s := 6) rfl (mem_at 0 rfl) Tryz.underlying36 rfl infJourY_36 rfl (by rfl)) (RVs_cons (RV_tmp rfl) RVs_nil)) [] rfl ?_
  dsimp only [packed]
  exact ⟨rfl, rfl⟩

set_option maxRecDepth 100000 in
set_option maxHeartbeats 2000000 in
theorem rj_add (n R a : Nat) (hn : n ≤ 60) (ha : a ≤ 60) (t : List UInt8) (recs : List (List UInt8)) (u : Sl) (e : Int) (he : 0 ≤ e ∧ e ≤ 1000) (s : List UInt8) (hsl : s.length ≤ 1000000) (hf : fitsL (((n - (2 + 2 * R) : Nat) : Int) - (a : Int)) s) (hu : Own 1 u (recs.map strC) recs.length) (hrl : recs.length ≤ 1000) :
    Ct Tryz.prog 15 [.agg (wC t (u.v recs.length) (a : Int) ((n - (2 + 2 * R) : Nat) : Int) (R : Int) e).toArray, .string (bs s)] [(u.ob, .cells u.cs 9 u.fz)] [] fun v post => ∃ u2, Own 1 u2 ((recs ++ [s]).map strC) (recs ++ [s]).length ∧ v = .tuple #[.agg (wC t (u2.v (recs ++ [s]).length) ((a + manyN s.length : Nat) : Int) ((n - (2 + 2 * R) : Nat) : Int) (R : Int) e).toArray, .int .i64 0] ∧ post = [(u2.ob, .cells u2.cs 9 u2.fz)] := by
 have hf1 := hf.1
 have hf2 := hf.2
 refine ct_of Tryz.func15 rfl rfl (fun w0 => ?_)
 show G _ _ [(0, _), (1, _)] _ _
 refine G_seq ?_
 refine G_region (l := [0, 1, 2]) rfl ?_
 refine G_new rfl rfl rfl rfl (N_boxA rfl rfl) (fun b2 => ?_)
 refine G_new rfl rfl rfl rfl (N_allocA rfl infJourY_36 rfl) (fun b4 => ?_)
 refine G_val rfl rfl rfl rfl (V_assign rfl rfl) ?_
 refine G_done ?_
 refine G_seq ?_
 refine G_seq ?_
 refine G_region (l := [0, 1, 2]) rfl ?_
 refine G_val rfl rfl rfl rfl (V_move rfl rfl) ?_
 refine G_val rfl rfl rfl rfl (V_slen rfl rfl Tryz.underlying9 rfl) ?_
 refine G_val rfl rfl rfl rfl (V_gtr rfl rfl rfl) ?_
 refine G_done ?_
 refine G_ifD rfl (fun hc1 => ?_) (fun hc1 => ?_)
 · (first | (exact absurd rfl hc1) | (exact absurd hc1 (by decide)) | (exact absurd (by decide) hc1) | (exfalso; omega))
 refine G_skip ?_
 refine G_seq ?_
 refine G_seq ?_
 refine GH_start (Lq := [_]) (isq := [1]) (m := 9) mixedK rfl rfl ?_
 refine GH_take 0 rfl rfl rfl rfl (by kernel_rfl) (by kernel_rfl) (by kernel_rfl) (fun _ _ => (V_move rfl rfl)) ?_
 refine GH_take 1 rfl rfl rfl rfl (by kernel_rfl) (by kernel_rfl) (by kernel_rfl) (fun _ _ => (V_slen rfl rfl Tryz.underlying9 rfl)) ?_
 refine GH_take 3 rfl rfl rfl rfl (by kernel_rfl) (by kernel_rfl) (by kernel_rfl) (fun _ _ => (V_fieldAddr (fo := 3) rfl Tryz.underlying36 rfl infJourY_3 rfl rfl rfl)) ?_
 refine GH_take 4 rfl rfl rfl rfl (by kernel_rfl) (by kernel_rfl) (by kernel_rfl) (fun _ _ => (V_load1 rfl rfl (mem_at 1 rfl) rfl Tryz.underlying3 rfl)) ?_
 refine GH_take 5 rfl rfl rfl rfl (by kernel_rfl) (by kernel_rfl) (by kernel_rfl) (fun _ _ => (V_fieldAddr (fo := 2) rfl Tryz.underlying36 rfl infJourY_3 rfl rfl rfl)) ?_
 refine GH_take 6 rfl rfl rfl rfl (by kernel_rfl) (by kernel_rfl) (by kernel_rfl) (fun _ _ => (V_load1 rfl rfl (mem_at 1 rfl) rfl Tryz.underlying3 rfl)) ?_
 refine GH_take 7 rfl rfl rfl rfl (by kernel_rfl) (by kernel_rfl) (by kernel_rfl) (fun _ _ => ((V_sub rfl rfl rfl).int (wrap_i64 (by omega)))) ?_
 refine GH_all [2] (by kernel_rfl) (by decide) ?_
 refine (And.intro ?_ trivial)
 ·
  refine GHop_call (L2 := [_, _]) rfl rfl rfl rfl rfl rfl Tryz.call39 (rfr_many s.length (by omega)) [] [] rfl rfl [1] (by rintro v post ⟨rfl, rfl⟩; exact ⟨_, rfl⟩) ?_
  rintro v post ⟨rfl, rfl⟩
  show GH _ _ _ _ _ _ _ [_, _] _
  refine GH_take 8 rfl rfl rfl rfl (by kernel_rfl) (by kernel_rfl) (by kernel_rfl) (fun _ _ => (V_gtr rfl rfl rfl)) ?_
  refine GH_done (by kernel_rfl) ?_
  refine G_ifD rfl (fun hc2 => ?_) (fun hc2 => ?_)
  · (first | (exact absurd rfl hc2) | (exact absurd hc2 (by decide)) | (exact absurd (by decide) hc2) | (exfalso; omega))
  refine G_skip ?_
  refine G_seq ?_
  refine GH_start (Lq := []) (isq := []) (m := 8) mixedK rfl rfl ?_
  refine GH_take 0 rfl rfl rfl rfl (by kernel_rfl) (by kernel_rfl) (by kernel_rfl) (fun _ _ => (V_fieldAddr (fo := 2) rfl Tryz.underlying36 rfl infJourY_3 rfl rfl rfl)) ?_
  refine GH_take 2 rfl rfl rfl rfl (by kernel_rfl) (by kernel_rfl) (by kernel_rfl) (fun _ _ => (V_move rfl rfl)) ?_
  refine GH_take 3 rfl rfl rfl rfl (by kernel_rfl) (by kernel_rfl) (by kernel_rfl) (fun _ _ => (V_slen rfl rfl Tryz.underlying9 rfl)) ?_
  refine GH_all [1, 4] (by kernel_rfl) (by decide) ?_
  refine (And.intro ?_ (And.intro ?_ trivial))
  ·
   refine GHop_val rfl rfl rfl rfl (V_load1 rfl rfl (mem_at 2 rfl) rfl Tryz.underlying3 rfl) ?_
   refine GH_all [4] (by kernel_rfl) (by decide) ?_
   refine (And.intro ?_ trivial)
   ·
    refine GHop_call (L2 := [_, _]) rfl rfl rfl rfl rfl rfl Tryz.call39 (rfr_many s.length (by omega)) [] [] rfl rfl [] (by rintro v post ⟨rfl, rfl⟩; exact ⟨_, rfl⟩) ?_
    rintro v post ⟨rfl, rfl⟩
    show GH _ _ _ _ _ _ _ [_, _] _
    refine GH_take 5 rfl rfl rfl rfl (by kernel_rfl) (by kernel_rfl) (by kernel_rfl) (fun _ _ => (Val.int (e' := ((a + manyN s.length : Nat) : Int)) (V_add rfl rfl rfl) (by rw [wrap_i64 (by omega)]; omega))) ?_
    refine GH_take 6 rfl rfl rfl rfl (by kernel_rfl) (by kernel_rfl) (by kernel_rfl) (fun _ _ => (V_fieldAddr (fo := 2) rfl Tryz.underlying36 rfl infJourY_3 rfl rfl rfl)) ?_
    refine GH_all [7] (by kernel_rfl) (by decide) ?_
    refine (And.intro ?_ trivial)
    ·
     refine GHop_put (l1 := [_]) (L' := [_, _]) rfl rfl rfl rfl (P_store1 rfl rfl rfl (mem_at 1 rfl) (by first | exact of_decide_eq_true rfl | omega | (simp [spCells, pCells, wCells, kCells, rgC, lgC, rdC, Sl.v, zeroF, foundC, jC, wC]; done) | (simp [spCells, pCells, wCells, kCells, rgC, lgC, rdC, Sl.v, zeroF, foundC, jC, wC]; omega) | (simp [spCells, pCells, wCells, kCells, rgC, lgC, rdC, Sl.v, zeroF, foundC, jC, wC] at *; omega)) infJourY_3 rfl rfl) rfl [] rfl ?_
     refine GH_done (by kernel_rfl) ?_
     refine G_seq ?_
     refine G_region (l := [0, 1, 2, 3, 4, 5, 6, 7, 8]) rfl ?_
     refine G_new rfl rfl rfl rfl (N_build0 rfl Tryz.underlying34 infJourY_9) (fun b27 => ?_)
     refine G_val rfl rfl rfl rfl (V_fieldAddr (fo := 1) rfl Tryz.underlying36 rfl infJourY_34 rfl rfl rfl) ?_
     refine G_val rfl rfl rfl rfl (V_load1 rfl rfl (mem_at 3 rfl) rfl Tryz.underlying34 rfl) ?_
     refine G_append (l1 := []) (s := ⟨some b27, #[], (0, 0), 0⟩) (nn := 0) (m := recs.length) (news := (recs.map strC)) (bt := 16) rfl rfl rfl rfl Tryz.underlying34 Tryz.underlying34 (by first | exact .inl rfl | exact .inr ⟨_, rfl⟩) infJourY_9 rfl rfl rfl rfl rfl rfl (own_empty 1 b27) rfl (src_own hu (mem_at 0 rfl) (strs_all recs)) (by omega) (by omega) ?_
     intro u1 hu1 _
     show G _ _ _ [_, _, _] _
     rw [List.nil_append, Nat.zero_add] at hu1
     rw [Nat.zero_add]
     refine G_val rfl rfl rfl rfl (V_move rfl rfl) ?_
     refine G_new rfl rfl rfl rfl (N_buildAll (s := 1) (cs := [_]) rfl Tryz.underlying34 infJourY_9 rfl rfl rfl rfl rfl rfl rfl rfl rfl) (fun b32 => ?_)
     refine G_append (l1 := [_]) (s := u1) (nn := recs.length) (m := 1) (news := [strC s]) (bt := 16) rfl rfl rfl rfl Tryz.underlying34 Tryz.underlying34 (by first | exact .inl rfl | exact .inr ⟨_, rfl⟩) infJourY_9 rfl rfl rfl rfl rfl rfl hu1 rfl (src_mem (mem_at 1 rfl) rfl rfl (by simp [strC, Value.oneCell'])) (by omega) (by omega) ?_
     intro u2 hu2 _
     show G _ _ _ [_, _, _, _] _
     rw [← List.map_singleton, ← List.map_append] at hu2
     refine G_val rfl rfl rfl rfl (V_fieldAddr (fo := 1) rfl Tryz.underlying36 rfl infJourY_34 rfl rfl rfl) ?_
     refine G_put (l1 := [_, _, _]) (L' := [_, _, _, _]) rfl rfl rfl rfl (P_store1 rfl rfl rfl (mem_at 3 rfl) (by first | exact of_decide_eq_true rfl | omega | (simp [spCells, pCells, wCells, kCells, rgC, lgC, rdC, Sl.v, zeroF, foundC, jC, wC]; done) | (simp [spCells, pCells, wCells, kCells, rgC, lgC, rdC, Sl.v, zeroF, foundC, jC, wC]; omega) | (simp [spCells, pCells, wCells, kCells, rgC, lgC, rdC, Sl.v, zeroF, foundC, jC, wC] at *; omega)) infJourY_34 rfl rfl) rfl ?_
     refine G_done ?_
     refine G_seq ?_
     show G _ _ _ [_, _, _, (some b2, .cells (wC t (u2.v (recs.length + 1)) ((a + manyN s.length : Nat) : Int) ((n - (2 + 2 * R) : Nat) : Int) (R : Int) e).toArray 36 (0, 0))] _
     refine G_region (l := [0, 1, 2]) rfl ?_
     refine G_val rfl rfl rfl rfl (V_loadW (s := 6) rfl rfl (mem_at 4 rfl) Tryz.underlying36 rfl infJourY_36 rfl (by rfl)) ?_
     refine G_put (l1 := [_, _]) (L' := [_, _, _, _]) rfl rfl rfl rfl (P_storeA (s := 6) rfl rfl rfl (mem_at 2 rfl) (by rfl) infJourY_36 rfl (by rfl) (by simp [Value.oneCell', spCells, pCells, wCells, kCells, rgC, lgC, rdC, Sl.v, zeroF, foundC, jC, wC])) rfl ?_
     refine G_val rfl rfl rfl rfl (V_assign rfl rfl) ?_
     refine G_done ?_
     refine G_ret (post := [_]) Tryz.func15 rfl (RVs_cons (RV_cell (s := 6) rfl (mem_at 3 rfl) Tryz.underlying36 rfl infJourY_36 rfl (by rfl)) (RVs_cons (RV_tmp rfl) RVs_nil)) [1] rfl ?_
     dsimp only [packed]
     rw [show (recs ++ [s]).length = recs.length + 1 by simp]; exact ⟨u2, hu2, rfl, rfl⟩
  ·
   refine GHop_call (L2 := [_, _]) rfl rfl rfl rfl rfl rfl Tryz.call39 (rfr_many s.length (by omega)) [] [] rfl rfl [] (by rintro v post ⟨rfl, rfl⟩; exact ⟨_, rfl⟩) ?_
   rintro v post ⟨rfl, rfl⟩
   show GH _ _ _ _ _ _ _ [_, _] _
   refine GH_all [1] (by kernel_rfl) (by decide) ?_
   refine (And.intro ?_ trivial)
   ·
    refine GHop_val rfl rfl rfl rfl (V_load1 rfl rfl (mem_at 2 rfl) rfl Tryz.underlying3 rfl) ?_
    refine GH_take 5 rfl rfl rfl rfl (by kernel_rfl) (by kernel_rfl) (by kernel_rfl) (fun _ _ => (Val.int (e' := ((a + manyN s.length : Nat) : Int)) (V_add rfl rfl rfl) (by rw [wrap_i64 (by omega)]; omega))) ?_
    refine GH_take 6 rfl rfl rfl rfl (by kernel_rfl) (by kernel_rfl) (by kernel_rfl) (fun _ _ => (V_fieldAddr (fo := 2) rfl Tryz.underlying36 rfl infJourY_3 rfl rfl rfl)) ?_
    refine GH_all [7] (by kernel_rfl) (by decide) ?_
    refine (And.intro ?_ trivial)
    ·
     refine GHop_put (l1 := [_]) (L' := [_, _]) rfl rfl rfl rfl (P_store1 rfl rfl rfl (mem_at 1 rfl) (by first | exact of_decide_eq_true rfl | omega | (simp [spCells, pCells, wCells, kCells, rgC, lgC, rdC, Sl.v, zeroF, foundC, jC, wC]; done) | (simp [spCells, pCells, wCells, kCells, rgC, lgC, rdC, Sl.v, zeroF, foundC, jC, wC]; omega) | (simp [spCells, pCells, wCells, kCells, rgC, lgC, rdC, Sl.v, zeroF, foundC, jC, wC] at *; omega)) infJourY_3 rfl rfl) rfl [] rfl ?_
     refine GH_done (by kernel_rfl) ?_
     refine G_seq ?_
     refine G_region (l := [0, 1, 2, 3, 4, 5, 6, 7, 8]) rfl ?_
     refine G_new rfl rfl rfl rfl (N_build0 rfl Tryz.underlying34 infJourY_9) (fun b27 => ?_)
     refine G_val rfl rfl rfl rfl (V_fieldAddr (fo := 1) rfl Tryz.underlying36 rfl infJourY_34 rfl rfl rfl) ?_
     refine G_val rfl rfl rfl rfl (V_load1 rfl rfl (mem_at 3 rfl) rfl Tryz.underlying34 rfl) ?_
     refine G_append (l1 := []) (s := ⟨some b27, #[], (0, 0), 0⟩) (nn := 0) (m := recs.length) (news := (recs.map strC)) (bt := 16) rfl rfl rfl rfl Tryz.underlying34 Tryz.underlying34 (by first | exact .inl rfl | exact .inr ⟨_, rfl⟩) infJourY_9 rfl rfl rfl rfl rfl rfl (own_empty 1 b27) rfl (src_own hu (mem_at 0 rfl) (strs_all recs)) (by omega) (by omega) ?_
     intro u1 hu1 _
     show G _ _ _ [_, _, _] _
     rw [List.nil_append, Nat.zero_add] at hu1
     rw [Nat.zero_add]
     refine G_val rfl rfl rfl rfl (V_move rfl rfl) ?_
     refine G_new rfl rfl rfl rfl (N_buildAll (s := 1) (cs := [_]) rfl Tryz.underlying34 infJourY_9 rfl rfl rfl rfl rfl rfl rfl rfl rfl) (fun b32 => ?_)
     refine G_append (l1 := [_]) (s := u1) (nn := recs.length) (m := 1) (news := [strC s]) (bt := 16) rfl rfl rfl rfl Tryz.underlying34 Tryz.underlying34 (by first | exact .inl rfl | exact .inr ⟨_, rfl⟩) infJourY_9 rfl rfl rfl rfl rfl rfl hu1 rfl (src_mem (mem_at 1 rfl) rfl rfl (by simp [strC, Value.oneCell'])) (by omega) (by omega) ?_
     intro u2 hu2 _
     show G _ _ _ [_, _, _, _] _
     rw [← List.map_singleton, ← List.map_append] at hu2
     refine G_val rfl rfl rfl rfl (V_fieldAddr (fo := 1) rfl Tryz.underlying36 rfl infJourY_34 rfl rfl rfl) ?_
     refine G_put (l1 := [_, _, _]) (L' := [_, _, _, _]) rfl rfl rfl rfl (P_store1 rfl rfl rfl (mem_at 3 rfl) (by first | exact of_decide_eq_true rfl | omega | (simp [spCells, pCells, wCells, kCells, rgC, lgC, rdC, Sl.v, zeroF, foundC, jC, wC]; done) | (simp [spCells, pCells, wCells, kCells, rgC, lgC, rdC, Sl.v, zeroF, foundC, jC, wC]; omega) | (simp [spCells, pCells, wCells, kCells, rgC, lgC, rdC, Sl.v, zeroF, foundC, jC, wC] at *; omega)) infJourY_34 rfl rfl) rfl ?_
     refine G_done ?_
     refine G_seq ?_
     show G _ _ _ [_, _, _, (some b2, .cells (wC t (u2.v (recs.length + 1)) ((a + manyN s.length : Nat) : Int) ((n - (2 + 2 * R) : Nat) : Int) (R : Int) e).toArray 36 (0, 0))] _
     refine G_region (l := [0, 1, 2]) rfl ?_
     refine G_val rfl rfl rfl rfl (V_loadW (s := 6) rfl rfl (mem_at 4 rfl) Tryz.underlying36 rfl infJourY_36 rfl (by rfl)) ?_
     refine G_put (l1 := [_, _]) (L' := [_, _, _, _]) rfl rfl rfl rfl (P_storeA (s := 6) rfl rfl rfl (mem_at 2 rfl) (by rfl) infJourY_36 rfl (by rfl) (by simp [Value.oneCell', spCells, pCells, wCells, kCells, rgC, lgC, rdC, Sl.v, zeroF, foundC, jC, wC])) rfl ?_
     refine G_val rfl rfl rfl rfl (V_assign rfl rfl) ?_
     refine G_done ?_
     refine G_ret (post := [_]) Tryz.func15 rfl (RVs_cons (RV_cell (s := 6) rfl (mem_at 3 rfl) Tryz.underlying36 rfl infJourY_36 rfl (by rfl)) (RVs_cons (RV_tmp rfl) RVs_nil)) [1] rfl ?_
     dsimp only [packed]
     rw [show (recs ++ [s]).length = recs.length + 1 by simp]; exact ⟨u2, hu2, rfl, rfl⟩

set_option maxRecDepth 100000 in
set_option maxHeartbeats 1000000 in
theorem rj_anew_full (n R a : Nat) (hn : n ≤ 60) (ha : a ≤ 60) (t : List UInt8) (recs : List (List UInt8)) (u : Sl) (e : Int) (he : 0 ≤ e ∧ e ≤ 1000) (s : List UInt8) (hsl : s.length ≤ 1000000) (hm : R < manyS s.length) :
    Ct Tryz.prog 18 [.agg (wC t (u.v recs.length) (a : Int) ((n - (2 + 2 * R) : Nat) : Int) (R : Int) e).toArray, .string (bs s)] [] [] fun v post => v = .tuple #[.agg (wC t (u.v recs.length) (a : Int) ((n - (2 + 2 * R) : Nat) : Int) (R : Int) e).toArray, .int .i64 17] ∧ post = [] := by
 refine ct_of Tryz.func18 rfl rfl (fun w0 => ?_)
 show G _ _ [(0, _), (1, _)] _ _
 refine G_seq ?_
 refine G_region (l := [0, 1, 2]) rfl ?_
 refine G_new rfl rfl rfl rfl (N_boxA rfl rfl) (fun b2 => ?_)
 refine G_new rfl rfl rfl rfl (N_allocA rfl infJourY_36 rfl) (fun b4 => ?_)
 refine G_val rfl rfl rfl rfl (V_assign rfl rfl) ?_
 refine G_done ?_
 refine G_seq ?_
 refine G_seq ?_
 refine GH_start (Lq := [_]) (isq := [1]) (m := 6) mixedK rfl rfl ?_
 refine GH_take 0 rfl rfl rfl rfl (by kernel_rfl) (by kernel_rfl) (by kernel_rfl) (fun _ _ => (V_move rfl rfl)) ?_
 refine GH_take 1 rfl rfl rfl rfl (by kernel_rfl) (by kernel_rfl) (by kernel_rfl) (fun _ _ => (V_slen rfl rfl Tryz.underlying9 rfl)) ?_
 refine GH_take 3 rfl rfl rfl rfl (by kernel_rfl) (by kernel_rfl) (by kernel_rfl) (fun _ _ => (V_fieldAddr (fo := 4) rfl Tryz.underlying36 rfl infJourY_3 rfl rfl rfl)) ?_
 refine GH_take 4 rfl rfl rfl rfl (by kernel_rfl) (by kernel_rfl) (by kernel_rfl) (fun _ _ => (V_load1 rfl rfl (mem_at 0 rfl) rfl Tryz.underlying3 rfl)) ?_
 refine GH_all [2] (by kernel_rfl) (by decide) ?_
 refine (And.intro ?_ trivial)
 ·
  refine GHop_call (L2 := [_, _]) rfl rfl rfl rfl rfl rfl Tryz.call12 (rsn_many s.length (by omega)) [] [] rfl rfl [1] (by rintro v post ⟨rfl, rfl⟩; exact ⟨_, rfl⟩) ?_
  rintro v post ⟨rfl, rfl⟩
  show GH _ _ _ _ _ _ _ [_, _] _
  refine GH_take 5 rfl rfl rfl rfl (by kernel_rfl) (by kernel_rfl) (by kernel_rfl) (fun _ _ => (V_gtr rfl rfl rfl)) ?_
  refine GH_done (by kernel_rfl) ?_
  refine G_ifD rfl (fun hc1 => ?_) (fun hc1 => ?_)
  rotate_left
  · (first | (exact absurd rfl hc1) | (exact absurd hc1 (by decide)) | (exact absurd (by decide) hc1) | (exfalso; omega))
  refine G_seq ?_
  refine G_region (l := [0, 1, 2]) rfl ?_
  refine G_val rfl rfl rfl rfl (V_loadW (s := 6) rfl rfl (mem_at 1 rfl) Tryz.underlying36 rfl infJourY_36 rfl (by rfl)) ?_
  refine G_put (l1 := []) (L' := [_, _]) rfl rfl rfl rfl (P_storeA (s := 6) rfl rfl rfl (mem_at 0 rfl) (by rfl) infJourY_36 rfl (by rfl) (by simp [Value.oneCell', spCells, pCells, wCells, kCells, rgC, lgC, rdC, Sl.v, zeroF, foundC, jC, wC])) rfl ?_
  refine G_val rfl rfl rfl rfl (V_assign rfl rfl) ?_
  refine G_done ?_
  refine G_ret (post := []) Tryz.func18 rfl (RVs_cons (RV_cell (s := 6) rfl (mem_at 0 rfl) Tryz.underlying36 rfl infJourY_36 rfl (by rfl)) (RVs_cons (RV_tmp rfl) RVs_nil)) [] rfl ?_
  dsimp only [packed]
  exact ⟨rfl, rfl⟩

set_option maxRecDepth 100000 in
set_option maxHeartbeats 1000000 in
theorem rj_anew (n R a : Nat) (hn : n ≤ 60) (ha : a ≤ 60) (t : List UInt8) (recs : List (List UInt8)) (u : Sl) (e : Int) (he : 0 ≤ e ∧ e ≤ 1000) (s : List UInt8) (hsl : s.length ≤ 1000000) (hm : manyS s.length ≤ R) :
    Ct Tryz.prog 18 [.agg (wC t (u.v recs.length) (a : Int) ((n - (2 + 2 * R) : Nat) : Int) (R : Int) e).toArray, .string (bs s)] [] [] fun v post => ∃ u2, Own 1 u2 (([] : List (List UInt8)).map strC) 0 ∧ v = .tuple #[.agg (wC s (u2.v 0) 0 ((n - (2 + 2 * R) : Nat) : Int) (R : Int) (e + 1)).toArray, .int .i64 0] ∧ post = [(u2.ob, .cells u2.cs 9 u2.fz)] := by
 refine ct_of Tryz.func18 rfl rfl (fun w0 => ?_)
 show G _ _ [(0, _), (1, _)] _ _
 refine G_seq ?_
 refine G_region (l := [0, 1, 2]) rfl ?_
 refine G_new rfl rfl rfl rfl (N_boxA rfl rfl) (fun b2 => ?_)
 refine G_new rfl rfl rfl rfl (N_allocA rfl infJourY_36 rfl) (fun b4 => ?_)
 refine G_val rfl rfl rfl rfl (V_assign rfl rfl) ?_
 refine G_done ?_
 refine G_seq ?_
 refine G_seq ?_
 refine GH_start (Lq := [_]) (isq := [1]) (m := 6) mixedK rfl rfl ?_
 refine GH_take 0 rfl rfl rfl rfl (by kernel_rfl) (by kernel_rfl) (by kernel_rfl) (fun _ _ => (V_move rfl rfl)) ?_
 refine GH_take 1 rfl rfl rfl rfl (by kernel_rfl) (by kernel_rfl) (by kernel_rfl) (fun _ _ => (V_slen rfl rfl Tryz.underlying9 rfl)) ?_
 refine GH_take 3 rfl rfl rfl rfl (by kernel_rfl) (by kernel_rfl) (by kernel_rfl) (fun _ _ => (V_fieldAddr (fo := 4) rfl Tryz.underlying36 rfl infJourY_3 rfl rfl rfl)) ?_
 refine GH_take 4 rfl rfl rfl rfl (by kernel_rfl) (by kernel_rfl) (by kernel_rfl) (fun _ _ => (V_load1 rfl rfl (mem_at 0 rfl) rfl Tryz.underlying3 rfl)) ?_
 refine GH_all [2] (by kernel_rfl) (by decide) ?_
 refine (And.intro ?_ trivial)
 ·
  refine GHop_call (L2 := [_, _]) rfl rfl rfl rfl rfl rfl Tryz.call12 (rsn_many s.length (by omega)) [] [] rfl rfl [1] (by rintro v post ⟨rfl, rfl⟩; exact ⟨_, rfl⟩) ?_
  rintro v post ⟨rfl, rfl⟩
  show GH _ _ _ _ _ _ _ [_, _] _
  refine GH_take 5 rfl rfl rfl rfl (by kernel_rfl) (by kernel_rfl) (by kernel_rfl) (fun _ _ => (V_gtr rfl rfl rfl)) ?_
  refine GH_done (by kernel_rfl) ?_
  refine G_ifD rfl (fun hc1 => ?_) (fun hc1 => ?_)
  · (first | (exact absurd rfl hc1) | (exact absurd hc1 (by decide)) | (exact absurd (by decide) hc1) | (exfalso; omega))
  refine G_skip ?_
  refine G_seq ?_
  refine G_region (l := [0, 1, 2]) rfl ?_
  refine G_val rfl rfl rfl rfl (V_move rfl rfl) ?_
  refine G_val rfl rfl rfl rfl (V_fieldAddr (fo := 0) rfl Tryz.underlying36 rfl infJourY_9 rfl rfl rfl) ?_
  refine G_put (l1 := [_]) (L' := [_, _]) rfl rfl rfl rfl (P_store1 rfl rfl rfl (mem_at 1 rfl) (by first | exact of_decide_eq_true rfl | omega | (simp [spCells, pCells, wCells, kCells, rgC, lgC, rdC, Sl.v, zeroF, foundC, jC, wC]; done) | (simp [spCells, pCells, wCells, kCells, rgC, lgC, rdC, Sl.v, zeroF, foundC, jC, wC]; omega) | (simp [spCells, pCells, wCells, kCells, rgC, lgC, rdC, Sl.v, zeroF, foundC, jC, wC] at *; omega)) infJourY_9 rfl rfl) rfl ?_
  refine G_done ?_
  refine G_seq ?_
  refine G_region (l := [0, 1]) rfl ?_
  refine G_val rfl rfl rfl rfl (V_fieldAddr (fo := 1) rfl Tryz.underlying36 rfl infJourY_34 rfl rfl rfl) ?_
  refine G_put (l1 := [_]) (L' := [_, _]) rfl rfl rfl rfl (P_store1 rfl rfl rfl (mem_at 1 rfl) (by first | exact of_decide_eq_true rfl | omega | (simp [spCells, pCells, wCells, kCells, rgC, lgC, rdC, Sl.v, zeroF, foundC, jC, wC]; done) | (simp [spCells, pCells, wCells, kCells, rgC, lgC, rdC, Sl.v, zeroF, foundC, jC, wC]; omega) | (simp [spCells, pCells, wCells, kCells, rgC, lgC, rdC, Sl.v, zeroF, foundC, jC, wC] at *; omega)) infJourY_34 rfl rfl) rfl ?_
  refine G_done ?_
  refine G_seq ?_
  refine G_region (l := [0, 1]) rfl ?_
  refine G_val rfl rfl rfl rfl (V_fieldAddr (fo := 2) rfl Tryz.underlying36 rfl infJourY_3 rfl rfl rfl) ?_
  refine G_put (l1 := [_]) (L' := [_, _]) rfl rfl rfl rfl (P_store1 rfl rfl rfl (mem_at 1 rfl) (by first | exact of_decide_eq_true rfl | omega | (simp [spCells, pCells, wCells, kCells, rgC, lgC, rdC, Sl.v, zeroF, foundC, jC, wC]; done) | (simp [spCells, pCells, wCells, kCells, rgC, lgC, rdC, Sl.v, zeroF, foundC, jC, wC]; omega) | (simp [spCells, pCells, wCells, kCells, rgC, lgC, rdC, Sl.v, zeroF, foundC, jC, wC] at *; omega)) infJourY_3 rfl rfl) rfl ?_
  refine G_done ?_
  refine G_seq ?_
  refine G_region (l := [0, 1, 2, 3, 4]) rfl ?_
  refine G_val rfl rfl rfl rfl (V_fieldAddr (fo := 5) rfl Tryz.underlying36 rfl infJourY_3 rfl rfl rfl) ?_
  refine G_val rfl rfl rfl rfl (V_load1 rfl rfl (mem_at 1 rfl) rfl Tryz.underlying3 rfl) ?_
  refine G_val rfl rfl rfl rfl ((V_add rfl rfl rfl).int (wrap_i64 (by omega))) ?_
  refine G_val rfl rfl rfl rfl (V_fieldAddr (fo := 5) rfl Tryz.underlying36 rfl infJourY_3 rfl rfl rfl) ?_
  refine G_put (l1 := [_]) (L' := [_, _]) rfl rfl rfl rfl (P_store1 rfl rfl rfl (mem_at 1 rfl) (by first | exact of_decide_eq_true rfl | omega | (simp [spCells, pCells, wCells, kCells, rgC, lgC, rdC, Sl.v, zeroF, foundC, jC, wC]; done) | (simp [spCells, pCells, wCells, kCells, rgC, lgC, rdC, Sl.v, zeroF, foundC, jC, wC]; omega) | (simp [spCells, pCells, wCells, kCells, rgC, lgC, rdC, Sl.v, zeroF, foundC, jC, wC] at *; omega)) infJourY_3 rfl rfl) rfl ?_
  refine G_done ?_
  refine G_seq ?_
  show G _ _ _ [_, (some b2, .cells (wC s (slNil.v 0) 0 ((n - (2 + 2 * R) : Nat) : Int) (R : Int) (e + 1)).toArray 36 (0, 0))] _
  refine G_addNone (.cells #[] 9 (0, 0)) ?_
  refine G_region (l := [0, 1, 2]) rfl ?_
  refine G_val rfl rfl rfl rfl (V_loadW (s := 6) rfl rfl (mem_at 2 rfl) Tryz.underlying36 rfl infJourY_36 rfl (by rfl)) ?_
  refine G_put (l1 := [_]) (L' := [_, _, _]) rfl rfl rfl rfl (P_storeA (s := 6) rfl rfl rfl (mem_at 1 rfl) (by rfl) infJourY_36 rfl (by rfl) (by simp [Value.oneCell', spCells, pCells, wCells, kCells, rgC, lgC, rdC, Sl.v, zeroF, foundC, jC, wC])) rfl ?_
  refine G_val rfl rfl rfl rfl (V_assign rfl rfl) ?_
  refine G_done ?_
  refine G_ret (post := [_]) Tryz.func18 rfl (RVs_cons (RV_cell (s := 6) rfl (mem_at 1 rfl) Tryz.underlying36 rfl infJourY_36 rfl (by rfl)) (RVs_cons (RV_tmp rfl) RVs_nil)) [0] rfl ?_
  dsimp only [packed]
  exact ⟨slNil, own_nil 1, rfl, rfl⟩

set_option maxRecDepth 100000 in
set_option maxHeartbeats 1000000 in
theorem jl_num (n : Int) :
    Ct Tryz.prog 9 [.int .i64 n] [] [] fun v post => v = .int .i64 n ∧ post = [] := by
 refine ct_of Tryz.func9 rfl rfl (fun w0 => ?_)
 show G _ _ [(0, _)] _ _
 refine G_seq ?_
 refine G_region (l := [0]) rfl ?_
 refine G_val rfl rfl rfl rfl (V_assign rfl rfl) ?_
 refine G_done ?_
 refine G_seq ?_
 refine G_region (l := [0, 1]) rfl ?_
 refine G_val rfl rfl rfl rfl (V_move rfl rfl) ?_
 refine G_val rfl rfl rfl rfl (V_assign rfl rfl) ?_
 refine G_done ?_
 refine G_ret (post := []) Tryz.func9 rfl (RVs_cons (RV_tmp rfl) RVs_nil) [] rfl ?_
 dsimp only [packed]
 exact ⟨rfl, rfl⟩

set_option maxRecDepth 100000 in
set_option maxHeartbeats 2000000 in
theorem jl_has (d n lb lcap : Nat) (lcs : Array Value) (uw : Sl) (k : Dk) (h : DkAt k n lb lcs lcap uw) (R : Nat) (sp : Sp) (text : List UInt8) (recs : List (List UInt8)) (hj : JD n R k sp text recs) (t2 : List UInt8) (r2 : List (List UInt8)) (u2 : Sl) (hu2 : Own 1 u2 (r2.map strC) r2.length) (x y z : Int) :
    Ct Tryz.prog 21 [.pointer (some ⟨d, 0, none⟩), .agg (wC t2 (u2.v r2.length) x y (R : Int) z).toArray] [(some d, .cells #[.slice (some ⟨lb, 0, none⟩) n lcap, uw.v k.W.length, .int .i64 k.fuse, .bool k.dead] 67 (0, 0)), (some lb, .cells lcs 9 (0, 0)), (uw.ob, .cells uw.cs 90 uw.fz), (u2.ob, .cells u2.cs 9 u2.fz)] [] fun v post => v = .bool (decide (text = t2 ∧ recs = r2)) ∧ post = [] := by
 refine ct_of Tryz.func21 rfl rfl (fun w0 => ?_)
 show G _ _ [(0, _), (1, _)] _ _
 refine G_seq ?_
 refine G_region (l := [0, 1]) rfl ?_
 refine G_new rfl rfl rfl rfl (N_boxA rfl rfl) (fun b3 => ?_)
 refine G_val rfl rfl rfl rfl (V_assign rfl rfl) ?_
 refine G_done ?_
 refine G_seq ?_
 refine G_region (l := [0, 1, 2, 3, 4, 5, 6, 7, 8, 9, 10]) rfl ?_
 refine G_val rfl rfl rfl rfl (V_move rfl rfl) ?_
 refine G_val rfl rfl rfl rfl (V_fieldAddr (fo := 4) rfl Tryz.underlying36 rfl infJourY_3 rfl rfl rfl) ?_
 refine G_val rfl rfl rfl rfl (V_load1 rfl rfl (mem_at 4 rfl) rfl Tryz.underlying3 rfl) ?_
 refine G_call (L2 := [_]) rfl rfl rfl rfl rfl rfl Tryz.call27 (jn_Look d n lb lcap lcs uw k h R sp text recs hj) [] [0, 1, 2] rfl rfl ?_
 rintro v post ⟨u, hu, rfl, rfl⟩
 show G _ _ _ [_, _] _
 refine G_val rfl rfl rfl rfl (V_move rfl rfl) ?_
 refine G_val rfl rfl rfl rfl (V_extract rfl rfl rfl) ?_
 refine G_val rfl rfl rfl rfl (V_extract rfl rfl rfl) ?_
 refine G_val rfl rfl rfl rfl (V_extract rfl rfl rfl) ?_
 refine G_val rfl rfl rfl rfl (V_assign rfl rfl) ?_
 refine G_val rfl rfl rfl rfl (V_assign rfl rfl) ?_
 refine G_val rfl rfl rfl rfl (V_assign rfl rfl) ?_
 refine G_done ?_
 refine G_seq ?_
 refine G_region (l := [0, 1, 2, 3, 4, 5, 6, 7, 8, 9, 10, 11, 12, 13, 14, 15]) rfl ?_
 refine G_val rfl rfl rfl rfl (V_move rfl rfl) ?_
 refine G_val rfl rfl rfl rfl (V_fieldAddr (fo := 0) rfl Tryz.underlying36 rfl infJourY_9 rfl rfl rfl) ?_
 refine G_val rfl rfl rfl rfl (V_load1 rfl rfl (mem_at 5 rfl) rfl Tryz.underlying9 rfl) ?_
 refine G_val rfl rfl rfl rfl (V_seql rfl rfl rfl) ?_
 refine G_val rfl rfl rfl rfl (V_move rfl rfl) ?_
 refine G_splitD 20 rfl (fun hc1 => ?_) (fun hc1 => ?_)
 ·
  refine G_val rfl rfl rfl rfl (V_move rfl rfl) ?_
  refine G_val rfl rfl rfl rfl (V_fieldAddr (fo := 1) rfl Tryz.underlying36 rfl infJourY_34 rfl rfl rfl) ?_
  refine G_val rfl rfl rfl rfl (V_load1 rfl rfl (mem_at 5 rfl) rfl Tryz.underlying34 rfl) ?_
  refine G_call (L2 := [_, _]) rfl rfl rfl rfl rfl rfl Tryz.call20 (ref_texts u.ob 0 u.cap u.cs 9 u.fz u2.ob 0 u2.cap u2.cs 9 u2.fz recs r2 hu.sees hu2.sees) [] [4, 3] rfl rfl ?_
  rintro v post ⟨rfl, rfl⟩
  show G _ _ _ [_, _] _
  refine G_val rfl rfl rfl rfl (V_pickT rfl rfl rfl) ?_
  refine G_val rfl rfl rfl rfl (V_move rfl rfl) ?_
  refine G_splitD 26 rfl (fun hc2 => ?_) (fun hc2 => ?_)
  ·
   refine G_val rfl rfl rfl rfl (V_move rfl rfl) ?_
   refine G_call (L2 := [_, _]) rfl rfl rfl rfl rfl rfl Tryz.call9 (jl_num _) [] [] rfl rfl ?_
   rintro v post ⟨rfl, rfl⟩
   show G _ _ _ [_, _] _
   refine G_val rfl rfl rfl rfl (V_eql rfl rfl rfl) ?_
   refine G_val rfl rfl rfl rfl (V_pickT rfl rfl rfl) ?_
   refine G_val rfl rfl rfl rfl (V_assign rfl rfl) ?_
   refine G_done ?_
   refine G_ret (post := []) Tryz.func21 rfl (RVs_cons (RV_tmp rfl) RVs_nil) [] rfl ?_
   dsimp only [packed]
   refine ⟨bool_eq ?_, rfl⟩; first | exact (decide_eq_false (fun x => absurd x.1 (by assumption))).symm | exact (decide_eq_false (fun x => absurd x.2 (by assumption))).symm | exact (decide_eq_true ⟨by assumption, by assumption⟩).symm | (rename_i hx; simp [hx]) | simp [*]
  refine G_off rfl rfl rfl rfl ?_
  refine G_off rfl rfl rfl rfl ?_
  refine G_off rfl rfl rfl rfl ?_
  refine G_val rfl rfl rfl rfl (V_pickF rfl rfl rfl) ?_
  refine G_val rfl rfl rfl rfl (V_assign rfl rfl) ?_
  refine G_done ?_
  refine G_ret (post := []) Tryz.func21 rfl (RVs_cons (RV_tmp rfl) RVs_nil) [] rfl ?_
  dsimp only [packed]
  refine ⟨bool_eq ?_, rfl⟩; first | exact (decide_eq_false (fun x => absurd x.1 (by assumption))).symm | exact (decide_eq_false (fun x => absurd x.2 (by assumption))).symm | exact (decide_eq_true ⟨by assumption, by assumption⟩).symm | (rename_i hx; simp [hx]) | simp [*]
 refine G_off rfl rfl rfl rfl ?_
 refine G_off rfl rfl rfl rfl ?_
 refine G_off rfl rfl rfl rfl ?_
 refine G_off rfl rfl rfl rfl ?_
 refine G_val rfl rfl rfl rfl (V_pickF rfl rfl rfl) ?_
 refine G_val rfl rfl rfl rfl (V_move rfl rfl) ?_
 refine G_off rfl rfl rfl rfl ?_
 refine G_off rfl rfl rfl rfl ?_
 refine G_off rfl rfl rfl rfl ?_
 refine G_val rfl rfl rfl rfl (V_pickF rfl rfl rfl) ?_
 refine G_val rfl rfl rfl rfl (V_assign rfl rfl) ?_
 refine G_done ?_
 refine G_ret (post := []) Tryz.func21 rfl (RVs_cons (RV_tmp rfl) RVs_nil) [] rfl ?_
 dsimp only [packed]
 refine ⟨bool_eq ?_, rfl⟩; first | exact (decide_eq_false (fun x => absurd x.1 (by assumption))).symm | exact (decide_eq_false (fun x => absurd x.2 (by assumption))).symm | exact (decide_eq_true ⟨by assumption, by assumption⟩).symm | (rename_i hx; simp [hx]) | simp [*]

end
end Go.Proofs.YtbblkgdejgoncaaGreatDoor

/- From a law's walk ('it returns true, and nothing that was there has turned') to the row's own form, for a law with any parameters: one lemma for all laws. -/
namespace Go.Proofs.YtbblkgdejgoncaaGreatDoor
open Go.ChangeShapes Go.WideShapes Go.ChangeAt Go.RowKit

theorem Tryz.ownK : ownKnob Tryz.prog.godebug = none := by kernel_rfl
theorem Tryz.laidOutK : laidOutB Tryz.prog = true := by kernel_rfl

theorem trodAll_below {H : Type} {enc : TypeId × Value → H} {P : Program} (hl : laidOutB P = true) {W W' : World} (hb : Below W.heap.size W W') :
    ∀ (ts : List TypeId) (vs : List Value) (ds : List (DataW H)) (ps : List MemPlace), (∀ t ∈ ts, P.readableRec t = true ∧ t < P.types.size) →
      DataW.TrodAll enc P W 0 (fun _ => true) true ts vs ds ps → DataW.TrodAll enc P W' 0 (fun b => decide (b < W.heap.size)) true ts vs ds ps
  | [], [], [], _, _, h => h
  | [], [], _ :: _, _, _, h => h.elim
  | [], _ :: _, [], _, _, h => h.elim
  | [], _ :: _, _ :: _, _, _, h => h.elim
  | _ :: _, [], [], _, _, h => h.elim
  | _ :: _, [], _ :: _, _, _, h => h.elim
  | _ :: _, _ :: _, [], _, _, h => h.elim
  | t :: ts, v :: vs, d :: ds, ps, hr, h => by
    obtain ⟨p, q, h1, h2, e⟩ := h
    have hlt : ∀ x ∈ p, x.block < W.heap.size := by
      obtain ⟨m, hm⟩ := h1
      exact DataW.trod_lt m _ _ _ hm
    exact ⟨p, q, Below.trod hl (hr t (by simp)).1 (hr t (by simp)).2 h1 hb hlt, trodAll_below hl hb ts vs ds q (fun t ht => hr t (by simp [ht])) h2, e⟩

theorem u64_word {a : Int} (h : (Lit.int .u64 a).wf = true) : ∃ n : Nat, a = (n : Int) ∧ U64 n := by
  have := bounds_u64 h
  exact ⟨a.toNat, by omega, by unfold U64; omega⟩

/-- What a law's walk must show: called with whatever can be read at its parameters' types it returns true and writes nothing that was there. -/
def LawWalk (f : FuncId) (F : Func) : Prop :=
  ∀ (H : Type) (enc : TypeId × Value → H) (W : World) (base : Nat) (args : Array Value) (ds : List (DataW H)) (p : List MemPlace),
    (∀ (j : Nat) t v, F.params[j]? = some t → args[j]? = some v → Value.okWide Tryz.prog W .any base t v) →
    DataW.TrodAll enc Tryz.prog W 0 (fun _ => true) true F.params.toList args.toList ds p →
    Calls Tryz.prog f args W fun e W' => e = .returned (.bool true) ∧ Below W.heap.size W W'

theorem trodAll_len {H : Type} {enc : TypeId × Value → H} {P : Program} {w : World} {base : Nat} {spare : Nat → Bool} {held : Bool} :
    ∀ (ts : List TypeId) (vs : List Value) (ds : List (DataW H)) (ps : List MemPlace), DataW.TrodAll enc P w base spare held ts vs ds ps → ds.length = ts.length
  | [], [], [], _, _ => rfl
  | [], [], _ :: _, _, h => h.elim
  | [], _ :: _, [], _, h => h.elim
  | [], _ :: _, _ :: _, _, h => h.elim
  | _ :: _, [], [], _, h => h.elim
  | _ :: _, [], _ :: _, _, h => h.elim
  | _ :: _, _ :: _, [], _, h => h.elim
  | _ :: ts, _ :: vs, _ :: ds, _, h => by
    obtain ⟨p, q, _, h2, _⟩ := h
    simp [trodAll_len ts vs ds q h2]

set_option maxRecDepth 100000 in
theorem law_lifted {f : FuncId} {F : Func} {s : ChangeSpec} (os : Os) (started : os.Started) (H : Type) (enc : TypeId × Value → H)
    (hfn : Tryz.prog.funcs[f]? = some F) (hni : Tryz.checked.prog.inits.idxOf? f = none)
    (witness : ∃ (w : World) (tape : Tape) (i : Input), w.os = os ∧ (w.forCall tape i).Shaped Tryz.checked.prog ∧ i.vars = [] ∧ Input.okWide Tryz.checked.prog (w.forCall tape i) .any w.heap.size f i ∧
      s.pre6 enc Tryz.checked.prog F [] false (w.forCall tape i).memory i.args ∧ Assume.holds {} Tryz.checked.prog (lone (Frame.enter Tryz.checked.prog f i.args .normal) [] (w.forCall tape i)))
    (hvars : s.vars = []) (hrt : F.resultTypes.toList = [4]) (hrs : F.resultTypes.size = 1)
    (hread : ∀ t ∈ F.params.toList, Tryz.prog.readableRec t = true ∧ t < Tryz.prog.types.size)
    (hspec : ∀ ds : List (DataW H), ds.length = F.params.toList.length → s.fn H (ds ++ []) = { results := [.lit (.bool true)], args := ds })
    (walk : LawWalk f F) :
    ReturnsInHanded {} Tryz.checked os f .any (s.pre6 enc Tryz.prog F [] false) (s.post enc Tryz.prog F false true false false) := by
  refine returnsInHanded_of_change (C := Tryz.checked) Tryz.ownK started hni hfn witness ?_
  intro W base args ds gs before hval hW _ _
  have hW' := hW
  obtain ⟨p, q, hA, hV, rfl, hfz, hnd⟩ := hW
  rw [hvars] at hV
  obtain ⟨rfl, rfl⟩ := trodVars_none hV
  have hlen := trodAll_len _ _ _ _ hA
  refine (walk H enc W base args ds p hval hA).mono fun e W' ⟨he, hb⟩ => ?_
  subst he
  refine ⟨_, rfl, ds, [], _, [], p, [], hW', ?_, ?_, ?_, hb.frame _, fun h => by cases h⟩
  rotate_left
  · rw [hspec ds hlen]
    exact trodAll_below Tryz.laidOutK hb _ _ _ _ hread hA
  · rw [hvars, hspec ds hlen]
    rfl
  · rw [hspec ds hlen, hrt, hrs]
    exact trodAll_mk1 (shut_bool Tryz.underlying4 _)

end Go.Proofs.YtbblkgdejgoncaaGreatDoor

/- What can be read of arguments: integers, texts, structs of such. -/
set_option linter.unusedSimpArgs false
set_option linter.unusedVariables false
namespace Go.Proofs.YtbblkgdejgoncaaGreatDoor
open Go.ChangeShapes Go.WideShapes Go.ChangeAt Go.RowKit

section
variable {P : Program} {w : World} {r : Reach} {b : Nat}
theorem okc_int {u : TypeId} {q : IntKind} {v : Value} (h : Cell.okWide P w r b u v) (hu : P.underlying u = some (.int q)) : ∃ n : Int, v = .int q n ∧ q.min ≤ n ∧ n ≤ q.max := by
  unfold Cell.okWide at h
  rw [hu] at h
  have h : Cell.ok P w r b u v := by cases v <;> exact h
  unfold Cell.ok at h
  rw [hu] at h
  cases v <;> first | exact False.elim h | skip
  obtain ⟨rfl, h1, h2⟩ := h
  exact ⟨_, rfl, h1, h2⟩
theorem okc_str {u : TypeId} {v : Value} (h : Cell.okWide P w r b u v) (hu : P.underlying u = some .string) : ∃ l : List UInt8, v = .string (bs l) ∧ l.length ≤ 9223372036854775807 := by
  unfold Cell.okWide at h
  rw [hu] at h
  have h : Cell.ok P w r b u v := by cases v <;> exact h
  unfold Cell.ok at h
  rw [hu] at h
  match v, h with
  | .string s, h =>
    have h : (s.size : Int) ≤ IntKind.i64.max := h
    rw [IntKind.max_i64] at h
    refine ⟨s.data.toList, rfl, ?_⟩
    have : s.data.toList.length = s.size := by simp
    omega
theorem okc_bool {u : TypeId} {v : Value} (h : Cell.okWide P w r b u v) (hu : P.underlying u = some .bool) : ∃ t : Bool, v = .bool t := by
  unfold Cell.okWide at h
  rw [hu] at h
  have h : Cell.ok P w r b u v := by cases v <;> exact h
  unfold Cell.ok at h
  rw [hu] at h
  cases v <;> first | exact False.elim h | skip
  exact ⟨_, rfl⟩
theorem okv_cell {t : TypeId} {d : TypeDesc} {v : Value} (h : Value.okWide P w r b t v) (hu : P.underlying t = some d) (hd : isAggD d = false) : Cell.okWide P w r b t v := by
  unfold Value.okWide at h
  rw [hu] at h
  cases d <;> first | exact h | exact Bool.noConfusion hd
theorem okv_agg {t : TypeId} {d : TypeDesc} {v : Value} {ts : List TypeId} {s : Nat} (h : Value.okWide P w r b t v) (hu : P.underlying t = some d) (hd : isAggD d = true) (hts : P.cellTypes P.depth t = some ts) (hs : P.cellsOf t = s) (hl : ts.length = s) :
    ∃ cs : List Value, v = .agg cs.toArray ∧ cs.length = s ∧ ∀ (i : Nat) (v : Value) (u : TypeId), cs[i]? = some v → ts[i]? = some u → Cell.okWide P w r b u v := by
  unfold Value.okWide at h
  rw [hu] at h
  have h : ∃ cs, v = .agg cs ∧ cs.size = P.cellsOf t ∧ Row.okWide P w r b t cs := by cases d <;> first | exact h | exact Bool.noConfusion hd
  obtain ⟨cs, rfl, hsz, ts', hts', _, hall⟩ := h
  rw [hts] at hts'
  cases hts'
  refine ⟨cs.toList, rfl, by simp; omega, fun i v u hv hu => ?_⟩
  obtain ⟨u', hu', hc⟩ := hall i v (by simpa using hv)
  have hi : i < ts.length := by
    rcases Nat.lt_or_ge i ts.length with h | h
    · exact h
    · rw [List.getElem?_eq_none h] at hu; cases hu
  rw [Nat.mod_eq_of_lt hi, hu] at hu'
  cases hu'
  exact hc
theorem bytes_of : ∀ rest : List Value, (∀ v ∈ rest, ∃ n : Int, v = .int .u8 n ∧ IntKind.u8.min ≤ n ∧ n ≤ IntKind.u8.max) → ∃ d, rest = bcells d
  | [], _ => ⟨[], rfl⟩
  | v :: rest, h => by
    obtain ⟨n, rfl, h1, h2⟩ := h v (by simp)
    obtain ⟨d, rfl⟩ := bytes_of rest (fun v hv => h v (by simp [hv]))
    have h1' : 0 ≤ n := h1
    have h2' : n ≤ 255 := h2
    refine ⟨UInt8.ofNat n.toNat :: d, ?_⟩
    simp only [bcells, List.map_cons]
    congr 2
    simp
    omega
end
set_option maxRecDepth 100000 in
/-- A law's walk by a contract over its arguments, for what can be read at their types. -/
theorem lawwalk_of {f : FuncId} {F : Func} (h : ∀ (W : World) (base : Nat) (args : Array Value), args.size = F.params.size → (∀ (j : Nat) t v, F.params[j]? = some t → args[j]? = some v → Value.okWide Tryz.prog W .any base t v) → ∃ A, Has W A [] ∧ Ct Tryz.prog f args.toList A [] (fun v post => v = .bool true ∧ post = [])) : LawWalk f F := by
  intro H enc W base args ds p hval hA
  have hlen : ∀ (ts : List TypeId) (vs : List Value) (ds : List (DataW H)) (ps : List MemPlace), DataW.TrodAll enc Tryz.prog W 0 (fun _ => true) true ts vs ds ps → vs.length = ts.length := by
    intro ts
    induction ts with
    | nil =>
      intro vs ds ps h
      cases vs with
      | nil => rfl
      | cons v vs => cases ds <;> exact h.elim
    | cons t ts ih =>
      intro vs ds ps h
      cases vs with
      | nil => cases ds <;> exact h.elim
      | cons v vs =>
        cases ds with
        | nil => exact h.elim
        | cons d ds =>
          obtain ⟨p, q, _, h2, _⟩ := h
          simp [ih vs ds q h2]
  have hl := hlen _ _ _ _ hA
  obtain ⟨A, hw, hc⟩ := h W base args hl hval
  have := below_of_ct hc W hw
  rwa [Array.toArray_toList] at this
end Go.Proofs.YtbblkgdejgoncaaGreatDoor

/- What can be read of arguments, on: slices of whatever, and their elements. -/
set_option linter.unusedSimpArgs false
set_option linter.unusedVariables false
namespace Go.Proofs.YtbblkgdejgoncaaGreatDoor
open Go.ChangeShapes Go.WideShapes Go.ChangeAt Go.RowKit Go.Deep

/-- It can be read, at a type. -/
def Reads (P : Program) (W : World) (t : TypeId) (cs : List Value) : Prop :=
  ∃ (H : Type) (enc : TypeId × Value → H) (n : Nat) (x : DataW H × List MemPlace), DataW.trod enc P W 0 (fun _ => true) true n t cs = some x

section
variable {P : Program} {W : World}
theorem reads_int {t : TypeId} {q : IntKind} {cs : List Value} (h : Reads P W t cs) (ht : P.underlying t = some (.int q)) : ∃ n : Int, cs = [.int q n] ∧ q.min ≤ n ∧ n ≤ q.max := by
  obtain ⟨H, enc, n, x, h⟩ := h
  obtain ⟨k, rfl, _, hw⟩ := DataW.trod_int ht h
  simp [Lit.wf] at hw
  exact ⟨k, rfl, hw.1, hw.2⟩
theorem reads_str {t : TypeId} {cs : List Value} (h : Reads P W t cs) (ht : P.underlying t = some .string) : ∃ l : List UInt8, cs = [.string (bs l)] ∧ l.length ≤ 9223372036854775807 := by
  obtain ⟨H, enc, n, x, h⟩ := h
  obtain ⟨s, rfl, _, hs⟩ := DataW.trod_string ht h
  refine ⟨s.data.toList, rfl, ?_⟩
  have : s.data.toList.length = s.size := by simp
  unfold maxLen at hs
  omega
theorem reads_bool {t : TypeId} {cs : List Value} (h : Reads P W t cs) (ht : P.underlying t = some .bool) : ∃ b : Bool, cs = [.bool b] := by
  obtain ⟨H, enc, n, x, h⟩ := h
  obtain ⟨b, rfl, _⟩ := DataW.trod_bool ht h
  exact ⟨b, rfl⟩
theorem reads_struct {t : TypeId} {fs : Array Field} {cs : List Value} (h : Reads P W t cs) (ht : P.underlying t = some (.struct fs)) : cs.length = P.cellsOf t ∧ ∀ (i : Nat) (f : Field), fs[i]? = some f → Reads P W f.type ((cs.drop f.offset).take (P.cellsOf f.type)) := by
  obtain ⟨H, enc, n, x, h⟩ := h
  obtain ⟨xs, k, _, _, hl, hx, hf⟩ := DataW.trod_struct ht h
  refine ⟨hl, fun i f hi => ?_⟩
  have hlt : i < xs.length := by rw [hx]; exact (Array.getElem?_eq_some_iff.1 hi).1
  exact ⟨H, enc, k, xs[i], by rw [hf i f hi, List.getElem?_eq_getElem hlt]⟩
/-- A field, by its place. -/
theorem reads_field {t : TypeId} {fs : Array Field} {cs vs : List Value} {s : Nat} (h : Reads P W t cs) (ht : P.underlying t = some (.struct fs)) (i : Nat) (f : Field) (hi : fs[i]? = some f) (hs : P.cellsOf f.type = s) (hv : (cs.drop f.offset).take s = vs) : Reads P W f.type vs := by
  have := (reads_struct h ht).2 i f hi
  rwa [hs, hv] at this

theorem reads_slice {t e : TypeId} {cs : List Value} {sz b : Nat} (h : Reads P W t cs) (ht : P.underlying t = some (.slice e)) (hsz : P.cellsOf e = sz) {v : Value} (hv : cs = [v]) (hok : Cell.okWide P W .any b t v) {α : Type} [Inhabited α] (f : α → List Value) (hf : ∀ a, (f a).length = sz) (good : α → Prop)
    (hel : ∀ es, es.length = sz → Reads P W e es → ∃ a, es = f a ∧ good a) :
    ∃ (ob : Option Nat) (off cap : Nat) (c : Array Value) (T : TypeId) (fr : Nat × Nat) (l : List α), v = sv ob off l.length cap ∧ Sees sz ob off cap c (l.flatMap f) l.length ∧ (∀ a ∈ l, good a) ∧ ∀ b, ob = some b → W.heap[b]? = some (.cells c T fr) := by
  obtain ⟨H, enc, n, x, h⟩ := h
  subst hv
  rcases open_slice ht h with ⟨h0, _⟩ | ⟨a, len, cap, m, n, D, Pl, hcs, _, hl, hm, hmm, _, hx⟩
  · simp at h0
    subst h0
    exact ⟨none, 0, 0, #[], 0, (0, 0), [], rfl, sees_nil, by simp, fun b hb => by cases hb⟩
  · simp at hcs
    subst hcs
    simp at hmm
    subst hmm
    unfold Cell.okWide at hok
    rw [ht] at hok
    have hok : Cell.ok P W .any b t (.slice (some a) len m) := hok
    unfold Cell.ok at hok
    rw [ht] at hok
    obtain ⟨_, _, _, hsp, row, cells, hsh, _⟩ := hok
    obtain ⟨bb, off, spot⟩ := a
    simp only at hsp hsh
    subst hsp
    obtain ⟨c, T, fr, hb⟩ : ∃ c T fr, W.heap[bb]? = some (.cells c T fr) := by
      unfold World.shape? at hsh
      split at hsh
      · rename_i c e fr hb; exact ⟨c, e, fr, hb⟩
      · cases hsh
    have hall : ∀ i, i < len → ∃ a : α, good a ∧ ∀ j, j < sz → c[off + i * sz + j]? = (f a)[j]? := fun i hi => by
      obtain ⟨es, h1, h2⟩ := hx i (by omega)
      rw [hsz] at h1
      obtain ⟨_, hlen, hc⟩ := World.cells?_some h1
      obtain ⟨a, rfl, hg⟩ := hel es hlen ⟨H, enc, n, _, h2⟩
      refine ⟨a, hg, fun j hj => ?_⟩
      have := hc j hj
      rw [addr_add, addr_add, cell_of_row W bb _ c T fr hb] at this
      exact this
    obtain ⟨F, hF⟩ := choose_lt hall
    have hll : ((List.range len).map F).length = len := by simp
    refine ⟨some bb, off, m, c, T, fr, (List.range len).map F, by rw [hll]; rfl, ⟨by rw [flat_len f hf, hll], by rw [hll]; exact hl, by unfold maxLen at hm; omega, ?_, fun h => by cases h⟩, fun a ha => ?_, fun b hb' => by cases hb'; exact hb⟩
    · rw [hll]
      apply List.ext_getElem?
      intro k
      have hfl : (((List.range len).map F).flatMap f).length = len * sz := by rw [flat_len f hf, hll]
      rcases Nat.lt_or_ge k (len * sz) with hk | hk
      · have hz : 0 < sz := by
          rcases Nat.eq_zero_or_pos sz with h0 | h0
          · subst h0; omega
          · exact h0
        have hi : k / sz < len := Nat.div_lt_of_lt_mul (by rw [Nat.mul_comm]; exact hk)
        have hj : k % sz < sz := Nat.mod_lt _ hz
        have hkk : k = k / sz * sz + k % sz := by have := Nat.div_add_mod k sz; rw [Nat.mul_comm] at this; omega
        have h1 := (hF (k / sz) hi).2 (k % sz) hj
        have h2 := flat_at f hf ((List.range len).map F) (k / sz) (F (k / sz)) (by simp [hi])
        have h3 : (((List.range len).map F).flatMap f)[k]? = (f (F (k / sz)))[k % sz]? := by
          rw [← h2, List.getElem?_take, if_pos hj, List.getElem?_drop, ← hkk]
        rw [h3, ← h1, List.getElem?_take, if_pos hk, List.getElem?_drop]
        have e : off + k / sz * sz + k % sz = off + k := by omega
        rw [e]
        simp
      · rw [List.getElem?_eq_none (by rw [List.length_take]; omega), List.getElem?_eq_none (by omega)]
    · simp only [List.mem_map, List.mem_range] at ha
      obtain ⟨i, hi, rfl⟩ := ha
      exact (hF i hi).1
end

/-- A block of a slice's, if any, is there. -/
theorem has_cons {W : World} {A : List (Option Nat × Obj)} {ob : Option Nat} {o : Obj} (h : Has W A []) (ho : ∀ b, ob = some b → W.heap[b]? = some o) : Has W ((ob, o) :: A) [] :=
  ⟨fun b x hm => by
    rcases List.mem_cons.1 hm with e | hm
    · injection e with e1 e2
      subst e2
      exact ho b e1.symm
    · exact h.liesA b x hm, .nil, fun _ _ h => (by cases h), fun _ _ _ h => (by cases h)⟩

set_option maxRecDepth 100000 in
/-- A law's walk by a contract over its arguments, for what can be read at their types. -/
theorem lawwalk_reads {f : FuncId} {F : Func} (h : ∀ (W : World) (base : Nat) (args : Array Value), args.size = F.params.size → (∀ (j : Nat) t v, F.params[j]? = some t → args[j]? = some v → Value.okWide Tryz.prog W .any base t v ∧ Reads Tryz.prog W t v.cells.toList) → ∃ A, Has W A [] ∧ Ct Tryz.prog f args.toList A [] (fun v post => v = .bool true ∧ post = [])) : LawWalk f F := by
  intro H enc W base args ds p hval hA
  have hlen : ∀ (ts : List TypeId) (vs : List Value) (ds : List (DataW H)) (ps : List MemPlace), DataW.TrodAll enc Tryz.prog W 0 (fun _ => true) true ts vs ds ps → vs.length = ts.length ∧ ∀ (j : Nat) t v, ts[j]? = some t → vs[j]? = some v → Reads Tryz.prog W t v.cells.toList := by
    intro ts
    induction ts with
    | nil =>
      intro vs ds ps h
      cases vs with
      | nil => exact ⟨rfl, fun j t v ht => by simp at ht⟩
      | cons v vs => cases ds <;> exact h.elim
    | cons t ts ih =>
      intro vs ds ps h
      cases vs with
      | nil => cases ds <;> exact h.elim
      | cons v vs =>
        cases ds with
        | nil => exact h.elim
        | cons d ds =>
          obtain ⟨p, q, h1, h2, _⟩ := h
          obtain ⟨i1, i2⟩ := ih vs ds q h2
          refine ⟨by simp [i1], fun j t' v' ht hv => ?_⟩
          cases j with
          | zero =>
            simp at ht hv
            subst ht hv
            obtain ⟨m, hm⟩ := h1
            exact ⟨H, enc, m, _, by simpa using hm⟩
          | succ j => exact i2 j t' v' (by simpa using ht) (by simpa using hv)
  have hl := hlen _ _ _ _ hA
  obtain ⟨A, hw, hc⟩ := h W base args (by simpa using hl.1) (fun j t v ht hv => ⟨hval j t v ht hv, hl.2 j t v (by simpa using ht) (by simpa using hv)⟩)
  have := below_of_ct hc W hw
  rwa [Array.toArray_toList] at this
end Go.Proofs.YtbblkgdejgoncaaGreatDoor

/- What can be read of arguments, on: slices that lie in elements of other slices. -/
set_option linter.unusedSimpArgs false
set_option linter.unusedVariables false
namespace Go.Proofs.YtbblkgdejgoncaaGreatDoor
open Go.Deep Go.ChangeShapes Go.WideShapes Go.ChangeAt Go.RowKit

theorem has_mapK {α : Type} (f : α → Option Nat × Obj) {W : World} : ∀ (l : List α), (∀ a ∈ l, ∀ b, (f a).1 = some b → W.heap[b]? = some (f a).2) → Has W (l.map f) []
  | [], _ => has_nil _
  | a :: r, h => has_cons (has_mapK f r (fun x hx => h x (by simp [hx]))) (h a (by simp))
theorem reads_slice2 {P : Program} {W : World} {t e : TypeId} {cs : List Value} {sz : Nat} (h : Reads P W t cs) (ht : P.underlying t = some (.slice e)) (hsz : P.cellsOf e = sz) (hz : 0 < sz) {α : Type} [Inhabited α] (f : α → List Value) (hf : ∀ a, (f a).length = sz) (good : α → Prop)
    (hel : ∀ es, es.length = sz → Reads P W e es → ∃ a, es = f a ∧ good a) :
    ∃ (p : Option Addr) (ob : Option Nat) (off cap : Nat) (c : Array Value) (T : TypeId) (fr : Nat × Nat) (l : List α), cs = [.slice p l.length cap] ∧ l.length ≤ cap ∧ cap ≤ 9223372036854775807 ∧ ((p = ob.map (fun b => ⟨b, off, none⟩) ∧ Sees sz ob off cap c (l.flatMap f) l.length) ∨ (l = [] ∧ cap = 0)) ∧ (∀ a ∈ l, good a) ∧ ∀ b, ob = some b → W.heap[b]? = some (.cells c T fr) := by
  obtain ⟨H, enc, n, x, h⟩ := h
  rcases Go.Deep.open_slice ht h with ⟨h0, _⟩ | ⟨a, len, cap, m, n, D, Pl, hcs, _, hl, hm, hmm, _, hx⟩
  · exact ⟨none, none, 0, 0, #[], 0, (0, 0), [], h0, Nat.le_refl _, by omega, .inr ⟨rfl, rfl⟩, by simp, fun b hb => by cases hb⟩
  · simp at hmm
    subst hmm
    have hm' : m ≤ 9223372036854775807 := by unfold maxLen at hm; omega
    rcases Nat.eq_zero_or_pos m with h0 | hpos
    · subst h0
      have hl0 : len = 0 := by omega
      subst hl0
      exact ⟨some a, none, 0, 0, #[], 0, (0, 0), [], hcs, Nat.le_refl _, by omega, .inr ⟨rfl, rfl⟩, by simp, fun b hb => by cases hb⟩
    · obtain ⟨bb, off, spot⟩ := a
      have hex : spot = none ∧ ∃ c T fr, W.heap[bb]? = some (.cells c T fr) := by
        obtain ⟨es, h1, _⟩ := hx 0 hpos
        rw [hsz] at h1
        obtain ⟨_, hlen, hc⟩ := World.cells?_some h1
        have h2 := hc 0 hz
        rw [List.getElem?_eq_getElem (by omega)] at h2
        cases spot with
        | none =>
          rw [addr_add, addr_add] at h2
          unfold World.cell? at h2
          split at h2
          · rename_i c T fr hb
            exact ⟨rfl, c, T, fr, hb⟩
          · cases h2
        | some s =>
          exfalso
          unfold World.cell? at h2
          split at h2
          · simp [Addr.add] at h2
          · cases h2
      obtain ⟨rfl, c, T, fr, hb⟩ := hex
      have hok : ∀ i, i < len → ∃ a : α, (∀ j, j < sz → c[off + i * sz + j]? = (f a)[j]?) ∧ good a := fun i hi => by
        obtain ⟨es, h1, h2⟩ := hx i (by omega)
        rw [hsz] at h1
        obtain ⟨_, hlen, hc⟩ := World.cells?_some h1
        obtain ⟨a, rfl, hg⟩ := hel es hlen ⟨H, enc, n, _, h2⟩
        refine ⟨a, fun j hj => ?_, hg⟩
        have := hc j hj
        rw [addr_add, addr_add, cell_of_row W bb _ c T fr hb] at this
        exact this
      obtain ⟨F, hF⟩ := choose_lt hok
      have hll : ((List.range len).map F).length = len := by simp
      refine ⟨some ⟨bb, off, none⟩, some bb, off, m, c, T, fr, (List.range len).map F, by rw [hll]; exact hcs, by rw [hll]; exact hl, hm', .inl ⟨rfl, by rw [flat_len f hf, hll], by rw [hll]; exact hl, hm', ?_, fun h => by cases h⟩, fun a ha => ?_, fun b hb' => by cases hb'; exact hb⟩
      rotate_left
      · obtain ⟨i, hi, rfl⟩ := List.mem_map.1 ha
        exact (hF i (List.mem_range.1 hi)).2
      rw [hll]
      apply List.ext_getElem?
      intro k
      have hfl : (((List.range len).map F).flatMap f).length = len * sz := by rw [flat_len f hf, hll]
      rcases Nat.lt_or_ge k (len * sz) with hk | hk
      · have hi : k / sz < len := Nat.div_lt_of_lt_mul (by rw [Nat.mul_comm]; exact hk)
        have hj : k % sz < sz := Nat.mod_lt _ hz
        have hkk : k = k / sz * sz + k % sz := by have := Nat.div_add_mod k sz; rw [Nat.mul_comm] at this; omega
        have h1 := (hF (k / sz) hi).1 (k % sz) hj
        have h2 := flat_at f hf ((List.range len).map F) (k / sz) (F (k / sz)) (by simp [hi])
        have h3 : (((List.range len).map F).flatMap f)[k]? = (f (F (k / sz)))[k % sz]? := by
          rw [← h2, List.getElem?_take, if_pos hj, List.getElem?_drop, ← hkk]
        rw [h3, ← h1, List.getElem?_take, if_pos hk, List.getElem?_drop]
        have e : off + k / sz * sz + k % sz = off + k := by omega
        rw [e]
        simp
      · rw [List.getElem?_eq_none (by rw [List.length_take]; omega), List.getElem?_eq_none (by omega)]
theorem okv_slice {P : Program} {W : World} {r : Reach} {b : Nat} {t e : TypeId} {v : Value} (h : Value.okWide P W r b t v) (ht : P.underlying t = some (.slice e)) : ∃ p i j, v = .slice p i j ∧ Cell.okWide P W r b t v := by
  have h1 := okv_cell h ht rfl
  have h2 := h1
  unfold Cell.okWide at h2
  rw [ht] at h2
  cases v <;> first | exact ⟨_, _, _, rfl, h1⟩ | (exfalso; first | exact h2 | (unfold Cell.ok at h2; rw [ht] at h2; exact h2) | (simp [Cell.ok, ht] at h2; done))
end Go.Proofs.YtbblkgdejgoncaaGreatDoor

/- A journal: what each step makes of it; the example. -/
set_option linter.unusedSimpArgs false
set_option linter.unusedVariables false
namespace Go.Proofs.YtbblkgdejgoncaaGreatDoor
open Go Go.ChangeShapes Go.WideShapes Go.ChangeAt Go.RowKit

section
theorem infJourL_9 : Tryz.prog.info? 9 = some Tryz.t9 := by kernel_rfl
theorem infJourL_42 : Tryz.prog.info? 42 = some Tryz.t42 := by kernel_rfl


theorem jopen_live {N R : Nat} {k : Dk} {sp : Sp} {text : List UInt8} {recs : List (List UInt8)} (h : JD N R k sp text recs) (hl : Lively k) (hq : sp.seq + 1 < 250) : storeE k (nextS sp) = 0 ∧ Lively (storeK k (nextS sp)) ∧ JJ N R (storeK k (nextS sp)) (nextS sp) text recs (pcs recs).length := by
  obtain ⟨e1, e2⟩ := store_lively hl (next_may h.h.may) (by have := h.h.len; have := h.h.rN; omega)
  rcases jopen_fall h hq with ⟨_, g2, g3⟩ | ⟨g1, _⟩
  · exact ⟨e1, e2, jopen_jj h g2 g3⟩
  · rw [e1] at g1; exact absurd g1 (by decide)
theorem jadd_live {N R a : Nat} {k : Dk} {sp : Sp} {text : List UInt8} {recs : List (List UInt8)} (h : JJ N R k sp text recs a) (hl : Lively k) {s : List UInt8} (hfit : fitsL (((N - (2 + 2 * R) : Nat) : Int) - (a : Int)) s) :
    addE k ((2 + 2 * R : Nat) : Int) ((N - (2 + 2 * R) : Nat) : Int) sp.epoch a s = 0 ∧ appA k ((2 + 2 * R : Nat) : Int) ((N - (2 + 2 * R) : Nat) : Int) sp.epoch a s = a + manyN s.length ∧ Lively (addK k ((2 + 2 * R : Nat) : Int) ((N - (2 + 2 * R) : Nat) : Int) sp.epoch a s) ∧ JJ N R (addK k ((2 + 2 * R : Nat) : Int) ((N - (2 + 2 * R) : Nat) : Int) sp.epoch a s) sp text (recs ++ [s]) (a + manyN s.length) := by
  obtain ⟨b1, b2, b3, b4, b5, b6, b7, b8, b9⟩ := h.bd
  obtain ⟨e1, e2⟩ := add_lively (k := k) (f := ((2 + 2 * R : Nat) : Int)) (b := ((N - (2 + 2 * R) : Nat) : Int)) (e := sp.epoch) (a := a) (s := s) hl (by omega) (by omega) hfit (by omega)
  rcases jadd_fall h hfit.1 hfit with ⟨_, g2, g3⟩ | ⟨g1, _⟩
  · exact ⟨e1, g2, e2, g3⟩
  · rw [e1] at g1; exact absurd g1 (by decide)
theorem janew_live {N R : Nat} {k : Dk} {sp : Sp} {text s : List UInt8} {recs : List (List UInt8)} (h : JD N R k sp text recs) (hl : Lively k) (hq : sp.seq + 1 < 250) (hs : s.length ≤ 1000000) (hm : manyS s.length ≤ R) :
    jputE k (othF R sp : Nat) R (anewS sp s.length) s = 0 ∧ Lively (jputK k (othF R sp : Nat) R (anewS sp s.length) s) ∧ JJ N R (jputK k (othF R sp : Nat) R (anewS sp s.length) s) (anewS sp s.length) s [] 0 := by
  have ho := oth_f (R := R) h.h.may
  have h1 := h.h.len
  have h2 := h.h.rN
  obtain ⟨e1, e2⟩ := jput_lively (k := k) (t := anewS sp s.length) (f := othF R sp) (R := R) (s := s) hl (anew_may h.h.may hs) hm h.h.r1 (by omega) (by omega)
  rcases janew_fall h hq hs hm with ⟨_, g2, g3⟩ | ⟨g1, _⟩
  · exact ⟨e1, e2, janew_jj h g2 g3⟩
  · rw [e1] at g1; exact absurd g1 (by decide)
theorem pcs_len_ge : ∀ recs : List (List UInt8), recs.length ≤ (pcs recs).length
  | [] => by simp [pcs]
  | t :: r => by
    have h1 := pcs_len_ge r
    have h2 := piecesF_len t
    have h3 := manyN_pos t.length
    rw [pcs_cons, List.length_append, List.length_cons]; omega
theorem JJ.rcl {N R a : Nat} {k : Dk} {sp : Sp} {text : List UInt8} {recs : List (List UInt8)} (h : JJ N R k sp text recs a) : recs.length ≤ 60 := by
  have h1 := pcs_len_ge recs
  have h2 := h.a
  have h3 := h.h.n60
  omega
theorem jfull {k : Dk} {R : Nat} {t : Sp} {s : List UInt8} (hr : regE k.L.length 2 (R : Int) t.base = 0) (hm : R < manyS s.length) : jputE k 2 (R : Int) t s = 17 := by
  obtain ⟨e1, e2⟩ := put_full (k := k) (f := 2) (e := t.base) hr (by omega : (R : Int) < (manyS s.length : Int))
  rw [(jput_1 (k := k) (f := 2) (b := (R : Int)) (t := t) (s := s) (by rw [e2]; decide)).2, e2]


attribute [local irreducible] storeK storeE jputK jputE addK addE appK appE appA newD putK putE
theorem jl_format (d n lb lcap : Nat) (lcs : Array Value) (h : DkAt (newD n) n lb lcs lcap slNil) (R : Nat) (hp : partE n (R : Int) = 0) (hn : n ≤ 60) (s : List UInt8) (hsl : s.length ≤ 1000000) (hm : manyS s.length ≤ R) : Ct Tryz.prog 10 [.pointer (some ⟨d, 0, none⟩), .int .i64 (R : Int), .string (bs s)] [] [(some d, .cells #[.slice (some ⟨lb, 0, none⟩) n lcap, slNil.v (newD n).W.length, .int .i64 (newD n).fuse, .bool (newD n).dead] 67 (0, 0)), (some lb, .cells lcs 9 (0, 0)), (slNil.ob, .cells slNil.cs 90 slNil.fz)]
    (fun v post => v = .int .i64 0 ∧ ∃ k lcs1 uw1, DkAt k n lb lcs1 lcap uw1 ∧ Lively k ∧ JD n R k (firstS s.length) s [] ∧ post = [(some d, .cells #[.slice (some ⟨lb, 0, none⟩) n lcap, uw1.v k.W.length, .int .i64 k.fuse, .bool k.dead] 67 (0, 0)), (some lb, .cells lcs1 9 (0, 0)), (uw1.ob, .cells uw1.cs 90 uw1.fz)]) := by
  have hpp := partE_0.1 hp
  obtain ⟨f1, f2, f3⟩ := jformat (N := n) (R := R) (s := s) (by omega) (by omega) hn hsl hm
  refine (jn_format d n lb lcap lcs slNil (newD n) h R (by omega) hp s (by rw [show (newD n).W = [] by unfold newD; rfl]; simp) hsl).weaken ?_
  rintro v post ⟨rfl, lcs1, uw1, h1, rfl⟩
  exact ⟨congrArg (Value.int .i64) f1, _, lcs1, uw1, h1, f2, f3, rfl⟩
theorem jl_format_full (d n lb lcap : Nat) (lcs : Array Value) (h : DkAt (newD n) n lb lcs lcap slNil) (R : Nat) (hp : partE n (R : Int) = 0) (hn : n ≤ 60) (s : List UInt8) (hsl : s.length ≤ 1000000) (hm : R < manyS s.length) : Ct Tryz.prog 10 [.pointer (some ⟨d, 0, none⟩), .int .i64 (R : Int), .string (bs s)] [] [(some d, .cells #[.slice (some ⟨lb, 0, none⟩) n lcap, slNil.v (newD n).W.length, .int .i64 (newD n).fuse, .bool (newD n).dead] 67 (0, 0)), (some lb, .cells lcs 9 (0, 0)), (slNil.ob, .cells slNil.cs 90 slNil.fz)]
    (fun v post => v = .int .i64 17 ∧ ∃ k lcs1 uw1, DkAt k n lb lcs1 lcap uw1 ∧ post = [(some d, .cells #[.slice (some ⟨lb, 0, none⟩) n lcap, uw1.v k.W.length, .int .i64 k.fuse, .bool k.dead] 67 (0, 0)), (some lb, .cells lcs1 9 (0, 0)), (uw1.ob, .cells uw1.cs 90 uw1.fz)]) := by
  have hpp := partE_0.1 hp
  refine (jn_format d n lb lcap lcs slNil (newD n) h R (by omega) hp s (by rw [show (newD n).W = [] by unfold newD; rfl]; simp) hsl).weaken ?_
  rintro v post ⟨rfl, lcs1, uw1, h1, rfl⟩
  exact ⟨congrArg (Value.int .i64) (jfull (by rw [h.len]; exact regE_ok.2 ⟨by omega, by omega, by omega, by show 0 < 1; omega⟩) hm), _, lcs1, uw1, h1, rfl⟩
theorem jl_open (d n lb lcap : Nat) (lcs : Array Value) (uw : Sl) (k : Dk) (h : DkAt k n lb lcs lcap uw) (R : Nat) (sp : Sp) (text : List UInt8) (recs : List (List UInt8)) (hj : JD n R k sp text recs) (hl : Lively k) (hq : sp.seq + 1 < 250) : Ct Tryz.prog 14 [.pointer (some ⟨d, 0, none⟩), .int .i64 (R : Int)] [] [(some d, .cells #[.slice (some ⟨lb, 0, none⟩) n lcap, uw.v k.W.length, .int .i64 k.fuse, .bool k.dead] 67 (0, 0)), (some lb, .cells lcs 9 (0, 0)), (uw.ob, .cells uw.cs 90 uw.fz)]
    (fun v post => ∃ k1 lcs1 uw1 j g u, DkAt k1 n lb lcs1 lcap uw1 ∧ Lively k1 ∧ JJ n R k1 (nextS sp) text recs (pcs recs).length ∧ Own 1 u (recs.map strC) recs.length ∧ v = .tuple #[.pointer (some ⟨j, 0, none⟩), .string (bs text), u.v recs.length, .int .i64 0] ∧ post = [(some d, .cells #[.slice (some ⟨lb, 0, none⟩) n lcap, uw1.v k1.W.length, .int .i64 k1.fuse, .bool k1.dead] 67 (0, 0)), (some lb, .cells lcs1 9 (0, 0)), (uw1.ob, .cells uw1.cs 90 uw1.fz), (some j, .cells (jC d (R : Int) (nextS sp) g).toArray 86 (0, 0)), (some g, .cells (lgC d ((2 + 2 * R : Nat) : Int) ((n - (2 + 2 * R) : Nat) : Int) (nextS sp).epoch (pcs recs).length).toArray 117 (0, 0)), (u.ob, .cells u.cs 9 u.fz)]) := by
  obtain ⟨f1, f2, f3⟩ := jopen_live hj hl hq
  refine (jn_open d n lb lcap lcs uw k h R sp text recs hj f1).weaken ?_
  rintro v post ⟨lcs1, uw1, j, g, u, h1, hu, rfl, rfl⟩
  exact ⟨_, lcs1, uw1, j, g, u, h1, f2, f3, hu, rfl, rfl⟩
theorem jl_add (d n lb lcap : Nat) (lcs : Array Value) (uw : Sl) (k : Dk) (h : DkAt k n lb lcs lcap uw) (R : Nat) (sp : Sp) (text : List UInt8) (recs : List (List UInt8)) (a j g : Nat) (hj : JJ n R k sp text recs a) (hl : Lively k) (s : List UInt8) (hsl : s.length ≤ 1000000) (hfit : fitsL (((n - (2 + 2 * R) : Nat) : Int) - (a : Int)) s) : Ct Tryz.prog 17 [.pointer (some ⟨j, 0, none⟩), .string (bs s)] [(some j, .cells (jC d (R : Int) sp g).toArray 86 (0, 0))] [(some g, .cells (lgC d ((2 + 2 * R : Nat) : Int) ((n - (2 + 2 * R) : Nat) : Int) sp.epoch a).toArray 117 (0, 0)), (some d, .cells #[.slice (some ⟨lb, 0, none⟩) n lcap, uw.v k.W.length, .int .i64 k.fuse, .bool k.dead] 67 (0, 0)), (some lb, .cells lcs 9 (0, 0)), (uw.ob, .cells uw.cs 90 uw.fz)]
    (fun v post => v = .int .i64 0 ∧ ∃ k1 lcs1 uw1, DkAt k1 n lb lcs1 lcap uw1 ∧ Lively k1 ∧ JJ n R k1 sp text (recs ++ [s]) (a + manyN s.length) ∧ post = [(some g, .cells (lgC d ((2 + 2 * R : Nat) : Int) ((n - (2 + 2 * R) : Nat) : Int) sp.epoch (a + manyN s.length)).toArray 117 (0, 0)), (some d, .cells #[.slice (some ⟨lb, 0, none⟩) n lcap, uw1.v k1.W.length, .int .i64 k1.fuse, .bool k1.dead] 67 (0, 0)), (some lb, .cells lcs1 9 (0, 0)), (uw1.ob, .cells uw1.cs 90 uw1.fz)]) := by
  obtain ⟨f1, f2, f3, f4⟩ := jadd_live hj hl hfit
  refine (jn_add d n lb lcap lcs uw k h R sp text recs a j g hj s hsl).weaken ?_
  rintro v post ⟨rfl, lcs1, uw1, h1, rfl⟩
  exact ⟨congrArg (Value.int .i64) f1, _, lcs1, uw1, h1, f3, f4, by rw [f2]⟩
theorem jl_add_no (d n lb lcap : Nat) (lcs : Array Value) (uw : Sl) (k : Dk) (h : DkAt k n lb lcs lcap uw) (R : Nat) (sp : Sp) (text : List UInt8) (recs : List (List UInt8)) (a j g : Nat) (hj : JJ n R k sp text recs a) (s : List UInt8) (hsl : s.length ≤ 1000000) (z : Int) (hz : lgE (((n - (2 + 2 * R) : Nat) : Int) - (a : Int)) s = z) (hz0 : ¬ z = 0) : Ct Tryz.prog 17 [.pointer (some ⟨j, 0, none⟩), .string (bs s)] [(some j, .cells (jC d (R : Int) sp g).toArray 86 (0, 0))] [(some g, .cells (lgC d ((2 + 2 * R : Nat) : Int) ((n - (2 + 2 * R) : Nat) : Int) sp.epoch a).toArray 117 (0, 0)), (some d, .cells #[.slice (some ⟨lb, 0, none⟩) n lcap, uw.v k.W.length, .int .i64 k.fuse, .bool k.dead] 67 (0, 0)), (some lb, .cells lcs 9 (0, 0)), (uw.ob, .cells uw.cs 90 uw.fz)]
    (fun v post => v = .int .i64 z ∧ ∃ lcs1 uw1, DkAt k n lb lcs1 lcap uw1 ∧ post = [(some g, .cells (lgC d ((2 + 2 * R : Nat) : Int) ((n - (2 + 2 * R) : Nat) : Int) sp.epoch a).toArray 117 (0, 0)), (some d, .cells #[.slice (some ⟨lb, 0, none⟩) n lcap, uw1.v k.W.length, .int .i64 k.fuse, .bool k.dead] 67 (0, 0)), (some lb, .cells lcs1 9 (0, 0)), (uw1.ob, .cells uw1.cs 90 uw1.fz)]) := by
  obtain ⟨f1, f2, f3⟩ := add_no (k := k) (f := ((2 + 2 * R : Nat) : Int)) (b := ((n - (2 + 2 * R) : Nat) : Int)) (e := sp.epoch) (a := a) (s := s) (by rw [hz]; exact hz0)
  refine (jn_add d n lb lcap lcs uw k h R sp text recs a j g hj s hsl).weaken ?_
  rintro v post ⟨rfl, lcs1, uw1, h1, rfl⟩
  rw [f1] at h1 ⊢
  rw [f2, hz, f3]
  exact ⟨rfl, lcs1, uw1, h1, rfl⟩
theorem jl_anew (d n lb lcap : Nat) (lcs : Array Value) (uw : Sl) (k : Dk) (h : DkAt k n lb lcs lcap uw) (R : Nat) (sp : Sp) (text : List UInt8) (recs : List (List UInt8)) (j g : Nat) (hj : JD n R k sp text recs) (s : List UInt8) (hsl : s.length ≤ 1000000) (hl : Lively k) (hq : sp.seq + 1 < 250) (hm : manyS s.length ≤ R) : Ct Tryz.prog 19 [.pointer (some ⟨j, 0, none⟩), .string (bs s)] [] [(some j, .cells (jC d (R : Int) sp g).toArray 86 (0, 0)), (some d, .cells #[.slice (some ⟨lb, 0, none⟩) n lcap, uw.v k.W.length, .int .i64 k.fuse, .bool k.dead] 67 (0, 0)), (some lb, .cells lcs 9 (0, 0)), (uw.ob, .cells uw.cs 90 uw.fz)]
    (fun v post => v = .int .i64 0 ∧ ∃ k1 lcs1 uw1 g1, DkAt k1 n lb lcs1 lcap uw1 ∧ Lively k1 ∧ JJ n R k1 (anewS sp s.length) s [] 0 ∧ post = [(some j, .cells (jC d (R : Int) (anewS sp s.length) g1).toArray 86 (0, 0)), (some d, .cells #[.slice (some ⟨lb, 0, none⟩) n lcap, uw1.v k1.W.length, .int .i64 k1.fuse, .bool k1.dead] 67 (0, 0)), (some lb, .cells lcs1 9 (0, 0)), (uw1.ob, .cells uw1.cs 90 uw1.fz), (some g1, .cells (lgC d ((2 + 2 * R : Nat) : Int) ((n - (2 + 2 * R) : Nat) : Int) (anewS sp s.length).epoch 0).toArray 117 (0, 0))]) := by
  obtain ⟨f1, f2, f3⟩ := janew_live hj hl hq hsl hm
  refine (jn_anew d n lb lcap lcs uw k h R sp text recs j g hj s hsl hm f1).weaken ?_
  rintro v post ⟨rfl, lcs1, uw1, g1, h1, rfl⟩
  exact ⟨rfl, _, lcs1, uw1, g1, h1, f2, f3, rfl⟩


theorem fits_one {c : UInt8} {z : Int} (h : 1 ≤ z) : fitsL z [c] := ⟨by simp, by show ((manyN 1 : Nat) : Int) ≤ z; rw [show manyN 1 = 1 from rfl]; exact h⟩
theorem sees_two (b : Nat) (x y : List UInt8) : Sees 1 (some b) 0 2 #[strC x, strC y] ([x, y].map strC) [x, y].length := ⟨by simp, by simp, by simp, by simp, fun h => by cases h⟩

set_option maxRecDepth 100000 in
set_option maxHeartbeats 8000000 in
theorem jl_live  :
    Ct Tryz.prog 7 [] [] [] fun v post => v = .bool true ∧ post = [] := by
 refine ct_of Tryz.func7 rfl rfl (fun w0 => ?_)
 show G _ _ [] _ _
 refine G_seq ?_
 refine G_region (l := [0]) rfl ?_
 refine G_val rfl rfl rfl rfl (V_assign rfl rfl) ?_
 refine G_done ?_
 refine G_seq ?_
 refine G_region (l := [0, 1, 2, 3, 4, 5]) rfl ?_
 refine G_call (L2 := []) rfl rfl rfl rfl rfl rfl Tryz.call8 (dk_new 20 (by omega) (by omega)) [] [] rfl rfl ?_
 rintro v post ⟨d, lb, lcap, lcs, rfl, h, rfl⟩
 show G _ _ _ [_, _, _] _
 refine G_val rfl rfl rfl rfl (V_move rfl rfl) ?_
 refine G_val rfl rfl rfl rfl (V_extract rfl rfl rfl) ?_
 refine G_val rfl rfl rfl rfl (V_extract rfl rfl rfl) ?_
 refine G_val rfl rfl rfl rfl (V_assign rfl rfl) ?_
 refine G_val rfl rfl rfl rfl (V_assign rfl rfl) ?_
 refine G_done ?_
 refine G_seq ?_
 refine G_region (l := [0, 1, 2]) rfl ?_
 refine G_val rfl rfl rfl rfl (V_move rfl rfl) ?_
 refine G_call (L2 := []) rfl rfl rfl rfl rfl rfl Tryz.call10 (jl_format d 20 lb lcap lcs h 2 (by decide) (by omega) [97] (by simp) (by decide)) [0, 0, 0] [] rfl rfl ?_
 rintro v post ⟨rfl, k1, lcs1, uw1, h1, hl1, hj1, rfl⟩
 show G _ _ _ [_, _, _] _
 refine G_val rfl rfl rfl rfl (V_assign rfl rfl) ?_
 refine G_done ?_
 refine G_seq ?_
 refine G_region (l := [0, 1, 2, 3, 4, 5, 6, 7, 8, 9, 10]) rfl ?_
 refine G_val rfl rfl rfl rfl (V_move rfl rfl) ?_
 refine G_call (L2 := []) rfl rfl rfl rfl rfl rfl Tryz.call14 (jl_open d 20 lb lcap lcs1 uw1 k1 h1 2 (firstS 1) [97] [] hj1 hl1 (by decide)) [0, 0, 0] [] rfl rfl ?_
 rintro v post ⟨k2, lcs2, uw2, j, g, u, h2, hl2, hj2, hu, rfl, rfl⟩
 show G _ _ _ [_, _, _, _, _, _] _
 refine G_val rfl rfl rfl rfl (V_move rfl rfl) ?_
 refine G_val rfl rfl rfl rfl (V_extract rfl rfl rfl) ?_
 refine G_val rfl rfl rfl rfl (V_extract rfl rfl rfl) ?_
 refine G_val rfl rfl rfl rfl (V_extract rfl rfl rfl) ?_
 refine G_val rfl rfl rfl rfl (V_extract rfl rfl rfl) ?_
 refine G_val rfl rfl rfl rfl (V_assign rfl rfl) ?_
 refine G_val rfl rfl rfl rfl (V_assign rfl rfl) ?_
 refine G_val rfl rfl rfl rfl (V_assign rfl rfl) ?_
 refine G_val rfl rfl rfl rfl (V_assign rfl rfl) ?_
 refine G_done ?_
 refine G_seq ?_
 refine G_region (l := [0, 1, 2, 3, 4, 5]) rfl ?_
 refine G_val rfl rfl rfl rfl (V_move rfl rfl) ?_
 refine G_call (L2 := [_, _]) rfl rfl rfl rfl rfl rfl Tryz.call17 (jl_add d 20 lb lcap lcs2 uw2 k2 h2 2 (nextS (firstS 1)) [97] [] 0 j g hj2 hl2 [98] (by simp) (fits_one (by decide))) [4, 0, 0, 0] [0] rfl rfl ?_
 rintro v post ⟨rfl, k3, lcs3, uw3, h3, hl3, hj3, rfl⟩
 show G _ _ _ [_, _, _, _, _, _] _
 refine G_val rfl rfl rfl rfl (V_move rfl rfl) ?_
 refine G_call (L2 := [_, _]) rfl rfl rfl rfl rfl rfl Tryz.call17 (jl_add d 20 lb lcap lcs3 uw3 k3 h3 2 (nextS (firstS 1)) [97] [[98]] 1 j g hj3 hl3 [99] (by simp) (fits_one (by decide))) [0, 0, 0, 0] [0] rfl rfl ?_
 rintro v post ⟨rfl, k4, lcs4, uw4, h4, hl4, hj4, rfl⟩
 show G _ _ _ [_, _, _, _, _, _] _
 refine G_val rfl rfl rfl rfl (V_assign rfl rfl) ?_
 refine G_val rfl rfl rfl rfl (V_assign rfl rfl) ?_
 refine G_done ?_
 refine G_seq ?_
 refine G_region (l := [0, 1, 2, 3, 4, 5, 6, 7, 8]) rfl ?_
 refine G_val rfl rfl rfl rfl (V_move rfl rfl) ?_
 refine G_call (L2 := [_, _, _, _, _, _]) rfl rfl rfl rfl rfl rfl Tryz.call27 (jn_Look d 20 lb lcap lcs4 uw4 k4 h4 2 (nextS (firstS 1)) [97] [[98], [99]] hj4.jd) [] [1, 2, 3] rfl rfl ?_
 rintro v post ⟨u5, hu5, rfl, rfl⟩
 show G _ _ _ [_, _, _, _, _, _, _] _
 refine G_val rfl rfl rfl rfl (V_move rfl rfl) ?_
 refine G_val rfl rfl rfl rfl (V_extract rfl rfl rfl) ?_
 refine G_val rfl rfl rfl rfl (V_extract rfl rfl rfl) ?_
 refine G_val rfl rfl rfl rfl (V_extract rfl rfl rfl) ?_
 refine G_val rfl rfl rfl rfl (V_assign rfl rfl) ?_
 refine G_val rfl rfl rfl rfl (V_assign rfl rfl) ?_
 refine G_val rfl rfl rfl rfl (V_assign rfl rfl) ?_
 refine G_done ?_
 refine G_seq ?_
 refine G_region (l := [0, 1, 2]) rfl ?_
 refine G_val rfl rfl rfl rfl (V_move rfl rfl) ?_
 refine G_call (L2 := [_, _, _]) rfl rfl rfl rfl rfl rfl Tryz.call19 (jl_anew d 20 lb lcap lcs4 uw4 k4 h4 2 (nextS (firstS 1)) [97] [[98], [99]] j g hj4.jd [100] (by simp) hl4 (by decide) (by decide)) [5, 2, 2, 2] [] rfl rfl ?_
 rintro v post ⟨rfl, k6, lcs6, uw6, g6, h6, hl6, hj6, rfl⟩
 show G _ _ _ [_, _, _, _, _, _, _, _] _
 refine G_val rfl rfl rfl rfl (V_assign rfl rfl) ?_
 refine G_done ?_
 refine G_seq ?_
 refine G_region (l := [0, 1, 2, 3, 4, 5, 6, 7, 8]) rfl ?_
 refine G_val rfl rfl rfl rfl (V_move rfl rfl) ?_
 refine G_call (L2 := [_, _, _, _, _, _, _, _]) rfl rfl rfl rfl rfl rfl Tryz.call27 (jn_Look d 20 lb lcap lcs6 uw6 k6 h6 2 (anewS (nextS (firstS 1)) 1) [100] [] hj6.jd) [] [1, 2, 3] rfl rfl ?_
 rintro v post ⟨u7, hu7, rfl, rfl⟩
 show G _ _ _ [_, _, _, _, _, _, _, _, _] _
 refine G_val rfl rfl rfl rfl (V_move rfl rfl) ?_
 refine G_val rfl rfl rfl rfl (V_extract rfl rfl rfl) ?_
 refine G_val rfl rfl rfl rfl (V_extract rfl rfl rfl) ?_
 refine G_val rfl rfl rfl rfl (V_extract rfl rfl rfl) ?_
 refine G_val rfl rfl rfl rfl (V_assign rfl rfl) ?_
 refine G_val rfl rfl rfl rfl (V_assign rfl rfl) ?_
 refine G_val rfl rfl rfl rfl (V_assign rfl rfl) ?_
 refine G_done ?_
 refine G_seq ?_
 refine G_region (l := [0, 1, 2, 3, 4, 5, 6, 7, 8, 9, 10, 11, 12, 13, 14, 15, 16, 17, 18, 19, 20, 21, 22, 23, 24, 25, 26, 27, 28, 29, 30, 31, 32, 33, 34, 35, 36, 37, 38, 39, 40, 41, 42, 43, 44, 45, 46, 47, 48, 49, 50, 51, 52, 53, 54, 55, 56, 57, 58, 59, 60]) rfl ?_
 refine G_val rfl rfl rfl rfl (V_move rfl rfl) ?_
 refine G_call (L2 := [_, _, _, _, _, _, _, _, _]) rfl rfl rfl rfl rfl rfl Tryz.call9 (jl_num _) [] [] rfl rfl ?_
 rintro v post ⟨rfl, rfl⟩
 show G _ _ _ [_, _, _, _, _, _, _, _, _] _
 refine G_val rfl rfl rfl rfl (V_eql rfl rfl rfl) ?_
 refine G_val rfl rfl rfl rfl (V_move rfl rfl) ?_
 refine G_splitD 51 rfl (fun hc1 => ?_) (fun hc1 => ?_)
 rotate_left
 · (first | (exact absurd rfl hc1) | (exact absurd hc1 (by decide)) | (exact absurd (by decide) hc1) | (exfalso; omega) | (simp at hc1; done))
 refine G_val rfl rfl rfl rfl (V_move rfl rfl) ?_
 refine G_call (L2 := [_, _, _, _, _, _, _, _, _]) rfl rfl rfl rfl rfl rfl Tryz.call9 (jl_num _) [] [] rfl rfl ?_
 rintro v post ⟨rfl, rfl⟩
 show G _ _ _ [_, _, _, _, _, _, _, _, _] _
 refine G_val rfl rfl rfl rfl (V_eql rfl rfl rfl) ?_
 refine G_val rfl rfl rfl rfl (V_pickT rfl rfl rfl) ?_
 refine G_val rfl rfl rfl rfl (V_move rfl rfl) ?_
 refine G_splitD 56 rfl (fun hc2 => ?_) (fun hc2 => ?_)
 rotate_left
 · (first | (exact absurd rfl hc2) | (exact absurd hc2 (by decide)) | (exact absurd (by decide) hc2) | (exfalso; omega) | (simp at hc2; done))
 refine G_val rfl rfl rfl rfl (V_move rfl rfl) ?_
 refine G_call (L2 := [_, _, _, _, _, _, _, _, _]) rfl rfl rfl rfl rfl rfl Tryz.call9 (jl_num _) [] [] rfl rfl ?_
 rintro v post ⟨rfl, rfl⟩
 show G _ _ _ [_, _, _, _, _, _, _, _, _] _
 refine G_val rfl rfl rfl rfl (V_eql rfl rfl rfl) ?_
 refine G_val rfl rfl rfl rfl (V_pickT rfl rfl rfl) ?_
 refine G_val rfl rfl rfl rfl (V_move rfl rfl) ?_
 refine G_splitD 61 rfl (fun hc3 => ?_) (fun hc3 => ?_)
 rotate_left
 · (first | (exact absurd rfl hc3) | (exact absurd hc3 (by decide)) | (exact absurd (by decide) hc3) | (exfalso; omega) | (simp at hc3; done))
 refine G_val rfl rfl rfl rfl (V_move rfl rfl) ?_
 refine G_call (L2 := [_, _, _, _, _, _, _, _, _]) rfl rfl rfl rfl rfl rfl Tryz.call9 (jl_num _) [] [] rfl rfl ?_
 rintro v post ⟨rfl, rfl⟩
 show G _ _ _ [_, _, _, _, _, _, _, _, _] _
 refine G_val rfl rfl rfl rfl (V_eql rfl rfl rfl) ?_
 refine G_val rfl rfl rfl rfl (V_pickT rfl rfl rfl) ?_
 refine G_val rfl rfl rfl rfl (V_move rfl rfl) ?_
 refine G_splitD 66 rfl (fun hc4 => ?_) (fun hc4 => ?_)
 rotate_left
 · (first | (exact absurd rfl hc4) | (exact absurd hc4 (by decide)) | (exact absurd (by decide) hc4) | (exfalso; omega) | (simp at hc4; done))
 refine G_val rfl rfl rfl rfl (V_move rfl rfl) ?_
 refine G_call (L2 := [_, _, _, _, _, _, _, _, _]) rfl rfl rfl rfl rfl rfl Tryz.call9 (jl_num _) [] [] rfl rfl ?_
 rintro v post ⟨rfl, rfl⟩
 show G _ _ _ [_, _, _, _, _, _, _, _, _] _
 refine G_val rfl rfl rfl rfl (V_eql rfl rfl rfl) ?_
 refine G_val rfl rfl rfl rfl (V_pickT rfl rfl rfl) ?_
 refine G_val rfl rfl rfl rfl (V_move rfl rfl) ?_
 refine G_splitD 71 rfl (fun hc5 => ?_) (fun hc5 => ?_)
 rotate_left
 · (first | (exact absurd rfl hc5) | (exact absurd hc5 (by decide)) | (exact absurd (by decide) hc5) | (exfalso; omega) | (simp at hc5; done))
 refine G_val rfl rfl rfl rfl (V_move rfl rfl) ?_
 refine G_call (L2 := [_, _, _, _, _, _, _, _, _]) rfl rfl rfl rfl rfl rfl Tryz.call9 (jl_num _) [] [] rfl rfl ?_
 rintro v post ⟨rfl, rfl⟩
 show G _ _ _ [_, _, _, _, _, _, _, _, _] _
 refine G_val rfl rfl rfl rfl (V_eql rfl rfl rfl) ?_
 refine G_val rfl rfl rfl rfl (V_pickT rfl rfl rfl) ?_
 refine G_val rfl rfl rfl rfl (V_move rfl rfl) ?_
 refine G_splitD 76 rfl (fun hc6 => ?_) (fun hc6 => ?_)
 rotate_left
 · (first | (exact absurd rfl hc6) | (exact absurd hc6 (by decide)) | (exact absurd (by decide) hc6) | (exfalso; omega) | (simp at hc6; done))
 refine G_val rfl rfl rfl rfl (V_move rfl rfl) ?_
 refine G_call (L2 := [_, _, _, _, _, _, _, _, _]) rfl rfl rfl rfl rfl rfl Tryz.call9 (jl_num _) [] [] rfl rfl ?_
 rintro v post ⟨rfl, rfl⟩
 show G _ _ _ [_, _, _, _, _, _, _, _, _] _
 refine G_val rfl rfl rfl rfl (V_eql rfl rfl rfl) ?_
 refine G_val rfl rfl rfl rfl (V_pickT rfl rfl rfl) ?_
 refine G_val rfl rfl rfl rfl (V_move rfl rfl) ?_
 refine G_splitD 81 rfl (fun hc7 => ?_) (fun hc7 => ?_)
 rotate_left
 · (first | (exact absurd rfl hc7) | (exact absurd hc7 (by decide)) | (exact absurd (by decide) hc7) | (exfalso; omega) | (simp at hc7; done))
 refine G_val rfl rfl rfl rfl (V_move rfl rfl) ?_
 refine G_val rfl rfl rfl rfl (V_seql rfl rfl rfl) ?_
 refine G_val rfl rfl rfl rfl (V_pickT rfl rfl rfl) ?_
 refine G_val rfl rfl rfl rfl (V_move rfl rfl) ?_
 refine G_splitD 85 rfl (fun hc8 => ?_) (fun hc8 => ?_)
 rotate_left
 · (first | (exact absurd rfl hc8) | (exact absurd hc8 (by decide)) | (exact absurd (by decide) hc8) | (exfalso; omega) | (simp at hc8; done))
 refine G_val rfl rfl rfl rfl (V_move rfl rfl) ?_
 refine G_val rfl rfl rfl rfl (V_len rfl rfl Tryz.underlying34 rfl) ?_
 refine G_val rfl rfl rfl rfl (V_eql rfl rfl rfl) ?_
 refine G_val rfl rfl rfl rfl (V_pickT rfl rfl rfl) ?_
 refine G_val rfl rfl rfl rfl (V_move rfl rfl) ?_
 refine G_splitD 90 rfl (fun hc9 => ?_) (fun hc9 => ?_)
 rotate_left
 · (first | (exact absurd rfl hc9) | (exact absurd hc9 (by decide)) | (exact absurd (by decide) hc9) | (exfalso; omega) | (simp at hc9; done))
 refine G_val rfl rfl rfl rfl (V_move rfl rfl) ?_
 refine G_val rfl rfl rfl rfl (V_seql rfl rfl rfl) ?_
 refine G_val rfl rfl rfl rfl (V_pickT rfl rfl rfl) ?_
 refine G_val rfl rfl rfl rfl (V_move rfl rfl) ?_
 refine G_splitD 94 rfl (fun hc10 => ?_) (fun hc10 => ?_)
 rotate_left
 · (first | (exact absurd rfl hc10) | (exact absurd hc10 (by decide)) | (exact absurd (by decide) hc10) | (exfalso; omega) | (simp at hc10; done))
 refine G_val rfl rfl rfl rfl (V_move rfl rfl) ?_
 refine G_new rfl rfl rfl rfl (N_buildAll (s := 1) (cs := [_, _]) rfl Tryz.underlying34 infJourL_9 rfl rfl rfl rfl rfl rfl rfl rfl rfl) (fun b96 => ?_)
 refine G_call (L2 := [_, _, _, _, _, _, _, _, _, _]) rfl rfl rfl rfl rfl rfl Tryz.call20 ((ref_texts u5.ob 0 u5.cap u5.cs 9 u5.fz (some b96) 0 2 _ 9 (0, 0) [[98], [99]] [[98], [99]] hu5.sees (sees_two b96 [98] [99])).weaken (fun v post h => by rw [decide_eq_true rfl] at h; exact h)) [] [7, 0] rfl rfl ?_
 rintro v post ⟨rfl, rfl⟩
 show G _ _ _ [_, _, _, _, _, _, _, _, _, _] _
 refine G_val rfl rfl rfl rfl (V_pickT rfl rfl rfl) ?_
 refine G_val rfl rfl rfl rfl (V_move rfl rfl) ?_
 refine G_val rfl rfl rfl rfl (V_move rfl rfl) ?_
 refine G_val rfl rfl rfl rfl (V_seql rfl rfl rfl) ?_
 refine G_val rfl rfl rfl rfl (V_pickT rfl rfl rfl) ?_
 refine G_val rfl rfl rfl rfl (V_move rfl rfl) ?_
 refine G_splitD 103 rfl (fun hc11 => ?_) (fun hc11 => ?_)
 rotate_left
 · (first | (exact absurd rfl hc11) | (exact absurd hc11 (by decide)) | (exact absurd (by decide) hc11) | (exfalso; omega) | (simp at hc11; done))
 refine G_val rfl rfl rfl rfl (V_move rfl rfl) ?_
 refine G_val rfl rfl rfl rfl (V_len rfl rfl Tryz.underlying34 rfl) ?_
 refine G_val rfl rfl rfl rfl (V_eql rfl rfl rfl) ?_
 refine G_val rfl rfl rfl rfl (V_pickT rfl rfl rfl) ?_
 refine G_val rfl rfl rfl rfl (V_assign rfl rfl) ?_
 refine G_done ?_
 refine G_ret (post := []) Tryz.func7 rfl (RVs_cons (RV_tmp rfl) RVs_nil) [] rfl ?_
 dsimp only [packed]
 exact ⟨rfl, rfl⟩


def acC (x : Int × List UInt8) : List Value := [.int .i64 x.1, .string (bs x.2)]
theorem ac_len (x : Int × List UInt8) : (acC x).length = 2 := rfl

set_option maxRecDepth 100000 in
set_option maxHeartbeats 1000000 in
theorem jl_long (o1 : Option Nat) (p1 q1 : Nat) (c1 : Array Value) (T1 : TypeId) (f1 : Nat × Nat) (l : List (Int × List UInt8)) (hs : Sees 2 o1 p1 q1 c1 (l.flatMap acC) l.length) :
    Ct Tryz.prog 6 [sv o1 p1 l.length q1] [(o1, .cells c1 T1 f1)] [] fun v post => (∃ b, v = .bool b ∧ (b = false → l.length ≤ 40 ∧ ∀ x ∈ l, x.2.length ≤ 1100)) ∧ post = [] := by
 have hl1 := hs.le
 have hl2 := hs.max
 refine ct_of Tryz.func6 rfl rfl (fun w0 => ?_)
 show G _ _ [(0, _)] _ _
 refine G_seq ?_
 refine G_region (l := [0]) rfl ?_
 refine G_val rfl rfl rfl rfl (V_assign rfl rfl) ?_
 refine G_done ?_
 refine G_seq ?_
 refine G_seq ?_
 refine G_region (l := [0]) rfl ?_
 refine G_val rfl rfl rfl rfl (V_assign rfl rfl) ?_
 refine G_done ?_
 refine G_block ?_
 refine G_sub ?he2 [] ?hl2 (G_loop (X := Nat) (fun i => i ≤ l.length ∧ ∀ x ∈ l.take i, x.2.length ≤ 1100) (fun i => l.length - i) (fun i => [(0, sv o1 p1 l.length q1), (3, .int .i64 (i : Int))]) (fun i => []) ?round2 0 ?h02)
 case he2 => exact (And.intro rfl (And.intro rfl trivial))
 case hl2 => exact ⟨_, rfl⟩
 case h02 => exact ⟨Nat.zero_le _, by simp⟩
 case round2 =>
  intro i hJ ih
  try dsimp only at hJ ih
  obtain ⟨hi, hall⟩ := hJ
  refine G_seq ?_
  refine G_seq ?_
  refine G_region (l := [0, 1, 2, 3]) rfl ?_
  refine G_val rfl rfl rfl rfl (V_move rfl rfl) ?_
  refine G_val rfl rfl rfl rfl (V_move rfl rfl) ?_
  refine G_val rfl rfl rfl rfl (V_len rfl rfl Tryz.underlying23 rfl) ?_
  refine G_val rfl rfl rfl rfl (V_lss rfl rfl rfl) ?_
  refine G_done ?_
  refine G_ifD rfl (fun hc1 => ?_) (fun hc1 => ?_)
  ·
   refine G_skip ?_
   refine G_seq ?_
   refine G_block ?_
   refine G_seq ?_
   obtain ⟨x, hx⟩ := getI (show i < l.length by omega)
   obtain ⟨bo1, rfl⟩ := hs.isSome (by omega)
   refine G_region (l := [0, 1, 2, 3, 4, 5, 6]) rfl ?_
   refine G_val rfl rfl rfl rfl (V_move rfl rfl) ?_
   refine G_val rfl rfl rfl rfl (V_move rfl rfl) ?_
   refine G_val rfl rfl rfl rfl (V_indexAddrN (s := 2) rfl Tryz.underlying23 infJourL_42 rfl rfl rfl rfl (by omega)) ?_
   refine G_val rfl rfl rfl rfl (V_fieldAddr (fo := _ + 1) rfl Tryz.underlying42 rfl infJourL_9 rfl rfl rfl) ?_
   refine G_val rfl rfl rfl rfl (V_load1 rfl rfl (mem_at 0 rfl) (nth_of (cell_at hs ac_len hx 1 (by omega) rfl)) Tryz.underlying9 rfl) ?_
   refine G_val rfl rfl rfl rfl (V_slen rfl rfl Tryz.underlying9 rfl) ?_
   refine G_val rfl rfl rfl rfl (V_gtr rfl rfl rfl) ?_
   refine G_done ?_
   refine G_ifD rfl (fun hc2 => ?_) (fun hc2 => ?_)
   ·
    refine G_seq ?_
    refine G_region (l := [0]) rfl ?_
    refine G_val rfl rfl rfl rfl (V_assign rfl rfl) ?_
    refine G_done ?_
    refine G_ret (post := []) Tryz.func6 rfl (RVs_cons (RV_tmp rfl) RVs_nil) [] rfl ?_
    dsimp only [packed]
    first
      | exact ⟨⟨true, rfl, fun h => Bool.noConfusion h⟩, rfl⟩
      | (refine ⟨⟨_, rfl, fun h => ?_⟩, rfl⟩
         have hx := of_decide_eq_false h
         rw [List.take_of_length_le (by omega)] at hall
         exact ⟨by omega, hall⟩)
   refine G_skip ?_
   refine G_inBlock ?_
   refine G_region (l := [0, 1, 2]) rfl ?_
   refine G_val rfl rfl rfl rfl (V_move rfl rfl) ?_
   refine G_val rfl rfl rfl rfl ((V_add rfl rfl rfl).int (wrap_i64 (by omega))) ?_
   refine G_val rfl rfl rfl rfl (V_assign rfl rfl) ?_
   refine G_done ?_
   refine G_sub ?_ [] ?_ (ih (i + 1) ?_ ?_)
   · (refine (And.intro ?_ (And.intro ?_ trivial)) <;> first | rfl | exact slot_int (by omega) | exact slot_int (by simp))
   · exact ⟨_, rfl⟩
   · refine ⟨by omega, fun y hy => ?_⟩
     rw [take_succ_of hx] at hy
     rcases List.mem_append.1 hy with hy | hy
     · exact hall y hy
     · rw [List.mem_singleton.1 hy]; omega
   · (first | omega | (dsimp only; omega))
  refine G_exit rfl ?_
  refine G_seq ?_
  refine G_region (l := [0, 1, 2, 3]) rfl ?_
  refine G_val rfl rfl rfl rfl (V_move rfl rfl) ?_
  refine G_val rfl rfl rfl rfl (V_len rfl rfl Tryz.underlying23 rfl) ?_
  refine G_val rfl rfl rfl rfl (V_gtr rfl rfl rfl) ?_
  refine G_val rfl rfl rfl rfl (V_assign rfl rfl) ?_
  refine G_done ?_
  refine G_ret (post := []) Tryz.func6 rfl (RVs_cons (RV_tmp rfl) RVs_nil) [] rfl ?_
  dsimp only [packed]
  first
    | exact ⟨⟨true, rfl, fun h => Bool.noConfusion h⟩, rfl⟩
    | (refine ⟨⟨_, rfl, fun h => ?_⟩, rfl⟩
       have hx := of_decide_eq_false h
       rw [List.take_of_length_le (by omega)] at hall
       exact ⟨by omega, hall⟩)

end
end Go.Proofs.YtbblkgdejgoncaaGreatDoor
