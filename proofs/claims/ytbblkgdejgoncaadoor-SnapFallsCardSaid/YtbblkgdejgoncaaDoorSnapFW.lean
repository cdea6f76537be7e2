/- The walk of the law SnapFalls. -/
import Derived.Test.YtbblkgdejgoncaaDoorSnapF
import Derived.Test.YtbblkgdejgoncaaDoorG16
set_option linter.unusedSimpArgs false
set_option linter.unusedVariables false
namespace Go.Proofs.YtbblkgdejgoncaaDoor
open Go Go.ChangeShapes Go.WideShapes Go.ChangeAt Go.RowKit

section
theorem infSnapFW_3 : Tryd.prog.info? 3 = some Tryd.t3 := by kernel_rfl
theorem infSnapFW_9 : Tryd.prog.info? 9 = some Tryd.t9 := by kernel_rfl
theorem infSnapFW_56 : Tryd.prog.info? 56 = some Tryd.t56 := by kernel_rfl

attribute [local irreducible] putK putE gotT gotE newD
set_option maxRecDepth 100000 in
set_option maxHeartbeats 4000000 in
theorem snapFalls_all (s t : List UInt8) (z0 z1 : Int) (hz0 : z0 ≤ 9223372036854775807) (hz1 : z1 ≤ 9223372036854775807) (hsl : s.length ≤ 9223372036854775807) (htl : t.length ≤ 9223372036854775807) (o1 : Option Nat) (p1 q1 : Nat) (c1 : Array Value) (T1 : TypeId) (f1 : Nat × Nat) (ks : List (Int × Int)) (hk : Sees 2 o1 p1 q1 c1 (ks.flatMap kCells) ks.length) :
    Ct Tryd.prog 7 [.agg #[.string (bs s), .string (bs t), .int .i64 z0, .int .i64 z1], sv o1 p1 ks.length q1] [(o1, .cells c1 T1 f1)] [] fun v post => v = .bool true ∧ post = [] := by
 have hk1 := hk.le
 have hk2 := hk.max
 refine ct_of Tryd.func7 rfl rfl (fun w0 => ?_)
 show G _ _ [(0, _), (1, _)] _ _
 refine G_seq ?_
 refine G_region (l := [0, 1]) rfl ?_
 refine G_new rfl rfl rfl rfl (N_boxA rfl rfl) (fun b2 => ?_)
 refine G_val rfl rfl rfl rfl (V_assign rfl rfl) ?_
 refine G_done ?_
 refine G_seq ?_
 refine GH_start (Lq := [_]) (isq := [0]) (m := 6) mixedK rfl rfl ?_
 refine GH_take 0 rfl rfl rfl rfl (by kernel_rfl) (by kernel_rfl) (by kernel_rfl) (fun _ _ => (V_fieldAddr (fo := 0) rfl Tryd.underlying58 rfl infSnapFW_9 rfl rfl rfl)) ?_
 refine GH_take 1 rfl rfl rfl rfl (by kernel_rfl) (by kernel_rfl) (by kernel_rfl) (fun _ _ => (V_load1 rfl rfl (mem_at 1 rfl) rfl Tryd.underlying9 rfl)) ?_
 refine GH_take 2 rfl rfl rfl rfl (by kernel_rfl) (by kernel_rfl) (by kernel_rfl) (fun _ _ => (V_fieldAddr (fo := 1) rfl Tryd.underlying58 rfl infSnapFW_9 rfl rfl rfl)) ?_
 refine GH_take 3 rfl rfl rfl rfl (by kernel_rfl) (by kernel_rfl) (by kernel_rfl) (fun _ _ => (V_load1 rfl rfl (mem_at 1 rfl) rfl Tryd.underlying9 rfl)) ?_
 refine GH_take 4 rfl rfl rfl rfl (by kernel_rfl) (by kernel_rfl) (by kernel_rfl) (fun _ _ => (V_assign rfl rfl)) ?_
 refine GH_take 5 rfl rfl rfl rfl (by kernel_rfl) (by kernel_rfl) (by kernel_rfl) (fun _ _ => (V_assign rfl rfl)) ?_
 refine GH_done (by kernel_rfl) ?_
 refine G_seq ?_
 refine G_seq ?_
 refine G_region (l := [0, 1, 2, 3, 4, 5, 6, 7, 8, 9, 10, 11, 12]) rfl ?_
 refine G_val rfl rfl rfl rfl (V_move rfl rfl) ?_
 refine G_val rfl rfl rfl rfl (V_slen rfl rfl Tryd.underlying9 rfl) ?_
 refine G_val rfl rfl rfl rfl (V_gtr rfl rfl rfl) ?_
 refine G_val rfl rfl rfl rfl (V_move rfl rfl) ?_
 refine G_splitD 25 rfl (fun hc1 => ?_) (fun hc1 => ?_)
 · skip
   refine G_off rfl rfl rfl rfl ?_
   refine G_off rfl rfl rfl rfl ?_
   refine G_off rfl rfl rfl rfl ?_
   refine G_val rfl rfl rfl rfl (V_pickT rfl rfl rfl) ?_
   refine G_val rfl rfl rfl rfl (V_move rfl rfl) ?_
   refine G_off rfl rfl rfl rfl ?_
   refine G_off rfl rfl rfl rfl ?_
   refine G_off rfl rfl rfl rfl ?_
   refine G_val rfl rfl rfl rfl (V_pickT rfl rfl rfl) ?_
   refine G_done ?_
   refine G_then rfl ?_
   refine G_seq ?_
   refine G_region (l := [0, 1]) rfl ?_
   refine G_call (L2 := [_]) rfl rfl rfl rfl rfl rfl Tryd.call16 (snl_live) [] [] rfl rfl ?_
   rintro v post ⟨rfl, rfl⟩
   show G _ _ _ [_] _
   refine G_val rfl rfl rfl rfl (V_assign rfl rfl) ?_
   refine G_done ?_
   refine G_ret (post := []) Tryd.func7 rfl (RVs_cons (RV_tmp rfl) RVs_nil) [] rfl ?_
   dsimp only [packed]
   exact ⟨rfl, rfl⟩
 refine G_val rfl rfl rfl rfl (V_move rfl rfl) ?_
 refine G_val rfl rfl rfl rfl (V_slen rfl rfl Tryd.underlying9 rfl) ?_
 refine G_val rfl rfl rfl rfl (V_gtr rfl rfl rfl) ?_
 refine G_val rfl rfl rfl rfl (V_pickF rfl rfl rfl) ?_
 refine G_val rfl rfl rfl rfl (V_move rfl rfl) ?_
 refine G_splitD 30 rfl (fun hc2 => ?_) (fun hc2 => ?_)
 · skip
   refine G_off rfl rfl rfl rfl ?_
   refine G_off rfl rfl rfl rfl ?_
   refine G_off rfl rfl rfl rfl ?_
   refine G_val rfl rfl rfl rfl (V_pickT rfl rfl rfl) ?_
   refine G_done ?_
   refine G_then rfl ?_
   refine G_seq ?_
   refine G_region (l := [0, 1]) rfl ?_
   refine G_call (L2 := [_]) rfl rfl rfl rfl rfl rfl Tryd.call16 (snl_live) [] [] rfl rfl ?_
   rintro v post ⟨rfl, rfl⟩
   show G _ _ _ [_] _
   refine G_val rfl rfl rfl rfl (V_assign rfl rfl) ?_
   refine G_done ?_
   refine G_ret (post := []) Tryd.func7 rfl (RVs_cons (RV_tmp rfl) RVs_nil) [] rfl ?_
   dsimp only [packed]
   exact ⟨rfl, rfl⟩
 refine G_val rfl rfl rfl rfl (V_move rfl rfl) ?_
 refine G_val rfl rfl rfl rfl (V_len rfl rfl Tryd.underlying59 rfl) ?_
 refine G_val rfl rfl rfl rfl (V_gtr rfl rfl rfl) ?_
 refine G_val rfl rfl rfl rfl (V_pickF rfl rfl rfl) ?_
 refine G_done ?_
 refine G_ifD rfl (fun hc3 => ?_) (fun hc3 => ?_)
 · skip
   refine G_seq ?_
   refine G_region (l := [0, 1]) rfl ?_
   refine G_call (L2 := [_]) rfl rfl rfl rfl rfl rfl Tryd.call16 (snl_live) [] [] rfl rfl ?_
   rintro v post ⟨rfl, rfl⟩
   show G _ _ _ [_] _
   refine G_val rfl rfl rfl rfl (V_assign rfl rfl) ?_
   refine G_done ?_
   refine G_ret (post := []) Tryd.func7 rfl (RVs_cons (RV_tmp rfl) RVs_nil) [] rfl ?_
   dsimp only [packed]
   exact ⟨rfl, rfl⟩
 refine G_skip ?_
 refine G_seq ?_
 have hs9 : s.length ≤ 900 := by omega
 have ht9 : t.length ≤ 900 := by omega
 obtain ⟨fp1, fp2, hF1⟩ := first_put hs9
 refine G_region (l := [0, 1, 2, 3, 4, 5]) rfl ?_
 refine G_call (L2 := [_]) rfl rfl rfl rfl rfl rfl Tryd.call17 (dk_new 41 (by omega) (by omega)) [] [] rfl rfl ?_
 rintro v post ⟨d, lb, lcap, lcs, rfl, h, rfl⟩
 show G _ _ _ [_, _, _, _] _
 refine G_val rfl rfl rfl rfl (V_move rfl rfl) ?_
 refine G_val rfl rfl rfl rfl (V_extract rfl rfl rfl) ?_
 refine G_val rfl rfl rfl rfl (V_extract rfl rfl rfl) ?_
 refine G_val rfl rfl rfl rfl (V_assign rfl rfl) ?_
 refine G_val rfl rfl rfl rfl (V_assign rfl rfl) ?_
 refine G_done ?_
 refine G_seq ?_
 refine G_region (l := [0, 1, 2, 3, 4]) rfl ?_
 refine G_val rfl rfl rfl rfl (V_move rfl rfl) ?_
 refine G_val rfl rfl rfl rfl (V_move rfl rfl) ?_
 refine G_call (L2 := [_]) rfl rfl rfl rfl rfl rfl Tryd.call23 ((sn_put d 41 lb lcap lcs slNil (newD 41) h 0 20 1 (by omega) (by omega) (by omega) (by omega) (by omega) s (new_W41) (by omega)).weaken (fun v post h => by rw [fp1] at h; exact h)) [0, 0, 0] [] rfl rfl ?_
 rintro v post ⟨rfl, lcs1, uw1, h1, rfl⟩
 show G _ _ _ [_, _, _, _] _
 refine G_call (L2 := [_, _, _, _]) rfl rfl rfl rfl rfl rfl Tryd.call19 (sl_num _) [] [] rfl rfl ?_
 rintro v post ⟨rfl, rfl⟩
 show G _ _ _ [_, _, _, _] _
 refine G_val rfl rfl rfl rfl (V_assign rfl rfl) ?_
 refine G_done ?_
 refine G_seq ?_
 refine G_region (l := [0, 1, 2, 3]) rfl ?_
 refine G_val rfl rfl rfl rfl (V_move rfl rfl) ?_
 refine G_call (L2 := [_]) rfl rfl rfl rfl rfl rfl Tryd.call31 ((dk_sync d 41 lb lcap lcs1 uw1 (putK (newD 41) 0 20 1 s) h1).weaken (fun v post h => by rw [fp2] at h; exact h)) [0, 0, 0] [] rfl rfl ?_
 rintro v post ⟨rfl, lcs1, uw1, h1, rfl⟩
 show G _ _ _ [_, _, _, _] _
 refine G_call (L2 := [_, _, _, _]) rfl rfl rfl rfl rfl rfl Tryd.call19 (sl_num _) [] [] rfl rfl ?_
 rintro v post ⟨rfl, rfl⟩
 show G _ _ _ [_, _, _, _] _
 refine G_val rfl rfl rfl rfl (V_assign rfl rfl) ?_
 refine G_done ?_
 refine G_seq ?_
 have hF2 := first_fuse hF1 z0
 refine G_region (l := [0, 1, 2, 3, 4]) rfl ?_
 refine G_val rfl rfl rfl rfl (V_move rfl rfl) ?_
 refine G_val rfl rfl rfl rfl (V_fieldAddr (fo := 2) rfl Tryd.underlying58 rfl infSnapFW_56 rfl rfl rfl) ?_
 refine G_val rfl rfl rfl rfl (V_aindexAddr rfl Tryd.underlying56 infSnapFW_3 rfl rfl rfl (by omega) (by omega)) ?_
 refine G_val rfl rfl rfl rfl (V_load1 rfl rfl (mem_at 4 rfl) rfl Tryd.underlying3 rfl) ?_
 refine G_call (L2 := [_, _, _]) rfl rfl rfl rfl rfl rfl Tryd.call32 (dk_fuse d 41 lb lcap lcs1 uw1 (putK (newD 41) 0 20 1 s).sync h1 z0) [0] [] rfl rfl ?_
 rintro v post ⟨rfl, rfl⟩
 show G _ _ _ [_, _, _, _] _
 replace h1 := setFuse_at h1 hz0
 refine G_done ?_
 refine G_seq ?_
 refine G_region (l := [0, 1, 2]) rfl ?_
 refine G_val rfl rfl rfl rfl (V_move rfl rfl) ?_
 refine G_val rfl rfl rfl rfl (V_move rfl rfl) ?_
 refine G_call (L2 := [_]) rfl rfl rfl rfl rfl rfl Tryd.call23 (sn_put d 41 lb lcap lcs1 uw1 ((putK (newD 41) 0 20 1 s).sync.setFuse z0) h1 20 20 2 (by omega) (by omega) (by omega) (by omega) (by omega) t (by rw [hF2.nil]; simp) (by omega)) [0, 0, 0] [] rfl rfl ?_
 rintro v post ⟨rfl, lcs1, uw1, h1, rfl⟩
 show G _ _ _ [_, _, _, _] _
 refine G_done ?_
 refine G_seq ?_
 have hF4 := first_other hs9 ht9 hF2 ks
 refine G_region (l := [0, 1, 2, 3, 4]) rfl ?_
 refine G_val rfl rfl rfl rfl (V_move rfl rfl) ?_
 refine G_val rfl rfl rfl rfl (V_move rfl rfl) ?_
 refine G_call (L2 := [_]) rfl rfl rfl rfl rfl rfl Tryd.call33 (dk_crash d 41 lb lcap lcs1 uw1 (putK ((putK (newD 41) 0 20 1 s).sync.setFuse z0) 20 20 2 t) h1 _ _ _ _ _ _ ks hk) [0, 0, 0] [0] rfl rfl ?_
 rintro v post ⟨rfl, lcs1, h1, rfl⟩
 show G _ _ _ [_, _, _, _] _
 refine G_call (L2 := [_, _, _, _]) rfl rfl rfl rfl rfl rfl Tryd.call19 (sl_num _) [] [] rfl rfl ?_
 rintro v post ⟨rfl, rfl⟩
 show G _ _ _ [_, _, _, _] _
 refine G_val rfl rfl rfl rfl (V_assign rfl rfl) ?_
 refine G_done ?_
 refine G_seq ?_
 obtain ⟨g1, g2⟩ := first_got hs9 h1.ok hF4
 refine G_region (l := [0, 1, 2, 3, 4, 5, 6, 7, 8]) rfl ?_
 refine G_val rfl rfl rfl rfl (V_move rfl rfl) ?_
 refine G_val rfl rfl rfl rfl (V_move rfl rfl) ?_
 refine G_val rfl rfl rfl rfl (V_slen rfl rfl Tryd.underlying9 rfl) ?_
 refine G_call (L2 := [_, _, _, _]) rfl rfl rfl rfl rfl rfl Tryd.call21 ((sn_get d 41 lb lcap lcs1 slNil ((putK ((putK (newD 41) 0 20 1 s).sync.setFuse z0) 20 20 2 t).crash ks) h1 0 20 1 (by omega) (by omega) (by omega) (by omega) (by omega) (s.length : Int) (by omega) hF4.alive).weaken (fun v post h => by rw [g1, g2] at h; exact h)) [] [1, 2, 3] rfl rfl ?_
 rintro v post ⟨rfl, rfl⟩
 show G _ _ _ [_, _, _, _] _
 refine G_val rfl rfl rfl rfl (V_move rfl rfl) ?_
 refine G_val rfl rfl rfl rfl (V_extract rfl rfl rfl) ?_
 refine G_val rfl rfl rfl rfl (V_extract rfl rfl rfl) ?_
 refine G_val rfl rfl rfl rfl (V_assign rfl rfl) ?_
 refine G_val rfl rfl rfl rfl (V_assign rfl rfl) ?_
 refine G_done ?_
 refine G_seq ?_
 refine G_seq ?_
 refine G_region (l := [0, 1, 2, 3, 4, 5, 6, 7, 8, 9, 10, 11, 12, 13, 14, 15, 16, 17, 18, 19]) rfl ?_
 refine G_val rfl rfl rfl rfl (V_move rfl rfl) ?_
 refine G_val rfl rfl rfl rfl (V_neq rfl rfl rfl) ?_
 refine G_val rfl rfl rfl rfl (V_move rfl rfl) ?_
 refine G_splitD 68 rfl (fun hc4 => ?_) (fun hc4 => ?_)
 · (first | (exact absurd rfl hc4) | (exfalso; omega))
 refine G_val rfl rfl rfl rfl (V_move rfl rfl) ?_
 refine G_val rfl rfl rfl rfl (V_neq rfl rfl rfl) ?_
 refine G_val rfl rfl rfl rfl (V_pickF rfl rfl rfl) ?_
 refine G_val rfl rfl rfl rfl (V_move rfl rfl) ?_
 refine G_splitD 72 rfl (fun hc5 => ?_) (fun hc5 => ?_)
 · (first | (exact absurd rfl hc5) | (exfalso; omega))
 refine G_val rfl rfl rfl rfl (V_move rfl rfl) ?_
 refine G_val rfl rfl rfl rfl (V_neq rfl rfl rfl) ?_
 refine G_val rfl rfl rfl rfl (V_pickF rfl rfl rfl) ?_
 refine G_val rfl rfl rfl rfl (V_move rfl rfl) ?_
 refine G_splitD 76 rfl (fun hc6 => ?_) (fun hc6 => ?_)
 · (first | (exact absurd rfl hc6) | (exfalso; omega))
 refine G_val rfl rfl rfl rfl (V_move rfl rfl) ?_
 refine G_val rfl rfl rfl rfl (V_move rfl rfl) ?_
 refine G_val rfl rfl rfl rfl (V_sneq rfl rfl rfl) ?_
 refine G_val rfl rfl rfl rfl (V_pickF rfl rfl rfl) ?_
 refine G_val rfl rfl rfl rfl (V_move rfl rfl) ?_
 refine G_splitD 81 rfl (fun hc7 => ?_) (fun hc7 => ?_)
 · (first | (exact absurd rfl hc7) | (exfalso; omega))
 refine G_val rfl rfl rfl rfl (V_move rfl rfl) ?_
 refine G_call (L2 := [_, _, _, _]) rfl rfl rfl rfl rfl rfl Tryd.call19 (sl_num _) [] [] rfl rfl ?_
 rintro v post ⟨rfl, rfl⟩
 show G _ _ _ [_, _, _, _] _
 refine G_val rfl rfl rfl rfl (V_neq rfl rfl rfl) ?_
 refine G_val rfl rfl rfl rfl (V_pickF rfl rfl rfl) ?_
 refine G_done ?_
 refine G_ifD rfl (fun hc8 => ?_) (fun hc8 => ?_)
 · (first | (exact absurd rfl hc8) | (exfalso; omega))
 refine G_skip ?_
 refine G_seq ?_
 have hF5 := first_fuse hF4 z1
 refine G_region (l := [0, 1, 2, 3, 4]) rfl ?_
 refine G_val rfl rfl rfl rfl (V_move rfl rfl) ?_
 refine G_val rfl rfl rfl rfl (V_fieldAddr (fo := 2) rfl Tryd.underlying58 rfl infSnapFW_56 rfl rfl rfl) ?_
 refine G_val rfl rfl rfl rfl (V_aindexAddr rfl Tryd.underlying56 infSnapFW_3 rfl rfl rfl (by omega) (by omega)) ?_
 refine G_val rfl rfl rfl rfl (V_load1 rfl rfl (mem_at 4 rfl) rfl Tryd.underlying3 rfl) ?_
 refine G_call (L2 := [_, _, _]) rfl rfl rfl rfl rfl rfl Tryd.call32 (dk_fuse d 41 lb lcap lcs1 slNil ((putK ((putK (newD 41) 0 20 1 s).sync.setFuse z0) 20 20 2 t).crash ks) h1 z1) [0] [] rfl rfl ?_
 rintro v post ⟨rfl, rfl⟩
 show G _ _ _ [_, _, _, _] _
 replace h1 := setFuse_at h1 hz1
 refine G_done ?_
 refine G_seq ?_
 have ho5 := h1.ok
 refine G_region (l := [0, 1, 2]) rfl ?_
 refine G_val rfl rfl rfl rfl (V_move rfl rfl) ?_
 refine G_val rfl rfl rfl rfl (V_move rfl rfl) ?_
 refine G_call (L2 := [_]) rfl rfl rfl rfl rfl rfl Tryd.call23 (sn_put d 41 lb lcap lcs1 slNil (((putK ((putK (newD 41) 0 20 1 s).sync.setFuse z0) 20 20 2 t).crash ks).setFuse z1) h1 0 20 3 (by omega) (by omega) (by omega) (by omega) (by omega) t (by rw [hF5.nil]; simp) (by omega)) [0, 0, 0] [] rfl rfl ?_
 rintro v post ⟨rfl, lcs1, uw1, h1, rfl⟩
 show G _ _ _ [_, _, _, _] _
 refine G_done ?_
 refine G_seq ?_
 refine G_region (l := [0, 1, 2]) rfl ?_
 refine G_val rfl rfl rfl rfl (V_move rfl rfl) ?_
 refine G_val rfl rfl rfl rfl (V_move rfl rfl) ?_
 refine G_call (L2 := [_]) rfl rfl rfl rfl rfl rfl Tryd.call33 (dk_crash d 41 lb lcap lcs1 uw1 (putK (((putK ((putK (newD 41) 0 20 1 s).sync.setFuse z0) 20 20 2 t).crash ks).setFuse z1) 0 20 3 t) h1 _ _ _ _ _ _ ks hk) [0, 0, 0] [0] rfl rfl ?_
 rintro v post ⟨rfl, lcs1, h1, rfl⟩
 show G _ _ _ [_, _, _, _] _
 refine G_done ?_
 refine G_seq ?_
 have hnew := over_new ho5 hs9 ht9 hF5 ks
 have hold := over_old ho5 hs9 ht9 hF5 ks
 rcases hnew with ⟨n1, n2⟩ | n1
 · skip
   refine G_region (l := [0, 1, 2, 3, 4, 5, 6, 7, 8]) rfl ?_
   refine G_val rfl rfl rfl rfl (V_move rfl rfl) ?_
   refine G_val rfl rfl rfl rfl (V_move rfl rfl) ?_
   refine G_val rfl rfl rfl rfl (V_slen rfl rfl Tryd.underlying9 rfl) ?_
   refine G_call (L2 := [_, _, _, _]) rfl rfl rfl rfl rfl rfl Tryd.call21 ((sn_get d 41 lb lcap lcs1 slNil ((putK (((putK ((putK (newD 41) 0 20 1 s).sync.setFuse z0) 20 20 2 t).crash ks).setFuse z1) 0 20 3 t).crash ks) h1 0 20 3 (by omega) (by omega) (by omega) (by omega) (by omega) (t.length : Int) (by omega) rfl).weaken (fun v post h => by rw [n1, n2] at h; exact h)) [] [1, 2, 3] rfl rfl ?_
   rintro v post ⟨rfl, rfl⟩
   show G _ _ _ [_, _, _, _] _
   refine G_val rfl rfl rfl rfl (V_move rfl rfl) ?_
   refine G_val rfl rfl rfl rfl (V_extract rfl rfl rfl) ?_
   refine G_val rfl rfl rfl rfl (V_extract rfl rfl rfl) ?_
   refine G_val rfl rfl rfl rfl (V_assign rfl rfl) ?_
   refine G_val rfl rfl rfl rfl (V_assign rfl rfl) ?_
   refine G_done ?_
   refine G_seq ?_
   rcases hold with ⟨m1, m2⟩ | m1
   · skip
     refine G_region (l := [0, 1, 2, 3, 4, 5, 6, 7, 8]) rfl ?_
     refine G_val rfl rfl rfl rfl (V_move rfl rfl) ?_
     refine G_val rfl rfl rfl rfl (V_move rfl rfl) ?_
     refine G_val rfl rfl rfl rfl (V_slen rfl rfl Tryd.underlying9 rfl) ?_
     refine G_call (L2 := [_, _, _, _]) rfl rfl rfl rfl rfl rfl Tryd.call21 ((sn_get d 41 lb lcap lcs1 slNil ((putK (((putK ((putK (newD 41) 0 20 1 s).sync.setFuse z0) 20 20 2 t).crash ks).setFuse z1) 0 20 3 t).crash ks) h1 0 20 1 (by omega) (by omega) (by omega) (by omega) (by omega) (s.length : Int) (by omega) rfl).weaken (fun v post h => by rw [m1, m2] at h; exact h)) [] [1, 2, 3] rfl rfl ?_
     rintro v post ⟨rfl, rfl⟩
     show G _ _ _ [_, _, _, _] _
     refine G_val rfl rfl rfl rfl (V_move rfl rfl) ?_
     refine G_val rfl rfl rfl rfl (V_extract rfl rfl rfl) ?_
     refine G_val rfl rfl rfl rfl (V_extract rfl rfl rfl) ?_
     refine G_val rfl rfl rfl rfl (V_assign rfl rfl) ?_
     refine G_val rfl rfl rfl rfl (V_assign rfl rfl) ?_
     refine G_done ?_
     refine G_seq ?_
     refine G_seq ?_
     refine G_region (l := [0, 1, 2, 3, 4, 5, 6, 7, 8, 9, 10, 11, 12, 13, 14, 15, 16, 17]) rfl ?_
     refine G_val rfl rfl rfl rfl (V_move rfl rfl) ?_
     refine G_call (L2 := [_, _, _, _]) rfl rfl rfl rfl rfl rfl Tryd.call19 (sl_num _) [] [] rfl rfl ?_
     rintro v post ⟨rfl, rfl⟩
     show G _ _ _ [_, _, _, _] _
     refine G_val rfl rfl rfl rfl (V_eql rfl rfl rfl) ?_
     refine G_val rfl rfl rfl rfl (V_move rfl rfl) ?_
     refine G_splitD 114 rfl (fun hc9 => ?_) (fun hc9 => ?_)
     rotate_left
     · (first | (exact absurd rfl hc9) | (exfalso; omega))
     refine G_val rfl rfl rfl rfl (V_move rfl rfl) ?_
     refine G_val rfl rfl rfl rfl (V_move rfl rfl) ?_
     refine G_val rfl rfl rfl rfl (V_sneq rfl rfl rfl) ?_
     refine G_val rfl rfl rfl rfl (V_pickT rfl rfl rfl) ?_
     refine G_val rfl rfl rfl rfl (V_move rfl rfl) ?_
     refine G_splitD 119 rfl (fun hc10 => ?_) (fun hc10 => ?_)
     · (first | (exact absurd rfl hc10) | (exfalso; omega))
     refine G_val rfl rfl rfl rfl (V_move rfl rfl) ?_
     refine G_call (L2 := [_, _, _, _]) rfl rfl rfl rfl rfl rfl Tryd.call19 (sl_num _) [] [] rfl rfl ?_
     rintro v post ⟨rfl, rfl⟩
     show G _ _ _ [_, _, _, _] _
     refine G_val rfl rfl rfl rfl (V_neq rfl rfl rfl) ?_
     refine G_val rfl rfl rfl rfl (V_move rfl rfl) ?_
     refine G_splitD 123 rfl (fun hc11 => ?_) (fun hc11 => ?_)
     · (first | (exact absurd rfl hc11) | (exfalso; omega))
     refine G_off rfl rfl rfl rfl ?_
     refine G_off rfl rfl rfl rfl ?_
     refine G_off rfl rfl rfl rfl ?_
     refine G_val rfl rfl rfl rfl (V_pickF rfl rfl rfl) ?_
     refine G_val rfl rfl rfl rfl (V_pickF rfl rfl rfl) ?_
     refine G_done ?_
     refine G_else rfl ?_
     refine G_skip ?_
     refine G_seq ?_
     refine G_region (l := [0, 1, 2, 3, 4, 5, 6, 7, 8, 9, 10, 11, 12, 13, 14, 15, 16]) rfl ?_
     refine G_val rfl rfl rfl rfl (V_move rfl rfl) ?_
     refine G_call (L2 := [_, _, _, _]) rfl rfl rfl rfl rfl rfl Tryd.call19 (sl_num _) [] [] rfl rfl ?_
     rintro v post ⟨rfl, rfl⟩
     show G _ _ _ [_, _, _, _] _
     refine G_val rfl rfl rfl rfl (V_eql rfl rfl rfl) ?_
     refine G_val rfl rfl rfl rfl (V_move rfl rfl) ?_
     refine G_splitD 132 rfl (fun hc12 => ?_) (fun hc12 => ?_)
     rotate_left
     · (first | (exact absurd rfl hc12) | (exfalso; omega))
     refine G_val rfl rfl rfl rfl (V_move rfl rfl) ?_
     refine G_val rfl rfl rfl rfl (V_move rfl rfl) ?_
     refine G_val rfl rfl rfl rfl (V_seql rfl rfl rfl) ?_
     refine G_val rfl rfl rfl rfl (V_pickT rfl rfl rfl) ?_
     refine G_val rfl rfl rfl rfl (V_move rfl rfl) ?_
     refine G_splitD 137 rfl (fun hc13 => ?_) (fun hc13 => ?_)
     rotate_left
     · (first | (exact absurd rfl hc13) | (exfalso; omega))
     refine G_off rfl rfl rfl rfl ?_
     refine G_off rfl rfl rfl rfl ?_
     refine G_off rfl rfl rfl rfl ?_
     refine G_val rfl rfl rfl rfl (V_pickT rfl rfl rfl) ?_
     refine G_val rfl rfl rfl rfl (V_move rfl rfl) ?_
     refine G_call (L2 := [_, _, _, _]) rfl rfl rfl rfl rfl rfl Tryd.call16 (snl_live) [] [] rfl rfl ?_
     rintro v post ⟨rfl, rfl⟩
     show G _ _ _ [_, _, _, _] _
     refine G_val rfl rfl rfl rfl (V_pickT rfl rfl rfl) ?_
     refine G_val rfl rfl rfl rfl (V_assign rfl rfl) ?_
     refine G_done ?_
     refine G_ret (post := []) Tryd.func7 rfl (RVs_cons (RV_tmp rfl) RVs_nil) [] rfl ?_
     dsimp only [packed]
     exact ⟨rfl, rfl⟩
   · skip
     refine G_region (l := [0, 1, 2, 3, 4, 5, 6, 7, 8]) rfl ?_
     refine G_val rfl rfl rfl rfl (V_move rfl rfl) ?_
     refine G_val rfl rfl rfl rfl (V_move rfl rfl) ?_
     refine G_val rfl rfl rfl rfl (V_slen rfl rfl Tryd.underlying9 rfl) ?_
     refine G_call (L2 := [_, _, _, _]) rfl rfl rfl rfl rfl rfl Tryd.call21 ((sn_get d 41 lb lcap lcs1 slNil ((putK (((putK ((putK (newD 41) 0 20 1 s).sync.setFuse z0) 20 20 2 t).crash ks).setFuse z1) 0 20 3 t).crash ks) h1 0 20 1 (by omega) (by omega) (by omega) (by omega) (by omega) (s.length : Int) (by omega) rfl).weaken (fun v post h => by rw [m1] at h; exact h)) [] [1, 2, 3] rfl rfl ?_
     rintro v post ⟨rfl, rfl⟩
     show G _ _ _ [_, _, _, _] _
     refine G_val rfl rfl rfl rfl (V_move rfl rfl) ?_
     refine G_val rfl rfl rfl rfl (V_extract rfl rfl rfl) ?_
     refine G_val rfl rfl rfl rfl (V_extract rfl rfl rfl) ?_
     refine G_val rfl rfl rfl rfl (V_assign rfl rfl) ?_
     refine G_val rfl rfl rfl rfl (V_assign rfl rfl) ?_
     refine G_done ?_
     refine G_seq ?_
     refine G_seq ?_
     refine G_region (l := [0, 1, 2, 3, 4, 5, 6, 7, 8, 9, 10, 11, 12, 13, 14, 15, 16, 17]) rfl ?_
     refine G_val rfl rfl rfl rfl (V_move rfl rfl) ?_
     refine G_call (L2 := [_, _, _, _]) rfl rfl rfl rfl rfl rfl Tryd.call19 (sl_num _) [] [] rfl rfl ?_
     rintro v post ⟨rfl, rfl⟩
     show G _ _ _ [_, _, _, _] _
     refine G_val rfl rfl rfl rfl (V_eql rfl rfl rfl) ?_
     refine G_val rfl rfl rfl rfl (V_move rfl rfl) ?_
     refine G_splitD 114 rfl (fun hc9 => ?_) (fun hc9 => ?_)
     rotate_left
     · (first | (exact absurd rfl hc9) | (exfalso; omega))
     refine G_val rfl rfl rfl rfl (V_move rfl rfl) ?_
     refine G_val rfl rfl rfl rfl (V_move rfl rfl) ?_
     refine G_val rfl rfl rfl rfl (V_sneq rfl rfl rfl) ?_
     refine G_val rfl rfl rfl rfl (V_pickT rfl rfl rfl) ?_
     refine G_val rfl rfl rfl rfl (V_move rfl rfl) ?_
     refine G_splitD 119 rfl (fun hc10 => ?_) (fun hc10 => ?_)
     · (first | (exact absurd rfl hc10) | (exfalso; omega))
     refine G_val rfl rfl rfl rfl (V_move rfl rfl) ?_
     refine G_call (L2 := [_, _, _, _]) rfl rfl rfl rfl rfl rfl Tryd.call19 (sl_num _) [] [] rfl rfl ?_
     rintro v post ⟨rfl, rfl⟩
     show G _ _ _ [_, _, _, _] _
     refine G_val rfl rfl rfl rfl (V_neq rfl rfl rfl) ?_
     refine G_val rfl rfl rfl rfl (V_move rfl rfl) ?_
     refine G_splitD 123 rfl (fun hc11 => ?_) (fun hc11 => ?_)
     · (first | (exact absurd rfl hc11) | (exfalso; omega))
     refine G_off rfl rfl rfl rfl ?_
     refine G_off rfl rfl rfl rfl ?_
     refine G_off rfl rfl rfl rfl ?_
     refine G_val rfl rfl rfl rfl (V_pickF rfl rfl rfl) ?_
     refine G_val rfl rfl rfl rfl (V_pickF rfl rfl rfl) ?_
     refine G_done ?_
     refine G_else rfl ?_
     refine G_skip ?_
     refine G_seq ?_
     refine G_region (l := [0, 1, 2, 3, 4, 5, 6, 7, 8, 9, 10, 11, 12, 13, 14, 15, 16]) rfl ?_
     refine G_val rfl rfl rfl rfl (V_move rfl rfl) ?_
     refine G_call (L2 := [_, _, _, _]) rfl rfl rfl rfl rfl rfl Tryd.call19 (sl_num _) [] [] rfl rfl ?_
     rintro v post ⟨rfl, rfl⟩
     show G _ _ _ [_, _, _, _] _
     refine G_val rfl rfl rfl rfl (V_eql rfl rfl rfl) ?_
     refine G_val rfl rfl rfl rfl (V_move rfl rfl) ?_
     refine G_splitD 132 rfl (fun hc12 => ?_) (fun hc12 => ?_)
     · (first | (exact absurd rfl hc12) | (exfalso; omega))
     refine G_off rfl rfl rfl rfl ?_
     refine G_off rfl rfl rfl rfl ?_
     refine G_off rfl rfl rfl rfl ?_
     refine G_val rfl rfl rfl rfl (V_pickF rfl rfl rfl) ?_
     refine G_val rfl rfl rfl rfl (V_move rfl rfl) ?_
     refine G_val rfl rfl rfl rfl (V_move rfl rfl) ?_
     refine G_call (L2 := [_, _, _, _]) rfl rfl rfl rfl rfl rfl Tryd.call19 (sl_num _) [] [] rfl rfl ?_
     rintro v post ⟨rfl, rfl⟩
     show G _ _ _ [_, _, _, _] _
     refine G_val rfl rfl rfl rfl (V_eql rfl rfl rfl) ?_
     refine G_val rfl rfl rfl rfl (V_pickF rfl rfl rfl) ?_
     refine G_val rfl rfl rfl rfl (V_move rfl rfl) ?_
     refine G_splitD 142 rfl (fun hc13 => ?_) (fun hc13 => ?_)
     rotate_left
     · (first | (exact absurd rfl hc13) | (exfalso; omega))
     refine G_call (L2 := [_, _, _, _]) rfl rfl rfl rfl rfl rfl Tryd.call16 (snl_live) [] [] rfl rfl ?_
     rintro v post ⟨rfl, rfl⟩
     show G _ _ _ [_, _, _, _] _
     refine G_val rfl rfl rfl rfl (V_pickT rfl rfl rfl) ?_
     refine G_val rfl rfl rfl rfl (V_assign rfl rfl) ?_
     refine G_done ?_
     refine G_ret (post := []) Tryd.func7 rfl (RVs_cons (RV_tmp rfl) RVs_nil) [] rfl ?_
     dsimp only [packed]
     exact ⟨rfl, rfl⟩
 · skip
   refine G_region (l := [0, 1, 2, 3, 4, 5, 6, 7, 8]) rfl ?_
   refine G_val rfl rfl rfl rfl (V_move rfl rfl) ?_
   refine G_val rfl rfl rfl rfl (V_move rfl rfl) ?_
   refine G_val rfl rfl rfl rfl (V_slen rfl rfl Tryd.underlying9 rfl) ?_
   refine G_call (L2 := [_, _, _, _]) rfl rfl rfl rfl rfl rfl Tryd.call21 ((sn_get d 41 lb lcap lcs1 slNil ((putK (((putK ((putK (newD 41) 0 20 1 s).sync.setFuse z0) 20 20 2 t).crash ks).setFuse z1) 0 20 3 t).crash ks) h1 0 20 3 (by omega) (by omega) (by omega) (by omega) (by omega) (t.length : Int) (by omega) rfl).weaken (fun v post h => by rw [n1] at h; exact h)) [] [1, 2, 3] rfl rfl ?_
   rintro v post ⟨rfl, rfl⟩
   show G _ _ _ [_, _, _, _] _
   refine G_val rfl rfl rfl rfl (V_move rfl rfl) ?_
   refine G_val rfl rfl rfl rfl (V_extract rfl rfl rfl) ?_
   refine G_val rfl rfl rfl rfl (V_extract rfl rfl rfl) ?_
   refine G_val rfl rfl rfl rfl (V_assign rfl rfl) ?_
   refine G_val rfl rfl rfl rfl (V_assign rfl rfl) ?_
   refine G_done ?_
   refine G_seq ?_
   rcases hold with ⟨m1, m2⟩ | m1
   · skip
     refine G_region (l := [0, 1, 2, 3, 4, 5, 6, 7, 8]) rfl ?_
     refine G_val rfl rfl rfl rfl (V_move rfl rfl) ?_
     refine G_val rfl rfl rfl rfl (V_move rfl rfl) ?_
     refine G_val rfl rfl rfl rfl (V_slen rfl rfl Tryd.underlying9 rfl) ?_
     refine G_call (L2 := [_, _, _, _]) rfl rfl rfl rfl rfl rfl Tryd.call21 ((sn_get d 41 lb lcap lcs1 slNil ((putK (((putK ((putK (newD 41) 0 20 1 s).sync.setFuse z0) 20 20 2 t).crash ks).setFuse z1) 0 20 3 t).crash ks) h1 0 20 1 (by omega) (by omega) (by omega) (by omega) (by omega) (s.length : Int) (by omega) rfl).weaken (fun v post h => by rw [m1, m2] at h; exact h)) [] [1, 2, 3] rfl rfl ?_
     rintro v post ⟨rfl, rfl⟩
     show G _ _ _ [_, _, _, _] _
     refine G_val rfl rfl rfl rfl (V_move rfl rfl) ?_
     refine G_val rfl rfl rfl rfl (V_extract rfl rfl rfl) ?_
     refine G_val rfl rfl rfl rfl (V_extract rfl rfl rfl) ?_
     refine G_val rfl rfl rfl rfl (V_assign rfl rfl) ?_
     refine G_val rfl rfl rfl rfl (V_assign rfl rfl) ?_
     refine G_done ?_
     refine G_seq ?_
     refine G_seq ?_
     refine G_region (l := [0, 1, 2, 3, 4, 5, 6, 7, 8, 9, 10, 11, 12, 13, 14, 15, 16, 17]) rfl ?_
     refine G_val rfl rfl rfl rfl (V_move rfl rfl) ?_
     refine G_call (L2 := [_, _, _, _]) rfl rfl rfl rfl rfl rfl Tryd.call19 (sl_num _) [] [] rfl rfl ?_
     rintro v post ⟨rfl, rfl⟩
     show G _ _ _ [_, _, _, _] _
     refine G_val rfl rfl rfl rfl (V_eql rfl rfl rfl) ?_
     refine G_val rfl rfl rfl rfl (V_move rfl rfl) ?_
     refine G_splitD 114 rfl (fun hc9 => ?_) (fun hc9 => ?_)
     · (first | (exact absurd rfl hc9) | (exfalso; omega))
     refine G_off rfl rfl rfl rfl ?_
     refine G_off rfl rfl rfl rfl ?_
     refine G_off rfl rfl rfl rfl ?_
     refine G_val rfl rfl rfl rfl (V_pickF rfl rfl rfl) ?_
     refine G_val rfl rfl rfl rfl (V_move rfl rfl) ?_
     refine G_val rfl rfl rfl rfl (V_move rfl rfl) ?_
     refine G_call (L2 := [_, _, _, _]) rfl rfl rfl rfl rfl rfl Tryd.call19 (sl_num _) [] [] rfl rfl ?_
     rintro v post ⟨rfl, rfl⟩
     show G _ _ _ [_, _, _, _] _
     refine G_val rfl rfl rfl rfl (V_neq rfl rfl rfl) ?_
     refine G_val rfl rfl rfl rfl (V_move rfl rfl) ?_
     refine G_splitD 123 rfl (fun hc10 => ?_) (fun hc10 => ?_)
     rotate_left
     · (first | (exact absurd rfl hc10) | (exfalso; omega))
     refine G_val rfl rfl rfl rfl (V_move rfl rfl) ?_
     refine G_call (L2 := [_, _, _, _]) rfl rfl rfl rfl rfl rfl Tryd.call19 (sl_num _) [] [] rfl rfl ?_
     rintro v post ⟨rfl, rfl⟩
     show G _ _ _ [_, _, _, _] _
     refine G_val rfl rfl rfl rfl (V_neq rfl rfl rfl) ?_
     refine G_val rfl rfl rfl rfl (V_pickT rfl rfl rfl) ?_
     refine G_val rfl rfl rfl rfl (V_pickF rfl rfl rfl) ?_
     refine G_done ?_
     refine G_ifD rfl (fun hc11 => ?_) (fun hc11 => ?_)
     · (first | (exact absurd rfl hc11) | (exfalso; omega))
     refine G_skip ?_
     refine G_seq ?_
     refine G_region (l := [0, 1, 2, 3, 4, 5, 6, 7, 8, 9, 10, 11, 12, 13, 14, 15, 16]) rfl ?_
     refine G_val rfl rfl rfl rfl (V_move rfl rfl) ?_
     refine G_call (L2 := [_, _, _, _]) rfl rfl rfl rfl rfl rfl Tryd.call19 (sl_num _) [] [] rfl rfl ?_
     rintro v post ⟨rfl, rfl⟩
     show G _ _ _ [_, _, _, _] _
     refine G_val rfl rfl rfl rfl (V_eql rfl rfl rfl) ?_
     refine G_val rfl rfl rfl rfl (V_move rfl rfl) ?_
     refine G_splitD 132 rfl (fun hc12 => ?_) (fun hc12 => ?_)
     rotate_left
     · (first | (exact absurd rfl hc12) | (exfalso; omega))
     refine G_val rfl rfl rfl rfl (V_move rfl rfl) ?_
     refine G_val rfl rfl rfl rfl (V_move rfl rfl) ?_
     refine G_val rfl rfl rfl rfl (V_seql rfl rfl rfl) ?_
     refine G_val rfl rfl rfl rfl (V_pickT rfl rfl rfl) ?_
     refine G_val rfl rfl rfl rfl (V_move rfl rfl) ?_
     refine G_splitD 137 rfl (fun hc13 => ?_) (fun hc13 => ?_)
     rotate_left
     · (first | (exact absurd rfl hc13) | (exfalso; omega))
     refine G_off rfl rfl rfl rfl ?_
     refine G_off rfl rfl rfl rfl ?_
     refine G_off rfl rfl rfl rfl ?_
     refine G_val rfl rfl rfl rfl (V_pickT rfl rfl rfl) ?_
     refine G_val rfl rfl rfl rfl (V_move rfl rfl) ?_
     refine G_call (L2 := [_, _, _, _]) rfl rfl rfl rfl rfl rfl Tryd.call16 (snl_live) [] [] rfl rfl ?_
     rintro v post ⟨rfl, rfl⟩
     show G _ _ _ [_, _, _, _] _
     refine G_val rfl rfl rfl rfl (V_pickT rfl rfl rfl) ?_
     refine G_val rfl rfl rfl rfl (V_assign rfl rfl) ?_
     refine G_done ?_
     refine G_ret (post := []) Tryd.func7 rfl (RVs_cons (RV_tmp rfl) RVs_nil) [] rfl ?_
     dsimp only [packed]
     exact ⟨rfl, rfl⟩
   · skip
     refine G_region (l := [0, 1, 2, 3, 4, 5, 6, 7, 8]) rfl ?_
     refine G_val rfl rfl rfl rfl (V_move rfl rfl) ?_
     refine G_val rfl rfl rfl rfl (V_move rfl rfl) ?_
     refine G_val rfl rfl rfl rfl (V_slen rfl rfl Tryd.underlying9 rfl) ?_
     refine G_call (L2 := [_, _, _, _]) rfl rfl rfl rfl rfl rfl Tryd.call21 ((sn_get d 41 lb lcap lcs1 slNil ((putK (((putK ((putK (newD 41) 0 20 1 s).sync.setFuse z0) 20 20 2 t).crash ks).setFuse z1) 0 20 3 t).crash ks) h1 0 20 1 (by omega) (by omega) (by omega) (by omega) (by omega) (s.length : Int) (by omega) rfl).weaken (fun v post h => by rw [m1] at h; exact h)) [] [1, 2, 3] rfl rfl ?_
     rintro v post ⟨rfl, rfl⟩
     show G _ _ _ [_, _, _, _] _
     refine G_val rfl rfl rfl rfl (V_move rfl rfl) ?_
     refine G_val rfl rfl rfl rfl (V_extract rfl rfl rfl) ?_
     refine G_val rfl rfl rfl rfl (V_extract rfl rfl rfl) ?_
     refine G_val rfl rfl rfl rfl (V_assign rfl rfl) ?_
     refine G_val rfl rfl rfl rfl (V_assign rfl rfl) ?_
     refine G_done ?_
     refine G_seq ?_
     refine G_seq ?_
     refine G_region (l := [0, 1, 2, 3, 4, 5, 6, 7, 8, 9, 10, 11, 12, 13, 14, 15, 16, 17]) rfl ?_
     refine G_val rfl rfl rfl rfl (V_move rfl rfl) ?_
     refine G_call (L2 := [_, _, _, _]) rfl rfl rfl rfl rfl rfl Tryd.call19 (sl_num _) [] [] rfl rfl ?_
     rintro v post ⟨rfl, rfl⟩
     show G _ _ _ [_, _, _, _] _
     refine G_val rfl rfl rfl rfl (V_eql rfl rfl rfl) ?_
     refine G_val rfl rfl rfl rfl (V_move rfl rfl) ?_
     refine G_splitD 114 rfl (fun hc9 => ?_) (fun hc9 => ?_)
     · (first | (exact absurd rfl hc9) | (exfalso; omega))
     refine G_off rfl rfl rfl rfl ?_
     refine G_off rfl rfl rfl rfl ?_
     refine G_off rfl rfl rfl rfl ?_
     refine G_val rfl rfl rfl rfl (V_pickF rfl rfl rfl) ?_
     refine G_val rfl rfl rfl rfl (V_move rfl rfl) ?_
     refine G_val rfl rfl rfl rfl (V_move rfl rfl) ?_
     refine G_call (L2 := [_, _, _, _]) rfl rfl rfl rfl rfl rfl Tryd.call19 (sl_num _) [] [] rfl rfl ?_
     rintro v post ⟨rfl, rfl⟩
     show G _ _ _ [_, _, _, _] _
     refine G_val rfl rfl rfl rfl (V_neq rfl rfl rfl) ?_
     refine G_val rfl rfl rfl rfl (V_move rfl rfl) ?_
     refine G_splitD 123 rfl (fun hc10 => ?_) (fun hc10 => ?_)
     rotate_left
     · (first | (exact absurd rfl hc10) | (exfalso; omega))
     refine G_val rfl rfl rfl rfl (V_move rfl rfl) ?_
     refine G_call (L2 := [_, _, _, _]) rfl rfl rfl rfl rfl rfl Tryd.call19 (sl_num _) [] [] rfl rfl ?_
     rintro v post ⟨rfl, rfl⟩
     show G _ _ _ [_, _, _, _] _
     refine G_val rfl rfl rfl rfl (V_neq rfl rfl rfl) ?_
     refine G_val rfl rfl rfl rfl (V_pickT rfl rfl rfl) ?_
     refine G_val rfl rfl rfl rfl (V_pickF rfl rfl rfl) ?_
     refine G_done ?_
     refine G_ifD rfl (fun hc11 => ?_) (fun hc11 => ?_)
     · (first | (exact absurd rfl hc11) | (exfalso; omega))
     refine G_skip ?_
     refine G_seq ?_
     refine G_region (l := [0, 1, 2, 3, 4, 5, 6, 7, 8, 9, 10, 11, 12, 13, 14, 15, 16]) rfl ?_
     refine G_val rfl rfl rfl rfl (V_move rfl rfl) ?_
     refine G_call (L2 := [_, _, _, _]) rfl rfl rfl rfl rfl rfl Tryd.call19 (sl_num _) [] [] rfl rfl ?_
     rintro v post ⟨rfl, rfl⟩
     show G _ _ _ [_, _, _, _] _
     refine G_val rfl rfl rfl rfl (V_eql rfl rfl rfl) ?_
     refine G_val rfl rfl rfl rfl (V_move rfl rfl) ?_
     refine G_splitD 132 rfl (fun hc12 => ?_) (fun hc12 => ?_)
     · (first | (exact absurd rfl hc12) | (exfalso; omega))
     refine G_off rfl rfl rfl rfl ?_
     refine G_off rfl rfl rfl rfl ?_
     refine G_off rfl rfl rfl rfl ?_
     refine G_val rfl rfl rfl rfl (V_pickF rfl rfl rfl) ?_
     refine G_val rfl rfl rfl rfl (V_move rfl rfl) ?_
     refine G_val rfl rfl rfl rfl (V_move rfl rfl) ?_
     refine G_call (L2 := [_, _, _, _]) rfl rfl rfl rfl rfl rfl Tryd.call19 (sl_num _) [] [] rfl rfl ?_
     rintro v post ⟨rfl, rfl⟩
     show G _ _ _ [_, _, _, _] _
     refine G_val rfl rfl rfl rfl (V_eql rfl rfl rfl) ?_
     refine G_val rfl rfl rfl rfl (V_pickF rfl rfl rfl) ?_
     refine G_val rfl rfl rfl rfl (V_move rfl rfl) ?_
     refine G_splitD 142 rfl (fun hc13 => ?_) (fun hc13 => ?_)
     rotate_left
     · (first | (exact absurd rfl hc13) | (exfalso; omega))
     refine G_call (L2 := [_, _, _, _]) rfl rfl rfl rfl rfl rfl Tryd.call16 (snl_live) [] [] rfl rfl ?_
     rintro v post ⟨rfl, rfl⟩
     show G _ _ _ [_, _, _, _] _
     refine G_val rfl rfl rfl rfl (V_pickT rfl rfl rfl) ?_
     refine G_val rfl rfl rfl rfl (V_assign rfl rfl) ?_
     refine G_done ?_
     refine G_ret (post := []) Tryd.func7 rfl (RVs_cons (RV_tmp rfl) RVs_nil) [] rfl ?_
     dsimp only [packed]
     exact ⟨rfl, rfl⟩

end
end Go.Proofs.YtbblkgdejgoncaaDoor
