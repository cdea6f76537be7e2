/- The walk of the law SnapGets. -/
import Derived.Test.YtbblkgdejgoncaaDoorSnapG
set_option linter.unusedSimpArgs false
set_option linter.unusedVariables false
namespace Go.Proofs.YtbblkgdejgoncaaDoor
open Go Go.ChangeShapes Go.WideShapes Go.ChangeAt Go.RowKit

section
theorem infSnapGW_9 : Tryd.prog.info? 9 = some Tryd.t9 := by kernel_rfl
theorem infSnapGW_39 : Tryd.prog.info? 39 = some Tryd.t39 := by kernel_rfl

theorem three_ways (e z : Int) : e = 0 ∨ (¬ e = 0 ∧ 5000 < z) ∨ (¬ e = 0 ∧ ¬ 5000 < z) := by omega
attribute [local irreducible] getD_ gotT gotE getT getE layBs
set_option maxRecDepth 100000 in
set_option maxHeartbeats 4000000 in
theorem snapGets_all (o1 : Option Nat) (p1 q1 : Nat) (c1 : Array Value) (T1 : TypeId) (f1 : Nat × Nat) (l : List La) (hs : Sees 3 o1 p1 q1 c1 (l.flatMap laCells) l.length) (hok : ∀ x ∈ l, LaOk x) (e : Nat) (he : e < 4294967296) (z : Int) (hz0 : -9223372036854775808 ≤ z) (hz1 : z ≤ 9223372036854775807) :
    Ct Tryd.prog 4 [sv o1 p1 l.length q1, .int .u32 (e : Int), .int .i64 z] [(o1, .cells c1 T1 f1)] [] fun v post => v = .bool true ∧ post = [] := by
 have hk1 := hs.le
 have hk2 := hs.max
 refine ct_of Tryd.func4 rfl rfl (fun w0 => ?_)
 show G _ _ [(0, _), (1, _), (2, _)] _ _
 refine G_seq ?_
 refine G_region (l := [0]) rfl ?_
 refine G_val rfl rfl rfl rfl (V_assign rfl rfl) ?_
 refine G_done ?_
 refine G_seq ?_
 refine G_seq ?_
 refine G_region (l := [0, 1, 2, 3, 4, 5, 6, 7]) rfl ?_
 refine G_val rfl rfl rfl rfl (V_move rfl rfl) ?_
 refine G_val rfl rfl rfl rfl (V_len rfl rfl Tryd.underlying34 rfl) ?_
 refine G_val rfl rfl rfl rfl (V_gtr rfl rfl rfl) ?_
 refine G_val rfl rfl rfl rfl (V_move rfl rfl) ?_
 refine G_splitD 18 rfl (fun hc1 => ?_) (fun hc1 => ?_)
 · skip
   refine G_off rfl rfl rfl rfl ?_
   refine G_off rfl rfl rfl rfl ?_
   refine G_off rfl rfl rfl rfl ?_
   refine G_val rfl rfl rfl rfl (V_pickT rfl rfl rfl) ?_
   refine G_done ?_
   refine G_then rfl ?_
   refine G_seq ?_
   refine G_region (l := [0, 1]) rfl ?_
   refine G_call (L2 := []) rfl rfl rfl rfl rfl rfl Tryd.call16 (snl_live) [] [] rfl rfl ?_
   rintro v post ⟨rfl, rfl⟩
   refine G_val rfl rfl rfl rfl (V_assign rfl rfl) ?_
   refine G_done ?_
   refine G_ret (post := []) Tryd.func4 rfl (RVs_cons (RV_tmp rfl) RVs_nil) [] rfl ?_
   dsimp only [packed]
   exact ⟨rfl, rfl⟩
 refine G_val rfl rfl rfl rfl (V_move rfl rfl) ?_
 refine G_val rfl rfl rfl rfl (V_len rfl rfl Tryd.underlying34 rfl) ?_
 refine G_val rfl rfl rfl rfl (V_lss rfl rfl rfl) ?_
 refine G_val rfl rfl rfl rfl (V_pickF rfl rfl rfl) ?_
 refine G_done ?_
 refine G_ifD rfl (fun hc2 => ?_) (fun hc2 => ?_)
 · skip
   refine G_seq ?_
   refine G_region (l := [0, 1]) rfl ?_
   refine G_call (L2 := []) rfl rfl rfl rfl rfl rfl Tryd.call16 (snl_live) [] [] rfl rfl ?_
   rintro v post ⟨rfl, rfl⟩
   refine G_val rfl rfl rfl rfl (V_assign rfl rfl) ?_
   refine G_done ?_
   refine G_ret (post := []) Tryd.func4 rfl (RVs_cons (RV_tmp rfl) RVs_nil) [] rfl ?_
   dsimp only [packed]
   exact ⟨rfl, rfl⟩
 refine G_skip ?_
 refine G_seq ?_
 refine G_region (l := [0, 1, 2, 3, 4, 5, 6, 7, 8]) rfl ?_
 refine G_val rfl rfl rfl rfl (V_move rfl rfl) ?_
 refine G_val rfl rfl rfl rfl (V_len rfl rfl Tryd.underlying34 rfl) ?_
 refine G_val rfl rfl rfl rfl (Val.int (e' := ((l.length + 1 : Nat) : Int)) (V_add rfl rfl rfl) (by rw [wrap_i64 (by omega)]; omega)) ?_
 refine G_call (L2 := []) rfl rfl rfl rfl rfl rfl Tryd.call17 (dk_new (l.length + 1) (by omega) (by omega)) [] [] rfl rfl ?_
 rintro v post ⟨d, lb, lcap, lcs, rfl, h, rfl⟩
 show G _ _ _ [_, _, _] _
 refine G_val rfl rfl rfl rfl (V_move rfl rfl) ?_
 refine G_val rfl rfl rfl rfl (V_extract rfl rfl rfl) ?_
 refine G_val rfl rfl rfl rfl (V_extract rfl rfl rfl) ?_
 refine G_val rfl rfl rfl rfl (V_assign rfl rfl) ?_
 refine G_val rfl rfl rfl rfl (V_assign rfl rfl) ?_
 refine G_done ?_
 refine G_seq ?_
 refine G_region (l := [0, 1]) rfl ?_
 refine G_new rfl rfl rfl rfl (N_build0 rfl Tryd.underlying24 infSnapGW_9) (fun b31 => ?_)
 refine G_val rfl rfl rfl rfl (V_assign rfl rfl) ?_
 refine G_done ?_
 refine G_seq ?_
 refine G_seq ?_
 refine G_region (l := [0]) rfl ?_
 refine G_val rfl rfl rfl rfl (V_assign rfl rfl) ?_
 refine G_done ?_
 refine G_block ?_
 refine G_sub ?he6 [0, 0, 0, 0] ?hl6 (G_loop (X := Nat × Array Value × Sl × Sl) (fun x => match x with | ⟨i, cs, u, v⟩ => i ≤ l.length ∧ DkAt (getD_ l i) (l.length + 1) lb cs lcap u ∧ Own 1 v ((layBs (l.take i)).map strC) i) (fun x => match x with | ⟨i, cs, u, v⟩ => l.length - i) (fun x => match x with | ⟨i, cs, u, v⟩ => [(0, sv o1 p1 l.length q1), (1, .int .u32 (e : Int)), (2, .int .i64 z), (7, .pointer (some ⟨d, 0, none⟩)), (8, .int .i64 0), (9, v.v i), (10, .int .i64 (i : Int))]) (fun x => match x with | ⟨i, cs, u, v⟩ => [(v.ob, .cells v.cs 9 v.fz), (some d, .cells #[.slice (some ⟨lb, 0, none⟩) (l.length + 1) lcap, u.v (getD_ l i).W.length, .int .i64 (getD_ l i).fuse, .bool (getD_ l i).dead] 110 (0, 0)), (some lb, .cells cs 9 (0, 0)), (u.ob, .cells u.cs 116 u.fz)]) ?round6 (0, lcs, slNil, ⟨some b31, #[], (0, 0), 0⟩) ?h06)
 case he6 => exact (And.intro rfl (And.intro rfl (And.intro rfl (And.intro rfl (And.intro rfl (And.intro rfl (And.intro rfl trivial)))))))
 case hl6 => (dsimp only; rw [get_start]; exact ⟨_, rfl⟩)
 case h06 => exact ⟨Nat.zero_le _, by rw [get_start]; exact h, by rw [List.take_zero, layBs_nil]; exact own_empty 1 b31⟩
 case round6 =>
  intro x hJ ih
  try dsimp only at hJ ih
  obtain ⟨i, cs, u, v⟩ := x
  try dsimp only at hJ ih
  obtain ⟨hi, hu, hv⟩ := hJ
  show G _ _ [(0, sv o1 p1 l.length q1), (1, .int .u32 (e : Int)), (2, .int .i64 z), (7, .pointer (some ⟨d, 0, none⟩)), (8, .int .i64 0), (9, v.v i), (10, .int .i64 (i : Int))] [(v.ob, .cells v.cs 9 v.fz), (some d, .cells #[.slice (some ⟨lb, 0, none⟩) (l.length + 1) lcap, u.v (getD_ l i).W.length, .int .i64 (getD_ l i).fuse, .bool (getD_ l i).dead] 110 (0, 0)), (some lb, .cells cs 9 (0, 0)), (u.ob, .cells u.cs 116 u.fz)] _
  refine G_seq ?_
  refine G_seq ?_
  refine G_region (l := [0, 1, 2, 3]) rfl ?_
  refine G_val rfl rfl rfl rfl (V_move rfl rfl) ?_
  refine G_val rfl rfl rfl rfl (V_move rfl rfl) ?_
  refine G_val rfl rfl rfl rfl (V_len rfl rfl Tryd.underlying34 rfl) ?_
  refine G_val rfl rfl rfl rfl (V_lss rfl rfl rfl) ?_
  refine G_done ?_
  refine G_ifD rfl (fun hc3 => ?_) (fun hc3 => ?_)
  · skip
    refine G_skip ?_
    refine G_seq ?_
    refine G_block ?_
    refine G_seq ?_
    refine G_seq ?_
    obtain ⟨x, hx⟩ := getI (show i < l.length by omega)
    obtain ⟨b1, rfl⟩ := hs.isSome (by omega)
    have hxo := hok x (List.mem_of_getElem? hx)
    have hxd := hxo.d1
    obtain ⟨hg1, hg2⟩ := get_next hx
    have hgw := get_W l i (by omega)
    refine G_region (l := [0, 1, 2, 3, 4, 5, 6]) rfl ?_
    refine G_val rfl rfl rfl rfl (V_move rfl rfl) ?_
    refine G_val rfl rfl rfl rfl (V_move rfl rfl) ?_
    first
      | refine G_val rfl rfl rfl rfl (V_indexAddrN (s := 3) rfl Tryd.underlying34 infSnapGW_39 rfl rfl rfl rfl (by omega)) ?_
      | refine G_val rfl rfl rfl rfl (V_indexAddr (s := 3) rfl Tryd.underlying34 infSnapGW_39 rfl rfl rfl (by omega) (by first | omega | (simp [wCells, kCells, wCells, kCells, wCells, kCells, wCells, kCells, wCells, kCells, wCells, kCells, laCells, wCells, kCells, laCells]; done) | (simp [wCells, kCells, wCells, kCells, wCells, kCells, wCells, kCells, wCells, kCells, wCells, kCells, laCells, wCells, kCells, laCells]; omega) | (simp [wCells, kCells, wCells, kCells, wCells, kCells, wCells, kCells, wCells, kCells, wCells, kCells, laCells, wCells, kCells, laCells] at *; omega))) ?_
    refine G_val rfl rfl rfl rfl (V_fieldAddr (fo := _ + 2) rfl Tryd.underlying39 rfl infSnapGW_9 rfl rfl rfl) ?_
    refine G_val rfl rfl rfl rfl (V_load1 rfl rfl (mem_at 0 rfl) (nth_of (cell_at hs la_len hx 2 (by omega) rfl)) Tryd.underlying9 rfl) ?_
    refine G_val rfl rfl rfl rfl (V_slen rfl rfl Tryd.underlying9 rfl) ?_
    refine G_val rfl rfl rfl rfl (V_gtr rfl rfl rfl) ?_
    refine G_done ?_
    refine G_ifD rfl (fun hc4 => ?_) (fun hc4 => ?_)
    · skip
      refine G_seq ?_
      refine G_region (l := [0, 1]) rfl ?_
      refine G_call (L2 := [_, _, _, _]) rfl rfl rfl rfl rfl rfl Tryd.call16 (snl_live) [] [] rfl rfl ?_
      rintro v post ⟨rfl, rfl⟩
      show G _ _ _ [_, _, _, _] _
      refine G_val rfl rfl rfl rfl (V_assign rfl rfl) ?_
      refine G_done ?_
      refine G_ret (post := []) Tryd.func4 rfl (RVs_cons (RV_tmp rfl) RVs_nil) [] rfl ?_
      dsimp only [packed]
      exact ⟨rfl, rfl⟩
    refine G_skip ?_
    refine G_seq ?_
    refine G_region (l := [0, 1, 2, 3, 4, 5, 6, 7, 8]) rfl ?_
    refine G_val rfl rfl rfl rfl (V_move rfl rfl) ?_
    refine G_val rfl rfl rfl rfl (V_move rfl rfl) ?_
    refine G_val rfl rfl rfl rfl (V_move rfl rfl) ?_
    first
      | refine G_val rfl rfl rfl rfl (V_indexAddrN (s := 3) rfl Tryd.underlying34 infSnapGW_39 rfl rfl rfl rfl (by omega)) ?_
      | refine G_val rfl rfl rfl rfl (V_indexAddr (s := 3) rfl Tryd.underlying34 infSnapGW_39 rfl rfl rfl (by omega) (by first | omega | (simp [wCells, kCells, wCells, kCells, wCells, kCells, wCells, kCells, wCells, kCells, wCells, kCells, laCells, wCells, kCells, laCells]; done) | (simp [wCells, kCells, wCells, kCells, wCells, kCells, wCells, kCells, wCells, kCells, wCells, kCells, laCells, wCells, kCells, laCells]; omega) | (simp [wCells, kCells, wCells, kCells, wCells, kCells, wCells, kCells, wCells, kCells, wCells, kCells, laCells, wCells, kCells, laCells] at *; omega))) ?_
    refine G_val rfl rfl rfl rfl (V_loadA (s := 3) (vs := (laCells x).toArray) rfl rfl (mem_at 0 rfl) Tryd.underlying39 rfl infSnapGW_39 rfl (hs.elem la_len hx) (by first | rfl | (simp [bcells_length, wCells, kCells, wCells, kCells, wCells, kCells, wCells, kCells, wCells, kCells, wCells, kCells, laCells, wCells, kCells, laCells]; done) | (simp [bcells_length, wCells, kCells, wCells, kCells, wCells, kCells, wCells, kCells, wCells, kCells, wCells, kCells, laCells, wCells, kCells, laCells]; omega) | (simp [bcells_length, *, wCells, kCells, wCells, kCells, wCells, kCells, wCells, kCells, wCells, kCells, wCells, kCells, laCells, wCells, kCells, laCells]; done))) ?_
    refine G_call (L2 := [_, _, _, _]) rfl rfl rfl rfl rfl rfl Tryd.call18 (lay_block x hxo) [] [] rfl rfl ?_
    rintro v post ⟨rfl, rfl⟩
    show G _ _ _ [_, _, _, _] _
    refine G_new rfl rfl rfl rfl (N_buildAll (s := 1) (cs := [_]) rfl Tryd.underlying24 infSnapGW_9 rfl rfl rfl rfl rfl rfl rfl rfl rfl) (fun b52 => ?_)
    refine G_append (l1 := [_]) (s := v) (nn := i) (m := 1) (news := [strC (layB x)]) (bt := 16) rfl rfl rfl rfl Tryd.underlying24 Tryd.underlying24 (by first | exact .inl rfl | exact .inr ⟨_, rfl⟩) infSnapGW_9 rfl rfl rfl rfl rfl rfl hv rfl (src_mem (mem_at 1 rfl) rfl rfl (by simp [strC, Value.oneCell'])) (by omega) (by omega) ?_
    intro v1 hv1 _
    show G _ _ _ [_, _, _, _, _] _
    rw [layBs_next hx] at hv1
    obtain ⟨vo, vcs, vfz, vcap⟩ := v1
    obtain ⟨vb, hvb⟩ := hv1.isSome (by omega)
    simp only at hvb
    subst hvb
    refine G_val rfl rfl rfl rfl (V_assign rfl rfl) ?_
    refine G_done ?_
    refine G_seq ?_
    refine G_region (l := [0, 1, 2, 3, 4, 5, 6, 7, 8, 9]) rfl ?_
    refine G_val rfl rfl rfl rfl (V_move rfl rfl) ?_
    refine G_val rfl rfl rfl rfl (V_move rfl rfl) ?_
    first
      | refine G_val rfl rfl rfl rfl ((V_add rfl rfl rfl).int (wrap_i64 (by omega))) ?_
      | refine G_val rfl rfl rfl rfl (V_add rfl rfl rfl) ?_
    refine G_val rfl rfl rfl rfl (V_move rfl rfl) ?_
    refine G_val rfl rfl rfl rfl (V_move rfl rfl) ?_
    first
      | refine G_val rfl rfl rfl rfl (V_indexAddrN (s := 1) rfl Tryd.underlying24 infSnapGW_9 rfl rfl rfl rfl (by omega)) ?_
      | refine G_val rfl rfl rfl rfl (V_indexAddr (s := 1) rfl Tryd.underlying24 infSnapGW_9 rfl rfl rfl (by omega) (by first | omega | (simp [wCells, kCells, wCells, kCells, wCells, kCells, wCells, kCells, wCells, kCells, wCells, kCells, laCells, wCells, kCells, laCells]; done) | (simp [wCells, kCells, wCells, kCells, wCells, kCells, wCells, kCells, wCells, kCells, wCells, kCells, laCells, wCells, kCells, laCells]; omega) | (simp [wCells, kCells, wCells, kCells, wCells, kCells, wCells, kCells, wCells, kCells, wCells, kCells, laCells, wCells, kCells, laCells] at *; omega))) ?_
    refine G_val rfl rfl rfl rfl (V_load1 rfl rfl (mem_at 2 rfl) (nth_of (show vcs[0 + i * 1]? = some (strC (layB x)) by rw [Nat.zero_add, Nat.mul_one]; exact hv1.nth (layBs_at hx))) Tryd.underlying9 rfl) ?_
    refine G_call (L2 := [_, _]) rfl rfl rfl rfl rfl rfl Tryd.call20 ((dk_write d (l.length + 1) lb lcap cs u (getD_ l i) hu (1 + (i : Int)) (layB x) (by omega)).weaken (fun v post h => by rw [← hg1, hg2] at h; exact h)) [2, 2, 2] [] rfl rfl ?_
    rintro v post ⟨rfl, lcs1, uw1, h1, rfl⟩
    show G _ _ _ [_, _, _, _, _] _
    refine G_call (L2 := [_, _, _, _, _]) rfl rfl rfl rfl rfl rfl Tryd.call19 (sl_num _) [] [] rfl rfl ?_
    rintro v post ⟨rfl, rfl⟩
    show G _ _ _ [_, _, _, _, _] _
    refine G_val rfl rfl rfl rfl (V_neq rfl rfl rfl) ?_
    refine G_done ?_
    refine G_ifD rfl (fun hc5 => ?_) (fun hc5 => ?_)
    · (first | (exact absurd rfl hc5) | (exfalso; omega))
    refine G_skip ?_
    refine G_inBlock ?_
    refine G_region (l := [0, 1, 2]) rfl ?_
    refine G_val rfl rfl rfl rfl (V_move rfl rfl) ?_
    first
      | refine G_val rfl rfl rfl rfl ((V_add rfl rfl rfl).int (wrap_i64 (by omega))) ?_
      | refine G_val rfl rfl rfl rfl (V_add rfl rfl rfl) ?_
    refine G_val rfl rfl rfl rfl (V_assign rfl rfl) ?_
    refine G_done ?_
    refine G_sub ?_ [4, 0, 0, 0] ?_ (ih (i + 1, lcs1, uw1, ⟨some vb, vcs, vfz, vcap⟩) ?_ ?_)
    · (refine (And.intro ?_ (And.intro ?_ (And.intro ?_ (And.intro ?_ (And.intro ?_ (And.intro ?_ (And.intro ?_ trivial))))))) <;> first | rfl | exact slot_int (by omega) | exact slot_int (by simp))
    · exact ⟨_, rfl⟩
    · exact ⟨by omega, h1, hv1⟩
    · (first | omega | (dsimp only; omega))
  refine G_exit rfl ?_
  refine G_seq ?_
  obtain rfl : i = l.length := by omega
  obtain ⟨hd1, hd2, hd3⟩ := get_all l (by omega) (by omega)
  rw [List.take_length] at hv
  rcases three_ways (e : Int) z with he0 | ⟨he0, hzb⟩ | ⟨he0, hzb⟩
  · skip
    refine G_region (l := [0, 1, 2, 3, 4, 5, 6, 7, 8, 9, 10]) rfl ?_
    refine G_val rfl rfl rfl rfl (V_move rfl rfl) ?_
    refine G_val rfl rfl rfl rfl (V_move rfl rfl) ?_
    refine G_val rfl rfl rfl rfl (V_len rfl rfl Tryd.underlying34 rfl) ?_
    refine G_val rfl rfl rfl rfl (V_move rfl rfl) ?_
    refine G_val rfl rfl rfl rfl (V_move rfl rfl) ?_
    refine G_call (L2 := [_, _, _, _]) rfl rfl rfl rfl rfl rfl Tryd.call21 ((sn_get d (l.length + 1) lb lcap cs u (getD_ l l.length) hu 1 (l.length : Int) e (by omega) (by omega) (by omega) (by omega) he z hz1 hd1).weaken (fun v post h => by rw [show e = 0 by omega, (gets_0 l z).1, (gets_0 l z).2] at h; exact h)) [] [2, 3, 4] rfl rfl ?_
    rintro v post ⟨rfl, rfl⟩
    show G _ _ _ [_, _, _, _] _
    refine G_val rfl rfl rfl rfl (V_move rfl rfl) ?_
    refine G_val rfl rfl rfl rfl (V_extract rfl rfl rfl) ?_
    refine G_val rfl rfl rfl rfl (V_extract rfl rfl rfl) ?_
    refine G_val rfl rfl rfl rfl (V_assign rfl rfl) ?_
    refine G_val rfl rfl rfl rfl (V_assign rfl rfl) ?_
    refine G_done ?_
    refine G_seq ?_
    refine G_seq ?_
    refine G_region (l := [0, 1]) rfl ?_
    refine G_val rfl rfl rfl rfl (V_move rfl rfl) ?_
    refine G_val rfl rfl rfl rfl (V_eql rfl rfl rfl) ?_
    refine G_done ?_
    refine G_ifD rfl (fun hc4 => ?_) (fun hc4 => ?_)
    rotate_left
    · (first | (exact absurd rfl hc4) | (exfalso; omega))
    refine G_seq ?_
    refine G_region (l := [0, 1, 2, 3, 4, 5, 6, 7, 8, 9, 10]) rfl ?_
    refine G_val rfl rfl rfl rfl (V_move rfl rfl) ?_
    refine G_call (L2 := [_, _, _, _]) rfl rfl rfl rfl rfl rfl Tryd.call19 (sl_num _) [] [] rfl rfl ?_
    rintro v post ⟨rfl, rfl⟩
    show G _ _ _ [_, _, _, _] _
    refine G_val rfl rfl rfl rfl (V_eql rfl rfl rfl) ?_
    refine G_val rfl rfl rfl rfl (V_move rfl rfl) ?_
    refine G_splitD 78 rfl (fun hc5 => ?_) (fun hc5 => ?_)
    rotate_left
    · (first | (exact absurd rfl hc5) | (exfalso; omega))
    refine G_val rfl rfl rfl rfl (V_move rfl rfl) ?_
    refine G_val rfl rfl rfl rfl (V_seql rfl rfl rfl) ?_
    refine G_val rfl rfl rfl rfl (V_pickT rfl rfl rfl) ?_
    refine G_val rfl rfl rfl rfl (V_move rfl rfl) ?_
    refine G_splitD 82 rfl (fun hc6 => ?_) (fun hc6 => ?_)
    rotate_left
    · (first | (exact absurd rfl hc6) | (exfalso; omega))
    refine G_call (L2 := [_, _, _, _]) rfl rfl rfl rfl rfl rfl Tryd.call16 (snl_live) [] [] rfl rfl ?_
    rintro v post ⟨rfl, rfl⟩
    show G _ _ _ [_, _, _, _] _
    refine G_val rfl rfl rfl rfl (V_pickT rfl rfl rfl) ?_
    refine G_val rfl rfl rfl rfl (V_assign rfl rfl) ?_
    refine G_done ?_
    refine G_ret (post := []) Tryd.func4 rfl (RVs_cons (RV_tmp rfl) RVs_nil) [] rfl ?_
    dsimp only [packed]
    exact ⟨rfl, rfl⟩
  · skip
    refine G_region (l := [0, 1, 2, 3, 4, 5, 6, 7, 8, 9, 10]) rfl ?_
    refine G_val rfl rfl rfl rfl (V_move rfl rfl) ?_
    refine G_val rfl rfl rfl rfl (V_move rfl rfl) ?_
    refine G_val rfl rfl rfl rfl (V_len rfl rfl Tryd.underlying34 rfl) ?_
    refine G_val rfl rfl rfl rfl (V_move rfl rfl) ?_
    refine G_val rfl rfl rfl rfl (V_move rfl rfl) ?_
    refine G_call (L2 := [_, _, _, _]) rfl rfl rfl rfl rfl rfl Tryd.call21 ((sn_get d (l.length + 1) lb lcap cs u (getD_ l l.length) hu 1 (l.length : Int) e (by omega) (by omega) (by omega) (by omega) he z hz1 hd1).weaken (fun v post h => by rw [(gets_2 l (by omega) (by omega) he0 hzb).1, (gets_2 l (by omega) (by omega) he0 hzb).2] at h; exact h)) [] [2, 3, 4] rfl rfl ?_
    rintro v post ⟨rfl, rfl⟩
    show G _ _ _ [_, _, _, _] _
    refine G_val rfl rfl rfl rfl (V_move rfl rfl) ?_
    refine G_val rfl rfl rfl rfl (V_extract rfl rfl rfl) ?_
    refine G_val rfl rfl rfl rfl (V_extract rfl rfl rfl) ?_
    refine G_val rfl rfl rfl rfl (V_assign rfl rfl) ?_
    refine G_val rfl rfl rfl rfl (V_assign rfl rfl) ?_
    refine G_done ?_
    refine G_seq ?_
    refine G_seq ?_
    refine G_region (l := [0, 1]) rfl ?_
    refine G_val rfl rfl rfl rfl (V_move rfl rfl) ?_
    refine G_val rfl rfl rfl rfl (V_eql rfl rfl rfl) ?_
    refine G_done ?_
    refine G_ifD rfl (fun hc4 => ?_) (fun hc4 => ?_)
    · (first | (exact absurd rfl hc4) | (exfalso; omega))
    refine G_skip ?_
    refine G_seq ?_
    refine G_seq ?_
    refine G_region (l := [0, 1]) rfl ?_
    refine G_val rfl rfl rfl rfl (V_move rfl rfl) ?_
    refine G_val rfl rfl rfl rfl (V_gtr rfl rfl rfl) ?_
    refine G_done ?_
    refine G_ifD rfl (fun hc5 => ?_) (fun hc5 => ?_)
    rotate_left
    · (first | (exact absurd rfl hc5) | (exfalso; omega))
    refine G_seq ?_
    refine G_region (l := [0, 1, 2, 3, 4, 5, 6, 7, 8, 9, 10]) rfl ?_
    refine G_val rfl rfl rfl rfl (V_move rfl rfl) ?_
    refine G_call (L2 := [_, _, _, _]) rfl rfl rfl rfl rfl rfl Tryd.call19 (sl_num _) [] [] rfl rfl ?_
    rintro v post ⟨rfl, rfl⟩
    show G _ _ _ [_, _, _, _] _
    refine G_val rfl rfl rfl rfl (V_eql rfl rfl rfl) ?_
    refine G_val rfl rfl rfl rfl (V_move rfl rfl) ?_
    refine G_splitD 90 rfl (fun hc6 => ?_) (fun hc6 => ?_)
    rotate_left
    · (first | (exact absurd rfl hc6) | (exfalso; omega))
    refine G_val rfl rfl rfl rfl (V_move rfl rfl) ?_
    refine G_val rfl rfl rfl rfl (V_seql rfl rfl rfl) ?_
    refine G_val rfl rfl rfl rfl (V_pickT rfl rfl rfl) ?_
    refine G_val rfl rfl rfl rfl (V_move rfl rfl) ?_
    refine G_splitD 94 rfl (fun hc7 => ?_) (fun hc7 => ?_)
    rotate_left
    · (first | (exact absurd rfl hc7) | (exfalso; omega))
    refine G_call (L2 := [_, _, _, _]) rfl rfl rfl rfl rfl rfl Tryd.call16 (snl_live) [] [] rfl rfl ?_
    rintro v post ⟨rfl, rfl⟩
    show G _ _ _ [_, _, _, _] _
    refine G_val rfl rfl rfl rfl (V_pickT rfl rfl rfl) ?_
    refine G_val rfl rfl rfl rfl (V_assign rfl rfl) ?_
    refine G_done ?_
    refine G_ret (post := []) Tryd.func4 rfl (RVs_cons (RV_tmp rfl) RVs_nil) [] rfl ?_
    dsimp only [packed]
    exact ⟨rfl, rfl⟩
  · skip
    refine G_region (l := [0, 1, 2, 3, 4, 5, 6, 7, 8, 9, 10]) rfl ?_
    refine G_val rfl rfl rfl rfl (V_move rfl rfl) ?_
    refine G_val rfl rfl rfl rfl (V_move rfl rfl) ?_
    refine G_val rfl rfl rfl rfl (V_len rfl rfl Tryd.underlying34 rfl) ?_
    refine G_val rfl rfl rfl rfl (V_move rfl rfl) ?_
    refine G_val rfl rfl rfl rfl (V_move rfl rfl) ?_
    refine G_call (L2 := [_, _, _, _]) rfl rfl rfl rfl rfl rfl Tryd.call21 ((sn_get d (l.length + 1) lb lcap cs u (getD_ l l.length) hu 1 (l.length : Int) e (by omega) (by omega) (by omega) (by omega) he z hz1 hd1).weaken (fun v post h => by rw [(gets_1 l (by omega) (by omega) he0 z).1, (gets_1 l (by omega) (by omega) he0 z).2] at h; exact h)) [] [2, 3, 4] rfl rfl ?_
    rintro v post ⟨rfl, rfl⟩
    show G _ _ _ [_, _, _, _] _
    refine G_val rfl rfl rfl rfl (V_move rfl rfl) ?_
    refine G_val rfl rfl rfl rfl (V_extract rfl rfl rfl) ?_
    refine G_val rfl rfl rfl rfl (V_extract rfl rfl rfl) ?_
    refine G_val rfl rfl rfl rfl (V_assign rfl rfl) ?_
    refine G_val rfl rfl rfl rfl (V_assign rfl rfl) ?_
    refine G_done ?_
    refine G_seq ?_
    refine G_seq ?_
    refine G_region (l := [0, 1]) rfl ?_
    refine G_val rfl rfl rfl rfl (V_move rfl rfl) ?_
    refine G_val rfl rfl rfl rfl (V_eql rfl rfl rfl) ?_
    refine G_done ?_
    refine G_ifD rfl (fun hc4 => ?_) (fun hc4 => ?_)
    · (first | (exact absurd rfl hc4) | (exfalso; omega))
    refine G_skip ?_
    refine G_seq ?_
    refine G_seq ?_
    refine G_region (l := [0, 1]) rfl ?_
    refine G_val rfl rfl rfl rfl (V_move rfl rfl) ?_
    refine G_val rfl rfl rfl rfl (V_gtr rfl rfl rfl) ?_
    refine G_done ?_
    refine G_ifD rfl (fun hc5 => ?_) (fun hc5 => ?_)
    · (first | (exact absurd rfl hc5) | (exfalso; omega))
    refine G_skip ?_
    refine G_seq ?_
    refine G_region (l := [0, 1, 2, 3, 4, 5, 6, 7, 8]) rfl ?_
    refine G_val rfl rfl rfl rfl (V_move rfl rfl) ?_
    refine G_val rfl rfl rfl rfl (V_move rfl rfl) ?_
    refine G_val rfl rfl rfl rfl (V_move rfl rfl) ?_
    refine G_call (L2 := [_, _, _, _]) rfl rfl rfl rfl rfl rfl Tryd.call22 (rsn_getL l v hv (by omega) e z he (by omega)) [] [1] rfl rfl ?_
    rintro v post ⟨rfl, rfl⟩
    show G _ _ _ [_, _, _, _] _
    refine G_val rfl rfl rfl rfl (V_move rfl rfl) ?_
    refine G_val rfl rfl rfl rfl (V_extract rfl rfl rfl) ?_
    refine G_val rfl rfl rfl rfl (V_extract rfl rfl rfl) ?_
    refine G_val rfl rfl rfl rfl (V_assign rfl rfl) ?_
    refine G_val rfl rfl rfl rfl (V_assign rfl rfl) ?_
    refine G_done ?_
    refine G_seq ?_
    refine G_region (l := [0, 1, 2, 3, 4, 5, 6, 7, 8, 9, 10, 11, 12, 13, 14, 15, 16, 17]) rfl ?_
    refine G_val rfl rfl rfl rfl (V_move rfl rfl) ?_
    refine G_call (L2 := [_, _, _, _]) rfl rfl rfl rfl rfl rfl Tryd.call19 (sl_num _) [] [] rfl rfl ?_
    rintro v post ⟨rfl, rfl⟩
    show G _ _ _ [_, _, _, _] _
    refine G_val rfl rfl rfl rfl (V_eql rfl rfl rfl) ?_
    refine G_val rfl rfl rfl rfl (V_move rfl rfl) ?_
    refine G_splitD 107 rfl (fun hc6 => ?_) (fun hc6 => ?_)
    rotate_left
    · (first | (exact absurd rfl hc6) | (exfalso; omega))
    refine G_val rfl rfl rfl rfl (V_move rfl rfl) ?_
    refine G_val rfl rfl rfl rfl (V_move rfl rfl) ?_
    refine G_val rfl rfl rfl rfl (V_seql rfl rfl rfl) ?_
    refine G_val rfl rfl rfl rfl (V_pickT rfl rfl rfl) ?_
    refine G_val rfl rfl rfl rfl (V_move rfl rfl) ?_
    refine G_splitD 112 rfl (fun hc7 => ?_) (fun hc7 => ?_)
    rotate_left
    · (first | (exact absurd rfl hc7) | (exfalso; omega))
    refine G_val rfl rfl rfl rfl (V_move rfl rfl) ?_
    refine G_call (L2 := [_, _, _, _]) rfl rfl rfl rfl rfl rfl Tryd.call19 (sl_num _) [] [] rfl rfl ?_
    rintro v post ⟨rfl, rfl⟩
    show G _ _ _ [_, _, _, _] _
    refine G_val rfl rfl rfl rfl (V_move rfl rfl) ?_
    refine G_val rfl rfl rfl rfl (V_eql rfl rfl rfl) ?_
    refine G_val rfl rfl rfl rfl (V_pickT rfl rfl rfl) ?_
    refine G_val rfl rfl rfl rfl (V_move rfl rfl) ?_
    refine G_splitD 118 rfl (fun hc8 => ?_) (fun hc8 => ?_)
    rotate_left
    · (first | (exact absurd rfl hc8) | (exfalso; omega))
    refine G_call (L2 := [_, _, _, _]) rfl rfl rfl rfl rfl rfl Tryd.call16 (snl_live) [] [] rfl rfl ?_
    rintro v post ⟨rfl, rfl⟩
    show G _ _ _ [_, _, _, _] _
    refine G_val rfl rfl rfl rfl (V_pickT rfl rfl rfl) ?_
    refine G_val rfl rfl rfl rfl (V_assign rfl rfl) ?_
    refine G_done ?_
    refine G_ret (post := []) Tryd.func4 rfl (RVs_cons (RV_tmp rfl) RVs_nil) [] rfl ?_
    dsimp only [packed]
    exact ⟨rfl, rfl⟩

end
end Go.Proofs.YtbblkgdejgoncaaDoor
