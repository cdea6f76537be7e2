/- The walks of layer 22, on: a crash, a new disk. -/
import Derived.Test.YtbblkgdejgoncaaDoorDiskX
import Derived.Test.YtbblkgdejgoncaaDoorRep
set_option linter.unusedSimpArgs false
set_option linter.unusedVariables false
namespace Go.Proofs.YtbblkgdejgoncaaDoor
open Go Go.RowKit

section
theorem infDiskY_3 : Tryd.prog.info? 3 = some Tryd.t3 := by kernel_rfl
theorem infDiskY_4 : Tryd.prog.info? 4 = some Tryd.t4 := by kernel_rfl
theorem infDiskY_9 : Tryd.prog.info? 9 = some Tryd.t9 := by kernel_rfl
theorem infDiskY_24 : Tryd.prog.info? 24 = some Tryd.t24 := by kernel_rfl
theorem infDiskY_108 : Tryd.prog.info? 108 = some Tryd.t108 := by kernel_rfl
theorem infDiskY_110 : Tryd.prog.info? 110 = some Tryd.t110 := by kernel_rfl
theorem infDiskY_116 : Tryd.prog.info? 116 = some Tryd.t116 := by kernel_rfl
theorem infDiskY_132 : Tryd.prog.info? 132 = some Tryd.t132 := by kernel_rfl
theorem plcDiskY_110 : placesOf Tryd.prog (Tryd.prog.fieldsOf 110) = some [(0, 1), (1, 1), (2, 1), (3, 1)] := by kernel_rfl

set_option maxRecDepth 100000 in
set_option maxHeartbeats 1000000 in
theorem dk_crash (d n lb lcap : Nat) (lcs : Array Value) (uw : Sl) (k : Dk) (h : DkAt k n lb lcs lcap uw) (o1 : Option Nat) (p1 q1 : Nat) (c1 : Array Value) (T1 : TypeId) (f1 : Nat × Nat) (ks : List (Int × Int)) (hs : Sees 2 o1 p1 q1 c1 (ks.flatMap kCells) ks.length) :
    Ct Tryd.prog 33 [.pointer (some ⟨d, 0, none⟩), sv o1 p1 ks.length q1] [(o1, .cells c1 T1 f1)] [(some d, .cells #[.slice (some ⟨lb, 0, none⟩) n lcap, uw.v k.W.length, .int .i64 k.fuse, .bool k.dead] 110 (0, 0)), (some lb, .cells lcs 9 (0, 0)), (uw.ob, .cells uw.cs 116 uw.fz)] fun v post => v = .int .i64 0 ∧ ∃ lcs1, DkAt (k.crash ks) n lb lcs1 lcap slNil ∧ post = [(some d, .cells #[.slice (some ⟨lb, 0, none⟩) n lcap, slNil.v (k.crash ks).W.length, .int .i64 (k.crash ks).fuse, .bool (k.crash ks).dead] 110 (0, 0)), (some lb, .cells lcs1 9 (0, 0)), (slNil.ob, .cells slNil.cs 116 slNil.fz)] := by
 have hb := h.bd
 have hb1 := hb.n1
 have hb2 := hb.n4
 have hb3 := hb.ncs
 have hb4 := hb.ncap
 have hb5 := hb.cap
 have hb6 := hb.w
 have hb7 := hb.wc
 have hln := h.len
 have hk1 := hs.le
 have hk2 := hs.max
 refine ct_of Tryd.func33 rfl rfl (fun w0 => ?_)
 show G _ _ [(0, _), (1, _)] _ _
 refine G_seq ?_
 refine G_region (l := [0]) rfl ?_
 refine G_val rfl rfl rfl rfl (V_assign rfl rfl) ?_
 refine G_done ?_
 refine G_seq ?_
 refine G_seq ?_
 refine G_region (l := [0, 1]) rfl ?_
 refine G_val rfl rfl rfl rfl (V_move rfl rfl) ?_
 refine G_val rfl rfl rfl rfl (V_peqlN rfl Tryd.underlying35 rfl rfl) ?_
 refine G_done ?_
 refine G_else rfl ?_
 refine G_skip ?_
 refine G_seq ?_
 refine G_seq ?_
 refine G_region (l := [0, 1, 2]) rfl ?_
 refine G_val rfl rfl rfl rfl (V_move rfl rfl) ?_
 refine G_val rfl rfl rfl rfl (V_len rfl rfl Tryd.underlying59 rfl) ?_
 refine G_val rfl rfl rfl rfl (V_move rfl rfl) ?_
 refine G_done ?_
 refine G_block ?_
 refine G_sub ?he4 [0, 0, 0] ?hl4 (G_loop (X := Nat × Array Value) (fun x => match x with | ⟨i, cs⟩ => i ≤ ks.length ∧ Own 1 ⟨some lb, cs, (0, 0), lcap⟩ ((keepsL k.W k.L (ks.take i)).map strC) n) (fun x => match x with | ⟨i, cs⟩ => ks.length - i) (fun x => match x with | ⟨i, cs⟩ => [(0, .pointer (some ⟨d, 0, none⟩)), (11, sv o1 p1 ks.length q1), (12, .int .i64 (ks.length : Int)), (13, .int .i64 (i : Int))]) (fun x => match x with | ⟨i, cs⟩ => [(some d, .cells #[.slice (some ⟨lb, 0, none⟩) n lcap, uw.v k.W.length, .int .i64 k.fuse, .bool k.dead] 110 (0, 0)), (some lb, .cells cs 9 (0, 0)), (uw.ob, .cells uw.cs 116 uw.fz)]) ?round4 (0, lcs) ?h04)
 case he4 => exact (And.intro rfl (And.intro rfl (And.intro rfl (And.intro rfl trivial))))
 case hl4 => exact ⟨_, rfl⟩
 case h04 => exact ⟨Nat.zero_le _, h.l⟩
 case round4 =>
  intro x hJ ih
  try dsimp only at hJ ih
  obtain ⟨i, cs⟩ := x
  try dsimp only at hJ ih
  obtain ⟨hi, hux⟩ := hJ
  show G _ _ [(0, .pointer (some ⟨d, 0, none⟩)), (11, sv o1 p1 ks.length q1), (12, .int .i64 (ks.length : Int)), (13, .int .i64 (i : Int))] [(some d, .cells #[.slice (some ⟨lb, 0, none⟩) n lcap, uw.v k.W.length, .int .i64 k.fuse, .bool k.dead] 110 (0, 0)), (some lb, .cells cs 9 (0, 0)), (uw.ob, .cells uw.cs 116 uw.fz)] _
  refine G_seq ?_
  refine G_region (l := [0]) rfl ?_
  refine G_val rfl rfl rfl rfl (V_lss rfl rfl rfl) ?_
  refine G_done ?_
  refine G_seq ?_
  refine G_ifD rfl (fun hc1 => ?_) (fun hc1 => ?_)
  · skip
    refine G_skip ?_
    refine G_seq ?_
    refine G_block ?_
    refine G_seq ?_
    obtain ⟨x, hx⟩ := getI (show i < ks.length by omega)
    obtain ⟨b1, rfl⟩ := hs.isSome (by omega)
    obtain ⟨hcs, hcl⟩ := own_fit hux
    refine G_region (l := [0, 1, 2, 3]) rfl ?_
    first
      | refine G_val rfl rfl rfl rfl (V_indexAddrN (s := 2) rfl Tryd.underlying59 infDiskY_132 rfl rfl rfl rfl (by omega)) ?_
      | refine G_val rfl rfl rfl rfl (V_indexAddr (s := 2) rfl Tryd.underlying59 infDiskY_132 rfl rfl rfl (by omega) (by first | omega | (simp [wCells, kCells, wCells, kCells, wCells, kCells]; done) | (simp [wCells, kCells, wCells, kCells, wCells, kCells]; omega) | (simp [wCells, kCells, wCells, kCells, wCells, kCells] at *; omega))) ?_
    refine G_val rfl rfl rfl rfl (V_loadA (s := 2) (vs := (kCells x).toArray) rfl rfl (mem_at 0 rfl) Tryd.underlying132 rfl infDiskY_132 rfl (hs.elem k_len hx) (by first | rfl | (simp [bcells_length, wCells, kCells, wCells, kCells, wCells, kCells]; done) | (simp [bcells_length, wCells, kCells, wCells, kCells, wCells, kCells]; omega) | (simp [bcells_length, *, wCells, kCells, wCells, kCells, wCells, kCells]; done))) ?_
    refine G_new rfl rfl rfl rfl (N_allocA rfl infDiskY_132 rfl) (fun b6 => ?_)
    refine G_put (l1 := []) (L' := [_, _, _, _]) rfl rfl rfl rfl (P_storeA (s := 2) rfl rfl rfl (mem_at 0 rfl) (by first | rfl | (simp [bcells_length, wCells, kCells, wCells, kCells, wCells, kCells]; done) | (simp [bcells_length, wCells, kCells, wCells, kCells, wCells, kCells]; omega) | (simp [bcells_length, *, wCells, kCells, wCells, kCells, wCells, kCells]; done)) infDiskY_132 rfl (by first | rfl | (simp [bcells_length, wCells, kCells, wCells, kCells, wCells, kCells]; done) | (simp [bcells_length, wCells, kCells, wCells, kCells, wCells, kCells]; omega) | (simp [bcells_length, *, wCells, kCells, wCells, kCells, wCells, kCells]; done)) (by first | rfl | exact bcells_all _ | (simp [Value.oneCell', wCells, kCells, wCells, kCells, wCells, kCells]; done) | (simp [Value.oneCell', *, wCells, kCells, wCells, kCells, wCells, kCells]; done))) rfl ?_
    refine G_done ?_
    refine G_seq ?_
    refine G_seq ?_
    refine GH_start (Lq := [_, _]) (isq := [0, 0]) (m := 13) mixedK rfl rfl ?_
    refine GH_take 0 rfl rfl rfl rfl (by kernel_rfl) (by kernel_rfl) (by kernel_rfl) (fun _ _ => (V_fieldAddr (fo := 0) rfl Tryd.underlying132 rfl infDiskY_3 rfl rfl rfl)) ?_
    refine GH_take 1 rfl rfl rfl rfl (by kernel_rfl) (by kernel_rfl) (by kernel_rfl) (fun _ _ => (V_load1 rfl rfl (mem_at 1 rfl) rfl Tryd.underlying3 rfl)) ?_
    refine GH_take 2 rfl rfl rfl rfl (by kernel_rfl) (by kernel_rfl) (by kernel_rfl) (fun _ _ => (V_lss rfl rfl rfl)) ?_
    refine GH_take 3 rfl rfl rfl rfl (by kernel_rfl) (by kernel_rfl) (by kernel_rfl) (fun _ _ => (V_move rfl rfl)) ?_
    refine GH_splitD 20 rfl (fun hc2 => ?_) (fun hc2 => ?_)
    · skip
      refine GH_takeOff 4 rfl rfl rfl rfl (by kernel_rfl) (by kernel_rfl) (by kernel_rfl) ?_
      refine GH_takeOff 5 rfl rfl rfl rfl (by kernel_rfl) (by kernel_rfl) (by kernel_rfl) ?_
      refine GH_takeOff 6 rfl rfl rfl rfl (by kernel_rfl) (by kernel_rfl) (by kernel_rfl) ?_
      refine GH_takeOff 7 rfl rfl rfl rfl (by kernel_rfl) (by kernel_rfl) (by kernel_rfl) ?_
      refine GH_takeOff 8 rfl rfl rfl rfl (by kernel_rfl) (by kernel_rfl) (by kernel_rfl) ?_
      refine GH_takeOff 9 rfl rfl rfl rfl (by kernel_rfl) (by kernel_rfl) (by kernel_rfl) ?_
      refine GH_takeOff 10 rfl rfl rfl rfl (by kernel_rfl) (by kernel_rfl) (by kernel_rfl) ?_
      refine GH_takeOff 11 rfl rfl rfl rfl (by kernel_rfl) (by kernel_rfl) (by kernel_rfl) ?_
      refine GH_take 12 rfl rfl rfl rfl (by kernel_rfl) (by kernel_rfl) (by kernel_rfl) (fun _ _ => (V_pickT rfl rfl rfl)) ?_
      refine GH_done (by kernel_rfl) ?_
      refine G_then rfl ?_
      refine G_exit rfl ?_
      refine G_region (l := [0, 1]) rfl ?_
      first
        | refine G_val rfl rfl rfl rfl ((V_add rfl rfl rfl).int (wrap_i64 (by omega))) ?_
        | refine G_val rfl rfl rfl rfl (V_add rfl rfl rfl) ?_
      refine G_val rfl rfl rfl rfl (V_move rfl rfl) ?_
      refine G_done ?_
      refine G_sub ?_ [1, 1, 1] ?_ (ih (i + 1, cs) ?_ ?_)
      · (refine (And.intro ?_ (And.intro ?_ (And.intro ?_ (And.intro ?_ trivial)))) <;> first | rfl | exact slot_int (by omega) | exact slot_int (by simp))
      · exact ⟨_, rfl⟩
      · (first | exact ⟨by omega, by rw [keepsL_next hx, keep1_no (by omega)]; exact hux⟩ | exact ⟨by omega, by rw [keepsL_next hx, keep1_yes (by omega) hy]; exact own_set hux y.1.toNat (by omega) _⟩)
      · (first | omega | (dsimp only; omega))
    refine GH_take 4 rfl rfl rfl rfl (by kernel_rfl) (by kernel_rfl) (by kernel_rfl) (fun _ _ => (V_fieldAddr (fo := 0) rfl Tryd.underlying132 rfl infDiskY_3 rfl rfl rfl)) ?_
    refine GH_take 5 rfl rfl rfl rfl (by kernel_rfl) (by kernel_rfl) (by kernel_rfl) (fun _ _ => (V_load1 rfl rfl (mem_at 1 rfl) rfl Tryd.underlying3 rfl)) ?_
    refine GH_take 6 rfl rfl rfl rfl (by kernel_rfl) (by kernel_rfl) (by kernel_rfl) (fun _ _ => (V_move rfl rfl)) ?_
    first
      | refine GH_take 7 rfl rfl rfl rfl (by kernel_rfl) (by kernel_rfl) (by kernel_rfl) (fun _ _ => (V_nilCheck rfl rfl)) ?_
      | refine GH_take 7 rfl rfl rfl rfl (by kernel_rfl) (by kernel_rfl) (by kernel_rfl) (fun _ _ => (V_nilCheckF rfl rfl)) ?_
    refine GH_take 8 rfl rfl rfl rfl (by kernel_rfl) (by kernel_rfl) (by kernel_rfl) (fun _ _ => (V_fieldAddr (fo := 1) rfl Tryd.underlying110 rfl infDiskY_108 rfl rfl rfl)) ?_
    refine GH_take 9 rfl rfl rfl rfl (by kernel_rfl) (by kernel_rfl) (by kernel_rfl) (fun _ _ => (V_load1 rfl rfl (mem_at 2 rfl) rfl Tryd.underlying108 rfl)) ?_
    refine GH_take 10 rfl rfl rfl rfl (by kernel_rfl) (by kernel_rfl) (by kernel_rfl) (fun _ _ => (V_len rfl rfl Tryd.underlying108 rfl)) ?_
    refine GH_take 11 rfl rfl rfl rfl (by kernel_rfl) (by kernel_rfl) (by kernel_rfl) (fun _ _ => (V_geq rfl rfl rfl)) ?_
    refine GH_take 12 rfl rfl rfl rfl (by kernel_rfl) (by kernel_rfl) (by kernel_rfl) (fun _ _ => (V_pickF rfl rfl rfl)) ?_
    refine GH_done (by kernel_rfl) ?_
    refine G_ifD rfl (fun hc3 => ?_) (fun hc3 => ?_)
    · skip
      refine G_exit rfl ?_
      refine G_region (l := [0, 1]) rfl ?_
      first
        | refine G_val rfl rfl rfl rfl ((V_add rfl rfl rfl).int (wrap_i64 (by omega))) ?_
        | refine G_val rfl rfl rfl rfl (V_add rfl rfl rfl) ?_
      refine G_val rfl rfl rfl rfl (V_move rfl rfl) ?_
      refine G_done ?_
      refine G_sub ?_ [1, 1, 1] ?_ (ih (i + 1, cs) ?_ ?_)
      · (refine (And.intro ?_ (And.intro ?_ (And.intro ?_ (And.intro ?_ trivial)))) <;> first | rfl | exact slot_int (by omega) | exact slot_int (by simp))
      · exact ⟨_, rfl⟩
      · (first | exact ⟨by omega, by rw [keepsL_next hx, keep1_no (by omega)]; exact hux⟩ | exact ⟨by omega, by rw [keepsL_next hx, keep1_yes (by omega) hy]; exact own_set hux y.1.toNat (by omega) _⟩)
      · (first | omega | (dsimp only; omega))
    refine G_skip ?_
    refine G_seq ?_
    obtain ⟨y, hy⟩ := getI (show x.1.toNat < k.W.length by omega)
    obtain ⟨wo, wcs, wfz, wcap⟩ := uw
    obtain ⟨wb, rfl⟩ := h.w.isSome (by omega)
    obtain ⟨hya, hyb⟩ := h.ok.wat y (List.mem_of_getElem? hy)
    have hyc := h.ok.w64 y (List.mem_of_getElem? hy)
    have h64 := getD64 (keepsL_64 h.ok.w64 (ks.take i) k.L h.ok.l64 h.ok.wat) (i := y.1.toNat) (by omega)
    refine GH_start (Lq := [_, _, _]) (isq := [0, 0, 1]) (m := 10) mixedK rfl rfl ?_
    refine GH_take 0 rfl rfl rfl rfl (by kernel_rfl) (by kernel_rfl) (by kernel_rfl) (fun _ _ => (V_move rfl rfl)) ?_
    first
      | refine GH_take 1 rfl rfl rfl rfl (by kernel_rfl) (by kernel_rfl) (by kernel_rfl) (fun _ _ => (V_nilCheck rfl rfl)) ?_
      | refine GH_take 1 rfl rfl rfl rfl (by kernel_rfl) (by kernel_rfl) (by kernel_rfl) (fun _ _ => (V_nilCheckF rfl rfl)) ?_
    refine GH_take 2 rfl rfl rfl rfl (by kernel_rfl) (by kernel_rfl) (by kernel_rfl) (fun _ _ => (V_fieldAddr (fo := 1) rfl Tryd.underlying110 rfl infDiskY_108 rfl rfl rfl)) ?_
    refine GH_take 3 rfl rfl rfl rfl (by kernel_rfl) (by kernel_rfl) (by kernel_rfl) (fun _ _ => (V_load1 rfl rfl (mem_at 2 rfl) rfl Tryd.underlying108 rfl)) ?_
    refine GH_take 4 rfl rfl rfl rfl (by kernel_rfl) (by kernel_rfl) (by kernel_rfl) (fun _ _ => (V_fieldAddr (fo := 0) rfl Tryd.underlying132 rfl infDiskY_3 rfl rfl rfl)) ?_
    refine GH_take 5 rfl rfl rfl rfl (by kernel_rfl) (by kernel_rfl) (by kernel_rfl) (fun _ _ => (V_load1 rfl rfl (mem_at 1 rfl) rfl Tryd.underlying3 rfl)) ?_
    first
      | refine GH_take 6 rfl rfl rfl rfl (by kernel_rfl) (by kernel_rfl) (by kernel_rfl) (fun _ _ => (V_indexAddrN (s := 2) rfl Tryd.underlying108 infDiskY_116 rfl rfl rfl rfl (by omega))) ?_
      | refine GH_take 6 rfl rfl rfl rfl (by kernel_rfl) (by kernel_rfl) (by kernel_rfl) (fun _ _ => (V_indexAddr (s := 2) rfl Tryd.underlying108 infDiskY_116 rfl rfl rfl (by omega) (by first | omega | (simp [wCells, kCells, wCells, kCells, wCells, kCells]; done) | (simp [wCells, kCells, wCells, kCells, wCells, kCells]; omega) | (simp [wCells, kCells, wCells, kCells, wCells, kCells] at *; omega)))) ?_
    refine GH_take 7 rfl rfl rfl rfl (by kernel_rfl) (by kernel_rfl) (by kernel_rfl) (fun _ _ => (V_loadA (s := 2) (vs := (wCells y).toArray) rfl rfl (mem_at 3 rfl) Tryd.underlying116 rfl infDiskY_116 rfl (h.w.sees.elem w_len hy) (by first | rfl | (simp [bcells_length, wCells, kCells, wCells, kCells, wCells, kCells]; done) | (simp [bcells_length, wCells, kCells, wCells, kCells, wCells, kCells]; omega) | (simp [bcells_length, *, wCells, kCells, wCells, kCells, wCells, kCells]; done)))) ?_
    refine GH_all [8] (by kernel_rfl) (by decide) ?_
    refine (And.intro ?_ trivial)
    · skip
      refine GHop_new rfl rfl rfl rfl (N_allocA rfl infDiskY_116 rfl) [1, 1, 2] (fun _ => ⟨_, rfl⟩) (fun b7 => ?_)
      refine GH_all [9] (by kernel_rfl) (by decide) ?_
      refine (And.intro ?_ trivial)
      · skip
        refine GHop_put (l1 := []) (L' := [_, _, _, _, _]) rfl rfl rfl rfl (P_storeA (s := 2) rfl rfl rfl (mem_at 0 rfl) (by first | rfl | (simp [bcells_length, wCells, kCells, wCells, kCells, wCells, kCells]; done) | (simp [bcells_length, wCells, kCells, wCells, kCells, wCells, kCells]; omega) | (simp [bcells_length, *, wCells, kCells, wCells, kCells, wCells, kCells]; done)) infDiskY_116 rfl (by first | rfl | (simp [bcells_length, wCells, kCells, wCells, kCells, wCells, kCells]; done) | (simp [bcells_length, wCells, kCells, wCells, kCells, wCells, kCells]; omega) | (simp [bcells_length, *, wCells, kCells, wCells, kCells, wCells, kCells]; done)) (by first | rfl | exact bcells_all _ | (simp [Value.oneCell', wCells, kCells, wCells, kCells, wCells, kCells]; done) | (simp [Value.oneCell', *, wCells, kCells, wCells, kCells, wCells, kCells]; done))) rfl [1, 1, 2] rfl ?_
        refine GH_done (by kernel_rfl) ?_
        refine G_seq ?_
        refine G_region (l := [0, 1, 2, 3, 4]) rfl ?_
        refine G_val rfl rfl rfl rfl (V_fieldAddr (fo := 1) rfl Tryd.underlying132 rfl infDiskY_3 rfl rfl rfl) ?_
        refine G_val rfl rfl rfl rfl (V_load1 rfl rfl (mem_at 2 rfl) rfl Tryd.underlying3 rfl) ?_
        refine G_val rfl rfl rfl rfl (V_max rfl rfl rfl) ?_
        refine G_val rfl rfl rfl rfl (V_min rfl rfl rfl) ?_
        refine G_val rfl rfl rfl rfl (V_assign rfl rfl) ?_
        refine G_done ?_
        refine GH_start (Lq := [_, _]) (isq := [2, 0]) (m := 23) mixedK rfl rfl ?_
        refine GH_take 0 rfl rfl rfl rfl (by kernel_rfl) (by kernel_rfl) (by kernel_rfl) (fun _ _ => (V_move rfl rfl)) ?_
        first
          | refine GH_take 1 rfl rfl rfl rfl (by kernel_rfl) (by kernel_rfl) (by kernel_rfl) (fun _ _ => (V_nilCheck rfl rfl)) ?_
          | refine GH_take 1 rfl rfl rfl rfl (by kernel_rfl) (by kernel_rfl) (by kernel_rfl) (fun _ _ => (V_nilCheckF rfl rfl)) ?_
        refine GH_take 2 rfl rfl rfl rfl (by kernel_rfl) (by kernel_rfl) (by kernel_rfl) (fun _ _ => (V_fieldAddr (fo := 0) rfl Tryd.underlying110 rfl infDiskY_24 rfl rfl rfl)) ?_
        refine GH_take 3 rfl rfl rfl rfl (by kernel_rfl) (by kernel_rfl) (by kernel_rfl) (fun _ _ => (V_load1 rfl rfl (mem_at 1 rfl) rfl Tryd.underlying24 rfl)) ?_
        refine GH_take 4 rfl rfl rfl rfl (by kernel_rfl) (by kernel_rfl) (by kernel_rfl) (fun _ _ => (V_fieldAddr (fo := 0) rfl Tryd.underlying116 rfl infDiskY_3 rfl rfl rfl)) ?_
        refine GH_take 5 rfl rfl rfl rfl (by kernel_rfl) (by kernel_rfl) (by kernel_rfl) (fun _ _ => (V_load1 rfl rfl (mem_at 2 rfl) rfl Tryd.underlying3 rfl)) ?_
        refine GH_take 6 rfl rfl rfl rfl (by kernel_rfl) (by kernel_rfl) (by kernel_rfl) (fun _ _ => (V_fieldAddr (fo := 1) rfl Tryd.underlying116 rfl infDiskY_9 rfl rfl rfl)) ?_
        refine GH_take 7 rfl rfl rfl rfl (by kernel_rfl) (by kernel_rfl) (by kernel_rfl) (fun _ _ => (V_load1 rfl rfl (mem_at 2 rfl) rfl Tryd.underlying9 rfl)) ?_
        refine GH_take 8 rfl rfl rfl rfl (by kernel_rfl) (by kernel_rfl) (by kernel_rfl) (fun _ _ => (V_move rfl rfl)) ?_
        first
          | refine GH_take 9 rfl rfl rfl rfl (by kernel_rfl) (by kernel_rfl) (by kernel_rfl) (fun _ _ => (V_ssliceHN (hi := _) rfl Tryd.underlying9 rfl rfl rfl (by first | omega | (simp [wCells, kCells, wCells, kCells, wCells, kCells]; done) | (simp [wCells, kCells, wCells, kCells, wCells, kCells]; omega) | (simp [wCells, kCells, wCells, kCells, wCells, kCells] at *; omega)))) ?_
          | refine GH_take 9 rfl rfl rfl rfl (by kernel_rfl) (by kernel_rfl) (by kernel_rfl) (fun _ _ => (V_ssliceH rfl Tryd.underlying9 rfl rfl (by first | omega | (simp [wCells, kCells, wCells, kCells, wCells, kCells]; done) | (simp [wCells, kCells, wCells, kCells, wCells, kCells]; omega) | (simp [wCells, kCells, wCells, kCells, wCells, kCells] at *; omega)) (by first | omega | (simp [wCells, kCells, wCells, kCells, wCells, kCells]; done) | (simp [wCells, kCells, wCells, kCells, wCells, kCells]; omega) | (simp [wCells, kCells, wCells, kCells, wCells, kCells] at *; omega)))) ?_
        refine GH_take 10 rfl rfl rfl rfl (by kernel_rfl) (by kernel_rfl) (by kernel_rfl) (fun _ _ => (V_move rfl rfl)) ?_
        first
          | refine GH_take 11 rfl rfl rfl rfl (by kernel_rfl) (by kernel_rfl) (by kernel_rfl) (fun _ _ => (V_nilCheck rfl rfl)) ?_
          | refine GH_take 11 rfl rfl rfl rfl (by kernel_rfl) (by kernel_rfl) (by kernel_rfl) (fun _ _ => (V_nilCheckF rfl rfl)) ?_
        refine GH_take 12 rfl rfl rfl rfl (by kernel_rfl) (by kernel_rfl) (by kernel_rfl) (fun _ _ => (V_fieldAddr (fo := 0) rfl Tryd.underlying110 rfl infDiskY_24 rfl rfl rfl)) ?_
        refine GH_take 13 rfl rfl rfl rfl (by kernel_rfl) (by kernel_rfl) (by kernel_rfl) (fun _ _ => (V_load1 rfl rfl (mem_at 1 rfl) rfl Tryd.underlying24 rfl)) ?_
        refine GH_take 14 rfl rfl rfl rfl (by kernel_rfl) (by kernel_rfl) (by kernel_rfl) (fun _ _ => (V_fieldAddr (fo := 0) rfl Tryd.underlying116 rfl infDiskY_3 rfl rfl rfl)) ?_
        refine GH_take 15 rfl rfl rfl rfl (by kernel_rfl) (by kernel_rfl) (by kernel_rfl) (fun _ _ => (V_load1 rfl rfl (mem_at 2 rfl) rfl Tryd.underlying3 rfl)) ?_
        first
          | refine GH_take 16 rfl rfl rfl rfl (by kernel_rfl) (by kernel_rfl) (by kernel_rfl) (fun _ _ => (V_indexAddrN (s := 1) rfl Tryd.underlying24 infDiskY_9 rfl rfl rfl rfl (by omega))) ?_
          | refine GH_take 16 rfl rfl rfl rfl (by kernel_rfl) (by kernel_rfl) (by kernel_rfl) (fun _ _ => (V_indexAddr (s := 1) rfl Tryd.underlying24 infDiskY_9 rfl rfl rfl (by omega) (by first | omega | (simp [wCells, kCells, wCells, kCells, wCells, kCells]; done) | (simp [wCells, kCells, wCells, kCells, wCells, kCells]; omega) | (simp [wCells, kCells, wCells, kCells, wCells, kCells] at *; omega)))) ?_
        refine GH_take 18 rfl rfl rfl rfl (by kernel_rfl) (by kernel_rfl) (by kernel_rfl) (fun _ _ => (V_move rfl rfl)) ?_
        refine GH_all [17] (by kernel_rfl) (by decide) ?_
        refine (And.intro ?_ trivial)
        · skip
          refine GHop_val rfl rfl rfl rfl (V_load1 rfl rfl (mem_at 4 rfl) (nth_of (own_str hux y.1.toNat (by omega))) Tryd.underlying9 rfl) ?_
          first
            | refine GH_take 19 rfl rfl rfl rfl (by kernel_rfl) (by kernel_rfl) (by kernel_rfl) (fun _ _ => (V_ssliceLN (lo := _) rfl Tryd.underlying9 rfl rfl rfl (by first | omega | (simp [wCells, kCells, wCells, kCells, wCells, kCells]; done) | (simp [wCells, kCells, wCells, kCells, wCells, kCells]; omega) | (simp [wCells, kCells, wCells, kCells, wCells, kCells] at *; omega)))) ?_
            | refine GH_take 19 rfl rfl rfl rfl (by kernel_rfl) (by kernel_rfl) (by kernel_rfl) (fun _ _ => (V_ssliceL rfl Tryd.underlying9 rfl rfl (by first | omega | (simp [wCells, kCells, wCells, kCells, wCells, kCells]; done) | (simp [wCells, kCells, wCells, kCells, wCells, kCells]; omega) | (simp [wCells, kCells, wCells, kCells, wCells, kCells] at *; omega)) (by first | omega | (simp [wCells, kCells, wCells, kCells, wCells, kCells]; done) | (simp [wCells, kCells, wCells, kCells, wCells, kCells]; omega) | (simp [wCells, kCells, wCells, kCells, wCells, kCells] at *; omega)))) ?_
          refine GH_take 20 rfl rfl rfl rfl (by kernel_rfl) (by kernel_rfl) (by kernel_rfl) (fun _ _ => (V_sadd rfl rfl rfl (by first | omega | (simp [wCells, kCells, wCells, kCells, wCells, kCells]; done) | (simp [wCells, kCells, wCells, kCells, wCells, kCells]; omega) | (simp [wCells, kCells, wCells, kCells, wCells, kCells] at *; omega)))) ?_
          first
            | refine GH_take 21 rfl rfl rfl rfl (by kernel_rfl) (by kernel_rfl) (by kernel_rfl) (fun _ _ => (V_indexAddrN (s := 1) rfl Tryd.underlying24 infDiskY_9 rfl rfl rfl rfl (by omega))) ?_
            | refine GH_take 21 rfl rfl rfl rfl (by kernel_rfl) (by kernel_rfl) (by kernel_rfl) (fun _ _ => (V_indexAddr (s := 1) rfl Tryd.underlying24 infDiskY_9 rfl rfl rfl (by omega) (by first | omega | (simp [wCells, kCells, wCells, kCells, wCells, kCells]; done) | (simp [wCells, kCells, wCells, kCells, wCells, kCells]; omega) | (simp [wCells, kCells, wCells, kCells, wCells, kCells] at *; omega)))) ?_
          refine GH_all [22] (by kernel_rfl) (by decide) ?_
          refine (And.intro ?_ trivial)
          · skip
            refine GHop_put (l1 := [_, _, _]) (L' := [_, _, _, _, _]) rfl rfl rfl rfl (P_store1 rfl rfl rfl (mem_at 3 rfl) (by first | exact of_decide_eq_true rfl | omega | (simp [wCells, kCells, wCells, kCells, wCells, kCells]; done) | (simp [wCells, kCells, wCells, kCells, wCells, kCells]; omega) | (simp [wCells, kCells, wCells, kCells, wCells, kCells] at *; omega)) infDiskY_9 rfl rfl) rfl [2, 0] rfl ?_
            refine GH_done (by kernel_rfl) ?_
            refine G_inBlock ?_
            refine G_region (l := [0, 1]) rfl ?_
            first
              | refine G_val rfl rfl rfl rfl ((V_add rfl rfl rfl).int (wrap_i64 (by omega))) ?_
              | refine G_val rfl rfl rfl rfl (V_add rfl rfl rfl) ?_
            refine G_val rfl rfl rfl rfl (V_move rfl rfl) ?_
            refine G_done ?_
            refine G_sub ?_ [2, 2, 2] ?_ (ih (i + 1, cs.setIfInBounds (0 + y.1.toNat * 1) (.string (bs (y.2.take (cut64 x.2) ++ ((keepsL k.W k.L (ks.take i)).getD y.1.toNat []).drop (cut64 x.2))))) ?_ ?_)
            · (refine (And.intro ?_ (And.intro ?_ (And.intro ?_ (And.intro ?_ trivial)))) <;> first | rfl | exact slot_int (by omega) | exact slot_int (by simp))
            · exact ⟨_, rfl⟩
            · (first | exact ⟨by omega, by rw [keepsL_next hx, keep1_no (by omega)]; exact hux⟩ | exact ⟨by omega, by rw [keepsL_next hx, keep1_yes (by omega) hy]; exact own_set hux y.1.toNat (by omega) _⟩)
            · (first | omega | (dsimp only; omega))
  refine G_exit rfl ?_
  refine G_seq ?_
  refine G_addNone (.cells #[] 116 (0, 0)) ?_
  refine G_region (l := [0, 1, 2, 3, 4, 5, 6, 7, 8, 9, 10, 11]) rfl ?_
  refine G_val rfl rfl rfl rfl (V_move rfl rfl) ?_
  refine G_val rfl rfl rfl rfl (V_move rfl rfl) ?_
  refine G_val rfl rfl rfl rfl (V_move rfl rfl) ?_
  first
    | refine G_val rfl rfl rfl rfl (V_nilCheck rfl rfl) ?_
    | refine G_val rfl rfl rfl rfl (V_nilCheckF rfl rfl) ?_
  refine G_val rfl rfl rfl rfl (V_fieldAddr (fo := 1) rfl Tryd.underlying110 rfl infDiskY_108 rfl rfl rfl) ?_
  refine G_put (l1 := [_]) (L' := [_, _, _, _]) rfl rfl rfl rfl (P_store1 rfl rfl rfl (mem_at 1 rfl) (by first | exact of_decide_eq_true rfl | omega | (simp [wCells, kCells, wCells, kCells, wCells, kCells]; done) | (simp [wCells, kCells, wCells, kCells, wCells, kCells]; omega) | (simp [wCells, kCells, wCells, kCells, wCells, kCells] at *; omega)) infDiskY_108 rfl rfl) rfl ?_
  first
    | refine G_val rfl rfl rfl rfl (V_nilCheck rfl rfl) ?_
    | refine G_val rfl rfl rfl rfl (V_nilCheckF rfl rfl) ?_
  refine G_val rfl rfl rfl rfl (V_fieldAddr (fo := 2) rfl Tryd.underlying110 rfl infDiskY_3 rfl rfl rfl) ?_
  refine G_put (l1 := [_]) (L' := [_, _, _, _]) rfl rfl rfl rfl (P_store1 rfl rfl rfl (mem_at 1 rfl) (by first | exact of_decide_eq_true rfl | omega | (simp [wCells, kCells, wCells, kCells, wCells, kCells]; done) | (simp [wCells, kCells, wCells, kCells, wCells, kCells]; omega) | (simp [wCells, kCells, wCells, kCells, wCells, kCells] at *; omega)) infDiskY_3 rfl rfl) rfl ?_
  first
    | refine G_val rfl rfl rfl rfl (V_nilCheck rfl rfl) ?_
    | refine G_val rfl rfl rfl rfl (V_nilCheckF rfl rfl) ?_
  refine G_val rfl rfl rfl rfl (V_fieldAddr (fo := 3) rfl Tryd.underlying110 rfl infDiskY_4 rfl rfl rfl) ?_
  refine G_put (l1 := [_]) (L' := [_, _, _, _]) rfl rfl rfl rfl (P_store1 rfl rfl rfl (mem_at 1 rfl) (by first | exact of_decide_eq_true rfl | omega | (simp [wCells, kCells, wCells, kCells, wCells, kCells]; done) | (simp [wCells, kCells, wCells, kCells, wCells, kCells]; omega) | (simp [wCells, kCells, wCells, kCells, wCells, kCells] at *; omega)) infDiskY_4 rfl rfl) rfl ?_
  refine G_done ?_
  refine G_seq ?_
  refine G_region (l := [0]) rfl ?_
  refine G_val rfl rfl rfl rfl (V_assign rfl rfl) ?_
  refine G_done ?_
  refine G_ret (post := [_, _, _]) Tryd.func33 rfl (RVs_cons (RV_tmp rfl) RVs_nil) [1, 1, 0] rfl ?_
  dsimp only [packed]
  rw [keepsL_end (by omega)] at hux; exact ⟨rfl, cs, crash_at h hux, rfl⟩

set_option maxRecDepth 100000 in
set_option maxHeartbeats 1000000 in
theorem dk_crash_nil (o1 : Option Nat) (p1 q1 : Nat) (c1 : Array Value) (T1 : TypeId) (f1 : Nat × Nat) (ks : List (Int × Int)) (hs : Sees 2 o1 p1 q1 c1 (ks.flatMap kCells) ks.length) :
    Ct Tryd.prog 33 [.pointer none, sv o1 p1 ks.length q1] [(o1, .cells c1 T1 f1)] [] fun v post => v = .int .i64 19 ∧ post = [] := by
 refine ct_of Tryd.func33 rfl rfl (fun w0 => ?_)
 show G _ _ [(0, _), (1, _)] _ _
 refine G_seq ?_
 refine G_region (l := [0]) rfl ?_
 refine G_val rfl rfl rfl rfl (V_assign rfl rfl) ?_
 refine G_done ?_
 refine G_seq ?_
 refine G_seq ?_
 refine G_region (l := [0, 1]) rfl ?_
 refine G_val rfl rfl rfl rfl (V_move rfl rfl) ?_
 refine G_val rfl rfl rfl rfl (V_peqlN rfl Tryd.underlying35 rfl rfl) ?_
 refine G_done ?_
 refine G_then rfl ?_
 refine G_seq ?_
 refine G_region (l := [0]) rfl ?_
 refine G_val rfl rfl rfl rfl (V_assign rfl rfl) ?_
 refine G_done ?_
 refine G_ret (post := []) Tryd.func33 rfl (RVs_cons (RV_tmp rfl) RVs_nil) [] rfl ?_
 dsimp only [packed]
 exact ⟨rfl, rfl⟩


def zs64 : List UInt8 := List.replicate 64 0
theorem newD_at {n lb lcap : Nat} {lcs : Array Value} (h1 : 1 ≤ n) (h2 : n ≤ 4096) (h : Own 1 ⟨some lb, lcs, (0, 0), lcap⟩ ((List.replicate n zs64).map strC) n) : DkAt (newD n) n lb lcs lcap slNil :=
  ⟨by simp [newD], h, own_nil 2, newD_ok n h1 h2⟩
theorem rep_next (i : Nat) : (List.replicate i zs64).map strC ++ [strC zs64] = (List.replicate (i + 1) zs64).map strC := by
  rw [show List.replicate (i + 1) zs64 = List.replicate i zs64 ++ [zs64] from List.replicate_succ', List.map_append]; rfl

set_option maxRecDepth 100000 in
set_option maxHeartbeats 1000000 in
theorem dk_new (n : Nat) (h1 : 1 ≤ n) (h2 : n ≤ 4096) :
    Ct Tryd.prog 17 [.int .i64 (n : Int)] [] [] fun v post => ∃ d lb lcap lcs, v = .tuple #[.pointer (some ⟨d, 0, none⟩), .int .i64 0] ∧ DkAt (newD n) n lb lcs lcap slNil ∧ post = [(some d, .cells #[.slice (some ⟨lb, 0, none⟩) n lcap, slNil.v (newD n).W.length, .int .i64 (newD n).fuse, .bool (newD n).dead] 110 (0, 0)), (some lb, .cells lcs 9 (0, 0)), (slNil.ob, .cells slNil.cs 116 slNil.fz)] := by
 refine ct_of Tryd.func17 rfl rfl (fun w0 => ?_)
 show G _ _ [(0, _)] _ _
 refine G_seq ?_
 refine G_region (l := [0, 1]) rfl ?_
 refine G_val rfl rfl rfl rfl (V_assign rfl rfl) ?_
 refine G_val rfl rfl rfl rfl (V_assign rfl rfl) ?_
 refine G_done ?_
 refine G_seq ?_
 refine G_seq ?_
 refine G_region (l := [0, 1, 2, 3, 4, 5]) rfl ?_
 refine G_val rfl rfl rfl rfl (V_move rfl rfl) ?_
 refine G_val rfl rfl rfl rfl (V_lss rfl rfl rfl) ?_
 refine G_val rfl rfl rfl rfl (V_move rfl rfl) ?_
 refine G_splitD 7 rfl (fun hc1 => ?_) (fun hc1 => ?_)
 · (first | (exact absurd rfl hc1) | (exact absurd hc1 (by decide)) | (exfalso; omega))
 refine G_val rfl rfl rfl rfl (V_move rfl rfl) ?_
 refine G_val rfl rfl rfl rfl (V_gtr rfl rfl rfl) ?_
 refine G_val rfl rfl rfl rfl (V_pickF rfl rfl rfl) ?_
 refine G_done ?_
 refine G_ifD rfl (fun hc2 => ?_) (fun hc2 => ?_)
 · (first | (exact absurd rfl hc2) | (exact absurd hc2 (by decide)) | (exfalso; omega))
 refine G_skip ?_
 refine G_seq ?_
 refine G_region (l := [0, 1, 2]) rfl ?_
 refine G_val rfl rfl rfl rfl (V_buildS (cs := [_, _, _, _]) rfl Tryd.underlying110 infDiskY_110 rfl plcDiskY_110 rfl rfl rfl) ?_
 refine G_new rfl rfl rfl rfl (N_boxA rfl rfl) (fun b12 => ?_)
 refine G_val rfl rfl rfl rfl (V_assign rfl rfl) ?_
 refine G_done ?_
 refine G_seq ?_
 refine G_seq ?_
 refine G_addNone (.cells #[] 9 (0, 0)) ?_
 refine G_region (l := [0, 1]) rfl ?_
 refine G_val rfl rfl rfl rfl (V_move rfl rfl) ?_
 refine G_val rfl rfl rfl rfl (V_move rfl rfl) ?_
 refine G_done ?_
 refine G_block ?_
 refine G_sub ?he5 [1, 0] ?hl5 (G_loop (X := Nat × Sl) (fun x => match x with | ⟨i, u⟩ => i ≤ n ∧ Own 1 u ((List.replicate i zs64).map strC) i ∧ u.fz = (0, 0)) (fun x => match x with | ⟨i, u⟩ => n - i) (fun x => match x with | ⟨i, u⟩ => [(4, .pointer (some ⟨b12, 0, none⟩)), (13, .int .i64 (n : Int)), (14, .int .i64 (i : Int))]) (fun x => match x with | ⟨i, u⟩ => [(some b12, .cells #[u.v i, .slice none 0 0, .int .i64 (-1), .bool false] 110 (0, 0)), (u.ob, .cells u.cs 9 u.fz)]) ?round5 (0, slNil) ?h05)
 case he5 => exact (And.intro rfl (And.intro rfl (And.intro rfl trivial)))
 case hl5 => exact ⟨_, rfl⟩
 case h05 => exact ⟨Nat.zero_le _, own_nil 1, rfl⟩
 case round5 =>
  intro x hJ ih
  try dsimp only at hJ ih
  obtain ⟨i, u⟩ := x
  try dsimp only at hJ ih
  obtain ⟨hi, hux, hfz⟩ := hJ
  show G _ _ [(4, .pointer (some ⟨b12, 0, none⟩)), (13, .int .i64 (n : Int)), (14, .int .i64 (i : Int))] [(some b12, .cells #[u.v i, .slice none 0 0, .int .i64 (-1), .bool false] 110 (0, 0)), (u.ob, .cells u.cs 9 u.fz)] _
  refine G_seq ?_
  refine G_region (l := [0]) rfl ?_
  refine G_val rfl rfl rfl rfl (V_lss rfl rfl rfl) ?_
  refine G_done ?_
  refine G_seq ?_
  refine G_ifD rfl (fun hc3 => ?_) (fun hc3 => ?_)
  · skip
    refine G_skip ?_
    refine G_seq ?_
    refine G_block ?_
    refine GH_start (Lq := []) (isq := []) (m := 11) mixedK rfl rfl ?_
    refine GH_take 0 rfl rfl rfl rfl (by kernel_rfl) (by kernel_rfl) (by kernel_rfl) (fun _ _ => (V_move rfl rfl)) ?_
    refine GH_take 1 rfl rfl rfl rfl (by kernel_rfl) (by kernel_rfl) (by kernel_rfl) (fun _ _ => (V_move rfl rfl)) ?_
    first
      | refine GH_take 2 rfl rfl rfl rfl (by kernel_rfl) (by kernel_rfl) (by kernel_rfl) (fun _ _ => (V_nilCheck rfl rfl)) ?_
      | refine GH_take 2 rfl rfl rfl rfl (by kernel_rfl) (by kernel_rfl) (by kernel_rfl) (fun _ _ => (V_nilCheckF rfl rfl)) ?_
    refine GH_take 3 rfl rfl rfl rfl (by kernel_rfl) (by kernel_rfl) (by kernel_rfl) (fun _ _ => (V_fieldAddr (fo := 0) rfl Tryd.underlying110 rfl infDiskY_24 rfl rfl rfl)) ?_
    refine GH_all [4, 5] (by kernel_rfl) (by decide) ?_
    refine (And.intro ?_ (And.intro ?_ trivial))
    · skip
      refine GHop_val rfl rfl rfl rfl (V_load1 rfl rfl (mem_at 0 rfl) rfl Tryd.underlying24 rfl) ?_
      refine GH_all [5] (by kernel_rfl) (by decide) ?_
      refine (And.intro ?_ trivial)
      · skip
        refine GHop_call (L2 := [_, _]) rfl rfl rfl rfl rfl rfl Tryd.call61 (repeat0 64 (by omega) (by omega)) [] [] rfl rfl [] (by rintro v post ⟨rfl, rfl⟩; exact ⟨_, rfl⟩) ?_
        rintro v post ⟨rfl, rfl⟩
        show GH _ _ _ _ _ _ _ [_, _] _
        refine GH_all [6] (by kernel_rfl) (by decide) ?_
        refine (And.intro ?_ trivial)
        · skip
          refine GHop_new rfl rfl rfl rfl (N_buildAll (s := 1) (cs := [_]) rfl Tryd.underlying24 infDiskY_9 rfl rfl rfl rfl rfl rfl rfl rfl rfl) [] (fun _ => ⟨_, rfl⟩) (fun b22 => ?_)
          refine GH_all [7] (by kernel_rfl) (by decide) ?_
          refine (And.intro ?_ trivial)
          · skip
            refine GHop_append (l1 := [_, _]) (s := u) (nn := i) (m := 1) (news := [strC zs64]) (bt := 16) rfl rfl rfl rfl Tryd.underlying24 Tryd.underlying24 (by first | exact .inl rfl | exact .inr ⟨_, rfl⟩) infDiskY_9 rfl rfl rfl rfl rfl rfl hux rfl (src_mem (mem_at 0 rfl) rfl rfl (by simp [strC, Value.oneCell'])) (by omega) (by omega) [] (fun _ => ⟨_, rfl⟩) ?_
            intro u1 hu1 hq1
            show GH _ _ _ _ _ _ _ [_, _, _] _
            first
              | refine GH_take 8 rfl rfl rfl rfl (by kernel_rfl) (by kernel_rfl) (by kernel_rfl) (fun _ _ => (V_nilCheck rfl rfl)) ?_
              | refine GH_take 8 rfl rfl rfl rfl (by kernel_rfl) (by kernel_rfl) (by kernel_rfl) (fun _ _ => (V_nilCheckF rfl rfl)) ?_
            refine GH_take 9 rfl rfl rfl rfl (by kernel_rfl) (by kernel_rfl) (by kernel_rfl) (fun _ _ => (V_fieldAddr (fo := 0) rfl Tryd.underlying110 rfl infDiskY_24 rfl rfl rfl)) ?_
            refine GH_all [10] (by kernel_rfl) (by decide) ?_
            refine (And.intro ?_ trivial)
            · skip
              refine GHop_put (l1 := [_]) (L' := [_, _, _]) rfl rfl rfl rfl (P_store1 rfl rfl rfl (mem_at 1 rfl) (by first | exact of_decide_eq_true rfl | omega | (simp [wCells, kCells, wCells, kCells, wCells, kCells]; done) | (simp [wCells, kCells, wCells, kCells, wCells, kCells]; omega) | (simp [wCells, kCells, wCells, kCells, wCells, kCells] at *; omega)) infDiskY_24 rfl rfl) rfl [] rfl ?_
              refine GH_done (by kernel_rfl) ?_
              refine G_inBlock ?_
              refine G_region (l := [0, 1]) rfl ?_
              first
                | refine G_val rfl rfl rfl rfl ((V_add rfl rfl rfl).int (wrap_i64 (by omega))) ?_
                | refine G_val rfl rfl rfl rfl (V_add rfl rfl rfl) ?_
              refine G_val rfl rfl rfl rfl (V_move rfl rfl) ?_
              refine G_done ?_
              refine G_sub ?_ [1, 1] ?_ (ih (i + 1, u1) ?_ ?_)
              · (refine (And.intro ?_ (And.intro ?_ (And.intro ?_ trivial))) <;> first | rfl | exact slot_int (by omega) | exact slot_int (by simp))
              · exact ⟨_, rfl⟩
              · exact ⟨by omega, by rw [← rep_next]; exact hu1, hq1.fz hfz⟩
              · (first | omega | (dsimp only; omega))
    · skip
      refine GHop_call (L2 := [_, _]) rfl rfl rfl rfl rfl rfl Tryd.call61 (repeat0 64 (by omega) (by omega)) [] [] rfl rfl [] (by rintro v post ⟨rfl, rfl⟩; exact ⟨_, rfl⟩) ?_
      rintro v post ⟨rfl, rfl⟩
      show GH _ _ _ _ _ _ _ [_, _] _
      refine GH_all [4, 6] (by kernel_rfl) (by decide) ?_
      refine (And.intro ?_ (And.intro ?_ trivial))
      · skip
        refine GHop_val rfl rfl rfl rfl (V_load1 rfl rfl (mem_at 0 rfl) rfl Tryd.underlying24 rfl) ?_
        refine GH_all [6] (by kernel_rfl) (by decide) ?_
        refine (And.intro ?_ trivial)
        · skip
          refine GHop_new rfl rfl rfl rfl (N_buildAll (s := 1) (cs := [_]) rfl Tryd.underlying24 infDiskY_9 rfl rfl rfl rfl rfl rfl rfl rfl rfl) [] (fun _ => ⟨_, rfl⟩) (fun b22 => ?_)
          refine GH_all [7] (by kernel_rfl) (by decide) ?_
          refine (And.intro ?_ trivial)
          · skip
            refine GHop_append (l1 := [_, _]) (s := u) (nn := i) (m := 1) (news := [strC zs64]) (bt := 16) rfl rfl rfl rfl Tryd.underlying24 Tryd.underlying24 (by first | exact .inl rfl | exact .inr ⟨_, rfl⟩) infDiskY_9 rfl rfl rfl rfl rfl rfl hux rfl (src_mem (mem_at 0 rfl) rfl rfl (by simp [strC, Value.oneCell'])) (by omega) (by omega) [] (fun _ => ⟨_, rfl⟩) ?_
            intro u1 hu1 hq1
            show GH _ _ _ _ _ _ _ [_, _, _] _
            first
              | refine GH_take 8 rfl rfl rfl rfl (by kernel_rfl) (by kernel_rfl) (by kernel_rfl) (fun _ _ => (V_nilCheck rfl rfl)) ?_
              | refine GH_take 8 rfl rfl rfl rfl (by kernel_rfl) (by kernel_rfl) (by kernel_rfl) (fun _ _ => (V_nilCheckF rfl rfl)) ?_
            refine GH_take 9 rfl rfl rfl rfl (by kernel_rfl) (by kernel_rfl) (by kernel_rfl) (fun _ _ => (V_fieldAddr (fo := 0) rfl Tryd.underlying110 rfl infDiskY_24 rfl rfl rfl)) ?_
            refine GH_all [10] (by kernel_rfl) (by decide) ?_
            refine (And.intro ?_ trivial)
            · skip
              refine GHop_put (l1 := [_]) (L' := [_, _, _]) rfl rfl rfl rfl (P_store1 rfl rfl rfl (mem_at 1 rfl) (by first | exact of_decide_eq_true rfl | omega | (simp [wCells, kCells, wCells, kCells, wCells, kCells]; done) | (simp [wCells, kCells, wCells, kCells, wCells, kCells]; omega) | (simp [wCells, kCells, wCells, kCells, wCells, kCells] at *; omega)) infDiskY_24 rfl rfl) rfl [] rfl ?_
              refine GH_done (by kernel_rfl) ?_
              refine G_inBlock ?_
              refine G_region (l := [0, 1]) rfl ?_
              first
                | refine G_val rfl rfl rfl rfl ((V_add rfl rfl rfl).int (wrap_i64 (by omega))) ?_
                | refine G_val rfl rfl rfl rfl (V_add rfl rfl rfl) ?_
              refine G_val rfl rfl rfl rfl (V_move rfl rfl) ?_
              refine G_done ?_
              refine G_sub ?_ [1, 1] ?_ (ih (i + 1, u1) ?_ ?_)
              · (refine (And.intro ?_ (And.intro ?_ (And.intro ?_ trivial))) <;> first | rfl | exact slot_int (by omega) | exact slot_int (by simp))
              · exact ⟨_, rfl⟩
              · exact ⟨by omega, by rw [← rep_next]; exact hu1, hq1.fz hfz⟩
              · (first | omega | (dsimp only; omega))
      · skip
        refine GHop_new rfl rfl rfl rfl (N_buildAll (s := 1) (cs := [_]) rfl Tryd.underlying24 infDiskY_9 rfl rfl rfl rfl rfl rfl rfl rfl rfl) [] (fun _ => ⟨_, rfl⟩) (fun b22 => ?_)
        refine GH_all [4] (by kernel_rfl) (by decide) ?_
        refine (And.intro ?_ trivial)
        · skip
          refine GHop_val rfl rfl rfl rfl (V_load1 rfl rfl (mem_at 1 rfl) rfl Tryd.underlying24 rfl) ?_
          refine GH_all [7] (by kernel_rfl) (by decide) ?_
          refine (And.intro ?_ trivial)
          · skip
            refine GHop_append (l1 := [_, _]) (s := u) (nn := i) (m := 1) (news := [strC zs64]) (bt := 16) rfl rfl rfl rfl Tryd.underlying24 Tryd.underlying24 (by first | exact .inl rfl | exact .inr ⟨_, rfl⟩) infDiskY_9 rfl rfl rfl rfl rfl rfl hux rfl (src_mem (mem_at 0 rfl) rfl rfl (by simp [strC, Value.oneCell'])) (by omega) (by omega) [] (fun _ => ⟨_, rfl⟩) ?_
            intro u1 hu1 hq1
            show GH _ _ _ _ _ _ _ [_, _, _] _
            first
              | refine GH_take 8 rfl rfl rfl rfl (by kernel_rfl) (by kernel_rfl) (by kernel_rfl) (fun _ _ => (V_nilCheck rfl rfl)) ?_
              | refine GH_take 8 rfl rfl rfl rfl (by kernel_rfl) (by kernel_rfl) (by kernel_rfl) (fun _ _ => (V_nilCheckF rfl rfl)) ?_
            refine GH_take 9 rfl rfl rfl rfl (by kernel_rfl) (by kernel_rfl) (by kernel_rfl) (fun _ _ => (V_fieldAddr (fo := 0) rfl Tryd.underlying110 rfl infDiskY_24 rfl rfl rfl)) ?_
            refine GH_all [10] (by kernel_rfl) (by decide) ?_
            refine (And.intro ?_ trivial)
            · skip
              refine GHop_put (l1 := [_]) (L' := [_, _, _]) rfl rfl rfl rfl (P_store1 rfl rfl rfl (mem_at 1 rfl) (by first | exact of_decide_eq_true rfl | omega | (simp [wCells, kCells, wCells, kCells, wCells, kCells]; done) | (simp [wCells, kCells, wCells, kCells, wCells, kCells]; omega) | (simp [wCells, kCells, wCells, kCells, wCells, kCells] at *; omega)) infDiskY_24 rfl rfl) rfl [] rfl ?_
              refine GH_done (by kernel_rfl) ?_
              refine G_inBlock ?_
              refine G_region (l := [0, 1]) rfl ?_
              first
                | refine G_val rfl rfl rfl rfl ((V_add rfl rfl rfl).int (wrap_i64 (by omega))) ?_
                | refine G_val rfl rfl rfl rfl (V_add rfl rfl rfl) ?_
              refine G_val rfl rfl rfl rfl (V_move rfl rfl) ?_
              refine G_done ?_
              refine G_sub ?_ [1, 1] ?_ (ih (i + 1, u1) ?_ ?_)
              · (refine (And.intro ?_ (And.intro ?_ (And.intro ?_ trivial))) <;> first | rfl | exact slot_int (by omega) | exact slot_int (by simp))
              · exact ⟨_, rfl⟩
              · exact ⟨by omega, by rw [← rep_next]; exact hu1, hq1.fz hfz⟩
              · (first | omega | (dsimp only; omega))
  refine G_exit rfl ?_
  refine G_seq ?_
  obtain rfl : i = n := by omega
  obtain ⟨uo, ucs, ufz, ucap⟩ := u
  simp only at hfz
  subst hfz
  obtain ⟨lb, rfl⟩ := hux.isSome (by omega)
  refine G_addNone (.cells #[] 116 (0, 0)) ?_
  refine G_region (l := [0, 1, 2]) rfl ?_
  refine G_val rfl rfl rfl rfl (V_move rfl rfl) ?_
  refine G_val rfl rfl rfl rfl (V_assign rfl rfl) ?_
  refine G_val rfl rfl rfl rfl (V_assign rfl rfl) ?_
  refine G_done ?_
  refine G_ret (post := [_, _, _]) Tryd.func17 rfl (RVs_cons (RV_tmp rfl) (RVs_cons (RV_tmp rfl) RVs_nil)) [1, 1, 0] rfl ?_
  dsimp only [packed]
  exact ⟨b12, lb, ucap, ucs, rfl, newD_at h1 h2 hux, rfl⟩

end
end Go.Proofs.YtbblkgdejgoncaaDoor
