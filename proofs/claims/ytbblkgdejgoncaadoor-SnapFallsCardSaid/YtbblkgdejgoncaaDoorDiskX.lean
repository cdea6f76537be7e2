/- The walks of layer 22, on: what writes to a disk. -/
import Derived.Test.YtbblkgdejgoncaaDoorDiskW
set_option linter.unusedSimpArgs false
set_option linter.unusedVariables false
namespace Go.Proofs.YtbblkgdejgoncaaDoor
open Go Go.RowKit

section
theorem infDiskX_3 : Tryd.prog.info? 3 = some Tryd.t3 := by kernel_rfl
theorem infDiskX_9 : Tryd.prog.info? 9 = some Tryd.t9 := by kernel_rfl
theorem infDiskX_24 : Tryd.prog.info? 24 = some Tryd.t24 := by kernel_rfl
theorem infDiskX_108 : Tryd.prog.info? 108 = some Tryd.t108 := by kernel_rfl
theorem infDiskX_116 : Tryd.prog.info? 116 = some Tryd.t116 := by kernel_rfl
theorem plcDiskX_116 : placesOf Tryd.prog (Tryd.prog.fieldsOf 116) = some [(0, 1), (1, 1)] := by kernel_rfl


theorem own_fit {n cap : Nat} {ob : Option Nat} {cs : Array Value} {fz : Nat × Nat} {l : List (List UInt8)} (h : Own 1 ⟨ob, cs, fz, cap⟩ (l.map strC) n) : n ≤ cs.size ∧ l.length = n := by
  have h1 := h.size
  have h2 := h.le
  have h3 := h.len
  simp at h1 h2 h3
  exact ⟨by omega, h3⟩
theorem applyW_end {L : List (List UInt8)} {W : List (Int × List UInt8)} {i : Nat} (h : W.length ≤ i) : applyW L (W.take i) = applyW L W := by rw [List.take_of_length_le h]
theorem flushed_at {k : Dk} {n lb lcap : Nat} {lcs cs : Array Value} {uw : Sl} (h : DkAt k n lb lcs lcap uw) (hc : Own 1 ⟨some lb, cs, (0, 0), lcap⟩ ((applyW k.L k.W).map strC) n) : DkAt k.flushed n lb cs lcap slNil :=
  ⟨by show (applyW _ _).length = _; rw [applyW_len]; exact h.len, hc, own_nil 2, flushed_ok h.ok⟩
theorem keepsL_end {W : List (Int × List UInt8)} {L : List (List UInt8)} {ks : List (Int × Int)} {i : Nat} (h : ks.length ≤ i) : keepsL W L (ks.take i) = keepsL W L ks := by rw [List.take_of_length_le h]
theorem crash_at {k : Dk} {n lb lcap : Nat} {lcs cs : Array Value} {uw : Sl} {ks : List (Int × Int)} (h : DkAt k n lb lcs lcap uw) (hc : Own 1 ⟨some lb, cs, (0, 0), lcap⟩ ((keepsL k.W k.L ks).map strC) n) : DkAt (k.crash ks) n lb cs lcap slNil :=
  ⟨by show (keepsL _ _ _).length = _; rw [keepsL_len]; exact h.len, hc, own_nil 2, crash_ok h.ok ks⟩
theorem pushed_at {k : Dk} {n lb lcap : Nat} {lcs : Array Value} {uw u1 : Sl} {a : Int} {s : List UInt8} (h : DkAt k n lb lcs lcap uw) (hu : Own 2 u1 (k.W.flatMap wCells ++ wCells (a, s)) (k.W.length + 1)) (ha : 0 ≤ a ∧ a < (n : Int)) (hs : s.length = 64) : DkAt (k.pushed a s) n lb lcs lcap u1 :=
  ⟨h.len, h.l, by
    show Own 2 u1 ((k.W ++ [(a, s)]).flatMap wCells) (k.W ++ [(a, s)]).length
    rw [List.flatMap_append, List.length_append]
    simpa using hu, pushed_ok h.ok (by rw [h.len]; exact ha) hs⟩

set_option maxRecDepth 100000 in
set_option maxHeartbeats 1000000 in
theorem dk_flush (d n lb lcap : Nat) (lcs : Array Value) (uw : Sl) (k : Dk) (h : DkAt k n lb lcs lcap uw) :
    Ct Tryd.prog 74 [.pointer (some ⟨d, 0, none⟩)] [] [(some d, .cells #[.slice (some ⟨lb, 0, none⟩) n lcap, uw.v k.W.length, .int .i64 k.fuse, .bool k.dead] 110 (0, 0)), (some lb, .cells lcs 9 (0, 0)), (uw.ob, .cells uw.cs 116 uw.fz)] fun v post => v = .tuple #[] ∧ ∃ lcs1, DkAt k.flushed n lb lcs1 lcap slNil ∧ post = [(some d, .cells #[.slice (some ⟨lb, 0, none⟩) n lcap, slNil.v k.flushed.W.length, .int .i64 k.flushed.fuse, .bool k.flushed.dead] 110 (0, 0)), (some lb, .cells lcs1 9 (0, 0)), (slNil.ob, .cells slNil.cs 116 slNil.fz)] := by
 have hb := h.bd
 have hb1 := hb.n1
 have hb2 := hb.n4
 have hb3 := hb.ncs
 have hb4 := hb.ncap
 have hb5 := hb.cap
 have hb6 := hb.w
 have hb7 := hb.wc
 have hln := h.len
 refine ct_of Tryd.func74 rfl rfl (fun w0 => ?_)
 show G _ _ [(0, _)] _ _
 refine G_seq ?_
 refine G_seq ?_
 refine G_region (l := [0, 1, 2, 3, 4, 5]) rfl ?_
 refine G_val rfl rfl rfl rfl (V_move rfl rfl) ?_
 first
   | refine G_val rfl rfl rfl rfl (V_nilCheck rfl rfl) ?_
   | refine G_val rfl rfl rfl rfl (V_nilCheckF rfl rfl) ?_
 refine G_val rfl rfl rfl rfl (V_fieldAddr (fo := 1) rfl Tryd.underlying110 rfl infDiskX_108 rfl rfl rfl) ?_
 refine G_val rfl rfl rfl rfl (V_load1 rfl rfl (mem_at 0 rfl) rfl Tryd.underlying108 rfl) ?_
 refine G_val rfl rfl rfl rfl (V_len rfl rfl Tryd.underlying108 rfl) ?_
 refine G_val rfl rfl rfl rfl (V_move rfl rfl) ?_
 refine G_done ?_
 refine G_block ?_
 refine G_sub ?he1 [0, 0, 0] ?hl1 (G_loop (X := Nat × Array Value) (fun x => match x with | ⟨i, cs⟩ => i ≤ k.W.length ∧ Own 1 ⟨some lb, cs, (0, 0), lcap⟩ ((applyW k.L (k.W.take i)).map strC) n) (fun x => match x with | ⟨i, cs⟩ => k.W.length - i) (fun x => match x with | ⟨i, cs⟩ => [(0, .pointer (some ⟨d, 0, none⟩)), (7, uw.v k.W.length), (8, .int .i64 (k.W.length : Int)), (9, .int .i64 (i : Int))]) (fun x => match x with | ⟨i, cs⟩ => [(some d, .cells #[.slice (some ⟨lb, 0, none⟩) n lcap, uw.v k.W.length, .int .i64 k.fuse, .bool k.dead] 110 (0, 0)), (some lb, .cells cs 9 (0, 0)), (uw.ob, .cells uw.cs 116 uw.fz)]) ?round1 (0, lcs) ?h01)
 case he1 => exact (And.intro rfl (And.intro rfl (And.intro rfl (And.intro rfl trivial))))
 case hl1 => exact ⟨_, rfl⟩
 case h01 => exact ⟨Nat.zero_le _, h.l⟩
 case round1 =>
  intro x hJ ih
  try dsimp only at hJ ih
  obtain ⟨i, cs⟩ := x
  try dsimp only at hJ ih
  obtain ⟨hi, hux⟩ := hJ
  show G _ _ [(0, .pointer (some ⟨d, 0, none⟩)), (7, uw.v k.W.length), (8, .int .i64 (k.W.length : Int)), (9, .int .i64 (i : Int))] [(some d, .cells #[.slice (some ⟨lb, 0, none⟩) n lcap, uw.v k.W.length, .int .i64 k.fuse, .bool k.dead] 110 (0, 0)), (some lb, .cells cs 9 (0, 0)), (uw.ob, .cells uw.cs 116 uw.fz)] _
  refine G_seq ?_
  refine G_region (l := [0]) rfl ?_
  refine G_val rfl rfl rfl rfl (V_lss rfl rfl rfl) ?_
  refine G_done ?_
  refine G_seq ?_
  refine G_ifD rfl (fun hc1 => ?_) (fun hc1 => ?_)
  · skip
    refine G_skip ?_
    refine G_seq ?_
    refine G_block ?_
    refine G_seq ?_
    obtain ⟨x, hx⟩ := getI (show i < k.W.length by omega)
    obtain ⟨wo, wcs, wfz, wcap⟩ := uw
    obtain ⟨wb, rfl⟩ := h.w.isSome (by omega)
    obtain ⟨hxa, hxb⟩ := h.ok.wat x (List.mem_of_getElem? hx)
    obtain ⟨hcs, hcl⟩ := own_fit hux
    refine G_region (l := [0, 1, 2, 3]) rfl ?_
    first
      | refine G_val rfl rfl rfl rfl (V_indexAddrN (s := 2) rfl Tryd.underlying108 infDiskX_116 rfl rfl rfl rfl (by omega)) ?_
      | refine G_val rfl rfl rfl rfl (V_indexAddr (s := 2) rfl Tryd.underlying108 infDiskX_116 rfl rfl rfl (by omega) (by first | omega | (simp [wCells, kCells, wCells, kCells]; done) | (simp [wCells, kCells, wCells, kCells]; omega) | (simp [wCells, kCells, wCells, kCells] at *; omega))) ?_
    refine G_val rfl rfl rfl rfl (V_loadA (s := 2) (vs := (wCells x).toArray) rfl rfl (mem_at 2 rfl) Tryd.underlying116 rfl infDiskX_116 rfl (h.w.sees.elem w_len hx) (by first | rfl | (simp [bcells_length, wCells, kCells, wCells, kCells]; done) | (simp [bcells_length, wCells, kCells, wCells, kCells]; omega) | (simp [bcells_length, *, wCells, kCells, wCells, kCells]; done))) ?_
    refine G_new rfl rfl rfl rfl (N_allocA rfl infDiskX_116 rfl) (fun b3 => ?_)
    refine G_put (l1 := []) (L' := [_, _, _, _]) rfl rfl rfl rfl (P_storeA (s := 2) rfl rfl rfl (mem_at 0 rfl) (by first | rfl | (simp [bcells_length, wCells, kCells, wCells, kCells]; done) | (simp [bcells_length, wCells, kCells, wCells, kCells]; omega) | (simp [bcells_length, *, wCells, kCells, wCells, kCells]; done)) infDiskX_116 rfl (by first | rfl | (simp [bcells_length, wCells, kCells, wCells, kCells]; done) | (simp [bcells_length, wCells, kCells, wCells, kCells]; omega) | (simp [bcells_length, *, wCells, kCells, wCells, kCells]; done)) (by first | rfl | exact bcells_all _ | (simp [Value.oneCell', wCells, kCells, wCells, kCells]; done) | (simp [Value.oneCell', *, wCells, kCells, wCells, kCells]; done))) rfl ?_
    refine G_done ?_
    refine GH_start (Lq := [_, _]) (isq := [1, 0]) (m := 10) mixedK rfl rfl ?_
    refine GH_take 0 rfl rfl rfl rfl (by kernel_rfl) (by kernel_rfl) (by kernel_rfl) (fun _ _ => (V_move rfl rfl)) ?_
    first
      | refine GH_take 1 rfl rfl rfl rfl (by kernel_rfl) (by kernel_rfl) (by kernel_rfl) (fun _ _ => (V_nilCheck rfl rfl)) ?_
      | refine GH_take 1 rfl rfl rfl rfl (by kernel_rfl) (by kernel_rfl) (by kernel_rfl) (fun _ _ => (V_nilCheckF rfl rfl)) ?_
    refine GH_take 2 rfl rfl rfl rfl (by kernel_rfl) (by kernel_rfl) (by kernel_rfl) (fun _ _ => (V_fieldAddr (fo := 0) rfl Tryd.underlying110 rfl infDiskX_24 rfl rfl rfl)) ?_
    refine GH_take 3 rfl rfl rfl rfl (by kernel_rfl) (by kernel_rfl) (by kernel_rfl) (fun _ _ => (V_load1 rfl rfl (mem_at 0 rfl) rfl Tryd.underlying24 rfl)) ?_
    refine GH_take 4 rfl rfl rfl rfl (by kernel_rfl) (by kernel_rfl) (by kernel_rfl) (fun _ _ => (V_fieldAddr (fo := 0) rfl Tryd.underlying116 rfl infDiskX_3 rfl rfl rfl)) ?_
    refine GH_take 5 rfl rfl rfl rfl (by kernel_rfl) (by kernel_rfl) (by kernel_rfl) (fun _ _ => (V_load1 rfl rfl (mem_at 1 rfl) rfl Tryd.underlying3 rfl)) ?_
    refine GH_take 6 rfl rfl rfl rfl (by kernel_rfl) (by kernel_rfl) (by kernel_rfl) (fun _ _ => (V_fieldAddr (fo := 1) rfl Tryd.underlying116 rfl infDiskX_9 rfl rfl rfl)) ?_
    refine GH_take 7 rfl rfl rfl rfl (by kernel_rfl) (by kernel_rfl) (by kernel_rfl) (fun _ _ => (V_load1 rfl rfl (mem_at 1 rfl) rfl Tryd.underlying9 rfl)) ?_
    first
      | refine GH_take 8 rfl rfl rfl rfl (by kernel_rfl) (by kernel_rfl) (by kernel_rfl) (fun _ _ => (V_indexAddrN (s := 1) rfl Tryd.underlying24 infDiskX_9 rfl rfl rfl rfl (by omega))) ?_
      | refine GH_take 8 rfl rfl rfl rfl (by kernel_rfl) (by kernel_rfl) (by kernel_rfl) (fun _ _ => (V_indexAddr (s := 1) rfl Tryd.underlying24 infDiskX_9 rfl rfl rfl (by omega) (by first | omega | (simp [wCells, kCells, wCells, kCells]; done) | (simp [wCells, kCells, wCells, kCells]; omega) | (simp [wCells, kCells, wCells, kCells] at *; omega)))) ?_
    refine GH_all [9] (by kernel_rfl) (by decide) ?_
    refine (And.intro ?_ trivial)
    · skip
      refine GHop_put (l1 := [_, _]) (L' := [_, _, _, _]) rfl rfl rfl rfl (P_store1 rfl rfl rfl (mem_at 2 rfl) (by first | exact of_decide_eq_true rfl | omega | (simp [wCells, kCells, wCells, kCells]; done) | (simp [wCells, kCells, wCells, kCells]; omega) | (simp [wCells, kCells, wCells, kCells] at *; omega)) infDiskX_9 rfl rfl) rfl [1, 0] rfl ?_
      refine GH_done (by kernel_rfl) ?_
      refine G_inBlock ?_
      refine G_region (l := [0, 1]) rfl ?_
      first
        | refine G_val rfl rfl rfl rfl ((V_add rfl rfl rfl).int (wrap_i64 (by omega))) ?_
        | refine G_val rfl rfl rfl rfl (V_add rfl rfl rfl) ?_
      refine G_val rfl rfl rfl rfl (V_move rfl rfl) ?_
      refine G_done ?_
      refine G_sub ?_ [1, 1, 1] ?_ (ih (i + 1, cs.setIfInBounds (0 + x.1.toNat * 1) (.string (bs x.2))) ?_ ?_)
      · (refine (And.intro ?_ (And.intro ?_ (And.intro ?_ (And.intro ?_ trivial)))) <;> first | rfl | exact slot_int (by omega) | exact slot_int (by simp))
      · exact ⟨_, rfl⟩
      · exact ⟨by omega, by rw [applyW_next hx]; exact own_set hux x.1.toNat (by omega) x.2⟩
      · (first | omega | (dsimp only; omega))
  refine G_exit rfl ?_
  refine G_addNone (.cells #[] 116 (0, 0)) ?_
  refine G_region (l := [0, 1, 2, 3]) rfl ?_
  refine G_val rfl rfl rfl rfl (V_move rfl rfl) ?_
  first
    | refine G_val rfl rfl rfl rfl (V_nilCheck rfl rfl) ?_
    | refine G_val rfl rfl rfl rfl (V_nilCheckF rfl rfl) ?_
  refine G_val rfl rfl rfl rfl (V_fieldAddr (fo := 1) rfl Tryd.underlying110 rfl infDiskX_108 rfl rfl rfl) ?_
  refine G_put (l1 := [_]) (L' := [_, _, _, _]) rfl rfl rfl rfl (P_store1 rfl rfl rfl (mem_at 1 rfl) (by first | exact of_decide_eq_true rfl | omega | (simp [wCells, kCells, wCells, kCells]; done) | (simp [wCells, kCells, wCells, kCells]; omega) | (simp [wCells, kCells, wCells, kCells] at *; omega)) infDiskX_108 rfl rfl) rfl ?_
  refine G_done ?_
  refine G_end (post := [_, _, _]) Tryd.func74 rfl RVs_nil [1, 1, 0] rfl ?_
  dsimp only [packed]
  rw [applyW_end (by omega)] at hux; exact ⟨rfl, cs, flushed_at h hux, rfl⟩

set_option maxRecDepth 100000 in
set_option maxHeartbeats 1000000 in
theorem dk_step_flush (d n lb lcap : Nat) (lcs : Array Value) (uw : Sl) (k : Dk) (h : DkAt k n lb lcs lcap uw) :
    Ct Tryd.prog 64 [.func (.func 65) #[.pointer (some ⟨d, 0, none⟩)] #[], .func (.func 74) #[.pointer (some ⟨d, 0, none⟩)] #[]] [] [(some d, .cells #[.slice (some ⟨lb, 0, none⟩) n lcap, uw.v k.W.length, .int .i64 k.fuse, .bool k.dead] 110 (0, 0)), (some lb, .cells lcs 9 (0, 0)), (uw.ob, .cells uw.cs 116 uw.fz)] fun v post => v = .int .i64 (k.syncE) ∧ ∃ lcs1 uw1, DkAt (k.sync) n lb lcs1 lcap uw1 ∧ post = [(some d, .cells #[.slice (some ⟨lb, 0, none⟩) n lcap, uw1.v (k.sync).W.length, .int .i64 (k.sync).fuse, .bool (k.sync).dead] 110 (0, 0)), (some lb, .cells lcs1 9 (0, 0)), (uw1.ob, .cells uw1.cs 116 uw1.fz)] := by
 have hb := h.bd
 have hb1 := hb.n1
 have hb2 := hb.n4
 have hb3 := hb.ncs
 have hb4 := hb.ncap
 have hb5 := hb.cap
 have hb6 := hb.w
 have hb7 := hb.wc
 have hln := h.len
 refine ct_of Tryd.func64 rfl rfl (fun w0 => ?_)
 show G _ _ [(0, _), (1, _)] _ _
 refine G_seq ?_
 refine G_region (l := [0]) rfl ?_
 refine G_val rfl rfl rfl rfl (V_assign rfl rfl) ?_
 refine G_done ?_
 refine G_seq ?_
 refine G_seq ?_
 refine G_region (l := [0, 1]) rfl ?_
 refine G_val rfl rfl rfl rfl (V_move rfl rfl) ?_
 refine G_callB (L2 := [_, _]) rfl rfl rfl rfl rfl rfl Tryd.call65 rfl (dk_spent _ _ _ _ _ ⟨h.ok.f0, h.ok.f1⟩) [0] [] rfl rfl ?_
 rintro v post ⟨rfl, rfl⟩
 show G _ _ _ [_, _, _] _
 refine G_done ?_
 refine G_if rfl (fun hc1 => ?_) (fun hc1 => ?_)
 · skip
   refine G_seq ?_
   refine G_region (l := [0]) rfl ?_
   refine G_val rfl rfl rfl rfl (V_assign rfl rfl) ?_
   refine G_done ?_
   refine G_ret (post := [_, _, _]) Tryd.func64 rfl (RVs_cons (RV_tmp rfl) RVs_nil) [0, 0, 0] rfl ?_
   dsimp only [packed]
   first
     | (obtain ⟨e1, e2⟩ := sync_dead hc1; rw [e1, e2]; exact ⟨rfl, lcs, uw, spent_at h, rfl⟩)
     | (obtain ⟨e1, e2⟩ := sync_live hc1; rw [e1, e2]; exact ⟨rfl, lcs1, slNil, h1, rfl⟩)
 refine G_skip ?_
 refine G_seq ?_
 refine G_region (l := [0, 1]) rfl ?_
 refine G_val rfl rfl rfl rfl (V_move rfl rfl) ?_
 refine G_callB (L2 := []) rfl rfl rfl rfl rfl rfl Tryd.call74 rfl (dk_flush d n lb lcap lcs uw k.spent (spent_at h)) [0, 0, 0] [] rfl rfl ?_
 rintro v post ⟨rfl, lcs1, h1, rfl⟩
 show G _ _ _ [_, _, _] _
 refine G_done ?_
 refine G_seq ?_
 refine G_region (l := [0]) rfl ?_
 refine G_val rfl rfl rfl rfl (V_assign rfl rfl) ?_
 refine G_done ?_
 refine G_ret (post := [_, _, _]) Tryd.func64 rfl (RVs_cons (RV_tmp rfl) RVs_nil) [0, 0, 0] rfl ?_
 dsimp only [packed]
 first
   | (obtain ⟨e1, e2⟩ := sync_dead hc1; rw [e1, e2]; exact ⟨rfl, lcs, uw, spent_at h, rfl⟩)
   | (obtain ⟨e1, e2⟩ := sync_live hc1; rw [e1, e2]; exact ⟨rfl, lcs1, slNil, h1, rfl⟩)

set_option maxRecDepth 100000 in
set_option maxHeartbeats 1000000 in
theorem dk_sync (d n lb lcap : Nat) (lcs : Array Value) (uw : Sl) (k : Dk) (h : DkAt k n lb lcs lcap uw) :
    Ct Tryd.prog 31 [.pointer (some ⟨d, 0, none⟩)] [] [(some d, .cells #[.slice (some ⟨lb, 0, none⟩) n lcap, uw.v k.W.length, .int .i64 k.fuse, .bool k.dead] 110 (0, 0)), (some lb, .cells lcs 9 (0, 0)), (uw.ob, .cells uw.cs 116 uw.fz)] fun v post => v = .int .i64 (k.syncE) ∧ ∃ lcs1 uw1, DkAt (k.sync) n lb lcs1 lcap uw1 ∧ post = [(some d, .cells #[.slice (some ⟨lb, 0, none⟩) n lcap, uw1.v (k.sync).W.length, .int .i64 (k.sync).fuse, .bool (k.sync).dead] 110 (0, 0)), (some lb, .cells lcs1 9 (0, 0)), (uw1.ob, .cells uw1.cs 116 uw1.fz)] := by
 refine ct_of Tryd.func31 rfl rfl (fun w0 => ?_)
 show G _ _ [(0, _)] _ _
 refine G_seq ?_
 refine G_region (l := [0]) rfl ?_
 refine G_val rfl rfl rfl rfl (V_assign rfl rfl) ?_
 refine G_done ?_
 refine G_seq ?_
 refine G_seq ?_
 refine G_region (l := [0, 1]) rfl ?_
 refine G_val rfl rfl rfl rfl (V_move rfl rfl) ?_
 refine G_val rfl rfl rfl rfl (V_peqlN rfl Tryd.underlying35 rfl rfl) ?_
 refine G_done ?_
 refine G_else rfl ?_
 refine G_skip ?_
 refine G_seq ?_
 refine G_region (l := [0, 1, 2, 3, 4, 5]) rfl ?_
 refine G_val rfl rfl rfl rfl (V_move rfl rfl) ?_
 refine G_val rfl rfl rfl rfl (V_func rfl rfl rfl) ?_
 refine G_val rfl rfl rfl rfl (V_move rfl rfl) ?_
 refine G_val rfl rfl rfl rfl (V_func rfl rfl rfl) ?_
 refine G_call (L2 := []) rfl rfl rfl rfl rfl rfl Tryd.call64 (dk_step_flush d n lb lcap lcs uw k h) [0, 0, 0] [] rfl rfl ?_
 rintro v post ⟨rfl, lcs1, uw1, h1, rfl⟩
 show G _ _ _ [_, _, _] _
 refine G_val rfl rfl rfl rfl (V_assign rfl rfl) ?_
 refine G_done ?_
 refine G_ret (post := [_, _, _]) Tryd.func31 rfl (RVs_cons (RV_tmp rfl) RVs_nil) [0, 0, 0] rfl ?_
 dsimp only [packed]
 exact ⟨rfl, lcs1, uw1, h1, rfl⟩

set_option maxRecDepth 100000 in
set_option maxHeartbeats 1000000 in
theorem dk_sync_nil  :
    Ct Tryd.prog 31 [.pointer none] [] [] fun v post => v = .int .i64 19 ∧ post = [] := by
 refine ct_of Tryd.func31 rfl rfl (fun w0 => ?_)
 show G _ _ [(0, _)] _ _
 refine G_seq ?_
 refine G_region (l := [0]) rfl ?_
 refine G_val rfl rfl rfl rfl (V_assign rfl rfl) ?_
 refine G_done ?_
 refine G_seq ?_
 refine G_seq ?_
 refine G_region (l := [0, 1]) rfl ?_
 refine G_val rfl rfl rfl rfl (V_move rfl rfl) ?_
 refine G_val rfl rfl rfl rfl (V_peqlN rfl Tryd.underlying35 rfl rfl) ?_
 refine G_done ?_
 refine G_then rfl ?_
 refine G_seq ?_
 refine G_region (l := [0]) rfl ?_
 refine G_val rfl rfl rfl rfl (V_assign rfl rfl) ?_
 refine G_done ?_
 refine G_ret (post := []) Tryd.func31 rfl (RVs_cons (RV_tmp rfl) RVs_nil) [] rfl ?_
 dsimp only [packed]
 exact ⟨rfl, rfl⟩

set_option maxRecDepth 100000 in
set_option maxHeartbeats 1000000 in
theorem dk_write1 (d n lb lcap : Nat) (lcs : Array Value) (uw : Sl) (k : Dk) (h : DkAt k n lb lcs lcap uw) (b3 b4 b5 : Nat) (a : Int) (s : List UInt8) (hW : k.W.length ≤ 1000000) :
    Ct Tryd.prog 66 [.pointer (some ⟨b3, 0, none⟩), .pointer (some ⟨b4, 0, none⟩), .pointer (some ⟨b5, 0, none⟩)] [(some b3, .cells #[.pointer (some ⟨d, 0, none⟩)] 35 (0, 0)), (some b4, .cells #[.int .i64 a] 3 (0, 0)), (some b5, .cells #[.string (bs s)] 9 (0, 0))] [(some d, .cells #[.slice (some ⟨lb, 0, none⟩) n lcap, uw.v k.W.length, .int .i64 k.fuse, .bool k.dead] 110 (0, 0)), (uw.ob, .cells uw.cs 116 uw.fz)] fun v post => v = .tuple #[] ∧ ∃ u1, Own 2 u1 (k.W.flatMap wCells ++ wCells (a, s)) (k.W.length + 1) ∧ post = [(some d, .cells #[.slice (some ⟨lb, 0, none⟩) n lcap, u1.v (k.W.length + 1), .int .i64 k.fuse, .bool k.dead] 110 (0, 0)), (u1.ob, .cells u1.cs 116 u1.fz)] := by
 have hb := h.bd
 have hb1 := hb.n1
 have hb2 := hb.n4
 have hb3 := hb.ncs
 have hb4 := hb.ncap
 have hb5 := hb.cap
 have hb6 := hb.w
 have hb7 := hb.wc
 have hln := h.len
 refine ct_of Tryd.func66 rfl rfl (fun w0 => ?_)
 show G _ _ [(0, _), (1, _), (2, _)] _ _
 refine GH_start (Lq := []) (isq := []) (m := 13) mixedK rfl rfl ?_
 refine GH_take 0 rfl rfl rfl rfl (by kernel_rfl) (by kernel_rfl) (by kernel_rfl) (fun _ _ => (V_load1 rfl rfl (mem_at 0 rfl) rfl Tryd.underlying35 rfl)) ?_
 refine GH_take 1 rfl rfl rfl rfl (by kernel_rfl) (by kernel_rfl) (by kernel_rfl) (fun _ _ => (V_load1 rfl rfl (mem_at 0 rfl) rfl Tryd.underlying35 rfl)) ?_
 first
   | refine GH_take 2 rfl rfl rfl rfl (by kernel_rfl) (by kernel_rfl) (by kernel_rfl) (fun _ _ => (V_nilCheck rfl rfl)) ?_
   | refine GH_take 2 rfl rfl rfl rfl (by kernel_rfl) (by kernel_rfl) (by kernel_rfl) (fun _ _ => (V_nilCheckF rfl rfl)) ?_
 refine GH_take 3 rfl rfl rfl rfl (by kernel_rfl) (by kernel_rfl) (by kernel_rfl) (fun _ _ => (V_fieldAddr (fo := 1) rfl Tryd.underlying110 rfl infDiskX_108 rfl rfl rfl)) ?_
 refine GH_take 5 rfl rfl rfl rfl (by kernel_rfl) (by kernel_rfl) (by kernel_rfl) (fun _ _ => (V_load1 rfl rfl (mem_at 1 rfl) rfl Tryd.underlying3 rfl)) ?_
 refine GH_take 6 rfl rfl rfl rfl (by kernel_rfl) (by kernel_rfl) (by kernel_rfl) (fun _ _ => (V_load1 rfl rfl (mem_at 2 rfl) rfl Tryd.underlying9 rfl)) ?_
 refine GH_take 7 rfl rfl rfl rfl (by kernel_rfl) (by kernel_rfl) (by kernel_rfl) (fun _ _ => (V_buildS (cs := [_, _]) rfl Tryd.underlying116 infDiskX_116 rfl plcDiskX_116 rfl rfl rfl)) ?_
 refine GH_all [4, 8] (by kernel_rfl) (by decide) ?_
 refine (And.intro ?_ (And.intro ?_ trivial))
 · skip
   refine GHop_val rfl rfl rfl rfl (V_load1 rfl rfl (mem_at 3 rfl) rfl Tryd.underlying108 rfl) ?_
   refine GH_all [8] (by kernel_rfl) (by decide) ?_
   refine (And.intro ?_ trivial)
   · skip
     refine GHop_new rfl rfl rfl rfl (N_buildAll (s := 2) (cs := [_, _]) rfl Tryd.underlying108 infDiskX_116 rfl rfl rfl rfl rfl rfl rfl rfl rfl) [] (fun _ => ⟨_, rfl⟩) (fun b11 => ?_)
     refine GH_all [9] (by kernel_rfl) (by decide) ?_
     refine (And.intro ?_ trivial)
     · skip
       refine GHop_append (l1 := [_, _]) (s := uw) (nn := k.W.length) (m := 1) (news := wCells (a, s)) (bt := 24) rfl rfl rfl rfl Tryd.underlying108 Tryd.underlying108 (by first | exact .inl rfl | exact .inr ⟨_, rfl⟩) infDiskX_116 rfl rfl rfl rfl rfl rfl h.w rfl (src_mem (mem_at 3 rfl) rfl rfl (by simp [wCells, Value.oneCell'])) (by omega) (by omega) [] (fun _ => ⟨_, rfl⟩) ?_
       intro u1 hu1 _
       show GH _ _ _ _ _ _ _ [_, _, _] _
       first
         | refine GH_take 10 rfl rfl rfl rfl (by kernel_rfl) (by kernel_rfl) (by kernel_rfl) (fun _ _ => (V_nilCheck rfl rfl)) ?_
         | refine GH_take 10 rfl rfl rfl rfl (by kernel_rfl) (by kernel_rfl) (by kernel_rfl) (fun _ _ => (V_nilCheckF rfl rfl)) ?_
       refine GH_take 11 rfl rfl rfl rfl (by kernel_rfl) (by kernel_rfl) (by kernel_rfl) (fun _ _ => (V_fieldAddr (fo := 1) rfl Tryd.underlying110 rfl infDiskX_108 rfl rfl rfl)) ?_
       refine GH_all [12] (by kernel_rfl) (by decide) ?_
       refine (And.intro ?_ trivial)
       · skip
         refine GHop_put (l1 := [_]) (L' := [_, _, _]) rfl rfl rfl rfl (P_store1 rfl rfl rfl (mem_at 1 rfl) (by first | exact of_decide_eq_true rfl | omega | (simp [wCells, kCells, wCells, kCells]; done) | (simp [wCells, kCells, wCells, kCells]; omega) | (simp [wCells, kCells, wCells, kCells] at *; omega)) infDiskX_108 rfl rfl) rfl [] rfl ?_
         refine GH_done (by kernel_rfl) ?_
         refine G_end (post := [_, _]) Tryd.func66 rfl RVs_nil [1, 1] rfl ?_
         dsimp only [packed]
         exact ⟨rfl, u1, hu1, rfl⟩
 · skip
   refine GHop_new rfl rfl rfl rfl (N_buildAll (s := 2) (cs := [_, _]) rfl Tryd.underlying108 infDiskX_116 rfl rfl rfl rfl rfl rfl rfl rfl rfl) [] (fun _ => ⟨_, rfl⟩) (fun b11 => ?_)
   refine GH_all [4] (by kernel_rfl) (by decide) ?_
   refine (And.intro ?_ trivial)
   · skip
     refine GHop_val rfl rfl rfl rfl (V_load1 rfl rfl (mem_at 4 rfl) rfl Tryd.underlying108 rfl) ?_
     refine GH_all [9] (by kernel_rfl) (by decide) ?_
     refine (And.intro ?_ trivial)
     · skip
       refine GHop_append (l1 := [_, _]) (s := uw) (nn := k.W.length) (m := 1) (news := wCells (a, s)) (bt := 24) rfl rfl rfl rfl Tryd.underlying108 Tryd.underlying108 (by first | exact .inl rfl | exact .inr ⟨_, rfl⟩) infDiskX_116 rfl rfl rfl rfl rfl rfl h.w rfl (src_mem (mem_at 3 rfl) rfl rfl (by simp [wCells, Value.oneCell'])) (by omega) (by omega) [] (fun _ => ⟨_, rfl⟩) ?_
       intro u1 hu1 _
       show GH _ _ _ _ _ _ _ [_, _, _] _
       first
         | refine GH_take 10 rfl rfl rfl rfl (by kernel_rfl) (by kernel_rfl) (by kernel_rfl) (fun _ _ => (V_nilCheck rfl rfl)) ?_
         | refine GH_take 10 rfl rfl rfl rfl (by kernel_rfl) (by kernel_rfl) (by kernel_rfl) (fun _ _ => (V_nilCheckF rfl rfl)) ?_
       refine GH_take 11 rfl rfl rfl rfl (by kernel_rfl) (by kernel_rfl) (by kernel_rfl) (fun _ _ => (V_fieldAddr (fo := 1) rfl Tryd.underlying110 rfl infDiskX_108 rfl rfl rfl)) ?_
       refine GH_all [12] (by kernel_rfl) (by decide) ?_
       refine (And.intro ?_ trivial)
       · skip
         refine GHop_put (l1 := [_]) (L' := [_, _, _]) rfl rfl rfl rfl (P_store1 rfl rfl rfl (mem_at 1 rfl) (by first | exact of_decide_eq_true rfl | omega | (simp [wCells, kCells, wCells, kCells]; done) | (simp [wCells, kCells, wCells, kCells]; omega) | (simp [wCells, kCells, wCells, kCells] at *; omega)) infDiskX_108 rfl rfl) rfl [] rfl ?_
         refine GH_done (by kernel_rfl) ?_
         refine G_end (post := [_, _]) Tryd.func66 rfl RVs_nil [1, 1] rfl ?_
         dsimp only [packed]
         exact ⟨rfl, u1, hu1, rfl⟩

set_option maxRecDepth 100000 in
set_option maxHeartbeats 1000000 in
theorem dk_step_write (d n lb lcap : Nat) (lcs : Array Value) (uw : Sl) (k : Dk) (h : DkAt k n lb lcs lcap uw) (b3 b4 b5 : Nat) (a : Int) (s : List UInt8) (hW : k.W.length ≤ 1000000) (ha : hasE k.L.length a = 0) (hs : s.length = 64) :
    Ct Tryd.prog 64 [.func (.func 65) #[.pointer (some ⟨d, 0, none⟩)] #[], .func (.func 66) #[] #[.pointer (some ⟨b3, 0, none⟩), .pointer (some ⟨b4, 0, none⟩), .pointer (some ⟨b5, 0, none⟩)]] [(some b3, .cells #[.pointer (some ⟨d, 0, none⟩)] 35 (0, 0)), (some b4, .cells #[.int .i64 a] 3 (0, 0)), (some b5, .cells #[.string (bs s)] 9 (0, 0))] [(some d, .cells #[.slice (some ⟨lb, 0, none⟩) n lcap, uw.v k.W.length, .int .i64 k.fuse, .bool k.dead] 110 (0, 0)), (some lb, .cells lcs 9 (0, 0)), (uw.ob, .cells uw.cs 116 uw.fz)] fun v post => v = .int .i64 (k.writeE a s) ∧ ∃ lcs1 uw1, DkAt (k.write a s) n lb lcs1 lcap uw1 ∧ post = [(some d, .cells #[.slice (some ⟨lb, 0, none⟩) n lcap, uw1.v (k.write a s).W.length, .int .i64 (k.write a s).fuse, .bool (k.write a s).dead] 110 (0, 0)), (some lb, .cells lcs1 9 (0, 0)), (uw1.ob, .cells uw1.cs 116 uw1.fz)] := by
 have hb := h.bd
 have hb1 := hb.n1
 have hb2 := hb.n4
 have hb3 := hb.ncs
 have hb4 := hb.ncap
 have hb5 := hb.cap
 have hb6 := hb.w
 have hb7 := hb.wc
 have hln := h.len
 refine ct_of Tryd.func64 rfl rfl (fun w0 => ?_)
 show G _ _ [(0, _), (1, _)] _ _
 refine G_seq ?_
 refine G_region (l := [0]) rfl ?_
 refine G_val rfl rfl rfl rfl (V_assign rfl rfl) ?_
 refine G_done ?_
 refine G_seq ?_
 refine G_seq ?_
 refine G_region (l := [0, 1]) rfl ?_
 refine G_val rfl rfl rfl rfl (V_move rfl rfl) ?_
 refine G_callB (L2 := [_, _]) rfl rfl rfl rfl rfl rfl Tryd.call65 rfl (dk_spent _ _ _ _ _ ⟨h.ok.f0, h.ok.f1⟩) [0] [] rfl rfl ?_
 rintro v post ⟨rfl, rfl⟩
 show G _ _ _ [_, _, _] _
 refine G_done ?_
 refine G_if rfl (fun hc1 => ?_) (fun hc1 => ?_)
 · skip
   refine G_seq ?_
   refine G_region (l := [0]) rfl ?_
   refine G_val rfl rfl rfl rfl (V_assign rfl rfl) ?_
   refine G_done ?_
   refine G_ret (post := [_, _, _]) Tryd.func64 rfl (RVs_cons (RV_tmp rfl) RVs_nil) [0, 0, 0] rfl ?_
   dsimp only [packed]
   first
     | (obtain ⟨e1, e2⟩ := write_dead ha hs hc1; rw [e1, e2]; exact ⟨rfl, lcs, uw, spent_at h, rfl⟩)
     | (obtain ⟨e1, e2⟩ := write_live ha hs hc1
        have hr := hasE_ok.1 ha
        have e3 : (k.spent.pushed a s).W.length = k.W.length + 1 := by show (k.W ++ [(a, s)]).length = _; simp
        rw [e1, e2, e3]; exact ⟨rfl, lcs, u1, pushed_at (spent_at h) hu1 ⟨hr.1, by omega⟩ hs, rfl⟩)
 refine G_skip ?_
 refine G_seq ?_
 refine G_region (l := [0, 1]) rfl ?_
 refine G_val rfl rfl rfl rfl (V_move rfl rfl) ?_
 refine G_callB (L2 := [_]) rfl rfl rfl rfl rfl rfl Tryd.call66 rfl (dk_write1 d n lb lcap lcs uw k.spent (spent_at h) b3 b4 b5 a s hW) [0, 1] [0, 1, 2] rfl rfl ?_
 rintro v post ⟨rfl, u1, hu1, rfl⟩
 show G _ _ _ [_, _, _] _
 refine G_done ?_
 refine G_seq ?_
 refine G_region (l := [0]) rfl ?_
 refine G_val rfl rfl rfl rfl (V_assign rfl rfl) ?_
 refine G_done ?_
 refine G_ret (post := [_, _, _]) Tryd.func64 rfl (RVs_cons (RV_tmp rfl) RVs_nil) [0, 1, 0] rfl ?_
 dsimp only [packed]
 first
   | (obtain ⟨e1, e2⟩ := write_dead ha hs hc1; rw [e1, e2]; exact ⟨rfl, lcs, uw, spent_at h, rfl⟩)
   | (obtain ⟨e1, e2⟩ := write_live ha hs hc1
      have hr := hasE_ok.1 ha
      have e3 : (k.spent.pushed a s).W.length = k.W.length + 1 := by show (k.W ++ [(a, s)]).length = _; simp
      rw [e1, e2, e3]; exact ⟨rfl, lcs, u1, pushed_at (spent_at h) hu1 ⟨hr.1, by omega⟩ hs, rfl⟩)

set_option maxRecDepth 100000 in
set_option maxHeartbeats 1000000 in
theorem dk_write (d n lb lcap : Nat) (lcs : Array Value) (uw : Sl) (k : Dk) (h : DkAt k n lb lcs lcap uw) (a : Int) (s : List UInt8) (hW : k.W.length ≤ 1000000) :
    Ct Tryd.prog 20 [.pointer (some ⟨d, 0, none⟩), .int .i64 a, .string (bs s)] [] [(some d, .cells #[.slice (some ⟨lb, 0, none⟩) n lcap, uw.v k.W.length, .int .i64 k.fuse, .bool k.dead] 110 (0, 0)), (some lb, .cells lcs 9 (0, 0)), (uw.ob, .cells uw.cs 116 uw.fz)] fun v post => v = .int .i64 (k.writeE a s) ∧ ∃ lcs1 uw1, DkAt (k.write a s) n lb lcs1 lcap uw1 ∧ post = [(some d, .cells #[.slice (some ⟨lb, 0, none⟩) n lcap, uw1.v (k.write a s).W.length, .int .i64 (k.write a s).fuse, .bool (k.write a s).dead] 110 (0, 0)), (some lb, .cells lcs1 9 (0, 0)), (uw1.ob, .cells uw1.cs 116 uw1.fz)] := by
 have hb := h.bd
 have hb1 := hb.n1
 have hb2 := hb.n4
 have hb3 := hb.ncs
 have hb4 := hb.ncap
 have hb5 := hb.cap
 have hb6 := hb.w
 have hb7 := hb.wc
 have hln := h.len
 refine ct_of Tryd.func20 rfl rfl (fun w0 => ?_)
 show G _ _ [(0, _), (1, _), (2, _)] _ _
 refine G_seq ?_
 refine G_region (l := [0, 1, 2, 3]) rfl ?_
 refine G_new rfl rfl rfl rfl (N_box1 rfl rfl rfl) (fun b3 => ?_)
 refine G_new rfl rfl rfl rfl (N_box1 rfl rfl rfl) (fun b4 => ?_)
 refine G_new rfl rfl rfl rfl (N_box1 rfl rfl rfl) (fun b5 => ?_)
 refine G_val rfl rfl rfl rfl (V_assign rfl rfl) ?_
 refine G_done ?_
 refine G_seq ?_
 refine G_seq ?_
 refine G_region (l := [0, 1, 2, 3]) rfl ?_
 refine G_val rfl rfl rfl rfl (V_load1 rfl rfl (mem_at 2 rfl) rfl Tryd.underlying35 rfl) ?_
 refine G_val rfl rfl rfl rfl (V_load1 rfl rfl (mem_at 1 rfl) rfl Tryd.underlying3 rfl) ?_
 refine G_call (L2 := [_, _, _, _, _, _]) rfl rfl rfl rfl rfl rfl Tryd.call63 (dk_has _ _ _ _ _ _ _ h _) [] [3] rfl rfl ?_
 rintro v post ⟨rfl, rfl⟩
 show G _ _ _ [_, _, _, _, _, _] _
 refine G_val rfl rfl rfl rfl (V_assign rfl rfl) ?_
 refine G_done ?_
 refine G_seq ?_
 refine G_region (l := [0, 1]) rfl ?_
 refine G_val rfl rfl rfl rfl (V_move rfl rfl) ?_
 refine G_val rfl rfl rfl rfl (V_neq rfl rfl rfl) ?_
 refine G_done ?_
 refine G_ifD rfl (fun hc1 => ?_) (fun hc1 => ?_)
 · skip
   refine G_seq ?_
   refine G_region (l := [0, 1]) rfl ?_
   refine G_val rfl rfl rfl rfl (V_move rfl rfl) ?_
   refine G_val rfl rfl rfl rfl (V_assign rfl rfl) ?_
   refine G_done ?_
   refine G_ret (post := [_, _, _]) Tryd.func20 rfl (RVs_cons (RV_tmp rfl) RVs_nil) [3, 3, 3] rfl ?_
   dsimp only [packed]
   first
     | exact ⟨rfl, lcs1, uw1, h1, rfl⟩
     | (obtain ⟨e1, e2⟩ := write_no1 (s := s) (by assumption : ¬ hasE k.L.length a = 0); rw [e1, e2]; exact ⟨rfl, lcs, uw, h, rfl⟩)
     | (obtain ⟨e1, e2⟩ := write_no2 (Classical.not_not.1 hc1) hc2; rw [e1, e2]; exact ⟨rfl, lcs, uw, h, rfl⟩)
 refine G_skip ?_
 refine G_seq ?_
 refine G_seq ?_
 refine G_region (l := [0, 1, 2]) rfl ?_
 refine G_val rfl rfl rfl rfl (V_load1 rfl rfl (mem_at 0 rfl) rfl Tryd.underlying9 rfl) ?_
 refine G_val rfl rfl rfl rfl (V_slen rfl rfl Tryd.underlying9 rfl) ?_
 refine G_val rfl rfl rfl rfl (V_neq rfl rfl rfl) ?_
 refine G_done ?_
 refine G_ifD rfl (fun hc2 => ?_) (fun hc2 => ?_)
 · skip
   refine G_seq ?_
   refine G_region (l := [0]) rfl ?_
   refine G_val rfl rfl rfl rfl (V_assign rfl rfl) ?_
   refine G_done ?_
   refine G_ret (post := [_, _, _]) Tryd.func20 rfl (RVs_cons (RV_tmp rfl) RVs_nil) [3, 3, 3] rfl ?_
   dsimp only [packed]
   first
     | exact ⟨rfl, lcs1, uw1, h1, rfl⟩
     | (obtain ⟨e1, e2⟩ := write_no1 (s := s) (by assumption : ¬ hasE k.L.length a = 0); rw [e1, e2]; exact ⟨rfl, lcs, uw, h, rfl⟩)
     | (obtain ⟨e1, e2⟩ := write_no2 (Classical.not_not.1 hc1) hc2; rw [e1, e2]; exact ⟨rfl, lcs, uw, h, rfl⟩)
 refine G_skip ?_
 refine G_seq ?_
 refine G_region (l := [0, 1, 2, 3, 4]) rfl ?_
 refine G_val rfl rfl rfl rfl (V_load1 rfl rfl (mem_at 2 rfl) rfl Tryd.underlying35 rfl) ?_
 refine G_val rfl rfl rfl rfl (V_func rfl rfl rfl) ?_
 refine G_val rfl rfl rfl rfl (V_func rfl rfl rfl) ?_
 refine G_call (L2 := [_, _, _]) rfl rfl rfl rfl rfl rfl Tryd.call64 (dk_step_write d n lb lcap lcs uw k h b3 b4 b5 a s hW (Classical.not_not.1 hc1) (by omega)) [3, 3, 3] [2, 1, 0] rfl rfl ?_
 rintro v post ⟨rfl, lcs1, uw1, h1, rfl⟩
 show G _ _ _ [_, _, _, _, _, _] _
 refine G_val rfl rfl rfl rfl (V_assign rfl rfl) ?_
 refine G_done ?_
 refine G_ret (post := [_, _, _]) Tryd.func20 rfl (RVs_cons (RV_tmp rfl) RVs_nil) [0, 0, 0] rfl ?_
 dsimp only [packed]
 first
   | exact ⟨rfl, lcs1, uw1, h1, rfl⟩
   | (obtain ⟨e1, e2⟩ := write_no1 (s := s) (by assumption : ¬ hasE k.L.length a = 0); rw [e1, e2]; exact ⟨rfl, lcs, uw, h, rfl⟩)
   | (obtain ⟨e1, e2⟩ := write_no2 (Classical.not_not.1 hc1) hc2; rw [e1, e2]; exact ⟨rfl, lcs, uw, h, rfl⟩)

set_option maxRecDepth 100000 in
set_option maxHeartbeats 1000000 in
theorem dk_write_nil (a : Int) (s : List UInt8) :
    Ct Tryd.prog 20 [.pointer none, .int .i64 a, .string (bs s)] [] [] fun v post => v = .int .i64 19 ∧ post = [] := by
 refine ct_of Tryd.func20 rfl rfl (fun w0 => ?_)
 show G _ _ [(0, _), (1, _), (2, _)] _ _
 refine G_seq ?_
 refine G_region (l := [0, 1, 2, 3]) rfl ?_
 refine G_new rfl rfl rfl rfl (N_box1 rfl rfl rfl) (fun b3 => ?_)
 refine G_new rfl rfl rfl rfl (N_box1 rfl rfl rfl) (fun b4 => ?_)
 refine G_new rfl rfl rfl rfl (N_box1 rfl rfl rfl) (fun b5 => ?_)
 refine G_val rfl rfl rfl rfl (V_assign rfl rfl) ?_
 refine G_done ?_
 refine G_seq ?_
 refine G_seq ?_
 refine G_region (l := [0, 1, 2, 3]) rfl ?_
 refine G_val rfl rfl rfl rfl (V_load1 rfl rfl (mem_at 2 rfl) rfl Tryd.underlying35 rfl) ?_
 refine G_val rfl rfl rfl rfl (V_load1 rfl rfl (mem_at 1 rfl) rfl Tryd.underlying3 rfl) ?_
 refine G_call (L2 := [_, _, _]) rfl rfl rfl rfl rfl rfl Tryd.call63 (dk_has_nil a) [] [] rfl rfl ?_
 rintro v post ⟨rfl, rfl⟩
 show G _ _ _ [_, _, _] _
 refine G_val rfl rfl rfl rfl (V_assign rfl rfl) ?_
 refine G_done ?_
 refine G_seq ?_
 refine G_region (l := [0, 1]) rfl ?_
 refine G_val rfl rfl rfl rfl (V_move rfl rfl) ?_
 refine G_val rfl rfl rfl rfl (V_neq rfl rfl rfl) ?_
 refine G_done ?_
 refine G_ifD rfl (fun hc1 => ?_) (fun hc1 => ?_)
 rotate_left
 · (first | (exact absurd rfl hc1) | (exact absurd hc1 (by decide)) | (exfalso; omega))
 refine G_seq ?_
 refine G_region (l := [0, 1]) rfl ?_
 refine G_val rfl rfl rfl rfl (V_move rfl rfl) ?_
 refine G_val rfl rfl rfl rfl (V_assign rfl rfl) ?_
 refine G_done ?_
 refine G_ret (post := []) Tryd.func20 rfl (RVs_cons (RV_tmp rfl) RVs_nil) [] rfl ?_
 dsimp only [packed]
 exact ⟨rfl, rfl⟩

end
end Go.Proofs.YtbblkgdejgoncaaDoor
