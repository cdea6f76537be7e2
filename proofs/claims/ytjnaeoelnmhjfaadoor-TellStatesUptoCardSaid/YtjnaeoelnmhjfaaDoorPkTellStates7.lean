/- The law TellStates: of any state the program tells the lines that the document tells; the call returns true and leaves its argument as it was. The arguments hold at most 1048576 values and letters. -/
import Derived.Test.YtjnaeoelnmhjfaaDoorPkTellStates1
import Derived.Test.YtjnaeoelnmhjfaaDoorPkTellStates2
import Derived.Test.YtjnaeoelnmhjfaaDoorPkTellStates3
import Derived.Test.YtjnaeoelnmhjfaaDoorPkTellStates4
import Derived.Test.YtjnaeoelnmhjfaaDoorPkTellStates5
import Derived.Test.YtjnaeoelnmhjfaaDoorPkTellStates6
import Derived.Test.YtjnaeoelnmhjfaaDoorRows
import Derived.WalkKit
import Derived.ProofKit
import Derived.OpenShut
import Derived.ShutString
import Derived.ChangeOld
import Derived.Below
import Derived.Test.YtjnaeoelnmhjfaaDoorCards
import Derived.Test.YtjnaeoelnmhjfaaDoorTie
import Derived.Lay
import Derived.LaidOnce
import Derived.SevenTiedAt
import Derived.Deep.DeepHandedRow
import Derived.Deep.Slices
import Derived.Lib.LaidTab

/- billetlaw35.Large: what is gone through. -/
set_option linter.unusedSimpArgs false
set_option linter.unusedVariables false
namespace Go.Proofs.YtjnaeoelnmhjfaaDoor
open Go Go.Shelf Go.RowKit

section
theorem infLarge_9 : Tryd.prog.info? 9 = some Tryd.t9 := by kernel_rfl
theorem infLarge_33 : Tryd.prog.info? 33 = some Tryd.t33 := by kernel_rfl
theorem infLarge_34 : Tryd.prog.info? 34 = some Tryd.t34 := by kernel_rfl
theorem infLarge_35 : Tryd.prog.info? 35 = some Tryd.t35 := by kernel_rfl
theorem infLarge_36 : Tryd.prog.info? 36 = some Tryd.t36 := by kernel_rfl
theorem infLarge_37 : Tryd.prog.info? 37 = some Tryd.t37 := by kernel_rfl
theorem infLarge_38 : Tryd.prog.info? 38 = some Tryd.t38 := by kernel_rfl
theorem infLarge_39 : Tryd.prog.info? 39 = some Tryd.t39 := by kernel_rfl
theorem infLarge_68 : Tryd.prog.info? 68 = some Tryd.t68 := by kernel_rfl
theorem infLarge_72 : Tryd.prog.info? 72 = some Tryd.t72 := by kernel_rfl
theorem infLarge_74 : Tryd.prog.info? 74 = some Tryd.t74 := by kernel_rfl
theorem infLarge_76 : Tryd.prog.info? 76 = some Tryd.t76 := by kernel_rfl
theorem infLarge_78 : Tryd.prog.info? 78 = some Tryd.t78 := by kernel_rfl
theorem infLarge_80 : Tryd.prog.info? 80 = some Tryd.t80 := by kernel_rfl
theorem infLarge_82 : Tryd.prog.info? 82 = some Tryd.t82 := by kernel_rfl
theorem infLarge_88 : Tryd.prog.info? 88 = some Tryd.t88 := by kernel_rfl
theorem infLarge_90 : Tryd.prog.info? 90 = some Tryd.t90 := by kernel_rfl
theorem infLarge_110 : Tryd.prog.info? 110 = some Tryd.t110 := by kernel_rfl
theorem infLarge_112 : Tryd.prog.info? 112 = some Tryd.t112 := by kernel_rfl
theorem infLarge_114 : Tryd.prog.info? 114 = some Tryd.t114 := by kernel_rfl
theorem infLarge_115 : Tryd.prog.info? 115 = some Tryd.t115 := by kernel_rfl
theorem infLarge_117 : Tryd.prog.info? 117 = some Tryd.t117 := by kernel_rfl


theorem Sees.piece {α : Type} {f : α → List Value} {sz : Nat} {ob : Option Nat} {off cap : Nat} {cs : Array Value} {l : List α} (h : Sees sz ob off cap cs (l.flatMap f) l.length) (hf : ∀ a, (f a).length = sz) {i : Nat} {a : α} (ha : l[i]? = some a) (k m : Nat) (hk : k + m ≤ sz) {vs : Array Value} (hv : (((f a).drop k).take m).toArray = vs) :
    cs.extract (off + i * sz + k) (off + i * sz + k + m) = vs := by
  have h1 := h.elem hf ha
  have h2 := congrArg (fun z => z.extract k (k + m)) h1
  simp only [Array.extract_extract] at h2
  rw [show min (off + i * sz + (k + m)) (off + i * sz + sz) = off + i * sz + k + m by omega] at h2
  rw [h2, ← hv]
  simp [List.extract_eq_take_drop]
theorem lt_len_of {α : Type} {l : List α} {n : Nat} (h : ¬ (n : Int) < (l.length : Int)) : l.length ≤ n := by omega

set_option maxRecDepth 100000 in
set_option maxHeartbeats 1000000 in
theorem lg_ops (o1 : Option Nat) (p1 q1 : Nat) (c1 : Array Value) (T1 : TypeId) (f1 : Nat × Nat) (ops : List Opr) (h1 : Sees 18 o1 p1 q1 c1 (ops.flatMap opC) ops.length) :
    Ct Tryd.prog 35 [sv o1 p1 ops.length q1] [(o1, .cells c1 T1 f1)] [] fun v post => (∃ b, v = .bool b ∧ (b = false → ops.length ≤ 40)) ∧ post = [] := by
 have hl1 := h1.le
 have hl2 := h1.max
 refine ct_of Tryd.func35 rfl rfl (fun w0 => ?_)
 show G _ _ [(0, _)] _ _
 refine G_seq ?_
 refine G_region (l := [0]) rfl ?_
 refine G_val rfl rfl rfl rfl (V_assign rfl rfl) ?_
 refine G_done ?_
 refine G_seq ?_
 refine G_seq ?_
 refine G_region (l := [0]) rfl ?_
 refine G_val rfl rfl rfl rfl (V_assign rfl rfl) ?_
 refine G_done ?_
 refine G_block ?_
 refine G_sub ?he2 [] ?hl2 (G_loop (X := Nat) (fun i => i ≤ ops.length) (fun i => ops.length - i) (fun i => [(0, sv o1 p1 ops.length q1), (3, .int .i64 (i : Int))]) (fun i => []) ?round2 0 ?h02)
 case he2 => exact (And.intro rfl (And.intro rfl trivial))
 case hl2 => exact ⟨_, rfl⟩
 case h02 => exact Nat.zero_le _
 case round2 =>
  intro i hJ ih
  try dsimp only at hJ ih
  refine G_seq ?_
  refine G_seq ?_
  refine G_region (l := [0, 1, 2, 3]) rfl ?_
  refine G_val rfl rfl rfl rfl (V_move rfl rfl) ?_
  refine G_val rfl rfl rfl rfl (V_move rfl rfl) ?_
  refine G_val rfl rfl rfl rfl (V_len rfl rfl Tryd.underlying33 rfl) ?_
  refine G_val rfl rfl rfl rfl (V_lss rfl rfl rfl) ?_
  refine G_done ?_
  refine G_ifD rfl (fun hc1 => ?_) (fun hc1 => ?_)
  · skip
    refine G_skip ?_
    refine G_seq ?_
    refine G_block ?_
    refine G_seq ?_
    obtain ⟨x, hx⟩ := getI (show i < ops.length by omega)
    obtain ⟨bo1, rfl⟩ := h1.isSome (by omega)
    refine G_region (l := [0, 1, 2, 3, 4, 5, 6]) rfl ?_
    refine G_val rfl rfl rfl rfl (V_move rfl rfl) ?_
    refine G_val rfl rfl rfl rfl (V_move rfl rfl) ?_
    first
      | refine G_val rfl rfl rfl rfl (V_indexAddrN (s := 18) rfl Tryd.underlying33 infLarge_90 rfl rfl rfl rfl (by omega)) ?_
      | refine G_val rfl rfl rfl rfl (V_indexAddr (s := 18) rfl Tryd.underlying33 infLarge_90 rfl rfl rfl (by omega) (by first | omega | (simp [rqCells, Sl.v, opC, wkC, ivC, ltC, wtC, sv, frC, trC, srC, prC]; done) | (simp [rqCells, Sl.v, opC, wkC, ivC, ltC, wtC, sv, frC, trC, srC, prC]; omega) | (simp [rqCells, Sl.v, opC, wkC, ivC, ltC, wtC, sv, frC, trC, srC, prC] at *; omega))) ?_
    refine G_val rfl rfl rfl rfl (V_fieldAddr (fo := _ + 3) rfl Tryd.underlying90 rfl infLarge_88 rfl rfl rfl) ?_
    refine G_val rfl rfl rfl rfl (V_loadA (s := 3) (vs := #[.string (bs x.k), .string (bs x.o), .string (bs x.p)]) rfl rfl (mem_at 0 rfl) Tryd.underlying88 rfl infLarge_88 rfl (h1.piece op_len hx 3 3 (by omega) rfl) (by first | rfl | (simp [bcells_length, rqCells, Sl.v, opC, wkC, ivC, ltC, wtC, sv, frC, trC, srC, prC]; done) | (simp [bcells_length, rqCells, Sl.v, opC, wkC, ivC, ltC, wtC, sv, frC, trC, srC, prC]; omega) | (simp [bcells_length, *, rqCells, Sl.v, opC, wkC, ivC, ltC, wtC, sv, frC, trC, srC, prC]; done))) ?_
    refine G_new rfl rfl rfl rfl (N_allocA rfl infLarge_88 rfl) (fun b4 => ?_)
    refine G_put (l1 := []) (L' := [_]) rfl rfl rfl rfl (P_storeA (s := 3) rfl rfl rfl (mem_at 0 rfl) (by first | rfl | (simp [bcells_length, rqCells, Sl.v, opC, wkC, ivC, ltC, wtC, sv, frC, trC, srC, prC]; done) | (simp [bcells_length, rqCells, Sl.v, opC, wkC, ivC, ltC, wtC, sv, frC, trC, srC, prC]; omega) | (simp [bcells_length, *, rqCells, Sl.v, opC, wkC, ivC, ltC, wtC, sv, frC, trC, srC, prC]; done)) infLarge_88 rfl (by first | rfl | (simp [bcells_length, rqCells, Sl.v, opC, wkC, ivC, ltC, wtC, sv, frC, trC, srC, prC]; done) | (simp [bcells_length, rqCells, Sl.v, opC, wkC, ivC, ltC, wtC, sv, frC, trC, srC, prC]; omega) | (simp [bcells_length, *, rqCells, Sl.v, opC, wkC, ivC, ltC, wtC, sv, frC, trC, srC, prC]; done)) (by first | rfl | exact bcells_all _ | (simp [Value.oneCell', rqCells, Sl.v, opC, wkC, ivC, ltC, wtC, sv, frC, trC, srC, prC]; done) | (simp [Value.oneCell', *, rqCells, Sl.v, opC, wkC, ivC, ltC, wtC, sv, frC, trC, srC, prC]; done))) rfl ?_
    refine G_done ?_
    refine G_seq ?_
    refine G_region (l := [0, 1, 2, 3, 4, 5, 6, 7, 8, 9, 10, 11]) rfl ?_
    refine G_val rfl rfl rfl rfl (V_fieldAddr (fo := 0) rfl Tryd.underlying88 rfl infLarge_9 rfl rfl rfl) ?_
    refine G_val rfl rfl rfl rfl (V_load1 rfl rfl (mem_at 1 rfl) rfl Tryd.underlying9 rfl) ?_
    refine G_val rfl rfl rfl rfl (V_slen rfl rfl Tryd.underlying9 rfl) ?_
    refine G_val rfl rfl rfl rfl (V_fieldAddr (fo := 1) rfl Tryd.underlying88 rfl infLarge_9 rfl rfl rfl) ?_
    refine G_val rfl rfl rfl rfl (V_load1 rfl rfl (mem_at 1 rfl) rfl Tryd.underlying9 rfl) ?_
    refine G_val rfl rfl rfl rfl (V_slen rfl rfl Tryd.underlying9 rfl) ?_
    first
      | refine G_val rfl rfl rfl rfl ((V_add rfl rfl rfl).int (wrap_i64 (by omega))) ?_
      | refine G_val rfl rfl rfl rfl (V_add rfl rfl rfl) ?_
    refine G_val rfl rfl rfl rfl (V_fieldAddr (fo := 2) rfl Tryd.underlying88 rfl infLarge_9 rfl rfl rfl) ?_
    refine G_val rfl rfl rfl rfl (V_load1 rfl rfl (mem_at 1 rfl) rfl Tryd.underlying9 rfl) ?_
    refine G_val rfl rfl rfl rfl (V_slen rfl rfl Tryd.underlying9 rfl) ?_
    first
      | refine G_val rfl rfl rfl rfl ((V_add rfl rfl rfl).int (wrap_i64 (by omega))) ?_
      | refine G_val rfl rfl rfl rfl (V_add rfl rfl rfl) ?_
    refine G_val rfl rfl rfl rfl (V_gtr rfl rfl rfl) ?_
    refine G_done ?_
    refine G_ifD rfl (fun hc2 => ?_) (fun hc2 => ?_)
    · skip
      refine G_seq ?_
      refine G_region (l := [0]) rfl ?_
      refine G_val rfl rfl rfl rfl (V_assign rfl rfl) ?_
      refine G_done ?_
      refine G_ret (post := []) Tryd.func35 rfl (RVs_cons (RV_tmp rfl) RVs_nil) [] rfl ?_
      dsimp only [packed]
      first
        | exact ⟨⟨true, rfl, fun h => Bool.noConfusion h⟩, rfl⟩
        | exact ⟨⟨_, rfl, fun h => lt_len_of (of_decide_eq_false h)⟩, rfl⟩
    refine G_skip ?_
    refine G_inBlock ?_
    refine G_region (l := [0, 1, 2]) rfl ?_
    refine G_val rfl rfl rfl rfl (V_move rfl rfl) ?_
    first
      | refine G_val rfl rfl rfl rfl ((V_add rfl rfl rfl).int (wrap_i64 (by omega))) ?_
      | refine G_val rfl rfl rfl rfl (V_add rfl rfl rfl) ?_
    refine G_val rfl rfl rfl rfl (V_assign rfl rfl) ?_
    refine G_done ?_
    refine G_sub ?_ [] ?_ (ih (i + 1) ?_ ?_)
    · (refine (And.intro ?_ (And.intro ?_ trivial)) <;> first | rfl | exact slot_int (by omega) | exact slot_int (by simp))
    · exact ⟨_, rfl⟩
    · omega
    · (first | omega | (dsimp only; omega))
  refine G_exit rfl ?_
  refine G_seq ?_
  refine G_region (l := [0, 1, 2, 3]) rfl ?_
  refine G_val rfl rfl rfl rfl (V_move rfl rfl) ?_
  refine G_val rfl rfl rfl rfl (V_len rfl rfl Tryd.underlying33 rfl) ?_
  refine G_val rfl rfl rfl rfl (V_gtr rfl rfl rfl) ?_
  refine G_val rfl rfl rfl rfl (V_assign rfl rfl) ?_
  refine G_done ?_
  refine G_ret (post := []) Tryd.func35 rfl (RVs_cons (RV_tmp rfl) RVs_nil) [] rfl ?_
  dsimp only [packed]
  first
    | exact ⟨⟨true, rfl, fun h => Bool.noConfusion h⟩, rfl⟩
    | exact ⟨⟨_, rfl, fun h => lt_len_of (of_decide_eq_false h)⟩, rfl⟩

set_option maxRecDepth 100000 in
set_option maxHeartbeats 1000000 in
theorem lg_tenants (p : Option Addr) (ob : Option Nat) (off cap : Nat) (cs : Array Value) (T : TypeId) (fr : Nat × Nat) (l : List Tr) (h : InsOk 6 trC ⟨p, ob, off, cap, cs, T, fr, l⟩) (hok : ∀ x ∈ l, TrOk x) :
    Ct Tryd.prog 34 [.slice p l.length cap] ((ob, .cells cs T fr) :: l.flatMap trK) [] fun v post => (∃ b, v = .bool b) ∧ post = [] := by
 have hl1 := h.le
 have hl2 := h.max
 have hln := h.n
 simp only at hl1 hl2 hln
 refine ct_of Tryd.func34 rfl rfl (fun w0 => ?_)
 show G _ _ [(0, _)] _ _
 refine G_seq ?_
 refine G_region (l := [0]) rfl ?_
 refine G_val rfl rfl rfl rfl (V_assign rfl rfl) ?_
 refine G_done ?_
 refine G_seq ?_
 refine G_seq ?_
 refine G_region (l := [0]) rfl ?_
 refine G_val rfl rfl rfl rfl (V_assign rfl rfl) ?_
 refine G_done ?_
 refine G_block ?_
 refine G_sub ?he2 [] ?hl2 (G_loop (X := Nat) (fun i => i ≤ l.length) (fun i => l.length - i) (fun i => [(0, .slice p l.length cap), (3, .int .i64 (i : Int))]) (fun i => []) ?round2 0 ?h02)
 case he2 => exact (And.intro rfl (And.intro rfl trivial))
 case hl2 => exact ⟨_, rfl⟩
 case h02 => exact Nat.zero_le _
 case round2 =>
  intro i hJ ih
  try dsimp only at hJ ih
  refine G_seq ?_
  refine G_seq ?_
  refine G_region (l := [0, 1, 2, 3]) rfl ?_
  refine G_val rfl rfl rfl rfl (V_move rfl rfl) ?_
  refine G_val rfl rfl rfl rfl (V_move rfl rfl) ?_
  refine G_val rfl rfl rfl rfl (V_len rfl rfl Tryd.underlying76 rfl) ?_
  refine G_val rfl rfl rfl rfl (V_lss rfl rfl rfl) ?_
  refine G_done ?_
  refine G_ifD rfl (fun hc1 => ?_) (fun hc1 => ?_)
  · skip
    refine G_skip ?_
    refine G_seq ?_
    refine G_block ?_
    refine G_seq ?_
    refine G_seq ?_
    obtain ⟨x, hx⟩ := getI (show i < l.length by omega)
    obtain ⟨bi, hbi1, hbi2, hs⟩ := h.isS (i := i) (by show i < l.length; omega)
    simp only at hbi1 hbi2 hs
    subst hbi1 hbi2
    have hxo := hok x (List.mem_of_getElem? hx)
    have hxl := hxo.s.le
    have hxm := hxo.s.max
    refine G_region (l := [0, 1, 2, 3, 4, 5, 6, 7]) rfl ?_
    refine G_val rfl rfl rfl rfl (V_move rfl rfl) ?_
    refine G_val rfl rfl rfl rfl (V_move rfl rfl) ?_
    first
      | refine G_val rfl rfl rfl rfl (V_indexAddrN (s := 6) rfl Tryd.underlying76 infLarge_114 rfl rfl rfl rfl (by omega)) ?_
      | refine G_val rfl rfl rfl rfl (V_indexAddr (s := 6) rfl Tryd.underlying76 infLarge_114 rfl rfl rfl (by omega) (by first | omega | (simp [rqCells, Sl.v, opC, wkC, ivC, ltC, wtC, sv, frC, trC, srC, prC]; done) | (simp [rqCells, Sl.v, opC, wkC, ivC, ltC, wtC, sv, frC, trC, srC, prC]; omega) | (simp [rqCells, Sl.v, opC, wkC, ivC, ltC, wtC, sv, frC, trC, srC, prC] at *; omega))) ?_
    refine G_val rfl rfl rfl rfl (V_fieldAddr (fo := _ + 3) rfl Tryd.underlying114 rfl infLarge_112 rfl rfl rfl) ?_
    refine G_val rfl rfl rfl rfl (V_fieldAddr (fo := _ + 1) rfl Tryd.underlying112 rfl infLarge_110 rfl rfl rfl) ?_
    refine G_val rfl rfl rfl rfl (V_load1 rfl rfl (List.mem_append_left _ (mem_at 0 rfl)) (nth_of (cell_at hs tr_len hx 4 (by omega) rfl)) Tryd.underlying110 rfl) ?_
    refine G_val rfl rfl rfl rfl (V_len rfl rfl Tryd.underlying110 rfl) ?_
    refine G_val rfl rfl rfl rfl (V_gtr rfl rfl rfl) ?_
    refine G_done ?_
    refine G_ifD rfl (fun hc2 => ?_) (fun hc2 => ?_)
    · skip
      refine G_seq ?_
      refine G_region (l := [0]) rfl ?_
      refine G_val rfl rfl rfl rfl (V_assign rfl rfl) ?_
      refine G_done ?_
      refine G_ret (post := []) Tryd.func34 rfl (RVs_cons (RV_tmp rfl) RVs_nil) [] rfl ?_
      dsimp only [packed]
      exact ⟨⟨_, rfl⟩, rfl⟩
    refine G_skip ?_
    refine G_seq ?_
    refine G_region (l := [0]) rfl ?_
    refine G_val rfl rfl rfl rfl (V_assign rfl rfl) ?_
    refine G_done ?_
    refine G_block ?_
    refine G_sub ?he7 [] ?hl7 (G_loop (X := Nat) (fun k => k ≤ x.s.l.length) (fun k => x.s.l.length - k) (fun k => [(0, .slice (some ⟨bi, off, none⟩) l.length cap), (3, .int .i64 (i : Int)), (4, .int .i64 (k : Int))]) (fun k => []) ?round7 0 ?h07)
    case he7 => exact (And.intro rfl (And.intro rfl (And.intro rfl trivial)))
    case hl7 => exact ⟨_, rfl⟩
    case h07 => exact Nat.zero_le _
    case round7 =>
     intro k hJ ih2
     try dsimp only at hJ ih2
     refine G_seq ?_
     refine G_seq ?_
     refine G_region (l := [0, 1, 2, 3, 4, 5, 6, 7, 8]) rfl ?_
     refine G_val rfl rfl rfl rfl (V_move rfl rfl) ?_
     refine G_val rfl rfl rfl rfl (V_move rfl rfl) ?_
     refine G_val rfl rfl rfl rfl (V_move rfl rfl) ?_
     first
       | refine G_val rfl rfl rfl rfl (V_indexAddrN (s := 6) rfl Tryd.underlying76 infLarge_114 rfl rfl rfl rfl (by omega)) ?_
       | refine G_val rfl rfl rfl rfl (V_indexAddr (s := 6) rfl Tryd.underlying76 infLarge_114 rfl rfl rfl (by omega) (by first | omega | (simp [rqCells, Sl.v, opC, wkC, ivC, ltC, wtC, sv, frC, trC, srC, prC]; done) | (simp [rqCells, Sl.v, opC, wkC, ivC, ltC, wtC, sv, frC, trC, srC, prC]; omega) | (simp [rqCells, Sl.v, opC, wkC, ivC, ltC, wtC, sv, frC, trC, srC, prC] at *; omega))) ?_
     refine G_val rfl rfl rfl rfl (V_fieldAddr (fo := _ + 3) rfl Tryd.underlying114 rfl infLarge_112 rfl rfl rfl) ?_
     refine G_val rfl rfl rfl rfl (V_fieldAddr (fo := _ + 1) rfl Tryd.underlying112 rfl infLarge_110 rfl rfl rfl) ?_
     refine G_val rfl rfl rfl rfl (V_load1 rfl rfl (List.mem_append_left _ (mem_at 0 rfl)) (nth_of (cell_at hs tr_len hx 4 (by omega) rfl)) Tryd.underlying110 rfl) ?_
     refine G_val rfl rfl rfl rfl (V_len rfl rfl Tryd.underlying110 rfl) ?_
     refine G_val rfl rfl rfl rfl (V_lss rfl rfl rfl) ?_
     refine G_done ?_
     refine G_ifD rfl (fun hc3 => ?_) (fun hc3 => ?_)
     · skip
       refine G_skip ?_
       refine G_seq ?_
       refine G_block ?_
       refine G_seq ?_
       obtain ⟨y, hy⟩ := getI (show k < x.s.l.length by omega)
       obtain ⟨bs_, hbs1, hbs2, hss⟩ := hxo.s.isS (i := k) (by omega)
       have hmem := insK_at hbs2
       refine G_region (l := [0, 1, 2, 3, 4, 5, 6, 7, 8, 9, 10, 11]) rfl ?_
       refine G_val rfl rfl rfl rfl (V_move rfl rfl) ?_
       refine G_val rfl rfl rfl rfl (V_move rfl rfl) ?_
       first
         | refine G_val rfl rfl rfl rfl (V_indexAddrN (s := 6) rfl Tryd.underlying76 infLarge_114 rfl rfl rfl rfl (by omega)) ?_
         | refine G_val rfl rfl rfl rfl (V_indexAddr (s := 6) rfl Tryd.underlying76 infLarge_114 rfl rfl rfl (by omega) (by first | omega | (simp [rqCells, Sl.v, opC, wkC, ivC, ltC, wtC, sv, frC, trC, srC, prC]; done) | (simp [rqCells, Sl.v, opC, wkC, ivC, ltC, wtC, sv, frC, trC, srC, prC]; omega) | (simp [rqCells, Sl.v, opC, wkC, ivC, ltC, wtC, sv, frC, trC, srC, prC] at *; omega))) ?_
       refine G_val rfl rfl rfl rfl (V_fieldAddr (fo := _ + 3) rfl Tryd.underlying114 rfl infLarge_112 rfl rfl rfl) ?_
       refine G_val rfl rfl rfl rfl (V_fieldAddr (fo := _ + 1) rfl Tryd.underlying112 rfl infLarge_110 rfl rfl rfl) ?_
       refine G_val rfl rfl rfl rfl (V_load1 rfl rfl (List.mem_append_left _ (mem_at 0 rfl)) (nth_of (cell_at hs tr_len hx 4 (by omega) rfl)) Tryd.underlying110 rfl) ?_
       rw [hbs1]
       refine G_val rfl rfl rfl rfl (V_move rfl rfl) ?_
       first
         | refine G_val rfl rfl rfl rfl (V_indexAddrN (s := 4) rfl Tryd.underlying110 infLarge_117 rfl rfl rfl rfl (by omega)) ?_
         | refine G_val rfl rfl rfl rfl (V_indexAddr (s := 4) rfl Tryd.underlying110 infLarge_117 rfl rfl rfl (by omega) (by first | omega | (simp [rqCells, Sl.v, opC, wkC, ivC, ltC, wtC, sv, frC, trC, srC, prC]; done) | (simp [rqCells, Sl.v, opC, wkC, ivC, ltC, wtC, sv, frC, trC, srC, prC]; omega) | (simp [rqCells, Sl.v, opC, wkC, ivC, ltC, wtC, sv, frC, trC, srC, prC] at *; omega))) ?_
       refine G_val rfl rfl rfl rfl (V_fieldAddr (fo := _ + 3) rfl Tryd.underlying117 rfl infLarge_115 rfl rfl rfl) ?_
       refine G_val rfl rfl rfl rfl (V_load1 rfl rfl (by rw [← hmem]; exact List.mem_append_left _ (List.mem_cons_of_mem _ (List.mem_flatMap.2 ⟨x, List.mem_of_getElem? hx, in_tr0⟩))) (nth_of (cell_at hss fr_len hy 3 (by omega) rfl)) Tryd.underlying115 rfl) ?_
       refine G_val rfl rfl rfl rfl (V_len rfl rfl Tryd.underlying115 rfl) ?_
       refine G_val rfl rfl rfl rfl (V_gtr rfl rfl rfl) ?_
       refine G_done ?_
       refine G_ifD rfl (fun hc4 => ?_) (fun hc4 => ?_)
       · skip
         refine G_seq ?_
         refine G_region (l := [0]) rfl ?_
         refine G_val rfl rfl rfl rfl (V_assign rfl rfl) ?_
         refine G_done ?_
         refine G_ret (post := []) Tryd.func34 rfl (RVs_cons (RV_tmp rfl) RVs_nil) [] rfl ?_
         dsimp only [packed]
         exact ⟨⟨_, rfl⟩, rfl⟩
       refine G_skip ?_
       refine G_inBlock ?_
       refine G_region (l := [0, 1, 2]) rfl ?_
       refine G_val rfl rfl rfl rfl (V_move rfl rfl) ?_
       first
         | refine G_val rfl rfl rfl rfl ((V_add rfl rfl rfl).int (wrap_i64 (by omega))) ?_
         | refine G_val rfl rfl rfl rfl (V_add rfl rfl rfl) ?_
       refine G_val rfl rfl rfl rfl (V_assign rfl rfl) ?_
       refine G_done ?_
       refine G_sub ?_ [] ?_ (ih2 (k + 1) ?_ ?_)
       · (refine (And.intro ?_ (And.intro ?_ (And.intro ?_ trivial))) <;> first | rfl | exact slot_int (by omega) | exact slot_int (by simp))
       · exact ⟨_, rfl⟩
       · omega
       · (first | omega | (dsimp only; omega))
     refine G_exit rfl ?_
     refine G_inBlock ?_
     refine G_region (l := [0, 1, 2]) rfl ?_
     refine G_val rfl rfl rfl rfl (V_move rfl rfl) ?_
     first
       | refine G_val rfl rfl rfl rfl ((V_add rfl rfl rfl).int (wrap_i64 (by omega))) ?_
       | refine G_val rfl rfl rfl rfl (V_add rfl rfl rfl) ?_
     refine G_val rfl rfl rfl rfl (V_assign rfl rfl) ?_
     refine G_done ?_
     refine G_sub ?_ [] ?_ (ih (i + 1) ?_ ?_)
     · (refine (And.intro ?_ (And.intro ?_ trivial)) <;> first | rfl | exact slot_int (by omega) | exact slot_int (by simp))
     · exact ⟨_, rfl⟩
     · omega
     · (first | omega | (dsimp only; omega))
  refine G_exit rfl ?_
  refine G_seq ?_
  refine G_region (l := [0, 1, 2, 3]) rfl ?_
  refine G_val rfl rfl rfl rfl (V_move rfl rfl) ?_
  refine G_val rfl rfl rfl rfl (V_len rfl rfl Tryd.underlying76 rfl) ?_
  refine G_val rfl rfl rfl rfl (V_gtr rfl rfl rfl) ?_
  refine G_val rfl rfl rfl rfl (V_assign rfl rfl) ?_
  refine G_done ?_
  refine G_ret (post := []) Tryd.func34 rfl (RVs_cons (RV_tmp rfl) RVs_nil) [] rfl ?_
  dsimp only [packed]
  exact ⟨⟨_, rfl⟩, rfl⟩


theorem sub_tens {l : List Pr} {x : Pr} {y : Sr} {B : List (Option Nat × Obj)} (hx : x ∈ l) (hy : y ∈ x.s.l) : ∀ z ∈ (y.s.ob, Obj.cells y.s.cs y.s.T y.s.fr) :: y.s.l.flatMap trK, z ∈ B ++ l.flatMap prK := fun z hz => List.mem_append_right _ (in_ps hx (in_pr hy hz))

set_option maxRecDepth 100000 in
set_option maxHeartbeats 4000000 in
theorem lg_large (tk : Nat) (dr : Bool) (n2 n3 n4 n5 n6 : Int) (x12 : Option Addr) (n12 q12 : Nat) (hn12 : n12 ≤ 9223372036854775807) (o7 : Option Nat) (p7 q7 : Nat) (c7 : Array Value) (T7 : TypeId) (f7 : Nat × Nat) (l7 : List Opr) (s7 : Sees 18 o7 p7 q7 c7 (l7.flatMap opC) l7.length) (o8 : Option Nat) (p8 q8 : Nat) (c8 : Array Value) (T8 : TypeId) (f8 : Nat × Nat) (l8 : List Opr) (s8 : Sees 18 o8 p8 q8 c8 (l8.flatMap opC) l8.length) (o9 : Option Nat) (p9 q9 : Nat) (c9 : Array Value) (T9 : TypeId) (f9 : Nat × Nat) (l9 : List Wkr) (s9 : Sees 7 o9 p9 q9 c9 (l9.flatMap wkC) l9.length) (o10 : Option Nat) (p10 q10 : Nat) (c10 : Array Value) (T10 : TypeId) (f10 : Nat × Nat) (l10 : List Ivr) (s10 : Sees 5 o10 p10 q10 c10 (l10.flatMap ivC) l10.length) (o13 : Option Nat) (p13 q13 : Nat) (c13 : Array Value) (T13 : TypeId) (f13 : Nat × Nat) (l13 : List Ltr) (s13 : Sees 6 o13 p13 q13 c13 (l13.flatMap ltC) l13.length) (o14 : Option Nat) (p14 q14 : Nat) (c14 : Array Value) (T14 : TypeId) (f14 : Nat × Nat) (l14 : List Wtr) (s14 : Sees 2 o14 p14 q14 c14 (l14.flatMap wtC) l14.length) (o11 : Option Nat) (p11 q11 : Nat) (c11 : Array Value) (T11 : TypeId) (f11 : Nat × Nat) (l11 : List Pr) (s11 : Sees 4 o11 p11 q11 c11 (l11.flatMap prC) l11.length) (hok : ∀ x ∈ l11, PrOk x) :
    Ct Tryd.prog 15 [.agg #[.int .u64 (tk : Int), .bool dr, .int .i64 n2, .int .i64 n3, .int .i64 n4, .int .i64 n5, .int .i64 n6, sv o7 p7 l7.length q7, sv o8 p8 l8.length q8, sv o9 p9 l9.length q9, sv o10 p10 l10.length q10, sv o11 p11 l11.length q11, .slice x12 n12 q12, sv o13 p13 l13.length q13, sv o14 p14 l14.length q14]] ((o7, .cells c7 T7 f7) :: (o8, .cells c8 T8 f8) :: (o9, .cells c9 T9 f9) :: (o10, .cells c10 T10 f10) :: (o11, .cells c11 T11 f11) :: l11.flatMap prK) [] fun v post => (∃ b, v = .bool b ∧ (b = false → l7.length ≤ 40 ∧ l8.length ≤ 40 ∧ l9.length ≤ 40 ∧ l10.length ≤ 60 ∧ l11.length ≤ 10 ∧ n12 ≤ 40 ∧ l13.length ≤ 60 ∧ l14.length ≤ 40)) ∧ post = [] := by
 have hl7 := s7.le
 have hl8 := s8.le
 have hl9 := s9.le
 have hl10 := s10.le
 have hl11 := s11.le
 have hl13 := s13.le
 have hl14 := s14.le
 have hm7 := s7.max
 have hm8 := s8.max
 have hm9 := s9.max
 have hm10 := s10.max
 have hm11 := s11.max
 have hm13 := s13.max
 have hm14 := s14.max
 refine ct_of Tryd.func15 rfl rfl (fun w0 => ?_)
 show G _ _ [(0, _)] _ _
 refine G_seq ?_
 refine G_region (l := [0, 1]) rfl ?_
 refine G_new rfl rfl rfl rfl (N_boxA rfl rfl) (fun b1 => ?_)
 refine G_val rfl rfl rfl rfl (V_assign rfl rfl) ?_
 refine G_done ?_
 refine G_seq ?_
 refine G_seq ?_
 refine G_region (l := [0]) rfl ?_
 refine G_val rfl rfl rfl rfl (V_assign rfl rfl) ?_
 refine G_done ?_
 refine G_block ?_
 refine G_sub ?he2 [0] ?hl2 (G_loop (X := Nat) (fun i => i ≤ l11.length) (fun i => l11.length - i) (fun i => [(1, .pointer (some ⟨b1, 0, none⟩)), (3, .int .i64 (i : Int))]) (fun i => [(some b1, .cells #[.int .u64 (tk : Int), .bool dr, .int .i64 n2, .int .i64 n3, .int .i64 n4, .int .i64 n5, .int .i64 n6, sv o7 p7 l7.length q7, sv o8 p8 l8.length q8, sv o9 p9 l9.length q9, sv o10 p10 l10.length q10, sv o11 p11 l11.length q11, .slice x12 n12 q12, sv o13 p13 l13.length q13, sv o14 p14 l14.length q14] 41 (0, 0))]) ?round2 0 ?h02)
 case he2 => exact (And.intro rfl (And.intro rfl trivial))
 case hl2 => exact ⟨_, rfl⟩
 case h02 => exact Nat.zero_le _
 case round2 =>
  intro i hJ ih
  try dsimp only at hJ ih
  refine G_seq ?_
  refine G_seq ?_
  refine G_region (l := [0, 1, 2, 3, 4]) rfl ?_
  refine G_val rfl rfl rfl rfl (V_move rfl rfl) ?_
  refine G_val rfl rfl rfl rfl (V_fieldAddr (fo := 11) rfl Tryd.underlying41 rfl infLarge_36 rfl rfl rfl) ?_
  refine G_val rfl rfl rfl rfl (V_load1 rfl rfl (List.mem_append_right _ (mem_at 0 rfl)) rfl Tryd.underlying36 rfl) ?_
  refine G_val rfl rfl rfl rfl (V_len rfl rfl Tryd.underlying36 rfl) ?_
  refine G_val rfl rfl rfl rfl (V_lss rfl rfl rfl) ?_
  refine G_done ?_
  refine G_ifD rfl (fun hc1 => ?_) (fun hc1 => ?_)
  · skip
    refine G_skip ?_
    refine G_seq ?_
    refine G_block ?_
    refine G_seq ?_
    refine G_seq ?_
    obtain ⟨x, hx⟩ := getI (show i < l11.length by omega)
    obtain ⟨bo11, rfl⟩ := s11.isSome (by omega)
    have hxo := hok x (List.mem_of_getElem? hx)
    have hxl := hxo.s.le
    have hxm := hxo.s.max
    refine G_region (l := [0, 1, 2, 3, 4, 5, 6, 7, 8, 9, 10, 11, 12, 13, 14, 15, 16, 17, 18, 19, 20, 21, 22, 23, 24, 25, 26, 27]) rfl ?_
    refine G_val rfl rfl rfl rfl (V_fieldAddr (fo := 11) rfl Tryd.underlying41 rfl infLarge_36 rfl rfl rfl) ?_
    refine G_val rfl rfl rfl rfl (V_load1 rfl rfl (List.mem_append_right _ (mem_at 0 rfl)) rfl Tryd.underlying36 rfl) ?_
    refine G_val rfl rfl rfl rfl (V_move rfl rfl) ?_
    first
      | refine G_val rfl rfl rfl rfl (V_indexAddrN (s := 4) rfl Tryd.underlying36 infLarge_74 rfl rfl rfl rfl (by omega)) ?_
      | refine G_val rfl rfl rfl rfl (V_indexAddr (s := 4) rfl Tryd.underlying36 infLarge_74 rfl rfl rfl (by omega) (by first | omega | (simp [rqCells, Sl.v, opC, wkC, ivC, ltC, wtC, sv, frC, trC, srC, prC]; done) | (simp [rqCells, Sl.v, opC, wkC, ivC, ltC, wtC, sv, frC, trC, srC, prC]; omega) | (simp [rqCells, Sl.v, opC, wkC, ivC, ltC, wtC, sv, frC, trC, srC, prC] at *; omega))) ?_
    refine G_val rfl rfl rfl rfl (V_fieldAddr (fo := _) rfl Tryd.underlying74 rfl infLarge_9 rfl rfl rfl) ?_
    refine G_val rfl rfl rfl rfl (V_load1 rfl rfl (List.mem_append_left _ (mem_at 4 rfl)) (nth_of (cell_at s11 pr_len hx 0 (by omega) rfl)) Tryd.underlying9 rfl) ?_
    refine G_val rfl rfl rfl rfl (V_slen rfl rfl Tryd.underlying9 rfl) ?_
    refine G_val rfl rfl rfl rfl (V_gtr rfl rfl rfl) ?_
    refine G_val rfl rfl rfl rfl (V_move rfl rfl) ?_
    refine G_splitD 22 rfl (fun hc2 => ?_) (fun hc2 => ?_)
    · skip
      refine G_off rfl rfl rfl rfl ?_
      refine G_off rfl rfl rfl rfl ?_
      refine G_off rfl rfl rfl rfl ?_
      refine G_off rfl rfl rfl rfl ?_
      refine G_off rfl rfl rfl rfl ?_
      refine G_off rfl rfl rfl rfl ?_
      refine G_off rfl rfl rfl rfl ?_
      refine G_off rfl rfl rfl rfl ?_
      refine G_val rfl rfl rfl rfl (V_pickT rfl rfl rfl) ?_
      refine G_val rfl rfl rfl rfl (V_move rfl rfl) ?_
      refine G_off rfl rfl rfl rfl ?_
      refine G_off rfl rfl rfl rfl ?_
      refine G_off rfl rfl rfl rfl ?_
      refine G_off rfl rfl rfl rfl ?_
      refine G_off rfl rfl rfl rfl ?_
      refine G_off rfl rfl rfl rfl ?_
      refine G_off rfl rfl rfl rfl ?_
      refine G_off rfl rfl rfl rfl ?_
      refine G_val rfl rfl rfl rfl (V_pickT rfl rfl rfl) ?_
      refine G_done ?_
      refine G_then rfl ?_
      refine G_seq ?_
      refine G_region (l := [0]) rfl ?_
      refine G_val rfl rfl rfl rfl (V_assign rfl rfl) ?_
      refine G_done ?_
      refine G_ret (post := []) Tryd.func15 rfl (RVs_cons (RV_tmp rfl) RVs_nil) [] rfl ?_
      dsimp only [packed]
      first
        | exact ⟨⟨true, rfl, fun h => Bool.noConfusion h⟩, rfl⟩
        | (refine ⟨⟨_, rfl, fun h => ?_⟩, rfl⟩
           have e7 := hz7 (by assumption)
           have e8 := hz8 (by assumption)
           have e14 := of_decide_eq_false h
           refine ⟨by omega, by omega, by omega, by omega, by omega, by omega, by omega, by omega⟩)
    refine G_val rfl rfl rfl rfl (V_fieldAddr (fo := 11) rfl Tryd.underlying41 rfl infLarge_36 rfl rfl rfl) ?_
    refine G_val rfl rfl rfl rfl (V_load1 rfl rfl (List.mem_append_right _ (mem_at 0 rfl)) rfl Tryd.underlying36 rfl) ?_
    refine G_val rfl rfl rfl rfl (V_move rfl rfl) ?_
    first
      | refine G_val rfl rfl rfl rfl (V_indexAddrN (s := 4) rfl Tryd.underlying36 infLarge_74 rfl rfl rfl rfl (by omega)) ?_
      | refine G_val rfl rfl rfl rfl (V_indexAddr (s := 4) rfl Tryd.underlying36 infLarge_74 rfl rfl rfl (by omega) (by first | omega | (simp [rqCells, Sl.v, opC, wkC, ivC, ltC, wtC, sv, frC, trC, srC, prC]; done) | (simp [rqCells, Sl.v, opC, wkC, ivC, ltC, wtC, sv, frC, trC, srC, prC]; omega) | (simp [rqCells, Sl.v, opC, wkC, ivC, ltC, wtC, sv, frC, trC, srC, prC] at *; omega))) ?_
    refine G_val rfl rfl rfl rfl (V_fieldAddr (fo := _ + 2) rfl Tryd.underlying74 rfl infLarge_68 rfl rfl rfl) ?_
    refine G_val rfl rfl rfl rfl (V_load1 rfl rfl (List.mem_append_left _ (mem_at 4 rfl)) (nth_of (cell_at s11 pr_len hx 2 (by omega) rfl)) Tryd.underlying68 rfl) ?_
    refine G_val rfl rfl rfl rfl (V_len rfl rfl Tryd.underlying68 rfl) ?_
    refine G_val rfl rfl rfl rfl (V_gtr rfl rfl rfl) ?_
    refine G_val rfl rfl rfl rfl (V_pickF rfl rfl rfl) ?_
    refine G_val rfl rfl rfl rfl (V_move rfl rfl) ?_
    refine G_splitD 32 rfl (fun hc3 => ?_) (fun hc3 => ?_)
    · skip
      refine G_off rfl rfl rfl rfl ?_
      refine G_off rfl rfl rfl rfl ?_
      refine G_off rfl rfl rfl rfl ?_
      refine G_off rfl rfl rfl rfl ?_
      refine G_off rfl rfl rfl rfl ?_
      refine G_off rfl rfl rfl rfl ?_
      refine G_off rfl rfl rfl rfl ?_
      refine G_off rfl rfl rfl rfl ?_
      refine G_val rfl rfl rfl rfl (V_pickT rfl rfl rfl) ?_
      refine G_done ?_
      refine G_then rfl ?_
      refine G_seq ?_
      refine G_region (l := [0]) rfl ?_
      refine G_val rfl rfl rfl rfl (V_assign rfl rfl) ?_
      refine G_done ?_
      refine G_ret (post := []) Tryd.func15 rfl (RVs_cons (RV_tmp rfl) RVs_nil) [] rfl ?_
      dsimp only [packed]
      first
        | exact ⟨⟨true, rfl, fun h => Bool.noConfusion h⟩, rfl⟩
        | (refine ⟨⟨_, rfl, fun h => ?_⟩, rfl⟩
           have e7 := hz7 (by assumption)
           have e8 := hz8 (by assumption)
           have e14 := of_decide_eq_false h
           refine ⟨by omega, by omega, by omega, by omega, by omega, by omega, by omega, by omega⟩)
    refine G_val rfl rfl rfl rfl (V_fieldAddr (fo := 11) rfl Tryd.underlying41 rfl infLarge_36 rfl rfl rfl) ?_
    refine G_val rfl rfl rfl rfl (V_load1 rfl rfl (List.mem_append_right _ (mem_at 0 rfl)) rfl Tryd.underlying36 rfl) ?_
    refine G_val rfl rfl rfl rfl (V_move rfl rfl) ?_
    first
      | refine G_val rfl rfl rfl rfl (V_indexAddrN (s := 4) rfl Tryd.underlying36 infLarge_74 rfl rfl rfl rfl (by omega)) ?_
      | refine G_val rfl rfl rfl rfl (V_indexAddr (s := 4) rfl Tryd.underlying36 infLarge_74 rfl rfl rfl (by omega) (by first | omega | (simp [rqCells, Sl.v, opC, wkC, ivC, ltC, wtC, sv, frC, trC, srC, prC]; done) | (simp [rqCells, Sl.v, opC, wkC, ivC, ltC, wtC, sv, frC, trC, srC, prC]; omega) | (simp [rqCells, Sl.v, opC, wkC, ivC, ltC, wtC, sv, frC, trC, srC, prC] at *; omega))) ?_
    refine G_val rfl rfl rfl rfl (V_fieldAddr (fo := _ + 3) rfl Tryd.underlying74 rfl infLarge_72 rfl rfl rfl) ?_
    refine G_val rfl rfl rfl rfl (V_load1 rfl rfl (List.mem_append_left _ (mem_at 4 rfl)) (nth_of (cell_at s11 pr_len hx 3 (by omega) rfl)) Tryd.underlying72 rfl) ?_
    refine G_val rfl rfl rfl rfl (V_len rfl rfl Tryd.underlying72 rfl) ?_
    refine G_val rfl rfl rfl rfl (V_gtr rfl rfl rfl) ?_
    refine G_val rfl rfl rfl rfl (V_pickF rfl rfl rfl) ?_
    refine G_done ?_
    refine G_ifD rfl (fun hc4 => ?_) (fun hc4 => ?_)
    · skip
      refine G_seq ?_
      refine G_region (l := [0]) rfl ?_
      refine G_val rfl rfl rfl rfl (V_assign rfl rfl) ?_
      refine G_done ?_
      refine G_ret (post := []) Tryd.func15 rfl (RVs_cons (RV_tmp rfl) RVs_nil) [] rfl ?_
      dsimp only [packed]
      first
        | exact ⟨⟨true, rfl, fun h => Bool.noConfusion h⟩, rfl⟩
        | (refine ⟨⟨_, rfl, fun h => ?_⟩, rfl⟩
           have e7 := hz7 (by assumption)
           have e8 := hz8 (by assumption)
           have e14 := of_decide_eq_false h
           refine ⟨by omega, by omega, by omega, by omega, by omega, by omega, by omega, by omega⟩)
    refine G_skip ?_
    refine G_seq ?_
    refine G_region (l := [0]) rfl ?_
    refine G_val rfl rfl rfl rfl (V_assign rfl rfl) ?_
    refine G_done ?_
    refine G_block ?_
    refine G_sub ?he7 [0] ?hl7 (G_loop (X := Nat) (fun k => k ≤ x.s.l.length) (fun k => x.s.l.length - k) (fun k => [(1, .pointer (some ⟨b1, 0, none⟩)), (3, .int .i64 (i : Int)), (4, .int .i64 (k : Int))]) (fun k => [(some b1, .cells #[.int .u64 (tk : Int), .bool dr, .int .i64 n2, .int .i64 n3, .int .i64 n4, .int .i64 n5, .int .i64 n6, sv o7 p7 l7.length q7, sv o8 p8 l8.length q8, sv o9 p9 l9.length q9, sv o10 p10 l10.length q10, sv (some bo11) p11 l11.length q11, .slice x12 n12 q12, sv o13 p13 l13.length q13, sv o14 p14 l14.length q14] 41 (0, 0))]) ?round7 0 ?h07)
    case he7 => exact (And.intro rfl (And.intro rfl (And.intro rfl trivial)))
    case hl7 => exact ⟨_, rfl⟩
    case h07 => exact Nat.zero_le _
    case round7 =>
     intro k hJ ih2
     try dsimp only at hJ ih2
     refine G_seq ?_
     refine G_seq ?_
     refine G_region (l := [0, 1, 2, 3, 4, 5, 6, 7, 8]) rfl ?_
     refine G_val rfl rfl rfl rfl (V_move rfl rfl) ?_
     refine G_val rfl rfl rfl rfl (V_fieldAddr (fo := 11) rfl Tryd.underlying41 rfl infLarge_36 rfl rfl rfl) ?_
     refine G_val rfl rfl rfl rfl (V_load1 rfl rfl (List.mem_append_right _ (mem_at 0 rfl)) rfl Tryd.underlying36 rfl) ?_
     refine G_val rfl rfl rfl rfl (V_move rfl rfl) ?_
     first
       | refine G_val rfl rfl rfl rfl (V_indexAddrN (s := 4) rfl Tryd.underlying36 infLarge_74 rfl rfl rfl rfl (by omega)) ?_
       | refine G_val rfl rfl rfl rfl (V_indexAddr (s := 4) rfl Tryd.underlying36 infLarge_74 rfl rfl rfl (by omega) (by first | omega | (simp [rqCells, Sl.v, opC, wkC, ivC, ltC, wtC, sv, frC, trC, srC, prC]; done) | (simp [rqCells, Sl.v, opC, wkC, ivC, ltC, wtC, sv, frC, trC, srC, prC]; omega) | (simp [rqCells, Sl.v, opC, wkC, ivC, ltC, wtC, sv, frC, trC, srC, prC] at *; omega))) ?_
     refine G_val rfl rfl rfl rfl (V_fieldAddr (fo := _ + 3) rfl Tryd.underlying74 rfl infLarge_72 rfl rfl rfl) ?_
     refine G_val rfl rfl rfl rfl (V_load1 rfl rfl (List.mem_append_left _ (mem_at 4 rfl)) (nth_of (cell_at s11 pr_len hx 3 (by omega) rfl)) Tryd.underlying72 rfl) ?_
     refine G_val rfl rfl rfl rfl (V_len rfl rfl Tryd.underlying72 rfl) ?_
     refine G_val rfl rfl rfl rfl (V_lss rfl rfl rfl) ?_
     refine G_done ?_
     refine G_ifD rfl (fun hc5 => ?_) (fun hc5 => ?_)
     · skip
       refine G_skip ?_
       refine G_seq ?_
       refine G_block ?_
       refine G_seq ?_
       obtain ⟨y, hy⟩ := getI (show k < x.s.l.length by omega)
       obtain ⟨bs_, hbs1, hbs2, hss⟩ := hxo.s.isS (i := k) (by omega)
       have hmem := insK_at hbs2
       have hyo := hxo.i y (List.mem_of_getElem? hy)
       refine G_region (l := [0, 1, 2, 3, 4, 5, 6, 7, 8, 9, 10]) rfl ?_
       refine G_val rfl rfl rfl rfl (V_fieldAddr (fo := 11) rfl Tryd.underlying41 rfl infLarge_36 rfl rfl rfl) ?_
       refine G_val rfl rfl rfl rfl (V_load1 rfl rfl (List.mem_append_right _ (mem_at 0 rfl)) rfl Tryd.underlying36 rfl) ?_
       refine G_val rfl rfl rfl rfl (V_move rfl rfl) ?_
       first
         | refine G_val rfl rfl rfl rfl (V_indexAddrN (s := 4) rfl Tryd.underlying36 infLarge_74 rfl rfl rfl rfl (by omega)) ?_
         | refine G_val rfl rfl rfl rfl (V_indexAddr (s := 4) rfl Tryd.underlying36 infLarge_74 rfl rfl rfl (by omega) (by first | omega | (simp [rqCells, Sl.v, opC, wkC, ivC, ltC, wtC, sv, frC, trC, srC, prC]; done) | (simp [rqCells, Sl.v, opC, wkC, ivC, ltC, wtC, sv, frC, trC, srC, prC]; omega) | (simp [rqCells, Sl.v, opC, wkC, ivC, ltC, wtC, sv, frC, trC, srC, prC] at *; omega))) ?_
       refine G_val rfl rfl rfl rfl (V_fieldAddr (fo := _ + 3) rfl Tryd.underlying74 rfl infLarge_72 rfl rfl rfl) ?_
       refine G_val rfl rfl rfl rfl (V_load1 rfl rfl (List.mem_append_left _ (mem_at 4 rfl)) (nth_of (cell_at s11 pr_len hx 3 (by omega) rfl)) Tryd.underlying72 rfl) ?_
       rw [hbs1]
       refine G_val rfl rfl rfl rfl (V_move rfl rfl) ?_
       first
         | refine G_val rfl rfl rfl rfl (V_indexAddrN (s := 3) rfl Tryd.underlying72 infLarge_78 rfl rfl rfl rfl (by omega)) ?_
         | refine G_val rfl rfl rfl rfl (V_indexAddr (s := 3) rfl Tryd.underlying72 infLarge_78 rfl rfl rfl (by omega) (by first | omega | (simp [rqCells, Sl.v, opC, wkC, ivC, ltC, wtC, sv, frC, trC, srC, prC]; done) | (simp [rqCells, Sl.v, opC, wkC, ivC, ltC, wtC, sv, frC, trC, srC, prC]; omega) | (simp [rqCells, Sl.v, opC, wkC, ivC, ltC, wtC, sv, frC, trC, srC, prC] at *; omega))) ?_
       refine G_val rfl rfl rfl rfl (V_fieldAddr (fo := _ + 1) rfl Tryd.underlying78 rfl infLarge_76 rfl rfl rfl) ?_
       refine G_val rfl rfl rfl rfl (V_load1 rfl rfl (by rw [← hmem]; exact List.mem_append_left _ (List.mem_append_right (([_, _, _, _, _] : List (Option Nat × Obj))) (in_ps (List.mem_of_getElem? hx) in_pr1))) (nth_of (cell_at hss sr_len hy 1 (by omega) rfl)) Tryd.underlying76 rfl) ?_
       refine G_callM (L2 := [_]) rfl rfl rfl rfl rfl rfl Tryd.call34 (lg_tenants y.s.p y.s.ob y.s.off y.s.cap y.s.cs y.s.T y.s.fr y.s.l hyo.s hyo.i) [] rfl (fun z hz => List.mem_append_left _ (sub_tens (B := [_, _, _, _, _]) (List.mem_of_getElem? hx) (List.mem_of_getElem? hy) z hz)) ?_
       rintro v post ⟨⟨bt, rfl⟩, rfl⟩
       show G _ _ _ [_] _
       refine G_done ?_
       refine G_if rfl (fun hc6 => ?_) (fun hc6 => ?_)
       · skip
         refine G_seq ?_
         refine G_region (l := [0]) rfl ?_
         refine G_val rfl rfl rfl rfl (V_assign rfl rfl) ?_
         refine G_done ?_
         refine G_ret (post := []) Tryd.func15 rfl (RVs_cons (RV_tmp rfl) RVs_nil) [] rfl ?_
         dsimp only [packed]
         first
           | exact ⟨⟨true, rfl, fun h => Bool.noConfusion h⟩, rfl⟩
           | (refine ⟨⟨_, rfl, fun h => ?_⟩, rfl⟩
              have e7 := hz7 (by assumption)
              have e8 := hz8 (by assumption)
              have e14 := of_decide_eq_false h
              refine ⟨by omega, by omega, by omega, by omega, by omega, by omega, by omega, by omega⟩)
       refine G_skip ?_
       refine G_inBlock ?_
       refine G_region (l := [0, 1, 2]) rfl ?_
       refine G_val rfl rfl rfl rfl (V_move rfl rfl) ?_
       first
         | refine G_val rfl rfl rfl rfl ((V_add rfl rfl rfl).int (wrap_i64 (by omega))) ?_
         | refine G_val rfl rfl rfl rfl (V_add rfl rfl rfl) ?_
       refine G_val rfl rfl rfl rfl (V_assign rfl rfl) ?_
       refine G_done ?_
       refine G_sub ?_ [0] ?_ (ih2 (k + 1) ?_ ?_)
       · (refine (And.intro ?_ (And.intro ?_ (And.intro ?_ trivial))) <;> first | rfl | exact slot_int (by omega) | exact slot_int (by simp))
       · exact ⟨_, rfl⟩
       · omega
       · (first | omega | (dsimp only; omega))
     refine G_exit rfl ?_
     refine G_inBlock ?_
     refine G_region (l := [0, 1, 2]) rfl ?_
     refine G_val rfl rfl rfl rfl (V_move rfl rfl) ?_
     first
       | refine G_val rfl rfl rfl rfl ((V_add rfl rfl rfl).int (wrap_i64 (by omega))) ?_
       | refine G_val rfl rfl rfl rfl (V_add rfl rfl rfl) ?_
     refine G_val rfl rfl rfl rfl (V_assign rfl rfl) ?_
     refine G_done ?_
     refine G_sub ?_ [0] ?_ (ih (i + 1) ?_ ?_)
     · (refine (And.intro ?_ (And.intro ?_ trivial)) <;> first | rfl | exact slot_int (by omega) | exact slot_int (by simp))
     · exact ⟨_, rfl⟩
     · omega
     · (first | omega | (dsimp only; omega))
  refine G_exit rfl ?_
  refine G_seq ?_
  refine G_seq ?_
  refine G_region (l := [0]) rfl ?_
  refine G_val rfl rfl rfl rfl (V_assign rfl rfl) ?_
  refine G_done ?_
  refine G_block ?_
  refine G_sub ?he12 [0] ?hl12 (G_loop (X := Nat) (fun i => i ≤ l9.length) (fun i => l9.length - i) (fun i => [(1, .pointer (some ⟨b1, 0, none⟩)), (5, .int .i64 (i : Int))]) (fun i => [(some b1, .cells #[.int .u64 (tk : Int), .bool dr, .int .i64 n2, .int .i64 n3, .int .i64 n4, .int .i64 n5, .int .i64 n6, sv o7 p7 l7.length q7, sv o8 p8 l8.length q8, sv o9 p9 l9.length q9, sv o10 p10 l10.length q10, sv o11 p11 l11.length q11, .slice x12 n12 q12, sv o13 p13 l13.length q13, sv o14 p14 l14.length q14] 41 (0, 0))]) ?round12 0 ?h012)
  case he12 => exact (And.intro rfl (And.intro rfl trivial))
  case hl12 => exact ⟨_, rfl⟩
  case h012 => exact Nat.zero_le _
  case round12 =>
   intro i hJ ih
   try dsimp only at hJ ih
   refine G_seq ?_
   refine G_seq ?_
   refine G_region (l := [0, 1, 2, 3, 4]) rfl ?_
   refine G_val rfl rfl rfl rfl (V_move rfl rfl) ?_
   refine G_val rfl rfl rfl rfl (V_fieldAddr (fo := 9) rfl Tryd.underlying41 rfl infLarge_34 rfl rfl rfl) ?_
   refine G_val rfl rfl rfl rfl (V_load1 rfl rfl (List.mem_append_right _ (mem_at 0 rfl)) rfl Tryd.underlying34 rfl) ?_
   refine G_val rfl rfl rfl rfl (V_len rfl rfl Tryd.underlying34 rfl) ?_
   refine G_val rfl rfl rfl rfl (V_lss rfl rfl rfl) ?_
   refine G_done ?_
   refine G_ifD rfl (fun hc2 => ?_) (fun hc2 => ?_)
   · skip
     refine G_skip ?_
     refine G_seq ?_
     refine G_block ?_
     refine G_seq ?_
     obtain ⟨x, hx⟩ := getI (show i < l9.length by omega)
     obtain ⟨bo9, rfl⟩ := s9.isSome (by omega)
     refine GH_start (Lq := [_]) (isq := [0]) (m := 16) mixedK rfl rfl ?_
     refine GH_take 0 rfl rfl rfl rfl (by kernel_rfl) (by kernel_rfl) (by kernel_rfl) (fun _ _ => (V_fieldAddr (fo := 9) rfl Tryd.underlying41 rfl infLarge_34 rfl rfl rfl)) ?_
     refine GH_take 1 rfl rfl rfl rfl (by kernel_rfl) (by kernel_rfl) (by kernel_rfl) (fun _ _ => (V_load1 rfl rfl (List.mem_append_right _ (mem_at 0 rfl)) rfl Tryd.underlying34 rfl)) ?_
     refine GH_take 2 rfl rfl rfl rfl (by kernel_rfl) (by kernel_rfl) (by kernel_rfl) (fun _ _ => (V_move rfl rfl)) ?_
     first
       | refine GH_take 3 rfl rfl rfl rfl (by kernel_rfl) (by kernel_rfl) (by kernel_rfl) (fun _ _ => (V_indexAddrN (s := 7) rfl Tryd.underlying34 infLarge_80 rfl rfl rfl rfl (by omega))) ?_
       | refine GH_take 3 rfl rfl rfl rfl (by kernel_rfl) (by kernel_rfl) (by kernel_rfl) (fun _ _ => (V_indexAddr (s := 7) rfl Tryd.underlying34 infLarge_80 rfl rfl rfl (by omega) (by first | omega | (simp [rqCells, Sl.v, opC, wkC, ivC, ltC, wtC, sv, frC, trC, srC, prC]; done) | (simp [rqCells, Sl.v, opC, wkC, ivC, ltC, wtC, sv, frC, trC, srC, prC]; omega) | (simp [rqCells, Sl.v, opC, wkC, ivC, ltC, wtC, sv, frC, trC, srC, prC] at *; omega)))) ?_
     refine GH_take 4 rfl rfl rfl rfl (by kernel_rfl) (by kernel_rfl) (by kernel_rfl) (fun _ _ => (V_fieldAddr (fo := _ + 3) rfl Tryd.underlying80 rfl infLarge_9 rfl rfl rfl)) ?_
     refine GH_take 5 rfl rfl rfl rfl (by kernel_rfl) (by kernel_rfl) (by kernel_rfl) (fun _ _ => (V_load1 rfl rfl (List.mem_append_left _ (mem_at 2 rfl)) (nth_of (cell_at s9 wk_len hx 3 (by omega) rfl)) Tryd.underlying9 rfl)) ?_
     refine GH_take 6 rfl rfl rfl rfl (by kernel_rfl) (by kernel_rfl) (by kernel_rfl) (fun _ _ => (V_slen rfl rfl Tryd.underlying9 rfl)) ?_
     refine GH_take 7 rfl rfl rfl rfl (by kernel_rfl) (by kernel_rfl) (by kernel_rfl) (fun _ _ => (V_fieldAddr (fo := 9) rfl Tryd.underlying41 rfl infLarge_34 rfl rfl rfl)) ?_
     refine GH_take 8 rfl rfl rfl rfl (by kernel_rfl) (by kernel_rfl) (by kernel_rfl) (fun _ _ => (V_load1 rfl rfl (List.mem_append_right _ (mem_at 0 rfl)) rfl Tryd.underlying34 rfl)) ?_
     refine GH_take 9 rfl rfl rfl rfl (by kernel_rfl) (by kernel_rfl) (by kernel_rfl) (fun _ _ => (V_move rfl rfl)) ?_
     first
       | refine GH_take 10 rfl rfl rfl rfl (by kernel_rfl) (by kernel_rfl) (by kernel_rfl) (fun _ _ => (V_indexAddrN (s := 7) rfl Tryd.underlying34 infLarge_80 rfl rfl rfl rfl (by omega))) ?_
       | refine GH_take 10 rfl rfl rfl rfl (by kernel_rfl) (by kernel_rfl) (by kernel_rfl) (fun _ _ => (V_indexAddr (s := 7) rfl Tryd.underlying34 infLarge_80 rfl rfl rfl (by omega) (by first | omega | (simp [rqCells, Sl.v, opC, wkC, ivC, ltC, wtC, sv, frC, trC, srC, prC]; done) | (simp [rqCells, Sl.v, opC, wkC, ivC, ltC, wtC, sv, frC, trC, srC, prC]; omega) | (simp [rqCells, Sl.v, opC, wkC, ivC, ltC, wtC, sv, frC, trC, srC, prC] at *; omega)))) ?_
     refine GH_take 11 rfl rfl rfl rfl (by kernel_rfl) (by kernel_rfl) (by kernel_rfl) (fun _ _ => (V_fieldAddr (fo := _ + 4) rfl Tryd.underlying80 rfl infLarge_9 rfl rfl rfl)) ?_
     refine GH_take 12 rfl rfl rfl rfl (by kernel_rfl) (by kernel_rfl) (by kernel_rfl) (fun _ _ => (V_load1 rfl rfl (List.mem_append_left _ (mem_at 2 rfl)) (nth_of (cell_at s9 wk_len hx 4 (by omega) rfl)) Tryd.underlying9 rfl)) ?_
     refine GH_take 13 rfl rfl rfl rfl (by kernel_rfl) (by kernel_rfl) (by kernel_rfl) (fun _ _ => (V_slen rfl rfl Tryd.underlying9 rfl)) ?_
     first
       | refine GH_take 14 rfl rfl rfl rfl (by kernel_rfl) (by kernel_rfl) (by kernel_rfl) (fun _ _ => ((V_add rfl rfl rfl).int (wrap_i64 (by omega)))) ?_
       | refine GH_take 14 rfl rfl rfl rfl (by kernel_rfl) (by kernel_rfl) (by kernel_rfl) (fun _ _ => (V_add rfl rfl rfl)) ?_
     refine GH_take 15 rfl rfl rfl rfl (by kernel_rfl) (by kernel_rfl) (by kernel_rfl) (fun _ _ => (V_gtr rfl rfl rfl)) ?_
     refine GH_done (by kernel_rfl) ?_
     refine G_ifD rfl (fun hc3 => ?_) (fun hc3 => ?_)
     · skip
       refine G_seq ?_
       refine G_region (l := [0]) rfl ?_
       refine G_val rfl rfl rfl rfl (V_assign rfl rfl) ?_
       refine G_done ?_
       refine G_ret (post := []) Tryd.func15 rfl (RVs_cons (RV_tmp rfl) RVs_nil) [] rfl ?_
       dsimp only [packed]
       first
         | exact ⟨⟨true, rfl, fun h => Bool.noConfusion h⟩, rfl⟩
         | (refine ⟨⟨_, rfl, fun h => ?_⟩, rfl⟩
            have e7 := hz7 (by assumption)
            have e8 := hz8 (by assumption)
            have e14 := of_decide_eq_false h
            refine ⟨by omega, by omega, by omega, by omega, by omega, by omega, by omega, by omega⟩)
     refine G_skip ?_
     refine G_inBlock ?_
     refine G_region (l := [0, 1, 2]) rfl ?_
     refine G_val rfl rfl rfl rfl (V_move rfl rfl) ?_
     first
       | refine G_val rfl rfl rfl rfl ((V_add rfl rfl rfl).int (wrap_i64 (by omega))) ?_
       | refine G_val rfl rfl rfl rfl (V_add rfl rfl rfl) ?_
     refine G_val rfl rfl rfl rfl (V_assign rfl rfl) ?_
     refine G_done ?_
     refine G_sub ?_ [0] ?_ (ih (i + 1) ?_ ?_)
     · (refine (And.intro ?_ (And.intro ?_ trivial)) <;> first | rfl | exact slot_int (by omega) | exact slot_int (by simp))
     · exact ⟨_, rfl⟩
     · omega
     · (first | omega | (dsimp only; omega))
   refine G_exit rfl ?_
   refine G_seq ?_
   refine G_seq ?_
   refine G_region (l := [0]) rfl ?_
   refine G_val rfl rfl rfl rfl (V_assign rfl rfl) ?_
   refine G_done ?_
   refine G_block ?_
   refine G_sub ?he17 [0] ?hl17 (G_loop (X := Nat) (fun i => i ≤ l10.length) (fun i => l10.length - i) (fun i => [(1, .pointer (some ⟨b1, 0, none⟩)), (6, .int .i64 (i : Int))]) (fun i => [(some b1, .cells #[.int .u64 (tk : Int), .bool dr, .int .i64 n2, .int .i64 n3, .int .i64 n4, .int .i64 n5, .int .i64 n6, sv o7 p7 l7.length q7, sv o8 p8 l8.length q8, sv o9 p9 l9.length q9, sv o10 p10 l10.length q10, sv o11 p11 l11.length q11, .slice x12 n12 q12, sv o13 p13 l13.length q13, sv o14 p14 l14.length q14] 41 (0, 0))]) ?round17 0 ?h017)
   case he17 => exact (And.intro rfl (And.intro rfl trivial))
   case hl17 => exact ⟨_, rfl⟩
   case h017 => exact Nat.zero_le _
   case round17 =>
    intro i hJ ih
    try dsimp only at hJ ih
    refine G_seq ?_
    refine G_seq ?_
    refine G_region (l := [0, 1, 2, 3, 4]) rfl ?_
    refine G_val rfl rfl rfl rfl (V_move rfl rfl) ?_
    refine G_val rfl rfl rfl rfl (V_fieldAddr (fo := 10) rfl Tryd.underlying41 rfl infLarge_35 rfl rfl rfl) ?_
    refine G_val rfl rfl rfl rfl (V_load1 rfl rfl (List.mem_append_right _ (mem_at 0 rfl)) rfl Tryd.underlying35 rfl) ?_
    refine G_val rfl rfl rfl rfl (V_len rfl rfl Tryd.underlying35 rfl) ?_
    refine G_val rfl rfl rfl rfl (V_lss rfl rfl rfl) ?_
    refine G_done ?_
    refine G_ifD rfl (fun hc3 => ?_) (fun hc3 => ?_)
    · skip
      refine G_skip ?_
      refine G_seq ?_
      refine G_block ?_
      refine G_seq ?_
      obtain ⟨x, hx⟩ := getI (show i < l10.length by omega)
      obtain ⟨bo10, rfl⟩ := s10.isSome (by omega)
      refine G_region (l := [0, 1, 2, 3, 4, 5, 6, 7]) rfl ?_
      refine G_val rfl rfl rfl rfl (V_fieldAddr (fo := 10) rfl Tryd.underlying41 rfl infLarge_35 rfl rfl rfl) ?_
      refine G_val rfl rfl rfl rfl (V_load1 rfl rfl (List.mem_append_right _ (mem_at 0 rfl)) rfl Tryd.underlying35 rfl) ?_
      refine G_val rfl rfl rfl rfl (V_move rfl rfl) ?_
      first
        | refine G_val rfl rfl rfl rfl (V_indexAddrN (s := 5) rfl Tryd.underlying35 infLarge_82 rfl rfl rfl rfl (by omega)) ?_
        | refine G_val rfl rfl rfl rfl (V_indexAddr (s := 5) rfl Tryd.underlying35 infLarge_82 rfl rfl rfl (by omega) (by first | omega | (simp [rqCells, Sl.v, opC, wkC, ivC, ltC, wtC, sv, frC, trC, srC, prC]; done) | (simp [rqCells, Sl.v, opC, wkC, ivC, ltC, wtC, sv, frC, trC, srC, prC]; omega) | (simp [rqCells, Sl.v, opC, wkC, ivC, ltC, wtC, sv, frC, trC, srC, prC] at *; omega))) ?_
      refine G_val rfl rfl rfl rfl (V_fieldAddr (fo := _ + 2) rfl Tryd.underlying82 rfl infLarge_9 rfl rfl rfl) ?_
      refine G_val rfl rfl rfl rfl (V_load1 rfl rfl (List.mem_append_left _ (mem_at 3 rfl)) (nth_of (cell_at s10 iv_len hx 2 (by omega) rfl)) Tryd.underlying9 rfl) ?_
      refine G_val rfl rfl rfl rfl (V_slen rfl rfl Tryd.underlying9 rfl) ?_
      refine G_val rfl rfl rfl rfl (V_gtr rfl rfl rfl) ?_
      refine G_done ?_
      refine G_ifD rfl (fun hc4 => ?_) (fun hc4 => ?_)
      · skip
        refine G_seq ?_
        refine G_region (l := [0]) rfl ?_
        refine G_val rfl rfl rfl rfl (V_assign rfl rfl) ?_
        refine G_done ?_
        refine G_ret (post := []) Tryd.func15 rfl (RVs_cons (RV_tmp rfl) RVs_nil) [] rfl ?_
        dsimp only [packed]
        first
          | exact ⟨⟨true, rfl, fun h => Bool.noConfusion h⟩, rfl⟩
          | (refine ⟨⟨_, rfl, fun h => ?_⟩, rfl⟩
             have e7 := hz7 (by assumption)
             have e8 := hz8 (by assumption)
             have e14 := of_decide_eq_false h
             refine ⟨by omega, by omega, by omega, by omega, by omega, by omega, by omega, by omega⟩)
      refine G_skip ?_
      refine G_inBlock ?_
      refine G_region (l := [0, 1, 2]) rfl ?_
      refine G_val rfl rfl rfl rfl (V_move rfl rfl) ?_
      first
        | refine G_val rfl rfl rfl rfl ((V_add rfl rfl rfl).int (wrap_i64 (by omega))) ?_
        | refine G_val rfl rfl rfl rfl (V_add rfl rfl rfl) ?_
      refine G_val rfl rfl rfl rfl (V_assign rfl rfl) ?_
      refine G_done ?_
      refine G_sub ?_ [0] ?_ (ih (i + 1) ?_ ?_)
      · (refine (And.intro ?_ (And.intro ?_ trivial)) <;> first | rfl | exact slot_int (by omega) | exact slot_int (by simp))
      · exact ⟨_, rfl⟩
      · omega
      · (first | omega | (dsimp only; omega))
    refine G_exit rfl ?_
    refine G_seq ?_
    refine G_region (l := [0, 1, 2, 3, 4, 5, 6, 7, 8, 9, 10, 11, 12, 13, 14, 15, 16, 17, 18, 19, 20, 21, 22, 23, 24, 25, 26, 27, 28, 29, 30, 31, 32, 33, 34, 35, 36, 37, 38, 39, 40, 41, 42, 43, 44]) rfl ?_
    refine G_val rfl rfl rfl rfl (V_fieldAddr (fo := 7) rfl Tryd.underlying41 rfl infLarge_33 rfl rfl rfl) ?_
    refine G_val rfl rfl rfl rfl (V_load1 rfl rfl (List.mem_append_right _ (mem_at 0 rfl)) rfl Tryd.underlying33 rfl) ?_
    refine G_callM (L2 := [_]) rfl rfl rfl rfl rfl rfl Tryd.call35 (lg_ops o7 p7 q7 c7 T7 f7 l7 s7) [] rfl (subA_cons (List.mem_append_left _ (mem_at 0 rfl)) subA_nil) ?_
    rintro v post ⟨⟨z7, rfl, hz7⟩, rfl⟩
    show G _ _ _ [_] _
    refine G_val rfl rfl rfl rfl (V_move rfl rfl) ?_
    refine G_split 105 rfl (fun hc4 => ?_) (fun hc4 => ?_)
    · skip
      refine G_off rfl rfl rfl rfl ?_
      refine G_off rfl rfl rfl rfl ?_
      refine G_off rfl rfl rfl rfl ?_
      refine G_val rfl rfl rfl rfl (V_pickT rfl rfl rfl) ?_
      refine G_val rfl rfl rfl rfl (V_move rfl rfl) ?_
      refine G_off rfl rfl rfl rfl ?_
      refine G_off rfl rfl rfl rfl ?_
      refine G_off rfl rfl rfl rfl ?_
      refine G_off rfl rfl rfl rfl ?_
      refine G_val rfl rfl rfl rfl (V_pickT rfl rfl rfl) ?_
      refine G_val rfl rfl rfl rfl (V_move rfl rfl) ?_
      refine G_off rfl rfl rfl rfl ?_
      refine G_off rfl rfl rfl rfl ?_
      refine G_off rfl rfl rfl rfl ?_
      refine G_off rfl rfl rfl rfl ?_
      refine G_val rfl rfl rfl rfl (V_pickT rfl rfl rfl) ?_
      refine G_val rfl rfl rfl rfl (V_move rfl rfl) ?_
      refine G_off rfl rfl rfl rfl ?_
      refine G_off rfl rfl rfl rfl ?_
      refine G_off rfl rfl rfl rfl ?_
      refine G_off rfl rfl rfl rfl ?_
      refine G_val rfl rfl rfl rfl (V_pickT rfl rfl rfl) ?_
      refine G_val rfl rfl rfl rfl (V_move rfl rfl) ?_
      refine G_off rfl rfl rfl rfl ?_
      refine G_off rfl rfl rfl rfl ?_
      refine G_off rfl rfl rfl rfl ?_
      refine G_off rfl rfl rfl rfl ?_
      refine G_val rfl rfl rfl rfl (V_pickT rfl rfl rfl) ?_
      refine G_val rfl rfl rfl rfl (V_move rfl rfl) ?_
      refine G_off rfl rfl rfl rfl ?_
      refine G_off rfl rfl rfl rfl ?_
      refine G_off rfl rfl rfl rfl ?_
      refine G_off rfl rfl rfl rfl ?_
      refine G_val rfl rfl rfl rfl (V_pickT rfl rfl rfl) ?_
      refine G_val rfl rfl rfl rfl (V_move rfl rfl) ?_
      refine G_off rfl rfl rfl rfl ?_
      refine G_off rfl rfl rfl rfl ?_
      refine G_off rfl rfl rfl rfl ?_
      refine G_off rfl rfl rfl rfl ?_
      refine G_val rfl rfl rfl rfl (V_pickT rfl rfl rfl) ?_
      refine G_val rfl rfl rfl rfl (V_assign rfl rfl) ?_
      refine G_done ?_
      refine G_ret (post := []) Tryd.func15 rfl (RVs_cons (RV_tmp rfl) RVs_nil) [] rfl ?_
      dsimp only [packed]
      first
        | exact ⟨⟨true, rfl, fun h => Bool.noConfusion h⟩, rfl⟩
        | (refine ⟨⟨_, rfl, fun h => ?_⟩, rfl⟩
           have e7 := hz7 (by assumption)
           have e8 := hz8 (by assumption)
           have e14 := of_decide_eq_false h
           refine ⟨by omega, by omega, by omega, by omega, by omega, by omega, by omega, by omega⟩)
    refine G_val rfl rfl rfl rfl (V_fieldAddr (fo := 8) rfl Tryd.underlying41 rfl infLarge_33 rfl rfl rfl) ?_
    refine G_val rfl rfl rfl rfl (V_load1 rfl rfl (List.mem_append_right _ (mem_at 0 rfl)) rfl Tryd.underlying33 rfl) ?_
    refine G_callM (L2 := [_]) rfl rfl rfl rfl rfl rfl Tryd.call35 (lg_ops o8 p8 q8 c8 T8 f8 l8 s8) [] rfl (subA_cons (List.mem_append_left _ (mem_at 1 rfl)) subA_nil) ?_
    rintro v post ⟨⟨z8, rfl, hz8⟩, rfl⟩
    show G _ _ _ [_] _
    refine G_val rfl rfl rfl rfl (V_pickF rfl rfl rfl) ?_
    refine G_val rfl rfl rfl rfl (V_move rfl rfl) ?_
    refine G_split 110 rfl (fun hc5 => ?_) (fun hc5 => ?_)
    · skip
      refine G_off rfl rfl rfl rfl ?_
      refine G_off rfl rfl rfl rfl ?_
      refine G_off rfl rfl rfl rfl ?_
      refine G_off rfl rfl rfl rfl ?_
      refine G_val rfl rfl rfl rfl (V_pickT rfl rfl rfl) ?_
      refine G_val rfl rfl rfl rfl (V_move rfl rfl) ?_
      refine G_off rfl rfl rfl rfl ?_
      refine G_off rfl rfl rfl rfl ?_
      refine G_off rfl rfl rfl rfl ?_
      refine G_off rfl rfl rfl rfl ?_
      refine G_val rfl rfl rfl rfl (V_pickT rfl rfl rfl) ?_
      refine G_val rfl rfl rfl rfl (V_move rfl rfl) ?_
      refine G_off rfl rfl rfl rfl ?_
      refine G_off rfl rfl rfl rfl ?_
      refine G_off rfl rfl rfl rfl ?_
      refine G_off rfl rfl rfl rfl ?_
      refine G_val rfl rfl rfl rfl (V_pickT rfl rfl rfl) ?_
      refine G_val rfl rfl rfl rfl (V_move rfl rfl) ?_
      refine G_off rfl rfl rfl rfl ?_
      refine G_off rfl rfl rfl rfl ?_
      refine G_off rfl rfl rfl rfl ?_
      refine G_off rfl rfl rfl rfl ?_
      refine G_val rfl rfl rfl rfl (V_pickT rfl rfl rfl) ?_
      refine G_val rfl rfl rfl rfl (V_move rfl rfl) ?_
      refine G_off rfl rfl rfl rfl ?_
      refine G_off rfl rfl rfl rfl ?_
      refine G_off rfl rfl rfl rfl ?_
      refine G_off rfl rfl rfl rfl ?_
      refine G_val rfl rfl rfl rfl (V_pickT rfl rfl rfl) ?_
      refine G_val rfl rfl rfl rfl (V_move rfl rfl) ?_
      refine G_off rfl rfl rfl rfl ?_
      refine G_off rfl rfl rfl rfl ?_
      refine G_off rfl rfl rfl rfl ?_
      refine G_off rfl rfl rfl rfl ?_
      refine G_val rfl rfl rfl rfl (V_pickT rfl rfl rfl) ?_
      refine G_val rfl rfl rfl rfl (V_assign rfl rfl) ?_
      refine G_done ?_
      refine G_ret (post := []) Tryd.func15 rfl (RVs_cons (RV_tmp rfl) RVs_nil) [] rfl ?_
      dsimp only [packed]
      first
        | exact ⟨⟨true, rfl, fun h => Bool.noConfusion h⟩, rfl⟩
        | (refine ⟨⟨_, rfl, fun h => ?_⟩, rfl⟩
           have e7 := hz7 (by assumption)
           have e8 := hz8 (by assumption)
           have e14 := of_decide_eq_false h
           refine ⟨by omega, by omega, by omega, by omega, by omega, by omega, by omega, by omega⟩)
    refine G_val rfl rfl rfl rfl (V_fieldAddr (fo := 9) rfl Tryd.underlying41 rfl infLarge_34 rfl rfl rfl) ?_
    refine G_val rfl rfl rfl rfl (V_load1 rfl rfl (List.mem_append_right _ (mem_at 0 rfl)) rfl Tryd.underlying34 rfl) ?_
    refine G_val rfl rfl rfl rfl (V_len rfl rfl Tryd.underlying34 rfl) ?_
    refine G_val rfl rfl rfl rfl (V_gtr rfl rfl rfl) ?_
    refine G_val rfl rfl rfl rfl (V_pickF rfl rfl rfl) ?_
    refine G_val rfl rfl rfl rfl (V_move rfl rfl) ?_
    refine G_splitD 116 rfl (fun hc6 => ?_) (fun hc6 => ?_)
    · skip
      refine G_off rfl rfl rfl rfl ?_
      refine G_off rfl rfl rfl rfl ?_
      refine G_off rfl rfl rfl rfl ?_
      refine G_off rfl rfl rfl rfl ?_
      refine G_val rfl rfl rfl rfl (V_pickT rfl rfl rfl) ?_
      refine G_val rfl rfl rfl rfl (V_move rfl rfl) ?_
      refine G_off rfl rfl rfl rfl ?_
      refine G_off rfl rfl rfl rfl ?_
      refine G_off rfl rfl rfl rfl ?_
      refine G_off rfl rfl rfl rfl ?_
      refine G_val rfl rfl rfl rfl (V_pickT rfl rfl rfl) ?_
      refine G_val rfl rfl rfl rfl (V_move rfl rfl) ?_
      refine G_off rfl rfl rfl rfl ?_
      refine G_off rfl rfl rfl rfl ?_
      refine G_off rfl rfl rfl rfl ?_
      refine G_off rfl rfl rfl rfl ?_
      refine G_val rfl rfl rfl rfl (V_pickT rfl rfl rfl) ?_
      refine G_val rfl rfl rfl rfl (V_move rfl rfl) ?_
      refine G_off rfl rfl rfl rfl ?_
      refine G_off rfl rfl rfl rfl ?_
      refine G_off rfl rfl rfl rfl ?_
      refine G_off rfl rfl rfl rfl ?_
      refine G_val rfl rfl rfl rfl (V_pickT rfl rfl rfl) ?_
      refine G_val rfl rfl rfl rfl (V_move rfl rfl) ?_
      refine G_off rfl rfl rfl rfl ?_
      refine G_off rfl rfl rfl rfl ?_
      refine G_off rfl rfl rfl rfl ?_
      refine G_off rfl rfl rfl rfl ?_
      refine G_val rfl rfl rfl rfl (V_pickT rfl rfl rfl) ?_
      refine G_val rfl rfl rfl rfl (V_assign rfl rfl) ?_
      refine G_done ?_
      refine G_ret (post := []) Tryd.func15 rfl (RVs_cons (RV_tmp rfl) RVs_nil) [] rfl ?_
      dsimp only [packed]
      first
        | exact ⟨⟨true, rfl, fun h => Bool.noConfusion h⟩, rfl⟩
        | (refine ⟨⟨_, rfl, fun h => ?_⟩, rfl⟩
           have e7 := hz7 (by assumption)
           have e8 := hz8 (by assumption)
           have e14 := of_decide_eq_false h
           refine ⟨by omega, by omega, by omega, by omega, by omega, by omega, by omega, by omega⟩)
    refine G_val rfl rfl rfl rfl (V_fieldAddr (fo := 10) rfl Tryd.underlying41 rfl infLarge_35 rfl rfl rfl) ?_
    refine G_val rfl rfl rfl rfl (V_load1 rfl rfl (List.mem_append_right _ (mem_at 0 rfl)) rfl Tryd.underlying35 rfl) ?_
    refine G_val rfl rfl rfl rfl (V_len rfl rfl Tryd.underlying35 rfl) ?_
    refine G_val rfl rfl rfl rfl (V_gtr rfl rfl rfl) ?_
    refine G_val rfl rfl rfl rfl (V_pickF rfl rfl rfl) ?_
    refine G_val rfl rfl rfl rfl (V_move rfl rfl) ?_
    refine G_splitD 122 rfl (fun hc7 => ?_) (fun hc7 => ?_)
    · skip
      refine G_off rfl rfl rfl rfl ?_
      refine G_off rfl rfl rfl rfl ?_
      refine G_off rfl rfl rfl rfl ?_
      refine G_off rfl rfl rfl rfl ?_
      refine G_val rfl rfl rfl rfl (V_pickT rfl rfl rfl) ?_
      refine G_val rfl rfl rfl rfl (V_move rfl rfl) ?_
      refine G_off rfl rfl rfl rfl ?_
      refine G_off rfl rfl rfl rfl ?_
      refine G_off rfl rfl rfl rfl ?_
      refine G_off rfl rfl rfl rfl ?_
      refine G_val rfl rfl rfl rfl (V_pickT rfl rfl rfl) ?_
      refine G_val rfl rfl rfl rfl (V_move rfl rfl) ?_
      refine G_off rfl rfl rfl rfl ?_
      refine G_off rfl rfl rfl rfl ?_
      refine G_off rfl rfl rfl rfl ?_
      refine G_off rfl rfl rfl rfl ?_
      refine G_val rfl rfl rfl rfl (V_pickT rfl rfl rfl) ?_
      refine G_val rfl rfl rfl rfl (V_move rfl rfl) ?_
      refine G_off rfl rfl rfl rfl ?_
      refine G_off rfl rfl rfl rfl ?_
      refine G_off rfl rfl rfl rfl ?_
      refine G_off rfl rfl rfl rfl ?_
      refine G_val rfl rfl rfl rfl (V_pickT rfl rfl rfl) ?_
      refine G_val rfl rfl rfl rfl (V_assign rfl rfl) ?_
      refine G_done ?_
      refine G_ret (post := []) Tryd.func15 rfl (RVs_cons (RV_tmp rfl) RVs_nil) [] rfl ?_
      dsimp only [packed]
      first
        | exact ⟨⟨true, rfl, fun h => Bool.noConfusion h⟩, rfl⟩
        | (refine ⟨⟨_, rfl, fun h => ?_⟩, rfl⟩
           have e7 := hz7 (by assumption)
           have e8 := hz8 (by assumption)
           have e14 := of_decide_eq_false h
           refine ⟨by omega, by omega, by omega, by omega, by omega, by omega, by omega, by omega⟩)
    refine G_val rfl rfl rfl rfl (V_fieldAddr (fo := 11) rfl Tryd.underlying41 rfl infLarge_36 rfl rfl rfl) ?_
    refine G_val rfl rfl rfl rfl (V_load1 rfl rfl (List.mem_append_right _ (mem_at 0 rfl)) rfl Tryd.underlying36 rfl) ?_
    refine G_val rfl rfl rfl rfl (V_len rfl rfl Tryd.underlying36 rfl) ?_
    refine G_val rfl rfl rfl rfl (V_gtr rfl rfl rfl) ?_
    refine G_val rfl rfl rfl rfl (V_pickF rfl rfl rfl) ?_
    refine G_val rfl rfl rfl rfl (V_move rfl rfl) ?_
    refine G_splitD 128 rfl (fun hc8 => ?_) (fun hc8 => ?_)
    · skip
      refine G_off rfl rfl rfl rfl ?_
      refine G_off rfl rfl rfl rfl ?_
      refine G_off rfl rfl rfl rfl ?_
      refine G_off rfl rfl rfl rfl ?_
      refine G_val rfl rfl rfl rfl (V_pickT rfl rfl rfl) ?_
      refine G_val rfl rfl rfl rfl (V_move rfl rfl) ?_
      refine G_off rfl rfl rfl rfl ?_
      refine G_off rfl rfl rfl rfl ?_
      refine G_off rfl rfl rfl rfl ?_
      refine G_off rfl rfl rfl rfl ?_
      refine G_val rfl rfl rfl rfl (V_pickT rfl rfl rfl) ?_
      refine G_val rfl rfl rfl rfl (V_move rfl rfl) ?_
      refine G_off rfl rfl rfl rfl ?_
      refine G_off rfl rfl rfl rfl ?_
      refine G_off rfl rfl rfl rfl ?_
      refine G_off rfl rfl rfl rfl ?_
      refine G_val rfl rfl rfl rfl (V_pickT rfl rfl rfl) ?_
      refine G_val rfl rfl rfl rfl (V_assign rfl rfl) ?_
      refine G_done ?_
      refine G_ret (post := []) Tryd.func15 rfl (RVs_cons (RV_tmp rfl) RVs_nil) [] rfl ?_
      dsimp only [packed]
      first
        | exact ⟨⟨true, rfl, fun h => Bool.noConfusion h⟩, rfl⟩
        | (refine ⟨⟨_, rfl, fun h => ?_⟩, rfl⟩
           have e7 := hz7 (by assumption)
           have e8 := hz8 (by assumption)
           have e14 := of_decide_eq_false h
           refine ⟨by omega, by omega, by omega, by omega, by omega, by omega, by omega, by omega⟩)
    refine G_val rfl rfl rfl rfl (V_fieldAddr (fo := 12) rfl Tryd.underlying41 rfl infLarge_37 rfl rfl rfl) ?_
    refine G_val rfl rfl rfl rfl (V_load1 rfl rfl (List.mem_append_right _ (mem_at 0 rfl)) rfl Tryd.underlying37 rfl) ?_
    refine G_val rfl rfl rfl rfl (V_len rfl rfl Tryd.underlying37 rfl) ?_
    refine G_val rfl rfl rfl rfl (V_gtr rfl rfl rfl) ?_
    refine G_val rfl rfl rfl rfl (V_pickF rfl rfl rfl) ?_
    refine G_val rfl rfl rfl rfl (V_move rfl rfl) ?_
    refine G_splitD 134 rfl (fun hc9 => ?_) (fun hc9 => ?_)
    · skip
      refine G_off rfl rfl rfl rfl ?_
      refine G_off rfl rfl rfl rfl ?_
      refine G_off rfl rfl rfl rfl ?_
      refine G_off rfl rfl rfl rfl ?_
      refine G_val rfl rfl rfl rfl (V_pickT rfl rfl rfl) ?_
      refine G_val rfl rfl rfl rfl (V_move rfl rfl) ?_
      refine G_off rfl rfl rfl rfl ?_
      refine G_off rfl rfl rfl rfl ?_
      refine G_off rfl rfl rfl rfl ?_
      refine G_off rfl rfl rfl rfl ?_
      refine G_val rfl rfl rfl rfl (V_pickT rfl rfl rfl) ?_
      refine G_val rfl rfl rfl rfl (V_assign rfl rfl) ?_
      refine G_done ?_
      refine G_ret (post := []) Tryd.func15 rfl (RVs_cons (RV_tmp rfl) RVs_nil) [] rfl ?_
      dsimp only [packed]
      first
        | exact ⟨⟨true, rfl, fun h => Bool.noConfusion h⟩, rfl⟩
        | (refine ⟨⟨_, rfl, fun h => ?_⟩, rfl⟩
           have e7 := hz7 (by assumption)
           have e8 := hz8 (by assumption)
           have e14 := of_decide_eq_false h
           refine ⟨by omega, by omega, by omega, by omega, by omega, by omega, by omega, by omega⟩)
    refine G_val rfl rfl rfl rfl (V_fieldAddr (fo := 13) rfl Tryd.underlying41 rfl infLarge_38 rfl rfl rfl) ?_
    refine G_val rfl rfl rfl rfl (V_load1 rfl rfl (List.mem_append_right _ (mem_at 0 rfl)) rfl Tryd.underlying38 rfl) ?_
    refine G_val rfl rfl rfl rfl (V_len rfl rfl Tryd.underlying38 rfl) ?_
    refine G_val rfl rfl rfl rfl (V_gtr rfl rfl rfl) ?_
    refine G_val rfl rfl rfl rfl (V_pickF rfl rfl rfl) ?_
    refine G_val rfl rfl rfl rfl (V_move rfl rfl) ?_
    refine G_splitD 140 rfl (fun hc10 => ?_) (fun hc10 => ?_)
    · skip
      refine G_off rfl rfl rfl rfl ?_
      refine G_off rfl rfl rfl rfl ?_
      refine G_off rfl rfl rfl rfl ?_
      refine G_off rfl rfl rfl rfl ?_
      refine G_val rfl rfl rfl rfl (V_pickT rfl rfl rfl) ?_
      refine G_val rfl rfl rfl rfl (V_assign rfl rfl) ?_
      refine G_done ?_
      refine G_ret (post := []) Tryd.func15 rfl (RVs_cons (RV_tmp rfl) RVs_nil) [] rfl ?_
      dsimp only [packed]
      first
        | exact ⟨⟨true, rfl, fun h => Bool.noConfusion h⟩, rfl⟩
        | (refine ⟨⟨_, rfl, fun h => ?_⟩, rfl⟩
           have e7 := hz7 (by assumption)
           have e8 := hz8 (by assumption)
           have e14 := of_decide_eq_false h
           refine ⟨by omega, by omega, by omega, by omega, by omega, by omega, by omega, by omega⟩)
    refine G_val rfl rfl rfl rfl (V_fieldAddr (fo := 14) rfl Tryd.underlying41 rfl infLarge_39 rfl rfl rfl) ?_
    refine G_val rfl rfl rfl rfl (V_load1 rfl rfl (List.mem_append_right _ (mem_at 0 rfl)) rfl Tryd.underlying39 rfl) ?_
    refine G_val rfl rfl rfl rfl (V_len rfl rfl Tryd.underlying39 rfl) ?_
    refine G_val rfl rfl rfl rfl (V_gtr rfl rfl rfl) ?_
    refine G_val rfl rfl rfl rfl (V_pickF rfl rfl rfl) ?_
    refine G_val rfl rfl rfl rfl (V_assign rfl rfl) ?_
    refine G_done ?_
    refine G_ret (post := []) Tryd.func15 rfl (RVs_cons (RV_tmp rfl) RVs_nil) [] rfl ?_
    dsimp only [packed]
    first
      | exact ⟨⟨true, rfl, fun h => Bool.noConfusion h⟩, rfl⟩
      | (refine ⟨⟨_, rfl, fun h => ?_⟩, rfl⟩
         have e7 := hz7 (by assumption)
         have e8 := hz8 (by assumption)
         have e14 := of_decide_eq_false h
         refine ⟨by omega, by omega, by omega, by omega, by omega, by omega, by omega, by omega⟩)

end
end Go.Proofs.YtjnaeoelnmhjfaaDoor

/- From a law's walk ('it returns true, and nothing that was there has turned') to the row's own form, for a law with any parameters: one lemma for all laws. -/
namespace Go.Proofs.YtjnaeoelnmhjfaaDoor
open Go.ChangeShapes Go.WideShapes Go.ChangeAt Go.RowKit

theorem Tryd.ownK : ownKnob Tryd.prog.godebug = none := by kernel_rfl
theorem Tryd.laidOutK : laidOutB Tryd.prog = true := by kernel_rfl

theorem trodAll_below {H : Type} {enc : TypeId × Value → H} {P : Program} (hl : laidOutB P = true) {W W' : World} (hb : Below W.heap.size W W') :
    ∀ (ts : List TypeId) (vs : List Value) (ds : List (DataW H)) (ps : List MemPlace), (∀ t ∈ ts, P.readableRec t = true ∧ t < P.types.size) →
      DataW.TrodAll enc P W 0 (fun _ => true) true ts vs ds ps → DataW.TrodAll enc P W' 0 (fun b => decide (b < W.heap.size)) true ts vs ds ps
  | [], [], [], _, _, h => h
  | [], [], _ :: _, _, _, h => h.elim
  | [], _ :: _, [], _, _, h => h.elim
  | [], _ :: _, _ :: _, _, _, h => h.elim
  | _ :: _, [], [], _, _, h => h.elim
  | _ :: _, [], _ :: _, _, _, h => h.elim
  | _ :: _, _ :: _, [], _, _, h => h.elim
  | t :: ts, v :: vs, d :: ds, ps, hr, h => by
    obtain ⟨p, q, h1, h2, e⟩ := h
    have hlt : ∀ x ∈ p, x.block < W.heap.size := by
      obtain ⟨m, hm⟩ := h1
      exact DataW.trod_lt m _ _ _ hm
    exact ⟨p, q, Below.trod hl (hr t (by simp)).1 (hr t (by simp)).2 h1 hb hlt, trodAll_below hl hb ts vs ds q (fun t ht => hr t (by simp [ht])) h2, e⟩

theorem u64_word {a : Int} (h : (Lit.int .u64 a).wf = true) : ∃ n : Nat, a = (n : Int) ∧ U64 n := by
  have := bounds_u64 h
  exact ⟨a.toNat, by omega, by unfold U64; omega⟩

/-- What a law's walk must show: called with whatever can be read at its parameters' types it returns true and writes nothing that was there. -/
def LawWalk (f : FuncId) (F : Func) : Prop :=
  ∀ (H : Type) (enc : TypeId × Value → H) (W : World) (base : Nat) (args : Array Value) (ds : List (DataW H)) (p : List MemPlace),
    (∀ (j : Nat) t v, F.params[j]? = some t → args[j]? = some v → Value.okWide Tryd.prog W .any base t v) →
    DataW.TrodAll enc Tryd.prog W 0 (fun _ => true) true F.params.toList args.toList ds p →
    Calls Tryd.prog f args W fun e W' => e = .returned (.bool true) ∧ Below W.heap.size W W'

theorem trodAll_len {H : Type} {enc : TypeId × Value → H} {P : Program} {w : World} {base : Nat} {spare : Nat → Bool} {held : Bool} :
    ∀ (ts : List TypeId) (vs : List Value) (ds : List (DataW H)) (ps : List MemPlace), DataW.TrodAll enc P w base spare held ts vs ds ps → ds.length = ts.length
  | [], [], [], _, _ => rfl
  | [], [], _ :: _, _, h => h.elim
  | [], _ :: _, [], _, h => h.elim
  | [], _ :: _, _ :: _, _, h => h.elim
  | _ :: _, [], [], _, h => h.elim
  | _ :: _, [], _ :: _, _, h => h.elim
  | _ :: _, _ :: _, [], _, h => h.elim
  | _ :: ts, _ :: vs, _ :: ds, _, h => by
    obtain ⟨p, q, _, h2, _⟩ := h
    simp [trodAll_len ts vs ds q h2]

set_option maxRecDepth 100000 in
theorem law_lifted {f : FuncId} {F : Func} {s : ChangeSpec} (os : Os) (started : os.Started) (H : Type) (enc : TypeId × Value → H)
    (hfn : Tryd.prog.funcs[f]? = some F) (hni : Tryd.checked.prog.inits.idxOf? f = none)
    (witness : ∃ (w : World) (tape : Tape) (i : Input), w.os = os ∧ (w.forCall tape i).Shaped Tryd.checked.prog ∧ i.vars = [] ∧ Input.okWide Tryd.checked.prog (w.forCall tape i) .any w.heap.size f i ∧
      s.pre6 enc Tryd.checked.prog F [] false (w.forCall tape i).memory i.args ∧ Assume.holds {} Tryd.checked.prog (lone (Frame.enter Tryd.checked.prog f i.args .normal) [] (w.forCall tape i)))
    (hvars : s.vars = []) (hrt : F.resultTypes.toList = [4]) (hrs : F.resultTypes.size = 1)
    (hread : ∀ t ∈ F.params.toList, Tryd.prog.readableRec t = true ∧ t < Tryd.prog.types.size)
    (hspec : ∀ ds : List (DataW H), ds.length = F.params.toList.length → s.fn H (ds ++ []) = { results := [.lit (.bool true)], args := ds })
    (walk : LawWalk f F) :
    ReturnsInHanded {} Tryd.checked os f .any (s.pre6 enc Tryd.prog F [] false) (s.post enc Tryd.prog F false true false false) := by
  refine returnsInHanded_of_change (C := Tryd.checked) Tryd.ownK started hni hfn witness ?_
  intro W base args ds gs before hval hW _ _
  have hW' := hW
  obtain ⟨p, q, hA, hV, rfl, hfz, hnd⟩ := hW
  rw [hvars] at hV
  obtain ⟨rfl, rfl⟩ := trodVars_none hV
  have hlen := trodAll_len _ _ _ _ hA
  refine (walk H enc W base args ds p hval hA).mono fun e W' ⟨he, hb⟩ => ?_
  subst he
  refine ⟨_, rfl, ds, [], _, [], p, [], hW', ?_, ?_, ?_, hb.frame _, fun h => by cases h⟩
  rotate_left
  · rw [hspec ds hlen]
    exact trodAll_below Tryd.laidOutK hb _ _ _ _ hread hA
  · rw [hvars, hspec ds hlen]
    rfl
  · rw [hspec ds hlen, hrt, hrs]
    exact trodAll_mk1 (shut_bool Tryd.underlying4 _)

end Go.Proofs.YtjnaeoelnmhjfaaDoor

/- From a law's walk to the form of a row that lists package-level variables: one lemma for all laws of such a seat. -/
namespace Go.Proofs.YtjnaeoelnmhjfaaDoor
open Go.ChangeShapes Go.WideShapes Go.ChangeAt Go.RowKit

set_option maxRecDepth 100000 in
theorem law_end {f : FuncId} {F : Func} {s : ChangeSpec} {H : Type} {enc : TypeId × Value → H}
    (hvars : s.vars = []) (hrt : F.resultTypes.toList = [4]) (hrs : F.resultTypes.size = 1)
    (hread : ∀ t ∈ F.params.toList, Tryd.prog.readableRec t = true ∧ t < Tryd.prog.types.size)
    (hspec : ∀ ds : List (DataW H), ds.length = F.params.toList.length → s.fn H (ds ++ []) = { results := [.lit (.bool true)], args := ds })
    (walk : LawWalk f F) (W : World) (base : Nat) (args : Array Value) (ds gs : List (DataW H)) (before : List MemPlace)
    (hval : ∀ (j : Nat) t v, F.params[j]? = some t → args[j]? = some v → Value.okWide Tryd.prog W .any base t v)
    (hW : DataW.Whole enc Tryd.prog F.params.toList s.vars false W args.toList ds gs before) :
    Calls Tryd.prog f args W fun e W' => ∃ v, e = .returned v ∧ s.post enc Tryd.prog F false true false false W args v W' := by
  have hW' := hW
  obtain ⟨p, q, hA, hV, rfl, hfz, hnd⟩ := hW
  rw [hvars] at hV
  obtain ⟨rfl, rfl⟩ := trodVars_none hV
  have hlen := trodAll_len _ _ _ _ hA
  refine (walk H enc W base args ds p hval hA).mono fun e W' ⟨he, hb⟩ => ?_
  subst he
  refine ⟨_, rfl, ds, [], _, [], p, [], hW', ?_, ?_, ?_, hb.frame _, fun h => by cases h⟩
  rotate_left
  · rw [hspec ds hlen]
    exact trodAll_below Tryd.laidOutK hb _ _ _ _ hread hA
  · rw [hvars, hspec ds hlen]
    rfl
  · rw [hspec ds hlen, hrt, hrs]
    exact trodAll_mk1 (shut_bool Tryd.underlying4 _)
end Go.Proofs.YtjnaeoelnmhjfaaDoor

/- What can be read of arguments: integers, texts, structs of such. -/
set_option linter.unusedSimpArgs false
set_option linter.unusedVariables false
namespace Go.Proofs.YtjnaeoelnmhjfaaDoor
open Go.ChangeShapes Go.WideShapes Go.ChangeAt Go.RowKit

section
variable {P : Program} {w : World} {r : Reach} {b : Nat}
theorem okc_int {u : TypeId} {q : IntKind} {v : Value} (h : Cell.okWide P w r b u v) (hu : P.underlying u = some (.int q)) : ∃ n : Int, v = .int q n ∧ q.min ≤ n ∧ n ≤ q.max := by
  unfold Cell.okWide at h
  rw [hu] at h
  have h : Cell.ok P w r b u v := by cases v <;> exact h
  unfold Cell.ok at h
  rw [hu] at h
  cases v <;> first | exact False.elim h | skip
  obtain ⟨rfl, h1, h2⟩ := h
  exact ⟨_, rfl, h1, h2⟩
theorem okc_str {u : TypeId} {v : Value} (h : Cell.okWide P w r b u v) (hu : P.underlying u = some .string) : ∃ l : List UInt8, v = .string (bs l) ∧ l.length ≤ 9223372036854775807 := by
  unfold Cell.okWide at h
  rw [hu] at h
  have h : Cell.ok P w r b u v := by cases v <;> exact h
  unfold Cell.ok at h
  rw [hu] at h
  match v, h with
  | .string s, h =>
    have h : (s.size : Int) ≤ IntKind.i64.max := h
    rw [IntKind.max_i64] at h
    refine ⟨s.data.toList, rfl, ?_⟩
    have : s.data.toList.length = s.size := by simp
    omega
theorem okc_bool {u : TypeId} {v : Value} (h : Cell.okWide P w r b u v) (hu : P.underlying u = some .bool) : ∃ t : Bool, v = .bool t := by
  unfold Cell.okWide at h
  rw [hu] at h
  have h : Cell.ok P w r b u v := by cases v <;> exact h
  unfold Cell.ok at h
  rw [hu] at h
  cases v <;> first | exact False.elim h | skip
  exact ⟨_, rfl⟩
theorem okv_cell {t : TypeId} {d : TypeDesc} {v : Value} (h : Value.okWide P w r b t v) (hu : P.underlying t = some d) (hd : isAggD d = false) : Cell.okWide P w r b t v := by
  unfold Value.okWide at h
  rw [hu] at h
  cases d <;> first | exact h | exact Bool.noConfusion hd
theorem okv_agg {t : TypeId} {d : TypeDesc} {v : Value} {ts : List TypeId} {s : Nat} (h : Value.okWide P w r b t v) (hu : P.underlying t = some d) (hd : isAggD d = true) (hts : P.cellTypes P.depth t = some ts) (hs : P.cellsOf t = s) (hl : ts.length = s) :
    ∃ cs : List Value, v = .agg cs.toArray ∧ cs.length = s ∧ ∀ (i : Nat) (v : Value) (u : TypeId), cs[i]? = some v → ts[i]? = some u → Cell.okWide P w r b u v := by
  unfold Value.okWide at h
  rw [hu] at h
  have h : ∃ cs, v = .agg cs ∧ cs.size = P.cellsOf t ∧ Row.okWide P w r b t cs := by cases d <;> first | exact h | exact Bool.noConfusion hd
  obtain ⟨cs, rfl, hsz, ts', hts', _, hall⟩ := h
  rw [hts] at hts'
  cases hts'
  refine ⟨cs.toList, rfl, by simp; omega, fun i v u hv hu => ?_⟩
  obtain ⟨u', hu', hc⟩ := hall i v (by simpa using hv)
  have hi : i < ts.length := by
    rcases Nat.lt_or_ge i ts.length with h | h
    · exact h
    · rw [List.getElem?_eq_none h] at hu; cases hu
  rw [Nat.mod_eq_of_lt hi, hu] at hu'
  cases hu'
  exact hc
theorem bytes_of : ∀ rest : List Value, (∀ v ∈ rest, ∃ n : Int, v = .int .u8 n ∧ IntKind.u8.min ≤ n ∧ n ≤ IntKind.u8.max) → ∃ d, rest = bcells d
  | [], _ => ⟨[], rfl⟩
  | v :: rest, h => by
    obtain ⟨n, rfl, h1, h2⟩ := h v (by simp)
    obtain ⟨d, rfl⟩ := bytes_of rest (fun v hv => h v (by simp [hv]))
    have h1' : 0 ≤ n := h1
    have h2' : n ≤ 255 := h2
    refine ⟨UInt8.ofNat n.toNat :: d, ?_⟩
    simp only [bcells, List.map_cons]
    congr 2
    simp
    omega
end
set_option maxRecDepth 100000 in
/-- A law's walk by a contract over its arguments, for what can be read at their types. -/
theorem lawwalk_of {f : FuncId} {F : Func} (h : ∀ (W : World) (base : Nat) (args : Array Value), args.size = F.params.size → (∀ (j : Nat) t v, F.params[j]? = some t → args[j]? = some v → Value.okWide Tryd.prog W .any base t v) → ∃ A, Has W A [] ∧ Ct Tryd.prog f args.toList A [] (fun v post => v = .bool true ∧ post = [])) : LawWalk f F := by
  intro H enc W base args ds p hval hA
  have hlen : ∀ (ts : List TypeId) (vs : List Value) (ds : List (DataW H)) (ps : List MemPlace), DataW.TrodAll enc Tryd.prog W 0 (fun _ => true) true ts vs ds ps → vs.length = ts.length := by
    intro ts
    induction ts with
    | nil =>
      intro vs ds ps h
      cases vs with
      | nil => rfl
      | cons v vs => cases ds <;> exact h.elim
    | cons t ts ih =>
      intro vs ds ps h
      cases vs with
      | nil => cases ds <;> exact h.elim
      | cons v vs =>
        cases ds with
        | nil => exact h.elim
        | cons d ds =>
          obtain ⟨p, q, _, h2, _⟩ := h
          simp [ih vs ds q h2]
  have hl := hlen _ _ _ _ hA
  obtain ⟨A, hw, hc⟩ := h W base args hl hval
  have := below_of_ct hc W hw
  rwa [Array.toArray_toList] at this
end Go.Proofs.YtjnaeoelnmhjfaaDoor

/- What can be read of arguments, on: slices of whatever, and their elements. -/
set_option linter.unusedSimpArgs false
set_option linter.unusedVariables false
namespace Go.Proofs.YtjnaeoelnmhjfaaDoor
open Go.ChangeShapes Go.WideShapes Go.ChangeAt Go.RowKit Go.Deep

/-- It can be read, at a type. -/
def Reads (P : Program) (W : World) (t : TypeId) (cs : List Value) : Prop :=
  ∃ (H : Type) (enc : TypeId × Value → H) (n : Nat) (x : DataW H × List MemPlace), DataW.trod enc P W 0 (fun _ => true) true n t cs = some x

section
variable {P : Program} {W : World}
theorem reads_int {t : TypeId} {q : IntKind} {cs : List Value} (h : Reads P W t cs) (ht : P.underlying t = some (.int q)) : ∃ n : Int, cs = [.int q n] ∧ q.min ≤ n ∧ n ≤ q.max := by
  obtain ⟨H, enc, n, x, h⟩ := h
  obtain ⟨k, rfl, _, hw⟩ := DataW.trod_int ht h
  simp [Lit.wf] at hw
  exact ⟨k, rfl, hw.1, hw.2⟩
theorem reads_str {t : TypeId} {cs : List Value} (h : Reads P W t cs) (ht : P.underlying t = some .string) : ∃ l : List UInt8, cs = [.string (bs l)] ∧ l.length ≤ 9223372036854775807 := by
  obtain ⟨H, enc, n, x, h⟩ := h
  obtain ⟨s, rfl, _, hs⟩ := DataW.trod_string ht h
  refine ⟨s.data.toList, rfl, ?_⟩
  have : s.data.toList.length = s.size := by simp
  unfold maxLen at hs
  omega
theorem reads_bool {t : TypeId} {cs : List Value} (h : Reads P W t cs) (ht : P.underlying t = some .bool) : ∃ b : Bool, cs = [.bool b] := by
  obtain ⟨H, enc, n, x, h⟩ := h
  obtain ⟨b, rfl, _⟩ := DataW.trod_bool ht h
  exact ⟨b, rfl⟩
theorem reads_struct {t : TypeId} {fs : Array Field} {cs : List Value} (h : Reads P W t cs) (ht : P.underlying t = some (.struct fs)) : cs.length = P.cellsOf t ∧ ∀ (i : Nat) (f : Field), fs[i]? = some f → Reads P W f.type ((cs.drop f.offset).take (P.cellsOf f.type)) := by
  obtain ⟨H, enc, n, x, h⟩ := h
  obtain ⟨xs, k, _, _, hl, hx, hf⟩ := DataW.trod_struct ht h
  refine ⟨hl, fun i f hi => ?_⟩
  have hlt : i < xs.length := by rw [hx]; exact (Array.getElem?_eq_some_iff.1 hi).1
  exact ⟨H, enc, k, xs[i], by rw [hf i f hi, List.getElem?_eq_getElem hlt]⟩
/-- A field, by its place. -/
theorem reads_field {t : TypeId} {fs : Array Field} {cs vs : List Value} {s : Nat} (h : Reads P W t cs) (ht : P.underlying t = some (.struct fs)) (i : Nat) (f : Field) (hi : fs[i]? = some f) (hs : P.cellsOf f.type = s) (hv : (cs.drop f.offset).take s = vs) : Reads P W f.type vs := by
  have := (reads_struct h ht).2 i f hi
  rwa [hs, hv] at this

theorem reads_slice {t e : TypeId} {cs : List Value} {sz b : Nat} (h : Reads P W t cs) (ht : P.underlying t = some (.slice e)) (hsz : P.cellsOf e = sz) {v : Value} (hv : cs = [v]) (hok : Cell.okWide P W .any b t v) {α : Type} [Inhabited α] (f : α → List Value) (hf : ∀ a, (f a).length = sz) (good : α → Prop)
    (hel : ∀ es, es.length = sz → Reads P W e es → ∃ a, es = f a ∧ good a) :
    ∃ (ob : Option Nat) (off cap : Nat) (c : Array Value) (T : TypeId) (fr : Nat × Nat) (l : List α), v = sv ob off l.length cap ∧ Sees sz ob off cap c (l.flatMap f) l.length ∧ (∀ a ∈ l, good a) ∧ ∀ b, ob = some b → W.heap[b]? = some (.cells c T fr) := by
  obtain ⟨H, enc, n, x, h⟩ := h
  subst hv
  rcases open_slice ht h with ⟨h0, _⟩ | ⟨a, len, cap, m, n, D, Pl, hcs, _, hl, hm, hmm, _, hx⟩
  · simp at h0
    subst h0
    exact ⟨none, 0, 0, #[], 0, (0, 0), [], rfl, sees_nil, by simp, fun b hb => by cases hb⟩
  · simp at hcs
    subst hcs
    simp at hmm
    subst hmm
    unfold Cell.okWide at hok
    rw [ht] at hok
    have hok : Cell.ok P W .any b t (.slice (some a) len m) := hok
    unfold Cell.ok at hok
    rw [ht] at hok
    obtain ⟨_, _, _, hsp, row, cells, hsh, _⟩ := hok
    obtain ⟨bb, off, spot⟩ := a
    simp only at hsp hsh
    subst hsp
    obtain ⟨c, T, fr, hb⟩ : ∃ c T fr, W.heap[bb]? = some (.cells c T fr) := by
      unfold World.shape? at hsh
      split at hsh
      · rename_i c e fr hb; exact ⟨c, e, fr, hb⟩
      · cases hsh
    have hall : ∀ i, i < len → ∃ a : α, good a ∧ ∀ j, j < sz → c[off + i * sz + j]? = (f a)[j]? := fun i hi => by
      obtain ⟨es, h1, h2⟩ := hx i (by omega)
      rw [hsz] at h1
      obtain ⟨_, hlen, hc⟩ := World.cells?_some h1
      obtain ⟨a, rfl, hg⟩ := hel es hlen ⟨H, enc, n, _, h2⟩
      refine ⟨a, hg, fun j hj => ?_⟩
      have := hc j hj
      rw [addr_add, addr_add, cell_of_row W bb _ c T fr hb] at this
      exact this
    obtain ⟨F, hF⟩ := choose_lt hall
    have hll : ((List.range len).map F).length = len := by simp
    refine ⟨some bb, off, m, c, T, fr, (List.range len).map F, by rw [hll]; rfl, ⟨by rw [flat_len f hf, hll], by rw [hll]; exact hl, by unfold maxLen at hm; omega, ?_, fun h => by cases h⟩, fun a ha => ?_, fun b hb' => by cases hb'; exact hb⟩
    · rw [hll]
      apply List.ext_getElem?
      intro k
      have hfl : (((List.range len).map F).flatMap f).length = len * sz := by rw [flat_len f hf, hll]
      rcases Nat.lt_or_ge k (len * sz) with hk | hk
      · have hz : 0 < sz := by
          rcases Nat.eq_zero_or_pos sz with h0 | h0
          · subst h0; omega
          · exact h0
        have hi : k / sz < len := Nat.div_lt_of_lt_mul (by rw [Nat.mul_comm]; exact hk)
        have hj : k % sz < sz := Nat.mod_lt _ hz
        have hkk : k = k / sz * sz + k % sz := by have := Nat.div_add_mod k sz; rw [Nat.mul_comm] at this; omega
        have h1 := (hF (k / sz) hi).2 (k % sz) hj
        have h2 := flat_at f hf ((List.range len).map F) (k / sz) (F (k / sz)) (by simp [hi])
        have h3 : (((List.range len).map F).flatMap f)[k]? = (f (F (k / sz)))[k % sz]? := by
          rw [← h2, List.getElem?_take, if_pos hj, List.getElem?_drop, ← hkk]
        rw [h3, ← h1, List.getElem?_take, if_pos hk, List.getElem?_drop]
        have e : off + k / sz * sz + k % sz = off + k := by omega
        rw [e]
        simp
      · rw [List.getElem?_eq_none (by rw [List.length_take]; omega), List.getElem?_eq_none (by omega)]
    · simp only [List.mem_map, List.mem_range] at ha
      obtain ⟨i, hi, rfl⟩ := ha
      exact (hF i hi).1
end

/-- A block of a slice's, if any, is there. -/
theorem has_cons {W : World} {A : List (Option Nat × Obj)} {ob : Option Nat} {o : Obj} (h : Has W A []) (ho : ∀ b, ob = some b → W.heap[b]? = some o) : Has W ((ob, o) :: A) [] :=
  ⟨fun b x hm => by
    rcases List.mem_cons.1 hm with e | hm
    · injection e with e1 e2
      subst e2
      exact ho b e1.symm
    · exact h.liesA b x hm, .nil, fun _ _ h => (by cases h), fun _ _ _ h => (by cases h)⟩

set_option maxRecDepth 100000 in
/-- A law's walk by a contract over its arguments, for what can be read at their types. -/
theorem lawwalk_reads {f : FuncId} {F : Func} (h : ∀ (W : World) (base : Nat) (args : Array Value), args.size = F.params.size → (∀ (j : Nat) t v, F.params[j]? = some t → args[j]? = some v → Value.okWide Tryd.prog W .any base t v ∧ Reads Tryd.prog W t v.cells.toList) → ∃ A, Has W A [] ∧ Ct Tryd.prog f args.toList A [] (fun v post => v = .bool true ∧ post = [])) : LawWalk f F := by
  intro H enc W base args ds p hval hA
  have hlen : ∀ (ts : List TypeId) (vs : List Value) (ds : List (DataW H)) (ps : List MemPlace), DataW.TrodAll enc Tryd.prog W 0 (fun _ => true) true ts vs ds ps → vs.length = ts.length ∧ ∀ (j : Nat) t v, ts[j]? = some t → vs[j]? = some v → Reads Tryd.prog W t v.cells.toList := by
    intro ts
    induction ts with
    | nil =>
      intro vs ds ps h
      cases vs with
      | nil => exact ⟨rfl, fun j t v ht => by simp at ht⟩
      | cons v vs => cases ds <;> exact h.elim
    | cons t ts ih =>
      intro vs ds ps h
      cases vs with
      | nil => cases ds <;> exact h.elim
      | cons v vs =>
        cases ds with
        | nil => exact h.elim
        | cons d ds =>
          obtain ⟨p, q, h1, h2, _⟩ := h
          obtain ⟨i1, i2⟩ := ih vs ds q h2
          refine ⟨by simp [i1], fun j t' v' ht hv => ?_⟩
          cases j with
          | zero =>
            simp at ht hv
            subst ht hv
            obtain ⟨m, hm⟩ := h1
            exact ⟨H, enc, m, _, by simpa using hm⟩
          | succ j => exact i2 j t' v' (by simpa using ht) (by simpa using hv)
  have hl := hlen _ _ _ _ hA
  obtain ⟨A, hw, hc⟩ := h W base args (by simpa using hl.1) (fun j t v ht hv => ⟨hval j t v ht hv, hl.2 j t v (by simpa using ht) (by simpa using hv)⟩)
  have := below_of_ct hc W hw
  rwa [Array.toArray_toList] at this
end Go.Proofs.YtjnaeoelnmhjfaaDoor

/- What can be read of arguments, on: slices that lie in elements of other slices. -/
set_option linter.unusedSimpArgs false
set_option linter.unusedVariables false
namespace Go.Proofs.YtjnaeoelnmhjfaaDoor
open Go.Deep Go.ChangeShapes Go.WideShapes Go.ChangeAt Go.RowKit

theorem has_mapK {α : Type} (f : α → Option Nat × Obj) {W : World} : ∀ (l : List α), (∀ a ∈ l, ∀ b, (f a).1 = some b → W.heap[b]? = some (f a).2) → Has W (l.map f) []
  | [], _ => has_nil _
  | a :: r, h => has_cons (has_mapK f r (fun x hx => h x (by simp [hx]))) (h a (by simp))
theorem reads_slice2 {P : Program} {W : World} {t e : TypeId} {cs : List Value} {sz : Nat} (h : Reads P W t cs) (ht : P.underlying t = some (.slice e)) (hsz : P.cellsOf e = sz) (hz : 0 < sz) {α : Type} [Inhabited α] (f : α → List Value) (hf : ∀ a, (f a).length = sz) (good : α → Prop)
    (hel : ∀ es, es.length = sz → Reads P W e es → ∃ a, es = f a ∧ good a) :
    ∃ (p : Option Addr) (ob : Option Nat) (off cap : Nat) (c : Array Value) (T : TypeId) (fr : Nat × Nat) (l : List α), cs = [.slice p l.length cap] ∧ l.length ≤ cap ∧ cap ≤ 9223372036854775807 ∧ ((p = ob.map (fun b => ⟨b, off, none⟩) ∧ Sees sz ob off cap c (l.flatMap f) l.length) ∨ (l = [] ∧ cap = 0)) ∧ (∀ a ∈ l, good a) ∧ ∀ b, ob = some b → W.heap[b]? = some (.cells c T fr) := by
  obtain ⟨H, enc, n, x, h⟩ := h
  rcases Go.Deep.open_slice ht h with ⟨h0, _⟩ | ⟨a, len, cap, m, n, D, Pl, hcs, _, hl, hm, hmm, _, hx⟩
  · exact ⟨none, none, 0, 0, #[], 0, (0, 0), [], h0, Nat.le_refl _, by omega, .inr ⟨rfl, rfl⟩, by simp, fun b hb => by cases hb⟩
  · simp at hmm
    subst hmm
    have hm' : m ≤ 9223372036854775807 := by unfold maxLen at hm; omega
    rcases Nat.eq_zero_or_pos m with h0 | hpos
    · subst h0
      have hl0 : len = 0 := by omega
      subst hl0
      exact ⟨some a, none, 0, 0, #[], 0, (0, 0), [], hcs, Nat.le_refl _, by omega, .inr ⟨rfl, rfl⟩, by simp, fun b hb => by cases hb⟩
    · obtain ⟨bb, off, spot⟩ := a
      have hex : spot = none ∧ ∃ c T fr, W.heap[bb]? = some (.cells c T fr) := by
        obtain ⟨es, h1, _⟩ := hx 0 hpos
        rw [hsz] at h1
        obtain ⟨_, hlen, hc⟩ := World.cells?_some h1
        have h2 := hc 0 hz
        rw [List.getElem?_eq_getElem (by omega)] at h2
        cases spot with
        | none =>
          rw [addr_add, addr_add] at h2
          unfold World.cell? at h2
          split at h2
          · rename_i c T fr hb
            exact ⟨rfl, c, T, fr, hb⟩
          · cases h2
        | some s =>
          exfalso
          unfold World.cell? at h2
          split at h2
          · simp [Addr.add] at h2
          · cases h2
      obtain ⟨rfl, c, T, fr, hb⟩ := hex
      have hok : ∀ i, i < len → ∃ a : α, (∀ j, j < sz → c[off + i * sz + j]? = (f a)[j]?) ∧ good a := fun i hi => by
        obtain ⟨es, h1, h2⟩ := hx i (by omega)
        rw [hsz] at h1
        obtain ⟨_, hlen, hc⟩ := World.cells?_some h1
        obtain ⟨a, rfl, hg⟩ := hel es hlen ⟨H, enc, n, _, h2⟩
        refine ⟨a, fun j hj => ?_, hg⟩
        have := hc j hj
        rw [addr_add, addr_add, cell_of_row W bb _ c T fr hb] at this
        exact this
      obtain ⟨F, hF⟩ := choose_lt hok
      have hll : ((List.range len).map F).length = len := by simp
      refine ⟨some ⟨bb, off, none⟩, some bb, off, m, c, T, fr, (List.range len).map F, by rw [hll]; exact hcs, by rw [hll]; exact hl, hm', .inl ⟨rfl, by rw [flat_len f hf, hll], by rw [hll]; exact hl, hm', ?_, fun h => by cases h⟩, fun a ha => ?_, fun b hb' => by cases hb'; exact hb⟩
      rotate_left
      · obtain ⟨i, hi, rfl⟩ := List.mem_map.1 ha
        exact (hF i (List.mem_range.1 hi)).2
      rw [hll]
      apply List.ext_getElem?
      intro k
      have hfl : (((List.range len).map F).flatMap f).length = len * sz := by rw [flat_len f hf, hll]
      rcases Nat.lt_or_ge k (len * sz) with hk | hk
      · have hi : k / sz < len := Nat.div_lt_of_lt_mul (by rw [Nat.mul_comm]; exact hk)
        have hj : k % sz < sz := Nat.mod_lt _ hz
        have hkk : k = k / sz * sz + k % sz := by have := Nat.div_add_mod k sz; rw [Nat.mul_comm] at this; omega
        have h1 := (hF (k / sz) hi).1 (k % sz) hj
        have h2 := flat_at f hf ((List.range len).map F) (k / sz) (F (k / sz)) (by simp [hi])
        have h3 : (((List.range len).map F).flatMap f)[k]? = (f (F (k / sz)))[k % sz]? := by
          rw [← h2, List.getElem?_take, if_pos hj, List.getElem?_drop, ← hkk]
        rw [h3, ← h1, List.getElem?_take, if_pos hk, List.getElem?_drop]
        have e : off + k / sz * sz + k % sz = off + k := by omega
        rw [e]
        simp
      · rw [List.getElem?_eq_none (by rw [List.length_take]; omega), List.getElem?_eq_none (by omega)]
theorem okv_slice {P : Program} {W : World} {r : Reach} {b : Nat} {t e : TypeId} {v : Value} (h : Value.okWide P W r b t v) (ht : P.underlying t = some (.slice e)) : ∃ p i j, v = .slice p i j ∧ Cell.okWide P W r b t v := by
  have h1 := okv_cell h ht rfl
  have h2 := h1
  unfold Cell.okWide at h2
  rw [ht] at h2
  cases v <;> first | exact ⟨_, _, _, rfl, h1⟩ | (exfalso; first | exact h2 | (unfold Cell.ok at h2; rw [ht] at h2; exact h2) | (simp [Cell.ok, ht] at h2; done))
end Go.Proofs.YtjnaeoelnmhjfaaDoor

/- Laws whose row lists package-level variables, when what these hold is asked for. -/
set_option linter.unusedSimpArgs false
set_option linter.unusedVariables false
namespace Go.Proofs.YtjnaeoelnmhjfaaDoor
open Go.Deep Go.ChangeShapes Go.WideShapes Go.ChangeAt Go.RowKit
def LawWalkX (X : World → Prop) (f : FuncId) (F : Func) : Prop :=
  ∀ (H : Type) (enc : TypeId × Value → H) (W : World) (base : Nat) (args : Array Value) (ds : List (DataW H)) (p : List MemPlace), X W →
    (∀ (j : Nat) t v, F.params[j]? = some t → args[j]? = some v → Value.okWide Tryd.prog W .any base t v) →
    DataW.TrodAll enc Tryd.prog W 0 (fun _ => true) true F.params.toList args.toList ds p →
    Calls Tryd.prog f args W fun e W' => e = .returned (.bool true) ∧ Below W.heap.size W W'
set_option maxRecDepth 100000 in
theorem law_endX {f : FuncId} {F : Func} {s : ChangeSpec} {H : Type} {enc : TypeId × Value → H}
    (hvars : s.vars = []) (hrt : F.resultTypes.toList = [4]) (hrs : F.resultTypes.size = 1)
    (hread : ∀ t ∈ F.params.toList, Tryd.prog.readableRec t = true ∧ t < Tryd.prog.types.size)
    (hspec : ∀ ds : List (DataW H), ds.length = F.params.toList.length → s.fn H (ds ++ []) = { results := [.lit (.bool true)], args := ds })
    {X : World → Prop} (walk : LawWalkX X f F) (W : World) (base : Nat) (args : Array Value) (ds gs : List (DataW H)) (before : List MemPlace)
    (hval : ∀ (j : Nat) t v, F.params[j]? = some t → args[j]? = some v → Value.okWide Tryd.prog W .any base t v)
    (hW : DataW.Whole enc Tryd.prog F.params.toList s.vars false W args.toList ds gs before) (hX : X W) :
    Calls Tryd.prog f args W fun e W' => ∃ v, e = .returned v ∧ s.post enc Tryd.prog F false true false false W args v W' := by
  have hW' := hW
  obtain ⟨p, q, hA, hV, rfl, hfz, hnd⟩ := hW
  rw [hvars] at hV
  obtain ⟨rfl, rfl⟩ := trodVars_none hV
  have hlen := trodAll_len _ _ _ _ hA
  refine (walk H enc W base args ds p hX hval hA).mono fun e W' ⟨he, hb⟩ => ?_
  subst he
  refine ⟨_, rfl, ds, [], _, [], p, [], hW', ?_, ?_, ?_, hb.frame _, fun h => by cases h⟩
  rotate_left
  · rw [hspec ds hlen]
    exact trodAll_below Tryd.laidOutK hb _ _ _ _ hread hA
  · rw [hvars, hspec ds hlen]
    rfl
  · rw [hspec ds hlen, hrt, hrs]
    exact trodAll_mk1 (shut_bool Tryd.underlying4 _)
set_option maxRecDepth 100000 in
/-- A law's walk by a contract over its arguments, for what can be read at their types. -/
theorem lawwalk_readsX {X : World → Prop} {f : FuncId} {F : Func} (h : ∀ (W : World) (base : Nat) (args : Array Value), X W → args.size = F.params.size → (∀ (j : Nat) t v, F.params[j]? = some t → args[j]? = some v → Value.okWide Tryd.prog W .any base t v ∧ Reads Tryd.prog W t v.cells.toList) → ∃ A, Has W A [] ∧ Ct Tryd.prog f args.toList A [] (fun v post => v = .bool true ∧ post = [])) : LawWalkX X f F := by
  intro H enc W base args ds p hX hval hA
  have hlen : ∀ (ts : List TypeId) (vs : List Value) (ds : List (DataW H)) (ps : List MemPlace), DataW.TrodAll enc Tryd.prog W 0 (fun _ => true) true ts vs ds ps → vs.length = ts.length ∧ ∀ (j : Nat) t v, ts[j]? = some t → vs[j]? = some v → Reads Tryd.prog W t v.cells.toList := by
    intro ts
    induction ts with
    | nil =>
      intro vs ds ps h
      cases vs with
      | nil => exact ⟨rfl, fun j t v ht => by simp at ht⟩
      | cons v vs => cases ds <;> exact h.elim
    | cons t ts ih =>
      intro vs ds ps h
      cases vs with
      | nil => cases ds <;> exact h.elim
      | cons v vs =>
        cases ds with
        | nil => exact h.elim
        | cons d ds =>
          obtain ⟨p, q, h1, h2, _⟩ := h
          obtain ⟨i1, i2⟩ := ih vs ds q h2
          refine ⟨by simp [i1], fun j t' v' ht hv => ?_⟩
          cases j with
          | zero =>
            simp at ht hv
            subst ht hv
            obtain ⟨m, hm⟩ := h1
            exact ⟨H, enc, m, _, by simpa using hm⟩
          | succ j => exact i2 j t' v' (by simpa using ht) (by simpa using hv)
  have hl := hlen _ _ _ _ hA
  obtain ⟨A, hw, hc⟩ := h W base args hX (by simpa using hl.1) (fun j t v ht hv => ⟨hval j t v ht hv, hl.2 j t v (by simpa using ht) (by simpa using hv)⟩)
  have := below_of_ct hc W hw
  rwa [Array.toArray_toList] at this
/-- A table that is laid, at the head of what is listed. -/
theorem tabIs_vars {P : Program} {W : World} {name : String} {k : IntKind} {zs : List Int} {rest : List (String × DataW Unit)} {ps : List MemPlace} {g : Nat} {t e : TypeId} {n : Nat}
    (hg : P.globalNamed name = some g) (hty : (P.globals[g]?).map (·.type) = some t) (ht : P.underlying t = some (.array n e)) (he : P.underlying e = some (.int k)) (hce : P.cellsOf e = 1) (hct : P.cellsOf t = n)
    (h : DataW.LaidVars P W ((name, Lib.tabData k zs) :: rest) ps) : Lib.TabIs P W name k zs := by
  obtain ⟨g', t', cs, fuel, p, q, e1, e2, hvar, hd, _⟩ := h
  cases hg.symm.trans e1
  cases hty.symm.trans e2
  have hc := Lib.cells_of_tab ht he hce hct hd
  show W.var? P name = _
  rw [hvar, ← hc]
end Go.Proofs.YtjnaeoelnmhjfaaDoor

/- Laws that ask how long their arguments' texts may be: what the row says of their weights. -/
set_option linter.unusedSimpArgs false
set_option linter.unusedVariables false
namespace Go.Proofs.YtjnaeoelnmhjfaaDoor
open Go.Deep Go.ChangeShapes Go.WideShapes Go.ChangeAt Go.RowKit
theorem weights_left {H : Type} {P : Program} : ∀ {ts us : List TypeId} {ds gs : List (DataW H)} {k : Nat}, ds.length = ts.length → k ∈ DataW.weightsEach P ts ds → k ∈ DataW.weightsEach P (ts ++ us) (ds ++ gs)
  | [], us, [], gs, k, _, h => by unfold DataW.weightsEach at h; cases h
  | t :: ts, us, d :: ds, gs, k, hl, h => by
    unfold DataW.weightsEach at h
    show k ∈ DataW.weightsEach P (t :: (ts ++ us)) (d :: (ds ++ gs))
    unfold DataW.weightsEach
    rcases List.mem_append.1 h with h | h
    · exact List.mem_append_left _ h
    · exact List.mem_append_right _ (weights_left (by simpa using hl) h)
theorem weights_at {H : Type} {P : Program} : ∀ {ts : List TypeId} {ds : List (DataW H)} {i : Nat} {t : TypeId} {d : DataW H} {k : Nat}, ts[i]? = some t → ds[i]? = some d → k ∈ d.weights P t → k ∈ DataW.weightsEach P ts ds
  | u :: ts, e :: ds, 0, t, d, k, ht, hd, h => by
    simp at ht hd
    subst ht hd
    unfold DataW.weightsEach; exact List.mem_append_left _ h
  | u :: ts, e :: ds, i + 1, t, d, k, ht, hd, h => by
    unfold DataW.weightsEach; exact List.mem_append_right _ (weights_at (by simpa using ht) (by simpa using hd) h)
/-- It can be read, at a type, and none of its texts is longer than a machine's memory reaches. -/
def Light (P : Program) (W : World) (t : TypeId) (cs : List Value) : Prop :=
  ∃ (H : Type) (enc : TypeId × Value → H) (n : Nat) (x : DataW H × List MemPlace), DataW.trod enc P W 0 (fun _ => true) true n t cs = some x ∧ ∀ k ∈ x.1.weights P t, k ≤ reachBytes
theorem light_str {P : Program} {W : World} {t : TypeId} {l : List UInt8} (h : Light P W t [.string (bs l)]) (ht : P.underlying t = some .string) : l.length ≤ 140737488351232 := by
  obtain ⟨H, enc, n, x, h, hw⟩ := h
  obtain ⟨s, e, hx, hs⟩ := DataW.trod_string ht h
  simp only [List.cons.injEq, Value.string.injEq, and_true] at e
  subst e
  rw [hx] at hw
  have := hw (bs l).data.toList.length (by unfold DataW.weights; exact List.mem_singleton.2 rfl)
  simp only [bs] at this
  unfold reachBytes at this
  omega
theorem light_field {P : Program} {W : World} {t : TypeId} {fs : Array Field} {cs vs : List Value} {s : Nat} (h : Light P W t cs) (ht : P.underlying t = some (.struct fs)) (i : Nat) (f : Field) (hi : fs[i]? = some f) (hs : P.cellsOf f.type = s) (hv : (cs.drop f.offset).take s = vs) : Light P W f.type vs := by
  obtain ⟨H, enc, n, x, h, hw⟩ := h
  obtain ⟨xs, k, _, hx, hl, hlen, hf⟩ := DataW.trod_struct ht h
  have hlt : i < xs.length := by rw [hlen]; exact (Array.getElem?_eq_some_iff.1 hi).1
  have h1 := hf i f hi
  rw [List.getElem?_eq_getElem hlt, hs, hv] at h1
  refine ⟨H, enc, k, xs[i], h1, fun m hm => hw m ?_⟩
  rw [hx]
  show m ∈ DataW.weights P t (.agg (xs.map (·.1)))
  unfold DataW.weights
  rw [ht]
  exact weights_at (i := i) (by simp [hi]) (by simp [hlt]) hm
def LawWalkW (X : World → Prop) (f : FuncId) (F : Func) : Prop :=
  ∀ (H : Type) (enc : TypeId × Value → H) (W : World) (base : Nat) (args : Array Value) (ds : List (DataW H)) (p : List MemPlace), X W → (∀ k ∈ DataW.weightsEach Tryd.prog F.params.toList ds, k ≤ reachBytes) →
    (∀ (j : Nat) t v, F.params[j]? = some t → args[j]? = some v → Value.okWide Tryd.prog W .any base t v) →
    DataW.TrodAll enc Tryd.prog W 0 (fun _ => true) true F.params.toList args.toList ds p →
    Calls Tryd.prog f args W fun e W' => e = .returned (.bool true) ∧ Below W.heap.size W W'
set_option maxRecDepth 100000 in
theorem law_endW {f : FuncId} {F : Func} {s : ChangeSpec} {H : Type} {enc : TypeId × Value → H}
    (hvars : s.vars = []) (hrt : F.resultTypes.toList = [4]) (hrs : F.resultTypes.size = 1)
    (hread : ∀ t ∈ F.params.toList, Tryd.prog.readableRec t = true ∧ t < Tryd.prog.types.size)
    (hspec : ∀ ds : List (DataW H), ds.length = F.params.toList.length → s.fn H (ds ++ []) = { results := [.lit (.bool true)], args := ds })
    {X : World → Prop} (walk : LawWalkW X f F) (W : World) (base : Nat) (args : Array Value) (ds gs : List (DataW H)) (before : List MemPlace)
    (hval : ∀ (j : Nat) t v, F.params[j]? = some t → args[j]? = some v → Value.okWide Tryd.prog W .any base t v)
    (hW : DataW.Whole enc Tryd.prog F.params.toList s.vars false W args.toList ds gs before) (hX : X W) (hwt : ∀ k ∈ DataW.weightsEach Tryd.prog (F.params.toList ++ s.plain.varTypes Tryd.prog) (ds ++ gs), k ≤ reachBytes) :
    Calls Tryd.prog f args W fun e W' => ∃ v, e = .returned v ∧ s.post enc Tryd.prog F false true false false W args v W' := by
  have hW' := hW
  obtain ⟨p, q, hA, hV, rfl, hfz, hnd⟩ := hW
  rw [hvars] at hV
  obtain ⟨rfl, rfl⟩ := trodVars_none hV
  have hlen := trodAll_len _ _ _ _ hA
  refine (walk H enc W base args ds p hX (fun k hk => hwt k (weights_left hlen hk)) hval hA).mono fun e W' ⟨he, hb⟩ => ?_
  subst he
  refine ⟨_, rfl, ds, [], _, [], p, [], hW', ?_, ?_, ?_, hb.frame _, fun h => by cases h⟩
  rotate_left
  · rw [hspec ds hlen]
    exact trodAll_below Tryd.laidOutK hb _ _ _ _ hread hA
  · rw [hvars, hspec ds hlen]
    rfl
  · rw [hspec ds hlen, hrt, hrs]
    exact trodAll_mk1 (shut_bool Tryd.underlying4 _)
set_option maxRecDepth 100000 in
/-- A law's walk by a contract over its arguments, for what can be read at their types. -/
theorem lawwalk_readsW {X : World → Prop} {f : FuncId} {F : Func} (h : ∀ (W : World) (base : Nat) (args : Array Value), X W → args.size = F.params.size → (∀ (j : Nat) t v, F.params[j]? = some t → args[j]? = some v → Value.okWide Tryd.prog W .any base t v ∧ Reads Tryd.prog W t v.cells.toList ∧ Light Tryd.prog W t v.cells.toList) → ∃ A, Has W A [] ∧ Ct Tryd.prog f args.toList A [] (fun v post => v = .bool true ∧ post = [])) : LawWalkW X f F := by
  intro H enc W base args ds p hX hwt hval hA
  have hlen : ∀ (ts : List TypeId) (vs : List Value) (ds : List (DataW H)) (ps : List MemPlace), DataW.TrodAll enc Tryd.prog W 0 (fun _ => true) true ts vs ds ps → (∀ k ∈ DataW.weightsEach Tryd.prog ts ds, k ≤ reachBytes) → vs.length = ts.length ∧ ∀ (j : Nat) t v, ts[j]? = some t → vs[j]? = some v → Reads Tryd.prog W t v.cells.toList ∧ Light Tryd.prog W t v.cells.toList := by
    intro ts
    induction ts with
    | nil =>
      intro vs ds ps h hw
      cases vs with
      | nil => exact ⟨rfl, fun j t v ht => by simp at ht⟩
      | cons v vs => cases ds <;> exact h.elim
    | cons t ts ih =>
      intro vs ds ps h hw
      cases vs with
      | nil => cases ds <;> exact h.elim
      | cons v vs =>
        cases ds with
        | nil => exact h.elim
        | cons d ds =>
          obtain ⟨p, q, h1, h2, _⟩ := h
          obtain ⟨i1, i2⟩ := ih vs ds q h2 (fun k hk => hw k (by unfold DataW.weightsEach; exact List.mem_append_right _ hk))
          refine ⟨by simp [i1], fun j t' v' ht hv => ?_⟩
          cases j with
          | zero =>
            simp at ht hv
            subst ht hv
            obtain ⟨m, hm⟩ := h1
            exact ⟨⟨H, enc, m, _, by simpa using hm⟩, ⟨H, enc, m, _, by simpa using hm, fun k hk => hw k (by unfold DataW.weightsEach; exact List.mem_append_left _ hk)⟩⟩
          | succ j => exact i2 j t' v' (by simpa using ht) (by simpa using hv)
  have hl := hlen _ _ _ _ hA hwt
  obtain ⟨A, hw, hc⟩ := h W base args hX (by simpa using hl.1) (fun j t v ht hv => ⟨hval j t v ht hv, hl.2 j t v (by simpa using ht) (by simpa using hv)⟩)
  have := below_of_ct hc W hw
  rwa [Array.toArray_toList] at this
end Go.Proofs.YtjnaeoelnmhjfaaDoor

/- Requests as arguments: what can be read of them, and their literals. -/
set_option linter.unusedSimpArgs false
set_option linter.unusedVariables false
namespace Go.Proofs.YtjnaeoelnmhjfaaDoor
open Go Go.RowKit

section



set_option maxRecDepth 100000 in
theorem key_rq (q : Rq) (h : RqOk q) : Tryd.prog.keyLits 2 27 (rqCells q).toArray.toList = some (rqLits q) := by
  obtain ⟨hk, ht, hn⟩ := h
  refine fits_keys Tryd.underlying27 (by kernel_rfl) (by kernel_rfl) ?_
  refine ⟨rfl, (by kernel_rfl), key_int Tryd.underlying3 hk.1 hk.2, ?_⟩
  iterate 6 refine ⟨rfl, (by kernel_rfl), key_str Tryd.underlying9 (ht _), ?_⟩
  iterate 9 refine ⟨rfl, (by kernel_rfl), key_int Tryd.underlying3 (hn _).1 (hn _).2, ?_⟩
  exact ⟨rfl, (by kernel_rfl), key_bool Tryd.underlying4, trivial⟩
set_option maxRecDepth 100000 in
theorem rq_types : Tryd.prog.cellTypes Tryd.prog.depth 27 = some [3, 9, 9, 9, 9, 9, 9, 3, 3, 3, 3, 3, 3, 3, 3, 3, 4] := by kernel_rfl
set_option maxRecDepth 100000 in
theorem rq_of {W : World} {b : Nat} {v : Value} (h : Value.okWide Tryd.prog W .any b 27 v) : ∃ q : Rq, v = .agg (rqCells q).toArray ∧ RqOk q := by
  obtain ⟨cs, rfl, hl, hc⟩ := okv_agg (s := 17) h Tryd.underlying27 rfl rq_types (by kernel_rfl) rfl
  match cs, hl, hc with
  | [v0, v1, v2, v3, v4, v5, v6, v7, v8, v9, v10, v11, v12, v13, v14, v15, v16], _, hc =>
    obtain ⟨k, rfl, k1, k2⟩ := okc_int (hc 0 v0 3 rfl rfl) Tryd.underlying3
    obtain ⟨s1, rfl, p1⟩ := okc_str (hc 1 v1 9 rfl rfl) Tryd.underlying9
    obtain ⟨s2, rfl, p2⟩ := okc_str (hc 2 v2 9 rfl rfl) Tryd.underlying9
    obtain ⟨s3, rfl, p3⟩ := okc_str (hc 3 v3 9 rfl rfl) Tryd.underlying9
    obtain ⟨s4, rfl, p4⟩ := okc_str (hc 4 v4 9 rfl rfl) Tryd.underlying9
    obtain ⟨s5, rfl, p5⟩ := okc_str (hc 5 v5 9 rfl rfl) Tryd.underlying9
    obtain ⟨s6, rfl, p6⟩ := okc_str (hc 6 v6 9 rfl rfl) Tryd.underlying9
    obtain ⟨n7, rfl, a7, b7⟩ := okc_int (hc 7 v7 3 rfl rfl) Tryd.underlying3
    obtain ⟨n8, rfl, a8, b8⟩ := okc_int (hc 8 v8 3 rfl rfl) Tryd.underlying3
    obtain ⟨n9, rfl, a9, b9⟩ := okc_int (hc 9 v9 3 rfl rfl) Tryd.underlying3
    obtain ⟨n10, rfl, a10, b10⟩ := okc_int (hc 10 v10 3 rfl rfl) Tryd.underlying3
    obtain ⟨n11, rfl, a11, b11⟩ := okc_int (hc 11 v11 3 rfl rfl) Tryd.underlying3
    obtain ⟨n12, rfl, a12, b12⟩ := okc_int (hc 12 v12 3 rfl rfl) Tryd.underlying3
    obtain ⟨n13, rfl, a13, b13⟩ := okc_int (hc 13 v13 3 rfl rfl) Tryd.underlying3
    obtain ⟨n14, rfl, a14, b14⟩ := okc_int (hc 14 v14 3 rfl rfl) Tryd.underlying3
    obtain ⟨n15, rfl, a15, b15⟩ := okc_int (hc 15 v15 3 rfl rfl) Tryd.underlying3
    obtain ⟨fl, rfl⟩ := okc_bool (hc 16 v16 4 rfl rfl) Tryd.underlying4
    refine ⟨⟨k, fun i => if i = 1 then s1 else if i = 2 then s2 else if i = 3 then s3 else if i = 4 then s4 else if i = 5 then s5 else s6,
      fun i => if i = 7 then n7 else if i = 8 then n8 else if i = 9 then n9 else if i = 10 then n10 else if i = 11 then n11 else if i = 12 then n12 else if i = 13 then n13 else if i = 14 then n14 else n15, fl⟩, rfl, ⟨k1, k2⟩, fun i => ?_, fun i => ?_⟩
    · show (if i = 1 then s1 else if i = 2 then s2 else if i = 3 then s3 else if i = 4 then s4 else if i = 5 then s5 else s6).length ≤ _
      repeat' split
      all_goals assumption
    · show _ ≤ (if i = 7 then n7 else if i = 8 then n8 else if i = 9 then n9 else if i = 10 then n10 else if i = 11 then n11 else if i = 12 then n12 else if i = 13 then n13 else if i = 14 then n14 else n15) ∧ (if i = 7 then n7 else if i = 8 then n8 else if i = 9 then n9 else if i = 10 then n10 else if i = 11 then n11 else if i = 12 then n12 else if i = 13 then n13 else if i = 14 then n14 else n15) ≤ _
      repeat' split
      all_goals exact ⟨by assumption, by assumption⟩

end
end Go.Proofs.YtjnaeoelnmhjfaaDoor

/- The laws of layer 45: what they have in common. -/
set_option linter.unusedSimpArgs false
set_option linter.unusedVariables false
namespace Go.Proofs.YtjnaeoelnmhjfaaDoor
open Go.ChangeShapes Go.WideShapes Go.ChangeAt Go.RowKit

section
theorem infTellL_27 : Tryd.prog.info? 27 = some Tryd.t27 := by kernel_rfl
theorem infTellL_52 : Tryd.prog.info? 52 = some Tryd.t52 := by kernel_rfl
theorem plcTellL_27 : placesOf Tryd.prog (Tryd.prog.fieldsOf 27) = some [(0, 1), (1, 1), (2, 1), (3, 1), (4, 1), (5, 1), (6, 1), (7, 1), (8, 1), (9, 1), (10, 1), (11, 1), (12, 1), (13, 1), (14, 1), (15, 1), (16, 1)] := by kernel_rfl
theorem plcTellL_52 : placesOf Tryd.prog (Tryd.prog.fieldsOf 52) = some [(0, 1), (1, 1), (2, 1), (3, 1), (4, 1), (5, 1), (6, 1), (7, 1), (8, 1), (9, 1), (10, 1), (11, 1)] := by kernel_rfl


def LaidN (W : World) : Prop := laidMetH Tryd.prog Rows.tellWordsRow.laid W
set_option maxRecDepth 100000 in
theorem laid_tab {W : World} (h : LaidN W) : ∃ T fr, W.heap[0]? = some (.cells powC T fr) := by
  have h2 : laidMet Tryd.prog Rows.tellWordsRow.laid W := by
    have e := MakeChecks.laidMetH_plain Tryd.prog Rows.tellWordsRow.laid W (by kernel_rfl)
    rw [← e]; exact h
  obtain ⟨ps, hv, _⟩ := h2
  obtain ⟨g1, t1, c1, f1, p1, q1, _, _, _, _, hv, _⟩ := hv
  obtain ⟨g2, t2, c2, f2, p2, q2, _, _, _, _, hv, _⟩ := hv
  have ht := tabIs_vars (k := .u64) (zs := Lib.pow10Tab) (g := 0) (t := 142) (e := 32) (n := 20) laysN.m17 (by kernel_rfl) Tryd.underlying142 Tryd.underlying32 (by kernel_rfl) (by kernel_rfl) hv
  unfold Lib.TabIs World.var? at ht
  rw [show Tryd.prog.globalNamed "internal/strconv.uint64pow10" = some 0 from laysN.m17, Option.bind_some] at ht
  split at ht
  · rename_i cs T fr hb
    exact ⟨T, fr, by rw [hb]; cases ht; rfl⟩
  · cases ht
def liveQ : Rq := ⟨12, fun i => if i = 3 then [119] else [], fun _ => 0, true⟩
theorem liveQ_ok : RqT liveQ := by
  refine ⟨fun i => ?_, fun i => ?_⟩
  · unfold liveQ; simp only; split <;> simp
  · unfold liveQ; simp only; omega
theorem liveQ_text : reqT liveQ = [112, 97, 117, 115, 101, 32, 110, 61, 34, 119, 34, 32, 98, 61, 111, 110] := by decide +kernel
theorem itoa3 : Lib.itoa 3 = [51] := by unfold Lib.itoa; rw [if_neg (by decide)]; exact Lib.decDigits_one (by decide)
theorem live_r1 : replyT (partsR [] [] 0 3 4 0 0 0 0 0 0) = [111, 112, 61, 51, 32, 115, 116, 97, 116, 101, 61, 99, 111, 109, 112, 108, 101, 116, 101, 100] := by
  have e : partsR [] [] 0 3 4 0 0 0 0 0 0 = [part [111, 112] (Lib.itoa 3), part [115, 116, 97, 116, 101] (wordT 4)] := rfl
  rw [e, itoa3]; rfl
theorem live_r0 : replyT (partsR [] [] 0 0 0 0 0 0 0 0 0) = [111, 107] := rfl

set_option maxRecDepth 100000 in
set_option maxHeartbeats 1000000 in
theorem tell_live (T0 : TypeId) (r0 : Nat × Nat) :
    Ct Tryd.prog 6 [] [(some 0, .cells powC T0 r0)] [] fun v post => v = .bool true ∧ post = [] := by
 refine ct_of Tryd.func6 rfl rfl (fun w0 => ?_)
 show G _ _ [] _ _
 refine G_seq ?_
 refine G_region (l := [0]) rfl ?_
 refine G_val rfl rfl rfl rfl (V_assign rfl rfl) ?_
 refine G_done ?_
 refine G_seq ?_
 refine G_region (l := [0, 1, 2, 3, 4, 5, 6, 7, 8, 9, 10, 11, 12, 13]) rfl ?_
 refine G_val rfl rfl rfl rfl (V_buildS (cs := [_, _, _, _, _, _, _, _, _, _, _, _, _, _, _, _, _]) rfl Tryd.underlying27 infTellL_27 rfl plcTellL_27 rfl rfl rfl) ?_
 refine G_call (L2 := []) rfl rfl rfl rfl rfl rfl Tryd.call11 ((tl_request liveQ liveQ_ok T0 r0).weaken (fun v post h => by rw [liveQ_text] at h; exact h)) [] [0] rfl rfl ?_
 rintro v post ⟨rfl, rfl⟩
 refine G_val rfl rfl rfl rfl (V_seql rfl rfl rfl) ?_
 refine G_val rfl rfl rfl rfl (V_move rfl rfl) ?_
 refine G_splitD 4 rfl (fun hc1 => ?_) (fun hc1 => ?_)
 rotate_left
 · (first | contradiction | (exact absurd rfl hc1) | (exfalso; omega) | (simp at hc1; done) | (exact absurd hc1 (by decide)) | (exact absurd (by decide) hc1))
 refine G_val rfl rfl rfl rfl (V_buildS (cs := [_, _, _, _, _, _, _, _, _, _, _, _]) rfl Tryd.underlying52 infTellL_52 rfl plcTellL_52 rfl rfl rfl) ?_
 refine G_call (L2 := []) rfl rfl rfl rfl rfl rfl Tryd.call19 ((tl_reply [] [] 0 3 4 0 0 0 0 0 0 (by simp) (by simp) (by decide) (by decide) (by decide) (by decide) (by decide) (by decide) (by decide) (by decide) (by decide) (by decide) (by decide) (by decide) (by decide) (by decide) (by decide) (by decide) (by decide) (by decide) T0 r0).weaken (fun v post h => by rw [live_r1] at h; exact h)) [] [0] rfl rfl ?_
 rintro v post ⟨rfl, rfl⟩
 refine G_val rfl rfl rfl rfl (V_seql rfl rfl rfl) ?_
 refine G_val rfl rfl rfl rfl (V_pickT rfl rfl rfl) ?_
 refine G_val rfl rfl rfl rfl (V_move rfl rfl) ?_
 refine G_splitD 9 rfl (fun hc2 => ?_) (fun hc2 => ?_)
 rotate_left
 · (first | contradiction | (exact absurd rfl hc2) | (exfalso; omega) | (simp at hc2; done) | (exact absurd hc2 (by decide)) | (exact absurd (by decide) hc2))
 refine G_val rfl rfl rfl rfl (V_buildS (cs := [_, _, _, _, _, _, _, _, _, _, _, _]) rfl Tryd.underlying52 infTellL_52 rfl plcTellL_52 rfl rfl rfl) ?_
 refine G_call (L2 := []) rfl rfl rfl rfl rfl rfl Tryd.call19 ((tl_reply [] [] 0 0 0 0 0 0 0 0 0 (by simp) (by simp) (by decide) (by decide) (by decide) (by decide) (by decide) (by decide) (by decide) (by decide) (by decide) (by decide) (by decide) (by decide) (by decide) (by decide) (by decide) (by decide) (by decide) (by decide) T0 r0).weaken (fun v post h => by rw [live_r0] at h; exact h)) [] [0] rfl rfl ?_
 rintro v post ⟨rfl, rfl⟩
 refine G_val rfl rfl rfl rfl (V_seql rfl rfl rfl) ?_
 refine G_val rfl rfl rfl rfl (V_pickT rfl rfl rfl) ?_
 refine G_val rfl rfl rfl rfl (V_assign rfl rfl) ?_
 refine G_done ?_
 refine G_ret (post := []) Tryd.func6 rfl (RVs_cons (RV_tmp rfl) RVs_nil) [] rfl ?_
 dsimp only [packed]
 exact ⟨rfl, rfl⟩

end
end Go.Proofs.YtjnaeoelnmhjfaaDoor

/- Laws that are proved of arguments of a bulk that is bounded. -/
set_option linter.unusedSimpArgs false
set_option linter.unusedVariables false
namespace Go.Proofs.YtjnaeoelnmhjfaaDoor
open Go.Deep Go.ChangeShapes Go.WideShapes Go.ChangeAt Go.RowKit
theorem bulk_mem {H : Type} {d : DataW H} {l : List (DataW H)} (h : d ∈ l) : Rows.uptoBulk d ≤ Rows.uptoBulkAll l := by
  induction l with
  | nil => cases h
  | cons x r ih =>
    simp only [Rows.uptoBulkAll]
    rcases List.mem_cons.1 h with e | e
    · subst e; omega
    · have := ih e; omega
theorem bulk_one {H : Type} (d : DataW H) : 1 ≤ Rows.uptoBulk d := by
  cases d with
  | lit l => cases l <;> simp [Rows.uptoBulk]
  | nil => simp [Rows.uptoBulk]
  | ptr d => simp [Rows.uptoBulk]
  | slice elems spare => simp [Rows.uptoBulk]
  | agg parts => simp [Rows.uptoBulk]
  | iface t d => simp [Rows.uptoBulk]
  | map entries => simp [Rows.uptoBulk]
  | held h => simp [Rows.uptoBulk]
theorem bulk_len {H : Type} (l : List (DataW H)) : l.length ≤ Rows.uptoBulkAll l := by
  induction l with
  | nil => simp [Rows.uptoBulkAll]
  | cons x r ih => have := bulk_one x; simp only [Rows.uptoBulkAll, List.length_cons]; omega
/-- It can be read, at a type, and its bulk is bounded. -/
def ReadsB (P : Program) (W : World) (t : TypeId) (cs : List Value) (B : Nat) : Prop :=
  ∃ (H : Type) (enc : TypeId × Value → H) (n : Nat) (x : DataW H × List MemPlace), DataW.trod enc P W 0 (fun _ => true) true n t cs = some x ∧ Rows.uptoBulk x.1 ≤ B
section
variable {P : Program} {W : World} {B : Nat}
theorem reads_any {t e : TypeId} {cs : List Value} (h : Reads P W t cs) (ht : P.underlying t = some (.slice e)) : ∃ p n q, cs = [.slice p n q] ∧ n ≤ q ∧ q ≤ 9223372036854775807 := by
  obtain ⟨H, enc, n, x, h⟩ := h
  rcases Go.Deep.open_slice ht h with ⟨h0, _⟩ | ⟨a, len, cap, m, n, D, Pl, hcs, _, hl, hm, hmm, hxx, hx⟩
  · exact ⟨none, 0, 0, h0, Nat.le_refl _, by omega⟩
  · exact ⟨some a, len, cap, hcs, hl, by unfold maxLen at hm; omega⟩
theorem has_all : ∀ (L : List (Option Nat × Obj)), (∀ x ∈ L, ∀ b, x.1 = some b → W.heap[b]? = some x.2) → Has W L []
  | [], _ => has_nil _
  | x :: r, h => has_cons (has_all r (fun y hy => h y (List.mem_cons_of_mem _ hy))) (h x List.mem_cons_self)
theorem ReadsB.reads {t : TypeId} {cs : List Value} (h : ReadsB P W t cs B) : Reads P W t cs := by
  obtain ⟨H, enc, n, x, h, _⟩ := h
  exact ⟨H, enc, n, x, h⟩
theorem rb_str {t : TypeId} {cs : List Value} (h : ReadsB P W t cs B) (ht : P.underlying t = some .string) : ∃ l : List UInt8, cs = [.string (bs l)] ∧ l.length ≤ 9223372036854775807 ∧ l.length ≤ B := by
  obtain ⟨l, rfl, hl⟩ := reads_str h.reads ht
  obtain ⟨H, enc, n, x, h, hw⟩ := h
  obtain ⟨s, e, hx, hs⟩ := DataW.trod_string ht h
  simp only [List.cons.injEq, Value.string.injEq, and_true] at e
  subst e
  rw [hx] at hw
  refine ⟨l, rfl, hl, ?_⟩
  simp only [Rows.uptoBulk, bs] at hw
  omega
theorem rb_field {t : TypeId} {fs : Array Field} {cs vs : List Value} {s : Nat} (h : ReadsB P W t cs B) (ht : P.underlying t = some (.struct fs)) (i : Nat) (f : Field) (hi : fs[i]? = some f) (hs : P.cellsOf f.type = s) (hv : (cs.drop f.offset).take s = vs) : ReadsB P W f.type vs B := by
  obtain ⟨H, enc, n, x, h, hw⟩ := h
  obtain ⟨xs, k, _, hx, hl, hlen, hf⟩ := DataW.trod_struct ht h
  have hlt : i < xs.length := by rw [hlen]; exact (Array.getElem?_eq_some_iff.1 hi).1
  have h1 := hf i f hi
  rw [List.getElem?_eq_getElem hlt, hs, hv] at h1
  refine ⟨H, enc, k, xs[i], h1, ?_⟩
  rw [hx] at hw
  simp only [Rows.uptoBulk] at hw
  have := bulk_mem (d := xs[i].1) (l := xs.map (·.1)) (List.mem_map.2 ⟨xs[i], List.getElem_mem hlt, rfl⟩)
  omega
theorem rb_slice2 {t e : TypeId} {cs : List Value} {sz : Nat} (h : ReadsB P W t cs B) (ht : P.underlying t = some (.slice e)) (hsz : P.cellsOf e = sz) (hz : 0 < sz) {α : Type} [Inhabited α] (f : α → List Value) (hf : ∀ a, (f a).length = sz) (good : α → Prop)
    (hel : ∀ es, es.length = sz → ReadsB P W e es B → ∃ a, es = f a ∧ good a) :
    ∃ (p : Option Addr) (ob : Option Nat) (off cap : Nat) (c : Array Value) (T : TypeId) (fr : Nat × Nat) (l : List α), cs = [.slice p l.length cap] ∧ l.length ≤ cap ∧ cap ≤ 9223372036854775807 ∧ l.length ≤ B ∧ ((p = ob.map (fun b => ⟨b, off, none⟩) ∧ Sees sz ob off cap c (l.flatMap f) l.length) ∨ (l = [] ∧ cap = 0)) ∧ (∀ a ∈ l, good a) ∧ ∀ b, ob = some b → W.heap[b]? = some (.cells c T fr) := by
  obtain ⟨H, enc, n, x, h, hbu⟩ := h
  rcases Go.Deep.open_slice ht h with ⟨h0, _⟩ | ⟨a, len, cap, m, n, D, Pl, hcs, _, hl, hm, hmm, hxx, hx⟩
  · exact ⟨none, none, 0, 0, #[], 0, (0, 0), [], h0, Nat.le_refl _, by omega, by simp, .inr ⟨rfl, rfl⟩, by simp, fun b hb => by cases hb⟩
  · simp at hmm
    subst hmm
    have hDB : ∀ i, i < len → Rows.uptoBulk (D i) ≤ B := fun i hi => by
      rw [hxx] at hbu
      simp only [Rows.uptoBulk] at hbu
      have := bulk_mem (d := D i) (l := (List.range len).map D) (List.mem_map.2 ⟨i, List.mem_range.2 hi, rfl⟩)
      omega
    have hlB : len ≤ B := by
      rw [hxx] at hbu
      simp only [Rows.uptoBulk] at hbu
      have := bulk_len ((List.range len).map D)
      simp only [List.length_map, List.length_range] at this
      omega
    have hm' : m ≤ 9223372036854775807 := by unfold maxLen at hm; omega
    rcases Nat.eq_zero_or_pos m with h0 | hpos
    · subst h0
      have hl0 : len = 0 := by omega
      subst hl0
      exact ⟨some a, none, 0, 0, #[], 0, (0, 0), [], hcs, Nat.le_refl _, by omega, by simp, .inr ⟨rfl, rfl⟩, by simp, fun b hb => by cases hb⟩
    · obtain ⟨bb, off, spot⟩ := a
      have hex : spot = none ∧ ∃ c T fr, W.heap[bb]? = some (.cells c T fr) := by
        obtain ⟨es, h1, _⟩ := hx 0 hpos
        rw [hsz] at h1
        obtain ⟨_, hlen, hc⟩ := World.cells?_some h1
        have h2 := hc 0 hz
        rw [List.getElem?_eq_getElem (by omega)] at h2
        cases spot with
        | none =>
          rw [addr_add, addr_add] at h2
          unfold World.cell? at h2
          split at h2
          · rename_i c T fr hb
            exact ⟨rfl, c, T, fr, hb⟩
          · cases h2
        | some s =>
          exfalso
          unfold World.cell? at h2
          split at h2
          · simp [Addr.add] at h2
          · cases h2
      obtain ⟨rfl, c, T, fr, hb⟩ := hex
      have hok : ∀ i, i < len → ∃ a : α, (∀ j, j < sz → c[off + i * sz + j]? = (f a)[j]?) ∧ good a := fun i hi => by
        obtain ⟨es, h1, h2⟩ := hx i (by omega)
        rw [hsz] at h1
        obtain ⟨_, hlen, hc⟩ := World.cells?_some h1
        obtain ⟨a, rfl, hg⟩ := hel es hlen ⟨H, enc, n, _, h2, hDB i hi⟩
        refine ⟨a, fun j hj => ?_, hg⟩
        have := hc j hj
        rw [addr_add, addr_add, cell_of_row W bb _ c T fr hb] at this
        exact this
      obtain ⟨F, hF⟩ := choose_lt hok
      have hll : ((List.range len).map F).length = len := by simp
      refine ⟨some ⟨bb, off, none⟩, some bb, off, m, c, T, fr, (List.range len).map F, by rw [hll]; exact hcs, by rw [hll]; exact hl, hm', by rw [hll]; exact hlB, .inl ⟨rfl, by rw [flat_len f hf, hll], by rw [hll]; exact hl, hm', ?_, fun h => by cases h⟩, fun a ha => ?_, fun b hb' => by cases hb'; exact hb⟩
      rotate_left
      · obtain ⟨i, hi, rfl⟩ := List.mem_map.1 ha
        exact (hF i (List.mem_range.1 hi)).2
      rw [hll]
      apply List.ext_getElem?
      intro k
      have hfl : (((List.range len).map F).flatMap f).length = len * sz := by rw [flat_len f hf, hll]
      rcases Nat.lt_or_ge k (len * sz) with hk | hk
      · have hi : k / sz < len := Nat.div_lt_of_lt_mul (by rw [Nat.mul_comm]; exact hk)
        have hj : k % sz < sz := Nat.mod_lt _ hz
        have hkk : k = k / sz * sz + k % sz := by have := Nat.div_add_mod k sz; rw [Nat.mul_comm] at this; omega
        have h1 := (hF (k / sz) hi).1 (k % sz) hj
        have h2 := flat_at f hf ((List.range len).map F) (k / sz) (F (k / sz)) (by simp [hi])
        have h3 : (((List.range len).map F).flatMap f)[k]? = (f (F (k / sz)))[k % sz]? := by
          rw [← h2, List.getElem?_take, if_pos hj, List.getElem?_drop, ← hkk]
        rw [h3, ← h1, List.getElem?_take, if_pos hk, List.getElem?_drop]
        have e : off + k / sz * sz + k % sz = off + k := by omega
        rw [e]
        simp
      · rw [List.getElem?_eq_none (by rw [List.length_take]; omega), List.getElem?_eq_none (by omega)]
theorem rb_slice {t e : TypeId} {v : Value} {sz b : Nat} (h : ReadsB P W t [v] B) (ht : P.underlying t = some (.slice e)) (hsz : P.cellsOf e = sz) (hz : 0 < sz) (hok : Cell.okWide P W .any b t v) {α : Type} [Inhabited α] (f : α → List Value) (hf : ∀ a, (f a).length = sz) (good : α → Prop)
    (hel : ∀ es, es.length = sz → ReadsB P W e es B → ∃ a, es = f a ∧ good a) :
    ∃ (ob : Option Nat) (off cap : Nat) (c : Array Value) (T : TypeId) (fr : Nat × Nat) (l : List α), v = sv ob off l.length cap ∧ l.length ≤ B ∧ Sees sz ob off cap c (l.flatMap f) l.length ∧ (∀ a ∈ l, good a) ∧ ∀ b, ob = some b → W.heap[b]? = some (.cells c T fr) := by
  obtain ⟨p, ob, off, cap, c, T, fr, l, e1, hle, hmax, hlB, hs, hg, hb⟩ := rb_slice2 h ht hsz hz f hf good hel
  simp only [List.cons.injEq, and_true] at e1
  subst e1
  rcases hs with ⟨rfl, hs⟩ | ⟨rfl, rfl⟩
  · exact ⟨ob, off, cap, c, T, fr, l, rfl, hlB, hs, hg, hb⟩
  · rcases p with _ | a
    · exact ⟨none, 0, 0, #[], 0, (0, 0), [], rfl, by simp, sees_nil, by simp, fun b hb => by cases hb⟩
    · unfold Cell.okWide at hok
      rw [ht] at hok
      have hok : Cell.ok P W .any b t (.slice (some a) 0 0) := hok
      unfold Cell.ok at hok
      rw [ht] at hok
      obtain ⟨_, _, _, hsp, row, cells, hsh, _⟩ := hok
      obtain ⟨bb, off, spot⟩ := a
      simp only at hsp hsh
      subst hsp
      obtain ⟨c, T, fr, hb⟩ : ∃ c T fr, W.heap[bb]? = some (.cells c T fr) := by
        unfold World.shape? at hsh
        split at hsh
        · rename_i c e fr hb; exact ⟨c, e, fr, hb⟩
        · cases hsh
      exact ⟨some bb, off, 0, c, T, fr, [], rfl, by simp, ⟨by simp, by simp, by simp, by simp, fun h => by cases h⟩, by simp, fun b hb' => by cases hb'; exact hb⟩
end
def LawWalkU (X : World → Prop) (B : Nat) (f : FuncId) (F : Func) : Prop :=
  ∀ (H : Type) (enc : TypeId × Value → H) (W : World) (base : Nat) (args : Array Value) (ds : List (DataW H)) (p : List MemPlace), X W → Rows.uptoBulkAll ds ≤ B →
    (∀ (j : Nat) t v, F.params[j]? = some t → args[j]? = some v → Value.okWide Tryd.prog W .any base t v) →
    DataW.TrodAll enc Tryd.prog W 0 (fun _ => true) true F.params.toList args.toList ds p →
    Calls Tryd.prog f args W fun e W' => e = .returned (.bool true) ∧ Below W.heap.size W W'
set_option maxRecDepth 100000 in
theorem law_endU {f : FuncId} {F : Func} {s : ChangeSpec} {H : Type} {enc : TypeId × Value → H} {B : Nat}
    (hvars : s.vars = []) (hrt : F.resultTypes.toList = [4]) (hrs : F.resultTypes.size = 1)
    (hread : ∀ t ∈ F.params.toList, Tryd.prog.readableRec t = true ∧ t < Tryd.prog.types.size)
    (hspec : ∀ ds : List (DataW H), ds.length = F.params.toList.length → s.fn H (ds ++ []) = { results := [.lit (.bool true)], args := ds })
    {X : World → Prop} (walk : LawWalkU X B f F) (W : World) (base : Nat) (args : Array Value) (ds gs : List (DataW H)) (before : List MemPlace)
    (hval : ∀ (j : Nat) t v, F.params[j]? = some t → args[j]? = some v → Value.okWide Tryd.prog W .any base t v)
    (hW : DataW.Whole enc Tryd.prog F.params.toList s.vars false W args.toList ds gs before) (hX : X W) (hbu : Rows.uptoBulkAll (ds ++ gs) ≤ B) :
    Calls Tryd.prog f args W fun e W' => ∃ v, e = .returned v ∧ s.post enc Tryd.prog F false true false false W args v W' := by
  have hW' := hW
  obtain ⟨p, q, hA, hV, rfl, hfz, hnd⟩ := hW
  rw [hvars] at hV
  obtain ⟨rfl, rfl⟩ := trodVars_none hV
  have hlen := trodAll_len _ _ _ _ hA
  rw [List.append_nil] at hbu
  refine (walk H enc W base args ds p hX hbu hval hA).mono fun e W' ⟨he, hb⟩ => ?_
  subst he
  refine ⟨_, rfl, ds, [], _, [], p, [], hW', ?_, ?_, ?_, hb.frame _, fun h => by cases h⟩
  rotate_left
  · rw [hspec ds hlen]
    exact trodAll_below Tryd.laidOutK hb _ _ _ _ hread hA
  · rw [hvars, hspec ds hlen]
    rfl
  · rw [hspec ds hlen, hrt, hrs]
    exact trodAll_mk1 (shut_bool Tryd.underlying4 _)
set_option maxRecDepth 100000 in
/-- A law's walk by a contract over its arguments, for what can be read at their types, of a bulk that is bounded. -/
theorem lawwalk_readsU {X : World → Prop} {B : Nat} {f : FuncId} {F : Func} (h : ∀ (W : World) (base : Nat) (args : Array Value), X W → args.size = F.params.size → (∀ (j : Nat) t v, F.params[j]? = some t → args[j]? = some v → Value.okWide Tryd.prog W .any base t v ∧ ReadsB Tryd.prog W t v.cells.toList B) → ∃ A, Has W A [] ∧ Ct Tryd.prog f args.toList A [] (fun v post => v = .bool true ∧ post = [])) : LawWalkU X B f F := by
  intro H enc W base args ds p hX hwt hval hA
  have hlen : ∀ (ts : List TypeId) (vs : List Value) (ds : List (DataW H)) (ps : List MemPlace), DataW.TrodAll enc Tryd.prog W 0 (fun _ => true) true ts vs ds ps → Rows.uptoBulkAll ds ≤ B → vs.length = ts.length ∧ ∀ (j : Nat) t v, ts[j]? = some t → vs[j]? = some v → ReadsB Tryd.prog W t v.cells.toList B := by
    intro ts
    induction ts with
    | nil =>
      intro vs ds ps h hw
      cases vs with
      | nil => exact ⟨rfl, fun j t v ht => by simp at ht⟩
      | cons v vs => cases ds <;> exact h.elim
    | cons t ts ih =>
      intro vs ds ps h hw
      cases vs with
      | nil => cases ds <;> exact h.elim
      | cons v vs =>
        cases ds with
        | nil => exact h.elim
        | cons d ds =>
          obtain ⟨p, q, h1, h2, _⟩ := h
          simp only [Rows.uptoBulkAll] at hw
          obtain ⟨i1, i2⟩ := ih vs ds q h2 (by omega)
          refine ⟨by simp [i1], fun j t' v' ht hv => ?_⟩
          cases j with
          | zero =>
            simp at ht hv
            subst ht hv
            obtain ⟨m, hm⟩ := h1
            exact ⟨H, enc, m, _, by simpa using hm, by show Rows.uptoBulk d ≤ B; omega⟩
          | succ j => exact i2 j t' v' (by simpa using ht) (by simpa using hv)
  have hl := hlen _ _ _ _ hA hwt
  obtain ⟨A, hw, hc⟩ := h W base args hX (by simpa using hl.1) (fun j t v ht hv => ⟨hval j t v ht hv, hl.2 j t v (by simpa using ht) (by simpa using hv)⟩)
  have := below_of_ct hc W hw
  rwa [Array.toArray_toList] at this
end Go.Proofs.YtjnaeoelnmhjfaaDoor

set_option linter.unusedSimpArgs false
set_option linter.unusedVariables false
namespace Go.Proofs.YtjnaeoelnmhjfaaDoor
open Go Go.ChangeShapes Go.WideShapes Go.ChangeAt Go.RowKit

section
theorem infLawTellStates_41 : Tryd.prog.info? 41 = some Tryd.t41 := by kernel_rfl

theorem len_1 {es : List Value} (h : es.length = 1) : ∃ v0, es = [v0] := by
  match es, h with
  | [v0], _ => exact ⟨v0, rfl⟩
theorem len_2 {es : List Value} (h : es.length = 2) : ∃ v0 v1, es = [v0, v1] := by
  match es, h with
  | [v0, v1], _ => exact ⟨v0, v1, rfl⟩
theorem len_3 {es : List Value} (h : es.length = 3) : ∃ v0 v1 v2, es = [v0, v1, v2] := by
  match es, h with
  | [v0, v1, v2], _ => exact ⟨v0, v1, v2, rfl⟩
theorem len_4 {es : List Value} (h : es.length = 4) : ∃ v0 v1 v2 v3, es = [v0, v1, v2, v3] := by
  match es, h with
  | [v0, v1, v2, v3], _ => exact ⟨v0, v1, v2, v3, rfl⟩
theorem len_6 {es : List Value} (h : es.length = 6) : ∃ v0 v1 v2 v3 v4 v5, es = [v0, v1, v2, v3, v4, v5] := by
  match es, h with
  | [v0, v1, v2, v3, v4, v5], _ => exact ⟨v0, v1, v2, v3, v4, v5, rfl⟩

instance {α : Type} : Inhabited (Ins α) := ⟨⟨none, none, 0, 0, #[], 0, (0, 0), []⟩⟩
instance : Inhabited Fr := ⟨⟨(0, 0, 0), default⟩⟩
instance : Inhabited Tr := ⟨⟨(0, 0, 0), 0, default, false⟩⟩
instance : Inhabited Sr := ⟨⟨0, default, false⟩⟩
instance : Inhabited Pr := ⟨⟨[], 0, default, default⟩⟩
set_option maxRecDepth 100000 in
theorem i2_of {W : World} {es : List Value} (hl : es.length = 2) (h : ReadsB Tryd.prog W 169 es 1048576) : ∃ a : Int × Int, es = i2C a ∧ in63 a.1 ∧ in63 a.2 := by
  obtain ⟨v0, v1, rfl⟩ : ∃ v0 v1, es = [v0, v1] := len_2 hl
  obtain ⟨n0, e0, x0, y0⟩ := reads_int (rb_field (s := 1) (vs := [v0]) h Tryd.underlying169 0 _ rfl (by kernel_rfl) rfl).reads Tryd.underlying3
  obtain ⟨n1, e1, x1, y1⟩ := reads_int (rb_field (s := 1) (vs := [v1]) h Tryd.underlying169 1 _ rfl (by kernel_rfl) rfl).reads Tryd.underlying3
  simp only [List.cons.injEq, and_true] at e0 e1
  subst e0 e1
  exact ⟨(n0, n1), rfl, ⟨⟨x0, y0⟩, ⟨x1, y1⟩⟩⟩
set_option maxRecDepth 100000 in
theorem fr_of {W : World} {es : List Value} (hl : es.length = 4) (h : ReadsB Tryd.prog W 117 es 1048576) : ∃ a : Fr, es = frC a ∧ FrOk a ∧ ∀ b, (frK a).1 = some b → W.heap[b]? = some (frK a).2 := by
  obtain ⟨v0, v1, v2, v3, rfl⟩ : ∃ v0 v1 v2 v3, es = [v0, v1, v2, v3] := len_4 hl
  obtain ⟨n0, e0, x0, y0⟩ := reads_int (rb_field (s := 1) (vs := [v0]) h Tryd.underlying117 0 _ rfl (by kernel_rfl) rfl).reads Tryd.underlying3
  obtain ⟨n1, e1, x1, y1⟩ := reads_int (rb_field (s := 1) (vs := [v1]) h Tryd.underlying117 1 _ rfl (by kernel_rfl) rfl).reads Tryd.underlying3
  obtain ⟨n2, e2, x2, y2⟩ := reads_int (rb_field (s := 1) (vs := [v2]) h Tryd.underlying117 2 _ rfl (by kernel_rfl) rfl).reads Tryd.underlying3
  obtain ⟨p3, ob3, off3, cap3, c3, T3, fr3, l3, e3, hle3, hmax3, hlB3, hs3, hg3, hb3⟩ := rb_slice2 (sz := 2) (rb_field (s := 1) (vs := [v3]) h Tryd.underlying117 3 _ rfl (by kernel_rfl) rfl) Tryd.underlying115 (by kernel_rfl) (by omega) i2C i2_len (fun x => in63 x.1 ∧ in63 x.2) (fun es hl h => i2_of hl h)
  simp only [List.cons.injEq, and_true] at e0 e1 e2 e3
  subst e0 e1 e2 e3
  exact ⟨⟨(n0, n1, n2), ⟨p3, ob3, off3, cap3, c3, T3, fr3, l3⟩⟩, rfl, ⟨⟨x0, y0⟩, ⟨x1, y1⟩, ⟨x2, y2⟩, ⟨hle3, hmax3, hlB3, hs3⟩, hg3⟩, hb3⟩
set_option maxRecDepth 100000 in
theorem tr_of {W : World} {es : List Value} (hl : es.length = 6) (h : ReadsB Tryd.prog W 114 es 1048576) : ∃ a : Tr, es = trC a ∧ TrOk a ∧ ∀ z ∈ trK a, ∀ b, z.1 = some b → W.heap[b]? = some z.2 := by
  obtain ⟨v0, v1, v2, v3, v4, v5, rfl⟩ : ∃ v0 v1 v2 v3 v4 v5, es = [v0, v1, v2, v3, v4, v5] := len_6 hl
  obtain ⟨n0, e0, x0, y0⟩ := reads_int (rb_field (s := 1) (vs := [v0]) h Tryd.underlying114 0 _ rfl (by kernel_rfl) rfl).reads Tryd.underlying3
  obtain ⟨n1, e1, x1, y1⟩ := reads_int (rb_field (s := 1) (vs := [v1]) h Tryd.underlying114 1 _ rfl (by kernel_rfl) rfl).reads Tryd.underlying3
  obtain ⟨n2, e2, x2, y2⟩ := reads_int (rb_field (s := 1) (vs := [v2]) h Tryd.underlying114 2 _ rfl (by kernel_rfl) rfl).reads Tryd.underlying3
  have hR3 := (rb_field (s := 3) (vs := [v3, v4, v5]) h Tryd.underlying114 3 _ rfl (by kernel_rfl) rfl)
  obtain ⟨n3, e3, x3, y3⟩ := reads_int (rb_field (s := 1) (vs := [v3]) hR3 Tryd.underlying112 0 _ rfl (by kernel_rfl) rfl).reads Tryd.underlying3
  obtain ⟨p4, ob4, off4, cap4, c4, T4, fr4, l4, e4, hle4, hmax4, hlB4, hs4, hg4, hb4⟩ := rb_slice2 (sz := 4) (rb_field (s := 1) (vs := [v4]) hR3 Tryd.underlying112 1 _ rfl (by kernel_rfl) rfl) Tryd.underlying110 (by kernel_rfl) (by omega) frC fr_len (fun x => FrOk x ∧ ∀ b, (frK x).1 = some b → W.heap[b]? = some (frK x).2) (fun es hl h => fr_of hl h)
  obtain ⟨n5, e5⟩ := reads_bool (rb_field (s := 1) (vs := [v5]) hR3 Tryd.underlying112 2 _ rfl (by kernel_rfl) rfl).reads Tryd.underlying4
  simp only [List.cons.injEq, and_true] at e0 e1 e2 e3 e4 e5
  subst e0 e1 e2 e3 e4 e5
  exact ⟨⟨(n0, n1, n2), n3, ⟨p4, ob4, off4, cap4, c4, T4, fr4, l4⟩, n5⟩, rfl, ⟨⟨x0, y0⟩, ⟨x1, y1⟩, ⟨x2, y2⟩, ⟨x3, y3⟩, ⟨hle4, hmax4, hlB4, hs4⟩, fun y hy => (hg4 y hy).1⟩, fun z hz => by
    rcases List.mem_cons.1 hz with rfl | hz
    · exact hb4
    · obtain ⟨y, hy, rfl⟩ := List.mem_map.1 hz
      exact (hg4 y hy).2⟩
set_option maxRecDepth 100000 in
theorem sr_of {W : World} {es : List Value} (hl : es.length = 3) (h : ReadsB Tryd.prog W 78 es 1048576) : ∃ a : Sr, es = srC a ∧ SrOk a ∧ ∀ z ∈ srK a, ∀ b, z.1 = some b → W.heap[b]? = some z.2 := by
  obtain ⟨v0, v1, v2, rfl⟩ : ∃ v0 v1 v2, es = [v0, v1, v2] := len_3 hl
  obtain ⟨n0, e0, x0, y0⟩ := reads_int (rb_field (s := 1) (vs := [v0]) h Tryd.underlying78 0 _ rfl (by kernel_rfl) rfl).reads Tryd.underlying3
  obtain ⟨p1, ob1, off1, cap1, c1, T1, fr1, l1, e1, hle1, hmax1, hlB1, hs1, hg1, hb1⟩ := rb_slice2 (sz := 6) (rb_field (s := 1) (vs := [v1]) h Tryd.underlying78 1 _ rfl (by kernel_rfl) rfl) Tryd.underlying76 (by kernel_rfl) (by omega) trC tr_len (fun x => TrOk x ∧ ∀ z ∈ trK x, ∀ b, z.1 = some b → W.heap[b]? = some z.2) (fun es hl h => tr_of hl h)
  obtain ⟨n2, e2⟩ := reads_bool (rb_field (s := 1) (vs := [v2]) h Tryd.underlying78 2 _ rfl (by kernel_rfl) rfl).reads Tryd.underlying4
  simp only [List.cons.injEq, and_true] at e0 e1 e2
  subst e0 e1 e2
  exact ⟨⟨n0, ⟨p1, ob1, off1, cap1, c1, T1, fr1, l1⟩, n2⟩, rfl, ⟨⟨x0, y0⟩, ⟨hle1, hmax1, hlB1, hs1⟩, fun y hy => (hg1 y hy).1⟩, fun z hz => by
    rcases List.mem_cons.1 hz with rfl | hz
    · exact hb1
    · obtain ⟨y, hy, hz⟩ := List.mem_flatMap.1 hz
      exact (hg1 y hy).2 z hz⟩
theorem i1_of {W : World} {es : List Value} (hl : es.length = 1) (h : ReadsB Tryd.prog W 3 es 1048576) : ∃ a : Int, es = i1C a ∧ in63 a := by
  obtain ⟨v0, rfl⟩ : ∃ v0, es = [v0] := len_1 hl

  obtain ⟨n0, e0, x0, y0⟩ := reads_int h.reads Tryd.underlying3
  simp only [List.cons.injEq, and_true] at e0
  subst e0
  exact ⟨n0, rfl, x0, y0⟩
set_option maxRecDepth 100000 in
theorem pr_of {W : World} {es : List Value} (hl : es.length = 4) (h : ReadsB Tryd.prog W 74 es 1048576) : ∃ a : Pr, es = prC a ∧ PrOk a ∧ ∀ z ∈ prK a, ∀ b, z.1 = some b → W.heap[b]? = some z.2 := by
  obtain ⟨v0, v1, v2, v3, rfl⟩ : ∃ v0 v1 v2 v3, es = [v0, v1, v2, v3] := len_4 hl
  obtain ⟨n0, e0, x0, y0⟩ := rb_str (rb_field (s := 1) (vs := [v0]) h Tryd.underlying74 0 _ rfl (by kernel_rfl) rfl) Tryd.underlying9
  obtain ⟨n1, e1, x1, y1⟩ := reads_int (rb_field (s := 1) (vs := [v1]) h Tryd.underlying74 1 _ rfl (by kernel_rfl) rfl).reads Tryd.underlying3
  obtain ⟨p2, ob2, off2, cap2, c2, T2, fr2, l2, e2, hle2, hmax2, hlB2, hs2, hg2, hb2⟩ := rb_slice2 (sz := 1) (rb_field (s := 1) (vs := [v2]) h Tryd.underlying74 2 _ rfl (by kernel_rfl) rfl) Tryd.underlying68 (by kernel_rfl) (by omega) i1C i1_len (fun x => in63 x) (fun es hl h => i1_of hl h)
  obtain ⟨p3, ob3, off3, cap3, c3, T3, fr3, l3, e3, hle3, hmax3, hlB3, hs3, hg3, hb3⟩ := rb_slice2 (sz := 3) (rb_field (s := 1) (vs := [v3]) h Tryd.underlying74 3 _ rfl (by kernel_rfl) rfl) Tryd.underlying72 (by kernel_rfl) (by omega) srC sr_len (fun x => SrOk x ∧ ∀ z ∈ srK x, ∀ b, z.1 = some b → W.heap[b]? = some z.2) (fun es hl h => sr_of hl h)
  simp only [List.cons.injEq, and_true] at e0 e1 e2 e3
  subst e0 e1 e2 e3
  exact ⟨⟨n0, n1, ⟨p2, ob2, off2, cap2, c2, T2, fr2, l2⟩, ⟨p3, ob3, off3, cap3, c3, T3, fr3, l3⟩⟩, rfl, ⟨y0, ⟨x1, y1⟩, ⟨hle2, hmax2, hlB2, hs2⟩, hg2, ⟨hle3, hmax3, hlB3, hs3⟩, fun y hy => (hg3 y hy).1⟩, fun z hz => by
    rcases List.mem_cons.1 hz with rfl | hz
    · exact hb2
    rcases List.mem_cons.1 hz with rfl | hz
    · exact hb3
    · obtain ⟨y, hy, hz⟩ := List.mem_flatMap.1 hz
      exact (hg3 y hy).2 z hz⟩
theorem len_5 {es : List Value} (h : es.length = 5) : ∃ v0 v1 v2 v3 v4, es = [v0, v1, v2, v3, v4] := by
  match es, h with
  | [v0, v1, v2, v3, v4], _ => exact ⟨v0, v1, v2, v3, v4, rfl⟩
theorem len_7 {es : List Value} (h : es.length = 7) : ∃ v0 v1 v2 v3 v4 v5 v6, es = [v0, v1, v2, v3, v4, v5, v6] := by
  match es, h with
  | [v0, v1, v2, v3, v4, v5, v6], _ => exact ⟨v0, v1, v2, v3, v4, v5, v6, rfl⟩
theorem len_18 {es : List Value} (h : es.length = 18) : ∃ v0 v1 v2 v3 v4 v5 v6 v7 v8 v9 v10 v11 v12 v13 v14 v15 v16 v17, es = [v0, v1, v2, v3, v4, v5, v6, v7, v8, v9, v10, v11, v12, v13, v14, v15, v16, v17] := by
  match es, h with
  | [v0, v1, v2, v3, v4, v5, v6, v7, v8, v9, v10, v11, v12, v13, v14, v15, v16, v17], _ => exact ⟨v0, v1, v2, v3, v4, v5, v6, v7, v8, v9, v10, v11, v12, v13, v14, v15, v16, v17, rfl⟩

instance : Inhabited Opr := ⟨⟨(0, 0, 0), [], [], [], (0, 0, 0, 0), (0, 0, 0, 0, 0), (0, 0, 0)⟩⟩
instance : Inhabited Wkr := ⟨⟨(0, 0, 0), [], [], false, 0⟩⟩
instance : Inhabited Ivr := ⟨⟨(0, 0), [], (0, 0)⟩⟩
instance : Inhabited Ltr := ⟨⟨(0, 0, 0, 0), [], 0⟩⟩
instance : Inhabited Wtr := ⟨⟨[], 0⟩⟩
set_option maxRecDepth 100000 in
theorem op_of {W : World} {es : List Value} (hl : es.length = 18) (h : ReadsB Tryd.prog W 90 es 1048576) : ∃ a : Opr, es = opC a ∧ OprOk a := by
  obtain ⟨v0, v1, v2, v3, v4, v5, v6, v7, v8, v9, v10, v11, v12, v13, v14, v15, v16, v17, rfl⟩ : ∃ v0 v1 v2 v3 v4 v5 v6 v7 v8 v9 v10 v11 v12 v13 v14 v15 v16 v17, es = [v0, v1, v2, v3, v4, v5, v6, v7, v8, v9, v10, v11, v12, v13, v14, v15, v16, v17] := len_18 hl
  obtain ⟨n0, e0, x0, y0⟩ := reads_int (rb_field (s := 1) (vs := [v0]) h Tryd.underlying90 0 _ rfl (by kernel_rfl) rfl).reads Tryd.underlying3
  obtain ⟨n1, e1, x1, y1⟩ := reads_int (rb_field (s := 1) (vs := [v1]) h Tryd.underlying90 1 _ rfl (by kernel_rfl) rfl).reads Tryd.underlying3
  obtain ⟨n2, e2, x2, y2⟩ := reads_int (rb_field (s := 1) (vs := [v2]) h Tryd.underlying90 2 _ rfl (by kernel_rfl) rfl).reads Tryd.underlying3
  have hR3 := (rb_field (s := 3) (vs := [v3, v4, v5]) h Tryd.underlying90 3 _ rfl (by kernel_rfl) rfl)
  obtain ⟨n3, e3, x3, y3⟩ := rb_str (rb_field (s := 1) (vs := [v3]) hR3 Tryd.underlying88 0 _ rfl (by kernel_rfl) rfl) Tryd.underlying9
  obtain ⟨n4, e4, x4, y4⟩ := rb_str (rb_field (s := 1) (vs := [v4]) hR3 Tryd.underlying88 1 _ rfl (by kernel_rfl) rfl) Tryd.underlying9
  obtain ⟨n5, e5, x5, y5⟩ := rb_str (rb_field (s := 1) (vs := [v5]) hR3 Tryd.underlying88 2 _ rfl (by kernel_rfl) rfl) Tryd.underlying9
  obtain ⟨n6, e6, x6, y6⟩ := reads_int (rb_field (s := 1) (vs := [v6]) h Tryd.underlying90 4 _ rfl (by kernel_rfl) rfl).reads Tryd.underlying3
  obtain ⟨n7, e7, x7, y7⟩ := reads_int (rb_field (s := 1) (vs := [v7]) h Tryd.underlying90 5 _ rfl (by kernel_rfl) rfl).reads Tryd.underlying3
  obtain ⟨n8, e8, x8, y8⟩ := reads_int (rb_field (s := 1) (vs := [v8]) h Tryd.underlying90 6 _ rfl (by kernel_rfl) rfl).reads Tryd.underlying3
  obtain ⟨n9, e9, x9, y9⟩ := reads_int (rb_field (s := 1) (vs := [v9]) h Tryd.underlying90 7 _ rfl (by kernel_rfl) rfl).reads Tryd.underlying3
  obtain ⟨n10, e10, x10, y10⟩ := reads_int (rb_field (s := 1) (vs := [v10]) h Tryd.underlying90 8 _ rfl (by kernel_rfl) rfl).reads Tryd.underlying3
  obtain ⟨n11, e11, x11, y11⟩ := reads_int (rb_field (s := 1) (vs := [v11]) h Tryd.underlying90 9 _ rfl (by kernel_rfl) rfl).reads Tryd.underlying3
  obtain ⟨n12, e12, x12, y12⟩ := reads_int (rb_field (s := 1) (vs := [v12]) h Tryd.underlying90 10 _ rfl (by kernel_rfl) rfl).reads Tryd.underlying3
  obtain ⟨n13, e13, x13, y13⟩ := reads_int (rb_field (s := 1) (vs := [v13]) h Tryd.underlying90 11 _ rfl (by kernel_rfl) rfl).reads Tryd.underlying3
  obtain ⟨n14, e14, x14, y14⟩ := reads_int (rb_field (s := 1) (vs := [v14]) h Tryd.underlying90 12 _ rfl (by kernel_rfl) rfl).reads Tryd.underlying3
  obtain ⟨n15, e15, x15, y15⟩ := reads_int (rb_field (s := 1) (vs := [v15]) h Tryd.underlying90 13 _ rfl (by kernel_rfl) rfl).reads Tryd.underlying32
  obtain ⟨n16, e16, x16, y16⟩ := reads_int (rb_field (s := 1) (vs := [v16]) h Tryd.underlying90 14 _ rfl (by kernel_rfl) rfl).reads Tryd.underlying32
  obtain ⟨n17, e17, x17, y17⟩ := reads_int (rb_field (s := 1) (vs := [v17]) h Tryd.underlying90 15 _ rfl (by kernel_rfl) rfl).reads Tryd.underlying32
  simp only [List.cons.injEq, and_true] at e0 e1 e2 e3 e4 e5 e6 e7 e8 e9 e10 e11 e12 e13 e14 e15 e16 e17
  subst e0 e1 e2 e3 e4 e5 e6 e7 e8 e9 e10 e11 e12 e13 e14 e15 e16 e17
  exact ⟨⟨(n0, n1, n2), n3, n4, n5, (n6, n7, n8, n9), (n10, n11, n12, n13, n14), (n15, n16, n17)⟩, rfl, ⟨x0, y0, x7, y7, x8, y8, x9, y9, y3⟩⟩
set_option maxRecDepth 100000 in
theorem wk_of {W : World} {es : List Value} (hl : es.length = 7) (h : ReadsB Tryd.prog W 80 es 1048576) : ∃ a : Wkr, es = wkC a ∧ WkrOk a := by
  obtain ⟨v0, v1, v2, v3, v4, v5, v6, rfl⟩ : ∃ v0 v1 v2 v3 v4 v5 v6, es = [v0, v1, v2, v3, v4, v5, v6] := len_7 hl
  obtain ⟨n0, e0, x0, y0⟩ := reads_int (rb_field (s := 1) (vs := [v0]) h Tryd.underlying80 0 _ rfl (by kernel_rfl) rfl).reads Tryd.underlying3
  obtain ⟨n1, e1, x1, y1⟩ := reads_int (rb_field (s := 1) (vs := [v1]) h Tryd.underlying80 1 _ rfl (by kernel_rfl) rfl).reads Tryd.underlying3
  obtain ⟨n2, e2, x2, y2⟩ := reads_int (rb_field (s := 1) (vs := [v2]) h Tryd.underlying80 2 _ rfl (by kernel_rfl) rfl).reads Tryd.underlying3
  obtain ⟨n3, e3, x3, y3⟩ := rb_str (rb_field (s := 1) (vs := [v3]) h Tryd.underlying80 3 _ rfl (by kernel_rfl) rfl) Tryd.underlying9
  obtain ⟨n4, e4, x4, y4⟩ := rb_str (rb_field (s := 1) (vs := [v4]) h Tryd.underlying80 4 _ rfl (by kernel_rfl) rfl) Tryd.underlying9
  obtain ⟨n5, e5⟩ := reads_bool (rb_field (s := 1) (vs := [v5]) h Tryd.underlying80 5 _ rfl (by kernel_rfl) rfl).reads Tryd.underlying4
  obtain ⟨n6, e6, x6, y6⟩ := reads_int (rb_field (s := 1) (vs := [v6]) h Tryd.underlying80 6 _ rfl (by kernel_rfl) rfl).reads Tryd.underlying32
  simp only [List.cons.injEq, and_true] at e0 e1 e2 e3 e4 e5 e6
  subst e0 e1 e2 e3 e4 e5 e6
  exact ⟨⟨(n0, n1, n2), n3, n4, n5, n6⟩, rfl, ⟨⟨x1, y1⟩, ⟨x2, y2⟩, y3⟩⟩
set_option maxRecDepth 100000 in
theorem iv_of {W : World} {es : List Value} (hl : es.length = 5) (h : ReadsB Tryd.prog W 82 es 1048576) : ∃ a : Ivr, es = ivC a ∧ IvrOk a := by
  obtain ⟨v0, v1, v2, v3, v4, rfl⟩ : ∃ v0 v1 v2 v3 v4, es = [v0, v1, v2, v3, v4] := len_5 hl
  obtain ⟨n0, e0, x0, y0⟩ := reads_int (rb_field (s := 1) (vs := [v0]) h Tryd.underlying82 0 _ rfl (by kernel_rfl) rfl).reads Tryd.underlying3
  obtain ⟨n1, e1, x1, y1⟩ := reads_int (rb_field (s := 1) (vs := [v1]) h Tryd.underlying82 1 _ rfl (by kernel_rfl) rfl).reads Tryd.underlying3
  obtain ⟨n2, e2, x2, y2⟩ := rb_str (rb_field (s := 1) (vs := [v2]) h Tryd.underlying82 2 _ rfl (by kernel_rfl) rfl) Tryd.underlying9
  obtain ⟨n3, e3, x3, y3⟩ := reads_int (rb_field (s := 1) (vs := [v3]) h Tryd.underlying82 3 _ rfl (by kernel_rfl) rfl).reads Tryd.underlying3
  obtain ⟨n4, e4, x4, y4⟩ := reads_int (rb_field (s := 1) (vs := [v4]) h Tryd.underlying82 4 _ rfl (by kernel_rfl) rfl).reads Tryd.underlying3
  simp only [List.cons.injEq, and_true] at e0 e1 e2 e3 e4
  subst e0 e1 e2 e3 e4
  exact ⟨⟨(n0, n1), n2, (n3, n4)⟩, rfl, ⟨⟨x1, y1⟩, ⟨x4, y4⟩, y2⟩⟩
set_option maxRecDepth 100000 in
theorem lt_of {W : World} {es : List Value} (hl : es.length = 6) (h : ReadsB Tryd.prog W 93 es 1048576) : ∃ a : Ltr, es = ltC a ∧ LtrOk a := by
  obtain ⟨v0, v1, v2, v3, v4, v5, rfl⟩ : ∃ v0 v1 v2 v3 v4 v5, es = [v0, v1, v2, v3, v4, v5] := len_6 hl
  obtain ⟨n0, e0, x0, y0⟩ := reads_int (rb_field (s := 1) (vs := [v0]) h Tryd.underlying93 0 _ rfl (by kernel_rfl) rfl).reads Tryd.underlying3
  obtain ⟨n1, e1, x1, y1⟩ := reads_int (rb_field (s := 1) (vs := [v1]) h Tryd.underlying93 1 _ rfl (by kernel_rfl) rfl).reads Tryd.underlying3
  obtain ⟨n2, e2, x2, y2⟩ := reads_int (rb_field (s := 1) (vs := [v2]) h Tryd.underlying93 2 _ rfl (by kernel_rfl) rfl).reads Tryd.underlying3
  obtain ⟨n3, e3, x3, y3⟩ := reads_int (rb_field (s := 1) (vs := [v3]) h Tryd.underlying93 3 _ rfl (by kernel_rfl) rfl).reads Tryd.underlying3
  obtain ⟨n4, e4, x4, y4⟩ := rb_str (rb_field (s := 1) (vs := [v4]) h Tryd.underlying93 4 _ rfl (by kernel_rfl) rfl) Tryd.underlying9
  obtain ⟨n5, e5, x5, y5⟩ := reads_int (rb_field (s := 1) (vs := [v5]) h Tryd.underlying93 5 _ rfl (by kernel_rfl) rfl).reads Tryd.underlying32
  simp only [List.cons.injEq, and_true] at e0 e1 e2 e3 e4 e5
  subst e0 e1 e2 e3 e4 e5
  exact ⟨⟨(n0, n1, n2, n3), n4, n5⟩, rfl, ⟨⟨x0, y0⟩, ⟨x3, y3⟩⟩⟩
set_option maxRecDepth 100000 in
theorem wt_of {W : World} {es : List Value} (hl : es.length = 2) (h : ReadsB Tryd.prog W 95 es 1048576) : ∃ a : Wtr, es = wtC a ∧ WtrOk a := by
  obtain ⟨v0, v1, rfl⟩ : ∃ v0 v1, es = [v0, v1] := len_2 hl
  obtain ⟨n0, e0, x0, y0⟩ := rb_str (rb_field (s := 1) (vs := [v0]) h Tryd.underlying95 0 _ rfl (by kernel_rfl) rfl) Tryd.underlying9
  obtain ⟨n1, e1, x1, y1⟩ := reads_int (rb_field (s := 1) (vs := [v1]) h Tryd.underlying95 1 _ rfl (by kernel_rfl) rfl).reads Tryd.underlying3
  simp only [List.cons.injEq, and_true] at e0 e1
  subst e0 e1
  exact ⟨⟨n0, n1⟩, rfl, ⟨⟨x1, y1⟩, y0⟩⟩

set_option maxRecDepth 100000 in
set_option maxHeartbeats 4000000 in
theorem tellStates_all (tk : Nat) (htk : tk < 18446744073709551616) (dr : Bool) (n2 n3 n4 n5 n6 : Int) (x12 : Option Addr) (n12 q12 : Nat) (hn12 : n12 ≤ 9223372036854775807) (o7 : Option Nat) (p7 q7 : Nat) (c7 : Array Value) (T7 : TypeId) (f7 : Nat × Nat) (l7 : List Opr) (s7 : Sees 18 o7 p7 q7 c7 (l7.flatMap opC) l7.length) (h7 : ∀ x ∈ l7, OprOk x) (o8 : Option Nat) (p8 q8 : Nat) (c8 : Array Value) (T8 : TypeId) (f8 : Nat × Nat) (l8 : List Opr) (s8 : Sees 18 o8 p8 q8 c8 (l8.flatMap opC) l8.length) (h8 : ∀ x ∈ l8, OprOk x) (o9 : Option Nat) (p9 q9 : Nat) (c9 : Array Value) (T9 : TypeId) (f9 : Nat × Nat) (l9 : List Wkr) (s9 : Sees 7 o9 p9 q9 c9 (l9.flatMap wkC) l9.length) (h9 : ∀ x ∈ l9, WkrOk x) (o10 : Option Nat) (p10 q10 : Nat) (c10 : Array Value) (T10 : TypeId) (f10 : Nat × Nat) (l10 : List Ivr) (s10 : Sees 5 o10 p10 q10 c10 (l10.flatMap ivC) l10.length) (h10 : ∀ x ∈ l10, IvrOk x) (o13 : Option Nat) (p13 q13 : Nat) (c13 : Array Value) (T13 : TypeId) (f13 : Nat × Nat) (l13 : List Ltr) (s13 : Sees 6 o13 p13 q13 c13 (l13.flatMap ltC) l13.length) (h13 : ∀ x ∈ l13, LtrOk x) (o14 : Option Nat) (p14 q14 : Nat) (c14 : Array Value) (T14 : TypeId) (f14 : Nat × Nat) (l14 : List Wtr) (s14 : Sees 2 o14 p14 q14 c14 (l14.flatMap wtC) l14.length) (h14 : ∀ x ∈ l14, WtrOk x) (o11 : Option Nat) (p11 q11 : Nat) (c11 : Array Value) (T11 : TypeId) (f11 : Nat × Nat) (l11 : List Pr) (s11 : Sees 4 o11 p11 q11 c11 (l11.flatMap prC) l11.length) (hok : ∀ x ∈ l11, PrOk x) (hn11 : l11.length ≤ 1048576) (T0 : TypeId) (r0 : Nat × Nat) :
    Ct Tryd.prog 5 [.agg #[.int .u64 (tk : Int), .bool dr, .int .i64 n2, .int .i64 n3, .int .i64 n4, .int .i64 n5, .int .i64 n6, sv o7 p7 l7.length q7, sv o8 p8 l8.length q8, sv o9 p9 l9.length q9, sv o10 p10 l10.length q10, sv o11 p11 l11.length q11, .slice x12 n12 q12, sv o13 p13 l13.length q13, sv o14 p14 l14.length q14]] ((o7, .cells c7 T7 f7) :: (o8, .cells c8 T8 f8) :: (o9, .cells c9 T9 f9) :: (o10, .cells c10 T10 f10) :: (o11, .cells c11 T11 f11) :: (o13, .cells c13 T13 f13) :: (o14, .cells c14 T14 f14) :: (some 0, .cells powC T0 r0) :: l11.flatMap prK) [] fun v post => v = .bool true ∧ post = [] := by
 refine ct_of Tryd.func5 rfl rfl (fun w0 => ?_)
 show G _ _ [(0, _)] _ _
 refine G_seq ?_
 refine G_region (l := [0, 1]) rfl ?_
 refine G_new rfl rfl rfl rfl (N_boxA rfl rfl) (fun b1 => ?_)
 refine G_val rfl rfl rfl rfl (V_assign rfl rfl) ?_
 refine G_done ?_
 refine G_seq ?_
 refine G_seq ?_
 refine G_region (l := [0, 1]) rfl ?_
 first
   | refine G_val rfl rfl rfl rfl (V_loadW (s := 15) rfl rfl (List.mem_append_right _ (mem_at 0 rfl)) Tryd.underlying41 rfl infLawTellStates_41 rfl (by first | rfl | (simp [bcells_length, rqCells, Sl.v, opC, wkC, ivC, ltC, wtC, sv, frC, trC, srC, prC]; done) | (simp [bcells_length, rqCells, Sl.v, opC, wkC, ivC, ltC, wtC, sv, frC, trC, srC, prC]; omega) | (simp [bcells_length, *, rqCells, Sl.v, opC, wkC, ivC, ltC, wtC, sv, frC, trC, srC, prC]; done))) ?_
   | refine G_val rfl rfl rfl rfl (V_loadA (s := 15) rfl rfl (List.mem_append_right _ (mem_at 0 rfl)) Tryd.underlying41 rfl infLawTellStates_41 rfl rfl (by first | rfl | (simp [bcells_length, rqCells, Sl.v, opC, wkC, ivC, ltC, wtC, sv, frC, trC, srC, prC]; done) | (simp [bcells_length, rqCells, Sl.v, opC, wkC, ivC, ltC, wtC, sv, frC, trC, srC, prC]; omega) | (simp [bcells_length, *, rqCells, Sl.v, opC, wkC, ivC, ltC, wtC, sv, frC, trC, srC, prC]; done))) ?_
 refine G_callM (L2 := [_]) rfl rfl rfl rfl rfl rfl Tryd.call15 (lg_large tk dr n2 n3 n4 n5 n6 x12 n12 q12 hn12 o7 p7 q7 c7 T7 f7 l7 s7 o8 p8 q8 c8 T8 f8 l8 s8 o9 p9 q9 c9 T9 f9 l9 s9 o10 p10 q10 c10 T10 f10 l10 s10 o13 p13 q13 c13 T13 f13 l13 s13 o14 p14 q14 c14 T14 f14 l14 s14 o11 p11 q11 c11 T11 f11 l11 s11 hok) [] rfl (by intro z hz; simp only [List.mem_cons, List.mem_append] at hz ⊢; grind) ?_
 rintro v post ⟨⟨bl, rfl, hbl⟩, rfl⟩
 show G _ _ _ [_] _
 refine G_done ?_
 refine G_if rfl (fun hc1 => ?_) (fun hc1 => ?_)
 · skip
   refine G_seq ?_
   refine G_region (l := [0, 1]) rfl ?_
   refine G_callM (L2 := [_]) rfl rfl rfl rfl rfl rfl Tryd.call6 (tell_live _ _) [] rfl (subA_cons (List.mem_append_left _ (mem_at 7 rfl)) subA_nil) ?_
   rintro v post ⟨rfl, rfl⟩
   show G _ _ _ [_] _
   refine G_val rfl rfl rfl rfl (V_assign rfl rfl) ?_
   refine G_done ?_
   refine G_ret (post := []) Tryd.func5 rfl (RVs_cons (RV_tmp rfl) RVs_nil) [] rfl ?_
   dsimp only [packed]
   exact ⟨rfl, rfl⟩
 refine G_skip ?_
 refine G_seq ?_
 obtain ⟨g7, g8, g9, g10, g11, g12, g13, g14⟩ := hbl (by assumption)
 refine GH_start (Lq := [_]) (isq := [0]) (m := 10) mixedK rfl rfl ?_
 first
   | refine GH_take 0 rfl rfl rfl rfl (by kernel_rfl) (by kernel_rfl) (by kernel_rfl) (fun _ _ => (V_loadW (s := 15) rfl rfl (List.mem_append_right _ (mem_at 0 rfl)) Tryd.underlying41 rfl infLawTellStates_41 rfl (by first | rfl | (simp [bcells_length, rqCells, Sl.v, opC, wkC, ivC, ltC, wtC, sv, frC, trC, srC, prC]; done) | (simp [bcells_length, rqCells, Sl.v, opC, wkC, ivC, ltC, wtC, sv, frC, trC, srC, prC]; omega) | (simp [bcells_length, *, rqCells, Sl.v, opC, wkC, ivC, ltC, wtC, sv, frC, trC, srC, prC]; done)))) ?_
   | refine GH_take 0 rfl rfl rfl rfl (by kernel_rfl) (by kernel_rfl) (by kernel_rfl) (fun _ _ => (V_loadA (s := 15) rfl rfl (List.mem_append_right _ (mem_at 0 rfl)) Tryd.underlying41 rfl infLawTellStates_41 rfl rfl (by first | rfl | (simp [bcells_length, rqCells, Sl.v, opC, wkC, ivC, ltC, wtC, sv, frC, trC, srC, prC]; done) | (simp [bcells_length, rqCells, Sl.v, opC, wkC, ivC, ltC, wtC, sv, frC, trC, srC, prC]; omega) | (simp [bcells_length, *, rqCells, Sl.v, opC, wkC, ivC, ltC, wtC, sv, frC, trC, srC, prC]; done)))) ?_
 first
   | refine GH_take 3 rfl rfl rfl rfl (by kernel_rfl) (by kernel_rfl) (by kernel_rfl) (fun _ _ => (V_loadW (s := 15) rfl rfl (List.mem_append_right _ (mem_at 0 rfl)) Tryd.underlying41 rfl infLawTellStates_41 rfl (by first | rfl | (simp [bcells_length, rqCells, Sl.v, opC, wkC, ivC, ltC, wtC, sv, frC, trC, srC, prC]; done) | (simp [bcells_length, rqCells, Sl.v, opC, wkC, ivC, ltC, wtC, sv, frC, trC, srC, prC]; omega) | (simp [bcells_length, *, rqCells, Sl.v, opC, wkC, ivC, ltC, wtC, sv, frC, trC, srC, prC]; done)))) ?_
   | refine GH_take 3 rfl rfl rfl rfl (by kernel_rfl) (by kernel_rfl) (by kernel_rfl) (fun _ _ => (V_loadA (s := 15) rfl rfl (List.mem_append_right _ (mem_at 0 rfl)) Tryd.underlying41 rfl infLawTellStates_41 rfl rfl (by first | rfl | (simp [bcells_length, rqCells, Sl.v, opC, wkC, ivC, ltC, wtC, sv, frC, trC, srC, prC]; done) | (simp [bcells_length, rqCells, Sl.v, opC, wkC, ivC, ltC, wtC, sv, frC, trC, srC, prC]; omega) | (simp [bcells_length, *, rqCells, Sl.v, opC, wkC, ivC, ltC, wtC, sv, frC, trC, srC, prC]; done)))) ?_
 refine GH_all [1] (by kernel_rfl) (by decide) ?_
 refine (And.intro ?_ trivial)
 · skip
   refine GHop_callM (L2 := [_]) rfl rfl rfl rfl rfl rfl Tryd.call17 (to_state tk dr n2 n3 n4 n5 n6 x12 n12 q12 o7 p7 q7 l7 o8 p8 q8 l8 o9 p9 q9 l9 o10 p10 q10 l10 o13 p13 q13 l13 o14 p14 q14 l14 o11 p11 q11 c11 T11 f11 l11 s11 hok hn11) [] rfl (by intro z hz; simp only [List.mem_cons, List.mem_append] at hz ⊢; grind) [0] (by rintro v post ⟨⟨x11, n11, q11_, rfl⟩, rfl⟩; exact ⟨_, rfl⟩) ?_
   rintro v post ⟨⟨x11, n11, q11_, rfl⟩, rfl⟩
   show GH _ _ _ _ _ _ _ [_] _
   refine GH_all [2] (by kernel_rfl) (by decide) ?_
   refine (And.intro ?_ trivial)
   · skip
     refine GHop_callM (L2 := [_]) rfl rfl rfl rfl rfl rfl Tryd.call16 (ts_state0 tk htk dr n2 n3 n4 n5 n6 x11 x12 n11 q11_ n12 q12 o7 p7 q7 c7 T7 f7 l7 s7 h7 o8 p8 q8 c8 T8 f8 l8 s8 h8 o9 p9 q9 c9 T9 f9 l9 s9 h9 o10 p10 q10 c10 T10 f10 l10 s10 h10 o13 p13 q13 c13 T13 f13 l13 s13 h13 o14 p14 q14 c14 T14 f14 l14 s14 h14 T0 r0 (by omega)) [] rfl (by intro z hz; simp only [List.mem_cons, List.mem_append] at hz ⊢; grind) [0] (by rintro v post ⟨rfl, rfl⟩; exact ⟨_, rfl⟩) ?_
     rintro v post ⟨rfl, rfl⟩
     show GH _ _ _ _ _ _ _ [_] _
     refine GH_all [4] (by kernel_rfl) (by decide) ?_
     refine (And.intro ?_ trivial)
     · skip
       refine GHop_callM (L2 := [_]) rfl rfl rfl rfl rfl rfl Tryd.call18 (rts_state0 tk htk dr n2 n3 n4 n5 n6 (o11.map fun b => ⟨b, p11, none⟩) x12 l11.length q11 n12 q12 o7 p7 q7 c7 T7 f7 l7 s7 h7 o8 p8 q8 c8 T8 f8 l8 s8 h8 o9 p9 q9 c9 T9 f9 l9 s9 h9 o10 p10 q10 c10 T10 f10 l10 s10 h10 o13 p13 q13 c13 T13 f13 l13 s13 h13 o14 p14 q14 c14 T14 f14 l14 s14 h14 (by omega)) [] rfl (by intro z hz; simp only [List.mem_cons, List.mem_append] at hz ⊢; grind) [0] (by rintro v post ⟨rfl, rfl⟩; exact ⟨_, rfl⟩) ?_
       rintro v post ⟨rfl, rfl⟩
       show GH _ _ _ _ _ _ _ [_] _
       refine GH_take 5 rfl rfl rfl rfl (by kernel_rfl) (by kernel_rfl) (by kernel_rfl) (fun _ _ => (V_seql rfl rfl rfl)) ?_
       refine GH_take 6 rfl rfl rfl rfl (by kernel_rfl) (by kernel_rfl) (by kernel_rfl) (fun _ _ => (V_move rfl rfl)) ?_
       refine GH_splitD 12 rfl (fun hc2 => ?_) (fun hc2 => ?_)
       rotate_left
       · (first | contradiction | (exact absurd rfl hc2) | (exfalso; omega))
       refine GH_all [7] (by kernel_rfl) (by decide) ?_
       refine (And.intro ?_ trivial)
       · skip
         refine GHop_callM (L2 := [_]) rfl rfl rfl rfl rfl rfl Tryd.call6 (tell_live _ _) [] rfl (subA_cons (List.mem_append_left _ (mem_at 7 rfl)) subA_nil) [0] (by rintro v post ⟨rfl, rfl⟩; exact ⟨_, rfl⟩) ?_
         rintro v post ⟨rfl, rfl⟩
         show GH _ _ _ _ _ _ _ [_] _
         refine GH_take 8 rfl rfl rfl rfl (by kernel_rfl) (by kernel_rfl) (by kernel_rfl) (fun _ _ => (V_pickT rfl rfl rfl)) ?_
         refine GH_take 9 rfl rfl rfl rfl (by kernel_rfl) (by kernel_rfl) (by kernel_rfl) (fun _ _ => (V_assign rfl rfl)) ?_
         refine GH_done (by kernel_rfl) ?_
         refine G_ret (post := []) Tryd.func5 rfl (RVs_cons (RV_tmp rfl) RVs_nil) [] rfl ?_
         dsimp only [packed]
         exact ⟨rfl, rfl⟩

theorem len_15 {es : List Value} (h : es.length = 15) : ∃ v0 v1 v2 v3 v4 v5 v6 v7 v8 v9 v10 v11 v12 v13 v14, es = [v0, v1, v2, v3, v4, v5, v6, v7, v8, v9, v10, v11, v12, v13, v14] := by
  match es, h with
  | [v0, v1, v2, v3, v4, v5, v6, v7, v8, v9, v10, v11, v12, v13, v14], _ => exact ⟨v0, v1, v2, v3, v4, v5, v6, v7, v8, v9, v10, v11, v12, v13, v14, rfl⟩

set_option maxRecDepth 100000 in
theorem tellStates_walk : LawWalkU LaidN 1048576 5 Tryd.f5 := lawwalk_readsU (fun W base args hX hs hval => by
  obtain ⟨T0, r0, htab⟩ := laid_tab hX
  rw [Tryd.params5] at hs hval
  obtain ⟨l⟩ := args
  match l, hs with
  | [a], _ =>
    obtain ⟨h0, hr⟩ := hval 0 41 a rfl rfl
    obtain ⟨cs, rfl, hcl, hcell⟩ := okv_agg (ts := [32, 4, 3, 3, 3, 3, 3, 33, 33, 34, 35, 36, 37, 38, 39]) (s := 15) h0 Tryd.underlying41 rfl (by kernel_rfl) (by kernel_rfl) rfl
    obtain ⟨v0, v1, v2, v3, v4, v5, v6, v7, v8, v9, v10, v11, v12, v13, v14, rfl⟩ := len_15 hcl
    have hr : ReadsB Tryd.prog W 41 [v0, v1, v2, v3, v4, v5, v6, v7, v8, v9, v10, v11, v12, v13, v14] 1048576 := hr
    obtain ⟨m0, e0, z0, w0⟩ := reads_int (rb_field (s := 1) (vs := [v0]) hr Tryd.underlying41 0 _ rfl (by kernel_rfl) rfl).reads Tryd.underlying32
    obtain ⟨dr, e1⟩ := reads_bool (rb_field (s := 1) (vs := [v1]) hr Tryd.underlying41 1 _ rfl (by kernel_rfl) rfl).reads Tryd.underlying4
    obtain ⟨n2, e2, z2, w2⟩ := reads_int (rb_field (s := 1) (vs := [v2]) hr Tryd.underlying41 2 _ rfl (by kernel_rfl) rfl).reads Tryd.underlying3
    obtain ⟨n3, e3, z3, w3⟩ := reads_int (rb_field (s := 1) (vs := [v3]) hr Tryd.underlying41 3 _ rfl (by kernel_rfl) rfl).reads Tryd.underlying3
    obtain ⟨n4, e4, z4, w4⟩ := reads_int (rb_field (s := 1) (vs := [v4]) hr Tryd.underlying41 4 _ rfl (by kernel_rfl) rfl).reads Tryd.underlying3
    obtain ⟨n5, e5, z5, w5⟩ := reads_int (rb_field (s := 1) (vs := [v5]) hr Tryd.underlying41 5 _ rfl (by kernel_rfl) rfl).reads Tryd.underlying3
    obtain ⟨n6, e6, z6, w6⟩ := reads_int (rb_field (s := 1) (vs := [v6]) hr Tryd.underlying41 6 _ rfl (by kernel_rfl) rfl).reads Tryd.underlying3
    obtain ⟨o7, p7, q7, c7, T7, f7, l7, e7, hn7, s7, h7, hb7⟩ := rb_slice (sz := 18) (rb_field (s := 1) (vs := [v7]) hr Tryd.underlying41 7 _ rfl (by kernel_rfl) rfl) Tryd.underlying33 (by kernel_rfl) (by omega) (hcell 7 _ _ rfl rfl) opC op_len (fun x => OprOk x) (fun es hl h => op_of hl h)
    obtain ⟨o8, p8, q8, c8, T8, f8, l8, e8, hn8, s8, h8, hb8⟩ := rb_slice (sz := 18) (rb_field (s := 1) (vs := [v8]) hr Tryd.underlying41 8 _ rfl (by kernel_rfl) rfl) Tryd.underlying33 (by kernel_rfl) (by omega) (hcell 8 _ _ rfl rfl) opC op_len (fun x => OprOk x) (fun es hl h => op_of hl h)
    obtain ⟨o9, p9, q9, c9, T9, f9, l9, e9, hn9, s9, h9, hb9⟩ := rb_slice (sz := 7) (rb_field (s := 1) (vs := [v9]) hr Tryd.underlying41 9 _ rfl (by kernel_rfl) rfl) Tryd.underlying34 (by kernel_rfl) (by omega) (hcell 9 _ _ rfl rfl) wkC wk_len (fun x => WkrOk x) (fun es hl h => wk_of hl h)
    obtain ⟨o10, p10, q10, c10, T10, f10, l10, e10, hn10, s10, h10, hb10⟩ := rb_slice (sz := 5) (rb_field (s := 1) (vs := [v10]) hr Tryd.underlying41 10 _ rfl (by kernel_rfl) rfl) Tryd.underlying35 (by kernel_rfl) (by omega) (hcell 10 _ _ rfl rfl) ivC iv_len (fun x => IvrOk x) (fun es hl h => iv_of hl h)
    obtain ⟨o11, p11, q11, c11, T11, f11, l11, e11, hn11, s11, h11, hb11⟩ := rb_slice (sz := 4) (rb_field (s := 1) (vs := [v11]) hr Tryd.underlying41 11 _ rfl (by kernel_rfl) rfl) Tryd.underlying36 (by kernel_rfl) (by omega) (hcell 11 _ _ rfl rfl) prC pr_len (fun x => PrOk x ∧ ∀ z ∈ prK x, ∀ b, z.1 = some b → W.heap[b]? = some z.2) (fun es hl h => pr_of hl h)
    obtain ⟨o13, p13, q13, c13, T13, f13, l13, e13, hn13, s13, h13, hb13⟩ := rb_slice (sz := 6) (rb_field (s := 1) (vs := [v13]) hr Tryd.underlying41 13 _ rfl (by kernel_rfl) rfl) Tryd.underlying38 (by kernel_rfl) (by omega) (hcell 13 _ _ rfl rfl) ltC lt_len (fun x => LtrOk x) (fun es hl h => lt_of hl h)
    obtain ⟨o14, p14, q14, c14, T14, f14, l14, e14, hn14, s14, h14, hb14⟩ := rb_slice (sz := 2) (rb_field (s := 1) (vs := [v14]) hr Tryd.underlying41 14 _ rfl (by kernel_rfl) rfl) Tryd.underlying39 (by kernel_rfl) (by omega) (hcell 14 _ _ rfl rfl) wtC wt_len (fun x => WtrOk x) (fun es hl h => wt_of hl h)
    obtain ⟨x12, n12, q12, e12, hn12, hq12⟩ := reads_any (rb_field (s := 1) (vs := [v12]) hr Tryd.underlying41 12 _ rfl (by kernel_rfl) rfl).reads Tryd.underlying37
    simp only [List.cons.injEq, and_true] at e0 e1 e2 e3 e4 e5 e6 e12
    subst e0 e1 e2 e3 e4 e5 e6 e7 e8 e9 e10 e11 e12 e13 e14
    have z0 : (0 : Int) ≤ m0 := z0
    have w0 : m0 ≤ (18446744073709551615 : Int) := w0
    obtain ⟨tk, rfl⟩ := Int.eq_ofNat_of_zero_le z0
    refine ⟨_, has_all _ ?_, tellStates_all tk (by omega) dr n2 n3 n4 n5 n6 x12 n12 q12 (by omega) o7 p7 q7 c7 T7 f7 l7 s7 h7 o8 p8 q8 c8 T8 f8 l8 s8 h8 o9 p9 q9 c9 T9 f9 l9 s9 h9 o10 p10 q10 c10 T10 f10 l10 s10 h10 o13 p13 q13 c13 T13 f13 l13 s13 h13 o14 p14 q14 c14 T14 f14 l14 s14 h14 o11 p11 q11 c11 T11 f11 l11 s11 (fun x hx => (h11 x hx).1) hn11 T0 r0⟩
    intro x hx b hb
    simp only [List.mem_cons, List.mem_append, List.mem_flatMap] at hx
    rcases hx with rfl | rfl | rfl | rfl | rfl | rfl | rfl | rfl | ⟨y, hy, hz⟩
    · exact hb7 b hb
    · exact hb8 b hb
    · exact hb9 b hb
    · exact hb10 b hb
    · exact hb11 b hb
    · exact hb13 b hb
    · exact hb14 b hb
    · cases hb; exact htab
    · exact (h11 y hy).2 x hz b hb)


set_option maxRecDepth 100000 in
theorem tellStates_reads (os : Os) {H : Type} (enc : TypeId × Value → H) : ∃ places, DataW.whole enc Tryd.prog ((World.laidAll Tryd.prog os Rows.tellStatesUptoRow.laid).forCall (fun _ _ => 0) ⟨#[], #[.agg #[.int .u64 0, .bool false, .int .i64 0, .int .i64 0, .int .i64 0, .int .i64 0, .int .i64 0, .slice none 0 0, .slice none 0 0, .slice none 0 0, .slice none 0 0, .slice none 0 0, .slice none 0 0, .slice none 0 0, .slice none 0 0]], []⟩).memory Tryd.f5.params.toList Rows.tellStatesSpec.vars false #[.agg #[.int .u64 0, .bool false, .int .i64 0, .int .i64 0, .int .i64 0, .int .i64 0, .int .i64 0, .slice none 0 0, .slice none 0 0, .slice none 0 0, .slice none 0 0, .slice none 0 0, .slice none 0 0, .slice none 0 0, .slice none 0 0]].toList 8 = some ([.agg [.lit (.int .u64 0), .lit (.bool false), .lit (.int .i64 0), .lit (.int .i64 0), .lit (.int .i64 0), .lit (.int .i64 0), .lit (.int .i64 0), .nil, .nil, .nil, .nil, .nil, .nil, .nil, .nil]], [], places) := ⟨[], by kernel_rfl⟩
set_option maxRecDepth 100000 in
theorem tellStates_lifted (os : Os) (started : os.Started) (H : Type) (enc : TypeId × Value → H) (F : Stop.Interp) :
    ReturnsInHanded {} Tryd.checked os 5 .any ((Rows.OpenSpec.upto Rows.tellStatesSpec).preRow enc Tryd.prog Tryd.f5 Rows.tellStatesUptoRow.domain false Rows.tellStatesUptoRow.laid) (((Rows.OpenSpec.upto Rows.tellStatesSpec).at F).post enc Tryd.prog Tryd.f5 false true false false) := by
  obtain ⟨places, hx⟩ := tellStates_reads os enc
  refine returnsInHanded_of_row (C := Tryd.checked) (s := Rows.OpenSpec.upto Rows.tellStatesSpec) Tryd.ownK started (by kernel_rfl) Tryd.func5
    ⟨World.laidAll Tryd.prog os Rows.tellStatesUptoRow.laid, fun _ _ => 0, ⟨#[], #[.agg #[.int .u64 0, .bool false, .int .i64 0, .int .i64 0, .int .i64 0, .int .i64 0, .int .i64 0, .slice none 0 0, .slice none 0 0, .slice none 0 0, .slice none 0 0, .slice none 0 0, .slice none 0 0, .slice none 0 0, .slice none 0 0]], []⟩, World.laidAll_os _ _ _, World.shaped_of_ZipB (by kernel_rfl) (by kernel_rfl), rfl, (Input.okWide_of_okWideB (by kernel_rfl)).2,
      OpenSpec.preRow_of_cond 8 hx (by kernel_rfl) (fun k hk => by cases hk; kernel_rfl) (by kernel_rfl) (by rw [MakeChecks.laidMetH_plain _ _ _ (by kernel_rfl)]; exact laidMet_laidAll _ (by kernel_rfl) (by kernel_rfl)),
      by simp only [Assume.holds]; exact ⟨by simp, by simp, fun _ => Modest.zero, by simp, by simp⟩⟩ ?_
  intro W base args ds gs before hval hW _ hcond _ hL _ _
  exact law_endU (s := Rows.tellStatesSpec) rfl (by kernel_rfl) (by kernel_rfl) (by decide +kernel) (fun ds h => by match ds, h with | [_], _ => rfl) tellStates_walk W base args ds gs before hval hW hL (of_decide_eq_true (hcond _ rfl))
theorem tellStates_said : Rows.TellStatesUptoSaid :=
  OpenClaim.holds_of_cond 5 Tryd.f5 rfl rfl rfl rfl rfl rfl rfl ⟨rfl, rfl, rfl, rfl, rfl⟩ rfl rfl rfl rfl rfl (by kernel_rfl) Tryd.func5 (by kernel_rfl)
    (of_decide_eq_true (by kernel_rfl)) (by unfold Func.isWrapper; first | (rw [if_pos (by decide +kernel)]; kernel_rfl) | (rw [if_neg (by decide +kernel)]; exact ⟨rfl, rfl⟩))
    (fun os started H enc _ F => by rw [OpenClaim.pre_eq_preRow]; exact tellStates_lifted os started H enc F)
theorem tellStates_holds : Rows.TellStatesUptoCardSaid :=
  Claim7.holds_tied_plain_at .later [] _ _ _ _ tellStates_said (fun _ h => by cases h) (by kernel_rfl) (fun _ h => by cases h) tellStatesUpto_row_tie rfl ⟨rfl, rfl⟩ (by kernel_rfl) rfl
    (fun f fn hf hfn => by
      obtain rfl : f = 5 := Option.some.inj ((show Tryd.prog.funcNamed "billet/billetlaw45.TellStates" = some 5 by kernel_rfl).symm.trans hf) |>.symm
      obtain rfl : fn = Tryd.f5 := (Option.some.inj (Tryd.func5.symm.trans hfn)).symm
      exact ⟨by kernel_rfl, fun j t ht => by
        rw [Tryd.params5] at ht
        have hm : t ∈ [41] := by simpa using Array.mem_of_getElem? ht
        have hall : ([41].all fun u => !Tryd.prog.wantsStandIn u) = true := by kernel_rfl
        exact (show Tryd.prog.wantsStandIn t = false by simpa using List.all_eq_true.1 hall t hm)⟩)
    (by kernel_rfl)
#print axioms tellStates_holds

end
end Go.Proofs.YtjnaeoelnmhjfaaDoor
