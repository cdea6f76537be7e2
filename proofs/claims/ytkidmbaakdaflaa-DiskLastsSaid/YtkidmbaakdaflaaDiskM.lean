/- The functions of the laws of layer 22: calls, one behind the other; what is read; what lies. -/
import Derived.Test.YtkidmbaakdaflaaDiskL
set_option linter.unusedSimpArgs false
set_option linter.unusedVariables false
namespace Go.Proofs.Ytkidmbaakdaflaa
open Go Go.RowKit

section
theorem infDiskM_3 : Try.prog.info? 3 = some Try.t3 := by kernel_rfl
theorem infDiskM_9 : Try.prog.info? 9 = some Try.t9 := by kernel_rfl
theorem infDiskM_50 : Try.prog.info? 50 = some Try.t50 := by kernel_rfl
theorem infDiskM_67 : Try.prog.info? 67 = some Try.t67 := by kernel_rfl


theorem cell_at {α : Type} {f : α → List Value} {sz : Nat} {ob : Option Nat} {off cap : Nat} {cs : Array Value} {l : List α} (h : Sees sz ob off cap cs (l.flatMap f) l.length) (hf : ∀ a, (f a).length = sz) {i : Nat} {a : α} (ha : l[i]? = some a) (k : Nat) (hk : k < sz) {v : Value} (hv : (f a)[k]? = some v) :
    cs[off + i * sz + k]? = some v := by
  have h1 := flat_part f hf l ha k
  rw [if_pos hk, hv] at h1
  have h2 := h.at h1
  rwa [← Nat.add_assoc] at h2
instance : Inhabited Ac := ⟨⟨0, 0, 0, 0, none, 0, 0⟩⟩
def bigA (a : Ac) : Bool := decide (40 < a.i)
def largeB (acs : List Ac) : Bool := acs.any bigA || decide (60 < acs.length)
def runA (k : Dk) (a : Ac) : Dk := if a.kind = 0 then k.write a.at_ (textA a.c a.n) else if a.kind = 1 then k.sync else k
def runK (k : Dk) (acs : List Ac) : Dk := acs.foldl runA k
theorem runK_next {k : Dk} {acs : List Ac} {i : Nat} {a : Ac} (h : acs[i]? = some a) : runK k (acs.take (i + 1)) = runA (runK k (acs.take i)) a := by
  rw [take_succ_of h]; unfold runK; rw [List.foldl_append]; rfl
theorem runA_W (k : Dk) (a : Ac) : (runA k a).W.length ≤ k.W.length + 1 := by
  unfold runA
  split
  · exact write_W _ _ _
  · split
    · unfold Dk.sync; split
      · exact Nat.le_succ _
      · exact Nat.zero_le _
    · omega
theorem runK_W (k : Dk) (acs : List Ac) : ∀ i, (runK k (acs.take i)).W.length ≤ k.W.length + i
  | 0 => by simp [runK]
  | i + 1 => by
    have ih := runK_W k acs i
    by_cases h : i < acs.length
    · obtain ⟨a, ha⟩ := getI h
      rw [runK_next ha]
      have := runA_W (runK k (acs.take i)) a
      omega
    · rw [List.take_of_length_le (by omega)] at ih ⊢
      omega
theorem kind3 (z : Int) : z = 0 ∨ (¬ z = 0 ∧ z = 1) ∨ (¬ z = 0 ∧ ¬ z = 1) := by omega
theorem runA_w {k : Dk} {a : Ac} (h : a.kind = 0) : runA k a = k.write a.at_ (textA a.c a.n) := if_pos h
theorem runA_s {k : Dk} {a : Ac} (h : ¬ a.kind = 0 ∧ a.kind = 1) : runA k a = k.sync := by unfold runA; rw [if_neg h.1, if_pos h.2]
theorem runA_n {k : Dk} {a : Ac} (h : ¬ a.kind = 0 ∧ ¬ a.kind = 1) : runA k a = k := by unfold runA; rw [if_neg h.1, if_neg h.2]
def readAll (k : Dk) (m : Nat) : List (List UInt8) := (List.range m).map fun (j : Nat) => k.readS (j : Int)
theorem readAll_next (k : Dk) (i : Nat) : (readAll k i).map strC ++ [strC (k.readS (i : Int))] = (readAll k (i + 1)).map strC := by
  unfold readAll; rw [List.range_succ, List.map_append, List.map_append]; rfl

set_option maxRecDepth 100000 in
set_option maxHeartbeats 1000000 in
theorem dl_large (o1 : Option Nat) (p1 q1 : Nat) (c1 : Array Value) (T1 : TypeId) (f1 : Nat × Nat) (acs : List Ac) (hs : Sees 5 o1 p1 q1 c1 (acs.flatMap acCells) acs.length) :
    Ct Try.prog 30 [sv o1 p1 acs.length q1] [(o1, .cells c1 T1 f1)] [] fun v post => v = .bool (largeB acs) ∧ post = [] := by
 have hk1 := hs.le
 have hk2 := hs.max
 refine ct_of Try.func30 rfl rfl (fun w0 => ?_)
 show G _ _ [(0, _)] _ _
 refine G_seq ?_
 refine G_region (l := [0]) rfl ?_
 refine G_val rfl rfl rfl rfl (V_assign rfl rfl) ?_
 refine G_done ?_
 refine G_seq ?_
 refine G_seq ?_
 refine G_region (l := [0]) rfl ?_
 refine G_val rfl rfl rfl rfl (V_assign rfl rfl) ?_
 refine G_done ?_
 refine G_block ?_
 refine G_sub ?he2 [] ?hl2 (G_loop (X := Nat) (fun i => i ≤ acs.length ∧ (acs.take i).any bigA = false) (fun i => acs.length - i) (fun i => [(0, sv o1 p1 acs.length q1), (3, .int .i64 (i : Int))]) (fun i => []) ?round2 0 ?h02)
 case he2 => exact (And.intro rfl (And.intro rfl trivial))
 case hl2 => exact ⟨_, rfl⟩
 case h02 => exact ⟨Nat.zero_le _, rfl⟩
 case round2 =>
  intro i hJ ih
  try dsimp only at hJ ih
  obtain ⟨hi, ht⟩ := hJ
  refine G_seq ?_
  refine G_seq ?_
  refine G_region (l := [0, 1, 2, 3]) rfl ?_
  refine G_val rfl rfl rfl rfl (V_move rfl rfl) ?_
  refine G_val rfl rfl rfl rfl (V_move rfl rfl) ?_
  refine G_val rfl rfl rfl rfl (V_len rfl rfl Try.underlying49 rfl) ?_
  refine G_val rfl rfl rfl rfl (V_lss rfl rfl rfl) ?_
  refine G_done ?_
  refine G_ifD rfl (fun hc1 => ?_) (fun hc1 => ?_)
  · skip
    refine G_skip ?_
    refine G_seq ?_
    refine G_block ?_
    refine G_seq ?_
    obtain ⟨a, ha⟩ := getI (show i < acs.length by omega)
    obtain ⟨b1, rfl⟩ := hs.isSome (by omega)
    refine G_region (l := [0, 1, 2, 3, 4, 5, 6]) rfl ?_
    refine G_val rfl rfl rfl rfl (V_move rfl rfl) ?_
    refine G_val rfl rfl rfl rfl (V_move rfl rfl) ?_
    first
      | refine G_val rfl rfl rfl rfl (V_indexAddrN (s := 5) rfl Try.underlying49 infDiskM_67 rfl rfl rfl rfl (by omega)) ?_
      | refine G_val rfl rfl rfl rfl (V_indexAddr (s := 5) rfl Try.underlying49 infDiskM_67 rfl rfl rfl (by omega) (by first | omega | (simp [wCells, kCells, wCells, kCells, wCells, kCells, wCells, kCells, wCells, kCells, acCells]; done) | (simp [wCells, kCells, wCells, kCells, wCells, kCells, wCells, kCells, wCells, kCells, acCells]; omega) | (simp [wCells, kCells, wCells, kCells, wCells, kCells, wCells, kCells, wCells, kCells, acCells] at *; omega))) ?_
    refine G_val rfl rfl rfl rfl (V_fieldAddr (fo := _ + 4) rfl Try.underlying67 rfl infDiskM_50 rfl rfl rfl) ?_
    refine G_val rfl rfl rfl rfl (V_load1 rfl rfl (mem_at 0 rfl) (nth_of (cell_at hs ac_len ha 4 (by omega) rfl)) Try.underlying50 rfl) ?_
    refine G_val rfl rfl rfl rfl (V_len rfl rfl Try.underlying50 rfl) ?_
    refine G_val rfl rfl rfl rfl (V_gtr rfl rfl rfl) ?_
    refine G_done ?_
    refine G_ifD rfl (fun hc2 => ?_) (fun hc2 => ?_)
    · skip
      refine G_seq ?_
      refine G_region (l := [0]) rfl ?_
      refine G_val rfl rfl rfl rfl (V_assign rfl rfl) ?_
      refine G_done ?_
      refine G_ret (post := []) Try.func30 rfl (RVs_cons (RV_tmp rfl) RVs_nil) [] rfl ?_
      dsimp only [packed]
      first
        | exact ⟨bool_eq (by unfold largeB; rw [any_yes ha (by unfold bigA; simp; omega)]; rfl), rfl⟩
        | exact ⟨bool_eq (by unfold largeB; rw [any_end ht (by omega), Bool.false_or]; rw [Bool.eq_iff_iff]; simp; omega), rfl⟩
    refine G_skip ?_
    refine G_inBlock ?_
    refine G_region (l := [0, 1, 2]) rfl ?_
    refine G_val rfl rfl rfl rfl (V_move rfl rfl) ?_
    first
      | refine G_val rfl rfl rfl rfl ((V_add rfl rfl rfl).int (wrap_i64 (by omega))) ?_
      | refine G_val rfl rfl rfl rfl (V_add rfl rfl rfl) ?_
    refine G_val rfl rfl rfl rfl (V_assign rfl rfl) ?_
    refine G_done ?_
    refine G_sub ?_ [] ?_ (ih (i + 1) ?_ ?_)
    · (refine (And.intro ?_ (And.intro ?_ trivial)) <;> first | rfl | exact slot_int (by omega) | exact slot_int (by simp))
    · exact ⟨_, rfl⟩
    · exact ⟨by omega, any_next ht ha (by unfold bigA; simp; omega)⟩
    · (first | omega | (dsimp only; omega))
  refine G_exit rfl ?_
  refine G_seq ?_
  refine G_region (l := [0, 1, 2, 3]) rfl ?_
  refine G_val rfl rfl rfl rfl (V_move rfl rfl) ?_
  refine G_val rfl rfl rfl rfl (V_len rfl rfl Try.underlying49 rfl) ?_
  refine G_val rfl rfl rfl rfl (V_gtr rfl rfl rfl) ?_
  refine G_val rfl rfl rfl rfl (V_assign rfl rfl) ?_
  refine G_done ?_
  refine G_ret (post := []) Try.func30 rfl (RVs_cons (RV_tmp rfl) RVs_nil) [] rfl ?_
  dsimp only [packed]
  first
    | exact ⟨bool_eq (by unfold largeB; rw [any_yes ha (by unfold bigA; simp; omega)]; rfl), rfl⟩
    | exact ⟨bool_eq (by unfold largeB; rw [any_end ht (by omega), Bool.false_or]; rw [Bool.eq_iff_iff]; simp; omega), rfl⟩

set_option maxRecDepth 100000 in
set_option maxHeartbeats 1000000 in
theorem dl_run (d n lb lcap : Nat) (lcs : Array Value) (uw : Sl) (k : Dk) (h : DkAt k n lb lcs lcap uw) (o1 : Option Nat) (p1 q1 : Nat) (c1 : Array Value) (T1 : TypeId) (f1 : Nat × Nat) (acs : List Ac) (hs : Sees 5 o1 p1 q1 c1 (acs.flatMap acCells) acs.length) (hok : ∀ a ∈ acs, AcOk a) (hW : k.W.length + acs.length ≤ 1000000) :
    Ct Try.prog 33 [.pointer (some ⟨d, 0, none⟩), sv o1 p1 acs.length q1] [(o1, .cells c1 T1 f1)] [(some d, .cells #[.slice (some ⟨lb, 0, none⟩) n lcap, uw.v k.W.length, .int .i64 k.fuse, .bool k.dead] 147 (0, 0)), (some lb, .cells lcs 9 (0, 0)), (uw.ob, .cells uw.cs 151 uw.fz)] fun v post => v = .tuple #[] ∧ ∃ lcs1 uw1, DkAt (runK k acs) n lb lcs1 lcap uw1 ∧ post = [(some d, .cells #[.slice (some ⟨lb, 0, none⟩) n lcap, uw1.v (runK k acs).W.length, .int .i64 (runK k acs).fuse, .bool (runK k acs).dead] 147 (0, 0)), (some lb, .cells lcs1 9 (0, 0)), (uw1.ob, .cells uw1.cs 151 uw1.fz)] := by
 have hk1 := hs.le
 have hk2 := hs.max
 refine ct_of Try.func33 rfl rfl (fun w0 => ?_)
 show G _ _ [(0, _), (1, _)] _ _
 refine G_seq ?_
 refine G_region (l := [0]) rfl ?_
 refine G_val rfl rfl rfl rfl (V_assign rfl rfl) ?_
 refine G_done ?_
 refine G_block ?_
 refine G_sub ?he1 [0, 0, 0] ?hl1 (G_loop (X := Nat × Array Value × Sl) (fun x => match x with | ⟨i, cs, u⟩ => i ≤ acs.length ∧ DkAt (runK k (acs.take i)) n lb cs lcap u) (fun x => match x with | ⟨i, cs, u⟩ => acs.length - i) (fun x => match x with | ⟨i, cs, u⟩ => [(0, .pointer (some ⟨d, 0, none⟩)), (1, sv o1 p1 acs.length q1), (4, .int .i64 (i : Int))]) (fun x => match x with | ⟨i, cs, u⟩ => [(some d, .cells #[.slice (some ⟨lb, 0, none⟩) n lcap, u.v (runK k (acs.take i)).W.length, .int .i64 (runK k (acs.take i)).fuse, .bool (runK k (acs.take i)).dead] 147 (0, 0)), (some lb, .cells cs 9 (0, 0)), (u.ob, .cells u.cs 151 u.fz)]) ?round1 (0, lcs, uw) ?h01)
 case he1 => exact (And.intro rfl (And.intro rfl (And.intro rfl trivial)))
 case hl1 => exact ⟨_, rfl⟩
 case h01 => exact ⟨Nat.zero_le _, h⟩
 case round1 =>
  intro x hJ ih
  try dsimp only at hJ ih
  obtain ⟨i, cs, u⟩ := x
  try dsimp only at hJ ih
  obtain ⟨hi, hJ2⟩ := hJ
  show G _ _ [(0, .pointer (some ⟨d, 0, none⟩)), (1, sv o1 p1 acs.length q1), (4, .int .i64 (i : Int))] [(some d, .cells #[.slice (some ⟨lb, 0, none⟩) n lcap, u.v (runK k (acs.take i)).W.length, .int .i64 (runK k (acs.take i)).fuse, .bool (runK k (acs.take i)).dead] 147 (0, 0)), (some lb, .cells cs 9 (0, 0)), (u.ob, .cells u.cs 151 u.fz)] _
  refine G_seq ?_
  refine G_seq ?_
  refine G_region (l := [0, 1, 2, 3]) rfl ?_
  refine G_val rfl rfl rfl rfl (V_move rfl rfl) ?_
  refine G_val rfl rfl rfl rfl (V_move rfl rfl) ?_
  refine G_val rfl rfl rfl rfl (V_len rfl rfl Try.underlying49 rfl) ?_
  refine G_val rfl rfl rfl rfl (V_lss rfl rfl rfl) ?_
  refine G_done ?_
  refine G_ifD rfl (fun hc1 => ?_) (fun hc1 => ?_)
  · skip
    refine G_skip ?_
    refine G_seq ?_
    refine G_block ?_
    refine G_seq ?_
    obtain ⟨a, ha⟩ := getI (show i < acs.length by omega)
    obtain ⟨b1, rfl⟩ := hs.isSome (by omega)
    have hao := hok a (List.mem_of_getElem? ha)
    have hw := runK_W k acs i
    refine G_region (l := [0, 1, 2, 3, 4]) rfl ?_
    refine G_val rfl rfl rfl rfl (V_move rfl rfl) ?_
    refine G_val rfl rfl rfl rfl (V_move rfl rfl) ?_
    first
      | refine G_val rfl rfl rfl rfl (V_indexAddrN (s := 5) rfl Try.underlying49 infDiskM_67 rfl rfl rfl rfl (by omega)) ?_
      | refine G_val rfl rfl rfl rfl (V_indexAddr (s := 5) rfl Try.underlying49 infDiskM_67 rfl rfl rfl (by omega) (by first | omega | (simp [wCells, kCells, wCells, kCells, wCells, kCells, wCells, kCells, wCells, kCells, acCells]; done) | (simp [wCells, kCells, wCells, kCells, wCells, kCells, wCells, kCells, wCells, kCells, acCells]; omega) | (simp [wCells, kCells, wCells, kCells, wCells, kCells, wCells, kCells, wCells, kCells, acCells] at *; omega))) ?_
    refine G_val rfl rfl rfl rfl (V_fieldAddr (fo := _) rfl Try.underlying67 rfl infDiskM_3 rfl rfl rfl) ?_
    refine G_val rfl rfl rfl rfl (V_load1 rfl rfl (mem_at 0 rfl) (nth_of (cell_at hs ac_len ha 0 (by omega) rfl)) Try.underlying3 rfl) ?_
    refine G_done ?_
    refine G_block ?_
    refine G_seq ?_
    rcases kind3 a.kind with hk | hk | hk
    · skip
      refine G_region (l := [0, 1]) rfl ?_
      refine G_val rfl rfl rfl rfl (V_eql rfl rfl rfl) ?_
      refine G_val rfl rfl rfl rfl (V_assign rfl rfl) ?_
      refine G_done ?_
      refine G_ifD rfl (fun hc2 => ?_) (fun hc2 => ?_)
      rotate_left
      · (first | (exact absurd rfl hc2) | (exfalso; omega))
      refine GH_start (Lq := []) (isq := []) (m := 12) mixedK rfl rfl ?_
      refine GH_take 0 rfl rfl rfl rfl (by kernel_rfl) (by kernel_rfl) (by kernel_rfl) (fun _ _ => (V_move rfl rfl)) ?_
      refine GH_take 1 rfl rfl rfl rfl (by kernel_rfl) (by kernel_rfl) (by kernel_rfl) (fun _ _ => (V_move rfl rfl)) ?_
      refine GH_take 2 rfl rfl rfl rfl (by kernel_rfl) (by kernel_rfl) (by kernel_rfl) (fun _ _ => (V_move rfl rfl)) ?_
      first
        | refine GH_take 3 rfl rfl rfl rfl (by kernel_rfl) (by kernel_rfl) (by kernel_rfl) (fun _ _ => (V_indexAddrN (s := 5) rfl Try.underlying49 infDiskM_67 rfl rfl rfl rfl (by omega))) ?_
        | refine GH_take 3 rfl rfl rfl rfl (by kernel_rfl) (by kernel_rfl) (by kernel_rfl) (fun _ _ => (V_indexAddr (s := 5) rfl Try.underlying49 infDiskM_67 rfl rfl rfl (by omega) (by first | omega | (simp [wCells, kCells, wCells, kCells, wCells, kCells, wCells, kCells, wCells, kCells, acCells]; done) | (simp [wCells, kCells, wCells, kCells, wCells, kCells, wCells, kCells, wCells, kCells, acCells]; omega) | (simp [wCells, kCells, wCells, kCells, wCells, kCells, wCells, kCells, wCells, kCells, acCells] at *; omega)))) ?_
      refine GH_take 4 rfl rfl rfl rfl (by kernel_rfl) (by kernel_rfl) (by kernel_rfl) (fun _ _ => (V_fieldAddr (fo := _ + 1) rfl Try.underlying67 rfl infDiskM_3 rfl rfl rfl)) ?_
      refine GH_take 5 rfl rfl rfl rfl (by kernel_rfl) (by kernel_rfl) (by kernel_rfl) (fun _ _ => (V_load1 rfl rfl (mem_at 0 rfl) (nth_of (cell_at hs ac_len ha 1 (by omega) rfl)) Try.underlying3 rfl)) ?_
      refine GH_take 6 rfl rfl rfl rfl (by kernel_rfl) (by kernel_rfl) (by kernel_rfl) (fun _ _ => (V_move rfl rfl)) ?_
      refine GH_take 7 rfl rfl rfl rfl (by kernel_rfl) (by kernel_rfl) (by kernel_rfl) (fun _ _ => (V_move rfl rfl)) ?_
      first
        | refine GH_take 8 rfl rfl rfl rfl (by kernel_rfl) (by kernel_rfl) (by kernel_rfl) (fun _ _ => (V_indexAddrN (s := 5) rfl Try.underlying49 infDiskM_67 rfl rfl rfl rfl (by omega))) ?_
        | refine GH_take 8 rfl rfl rfl rfl (by kernel_rfl) (by kernel_rfl) (by kernel_rfl) (fun _ _ => (V_indexAddr (s := 5) rfl Try.underlying49 infDiskM_67 rfl rfl rfl (by omega) (by first | omega | (simp [wCells, kCells, wCells, kCells, wCells, kCells, wCells, kCells, wCells, kCells, acCells]; done) | (simp [wCells, kCells, wCells, kCells, wCells, kCells, wCells, kCells, wCells, kCells, acCells]; omega) | (simp [wCells, kCells, wCells, kCells, wCells, kCells, wCells, kCells, wCells, kCells, acCells] at *; omega)))) ?_
      refine GH_take 9 rfl rfl rfl rfl (by kernel_rfl) (by kernel_rfl) (by kernel_rfl) (fun _ _ => (V_loadA (s := 5) (vs := (acCells a).toArray) rfl rfl (mem_at 0 rfl) Try.underlying67 rfl infDiskM_67 rfl (hs.elem ac_len ha) (by first | rfl | (simp [bcells_length, wCells, kCells, wCells, kCells, wCells, kCells, wCells, kCells, wCells, kCells, acCells]; done) | (simp [bcells_length, wCells, kCells, wCells, kCells, wCells, kCells, wCells, kCells, wCells, kCells, acCells]; omega) | (simp [bcells_length, *, wCells, kCells, wCells, kCells, wCells, kCells, wCells, kCells, wCells, kCells, acCells]; done)))) ?_
      refine GH_all [10] (by kernel_rfl) (by decide) ?_
      refine (And.intro ?_ trivial)
      · skip
        refine GHop_call (L2 := [_, _, _]) rfl rfl rfl rfl rfl rfl Try.call44 (dl_text a hao) [] [] rfl rfl [] (by rintro v post ⟨rfl, rfl⟩; exact ⟨_, rfl⟩) ?_
        rintro v post ⟨rfl, rfl⟩
        show GH _ _ _ _ _ _ _ [_, _, _] _
        refine GH_all [11] (by kernel_rfl) (by decide) ?_
        refine (And.intro ?_ trivial)
        · skip
          refine GHop_call (L2 := []) rfl rfl rfl rfl rfl rfl Try.call43 (dk_write d n lb lcap cs u (runK k (acs.take i)) hJ2 a.at_ (textA a.c a.n) (by omega)) [0, 0, 0] [] rfl rfl [] (by rintro v post ⟨rfl, lcs1, uw1, h1, rfl⟩; exact ⟨_, rfl⟩) ?_
          rintro v post ⟨rfl, lcs1, uw1, h1, rfl⟩
          show GH _ _ _ _ _ _ _ [_, _, _] _
          refine GH_done (by kernel_rfl) ?_
          refine G_inBlock ?_
          refine G_inBlock ?_
          refine G_region (l := [0, 1, 2]) rfl ?_
          refine G_val rfl rfl rfl rfl (V_move rfl rfl) ?_
          first
            | refine G_val rfl rfl rfl rfl ((V_add rfl rfl rfl).int (wrap_i64 (by omega))) ?_
            | refine G_val rfl rfl rfl rfl (V_add rfl rfl rfl) ?_
          refine G_val rfl rfl rfl rfl (V_assign rfl rfl) ?_
          refine G_done ?_
          refine G_sub ?_ [0, 0, 0] ?_ (ih (i + 1, lcs1, uw1) ?_ ?_)
          · (refine (And.intro ?_ (And.intro ?_ (And.intro ?_ trivial))) <;> first | rfl | exact slot_int (by omega) | exact slot_int (by simp))
          · (first | (rw [runK_next ha, runA_w hk]; exact ⟨_, rfl⟩) | (rw [runK_next ha, runA_s hk]; exact ⟨_, rfl⟩) | (rw [runK_next ha, runA_n hk]; exact ⟨_, rfl⟩))
          · (first | exact ⟨by omega, by rw [runK_next ha, runA_w hk]; exact h1⟩ | exact ⟨by omega, by rw [runK_next ha, runA_s hk]; exact h1⟩ | exact ⟨by omega, by rw [runK_next ha, runA_n hk]; exact hJ2⟩)
          · (first | omega | (dsimp only; omega))
    · skip
      refine G_region (l := [0, 1]) rfl ?_
      refine G_val rfl rfl rfl rfl (V_eql rfl rfl rfl) ?_
      refine G_val rfl rfl rfl rfl (V_assign rfl rfl) ?_
      refine G_done ?_
      refine G_ifD rfl (fun hc2 => ?_) (fun hc2 => ?_)
      · (first | (exact absurd rfl hc2) | (exfalso; omega))
      refine G_seq ?_
      refine G_region (l := [0, 1]) rfl ?_
      refine G_val rfl rfl rfl rfl (V_eql rfl rfl rfl) ?_
      refine G_val rfl rfl rfl rfl (V_assign rfl rfl) ?_
      refine G_done ?_
      refine G_ifD rfl (fun hc3 => ?_) (fun hc3 => ?_)
      rotate_left
      · (first | (exact absurd rfl hc3) | (exfalso; omega))
      refine G_region (l := [0, 1]) rfl ?_
      refine G_val rfl rfl rfl rfl (V_move rfl rfl) ?_
      refine G_call (L2 := []) rfl rfl rfl rfl rfl rfl Try.call37 (dk_sync d n lb lcap cs u (runK k (acs.take i)) hJ2) [0, 0, 0] [] rfl rfl ?_
      rintro v post ⟨rfl, lcs1, uw1, h1, rfl⟩
      show G _ _ _ [_, _, _] _
      refine G_done ?_
      refine G_inBlock ?_
      refine G_inBlock ?_
      refine G_region (l := [0, 1, 2]) rfl ?_
      refine G_val rfl rfl rfl rfl (V_move rfl rfl) ?_
      first
        | refine G_val rfl rfl rfl rfl ((V_add rfl rfl rfl).int (wrap_i64 (by omega))) ?_
        | refine G_val rfl rfl rfl rfl (V_add rfl rfl rfl) ?_
      refine G_val rfl rfl rfl rfl (V_assign rfl rfl) ?_
      refine G_done ?_
      refine G_sub ?_ [0, 0, 0] ?_ (ih (i + 1, lcs1, uw1) ?_ ?_)
      · (refine (And.intro ?_ (And.intro ?_ (And.intro ?_ trivial))) <;> first | rfl | exact slot_int (by omega) | exact slot_int (by simp))
      · (first | (rw [runK_next ha, runA_w hk]; exact ⟨_, rfl⟩) | (rw [runK_next ha, runA_s hk]; exact ⟨_, rfl⟩) | (rw [runK_next ha, runA_n hk]; exact ⟨_, rfl⟩))
      · (first | exact ⟨by omega, by rw [runK_next ha, runA_w hk]; exact h1⟩ | exact ⟨by omega, by rw [runK_next ha, runA_s hk]; exact h1⟩ | exact ⟨by omega, by rw [runK_next ha, runA_n hk]; exact hJ2⟩)
      · (first | omega | (dsimp only; omega))
    · skip
      refine G_region (l := [0, 1]) rfl ?_
      refine G_val rfl rfl rfl rfl (V_eql rfl rfl rfl) ?_
      refine G_val rfl rfl rfl rfl (V_assign rfl rfl) ?_
      refine G_done ?_
      refine G_ifD rfl (fun hc2 => ?_) (fun hc2 => ?_)
      · (first | (exact absurd rfl hc2) | (exfalso; omega))
      refine G_seq ?_
      refine G_region (l := [0, 1]) rfl ?_
      refine G_val rfl rfl rfl rfl (V_eql rfl rfl rfl) ?_
      refine G_val rfl rfl rfl rfl (V_assign rfl rfl) ?_
      refine G_done ?_
      refine G_ifD rfl (fun hc3 => ?_) (fun hc3 => ?_)
      · (first | (exact absurd rfl hc3) | (exfalso; omega))
      refine G_skip ?_
      refine G_inBlock ?_
      refine G_inBlock ?_
      refine G_region (l := [0, 1, 2]) rfl ?_
      refine G_val rfl rfl rfl rfl (V_move rfl rfl) ?_
      first
        | refine G_val rfl rfl rfl rfl ((V_add rfl rfl rfl).int (wrap_i64 (by omega))) ?_
        | refine G_val rfl rfl rfl rfl (V_add rfl rfl rfl) ?_
      refine G_val rfl rfl rfl rfl (V_assign rfl rfl) ?_
      refine G_done ?_
      refine G_sub ?_ [0, 0, 0] ?_ (ih (i + 1, cs, u) ?_ ?_)
      · (refine (And.intro ?_ (And.intro ?_ (And.intro ?_ trivial))) <;> first | rfl | exact slot_int (by omega) | exact slot_int (by simp))
      · (first | (rw [runK_next ha, runA_w hk]; exact ⟨_, rfl⟩) | (rw [runK_next ha, runA_s hk]; exact ⟨_, rfl⟩) | (rw [runK_next ha, runA_n hk]; exact ⟨_, rfl⟩))
      · (first | exact ⟨by omega, by rw [runK_next ha, runA_w hk]; exact h1⟩ | exact ⟨by omega, by rw [runK_next ha, runA_s hk]; exact h1⟩ | exact ⟨by omega, by rw [runK_next ha, runA_n hk]; exact hJ2⟩)
      · (first | omega | (dsimp only; omega))
  refine G_exit rfl ?_
  refine G_end (post := [_, _, _]) Try.func33 rfl RVs_nil [0, 0, 0] rfl ?_
  dsimp only [packed]
  rw [List.take_of_length_le (by omega)] at hJ2 ⊢; exact ⟨rfl, cs, u, hJ2, rfl⟩

set_option maxRecDepth 100000 in
set_option maxHeartbeats 1000000 in
theorem dl_read (d n lb lcap : Nat) (lcs : Array Value) (uw : Sl) (k : Dk) (h : DkAt k n lb lcs lcap uw) (m : Nat) (hm : m ≤ 1000) (hr : ∀ i : Nat, i < m → k.readE (i : Int) = 0) :
    Ct Try.prog 34 [.pointer (some ⟨d, 0, none⟩), .int .i64 (m : Int)] [(some d, .cells #[.slice (some ⟨lb, 0, none⟩) n lcap, uw.v k.W.length, .int .i64 k.fuse, .bool k.dead] 147 (0, 0)), (some lb, .cells lcs 9 (0, 0)), (uw.ob, .cells uw.cs 151 uw.fz)] [] fun v post => ∃ u : Sl, Own 1 u ((readAll k m).map strC) m ∧ v = .tuple #[u.v m, .bool true] ∧ post = [(u.ob, .cells u.cs 9 u.fz)] := by
 refine ct_of Try.func34 rfl rfl (fun w0 => ?_)
 show G _ _ [(0, _), (1, _)] _ _
 refine G_seq ?_
 refine G_region (l := [0, 1]) rfl ?_
 refine G_val rfl rfl rfl rfl (V_assign rfl rfl) ?_
 refine G_val rfl rfl rfl rfl (V_assign rfl rfl) ?_
 refine G_done ?_
 refine G_seq ?_
 refine G_region (l := [0, 1]) rfl ?_
 refine G_new rfl rfl rfl rfl (N_build0 rfl Try.underlying56 infDiskM_9) (fun b10 => ?_)
 refine G_val rfl rfl rfl rfl (V_assign rfl rfl) ?_
 refine G_done ?_
 refine G_seq ?_
 refine G_seq ?_
 refine G_region (l := [0]) rfl ?_
 refine G_val rfl rfl rfl rfl (V_assign rfl rfl) ?_
 refine G_done ?_
 refine G_block ?_
 refine G_sub ?he3 [0] ?hl3 (G_loop (X := Nat × Sl) (fun x => match x with | ⟨i, u⟩ => i ≤ m ∧ Own 1 u ((readAll k i).map strC) i) (fun x => match x with | ⟨i, u⟩ => m - i) (fun x => match x with | ⟨i, u⟩ => [(0, .pointer (some ⟨d, 0, none⟩)), (1, .int .i64 (m : Int)), (6, u.v i), (7, .int .i64 (i : Int))]) (fun x => match x with | ⟨i, u⟩ => [(u.ob, .cells u.cs 9 u.fz)]) ?round3 (0, ⟨some b10, #[], (0, 0), 0⟩) ?h03)
 case he3 => exact (And.intro rfl (And.intro rfl (And.intro rfl (And.intro rfl trivial))))
 case hl3 => exact ⟨_, rfl⟩
 case h03 => exact ⟨Nat.zero_le _, own_empty 1 b10⟩
 case round3 =>
  intro x hJ ih
  try dsimp only at hJ ih
  obtain ⟨i, u⟩ := x
  try dsimp only at hJ ih
  obtain ⟨hi, hux⟩ := hJ
  show G _ _ [(0, .pointer (some ⟨d, 0, none⟩)), (1, .int .i64 (m : Int)), (6, u.v i), (7, .int .i64 (i : Int))] [(u.ob, .cells u.cs 9 u.fz)] _
  refine G_seq ?_
  refine G_seq ?_
  refine G_region (l := [0, 1, 2]) rfl ?_
  refine G_val rfl rfl rfl rfl (V_move rfl rfl) ?_
  refine G_val rfl rfl rfl rfl (V_move rfl rfl) ?_
  refine G_val rfl rfl rfl rfl (V_lss rfl rfl rfl) ?_
  refine G_done ?_
  refine G_ifD rfl (fun hc1 => ?_) (fun hc1 => ?_)
  · skip
    refine G_skip ?_
    refine G_seq ?_
    refine G_block ?_
    refine G_seq ?_
    refine G_region (l := [0, 1, 2, 3, 4, 5, 6, 7]) rfl ?_
    refine G_val rfl rfl rfl rfl (V_move rfl rfl) ?_
    refine G_val rfl rfl rfl rfl (V_move rfl rfl) ?_
    refine G_call (L2 := [_]) rfl rfl rfl rfl rfl rfl Try.call40 ((dk_read d n lb lcap lcs uw k h (i : Int)).weaken (fun v post h => by rw [hr i (by omega)] at h; exact h)) [] [0, 1, 2] rfl rfl ?_
    rintro v post ⟨rfl, rfl⟩
    show G _ _ _ [_] _
    refine G_val rfl rfl rfl rfl (V_move rfl rfl) ?_
    refine G_val rfl rfl rfl rfl (V_extract rfl rfl rfl) ?_
    refine G_val rfl rfl rfl rfl (V_extract rfl rfl rfl) ?_
    refine G_val rfl rfl rfl rfl (V_assign rfl rfl) ?_
    refine G_val rfl rfl rfl rfl (V_assign rfl rfl) ?_
    refine G_done ?_
    refine G_seq ?_
    refine G_seq ?_
    refine G_region (l := [0, 1, 2]) rfl ?_
    refine G_val rfl rfl rfl rfl (V_move rfl rfl) ?_
    refine G_call (L2 := [_]) rfl rfl rfl rfl rfl rfl Try.call36 (dl_num _) [] [] rfl rfl ?_
    rintro v post ⟨rfl, rfl⟩
    show G _ _ _ [_] _
    refine G_val rfl rfl rfl rfl (V_neq rfl rfl rfl) ?_
    refine G_done ?_
    refine G_ifD rfl (fun hc2 => ?_) (fun hc2 => ?_)
    · (first | (exact absurd rfl hc2) | (exfalso; omega))
    refine G_skip ?_
    refine G_region (l := [0, 1, 2, 3, 4]) rfl ?_
    refine G_val rfl rfl rfl rfl (V_move rfl rfl) ?_
    refine G_val rfl rfl rfl rfl (V_move rfl rfl) ?_
    refine G_new rfl rfl rfl rfl (N_buildAll (s := 1) (cs := [_]) rfl Try.underlying56 infDiskM_9 rfl rfl rfl rfl rfl rfl rfl rfl rfl) (fun b27 => ?_)
    refine G_append (l1 := [_]) (s := u) (nn := i) (m := 1) (news := [strC (k.readS (i : Int))]) (bt := 16) rfl rfl rfl rfl Try.underlying56 Try.underlying56 (by first | exact .inl rfl | exact .inr ⟨_, rfl⟩) infDiskM_9 rfl rfl rfl rfl rfl rfl hux rfl (src_mem (mem_at 3 rfl) rfl rfl (by simp [strC, Value.oneCell'])) (by omega) (by omega) ?_
    intro u1 hu1 _
    show G _ _ _ [_, _] _
    refine G_val rfl rfl rfl rfl (V_assign rfl rfl) ?_
    refine G_done ?_
    refine G_inBlock ?_
    refine G_region (l := [0, 1, 2]) rfl ?_
    refine G_val rfl rfl rfl rfl (V_move rfl rfl) ?_
    first
      | refine G_val rfl rfl rfl rfl ((V_add rfl rfl rfl).int (wrap_i64 (by omega))) ?_
      | refine G_val rfl rfl rfl rfl (V_add rfl rfl rfl) ?_
    refine G_val rfl rfl rfl rfl (V_assign rfl rfl) ?_
    refine G_done ?_
    refine G_sub ?_ [1] ?_ (ih (i + 1, u1) ?_ ?_)
    · (refine (And.intro ?_ (And.intro ?_ (And.intro ?_ (And.intro ?_ trivial)))) <;> first | rfl | exact slot_int (by omega) | exact slot_int (by simp))
    · exact ⟨_, rfl⟩
    · exact ⟨by omega, by rw [← readAll_next]; exact hu1⟩
    · (first | omega | (dsimp only; omega))
  refine G_exit rfl ?_
  refine G_seq ?_
  refine G_region (l := [0, 1, 2]) rfl ?_
  refine G_val rfl rfl rfl rfl (V_move rfl rfl) ?_
  refine G_val rfl rfl rfl rfl (V_assign rfl rfl) ?_
  refine G_val rfl rfl rfl rfl (V_assign rfl rfl) ?_
  refine G_done ?_
  refine G_ret (post := [_]) Try.func34 rfl (RVs_cons (RV_tmp rfl) (RVs_cons (RV_tmp rfl) RVs_nil)) [0] rfl ?_
  dsimp only [packed]
  obtain rfl : i = m := by omega
  exact ⟨u, hux, rfl, rfl⟩

set_option maxRecDepth 100000 in
set_option maxHeartbeats 1000000 in
theorem dl_lies (d n lb lcap : Nat) (lcs : Array Value) (uw : Sl) (k : Dk) (h : DkAt k n lb lcs lcap uw) (o1 : Option Nat) (p1 q1 : Nat) (c1 : Array Value) (T1 : TypeId) (f1 : Nat × Nat) (ls : List (List UInt8)) (hs : Sees 1 o1 p1 q1 c1 (ls.map strC) ls.length) (hr : ∀ (i : Nat) s, ls[i]? = some s → k.liesS (i : Int) = s ∧ hasE k.L.length (i : Int) = 0 ∧ k.readS (i : Int) = s ∧ k.readE (i : Int) = 0) :
    Ct Try.prog 39 [.pointer (some ⟨d, 0, none⟩), sv o1 p1 ls.length q1] [(some d, .cells #[.slice (some ⟨lb, 0, none⟩) n lcap, uw.v k.W.length, .int .i64 k.fuse, .bool k.dead] 147 (0, 0)), (some lb, .cells lcs 9 (0, 0)), (uw.ob, .cells uw.cs 151 uw.fz), (o1, .cells c1 T1 f1)] [] fun v post => v = .bool true ∧ post = [] := by
 have hk1 := hs.le
 have hk2 := hs.max
 refine ct_of Try.func39 rfl rfl (fun w0 => ?_)
 show G _ _ [(0, _), (1, _)] _ _
 refine G_seq ?_
 refine G_region (l := [0]) rfl ?_
 refine G_val rfl rfl rfl rfl (V_assign rfl rfl) ?_
 refine G_done ?_
 refine G_seq ?_
 refine G_seq ?_
 refine G_region (l := [0]) rfl ?_
 refine G_val rfl rfl rfl rfl (V_assign rfl rfl) ?_
 refine G_done ?_
 refine G_block ?_
 refine G_sub ?he2 [] ?hl2 (G_loop (X := Nat) (fun i => i ≤ ls.length) (fun i => ls.length - i) (fun i => [(0, .pointer (some ⟨d, 0, none⟩)), (1, sv o1 p1 ls.length q1), (5, .int .i64 (i : Int))]) (fun i => []) ?round2 0 ?h02)
 case he2 => exact (And.intro rfl (And.intro rfl (And.intro rfl trivial)))
 case hl2 => exact ⟨_, rfl⟩
 case h02 => exact Nat.zero_le _
 case round2 =>
  intro i hJ ih
  try dsimp only at hJ ih
  refine G_seq ?_
  refine G_seq ?_
  refine G_region (l := [0, 1, 2, 3]) rfl ?_
  refine G_val rfl rfl rfl rfl (V_move rfl rfl) ?_
  refine G_val rfl rfl rfl rfl (V_move rfl rfl) ?_
  refine G_val rfl rfl rfl rfl (V_len rfl rfl Try.underlying56 rfl) ?_
  refine G_val rfl rfl rfl rfl (V_lss rfl rfl rfl) ?_
  refine G_done ?_
  refine G_ifD rfl (fun hc1 => ?_) (fun hc1 => ?_)
  · skip
    refine G_skip ?_
    refine G_seq ?_
    refine G_block ?_
    refine G_seq ?_
    obtain ⟨s, hx⟩ := getI (show i < ls.length by omega)
    obtain ⟨b1, rfl⟩ := hs.isSome (by omega)
    obtain ⟨r1, r2, r3, r4⟩ := hr i s hx
    refine G_region (l := [0, 1, 2, 3, 4, 5, 6, 7]) rfl ?_
    refine G_val rfl rfl rfl rfl (V_move rfl rfl) ?_
    refine G_val rfl rfl rfl rfl (V_move rfl rfl) ?_
    refine G_call (L2 := []) rfl rfl rfl rfl rfl rfl Try.call41 ((dk_lies d n lb lcap lcs uw k h (i : Int)).weaken (fun v post h => by rw [r1, r2] at h; exact h)) [] [0, 1] rfl rfl ?_
    rintro v post ⟨rfl, rfl⟩
    refine G_val rfl rfl rfl rfl (V_move rfl rfl) ?_
    refine G_val rfl rfl rfl rfl (V_extract rfl rfl rfl) ?_
    refine G_val rfl rfl rfl rfl (V_extract rfl rfl rfl) ?_
    refine G_val rfl rfl rfl rfl (V_assign rfl rfl) ?_
    refine G_val rfl rfl rfl rfl (V_assign rfl rfl) ?_
    refine G_done ?_
    refine G_seq ?_
    refine G_region (l := [0, 1, 2, 3, 4, 5, 6, 7]) rfl ?_
    refine G_val rfl rfl rfl rfl (V_move rfl rfl) ?_
    refine G_val rfl rfl rfl rfl (V_move rfl rfl) ?_
    refine G_call (L2 := []) rfl rfl rfl rfl rfl rfl Try.call40 ((dk_read d n lb lcap lcs uw k h (i : Int)).weaken (fun v post h => by rw [r3, r4] at h; exact h)) [] [0, 1, 2] rfl rfl ?_
    rintro v post ⟨rfl, rfl⟩
    refine G_val rfl rfl rfl rfl (V_move rfl rfl) ?_
    refine G_val rfl rfl rfl rfl (V_extract rfl rfl rfl) ?_
    refine G_val rfl rfl rfl rfl (V_extract rfl rfl rfl) ?_
    refine G_val rfl rfl rfl rfl (V_assign rfl rfl) ?_
    refine G_val rfl rfl rfl rfl (V_assign rfl rfl) ?_
    refine G_done ?_
    refine G_seq ?_
    refine G_region (l := [0, 1, 2, 3, 4, 5, 6, 7, 8, 9, 10, 11, 12, 13, 14, 15, 16, 17, 18, 19, 20, 21, 22, 23]) rfl ?_
    refine G_val rfl rfl rfl rfl (V_move rfl rfl) ?_
    refine G_val rfl rfl rfl rfl (V_move rfl rfl) ?_
    refine G_val rfl rfl rfl rfl (V_move rfl rfl) ?_
    first
      | refine G_val rfl rfl rfl rfl (V_indexAddrN (s := 1) rfl Try.underlying56 infDiskM_9 rfl rfl rfl rfl (by omega)) ?_
      | refine G_val rfl rfl rfl rfl (V_indexAddr (s := 1) rfl Try.underlying56 infDiskM_9 rfl rfl rfl (by omega) (by first | omega | (simp [wCells, kCells, wCells, kCells, wCells, kCells, wCells, kCells, wCells, kCells, acCells]; done) | (simp [wCells, kCells, wCells, kCells, wCells, kCells, wCells, kCells, wCells, kCells, acCells]; omega) | (simp [wCells, kCells, wCells, kCells, wCells, kCells, wCells, kCells, wCells, kCells, acCells] at *; omega))) ?_
    refine G_val rfl rfl rfl rfl (V_load1 rfl rfl (mem_at 3 rfl) (nth_of (hs.cell hx)) Try.underlying9 rfl) ?_
    refine G_val rfl rfl rfl rfl (V_sneq rfl rfl rfl) ?_
    refine G_val rfl rfl rfl rfl (V_move rfl rfl) ?_
    refine G_splitD 34 rfl (fun hc2 => ?_) (fun hc2 => ?_)
    · (first | (exact absurd rfl hc2) | (exfalso; omega))
    refine G_val rfl rfl rfl rfl (V_move rfl rfl) ?_
    refine G_call (L2 := []) rfl rfl rfl rfl rfl rfl Try.call36 (dl_num _) [] [] rfl rfl ?_
    rintro v post ⟨rfl, rfl⟩
    refine G_val rfl rfl rfl rfl (V_neq rfl rfl rfl) ?_
    refine G_val rfl rfl rfl rfl (V_pickF rfl rfl rfl) ?_
    refine G_val rfl rfl rfl rfl (V_move rfl rfl) ?_
    refine G_splitD 39 rfl (fun hc3 => ?_) (fun hc3 => ?_)
    · (first | (exact absurd rfl hc3) | (exfalso; omega))
    refine G_val rfl rfl rfl rfl (V_move rfl rfl) ?_
    refine G_val rfl rfl rfl rfl (V_move rfl rfl) ?_
    refine G_val rfl rfl rfl rfl (V_move rfl rfl) ?_
    first
      | refine G_val rfl rfl rfl rfl (V_indexAddrN (s := 1) rfl Try.underlying56 infDiskM_9 rfl rfl rfl rfl (by omega)) ?_
      | refine G_val rfl rfl rfl rfl (V_indexAddr (s := 1) rfl Try.underlying56 infDiskM_9 rfl rfl rfl (by omega) (by first | omega | (simp [wCells, kCells, wCells, kCells, wCells, kCells, wCells, kCells, wCells, kCells, acCells]; done) | (simp [wCells, kCells, wCells, kCells, wCells, kCells, wCells, kCells, wCells, kCells, acCells]; omega) | (simp [wCells, kCells, wCells, kCells, wCells, kCells, wCells, kCells, wCells, kCells, acCells] at *; omega))) ?_
    refine G_val rfl rfl rfl rfl (V_load1 rfl rfl (mem_at 3 rfl) (nth_of (hs.cell hx)) Try.underlying9 rfl) ?_
    refine G_val rfl rfl rfl rfl (V_sneq rfl rfl rfl) ?_
    refine G_val rfl rfl rfl rfl (V_pickF rfl rfl rfl) ?_
    refine G_val rfl rfl rfl rfl (V_move rfl rfl) ?_
    refine G_splitD 47 rfl (fun hc4 => ?_) (fun hc4 => ?_)
    · (first | (exact absurd rfl hc4) | (exfalso; omega))
    refine G_val rfl rfl rfl rfl (V_move rfl rfl) ?_
    refine G_call (L2 := []) rfl rfl rfl rfl rfl rfl Try.call36 (dl_num _) [] [] rfl rfl ?_
    rintro v post ⟨rfl, rfl⟩
    refine G_val rfl rfl rfl rfl (V_neq rfl rfl rfl) ?_
    refine G_val rfl rfl rfl rfl (V_pickF rfl rfl rfl) ?_
    refine G_done ?_
    refine G_ifD rfl (fun hc5 => ?_) (fun hc5 => ?_)
    · (first | (exact absurd rfl hc5) | (exfalso; omega))
    refine G_skip ?_
    refine G_inBlock ?_
    refine G_region (l := [0, 1, 2]) rfl ?_
    refine G_val rfl rfl rfl rfl (V_move rfl rfl) ?_
    first
      | refine G_val rfl rfl rfl rfl ((V_add rfl rfl rfl).int (wrap_i64 (by omega))) ?_
      | refine G_val rfl rfl rfl rfl (V_add rfl rfl rfl) ?_
    refine G_val rfl rfl rfl rfl (V_assign rfl rfl) ?_
    refine G_done ?_
    refine G_sub ?_ [] ?_ (ih (i + 1) ?_ ?_)
    · (refine (And.intro ?_ (And.intro ?_ (And.intro ?_ trivial))) <;> first | rfl | exact slot_int (by omega) | exact slot_int (by simp))
    · exact ⟨_, rfl⟩
    · omega
    · (first | omega | (dsimp only; omega))
  refine G_exit rfl ?_
  refine G_seq ?_
  refine G_region (l := [0]) rfl ?_
  refine G_val rfl rfl rfl rfl (V_assign rfl rfl) ?_
  refine G_done ?_
  refine G_ret (post := []) Try.func39 rfl (RVs_cons (RV_tmp rfl) RVs_nil) [] rfl ?_
  dsimp only [packed]
  exact ⟨rfl, rfl⟩

end
end Go.Proofs.Ytkidmbaakdaflaa
