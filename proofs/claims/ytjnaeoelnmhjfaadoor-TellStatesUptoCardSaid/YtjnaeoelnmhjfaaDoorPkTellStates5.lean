/- What the law TellStates needs, part 5. -/
import Derived.Test.YtjnaeoelnmhjfaaDoorPkTellStates1
import Derived.Test.YtjnaeoelnmhjfaaDoorPkTellStates2
import Derived.Test.YtjnaeoelnmhjfaaDoorPkTellStates3
import Derived.Test.YtjnaeoelnmhjfaaDoorPkTellStates4


/- The walks of layer 45: strings.Join, and replies as lines. -/
set_option linter.unusedSimpArgs false
set_option linter.unusedVariables false
namespace Go.Proofs.YtjnaeoelnmhjfaaDoor
open Go Go.RowKit

section
theorem infTellJ_3 : Tryd.prog.info? 3 = some Tryd.t3 := by kernel_rfl
theorem infTellJ_9 : Tryd.prog.info? 9 = some Tryd.t9 := by kernel_rfl
theorem infTellJ_38 : Tryd.prog.info? 38 = some Tryd.t38 := by kernel_rfl
theorem infTellJ_50 : Tryd.prog.info? 50 = some Tryd.t50 := by kernel_rfl
theorem infTellJ_53 : Tryd.prog.info? 53 = some Tryd.t53 := by kernel_rfl
theorem infTellJ_57 : Tryd.prog.info? 57 = some Tryd.t57 := by kernel_rfl
theorem infTellJ_93 : Tryd.prog.info? 93 = some Tryd.t93 := by kernel_rfl
theorem infTellJ_99 : Tryd.prog.info? 99 = some Tryd.t99 := by kernel_rfl


def joinT (s : UInt8) : List (List UInt8) → List UInt8
  | [] => []
  | x :: xs => x ++ xs.flatMap (fun y => [s] ++ y)
def sumL (ls : List (List UInt8)) : Nat := (ls.map List.length).sum
theorem sumL_next {ls : List (List UInt8)} {i : Nat} {x : List UInt8} (h : ls[i]? = some x) : sumL (ls.take (i + 1)) = sumL (ls.take i) + x.length := by
  obtain ⟨hi, rfl⟩ := List.getElem?_eq_some_iff.1 h
  unfold sumL
  rw [List.take_succ_eq_append_getElem hi, List.map_append, List.sum_append]; simp
theorem sumL_take (ls : List (List UInt8)) (i : Nat) : sumL (ls.take i) ≤ sumL ls := by
  have h : sumL ls = sumL (ls.take i) + sumL (ls.drop i) := by
    unfold sumL
    rw [← List.sum_append, ← List.map_append, List.take_append_drop]
  omega
theorem sumL_mem : ∀ {ls : List (List UInt8)} {x : List UInt8}, x ∈ ls → x.length ≤ sumL ls
  | y :: l, x, h => by
    unfold sumL
    simp only [List.map_cons, List.sum_cons]
    rcases List.mem_cons.1 h with rfl | h
    · omega
    · have := sumL_mem h; unfold sumL at this; omega
theorem flatJ_len (s : UInt8) : ∀ l : List (List UInt8), (l.flatMap (fun y => [s] ++ y)).length = (l.map List.length).sum + l.length
  | [] => rfl
  | y :: l => by have := flatJ_len s l; simp only [List.flatMap_cons, List.length_append, List.length_cons, List.length_nil, List.map_cons, List.sum_cons] at this ⊢; omega
def joinI (s : UInt8) (ls : List (List UInt8)) (i : Nat) : List UInt8 := (ls.getD 0 []) ++ ((ls.drop 1).take i).flatMap (fun y => [s] ++ y)
theorem joinI_next {s : UInt8} {ls : List (List UInt8)} {i : Nat} {x : List UInt8} (h : ls[i + 1]? = some x) : joinI s ls i ++ [s] ++ x = joinI s ls (i + 1) := by
  obtain ⟨hi, rfl⟩ := List.getElem?_eq_some_iff.1 h
  unfold joinI
  have hd : i < (ls.drop 1).length := by simp; omega
  rw [List.take_succ_eq_append_getElem hd, List.flatMap_append]
  simp
theorem joinI_end {s : UInt8} {ls : List (List UInt8)} {i : Nat} (h : ls.length ≤ i + 1) (h0 : 0 < ls.length) : joinI s ls i = joinT s ls := by
  match ls, h0 with
  | x :: xs, _ =>
    unfold joinI joinT
    rw [List.take_of_length_le (by simp; simp at h; omega)]; simp
theorem joinI_len {s : UInt8} {ls : List (List UInt8)} {i : Nat} (h : i + 1 ≤ ls.length) : (joinI s ls i).length ≤ sumL ls + ls.length := by
  match ls, h with
  | x :: xs, h =>
    unfold joinI sumL
    have k2 := sumL_take xs i
    unfold sumL at k2
    simp only [List.getD_cons_zero, List.length_append, List.drop_succ_cons, List.drop_zero, flatJ_len, List.map_cons, List.sum_cons, List.length_cons, List.length_take]
    omega

set_option maxRecDepth 100000 in
set_option maxHeartbeats 2000000 in
theorem st_join (o1 : Option Nat) (p1 q1 : Nat) (c1 : Array Value) (T1 : TypeId) (f1 : Nat × Nat) (ls : List (List UInt8)) (h1 : Sees 1 o1 p1 q1 c1 (ls.map strC) ls.length) (s : UInt8) (hn : ls.length ≤ 100) (hs : sumL ls ≤ 20000000) :
    Ct Tryd.prog 37 [sv o1 p1 ls.length q1, .string (bs [s])] [(o1, .cells c1 T1 f1)] [] fun v post => v = .string (bs (joinT s ls)) ∧ post = [] := by
 have hl1 := h1.le
 have hl2 := h1.max
 have hs1 : [s].length = 1 := rfl
 refine ct_of Tryd.func37 rfl rfl (fun w0 => ?_)
 show G _ _ [(0, _), (1, _)] _ _
 refine G_seq ?_
 refine G_region (l := [0]) rfl ?_
 refine G_val rfl rfl rfl rfl (V_assign rfl rfl) ?_
 refine G_done ?_
 refine G_seq ?_
 refine G_seq ?_
 refine G_region (l := [0, 1]) rfl ?_
 refine G_val rfl rfl rfl rfl (V_move rfl rfl) ?_
 refine G_val rfl rfl rfl rfl (V_len rfl rfl Tryd.underlying53 rfl) ?_
 refine G_done ?_
 refine G_block ?_
 refine G_seq ?_
 refine G_region (l := [0, 1]) rfl ?_
 refine G_val rfl rfl rfl rfl (V_eql rfl rfl rfl) ?_
 refine G_val rfl rfl rfl rfl (V_assign rfl rfl) ?_
 refine G_done ?_
 refine G_ifD rfl (fun hc1 => ?_) (fun hc1 => ?_)
 · skip
   refine G_seq ?_
   refine G_region (l := [0]) rfl ?_
   refine G_val rfl rfl rfl rfl (V_assign rfl rfl) ?_
   refine G_done ?_
   refine G_ret (post := []) Tryd.func37 rfl (RVs_cons (RV_tmp rfl) RVs_nil) [] rfl ?_
   dsimp only [packed]
   first
     | exact ⟨rfl, rfl⟩
     | (obtain rfl : ls = [] := List.length_eq_zero_iff.1 (by omega)
        exact ⟨rfl, rfl⟩)
     | (match ls, (by omega : ls.length = 1), hx with
        | [y], _, hx => obtain rfl : y = x := by simpa using hx
                        exact ⟨str_eq (by simp [joinT]), rfl⟩)
 refine G_seq ?_
 refine G_region (l := [0, 1]) rfl ?_
 refine G_val rfl rfl rfl rfl (V_eql rfl rfl rfl) ?_
 refine G_val rfl rfl rfl rfl (V_assign rfl rfl) ?_
 refine G_done ?_
 refine G_ifD rfl (fun hc2 => ?_) (fun hc2 => ?_)
 · skip
   refine G_seq ?_
   obtain ⟨b1, rfl⟩ := h1.isSome (by omega)
   obtain ⟨x, hx⟩ := getI (show 0 < ls.length by omega)
   refine G_region (l := [0, 1, 2, 3]) rfl ?_
   refine G_val rfl rfl rfl rfl (V_move rfl rfl) ?_
   first
     | refine G_val rfl rfl rfl rfl (V_indexAddrN (s := 1) rfl Tryd.underlying53 infTellJ_9 rfl rfl rfl rfl (by omega)) ?_
     | refine G_val rfl rfl rfl rfl (V_indexAddr (s := 1) rfl Tryd.underlying53 infTellJ_9 rfl rfl rfl (by omega) (by first | omega | (simp [rqCells]; done) | (simp [rqCells]; omega) | (simp [rqCells] at *; omega))) ?_
   refine G_val rfl rfl rfl rfl (V_load1 rfl rfl (mem_at 0 rfl) (nth_of (show c1[p1 + 0 * 1]? = some (strC x) from h1.at (by simp [hx]))) Tryd.underlying9 rfl) ?_
   refine G_val rfl rfl rfl rfl (V_assign rfl rfl) ?_
   refine G_done ?_
   refine G_ret (post := []) Tryd.func37 rfl (RVs_cons (RV_tmp rfl) RVs_nil) [] rfl ?_
   dsimp only [packed]
   first
     | exact ⟨rfl, rfl⟩
     | (obtain rfl : ls = [] := List.length_eq_zero_iff.1 (by omega)
        exact ⟨rfl, rfl⟩)
     | (match ls, (by omega : ls.length = 1), hx with
        | [y], _, hx => obtain rfl : y = x := by simpa using hx
                        exact ⟨str_eq (by simp [joinT]), rfl⟩)
 refine G_skip ?_
 refine G_inBlock ?_
 refine G_seq ?_
 refine G_region (l := [0]) rfl ?_
 refine G_val rfl rfl rfl rfl (V_assign rfl rfl) ?_
 refine G_done ?_
 refine G_seq ?_
 refine G_seq ?_
 refine G_region (l := [0, 1, 2]) rfl ?_
 refine G_val rfl rfl rfl rfl (V_move rfl rfl) ?_
 refine G_val rfl rfl rfl rfl (V_slen rfl rfl Tryd.underlying9 rfl) ?_
 refine G_val rfl rfl rfl rfl (V_gtr rfl rfl rfl) ?_
 refine G_done ?_
 refine G_ifD rfl (fun hc3 => ?_) (fun hc3 => ?_)
 rotate_left
 · (first | contradiction | (exact absurd rfl hc3) | (exfalso; omega) | (simp at hc3; done) | (exact absurd hc3 (by decide)) | (exact absurd (by decide) hc3))
 refine G_seq ?_
 refine G_seq ?_
 have hq1 : 92233720368547758 ≤ (9223372036854775807 : Int) / ((ls.length : Int) - 1) := Int.le_ediv_of_mul_le (by omega) (by omega)
 have hq2 : (9223372036854775807 : Int) / ((ls.length : Int) - 1) ≤ 9223372036854775807 := Int.ediv_le_self _ (by omega)
 refine G_region (l := [0, 1, 2, 3, 4, 5, 6]) rfl ?_
 refine G_val rfl rfl rfl rfl (V_move rfl rfl) ?_
 refine G_val rfl rfl rfl rfl (V_slen rfl rfl Tryd.underlying9 rfl) ?_
 refine G_val rfl rfl rfl rfl (V_move rfl rfl) ?_
 refine G_val rfl rfl rfl rfl (V_len rfl rfl Tryd.underlying53 rfl) ?_
 first
   | refine G_val rfl rfl rfl rfl ((V_sub rfl rfl rfl).int (wrap_i64 (by omega))) ?_
   | refine G_val rfl rfl rfl rfl (V_sub rfl rfl rfl) ?_
 refine G_val rfl rfl rfl rfl (V_quo rfl rfl rfl (by omega) (by omega) (wrap_i64 (by omega))) ?_
 refine G_val rfl rfl rfl rfl (V_geq rfl rfl rfl) ?_
 refine G_done ?_
 refine G_ifD rfl (fun hc4 => ?_) (fun hc4 => ?_)
 · (first | contradiction | (exact absurd rfl hc4) | (exfalso; omega) | (simp at hc4; done) | (exact absurd hc4 (by decide)) | (exact absurd (by decide) hc4))
 refine G_skip ?_
 refine G_region (l := [0, 1, 2, 3, 4, 5, 6, 7, 8]) rfl ?_
 refine G_val rfl rfl rfl rfl (V_move rfl rfl) ?_
 refine G_val rfl rfl rfl rfl (V_move rfl rfl) ?_
 refine G_val rfl rfl rfl rfl (V_slen rfl rfl Tryd.underlying9 rfl) ?_
 refine G_val rfl rfl rfl rfl (V_move rfl rfl) ?_
 refine G_val rfl rfl rfl rfl (V_len rfl rfl Tryd.underlying53 rfl) ?_
 first
   | refine G_val rfl rfl rfl rfl ((V_sub rfl rfl rfl).int (wrap_i64 (by omega))) ?_
   | refine G_val rfl rfl rfl rfl (V_sub rfl rfl rfl) ?_
 refine G_val rfl rfl rfl rfl (Val.int (e' := ((ls.length - 1 : Nat) : Int)) (V_mul rfl rfl rfl) (by rw [hs1, wrap_i64 (by omega)]; omega)) ?_
 first
   | refine G_val rfl rfl rfl rfl ((V_add rfl rfl rfl).int (wrap_i64 (by omega))) ?_
   | refine G_val rfl rfl rfl rfl (V_add rfl rfl rfl) ?_
 refine G_val rfl rfl rfl rfl (V_assign rfl rfl) ?_
 refine G_done ?_
 refine G_seq ?_
 refine G_seq ?_
 refine G_region (l := [0, 1, 2]) rfl ?_
 refine G_val rfl rfl rfl rfl (V_move rfl rfl) ?_
 refine G_val rfl rfl rfl rfl (V_len rfl rfl Tryd.underlying53 rfl) ?_
 refine G_val rfl rfl rfl rfl (V_move rfl rfl) ?_
 refine G_done ?_
 refine G_block ?_
 refine G_sub ?he12 [] ?hl12 (G_loop (X := Nat) (fun i => i ≤ ls.length) (fun i => ls.length - i) (fun i => [(0, sv o1 p1 ls.length q1), (1, .string (bs [s])), (5, .int .i64 ((ls.length - 1 + sumL (ls.take i) : Nat) : Int)), (39, sv o1 p1 ls.length q1), (40, .int .i64 (ls.length : Int)), (41, .int .i64 (i : Int))]) (fun i => []) ?round12 0 ?h012)
 case he12 => (refine (And.intro rfl (And.intro rfl (And.intro (slot_int (by simp [sumL])) (And.intro rfl (And.intro rfl (And.intro rfl trivial)))))))
 case hl12 => exact ⟨_, rfl⟩
 case h012 => exact Nat.zero_le _
 case round12 =>
  intro i hJ ih
  try dsimp only at hJ ih
  refine G_seq ?_
  refine G_region (l := [0]) rfl ?_
  refine G_val rfl rfl rfl rfl (V_lss rfl rfl rfl) ?_
  refine G_done ?_
  refine G_seq ?_
  refine G_ifD rfl (fun hc5 => ?_) (fun hc5 => ?_)
  · skip
    refine G_skip ?_
    refine G_seq ?_
    refine G_block ?_
    refine G_seq ?_
    obtain ⟨x, hx⟩ := getI (show i < ls.length by omega)
    have hxl := sumL_mem (List.mem_of_getElem? hx)
    have hst := sumL_take ls i
    have hsn := sumL_next hx
    obtain ⟨b1, rfl⟩ := h1.isSome (by omega)
    refine G_region (l := [0, 1, 2]) rfl ?_
    first
      | refine G_val rfl rfl rfl rfl (V_indexAddrN (s := 1) rfl Tryd.underlying53 infTellJ_9 rfl rfl rfl rfl (by omega)) ?_
      | refine G_val rfl rfl rfl rfl (V_indexAddr (s := 1) rfl Tryd.underlying53 infTellJ_9 rfl rfl rfl (by omega) (by first | omega | (simp [rqCells]; done) | (simp [rqCells]; omega) | (simp [rqCells] at *; omega))) ?_
    refine G_val rfl rfl rfl rfl (V_load1 rfl rfl (mem_at 0 rfl) (nth_of (show c1[p1 + i * 1]? = some (strC x) from h1.at (by simp [hx]))) Tryd.underlying9 rfl) ?_
    refine G_val rfl rfl rfl rfl (V_assign rfl rfl) ?_
    refine G_done ?_
    refine G_seq ?_
    refine G_seq ?_
    refine G_region (l := [0, 1, 2, 3, 4]) rfl ?_
    refine G_val rfl rfl rfl rfl (V_move rfl rfl) ?_
    refine G_val rfl rfl rfl rfl (V_slen rfl rfl Tryd.underlying9 rfl) ?_
    refine G_val rfl rfl rfl rfl (V_move rfl rfl) ?_
    first
      | refine G_val rfl rfl rfl rfl ((V_sub rfl rfl rfl).int (wrap_i64 (by omega))) ?_
      | refine G_val rfl rfl rfl rfl (V_sub rfl rfl rfl) ?_
    refine G_val rfl rfl rfl rfl (V_gtr rfl rfl rfl) ?_
    refine G_done ?_
    refine G_ifD rfl (fun hc6 => ?_) (fun hc6 => ?_)
    · (first | contradiction | (exact absurd rfl hc6) | (exfalso; omega) | (simp at hc6; done) | (exact absurd hc6 (by decide)) | (exact absurd (by decide) hc6))
    refine G_skip ?_
    refine G_region (l := [0, 1, 2, 3, 4]) rfl ?_
    refine G_val rfl rfl rfl rfl (V_move rfl rfl) ?_
    refine G_val rfl rfl rfl rfl (V_move rfl rfl) ?_
    refine G_val rfl rfl rfl rfl (V_slen rfl rfl Tryd.underlying9 rfl) ?_
    first
      | refine G_val rfl rfl rfl rfl ((V_add rfl rfl rfl).int (wrap_i64 (by omega))) ?_
      | refine G_val rfl rfl rfl rfl (V_add rfl rfl rfl) ?_
    refine G_val rfl rfl rfl rfl (V_assign rfl rfl) ?_
    refine G_done ?_
    refine G_inBlock ?_
    refine G_region (l := [0, 1]) rfl ?_
    first
      | refine G_val rfl rfl rfl rfl ((V_add rfl rfl rfl).int (wrap_i64 (by omega))) ?_
      | refine G_val rfl rfl rfl rfl (V_add rfl rfl rfl) ?_
    refine G_val rfl rfl rfl rfl (V_move rfl rfl) ?_
    refine G_done ?_
    refine G_sub ?_ [] ?_ (ih (i + 1) ?_ ?_)
    · (refine (And.intro rfl (And.intro rfl (And.intro (slot_int (by rw [hsn]; omega)) (And.intro rfl (And.intro rfl (And.intro rfl trivial)))))))
    · exact ⟨_, rfl⟩
    · omega
    · (first | omega | (dsimp only; omega))
  refine G_exit rfl ?_
  refine G_seq ?_
  refine G_region (l := [0]) rfl ?_
  refine G_new rfl rfl rfl rfl (N_allocA rfl infTellJ_57 rfl) (fun b8 => ?_)
  refine G_done ?_
  refine G_seq ?_
  have hst := sumL_take ls i
  refine G_region (l := [0, 1]) rfl ?_
  refine G_val rfl rfl rfl rfl (V_move rfl rfl) ?_
  refine G_call (L2 := []) rfl rfl rfl rfl rfl rfl Tryd.call53 (bld_grow b8 (ls.length - 1 + sumL (ls.take i)) (by omega) (by omega)) [0] [] rfl rfl ?_
  rintro v post ⟨rfl, u1, hu1, rfl⟩
  show G _ _ _ [_, _] _
  refine G_done ?_
  refine G_seq ?_
  obtain ⟨b1, rfl⟩ := h1.isSome (by omega)
  obtain ⟨x, hx⟩ := getI (show 0 < ls.length by omega)
  have hxl := sumL_mem (List.mem_of_getElem? hx)
  refine G_region (l := [0, 1, 2, 3]) rfl ?_
  refine G_val rfl rfl rfl rfl (V_move rfl rfl) ?_
  first
    | refine G_val rfl rfl rfl rfl (V_indexAddrN (s := 1) rfl Tryd.underlying53 infTellJ_9 rfl rfl rfl rfl (by omega)) ?_
    | refine G_val rfl rfl rfl rfl (V_indexAddr (s := 1) rfl Tryd.underlying53 infTellJ_9 rfl rfl rfl (by omega) (by first | omega | (simp [rqCells]; done) | (simp [rqCells]; omega) | (simp [rqCells] at *; omega))) ?_
  refine G_val rfl rfl rfl rfl (V_load1 rfl rfl (mem_at 0 rfl) (nth_of (show c1[p1 + 0 * 1]? = some (strC x) from h1.at (by simp [hx]))) Tryd.underlying9 rfl) ?_
  refine G_call (L2 := []) rfl rfl rfl rfl rfl rfl Tryd.call22 (bld_write _ _ _ [] _ (.inr rfl) hu1 (by simp; omega)) [0, 0] [] rfl rfl ?_
  rintro v post ⟨rfl, u2, hu2, rfl⟩
  show G _ _ _ [_, _] _
  refine G_done ?_
  refine G_seq ?_
  refine G_seq ?_
  have hx0 : x = joinI s ls 0 := by unfold joinI; simp [List.getD_eq_getElem?_getD, hx]
  rw [List.nil_append, hx0] at hu2
  simp only [List.nil_append, hx0]
  refine G_region (l := [0, 1, 2, 3]) rfl ?_
  refine G_val rfl rfl rfl rfl (V_move rfl rfl) ?_
  refine G_val rfl rfl rfl rfl (V_sliceLo (lo := 1) rfl Tryd.underlying53 infTellJ_9 rfl rfl rfl rfl (by first | omega | (simp [rqCells]; done) | (simp [rqCells]; omega) | (simp [rqCells] at *; omega)) (by first | omega | (simp [rqCells]; done) | (simp [rqCells]; omega) | (simp [rqCells] at *; omega))) ?_
  rw [if_neg (by omega)]
  refine G_val rfl rfl rfl rfl (V_len rfl rfl Tryd.underlying53 rfl) ?_
  refine G_val rfl rfl rfl rfl (V_move rfl rfl) ?_
  refine G_done ?_
  refine G_block ?_
  refine G_sub ?he22 [0, 0] ?hl22 (G_loop (X := Nat × Sl) (fun x_ => match x_ with | ⟨i, u⟩ => i + 1 ≤ ls.length ∧ Txt u (joinI s ls i)) (fun x_ => match x_ with | ⟨i, u⟩ => ls.length - i) (fun x_ => match x_ with | ⟨i, u⟩ => [(1, .string (bs [s])), (8, .pointer (some ⟨b8, 0, none⟩)), (63, .slice (some ⟨b1, p1 + 1, none⟩) (ls.length - 1) (q1 - 1)), (64, .int .i64 ((ls.length - 1 : Nat) : Int)), (65, .int .i64 (i : Int))]) (fun x_ => match x_ with | ⟨i, u⟩ => [(some b8, .cells #[.pointer (some ⟨b8, 0, none⟩), u.v (joinI s ls i).length] 57 (0, 0)), (u.ob, .cells u.cs 5 u.fz)]) ?round22 (0, u2) ?h022)
  case he22 => exact (And.intro rfl (And.intro rfl (And.intro rfl (And.intro rfl (And.intro rfl trivial)))))
  case hl22 => exact ⟨_, rfl⟩
  case h022 => exact ⟨by omega, hu2⟩
  case round22 =>
   intro x_ hJ ih
   try dsimp only at hJ ih
   obtain ⟨i, u⟩ := x_
   try dsimp only at hJ ih
   obtain ⟨hi, hux⟩ := hJ
   show G _ _ [(1, .string (bs [s])), (8, .pointer (some ⟨b8, 0, none⟩)), (63, .slice (some ⟨b1, p1 + 1, none⟩) (ls.length - 1) (q1 - 1)), (64, .int .i64 ((ls.length - 1 : Nat) : Int)), (65, .int .i64 (i : Int))] [(some b8, .cells #[.pointer (some ⟨b8, 0, none⟩), u.v (joinI s ls i).length] 57 (0, 0)), (u.ob, .cells u.cs 5 u.fz)] _
   refine G_seq ?_
   refine G_region (l := [0]) rfl ?_
   refine G_val rfl rfl rfl rfl (V_lss rfl rfl rfl) ?_
   refine G_done ?_
   refine G_seq ?_
   refine G_ifD rfl (fun hc6 => ?_) (fun hc6 => ?_)
   · skip
     refine G_skip ?_
     refine G_seq ?_
     refine G_block ?_
     refine G_seq ?_
     obtain ⟨y, hy⟩ := getI (show i + 1 < ls.length by omega)
     have hyl := sumL_mem (List.mem_of_getElem? hy)
     have jl := joinI_len (s := s) (ls := ls) (i := i) (by omega)
     refine G_region (l := [0, 1, 2]) rfl ?_
     first
       | refine G_val rfl rfl rfl rfl (V_indexAddrN (s := 1) rfl Tryd.underlying53 infTellJ_9 rfl rfl rfl rfl (by omega)) ?_
       | refine G_val rfl rfl rfl rfl (V_indexAddr (s := 1) rfl Tryd.underlying53 infTellJ_9 rfl rfl rfl (by omega) (by first | omega | (simp [rqCells]; done) | (simp [rqCells]; omega) | (simp [rqCells] at *; omega))) ?_
     refine G_val rfl rfl rfl rfl (V_load1 rfl rfl (mem_at 0 rfl) (nth_of (show c1[p1 + 1 + i * 1]? = some (strC y) by rw [show p1 + 1 + i * 1 = p1 + (i + 1) by omega]; exact h1.at (by simp [hy]))) Tryd.underlying9 rfl) ?_
     refine G_val rfl rfl rfl rfl (V_assign rfl rfl) ?_
     refine G_done ?_
     refine G_seq ?_
     refine G_region (l := [0, 1]) rfl ?_
     refine G_val rfl rfl rfl rfl (V_move rfl rfl) ?_
     refine G_call (L2 := []) rfl rfl rfl rfl rfl rfl Tryd.call22 (bld_write _ _ _ _ [s] (.inr rfl) hux (by simp; omega)) [0, 0] [] rfl rfl ?_
     rintro v post ⟨rfl, u1, hu1, rfl⟩
     show G _ _ _ [_, _] _
     refine G_done ?_
     refine G_region (l := [0, 1]) rfl ?_
     refine G_val rfl rfl rfl rfl (V_move rfl rfl) ?_
     refine G_call (L2 := []) rfl rfl rfl rfl rfl rfl Tryd.call22 (bld_write _ _ _ _ y (.inr rfl) hu1 (by simp; omega)) [0, 0] [] rfl rfl ?_
     rintro v post ⟨rfl, u2, hu2, rfl⟩
     show G _ _ _ [_, _] _
     rw [joinI_next hy] at hu2 ⊢
     refine G_done ?_
     refine G_inBlock ?_
     refine G_region (l := [0, 1]) rfl ?_
     first
       | refine G_val rfl rfl rfl rfl ((V_add rfl rfl rfl).int (wrap_i64 (by omega))) ?_
       | refine G_val rfl rfl rfl rfl (V_add rfl rfl rfl) ?_
     refine G_val rfl rfl rfl rfl (V_move rfl rfl) ?_
     refine G_done ?_
     refine G_sub ?_ [0, 0] ?_ (ih (i + 1, u2) ?_ ?_)
     · (refine (And.intro ?_ (And.intro ?_ (And.intro ?_ (And.intro ?_ (And.intro ?_ trivial))))) <;> first | rfl | exact slot_int (by omega) | exact slot_int (by simp))
     · exact ⟨_, rfl⟩
     · exact ⟨by omega, hu2⟩
     · (first | omega | (dsimp only; omega))
   refine G_exit rfl ?_
   refine G_seq ?_
   have jt := joinI_len (s := s) (ls := ls) (i := i) (by omega)
   rw [joinI_end (by omega) (by omega)] at hux jt ⊢
   refine G_region (l := [0, 1]) rfl ?_
   refine G_call (L2 := []) rfl rfl rfl rfl rfl rfl Tryd.call23 (bld_string _ _ _ _ hux (by omega)) [0, 0] [] rfl rfl ?_
   rintro v post ⟨rfl, u1, hu1, rfl⟩
   show G _ _ _ [_, _] _
   refine G_val rfl rfl rfl rfl (V_assign rfl rfl) ?_
   refine G_done ?_
   refine G_ret (post := []) Tryd.func37 rfl (RVs_cons (RV_tmp rfl) RVs_nil) [] rfl ?_
   dsimp only [packed]
   first
     | exact ⟨rfl, rfl⟩
     | (obtain rfl : ls = [] := List.length_eq_zero_iff.1 (by omega)
        exact ⟨rfl, rfl⟩)
     | (match ls, (by omega : ls.length = 1), hx with
        | [y], _, hx => obtain rfl : y = x := by simpa using hx
                        exact ⟨str_eq (by simp [joinT]), rfl⟩)


/-- What is told of a reply without letters. -/
structure Ry where
  to_ : List UInt8
  ns : List Int
  st : Int
  cmd : List UInt8
def part (name value : List UInt8) : List UInt8 := name ++ [61] ++ value
def addP (xs : List (List UInt8)) (name value : List UInt8) (there : Bool) : List (List UInt8) := if there then xs ++ [part name value] else xs
def addN (xs : List (List UInt8)) (name : List UInt8) (n : Int) : List (List UInt8) := addP xs name (Lib.itoa n) (decide (¬ n = 0))
theorem addP_len (xs : List (List UInt8)) (name value : List UInt8) (there : Bool) : (addP xs name value there).length ≤ xs.length + 1 := by unfold addP; split <;> simp

set_option maxRecDepth 100000 in
set_option maxHeartbeats 1000000 in
theorem tl_put (b : Nat) (u : Sl) (xs : List (List UInt8)) (hu : Own 1 u (xs.map strC) xs.length) (hn : xs.length ≤ 1000) (name value : List UInt8) (there : Bool) (h1 : name.length ≤ 100) (h2 : value.length ≤ 100000) :
    Ct Tryd.prog 45 [.string (bs name), .string (bs value), .bool there, .pointer (some ⟨b, 0, none⟩)] [] [(some b, .cells #[u.v xs.length] 53 (0, 0)), (u.ob, .cells u.cs 9 u.fz)] fun v post => v = .tuple #[] ∧ ∃ u1, Own 1 u1 ((addP xs name value there).map strC) (addP xs name value there).length ∧ post = [(some b, .cells #[u1.v (addP xs name value there).length] 53 (0, 0)), (u1.ob, .cells u1.cs 9 u1.fz)] := by
 refine ct_of Tryd.func45 rfl rfl (fun w0 => ?_)
 show G _ _ [(0, _), (1, _), (2, _), (3, _)] _ _
 refine G_seq ?_
 cases there
 · skip
   refine G_region (l := [0]) rfl ?_
   refine G_val rfl rfl rfl rfl (V_move rfl rfl) ?_
   refine G_done ?_
   refine G_if rfl (fun hc1 => ?_) (fun hc1 => ?_)
   · (first | contradiction | (exact absurd rfl hc1) | (exfalso; omega) | (simp at hc1; done) | (exact absurd hc1 (by decide)) | (exact absurd (by decide) hc1))
   refine G_skip ?_
   refine G_end (post := [_, _]) Tryd.func45 rfl RVs_nil [0, 0] rfl ?_
   dsimp only [packed]
   first
     | exact ⟨rfl, u, hu, rfl⟩
     | (refine ⟨rfl, u1, ?_, ?_⟩
        · show Own 1 u1 ((xs ++ [part name value]).map strC) (xs ++ [part name value]).length
          rw [List.map_append, List.length_append]; exact hu1
        · rw [show (addP xs name value true).length = xs.length + 1 from by show (xs ++ [part name value]).length = _; simp]; rfl)
 · skip
   refine G_region (l := [0]) rfl ?_
   refine G_val rfl rfl rfl rfl (V_move rfl rfl) ?_
   refine G_done ?_
   refine G_if rfl (fun hc1 => ?_) (fun hc1 => ?_)
   rotate_left
   · (first | contradiction | (exact absurd rfl hc1) | (exfalso; omega) | (simp at hc1; done) | (exact absurd hc1 (by decide)) | (exact absurd (by decide) hc1))
   refine G_region (l := [0, 1, 2, 3, 4, 5, 6, 7]) rfl ?_
   refine G_val rfl rfl rfl rfl (V_load1 rfl rfl (mem_at 0 rfl) rfl Tryd.underlying53 rfl) ?_
   refine G_val rfl rfl rfl rfl (V_move rfl rfl) ?_
   refine G_val rfl rfl rfl rfl (V_sadd rfl rfl rfl (by first | omega | (simp [rqCells]; done) | (simp [rqCells]; omega) | (simp [rqCells] at *; omega))) ?_
   refine G_val rfl rfl rfl rfl (V_move rfl rfl) ?_
   refine G_val rfl rfl rfl rfl (V_sadd rfl rfl rfl (by first | omega | (simp [rqCells]; done) | (simp [rqCells]; omega) | (simp [rqCells] at *; omega))) ?_
   refine G_new rfl rfl rfl rfl (N_buildAll (s := 1) (cs := [_]) rfl Tryd.underlying53 infTellJ_9 rfl rfl rfl rfl rfl rfl rfl rfl rfl) (fun b13 => ?_)
   refine G_append (l1 := [_, _]) (s := u) (nn := xs.length) (m := 1) (news := [strC (part name value)]) (bt := 16) rfl rfl rfl rfl Tryd.underlying53 Tryd.underlying53 (by first | exact .inl rfl | exact .inr ⟨_, rfl⟩) infTellJ_9 rfl rfl rfl rfl rfl rfl hu rfl (src_mem (mem_at 0 rfl) rfl rfl (by simp [strC, Value.oneCell'])) (by omega) (by omega) ?_
   intro u1 hu1 _
   show G _ _ _ [_, _, _] _
   refine G_put (l1 := [_]) (L' := [_, _, _]) rfl rfl rfl rfl (P_store1 rfl rfl rfl (mem_at 1 rfl) (by first | exact of_decide_eq_true rfl | omega | (simp [rqCells]; done) | (simp [rqCells]; omega) | (simp [rqCells] at *; omega)) infTellJ_53 rfl rfl) rfl ?_
   refine G_done ?_
   refine G_end (post := [_, _]) Tryd.func45 rfl RVs_nil [1, 1] rfl ?_
   dsimp only [packed]
   first
     | exact ⟨rfl, u, hu, rfl⟩
     | (refine ⟨rfl, u1, ?_, ?_⟩
        · show Own 1 u1 ((xs ++ [part name value]).map strC) (xs ++ [part name value]).length
          rw [List.map_append, List.length_append]; exact hu1
        · rw [show (addP xs name value true).length = xs.length + 1 from by show (xs ++ [part name value]).length = _; simp]; rfl)

set_option maxRecDepth 100000 in
set_option maxHeartbeats 1000000 in
theorem tl_count (b f : Nat) (u : Sl) (xs : List (List UInt8)) (hu : Own 1 u (xs.map strC) xs.length) (hn : xs.length ≤ 1000) (name : List UInt8) (h1 : name.length ≤ 100) (x : Int) (hx0 : -9223372036854775808 ≤ x) (hx1 : x ≤ 9223372036854775807) (T0 : TypeId) (r0 : Nat × Nat) :
    Ct Tryd.prog 46 [.string (bs name), .int .i64 x, .pointer (some ⟨f, 0, none⟩)] [(some f, .cells #[.func (.func 45) #[] #[.pointer (some ⟨b, 0, none⟩)]] 99 (0, 0)), (some 0, .cells powC T0 r0)] [(some b, .cells #[u.v xs.length] 53 (0, 0)), (u.ob, .cells u.cs 9 u.fz)] fun v post => v = .tuple #[] ∧ ∃ u1, Own 1 u1 ((addN xs name x).map strC) (addN xs name x).length ∧ post = [(some b, .cells #[u1.v (addN xs name x).length] 53 (0, 0)), (u1.ob, .cells u1.cs 9 u1.fz)] := by
 have hil := itoa_len hx0 hx1
 refine ct_of Tryd.func46 rfl rfl (fun w0 => ?_)
 show G _ _ [(0, _), (1, _), (2, _)] _ _
 refine GH_start (Lq := []) (isq := []) (m := 7) mixedK rfl rfl ?_
 refine GH_take 0 rfl rfl rfl rfl (by kernel_rfl) (by kernel_rfl) (by kernel_rfl) (fun _ _ => (V_load1 rfl rfl (mem_at 0 rfl) rfl Tryd.underlying99 rfl)) ?_
 refine GH_take 1 rfl rfl rfl rfl (by kernel_rfl) (by kernel_rfl) (by kernel_rfl) (fun _ _ => (V_move rfl rfl)) ?_
 refine GH_take 2 rfl rfl rfl rfl (by kernel_rfl) (by kernel_rfl) (by kernel_rfl) (fun _ _ => (V_move rfl rfl)) ?_
 refine GH_take 4 rfl rfl rfl rfl (by kernel_rfl) (by kernel_rfl) (by kernel_rfl) (fun _ _ => (V_move rfl rfl)) ?_
 refine GH_take 5 rfl rfl rfl rfl (by kernel_rfl) (by kernel_rfl) (by kernel_rfl) (fun _ _ => (V_neq rfl rfl rfl)) ?_
 refine GH_all [3] (by kernel_rfl) (by decide) ?_
 refine (And.intro ?_ trivial)
 · skip
   refine GHop_call (L2 := [_, _]) rfl rfl rfl rfl rfl rfl Tryd.call40 (tl_num x hx0 hx1 T0 r0) [] [1] rfl rfl [] (by rintro v post ⟨rfl, rfl⟩; exact ⟨_, rfl⟩) ?_
   rintro v post ⟨rfl, rfl⟩
   show GH _ _ _ _ _ _ _ [_, _] _
   refine GH_all [6] (by kernel_rfl) (by decide) ?_
   refine (And.intro ?_ trivial)
   · skip
     refine GHop_callC (L2 := []) rfl rfl rfl rfl rfl rfl Tryd.call45 rfl (tl_put b u xs hu hn name (Lib.itoa x) (decide (¬ x = 0)) h1 (by omega)) [0, 0] [] rfl rfl [] (by rintro v post ⟨rfl, u1, hu1, rfl⟩; exact ⟨_, rfl⟩) ?_
     rintro v post ⟨rfl, u1, hu1, rfl⟩
     show GH _ _ _ _ _ _ _ [_, _] _
     refine GH_done (by kernel_rfl) ?_
     refine G_end (post := [_, _]) Tryd.func46 rfl RVs_nil [0, 0] rfl ?_
     dsimp only [packed]
     exact ⟨rfl, u1, hu1, rfl⟩


theorem part_len (name value : List UInt8) : (part name value).length = name.length + 1 + value.length := by unfold part; simp only [List.length_append, List.length_singleton]
theorem sumL_snoc (xs : List (List UInt8)) (x : List UInt8) : sumL (xs ++ [x]) = sumL xs + x.length := by unfold sumL; rw [List.map_append, List.sum_append]; simp
theorem addP_bd (xs : List (List UInt8)) (name value : List UInt8) (there : Bool) (k : Nat) (h : xs.length ≤ k ∧ sumL xs ≤ 450 * k) (hl : name.length + 1 + value.length ≤ 450) : (addP xs name value there).length ≤ k + 1 ∧ sumL (addP xs name value there) ≤ 450 * (k + 1) := by
  unfold addP
  split
  · rw [sumL_snoc, part_len]; simp only [List.length_append, List.length_singleton]; omega
  · omega
theorem addN_bd (xs : List (List UInt8)) (name : List UInt8) (x : Int) (k : Nat) (h : xs.length ≤ k ∧ sumL xs ≤ 450 * k) (hn : name.length ≤ 20) (h0 : -9223372036854775808 ≤ x) (h1 : x ≤ 9223372036854775807) : (addN xs name x).length ≤ k + 1 ∧ sumL (addN xs name x) ≤ 450 * (k + 1) :=
  addP_bd xs name _ _ k h (by have := itoa_len h0 h1; omega)


def partsR (to_ cmd : List UInt8) (code op_ st ep att cl co a b : Int) : List (List UInt8) := (addP (addN (addN (addN (addN (addN (addN (addP (addN (addN (addP [] [116, 111] (quoteT to_) (decide (¬ to_ = []))) [101, 114, 114, 111, 114] code) [111, 112] op_) [115, 116, 97, 116, 101] (wordT st) (decide (¬ st = 0))) [101, 112, 111, 99, 104] ep) [97, 116, 116, 101, 109, 112, 116, 115] att) [99, 108, 97, 115, 115] cl) [99, 111, 115, 116] co) [97] a) [98] b) [99, 111, 109, 109, 97, 110, 100] (quoteT cmd) (decide (¬ cmd = [])))
def replyT (l : List (List UInt8)) : List UInt8 := if l = [] then [111, 107] else joinT 32 l

set_option maxRecDepth 100000 in
set_option maxHeartbeats 4000000 in
theorem tl_reply (to_ cmd : List UInt8) (code op_ st ep att cl co a b : Int) (hto : to_.length ≤ 100) (hcmd : cmd.length ≤ 100) (hcode0 : -9223372036854775808 ≤ code) (hcode1 : code ≤ 9223372036854775807) (hop_0 : -9223372036854775808 ≤ op_) (hop_1 : op_ ≤ 9223372036854775807) (hst0 : -9223372036854775808 ≤ st) (hst1 : st ≤ 9223372036854775807) (hep0 : -9223372036854775808 ≤ ep) (hep1 : ep ≤ 9223372036854775807) (hatt0 : -9223372036854775808 ≤ att) (hatt1 : att ≤ 9223372036854775807) (hcl0 : -9223372036854775808 ≤ cl) (hcl1 : cl ≤ 9223372036854775807) (hco0 : -9223372036854775808 ≤ co) (hco1 : co ≤ 9223372036854775807) (ha0 : -9223372036854775808 ≤ a) (ha1 : a ≤ 9223372036854775807) (hb0 : -9223372036854775808 ≤ b) (hb1 : b ≤ 9223372036854775807) (T0 : TypeId) (r0 : Nat × Nat) :
    Ct Tryd.prog 19 [.agg #[.string (bs to_), .int .i64 code, .int .i64 op_, .int .i64 st, .int .i64 ep, .int .i64 att, .int .i64 cl, .int .i64 co, .int .i64 a, .int .i64 b, .string (bs cmd), .slice none 0 0]] [(some 0, .cells powC T0 r0)] [] fun v post => v = .string (bs (replyT (partsR to_ cmd code op_ st ep att cl co a b))) ∧ post = [] := by
 have hq1 := quoteT_len to_
 have hq2 := quoteT_len cmd
 have hw1 := wordT_len st
 refine ct_of Tryd.func19 rfl rfl (fun w0 => ?_)
 show G _ _ [(0, _)] _ _
 refine G_seq ?_
 refine G_region (l := [0, 1]) rfl ?_
 refine G_new rfl rfl rfl rfl (N_boxA rfl rfl) (fun b1 => ?_)
 refine G_val rfl rfl rfl rfl (V_assign rfl rfl) ?_
 refine G_done ?_
 refine G_seq ?_
 refine G_region (l := [0]) rfl ?_
 refine G_new rfl rfl rfl rfl (N_alloc1 rfl infTellJ_53 rfl rfl) (fun b3 => ?_)
 refine G_done ?_
 refine G_seq ?_
 refine G_region (l := [0, 1, 2]) rfl ?_
 refine G_val rfl rfl rfl rfl (V_func rfl rfl rfl) ?_
 refine G_new rfl rfl rfl rfl (N_alloc1 rfl infTellJ_99 rfl rfl) (fun b4 => ?_)
 refine G_put (l1 := []) (L' := [_, _, _]) rfl rfl rfl rfl (P_store1 rfl rfl rfl (mem_at 0 rfl) (by first | exact of_decide_eq_true rfl | omega | (simp [rqCells]; done) | (simp [rqCells]; omega) | (simp [rqCells] at *; omega)) infTellJ_99 rfl rfl) rfl ?_
 refine G_done ?_
 refine G_seq ?_
 refine G_region (l := [0, 1]) rfl ?_
 refine G_val rfl rfl rfl rfl (V_func rfl rfl rfl) ?_
 refine G_val rfl rfl rfl rfl (V_assign rfl rfl) ?_
 refine G_done ?_
 refine G_seq ?_
 have hu := own_nil 1
 refine G_addNone (.cells #[] 9 (0, 0)) ?_
 refine GH_start (Lq := [_, _]) (isq := [3, 1]) (m := 8) mixedK rfl rfl ?_
 refine GH_take 0 rfl rfl rfl rfl (by kernel_rfl) (by kernel_rfl) (by kernel_rfl) (fun _ _ => (V_load1 rfl rfl (mem_at 2 rfl) rfl Tryd.underlying99 rfl)) ?_
 refine GH_take 1 rfl rfl rfl rfl (by kernel_rfl) (by kernel_rfl) (by kernel_rfl) (fun _ _ => (V_fieldAddr (fo := 0) rfl Tryd.underlying52 rfl infTellJ_9 rfl rfl rfl)) ?_
 refine GH_take 2 rfl rfl rfl rfl (by kernel_rfl) (by kernel_rfl) (by kernel_rfl) (fun _ _ => (V_load1 rfl rfl (mem_at 1 rfl) rfl Tryd.underlying9 rfl)) ?_
 refine GH_take 4 rfl rfl rfl rfl (by kernel_rfl) (by kernel_rfl) (by kernel_rfl) (fun _ _ => (V_fieldAddr (fo := 0) rfl Tryd.underlying52 rfl infTellJ_9 rfl rfl rfl)) ?_
 refine GH_take 5 rfl rfl rfl rfl (by kernel_rfl) (by kernel_rfl) (by kernel_rfl) (fun _ _ => (V_load1 rfl rfl (mem_at 1 rfl) rfl Tryd.underlying9 rfl)) ?_
 refine GH_take 6 rfl rfl rfl rfl (by kernel_rfl) (by kernel_rfl) (by kernel_rfl) (fun _ _ => (V_sneq rfl rfl rfl)) ?_
 refine GH_all [3] (by kernel_rfl) (by decide) ?_
 refine (And.intro ?_ trivial)
 · skip
   refine GHop_call (L2 := [_, _, _, _]) rfl rfl rfl rfl rfl rfl Tryd.call9 (tl_quote to_ (by omega)) [] [] rfl rfl [3, 1] (by rintro v post ⟨rfl, rfl⟩; exact ⟨_, rfl⟩) ?_
   rintro v post ⟨rfl, rfl⟩
   show GH _ _ _ _ _ _ _ [_, _, _, _] _
   refine GH_all [7] (by kernel_rfl) (by decide) ?_
   refine (And.intro ?_ trivial)
   · skip
     refine GHop_callC (L2 := [_, _]) rfl rfl rfl rfl rfl rfl Tryd.call45 rfl (tl_put b3 _ [] hu (by first | omega | simp) [116, 111] (quoteT to_) (decide (¬ to_ = [])) (by decide) (by omega)) [2, 0] [] rfl rfl [3, 2] (by rintro v post ⟨rfl, u1, hu1, rfl⟩; exact ⟨_, rfl⟩) ?_
     rintro v post ⟨rfl, u1, hu1, rfl⟩
     show GH _ _ _ _ _ _ _ [_, _, _, _] _
     have hxb1 := addP_bd [] [116, 111] (quoteT to_) (decide (¬ to_ = [])) 0 ⟨Nat.le_refl _, Nat.zero_le _⟩ (by show 2 + 1 + _ ≤ 450; omega)
     obtain ⟨x1, hx1⟩ : ∃ x, x = addP [] [116, 111] (quoteT to_) (decide (¬ to_ = [])) := ⟨_, rfl⟩
     rw [← hx1] at hu1 hxb1 ⊢
     have hu := hu1
     clear hu1
     refine GH_done (by kernel_rfl) ?_
     refine G_seq ?_
     refine G_region (l := [0, 1, 2, 3]) rfl ?_
     refine G_val rfl rfl rfl rfl (V_move rfl rfl) ?_
     refine G_val rfl rfl rfl rfl (V_fieldAddr (fo := 1) rfl Tryd.underlying52 rfl infTellJ_50 rfl rfl rfl) ?_
     refine G_val rfl rfl rfl rfl (V_load1 rfl rfl (mem_at 4 rfl) rfl Tryd.underlying50 rfl) ?_
     refine G_callC (L2 := [_, _]) rfl rfl rfl rfl rfl rfl Tryd.call46 rfl (tl_count b3 b4 _ x1 hu (by omega) [101, 114, 114, 111, 114] (by decide) code hcode0 hcode1 T0 r0) [0, 0] [1, 0] rfl rfl ?_
     rintro v post ⟨rfl, u1, hu1, rfl⟩
     show G _ _ _ [_, _, _, _] _
     have hxb2 := addN_bd x1 [101, 114, 114, 111, 114] code 1 hxb1 (by decide) hcode0 hcode1
     obtain ⟨x2, hx2⟩ : ∃ x, x = addN x1 [101, 114, 114, 111, 114] code := ⟨_, rfl⟩
     rw [← hx2] at hu1 hxb2 ⊢
     have hu := hu1
     clear hu1
     refine G_done ?_
     refine G_seq ?_
     refine G_region (l := [0, 1, 2, 3]) rfl ?_
     refine G_val rfl rfl rfl rfl (V_move rfl rfl) ?_
     refine G_val rfl rfl rfl rfl (V_fieldAddr (fo := 2) rfl Tryd.underlying52 rfl infTellJ_3 rfl rfl rfl) ?_
     refine G_val rfl rfl rfl rfl (V_load1 rfl rfl (mem_at 4 rfl) rfl Tryd.underlying3 rfl) ?_
     refine G_callC (L2 := [_, _]) rfl rfl rfl rfl rfl rfl Tryd.call46 rfl (tl_count b3 b4 _ x2 hu (by omega) [111, 112] (by decide) op_ hop_0 hop_1 T0 r0) [0, 0] [1, 0] rfl rfl ?_
     rintro v post ⟨rfl, u1, hu1, rfl⟩
     show G _ _ _ [_, _, _, _] _
     have hxb3 := addN_bd x2 [111, 112] op_ 2 hxb2 (by decide) hop_0 hop_1
     obtain ⟨x3, hx3⟩ : ∃ x, x = addN x2 [111, 112] op_ := ⟨_, rfl⟩
     rw [← hx3] at hu1 hxb3 ⊢
     have hu := hu1
     clear hu1
     refine G_done ?_
     refine G_seq ?_
     refine GH_start (Lq := [_, _]) (isq := [3, 2]) (m := 8) mixedK rfl rfl ?_
     refine GH_take 0 rfl rfl rfl rfl (by kernel_rfl) (by kernel_rfl) (by kernel_rfl) (fun _ _ => (V_load1 rfl rfl (mem_at 2 rfl) rfl Tryd.underlying99 rfl)) ?_
     refine GH_take 1 rfl rfl rfl rfl (by kernel_rfl) (by kernel_rfl) (by kernel_rfl) (fun _ _ => (V_fieldAddr (fo := 3) rfl Tryd.underlying52 rfl infTellJ_3 rfl rfl rfl)) ?_
     refine GH_take 2 rfl rfl rfl rfl (by kernel_rfl) (by kernel_rfl) (by kernel_rfl) (fun _ _ => (V_load1 rfl rfl (mem_at 1 rfl) rfl Tryd.underlying3 rfl)) ?_
     refine GH_take 4 rfl rfl rfl rfl (by kernel_rfl) (by kernel_rfl) (by kernel_rfl) (fun _ _ => (V_fieldAddr (fo := 3) rfl Tryd.underlying52 rfl infTellJ_3 rfl rfl rfl)) ?_
     refine GH_take 5 rfl rfl rfl rfl (by kernel_rfl) (by kernel_rfl) (by kernel_rfl) (fun _ _ => (V_load1 rfl rfl (mem_at 1 rfl) rfl Tryd.underlying3 rfl)) ?_
     refine GH_take 6 rfl rfl rfl rfl (by kernel_rfl) (by kernel_rfl) (by kernel_rfl) (fun _ _ => (V_neq rfl rfl rfl)) ?_
     refine GH_all [3] (by kernel_rfl) (by decide) ?_
     refine (And.intro ?_ trivial)
     · skip
       refine GHop_call (L2 := [_, _, _, _]) rfl rfl rfl rfl rfl rfl Tryd.call7 (tl_word st hst0 hst1) [] [] rfl rfl [3, 2] (by rintro v post ⟨rfl, rfl⟩; exact ⟨_, rfl⟩) ?_
       rintro v post ⟨rfl, rfl⟩
       show GH _ _ _ _ _ _ _ [_, _, _, _] _
       refine GH_all [7] (by kernel_rfl) (by decide) ?_
       refine (And.intro ?_ trivial)
       · skip
         refine GHop_callC (L2 := [_, _]) rfl rfl rfl rfl rfl rfl Tryd.call45 rfl (tl_put b3 _ x3 hu (by first | omega | simp) [115, 116, 97, 116, 101] (wordT st) (decide (¬ st = 0)) (by decide) (by omega)) [0, 0] [] rfl rfl [3, 2] (by rintro v post ⟨rfl, u1, hu1, rfl⟩; exact ⟨_, rfl⟩) ?_
         rintro v post ⟨rfl, u1, hu1, rfl⟩
         show GH _ _ _ _ _ _ _ [_, _, _, _] _
         have hxb4 := addP_bd x3 [115, 116, 97, 116, 101] (wordT st) (decide (¬ st = 0)) 3 hxb3 (by show 5 + 1 + _ ≤ 450; omega)
         obtain ⟨x4, hx4⟩ : ∃ x, x = addP x3 [115, 116, 97, 116, 101] (wordT st) (decide (¬ st = 0)) := ⟨_, rfl⟩
         rw [← hx4] at hu1 hxb4 ⊢
         have hu := hu1
         clear hu1
         refine GH_done (by kernel_rfl) ?_
         refine G_seq ?_
         refine G_region (l := [0, 1, 2, 3]) rfl ?_
         refine G_val rfl rfl rfl rfl (V_move rfl rfl) ?_
         refine G_val rfl rfl rfl rfl (V_fieldAddr (fo := 4) rfl Tryd.underlying52 rfl infTellJ_3 rfl rfl rfl) ?_
         refine G_val rfl rfl rfl rfl (V_load1 rfl rfl (mem_at 4 rfl) rfl Tryd.underlying3 rfl) ?_
         refine G_callC (L2 := [_, _]) rfl rfl rfl rfl rfl rfl Tryd.call46 rfl (tl_count b3 b4 _ x4 hu (by omega) [101, 112, 111, 99, 104] (by decide) ep hep0 hep1 T0 r0) [0, 0] [1, 0] rfl rfl ?_
         rintro v post ⟨rfl, u1, hu1, rfl⟩
         show G _ _ _ [_, _, _, _] _
         have hxb5 := addN_bd x4 [101, 112, 111, 99, 104] ep 4 hxb4 (by decide) hep0 hep1
         obtain ⟨x5, hx5⟩ : ∃ x, x = addN x4 [101, 112, 111, 99, 104] ep := ⟨_, rfl⟩
         rw [← hx5] at hu1 hxb5 ⊢
         have hu := hu1
         clear hu1
         refine G_done ?_
         refine G_seq ?_
         refine G_region (l := [0, 1, 2, 3]) rfl ?_
         refine G_val rfl rfl rfl rfl (V_move rfl rfl) ?_
         refine G_val rfl rfl rfl rfl (V_fieldAddr (fo := 5) rfl Tryd.underlying52 rfl infTellJ_3 rfl rfl rfl) ?_
         refine G_val rfl rfl rfl rfl (V_load1 rfl rfl (mem_at 4 rfl) rfl Tryd.underlying3 rfl) ?_
         refine G_callC (L2 := [_, _]) rfl rfl rfl rfl rfl rfl Tryd.call46 rfl (tl_count b3 b4 _ x5 hu (by omega) [97, 116, 116, 101, 109, 112, 116, 115] (by decide) att hatt0 hatt1 T0 r0) [0, 0] [1, 0] rfl rfl ?_
         rintro v post ⟨rfl, u1, hu1, rfl⟩
         show G _ _ _ [_, _, _, _] _
         have hxb6 := addN_bd x5 [97, 116, 116, 101, 109, 112, 116, 115] att 5 hxb5 (by decide) hatt0 hatt1
         obtain ⟨x6, hx6⟩ : ∃ x, x = addN x5 [97, 116, 116, 101, 109, 112, 116, 115] att := ⟨_, rfl⟩
         rw [← hx6] at hu1 hxb6 ⊢
         have hu := hu1
         clear hu1
         refine G_done ?_
         refine G_seq ?_
         refine G_region (l := [0, 1, 2, 3]) rfl ?_
         refine G_val rfl rfl rfl rfl (V_move rfl rfl) ?_
         refine G_val rfl rfl rfl rfl (V_fieldAddr (fo := 6) rfl Tryd.underlying52 rfl infTellJ_3 rfl rfl rfl) ?_
         refine G_val rfl rfl rfl rfl (V_load1 rfl rfl (mem_at 4 rfl) rfl Tryd.underlying3 rfl) ?_
         refine G_callC (L2 := [_, _]) rfl rfl rfl rfl rfl rfl Tryd.call46 rfl (tl_count b3 b4 _ x6 hu (by omega) [99, 108, 97, 115, 115] (by decide) cl hcl0 hcl1 T0 r0) [0, 0] [1, 0] rfl rfl ?_
         rintro v post ⟨rfl, u1, hu1, rfl⟩
         show G _ _ _ [_, _, _, _] _
         have hxb7 := addN_bd x6 [99, 108, 97, 115, 115] cl 6 hxb6 (by decide) hcl0 hcl1
         obtain ⟨x7, hx7⟩ : ∃ x, x = addN x6 [99, 108, 97, 115, 115] cl := ⟨_, rfl⟩
         rw [← hx7] at hu1 hxb7 ⊢
         have hu := hu1
         clear hu1
         refine G_done ?_
         refine G_seq ?_
         refine G_region (l := [0, 1, 2, 3]) rfl ?_
         refine G_val rfl rfl rfl rfl (V_move rfl rfl) ?_
         refine G_val rfl rfl rfl rfl (V_fieldAddr (fo := 7) rfl Tryd.underlying52 rfl infTellJ_3 rfl rfl rfl) ?_
         refine G_val rfl rfl rfl rfl (V_load1 rfl rfl (mem_at 4 rfl) rfl Tryd.underlying3 rfl) ?_
         refine G_callC (L2 := [_, _]) rfl rfl rfl rfl rfl rfl Tryd.call46 rfl (tl_count b3 b4 _ x7 hu (by omega) [99, 111, 115, 116] (by decide) co hco0 hco1 T0 r0) [0, 0] [1, 0] rfl rfl ?_
         rintro v post ⟨rfl, u1, hu1, rfl⟩
         show G _ _ _ [_, _, _, _] _
         have hxb8 := addN_bd x7 [99, 111, 115, 116] co 7 hxb7 (by decide) hco0 hco1
         obtain ⟨x8, hx8⟩ : ∃ x, x = addN x7 [99, 111, 115, 116] co := ⟨_, rfl⟩
         rw [← hx8] at hu1 hxb8 ⊢
         have hu := hu1
         clear hu1
         refine G_done ?_
         refine G_seq ?_
         refine G_region (l := [0, 1, 2, 3]) rfl ?_
         refine G_val rfl rfl rfl rfl (V_move rfl rfl) ?_
         refine G_val rfl rfl rfl rfl (V_fieldAddr (fo := 8) rfl Tryd.underlying52 rfl infTellJ_3 rfl rfl rfl) ?_
         refine G_val rfl rfl rfl rfl (V_load1 rfl rfl (mem_at 4 rfl) rfl Tryd.underlying3 rfl) ?_
         refine G_callC (L2 := [_, _]) rfl rfl rfl rfl rfl rfl Tryd.call46 rfl (tl_count b3 b4 _ x8 hu (by omega) [97] (by decide) a ha0 ha1 T0 r0) [0, 0] [1, 0] rfl rfl ?_
         rintro v post ⟨rfl, u1, hu1, rfl⟩
         show G _ _ _ [_, _, _, _] _
         have hxb9 := addN_bd x8 [97] a 8 hxb8 (by decide) ha0 ha1
         obtain ⟨x9, hx9⟩ : ∃ x, x = addN x8 [97] a := ⟨_, rfl⟩
         rw [← hx9] at hu1 hxb9 ⊢
         have hu := hu1
         clear hu1
         refine G_done ?_
         refine G_seq ?_
         refine G_region (l := [0, 1, 2, 3]) rfl ?_
         refine G_val rfl rfl rfl rfl (V_move rfl rfl) ?_
         refine G_val rfl rfl rfl rfl (V_fieldAddr (fo := 9) rfl Tryd.underlying52 rfl infTellJ_3 rfl rfl rfl) ?_
         refine G_val rfl rfl rfl rfl (V_load1 rfl rfl (mem_at 4 rfl) rfl Tryd.underlying3 rfl) ?_
         refine G_callC (L2 := [_, _]) rfl rfl rfl rfl rfl rfl Tryd.call46 rfl (tl_count b3 b4 _ x9 hu (by omega) [98] (by decide) b hb0 hb1 T0 r0) [0, 0] [1, 0] rfl rfl ?_
         rintro v post ⟨rfl, u1, hu1, rfl⟩
         show G _ _ _ [_, _, _, _] _
         have hxb10 := addN_bd x9 [98] b 9 hxb9 (by decide) hb0 hb1
         obtain ⟨x10, hx10⟩ : ∃ x, x = addN x9 [98] b := ⟨_, rfl⟩
         rw [← hx10] at hu1 hxb10 ⊢
         have hu := hu1
         clear hu1
         refine G_done ?_
         refine G_seq ?_
         refine GH_start (Lq := [_, _]) (isq := [3, 2]) (m := 8) mixedK rfl rfl ?_
         refine GH_take 0 rfl rfl rfl rfl (by kernel_rfl) (by kernel_rfl) (by kernel_rfl) (fun _ _ => (V_load1 rfl rfl (mem_at 2 rfl) rfl Tryd.underlying99 rfl)) ?_
         refine GH_take 1 rfl rfl rfl rfl (by kernel_rfl) (by kernel_rfl) (by kernel_rfl) (fun _ _ => (V_fieldAddr (fo := 10) rfl Tryd.underlying52 rfl infTellJ_9 rfl rfl rfl)) ?_
         refine GH_take 2 rfl rfl rfl rfl (by kernel_rfl) (by kernel_rfl) (by kernel_rfl) (fun _ _ => (V_load1 rfl rfl (mem_at 1 rfl) rfl Tryd.underlying9 rfl)) ?_
         refine GH_take 4 rfl rfl rfl rfl (by kernel_rfl) (by kernel_rfl) (by kernel_rfl) (fun _ _ => (V_fieldAddr (fo := 10) rfl Tryd.underlying52 rfl infTellJ_9 rfl rfl rfl)) ?_
         refine GH_take 5 rfl rfl rfl rfl (by kernel_rfl) (by kernel_rfl) (by kernel_rfl) (fun _ _ => (V_load1 rfl rfl (mem_at 1 rfl) rfl Tryd.underlying9 rfl)) ?_
         refine GH_take 6 rfl rfl rfl rfl (by kernel_rfl) (by kernel_rfl) (by kernel_rfl) (fun _ _ => (V_sneq rfl rfl rfl)) ?_
         refine GH_all [3] (by kernel_rfl) (by decide) ?_
         refine (And.intro ?_ trivial)
         · skip
           refine GHop_call (L2 := [_, _, _, _]) rfl rfl rfl rfl rfl rfl Tryd.call9 (tl_quote cmd (by omega)) [] [] rfl rfl [3, 2] (by rintro v post ⟨rfl, rfl⟩; exact ⟨_, rfl⟩) ?_
           rintro v post ⟨rfl, rfl⟩
           show GH _ _ _ _ _ _ _ [_, _, _, _] _
           refine GH_all [7] (by kernel_rfl) (by decide) ?_
           refine (And.intro ?_ trivial)
           · skip
             refine GHop_callC (L2 := [_, _]) rfl rfl rfl rfl rfl rfl Tryd.call45 rfl (tl_put b3 _ x10 hu (by first | omega | simp) [99, 111, 109, 109, 97, 110, 100] (quoteT cmd) (decide (¬ cmd = [])) (by decide) (by omega)) [0, 0] [] rfl rfl [3, 2] (by rintro v post ⟨rfl, u1, hu1, rfl⟩; exact ⟨_, rfl⟩) ?_
             rintro v post ⟨rfl, u1, hu1, rfl⟩
             show GH _ _ _ _ _ _ _ [_, _, _, _] _
             have hxb11 := addP_bd x10 [99, 111, 109, 109, 97, 110, 100] (quoteT cmd) (decide (¬ cmd = [])) 10 hxb10 (by show 7 + 1 + _ ≤ 450; omega)
             obtain ⟨x11, hx11⟩ : ∃ x, x = addP x10 [99, 111, 109, 109, 97, 110, 100] (quoteT cmd) (decide (¬ cmd = [])) := ⟨_, rfl⟩
             rw [← hx11] at hu1 hxb11 ⊢
             have hu := hu1
             clear hu1
             refine GH_done (by kernel_rfl) ?_
             refine G_seq ?_
             refine G_seq ?_
             refine G_region (l := [0, 1, 2, 3]) rfl ?_
             refine G_val rfl rfl rfl rfl (V_fieldAddr (fo := 11) rfl Tryd.underlying52 rfl infTellJ_38 rfl rfl rfl) ?_
             refine G_val rfl rfl rfl rfl (V_load1 rfl rfl (mem_at 4 rfl) rfl Tryd.underlying38 rfl) ?_
             refine G_val rfl rfl rfl rfl (V_len rfl rfl Tryd.underlying38 rfl) ?_
             refine G_val rfl rfl rfl rfl (V_move rfl rfl) ?_
             refine G_done ?_
             refine G_block ?_
             refine G_loop1 ?_
             refine G_seq ?_
             refine G_region (l := [0]) rfl ?_
             refine G_val rfl rfl rfl rfl (V_lss rfl rfl rfl) ?_
             refine G_done ?_
             refine G_seq ?_
             refine G_ifD rfl (fun hc1 => ?_) (fun hc1 => ?_)
             · (first | contradiction | (exact absurd rfl hc1) | (exfalso; omega) | (simp at hc1; done) | (exact absurd hc1 (by decide)) | (exact absurd (by decide) hc1))
             refine G_exit rfl ?_
             refine G_seq ?_
             refine G_seq ?_
             refine G_region (l := [0, 1, 2]) rfl ?_
             refine G_val rfl rfl rfl rfl (V_load1 rfl rfl (mem_at 1 rfl) rfl Tryd.underlying53 rfl) ?_
             refine G_val rfl rfl rfl rfl (V_len rfl rfl Tryd.underlying53 rfl) ?_
             refine G_val rfl rfl rfl rfl (V_eql rfl rfl rfl) ?_
             refine G_done ?_
             refine G_ifD rfl (fun hc2 => ?_) (fun hc2 => ?_)
             · skip
               refine G_seq ?_
               refine G_region (l := [0]) rfl ?_
               refine G_val rfl rfl rfl rfl (V_assign rfl rfl) ?_
               refine G_done ?_
               refine G_ret (post := []) Tryd.func19 rfl (RVs_cons (RV_tmp rfl) RVs_nil) [] rfl ?_
               dsimp only [packed]
               have hxx : x11 = partsR to_ cmd code op_ st ep att cl co a b := by subst hx1 hx2 hx3 hx4 hx5 hx6 hx7 hx8 hx9 hx10 hx11; rfl
               rw [← hxx]
               first
                 | exact ⟨str_eq (by unfold replyT; rw [if_pos (List.length_eq_zero_iff.1 (by omega))]), rfl⟩
                 | exact ⟨str_eq (by unfold replyT; rw [if_neg (fun h => by have hz : x11.length = 0 := congrArg List.length h; omega)]), rfl⟩
             refine G_skip ?_
             refine G_seq ?_
             refine G_region (l := [0, 1, 2]) rfl ?_
             refine G_val rfl rfl rfl rfl (V_load1 rfl rfl (mem_at 1 rfl) rfl Tryd.underlying53 rfl) ?_
             refine G_call (L2 := [_, _, _, _]) rfl rfl rfl rfl rfl rfl Tryd.call37 (st_join _ 0 _ _ _ _ x11 hu.sees 32 (by omega) (by omega)) [] [2] rfl rfl ?_
             rintro v post ⟨rfl, rfl⟩
             show G _ _ _ [_, _, _, _] _
             refine G_val rfl rfl rfl rfl (V_assign rfl rfl) ?_
             refine G_done ?_
             refine G_ret (post := []) Tryd.func19 rfl (RVs_cons (RV_tmp rfl) RVs_nil) [] rfl ?_
             dsimp only [packed]
             have hxx : x11 = partsR to_ cmd code op_ st ep att cl co a b := by subst hx1 hx2 hx3 hx4 hx5 hx6 hx7 hx8 hx9 hx10 hx11; rfl
             rw [← hxx]
             first
               | exact ⟨str_eq (by unfold replyT; rw [if_pos (List.length_eq_zero_iff.1 (by omega))]), rfl⟩
               | exact ⟨str_eq (by unfold replyT; rw [if_neg (fun h => by have hz : x11.length = 0 := congrArg List.length h; omega)]), rfl⟩

end
end Go.Proofs.YtjnaeoelnmhjfaaDoor

/- The walks of tell.State: a line, and the lines of operations. -/
set_option linter.unusedSimpArgs false
set_option linter.unusedVariables false
namespace Go.Proofs.YtjnaeoelnmhjfaaDoor
open Go Go.Shelf Go.RowKit

section
theorem infTellS_3 : Tryd.prog.info? 3 = some Tryd.t3 := by kernel_rfl
theorem infTellS_9 : Tryd.prog.info? 9 = some Tryd.t9 := by kernel_rfl
theorem infTellS_88 : Tryd.prog.info? 88 = some Tryd.t88 := by kernel_rfl
theorem infTellS_90 : Tryd.prog.info? 90 = some Tryd.t90 := by kernel_rfl


theorem joinT_len (s : UInt8) : ∀ ls : List (List UInt8), (joinT s ls).length ≤ sumL ls + ls.length
  | [] => by simp [joinT]
  | [x] => by simp [joinT, sumL]
  | x :: y :: r => by
    have := joinT_len s (y :: r)
    simp only [joinT, sumL, flatJ_len, List.length_append, List.map_cons, List.sum_cons, List.length_cons] at this ⊢
    omega

set_option maxRecDepth 100000 in
set_option maxHeartbeats 1000000 in
theorem ts_line (o1 : Option Nat) (p1 q1 : Nat) (c1 : Array Value) (T1 : TypeId) (f1 : Nat × Nat) (ls : List (List UInt8)) (h1 : Sees 1 o1 p1 q1 c1 (ls.map strC) ls.length) (hn : ls.length ≤ 100) (hs : sumL ls ≤ 20000000) (b : Nat) (p : Value) (u : Sl) (tx : List UInt8) (hp : UsedOr b p) (hu : Txt u tx) (ht : tx.length ≤ 100000000000) :
    Ct Tryd.prog 36 [sv o1 p1 ls.length q1, .pointer (some ⟨b, 0, none⟩)] [(o1, .cells c1 T1 f1)] [(some b, .cells #[p, u.v tx.length] 57 (0, 0)), (u.ob, .cells u.cs 5 u.fz)] fun v post => v = .tuple #[] ∧ ∃ u1, Txt u1 (tx ++ (joinT 32 ls ++ [10])) ∧ post = [(some b, .cells #[.pointer (some ⟨b, 0, none⟩), u1.v (tx ++ (joinT 32 ls ++ [10])).length] 57 (0, 0)), (u1.ob, .cells u1.cs 5 u1.fz)] := by
 have hjl := joinT_len 32 ls
 refine ct_of Tryd.func36 rfl rfl (fun w0 => ?_)
 show G _ _ [(0, _), (1, _)] _ _
 refine G_region (l := [0, 1, 2, 3]) rfl ?_
 refine G_val rfl rfl rfl rfl (V_move rfl rfl) ?_
 refine G_call (L2 := [_, _]) rfl rfl rfl rfl rfl rfl Tryd.call37 (st_join o1 p1 q1 c1 T1 f1 ls h1 32 hn hs) [] [0] rfl rfl ?_
 rintro v post ⟨rfl, rfl⟩
 show G _ _ _ [_, _] _
 refine G_val rfl rfl rfl rfl (V_sadd rfl rfl rfl (by first | omega | (simp [rqCells, Sl.v]; done) | (simp [rqCells, Sl.v]; omega) | (simp [rqCells, Sl.v] at *; omega))) ?_
 refine G_call (L2 := []) rfl rfl rfl rfl rfl rfl Tryd.call22 (bld_write b p u tx (joinT 32 ls ++ [10]) hp hu (by simp; omega)) [0, 0] [] rfl rfl ?_
 rintro v post ⟨rfl, u1, hu1, rfl⟩
 show G _ _ _ [_, _] _
 refine G_done ?_
 refine G_end (post := [_, _]) Tryd.func36 rfl RVs_nil [0, 0] rfl ?_
 dsimp only [packed]
 exact ⟨rfl, u1, hu1, rfl⟩


/-- An operation, cell by cell. -/
structure Opr where
  a : Int × Int × Int
  k : List UInt8
  o : List UInt8
  p : List UInt8
  b : Int × Int × Int × Int
  c : Int × Int × Int × Int × Int
  d : Int × Int × Int
def opC (x : Opr) : List Value := [.int .i64 x.a.1, .int .i64 x.a.2.1, .int .i64 x.a.2.2, .string (bs x.k), .string (bs x.o), .string (bs x.p), .int .i64 x.b.1, .int .i64 x.b.2.1, .int .i64 x.b.2.2.1, .int .i64 x.b.2.2.2, .int .i64 x.c.1, .int .i64 x.c.2.1, .int .i64 x.c.2.2.1, .int .i64 x.c.2.2.2.1, .int .i64 x.c.2.2.2.2, .int .u64 x.d.1, .int .u64 x.d.2.1, .int .u64 x.d.2.2]
theorem op_len (x : Opr) : (opC x).length = 18 := rfl
structure OprOk (x : Opr) : Prop where
  a1 : -9223372036854775808 ≤ x.a.1
  a2 : x.a.1 ≤ 9223372036854775807
  b1 : -9223372036854775808 ≤ x.b.2.1
  b2 : x.b.2.1 ≤ 9223372036854775807
  c1 : -9223372036854775808 ≤ x.b.2.2.1
  c2 : x.b.2.2.1 ≤ 9223372036854775807
  d1 : -9223372036854775808 ≤ x.b.2.2.2
  d2 : x.b.2.2.2 ≤ 9223372036854775807
  k1 : x.k.length ≤ 1048576
theorem sees_lit6 (b : Nat) (a c d e f g : List UInt8) : Sees 1 (some b) 0 6 #[strC a, strC c, strC d, strC e, strC f, strC g] ([a, c, d, e, f, g].map strC) [a, c, d, e, f, g].length := ⟨by simp, by simp, by simp, by simp, fun h => by cases h⟩
def opParts (w : List UInt8) (x : Opr) : List (List UInt8) := [w, Lib.itoa x.a.1, wordT x.b.2.2.1, Lib.itoa x.b.2.1, Lib.itoa x.b.2.2.2, quoteT x.k]
def lineT (ls : List (List UInt8)) : List UInt8 := joinT 32 ls ++ [10]
def opsT (w : List UInt8) (ops : List Opr) : List UInt8 := ops.flatMap fun x => lineT (opParts w x)
theorem opsT_next {w : List UInt8} {ops : List Opr} {i : Nat} {x : Opr} (h : ops[i]? = some x) : opsT w (ops.take i) ++ lineT (opParts w x) = opsT w (ops.take (i + 1)) := by
  obtain ⟨hi, rfl⟩ := List.getElem?_eq_some_iff.1 h
  unfold opsT
  rw [List.take_succ_eq_append_getElem hi, List.flatMap_append, List.flatMap_singleton]
theorem parts_len {w : List UInt8} (hw : w.length ≤ 10) {x : Opr} (h : OprOk x) : sumL (opParts w x) ≤ 5000000 := by
  have h1 := itoa_len h.a1 h.a2
  have h2 := itoa_len h.b1 h.b2
  have h3 := itoa_len h.d1 h.d2
  have h4 := wordT_len x.b.2.2.1
  have h5 := quoteT_len x.k
  have h6 := h.k1
  unfold sumL opParts
  simp only [List.map_cons, List.map_nil, List.sum_cons, List.sum_nil]
  omega
theorem line_len {ls : List (List UInt8)} (h : sumL ls ≤ 5000000) (hn : ls.length ≤ 6) : (lineT ls).length ≤ 5000007 := by
  have := joinT_len 32 ls
  unfold lineT; simp; omega
theorem opsT_len {w : List UInt8} (hw : w.length ≤ 10) : ∀ {ops : List Opr}, (∀ x ∈ ops, OprOk x) → (opsT w ops).length ≤ 5000007 * ops.length
  | [], _ => by simp [opsT]
  | x :: r, h => by
    have h1 := opsT_len hw (ops := r) (fun y hy => h y (by simp [hy]))
    have h2 := line_len (parts_len hw (h x (by simp))) (by simp [opParts])
    unfold opsT at h1 ⊢
    simp only [List.flatMap_cons, List.length_append, List.length_cons]
    omega

set_option maxRecDepth 100000 in
set_option maxHeartbeats 2000000 in
theorem ts_ops (o1 : Option Nat) (p1 q1 : Nat) (c1 : Array Value) (T1 : TypeId) (f1 : Nat × Nat) (ops : List Opr) (h1 : Sees 18 o1 p1 q1 c1 (ops.flatMap opC) ops.length) (hok : ∀ x ∈ ops, OprOk x) (T0 : TypeId) (r0 : Nat × Nat) (b b4 : Nat) (p : Value) (u0 : Sl) (tx wd : List UInt8) (hp : UsedOr b p) (hu : Txt u0 tx) (ht : tx.length + 5000007 * ops.length ≤ 90000000000) (hwd : wd.length ≤ 10) :
    Ct Tryd.prog 39 [.string (bs wd), sv o1 p1 ops.length q1, .pointer (some ⟨b4, 0, none⟩)] [(o1, .cells c1 T1 f1), (some b4, .cells #[.func (.func 36) #[] #[.pointer (some ⟨b, 0, none⟩)]] 85 (0, 0)), (some 0, .cells powC T0 r0)] [(some b, .cells #[p, u0.v tx.length] 57 (0, 0)), (u0.ob, .cells u0.cs 5 u0.fz)] fun v post => v = .tuple #[] ∧ ∃ p2 u1, UsedOr b p2 ∧ Txt u1 (tx ++ opsT wd ops) ∧ post = [(some b, .cells #[p2, u1.v (tx ++ opsT wd ops).length] 57 (0, 0)), (u1.ob, .cells u1.cs 5 u1.fz)] := by
 have hl1 := h1.le
 have hl2 := h1.max
 refine ct_of Tryd.func39 rfl rfl (fun w0 => ?_)
 show G _ _ [(0, _), (1, _), (2, _)] _ _
 refine G_seq ?_
 refine G_region (l := [0, 1, 2]) rfl ?_
 refine G_val rfl rfl rfl rfl (V_move rfl rfl) ?_
 refine G_val rfl rfl rfl rfl (V_len rfl rfl Tryd.underlying33 rfl) ?_
 refine G_val rfl rfl rfl rfl (V_move rfl rfl) ?_
 rw [show tx.length = (tx ++ opsT wd (ops.take 0)).length by simp [opsT]]
 refine G_done ?_
 refine G_block ?_
 refine G_sub ?he1 [0, 0] ?hl1 (G_loop (X := Nat × Value × Sl) (fun y => match y with | ⟨i, p1_, u⟩ => i ≤ ops.length ∧ UsedOr b p1_ ∧ Txt u (tx ++ opsT wd (ops.take i))) (fun y => match y with | ⟨i, p1_, u⟩ => ops.length - i) (fun y => match y with | ⟨i, p1_, u⟩ => [(0, .string (bs wd)), (2, .pointer (some ⟨b4, 0, none⟩)), (7, sv o1 p1 ops.length q1), (8, .int .i64 (ops.length : Int)), (9, .int .i64 (i : Int))]) (fun y => match y with | ⟨i, p1_, u⟩ => [(some b, .cells #[p1_, u.v (tx ++ opsT wd (ops.take i)).length] 57 (0, 0)), (u.ob, .cells u.cs 5 u.fz)]) ?round1 (0, p, u0) ?h01)
 case he1 => exact (And.intro rfl (And.intro rfl (And.intro rfl (And.intro rfl (And.intro rfl trivial)))))
 case hl1 => exact ⟨_, rfl⟩
 case h01 => exact ⟨Nat.zero_le _, hp, by simpa [opsT] using hu⟩
 case round1 =>
  intro y hJ ih
  try dsimp only at hJ ih
  obtain ⟨i, p1_, u⟩ := y
  try dsimp only at hJ ih
  obtain ⟨hi, hpx, hux⟩ := hJ
  show G _ _ [(0, .string (bs wd)), (2, .pointer (some ⟨b4, 0, none⟩)), (7, sv o1 p1 ops.length q1), (8, .int .i64 (ops.length : Int)), (9, .int .i64 (i : Int))] [(some b, .cells #[p1_, u.v (tx ++ opsT wd (ops.take i)).length] 57 (0, 0)), (u.ob, .cells u.cs 5 u.fz)] _
  refine G_seq ?_
  refine G_region (l := [0]) rfl ?_
  refine G_val rfl rfl rfl rfl (V_lss rfl rfl rfl) ?_
  refine G_done ?_
  refine G_seq ?_
  refine G_ifD rfl (fun hc1 => ?_) (fun hc1 => ?_)
  · skip
    refine G_skip ?_
    refine G_seq ?_
    refine G_block ?_
    refine G_seq ?_
    obtain ⟨x, hx⟩ := getI (show i < ops.length by omega)
    obtain ⟨bo1, rfl⟩ := h1.isSome (by omega)
    have hxo := hok x (List.mem_of_getElem? hx)
    have hx1 := hxo.a1
    have hx2 := hxo.a2
    have hx3 := hxo.b1
    have hx4 := hxo.b2
    have hx5 := hxo.c1
    have hx6 := hxo.c2
    have hx7 := hxo.d1
    have hx8 := hxo.d2
    have hx9 := hxo.k1
    have hsm := parts_len hwd hxo
    have hol := opsT_len hwd (fun y hy => hok y (List.mem_of_mem_take hy) : ∀ y ∈ ops.take i, OprOk y)
    have htl : (ops.take i).length ≤ i := by simp; omega
    refine G_region (l := [0, 1, 2, 3]) rfl ?_
    first
      | refine G_val rfl rfl rfl rfl (V_indexAddrN (s := 18) rfl Tryd.underlying33 infTellS_90 rfl rfl rfl rfl (by omega)) ?_
      | refine G_val rfl rfl rfl rfl (V_indexAddr (s := 18) rfl Tryd.underlying33 infTellS_90 rfl rfl rfl (by omega) (by first | omega | (simp [rqCells, Sl.v, opC]; done) | (simp [rqCells, Sl.v, opC]; omega) | (simp [rqCells, Sl.v, opC] at *; omega))) ?_
    refine G_val rfl rfl rfl rfl (V_loadA (s := 18) (vs := (opC x).toArray) rfl rfl (mem_at 0 rfl) Tryd.underlying90 rfl infTellS_90 rfl (h1.elem op_len hx) (by first | rfl | (simp [bcells_length, rqCells, Sl.v, opC]; done) | (simp [bcells_length, rqCells, Sl.v, opC]; omega) | (simp [bcells_length, *, rqCells, Sl.v, opC]; done))) ?_
    refine G_new rfl rfl rfl rfl (N_allocA rfl infTellS_90 rfl) (fun b6 => ?_)
    refine G_put (l1 := []) (L' := [_, _, _]) rfl rfl rfl rfl (P_storeA (s := 18) rfl rfl rfl (mem_at 0 rfl) (by first | rfl | (simp [bcells_length, rqCells, Sl.v, opC]; done) | (simp [bcells_length, rqCells, Sl.v, opC]; omega) | (simp [bcells_length, *, rqCells, Sl.v, opC]; done)) infTellS_90 rfl (by first | rfl | (simp [bcells_length, rqCells, Sl.v, opC]; done) | (simp [bcells_length, rqCells, Sl.v, opC]; omega) | (simp [bcells_length, *, rqCells, Sl.v, opC]; done)) (by first | rfl | exact bcells_all _ | (simp [Value.oneCell', rqCells, Sl.v, opC]; done) | (simp [Value.oneCell', *, rqCells, Sl.v, opC]; done))) rfl ?_
    refine G_done ?_
    refine GH_start (Lq := [_]) (isq := [0]) (m := 20) mixedK rfl rfl ?_
    refine GH_take 0 rfl rfl rfl rfl (by kernel_rfl) (by kernel_rfl) (by kernel_rfl) (fun _ _ => (V_load1 rfl rfl (mem_at 1 rfl) rfl Tryd.underlying85 rfl)) ?_
    refine GH_take 1 rfl rfl rfl rfl (by kernel_rfl) (by kernel_rfl) (by kernel_rfl) (fun _ _ => (V_move rfl rfl)) ?_
    refine GH_take 2 rfl rfl rfl rfl (by kernel_rfl) (by kernel_rfl) (by kernel_rfl) (fun _ _ => (V_fieldAddr (fo := 0) rfl Tryd.underlying90 rfl infTellS_3 rfl rfl rfl)) ?_
    refine GH_take 3 rfl rfl rfl rfl (by kernel_rfl) (by kernel_rfl) (by kernel_rfl) (fun _ _ => (V_load1 rfl rfl (mem_at 3 rfl) rfl Tryd.underlying3 rfl)) ?_
    refine GH_take 5 rfl rfl rfl rfl (by kernel_rfl) (by kernel_rfl) (by kernel_rfl) (fun _ _ => (V_fieldAddr (fo := 8) rfl Tryd.underlying90 rfl infTellS_3 rfl rfl rfl)) ?_
    refine GH_take 6 rfl rfl rfl rfl (by kernel_rfl) (by kernel_rfl) (by kernel_rfl) (fun _ _ => (V_load1 rfl rfl (mem_at 3 rfl) rfl Tryd.underlying3 rfl)) ?_
    refine GH_take 8 rfl rfl rfl rfl (by kernel_rfl) (by kernel_rfl) (by kernel_rfl) (fun _ _ => (V_fieldAddr (fo := 7) rfl Tryd.underlying90 rfl infTellS_3 rfl rfl rfl)) ?_
    refine GH_take 9 rfl rfl rfl rfl (by kernel_rfl) (by kernel_rfl) (by kernel_rfl) (fun _ _ => (V_load1 rfl rfl (mem_at 3 rfl) rfl Tryd.underlying3 rfl)) ?_
    refine GH_take 11 rfl rfl rfl rfl (by kernel_rfl) (by kernel_rfl) (by kernel_rfl) (fun _ _ => (V_fieldAddr (fo := 9) rfl Tryd.underlying90 rfl infTellS_3 rfl rfl rfl)) ?_
    refine GH_take 12 rfl rfl rfl rfl (by kernel_rfl) (by kernel_rfl) (by kernel_rfl) (fun _ _ => (V_load1 rfl rfl (mem_at 3 rfl) rfl Tryd.underlying3 rfl)) ?_
    refine GH_take 14 rfl rfl rfl rfl (by kernel_rfl) (by kernel_rfl) (by kernel_rfl) (fun _ _ => (V_fieldAddr (fo := 3) rfl Tryd.underlying90 rfl infTellS_88 rfl rfl rfl)) ?_
    refine GH_take 15 rfl rfl rfl rfl (by kernel_rfl) (by kernel_rfl) (by kernel_rfl) (fun _ _ => (V_fieldAddr (fo := 3) rfl Tryd.underlying88 rfl infTellS_9 rfl rfl rfl)) ?_
    refine GH_take 16 rfl rfl rfl rfl (by kernel_rfl) (by kernel_rfl) (by kernel_rfl) (fun _ _ => (V_load1 rfl rfl (mem_at 3 rfl) rfl Tryd.underlying9 rfl)) ?_
    refine GH_all [4] (by kernel_rfl) (by decide) ?_
    refine (And.intro ?_ trivial)
    · skip
      refine GHop_call (L2 := [_, _, _]) rfl rfl rfl rfl rfl rfl Tryd.call40 (tl_num x.a.1 hx1 hx2 T0 r0) [] [2] rfl rfl [0] (by rintro v post ⟨rfl, rfl⟩; exact ⟨_, rfl⟩) ?_
      rintro v post ⟨rfl, rfl⟩
      show GH _ _ _ _ _ _ _ [_, _, _] _
      refine GH_all [7] (by kernel_rfl) (by decide) ?_
      refine (And.intro ?_ trivial)
      · skip
        refine GHop_call (L2 := [_, _, _]) rfl rfl rfl rfl rfl rfl Tryd.call7 (tl_word x.b.2.2.1 hx5 hx6) [] [] rfl rfl [0] (by rintro v post ⟨rfl, rfl⟩; exact ⟨_, rfl⟩) ?_
        rintro v post ⟨rfl, rfl⟩
        show GH _ _ _ _ _ _ _ [_, _, _] _
        refine GH_all [10] (by kernel_rfl) (by decide) ?_
        refine (And.intro ?_ trivial)
        · skip
          refine GHop_call (L2 := [_, _, _]) rfl rfl rfl rfl rfl rfl Tryd.call40 (tl_num x.b.2.1 hx3 hx4 T0 r0) [] [2] rfl rfl [0] (by rintro v post ⟨rfl, rfl⟩; exact ⟨_, rfl⟩) ?_
          rintro v post ⟨rfl, rfl⟩
          show GH _ _ _ _ _ _ _ [_, _, _] _
          refine GH_all [13] (by kernel_rfl) (by decide) ?_
          refine (And.intro ?_ trivial)
          · skip
            refine GHop_call (L2 := [_, _, _]) rfl rfl rfl rfl rfl rfl Tryd.call40 (tl_num x.b.2.2.2 hx7 hx8 T0 r0) [] [2] rfl rfl [0] (by rintro v post ⟨rfl, rfl⟩; exact ⟨_, rfl⟩) ?_
            rintro v post ⟨rfl, rfl⟩
            show GH _ _ _ _ _ _ _ [_, _, _] _
            refine GH_all [17] (by kernel_rfl) (by decide) ?_
            refine (And.intro ?_ trivial)
            · skip
              refine GHop_call (L2 := [_, _, _]) rfl rfl rfl rfl rfl rfl Tryd.call9 (tl_quote x.k (by omega)) [] [] rfl rfl [0] (by rintro v post ⟨rfl, rfl⟩; exact ⟨_, rfl⟩) ?_
              rintro v post ⟨rfl, rfl⟩
              show GH _ _ _ _ _ _ _ [_, _, _] _
              refine GH_all [18] (by kernel_rfl) (by decide) ?_
              refine (And.intro ?_ trivial)
              · skip
                refine GHop_new rfl rfl rfl rfl (N_buildAll (s := 1) (cs := [_, _, _, _, _, _]) rfl Tryd.underlying53 infTellS_9 rfl rfl rfl rfl rfl rfl rfl rfl rfl) [1] (fun _ => ⟨_, rfl⟩) (fun b31 => ?_)
                refine GH_all [19] (by kernel_rfl) (by decide) ?_
                refine (And.intro ?_ trivial)
                · skip
                  refine GHop_callC (L2 := [_, _]) rfl rfl rfl rfl rfl rfl Tryd.call36 rfl (ts_line (some b31) 0 6 _ _ _ (opParts wd x) (sees_lit6 b31 _ _ _ _ _ _) (by simp [opParts]) (by omega) b p1_ u (tx ++ opsT wd (ops.take i)) hpx hux (by simp; omega)) [2, 2] [3] rfl rfl [3] (by rintro v post ⟨rfl, u1, hu1, rfl⟩; exact ⟨_, rfl⟩) ?_
                  rintro v post ⟨rfl, u1, hu1, rfl⟩
                  show GH _ _ _ _ _ _ _ [_, _, _, _] _
                  refine GH_done (by kernel_rfl) ?_
                  refine G_inBlock ?_
                  have hnx : tx ++ opsT wd (ops.take i) ++ (joinT 32 (opParts wd x) ++ [10]) = tx ++ opsT wd (ops.take (i + 1)) := by rw [List.append_assoc, ← opsT_next hx]; rfl
                  rw [hnx] at hu1 ⊢
                  refine G_region (l := [0, 1]) rfl ?_
                  first
                    | refine G_val rfl rfl rfl rfl ((V_add rfl rfl rfl).int (wrap_i64 (by omega))) ?_
                    | refine G_val rfl rfl rfl rfl (V_add rfl rfl rfl) ?_
                  refine G_val rfl rfl rfl rfl (V_move rfl rfl) ?_
                  refine G_done ?_
                  refine G_sub ?_ [0, 0] ?_ (ih (i + 1, .pointer (some ⟨b, 0, none⟩), u1) ?_ ?_)
                  · (refine (And.intro ?_ (And.intro ?_ (And.intro ?_ (And.intro ?_ (And.intro ?_ trivial))))) <;> first | rfl | exact slot_int (by omega) | exact slot_int (by simp))
                  · exact ⟨_, rfl⟩
                  · exact ⟨by omega, .inr rfl, hu1⟩
                  · (first | omega | (dsimp only; omega))
  refine G_exit rfl ?_
  refine G_end (post := [_, _]) Tryd.func39 rfl RVs_nil [0, 0] rfl ?_
  dsimp only [packed]
  rw [List.take_of_length_le (by omega)] at hux ⊢; exact ⟨rfl, p1_, u, hpx, hux, rfl⟩

end
end Go.Proofs.YtjnaeoelnmhjfaaDoor

/- What tell.State tells: the records, the lines, their lengths. -/
set_option linter.unusedSimpArgs false
set_option linter.unusedVariables false
namespace Go.Proofs.YtjnaeoelnmhjfaaDoor
open Go Go.Shelf Go.RowKit

section



def linesT {α : Type} (f : α → List (List UInt8)) (l : List α) : List UInt8 := l.flatMap fun x => lineT (f x)
theorem linesT_next {α : Type} {f : α → List (List UInt8)} {l : List α} {i : Nat} {x : α} (h : l[i]? = some x) : linesT f (l.take i) ++ lineT (f x) = linesT f (l.take (i + 1)) := by
  obtain ⟨hi, rfl⟩ := List.getElem?_eq_some_iff.1 h
  unfold linesT
  rw [List.take_succ_eq_append_getElem hi, List.flatMap_append, List.flatMap_singleton]
theorem linesT_len {α : Type} {f : α → List (List UInt8)} : ∀ {l : List α}, (∀ x ∈ l, sumL (f x) ≤ 5000000 ∧ (f x).length ≤ 6) → (linesT f l).length ≤ 5000007 * l.length
  | [], _ => by simp [linesT]
  | x :: r, h => by
    have h1 := linesT_len (l := r) (f := f) (fun y hy => h y (by simp [hy]))
    have h2 := line_len (h x (by simp)).1 (h x (by simp)).2
    unfold linesT at h1 ⊢
    simp only [List.flatMap_cons, List.length_append, List.length_cons]
    omega
def in64 (x : Int) : Prop := -9223372036854775808 ≤ x ∧ x ≤ 9223372036854775807
/-- A worker, cell by cell. -/
structure Wkr where
  a : Int × Int × Int
  m : List UInt8
  n : List UInt8
  f : Bool
  u : Int
def wkC (x : Wkr) : List Value := [.int .i64 x.a.1, .int .i64 x.a.2.1, .int .i64 x.a.2.2, .string (bs x.m), .string (bs x.n), .bool x.f, .int .u64 x.u]
theorem wk_len (x : Wkr) : (wkC x).length = 7 := rfl
structure WkrOk (x : Wkr) : Prop where
  a1 : in64 x.a.2.1
  a2 : in64 x.a.2.2
  m1 : x.m.length ≤ 1048576
def wkParts (x : Wkr) : List (List UInt8) := [[119, 111, 114, 107, 101, 114], quoteT x.m, Lib.itoa x.a.2.1, Lib.itoa x.a.2.2]
/-- An invitation, cell by cell. -/
structure Ivr where
  a : Int × Int
  s : List UInt8
  b : Int × Int
def ivC (x : Ivr) : List Value := [.int .i64 x.a.1, .int .i64 x.a.2, .string (bs x.s), .int .i64 x.b.1, .int .i64 x.b.2]
theorem iv_len (x : Ivr) : (ivC x).length = 5 := rfl
structure IvrOk (x : Ivr) : Prop where
  a1 : in64 x.a.2
  b1 : in64 x.b.2
  s1 : x.s.length ≤ 1048576
def ivParts (x : Ivr) : List (List UInt8) := [[105, 110, 118], Lib.itoa x.a.2, quoteT x.s, Lib.itoa x.b.2]
/-- A letter, cell by cell. -/
structure Ltr where
  a : Int × Int × Int × Int
  s : List UInt8
  u : Int
def ltC (x : Ltr) : List Value := [.int .i64 x.a.1, .int .i64 x.a.2.1, .int .i64 x.a.2.2.1, .int .i64 x.a.2.2.2, .string (bs x.s), .int .u64 x.u]
theorem lt_len (x : Ltr) : (ltC x).length = 6 := rfl
structure LtrOk (x : Ltr) : Prop where
  a1 : in64 x.a.1
  a2 : in64 x.a.2.2.2
def ltParts (x : Ltr) : List (List UInt8) := [[108, 101, 116, 116, 101, 114], Lib.itoa x.a.1, Lib.itoa x.a.2.2.2]
/-- A watcher, cell by cell. -/
structure Wtr where
  s : List UInt8
  n : Int
def wtC (x : Wtr) : List Value := [.string (bs x.s), .int .i64 x.n]
theorem wt_len (x : Wtr) : (wtC x).length = 2 := rfl
structure WtrOk (x : Wtr) : Prop where
  n1 : in64 x.n
  s1 : x.s.length ≤ 1048576
def wtParts (x : Wtr) : List (List UInt8) := [[119, 97, 105, 116], quoteT x.s, Lib.itoa x.n]
theorem wk_sum {x : Wkr} (h : WkrOk x) : sumL (wkParts x) ≤ 5000000 := by
  have h1 := itoa_len h.a1.1 h.a1.2
  have h2 := itoa_len h.a2.1 h.a2.2
  have h3 := quoteT_len x.m
  have h4 := h.m1
  unfold sumL wkParts
  simp only [List.map_cons, List.map_nil, List.sum_cons, List.sum_nil, List.length_cons, List.length_nil]
  omega
theorem iv_sum {x : Ivr} (h : IvrOk x) : sumL (ivParts x) ≤ 5000000 := by
  have h1 := itoa_len h.a1.1 h.a1.2
  have h2 := itoa_len h.b1.1 h.b1.2
  have h3 := quoteT_len x.s
  have h4 := h.s1
  unfold sumL ivParts
  simp only [List.map_cons, List.map_nil, List.sum_cons, List.sum_nil, List.length_cons, List.length_nil]
  omega
theorem lt_sum {x : Ltr} (h : LtrOk x) : sumL (ltParts x) ≤ 5000000 := by
  have h1 := itoa_len h.a1.1 h.a1.2
  have h2 := itoa_len h.a2.1 h.a2.2
  unfold sumL ltParts
  simp only [List.map_cons, List.map_nil, List.sum_cons, List.sum_nil, List.length_cons, List.length_nil]
  omega
theorem wt_sum {x : Wtr} (h : WtrOk x) : sumL (wtParts x) ≤ 5000000 := by
  have h1 := itoa_len h.n1.1 h.n1.2
  have h3 := quoteT_len x.s
  have h4 := h.s1
  unfold sumL wtParts
  simp only [List.map_cons, List.map_nil, List.sum_cons, List.sum_nil, List.length_cons, List.length_nil]
  omega


def headP (tk : Nat) (dr : Bool) : List (List UInt8) := [[116, 105, 99, 107], Lib.decDigits tk] ++ (if dr then [[100, 114, 97, 105, 110, 105, 110, 103]] else [])
def stT1 (tk : Nat) (dr : Bool) : List UInt8 := lineT (headP tk dr)
def stT2 (tk : Nat) (dr : Bool) (a : List Opr) : List UInt8 := stT1 tk dr ++ opsT [111, 112] a
def stT3 (tk : Nat) (dr : Bool) (a b : List Opr) : List UInt8 := stT2 tk dr a ++ opsT [101, 110, 100, 101, 100] b
def stT4 (tk : Nat) (dr : Bool) (a b : List Opr) (w : List Wkr) : List UInt8 := stT3 tk dr a b ++ linesT wkParts w
def stT5 (tk : Nat) (dr : Bool) (a b : List Opr) (w : List Wkr) (v : List Ivr) : List UInt8 := stT4 tk dr a b w ++ linesT ivParts v
def stT6 (tk : Nat) (dr : Bool) (a b : List Opr) (w : List Wkr) (v : List Ivr) (t : List Ltr) : List UInt8 := stT5 tk dr a b w v ++ linesT ltParts t
def stT7 (tk : Nat) (dr : Bool) (a b : List Opr) (w : List Wkr) (v : List Ivr) (t : List Ltr) (z : List Wtr) : List UInt8 := stT6 tk dr a b w v t ++ linesT wtParts z
theorem head_sum {tk : Nat} (h : tk < 18446744073709551616) (dr : Bool) : sumL (headP tk dr) ≤ 5000000 ∧ (headP tk dr).length ≤ 6 := by
  have h1 := dec_len20 h
  cases dr <;> (unfold headP sumL; simp; try omega)
theorem st1_len {tk : Nat} (h : tk < 18446744073709551616) (dr : Bool) : (stT1 tk dr).length ≤ 5000007 := line_len (head_sum h dr).1 (head_sum h dr).2

end
end Go.Proofs.YtjnaeoelnmhjfaaDoor

/- The walk of tell.State. -/
set_option linter.unusedSimpArgs false
set_option linter.unusedVariables false
namespace Go.Proofs.YtjnaeoelnmhjfaaDoor
open Go Go.Shelf Go.RowKit

section
theorem infTellSw_3 : Tryd.prog.info? 3 = some Tryd.t3 := by kernel_rfl
theorem infTellSw_4 : Tryd.prog.info? 4 = some Tryd.t4 := by kernel_rfl
theorem infTellSw_9 : Tryd.prog.info? 9 = some Tryd.t9 := by kernel_rfl
theorem infTellSw_32 : Tryd.prog.info? 32 = some Tryd.t32 := by kernel_rfl
theorem infTellSw_33 : Tryd.prog.info? 33 = some Tryd.t33 := by kernel_rfl
theorem infTellSw_34 : Tryd.prog.info? 34 = some Tryd.t34 := by kernel_rfl
theorem infTellSw_35 : Tryd.prog.info? 35 = some Tryd.t35 := by kernel_rfl
theorem infTellSw_38 : Tryd.prog.info? 38 = some Tryd.t38 := by kernel_rfl
theorem infTellSw_39 : Tryd.prog.info? 39 = some Tryd.t39 := by kernel_rfl
theorem infTellSw_57 : Tryd.prog.info? 57 = some Tryd.t57 := by kernel_rfl
theorem infTellSw_80 : Tryd.prog.info? 80 = some Tryd.t80 := by kernel_rfl
theorem infTellSw_82 : Tryd.prog.info? 82 = some Tryd.t82 := by kernel_rfl
theorem infTellSw_85 : Tryd.prog.info? 85 = some Tryd.t85 := by kernel_rfl
theorem infTellSw_93 : Tryd.prog.info? 93 = some Tryd.t93 := by kernel_rfl
theorem infTellSw_95 : Tryd.prog.info? 95 = some Tryd.t95 := by kernel_rfl

theorem sees_lit2w (b : Nat) (x0 x1 : List UInt8) : Sees 1 (some b) 0 2 #[strC x0, strC x1] ([x0, x1].map strC) [x0, x1].length := ⟨by simp, by simp, by simp, by simp, fun h => by cases h⟩
theorem sees_lit3w (b : Nat) (x0 x1 x2 : List UInt8) : Sees 1 (some b) 0 3 #[strC x0, strC x1, strC x2] ([x0, x1, x2].map strC) [x0, x1, x2].length := ⟨by simp, by simp, by simp, by simp, fun h => by cases h⟩
theorem sees_lit4w (b : Nat) (x0 x1 x2 x3 : List UInt8) : Sees 1 (some b) 0 4 #[strC x0, strC x1, strC x2, strC x3] ([x0, x1, x2, x3].map strC) [x0, x1, x2, x3].length := ⟨by simp, by simp, by simp, by simp, fun h => by cases h⟩

theorem own_lit2w (b : Nat) (x y : List UInt8) : Own 1 ⟨some b, #[strC x, strC y], (0, 0), 2⟩ [strC x, strC y] 2 := ⟨by simp, by simp, by simp, by simp, by simp, by simp, fun h => by cases h⟩

set_option maxRecDepth 100000 in
set_option maxHeartbeats 4000000 in
theorem ts_state0 (tk : Nat) (htk : tk < 18446744073709551616) (dr : Bool) (n2 n3 n4 n5 n6 : Int) (x11 x12 : Option Addr) (n11 q11 n12 q12 : Nat) (o7 : Option Nat) (p7 q7 : Nat) (c7 : Array Value) (T7 : TypeId) (f7 : Nat × Nat) (l7 : List Opr) (s7 : Sees 18 o7 p7 q7 c7 (l7.flatMap opC) l7.length) (h7 : ∀ x ∈ l7, OprOk x) (o8 : Option Nat) (p8 q8 : Nat) (c8 : Array Value) (T8 : TypeId) (f8 : Nat × Nat) (l8 : List Opr) (s8 : Sees 18 o8 p8 q8 c8 (l8.flatMap opC) l8.length) (h8 : ∀ x ∈ l8, OprOk x) (o9 : Option Nat) (p9 q9 : Nat) (c9 : Array Value) (T9 : TypeId) (f9 : Nat × Nat) (l9 : List Wkr) (s9 : Sees 7 o9 p9 q9 c9 (l9.flatMap wkC) l9.length) (h9 : ∀ x ∈ l9, WkrOk x) (o10 : Option Nat) (p10 q10 : Nat) (c10 : Array Value) (T10 : TypeId) (f10 : Nat × Nat) (l10 : List Ivr) (s10 : Sees 5 o10 p10 q10 c10 (l10.flatMap ivC) l10.length) (h10 : ∀ x ∈ l10, IvrOk x) (o13 : Option Nat) (p13 q13 : Nat) (c13 : Array Value) (T13 : TypeId) (f13 : Nat × Nat) (l13 : List Ltr) (s13 : Sees 6 o13 p13 q13 c13 (l13.flatMap ltC) l13.length) (h13 : ∀ x ∈ l13, LtrOk x) (o14 : Option Nat) (p14 q14 : Nat) (c14 : Array Value) (T14 : TypeId) (f14 : Nat × Nat) (l14 : List Wtr) (s14 : Sees 2 o14 p14 q14 c14 (l14.flatMap wtC) l14.length) (h14 : ∀ x ∈ l14, WtrOk x) (T0 : TypeId) (r0 : Nat × Nat) (hb : l7.length + l8.length + l9.length + l10.length + l13.length + l14.length ≤ 300) :
    Ct Tryd.prog 16 [.agg #[.int .u64 (tk : Int), .bool dr, .int .i64 n2, .int .i64 n3, .int .i64 n4, .int .i64 n5, .int .i64 n6, sv o7 p7 l7.length q7, sv o8 p8 l8.length q8, sv o9 p9 l9.length q9, sv o10 p10 l10.length q10, .slice x11 n11 q11, .slice x12 n12 q12, sv o13 p13 l13.length q13, sv o14 p14 l14.length q14]] [(o7, .cells c7 T7 f7), (o8, .cells c8 T8 f8), (o9, .cells c9 T9 f9), (o10, .cells c10 T10 f10), (o13, .cells c13 T13 f13), (o14, .cells c14 T14 f14), (some 0, .cells powC T0 r0)] [] fun v post => v = .string (bs (stT7 tk dr l7 l8 l9 l10 l13 l14)) ∧ post = [] := by
 refine ct_of Tryd.func16 rfl rfl (fun w0 => ?_)
 show G _ _ [(0, _)] _ _
 refine G_seq ?_
 refine G_region (l := [0, 1]) rfl ?_
 refine G_new rfl rfl rfl rfl (N_boxA rfl rfl) (fun b1 => ?_)
 refine G_val rfl rfl rfl rfl (V_assign rfl rfl) ?_
 refine G_done ?_
 refine G_seq ?_
 refine G_region (l := [0]) rfl ?_
 refine G_new rfl rfl rfl rfl (N_allocA rfl infTellSw_57 rfl) (fun b3 => ?_)
 refine G_done ?_
 refine G_seq ?_
 refine G_region (l := [0, 1, 2]) rfl ?_
 refine G_val rfl rfl rfl rfl (V_func rfl rfl rfl) ?_
 refine G_new rfl rfl rfl rfl (N_alloc1 rfl infTellSw_85 rfl rfl) (fun b4 => ?_)
 refine G_put (l1 := []) (L' := [_, _, _]) rfl rfl rfl rfl (P_store1 rfl rfl rfl (mem_at 0 rfl) (by first | exact of_decide_eq_true rfl | omega | (simp [rqCells, Sl.v, opC, wkC, ivC, ltC, wtC]; done) | (simp [rqCells, Sl.v, opC, wkC, ivC, ltC, wtC]; omega) | (simp [rqCells, Sl.v, opC, wkC, ivC, ltC, wtC] at *; omega)) infTellSw_85 rfl rfl) rfl ?_
 refine G_done ?_
 refine G_seq ?_
 refine G_addNone (.cells #[] 5 (0, 0)) ?_
 refine G_region (l := [0, 1, 2, 3, 4]) rfl ?_
 refine G_val rfl rfl rfl rfl (V_fieldAddr (fo := 0) rfl Tryd.underlying46 rfl infTellSw_32 rfl rfl rfl) ?_
 refine G_val rfl rfl rfl rfl (V_load1 rfl rfl (mem_at 10 rfl) rfl Tryd.underlying32 rfl) ?_
 refine G_call (L2 := [_, _, _, _]) rfl rfl rfl rfl rfl rfl Tryd.call38 (tl_uint tk htk T0 r0) [] [6] rfl rfl ?_
 rintro v post ⟨rfl, rfl⟩
 show G _ _ _ [_, _, _, _] _
 refine G_new rfl rfl rfl rfl (N_buildAll (s := 1) (cs := [_, _]) rfl Tryd.underlying53 infTellSw_9 rfl rfl rfl rfl rfl rfl rfl rfl rfl) (fun b19 => ?_)
 refine G_val rfl rfl rfl rfl (V_assign rfl rfl) ?_
 refine G_done ?_
 refine G_seq ?_
 refine G_seq ?_
 have hl1 := st1_len htk dr
 by_cases hdr : dr = true
 · skip
   refine G_region (l := [0, 1]) rfl ?_
   refine G_val rfl rfl rfl rfl (V_fieldAddr (fo := 1) rfl Tryd.underlying46 rfl infTellSw_4 rfl rfl rfl) ?_
   refine G_val rfl rfl rfl rfl (V_load1 rfl rfl (mem_at 11 rfl) rfl Tryd.underlying4 rfl) ?_
   refine G_done ?_
   refine G_if rfl (fun hc1 => ?_) (fun hc1 => ?_)
   rotate_left
   · (first | exact Bool.noConfusion (hdr.symm.trans hc1) | exact absurd hdr hc1 | exact absurd hc1 hdr | exact absurd hdr.symm hc1 | exact absurd (Eq.symm hc1) hdr | (exact absurd rfl hc1) | (exfalso; omega) | (exfalso; simp at hc1; done))
   refine G_region (l := [0, 1, 2, 3]) rfl ?_
   refine G_val rfl rfl rfl rfl (V_move rfl rfl) ?_
   refine G_new rfl rfl rfl rfl (N_buildAll (s := 1) (cs := [_]) rfl Tryd.underlying53 infTellSw_9 rfl rfl rfl rfl rfl rfl rfl rfl rfl) (fun b23 => ?_)
   refine G_append (l1 := [_]) (s := ⟨some b19, #[strC [116, 105, 99, 107], strC (Lib.decDigits tk)], (0, 0), 2⟩) (nn := 2) (m := 1) (news := [strC [100, 114, 97, 105, 110, 105, 110, 103]]) (bt := 16) rfl rfl rfl rfl Tryd.underlying53 Tryd.underlying53 (by first | exact .inl rfl | exact .inr ⟨_, rfl⟩) infTellSw_9 rfl rfl rfl rfl rfl rfl (own_lit2w b19 _ _) rfl (src_mem (mem_at 7 rfl) rfl rfl (by simp [strC, Value.oneCell'])) (by omega) (by omega) ?_
   intro uh huh _
   show G _ _ _ [_, _, _, _, _, _] _
   refine G_val rfl rfl rfl rfl (V_assign rfl rfl) ?_
   refine G_done ?_
   refine G_seq ?_
   refine G_region (l := [0, 1, 2]) rfl ?_
   refine G_val rfl rfl rfl rfl (V_load1 rfl rfl (mem_at 10 rfl) rfl Tryd.underlying85 rfl) ?_
   refine G_val rfl rfl rfl rfl (V_move rfl rfl) ?_
   refine G_callC (L2 := [_, _, _, _]) rfl rfl rfl rfl rfl rfl Tryd.call36 rfl (ts_line uh.ob 0 uh.cap _ _ _ (headP tk true) huh.sees (by simp [headP]) (by have := (head_sum htk true).1; omega) b3 (Value.pointer none) slNil [] (.inl rfl) txt_nil (by simp)) [4, 2] [8] rfl rfl ?_
   rintro v post ⟨rfl, u1, hu1, rfl⟩
   show G _ _ _ [_, _, _, _, _, _] _
   rw [show ([] ++ (joinT 32 (headP tk true) ++ [10]) : List UInt8) = stT1 tk dr by rw [hdr]; rfl] at hu1 ⊢
   refine G_done ?_
   refine G_seq ?_
   refine G_region (l := [0, 1]) rfl ?_
   refine G_val rfl rfl rfl rfl (V_func rfl rfl rfl) ?_
   refine G_val rfl rfl rfl rfl (V_assign rfl rfl) ?_
   refine G_done ?_
   refine G_seq ?_
   refine G_region (l := [0, 1, 2, 3]) rfl ?_
   refine G_val rfl rfl rfl rfl (V_move rfl rfl) ?_
   refine G_val rfl rfl rfl rfl (V_fieldAddr (fo := 7) rfl Tryd.underlying46 rfl infTellSw_33 rfl rfl rfl) ?_
   refine G_val rfl rfl rfl rfl (V_load1 rfl rfl (mem_at 12 rfl) rfl Tryd.underlying33 rfl) ?_
   refine G_callC (L2 := [_, _, _, _]) rfl rfl rfl rfl rfl rfl Tryd.call39 rfl (ts_ops o7 p7 q7 c7 T7 f7 l7 s7 h7 T0 r0 b3 b4 (.pointer (some ⟨b3, 0, none⟩)) u1 (stT1 tk dr) [111, 112] (.inr rfl) hu1 (by omega) (by simp)) [0, 0] [0, 9, 6] rfl rfl ?_
   rintro v post ⟨rfl, px7, u2, hpx7, hu2, rfl⟩
   show G _ _ _ [_, _, _, _, _, _] _
   rw [show stT1 tk dr ++ opsT [111, 112] l7 = stT2 tk dr l7 from rfl] at hu2 ⊢
   have hl2 : (stT2 tk dr l7).length ≤ (stT1 tk dr).length + 5000007 * l7.length := by
     have := opsT_len (w := [111, 112]) (by simp) h7
     unfold stT2; rw [List.length_append]; omega
   refine G_done ?_
   refine G_seq ?_
   refine G_region (l := [0, 1, 2, 3]) rfl ?_
   refine G_val rfl rfl rfl rfl (V_move rfl rfl) ?_
   refine G_val rfl rfl rfl rfl (V_fieldAddr (fo := 8) rfl Tryd.underlying46 rfl infTellSw_33 rfl rfl rfl) ?_
   refine G_val rfl rfl rfl rfl (V_load1 rfl rfl (mem_at 12 rfl) rfl Tryd.underlying33 rfl) ?_
   refine G_callC (L2 := [_, _, _, _]) rfl rfl rfl rfl rfl rfl Tryd.call39 rfl (ts_ops o8 p8 q8 c8 T8 f8 l8 s8 h8 T0 r0 b3 b4 px7 u2 (stT2 tk dr l7) [101, 110, 100, 101, 100] hpx7 hu2 (by omega) (by simp)) [0, 0] [1, 9, 6] rfl rfl ?_
   rintro v post ⟨rfl, px8, u3, hpx8, hu3, rfl⟩
   show G _ _ _ [_, _, _, _, _, _] _
   rw [show stT2 tk dr l7 ++ opsT [101, 110, 100, 101, 100] l8 = stT3 tk dr l7 l8 from rfl] at hu3 ⊢
   have hl3 : (stT3 tk dr l7 l8).length ≤ (stT2 tk dr l7).length + 5000007 * l8.length := by
     have := opsT_len (w := [101, 110, 100, 101, 100]) (by simp) h8
     unfold stT3; rw [List.length_append]; omega
   refine G_done ?_
   refine G_seq ?_
   refine G_seq ?_
   refine G_region (l := [0, 1, 2, 3]) rfl ?_
   refine G_val rfl rfl rfl rfl (V_fieldAddr (fo := 9) rfl Tryd.underlying46 rfl infTellSw_34 rfl rfl rfl) ?_
   refine G_val rfl rfl rfl rfl (V_load1 rfl rfl (mem_at 12 rfl) rfl Tryd.underlying34 rfl) ?_
   refine G_val rfl rfl rfl rfl (V_len rfl rfl Tryd.underlying34 rfl) ?_
   refine G_val rfl rfl rfl rfl (V_move rfl rfl) ?_
   rw [show (stT3 tk dr l7 l8).length = (stT3 tk dr l7 l8 ++ linesT wkParts (l9.take 0)).length by simp [linesT]]
   refine G_done ?_
   refine G_block ?_
   refine G_sub ?he11 [5, 0, 0, 2] ?hl11 (G_loop (X := Nat × Value × Sl) (fun y => match y with | ⟨i9, py9, v9⟩ => i9 ≤ l9.length ∧ UsedOr b3 py9 ∧ Txt v9 (stT3 tk dr l7 l8 ++ linesT wkParts (l9.take i9))) (fun y => match y with | ⟨i9, py9, v9⟩ => l9.length - i9) (fun y => match y with | ⟨i9, py9, v9⟩ => [(1, .pointer (some ⟨b1, 0, none⟩)), (3, .pointer (some ⟨b3, 0, none⟩)), (4, .pointer (some ⟨b4, 0, none⟩)), (38, sv o9 p9 l9.length q9), (39, .int .i64 (l9.length : Int)), (40, .int .i64 (i9 : Int))]) (fun y => match y with | ⟨i9, py9, v9⟩ => [(some b1, .cells #[.int .u64 (tk : Int), .bool dr, .int .i64 n2, .int .i64 n3, .int .i64 n4, .int .i64 n5, .int .i64 n6, sv o7 p7 l7.length q7, sv o8 p8 l8.length q8, sv o9 p9 l9.length q9, sv o10 p10 l10.length q10, .slice x11 n11 q11, .slice x12 n12 q12, sv o13 p13 l13.length q13, sv o14 p14 l14.length q14] 46 (0, 0)), (some b3, .cells #[py9, v9.v (stT3 tk dr l7 l8 ++ linesT wkParts (l9.take i9)).length] 57 (0, 0)), (v9.ob, .cells v9.cs 5 v9.fz), (some b4, .cells #[.func (.func 36) #[] #[.pointer (some ⟨b3, 0, none⟩)]] 85 (0, 0))]) ?round11 (0, px8, u3) ?h011)
   case he11 => exact (And.intro rfl (And.intro rfl (And.intro rfl (And.intro rfl (And.intro rfl (And.intro rfl trivial))))))
   case hl11 => exact ⟨_, rfl⟩
   case h011 => exact ⟨Nat.zero_le _, hpx8, by simpa [linesT] using hu3⟩
   case round11 =>
    intro y hJ ih9
    try dsimp only at hJ ih9
    obtain ⟨i9, py9, v9⟩ := y
    try dsimp only at hJ ih9
    obtain ⟨hi9, hp9, hv9⟩ := hJ
    show G _ _ [(1, .pointer (some ⟨b1, 0, none⟩)), (3, .pointer (some ⟨b3, 0, none⟩)), (4, .pointer (some ⟨b4, 0, none⟩)), (38, sv o9 p9 l9.length q9), (39, .int .i64 (l9.length : Int)), (40, .int .i64 (i9 : Int))] [(some b1, .cells #[.int .u64 (tk : Int), .bool dr, .int .i64 n2, .int .i64 n3, .int .i64 n4, .int .i64 n5, .int .i64 n6, sv o7 p7 l7.length q7, sv o8 p8 l8.length q8, sv o9 p9 l9.length q9, sv o10 p10 l10.length q10, .slice x11 n11 q11, .slice x12 n12 q12, sv o13 p13 l13.length q13, sv o14 p14 l14.length q14] 46 (0, 0)), (some b3, .cells #[py9, v9.v (stT3 tk dr l7 l8 ++ linesT wkParts (l9.take i9)).length] 57 (0, 0)), (v9.ob, .cells v9.cs 5 v9.fz), (some b4, .cells #[.func (.func 36) #[] #[.pointer (some ⟨b3, 0, none⟩)]] 85 (0, 0))] _
    refine G_seq ?_
    refine G_region (l := [0]) rfl ?_
    refine G_val rfl rfl rfl rfl (V_lss rfl rfl rfl) ?_
    refine G_done ?_
    refine G_seq ?_
    refine G_ifD rfl (fun hc2 => ?_) (fun hc2 => ?_)
    · skip
      refine G_skip ?_
      refine G_seq ?_
      refine G_block ?_
      refine G_seq ?_
      obtain ⟨x9, hx9⟩ := getI (show i9 < l9.length by omega)
      obtain ⟨bo9, rfl⟩ := s9.isSome (by omega)
      have hk9 := h9 x9 (List.mem_of_getElem? hx9)
      have hs9 := wk_sum hk9
      have hz9 : (linesT wkParts (l9.take i9)).length ≤ 5000007 * (l9.take i9).length := linesT_len (fun y hy => ⟨wk_sum (h9 y (List.mem_of_mem_take hy)), by simp [wkParts]⟩)
      have ht9 : (l9.take i9).length ≤ i9 := by simp; omega
      refine G_region (l := [0, 1, 2, 3]) rfl ?_
      first
        | refine G_val rfl rfl rfl rfl (V_indexAddrN (s := 7) rfl Tryd.underlying34 infTellSw_80 rfl rfl rfl rfl (by omega)) ?_
        | refine G_val rfl rfl rfl rfl (V_indexAddr (s := 7) rfl Tryd.underlying34 infTellSw_80 rfl rfl rfl (by omega) (by first | omega | (simp [rqCells, Sl.v, opC, wkC, ivC, ltC, wtC]; done) | (simp [rqCells, Sl.v, opC, wkC, ivC, ltC, wtC]; omega) | (simp [rqCells, Sl.v, opC, wkC, ivC, ltC, wtC] at *; omega))) ?_
      refine G_val rfl rfl rfl rfl (V_loadA (s := 7) (vs := (wkC x9).toArray) rfl rfl (mem_at 2 rfl) Tryd.underlying80 rfl infTellSw_80 rfl (s9.elem wk_len hx9) (by first | rfl | (simp [bcells_length, rqCells, Sl.v, opC, wkC, ivC, ltC, wtC]; done) | (simp [bcells_length, rqCells, Sl.v, opC, wkC, ivC, ltC, wtC]; omega) | (simp [bcells_length, *, rqCells, Sl.v, opC, wkC, ivC, ltC, wtC]; done))) ?_
      refine G_new rfl rfl rfl rfl (N_allocA rfl infTellSw_80 rfl) (fun b8 => ?_)
      refine G_put (l1 := []) (L' := [_, _, _, _, _]) rfl rfl rfl rfl (P_storeA (s := 7) rfl rfl rfl (mem_at 0 rfl) (by first | rfl | (simp [bcells_length, rqCells, Sl.v, opC, wkC, ivC, ltC, wtC]; done) | (simp [bcells_length, rqCells, Sl.v, opC, wkC, ivC, ltC, wtC]; omega) | (simp [bcells_length, *, rqCells, Sl.v, opC, wkC, ivC, ltC, wtC]; done)) infTellSw_80 rfl (by first | rfl | (simp [bcells_length, rqCells, Sl.v, opC, wkC, ivC, ltC, wtC]; done) | (simp [bcells_length, rqCells, Sl.v, opC, wkC, ivC, ltC, wtC]; omega) | (simp [bcells_length, *, rqCells, Sl.v, opC, wkC, ivC, ltC, wtC]; done)) (by first | rfl | exact bcells_all _ | (simp [Value.oneCell', rqCells, Sl.v, opC, wkC, ivC, ltC, wtC]; done) | (simp [Value.oneCell', *, rqCells, Sl.v, opC, wkC, ivC, ltC, wtC]; done))) rfl ?_
      refine G_done ?_
      refine GH_start (Lq := [_, _]) (isq := [4, 0]) (m := 12) mixedK rfl rfl ?_
      refine GH_take 0 rfl rfl rfl rfl (by kernel_rfl) (by kernel_rfl) (by kernel_rfl) (fun _ _ => (V_load1 rfl rfl (mem_at 7 rfl) rfl Tryd.underlying85 rfl)) ?_
      refine GH_take 1 rfl rfl rfl rfl (by kernel_rfl) (by kernel_rfl) (by kernel_rfl) (fun _ _ => (V_fieldAddr (fo := 3) rfl Tryd.underlying80 rfl infTellSw_9 rfl rfl rfl)) ?_
      refine GH_take 2 rfl rfl rfl rfl (by kernel_rfl) (by kernel_rfl) (by kernel_rfl) (fun _ _ => (V_load1 rfl rfl (mem_at 8 rfl) rfl Tryd.underlying9 rfl)) ?_
      refine GH_take 4 rfl rfl rfl rfl (by kernel_rfl) (by kernel_rfl) (by kernel_rfl) (fun _ _ => (V_fieldAddr (fo := 1) rfl Tryd.underlying80 rfl infTellSw_3 rfl rfl rfl)) ?_
      refine GH_take 5 rfl rfl rfl rfl (by kernel_rfl) (by kernel_rfl) (by kernel_rfl) (fun _ _ => (V_load1 rfl rfl (mem_at 8 rfl) rfl Tryd.underlying3 rfl)) ?_
      refine GH_take 7 rfl rfl rfl rfl (by kernel_rfl) (by kernel_rfl) (by kernel_rfl) (fun _ _ => (V_fieldAddr (fo := 2) rfl Tryd.underlying80 rfl infTellSw_3 rfl rfl rfl)) ?_
      refine GH_take 8 rfl rfl rfl rfl (by kernel_rfl) (by kernel_rfl) (by kernel_rfl) (fun _ _ => (V_load1 rfl rfl (mem_at 8 rfl) rfl Tryd.underlying3 rfl)) ?_
      refine GH_all [3] (by kernel_rfl) (by decide) ?_
      refine (And.intro ?_ trivial)
      · skip
        refine GHop_call (L2 := [_, _, _, _, _]) rfl rfl rfl rfl rfl rfl Tryd.call9 (tl_quote x9.m (by have := hk9.m1; omega)) [] [] rfl rfl [4, 0] (by rintro v post ⟨rfl, rfl⟩; exact ⟨_, rfl⟩) ?_
        rintro v post ⟨rfl, rfl⟩
        show GH _ _ _ _ _ _ _ [_, _, _, _, _] _
        refine GH_all [6] (by kernel_rfl) (by decide) ?_
        refine (And.intro ?_ trivial)
        · skip
          refine GHop_call (L2 := [_, _, _, _, _]) rfl rfl rfl rfl rfl rfl Tryd.call40 (tl_num x9.a.2.1 hk9.a1.1 hk9.a1.2 T0 r0) [] [6] rfl rfl [4, 0] (by rintro v post ⟨rfl, rfl⟩; exact ⟨_, rfl⟩) ?_
          rintro v post ⟨rfl, rfl⟩
          show GH _ _ _ _ _ _ _ [_, _, _, _, _] _
          refine GH_all [9] (by kernel_rfl) (by decide) ?_
          refine (And.intro ?_ trivial)
          · skip
            refine GHop_call (L2 := [_, _, _, _, _]) rfl rfl rfl rfl rfl rfl Tryd.call40 (tl_num x9.a.2.2 hk9.a2.1 hk9.a2.2 T0 r0) [] [6] rfl rfl [4, 0] (by rintro v post ⟨rfl, rfl⟩; exact ⟨_, rfl⟩) ?_
            rintro v post ⟨rfl, rfl⟩
            show GH _ _ _ _ _ _ _ [_, _, _, _, _] _
            refine GH_all [10] (by kernel_rfl) (by decide) ?_
            refine (And.intro ?_ trivial)
            · skip
              refine GHop_new rfl rfl rfl rfl (N_buildAll (s := 1) (cs := [_, _, _, _]) rfl Tryd.underlying53 infTellSw_9 rfl rfl rfl rfl rfl rfl rfl rfl rfl) [5, 1] (fun _ => ⟨_, rfl⟩) (fun b54 => ?_)
              refine GH_all [11] (by kernel_rfl) (by decide) ?_
              refine (And.intro ?_ trivial)
              · skip
                refine GHop_callC (L2 := [_, _, _, _]) rfl rfl rfl rfl rfl rfl Tryd.call36 rfl (ts_line (some b54) 0 4 _ _ _ (wkParts x9) (sees_lit4w b54 _ _ _ _) (by simp [wkParts]) (by omega) b3 py9 v9 (stT3 tk dr l7 l8 ++ linesT wkParts (l9.take i9)) hp9 hv9 (by simp only [List.length_append]; omega)) [3, 3] [7] rfl rfl [5, 3] (by rintro v post ⟨rfl, w9, hw9, rfl⟩; exact ⟨_, rfl⟩) ?_
                rintro v post ⟨rfl, w9, hw9, rfl⟩
                show GH _ _ _ _ _ _ _ [_, _, _, _, _, _] _
                refine GH_done (by kernel_rfl) ?_
                refine G_inBlock ?_
                have hn9 : (stT3 tk dr l7 l8 ++ linesT wkParts (l9.take i9)) ++ (joinT 32 (wkParts x9) ++ [10]) = stT3 tk dr l7 l8 ++ linesT wkParts (l9.take (i9 + 1)) := by rw [List.append_assoc, ← linesT_next hx9]; rfl
                rw [hn9] at hw9 ⊢
                refine G_region (l := [0, 1]) rfl ?_
                first
                  | refine G_val rfl rfl rfl rfl ((V_add rfl rfl rfl).int (wrap_i64 (by omega))) ?_
                  | refine G_val rfl rfl rfl rfl (V_add rfl rfl rfl) ?_
                refine G_val rfl rfl rfl rfl (V_move rfl rfl) ?_
                refine G_done ?_
                refine G_sub ?_ [4, 0, 0, 2] ?_ (ih9 (i9 + 1, .pointer (some ⟨b3, 0, none⟩), w9) ?_ ?_)
                · (refine (And.intro ?_ (And.intro ?_ (And.intro ?_ (And.intro ?_ (And.intro ?_ (And.intro ?_ trivial)))))) <;> first | rfl | exact slot_int (by omega) | exact slot_int (by simp))
                · exact ⟨_, rfl⟩
                · exact ⟨by omega, .inr rfl, hw9⟩
                · (first | omega | (dsimp only; omega))
    refine G_exit rfl ?_
    refine G_seq ?_
    refine G_seq ?_
    rw [List.take_of_length_le (show l9.length ≤ i9 by omega)] at hv9 ⊢
    rw [show stT3 tk dr l7 l8 ++ linesT wkParts l9 = stT4 tk dr l7 l8 l9 from rfl] at hv9 ⊢
    have hl4 : (stT4 tk dr l7 l8 l9).length ≤ (stT3 tk dr l7 l8).length + 5000007 * l9.length := by
      have := linesT_len (f := wkParts) (l := l9) (fun y hy => ⟨wk_sum (h9 y hy), by simp [wkParts]⟩)
      unfold stT4; rw [List.length_append]; omega
    refine G_region (l := [0, 1, 2, 3]) rfl ?_
    refine G_val rfl rfl rfl rfl (V_fieldAddr (fo := 10) rfl Tryd.underlying46 rfl infTellSw_35 rfl rfl rfl) ?_
    refine G_val rfl rfl rfl rfl (V_load1 rfl rfl (mem_at 7 rfl) rfl Tryd.underlying35 rfl) ?_
    refine G_val rfl rfl rfl rfl (V_len rfl rfl Tryd.underlying35 rfl) ?_
    refine G_val rfl rfl rfl rfl (V_move rfl rfl) ?_
    rw [show (stT4 tk dr l7 l8 l9).length = (stT4 tk dr l7 l8 l9 ++ linesT ivParts (l10.take 0)).length by simp [linesT]]
    refine G_done ?_
    refine G_block ?_
    refine G_sub ?he16 [0, 0, 0, 0] ?hl16 (G_loop (X := Nat × Value × Sl) (fun y => match y with | ⟨i10, py10, v10⟩ => i10 ≤ l10.length ∧ UsedOr b3 py10 ∧ Txt v10 (stT4 tk dr l7 l8 l9 ++ linesT ivParts (l10.take i10))) (fun y => match y with | ⟨i10, py10, v10⟩ => l10.length - i10) (fun y => match y with | ⟨i10, py10, v10⟩ => [(1, .pointer (some ⟨b1, 0, none⟩)), (3, .pointer (some ⟨b3, 0, none⟩)), (4, .pointer (some ⟨b4, 0, none⟩)), (58, sv o10 p10 l10.length q10), (59, .int .i64 (l10.length : Int)), (60, .int .i64 (i10 : Int))]) (fun y => match y with | ⟨i10, py10, v10⟩ => [(some b1, .cells #[.int .u64 (tk : Int), .bool dr, .int .i64 n2, .int .i64 n3, .int .i64 n4, .int .i64 n5, .int .i64 n6, sv o7 p7 l7.length q7, sv o8 p8 l8.length q8, sv o9 p9 l9.length q9, sv o10 p10 l10.length q10, .slice x11 n11 q11, .slice x12 n12 q12, sv o13 p13 l13.length q13, sv o14 p14 l14.length q14] 46 (0, 0)), (some b3, .cells #[py10, v10.v (stT4 tk dr l7 l8 l9 ++ linesT ivParts (l10.take i10)).length] 57 (0, 0)), (v10.ob, .cells v10.cs 5 v10.fz), (some b4, .cells #[.func (.func 36) #[] #[.pointer (some ⟨b3, 0, none⟩)]] 85 (0, 0))]) ?round16 (0, py9, v9) ?h016)
    case he16 => exact (And.intro rfl (And.intro rfl (And.intro rfl (And.intro rfl (And.intro rfl (And.intro rfl trivial))))))
    case hl16 => exact ⟨_, rfl⟩
    case h016 => exact ⟨Nat.zero_le _, hp9, by simpa [linesT] using hv9⟩
    case round16 =>
     intro y hJ ih10
     try dsimp only at hJ ih10
     obtain ⟨i10, py10, v10⟩ := y
     try dsimp only at hJ ih10
     obtain ⟨hi10, hp10, hv10⟩ := hJ
     show G _ _ [(1, .pointer (some ⟨b1, 0, none⟩)), (3, .pointer (some ⟨b3, 0, none⟩)), (4, .pointer (some ⟨b4, 0, none⟩)), (58, sv o10 p10 l10.length q10), (59, .int .i64 (l10.length : Int)), (60, .int .i64 (i10 : Int))] [(some b1, .cells #[.int .u64 (tk : Int), .bool dr, .int .i64 n2, .int .i64 n3, .int .i64 n4, .int .i64 n5, .int .i64 n6, sv o7 p7 l7.length q7, sv o8 p8 l8.length q8, sv o9 p9 l9.length q9, sv o10 p10 l10.length q10, .slice x11 n11 q11, .slice x12 n12 q12, sv o13 p13 l13.length q13, sv o14 p14 l14.length q14] 46 (0, 0)), (some b3, .cells #[py10, v10.v (stT4 tk dr l7 l8 l9 ++ linesT ivParts (l10.take i10)).length] 57 (0, 0)), (v10.ob, .cells v10.cs 5 v10.fz), (some b4, .cells #[.func (.func 36) #[] #[.pointer (some ⟨b3, 0, none⟩)]] 85 (0, 0))] _
     refine G_seq ?_
     refine G_region (l := [0]) rfl ?_
     refine G_val rfl rfl rfl rfl (V_lss rfl rfl rfl) ?_
     refine G_done ?_
     refine G_seq ?_
     refine G_ifD rfl (fun hc3 => ?_) (fun hc3 => ?_)
     · skip
       refine G_skip ?_
       refine G_seq ?_
       refine G_block ?_
       refine G_seq ?_
       obtain ⟨x10, hx10⟩ := getI (show i10 < l10.length by omega)
       obtain ⟨bo10, rfl⟩ := s10.isSome (by omega)
       have hk10 := h10 x10 (List.mem_of_getElem? hx10)
       have hs10 := iv_sum hk10
       have hz10 : (linesT ivParts (l10.take i10)).length ≤ 5000007 * (l10.take i10).length := linesT_len (fun y hy => ⟨iv_sum (h10 y (List.mem_of_mem_take hy)), by simp [ivParts]⟩)
       have ht10 : (l10.take i10).length ≤ i10 := by simp; omega
       refine G_region (l := [0, 1, 2, 3]) rfl ?_
       first
         | refine G_val rfl rfl rfl rfl (V_indexAddrN (s := 5) rfl Tryd.underlying35 infTellSw_82 rfl rfl rfl rfl (by omega)) ?_
         | refine G_val rfl rfl rfl rfl (V_indexAddr (s := 5) rfl Tryd.underlying35 infTellSw_82 rfl rfl rfl (by omega) (by first | omega | (simp [rqCells, Sl.v, opC, wkC, ivC, ltC, wtC]; done) | (simp [rqCells, Sl.v, opC, wkC, ivC, ltC, wtC]; omega) | (simp [rqCells, Sl.v, opC, wkC, ivC, ltC, wtC] at *; omega))) ?_
       refine G_val rfl rfl rfl rfl (V_loadA (s := 5) (vs := (ivC x10).toArray) rfl rfl (mem_at 3 rfl) Tryd.underlying82 rfl infTellSw_82 rfl (s10.elem iv_len hx10) (by first | rfl | (simp [bcells_length, rqCells, Sl.v, opC, wkC, ivC, ltC, wtC]; done) | (simp [bcells_length, rqCells, Sl.v, opC, wkC, ivC, ltC, wtC]; omega) | (simp [bcells_length, *, rqCells, Sl.v, opC, wkC, ivC, ltC, wtC]; done))) ?_
       refine G_new rfl rfl rfl rfl (N_allocA rfl infTellSw_82 rfl) (fun b10 => ?_)
       refine G_put (l1 := []) (L' := [_, _, _, _, _]) rfl rfl rfl rfl (P_storeA (s := 5) rfl rfl rfl (mem_at 0 rfl) (by first | rfl | (simp [bcells_length, rqCells, Sl.v, opC, wkC, ivC, ltC, wtC]; done) | (simp [bcells_length, rqCells, Sl.v, opC, wkC, ivC, ltC, wtC]; omega) | (simp [bcells_length, *, rqCells, Sl.v, opC, wkC, ivC, ltC, wtC]; done)) infTellSw_82 rfl (by first | rfl | (simp [bcells_length, rqCells, Sl.v, opC, wkC, ivC, ltC, wtC]; done) | (simp [bcells_length, rqCells, Sl.v, opC, wkC, ivC, ltC, wtC]; omega) | (simp [bcells_length, *, rqCells, Sl.v, opC, wkC, ivC, ltC, wtC]; done)) (by first | rfl | exact bcells_all _ | (simp [Value.oneCell', rqCells, Sl.v, opC, wkC, ivC, ltC, wtC]; done) | (simp [Value.oneCell', *, rqCells, Sl.v, opC, wkC, ivC, ltC, wtC]; done))) rfl ?_
       refine G_done ?_
       refine GH_start (Lq := [_, _]) (isq := [4, 0]) (m := 12) mixedK rfl rfl ?_
       refine GH_take 0 rfl rfl rfl rfl (by kernel_rfl) (by kernel_rfl) (by kernel_rfl) (fun _ _ => (V_load1 rfl rfl (mem_at 7 rfl) rfl Tryd.underlying85 rfl)) ?_
       refine GH_take 1 rfl rfl rfl rfl (by kernel_rfl) (by kernel_rfl) (by kernel_rfl) (fun _ _ => (V_fieldAddr (fo := 1) rfl Tryd.underlying82 rfl infTellSw_3 rfl rfl rfl)) ?_
       refine GH_take 2 rfl rfl rfl rfl (by kernel_rfl) (by kernel_rfl) (by kernel_rfl) (fun _ _ => (V_load1 rfl rfl (mem_at 8 rfl) rfl Tryd.underlying3 rfl)) ?_
       refine GH_take 4 rfl rfl rfl rfl (by kernel_rfl) (by kernel_rfl) (by kernel_rfl) (fun _ _ => (V_fieldAddr (fo := 2) rfl Tryd.underlying82 rfl infTellSw_9 rfl rfl rfl)) ?_
       refine GH_take 5 rfl rfl rfl rfl (by kernel_rfl) (by kernel_rfl) (by kernel_rfl) (fun _ _ => (V_load1 rfl rfl (mem_at 8 rfl) rfl Tryd.underlying9 rfl)) ?_
       refine GH_take 7 rfl rfl rfl rfl (by kernel_rfl) (by kernel_rfl) (by kernel_rfl) (fun _ _ => (V_fieldAddr (fo := 4) rfl Tryd.underlying82 rfl infTellSw_3 rfl rfl rfl)) ?_
       refine GH_take 8 rfl rfl rfl rfl (by kernel_rfl) (by kernel_rfl) (by kernel_rfl) (fun _ _ => (V_load1 rfl rfl (mem_at 8 rfl) rfl Tryd.underlying3 rfl)) ?_
       refine GH_all [3] (by kernel_rfl) (by decide) ?_
       refine (And.intro ?_ trivial)
       · skip
         refine GHop_call (L2 := [_, _, _, _, _]) rfl rfl rfl rfl rfl rfl Tryd.call40 (tl_num x10.a.2 hk10.a1.1 hk10.a1.2 T0 r0) [] [6] rfl rfl [4, 0] (by rintro v post ⟨rfl, rfl⟩; exact ⟨_, rfl⟩) ?_
         rintro v post ⟨rfl, rfl⟩
         show GH _ _ _ _ _ _ _ [_, _, _, _, _] _
         refine GH_all [6] (by kernel_rfl) (by decide) ?_
         refine (And.intro ?_ trivial)
         · skip
           refine GHop_call (L2 := [_, _, _, _, _]) rfl rfl rfl rfl rfl rfl Tryd.call9 (tl_quote x10.s (by have := hk10.s1; omega)) [] [] rfl rfl [4, 0] (by rintro v post ⟨rfl, rfl⟩; exact ⟨_, rfl⟩) ?_
           rintro v post ⟨rfl, rfl⟩
           show GH _ _ _ _ _ _ _ [_, _, _, _, _] _
           refine GH_all [9] (by kernel_rfl) (by decide) ?_
           refine (And.intro ?_ trivial)
           · skip
             refine GHop_call (L2 := [_, _, _, _, _]) rfl rfl rfl rfl rfl rfl Tryd.call40 (tl_num x10.b.2 hk10.b1.1 hk10.b1.2 T0 r0) [] [6] rfl rfl [4, 0] (by rintro v post ⟨rfl, rfl⟩; exact ⟨_, rfl⟩) ?_
             rintro v post ⟨rfl, rfl⟩
             show GH _ _ _ _ _ _ _ [_, _, _, _, _] _
             refine GH_all [10] (by kernel_rfl) (by decide) ?_
             refine (And.intro ?_ trivial)
             · skip
               refine GHop_new rfl rfl rfl rfl (N_buildAll (s := 1) (cs := [_, _, _, _]) rfl Tryd.underlying53 infTellSw_9 rfl rfl rfl rfl rfl rfl rfl rfl rfl) [5, 1] (fun _ => ⟨_, rfl⟩) (fun b74 => ?_)
               refine GH_all [11] (by kernel_rfl) (by decide) ?_
               refine (And.intro ?_ trivial)
               · skip
                 refine GHop_callC (L2 := [_, _, _, _]) rfl rfl rfl rfl rfl rfl Tryd.call36 rfl (ts_line (some b74) 0 4 _ _ _ (ivParts x10) (sees_lit4w b74 _ _ _ _) (by simp [ivParts]) (by omega) b3 py10 v10 (stT4 tk dr l7 l8 l9 ++ linesT ivParts (l10.take i10)) hp10 hv10 (by simp only [List.length_append]; omega)) [3, 3] [7] rfl rfl [5, 3] (by rintro v post ⟨rfl, w10, hw10, rfl⟩; exact ⟨_, rfl⟩) ?_
                 rintro v post ⟨rfl, w10, hw10, rfl⟩
                 show GH _ _ _ _ _ _ _ [_, _, _, _, _, _] _
                 refine GH_done (by kernel_rfl) ?_
                 refine G_inBlock ?_
                 have hn10 : (stT4 tk dr l7 l8 l9 ++ linesT ivParts (l10.take i10)) ++ (joinT 32 (ivParts x10) ++ [10]) = stT4 tk dr l7 l8 l9 ++ linesT ivParts (l10.take (i10 + 1)) := by rw [List.append_assoc, ← linesT_next hx10]; rfl
                 rw [hn10] at hw10 ⊢
                 refine G_region (l := [0, 1]) rfl ?_
                 first
                   | refine G_val rfl rfl rfl rfl ((V_add rfl rfl rfl).int (wrap_i64 (by omega))) ?_
                   | refine G_val rfl rfl rfl rfl (V_add rfl rfl rfl) ?_
                 refine G_val rfl rfl rfl rfl (V_move rfl rfl) ?_
                 refine G_done ?_
                 refine G_sub ?_ [4, 0, 0, 2] ?_ (ih10 (i10 + 1, .pointer (some ⟨b3, 0, none⟩), w10) ?_ ?_)
                 · (refine (And.intro ?_ (And.intro ?_ (And.intro ?_ (And.intro ?_ (And.intro ?_ (And.intro ?_ trivial)))))) <;> first | rfl | exact slot_int (by omega) | exact slot_int (by simp))
                 · exact ⟨_, rfl⟩
                 · exact ⟨by omega, .inr rfl, hw10⟩
                 · (first | omega | (dsimp only; omega))
     refine G_exit rfl ?_
     refine G_seq ?_
     refine G_seq ?_
     rw [List.take_of_length_le (show l10.length ≤ i10 by omega)] at hv10 ⊢
     rw [show stT4 tk dr l7 l8 l9 ++ linesT ivParts l10 = stT5 tk dr l7 l8 l9 l10 from rfl] at hv10 ⊢
     have hl5 : (stT5 tk dr l7 l8 l9 l10).length ≤ (stT4 tk dr l7 l8 l9).length + 5000007 * l10.length := by
       have := linesT_len (f := ivParts) (l := l10) (fun y hy => ⟨iv_sum (h10 y hy), by simp [ivParts]⟩)
       unfold stT5; rw [List.length_append]; omega
     refine G_region (l := [0, 1, 2, 3]) rfl ?_
     refine G_val rfl rfl rfl rfl (V_fieldAddr (fo := 13) rfl Tryd.underlying46 rfl infTellSw_38 rfl rfl rfl) ?_
     refine G_val rfl rfl rfl rfl (V_load1 rfl rfl (mem_at 7 rfl) rfl Tryd.underlying38 rfl) ?_
     refine G_val rfl rfl rfl rfl (V_len rfl rfl Tryd.underlying38 rfl) ?_
     refine G_val rfl rfl rfl rfl (V_move rfl rfl) ?_
     rw [show (stT5 tk dr l7 l8 l9 l10).length = (stT5 tk dr l7 l8 l9 l10 ++ linesT ltParts (l13.take 0)).length by simp [linesT]]
     refine G_done ?_
     refine G_block ?_
     refine G_sub ?he21 [0, 0, 0, 0] ?hl21 (G_loop (X := Nat × Value × Sl) (fun y => match y with | ⟨i13, py13, v13⟩ => i13 ≤ l13.length ∧ UsedOr b3 py13 ∧ Txt v13 (stT5 tk dr l7 l8 l9 l10 ++ linesT ltParts (l13.take i13))) (fun y => match y with | ⟨i13, py13, v13⟩ => l13.length - i13) (fun y => match y with | ⟨i13, py13, v13⟩ => [(1, .pointer (some ⟨b1, 0, none⟩)), (3, .pointer (some ⟨b3, 0, none⟩)), (4, .pointer (some ⟨b4, 0, none⟩)), (78, sv o13 p13 l13.length q13), (79, .int .i64 (l13.length : Int)), (80, .int .i64 (i13 : Int))]) (fun y => match y with | ⟨i13, py13, v13⟩ => [(some b1, .cells #[.int .u64 (tk : Int), .bool dr, .int .i64 n2, .int .i64 n3, .int .i64 n4, .int .i64 n5, .int .i64 n6, sv o7 p7 l7.length q7, sv o8 p8 l8.length q8, sv o9 p9 l9.length q9, sv o10 p10 l10.length q10, .slice x11 n11 q11, .slice x12 n12 q12, sv o13 p13 l13.length q13, sv o14 p14 l14.length q14] 46 (0, 0)), (some b3, .cells #[py13, v13.v (stT5 tk dr l7 l8 l9 l10 ++ linesT ltParts (l13.take i13)).length] 57 (0, 0)), (v13.ob, .cells v13.cs 5 v13.fz), (some b4, .cells #[.func (.func 36) #[] #[.pointer (some ⟨b3, 0, none⟩)]] 85 (0, 0))]) ?round21 (0, py10, v10) ?h021)
     case he21 => exact (And.intro rfl (And.intro rfl (And.intro rfl (And.intro rfl (And.intro rfl (And.intro rfl trivial))))))
     case hl21 => exact ⟨_, rfl⟩
     case h021 => exact ⟨Nat.zero_le _, hp10, by simpa [linesT] using hv10⟩
     case round21 =>
      intro y hJ ih13
      try dsimp only at hJ ih13
      obtain ⟨i13, py13, v13⟩ := y
      try dsimp only at hJ ih13
      obtain ⟨hi13, hp13, hv13⟩ := hJ
      show G _ _ [(1, .pointer (some ⟨b1, 0, none⟩)), (3, .pointer (some ⟨b3, 0, none⟩)), (4, .pointer (some ⟨b4, 0, none⟩)), (78, sv o13 p13 l13.length q13), (79, .int .i64 (l13.length : Int)), (80, .int .i64 (i13 : Int))] [(some b1, .cells #[.int .u64 (tk : Int), .bool dr, .int .i64 n2, .int .i64 n3, .int .i64 n4, .int .i64 n5, .int .i64 n6, sv o7 p7 l7.length q7, sv o8 p8 l8.length q8, sv o9 p9 l9.length q9, sv o10 p10 l10.length q10, .slice x11 n11 q11, .slice x12 n12 q12, sv o13 p13 l13.length q13, sv o14 p14 l14.length q14] 46 (0, 0)), (some b3, .cells #[py13, v13.v (stT5 tk dr l7 l8 l9 l10 ++ linesT ltParts (l13.take i13)).length] 57 (0, 0)), (v13.ob, .cells v13.cs 5 v13.fz), (some b4, .cells #[.func (.func 36) #[] #[.pointer (some ⟨b3, 0, none⟩)]] 85 (0, 0))] _
      refine G_seq ?_
      refine G_region (l := [0]) rfl ?_
      refine G_val rfl rfl rfl rfl (V_lss rfl rfl rfl) ?_
      refine G_done ?_
      refine G_seq ?_
      refine G_ifD rfl (fun hc4 => ?_) (fun hc4 => ?_)
      · skip
        refine G_skip ?_
        refine G_seq ?_
        refine G_block ?_
        refine G_seq ?_
        obtain ⟨x13, hx13⟩ := getI (show i13 < l13.length by omega)
        obtain ⟨bo13, rfl⟩ := s13.isSome (by omega)
        have hk13 := h13 x13 (List.mem_of_getElem? hx13)
        have hs13 := lt_sum hk13
        have hz13 : (linesT ltParts (l13.take i13)).length ≤ 5000007 * (l13.take i13).length := linesT_len (fun y hy => ⟨lt_sum (h13 y (List.mem_of_mem_take hy)), by simp [ltParts]⟩)
        have ht13 : (l13.take i13).length ≤ i13 := by simp; omega
        refine G_region (l := [0, 1, 2, 3]) rfl ?_
        first
          | refine G_val rfl rfl rfl rfl (V_indexAddrN (s := 6) rfl Tryd.underlying38 infTellSw_93 rfl rfl rfl rfl (by omega)) ?_
          | refine G_val rfl rfl rfl rfl (V_indexAddr (s := 6) rfl Tryd.underlying38 infTellSw_93 rfl rfl rfl (by omega) (by first | omega | (simp [rqCells, Sl.v, opC, wkC, ivC, ltC, wtC]; done) | (simp [rqCells, Sl.v, opC, wkC, ivC, ltC, wtC]; omega) | (simp [rqCells, Sl.v, opC, wkC, ivC, ltC, wtC] at *; omega))) ?_
        refine G_val rfl rfl rfl rfl (V_loadA (s := 6) (vs := (ltC x13).toArray) rfl rfl (mem_at 4 rfl) Tryd.underlying93 rfl infTellSw_93 rfl (s13.elem lt_len hx13) (by first | rfl | (simp [bcells_length, rqCells, Sl.v, opC, wkC, ivC, ltC, wtC]; done) | (simp [bcells_length, rqCells, Sl.v, opC, wkC, ivC, ltC, wtC]; omega) | (simp [bcells_length, *, rqCells, Sl.v, opC, wkC, ivC, ltC, wtC]; done))) ?_
        refine G_new rfl rfl rfl rfl (N_allocA rfl infTellSw_93 rfl) (fun b12 => ?_)
        refine G_put (l1 := []) (L' := [_, _, _, _, _]) rfl rfl rfl rfl (P_storeA (s := 6) rfl rfl rfl (mem_at 0 rfl) (by first | rfl | (simp [bcells_length, rqCells, Sl.v, opC, wkC, ivC, ltC, wtC]; done) | (simp [bcells_length, rqCells, Sl.v, opC, wkC, ivC, ltC, wtC]; omega) | (simp [bcells_length, *, rqCells, Sl.v, opC, wkC, ivC, ltC, wtC]; done)) infTellSw_93 rfl (by first | rfl | (simp [bcells_length, rqCells, Sl.v, opC, wkC, ivC, ltC, wtC]; done) | (simp [bcells_length, rqCells, Sl.v, opC, wkC, ivC, ltC, wtC]; omega) | (simp [bcells_length, *, rqCells, Sl.v, opC, wkC, ivC, ltC, wtC]; done)) (by first | rfl | exact bcells_all _ | (simp [Value.oneCell', rqCells, Sl.v, opC, wkC, ivC, ltC, wtC]; done) | (simp [Value.oneCell', *, rqCells, Sl.v, opC, wkC, ivC, ltC, wtC]; done))) rfl ?_
        refine G_done ?_
        refine GH_start (Lq := [_, _]) (isq := [4, 0]) (m := 9) mixedK rfl rfl ?_
        refine GH_take 0 rfl rfl rfl rfl (by kernel_rfl) (by kernel_rfl) (by kernel_rfl) (fun _ _ => (V_load1 rfl rfl (mem_at 7 rfl) rfl Tryd.underlying85 rfl)) ?_
        refine GH_take 1 rfl rfl rfl rfl (by kernel_rfl) (by kernel_rfl) (by kernel_rfl) (fun _ _ => (V_fieldAddr (fo := 0) rfl Tryd.underlying93 rfl infTellSw_3 rfl rfl rfl)) ?_
        refine GH_take 2 rfl rfl rfl rfl (by kernel_rfl) (by kernel_rfl) (by kernel_rfl) (fun _ _ => (V_load1 rfl rfl (mem_at 8 rfl) rfl Tryd.underlying3 rfl)) ?_
        refine GH_take 4 rfl rfl rfl rfl (by kernel_rfl) (by kernel_rfl) (by kernel_rfl) (fun _ _ => (V_fieldAddr (fo := 3) rfl Tryd.underlying93 rfl infTellSw_3 rfl rfl rfl)) ?_
        refine GH_take 5 rfl rfl rfl rfl (by kernel_rfl) (by kernel_rfl) (by kernel_rfl) (fun _ _ => (V_load1 rfl rfl (mem_at 8 rfl) rfl Tryd.underlying3 rfl)) ?_
        refine GH_all [3] (by kernel_rfl) (by decide) ?_
        refine (And.intro ?_ trivial)
        · skip
          refine GHop_call (L2 := [_, _, _, _, _]) rfl rfl rfl rfl rfl rfl Tryd.call40 (tl_num x13.a.1 hk13.a1.1 hk13.a1.2 T0 r0) [] [6] rfl rfl [4, 0] (by rintro v post ⟨rfl, rfl⟩; exact ⟨_, rfl⟩) ?_
          rintro v post ⟨rfl, rfl⟩
          show GH _ _ _ _ _ _ _ [_, _, _, _, _] _
          refine GH_all [6] (by kernel_rfl) (by decide) ?_
          refine (And.intro ?_ trivial)
          · skip
            refine GHop_call (L2 := [_, _, _, _, _]) rfl rfl rfl rfl rfl rfl Tryd.call40 (tl_num x13.a.2.2.2 hk13.a2.1 hk13.a2.2 T0 r0) [] [6] rfl rfl [4, 0] (by rintro v post ⟨rfl, rfl⟩; exact ⟨_, rfl⟩) ?_
            rintro v post ⟨rfl, rfl⟩
            show GH _ _ _ _ _ _ _ [_, _, _, _, _] _
            refine GH_all [7] (by kernel_rfl) (by decide) ?_
            refine (And.intro ?_ trivial)
            · skip
              refine GHop_new rfl rfl rfl rfl (N_buildAll (s := 1) (cs := [_, _, _]) rfl Tryd.underlying53 infTellSw_9 rfl rfl rfl rfl rfl rfl rfl rfl rfl) [5, 1] (fun _ => ⟨_, rfl⟩) (fun b91 => ?_)
              refine GH_all [8] (by kernel_rfl) (by decide) ?_
              refine (And.intro ?_ trivial)
              · skip
                refine GHop_callC (L2 := [_, _, _, _]) rfl rfl rfl rfl rfl rfl Tryd.call36 rfl (ts_line (some b91) 0 3 _ _ _ (ltParts x13) (sees_lit3w b91 _ _ _) (by simp [ltParts]) (by omega) b3 py13 v13 (stT5 tk dr l7 l8 l9 l10 ++ linesT ltParts (l13.take i13)) hp13 hv13 (by simp only [List.length_append]; omega)) [3, 3] [7] rfl rfl [5, 3] (by rintro v post ⟨rfl, w13, hw13, rfl⟩; exact ⟨_, rfl⟩) ?_
                rintro v post ⟨rfl, w13, hw13, rfl⟩
                show GH _ _ _ _ _ _ _ [_, _, _, _, _, _] _
                refine GH_done (by kernel_rfl) ?_
                refine G_inBlock ?_
                have hn13 : (stT5 tk dr l7 l8 l9 l10 ++ linesT ltParts (l13.take i13)) ++ (joinT 32 (ltParts x13) ++ [10]) = stT5 tk dr l7 l8 l9 l10 ++ linesT ltParts (l13.take (i13 + 1)) := by rw [List.append_assoc, ← linesT_next hx13]; rfl
                rw [hn13] at hw13 ⊢
                refine G_region (l := [0, 1]) rfl ?_
                first
                  | refine G_val rfl rfl rfl rfl ((V_add rfl rfl rfl).int (wrap_i64 (by omega))) ?_
                  | refine G_val rfl rfl rfl rfl (V_add rfl rfl rfl) ?_
                refine G_val rfl rfl rfl rfl (V_move rfl rfl) ?_
                refine G_done ?_
                refine G_sub ?_ [4, 0, 0, 2] ?_ (ih13 (i13 + 1, .pointer (some ⟨b3, 0, none⟩), w13) ?_ ?_)
                · (refine (And.intro ?_ (And.intro ?_ (And.intro ?_ (And.intro ?_ (And.intro ?_ (And.intro ?_ trivial)))))) <;> first | rfl | exact slot_int (by omega) | exact slot_int (by simp))
                · exact ⟨_, rfl⟩
                · exact ⟨by omega, .inr rfl, hw13⟩
                · (first | omega | (dsimp only; omega))
      refine G_exit rfl ?_
      refine G_seq ?_
      refine G_seq ?_
      rw [List.take_of_length_le (show l13.length ≤ i13 by omega)] at hv13 ⊢
      rw [show stT5 tk dr l7 l8 l9 l10 ++ linesT ltParts l13 = stT6 tk dr l7 l8 l9 l10 l13 from rfl] at hv13 ⊢
      have hl6 : (stT6 tk dr l7 l8 l9 l10 l13).length ≤ (stT5 tk dr l7 l8 l9 l10).length + 5000007 * l13.length := by
        have := linesT_len (f := ltParts) (l := l13) (fun y hy => ⟨lt_sum (h13 y hy), by simp [ltParts]⟩)
        unfold stT6; rw [List.length_append]; omega
      refine G_region (l := [0, 1, 2, 3]) rfl ?_
      refine G_val rfl rfl rfl rfl (V_fieldAddr (fo := 14) rfl Tryd.underlying46 rfl infTellSw_39 rfl rfl rfl) ?_
      refine G_val rfl rfl rfl rfl (V_load1 rfl rfl (mem_at 7 rfl) rfl Tryd.underlying39 rfl) ?_
      refine G_val rfl rfl rfl rfl (V_len rfl rfl Tryd.underlying39 rfl) ?_
      refine G_val rfl rfl rfl rfl (V_move rfl rfl) ?_
      rw [show (stT6 tk dr l7 l8 l9 l10 l13).length = (stT6 tk dr l7 l8 l9 l10 l13 ++ linesT wtParts (l14.take 0)).length by simp [linesT]]
      refine G_done ?_
      refine G_block ?_
      refine G_sub ?he26 [0, 0, 0, 0] ?hl26 (G_loop (X := Nat × Value × Sl) (fun y => match y with | ⟨i14, py14, v14⟩ => i14 ≤ l14.length ∧ UsedOr b3 py14 ∧ Txt v14 (stT6 tk dr l7 l8 l9 l10 l13 ++ linesT wtParts (l14.take i14))) (fun y => match y with | ⟨i14, py14, v14⟩ => l14.length - i14) (fun y => match y with | ⟨i14, py14, v14⟩ => [(1, .pointer (some ⟨b1, 0, none⟩)), (3, .pointer (some ⟨b3, 0, none⟩)), (4, .pointer (some ⟨b4, 0, none⟩)), (95, sv o14 p14 l14.length q14), (96, .int .i64 (l14.length : Int)), (97, .int .i64 (i14 : Int))]) (fun y => match y with | ⟨i14, py14, v14⟩ => [(some b1, .cells #[.int .u64 (tk : Int), .bool dr, .int .i64 n2, .int .i64 n3, .int .i64 n4, .int .i64 n5, .int .i64 n6, sv o7 p7 l7.length q7, sv o8 p8 l8.length q8, sv o9 p9 l9.length q9, sv o10 p10 l10.length q10, .slice x11 n11 q11, .slice x12 n12 q12, sv o13 p13 l13.length q13, sv o14 p14 l14.length q14] 46 (0, 0)), (some b3, .cells #[py14, v14.v (stT6 tk dr l7 l8 l9 l10 l13 ++ linesT wtParts (l14.take i14)).length] 57 (0, 0)), (v14.ob, .cells v14.cs 5 v14.fz), (some b4, .cells #[.func (.func 36) #[] #[.pointer (some ⟨b3, 0, none⟩)]] 85 (0, 0))]) ?round26 (0, py13, v13) ?h026)
      case he26 => exact (And.intro rfl (And.intro rfl (And.intro rfl (And.intro rfl (And.intro rfl (And.intro rfl trivial))))))
      case hl26 => exact ⟨_, rfl⟩
      case h026 => exact ⟨Nat.zero_le _, hp13, by simpa [linesT] using hv13⟩
      case round26 =>
       intro y hJ ih14
       try dsimp only at hJ ih14
       obtain ⟨i14, py14, v14⟩ := y
       try dsimp only at hJ ih14
       obtain ⟨hi14, hp14, hv14⟩ := hJ
       show G _ _ [(1, .pointer (some ⟨b1, 0, none⟩)), (3, .pointer (some ⟨b3, 0, none⟩)), (4, .pointer (some ⟨b4, 0, none⟩)), (95, sv o14 p14 l14.length q14), (96, .int .i64 (l14.length : Int)), (97, .int .i64 (i14 : Int))] [(some b1, .cells #[.int .u64 (tk : Int), .bool dr, .int .i64 n2, .int .i64 n3, .int .i64 n4, .int .i64 n5, .int .i64 n6, sv o7 p7 l7.length q7, sv o8 p8 l8.length q8, sv o9 p9 l9.length q9, sv o10 p10 l10.length q10, .slice x11 n11 q11, .slice x12 n12 q12, sv o13 p13 l13.length q13, sv o14 p14 l14.length q14] 46 (0, 0)), (some b3, .cells #[py14, v14.v (stT6 tk dr l7 l8 l9 l10 l13 ++ linesT wtParts (l14.take i14)).length] 57 (0, 0)), (v14.ob, .cells v14.cs 5 v14.fz), (some b4, .cells #[.func (.func 36) #[] #[.pointer (some ⟨b3, 0, none⟩)]] 85 (0, 0))] _
       refine G_seq ?_
       refine G_region (l := [0]) rfl ?_
       refine G_val rfl rfl rfl rfl (V_lss rfl rfl rfl) ?_
       refine G_done ?_
       refine G_seq ?_
       refine G_ifD rfl (fun hc5 => ?_) (fun hc5 => ?_)
       · skip
         refine G_skip ?_
         refine G_seq ?_
         refine G_block ?_
         refine G_seq ?_
         obtain ⟨x14, hx14⟩ := getI (show i14 < l14.length by omega)
         obtain ⟨bo14, rfl⟩ := s14.isSome (by omega)
         have hk14 := h14 x14 (List.mem_of_getElem? hx14)
         have hs14 := wt_sum hk14
         have hz14 : (linesT wtParts (l14.take i14)).length ≤ 5000007 * (l14.take i14).length := linesT_len (fun y hy => ⟨wt_sum (h14 y (List.mem_of_mem_take hy)), by simp [wtParts]⟩)
         have ht14 : (l14.take i14).length ≤ i14 := by simp; omega
         refine G_region (l := [0, 1, 2, 3]) rfl ?_
         first
           | refine G_val rfl rfl rfl rfl (V_indexAddrN (s := 2) rfl Tryd.underlying39 infTellSw_95 rfl rfl rfl rfl (by omega)) ?_
           | refine G_val rfl rfl rfl rfl (V_indexAddr (s := 2) rfl Tryd.underlying39 infTellSw_95 rfl rfl rfl (by omega) (by first | omega | (simp [rqCells, Sl.v, opC, wkC, ivC, ltC, wtC]; done) | (simp [rqCells, Sl.v, opC, wkC, ivC, ltC, wtC]; omega) | (simp [rqCells, Sl.v, opC, wkC, ivC, ltC, wtC] at *; omega))) ?_
         refine G_val rfl rfl rfl rfl (V_loadA (s := 2) (vs := (wtC x14).toArray) rfl rfl (mem_at 5 rfl) Tryd.underlying95 rfl infTellSw_95 rfl (s14.elem wt_len hx14) (by first | rfl | (simp [bcells_length, rqCells, Sl.v, opC, wkC, ivC, ltC, wtC]; done) | (simp [bcells_length, rqCells, Sl.v, opC, wkC, ivC, ltC, wtC]; omega) | (simp [bcells_length, *, rqCells, Sl.v, opC, wkC, ivC, ltC, wtC]; done))) ?_
         refine G_new rfl rfl rfl rfl (N_allocA rfl infTellSw_95 rfl) (fun b14 => ?_)
         refine G_put (l1 := []) (L' := [_, _, _, _, _]) rfl rfl rfl rfl (P_storeA (s := 2) rfl rfl rfl (mem_at 0 rfl) (by first | rfl | (simp [bcells_length, rqCells, Sl.v, opC, wkC, ivC, ltC, wtC]; done) | (simp [bcells_length, rqCells, Sl.v, opC, wkC, ivC, ltC, wtC]; omega) | (simp [bcells_length, *, rqCells, Sl.v, opC, wkC, ivC, ltC, wtC]; done)) infTellSw_95 rfl (by first | rfl | (simp [bcells_length, rqCells, Sl.v, opC, wkC, ivC, ltC, wtC]; done) | (simp [bcells_length, rqCells, Sl.v, opC, wkC, ivC, ltC, wtC]; omega) | (simp [bcells_length, *, rqCells, Sl.v, opC, wkC, ivC, ltC, wtC]; done)) (by first | rfl | exact bcells_all _ | (simp [Value.oneCell', rqCells, Sl.v, opC, wkC, ivC, ltC, wtC]; done) | (simp [Value.oneCell', *, rqCells, Sl.v, opC, wkC, ivC, ltC, wtC]; done))) rfl ?_
         refine G_done ?_
         refine GH_start (Lq := [_, _]) (isq := [4, 0]) (m := 9) mixedK rfl rfl ?_
         refine GH_take 0 rfl rfl rfl rfl (by kernel_rfl) (by kernel_rfl) (by kernel_rfl) (fun _ _ => (V_load1 rfl rfl (mem_at 7 rfl) rfl Tryd.underlying85 rfl)) ?_
         refine GH_take 1 rfl rfl rfl rfl (by kernel_rfl) (by kernel_rfl) (by kernel_rfl) (fun _ _ => (V_fieldAddr (fo := 0) rfl Tryd.underlying95 rfl infTellSw_9 rfl rfl rfl)) ?_
         refine GH_take 2 rfl rfl rfl rfl (by kernel_rfl) (by kernel_rfl) (by kernel_rfl) (fun _ _ => (V_load1 rfl rfl (mem_at 8 rfl) rfl Tryd.underlying9 rfl)) ?_
         refine GH_take 4 rfl rfl rfl rfl (by kernel_rfl) (by kernel_rfl) (by kernel_rfl) (fun _ _ => (V_fieldAddr (fo := 1) rfl Tryd.underlying95 rfl infTellSw_3 rfl rfl rfl)) ?_
         refine GH_take 5 rfl rfl rfl rfl (by kernel_rfl) (by kernel_rfl) (by kernel_rfl) (fun _ _ => (V_load1 rfl rfl (mem_at 8 rfl) rfl Tryd.underlying3 rfl)) ?_
         refine GH_all [3] (by kernel_rfl) (by decide) ?_
         refine (And.intro ?_ trivial)
         · skip
           refine GHop_call (L2 := [_, _, _, _, _]) rfl rfl rfl rfl rfl rfl Tryd.call9 (tl_quote x14.s (by have := hk14.s1; omega)) [] [] rfl rfl [4, 0] (by rintro v post ⟨rfl, rfl⟩; exact ⟨_, rfl⟩) ?_
           rintro v post ⟨rfl, rfl⟩
           show GH _ _ _ _ _ _ _ [_, _, _, _, _] _
           refine GH_all [6] (by kernel_rfl) (by decide) ?_
           refine (And.intro ?_ trivial)
           · skip
             refine GHop_call (L2 := [_, _, _, _, _]) rfl rfl rfl rfl rfl rfl Tryd.call40 (tl_num x14.n hk14.n1.1 hk14.n1.2 T0 r0) [] [6] rfl rfl [4, 0] (by rintro v post ⟨rfl, rfl⟩; exact ⟨_, rfl⟩) ?_
             rintro v post ⟨rfl, rfl⟩
             show GH _ _ _ _ _ _ _ [_, _, _, _, _] _
             refine GH_all [7] (by kernel_rfl) (by decide) ?_
             refine (And.intro ?_ trivial)
             · skip
               refine GHop_new rfl rfl rfl rfl (N_buildAll (s := 1) (cs := [_, _, _]) rfl Tryd.underlying53 infTellSw_9 rfl rfl rfl rfl rfl rfl rfl rfl rfl) [5, 1] (fun _ => ⟨_, rfl⟩) (fun b108 => ?_)
               refine GH_all [8] (by kernel_rfl) (by decide) ?_
               refine (And.intro ?_ trivial)
               · skip
                 refine GHop_callC (L2 := [_, _, _, _]) rfl rfl rfl rfl rfl rfl Tryd.call36 rfl (ts_line (some b108) 0 3 _ _ _ (wtParts x14) (sees_lit3w b108 _ _ _) (by simp [wtParts]) (by omega) b3 py14 v14 (stT6 tk dr l7 l8 l9 l10 l13 ++ linesT wtParts (l14.take i14)) hp14 hv14 (by simp only [List.length_append]; omega)) [3, 3] [7] rfl rfl [5, 3] (by rintro v post ⟨rfl, w14, hw14, rfl⟩; exact ⟨_, rfl⟩) ?_
                 rintro v post ⟨rfl, w14, hw14, rfl⟩
                 show GH _ _ _ _ _ _ _ [_, _, _, _, _, _] _
                 refine GH_done (by kernel_rfl) ?_
                 refine G_inBlock ?_
                 have hn14 : (stT6 tk dr l7 l8 l9 l10 l13 ++ linesT wtParts (l14.take i14)) ++ (joinT 32 (wtParts x14) ++ [10]) = stT6 tk dr l7 l8 l9 l10 l13 ++ linesT wtParts (l14.take (i14 + 1)) := by rw [List.append_assoc, ← linesT_next hx14]; rfl
                 rw [hn14] at hw14 ⊢
                 refine G_region (l := [0, 1]) rfl ?_
                 first
                   | refine G_val rfl rfl rfl rfl ((V_add rfl rfl rfl).int (wrap_i64 (by omega))) ?_
                   | refine G_val rfl rfl rfl rfl (V_add rfl rfl rfl) ?_
                 refine G_val rfl rfl rfl rfl (V_move rfl rfl) ?_
                 refine G_done ?_
                 refine G_sub ?_ [4, 0, 0, 2] ?_ (ih14 (i14 + 1, .pointer (some ⟨b3, 0, none⟩), w14) ?_ ?_)
                 · (refine (And.intro ?_ (And.intro ?_ (And.intro ?_ (And.intro ?_ (And.intro ?_ (And.intro ?_ trivial)))))) <;> first | rfl | exact slot_int (by omega) | exact slot_int (by simp))
                 · exact ⟨_, rfl⟩
                 · exact ⟨by omega, .inr rfl, hw14⟩
                 · (first | omega | (dsimp only; omega))
       refine G_exit rfl ?_
       refine G_seq ?_
       rw [List.take_of_length_le (show l14.length ≤ i14 by omega)] at hv14 ⊢
       rw [show stT6 tk dr l7 l8 l9 l10 l13 ++ linesT wtParts l14 = stT7 tk dr l7 l8 l9 l10 l13 l14 from rfl] at hv14 ⊢
       have hl7 : (stT7 tk dr l7 l8 l9 l10 l13 l14).length ≤ (stT6 tk dr l7 l8 l9 l10 l13).length + 5000007 * l14.length := by
         have := linesT_len (f := wtParts) (l := l14) (fun y hy => ⟨wt_sum (h14 y hy), by simp [wtParts]⟩)
         unfold stT7; rw [List.length_append]; omega
       refine G_region (l := [0, 1]) rfl ?_
       refine G_call (L2 := [_, _]) rfl rfl rfl rfl rfl rfl Tryd.call23 (bld_string _ _ _ _ hv14 (by omega)) [1, 1] [] rfl rfl ?_
       rintro v post ⟨rfl, u9, hu9, rfl⟩
       show G _ _ _ [_, _, _, _] _
       refine G_val rfl rfl rfl rfl (V_assign rfl rfl) ?_
       refine G_done ?_
       refine G_ret (post := []) Tryd.func16 rfl (RVs_cons (RV_tmp rfl) RVs_nil) [] rfl ?_
       dsimp only [packed]
       exact ⟨rfl, rfl⟩
 · skip
   refine G_region (l := [0, 1]) rfl ?_
   refine G_val rfl rfl rfl rfl (V_fieldAddr (fo := 1) rfl Tryd.underlying46 rfl infTellSw_4 rfl rfl rfl) ?_
   refine G_val rfl rfl rfl rfl (V_load1 rfl rfl (mem_at 11 rfl) rfl Tryd.underlying4 rfl) ?_
   refine G_done ?_
   refine G_if rfl (fun hc1 => ?_) (fun hc1 => ?_)
   · (first | exact Bool.noConfusion (hdr.symm.trans hc1) | exact absurd hdr hc1 | exact absurd hc1 hdr | exact absurd hdr.symm hc1 | exact absurd (Eq.symm hc1) hdr | (exact absurd rfl hc1) | (exfalso; omega) | (exfalso; simp at hc1; done))
   refine G_skip ?_
   refine G_seq ?_
   refine G_region (l := [0, 1, 2]) rfl ?_
   refine G_val rfl rfl rfl rfl (V_load1 rfl rfl (mem_at 9 rfl) rfl Tryd.underlying85 rfl) ?_
   refine G_val rfl rfl rfl rfl (V_move rfl rfl) ?_
   refine G_callC (L2 := [_, _, _]) rfl rfl rfl rfl rfl rfl Tryd.call36 rfl (ts_line (some b19) 0 2 _ _ _ (headP tk false) (sees_lit2w b19 _ _) (by simp [headP]) (by have := (head_sum htk false).1; omega) b3 (Value.pointer none) slNil [] (.inl rfl) txt_nil (by simp)) [3, 1] [7] rfl rfl ?_
   rintro v post ⟨rfl, u1, hu1, rfl⟩
   show G _ _ _ [_, _, _, _, _] _
   rw [show ([] ++ (joinT 32 (headP tk false) ++ [10]) : List UInt8) = stT1 tk dr by rw [eq_false_of_ne_true hdr]; rfl] at hu1 ⊢
   refine G_done ?_
   refine G_seq ?_
   refine G_region (l := [0, 1]) rfl ?_
   refine G_val rfl rfl rfl rfl (V_func rfl rfl rfl) ?_
   refine G_val rfl rfl rfl rfl (V_assign rfl rfl) ?_
   refine G_done ?_
   refine G_seq ?_
   refine G_region (l := [0, 1, 2, 3]) rfl ?_
   refine G_val rfl rfl rfl rfl (V_move rfl rfl) ?_
   refine G_val rfl rfl rfl rfl (V_fieldAddr (fo := 7) rfl Tryd.underlying46 rfl infTellSw_33 rfl rfl rfl) ?_
   refine G_val rfl rfl rfl rfl (V_load1 rfl rfl (mem_at 11 rfl) rfl Tryd.underlying33 rfl) ?_
   refine G_callC (L2 := [_, _, _]) rfl rfl rfl rfl rfl rfl Tryd.call39 rfl (ts_ops o7 p7 q7 c7 T7 f7 l7 s7 h7 T0 r0 b3 b4 (.pointer (some ⟨b3, 0, none⟩)) u1 (stT1 tk dr) [111, 112] (.inr rfl) hu1 (by omega) (by simp)) [0, 0] [0, 8, 6] rfl rfl ?_
   rintro v post ⟨rfl, px7, u2, hpx7, hu2, rfl⟩
   show G _ _ _ [_, _, _, _, _] _
   rw [show stT1 tk dr ++ opsT [111, 112] l7 = stT2 tk dr l7 from rfl] at hu2 ⊢
   have hl2 : (stT2 tk dr l7).length ≤ (stT1 tk dr).length + 5000007 * l7.length := by
     have := opsT_len (w := [111, 112]) (by simp) h7
     unfold stT2; rw [List.length_append]; omega
   refine G_done ?_
   refine G_seq ?_
   refine G_region (l := [0, 1, 2, 3]) rfl ?_
   refine G_val rfl rfl rfl rfl (V_move rfl rfl) ?_
   refine G_val rfl rfl rfl rfl (V_fieldAddr (fo := 8) rfl Tryd.underlying46 rfl infTellSw_33 rfl rfl rfl) ?_
   refine G_val rfl rfl rfl rfl (V_load1 rfl rfl (mem_at 11 rfl) rfl Tryd.underlying33 rfl) ?_
   refine G_callC (L2 := [_, _, _]) rfl rfl rfl rfl rfl rfl Tryd.call39 rfl (ts_ops o8 p8 q8 c8 T8 f8 l8 s8 h8 T0 r0 b3 b4 px7 u2 (stT2 tk dr l7) [101, 110, 100, 101, 100] hpx7 hu2 (by omega) (by simp)) [0, 0] [1, 8, 6] rfl rfl ?_
   rintro v post ⟨rfl, px8, u3, hpx8, hu3, rfl⟩
   show G _ _ _ [_, _, _, _, _] _
   rw [show stT2 tk dr l7 ++ opsT [101, 110, 100, 101, 100] l8 = stT3 tk dr l7 l8 from rfl] at hu3 ⊢
   have hl3 : (stT3 tk dr l7 l8).length ≤ (stT2 tk dr l7).length + 5000007 * l8.length := by
     have := opsT_len (w := [101, 110, 100, 101, 100]) (by simp) h8
     unfold stT3; rw [List.length_append]; omega
   refine G_done ?_
   refine G_seq ?_
   refine G_seq ?_
   refine G_region (l := [0, 1, 2, 3]) rfl ?_
   refine G_val rfl rfl rfl rfl (V_fieldAddr (fo := 9) rfl Tryd.underlying46 rfl infTellSw_34 rfl rfl rfl) ?_
   refine G_val rfl rfl rfl rfl (V_load1 rfl rfl (mem_at 11 rfl) rfl Tryd.underlying34 rfl) ?_
   refine G_val rfl rfl rfl rfl (V_len rfl rfl Tryd.underlying34 rfl) ?_
   refine G_val rfl rfl rfl rfl (V_move rfl rfl) ?_
   rw [show (stT3 tk dr l7 l8).length = (stT3 tk dr l7 l8 ++ linesT wkParts (l9.take 0)).length by simp [linesT]]
   refine G_done ?_
   refine G_block ?_
   refine G_sub ?he11 [4, 0, 0, 1] ?hl11 (G_loop (X := Nat × Value × Sl) (fun y => match y with | ⟨i9, py9, v9⟩ => i9 ≤ l9.length ∧ UsedOr b3 py9 ∧ Txt v9 (stT3 tk dr l7 l8 ++ linesT wkParts (l9.take i9))) (fun y => match y with | ⟨i9, py9, v9⟩ => l9.length - i9) (fun y => match y with | ⟨i9, py9, v9⟩ => [(1, .pointer (some ⟨b1, 0, none⟩)), (3, .pointer (some ⟨b3, 0, none⟩)), (4, .pointer (some ⟨b4, 0, none⟩)), (38, sv o9 p9 l9.length q9), (39, .int .i64 (l9.length : Int)), (40, .int .i64 (i9 : Int))]) (fun y => match y with | ⟨i9, py9, v9⟩ => [(some b1, .cells #[.int .u64 (tk : Int), .bool dr, .int .i64 n2, .int .i64 n3, .int .i64 n4, .int .i64 n5, .int .i64 n6, sv o7 p7 l7.length q7, sv o8 p8 l8.length q8, sv o9 p9 l9.length q9, sv o10 p10 l10.length q10, .slice x11 n11 q11, .slice x12 n12 q12, sv o13 p13 l13.length q13, sv o14 p14 l14.length q14] 46 (0, 0)), (some b3, .cells #[py9, v9.v (stT3 tk dr l7 l8 ++ linesT wkParts (l9.take i9)).length] 57 (0, 0)), (v9.ob, .cells v9.cs 5 v9.fz), (some b4, .cells #[.func (.func 36) #[] #[.pointer (some ⟨b3, 0, none⟩)]] 85 (0, 0))]) ?round11 (0, px8, u3) ?h011)
   case he11 => exact (And.intro rfl (And.intro rfl (And.intro rfl (And.intro rfl (And.intro rfl (And.intro rfl trivial))))))
   case hl11 => exact ⟨_, rfl⟩
   case h011 => exact ⟨Nat.zero_le _, hpx8, by simpa [linesT] using hu3⟩
   case round11 =>
    intro y hJ ih9
    try dsimp only at hJ ih9
    obtain ⟨i9, py9, v9⟩ := y
    try dsimp only at hJ ih9
    obtain ⟨hi9, hp9, hv9⟩ := hJ
    show G _ _ [(1, .pointer (some ⟨b1, 0, none⟩)), (3, .pointer (some ⟨b3, 0, none⟩)), (4, .pointer (some ⟨b4, 0, none⟩)), (38, sv o9 p9 l9.length q9), (39, .int .i64 (l9.length : Int)), (40, .int .i64 (i9 : Int))] [(some b1, .cells #[.int .u64 (tk : Int), .bool dr, .int .i64 n2, .int .i64 n3, .int .i64 n4, .int .i64 n5, .int .i64 n6, sv o7 p7 l7.length q7, sv o8 p8 l8.length q8, sv o9 p9 l9.length q9, sv o10 p10 l10.length q10, .slice x11 n11 q11, .slice x12 n12 q12, sv o13 p13 l13.length q13, sv o14 p14 l14.length q14] 46 (0, 0)), (some b3, .cells #[py9, v9.v (stT3 tk dr l7 l8 ++ linesT wkParts (l9.take i9)).length] 57 (0, 0)), (v9.ob, .cells v9.cs 5 v9.fz), (some b4, .cells #[.func (.func 36) #[] #[.pointer (some ⟨b3, 0, none⟩)]] 85 (0, 0))] _
    refine G_seq ?_
    refine G_region (l := [0]) rfl ?_
    refine G_val rfl rfl rfl rfl (V_lss rfl rfl rfl) ?_
    refine G_done ?_
    refine G_seq ?_
    refine G_ifD rfl (fun hc2 => ?_) (fun hc2 => ?_)
    · skip
      refine G_skip ?_
      refine G_seq ?_
      refine G_block ?_
      refine G_seq ?_
      obtain ⟨x9, hx9⟩ := getI (show i9 < l9.length by omega)
      obtain ⟨bo9, rfl⟩ := s9.isSome (by omega)
      have hk9 := h9 x9 (List.mem_of_getElem? hx9)
      have hs9 := wk_sum hk9
      have hz9 : (linesT wkParts (l9.take i9)).length ≤ 5000007 * (l9.take i9).length := linesT_len (fun y hy => ⟨wk_sum (h9 y (List.mem_of_mem_take hy)), by simp [wkParts]⟩)
      have ht9 : (l9.take i9).length ≤ i9 := by simp; omega
      refine G_region (l := [0, 1, 2, 3]) rfl ?_
      first
        | refine G_val rfl rfl rfl rfl (V_indexAddrN (s := 7) rfl Tryd.underlying34 infTellSw_80 rfl rfl rfl rfl (by omega)) ?_
        | refine G_val rfl rfl rfl rfl (V_indexAddr (s := 7) rfl Tryd.underlying34 infTellSw_80 rfl rfl rfl (by omega) (by first | omega | (simp [rqCells, Sl.v, opC, wkC, ivC, ltC, wtC]; done) | (simp [rqCells, Sl.v, opC, wkC, ivC, ltC, wtC]; omega) | (simp [rqCells, Sl.v, opC, wkC, ivC, ltC, wtC] at *; omega))) ?_
      refine G_val rfl rfl rfl rfl (V_loadA (s := 7) (vs := (wkC x9).toArray) rfl rfl (mem_at 2 rfl) Tryd.underlying80 rfl infTellSw_80 rfl (s9.elem wk_len hx9) (by first | rfl | (simp [bcells_length, rqCells, Sl.v, opC, wkC, ivC, ltC, wtC]; done) | (simp [bcells_length, rqCells, Sl.v, opC, wkC, ivC, ltC, wtC]; omega) | (simp [bcells_length, *, rqCells, Sl.v, opC, wkC, ivC, ltC, wtC]; done))) ?_
      refine G_new rfl rfl rfl rfl (N_allocA rfl infTellSw_80 rfl) (fun b8 => ?_)
      refine G_put (l1 := []) (L' := [_, _, _, _, _]) rfl rfl rfl rfl (P_storeA (s := 7) rfl rfl rfl (mem_at 0 rfl) (by first | rfl | (simp [bcells_length, rqCells, Sl.v, opC, wkC, ivC, ltC, wtC]; done) | (simp [bcells_length, rqCells, Sl.v, opC, wkC, ivC, ltC, wtC]; omega) | (simp [bcells_length, *, rqCells, Sl.v, opC, wkC, ivC, ltC, wtC]; done)) infTellSw_80 rfl (by first | rfl | (simp [bcells_length, rqCells, Sl.v, opC, wkC, ivC, ltC, wtC]; done) | (simp [bcells_length, rqCells, Sl.v, opC, wkC, ivC, ltC, wtC]; omega) | (simp [bcells_length, *, rqCells, Sl.v, opC, wkC, ivC, ltC, wtC]; done)) (by first | rfl | exact bcells_all _ | (simp [Value.oneCell', rqCells, Sl.v, opC, wkC, ivC, ltC, wtC]; done) | (simp [Value.oneCell', *, rqCells, Sl.v, opC, wkC, ivC, ltC, wtC]; done))) rfl ?_
      refine G_done ?_
      refine GH_start (Lq := [_, _]) (isq := [4, 0]) (m := 12) mixedK rfl rfl ?_
      refine GH_take 0 rfl rfl rfl rfl (by kernel_rfl) (by kernel_rfl) (by kernel_rfl) (fun _ _ => (V_load1 rfl rfl (mem_at 7 rfl) rfl Tryd.underlying85 rfl)) ?_
      refine GH_take 1 rfl rfl rfl rfl (by kernel_rfl) (by kernel_rfl) (by kernel_rfl) (fun _ _ => (V_fieldAddr (fo := 3) rfl Tryd.underlying80 rfl infTellSw_9 rfl rfl rfl)) ?_
      refine GH_take 2 rfl rfl rfl rfl (by kernel_rfl) (by kernel_rfl) (by kernel_rfl) (fun _ _ => (V_load1 rfl rfl (mem_at 8 rfl) rfl Tryd.underlying9 rfl)) ?_
      refine GH_take 4 rfl rfl rfl rfl (by kernel_rfl) (by kernel_rfl) (by kernel_rfl) (fun _ _ => (V_fieldAddr (fo := 1) rfl Tryd.underlying80 rfl infTellSw_3 rfl rfl rfl)) ?_
      refine GH_take 5 rfl rfl rfl rfl (by kernel_rfl) (by kernel_rfl) (by kernel_rfl) (fun _ _ => (V_load1 rfl rfl (mem_at 8 rfl) rfl Tryd.underlying3 rfl)) ?_
      refine GH_take 7 rfl rfl rfl rfl (by kernel_rfl) (by kernel_rfl) (by kernel_rfl) (fun _ _ => (V_fieldAddr (fo := 2) rfl Tryd.underlying80 rfl infTellSw_3 rfl rfl rfl)) ?_
      refine GH_take 8 rfl rfl rfl rfl (by kernel_rfl) (by kernel_rfl) (by kernel_rfl) (fun _ _ => (V_load1 rfl rfl (mem_at 8 rfl) rfl Tryd.underlying3 rfl)) ?_
      refine GH_all [3] (by kernel_rfl) (by decide) ?_
      refine (And.intro ?_ trivial)
      · skip
        refine GHop_call (L2 := [_, _, _, _, _]) rfl rfl rfl rfl rfl rfl Tryd.call9 (tl_quote x9.m (by have := hk9.m1; omega)) [] [] rfl rfl [4, 0] (by rintro v post ⟨rfl, rfl⟩; exact ⟨_, rfl⟩) ?_
        rintro v post ⟨rfl, rfl⟩
        show GH _ _ _ _ _ _ _ [_, _, _, _, _] _
        refine GH_all [6] (by kernel_rfl) (by decide) ?_
        refine (And.intro ?_ trivial)
        · skip
          refine GHop_call (L2 := [_, _, _, _, _]) rfl rfl rfl rfl rfl rfl Tryd.call40 (tl_num x9.a.2.1 hk9.a1.1 hk9.a1.2 T0 r0) [] [6] rfl rfl [4, 0] (by rintro v post ⟨rfl, rfl⟩; exact ⟨_, rfl⟩) ?_
          rintro v post ⟨rfl, rfl⟩
          show GH _ _ _ _ _ _ _ [_, _, _, _, _] _
          refine GH_all [9] (by kernel_rfl) (by decide) ?_
          refine (And.intro ?_ trivial)
          · skip
            refine GHop_call (L2 := [_, _, _, _, _]) rfl rfl rfl rfl rfl rfl Tryd.call40 (tl_num x9.a.2.2 hk9.a2.1 hk9.a2.2 T0 r0) [] [6] rfl rfl [4, 0] (by rintro v post ⟨rfl, rfl⟩; exact ⟨_, rfl⟩) ?_
            rintro v post ⟨rfl, rfl⟩
            show GH _ _ _ _ _ _ _ [_, _, _, _, _] _
            refine GH_all [10] (by kernel_rfl) (by decide) ?_
            refine (And.intro ?_ trivial)
            · skip
              refine GHop_new rfl rfl rfl rfl (N_buildAll (s := 1) (cs := [_, _, _, _]) rfl Tryd.underlying53 infTellSw_9 rfl rfl rfl rfl rfl rfl rfl rfl rfl) [5, 1] (fun _ => ⟨_, rfl⟩) (fun b54 => ?_)
              refine GH_all [11] (by kernel_rfl) (by decide) ?_
              refine (And.intro ?_ trivial)
              · skip
                refine GHop_callC (L2 := [_, _, _, _]) rfl rfl rfl rfl rfl rfl Tryd.call36 rfl (ts_line (some b54) 0 4 _ _ _ (wkParts x9) (sees_lit4w b54 _ _ _ _) (by simp [wkParts]) (by omega) b3 py9 v9 (stT3 tk dr l7 l8 ++ linesT wkParts (l9.take i9)) hp9 hv9 (by simp only [List.length_append]; omega)) [3, 3] [7] rfl rfl [5, 3] (by rintro v post ⟨rfl, w9, hw9, rfl⟩; exact ⟨_, rfl⟩) ?_
                rintro v post ⟨rfl, w9, hw9, rfl⟩
                show GH _ _ _ _ _ _ _ [_, _, _, _, _, _] _
                refine GH_done (by kernel_rfl) ?_
                refine G_inBlock ?_
                have hn9 : (stT3 tk dr l7 l8 ++ linesT wkParts (l9.take i9)) ++ (joinT 32 (wkParts x9) ++ [10]) = stT3 tk dr l7 l8 ++ linesT wkParts (l9.take (i9 + 1)) := by rw [List.append_assoc, ← linesT_next hx9]; rfl
                rw [hn9] at hw9 ⊢
                refine G_region (l := [0, 1]) rfl ?_
                first
                  | refine G_val rfl rfl rfl rfl ((V_add rfl rfl rfl).int (wrap_i64 (by omega))) ?_
                  | refine G_val rfl rfl rfl rfl (V_add rfl rfl rfl) ?_
                refine G_val rfl rfl rfl rfl (V_move rfl rfl) ?_
                refine G_done ?_
                refine G_sub ?_ [4, 0, 0, 2] ?_ (ih9 (i9 + 1, .pointer (some ⟨b3, 0, none⟩), w9) ?_ ?_)
                · (refine (And.intro ?_ (And.intro ?_ (And.intro ?_ (And.intro ?_ (And.intro ?_ (And.intro ?_ trivial)))))) <;> first | rfl | exact slot_int (by omega) | exact slot_int (by simp))
                · exact ⟨_, rfl⟩
                · exact ⟨by omega, .inr rfl, hw9⟩
                · (first | omega | (dsimp only; omega))
    refine G_exit rfl ?_
    refine G_seq ?_
    refine G_seq ?_
    rw [List.take_of_length_le (show l9.length ≤ i9 by omega)] at hv9 ⊢
    rw [show stT3 tk dr l7 l8 ++ linesT wkParts l9 = stT4 tk dr l7 l8 l9 from rfl] at hv9 ⊢
    have hl4 : (stT4 tk dr l7 l8 l9).length ≤ (stT3 tk dr l7 l8).length + 5000007 * l9.length := by
      have := linesT_len (f := wkParts) (l := l9) (fun y hy => ⟨wk_sum (h9 y hy), by simp [wkParts]⟩)
      unfold stT4; rw [List.length_append]; omega
    refine G_region (l := [0, 1, 2, 3]) rfl ?_
    refine G_val rfl rfl rfl rfl (V_fieldAddr (fo := 10) rfl Tryd.underlying46 rfl infTellSw_35 rfl rfl rfl) ?_
    refine G_val rfl rfl rfl rfl (V_load1 rfl rfl (mem_at 7 rfl) rfl Tryd.underlying35 rfl) ?_
    refine G_val rfl rfl rfl rfl (V_len rfl rfl Tryd.underlying35 rfl) ?_
    refine G_val rfl rfl rfl rfl (V_move rfl rfl) ?_
    rw [show (stT4 tk dr l7 l8 l9).length = (stT4 tk dr l7 l8 l9 ++ linesT ivParts (l10.take 0)).length by simp [linesT]]
    refine G_done ?_
    refine G_block ?_
    refine G_sub ?he16 [0, 0, 0, 0] ?hl16 (G_loop (X := Nat × Value × Sl) (fun y => match y with | ⟨i10, py10, v10⟩ => i10 ≤ l10.length ∧ UsedOr b3 py10 ∧ Txt v10 (stT4 tk dr l7 l8 l9 ++ linesT ivParts (l10.take i10))) (fun y => match y with | ⟨i10, py10, v10⟩ => l10.length - i10) (fun y => match y with | ⟨i10, py10, v10⟩ => [(1, .pointer (some ⟨b1, 0, none⟩)), (3, .pointer (some ⟨b3, 0, none⟩)), (4, .pointer (some ⟨b4, 0, none⟩)), (58, sv o10 p10 l10.length q10), (59, .int .i64 (l10.length : Int)), (60, .int .i64 (i10 : Int))]) (fun y => match y with | ⟨i10, py10, v10⟩ => [(some b1, .cells #[.int .u64 (tk : Int), .bool dr, .int .i64 n2, .int .i64 n3, .int .i64 n4, .int .i64 n5, .int .i64 n6, sv o7 p7 l7.length q7, sv o8 p8 l8.length q8, sv o9 p9 l9.length q9, sv o10 p10 l10.length q10, .slice x11 n11 q11, .slice x12 n12 q12, sv o13 p13 l13.length q13, sv o14 p14 l14.length q14] 46 (0, 0)), (some b3, .cells #[py10, v10.v (stT4 tk dr l7 l8 l9 ++ linesT ivParts (l10.take i10)).length] 57 (0, 0)), (v10.ob, .cells v10.cs 5 v10.fz), (some b4, .cells #[.func (.func 36) #[] #[.pointer (some ⟨b3, 0, none⟩)]] 85 (0, 0))]) ?round16 (0, py9, v9) ?h016)
    case he16 => exact (And.intro rfl (And.intro rfl (And.intro rfl (And.intro rfl (And.intro rfl (And.intro rfl trivial))))))
    case hl16 => exact ⟨_, rfl⟩
    case h016 => exact ⟨Nat.zero_le _, hp9, by simpa [linesT] using hv9⟩
    case round16 =>
     intro y hJ ih10
     try dsimp only at hJ ih10
     obtain ⟨i10, py10, v10⟩ := y
     try dsimp only at hJ ih10
     obtain ⟨hi10, hp10, hv10⟩ := hJ
     show G _ _ [(1, .pointer (some ⟨b1, 0, none⟩)), (3, .pointer (some ⟨b3, 0, none⟩)), (4, .pointer (some ⟨b4, 0, none⟩)), (58, sv o10 p10 l10.length q10), (59, .int .i64 (l10.length : Int)), (60, .int .i64 (i10 : Int))] [(some b1, .cells #[.int .u64 (tk : Int), .bool dr, .int .i64 n2, .int .i64 n3, .int .i64 n4, .int .i64 n5, .int .i64 n6, sv o7 p7 l7.length q7, sv o8 p8 l8.length q8, sv o9 p9 l9.length q9, sv o10 p10 l10.length q10, .slice x11 n11 q11, .slice x12 n12 q12, sv o13 p13 l13.length q13, sv o14 p14 l14.length q14] 46 (0, 0)), (some b3, .cells #[py10, v10.v (stT4 tk dr l7 l8 l9 ++ linesT ivParts (l10.take i10)).length] 57 (0, 0)), (v10.ob, .cells v10.cs 5 v10.fz), (some b4, .cells #[.func (.func 36) #[] #[.pointer (some ⟨b3, 0, none⟩)]] 85 (0, 0))] _
     refine G_seq ?_
     refine G_region (l := [0]) rfl ?_
     refine G_val rfl rfl rfl rfl (V_lss rfl rfl rfl) ?_
     refine G_done ?_
     refine G_seq ?_
     refine G_ifD rfl (fun hc3 => ?_) (fun hc3 => ?_)
     · skip
       refine G_skip ?_
       refine G_seq ?_
       refine G_block ?_
       refine G_seq ?_
       obtain ⟨x10, hx10⟩ := getI (show i10 < l10.length by omega)
       obtain ⟨bo10, rfl⟩ := s10.isSome (by omega)
       have hk10 := h10 x10 (List.mem_of_getElem? hx10)
       have hs10 := iv_sum hk10
       have hz10 : (linesT ivParts (l10.take i10)).length ≤ 5000007 * (l10.take i10).length := linesT_len (fun y hy => ⟨iv_sum (h10 y (List.mem_of_mem_take hy)), by simp [ivParts]⟩)
       have ht10 : (l10.take i10).length ≤ i10 := by simp; omega
       refine G_region (l := [0, 1, 2, 3]) rfl ?_
       first
         | refine G_val rfl rfl rfl rfl (V_indexAddrN (s := 5) rfl Tryd.underlying35 infTellSw_82 rfl rfl rfl rfl (by omega)) ?_
         | refine G_val rfl rfl rfl rfl (V_indexAddr (s := 5) rfl Tryd.underlying35 infTellSw_82 rfl rfl rfl (by omega) (by first | omega | (simp [rqCells, Sl.v, opC, wkC, ivC, ltC, wtC]; done) | (simp [rqCells, Sl.v, opC, wkC, ivC, ltC, wtC]; omega) | (simp [rqCells, Sl.v, opC, wkC, ivC, ltC, wtC] at *; omega))) ?_
       refine G_val rfl rfl rfl rfl (V_loadA (s := 5) (vs := (ivC x10).toArray) rfl rfl (mem_at 3 rfl) Tryd.underlying82 rfl infTellSw_82 rfl (s10.elem iv_len hx10) (by first | rfl | (simp [bcells_length, rqCells, Sl.v, opC, wkC, ivC, ltC, wtC]; done) | (simp [bcells_length, rqCells, Sl.v, opC, wkC, ivC, ltC, wtC]; omega) | (simp [bcells_length, *, rqCells, Sl.v, opC, wkC, ivC, ltC, wtC]; done))) ?_
       refine G_new rfl rfl rfl rfl (N_allocA rfl infTellSw_82 rfl) (fun b10 => ?_)
       refine G_put (l1 := []) (L' := [_, _, _, _, _]) rfl rfl rfl rfl (P_storeA (s := 5) rfl rfl rfl (mem_at 0 rfl) (by first | rfl | (simp [bcells_length, rqCells, Sl.v, opC, wkC, ivC, ltC, wtC]; done) | (simp [bcells_length, rqCells, Sl.v, opC, wkC, ivC, ltC, wtC]; omega) | (simp [bcells_length, *, rqCells, Sl.v, opC, wkC, ivC, ltC, wtC]; done)) infTellSw_82 rfl (by first | rfl | (simp [bcells_length, rqCells, Sl.v, opC, wkC, ivC, ltC, wtC]; done) | (simp [bcells_length, rqCells, Sl.v, opC, wkC, ivC, ltC, wtC]; omega) | (simp [bcells_length, *, rqCells, Sl.v, opC, wkC, ivC, ltC, wtC]; done)) (by first | rfl | exact bcells_all _ | (simp [Value.oneCell', rqCells, Sl.v, opC, wkC, ivC, ltC, wtC]; done) | (simp [Value.oneCell', *, rqCells, Sl.v, opC, wkC, ivC, ltC, wtC]; done))) rfl ?_
       refine G_done ?_
       refine GH_start (Lq := [_, _]) (isq := [4, 0]) (m := 12) mixedK rfl rfl ?_
       refine GH_take 0 rfl rfl rfl rfl (by kernel_rfl) (by kernel_rfl) (by kernel_rfl) (fun _ _ => (V_load1 rfl rfl (mem_at 7 rfl) rfl Tryd.underlying85 rfl)) ?_
       refine GH_take 1 rfl rfl rfl rfl (by kernel_rfl) (by kernel_rfl) (by kernel_rfl) (fun _ _ => (V_fieldAddr (fo := 1) rfl Tryd.underlying82 rfl infTellSw_3 rfl rfl rfl)) ?_
       refine GH_take 2 rfl rfl rfl rfl (by kernel_rfl) (by kernel_rfl) (by kernel_rfl) (fun _ _ => (V_load1 rfl rfl (mem_at 8 rfl) rfl Tryd.underlying3 rfl)) ?_
       refine GH_take 4 rfl rfl rfl rfl (by kernel_rfl) (by kernel_rfl) (by kernel_rfl) (fun _ _ => (V_fieldAddr (fo := 2) rfl Tryd.underlying82 rfl infTellSw_9 rfl rfl rfl)) ?_
       refine GH_take 5 rfl rfl rfl rfl (by kernel_rfl) (by kernel_rfl) (by kernel_rfl) (fun _ _ => (V_load1 rfl rfl (mem_at 8 rfl) rfl Tryd.underlying9 rfl)) ?_
       refine GH_take 7 rfl rfl rfl rfl (by kernel_rfl) (by kernel_rfl) (by kernel_rfl) (fun _ _ => (V_fieldAddr (fo := 4) rfl Tryd.underlying82 rfl infTellSw_3 rfl rfl rfl)) ?_
       refine GH_take 8 rfl rfl rfl rfl (by kernel_rfl) (by kernel_rfl) (by kernel_rfl) (fun _ _ => (V_load1 rfl rfl (mem_at 8 rfl) rfl Tryd.underlying3 rfl)) ?_
       refine GH_all [3] (by kernel_rfl) (by decide) ?_
       refine (And.intro ?_ trivial)
       · skip
         refine GHop_call (L2 := [_, _, _, _, _]) rfl rfl rfl rfl rfl rfl Tryd.call40 (tl_num x10.a.2 hk10.a1.1 hk10.a1.2 T0 r0) [] [6] rfl rfl [4, 0] (by rintro v post ⟨rfl, rfl⟩; exact ⟨_, rfl⟩) ?_
         rintro v post ⟨rfl, rfl⟩
         show GH _ _ _ _ _ _ _ [_, _, _, _, _] _
         refine GH_all [6] (by kernel_rfl) (by decide) ?_
         refine (And.intro ?_ trivial)
         · skip
           refine GHop_call (L2 := [_, _, _, _, _]) rfl rfl rfl rfl rfl rfl Tryd.call9 (tl_quote x10.s (by have := hk10.s1; omega)) [] [] rfl rfl [4, 0] (by rintro v post ⟨rfl, rfl⟩; exact ⟨_, rfl⟩) ?_
           rintro v post ⟨rfl, rfl⟩
           show GH _ _ _ _ _ _ _ [_, _, _, _, _] _
           refine GH_all [9] (by kernel_rfl) (by decide) ?_
           refine (And.intro ?_ trivial)
           · skip
             refine GHop_call (L2 := [_, _, _, _, _]) rfl rfl rfl rfl rfl rfl Tryd.call40 (tl_num x10.b.2 hk10.b1.1 hk10.b1.2 T0 r0) [] [6] rfl rfl [4, 0] (by rintro v post ⟨rfl, rfl⟩; exact ⟨_, rfl⟩) ?_
             rintro v post ⟨rfl, rfl⟩
             show GH _ _ _ _ _ _ _ [_, _, _, _, _] _
             refine GH_all [10] (by kernel_rfl) (by decide) ?_
             refine (And.intro ?_ trivial)
             · skip
               refine GHop_new rfl rfl rfl rfl (N_buildAll (s := 1) (cs := [_, _, _, _]) rfl Tryd.underlying53 infTellSw_9 rfl rfl rfl rfl rfl rfl rfl rfl rfl) [5, 1] (fun _ => ⟨_, rfl⟩) (fun b74 => ?_)
               refine GH_all [11] (by kernel_rfl) (by decide) ?_
               refine (And.intro ?_ trivial)
               · skip
                 refine GHop_callC (L2 := [_, _, _, _]) rfl rfl rfl rfl rfl rfl Tryd.call36 rfl (ts_line (some b74) 0 4 _ _ _ (ivParts x10) (sees_lit4w b74 _ _ _ _) (by simp [ivParts]) (by omega) b3 py10 v10 (stT4 tk dr l7 l8 l9 ++ linesT ivParts (l10.take i10)) hp10 hv10 (by simp only [List.length_append]; omega)) [3, 3] [7] rfl rfl [5, 3] (by rintro v post ⟨rfl, w10, hw10, rfl⟩; exact ⟨_, rfl⟩) ?_
                 rintro v post ⟨rfl, w10, hw10, rfl⟩
                 show GH _ _ _ _ _ _ _ [_, _, _, _, _, _] _
                 refine GH_done (by kernel_rfl) ?_
                 refine G_inBlock ?_
                 have hn10 : (stT4 tk dr l7 l8 l9 ++ linesT ivParts (l10.take i10)) ++ (joinT 32 (ivParts x10) ++ [10]) = stT4 tk dr l7 l8 l9 ++ linesT ivParts (l10.take (i10 + 1)) := by rw [List.append_assoc, ← linesT_next hx10]; rfl
                 rw [hn10] at hw10 ⊢
                 refine G_region (l := [0, 1]) rfl ?_
                 first
                   | refine G_val rfl rfl rfl rfl ((V_add rfl rfl rfl).int (wrap_i64 (by omega))) ?_
                   | refine G_val rfl rfl rfl rfl (V_add rfl rfl rfl) ?_
                 refine G_val rfl rfl rfl rfl (V_move rfl rfl) ?_
                 refine G_done ?_
                 refine G_sub ?_ [4, 0, 0, 2] ?_ (ih10 (i10 + 1, .pointer (some ⟨b3, 0, none⟩), w10) ?_ ?_)
                 · (refine (And.intro ?_ (And.intro ?_ (And.intro ?_ (And.intro ?_ (And.intro ?_ (And.intro ?_ trivial)))))) <;> first | rfl | exact slot_int (by omega) | exact slot_int (by simp))
                 · exact ⟨_, rfl⟩
                 · exact ⟨by omega, .inr rfl, hw10⟩
                 · (first | omega | (dsimp only; omega))
     refine G_exit rfl ?_
     refine G_seq ?_
     refine G_seq ?_
     rw [List.take_of_length_le (show l10.length ≤ i10 by omega)] at hv10 ⊢
     rw [show stT4 tk dr l7 l8 l9 ++ linesT ivParts l10 = stT5 tk dr l7 l8 l9 l10 from rfl] at hv10 ⊢
     have hl5 : (stT5 tk dr l7 l8 l9 l10).length ≤ (stT4 tk dr l7 l8 l9).length + 5000007 * l10.length := by
       have := linesT_len (f := ivParts) (l := l10) (fun y hy => ⟨iv_sum (h10 y hy), by simp [ivParts]⟩)
       unfold stT5; rw [List.length_append]; omega
     refine G_region (l := [0, 1, 2, 3]) rfl ?_
     refine G_val rfl rfl rfl rfl (V_fieldAddr (fo := 13) rfl Tryd.underlying46 rfl infTellSw_38 rfl rfl rfl) ?_
     refine G_val rfl rfl rfl rfl (V_load1 rfl rfl (mem_at 7 rfl) rfl Tryd.underlying38 rfl) ?_
     refine G_val rfl rfl rfl rfl (V_len rfl rfl Tryd.underlying38 rfl) ?_
     refine G_val rfl rfl rfl rfl (V_move rfl rfl) ?_
     rw [show (stT5 tk dr l7 l8 l9 l10).length = (stT5 tk dr l7 l8 l9 l10 ++ linesT ltParts (l13.take 0)).length by simp [linesT]]
     refine G_done ?_
     refine G_block ?_
     refine G_sub ?he21 [0, 0, 0, 0] ?hl21 (G_loop (X := Nat × Value × Sl) (fun y => match y with | ⟨i13, py13, v13⟩ => i13 ≤ l13.length ∧ UsedOr b3 py13 ∧ Txt v13 (stT5 tk dr l7 l8 l9 l10 ++ linesT ltParts (l13.take i13))) (fun y => match y with | ⟨i13, py13, v13⟩ => l13.length - i13) (fun y => match y with | ⟨i13, py13, v13⟩ => [(1, .pointer (some ⟨b1, 0, none⟩)), (3, .pointer (some ⟨b3, 0, none⟩)), (4, .pointer (some ⟨b4, 0, none⟩)), (78, sv o13 p13 l13.length q13), (79, .int .i64 (l13.length : Int)), (80, .int .i64 (i13 : Int))]) (fun y => match y with | ⟨i13, py13, v13⟩ => [(some b1, .cells #[.int .u64 (tk : Int), .bool dr, .int .i64 n2, .int .i64 n3, .int .i64 n4, .int .i64 n5, .int .i64 n6, sv o7 p7 l7.length q7, sv o8 p8 l8.length q8, sv o9 p9 l9.length q9, sv o10 p10 l10.length q10, .slice x11 n11 q11, .slice x12 n12 q12, sv o13 p13 l13.length q13, sv o14 p14 l14.length q14] 46 (0, 0)), (some b3, .cells #[py13, v13.v (stT5 tk dr l7 l8 l9 l10 ++ linesT ltParts (l13.take i13)).length] 57 (0, 0)), (v13.ob, .cells v13.cs 5 v13.fz), (some b4, .cells #[.func (.func 36) #[] #[.pointer (some ⟨b3, 0, none⟩)]] 85 (0, 0))]) ?round21 (0, py10, v10) ?h021)
     case he21 => exact (And.intro rfl (And.intro rfl (And.intro rfl (And.intro rfl (And.intro rfl (And.intro rfl trivial))))))
     case hl21 => exact ⟨_, rfl⟩
     case h021 => exact ⟨Nat.zero_le _, hp10, by simpa [linesT] using hv10⟩
     case round21 =>
      intro y hJ ih13
      try dsimp only at hJ ih13
      obtain ⟨i13, py13, v13⟩ := y
      try dsimp only at hJ ih13
      obtain ⟨hi13, hp13, hv13⟩ := hJ
      show G _ _ [(1, .pointer (some ⟨b1, 0, none⟩)), (3, .pointer (some ⟨b3, 0, none⟩)), (4, .pointer (some ⟨b4, 0, none⟩)), (78, sv o13 p13 l13.length q13), (79, .int .i64 (l13.length : Int)), (80, .int .i64 (i13 : Int))] [(some b1, .cells #[.int .u64 (tk : Int), .bool dr, .int .i64 n2, .int .i64 n3, .int .i64 n4, .int .i64 n5, .int .i64 n6, sv o7 p7 l7.length q7, sv o8 p8 l8.length q8, sv o9 p9 l9.length q9, sv o10 p10 l10.length q10, .slice x11 n11 q11, .slice x12 n12 q12, sv o13 p13 l13.length q13, sv o14 p14 l14.length q14] 46 (0, 0)), (some b3, .cells #[py13, v13.v (stT5 tk dr l7 l8 l9 l10 ++ linesT ltParts (l13.take i13)).length] 57 (0, 0)), (v13.ob, .cells v13.cs 5 v13.fz), (some b4, .cells #[.func (.func 36) #[] #[.pointer (some ⟨b3, 0, none⟩)]] 85 (0, 0))] _
      refine G_seq ?_
      refine G_region (l := [0]) rfl ?_
      refine G_val rfl rfl rfl rfl (V_lss rfl rfl rfl) ?_
      refine G_done ?_
      refine G_seq ?_
      refine G_ifD rfl (fun hc4 => ?_) (fun hc4 => ?_)
      · skip
        refine G_skip ?_
        refine G_seq ?_
        refine G_block ?_
        refine G_seq ?_
        obtain ⟨x13, hx13⟩ := getI (show i13 < l13.length by omega)
        obtain ⟨bo13, rfl⟩ := s13.isSome (by omega)
        have hk13 := h13 x13 (List.mem_of_getElem? hx13)
        have hs13 := lt_sum hk13
        have hz13 : (linesT ltParts (l13.take i13)).length ≤ 5000007 * (l13.take i13).length := linesT_len (fun y hy => ⟨lt_sum (h13 y (List.mem_of_mem_take hy)), by simp [ltParts]⟩)
        have ht13 : (l13.take i13).length ≤ i13 := by simp; omega
        refine G_region (l := [0, 1, 2, 3]) rfl ?_
        first
          | refine G_val rfl rfl rfl rfl (V_indexAddrN (s := 6) rfl Tryd.underlying38 infTellSw_93 rfl rfl rfl rfl (by omega)) ?_
          | refine G_val rfl rfl rfl rfl (V_indexAddr (s := 6) rfl Tryd.underlying38 infTellSw_93 rfl rfl rfl (by omega) (by first | omega | (simp [rqCells, Sl.v, opC, wkC, ivC, ltC, wtC]; done) | (simp [rqCells, Sl.v, opC, wkC, ivC, ltC, wtC]; omega) | (simp [rqCells, Sl.v, opC, wkC, ivC, ltC, wtC] at *; omega))) ?_
        refine G_val rfl rfl rfl rfl (V_loadA (s := 6) (vs := (ltC x13).toArray) rfl rfl (mem_at 4 rfl) Tryd.underlying93 rfl infTellSw_93 rfl (s13.elem lt_len hx13) (by first | rfl | (simp [bcells_length, rqCells, Sl.v, opC, wkC, ivC, ltC, wtC]; done) | (simp [bcells_length, rqCells, Sl.v, opC, wkC, ivC, ltC, wtC]; omega) | (simp [bcells_length, *, rqCells, Sl.v, opC, wkC, ivC, ltC, wtC]; done))) ?_
        refine G_new rfl rfl rfl rfl (N_allocA rfl infTellSw_93 rfl) (fun b12 => ?_)
        refine G_put (l1 := []) (L' := [_, _, _, _, _]) rfl rfl rfl rfl (P_storeA (s := 6) rfl rfl rfl (mem_at 0 rfl) (by first | rfl | (simp [bcells_length, rqCells, Sl.v, opC, wkC, ivC, ltC, wtC]; done) | (simp [bcells_length, rqCells, Sl.v, opC, wkC, ivC, ltC, wtC]; omega) | (simp [bcells_length, *, rqCells, Sl.v, opC, wkC, ivC, ltC, wtC]; done)) infTellSw_93 rfl (by first | rfl | (simp [bcells_length, rqCells, Sl.v, opC, wkC, ivC, ltC, wtC]; done) | (simp [bcells_length, rqCells, Sl.v, opC, wkC, ivC, ltC, wtC]; omega) | (simp [bcells_length, *, rqCells, Sl.v, opC, wkC, ivC, ltC, wtC]; done)) (by first | rfl | exact bcells_all _ | (simp [Value.oneCell', rqCells, Sl.v, opC, wkC, ivC, ltC, wtC]; done) | (simp [Value.oneCell', *, rqCells, Sl.v, opC, wkC, ivC, ltC, wtC]; done))) rfl ?_
        refine G_done ?_
        refine GH_start (Lq := [_, _]) (isq := [4, 0]) (m := 9) mixedK rfl rfl ?_
        refine GH_take 0 rfl rfl rfl rfl (by kernel_rfl) (by kernel_rfl) (by kernel_rfl) (fun _ _ => (V_load1 rfl rfl (mem_at 7 rfl) rfl Tryd.underlying85 rfl)) ?_
        refine GH_take 1 rfl rfl rfl rfl (by kernel_rfl) (by kernel_rfl) (by kernel_rfl) (fun _ _ => (V_fieldAddr (fo := 0) rfl Tryd.underlying93 rfl infTellSw_3 rfl rfl rfl)) ?_
        refine GH_take 2 rfl rfl rfl rfl (by kernel_rfl) (by kernel_rfl) (by kernel_rfl) (fun _ _ => (V_load1 rfl rfl (mem_at 8 rfl) rfl Tryd.underlying3 rfl)) ?_
        refine GH_take 4 rfl rfl rfl rfl (by kernel_rfl) (by kernel_rfl) (by kernel_rfl) (fun _ _ => (V_fieldAddr (fo := 3) rfl Tryd.underlying93 rfl infTellSw_3 rfl rfl rfl)) ?_
        refine GH_take 5 rfl rfl rfl rfl (by kernel_rfl) (by kernel_rfl) (by kernel_rfl) (fun _ _ => (V_load1 rfl rfl (mem_at 8 rfl) rfl Tryd.underlying3 rfl)) ?_
        refine GH_all [3] (by kernel_rfl) (by decide) ?_
        refine (And.intro ?_ trivial)
        · skip
          refine GHop_call (L2 := [_, _, _, _, _]) rfl rfl rfl rfl rfl rfl Tryd.call40 (tl_num x13.a.1 hk13.a1.1 hk13.a1.2 T0 r0) [] [6] rfl rfl [4, 0] (by rintro v post ⟨rfl, rfl⟩; exact ⟨_, rfl⟩) ?_
          rintro v post ⟨rfl, rfl⟩
          show GH _ _ _ _ _ _ _ [_, _, _, _, _] _
          refine GH_all [6] (by kernel_rfl) (by decide) ?_
          refine (And.intro ?_ trivial)
          · skip
            refine GHop_call (L2 := [_, _, _, _, _]) rfl rfl rfl rfl rfl rfl Tryd.call40 (tl_num x13.a.2.2.2 hk13.a2.1 hk13.a2.2 T0 r0) [] [6] rfl rfl [4, 0] (by rintro v post ⟨rfl, rfl⟩; exact ⟨_, rfl⟩) ?_
            rintro v post ⟨rfl, rfl⟩
            show GH _ _ _ _ _ _ _ [_, _, _, _, _] _
            refine GH_all [7] (by kernel_rfl) (by decide) ?_
            refine (And.intro ?_ trivial)
            · skip
              refine GHop_new rfl rfl rfl rfl (N_buildAll (s := 1) (cs := [_, _, _]) rfl Tryd.underlying53 infTellSw_9 rfl rfl rfl rfl rfl rfl rfl rfl rfl) [5, 1] (fun _ => ⟨_, rfl⟩) (fun b91 => ?_)
              refine GH_all [8] (by kernel_rfl) (by decide) ?_
              refine (And.intro ?_ trivial)
              · skip
                refine GHop_callC (L2 := [_, _, _, _]) rfl rfl rfl rfl rfl rfl Tryd.call36 rfl (ts_line (some b91) 0 3 _ _ _ (ltParts x13) (sees_lit3w b91 _ _ _) (by simp [ltParts]) (by omega) b3 py13 v13 (stT5 tk dr l7 l8 l9 l10 ++ linesT ltParts (l13.take i13)) hp13 hv13 (by simp only [List.length_append]; omega)) [3, 3] [7] rfl rfl [5, 3] (by rintro v post ⟨rfl, w13, hw13, rfl⟩; exact ⟨_, rfl⟩) ?_
                rintro v post ⟨rfl, w13, hw13, rfl⟩
                show GH _ _ _ _ _ _ _ [_, _, _, _, _, _] _
                refine GH_done (by kernel_rfl) ?_
                refine G_inBlock ?_
                have hn13 : (stT5 tk dr l7 l8 l9 l10 ++ linesT ltParts (l13.take i13)) ++ (joinT 32 (ltParts x13) ++ [10]) = stT5 tk dr l7 l8 l9 l10 ++ linesT ltParts (l13.take (i13 + 1)) := by rw [List.append_assoc, ← linesT_next hx13]; rfl
                rw [hn13] at hw13 ⊢
                refine G_region (l := [0, 1]) rfl ?_
                first
                  | refine G_val rfl rfl rfl rfl ((V_add rfl rfl rfl).int (wrap_i64 (by omega))) ?_
                  | refine G_val rfl rfl rfl rfl (V_add rfl rfl rfl) ?_
                refine G_val rfl rfl rfl rfl (V_move rfl rfl) ?_
                refine G_done ?_
                refine G_sub ?_ [4, 0, 0, 2] ?_ (ih13 (i13 + 1, .pointer (some ⟨b3, 0, none⟩), w13) ?_ ?_)
                · (refine (And.intro ?_ (And.intro ?_ (And.intro ?_ (And.intro ?_ (And.intro ?_ (And.intro ?_ trivial)))))) <;> first | rfl | exact slot_int (by omega) | exact slot_int (by simp))
                · exact ⟨_, rfl⟩
                · exact ⟨by omega, .inr rfl, hw13⟩
                · (first | omega | (dsimp only; omega))
      refine G_exit rfl ?_
      refine G_seq ?_
      refine G_seq ?_
      rw [List.take_of_length_le (show l13.length ≤ i13 by omega)] at hv13 ⊢
      rw [show stT5 tk dr l7 l8 l9 l10 ++ linesT ltParts l13 = stT6 tk dr l7 l8 l9 l10 l13 from rfl] at hv13 ⊢
      have hl6 : (stT6 tk dr l7 l8 l9 l10 l13).length ≤ (stT5 tk dr l7 l8 l9 l10).length + 5000007 * l13.length := by
        have := linesT_len (f := ltParts) (l := l13) (fun y hy => ⟨lt_sum (h13 y hy), by simp [ltParts]⟩)
        unfold stT6; rw [List.length_append]; omega
      refine G_region (l := [0, 1, 2, 3]) rfl ?_
      refine G_val rfl rfl rfl rfl (V_fieldAddr (fo := 14) rfl Tryd.underlying46 rfl infTellSw_39 rfl rfl rfl) ?_
      refine G_val rfl rfl rfl rfl (V_load1 rfl rfl (mem_at 7 rfl) rfl Tryd.underlying39 rfl) ?_
      refine G_val rfl rfl rfl rfl (V_len rfl rfl Tryd.underlying39 rfl) ?_
      refine G_val rfl rfl rfl rfl (V_move rfl rfl) ?_
      rw [show (stT6 tk dr l7 l8 l9 l10 l13).length = (stT6 tk dr l7 l8 l9 l10 l13 ++ linesT wtParts (l14.take 0)).length by simp [linesT]]
      refine G_done ?_
      refine G_block ?_
      refine G_sub ?he26 [0, 0, 0, 0] ?hl26 (G_loop (X := Nat × Value × Sl) (fun y => match y with | ⟨i14, py14, v14⟩ => i14 ≤ l14.length ∧ UsedOr b3 py14 ∧ Txt v14 (stT6 tk dr l7 l8 l9 l10 l13 ++ linesT wtParts (l14.take i14))) (fun y => match y with | ⟨i14, py14, v14⟩ => l14.length - i14) (fun y => match y with | ⟨i14, py14, v14⟩ => [(1, .pointer (some ⟨b1, 0, none⟩)), (3, .pointer (some ⟨b3, 0, none⟩)), (4, .pointer (some ⟨b4, 0, none⟩)), (95, sv o14 p14 l14.length q14), (96, .int .i64 (l14.length : Int)), (97, .int .i64 (i14 : Int))]) (fun y => match y with | ⟨i14, py14, v14⟩ => [(some b1, .cells #[.int .u64 (tk : Int), .bool dr, .int .i64 n2, .int .i64 n3, .int .i64 n4, .int .i64 n5, .int .i64 n6, sv o7 p7 l7.length q7, sv o8 p8 l8.length q8, sv o9 p9 l9.length q9, sv o10 p10 l10.length q10, .slice x11 n11 q11, .slice x12 n12 q12, sv o13 p13 l13.length q13, sv o14 p14 l14.length q14] 46 (0, 0)), (some b3, .cells #[py14, v14.v (stT6 tk dr l7 l8 l9 l10 l13 ++ linesT wtParts (l14.take i14)).length] 57 (0, 0)), (v14.ob, .cells v14.cs 5 v14.fz), (some b4, .cells #[.func (.func 36) #[] #[.pointer (some ⟨b3, 0, none⟩)]] 85 (0, 0))]) ?round26 (0, py13, v13) ?h026)
      case he26 => exact (And.intro rfl (And.intro rfl (And.intro rfl (And.intro rfl (And.intro rfl (And.intro rfl trivial))))))
      case hl26 => exact ⟨_, rfl⟩
      case h026 => exact ⟨Nat.zero_le _, hp13, by simpa [linesT] using hv13⟩
      case round26 =>
       intro y hJ ih14
       try dsimp only at hJ ih14
       obtain ⟨i14, py14, v14⟩ := y
       try dsimp only at hJ ih14
       obtain ⟨hi14, hp14, hv14⟩ := hJ
       show G _ _ [(1, .pointer (some ⟨b1, 0, none⟩)), (3, .pointer (some ⟨b3, 0, none⟩)), (4, .pointer (some ⟨b4, 0, none⟩)), (95, sv o14 p14 l14.length q14), (96, .int .i64 (l14.length : Int)), (97, .int .i64 (i14 : Int))] [(some b1, .cells #[.int .u64 (tk : Int), .bool dr, .int .i64 n2, .int .i64 n3, .int .i64 n4, .int .i64 n5, .int .i64 n6, sv o7 p7 l7.length q7, sv o8 p8 l8.length q8, sv o9 p9 l9.length q9, sv o10 p10 l10.length q10, .slice x11 n11 q11, .slice x12 n12 q12, sv o13 p13 l13.length q13, sv o14 p14 l14.length q14] 46 (0, 0)), (some b3, .cells #[py14, v14.v (stT6 tk dr l7 l8 l9 l10 l13 ++ linesT wtParts (l14.take i14)).length] 57 (0, 0)), (v14.ob, .cells v14.cs 5 v14.fz), (some b4, .cells #[.func (.func 36) #[] #[.pointer (some ⟨b3, 0, none⟩)]] 85 (0, 0))] _
       refine G_seq ?_
       refine G_region (l := [0]) rfl ?_
       refine G_val rfl rfl rfl rfl (V_lss rfl rfl rfl) ?_
       refine G_done ?_
       refine G_seq ?_
       refine G_ifD rfl (fun hc5 => ?_) (fun hc5 => ?_)
       · skip
         refine G_skip ?_
         refine G_seq ?_
         refine G_block ?_
         refine G_seq ?_
         obtain ⟨x14, hx14⟩ := getI (show i14 < l14.length by omega)
         obtain ⟨bo14, rfl⟩ := s14.isSome (by omega)
         have hk14 := h14 x14 (List.mem_of_getElem? hx14)
         have hs14 := wt_sum hk14
         have hz14 : (linesT wtParts (l14.take i14)).length ≤ 5000007 * (l14.take i14).length := linesT_len (fun y hy => ⟨wt_sum (h14 y (List.mem_of_mem_take hy)), by simp [wtParts]⟩)
         have ht14 : (l14.take i14).length ≤ i14 := by simp; omega
         refine G_region (l := [0, 1, 2, 3]) rfl ?_
         first
           | refine G_val rfl rfl rfl rfl (V_indexAddrN (s := 2) rfl Tryd.underlying39 infTellSw_95 rfl rfl rfl rfl (by omega)) ?_
           | refine G_val rfl rfl rfl rfl (V_indexAddr (s := 2) rfl Tryd.underlying39 infTellSw_95 rfl rfl rfl (by omega) (by first | omega | (simp [rqCells, Sl.v, opC, wkC, ivC, ltC, wtC]; done) | (simp [rqCells, Sl.v, opC, wkC, ivC, ltC, wtC]; omega) | (simp [rqCells, Sl.v, opC, wkC, ivC, ltC, wtC] at *; omega))) ?_
         refine G_val rfl rfl rfl rfl (V_loadA (s := 2) (vs := (wtC x14).toArray) rfl rfl (mem_at 5 rfl) Tryd.underlying95 rfl infTellSw_95 rfl (s14.elem wt_len hx14) (by first | rfl | (simp [bcells_length, rqCells, Sl.v, opC, wkC, ivC, ltC, wtC]; done) | (simp [bcells_length, rqCells, Sl.v, opC, wkC, ivC, ltC, wtC]; omega) | (simp [bcells_length, *, rqCells, Sl.v, opC, wkC, ivC, ltC, wtC]; done))) ?_
         refine G_new rfl rfl rfl rfl (N_allocA rfl infTellSw_95 rfl) (fun b14 => ?_)
         refine G_put (l1 := []) (L' := [_, _, _, _, _]) rfl rfl rfl rfl (P_storeA (s := 2) rfl rfl rfl (mem_at 0 rfl) (by first | rfl | (simp [bcells_length, rqCells, Sl.v, opC, wkC, ivC, ltC, wtC]; done) | (simp [bcells_length, rqCells, Sl.v, opC, wkC, ivC, ltC, wtC]; omega) | (simp [bcells_length, *, rqCells, Sl.v, opC, wkC, ivC, ltC, wtC]; done)) infTellSw_95 rfl (by first | rfl | (simp [bcells_length, rqCells, Sl.v, opC, wkC, ivC, ltC, wtC]; done) | (simp [bcells_length, rqCells, Sl.v, opC, wkC, ivC, ltC, wtC]; omega) | (simp [bcells_length, *, rqCells, Sl.v, opC, wkC, ivC, ltC, wtC]; done)) (by first | rfl | exact bcells_all _ | (simp [Value.oneCell', rqCells, Sl.v, opC, wkC, ivC, ltC, wtC]; done) | (simp [Value.oneCell', *, rqCells, Sl.v, opC, wkC, ivC, ltC, wtC]; done))) rfl ?_
         refine G_done ?_
         refine GH_start (Lq := [_, _]) (isq := [4, 0]) (m := 9) mixedK rfl rfl ?_
         refine GH_take 0 rfl rfl rfl rfl (by kernel_rfl) (by kernel_rfl) (by kernel_rfl) (fun _ _ => (V_load1 rfl rfl (mem_at 7 rfl) rfl Tryd.underlying85 rfl)) ?_
         refine GH_take 1 rfl rfl rfl rfl (by kernel_rfl) (by kernel_rfl) (by kernel_rfl) (fun _ _ => (V_fieldAddr (fo := 0) rfl Tryd.underlying95 rfl infTellSw_9 rfl rfl rfl)) ?_
         refine GH_take 2 rfl rfl rfl rfl (by kernel_rfl) (by kernel_rfl) (by kernel_rfl) (fun _ _ => (V_load1 rfl rfl (mem_at 8 rfl) rfl Tryd.underlying9 rfl)) ?_
         refine GH_take 4 rfl rfl rfl rfl (by kernel_rfl) (by kernel_rfl) (by kernel_rfl) (fun _ _ => (V_fieldAddr (fo := 1) rfl Tryd.underlying95 rfl infTellSw_3 rfl rfl rfl)) ?_
         refine GH_take 5 rfl rfl rfl rfl (by kernel_rfl) (by kernel_rfl) (by kernel_rfl) (fun _ _ => (V_load1 rfl rfl (mem_at 8 rfl) rfl Tryd.underlying3 rfl)) ?_
         refine GH_all [3] (by kernel_rfl) (by decide) ?_
         refine (And.intro ?_ trivial)
         · skip
           refine GHop_call (L2 := [_, _, _, _, _]) rfl rfl rfl rfl rfl rfl Tryd.call9 (tl_quote x14.s (by have := hk14.s1; omega)) [] [] rfl rfl [4, 0] (by rintro v post ⟨rfl, rfl⟩; exact ⟨_, rfl⟩) ?_
           rintro v post ⟨rfl, rfl⟩
           show GH _ _ _ _ _ _ _ [_, _, _, _, _] _
           refine GH_all [6] (by kernel_rfl) (by decide) ?_
           refine (And.intro ?_ trivial)
           · skip
             refine GHop_call (L2 := [_, _, _, _, _]) rfl rfl rfl rfl rfl rfl Tryd.call40 (tl_num x14.n hk14.n1.1 hk14.n1.2 T0 r0) [] [6] rfl rfl [4, 0] (by rintro v post ⟨rfl, rfl⟩; exact ⟨_, rfl⟩) ?_
             rintro v post ⟨rfl, rfl⟩
             show GH _ _ _ _ _ _ _ [_, _, _, _, _] _
             refine GH_all [7] (by kernel_rfl) (by decide) ?_
             refine (And.intro ?_ trivial)
             · skip
               refine GHop_new rfl rfl rfl rfl (N_buildAll (s := 1) (cs := [_, _, _]) rfl Tryd.underlying53 infTellSw_9 rfl rfl rfl rfl rfl rfl rfl rfl rfl) [5, 1] (fun _ => ⟨_, rfl⟩) (fun b108 => ?_)
               refine GH_all [8] (by kernel_rfl) (by decide) ?_
               refine (And.intro ?_ trivial)
               · skip
                 refine GHop_callC (L2 := [_, _, _, _]) rfl rfl rfl rfl rfl rfl Tryd.call36 rfl (ts_line (some b108) 0 3 _ _ _ (wtParts x14) (sees_lit3w b108 _ _ _) (by simp [wtParts]) (by omega) b3 py14 v14 (stT6 tk dr l7 l8 l9 l10 l13 ++ linesT wtParts (l14.take i14)) hp14 hv14 (by simp only [List.length_append]; omega)) [3, 3] [7] rfl rfl [5, 3] (by rintro v post ⟨rfl, w14, hw14, rfl⟩; exact ⟨_, rfl⟩) ?_
                 rintro v post ⟨rfl, w14, hw14, rfl⟩
                 show GH _ _ _ _ _ _ _ [_, _, _, _, _, _] _
                 refine GH_done (by kernel_rfl) ?_
                 refine G_inBlock ?_
                 have hn14 : (stT6 tk dr l7 l8 l9 l10 l13 ++ linesT wtParts (l14.take i14)) ++ (joinT 32 (wtParts x14) ++ [10]) = stT6 tk dr l7 l8 l9 l10 l13 ++ linesT wtParts (l14.take (i14 + 1)) := by rw [List.append_assoc, ← linesT_next hx14]; rfl
                 rw [hn14] at hw14 ⊢
                 refine G_region (l := [0, 1]) rfl ?_
                 first
                   | refine G_val rfl rfl rfl rfl ((V_add rfl rfl rfl).int (wrap_i64 (by omega))) ?_
                   | refine G_val rfl rfl rfl rfl (V_add rfl rfl rfl) ?_
                 refine G_val rfl rfl rfl rfl (V_move rfl rfl) ?_
                 refine G_done ?_
                 refine G_sub ?_ [4, 0, 0, 2] ?_ (ih14 (i14 + 1, .pointer (some ⟨b3, 0, none⟩), w14) ?_ ?_)
                 · (refine (And.intro ?_ (And.intro ?_ (And.intro ?_ (And.intro ?_ (And.intro ?_ (And.intro ?_ trivial)))))) <;> first | rfl | exact slot_int (by omega) | exact slot_int (by simp))
                 · exact ⟨_, rfl⟩
                 · exact ⟨by omega, .inr rfl, hw14⟩
                 · (first | omega | (dsimp only; omega))
       refine G_exit rfl ?_
       refine G_seq ?_
       rw [List.take_of_length_le (show l14.length ≤ i14 by omega)] at hv14 ⊢
       rw [show stT6 tk dr l7 l8 l9 l10 l13 ++ linesT wtParts l14 = stT7 tk dr l7 l8 l9 l10 l13 l14 from rfl] at hv14 ⊢
       have hl7 : (stT7 tk dr l7 l8 l9 l10 l13 l14).length ≤ (stT6 tk dr l7 l8 l9 l10 l13).length + 5000007 * l14.length := by
         have := linesT_len (f := wtParts) (l := l14) (fun y hy => ⟨wt_sum (h14 y hy), by simp [wtParts]⟩)
         unfold stT7; rw [List.length_append]; omega
       refine G_region (l := [0, 1]) rfl ?_
       refine G_call (L2 := [_, _]) rfl rfl rfl rfl rfl rfl Tryd.call23 (bld_string _ _ _ _ hv14 (by omega)) [1, 1] [] rfl rfl ?_
       rintro v post ⟨rfl, u9, hu9, rfl⟩
       show G _ _ _ [_, _, _, _] _
       refine G_val rfl rfl rfl rfl (V_assign rfl rfl) ?_
       refine G_done ?_
       refine G_ret (post := []) Tryd.func16 rfl (RVs_cons (RV_tmp rfl) RVs_nil) [] rfl ?_
       dsimp only [packed]
       exact ⟨rfl, rfl⟩

end
end Go.Proofs.YtjnaeoelnmhjfaaDoor

/- The reference's lines of a state. -/
set_option linter.unusedSimpArgs false
set_option linter.unusedVariables false
namespace Go.Proofs.YtjnaeoelnmhjfaaDoor
open Go Go.Shelf Go.RowKit

section
theorem infTellSr_3 : Tryd.prog.info? 3 = some Tryd.t3 := by kernel_rfl
theorem infTellSr_9 : Tryd.prog.info? 9 = some Tryd.t9 := by kernel_rfl
theorem infTellSr_88 : Tryd.prog.info? 88 = some Tryd.t88 := by kernel_rfl
theorem infTellSr_90 : Tryd.prog.info? 90 = some Tryd.t90 := by kernel_rfl


theorem opsT_step {w : List UInt8} {ops : List Opr} {i : Nat} {x : Opr} (h : ops[i]? = some x) :
    opsT w (ops.take i) ++ w ++ [32] ++ Lib.itoa x.a.1 ++ [32] ++ wordT x.b.2.2.1 ++ [32] ++ Lib.itoa x.b.2.1 ++ [32] ++ Lib.itoa x.b.2.2.2 ++ [32] ++ quoteT x.k ++ [10] = opsT w (ops.take (i + 1)) := by
  rw [← opsT_next h]
  simp [lineT, opParts, joinT, List.append_assoc]

set_option maxRecDepth 100000 in
set_option maxHeartbeats 2000000 in
theorem rts_ops (o1 : Option Nat) (p1 q1 : Nat) (c1 : Array Value) (T1 : TypeId) (f1 : Nat × Nat) (ops : List Opr) (h1 : Sees 18 o1 p1 q1 c1 (ops.flatMap opC) ops.length) (hok : ∀ x ∈ ops, OprOk x) (wd : List UInt8) (hwd : wd.length ≤ 10) (hn : ops.length ≤ 300) :
    Ct Tryd.prog 43 [.string (bs wd), sv o1 p1 ops.length q1] [(o1, .cells c1 T1 f1)] [] fun v post => v = .string (bs (opsT wd ops)) ∧ post = [] := by
 have hl1 := h1.le
 have hl2 := h1.max
 refine ct_of Tryd.func43 rfl rfl (fun w0 => ?_)
 show G _ _ [(0, _), (1, _)] _ _
 refine G_seq ?_
 refine G_region (l := [0]) rfl ?_
 refine G_val rfl rfl rfl rfl (V_assign rfl rfl) ?_
 refine G_done ?_
 refine G_seq ?_
 refine G_region (l := [0]) rfl ?_
 refine G_val rfl rfl rfl rfl (V_assign rfl rfl) ?_
 refine G_done ?_
 refine G_seq ?_
 refine G_seq ?_
 refine G_region (l := [0]) rfl ?_
 refine G_val rfl rfl rfl rfl (V_assign rfl rfl) ?_
 refine G_done ?_
 refine G_block ?_
 refine G_sub ?he3 [] ?hl3 (G_loop (X := Nat) (fun i => i ≤ ops.length) (fun i => ops.length - i) (fun i => [(0, .string (bs wd)), (1, sv o1 p1 ops.length q1), (5, .string (bs (opsT wd (ops.take i)))), (6, .int .i64 (i : Int))]) (fun i => []) ?round3 0 ?h03)
 case he3 => exact (And.intro rfl (And.intro rfl (And.intro rfl (And.intro rfl trivial))))
 case hl3 => exact ⟨_, rfl⟩
 case h03 => exact Nat.zero_le _
 case round3 =>
  intro i hJ ih
  try dsimp only at hJ ih
  refine G_seq ?_
  refine G_seq ?_
  refine G_region (l := [0, 1, 2, 3]) rfl ?_
  refine G_val rfl rfl rfl rfl (V_move rfl rfl) ?_
  refine G_val rfl rfl rfl rfl (V_move rfl rfl) ?_
  refine G_val rfl rfl rfl rfl (V_len rfl rfl Tryd.underlying33 rfl) ?_
  refine G_val rfl rfl rfl rfl (V_lss rfl rfl rfl) ?_
  refine G_done ?_
  refine G_ifD rfl (fun hc1 => ?_) (fun hc1 => ?_)
  · skip
    refine G_skip ?_
    refine G_seq ?_
    refine G_block ?_
    refine G_seq ?_
    obtain ⟨x, hx⟩ := getI (show i < ops.length by omega)
    obtain ⟨bo1, rfl⟩ := h1.isSome (by omega)
    have hxo := hok x (List.mem_of_getElem? hx)
    have hx0 := hxo.a1
    have hx1 := hxo.a2
    have hx2 := hxo.b1
    have hx3 := hxo.b2
    have hx4 := hxo.c1
    have hx5 := hxo.c2
    have hx6 := hxo.d1
    have hx7 := hxo.d2
    have hx8 := hxo.k1
    have hz := opsT_len hwd (fun y hy => hok y (List.mem_of_mem_take hy) : ∀ y ∈ ops.take i, OprOk y)
    have htl : (ops.take i).length ≤ i := by simp; omega
    have hy1 := itoa_len hx0 hx1
    have hy2 := itoa_len hx2 hx3
    have hy3 := itoa_len hx6 hx7
    have hy4 := wordT_len x.b.2.2.1
    have hy5 := quoteT_len x.k
    refine G_region (l := [0, 1, 2, 3, 4, 5]) rfl ?_
    refine G_val rfl rfl rfl rfl (V_move rfl rfl) ?_
    refine G_val rfl rfl rfl rfl (V_move rfl rfl) ?_
    first
      | refine G_val rfl rfl rfl rfl (V_indexAddrN (s := 18) rfl Tryd.underlying33 infTellSr_90 rfl rfl rfl rfl (by omega)) ?_
      | refine G_val rfl rfl rfl rfl (V_indexAddr (s := 18) rfl Tryd.underlying33 infTellSr_90 rfl rfl rfl (by omega) (by first | omega | (simp [rqCells, Sl.v, opC, wkC, ivC, ltC, wtC]; done) | (simp [rqCells, Sl.v, opC, wkC, ivC, ltC, wtC]; omega) | (simp [rqCells, Sl.v, opC, wkC, ivC, ltC, wtC] at *; omega))) ?_
    refine G_val rfl rfl rfl rfl (V_loadA (s := 18) (vs := (opC x).toArray) rfl rfl (mem_at 0 rfl) Tryd.underlying90 rfl infTellSr_90 rfl (h1.elem op_len hx) (by first | rfl | (simp [bcells_length, rqCells, Sl.v, opC, wkC, ivC, ltC, wtC]; done) | (simp [bcells_length, rqCells, Sl.v, opC, wkC, ivC, ltC, wtC]; omega) | (simp [bcells_length, *, rqCells, Sl.v, opC, wkC, ivC, ltC, wtC]; done))) ?_
    refine G_new rfl rfl rfl rfl (N_allocA rfl infTellSr_90 rfl) (fun b7 => ?_)
    refine G_put (l1 := []) (L' := [_]) rfl rfl rfl rfl (P_storeA (s := 18) rfl rfl rfl (mem_at 0 rfl) (by first | rfl | (simp [bcells_length, rqCells, Sl.v, opC, wkC, ivC, ltC, wtC]; done) | (simp [bcells_length, rqCells, Sl.v, opC, wkC, ivC, ltC, wtC]; omega) | (simp [bcells_length, *, rqCells, Sl.v, opC, wkC, ivC, ltC, wtC]; done)) infTellSr_90 rfl (by first | rfl | (simp [bcells_length, rqCells, Sl.v, opC, wkC, ivC, ltC, wtC]; done) | (simp [bcells_length, rqCells, Sl.v, opC, wkC, ivC, ltC, wtC]; omega) | (simp [bcells_length, *, rqCells, Sl.v, opC, wkC, ivC, ltC, wtC]; done)) (by first | rfl | exact bcells_all _ | (simp [Value.oneCell', rqCells, Sl.v, opC, wkC, ivC, ltC, wtC]; done) | (simp [Value.oneCell', *, rqCells, Sl.v, opC, wkC, ivC, ltC, wtC]; done))) rfl ?_
    refine G_done ?_
    refine GH_start (Lq := [_]) (isq := [0]) (m := 31) mixedK rfl rfl ?_
    refine GH_take 0 rfl rfl rfl rfl (by kernel_rfl) (by kernel_rfl) (by kernel_rfl) (fun _ _ => (V_move rfl rfl)) ?_
    refine GH_take 1 rfl rfl rfl rfl (by kernel_rfl) (by kernel_rfl) (by kernel_rfl) (fun _ _ => (V_move rfl rfl)) ?_
    refine GH_take 2 rfl rfl rfl rfl (by kernel_rfl) (by kernel_rfl) (by kernel_rfl) (fun _ _ => (V_sadd rfl rfl rfl (by first | omega | (simp [rqCells, Sl.v, opC, wkC, ivC, ltC, wtC]; done) | (simp [rqCells, Sl.v, opC, wkC, ivC, ltC, wtC]; omega) | (simp [rqCells, Sl.v, opC, wkC, ivC, ltC, wtC] at *; omega)))) ?_
    refine GH_take 3 rfl rfl rfl rfl (by kernel_rfl) (by kernel_rfl) (by kernel_rfl) (fun _ _ => (V_sadd rfl rfl rfl (by first | omega | (simp [rqCells, Sl.v, opC, wkC, ivC, ltC, wtC]; done) | (simp [rqCells, Sl.v, opC, wkC, ivC, ltC, wtC]; omega) | (simp [rqCells, Sl.v, opC, wkC, ivC, ltC, wtC] at *; omega)))) ?_
    refine GH_take 4 rfl rfl rfl rfl (by kernel_rfl) (by kernel_rfl) (by kernel_rfl) (fun _ _ => (V_fieldAddr (fo := 0) rfl Tryd.underlying90 rfl infTellSr_3 rfl rfl rfl)) ?_
    refine GH_take 5 rfl rfl rfl rfl (by kernel_rfl) (by kernel_rfl) (by kernel_rfl) (fun _ _ => (V_load1 rfl rfl (mem_at 1 rfl) rfl Tryd.underlying3 rfl)) ?_
    refine GH_take 9 rfl rfl rfl rfl (by kernel_rfl) (by kernel_rfl) (by kernel_rfl) (fun _ _ => (V_fieldAddr (fo := 8) rfl Tryd.underlying90 rfl infTellSr_3 rfl rfl rfl)) ?_
    refine GH_take 10 rfl rfl rfl rfl (by kernel_rfl) (by kernel_rfl) (by kernel_rfl) (fun _ _ => (V_load1 rfl rfl (mem_at 1 rfl) rfl Tryd.underlying3 rfl)) ?_
    refine GH_take 14 rfl rfl rfl rfl (by kernel_rfl) (by kernel_rfl) (by kernel_rfl) (fun _ _ => (V_fieldAddr (fo := 7) rfl Tryd.underlying90 rfl infTellSr_3 rfl rfl rfl)) ?_
    refine GH_take 15 rfl rfl rfl rfl (by kernel_rfl) (by kernel_rfl) (by kernel_rfl) (fun _ _ => (V_load1 rfl rfl (mem_at 1 rfl) rfl Tryd.underlying3 rfl)) ?_
    refine GH_take 19 rfl rfl rfl rfl (by kernel_rfl) (by kernel_rfl) (by kernel_rfl) (fun _ _ => (V_fieldAddr (fo := 9) rfl Tryd.underlying90 rfl infTellSr_3 rfl rfl rfl)) ?_
    refine GH_take 20 rfl rfl rfl rfl (by kernel_rfl) (by kernel_rfl) (by kernel_rfl) (fun _ _ => (V_load1 rfl rfl (mem_at 1 rfl) rfl Tryd.underlying3 rfl)) ?_
    refine GH_take 24 rfl rfl rfl rfl (by kernel_rfl) (by kernel_rfl) (by kernel_rfl) (fun _ _ => (V_fieldAddr (fo := 3) rfl Tryd.underlying90 rfl infTellSr_88 rfl rfl rfl)) ?_
    refine GH_take 25 rfl rfl rfl rfl (by kernel_rfl) (by kernel_rfl) (by kernel_rfl) (fun _ _ => (V_fieldAddr (fo := 3) rfl Tryd.underlying88 rfl infTellSr_9 rfl rfl rfl)) ?_
    refine GH_take 26 rfl rfl rfl rfl (by kernel_rfl) (by kernel_rfl) (by kernel_rfl) (fun _ _ => (V_load1 rfl rfl (mem_at 1 rfl) rfl Tryd.underlying9 rfl)) ?_
    refine GH_all [6] (by kernel_rfl) (by decide) ?_
    refine (And.intro ?_ trivial)
    · skip
      refine GHop_call (L2 := [_]) rfl rfl rfl rfl rfl rfl Tryd.call44 (rt_int x.a.1 hx0 hx1) [] [] rfl rfl [0] (by rintro v post ⟨rfl, rfl⟩; exact ⟨_, rfl⟩) ?_
      rintro v post ⟨rfl, rfl⟩
      show GH _ _ _ _ _ _ _ [_] _
      refine GH_take 7 rfl rfl rfl rfl (by kernel_rfl) (by kernel_rfl) (by kernel_rfl) (fun _ _ => (V_sadd rfl rfl rfl (by first | omega | (simp [rqCells, Sl.v, opC, wkC, ivC, ltC, wtC]; done) | (simp [rqCells, Sl.v, opC, wkC, ivC, ltC, wtC]; omega) | (simp [rqCells, Sl.v, opC, wkC, ivC, ltC, wtC] at *; omega)))) ?_
      refine GH_take 8 rfl rfl rfl rfl (by kernel_rfl) (by kernel_rfl) (by kernel_rfl) (fun _ _ => (V_sadd rfl rfl rfl (by first | omega | (simp [rqCells, Sl.v, opC, wkC, ivC, ltC, wtC]; done) | (simp [rqCells, Sl.v, opC, wkC, ivC, ltC, wtC]; omega) | (simp [rqCells, Sl.v, opC, wkC, ivC, ltC, wtC] at *; omega)))) ?_
      refine GH_all [11] (by kernel_rfl) (by decide) ?_
      refine (And.intro ?_ trivial)
      · skip
        refine GHop_call (L2 := [_]) rfl rfl rfl rfl rfl rfl Tryd.call8 (rtl_word x.b.2.2.1 hx4 hx5) [] [] rfl rfl [0] (by rintro v post ⟨rfl, rfl⟩; exact ⟨_, rfl⟩) ?_
        rintro v post ⟨rfl, rfl⟩
        show GH _ _ _ _ _ _ _ [_] _
        refine GH_take 12 rfl rfl rfl rfl (by kernel_rfl) (by kernel_rfl) (by kernel_rfl) (fun _ _ => (V_sadd rfl rfl rfl (by first | omega | (simp [rqCells, Sl.v, opC, wkC, ivC, ltC, wtC]; done) | (simp [rqCells, Sl.v, opC, wkC, ivC, ltC, wtC]; omega) | (simp [rqCells, Sl.v, opC, wkC, ivC, ltC, wtC] at *; omega)))) ?_
        refine GH_take 13 rfl rfl rfl rfl (by kernel_rfl) (by kernel_rfl) (by kernel_rfl) (fun _ _ => (V_sadd rfl rfl rfl (by first | omega | (simp [rqCells, Sl.v, opC, wkC, ivC, ltC, wtC]; done) | (simp [rqCells, Sl.v, opC, wkC, ivC, ltC, wtC]; omega) | (simp [rqCells, Sl.v, opC, wkC, ivC, ltC, wtC] at *; omega)))) ?_
        refine GH_all [16] (by kernel_rfl) (by decide) ?_
        refine (And.intro ?_ trivial)
        · skip
          refine GHop_call (L2 := [_]) rfl rfl rfl rfl rfl rfl Tryd.call44 (rt_int x.b.2.1 hx2 hx3) [] [] rfl rfl [0] (by rintro v post ⟨rfl, rfl⟩; exact ⟨_, rfl⟩) ?_
          rintro v post ⟨rfl, rfl⟩
          show GH _ _ _ _ _ _ _ [_] _
          refine GH_take 17 rfl rfl rfl rfl (by kernel_rfl) (by kernel_rfl) (by kernel_rfl) (fun _ _ => (V_sadd rfl rfl rfl (by first | omega | (simp [rqCells, Sl.v, opC, wkC, ivC, ltC, wtC]; done) | (simp [rqCells, Sl.v, opC, wkC, ivC, ltC, wtC]; omega) | (simp [rqCells, Sl.v, opC, wkC, ivC, ltC, wtC] at *; omega)))) ?_
          refine GH_take 18 rfl rfl rfl rfl (by kernel_rfl) (by kernel_rfl) (by kernel_rfl) (fun _ _ => (V_sadd rfl rfl rfl (by first | omega | (simp [rqCells, Sl.v, opC, wkC, ivC, ltC, wtC]; done) | (simp [rqCells, Sl.v, opC, wkC, ivC, ltC, wtC]; omega) | (simp [rqCells, Sl.v, opC, wkC, ivC, ltC, wtC] at *; omega)))) ?_
          refine GH_all [21] (by kernel_rfl) (by decide) ?_
          refine (And.intro ?_ trivial)
          · skip
            refine GHop_call (L2 := [_]) rfl rfl rfl rfl rfl rfl Tryd.call44 (rt_int x.b.2.2.2 hx6 hx7) [] [] rfl rfl [0] (by rintro v post ⟨rfl, rfl⟩; exact ⟨_, rfl⟩) ?_
            rintro v post ⟨rfl, rfl⟩
            show GH _ _ _ _ _ _ _ [_] _
            refine GH_take 22 rfl rfl rfl rfl (by kernel_rfl) (by kernel_rfl) (by kernel_rfl) (fun _ _ => (V_sadd rfl rfl rfl (by first | omega | (simp [rqCells, Sl.v, opC, wkC, ivC, ltC, wtC]; done) | (simp [rqCells, Sl.v, opC, wkC, ivC, ltC, wtC]; omega) | (simp [rqCells, Sl.v, opC, wkC, ivC, ltC, wtC] at *; omega)))) ?_
            refine GH_take 23 rfl rfl rfl rfl (by kernel_rfl) (by kernel_rfl) (by kernel_rfl) (fun _ _ => (V_sadd rfl rfl rfl (by first | omega | (simp [rqCells, Sl.v, opC, wkC, ivC, ltC, wtC]; done) | (simp [rqCells, Sl.v, opC, wkC, ivC, ltC, wtC]; omega) | (simp [rqCells, Sl.v, opC, wkC, ivC, ltC, wtC] at *; omega)))) ?_
            refine GH_all [27] (by kernel_rfl) (by decide) ?_
            refine (And.intro ?_ trivial)
            · skip
              refine GHop_call (L2 := [_]) rfl rfl rfl rfl rfl rfl Tryd.call10 (rtl_quote x.k (by omega)) [] [] rfl rfl [0] (by rintro v post ⟨rfl, rfl⟩; exact ⟨_, rfl⟩) ?_
              rintro v post ⟨rfl, rfl⟩
              show GH _ _ _ _ _ _ _ [_] _
              refine GH_take 28 rfl rfl rfl rfl (by kernel_rfl) (by kernel_rfl) (by kernel_rfl) (fun _ _ => (V_sadd rfl rfl rfl (by first | omega | (simp [rqCells, Sl.v, opC, wkC, ivC, ltC, wtC]; done) | (simp [rqCells, Sl.v, opC, wkC, ivC, ltC, wtC]; omega) | (simp [rqCells, Sl.v, opC, wkC, ivC, ltC, wtC] at *; omega)))) ?_
              refine GH_take 29 rfl rfl rfl rfl (by kernel_rfl) (by kernel_rfl) (by kernel_rfl) (fun _ _ => (V_sadd rfl rfl rfl (by first | omega | (simp [rqCells, Sl.v, opC, wkC, ivC, ltC, wtC]; done) | (simp [rqCells, Sl.v, opC, wkC, ivC, ltC, wtC]; omega) | (simp [rqCells, Sl.v, opC, wkC, ivC, ltC, wtC] at *; omega)))) ?_
              refine GH_take 30 rfl rfl rfl rfl (by kernel_rfl) (by kernel_rfl) (by kernel_rfl) (fun _ _ => (V_assign rfl rfl)) ?_
              refine GH_done (by kernel_rfl) ?_
              refine G_inBlock ?_
              rw [opsT_step hx]
              refine G_region (l := [0, 1, 2]) rfl ?_
              refine G_val rfl rfl rfl rfl (V_move rfl rfl) ?_
              first
                | refine G_val rfl rfl rfl rfl ((V_add rfl rfl rfl).int (wrap_i64 (by omega))) ?_
                | refine G_val rfl rfl rfl rfl (V_add rfl rfl rfl) ?_
              refine G_val rfl rfl rfl rfl (V_assign rfl rfl) ?_
              refine G_done ?_
              refine G_sub ?_ [] ?_ (ih (i + 1) ?_ ?_)
              · (refine (And.intro ?_ (And.intro ?_ (And.intro ?_ (And.intro ?_ trivial)))) <;> first | rfl | exact slot_int (by omega) | exact slot_int (by simp))
              · exact ⟨_, rfl⟩
              · omega
              · (first | omega | (dsimp only; omega))
  refine G_exit rfl ?_
  refine G_seq ?_
  refine G_region (l := [0, 1]) rfl ?_
  refine G_val rfl rfl rfl rfl (V_move rfl rfl) ?_
  refine G_val rfl rfl rfl rfl (V_assign rfl rfl) ?_
  refine G_done ?_
  refine G_ret (post := []) Tryd.func43 rfl (RVs_cons (RV_tmp rfl) RVs_nil) [] rfl ?_
  dsimp only [packed]
  rw [List.take_of_length_le (by omega)]; exact ⟨rfl, rfl⟩

end
end Go.Proofs.YtjnaeoelnmhjfaaDoor
