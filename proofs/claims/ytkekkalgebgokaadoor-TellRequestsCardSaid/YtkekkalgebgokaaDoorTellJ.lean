/- The walks of layer 45: strings.Join, and replies as lines. -/
import Derived.Test.YtkekkalgebgokaaDoorTellR
import Derived.Test.YtkekkalgebgokaaDoorRep
import Derived.Test.YtkekkalgebgokaaDoorG13
import Derived.Test.YtkekkalgebgokaaDoorG17
set_option linter.unusedSimpArgs false
set_option linter.unusedVariables false
namespace Go.Proofs.YtkekkalgebgokaaDoor
open Go Go.RowKit

section
theorem infTellJ_3 : Tryd.prog.info? 3 = some Tryd.t3 := by kernel_rfl
theorem infTellJ_9 : Tryd.prog.info? 9 = some Tryd.t9 := by kernel_rfl
theorem infTellJ_38 : Tryd.prog.info? 38 = some Tryd.t38 := by kernel_rfl
theorem infTellJ_50 : Tryd.prog.info? 50 = some Tryd.t50 := by kernel_rfl
theorem infTellJ_53 : Tryd.prog.info? 53 = some Tryd.t53 := by kernel_rfl
theorem infTellJ_57 : Tryd.prog.info? 57 = some Tryd.t57 := by kernel_rfl
theorem infTellJ_93 : Tryd.prog.info? 93 = some Tryd.t93 := by kernel_rfl
theorem infTellJ_99 : Tryd.prog.info? 99 = some Tryd.t99 := by kernel_rfl


def joinT (s : UInt8) : List (List UInt8) → List UInt8
  | [] => []
  | x :: xs => x ++ xs.flatMap (fun y => [s] ++ y)
def sumL (ls : List (List UInt8)) : Nat := (ls.map List.length).sum
theorem sumL_next {ls : List (List UInt8)} {i : Nat} {x : List UInt8} (h : ls[i]? = some x) : sumL (ls.take (i + 1)) = sumL (ls.take i) + x.length := by
  obtain ⟨hi, rfl⟩ := List.getElem?_eq_some_iff.1 h
  unfold sumL
  rw [List.take_succ_eq_append_getElem hi, List.map_append, List.sum_append]; simp
theorem sumL_take (ls : List (List UInt8)) (i : Nat) : sumL (ls.take i) ≤ sumL ls := by
  have h : sumL ls = sumL (ls.take i) + sumL (ls.drop i) := by
    unfold sumL
    rw [← List.sum_append, ← List.map_append, List.take_append_drop]
  omega
theorem sumL_mem : ∀ {ls : List (List UInt8)} {x : List UInt8}, x ∈ ls → x.length ≤ sumL ls
  | y :: l, x, h => by
    unfold sumL
    simp only [List.map_cons, List.sum_cons]
    rcases List.mem_cons.1 h with rfl | h
    · omega
    · have := sumL_mem h; unfold sumL at this; omega
theorem flatJ_len (s : UInt8) : ∀ l : List (List UInt8), (l.flatMap (fun y => [s] ++ y)).length = (l.map List.length).sum + l.length
  | [] => rfl
  | y :: l => by have := flatJ_len s l; simp only [List.flatMap_cons, List.length_append, List.length_cons, List.length_nil, List.map_cons, List.sum_cons] at this ⊢; omega
def joinI (s : UInt8) (ls : List (List UInt8)) (i : Nat) : List UInt8 := (ls.getD 0 []) ++ ((ls.drop 1).take i).flatMap (fun y => [s] ++ y)
theorem joinI_next {s : UInt8} {ls : List (List UInt8)} {i : Nat} {x : List UInt8} (h : ls[i + 1]? = some x) : joinI s ls i ++ [s] ++ x = joinI s ls (i + 1) := by
  obtain ⟨hi, rfl⟩ := List.getElem?_eq_some_iff.1 h
  unfold joinI
  have hd : i < (ls.drop 1).length := by simp; omega
  rw [List.take_succ_eq_append_getElem hd, List.flatMap_append]
  simp
theorem joinI_end {s : UInt8} {ls : List (List UInt8)} {i : Nat} (h : ls.length ≤ i + 1) (h0 : 0 < ls.length) : joinI s ls i = joinT s ls := by
  match ls, h0 with
  | x :: xs, _ =>
    unfold joinI joinT
    rw [List.take_of_length_le (by simp; simp at h; omega)]; simp
theorem joinI_len {s : UInt8} {ls : List (List UInt8)} {i : Nat} (h : i + 1 ≤ ls.length) : (joinI s ls i).length ≤ sumL ls + ls.length := by
  match ls, h with
  | x :: xs, h =>
    unfold joinI sumL
    have k2 := sumL_take xs i
    unfold sumL at k2
    simp only [List.getD_cons_zero, List.length_append, List.drop_succ_cons, List.drop_zero, flatJ_len, List.map_cons, List.sum_cons, List.length_cons, List.length_take]
    omega

set_option maxRecDepth 100000 in
set_option maxHeartbeats 2000000 in
theorem st_join (o1 : Option Nat) (p1 q1 : Nat) (c1 : Array Value) (T1 : TypeId) (f1 : Nat × Nat) (ls : List (List UInt8)) (h1 : Sees 1 o1 p1 q1 c1 (ls.map strC) ls.length) (s : UInt8) (hn : ls.length ≤ 100) (hs : sumL ls ≤ 8000) :
    Ct Tryd.prog 37 [sv o1 p1 ls.length q1, .string (bs [s])] [(o1, .cells c1 T1 f1)] [] fun v post => v = .string (bs (joinT s ls)) ∧ post = [] := by
 have hl1 := h1.le
 have hl2 := h1.max
 have hs1 : [s].length = 1 := rfl
 refine ct_of Tryd.func37 rfl rfl (fun w0 => ?_)
 show G _ _ [(0, _), (1, _)] _ _
 refine G_seq ?_
 refine G_region (l := [0]) rfl ?_
 refine G_val rfl rfl rfl rfl (V_assign rfl rfl) ?_
 refine G_done ?_
 refine G_seq ?_
 refine G_seq ?_
 refine G_region (l := [0, 1]) rfl ?_
 refine G_val rfl rfl rfl rfl (V_move rfl rfl) ?_
 refine G_val rfl rfl rfl rfl (V_len rfl rfl Tryd.underlying53 rfl) ?_
 refine G_done ?_
 refine G_block ?_
 refine G_seq ?_
 refine G_region (l := [0, 1]) rfl ?_
 refine G_val rfl rfl rfl rfl (V_eql rfl rfl rfl) ?_
 refine G_val rfl rfl rfl rfl (V_assign rfl rfl) ?_
 refine G_done ?_
 refine G_ifD rfl (fun hc1 => ?_) (fun hc1 => ?_)
 · skip
   refine G_seq ?_
   refine G_region (l := [0]) rfl ?_
   refine G_val rfl rfl rfl rfl (V_assign rfl rfl) ?_
   refine G_done ?_
   refine G_ret (post := []) Tryd.func37 rfl (RVs_cons (RV_tmp rfl) RVs_nil) [] rfl ?_
   dsimp only [packed]
   first
     | exact ⟨rfl, rfl⟩
     | (obtain rfl : ls = [] := List.length_eq_zero_iff.1 (by omega)
        exact ⟨rfl, rfl⟩)
     | (match ls, (by omega : ls.length = 1), hx with
        | [y], _, hx => obtain rfl : y = x := by simpa using hx
                        exact ⟨str_eq (by simp [joinT]), rfl⟩)
 refine G_seq ?_
 refine G_region (l := [0, 1]) rfl ?_
 refine G_val rfl rfl rfl rfl (V_eql rfl rfl rfl) ?_
 refine G_val rfl rfl rfl rfl (V_assign rfl rfl) ?_
 refine G_done ?_
 refine G_ifD rfl (fun hc2 => ?_) (fun hc2 => ?_)
 · skip
   refine G_seq ?_
   obtain ⟨b1, rfl⟩ := h1.isSome (by omega)
   obtain ⟨x, hx⟩ := getI (show 0 < ls.length by omega)
   refine G_region (l := [0, 1, 2, 3]) rfl ?_
   refine G_val rfl rfl rfl rfl (V_move rfl rfl) ?_
   first
     | refine G_val rfl rfl rfl rfl (V_indexAddrN (s := 1) rfl Tryd.underlying53 infTellJ_9 rfl rfl rfl rfl (by omega)) ?_
     | refine G_val rfl rfl rfl rfl (V_indexAddr (s := 1) rfl Tryd.underlying53 infTellJ_9 rfl rfl rfl (by omega) (by first | omega | (simp [rqCells]; done) | (simp [rqCells]; omega) | (simp [rqCells] at *; omega))) ?_
   refine G_val rfl rfl rfl rfl (V_load1 rfl rfl (mem_at 0 rfl) (nth_of (show c1[p1 + 0 * 1]? = some (strC x) from h1.at (by simp [hx]))) Tryd.underlying9 rfl) ?_
   refine G_val rfl rfl rfl rfl (V_assign rfl rfl) ?_
   refine G_done ?_
   refine G_ret (post := []) Tryd.func37 rfl (RVs_cons (RV_tmp rfl) RVs_nil) [] rfl ?_
   dsimp only [packed]
   first
     | exact ⟨rfl, rfl⟩
     | (obtain rfl : ls = [] := List.length_eq_zero_iff.1 (by omega)
        exact ⟨rfl, rfl⟩)
     | (match ls, (by omega : ls.length = 1), hx with
        | [y], _, hx => obtain rfl : y = x := by simpa using hx
                        exact ⟨str_eq (by simp [joinT]), rfl⟩)
 refine G_skip ?_
 refine G_inBlock ?_
 refine G_seq ?_
 refine G_region (l := [0]) rfl ?_
 refine G_val rfl rfl rfl rfl (V_assign rfl rfl) ?_
 refine G_done ?_
 refine G_seq ?_
 refine G_seq ?_
 refine G_region (l := [0, 1, 2]) rfl ?_
 refine G_val rfl rfl rfl rfl (V_move rfl rfl) ?_
 refine G_val rfl rfl rfl rfl (V_slen rfl rfl Tryd.underlying9 rfl) ?_
 refine G_val rfl rfl rfl rfl (V_gtr rfl rfl rfl) ?_
 refine G_done ?_
 refine G_ifD rfl (fun hc3 => ?_) (fun hc3 => ?_)
 rotate_left
 · (first | contradiction | (exact absurd rfl hc3) | (exfalso; omega) | (simp at hc3; done) | (exact absurd hc3 (by decide)) | (exact absurd (by decide) hc3))
 refine G_seq ?_
 refine G_seq ?_
 have hq1 : 92233720368547758 ≤ (9223372036854775807 : Int) / ((ls.length : Int) - 1) := Int.le_ediv_of_mul_le (by omega) (by omega)
 have hq2 : (9223372036854775807 : Int) / ((ls.length : Int) - 1) ≤ 9223372036854775807 := Int.ediv_le_self _ (by omega)
 refine G_region (l := [0, 1, 2, 3, 4, 5, 6]) rfl ?_
 refine G_val rfl rfl rfl rfl (V_move rfl rfl) ?_
 refine G_val rfl rfl rfl rfl (V_slen rfl rfl Tryd.underlying9 rfl) ?_
 refine G_val rfl rfl rfl rfl (V_move rfl rfl) ?_
 refine G_val rfl rfl rfl rfl (V_len rfl rfl Tryd.underlying53 rfl) ?_
 first
   | refine G_val rfl rfl rfl rfl ((V_sub rfl rfl rfl).int (wrap_i64 (by omega))) ?_
   | refine G_val rfl rfl rfl rfl (V_sub rfl rfl rfl) ?_
 refine G_val rfl rfl rfl rfl (V_quo rfl rfl rfl (by omega) (by omega) (wrap_i64 (by omega))) ?_
 refine G_val rfl rfl rfl rfl (V_geq rfl rfl rfl) ?_
 refine G_done ?_
 refine G_ifD rfl (fun hc4 => ?_) (fun hc4 => ?_)
 · (first | contradiction | (exact absurd rfl hc4) | (exfalso; omega) | (simp at hc4; done) | (exact absurd hc4 (by decide)) | (exact absurd (by decide) hc4))
 refine G_skip ?_
 refine G_region (l := [0, 1, 2, 3, 4, 5, 6, 7, 8]) rfl ?_
 refine G_val rfl rfl rfl rfl (V_move rfl rfl) ?_
 refine G_val rfl rfl rfl rfl (V_move rfl rfl) ?_
 refine G_val rfl rfl rfl rfl (V_slen rfl rfl Tryd.underlying9 rfl) ?_
 refine G_val rfl rfl rfl rfl (V_move rfl rfl) ?_
 refine G_val rfl rfl rfl rfl (V_len rfl rfl Tryd.underlying53 rfl) ?_
 first
   | refine G_val rfl rfl rfl rfl ((V_sub rfl rfl rfl).int (wrap_i64 (by omega))) ?_
   | refine G_val rfl rfl rfl rfl (V_sub rfl rfl rfl) ?_
 refine G_val rfl rfl rfl rfl (Val.int (e' := ((ls.length - 1 : Nat) : Int)) (V_mul rfl rfl rfl) (by rw [hs1, wrap_i64 (by omega)]; omega)) ?_
 first
   | refine G_val rfl rfl rfl rfl ((V_add rfl rfl rfl).int (wrap_i64 (by omega))) ?_
   | refine G_val rfl rfl rfl rfl (V_add rfl rfl rfl) ?_
 refine G_val rfl rfl rfl rfl (V_assign rfl rfl) ?_
 refine G_done ?_
 refine G_seq ?_
 refine G_seq ?_
 refine G_region (l := [0, 1, 2]) rfl ?_
 refine G_val rfl rfl rfl rfl (V_move rfl rfl) ?_
 refine G_val rfl rfl rfl rfl (V_len rfl rfl Tryd.underlying53 rfl) ?_
 refine G_val rfl rfl rfl rfl (V_move rfl rfl) ?_
 refine G_done ?_
 refine G_block ?_
 refine G_sub ?he12 [] ?hl12 (G_loop (X := Nat) (fun i => i ≤ ls.length) (fun i => ls.length - i) (fun i => [(0, sv o1 p1 ls.length q1), (1, .string (bs [s])), (5, .int .i64 ((ls.length - 1 + sumL (ls.take i) : Nat) : Int)), (39, sv o1 p1 ls.length q1), (40, .int .i64 (ls.length : Int)), (41, .int .i64 (i : Int))]) (fun i => []) ?round12 0 ?h012)
 case he12 => (refine (And.intro rfl (And.intro rfl (And.intro (slot_int (by simp [sumL])) (And.intro rfl (And.intro rfl (And.intro rfl trivial)))))))
 case hl12 => exact ⟨_, rfl⟩
 case h012 => exact Nat.zero_le _
 case round12 =>
  intro i hJ ih
  try dsimp only at hJ ih
  refine G_seq ?_
  refine G_region (l := [0]) rfl ?_
  refine G_val rfl rfl rfl rfl (V_lss rfl rfl rfl) ?_
  refine G_done ?_
  refine G_seq ?_
  refine G_ifD rfl (fun hc5 => ?_) (fun hc5 => ?_)
  · skip
    refine G_skip ?_
    refine G_seq ?_
    refine G_block ?_
    refine G_seq ?_
    obtain ⟨x, hx⟩ := getI (show i < ls.length by omega)
    have hxl := sumL_mem (List.mem_of_getElem? hx)
    have hst := sumL_take ls i
    have hsn := sumL_next hx
    obtain ⟨b1, rfl⟩ := h1.isSome (by omega)
    refine G_region (l := [0, 1, 2]) rfl ?_
    first
      | refine G_val rfl rfl rfl rfl (V_indexAddrN (s := 1) rfl Tryd.underlying53 infTellJ_9 rfl rfl rfl rfl (by omega)) ?_
      | refine G_val rfl rfl rfl rfl (V_indexAddr (s := 1) rfl Tryd.underlying53 infTellJ_9 rfl rfl rfl (by omega) (by first | omega | (simp [rqCells]; done) | (simp [rqCells]; omega) | (simp [rqCells] at *; omega))) ?_
    refine G_val rfl rfl rfl rfl (V_load1 rfl rfl (mem_at 0 rfl) (nth_of (show c1[p1 + i * 1]? = some (strC x) from h1.at (by simp [hx]))) Tryd.underlying9 rfl) ?_
    refine G_val rfl rfl rfl rfl (V_assign rfl rfl) ?_
    refine G_done ?_
    refine G_seq ?_
    refine G_seq ?_
    refine G_region (l := [0, 1, 2, 3, 4]) rfl ?_
    refine G_val rfl rfl rfl rfl (V_move rfl rfl) ?_
    refine G_val rfl rfl rfl rfl (V_slen rfl rfl Tryd.underlying9 rfl) ?_
    refine G_val rfl rfl rfl rfl (V_move rfl rfl) ?_
    first
      | refine G_val rfl rfl rfl rfl ((V_sub rfl rfl rfl).int (wrap_i64 (by omega))) ?_
      | refine G_val rfl rfl rfl rfl (V_sub rfl rfl rfl) ?_
    refine G_val rfl rfl rfl rfl (V_gtr rfl rfl rfl) ?_
    refine G_done ?_
    refine G_ifD rfl (fun hc6 => ?_) (fun hc6 => ?_)
    · (first | contradiction | (exact absurd rfl hc6) | (exfalso; omega) | (simp at hc6; done) | (exact absurd hc6 (by decide)) | (exact absurd (by decide) hc6))
    refine G_skip ?_
    refine G_region (l := [0, 1, 2, 3, 4]) rfl ?_
    refine G_val rfl rfl rfl rfl (V_move rfl rfl) ?_
    refine G_val rfl rfl rfl rfl (V_move rfl rfl) ?_
    refine G_val rfl rfl rfl rfl (V_slen rfl rfl Tryd.underlying9 rfl) ?_
    first
      | refine G_val rfl rfl rfl rfl ((V_add rfl rfl rfl).int (wrap_i64 (by omega))) ?_
      | refine G_val rfl rfl rfl rfl (V_add rfl rfl rfl) ?_
    refine G_val rfl rfl rfl rfl (V_assign rfl rfl) ?_
    refine G_done ?_
    refine G_inBlock ?_
    refine G_region (l := [0, 1]) rfl ?_
    first
      | refine G_val rfl rfl rfl rfl ((V_add rfl rfl rfl).int (wrap_i64 (by omega))) ?_
      | refine G_val rfl rfl rfl rfl (V_add rfl rfl rfl) ?_
    refine G_val rfl rfl rfl rfl (V_move rfl rfl) ?_
    refine G_done ?_
    refine G_sub ?_ [] ?_ (ih (i + 1) ?_ ?_)
    · (refine (And.intro rfl (And.intro rfl (And.intro (slot_int (by rw [hsn]; omega)) (And.intro rfl (And.intro rfl (And.intro rfl trivial)))))))
    · exact ⟨_, rfl⟩
    · omega
    · (first | omega | (dsimp only; omega))
  refine G_exit rfl ?_
  refine G_seq ?_
  refine G_region (l := [0]) rfl ?_
  refine G_new rfl rfl rfl rfl (N_allocA rfl infTellJ_57 rfl) (fun b8 => ?_)
  refine G_done ?_
  refine G_seq ?_
  have hst := sumL_take ls i
  refine G_region (l := [0, 1]) rfl ?_
  refine G_val rfl rfl rfl rfl (V_move rfl rfl) ?_
  refine G_call (L2 := []) rfl rfl rfl rfl rfl rfl Tryd.call53 (bld_grow b8 (ls.length - 1 + sumL (ls.take i)) (by omega) (by omega)) [0] [] rfl rfl ?_
  rintro v post ⟨rfl, u1, hu1, rfl⟩
  show G _ _ _ [_, _] _
  refine G_done ?_
  refine G_seq ?_
  obtain ⟨b1, rfl⟩ := h1.isSome (by omega)
  obtain ⟨x, hx⟩ := getI (show 0 < ls.length by omega)
  have hxl := sumL_mem (List.mem_of_getElem? hx)
  refine G_region (l := [0, 1, 2, 3]) rfl ?_
  refine G_val rfl rfl rfl rfl (V_move rfl rfl) ?_
  first
    | refine G_val rfl rfl rfl rfl (V_indexAddrN (s := 1) rfl Tryd.underlying53 infTellJ_9 rfl rfl rfl rfl (by omega)) ?_
    | refine G_val rfl rfl rfl rfl (V_indexAddr (s := 1) rfl Tryd.underlying53 infTellJ_9 rfl rfl rfl (by omega) (by first | omega | (simp [rqCells]; done) | (simp [rqCells]; omega) | (simp [rqCells] at *; omega))) ?_
  refine G_val rfl rfl rfl rfl (V_load1 rfl rfl (mem_at 0 rfl) (nth_of (show c1[p1 + 0 * 1]? = some (strC x) from h1.at (by simp [hx]))) Tryd.underlying9 rfl) ?_
  refine G_call (L2 := []) rfl rfl rfl rfl rfl rfl Tryd.call22 (bld_write _ _ _ [] _ (.inr rfl) hu1 (by simp; omega)) [0, 0] [] rfl rfl ?_
  rintro v post ⟨rfl, u2, hu2, rfl⟩
  show G _ _ _ [_, _] _
  refine G_done ?_
  refine G_seq ?_
  refine G_seq ?_
  have hx0 : x = joinI s ls 0 := by unfold joinI; simp [List.getD_eq_getElem?_getD, hx]
  rw [List.nil_append, hx0] at hu2
  simp only [List.nil_append, hx0]
  refine G_region (l := [0, 1, 2, 3]) rfl ?_
  refine G_val rfl rfl rfl rfl (V_move rfl rfl) ?_
  refine G_val rfl rfl rfl rfl (V_sliceLo (lo := 1) rfl Tryd.underlying53 infTellJ_9 rfl rfl rfl rfl (by first | omega | (simp [rqCells]; done) | (simp [rqCells]; omega) | (simp [rqCells] at *; omega)) (by first | omega | (simp [rqCells]; done) | (simp [rqCells]; omega) | (simp [rqCells] at *; omega))) ?_
  rw [if_neg (by omega)]
  refine G_val rfl rfl rfl rfl (V_len rfl rfl Tryd.underlying53 rfl) ?_
  refine G_val rfl rfl rfl rfl (V_move rfl rfl) ?_
  refine G_done ?_
  refine G_block ?_
  refine G_sub ?he22 [0, 0] ?hl22 (G_loop (X := Nat × Sl) (fun x_ => match x_ with | ⟨i, u⟩ => i + 1 ≤ ls.length ∧ Txt u (joinI s ls i)) (fun x_ => match x_ with | ⟨i, u⟩ => ls.length - i) (fun x_ => match x_ with | ⟨i, u⟩ => [(1, .string (bs [s])), (8, .pointer (some ⟨b8, 0, none⟩)), (63, .slice (some ⟨b1, p1 + 1, none⟩) (ls.length - 1) (q1 - 1)), (64, .int .i64 ((ls.length - 1 : Nat) : Int)), (65, .int .i64 (i : Int))]) (fun x_ => match x_ with | ⟨i, u⟩ => [(some b8, .cells #[.pointer (some ⟨b8, 0, none⟩), u.v (joinI s ls i).length] 57 (0, 0)), (u.ob, .cells u.cs 5 u.fz)]) ?round22 (0, u2) ?h022)
  case he22 => exact (And.intro rfl (And.intro rfl (And.intro rfl (And.intro rfl (And.intro rfl trivial)))))
  case hl22 => exact ⟨_, rfl⟩
  case h022 => exact ⟨by omega, hu2⟩
  case round22 =>
   intro x_ hJ ih
   try dsimp only at hJ ih
   obtain ⟨i, u⟩ := x_
   try dsimp only at hJ ih
   obtain ⟨hi, hux⟩ := hJ
   show G _ _ [(1, .string (bs [s])), (8, .pointer (some ⟨b8, 0, none⟩)), (63, .slice (some ⟨b1, p1 + 1, none⟩) (ls.length - 1) (q1 - 1)), (64, .int .i64 ((ls.length - 1 : Nat) : Int)), (65, .int .i64 (i : Int))] [(some b8, .cells #[.pointer (some ⟨b8, 0, none⟩), u.v (joinI s ls i).length] 57 (0, 0)), (u.ob, .cells u.cs 5 u.fz)] _
   refine G_seq ?_
   refine G_region (l := [0]) rfl ?_
   refine G_val rfl rfl rfl rfl (V_lss rfl rfl rfl) ?_
   refine G_done ?_
   refine G_seq ?_
   refine G_ifD rfl (fun hc6 => ?_) (fun hc6 => ?_)
   · skip
     refine G_skip ?_
     refine G_seq ?_
     refine G_block ?_
     refine G_seq ?_
     obtain ⟨y, hy⟩ := getI (show i + 1 < ls.length by omega)
     have hyl := sumL_mem (List.mem_of_getElem? hy)
     have jl := joinI_len (s := s) (ls := ls) (i := i) (by omega)
     refine G_region (l := [0, 1, 2]) rfl ?_
     first
       | refine G_val rfl rfl rfl rfl (V_indexAddrN (s := 1) rfl Tryd.underlying53 infTellJ_9 rfl rfl rfl rfl (by omega)) ?_
       | refine G_val rfl rfl rfl rfl (V_indexAddr (s := 1) rfl Tryd.underlying53 infTellJ_9 rfl rfl rfl (by omega) (by first | omega | (simp [rqCells]; done) | (simp [rqCells]; omega) | (simp [rqCells] at *; omega))) ?_
     refine G_val rfl rfl rfl rfl (V_load1 rfl rfl (mem_at 0 rfl) (nth_of (show c1[p1 + 1 + i * 1]? = some (strC y) by rw [show p1 + 1 + i * 1 = p1 + (i + 1) by omega]; exact h1.at (by simp [hy]))) Tryd.underlying9 rfl) ?_
     refine G_val rfl rfl rfl rfl (V_assign rfl rfl) ?_
     refine G_done ?_
     refine G_seq ?_
     refine G_region (l := [0, 1]) rfl ?_
     refine G_val rfl rfl rfl rfl (V_move rfl rfl) ?_
     refine G_call (L2 := []) rfl rfl rfl rfl rfl rfl Tryd.call22 (bld_write _ _ _ _ [s] (.inr rfl) hux (by simp; omega)) [0, 0] [] rfl rfl ?_
     rintro v post ⟨rfl, u1, hu1, rfl⟩
     show G _ _ _ [_, _] _
     refine G_done ?_
     refine G_region (l := [0, 1]) rfl ?_
     refine G_val rfl rfl rfl rfl (V_move rfl rfl) ?_
     refine G_call (L2 := []) rfl rfl rfl rfl rfl rfl Tryd.call22 (bld_write _ _ _ _ y (.inr rfl) hu1 (by simp; omega)) [0, 0] [] rfl rfl ?_
     rintro v post ⟨rfl, u2, hu2, rfl⟩
     show G _ _ _ [_, _] _
     rw [joinI_next hy] at hu2 ⊢
     refine G_done ?_
     refine G_inBlock ?_
     refine G_region (l := [0, 1]) rfl ?_
     first
       | refine G_val rfl rfl rfl rfl ((V_add rfl rfl rfl).int (wrap_i64 (by omega))) ?_
       | refine G_val rfl rfl rfl rfl (V_add rfl rfl rfl) ?_
     refine G_val rfl rfl rfl rfl (V_move rfl rfl) ?_
     refine G_done ?_
     refine G_sub ?_ [0, 0] ?_ (ih (i + 1, u2) ?_ ?_)
     · (refine (And.intro ?_ (And.intro ?_ (And.intro ?_ (And.intro ?_ (And.intro ?_ trivial))))) <;> first | rfl | exact slot_int (by omega) | exact slot_int (by simp))
     · exact ⟨_, rfl⟩
     · exact ⟨by omega, hu2⟩
     · (first | omega | (dsimp only; omega))
   refine G_exit rfl ?_
   refine G_seq ?_
   have jt := joinI_len (s := s) (ls := ls) (i := i) (by omega)
   rw [joinI_end (by omega) (by omega)] at hux jt ⊢
   refine G_region (l := [0, 1]) rfl ?_
   refine G_call (L2 := []) rfl rfl rfl rfl rfl rfl Tryd.call23 (bld_string _ _ _ _ hux (by omega)) [0, 0] [] rfl rfl ?_
   rintro v post ⟨rfl, u1, hu1, rfl⟩
   show G _ _ _ [_, _] _
   refine G_val rfl rfl rfl rfl (V_assign rfl rfl) ?_
   refine G_done ?_
   refine G_ret (post := []) Tryd.func37 rfl (RVs_cons (RV_tmp rfl) RVs_nil) [] rfl ?_
   dsimp only [packed]
   first
     | exact ⟨rfl, rfl⟩
     | (obtain rfl : ls = [] := List.length_eq_zero_iff.1 (by omega)
        exact ⟨rfl, rfl⟩)
     | (match ls, (by omega : ls.length = 1), hx with
        | [y], _, hx => obtain rfl : y = x := by simpa using hx
                        exact ⟨str_eq (by simp [joinT]), rfl⟩)


/-- What is told of a reply without letters. -/
structure Ry where
  to_ : List UInt8
  ns : List Int
  st : Int
  cmd : List UInt8
def part (name value : List UInt8) : List UInt8 := name ++ [61] ++ value
def addP (xs : List (List UInt8)) (name value : List UInt8) (there : Bool) : List (List UInt8) := if there then xs ++ [part name value] else xs
def addN (xs : List (List UInt8)) (name : List UInt8) (n : Int) : List (List UInt8) := addP xs name (Lib.itoa n) (decide (¬ n = 0))
theorem addP_len (xs : List (List UInt8)) (name value : List UInt8) (there : Bool) : (addP xs name value there).length ≤ xs.length + 1 := by unfold addP; split <;> simp

set_option maxRecDepth 100000 in
set_option maxHeartbeats 1000000 in
theorem tl_put (b : Nat) (u : Sl) (xs : List (List UInt8)) (hu : Own 1 u (xs.map strC) xs.length) (hn : xs.length ≤ 1000) (name value : List UInt8) (there : Bool) (h1 : name.length ≤ 100) (h2 : value.length ≤ 100000) :
    Ct Tryd.prog 45 [.string (bs name), .string (bs value), .bool there, .pointer (some ⟨b, 0, none⟩)] [] [(some b, .cells #[u.v xs.length] 53 (0, 0)), (u.ob, .cells u.cs 9 u.fz)] fun v post => v = .tuple #[] ∧ ∃ u1, Own 1 u1 ((addP xs name value there).map strC) (addP xs name value there).length ∧ post = [(some b, .cells #[u1.v (addP xs name value there).length] 53 (0, 0)), (u1.ob, .cells u1.cs 9 u1.fz)] := by
 refine ct_of Tryd.func45 rfl rfl (fun w0 => ?_)
 show G _ _ [(0, _), (1, _), (2, _), (3, _)] _ _
 refine G_seq ?_
 cases there
 · skip
   refine G_region (l := [0]) rfl ?_
   refine G_val rfl rfl rfl rfl (V_move rfl rfl) ?_
   refine G_done ?_
   refine G_if rfl (fun hc1 => ?_) (fun hc1 => ?_)
   · (first | contradiction | (exact absurd rfl hc1) | (exfalso; omega) | (simp at hc1; done) | (exact absurd hc1 (by decide)) | (exact absurd (by decide) hc1))
   refine G_skip ?_
   refine G_end (post := [_, _]) Tryd.func45 rfl RVs_nil [0, 0] rfl ?_
   dsimp only [packed]
   first
     | exact ⟨rfl, u, hu, rfl⟩
     | (refine ⟨rfl, u1, ?_, ?_⟩
        · show Own 1 u1 ((xs ++ [part name value]).map strC) (xs ++ [part name value]).length
          rw [List.map_append, List.length_append]; exact hu1
        · rw [show (addP xs name value true).length = xs.length + 1 from by show (xs ++ [part name value]).length = _; simp]; rfl)
 · skip
   refine G_region (l := [0]) rfl ?_
   refine G_val rfl rfl rfl rfl (V_move rfl rfl) ?_
   refine G_done ?_
   refine G_if rfl (fun hc1 => ?_) (fun hc1 => ?_)
   rotate_left
   · (first | contradiction | (exact absurd rfl hc1) | (exfalso; omega) | (simp at hc1; done) | (exact absurd hc1 (by decide)) | (exact absurd (by decide) hc1))
   refine G_region (l := [0, 1, 2, 3, 4, 5, 6, 7]) rfl ?_
   refine G_val rfl rfl rfl rfl (V_load1 rfl rfl (mem_at 0 rfl) rfl Tryd.underlying53 rfl) ?_
   refine G_val rfl rfl rfl rfl (V_move rfl rfl) ?_
   refine G_val rfl rfl rfl rfl (V_sadd rfl rfl rfl (by first | omega | (simp [rqCells]; done) | (simp [rqCells]; omega) | (simp [rqCells] at *; omega))) ?_
   refine G_val rfl rfl rfl rfl (V_move rfl rfl) ?_
   refine G_val rfl rfl rfl rfl (V_sadd rfl rfl rfl (by first | omega | (simp [rqCells]; done) | (simp [rqCells]; omega) | (simp [rqCells] at *; omega))) ?_
   refine G_new rfl rfl rfl rfl (N_buildAll (s := 1) (cs := [_]) rfl Tryd.underlying53 infTellJ_9 rfl rfl rfl rfl rfl rfl rfl rfl rfl) (fun b13 => ?_)
   refine G_append (l1 := [_, _]) (s := u) (nn := xs.length) (m := 1) (news := [strC (part name value)]) (bt := 16) rfl rfl rfl rfl Tryd.underlying53 Tryd.underlying53 (by first | exact .inl rfl | exact .inr ⟨_, rfl⟩) infTellJ_9 rfl rfl rfl rfl rfl rfl hu rfl (src_mem (mem_at 0 rfl) rfl rfl (by simp [strC, Value.oneCell'])) (by omega) (by omega) ?_
   intro u1 hu1 _
   show G _ _ _ [_, _, _] _
   refine G_put (l1 := [_]) (L' := [_, _, _]) rfl rfl rfl rfl (P_store1 rfl rfl rfl (mem_at 1 rfl) (by first | exact of_decide_eq_true rfl | omega | (simp [rqCells]; done) | (simp [rqCells]; omega) | (simp [rqCells] at *; omega)) infTellJ_53 rfl rfl) rfl ?_
   refine G_done ?_
   refine G_end (post := [_, _]) Tryd.func45 rfl RVs_nil [1, 1] rfl ?_
   dsimp only [packed]
   first
     | exact ⟨rfl, u, hu, rfl⟩
     | (refine ⟨rfl, u1, ?_, ?_⟩
        · show Own 1 u1 ((xs ++ [part name value]).map strC) (xs ++ [part name value]).length
          rw [List.map_append, List.length_append]; exact hu1
        · rw [show (addP xs name value true).length = xs.length + 1 from by show (xs ++ [part name value]).length = _; simp]; rfl)

set_option maxRecDepth 100000 in
set_option maxHeartbeats 1000000 in
theorem tl_count (b f : Nat) (u : Sl) (xs : List (List UInt8)) (hu : Own 1 u (xs.map strC) xs.length) (hn : xs.length ≤ 1000) (name : List UInt8) (h1 : name.length ≤ 100) (x : Int) (hx0 : -9223372036854775808 ≤ x) (hx1 : x ≤ 9223372036854775807) (T0 : TypeId) (r0 : Nat × Nat) :
    Ct Tryd.prog 46 [.string (bs name), .int .i64 x, .pointer (some ⟨f, 0, none⟩)] [(some f, .cells #[.func (.func 45) #[] #[.pointer (some ⟨b, 0, none⟩)]] 99 (0, 0)), (some 0, .cells powC T0 r0)] [(some b, .cells #[u.v xs.length] 53 (0, 0)), (u.ob, .cells u.cs 9 u.fz)] fun v post => v = .tuple #[] ∧ ∃ u1, Own 1 u1 ((addN xs name x).map strC) (addN xs name x).length ∧ post = [(some b, .cells #[u1.v (addN xs name x).length] 53 (0, 0)), (u1.ob, .cells u1.cs 9 u1.fz)] := by
 have hil := itoa_len hx0 hx1
 refine ct_of Tryd.func46 rfl rfl (fun w0 => ?_)
 show G _ _ [(0, _), (1, _), (2, _)] _ _
 refine GH_start (Lq := []) (isq := []) (m := 7) mixedK rfl rfl ?_
 refine GH_take 0 rfl rfl rfl rfl (by kernel_rfl) (by kernel_rfl) (by kernel_rfl) (fun _ _ => (V_load1 rfl rfl (mem_at 0 rfl) rfl Tryd.underlying99 rfl)) ?_
 refine GH_take 1 rfl rfl rfl rfl (by kernel_rfl) (by kernel_rfl) (by kernel_rfl) (fun _ _ => (V_move rfl rfl)) ?_
 refine GH_take 2 rfl rfl rfl rfl (by kernel_rfl) (by kernel_rfl) (by kernel_rfl) (fun _ _ => (V_move rfl rfl)) ?_
 refine GH_take 4 rfl rfl rfl rfl (by kernel_rfl) (by kernel_rfl) (by kernel_rfl) (fun _ _ => (V_move rfl rfl)) ?_
 refine GH_take 5 rfl rfl rfl rfl (by kernel_rfl) (by kernel_rfl) (by kernel_rfl) (fun _ _ => (V_neq rfl rfl rfl)) ?_
 refine GH_all [3] (by kernel_rfl) (by decide) ?_
 refine (And.intro ?_ trivial)
 · skip
   refine GHop_call (L2 := [_, _]) rfl rfl rfl rfl rfl rfl Tryd.call40 (tl_num x hx0 hx1 T0 r0) [] [1] rfl rfl [] (by rintro v post ⟨rfl, rfl⟩; exact ⟨_, rfl⟩) ?_
   rintro v post ⟨rfl, rfl⟩
   show GH _ _ _ _ _ _ _ [_, _] _
   refine GH_all [6] (by kernel_rfl) (by decide) ?_
   refine (And.intro ?_ trivial)
   · skip
     refine GHop_callC (L2 := []) rfl rfl rfl rfl rfl rfl Tryd.call45 rfl (tl_put b u xs hu hn name (Lib.itoa x) (decide (¬ x = 0)) h1 (by omega)) [0, 0] [] rfl rfl [] (by rintro v post ⟨rfl, u1, hu1, rfl⟩; exact ⟨_, rfl⟩) ?_
     rintro v post ⟨rfl, u1, hu1, rfl⟩
     show GH _ _ _ _ _ _ _ [_, _] _
     refine GH_done (by kernel_rfl) ?_
     refine G_end (post := [_, _]) Tryd.func46 rfl RVs_nil [0, 0] rfl ?_
     dsimp only [packed]
     exact ⟨rfl, u1, hu1, rfl⟩


theorem part_len (name value : List UInt8) : (part name value).length = name.length + 1 + value.length := by unfold part; simp only [List.length_append, List.length_singleton]
theorem sumL_snoc (xs : List (List UInt8)) (x : List UInt8) : sumL (xs ++ [x]) = sumL xs + x.length := by unfold sumL; rw [List.map_append, List.sum_append]; simp
theorem addP_bd (xs : List (List UInt8)) (name value : List UInt8) (there : Bool) (k : Nat) (h : xs.length ≤ k ∧ sumL xs ≤ 450 * k) (hl : name.length + 1 + value.length ≤ 450) : (addP xs name value there).length ≤ k + 1 ∧ sumL (addP xs name value there) ≤ 450 * (k + 1) := by
  unfold addP
  split
  · rw [sumL_snoc, part_len]; simp only [List.length_append, List.length_singleton]; omega
  · omega
theorem addN_bd (xs : List (List UInt8)) (name : List UInt8) (x : Int) (k : Nat) (h : xs.length ≤ k ∧ sumL xs ≤ 450 * k) (hn : name.length ≤ 20) (h0 : -9223372036854775808 ≤ x) (h1 : x ≤ 9223372036854775807) : (addN xs name x).length ≤ k + 1 ∧ sumL (addN xs name x) ≤ 450 * (k + 1) :=
  addP_bd xs name _ _ k h (by have := itoa_len h0 h1; omega)


def partsR (to_ cmd : List UInt8) (code op_ st ep att cl co a b : Int) : List (List UInt8) := (addP (addN (addN (addN (addN (addN (addN (addP (addN (addN (addP [] [116, 111] (quoteT to_) (decide (¬ to_ = []))) [101, 114, 114, 111, 114] code) [111, 112] op_) [115, 116, 97, 116, 101] (wordT st) (decide (¬ st = 0))) [101, 112, 111, 99, 104] ep) [97, 116, 116, 101, 109, 112, 116, 115] att) [99, 108, 97, 115, 115] cl) [99, 111, 115, 116] co) [97] a) [98] b) [99, 111, 109, 109, 97, 110, 100] (quoteT cmd) (decide (¬ cmd = [])))
def replyT (l : List (List UInt8)) : List UInt8 := if l = [] then [111, 107] else joinT 32 l

set_option maxRecDepth 100000 in
set_option maxHeartbeats 4000000 in
theorem tl_reply (to_ cmd : List UInt8) (code op_ st ep att cl co a b : Int) (hto : to_.length ≤ 100) (hcmd : cmd.length ≤ 100) (hcode0 : -9223372036854775808 ≤ code) (hcode1 : code ≤ 9223372036854775807) (hop_0 : -9223372036854775808 ≤ op_) (hop_1 : op_ ≤ 9223372036854775807) (hst0 : -9223372036854775808 ≤ st) (hst1 : st ≤ 9223372036854775807) (hep0 : -9223372036854775808 ≤ ep) (hep1 : ep ≤ 9223372036854775807) (hatt0 : -9223372036854775808 ≤ att) (hatt1 : att ≤ 9223372036854775807) (hcl0 : -9223372036854775808 ≤ cl) (hcl1 : cl ≤ 9223372036854775807) (hco0 : -9223372036854775808 ≤ co) (hco1 : co ≤ 9223372036854775807) (ha0 : -9223372036854775808 ≤ a) (ha1 : a ≤ 9223372036854775807) (hb0 : -9223372036854775808 ≤ b) (hb1 : b ≤ 9223372036854775807) (T0 : TypeId) (r0 : Nat × Nat) :
    Ct Tryd.prog 19 [.agg #[.string (bs to_), .int .i64 code, .int .i64 op_, .int .i64 st, .int .i64 ep, .int .i64 att, .int .i64 cl, .int .i64 co, .int .i64 a, .int .i64 b, .string (bs cmd), .slice none 0 0]] [(some 0, .cells powC T0 r0)] [] fun v post => v = .string (bs (replyT (partsR to_ cmd code op_ st ep att cl co a b))) ∧ post = [] := by
 have hq1 := quoteT_len to_
 have hq2 := quoteT_len cmd
 have hw1 := wordT_len st
 refine ct_of Tryd.func19 rfl rfl (fun w0 => ?_)
 show G _ _ [(0, _)] _ _
 refine G_seq ?_
 refine G_region (l := [0, 1]) rfl ?_
 refine G_new rfl rfl rfl rfl (N_boxA rfl rfl) (fun b1 => ?_)
 refine G_val rfl rfl rfl rfl (V_assign rfl rfl) ?_
 refine G_done ?_
 refine G_seq ?_
 refine G_region (l := [0]) rfl ?_
 refine G_new rfl rfl rfl rfl (N_alloc1 rfl infTellJ_53 rfl rfl) (fun b3 => ?_)
 refine G_done ?_
 refine G_seq ?_
 refine G_region (l := [0, 1, 2]) rfl ?_
 refine G_val rfl rfl rfl rfl (V_func rfl rfl rfl) ?_
 refine G_new rfl rfl rfl rfl (N_alloc1 rfl infTellJ_99 rfl rfl) (fun b4 => ?_)
 refine G_put (l1 := []) (L' := [_, _, _]) rfl rfl rfl rfl (P_store1 rfl rfl rfl (mem_at 0 rfl) (by first | exact of_decide_eq_true rfl | omega | (simp [rqCells]; done) | (simp [rqCells]; omega) | (simp [rqCells] at *; omega)) infTellJ_99 rfl rfl) rfl ?_
 refine G_done ?_
 refine G_seq ?_
 refine G_region (l := [0, 1]) rfl ?_
 refine G_val rfl rfl rfl rfl (V_func rfl rfl rfl) ?_
 refine G_val rfl rfl rfl rfl (V_assign rfl rfl) ?_
 refine G_done ?_
 refine G_seq ?_
 have hu := own_nil 1
 refine G_addNone (.cells #[] 9 (0, 0)) ?_
 refine GH_start (Lq := [_, _]) (isq := [3, 1]) (m := 8) mixedK rfl rfl ?_
 refine GH_take 0 rfl rfl rfl rfl (by kernel_rfl) (by kernel_rfl) (by kernel_rfl) (fun _ _ => (V_load1 rfl rfl (mem_at 2 rfl) rfl Tryd.underlying99 rfl)) ?_
 refine GH_take 1 rfl rfl rfl rfl (by kernel_rfl) (by kernel_rfl) (by kernel_rfl) (fun _ _ => (V_fieldAddr (fo := 0) rfl Tryd.underlying52 rfl infTellJ_9 rfl rfl rfl)) ?_
 refine GH_take 2 rfl rfl rfl rfl (by kernel_rfl) (by kernel_rfl) (by kernel_rfl) (fun _ _ => (V_load1 rfl rfl (mem_at 1 rfl) rfl Tryd.underlying9 rfl)) ?_
 refine GH_take 4 rfl rfl rfl rfl (by kernel_rfl) (by kernel_rfl) (by kernel_rfl) (fun _ _ => (V_fieldAddr (fo := 0) rfl Tryd.underlying52 rfl infTellJ_9 rfl rfl rfl)) ?_
 refine GH_take 5 rfl rfl rfl rfl (by kernel_rfl) (by kernel_rfl) (by kernel_rfl) (fun _ _ => (V_load1 rfl rfl (mem_at 1 rfl) rfl Tryd.underlying9 rfl)) ?_
 refine GH_take 6 rfl rfl rfl rfl (by kernel_rfl) (by kernel_rfl) (by kernel_rfl) (fun _ _ => (V_sneq rfl rfl rfl)) ?_
 refine GH_all [3] (by kernel_rfl) (by decide) ?_
 refine (And.intro ?_ trivial)
 · skip
   refine GHop_call (L2 := [_, _, _, _]) rfl rfl rfl rfl rfl rfl Tryd.call9 (tl_quote to_ (by omega)) [] [] rfl rfl [3, 1] (by rintro v post ⟨rfl, rfl⟩; exact ⟨_, rfl⟩) ?_
   rintro v post ⟨rfl, rfl⟩
   show GH _ _ _ _ _ _ _ [_, _, _, _] _
   refine GH_all [7] (by kernel_rfl) (by decide) ?_
   refine (And.intro ?_ trivial)
   · skip
     refine GHop_callC (L2 := [_, _]) rfl rfl rfl rfl rfl rfl Tryd.call45 rfl (tl_put b3 _ [] hu (by first | omega | simp) [116, 111] (quoteT to_) (decide (¬ to_ = [])) (by decide) (by omega)) [2, 0] [] rfl rfl [3, 2] (by rintro v post ⟨rfl, u1, hu1, rfl⟩; exact ⟨_, rfl⟩) ?_
     rintro v post ⟨rfl, u1, hu1, rfl⟩
     show GH _ _ _ _ _ _ _ [_, _, _, _] _
     have hxb1 := addP_bd [] [116, 111] (quoteT to_) (decide (¬ to_ = [])) 0 ⟨Nat.le_refl _, Nat.zero_le _⟩ (by show 2 + 1 + _ ≤ 450; omega)
     obtain ⟨x1, hx1⟩ : ∃ x, x = addP [] [116, 111] (quoteT to_) (decide (¬ to_ = [])) := ⟨_, rfl⟩
     rw [← hx1] at hu1 hxb1 ⊢
     have hu := hu1
     clear hu1
     refine GH_done (by kernel_rfl) ?_
     refine G_seq ?_
     refine G_region (l := [0, 1, 2, 3]) rfl ?_
     refine G_val rfl rfl rfl rfl (V_move rfl rfl) ?_
     refine G_val rfl rfl rfl rfl (V_fieldAddr (fo := 1) rfl Tryd.underlying52 rfl infTellJ_50 rfl rfl rfl) ?_
     refine G_val rfl rfl rfl rfl (V_load1 rfl rfl (mem_at 4 rfl) rfl Tryd.underlying50 rfl) ?_
     refine G_callC (L2 := [_, _]) rfl rfl rfl rfl rfl rfl Tryd.call46 rfl (tl_count b3 b4 _ x1 hu (by omega) [101, 114, 114, 111, 114] (by decide) code hcode0 hcode1 T0 r0) [0, 0] [1, 0] rfl rfl ?_
     rintro v post ⟨rfl, u1, hu1, rfl⟩
     show G _ _ _ [_, _, _, _] _
     have hxb2 := addN_bd x1 [101, 114, 114, 111, 114] code 1 hxb1 (by decide) hcode0 hcode1
     obtain ⟨x2, hx2⟩ : ∃ x, x = addN x1 [101, 114, 114, 111, 114] code := ⟨_, rfl⟩
     rw [← hx2] at hu1 hxb2 ⊢
     have hu := hu1
     clear hu1
     refine G_done ?_
     refine G_seq ?_
     refine G_region (l := [0, 1, 2, 3]) rfl ?_
     refine G_val rfl rfl rfl rfl (V_move rfl rfl) ?_
     refine G_val rfl rfl rfl rfl (V_fieldAddr (fo := 2) rfl Tryd.underlying52 rfl infTellJ_3 rfl rfl rfl) ?_
     refine G_val rfl rfl rfl rfl (V_load1 rfl rfl (mem_at 4 rfl) rfl Tryd.underlying3 rfl) ?_
     refine G_callC (L2 := [_, _]) rfl rfl rfl rfl rfl rfl Tryd.call46 rfl (tl_count b3 b4 _ x2 hu (by omega) [111, 112] (by decide) op_ hop_0 hop_1 T0 r0) [0, 0] [1, 0] rfl rfl ?_
     rintro v post ⟨rfl, u1, hu1, rfl⟩
     show G _ _ _ [_, _, _, _] _
     have hxb3 := addN_bd x2 [111, 112] op_ 2 hxb2 (by decide) hop_0 hop_1
     obtain ⟨x3, hx3⟩ : ∃ x, x = addN x2 [111, 112] op_ := ⟨_, rfl⟩
     rw [← hx3] at hu1 hxb3 ⊢
     have hu := hu1
     clear hu1
     refine G_done ?_
     refine G_seq ?_
     refine GH_start (Lq := [_, _]) (isq := [3, 2]) (m := 8) mixedK rfl rfl ?_
     refine GH_take 0 rfl rfl rfl rfl (by kernel_rfl) (by kernel_rfl) (by kernel_rfl) (fun _ _ => (V_load1 rfl rfl (mem_at 2 rfl) rfl Tryd.underlying99 rfl)) ?_
     refine GH_take 1 rfl rfl rfl rfl (by kernel_rfl) (by kernel_rfl) (by kernel_rfl) (fun _ _ => (V_fieldAddr (fo := 3) rfl Tryd.underlying52 rfl infTellJ_3 rfl rfl rfl)) ?_
     refine GH_take 2 rfl rfl rfl rfl (by kernel_rfl) (by kernel_rfl) (by kernel_rfl) (fun _ _ => (V_load1 rfl rfl (mem_at 1 rfl) rfl Tryd.underlying3 rfl)) ?_
     refine GH_take 4 rfl rfl rfl rfl (by kernel_rfl) (by kernel_rfl) (by kernel_rfl) (fun _ _ => (V_fieldAddr (fo := 3) rfl Tryd.underlying52 rfl infTellJ_3 rfl rfl rfl)) ?_
     refine GH_take 5 rfl rfl rfl rfl (by kernel_rfl) (by kernel_rfl) (by kernel_rfl) (fun _ _ => (V_load1 rfl rfl (mem_at 1 rfl) rfl Tryd.underlying3 rfl)) ?_
     refine GH_take 6 rfl rfl rfl rfl (by kernel_rfl) (by kernel_rfl) (by kernel_rfl) (fun _ _ => (V_neq rfl rfl rfl)) ?_
     refine GH_all [3] (by kernel_rfl) (by decide) ?_
     refine (And.intro ?_ trivial)
     · skip
       refine GHop_call (L2 := [_, _, _, _]) rfl rfl rfl rfl rfl rfl Tryd.call7 (tl_word st hst0 hst1) [] [] rfl rfl [3, 2] (by rintro v post ⟨rfl, rfl⟩; exact ⟨_, rfl⟩) ?_
       rintro v post ⟨rfl, rfl⟩
       show GH _ _ _ _ _ _ _ [_, _, _, _] _
       refine GH_all [7] (by kernel_rfl) (by decide) ?_
       refine (And.intro ?_ trivial)
       · skip
         refine GHop_callC (L2 := [_, _]) rfl rfl rfl rfl rfl rfl Tryd.call45 rfl (tl_put b3 _ x3 hu (by first | omega | simp) [115, 116, 97, 116, 101] (wordT st) (decide (¬ st = 0)) (by decide) (by omega)) [0, 0] [] rfl rfl [3, 2] (by rintro v post ⟨rfl, u1, hu1, rfl⟩; exact ⟨_, rfl⟩) ?_
         rintro v post ⟨rfl, u1, hu1, rfl⟩
         show GH _ _ _ _ _ _ _ [_, _, _, _] _
         have hxb4 := addP_bd x3 [115, 116, 97, 116, 101] (wordT st) (decide (¬ st = 0)) 3 hxb3 (by show 5 + 1 + _ ≤ 450; omega)
         obtain ⟨x4, hx4⟩ : ∃ x, x = addP x3 [115, 116, 97, 116, 101] (wordT st) (decide (¬ st = 0)) := ⟨_, rfl⟩
         rw [← hx4] at hu1 hxb4 ⊢
         have hu := hu1
         clear hu1
         refine GH_done (by kernel_rfl) ?_
         refine G_seq ?_
         refine G_region (l := [0, 1, 2, 3]) rfl ?_
         refine G_val rfl rfl rfl rfl (V_move rfl rfl) ?_
         refine G_val rfl rfl rfl rfl (V_fieldAddr (fo := 4) rfl Tryd.underlying52 rfl infTellJ_3 rfl rfl rfl) ?_
         refine G_val rfl rfl rfl rfl (V_load1 rfl rfl (mem_at 4 rfl) rfl Tryd.underlying3 rfl) ?_
         refine G_callC (L2 := [_, _]) rfl rfl rfl rfl rfl rfl Tryd.call46 rfl (tl_count b3 b4 _ x4 hu (by omega) [101, 112, 111, 99, 104] (by decide) ep hep0 hep1 T0 r0) [0, 0] [1, 0] rfl rfl ?_
         rintro v post ⟨rfl, u1, hu1, rfl⟩
         show G _ _ _ [_, _, _, _] _
         have hxb5 := addN_bd x4 [101, 112, 111, 99, 104] ep 4 hxb4 (by decide) hep0 hep1
         obtain ⟨x5, hx5⟩ : ∃ x, x = addN x4 [101, 112, 111, 99, 104] ep := ⟨_, rfl⟩
         rw [← hx5] at hu1 hxb5 ⊢
         have hu := hu1
         clear hu1
         refine G_done ?_
         refine G_seq ?_
         refine G_region (l := [0, 1, 2, 3]) rfl ?_
         refine G_val rfl rfl rfl rfl (V_move rfl rfl) ?_
         refine G_val rfl rfl rfl rfl (V_fieldAddr (fo := 5) rfl Tryd.underlying52 rfl infTellJ_3 rfl rfl rfl) ?_
         refine G_val rfl rfl rfl rfl (V_load1 rfl rfl (mem_at 4 rfl) rfl Tryd.underlying3 rfl) ?_
         refine G_callC (L2 := [_, _]) rfl rfl rfl rfl rfl rfl Tryd.call46 rfl (tl_count b3 b4 _ x5 hu (by omega) [97, 116, 116, 101, 109, 112, 116, 115] (by decide) att hatt0 hatt1 T0 r0) [0, 0] [1, 0] rfl rfl ?_
         rintro v post ⟨rfl, u1, hu1, rfl⟩
         show G _ _ _ [_, _, _, _] _
         have hxb6 := addN_bd x5 [97, 116, 116, 101, 109, 112, 116, 115] att 5 hxb5 (by decide) hatt0 hatt1
         obtain ⟨x6, hx6⟩ : ∃ x, x = addN x5 [97, 116, 116, 101, 109, 112, 116, 115] att := ⟨_, rfl⟩
         rw [← hx6] at hu1 hxb6 ⊢
         have hu := hu1
         clear hu1
         refine G_done ?_
         refine G_seq ?_
         refine G_region (l := [0, 1, 2, 3]) rfl ?_
         refine G_val rfl rfl rfl rfl (V_move rfl rfl) ?_
         refine G_val rfl rfl rfl rfl (V_fieldAddr (fo := 6) rfl Tryd.underlying52 rfl infTellJ_3 rfl rfl rfl) ?_
         refine G_val rfl rfl rfl rfl (V_load1 rfl rfl (mem_at 4 rfl) rfl Tryd.underlying3 rfl) ?_
         refine G_callC (L2 := [_, _]) rfl rfl rfl rfl rfl rfl Tryd.call46 rfl (tl_count b3 b4 _ x6 hu (by omega) [99, 108, 97, 115, 115] (by decide) cl hcl0 hcl1 T0 r0) [0, 0] [1, 0] rfl rfl ?_
         rintro v post ⟨rfl, u1, hu1, rfl⟩
         show G _ _ _ [_, _, _, _] _
         have hxb7 := addN_bd x6 [99, 108, 97, 115, 115] cl 6 hxb6 (by decide) hcl0 hcl1
         obtain ⟨x7, hx7⟩ : ∃ x, x = addN x6 [99, 108, 97, 115, 115] cl := ⟨_, rfl⟩
         rw [← hx7] at hu1 hxb7 ⊢
         have hu := hu1
         clear hu1
         refine G_done ?_
         refine G_seq ?_
         refine G_region (l := [0, 1, 2, 3]) rfl ?_
         refine G_val rfl rfl rfl rfl (V_move rfl rfl) ?_
         refine G_val rfl rfl rfl rfl (V_fieldAddr (fo := 7) rfl Tryd.underlying52 rfl infTellJ_3 rfl rfl rfl) ?_
         refine G_val rfl rfl rfl rfl (V_load1 rfl rfl (mem_at 4 rfl) rfl Tryd.underlying3 rfl) ?_
         refine G_callC (L2 := [_, _]) rfl rfl rfl rfl rfl rfl Tryd.call46 rfl (tl_count b3 b4 _ x7 hu (by omega) [99, 111, 115, 116] (by decide) co hco0 hco1 T0 r0) [0, 0] [1, 0] rfl rfl ?_
         rintro v post ⟨rfl, u1, hu1, rfl⟩
         show G _ _ _ [_, _, _, _] _
         have hxb8 := addN_bd x7 [99, 111, 115, 116] co 7 hxb7 (by decide) hco0 hco1
         obtain ⟨x8, hx8⟩ : ∃ x, x = addN x7 [99, 111, 115, 116] co := ⟨_, rfl⟩
         rw [← hx8] at hu1 hxb8 ⊢
         have hu := hu1
         clear hu1
         refine G_done ?_
         refine G_seq ?_
         refine G_region (l := [0, 1, 2, 3]) rfl ?_
         refine G_val rfl rfl rfl rfl (V_move rfl rfl) ?_
         refine G_val rfl rfl rfl rfl (V_fieldAddr (fo := 8) rfl Tryd.underlying52 rfl infTellJ_3 rfl rfl rfl) ?_
         refine G_val rfl rfl rfl rfl (V_load1 rfl rfl (mem_at 4 rfl) rfl Tryd.underlying3 rfl) ?_
         refine G_callC (L2 := [_, _]) rfl rfl rfl rfl rfl rfl Tryd.call46 rfl (tl_count b3 b4 _ x8 hu (by omega) [97] (by decide) a ha0 ha1 T0 r0) [0, 0] [1, 0] rfl rfl ?_
         rintro v post ⟨rfl, u1, hu1, rfl⟩
         show G _ _ _ [_, _, _, _] _
         have hxb9 := addN_bd x8 [97] a 8 hxb8 (by decide) ha0 ha1
         obtain ⟨x9, hx9⟩ : ∃ x, x = addN x8 [97] a := ⟨_, rfl⟩
         rw [← hx9] at hu1 hxb9 ⊢
         have hu := hu1
         clear hu1
         refine G_done ?_
         refine G_seq ?_
         refine G_region (l := [0, 1, 2, 3]) rfl ?_
         refine G_val rfl rfl rfl rfl (V_move rfl rfl) ?_
         refine G_val rfl rfl rfl rfl (V_fieldAddr (fo := 9) rfl Tryd.underlying52 rfl infTellJ_3 rfl rfl rfl) ?_
         refine G_val rfl rfl rfl rfl (V_load1 rfl rfl (mem_at 4 rfl) rfl Tryd.underlying3 rfl) ?_
         refine G_callC (L2 := [_, _]) rfl rfl rfl rfl rfl rfl Tryd.call46 rfl (tl_count b3 b4 _ x9 hu (by omega) [98] (by decide) b hb0 hb1 T0 r0) [0, 0] [1, 0] rfl rfl ?_
         rintro v post ⟨rfl, u1, hu1, rfl⟩
         show G _ _ _ [_, _, _, _] _
         have hxb10 := addN_bd x9 [98] b 9 hxb9 (by decide) hb0 hb1
         obtain ⟨x10, hx10⟩ : ∃ x, x = addN x9 [98] b := ⟨_, rfl⟩
         rw [← hx10] at hu1 hxb10 ⊢
         have hu := hu1
         clear hu1
         refine G_done ?_
         refine G_seq ?_
         refine GH_start (Lq := [_, _]) (isq := [3, 2]) (m := 8) mixedK rfl rfl ?_
         refine GH_take 0 rfl rfl rfl rfl (by kernel_rfl) (by kernel_rfl) (by kernel_rfl) (fun _ _ => (V_load1 rfl rfl (mem_at 2 rfl) rfl Tryd.underlying99 rfl)) ?_
         refine GH_take 1 rfl rfl rfl rfl (by kernel_rfl) (by kernel_rfl) (by kernel_rfl) (fun _ _ => (V_fieldAddr (fo := 10) rfl Tryd.underlying52 rfl infTellJ_9 rfl rfl rfl)) ?_
         refine GH_take 2 rfl rfl rfl rfl (by kernel_rfl) (by kernel_rfl) (by kernel_rfl) (fun _ _ => (V_load1 rfl rfl (mem_at 1 rfl) rfl Tryd.underlying9 rfl)) ?_
         refine GH_take 4 rfl rfl rfl rfl (by kernel_rfl) (by kernel_rfl) (by kernel_rfl) (fun _ _ => (V_fieldAddr (fo := 10) rfl Tryd.underlying52 rfl infTellJ_9 rfl rfl rfl)) ?_
         refine GH_take 5 rfl rfl rfl rfl (by kernel_rfl) (by kernel_rfl) (by kernel_rfl) (fun _ _ => (V_load1 rfl rfl (mem_at 1 rfl) rfl Tryd.underlying9 rfl)) ?_
         refine GH_take 6 rfl rfl rfl rfl (by kernel_rfl) (by kernel_rfl) (by kernel_rfl) (fun _ _ => (V_sneq rfl rfl rfl)) ?_
         refine GH_all [3] (by kernel_rfl) (by decide) ?_
         refine (And.intro ?_ trivial)
         · skip
           refine GHop_call (L2 := [_, _, _, _]) rfl rfl rfl rfl rfl rfl Tryd.call9 (tl_quote cmd (by omega)) [] [] rfl rfl [3, 2] (by rintro v post ⟨rfl, rfl⟩; exact ⟨_, rfl⟩) ?_
           rintro v post ⟨rfl, rfl⟩
           show GH _ _ _ _ _ _ _ [_, _, _, _] _
           refine GH_all [7] (by kernel_rfl) (by decide) ?_
           refine (And.intro ?_ trivial)
           · skip
             refine GHop_callC (L2 := [_, _]) rfl rfl rfl rfl rfl rfl Tryd.call45 rfl (tl_put b3 _ x10 hu (by first | omega | simp) [99, 111, 109, 109, 97, 110, 100] (quoteT cmd) (decide (¬ cmd = [])) (by decide) (by omega)) [0, 0] [] rfl rfl [3, 2] (by rintro v post ⟨rfl, u1, hu1, rfl⟩; exact ⟨_, rfl⟩) ?_
             rintro v post ⟨rfl, u1, hu1, rfl⟩
             show GH _ _ _ _ _ _ _ [_, _, _, _] _
             have hxb11 := addP_bd x10 [99, 111, 109, 109, 97, 110, 100] (quoteT cmd) (decide (¬ cmd = [])) 10 hxb10 (by show 7 + 1 + _ ≤ 450; omega)
             obtain ⟨x11, hx11⟩ : ∃ x, x = addP x10 [99, 111, 109, 109, 97, 110, 100] (quoteT cmd) (decide (¬ cmd = [])) := ⟨_, rfl⟩
             rw [← hx11] at hu1 hxb11 ⊢
             have hu := hu1
             clear hu1
             refine GH_done (by kernel_rfl) ?_
             refine G_seq ?_
             refine G_seq ?_
             refine G_region (l := [0, 1, 2, 3]) rfl ?_
             refine G_val rfl rfl rfl rfl (V_fieldAddr (fo := 11) rfl Tryd.underlying52 rfl infTellJ_38 rfl rfl rfl) ?_
             refine G_val rfl rfl rfl rfl (V_load1 rfl rfl (mem_at 4 rfl) rfl Tryd.underlying38 rfl) ?_
             refine G_val rfl rfl rfl rfl (V_len rfl rfl Tryd.underlying38 rfl) ?_
             refine G_val rfl rfl rfl rfl (V_move rfl rfl) ?_
             refine G_done ?_
             refine G_block ?_
             refine G_loop1 ?_
             refine G_seq ?_
             refine G_region (l := [0]) rfl ?_
             refine G_val rfl rfl rfl rfl (V_lss rfl rfl rfl) ?_
             refine G_done ?_
             refine G_seq ?_
             refine G_ifD rfl (fun hc1 => ?_) (fun hc1 => ?_)
             · (first | contradiction | (exact absurd rfl hc1) | (exfalso; omega) | (simp at hc1; done) | (exact absurd hc1 (by decide)) | (exact absurd (by decide) hc1))
             refine G_exit rfl ?_
             refine G_seq ?_
             refine G_seq ?_
             refine G_region (l := [0, 1, 2]) rfl ?_
             refine G_val rfl rfl rfl rfl (V_load1 rfl rfl (mem_at 1 rfl) rfl Tryd.underlying53 rfl) ?_
             refine G_val rfl rfl rfl rfl (V_len rfl rfl Tryd.underlying53 rfl) ?_
             refine G_val rfl rfl rfl rfl (V_eql rfl rfl rfl) ?_
             refine G_done ?_
             refine G_ifD rfl (fun hc2 => ?_) (fun hc2 => ?_)
             · skip
               refine G_seq ?_
               refine G_region (l := [0]) rfl ?_
               refine G_val rfl rfl rfl rfl (V_assign rfl rfl) ?_
               refine G_done ?_
               refine G_ret (post := []) Tryd.func19 rfl (RVs_cons (RV_tmp rfl) RVs_nil) [] rfl ?_
               dsimp only [packed]
               have hxx : x11 = partsR to_ cmd code op_ st ep att cl co a b := by subst hx1 hx2 hx3 hx4 hx5 hx6 hx7 hx8 hx9 hx10 hx11; rfl
               rw [← hxx]
               first
                 | exact ⟨str_eq (by unfold replyT; rw [if_pos (List.length_eq_zero_iff.1 (by omega))]), rfl⟩
                 | exact ⟨str_eq (by unfold replyT; rw [if_neg (fun h => by have hz : x11.length = 0 := congrArg List.length h; omega)]), rfl⟩
             refine G_skip ?_
             refine G_seq ?_
             refine G_region (l := [0, 1, 2]) rfl ?_
             refine G_val rfl rfl rfl rfl (V_load1 rfl rfl (mem_at 1 rfl) rfl Tryd.underlying53 rfl) ?_
             refine G_call (L2 := [_, _, _, _]) rfl rfl rfl rfl rfl rfl Tryd.call37 (st_join _ 0 _ _ _ _ x11 hu.sees 32 (by omega) (by omega)) [] [2] rfl rfl ?_
             rintro v post ⟨rfl, rfl⟩
             show G _ _ _ [_, _, _, _] _
             refine G_val rfl rfl rfl rfl (V_assign rfl rfl) ?_
             refine G_done ?_
             refine G_ret (post := []) Tryd.func19 rfl (RVs_cons (RV_tmp rfl) RVs_nil) [] rfl ?_
             dsimp only [packed]
             have hxx : x11 = partsR to_ cmd code op_ st ep att cl co a b := by subst hx1 hx2 hx3 hx4 hx5 hx6 hx7 hx8 hx9 hx10 hx11; rfl
             rw [← hxx]
             first
               | exact ⟨str_eq (by unfold replyT; rw [if_pos (List.length_eq_zero_iff.1 (by omega))]), rfl⟩
               | exact ⟨str_eq (by unfold replyT; rw [if_neg (fun h => by have hz : x11.length = 0 := congrArg List.length h; omega)]), rfl⟩

end
end Go.Proofs.YtkekkalgebgokaaDoor
