/- The walks of layer 25: the record with whose pieces a list begins; two lists of texts. -/
import Derived.Test.YtbblkgdejgoncaaDoorFrameX
set_option linter.unusedSimpArgs false
set_option linter.unusedVariables false
namespace Go.Proofs.YtbblkgdejgoncaaDoor
open Go Go.RowKit

section
theorem infFrameD_9 : Tryd.prog.info? 9 = some Tryd.t9 := by kernel_rfl


theorem first_at {ls : List (List UInt8)} (h : 0 < ls.length) : ls[0]? = some (firstF ls) := by
  match ls, h with
  | a :: r, _ => rfl
theorem dec_nil {ls : List (List UInt8)} (h : ls.length = 0) : decS ls = [] ∧ decM ls = 0 ∧ decE ls = 2 := by
  have e : decE ls = 2 := by unfold decE; rw [if_pos (List.length_eq_zero_iff.1 h)]
  exact ⟨by unfold decS; rw [if_neg (by omega)], by unfold decM; rw [if_neg (by omega)], e⟩
theorem dec_size {ls : List (List UInt8)} (h : 0 < ls.length) (h1 : ¬ sizeFE (firstF ls) = 0) : decS ls = [] ∧ decM ls = 0 ∧ decE ls = sizeFE (firstF ls) := by
  have e : decE ls = sizeFE (firstF ls) := by
    unfold decE; rw [if_neg (fun e => by rw [e] at h; cases h), if_pos h1]
  exact ⟨by unfold decS; rw [if_neg (by omega)], by unfold decM; rw [if_neg (by omega)], e⟩
theorem dec_short {ls : List (List UInt8)} (h : 0 < ls.length) (h1 : sizeFE (firstF ls) = 0) (h2 : ls.length < mF ls) : decS ls = [] ∧ decM ls = 0 ∧ decE ls = 2 := by
  have e : decE ls = 2 := by
    unfold decE; rw [if_neg (fun e => by rw [e] at h; cases h), if_neg (by omega), if_pos h2]
  exact ⟨by unfold decS; rw [if_neg (by omega)], by unfold decM; rw [if_neg (by omega)], e⟩
theorem dec_part {ls : List (List UInt8)} (h : 0 < ls.length) (h1 : sizeFE (firstF ls) = 0) (h2 : mF ls ≤ ls.length) (h3 : fullF ls = false) : decS ls = [] ∧ decM ls = 0 ∧ decE ls = 2 := by
  have e : decE ls = 2 := by
    unfold decE; rw [if_neg (fun e => by rw [e] at h; cases h), if_neg (by omega), if_neg (by omega), if_pos h3]
  exact ⟨by unfold decS; rw [if_neg (by omega)], by unfold decM; rw [if_neg (by omega)], e⟩
theorem dec_form {ls : List (List UInt8)} (h : 0 < ls.length) (h1 : sizeFE (firstF ls) = 0) (h2 : mF ls ≤ ls.length) (h3 : fullF ls = true) (h4 : ¬ allF ls = padF (recF ls)) : decS ls = [] ∧ decM ls = 0 ∧ decE ls = 3 := by
  have e : decE ls = 3 := by
    unfold decE; rw [if_neg (fun e => by rw [e] at h; cases h), if_neg (by omega), if_neg (by omega), if_neg (by simp [h3]), if_neg h4]
  exact ⟨by unfold decS; rw [if_neg (by omega)], by unfold decM; rw [if_neg (by omega)], e⟩
theorem dec_ok {ls : List (List UInt8)} (h : 0 < ls.length) (h1 : sizeFE (firstF ls) = 0) (h2 : mF ls ≤ ls.length) (h3 : fullF ls = true) (h4 : allF ls = padF (recF ls)) : decS ls = recF ls ∧ decM ls = mF ls ∧ decE ls = 0 := by
  have e : decE ls = 0 := by
    unfold decE; rw [if_neg (fun e => by rw [e] at h; cases h), if_neg (by omega), if_neg (by omega), if_neg (by simp [h3]), if_pos h4]
  exact ⟨by unfold decS; rw [if_pos e], by unfold decM; rw [if_pos e], e⟩
theorem rec_cut (ls : List (List UInt8)) : ((allF ls).take (6 + nF ls)).drop 6 = recF ls := by
  unfold recF; rw [List.drop_take]; congr 1; omega
theorem sum_cut (ls : List (List UInt8)) : ((allF ls).take 6).drop 2 = ((allF ls).drop 2).take 4 := by rw [List.drop_take]
theorem num_four (l : List UInt8) : num (l.take 4) < 4294967296 := by
  have h1 := num_lt (l.take 4)
  have : (256 : Nat) ^ (l.take 4).length ≤ 256 ^ 4 := Nat.pow_le_pow_right (by omega) (by simp; omega)
  omega
theorem take_at {α : Type} {l : List α} {i m : Nat} {x : α} (h : l[i]? = some x) (hi : i < m) : (l.take m)[i]? = some x := by rw [List.getElem?_take, if_pos hi]; exact h
theorem mF_le (ls : List (List UInt8)) : mF ls ≤ 21 := by
  have h := sizeF_le (firstF ls)
  have e : mF ls = manyN (sizeF (firstF ls)) := rfl
  rw [e]; unfold manyN; omega
theorem Sees.cut {ob : Option Nat} {off cap : Nat} {cs : Array Value} {ls : List (List UInt8)} (h : Sees 1 ob off cap cs (ls.map strC) ls.length) {m : Nat} (hm : m ≤ ls.length) : Sees 1 ob off cap cs ((ls.take m).map strC) (ls.take m).length := by
  refine ⟨by simp, by have := h.le; simp; omega, h.max, ?_, h.isNil⟩
  have h1 := congrArg (List.take m) h.part
  rw [List.take_take] at h1
  rw [List.map_take, ← h1, List.length_take]
  congr 1
  omega
/-- The pieces are those of the record just if all the bytes are its own. -/
theorem pieces_all {ls : List (List UInt8)} (h2 : mF ls ≤ ls.length) (h3 : fullF ls = true) : piecesF (recF ls) = ls.take (mF ls) ↔ allF ls = padF (recF ls) := by
  have h4 := recF_len h3 h2
  have h5 := allF_len h3 h2
  have h6 := fullF_all h3
  have hl : (ls.take (mF ls)).length = mF ls := by rw [List.length_take]; omega
  have e1 : chunks (mF ls) (allF ls) = ls.take (mF ls) := by
    have := chunks_flat _ h6
    rw [hl] at this
    exact this
  have e2 : piecesF (recF ls) = chunks (mF ls) (padF (recF ls)) := by unfold piecesF; rw [h4]; rfl
  rw [e2]
  constructor
  · intro e
    have h7 := padF_len (recF ls)
    rw [h4] at h7
    have := congrArg List.flatten e
    rw [flat_chunks (mF ls) _ h7] at this
    exact this.symm
  · intro e; rw [← e, e1]
theorem enc_rec {ls : List (List UInt8)} (h2 : mF ls ≤ ls.length) (h3 : fullF ls = true) : encF (recF ls) = piecesF (recF ls) ∧ (piecesF (recF ls)).length = mF ls := by
  have h4 := recF_len h3 h2
  have h5 := sizeF_le (firstF ls)
  have h6 : nF ls = sizeF (firstF ls) := rfl
  refine ⟨(encF_yes (by omega)).1, ?_⟩
  rw [piecesF_len, h4]; rfl

set_option maxRecDepth 100000 in
set_option maxHeartbeats 1000000 in
theorem fr_decode (o1 : Option Nat) (p1 q1 : Nat) (c1 : Array Value) (T1 : TypeId) (f1 : Nat × Nat) (ls : List (List UInt8)) (hs : Sees 1 o1 p1 q1 c1 (ls.map strC) ls.length) (hl : ∀ x ∈ ls, x.length ≤ 9223372036854775807) :
    Ct Tryd.prog 14 [sv o1 p1 ls.length q1] [(o1, .cells c1 T1 f1)] [] fun v post => v = .tuple #[.string (bs (decS ls)), .int .i64 (decM ls : Int), .int .i64 (decE ls)] ∧ post = [] := by
 have hk1 := hs.le
 have hk2 := hs.max
 have hmm : mF ls = manyN (nF ls) := rfl
 have hn1 : nF ls ≤ 1000 := sizeF_le _
 have hroom := manyN_room (nF ls)
 have hm21 := mF_le ls
 refine ct_of Tryd.func14 rfl rfl (fun w0 => ?_)
 show G _ _ [(0, _)] _ _
 refine G_seq ?_
 refine G_region (l := [0, 1, 2]) rfl ?_
 refine G_val rfl rfl rfl rfl (V_assign rfl rfl) ?_
 refine G_val rfl rfl rfl rfl (V_assign rfl rfl) ?_
 refine G_val rfl rfl rfl rfl (V_assign rfl rfl) ?_
 refine G_done ?_
 refine G_seq ?_
 refine G_seq ?_
 refine G_region (l := [0, 1, 2]) rfl ?_
 refine G_val rfl rfl rfl rfl (V_move rfl rfl) ?_
 refine G_val rfl rfl rfl rfl (V_len rfl rfl Tryd.underlying24 rfl) ?_
 refine G_val rfl rfl rfl rfl (V_eql rfl rfl rfl) ?_
 refine G_done ?_
 refine G_ifD rfl (fun hc1 => ?_) (fun hc1 => ?_)
 · skip
   refine G_seq ?_
   refine G_region (l := [0, 1, 2]) rfl ?_
   refine G_val rfl rfl rfl rfl (V_assign rfl rfl) ?_
   refine G_val rfl rfl rfl rfl (V_assign rfl rfl) ?_
   refine G_val rfl rfl rfl rfl (V_assign rfl rfl) ?_
   refine G_done ?_
   refine G_ret (post := []) Tryd.func14 rfl (RVs_cons (RV_tmp rfl) (RVs_cons (RV_tmp rfl) (RVs_cons (RV_tmp rfl) RVs_nil))) [] rfl ?_
   dsimp only [packed]
   first
     | (suffices hz : ls.length = 0 by (obtain ⟨e1, e2, e3⟩ := dec_nil hz; rw [e1, e2, e3]; exact ⟨rfl, rfl⟩)
        omega)
     | (suffices hz : ¬ sizeFE (firstF ls) = 0 by (obtain ⟨e1, e2, e3⟩ := dec_size (ls := ls) (by omega) hz; rw [e1, e2, e3]; exact ⟨rfl, rfl⟩)
        omega)
     | (suffices hz : sizeFE (firstF ls) = 0 ∧ 0 < ls.length ∧ ls.length < mF ls by (obtain ⟨e1, e2, e3⟩ := dec_short hz.2.1 hz.1 hz.2.2; rw [e1, e2, e3]; exact ⟨rfl, rfl⟩)
        omega)
     | (suffices hz : sizeFE (firstF ls) = 0 ∧ 0 < ls.length ∧ mF ls ≤ ls.length ∧ ¬ s.length = 48 by (obtain ⟨e1, e2, e3⟩ := dec_part hz.2.1 hz.1 hz.2.2.1 (all_not (take_at hx (by omega)) (decide_eq_false hz.2.2.2)); rw [e1, e2, e3]; exact ⟨rfl, rfl⟩)
        omega)
     | (suffices hz : ¬ num (((allF ls).drop 2).take 4) = crcN ((allF ls).take 2 ++ recF ls) by (obtain ⟨e1, e2, e3⟩ := dec_form (ls := ls) (by omega) hse (by omega) hfu (fun e => hz (hpc.1 e).1); rw [e1, e2, e3]; exact ⟨rfl, rfl⟩)
        omega)
     | (suffices hz : ¬ trimL (trimR ((allF ls).drop (6 + nF ls))) = [] by (obtain ⟨e1, e2, e3⟩ := dec_form (ls := ls) (by omega) hse (by omega) hfu (fun e => hz ((trim_nil _).2 (hpc.1 e).2)); rw [e1, e2, e3]; exact ⟨rfl, rfl⟩)
        assumption)
     | (suffices hz : num (((allF ls).drop 2).take 4) = crcN ((allF ls).take 2 ++ recF ls) ∧ trimL (trimR ((allF ls).drop (6 + nF ls))) = [] by (obtain ⟨e1, e2, e3⟩ := dec_ok (ls := ls) (by omega) hse (by omega) hfu (hpc.2 ⟨hz.1, (trim_nil _).1 hz.2⟩); rw [e1, e2, e3]; exact ⟨rfl, rfl⟩)
        exact ⟨by omega, Classical.not_not.1 (by assumption)⟩)
 refine G_skip ?_
 refine G_seq ?_
 have hx0 := first_at (show 0 < ls.length by omega)
 have hl0 := hl _ (List.mem_of_getElem? hx0)
 obtain ⟨b1, rfl⟩ := hs.isSome (by omega)
 refine G_region (l := [0, 1, 2, 3, 4, 5, 6, 7, 8]) rfl ?_
 refine G_val rfl rfl rfl rfl (V_move rfl rfl) ?_
 first
   | refine G_val rfl rfl rfl rfl (V_indexAddrN (s := 1) rfl Tryd.underlying24 infFrameD_9 rfl rfl rfl rfl (by omega)) ?_
   | refine G_val rfl rfl rfl rfl (V_indexAddr (s := 1) rfl Tryd.underlying24 infFrameD_9 rfl rfl rfl (by omega) (by first | omega | (simp; done) | (simp; omega) | (simp at *; omega))) ?_
 refine G_val rfl rfl rfl rfl (V_load1 rfl rfl (mem_at 0 rfl) (nth_of (hs.cell hx0)) Tryd.underlying9 rfl) ?_
 refine G_call (L2 := []) rfl rfl rfl rfl rfl rfl Tryd.call56 (fr_size (firstF ls) hl0) [] [] rfl rfl ?_
 rintro v post ⟨rfl, rfl⟩
 rw [show sizeF (firstF ls) = nF ls from rfl]
 refine G_val rfl rfl rfl rfl (V_move rfl rfl) ?_
 refine G_val rfl rfl rfl rfl (V_extract rfl rfl rfl) ?_
 refine G_val rfl rfl rfl rfl (V_extract rfl rfl rfl) ?_
 refine G_val rfl rfl rfl rfl (V_assign rfl rfl) ?_
 refine G_val rfl rfl rfl rfl (V_assign rfl rfl) ?_
 refine G_done ?_
 refine G_seq ?_
 refine G_seq ?_
 refine G_region (l := [0, 1]) rfl ?_
 refine G_val rfl rfl rfl rfl (V_move rfl rfl) ?_
 refine G_val rfl rfl rfl rfl (V_neq rfl rfl rfl) ?_
 refine G_done ?_
 refine G_ifD rfl (fun hc2 => ?_) (fun hc2 => ?_)
 · skip
   refine G_seq ?_
   refine G_region (l := [0, 1, 2, 3]) rfl ?_
   refine G_val rfl rfl rfl rfl (V_move rfl rfl) ?_
   refine G_val rfl rfl rfl rfl (V_assign rfl rfl) ?_
   refine G_val rfl rfl rfl rfl (V_assign rfl rfl) ?_
   refine G_val rfl rfl rfl rfl (V_assign rfl rfl) ?_
   refine G_done ?_
   refine G_ret (post := []) Tryd.func14 rfl (RVs_cons (RV_tmp rfl) (RVs_cons (RV_tmp rfl) (RVs_cons (RV_tmp rfl) RVs_nil))) [] rfl ?_
   dsimp only [packed]
   first
     | (suffices hz : ls.length = 0 by (obtain ⟨e1, e2, e3⟩ := dec_nil hz; rw [e1, e2, e3]; exact ⟨rfl, rfl⟩)
        omega)
     | (suffices hz : ¬ sizeFE (firstF ls) = 0 by (obtain ⟨e1, e2, e3⟩ := dec_size (ls := ls) (by omega) hz; rw [e1, e2, e3]; exact ⟨rfl, rfl⟩)
        omega)
     | (suffices hz : sizeFE (firstF ls) = 0 ∧ 0 < ls.length ∧ ls.length < mF ls by (obtain ⟨e1, e2, e3⟩ := dec_short hz.2.1 hz.1 hz.2.2; rw [e1, e2, e3]; exact ⟨rfl, rfl⟩)
        omega)
     | (suffices hz : sizeFE (firstF ls) = 0 ∧ 0 < ls.length ∧ mF ls ≤ ls.length ∧ ¬ s.length = 48 by (obtain ⟨e1, e2, e3⟩ := dec_part hz.2.1 hz.1 hz.2.2.1 (all_not (take_at hx (by omega)) (decide_eq_false hz.2.2.2)); rw [e1, e2, e3]; exact ⟨rfl, rfl⟩)
        omega)
     | (suffices hz : ¬ num (((allF ls).drop 2).take 4) = crcN ((allF ls).take 2 ++ recF ls) by (obtain ⟨e1, e2, e3⟩ := dec_form (ls := ls) (by omega) hse (by omega) hfu (fun e => hz (hpc.1 e).1); rw [e1, e2, e3]; exact ⟨rfl, rfl⟩)
        omega)
     | (suffices hz : ¬ trimL (trimR ((allF ls).drop (6 + nF ls))) = [] by (obtain ⟨e1, e2, e3⟩ := dec_form (ls := ls) (by omega) hse (by omega) hfu (fun e => hz ((trim_nil _).2 (hpc.1 e).2)); rw [e1, e2, e3]; exact ⟨rfl, rfl⟩)
        assumption)
     | (suffices hz : num (((allF ls).drop 2).take 4) = crcN ((allF ls).take 2 ++ recF ls) ∧ trimL (trimR ((allF ls).drop (6 + nF ls))) = [] by (obtain ⟨e1, e2, e3⟩ := dec_ok (ls := ls) (by omega) hse (by omega) hfu (hpc.2 ⟨hz.1, (trim_nil _).1 hz.2⟩); rw [e1, e2, e3]; exact ⟨rfl, rfl⟩)
        exact ⟨by omega, Classical.not_not.1 (by assumption)⟩)
 refine G_skip ?_
 refine G_seq ?_
 refine G_region (l := [0, 1, 2]) rfl ?_
 refine G_val rfl rfl rfl rfl (V_move rfl rfl) ?_
 refine G_call (L2 := []) rfl rfl rfl rfl rfl rfl Tryd.call55 (fr_many _ (by omega)) [] [] rfl rfl ?_
 rintro v post ⟨rfl, rfl⟩
 rw [show manyN (nF ls) = mF ls from rfl]
 refine G_val rfl rfl rfl rfl (V_assign rfl rfl) ?_
 refine G_done ?_
 refine G_seq ?_
 refine G_seq ?_
 refine G_region (l := [0, 1, 2, 3]) rfl ?_
 refine G_val rfl rfl rfl rfl (V_move rfl rfl) ?_
 refine G_val rfl rfl rfl rfl (V_len rfl rfl Tryd.underlying24 rfl) ?_
 refine G_val rfl rfl rfl rfl (V_move rfl rfl) ?_
 refine G_val rfl rfl rfl rfl (V_lss rfl rfl rfl) ?_
 refine G_done ?_
 refine G_ifD rfl (fun hc3 => ?_) (fun hc3 => ?_)
 · skip
   refine G_seq ?_
   refine G_region (l := [0, 1, 2]) rfl ?_
   refine G_val rfl rfl rfl rfl (V_assign rfl rfl) ?_
   refine G_val rfl rfl rfl rfl (V_assign rfl rfl) ?_
   refine G_val rfl rfl rfl rfl (V_assign rfl rfl) ?_
   refine G_done ?_
   refine G_ret (post := []) Tryd.func14 rfl (RVs_cons (RV_tmp rfl) (RVs_cons (RV_tmp rfl) (RVs_cons (RV_tmp rfl) RVs_nil))) [] rfl ?_
   dsimp only [packed]
   first
     | (suffices hz : ls.length = 0 by (obtain ⟨e1, e2, e3⟩ := dec_nil hz; rw [e1, e2, e3]; exact ⟨rfl, rfl⟩)
        omega)
     | (suffices hz : ¬ sizeFE (firstF ls) = 0 by (obtain ⟨e1, e2, e3⟩ := dec_size (ls := ls) (by omega) hz; rw [e1, e2, e3]; exact ⟨rfl, rfl⟩)
        omega)
     | (suffices hz : sizeFE (firstF ls) = 0 ∧ 0 < ls.length ∧ ls.length < mF ls by (obtain ⟨e1, e2, e3⟩ := dec_short hz.2.1 hz.1 hz.2.2; rw [e1, e2, e3]; exact ⟨rfl, rfl⟩)
        omega)
     | (suffices hz : sizeFE (firstF ls) = 0 ∧ 0 < ls.length ∧ mF ls ≤ ls.length ∧ ¬ s.length = 48 by (obtain ⟨e1, e2, e3⟩ := dec_part hz.2.1 hz.1 hz.2.2.1 (all_not (take_at hx (by omega)) (decide_eq_false hz.2.2.2)); rw [e1, e2, e3]; exact ⟨rfl, rfl⟩)
        omega)
     | (suffices hz : ¬ num (((allF ls).drop 2).take 4) = crcN ((allF ls).take 2 ++ recF ls) by (obtain ⟨e1, e2, e3⟩ := dec_form (ls := ls) (by omega) hse (by omega) hfu (fun e => hz (hpc.1 e).1); rw [e1, e2, e3]; exact ⟨rfl, rfl⟩)
        omega)
     | (suffices hz : ¬ trimL (trimR ((allF ls).drop (6 + nF ls))) = [] by (obtain ⟨e1, e2, e3⟩ := dec_form (ls := ls) (by omega) hse (by omega) hfu (fun e => hz ((trim_nil _).2 (hpc.1 e).2)); rw [e1, e2, e3]; exact ⟨rfl, rfl⟩)
        assumption)
     | (suffices hz : num (((allF ls).drop 2).take 4) = crcN ((allF ls).take 2 ++ recF ls) ∧ trimL (trimR ((allF ls).drop (6 + nF ls))) = [] by (obtain ⟨e1, e2, e3⟩ := dec_ok (ls := ls) (by omega) hse (by omega) hfu (hpc.2 ⟨hz.1, (trim_nil _).1 hz.2⟩); rw [e1, e2, e3]; exact ⟨rfl, rfl⟩)
        exact ⟨by omega, Classical.not_not.1 (by assumption)⟩)
 refine G_skip ?_
 refine G_seq ?_
 refine G_seq ?_
 refine G_region (l := [0, 1, 2, 3, 4]) rfl ?_
 refine G_val rfl rfl rfl rfl (V_move rfl rfl) ?_
 refine G_val rfl rfl rfl rfl (V_move rfl rfl) ?_
 refine G_val rfl rfl rfl rfl (V_sliceH rfl Tryd.underlying24 infFrameD_9 rfl rfl rfl (by first | omega | (simp; done) | (simp; omega) | (simp at *; omega))) ?_
 refine G_val rfl rfl rfl rfl (V_len rfl rfl Tryd.underlying24 rfl) ?_
 refine G_val rfl rfl rfl rfl (V_move rfl rfl) ?_
 refine G_done ?_
 refine G_block ?_
 refine G_sub ?he10 [] ?hl10 (G_loop (X := Nat) (fun i => i ≤ mF ls ∧ ((ls.take (mF ls)).take i).all (fun x => decide (x.length = 48)) = true) (fun i => mF ls - i) (fun i => [(0, sv (some b1) p1 ls.length q1), (5, .int .i64 (nF ls : Int)), (7, .int .i64 (mF ls : Int)), (36, .slice (some ⟨b1, p1, none⟩) (mF ls) q1), (37, .int .i64 (mF ls : Int)), (38, .int .i64 (i : Int))]) (fun i => []) ?round10 0 ?h010)
 case he10 => exact (And.intro rfl (And.intro rfl (And.intro rfl (And.intro rfl (And.intro rfl (And.intro rfl trivial))))))
 case hl10 => exact ⟨_, rfl⟩
 case h010 => exact ⟨Nat.zero_le _, rfl⟩
 case round10 =>
  intro i hJ ih
  try dsimp only at hJ ih
  obtain ⟨hi, ht⟩ := hJ
  refine G_seq ?_
  refine G_region (l := [0]) rfl ?_
  refine G_val rfl rfl rfl rfl (V_lss rfl rfl rfl) ?_
  refine G_done ?_
  refine G_seq ?_
  refine G_ifD rfl (fun hc4 => ?_) (fun hc4 => ?_)
  · skip
    refine G_skip ?_
    refine G_seq ?_
    refine G_block ?_
    refine G_seq ?_
    obtain ⟨s, hx⟩ := getI (show i < ls.length by omega)
    have hls := hl _ (List.mem_of_getElem? hx)
    refine G_region (l := [0, 1, 2]) rfl ?_
    first
      | refine G_val rfl rfl rfl rfl (V_indexAddrN (s := 1) rfl Tryd.underlying24 infFrameD_9 rfl rfl rfl rfl (by omega)) ?_
      | refine G_val rfl rfl rfl rfl (V_indexAddr (s := 1) rfl Tryd.underlying24 infFrameD_9 rfl rfl rfl (by omega) (by first | omega | (simp; done) | (simp; omega) | (simp at *; omega))) ?_
    refine G_val rfl rfl rfl rfl (V_load1 rfl rfl (mem_at 0 rfl) (nth_of (hs.cell hx)) Tryd.underlying9 rfl) ?_
    refine G_val rfl rfl rfl rfl (V_assign rfl rfl) ?_
    refine G_done ?_
    refine G_seq ?_
    refine G_region (l := [0, 1, 2]) rfl ?_
    refine G_val rfl rfl rfl rfl (V_move rfl rfl) ?_
    refine G_val rfl rfl rfl rfl (V_slen rfl rfl Tryd.underlying9 rfl) ?_
    refine G_val rfl rfl rfl rfl (V_neq rfl rfl rfl) ?_
    refine G_done ?_
    refine G_ifD rfl (fun hc5 => ?_) (fun hc5 => ?_)
    · skip
      refine G_seq ?_
      refine G_region (l := [0, 1, 2]) rfl ?_
      refine G_val rfl rfl rfl rfl (V_assign rfl rfl) ?_
      refine G_val rfl rfl rfl rfl (V_assign rfl rfl) ?_
      refine G_val rfl rfl rfl rfl (V_assign rfl rfl) ?_
      refine G_done ?_
      refine G_ret (post := []) Tryd.func14 rfl (RVs_cons (RV_tmp rfl) (RVs_cons (RV_tmp rfl) (RVs_cons (RV_tmp rfl) RVs_nil))) [] rfl ?_
      dsimp only [packed]
      first
        | (suffices hz : ls.length = 0 by (obtain ⟨e1, e2, e3⟩ := dec_nil hz; rw [e1, e2, e3]; exact ⟨rfl, rfl⟩)
           omega)
        | (suffices hz : ¬ sizeFE (firstF ls) = 0 by (obtain ⟨e1, e2, e3⟩ := dec_size (ls := ls) (by omega) hz; rw [e1, e2, e3]; exact ⟨rfl, rfl⟩)
           omega)
        | (suffices hz : sizeFE (firstF ls) = 0 ∧ 0 < ls.length ∧ ls.length < mF ls by (obtain ⟨e1, e2, e3⟩ := dec_short hz.2.1 hz.1 hz.2.2; rw [e1, e2, e3]; exact ⟨rfl, rfl⟩)
           omega)
        | (suffices hz : sizeFE (firstF ls) = 0 ∧ 0 < ls.length ∧ mF ls ≤ ls.length ∧ ¬ s.length = 48 by (obtain ⟨e1, e2, e3⟩ := dec_part hz.2.1 hz.1 hz.2.2.1 (all_not (take_at hx (by omega)) (decide_eq_false hz.2.2.2)); rw [e1, e2, e3]; exact ⟨rfl, rfl⟩)
           omega)
        | (suffices hz : ¬ num (((allF ls).drop 2).take 4) = crcN ((allF ls).take 2 ++ recF ls) by (obtain ⟨e1, e2, e3⟩ := dec_form (ls := ls) (by omega) hse (by omega) hfu (fun e => hz (hpc.1 e).1); rw [e1, e2, e3]; exact ⟨rfl, rfl⟩)
           omega)
        | (suffices hz : ¬ trimL (trimR ((allF ls).drop (6 + nF ls))) = [] by (obtain ⟨e1, e2, e3⟩ := dec_form (ls := ls) (by omega) hse (by omega) hfu (fun e => hz ((trim_nil _).2 (hpc.1 e).2)); rw [e1, e2, e3]; exact ⟨rfl, rfl⟩)
           assumption)
        | (suffices hz : num (((allF ls).drop 2).take 4) = crcN ((allF ls).take 2 ++ recF ls) ∧ trimL (trimR ((allF ls).drop (6 + nF ls))) = [] by (obtain ⟨e1, e2, e3⟩ := dec_ok (ls := ls) (by omega) hse (by omega) hfu (hpc.2 ⟨hz.1, (trim_nil _).1 hz.2⟩); rw [e1, e2, e3]; exact ⟨rfl, rfl⟩)
           exact ⟨by omega, Classical.not_not.1 (by assumption)⟩)
    refine G_skip ?_
    refine G_inBlock ?_
    refine G_region (l := [0, 1]) rfl ?_
    first
      | refine G_val rfl rfl rfl rfl ((V_add rfl rfl rfl).int (wrap_i64 (by omega))) ?_
      | refine G_val rfl rfl rfl rfl (V_add rfl rfl rfl) ?_
    refine G_val rfl rfl rfl rfl (V_move rfl rfl) ?_
    refine G_done ?_
    refine G_sub ?_ [] ?_ (ih (i + 1) ?_ ?_)
    · (refine (And.intro ?_ (And.intro ?_ (And.intro ?_ (And.intro ?_ (And.intro ?_ (And.intro ?_ trivial)))))) <;> first | rfl | exact slot_int (by omega) | exact slot_int (by simp))
    · exact ⟨_, rfl⟩
    · exact ⟨by omega, all_next ht (take_at hx (by omega)) (decide_eq_true (by omega))⟩
    · (first | omega | (dsimp only; omega))
  refine G_exit rfl ?_
  refine G_seq ?_
  obtain rfl : i = mF ls := by omega
  have hfu : fullF ls = true := all_end ht (by rw [List.length_take]; omega)
  have hal := allF_len hfu (by omega)
  have hrl := recF_len hfu (by omega)
  have hse : sizeFE (firstF ls) = 0 := by omega
  refine G_region (l := [0, 1, 2, 3, 4]) rfl ?_
  refine G_val rfl rfl rfl rfl (V_move rfl rfl) ?_
  refine G_val rfl rfl rfl rfl (V_move rfl rfl) ?_
  refine G_val rfl rfl rfl rfl (V_sliceH rfl Tryd.underlying24 infFrameD_9 rfl rfl rfl (by first | omega | (simp; done) | (simp; omega) | (simp at *; omega))) ?_
  refine G_call (L2 := []) rfl rfl rfl rfl rfl rfl Tryd.call57 (str_join (some b1) p1 q1 c1 T1 f1 (ls.take (mF ls)) (mF ls) (by rw [List.length_take]; omega) (hs.cut (by omega)) (by rw [show (ls.take (mF ls)).flatten = allF ls from rfl]; omega) (by rw [show (ls.take (mF ls)).flatten = allF ls from rfl]; omega)) [] [0] rfl rfl ?_
  rintro v post ⟨rfl, rfl⟩
  rw [show (ls.take (mF ls)).flatten = allF ls from rfl]
  refine G_val rfl rfl rfl rfl (V_assign rfl rfl) ?_
  refine G_done ?_
  refine G_seq ?_
  refine G_draw mixedK (by kernel_rfl) ?_
  refine GQ_val rfl rfl rfl rfl (V_move rfl rfl) ?_
  refine GQ_val rfl rfl rfl rfl (V_move rfl rfl) ?_
  refine GQ_val rfl rfl rfl rfl (Val.int (e' := ((6 + nF ls : Nat) : Int)) (V_add rfl rfl rfl) (add6 _ (by omega))) ?_
  first
    | refine GQ_val rfl rfl rfl rfl (V_ssliceN (lo := 6) (hi := _) rfl Tryd.underlying9 rfl rfl rfl rfl rfl (by first | omega | (simp; done) | (simp; omega) | (simp at *; omega)) (by first | omega | (simp; done) | (simp; omega) | (simp at *; omega))) ?_
    | refine GQ_val rfl rfl rfl rfl (V_sslice rfl Tryd.underlying9 rfl rfl rfl (by first | omega | (simp; done) | (simp; omega) | (simp at *; omega)) (by first | omega | (simp; done) | (simp; omega) | (simp at *; omega)) (by first | omega | (simp; done) | (simp; omega) | (simp at *; omega))) ?_
  refine GQ_val rfl rfl rfl rfl (V_move rfl rfl) ?_
  refine GQ_val rfl rfl rfl rfl (V_move rfl rfl) ?_
  refine GQ_val rfl rfl rfl rfl (Val.int (e' := ((6 + nF ls : Nat) : Int)) (V_add rfl rfl rfl) (add6 _ (by omega))) ?_
  first
    | refine GQ_val rfl rfl rfl rfl (V_ssliceLN (lo := _) rfl Tryd.underlying9 rfl rfl rfl (by first | omega | (simp; done) | (simp; omega) | (simp at *; omega))) ?_
    | refine GQ_val rfl rfl rfl rfl (V_ssliceL rfl Tryd.underlying9 rfl rfl (by first | omega | (simp; done) | (simp; omega) | (simp at *; omega)) (by first | omega | (simp; done) | (simp; omega) | (simp at *; omega))) ?_
  refine GQ_val rfl rfl rfl rfl (V_assign rfl rfl) ?_
  refine GQ_val rfl rfl rfl rfl (V_assign rfl rfl) ?_
  refine GQ_done rfl ?_
  refine G_seq ?_
  rw [rec_cut]
  refine G_region (l := [0, 1, 2, 3, 4, 5, 6, 7]) rfl ?_
  refine G_val rfl rfl rfl rfl (V_move rfl rfl) ?_
  first
    | refine G_val rfl rfl rfl rfl (V_ssliceN (lo := 2) (hi := 6) rfl Tryd.underlying9 rfl rfl rfl rfl rfl (by first | omega | (simp; done) | (simp; omega) | (simp at *; omega)) (by first | omega | (simp; done) | (simp; omega) | (simp at *; omega))) ?_
    | refine G_val rfl rfl rfl rfl (V_sslice rfl Tryd.underlying9 rfl rfl rfl (by first | omega | (simp; done) | (simp; omega) | (simp at *; omega)) (by first | omega | (simp; done) | (simp; omega) | (simp at *; omega)) (by first | omega | (simp; done) | (simp; omega) | (simp at *; omega))) ?_
  rw [sum_cut]
  refine G_call (L2 := []) rfl rfl rfl rfl rfl rfl Tryd.call58 (ct_number (((allF ls).drop 2).take 4) (by simp; omega) (by simp; omega)) [] [] rfl rfl ?_
  rintro v post ⟨rfl, rfl⟩
  refine G_val rfl rfl rfl rfl (V_move rfl rfl) ?_
  refine G_val rfl rfl rfl rfl (V_extract rfl rfl rfl) ?_
  refine G_val rfl rfl rfl rfl (V_extract rfl rfl rfl) ?_
  refine G_val rfl rfl rfl rfl (V_assign rfl rfl) ?_
  refine G_val rfl rfl rfl rfl (V_assign rfl rfl) ?_
  refine G_done ?_
  refine G_seq ?_
  refine G_seq ?_
  have hn4 := num_four ((allF ls).drop 2)
  have hpc := pad_cases hfu (by omega) hse (fun e => by rw [e] at hx0; cases hx0)
  refine G_region (l := [0, 1, 2, 3, 4, 5, 6, 7, 8, 9, 10, 11, 12]) rfl ?_
  refine G_val rfl rfl rfl rfl (V_move rfl rfl) ?_
  first
    | refine G_val rfl rfl rfl rfl ((V_conv rfl rfl Tryd.underlying103 Tryd.underlying22).int (wrap_u32 (by omega))) ?_
    | refine G_val rfl rfl rfl rfl (V_conv rfl rfl Tryd.underlying103 Tryd.underlying22) ?_
  refine G_val rfl rfl rfl rfl (V_move rfl rfl) ?_
  first
    | refine G_val rfl rfl rfl rfl (V_ssliceHN (hi := 2) rfl Tryd.underlying9 rfl rfl rfl (by first | omega | (simp; done) | (simp; omega) | (simp at *; omega))) ?_
    | refine G_val rfl rfl rfl rfl (V_ssliceH rfl Tryd.underlying9 rfl rfl (by first | omega | (simp; done) | (simp; omega) | (simp at *; omega)) (by first | omega | (simp; done) | (simp; omega) | (simp at *; omega))) ?_
  refine G_val rfl rfl rfl rfl (V_move rfl rfl) ?_
  refine G_new rfl rfl rfl rfl (N_buildAll (s := 1) (cs := [_, _]) rfl Tryd.underlying24 infFrameD_9 rfl rfl rfl rfl rfl rfl rfl rfl rfl) (fun b69 => ?_)
  refine G_call (L2 := [_]) rfl rfl rfl rfl rfl rfl Tryd.call59 (sum_of (some b69) 0 2 _ _ _ [(allF ls).take 2, recF ls] (sees_strs b69 2 [(allF ls).take 2, recF ls] rfl (by omega)) (by intro x hx; simp only [List.mem_cons, List.not_mem_nil, or_false] at hx; rcases hx with rfl | rfl <;> first | omega | (simp; omega))) [] [1] rfl rfl ?_
  rintro v post ⟨rfl, rfl⟩
  show G _ _ _ [_] _
  rw [crcW_two]
  refine G_val rfl rfl rfl rfl (V_neq rfl rfl rfl) ?_
  refine G_val rfl rfl rfl rfl (V_move rfl rfl) ?_
  refine G_splitD 72 rfl (fun hc5 => ?_) (fun hc5 => ?_)
  · skip
    refine G_off rfl rfl rfl rfl ?_
    refine G_off rfl rfl rfl rfl ?_
    refine G_off rfl rfl rfl rfl ?_
    refine G_val rfl rfl rfl rfl (V_pickT rfl rfl rfl) ?_
    refine G_done ?_
    refine G_then rfl ?_
    refine G_seq ?_
    refine G_region (l := [0, 1, 2]) rfl ?_
    refine G_val rfl rfl rfl rfl (V_assign rfl rfl) ?_
    refine G_val rfl rfl rfl rfl (V_assign rfl rfl) ?_
    refine G_val rfl rfl rfl rfl (V_assign rfl rfl) ?_
    refine G_done ?_
    refine G_ret (post := []) Tryd.func14 rfl (RVs_cons (RV_tmp rfl) (RVs_cons (RV_tmp rfl) (RVs_cons (RV_tmp rfl) RVs_nil))) [] rfl ?_
    dsimp only [packed]
    first
      | (suffices hz : ls.length = 0 by (obtain ⟨e1, e2, e3⟩ := dec_nil hz; rw [e1, e2, e3]; exact ⟨rfl, rfl⟩)
         omega)
      | (suffices hz : ¬ sizeFE (firstF ls) = 0 by (obtain ⟨e1, e2, e3⟩ := dec_size (ls := ls) (by omega) hz; rw [e1, e2, e3]; exact ⟨rfl, rfl⟩)
         omega)
      | (suffices hz : sizeFE (firstF ls) = 0 ∧ 0 < ls.length ∧ ls.length < mF ls by (obtain ⟨e1, e2, e3⟩ := dec_short hz.2.1 hz.1 hz.2.2; rw [e1, e2, e3]; exact ⟨rfl, rfl⟩)
         omega)
      | (suffices hz : sizeFE (firstF ls) = 0 ∧ 0 < ls.length ∧ mF ls ≤ ls.length ∧ ¬ s.length = 48 by (obtain ⟨e1, e2, e3⟩ := dec_part hz.2.1 hz.1 hz.2.2.1 (all_not (take_at hx (by omega)) (decide_eq_false hz.2.2.2)); rw [e1, e2, e3]; exact ⟨rfl, rfl⟩)
         omega)
      | (suffices hz : ¬ num (((allF ls).drop 2).take 4) = crcN ((allF ls).take 2 ++ recF ls) by (obtain ⟨e1, e2, e3⟩ := dec_form (ls := ls) (by omega) hse (by omega) hfu (fun e => hz (hpc.1 e).1); rw [e1, e2, e3]; exact ⟨rfl, rfl⟩)
         omega)
      | (suffices hz : ¬ trimL (trimR ((allF ls).drop (6 + nF ls))) = [] by (obtain ⟨e1, e2, e3⟩ := dec_form (ls := ls) (by omega) hse (by omega) hfu (fun e => hz ((trim_nil _).2 (hpc.1 e).2)); rw [e1, e2, e3]; exact ⟨rfl, rfl⟩)
         assumption)
      | (suffices hz : num (((allF ls).drop 2).take 4) = crcN ((allF ls).take 2 ++ recF ls) ∧ trimL (trimR ((allF ls).drop (6 + nF ls))) = [] by (obtain ⟨e1, e2, e3⟩ := dec_ok (ls := ls) (by omega) hse (by omega) hfu (hpc.2 ⟨hz.1, (trim_nil _).1 hz.2⟩); rw [e1, e2, e3]; exact ⟨rfl, rfl⟩)
         exact ⟨by omega, Classical.not_not.1 (by assumption)⟩)
  refine G_val rfl rfl rfl rfl (V_move rfl rfl) ?_
  refine G_call (L2 := [_]) rfl rfl rfl rfl rfl rfl Tryd.call60 (str_trim ((allF ls).drop (6 + nF ls)) (by simp; omega)) [] [] rfl rfl ?_
  rintro v post ⟨rfl, rfl⟩
  show G _ _ _ [_] _
  refine G_val rfl rfl rfl rfl (V_sneq rfl rfl rfl) ?_
  refine G_val rfl rfl rfl rfl (V_pickF rfl rfl rfl) ?_
  refine G_done ?_
  refine G_ifD rfl (fun hc6 => ?_) (fun hc6 => ?_)
  · skip
    refine G_seq ?_
    refine G_region (l := [0, 1, 2]) rfl ?_
    refine G_val rfl rfl rfl rfl (V_assign rfl rfl) ?_
    refine G_val rfl rfl rfl rfl (V_assign rfl rfl) ?_
    refine G_val rfl rfl rfl rfl (V_assign rfl rfl) ?_
    refine G_done ?_
    refine G_ret (post := []) Tryd.func14 rfl (RVs_cons (RV_tmp rfl) (RVs_cons (RV_tmp rfl) (RVs_cons (RV_tmp rfl) RVs_nil))) [] rfl ?_
    dsimp only [packed]
    first
      | (suffices hz : ls.length = 0 by (obtain ⟨e1, e2, e3⟩ := dec_nil hz; rw [e1, e2, e3]; exact ⟨rfl, rfl⟩)
         omega)
      | (suffices hz : ¬ sizeFE (firstF ls) = 0 by (obtain ⟨e1, e2, e3⟩ := dec_size (ls := ls) (by omega) hz; rw [e1, e2, e3]; exact ⟨rfl, rfl⟩)
         omega)
      | (suffices hz : sizeFE (firstF ls) = 0 ∧ 0 < ls.length ∧ ls.length < mF ls by (obtain ⟨e1, e2, e3⟩ := dec_short hz.2.1 hz.1 hz.2.2; rw [e1, e2, e3]; exact ⟨rfl, rfl⟩)
         omega)
      | (suffices hz : sizeFE (firstF ls) = 0 ∧ 0 < ls.length ∧ mF ls ≤ ls.length ∧ ¬ s.length = 48 by (obtain ⟨e1, e2, e3⟩ := dec_part hz.2.1 hz.1 hz.2.2.1 (all_not (take_at hx (by omega)) (decide_eq_false hz.2.2.2)); rw [e1, e2, e3]; exact ⟨rfl, rfl⟩)
         omega)
      | (suffices hz : ¬ num (((allF ls).drop 2).take 4) = crcN ((allF ls).take 2 ++ recF ls) by (obtain ⟨e1, e2, e3⟩ := dec_form (ls := ls) (by omega) hse (by omega) hfu (fun e => hz (hpc.1 e).1); rw [e1, e2, e3]; exact ⟨rfl, rfl⟩)
         omega)
      | (suffices hz : ¬ trimL (trimR ((allF ls).drop (6 + nF ls))) = [] by (obtain ⟨e1, e2, e3⟩ := dec_form (ls := ls) (by omega) hse (by omega) hfu (fun e => hz ((trim_nil _).2 (hpc.1 e).2)); rw [e1, e2, e3]; exact ⟨rfl, rfl⟩)
         assumption)
      | (suffices hz : num (((allF ls).drop 2).take 4) = crcN ((allF ls).take 2 ++ recF ls) ∧ trimL (trimR ((allF ls).drop (6 + nF ls))) = [] by (obtain ⟨e1, e2, e3⟩ := dec_ok (ls := ls) (by omega) hse (by omega) hfu (hpc.2 ⟨hz.1, (trim_nil _).1 hz.2⟩); rw [e1, e2, e3]; exact ⟨rfl, rfl⟩)
         exact ⟨by omega, Classical.not_not.1 (by assumption)⟩)
  refine G_skip ?_
  refine G_seq ?_
  refine G_region (l := [0, 1, 2, 3, 4]) rfl ?_
  refine G_val rfl rfl rfl rfl (V_move rfl rfl) ?_
  refine G_val rfl rfl rfl rfl (V_move rfl rfl) ?_
  refine G_val rfl rfl rfl rfl (V_assign rfl rfl) ?_
  refine G_val rfl rfl rfl rfl (V_assign rfl rfl) ?_
  refine G_val rfl rfl rfl rfl (V_assign rfl rfl) ?_
  refine G_done ?_
  refine G_ret (post := []) Tryd.func14 rfl (RVs_cons (RV_tmp rfl) (RVs_cons (RV_tmp rfl) (RVs_cons (RV_tmp rfl) RVs_nil))) [] rfl ?_
  dsimp only [packed]
  first
    | (suffices hz : ls.length = 0 by (obtain ⟨e1, e2, e3⟩ := dec_nil hz; rw [e1, e2, e3]; exact ⟨rfl, rfl⟩)
       omega)
    | (suffices hz : ¬ sizeFE (firstF ls) = 0 by (obtain ⟨e1, e2, e3⟩ := dec_size (ls := ls) (by omega) hz; rw [e1, e2, e3]; exact ⟨rfl, rfl⟩)
       omega)
    | (suffices hz : sizeFE (firstF ls) = 0 ∧ 0 < ls.length ∧ ls.length < mF ls by (obtain ⟨e1, e2, e3⟩ := dec_short hz.2.1 hz.1 hz.2.2; rw [e1, e2, e3]; exact ⟨rfl, rfl⟩)
       omega)
    | (suffices hz : sizeFE (firstF ls) = 0 ∧ 0 < ls.length ∧ mF ls ≤ ls.length ∧ ¬ s.length = 48 by (obtain ⟨e1, e2, e3⟩ := dec_part hz.2.1 hz.1 hz.2.2.1 (all_not (take_at hx (by omega)) (decide_eq_false hz.2.2.2)); rw [e1, e2, e3]; exact ⟨rfl, rfl⟩)
       omega)
    | (suffices hz : ¬ num (((allF ls).drop 2).take 4) = crcN ((allF ls).take 2 ++ recF ls) by (obtain ⟨e1, e2, e3⟩ := dec_form (ls := ls) (by omega) hse (by omega) hfu (fun e => hz (hpc.1 e).1); rw [e1, e2, e3]; exact ⟨rfl, rfl⟩)
       omega)
    | (suffices hz : ¬ trimL (trimR ((allF ls).drop (6 + nF ls))) = [] by (obtain ⟨e1, e2, e3⟩ := dec_form (ls := ls) (by omega) hse (by omega) hfu (fun e => hz ((trim_nil _).2 (hpc.1 e).2)); rw [e1, e2, e3]; exact ⟨rfl, rfl⟩)
       assumption)
    | (suffices hz : num (((allF ls).drop 2).take 4) = crcN ((allF ls).take 2 ++ recF ls) ∧ trimL (trimR ((allF ls).drop (6 + nF ls))) = [] by (obtain ⟨e1, e2, e3⟩ := dec_ok (ls := ls) (by omega) hse (by omega) hfu (hpc.2 ⟨hz.1, (trim_nil _).1 hz.2⟩); rw [e1, e2, e3]; exact ⟨rfl, rfl⟩)
       exact ⟨by omega, Classical.not_not.1 (by assumption)⟩)

set_option maxRecDepth 100000 in
set_option maxHeartbeats 1000000 in
theorem rfr_decode (o1 : Option Nat) (p1 q1 : Nat) (c1 : Array Value) (T1 : TypeId) (f1 : Nat × Nat) (ls : List (List UInt8)) (hs : Sees 1 o1 p1 q1 c1 (ls.map strC) ls.length) (hl : ∀ x ∈ ls, x.length ≤ 9223372036854775807) :
    Ct Tryd.prog 81 [sv o1 p1 ls.length q1] [(o1, .cells c1 T1 f1)] [] fun v post => v = .tuple #[.string (bs (decS ls)), .int .i64 (decM ls : Int), .int .i64 (decE ls)] ∧ post = [] := by
 have hk1 := hs.le
 have hk2 := hs.max
 have hmm : mF ls = manyN (nF ls) := rfl
 have hn1 : nF ls ≤ 1000 := sizeF_le _
 have hroom := manyN_room (nF ls)
 have hm21 := mF_le ls
 refine ct_of Tryd.func81 rfl rfl (fun w0 => ?_)
 show G _ _ [(0, _)] _ _
 refine G_seq ?_
 refine G_region (l := [0, 1, 2]) rfl ?_
 refine G_val rfl rfl rfl rfl (V_assign rfl rfl) ?_
 refine G_val rfl rfl rfl rfl (V_assign rfl rfl) ?_
 refine G_val rfl rfl rfl rfl (V_assign rfl rfl) ?_
 refine G_done ?_
 refine G_seq ?_
 refine G_seq ?_
 refine G_region (l := [0, 1, 2]) rfl ?_
 refine G_val rfl rfl rfl rfl (V_move rfl rfl) ?_
 refine G_val rfl rfl rfl rfl (V_len rfl rfl Tryd.underlying24 rfl) ?_
 refine G_val rfl rfl rfl rfl (V_eql rfl rfl rfl) ?_
 refine G_done ?_
 refine G_ifD rfl (fun hc1 => ?_) (fun hc1 => ?_)
 · skip
   refine G_seq ?_
   refine G_region (l := [0, 1, 2]) rfl ?_
   refine G_val rfl rfl rfl rfl (V_assign rfl rfl) ?_
   refine G_val rfl rfl rfl rfl (V_assign rfl rfl) ?_
   refine G_val rfl rfl rfl rfl (V_assign rfl rfl) ?_
   refine G_done ?_
   refine G_ret (post := []) Tryd.func81 rfl (RVs_cons (RV_tmp rfl) (RVs_cons (RV_tmp rfl) (RVs_cons (RV_tmp rfl) RVs_nil))) [] rfl ?_
   dsimp only [packed]
   first
     | (suffices hz : ls.length = 0 by (obtain ⟨e1, e2, e3⟩ := dec_nil hz; rw [e1, e2, e3]; exact ⟨rfl, rfl⟩)
        omega)
     | (suffices hz : ¬ sizeFE (firstF ls) = 0 by (obtain ⟨e1, e2, e3⟩ := dec_size (ls := ls) (by omega) hz; rw [e1, e2, e3]; exact ⟨rfl, rfl⟩)
        omega)
     | (suffices hz : sizeFE (firstF ls) = 0 ∧ 0 < ls.length ∧ ls.length < mF ls by (obtain ⟨e1, e2, e3⟩ := dec_short hz.2.1 hz.1 hz.2.2; rw [e1, e2, e3]; exact ⟨rfl, rfl⟩)
        omega)
     | (suffices hz : sizeFE (firstF ls) = 0 ∧ 0 < ls.length ∧ mF ls ≤ ls.length ∧ ¬ s.length = 48 by (obtain ⟨e1, e2, e3⟩ := dec_part hz.2.1 hz.1 hz.2.2.1 (all_not (take_at hx (by omega)) (decide_eq_false hz.2.2.2)); rw [e1, e2, e3]; exact ⟨rfl, rfl⟩)
        omega)
     | (suffices hz : ¬ x = y by (obtain ⟨e1, e2, e3⟩ := dec_form (ls := ls) (by omega) hse (by omega) hfu (fun e => ne_at hx (take_at hy (by omega)) hz (hpa.2 e)); rw [e1, e2, e3]; exact ⟨rfl, rfl⟩)
        assumption)
     | (suffices hz : mF ls ≤ i by (obtain ⟨e1, e2, e3⟩ := dec_ok (ls := ls) (by omega) hse (by omega) hfu (hpa.1 (eq_end hq (by omega) (by rw [List.length_take]; omega))); rw [e1, e2, e3, rec_cut]; exact ⟨rfl, rfl⟩)
        omega)
 refine G_skip ?_
 refine G_seq ?_
 have hx0 := first_at (show 0 < ls.length by omega)
 have hl0 := hl _ (List.mem_of_getElem? hx0)
 obtain ⟨b1, rfl⟩ := hs.isSome (by omega)
 refine G_region (l := [0, 1, 2, 3, 4, 5, 6, 7, 8]) rfl ?_
 refine G_val rfl rfl rfl rfl (V_move rfl rfl) ?_
 first
   | refine G_val rfl rfl rfl rfl (V_indexAddrN (s := 1) rfl Tryd.underlying24 infFrameD_9 rfl rfl rfl rfl (by omega)) ?_
   | refine G_val rfl rfl rfl rfl (V_indexAddr (s := 1) rfl Tryd.underlying24 infFrameD_9 rfl rfl rfl (by omega) (by first | omega | (simp; done) | (simp; omega) | (simp at *; omega))) ?_
 refine G_val rfl rfl rfl rfl (V_load1 rfl rfl (mem_at 0 rfl) (nth_of (hs.cell hx0)) Tryd.underlying9 rfl) ?_
 refine G_call (L2 := []) rfl rfl rfl rfl rfl rfl Tryd.call80 (rfr_size (firstF ls) hl0) [] [] rfl rfl ?_
 rintro v post ⟨rfl, rfl⟩
 rw [show sizeF (firstF ls) = nF ls from rfl]
 refine G_val rfl rfl rfl rfl (V_move rfl rfl) ?_
 refine G_val rfl rfl rfl rfl (V_extract rfl rfl rfl) ?_
 refine G_val rfl rfl rfl rfl (V_extract rfl rfl rfl) ?_
 refine G_val rfl rfl rfl rfl (V_assign rfl rfl) ?_
 refine G_val rfl rfl rfl rfl (V_assign rfl rfl) ?_
 refine G_done ?_
 refine G_seq ?_
 refine G_seq ?_
 refine G_region (l := [0, 1]) rfl ?_
 refine G_val rfl rfl rfl rfl (V_move rfl rfl) ?_
 refine G_val rfl rfl rfl rfl (V_neq rfl rfl rfl) ?_
 refine G_done ?_
 refine G_ifD rfl (fun hc2 => ?_) (fun hc2 => ?_)
 · skip
   refine G_seq ?_
   refine G_region (l := [0, 1, 2, 3]) rfl ?_
   refine G_val rfl rfl rfl rfl (V_move rfl rfl) ?_
   refine G_val rfl rfl rfl rfl (V_assign rfl rfl) ?_
   refine G_val rfl rfl rfl rfl (V_assign rfl rfl) ?_
   refine G_val rfl rfl rfl rfl (V_assign rfl rfl) ?_
   refine G_done ?_
   refine G_ret (post := []) Tryd.func81 rfl (RVs_cons (RV_tmp rfl) (RVs_cons (RV_tmp rfl) (RVs_cons (RV_tmp rfl) RVs_nil))) [] rfl ?_
   dsimp only [packed]
   first
     | (suffices hz : ls.length = 0 by (obtain ⟨e1, e2, e3⟩ := dec_nil hz; rw [e1, e2, e3]; exact ⟨rfl, rfl⟩)
        omega)
     | (suffices hz : ¬ sizeFE (firstF ls) = 0 by (obtain ⟨e1, e2, e3⟩ := dec_size (ls := ls) (by omega) hz; rw [e1, e2, e3]; exact ⟨rfl, rfl⟩)
        omega)
     | (suffices hz : sizeFE (firstF ls) = 0 ∧ 0 < ls.length ∧ ls.length < mF ls by (obtain ⟨e1, e2, e3⟩ := dec_short hz.2.1 hz.1 hz.2.2; rw [e1, e2, e3]; exact ⟨rfl, rfl⟩)
        omega)
     | (suffices hz : sizeFE (firstF ls) = 0 ∧ 0 < ls.length ∧ mF ls ≤ ls.length ∧ ¬ s.length = 48 by (obtain ⟨e1, e2, e3⟩ := dec_part hz.2.1 hz.1 hz.2.2.1 (all_not (take_at hx (by omega)) (decide_eq_false hz.2.2.2)); rw [e1, e2, e3]; exact ⟨rfl, rfl⟩)
        omega)
     | (suffices hz : ¬ x = y by (obtain ⟨e1, e2, e3⟩ := dec_form (ls := ls) (by omega) hse (by omega) hfu (fun e => ne_at hx (take_at hy (by omega)) hz (hpa.2 e)); rw [e1, e2, e3]; exact ⟨rfl, rfl⟩)
        assumption)
     | (suffices hz : mF ls ≤ i by (obtain ⟨e1, e2, e3⟩ := dec_ok (ls := ls) (by omega) hse (by omega) hfu (hpa.1 (eq_end hq (by omega) (by rw [List.length_take]; omega))); rw [e1, e2, e3, rec_cut]; exact ⟨rfl, rfl⟩)
        omega)
 refine G_skip ?_
 refine G_seq ?_
 refine G_seq ?_
 refine G_region (l := [0, 1, 2, 3, 4]) rfl ?_
 refine G_val rfl rfl rfl rfl (V_move rfl rfl) ?_
 refine G_val rfl rfl rfl rfl (V_len rfl rfl Tryd.underlying24 rfl) ?_
 refine G_val rfl rfl rfl rfl (V_move rfl rfl) ?_
 refine G_call (L2 := []) rfl rfl rfl rfl rfl rfl Tryd.call39 (rfr_many (nF ls) (by omega)) [] [] rfl rfl ?_
 rintro v post ⟨rfl, rfl⟩
 try rw [show manyN (nF ls) = mF ls from rfl]
 refine G_val rfl rfl rfl rfl (V_lss rfl rfl rfl) ?_
 refine G_done ?_
 refine G_ifD rfl (fun hc3 => ?_) (fun hc3 => ?_)
 · skip
   refine G_seq ?_
   refine G_region (l := [0, 1, 2]) rfl ?_
   refine G_val rfl rfl rfl rfl (V_assign rfl rfl) ?_
   refine G_val rfl rfl rfl rfl (V_assign rfl rfl) ?_
   refine G_val rfl rfl rfl rfl (V_assign rfl rfl) ?_
   refine G_done ?_
   refine G_ret (post := []) Tryd.func81 rfl (RVs_cons (RV_tmp rfl) (RVs_cons (RV_tmp rfl) (RVs_cons (RV_tmp rfl) RVs_nil))) [] rfl ?_
   dsimp only [packed]
   first
     | (suffices hz : ls.length = 0 by (obtain ⟨e1, e2, e3⟩ := dec_nil hz; rw [e1, e2, e3]; exact ⟨rfl, rfl⟩)
        omega)
     | (suffices hz : ¬ sizeFE (firstF ls) = 0 by (obtain ⟨e1, e2, e3⟩ := dec_size (ls := ls) (by omega) hz; rw [e1, e2, e3]; exact ⟨rfl, rfl⟩)
        omega)
     | (suffices hz : sizeFE (firstF ls) = 0 ∧ 0 < ls.length ∧ ls.length < mF ls by (obtain ⟨e1, e2, e3⟩ := dec_short hz.2.1 hz.1 hz.2.2; rw [e1, e2, e3]; exact ⟨rfl, rfl⟩)
        omega)
     | (suffices hz : sizeFE (firstF ls) = 0 ∧ 0 < ls.length ∧ mF ls ≤ ls.length ∧ ¬ s.length = 48 by (obtain ⟨e1, e2, e3⟩ := dec_part hz.2.1 hz.1 hz.2.2.1 (all_not (take_at hx (by omega)) (decide_eq_false hz.2.2.2)); rw [e1, e2, e3]; exact ⟨rfl, rfl⟩)
        omega)
     | (suffices hz : ¬ x = y by (obtain ⟨e1, e2, e3⟩ := dec_form (ls := ls) (by omega) hse (by omega) hfu (fun e => ne_at hx (take_at hy (by omega)) hz (hpa.2 e)); rw [e1, e2, e3]; exact ⟨rfl, rfl⟩)
        assumption)
     | (suffices hz : mF ls ≤ i by (obtain ⟨e1, e2, e3⟩ := dec_ok (ls := ls) (by omega) hse (by omega) hfu (hpa.1 (eq_end hq (by omega) (by rw [List.length_take]; omega))); rw [e1, e2, e3, rec_cut]; exact ⟨rfl, rfl⟩)
        omega)
 refine G_skip ?_
 refine G_seq ?_
 refine G_region (l := [0]) rfl ?_
 refine G_val rfl rfl rfl rfl (V_assign rfl rfl) ?_
 refine G_done ?_
 refine G_seq ?_
 refine G_seq ?_
 refine G_region (l := [0]) rfl ?_
 refine G_val rfl rfl rfl rfl (V_assign rfl rfl) ?_
 refine G_done ?_
 refine G_block ?_
 refine G_sub ?he10 [] ?hl10 (G_loop (X := Nat) (fun i => i ≤ mF ls ∧ ((ls.take (mF ls)).take i).all (fun x => decide (x.length = 48)) = true) (fun i => mF ls - i) (fun i => [(0, sv (some b1) p1 ls.length q1), (5, .int .i64 (nF ls : Int)), (7, .string (bs (ls.take i).flatten)), (8, .int .i64 (i : Int))]) (fun i => []) ?round10 0 ?h010)
 case he10 => exact (And.intro rfl (And.intro rfl (And.intro rfl (And.intro rfl trivial))))
 case hl10 => exact ⟨_, rfl⟩
 case h010 => exact ⟨Nat.zero_le _, rfl⟩
 case round10 =>
  intro i hJ ih
  try dsimp only at hJ ih
  obtain ⟨hi, ht⟩ := hJ
  refine G_seq ?_
  refine G_seq ?_
  refine G_region (l := [0, 1, 2, 3]) rfl ?_
  refine G_val rfl rfl rfl rfl (V_move rfl rfl) ?_
  refine G_val rfl rfl rfl rfl (V_move rfl rfl) ?_
  refine G_call (L2 := []) rfl rfl rfl rfl rfl rfl Tryd.call39 (rfr_many (nF ls) (by omega)) [] [] rfl rfl ?_
  rintro v post ⟨rfl, rfl⟩
  try rw [show manyN (nF ls) = mF ls from rfl]
  refine G_val rfl rfl rfl rfl (V_lss rfl rfl rfl) ?_
  refine G_done ?_
  refine G_ifD rfl (fun hc4 => ?_) (fun hc4 => ?_)
  · skip
    refine G_skip ?_
    refine G_seq ?_
    refine G_block ?_
    refine G_seq ?_
    refine G_seq ?_
    obtain ⟨s, hx⟩ := getI (show i < ls.length by omega)
    have hls := hl _ (List.mem_of_getElem? hx)
    refine G_region (l := [0, 1, 2, 3, 4, 5]) rfl ?_
    refine G_val rfl rfl rfl rfl (V_move rfl rfl) ?_
    refine G_val rfl rfl rfl rfl (V_move rfl rfl) ?_
    first
      | refine G_val rfl rfl rfl rfl (V_indexAddrN (s := 1) rfl Tryd.underlying24 infFrameD_9 rfl rfl rfl rfl (by omega)) ?_
      | refine G_val rfl rfl rfl rfl (V_indexAddr (s := 1) rfl Tryd.underlying24 infFrameD_9 rfl rfl rfl (by omega) (by first | omega | (simp; done) | (simp; omega) | (simp at *; omega))) ?_
    refine G_val rfl rfl rfl rfl (V_load1 rfl rfl (mem_at 0 rfl) (nth_of (hs.cell hx)) Tryd.underlying9 rfl) ?_
    refine G_val rfl rfl rfl rfl (V_slen rfl rfl Tryd.underlying9 rfl) ?_
    refine G_val rfl rfl rfl rfl (V_neq rfl rfl rfl) ?_
    refine G_done ?_
    refine G_ifD rfl (fun hc5 => ?_) (fun hc5 => ?_)
    · skip
      refine G_seq ?_
      refine G_region (l := [0, 1, 2]) rfl ?_
      refine G_val rfl rfl rfl rfl (V_assign rfl rfl) ?_
      refine G_val rfl rfl rfl rfl (V_assign rfl rfl) ?_
      refine G_val rfl rfl rfl rfl (V_assign rfl rfl) ?_
      refine G_done ?_
      refine G_ret (post := []) Tryd.func81 rfl (RVs_cons (RV_tmp rfl) (RVs_cons (RV_tmp rfl) (RVs_cons (RV_tmp rfl) RVs_nil))) [] rfl ?_
      dsimp only [packed]
      first
        | (suffices hz : ls.length = 0 by (obtain ⟨e1, e2, e3⟩ := dec_nil hz; rw [e1, e2, e3]; exact ⟨rfl, rfl⟩)
           omega)
        | (suffices hz : ¬ sizeFE (firstF ls) = 0 by (obtain ⟨e1, e2, e3⟩ := dec_size (ls := ls) (by omega) hz; rw [e1, e2, e3]; exact ⟨rfl, rfl⟩)
           omega)
        | (suffices hz : sizeFE (firstF ls) = 0 ∧ 0 < ls.length ∧ ls.length < mF ls by (obtain ⟨e1, e2, e3⟩ := dec_short hz.2.1 hz.1 hz.2.2; rw [e1, e2, e3]; exact ⟨rfl, rfl⟩)
           omega)
        | (suffices hz : sizeFE (firstF ls) = 0 ∧ 0 < ls.length ∧ mF ls ≤ ls.length ∧ ¬ s.length = 48 by (obtain ⟨e1, e2, e3⟩ := dec_part hz.2.1 hz.1 hz.2.2.1 (all_not (take_at hx (by omega)) (decide_eq_false hz.2.2.2)); rw [e1, e2, e3]; exact ⟨rfl, rfl⟩)
           omega)
        | (suffices hz : ¬ x = y by (obtain ⟨e1, e2, e3⟩ := dec_form (ls := ls) (by omega) hse (by omega) hfu (fun e => ne_at hx (take_at hy (by omega)) hz (hpa.2 e)); rw [e1, e2, e3]; exact ⟨rfl, rfl⟩)
           assumption)
        | (suffices hz : mF ls ≤ i by (obtain ⟨e1, e2, e3⟩ := dec_ok (ls := ls) (by omega) hse (by omega) hfu (hpa.1 (eq_end hq (by omega) (by rw [List.length_take]; omega))); rw [e1, e2, e3, rec_cut]; exact ⟨rfl, rfl⟩)
           omega)
    refine G_skip ?_
    have hfl := flat_len48 _ (fun x hx => of_decide_eq_true (List.all_eq_true.1 ht x hx))
    rw [List.take_take, Nat.min_eq_left hi, List.length_take] at hfl
    refine G_region (l := [0, 1, 2, 3, 4, 5, 6]) rfl ?_
    refine G_val rfl rfl rfl rfl (V_move rfl rfl) ?_
    refine G_val rfl rfl rfl rfl (V_move rfl rfl) ?_
    refine G_val rfl rfl rfl rfl (V_move rfl rfl) ?_
    first
      | refine G_val rfl rfl rfl rfl (V_indexAddrN (s := 1) rfl Tryd.underlying24 infFrameD_9 rfl rfl rfl rfl (by omega)) ?_
      | refine G_val rfl rfl rfl rfl (V_indexAddr (s := 1) rfl Tryd.underlying24 infFrameD_9 rfl rfl rfl (by omega) (by first | omega | (simp; done) | (simp; omega) | (simp at *; omega))) ?_
    refine G_val rfl rfl rfl rfl (V_load1 rfl rfl (mem_at 0 rfl) (nth_of (hs.cell hx)) Tryd.underlying9 rfl) ?_
    refine G_val rfl rfl rfl rfl (V_sadd rfl rfl rfl (by first | omega | (simp; done) | (simp; omega) | (simp at *; omega))) ?_
    rw [← flat_next hx]
    refine G_val rfl rfl rfl rfl (V_assign rfl rfl) ?_
    refine G_done ?_
    refine G_inBlock ?_
    refine G_region (l := [0, 1, 2]) rfl ?_
    refine G_val rfl rfl rfl rfl (V_move rfl rfl) ?_
    first
      | refine G_val rfl rfl rfl rfl ((V_add rfl rfl rfl).int (wrap_i64 (by omega))) ?_
      | refine G_val rfl rfl rfl rfl (V_add rfl rfl rfl) ?_
    refine G_val rfl rfl rfl rfl (V_assign rfl rfl) ?_
    refine G_done ?_
    refine G_sub ?_ [] ?_ (ih (i + 1) ?_ ?_)
    · (refine (And.intro ?_ (And.intro ?_ (And.intro ?_ (And.intro ?_ trivial)))) <;> first | rfl | exact slot_int (by omega) | exact slot_int (by simp))
    · exact ⟨_, rfl⟩
    · exact ⟨by omega, all_next ht (take_at hx (by omega)) (decide_eq_true (by omega))⟩
    · (first | omega | (dsimp only; omega))
  refine G_exit rfl ?_
  refine G_seq ?_
  obtain rfl : i = mF ls := by omega
  have hfu : fullF ls = true := all_end ht (by rw [List.length_take]; omega)
  have hal := allF_len hfu (by omega)
  have hrl := recF_len hfu (by omega)
  have hse : sizeFE (firstF ls) = 0 := by omega
  rw [show (ls.take (mF ls)).flatten = allF ls from rfl]
  refine G_region (l := [0, 1, 2, 3, 4, 5, 6, 7, 8, 9]) rfl ?_
  refine G_val rfl rfl rfl rfl (V_move rfl rfl) ?_
  refine G_val rfl rfl rfl rfl (V_move rfl rfl) ?_
  refine G_val rfl rfl rfl rfl (Val.int (e' := ((6 + nF ls : Nat) : Int)) (V_add rfl rfl rfl) (add6 _ (by omega))) ?_
  first
    | refine G_val rfl rfl rfl rfl (V_ssliceN (lo := 6) (hi := _) rfl Tryd.underlying9 rfl rfl rfl rfl rfl (by first | omega | (simp; done) | (simp; omega) | (simp at *; omega)) (by first | omega | (simp; done) | (simp; omega) | (simp at *; omega))) ?_
    | refine G_val rfl rfl rfl rfl (V_sslice rfl Tryd.underlying9 rfl rfl rfl (by first | omega | (simp; done) | (simp; omega) | (simp at *; omega)) (by first | omega | (simp; done) | (simp; omega) | (simp at *; omega)) (by first | omega | (simp; done) | (simp; omega) | (simp at *; omega))) ?_
  rw [rec_cut]
  refine G_call (L2 := []) rfl rfl rfl rfl rfl rfl Tryd.call13 (rfr_encode (recF ls) (by omega)) [] [] rfl rfl ?_
  rintro v post ⟨u, hu, rfl, rfl⟩
  show G _ _ _ [_] _
  obtain ⟨en1, en2⟩ := enc_rec (ls := ls) (by omega) hfu
  have hpa := pieces_all (ls := ls) (by omega) hfu
  rw [en1, en2]
  rw [en1] at hu
  obtain ⟨ob, cs, fz, cap⟩ := u
  obtain ⟨b9, hb9⟩ := hu.isSome (by have := manyN_pos (nF ls); omega)
  simp only at hb9
  subst hb9
  show G _ _ _ [(some b9, .cells cs 9 fz)] _
  refine G_val rfl rfl rfl rfl (V_move rfl rfl) ?_
  refine G_val rfl rfl rfl rfl (V_extract rfl rfl rfl) ?_
  refine G_val rfl rfl rfl rfl (V_extract rfl rfl rfl) ?_
  refine G_val rfl rfl rfl rfl (V_assign rfl rfl) ?_
  refine G_val rfl rfl rfl rfl (V_assign rfl rfl) ?_
  refine G_done ?_
  refine G_seq ?_
  refine G_seq ?_
  refine G_region (l := [0]) rfl ?_
  refine G_val rfl rfl rfl rfl (V_assign rfl rfl) ?_
  refine G_done ?_
  refine G_block ?_
  refine G_sub ?he17 [0] ?hl17 (G_loop (X := Nat) (fun i => i ≤ mF ls ∧ (piecesF (recF ls)).take i = (ls.take (mF ls)).take i) (fun i => mF ls - i) (fun i => [(0, sv (some b1) p1 ls.length q1), (5, .int .i64 (nF ls : Int)), (7, .string (bs (allF ls))), (9, .slice (some ⟨b9, 0, none⟩) (mF ls) cap), (11, .int .i64 (i : Int))]) (fun i => [(some b9, .cells cs 9 fz)]) ?round17 0 ?h017)
  case he17 => exact (And.intro rfl (And.intro rfl (And.intro rfl (And.intro rfl (And.intro rfl trivial)))))
  case hl17 => exact ⟨_, rfl⟩
  case h017 => exact ⟨Nat.zero_le _, rfl⟩
  case round17 =>
   intro i hJ ih
   try dsimp only at hJ ih
   obtain ⟨hi, hq⟩ := hJ
   refine G_seq ?_
   refine G_seq ?_
   refine G_region (l := [0, 1, 2, 3]) rfl ?_
   refine G_val rfl rfl rfl rfl (V_move rfl rfl) ?_
   refine G_val rfl rfl rfl rfl (V_move rfl rfl) ?_
   refine G_call (L2 := [_]) rfl rfl rfl rfl rfl rfl Tryd.call39 (rfr_many (nF ls) (by omega)) [] [] rfl rfl ?_
   rintro v post ⟨rfl, rfl⟩
   show G _ _ _ [_] _
   try rw [show manyN (nF ls) = mF ls from rfl]
   refine G_val rfl rfl rfl rfl (V_lss rfl rfl rfl) ?_
   refine G_done ?_
   refine G_ifD rfl (fun hc5 => ?_) (fun hc5 => ?_)
   · skip
     refine G_skip ?_
     refine G_seq ?_
     refine G_block ?_
     refine G_seq ?_
     obtain ⟨x, hx⟩ := getI (show i < (piecesF (recF ls)).length by omega)
     obtain ⟨y, hy⟩ := getI (show i < ls.length by omega)
     refine G_draw mixedK (by kernel_rfl) ?_
     refine GQ_val rfl rfl rfl rfl (V_move rfl rfl) ?_
     refine GQ_val rfl rfl rfl rfl (V_move rfl rfl) ?_
     first
       | refine GQ_val rfl rfl rfl rfl (V_indexAddrN (s := 1) rfl Tryd.underlying24 infFrameD_9 rfl rfl rfl rfl (by omega)) ?_
       | refine GQ_val rfl rfl rfl rfl (V_indexAddr (s := 1) rfl Tryd.underlying24 infFrameD_9 rfl rfl rfl (by omega) (by first | omega | (simp; done) | (simp; omega) | (simp at *; omega))) ?_
     refine GQ_val rfl rfl rfl rfl (V_load1 rfl rfl (mem_at 1 rfl) (nth_of (hu.sees.cell hx)) Tryd.underlying9 rfl) ?_
     refine GQ_val rfl rfl rfl rfl (V_move rfl rfl) ?_
     refine GQ_val rfl rfl rfl rfl (V_move rfl rfl) ?_
     first
       | refine GQ_val rfl rfl rfl rfl (V_indexAddrN (s := 1) rfl Tryd.underlying24 infFrameD_9 rfl rfl rfl rfl (by omega)) ?_
       | refine GQ_val rfl rfl rfl rfl (V_indexAddr (s := 1) rfl Tryd.underlying24 infFrameD_9 rfl rfl rfl (by omega) (by first | omega | (simp; done) | (simp; omega) | (simp at *; omega))) ?_
     refine GQ_val rfl rfl rfl rfl (V_load1 rfl rfl (mem_at 0 rfl) (nth_of (hs.cell hy)) Tryd.underlying9 rfl) ?_
     refine GQ_val rfl rfl rfl rfl (V_sneq rfl rfl rfl) ?_
     refine GQ_done rfl ?_
     refine G_ifD rfl (fun hc6 => ?_) (fun hc6 => ?_)
     · skip
       refine G_seq ?_
       refine G_region (l := [0, 1, 2]) rfl ?_
       refine G_val rfl rfl rfl rfl (V_assign rfl rfl) ?_
       refine G_val rfl rfl rfl rfl (V_assign rfl rfl) ?_
       refine G_val rfl rfl rfl rfl (V_assign rfl rfl) ?_
       refine G_done ?_
       refine G_ret (post := []) Tryd.func81 rfl (RVs_cons (RV_tmp rfl) (RVs_cons (RV_tmp rfl) (RVs_cons (RV_tmp rfl) RVs_nil))) [] rfl ?_
       dsimp only [packed]
       first
         | (suffices hz : ls.length = 0 by (obtain ⟨e1, e2, e3⟩ := dec_nil hz; rw [e1, e2, e3]; exact ⟨rfl, rfl⟩)
            omega)
         | (suffices hz : ¬ sizeFE (firstF ls) = 0 by (obtain ⟨e1, e2, e3⟩ := dec_size (ls := ls) (by omega) hz; rw [e1, e2, e3]; exact ⟨rfl, rfl⟩)
            omega)
         | (suffices hz : sizeFE (firstF ls) = 0 ∧ 0 < ls.length ∧ ls.length < mF ls by (obtain ⟨e1, e2, e3⟩ := dec_short hz.2.1 hz.1 hz.2.2; rw [e1, e2, e3]; exact ⟨rfl, rfl⟩)
            omega)
         | (suffices hz : sizeFE (firstF ls) = 0 ∧ 0 < ls.length ∧ mF ls ≤ ls.length ∧ ¬ s.length = 48 by (obtain ⟨e1, e2, e3⟩ := dec_part hz.2.1 hz.1 hz.2.2.1 (all_not (take_at hx (by omega)) (decide_eq_false hz.2.2.2)); rw [e1, e2, e3]; exact ⟨rfl, rfl⟩)
            omega)
         | (suffices hz : ¬ x = y by (obtain ⟨e1, e2, e3⟩ := dec_form (ls := ls) (by omega) hse (by omega) hfu (fun e => ne_at hx (take_at hy (by omega)) hz (hpa.2 e)); rw [e1, e2, e3]; exact ⟨rfl, rfl⟩)
            assumption)
         | (suffices hz : mF ls ≤ i by (obtain ⟨e1, e2, e3⟩ := dec_ok (ls := ls) (by omega) hse (by omega) hfu (hpa.1 (eq_end hq (by omega) (by rw [List.length_take]; omega))); rw [e1, e2, e3, rec_cut]; exact ⟨rfl, rfl⟩)
            omega)
     refine G_skip ?_
     refine G_inBlock ?_
     refine G_region (l := [0, 1, 2]) rfl ?_
     refine G_val rfl rfl rfl rfl (V_move rfl rfl) ?_
     first
       | refine G_val rfl rfl rfl rfl ((V_add rfl rfl rfl).int (wrap_i64 (by omega))) ?_
       | refine G_val rfl rfl rfl rfl (V_add rfl rfl rfl) ?_
     refine G_val rfl rfl rfl rfl (V_assign rfl rfl) ?_
     refine G_done ?_
     refine G_sub ?_ [0] ?_ (ih (i + 1) ?_ ?_)
     · (refine (And.intro ?_ (And.intro ?_ (And.intro ?_ (And.intro ?_ (And.intro ?_ trivial))))) <;> first | rfl | exact slot_int (by omega) | exact slot_int (by simp))
     · exact ⟨_, rfl⟩
     · exact ⟨by omega, eq_next hq hx (take_at hy (by omega)) (Classical.not_not.1 (by assumption))⟩
     · (first | omega | (dsimp only; omega))
   refine G_exit rfl ?_
   refine G_seq ?_
   refine G_draw mixedK (by kernel_rfl) ?_
   refine GQ_val rfl rfl rfl rfl (V_move rfl rfl) ?_
   refine GQ_val rfl rfl rfl rfl (V_move rfl rfl) ?_
   refine GQ_val rfl rfl rfl rfl (Val.int (e' := ((6 + nF ls : Nat) : Int)) (V_add rfl rfl rfl) (add6 _ (by omega))) ?_
   first
     | refine GQ_val rfl rfl rfl rfl (V_ssliceN (lo := 6) (hi := _) rfl Tryd.underlying9 rfl rfl rfl rfl rfl (by first | omega | (simp; done) | (simp; omega) | (simp at *; omega)) (by first | omega | (simp; done) | (simp; omega) | (simp at *; omega))) ?_
     | refine GQ_val rfl rfl rfl rfl (V_sslice rfl Tryd.underlying9 rfl rfl rfl (by first | omega | (simp; done) | (simp; omega) | (simp at *; omega)) (by first | omega | (simp; done) | (simp; omega) | (simp at *; omega)) (by first | omega | (simp; done) | (simp; omega) | (simp at *; omega))) ?_
   refine GQ_val rfl rfl rfl rfl (V_move rfl rfl) ?_
   refine GQ_call rfl rfl rfl rfl rfl rfl Tryd.call39 (rfr_many (nF ls) (by omega)) [] rfl (fun v post hp => (hp : _ ∧ _).1) ?_
   refine GQ_val rfl rfl rfl rfl (V_assign rfl rfl) ?_
   refine GQ_val rfl rfl rfl rfl (V_assign rfl rfl) ?_
   refine GQ_val rfl rfl rfl rfl (V_assign rfl rfl) ?_
   refine GQ_done rfl ?_
   refine G_ret (post := []) Tryd.func81 rfl (RVs_cons (RV_tmp rfl) (RVs_cons (RV_tmp rfl) (RVs_cons (RV_tmp rfl) RVs_nil))) [] rfl ?_
   dsimp only [packed]
   first
     | (suffices hz : ls.length = 0 by (obtain ⟨e1, e2, e3⟩ := dec_nil hz; rw [e1, e2, e3]; exact ⟨rfl, rfl⟩)
        omega)
     | (suffices hz : ¬ sizeFE (firstF ls) = 0 by (obtain ⟨e1, e2, e3⟩ := dec_size (ls := ls) (by omega) hz; rw [e1, e2, e3]; exact ⟨rfl, rfl⟩)
        omega)
     | (suffices hz : sizeFE (firstF ls) = 0 ∧ 0 < ls.length ∧ ls.length < mF ls by (obtain ⟨e1, e2, e3⟩ := dec_short hz.2.1 hz.1 hz.2.2; rw [e1, e2, e3]; exact ⟨rfl, rfl⟩)
        omega)
     | (suffices hz : sizeFE (firstF ls) = 0 ∧ 0 < ls.length ∧ mF ls ≤ ls.length ∧ ¬ s.length = 48 by (obtain ⟨e1, e2, e3⟩ := dec_part hz.2.1 hz.1 hz.2.2.1 (all_not (take_at hx (by omega)) (decide_eq_false hz.2.2.2)); rw [e1, e2, e3]; exact ⟨rfl, rfl⟩)
        omega)
     | (suffices hz : ¬ x = y by (obtain ⟨e1, e2, e3⟩ := dec_form (ls := ls) (by omega) hse (by omega) hfu (fun e => ne_at hx (take_at hy (by omega)) hz (hpa.2 e)); rw [e1, e2, e3]; exact ⟨rfl, rfl⟩)
        assumption)
     | (suffices hz : mF ls ≤ i by (obtain ⟨e1, e2, e3⟩ := dec_ok (ls := ls) (by omega) hse (by omega) hfu (hpa.1 (eq_end hq (by omega) (by rw [List.length_take]; omega))); rw [e1, e2, e3, rec_cut]; exact ⟨rfl, rfl⟩)
        omega)

set_option maxRecDepth 100000 in
set_option maxHeartbeats 1000000 in
theorem ref_texts (o1 : Option Nat) (p1 q1 : Nat) (c1 : Array Value) (T1 : TypeId) (f1 : Nat × Nat) (o2 : Option Nat) (p2 q2 : Nat) (c2 : Array Value) (T2 : TypeId) (f2 : Nat × Nat) (ls ms : List (List UInt8)) (h1 : Sees 1 o1 p1 q1 c1 (ls.map strC) ls.length) (h2 : Sees 1 o2 p2 q2 c2 (ms.map strC) ms.length) :
    Ct Tryd.prog 51 [sv o1 p1 ls.length q1, sv o2 p2 ms.length q2] [(o1, .cells c1 T1 f1), (o2, .cells c2 T2 f2)] [] fun v post => v = .bool (decide (ls = ms)) ∧ post = [] := by
 have hk1 := h1.le
 have hk2 := h1.max
 have hk3 := h2.le
 have hk4 := h2.max
 refine ct_of Tryd.func51 rfl rfl (fun w0 => ?_)
 show G _ _ [(0, _), (1, _)] _ _
 refine G_seq ?_
 refine G_region (l := [0]) rfl ?_
 refine G_val rfl rfl rfl rfl (V_assign rfl rfl) ?_
 refine G_done ?_
 refine G_seq ?_
 refine G_seq ?_
 refine G_region (l := [0, 1, 2, 3, 4]) rfl ?_
 refine G_val rfl rfl rfl rfl (V_move rfl rfl) ?_
 refine G_val rfl rfl rfl rfl (V_len rfl rfl Tryd.underlying24 rfl) ?_
 refine G_val rfl rfl rfl rfl (V_move rfl rfl) ?_
 refine G_val rfl rfl rfl rfl (V_len rfl rfl Tryd.underlying24 rfl) ?_
 refine G_val rfl rfl rfl rfl (V_neq rfl rfl rfl) ?_
 refine G_done ?_
 refine G_ifD rfl (fun hc1 => ?_) (fun hc1 => ?_)
 · skip
   refine G_seq ?_
   refine G_region (l := [0]) rfl ?_
   refine G_val rfl rfl rfl rfl (V_assign rfl rfl) ?_
   refine G_done ?_
   refine G_ret (post := []) Tryd.func51 rfl (RVs_cons (RV_tmp rfl) RVs_nil) [] rfl ?_
   dsimp only [packed]
   first
     | exact ⟨bool_eq (decide_eq_false (ne_len (by omega))).symm, rfl⟩
     | exact ⟨bool_eq (decide_eq_false (ne_at hx hy (by assumption))).symm, rfl⟩
     | exact ⟨bool_eq (decide_eq_true (eq_end ht (by omega) (by omega))).symm, rfl⟩
 refine G_skip ?_
 refine G_seq ?_
 refine G_seq ?_
 refine G_region (l := [0]) rfl ?_
 refine G_val rfl rfl rfl rfl (V_assign rfl rfl) ?_
 refine G_done ?_
 refine G_block ?_
 refine G_sub ?he4 [] ?hl4 (G_loop (X := Nat) (fun i => i ≤ ls.length ∧ ls.length = ms.length ∧ ls.take i = ms.take i) (fun i => ls.length - i) (fun i => [(0, sv o1 p1 ls.length q1), (1, sv o2 p2 ms.length q2), (5, .int .i64 (i : Int))]) (fun i => []) ?round4 0 ?h04)
 case he4 => exact (And.intro rfl (And.intro rfl (And.intro rfl trivial)))
 case hl4 => exact ⟨_, rfl⟩
 case h04 => exact ⟨Nat.zero_le _, by omega, rfl⟩
 case round4 =>
  intro i hJ ih
  try dsimp only at hJ ih
  obtain ⟨hi, hlen, ht⟩ := hJ
  refine G_seq ?_
  refine G_seq ?_
  refine G_region (l := [0, 1, 2, 3]) rfl ?_
  refine G_val rfl rfl rfl rfl (V_move rfl rfl) ?_
  refine G_val rfl rfl rfl rfl (V_move rfl rfl) ?_
  refine G_val rfl rfl rfl rfl (V_len rfl rfl Tryd.underlying24 rfl) ?_
  refine G_val rfl rfl rfl rfl (V_lss rfl rfl rfl) ?_
  refine G_done ?_
  refine G_ifD rfl (fun hc2 => ?_) (fun hc2 => ?_)
  · skip
    refine G_skip ?_
    refine G_seq ?_
    refine G_block ?_
    refine G_seq ?_
    obtain ⟨x, hx⟩ := getI (show i < ls.length by omega)
    obtain ⟨y, hy⟩ := getI (show i < ms.length by omega)
    obtain ⟨b1, rfl⟩ := h1.isSome (by omega)
    obtain ⟨b2, rfl⟩ := h2.isSome (by omega)
    refine G_draw mixedK (by kernel_rfl) ?_
    refine GQ_val rfl rfl rfl rfl (V_move rfl rfl) ?_
    refine GQ_val rfl rfl rfl rfl (V_move rfl rfl) ?_
    first
      | refine GQ_val rfl rfl rfl rfl (V_indexAddrN (s := 1) rfl Tryd.underlying24 infFrameD_9 rfl rfl rfl rfl (by omega)) ?_
      | refine GQ_val rfl rfl rfl rfl (V_indexAddr (s := 1) rfl Tryd.underlying24 infFrameD_9 rfl rfl rfl (by omega) (by first | omega | (simp; done) | (simp; omega) | (simp at *; omega))) ?_
    refine GQ_val rfl rfl rfl rfl (V_load1 rfl rfl (mem_at 0 rfl) (nth_of (h1.cell hx)) Tryd.underlying9 rfl) ?_
    refine GQ_val rfl rfl rfl rfl (V_move rfl rfl) ?_
    refine GQ_val rfl rfl rfl rfl (V_move rfl rfl) ?_
    first
      | refine GQ_val rfl rfl rfl rfl (V_indexAddrN (s := 1) rfl Tryd.underlying24 infFrameD_9 rfl rfl rfl rfl (by omega)) ?_
      | refine GQ_val rfl rfl rfl rfl (V_indexAddr (s := 1) rfl Tryd.underlying24 infFrameD_9 rfl rfl rfl (by omega) (by first | omega | (simp; done) | (simp; omega) | (simp at *; omega))) ?_
    refine GQ_val rfl rfl rfl rfl (V_load1 rfl rfl (mem_at 1 rfl) (nth_of (h2.cell hy)) Tryd.underlying9 rfl) ?_
    refine GQ_val rfl rfl rfl rfl (V_sneq rfl rfl rfl) ?_
    refine GQ_done rfl ?_
    refine G_ifD rfl (fun hc3 => ?_) (fun hc3 => ?_)
    · skip
      refine G_seq ?_
      refine G_region (l := [0]) rfl ?_
      refine G_val rfl rfl rfl rfl (V_assign rfl rfl) ?_
      refine G_done ?_
      refine G_ret (post := []) Tryd.func51 rfl (RVs_cons (RV_tmp rfl) RVs_nil) [] rfl ?_
      dsimp only [packed]
      first
        | exact ⟨bool_eq (decide_eq_false (ne_len (by omega))).symm, rfl⟩
        | exact ⟨bool_eq (decide_eq_false (ne_at hx hy (by assumption))).symm, rfl⟩
        | exact ⟨bool_eq (decide_eq_true (eq_end ht (by omega) (by omega))).symm, rfl⟩
    refine G_skip ?_
    refine G_inBlock ?_
    refine G_region (l := [0, 1, 2]) rfl ?_
    refine G_val rfl rfl rfl rfl (V_move rfl rfl) ?_
    first
      | refine G_val rfl rfl rfl rfl ((V_add rfl rfl rfl).int (wrap_i64 (by omega))) ?_
      | refine G_val rfl rfl rfl rfl (V_add rfl rfl rfl) ?_
    refine G_val rfl rfl rfl rfl (V_assign rfl rfl) ?_
    refine G_done ?_
    refine G_sub ?_ [] ?_ (ih (i + 1) ?_ ?_)
    · (refine (And.intro ?_ (And.intro ?_ (And.intro ?_ trivial))) <;> first | rfl | exact slot_int (by omega) | exact slot_int (by simp))
    · exact ⟨_, rfl⟩
    · exact ⟨by omega, hlen, eq_next ht hx hy (Classical.not_not.1 (by assumption))⟩
    · (first | omega | (dsimp only; omega))
  refine G_exit rfl ?_
  refine G_seq ?_
  refine G_region (l := [0]) rfl ?_
  refine G_val rfl rfl rfl rfl (V_assign rfl rfl) ?_
  refine G_done ?_
  refine G_ret (post := []) Tryd.func51 rfl (RVs_cons (RV_tmp rfl) RVs_nil) [] rfl ?_
  dsimp only [packed]
  first
    | exact ⟨bool_eq (decide_eq_false (ne_len (by omega))).symm, rfl⟩
    | exact ⟨bool_eq (decide_eq_false (ne_at hx hy (by assumption))).symm, rfl⟩
    | exact ⟨bool_eq (decide_eq_true (eq_end ht (by omega) (by omega))).symm, rfl⟩

end
end Go.Proofs.YtbblkgdejgoncaaDoor
