/- The laws of layer 21: what they have in common. -/
import Derived.Test.YtkidmbaakdaflaaReplyW
import Derived.Test.YtkidmbaakdaflaaLaw3
set_option linter.unusedSimpArgs false
set_option linter.unusedVariables false
namespace Go.Proofs.Ytkidmbaakdaflaa
open Go Go.RowKit

section
theorem infReplyL_25 : Try.prog.info? 25 = some Try.t25 := by kernel_rfl
theorem plcReplyL_25 : placesOf Try.prog (Try.prog.fieldsOf 25) = some [(0, 1), (1, 1), (2, 1), (3, 1), (4, 1), (5, 1), (6, 1), (7, 1), (8, 1), (9, 1), (10, 1), (11, 1)] := by kernel_rfl


def liveRp : Rp := ⟨[], 0, 3, 0, 0, 0, 0, 0, 0, 0, []⟩
theorem live_enc : encR liveRp [] = [0, 0, 3, 0, 0, 0, 0, 0, 0, 0, 0, 0] := by
  have h0 : chain 0 = [0] := chain_small 0 (by omega)
  have h3 : chain 3 = [3] := chain_small 3 (by omega)
  simp [encR, encR0, encNums, Rp.nums, liveRp, text, chainI, h0, h3]
theorem live_may : mayR liveRp [] = true := by decide
theorem rep_live : Ct Try.prog 16 [.agg (rpCells liveRp (.slice none 0 0)).toArray] [(none, .cells #[] 0 (0, 0))] [] (fun v post => v = .tuple #[.string (bs [0, 0, 3, 0, 0, 0, 0, 0, 0, 0, 0, 0]), .int .i64 0] ∧ post = []) :=
  (rep_encode liveRp none 0 0 #[] 0 (0, 0) [] sees_nil (by simp)).weaken (fun v post h => by
    obtain ⟨h1, h2⟩ := h
    refine ⟨h1.trans ?_, h2⟩
    unfold repT
    rw [if_pos live_may, live_enc])
set_option maxRecDepth 100000 in
theorem lt_of_reads {W : World} {es : List Value} (hl : es.length = 6) (h : Reads Try.prog W 96 es) : ∃ l, es = ltCells l ∧ LtOk l := by
  match es, hl with
  | [v0, v1, v2, v3, v4, v5], _ =>
    obtain ⟨n0, e0, a0, b0⟩ := reads_int (reads_field (s := 1) (vs := [v0]) h Try.underlying96 0 _ rfl (by kernel_rfl) rfl) Try.underlying3
    obtain ⟨n1, e1, a1, b1⟩ := reads_int (reads_field (s := 1) (vs := [v1]) h Try.underlying96 1 _ rfl (by kernel_rfl) rfl) Try.underlying3
    obtain ⟨n2, e2, a2, b2⟩ := reads_int (reads_field (s := 1) (vs := [v2]) h Try.underlying96 2 _ rfl (by kernel_rfl) rfl) Try.underlying3
    obtain ⟨n3, e3, a3, b3⟩ := reads_int (reads_field (s := 1) (vs := [v3]) h Try.underlying96 3 _ rfl (by kernel_rfl) rfl) Try.underlying3
    obtain ⟨s4, e4, p4⟩ := reads_str (reads_field (s := 1) (vs := [v4]) h Try.underlying96 4 _ rfl (by kernel_rfl) rfl) Try.underlying9
    obtain ⟨n5, e5, a5, b5⟩ := reads_int (reads_field (s := 1) (vs := [v5]) h Try.underlying96 5 _ rfl (by kernel_rfl) rfl) Try.underlying94
    simp only [List.cons.injEq, and_true] at e0 e1 e2 e3 e4 e5
    subst e0 e1 e2 e3 e4 e5
    have a5 : (0 : Int) ≤ n5 := a5
    have b5 : n5 ≤ (18446744073709551615 : Int) := b5
    obtain ⟨m, rfl⟩ := Int.eq_ofNat_of_zero_le a5
    exact ⟨⟨n0, n1, n2, n3, s4, m⟩, rfl, ⟨a0, b0⟩, ⟨a1, b1⟩, ⟨a2, b2⟩, ⟨a3, b3⟩, p4, by show m < _; omega⟩
instance : Inhabited Lt := ⟨⟨0, 0, 0, 0, [], 0⟩⟩
set_option maxRecDepth 100000 in
theorem rp_types : Try.prog.cellTypes Try.prog.depth 25 = some [9, 22, 3, 3, 3, 3, 3, 3, 3, 3, 9, 23] := by kernel_rfl
set_option maxRecDepth 100000 in
theorem rp_of {W : World} {b : Nat} {v : Value} (h : Value.okWide Try.prog W .any b 25 v) (hr : Reads Try.prog W 25 v.cells.toList) :
    ∃ (r : Rp) (ob : Option Nat) (off cap : Nat) (c : Array Value) (T : TypeId) (fr : Nat × Nat) (ls : List Lt), v = .agg (rpCells r (sv ob off ls.length cap)).toArray ∧ RpOk r ∧ Sees 6 ob off cap c (ls.flatMap ltCells) ls.length ∧ (∀ l ∈ ls, LtOk l) ∧ ∀ b, ob = some b → W.heap[b]? = some (.cells c T fr) := by
  obtain ⟨cs, rfl, hl, hc⟩ := okv_agg (s := 12) h Try.underlying25 rfl rp_types (by kernel_rfl) rfl
  match cs, hl, hc, hr with
  | [v0, v1, v2, v3, v4, v5, v6, v7, v8, v9, v10, v11], _, hc, hr =>
    obtain ⟨s0, rfl, p0⟩ := okc_str (hc 0 v0 9 rfl rfl) Try.underlying9
    obtain ⟨n1, rfl, a1, b1⟩ := okc_int (hc 1 v1 22 rfl rfl) Try.underlying22
    obtain ⟨n2, rfl, a2, b2⟩ := okc_int (hc 2 v2 3 rfl rfl) Try.underlying3
    obtain ⟨n3, rfl, a3, b3⟩ := okc_int (hc 3 v3 3 rfl rfl) Try.underlying3
    obtain ⟨n4, rfl, a4, b4⟩ := okc_int (hc 4 v4 3 rfl rfl) Try.underlying3
    obtain ⟨n5, rfl, a5, b5⟩ := okc_int (hc 5 v5 3 rfl rfl) Try.underlying3
    obtain ⟨n6, rfl, a6, b6⟩ := okc_int (hc 6 v6 3 rfl rfl) Try.underlying3
    obtain ⟨n7, rfl, a7, b7⟩ := okc_int (hc 7 v7 3 rfl rfl) Try.underlying3
    obtain ⟨n8, rfl, a8, b8⟩ := okc_int (hc 8 v8 3 rfl rfl) Try.underlying3
    obtain ⟨n9, rfl, a9, b9⟩ := okc_int (hc 9 v9 3 rfl rfl) Try.underlying3
    obtain ⟨s10, rfl, p10⟩ := okc_str (hc 10 v10 9 rfl rfl) Try.underlying9
    obtain ⟨ob, off, cap, c, T, fr, ls, rfl, hs, hg, hb⟩ := reads_slice (sz := 6) (reads_field (s := 1) (vs := [v11]) hr Try.underlying25 11 _ rfl (by kernel_rfl) rfl) Try.underlying23 (by kernel_rfl) rfl (hc 11 v11 23 rfl rfl) ltCells lt_len LtOk (fun es hl h => lt_of_reads hl h)
    refine ⟨⟨s0, n1, n2, n3, n4, n5, n6, n7, n8, n9, s10⟩, ob, off, cap, c, T, fr, ls, rfl, ⟨p0, p10, ⟨a1, b1⟩, ?_⟩, hs, hg, hb⟩
    intro x hx
    simp only [Rp.nums, List.mem_cons, List.not_mem_nil, or_false] at hx
    rcases hx with rfl | rfl | rfl | rfl | rfl | rfl | rfl | rfl
    · exact ⟨a2, b2⟩
    · exact ⟨a3, b3⟩
    · exact ⟨a4, b4⟩
    · exact ⟨a5, b5⟩
    · exact ⟨a6, b6⟩
    · exact ⟨a7, b7⟩
    · exact ⟨a8, b8⟩
    · exact ⟨a9, b9⟩
theorem same_self (r : Rp) (ls : List Lt) : sameR r r ls ls = true := (sameR_iff _ _ _ _).2 ⟨rfl, rfl⟩

set_option maxRecDepth 100000 in
set_option maxHeartbeats 1000000 in
theorem rl_num (n : Int) :
    Ct Try.prog 18 [.int .i64 n] [] [] fun v post => v = .int .i64 n ∧ post = [] := by
 refine ct_of Try.func18 rfl rfl (fun w0 => ?_)
 show G _ _ [(0, _)] _ _
 refine G_seq ?_
 refine G_region (l := [0]) rfl ?_
 refine G_val rfl rfl rfl rfl (V_assign rfl rfl) ?_
 refine G_done ?_
 refine G_seq ?_
 refine G_region (l := [0, 1]) rfl ?_
 refine G_val rfl rfl rfl rfl (V_move rfl rfl) ?_
 refine G_val rfl rfl rfl rfl (V_assign rfl rfl) ?_
 refine G_done ?_
 refine G_ret (post := []) Try.func18 rfl (RVs_cons (RV_tmp rfl) RVs_nil) [] rfl ?_
 dsimp only [packed]
 exact ⟨rfl, rfl⟩

set_option maxRecDepth 100000 in
set_option maxHeartbeats 1000000 in
theorem rl_live  :
    Ct Try.prog 13 [] [] [] fun v post => v = .bool true ∧ post = [] := by
 refine ct_of Try.func13 rfl rfl (fun w0 => ?_)
 show G _ _ [] _ _
 refine G_seq ?_
 refine G_region (l := [0]) rfl ?_
 refine G_val rfl rfl rfl rfl (V_assign rfl rfl) ?_
 refine G_done ?_
 refine G_seq ?_
 refine G_addNone (.cells #[] 0 (0, 0)) ?_
 refine G_region (l := [0, 1, 2, 3, 4, 5, 6]) rfl ?_
 refine G_val rfl rfl rfl rfl (V_buildS (cs := [_, _, _, _, _, _, _, _, _, _, _, _]) rfl Try.underlying25 infReplyL_25 rfl plcReplyL_25 rfl rfl rfl) ?_
 refine G_call (L2 := [_]) rfl rfl rfl rfl rfl rfl Try.call16 rep_live [] [0] rfl rfl ?_
 rintro v post ⟨rfl, rfl⟩
 show G _ _ _ [_] _
 refine G_val rfl rfl rfl rfl (V_move rfl rfl) ?_
 refine G_val rfl rfl rfl rfl (V_extract rfl rfl rfl) ?_
 refine G_val rfl rfl rfl rfl (V_extract rfl rfl rfl) ?_
 refine G_val rfl rfl rfl rfl (V_assign rfl rfl) ?_
 refine G_val rfl rfl rfl rfl (V_assign rfl rfl) ?_
 refine G_done ?_
 refine G_seq ?_
 refine G_region (l := [0, 1, 2, 3, 4, 5, 6, 7]) rfl ?_
 refine G_val rfl rfl rfl rfl (V_move rfl rfl) ?_
 refine G_val rfl rfl rfl rfl (V_seql rfl rfl rfl) ?_
 refine G_val rfl rfl rfl rfl (V_move rfl rfl) ?_
 refine G_splitD 10 rfl (fun hc1 => ?_) (fun hc1 => ?_)
 rotate_left
 · (first | (exact absurd rfl hc1) | (exfalso; omega))
 refine G_val rfl rfl rfl rfl (V_move rfl rfl) ?_
 refine G_call (L2 := [_]) rfl rfl rfl rfl rfl rfl Try.call18 (rl_num _) [] [] rfl rfl ?_
 rintro v post ⟨rfl, rfl⟩
 show G _ _ _ [_] _
 refine G_val rfl rfl rfl rfl (V_eql rfl rfl rfl) ?_
 refine G_val rfl rfl rfl rfl (V_pickT rfl rfl rfl) ?_
 refine G_val rfl rfl rfl rfl (V_assign rfl rfl) ?_
 refine G_done ?_
 refine G_ret (post := []) Try.func13 rfl (RVs_cons (RV_tmp rfl) RVs_nil) [] rfl ?_
 dsimp only [packed]
 exact ⟨rfl, rfl⟩

end
end Go.Proofs.Ytkidmbaakdaflaa
