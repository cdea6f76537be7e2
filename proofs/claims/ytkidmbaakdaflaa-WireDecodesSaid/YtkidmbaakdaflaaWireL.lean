/- The laws of layer 20: what they have in common. -/
import Derived.Test.YtkidmbaakdaflaaWireS
import Derived.Test.YtkidmbaakdaflaaRqL
set_option linter.unusedSimpArgs false
set_option linter.unusedVariables false
namespace Go.Proofs.Ytkidmbaakdaflaa
open Go Go.RowKit

section
theorem infWireL_40 : Try.prog.info? 40 = some Try.t40 := by kernel_rfl
theorem plcWireL_40 : placesOf Try.prog (Try.prog.fieldsOf 40) = some [(0, 1), (1, 1), (2, 1), (3, 1), (4, 1), (5, 1), (6, 1), (7, 1), (8, 1), (9, 1), (10, 1), (11, 1), (12, 1), (13, 1), (14, 1), (15, 1), (16, 1)] := by kernel_rfl


theorem wire3 (q : Rq) : (mayQ q = false ∧ wireE q = .tuple #[.string (bs []), .int .i64 1]) ∨ ((mayQ q = true ∧ 480 < (encQ q).length) ∧ wireE q = .tuple #[.string (bs []), .int .i64 4]) ∨ ((mayQ q = true ∧ ¬ 480 < (encQ q).length) ∧ wireE q = .tuple #[.string (bs (encQ q)), .int .i64 0]) := by
  cases h : mayQ q
  · exact .inl ⟨rfl, wireE_no (by rw [h]; rfl)⟩
  · by_cases hl : 480 < (encQ q).length
    · exact .inr (.inl ⟨⟨rfl, hl⟩, wireE_long (by rw [h]; rfl) (by omega)⟩)
    · exact .inr (.inr ⟨⟨rfl, hl⟩, wireE_yes (by rw [h]; rfl) (by omega)⟩)
def liveW : Rq := ⟨8, fun i => if i = 3 then [97] else [], fun _ => 0, false⟩
theorem liveW_ok : RqOk liveW := by
  refine ⟨by decide, fun i => ?_, fun i => ?_⟩
  · unfold liveW; simp only; split <;> simp
  · unfold liveW; simp only; omega
theorem liveW_enc : encQ liveW = [8, 1, 97] := by
  have h0 : chain 8 = [8] := chain_small 8 (by omega)
  have h1 : chain 1 = [1] := chain_small 1 (by omega)
  show chain 8 ++ (text [97] ++ []) = _
  unfold text
  rw [h0]
  show [8] ++ (chain 1 ++ [97] ++ []) = _
  rw [h1]; rfl
theorem liveW_may : mayQ liveW = true := by
  unfold mayQ
  rw [if_pos]
  refine ⟨by decide, ?_⟩
  show [110].all (okL liveW) = true
  decide
theorem live_wire : wireE liveW = .tuple #[.string (bs [8, 1, 97]), .int .i64 0] := by
  rw [wireE_yes (by rw [liveW_may]; rfl) (by rw [liveW_enc]; decide), liveW_enc]
theorem decQ_bare {l : List UInt8} (h : ¬ decW l = 0) : decQ l = rqBare 0 ∧ wireE (decQ l) = .tuple #[.string (bs []), .int .i64 1] := by
  have e : decQ l = rqBare 0 := by
    unfold decW at h
    unfold decQ
    split
    · rfl
    · rename_i hl
      rw [if_neg hl] at h
      split
      · rename_i hd; rw [if_pos hd] at h; exact absurd rfl h
      · rfl
  refine ⟨e, ?_⟩
  rw [e]
  exact wireE_no (by unfold mayQ; rw [if_neg]; rfl; rintro ⟨h1, _⟩; exact absurd h1 (by decide))
theorem wireE_back {l : List UInt8} (h : decW l = 0) : wireE (decQ l) = .tuple #[.string (bs l), .int .i64 0] := by
  obtain ⟨h1, h2, h3⟩ := wire_back l h
  rw [wireE_yes (by rw [h2]; rfl) (by rw [h1]; omega), h1]
theorem wire_decode2 (l : List UInt8) (hl : l.length ≤ 140737488350000) : Ct Try.prog 29 [.string (bs l)] [] [] (fun r post => r = .tuple #[.agg (rqCells (decQ l)).toArray, .int .i64 (decW l)] ∧ post = []) :=
  (rw_decode l hl).weaken (fun v post h => by rw [(dec_eq l).1, (dec_eq l).2] at h; exact h)
theorem wire_decode3 (q : Rq) (h : mayQ q = true) (hl : ¬ 480 < (encQ q).length) : Ct Try.prog 26 [.string (bs (encQ q))] [] [] (fun r post => r = .tuple #[.agg (rqCells (refRq q)).toArray, .int .i64 0] ∧ post = []) :=
  (wire_decode (encQ q) (by omega)).weaken (fun v post h' => by rw [(wire_there q h hl).1, (wire_there q h hl).2, refRq_cells] at h'; exact h')

set_option maxRecDepth 100000 in
set_option maxHeartbeats 1000000 in
theorem wl_num (n : Int) :
    Ct Try.prog 25 [.int .i64 n] [] [] fun v post => v = .int .i64 n ∧ post = [] := by
 refine ct_of Try.func25 rfl rfl (fun w0 => ?_)
 show G _ _ [(0, _)] _ _
 refine G_seq ?_
 refine G_region (l := [0]) rfl ?_
 refine G_val rfl rfl rfl rfl (V_assign rfl rfl) ?_
 refine G_done ?_
 refine G_seq ?_
 refine G_region (l := [0, 1]) rfl ?_
 refine G_val rfl rfl rfl rfl (V_move rfl rfl) ?_
 refine G_val rfl rfl rfl rfl (V_assign rfl rfl) ?_
 refine G_done ?_
 refine G_ret (post := []) Try.func25 rfl (RVs_cons (RV_tmp rfl) RVs_nil) [] rfl ?_
 dsimp only [packed]
 exact ⟨rfl, rfl⟩

set_option maxRecDepth 100000 in
set_option maxHeartbeats 1000000 in
theorem wl_live  :
    Ct Try.prog 28 [] [] [] fun v post => v = .bool true ∧ post = [] := by
 refine ct_of Try.func28 rfl rfl (fun w0 => ?_)
 show G _ _ [] _ _
 refine G_seq ?_
 refine G_region (l := [0]) rfl ?_
 refine G_val rfl rfl rfl rfl (V_assign rfl rfl) ?_
 refine G_done ?_
 refine G_seq ?_
 refine G_region (l := [0, 1, 2, 3, 4, 5, 6]) rfl ?_
 refine G_val rfl rfl rfl rfl (V_buildS (cs := [_, _, _, _, _, _, _, _, _, _, _, _, _, _, _, _, _]) rfl Try.underlying40 infWireL_40 rfl plcWireL_40 rfl rfl rfl) ?_
 refine G_call (L2 := []) rfl rfl rfl rfl rfl rfl Try.call23 ((wire_encode liveW liveW_ok).weaken (fun v post h => by rw [live_wire] at h; exact h)) [] [] rfl rfl ?_
 rintro v post ⟨rfl, rfl⟩
 refine G_val rfl rfl rfl rfl (V_move rfl rfl) ?_
 refine G_val rfl rfl rfl rfl (V_extract rfl rfl rfl) ?_
 refine G_val rfl rfl rfl rfl (V_extract rfl rfl rfl) ?_
 refine G_val rfl rfl rfl rfl (V_assign rfl rfl) ?_
 refine G_val rfl rfl rfl rfl (V_assign rfl rfl) ?_
 refine G_done ?_
 refine G_seq ?_
 refine G_region (l := [0, 1, 2, 3, 4, 5, 6, 7]) rfl ?_
 refine G_val rfl rfl rfl rfl (V_move rfl rfl) ?_
 refine G_val rfl rfl rfl rfl (V_seql rfl rfl rfl) ?_
 refine G_val rfl rfl rfl rfl (V_move rfl rfl) ?_
 refine G_splitD 10 rfl (fun hc1 => ?_) (fun hc1 => ?_)
 rotate_left
 · (first | (exact absurd rfl hc1) | (exfalso; omega))
 refine G_val rfl rfl rfl rfl (V_move rfl rfl) ?_
 refine G_call (L2 := []) rfl rfl rfl rfl rfl rfl Try.call25 (wl_num _) [] [] rfl rfl ?_
 rintro v post ⟨rfl, rfl⟩
 refine G_val rfl rfl rfl rfl (V_eql rfl rfl rfl) ?_
 refine G_val rfl rfl rfl rfl (V_pickT rfl rfl rfl) ?_
 refine G_val rfl rfl rfl rfl (V_assign rfl rfl) ?_
 refine G_done ?_
 refine G_ret (post := []) Try.func28 rfl (RVs_cons (RV_tmp rfl) RVs_nil) [] rfl ?_
 dsimp only [packed]
 exact ⟨rfl, rfl⟩

end
end Go.Proofs.Ytkidmbaakdaflaa
