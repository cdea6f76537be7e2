/- The law WireDecodes: of any bytes the program says as the document does which request they are, or why they are none; a request that was read is written as just these bytes; the call returns true and leaves nothing turned. -/
import Derived.Test.YtkidmbaakdaflaaWireL
import Derived.Test.YtkidmbaakdaflaaLaw
set_option linter.unusedSimpArgs false
set_option linter.unusedVariables false
namespace Go.Proofs.Ytkidmbaakdaflaa
open Go.ChangeShapes Go.WideShapes Go.ChangeAt Go.RowKit

section
theorem infLawWireDecodes_40 : Try.prog.info? 40 = some Try.t40 := by kernel_rfl


attribute [local irreducible] decQ decW

set_option maxRecDepth 100000 in
set_option maxHeartbeats 1000000 in
theorem wireDecodes_all (l : List UInt8) (hl : l.length ≤ 9223372036854775807) :
    Ct Try.prog 7 [.string (bs l)] [] [] fun v post => v = .bool true ∧ post = [] := by
 have hok := decQ_ok l
 refine ct_of Try.func7 rfl rfl (fun w0 => ?_)
 show G _ _ [(0, _)] _ _
 refine G_seq ?_
 refine G_region (l := [0]) rfl ?_
 refine G_val rfl rfl rfl rfl (V_assign rfl rfl) ?_
 refine G_done ?_
 refine G_seq ?_
 refine G_seq ?_
 refine G_region (l := [0, 1, 2]) rfl ?_
 refine G_val rfl rfl rfl rfl (V_move rfl rfl) ?_
 refine G_val rfl rfl rfl rfl (V_slen rfl rfl Try.underlying9 rfl) ?_
 refine G_val rfl rfl rfl rfl (V_gtr rfl rfl rfl) ?_
 refine G_done ?_
 refine G_ifD rfl (fun hc1 => ?_) (fun hc1 => ?_)
 · skip
   refine G_seq ?_
   refine G_region (l := [0, 1]) rfl ?_
   refine G_call (L2 := []) rfl rfl rfl rfl rfl rfl Try.call28 (wl_live) [] [] rfl rfl ?_
   rintro v post ⟨rfl, rfl⟩
   refine G_val rfl rfl rfl rfl (V_assign rfl rfl) ?_
   refine G_done ?_
   refine G_ret (post := []) Try.func7 rfl (RVs_cons (RV_tmp rfl) RVs_nil) [] rfl ?_
   dsimp only [packed]
   exact ⟨rfl, rfl⟩
 refine G_skip ?_
 refine G_seq ?_
 refine G_region (l := [0, 1, 2, 3, 4, 5, 6, 7]) rfl ?_
 refine G_val rfl rfl rfl rfl (V_move rfl rfl) ?_
 refine G_call (L2 := []) rfl rfl rfl rfl rfl rfl Try.call26 (wire_decode l (by omega)) [] [] rfl rfl ?_
 rintro v post ⟨rfl, rfl⟩
 refine G_val rfl rfl rfl rfl (V_move rfl rfl) ?_
 refine G_val rfl rfl rfl rfl (V_extract rfl rfl rfl) ?_
 refine G_val rfl rfl rfl rfl (V_extract rfl rfl rfl) ?_
 refine G_new rfl rfl rfl rfl (N_allocA rfl infLawWireDecodes_40 rfl) (fun b3 => ?_)
 refine G_put (l1 := []) (L' := [_]) rfl rfl rfl rfl (P_storeA (s := 17) rfl rfl rfl (mem_at 0 rfl) (by first | rfl | (simp [bcells_length, rqCells, rqCells, rqCells, rqCells, rqCells, rqCells, rqCells, rqCells]; done) | (simp [bcells_length, rqCells, rqCells, rqCells, rqCells, rqCells, rqCells, rqCells, rqCells]; omega) | (simp [bcells_length, *, rqCells, rqCells, rqCells, rqCells, rqCells, rqCells, rqCells, rqCells]; done)) infLawWireDecodes_40 rfl (by first | rfl | (simp [bcells_length, rqCells, rqCells, rqCells, rqCells, rqCells, rqCells, rqCells, rqCells]; done) | (simp [bcells_length, rqCells, rqCells, rqCells, rqCells, rqCells, rqCells, rqCells, rqCells]; omega) | (simp [bcells_length, *, rqCells, rqCells, rqCells, rqCells, rqCells, rqCells, rqCells, rqCells]; done)) (by first | rfl | exact bcells_all _ | (simp [Value.oneCell', rqCells, rqCells, rqCells, rqCells, rqCells, rqCells, rqCells, rqCells]; done) | (simp [Value.oneCell', *, rqCells, rqCells, rqCells, rqCells, rqCells, rqCells, rqCells, rqCells]; done))) rfl ?_
 refine G_val rfl rfl rfl rfl (V_assign rfl rfl) ?_
 refine G_done ?_
 refine G_seq ?_
 refine G_region (l := [0, 1, 2, 3, 4, 5, 6, 7]) rfl ?_
 refine G_val rfl rfl rfl rfl (V_move rfl rfl) ?_
 refine G_call (L2 := [_]) rfl rfl rfl rfl rfl rfl Try.call29 (wire_decode2 l (by omega)) [] [] rfl rfl ?_
 rintro v post ⟨rfl, rfl⟩
 show G _ _ _ [_] _
 refine G_val rfl rfl rfl rfl (V_move rfl rfl) ?_
 refine G_val rfl rfl rfl rfl (V_extract rfl rfl rfl) ?_
 refine G_val rfl rfl rfl rfl (V_extract rfl rfl rfl) ?_
 refine G_new rfl rfl rfl rfl (N_allocA rfl infLawWireDecodes_40 rfl) (fun b5 => ?_)
 refine G_put (l1 := []) (L' := [_, _]) rfl rfl rfl rfl (P_storeA (s := 17) rfl rfl rfl (mem_at 0 rfl) (by first | rfl | (simp [bcells_length, rqCells, rqCells, rqCells, rqCells, rqCells, rqCells, rqCells, rqCells]; done) | (simp [bcells_length, rqCells, rqCells, rqCells, rqCells, rqCells, rqCells, rqCells, rqCells]; omega) | (simp [bcells_length, *, rqCells, rqCells, rqCells, rqCells, rqCells, rqCells, rqCells, rqCells]; done)) infLawWireDecodes_40 rfl (by first | rfl | (simp [bcells_length, rqCells, rqCells, rqCells, rqCells, rqCells, rqCells, rqCells, rqCells]; done) | (simp [bcells_length, rqCells, rqCells, rqCells, rqCells, rqCells, rqCells, rqCells, rqCells]; omega) | (simp [bcells_length, *, rqCells, rqCells, rqCells, rqCells, rqCells, rqCells, rqCells, rqCells]; done)) (by first | rfl | exact bcells_all _ | (simp [Value.oneCell', rqCells, rqCells, rqCells, rqCells, rqCells, rqCells, rqCells, rqCells]; done) | (simp [Value.oneCell', *, rqCells, rqCells, rqCells, rqCells, rqCells, rqCells, rqCells, rqCells]; done))) rfl ?_
 refine G_val rfl rfl rfl rfl (V_assign rfl rfl) ?_
 refine G_done ?_
 refine G_seq ?_
 refine G_seq ?_
 refine G_region (l := [0, 1, 2, 3, 4, 5, 6, 7, 8]) rfl ?_
 first
   | refine G_val rfl rfl rfl rfl (V_loadW (s := 17) rfl rfl (mem_at 1 rfl) Try.underlying40 rfl infLawWireDecodes_40 rfl (by first | rfl | (simp [bcells_length, rqCells, rqCells, rqCells, rqCells, rqCells, rqCells, rqCells, rqCells]; done) | (simp [bcells_length, rqCells, rqCells, rqCells, rqCells, rqCells, rqCells, rqCells, rqCells]; omega) | (simp [bcells_length, *, rqCells, rqCells, rqCells, rqCells, rqCells, rqCells, rqCells, rqCells]; done))) ?_
   | refine G_val rfl rfl rfl rfl (V_loadA (s := 17) rfl rfl (mem_at 1 rfl) Try.underlying40 rfl infLawWireDecodes_40 rfl rfl (by first | rfl | (simp [bcells_length, rqCells, rqCells, rqCells, rqCells, rqCells, rqCells, rqCells, rqCells]; done) | (simp [bcells_length, rqCells, rqCells, rqCells, rqCells, rqCells, rqCells, rqCells, rqCells]; omega) | (simp [bcells_length, *, rqCells, rqCells, rqCells, rqCells, rqCells, rqCells, rqCells, rqCells]; done))) ?_
 first
   | refine G_val rfl rfl rfl rfl (V_loadW (s := 17) rfl rfl (mem_at 0 rfl) Try.underlying40 rfl infLawWireDecodes_40 rfl (by first | rfl | (simp [bcells_length, rqCells, rqCells, rqCells, rqCells, rqCells, rqCells, rqCells, rqCells]; done) | (simp [bcells_length, rqCells, rqCells, rqCells, rqCells, rqCells, rqCells, rqCells, rqCells]; omega) | (simp [bcells_length, *, rqCells, rqCells, rqCells, rqCells, rqCells, rqCells, rqCells, rqCells]; done))) ?_
   | refine G_val rfl rfl rfl rfl (V_loadA (s := 17) rfl rfl (mem_at 0 rfl) Try.underlying40 rfl infLawWireDecodes_40 rfl rfl (by first | rfl | (simp [bcells_length, rqCells, rqCells, rqCells, rqCells, rqCells, rqCells, rqCells, rqCells]; done) | (simp [bcells_length, rqCells, rqCells, rqCells, rqCells, rqCells, rqCells, rqCells, rqCells]; omega) | (simp [bcells_length, *, rqCells, rqCells, rqCells, rqCells, rqCells, rqCells, rqCells, rqCells]; done))) ?_
 refine G_val rfl rfl rfl rfl (V_aggneq (m := 6) rfl Try.eqGuardType40 (by kernel_rfl) (by decide) (formed_of Try.underlying40 rfl (by kernel_rfl : Try.prog.cellsOf 40 = 17) (by first | rfl | (simp [bcells_length, rqCells, rqCells, rqCells, rqCells, rqCells, rqCells, rqCells, rqCells]; done) | (simp [bcells_length, rqCells, rqCells, rqCells, rqCells, rqCells, rqCells, rqCells, rqCells]; omega) | (simp [bcells_length, *, rqCells, rqCells, rqCells, rqCells, rqCells, rqCells, rqCells, rqCells]; done))) (formed_of Try.underlying40 rfl (by kernel_rfl : Try.prog.cellsOf 40 = 17) (by first | rfl | (simp [bcells_length, rqCells, rqCells, rqCells, rqCells, rqCells, rqCells, rqCells, rqCells]; done) | (simp [bcells_length, rqCells, rqCells, rqCells, rqCells, rqCells, rqCells, rqCells, rqCells]; omega) | (simp [bcells_length, *, rqCells, rqCells, rqCells, rqCells, rqCells, rqCells, rqCells, rqCells]; done))) rfl rfl (key_rq _ hok) (key_rq _ hok)) ?_
 refine G_val rfl rfl rfl rfl (V_move rfl rfl) ?_
 refine G_splitD 26 rfl (fun hc2 => ?_) (fun hc2 => ?_)
 · (first | (exact absurd rfl hc2) | (exfalso; omega))
 refine G_val rfl rfl rfl rfl (V_move rfl rfl) ?_
 refine G_call (L2 := [_, _]) rfl rfl rfl rfl rfl rfl Try.call25 (wl_num _) [] [] rfl rfl ?_
 rintro v post ⟨rfl, rfl⟩
 show G _ _ _ [_, _] _
 refine G_val rfl rfl rfl rfl (V_move rfl rfl) ?_
 refine G_val rfl rfl rfl rfl (V_neq rfl rfl rfl) ?_
 refine G_val rfl rfl rfl rfl (V_pickF rfl rfl rfl) ?_
 refine G_done ?_
 refine G_ifD rfl (fun hc3 => ?_) (fun hc3 => ?_)
 · (first | (exact absurd rfl hc3) | (exfalso; omega))
 refine G_skip ?_
 refine G_seq ?_
 by_cases hd : decW l = 0
 · skip
   refine G_region (l := [0, 1, 2, 3, 4, 5, 6]) rfl ?_
   first
     | refine G_val rfl rfl rfl rfl (V_loadW (s := 17) rfl rfl (mem_at 1 rfl) Try.underlying40 rfl infLawWireDecodes_40 rfl (by first | rfl | (simp [bcells_length, rqCells, rqCells, rqCells, rqCells, rqCells, rqCells, rqCells, rqCells]; done) | (simp [bcells_length, rqCells, rqCells, rqCells, rqCells, rqCells, rqCells, rqCells, rqCells]; omega) | (simp [bcells_length, *, rqCells, rqCells, rqCells, rqCells, rqCells, rqCells, rqCells, rqCells]; done))) ?_
     | refine G_val rfl rfl rfl rfl (V_loadA (s := 17) rfl rfl (mem_at 1 rfl) Try.underlying40 rfl infLawWireDecodes_40 rfl rfl (by first | rfl | (simp [bcells_length, rqCells, rqCells, rqCells, rqCells, rqCells, rqCells, rqCells, rqCells]; done) | (simp [bcells_length, rqCells, rqCells, rqCells, rqCells, rqCells, rqCells, rqCells, rqCells]; omega) | (simp [bcells_length, *, rqCells, rqCells, rqCells, rqCells, rqCells, rqCells, rqCells, rqCells]; done))) ?_
   refine G_call (L2 := [_, _]) rfl rfl rfl rfl rfl rfl Try.call23 ((wire_encode (decQ l) hok).weaken (fun v post h => by rw [wireE_back hd] at h; exact h)) [] [] rfl rfl ?_
   rintro v post ⟨rfl, rfl⟩
   show G _ _ _ [_, _] _
   refine G_val rfl rfl rfl rfl (V_move rfl rfl) ?_
   refine G_val rfl rfl rfl rfl (V_extract rfl rfl rfl) ?_
   refine G_val rfl rfl rfl rfl (V_extract rfl rfl rfl) ?_
   refine G_val rfl rfl rfl rfl (V_assign rfl rfl) ?_
   refine G_val rfl rfl rfl rfl (V_assign rfl rfl) ?_
   refine G_done ?_
   refine G_seq ?_
   refine G_region (l := [0, 1, 2, 3, 4, 5, 6, 7, 8, 9, 10, 11, 12, 13, 14, 15]) rfl ?_
   refine G_val rfl rfl rfl rfl (V_move rfl rfl) ?_
   refine G_val rfl rfl rfl rfl (V_neq rfl rfl rfl) ?_
   refine G_val rfl rfl rfl rfl (V_move rfl rfl) ?_
   refine G_splitD 39 rfl (fun hc4 => ?_) (fun hc4 => ?_)
   · (first | (exact absurd rfl hc4) | (exfalso; omega))
   refine G_val rfl rfl rfl rfl (V_move rfl rfl) ?_
   refine G_val rfl rfl rfl rfl (V_move rfl rfl) ?_
   refine G_val rfl rfl rfl rfl (V_seql rfl rfl rfl) ?_
   refine G_val rfl rfl rfl rfl (V_move rfl rfl) ?_
   refine G_splitD 43 rfl (fun hc5 => ?_) (fun hc5 => ?_)
   rotate_left
   · (first | (exact absurd rfl hc5) | (exfalso; omega))
   refine G_val rfl rfl rfl rfl (V_move rfl rfl) ?_
   refine G_call (L2 := [_, _]) rfl rfl rfl rfl rfl rfl Try.call25 (wl_num _) [] [] rfl rfl ?_
   rintro v post ⟨rfl, rfl⟩
   show G _ _ _ [_, _] _
   refine G_val rfl rfl rfl rfl (V_eql rfl rfl rfl) ?_
   refine G_val rfl rfl rfl rfl (V_pickT rfl rfl rfl) ?_
   refine G_val rfl rfl rfl rfl (V_pickF rfl rfl rfl) ?_
   refine G_val rfl rfl rfl rfl (V_move rfl rfl) ?_
   refine G_splitD 49 rfl (fun hc6 => ?_) (fun hc6 => ?_)
   rotate_left
   · (first | (exact absurd rfl hc6) | (exfalso; omega))
   refine G_call (L2 := [_, _]) rfl rfl rfl rfl rfl rfl Try.call28 (wl_live) [] [] rfl rfl ?_
   rintro v post ⟨rfl, rfl⟩
   show G _ _ _ [_, _] _
   refine G_val rfl rfl rfl rfl (V_pickT rfl rfl rfl) ?_
   refine G_val rfl rfl rfl rfl (V_assign rfl rfl) ?_
   refine G_done ?_
   refine G_ret (post := []) Try.func7 rfl (RVs_cons (RV_tmp rfl) RVs_nil) [] rfl ?_
   dsimp only [packed]
   exact ⟨rfl, rfl⟩
 · skip
   refine G_region (l := [0, 1, 2, 3, 4, 5, 6]) rfl ?_
   first
     | refine G_val rfl rfl rfl rfl (V_loadW (s := 17) rfl rfl (mem_at 1 rfl) Try.underlying40 rfl infLawWireDecodes_40 rfl (by first | rfl | (simp [bcells_length, rqCells, rqCells, rqCells, rqCells, rqCells, rqCells, rqCells, rqCells]; done) | (simp [bcells_length, rqCells, rqCells, rqCells, rqCells, rqCells, rqCells, rqCells, rqCells]; omega) | (simp [bcells_length, *, rqCells, rqCells, rqCells, rqCells, rqCells, rqCells, rqCells, rqCells]; done))) ?_
     | refine G_val rfl rfl rfl rfl (V_loadA (s := 17) rfl rfl (mem_at 1 rfl) Try.underlying40 rfl infLawWireDecodes_40 rfl rfl (by first | rfl | (simp [bcells_length, rqCells, rqCells, rqCells, rqCells, rqCells, rqCells, rqCells, rqCells]; done) | (simp [bcells_length, rqCells, rqCells, rqCells, rqCells, rqCells, rqCells, rqCells, rqCells]; omega) | (simp [bcells_length, *, rqCells, rqCells, rqCells, rqCells, rqCells, rqCells, rqCells, rqCells]; done))) ?_
   refine G_call (L2 := [_, _]) rfl rfl rfl rfl rfl rfl Try.call23 ((wire_encode (decQ l) hok).weaken (fun v post h => by rw [(decQ_bare hd).2] at h; exact h)) [] [] rfl rfl ?_
   rintro v post ⟨rfl, rfl⟩
   show G _ _ _ [_, _] _
   refine G_val rfl rfl rfl rfl (V_move rfl rfl) ?_
   refine G_val rfl rfl rfl rfl (V_extract rfl rfl rfl) ?_
   refine G_val rfl rfl rfl rfl (V_extract rfl rfl rfl) ?_
   refine G_val rfl rfl rfl rfl (V_assign rfl rfl) ?_
   refine G_val rfl rfl rfl rfl (V_assign rfl rfl) ?_
   refine G_done ?_
   refine G_seq ?_
   refine G_region (l := [0, 1, 2, 3, 4, 5, 6, 7, 8, 9, 10, 11, 12, 13, 14, 15]) rfl ?_
   refine G_val rfl rfl rfl rfl (V_move rfl rfl) ?_
   refine G_val rfl rfl rfl rfl (V_neq rfl rfl rfl) ?_
   refine G_val rfl rfl rfl rfl (V_move rfl rfl) ?_
   refine G_splitD 39 rfl (fun hc4 => ?_) (fun hc4 => ?_)
   rotate_left
   · (first | (exact absurd rfl hc4) | (exfalso; omega))
   refine G_off rfl rfl rfl rfl ?_
   refine G_off rfl rfl rfl rfl ?_
   refine G_off rfl rfl rfl rfl ?_
   refine G_off rfl rfl rfl rfl ?_
   refine G_off rfl rfl rfl rfl ?_
   refine G_off rfl rfl rfl rfl ?_
   refine G_off rfl rfl rfl rfl ?_
   refine G_off rfl rfl rfl rfl ?_
   refine G_val rfl rfl rfl rfl (V_pickT rfl rfl rfl) ?_
   refine G_val rfl rfl rfl rfl (V_move rfl rfl) ?_
   refine G_call (L2 := [_, _]) rfl rfl rfl rfl rfl rfl Try.call28 (wl_live) [] [] rfl rfl ?_
   rintro v post ⟨rfl, rfl⟩
   show G _ _ _ [_, _] _
   refine G_val rfl rfl rfl rfl (V_pickT rfl rfl rfl) ?_
   refine G_val rfl rfl rfl rfl (V_assign rfl rfl) ?_
   refine G_done ?_
   refine G_ret (post := []) Try.func7 rfl (RVs_cons (RV_tmp rfl) RVs_nil) [] rfl ?_
   dsimp only [packed]
   exact ⟨rfl, rfl⟩


set_option maxRecDepth 100000 in
theorem wireDecodes_walk : LawWalk 7 Try.f7 := lawwalk_of (fun W base args hs hval => by
  rw [Try.params7] at hs hval
  obtain ⟨l⟩ := args
  match l, hs with
  | [a], _ =>
    obtain ⟨s, rfl, p⟩ := okc_str (okv_cell (hval 0 9 a rfl rfl) Try.underlying9 rfl) Try.underlying9
    exact ⟨_, has_nil _, wireDecodes_all s p⟩)


theorem wireDecodes_holds : Rows.WireDecodesSaid :=
  OpenClaim.holds_of_wide 7 Try.f7 rfl rfl rfl rfl rfl rfl rfl ⟨rfl, rfl, rfl, rfl, rfl⟩ rfl rfl rfl rfl rfl (by kernel_rfl) Try.func7 (by kernel_rfl)
    (of_decide_eq_true (by kernel_rfl)) (by unfold Func.isWrapper; rw [if_neg (by decide +kernel)]; exact ⟨rfl, rfl⟩)
    (fun os started H enc _ => law_lifted (s := Rows.wireDecodesSpec) os started H enc Try.func7 (by kernel_rfl)
      (ChangeSpec.witness6 (enc := enc) (C := Try.checked) false ⟨#[], #[.string ByteArray.empty], []⟩ 8 (by kernel_rfl) (by kernel_rfl) (by kernel_rfl) (by kernel_rfl))
      rfl (by kernel_rfl) (by kernel_rfl) (by decide +kernel) (fun ds h => by match ds, h with | [_], _ => rfl) wireDecodes_walk)
#print axioms wireDecodes_holds

end
end Go.Proofs.Ytkidmbaakdaflaa
