/- The law ReplyDecodes: of any bytes the program says as the document does which reply they are, or that they are none; a reply that was read is written as just these bytes; the call returns true and leaves nothing turned. -/
import Derived.Test.YtkidmbaakdaflaaReplyL
import Derived.Test.YtkidmbaakdaflaaReplyR
import Derived.Test.YtkidmbaakdaflaaReplyB
import Derived.Test.YtkidmbaakdaflaaLaw
set_option linter.unusedSimpArgs false
set_option linter.unusedVariables false
namespace Go.Proofs.Ytkidmbaakdaflaa
open Go.ChangeShapes Go.WideShapes Go.ChangeAt Go.RowKit

section
theorem infLawReplyDecodes_25 : Try.prog.info? 25 = some Try.t25 := by kernel_rfl


theorem repT_yes {r : Rp} {ls : List Lt} (hm : mayR r ls = true) : repT r ls = .tuple #[.string (bs (encR r ls)), .int .i64 0] := by unfold repT; rw [if_pos hm]
theorem dec_may2 (l : List UInt8) : mayR (decRp l) (decLs l) = true := by
  by_cases h : dEnd l = 0
  · exact dec_may l h
  · unfold decRp decLs
    rw [if_neg h, if_neg h]
    decide
theorem decLs_ok (l : List UInt8) : ∀ x ∈ decLs l, LtOk x := fun x hx => (decLs_good l x hx).2
theorem decE_eq (l : List UInt8) : (dEnd l = 0 → decE l = 0) ∧ (¬ dEnd l = 0 → decE l = 3) := ⟨fun h => by unfold decE; exact if_pos h, fun h => by unfold decE; exact if_neg h⟩
attribute [local irreducible] decRp decLs decE dEnd

set_option maxRecDepth 100000 in
set_option maxHeartbeats 1000000 in
theorem replyDecodes_all (l : List UInt8) (hl : l.length ≤ 9223372036854775807) :
    Ct Try.prog 5 [.string (bs l)] [] [] fun v post => v = .bool true ∧ post = [] := by
 have hmay := dec_may2 l
 have hok := decLs_ok l
 refine ct_of Try.func5 rfl rfl (fun w0 => ?_)
 show G _ _ [(0, _)] _ _
 refine G_seq ?_
 refine G_region (l := [0]) rfl ?_
 refine G_val rfl rfl rfl rfl (V_assign rfl rfl) ?_
 refine G_done ?_
 refine G_seq ?_
 refine G_seq ?_
 refine G_region (l := [0, 1, 2]) rfl ?_
 refine G_val rfl rfl rfl rfl (V_move rfl rfl) ?_
 refine G_val rfl rfl rfl rfl (V_slen rfl rfl Try.underlying9 rfl) ?_
 refine G_val rfl rfl rfl rfl (V_gtr rfl rfl rfl) ?_
 refine G_done ?_
 refine G_ifD rfl (fun hc1 => ?_) (fun hc1 => ?_)
 · skip
   refine G_seq ?_
   refine G_region (l := [0, 1]) rfl ?_
   refine G_call (L2 := []) rfl rfl rfl rfl rfl rfl Try.call13 (rl_live) [] [] rfl rfl ?_
   rintro v post ⟨rfl, rfl⟩
   refine G_val rfl rfl rfl rfl (V_assign rfl rfl) ?_
   refine G_done ?_
   refine G_ret (post := []) Try.func5 rfl (RVs_cons (RV_tmp rfl) RVs_nil) [] rfl ?_
   dsimp only [packed]
   exact ⟨rfl, rfl⟩
 refine G_skip ?_
 refine G_seq ?_
 refine G_region (l := [0, 1, 2, 3, 4, 5, 6, 7]) rfl ?_
 refine G_val rfl rfl rfl rfl (V_move rfl rfl) ?_
 refine G_call (L2 := []) rfl rfl rfl rfl rfl rfl Try.call21 (rep_decode l (by omega)) [] [] rfl rfl ?_
 rintro v post ⟨u1, hu1, rfl, rfl⟩
 show G _ _ _ [_] _
 refine G_val rfl rfl rfl rfl (V_move rfl rfl) ?_
 refine G_val rfl rfl rfl rfl (V_extract rfl rfl rfl) ?_
 refine G_val rfl rfl rfl rfl (V_extract rfl rfl rfl) ?_
 refine G_new rfl rfl rfl rfl (N_allocA rfl infLawReplyDecodes_25 rfl) (fun b3 => ?_)
 refine G_put (l1 := []) (L' := [_, _]) rfl rfl rfl rfl (P_storeA (s := 12) rfl rfl rfl (mem_at 0 rfl) (by first | rfl | (simp [bcells_length, ltCells, ltCells, ltCells, rpCells, Sl.v, rpCells, Sl.v]; done) | (simp [bcells_length, ltCells, ltCells, ltCells, rpCells, Sl.v, rpCells, Sl.v]; omega) | (simp [bcells_length, *, ltCells, ltCells, ltCells, rpCells, Sl.v, rpCells, Sl.v]; done)) infLawReplyDecodes_25 rfl (by first | rfl | (simp [bcells_length, ltCells, ltCells, ltCells, rpCells, Sl.v, rpCells, Sl.v]; done) | (simp [bcells_length, ltCells, ltCells, ltCells, rpCells, Sl.v, rpCells, Sl.v]; omega) | (simp [bcells_length, *, ltCells, ltCells, ltCells, rpCells, Sl.v, rpCells, Sl.v]; done)) (by first | rfl | exact bcells_all _ | (simp [Value.oneCell', ltCells, ltCells, ltCells, rpCells, Sl.v, rpCells, Sl.v]; done) | (simp [Value.oneCell', *, ltCells, ltCells, ltCells, rpCells, Sl.v, rpCells, Sl.v]; done))) rfl ?_
 refine G_val rfl rfl rfl rfl (V_assign rfl rfl) ?_
 refine G_done ?_
 refine G_seq ?_
 refine G_region (l := [0, 1, 2, 3, 4, 5, 6, 7]) rfl ?_
 refine G_val rfl rfl rfl rfl (V_move rfl rfl) ?_
 refine G_call (L2 := [_, _]) rfl rfl rfl rfl rfl rfl Try.call22 (rr_decode l (by omega)) [] [] rfl rfl ?_
 rintro v post ⟨u2, hu2, rfl, rfl⟩
 show G _ _ _ [_, _, _] _
 refine G_val rfl rfl rfl rfl (V_move rfl rfl) ?_
 refine G_val rfl rfl rfl rfl (V_extract rfl rfl rfl) ?_
 refine G_val rfl rfl rfl rfl (V_extract rfl rfl rfl) ?_
 refine G_new rfl rfl rfl rfl (N_allocA rfl infLawReplyDecodes_25 rfl) (fun b5 => ?_)
 refine G_put (l1 := []) (L' := [_, _, _, _]) rfl rfl rfl rfl (P_storeA (s := 12) rfl rfl rfl (mem_at 0 rfl) (by first | rfl | (simp [bcells_length, ltCells, ltCells, ltCells, rpCells, Sl.v, rpCells, Sl.v]; done) | (simp [bcells_length, ltCells, ltCells, ltCells, rpCells, Sl.v, rpCells, Sl.v]; omega) | (simp [bcells_length, *, ltCells, ltCells, ltCells, rpCells, Sl.v, rpCells, Sl.v]; done)) infLawReplyDecodes_25 rfl (by first | rfl | (simp [bcells_length, ltCells, ltCells, ltCells, rpCells, Sl.v, rpCells, Sl.v]; done) | (simp [bcells_length, ltCells, ltCells, ltCells, rpCells, Sl.v, rpCells, Sl.v]; omega) | (simp [bcells_length, *, ltCells, ltCells, ltCells, rpCells, Sl.v, rpCells, Sl.v]; done)) (by first | rfl | exact bcells_all _ | (simp [Value.oneCell', ltCells, ltCells, ltCells, rpCells, Sl.v, rpCells, Sl.v]; done) | (simp [Value.oneCell', *, ltCells, ltCells, ltCells, rpCells, Sl.v, rpCells, Sl.v]; done))) rfl ?_
 refine G_val rfl rfl rfl rfl (V_assign rfl rfl) ?_
 refine G_done ?_
 refine G_seq ?_
 refine G_seq ?_
 by_cases hd : dEnd l = 0
 · skip
   refine G_region (l := [0, 1, 2, 3, 4, 5, 6, 7, 8, 9]) rfl ?_
   first
     | refine G_val rfl rfl rfl rfl (V_loadW (s := 12) rfl rfl (mem_at 2 rfl) Try.underlying25 rfl infLawReplyDecodes_25 rfl (by first | rfl | (simp [bcells_length, ltCells, ltCells, ltCells, rpCells, Sl.v, rpCells, Sl.v]; done) | (simp [bcells_length, ltCells, ltCells, ltCells, rpCells, Sl.v, rpCells, Sl.v]; omega) | (simp [bcells_length, *, ltCells, ltCells, ltCells, rpCells, Sl.v, rpCells, Sl.v]; done))) ?_
     | refine G_val rfl rfl rfl rfl (V_loadA (s := 12) rfl rfl (mem_at 2 rfl) Try.underlying25 rfl infLawReplyDecodes_25 rfl rfl (by first | rfl | (simp [bcells_length, ltCells, ltCells, ltCells, rpCells, Sl.v, rpCells, Sl.v]; done) | (simp [bcells_length, ltCells, ltCells, ltCells, rpCells, Sl.v, rpCells, Sl.v]; omega) | (simp [bcells_length, *, ltCells, ltCells, ltCells, rpCells, Sl.v, rpCells, Sl.v]; done))) ?_
   first
     | refine G_val rfl rfl rfl rfl (V_loadW (s := 12) rfl rfl (mem_at 0 rfl) Try.underlying25 rfl infLawReplyDecodes_25 rfl (by first | rfl | (simp [bcells_length, ltCells, ltCells, ltCells, rpCells, Sl.v, rpCells, Sl.v]; done) | (simp [bcells_length, ltCells, ltCells, ltCells, rpCells, Sl.v, rpCells, Sl.v]; omega) | (simp [bcells_length, *, ltCells, ltCells, ltCells, rpCells, Sl.v, rpCells, Sl.v]; done))) ?_
     | refine G_val rfl rfl rfl rfl (V_loadA (s := 12) rfl rfl (mem_at 0 rfl) Try.underlying25 rfl infLawReplyDecodes_25 rfl rfl (by first | rfl | (simp [bcells_length, ltCells, ltCells, ltCells, rpCells, Sl.v, rpCells, Sl.v]; done) | (simp [bcells_length, ltCells, ltCells, ltCells, rpCells, Sl.v, rpCells, Sl.v]; omega) | (simp [bcells_length, *, ltCells, ltCells, ltCells, rpCells, Sl.v, rpCells, Sl.v]; done))) ?_
   refine G_call (L2 := [_, _, _, _]) rfl rfl rfl rfl rfl rfl Try.call15 (rrep_same (decRp l) (decRp l) _ _ _ _ _ _ (decLs l) hu1.sees hok _ _ _ _ _ _ (decLs l) hu2.sees hok) [] [3, 1] rfl rfl ?_
   rintro v post ⟨rfl, rfl⟩
   show G _ _ _ [_, _, _, _] _
   refine G_val rfl rfl rfl rfl (V_not rfl rfl) ?_
   refine G_val rfl rfl rfl rfl (V_move rfl rfl) ?_
   refine G_split 27 rfl (fun hc2 => ?_) (fun hc2 => ?_)
   · (first | (exact absurd rfl hc2) | (rw [same_self] at hc2; exact absurd hc2 (by decide)) | (exact absurd (dec_back l hd) hc2) | (exfalso; omega))
   refine G_val rfl rfl rfl rfl (V_move rfl rfl) ?_
   refine G_call (L2 := [_, _, _, _]) rfl rfl rfl rfl rfl rfl Try.call18 (rl_num _) [] [] rfl rfl ?_
   rintro v post ⟨rfl, rfl⟩
   show G _ _ _ [_, _, _, _] _
   refine G_val rfl rfl rfl rfl (V_move rfl rfl) ?_
   refine G_val rfl rfl rfl rfl (V_neq rfl rfl rfl) ?_
   refine G_val rfl rfl rfl rfl (V_pickF rfl rfl rfl) ?_
   refine G_done ?_
   refine G_ifD rfl (fun hc3 => ?_) (fun hc3 => ?_)
   · (first | (exact absurd rfl hc3) | (rw [same_self] at hc3; exact absurd hc3 (by decide)) | (exact absurd (dec_back l hd) hc3) | (exfalso; omega))
   refine G_skip ?_
   refine G_seq ?_
   have hE := decE_eq l
   first | replace hE := hE.1 hd | replace hE := hE.2 hd
   refine G_region (l := [0, 1, 2, 3, 4, 5, 6]) rfl ?_
   first
     | refine G_val rfl rfl rfl rfl (V_loadW (s := 12) rfl rfl (mem_at 2 rfl) Try.underlying25 rfl infLawReplyDecodes_25 rfl (by first | rfl | (simp [bcells_length, ltCells, ltCells, ltCells, rpCells, Sl.v, rpCells, Sl.v]; done) | (simp [bcells_length, ltCells, ltCells, ltCells, rpCells, Sl.v, rpCells, Sl.v]; omega) | (simp [bcells_length, *, ltCells, ltCells, ltCells, rpCells, Sl.v, rpCells, Sl.v]; done))) ?_
     | refine G_val rfl rfl rfl rfl (V_loadA (s := 12) rfl rfl (mem_at 2 rfl) Try.underlying25 rfl infLawReplyDecodes_25 rfl rfl (by first | rfl | (simp [bcells_length, ltCells, ltCells, ltCells, rpCells, Sl.v, rpCells, Sl.v]; done) | (simp [bcells_length, ltCells, ltCells, ltCells, rpCells, Sl.v, rpCells, Sl.v]; omega) | (simp [bcells_length, *, ltCells, ltCells, ltCells, rpCells, Sl.v, rpCells, Sl.v]; done))) ?_
   refine G_call (L2 := [_, _, _, _]) rfl rfl rfl rfl rfl rfl Try.call16 ((rep_encode (decRp l) _ _ _ _ _ _ (decLs l) hu1.sees hok).weaken (fun v post h => by rw [repT_yes hmay] at h; exact h)) [] [3] rfl rfl ?_
   rintro v post ⟨rfl, rfl⟩
   show G _ _ _ [_, _, _, _] _
   refine G_val rfl rfl rfl rfl (V_move rfl rfl) ?_
   refine G_val rfl rfl rfl rfl (V_extract rfl rfl rfl) ?_
   refine G_val rfl rfl rfl rfl (V_extract rfl rfl rfl) ?_
   refine G_val rfl rfl rfl rfl (V_assign rfl rfl) ?_
   refine G_val rfl rfl rfl rfl (V_assign rfl rfl) ?_
   refine G_done ?_
   refine G_seq ?_
   refine G_region (l := [0, 1, 2, 3, 4, 5, 6, 7, 8, 9, 10, 11, 12, 13, 14, 15]) rfl ?_
   refine G_val rfl rfl rfl rfl (V_move rfl rfl) ?_
   refine G_val rfl rfl rfl rfl (V_neq rfl rfl rfl) ?_
   refine G_val rfl rfl rfl rfl (V_move rfl rfl) ?_
   refine G_splitD 40 rfl (fun hc4 => ?_) (fun hc4 => ?_)
   · (first | (exact absurd rfl hc4) | (rw [same_self] at hc4; exact absurd hc4 (by decide)) | (exact absurd (dec_back l hd) hc4) | (exfalso; omega))
   refine G_val rfl rfl rfl rfl (V_move rfl rfl) ?_
   refine G_val rfl rfl rfl rfl (V_move rfl rfl) ?_
   refine G_val rfl rfl rfl rfl (V_seql rfl rfl rfl) ?_
   refine G_val rfl rfl rfl rfl (V_move rfl rfl) ?_
   refine G_splitD 44 rfl (fun hc5 => ?_) (fun hc5 => ?_)
   rotate_left
   · (first | (exact absurd rfl hc5) | (rw [same_self] at hc5; exact absurd hc5 (by decide)) | (exact absurd (dec_back l hd) hc5) | (exfalso; omega))
   refine G_val rfl rfl rfl rfl (V_move rfl rfl) ?_
   refine G_call (L2 := [_, _, _, _]) rfl rfl rfl rfl rfl rfl Try.call18 (rl_num _) [] [] rfl rfl ?_
   rintro v post ⟨rfl, rfl⟩
   show G _ _ _ [_, _, _, _] _
   refine G_val rfl rfl rfl rfl (V_eql rfl rfl rfl) ?_
   refine G_val rfl rfl rfl rfl (V_pickT rfl rfl rfl) ?_
   refine G_val rfl rfl rfl rfl (V_pickF rfl rfl rfl) ?_
   refine G_val rfl rfl rfl rfl (V_move rfl rfl) ?_
   refine G_splitD 50 rfl (fun hc6 => ?_) (fun hc6 => ?_)
   rotate_left
   · (first | (exact absurd rfl hc6) | (rw [same_self] at hc6; exact absurd hc6 (by decide)) | (exact absurd (dec_back l hd) hc6) | (exfalso; omega))
   refine G_call (L2 := [_, _, _, _]) rfl rfl rfl rfl rfl rfl Try.call13 (rl_live) [] [] rfl rfl ?_
   rintro v post ⟨rfl, rfl⟩
   show G _ _ _ [_, _, _, _] _
   refine G_val rfl rfl rfl rfl (V_pickT rfl rfl rfl) ?_
   refine G_val rfl rfl rfl rfl (V_assign rfl rfl) ?_
   refine G_done ?_
   refine G_ret (post := []) Try.func5 rfl (RVs_cons (RV_tmp rfl) RVs_nil) [] rfl ?_
   dsimp only [packed]
   exact ⟨rfl, rfl⟩
 · skip
   refine G_region (l := [0, 1, 2, 3, 4, 5, 6, 7, 8, 9]) rfl ?_
   first
     | refine G_val rfl rfl rfl rfl (V_loadW (s := 12) rfl rfl (mem_at 2 rfl) Try.underlying25 rfl infLawReplyDecodes_25 rfl (by first | rfl | (simp [bcells_length, ltCells, ltCells, ltCells, rpCells, Sl.v, rpCells, Sl.v]; done) | (simp [bcells_length, ltCells, ltCells, ltCells, rpCells, Sl.v, rpCells, Sl.v]; omega) | (simp [bcells_length, *, ltCells, ltCells, ltCells, rpCells, Sl.v, rpCells, Sl.v]; done))) ?_
     | refine G_val rfl rfl rfl rfl (V_loadA (s := 12) rfl rfl (mem_at 2 rfl) Try.underlying25 rfl infLawReplyDecodes_25 rfl rfl (by first | rfl | (simp [bcells_length, ltCells, ltCells, ltCells, rpCells, Sl.v, rpCells, Sl.v]; done) | (simp [bcells_length, ltCells, ltCells, ltCells, rpCells, Sl.v, rpCells, Sl.v]; omega) | (simp [bcells_length, *, ltCells, ltCells, ltCells, rpCells, Sl.v, rpCells, Sl.v]; done))) ?_
   first
     | refine G_val rfl rfl rfl rfl (V_loadW (s := 12) rfl rfl (mem_at 0 rfl) Try.underlying25 rfl infLawReplyDecodes_25 rfl (by first | rfl | (simp [bcells_length, ltCells, ltCells, ltCells, rpCells, Sl.v, rpCells, Sl.v]; done) | (simp [bcells_length, ltCells, ltCells, ltCells, rpCells, Sl.v, rpCells, Sl.v]; omega) | (simp [bcells_length, *, ltCells, ltCells, ltCells, rpCells, Sl.v, rpCells, Sl.v]; done))) ?_
     | refine G_val rfl rfl rfl rfl (V_loadA (s := 12) rfl rfl (mem_at 0 rfl) Try.underlying25 rfl infLawReplyDecodes_25 rfl rfl (by first | rfl | (simp [bcells_length, ltCells, ltCells, ltCells, rpCells, Sl.v, rpCells, Sl.v]; done) | (simp [bcells_length, ltCells, ltCells, ltCells, rpCells, Sl.v, rpCells, Sl.v]; omega) | (simp [bcells_length, *, ltCells, ltCells, ltCells, rpCells, Sl.v, rpCells, Sl.v]; done))) ?_
   refine G_call (L2 := [_, _, _, _]) rfl rfl rfl rfl rfl rfl Try.call15 (rrep_same (decRp l) (decRp l) _ _ _ _ _ _ (decLs l) hu1.sees hok _ _ _ _ _ _ (decLs l) hu2.sees hok) [] [3, 1] rfl rfl ?_
   rintro v post ⟨rfl, rfl⟩
   show G _ _ _ [_, _, _, _] _
   refine G_val rfl rfl rfl rfl (V_not rfl rfl) ?_
   refine G_val rfl rfl rfl rfl (V_move rfl rfl) ?_
   refine G_split 27 rfl (fun hc2 => ?_) (fun hc2 => ?_)
   · (first | (exact absurd rfl hc2) | (rw [same_self] at hc2; exact absurd hc2 (by decide)) | (exact absurd (dec_back l hd) hc2) | (exfalso; omega))
   refine G_val rfl rfl rfl rfl (V_move rfl rfl) ?_
   refine G_call (L2 := [_, _, _, _]) rfl rfl rfl rfl rfl rfl Try.call18 (rl_num _) [] [] rfl rfl ?_
   rintro v post ⟨rfl, rfl⟩
   show G _ _ _ [_, _, _, _] _
   refine G_val rfl rfl rfl rfl (V_move rfl rfl) ?_
   refine G_val rfl rfl rfl rfl (V_neq rfl rfl rfl) ?_
   refine G_val rfl rfl rfl rfl (V_pickF rfl rfl rfl) ?_
   refine G_done ?_
   refine G_ifD rfl (fun hc3 => ?_) (fun hc3 => ?_)
   · (first | (exact absurd rfl hc3) | (rw [same_self] at hc3; exact absurd hc3 (by decide)) | (exact absurd (dec_back l hd) hc3) | (exfalso; omega))
   refine G_skip ?_
   refine G_seq ?_
   have hE := decE_eq l
   first | replace hE := hE.1 hd | replace hE := hE.2 hd
   refine G_region (l := [0, 1, 2, 3, 4, 5, 6]) rfl ?_
   first
     | refine G_val rfl rfl rfl rfl (V_loadW (s := 12) rfl rfl (mem_at 2 rfl) Try.underlying25 rfl infLawReplyDecodes_25 rfl (by first | rfl | (simp [bcells_length, ltCells, ltCells, ltCells, rpCells, Sl.v, rpCells, Sl.v]; done) | (simp [bcells_length, ltCells, ltCells, ltCells, rpCells, Sl.v, rpCells, Sl.v]; omega) | (simp [bcells_length, *, ltCells, ltCells, ltCells, rpCells, Sl.v, rpCells, Sl.v]; done))) ?_
     | refine G_val rfl rfl rfl rfl (V_loadA (s := 12) rfl rfl (mem_at 2 rfl) Try.underlying25 rfl infLawReplyDecodes_25 rfl rfl (by first | rfl | (simp [bcells_length, ltCells, ltCells, ltCells, rpCells, Sl.v, rpCells, Sl.v]; done) | (simp [bcells_length, ltCells, ltCells, ltCells, rpCells, Sl.v, rpCells, Sl.v]; omega) | (simp [bcells_length, *, ltCells, ltCells, ltCells, rpCells, Sl.v, rpCells, Sl.v]; done))) ?_
   refine G_call (L2 := [_, _, _, _]) rfl rfl rfl rfl rfl rfl Try.call16 ((rep_encode (decRp l) _ _ _ _ _ _ (decLs l) hu1.sees hok).weaken (fun v post h => by rw [repT_yes hmay] at h; exact h)) [] [3] rfl rfl ?_
   rintro v post ⟨rfl, rfl⟩
   show G _ _ _ [_, _, _, _] _
   refine G_val rfl rfl rfl rfl (V_move rfl rfl) ?_
   refine G_val rfl rfl rfl rfl (V_extract rfl rfl rfl) ?_
   refine G_val rfl rfl rfl rfl (V_extract rfl rfl rfl) ?_
   refine G_val rfl rfl rfl rfl (V_assign rfl rfl) ?_
   refine G_val rfl rfl rfl rfl (V_assign rfl rfl) ?_
   refine G_done ?_
   refine G_seq ?_
   refine G_region (l := [0, 1, 2, 3, 4, 5, 6, 7, 8, 9, 10, 11, 12, 13, 14, 15]) rfl ?_
   refine G_val rfl rfl rfl rfl (V_move rfl rfl) ?_
   refine G_val rfl rfl rfl rfl (V_neq rfl rfl rfl) ?_
   refine G_val rfl rfl rfl rfl (V_move rfl rfl) ?_
   refine G_splitD 40 rfl (fun hc4 => ?_) (fun hc4 => ?_)
   rotate_left
   · (first | (exact absurd rfl hc4) | (rw [same_self] at hc4; exact absurd hc4 (by decide)) | (exact absurd (dec_back l hd) hc4) | (exfalso; omega))
   refine G_off rfl rfl rfl rfl ?_
   refine G_off rfl rfl rfl rfl ?_
   refine G_off rfl rfl rfl rfl ?_
   refine G_off rfl rfl rfl rfl ?_
   refine G_off rfl rfl rfl rfl ?_
   refine G_off rfl rfl rfl rfl ?_
   refine G_off rfl rfl rfl rfl ?_
   refine G_off rfl rfl rfl rfl ?_
   refine G_val rfl rfl rfl rfl (V_pickT rfl rfl rfl) ?_
   refine G_val rfl rfl rfl rfl (V_move rfl rfl) ?_
   refine G_call (L2 := [_, _, _, _]) rfl rfl rfl rfl rfl rfl Try.call13 (rl_live) [] [] rfl rfl ?_
   rintro v post ⟨rfl, rfl⟩
   show G _ _ _ [_, _, _, _] _
   refine G_val rfl rfl rfl rfl (V_pickT rfl rfl rfl) ?_
   refine G_val rfl rfl rfl rfl (V_assign rfl rfl) ?_
   refine G_done ?_
   refine G_ret (post := []) Try.func5 rfl (RVs_cons (RV_tmp rfl) RVs_nil) [] rfl ?_
   dsimp only [packed]
   exact ⟨rfl, rfl⟩


set_option maxRecDepth 100000 in
theorem replyDecodes_walk : LawWalk 5 Try.f5 := lawwalk_reads (fun W base args hs hval => by
  rw [Try.params5] at hs hval
  obtain ⟨l⟩ := args
  match l, hs with
  | [a], _ =>
    obtain ⟨h0, h1⟩ := hval 0 9 a rfl rfl
    obtain ⟨s, rfl, p⟩ := okc_str (okv_cell h0 Try.underlying9 rfl) Try.underlying9
    exact ⟨_, has_nil _, replyDecodes_all s p⟩)


theorem replyDecodes_holds : Rows.ReplyDecodesSaid :=
  OpenClaim.holds_of_wide 5 Try.f5 rfl rfl rfl rfl rfl rfl rfl ⟨rfl, rfl, rfl, rfl, rfl⟩ rfl rfl rfl rfl rfl (by kernel_rfl) Try.func5 (by kernel_rfl)
    (of_decide_eq_true (by kernel_rfl)) (by unfold Func.isWrapper; rw [if_neg (by decide +kernel)]; exact ⟨rfl, rfl⟩)
    (fun os started H enc _ => law_lifted (s := Rows.replyDecodesSpec) os started H enc Try.func5 (by kernel_rfl)
      (ChangeSpec.witness6 (enc := enc) (C := Try.checked) false ⟨#[], #[.string ByteArray.empty], []⟩ 8 (by kernel_rfl) (by kernel_rfl) (by kernel_rfl) (by kernel_rfl))
      rfl (by kernel_rfl) (by kernel_rfl) (by decide +kernel) (fun ds h => by match ds, h with | [_], _ => rfl) replyDecodes_walk)
#print axioms replyDecodes_holds

end
end Go.Proofs.Ytkidmbaakdaflaa
