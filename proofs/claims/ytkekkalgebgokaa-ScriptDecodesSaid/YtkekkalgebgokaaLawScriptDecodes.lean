/- The law ScriptDecodes: of any bytes the program says as the document does which events they are, or that they are none; events that were read are written as just these bytes; the call returns true and leaves nothing turned. -/
import Derived.Test.YtkekkalgebgokaaScriptL
import Derived.Test.YtkekkalgebgokaaLaw4
set_option linter.unusedSimpArgs false
set_option linter.unusedVariables false
namespace Go.Proofs.Ytkekkalgebgokaa
open Go.ChangeShapes Go.WideShapes Go.ChangeAt Go.RowKit

section


set_option maxRecDepth 100000 in
set_option maxHeartbeats 1000000 in
theorem scriptDecodes_all (l : List UInt8) (hl : l.length ≤ 9223372036854775807) :
    Ct Try.prog 6 [.string (bs l)] [] [] fun v post => v = .bool true ∧ post = [] := by
 refine ct_of Try.func6 rfl rfl (fun w0 => ?_)
 show G _ _ [(0, _)] _ _
 refine G_seq ?_
 refine G_region (l := [0]) rfl ?_
 refine G_val rfl rfl rfl rfl (V_assign rfl rfl) ?_
 refine G_done ?_
 refine G_seq ?_
 refine G_seq ?_
 refine G_region (l := [0, 1, 2]) rfl ?_
 refine G_val rfl rfl rfl rfl (V_move rfl rfl) ?_
 refine G_val rfl rfl rfl rfl (V_slen rfl rfl Try.underlying9 rfl) ?_
 refine G_val rfl rfl rfl rfl (V_gtr rfl rfl rfl) ?_
 refine G_done ?_
 refine G_ifD rfl (fun hc1 => ?_) (fun hc1 => ?_)
 · skip
   refine G_seq ?_
   refine G_region (l := [0, 1]) rfl ?_
   refine G_call (L2 := []) rfl rfl rfl rfl rfl rfl Try.call20 (rl_live) [] [] rfl rfl ?_
   rintro v post ⟨rfl, rfl⟩
   refine G_val rfl rfl rfl rfl (V_assign rfl rfl) ?_
   refine G_done ?_
   refine G_ret (post := []) Try.func6 rfl (RVs_cons (RV_tmp rfl) RVs_nil) [] rfl ?_
   dsimp only [packed]
   exact ⟨rfl, rfl⟩
 refine G_skip ?_
 refine G_seq ?_
 refine G_region (l := [0, 1, 2, 3, 4, 5, 6]) rfl ?_
 refine G_val rfl rfl rfl rfl (V_move rfl rfl) ?_
 refine G_call (L2 := []) rfl rfl rfl rfl rfl rfl Try.call26 (sc_decode l (by omega)) [] [] rfl rfl ?_
 rintro v post ⟨u, ms, c, hu, hoks, hml, hd1, rfl, rfl⟩
 refine G_perm (perm_in0 [_] [] _) ?_
 show G _ _ _ (_ :: _) _
 refine G_val rfl rfl rfl rfl (V_move rfl rfl) ?_
 refine G_val rfl rfl rfl rfl (V_extract rfl rfl rfl) ?_
 refine G_val rfl rfl rfl rfl (V_extract rfl rfl rfl) ?_
 refine G_val rfl rfl rfl rfl (V_assign rfl rfl) ?_
 refine G_val rfl rfl rfl rfl (V_assign rfl rfl) ?_
 refine G_done ?_
 refine G_seq ?_
 refine G_region (l := [0, 1, 2, 3, 4, 5, 6]) rfl ?_
 refine G_val rfl rfl rfl rfl (V_move rfl rfl) ?_
 refine G_call (L2 := (_ :: _)) rfl rfl rfl rfl rfl rfl Try.call28 (rsc_decode l (by omega)) [] [] rfl rfl ?_
 rintro v post ⟨u2, ns, d, hu2, hoks2, hml2, hd2, rfl, rfl⟩
 refine G_perm (perm_in [_] [_] _ _) ?_
 show G _ _ _ (_ :: _ :: _) _
 refine G_val rfl rfl rfl rfl (V_move rfl rfl) ?_
 refine G_val rfl rfl rfl rfl (V_extract rfl rfl rfl) ?_
 refine G_val rfl rfl rfl rfl (V_extract rfl rfl rfl) ?_
 refine G_val rfl rfl rfl rfl (V_assign rfl rfl) ?_
 refine G_val rfl rfl rfl rfl (V_assign rfl rfl) ?_
 refine G_done ?_
 refine G_seq ?_
 refine G_seq ?_
 obtain ⟨rfl, hes⟩ := dec_same hd1 hd2
 refine G_region (l := [0, 1, 2, 3, 4, 5, 6, 7, 8, 9]) rfl ?_
 refine G_val rfl rfl rfl rfl (V_move rfl rfl) ?_
 refine G_val rfl rfl rfl rfl (V_move rfl rfl) ?_
 refine G_callM (L2 := (_ :: _ :: _)) rfl rfl rfl rfl rfl rfl Try.call27 ((rsc_same u.ob 0 u.cap u.cs 58 u.fz ms hu.sees hoks u2.ob 0 u2.cap u2.cs 58 u2.fz ns hu2.sees hoks2).weaken (fun v post h => by rw [decide_eq_true hes] at h; exact h)) [] rfl (by intro x hx; refine List.mem_append_right _ ?_; change x ∈ (_ :: _ :: (List.map evK ns ++ List.map evK ms)); simp only [List.mem_cons, List.mem_append] at hx ⊢; rcases hx with h | h | h | h <;> first | exact .inl h | exact .inr (.inl h) | exact .inr (.inr (.inl h)) | exact .inr (.inr (.inr (.inl h))) | exact .inr (.inr (.inr h))) ?_
 rintro v post ⟨rfl, rfl⟩
 show G _ _ _ (_ :: _ :: _) _
 refine G_val rfl rfl rfl rfl (V_not rfl rfl) ?_
 refine G_val rfl rfl rfl rfl (V_move rfl rfl) ?_
 refine G_val rfl rfl rfl rfl (V_move rfl rfl) ?_
 refine G_call (L2 := (_ :: _ :: _)) rfl rfl rfl rfl rfl rfl Try.call25 (rl_num _) [] [] rfl rfl ?_
 rintro v post ⟨rfl, rfl⟩
 show G _ _ _ (_ :: _ :: _) _
 refine G_val rfl rfl rfl rfl (V_move rfl rfl) ?_
 refine G_val rfl rfl rfl rfl (V_neq rfl rfl rfl) ?_
 refine G_val rfl rfl rfl rfl (V_pickF rfl rfl rfl) ?_
 refine G_done ?_
 refine G_ifD rfl (fun hc2 => ?_) (fun hc2 => ?_)
 · (first | contradiction | (exact absurd rfl hc2) | (exfalso; omega) | (simp at hc2; done) | (exact absurd hc2 (by decide)) | (exact absurd (by decide) hc2))
 refine G_skip ?_
 refine G_seq ?_
 rcases scr_dec hd1 with ⟨rfl, hs⟩ | ⟨rfl, hz, hs⟩
 · skip
   refine G_region (l := [0, 1, 2, 3, 4, 5, 6]) rfl ?_
   refine G_val rfl rfl rfl rfl (V_move rfl rfl) ?_
   refine G_callM (L2 := (_ :: _ :: _)) rfl rfl rfl rfl rfl rfl Try.call23 ((sc_encode u.ob 0 u.cap u.cs 58 u.fz ms hu.sees hoks).weaken (fun v post h => by rw [hs] at h; exact h)) [] rfl (by intro x hx; refine List.mem_append_right _ ?_; change x ∈ (_ :: _ :: (List.map evK ns ++ List.map evK ms)); simp only [List.mem_cons, List.mem_append] at hx ⊢; rcases hx with h | h <;> first | exact .inl h | exact .inr (.inl h) | exact .inr (.inr (.inl h)) | exact .inr (.inr (.inr (.inl h))) | exact .inr (.inr (.inr h))) ?_
   rintro v post ⟨rfl, rfl⟩
   show G _ _ _ (_ :: _ :: _) _
   refine G_val rfl rfl rfl rfl (V_move rfl rfl) ?_
   refine G_val rfl rfl rfl rfl (V_extract rfl rfl rfl) ?_
   refine G_val rfl rfl rfl rfl (V_extract rfl rfl rfl) ?_
   refine G_val rfl rfl rfl rfl (V_assign rfl rfl) ?_
   refine G_val rfl rfl rfl rfl (V_assign rfl rfl) ?_
   refine G_done ?_
   refine G_seq ?_
   refine G_region (l := [0, 1, 2, 3, 4, 5, 6, 7, 8, 9, 10, 11, 12, 13, 14, 15]) rfl ?_
   refine G_val rfl rfl rfl rfl (V_move rfl rfl) ?_
   refine G_val rfl rfl rfl rfl (V_neq rfl rfl rfl) ?_
   refine G_val rfl rfl rfl rfl (V_move rfl rfl) ?_
   refine G_splitD 40 rfl (fun hc3 => ?_) (fun hc3 => ?_)
   · (first | contradiction | (exact absurd rfl hc3) | (exfalso; omega) | (simp at hc3; done) | (exact absurd hc3 (by decide)) | (exact absurd (by decide) hc3))
   refine G_val rfl rfl rfl rfl (V_move rfl rfl) ?_
   refine G_val rfl rfl rfl rfl (V_move rfl rfl) ?_
   refine G_val rfl rfl rfl rfl (V_seql rfl rfl rfl) ?_
   refine G_val rfl rfl rfl rfl (V_move rfl rfl) ?_
   refine G_splitD 44 rfl (fun hc4 => ?_) (fun hc4 => ?_)
   rotate_left
   · (first | contradiction | (exact absurd rfl hc4) | (exfalso; omega) | (simp at hc4; done) | (exact absurd hc4 (by decide)) | (exact absurd (by decide) hc4))
   refine G_val rfl rfl rfl rfl (V_move rfl rfl) ?_
   refine G_call (L2 := (_ :: _ :: _)) rfl rfl rfl rfl rfl rfl Try.call25 (rl_num _) [] [] rfl rfl ?_
   rintro v post ⟨rfl, rfl⟩
   show G _ _ _ (_ :: _ :: _) _
   refine G_val rfl rfl rfl rfl (V_eql rfl rfl rfl) ?_
   refine G_val rfl rfl rfl rfl (V_pickT rfl rfl rfl) ?_
   refine G_val rfl rfl rfl rfl (V_pickF rfl rfl rfl) ?_
   refine G_val rfl rfl rfl rfl (V_move rfl rfl) ?_
   refine G_splitD 50 rfl (fun hc5 => ?_) (fun hc5 => ?_)
   rotate_left
   · (first | contradiction | (exact absurd rfl hc5) | (exfalso; omega) | (simp at hc5; done) | (exact absurd hc5 (by decide)) | (exact absurd (by decide) hc5))
   refine G_call (L2 := (_ :: _ :: _)) rfl rfl rfl rfl rfl rfl Try.call20 (rl_live) [] [] rfl rfl ?_
   rintro v post ⟨rfl, rfl⟩
   show G _ _ _ (_ :: _ :: _) _
   refine G_val rfl rfl rfl rfl (V_pickT rfl rfl rfl) ?_
   refine G_val rfl rfl rfl rfl (V_assign rfl rfl) ?_
   refine G_done ?_
   refine G_ret (post := []) Try.func6 rfl (RVs_cons (RV_tmp rfl) RVs_nil) [] rfl ?_
   dsimp only [packed]
   exact ⟨rfl, rfl⟩
 · skip
   refine G_region (l := [0, 1, 2, 3, 4, 5, 6]) rfl ?_
   refine G_val rfl rfl rfl rfl (V_move rfl rfl) ?_
   refine G_callM (L2 := (_ :: _ :: _)) rfl rfl rfl rfl rfl rfl Try.call23 ((sc_encode u.ob 0 u.cap u.cs 58 u.fz ms hu.sees hoks).weaken (fun v post h => by rw [hs] at h; exact h)) [] rfl (by intro x hx; refine List.mem_append_right _ ?_; change x ∈ (_ :: _ :: (List.map evK ns ++ List.map evK ms)); simp only [List.mem_cons, List.mem_append] at hx ⊢; rcases hx with h | h <;> first | exact .inl h | exact .inr (.inl h) | exact .inr (.inr (.inl h)) | exact .inr (.inr (.inr (.inl h))) | exact .inr (.inr (.inr h))) ?_
   rintro v post ⟨rfl, rfl⟩
   show G _ _ _ (_ :: _ :: _) _
   refine G_val rfl rfl rfl rfl (V_move rfl rfl) ?_
   refine G_val rfl rfl rfl rfl (V_extract rfl rfl rfl) ?_
   refine G_val rfl rfl rfl rfl (V_extract rfl rfl rfl) ?_
   refine G_val rfl rfl rfl rfl (V_assign rfl rfl) ?_
   refine G_val rfl rfl rfl rfl (V_assign rfl rfl) ?_
   refine G_done ?_
   refine G_seq ?_
   refine G_region (l := [0, 1, 2, 3, 4, 5, 6, 7, 8, 9, 10, 11, 12, 13, 14, 15]) rfl ?_
   refine G_val rfl rfl rfl rfl (V_move rfl rfl) ?_
   refine G_val rfl rfl rfl rfl (V_neq rfl rfl rfl) ?_
   refine G_val rfl rfl rfl rfl (V_move rfl rfl) ?_
   refine G_splitD 40 rfl (fun hc3 => ?_) (fun hc3 => ?_)
   rotate_left
   · (first | contradiction | (exact absurd rfl hc3) | (exfalso; omega) | (simp at hc3; done) | (exact absurd hc3 (by decide)) | (exact absurd (by decide) hc3))
   refine G_off rfl rfl rfl rfl ?_
   refine G_off rfl rfl rfl rfl ?_
   refine G_off rfl rfl rfl rfl ?_
   refine G_off rfl rfl rfl rfl ?_
   refine G_off rfl rfl rfl rfl ?_
   refine G_off rfl rfl rfl rfl ?_
   refine G_off rfl rfl rfl rfl ?_
   refine G_off rfl rfl rfl rfl ?_
   refine G_val rfl rfl rfl rfl (V_pickT rfl rfl rfl) ?_
   refine G_val rfl rfl rfl rfl (V_move rfl rfl) ?_
   refine G_call (L2 := (_ :: _ :: _)) rfl rfl rfl rfl rfl rfl Try.call20 (rl_live) [] [] rfl rfl ?_
   rintro v post ⟨rfl, rfl⟩
   show G _ _ _ (_ :: _ :: _) _
   refine G_val rfl rfl rfl rfl (V_pickT rfl rfl rfl) ?_
   refine G_val rfl rfl rfl rfl (V_assign rfl rfl) ?_
   refine G_done ?_
   refine G_ret (post := []) Try.func6 rfl (RVs_cons (RV_tmp rfl) RVs_nil) [] rfl ?_
   dsimp only [packed]
   exact ⟨rfl, rfl⟩


set_option maxRecDepth 100000 in
theorem scriptDecodes_walk : LawWalk 6 Try.f6 := lawwalk_reads (fun W base args hs hval => by
  rw [Try.params6] at hs hval
  obtain ⟨l⟩ := args
  match l, hs with
  | [a], _ =>
    obtain ⟨h0, h1⟩ := hval 0 9 a rfl rfl
    obtain ⟨s, rfl, p⟩ := okc_str (okv_cell h0 Try.underlying9 rfl) Try.underlying9
    exact ⟨_, has_nil _, scriptDecodes_all s p⟩)


theorem scriptDecodes_holds : Rows.ScriptDecodesSaid :=
  OpenClaim.holds_of_wide 6 Try.f6 rfl rfl rfl rfl rfl rfl rfl ⟨rfl, rfl, rfl, rfl, rfl⟩ rfl rfl rfl rfl rfl (by kernel_rfl) Try.func6 (by kernel_rfl)
    (of_decide_eq_true (by kernel_rfl)) (by unfold Func.isWrapper; rw [if_neg (by decide +kernel)]; exact ⟨rfl, rfl⟩)
    (fun os started H enc _ => law_lifted (s := Rows.scriptDecodesSpec) os started H enc Try.func6 (by kernel_rfl)
      (ChangeSpec.witness6 (enc := enc) (C := Try.checked) false ⟨#[], #[.string ByteArray.empty], []⟩ 8 (by kernel_rfl) (by kernel_rfl) (by kernel_rfl) (by kernel_rfl))
      rfl (by kernel_rfl) (by kernel_rfl) (by decide +kernel) (fun ds h => by match ds, h with | [_], _ => rfl) scriptDecodes_walk)
#print axioms scriptDecodes_holds

end
end Go.Proofs.Ytkekkalgebgokaa
