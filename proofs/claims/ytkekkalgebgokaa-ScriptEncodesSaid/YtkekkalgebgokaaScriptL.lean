/- The laws of layer 40: what they have in common. -/
import Derived.Test.YtkekkalgebgokaaScriptX
import Derived.Test.YtkekkalgebgokaaScriptZ
import Derived.Test.YtkekkalgebgokaaScriptS
set_option linter.unusedSimpArgs false
set_option linter.unusedVariables false
namespace Go.Proofs.Ytkekkalgebgokaa
open Go Go.RowKit

section
theorem infScriptL_58 : Try.prog.info? 58 = some Try.t58 := by kernel_rfl
theorem plcScriptL_58 : placesOf Try.prog (Try.prog.fieldsOf 58) = some [(0, 1), (1, 1), (2, 1), (3, 1), (4, 1)] := by kernel_rfl


def liveE : Ev := ⟨2, [], 300, 0, []⟩
theorem live_may : MayE liveE := by decide
theorem live_enc : encS [liveE] = [1, 2, 172, 2] := by
  have h1 : chain 1 = [1] := chain_small 1 (by omega)
  have h2 : chain 2 = [2] := chain_small 2 (by omega)
  have h3 : chain 300 = [172, 2] := by rw [chain_big 300 (by omega), show 300 / 128 = 2 by rfl, h2]; rfl
  have e1 : encE liveE = [2, 172, 2] := by
    rw [enc2 rfl]
    show chain 2 ++ chain 300 = _
    rw [h2, h3]; rfl
  unfold encS encList
  simp only [List.flatMap_cons, List.flatMap_nil, e1]
  show chain 1 ++ _ = _
  rw [h1]; rfl
theorem scr_live : scrT [liveE] = .tuple #[.string (bs [1, 2, 172, 2]), .int .i64 0] := by
  unfold scrT
  rw [if_neg (by decide), if_pos (by intro e he; rw [List.mem_singleton.1 he]; exact live_may), live_enc]
theorem sc_live (b : Nat) : Ct Try.prog 23 [.slice (some ⟨b, 0, none⟩) 1 1] [(some b, .cells #[.int .i64 2, .string (bs []), .int .u64 300, .int .i64 0, .slice none 0 0] 58 (0, 0)), (none, .cells #[] 151 (0, 0))] [] (fun v post => v = .tuple #[.string (bs [1, 2, 172, 2]), .int .i64 0] ∧ post = []) := by
  have h := sc_encode (some b) 0 1 #[.int .i64 2, .string (bs []), .int .u64 300, .int .i64 0, .slice none 0 0] 58 (0, 0) [emN liveE] ⟨rfl, by simp, by simp, by rfl, fun h => by cases h⟩ (by intro m hm; rw [List.mem_singleton.1 hm]; exact emN_ok (by decide) (by decide) (by decide) (by decide) rfl)
  rw [show evsOf [emN liveE] = [liveE] from rfl, scr_live] at h
  exact h
theorem scr3 (es : List Ev) (ht : ∀ e ∈ es, e.t < 18446744073709551616) : (GoodS es ∧ scrT es = .tuple #[.string (bs (encS es)), .int .i64 0]) ∨ scrT es = .tuple #[.string (bs []), .int .i64 9] ∨ scrT es = .tuple #[.string (bs []), .int .i64 1] := by
  unfold scrT
  by_cases h : 400 < es.length
  · rw [if_pos h]; exact .inr (.inl rfl)
  · rw [if_neg h]
    by_cases h2 : ∀ e ∈ es, MayE e
    · rw [if_pos h2]; exact .inl ⟨⟨by omega, fun e he => ⟨h2 e he, ht e he⟩⟩, rfl⟩
    · rw [if_neg h2]; exact .inr (.inr rfl)
theorem encS_len {es : List Ev} (h : GoodS es) : (encS es).length ≤ 1000000 := by
  obtain ⟨h1, h2⟩ := h
  have a := chainI_len (es.length : Int) (by omega) (by omega)
  have b := encEs_len (es := es) (fun e he => h2 e he)
  unfold encS encList; rw [List.length_append]; omega
theorem dec_enc {es fs : List Ev} {c : Int} (h : GoodS es) (hd : DecR (encS es) fs c) : c = 0 ∧ fs = es := hd.1.forth es h rfl
theorem evs_t {ms : List Em} (h : ∀ m ∈ ms, EmOk m) : ∀ e ∈ evsOf ms, e.t < 18446744073709551616 := fun e he => by
  obtain ⟨m, hm, rfl⟩ := List.mem_map.1 he
  exact (h m hm).t
theorem scr_dec {l : List UInt8} {es : List Ev} {c : Int} (h : DecR l es c) : (c = 0 ∧ scrT es = .tuple #[.string (bs l), .int .i64 0]) ∨ (c = 3 ∧ es = [] ∧ scrT es = .tuple #[.string (bs (encS [])), .int .i64 0]) := by
  obtain ⟨h1, h2⟩ := h
  rcases h2 with rfl | ⟨rfl, rfl⟩
  · obtain ⟨⟨g1, g2⟩, g3⟩ := h1.back rfl
    refine .inl ⟨rfl, ?_⟩
    unfold scrT
    rw [if_neg (by omega), if_pos (fun e he => (g2 e he).1), g3]
  · refine .inr ⟨rfl, rfl, ?_⟩
    unfold scrT
    rw [if_neg (by simp), if_pos (by simp)]

set_option maxRecDepth 100000 in
set_option maxHeartbeats 1000000 in
theorem rl_num (n : Int) :
    Ct Try.prog 25 [.int .i64 n] [] [] fun v post => v = .int .i64 n ∧ post = [] := by
 refine ct_of Try.func25 rfl rfl (fun w0 => ?_)
 show G _ _ [(0, _)] _ _
 refine G_seq ?_
 refine G_region (l := [0]) rfl ?_
 refine G_val rfl rfl rfl rfl (V_assign rfl rfl) ?_
 refine G_done ?_
 refine G_seq ?_
 refine G_region (l := [0, 1]) rfl ?_
 refine G_val rfl rfl rfl rfl (V_move rfl rfl) ?_
 refine G_val rfl rfl rfl rfl (V_assign rfl rfl) ?_
 refine G_done ?_
 refine G_ret (post := []) Try.func25 rfl (RVs_cons (RV_tmp rfl) RVs_nil) [] rfl ?_
 dsimp only [packed]
 exact ⟨rfl, rfl⟩

set_option maxRecDepth 100000 in
set_option maxHeartbeats 1000000 in
theorem rl_live  :
    Ct Try.prog 20 [] [] [] fun v post => v = .bool true ∧ post = [] := by
 refine ct_of Try.func20 rfl rfl (fun w0 => ?_)
 show G _ _ [] _ _
 refine G_seq ?_
 refine G_region (l := [0]) rfl ?_
 refine G_val rfl rfl rfl rfl (V_assign rfl rfl) ?_
 refine G_done ?_
 refine G_seq ?_
 refine G_addNone (.cells #[] 151 (0, 0)) ?_
 refine G_region (l := [0, 1, 2, 3, 4, 5, 6, 7]) rfl ?_
 refine G_val rfl rfl rfl rfl (V_buildS (cs := [_, _, _, _, _]) rfl Try.underlying58 infScriptL_58 rfl plcScriptL_58 rfl rfl rfl) ?_
 refine G_new rfl rfl rfl rfl (N_buildAll (s := 5) (cs := [_, _, _, _, _]) rfl Try.underlying53 infScriptL_58 rfl rfl rfl rfl rfl rfl rfl rfl rfl) (fun b5 => ?_)
 refine G_call (L2 := [_, _]) rfl rfl rfl rfl rfl rfl Try.call23 (sc_live _) [] [0, 1] rfl rfl ?_
 rintro v post ⟨rfl, rfl⟩
 show G _ _ _ [_, _] _
 refine G_val rfl rfl rfl rfl (V_move rfl rfl) ?_
 refine G_val rfl rfl rfl rfl (V_extract rfl rfl rfl) ?_
 refine G_val rfl rfl rfl rfl (V_extract rfl rfl rfl) ?_
 refine G_val rfl rfl rfl rfl (V_assign rfl rfl) ?_
 refine G_val rfl rfl rfl rfl (V_assign rfl rfl) ?_
 refine G_done ?_
 refine G_seq ?_
 refine G_region (l := [0, 1, 2, 3, 4, 5, 6, 7]) rfl ?_
 refine G_val rfl rfl rfl rfl (V_move rfl rfl) ?_
 refine G_val rfl rfl rfl rfl (V_seql rfl rfl rfl) ?_
 refine G_val rfl rfl rfl rfl (V_move rfl rfl) ?_
 refine G_splitD 11 rfl (fun hc1 => ?_) (fun hc1 => ?_)
 rotate_left
 · (first | contradiction | (exact absurd rfl hc1) | (exfalso; omega) | (simp at hc1; done) | (exact absurd hc1 (by decide)) | (exact absurd (by decide) hc1))
 refine G_val rfl rfl rfl rfl (V_move rfl rfl) ?_
 refine G_call (L2 := [_, _]) rfl rfl rfl rfl rfl rfl Try.call25 (rl_num _) [] [] rfl rfl ?_
 rintro v post ⟨rfl, rfl⟩
 show G _ _ _ [_, _] _
 refine G_val rfl rfl rfl rfl (V_eql rfl rfl rfl) ?_
 refine G_val rfl rfl rfl rfl (V_pickT rfl rfl rfl) ?_
 refine G_val rfl rfl rfl rfl (V_assign rfl rfl) ?_
 refine G_done ?_
 refine G_ret (post := []) Try.func20 rfl (RVs_cons (RV_tmp rfl) RVs_nil) [] rfl ?_
 dsimp only [packed]
 exact ⟨rfl, rfl⟩

end
end Go.Proofs.Ytkekkalgebgokaa
