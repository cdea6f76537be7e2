/- The law TellWords: the program tells the word of every state, and quotes every text, as the document does; two texts are quoted alike just if they are the same; the call returns true and leaves nothing turned. -/
import Derived.Test.YtkekkalgebgokaaDoorTellL
set_option linter.unusedSimpArgs false
set_option linter.unusedVariables false
namespace Go.Proofs.YtkekkalgebgokaaDoor
open Go.ChangeShapes Go.WideShapes Go.ChangeAt Go.RowKit

section


set_option maxRecDepth 100000 in
set_option maxHeartbeats 1000000 in
theorem tellWords_all (n : Int) (s t : List UInt8) (h0 : -9223372036854775808 ≤ n) (h1 : n ≤ 9223372036854775807) (T0 : TypeId) (r0 : Nat × Nat) :
    Ct Tryd.prog 3 [.int .i64 n, .string (bs s), .string (bs t)] [(some 0, .cells powC T0 r0)] [] fun v post => v = .bool true ∧ post = [] := by
 refine ct_of Tryd.func3 rfl rfl (fun w0 => ?_)
 show G _ _ [(0, _), (1, _), (2, _)] _ _
 refine G_seq ?_
 refine G_region (l := [0]) rfl ?_
 refine G_val rfl rfl rfl rfl (V_assign rfl rfl) ?_
 refine G_done ?_
 refine G_seq ?_
 refine G_seq ?_
 refine G_region (l := [0, 1, 2, 3, 4, 5, 6, 7]) rfl ?_
 refine G_val rfl rfl rfl rfl (V_move rfl rfl) ?_
 refine G_val rfl rfl rfl rfl (V_slen rfl rfl Tryd.underlying9 rfl) ?_
 refine G_val rfl rfl rfl rfl (V_gtr rfl rfl rfl) ?_
 refine G_val rfl rfl rfl rfl (V_move rfl rfl) ?_
 refine G_splitD 10 rfl (fun hc1 => ?_) (fun hc1 => ?_)
 · skip
   refine G_off rfl rfl rfl rfl ?_
   refine G_off rfl rfl rfl rfl ?_
   refine G_off rfl rfl rfl rfl ?_
   refine G_val rfl rfl rfl rfl (V_pickT rfl rfl rfl) ?_
   refine G_done ?_
   refine G_then rfl ?_
   refine G_seq ?_
   refine G_region (l := [0, 1]) rfl ?_
   refine G_call (L2 := []) rfl rfl rfl rfl rfl rfl Tryd.call6 (tell_live _ _) [] [0] rfl rfl ?_
   rintro v post ⟨rfl, rfl⟩
   refine G_val rfl rfl rfl rfl (V_assign rfl rfl) ?_
   refine G_done ?_
   refine G_ret (post := []) Tryd.func3 rfl (RVs_cons (RV_tmp rfl) RVs_nil) [] rfl ?_
   dsimp only [packed]
   exact ⟨rfl, rfl⟩
 refine G_val rfl rfl rfl rfl (V_move rfl rfl) ?_
 refine G_val rfl rfl rfl rfl (V_slen rfl rfl Tryd.underlying9 rfl) ?_
 refine G_val rfl rfl rfl rfl (V_gtr rfl rfl rfl) ?_
 refine G_val rfl rfl rfl rfl (V_pickF rfl rfl rfl) ?_
 refine G_done ?_
 refine G_ifD rfl (fun hc2 => ?_) (fun hc2 => ?_)
 · skip
   refine G_seq ?_
   refine G_region (l := [0, 1]) rfl ?_
   refine G_call (L2 := []) rfl rfl rfl rfl rfl rfl Tryd.call6 (tell_live _ _) [] [0] rfl rfl ?_
   rintro v post ⟨rfl, rfl⟩
   refine G_val rfl rfl rfl rfl (V_assign rfl rfl) ?_
   refine G_done ?_
   refine G_ret (post := []) Tryd.func3 rfl (RVs_cons (RV_tmp rfl) RVs_nil) [] rfl ?_
   dsimp only [packed]
   exact ⟨rfl, rfl⟩
 refine G_skip ?_
 refine G_seq ?_
 refine G_region (l := [0, 1, 2, 3, 4, 5, 6, 7, 8, 9, 10, 11, 12, 13, 14, 15, 16, 17, 18, 19, 20, 21, 22, 23, 24, 25, 26]) rfl ?_
 refine G_val rfl rfl rfl rfl (V_move rfl rfl) ?_
 refine G_call (L2 := []) rfl rfl rfl rfl rfl rfl Tryd.call7 (tl_word _ (by omega) (by omega)) [] [] rfl rfl ?_
 rintro v post ⟨rfl, rfl⟩
 refine G_val rfl rfl rfl rfl (V_move rfl rfl) ?_
 refine G_call (L2 := []) rfl rfl rfl rfl rfl rfl Tryd.call8 (rtl_word _ (by omega) (by omega)) [] [] rfl rfl ?_
 rintro v post ⟨rfl, rfl⟩
 refine G_val rfl rfl rfl rfl (V_seql rfl rfl rfl) ?_
 refine G_val rfl rfl rfl rfl (V_move rfl rfl) ?_
 refine G_splitD 21 rfl (fun hc3 => ?_) (fun hc3 => ?_)
 rotate_left
 · (first | contradiction | (exact absurd rfl hc3) | (exfalso; omega) | (exact absurd (decide_eq_decide.2 (quoteT_iff s t)) hc3))
 refine G_val rfl rfl rfl rfl (V_move rfl rfl) ?_
 refine G_call (L2 := []) rfl rfl rfl rfl rfl rfl Tryd.call9 (tl_quote _ (by first | omega | (simp [rqCells]; done) | (simp [rqCells]; omega) | (simp [rqCells] at *; omega))) [] [] rfl rfl ?_
 rintro v post ⟨rfl, rfl⟩
 refine G_val rfl rfl rfl rfl (V_move rfl rfl) ?_
 refine G_call (L2 := []) rfl rfl rfl rfl rfl rfl Tryd.call10 (rtl_quote _ (by first | omega | (simp [rqCells]; done) | (simp [rqCells]; omega) | (simp [rqCells] at *; omega))) [] [] rfl rfl ?_
 rintro v post ⟨rfl, rfl⟩
 refine G_val rfl rfl rfl rfl (V_seql rfl rfl rfl) ?_
 refine G_val rfl rfl rfl rfl (V_pickT rfl rfl rfl) ?_
 refine G_val rfl rfl rfl rfl (V_move rfl rfl) ?_
 refine G_splitD 28 rfl (fun hc4 => ?_) (fun hc4 => ?_)
 rotate_left
 · (first | contradiction | (exact absurd rfl hc4) | (exfalso; omega) | (exact absurd (decide_eq_decide.2 (quoteT_iff s t)) hc4))
 refine G_val rfl rfl rfl rfl (V_move rfl rfl) ?_
 refine G_call (L2 := []) rfl rfl rfl rfl rfl rfl Tryd.call9 (tl_quote _ (by first | omega | (simp [rqCells]; done) | (simp [rqCells]; omega) | (simp [rqCells] at *; omega))) [] [] rfl rfl ?_
 rintro v post ⟨rfl, rfl⟩
 refine G_val rfl rfl rfl rfl (V_move rfl rfl) ?_
 refine G_call (L2 := []) rfl rfl rfl rfl rfl rfl Tryd.call9 (tl_quote _ (by first | omega | (simp [rqCells]; done) | (simp [rqCells]; omega) | (simp [rqCells] at *; omega))) [] [] rfl rfl ?_
 rintro v post ⟨rfl, rfl⟩
 refine G_val rfl rfl rfl rfl (V_seql rfl rfl rfl) ?_
 refine G_val rfl rfl rfl rfl (V_move rfl rfl) ?_
 refine G_val rfl rfl rfl rfl (V_move rfl rfl) ?_
 refine G_val rfl rfl rfl rfl (V_seql rfl rfl rfl) ?_
 refine G_val rfl rfl rfl rfl (V_beql rfl Tryd.underlying4 rfl rfl) ?_
 refine G_val rfl rfl rfl rfl (V_pickT rfl rfl rfl) ?_
 refine G_val rfl rfl rfl rfl (V_move rfl rfl) ?_
 refine G_splitD 39 rfl (fun hc5 => ?_) (fun hc5 => ?_)
 rotate_left
 · (first | contradiction | (exact absurd rfl hc5) | (exfalso; omega) | (exact absurd (decide_eq_decide.2 (quoteT_iff s t)) hc5))
 refine G_call (L2 := []) rfl rfl rfl rfl rfl rfl Tryd.call6 (tell_live _ _) [] [0] rfl rfl ?_
 rintro v post ⟨rfl, rfl⟩
 refine G_val rfl rfl rfl rfl (V_pickT rfl rfl rfl) ?_
 refine G_val rfl rfl rfl rfl (V_assign rfl rfl) ?_
 refine G_done ?_
 refine G_ret (post := []) Tryd.func3 rfl (RVs_cons (RV_tmp rfl) RVs_nil) [] rfl ?_
 dsimp only [packed]
 exact ⟨rfl, rfl⟩


set_option maxRecDepth 100000 in
theorem tellWords_walk : LawWalkX LaidN 3 Tryd.f3 := lawwalk_readsX (fun W base args hX hs hval => by
  obtain ⟨T0, r0, htab⟩ := laid_tab hX
  rw [Tryd.params3] at hs hval
  obtain ⟨l⟩ := args
  match l, hs with
  | [a0, a1, a2], _ =>
    obtain ⟨n, rfl, x0, y0⟩ := okc_int (okv_cell (hval 0 3 a0 rfl rfl).1 Tryd.underlying3 rfl) Tryd.underlying3
    obtain ⟨s, rfl, p⟩ := okc_str (okv_cell (hval 1 9 a1 rfl rfl).1 Tryd.underlying9 rfl) Tryd.underlying9
    obtain ⟨t, rfl, q⟩ := okc_str (okv_cell (hval 2 9 a2 rfl rfl).1 Tryd.underlying9 rfl) Tryd.underlying9
    exact ⟨_, has_cons (has_nil _) (fun b hb => by cases hb; exact htab), tellWords_all n s t x0 y0 T0 r0⟩)


set_option maxRecDepth 100000 in
theorem tellWords_lifted (os : Os) (started : os.Started) (H : Type) (enc : TypeId × Value → H) :
    ReturnsInHanded {} Tryd.checked os 3 .any (fun w args => (Rows.tellWordsSpec.pre enc Tryd.prog Tryd.f3 [] false w args ∧ laidMetH Tryd.prog Rows.tellWordsRow.laid w) ∧ sizedMet enc Tryd.prog Tryd.f3 (OpenSpec.ofChange Rows.tellWordsSpec) false w args)
      (Rows.tellWordsSpec.post enc Tryd.prog Tryd.f3 false true false false) := by
  refine returnsInHanded_of_change_and (C := Tryd.checked) (X := fun w _ => laidMetH Tryd.prog Rows.tellWordsRow.laid w) (fun _ _ _ hh h => h.of_heap hh) Tryd.ownK started (by kernel_rfl) Tryd.func3
    (ChangeSpec.witness_shaped (enc := enc) (C := Tryd.checked) (os := os) (X := fun w _ => laidMetH Tryd.prog Rows.tellWordsRow.laid w) false (World.laidAll Tryd.prog os Rows.tellWordsRow.laid) #[.int .i64 0, .string ByteArray.empty, .string ByteArray.empty] 8 (World.laidAll_os _ _ _)
      (World.shaped_of_ZipB (by kernel_rfl) (by kernel_rfl)) (by kernel_rfl) (by kernel_rfl) (by kernel_rfl)
      (by rw [MakeChecks.laidMetH_plain _ _ _ (by kernel_rfl)]; exact laidMet_laidAll _ (by kernel_rfl) (by kernel_rfl))) ?_
  intro W base args ds gs before hval hW _ _ hX _
  exact law_endX (s := Rows.tellWordsSpec) rfl (by kernel_rfl) (by kernel_rfl) (by decide +kernel) (fun ds h => by match ds, h with | [_, _, _], _ => rfl) tellWords_walk W base args ds gs before hval hW hX
theorem tellWords_said : Rows.TellWordsSaid :=
  OpenClaim.holds_of_wide 3 Tryd.f3 rfl rfl rfl rfl rfl rfl rfl ⟨rfl, rfl, rfl, rfl, rfl⟩ rfl rfl rfl rfl rfl (by kernel_rfl) Tryd.func3 (by kernel_rfl)
    (of_decide_eq_true (by kernel_rfl)) (by unfold Func.isWrapper; first | (rw [if_pos (by decide +kernel)]; kernel_rfl) | (rw [if_neg (by decide +kernel)]; exact ⟨rfl, rfl⟩))
    (fun os started H enc _ => tellWords_lifted os started H enc)
theorem tellWords_holds : Rows.TellWordsCardSaid :=
  Claim7.holds_tied_plain_at .later [] _ _ _ _ tellWords_said (fun _ h => by cases h) (by kernel_rfl) (fun _ h => by cases h) tellWords_row_tie rfl ⟨rfl, rfl⟩ (by kernel_rfl) rfl
    (fun f fn hf hfn => by
      obtain rfl : f = 3 := Option.some.inj ((show Tryd.prog.funcNamed "billet/billetlaw45.TellWords" = some 3 by kernel_rfl).symm.trans hf) |>.symm
      obtain rfl : fn = Tryd.f3 := (Option.some.inj (Tryd.func3.symm.trans hfn)).symm
      exact ⟨by kernel_rfl, fun j t ht => by
        rw [Tryd.params3] at ht
        have hm : t ∈ [3, 9, 9] := by simpa using Array.mem_of_getElem? ht
        have hall : ([3, 9, 9].all fun u => !Tryd.prog.wantsStandIn u) = true := by kernel_rfl
        exact (show Tryd.prog.wantsStandIn t = false by simpa using List.all_eq_true.1 hall t hm)⟩)
    (by kernel_rfl)
#print axioms tellWords_holds

end
end Go.Proofs.YtkekkalgebgokaaDoor
