/- The law FrameDecodes: of any texts the program says as the document does with the pieces of which record they begin, or why with none, and how many bytes the first tells; the call returns true and leaves its arguments as they were. -/
import Derived.Test.YtkidmbaakdaflaaDoorFrameL
import Derived.Test.YtkidmbaakdaflaaDoorLawT
set_option linter.unusedSimpArgs false
set_option linter.unusedVariables false
namespace Go.Proofs.YtkidmbaakdaflaaDoor
open Go.ChangeShapes Go.WideShapes Go.ChangeAt Go.RowKit

section
theorem infLawFrameDecodes_9 : Tryd.prog.info? 9 = some Tryd.t9 := by kernel_rfl

attribute [local irreducible] decS decM decE sizeF sizeFE
set_option maxRecDepth 100000 in
set_option maxHeartbeats 1000000 in
theorem frameDecodes_all (o1 : Option Nat) (p1 q1 : Nat) (c1 : Array Value) (T1 : TypeId) (f1 : Nat × Nat) (ls : List (List UInt8)) (hs : Sees 1 o1 p1 q1 c1 (ls.map strC) ls.length) (hl : ∀ x ∈ ls, x.length ≤ 9223372036854775807) :
    Ct Tryd.prog 4 [sv o1 p1 ls.length q1] [(o1, .cells c1 T1 f1)] [] fun v post => v = .bool true ∧ post = [] := by
 have hk1 := hs.le
 have hk2 := hs.max
 refine ct_of Tryd.func4 rfl rfl (fun w0 => ?_)
 show G _ _ [(0, _)] _ _
 refine G_seq ?_
 refine G_region (l := [0]) rfl ?_
 refine G_val rfl rfl rfl rfl (V_assign rfl rfl) ?_
 refine G_done ?_
 refine G_seq ?_
 refine G_seq ?_
 refine G_region (l := [0, 1, 2]) rfl ?_
 refine G_val rfl rfl rfl rfl (V_move rfl rfl) ?_
 refine G_val rfl rfl rfl rfl (V_len rfl rfl Tryd.underlying22 rfl) ?_
 refine G_val rfl rfl rfl rfl (V_gtr rfl rfl rfl) ?_
 refine G_done ?_
 refine G_ifD rfl (fun hc1 => ?_) (fun hc1 => ?_)
 · skip
   refine G_seq ?_
   refine G_region (l := [0, 1]) rfl ?_
   refine G_call (L2 := []) rfl rfl rfl rfl rfl rfl Tryd.call5 (fl_live) [] [] rfl rfl ?_
   rintro v post ⟨rfl, rfl⟩
   refine G_val rfl rfl rfl rfl (V_assign rfl rfl) ?_
   refine G_done ?_
   refine G_ret (post := []) Tryd.func4 rfl (RVs_cons (RV_tmp rfl) RVs_nil) [] rfl ?_
   dsimp only [packed]
   exact ⟨rfl, rfl⟩
 refine G_skip ?_
 refine G_seq ?_
 refine G_seq ?_
 refine G_region (l := [0]) rfl ?_
 refine G_val rfl rfl rfl rfl (V_assign rfl rfl) ?_
 refine G_done ?_
 refine G_block ?_
 refine G_sub ?he4 [] ?hl4 (G_loop (X := Nat) (fun i => i ≤ ls.length) (fun i => ls.length - i) (fun i => [(0, sv o1 p1 ls.length q1), (3, .int .i64 (i : Int))]) (fun i => []) ?round4 0 ?h04)
 case he4 => exact (And.intro rfl (And.intro rfl trivial))
 case hl4 => exact ⟨_, rfl⟩
 case h04 => exact Nat.zero_le _
 case round4 =>
  intro i hJ ih
  try dsimp only at hJ ih
  refine G_seq ?_
  refine G_seq ?_
  refine G_region (l := [0, 1, 2, 3]) rfl ?_
  refine G_val rfl rfl rfl rfl (V_move rfl rfl) ?_
  refine G_val rfl rfl rfl rfl (V_move rfl rfl) ?_
  refine G_val rfl rfl rfl rfl (V_len rfl rfl Tryd.underlying22 rfl) ?_
  refine G_val rfl rfl rfl rfl (V_lss rfl rfl rfl) ?_
  refine G_done ?_
  refine G_ifD rfl (fun hc2 => ?_) (fun hc2 => ?_)
  · skip
    refine G_skip ?_
    refine G_seq ?_
    refine G_block ?_
    refine G_seq ?_
    obtain ⟨s, hx⟩ := getI (show i < ls.length by omega)
    have hls := hl _ (List.mem_of_getElem? hx)
    obtain ⟨b1, rfl⟩ := hs.isSome (by omega)
    refine G_region (l := [0, 1, 2, 3, 4, 5]) rfl ?_
    refine G_val rfl rfl rfl rfl (V_move rfl rfl) ?_
    refine G_val rfl rfl rfl rfl (V_move rfl rfl) ?_
    first
      | refine G_val rfl rfl rfl rfl (V_indexAddrN (s := 1) rfl Tryd.underlying22 infLawFrameDecodes_9 rfl rfl rfl rfl (by omega)) ?_
      | refine G_val rfl rfl rfl rfl (V_indexAddr (s := 1) rfl Tryd.underlying22 infLawFrameDecodes_9 rfl rfl rfl (by omega) (by first | omega | (simp; done) | (simp; omega) | (simp at *; omega))) ?_
    refine G_val rfl rfl rfl rfl (V_load1 rfl rfl (mem_at 0 rfl) (nth_of (hs.cell hx)) Tryd.underlying9 rfl) ?_
    refine G_val rfl rfl rfl rfl (V_slen rfl rfl Tryd.underlying9 rfl) ?_
    refine G_val rfl rfl rfl rfl (V_gtr rfl rfl rfl) ?_
    refine G_done ?_
    refine G_ifD rfl (fun hc3 => ?_) (fun hc3 => ?_)
    · skip
      refine G_seq ?_
      refine G_region (l := [0, 1]) rfl ?_
      refine G_call (L2 := []) rfl rfl rfl rfl rfl rfl Tryd.call5 (fl_live) [] [] rfl rfl ?_
      rintro v post ⟨rfl, rfl⟩
      refine G_val rfl rfl rfl rfl (V_assign rfl rfl) ?_
      refine G_done ?_
      refine G_ret (post := []) Tryd.func4 rfl (RVs_cons (RV_tmp rfl) RVs_nil) [] rfl ?_
      dsimp only [packed]
      exact ⟨rfl, rfl⟩
    refine G_skip ?_
    refine G_inBlock ?_
    refine G_region (l := [0, 1, 2]) rfl ?_
    refine G_val rfl rfl rfl rfl (V_move rfl rfl) ?_
    first
      | refine G_val rfl rfl rfl rfl ((V_add rfl rfl rfl).int (wrap_i64 (by omega))) ?_
      | refine G_val rfl rfl rfl rfl (V_add rfl rfl rfl) ?_
    refine G_val rfl rfl rfl rfl (V_assign rfl rfl) ?_
    refine G_done ?_
    refine G_sub ?_ [] ?_ (ih (i + 1) ?_ ?_)
    · (refine (And.intro ?_ (And.intro ?_ trivial)) <;> first | rfl | exact slot_int (by omega) | exact slot_int (by simp))
    · exact ⟨_, rfl⟩
    · omega
    · (first | omega | (dsimp only; omega))
  refine G_exit rfl ?_
  refine G_seq ?_
  refine G_region (l := [0, 1, 2, 3, 4, 5, 6, 7, 8]) rfl ?_
  refine G_val rfl rfl rfl rfl (V_move rfl rfl) ?_
  refine G_call (L2 := []) rfl rfl rfl rfl rfl rfl Tryd.call12 (fr_decode _ _ _ _ _ _ ls hs hl) [] [0] rfl rfl ?_
  rintro v post ⟨rfl, rfl⟩
  refine G_val rfl rfl rfl rfl (V_move rfl rfl) ?_
  refine G_val rfl rfl rfl rfl (V_extract rfl rfl rfl) ?_
  refine G_val rfl rfl rfl rfl (V_extract rfl rfl rfl) ?_
  refine G_val rfl rfl rfl rfl (V_extract rfl rfl rfl) ?_
  refine G_val rfl rfl rfl rfl (V_assign rfl rfl) ?_
  refine G_val rfl rfl rfl rfl (V_assign rfl rfl) ?_
  refine G_val rfl rfl rfl rfl (V_assign rfl rfl) ?_
  refine G_done ?_
  refine G_seq ?_
  refine G_region (l := [0, 1, 2, 3, 4, 5, 6, 7, 8]) rfl ?_
  refine G_val rfl rfl rfl rfl (V_move rfl rfl) ?_
  refine G_call (L2 := []) rfl rfl rfl rfl rfl rfl Tryd.call13 (rfr_decode _ _ _ _ _ _ ls hs hl) [] [0] rfl rfl ?_
  rintro v post ⟨rfl, rfl⟩
  refine G_val rfl rfl rfl rfl (V_move rfl rfl) ?_
  refine G_val rfl rfl rfl rfl (V_extract rfl rfl rfl) ?_
  refine G_val rfl rfl rfl rfl (V_extract rfl rfl rfl) ?_
  refine G_val rfl rfl rfl rfl (V_extract rfl rfl rfl) ?_
  refine G_val rfl rfl rfl rfl (V_assign rfl rfl) ?_
  refine G_val rfl rfl rfl rfl (V_assign rfl rfl) ?_
  refine G_val rfl rfl rfl rfl (V_assign rfl rfl) ?_
  refine G_done ?_
  refine G_seq ?_
  refine G_seq ?_
  refine G_region (l := [0, 1, 2, 3, 4, 5, 6, 7, 8, 9, 10, 11, 12, 13]) rfl ?_
  refine G_val rfl rfl rfl rfl (V_move rfl rfl) ?_
  refine G_val rfl rfl rfl rfl (V_move rfl rfl) ?_
  refine G_val rfl rfl rfl rfl (V_sneq rfl rfl rfl) ?_
  refine G_val rfl rfl rfl rfl (V_move rfl rfl) ?_
  refine G_splitD 46 rfl (fun hc3 => ?_) (fun hc3 => ?_)
  · (first | (exact absurd rfl hc3) | (exfalso; omega))
  refine G_val rfl rfl rfl rfl (V_move rfl rfl) ?_
  refine G_val rfl rfl rfl rfl (V_move rfl rfl) ?_
  refine G_val rfl rfl rfl rfl (V_neq rfl rfl rfl) ?_
  refine G_val rfl rfl rfl rfl (V_pickF rfl rfl rfl) ?_
  refine G_val rfl rfl rfl rfl (V_move rfl rfl) ?_
  refine G_splitD 51 rfl (fun hc4 => ?_) (fun hc4 => ?_)
  · (first | (exact absurd rfl hc4) | (exfalso; omega))
  refine G_val rfl rfl rfl rfl (V_move rfl rfl) ?_
  refine G_call (L2 := []) rfl rfl rfl rfl rfl rfl Tryd.call9 (fl_num _) [] [] rfl rfl ?_
  rintro v post ⟨rfl, rfl⟩
  refine G_val rfl rfl rfl rfl (V_move rfl rfl) ?_
  refine G_val rfl rfl rfl rfl (V_neq rfl rfl rfl) ?_
  refine G_val rfl rfl rfl rfl (V_pickF rfl rfl rfl) ?_
  refine G_done ?_
  refine G_ifD rfl (fun hc5 => ?_) (fun hc5 => ?_)
  · (first | (exact absurd rfl hc5) | (exfalso; omega))
  refine G_skip ?_
  refine G_seq ?_
  refine G_seq ?_
  refine G_region (l := [0, 1, 2]) rfl ?_
  refine G_val rfl rfl rfl rfl (V_move rfl rfl) ?_
  refine G_val rfl rfl rfl rfl (V_len rfl rfl Tryd.underlying22 rfl) ?_
  refine G_val rfl rfl rfl rfl (V_gtr rfl rfl rfl) ?_
  refine G_done ?_
  refine G_ifD rfl (fun hc6 => ?_) (fun hc6 => ?_)
  · skip
    refine G_seq ?_
    have hx0 := first_at (show 0 < ls.length by omega)
    have hl0 := hl _ (List.mem_of_getElem? hx0)
    obtain ⟨b1, rfl⟩ := hs.isSome (by omega)
    refine G_region (l := [0, 1, 2, 3, 4, 5, 6, 7, 8]) rfl ?_
    refine G_val rfl rfl rfl rfl (V_move rfl rfl) ?_
    first
      | refine G_val rfl rfl rfl rfl (V_indexAddrN (s := 1) rfl Tryd.underlying22 infLawFrameDecodes_9 rfl rfl rfl rfl (by omega)) ?_
      | refine G_val rfl rfl rfl rfl (V_indexAddr (s := 1) rfl Tryd.underlying22 infLawFrameDecodes_9 rfl rfl rfl (by omega) (by first | omega | (simp; done) | (simp; omega) | (simp at *; omega))) ?_
    refine G_val rfl rfl rfl rfl (V_load1 rfl rfl (mem_at 0 rfl) (nth_of (hs.cell hx0)) Tryd.underlying9 rfl) ?_
    refine G_call (L2 := []) rfl rfl rfl rfl rfl rfl Tryd.call14 (fr_size (firstF ls) hl0) [] [] rfl rfl ?_
    rintro v post ⟨rfl, rfl⟩
    refine G_val rfl rfl rfl rfl (V_move rfl rfl) ?_
    refine G_val rfl rfl rfl rfl (V_extract rfl rfl rfl) ?_
    refine G_val rfl rfl rfl rfl (V_extract rfl rfl rfl) ?_
    refine G_val rfl rfl rfl rfl (V_assign rfl rfl) ?_
    refine G_val rfl rfl rfl rfl (V_assign rfl rfl) ?_
    refine G_done ?_
    refine G_seq ?_
    refine G_region (l := [0, 1, 2, 3, 4, 5, 6, 7, 8]) rfl ?_
    refine G_val rfl rfl rfl rfl (V_move rfl rfl) ?_
    first
      | refine G_val rfl rfl rfl rfl (V_indexAddrN (s := 1) rfl Tryd.underlying22 infLawFrameDecodes_9 rfl rfl rfl rfl (by omega)) ?_
      | refine G_val rfl rfl rfl rfl (V_indexAddr (s := 1) rfl Tryd.underlying22 infLawFrameDecodes_9 rfl rfl rfl (by omega) (by first | omega | (simp; done) | (simp; omega) | (simp at *; omega))) ?_
    refine G_val rfl rfl rfl rfl (V_load1 rfl rfl (mem_at 0 rfl) (nth_of (hs.cell hx0)) Tryd.underlying9 rfl) ?_
    refine G_call (L2 := []) rfl rfl rfl rfl rfl rfl Tryd.call15 (rfr_size (firstF ls) hl0) [] [] rfl rfl ?_
    rintro v post ⟨rfl, rfl⟩
    refine G_val rfl rfl rfl rfl (V_move rfl rfl) ?_
    refine G_val rfl rfl rfl rfl (V_extract rfl rfl rfl) ?_
    refine G_val rfl rfl rfl rfl (V_extract rfl rfl rfl) ?_
    refine G_val rfl rfl rfl rfl (V_assign rfl rfl) ?_
    refine G_val rfl rfl rfl rfl (V_assign rfl rfl) ?_
    refine G_done ?_
    refine G_seq ?_
    refine G_region (l := [0, 1, 2, 3, 4, 5, 6, 7, 8, 9, 10, 11, 12]) rfl ?_
    refine G_val rfl rfl rfl rfl (V_move rfl rfl) ?_
    refine G_val rfl rfl rfl rfl (V_move rfl rfl) ?_
    refine G_val rfl rfl rfl rfl (V_eql rfl rfl rfl) ?_
    refine G_val rfl rfl rfl rfl (V_move rfl rfl) ?_
    refine G_splitD 77 rfl (fun hc7 => ?_) (fun hc7 => ?_)
    rotate_left
    · (first | (exact absurd rfl hc7) | (exfalso; omega))
    refine G_val rfl rfl rfl rfl (V_move rfl rfl) ?_
    refine G_call (L2 := []) rfl rfl rfl rfl rfl rfl Tryd.call9 (fl_num _) [] [] rfl rfl ?_
    rintro v post ⟨rfl, rfl⟩
    refine G_val rfl rfl rfl rfl (V_move rfl rfl) ?_
    refine G_val rfl rfl rfl rfl (V_eql rfl rfl rfl) ?_
    refine G_val rfl rfl rfl rfl (V_pickT rfl rfl rfl) ?_
    refine G_val rfl rfl rfl rfl (V_move rfl rfl) ?_
    refine G_splitD 83 rfl (fun hc8 => ?_) (fun hc8 => ?_)
    rotate_left
    · (first | (exact absurd rfl hc8) | (exfalso; omega))
    refine G_call (L2 := []) rfl rfl rfl rfl rfl rfl Tryd.call5 (fl_live) [] [] rfl rfl ?_
    rintro v post ⟨rfl, rfl⟩
    refine G_val rfl rfl rfl rfl (V_pickT rfl rfl rfl) ?_
    refine G_val rfl rfl rfl rfl (V_assign rfl rfl) ?_
    refine G_done ?_
    refine G_ret (post := []) Tryd.func4 rfl (RVs_cons (RV_tmp rfl) RVs_nil) [] rfl ?_
    dsimp only [packed]
    exact ⟨rfl, rfl⟩
  refine G_skip ?_
  refine G_seq ?_
  refine G_region (l := [0, 1]) rfl ?_
  refine G_call (L2 := []) rfl rfl rfl rfl rfl rfl Tryd.call5 (fl_live) [] [] rfl rfl ?_
  rintro v post ⟨rfl, rfl⟩
  refine G_val rfl rfl rfl rfl (V_assign rfl rfl) ?_
  refine G_done ?_
  refine G_ret (post := []) Tryd.func4 rfl (RVs_cons (RV_tmp rfl) RVs_nil) [] rfl ?_
  dsimp only [packed]
  exact ⟨rfl, rfl⟩


set_option maxRecDepth 100000 in
theorem frameDecodes_walk : LawWalk 4 Tryd.f4 := lawwalk_reads (fun W base args hs hval => by
  rw [Tryd.params4] at hs hval
  obtain ⟨l⟩ := args
  match l, hs with
  | [a], _ =>
    obtain ⟨hv, hr⟩ := hval 0 22 a rfl rfl
    obtain ⟨p, i, j, rfl, hv⟩ := okv_slice hv Tryd.underlying22
    obtain ⟨o1, p1, q1, c1, T1, f1, ls, e, hk, hg, hb⟩ := reads_slice (sz := 1) hr Tryd.underlying22 (by kernel_rfl) rfl hv (fun l => [strC l]) (fun _ => rfl) (fun l => l.length ≤ 9223372036854775807) (fun es hl h => by
      obtain ⟨l, rfl, hq⟩ := reads_str h Tryd.underlying9
      exact ⟨l, rfl, hq⟩)
    rw [flat_str] at hk
    rw [e]
    exact ⟨_, has_cons (has_nil _) hb, frameDecodes_all o1 p1 q1 c1 T1 f1 ls hk hg⟩)


set_option maxRecDepth 100000 in
theorem frameDecodes_lifted (os : Os) (started : os.Started) (H : Type) (enc : TypeId × Value → H) :
    ReturnsInHanded {} Tryd.checked os 4 .any (fun w args => (Rows.frameDecodesSpec.pre enc Tryd.prog Tryd.f4 [] false w args ∧ laidMetH Tryd.prog Rows.frameDecodesRow.laid w) ∧ sizedMet enc Tryd.prog Tryd.f4 (OpenSpec.ofChange Rows.frameDecodesSpec) false w args)
      (Rows.frameDecodesSpec.post enc Tryd.prog Tryd.f4 false true false false) := by
  refine returnsInHanded_of_change_and (C := Tryd.checked) (X := fun w _ => laidMetH Tryd.prog Rows.frameDecodesRow.laid w) (fun _ _ _ hh h => h.of_heap hh) Tryd.ownK started (by kernel_rfl) Tryd.func4
    (ChangeSpec.witness_shaped (enc := enc) (C := Tryd.checked) (os := os) (X := fun w _ => laidMetH Tryd.prog Rows.frameDecodesRow.laid w) false (World.laidAll Tryd.prog os Rows.frameDecodesRow.laid) #[.slice none 0 0] 8 (World.laidAll_os _ _ _)
      (World.shaped_of_ZipB (by kernel_rfl) (by kernel_rfl)) (by kernel_rfl) (by kernel_rfl) (by kernel_rfl)
      (by rw [MakeChecks.laidMetH_plain _ _ _ (by kernel_rfl)]; exact laidMet_laidAll _ (by kernel_rfl) (by kernel_rfl))) ?_
  intro W base args ds gs before hval hW _ _ _ _
  exact law_end (s := Rows.frameDecodesSpec) rfl (by kernel_rfl) (by kernel_rfl) (by decide +kernel) (fun ds h => by match ds, h with | [_], _ => rfl) frameDecodes_walk W base args ds gs before hval hW
theorem frameDecodes_said : Rows.FrameDecodesSaid :=
  OpenClaim.holds_of_wide 4 Tryd.f4 rfl rfl rfl rfl rfl rfl rfl ⟨rfl, rfl, rfl, rfl, rfl⟩ rfl rfl rfl rfl rfl (by kernel_rfl) Tryd.func4 (by kernel_rfl)
    (of_decide_eq_true (by kernel_rfl)) (by unfold Func.isWrapper; first | (rw [if_pos (by decide +kernel)]; kernel_rfl) | (rw [if_neg (by decide +kernel)]; exact ⟨rfl, rfl⟩))
    (fun os started H enc _ => frameDecodes_lifted os started H enc)
theorem frameDecodes_holds : Rows.FrameDecodesCardSaid :=
  Claim7.holds_tied_plain_at .later [] _ _ _ _ frameDecodes_said (fun _ h => by cases h) (by kernel_rfl) (fun _ h => by cases h) frameDecodes_row_tie rfl ⟨rfl, rfl⟩ (by kernel_rfl) rfl
    (fun f fn hf hfn => by
      obtain rfl : f = 4 := Option.some.inj ((show Tryd.prog.funcNamed "billet/billetlaw25.FrameDecodes" = some 4 by kernel_rfl).symm.trans hf) |>.symm
      obtain rfl : fn = Tryd.f4 := (Option.some.inj (Tryd.func4.symm.trans hfn)).symm
      exact ⟨by kernel_rfl, fun j t ht => by
        rw [Tryd.params4] at ht
        have hm : t ∈ [22] := by simpa using Array.mem_of_getElem? ht
        have hall : ([22].all fun u => !Tryd.prog.wantsStandIn u) = true := by kernel_rfl
        exact (show Tryd.prog.wantsStandIn t = false by simpa using List.all_eq_true.1 hall t hm)⟩)
    (by kernel_rfl)
#print axioms frameDecodes_holds

end
end Go.Proofs.YtkidmbaakdaflaaDoor
