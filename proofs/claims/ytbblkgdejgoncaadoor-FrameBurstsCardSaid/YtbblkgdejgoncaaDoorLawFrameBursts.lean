/- The law FrameBursts: pieces of which bits are turned that all lie in the sum, or all behind it within 32 in a row, never tell a record; the call returns true and leaves its arguments as they were. -/
import Derived.Test.YtbblkgdejgoncaaDoorFrameBW
import Derived.Test.YtbblkgdejgoncaaDoorLawT
set_option linter.unusedSimpArgs false
set_option linter.unusedVariables false
namespace Go.Proofs.YtbblkgdejgoncaaDoor
open Go.ChangeShapes Go.WideShapes Go.ChangeAt Go.RowKit

section



set_option maxRecDepth 100000 in
theorem frameBursts_walk : LawWalk 3 Tryd.f3 := lawwalk_of (fun W base args hs hval => by
  rw [Tryd.params3] at hs hval
  obtain ⟨l⟩ := args
  match l, hs with
  | [a, b, c], _ =>
    obtain ⟨t, rfl, pt⟩ := okc_str (okv_cell (hval 0 9 a rfl rfl) Tryd.underlying9 rfl) Tryd.underlying9
    obtain ⟨z, rfl, hz0, hz1⟩ := okc_int (okv_cell (hval 1 3 b rfl rfl) Tryd.underlying3 rfl) Tryd.underlying3
    obtain ⟨y, rfl, hy0, hy1⟩ := okc_int (okv_cell (hval 2 22 c rfl rfl) Tryd.underlying22 rfl) Tryd.underlying22
    exact ⟨[], has_nil _, frameBursts_all t pt z y hz0 hz1 hy0 hy1⟩)


set_option maxRecDepth 100000 in
theorem frameBursts_lifted (os : Os) (started : os.Started) (H : Type) (enc : TypeId × Value → H) :
    ReturnsInHanded {} Tryd.checked os 3 .any (fun w args => (Rows.frameBurstsSpec.pre enc Tryd.prog Tryd.f3 [] false w args ∧ laidMetH Tryd.prog Rows.frameBurstsRow.laid w) ∧ sizedMet enc Tryd.prog Tryd.f3 (OpenSpec.ofChange Rows.frameBurstsSpec) false w args)
      (Rows.frameBurstsSpec.post enc Tryd.prog Tryd.f3 false true false false) := by
  refine returnsInHanded_of_change_and (C := Tryd.checked) (X := fun w _ => laidMetH Tryd.prog Rows.frameBurstsRow.laid w) (fun _ _ _ hh h => h.of_heap hh) Tryd.ownK started (by kernel_rfl) Tryd.func3
    (ChangeSpec.witness_shaped (enc := enc) (C := Tryd.checked) (os := os) (X := fun w _ => laidMetH Tryd.prog Rows.frameBurstsRow.laid w) false (World.laidAll Tryd.prog os Rows.frameBurstsRow.laid) #[.string ByteArray.empty, .int .i64 0, .int .u32 0] 8 (World.laidAll_os _ _ _)
      (World.shaped_of_ZipB (by kernel_rfl) (by kernel_rfl)) (by kernel_rfl) (by kernel_rfl) (by kernel_rfl)
      (by rw [MakeChecks.laidMetH_plain _ _ _ (by kernel_rfl)]; exact laidMet_laidAll _ (by kernel_rfl) (by kernel_rfl))) ?_
  intro W base args ds gs before hval hW _ _ _ _
  exact law_end (s := Rows.frameBurstsSpec) rfl (by kernel_rfl) (by kernel_rfl) (by decide +kernel) (fun ds h => by match ds, h with | [_, _, _], _ => rfl) frameBursts_walk W base args ds gs before hval hW
theorem frameBursts_said : Rows.FrameBurstsSaid :=
  OpenClaim.holds_of_wide 3 Tryd.f3 rfl rfl rfl rfl rfl rfl rfl ⟨rfl, rfl, rfl, rfl, rfl⟩ rfl rfl rfl rfl rfl (by kernel_rfl) Tryd.func3 (by kernel_rfl)
    (of_decide_eq_true (by kernel_rfl)) (by unfold Func.isWrapper; first | (rw [if_pos (by decide +kernel)]; kernel_rfl) | (rw [if_neg (by decide +kernel)]; exact ⟨rfl, rfl⟩))
    (fun os started H enc _ => frameBursts_lifted os started H enc)
theorem frameBursts_holds : Rows.FrameBurstsCardSaid :=
  Claim7.holds_tied_plain_at .later [] _ _ _ _ frameBursts_said (fun _ h => by cases h) (by kernel_rfl) (fun _ h => by cases h) frameBursts_row_tie rfl ⟨rfl, rfl⟩ (by kernel_rfl) rfl
    (fun f fn hf hfn => by
      obtain rfl : f = 3 := Option.some.inj ((show Tryd.prog.funcNamed "billet/billetlaw25.FrameBursts" = some 3 by kernel_rfl).symm.trans hf) |>.symm
      obtain rfl : fn = Tryd.f3 := (Option.some.inj (Tryd.func3.symm.trans hfn)).symm
      exact ⟨by kernel_rfl, fun j t ht => by
        rw [Tryd.params3] at ht
        have hm : t ∈ [9, 3, 22] := by simpa using Array.mem_of_getElem? ht
        have hall : ([9, 3, 22].all fun u => !Tryd.prog.wantsStandIn u) = true := by kernel_rfl
        exact (show Tryd.prog.wantsStandIn t = false by simpa using List.all_eq_true.1 hall t hm)⟩)
    (by kernel_rfl)
#print axioms frameBursts_holds

end
end Go.Proofs.YtbblkgdejgoncaaDoor
