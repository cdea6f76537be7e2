/- The law SnapGets: of any blocks that lie on a disk the program gets, by any epoch and size, what the document gets of them, or it says why not; the call returns true and leaves its arguments as they were. -/
import Derived.Test.YtbblkgdejgoncaaDoorSnapGW
import Derived.Test.YtbblkgdejgoncaaDoorLawT
set_option linter.unusedSimpArgs false
set_option linter.unusedVariables false
namespace Go.Proofs.YtbblkgdejgoncaaDoor
open Go.ChangeShapes Go.WideShapes Go.ChangeAt Go.RowKit

section



set_option maxRecDepth 100000 in
theorem lay_of {W : World} {es : List Value} (hl : es.length = 3) (h : Reads Tryd.prog W 39 es) : ∃ x : La, es = laCells x ∧ LaOk x := by
  match es, hl with
  | [v0, v1, v2], _ =>
    obtain ⟨n0, e0, a0, b0⟩ := reads_int (reads_field (s := 1) (vs := [v0]) h Tryd.underlying39 0 _ rfl (by kernel_rfl) rfl) Tryd.underlying22
    obtain ⟨n1, e1, a1, b1⟩ := reads_int (reads_field (s := 1) (vs := [v1]) h Tryd.underlying39 1 _ rfl (by kernel_rfl) rfl) Tryd.underlying22
    obtain ⟨t, e2, pt⟩ := reads_str (reads_field (s := 1) (vs := [v2]) h Tryd.underlying39 2 _ rfl (by kernel_rfl) rfl) Tryd.underlying9
    simp only [List.cons.injEq, and_true] at e0 e1 e2
    subst e0 e1 e2
    have b0 : n0 ≤ (4294967295 : Int) := b0
    have b1 : n1 ≤ (4294967295 : Int) := b1
    obtain ⟨m0, rfl⟩ := Int.eq_ofNat_of_zero_le (show (0 : Int) ≤ n0 from a0)
    obtain ⟨m1, rfl⟩ := Int.eq_ofNat_of_zero_le (show (0 : Int) ≤ n1 from a1)
    exact ⟨⟨m0, m1, t⟩, rfl, ⟨by show m0 < _; omega, by show m1 < _; omega, pt⟩⟩
theorem okv_slice {P : Program} {W : World} {r : Reach} {b : Nat} {t e : TypeId} {v : Value} (h : Value.okWide P W r b t v) (ht : P.underlying t = some (.slice e)) : ∃ p i j, v = .slice p i j ∧ Cell.okWide P W r b t v := by
  have h1 := okv_cell h ht rfl
  have h2 := h1
  unfold Cell.okWide at h2
  rw [ht] at h2
  cases v <;> first | exact ⟨_, _, _, rfl, h1⟩ | (exfalso; first | exact h2 | (unfold Cell.ok at h2; rw [ht] at h2; exact h2) | (simp [Cell.ok, ht] at h2; done))
set_option maxRecDepth 100000 in
theorem snapGets_walk : LawWalk 4 Tryd.f4 := lawwalk_reads (fun W base args hs hval => by
  rw [Tryd.params4] at hs hval
  obtain ⟨l⟩ := args
  match l, hs with
  | [a, b, c], _ =>
    obtain ⟨h0, hr⟩ := hval 0 34 a rfl rfl
    obtain ⟨p, i, j, rfl, hv⟩ := okv_slice h0 Tryd.underlying34
    obtain ⟨e, rfl, a0, b0⟩ := okc_int (okv_cell (hval 1 22 b rfl rfl).1 Tryd.underlying22 rfl) Tryd.underlying22
    obtain ⟨z, rfl, a1, b1⟩ := okc_int (okv_cell (hval 2 3 c rfl rfl).1 Tryd.underlying3 rfl) Tryd.underlying3
    have b0 : e ≤ (4294967295 : Int) := b0
    obtain ⟨m, rfl⟩ := Int.eq_ofNat_of_zero_le (show (0 : Int) ≤ e from a0)
    obtain ⟨o1, p1, q1, c1, T1, f1, xs, e1, hk, hg, hb⟩ := reads_slice (sz := 3) hr Tryd.underlying34 (by kernel_rfl) rfl hv laCells la_len LaOk (fun es hl h => lay_of hl h)
    rw [e1]
    exact ⟨_, has_cons (has_nil _) hb, snapGets_all o1 p1 q1 c1 T1 f1 xs hk hg m (by omega) z a1 b1⟩)


set_option maxRecDepth 100000 in
theorem snapGets_lifted (os : Os) (started : os.Started) (H : Type) (enc : TypeId × Value → H) :
    ReturnsInHanded {} Tryd.checked os 4 .any (fun w args => (Rows.snapGetsSpec.pre enc Tryd.prog Tryd.f4 [] false w args ∧ laidMetH Tryd.prog Rows.snapGetsRow.laid w) ∧ sizedMet enc Tryd.prog Tryd.f4 (OpenSpec.ofChange Rows.snapGetsSpec) false w args)
      (Rows.snapGetsSpec.post enc Tryd.prog Tryd.f4 false true false false) := by
  refine returnsInHanded_of_change_and (C := Tryd.checked) (X := fun w _ => laidMetH Tryd.prog Rows.snapGetsRow.laid w) (fun _ _ _ hh h => h.of_heap hh) Tryd.ownK started (by kernel_rfl) Tryd.func4
    (ChangeSpec.witness_shaped (enc := enc) (C := Tryd.checked) (os := os) (X := fun w _ => laidMetH Tryd.prog Rows.snapGetsRow.laid w) false (World.laidAll Tryd.prog os Rows.snapGetsRow.laid) #[.slice none 0 0, .int .u32 0, .int .i64 0] 8 (World.laidAll_os _ _ _)
      (World.shaped_of_ZipB (by kernel_rfl) (by kernel_rfl)) (by kernel_rfl) (by kernel_rfl) (by kernel_rfl)
      (by rw [MakeChecks.laidMetH_plain _ _ _ (by kernel_rfl)]; exact laidMet_laidAll _ (by kernel_rfl) (by kernel_rfl))) ?_
  intro W base args ds gs before hval hW _ _ _ _
  exact law_end (s := Rows.snapGetsSpec) rfl (by kernel_rfl) (by kernel_rfl) (by decide +kernel) (fun ds h => by match ds, h with | [_, _, _], _ => rfl) snapGets_walk W base args ds gs before hval hW
theorem snapGets_said : Rows.SnapGetsSaid :=
  OpenClaim.holds_of_wide 4 Tryd.f4 rfl rfl rfl rfl rfl rfl rfl ⟨rfl, rfl, rfl, rfl, rfl⟩ rfl rfl rfl rfl rfl (by kernel_rfl) Tryd.func4 (by kernel_rfl)
    (of_decide_eq_true (by kernel_rfl)) (by unfold Func.isWrapper; first | (rw [if_pos (by decide +kernel)]; kernel_rfl) | (rw [if_neg (by decide +kernel)]; exact ⟨rfl, rfl⟩))
    (fun os started H enc _ => snapGets_lifted os started H enc)
theorem snapGets_holds : Rows.SnapGetsCardSaid :=
  Claim7.holds_tied_plain_at .later [] _ _ _ _ snapGets_said (fun _ h => by cases h) (by kernel_rfl) (fun _ h => by cases h) snapGets_row_tie rfl ⟨rfl, rfl⟩ (by kernel_rfl) rfl
    (fun f fn hf hfn => by
      obtain rfl : f = 4 := Option.some.inj ((show Tryd.prog.funcNamed "billet/billetlaw27.SnapGets" = some 4 by kernel_rfl).symm.trans hf) |>.symm
      obtain rfl : fn = Tryd.f4 := (Option.some.inj (Tryd.func4.symm.trans hfn)).symm
      exact ⟨by kernel_rfl, fun j t ht => by
        rw [Tryd.params4] at ht
        have hm : t ∈ [34, 22, 3] := by simpa using Array.mem_of_getElem? ht
        have hall : ([34, 22, 3].all fun u => !Tryd.prog.wantsStandIn u) = true := by kernel_rfl
        exact (show Tryd.prog.wantsStandIn t = false by simpa using List.all_eq_true.1 hall t hm)⟩)
    (by kernel_rfl)
#print axioms snapGets_holds

end
end Go.Proofs.YtbblkgdejgoncaaDoor
