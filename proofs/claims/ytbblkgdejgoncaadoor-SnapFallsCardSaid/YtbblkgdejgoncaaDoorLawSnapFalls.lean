/- The law SnapFalls: what was put by one epoch, and synced, is got whatever stays of what is put in another region; a text that was put over it by another epoch is got whole, or not at all, whatever stays; by the old epoch just the old one is; the call returns true and leaves its arguments as they were. -/
import Derived.Test.YtbblkgdejgoncaaDoorSnapFW
import Derived.Test.YtbblkgdejgoncaaDoorLawT
set_option linter.unusedSimpArgs false
set_option linter.unusedVariables false
namespace Go.Proofs.YtbblkgdejgoncaaDoor
open Go.ChangeShapes Go.WideShapes Go.ChangeAt Go.RowKit

section



set_option maxRecDepth 100000 in
theorem two_types : Tryd.prog.cellTypes Tryd.prog.depth 58 = some [9, 9, 3, 3] := by kernel_rfl
instance : Inhabited (Int × Int) := ⟨(0, 0)⟩
theorem keep_of {W : World} {es : List Value} (hl : es.length = 2) (h : Reads Tryd.prog W 132 es) : ∃ x : Int × Int, es = kCells x ∧ True := by
  match es, hl with
  | [v0, v1], _ =>
    obtain ⟨n0, e0, _⟩ := reads_int (reads_field (s := 1) (vs := [v0]) h Tryd.underlying132 0 _ rfl (by kernel_rfl) rfl) Tryd.underlying3
    obtain ⟨n1, e1, _⟩ := reads_int (reads_field (s := 1) (vs := [v1]) h Tryd.underlying132 1 _ rfl (by kernel_rfl) rfl) Tryd.underlying3
    simp only [List.cons.injEq, and_true] at e0 e1
    subst e0 e1
    exact ⟨(n0, n1), rfl, trivial⟩
theorem okv_slice {P : Program} {W : World} {r : Reach} {b : Nat} {t e : TypeId} {v : Value} (h : Value.okWide P W r b t v) (ht : P.underlying t = some (.slice e)) : ∃ p i j, v = .slice p i j ∧ Cell.okWide P W r b t v := by
  have h1 := okv_cell h ht rfl
  have h2 := h1
  unfold Cell.okWide at h2
  rw [ht] at h2
  cases v <;> first | exact ⟨_, _, _, rfl, h1⟩ | (exfalso; first | exact h2 | (unfold Cell.ok at h2; rw [ht] at h2; exact h2) | (simp [Cell.ok, ht] at h2; done))
set_option maxRecDepth 100000 in
theorem snapFalls_walk : LawWalk 7 Tryd.f7 := lawwalk_reads (fun W base args hs hval => by
  rw [Tryd.params7] at hs hval
  obtain ⟨l⟩ := args
  match l, hs with
  | [a, b], _ =>
    obtain ⟨cs, rfl, hl, hc⟩ := okv_agg (s := 4) (hval 0 58 a rfl rfl).1 Tryd.underlying58 rfl two_types (by kernel_rfl) rfl
    obtain ⟨h0, hr⟩ := hval 1 59 b rfl rfl
    obtain ⟨p, i, j, rfl, hv⟩ := okv_slice h0 Tryd.underlying59
    match cs, hl, hc with
    | [v0, v1, v2, v3], _, hc =>
      obtain ⟨s, rfl, ps⟩ := okc_str (hc 0 v0 9 rfl rfl) Tryd.underlying9
      obtain ⟨t, rfl, pt⟩ := okc_str (hc 1 v1 9 rfl rfl) Tryd.underlying9
      obtain ⟨n0, rfl, a0, b0⟩ := okc_int (hc 2 v2 3 rfl rfl) Tryd.underlying3
      obtain ⟨n1, rfl, a1, b1⟩ := okc_int (hc 3 v3 3 rfl rfl) Tryd.underlying3
      obtain ⟨o1, p1, q1, c1, T1, f1, ks, e1, hk, hg, hb⟩ := reads_slice (sz := 2) hr Tryd.underlying59 (by kernel_rfl) rfl hv kCells k_len (fun _ => True) (fun es hl h => keep_of hl h)
      rw [e1]
      exact ⟨_, has_cons (has_nil _) hb, snapFalls_all s t n0 n1 b0 b1 ps pt o1 p1 q1 c1 T1 f1 ks hk⟩)


set_option maxRecDepth 100000 in
theorem snapFalls_lifted (os : Os) (started : os.Started) (H : Type) (enc : TypeId × Value → H) :
    ReturnsInHanded {} Tryd.checked os 7 .any (fun w args => (Rows.snapFallsSpec.pre enc Tryd.prog Tryd.f7 [] false w args ∧ laidMetH Tryd.prog Rows.snapFallsRow.laid w) ∧ sizedMet enc Tryd.prog Tryd.f7 (OpenSpec.ofChange Rows.snapFallsSpec) false w args)
      (Rows.snapFallsSpec.post enc Tryd.prog Tryd.f7 false true false false) := by
  refine returnsInHanded_of_change_and (C := Tryd.checked) (X := fun w _ => laidMetH Tryd.prog Rows.snapFallsRow.laid w) (fun _ _ _ hh h => h.of_heap hh) Tryd.ownK started (by kernel_rfl) Tryd.func7
    (ChangeSpec.witness_shaped (enc := enc) (C := Tryd.checked) (os := os) (X := fun w _ => laidMetH Tryd.prog Rows.snapFallsRow.laid w) false (World.laidAll Tryd.prog os Rows.snapFallsRow.laid) #[.agg #[.string ByteArray.empty, .string ByteArray.empty, .int .i64 0, .int .i64 0], .slice none 0 0] 8 (World.laidAll_os _ _ _)
      (World.shaped_of_ZipB (by kernel_rfl) (by kernel_rfl)) (by kernel_rfl) (by kernel_rfl) (by kernel_rfl)
      (by rw [MakeChecks.laidMetH_plain _ _ _ (by kernel_rfl)]; exact laidMet_laidAll _ (by kernel_rfl) (by kernel_rfl))) ?_
  intro W base args ds gs before hval hW _ _ _ _
  exact law_end (s := Rows.snapFallsSpec) rfl (by kernel_rfl) (by kernel_rfl) (by decide +kernel) (fun ds h => by match ds, h with | [_, _], _ => rfl) snapFalls_walk W base args ds gs before hval hW
theorem snapFalls_said : Rows.SnapFallsSaid :=
  OpenClaim.holds_of_wide 7 Tryd.f7 rfl rfl rfl rfl rfl rfl rfl ⟨rfl, rfl, rfl, rfl, rfl⟩ rfl rfl rfl rfl rfl (by kernel_rfl) Tryd.func7 (by kernel_rfl)
    (of_decide_eq_true (by kernel_rfl)) (by unfold Func.isWrapper; first | (rw [if_pos (by decide +kernel)]; kernel_rfl) | (rw [if_neg (by decide +kernel)]; exact ⟨rfl, rfl⟩))
    (fun os started H enc _ => snapFalls_lifted os started H enc)
theorem snapFalls_holds : Rows.SnapFallsCardSaid :=
  Claim7.holds_tied_plain_at .later [] _ _ _ _ snapFalls_said (fun _ h => by cases h) (by kernel_rfl) (fun _ h => by cases h) snapFalls_row_tie rfl ⟨rfl, rfl⟩ (by kernel_rfl) rfl
    (fun f fn hf hfn => by
      obtain rfl : f = 7 := Option.some.inj ((show Tryd.prog.funcNamed "billet/billetlaw27.SnapFalls" = some 7 by kernel_rfl).symm.trans hf) |>.symm
      obtain rfl : fn = Tryd.f7 := (Option.some.inj (Tryd.func7.symm.trans hfn)).symm
      exact ⟨by kernel_rfl, fun j t ht => by
        rw [Tryd.params7] at ht
        have hm : t ∈ [58, 59] := by simpa using Array.mem_of_getElem? ht
        have hall : ([58, 59].all fun u => !Tryd.prog.wantsStandIn u) = true := by kernel_rfl
        exact (show Tryd.prog.wantsStandIn t = false by simpa using List.all_eq_true.1 hall t hm)⟩)
    (by kernel_rfl)
#print axioms snapFalls_holds

end
end Go.Proofs.YtbblkgdejgoncaaDoor
