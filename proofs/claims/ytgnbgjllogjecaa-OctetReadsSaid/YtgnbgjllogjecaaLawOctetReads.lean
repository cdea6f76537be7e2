/- The law OctetReads: whatever the text and the reads, one behind the other, the program's reader and the document's tell the same, up to the first error and behind it; none tells nothing; the call returns true and leaves its arguments as they were. -/
import Derived.Test.YtgnbgjllogjecaaOctetReadsW
import Derived.Test.YtgnbgjllogjecaaLaw
import Derived.Deep.SlicePairs
namespace Go.Proofs.Ytgnbgjllogjecaa
open Go.ChangeShapes Go.WideShapes Go.ChangeAt Go.RowKit Go.Deep
open Go.ChangeMaps (open_string shut_string)

set_option maxRecDepth 100000 in
theorem octetReads_walk : LawWalk 8 Try.f8 := by
  intro H enc W base args ds p hval hA
  rw [Try.params8] at hA hval
  obtain ⟨v0, v1, d0, d1, p0, p1, rfl, rfl, rfl, h0, h1⟩ := trodAll_two hA
  obtain ⟨s, rfl, rfl, rfl, hs⟩ := open_string Try.underlying9 (hval 0 9 v0 rfl rfl) h0
  obtain ⟨a, len, cap, rfl⟩ := okWide_slice Try.underlying55 (hval 1 55 v1 rfl rfl)
  obtain ⟨fuel, hf⟩ := h1
  unfold maxLen at hs
  rcases open_slice_pairs Try.underlying55 Try.underlying63 (by kernel_rfl) rfl rfl (by kernel_rfl) (by kernel_rfl) hf with ⟨hcs, _⟩ | ⟨x, l, c, m, n, V0, V1, D0, D1, P0, P1, hcs, _, hlc, hcm, hm, _, hel⟩
  · simp [Value.cells] at hcs
    obtain ⟨rfl, rfl, rfl⟩ := hcs
    by_cases hl : 1000 < s.size
    · exact octetReads_large s none 0 0 W (by omega) (by omega) (.inl hl)
    · exact octetReads_none s none 0 W (by omega)
  · simp [Value.cells] at hcs
    obtain ⟨rfl, rfl, rfl⟩ := hcs
    simp at hm
    subst hm
    unfold maxLen at hcm
    by_cases hl : 1000 < s.size ∨ 100 < len
    · exact octetReads_large s (some x) len m W (by omega) (by omega) hl
    · by_cases hz : len = 0
      · subst hz
        exact octetReads_none s _ _ W (by omega)
      · obtain ⟨b, off, spot⟩ := x
        have hc0 := (hel 0 (by omega)).1
        have hspot : spot = none := by simpa [Addr.add] using World.cell?_spot hc0
        subst hspot
        have hbl : b < W.heap.size := by
          have := block_lt_of_cell hc0
          simpa [addr_add] using this
        have hall : ∀ i, i < len → ∃ K M : Int, W.cell? ⟨b, off + i * 2, none⟩ = some (.int .i64 K) ∧ W.cell? ⟨b, off + i * 2 + 1, none⟩ = some (.int .i64 M) ∧ -9223372036854775808 ≤ M ∧ M ≤ 9223372036854775807 := fun i hi => by
          obtain ⟨g0, g1, t0, t1⟩ := hel i (by omega)
          obtain ⟨K, e0, _, _⟩ := DataW.trod_int Try.underlying3 t0
          obtain ⟨M, e1, _, wM⟩ := DataW.trod_int Try.underlying3 t1
          have hM := bounds_i64 wM
          simp only [List.cons.injEq, and_true] at e0 e1
          rw [addr_add, e0] at g0
          rw [addr_add, e1] at g1
          exact ⟨K, M, g0, g1, by omega, by omega⟩
        obtain ⟨K, hK⟩ := choose_lt hall
        obtain ⟨M, hM⟩ := choose_lt hK
        exact octetReads_some s b off len m K M W (by omega) (by omega) hbl hM

theorem octetReads_holds : Rows.OctetReadsSaid :=
  OpenClaim.holds_of_wide 8 Try.f8 rfl rfl rfl rfl rfl rfl rfl ⟨rfl, rfl, rfl, rfl, rfl⟩ rfl rfl rfl rfl rfl (by kernel_rfl) Try.func8 (by kernel_rfl)
    (of_decide_eq_true (by kernel_rfl)) (by unfold Func.isWrapper; rw [if_neg (by decide +kernel)]; exact ⟨rfl, rfl⟩)
    (fun os started H enc _ => law_lifted (s := Rows.octetReadsSpec) os started H enc Try.func8 (by kernel_rfl)
      (ChangeSpec.witness6 (enc := enc) (C := Try.checked) false ⟨#[], #[.string ByteArray.empty, .slice none 0 0], []⟩ 8 (by kernel_rfl) (by kernel_rfl) (by kernel_rfl) (by kernel_rfl))
      rfl (by kernel_rfl) (by kernel_rfl) (by decide +kernel) (fun ds h => by match ds, h with | [_, _], _ => rfl) octetReads_walk)
#print axioms octetReads_holds

end Go.Proofs.Ytgnbgjllogjecaa
