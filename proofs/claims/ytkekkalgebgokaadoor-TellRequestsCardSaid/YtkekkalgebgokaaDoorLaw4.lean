/- What can be read of arguments, on: slices that lie in elements of other slices. -/
import Derived.Test.YtkekkalgebgokaaDoorLaw3
set_option linter.unusedSimpArgs false
set_option linter.unusedVariables false
namespace Go.Proofs.YtkekkalgebgokaaDoor
open Go.Deep Go.ChangeShapes Go.WideShapes Go.ChangeAt Go.RowKit

theorem has_mapK {α : Type} (f : α → Option Nat × Obj) {W : World} : ∀ (l : List α), (∀ a ∈ l, ∀ b, (f a).1 = some b → W.heap[b]? = some (f a).2) → Has W (l.map f) []
  | [], _ => has_nil _
  | a :: r, h => has_cons (has_mapK f r (fun x hx => h x (by simp [hx]))) (h a (by simp))
theorem reads_slice2 {P : Program} {W : World} {t e : TypeId} {cs : List Value} {sz : Nat} (h : Reads P W t cs) (ht : P.underlying t = some (.slice e)) (hsz : P.cellsOf e = sz) (hz : 0 < sz) {α : Type} [Inhabited α] (f : α → List Value) (hf : ∀ a, (f a).length = sz) (good : α → Prop)
    (hel : ∀ es, es.length = sz → Reads P W e es → ∃ a, es = f a ∧ good a) :
    ∃ (p : Option Addr) (ob : Option Nat) (off cap : Nat) (c : Array Value) (T : TypeId) (fr : Nat × Nat) (l : List α), cs = [.slice p l.length cap] ∧ l.length ≤ cap ∧ cap ≤ 9223372036854775807 ∧ ((p = ob.map (fun b => ⟨b, off, none⟩) ∧ Sees sz ob off cap c (l.flatMap f) l.length) ∨ (l = [] ∧ cap = 0)) ∧ (∀ a ∈ l, good a) ∧ ∀ b, ob = some b → W.heap[b]? = some (.cells c T fr) := by
  obtain ⟨H, enc, n, x, h⟩ := h
  rcases Go.Deep.open_slice ht h with ⟨h0, _⟩ | ⟨a, len, cap, m, n, D, Pl, hcs, _, hl, hm, hmm, _, hx⟩
  · exact ⟨none, none, 0, 0, #[], 0, (0, 0), [], h0, Nat.le_refl _, by omega, .inr ⟨rfl, rfl⟩, by simp, fun b hb => by cases hb⟩
  · simp at hmm
    subst hmm
    have hm' : m ≤ 9223372036854775807 := by unfold maxLen at hm; omega
    rcases Nat.eq_zero_or_pos m with h0 | hpos
    · subst h0
      have hl0 : len = 0 := by omega
      subst hl0
      exact ⟨some a, none, 0, 0, #[], 0, (0, 0), [], hcs, Nat.le_refl _, by omega, .inr ⟨rfl, rfl⟩, by simp, fun b hb => by cases hb⟩
    · obtain ⟨bb, off, spot⟩ := a
      have hex : spot = none ∧ ∃ c T fr, W.heap[bb]? = some (.cells c T fr) := by
        obtain ⟨es, h1, _⟩ := hx 0 hpos
        rw [hsz] at h1
        obtain ⟨_, hlen, hc⟩ := World.cells?_some h1
        have h2 := hc 0 hz
        rw [List.getElem?_eq_getElem (by omega)] at h2
        cases spot with
        | none =>
          rw [addr_add, addr_add] at h2
          unfold World.cell? at h2
          split at h2
          · rename_i c T fr hb
            exact ⟨rfl, c, T, fr, hb⟩
          · cases h2
        | some s =>
          exfalso
          unfold World.cell? at h2
          split at h2
          · simp [Addr.add] at h2
          · cases h2
      obtain ⟨rfl, c, T, fr, hb⟩ := hex
      have hok : ∀ i, i < len → ∃ a : α, (∀ j, j < sz → c[off + i * sz + j]? = (f a)[j]?) ∧ good a := fun i hi => by
        obtain ⟨es, h1, h2⟩ := hx i (by omega)
        rw [hsz] at h1
        obtain ⟨_, hlen, hc⟩ := World.cells?_some h1
        obtain ⟨a, rfl, hg⟩ := hel es hlen ⟨H, enc, n, _, h2⟩
        refine ⟨a, fun j hj => ?_, hg⟩
        have := hc j hj
        rw [addr_add, addr_add, cell_of_row W bb _ c T fr hb] at this
        exact this
      obtain ⟨F, hF⟩ := choose_lt hok
      have hll : ((List.range len).map F).length = len := by simp
      refine ⟨some ⟨bb, off, none⟩, some bb, off, m, c, T, fr, (List.range len).map F, by rw [hll]; exact hcs, by rw [hll]; exact hl, hm', .inl ⟨rfl, by rw [flat_len f hf, hll], by rw [hll]; exact hl, hm', ?_, fun h => by cases h⟩, fun a ha => ?_, fun b hb' => by cases hb'; exact hb⟩
      rotate_left
      · obtain ⟨i, hi, rfl⟩ := List.mem_map.1 ha
        exact (hF i (List.mem_range.1 hi)).2
      rw [hll]
      apply List.ext_getElem?
      intro k
      have hfl : (((List.range len).map F).flatMap f).length = len * sz := by rw [flat_len f hf, hll]
      rcases Nat.lt_or_ge k (len * sz) with hk | hk
      · have hi : k / sz < len := Nat.div_lt_of_lt_mul (by rw [Nat.mul_comm]; exact hk)
        have hj : k % sz < sz := Nat.mod_lt _ hz
        have hkk : k = k / sz * sz + k % sz := by have := Nat.div_add_mod k sz; rw [Nat.mul_comm] at this; omega
        have h1 := (hF (k / sz) hi).1 (k % sz) hj
        have h2 := flat_at f hf ((List.range len).map F) (k / sz) (F (k / sz)) (by simp [hi])
        have h3 : (((List.range len).map F).flatMap f)[k]? = (f (F (k / sz)))[k % sz]? := by
          rw [← h2, List.getElem?_take, if_pos hj, List.getElem?_drop, ← hkk]
        rw [h3, ← h1, List.getElem?_take, if_pos hk, List.getElem?_drop]
        have e : off + k / sz * sz + k % sz = off + k := by omega
        rw [e]
        simp
      · rw [List.getElem?_eq_none (by rw [List.length_take]; omega), List.getElem?_eq_none (by omega)]
theorem okv_slice {P : Program} {W : World} {r : Reach} {b : Nat} {t e : TypeId} {v : Value} (h : Value.okWide P W r b t v) (ht : P.underlying t = some (.slice e)) : ∃ p i j, v = .slice p i j ∧ Cell.okWide P W r b t v := by
  have h1 := okv_cell h ht rfl
  have h2 := h1
  unfold Cell.okWide at h2
  rw [ht] at h2
  cases v <;> first | exact ⟨_, _, _, rfl, h1⟩ | (exfalso; first | exact h2 | (unfold Cell.ok at h2; rw [ht] at h2; exact h2) | (simp [Cell.ok, ht] at h2; done))
end Go.Proofs.YtkekkalgebgokaaDoor
