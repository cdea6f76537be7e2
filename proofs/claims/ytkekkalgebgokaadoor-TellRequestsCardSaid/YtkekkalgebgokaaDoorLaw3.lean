/- What can be read of arguments, on: slices of whatever, and their elements. -/
import Derived.Test.YtkekkalgebgokaaDoorLaw2
import Derived.Test.YtkekkalgebgokaaDoorG11
import Derived.Deep.Slices
set_option linter.unusedSimpArgs false
set_option linter.unusedVariables false
namespace Go.Proofs.YtkekkalgebgokaaDoor
open Go.ChangeShapes Go.WideShapes Go.ChangeAt Go.RowKit Go.Deep

/-- It can be read, at a type. -/
def Reads (P : Program) (W : World) (t : TypeId) (cs : List Value) : Prop :=
  ∃ (H : Type) (enc : TypeId × Value → H) (n : Nat) (x : DataW H × List MemPlace), DataW.trod enc P W 0 (fun _ => true) true n t cs = some x

section
variable {P : Program} {W : World}
theorem reads_int {t : TypeId} {q : IntKind} {cs : List Value} (h : Reads P W t cs) (ht : P.underlying t = some (.int q)) : ∃ n : Int, cs = [.int q n] ∧ q.min ≤ n ∧ n ≤ q.max := by
  obtain ⟨H, enc, n, x, h⟩ := h
  obtain ⟨k, rfl, _, hw⟩ := DataW.trod_int ht h
  simp [Lit.wf] at hw
  exact ⟨k, rfl, hw.1, hw.2⟩
theorem reads_str {t : TypeId} {cs : List Value} (h : Reads P W t cs) (ht : P.underlying t = some .string) : ∃ l : List UInt8, cs = [.string (bs l)] ∧ l.length ≤ 9223372036854775807 := by
  obtain ⟨H, enc, n, x, h⟩ := h
  obtain ⟨s, rfl, _, hs⟩ := DataW.trod_string ht h
  refine ⟨s.data.toList, rfl, ?_⟩
  have : s.data.toList.length = s.size := by simp
  unfold maxLen at hs
  omega
theorem reads_bool {t : TypeId} {cs : List Value} (h : Reads P W t cs) (ht : P.underlying t = some .bool) : ∃ b : Bool, cs = [.bool b] := by
  obtain ⟨H, enc, n, x, h⟩ := h
  obtain ⟨b, rfl, _⟩ := DataW.trod_bool ht h
  exact ⟨b, rfl⟩
theorem reads_struct {t : TypeId} {fs : Array Field} {cs : List Value} (h : Reads P W t cs) (ht : P.underlying t = some (.struct fs)) : cs.length = P.cellsOf t ∧ ∀ (i : Nat) (f : Field), fs[i]? = some f → Reads P W f.type ((cs.drop f.offset).take (P.cellsOf f.type)) := by
  obtain ⟨H, enc, n, x, h⟩ := h
  obtain ⟨xs, k, _, _, hl, hx, hf⟩ := DataW.trod_struct ht h
  refine ⟨hl, fun i f hi => ?_⟩
  have hlt : i < xs.length := by rw [hx]; exact (Array.getElem?_eq_some_iff.1 hi).1
  exact ⟨H, enc, k, xs[i], by rw [hf i f hi, List.getElem?_eq_getElem hlt]⟩
/-- A field, by its place. -/
theorem reads_field {t : TypeId} {fs : Array Field} {cs vs : List Value} {s : Nat} (h : Reads P W t cs) (ht : P.underlying t = some (.struct fs)) (i : Nat) (f : Field) (hi : fs[i]? = some f) (hs : P.cellsOf f.type = s) (hv : (cs.drop f.offset).take s = vs) : Reads P W f.type vs := by
  have := (reads_struct h ht).2 i f hi
  rwa [hs, hv] at this

theorem reads_slice {t e : TypeId} {cs : List Value} {sz b : Nat} (h : Reads P W t cs) (ht : P.underlying t = some (.slice e)) (hsz : P.cellsOf e = sz) {v : Value} (hv : cs = [v]) (hok : Cell.okWide P W .any b t v) {α : Type} [Inhabited α] (f : α → List Value) (hf : ∀ a, (f a).length = sz) (good : α → Prop)
    (hel : ∀ es, es.length = sz → Reads P W e es → ∃ a, es = f a ∧ good a) :
    ∃ (ob : Option Nat) (off cap : Nat) (c : Array Value) (T : TypeId) (fr : Nat × Nat) (l : List α), v = sv ob off l.length cap ∧ Sees sz ob off cap c (l.flatMap f) l.length ∧ (∀ a ∈ l, good a) ∧ ∀ b, ob = some b → W.heap[b]? = some (.cells c T fr) := by
  obtain ⟨H, enc, n, x, h⟩ := h
  subst hv
  rcases open_slice ht h with ⟨h0, _⟩ | ⟨a, len, cap, m, n, D, Pl, hcs, _, hl, hm, hmm, _, hx⟩
  · simp at h0
    subst h0
    exact ⟨none, 0, 0, #[], 0, (0, 0), [], rfl, sees_nil, by simp, fun b hb => by cases hb⟩
  · simp at hcs
    subst hcs
    simp at hmm
    subst hmm
    unfold Cell.okWide at hok
    rw [ht] at hok
    have hok : Cell.ok P W .any b t (.slice (some a) len m) := hok
    unfold Cell.ok at hok
    rw [ht] at hok
    obtain ⟨_, _, _, hsp, row, cells, hsh, _⟩ := hok
    obtain ⟨bb, off, spot⟩ := a
    simp only at hsp hsh
    subst hsp
    obtain ⟨c, T, fr, hb⟩ : ∃ c T fr, W.heap[bb]? = some (.cells c T fr) := by
      unfold World.shape? at hsh
      split at hsh
      · rename_i c e fr hb; exact ⟨c, e, fr, hb⟩
      · cases hsh
    have hall : ∀ i, i < len → ∃ a : α, good a ∧ ∀ j, j < sz → c[off + i * sz + j]? = (f a)[j]? := fun i hi => by
      obtain ⟨es, h1, h2⟩ := hx i (by omega)
      rw [hsz] at h1
      obtain ⟨_, hlen, hc⟩ := World.cells?_some h1
      obtain ⟨a, rfl, hg⟩ := hel es hlen ⟨H, enc, n, _, h2⟩
      refine ⟨a, hg, fun j hj => ?_⟩
      have := hc j hj
      rw [addr_add, addr_add, cell_of_row W bb _ c T fr hb] at this
      exact this
    obtain ⟨F, hF⟩ := choose_lt hall
    have hll : ((List.range len).map F).length = len := by simp
    refine ⟨some bb, off, m, c, T, fr, (List.range len).map F, by rw [hll]; rfl, ⟨by rw [flat_len f hf, hll], by rw [hll]; exact hl, by unfold maxLen at hm; omega, ?_, fun h => by cases h⟩, fun a ha => ?_, fun b hb' => by cases hb'; exact hb⟩
    · rw [hll]
      apply List.ext_getElem?
      intro k
      have hfl : (((List.range len).map F).flatMap f).length = len * sz := by rw [flat_len f hf, hll]
      rcases Nat.lt_or_ge k (len * sz) with hk | hk
      · have hz : 0 < sz := by
          rcases Nat.eq_zero_or_pos sz with h0 | h0
          · subst h0; omega
          · exact h0
        have hi : k / sz < len := Nat.div_lt_of_lt_mul (by rw [Nat.mul_comm]; exact hk)
        have hj : k % sz < sz := Nat.mod_lt _ hz
        have hkk : k = k / sz * sz + k % sz := by have := Nat.div_add_mod k sz; rw [Nat.mul_comm] at this; omega
        have h1 := (hF (k / sz) hi).2 (k % sz) hj
        have h2 := flat_at f hf ((List.range len).map F) (k / sz) (F (k / sz)) (by simp [hi])
        have h3 : (((List.range len).map F).flatMap f)[k]? = (f (F (k / sz)))[k % sz]? := by
          rw [← h2, List.getElem?_take, if_pos hj, List.getElem?_drop, ← hkk]
        rw [h3, ← h1, List.getElem?_take, if_pos hk, List.getElem?_drop]
        have e : off + k / sz * sz + k % sz = off + k := by omega
        rw [e]
        simp
      · rw [List.getElem?_eq_none (by rw [List.length_take]; omega), List.getElem?_eq_none (by omega)]
    · simp only [List.mem_map, List.mem_range] at ha
      obtain ⟨i, hi, rfl⟩ := ha
      exact (hF i hi).1
end

/-- A block of a slice's, if any, is there. -/
theorem has_cons {W : World} {A : List (Option Nat × Obj)} {ob : Option Nat} {o : Obj} (h : Has W A []) (ho : ∀ b, ob = some b → W.heap[b]? = some o) : Has W ((ob, o) :: A) [] :=
  ⟨fun b x hm => by
    rcases List.mem_cons.1 hm with e | hm
    · injection e with e1 e2
      subst e2
      exact ho b e1.symm
    · exact h.liesA b x hm, .nil, fun _ _ h => (by cases h), fun _ _ _ h => (by cases h)⟩

set_option maxRecDepth 100000 in
/-- A law's walk by a contract over its arguments, for what can be read at their types. -/
theorem lawwalk_reads {f : FuncId} {F : Func} (h : ∀ (W : World) (base : Nat) (args : Array Value), args.size = F.params.size → (∀ (j : Nat) t v, F.params[j]? = some t → args[j]? = some v → Value.okWide Tryd.prog W .any base t v ∧ Reads Tryd.prog W t v.cells.toList) → ∃ A, Has W A [] ∧ Ct Tryd.prog f args.toList A [] (fun v post => v = .bool true ∧ post = [])) : LawWalk f F := by
  intro H enc W base args ds p hval hA
  have hlen : ∀ (ts : List TypeId) (vs : List Value) (ds : List (DataW H)) (ps : List MemPlace), DataW.TrodAll enc Tryd.prog W 0 (fun _ => true) true ts vs ds ps → vs.length = ts.length ∧ ∀ (j : Nat) t v, ts[j]? = some t → vs[j]? = some v → Reads Tryd.prog W t v.cells.toList := by
    intro ts
    induction ts with
    | nil =>
      intro vs ds ps h
      cases vs with
      | nil => exact ⟨rfl, fun j t v ht => by simp at ht⟩
      | cons v vs => cases ds <;> exact h.elim
    | cons t ts ih =>
      intro vs ds ps h
      cases vs with
      | nil => cases ds <;> exact h.elim
      | cons v vs =>
        cases ds with
        | nil => exact h.elim
        | cons d ds =>
          obtain ⟨p, q, h1, h2, _⟩ := h
          obtain ⟨i1, i2⟩ := ih vs ds q h2
          refine ⟨by simp [i1], fun j t' v' ht hv => ?_⟩
          cases j with
          | zero =>
            simp at ht hv
            subst ht hv
            obtain ⟨m, hm⟩ := h1
            exact ⟨H, enc, m, _, by simpa using hm⟩
          | succ j => exact i2 j t' v' (by simpa using ht) (by simpa using hv)
  have hl := hlen _ _ _ _ hA
  obtain ⟨A, hw, hc⟩ := h W base args (by simpa using hl.1) (fun j t v ht hv => ⟨hval j t v ht hv, hl.2 j t v (by simpa using ht) (by simpa using hv)⟩)
  have := below_of_ct hc W hw
  rwa [Array.toArray_toList] at this
end Go.Proofs.YtkekkalgebgokaaDoor
