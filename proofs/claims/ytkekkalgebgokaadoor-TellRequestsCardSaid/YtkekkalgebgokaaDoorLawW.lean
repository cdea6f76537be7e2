/- Laws that ask how long their arguments' texts may be: what the row says of their weights. -/
import Derived.Test.YtkekkalgebgokaaDoorLawX
set_option linter.unusedSimpArgs false
set_option linter.unusedVariables false
namespace Go.Proofs.YtkekkalgebgokaaDoor
open Go.Deep Go.ChangeShapes Go.WideShapes Go.ChangeAt Go.RowKit
theorem weights_left {H : Type} {P : Program} : ∀ {ts us : List TypeId} {ds gs : List (DataW H)} {k : Nat}, ds.length = ts.length → k ∈ DataW.weightsEach P ts ds → k ∈ DataW.weightsEach P (ts ++ us) (ds ++ gs)
  | [], us, [], gs, k, _, h => by unfold DataW.weightsEach at h; cases h
  | t :: ts, us, d :: ds, gs, k, hl, h => by
    unfold DataW.weightsEach at h
    show k ∈ DataW.weightsEach P (t :: (ts ++ us)) (d :: (ds ++ gs))
    unfold DataW.weightsEach
    rcases List.mem_append.1 h with h | h
    · exact List.mem_append_left _ h
    · exact List.mem_append_right _ (weights_left (by simpa using hl) h)
theorem weights_at {H : Type} {P : Program} : ∀ {ts : List TypeId} {ds : List (DataW H)} {i : Nat} {t : TypeId} {d : DataW H} {k : Nat}, ts[i]? = some t → ds[i]? = some d → k ∈ d.weights P t → k ∈ DataW.weightsEach P ts ds
  | u :: ts, e :: ds, 0, t, d, k, ht, hd, h => by
    simp at ht hd
    subst ht hd
    unfold DataW.weightsEach; exact List.mem_append_left _ h
  | u :: ts, e :: ds, i + 1, t, d, k, ht, hd, h => by
    unfold DataW.weightsEach; exact List.mem_append_right _ (weights_at (by simpa using ht) (by simpa using hd) h)
/-- It can be read, at a type, and none of its texts is longer than a machine's memory reaches. -/
def Light (P : Program) (W : World) (t : TypeId) (cs : List Value) : Prop :=
  ∃ (H : Type) (enc : TypeId × Value → H) (n : Nat) (x : DataW H × List MemPlace), DataW.trod enc P W 0 (fun _ => true) true n t cs = some x ∧ ∀ k ∈ x.1.weights P t, k ≤ reachBytes
theorem light_str {P : Program} {W : World} {t : TypeId} {l : List UInt8} (h : Light P W t [.string (bs l)]) (ht : P.underlying t = some .string) : l.length ≤ 140737488351232 := by
  obtain ⟨H, enc, n, x, h, hw⟩ := h
  obtain ⟨s, e, hx, hs⟩ := DataW.trod_string ht h
  simp only [List.cons.injEq, Value.string.injEq, and_true] at e
  subst e
  rw [hx] at hw
  have := hw (bs l).data.toList.length (by unfold DataW.weights; exact List.mem_singleton.2 rfl)
  simp only [bs] at this
  unfold reachBytes at this
  omega
theorem light_field {P : Program} {W : World} {t : TypeId} {fs : Array Field} {cs vs : List Value} {s : Nat} (h : Light P W t cs) (ht : P.underlying t = some (.struct fs)) (i : Nat) (f : Field) (hi : fs[i]? = some f) (hs : P.cellsOf f.type = s) (hv : (cs.drop f.offset).take s = vs) : Light P W f.type vs := by
  obtain ⟨H, enc, n, x, h, hw⟩ := h
  obtain ⟨xs, k, _, hx, hl, hlen, hf⟩ := DataW.trod_struct ht h
  have hlt : i < xs.length := by rw [hlen]; exact (Array.getElem?_eq_some_iff.1 hi).1
  have h1 := hf i f hi
  rw [List.getElem?_eq_getElem hlt, hs, hv] at h1
  refine ⟨H, enc, k, xs[i], h1, fun m hm => hw m ?_⟩
  rw [hx]
  show m ∈ DataW.weights P t (.agg (xs.map (·.1)))
  unfold DataW.weights
  rw [ht]
  exact weights_at (i := i) (by simp [hi]) (by simp [hlt]) hm
def LawWalkW (X : World → Prop) (f : FuncId) (F : Func) : Prop :=
  ∀ (H : Type) (enc : TypeId × Value → H) (W : World) (base : Nat) (args : Array Value) (ds : List (DataW H)) (p : List MemPlace), X W → (∀ k ∈ DataW.weightsEach Tryd.prog F.params.toList ds, k ≤ reachBytes) →
    (∀ (j : Nat) t v, F.params[j]? = some t → args[j]? = some v → Value.okWide Tryd.prog W .any base t v) →
    DataW.TrodAll enc Tryd.prog W 0 (fun _ => true) true F.params.toList args.toList ds p →
    Calls Tryd.prog f args W fun e W' => e = .returned (.bool true) ∧ Below W.heap.size W W'
set_option maxRecDepth 100000 in
theorem law_endW {f : FuncId} {F : Func} {s : ChangeSpec} {H : Type} {enc : TypeId × Value → H}
    (hvars : s.vars = []) (hrt : F.resultTypes.toList = [4]) (hrs : F.resultTypes.size = 1)
    (hread : ∀ t ∈ F.params.toList, Tryd.prog.readableRec t = true ∧ t < Tryd.prog.types.size)
    (hspec : ∀ ds : List (DataW H), ds.length = F.params.toList.length → s.fn H (ds ++ []) = { results := [.lit (.bool true)], args := ds })
    {X : World → Prop} (walk : LawWalkW X f F) (W : World) (base : Nat) (args : Array Value) (ds gs : List (DataW H)) (before : List MemPlace)
    (hval : ∀ (j : Nat) t v, F.params[j]? = some t → args[j]? = some v → Value.okWide Tryd.prog W .any base t v)
    (hW : DataW.Whole enc Tryd.prog F.params.toList s.vars false W args.toList ds gs before) (hX : X W) (hwt : ∀ k ∈ DataW.weightsEach Tryd.prog (F.params.toList ++ s.plain.varTypes Tryd.prog) (ds ++ gs), k ≤ reachBytes) :
    Calls Tryd.prog f args W fun e W' => ∃ v, e = .returned v ∧ s.post enc Tryd.prog F false true false false W args v W' := by
  have hW' := hW
  obtain ⟨p, q, hA, hV, rfl, hfz, hnd⟩ := hW
  rw [hvars] at hV
  obtain ⟨rfl, rfl⟩ := trodVars_none hV
  have hlen := trodAll_len _ _ _ _ hA
  refine (walk H enc W base args ds p hX (fun k hk => hwt k (weights_left hlen hk)) hval hA).mono fun e W' ⟨he, hb⟩ => ?_
  subst he
  refine ⟨_, rfl, ds, [], _, [], p, [], hW', ?_, ?_, ?_, hb.frame _, fun h => by cases h⟩
  rotate_left
  · rw [hspec ds hlen]
    exact trodAll_below Tryd.laidOutK hb _ _ _ _ hread hA
  · rw [hvars, hspec ds hlen]
    rfl
  · rw [hspec ds hlen, hrt, hrs]
    exact trodAll_mk1 (shut_bool Tryd.underlying4 _)
set_option maxRecDepth 100000 in
/-- A law's walk by a contract over its arguments, for what can be read at their types. -/
theorem lawwalk_readsW {X : World → Prop} {f : FuncId} {F : Func} (h : ∀ (W : World) (base : Nat) (args : Array Value), X W → args.size = F.params.size → (∀ (j : Nat) t v, F.params[j]? = some t → args[j]? = some v → Value.okWide Tryd.prog W .any base t v ∧ Reads Tryd.prog W t v.cells.toList ∧ Light Tryd.prog W t v.cells.toList) → ∃ A, Has W A [] ∧ Ct Tryd.prog f args.toList A [] (fun v post => v = .bool true ∧ post = [])) : LawWalkW X f F := by
  intro H enc W base args ds p hX hwt hval hA
  have hlen : ∀ (ts : List TypeId) (vs : List Value) (ds : List (DataW H)) (ps : List MemPlace), DataW.TrodAll enc Tryd.prog W 0 (fun _ => true) true ts vs ds ps → (∀ k ∈ DataW.weightsEach Tryd.prog ts ds, k ≤ reachBytes) → vs.length = ts.length ∧ ∀ (j : Nat) t v, ts[j]? = some t → vs[j]? = some v → Reads Tryd.prog W t v.cells.toList ∧ Light Tryd.prog W t v.cells.toList := by
    intro ts
    induction ts with
    | nil =>
      intro vs ds ps h hw
      cases vs with
      | nil => exact ⟨rfl, fun j t v ht => by simp at ht⟩
      | cons v vs => cases ds <;> exact h.elim
    | cons t ts ih =>
      intro vs ds ps h hw
      cases vs with
      | nil => cases ds <;> exact h.elim
      | cons v vs =>
        cases ds with
        | nil => exact h.elim
        | cons d ds =>
          obtain ⟨p, q, h1, h2, _⟩ := h
          obtain ⟨i1, i2⟩ := ih vs ds q h2 (fun k hk => hw k (by unfold DataW.weightsEach; exact List.mem_append_right _ hk))
          refine ⟨by simp [i1], fun j t' v' ht hv => ?_⟩
          cases j with
          | zero =>
            simp at ht hv
            subst ht hv
            obtain ⟨m, hm⟩ := h1
            exact ⟨⟨H, enc, m, _, by simpa using hm⟩, ⟨H, enc, m, _, by simpa using hm, fun k hk => hw k (by unfold DataW.weightsEach; exact List.mem_append_left _ hk)⟩⟩
          | succ j => exact i2 j t' v' (by simpa using ht) (by simpa using hv)
  have hl := hlen _ _ _ _ hA hwt
  obtain ⟨A, hw, hc⟩ := h W base args hX (by simpa using hl.1) (fun j t v ht hv => ⟨hval j t v ht hv, hl.2 j t v (by simpa using ht) (by simpa using hv)⟩)
  have := below_of_ct hc W hw
  rwa [Array.toArray_toList] at this
end Go.Proofs.YtkekkalgebgokaaDoor
