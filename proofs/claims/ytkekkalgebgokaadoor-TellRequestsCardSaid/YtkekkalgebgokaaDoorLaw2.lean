/- What can be read of arguments: integers, texts, structs of such. -/
import Derived.Test.YtkekkalgebgokaaDoorLaw
import Derived.Test.YtkekkalgebgokaaDoorG7
set_option linter.unusedSimpArgs false
set_option linter.unusedVariables false
namespace Go.Proofs.YtkekkalgebgokaaDoor
open Go.ChangeShapes Go.WideShapes Go.ChangeAt Go.RowKit

section
variable {P : Program} {w : World} {r : Reach} {b : Nat}
theorem okc_int {u : TypeId} {q : IntKind} {v : Value} (h : Cell.okWide P w r b u v) (hu : P.underlying u = some (.int q)) : ∃ n : Int, v = .int q n ∧ q.min ≤ n ∧ n ≤ q.max := by
  unfold Cell.okWide at h
  rw [hu] at h
  have h : Cell.ok P w r b u v := by cases v <;> exact h
  unfold Cell.ok at h
  rw [hu] at h
  cases v <;> first | exact False.elim h | skip
  obtain ⟨rfl, h1, h2⟩ := h
  exact ⟨_, rfl, h1, h2⟩
theorem okc_str {u : TypeId} {v : Value} (h : Cell.okWide P w r b u v) (hu : P.underlying u = some .string) : ∃ l : List UInt8, v = .string (bs l) ∧ l.length ≤ 9223372036854775807 := by
  unfold Cell.okWide at h
  rw [hu] at h
  have h : Cell.ok P w r b u v := by cases v <;> exact h
  unfold Cell.ok at h
  rw [hu] at h
  match v, h with
  | .string s, h =>
    have h : (s.size : Int) ≤ IntKind.i64.max := h
    rw [IntKind.max_i64] at h
    refine ⟨s.data.toList, rfl, ?_⟩
    have : s.data.toList.length = s.size := by simp
    omega
theorem okc_bool {u : TypeId} {v : Value} (h : Cell.okWide P w r b u v) (hu : P.underlying u = some .bool) : ∃ t : Bool, v = .bool t := by
  unfold Cell.okWide at h
  rw [hu] at h
  have h : Cell.ok P w r b u v := by cases v <;> exact h
  unfold Cell.ok at h
  rw [hu] at h
  cases v <;> first | exact False.elim h | skip
  exact ⟨_, rfl⟩
theorem okv_cell {t : TypeId} {d : TypeDesc} {v : Value} (h : Value.okWide P w r b t v) (hu : P.underlying t = some d) (hd : isAggD d = false) : Cell.okWide P w r b t v := by
  unfold Value.okWide at h
  rw [hu] at h
  cases d <;> first | exact h | exact Bool.noConfusion hd
theorem okv_agg {t : TypeId} {d : TypeDesc} {v : Value} {ts : List TypeId} {s : Nat} (h : Value.okWide P w r b t v) (hu : P.underlying t = some d) (hd : isAggD d = true) (hts : P.cellTypes P.depth t = some ts) (hs : P.cellsOf t = s) (hl : ts.length = s) :
    ∃ cs : List Value, v = .agg cs.toArray ∧ cs.length = s ∧ ∀ (i : Nat) (v : Value) (u : TypeId), cs[i]? = some v → ts[i]? = some u → Cell.okWide P w r b u v := by
  unfold Value.okWide at h
  rw [hu] at h
  have h : ∃ cs, v = .agg cs ∧ cs.size = P.cellsOf t ∧ Row.okWide P w r b t cs := by cases d <;> first | exact h | exact Bool.noConfusion hd
  obtain ⟨cs, rfl, hsz, ts', hts', _, hall⟩ := h
  rw [hts] at hts'
  cases hts'
  refine ⟨cs.toList, rfl, by simp; omega, fun i v u hv hu => ?_⟩
  obtain ⟨u', hu', hc⟩ := hall i v (by simpa using hv)
  have hi : i < ts.length := by
    rcases Nat.lt_or_ge i ts.length with h | h
    · exact h
    · rw [List.getElem?_eq_none h] at hu; cases hu
  rw [Nat.mod_eq_of_lt hi, hu] at hu'
  cases hu'
  exact hc
theorem bytes_of : ∀ rest : List Value, (∀ v ∈ rest, ∃ n : Int, v = .int .u8 n ∧ IntKind.u8.min ≤ n ∧ n ≤ IntKind.u8.max) → ∃ d, rest = bcells d
  | [], _ => ⟨[], rfl⟩
  | v :: rest, h => by
    obtain ⟨n, rfl, h1, h2⟩ := h v (by simp)
    obtain ⟨d, rfl⟩ := bytes_of rest (fun v hv => h v (by simp [hv]))
    have h1' : 0 ≤ n := h1
    have h2' : n ≤ 255 := h2
    refine ⟨UInt8.ofNat n.toNat :: d, ?_⟩
    simp only [bcells, List.map_cons]
    congr 2
    simp
    omega
end
set_option maxRecDepth 100000 in
/-- A law's walk by a contract over its arguments, for what can be read at their types. -/
theorem lawwalk_of {f : FuncId} {F : Func} (h : ∀ (W : World) (base : Nat) (args : Array Value), args.size = F.params.size → (∀ (j : Nat) t v, F.params[j]? = some t → args[j]? = some v → Value.okWide Tryd.prog W .any base t v) → ∃ A, Has W A [] ∧ Ct Tryd.prog f args.toList A [] (fun v post => v = .bool true ∧ post = [])) : LawWalk f F := by
  intro H enc W base args ds p hval hA
  have hlen : ∀ (ts : List TypeId) (vs : List Value) (ds : List (DataW H)) (ps : List MemPlace), DataW.TrodAll enc Tryd.prog W 0 (fun _ => true) true ts vs ds ps → vs.length = ts.length := by
    intro ts
    induction ts with
    | nil =>
      intro vs ds ps h
      cases vs with
      | nil => rfl
      | cons v vs => cases ds <;> exact h.elim
    | cons t ts ih =>
      intro vs ds ps h
      cases vs with
      | nil => cases ds <;> exact h.elim
      | cons v vs =>
        cases ds with
        | nil => exact h.elim
        | cons d ds =>
          obtain ⟨p, q, _, h2, _⟩ := h
          simp [ih vs ds q h2]
  have hl := hlen _ _ _ _ hA
  obtain ⟨A, hw, hc⟩ := h W base args hl hval
  have := below_of_ct hc W hw
  rwa [Array.toArray_toList] at this
end Go.Proofs.YtkekkalgebgokaaDoor
