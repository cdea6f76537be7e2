/- Requests (layer 19), as plain functions: the clean one field by field, which may be; a request's literals. No program in sight. -/
import Derived.Test.YtkekkalgebgokaaDoorMsgClean
import Derived.Test.YtkekkalgebgokaaDoorG8
import Derived.Test.YtkekkalgebgokaaDoorG11
set_option linter.unusedSimpArgs false
set_option linter.unusedVariables false
namespace Go.Proofs.YtkekkalgebgokaaDoor
open Go Go.RowKit

def hasI (k : Int) (c : Int) : Bool := (fieldsK k).any fun x => decide ((x.toNat : Int) = c)
def letT (i : Nat) : Int := if i = 1 then 116 else if i = 2 then 105 else if i = 3 then 110 else if i = 4 then 107 else if i = 5 then 99 else 112
def letN (i : Nat) : Int := if i = 7 then 111 else if i = 8 then 101 else if i = 9 then 119 else if i = 10 then 120 else if i = 11 then 108 else if i = 12 then 114 else if i = 13 then 100 else if i = 14 then 102 else 109
def selT (b : Bool) (s : List UInt8) : List UInt8 := if b then s else []
def selN (b : Bool) (n : Int) : Int := if b then n else 0
def selB (a b : Bool) : Bool := if a then b else false
def refRq (q : Rq) : Rq := ⟨q.kind, fun i => selT (hasI q.kind (letT i)) (q.tx i), fun i => selN (hasI q.kind (letN i)) (q.nx i), selB q.flag (hasI q.kind 98)⟩

theorem kinds17 (k : Int) (h : 1 ≤ k ∧ k ≤ 17) : k = 1 ∨ k = 2 ∨ k = 3 ∨ k = 4 ∨ k = 5 ∨ k = 6 ∨ k = 7 ∨ k = 8 ∨ k = 9 ∨ k = 10 ∨ k = 11 ∨ k = 12 ∨ k = 13 ∨ k = 14 ∨ k = 15 ∨ k = 16 ∨ k = 17 := by omega
theorem refRq_cells (q : Rq) : rqCells (rqClean q) = rqCells (refRq q) := by
  obtain ⟨k, tx, nx, fl⟩ := q
  by_cases h : 1 ≤ k ∧ k ≤ 17
  · rcases fl <;> rcases kinds17 k h with rfl | rfl | rfl | rfl | rfl | rfl | rfl | rfl | rfl | rfl | rfl | rfl | rfl | rfl | rfl | rfl | rfl <;> rfl
  · have h0 := fieldsK_no k h
    have h1 : rqClean ⟨k, tx, nx, fl⟩ = rqBare k := by rw [rqClean, h0]; rfl
    rw [h1]
    cases fl <;> simp [rqCells, rqBare, refRq, hasI, h0, selT, selN, selB]
/-- Cleaned twice is cleaned once. -/
theorem refRq_twice (q : Rq) : refRq (refRq q) = refRq q := by
  unfold refRq
  simp only [Rq.mk.injEq, true_and]
  refine ⟨?_, ?_, ?_⟩
  · funext i; cases hasI q.kind (letT i) <;> rfl
  · funext i; cases hasI q.kind (letN i) <;> rfl
  · cases q.flag <;> cases hasI q.kind 98 <;> rfl
theorem rqClean_kind (q : Rq) : (rqClean q).kind = q.kind := by
  have := congrArg (fun l => l.head?) (refRq_cells q)
  simp [rqCells, refRq] at this
  exact this

/-- May a letter's field be? -/
def okL (q : Rq) (c : UInt8) : Bool := match textIdx (c.toNat : Int) with
  | some i => decide ((q.tx i).length ≤ 100)
  | none => match numIdx (c.toNat : Int) with
    | some i => decide (0 ≤ q.nx i ∧ q.nx i ≤ 1099511627776)
    | none => true
def mayQ (q : Rq) : Bool := if isKind q.kind = true ∧ (fieldsK q.kind).all (okL q) = true then true else false
def texts6 (q : Rq) : List (List UInt8) := [q.tx 1, q.tx 2, q.tx 3, q.tx 4, q.tx 5, q.tx 6]
def nums9 (q : Rq) : List Int := [q.nx 7, q.nx 8, q.nx 9, q.nx 10, q.nx 11, q.nx 12, q.nx 13, q.nx 14, q.nx 15]
def rmayQ (q : Rq) : Bool := if (texts6 (refRq q)).all (fun s => decide (s.length ≤ 100)) = true ∧ (nums9 (refRq q)).all (fun n => decide (0 ≤ n ∧ n ≤ 1099511627776)) = true ∧ isKind q.kind = true then true else false
theorem mayQ_r (q : Rq) : mayQ q = rmayQ q := by
  obtain ⟨k, tx, nx, fl⟩ := q
  unfold mayQ rmayQ
  by_cases h : 1 ≤ k ∧ k ≤ 17
  · have hk : isKind k = true := by unfold isKind; simp [h]
    have iff : ∀ {p r : Prop} [Decidable p] [Decidable r], (p ↔ r) → (if p then true else false) = (if r then true else false) := fun hpr => by simp [hpr]
    apply iff
    simp only [hk, true_and, and_true]
    rcases kinds17 k h with rfl | rfl | rfl | rfl | rfl | rfl | rfl | rfl | rfl | rfl | rfl | rfl | rfl | rfl | rfl | rfl | rfl <;>
      simp [fieldsK, fieldsOf, formTab, texts6, nums9, refRq, okL, textIdx, numIdx, hasI, letT, letN, selT, selN] <;> grind
  · have hk : isKind k = false := by unfold isKind; simp; omega
    simp [hk]
/-- What a clean request may be, the request may. -/
theorem rmayQ_ref (q : Rq) : rmayQ (refRq q) = rmayQ q := by
  unfold rmayQ
  rw [refRq_twice]
  rfl

-- literals
def rqLits (q : Rq) : List Lit :=
  [.int .i64 q.kind, .string (q.tx 1), .string (q.tx 2), .string (q.tx 3), .string (q.tx 4), .string (q.tx 5), .string (q.tx 6),
   .int .i64 (q.nx 7), .int .i64 (q.nx 8), .int .i64 (q.nx 9), .int .i64 (q.nx 10), .int .i64 (q.nx 11), .int .i64 (q.nx 12), .int .i64 (q.nx 13), .int .i64 (q.nx 14), .int .i64 (q.nx 15), .bool q.flag]
theorem rqLits_cells {q p : Rq} (h : rqCells q = rqCells p) : rqLits q = rqLits p := by
  simp only [rqCells, List.cons.injEq, Value.int.injEq, Value.string.injEq, Value.bool.injEq, true_and, and_true] at h
  have hb : ∀ {a b : List UInt8}, bs a = bs b → a = b := fun h => by
    have := congrArg (fun s => s.data.toList) h
    simpa [bs] using this
  obtain ⟨h0, h1, h2, h3, h4, h5, h6, h7⟩ := h
  simp only [rqLits, List.cons.injEq, Lit.int.injEq, Lit.string.injEq, Lit.bool.injEq, true_and, and_true]
  exact ⟨h0, hb h1, hb h2, hb h3, hb h4, hb h5, hb h6, h7⟩
/-- A request as it can be read. -/
def RqOk (q : Rq) : Prop := (-9223372036854775808 ≤ q.kind ∧ q.kind ≤ 9223372036854775807) ∧ (∀ i, (q.tx i).length ≤ 9223372036854775807) ∧ ∀ i, -9223372036854775808 ≤ q.nx i ∧ q.nx i ≤ 9223372036854775807
theorem refRq_ok {q : Rq} (h : RqOk q) : RqOk (refRq q) := by
  obtain ⟨h1, h2, h3⟩ := h
  refine ⟨h1, fun i => ?_, fun i => ?_⟩
  · show (selT _ _).length ≤ _
    unfold selT
    split
    · exact h2 i
    · simp
  · show _ ≤ selN _ _ ∧ selN _ _ ≤ _
    unfold selN
    split
    · exact h3 i
    · omega
theorem fieldsK_ascii (k : Int) (j : Nat) (h : j < (fieldsK k).length) : ((fieldsK k).getD j 0).toNat < 128 := by
  have := fieldsK_small k j h
  rw [List.getD_eq_getElem?_getD, List.getElem?_eq_getElem h]
  simpa using this
end Go.Proofs.YtkekkalgebgokaaDoor
