/- What is left of a request (layer 19): the cells of a request, and of the clean one. No program in sight. -/
import Derived.Test.YtkekkalgebgokaaDoorMsgPlain
namespace Go.Proofs.YtkekkalgebgokaaDoor
open Go Go.RowKit

/-- A request. -/
structure Rq where
  kind : Int
  tx : Nat → List UInt8
  nx : Nat → Int
  flag : Bool
/-- Its cells: the texts lie at 1 to 6, the numbers at 7 to 15. -/
def rqCells (q : Rq) : List Value :=
  [.int .i64 q.kind, .string (bs (q.tx 1)), .string (bs (q.tx 2)), .string (bs (q.tx 3)), .string (bs (q.tx 4)), .string (bs (q.tx 5)), .string (bs (q.tx 6)),
   .int .i64 (q.nx 7), .int .i64 (q.nx 8), .int .i64 (q.nx 9), .int .i64 (q.nx 10), .int .i64 (q.nx 11), .int .i64 (q.nx 12), .int .i64 (q.nx 13), .int .i64 (q.nx 14), .int .i64 (q.nx 15), .bool q.flag]
/-- The request of a kind, with nothing in it. -/
def rqBare (k : Int) : Rq := ⟨k, fun _ => [], fun _ => 0, false⟩
/-- A letter's field is taken over. -/
def rqTake (q out : Rq) (c : UInt8) : Rq :=
  match textIdx (c.toNat : Int) with
  | some i => { out with tx := fun j => if j = i then q.tx i else out.tx j }
  | none => match numIdx (c.toNat : Int) with
    | some i => { out with nx := fun j => if j = i then q.nx i else out.nx j }
    | none => { out with flag := q.flag }
def rqClean (q : Rq) : Rq := (fieldsK q.kind).foldl (rqTake q) (rqBare q.kind)

theorem textIdx_bd (c : Int) (i : Nat) (h : textIdx c = some i) : 1 ≤ i ∧ i ≤ 6 := by
  unfold textIdx at h
  repeat' split at h
  all_goals simp at h
  all_goals omega
theorem numIdx_bd (c : Int) (i : Nat) (h : numIdx c = some i) : 7 ≤ i ∧ i ≤ 15 := by
  unfold numIdx at h
  repeat' split at h
  all_goals simp at h
  all_goals omega
theorem textIdx_num (c : Int) (i : Nat) (h : textIdx c = some i) : numIdx c = none := by
  unfold textIdx at h
  repeat' split at h
  all_goals first | (simp at h; done) | (subst_vars; rfl)
theorem rqTake_text (q o : Rq) (c : UInt8) (i : Nat) (h : textIdx (c.toNat : Int) = some i) : rqTake q o c = { o with tx := fun j => if j = i then q.tx i else o.tx j } := by
  unfold rqTake; rw [h]
theorem rqTake_num (q o : Rq) (c : UInt8) (i : Nat) (h0 : textIdx (c.toNat : Int) = none) (h : numIdx (c.toNat : Int) = some i) : rqTake q o c = { o with nx := fun j => if j = i then q.nx i else o.nx j } := by
  unfold rqTake; rw [h0, h]
theorem rqTake_flag (q o : Rq) (c : UInt8) (h0 : textIdx (c.toNat : Int) = none) (h : numIdx (c.toNat : Int) = none) : rqTake q o c = { o with flag := q.flag } := by
  unfold rqTake; rw [h0, h]
theorem rqCells_text (q : Rq) (i : Nat) (h1 : 1 ≤ i) (h2 : i ≤ 6) : (rqCells q).toArray[i]? = some (.string (bs (q.tx i))) := by
  match i, h1, h2 with
  | 1, _, _ => rfl
  | 2, _, _ => rfl
  | 3, _, _ => rfl
  | 4, _, _ => rfl
  | 5, _, _ => rfl
  | 6, _, _ => rfl
theorem rqCells_num (q : Rq) (i : Nat) (h1 : 7 ≤ i) (h2 : i ≤ 15) : (rqCells q).toArray[i]? = some (.int .i64 (q.nx i)) := by
  match i, h1, h2 with
  | 7, _, _ => rfl
  | 8, _, _ => rfl
  | 9, _, _ => rfl
  | 10, _, _ => rfl
  | 11, _, _ => rfl
  | 12, _, _ => rfl
  | 13, _, _ => rfl
  | 14, _, _ => rfl
  | 15, _, _ => rfl
theorem rqCells_flag (q : Rq) : (rqCells q).toArray[16]? = some (.bool q.flag) := rfl
theorem rqCells_setText (q : Rq) (i : Nat) (h1 : 1 ≤ i) (h2 : i ≤ 6) (l : List UInt8) : (rqCells q).toArray.setIfInBounds i (.string (bs l)) = (rqCells { q with tx := fun j => if j = i then l else q.tx j }).toArray := by
  match i, h1, h2 with
  | 1, _, _ => rfl
  | 2, _, _ => rfl
  | 3, _, _ => rfl
  | 4, _, _ => rfl
  | 5, _, _ => rfl
  | 6, _, _ => rfl
theorem rqCells_setNum (q : Rq) (i : Nat) (h1 : 7 ≤ i) (h2 : i ≤ 15) (n : Int) : (rqCells q).toArray.setIfInBounds i (.int .i64 n) = (rqCells { q with nx := fun j => if j = i then n else q.nx j }).toArray := by
  match i, h1, h2 with
  | 7, _, _ => rfl
  | 8, _, _ => rfl
  | 9, _, _ => rfl
  | 10, _, _ => rfl
  | 11, _, _ => rfl
  | 12, _, _ => rfl
  | 13, _, _ => rfl
  | 14, _, _ => rfl
  | 15, _, _ => rfl
theorem rqCells_setFlag (q : Rq) (b : Bool) : (rqCells q).toArray.setIfInBounds 16 (.bool b) = (rqCells { q with flag := b }).toArray := rfl
/-- The letters are below 128. -/
theorem fieldsOf_small : ∀ k, k < 18 → ∀ j, j < (fieldsOf k).length → ((fieldsOf k).getD j 0).toNat < 128 := by decide
theorem fieldsK_small (k : Int) (j : Nat) (h : j < (fieldsK k).length) : ((fieldsK k)[j]).toNat < 128 := by
  by_cases hk : 1 ≤ k ∧ k ≤ 17
  · obtain ⟨n, rfl⟩ := Int.eq_ofNat_of_zero_le (show 0 ≤ k by omega)
    have e := fieldsK_yes n (by omega) (by omega)
    have := fieldsOf_small n (by omega) j (by rw [← e]; exact h)
    simp only [e]
    rw [List.getD_eq_getElem?_getD, List.getElem?_eq_getElem (by rw [← e]; exact h)] at this
    simpa using this
  · simp [fieldsK_no k hk] at h
theorem fieldsK_len (k : Int) : (fieldsK k).length ≤ 7 := by
  by_cases hk : 1 ≤ k ∧ k ≤ 17
  · obtain ⟨n, rfl⟩ := Int.eq_ofNat_of_zero_le (show 0 ≤ k by omega)
    rw [fieldsK_yes n (by omega) (by omega)]
    have : ∀ k, k < 18 → (fieldsOf k).length ≤ 7 := by decide
    exact this n (by omega)
  · rw [fieldsK_no k hk]; simp

end Go.Proofs.YtkekkalgebgokaaDoor
