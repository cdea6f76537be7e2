/- A range over a text whose bytes are below 128; a slice's parts; a text out of a slice of one's own. No program in sight. -/
import Derived.Test.YtkekkalgebgokaaDoorG7
import Derived.Laws.RangeString
set_option linter.unusedSimpArgs false
set_option linter.unusedVariables false
namespace Go.Proofs.YtkekkalgebgokaaDoor
open Go Go.RowKit

section
variable {c : Cx} {n : Nat} {env : List (Nat × Value)} {L : List (Option Nat × Obj)} {k : List Item} {o : Oper}
theorem P_next {x : Operand} {b i : Nat} {l : List UInt8} (hop : o.op = .next x true) (hx : fev env x = some (.pointer (some ⟨b, 0, none⟩))) (hm : (some b, Obj.stringIter (bs l) i) ∈ L) (hi : i < l.length) (ha : (l.getD i 0).toNat < 128) :
    PutV c n env L o b (.stringIter (bs l) (i + 1)) (.tuple #[.bool true, .int .i64 (i : Int), .int .i32 ((l.getD i 0).toNat : Int)]) := fun a w hk hmm => by
  have hw := hmm.lies hm
  have hs : i < (bs l).size := by rw [bs_size]; exact hi
  have he : (bs l)[i]'hs = l.getD i 0 := by
    rw [List.getD_eq_getElem?_getD, List.getElem?_eq_getElem hi]
    rfl
  have ha' : ((bs l)[i]'hs).toNat < 128 := by rw [he]; exact ha
  have hlt : b < w.heap.size := by
    rcases Nat.lt_or_ge b w.heap.size with h | h
    · exact h
    · rw [Array.getElem?_eq_none h] at hw; cases hw
  refine ⟨{ w with heap := w.heap.setIfInBounds b (.stringIter (bs l) (i + 1)) }, ?_, rfl, rfl, rfl, by simp, by simp [hlt], fun k hne => by simp [Array.getElem?_setIfInBounds_ne (fun e => hne e.symm)]⟩
  simp only [execOp, hop, hk.eval hx]
  simp only [Instr.next, getObj, setObj, Sem.run_bind, Sem.run, hw, Result.andThen, hs, if_true, decode_ascii (bs l) i hs ha', he]
  rfl
theorem V_nextE {x : Operand} {b i : Nat} {l : List UInt8} (hop : o.op = .next x true) (hx : fev env x = some (.pointer (some ⟨b, 0, none⟩))) (hm : (some b, Obj.stringIter (bs l) i) ∈ L) (hi : l.length ≤ i) : Val c n env L o (.tuple #[.bool false]) := fun a w hk hmm => by
  have hw := hmm.lies hm
  have hs : ¬ i < (bs l).size := by rw [bs_size]; omega
  simp only [execOp, hop, hk.eval hx]
  simp only [Instr.next, getObj, setObj, Sem.run_bind, Sem.run, hw, Result.andThen, hs, if_false]
  rfl

/-- A slice against nil. -/
theorem V_sleqlN {x y : Operand} {t e yt : TypeId} {p : Option Addr} {i j : Nat} (hop : o.op = .binOp .eql t x y yt) (hu : c.P.underlying t = some (.slice e)) (hx : fev env x = some (.slice p i j)) (hy : fev env y = some (.slice none 0 0)) : Val c n env L o (.bool p.isNone) := fun a w hk _ => by
  simp only [execOp, hop, hk.eval hx, hk.eval hy, eqGuard_at_slice, pure_bind]
  rw [Sem.run_bind]
  have : (binOp .eql t (.slice p i j) (.slice none 0 0)).run c.P w = .ok (.bool p.isNone) w := by
    simp only [binOp]
    simp [run_equal_slice_nil w t e p i j hu]
  rw [this]
  rfl
theorem V_slneqN {x y : Operand} {t e yt : TypeId} {p : Option Addr} {i j : Nat} (hop : o.op = .binOp .neq t x y yt) (hu : c.P.underlying t = some (.slice e)) (hx : fev env x = some (.slice p i j)) (hy : fev env y = some (.slice none 0 0)) : Val c n env L o (.bool p.isSome) := fun a w hk _ => by
  simp only [execOp, hop, hk.eval hx, hk.eval hy, eqGuard_at_slice, pure_bind]
  rw [Sem.run_bind]
  have : (binOp .neq t (.slice p i j) (.slice none 0 0)).run c.P w = .ok (.bool p.isSome) w := by
    simp only [binOp]
    cases p <;> simp [run_equal_slice_nil w t e _ i j hu]
  rw [this]
  rfl

/-- A part of a slice. -/
theorem V_sliceLH {x xl xh : Operand} {t e : TypeId} {ti : TypeInfo} {s b off len cap lo hi : Nat} {q q' : IntKind} {zl zh : Int} (hop : o.op = .slice t x (some xl) (some xh) none) (hu : c.P.underlying t = some (.slice e)) (hs : c.P.info? e = some ti) (hsz : ti.size = s) (hx : fev env x = some (.slice (some ⟨b, off, none⟩) len cap))
    (hl : fev env xl = some (.int q zl)) (hh : fev env xh = some (.int q' zh)) (el : zl = (lo : Int)) (eh : zh = (hi : Int)) (h1 : lo ≤ hi) (h2 : hi ≤ cap) : Val c n env L o (.slice (some ⟨b, if cap = lo then off else off + lo * s, none⟩) (hi - lo) (cap - lo)) := fun a w hk _ => by
  subst el eh hsz
  have e1 : (0 : Int) ≤ (hi : Int) ∧ (hi : Int) ≤ (cap : Int) := by omega
  have e2 : (0 : Int) ≤ (lo : Int) ∧ (lo : Int) ≤ (hi : Int) := by omega
  simp only [execOp, hop, hk.eval hx, hk.eval hl, hk.eval hh, Option.map_some, Option.map_none, Instr.sliceAt, Instr.slice, run_underlying hu, Instr.sliceBounds, Instr.sliceBound, asIntOf, Sem.run_bind, Sem.run_pure, Result.andThen_ok, if_pos e1, if_pos e2, sizeOf, typeInfo, run_program, hs, Int.toNat_natCast, Option.isSome_none, Bool.false_eq_true, if_false, if_true]
  by_cases h : cap = lo
  · simp [h]
  · simp [h, Addr.add_lit]
theorem V_sliceH {x xh : Operand} {t e : TypeId} {ti : TypeInfo} {len cap hi : Nat} {p : Option Addr} {q' : IntKind} {zh : Int} (hop : o.op = .slice t x none (some xh) none) (hu : c.P.underlying t = some (.slice e)) (hs : c.P.info? e = some ti) (hx : fev env x = some (.slice p len cap))
    (hh : fev env xh = some (.int q' zh)) (eh : zh = (hi : Int)) (h2 : hi ≤ cap) : Val c n env L o (.slice p hi cap) := fun a w hk _ => by
  subst eh
  have e1 : (0 : Int) ≤ (hi : Int) ∧ (hi : Int) ≤ (cap : Int) := by omega
  simp only [execOp, hop, hk.eval hx, hk.eval hh, Option.map_some, Option.map_none, Instr.sliceAt, Instr.slice, run_underlying hu, Instr.sliceBounds, Instr.sliceBound, asIntOf, Sem.run_bind, Sem.run_pure, Result.andThen_ok, if_pos e1, sizeOf, typeInfo, run_program, hs, Int.toNat_natCast, Option.isSome_none, Bool.false_eq_true, if_false, if_true]
  cases p with
  | none => by_cases h : cap = 0 <;> simp [h]
  | some ad => by_cases h : cap = 0 <;> simp [h, Addr.add_zero']
end
end Go.Proofs.YtkekkalgebgokaaDoor
