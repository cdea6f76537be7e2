/- Parts of slices: from a place on; with a third index. -/
import Derived.Test.YtkekkalgebgokaaDoorG12
set_option linter.unusedSimpArgs false
set_option linter.unusedVariables false
namespace Go.Proofs.YtkekkalgebgokaaDoor
open Go Go.RowKit

section
variable {c : Cx} {n : Nat} {env : List (Nat × Value)} {L : List (Option Nat × Obj)} {o : Oper}
theorem V_sliceLHM {x xl xh xm : Operand} {t e : TypeId} {ti : TypeInfo} {s b off len cap lo hi mx : Nat} {q q' q'' : IntKind} {zl zh zm : Int} (hop : o.op = .slice t x (some xl) (some xh) (some xm)) (hu : c.P.underlying t = some (.slice e)) (hs : c.P.info? e = some ti) (hsz : ti.size = s) (hx : fev env x = some (.slice (some ⟨b, off, none⟩) len cap))
    (hl : fev env xl = some (.int q zl)) (hh : fev env xh = some (.int q' zh)) (hm : fev env xm = some (.int q'' zm)) (el : zl = (lo : Int)) (eh : zh = (hi : Int)) (em : zm = (mx : Int)) (h1 : lo ≤ hi) (h2 : hi ≤ mx) (h3 : mx ≤ cap) : Val c n env L o (.slice (some ⟨b, if mx = lo then off else off + lo * s, none⟩) (hi - lo) (mx - lo)) := fun a w hk _ => by
  subst el eh em hsz
  have e0 : (0 : Int) ≤ (mx : Int) ∧ (mx : Int) ≤ (cap : Int) := by omega
  have e1 : (0 : Int) ≤ (hi : Int) ∧ (hi : Int) ≤ (mx : Int) := by omega
  have e2 : (0 : Int) ≤ (lo : Int) ∧ (lo : Int) ≤ (hi : Int) := by omega
  simp only [execOp, hop, hk.eval hx, hk.eval hl, hk.eval hh, hk.eval hm, Option.map_some, Option.map_none, Instr.sliceAt, Instr.slice, run_underlying hu, Instr.sliceBounds, Instr.sliceBound, asIntOf, Sem.run_bind, Sem.run_pure, Result.andThen_ok, if_pos e0, if_pos e1, if_pos e2, sizeOf, typeInfo, run_program, hs, Int.toNat_natCast, Option.isSome_none, Option.isSome_some, Bool.false_eq_true, if_false, if_true]
  by_cases h : mx = lo
  · simp [h]
  · simp [h, Addr.add_lit]
theorem V_sliceLo {x xl : Operand} {t e : TypeId} {ti : TypeInfo} {s b off len cap lo : Nat} {q : IntKind} {zl : Int} (hop : o.op = .slice t x (some xl) none none) (hu : c.P.underlying t = some (.slice e)) (hs : c.P.info? e = some ti) (hsz : ti.size = s) (hx : fev env x = some (.slice (some ⟨b, off, none⟩) len cap))
    (hl : fev env xl = some (.int q zl)) (el : zl = (lo : Int)) (h1 : lo ≤ len) (h2 : len ≤ cap) : Val c n env L o (.slice (some ⟨b, if cap = lo then off else off + lo * s, none⟩) (len - lo) (cap - lo)) := fun a w hk _ => by
  subst el hsz
  have e1 : (0 : Int) ≤ (len : Int) ∧ (len : Int) ≤ (cap : Int) := by omega
  have e2 : (0 : Int) ≤ (lo : Int) ∧ (lo : Int) ≤ (len : Int) := by omega
  simp only [execOp, hop, hk.eval hx, hk.eval hl, Option.map_some, Option.map_none, Instr.sliceAt, Instr.slice, run_underlying hu, Instr.sliceBounds, Instr.sliceBound, asIntOf, Sem.run_bind, Sem.run_pure, Result.andThen_ok, if_pos e1, if_pos e2, sizeOf, typeInfo, run_program, hs, Int.toNat_natCast, Option.isSome_none, Bool.false_eq_true, if_false, if_true]
  by_cases h : cap = lo
  · simp [h]
  · simp [h, Addr.add_lit]
end
end Go.Proofs.YtkekkalgebgokaaDoor
