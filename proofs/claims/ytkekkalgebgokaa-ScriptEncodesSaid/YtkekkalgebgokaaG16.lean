/- The address of an array's element. No program in sight. -/
import Derived.Test.YtkekkalgebgokaaG12
set_option linter.unusedSimpArgs false
set_option linter.unusedVariables false
namespace Go.Proofs.Ytkekkalgebgokaa
open Go Go.RowKit

section
variable {c : Cx} {n : Nat} {env : List (Nat × Value)} {L : List (Option Nat × Obj)} {o : Oper}
theorem V_aindexAddr {x y : Operand} {t e : TypeId} {m : Nat} {ti : TypeInfo} {q : IntKind} {b off s : Nat} {z : Int} (hop : o.op = .indexAddr t x y) (hu : c.P.underlying t = some (.array m e)) (hs : c.P.info? e = some ti) (hz : ti.size = s) (hx : fev env x = some (.pointer (some ⟨b, off, none⟩))) (hy : fev env y = some (.int q z)) (h0 : 0 ≤ z) (h1 : z < (m : Int)) :
    Val c n env L o (.pointer (some ⟨b, off + z.toNat * s, none⟩)) := fun a w hk _ => by
  subst hz
  simp [execOp, hop, hk.eval hx, hk.eval hy, Instr.indexAt, run_underlying hu, asIntOf, h0, h1, sizeOf, typeInfo, hs, Addr.add_lit, Instr.sureAddr]
end
end Go.Proofs.Ytkekkalgebgokaa
