/- The walks of Number, the program's and the reference's. -/
import Derived.Test.YtkekkalgebgokaaRows
import Derived.Test.YtkekkalgebgokaaOctetFixedPlain
import Derived.WalkKit
import Derived.WalkSpells
import Derived.WalkLawsBesides
import Derived.Lib.Hide
import Derived.Test.YtkekkalgebgokaaKit2
namespace Go.Proofs.Ytkekkalgebgokaa
open Go.RowKit
theorem Try.infoByte : (Try.prog.info? 5).map (fun i => (i.zero, i.size, i.bytes)) = some (some (.int .u8 0), 1, 1) := by kernel_rfl
theorem data_length (s : ByteArray) : s.data.toList.length = s.size := by simp
theorem data_append (a b : ByteArray) : (a ++ b).data.toList = a.data.toList ++ b.data.toList := by simp

theorem take_bytes (s : ByteArray) (k : Nat) (h : k < s.size) : s.data.toList.take (k + 1) = s.data.toList.take k ++ [s[k]] := by
  rw [List.take_succ_eq_append_getElem (by simpa using h)]; rfl

theorem or_byte (A : Nat) (c : UInt8) (h : A < 72057594037927936) : bits BinOp.or IntKind.u64 (IntKind.u64.wrap ((A : Int) * 256)) (c.toNat : Int) = ((A * 256 + c.toNat : Nat) : Int) := by
  have hc := c.toNat_lt
  have e : IntKind.u64.wrap ((A : Int) * 256) = ((A * 256 : Nat) : Int) := by
    have := U64.wrap (n := A * 256) (by unfold U64; omega)
    simpa using this
  rw [e, u64_or_nat _ _ (by omega) (by omega)]
  have h2 : A * 256 ||| c.toNat = A * 256 + c.toNat := by
    have := Nat.two_pow_add_eq_or_of_lt (i := 8) (b := c.toNat) (by omega) A
    rw [show A * 256 = 2 ^ 8 * A by omega, ← this]
  rw [h2]

end Go.Proofs.Ytkekkalgebgokaa
