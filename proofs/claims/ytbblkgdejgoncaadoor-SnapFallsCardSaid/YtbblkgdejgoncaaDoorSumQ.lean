/- Sums of texts and numbers of bytes, in plain lists. -/
import Derived.Test.YtbblkgdejgoncaaDoorSumPlain
import Derived.Test.YtbblkgdejgoncaaDoorOctetFixedPlain
import Derived.Test.YtbblkgdejgoncaaDoorG12
set_option linter.unusedSimpArgs false
set_option linter.unusedVariables false
namespace Go.Proofs.YtbblkgdejgoncaaDoor
open Go Go.RowKit

section



def crcN (l : List UInt8) : Nat := (sumCrc 4294967295#32 l).toNat
theorem crcN_lt (l : List UInt8) : crcN l < 4294967296 := (sumCrc _ l).isLt
def crcW (ls : List (List UInt8)) : BitVec 32 := ls.foldl sumCrc 4294967295#32
theorem crcW_next {ls : List (List UInt8)} {i : Nat} {s : List UInt8} (h : ls[i]? = some s) : crcW (ls.take (i + 1)) = sumCrc (crcW (ls.take i)) s := by
  rw [take_succ_of h]; unfold crcW; rw [List.foldl_append]; rfl
theorem crcW_two (a b : List UInt8) : (crcW [a, b]).toNat = crcN (a ++ b) := by
  unfold crcW crcN; rw [sumCrc_append]; rfl
theorem crcW_one (a : List UInt8) : (crcW [a]).toNat = crcN a := rfl

end
end Go.Proofs.YtbblkgdejgoncaaDoor
