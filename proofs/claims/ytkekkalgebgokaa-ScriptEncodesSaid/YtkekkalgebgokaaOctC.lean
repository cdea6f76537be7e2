/- Contracts of the package octet and of its reference, in the form of the lists. -/
import Derived.Test.YtkekkalgebgokaaG10
import Derived.Test.YtkekkalgebgokaaOctetText
import Derived.Test.YtkekkalgebgokaaOctetFixed2
import Derived.Test.YtkekkalgebgokaaOctetRUnchain
set_option linter.unusedSimpArgs false
set_option linter.unusedVariables false
namespace Go.Proofs.Ytkekkalgebgokaa
open Go Go.RowKit

section



def chainI (x : Int) : List UInt8 := chain x.toNat
theorem chainI_len (x : Int) (h0 : 0 ≤ x) (h1 : x < 18446744073709551616) : (chainI x).length ≤ 10 ∧ 1 ≤ (chainI x).length := ⟨chain_len64 _ (by unfold U64; omega), chain_pos _⟩
theorem ct_chain (x : Int) (h0 : 0 ≤ x) (h1 : x < 18446744073709551616) : Ct Try.prog 80 [.int .u64 x] [] [] (fun v post => v = .string (bs (chainI x)) ∧ post = []) :=
  ct_below (fun w => by
    have := chain_any x.toNat w (by unfold U64; omega)
    rw [Int.toNat_of_nonneg h0] at this
    exact this)
theorem ct_rchain (x : Int) (h0 : 0 ≤ x) (h1 : x < 18446744073709551616) : Ct Try.prog 118 [.int .u64 x] [] [] (fun v post => v = .string (bs (chainI x)) ∧ post = []) :=
  ct_below (fun w => by
    have := rchain_any x.toNat w (by unfold U64; omega)
    rw [Int.toNat_of_nonneg h0] at this
    exact this)
theorem ct_text (l : List UInt8) (h : l.length ≤ 140737488351232) : Ct Try.prog 81 [.string (bs l)] [] [] (fun v post => v = .string (bs (text l)) ∧ post = []) :=
  ct_below (fun w => text_any (bs l) w (by rw [bs_size]; omega))
theorem ct_rtext (l : List UInt8) (h : l.length ≤ 140737488351232) : Ct Try.prog 119 [.string (bs l)] [] [] (fun v post => v = .string (bs (text l)) ∧ post = []) :=
  ct_below (fun w => rtext_any (bs l) w (by rw [bs_size]; omega))
theorem text_len (l : List UInt8) (h : l.length ≤ 140737488351232) : (text l).length ≤ l.length + 10 := by
  have := chain_len64 l.length (by unfold U64; omega)
  unfold text
  rw [List.length_append]
  omega

end
end Go.Proofs.Ytkekkalgebgokaa
