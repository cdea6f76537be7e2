/- The walks of Fixed, the program's and the reference's. -/
import Derived.Test.YtkekkalgebgokaaOctetNumber2
namespace Go.Proofs.Ytkekkalgebgokaa
open Go.RowKit
theorem bytes_one (w : World) (x : Int) (c : UInt8) (h : Value.int .u8 x = byteV c) :
    (convert 73 9 (.slice (some ⟨w.heap.size, 0, none⟩) 1 1)).run Try.prog (w.alloc (.cells #[.int .u8 x] 5)) = .ok (.string ⟨#[c]⟩) (w.alloc (.cells #[.int .u8 x] 5)) := by
  have := run_convert_bytes_back (P := Try.prog) (w.alloc (.cells #[.int .u8 x] 5)) 73 9 5 ⟨w.heap.size, 0, none⟩ 1 [c] Try.underlying73 Try.underlying5 Try.underlying9 (fun j hj => by
    obtain rfl : j = 0 := by simpa using hj
    rw [addr_add0, cell_alloc_new]
    rw [h]
    rfl)
  exact this

/-- What lies in the row of Fixed behind k rounds. -/
def FixAt (arr : Array Value) (V n k : Nat) : Prop := arr.size = n ∧ ∀ j, j < k → arr[n - 1 - j]? = some (byteV (UInt8.ofNat (V / 256 ^ j % 256)))

theorem FixAt.set {arr : Array Value} {V n k : Nat} (h : FixAt arr V n k) (hk : k < n) : FixAt (arr.setIfInBounds (n - 1 - k) (byteV (UInt8.ofNat (V / 256 ^ k % 256)))) V n (k + 1) := by
  obtain ⟨h1, h2⟩ := h
  refine ⟨by simp [h1], fun j hj => ?_⟩
  rw [Array.getElem?_setIfInBounds]
  by_cases e : j = k
  · subst e
    simp [h1, show n - 1 - j < n by omega]
  · rw [if_neg (by omega)]
    exact h2 j (by omega)
theorem FixAt.done {arr : Array Value} {V n : Nat} (h : FixAt arr V n n) (j : Nat) (hj : j < (be n V).length) : arr[j]? = some (.int .u8 (((be n V)[j]).toNat : Int)) := by
  rw [be_length] at hj
  have h1 := h.2 (n - 1 - j) (by omega)
  have h2 := be_get n V (n - 1 - j) (by omega)
  rw [show n - 1 - (n - 1 - j) = j by omega] at h1 h2
  rw [List.getElem?_eq_getElem (by rw [be_length]; omega)] at h2
  rw [h1, Option.some.inj h2]
  rfl

theorem ret_strE {s : ByteArray} {l : List UInt8} {x y : Int} (h : s.data.toList = l) (hy : x = y) : Ending.returned (.tuple #[.string s, .int .i64 x]) = .returned (.tuple #[str l, .int .i64 y]) := by
  subst h; rw [hy]; rfl
theorem shr_byte (V k : Nat) : IntKind.u8.wrap ((V : Int) / (2 : Int) ^ (8 * k)) = ((UInt8.ofNat (V / 256 ^ k % 256)).toNat : Int) := by
  rw [byte_mod _ (Nat.mod_lt _ (by omega)), IntKind.wrap_u8', show (256 : Nat) ^ k = 2 ^ (8 * k) by rw [Nat.pow_mul]]
  simp

end Go.Proofs.Ytkekkalgebgokaa
