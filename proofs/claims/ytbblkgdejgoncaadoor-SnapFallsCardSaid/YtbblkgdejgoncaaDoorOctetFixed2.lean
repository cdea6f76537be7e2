/- The walks of Fixed, the program's and the reference's. -/
import Derived.Test.YtbblkgdejgoncaaDoorOctetNumber2
namespace Go.Proofs.YtbblkgdejgoncaaDoor
open Go.RowKit
theorem bytes_one (w : World) (x : Int) (c : UInt8) (h : Value.int .u8 x = byteV c) :
    (convert 27 9 (.slice (some ⟨w.heap.size, 0, none⟩) 1 1)).run Tryd.prog (w.alloc (.cells #[.int .u8 x] 5)) = .ok (.string ⟨#[c]⟩) (w.alloc (.cells #[.int .u8 x] 5)) := by
  have := run_convert_bytes_back (P := Tryd.prog) (w.alloc (.cells #[.int .u8 x] 5)) 27 9 5 ⟨w.heap.size, 0, none⟩ 1 [c] Tryd.underlying27 Tryd.underlying5 Tryd.underlying9 (fun j hj => by
    obtain rfl : j = 0 := by simpa using hj
    rw [addr_add0, cell_alloc_new]
    rw [h]
    rfl)
  exact this

/-- What lies in the row of Fixed behind k rounds. -/
def FixAt (arr : Array Value) (V n k : Nat) : Prop := arr.size = n ∧ ∀ j, j < k → arr[n - 1 - j]? = some (byteV (UInt8.ofNat (V / 256 ^ j % 256)))

theorem FixAt.set {arr : Array Value} {V n k : Nat} (h : FixAt arr V n k) (hk : k < n) : FixAt (arr.setIfInBounds (n - 1 - k) (byteV (UInt8.ofNat (V / 256 ^ k % 256)))) V n (k + 1) := by
  obtain ⟨h1, h2⟩ := h
  refine ⟨by simp [h1], fun j hj => ?_⟩
  rw [Array.getElem?_setIfInBounds]
  by_cases e : j = k
  · subst e
    simp [h1, show n - 1 - j < n by omega]
  · rw [if_neg (by omega)]
    exact h2 j (by omega)
theorem FixAt.done {arr : Array Value} {V n : Nat} (h : FixAt arr V n n) (j : Nat) (hj : j < (be n V).length) : arr[j]? = some (.int .u8 (((be n V)[j]).toNat : Int)) := by
  rw [be_length] at hj
  have h1 := h.2 (n - 1 - j) (by omega)
  have h2 := be_get n V (n - 1 - j) (by omega)
  rw [show n - 1 - (n - 1 - j) = j by omega] at h1 h2
  rw [List.getElem?_eq_getElem (by rw [be_length]; omega)] at h2
  rw [h1, Option.some.inj h2]
  rfl

theorem ret_strE {s : ByteArray} {l : List UInt8} {x y : Int} (h : s.data.toList = l) (hy : x = y) : Ending.returned (.tuple #[.string s, .int .i64 x]) = .returned (.tuple #[str l, .int .i64 y]) := by
  subst h; rw [hy]; rfl
theorem shr_byte (V k : Nat) : IntKind.u8.wrap ((V : Int) / (2 : Int) ^ (8 * k)) = ((UInt8.ofNat (V / 256 ^ k % 256)).toNat : Int) := by
  rw [byte_mod _ (Nat.mod_lt _ (by omega)), IntKind.wrap_u8', show (256 : Nat) ^ k = 2 ^ (8 * k) by rw [Nat.pow_mul]]
  simp

set_option maxRecDepth 100000 in
set_option maxHeartbeats 400000 in
theorem fixed_walk (V n : Nat) (w : World) (h1 : 1 ≤ n) (h8 : n ≤ 8) (h : V < 256 ^ n) :
    Calls Tryd.prog 82 #[.int .u64 V, .int .i64 n] w fun e w' => e = .returned (.tuple #[str (be n V), .int .i64 0]) ∧ Below w.heap.size w w' := by
  obtain ⟨i0, hi, hz0, hz1, hz2⟩ := info_parts Tryd.infoByte
  have hmk : ∀ w, (Instr.makeSlice 27 (.int .i64 (n : Int)) (.int .i64 (n : Int))).run Tryd.prog w = .ok (.slice (some ⟨w.heap.size, 0, none⟩) n n) (w.alloc (.cells (madeCells (Value.int .u8 0).cells (n * 1)) 5)) := fun w => by
    have := run_make (P := Tryd.prog) w 27 5 i0 (.int .u8 0) Tryd.underlying27 hi hz0 .i64 .i64 n n (by omega) (by omega) (by rw [hz2]; omega) (by omega)
    rw [hz1] at this
    simpa using this
  obtain ⟨C, hC, hCs⟩ : ∃ C, C = madeCells (Value.int .u8 0).cells (n * 1) ∧ C.size = n := ⟨_, rfl, by rw [size_madeCells]; omega⟩
  rw [← hC] at hmk
  have hdec : ((n : Int) < 8) → ((V : Int) / (2 : Int) ^ (8 * n) != 0) = false := fun _ => by
    have : V / 2 ^ (8 * n) = 0 := Nat.div_eq_of_lt (by rw [Nat.pow_mul]; exact h)
    have e : ((V : Int) / (2 : Int) ^ (8 * n)) = ((V / 2 ^ (8 * n) : Nat) : Int) := by simp
    rw [e, this]; rfl
  have HC := Lib.hid hCs
  have Hh := Lib.hid h
  clear hC hCs h hi hz0 hz1 hz2
  by_cases hn8 : (n : Int) < 8
  all_goals
    first
      | (have hdec' := hdec hn8)
      | skip
    clear hdec
    go_enter Tryd.func82, Tryd.ntmps82
    go_wp2
    go_loopw [7, 29] (fun _ i wr => ∃ k : Nat, k ≤ n ∧ i = .int .i64 k ∧ ∃ arr, FixAt arr V n k ∧ wr = w.alloc (.cells arr 5)) (fun _ i _ => n - (intOf i).toNat)
    case atStart => exact ⟨0, by omega, rfl, C, ⟨HC.out, fun j hj => by omega⟩, rfl⟩
    case round =>
      obtain ⟨k, hk, rfl, arr, harr, rfl⟩ := hrel
      have Harr := Lib.hid harr
      clear harr
      by_cases hlt : k < n
      · have hw := shr_byte V k
        have hbv : Value.int .u8 ((UInt8.ofNat (V / 256 ^ k % 256)).toNat : Int) = byteV (UInt8.ofNat (V / 256 ^ k % 256)) := rfl
        have Hset := Lib.hid (Harr.out.set hlt)
        generalize UInt8.ofNat (V / 256 ^ k % 256) = c at *
        have Hbv := Lib.hid hbv
        clear hbv
        obtain ⟨x, hx⟩ : ∃ x, arr[n - 1 - k]? = some x := ⟨_, Array.getElem?_eq_getElem (by rw [Harr.out.1]; omega)⟩
        have hidx : ((n : Int) - 1 - (k : Int)).toNat = n - 1 - k := by omega
        go_wp2
        go_roundw
        case rel => exact ⟨k + 1, by omega, by go_num, _, Hset.out, by rw [← Hbv.out]⟩
        case measure => simp [intOf]; omega
      · obtain rfl : k = n := by omega
        have hcv := run_convert_bytes_back (P := Tryd.prog) (w.alloc (.cells arr 5)) 27 9 5 ⟨w.heap.size, 0, none⟩ k (be k V) Tryd.underlying27 Tryd.underlying5 Tryd.underlying9 (fun j hj => by
          rw [addr_add0, cell_alloc_new]; exact Harr.out.done j hj)
        rw [be_length] at hcv
        go_wp2
        go_ret2
        exact ⟨rfl, (Below.refl _ _).alloc (Nat.le_refl _) _⟩

set_option maxRecDepth 100000 in
set_option maxHeartbeats 400000 in
theorem fixed_any (V : Nat) (n : Int) (w : World) (hV : U64 V) (hn0 : -9223372036854775808 ≤ n) (hn1 : n ≤ 9223372036854775807) :
    Calls Tryd.prog 82 #[.int .u64 V, .int .i64 n] w fun e w' => e = .returned (.tuple #[str (fixed V n).1, .int .i64 ((fixed V n).2 : Int)]) ∧ Below w.heap.size w w' := by
  by_cases hno : n < 1 ∨ 8 < n ∨ 256 ^ n.toNat ≤ V
  · have Hf := Lib.hid (fixed_no V n hno)
    by_cases h1 : n < 1
    · clear hno
      go_enter Tryd.func82, Tryd.ntmps82
      go_wp2
      go_ret2
      exact ⟨by rw [Hf.out]; rfl, Below.refl _ _⟩
    by_cases h8 : 8 < n
    · clear hno
      go_enter Tryd.func82, Tryd.ntmps82
      go_wp2
      go_ret2
      exact ⟨by rw [Hf.out]; rfl, Below.refl _ _⟩
    obtain ⟨n, rfl⟩ := Int.eq_ofNat_of_zero_le (show 0 ≤ n by omega)
    have hbig : 256 ^ n ≤ V := by
      rcases hno with h | h | h
      · exact absurd h h1
      · exact absurd h h8
      · simpa using h
    have hn8 : n < 8 := by
      by_cases h : n < 8
      · exact h
      · have : (256 : Nat) ^ 8 ≤ 256 ^ n := Nat.pow_le_pow_right (by omega) (by omega)
        unfold U64 at hV; omega
    have hdec : ((V : Int) / (2 : Int) ^ (8 * n) != 0) = true := by
      have h2 : 0 < V / 2 ^ (8 * n) := Nat.div_pos (by rw [Nat.pow_mul]; exact hbig) (Nat.pow_pos (by omega))
      have e : ((V : Int) / (2 : Int) ^ (8 * n)) = ((V / 2 ^ (8 * n) : Nat) : Int) := by simp
      rw [e, bne_iff_ne]; omega
    clear hno hbig
    go_enter Tryd.func82, Tryd.ntmps82
    go_wp2
    go_ret2
    exact ⟨by rw [Hf.out]; rfl, Below.refl _ _⟩
  · obtain ⟨n, rfl⟩ := Int.eq_ofNat_of_zero_le (show 0 ≤ n by omega)
    have h : V < 256 ^ n := by
      have : ¬ (256 ^ (n : Int).toNat ≤ V) := fun h => hno (.inr (.inr h))
      rw [Int.toNat_natCast] at this; omega
    rw [fixed_yes V n (by omega) (by omega) h]
    exact fixed_walk V n w (by omega) (by omega) h

set_option maxRecDepth 100000 in
set_option maxHeartbeats 400000 in
theorem rfixed_any (V : Nat) (n : Int) (w : World) (hV : U64 V) (hn0 : -9223372036854775808 ≤ n) (hn1 : n ≤ 9223372036854775807) :
    Calls Tryd.prog 83 #[.int .u64 V, .int .i64 n] w fun e w' => e = .returned (.tuple #[str (fixed V n).1, .int .i64 ((fixed V n).2 : Int)]) ∧ Below w.heap.size w w' := by
  by_cases h1 : n < 1
  · have Hf := Lib.hid (fixed_no V n (.inl h1))
    go_enter Tryd.func83, Tryd.ntmps83
    go_wp2
    go_ret2
    exact ⟨by rw [Hf.out]; rfl, Below.refl _ _⟩
  by_cases h8 : 8 < n
  · have Hf := Lib.hid (fixed_no V n (.inr (.inl h8)))
    go_enter Tryd.func83, Tryd.ntmps83
    go_wp2
    go_ret2
    exact ⟨by rw [Hf.out]; rfl, Below.refl _ _⟩
  obtain ⟨n, rfl⟩ := Int.eq_ofNat_of_zero_le (show 0 ≤ n by omega)
  go_enter Tryd.func83, Tryd.ntmps83
  go_wp2
  go_loopw [0, 6, 7] (fun v b i wr => ∃ (k A : Nat) (s : ByteArray), k ≤ n ∧ i = .int .i64 k ∧ v = .int .u64 A ∧ Hid (A = V / 256 ^ k) ∧ Hid (s.data.toList = be k V) ∧ b = .string s ∧ Below w.heap.size w wr) (fun _ _ i _ => n - (intOf i).toNat)
  case atStart => exact ⟨0, V, ByteArray.empty, by omega, rfl, rfl, by simp [Hid], rfl, rfl, Below.refl _ _⟩
  case round =>
    obtain ⟨k, A, s, hk, rfl, rfl, hA, hs, rfl, hb⟩ := hrel
    have hsz := hb.size
    have hss : s.size ≤ 8 := by rw [← data_length, hs.out, be_length]; omega
    have hUA : U64 A := by rw [hA.out]; exact hV.div _
    by_cases hlt : k < n
    · obtain ⟨c, hc⟩ : ∃ c, c = UInt8.ofNat (A % 256) := ⟨_, rfl⟩
      have hcv := bytes_one wr ((A : Int) % 256) c (by rw [hc, byteV, byte_mod _ (Nat.mod_lt _ (by omega))]; congr 1)
      have hq : IntKind.u64.wrap ((A : Int) / 256) = (A : Int) / 256 := hUA.wrap_div 256
      have Hc := Lib.hid hc
      clear hc
      go_wp2
      go_roundw
      case rel =>
        refine ⟨k + 1, A / 256, ⟨#[c]⟩ ++ s, by omega, by go_num, by go_num, ?_, ?_, rfl, hb.alloc (by omega) _⟩
        · show A / 256 = V / 256 ^ (k + 1)
          rw [hA.out, Nat.div_div_eq_div_mul, Nat.pow_succ]
        · show (_ : List UInt8) = _
          rw [data_append, be_cons, hs.out, Hc.out, hA.out]
          rfl
      case measure => simp [intOf]; omega
    · obtain rfl : k = n := by omega
      by_cases hz : A = 0
      · have hz' : ((A : Int) != 0) = false := by rw [hz]; rfl
        have Hf := Lib.hid (fixed_yes V k (by omega) (by omega) (by
          have h0 := hA.out
          rw [hz] at h0
          rcases Nat.lt_or_ge V (256 ^ k) with h | h
          · exact h
          · have := Nat.div_pos h (Nat.pow_pos (show 0 < 256 by omega)); omega))
        clear hz
        go_wp2
        go_ret2
        exact ⟨by rw [Hf.out]; exact ret_strE hs.out rfl, hb⟩
      · have hz' : ((A : Int) != 0) = true := by rw [bne_iff_ne]; omega
        have Hf := Lib.hid (fixed_no V k (.inr (.inr (by
          rw [Int.toNat_natCast]
          have h0 := hA.out
          rcases Nat.lt_or_ge V (256 ^ k) with h | h
          · rw [Nat.div_eq_of_lt h] at h0; omega
          · exact h))))
        go_wp2
        go_ret2
        exact ⟨by rw [Hf.out]; rfl, hb⟩
end Go.Proofs.YtbblkgdejgoncaaDoor
