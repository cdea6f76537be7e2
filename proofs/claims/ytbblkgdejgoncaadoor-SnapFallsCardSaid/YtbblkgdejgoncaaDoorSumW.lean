/- The sums of texts and the numbers of bytes: contracts. -/
import Derived.Test.YtbblkgdejgoncaaDoorSumQ
import Derived.Test.YtbblkgdejgoncaaDoorSum
import Derived.Test.YtbblkgdejgoncaaDoorOctetFixed2
set_option linter.unusedSimpArgs false
set_option linter.unusedVariables false
namespace Go.Proofs.YtbblkgdejgoncaaDoor
open Go Go.RowKit

section
theorem infSumW_9 : Tryd.prog.info? 9 = some Tryd.t9 := by kernel_rfl


theorem ct_crc (x : BitVec 32) (l : List UInt8) (h : l.length ≤ 9223372036854775807) : Ct Tryd.prog 86 [.int .u32 (x.toNat : Int), .string (bs l)] [] [] (fun v post => v = .int .u32 ((sumCrc x l).toNat : Int) ∧ post = []) :=
  ct_same (fun w => by
    have := sum_crc_any x (bs l) w (by rw [bs_size]; omega)
    rw [bs_data] at this
    exact this)
theorem ct_rcrc (x : BitVec 32) (l : List UInt8) (h : l.length ≤ 9223372036854775807) : Ct Tryd.prog 105 [.int .u32 (x.toNat : Int), .string (bs l)] [] [] (fun v post => v = .int .u32 ((sumCrc x l).toNat : Int) ∧ post = []) :=
  ct_same (fun w => by
    have := sum_rcrc_any x (bs l) w (by rw [bs_size]; omega)
    rw [bs_data] at this
    exact this)
theorem fixed_of (v : Int) (n : Nat) (h1 : 1 ≤ n) (h8 : n ≤ 8) (h0 : 0 ≤ v) (h : v < ((256 ^ n : Nat) : Int)) : fixed v.toNat (n : Int) = (be n v.toNat, 0) := fixed_yes v.toNat n h1 h8 (by omega)
theorem ct_fixed (v : Int) (n : Nat) (h1 : 1 ≤ n) (h8 : n ≤ 8) (h0 : 0 ≤ v) (h : v < ((256 ^ n : Nat) : Int)) (h64 : v < 18446744073709551616) : Ct Tryd.prog 82 [.int .u64 v, .int .i64 (n : Int)] [] [] (fun v' post => v' = .tuple #[.string (bs (be n v.toNat)), .int .i64 0] ∧ post = []) :=
  ct_below (fun w => by
    have := fixed_any v.toNat n w (by unfold U64; omega) (by omega) (by omega)
    rw [fixed_of v n h1 h8 h0 h, Int.toNat_of_nonneg h0] at this
    exact this)
theorem ct_rfixed (v : Int) (n : Nat) (h1 : 1 ≤ n) (h8 : n ≤ 8) (h0 : 0 ≤ v) (h : v < ((256 ^ n : Nat) : Int)) (h64 : v < 18446744073709551616) : Ct Tryd.prog 83 [.int .u64 v, .int .i64 (n : Int)] [] [] (fun v' post => v' = .tuple #[.string (bs (be n v.toNat)), .int .i64 0] ∧ post = []) :=
  ct_below (fun w => by
    have := rfixed_any v.toNat n w (by unfold U64; omega) (by omega) (by omega)
    rw [fixed_of v n h1 h8 h0 h, Int.toNat_of_nonneg h0] at this
    exact this)
theorem ct_number (l : List UInt8) (h1 : 1 ≤ l.length) (h8 : l.length ≤ 8) : Ct Tryd.prog 58 [.string (bs l)] [] [] (fun v' post => v' = .tuple #[.int .u64 ((num l : Nat) : Int), .int .i64 0] ∧ post = []) :=
  ct_same (fun w => by
    have := number_any (bs l) w (by rw [bs_size]; omega)
    rw [bs_data, number_yes l (by omega)] at this
    exact this)
theorem p256_2 : ((256 ^ 2 : Nat) : Int) = 65536 := by decide
theorem p256_4 : ((256 ^ 4 : Nat) : Int) = 4294967296 := by decide

set_option maxRecDepth 100000 in
set_option maxHeartbeats 1000000 in
theorem sum_of (o1 : Option Nat) (p1 q1 : Nat) (c1 : Array Value) (T1 : TypeId) (f1 : Nat × Nat) (ls : List (List UInt8)) (hs : Sees 1 o1 p1 q1 c1 (ls.map strC) ls.length) (hl : ∀ s ∈ ls, s.length ≤ 9223372036854775807) :
    Ct Tryd.prog 59 [sv o1 p1 ls.length q1] [(o1, .cells c1 T1 f1)] [] fun v post => v = .int .u32 ((crcW ls).toNat : Int) ∧ post = [] := by
 have hk1 := hs.le
 have hk2 := hs.max
 refine ct_of Tryd.func59 rfl rfl (fun w0 => ?_)
 show G _ _ [(0, _)] _ _
 refine G_seq ?_
 refine G_region (l := [0]) rfl ?_
 refine G_val rfl rfl rfl rfl (V_assign rfl rfl) ?_
 refine G_done ?_
 refine G_seq ?_
 refine G_region (l := [0]) rfl ?_
 refine G_val rfl rfl rfl rfl (V_assign rfl rfl) ?_
 refine G_done ?_
 refine G_seq ?_
 refine G_seq ?_
 refine G_region (l := [0, 1, 2]) rfl ?_
 refine G_val rfl rfl rfl rfl (V_move rfl rfl) ?_
 refine G_val rfl rfl rfl rfl (V_len rfl rfl Tryd.underlying24 rfl) ?_
 refine G_val rfl rfl rfl rfl (V_move rfl rfl) ?_
 refine G_done ?_
 refine G_block ?_
 refine G_sub ?he3 [] ?hl3 (G_loop (X := Nat) (fun i => i ≤ ls.length) (fun i => ls.length - i) (fun i => [(3, .int .u32 ((crcW (ls.take i)).toNat : Int)), (6, sv o1 p1 ls.length q1), (7, .int .i64 (ls.length : Int)), (8, .int .i64 (i : Int))]) (fun i => []) ?round3 0 ?h03)
 case he3 => exact (And.intro rfl (And.intro rfl (And.intro rfl (And.intro rfl trivial))))
 case hl3 => exact ⟨_, rfl⟩
 case h03 => exact Nat.zero_le _
 case round3 =>
  intro i hJ ih
  try dsimp only at hJ ih
  refine G_seq ?_
  refine G_region (l := [0]) rfl ?_
  refine G_val rfl rfl rfl rfl (V_lss rfl rfl rfl) ?_
  refine G_done ?_
  refine G_seq ?_
  refine G_ifD rfl (fun hc1 => ?_) (fun hc1 => ?_)
  · skip
    refine G_skip ?_
    refine G_seq ?_
    refine G_block ?_
    refine G_seq ?_
    obtain ⟨s, hx⟩ := getI (show i < ls.length by omega)
    obtain ⟨b1, rfl⟩ := hs.isSome (by omega)
    refine G_region (l := [0, 1, 2]) rfl ?_
    first
      | refine G_val rfl rfl rfl rfl (V_indexAddrN (s := 1) rfl Tryd.underlying24 infSumW_9 rfl rfl rfl rfl (by omega)) ?_
      | refine G_val rfl rfl rfl rfl (V_indexAddr (s := 1) rfl Tryd.underlying24 infSumW_9 rfl rfl rfl (by omega) (by first | omega | (simp; done) | (simp; omega) | (simp at *; omega))) ?_
    refine G_val rfl rfl rfl rfl (V_load1 rfl rfl (mem_at 0 rfl) (nth_of (hs.cell hx)) Tryd.underlying9 rfl) ?_
    refine G_val rfl rfl rfl rfl (V_assign rfl rfl) ?_
    refine G_done ?_
    refine G_region (l := [0, 1, 2, 3]) rfl ?_
    refine G_val rfl rfl rfl rfl (V_move rfl rfl) ?_
    refine G_val rfl rfl rfl rfl (V_move rfl rfl) ?_
    refine G_call (L2 := []) rfl rfl rfl rfl rfl rfl Tryd.call86 (ct_crc _ _ (hl s (List.mem_of_getElem? hx))) [] [] rfl rfl ?_
    rintro v post ⟨rfl, rfl⟩
    refine G_val rfl rfl rfl rfl (V_assign rfl rfl) ?_
    refine G_done ?_
    refine G_inBlock ?_
    rw [← crcW_next hx]
    refine G_region (l := [0, 1]) rfl ?_
    first
      | refine G_val rfl rfl rfl rfl ((V_add rfl rfl rfl).int (wrap_i64 (by omega))) ?_
      | refine G_val rfl rfl rfl rfl (V_add rfl rfl rfl) ?_
    refine G_val rfl rfl rfl rfl (V_move rfl rfl) ?_
    refine G_done ?_
    refine G_sub ?_ [] ?_ (ih (i + 1) ?_ ?_)
    · (refine (And.intro ?_ (And.intro ?_ (And.intro ?_ (And.intro ?_ trivial)))) <;> first | rfl | exact slot_int (by omega) | exact slot_int (by simp))
    · exact ⟨_, rfl⟩
    · omega
    · (first | omega | (dsimp only; omega))
  refine G_exit rfl ?_
  refine G_seq ?_
  refine G_region (l := [0, 1]) rfl ?_
  refine G_val rfl rfl rfl rfl (V_move rfl rfl) ?_
  refine G_val rfl rfl rfl rfl (V_assign rfl rfl) ?_
  refine G_done ?_
  refine G_ret (post := []) Tryd.func59 rfl (RVs_cons (RV_tmp rfl) RVs_nil) [] rfl ?_
  dsimp only [packed]
  rw [List.take_of_length_le (by omega)]; exact ⟨rfl, rfl⟩

set_option maxRecDepth 100000 in
set_option maxHeartbeats 1000000 in
theorem rsum_of (l : List UInt8) (h : l.length ≤ 9223372036854775807) :
    Ct Tryd.prog 84 [.string (bs l)] [] [] fun v post => v = .int .u32 ((crcN l : Nat) : Int) ∧ post = [] := by
 refine ct_of Tryd.func84 rfl rfl (fun w0 => ?_)
 show G _ _ [(0, _)] _ _
 refine G_seq ?_
 refine G_region (l := [0]) rfl ?_
 refine G_val rfl rfl rfl rfl (V_assign rfl rfl) ?_
 refine G_done ?_
 refine G_seq ?_
 refine G_region (l := [0, 1, 2]) rfl ?_
 refine G_val rfl rfl rfl rfl (V_move rfl rfl) ?_
 refine G_call (L2 := []) rfl rfl rfl rfl rfl rfl Tryd.call105 (ct_rcrc 4294967295#32 l h) [] [] rfl rfl ?_
 rintro v post ⟨rfl, rfl⟩
 refine G_val rfl rfl rfl rfl (V_assign rfl rfl) ?_
 refine G_done ?_
 refine G_ret (post := []) Tryd.func84 rfl (RVs_cons (RV_tmp rfl) RVs_nil) [] rfl ?_
 dsimp only [packed]
 exact ⟨rfl, rfl⟩

end
end Go.Proofs.YtbblkgdejgoncaaDoor
