/- The walk of the law SumBursts. -/
import Derived.Test.YtgnbgjllogjecaaSum2
import Derived.Test.YtgnbgjllogjecaaKit
import Derived.Test.YtgnbgjllogjecaaSumBits
namespace Go.Proofs.Ytgnbgjllogjecaa
open Go.RowKit

set_option maxRecDepth 100000 in
set_option maxHeartbeats 400000 in
theorem sumBursts_main (s : ByteArray) (a : Nat) (t : Nat) (w : World) (cap m : Nat) (C : Array Value) (hs : s.size ≤ 2000) (h1 : a + 32 ≤ 8 * s.size) (ht : t ≠ 0) (_ht1 : t < 4294967296)
    (hrun : (convert 9 28 (.string s)).run Try.prog w = .ok (.slice (some ⟨w.heap.size, 0, none⟩) s.size cap) (w.drew.alloc (.cells C 5 (m, m + 1))))
    (hne : ¬ (sumCrc 4294967295#32 (burst s.data.toList a t 32)).toNat = (sumCrc 4294967295#32 s.data.toList).toNat)
    (hC : BytesAt C s.data.toList) (hm : C.size = m) :
    Calls Try.prog 4 #[.string s, .int .i64 a, .int .u32 t] w fun e w' => e = .returned (.bool true) ∧ Below w.heap.size w w' := by
  have hb : ((t : Int) == 0) = false := by simpa using ht
  have hq1 : decide ((a : Int) < 0) = false := by simp
  have hq2 : decide (8 * (s.size : Int) - 32 < (a : Int)) = false := by simp; omega
  have HC := Lib.hid hC
  have Hm := Lib.hid hm
  have Hn := Lib.hid hne
  clear hC hm hne
  go_enter Try.func4, Try.ntmps4
  go_wp2_with fail
  go_loopw [8, 9] (fun i _ wr => ∃ k : Nat, k ≤ 32 ∧ i = .int .i64 k ∧ ∃ arr : Array Value, arr.size = m ∧ BytesAt arr (burst s.data.toList a t k) ∧ wr = (w.alloc (.cells arr 5 (m, m + 1))).drew) (fun i _ _ => 32 - (intOf i).toNat)
  case atStart => exact ⟨0, by omega, rfl, C, Hm.out, HC.out, rfl⟩
  case round =>
    obtain ⟨k, hk, rfl, arr, hsz, hA, rfl⟩ := hrel
    have Hsz := Lib.hid hsz
    have HA := Lib.hid hA
    clear hsz hA
    by_cases hlt : k < 32
    · have htm : ((t : Int) / 2 ^ k).tmod 2 = ((t / 2 ^ k % 2 : Nat) : Int) := by
        rw [show ((t : Int) / 2 ^ k) = ((t / 2 ^ k : Nat) : Int) by simp, Int.tmod_eq_emod_of_nonneg (Int.natCast_nonneg _)]; rfl
      by_cases hbit : t / 2 ^ k % 2 = 1
      · have hbT : (((t : Int) / 2 ^ k).tmod 2 == 1) = true := by rw [htm, hbit]; rfl
        obtain ⟨v, hv⟩ : ∃ v, (burst s.data.toList a t k)[(a + k) / 8]? = some v := ⟨_, List.getElem?_eq_getElem (by rw [burst_length]; simp; omega)⟩
        have hx := HA.out _ _ hv
        have Hv := Lib.hid hv
        clear hv
        have hcell : (w.alloc (.cells arr 5 (m, m + 1))).cell? ⟨w.heap.size, (a + k) / 8, none⟩ = some (.int .u8 (v.toNat : Int)) := by
          rw [cell_alloc_new, hx]
        have hfr : (w.alloc (.cells arr 5 (m, m + 1))).frozen? ⟨w.heap.size, (a + k) / 8, none⟩ = false := by
          have := Hsz.out
          have h3 := (Array.getElem?_eq_some_iff.1 hx).1
          exact frozen_alloc_new _ _ _ _ _ (by simp; omega)
        have Hx := Lib.hid hx
        have Hb := Lib.hid hbit
        clear hx hbit htm
        go_wp2_with fail
        rw [setCell_alloc_new, u8_xor_bit]
        go_roundw
        case rel =>
          refine ⟨k + 1, by omega, by go_num, _, ?_, ?_, rfl⟩
          · rw [Array.size_setIfInBounds]; exact Hsz.out
          · rw [burst, if_pos Hb.out]
            exact BytesAt.set HA.out _ (fun b => b ^^^ (1 <<< UInt8.ofNat (7 - (a + k) % 8))) v Hv.out (Array.getElem?_eq_some_iff.1 Hx.out).1
        case measure => simp [intOf]; omega
      · have hb0 : t / 2 ^ k % 2 = 0 := by omega
        have hbF : (((t : Int) / 2 ^ k).tmod 2 == 1) = false := by rw [htm, hb0]; rfl
        have Hb := Lib.hid hbit
        clear htm hb0 hbit
        go_wp2_with fail
        go_roundw
        case rel => exact ⟨k + 1, by omega, by go_num, arr, Hsz.out, by rw [burst, if_neg Hb.out]; exact HA.out, rfl⟩
        case measure => simp [intOf]; omega
    · obtain rfl : k = 32 := by omega
      have hbk := run_convert_bytes_back (P := Try.prog) ((w.alloc (.cells arr 5 (m, m + 1))).drew) 28 9 5 ⟨w.heap.size, 0, none⟩ cap (burst s.data.toList a t 32) Try.underlying28 Try.underlying5 Try.underlying9 (fun j hj => by
        rw [addr_add0, World.cell?_drew, cell_alloc_new]; exact HA.out _ _ (List.getElem?_eq_getElem hj))
      rw [burst_length, show s.data.toList.length = s.size by simp] at hbk
      go_wp2_with fail
      refine (sum_of_one (w.heap.size + 1) _ _ (by rw [World.cell?_drew, cell_alloc_at _ _ _ _ _ _ (by simp)]; rfl) (by rw [ByteArray.size]; simp [burst_length]; omega)).mono ?_
      rintro e w' ⟨rfl, rfl⟩
      go_wp2_with fail
      refine (sum_of_one (w.heap.size + 1 + 1) s _ (by rw [World.cell?_drew, cell_alloc_at _ _ _ _ _ _ (by simp)]; rfl) (by omega)).mono ?_
      rintro e w' ⟨rfl, rfl⟩
      go_wp2_with fail
      · rename_i heq
        exact absurd (by omega) Hn.out
      · refine (sum_live _).mono ?_
        rintro e w' ⟨rfl, hb⟩
        go_wp2_with fail
        go_ret
        have Hq := Hn.out
        refine ⟨ret_bool (by rw [bne_iff_ne]; omega), ?_⟩
        exact ((((Below.refl _ _).alloc (Nat.le_refl _) _).alloc (by simp) _).alloc (by simp; omega) _).drew.trans (hb.mono (by simp; omega))
end Go.Proofs.Ytgnbgjllogjecaa
