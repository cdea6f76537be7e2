/- The walk of the reference's Chain. -/
import Derived.Test.YtkekkalgebgokaaOctetChain
namespace Go.Proofs.Ytkekkalgebgokaa
open Go.RowKit

theorem bytes_one (w : World) (x : Int) (c : UInt8) (h : Value.int .u8 x = byteV c) :
    (convert 73 9 (.slice (some ⟨w.heap.size, 0, none⟩) 1 1)).run Try.prog (w.alloc (.cells #[.int .u8 x] 5)) = .ok (.string ⟨#[c]⟩) (w.alloc (.cells #[.int .u8 x] 5)) := by
  have := run_convert_bytes_back (P := Try.prog) (w.alloc (.cells #[.int .u8 x] 5)) 73 9 5 ⟨w.heap.size, 0, none⟩ 1 [c] Try.underlying73 Try.underlying5 Try.underlying9 (fun j hj => by
    obtain rfl : j = 0 := by simpa using hj
    rw [addr_add0, cell_alloc_new]
    rw [h]
    rfl)
  exact this

set_option maxRecDepth 100000 in
set_option maxHeartbeats 400000 in
theorem rchain_any (V : Nat) (w : World) (hV : U64 V) :
    Calls Try.prog 118 #[.int .u64 V] w fun e w' => e = .returned (str (chain V)) ∧ Below w.heap.size w w' := by
  have hl10 := chain_len64 V hV
  go_enter Try.func118, Try.ntmps118
  go_wp2
  go_loopw [0, 3] (fun v b wr => ∃ (u : Nat) (s : ByteArray), U64 u ∧ v = .int .u64 u ∧ s.data.toList ++ chain u = chain V ∧ b = .string s ∧ Below w.heap.size w wr) (fun v _ _ => (intOf v).toNat)
  case atStart => exact ⟨V, ByteArray.empty, hV, rfl, rfl, rfl, Below.refl _ _⟩
  case round =>
    obtain ⟨u, s, hu, rfl, hpre, rfl, hb⟩ := hrel
    have Hpre := Lib.hid hpre
    have hlen : s.size ≤ 10 := by have := congrArg List.length hpre; simp at this; omega
    clear hpre
    have hsz := hb.size
    by_cases hlt : 128 ≤ u
    · obtain ⟨c, hc⟩ : ∃ c, c = UInt8.ofNat (u % 128 + 128) := ⟨_, rfl⟩
      have hcv := bytes_one wr ((u : Int) % 128 + 128) c (by rw [hc, byteV, byte_mod _ (by omega)]; congr 1)
      have hq : IntKind.u64.wrap ((u : Int) / 128) = (u : Int) / 128 := hu.wrap_div 128
      have Hc := Lib.hid hc
      clear hc
      go_wp2
      go_roundw
      case rel => exact ⟨u / 128, s ++ ⟨#[c]⟩, hu.div _, by go_num, by rw [← Hpre.out, chain_big u hlt, ← Hc.out]; simp, rfl, hb.alloc (by omega) _⟩
      case measure => simp [intOf]; omega
    · obtain ⟨c, hc⟩ : ∃ c, c = UInt8.ofNat u := ⟨_, rfl⟩
      have hcv := bytes_one wr (u : Int) c (by rw [hc, byteV, byte_mod _ (by omega)])
      have Hc := Lib.hid hc
      clear hc
      go_wp2
      go_ret
      exact ⟨ret_str (by rw [← Hpre.out, chain_small u (by omega), ← Hc.out]; simp), hb.alloc (by omega) _⟩
end Go.Proofs.Ytkekkalgebgokaa
