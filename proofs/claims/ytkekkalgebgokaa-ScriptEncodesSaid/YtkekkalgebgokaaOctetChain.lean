/- The walk of octet.Chain. -/
import Derived.Test.YtkekkalgebgokaaRows
import Derived.Test.YtkekkalgebgokaaOctetPlain
import Derived.WalkKit
import Derived.WalkSpells
import Derived.WalkLawsBesides
import Derived.Lib.Hide
namespace Go.Proofs.Ytkekkalgebgokaa
open Go.RowKit

theorem Try.infoByte : (Try.prog.info? 5).map (fun i => (i.zero, i.size, i.bytes)) = some (some (.int .u8 0), 1, 1) := by kernel_rfl

set_option maxRecDepth 100000 in
set_option maxHeartbeats 400000 in
theorem chain_any (V : Nat) (w : World) (hV : U64 V) :
    Calls Try.prog 80 #[.int .u64 V] w fun e w' => e = .returned (str (chain V)) ∧ Below w.heap.size w w' := by
  obtain ⟨i0, hi, hz0, hz1, hz2⟩ := info_parts Try.infoByte
  have hl10 := chain_len64 V hV
  go_enter Try.func80, Try.ntmps80
  go_wp2
  go_loopw [0, 3] (fun v b wr => ∃ (u : Nat) (pre : List UInt8), U64 u ∧ v = .int .u64 u ∧ pre ++ chain u = chain V ∧ wr.ownsRow w.heap.size 5 1 b pre.length (pre.map byteV) ∧ Below w.heap.size w wr) (fun v _ _ => (intOf v).toNat)
  case atStart => exact ⟨V, [], hV, rfl, rfl, World.ownsRow_nil _ _ _ _, Below.refl _ _⟩
  case round =>
    obtain ⟨u, pre, hu, rfl, hpre, hown, hb⟩ := hrel
    have Hpre := Lib.hid hpre
    have hlen : pre.length ≤ 10 := by have := congrArg List.length hpre; simp at this; omega
    clear hpre
    have hsz := hb.size
    by_cases hlt : 128 ≤ u
    · obtain ⟨c, hc⟩ : ∃ c, c = UInt8.ofNat (u % 128 + 128) := ⟨_, rfl⟩
      have hbyte : bits BinOp.or IntKind.u8 ((u : Int) % (256 : Int)) (128 : Int) = (c.toNat : Int) := by rw [hc]; exact byte_or u
      have Hc := Lib.hid hc
      clear hc
      go_wp2_with (at_builtin; refine wpList_append_own _ rfl _ _ 73 rfl w.heap.size 5 i0 (.int .u8 0) 1 1 Try.underlying73 hi hz0 hz1 hz2 rfl (by decide) _ _ _ rfl (hown.alloc _) ⟨wr.heap.size, 0, none⟩ 1 1 [byteV c] rfl rfl ?c1 ?c2 ?c3 ?c4 ?c5 ?_)
      case c1 => exact cell_one_new _ _ _
      case c2 => simp [byteV, Value.oneCell']
      case c3 => unfold maxLen; omega
      case c4 => omega
      case c5 => simp; omega
      intro v' w1 hown' hgrow' _
      have hb1 : Below w.heap.size w w1 := (hb.alloc (by omega) _).grown hgrow' (by simp; omega) (fun k hk => (hown.lt k hk).1)
      clear hbyte hown hgrow'
      go_wp2
      go_roundw
      case rel => exact ⟨u / 128, pre ++ [c], hu.div _, by go_num, by rw [List.append_assoc, ← Hpre.out, chain_big u hlt, Hc.out]; rfl, by simpa using hown', hb1⟩
      case measure => simp [intOf]; omega
    · obtain ⟨c, hc⟩ : ∃ c, c = UInt8.ofNat u := ⟨_, rfl⟩
      have hbyte : Value.int .u8 (u : Int) = byteV c := by rw [hc, byteV, byte_mod u (by omega)]
      have Hy := Lib.hid hbyte
      have Hc := Lib.hid hc
      clear hc hbyte
      go_wp2_with (at_builtin; refine wpList_append_own _ rfl _ _ 73 rfl w.heap.size 5 i0 (.int .u8 0) 1 1 Try.underlying73 hi hz0 hz1 hz2 rfl (by decide) _ _ _ rfl (hown.alloc _) ⟨wr.heap.size, 0, none⟩ 1 1 [.int .u8 (u : Int)] rfl rfl ?c1 ?c2 ?c3 ?c4 ?c5 ?_)
      case c1 => exact cell_one_new _ _ _
      case c2 => simp [Value.oneCell']
      case c3 => unfold maxLen; omega
      case c4 => omega
      case c5 => simp; omega
      intro v' w1 hown' hgrow' _
      have hb1 : Below w.heap.size w w1 := (hb.alloc (by omega) _).grown hgrow' (by simp; omega) (fun k hk => (hown.lt k hk).1)
      have hcv := own_string (P := Try.prog) (l := pre ++ [c]) 73 9 Try.underlying73 Try.underlying5 Try.underlying9 (by rw [Hy.out] at hown'; simpa using hown')
      clear hown hown' hgrow'
      go_wp2
      go_ret
      exact ⟨by rw [← Hpre.out, chain_small u (by omega), ← Hc.out]; rfl, hb1⟩
end Go.Proofs.Ytkekkalgebgokaa
