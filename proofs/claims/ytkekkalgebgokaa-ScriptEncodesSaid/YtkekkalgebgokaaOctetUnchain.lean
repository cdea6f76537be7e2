/- The walk of octet.Unchain. -/
import Derived.Test.YtkekkalgebgokaaOctetRChain
namespace Go.Proofs.Ytkekkalgebgokaa
open Go.RowKit

def tri (r : Nat × Nat × Nat) : Value := .tuple #[.int .u64 (r.1 : Int), .int .i64 (r.2.1 : Int), .int .i64 (r.2.2 : Int)]

set_option maxRecDepth 100000 in
set_option maxHeartbeats 400000 in
theorem unchain_any (s : ByteArray) (w : World) (hs : s.size ≤ 9223372036854775807) :
    Calls Try.prog 131 #[.string s] w fun e w' => e = .returned (tri (unchain s.data.toList)) ∧ w = w' := by
  obtain ⟨m, hm1, hm2, hm3⟩ : ∃ m : Nat, m ≤ s.size ∧ m ≤ 10 ∧ (m < 10 → m = s.size) := ⟨min s.size 10, by omega, by omega, by omega⟩
  go_enter Try.func131, Try.ntmps131
  go_wp2
  all_goals
    first
      | (have hm4 : s.size ≤ m := by omega)
      | (have hm4 : 10 ≤ m := by omega)
    go_loop [5, 6, 10] (fun v _ i => ∃ k vk v' : Nat, k ≤ m ∧ i = .int .i64 k ∧ v = .int .u64 vk ∧ unch k v' (s.data.toList.drop k) = unchain s.data.toList ∧ (k ≤ 9 → v' = vk ∧ vk < 128 ^ k)) (fun _ _ i => m - (intOf i).toNat)
    case atStart => exact ⟨0, 0, 0, by omega, rfl, rfl, rfl, fun _ => ⟨rfl, by omega⟩⟩
    case round =>
      obtain ⟨k, vk, v', hk, rfl, rfl, hun, h9⟩ := hrel
      have Hun := Lib.hid hun
      have H9 := Lib.hid h9
      clear hun h9
      by_cases hlt : k < m
      · have hks : k < s.size := by omega
        have hdrop : s.data.toList.drop k = s[k] :: s.data.toList.drop (k + 1) := by
          rw [List.drop_eq_getElem_cons (by simpa using hks)]; rfl
        obtain ⟨rfl, hvk⟩ := H9.out (by omega)
        obtain ⟨n, hX, hn, hn'⟩ := or_link v' s[k] k (by omega) hvk
        have Hd := Lib.hid hdrop
        have Hn := Lib.hid hn'
        have hv2 := Lib.hid hvk
        have hand := and_128 s[k]
        have hc256 := s[k].toNat_lt
        clear hdrop hn' hvk H9
        by_cases hc : 128 ≤ s[k].toNat
        · have hT : (((s[k].toNat : Int) / 128 * 128) != 0) = true := by rw [bne_iff_ne]; omega
          go_wp2
          go_round
          case rel =>
            refine ⟨k + 1, n, v' + (s[k].toNat - 128) * 128 ^ k, by omega, by go_num, rfl, by rw [← Hun.out, Hd.out, unch_more k v' _ _ (by omega) hc], fun h => ?_⟩
            have e := Hn.out (.inl (by omega))
            rw [show s[k].toNat % 128 = s[k].toNat - 128 by omega] at e
            refine ⟨e.symm, ?_⟩
            rw [e, Nat.pow_succ]
            have h1 : (s[k].toNat - 128) * 128 ^ k ≤ 127 * 128 ^ k := Nat.mul_le_mul_right _ (by omega)
            have h2 := hv2.out
            omega
          case measure => simp [intOf]; omega
        · have hF : (((s[k].toNat : Int) / 128 * 128) != 0) = false := by simp; omega
          by_cases hz : s[k].toNat = 0
          · have hz' : ((s[k].toNat : Int) == 0) = true := by simp [hz]
            have hz1 : (s[k].toNat : Int) ≤ 1 := by omega
            have Hz := Lib.hid hz
            clear hz
            by_cases hk0 : 0 < k
            · go_wp2
              go_ret3
              exact ⟨by rw [← Hun.out, Hd.out, unch_bad k v' _ _ (by omega) (by omega) (.inl ⟨hk0, Hz.out⟩)]; rfl, rfl⟩
            · go_wp2
              go_ret3
              exact ⟨by rw [← Hun.out, Hd.out, unch_last k v' _ _ (by omega) (by omega) (by omega), Hn.out (.inl (by omega)), Nat.mod_eq_of_lt (by omega)]; rfl, rfl⟩
          · have hz' : ((s[k].toNat : Int) == 0) = false := by simpa using hz
            by_cases hk9 : k = 9
            · have hk9' : ((k : Int) == 9) = true := by simp; omega
              have hk9a : 9 ≤ k := by omega
              clear hk9
              by_cases h1 : 1 < s[k].toNat
              · go_wp2
                go_ret3
                exact ⟨by rw [← Hun.out, Hd.out, unch_bad k v' _ _ (by omega) (by omega) (.inr ⟨by omega, h1⟩)]; rfl, rfl⟩
              · go_wp2
                go_ret3
                exact ⟨by rw [← Hun.out, Hd.out, unch_last k v' _ _ (by omega) (by omega) (by omega), Hn.out (.inr (by omega)), Nat.mod_eq_of_lt (by omega)]; rfl, rfl⟩
            · have hk9' : ((k : Int) == 9) = false := by simp; omega
              go_wp2
              all_goals
                go_ret3
                exact ⟨by rw [← Hun.out, Hd.out, unch_last k v' _ _ (by omega) (by omega) (by omega), Hn.out (.inl (by omega)), Nat.mod_eq_of_lt (by omega)]; rfl, rfl⟩
      · obtain rfl : k = m := by omega
        go_wp2
        all_goals go_ret3
        all_goals
          refine ⟨?_, rfl⟩
          rw [← Hun.out]
          first
            | (have e : s.data.toList.drop k = [] := List.drop_eq_nil_of_le (by simp; omega)
               rw [e, unch]
               first | (rw [if_pos (by omega)]; rfl) | (rw [if_neg (by omega)]; rfl))
            | (have e : k = 10 := by omega
               rw [e, unch_ten]; rfl)
end Go.Proofs.Ytkekkalgebgokaa
