/- The walk of the reference's Unchain. -/
import Derived.Test.YtkekkalgebgokaaOctetUnchain
namespace Go.Proofs.Ytkekkalgebgokaa
open Go.RowKit

set_option maxRecDepth 100000 in
set_option maxHeartbeats 400000 in
theorem runchain_any (s : ByteArray) (w : World) (hs : s.size ≤ 9223372036854775807) :
    Calls Try.prog 111 #[.string s] w fun e w' => e = .returned (tri (unchain s.data.toList)) ∧ w = w' := by
  go_enter Try.func111, Try.ntmps111
  go_wp2
  go_loop [5] (fun i => ∃ k : Nat, k ≤ s.size ∧ k ≤ 10 ∧ i = .int .i64 k ∧ ∀ j c, j < k → s.data.toList[j]? = some c → 128 ≤ c.toNat) (fun i => 10 - (intOf i).toNat)
  case atStart => exact ⟨0, by omega, by omega, rfl, fun j c h => by omega⟩
  case round =>
    obtain ⟨k, hk, hk10, rfl, hall⟩ := hrel
    have Hrun := Lib.hid (unch_run k 0 0 s.data.toList (by simpa using hk) (by omega) hall)
    have Hall := Lib.hid hall
    clear hall
    by_cases hks : k < s.size
    · have hgs : s.data.toList[k]? = some s[k] := by rw [List.getElem?_eq_getElem (by simpa using hks)]; rfl
      have hdrop : s.data.toList.drop k = s[k] :: s.data.toList.drop (k + 1) := by
        rw [List.drop_eq_getElem_cons (by simpa using hks)]; rfl
      have Hg := Lib.hid hgs
      have Hd := Lib.hid hdrop
      have hc256 := s[k].toNat_lt
      clear hgs hdrop
      by_cases hkt : k < 10
      · have hk10' : ((k : Int) == 10) = false := by simp; omega
        have hks' : ((k : Int) == (s.size : Int)) = false := by simp; omega
        by_cases hc : 128 ≤ s[k].toNat
        · go_wp2
          go_round
          case rel =>
            refine ⟨k + 1, by omega, by omega, by go_num, fun j c hj h => ?_⟩
            by_cases e : j = k
            · subst e
              rw [Hg.out] at h
              obtain rfl := Option.some.inj h
              exact hc
            · exact Hall.out j c (by omega) h
          case measure => simp [intOf]; omega
        · by_cases hbad : (k = 9 ∧ 1 < s[k].toNat) ∨ (0 < k ∧ s[k].toNat = 0)
          · have hb2 : (0 < 0 + k ∧ s[k].toNat = 0) ∨ (0 + k = 9 ∧ 1 < s[k].toNat) := by omega
            have Hfin := Lib.hid (show unchain s.data.toList = (0, 0, 3) by rw [unchain, Hrun.out, Hd.out, unch_bad _ _ _ _ (by omega) (by omega) hb2])
            clear hb2
            by_cases hz : s[k].toNat = 0
            · have hz' : ((s[k].toNat : Int) == 0) = true := by simp [hz]
              have hz1 : (s[k].toNat : Int) ≤ 1 := by omega
              have hk0 : 0 < k := by omega
              clear hz hbad
              by_cases hk9 : k = 9
              · have hk9' : ((k : Int) == 9) = true := by simp; omega
                clear hk9
                go_wp2
                go_ret3
                exact ⟨by rw [Hfin.out]; rfl, rfl⟩
              · have hk9' : ((k : Int) == 9) = false := by simp; omega
                clear hk9
                go_wp2
                go_ret3
                exact ⟨by rw [Hfin.out]; rfl, rfl⟩
            · have hk9' : ((k : Int) == 9) = true := by simp; omega
              have h1 : 1 < s[k].toNat := by omega
              clear hz hbad
              go_wp2
              go_ret3
              exact ⟨by rw [Hfin.out]; rfl, rfl⟩
          · have hb2 : ¬ ((0 < 0 + k ∧ s[k].toNat = 0) ∨ (0 + k = 9 ∧ 1 < s[k].toNat)) := by omega
            have htop : k = 9 → s[k].toNat ≤ 1 := by omega
            have hval : lowF s.data.toList (k + 1) = lowF s.data.toList k + s[k].toNat * 128 ^ k := lowF_snoc _ _ _ Hg.out (by omega)
            have Hfin := Lib.hid (show unchain s.data.toList = (lowF s.data.toList (k + 1), k + 1, 0) by
              rw [unchain, Hrun.out, Hd.out, unch_last _ _ _ _ (by omega) (by omega) hb2, hval]; simp)
            have Htop := Lib.hid htop
            clear hb2 hval htop
            have Hcase : Hid (((k : Int) == 9) = true ∧ s[k].toNat ≤ 1 ∧ (0 < k ∧ ((s[k].toNat : Int) == 0) = false) ∨ ((k : Int) == 9) = false ∧ 0 < k ∧ ((s[k].toNat : Int) == 0) = false ∨ ((k : Int) == 9) = false ∧ ¬ 0 < k) := by
              simp only [Hid, beq_iff_eq, beq_eq_false_iff_ne]; omega
            clear hbad
            rcases Hcase.out with ⟨h1, h2, h3, h4⟩ | ⟨h1, h2, h3⟩ | ⟨h1, h2⟩
            all_goals
              clear Hcase
              go_wp2
              go_loop [6, 7] (fun v i => ∃ j : Nat, j ≤ k + 1 ∧ i = .int .i64 ((j : Int) - 1) ∧ v = .int .u64 (lowF (s.data.toList.drop j) (k + 1 - j) : Nat)) (fun _ i => (intOf i + 1).toNat)
              case atStart => exact ⟨k + 1, by omega, by go_num, by rw [show k + 1 - (k + 1) = 0 by omega]; simp [lowF]⟩
              case round =>
                obtain ⟨j, hj, rfl, rfl⟩ := hrel
                by_cases hj0 : 0 < j
                · obtain ⟨q, rfl⟩ : ∃ q, j = q + 1 := ⟨j - 1, by omega⟩
                  have hqs : q < s.size := by omega
                  obtain ⟨hw1, hw2⟩ := lowF_step s.data.toList k q s[k] Hg.out (by omega) Htop.out s[q] (by rw [List.getElem?_eq_getElem (by simpa using hqs)]; rfl) (by omega)
                  have hkq : k + 1 - (q + 1) = k - q := by omega
                  rw [hkq]
                  generalize lowF (s.data.toList.drop (q + 1)) (k - q) = A at *
                  have e1 : IntKind.u64.wrap ((A : Int) * 128) = (A : Int) * 128 := by
                    have := U64.wrap (n := A * 128) (by unfold U64 at hw2 ⊢; omega)
                    simpa using this
                  have e2 : IntKind.u64.wrap ((A : Int) * 128 + (s[q].toNat : Int) % 128) = ((lowF (s.data.toList.drop q) (k + 1 - q) : Nat) : Int) := by
                    rw [hw1]
                    have := U64.wrap (n := A * 128 + s[q].toNat % 128) (by rw [← hw1]; exact hw2)
                    simpa using this
                  have hq256 := s[q].toNat_lt
                  generalize hB : lowF (s.data.toList.drop q) (k + 1 - q) = B at *
                  have HB := Lib.hid hB
                  clear hw1 hw2 hkq hB
                  go_wp2
                  go_round
                  case rel => exact ⟨q, by omega, rfl, by rw [HB.out]⟩
                  case measure => simp [intOf]
                · obtain rfl : j = 0 := by omega
                  go_wp2
                  go_ret3
                  exact ⟨by rw [Hfin.out]; rfl, rfl⟩
      · have hk10' : ((k : Int) == 10) = true := by simp; omega
        have hkt' : 10 ≤ k := by omega
        have Hfin := Lib.hid (show unchain s.data.toList = (0, 0, 3) by rw [unchain, Hrun.out, show 0 + k = 10 by omega, unch_ten])
        go_wp2
        go_ret3
        exact ⟨by rw [Hfin.out]; rfl, rfl⟩
    · have hnil : s.data.toList.drop k = [] := List.drop_eq_nil_of_le (by simp; omega)
      have Hn := Lib.hid hnil
      clear hnil
      by_cases hkt : k < 10
      · have hk10' : ((k : Int) == 10) = false := by simp; omega
        have hks' : ((k : Int) == (s.size : Int)) = true := by simp; omega
        have Hfin := Lib.hid (show unchain s.data.toList = (0, 0, 2) by rw [unchain, Hrun.out, Hn.out, unch, if_neg (by omega)])
        go_wp2
        go_ret3
        exact ⟨by rw [Hfin.out]; rfl, rfl⟩
      · have hk10' : ((k : Int) == 10) = true := by simp; omega
        have Hfin := Lib.hid (show unchain s.data.toList = (0, 0, 3) by rw [unchain, Hrun.out, show 0 + k = 10 by omega, unch_ten])
        go_wp2
        go_ret3
        exact ⟨by rw [Hfin.out]; rfl, rfl⟩
end Go.Proofs.Ytkekkalgebgokaa
