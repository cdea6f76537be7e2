/- The walks of the reference's tables (layer 19), and of Asks. -/
import Derived.Test.YtgnbgjllogjecaaMsg2
namespace Go.Proofs.Ytgnbgjllogjecaa
open Go.RowKit

set_option maxRecDepth 100000 in
theorem msg_words_any (w : World) : Calls Try.prog 82 #[] w fun r w' => r = .returned (.slice (some ⟨w.heap.size, 0, none⟩) 17 17) ∧ w.alloc (.cells wordArr 9) = w' := by
  go_enter Try.func82, Try.ntmps82
  go_wp2
  go_ret
  exact ⟨rfl, rfl⟩

set_option maxRecDepth 100000 in
theorem msg_rword_any (k : Int) (w : World) (hk0 : -9223372036854775808 ≤ k) (hk1 : k ≤ 9223372036854775807) : Calls Try.prog 58 #[.int .i64 k] w fun r w' => r = .returned (.string (bs (wordK k))) ∧ Below w.heap.size w w' := by
  by_cases h1 : k < 1
  · have hr := Lib.hid (wordK_no k (by omega))
    go_enter Try.func58, Try.ntmps58
    go_wp2
    go_ret
    exact ⟨by rw [hr.out]; rfl, Below.refl _ _⟩
  by_cases h2 : 17 < k
  · have hr := Lib.hid (wordK_no k (by omega))
    go_enter Try.func58, Try.ntmps58
    go_wp2
    go_ret
    exact ⟨by rw [hr.out]; rfl, Below.refl _ _⟩
  obtain ⟨k, rfl⟩ := Int.eq_ofNat_of_zero_le (show 0 ≤ k by omega)
  obtain ⟨j, rfl⟩ : ∃ j, k = j + 1 := ⟨k - 1, by omega⟩
  have hr := Lib.hid (wordK_yes (j + 1) (by omega) (by omega))
  have ha := wordArr_at j (by omega)
  have hj16 : j ≤ 16 := by omega
  clear hk0 hk1 h1 h2
  go_enter Try.func58, Try.ntmps58
  go_wp2_with (go_at_call 82; refine (msg_words_any _).mono ?_; rintro r w' ⟨rfl, rfl⟩)
  go_ret
  exact ⟨by rw [hr.out]; rfl, (Below.refl _ _).alloc (Nat.le_refl _) _⟩

set_option maxRecDepth 100000 in
set_option maxHeartbeats 1000000 in
theorem msg_rkind_any (s : List UInt8) (w : World) : Calls Try.prog 59 #[.string (bs s)] w fun r w' => r = .returned (.int .i64 (kindOf s : Int)) ∧ Below w.heap.size w w' := by
  have hf := Blk.new w wordArr 9
  have Hf := Lib.hid hf
  clear hf
  go_enter Try.func59, Try.ntmps59
  go_wp2_with (go_at_call 82; refine (msg_words_any _).mono ?_; rintro r w' ⟨rfl, rfl⟩)
  go_loop [4] (fun i => ∃ k : Nat, k ≤ 17 ∧ i = .int .i64 k ∧ (∀ j, 1 ≤ j → j < k + 1 → wordOf j ≠ s)) (fun i => 17 - (intOf i).toNat)
  case atStart => exact ⟨0, by omega, rfl, fun j h1 hj => by omega⟩
  case round =>
    obtain ⟨k, hk, rfl, hno⟩ := hrel
    have Hno := Lib.hid hno
    clear hno
    by_cases hlt : k < 17
    · have hc := (Hf.out.cell k).trans (wordArr_at k hlt)
      by_cases he : wordOf (k + 1) = s
      · have heq : ((bs (wordOf (k + 1))).toList == (bs s).toList) = true := by rw [bs_beq]; simpa using he
        have Hr := Lib.hid (kindOf_is s (k + 1) (by omega) (by omega) he (fun j h1 h2 => Hno.out j h1 h2))
        clear he
        go_wp2_with fail
        go_ret
        exact ⟨by rw [Hr.out]; exact ret_num (by simp), (Below.refl _ _).alloc (Nat.le_refl _) _⟩
      · have heq : ((bs (wordOf (k + 1))).toList == (bs s).toList) = false := by rw [bs_beq]; simpa using he
        have He := Lib.hid he
        clear he
        go_wp2_with fail
        go_round
        case rel =>
          refine ⟨k + 1, by omega, by go_num, fun j h1 hj => ?_⟩
          by_cases e : j = k + 1
          · subst e; exact He.out
          · exact Hno.out j h1 (by omega)
        case measure => simp [intOf]; omega
    · obtain rfl : k = 17 := by omega
      have Hr := Lib.hid (kindOf_none s (fun j h1 h2 => Hno.out j h1 (by omega)))
      go_wp2_with fail
      go_ret
      exact ⟨by rw [Hr.out]; rfl, (Below.refl _ _).alloc (Nat.le_refl _) _⟩

theorem msg_rfields_any (k : Int) (w : World) : Calls Try.prog 56 #[.int .i64 k] w fun r w' => r = .returned (.string (bs (fieldsK k))) ∧ w = w' := by
  by_cases h : 1 ≤ k ∧ k ≤ 17
  · have hk : k = 1 ∨ k = 2 ∨ k = 3 ∨ k = 4 ∨ k = 5 ∨ k = 6 ∨ k = 7 ∨ k = 8 ∨ k = 9 ∨ k = 10 ∨ k = 11 ∨ k = 12 ∨ k = 13 ∨ k = 14 ∨ k = 15 ∨ k = 16 ∨ k = 17 := by omega
    rcases hk with rfl | rfl | rfl | rfl | rfl | rfl | rfl | rfl | rfl | rfl | rfl | rfl | rfl | rfl | rfl | rfl | rfl
    all_goals
      clear h
      go_enter Try.func56, Try.ntmps56
      go_wp2
      go_ret
      exact ⟨rfl, rfl⟩
  · have hr := Lib.hid (fieldsK_no k h)
    by_cases h1 : k < 1
    · clear h
      go_enter Try.func56, Try.ntmps56
      go_wp2
      go_ret
      exact ⟨by rw [hr.out]; rfl, rfl⟩
    · have h2 : 17 < k := by omega
      clear h h1
      go_enter Try.func56, Try.ntmps56
      go_wp2
      go_ret
      exact ⟨by rw [hr.out]; rfl, rfl⟩

/-- The row of the kinds that change nothing. -/
def askArr : Array Value := #[.int .i64 6, .int .i64 14, .int .i64 15, .int .i64 17]
def askAt (j : Nat) : Int := if j = 0 then 6 else if j = 1 then 14 else if j = 2 then 15 else 17
theorem askArr_at : ∀ j, j < 4 → askArr[j]? = some (.int .i64 (askAt j)) := by
  intro j hj
  match j, hj with
  | 0, _ => rfl
  | 1, _ => rfl
  | 2, _ => rfl
  | 3, _ => rfl
  | _ + 4, h => exact absurd h (by omega)

theorem msg_contains_any (k : Int) (fb : Nat) (w : World) (hf : Blk w fb askArr 3) :
    Calls Try.prog 83 #[.slice (some ⟨fb, 0, none⟩) 4 4, .int .i64 k] w fun r w' => r = .returned (.bool (asks k)) ∧ w = w' := by
  have hidx : ∀ w', w = w' → Calls Try.prog 85 #[.slice (some ⟨fb, 0, none⟩) 4 4, .int .i64 k] w' fun r w'' => (∃ x : Int, r = .returned (.int .i64 x) ∧ (0 ≤ x ↔ asks k = true) ∧ -1 ≤ x ∧ x < 4) ∧ w' = w'' := by
    rintro w' rfl
    go_enter Try.func85, Try.ntmps85
    go_wp2_with fail
    go_loop [5, 8] (fun _ i => ∃ j : Nat, j ≤ 4 ∧ i = .int .i64 j ∧ (∀ q, q < j → askAt q ≠ k)) (fun _ i => 4 - (intOf i).toNat)
    case atStart => exact ⟨0, by omega, rfl, fun q hq => by omega⟩
    case round =>
      obtain ⟨j, hj, rfl, hno⟩ := hrel
      have Hno := Lib.hid hno
      clear hno
      by_cases hlt : j < 4
      · have hc := (hf.cell j).trans (askArr_at j hlt)
        by_cases he : k = askAt j
        · have heq : (k == askAt j) = true := by simpa using he
          have ha : asks k = true := by
            rw [asks, decide_eq_true_iff, he]
            unfold askAt
            repeat' split
            all_goals omega
          have Ha := Lib.hid ha
          clear he ha
          go_wp2_with fail
          go_ret
          exact ⟨⟨j, rfl, ⟨fun _ => Ha.out, fun _ => by omega⟩, by omega, by omega⟩, rfl⟩
        · have heq : (k == askAt j) = false := by simpa using he
          have He := Lib.hid he
          clear he
          go_wp2_with fail
          go_round
          case rel =>
            refine ⟨j + 1, by omega, by go_num, fun q hq => ?_⟩
            by_cases e : q = j
            · subst e; exact fun h => He.out h.symm
            · exact Hno.out q (by omega)
          case measure => simp [intOf]; omega
      · obtain rfl : j = 4 := by omega
        have ha : asks k = false := by
          rw [asks, decide_eq_false_iff_not]
          have h0 := Hno.out 0 (by omega)
          have h1 := Hno.out 1 (by omega)
          have h2 := Hno.out 2 (by omega)
          have h3 := Hno.out 3 (by omega)
          simp [askAt] at h0 h1 h2 h3
          omega
        have Ha := Lib.hid ha
        clear ha
        go_wp2_with fail
        go_ret
        exact ⟨⟨-1, rfl, ⟨fun h => by omega, fun h => by rw [Ha.out] at h; cases h⟩, by omega, by omega⟩, rfl⟩
  have Hidx := Lib.hid hidx
  clear hidx
  go_enter Try.func83, Try.ntmps83
  go_wp2_with fail
  refine (Hidx.out _ rfl).mono ?_
  rintro r w1 ⟨⟨x, rfl, hx, hx0, hx1⟩, rfl⟩
  have Hx := Lib.hid hx
  clear hx
  go_wp2_with fail
  go_ret
  refine ⟨ret_truth ?_, rfl⟩
  cases ha : asks k
  · exact decide_eq_false (fun h => by rw [Hx.out] at h; rw [ha] at h; cases h)
  · exact decide_eq_true (Hx.out.2 ha)

theorem msg_asks_any (k : Int) (w : World) : Calls Try.prog 60 #[.int .i64 k] w fun r w' => r = .returned (.bool (asks k)) ∧ Below w.heap.size w w' := by
  have hf := Lib.hid (Blk.new w askArr 3)
  go_enter Try.func60, Try.ntmps60
  go_wp2_with (go_at_call 83; refine (msg_contains_any k _ _ hf.out).mono ?_; rintro r w' ⟨rfl, rfl⟩)
  go_ret
  exact ⟨rfl, (Below.refl _ _).alloc (Nat.le_refl _) _⟩

theorem msg_rasks_any (k : Int) (w : World) : Calls Try.prog 61 #[.int .i64 k] w fun r w' => r = .returned (.bool (asks k)) ∧ w = w' := by
  by_cases h : k = 6 ∨ k = 14 ∨ k = 15 ∨ k = 17
  · rcases h with rfl | rfl | rfl | rfl
    all_goals
      go_enter Try.func61, Try.ntmps61
      go_wp2
      go_ret
      exact ⟨rfl, rfl⟩
  · have hr := Lib.hid (show asks k = false from decide_eq_false h)
    have h1 : (k == 6) = false := by simp; omega
    have h2 : (k == 14) = false := by simp; omega
    have h3 : (k == 15) = false := by simp; omega
    have h4 : (k == 17) = false := by simp; omega
    clear h
    go_enter Try.func61, Try.ntmps61
    go_wp2
    go_ret
    exact ⟨by rw [hr.out]; rfl, rfl⟩
end Go.Proofs.Ytgnbgjllogjecaa
