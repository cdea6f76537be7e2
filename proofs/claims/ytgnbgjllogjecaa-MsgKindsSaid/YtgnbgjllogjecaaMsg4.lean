/- The walks of msg.text and msg.number (layer 19): the place of a letter's field in a request. -/
import Derived.Test.YtgnbgjllogjecaaMsg3
namespace Go.Proofs.Ytgnbgjllogjecaa
open Go.RowKit

theorem msg_text_any (b : Nat) (c : Int) (w : World) : Calls Try.prog 72 #[.pointer (some ⟨b, 0, none⟩), .int .i32 c] w fun r w' => r = .returned (ptrAt b (textIdx c)) ∧ w = w' := by
  by_cases h1 : c = 116
  · subst h1
    go_enter Try.func72, Try.ntmps72
    go_wp2
    go_ret
    exact ⟨rfl, rfl⟩
  by_cases h2 : c = 105
  · subst h2
    go_enter Try.func72, Try.ntmps72
    go_wp2
    go_ret
    exact ⟨rfl, rfl⟩
  by_cases h3 : c = 110
  · subst h3
    go_enter Try.func72, Try.ntmps72
    go_wp2
    go_ret
    exact ⟨rfl, rfl⟩
  by_cases h4 : c = 107
  · subst h4
    go_enter Try.func72, Try.ntmps72
    go_wp2
    go_ret
    exact ⟨rfl, rfl⟩
  by_cases h5 : c = 99
  · subst h5
    go_enter Try.func72, Try.ntmps72
    go_wp2
    go_ret
    exact ⟨rfl, rfl⟩
  by_cases h6 : c = 112
  · subst h6
    go_enter Try.func72, Try.ntmps72
    go_wp2
    go_ret
    exact ⟨rfl, rfl⟩
  have hr := Lib.hid (show textIdx c = none by simp [textIdx, h1, h2, h3, h4, h5, h6])
  have g1 : (c == 116) = false := by simpa using h1
  have g2 : (c == 105) = false := by simpa using h2
  have g3 : (c == 110) = false := by simpa using h3
  have g4 : (c == 107) = false := by simpa using h4
  have g5 : (c == 99) = false := by simpa using h5
  have g6 : (c == 112) = false := by simpa using h6
  clear h1 h2 h3 h4 h5 h6
  go_enter Try.func72, Try.ntmps72
  go_wp2
  go_ret
  exact ⟨by rw [hr.out]; rfl, rfl⟩

theorem msg_number_any (b : Nat) (c : Int) (w : World) : Calls Try.prog 73 #[.pointer (some ⟨b, 0, none⟩), .int .i32 c] w fun r w' => r = .returned (ptrAt b (numIdx c)) ∧ w = w' := by
  by_cases h7 : c = 111
  · subst h7
    go_enter Try.func73, Try.ntmps73
    go_wp2
    go_ret
    exact ⟨rfl, rfl⟩
  by_cases h8 : c = 101
  · subst h8
    go_enter Try.func73, Try.ntmps73
    go_wp2
    go_ret
    exact ⟨rfl, rfl⟩
  by_cases h9 : c = 119
  · subst h9
    go_enter Try.func73, Try.ntmps73
    go_wp2
    go_ret
    exact ⟨rfl, rfl⟩
  by_cases h10 : c = 120
  · subst h10
    go_enter Try.func73, Try.ntmps73
    go_wp2
    go_ret
    exact ⟨rfl, rfl⟩
  by_cases h11 : c = 108
  · subst h11
    go_enter Try.func73, Try.ntmps73
    go_wp2
    go_ret
    exact ⟨rfl, rfl⟩
  by_cases h12 : c = 114
  · subst h12
    go_enter Try.func73, Try.ntmps73
    go_wp2
    go_ret
    exact ⟨rfl, rfl⟩
  by_cases h13 : c = 100
  · subst h13
    go_enter Try.func73, Try.ntmps73
    go_wp2
    go_ret
    exact ⟨rfl, rfl⟩
  by_cases h14 : c = 102
  · subst h14
    go_enter Try.func73, Try.ntmps73
    go_wp2
    go_ret
    exact ⟨rfl, rfl⟩
  by_cases h15 : c = 109
  · subst h15
    go_enter Try.func73, Try.ntmps73
    go_wp2
    go_ret
    exact ⟨rfl, rfl⟩
  have hr := Lib.hid (show numIdx c = none by simp [numIdx, h7, h8, h9, h10, h11, h12, h13, h14, h15])
  have g7 : (c == 111) = false := by simpa using h7
  have g8 : (c == 101) = false := by simpa using h8
  have g9 : (c == 119) = false := by simpa using h9
  have g10 : (c == 120) = false := by simpa using h10
  have g11 : (c == 108) = false := by simpa using h11
  have g12 : (c == 114) = false := by simpa using h12
  have g13 : (c == 100) = false := by simpa using h13
  have g14 : (c == 102) = false := by simpa using h14
  have g15 : (c == 109) = false := by simpa using h15
  clear h7 h8 h9 h10 h11 h12 h13 h14 h15
  go_enter Try.func73, Try.ntmps73
  go_wp2
  go_ret
  exact ⟨by rw [hr.out]; rfl, rfl⟩

end Go.Proofs.Ytgnbgjllogjecaa
