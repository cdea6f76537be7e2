/- The walks of the octet laws' own helpers. -/
import Derived.Test.YtgnbgjllogjecaaOctetText
namespace Go.Proofs.Ytgnbgjllogjecaa
open Go.RowKit

theorem num01_any (e : Int) (w : World) : Calls Try.prog 22 #[.int .i64 e] w fun r w' => r = .returned (.int .i64 e) ∧ w = w' := by
  go_enter Try.func22, Try.ntmps22
  go_wp2
  go_ret
  exact ⟨rfl, rfl⟩
theorem oct_live (w : World) :
    Calls Try.prog 18 #[] w fun e w' => e = .returned (.bool true) ∧ Below w.heap.size w w' := by
  have hc : ∀ w, Calls Try.prog 21 #[.int .u64 300] w fun e w' => e = .returned (.string ⟨#[172, 2]⟩) ∧ Below w.heap.size w w' := fun w => by
    have := chain_any 300 w (by unfold U64; omega)
    rw [chain_big 300 (by omega), chain_small _ (by omega)] at this
    exact this
  have hu : ∀ w, Calls Try.prog 24 #[.string ⟨#[2, 97, 98, 99]⟩, .int .i64 9] w fun e w' => e = .returned (.tuple #[.string ⟨#[97, 98]⟩, .int .i64 3, .int .i64 0]) ∧ w = w' := fun w =>
    untext_any ⟨#[2, 97, 98, 99]⟩ 9 w (by decide) (by omega) (by omega)
  have Hc := Lib.hid hc
  have Hu := Lib.hid hu
  clear hc hu
  go_enter Try.func18, Try.ntmps18
  go_wp2_with fail
  refine (Hu.out _).mono ?_
  rintro e w' ⟨rfl, rfl⟩
  go_wp2_with fail
  refine (Hc.out _).mono ?_
  rintro e w' ⟨rfl, hb⟩
  go_wp2_with (go_at_call 22; refine (num01_any 0 _).mono ?_; rintro e w' ⟨rfl, rfl⟩)
  go_ret
  exact ⟨rfl, hb⟩
end Go.Proofs.Ytgnbgjllogjecaa
