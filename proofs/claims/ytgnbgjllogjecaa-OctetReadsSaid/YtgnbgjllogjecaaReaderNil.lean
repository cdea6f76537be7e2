/- The walks of the program's Reader where there is none. -/
import Derived.Test.YtgnbgjllogjecaaReader
namespace Go.Proofs.Ytgnbgjllogjecaa
open Go.RowKit

theorem rd_num_nil (w : World) :
    Calls Try.prog 38 #[.pointer none] w fun r w' => r = .returned (.int .u64 0) ∧ w = w' := by
  go_enter Try.func38, Try.ntmps38
  go_wp2_with (go_at_call 67; refine (rd_ok_nil _).mono ?_; rintro r w' ⟨rfl, rfl⟩)
  go_ret
  exact ⟨rfl, rfl⟩

theorem rd_int_nil (m : Int) (w : World) :
    Calls Try.prog 39 #[.pointer none, .int .i64 m] w fun r w' => r = .returned (.int .i64 0) ∧ w = w' := by
  go_enter Try.func39, Try.ntmps39
  go_wp2_with (go_at_call 67; refine (rd_ok_nil _).mono ?_; rintro r w' ⟨rfl, rfl⟩)
  go_ret
  exact ⟨rfl, rfl⟩

theorem rd_str_nil (m : Int) (w : World) :
    Calls Try.prog 40 #[.pointer none, .int .i64 m] w fun r w' => r = .returned (.string ⟨#[]⟩) ∧ w = w' := by
  go_enter Try.func40, Try.ntmps40
  go_wp2_with (go_at_call 67; refine (rd_ok_nil _).mono ?_; rintro r w' ⟨rfl, rfl⟩)
  go_ret
  exact ⟨rfl, rfl⟩

theorem rd_flag_nil (w : World) :
    Calls Try.prog 41 #[.pointer none] w fun r w' => r = .returned (.bool false) ∧ w = w' := by
  go_enter Try.func41, Try.ntmps41
  go_wp2_with (go_at_call 67; refine (rd_ok_nil _).mono ?_; rintro r w' ⟨rfl, rfl⟩)
  go_ret
  exact ⟨rfl, rfl⟩

theorem rd_err_nil (w : World) :
    Calls Try.prog 34 #[.pointer none] w fun r w' => r = .returned (.int .i64 1) ∧ w = w' := by
  go_enter Try.func34, Try.ntmps34
  go_wp2_with fail
  go_ret
  exact ⟨rfl, rfl⟩

theorem rd_rest_nil (w : World) :
    Calls Try.prog 35 #[.pointer none] w fun r w' => r = .returned (.string ⟨#[]⟩) ∧ w = w' := by
  go_enter Try.func35, Try.ntmps35
  go_wp2_with fail
  go_ret
  exact ⟨rfl, rfl⟩

theorem rd_end_nil (w : World) :
    Calls Try.prog 36 #[.pointer none] w fun r w' => r = .returned (.int .i64 1) ∧ w = w' := by
  go_enter Try.func36, Try.ntmps36
  go_wp2_with (go_at_call 34; refine (rd_err_nil _).mono ?_; rintro r w' ⟨rfl, rfl⟩)
  go_ret
  exact ⟨rfl, rfl⟩

end Go.Proofs.Ytgnbgjllogjecaa
