/- The walk of the msg laws' own helper 'live'. -/
import Derived.Test.YtgnbgjllogjecaaMsg5
import Derived.Laws.StructEq
namespace Go.Proofs.Ytgnbgjllogjecaa
open Go.RowKit

def liveQ : Rq := ⟨8, fun j => if j = 3 then [97] else [], fun j => if j = 7 then 3 else 0, false⟩
def liveO : Rq := ⟨8, fun j => if j = 3 then [97] else [], fun _ => 0, false⟩
theorem live_clean : rqCells (rqClean liveQ) = rqCells liveO := by
  have h1 : fieldsK liveQ.kind = [110] := by decide
  have h2 : rqClean liveQ = (rqTake liveQ (rqBare 8) 110) := by rw [rqClean, h1]; rfl
  rw [h2, rqTake_text _ _ _ 3 (by decide)]
  rfl

set_option maxRecDepth 100000 in
set_option maxHeartbeats 1000000 in
theorem msg_live (w : World) : Calls Try.prog 53 #[] w fun r w' => r = .returned (.bool true) ∧ Below w.heap.size w w' := by
  have hc : ∀ w, Calls Try.prog 49 #[.agg #[.int .i64 8, .string ⟨#[]⟩, .string ⟨#[]⟩, .string ⟨#[97]⟩, .string ⟨#[]⟩, .string ⟨#[]⟩, .string ⟨#[]⟩, .int .i64 3, .int .i64 0, .int .i64 0, .int .i64 0, .int .i64 0, .int .i64 0, .int .i64 0, .int .i64 0, .int .i64 0, .bool false]] w fun r w' =>
      r = .returned (.agg #[.int .i64 8, .string ⟨#[]⟩, .string ⟨#[]⟩, .string ⟨#[97]⟩, .string ⟨#[]⟩, .string ⟨#[]⟩, .string ⟨#[]⟩, .int .i64 0, .int .i64 0, .int .i64 0, .int .i64 0, .int .i64 0, .int .i64 0, .int .i64 0, .int .i64 0, .int .i64 0, .bool false]) ∧ Below w.heap.size w w' := fun w => by
    have := msg_clean_any liveQ w
    rw [live_clean] at this
    exact this
  have hw : ∀ w, Calls Try.prog 57 #[.int .i64 10] w fun r w' => r = .returned (.string ⟨#[114, 101, 112, 111, 114, 116]⟩) ∧ Below w.heap.size w w' := fun w => by
    have := msg_word_any 10 w
    exact this
  have Hc := Lib.hid hc
  have Hw := Lib.hid hw
  clear hc hw
  go_enter Try.func53, Try.ntmps53
  go_wp2_with fail
  refine (Hc.out _).mono ?_
  rintro e w1 ⟨rfl, hb⟩
  go_wp2_with fail
  refine (Hw.out _).mono ?_
  rintro e w2 ⟨rfl, hb'⟩
  replace hb := bel_trans hb hb'
  go_wp2_with fail
  go_ret
  exact ⟨rfl, hb⟩
end Go.Proofs.Ytgnbgjllogjecaa
