/- The law MsgKinds: whatever the kind and the word, the program's tables of fields and words, its kinds of words and which ones change nothing are the document's; the call returns true and leaves its arguments as they were. -/
import Derived.Test.YtgnbgjllogjecaaMsgLive
import Derived.Test.YtgnbgjllogjecaaLaw
namespace Go.Proofs.Ytgnbgjllogjecaa
open Go.ChangeShapes Go.WideShapes Go.ChangeAt Go.RowKit
open Go.ChangeMaps (open_string shut_string)
open Go.BigFrame

set_option maxRecDepth 100000 in
set_option maxHeartbeats 1000000 in
theorem msgKinds_all (k : Int) (s : List UInt8) (w : World) (hk0 : -9223372036854775808 ≤ k) (hk1 : k ≤ 9223372036854775807) :
    Calls Try.prog 12 #[.int .i64 k, .string (bs s)] w fun e w' => e = .returned (.bool true) ∧ Below w.heap.size w w' := by
  have hrw := Lib.hid (fun w => msg_rword_any k w hk0 hk1)
  have hb : Below w.heap.size w w := Below.refl _ _
  have hkk : ((kindOf s : Int) > 0) = ((0 : Int) < (kindOf s : Int)) := rfl
  go_enter Try.func12, Try.ntmps12
  go_wp2_with (first
    | (go_at_call 54; refine (msg_kind_any s _).mono ?_; rintro r w' ⟨rfl, hb'⟩; replace hb := bel_trans hb hb'; clear hb')
    | (go_at_call 55; refine (msg_fields_any _ _).mono ?_; rintro r w' ⟨rfl, hb'⟩; replace hb := bel_trans hb hb'; clear hb')
    | (go_at_call 56; refine (msg_rfields_any _ _).mono ?_; rintro r w' ⟨rfl, rfl⟩)
    | (go_at_call 57; refine (msg_word_any _ _).mono ?_; rintro r w' ⟨rfl, hb'⟩; replace hb := bel_trans hb hb'; clear hb')
    | (go_at_call 58; refine (hrw.out _).mono ?_; rintro r w' ⟨rfl, hb'⟩; replace hb := bel_trans hb hb'; clear hb')
    | (go_at_call 59; refine (msg_rkind_any s _).mono ?_; rintro r w' ⟨rfl, hb'⟩; replace hb := bel_trans hb hb'; clear hb')
    | (go_at_call 60; refine (msg_asks_any _ _).mono ?_; rintro r w' ⟨rfl, hb'⟩; replace hb := bel_trans hb hb'; clear hb')
    | (go_at_call 61; refine (msg_rasks_any _ _).mono ?_; rintro r w' ⟨rfl, rfl⟩)
    | (go_at_call 53; refine (msg_live _).mono ?_; rintro r w' ⟨rfl, hb'⟩; replace hb := bel_trans hb hb'; clear hb'))
  go_ret
  exact ⟨rfl, hb⟩

set_option maxRecDepth 100000 in
theorem msgKinds_walk : LawWalk 12 Try.f12 := by
  intro H enc W base args ds p hval hA
  rw [Try.params12] at hA hval
  obtain ⟨v0, v1, d0, d1, p0, p1, rfl, rfl, rfl, h0, h1⟩ := trodAll_two hA
  obtain ⟨k, rfl, rfl, rfl, wk⟩ := open_int Try.underlying3 (hval 0 3 v0 rfl rfl) h0
  obtain ⟨s, rfl, rfl, rfl, hs⟩ := open_string Try.underlying9 (hval 1 9 v1 rfl rfl) h1
  have hk := bounds_i64 wk
  exact msgKinds_all k s.data.toList W (by omega) (by omega)

theorem msgKinds_holds : Rows.MsgKindsSaid :=
  OpenClaim.holds_of_wide 12 Try.f12 rfl rfl rfl rfl rfl rfl rfl ⟨rfl, rfl, rfl, rfl, rfl⟩ rfl rfl rfl rfl rfl (by kernel_rfl) Try.func12 (by kernel_rfl)
    (of_decide_eq_true (by kernel_rfl)) (by unfold Func.isWrapper; rw [if_neg (by decide +kernel)]; exact ⟨rfl, rfl⟩)
    (fun os started H enc _ => law_lifted (s := Rows.msgKindsSpec) os started H enc Try.func12 (by kernel_rfl)
      (ChangeSpec.witness6 (enc := enc) (C := Try.checked) false ⟨#[], #[.int .i64 0, .string ByteArray.empty], []⟩ 8 (by kernel_rfl) (by kernel_rfl) (by kernel_rfl) (by kernel_rfl))
      rfl (by kernel_rfl) (by kernel_rfl) (by decide +kernel) (fun ds h => by match ds, h with | [_, _], _ => rfl) msgKinds_walk)
#print axioms msgKinds_holds

end Go.Proofs.Ytgnbgjllogjecaa
