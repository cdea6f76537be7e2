/- The walks of msg.Kind and of the closure that it hands to slices.IndexFunc (layer 19). -/
import Derived.Test.YtgnbgjllogjecaaMsg1
namespace Go.Proofs.Ytgnbgjllogjecaa
open Go.RowKit

theorem msg_lit_any (a f word : List UInt8) (wb : Nat) (w : World) (h : w.cell? ⟨wb, 0, none⟩ = some (.string (bs word))) (hlt : wb < w.heap.size) :
    Calls Try.prog 80 #[.agg #[.string (bs a), .string (bs f)], .pointer (some ⟨wb, 0, none⟩)] w fun r w' => r = .returned (.bool (a == word)) ∧ Below w.heap.size w w' := by
  have hne : wb ≠ w.heap.size := by omega
  by_cases he : a = word
  · subst he
    go_enter Try.func80, Try.ntmps80
    go_wp2
    go_ret
    exact ⟨by simp, (Below.refl _ _).alloc (Nat.le_refl _) _⟩
  · have hf : ((bs a).toList == (bs word).toList) = false := by rw [bs_beq]; simpa using he
    have hr := Lib.hid (show (a == word) = false by simpa using he)
    clear he
    go_enter Try.func80, Try.ntmps80
    go_wp2
    go_ret
    exact ⟨by rw [hr.out]; rfl, (Below.refl _ _).alloc (Nat.le_refl _) _⟩

/-- What IndexFunc answers of the table. -/
def FirstAt (s : List UInt8) (r : Int) : Prop := (∃ i : Nat, i < 18 ∧ wordOf i = s ∧ (∀ j, j < i → wordOf j ≠ s) ∧ r = (i : Int)) ∨ ((∀ j, j < 18 → wordOf j ≠ s) ∧ r = -1)
def FirstSaid (s : List UInt8) (W : World) (e : Ending) (w' : World) : Prop := ∃ r : Int, FirstAt s r ∧ e = .returned (.int .i64 r) ∧ Below W.heap.size W w'

set_option maxRecDepth 100000 in
set_option maxHeartbeats 1000000 in
theorem msg_index_any (s : List UInt8) (fb wb : Nat) (w : World) (hf : Blk w fb formArr 114) (hw : Blk w wb #[.string (bs s)] 9) :
    Calls Try.prog 78 #[.slice (some ⟨fb, 0, none⟩) 18 18, .func (.func 80) #[] #[.pointer (some ⟨wb, 0, none⟩)]] w (FirstSaid s w) := by
  have hfl := hf.lt
  have hwl := hw.lt
  go_enter Try.func78, Try.ntmps78
  go_wp2_with fail
  go_loopw [5, 8] (fun _ i wr => ∃ k : Nat, k ≤ 18 ∧ i = .int .i64 k ∧ (∀ j, j < k → wordOf j ≠ s) ∧ Below w.heap.size w wr) (fun _ i _ => 18 - (intOf i).toNat)
  case atStart => exact ⟨0, by omega, rfl, fun j hj => by omega, Below.refl _ _⟩
  case round =>
    obtain ⟨k, hk, rfl, hno, hb⟩ := hrel
    have Hno := Lib.hid hno
    clear hno
    have hsz := hb.size
    by_cases hlt : k < 18
    · have hf2 := hf.below hb hfl
      have hw2 := hw.below hb hwl
      obtain ⟨ha, hb'⟩ := formArr_at k hlt
      have hc0 := (hf2.cell (k * 2)).trans ha
      have hc1 := (hf2.cell (k * 2 + 1)).trans hb'
      have hwc : wr.cell? ⟨wb, 0, none⟩ = some (.string (bs s)) := hw2.cell 0
      have Hwc := Lib.hid hwc
      clear ha hb' hwc
      by_cases he : wordOf k = s
      · have heq : (wordOf k == s) = true := by simpa using he
        have He := Lib.hid he
        clear he
        go_wp2_with (go_at_call 80; refine (msg_lit_any _ _ s wb _ Hwc.out (by omega)).mono ?_; rintro r w' ⟨rfl, hb3⟩)
        go_ret
        exact ⟨k, .inl ⟨k, hlt, He.out, Hno.out, rfl⟩, rfl, hb.trans (hb3.mono hsz)⟩
      · have heq : (wordOf k == s) = false := by simpa using he
        have He := Lib.hid he
        clear he
        go_wp2_with (go_at_call 80; refine (msg_lit_any _ _ s wb _ Hwc.out (by omega)).mono ?_; rintro r w' ⟨rfl, hb3⟩)
        go_roundw
        case rel =>
          refine ⟨k + 1, by omega, by go_num, fun j hj => ?_, hb.trans (hb3.mono hsz)⟩
          by_cases e : j = k
          · subst e; exact He.out
          · exact Hno.out j (by omega)
        case measure => simp [intOf]; omega
    · obtain rfl : k = 18 := by omega
      go_wp2_with fail
      go_ret
      exact ⟨-1, .inr ⟨Hno.out, rfl⟩, rfl, hb⟩

theorem msg_kind_any (s : List UInt8) (w : World) : Calls Try.prog 54 #[.string (bs s)] w fun r w' => r = .returned (.tuple #[.int .i64 (kindOf s : Int), .bool (decide (0 < kindOf s))]) ∧ Below w.heap.size w w' := by
  have hw : Blk ((w.alloc (.cells #[.string (bs s)] 9)).alloc (.cells formArr 114)) w.heap.size #[.string (bs s)] 9 := Blk.alloc (Blk.new _ _ _) _
  have hf : Blk ((w.alloc (.cells #[.string (bs s)] 9)).alloc (.cells formArr 114)) (w.heap.size + 1) formArr 114 := by
    have := Blk.new (w.alloc (.cells #[.string (bs s)] 9)) formArr 114
    rw [World.size_alloc] at this
    exact this
  go_enter Try.func54, Try.ntmps54
  go_wp2_with (go_at_call 79; refine (msg_forms_any _).mono ?_; rintro r w' ⟨rfl, rfl⟩)
  refine (msg_index_any s _ _ _ hf hw).mono ?_
  rintro e w1 ⟨r, hr, rfl, hb1⟩
  have hb2 : Below w.heap.size w w1 := (((Below.refl _ _).alloc (Nat.le_refl _) _).alloc (by simp) _).trans (hb1.mono (by simp; omega))
  have Hr := Lib.hid hr
  clear hr hb1 hw hf
  by_cases h1 : r < 1
  · have hk : kindOf s = 0 := by
      rcases Hr.out with ⟨i, hi, he, _, rfl⟩ | ⟨hno, _⟩
      · obtain rfl : i = 0 := by omega
        refine kindOf_none s fun j hj1 hj2 hj => ?_
        rw [← hj] at he
        have : ∀ j, j < 18 → 1 ≤ j → wordOf 0 ≠ wordOf j := by decide
        exact this j (by omega) hj1 he
      · exact kindOf_none s fun j _ hj2 => hno j (by omega)
    have Hk := Lib.hid hk
    clear hk
    go_wp2_with fail
    go_ret2
    exact ⟨by rw [Hk.out]; rfl, hb2⟩
  · have hk : (kindOf s : Int) = r ∧ 0 < kindOf s := by
      rcases Hr.out with ⟨i, hi, he, hno, rfl⟩ | ⟨_, rfl⟩
      · have := kindOf_is s i (by omega) (by omega) he (fun j _ hj => hno j hj)
        omega
      · omega
    have Hk := Lib.hid hk
    clear hk
    go_wp2_with fail
    go_ret2
    exact ⟨by rw [Hk.out.1, decide_eq_true Hk.out.2]; rfl, hb2⟩
end Go.Proofs.Ytgnbgjllogjecaa
