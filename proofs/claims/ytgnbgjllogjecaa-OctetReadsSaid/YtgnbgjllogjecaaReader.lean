/- The walks of the program's Reader (layer 1): what each read returns and leaves. -/
import Derived.Test.YtgnbgjllogjecaaOctetText
import Derived.Test.YtgnbgjllogjecaaReaderPlain
namespace Go.Proofs.Ytgnbgjllogjecaa
open Go.RowKit

/-- A reader in memory: what is left, the error's number. -/
def RdAt (w : World) (b : Nat) (l : List UInt8) (e : Nat) : Prop := Blk w b #[.string (bs l), .int .i64 (e : Int)] 95

theorem RdAt.same {w : World} {b : Nat} {l : List UInt8} {e : Nat} (h : RdAt w b l e) : RdAt w b l e ∧ w.grownBy w (some b) := ⟨h, grown_refl _ _⟩

theorem rd_ok_any (w : World) (b : Nat) (l : List UInt8) (e : Nat) (h : RdAt w b l e) :
    Calls Try.prog 67 #[.pointer (some ⟨b, 0, none⟩)] w fun r w' => r = .returned (.bool ((e : Int) == 0)) ∧ w = w' := by
  have hc := Blk.cell h
  go_enter Try.func67, Try.ntmps67
  go_wp2
  go_ret
  exact ⟨rfl, rfl⟩
theorem rd_ok_nil (w : World) :
    Calls Try.prog 67 #[.pointer none] w fun r w' => r = .returned (.bool false) ∧ w = w' := by
  go_enter Try.func67, Try.ntmps67
  go_wp2
  go_ret
  exact ⟨rfl, rfl⟩

theorem rd_took_bad (w : World) (b : Nat) (l : List UInt8) (e e' : Nat) (n : Int) (h : RdAt w b l e) (he : e' ≠ 0) :
    Calls Try.prog 68 #[.pointer (some ⟨b, 0, none⟩), .int .i64 n, .int .i64 (e' : Int)] w fun r w' => r = .returned (.bool false) ∧ RdAt w' b l e' ∧ w.grownBy w' (some b) := by
  have hc := Blk.cell h
  have hf := Blk.free h
  have hset := Lib.hid (Blk.set h 1 (.int .i64 (e' : Int)))
  have hef : ((e' : Int) != 0) = true := by rw [bne_iff_ne]; omega
  clear he
  go_enter Try.func68, Try.ntmps68
  go_wp2
  go_ret
  exact ⟨rfl, hset.out, grown_set _ _ _ _⟩
theorem rd_took_ok (w : World) (b : Nat) (l : List UInt8) (e : Nat) (n : Nat) (h : RdAt w b l e) (hn : n ≤ l.length) (_hl : l.length ≤ 9223372036854775807) :
    Calls Try.prog 68 #[.pointer (some ⟨b, 0, none⟩), .int .i64 (n : Int), .int .i64 0] w fun r w' => r = .returned (.bool true) ∧ RdAt w' b (l.drop n) e ∧ w.grownBy w' (some b) := by
  have hc := Blk.cell h
  have hf := Blk.free h
  have hx : (bs l).extract n (bs l).size = bs (l.drop n) := bs_eq (by rw [extract_list, bs_data, bs_size]; exact List.take_of_length_le (by simp))
  have hs : (bs l).size = l.length := bs_size l
  have hset := Lib.hid (Blk.set h 0 (.string (bs (l.drop n))))
  rw [hs] at hx
  go_enter Try.func68, Try.ntmps68
  go_wp2
  go_ret
  exact ⟨rfl, hset.out, grown_set _ _ _ _⟩

theorem rd_unchain (l : List UInt8) (w : World) (hl : l.length ≤ 9223372036854775807) :
    Calls Try.prog 19 #[.string (bs l)] w fun e w' => e = .returned (tri (unchain l)) ∧ w = w' :=
  unchain_any (bs l) w (by rw [bs_size]; exact hl)

set_option maxHeartbeats 400000 in
theorem rd_num_any (w : World) (b : Nat) (l : List UInt8) (e : Nat) (h : RdAt w b l e) (hl : l.length ≤ 140737488351232) :
    Calls Try.prog 38 #[.pointer (some ⟨b, 0, none⟩)] w fun r w' => r = .returned (.int .u64 ((rdNum l e).1 : Int)) ∧ RdAt w' b (rdNum l e).2.1 (rdNum l e).2.2 ∧ w.grownBy w' (some b) := by
  have hc := Blk.cell h
  by_cases he : e = 0
  · subst he
    obtain ⟨v, n, e', hu⟩ : ∃ v n e', unchain l = (v, n, e') := ⟨_, _, _, rfl⟩
    have hok := unchain_ok l
    rw [hu] at hok
    obtain ⟨hv, hok⟩ := hok
    simp only at hok
    have h19 : ∀ w, Calls Try.prog 19 #[.string (bs l)] w fun r w' => r = .returned (.tuple #[.int .u64 (v : Int), .int .i64 (n : Int), .int .i64 (e' : Int)]) ∧ w = w' := fun w => by
      have := rd_unchain l w (by omega)
      rw [hu] at this
      exact this
    have H19 := Lib.hid h19
    by_cases he' : e' = 0
    · subst he'
      have hr := Lib.hid (rdNum_ok l v n hu)
      have hn : n ≤ l.length := by omega
      clear hok hu h19
      go_enter Try.func38, Try.ntmps38
      go_wp2_with (first
        | (go_at_call 67; refine (rd_ok_any _ b l 0 h).mono ?_; rintro r w' ⟨rfl, rfl⟩)
        | (go_at_call 19; refine (H19.out _).mono ?_; rintro r w' ⟨rfl, rfl⟩)
        | (go_at_call 68; refine (rd_took_ok _ b l 0 n h hn (by omega)).mono ?_; rintro r w' ⟨rfl, h', hg⟩))
      go_ret
      exact ⟨by rw [hr.out]; rfl, by rw [hr.out]; exact h', hg⟩
    · have hr := Lib.hid (rdNum_bad l v n e' hu he')
      clear hok hu h19
      go_enter Try.func38, Try.ntmps38
      go_wp2_with (first
        | (go_at_call 67; refine (rd_ok_any _ b l 0 h).mono ?_; rintro r w' ⟨rfl, rfl⟩)
        | (go_at_call 19; refine (H19.out _).mono ?_; rintro r w' ⟨rfl, rfl⟩)
        | (go_at_call 68; refine (rd_took_bad _ b l 0 e' n h he').mono ?_; rintro r w' ⟨rfl, h', hg⟩))
      go_ret
      exact ⟨by rw [hr.out]; rfl, by rw [hr.out]; exact h', hg⟩
  · have hef : ((e : Int) == 0) = false := by simp; omega
    have hr := Lib.hid (rdNum_err l e he)
    clear he
    go_enter Try.func38, Try.ntmps38
    go_wp2_with (go_at_call 67; refine (rd_ok_any _ b l e h).mono ?_; rintro r w' ⟨rfl, rfl⟩)
    go_ret
    exact ⟨by rw [hr.out]; rfl, by rw [hr.out]; exact h, grown_refl _ _⟩

set_option maxHeartbeats 400000 in
theorem rd_int_any (w : World) (b : Nat) (most : Int) (l : List UInt8) (e : Nat) (h : RdAt w b l e) (hl : l.length ≤ 140737488351232) (hm0 : -9223372036854775808 ≤ most) (hm1 : most ≤ 9223372036854775807) :
    Calls Try.prog 39 #[.pointer (some ⟨b, 0, none⟩), .int .i64 most] w fun r w' => r = .returned (.int .i64 ((rdInt most l e).1 : Int)) ∧ RdAt w' b (rdInt most l e).2.1 (rdInt most l e).2.2 ∧ w.grownBy w' (some b) := by
  have hc := Blk.cell h
  by_cases he : e = 0
  · subst he
    obtain ⟨v, n, e', hu⟩ : ∃ v n e', unchain l = (v, n, e') := ⟨_, _, _, rfl⟩
    have hok := unchain_ok l
    rw [hu] at hok
    obtain ⟨hv, hok⟩ := hok
    simp only at hok
    have h19 : ∀ w, Calls Try.prog 19 #[.string (bs l)] w fun r w' => r = .returned (.tuple #[.int .u64 (v : Int), .int .i64 (n : Int), .int .i64 (e' : Int)]) ∧ w = w' := fun w => by
      have := rd_unchain l w (by omega)
      rw [hu] at this
      exact this
    have H19 := Lib.hid h19
    by_cases he' : e' = 0
    · subst he'
      have hn : n ≤ l.length := by omega
      by_cases h1 : most < 0
      · have hr := Lib.hid (rdInt_long most l v n hu (.inl h1))
        clear hok hu h19
        go_enter Try.func39, Try.ntmps39
        go_wp2_with (first
          | (go_at_call 67; refine (rd_ok_any _ b l 0 h).mono ?_; rintro r w' ⟨rfl, rfl⟩)
          | (go_at_call 19; refine (H19.out _).mono ?_; rintro r w' ⟨rfl, rfl⟩)
          | (go_at_call 68; refine (rd_took_bad _ b l 0 4 n h (by omega)).mono ?_; rintro r w' ⟨rfl, h', hg⟩))
        go_ret
        exact ⟨by rw [hr.out]; rfl, by rw [hr.out]; exact h', hg⟩
      · have hw : IntKind.u64.wrap most = most := by rw [IntKind.wrap_u64]; omega
        by_cases h2 : most < (v : Int)
        · have hr := Lib.hid (rdInt_long most l v n hu (.inr h2))
          clear hok hu h19
          go_enter Try.func39, Try.ntmps39
          go_wp2_with (first
            | (go_at_call 67; refine (rd_ok_any _ b l 0 h).mono ?_; rintro r w' ⟨rfl, rfl⟩)
            | (go_at_call 19; refine (H19.out _).mono ?_; rintro r w' ⟨rfl, rfl⟩)
            | (go_at_call 68; refine (rd_took_bad _ b l 0 4 n h (by omega)).mono ?_; rintro r w' ⟨rfl, h', hg⟩))
          go_ret
          exact ⟨by rw [hr.out]; rfl, by rw [hr.out]; exact h', hg⟩
        · have hr := Lib.hid (rdInt_ok most l v n hu (by omega))
          clear hok hu h19
          go_enter Try.func39, Try.ntmps39
          go_wp2_with (first
            | (go_at_call 67; refine (rd_ok_any _ b l 0 h).mono ?_; rintro r w' ⟨rfl, rfl⟩)
            | (go_at_call 19; refine (H19.out _).mono ?_; rintro r w' ⟨rfl, rfl⟩)
            | (go_at_call 68; refine (rd_took_ok _ b l 0 n h hn (by omega)).mono ?_; rintro r w' ⟨rfl, h', hg⟩))
          go_ret
          exact ⟨by rw [hr.out]; rfl, by rw [hr.out]; exact h', hg⟩
    · have hr := Lib.hid (rdInt_bad most l v n e' hu he')
      have hef : ((e' : Int) == 0) = false := by simp; omega
      clear hok hu h19
      go_enter Try.func39, Try.ntmps39
      go_wp2_with (first
        | (go_at_call 67; refine (rd_ok_any _ b l 0 h).mono ?_; rintro r w' ⟨rfl, rfl⟩)
        | (go_at_call 19; refine (H19.out _).mono ?_; rintro r w' ⟨rfl, rfl⟩)
        | (go_at_call 68; refine (rd_took_bad _ b l 0 e' n h (by omega)).mono ?_; rintro r w' ⟨rfl, h', hg⟩))
      go_ret
      exact ⟨by rw [hr.out]; rfl, by rw [hr.out]; exact h', hg⟩
  · have hef : ((e : Int) == 0) = false := by simp; omega
    have hr := Lib.hid (rdInt_err most l e he)
    clear he
    go_enter Try.func39, Try.ntmps39
    go_wp2_with (go_at_call 67; refine (rd_ok_any _ b l e h).mono ?_; rintro r w' ⟨rfl, rfl⟩)
    go_ret
    exact ⟨by rw [hr.out]; rfl, by rw [hr.out]; exact h, grown_refl _ _⟩

set_option maxHeartbeats 400000 in
theorem rd_str_any (w : World) (b : Nat) (most : Int) (l : List UInt8) (e : Nat) (h : RdAt w b l e) (hl : l.length ≤ 140737488351232) (hm0 : -9223372036854775808 ≤ most) (hm1 : most ≤ 9223372036854775807) :
    Calls Try.prog 40 #[.pointer (some ⟨b, 0, none⟩), .int .i64 most] w fun r w' => r = .returned (.string (bs (rdStr most l e).1)) ∧ RdAt w' b (rdStr most l e).2.1 (rdStr most l e).2.2 ∧ w.grownBy w' (some b) := by
  have hc := Blk.cell h
  by_cases he : e = 0
  · subst he
    obtain ⟨s, n, e', hu⟩ : ∃ s n e', untext l most = (s, n, e') := ⟨_, _, _, rfl⟩
    have hok := untext_ok l most s n e' hu
    have h24 : ∀ w, Calls Try.prog 24 #[.string (bs l), .int .i64 most] w fun r w' => r = .returned (.tuple #[.string (bs s), .int .i64 (n : Int), .int .i64 (e' : Int)]) ∧ w = w' := fun w => by
      have := untext_any (bs l) most w (by rw [bs_size]; exact hl) hm0 hm1
      rw [bs_data, hu] at this
      exact this
    have H24 := Lib.hid h24
    by_cases he' : e' = 0
    · subst he'
      have hr := Lib.hid (rdStr_ok most l s n hu)
      have hn : n ≤ l.length := by omega
      clear hok hu h24
      go_enter Try.func40, Try.ntmps40
      go_wp2_with (first
        | (go_at_call 67; refine (rd_ok_any _ b l 0 h).mono ?_; rintro r w' ⟨rfl, rfl⟩)
        | (go_at_call 24; refine (H24.out _).mono ?_; rintro r w' ⟨rfl, rfl⟩)
        | (go_at_call 68; refine (rd_took_ok _ b l 0 n h hn (by omega)).mono ?_; rintro r w' ⟨rfl, h', hg⟩))
      go_ret
      exact ⟨by rw [hr.out]; rfl, by rw [hr.out]; exact h', hg⟩
    · have hr := Lib.hid (rdStr_bad most l s n e' hu he')
      obtain rfl : s = [] := by rcases hok with h | h; · exact absurd h.1 he'
                                exact h.1
      clear hok hu h24
      go_enter Try.func40, Try.ntmps40
      go_wp2_with (first
        | (go_at_call 67; refine (rd_ok_any _ b l 0 h).mono ?_; rintro r w' ⟨rfl, rfl⟩)
        | (go_at_call 24; refine (H24.out _).mono ?_; rintro r w' ⟨rfl, rfl⟩)
        | (go_at_call 68; refine (rd_took_bad _ b l 0 e' n h (by omega)).mono ?_; rintro r w' ⟨rfl, h', hg⟩))
      go_ret
      exact ⟨by rw [hr.out]; rfl, by rw [hr.out]; exact h', hg⟩
  · have hef : ((e : Int) == 0) = false := by simp; omega
    have hr := Lib.hid (rdStr_err most l e he)
    clear he
    go_enter Try.func40, Try.ntmps40
    go_wp2_with (go_at_call 67; refine (rd_ok_any _ b l e h).mono ?_; rintro r w' ⟨rfl, rfl⟩)
    go_ret
    exact ⟨by rw [hr.out]; rfl, by rw [hr.out]; exact h, grown_refl _ _⟩

set_option maxHeartbeats 400000 in
theorem rd_flag_any (w : World) (b : Nat) (l : List UInt8) (e : Nat) (h : RdAt w b l e) (hl : l.length ≤ 140737488351232) :
    Calls Try.prog 41 #[.pointer (some ⟨b, 0, none⟩)] w fun r w' => r = .returned (.bool (rdFlag l e).1) ∧ RdAt w' b (rdFlag l e).2.1 (rdFlag l e).2.2 ∧ w.grownBy w' (some b) := by
  have hc := Blk.cell h
  by_cases he : e = 0
  · subst he
    obtain ⟨v, n, e', hu⟩ : ∃ v n e', unchain l = (v, n, e') := ⟨_, _, _, rfl⟩
    have hok := unchain_ok l
    rw [hu] at hok
    obtain ⟨hv, hok⟩ := hok
    simp only at hok
    have h19 : ∀ w, Calls Try.prog 19 #[.string (bs l)] w fun r w' => r = .returned (.tuple #[.int .u64 (v : Int), .int .i64 (n : Int), .int .i64 (e' : Int)]) ∧ w = w' := fun w => by
      have := rd_unchain l w (by omega)
      rw [hu] at this
      exact this
    have H19 := Lib.hid h19
    by_cases he' : e' = 0
    · subst he'
      have hn : n ≤ l.length := by omega
      by_cases h1 : 1 < v
      · have hr := Lib.hid (rdFlag_long l v n hu h1)
        clear hok hu h19
        go_enter Try.func41, Try.ntmps41
        go_wp2_with (first
          | (go_at_call 67; refine (rd_ok_any _ b l 0 h).mono ?_; rintro r w' ⟨rfl, rfl⟩)
          | (go_at_call 19; refine (H19.out _).mono ?_; rintro r w' ⟨rfl, rfl⟩)
          | (go_at_call 68; refine (rd_took_bad _ b l 0 3 n h (by omega)).mono ?_; rintro r w' ⟨rfl, h', hg⟩))
        go_ret
        exact ⟨by rw [hr.out]; rfl, by rw [hr.out]; exact h', hg⟩
      · have hr := Lib.hid (rdFlag_ok l v n hu h1)
        by_cases hv1 : v = 1
        · have hv2 : ((v : Int) == 1) = true := by simp [hv1]
          have hv3 := Lib.hid hv1
          clear hok hu h19 hv1
          go_enter Try.func41, Try.ntmps41
          go_wp2_with (first
            | (go_at_call 67; refine (rd_ok_any _ b l 0 h).mono ?_; rintro r w' ⟨rfl, rfl⟩)
            | (go_at_call 19; refine (H19.out _).mono ?_; rintro r w' ⟨rfl, rfl⟩)
            | (go_at_call 68; refine (rd_took_ok _ b l 0 n h hn (by omega)).mono ?_; rintro r w' ⟨rfl, h', hg⟩))
          go_ret
          exact ⟨by rw [hr.out, hv3.out]; rfl, by rw [hr.out]; exact h', hg⟩
        · have hv2 : ((v : Int) == 1) = false := by simp; omega
          have hv3 : (v == 1) = false := by simp [hv1]
          have hv4 := Lib.hid hv3
          clear hok hu h19 hv3
          go_enter Try.func41, Try.ntmps41
          go_wp2_with (first
            | (go_at_call 67; refine (rd_ok_any _ b l 0 h).mono ?_; rintro r w' ⟨rfl, rfl⟩)
            | (go_at_call 19; refine (H19.out _).mono ?_; rintro r w' ⟨rfl, rfl⟩)
            | (go_at_call 68; refine (rd_took_ok _ b l 0 n h hn (by omega)).mono ?_; rintro r w' ⟨rfl, h', hg⟩))
          go_ret
          exact ⟨by rw [hr.out]; simp only [hv4.out]; rfl, by rw [hr.out]; exact h', hg⟩
    · have hr := Lib.hid (rdFlag_bad l v n e' hu he')
      have hef : ((e' : Int) == 0) = false := by simp; omega
      clear hok hu h19
      go_enter Try.func41, Try.ntmps41
      go_wp2_with (first
        | (go_at_call 67; refine (rd_ok_any _ b l 0 h).mono ?_; rintro r w' ⟨rfl, rfl⟩)
        | (go_at_call 19; refine (H19.out _).mono ?_; rintro r w' ⟨rfl, rfl⟩)
        | (go_at_call 68; refine (rd_took_bad _ b l 0 e' n h (by omega)).mono ?_; rintro r w' ⟨rfl, h', hg⟩))
      go_ret
      exact ⟨by rw [hr.out]; rfl, by rw [hr.out]; exact h', hg⟩
  · have hef : ((e : Int) == 0) = false := by simp; omega
    have hr := Lib.hid (rdFlag_err l e he)
    clear he
    go_enter Try.func41, Try.ntmps41
    go_wp2_with (go_at_call 67; refine (rd_ok_any _ b l e h).mono ?_; rintro r w' ⟨rfl, rfl⟩)
    go_ret
    exact ⟨by rw [hr.out]; rfl, by rw [hr.out]; exact h, grown_refl _ _⟩

theorem rd_err_any (w : World) (b : Nat) (l : List UInt8) (e : Nat) (h : RdAt w b l e) :
    Calls Try.prog 34 #[.pointer (some ⟨b, 0, none⟩)] w fun r w' => r = .returned (.int .i64 (e : Int)) ∧ w = w' := by
  have hc := Blk.cell h
  go_enter Try.func34, Try.ntmps34
  go_wp2
  go_ret
  exact ⟨rfl, rfl⟩
theorem rd_rest_any (w : World) (b : Nat) (l : List UInt8) (e : Nat) (h : RdAt w b l e) :
    Calls Try.prog 35 #[.pointer (some ⟨b, 0, none⟩)] w fun r w' => r = .returned (.string (bs l)) ∧ w = w' := by
  have hc := Blk.cell h
  go_enter Try.func35, Try.ntmps35
  go_wp2
  go_ret
  exact ⟨rfl, rfl⟩
theorem bs_isEmpty (l : List UInt8) : (bs l).toList.isEmpty = l.isEmpty := by rw [ByteArray.toList_eq, bs_data]
theorem rd_end_any (w : World) (b : Nat) (l : List UInt8) (e : Nat) (h : RdAt w b l e) :
    Calls Try.prog 36 #[.pointer (some ⟨b, 0, none⟩)] w fun r w' => r = .returned (.int .i64 (rdEnd l e : Int)) ∧ w = w' := by
  have hc := Blk.cell h
  by_cases he : e = 0
  · subst he
    by_cases hl : l = []
    · have hemp : (bs l).toList.isEmpty = true := by rw [bs_isEmpty, hl]; rfl
      have hr := Lib.hid (show rdEnd l 0 = 0 by rw [hl]; rfl)
      clear hl
      go_enter Try.func36, Try.ntmps36
      go_wp2_with (go_at_call 34; refine (rd_err_any _ b l 0 h).mono ?_; rintro r w' ⟨rfl, rfl⟩)
      go_ret
      exact ⟨by rw [hr.out]; rfl, rfl⟩
    · have hemp : (bs l).toList.isEmpty = false := by rw [bs_isEmpty]; cases l; exact absurd rfl hl; rfl
      have hr := Lib.hid (show rdEnd l 0 = 3 by simp [rdEnd, hl])
      clear hl
      go_enter Try.func36, Try.ntmps36
      go_wp2_with (go_at_call 34; refine (rd_err_any _ b l 0 h).mono ?_; rintro r w' ⟨rfl, rfl⟩)
      go_ret
      exact ⟨by rw [hr.out]; rfl, rfl⟩
  · have hef : ((e : Int) != 0) = true := by rw [bne_iff_ne]; omega
    have hr := Lib.hid (show rdEnd l e = e by simp [rdEnd, he])
    clear he
    go_enter Try.func36, Try.ntmps36
    go_wp2_with (go_at_call 34; refine (rd_err_any _ b l e h).mono ?_; rintro r w' ⟨rfl, rfl⟩)
    go_ret
    exact ⟨by rw [hr.out]; rfl, rfl⟩

theorem rd_new_any (s : ByteArray) (w : World) :
    Calls Try.prog 32 #[.string s] w fun r w' => r = .returned (.pointer (some ⟨w.heap.size, 0, none⟩)) ∧ w' = w.alloc (.cells #[.string s, .int .i64 0] 95) := by
  go_enter Try.func32, Try.ntmps32
  go_wp2
  go_ret
  exact ⟨rfl, rfl⟩
end Go.Proofs.Ytgnbgjllogjecaa
