/- The walk of the law OctetReads. -/
import Derived.Test.YtgnbgjllogjecaaOctetSame
import Derived.Test.YtgnbgjllogjecaaRegion
namespace Go.Proofs.Ytgnbgjllogjecaa
open Go.RowKit Go.BigFrame

theorem drewN_heap (w : World) (n : Nat) : (w.drewN n).heap = w.heap := rfl
theorem RdAt.drewN {w : World} {b : Nat} {l : List UInt8} {e : Nat} (h : RdAt w b l e) (n : Nat) : RdAt (w.drewN n) b l e := h
theorem RRdAt.drewN {w : World} {b : Nat} {l : List UInt8} {e : Nat} (h : RRdAt w b l e) (n : Nat) : RRdAt (w.drewN n) b l e := h
theorem rdAny_len (kind most : Int) (l : List UInt8) (e : Nat) : (rdAny kind most l e).1.length ≤ l.length := by
  unfold rdAny rdNum rdInt rdStr rdFlag
  repeat' split
  all_goals simp

set_option maxRecDepth 100000 in
set_option maxHeartbeats 2000000 in
theorem octetReads_some (s : ByteArray) (bl off n cap : Nat) (K M : Nat → Int) (w : World) (hs : s.size ≤ 1000) (hn : n ≤ 100) (hbl : bl < w.heap.size)
    (hL : ∀ i, i < n → w.cell? ⟨bl, off + i * 2, none⟩ = some (.int .i64 (K i)) ∧ w.cell? ⟨bl, off + i * 2 + 1, none⟩ = some (.int .i64 (M i)) ∧ -9223372036854775808 ≤ M i ∧ M i ≤ 9223372036854775807) :
    Calls Try.prog 8 #[.string s, .slice (some ⟨bl, off, none⟩) n cap] w fun e w' => e = .returned (.bool true) ∧ Below w.heap.size w w' := by
  have HL := Lib.hid hL
  clear hL
  go_enter Try.func8, Try.ntmps8
  go_wp2_with (go_at_call 32; refine (rd_new_any s _).mono ?_; rintro r w1 ⟨rfl, rfl⟩)
  go_loopw [7] (fun i wr => ∃ (k : Nat) (l : List UInt8) (e : Nat), k ≤ n ∧ i = .int .i64 k ∧ l.length ≤ 1000 ∧ RdAt wr w.heap.size l e ∧ RRdAt wr (w.heap.size + 1) l e ∧ Below w.heap.size w wr) (fun i _ => n - (intOf i).toNat)
  case atStart =>
    have h1 : RdAt (w.alloc (.cells #[.string s, .int .i64 0] 95)) w.heap.size s.data.toList 0 := Blk.new _ _ _
    have h2 : RRdAt ((w.alloc (.cells #[.string s, .int .i64 0] 95)).alloc (.cells #[.string s, .int .i64 0] 60)) (w.heap.size + 1) s.data.toList 0 := by
      have := Blk.new (w.alloc (.cells #[.string s, .int .i64 0] 95)) #[.string s, .int .i64 0] 60
      rw [World.size_alloc] at this
      exact this
    exact ⟨0, s.data.toList, 0, by omega, rfl, by rw [data_length]; omega, Blk.alloc h1 _, h2, ((Below.refl _ _).alloc (Nat.le_refl _) _).alloc (by simp) _⟩
  case round =>
    obtain ⟨k, l, e, hk, rfl, hl, hr, hrr, hb⟩ := hrel
    have hsz := hb.size
    by_cases hlt : k < n
    · obtain ⟨hc0, hc1, hm0, hm1⟩ := HL.out k hlt
      rw [← hb.cell (p := ⟨bl, off + k * 2, none⟩) hbl] at hc0
      rw [← hb.cell (p := ⟨bl, off + k * 2 + 1, none⟩) hbl] at hc1
      generalize K k = kind at *
      generalize M k = most at *
      have hbl' : bl < wr.heap.size := by omega
      have hbl'' : ¬ (bl = w.heap.size ∨ bl = w.heap.size + 1) := by omega
      have hlen := rdAny_len kind most l e
      go_wp2_with fail
      have hrd := RdAt.drew hr
      have hrrd := RRdAt.drew hrr
      have hS : wr.drew.cell? ⟨bl, off + k * 2, none⟩ = some (.int .i64 kind) ∧ wr.drew.cell? ⟨bl, off + k * 2 + 1, none⟩ = some (.int .i64 most) := ⟨hc0, hc1⟩
      refine wp_region_held (S := fun w' => w'.cell? ⟨bl, off + k * 2, none⟩ = some (.int .i64 kind) ∧ w'.cell? ⟨bl, off + k * 2 + 1, none⟩ = some (.int .i64 most)) (by kernel_rfl) ?_
      change wpAnyH _ _ _ _ _ _ _ _ wr.drew
      refine wpAnyH_take (i := 0) (oi := ⟨some 29, _, _, _, _, _⟩) (v := .pointer (some ⟨w.heap.size, 0, none⟩)) rfl (by kernel_rfl) (by kernel_rfl) (by kernel_rfl) (fun _ _ _ h => h) (Or.inl ⟨by rfl, ?_⟩) hS ?_
      · rintro wx ⟨hx0, hx1⟩
        go_simp
      simp only [Act.put, List.setIfInBounds_toArray, List.set_cons_succ, List.set_cons_zero]
      refine wpAnyH_take (i := 1) (oi := ⟨some 30, _, _, _, _, _⟩) (v := .pointer (some ⟨w.heap.size + 1, 0, none⟩)) rfl (by kernel_rfl) (by kernel_rfl) (by kernel_rfl) (fun _ _ _ h => h) (Or.inl ⟨by rfl, ?_⟩) hS ?_
      · rintro wx ⟨hx0, hx1⟩
        go_simp
      simp only [Act.put, List.setIfInBounds_toArray, List.set_cons_succ, List.set_cons_zero]
      refine wpAnyH_take (i := 2) (oi := ⟨some 31, _, _, _, _, _⟩) (v := .slice (some ⟨bl, off, none⟩) n cap) rfl (by kernel_rfl) (by kernel_rfl) (by kernel_rfl) (fun _ _ _ h => h) (Or.inl ⟨by rfl, ?_⟩) hS ?_
      · rintro wx ⟨hx0, hx1⟩
        go_simp
      simp only [Act.put, List.setIfInBounds_toArray, List.set_cons_succ, List.set_cons_zero]
      refine wpAnyH_take (i := 3) (oi := ⟨some 32, _, _, _, _, _⟩) (v := .int .i64 (k : Int)) rfl (by kernel_rfl) (by kernel_rfl) (by kernel_rfl) (fun _ _ _ h => h) (Or.inl ⟨by rfl, ?_⟩) hS ?_
      · rintro wx ⟨hx0, hx1⟩
        go_simp
      simp only [Act.put, List.setIfInBounds_toArray, List.set_cons_succ, List.set_cons_zero]
      refine wpAnyH_take (i := 4) (oi := ⟨some 33, _, _, _, _, _⟩) (v := .pointer (some ⟨bl, off + k * 2, none⟩)) rfl (by kernel_rfl) (by kernel_rfl) (by kernel_rfl) (fun _ _ _ h => h) (Or.inl ⟨by rfl, ?_⟩) hS ?_
      · rintro wx ⟨hx0, hx1⟩
        go_simp
      simp only [Act.put, List.setIfInBounds_toArray, List.set_cons_succ, List.set_cons_zero]
      refine wpAnyH_take (i := 5) (oi := ⟨some 34, _, _, _, _, _⟩) (v := .agg #[.int .i64 kind, .int .i64 most]) rfl (by kernel_rfl) (by kernel_rfl) (by kernel_rfl) (fun _ _ _ h => h) (Or.inl ⟨by rfl, ?_⟩) hS ?_
      · rintro wx ⟨hx0, hx1⟩
        go_simp
      simp only [Act.put, List.setIfInBounds_toArray, List.set_cons_succ, List.set_cons_zero]
      refine wpAnyH_ready (rs := [6]) (by kernel_rfl) (by simp) ?_
      refine AllReadyH.cons (o := ⟨some 35, _, _, _, _, _⟩) rfl (fun K' hK => ?_) AllReadyH.nil
      go_wp2_with (go_at_call 33; refine (same_any _ w.heap.size (w.heap.size + 1) kind most l e hrd hrrd (by omega) (by omega) hm0 hm1).mono ?_; rintro r w1 ⟨rfl, hr1, hrr1, ht1⟩)
      refine hK.out _ _ ⟨(cell_touch ht1 hbl' hbl'').trans hc0, (cell_touch ht1 hbl' hbl'').trans hc1⟩ (fun _ => ?_)
      clear hK K' hS
      have hcc := Blk.cell hrr1
      generalize hl' : (rdAny kind most l e).1 = l' at *
      generalize he' : (rdAny kind most l e).2 = e' at *
      have hErr : Hid (∀ m, Calls Try.prog 34 #[.pointer (some ⟨w.heap.size, 0, none⟩)] (w1.drewN m) fun e w'' => e = .returned (.int .i64 (e' : Int)) ∧ ∃ m, w'' = w1.drewN m) := fun m => Calls.quiet_same (rd_err_any _ _ _ _ (RdAt.drewN hr1 m))
      have hRest : Hid (∀ m, Calls Try.prog 35 #[.pointer (some ⟨w.heap.size, 0, none⟩)] (w1.drewN m) fun e w'' => e = .returned (.string (bs l')) ∧ ∃ m, w'' = w1.drewN m) := fun m => Calls.quiet_same (rd_rest_any _ _ _ _ (RdAt.drewN hr1 m))
      have hEnd : Hid (∀ m, Calls Try.prog 36 #[.pointer (some ⟨w.heap.size, 0, none⟩)] (w1.drewN m) fun e w'' => e = .returned (.int .i64 (rdEnd l' e' : Int)) ∧ ∃ m, w'' = w1.drewN m) := fun m => Calls.quiet_same (rd_end_any _ _ _ _ (RdAt.drewN hr1 m))
      have hREnd : Hid (∀ m, Calls Try.prog 37 #[.pointer (some ⟨w.heap.size + 1, 0, none⟩)] (w1.drewN m) fun e w'' => e = .returned (.int .i64 (rdEnd l' e' : Int)) ∧ ∃ m, w'' = w1.drewN m) := fun m => Calls.quiet_same (rrd_end_any _ _ _ _ (RRdAt.drewN hrr1 m))
      have hNum : Hid (∀ (x : Int) m, Calls Try.prog 22 #[.int .i64 x] (w1.drewN m) fun e w'' => e = .returned (.int .i64 x) ∧ ∃ m, w'' = w1.drewN m) := fun x m => Calls.quiet_same (num01_any x _)
      clear hl' he'
      refine wpAnyH_of_lex_lit (C := fun w' => ∃ m, w' = w1.drewN m) (fun w' ⟨m, hm⟩ => by rw [hm]; exact ⟨(cell_touch ht1 hbl' hbl'').trans hc0, (cell_touch ht1 hbl' hbl'').trans hc1⟩) (by kernel_rfl) _ 7 _ _ _ rfl rfl (by kernel_rfl) ⟨0, rfl⟩ ?_
      simp only [List.drop_succ_cons, List.drop_zero]
      repeat (go_big_quiet_step (first
        | (go_at_call 34; exact hErr.out _)
        | (go_at_call 35; exact hRest.out _)
        | (go_at_call 36; exact hEnd.out _)
        | (go_at_call 37; exact hREnd.out _)
        | (go_at_call 22; exact hNum.out _ _)))
      refine wpQuiet_nil ?_
      rintro w2 ⟨m, rfl⟩
      go_wp2_with fail
      have hb1 := hb.drew.trans (ht1.below (B := w.heap.size) hsz (fun k hk => by rcases hk with rfl | rfl <;> omega))
      go_roundw
      case rel => exact ⟨k + 1, l', e', by omega, by go_num, by omega, RdAt.drewN hr1 m, RRdAt.drewN hrr1 m, ⟨hb1.os, hb1.tape, hb1.output, hb1.size, hb1.block⟩⟩
      case measure => simp [intOf]; omega
    · have hb2 : Below w.heap.size w wr := hb
      clear hr hrr
      go_wp2_with (first
        | (go_at_call 38; refine (rd_num_nil _).mono ?_; rintro r w2 ⟨rfl, rfl⟩)
        | (go_at_call 39; refine (rd_int_nil _ _).mono ?_; rintro r w2 ⟨rfl, rfl⟩)
        | (go_at_call 40; refine (rd_str_nil _ _).mono ?_; rintro r w2 ⟨rfl, rfl⟩)
        | (go_at_call 41; refine (rd_flag_nil _).mono ?_; rintro r w2 ⟨rfl, rfl⟩)
        | (go_at_call 34; refine (rd_err_nil _).mono ?_; rintro r w2 ⟨rfl, rfl⟩)
        | (go_at_call 36; refine (rd_end_nil _).mono ?_; rintro r w2 ⟨rfl, rfl⟩)
        | (go_at_call 35; refine (rd_rest_nil _).mono ?_; rintro r w2 ⟨rfl, rfl⟩)
        | (go_at_call 22; refine (num01_any _ _).mono ?_; rintro r w2 ⟨rfl, rfl⟩)
        | (go_at_call 18; refine (oct_live _).mono ?_; rintro e w' ⟨rfl, hb'⟩))
      go_ret
      exact ⟨rfl, hb2.trans (hb'.mono hsz)⟩

set_option maxRecDepth 100000 in
set_option maxHeartbeats 2000000 in
theorem octetReads_none (s : ByteArray) (a : Option Addr) (cap : Nat) (w : World) (hs : s.size ≤ 1000) :
    Calls Try.prog 8 #[.string s, .slice a 0 cap] w fun e w' => e = .returned (.bool true) ∧ Below w.heap.size w w' := by
  go_enter Try.func8, Try.ntmps8
  go_wp2_with (go_at_call 32; refine (rd_new_any s _).mono ?_; rintro r w1 ⟨rfl, rfl⟩)
  go_loopw [7] (fun i wr => i = .int .i64 0 ∧ Below w.heap.size w wr) (fun _ _ => 0)
  case atStart => exact ⟨rfl, ((Below.refl _ _).alloc (Nat.le_refl _) _).alloc (by simp) _⟩
  case round =>
    obtain ⟨rfl, hb⟩ := hrel
    have hsz := hb.size
    have hb2 : Below w.heap.size w wr := hb
    go_wp2_with (first
      | (go_at_call 38; refine (rd_num_nil _).mono ?_; rintro r w2 ⟨rfl, rfl⟩)
      | (go_at_call 39; refine (rd_int_nil _ _).mono ?_; rintro r w2 ⟨rfl, rfl⟩)
      | (go_at_call 40; refine (rd_str_nil _ _).mono ?_; rintro r w2 ⟨rfl, rfl⟩)
      | (go_at_call 41; refine (rd_flag_nil _).mono ?_; rintro r w2 ⟨rfl, rfl⟩)
      | (go_at_call 34; refine (rd_err_nil _).mono ?_; rintro r w2 ⟨rfl, rfl⟩)
      | (go_at_call 36; refine (rd_end_nil _).mono ?_; rintro r w2 ⟨rfl, rfl⟩)
      | (go_at_call 35; refine (rd_rest_nil _).mono ?_; rintro r w2 ⟨rfl, rfl⟩)
      | (go_at_call 22; refine (num01_any _ _).mono ?_; rintro r w2 ⟨rfl, rfl⟩)
      | (go_at_call 18; refine (oct_live _).mono ?_; rintro e w' ⟨rfl, hb'⟩))
    go_ret
    exact ⟨rfl, hb2.trans (hb'.mono hsz)⟩

theorem octetReads_large (s : ByteArray) (a : Option Addr) (n cap : Nat) (w : World) (hs : s.size ≤ 9223372036854775807) (hn : n ≤ 9223372036854775807) (hl : 1000 < s.size ∨ 100 < n) :
    Calls Try.prog 8 #[.string s, .slice a n cap] w fun e w' => e = .returned (.bool true) ∧ Below w.heap.size w w' := by
  by_cases h : 1000 < s.size
  · clear hl
    go_enter Try.func8, Try.ntmps8
    go_wp2_with (go_at_call 18; refine (oct_live _).mono ?_; rintro e w' ⟨rfl, hb⟩)
    go_ret
    exact ⟨rfl, hb⟩
  · have h2 : 100 < n := by omega
    clear hl
    go_enter Try.func8, Try.ntmps8
    go_wp2_with (go_at_call 18; refine (oct_live _).mono ?_; rintro e w' ⟨rfl, hb⟩)
    go_ret
    exact ⟨rfl, hb⟩
end Go.Proofs.Ytgnbgjllogjecaa
