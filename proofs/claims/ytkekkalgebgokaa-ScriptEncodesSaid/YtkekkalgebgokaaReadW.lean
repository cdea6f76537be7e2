/- The readers of layer 1, the program's and the document's: numbers and texts, one behind the other. -/
import Derived.Test.YtkekkalgebgokaaGK
import Derived.Test.YtkekkalgebgokaaG7
import Derived.Test.YtkekkalgebgokaaG11
import Derived.Test.YtkekkalgebgokaaOctC
import Derived.Test.YtkekkalgebgokaaReaderPlain
set_option linter.unusedSimpArgs false
set_option linter.unusedVariables false
namespace Go.Proofs.Ytkekkalgebgokaa
open Go Go.RowKit

section
theorem infReadW_3 : Try.prog.info? 3 = some Try.t3 := by kernel_rfl
theorem infReadW_9 : Try.prog.info? 9 = some Try.t9 := by kernel_rfl
theorem infReadW_33 : Try.prog.info? 33 = some Try.t33 := by kernel_rfl
theorem infReadW_169 : Try.prog.info? 169 = some Try.t169 := by kernel_rfl
theorem plcReadW_169 : placesOf Try.prog (Try.prog.fieldsOf 169) = some [(0, 1), (1, 1)] := by kernel_rfl


theorem ct_unchain (l : List UInt8) (v n e : Nat) (hu : unchain l = (v, n, e)) (h : l.length ≤ 9223372036854775807) : Ct Try.prog 131 [.string (bs l)] [] [] (fun r post => r = .tuple #[.int .u64 (v : Int), .int .i64 (n : Int), .int .i64 (e : Int)] ∧ post = []) :=
  ct_same (fun w => by
    have := unchain_any (bs l) w (by rw [bs_size]; omega)
    rw [bs_data, hu] at this
    exact this)
theorem ct_runchain (l : List UInt8) (v n e : Nat) (hu : unchain l = (v, n, e)) (h : l.length ≤ 9223372036854775807) : Ct Try.prog 111 [.string (bs l)] [] [] (fun r post => r = .tuple #[.int .u64 (v : Int), .int .i64 (n : Int), .int .i64 (e : Int)] ∧ post = []) :=
  ct_same (fun w => by
    have := runchain_any (bs l) w (by rw [bs_size]; omega)
    rw [bs_data, hu] at this
    exact this)
theorem ct_untext (l : List UInt8) (most : Int) (s : List UInt8) (n e : Nat) (hu : untext l most = (s, n, e)) (h : l.length ≤ 140737488351232) (hm : 0 ≤ most ∧ most ≤ 4611686018427387904) : Ct Try.prog 152 [.string (bs l), .int .i64 most] [] [] (fun r post => r = .tuple #[.string (bs s), .int .i64 (n : Int), .int .i64 (e : Int)] ∧ post = []) :=
  ct_same (fun w => by
    have := untext_any (bs l) most w (by rw [bs_size]; omega) (by omega) (by omega)
    rw [bs_data, hu] at this
    exact this)
theorem ct_runtext (l : List UInt8) (most : Int) (s : List UInt8) (n e : Nat) (hu : untext l most = (s, n, e)) (h : l.length ≤ 140737488351232) (hm : 0 ≤ most ∧ most ≤ 4611686018427387904) : Ct Try.prog 113 [.string (bs l), .int .i64 most] [] [] (fun r post => r = .tuple #[.string (bs s), .int .i64 (n : Int), .int .i64 (e : Int)] ∧ post = []) :=
  ct_same (fun w => by
    have := runtext_any (bs l) most w (by rw [bs_size]; omega) (by omega) (by omega)
    rw [bs_data, hu] at this
    exact this)
theorem unchain_bd {l : List UInt8} {v n e : Nat} (h : unchain l = (v, n, e)) : v < 18446744073709551616 ∧ ((e = 0 ∧ n ≤ l.length ∧ n ≤ 10 ∧ 1 ≤ n) ∨ (0 < e ∧ e ≤ 3 ∧ v = 0)) := by
  have := unchain_ok l
  rw [h] at this
  obtain ⟨h1, h2⟩ := this
  simp only at h1 h2
  exact ⟨h1, by omega⟩

set_option maxRecDepth 100000 in
set_option maxHeartbeats 1000000 in
theorem rd_ok (b : Nat) (l : List UInt8) (e : Nat) :
    Ct Try.prog 130 [.pointer (some ⟨b, 0, none⟩)] [(some b, .cells #[.string (bs l), .int .i64 ((e : Nat) : Int)] 169 (0, 0))] [] fun v post => v = .bool (decide (e = 0)) ∧ post = [] := by
 refine ct_of Try.func130 rfl rfl (fun w0 => ?_)
 show G _ _ [(0, _)] _ _
 refine G_seq ?_
 refine G_region (l := [0]) rfl ?_
 refine G_val rfl rfl rfl rfl (V_assign rfl rfl) ?_
 refine G_done ?_
 refine G_seq ?_
 refine G_region (l := [0, 1, 2, 3, 4, 5, 6, 7, 8, 9]) rfl ?_
 refine G_val rfl rfl rfl rfl (V_move rfl rfl) ?_
 refine G_val rfl rfl rfl rfl (V_pneqN rfl Try.underlying74 rfl rfl) ?_
 refine G_val rfl rfl rfl rfl (V_move rfl rfl) ?_
 refine G_val rfl rfl rfl rfl (V_move rfl rfl) ?_
 first
   | refine G_val rfl rfl rfl rfl (V_nilCheck rfl rfl) ?_
   | refine G_val rfl rfl rfl rfl (V_nilCheckF rfl rfl) ?_
 refine G_val rfl rfl rfl rfl (V_fieldAddr (fo := 1) rfl Try.underlying169 rfl infReadW_33 rfl rfl rfl) ?_
 refine G_val rfl rfl rfl rfl (V_load1 rfl rfl (mem_at 0 rfl) rfl Try.underlying33 rfl) ?_
 refine G_val rfl rfl rfl rfl (V_eql rfl rfl rfl) ?_
 refine G_val rfl rfl rfl rfl (V_pickT rfl rfl rfl) ?_
 refine G_val rfl rfl rfl rfl (V_assign rfl rfl) ?_
 refine G_done ?_
 refine G_ret (post := []) Try.func130 rfl (RVs_cons (RV_tmp rfl) RVs_nil) [] rfl ?_
 dsimp only [packed]
 refine ⟨bool_eq ?_, rfl⟩; simp

set_option maxRecDepth 100000 in
set_option maxHeartbeats 1000000 in
theorem rd_err (b : Nat) (l : List UInt8) (e : Nat) :
    Ct Try.prog 86 [.pointer (some ⟨b, 0, none⟩)] [(some b, .cells #[.string (bs l), .int .i64 ((e : Nat) : Int)] 169 (0, 0))] [] fun v post => v = .int .i64 (e : Int) ∧ post = [] := by
 refine ct_of Try.func86 rfl rfl (fun w0 => ?_)
 show G _ _ [(0, _)] _ _
 refine G_seq ?_
 refine G_region (l := [0]) rfl ?_
 refine G_val rfl rfl rfl rfl (V_assign rfl rfl) ?_
 refine G_done ?_
 refine G_seq ?_
 refine G_seq ?_
 refine G_region (l := [0, 1]) rfl ?_
 refine G_val rfl rfl rfl rfl (V_move rfl rfl) ?_
 refine G_val rfl rfl rfl rfl (V_peqlN rfl Try.underlying74 rfl rfl) ?_
 refine G_done ?_
 refine G_else rfl ?_
 refine G_skip ?_
 refine G_seq ?_
 refine G_region (l := [0, 1, 2, 3, 4]) rfl ?_
 refine G_val rfl rfl rfl rfl (V_move rfl rfl) ?_
 first
   | refine G_val rfl rfl rfl rfl (V_nilCheck rfl rfl) ?_
   | refine G_val rfl rfl rfl rfl (V_nilCheckF rfl rfl) ?_
 refine G_val rfl rfl rfl rfl (V_fieldAddr (fo := 1) rfl Try.underlying169 rfl infReadW_33 rfl rfl rfl) ?_
 refine G_val rfl rfl rfl rfl (V_load1 rfl rfl (mem_at 0 rfl) rfl Try.underlying33 rfl) ?_
 refine G_val rfl rfl rfl rfl (V_assign rfl rfl) ?_
 refine G_done ?_
 refine G_ret (post := []) Try.func86 rfl (RVs_cons (RV_tmp rfl) RVs_nil) [] rfl ?_
 dsimp only [packed]
 exact ⟨rfl, rfl⟩

set_option maxRecDepth 100000 in
set_option maxHeartbeats 1000000 in
theorem rd_took1 (b : Nat) (l : List UInt8) (e n e1 : Nat) (hn : n ≤ l.length) (h1 : e1 = 0) :
    Ct Try.prog 132 [.pointer (some ⟨b, 0, none⟩), .int .i64 (n : Int), .int .i64 (e1 : Int)] [] [(some b, .cells #[.string (bs l), .int .i64 ((e : Nat) : Int)] 169 (0, 0))] fun v post => v = .bool true ∧ post = [(some b, .cells #[.string (bs (l.drop n)), .int .i64 ((e : Nat) : Int)] 169 (0, 0))] := by
 subst h1
 refine ct_of Try.func132 rfl rfl (fun w0 => ?_)
 show G _ _ [(0, _), (1, _), (2, _)] _ _
 refine G_seq ?_
 refine G_region (l := [0]) rfl ?_
 refine G_val rfl rfl rfl rfl (V_assign rfl rfl) ?_
 refine G_done ?_
 refine G_seq ?_
 refine G_seq ?_
 refine G_region (l := [0, 1]) rfl ?_
 refine G_val rfl rfl rfl rfl (V_move rfl rfl) ?_
 refine G_val rfl rfl rfl rfl (V_neq rfl rfl rfl) ?_
 refine G_done ?_
 refine G_ifD rfl (fun hc1 => ?_) (fun hc1 => ?_)
 · (first | (exact absurd rfl hc1) | (exfalso; omega))
 refine G_skip ?_
 refine G_seq ?_
 refine G_region (l := [0, 1, 2, 3, 4, 5, 6, 7, 8, 9]) rfl ?_
 refine G_val rfl rfl rfl rfl (V_move rfl rfl) ?_
 refine G_val rfl rfl rfl rfl (V_move rfl rfl) ?_
 first
   | refine G_val rfl rfl rfl rfl (V_nilCheck rfl rfl) ?_
   | refine G_val rfl rfl rfl rfl (V_nilCheckF rfl rfl) ?_
 refine G_val rfl rfl rfl rfl (V_fieldAddr (fo := 0) rfl Try.underlying169 rfl infReadW_9 rfl rfl rfl) ?_
 refine G_val rfl rfl rfl rfl (V_load1 rfl rfl (mem_at 0 rfl) rfl Try.underlying9 rfl) ?_
 refine G_val rfl rfl rfl rfl (V_move rfl rfl) ?_
 first
   | refine G_val rfl rfl rfl rfl (V_ssliceLN (lo := _) rfl Try.underlying9 rfl rfl rfl (by first | omega | (simp; done) | (simp; omega) | (simp at *; omega))) ?_
   | refine G_val rfl rfl rfl rfl (V_ssliceL rfl Try.underlying9 rfl rfl (by first | omega | (simp; done) | (simp; omega) | (simp at *; omega)) (by first | omega | (simp; done) | (simp; omega) | (simp at *; omega))) ?_
 first
   | refine G_val rfl rfl rfl rfl (V_nilCheck rfl rfl) ?_
   | refine G_val rfl rfl rfl rfl (V_nilCheckF rfl rfl) ?_
 refine G_val rfl rfl rfl rfl (V_fieldAddr (fo := 0) rfl Try.underlying169 rfl infReadW_9 rfl rfl rfl) ?_
 refine G_put (l1 := []) (L' := [_]) rfl rfl rfl rfl (P_store1 rfl rfl rfl (mem_at 0 rfl) (by first | exact of_decide_eq_true rfl | omega | (simp; done) | (simp; omega) | (simp at *; omega)) infReadW_9 rfl rfl) rfl ?_
 refine G_done ?_
 refine G_seq ?_
 refine G_region (l := [0]) rfl ?_
 refine G_val rfl rfl rfl rfl (V_assign rfl rfl) ?_
 refine G_done ?_
 refine G_ret (post := [_]) Try.func132 rfl (RVs_cons (RV_tmp rfl) RVs_nil) [0] rfl ?_
 dsimp only [packed]
 exact ⟨rfl, rfl⟩

set_option maxRecDepth 100000 in
set_option maxHeartbeats 1000000 in
theorem rd_took0 (b : Nat) (l : List UInt8) (e n e1 : Nat) (h1 : 0 < e1) :
    Ct Try.prog 132 [.pointer (some ⟨b, 0, none⟩), .int .i64 (n : Int), .int .i64 (e1 : Int)] [] [(some b, .cells #[.string (bs l), .int .i64 ((e : Nat) : Int)] 169 (0, 0))] fun v post => v = .bool false ∧ post = [(some b, .cells #[.string (bs l), .int .i64 ((e1 : Nat) : Int)] 169 (0, 0))] := by
 refine ct_of Try.func132 rfl rfl (fun w0 => ?_)
 show G _ _ [(0, _), (1, _), (2, _)] _ _
 refine G_seq ?_
 refine G_region (l := [0]) rfl ?_
 refine G_val rfl rfl rfl rfl (V_assign rfl rfl) ?_
 refine G_done ?_
 refine G_seq ?_
 refine G_seq ?_
 refine G_region (l := [0, 1]) rfl ?_
 refine G_val rfl rfl rfl rfl (V_move rfl rfl) ?_
 refine G_val rfl rfl rfl rfl (V_neq rfl rfl rfl) ?_
 refine G_done ?_
 refine G_ifD rfl (fun hc1 => ?_) (fun hc1 => ?_)
 rotate_left
 · (exfalso; omega)
 refine G_seq ?_
 refine G_region (l := [0, 1, 2, 3, 4]) rfl ?_
 refine G_val rfl rfl rfl rfl (V_move rfl rfl) ?_
 refine G_val rfl rfl rfl rfl (V_move rfl rfl) ?_
 first
   | refine G_val rfl rfl rfl rfl (V_nilCheck rfl rfl) ?_
   | refine G_val rfl rfl rfl rfl (V_nilCheckF rfl rfl) ?_
 refine G_val rfl rfl rfl rfl (V_fieldAddr (fo := 1) rfl Try.underlying169 rfl infReadW_33 rfl rfl rfl) ?_
 refine G_put (l1 := []) (L' := [_]) rfl rfl rfl rfl (P_store1 rfl rfl rfl (mem_at 0 rfl) (by first | exact of_decide_eq_true rfl | omega | (simp; done) | (simp; omega) | (simp at *; omega)) infReadW_33 rfl rfl) rfl ?_
 refine G_done ?_
 refine G_seq ?_
 refine G_region (l := [0]) rfl ?_
 refine G_val rfl rfl rfl rfl (V_assign rfl rfl) ?_
 refine G_done ?_
 refine G_ret (post := [_]) Try.func132 rfl (RVs_cons (RV_tmp rfl) RVs_nil) [0] rfl ?_
 dsimp only [packed]
 exact ⟨rfl, rfl⟩

set_option maxRecDepth 100000 in
set_option maxHeartbeats 1000000 in
theorem rrd_took1 (b : Nat) (l : List UInt8) (e n e1 : Nat) (hn : n ≤ l.length) (h1 : e1 = 0) :
    Ct Try.prog 112 [.pointer (some ⟨b, 0, none⟩), .int .i64 (n : Int), .int .i64 (e1 : Int)] [] [(some b, .cells #[.string (bs l), .int .i64 ((e : Nat) : Int)] 86 (0, 0))] fun v post => v = .tuple #[] ∧ post = [(some b, .cells #[.string (bs (l.drop n)), .int .i64 ((e : Nat) : Int)] 86 (0, 0))] := by
 subst h1
 refine ct_of Try.func112 rfl rfl (fun w0 => ?_)
 show G _ _ [(0, _), (1, _), (2, _)] _ _
 refine G_seq ?_
 refine G_seq ?_
 refine G_region (l := [0, 1]) rfl ?_
 refine G_val rfl rfl rfl rfl (V_move rfl rfl) ?_
 refine G_val rfl rfl rfl rfl (V_neq rfl rfl rfl) ?_
 refine G_done ?_
 refine G_ifD rfl (fun hc1 => ?_) (fun hc1 => ?_)
 · (first | (exact absurd rfl hc1) | (exfalso; omega))
 refine G_skip ?_
 refine G_region (l := [0, 1, 2, 3, 4, 5, 6, 7, 8, 9]) rfl ?_
 refine G_val rfl rfl rfl rfl (V_move rfl rfl) ?_
 refine G_val rfl rfl rfl rfl (V_move rfl rfl) ?_
 first
   | refine G_val rfl rfl rfl rfl (V_nilCheck rfl rfl) ?_
   | refine G_val rfl rfl rfl rfl (V_nilCheckF rfl rfl) ?_
 refine G_val rfl rfl rfl rfl (V_fieldAddr (fo := 0) rfl Try.underlying86 rfl infReadW_9 rfl rfl rfl) ?_
 refine G_val rfl rfl rfl rfl (V_load1 rfl rfl (mem_at 0 rfl) rfl Try.underlying9 rfl) ?_
 refine G_val rfl rfl rfl rfl (V_move rfl rfl) ?_
 first
   | refine G_val rfl rfl rfl rfl (V_ssliceLN (lo := _) rfl Try.underlying9 rfl rfl rfl (by first | omega | (simp; done) | (simp; omega) | (simp at *; omega))) ?_
   | refine G_val rfl rfl rfl rfl (V_ssliceL rfl Try.underlying9 rfl rfl (by first | omega | (simp; done) | (simp; omega) | (simp at *; omega)) (by first | omega | (simp; done) | (simp; omega) | (simp at *; omega))) ?_
 first
   | refine G_val rfl rfl rfl rfl (V_nilCheck rfl rfl) ?_
   | refine G_val rfl rfl rfl rfl (V_nilCheckF rfl rfl) ?_
 refine G_val rfl rfl rfl rfl (V_fieldAddr (fo := 0) rfl Try.underlying86 rfl infReadW_9 rfl rfl rfl) ?_
 refine G_put (l1 := []) (L' := [_]) rfl rfl rfl rfl (P_store1 rfl rfl rfl (mem_at 0 rfl) (by first | exact of_decide_eq_true rfl | omega | (simp; done) | (simp; omega) | (simp at *; omega)) infReadW_9 rfl rfl) rfl ?_
 refine G_done ?_
 refine G_end (post := [_]) Try.func112 rfl RVs_nil [0] rfl ?_
 dsimp only [packed]
 exact ⟨rfl, rfl⟩

set_option maxRecDepth 100000 in
set_option maxHeartbeats 1000000 in
theorem rrd_took0 (b : Nat) (l : List UInt8) (e n e1 : Nat) (h1 : 0 < e1) :
    Ct Try.prog 112 [.pointer (some ⟨b, 0, none⟩), .int .i64 (n : Int), .int .i64 (e1 : Int)] [] [(some b, .cells #[.string (bs l), .int .i64 ((e : Nat) : Int)] 86 (0, 0))] fun v post => v = .tuple #[] ∧ post = [(some b, .cells #[.string (bs l), .int .i64 ((e1 : Nat) : Int)] 86 (0, 0))] := by
 refine ct_of Try.func112 rfl rfl (fun w0 => ?_)
 show G _ _ [(0, _), (1, _), (2, _)] _ _
 refine G_seq ?_
 refine G_seq ?_
 refine G_region (l := [0, 1]) rfl ?_
 refine G_val rfl rfl rfl rfl (V_move rfl rfl) ?_
 refine G_val rfl rfl rfl rfl (V_neq rfl rfl rfl) ?_
 refine G_done ?_
 refine G_ifD rfl (fun hc1 => ?_) (fun hc1 => ?_)
 rotate_left
 · (exfalso; omega)
 refine G_seq ?_
 refine G_region (l := [0, 1, 2, 3, 4]) rfl ?_
 refine G_val rfl rfl rfl rfl (V_move rfl rfl) ?_
 refine G_val rfl rfl rfl rfl (V_move rfl rfl) ?_
 first
   | refine G_val rfl rfl rfl rfl (V_nilCheck rfl rfl) ?_
   | refine G_val rfl rfl rfl rfl (V_nilCheckF rfl rfl) ?_
 refine G_val rfl rfl rfl rfl (V_fieldAddr (fo := 1) rfl Try.underlying86 rfl infReadW_3 rfl rfl rfl) ?_
 refine G_put (l1 := []) (L' := [_]) rfl rfl rfl rfl (P_store1 rfl rfl rfl (mem_at 0 rfl) (by first | exact of_decide_eq_true rfl | omega | (simp; done) | (simp; omega) | (simp at *; omega)) infReadW_3 rfl rfl) rfl ?_
 refine G_done ?_
 refine G_ret (post := [_]) Try.func112 rfl RVs_nil [0] rfl ?_
 dsimp only [packed]
 exact ⟨rfl, rfl⟩

set_option maxRecDepth 100000 in
set_option maxHeartbeats 1000000 in
theorem rd_num (b : Nat) (l : List UInt8) (e : Nat) (hl : l.length ≤ 140737488351232) (he : e ≤ 1000) :
    Ct Try.prog 133 [.pointer (some ⟨b, 0, none⟩)] [] [(some b, .cells #[.string (bs l), .int .i64 ((e : Nat) : Int)] 169 (0, 0))] fun r post => r = .int .u64 (((rdNum l e).1 : Nat) : Int) ∧ post = [(some b, .cells #[.string (bs (rdNum l e).2.1), .int .i64 (((rdNum l e).2.2 : Nat) : Int)] 169 (0, 0))] := by
 obtain ⟨v, n, e1, hu⟩ : ∃ v n e1, unchain l = (v, n, e1) := ⟨_, _, _, rfl⟩
 obtain ⟨hv, hb⟩ := unchain_bd hu
 refine ct_of Try.func133 rfl rfl (fun w0 => ?_)
 show G _ _ [(0, _)] _ _
 refine G_seq ?_
 refine G_region (l := [0]) rfl ?_
 refine G_val rfl rfl rfl rfl (V_assign rfl rfl) ?_
 refine G_done ?_
 refine G_seq ?_
 refine G_seq ?_
 refine G_region (l := [0, 1, 2]) rfl ?_
 refine G_val rfl rfl rfl rfl (V_move rfl rfl) ?_
 refine G_call (L2 := [_]) rfl rfl rfl rfl rfl rfl Try.call130 (rd_ok _ _ _) [] [0] rfl rfl ?_
 rintro v post ⟨rfl, rfl⟩
 show G _ _ _ [_] _
 refine G_val rfl rfl rfl rfl (V_notD rfl rfl) ?_
 refine G_done ?_
 refine G_ifD rfl (fun hc1 => ?_) (fun hc1 => ?_)
 · skip
   refine G_seq ?_
   refine G_region (l := [0]) rfl ?_
   refine G_val rfl rfl rfl rfl (V_assign rfl rfl) ?_
   refine G_done ?_
   refine G_ret (post := [_]) Try.func133 rfl (RVs_cons (RV_tmp rfl) RVs_nil) [0] rfl ?_
   dsimp only [packed]
   first
     | (rw [rdNum_err l e (by omega)]; exact ⟨rfl, rfl⟩)
     | (obtain rfl : e = 0 := by omega
        rw [rdNum_bad l v n e1 hu (by omega)]; subst h2; exact ⟨rfl, rfl⟩)
     | (obtain rfl : e = 0 := by omega
        subst h0; rw [rdNum_ok l v n hu]; exact ⟨rfl, rfl⟩)
 refine G_skip ?_
 refine G_seq ?_
 rcases hb with ⟨h0, h1, h2, h3⟩ | ⟨h0, h1, h2⟩
 · skip
   refine G_region (l := [0, 1, 2, 3, 4, 5, 6, 7, 8, 9, 10, 11]) rfl ?_
   refine G_val rfl rfl rfl rfl (V_move rfl rfl) ?_
   first
     | refine G_val rfl rfl rfl rfl (V_nilCheck rfl rfl) ?_
     | refine G_val rfl rfl rfl rfl (V_nilCheckF rfl rfl) ?_
   refine G_val rfl rfl rfl rfl (V_fieldAddr (fo := 0) rfl Try.underlying169 rfl infReadW_9 rfl rfl rfl) ?_
   refine G_val rfl rfl rfl rfl (V_load1 rfl rfl (mem_at 0 rfl) rfl Try.underlying9 rfl) ?_
   refine G_call (L2 := [_]) rfl rfl rfl rfl rfl rfl Try.call131 (ct_unchain _ v n e1 hu (by omega)) [] [] rfl rfl ?_
   rintro v post ⟨rfl, rfl⟩
   show G _ _ _ [_] _
   refine G_val rfl rfl rfl rfl (V_move rfl rfl) ?_
   refine G_val rfl rfl rfl rfl (V_extract rfl rfl rfl) ?_
   refine G_val rfl rfl rfl rfl (V_extract rfl rfl rfl) ?_
   refine G_val rfl rfl rfl rfl (V_extract rfl rfl rfl) ?_
   refine G_val rfl rfl rfl rfl (V_assign rfl rfl) ?_
   refine G_val rfl rfl rfl rfl (V_assign rfl rfl) ?_
   refine G_val rfl rfl rfl rfl (V_assign rfl rfl) ?_
   refine G_done ?_
   refine G_seq ?_
   refine G_seq ?_
   refine G_region (l := [0, 1, 2, 3, 4]) rfl ?_
   refine G_val rfl rfl rfl rfl (V_move rfl rfl) ?_
   refine G_val rfl rfl rfl rfl (V_move rfl rfl) ?_
   refine G_val rfl rfl rfl rfl (V_move rfl rfl) ?_
   refine G_call (L2 := []) rfl rfl rfl rfl rfl rfl Try.call132 (rd_took1 _ _ _ _ _ (by omega) (by omega)) [0] [] rfl rfl ?_
   rintro v post ⟨rfl, rfl⟩
   show G _ _ _ [_] _
   refine G_val rfl rfl rfl rfl (V_not rfl rfl) ?_
   refine G_done ?_
   refine G_else rfl ?_
   refine G_skip ?_
   refine G_seq ?_
   refine G_region (l := [0, 1]) rfl ?_
   refine G_val rfl rfl rfl rfl (V_move rfl rfl) ?_
   refine G_val rfl rfl rfl rfl (V_assign rfl rfl) ?_
   refine G_done ?_
   refine G_ret (post := [_]) Try.func133 rfl (RVs_cons (RV_tmp rfl) RVs_nil) [0] rfl ?_
   dsimp only [packed]
   first
     | (rw [rdNum_err l e (by omega)]; exact ⟨rfl, rfl⟩)
     | (obtain rfl : e = 0 := by omega
        rw [rdNum_bad l v n e1 hu (by omega)]; subst h2; exact ⟨rfl, rfl⟩)
     | (obtain rfl : e = 0 := by omega
        subst h0; rw [rdNum_ok l v n hu]; exact ⟨rfl, rfl⟩)
 · skip
   refine G_region (l := [0, 1, 2, 3, 4, 5, 6, 7, 8, 9, 10, 11]) rfl ?_
   refine G_val rfl rfl rfl rfl (V_move rfl rfl) ?_
   first
     | refine G_val rfl rfl rfl rfl (V_nilCheck rfl rfl) ?_
     | refine G_val rfl rfl rfl rfl (V_nilCheckF rfl rfl) ?_
   refine G_val rfl rfl rfl rfl (V_fieldAddr (fo := 0) rfl Try.underlying169 rfl infReadW_9 rfl rfl rfl) ?_
   refine G_val rfl rfl rfl rfl (V_load1 rfl rfl (mem_at 0 rfl) rfl Try.underlying9 rfl) ?_
   refine G_call (L2 := [_]) rfl rfl rfl rfl rfl rfl Try.call131 (ct_unchain _ v n e1 hu (by omega)) [] [] rfl rfl ?_
   rintro v post ⟨rfl, rfl⟩
   show G _ _ _ [_] _
   refine G_val rfl rfl rfl rfl (V_move rfl rfl) ?_
   refine G_val rfl rfl rfl rfl (V_extract rfl rfl rfl) ?_
   refine G_val rfl rfl rfl rfl (V_extract rfl rfl rfl) ?_
   refine G_val rfl rfl rfl rfl (V_extract rfl rfl rfl) ?_
   refine G_val rfl rfl rfl rfl (V_assign rfl rfl) ?_
   refine G_val rfl rfl rfl rfl (V_assign rfl rfl) ?_
   refine G_val rfl rfl rfl rfl (V_assign rfl rfl) ?_
   refine G_done ?_
   refine G_seq ?_
   refine G_seq ?_
   refine G_region (l := [0, 1, 2, 3, 4]) rfl ?_
   refine G_val rfl rfl rfl rfl (V_move rfl rfl) ?_
   refine G_val rfl rfl rfl rfl (V_move rfl rfl) ?_
   refine G_val rfl rfl rfl rfl (V_move rfl rfl) ?_
   refine G_call (L2 := []) rfl rfl rfl rfl rfl rfl Try.call132 (rd_took0 _ _ _ _ _ (by omega)) [0] [] rfl rfl ?_
   rintro v post ⟨rfl, rfl⟩
   show G _ _ _ [_] _
   refine G_val rfl rfl rfl rfl (V_not rfl rfl) ?_
   refine G_done ?_
   refine G_then rfl ?_
   refine G_seq ?_
   refine G_region (l := [0]) rfl ?_
   refine G_val rfl rfl rfl rfl (V_assign rfl rfl) ?_
   refine G_done ?_
   refine G_ret (post := [_]) Try.func133 rfl (RVs_cons (RV_tmp rfl) RVs_nil) [0] rfl ?_
   dsimp only [packed]
   first
     | (rw [rdNum_err l e (by omega)]; exact ⟨rfl, rfl⟩)
     | (obtain rfl : e = 0 := by omega
        rw [rdNum_bad l v n e1 hu (by omega)]; subst h2; exact ⟨rfl, rfl⟩)
     | (obtain rfl : e = 0 := by omega
        subst h0; rw [rdNum_ok l v n hu]; exact ⟨rfl, rfl⟩)

set_option maxRecDepth 100000 in
set_option maxHeartbeats 1000000 in
theorem rd_int (b : Nat) (l : List UInt8) (e : Nat) (most : Int) (hl : l.length ≤ 140737488351232) (he : e ≤ 1000) (hm : 0 ≤ most ∧ most ≤ 4611686018427387904) :
    Ct Try.prog 84 [.pointer (some ⟨b, 0, none⟩), .int .i64 most] [] [(some b, .cells #[.string (bs l), .int .i64 ((e : Nat) : Int)] 169 (0, 0))] fun r post => r = .int .i64 (((rdInt most l e).1 : Nat) : Int) ∧ post = [(some b, .cells #[.string (bs (rdInt most l e).2.1), .int .i64 (((rdInt most l e).2.2 : Nat) : Int)] 169 (0, 0))] := by
 obtain ⟨v, n, e1, hu⟩ : ∃ v n e1, unchain l = (v, n, e1) := ⟨_, _, _, rfl⟩
 obtain ⟨hv, hb⟩ := unchain_bd hu
 obtain ⟨hm0, hm1⟩ := hm
 refine ct_of Try.func84 rfl rfl (fun w0 => ?_)
 show G _ _ [(0, _), (1, _)] _ _
 refine G_seq ?_
 refine G_region (l := [0]) rfl ?_
 refine G_val rfl rfl rfl rfl (V_assign rfl rfl) ?_
 refine G_done ?_
 refine G_seq ?_
 refine G_seq ?_
 refine G_region (l := [0, 1, 2]) rfl ?_
 refine G_val rfl rfl rfl rfl (V_move rfl rfl) ?_
 refine G_call (L2 := [_]) rfl rfl rfl rfl rfl rfl Try.call130 (rd_ok _ _ _) [] [0] rfl rfl ?_
 rintro v post ⟨rfl, rfl⟩
 show G _ _ _ [_] _
 refine G_val rfl rfl rfl rfl (V_notD rfl rfl) ?_
 refine G_done ?_
 refine G_ifD rfl (fun hc1 => ?_) (fun hc1 => ?_)
 · skip
   refine G_seq ?_
   refine G_region (l := [0]) rfl ?_
   refine G_val rfl rfl rfl rfl (V_assign rfl rfl) ?_
   refine G_done ?_
   refine G_ret (post := [_]) Try.func84 rfl (RVs_cons (RV_tmp rfl) RVs_nil) [0] rfl ?_
   dsimp only [packed]
   first
     | (rw [rdInt_err most l e (by omega)]; exact ⟨rfl, rfl⟩)
     | (obtain rfl : e = 0 := by omega
        rw [rdInt_bad most l v n e1 hu (by omega)]; subst h2; exact ⟨rfl, rfl⟩)
     | (obtain rfl : e = 0 := by omega
        subst h0; rw [rdInt_long most l v n hu (.inr h2)]; exact ⟨rfl, rfl⟩)
     | (obtain rfl : e = 0 := by omega
        subst h0; rw [rdInt_ok most l v n hu (by omega)]; exact ⟨rfl, rfl⟩)
 refine G_skip ?_
 refine G_seq ?_
 rcases (by omega : (e1 = 0 ∧ n ≤ l.length ∧ most < (v : Int)) ∨ (e1 = 0 ∧ n ≤ l.length ∧ ¬ most < (v : Int)) ∨ (0 < e1 ∧ e1 ≤ 3 ∧ v = 0)) with ⟨h0, h1, h2⟩ | ⟨h0, h1, h2⟩ | ⟨h0, h1, h2⟩
 · skip
   refine G_region (l := [0, 1, 2, 3, 4, 5, 6, 7, 8, 9, 10, 11]) rfl ?_
   refine G_val rfl rfl rfl rfl (V_move rfl rfl) ?_
   first
     | refine G_val rfl rfl rfl rfl (V_nilCheck rfl rfl) ?_
     | refine G_val rfl rfl rfl rfl (V_nilCheckF rfl rfl) ?_
   refine G_val rfl rfl rfl rfl (V_fieldAddr (fo := 0) rfl Try.underlying169 rfl infReadW_9 rfl rfl rfl) ?_
   refine G_val rfl rfl rfl rfl (V_load1 rfl rfl (mem_at 0 rfl) rfl Try.underlying9 rfl) ?_
   refine G_call (L2 := [_]) rfl rfl rfl rfl rfl rfl Try.call131 (ct_unchain _ v n e1 hu (by omega)) [] [] rfl rfl ?_
   rintro v post ⟨rfl, rfl⟩
   show G _ _ _ [_] _
   refine G_val rfl rfl rfl rfl (V_move rfl rfl) ?_
   refine G_val rfl rfl rfl rfl (V_extract rfl rfl rfl) ?_
   refine G_val rfl rfl rfl rfl (V_extract rfl rfl rfl) ?_
   refine G_val rfl rfl rfl rfl (V_extract rfl rfl rfl) ?_
   refine G_val rfl rfl rfl rfl (V_assign rfl rfl) ?_
   refine G_val rfl rfl rfl rfl (V_assign rfl rfl) ?_
   refine G_val rfl rfl rfl rfl (V_assign rfl rfl) ?_
   refine G_done ?_
   refine G_seq ?_
   refine G_seq ?_
   refine G_region (l := [0, 1, 2, 3, 4, 5, 6, 7, 8, 9, 10, 11]) rfl ?_
   refine G_val rfl rfl rfl rfl (V_move rfl rfl) ?_
   refine G_val rfl rfl rfl rfl (V_eql rfl rfl rfl) ?_
   refine G_val rfl rfl rfl rfl (V_move rfl rfl) ?_
   refine G_splitD 22 rfl (fun hc2 => ?_) (fun hc2 => ?_)
   rotate_left
   · (exfalso; omega)
   refine G_val rfl rfl rfl rfl (V_move rfl rfl) ?_
   refine G_val rfl rfl rfl rfl (V_lss rfl rfl rfl) ?_
   refine G_val rfl rfl rfl rfl (V_move rfl rfl) ?_
   refine G_splitD 25 rfl (fun hc3 => ?_) (fun hc3 => ?_)
   · (exfalso; omega)
   refine G_val rfl rfl rfl rfl (V_move rfl rfl) ?_
   refine G_val rfl rfl rfl rfl (V_move rfl rfl) ?_
   first
     | refine G_val rfl rfl rfl rfl ((V_conv rfl rfl Try.underlying3 Try.underlying23).int (wrap_u64 (by omega))) ?_
     | refine G_val rfl rfl rfl rfl (V_conv rfl rfl Try.underlying3 Try.underlying23) ?_
   refine G_val rfl rfl rfl rfl (V_gtr rfl rfl rfl) ?_
   refine G_val rfl rfl rfl rfl (V_pickF rfl rfl rfl) ?_
   refine G_val rfl rfl rfl rfl (V_pickT rfl rfl rfl) ?_
   refine G_done ?_
   refine G_ifD rfl (fun hc4 => ?_) (fun hc4 => ?_)
   rotate_left
   · (exfalso; omega)
   refine G_region (l := [0]) rfl ?_
   refine G_val rfl rfl rfl rfl (V_assign rfl rfl) ?_
   refine G_done ?_
   refine G_seq ?_
   refine G_seq ?_
   refine G_region (l := [0, 1, 2, 3, 4]) rfl ?_
   refine G_val rfl rfl rfl rfl (V_move rfl rfl) ?_
   refine G_val rfl rfl rfl rfl (V_move rfl rfl) ?_
   refine G_val rfl rfl rfl rfl (V_move rfl rfl) ?_
   refine G_call (L2 := []) rfl rfl rfl rfl rfl rfl Try.call132 (rd_took0 _ _ _ _ 4 (by omega)) [0] [] rfl rfl ?_
   rintro v post ⟨rfl, rfl⟩
   show G _ _ _ [_] _
   refine G_val rfl rfl rfl rfl (V_not rfl rfl) ?_
   refine G_done ?_
   refine G_then rfl ?_
   refine G_seq ?_
   refine G_region (l := [0]) rfl ?_
   refine G_val rfl rfl rfl rfl (V_assign rfl rfl) ?_
   refine G_done ?_
   refine G_ret (post := [_]) Try.func84 rfl (RVs_cons (RV_tmp rfl) RVs_nil) [0] rfl ?_
   dsimp only [packed]
   first
     | (rw [rdInt_err most l e (by omega)]; exact ⟨rfl, rfl⟩)
     | (obtain rfl : e = 0 := by omega
        rw [rdInt_bad most l v n e1 hu (by omega)]; subst h2; exact ⟨rfl, rfl⟩)
     | (obtain rfl : e = 0 := by omega
        subst h0; rw [rdInt_long most l v n hu (.inr h2)]; exact ⟨rfl, rfl⟩)
     | (obtain rfl : e = 0 := by omega
        subst h0; rw [rdInt_ok most l v n hu (by omega)]; exact ⟨rfl, rfl⟩)
 · skip
   refine G_region (l := [0, 1, 2, 3, 4, 5, 6, 7, 8, 9, 10, 11]) rfl ?_
   refine G_val rfl rfl rfl rfl (V_move rfl rfl) ?_
   first
     | refine G_val rfl rfl rfl rfl (V_nilCheck rfl rfl) ?_
     | refine G_val rfl rfl rfl rfl (V_nilCheckF rfl rfl) ?_
   refine G_val rfl rfl rfl rfl (V_fieldAddr (fo := 0) rfl Try.underlying169 rfl infReadW_9 rfl rfl rfl) ?_
   refine G_val rfl rfl rfl rfl (V_load1 rfl rfl (mem_at 0 rfl) rfl Try.underlying9 rfl) ?_
   refine G_call (L2 := [_]) rfl rfl rfl rfl rfl rfl Try.call131 (ct_unchain _ v n e1 hu (by omega)) [] [] rfl rfl ?_
   rintro v post ⟨rfl, rfl⟩
   show G _ _ _ [_] _
   refine G_val rfl rfl rfl rfl (V_move rfl rfl) ?_
   refine G_val rfl rfl rfl rfl (V_extract rfl rfl rfl) ?_
   refine G_val rfl rfl rfl rfl (V_extract rfl rfl rfl) ?_
   refine G_val rfl rfl rfl rfl (V_extract rfl rfl rfl) ?_
   refine G_val rfl rfl rfl rfl (V_assign rfl rfl) ?_
   refine G_val rfl rfl rfl rfl (V_assign rfl rfl) ?_
   refine G_val rfl rfl rfl rfl (V_assign rfl rfl) ?_
   refine G_done ?_
   refine G_seq ?_
   refine G_seq ?_
   refine G_region (l := [0, 1, 2, 3, 4, 5, 6, 7, 8, 9, 10, 11]) rfl ?_
   refine G_val rfl rfl rfl rfl (V_move rfl rfl) ?_
   refine G_val rfl rfl rfl rfl (V_eql rfl rfl rfl) ?_
   refine G_val rfl rfl rfl rfl (V_move rfl rfl) ?_
   refine G_splitD 22 rfl (fun hc2 => ?_) (fun hc2 => ?_)
   rotate_left
   · (exfalso; omega)
   refine G_val rfl rfl rfl rfl (V_move rfl rfl) ?_
   refine G_val rfl rfl rfl rfl (V_lss rfl rfl rfl) ?_
   refine G_val rfl rfl rfl rfl (V_move rfl rfl) ?_
   refine G_splitD 25 rfl (fun hc3 => ?_) (fun hc3 => ?_)
   · (exfalso; omega)
   refine G_val rfl rfl rfl rfl (V_move rfl rfl) ?_
   refine G_val rfl rfl rfl rfl (V_move rfl rfl) ?_
   first
     | refine G_val rfl rfl rfl rfl ((V_conv rfl rfl Try.underlying3 Try.underlying23).int (wrap_u64 (by omega))) ?_
     | refine G_val rfl rfl rfl rfl (V_conv rfl rfl Try.underlying3 Try.underlying23) ?_
   refine G_val rfl rfl rfl rfl (V_gtr rfl rfl rfl) ?_
   refine G_val rfl rfl rfl rfl (V_pickF rfl rfl rfl) ?_
   refine G_val rfl rfl rfl rfl (V_pickT rfl rfl rfl) ?_
   refine G_done ?_
   refine G_ifD rfl (fun hc4 => ?_) (fun hc4 => ?_)
   · (exfalso; omega)
   refine G_skip ?_
   refine G_seq ?_
   refine G_seq ?_
   refine G_region (l := [0, 1, 2, 3, 4]) rfl ?_
   refine G_val rfl rfl rfl rfl (V_move rfl rfl) ?_
   refine G_val rfl rfl rfl rfl (V_move rfl rfl) ?_
   refine G_val rfl rfl rfl rfl (V_move rfl rfl) ?_
   refine G_call (L2 := []) rfl rfl rfl rfl rfl rfl Try.call132 (rd_took1 _ _ _ _ _ (by omega) (by omega)) [0] [] rfl rfl ?_
   rintro v post ⟨rfl, rfl⟩
   show G _ _ _ [_] _
   refine G_val rfl rfl rfl rfl (V_not rfl rfl) ?_
   refine G_done ?_
   refine G_else rfl ?_
   refine G_skip ?_
   refine G_seq ?_
   refine G_region (l := [0, 1, 2]) rfl ?_
   refine G_val rfl rfl rfl rfl (V_move rfl rfl) ?_
   first
     | refine G_val rfl rfl rfl rfl ((V_conv rfl rfl Try.underlying23 Try.underlying3).int (wrap_i64 (by omega))) ?_
     | refine G_val rfl rfl rfl rfl (V_conv rfl rfl Try.underlying23 Try.underlying3) ?_
   refine G_val rfl rfl rfl rfl (V_assign rfl rfl) ?_
   refine G_done ?_
   refine G_ret (post := [_]) Try.func84 rfl (RVs_cons (RV_tmp rfl) RVs_nil) [0] rfl ?_
   dsimp only [packed]
   first
     | (rw [rdInt_err most l e (by omega)]; exact ⟨rfl, rfl⟩)
     | (obtain rfl : e = 0 := by omega
        rw [rdInt_bad most l v n e1 hu (by omega)]; subst h2; exact ⟨rfl, rfl⟩)
     | (obtain rfl : e = 0 := by omega
        subst h0; rw [rdInt_long most l v n hu (.inr h2)]; exact ⟨rfl, rfl⟩)
     | (obtain rfl : e = 0 := by omega
        subst h0; rw [rdInt_ok most l v n hu (by omega)]; exact ⟨rfl, rfl⟩)
 · skip
   refine G_region (l := [0, 1, 2, 3, 4, 5, 6, 7, 8, 9, 10, 11]) rfl ?_
   refine G_val rfl rfl rfl rfl (V_move rfl rfl) ?_
   first
     | refine G_val rfl rfl rfl rfl (V_nilCheck rfl rfl) ?_
     | refine G_val rfl rfl rfl rfl (V_nilCheckF rfl rfl) ?_
   refine G_val rfl rfl rfl rfl (V_fieldAddr (fo := 0) rfl Try.underlying169 rfl infReadW_9 rfl rfl rfl) ?_
   refine G_val rfl rfl rfl rfl (V_load1 rfl rfl (mem_at 0 rfl) rfl Try.underlying9 rfl) ?_
   refine G_call (L2 := [_]) rfl rfl rfl rfl rfl rfl Try.call131 (ct_unchain _ v n e1 hu (by omega)) [] [] rfl rfl ?_
   rintro v post ⟨rfl, rfl⟩
   show G _ _ _ [_] _
   refine G_val rfl rfl rfl rfl (V_move rfl rfl) ?_
   refine G_val rfl rfl rfl rfl (V_extract rfl rfl rfl) ?_
   refine G_val rfl rfl rfl rfl (V_extract rfl rfl rfl) ?_
   refine G_val rfl rfl rfl rfl (V_extract rfl rfl rfl) ?_
   refine G_val rfl rfl rfl rfl (V_assign rfl rfl) ?_
   refine G_val rfl rfl rfl rfl (V_assign rfl rfl) ?_
   refine G_val rfl rfl rfl rfl (V_assign rfl rfl) ?_
   refine G_done ?_
   refine G_seq ?_
   refine G_seq ?_
   refine G_region (l := [0, 1, 2, 3, 4, 5, 6, 7, 8, 9, 10, 11]) rfl ?_
   refine G_val rfl rfl rfl rfl (V_move rfl rfl) ?_
   refine G_val rfl rfl rfl rfl (V_eql rfl rfl rfl) ?_
   refine G_val rfl rfl rfl rfl (V_move rfl rfl) ?_
   refine G_splitD 22 rfl (fun hc2 => ?_) (fun hc2 => ?_)
   · (exfalso; omega)
   refine G_off rfl rfl rfl rfl ?_
   refine G_off rfl rfl rfl rfl ?_
   refine G_off rfl rfl rfl rfl ?_
   refine G_off rfl rfl rfl rfl ?_
   refine G_off rfl rfl rfl rfl ?_
   refine G_off rfl rfl rfl rfl ?_
   refine G_off rfl rfl rfl rfl ?_
   refine G_off rfl rfl rfl rfl ?_
   refine G_val rfl rfl rfl rfl (V_pickF rfl rfl rfl) ?_
   refine G_done ?_
   refine G_else rfl ?_
   refine G_skip ?_
   refine G_seq ?_
   refine G_seq ?_
   refine G_region (l := [0, 1, 2, 3, 4]) rfl ?_
   refine G_val rfl rfl rfl rfl (V_move rfl rfl) ?_
   refine G_val rfl rfl rfl rfl (V_move rfl rfl) ?_
   refine G_val rfl rfl rfl rfl (V_move rfl rfl) ?_
   refine G_call (L2 := []) rfl rfl rfl rfl rfl rfl Try.call132 (rd_took0 _ _ _ _ _ (by omega)) [0] [] rfl rfl ?_
   rintro v post ⟨rfl, rfl⟩
   show G _ _ _ [_] _
   refine G_val rfl rfl rfl rfl (V_not rfl rfl) ?_
   refine G_done ?_
   refine G_then rfl ?_
   refine G_seq ?_
   refine G_region (l := [0]) rfl ?_
   refine G_val rfl rfl rfl rfl (V_assign rfl rfl) ?_
   refine G_done ?_
   refine G_ret (post := [_]) Try.func84 rfl (RVs_cons (RV_tmp rfl) RVs_nil) [0] rfl ?_
   dsimp only [packed]
   first
     | (rw [rdInt_err most l e (by omega)]; exact ⟨rfl, rfl⟩)
     | (obtain rfl : e = 0 := by omega
        rw [rdInt_bad most l v n e1 hu (by omega)]; subst h2; exact ⟨rfl, rfl⟩)
     | (obtain rfl : e = 0 := by omega
        subst h0; rw [rdInt_long most l v n hu (.inr h2)]; exact ⟨rfl, rfl⟩)
     | (obtain rfl : e = 0 := by omega
        subst h0; rw [rdInt_ok most l v n hu (by omega)]; exact ⟨rfl, rfl⟩)

set_option maxRecDepth 100000 in
set_option maxHeartbeats 1000000 in
theorem rd_str (b : Nat) (l : List UInt8) (e : Nat) (most : Int) (hl : l.length ≤ 140737488351232) (he : e ≤ 1000) (hm : 0 ≤ most ∧ most ≤ 4611686018427387904) :
    Ct Try.prog 134 [.pointer (some ⟨b, 0, none⟩), .int .i64 most] [] [(some b, .cells #[.string (bs l), .int .i64 ((e : Nat) : Int)] 169 (0, 0))] fun r post => r = .string (bs (rdStr most l e).1) ∧ post = [(some b, .cells #[.string (bs (rdStr most l e).2.1), .int .i64 (((rdStr most l e).2.2 : Nat) : Int)] 169 (0, 0))] := by
 obtain ⟨s, n, e1, hu⟩ : ∃ s n e1, untext l most = (s, n, e1) := ⟨_, _, _, rfl⟩
 refine ct_of Try.func134 rfl rfl (fun w0 => ?_)
 show G _ _ [(0, _), (1, _)] _ _
 refine G_seq ?_
 refine G_region (l := [0]) rfl ?_
 refine G_val rfl rfl rfl rfl (V_assign rfl rfl) ?_
 refine G_done ?_
 refine G_seq ?_
 refine G_seq ?_
 refine G_region (l := [0, 1, 2]) rfl ?_
 refine G_val rfl rfl rfl rfl (V_move rfl rfl) ?_
 refine G_call (L2 := [_]) rfl rfl rfl rfl rfl rfl Try.call130 (rd_ok _ _ _) [] [0] rfl rfl ?_
 rintro v post ⟨rfl, rfl⟩
 show G _ _ _ [_] _
 refine G_val rfl rfl rfl rfl (V_notD rfl rfl) ?_
 refine G_done ?_
 refine G_ifD rfl (fun hc1 => ?_) (fun hc1 => ?_)
 · skip
   refine G_seq ?_
   refine G_region (l := [0]) rfl ?_
   refine G_val rfl rfl rfl rfl (V_assign rfl rfl) ?_
   refine G_done ?_
   refine G_ret (post := [_]) Try.func134 rfl (RVs_cons (RV_tmp rfl) RVs_nil) [0] rfl ?_
   dsimp only [packed]
   first
     | (rw [rdStr_err most l e (by omega)]; exact ⟨rfl, rfl⟩)
     | (obtain rfl : e = 0 := by omega
        rw [rdStr_bad most l s n e1 hu (by omega)]; subst h0; exact ⟨rfl, rfl⟩)
     | (obtain rfl : e = 0 := by omega
        subst h0; rw [rdStr_ok most l s n hu]; exact ⟨rfl, rfl⟩)
 refine G_skip ?_
 refine G_seq ?_
 rcases untext_ok l most s n e1 hu with ⟨h0, h1, h2, h3⟩ | ⟨h0, h1, h2, h3⟩
 · skip
   refine G_region (l := [0, 1, 2, 3, 4, 5, 6, 7, 8, 9, 10, 11, 12]) rfl ?_
   refine G_val rfl rfl rfl rfl (V_move rfl rfl) ?_
   first
     | refine G_val rfl rfl rfl rfl (V_nilCheck rfl rfl) ?_
     | refine G_val rfl rfl rfl rfl (V_nilCheckF rfl rfl) ?_
   refine G_val rfl rfl rfl rfl (V_fieldAddr (fo := 0) rfl Try.underlying169 rfl infReadW_9 rfl rfl rfl) ?_
   refine G_val rfl rfl rfl rfl (V_load1 rfl rfl (mem_at 0 rfl) rfl Try.underlying9 rfl) ?_
   refine G_val rfl rfl rfl rfl (V_move rfl rfl) ?_
   refine G_call (L2 := [_]) rfl rfl rfl rfl rfl rfl Try.call152 (ct_untext _ _ s n e1 hu (by omega) hm) [] [] rfl rfl ?_
   rintro v post ⟨rfl, rfl⟩
   show G _ _ _ [_] _
   refine G_val rfl rfl rfl rfl (V_move rfl rfl) ?_
   refine G_val rfl rfl rfl rfl (V_extract rfl rfl rfl) ?_
   refine G_val rfl rfl rfl rfl (V_extract rfl rfl rfl) ?_
   refine G_val rfl rfl rfl rfl (V_extract rfl rfl rfl) ?_
   refine G_val rfl rfl rfl rfl (V_assign rfl rfl) ?_
   refine G_val rfl rfl rfl rfl (V_assign rfl rfl) ?_
   refine G_val rfl rfl rfl rfl (V_assign rfl rfl) ?_
   refine G_done ?_
   refine G_seq ?_
   refine G_region (l := [0, 1, 2, 3]) rfl ?_
   refine G_val rfl rfl rfl rfl (V_move rfl rfl) ?_
   refine G_val rfl rfl rfl rfl (V_move rfl rfl) ?_
   refine G_val rfl rfl rfl rfl (V_move rfl rfl) ?_
   refine G_call (L2 := []) rfl rfl rfl rfl rfl rfl Try.call132 (rd_took1 _ _ _ _ _ (by omega) (by omega)) [0] [] rfl rfl ?_
   rintro v post ⟨rfl, rfl⟩
   show G _ _ _ [_] _
   refine G_done ?_
   refine G_seq ?_
   refine G_region (l := [0, 1]) rfl ?_
   refine G_val rfl rfl rfl rfl (V_move rfl rfl) ?_
   refine G_val rfl rfl rfl rfl (V_assign rfl rfl) ?_
   refine G_done ?_
   refine G_ret (post := [_]) Try.func134 rfl (RVs_cons (RV_tmp rfl) RVs_nil) [0] rfl ?_
   dsimp only [packed]
   first
     | (rw [rdStr_err most l e (by omega)]; exact ⟨rfl, rfl⟩)
     | (obtain rfl : e = 0 := by omega
        rw [rdStr_bad most l s n e1 hu (by omega)]; subst h0; exact ⟨rfl, rfl⟩)
     | (obtain rfl : e = 0 := by omega
        subst h0; rw [rdStr_ok most l s n hu]; exact ⟨rfl, rfl⟩)
 · skip
   refine G_region (l := [0, 1, 2, 3, 4, 5, 6, 7, 8, 9, 10, 11, 12]) rfl ?_
   refine G_val rfl rfl rfl rfl (V_move rfl rfl) ?_
   first
     | refine G_val rfl rfl rfl rfl (V_nilCheck rfl rfl) ?_
     | refine G_val rfl rfl rfl rfl (V_nilCheckF rfl rfl) ?_
   refine G_val rfl rfl rfl rfl (V_fieldAddr (fo := 0) rfl Try.underlying169 rfl infReadW_9 rfl rfl rfl) ?_
   refine G_val rfl rfl rfl rfl (V_load1 rfl rfl (mem_at 0 rfl) rfl Try.underlying9 rfl) ?_
   refine G_val rfl rfl rfl rfl (V_move rfl rfl) ?_
   refine G_call (L2 := [_]) rfl rfl rfl rfl rfl rfl Try.call152 (ct_untext _ _ s n e1 hu (by omega) hm) [] [] rfl rfl ?_
   rintro v post ⟨rfl, rfl⟩
   show G _ _ _ [_] _
   refine G_val rfl rfl rfl rfl (V_move rfl rfl) ?_
   refine G_val rfl rfl rfl rfl (V_extract rfl rfl rfl) ?_
   refine G_val rfl rfl rfl rfl (V_extract rfl rfl rfl) ?_
   refine G_val rfl rfl rfl rfl (V_extract rfl rfl rfl) ?_
   refine G_val rfl rfl rfl rfl (V_assign rfl rfl) ?_
   refine G_val rfl rfl rfl rfl (V_assign rfl rfl) ?_
   refine G_val rfl rfl rfl rfl (V_assign rfl rfl) ?_
   refine G_done ?_
   refine G_seq ?_
   refine G_region (l := [0, 1, 2, 3]) rfl ?_
   refine G_val rfl rfl rfl rfl (V_move rfl rfl) ?_
   refine G_val rfl rfl rfl rfl (V_move rfl rfl) ?_
   refine G_val rfl rfl rfl rfl (V_move rfl rfl) ?_
   refine G_call (L2 := []) rfl rfl rfl rfl rfl rfl Try.call132 (rd_took0 _ _ _ _ _ (by omega)) [0] [] rfl rfl ?_
   rintro v post ⟨rfl, rfl⟩
   show G _ _ _ [_] _
   refine G_done ?_
   refine G_seq ?_
   refine G_region (l := [0, 1]) rfl ?_
   refine G_val rfl rfl rfl rfl (V_move rfl rfl) ?_
   refine G_val rfl rfl rfl rfl (V_assign rfl rfl) ?_
   refine G_done ?_
   refine G_ret (post := [_]) Try.func134 rfl (RVs_cons (RV_tmp rfl) RVs_nil) [0] rfl ?_
   dsimp only [packed]
   first
     | (rw [rdStr_err most l e (by omega)]; exact ⟨rfl, rfl⟩)
     | (obtain rfl : e = 0 := by omega
        rw [rdStr_bad most l s n e1 hu (by omega)]; subst h0; exact ⟨rfl, rfl⟩)
     | (obtain rfl : e = 0 := by omega
        subst h0; rw [rdStr_ok most l s n hu]; exact ⟨rfl, rfl⟩)

set_option maxRecDepth 100000 in
set_option maxHeartbeats 1000000 in
theorem rd_flag (b : Nat) (l : List UInt8) (e : Nat) (hl : l.length ≤ 140737488351232) (he : e ≤ 1000) :
    Ct Try.prog 141 [.pointer (some ⟨b, 0, none⟩)] [] [(some b, .cells #[.string (bs l), .int .i64 ((e : Nat) : Int)] 169 (0, 0))] fun r post => r = .bool (rdFlag l e).1 ∧ post = [(some b, .cells #[.string (bs (rdFlag l e).2.1), .int .i64 (((rdFlag l e).2.2 : Nat) : Int)] 169 (0, 0))] := by
 obtain ⟨v, n, e1, hu⟩ : ∃ v n e1, unchain l = (v, n, e1) := ⟨_, _, _, rfl⟩
 obtain ⟨hv, hb⟩ := unchain_bd hu
 refine ct_of Try.func141 rfl rfl (fun w0 => ?_)
 show G _ _ [(0, _)] _ _
 refine G_seq ?_
 refine G_region (l := [0]) rfl ?_
 refine G_val rfl rfl rfl rfl (V_assign rfl rfl) ?_
 refine G_done ?_
 refine G_seq ?_
 refine G_seq ?_
 refine G_region (l := [0, 1, 2]) rfl ?_
 refine G_val rfl rfl rfl rfl (V_move rfl rfl) ?_
 refine G_call (L2 := [_]) rfl rfl rfl rfl rfl rfl Try.call130 (rd_ok _ _ _) [] [0] rfl rfl ?_
 rintro v post ⟨rfl, rfl⟩
 show G _ _ _ [_] _
 refine G_val rfl rfl rfl rfl (V_notD rfl rfl) ?_
 refine G_done ?_
 refine G_ifD rfl (fun hc1 => ?_) (fun hc1 => ?_)
 · skip
   refine G_seq ?_
   refine G_region (l := [0]) rfl ?_
   refine G_val rfl rfl rfl rfl (V_assign rfl rfl) ?_
   refine G_done ?_
   refine G_ret (post := [_]) Try.func141 rfl (RVs_cons (RV_tmp rfl) RVs_nil) [0] rfl ?_
   dsimp only [packed]
   first
     | (rw [rdFlag_err l e (by omega)]; exact ⟨rfl, rfl⟩)
     | (obtain rfl : e = 0 := by omega
        rw [rdFlag_bad l v n e1 hu (by omega)]; exact ⟨rfl, rfl⟩)
     | (obtain rfl : e = 0 := by omega
        subst h0; rw [rdFlag_long l v n hu h2]; exact ⟨rfl, rfl⟩)
     | (obtain rfl : e = 0 := by omega
        subst h0; rw [rdFlag_ok l v n hu h2]; refine ⟨bool_eq (Bool.eq_iff_iff.2 ?_), rfl⟩; first | (simp; done) | (simp; omega) | (simp [*]; done))
 refine G_skip ?_
 refine G_seq ?_
 rcases (by omega : (e1 = 0 ∧ n ≤ l.length ∧ 1 < v) ∨ (e1 = 0 ∧ n ≤ l.length ∧ ¬ 1 < v) ∨ (0 < e1 ∧ e1 ≤ 3 ∧ v = 0)) with ⟨h0, h1, h2⟩ | ⟨h0, h1, h2⟩ | ⟨h0, h1, h2⟩
 · skip
   refine G_region (l := [0, 1, 2, 3, 4, 5, 6, 7, 8, 9, 10, 11]) rfl ?_
   refine G_val rfl rfl rfl rfl (V_move rfl rfl) ?_
   first
     | refine G_val rfl rfl rfl rfl (V_nilCheck rfl rfl) ?_
     | refine G_val rfl rfl rfl rfl (V_nilCheckF rfl rfl) ?_
   refine G_val rfl rfl rfl rfl (V_fieldAddr (fo := 0) rfl Try.underlying169 rfl infReadW_9 rfl rfl rfl) ?_
   refine G_val rfl rfl rfl rfl (V_load1 rfl rfl (mem_at 0 rfl) rfl Try.underlying9 rfl) ?_
   refine G_call (L2 := [_]) rfl rfl rfl rfl rfl rfl Try.call131 (ct_unchain _ v n e1 hu (by omega)) [] [] rfl rfl ?_
   rintro v post ⟨rfl, rfl⟩
   show G _ _ _ [_] _
   refine G_val rfl rfl rfl rfl (V_move rfl rfl) ?_
   refine G_val rfl rfl rfl rfl (V_extract rfl rfl rfl) ?_
   refine G_val rfl rfl rfl rfl (V_extract rfl rfl rfl) ?_
   refine G_val rfl rfl rfl rfl (V_extract rfl rfl rfl) ?_
   refine G_val rfl rfl rfl rfl (V_assign rfl rfl) ?_
   refine G_val rfl rfl rfl rfl (V_assign rfl rfl) ?_
   refine G_val rfl rfl rfl rfl (V_assign rfl rfl) ?_
   refine G_done ?_
   refine G_seq ?_
   refine G_seq ?_
   refine G_region (l := [0, 1, 2, 3, 4, 5]) rfl ?_
   refine G_val rfl rfl rfl rfl (V_move rfl rfl) ?_
   refine G_val rfl rfl rfl rfl (V_eql rfl rfl rfl) ?_
   refine G_val rfl rfl rfl rfl (V_move rfl rfl) ?_
   refine G_splitD 20 rfl (fun hc2 => ?_) (fun hc2 => ?_)
   rotate_left
   · (exfalso; omega)
   refine G_val rfl rfl rfl rfl (V_move rfl rfl) ?_
   refine G_val rfl rfl rfl rfl (V_gtr rfl rfl rfl) ?_
   refine G_val rfl rfl rfl rfl (V_pickT rfl rfl rfl) ?_
   refine G_done ?_
   refine G_ifD rfl (fun hc3 => ?_) (fun hc3 => ?_)
   rotate_left
   · (exfalso; omega)
   refine G_region (l := [0]) rfl ?_
   refine G_val rfl rfl rfl rfl (V_assign rfl rfl) ?_
   refine G_done ?_
   refine G_seq ?_
   refine G_region (l := [0, 1, 2, 3, 4, 5, 6, 7, 8]) rfl ?_
   refine G_val rfl rfl rfl rfl (V_move rfl rfl) ?_
   refine G_val rfl rfl rfl rfl (V_move rfl rfl) ?_
   refine G_val rfl rfl rfl rfl (V_move rfl rfl) ?_
   refine G_call (L2 := []) rfl rfl rfl rfl rfl rfl Try.call132 (rd_took0 _ _ _ _ 3 (by omega)) [0] [] rfl rfl ?_
   rintro v post ⟨rfl, rfl⟩
   show G _ _ _ [_] _
   refine G_val rfl rfl rfl rfl (V_move rfl rfl) ?_
   refine G_off rfl rfl rfl rfl ?_
   refine G_off rfl rfl rfl rfl ?_
   refine G_val rfl rfl rfl rfl (V_pickF rfl rfl rfl) ?_
   refine G_val rfl rfl rfl rfl (V_assign rfl rfl) ?_
   refine G_done ?_
   refine G_ret (post := [_]) Try.func141 rfl (RVs_cons (RV_tmp rfl) RVs_nil) [0] rfl ?_
   dsimp only [packed]
   first
     | (rw [rdFlag_err l e (by omega)]; exact ⟨rfl, rfl⟩)
     | (obtain rfl : e = 0 := by omega
        rw [rdFlag_bad l v n e1 hu (by omega)]; exact ⟨rfl, rfl⟩)
     | (obtain rfl : e = 0 := by omega
        subst h0; rw [rdFlag_long l v n hu h2]; exact ⟨rfl, rfl⟩)
     | (obtain rfl : e = 0 := by omega
        subst h0; rw [rdFlag_ok l v n hu h2]; refine ⟨bool_eq (Bool.eq_iff_iff.2 ?_), rfl⟩; first | (simp; done) | (simp; omega) | (simp [*]; done))
 · skip
   refine G_region (l := [0, 1, 2, 3, 4, 5, 6, 7, 8, 9, 10, 11]) rfl ?_
   refine G_val rfl rfl rfl rfl (V_move rfl rfl) ?_
   first
     | refine G_val rfl rfl rfl rfl (V_nilCheck rfl rfl) ?_
     | refine G_val rfl rfl rfl rfl (V_nilCheckF rfl rfl) ?_
   refine G_val rfl rfl rfl rfl (V_fieldAddr (fo := 0) rfl Try.underlying169 rfl infReadW_9 rfl rfl rfl) ?_
   refine G_val rfl rfl rfl rfl (V_load1 rfl rfl (mem_at 0 rfl) rfl Try.underlying9 rfl) ?_
   refine G_call (L2 := [_]) rfl rfl rfl rfl rfl rfl Try.call131 (ct_unchain _ v n e1 hu (by omega)) [] [] rfl rfl ?_
   rintro v post ⟨rfl, rfl⟩
   show G _ _ _ [_] _
   refine G_val rfl rfl rfl rfl (V_move rfl rfl) ?_
   refine G_val rfl rfl rfl rfl (V_extract rfl rfl rfl) ?_
   refine G_val rfl rfl rfl rfl (V_extract rfl rfl rfl) ?_
   refine G_val rfl rfl rfl rfl (V_extract rfl rfl rfl) ?_
   refine G_val rfl rfl rfl rfl (V_assign rfl rfl) ?_
   refine G_val rfl rfl rfl rfl (V_assign rfl rfl) ?_
   refine G_val rfl rfl rfl rfl (V_assign rfl rfl) ?_
   refine G_done ?_
   refine G_seq ?_
   refine G_seq ?_
   refine G_region (l := [0, 1, 2, 3, 4, 5]) rfl ?_
   refine G_val rfl rfl rfl rfl (V_move rfl rfl) ?_
   refine G_val rfl rfl rfl rfl (V_eql rfl rfl rfl) ?_
   refine G_val rfl rfl rfl rfl (V_move rfl rfl) ?_
   refine G_splitD 20 rfl (fun hc2 => ?_) (fun hc2 => ?_)
   rotate_left
   · (exfalso; omega)
   refine G_val rfl rfl rfl rfl (V_move rfl rfl) ?_
   refine G_val rfl rfl rfl rfl (V_gtr rfl rfl rfl) ?_
   refine G_val rfl rfl rfl rfl (V_pickT rfl rfl rfl) ?_
   refine G_done ?_
   refine G_ifD rfl (fun hc3 => ?_) (fun hc3 => ?_)
   · (exfalso; omega)
   refine G_skip ?_
   refine G_seq ?_
   refine G_region (l := [0, 1, 2, 3, 4, 5, 6, 7, 8]) rfl ?_
   refine G_val rfl rfl rfl rfl (V_move rfl rfl) ?_
   refine G_val rfl rfl rfl rfl (V_move rfl rfl) ?_
   refine G_val rfl rfl rfl rfl (V_move rfl rfl) ?_
   refine G_call (L2 := []) rfl rfl rfl rfl rfl rfl Try.call132 (rd_took1 _ _ _ _ _ (by omega) (by omega)) [0] [] rfl rfl ?_
   rintro v post ⟨rfl, rfl⟩
   show G _ _ _ [_] _
   refine G_val rfl rfl rfl rfl (V_move rfl rfl) ?_
   refine G_val rfl rfl rfl rfl (V_move rfl rfl) ?_
   refine G_val rfl rfl rfl rfl (V_eql rfl rfl rfl) ?_
   refine G_val rfl rfl rfl rfl (V_pickT rfl rfl rfl) ?_
   refine G_val rfl rfl rfl rfl (V_assign rfl rfl) ?_
   refine G_done ?_
   refine G_ret (post := [_]) Try.func141 rfl (RVs_cons (RV_tmp rfl) RVs_nil) [0] rfl ?_
   dsimp only [packed]
   first
     | (rw [rdFlag_err l e (by omega)]; exact ⟨rfl, rfl⟩)
     | (obtain rfl : e = 0 := by omega
        rw [rdFlag_bad l v n e1 hu (by omega)]; exact ⟨rfl, rfl⟩)
     | (obtain rfl : e = 0 := by omega
        subst h0; rw [rdFlag_long l v n hu h2]; exact ⟨rfl, rfl⟩)
     | (obtain rfl : e = 0 := by omega
        subst h0; rw [rdFlag_ok l v n hu h2]; refine ⟨bool_eq (Bool.eq_iff_iff.2 ?_), rfl⟩; first | (simp; done) | (simp; omega) | (simp [*]; done))
 · skip
   refine G_region (l := [0, 1, 2, 3, 4, 5, 6, 7, 8, 9, 10, 11]) rfl ?_
   refine G_val rfl rfl rfl rfl (V_move rfl rfl) ?_
   first
     | refine G_val rfl rfl rfl rfl (V_nilCheck rfl rfl) ?_
     | refine G_val rfl rfl rfl rfl (V_nilCheckF rfl rfl) ?_
   refine G_val rfl rfl rfl rfl (V_fieldAddr (fo := 0) rfl Try.underlying169 rfl infReadW_9 rfl rfl rfl) ?_
   refine G_val rfl rfl rfl rfl (V_load1 rfl rfl (mem_at 0 rfl) rfl Try.underlying9 rfl) ?_
   refine G_call (L2 := [_]) rfl rfl rfl rfl rfl rfl Try.call131 (ct_unchain _ v n e1 hu (by omega)) [] [] rfl rfl ?_
   rintro v post ⟨rfl, rfl⟩
   show G _ _ _ [_] _
   refine G_val rfl rfl rfl rfl (V_move rfl rfl) ?_
   refine G_val rfl rfl rfl rfl (V_extract rfl rfl rfl) ?_
   refine G_val rfl rfl rfl rfl (V_extract rfl rfl rfl) ?_
   refine G_val rfl rfl rfl rfl (V_extract rfl rfl rfl) ?_
   refine G_val rfl rfl rfl rfl (V_assign rfl rfl) ?_
   refine G_val rfl rfl rfl rfl (V_assign rfl rfl) ?_
   refine G_val rfl rfl rfl rfl (V_assign rfl rfl) ?_
   refine G_done ?_
   refine G_seq ?_
   refine G_seq ?_
   refine G_region (l := [0, 1, 2, 3, 4, 5]) rfl ?_
   refine G_val rfl rfl rfl rfl (V_move rfl rfl) ?_
   refine G_val rfl rfl rfl rfl (V_eql rfl rfl rfl) ?_
   refine G_val rfl rfl rfl rfl (V_move rfl rfl) ?_
   refine G_splitD 20 rfl (fun hc2 => ?_) (fun hc2 => ?_)
   · (exfalso; omega)
   refine G_off rfl rfl rfl rfl ?_
   refine G_off rfl rfl rfl rfl ?_
   refine G_val rfl rfl rfl rfl (V_pickF rfl rfl rfl) ?_
   refine G_done ?_
   refine G_else rfl ?_
   refine G_skip ?_
   refine G_seq ?_
   refine G_region (l := [0, 1, 2, 3, 4, 5, 6, 7, 8]) rfl ?_
   refine G_val rfl rfl rfl rfl (V_move rfl rfl) ?_
   refine G_val rfl rfl rfl rfl (V_move rfl rfl) ?_
   refine G_val rfl rfl rfl rfl (V_move rfl rfl) ?_
   refine G_call (L2 := []) rfl rfl rfl rfl rfl rfl Try.call132 (rd_took0 _ _ _ _ _ (by omega)) [0] [] rfl rfl ?_
   rintro v post ⟨rfl, rfl⟩
   show G _ _ _ [_] _
   refine G_val rfl rfl rfl rfl (V_move rfl rfl) ?_
   refine G_off rfl rfl rfl rfl ?_
   refine G_off rfl rfl rfl rfl ?_
   refine G_val rfl rfl rfl rfl (V_pickF rfl rfl rfl) ?_
   refine G_val rfl rfl rfl rfl (V_assign rfl rfl) ?_
   refine G_done ?_
   refine G_ret (post := [_]) Try.func141 rfl (RVs_cons (RV_tmp rfl) RVs_nil) [0] rfl ?_
   dsimp only [packed]
   first
     | (rw [rdFlag_err l e (by omega)]; exact ⟨rfl, rfl⟩)
     | (obtain rfl : e = 0 := by omega
        rw [rdFlag_bad l v n e1 hu (by omega)]; exact ⟨rfl, rfl⟩)
     | (obtain rfl : e = 0 := by omega
        subst h0; rw [rdFlag_long l v n hu h2]; exact ⟨rfl, rfl⟩)
     | (obtain rfl : e = 0 := by omega
        subst h0; rw [rdFlag_ok l v n hu h2]; refine ⟨bool_eq (Bool.eq_iff_iff.2 ?_), rfl⟩; first | (simp; done) | (simp; omega) | (simp [*]; done))

set_option maxRecDepth 100000 in
set_option maxHeartbeats 1000000 in
theorem rd_end (b : Nat) (l : List UInt8) (e : Nat) :
    Ct Try.prog 35 [.pointer (some ⟨b, 0, none⟩)] [(some b, .cells #[.string (bs l), .int .i64 ((e : Nat) : Int)] 169 (0, 0))] [] fun r post => r = .int .i64 ((rdEnd l e : Nat) : Int) ∧ post = [] := by
 refine ct_of Try.func35 rfl rfl (fun w0 => ?_)
 show G _ _ [(0, _)] _ _
 refine G_seq ?_
 refine G_region (l := [0]) rfl ?_
 refine G_val rfl rfl rfl rfl (V_assign rfl rfl) ?_
 refine G_done ?_
 refine G_seq ?_
 refine G_seq ?_
 refine G_region (l := [0, 1, 2]) rfl ?_
 refine G_val rfl rfl rfl rfl (V_move rfl rfl) ?_
 refine G_call (L2 := []) rfl rfl rfl rfl rfl rfl Try.call86 (rd_err _ _ _) [] [0] rfl rfl ?_
 rintro v post ⟨rfl, rfl⟩
 refine G_val rfl rfl rfl rfl (V_assign rfl rfl) ?_
 refine G_done ?_
 refine G_seq ?_
 refine G_region (l := [0, 1]) rfl ?_
 refine G_val rfl rfl rfl rfl (V_move rfl rfl) ?_
 refine G_val rfl rfl rfl rfl (V_neq rfl rfl rfl) ?_
 refine G_done ?_
 refine G_ifD rfl (fun hc1 => ?_) (fun hc1 => ?_)
 · skip
   refine G_seq ?_
   refine G_region (l := [0, 1]) rfl ?_
   refine G_val rfl rfl rfl rfl (V_move rfl rfl) ?_
   refine G_val rfl rfl rfl rfl (V_assign rfl rfl) ?_
   refine G_done ?_
   refine G_ret (post := []) Try.func35 rfl (RVs_cons (RV_tmp rfl) RVs_nil) [] rfl ?_
   dsimp only [packed]
   refine ⟨?_, rfl⟩; unfold rdEnd; first | (rw [if_pos (by omega)]; done) | (rw [if_neg (by omega), if_neg (by assumption)]; rfl) | (rw [if_neg (by omega), if_pos (Classical.not_not.1 (by assumption))]; rfl) | (rw [if_neg (by omega), if_pos (by assumption)]; rfl)
 refine G_skip ?_
 refine G_seq ?_
 refine G_seq ?_
 refine G_region (l := [0, 1, 2, 3, 4]) rfl ?_
 refine G_val rfl rfl rfl rfl (V_move rfl rfl) ?_
 first
   | refine G_val rfl rfl rfl rfl (V_nilCheck rfl rfl) ?_
   | refine G_val rfl rfl rfl rfl (V_nilCheckF rfl rfl) ?_
 refine G_val rfl rfl rfl rfl (V_fieldAddr (fo := 0) rfl Try.underlying169 rfl infReadW_9 rfl rfl rfl) ?_
 refine G_val rfl rfl rfl rfl (V_load1 rfl rfl (mem_at 0 rfl) rfl Try.underlying9 rfl) ?_
 refine G_val rfl rfl rfl rfl (V_sneq rfl rfl rfl) ?_
 refine G_done ?_
 refine G_ifD rfl (fun hc2 => ?_) (fun hc2 => ?_)
 · skip
   refine G_seq ?_
   refine G_region (l := [0]) rfl ?_
   refine G_val rfl rfl rfl rfl (V_assign rfl rfl) ?_
   refine G_done ?_
   refine G_ret (post := []) Try.func35 rfl (RVs_cons (RV_tmp rfl) RVs_nil) [] rfl ?_
   dsimp only [packed]
   refine ⟨?_, rfl⟩; unfold rdEnd; first | (rw [if_pos (by omega)]; done) | (rw [if_neg (by omega), if_neg (by assumption)]; rfl) | (rw [if_neg (by omega), if_pos (Classical.not_not.1 (by assumption))]; rfl) | (rw [if_neg (by omega), if_pos (by assumption)]; rfl)
 refine G_skip ?_
 refine G_seq ?_
 refine G_region (l := [0]) rfl ?_
 refine G_val rfl rfl rfl rfl (V_assign rfl rfl) ?_
 refine G_done ?_
 refine G_ret (post := []) Try.func35 rfl (RVs_cons (RV_tmp rfl) RVs_nil) [] rfl ?_
 dsimp only [packed]
 refine ⟨?_, rfl⟩; unfold rdEnd; first | (rw [if_pos (by omega)]; done) | (rw [if_neg (by omega), if_neg (by assumption)]; rfl) | (rw [if_neg (by omega), if_pos (Classical.not_not.1 (by assumption))]; rfl) | (rw [if_neg (by omega), if_pos (by assumption)]; rfl)

set_option maxRecDepth 100000 in
set_option maxHeartbeats 1000000 in
theorem rrd_num (b : Nat) (l : List UInt8) (e : Nat) (hl : l.length ≤ 140737488351232) (he : e ≤ 1000) :
    Ct Try.prog 36 [.pointer (some ⟨b, 0, none⟩)] [] [(some b, .cells #[.string (bs l), .int .i64 ((e : Nat) : Int)] 86 (0, 0))] fun r post => r = .int .u64 (((rdNum l e).1 : Nat) : Int) ∧ post = [(some b, .cells #[.string (bs (rdNum l e).2.1), .int .i64 (((rdNum l e).2.2 : Nat) : Int)] 86 (0, 0))] := by
 obtain ⟨v, n, e1, hu⟩ : ∃ v n e1, unchain l = (v, n, e1) := ⟨_, _, _, rfl⟩
 obtain ⟨hv, hb⟩ := unchain_bd hu
 refine ct_of Try.func36 rfl rfl (fun w0 => ?_)
 show G _ _ [(0, _)] _ _
 refine G_seq ?_
 refine G_region (l := [0]) rfl ?_
 refine G_val rfl rfl rfl rfl (V_assign rfl rfl) ?_
 refine G_done ?_
 refine G_seq ?_
 refine G_seq ?_
 refine G_region (l := [0, 1, 2, 3, 4]) rfl ?_
 refine G_val rfl rfl rfl rfl (V_move rfl rfl) ?_
 first
   | refine G_val rfl rfl rfl rfl (V_nilCheck rfl rfl) ?_
   | refine G_val rfl rfl rfl rfl (V_nilCheckF rfl rfl) ?_
 refine G_val rfl rfl rfl rfl (V_fieldAddr (fo := 1) rfl Try.underlying86 rfl infReadW_3 rfl rfl rfl) ?_
 refine G_val rfl rfl rfl rfl (V_load1 rfl rfl (mem_at 0 rfl) rfl Try.underlying3 rfl) ?_
 refine G_val rfl rfl rfl rfl (V_neq rfl rfl rfl) ?_
 refine G_done ?_
 refine G_ifD rfl (fun hc1 => ?_) (fun hc1 => ?_)
 · skip
   refine G_seq ?_
   refine G_region (l := [0]) rfl ?_
   refine G_val rfl rfl rfl rfl (V_assign rfl rfl) ?_
   refine G_done ?_
   refine G_ret (post := [_]) Try.func36 rfl (RVs_cons (RV_tmp rfl) RVs_nil) [0] rfl ?_
   dsimp only [packed]
   first
     | (rw [rdNum_err l e (by omega)]; exact ⟨rfl, rfl⟩)
     | (obtain rfl : e = 0 := by omega
        rw [rdNum_bad l v n e1 hu (by omega)]; subst h2; exact ⟨rfl, rfl⟩)
     | (obtain rfl : e = 0 := by omega
        subst h0; rw [rdNum_ok l v n hu]; exact ⟨rfl, rfl⟩)
 refine G_skip ?_
 refine G_seq ?_
 rcases hb with ⟨h0, h1, h2, h3⟩ | ⟨h0, h1, h2⟩
 · skip
   refine G_region (l := [0, 1, 2, 3, 4, 5, 6, 7, 8, 9, 10, 11]) rfl ?_
   refine G_val rfl rfl rfl rfl (V_move rfl rfl) ?_
   first
     | refine G_val rfl rfl rfl rfl (V_nilCheck rfl rfl) ?_
     | refine G_val rfl rfl rfl rfl (V_nilCheckF rfl rfl) ?_
   refine G_val rfl rfl rfl rfl (V_fieldAddr (fo := 0) rfl Try.underlying86 rfl infReadW_9 rfl rfl rfl) ?_
   refine G_val rfl rfl rfl rfl (V_load1 rfl rfl (mem_at 0 rfl) rfl Try.underlying9 rfl) ?_
   refine G_call (L2 := [_]) rfl rfl rfl rfl rfl rfl Try.call111 (ct_runchain _ v n e1 hu (by omega)) [] [] rfl rfl ?_
   rintro v post ⟨rfl, rfl⟩
   show G _ _ _ [_] _
   refine G_val rfl rfl rfl rfl (V_move rfl rfl) ?_
   refine G_val rfl rfl rfl rfl (V_extract rfl rfl rfl) ?_
   refine G_val rfl rfl rfl rfl (V_extract rfl rfl rfl) ?_
   refine G_val rfl rfl rfl rfl (V_extract rfl rfl rfl) ?_
   refine G_val rfl rfl rfl rfl (V_assign rfl rfl) ?_
   refine G_val rfl rfl rfl rfl (V_assign rfl rfl) ?_
   refine G_val rfl rfl rfl rfl (V_assign rfl rfl) ?_
   refine G_done ?_
   refine G_seq ?_
   refine G_region (l := [0, 1, 2, 3]) rfl ?_
   refine G_val rfl rfl rfl rfl (V_move rfl rfl) ?_
   refine G_val rfl rfl rfl rfl (V_move rfl rfl) ?_
   refine G_val rfl rfl rfl rfl (V_move rfl rfl) ?_
   refine G_call (L2 := []) rfl rfl rfl rfl rfl rfl Try.call112 (rrd_took1 _ _ _ _ _ (by omega) (by omega)) [0] [] rfl rfl ?_
   rintro v post ⟨rfl, rfl⟩
   show G _ _ _ [_] _
   refine G_done ?_
   refine G_seq ?_
   refine G_region (l := [0, 1]) rfl ?_
   refine G_val rfl rfl rfl rfl (V_move rfl rfl) ?_
   refine G_val rfl rfl rfl rfl (V_assign rfl rfl) ?_
   refine G_done ?_
   refine G_ret (post := [_]) Try.func36 rfl (RVs_cons (RV_tmp rfl) RVs_nil) [0] rfl ?_
   dsimp only [packed]
   first
     | (rw [rdNum_err l e (by omega)]; exact ⟨rfl, rfl⟩)
     | (obtain rfl : e = 0 := by omega
        rw [rdNum_bad l v n e1 hu (by omega)]; subst h2; exact ⟨rfl, rfl⟩)
     | (obtain rfl : e = 0 := by omega
        subst h0; rw [rdNum_ok l v n hu]; exact ⟨rfl, rfl⟩)
 · skip
   refine G_region (l := [0, 1, 2, 3, 4, 5, 6, 7, 8, 9, 10, 11]) rfl ?_
   refine G_val rfl rfl rfl rfl (V_move rfl rfl) ?_
   first
     | refine G_val rfl rfl rfl rfl (V_nilCheck rfl rfl) ?_
     | refine G_val rfl rfl rfl rfl (V_nilCheckF rfl rfl) ?_
   refine G_val rfl rfl rfl rfl (V_fieldAddr (fo := 0) rfl Try.underlying86 rfl infReadW_9 rfl rfl rfl) ?_
   refine G_val rfl rfl rfl rfl (V_load1 rfl rfl (mem_at 0 rfl) rfl Try.underlying9 rfl) ?_
   refine G_call (L2 := [_]) rfl rfl rfl rfl rfl rfl Try.call111 (ct_runchain _ v n e1 hu (by omega)) [] [] rfl rfl ?_
   rintro v post ⟨rfl, rfl⟩
   show G _ _ _ [_] _
   refine G_val rfl rfl rfl rfl (V_move rfl rfl) ?_
   refine G_val rfl rfl rfl rfl (V_extract rfl rfl rfl) ?_
   refine G_val rfl rfl rfl rfl (V_extract rfl rfl rfl) ?_
   refine G_val rfl rfl rfl rfl (V_extract rfl rfl rfl) ?_
   refine G_val rfl rfl rfl rfl (V_assign rfl rfl) ?_
   refine G_val rfl rfl rfl rfl (V_assign rfl rfl) ?_
   refine G_val rfl rfl rfl rfl (V_assign rfl rfl) ?_
   refine G_done ?_
   refine G_seq ?_
   refine G_region (l := [0, 1, 2, 3]) rfl ?_
   refine G_val rfl rfl rfl rfl (V_move rfl rfl) ?_
   refine G_val rfl rfl rfl rfl (V_move rfl rfl) ?_
   refine G_val rfl rfl rfl rfl (V_move rfl rfl) ?_
   refine G_call (L2 := []) rfl rfl rfl rfl rfl rfl Try.call112 (rrd_took0 _ _ _ _ _ (by omega)) [0] [] rfl rfl ?_
   rintro v post ⟨rfl, rfl⟩
   show G _ _ _ [_] _
   refine G_done ?_
   refine G_seq ?_
   refine G_region (l := [0, 1]) rfl ?_
   refine G_val rfl rfl rfl rfl (V_move rfl rfl) ?_
   refine G_val rfl rfl rfl rfl (V_assign rfl rfl) ?_
   refine G_done ?_
   refine G_ret (post := [_]) Try.func36 rfl (RVs_cons (RV_tmp rfl) RVs_nil) [0] rfl ?_
   dsimp only [packed]
   first
     | (rw [rdNum_err l e (by omega)]; exact ⟨rfl, rfl⟩)
     | (obtain rfl : e = 0 := by omega
        rw [rdNum_bad l v n e1 hu (by omega)]; subst h2; exact ⟨rfl, rfl⟩)
     | (obtain rfl : e = 0 := by omega
        subst h0; rw [rdNum_ok l v n hu]; exact ⟨rfl, rfl⟩)

set_option maxRecDepth 100000 in
set_option maxHeartbeats 1000000 in
theorem rrd_int (b : Nat) (l : List UInt8) (e : Nat) (most : Int) (hl : l.length ≤ 140737488351232) (he : e ≤ 1000) (hm : 0 ≤ most ∧ most ≤ 4611686018427387904) :
    Ct Try.prog 40 [.pointer (some ⟨b, 0, none⟩), .int .i64 most] [] [(some b, .cells #[.string (bs l), .int .i64 ((e : Nat) : Int)] 86 (0, 0))] fun r post => r = .int .i64 (((rdInt most l e).1 : Nat) : Int) ∧ post = [(some b, .cells #[.string (bs (rdInt most l e).2.1), .int .i64 (((rdInt most l e).2.2 : Nat) : Int)] 86 (0, 0))] := by
 obtain ⟨v, n, e1, hu⟩ : ∃ v n e1, unchain l = (v, n, e1) := ⟨_, _, _, rfl⟩
 obtain ⟨hv, hb⟩ := unchain_bd hu
 obtain ⟨hm0, hm1⟩ := hm
 refine ct_of Try.func40 rfl rfl (fun w0 => ?_)
 show G _ _ [(0, _), (1, _)] _ _
 refine G_seq ?_
 refine G_region (l := [0]) rfl ?_
 refine G_val rfl rfl rfl rfl (V_assign rfl rfl) ?_
 refine G_done ?_
 refine G_seq ?_
 refine G_seq ?_
 refine G_region (l := [0, 1, 2, 3, 4]) rfl ?_
 refine G_val rfl rfl rfl rfl (V_move rfl rfl) ?_
 first
   | refine G_val rfl rfl rfl rfl (V_nilCheck rfl rfl) ?_
   | refine G_val rfl rfl rfl rfl (V_nilCheckF rfl rfl) ?_
 refine G_val rfl rfl rfl rfl (V_fieldAddr (fo := 1) rfl Try.underlying86 rfl infReadW_3 rfl rfl rfl) ?_
 refine G_val rfl rfl rfl rfl (V_load1 rfl rfl (mem_at 0 rfl) rfl Try.underlying3 rfl) ?_
 refine G_val rfl rfl rfl rfl (V_neq rfl rfl rfl) ?_
 refine G_done ?_
 refine G_ifD rfl (fun hc1 => ?_) (fun hc1 => ?_)
 · skip
   refine G_seq ?_
   refine G_region (l := [0]) rfl ?_
   refine G_val rfl rfl rfl rfl (V_assign rfl rfl) ?_
   refine G_done ?_
   refine G_ret (post := [_]) Try.func40 rfl (RVs_cons (RV_tmp rfl) RVs_nil) [0] rfl ?_
   dsimp only [packed]
   first
     | (rw [rdInt_err most l e (by omega)]; exact ⟨rfl, rfl⟩)
     | (obtain rfl : e = 0 := by omega
        rw [rdInt_bad most l v n e1 hu (by omega)]; subst h2; exact ⟨rfl, rfl⟩)
     | (obtain rfl : e = 0 := by omega
        subst h0; rw [rdInt_long most l v n hu (.inr h2)]; exact ⟨rfl, rfl⟩)
     | (obtain rfl : e = 0 := by omega
        subst h0; rw [rdInt_ok most l v n hu (by omega)]; exact ⟨rfl, rfl⟩)
 refine G_skip ?_
 refine G_seq ?_
 rcases (by omega : (e1 = 0 ∧ n ≤ l.length ∧ most < (v : Int)) ∨ (e1 = 0 ∧ n ≤ l.length ∧ ¬ most < (v : Int)) ∨ (0 < e1 ∧ e1 ≤ 3 ∧ v = 0)) with ⟨h0, h1, h2⟩ | ⟨h0, h1, h2⟩ | ⟨h0, h1, h2⟩
 · skip
   refine G_region (l := [0, 1, 2, 3, 4, 5, 6, 7, 8, 9, 10, 11]) rfl ?_
   refine G_val rfl rfl rfl rfl (V_move rfl rfl) ?_
   first
     | refine G_val rfl rfl rfl rfl (V_nilCheck rfl rfl) ?_
     | refine G_val rfl rfl rfl rfl (V_nilCheckF rfl rfl) ?_
   refine G_val rfl rfl rfl rfl (V_fieldAddr (fo := 0) rfl Try.underlying86 rfl infReadW_9 rfl rfl rfl) ?_
   refine G_val rfl rfl rfl rfl (V_load1 rfl rfl (mem_at 0 rfl) rfl Try.underlying9 rfl) ?_
   refine G_call (L2 := [_]) rfl rfl rfl rfl rfl rfl Try.call111 (ct_runchain _ v n e1 hu (by omega)) [] [] rfl rfl ?_
   rintro v post ⟨rfl, rfl⟩
   show G _ _ _ [_] _
   refine G_val rfl rfl rfl rfl (V_move rfl rfl) ?_
   refine G_val rfl rfl rfl rfl (V_extract rfl rfl rfl) ?_
   refine G_val rfl rfl rfl rfl (V_extract rfl rfl rfl) ?_
   refine G_val rfl rfl rfl rfl (V_extract rfl rfl rfl) ?_
   refine G_val rfl rfl rfl rfl (V_assign rfl rfl) ?_
   refine G_val rfl rfl rfl rfl (V_assign rfl rfl) ?_
   refine G_val rfl rfl rfl rfl (V_assign rfl rfl) ?_
   refine G_done ?_
   refine G_seq ?_
   refine G_seq ?_
   refine G_region (l := [0, 1, 2, 3, 4, 5, 6, 7, 8, 9, 10, 11]) rfl ?_
   refine G_val rfl rfl rfl rfl (V_move rfl rfl) ?_
   refine G_val rfl rfl rfl rfl (V_eql rfl rfl rfl) ?_
   refine G_val rfl rfl rfl rfl (V_move rfl rfl) ?_
   refine G_splitD 24 rfl (fun hc2 => ?_) (fun hc2 => ?_)
   rotate_left
   · (exfalso; omega)
   refine G_val rfl rfl rfl rfl (V_move rfl rfl) ?_
   refine G_val rfl rfl rfl rfl (V_lss rfl rfl rfl) ?_
   refine G_val rfl rfl rfl rfl (V_move rfl rfl) ?_
   refine G_splitD 27 rfl (fun hc3 => ?_) (fun hc3 => ?_)
   · (exfalso; omega)
   refine G_val rfl rfl rfl rfl (V_move rfl rfl) ?_
   refine G_val rfl rfl rfl rfl (V_move rfl rfl) ?_
   first
     | refine G_val rfl rfl rfl rfl ((V_conv rfl rfl Try.underlying3 Try.underlying23).int (wrap_u64 (by omega))) ?_
     | refine G_val rfl rfl rfl rfl (V_conv rfl rfl Try.underlying3 Try.underlying23) ?_
   refine G_val rfl rfl rfl rfl (V_gtr rfl rfl rfl) ?_
   refine G_val rfl rfl rfl rfl (V_pickF rfl rfl rfl) ?_
   refine G_val rfl rfl rfl rfl (V_pickT rfl rfl rfl) ?_
   refine G_done ?_
   refine G_ifD rfl (fun hc4 => ?_) (fun hc4 => ?_)
   rotate_left
   · (exfalso; omega)
   refine G_seq ?_
   refine G_region (l := [0]) rfl ?_
   refine G_val rfl rfl rfl rfl (V_assign rfl rfl) ?_
   refine G_done ?_
   refine G_region (l := [0]) rfl ?_
   refine G_val rfl rfl rfl rfl (V_assign rfl rfl) ?_
   refine G_done ?_
   refine G_seq ?_
   refine G_region (l := [0, 1, 2, 3]) rfl ?_
   refine G_val rfl rfl rfl rfl (V_move rfl rfl) ?_
   refine G_val rfl rfl rfl rfl (V_move rfl rfl) ?_
   refine G_val rfl rfl rfl rfl (V_move rfl rfl) ?_
   refine G_call (L2 := []) rfl rfl rfl rfl rfl rfl Try.call112 (rrd_took0 _ _ _ _ 4 (by omega)) [0] [] rfl rfl ?_
   rintro v post ⟨rfl, rfl⟩
   show G _ _ _ [_] _
   refine G_done ?_
   refine G_seq ?_
   refine G_region (l := [0, 1, 2]) rfl ?_
   refine G_val rfl rfl rfl rfl (V_move rfl rfl) ?_
   first
     | refine G_val rfl rfl rfl rfl ((V_conv rfl rfl Try.underlying23 Try.underlying3).int (wrap_i64 (by omega))) ?_
     | refine G_val rfl rfl rfl rfl (V_conv rfl rfl Try.underlying23 Try.underlying3) ?_
   refine G_val rfl rfl rfl rfl (V_assign rfl rfl) ?_
   refine G_done ?_
   refine G_ret (post := [_]) Try.func40 rfl (RVs_cons (RV_tmp rfl) RVs_nil) [0] rfl ?_
   dsimp only [packed]
   first
     | (rw [rdInt_err most l e (by omega)]; exact ⟨rfl, rfl⟩)
     | (obtain rfl : e = 0 := by omega
        rw [rdInt_bad most l v n e1 hu (by omega)]; subst h2; exact ⟨rfl, rfl⟩)
     | (obtain rfl : e = 0 := by omega
        subst h0; rw [rdInt_long most l v n hu (.inr h2)]; exact ⟨rfl, rfl⟩)
     | (obtain rfl : e = 0 := by omega
        subst h0; rw [rdInt_ok most l v n hu (by omega)]; exact ⟨rfl, rfl⟩)
 · skip
   refine G_region (l := [0, 1, 2, 3, 4, 5, 6, 7, 8, 9, 10, 11]) rfl ?_
   refine G_val rfl rfl rfl rfl (V_move rfl rfl) ?_
   first
     | refine G_val rfl rfl rfl rfl (V_nilCheck rfl rfl) ?_
     | refine G_val rfl rfl rfl rfl (V_nilCheckF rfl rfl) ?_
   refine G_val rfl rfl rfl rfl (V_fieldAddr (fo := 0) rfl Try.underlying86 rfl infReadW_9 rfl rfl rfl) ?_
   refine G_val rfl rfl rfl rfl (V_load1 rfl rfl (mem_at 0 rfl) rfl Try.underlying9 rfl) ?_
   refine G_call (L2 := [_]) rfl rfl rfl rfl rfl rfl Try.call111 (ct_runchain _ v n e1 hu (by omega)) [] [] rfl rfl ?_
   rintro v post ⟨rfl, rfl⟩
   show G _ _ _ [_] _
   refine G_val rfl rfl rfl rfl (V_move rfl rfl) ?_
   refine G_val rfl rfl rfl rfl (V_extract rfl rfl rfl) ?_
   refine G_val rfl rfl rfl rfl (V_extract rfl rfl rfl) ?_
   refine G_val rfl rfl rfl rfl (V_extract rfl rfl rfl) ?_
   refine G_val rfl rfl rfl rfl (V_assign rfl rfl) ?_
   refine G_val rfl rfl rfl rfl (V_assign rfl rfl) ?_
   refine G_val rfl rfl rfl rfl (V_assign rfl rfl) ?_
   refine G_done ?_
   refine G_seq ?_
   refine G_seq ?_
   refine G_region (l := [0, 1, 2, 3, 4, 5, 6, 7, 8, 9, 10, 11]) rfl ?_
   refine G_val rfl rfl rfl rfl (V_move rfl rfl) ?_
   refine G_val rfl rfl rfl rfl (V_eql rfl rfl rfl) ?_
   refine G_val rfl rfl rfl rfl (V_move rfl rfl) ?_
   refine G_splitD 24 rfl (fun hc2 => ?_) (fun hc2 => ?_)
   rotate_left
   · (exfalso; omega)
   refine G_val rfl rfl rfl rfl (V_move rfl rfl) ?_
   refine G_val rfl rfl rfl rfl (V_lss rfl rfl rfl) ?_
   refine G_val rfl rfl rfl rfl (V_move rfl rfl) ?_
   refine G_splitD 27 rfl (fun hc3 => ?_) (fun hc3 => ?_)
   · (exfalso; omega)
   refine G_val rfl rfl rfl rfl (V_move rfl rfl) ?_
   refine G_val rfl rfl rfl rfl (V_move rfl rfl) ?_
   first
     | refine G_val rfl rfl rfl rfl ((V_conv rfl rfl Try.underlying3 Try.underlying23).int (wrap_u64 (by omega))) ?_
     | refine G_val rfl rfl rfl rfl (V_conv rfl rfl Try.underlying3 Try.underlying23) ?_
   refine G_val rfl rfl rfl rfl (V_gtr rfl rfl rfl) ?_
   refine G_val rfl rfl rfl rfl (V_pickF rfl rfl rfl) ?_
   refine G_val rfl rfl rfl rfl (V_pickT rfl rfl rfl) ?_
   refine G_done ?_
   refine G_ifD rfl (fun hc4 => ?_) (fun hc4 => ?_)
   · (exfalso; omega)
   refine G_skip ?_
   refine G_seq ?_
   refine G_region (l := [0, 1, 2, 3]) rfl ?_
   refine G_val rfl rfl rfl rfl (V_move rfl rfl) ?_
   refine G_val rfl rfl rfl rfl (V_move rfl rfl) ?_
   refine G_val rfl rfl rfl rfl (V_move rfl rfl) ?_
   refine G_call (L2 := []) rfl rfl rfl rfl rfl rfl Try.call112 (rrd_took1 _ _ _ _ _ (by omega) (by omega)) [0] [] rfl rfl ?_
   rintro v post ⟨rfl, rfl⟩
   show G _ _ _ [_] _
   refine G_done ?_
   refine G_seq ?_
   refine G_region (l := [0, 1, 2]) rfl ?_
   refine G_val rfl rfl rfl rfl (V_move rfl rfl) ?_
   first
     | refine G_val rfl rfl rfl rfl ((V_conv rfl rfl Try.underlying23 Try.underlying3).int (wrap_i64 (by omega))) ?_
     | refine G_val rfl rfl rfl rfl (V_conv rfl rfl Try.underlying23 Try.underlying3) ?_
   refine G_val rfl rfl rfl rfl (V_assign rfl rfl) ?_
   refine G_done ?_
   refine G_ret (post := [_]) Try.func40 rfl (RVs_cons (RV_tmp rfl) RVs_nil) [0] rfl ?_
   dsimp only [packed]
   first
     | (rw [rdInt_err most l e (by omega)]; exact ⟨rfl, rfl⟩)
     | (obtain rfl : e = 0 := by omega
        rw [rdInt_bad most l v n e1 hu (by omega)]; subst h2; exact ⟨rfl, rfl⟩)
     | (obtain rfl : e = 0 := by omega
        subst h0; rw [rdInt_long most l v n hu (.inr h2)]; exact ⟨rfl, rfl⟩)
     | (obtain rfl : e = 0 := by omega
        subst h0; rw [rdInt_ok most l v n hu (by omega)]; exact ⟨rfl, rfl⟩)
 · skip
   refine G_region (l := [0, 1, 2, 3, 4, 5, 6, 7, 8, 9, 10, 11]) rfl ?_
   refine G_val rfl rfl rfl rfl (V_move rfl rfl) ?_
   first
     | refine G_val rfl rfl rfl rfl (V_nilCheck rfl rfl) ?_
     | refine G_val rfl rfl rfl rfl (V_nilCheckF rfl rfl) ?_
   refine G_val rfl rfl rfl rfl (V_fieldAddr (fo := 0) rfl Try.underlying86 rfl infReadW_9 rfl rfl rfl) ?_
   refine G_val rfl rfl rfl rfl (V_load1 rfl rfl (mem_at 0 rfl) rfl Try.underlying9 rfl) ?_
   refine G_call (L2 := [_]) rfl rfl rfl rfl rfl rfl Try.call111 (ct_runchain _ v n e1 hu (by omega)) [] [] rfl rfl ?_
   rintro v post ⟨rfl, rfl⟩
   show G _ _ _ [_] _
   refine G_val rfl rfl rfl rfl (V_move rfl rfl) ?_
   refine G_val rfl rfl rfl rfl (V_extract rfl rfl rfl) ?_
   refine G_val rfl rfl rfl rfl (V_extract rfl rfl rfl) ?_
   refine G_val rfl rfl rfl rfl (V_extract rfl rfl rfl) ?_
   refine G_val rfl rfl rfl rfl (V_assign rfl rfl) ?_
   refine G_val rfl rfl rfl rfl (V_assign rfl rfl) ?_
   refine G_val rfl rfl rfl rfl (V_assign rfl rfl) ?_
   refine G_done ?_
   refine G_seq ?_
   refine G_seq ?_
   refine G_region (l := [0, 1, 2, 3, 4, 5, 6, 7, 8, 9, 10, 11]) rfl ?_
   refine G_val rfl rfl rfl rfl (V_move rfl rfl) ?_
   refine G_val rfl rfl rfl rfl (V_eql rfl rfl rfl) ?_
   refine G_val rfl rfl rfl rfl (V_move rfl rfl) ?_
   refine G_splitD 24 rfl (fun hc2 => ?_) (fun hc2 => ?_)
   · (exfalso; omega)
   refine G_off rfl rfl rfl rfl ?_
   refine G_off rfl rfl rfl rfl ?_
   refine G_off rfl rfl rfl rfl ?_
   refine G_off rfl rfl rfl rfl ?_
   refine G_off rfl rfl rfl rfl ?_
   refine G_off rfl rfl rfl rfl ?_
   refine G_off rfl rfl rfl rfl ?_
   refine G_off rfl rfl rfl rfl ?_
   refine G_val rfl rfl rfl rfl (V_pickF rfl rfl rfl) ?_
   refine G_done ?_
   refine G_else rfl ?_
   refine G_skip ?_
   refine G_seq ?_
   refine G_region (l := [0, 1, 2, 3]) rfl ?_
   refine G_val rfl rfl rfl rfl (V_move rfl rfl) ?_
   refine G_val rfl rfl rfl rfl (V_move rfl rfl) ?_
   refine G_val rfl rfl rfl rfl (V_move rfl rfl) ?_
   refine G_call (L2 := []) rfl rfl rfl rfl rfl rfl Try.call112 (rrd_took0 _ _ _ _ _ (by omega)) [0] [] rfl rfl ?_
   rintro v post ⟨rfl, rfl⟩
   show G _ _ _ [_] _
   refine G_done ?_
   refine G_seq ?_
   refine G_region (l := [0, 1, 2]) rfl ?_
   refine G_val rfl rfl rfl rfl (V_move rfl rfl) ?_
   first
     | refine G_val rfl rfl rfl rfl ((V_conv rfl rfl Try.underlying23 Try.underlying3).int (wrap_i64 (by omega))) ?_
     | refine G_val rfl rfl rfl rfl (V_conv rfl rfl Try.underlying23 Try.underlying3) ?_
   refine G_val rfl rfl rfl rfl (V_assign rfl rfl) ?_
   refine G_done ?_
   refine G_ret (post := [_]) Try.func40 rfl (RVs_cons (RV_tmp rfl) RVs_nil) [0] rfl ?_
   dsimp only [packed]
   first
     | (rw [rdInt_err most l e (by omega)]; exact ⟨rfl, rfl⟩)
     | (obtain rfl : e = 0 := by omega
        rw [rdInt_bad most l v n e1 hu (by omega)]; subst h2; exact ⟨rfl, rfl⟩)
     | (obtain rfl : e = 0 := by omega
        subst h0; rw [rdInt_long most l v n hu (.inr h2)]; exact ⟨rfl, rfl⟩)
     | (obtain rfl : e = 0 := by omega
        subst h0; rw [rdInt_ok most l v n hu (by omega)]; exact ⟨rfl, rfl⟩)

set_option maxRecDepth 100000 in
set_option maxHeartbeats 1000000 in
theorem rrd_str (b : Nat) (l : List UInt8) (e : Nat) (most : Int) (hl : l.length ≤ 140737488351232) (he : e ≤ 1000) (hm : 0 ≤ most ∧ most ≤ 4611686018427387904) :
    Ct Try.prog 41 [.pointer (some ⟨b, 0, none⟩), .int .i64 most] [] [(some b, .cells #[.string (bs l), .int .i64 ((e : Nat) : Int)] 86 (0, 0))] fun r post => r = .string (bs (rdStr most l e).1) ∧ post = [(some b, .cells #[.string (bs (rdStr most l e).2.1), .int .i64 (((rdStr most l e).2.2 : Nat) : Int)] 86 (0, 0))] := by
 obtain ⟨s, n, e1, hu⟩ : ∃ s n e1, untext l most = (s, n, e1) := ⟨_, _, _, rfl⟩
 refine ct_of Try.func41 rfl rfl (fun w0 => ?_)
 show G _ _ [(0, _), (1, _)] _ _
 refine G_seq ?_
 refine G_region (l := [0]) rfl ?_
 refine G_val rfl rfl rfl rfl (V_assign rfl rfl) ?_
 refine G_done ?_
 refine G_seq ?_
 refine G_seq ?_
 refine G_region (l := [0, 1, 2, 3, 4]) rfl ?_
 refine G_val rfl rfl rfl rfl (V_move rfl rfl) ?_
 first
   | refine G_val rfl rfl rfl rfl (V_nilCheck rfl rfl) ?_
   | refine G_val rfl rfl rfl rfl (V_nilCheckF rfl rfl) ?_
 refine G_val rfl rfl rfl rfl (V_fieldAddr (fo := 1) rfl Try.underlying86 rfl infReadW_3 rfl rfl rfl) ?_
 refine G_val rfl rfl rfl rfl (V_load1 rfl rfl (mem_at 0 rfl) rfl Try.underlying3 rfl) ?_
 refine G_val rfl rfl rfl rfl (V_neq rfl rfl rfl) ?_
 refine G_done ?_
 refine G_ifD rfl (fun hc1 => ?_) (fun hc1 => ?_)
 · skip
   refine G_seq ?_
   refine G_region (l := [0]) rfl ?_
   refine G_val rfl rfl rfl rfl (V_assign rfl rfl) ?_
   refine G_done ?_
   refine G_ret (post := [_]) Try.func41 rfl (RVs_cons (RV_tmp rfl) RVs_nil) [0] rfl ?_
   dsimp only [packed]
   first
     | (rw [rdStr_err most l e (by omega)]; exact ⟨rfl, rfl⟩)
     | (obtain rfl : e = 0 := by omega
        rw [rdStr_bad most l s n e1 hu (by omega)]; subst h0; exact ⟨rfl, rfl⟩)
     | (obtain rfl : e = 0 := by omega
        subst h0; rw [rdStr_ok most l s n hu]; exact ⟨rfl, rfl⟩)
 refine G_skip ?_
 refine G_seq ?_
 rcases untext_ok l most s n e1 hu with ⟨h0, h1, h2, h3⟩ | ⟨h0, h1, h2, h3⟩
 · skip
   refine G_region (l := [0, 1, 2, 3, 4, 5, 6, 7, 8, 9, 10, 11, 12]) rfl ?_
   refine G_val rfl rfl rfl rfl (V_move rfl rfl) ?_
   first
     | refine G_val rfl rfl rfl rfl (V_nilCheck rfl rfl) ?_
     | refine G_val rfl rfl rfl rfl (V_nilCheckF rfl rfl) ?_
   refine G_val rfl rfl rfl rfl (V_fieldAddr (fo := 0) rfl Try.underlying86 rfl infReadW_9 rfl rfl rfl) ?_
   refine G_val rfl rfl rfl rfl (V_load1 rfl rfl (mem_at 0 rfl) rfl Try.underlying9 rfl) ?_
   refine G_val rfl rfl rfl rfl (V_move rfl rfl) ?_
   refine G_call (L2 := [_]) rfl rfl rfl rfl rfl rfl Try.call113 (ct_runtext _ _ s n e1 hu (by omega) hm) [] [] rfl rfl ?_
   rintro v post ⟨rfl, rfl⟩
   show G _ _ _ [_] _
   refine G_val rfl rfl rfl rfl (V_move rfl rfl) ?_
   refine G_val rfl rfl rfl rfl (V_extract rfl rfl rfl) ?_
   refine G_val rfl rfl rfl rfl (V_extract rfl rfl rfl) ?_
   refine G_val rfl rfl rfl rfl (V_extract rfl rfl rfl) ?_
   refine G_val rfl rfl rfl rfl (V_assign rfl rfl) ?_
   refine G_val rfl rfl rfl rfl (V_assign rfl rfl) ?_
   refine G_val rfl rfl rfl rfl (V_assign rfl rfl) ?_
   refine G_done ?_
   refine G_seq ?_
   refine G_region (l := [0, 1, 2, 3]) rfl ?_
   refine G_val rfl rfl rfl rfl (V_move rfl rfl) ?_
   refine G_val rfl rfl rfl rfl (V_move rfl rfl) ?_
   refine G_val rfl rfl rfl rfl (V_move rfl rfl) ?_
   refine G_call (L2 := []) rfl rfl rfl rfl rfl rfl Try.call112 (rrd_took1 _ _ _ _ _ (by omega) (by omega)) [0] [] rfl rfl ?_
   rintro v post ⟨rfl, rfl⟩
   show G _ _ _ [_] _
   refine G_done ?_
   refine G_seq ?_
   refine G_region (l := [0, 1]) rfl ?_
   refine G_val rfl rfl rfl rfl (V_move rfl rfl) ?_
   refine G_val rfl rfl rfl rfl (V_assign rfl rfl) ?_
   refine G_done ?_
   refine G_ret (post := [_]) Try.func41 rfl (RVs_cons (RV_tmp rfl) RVs_nil) [0] rfl ?_
   dsimp only [packed]
   first
     | (rw [rdStr_err most l e (by omega)]; exact ⟨rfl, rfl⟩)
     | (obtain rfl : e = 0 := by omega
        rw [rdStr_bad most l s n e1 hu (by omega)]; subst h0; exact ⟨rfl, rfl⟩)
     | (obtain rfl : e = 0 := by omega
        subst h0; rw [rdStr_ok most l s n hu]; exact ⟨rfl, rfl⟩)
 · skip
   refine G_region (l := [0, 1, 2, 3, 4, 5, 6, 7, 8, 9, 10, 11, 12]) rfl ?_
   refine G_val rfl rfl rfl rfl (V_move rfl rfl) ?_
   first
     | refine G_val rfl rfl rfl rfl (V_nilCheck rfl rfl) ?_
     | refine G_val rfl rfl rfl rfl (V_nilCheckF rfl rfl) ?_
   refine G_val rfl rfl rfl rfl (V_fieldAddr (fo := 0) rfl Try.underlying86 rfl infReadW_9 rfl rfl rfl) ?_
   refine G_val rfl rfl rfl rfl (V_load1 rfl rfl (mem_at 0 rfl) rfl Try.underlying9 rfl) ?_
   refine G_val rfl rfl rfl rfl (V_move rfl rfl) ?_
   refine G_call (L2 := [_]) rfl rfl rfl rfl rfl rfl Try.call113 (ct_runtext _ _ s n e1 hu (by omega) hm) [] [] rfl rfl ?_
   rintro v post ⟨rfl, rfl⟩
   show G _ _ _ [_] _
   refine G_val rfl rfl rfl rfl (V_move rfl rfl) ?_
   refine G_val rfl rfl rfl rfl (V_extract rfl rfl rfl) ?_
   refine G_val rfl rfl rfl rfl (V_extract rfl rfl rfl) ?_
   refine G_val rfl rfl rfl rfl (V_extract rfl rfl rfl) ?_
   refine G_val rfl rfl rfl rfl (V_assign rfl rfl) ?_
   refine G_val rfl rfl rfl rfl (V_assign rfl rfl) ?_
   refine G_val rfl rfl rfl rfl (V_assign rfl rfl) ?_
   refine G_done ?_
   refine G_seq ?_
   refine G_region (l := [0, 1, 2, 3]) rfl ?_
   refine G_val rfl rfl rfl rfl (V_move rfl rfl) ?_
   refine G_val rfl rfl rfl rfl (V_move rfl rfl) ?_
   refine G_val rfl rfl rfl rfl (V_move rfl rfl) ?_
   refine G_call (L2 := []) rfl rfl rfl rfl rfl rfl Try.call112 (rrd_took0 _ _ _ _ _ (by omega)) [0] [] rfl rfl ?_
   rintro v post ⟨rfl, rfl⟩
   show G _ _ _ [_] _
   refine G_done ?_
   refine G_seq ?_
   refine G_region (l := [0, 1]) rfl ?_
   refine G_val rfl rfl rfl rfl (V_move rfl rfl) ?_
   refine G_val rfl rfl rfl rfl (V_assign rfl rfl) ?_
   refine G_done ?_
   refine G_ret (post := [_]) Try.func41 rfl (RVs_cons (RV_tmp rfl) RVs_nil) [0] rfl ?_
   dsimp only [packed]
   first
     | (rw [rdStr_err most l e (by omega)]; exact ⟨rfl, rfl⟩)
     | (obtain rfl : e = 0 := by omega
        rw [rdStr_bad most l s n e1 hu (by omega)]; subst h0; exact ⟨rfl, rfl⟩)
     | (obtain rfl : e = 0 := by omega
        subst h0; rw [rdStr_ok most l s n hu]; exact ⟨rfl, rfl⟩)

set_option maxRecDepth 100000 in
set_option maxHeartbeats 1000000 in
theorem rrd_flag (b : Nat) (l : List UInt8) (e : Nat) (hl : l.length ≤ 140737488351232) (he : e ≤ 1000) :
    Ct Try.prog 37 [.pointer (some ⟨b, 0, none⟩)] [] [(some b, .cells #[.string (bs l), .int .i64 ((e : Nat) : Int)] 86 (0, 0))] fun r post => r = .bool (rdFlag l e).1 ∧ post = [(some b, .cells #[.string (bs (rdFlag l e).2.1), .int .i64 (((rdFlag l e).2.2 : Nat) : Int)] 86 (0, 0))] := by
 obtain ⟨v, n, e1, hu⟩ : ∃ v n e1, unchain l = (v, n, e1) := ⟨_, _, _, rfl⟩
 obtain ⟨hv, hb⟩ := unchain_bd hu
 refine ct_of Try.func37 rfl rfl (fun w0 => ?_)
 show G _ _ [(0, _)] _ _
 refine G_seq ?_
 refine G_region (l := [0]) rfl ?_
 refine G_val rfl rfl rfl rfl (V_assign rfl rfl) ?_
 refine G_done ?_
 refine G_seq ?_
 refine G_seq ?_
 refine G_region (l := [0, 1, 2, 3, 4]) rfl ?_
 refine G_val rfl rfl rfl rfl (V_move rfl rfl) ?_
 first
   | refine G_val rfl rfl rfl rfl (V_nilCheck rfl rfl) ?_
   | refine G_val rfl rfl rfl rfl (V_nilCheckF rfl rfl) ?_
 refine G_val rfl rfl rfl rfl (V_fieldAddr (fo := 1) rfl Try.underlying86 rfl infReadW_3 rfl rfl rfl) ?_
 refine G_val rfl rfl rfl rfl (V_load1 rfl rfl (mem_at 0 rfl) rfl Try.underlying3 rfl) ?_
 refine G_val rfl rfl rfl rfl (V_neq rfl rfl rfl) ?_
 refine G_done ?_
 refine G_ifD rfl (fun hc1 => ?_) (fun hc1 => ?_)
 · skip
   refine G_seq ?_
   refine G_region (l := [0]) rfl ?_
   refine G_val rfl rfl rfl rfl (V_assign rfl rfl) ?_
   refine G_done ?_
   refine G_ret (post := [_]) Try.func37 rfl (RVs_cons (RV_tmp rfl) RVs_nil) [0] rfl ?_
   dsimp only [packed]
   first
     | (rw [rdFlag_err l e (by omega)]; exact ⟨rfl, rfl⟩)
     | (obtain rfl : e = 0 := by omega
        rw [rdFlag_bad l v n e1 hu (by omega)]; exact ⟨rfl, rfl⟩)
     | (obtain rfl : e = 0 := by omega
        subst h0; rw [rdFlag_long l v n hu h2]; exact ⟨rfl, rfl⟩)
     | (obtain rfl : e = 0 := by omega
        subst h0; rw [rdFlag_ok l v n hu h2]; refine ⟨bool_eq (Bool.eq_iff_iff.2 ?_), rfl⟩; first | (simp; done) | (simp; omega) | (simp [*]; done))
 refine G_skip ?_
 refine G_seq ?_
 rcases (by omega : (e1 = 0 ∧ n ≤ l.length ∧ 1 < v) ∨ (e1 = 0 ∧ n ≤ l.length ∧ ¬ 1 < v) ∨ (0 < e1 ∧ e1 ≤ 3 ∧ v = 0)) with ⟨h0, h1, h2⟩ | ⟨h0, h1, h2⟩ | ⟨h0, h1, h2⟩
 · skip
   refine G_region (l := [0, 1, 2, 3, 4, 5, 6, 7, 8, 9, 10, 11]) rfl ?_
   refine G_val rfl rfl rfl rfl (V_move rfl rfl) ?_
   first
     | refine G_val rfl rfl rfl rfl (V_nilCheck rfl rfl) ?_
     | refine G_val rfl rfl rfl rfl (V_nilCheckF rfl rfl) ?_
   refine G_val rfl rfl rfl rfl (V_fieldAddr (fo := 0) rfl Try.underlying86 rfl infReadW_9 rfl rfl rfl) ?_
   refine G_val rfl rfl rfl rfl (V_load1 rfl rfl (mem_at 0 rfl) rfl Try.underlying9 rfl) ?_
   refine G_call (L2 := [_]) rfl rfl rfl rfl rfl rfl Try.call111 (ct_runchain _ v n e1 hu (by omega)) [] [] rfl rfl ?_
   rintro v post ⟨rfl, rfl⟩
   show G _ _ _ [_] _
   refine G_val rfl rfl rfl rfl (V_move rfl rfl) ?_
   refine G_val rfl rfl rfl rfl (V_extract rfl rfl rfl) ?_
   refine G_val rfl rfl rfl rfl (V_extract rfl rfl rfl) ?_
   refine G_val rfl rfl rfl rfl (V_extract rfl rfl rfl) ?_
   refine G_val rfl rfl rfl rfl (V_assign rfl rfl) ?_
   refine G_val rfl rfl rfl rfl (V_assign rfl rfl) ?_
   refine G_val rfl rfl rfl rfl (V_assign rfl rfl) ?_
   refine G_done ?_
   refine G_seq ?_
   refine G_seq ?_
   refine G_region (l := [0, 1, 2, 3, 4, 5]) rfl ?_
   refine G_val rfl rfl rfl rfl (V_move rfl rfl) ?_
   refine G_val rfl rfl rfl rfl (V_eql rfl rfl rfl) ?_
   refine G_val rfl rfl rfl rfl (V_move rfl rfl) ?_
   refine G_splitD 22 rfl (fun hc2 => ?_) (fun hc2 => ?_)
   rotate_left
   · (exfalso; omega)
   refine G_val rfl rfl rfl rfl (V_move rfl rfl) ?_
   refine G_val rfl rfl rfl rfl (V_gtr rfl rfl rfl) ?_
   refine G_val rfl rfl rfl rfl (V_pickT rfl rfl rfl) ?_
   refine G_done ?_
   refine G_ifD rfl (fun hc3 => ?_) (fun hc3 => ?_)
   rotate_left
   · (exfalso; omega)
   refine G_region (l := [0]) rfl ?_
   refine G_val rfl rfl rfl rfl (V_assign rfl rfl) ?_
   refine G_done ?_
   refine G_seq ?_
   refine G_region (l := [0, 1, 2, 3]) rfl ?_
   refine G_val rfl rfl rfl rfl (V_move rfl rfl) ?_
   refine G_val rfl rfl rfl rfl (V_move rfl rfl) ?_
   refine G_val rfl rfl rfl rfl (V_move rfl rfl) ?_
   refine G_call (L2 := []) rfl rfl rfl rfl rfl rfl Try.call112 (rrd_took0 _ _ _ _ 3 (by omega)) [0] [] rfl rfl ?_
   rintro v post ⟨rfl, rfl⟩
   show G _ _ _ [_] _
   refine G_done ?_
   refine G_seq ?_
   refine G_region (l := [0, 1, 2, 3, 4, 5, 6]) rfl ?_
   refine G_val rfl rfl rfl rfl (V_move rfl rfl) ?_
   refine G_val rfl rfl rfl rfl (V_eql rfl rfl rfl) ?_
   refine G_val rfl rfl rfl rfl (V_move rfl rfl) ?_
   refine G_splitD 32 rfl (fun hc4 => ?_) (fun hc4 => ?_)
   · (exfalso; omega)
   refine G_off rfl rfl rfl rfl ?_
   refine G_off rfl rfl rfl rfl ?_
   refine G_val rfl rfl rfl rfl (V_pickF rfl rfl rfl) ?_
   refine G_val rfl rfl rfl rfl (V_assign rfl rfl) ?_
   refine G_done ?_
   refine G_ret (post := [_]) Try.func37 rfl (RVs_cons (RV_tmp rfl) RVs_nil) [0] rfl ?_
   dsimp only [packed]
   first
     | (rw [rdFlag_err l e (by omega)]; exact ⟨rfl, rfl⟩)
     | (obtain rfl : e = 0 := by omega
        rw [rdFlag_bad l v n e1 hu (by omega)]; exact ⟨rfl, rfl⟩)
     | (obtain rfl : e = 0 := by omega
        subst h0; rw [rdFlag_long l v n hu h2]; exact ⟨rfl, rfl⟩)
     | (obtain rfl : e = 0 := by omega
        subst h0; rw [rdFlag_ok l v n hu h2]; refine ⟨bool_eq (Bool.eq_iff_iff.2 ?_), rfl⟩; first | (simp; done) | (simp; omega) | (simp [*]; done))
 · skip
   refine G_region (l := [0, 1, 2, 3, 4, 5, 6, 7, 8, 9, 10, 11]) rfl ?_
   refine G_val rfl rfl rfl rfl (V_move rfl rfl) ?_
   first
     | refine G_val rfl rfl rfl rfl (V_nilCheck rfl rfl) ?_
     | refine G_val rfl rfl rfl rfl (V_nilCheckF rfl rfl) ?_
   refine G_val rfl rfl rfl rfl (V_fieldAddr (fo := 0) rfl Try.underlying86 rfl infReadW_9 rfl rfl rfl) ?_
   refine G_val rfl rfl rfl rfl (V_load1 rfl rfl (mem_at 0 rfl) rfl Try.underlying9 rfl) ?_
   refine G_call (L2 := [_]) rfl rfl rfl rfl rfl rfl Try.call111 (ct_runchain _ v n e1 hu (by omega)) [] [] rfl rfl ?_
   rintro v post ⟨rfl, rfl⟩
   show G _ _ _ [_] _
   refine G_val rfl rfl rfl rfl (V_move rfl rfl) ?_
   refine G_val rfl rfl rfl rfl (V_extract rfl rfl rfl) ?_
   refine G_val rfl rfl rfl rfl (V_extract rfl rfl rfl) ?_
   refine G_val rfl rfl rfl rfl (V_extract rfl rfl rfl) ?_
   refine G_val rfl rfl rfl rfl (V_assign rfl rfl) ?_
   refine G_val rfl rfl rfl rfl (V_assign rfl rfl) ?_
   refine G_val rfl rfl rfl rfl (V_assign rfl rfl) ?_
   refine G_done ?_
   refine G_seq ?_
   refine G_seq ?_
   refine G_region (l := [0, 1, 2, 3, 4, 5]) rfl ?_
   refine G_val rfl rfl rfl rfl (V_move rfl rfl) ?_
   refine G_val rfl rfl rfl rfl (V_eql rfl rfl rfl) ?_
   refine G_val rfl rfl rfl rfl (V_move rfl rfl) ?_
   refine G_splitD 22 rfl (fun hc2 => ?_) (fun hc2 => ?_)
   rotate_left
   · (exfalso; omega)
   refine G_val rfl rfl rfl rfl (V_move rfl rfl) ?_
   refine G_val rfl rfl rfl rfl (V_gtr rfl rfl rfl) ?_
   refine G_val rfl rfl rfl rfl (V_pickT rfl rfl rfl) ?_
   refine G_done ?_
   refine G_ifD rfl (fun hc3 => ?_) (fun hc3 => ?_)
   · (exfalso; omega)
   refine G_skip ?_
   refine G_seq ?_
   refine G_region (l := [0, 1, 2, 3]) rfl ?_
   refine G_val rfl rfl rfl rfl (V_move rfl rfl) ?_
   refine G_val rfl rfl rfl rfl (V_move rfl rfl) ?_
   refine G_val rfl rfl rfl rfl (V_move rfl rfl) ?_
   refine G_call (L2 := []) rfl rfl rfl rfl rfl rfl Try.call112 (rrd_took1 _ _ _ _ _ (by omega) (by omega)) [0] [] rfl rfl ?_
   rintro v post ⟨rfl, rfl⟩
   show G _ _ _ [_] _
   refine G_done ?_
   refine G_seq ?_
   refine G_region (l := [0, 1, 2, 3, 4, 5, 6]) rfl ?_
   refine G_val rfl rfl rfl rfl (V_move rfl rfl) ?_
   refine G_val rfl rfl rfl rfl (V_eql rfl rfl rfl) ?_
   refine G_val rfl rfl rfl rfl (V_move rfl rfl) ?_
   refine G_splitD 32 rfl (fun hc4 => ?_) (fun hc4 => ?_)
   rotate_left
   · (exfalso; omega)
   refine G_val rfl rfl rfl rfl (V_move rfl rfl) ?_
   refine G_val rfl rfl rfl rfl (V_eql rfl rfl rfl) ?_
   refine G_val rfl rfl rfl rfl (V_pickT rfl rfl rfl) ?_
   refine G_val rfl rfl rfl rfl (V_assign rfl rfl) ?_
   refine G_done ?_
   refine G_ret (post := [_]) Try.func37 rfl (RVs_cons (RV_tmp rfl) RVs_nil) [0] rfl ?_
   dsimp only [packed]
   first
     | (rw [rdFlag_err l e (by omega)]; exact ⟨rfl, rfl⟩)
     | (obtain rfl : e = 0 := by omega
        rw [rdFlag_bad l v n e1 hu (by omega)]; exact ⟨rfl, rfl⟩)
     | (obtain rfl : e = 0 := by omega
        subst h0; rw [rdFlag_long l v n hu h2]; exact ⟨rfl, rfl⟩)
     | (obtain rfl : e = 0 := by omega
        subst h0; rw [rdFlag_ok l v n hu h2]; refine ⟨bool_eq (Bool.eq_iff_iff.2 ?_), rfl⟩; first | (simp; done) | (simp; omega) | (simp [*]; done))
 · skip
   refine G_region (l := [0, 1, 2, 3, 4, 5, 6, 7, 8, 9, 10, 11]) rfl ?_
   refine G_val rfl rfl rfl rfl (V_move rfl rfl) ?_
   first
     | refine G_val rfl rfl rfl rfl (V_nilCheck rfl rfl) ?_
     | refine G_val rfl rfl rfl rfl (V_nilCheckF rfl rfl) ?_
   refine G_val rfl rfl rfl rfl (V_fieldAddr (fo := 0) rfl Try.underlying86 rfl infReadW_9 rfl rfl rfl) ?_
   refine G_val rfl rfl rfl rfl (V_load1 rfl rfl (mem_at 0 rfl) rfl Try.underlying9 rfl) ?_
   refine G_call (L2 := [_]) rfl rfl rfl rfl rfl rfl Try.call111 (ct_runchain _ v n e1 hu (by omega)) [] [] rfl rfl ?_
   rintro v post ⟨rfl, rfl⟩
   show G _ _ _ [_] _
   refine G_val rfl rfl rfl rfl (V_move rfl rfl) ?_
   refine G_val rfl rfl rfl rfl (V_extract rfl rfl rfl) ?_
   refine G_val rfl rfl rfl rfl (V_extract rfl rfl rfl) ?_
   refine G_val rfl rfl rfl rfl (V_extract rfl rfl rfl) ?_
   refine G_val rfl rfl rfl rfl (V_assign rfl rfl) ?_
   refine G_val rfl rfl rfl rfl (V_assign rfl rfl) ?_
   refine G_val rfl rfl rfl rfl (V_assign rfl rfl) ?_
   refine G_done ?_
   refine G_seq ?_
   refine G_seq ?_
   refine G_region (l := [0, 1, 2, 3, 4, 5]) rfl ?_
   refine G_val rfl rfl rfl rfl (V_move rfl rfl) ?_
   refine G_val rfl rfl rfl rfl (V_eql rfl rfl rfl) ?_
   refine G_val rfl rfl rfl rfl (V_move rfl rfl) ?_
   refine G_splitD 22 rfl (fun hc2 => ?_) (fun hc2 => ?_)
   · (exfalso; omega)
   refine G_off rfl rfl rfl rfl ?_
   refine G_off rfl rfl rfl rfl ?_
   refine G_val rfl rfl rfl rfl (V_pickF rfl rfl rfl) ?_
   refine G_done ?_
   refine G_else rfl ?_
   refine G_skip ?_
   refine G_seq ?_
   refine G_region (l := [0, 1, 2, 3]) rfl ?_
   refine G_val rfl rfl rfl rfl (V_move rfl rfl) ?_
   refine G_val rfl rfl rfl rfl (V_move rfl rfl) ?_
   refine G_val rfl rfl rfl rfl (V_move rfl rfl) ?_
   refine G_call (L2 := []) rfl rfl rfl rfl rfl rfl Try.call112 (rrd_took0 _ _ _ _ _ (by omega)) [0] [] rfl rfl ?_
   rintro v post ⟨rfl, rfl⟩
   show G _ _ _ [_] _
   refine G_done ?_
   refine G_seq ?_
   refine G_region (l := [0, 1, 2, 3, 4, 5, 6]) rfl ?_
   refine G_val rfl rfl rfl rfl (V_move rfl rfl) ?_
   refine G_val rfl rfl rfl rfl (V_eql rfl rfl rfl) ?_
   refine G_val rfl rfl rfl rfl (V_move rfl rfl) ?_
   refine G_splitD 32 rfl (fun hc3 => ?_) (fun hc3 => ?_)
   · (exfalso; omega)
   refine G_off rfl rfl rfl rfl ?_
   refine G_off rfl rfl rfl rfl ?_
   refine G_val rfl rfl rfl rfl (V_pickF rfl rfl rfl) ?_
   refine G_val rfl rfl rfl rfl (V_assign rfl rfl) ?_
   refine G_done ?_
   refine G_ret (post := [_]) Try.func37 rfl (RVs_cons (RV_tmp rfl) RVs_nil) [0] rfl ?_
   dsimp only [packed]
   first
     | (rw [rdFlag_err l e (by omega)]; exact ⟨rfl, rfl⟩)
     | (obtain rfl : e = 0 := by omega
        rw [rdFlag_bad l v n e1 hu (by omega)]; exact ⟨rfl, rfl⟩)
     | (obtain rfl : e = 0 := by omega
        subst h0; rw [rdFlag_long l v n hu h2]; exact ⟨rfl, rfl⟩)
     | (obtain rfl : e = 0 := by omega
        subst h0; rw [rdFlag_ok l v n hu h2]; refine ⟨bool_eq (Bool.eq_iff_iff.2 ?_), rfl⟩; first | (simp; done) | (simp; omega) | (simp [*]; done))

set_option maxRecDepth 100000 in
set_option maxHeartbeats 1000000 in
theorem rrd_end (b : Nat) (l : List UInt8) (e : Nat) :
    Ct Try.prog 44 [.pointer (some ⟨b, 0, none⟩)] [(some b, .cells #[.string (bs l), .int .i64 ((e : Nat) : Int)] 86 (0, 0))] [] fun r post => r = .int .i64 ((rdEnd l e : Nat) : Int) ∧ post = [] := by
 refine ct_of Try.func44 rfl rfl (fun w0 => ?_)
 show G _ _ [(0, _)] _ _
 refine G_seq ?_
 refine G_region (l := [0]) rfl ?_
 refine G_val rfl rfl rfl rfl (V_assign rfl rfl) ?_
 refine G_done ?_
 refine G_seq ?_
 refine G_seq ?_
 refine G_region (l := [0, 1, 2, 3, 4]) rfl ?_
 refine G_val rfl rfl rfl rfl (V_move rfl rfl) ?_
 first
   | refine G_val rfl rfl rfl rfl (V_nilCheck rfl rfl) ?_
   | refine G_val rfl rfl rfl rfl (V_nilCheckF rfl rfl) ?_
 refine G_val rfl rfl rfl rfl (V_fieldAddr (fo := 1) rfl Try.underlying86 rfl infReadW_3 rfl rfl rfl) ?_
 refine G_val rfl rfl rfl rfl (V_load1 rfl rfl (mem_at 0 rfl) rfl Try.underlying3 rfl) ?_
 refine G_val rfl rfl rfl rfl (V_neq rfl rfl rfl) ?_
 refine G_done ?_
 refine G_ifD rfl (fun hc1 => ?_) (fun hc1 => ?_)
 · skip
   refine G_seq ?_
   refine G_region (l := [0, 1, 2, 3, 4]) rfl ?_
   refine G_val rfl rfl rfl rfl (V_move rfl rfl) ?_
   first
     | refine G_val rfl rfl rfl rfl (V_nilCheck rfl rfl) ?_
     | refine G_val rfl rfl rfl rfl (V_nilCheckF rfl rfl) ?_
   refine G_val rfl rfl rfl rfl (V_fieldAddr (fo := 1) rfl Try.underlying86 rfl infReadW_3 rfl rfl rfl) ?_
   refine G_val rfl rfl rfl rfl (V_load1 rfl rfl (mem_at 0 rfl) rfl Try.underlying3 rfl) ?_
   refine G_val rfl rfl rfl rfl (V_assign rfl rfl) ?_
   refine G_done ?_
   refine G_ret (post := []) Try.func44 rfl (RVs_cons (RV_tmp rfl) RVs_nil) [] rfl ?_
   dsimp only [packed]
   refine ⟨?_, rfl⟩; unfold rdEnd; first | (rw [if_pos (by omega)]; done) | (rw [if_neg (by omega), if_neg (by assumption)]; rfl) | (rw [if_neg (by omega), if_pos (Classical.not_not.1 (by assumption))]; rfl) | (rw [if_neg (by omega), if_pos (by assumption)]; rfl)
 refine G_skip ?_
 refine G_seq ?_
 refine G_seq ?_
 refine G_region (l := [0, 1, 2, 3, 4]) rfl ?_
 refine G_val rfl rfl rfl rfl (V_move rfl rfl) ?_
 first
   | refine G_val rfl rfl rfl rfl (V_nilCheck rfl rfl) ?_
   | refine G_val rfl rfl rfl rfl (V_nilCheckF rfl rfl) ?_
 refine G_val rfl rfl rfl rfl (V_fieldAddr (fo := 0) rfl Try.underlying86 rfl infReadW_9 rfl rfl rfl) ?_
 refine G_val rfl rfl rfl rfl (V_load1 rfl rfl (mem_at 0 rfl) rfl Try.underlying9 rfl) ?_
 refine G_val rfl rfl rfl rfl (V_sneq rfl rfl rfl) ?_
 refine G_done ?_
 refine G_ifD rfl (fun hc2 => ?_) (fun hc2 => ?_)
 · skip
   refine G_seq ?_
   refine G_region (l := [0]) rfl ?_
   refine G_val rfl rfl rfl rfl (V_assign rfl rfl) ?_
   refine G_done ?_
   refine G_ret (post := []) Try.func44 rfl (RVs_cons (RV_tmp rfl) RVs_nil) [] rfl ?_
   dsimp only [packed]
   refine ⟨?_, rfl⟩; unfold rdEnd; first | (rw [if_pos (by omega)]; done) | (rw [if_neg (by omega), if_neg (by assumption)]; rfl) | (rw [if_neg (by omega), if_pos (Classical.not_not.1 (by assumption))]; rfl) | (rw [if_neg (by omega), if_pos (by assumption)]; rfl)
 refine G_skip ?_
 refine G_seq ?_
 refine G_region (l := [0]) rfl ?_
 refine G_val rfl rfl rfl rfl (V_assign rfl rfl) ?_
 refine G_done ?_
 refine G_ret (post := []) Try.func44 rfl (RVs_cons (RV_tmp rfl) RVs_nil) [] rfl ?_
 dsimp only [packed]
 refine ⟨?_, rfl⟩; unfold rdEnd; first | (rw [if_pos (by omega)]; done) | (rw [if_neg (by omega), if_neg (by assumption)]; rfl) | (rw [if_neg (by omega), if_pos (Classical.not_not.1 (by assumption))]; rfl) | (rw [if_neg (by omega), if_pos (by assumption)]; rfl)

set_option maxRecDepth 100000 in
set_option maxHeartbeats 1000000 in
theorem rd_new (l : List UInt8) :
    Ct Try.prog 33 [.string (bs l)] [] [] fun r post => ∃ b, r = .pointer (some ⟨b, 0, none⟩) ∧ post = [(some b, .cells #[.string (bs l), .int .i64 ((0 : Nat) : Int)] 169 (0, 0))] := by
 refine ct_of Try.func33 rfl rfl (fun w0 => ?_)
 show G _ _ [(0, _)] _ _
 refine G_seq ?_
 refine G_region (l := [0]) rfl ?_
 refine G_val rfl rfl rfl rfl (V_assign rfl rfl) ?_
 refine G_done ?_
 refine G_seq ?_
 refine G_region (l := [0, 1, 2, 3]) rfl ?_
 refine G_val rfl rfl rfl rfl (V_move rfl rfl) ?_
 refine G_val rfl rfl rfl rfl (V_buildS (cs := [_, _]) rfl Try.underlying169 infReadW_169 rfl plcReadW_169 rfl rfl rfl) ?_
 refine G_new rfl rfl rfl rfl (N_boxA rfl rfl) (fun b5 => ?_)
 refine G_val rfl rfl rfl rfl (V_assign rfl rfl) ?_
 refine G_done ?_
 refine G_ret (post := [_]) Try.func33 rfl (RVs_cons (RV_tmp rfl) RVs_nil) [0] rfl ?_
 dsimp only [packed]
 exact ⟨_, rfl, rfl⟩

end
end Go.Proofs.Ytkekkalgebgokaa
