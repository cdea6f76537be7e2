/- What the law ScriptSends needs, part 2. -/
import Derived.Test.YtkekkalgebgokaaPkScriptSends1
import Derived.RangeFuncRecord
import Derived.Lib.MakeNoZero
import Derived.Lib.Bytealg
import Derived.Laws.RangeString

/- The readers of layer 1, the program's and the document's: numbers and texts, one behind the other. -/
set_option linter.unusedSimpArgs false
set_option linter.unusedVariables false
namespace Go.Proofs.Ytkekkalgebgokaa
open Go Go.RowKit

section
theorem infReadW_3 : Try.prog.info? 3 = some Try.t3 := by kernel_rfl
theorem infReadW_9 : Try.prog.info? 9 = some Try.t9 := by kernel_rfl
theorem infReadW_33 : Try.prog.info? 33 = some Try.t33 := by kernel_rfl
theorem infReadW_169 : Try.prog.info? 169 = some Try.t169 := by kernel_rfl
theorem plcReadW_169 : placesOf Try.prog (Try.prog.fieldsOf 169) = some [(0, 1), (1, 1)] := by kernel_rfl


theorem ct_unchain (l : List UInt8) (v n e : Nat) (hu : unchain l = (v, n, e)) (h : l.length ≤ 9223372036854775807) : Ct Try.prog 131 [.string (bs l)] [] [] (fun r post => r = .tuple #[.int .u64 (v : Int), .int .i64 (n : Int), .int .i64 (e : Int)] ∧ post = []) :=
  ct_same (fun w => by
    have := unchain_any (bs l) w (by rw [bs_size]; omega)
    rw [bs_data, hu] at this
    exact this)
theorem ct_runchain (l : List UInt8) (v n e : Nat) (hu : unchain l = (v, n, e)) (h : l.length ≤ 9223372036854775807) : Ct Try.prog 111 [.string (bs l)] [] [] (fun r post => r = .tuple #[.int .u64 (v : Int), .int .i64 (n : Int), .int .i64 (e : Int)] ∧ post = []) :=
  ct_same (fun w => by
    have := runchain_any (bs l) w (by rw [bs_size]; omega)
    rw [bs_data, hu] at this
    exact this)
theorem ct_untext (l : List UInt8) (most : Int) (s : List UInt8) (n e : Nat) (hu : untext l most = (s, n, e)) (h : l.length ≤ 140737488351232) (hm : 0 ≤ most ∧ most ≤ 4611686018427387904) : Ct Try.prog 152 [.string (bs l), .int .i64 most] [] [] (fun r post => r = .tuple #[.string (bs s), .int .i64 (n : Int), .int .i64 (e : Int)] ∧ post = []) :=
  ct_same (fun w => by
    have := untext_any (bs l) most w (by rw [bs_size]; omega) (by omega) (by omega)
    rw [bs_data, hu] at this
    exact this)
theorem ct_runtext (l : List UInt8) (most : Int) (s : List UInt8) (n e : Nat) (hu : untext l most = (s, n, e)) (h : l.length ≤ 140737488351232) (hm : 0 ≤ most ∧ most ≤ 4611686018427387904) : Ct Try.prog 113 [.string (bs l), .int .i64 most] [] [] (fun r post => r = .tuple #[.string (bs s), .int .i64 (n : Int), .int .i64 (e : Int)] ∧ post = []) :=
  ct_same (fun w => by
    have := runtext_any (bs l) most w (by rw [bs_size]; omega) (by omega) (by omega)
    rw [bs_data, hu] at this
    exact this)
theorem unchain_bd {l : List UInt8} {v n e : Nat} (h : unchain l = (v, n, e)) : v < 18446744073709551616 ∧ ((e = 0 ∧ n ≤ l.length ∧ n ≤ 10 ∧ 1 ≤ n) ∨ (0 < e ∧ e ≤ 3 ∧ v = 0)) := by
  have := unchain_ok l
  rw [h] at this
  obtain ⟨h1, h2⟩ := this
  simp only at h1 h2
  exact ⟨h1, by omega⟩

set_option maxRecDepth 100000 in
set_option maxHeartbeats 1000000 in
theorem rd_ok (b : Nat) (l : List UInt8) (e : Nat) :
    Ct Try.prog 130 [.pointer (some ⟨b, 0, none⟩)] [(some b, .cells #[.string (bs l), .int .i64 ((e : Nat) : Int)] 169 (0, 0))] [] fun v post => v = .bool (decide (e = 0)) ∧ post = [] := by
 refine ct_of Try.func130 rfl rfl (fun w0 => ?_)
 show G _ _ [(0, _)] _ _
 refine G_seq ?_
 refine G_region (l := [0]) rfl ?_
 refine G_val rfl rfl rfl rfl (V_assign rfl rfl) ?_
 refine G_done ?_
 refine G_seq ?_
 refine G_region (l := [0, 1, 2, 3, 4, 5, 6, 7, 8, 9]) rfl ?_
 refine G_val rfl rfl rfl rfl (V_move rfl rfl) ?_
 refine G_val rfl rfl rfl rfl (V_pneqN rfl Try.underlying74 rfl rfl) ?_
 refine G_val rfl rfl rfl rfl (V_move rfl rfl) ?_
 refine G_val rfl rfl rfl rfl (V_move rfl rfl) ?_
 first
   | refine G_val rfl rfl rfl rfl (V_nilCheck rfl rfl) ?_
   | refine G_val rfl rfl rfl rfl (V_nilCheckF rfl rfl) ?_
 refine G_val rfl rfl rfl rfl (V_fieldAddr (fo := 1) rfl Try.underlying169 rfl infReadW_33 rfl rfl rfl) ?_
 refine G_val rfl rfl rfl rfl (V_load1 rfl rfl (mem_at 0 rfl) rfl Try.underlying33 rfl) ?_
 refine G_val rfl rfl rfl rfl (V_eql rfl rfl rfl) ?_
 refine G_val rfl rfl rfl rfl (V_pickT rfl rfl rfl) ?_
 refine G_val rfl rfl rfl rfl (V_assign rfl rfl) ?_
 refine G_done ?_
 refine G_ret (post := []) Try.func130 rfl (RVs_cons (RV_tmp rfl) RVs_nil) [] rfl ?_
 dsimp only [packed]
 refine ⟨bool_eq ?_, rfl⟩; simp

set_option maxRecDepth 100000 in
set_option maxHeartbeats 1000000 in
theorem rd_err (b : Nat) (l : List UInt8) (e : Nat) :
    Ct Try.prog 86 [.pointer (some ⟨b, 0, none⟩)] [(some b, .cells #[.string (bs l), .int .i64 ((e : Nat) : Int)] 169 (0, 0))] [] fun v post => v = .int .i64 (e : Int) ∧ post = [] := by
 refine ct_of Try.func86 rfl rfl (fun w0 => ?_)
 show G _ _ [(0, _)] _ _
 refine G_seq ?_
 refine G_region (l := [0]) rfl ?_
 refine G_val rfl rfl rfl rfl (V_assign rfl rfl) ?_
 refine G_done ?_
 refine G_seq ?_
 refine G_seq ?_
 refine G_region (l := [0, 1]) rfl ?_
 refine G_val rfl rfl rfl rfl (V_move rfl rfl) ?_
 refine G_val rfl rfl rfl rfl (V_peqlN rfl Try.underlying74 rfl rfl) ?_
 refine G_done ?_
 refine G_else rfl ?_
 refine G_skip ?_
 refine G_seq ?_
 refine G_region (l := [0, 1, 2, 3, 4]) rfl ?_
 refine G_val rfl rfl rfl rfl (V_move rfl rfl) ?_
 first
   | refine G_val rfl rfl rfl rfl (V_nilCheck rfl rfl) ?_
   | refine G_val rfl rfl rfl rfl (V_nilCheckF rfl rfl) ?_
 refine G_val rfl rfl rfl rfl (V_fieldAddr (fo := 1) rfl Try.underlying169 rfl infReadW_33 rfl rfl rfl) ?_
 refine G_val rfl rfl rfl rfl (V_load1 rfl rfl (mem_at 0 rfl) rfl Try.underlying33 rfl) ?_
 refine G_val rfl rfl rfl rfl (V_assign rfl rfl) ?_
 refine G_done ?_
 refine G_ret (post := []) Try.func86 rfl (RVs_cons (RV_tmp rfl) RVs_nil) [] rfl ?_
 dsimp only [packed]
 exact ⟨rfl, rfl⟩

set_option maxRecDepth 100000 in
set_option maxHeartbeats 1000000 in
theorem rd_took1 (b : Nat) (l : List UInt8) (e n e1 : Nat) (hn : n ≤ l.length) (h1 : e1 = 0) :
    Ct Try.prog 132 [.pointer (some ⟨b, 0, none⟩), .int .i64 (n : Int), .int .i64 (e1 : Int)] [] [(some b, .cells #[.string (bs l), .int .i64 ((e : Nat) : Int)] 169 (0, 0))] fun v post => v = .bool true ∧ post = [(some b, .cells #[.string (bs (l.drop n)), .int .i64 ((e : Nat) : Int)] 169 (0, 0))] := by
 subst h1
 refine ct_of Try.func132 rfl rfl (fun w0 => ?_)
 show G _ _ [(0, _), (1, _), (2, _)] _ _
 refine G_seq ?_
 refine G_region (l := [0]) rfl ?_
 refine G_val rfl rfl rfl rfl (V_assign rfl rfl) ?_
 refine G_done ?_
 refine G_seq ?_
 refine G_seq ?_
 refine G_region (l := [0, 1]) rfl ?_
 refine G_val rfl rfl rfl rfl (V_move rfl rfl) ?_
 refine G_val rfl rfl rfl rfl (V_neq rfl rfl rfl) ?_
 refine G_done ?_
 refine G_ifD rfl (fun hc1 => ?_) (fun hc1 => ?_)
 · (first | (exact absurd rfl hc1) | (exfalso; omega))
 refine G_skip ?_
 refine G_seq ?_
 refine G_region (l := [0, 1, 2, 3, 4, 5, 6, 7, 8, 9]) rfl ?_
 refine G_val rfl rfl rfl rfl (V_move rfl rfl) ?_
 refine G_val rfl rfl rfl rfl (V_move rfl rfl) ?_
 first
   | refine G_val rfl rfl rfl rfl (V_nilCheck rfl rfl) ?_
   | refine G_val rfl rfl rfl rfl (V_nilCheckF rfl rfl) ?_
 refine G_val rfl rfl rfl rfl (V_fieldAddr (fo := 0) rfl Try.underlying169 rfl infReadW_9 rfl rfl rfl) ?_
 refine G_val rfl rfl rfl rfl (V_load1 rfl rfl (mem_at 0 rfl) rfl Try.underlying9 rfl) ?_
 refine G_val rfl rfl rfl rfl (V_move rfl rfl) ?_
 first
   | refine G_val rfl rfl rfl rfl (V_ssliceLN (lo := _) rfl Try.underlying9 rfl rfl rfl (by first | omega | (simp; done) | (simp; omega) | (simp at *; omega))) ?_
   | refine G_val rfl rfl rfl rfl (V_ssliceL rfl Try.underlying9 rfl rfl (by first | omega | (simp; done) | (simp; omega) | (simp at *; omega)) (by first | omega | (simp; done) | (simp; omega) | (simp at *; omega))) ?_
 first
   | refine G_val rfl rfl rfl rfl (V_nilCheck rfl rfl) ?_
   | refine G_val rfl rfl rfl rfl (V_nilCheckF rfl rfl) ?_
 refine G_val rfl rfl rfl rfl (V_fieldAddr (fo := 0) rfl Try.underlying169 rfl infReadW_9 rfl rfl rfl) ?_
 refine G_put (l1 := []) (L' := [_]) rfl rfl rfl rfl (P_store1 rfl rfl rfl (mem_at 0 rfl) (by first | exact of_decide_eq_true rfl | omega | (simp; done) | (simp; omega) | (simp at *; omega)) infReadW_9 rfl rfl) rfl ?_
 refine G_done ?_
 refine G_seq ?_
 refine G_region (l := [0]) rfl ?_
 refine G_val rfl rfl rfl rfl (V_assign rfl rfl) ?_
 refine G_done ?_
 refine G_ret (post := [_]) Try.func132 rfl (RVs_cons (RV_tmp rfl) RVs_nil) [0] rfl ?_
 dsimp only [packed]
 exact ⟨rfl, rfl⟩

set_option maxRecDepth 100000 in
set_option maxHeartbeats 1000000 in
theorem rd_took0 (b : Nat) (l : List UInt8) (e n e1 : Nat) (h1 : 0 < e1) :
    Ct Try.prog 132 [.pointer (some ⟨b, 0, none⟩), .int .i64 (n : Int), .int .i64 (e1 : Int)] [] [(some b, .cells #[.string (bs l), .int .i64 ((e : Nat) : Int)] 169 (0, 0))] fun v post => v = .bool false ∧ post = [(some b, .cells #[.string (bs l), .int .i64 ((e1 : Nat) : Int)] 169 (0, 0))] := by
 refine ct_of Try.func132 rfl rfl (fun w0 => ?_)
 show G _ _ [(0, _), (1, _), (2, _)] _ _
 refine G_seq ?_
 refine G_region (l := [0]) rfl ?_
 refine G_val rfl rfl rfl rfl (V_assign rfl rfl) ?_
 refine G_done ?_
 refine G_seq ?_
 refine G_seq ?_
 refine G_region (l := [0, 1]) rfl ?_
 refine G_val rfl rfl rfl rfl (V_move rfl rfl) ?_
 refine G_val rfl rfl rfl rfl (V_neq rfl rfl rfl) ?_
 refine G_done ?_
 refine G_ifD rfl (fun hc1 => ?_) (fun hc1 => ?_)
 rotate_left
 · (exfalso; omega)
 refine G_seq ?_
 refine G_region (l := [0, 1, 2, 3, 4]) rfl ?_
 refine G_val rfl rfl rfl rfl (V_move rfl rfl) ?_
 refine G_val rfl rfl rfl rfl (V_move rfl rfl) ?_
 first
   | refine G_val rfl rfl rfl rfl (V_nilCheck rfl rfl) ?_
   | refine G_val rfl rfl rfl rfl (V_nilCheckF rfl rfl) ?_
 refine G_val rfl rfl rfl rfl (V_fieldAddr (fo := 1) rfl Try.underlying169 rfl infReadW_33 rfl rfl rfl) ?_
 refine G_put (l1 := []) (L' := [_]) rfl rfl rfl rfl (P_store1 rfl rfl rfl (mem_at 0 rfl) (by first | exact of_decide_eq_true rfl | omega | (simp; done) | (simp; omega) | (simp at *; omega)) infReadW_33 rfl rfl) rfl ?_
 refine G_done ?_
 refine G_seq ?_
 refine G_region (l := [0]) rfl ?_
 refine G_val rfl rfl rfl rfl (V_assign rfl rfl) ?_
 refine G_done ?_
 refine G_ret (post := [_]) Try.func132 rfl (RVs_cons (RV_tmp rfl) RVs_nil) [0] rfl ?_
 dsimp only [packed]
 exact ⟨rfl, rfl⟩

set_option maxRecDepth 100000 in
set_option maxHeartbeats 1000000 in
theorem rrd_took1 (b : Nat) (l : List UInt8) (e n e1 : Nat) (hn : n ≤ l.length) (h1 : e1 = 0) :
    Ct Try.prog 112 [.pointer (some ⟨b, 0, none⟩), .int .i64 (n : Int), .int .i64 (e1 : Int)] [] [(some b, .cells #[.string (bs l), .int .i64 ((e : Nat) : Int)] 86 (0, 0))] fun v post => v = .tuple #[] ∧ post = [(some b, .cells #[.string (bs (l.drop n)), .int .i64 ((e : Nat) : Int)] 86 (0, 0))] := by
 subst h1
 refine ct_of Try.func112 rfl rfl (fun w0 => ?_)
 show G _ _ [(0, _), (1, _), (2, _)] _ _
 refine G_seq ?_
 refine G_seq ?_
 refine G_region (l := [0, 1]) rfl ?_
 refine G_val rfl rfl rfl rfl (V_move rfl rfl) ?_
 refine G_val rfl rfl rfl rfl (V_neq rfl rfl rfl) ?_
 refine G_done ?_
 refine G_ifD rfl (fun hc1 => ?_) (fun hc1 => ?_)
 · (first | (exact absurd rfl hc1) | (exfalso; omega))
 refine G_skip ?_
 refine G_region (l := [0, 1, 2, 3, 4, 5, 6, 7, 8, 9]) rfl ?_
 refine G_val rfl rfl rfl rfl (V_move rfl rfl) ?_
 refine G_val rfl rfl rfl rfl (V_move rfl rfl) ?_
 first
   | refine G_val rfl rfl rfl rfl (V_nilCheck rfl rfl) ?_
   | refine G_val rfl rfl rfl rfl (V_nilCheckF rfl rfl) ?_
 refine G_val rfl rfl rfl rfl (V_fieldAddr (fo := 0) rfl Try.underlying86 rfl infReadW_9 rfl rfl rfl) ?_
 refine G_val rfl rfl rfl rfl (V_load1 rfl rfl (mem_at 0 rfl) rfl Try.underlying9 rfl) ?_
 refine G_val rfl rfl rfl rfl (V_move rfl rfl) ?_
 first
   | refine G_val rfl rfl rfl rfl (V_ssliceLN (lo := _) rfl Try.underlying9 rfl rfl rfl (by first | omega | (simp; done) | (simp; omega) | (simp at *; omega))) ?_
   | refine G_val rfl rfl rfl rfl (V_ssliceL rfl Try.underlying9 rfl rfl (by first | omega | (simp; done) | (simp; omega) | (simp at *; omega)) (by first | omega | (simp; done) | (simp; omega) | (simp at *; omega))) ?_
 first
   | refine G_val rfl rfl rfl rfl (V_nilCheck rfl rfl) ?_
   | refine G_val rfl rfl rfl rfl (V_nilCheckF rfl rfl) ?_
 refine G_val rfl rfl rfl rfl (V_fieldAddr (fo := 0) rfl Try.underlying86 rfl infReadW_9 rfl rfl rfl) ?_
 refine G_put (l1 := []) (L' := [_]) rfl rfl rfl rfl (P_store1 rfl rfl rfl (mem_at 0 rfl) (by first | exact of_decide_eq_true rfl | omega | (simp; done) | (simp; omega) | (simp at *; omega)) infReadW_9 rfl rfl) rfl ?_
 refine G_done ?_
 refine G_end (post := [_]) Try.func112 rfl RVs_nil [0] rfl ?_
 dsimp only [packed]
 exact ⟨rfl, rfl⟩

set_option maxRecDepth 100000 in
set_option maxHeartbeats 1000000 in
theorem rrd_took0 (b : Nat) (l : List UInt8) (e n e1 : Nat) (h1 : 0 < e1) :
    Ct Try.prog 112 [.pointer (some ⟨b, 0, none⟩), .int .i64 (n : Int), .int .i64 (e1 : Int)] [] [(some b, .cells #[.string (bs l), .int .i64 ((e : Nat) : Int)] 86 (0, 0))] fun v post => v = .tuple #[] ∧ post = [(some b, .cells #[.string (bs l), .int .i64 ((e1 : Nat) : Int)] 86 (0, 0))] := by
 refine ct_of Try.func112 rfl rfl (fun w0 => ?_)
 show G _ _ [(0, _), (1, _), (2, _)] _ _
 refine G_seq ?_
 refine G_seq ?_
 refine G_region (l := [0, 1]) rfl ?_
 refine G_val rfl rfl rfl rfl (V_move rfl rfl) ?_
 refine G_val rfl rfl rfl rfl (V_neq rfl rfl rfl) ?_
 refine G_done ?_
 refine G_ifD rfl (fun hc1 => ?_) (fun hc1 => ?_)
 rotate_left
 · (exfalso; omega)
 refine G_seq ?_
 refine G_region (l := [0, 1, 2, 3, 4]) rfl ?_
 refine G_val rfl rfl rfl rfl (V_move rfl rfl) ?_
 refine G_val rfl rfl rfl rfl (V_move rfl rfl) ?_
 first
   | refine G_val rfl rfl rfl rfl (V_nilCheck rfl rfl) ?_
   | refine G_val rfl rfl rfl rfl (V_nilCheckF rfl rfl) ?_
 refine G_val rfl rfl rfl rfl (V_fieldAddr (fo := 1) rfl Try.underlying86 rfl infReadW_3 rfl rfl rfl) ?_
 refine G_put (l1 := []) (L' := [_]) rfl rfl rfl rfl (P_store1 rfl rfl rfl (mem_at 0 rfl) (by first | exact of_decide_eq_true rfl | omega | (simp; done) | (simp; omega) | (simp at *; omega)) infReadW_3 rfl rfl) rfl ?_
 refine G_done ?_
 refine G_ret (post := [_]) Try.func112 rfl RVs_nil [0] rfl ?_
 dsimp only [packed]
 exact ⟨rfl, rfl⟩

set_option maxRecDepth 100000 in
set_option maxHeartbeats 1000000 in
theorem rd_num (b : Nat) (l : List UInt8) (e : Nat) (hl : l.length ≤ 140737488351232) (he : e ≤ 1000) :
    Ct Try.prog 133 [.pointer (some ⟨b, 0, none⟩)] [] [(some b, .cells #[.string (bs l), .int .i64 ((e : Nat) : Int)] 169 (0, 0))] fun r post => r = .int .u64 (((rdNum l e).1 : Nat) : Int) ∧ post = [(some b, .cells #[.string (bs (rdNum l e).2.1), .int .i64 (((rdNum l e).2.2 : Nat) : Int)] 169 (0, 0))] := by
 obtain ⟨v, n, e1, hu⟩ : ∃ v n e1, unchain l = (v, n, e1) := ⟨_, _, _, rfl⟩
 obtain ⟨hv, hb⟩ := unchain_bd hu
 refine ct_of Try.func133 rfl rfl (fun w0 => ?_)
 show G _ _ [(0, _)] _ _
 refine G_seq ?_
 refine G_region (l := [0]) rfl ?_
 refine G_val rfl rfl rfl rfl (V_assign rfl rfl) ?_
 refine G_done ?_
 refine G_seq ?_
 refine G_seq ?_
 refine G_region (l := [0, 1, 2]) rfl ?_
 refine G_val rfl rfl rfl rfl (V_move rfl rfl) ?_
 refine G_call (L2 := [_]) rfl rfl rfl rfl rfl rfl Try.call130 (rd_ok _ _ _) [] [0] rfl rfl ?_
 rintro v post ⟨rfl, rfl⟩
 show G _ _ _ [_] _
 refine G_val rfl rfl rfl rfl (V_notD rfl rfl) ?_
 refine G_done ?_
 refine G_ifD rfl (fun hc1 => ?_) (fun hc1 => ?_)
 · skip
   refine G_seq ?_
   refine G_region (l := [0]) rfl ?_
   refine G_val rfl rfl rfl rfl (V_assign rfl rfl) ?_
   refine G_done ?_
   refine G_ret (post := [_]) Try.func133 rfl (RVs_cons (RV_tmp rfl) RVs_nil) [0] rfl ?_
   dsimp only [packed]
   first
     | (rw [rdNum_err l e (by omega)]; exact ⟨rfl, rfl⟩)
     | (obtain rfl : e = 0 := by omega
        rw [rdNum_bad l v n e1 hu (by omega)]; subst h2; exact ⟨rfl, rfl⟩)
     | (obtain rfl : e = 0 := by omega
        subst h0; rw [rdNum_ok l v n hu]; exact ⟨rfl, rfl⟩)
 refine G_skip ?_
 refine G_seq ?_
 rcases hb with ⟨h0, h1, h2, h3⟩ | ⟨h0, h1, h2⟩
 · skip
   refine G_region (l := [0, 1, 2, 3, 4, 5, 6, 7, 8, 9, 10, 11]) rfl ?_
   refine G_val rfl rfl rfl rfl (V_move rfl rfl) ?_
   first
     | refine G_val rfl rfl rfl rfl (V_nilCheck rfl rfl) ?_
     | refine G_val rfl rfl rfl rfl (V_nilCheckF rfl rfl) ?_
   refine G_val rfl rfl rfl rfl (V_fieldAddr (fo := 0) rfl Try.underlying169 rfl infReadW_9 rfl rfl rfl) ?_
   refine G_val rfl rfl rfl rfl (V_load1 rfl rfl (mem_at 0 rfl) rfl Try.underlying9 rfl) ?_
   refine G_call (L2 := [_]) rfl rfl rfl rfl rfl rfl Try.call131 (ct_unchain _ v n e1 hu (by omega)) [] [] rfl rfl ?_
   rintro v post ⟨rfl, rfl⟩
   show G _ _ _ [_] _
   refine G_val rfl rfl rfl rfl (V_move rfl rfl) ?_
   refine G_val rfl rfl rfl rfl (V_extract rfl rfl rfl) ?_
   refine G_val rfl rfl rfl rfl (V_extract rfl rfl rfl) ?_
   refine G_val rfl rfl rfl rfl (V_extract rfl rfl rfl) ?_
   refine G_val rfl rfl rfl rfl (V_assign rfl rfl) ?_
   refine G_val rfl rfl rfl rfl (V_assign rfl rfl) ?_
   refine G_val rfl rfl rfl rfl (V_assign rfl rfl) ?_
   refine G_done ?_
   refine G_seq ?_
   refine G_seq ?_
   refine G_region (l := [0, 1, 2, 3, 4]) rfl ?_
   refine G_val rfl rfl rfl rfl (V_move rfl rfl) ?_
   refine G_val rfl rfl rfl rfl (V_move rfl rfl) ?_
   refine G_val rfl rfl rfl rfl (V_move rfl rfl) ?_
   refine G_call (L2 := []) rfl rfl rfl rfl rfl rfl Try.call132 (rd_took1 _ _ _ _ _ (by omega) (by omega)) [0] [] rfl rfl ?_
   rintro v post ⟨rfl, rfl⟩
   show G _ _ _ [_] _
   refine G_val rfl rfl rfl rfl (V_not rfl rfl) ?_
   refine G_done ?_
   refine G_else rfl ?_
   refine G_skip ?_
   refine G_seq ?_
   refine G_region (l := [0, 1]) rfl ?_
   refine G_val rfl rfl rfl rfl (V_move rfl rfl) ?_
   refine G_val rfl rfl rfl rfl (V_assign rfl rfl) ?_
   refine G_done ?_
   refine G_ret (post := [_]) Try.func133 rfl (RVs_cons (RV_tmp rfl) RVs_nil) [0] rfl ?_
   dsimp only [packed]
   first
     | (rw [rdNum_err l e (by omega)]; exact ⟨rfl, rfl⟩)
     | (obtain rfl : e = 0 := by omega
        rw [rdNum_bad l v n e1 hu (by omega)]; subst h2; exact ⟨rfl, rfl⟩)
     | (obtain rfl : e = 0 := by omega
        subst h0; rw [rdNum_ok l v n hu]; exact ⟨rfl, rfl⟩)
 · skip
   refine G_region (l := [0, 1, 2, 3, 4, 5, 6, 7, 8, 9, 10, 11]) rfl ?_
   refine G_val rfl rfl rfl rfl (V_move rfl rfl) ?_
   first
     | refine G_val rfl rfl rfl rfl (V_nilCheck rfl rfl) ?_
     | refine G_val rfl rfl rfl rfl (V_nilCheckF rfl rfl) ?_
   refine G_val rfl rfl rfl rfl (V_fieldAddr (fo := 0) rfl Try.underlying169 rfl infReadW_9 rfl rfl rfl) ?_
   refine G_val rfl rfl rfl rfl (V_load1 rfl rfl (mem_at 0 rfl) rfl Try.underlying9 rfl) ?_
   refine G_call (L2 := [_]) rfl rfl rfl rfl rfl rfl Try.call131 (ct_unchain _ v n e1 hu (by omega)) [] [] rfl rfl ?_
   rintro v post ⟨rfl, rfl⟩
   show G _ _ _ [_] _
   refine G_val rfl rfl rfl rfl (V_move rfl rfl) ?_
   refine G_val rfl rfl rfl rfl (V_extract rfl rfl rfl) ?_
   refine G_val rfl rfl rfl rfl (V_extract rfl rfl rfl) ?_
   refine G_val rfl rfl rfl rfl (V_extract rfl rfl rfl) ?_
   refine G_val rfl rfl rfl rfl (V_assign rfl rfl) ?_
   refine G_val rfl rfl rfl rfl (V_assign rfl rfl) ?_
   refine G_val rfl rfl rfl rfl (V_assign rfl rfl) ?_
   refine G_done ?_
   refine G_seq ?_
   refine G_seq ?_
   refine G_region (l := [0, 1, 2, 3, 4]) rfl ?_
   refine G_val rfl rfl rfl rfl (V_move rfl rfl) ?_
   refine G_val rfl rfl rfl rfl (V_move rfl rfl) ?_
   refine G_val rfl rfl rfl rfl (V_move rfl rfl) ?_
   refine G_call (L2 := []) rfl rfl rfl rfl rfl rfl Try.call132 (rd_took0 _ _ _ _ _ (by omega)) [0] [] rfl rfl ?_
   rintro v post ⟨rfl, rfl⟩
   show G _ _ _ [_] _
   refine G_val rfl rfl rfl rfl (V_not rfl rfl) ?_
   refine G_done ?_
   refine G_then rfl ?_
   refine G_seq ?_
   refine G_region (l := [0]) rfl ?_
   refine G_val rfl rfl rfl rfl (V_assign rfl rfl) ?_
   refine G_done ?_
   refine G_ret (post := [_]) Try.func133 rfl (RVs_cons (RV_tmp rfl) RVs_nil) [0] rfl ?_
   dsimp only [packed]
   first
     | (rw [rdNum_err l e (by omega)]; exact ⟨rfl, rfl⟩)
     | (obtain rfl : e = 0 := by omega
        rw [rdNum_bad l v n e1 hu (by omega)]; subst h2; exact ⟨rfl, rfl⟩)
     | (obtain rfl : e = 0 := by omega
        subst h0; rw [rdNum_ok l v n hu]; exact ⟨rfl, rfl⟩)

set_option maxRecDepth 100000 in
set_option maxHeartbeats 1000000 in
theorem rd_int (b : Nat) (l : List UInt8) (e : Nat) (most : Int) (hl : l.length ≤ 140737488351232) (he : e ≤ 1000) (hm : 0 ≤ most ∧ most ≤ 4611686018427387904) :
    Ct Try.prog 84 [.pointer (some ⟨b, 0, none⟩), .int .i64 most] [] [(some b, .cells #[.string (bs l), .int .i64 ((e : Nat) : Int)] 169 (0, 0))] fun r post => r = .int .i64 (((rdInt most l e).1 : Nat) : Int) ∧ post = [(some b, .cells #[.string (bs (rdInt most l e).2.1), .int .i64 (((rdInt most l e).2.2 : Nat) : Int)] 169 (0, 0))] := by
 obtain ⟨v, n, e1, hu⟩ : ∃ v n e1, unchain l = (v, n, e1) := ⟨_, _, _, rfl⟩
 obtain ⟨hv, hb⟩ := unchain_bd hu
 obtain ⟨hm0, hm1⟩ := hm
 refine ct_of Try.func84 rfl rfl (fun w0 => ?_)
 show G _ _ [(0, _), (1, _)] _ _
 refine G_seq ?_
 refine G_region (l := [0]) rfl ?_
 refine G_val rfl rfl rfl rfl (V_assign rfl rfl) ?_
 refine G_done ?_
 refine G_seq ?_
 refine G_seq ?_
 refine G_region (l := [0, 1, 2]) rfl ?_
 refine G_val rfl rfl rfl rfl (V_move rfl rfl) ?_
 refine G_call (L2 := [_]) rfl rfl rfl rfl rfl rfl Try.call130 (rd_ok _ _ _) [] [0] rfl rfl ?_
 rintro v post ⟨rfl, rfl⟩
 show G _ _ _ [_] _
 refine G_val rfl rfl rfl rfl (V_notD rfl rfl) ?_
 refine G_done ?_
 refine G_ifD rfl (fun hc1 => ?_) (fun hc1 => ?_)
 · skip
   refine G_seq ?_
   refine G_region (l := [0]) rfl ?_
   refine G_val rfl rfl rfl rfl (V_assign rfl rfl) ?_
   refine G_done ?_
   refine G_ret (post := [_]) Try.func84 rfl (RVs_cons (RV_tmp rfl) RVs_nil) [0] rfl ?_
   dsimp only [packed]
   first
     | (rw [rdInt_err most l e (by omega)]; exact ⟨rfl, rfl⟩)
     | (obtain rfl : e = 0 := by omega
        rw [rdInt_bad most l v n e1 hu (by omega)]; subst h2; exact ⟨rfl, rfl⟩)
     | (obtain rfl : e = 0 := by omega
        subst h0; rw [rdInt_long most l v n hu (.inr h2)]; exact ⟨rfl, rfl⟩)
     | (obtain rfl : e = 0 := by omega
        subst h0; rw [rdInt_ok most l v n hu (by omega)]; exact ⟨rfl, rfl⟩)
 refine G_skip ?_
 refine G_seq ?_
 rcases (by omega : (e1 = 0 ∧ n ≤ l.length ∧ most < (v : Int)) ∨ (e1 = 0 ∧ n ≤ l.length ∧ ¬ most < (v : Int)) ∨ (0 < e1 ∧ e1 ≤ 3 ∧ v = 0)) with ⟨h0, h1, h2⟩ | ⟨h0, h1, h2⟩ | ⟨h0, h1, h2⟩
 · skip
   refine G_region (l := [0, 1, 2, 3, 4, 5, 6, 7, 8, 9, 10, 11]) rfl ?_
   refine G_val rfl rfl rfl rfl (V_move rfl rfl) ?_
   first
     | refine G_val rfl rfl rfl rfl (V_nilCheck rfl rfl) ?_
     | refine G_val rfl rfl rfl rfl (V_nilCheckF rfl rfl) ?_
   refine G_val rfl rfl rfl rfl (V_fieldAddr (fo := 0) rfl Try.underlying169 rfl infReadW_9 rfl rfl rfl) ?_
   refine G_val rfl rfl rfl rfl (V_load1 rfl rfl (mem_at 0 rfl) rfl Try.underlying9 rfl) ?_
   refine G_call (L2 := [_]) rfl rfl rfl rfl rfl rfl Try.call131 (ct_unchain _ v n e1 hu (by omega)) [] [] rfl rfl ?_
   rintro v post ⟨rfl, rfl⟩
   show G _ _ _ [_] _
   refine G_val rfl rfl rfl rfl (V_move rfl rfl) ?_
   refine G_val rfl rfl rfl rfl (V_extract rfl rfl rfl) ?_
   refine G_val rfl rfl rfl rfl (V_extract rfl rfl rfl) ?_
   refine G_val rfl rfl rfl rfl (V_extract rfl rfl rfl) ?_
   refine G_val rfl rfl rfl rfl (V_assign rfl rfl) ?_
   refine G_val rfl rfl rfl rfl (V_assign rfl rfl) ?_
   refine G_val rfl rfl rfl rfl (V_assign rfl rfl) ?_
   refine G_done ?_
   refine G_seq ?_
   refine G_seq ?_
   refine G_region (l := [0, 1, 2, 3, 4, 5, 6, 7, 8, 9, 10, 11]) rfl ?_
   refine G_val rfl rfl rfl rfl (V_move rfl rfl) ?_
   refine G_val rfl rfl rfl rfl (V_eql rfl rfl rfl) ?_
   refine G_val rfl rfl rfl rfl (V_move rfl rfl) ?_
   refine G_splitD 22 rfl (fun hc2 => ?_) (fun hc2 => ?_)
   rotate_left
   · (exfalso; omega)
   refine G_val rfl rfl rfl rfl (V_move rfl rfl) ?_
   refine G_val rfl rfl rfl rfl (V_lss rfl rfl rfl) ?_
   refine G_val rfl rfl rfl rfl (V_move rfl rfl) ?_
   refine G_splitD 25 rfl (fun hc3 => ?_) (fun hc3 => ?_)
   · (exfalso; omega)
   refine G_val rfl rfl rfl rfl (V_move rfl rfl) ?_
   refine G_val rfl rfl rfl rfl (V_move rfl rfl) ?_
   first
     | refine G_val rfl rfl rfl rfl ((V_conv rfl rfl Try.underlying3 Try.underlying23).int (wrap_u64 (by omega))) ?_
     | refine G_val rfl rfl rfl rfl (V_conv rfl rfl Try.underlying3 Try.underlying23) ?_
   refine G_val rfl rfl rfl rfl (V_gtr rfl rfl rfl) ?_
   refine G_val rfl rfl rfl rfl (V_pickF rfl rfl rfl) ?_
   refine G_val rfl rfl rfl rfl (V_pickT rfl rfl rfl) ?_
   refine G_done ?_
   refine G_ifD rfl (fun hc4 => ?_) (fun hc4 => ?_)
   rotate_left
   · (exfalso; omega)
   refine G_region (l := [0]) rfl ?_
   refine G_val rfl rfl rfl rfl (V_assign rfl rfl) ?_
   refine G_done ?_
   refine G_seq ?_
   refine G_seq ?_
   refine G_region (l := [0, 1, 2, 3, 4]) rfl ?_
   refine G_val rfl rfl rfl rfl (V_move rfl rfl) ?_
   refine G_val rfl rfl rfl rfl (V_move rfl rfl) ?_
   refine G_val rfl rfl rfl rfl (V_move rfl rfl) ?_
   refine G_call (L2 := []) rfl rfl rfl rfl rfl rfl Try.call132 (rd_took0 _ _ _ _ 4 (by omega)) [0] [] rfl rfl ?_
   rintro v post ⟨rfl, rfl⟩
   show G _ _ _ [_] _
   refine G_val rfl rfl rfl rfl (V_not rfl rfl) ?_
   refine G_done ?_
   refine G_then rfl ?_
   refine G_seq ?_
   refine G_region (l := [0]) rfl ?_
   refine G_val rfl rfl rfl rfl (V_assign rfl rfl) ?_
   refine G_done ?_
   refine G_ret (post := [_]) Try.func84 rfl (RVs_cons (RV_tmp rfl) RVs_nil) [0] rfl ?_
   dsimp only [packed]
   first
     | (rw [rdInt_err most l e (by omega)]; exact ⟨rfl, rfl⟩)
     | (obtain rfl : e = 0 := by omega
        rw [rdInt_bad most l v n e1 hu (by omega)]; subst h2; exact ⟨rfl, rfl⟩)
     | (obtain rfl : e = 0 := by omega
        subst h0; rw [rdInt_long most l v n hu (.inr h2)]; exact ⟨rfl, rfl⟩)
     | (obtain rfl : e = 0 := by omega
        subst h0; rw [rdInt_ok most l v n hu (by omega)]; exact ⟨rfl, rfl⟩)
 · skip
   refine G_region (l := [0, 1, 2, 3, 4, 5, 6, 7, 8, 9, 10, 11]) rfl ?_
   refine G_val rfl rfl rfl rfl (V_move rfl rfl) ?_
   first
     | refine G_val rfl rfl rfl rfl (V_nilCheck rfl rfl) ?_
     | refine G_val rfl rfl rfl rfl (V_nilCheckF rfl rfl) ?_
   refine G_val rfl rfl rfl rfl (V_fieldAddr (fo := 0) rfl Try.underlying169 rfl infReadW_9 rfl rfl rfl) ?_
   refine G_val rfl rfl rfl rfl (V_load1 rfl rfl (mem_at 0 rfl) rfl Try.underlying9 rfl) ?_
   refine G_call (L2 := [_]) rfl rfl rfl rfl rfl rfl Try.call131 (ct_unchain _ v n e1 hu (by omega)) [] [] rfl rfl ?_
   rintro v post ⟨rfl, rfl⟩
   show G _ _ _ [_] _
   refine G_val rfl rfl rfl rfl (V_move rfl rfl) ?_
   refine G_val rfl rfl rfl rfl (V_extract rfl rfl rfl) ?_
   refine G_val rfl rfl rfl rfl (V_extract rfl rfl rfl) ?_
   refine G_val rfl rfl rfl rfl (V_extract rfl rfl rfl) ?_
   refine G_val rfl rfl rfl rfl (V_assign rfl rfl) ?_
   refine G_val rfl rfl rfl rfl (V_assign rfl rfl) ?_
   refine G_val rfl rfl rfl rfl (V_assign rfl rfl) ?_
   refine G_done ?_
   refine G_seq ?_
   refine G_seq ?_
   refine G_region (l := [0, 1, 2, 3, 4, 5, 6, 7, 8, 9, 10, 11]) rfl ?_
   refine G_val rfl rfl rfl rfl (V_move rfl rfl) ?_
   refine G_val rfl rfl rfl rfl (V_eql rfl rfl rfl) ?_
   refine G_val rfl rfl rfl rfl (V_move rfl rfl) ?_
   refine G_splitD 22 rfl (fun hc2 => ?_) (fun hc2 => ?_)
   rotate_left
   · (exfalso; omega)
   refine G_val rfl rfl rfl rfl (V_move rfl rfl) ?_
   refine G_val rfl rfl rfl rfl (V_lss rfl rfl rfl) ?_
   refine G_val rfl rfl rfl rfl (V_move rfl rfl) ?_
   refine G_splitD 25 rfl (fun hc3 => ?_) (fun hc3 => ?_)
   · (exfalso; omega)
   refine G_val rfl rfl rfl rfl (V_move rfl rfl) ?_
   refine G_val rfl rfl rfl rfl (V_move rfl rfl) ?_
   first
     | refine G_val rfl rfl rfl rfl ((V_conv rfl rfl Try.underlying3 Try.underlying23).int (wrap_u64 (by omega))) ?_
     | refine G_val rfl rfl rfl rfl (V_conv rfl rfl Try.underlying3 Try.underlying23) ?_
   refine G_val rfl rfl rfl rfl (V_gtr rfl rfl rfl) ?_
   refine G_val rfl rfl rfl rfl (V_pickF rfl rfl rfl) ?_
   refine G_val rfl rfl rfl rfl (V_pickT rfl rfl rfl) ?_
   refine G_done ?_
   refine G_ifD rfl (fun hc4 => ?_) (fun hc4 => ?_)
   · (exfalso; omega)
   refine G_skip ?_
   refine G_seq ?_
   refine G_seq ?_
   refine G_region (l := [0, 1, 2, 3, 4]) rfl ?_
   refine G_val rfl rfl rfl rfl (V_move rfl rfl) ?_
   refine G_val rfl rfl rfl rfl (V_move rfl rfl) ?_
   refine G_val rfl rfl rfl rfl (V_move rfl rfl) ?_
   refine G_call (L2 := []) rfl rfl rfl rfl rfl rfl Try.call132 (rd_took1 _ _ _ _ _ (by omega) (by omega)) [0] [] rfl rfl ?_
   rintro v post ⟨rfl, rfl⟩
   show G _ _ _ [_] _
   refine G_val rfl rfl rfl rfl (V_not rfl rfl) ?_
   refine G_done ?_
   refine G_else rfl ?_
   refine G_skip ?_
   refine G_seq ?_
   refine G_region (l := [0, 1, 2]) rfl ?_
   refine G_val rfl rfl rfl rfl (V_move rfl rfl) ?_
   first
     | refine G_val rfl rfl rfl rfl ((V_conv rfl rfl Try.underlying23 Try.underlying3).int (wrap_i64 (by omega))) ?_
     | refine G_val rfl rfl rfl rfl (V_conv rfl rfl Try.underlying23 Try.underlying3) ?_
   refine G_val rfl rfl rfl rfl (V_assign rfl rfl) ?_
   refine G_done ?_
   refine G_ret (post := [_]) Try.func84 rfl (RVs_cons (RV_tmp rfl) RVs_nil) [0] rfl ?_
   dsimp only [packed]
   first
     | (rw [rdInt_err most l e (by omega)]; exact ⟨rfl, rfl⟩)
     | (obtain rfl : e = 0 := by omega
        rw [rdInt_bad most l v n e1 hu (by omega)]; subst h2; exact ⟨rfl, rfl⟩)
     | (obtain rfl : e = 0 := by omega
        subst h0; rw [rdInt_long most l v n hu (.inr h2)]; exact ⟨rfl, rfl⟩)
     | (obtain rfl : e = 0 := by omega
        subst h0; rw [rdInt_ok most l v n hu (by omega)]; exact ⟨rfl, rfl⟩)
 · skip
   refine G_region (l := [0, 1, 2, 3, 4, 5, 6, 7, 8, 9, 10, 11]) rfl ?_
   refine G_val rfl rfl rfl rfl (V_move rfl rfl) ?_
   first
     | refine G_val rfl rfl rfl rfl (V_nilCheck rfl rfl) ?_
     | refine G_val rfl rfl rfl rfl (V_nilCheckF rfl rfl) ?_
   refine G_val rfl rfl rfl rfl (V_fieldAddr (fo := 0) rfl Try.underlying169 rfl infReadW_9 rfl rfl rfl) ?_
   refine G_val rfl rfl rfl rfl (V_load1 rfl rfl (mem_at 0 rfl) rfl Try.underlying9 rfl) ?_
   refine G_call (L2 := [_]) rfl rfl rfl rfl rfl rfl Try.call131 (ct_unchain _ v n e1 hu (by omega)) [] [] rfl rfl ?_
   rintro v post ⟨rfl, rfl⟩
   show G _ _ _ [_] _
   refine G_val rfl rfl rfl rfl (V_move rfl rfl) ?_
   refine G_val rfl rfl rfl rfl (V_extract rfl rfl rfl) ?_
   refine G_val rfl rfl rfl rfl (V_extract rfl rfl rfl) ?_
   refine G_val rfl rfl rfl rfl (V_extract rfl rfl rfl) ?_
   refine G_val rfl rfl rfl rfl (V_assign rfl rfl) ?_
   refine G_val rfl rfl rfl rfl (V_assign rfl rfl) ?_
   refine G_val rfl rfl rfl rfl (V_assign rfl rfl) ?_
   refine G_done ?_
   refine G_seq ?_
   refine G_seq ?_
   refine G_region (l := [0, 1, 2, 3, 4, 5, 6, 7, 8, 9, 10, 11]) rfl ?_
   refine G_val rfl rfl rfl rfl (V_move rfl rfl) ?_
   refine G_val rfl rfl rfl rfl (V_eql rfl rfl rfl) ?_
   refine G_val rfl rfl rfl rfl (V_move rfl rfl) ?_
   refine G_splitD 22 rfl (fun hc2 => ?_) (fun hc2 => ?_)
   · (exfalso; omega)
   refine G_off rfl rfl rfl rfl ?_
   refine G_off rfl rfl rfl rfl ?_
   refine G_off rfl rfl rfl rfl ?_
   refine G_off rfl rfl rfl rfl ?_
   refine G_off rfl rfl rfl rfl ?_
   refine G_off rfl rfl rfl rfl ?_
   refine G_off rfl rfl rfl rfl ?_
   refine G_off rfl rfl rfl rfl ?_
   refine G_val rfl rfl rfl rfl (V_pickF rfl rfl rfl) ?_
   refine G_done ?_
   refine G_else rfl ?_
   refine G_skip ?_
   refine G_seq ?_
   refine G_seq ?_
   refine G_region (l := [0, 1, 2, 3, 4]) rfl ?_
   refine G_val rfl rfl rfl rfl (V_move rfl rfl) ?_
   refine G_val rfl rfl rfl rfl (V_move rfl rfl) ?_
   refine G_val rfl rfl rfl rfl (V_move rfl rfl) ?_
   refine G_call (L2 := []) rfl rfl rfl rfl rfl rfl Try.call132 (rd_took0 _ _ _ _ _ (by omega)) [0] [] rfl rfl ?_
   rintro v post ⟨rfl, rfl⟩
   show G _ _ _ [_] _
   refine G_val rfl rfl rfl rfl (V_not rfl rfl) ?_
   refine G_done ?_
   refine G_then rfl ?_
   refine G_seq ?_
   refine G_region (l := [0]) rfl ?_
   refine G_val rfl rfl rfl rfl (V_assign rfl rfl) ?_
   refine G_done ?_
   refine G_ret (post := [_]) Try.func84 rfl (RVs_cons (RV_tmp rfl) RVs_nil) [0] rfl ?_
   dsimp only [packed]
   first
     | (rw [rdInt_err most l e (by omega)]; exact ⟨rfl, rfl⟩)
     | (obtain rfl : e = 0 := by omega
        rw [rdInt_bad most l v n e1 hu (by omega)]; subst h2; exact ⟨rfl, rfl⟩)
     | (obtain rfl : e = 0 := by omega
        subst h0; rw [rdInt_long most l v n hu (.inr h2)]; exact ⟨rfl, rfl⟩)
     | (obtain rfl : e = 0 := by omega
        subst h0; rw [rdInt_ok most l v n hu (by omega)]; exact ⟨rfl, rfl⟩)

set_option maxRecDepth 100000 in
set_option maxHeartbeats 1000000 in
theorem rd_str (b : Nat) (l : List UInt8) (e : Nat) (most : Int) (hl : l.length ≤ 140737488351232) (he : e ≤ 1000) (hm : 0 ≤ most ∧ most ≤ 4611686018427387904) :
    Ct Try.prog 134 [.pointer (some ⟨b, 0, none⟩), .int .i64 most] [] [(some b, .cells #[.string (bs l), .int .i64 ((e : Nat) : Int)] 169 (0, 0))] fun r post => r = .string (bs (rdStr most l e).1) ∧ post = [(some b, .cells #[.string (bs (rdStr most l e).2.1), .int .i64 (((rdStr most l e).2.2 : Nat) : Int)] 169 (0, 0))] := by
 obtain ⟨s, n, e1, hu⟩ : ∃ s n e1, untext l most = (s, n, e1) := ⟨_, _, _, rfl⟩
 refine ct_of Try.func134 rfl rfl (fun w0 => ?_)
 show G _ _ [(0, _), (1, _)] _ _
 refine G_seq ?_
 refine G_region (l := [0]) rfl ?_
 refine G_val rfl rfl rfl rfl (V_assign rfl rfl) ?_
 refine G_done ?_
 refine G_seq ?_
 refine G_seq ?_
 refine G_region (l := [0, 1, 2]) rfl ?_
 refine G_val rfl rfl rfl rfl (V_move rfl rfl) ?_
 refine G_call (L2 := [_]) rfl rfl rfl rfl rfl rfl Try.call130 (rd_ok _ _ _) [] [0] rfl rfl ?_
 rintro v post ⟨rfl, rfl⟩
 show G _ _ _ [_] _
 refine G_val rfl rfl rfl rfl (V_notD rfl rfl) ?_
 refine G_done ?_
 refine G_ifD rfl (fun hc1 => ?_) (fun hc1 => ?_)
 · skip
   refine G_seq ?_
   refine G_region (l := [0]) rfl ?_
   refine G_val rfl rfl rfl rfl (V_assign rfl rfl) ?_
   refine G_done ?_
   refine G_ret (post := [_]) Try.func134 rfl (RVs_cons (RV_tmp rfl) RVs_nil) [0] rfl ?_
   dsimp only [packed]
   first
     | (rw [rdStr_err most l e (by omega)]; exact ⟨rfl, rfl⟩)
     | (obtain rfl : e = 0 := by omega
        rw [rdStr_bad most l s n e1 hu (by omega)]; subst h0; exact ⟨rfl, rfl⟩)
     | (obtain rfl : e = 0 := by omega
        subst h0; rw [rdStr_ok most l s n hu]; exact ⟨rfl, rfl⟩)
 refine G_skip ?_
 refine G_seq ?_
 rcases untext_ok l most s n e1 hu with ⟨h0, h1, h2, h3⟩ | ⟨h0, h1, h2, h3⟩
 · skip
   refine G_region (l := [0, 1, 2, 3, 4, 5, 6, 7, 8, 9, 10, 11, 12]) rfl ?_
   refine G_val rfl rfl rfl rfl (V_move rfl rfl) ?_
   first
     | refine G_val rfl rfl rfl rfl (V_nilCheck rfl rfl) ?_
     | refine G_val rfl rfl rfl rfl (V_nilCheckF rfl rfl) ?_
   refine G_val rfl rfl rfl rfl (V_fieldAddr (fo := 0) rfl Try.underlying169 rfl infReadW_9 rfl rfl rfl) ?_
   refine G_val rfl rfl rfl rfl (V_load1 rfl rfl (mem_at 0 rfl) rfl Try.underlying9 rfl) ?_
   refine G_val rfl rfl rfl rfl (V_move rfl rfl) ?_
   refine G_call (L2 := [_]) rfl rfl rfl rfl rfl rfl Try.call152 (ct_untext _ _ s n e1 hu (by omega) hm) [] [] rfl rfl ?_
   rintro v post ⟨rfl, rfl⟩
   show G _ _ _ [_] _
   refine G_val rfl rfl rfl rfl (V_move rfl rfl) ?_
   refine G_val rfl rfl rfl rfl (V_extract rfl rfl rfl) ?_
   refine G_val rfl rfl rfl rfl (V_extract rfl rfl rfl) ?_
   refine G_val rfl rfl rfl rfl (V_extract rfl rfl rfl) ?_
   refine G_val rfl rfl rfl rfl (V_assign rfl rfl) ?_
   refine G_val rfl rfl rfl rfl (V_assign rfl rfl) ?_
   refine G_val rfl rfl rfl rfl (V_assign rfl rfl) ?_
   refine G_done ?_
   refine G_seq ?_
   refine G_region (l := [0, 1, 2, 3]) rfl ?_
   refine G_val rfl rfl rfl rfl (V_move rfl rfl) ?_
   refine G_val rfl rfl rfl rfl (V_move rfl rfl) ?_
   refine G_val rfl rfl rfl rfl (V_move rfl rfl) ?_
   refine G_call (L2 := []) rfl rfl rfl rfl rfl rfl Try.call132 (rd_took1 _ _ _ _ _ (by omega) (by omega)) [0] [] rfl rfl ?_
   rintro v post ⟨rfl, rfl⟩
   show G _ _ _ [_] _
   refine G_done ?_
   refine G_seq ?_
   refine G_region (l := [0, 1]) rfl ?_
   refine G_val rfl rfl rfl rfl (V_move rfl rfl) ?_
   refine G_val rfl rfl rfl rfl (V_assign rfl rfl) ?_
   refine G_done ?_
   refine G_ret (post := [_]) Try.func134 rfl (RVs_cons (RV_tmp rfl) RVs_nil) [0] rfl ?_
   dsimp only [packed]
   first
     | (rw [rdStr_err most l e (by omega)]; exact ⟨rfl, rfl⟩)
     | (obtain rfl : e = 0 := by omega
        rw [rdStr_bad most l s n e1 hu (by omega)]; subst h0; exact ⟨rfl, rfl⟩)
     | (obtain rfl : e = 0 := by omega
        subst h0; rw [rdStr_ok most l s n hu]; exact ⟨rfl, rfl⟩)
 · skip
   refine G_region (l := [0, 1, 2, 3, 4, 5, 6, 7, 8, 9, 10, 11, 12]) rfl ?_
   refine G_val rfl rfl rfl rfl (V_move rfl rfl) ?_
   first
     | refine G_val rfl rfl rfl rfl (V_nilCheck rfl rfl) ?_
     | refine G_val rfl rfl rfl rfl (V_nilCheckF rfl rfl) ?_
   refine G_val rfl rfl rfl rfl (V_fieldAddr (fo := 0) rfl Try.underlying169 rfl infReadW_9 rfl rfl rfl) ?_
   refine G_val rfl rfl rfl rfl (V_load1 rfl rfl (mem_at 0 rfl) rfl Try.underlying9 rfl) ?_
   refine G_val rfl rfl rfl rfl (V_move rfl rfl) ?_
   refine G_call (L2 := [_]) rfl rfl rfl rfl rfl rfl Try.call152 (ct_untext _ _ s n e1 hu (by omega) hm) [] [] rfl rfl ?_
   rintro v post ⟨rfl, rfl⟩
   show G _ _ _ [_] _
   refine G_val rfl rfl rfl rfl (V_move rfl rfl) ?_
   refine G_val rfl rfl rfl rfl (V_extract rfl rfl rfl) ?_
   refine G_val rfl rfl rfl rfl (V_extract rfl rfl rfl) ?_
   refine G_val rfl rfl rfl rfl (V_extract rfl rfl rfl) ?_
   refine G_val rfl rfl rfl rfl (V_assign rfl rfl) ?_
   refine G_val rfl rfl rfl rfl (V_assign rfl rfl) ?_
   refine G_val rfl rfl rfl rfl (V_assign rfl rfl) ?_
   refine G_done ?_
   refine G_seq ?_
   refine G_region (l := [0, 1, 2, 3]) rfl ?_
   refine G_val rfl rfl rfl rfl (V_move rfl rfl) ?_
   refine G_val rfl rfl rfl rfl (V_move rfl rfl) ?_
   refine G_val rfl rfl rfl rfl (V_move rfl rfl) ?_
   refine G_call (L2 := []) rfl rfl rfl rfl rfl rfl Try.call132 (rd_took0 _ _ _ _ _ (by omega)) [0] [] rfl rfl ?_
   rintro v post ⟨rfl, rfl⟩
   show G _ _ _ [_] _
   refine G_done ?_
   refine G_seq ?_
   refine G_region (l := [0, 1]) rfl ?_
   refine G_val rfl rfl rfl rfl (V_move rfl rfl) ?_
   refine G_val rfl rfl rfl rfl (V_assign rfl rfl) ?_
   refine G_done ?_
   refine G_ret (post := [_]) Try.func134 rfl (RVs_cons (RV_tmp rfl) RVs_nil) [0] rfl ?_
   dsimp only [packed]
   first
     | (rw [rdStr_err most l e (by omega)]; exact ⟨rfl, rfl⟩)
     | (obtain rfl : e = 0 := by omega
        rw [rdStr_bad most l s n e1 hu (by omega)]; subst h0; exact ⟨rfl, rfl⟩)
     | (obtain rfl : e = 0 := by omega
        subst h0; rw [rdStr_ok most l s n hu]; exact ⟨rfl, rfl⟩)

set_option maxRecDepth 100000 in
set_option maxHeartbeats 1000000 in
theorem rd_flag (b : Nat) (l : List UInt8) (e : Nat) (hl : l.length ≤ 140737488351232) (he : e ≤ 1000) :
    Ct Try.prog 141 [.pointer (some ⟨b, 0, none⟩)] [] [(some b, .cells #[.string (bs l), .int .i64 ((e : Nat) : Int)] 169 (0, 0))] fun r post => r = .bool (rdFlag l e).1 ∧ post = [(some b, .cells #[.string (bs (rdFlag l e).2.1), .int .i64 (((rdFlag l e).2.2 : Nat) : Int)] 169 (0, 0))] := by
 obtain ⟨v, n, e1, hu⟩ : ∃ v n e1, unchain l = (v, n, e1) := ⟨_, _, _, rfl⟩
 obtain ⟨hv, hb⟩ := unchain_bd hu
 refine ct_of Try.func141 rfl rfl (fun w0 => ?_)
 show G _ _ [(0, _)] _ _
 refine G_seq ?_
 refine G_region (l := [0]) rfl ?_
 refine G_val rfl rfl rfl rfl (V_assign rfl rfl) ?_
 refine G_done ?_
 refine G_seq ?_
 refine G_seq ?_
 refine G_region (l := [0, 1, 2]) rfl ?_
 refine G_val rfl rfl rfl rfl (V_move rfl rfl) ?_
 refine G_call (L2 := [_]) rfl rfl rfl rfl rfl rfl Try.call130 (rd_ok _ _ _) [] [0] rfl rfl ?_
 rintro v post ⟨rfl, rfl⟩
 show G _ _ _ [_] _
 refine G_val rfl rfl rfl rfl (V_notD rfl rfl) ?_
 refine G_done ?_
 refine G_ifD rfl (fun hc1 => ?_) (fun hc1 => ?_)
 · skip
   refine G_seq ?_
   refine G_region (l := [0]) rfl ?_
   refine G_val rfl rfl rfl rfl (V_assign rfl rfl) ?_
   refine G_done ?_
   refine G_ret (post := [_]) Try.func141 rfl (RVs_cons (RV_tmp rfl) RVs_nil) [0] rfl ?_
   dsimp only [packed]
   first
     | (rw [rdFlag_err l e (by omega)]; exact ⟨rfl, rfl⟩)
     | (obtain rfl : e = 0 := by omega
        rw [rdFlag_bad l v n e1 hu (by omega)]; exact ⟨rfl, rfl⟩)
     | (obtain rfl : e = 0 := by omega
        subst h0; rw [rdFlag_long l v n hu h2]; exact ⟨rfl, rfl⟩)
     | (obtain rfl : e = 0 := by omega
        subst h0; rw [rdFlag_ok l v n hu h2]; refine ⟨bool_eq (Bool.eq_iff_iff.2 ?_), rfl⟩; first | (simp; done) | (simp; omega) | (simp [*]; done))
 refine G_skip ?_
 refine G_seq ?_
 rcases (by omega : (e1 = 0 ∧ n ≤ l.length ∧ 1 < v) ∨ (e1 = 0 ∧ n ≤ l.length ∧ ¬ 1 < v) ∨ (0 < e1 ∧ e1 ≤ 3 ∧ v = 0)) with ⟨h0, h1, h2⟩ | ⟨h0, h1, h2⟩ | ⟨h0, h1, h2⟩
 · skip
   refine G_region (l := [0, 1, 2, 3, 4, 5, 6, 7, 8, 9, 10, 11]) rfl ?_
   refine G_val rfl rfl rfl rfl (V_move rfl rfl) ?_
   first
     | refine G_val rfl rfl rfl rfl (V_nilCheck rfl rfl) ?_
     | refine G_val rfl rfl rfl rfl (V_nilCheckF rfl rfl) ?_
   refine G_val rfl rfl rfl rfl (V_fieldAddr (fo := 0) rfl Try.underlying169 rfl infReadW_9 rfl rfl rfl) ?_
   refine G_val rfl rfl rfl rfl (V_load1 rfl rfl (mem_at 0 rfl) rfl Try.underlying9 rfl) ?_
   refine G_call (L2 := [_]) rfl rfl rfl rfl rfl rfl Try.call131 (ct_unchain _ v n e1 hu (by omega)) [] [] rfl rfl ?_
   rintro v post ⟨rfl, rfl⟩
   show G _ _ _ [_] _
   refine G_val rfl rfl rfl rfl (V_move rfl rfl) ?_
   refine G_val rfl rfl rfl rfl (V_extract rfl rfl rfl) ?_
   refine G_val rfl rfl rfl rfl (V_extract rfl rfl rfl) ?_
   refine G_val rfl rfl rfl rfl (V_extract rfl rfl rfl) ?_
   refine G_val rfl rfl rfl rfl (V_assign rfl rfl) ?_
   refine G_val rfl rfl rfl rfl (V_assign rfl rfl) ?_
   refine G_val rfl rfl rfl rfl (V_assign rfl rfl) ?_
   refine G_done ?_
   refine G_seq ?_
   refine G_seq ?_
   refine G_region (l := [0, 1, 2, 3, 4, 5]) rfl ?_
   refine G_val rfl rfl rfl rfl (V_move rfl rfl) ?_
   refine G_val rfl rfl rfl rfl (V_eql rfl rfl rfl) ?_
   refine G_val rfl rfl rfl rfl (V_move rfl rfl) ?_
   refine G_splitD 20 rfl (fun hc2 => ?_) (fun hc2 => ?_)
   rotate_left
   · (exfalso; omega)
   refine G_val rfl rfl rfl rfl (V_move rfl rfl) ?_
   refine G_val rfl rfl rfl rfl (V_gtr rfl rfl rfl) ?_
   refine G_val rfl rfl rfl rfl (V_pickT rfl rfl rfl) ?_
   refine G_done ?_
   refine G_ifD rfl (fun hc3 => ?_) (fun hc3 => ?_)
   rotate_left
   · (exfalso; omega)
   refine G_region (l := [0]) rfl ?_
   refine G_val rfl rfl rfl rfl (V_assign rfl rfl) ?_
   refine G_done ?_
   refine G_seq ?_
   refine G_region (l := [0, 1, 2, 3, 4, 5, 6, 7, 8]) rfl ?_
   refine G_val rfl rfl rfl rfl (V_move rfl rfl) ?_
   refine G_val rfl rfl rfl rfl (V_move rfl rfl) ?_
   refine G_val rfl rfl rfl rfl (V_move rfl rfl) ?_
   refine G_call (L2 := []) rfl rfl rfl rfl rfl rfl Try.call132 (rd_took0 _ _ _ _ 3 (by omega)) [0] [] rfl rfl ?_
   rintro v post ⟨rfl, rfl⟩
   show G _ _ _ [_] _
   refine G_val rfl rfl rfl rfl (V_move rfl rfl) ?_
   refine G_off rfl rfl rfl rfl ?_
   refine G_off rfl rfl rfl rfl ?_
   refine G_val rfl rfl rfl rfl (V_pickF rfl rfl rfl) ?_
   refine G_val rfl rfl rfl rfl (V_assign rfl rfl) ?_
   refine G_done ?_
   refine G_ret (post := [_]) Try.func141 rfl (RVs_cons (RV_tmp rfl) RVs_nil) [0] rfl ?_
   dsimp only [packed]
   first
     | (rw [rdFlag_err l e (by omega)]; exact ⟨rfl, rfl⟩)
     | (obtain rfl : e = 0 := by omega
        rw [rdFlag_bad l v n e1 hu (by omega)]; exact ⟨rfl, rfl⟩)
     | (obtain rfl : e = 0 := by omega
        subst h0; rw [rdFlag_long l v n hu h2]; exact ⟨rfl, rfl⟩)
     | (obtain rfl : e = 0 := by omega
        subst h0; rw [rdFlag_ok l v n hu h2]; refine ⟨bool_eq (Bool.eq_iff_iff.2 ?_), rfl⟩; first | (simp; done) | (simp; omega) | (simp [*]; done))
 · skip
   refine G_region (l := [0, 1, 2, 3, 4, 5, 6, 7, 8, 9, 10, 11]) rfl ?_
   refine G_val rfl rfl rfl rfl (V_move rfl rfl) ?_
   first
     | refine G_val rfl rfl rfl rfl (V_nilCheck rfl rfl) ?_
     | refine G_val rfl rfl rfl rfl (V_nilCheckF rfl rfl) ?_
   refine G_val rfl rfl rfl rfl (V_fieldAddr (fo := 0) rfl Try.underlying169 rfl infReadW_9 rfl rfl rfl) ?_
   refine G_val rfl rfl rfl rfl (V_load1 rfl rfl (mem_at 0 rfl) rfl Try.underlying9 rfl) ?_
   refine G_call (L2 := [_]) rfl rfl rfl rfl rfl rfl Try.call131 (ct_unchain _ v n e1 hu (by omega)) [] [] rfl rfl ?_
   rintro v post ⟨rfl, rfl⟩
   show G _ _ _ [_] _
   refine G_val rfl rfl rfl rfl (V_move rfl rfl) ?_
   refine G_val rfl rfl rfl rfl (V_extract rfl rfl rfl) ?_
   refine G_val rfl rfl rfl rfl (V_extract rfl rfl rfl) ?_
   refine G_val rfl rfl rfl rfl (V_extract rfl rfl rfl) ?_
   refine G_val rfl rfl rfl rfl (V_assign rfl rfl) ?_
   refine G_val rfl rfl rfl rfl (V_assign rfl rfl) ?_
   refine G_val rfl rfl rfl rfl (V_assign rfl rfl) ?_
   refine G_done ?_
   refine G_seq ?_
   refine G_seq ?_
   refine G_region (l := [0, 1, 2, 3, 4, 5]) rfl ?_
   refine G_val rfl rfl rfl rfl (V_move rfl rfl) ?_
   refine G_val rfl rfl rfl rfl (V_eql rfl rfl rfl) ?_
   refine G_val rfl rfl rfl rfl (V_move rfl rfl) ?_
   refine G_splitD 20 rfl (fun hc2 => ?_) (fun hc2 => ?_)
   rotate_left
   · (exfalso; omega)
   refine G_val rfl rfl rfl rfl (V_move rfl rfl) ?_
   refine G_val rfl rfl rfl rfl (V_gtr rfl rfl rfl) ?_
   refine G_val rfl rfl rfl rfl (V_pickT rfl rfl rfl) ?_
   refine G_done ?_
   refine G_ifD rfl (fun hc3 => ?_) (fun hc3 => ?_)
   · (exfalso; omega)
   refine G_skip ?_
   refine G_seq ?_
   refine G_region (l := [0, 1, 2, 3, 4, 5, 6, 7, 8]) rfl ?_
   refine G_val rfl rfl rfl rfl (V_move rfl rfl) ?_
   refine G_val rfl rfl rfl rfl (V_move rfl rfl) ?_
   refine G_val rfl rfl rfl rfl (V_move rfl rfl) ?_
   refine G_call (L2 := []) rfl rfl rfl rfl rfl rfl Try.call132 (rd_took1 _ _ _ _ _ (by omega) (by omega)) [0] [] rfl rfl ?_
   rintro v post ⟨rfl, rfl⟩
   show G _ _ _ [_] _
   refine G_val rfl rfl rfl rfl (V_move rfl rfl) ?_
   refine G_val rfl rfl rfl rfl (V_move rfl rfl) ?_
   refine G_val rfl rfl rfl rfl (V_eql rfl rfl rfl) ?_
   refine G_val rfl rfl rfl rfl (V_pickT rfl rfl rfl) ?_
   refine G_val rfl rfl rfl rfl (V_assign rfl rfl) ?_
   refine G_done ?_
   refine G_ret (post := [_]) Try.func141 rfl (RVs_cons (RV_tmp rfl) RVs_nil) [0] rfl ?_
   dsimp only [packed]
   first
     | (rw [rdFlag_err l e (by omega)]; exact ⟨rfl, rfl⟩)
     | (obtain rfl : e = 0 := by omega
        rw [rdFlag_bad l v n e1 hu (by omega)]; exact ⟨rfl, rfl⟩)
     | (obtain rfl : e = 0 := by omega
        subst h0; rw [rdFlag_long l v n hu h2]; exact ⟨rfl, rfl⟩)
     | (obtain rfl : e = 0 := by omega
        subst h0; rw [rdFlag_ok l v n hu h2]; refine ⟨bool_eq (Bool.eq_iff_iff.2 ?_), rfl⟩; first | (simp; done) | (simp; omega) | (simp [*]; done))
 · skip
   refine G_region (l := [0, 1, 2, 3, 4, 5, 6, 7, 8, 9, 10, 11]) rfl ?_
   refine G_val rfl rfl rfl rfl (V_move rfl rfl) ?_
   first
     | refine G_val rfl rfl rfl rfl (V_nilCheck rfl rfl) ?_
     | refine G_val rfl rfl rfl rfl (V_nilCheckF rfl rfl) ?_
   refine G_val rfl rfl rfl rfl (V_fieldAddr (fo := 0) rfl Try.underlying169 rfl infReadW_9 rfl rfl rfl) ?_
   refine G_val rfl rfl rfl rfl (V_load1 rfl rfl (mem_at 0 rfl) rfl Try.underlying9 rfl) ?_
   refine G_call (L2 := [_]) rfl rfl rfl rfl rfl rfl Try.call131 (ct_unchain _ v n e1 hu (by omega)) [] [] rfl rfl ?_
   rintro v post ⟨rfl, rfl⟩
   show G _ _ _ [_] _
   refine G_val rfl rfl rfl rfl (V_move rfl rfl) ?_
   refine G_val rfl rfl rfl rfl (V_extract rfl rfl rfl) ?_
   refine G_val rfl rfl rfl rfl (V_extract rfl rfl rfl) ?_
   refine G_val rfl rfl rfl rfl (V_extract rfl rfl rfl) ?_
   refine G_val rfl rfl rfl rfl (V_assign rfl rfl) ?_
   refine G_val rfl rfl rfl rfl (V_assign rfl rfl) ?_
   refine G_val rfl rfl rfl rfl (V_assign rfl rfl) ?_
   refine G_done ?_
   refine G_seq ?_
   refine G_seq ?_
   refine G_region (l := [0, 1, 2, 3, 4, 5]) rfl ?_
   refine G_val rfl rfl rfl rfl (V_move rfl rfl) ?_
   refine G_val rfl rfl rfl rfl (V_eql rfl rfl rfl) ?_
   refine G_val rfl rfl rfl rfl (V_move rfl rfl) ?_
   refine G_splitD 20 rfl (fun hc2 => ?_) (fun hc2 => ?_)
   · (exfalso; omega)
   refine G_off rfl rfl rfl rfl ?_
   refine G_off rfl rfl rfl rfl ?_
   refine G_val rfl rfl rfl rfl (V_pickF rfl rfl rfl) ?_
   refine G_done ?_
   refine G_else rfl ?_
   refine G_skip ?_
   refine G_seq ?_
   refine G_region (l := [0, 1, 2, 3, 4, 5, 6, 7, 8]) rfl ?_
   refine G_val rfl rfl rfl rfl (V_move rfl rfl) ?_
   refine G_val rfl rfl rfl rfl (V_move rfl rfl) ?_
   refine G_val rfl rfl rfl rfl (V_move rfl rfl) ?_
   refine G_call (L2 := []) rfl rfl rfl rfl rfl rfl Try.call132 (rd_took0 _ _ _ _ _ (by omega)) [0] [] rfl rfl ?_
   rintro v post ⟨rfl, rfl⟩
   show G _ _ _ [_] _
   refine G_val rfl rfl rfl rfl (V_move rfl rfl) ?_
   refine G_off rfl rfl rfl rfl ?_
   refine G_off rfl rfl rfl rfl ?_
   refine G_val rfl rfl rfl rfl (V_pickF rfl rfl rfl) ?_
   refine G_val rfl rfl rfl rfl (V_assign rfl rfl) ?_
   refine G_done ?_
   refine G_ret (post := [_]) Try.func141 rfl (RVs_cons (RV_tmp rfl) RVs_nil) [0] rfl ?_
   dsimp only [packed]
   first
     | (rw [rdFlag_err l e (by omega)]; exact ⟨rfl, rfl⟩)
     | (obtain rfl : e = 0 := by omega
        rw [rdFlag_bad l v n e1 hu (by omega)]; exact ⟨rfl, rfl⟩)
     | (obtain rfl : e = 0 := by omega
        subst h0; rw [rdFlag_long l v n hu h2]; exact ⟨rfl, rfl⟩)
     | (obtain rfl : e = 0 := by omega
        subst h0; rw [rdFlag_ok l v n hu h2]; refine ⟨bool_eq (Bool.eq_iff_iff.2 ?_), rfl⟩; first | (simp; done) | (simp; omega) | (simp [*]; done))

set_option maxRecDepth 100000 in
set_option maxHeartbeats 1000000 in
theorem rd_end (b : Nat) (l : List UInt8) (e : Nat) :
    Ct Try.prog 35 [.pointer (some ⟨b, 0, none⟩)] [(some b, .cells #[.string (bs l), .int .i64 ((e : Nat) : Int)] 169 (0, 0))] [] fun r post => r = .int .i64 ((rdEnd l e : Nat) : Int) ∧ post = [] := by
 refine ct_of Try.func35 rfl rfl (fun w0 => ?_)
 show G _ _ [(0, _)] _ _
 refine G_seq ?_
 refine G_region (l := [0]) rfl ?_
 refine G_val rfl rfl rfl rfl (V_assign rfl rfl) ?_
 refine G_done ?_
 refine G_seq ?_
 refine G_seq ?_
 refine G_region (l := [0, 1, 2]) rfl ?_
 refine G_val rfl rfl rfl rfl (V_move rfl rfl) ?_
 refine G_call (L2 := []) rfl rfl rfl rfl rfl rfl Try.call86 (rd_err _ _ _) [] [0] rfl rfl ?_
 rintro v post ⟨rfl, rfl⟩
 refine G_val rfl rfl rfl rfl (V_assign rfl rfl) ?_
 refine G_done ?_
 refine G_seq ?_
 refine G_region (l := [0, 1]) rfl ?_
 refine G_val rfl rfl rfl rfl (V_move rfl rfl) ?_
 refine G_val rfl rfl rfl rfl (V_neq rfl rfl rfl) ?_
 refine G_done ?_
 refine G_ifD rfl (fun hc1 => ?_) (fun hc1 => ?_)
 · skip
   refine G_seq ?_
   refine G_region (l := [0, 1]) rfl ?_
   refine G_val rfl rfl rfl rfl (V_move rfl rfl) ?_
   refine G_val rfl rfl rfl rfl (V_assign rfl rfl) ?_
   refine G_done ?_
   refine G_ret (post := []) Try.func35 rfl (RVs_cons (RV_tmp rfl) RVs_nil) [] rfl ?_
   dsimp only [packed]
   refine ⟨?_, rfl⟩; unfold rdEnd; first | (rw [if_pos (by omega)]; done) | (rw [if_neg (by omega), if_neg (by assumption)]; rfl) | (rw [if_neg (by omega), if_pos (Classical.not_not.1 (by assumption))]; rfl) | (rw [if_neg (by omega), if_pos (by assumption)]; rfl)
 refine G_skip ?_
 refine G_seq ?_
 refine G_seq ?_
 refine G_region (l := [0, 1, 2, 3, 4]) rfl ?_
 refine G_val rfl rfl rfl rfl (V_move rfl rfl) ?_
 first
   | refine G_val rfl rfl rfl rfl (V_nilCheck rfl rfl) ?_
   | refine G_val rfl rfl rfl rfl (V_nilCheckF rfl rfl) ?_
 refine G_val rfl rfl rfl rfl (V_fieldAddr (fo := 0) rfl Try.underlying169 rfl infReadW_9 rfl rfl rfl) ?_
 refine G_val rfl rfl rfl rfl (V_load1 rfl rfl (mem_at 0 rfl) rfl Try.underlying9 rfl) ?_
 refine G_val rfl rfl rfl rfl (V_sneq rfl rfl rfl) ?_
 refine G_done ?_
 refine G_ifD rfl (fun hc2 => ?_) (fun hc2 => ?_)
 · skip
   refine G_seq ?_
   refine G_region (l := [0]) rfl ?_
   refine G_val rfl rfl rfl rfl (V_assign rfl rfl) ?_
   refine G_done ?_
   refine G_ret (post := []) Try.func35 rfl (RVs_cons (RV_tmp rfl) RVs_nil) [] rfl ?_
   dsimp only [packed]
   refine ⟨?_, rfl⟩; unfold rdEnd; first | (rw [if_pos (by omega)]; done) | (rw [if_neg (by omega), if_neg (by assumption)]; rfl) | (rw [if_neg (by omega), if_pos (Classical.not_not.1 (by assumption))]; rfl) | (rw [if_neg (by omega), if_pos (by assumption)]; rfl)
 refine G_skip ?_
 refine G_seq ?_
 refine G_region (l := [0]) rfl ?_
 refine G_val rfl rfl rfl rfl (V_assign rfl rfl) ?_
 refine G_done ?_
 refine G_ret (post := []) Try.func35 rfl (RVs_cons (RV_tmp rfl) RVs_nil) [] rfl ?_
 dsimp only [packed]
 refine ⟨?_, rfl⟩; unfold rdEnd; first | (rw [if_pos (by omega)]; done) | (rw [if_neg (by omega), if_neg (by assumption)]; rfl) | (rw [if_neg (by omega), if_pos (Classical.not_not.1 (by assumption))]; rfl) | (rw [if_neg (by omega), if_pos (by assumption)]; rfl)

set_option maxRecDepth 100000 in
set_option maxHeartbeats 1000000 in
theorem rrd_num (b : Nat) (l : List UInt8) (e : Nat) (hl : l.length ≤ 140737488351232) (he : e ≤ 1000) :
    Ct Try.prog 36 [.pointer (some ⟨b, 0, none⟩)] [] [(some b, .cells #[.string (bs l), .int .i64 ((e : Nat) : Int)] 86 (0, 0))] fun r post => r = .int .u64 (((rdNum l e).1 : Nat) : Int) ∧ post = [(some b, .cells #[.string (bs (rdNum l e).2.1), .int .i64 (((rdNum l e).2.2 : Nat) : Int)] 86 (0, 0))] := by
 obtain ⟨v, n, e1, hu⟩ : ∃ v n e1, unchain l = (v, n, e1) := ⟨_, _, _, rfl⟩
 obtain ⟨hv, hb⟩ := unchain_bd hu
 refine ct_of Try.func36 rfl rfl (fun w0 => ?_)
 show G _ _ [(0, _)] _ _
 refine G_seq ?_
 refine G_region (l := [0]) rfl ?_
 refine G_val rfl rfl rfl rfl (V_assign rfl rfl) ?_
 refine G_done ?_
 refine G_seq ?_
 refine G_seq ?_
 refine G_region (l := [0, 1, 2, 3, 4]) rfl ?_
 refine G_val rfl rfl rfl rfl (V_move rfl rfl) ?_
 first
   | refine G_val rfl rfl rfl rfl (V_nilCheck rfl rfl) ?_
   | refine G_val rfl rfl rfl rfl (V_nilCheckF rfl rfl) ?_
 refine G_val rfl rfl rfl rfl (V_fieldAddr (fo := 1) rfl Try.underlying86 rfl infReadW_3 rfl rfl rfl) ?_
 refine G_val rfl rfl rfl rfl (V_load1 rfl rfl (mem_at 0 rfl) rfl Try.underlying3 rfl) ?_
 refine G_val rfl rfl rfl rfl (V_neq rfl rfl rfl) ?_
 refine G_done ?_
 refine G_ifD rfl (fun hc1 => ?_) (fun hc1 => ?_)
 · skip
   refine G_seq ?_
   refine G_region (l := [0]) rfl ?_
   refine G_val rfl rfl rfl rfl (V_assign rfl rfl) ?_
   refine G_done ?_
   refine G_ret (post := [_]) Try.func36 rfl (RVs_cons (RV_tmp rfl) RVs_nil) [0] rfl ?_
   dsimp only [packed]
   first
     | (rw [rdNum_err l e (by omega)]; exact ⟨rfl, rfl⟩)
     | (obtain rfl : e = 0 := by omega
        rw [rdNum_bad l v n e1 hu (by omega)]; subst h2; exact ⟨rfl, rfl⟩)
     | (obtain rfl : e = 0 := by omega
        subst h0; rw [rdNum_ok l v n hu]; exact ⟨rfl, rfl⟩)
 refine G_skip ?_
 refine G_seq ?_
 rcases hb with ⟨h0, h1, h2, h3⟩ | ⟨h0, h1, h2⟩
 · skip
   refine G_region (l := [0, 1, 2, 3, 4, 5, 6, 7, 8, 9, 10, 11]) rfl ?_
   refine G_val rfl rfl rfl rfl (V_move rfl rfl) ?_
   first
     | refine G_val rfl rfl rfl rfl (V_nilCheck rfl rfl) ?_
     | refine G_val rfl rfl rfl rfl (V_nilCheckF rfl rfl) ?_
   refine G_val rfl rfl rfl rfl (V_fieldAddr (fo := 0) rfl Try.underlying86 rfl infReadW_9 rfl rfl rfl) ?_
   refine G_val rfl rfl rfl rfl (V_load1 rfl rfl (mem_at 0 rfl) rfl Try.underlying9 rfl) ?_
   refine G_call (L2 := [_]) rfl rfl rfl rfl rfl rfl Try.call111 (ct_runchain _ v n e1 hu (by omega)) [] [] rfl rfl ?_
   rintro v post ⟨rfl, rfl⟩
   show G _ _ _ [_] _
   refine G_val rfl rfl rfl rfl (V_move rfl rfl) ?_
   refine G_val rfl rfl rfl rfl (V_extract rfl rfl rfl) ?_
   refine G_val rfl rfl rfl rfl (V_extract rfl rfl rfl) ?_
   refine G_val rfl rfl rfl rfl (V_extract rfl rfl rfl) ?_
   refine G_val rfl rfl rfl rfl (V_assign rfl rfl) ?_
   refine G_val rfl rfl rfl rfl (V_assign rfl rfl) ?_
   refine G_val rfl rfl rfl rfl (V_assign rfl rfl) ?_
   refine G_done ?_
   refine G_seq ?_
   refine G_region (l := [0, 1, 2, 3]) rfl ?_
   refine G_val rfl rfl rfl rfl (V_move rfl rfl) ?_
   refine G_val rfl rfl rfl rfl (V_move rfl rfl) ?_
   refine G_val rfl rfl rfl rfl (V_move rfl rfl) ?_
   refine G_call (L2 := []) rfl rfl rfl rfl rfl rfl Try.call112 (rrd_took1 _ _ _ _ _ (by omega) (by omega)) [0] [] rfl rfl ?_
   rintro v post ⟨rfl, rfl⟩
   show G _ _ _ [_] _
   refine G_done ?_
   refine G_seq ?_
   refine G_region (l := [0, 1]) rfl ?_
   refine G_val rfl rfl rfl rfl (V_move rfl rfl) ?_
   refine G_val rfl rfl rfl rfl (V_assign rfl rfl) ?_
   refine G_done ?_
   refine G_ret (post := [_]) Try.func36 rfl (RVs_cons (RV_tmp rfl) RVs_nil) [0] rfl ?_
   dsimp only [packed]
   first
     | (rw [rdNum_err l e (by omega)]; exact ⟨rfl, rfl⟩)
     | (obtain rfl : e = 0 := by omega
        rw [rdNum_bad l v n e1 hu (by omega)]; subst h2; exact ⟨rfl, rfl⟩)
     | (obtain rfl : e = 0 := by omega
        subst h0; rw [rdNum_ok l v n hu]; exact ⟨rfl, rfl⟩)
 · skip
   refine G_region (l := [0, 1, 2, 3, 4, 5, 6, 7, 8, 9, 10, 11]) rfl ?_
   refine G_val rfl rfl rfl rfl (V_move rfl rfl) ?_
   first
     | refine G_val rfl rfl rfl rfl (V_nilCheck rfl rfl) ?_
     | refine G_val rfl rfl rfl rfl (V_nilCheckF rfl rfl) ?_
   refine G_val rfl rfl rfl rfl (V_fieldAddr (fo := 0) rfl Try.underlying86 rfl infReadW_9 rfl rfl rfl) ?_
   refine G_val rfl rfl rfl rfl (V_load1 rfl rfl (mem_at 0 rfl) rfl Try.underlying9 rfl) ?_
   refine G_call (L2 := [_]) rfl rfl rfl rfl rfl rfl Try.call111 (ct_runchain _ v n e1 hu (by omega)) [] [] rfl rfl ?_
   rintro v post ⟨rfl, rfl⟩
   show G _ _ _ [_] _
   refine G_val rfl rfl rfl rfl (V_move rfl rfl) ?_
   refine G_val rfl rfl rfl rfl (V_extract rfl rfl rfl) ?_
   refine G_val rfl rfl rfl rfl (V_extract rfl rfl rfl) ?_
   refine G_val rfl rfl rfl rfl (V_extract rfl rfl rfl) ?_
   refine G_val rfl rfl rfl rfl (V_assign rfl rfl) ?_
   refine G_val rfl rfl rfl rfl (V_assign rfl rfl) ?_
   refine G_val rfl rfl rfl rfl (V_assign rfl rfl) ?_
   refine G_done ?_
   refine G_seq ?_
   refine G_region (l := [0, 1, 2, 3]) rfl ?_
   refine G_val rfl rfl rfl rfl (V_move rfl rfl) ?_
   refine G_val rfl rfl rfl rfl (V_move rfl rfl) ?_
   refine G_val rfl rfl rfl rfl (V_move rfl rfl) ?_
   refine G_call (L2 := []) rfl rfl rfl rfl rfl rfl Try.call112 (rrd_took0 _ _ _ _ _ (by omega)) [0] [] rfl rfl ?_
   rintro v post ⟨rfl, rfl⟩
   show G _ _ _ [_] _
   refine G_done ?_
   refine G_seq ?_
   refine G_region (l := [0, 1]) rfl ?_
   refine G_val rfl rfl rfl rfl (V_move rfl rfl) ?_
   refine G_val rfl rfl rfl rfl (V_assign rfl rfl) ?_
   refine G_done ?_
   refine G_ret (post := [_]) Try.func36 rfl (RVs_cons (RV_tmp rfl) RVs_nil) [0] rfl ?_
   dsimp only [packed]
   first
     | (rw [rdNum_err l e (by omega)]; exact ⟨rfl, rfl⟩)
     | (obtain rfl : e = 0 := by omega
        rw [rdNum_bad l v n e1 hu (by omega)]; subst h2; exact ⟨rfl, rfl⟩)
     | (obtain rfl : e = 0 := by omega
        subst h0; rw [rdNum_ok l v n hu]; exact ⟨rfl, rfl⟩)

set_option maxRecDepth 100000 in
set_option maxHeartbeats 1000000 in
theorem rrd_int (b : Nat) (l : List UInt8) (e : Nat) (most : Int) (hl : l.length ≤ 140737488351232) (he : e ≤ 1000) (hm : 0 ≤ most ∧ most ≤ 4611686018427387904) :
    Ct Try.prog 40 [.pointer (some ⟨b, 0, none⟩), .int .i64 most] [] [(some b, .cells #[.string (bs l), .int .i64 ((e : Nat) : Int)] 86 (0, 0))] fun r post => r = .int .i64 (((rdInt most l e).1 : Nat) : Int) ∧ post = [(some b, .cells #[.string (bs (rdInt most l e).2.1), .int .i64 (((rdInt most l e).2.2 : Nat) : Int)] 86 (0, 0))] := by
 obtain ⟨v, n, e1, hu⟩ : ∃ v n e1, unchain l = (v, n, e1) := ⟨_, _, _, rfl⟩
 obtain ⟨hv, hb⟩ := unchain_bd hu
 obtain ⟨hm0, hm1⟩ := hm
 refine ct_of Try.func40 rfl rfl (fun w0 => ?_)
 show G _ _ [(0, _), (1, _)] _ _
 refine G_seq ?_
 refine G_region (l := [0]) rfl ?_
 refine G_val rfl rfl rfl rfl (V_assign rfl rfl) ?_
 refine G_done ?_
 refine G_seq ?_
 refine G_seq ?_
 refine G_region (l := [0, 1, 2, 3, 4]) rfl ?_
 refine G_val rfl rfl rfl rfl (V_move rfl rfl) ?_
 first
   | refine G_val rfl rfl rfl rfl (V_nilCheck rfl rfl) ?_
   | refine G_val rfl rfl rfl rfl (V_nilCheckF rfl rfl) ?_
 refine G_val rfl rfl rfl rfl (V_fieldAddr (fo := 1) rfl Try.underlying86 rfl infReadW_3 rfl rfl rfl) ?_
 refine G_val rfl rfl rfl rfl (V_load1 rfl rfl (mem_at 0 rfl) rfl Try.underlying3 rfl) ?_
 refine G_val rfl rfl rfl rfl (V_neq rfl rfl rfl) ?_
 refine G_done ?_
 refine G_ifD rfl (fun hc1 => ?_) (fun hc1 => ?_)
 · skip
   refine G_seq ?_
   refine G_region (l := [0]) rfl ?_
   refine G_val rfl rfl rfl rfl (V_assign rfl rfl) ?_
   refine G_done ?_
   refine G_ret (post := [_]) Try.func40 rfl (RVs_cons (RV_tmp rfl) RVs_nil) [0] rfl ?_
   dsimp only [packed]
   first
     | (rw [rdInt_err most l e (by omega)]; exact ⟨rfl, rfl⟩)
     | (obtain rfl : e = 0 := by omega
        rw [rdInt_bad most l v n e1 hu (by omega)]; subst h2; exact ⟨rfl, rfl⟩)
     | (obtain rfl : e = 0 := by omega
        subst h0; rw [rdInt_long most l v n hu (.inr h2)]; exact ⟨rfl, rfl⟩)
     | (obtain rfl : e = 0 := by omega
        subst h0; rw [rdInt_ok most l v n hu (by omega)]; exact ⟨rfl, rfl⟩)
 refine G_skip ?_
 refine G_seq ?_
 rcases (by omega : (e1 = 0 ∧ n ≤ l.length ∧ most < (v : Int)) ∨ (e1 = 0 ∧ n ≤ l.length ∧ ¬ most < (v : Int)) ∨ (0 < e1 ∧ e1 ≤ 3 ∧ v = 0)) with ⟨h0, h1, h2⟩ | ⟨h0, h1, h2⟩ | ⟨h0, h1, h2⟩
 · skip
   refine G_region (l := [0, 1, 2, 3, 4, 5, 6, 7, 8, 9, 10, 11]) rfl ?_
   refine G_val rfl rfl rfl rfl (V_move rfl rfl) ?_
   first
     | refine G_val rfl rfl rfl rfl (V_nilCheck rfl rfl) ?_
     | refine G_val rfl rfl rfl rfl (V_nilCheckF rfl rfl) ?_
   refine G_val rfl rfl rfl rfl (V_fieldAddr (fo := 0) rfl Try.underlying86 rfl infReadW_9 rfl rfl rfl) ?_
   refine G_val rfl rfl rfl rfl (V_load1 rfl rfl (mem_at 0 rfl) rfl Try.underlying9 rfl) ?_
   refine G_call (L2 := [_]) rfl rfl rfl rfl rfl rfl Try.call111 (ct_runchain _ v n e1 hu (by omega)) [] [] rfl rfl ?_
   rintro v post ⟨rfl, rfl⟩
   show G _ _ _ [_] _
   refine G_val rfl rfl rfl rfl (V_move rfl rfl) ?_
   refine G_val rfl rfl rfl rfl (V_extract rfl rfl rfl) ?_
   refine G_val rfl rfl rfl rfl (V_extract rfl rfl rfl) ?_
   refine G_val rfl rfl rfl rfl (V_extract rfl rfl rfl) ?_
   refine G_val rfl rfl rfl rfl (V_assign rfl rfl) ?_
   refine G_val rfl rfl rfl rfl (V_assign rfl rfl) ?_
   refine G_val rfl rfl rfl rfl (V_assign rfl rfl) ?_
   refine G_done ?_
   refine G_seq ?_
   refine G_seq ?_
   refine G_region (l := [0, 1, 2, 3, 4, 5, 6, 7, 8, 9, 10, 11]) rfl ?_
   refine G_val rfl rfl rfl rfl (V_move rfl rfl) ?_
   refine G_val rfl rfl rfl rfl (V_eql rfl rfl rfl) ?_
   refine G_val rfl rfl rfl rfl (V_move rfl rfl) ?_
   refine G_splitD 24 rfl (fun hc2 => ?_) (fun hc2 => ?_)
   rotate_left
   · (exfalso; omega)
   refine G_val rfl rfl rfl rfl (V_move rfl rfl) ?_
   refine G_val rfl rfl rfl rfl (V_lss rfl rfl rfl) ?_
   refine G_val rfl rfl rfl rfl (V_move rfl rfl) ?_
   refine G_splitD 27 rfl (fun hc3 => ?_) (fun hc3 => ?_)
   · (exfalso; omega)
   refine G_val rfl rfl rfl rfl (V_move rfl rfl) ?_
   refine G_val rfl rfl rfl rfl (V_move rfl rfl) ?_
   first
     | refine G_val rfl rfl rfl rfl ((V_conv rfl rfl Try.underlying3 Try.underlying23).int (wrap_u64 (by omega))) ?_
     | refine G_val rfl rfl rfl rfl (V_conv rfl rfl Try.underlying3 Try.underlying23) ?_
   refine G_val rfl rfl rfl rfl (V_gtr rfl rfl rfl) ?_
   refine G_val rfl rfl rfl rfl (V_pickF rfl rfl rfl) ?_
   refine G_val rfl rfl rfl rfl (V_pickT rfl rfl rfl) ?_
   refine G_done ?_
   refine G_ifD rfl (fun hc4 => ?_) (fun hc4 => ?_)
   rotate_left
   · (exfalso; omega)
   refine G_seq ?_
   refine G_region (l := [0]) rfl ?_
   refine G_val rfl rfl rfl rfl (V_assign rfl rfl) ?_
   refine G_done ?_
   refine G_region (l := [0]) rfl ?_
   refine G_val rfl rfl rfl rfl (V_assign rfl rfl) ?_
   refine G_done ?_
   refine G_seq ?_
   refine G_region (l := [0, 1, 2, 3]) rfl ?_
   refine G_val rfl rfl rfl rfl (V_move rfl rfl) ?_
   refine G_val rfl rfl rfl rfl (V_move rfl rfl) ?_
   refine G_val rfl rfl rfl rfl (V_move rfl rfl) ?_
   refine G_call (L2 := []) rfl rfl rfl rfl rfl rfl Try.call112 (rrd_took0 _ _ _ _ 4 (by omega)) [0] [] rfl rfl ?_
   rintro v post ⟨rfl, rfl⟩
   show G _ _ _ [_] _
   refine G_done ?_
   refine G_seq ?_
   refine G_region (l := [0, 1, 2]) rfl ?_
   refine G_val rfl rfl rfl rfl (V_move rfl rfl) ?_
   first
     | refine G_val rfl rfl rfl rfl ((V_conv rfl rfl Try.underlying23 Try.underlying3).int (wrap_i64 (by omega))) ?_
     | refine G_val rfl rfl rfl rfl (V_conv rfl rfl Try.underlying23 Try.underlying3) ?_
   refine G_val rfl rfl rfl rfl (V_assign rfl rfl) ?_
   refine G_done ?_
   refine G_ret (post := [_]) Try.func40 rfl (RVs_cons (RV_tmp rfl) RVs_nil) [0] rfl ?_
   dsimp only [packed]
   first
     | (rw [rdInt_err most l e (by omega)]; exact ⟨rfl, rfl⟩)
     | (obtain rfl : e = 0 := by omega
        rw [rdInt_bad most l v n e1 hu (by omega)]; subst h2; exact ⟨rfl, rfl⟩)
     | (obtain rfl : e = 0 := by omega
        subst h0; rw [rdInt_long most l v n hu (.inr h2)]; exact ⟨rfl, rfl⟩)
     | (obtain rfl : e = 0 := by omega
        subst h0; rw [rdInt_ok most l v n hu (by omega)]; exact ⟨rfl, rfl⟩)
 · skip
   refine G_region (l := [0, 1, 2, 3, 4, 5, 6, 7, 8, 9, 10, 11]) rfl ?_
   refine G_val rfl rfl rfl rfl (V_move rfl rfl) ?_
   first
     | refine G_val rfl rfl rfl rfl (V_nilCheck rfl rfl) ?_
     | refine G_val rfl rfl rfl rfl (V_nilCheckF rfl rfl) ?_
   refine G_val rfl rfl rfl rfl (V_fieldAddr (fo := 0) rfl Try.underlying86 rfl infReadW_9 rfl rfl rfl) ?_
   refine G_val rfl rfl rfl rfl (V_load1 rfl rfl (mem_at 0 rfl) rfl Try.underlying9 rfl) ?_
   refine G_call (L2 := [_]) rfl rfl rfl rfl rfl rfl Try.call111 (ct_runchain _ v n e1 hu (by omega)) [] [] rfl rfl ?_
   rintro v post ⟨rfl, rfl⟩
   show G _ _ _ [_] _
   refine G_val rfl rfl rfl rfl (V_move rfl rfl) ?_
   refine G_val rfl rfl rfl rfl (V_extract rfl rfl rfl) ?_
   refine G_val rfl rfl rfl rfl (V_extract rfl rfl rfl) ?_
   refine G_val rfl rfl rfl rfl (V_extract rfl rfl rfl) ?_
   refine G_val rfl rfl rfl rfl (V_assign rfl rfl) ?_
   refine G_val rfl rfl rfl rfl (V_assign rfl rfl) ?_
   refine G_val rfl rfl rfl rfl (V_assign rfl rfl) ?_
   refine G_done ?_
   refine G_seq ?_
   refine G_seq ?_
   refine G_region (l := [0, 1, 2, 3, 4, 5, 6, 7, 8, 9, 10, 11]) rfl ?_
   refine G_val rfl rfl rfl rfl (V_move rfl rfl) ?_
   refine G_val rfl rfl rfl rfl (V_eql rfl rfl rfl) ?_
   refine G_val rfl rfl rfl rfl (V_move rfl rfl) ?_
   refine G_splitD 24 rfl (fun hc2 => ?_) (fun hc2 => ?_)
   rotate_left
   · (exfalso; omega)
   refine G_val rfl rfl rfl rfl (V_move rfl rfl) ?_
   refine G_val rfl rfl rfl rfl (V_lss rfl rfl rfl) ?_
   refine G_val rfl rfl rfl rfl (V_move rfl rfl) ?_
   refine G_splitD 27 rfl (fun hc3 => ?_) (fun hc3 => ?_)
   · (exfalso; omega)
   refine G_val rfl rfl rfl rfl (V_move rfl rfl) ?_
   refine G_val rfl rfl rfl rfl (V_move rfl rfl) ?_
   first
     | refine G_val rfl rfl rfl rfl ((V_conv rfl rfl Try.underlying3 Try.underlying23).int (wrap_u64 (by omega))) ?_
     | refine G_val rfl rfl rfl rfl (V_conv rfl rfl Try.underlying3 Try.underlying23) ?_
   refine G_val rfl rfl rfl rfl (V_gtr rfl rfl rfl) ?_
   refine G_val rfl rfl rfl rfl (V_pickF rfl rfl rfl) ?_
   refine G_val rfl rfl rfl rfl (V_pickT rfl rfl rfl) ?_
   refine G_done ?_
   refine G_ifD rfl (fun hc4 => ?_) (fun hc4 => ?_)
   · (exfalso; omega)
   refine G_skip ?_
   refine G_seq ?_
   refine G_region (l := [0, 1, 2, 3]) rfl ?_
   refine G_val rfl rfl rfl rfl (V_move rfl rfl) ?_
   refine G_val rfl rfl rfl rfl (V_move rfl rfl) ?_
   refine G_val rfl rfl rfl rfl (V_move rfl rfl) ?_
   refine G_call (L2 := []) rfl rfl rfl rfl rfl rfl Try.call112 (rrd_took1 _ _ _ _ _ (by omega) (by omega)) [0] [] rfl rfl ?_
   rintro v post ⟨rfl, rfl⟩
   show G _ _ _ [_] _
   refine G_done ?_
   refine G_seq ?_
   refine G_region (l := [0, 1, 2]) rfl ?_
   refine G_val rfl rfl rfl rfl (V_move rfl rfl) ?_
   first
     | refine G_val rfl rfl rfl rfl ((V_conv rfl rfl Try.underlying23 Try.underlying3).int (wrap_i64 (by omega))) ?_
     | refine G_val rfl rfl rfl rfl (V_conv rfl rfl Try.underlying23 Try.underlying3) ?_
   refine G_val rfl rfl rfl rfl (V_assign rfl rfl) ?_
   refine G_done ?_
   refine G_ret (post := [_]) Try.func40 rfl (RVs_cons (RV_tmp rfl) RVs_nil) [0] rfl ?_
   dsimp only [packed]
   first
     | (rw [rdInt_err most l e (by omega)]; exact ⟨rfl, rfl⟩)
     | (obtain rfl : e = 0 := by omega
        rw [rdInt_bad most l v n e1 hu (by omega)]; subst h2; exact ⟨rfl, rfl⟩)
     | (obtain rfl : e = 0 := by omega
        subst h0; rw [rdInt_long most l v n hu (.inr h2)]; exact ⟨rfl, rfl⟩)
     | (obtain rfl : e = 0 := by omega
        subst h0; rw [rdInt_ok most l v n hu (by omega)]; exact ⟨rfl, rfl⟩)
 · skip
   refine G_region (l := [0, 1, 2, 3, 4, 5, 6, 7, 8, 9, 10, 11]) rfl ?_
   refine G_val rfl rfl rfl rfl (V_move rfl rfl) ?_
   first
     | refine G_val rfl rfl rfl rfl (V_nilCheck rfl rfl) ?_
     | refine G_val rfl rfl rfl rfl (V_nilCheckF rfl rfl) ?_
   refine G_val rfl rfl rfl rfl (V_fieldAddr (fo := 0) rfl Try.underlying86 rfl infReadW_9 rfl rfl rfl) ?_
   refine G_val rfl rfl rfl rfl (V_load1 rfl rfl (mem_at 0 rfl) rfl Try.underlying9 rfl) ?_
   refine G_call (L2 := [_]) rfl rfl rfl rfl rfl rfl Try.call111 (ct_runchain _ v n e1 hu (by omega)) [] [] rfl rfl ?_
   rintro v post ⟨rfl, rfl⟩
   show G _ _ _ [_] _
   refine G_val rfl rfl rfl rfl (V_move rfl rfl) ?_
   refine G_val rfl rfl rfl rfl (V_extract rfl rfl rfl) ?_
   refine G_val rfl rfl rfl rfl (V_extract rfl rfl rfl) ?_
   refine G_val rfl rfl rfl rfl (V_extract rfl rfl rfl) ?_
   refine G_val rfl rfl rfl rfl (V_assign rfl rfl) ?_
   refine G_val rfl rfl rfl rfl (V_assign rfl rfl) ?_
   refine G_val rfl rfl rfl rfl (V_assign rfl rfl) ?_
   refine G_done ?_
   refine G_seq ?_
   refine G_seq ?_
   refine G_region (l := [0, 1, 2, 3, 4, 5, 6, 7, 8, 9, 10, 11]) rfl ?_
   refine G_val rfl rfl rfl rfl (V_move rfl rfl) ?_
   refine G_val rfl rfl rfl rfl (V_eql rfl rfl rfl) ?_
   refine G_val rfl rfl rfl rfl (V_move rfl rfl) ?_
   refine G_splitD 24 rfl (fun hc2 => ?_) (fun hc2 => ?_)
   · (exfalso; omega)
   refine G_off rfl rfl rfl rfl ?_
   refine G_off rfl rfl rfl rfl ?_
   refine G_off rfl rfl rfl rfl ?_
   refine G_off rfl rfl rfl rfl ?_
   refine G_off rfl rfl rfl rfl ?_
   refine G_off rfl rfl rfl rfl ?_
   refine G_off rfl rfl rfl rfl ?_
   refine G_off rfl rfl rfl rfl ?_
   refine G_val rfl rfl rfl rfl (V_pickF rfl rfl rfl) ?_
   refine G_done ?_
   refine G_else rfl ?_
   refine G_skip ?_
   refine G_seq ?_
   refine G_region (l := [0, 1, 2, 3]) rfl ?_
   refine G_val rfl rfl rfl rfl (V_move rfl rfl) ?_
   refine G_val rfl rfl rfl rfl (V_move rfl rfl) ?_
   refine G_val rfl rfl rfl rfl (V_move rfl rfl) ?_
   refine G_call (L2 := []) rfl rfl rfl rfl rfl rfl Try.call112 (rrd_took0 _ _ _ _ _ (by omega)) [0] [] rfl rfl ?_
   rintro v post ⟨rfl, rfl⟩
   show G _ _ _ [_] _
   refine G_done ?_
   refine G_seq ?_
   refine G_region (l := [0, 1, 2]) rfl ?_
   refine G_val rfl rfl rfl rfl (V_move rfl rfl) ?_
   first
     | refine G_val rfl rfl rfl rfl ((V_conv rfl rfl Try.underlying23 Try.underlying3).int (wrap_i64 (by omega))) ?_
     | refine G_val rfl rfl rfl rfl (V_conv rfl rfl Try.underlying23 Try.underlying3) ?_
   refine G_val rfl rfl rfl rfl (V_assign rfl rfl) ?_
   refine G_done ?_
   refine G_ret (post := [_]) Try.func40 rfl (RVs_cons (RV_tmp rfl) RVs_nil) [0] rfl ?_
   dsimp only [packed]
   first
     | (rw [rdInt_err most l e (by omega)]; exact ⟨rfl, rfl⟩)
     | (obtain rfl : e = 0 := by omega
        rw [rdInt_bad most l v n e1 hu (by omega)]; subst h2; exact ⟨rfl, rfl⟩)
     | (obtain rfl : e = 0 := by omega
        subst h0; rw [rdInt_long most l v n hu (.inr h2)]; exact ⟨rfl, rfl⟩)
     | (obtain rfl : e = 0 := by omega
        subst h0; rw [rdInt_ok most l v n hu (by omega)]; exact ⟨rfl, rfl⟩)

set_option maxRecDepth 100000 in
set_option maxHeartbeats 1000000 in
theorem rrd_str (b : Nat) (l : List UInt8) (e : Nat) (most : Int) (hl : l.length ≤ 140737488351232) (he : e ≤ 1000) (hm : 0 ≤ most ∧ most ≤ 4611686018427387904) :
    Ct Try.prog 41 [.pointer (some ⟨b, 0, none⟩), .int .i64 most] [] [(some b, .cells #[.string (bs l), .int .i64 ((e : Nat) : Int)] 86 (0, 0))] fun r post => r = .string (bs (rdStr most l e).1) ∧ post = [(some b, .cells #[.string (bs (rdStr most l e).2.1), .int .i64 (((rdStr most l e).2.2 : Nat) : Int)] 86 (0, 0))] := by
 obtain ⟨s, n, e1, hu⟩ : ∃ s n e1, untext l most = (s, n, e1) := ⟨_, _, _, rfl⟩
 refine ct_of Try.func41 rfl rfl (fun w0 => ?_)
 show G _ _ [(0, _), (1, _)] _ _
 refine G_seq ?_
 refine G_region (l := [0]) rfl ?_
 refine G_val rfl rfl rfl rfl (V_assign rfl rfl) ?_
 refine G_done ?_
 refine G_seq ?_
 refine G_seq ?_
 refine G_region (l := [0, 1, 2, 3, 4]) rfl ?_
 refine G_val rfl rfl rfl rfl (V_move rfl rfl) ?_
 first
   | refine G_val rfl rfl rfl rfl (V_nilCheck rfl rfl) ?_
   | refine G_val rfl rfl rfl rfl (V_nilCheckF rfl rfl) ?_
 refine G_val rfl rfl rfl rfl (V_fieldAddr (fo := 1) rfl Try.underlying86 rfl infReadW_3 rfl rfl rfl) ?_
 refine G_val rfl rfl rfl rfl (V_load1 rfl rfl (mem_at 0 rfl) rfl Try.underlying3 rfl) ?_
 refine G_val rfl rfl rfl rfl (V_neq rfl rfl rfl) ?_
 refine G_done ?_
 refine G_ifD rfl (fun hc1 => ?_) (fun hc1 => ?_)
 · skip
   refine G_seq ?_
   refine G_region (l := [0]) rfl ?_
   refine G_val rfl rfl rfl rfl (V_assign rfl rfl) ?_
   refine G_done ?_
   refine G_ret (post := [_]) Try.func41 rfl (RVs_cons (RV_tmp rfl) RVs_nil) [0] rfl ?_
   dsimp only [packed]
   first
     | (rw [rdStr_err most l e (by omega)]; exact ⟨rfl, rfl⟩)
     | (obtain rfl : e = 0 := by omega
        rw [rdStr_bad most l s n e1 hu (by omega)]; subst h0; exact ⟨rfl, rfl⟩)
     | (obtain rfl : e = 0 := by omega
        subst h0; rw [rdStr_ok most l s n hu]; exact ⟨rfl, rfl⟩)
 refine G_skip ?_
 refine G_seq ?_
 rcases untext_ok l most s n e1 hu with ⟨h0, h1, h2, h3⟩ | ⟨h0, h1, h2, h3⟩
 · skip
   refine G_region (l := [0, 1, 2, 3, 4, 5, 6, 7, 8, 9, 10, 11, 12]) rfl ?_
   refine G_val rfl rfl rfl rfl (V_move rfl rfl) ?_
   first
     | refine G_val rfl rfl rfl rfl (V_nilCheck rfl rfl) ?_
     | refine G_val rfl rfl rfl rfl (V_nilCheckF rfl rfl) ?_
   refine G_val rfl rfl rfl rfl (V_fieldAddr (fo := 0) rfl Try.underlying86 rfl infReadW_9 rfl rfl rfl) ?_
   refine G_val rfl rfl rfl rfl (V_load1 rfl rfl (mem_at 0 rfl) rfl Try.underlying9 rfl) ?_
   refine G_val rfl rfl rfl rfl (V_move rfl rfl) ?_
   refine G_call (L2 := [_]) rfl rfl rfl rfl rfl rfl Try.call113 (ct_runtext _ _ s n e1 hu (by omega) hm) [] [] rfl rfl ?_
   rintro v post ⟨rfl, rfl⟩
   show G _ _ _ [_] _
   refine G_val rfl rfl rfl rfl (V_move rfl rfl) ?_
   refine G_val rfl rfl rfl rfl (V_extract rfl rfl rfl) ?_
   refine G_val rfl rfl rfl rfl (V_extract rfl rfl rfl) ?_
   refine G_val rfl rfl rfl rfl (V_extract rfl rfl rfl) ?_
   refine G_val rfl rfl rfl rfl (V_assign rfl rfl) ?_
   refine G_val rfl rfl rfl rfl (V_assign rfl rfl) ?_
   refine G_val rfl rfl rfl rfl (V_assign rfl rfl) ?_
   refine G_done ?_
   refine G_seq ?_
   refine G_region (l := [0, 1, 2, 3]) rfl ?_
   refine G_val rfl rfl rfl rfl (V_move rfl rfl) ?_
   refine G_val rfl rfl rfl rfl (V_move rfl rfl) ?_
   refine G_val rfl rfl rfl rfl (V_move rfl rfl) ?_
   refine G_call (L2 := []) rfl rfl rfl rfl rfl rfl Try.call112 (rrd_took1 _ _ _ _ _ (by omega) (by omega)) [0] [] rfl rfl ?_
   rintro v post ⟨rfl, rfl⟩
   show G _ _ _ [_] _
   refine G_done ?_
   refine G_seq ?_
   refine G_region (l := [0, 1]) rfl ?_
   refine G_val rfl rfl rfl rfl (V_move rfl rfl) ?_
   refine G_val rfl rfl rfl rfl (V_assign rfl rfl) ?_
   refine G_done ?_
   refine G_ret (post := [_]) Try.func41 rfl (RVs_cons (RV_tmp rfl) RVs_nil) [0] rfl ?_
   dsimp only [packed]
   first
     | (rw [rdStr_err most l e (by omega)]; exact ⟨rfl, rfl⟩)
     | (obtain rfl : e = 0 := by omega
        rw [rdStr_bad most l s n e1 hu (by omega)]; subst h0; exact ⟨rfl, rfl⟩)
     | (obtain rfl : e = 0 := by omega
        subst h0; rw [rdStr_ok most l s n hu]; exact ⟨rfl, rfl⟩)
 · skip
   refine G_region (l := [0, 1, 2, 3, 4, 5, 6, 7, 8, 9, 10, 11, 12]) rfl ?_
   refine G_val rfl rfl rfl rfl (V_move rfl rfl) ?_
   first
     | refine G_val rfl rfl rfl rfl (V_nilCheck rfl rfl) ?_
     | refine G_val rfl rfl rfl rfl (V_nilCheckF rfl rfl) ?_
   refine G_val rfl rfl rfl rfl (V_fieldAddr (fo := 0) rfl Try.underlying86 rfl infReadW_9 rfl rfl rfl) ?_
   refine G_val rfl rfl rfl rfl (V_load1 rfl rfl (mem_at 0 rfl) rfl Try.underlying9 rfl) ?_
   refine G_val rfl rfl rfl rfl (V_move rfl rfl) ?_
   refine G_call (L2 := [_]) rfl rfl rfl rfl rfl rfl Try.call113 (ct_runtext _ _ s n e1 hu (by omega) hm) [] [] rfl rfl ?_
   rintro v post ⟨rfl, rfl⟩
   show G _ _ _ [_] _
   refine G_val rfl rfl rfl rfl (V_move rfl rfl) ?_
   refine G_val rfl rfl rfl rfl (V_extract rfl rfl rfl) ?_
   refine G_val rfl rfl rfl rfl (V_extract rfl rfl rfl) ?_
   refine G_val rfl rfl rfl rfl (V_extract rfl rfl rfl) ?_
   refine G_val rfl rfl rfl rfl (V_assign rfl rfl) ?_
   refine G_val rfl rfl rfl rfl (V_assign rfl rfl) ?_
   refine G_val rfl rfl rfl rfl (V_assign rfl rfl) ?_
   refine G_done ?_
   refine G_seq ?_
   refine G_region (l := [0, 1, 2, 3]) rfl ?_
   refine G_val rfl rfl rfl rfl (V_move rfl rfl) ?_
   refine G_val rfl rfl rfl rfl (V_move rfl rfl) ?_
   refine G_val rfl rfl rfl rfl (V_move rfl rfl) ?_
   refine G_call (L2 := []) rfl rfl rfl rfl rfl rfl Try.call112 (rrd_took0 _ _ _ _ _ (by omega)) [0] [] rfl rfl ?_
   rintro v post ⟨rfl, rfl⟩
   show G _ _ _ [_] _
   refine G_done ?_
   refine G_seq ?_
   refine G_region (l := [0, 1]) rfl ?_
   refine G_val rfl rfl rfl rfl (V_move rfl rfl) ?_
   refine G_val rfl rfl rfl rfl (V_assign rfl rfl) ?_
   refine G_done ?_
   refine G_ret (post := [_]) Try.func41 rfl (RVs_cons (RV_tmp rfl) RVs_nil) [0] rfl ?_
   dsimp only [packed]
   first
     | (rw [rdStr_err most l e (by omega)]; exact ⟨rfl, rfl⟩)
     | (obtain rfl : e = 0 := by omega
        rw [rdStr_bad most l s n e1 hu (by omega)]; subst h0; exact ⟨rfl, rfl⟩)
     | (obtain rfl : e = 0 := by omega
        subst h0; rw [rdStr_ok most l s n hu]; exact ⟨rfl, rfl⟩)

set_option maxRecDepth 100000 in
set_option maxHeartbeats 1000000 in
theorem rrd_flag (b : Nat) (l : List UInt8) (e : Nat) (hl : l.length ≤ 140737488351232) (he : e ≤ 1000) :
    Ct Try.prog 37 [.pointer (some ⟨b, 0, none⟩)] [] [(some b, .cells #[.string (bs l), .int .i64 ((e : Nat) : Int)] 86 (0, 0))] fun r post => r = .bool (rdFlag l e).1 ∧ post = [(some b, .cells #[.string (bs (rdFlag l e).2.1), .int .i64 (((rdFlag l e).2.2 : Nat) : Int)] 86 (0, 0))] := by
 obtain ⟨v, n, e1, hu⟩ : ∃ v n e1, unchain l = (v, n, e1) := ⟨_, _, _, rfl⟩
 obtain ⟨hv, hb⟩ := unchain_bd hu
 refine ct_of Try.func37 rfl rfl (fun w0 => ?_)
 show G _ _ [(0, _)] _ _
 refine G_seq ?_
 refine G_region (l := [0]) rfl ?_
 refine G_val rfl rfl rfl rfl (V_assign rfl rfl) ?_
 refine G_done ?_
 refine G_seq ?_
 refine G_seq ?_
 refine G_region (l := [0, 1, 2, 3, 4]) rfl ?_
 refine G_val rfl rfl rfl rfl (V_move rfl rfl) ?_
 first
   | refine G_val rfl rfl rfl rfl (V_nilCheck rfl rfl) ?_
   | refine G_val rfl rfl rfl rfl (V_nilCheckF rfl rfl) ?_
 refine G_val rfl rfl rfl rfl (V_fieldAddr (fo := 1) rfl Try.underlying86 rfl infReadW_3 rfl rfl rfl) ?_
 refine G_val rfl rfl rfl rfl (V_load1 rfl rfl (mem_at 0 rfl) rfl Try.underlying3 rfl) ?_
 refine G_val rfl rfl rfl rfl (V_neq rfl rfl rfl) ?_
 refine G_done ?_
 refine G_ifD rfl (fun hc1 => ?_) (fun hc1 => ?_)
 · skip
   refine G_seq ?_
   refine G_region (l := [0]) rfl ?_
   refine G_val rfl rfl rfl rfl (V_assign rfl rfl) ?_
   refine G_done ?_
   refine G_ret (post := [_]) Try.func37 rfl (RVs_cons (RV_tmp rfl) RVs_nil) [0] rfl ?_
   dsimp only [packed]
   first
     | (rw [rdFlag_err l e (by omega)]; exact ⟨rfl, rfl⟩)
     | (obtain rfl : e = 0 := by omega
        rw [rdFlag_bad l v n e1 hu (by omega)]; exact ⟨rfl, rfl⟩)
     | (obtain rfl : e = 0 := by omega
        subst h0; rw [rdFlag_long l v n hu h2]; exact ⟨rfl, rfl⟩)
     | (obtain rfl : e = 0 := by omega
        subst h0; rw [rdFlag_ok l v n hu h2]; refine ⟨bool_eq (Bool.eq_iff_iff.2 ?_), rfl⟩; first | (simp; done) | (simp; omega) | (simp [*]; done))
 refine G_skip ?_
 refine G_seq ?_
 rcases (by omega : (e1 = 0 ∧ n ≤ l.length ∧ 1 < v) ∨ (e1 = 0 ∧ n ≤ l.length ∧ ¬ 1 < v) ∨ (0 < e1 ∧ e1 ≤ 3 ∧ v = 0)) with ⟨h0, h1, h2⟩ | ⟨h0, h1, h2⟩ | ⟨h0, h1, h2⟩
 · skip
   refine G_region (l := [0, 1, 2, 3, 4, 5, 6, 7, 8, 9, 10, 11]) rfl ?_
   refine G_val rfl rfl rfl rfl (V_move rfl rfl) ?_
   first
     | refine G_val rfl rfl rfl rfl (V_nilCheck rfl rfl) ?_
     | refine G_val rfl rfl rfl rfl (V_nilCheckF rfl rfl) ?_
   refine G_val rfl rfl rfl rfl (V_fieldAddr (fo := 0) rfl Try.underlying86 rfl infReadW_9 rfl rfl rfl) ?_
   refine G_val rfl rfl rfl rfl (V_load1 rfl rfl (mem_at 0 rfl) rfl Try.underlying9 rfl) ?_
   refine G_call (L2 := [_]) rfl rfl rfl rfl rfl rfl Try.call111 (ct_runchain _ v n e1 hu (by omega)) [] [] rfl rfl ?_
   rintro v post ⟨rfl, rfl⟩
   show G _ _ _ [_] _
   refine G_val rfl rfl rfl rfl (V_move rfl rfl) ?_
   refine G_val rfl rfl rfl rfl (V_extract rfl rfl rfl) ?_
   refine G_val rfl rfl rfl rfl (V_extract rfl rfl rfl) ?_
   refine G_val rfl rfl rfl rfl (V_extract rfl rfl rfl) ?_
   refine G_val rfl rfl rfl rfl (V_assign rfl rfl) ?_
   refine G_val rfl rfl rfl rfl (V_assign rfl rfl) ?_
   refine G_val rfl rfl rfl rfl (V_assign rfl rfl) ?_
   refine G_done ?_
   refine G_seq ?_
   refine G_seq ?_
   refine G_region (l := [0, 1, 2, 3, 4, 5]) rfl ?_
   refine G_val rfl rfl rfl rfl (V_move rfl rfl) ?_
   refine G_val rfl rfl rfl rfl (V_eql rfl rfl rfl) ?_
   refine G_val rfl rfl rfl rfl (V_move rfl rfl) ?_
   refine G_splitD 22 rfl (fun hc2 => ?_) (fun hc2 => ?_)
   rotate_left
   · (exfalso; omega)
   refine G_val rfl rfl rfl rfl (V_move rfl rfl) ?_
   refine G_val rfl rfl rfl rfl (V_gtr rfl rfl rfl) ?_
   refine G_val rfl rfl rfl rfl (V_pickT rfl rfl rfl) ?_
   refine G_done ?_
   refine G_ifD rfl (fun hc3 => ?_) (fun hc3 => ?_)
   rotate_left
   · (exfalso; omega)
   refine G_region (l := [0]) rfl ?_
   refine G_val rfl rfl rfl rfl (V_assign rfl rfl) ?_
   refine G_done ?_
   refine G_seq ?_
   refine G_region (l := [0, 1, 2, 3]) rfl ?_
   refine G_val rfl rfl rfl rfl (V_move rfl rfl) ?_
   refine G_val rfl rfl rfl rfl (V_move rfl rfl) ?_
   refine G_val rfl rfl rfl rfl (V_move rfl rfl) ?_
   refine G_call (L2 := []) rfl rfl rfl rfl rfl rfl Try.call112 (rrd_took0 _ _ _ _ 3 (by omega)) [0] [] rfl rfl ?_
   rintro v post ⟨rfl, rfl⟩
   show G _ _ _ [_] _
   refine G_done ?_
   refine G_seq ?_
   refine G_region (l := [0, 1, 2, 3, 4, 5, 6]) rfl ?_
   refine G_val rfl rfl rfl rfl (V_move rfl rfl) ?_
   refine G_val rfl rfl rfl rfl (V_eql rfl rfl rfl) ?_
   refine G_val rfl rfl rfl rfl (V_move rfl rfl) ?_
   refine G_splitD 32 rfl (fun hc4 => ?_) (fun hc4 => ?_)
   · (exfalso; omega)
   refine G_off rfl rfl rfl rfl ?_
   refine G_off rfl rfl rfl rfl ?_
   refine G_val rfl rfl rfl rfl (V_pickF rfl rfl rfl) ?_
   refine G_val rfl rfl rfl rfl (V_assign rfl rfl) ?_
   refine G_done ?_
   refine G_ret (post := [_]) Try.func37 rfl (RVs_cons (RV_tmp rfl) RVs_nil) [0] rfl ?_
   dsimp only [packed]
   first
     | (rw [rdFlag_err l e (by omega)]; exact ⟨rfl, rfl⟩)
     | (obtain rfl : e = 0 := by omega
        rw [rdFlag_bad l v n e1 hu (by omega)]; exact ⟨rfl, rfl⟩)
     | (obtain rfl : e = 0 := by omega
        subst h0; rw [rdFlag_long l v n hu h2]; exact ⟨rfl, rfl⟩)
     | (obtain rfl : e = 0 := by omega
        subst h0; rw [rdFlag_ok l v n hu h2]; refine ⟨bool_eq (Bool.eq_iff_iff.2 ?_), rfl⟩; first | (simp; done) | (simp; omega) | (simp [*]; done))
 · skip
   refine G_region (l := [0, 1, 2, 3, 4, 5, 6, 7, 8, 9, 10, 11]) rfl ?_
   refine G_val rfl rfl rfl rfl (V_move rfl rfl) ?_
   first
     | refine G_val rfl rfl rfl rfl (V_nilCheck rfl rfl) ?_
     | refine G_val rfl rfl rfl rfl (V_nilCheckF rfl rfl) ?_
   refine G_val rfl rfl rfl rfl (V_fieldAddr (fo := 0) rfl Try.underlying86 rfl infReadW_9 rfl rfl rfl) ?_
   refine G_val rfl rfl rfl rfl (V_load1 rfl rfl (mem_at 0 rfl) rfl Try.underlying9 rfl) ?_
   refine G_call (L2 := [_]) rfl rfl rfl rfl rfl rfl Try.call111 (ct_runchain _ v n e1 hu (by omega)) [] [] rfl rfl ?_
   rintro v post ⟨rfl, rfl⟩
   show G _ _ _ [_] _
   refine G_val rfl rfl rfl rfl (V_move rfl rfl) ?_
   refine G_val rfl rfl rfl rfl (V_extract rfl rfl rfl) ?_
   refine G_val rfl rfl rfl rfl (V_extract rfl rfl rfl) ?_
   refine G_val rfl rfl rfl rfl (V_extract rfl rfl rfl) ?_
   refine G_val rfl rfl rfl rfl (V_assign rfl rfl) ?_
   refine G_val rfl rfl rfl rfl (V_assign rfl rfl) ?_
   refine G_val rfl rfl rfl rfl (V_assign rfl rfl) ?_
   refine G_done ?_
   refine G_seq ?_
   refine G_seq ?_
   refine G_region (l := [0, 1, 2, 3, 4, 5]) rfl ?_
   refine G_val rfl rfl rfl rfl (V_move rfl rfl) ?_
   refine G_val rfl rfl rfl rfl (V_eql rfl rfl rfl) ?_
   refine G_val rfl rfl rfl rfl (V_move rfl rfl) ?_
   refine G_splitD 22 rfl (fun hc2 => ?_) (fun hc2 => ?_)
   rotate_left
   · (exfalso; omega)
   refine G_val rfl rfl rfl rfl (V_move rfl rfl) ?_
   refine G_val rfl rfl rfl rfl (V_gtr rfl rfl rfl) ?_
   refine G_val rfl rfl rfl rfl (V_pickT rfl rfl rfl) ?_
   refine G_done ?_
   refine G_ifD rfl (fun hc3 => ?_) (fun hc3 => ?_)
   · (exfalso; omega)
   refine G_skip ?_
   refine G_seq ?_
   refine G_region (l := [0, 1, 2, 3]) rfl ?_
   refine G_val rfl rfl rfl rfl (V_move rfl rfl) ?_
   refine G_val rfl rfl rfl rfl (V_move rfl rfl) ?_
   refine G_val rfl rfl rfl rfl (V_move rfl rfl) ?_
   refine G_call (L2 := []) rfl rfl rfl rfl rfl rfl Try.call112 (rrd_took1 _ _ _ _ _ (by omega) (by omega)) [0] [] rfl rfl ?_
   rintro v post ⟨rfl, rfl⟩
   show G _ _ _ [_] _
   refine G_done ?_
   refine G_seq ?_
   refine G_region (l := [0, 1, 2, 3, 4, 5, 6]) rfl ?_
   refine G_val rfl rfl rfl rfl (V_move rfl rfl) ?_
   refine G_val rfl rfl rfl rfl (V_eql rfl rfl rfl) ?_
   refine G_val rfl rfl rfl rfl (V_move rfl rfl) ?_
   refine G_splitD 32 rfl (fun hc4 => ?_) (fun hc4 => ?_)
   rotate_left
   · (exfalso; omega)
   refine G_val rfl rfl rfl rfl (V_move rfl rfl) ?_
   refine G_val rfl rfl rfl rfl (V_eql rfl rfl rfl) ?_
   refine G_val rfl rfl rfl rfl (V_pickT rfl rfl rfl) ?_
   refine G_val rfl rfl rfl rfl (V_assign rfl rfl) ?_
   refine G_done ?_
   refine G_ret (post := [_]) Try.func37 rfl (RVs_cons (RV_tmp rfl) RVs_nil) [0] rfl ?_
   dsimp only [packed]
   first
     | (rw [rdFlag_err l e (by omega)]; exact ⟨rfl, rfl⟩)
     | (obtain rfl : e = 0 := by omega
        rw [rdFlag_bad l v n e1 hu (by omega)]; exact ⟨rfl, rfl⟩)
     | (obtain rfl : e = 0 := by omega
        subst h0; rw [rdFlag_long l v n hu h2]; exact ⟨rfl, rfl⟩)
     | (obtain rfl : e = 0 := by omega
        subst h0; rw [rdFlag_ok l v n hu h2]; refine ⟨bool_eq (Bool.eq_iff_iff.2 ?_), rfl⟩; first | (simp; done) | (simp; omega) | (simp [*]; done))
 · skip
   refine G_region (l := [0, 1, 2, 3, 4, 5, 6, 7, 8, 9, 10, 11]) rfl ?_
   refine G_val rfl rfl rfl rfl (V_move rfl rfl) ?_
   first
     | refine G_val rfl rfl rfl rfl (V_nilCheck rfl rfl) ?_
     | refine G_val rfl rfl rfl rfl (V_nilCheckF rfl rfl) ?_
   refine G_val rfl rfl rfl rfl (V_fieldAddr (fo := 0) rfl Try.underlying86 rfl infReadW_9 rfl rfl rfl) ?_
   refine G_val rfl rfl rfl rfl (V_load1 rfl rfl (mem_at 0 rfl) rfl Try.underlying9 rfl) ?_
   refine G_call (L2 := [_]) rfl rfl rfl rfl rfl rfl Try.call111 (ct_runchain _ v n e1 hu (by omega)) [] [] rfl rfl ?_
   rintro v post ⟨rfl, rfl⟩
   show G _ _ _ [_] _
   refine G_val rfl rfl rfl rfl (V_move rfl rfl) ?_
   refine G_val rfl rfl rfl rfl (V_extract rfl rfl rfl) ?_
   refine G_val rfl rfl rfl rfl (V_extract rfl rfl rfl) ?_
   refine G_val rfl rfl rfl rfl (V_extract rfl rfl rfl) ?_
   refine G_val rfl rfl rfl rfl (V_assign rfl rfl) ?_
   refine G_val rfl rfl rfl rfl (V_assign rfl rfl) ?_
   refine G_val rfl rfl rfl rfl (V_assign rfl rfl) ?_
   refine G_done ?_
   refine G_seq ?_
   refine G_seq ?_
   refine G_region (l := [0, 1, 2, 3, 4, 5]) rfl ?_
   refine G_val rfl rfl rfl rfl (V_move rfl rfl) ?_
   refine G_val rfl rfl rfl rfl (V_eql rfl rfl rfl) ?_
   refine G_val rfl rfl rfl rfl (V_move rfl rfl) ?_
   refine G_splitD 22 rfl (fun hc2 => ?_) (fun hc2 => ?_)
   · (exfalso; omega)
   refine G_off rfl rfl rfl rfl ?_
   refine G_off rfl rfl rfl rfl ?_
   refine G_val rfl rfl rfl rfl (V_pickF rfl rfl rfl) ?_
   refine G_done ?_
   refine G_else rfl ?_
   refine G_skip ?_
   refine G_seq ?_
   refine G_region (l := [0, 1, 2, 3]) rfl ?_
   refine G_val rfl rfl rfl rfl (V_move rfl rfl) ?_
   refine G_val rfl rfl rfl rfl (V_move rfl rfl) ?_
   refine G_val rfl rfl rfl rfl (V_move rfl rfl) ?_
   refine G_call (L2 := []) rfl rfl rfl rfl rfl rfl Try.call112 (rrd_took0 _ _ _ _ _ (by omega)) [0] [] rfl rfl ?_
   rintro v post ⟨rfl, rfl⟩
   show G _ _ _ [_] _
   refine G_done ?_
   refine G_seq ?_
   refine G_region (l := [0, 1, 2, 3, 4, 5, 6]) rfl ?_
   refine G_val rfl rfl rfl rfl (V_move rfl rfl) ?_
   refine G_val rfl rfl rfl rfl (V_eql rfl rfl rfl) ?_
   refine G_val rfl rfl rfl rfl (V_move rfl rfl) ?_
   refine G_splitD 32 rfl (fun hc3 => ?_) (fun hc3 => ?_)
   · (exfalso; omega)
   refine G_off rfl rfl rfl rfl ?_
   refine G_off rfl rfl rfl rfl ?_
   refine G_val rfl rfl rfl rfl (V_pickF rfl rfl rfl) ?_
   refine G_val rfl rfl rfl rfl (V_assign rfl rfl) ?_
   refine G_done ?_
   refine G_ret (post := [_]) Try.func37 rfl (RVs_cons (RV_tmp rfl) RVs_nil) [0] rfl ?_
   dsimp only [packed]
   first
     | (rw [rdFlag_err l e (by omega)]; exact ⟨rfl, rfl⟩)
     | (obtain rfl : e = 0 := by omega
        rw [rdFlag_bad l v n e1 hu (by omega)]; exact ⟨rfl, rfl⟩)
     | (obtain rfl : e = 0 := by omega
        subst h0; rw [rdFlag_long l v n hu h2]; exact ⟨rfl, rfl⟩)
     | (obtain rfl : e = 0 := by omega
        subst h0; rw [rdFlag_ok l v n hu h2]; refine ⟨bool_eq (Bool.eq_iff_iff.2 ?_), rfl⟩; first | (simp; done) | (simp; omega) | (simp [*]; done))

set_option maxRecDepth 100000 in
set_option maxHeartbeats 1000000 in
theorem rrd_end (b : Nat) (l : List UInt8) (e : Nat) :
    Ct Try.prog 44 [.pointer (some ⟨b, 0, none⟩)] [(some b, .cells #[.string (bs l), .int .i64 ((e : Nat) : Int)] 86 (0, 0))] [] fun r post => r = .int .i64 ((rdEnd l e : Nat) : Int) ∧ post = [] := by
 refine ct_of Try.func44 rfl rfl (fun w0 => ?_)
 show G _ _ [(0, _)] _ _
 refine G_seq ?_
 refine G_region (l := [0]) rfl ?_
 refine G_val rfl rfl rfl rfl (V_assign rfl rfl) ?_
 refine G_done ?_
 refine G_seq ?_
 refine G_seq ?_
 refine G_region (l := [0, 1, 2, 3, 4]) rfl ?_
 refine G_val rfl rfl rfl rfl (V_move rfl rfl) ?_
 first
   | refine G_val rfl rfl rfl rfl (V_nilCheck rfl rfl) ?_
   | refine G_val rfl rfl rfl rfl (V_nilCheckF rfl rfl) ?_
 refine G_val rfl rfl rfl rfl (V_fieldAddr (fo := 1) rfl Try.underlying86 rfl infReadW_3 rfl rfl rfl) ?_
 refine G_val rfl rfl rfl rfl (V_load1 rfl rfl (mem_at 0 rfl) rfl Try.underlying3 rfl) ?_
 refine G_val rfl rfl rfl rfl (V_neq rfl rfl rfl) ?_
 refine G_done ?_
 refine G_ifD rfl (fun hc1 => ?_) (fun hc1 => ?_)
 · skip
   refine G_seq ?_
   refine G_region (l := [0, 1, 2, 3, 4]) rfl ?_
   refine G_val rfl rfl rfl rfl (V_move rfl rfl) ?_
   first
     | refine G_val rfl rfl rfl rfl (V_nilCheck rfl rfl) ?_
     | refine G_val rfl rfl rfl rfl (V_nilCheckF rfl rfl) ?_
   refine G_val rfl rfl rfl rfl (V_fieldAddr (fo := 1) rfl Try.underlying86 rfl infReadW_3 rfl rfl rfl) ?_
   refine G_val rfl rfl rfl rfl (V_load1 rfl rfl (mem_at 0 rfl) rfl Try.underlying3 rfl) ?_
   refine G_val rfl rfl rfl rfl (V_assign rfl rfl) ?_
   refine G_done ?_
   refine G_ret (post := []) Try.func44 rfl (RVs_cons (RV_tmp rfl) RVs_nil) [] rfl ?_
   dsimp only [packed]
   refine ⟨?_, rfl⟩; unfold rdEnd; first | (rw [if_pos (by omega)]; done) | (rw [if_neg (by omega), if_neg (by assumption)]; rfl) | (rw [if_neg (by omega), if_pos (Classical.not_not.1 (by assumption))]; rfl) | (rw [if_neg (by omega), if_pos (by assumption)]; rfl)
 refine G_skip ?_
 refine G_seq ?_
 refine G_seq ?_
 refine G_region (l := [0, 1, 2, 3, 4]) rfl ?_
 refine G_val rfl rfl rfl rfl (V_move rfl rfl) ?_
 first
   | refine G_val rfl rfl rfl rfl (V_nilCheck rfl rfl) ?_
   | refine G_val rfl rfl rfl rfl (V_nilCheckF rfl rfl) ?_
 refine G_val rfl rfl rfl rfl (V_fieldAddr (fo := 0) rfl Try.underlying86 rfl infReadW_9 rfl rfl rfl) ?_
 refine G_val rfl rfl rfl rfl (V_load1 rfl rfl (mem_at 0 rfl) rfl Try.underlying9 rfl) ?_
 refine G_val rfl rfl rfl rfl (V_sneq rfl rfl rfl) ?_
 refine G_done ?_
 refine G_ifD rfl (fun hc2 => ?_) (fun hc2 => ?_)
 · skip
   refine G_seq ?_
   refine G_region (l := [0]) rfl ?_
   refine G_val rfl rfl rfl rfl (V_assign rfl rfl) ?_
   refine G_done ?_
   refine G_ret (post := []) Try.func44 rfl (RVs_cons (RV_tmp rfl) RVs_nil) [] rfl ?_
   dsimp only [packed]
   refine ⟨?_, rfl⟩; unfold rdEnd; first | (rw [if_pos (by omega)]; done) | (rw [if_neg (by omega), if_neg (by assumption)]; rfl) | (rw [if_neg (by omega), if_pos (Classical.not_not.1 (by assumption))]; rfl) | (rw [if_neg (by omega), if_pos (by assumption)]; rfl)
 refine G_skip ?_
 refine G_seq ?_
 refine G_region (l := [0]) rfl ?_
 refine G_val rfl rfl rfl rfl (V_assign rfl rfl) ?_
 refine G_done ?_
 refine G_ret (post := []) Try.func44 rfl (RVs_cons (RV_tmp rfl) RVs_nil) [] rfl ?_
 dsimp only [packed]
 refine ⟨?_, rfl⟩; unfold rdEnd; first | (rw [if_pos (by omega)]; done) | (rw [if_neg (by omega), if_neg (by assumption)]; rfl) | (rw [if_neg (by omega), if_pos (Classical.not_not.1 (by assumption))]; rfl) | (rw [if_neg (by omega), if_pos (by assumption)]; rfl)

set_option maxRecDepth 100000 in
set_option maxHeartbeats 1000000 in
theorem rd_new (l : List UInt8) :
    Ct Try.prog 33 [.string (bs l)] [] [] fun r post => ∃ b, r = .pointer (some ⟨b, 0, none⟩) ∧ post = [(some b, .cells #[.string (bs l), .int .i64 ((0 : Nat) : Int)] 169 (0, 0))] := by
 refine ct_of Try.func33 rfl rfl (fun w0 => ?_)
 show G _ _ [(0, _)] _ _
 refine G_seq ?_
 refine G_region (l := [0]) rfl ?_
 refine G_val rfl rfl rfl rfl (V_assign rfl rfl) ?_
 refine G_done ?_
 refine G_seq ?_
 refine G_region (l := [0, 1, 2, 3]) rfl ?_
 refine G_val rfl rfl rfl rfl (V_move rfl rfl) ?_
 refine G_val rfl rfl rfl rfl (V_buildS (cs := [_, _]) rfl Try.underlying169 infReadW_169 rfl plcReadW_169 rfl rfl rfl) ?_
 refine G_new rfl rfl rfl rfl (N_boxA rfl rfl) (fun b5 => ?_)
 refine G_val rfl rfl rfl rfl (V_assign rfl rfl) ?_
 refine G_done ?_
 refine G_ret (post := [_]) Try.func33 rfl (RVs_cons (RV_tmp rfl) RVs_nil) [0] rfl ?_
 dsimp only [packed]
 exact ⟨_, rfl, rfl⟩

end
end Go.Proofs.Ytkekkalgebgokaa

/- Readings, one behind the other: what they tell, and what is left. -/
set_option linter.unusedSimpArgs false
set_option linter.unusedVariables false
namespace Go.Proofs.Ytkekkalgebgokaa
open Go Go.RowKit

section



theorem rdNum_bd (l : List UInt8) (e : Nat) (he : e ≤ 1000) : (rdNum l e).1 < 18446744073709551616 ∧ (rdNum l e).2.1.length ≤ l.length ∧ (rdNum l e).2.2 ≤ 1000 := by
  obtain ⟨v, n, e1, hu⟩ : ∃ v n e1, unchain l = (v, n, e1) := ⟨_, _, _, rfl⟩
  obtain ⟨hv, hb⟩ := unchain_bd hu
  by_cases h : e = 0
  · subst h
    rcases hb with ⟨h0, h1, _, _⟩ | ⟨h0, h1, h2⟩
    · subst h0
      rw [rdNum_ok l v n hu]
      exact ⟨hv, by simp, by simp⟩
    · rw [rdNum_bad l v n e1 hu (by omega)]
      exact ⟨by simp, by simp, by simp only; omega⟩
  · rw [rdNum_err l e h]
    exact ⟨by simp, by simp, he⟩
theorem rdInt_bd (most : Int) (l : List UInt8) (e : Nat) (he : e ≤ 1000) (hm : 0 ≤ most) : (((rdInt most l e).1 : Nat) : Int) ≤ most ∧ (rdInt most l e).2.1.length ≤ l.length ∧ (rdInt most l e).2.2 ≤ 1000 := by
  obtain ⟨v, n, e1, hu⟩ : ∃ v n e1, unchain l = (v, n, e1) := ⟨_, _, _, rfl⟩
  obtain ⟨hv, hb⟩ := unchain_bd hu
  by_cases h : e = 0
  · subst h
    rcases hb with ⟨h0, h1, _, _⟩ | ⟨h0, h1, h2⟩
    · subst h0
      by_cases hl : most < (v : Int)
      · rw [rdInt_long most l v n hu (.inr hl)]
        exact ⟨by simpa using hm, by simp, by simp⟩
      · rw [rdInt_ok most l v n hu (by omega)]
        exact ⟨by simp only; omega, by simp, by simp⟩
    · rw [rdInt_bad most l v n e1 hu (by omega)]
      exact ⟨by simpa using hm, by simp, by simp only; omega⟩
  · rw [rdInt_err most l e h]
    exact ⟨by simpa using hm, by simp, he⟩
theorem rdStr_bd (most : Int) (l : List UInt8) (e : Nat) (he : e ≤ 1000) (hm : 0 ≤ most) : (((rdStr most l e).1.length : Nat) : Int) ≤ most ∧ (rdStr most l e).2.1.length ≤ l.length ∧ (rdStr most l e).2.2 ≤ 1000 := by
  obtain ⟨s, n, e1, hu⟩ : ∃ v n e1, untext l most = (v, n, e1) := ⟨_, _, _, rfl⟩
  by_cases h : e = 0
  · subst h
    rcases untext_ok l most s n e1 hu with ⟨h0, h1, h2, h3⟩ | ⟨h0, h1, h2, h3⟩
    · subst h0
      rw [rdStr_ok most l s n hu]
      exact ⟨h3, by simp, by simp⟩
    · rw [rdStr_bad most l s n e1 hu (by omega)]
      exact ⟨by simpa using hm, by simp, by simp only; omega⟩
  · rw [rdStr_err most l e h]
    exact ⟨by simpa using hm, by simp, he⟩
/-- So many numbers, one behind the other. -/
def rdI (most : Int) (l : List UInt8) (e : Nat) : Nat → List Nat × List UInt8 × Nat
  | 0 => ([], l, e)
  | i + 1 => ((rdI most l e i).1 ++ [(rdInt most (rdI most l e i).2.1 (rdI most l e i).2.2).1], (rdInt most (rdI most l e i).2.1 (rdI most l e i).2.2).2)
theorem rdI_bd (most : Int) (l : List UInt8) (e : Nat) (he : e ≤ 1000) (hm : 0 ≤ most) : ∀ i, (rdI most l e i).1.length = i ∧ (∀ x ∈ (rdI most l e i).1, (x : Int) ≤ most) ∧ (rdI most l e i).2.1.length ≤ l.length ∧ (rdI most l e i).2.2 ≤ 1000
  | 0 => ⟨rfl, by simp [rdI], by simp [rdI], he⟩
  | i + 1 => by
    obtain ⟨h1, h2, h3, h4⟩ := rdI_bd most l e he hm i
    obtain ⟨k1, k2, k3⟩ := rdInt_bd most (rdI most l e i).2.1 (rdI most l e i).2.2 h4 hm
    refine ⟨by simp [rdI, h1], fun x hx => ?_, by simp only [rdI]; omega, k3⟩
    simp only [rdI, List.mem_append, List.mem_singleton] at hx
    rcases hx with hx | rfl
    · exact h2 x hx
    · exact k1
def nCell (n : Nat) : Value := .int .i64 (n : Int)
theorem laid_next {cs : Array Value} {k : Nat} {vs : List Value} {v : Value} (h : k + vs.length < cs.size) : (laid cs k vs).setIfInBounds (k + vs.length) v = laid cs k (vs ++ [v]) := by
  apply Array.toList_inj.1
  unfold laid
  simp only [Array.toList_setIfInBounds, List.length_append, List.length_singleton]
  have h1 : (cs.toList.take k).length = k := by simp; omega
  have h2 : cs.toList.drop (k + vs.length) = cs.toList[k + vs.length]'(by simpa using h) :: cs.toList.drop (k + (vs.length + 1)) := by
    rw [← Nat.add_assoc]
    exact List.drop_eq_getElem_cons (by simpa using h)
  rw [h2, List.set_append_right _ _ (by simp; omega)]
  simp only [List.length_append, h1, Nat.sub_self, List.set_cons_zero]
  simp
theorem laid_none {cs : Array Value} {k : Nat} (h : k ≤ cs.size) : laid cs k [] = cs := by
  apply Array.toList_inj.1
  simp [laid]
theorem laid_size {cs : Array Value} {k : Nat} {vs : List Value} (h : k + vs.length ≤ cs.size) : (laid cs k vs).size = cs.size := by
  simp [laid]
  omega

end
end Go.Proofs.Ytkekkalgebgokaa

/- What was read without an error is what the bytes begin with, written. -/
set_option linter.unusedSimpArgs false
set_option linter.unusedVariables false
namespace Go.Proofs.Ytkekkalgebgokaa
open Go Go.RowKit

section



theorem untext_back (l : List UInt8) (most : Int) (s : List UInt8) (n : Nat) (h : untext l most = (s, n, 0)) : l = text s ++ l.drop n := by
  obtain ⟨v, k, e, hu⟩ : ∃ v n e, unchain l = (v, n, e) := ⟨_, _, _, rfl⟩
  obtain ⟨_, hb⟩ := unchain_bd hu
  by_cases he : e = 0
  · subst he
    by_cases hm : most < 0 ∨ most < (v : Int)
    · rw [untext_long l most v k hu hm] at h; simp at h
    · by_cases hs : l.length - k < v
      · rw [untext_short l most v k hu hm hs] at h; simp at h
      · rw [untext_yes l most v k hu hm hs] at h
        simp only [Prod.mk.injEq, and_true] at h
        obtain ⟨rfl, rfl⟩ := h
        have hc := chain_unchain l v k hu
        have hl : ((l.drop k).take v).length = v := by simp; omega
        unfold text
        rw [hl, hc, List.append_assoc, ← List.drop_drop, List.take_append_drop, List.take_append_drop]
  · rw [untext_err l most v k e hu he] at h
    simp only [Prod.mk.injEq] at h
    exact absurd h.2.2 he
theorem rdStr_back {most : Int} {l : List UInt8} {e : Nat} (h : (rdStr most l e).2.2 = 0) : e = 0 ∧ l = text (rdStr most l e).1 ++ (rdStr most l e).2.1 := by
  by_cases he : e = 0
  · subst he
    refine ⟨rfl, ?_⟩
    obtain ⟨s, n, e1, hu⟩ : ∃ v n e1, untext l most = (v, n, e1) := ⟨_, _, _, rfl⟩
    by_cases h1 : e1 = 0
    · subst h1
      rw [rdStr_ok most l s n hu]
      exact untext_back l most s n hu
    · rw [rdStr_bad most l s n e1 hu h1] at h; exact absurd h h1
  · rw [rdStr_err most l e he] at h; exact absurd h he
theorem rdNum_back {l : List UInt8} {e : Nat} (h : (rdNum l e).2.2 = 0) : e = 0 ∧ l = chainI ((rdNum l e).1 : Nat) ++ (rdNum l e).2.1 := by
  by_cases he : e = 0
  · subst he
    refine ⟨rfl, ?_⟩
    obtain ⟨v, n, e1, hu⟩ : ∃ v n e1, unchain l = (v, n, e1) := ⟨_, _, _, rfl⟩
    by_cases h1 : e1 = 0
    · subst h1
      rw [rdNum_ok l v n hu]
      show l = chain v ++ l.drop n
      rw [chain_unchain l v n hu, List.take_append_drop]
    · rw [rdNum_bad l v n e1 hu h1] at h; exact absurd h h1
  · rw [rdNum_err l e he] at h; exact absurd h he
theorem rdInt_back {most : Int} {l : List UInt8} {e : Nat} (h : (rdInt most l e).2.2 = 0) : e = 0 ∧ l = chainI ((rdInt most l e).1 : Nat) ++ (rdInt most l e).2.1 := by
  by_cases he : e = 0
  · subst he
    refine ⟨rfl, ?_⟩
    obtain ⟨v, n, e1, hu⟩ : ∃ v n e1, unchain l = (v, n, e1) := ⟨_, _, _, rfl⟩
    by_cases h1 : e1 = 0
    · subst h1
      by_cases hl : most < 0 ∨ most < (v : Int)
      · rw [rdInt_long most l v n hu hl] at h; simp at h
      · rw [rdInt_ok most l v n hu hl]
        show l = chain v ++ l.drop n
        rw [chain_unchain l v n hu, List.take_append_drop]
    · rw [rdInt_bad most l v n e1 hu h1] at h; exact absurd h h1
  · rw [rdInt_err most l e he] at h; exact absurd h he
theorem rdFlag_back {l : List UInt8} {e : Nat} (h : (rdFlag l e).2.2 = 0) : e = 0 ∧ l = chainI (if (rdFlag l e).1 then 1 else 0) ++ (rdFlag l e).2.1 := by
  by_cases he : e = 0
  · subst he
    refine ⟨rfl, ?_⟩
    obtain ⟨v, n, e1, hu⟩ : ∃ v n e1, unchain l = (v, n, e1) := ⟨_, _, _, rfl⟩
    by_cases h1 : e1 = 0
    · subst h1
      by_cases hl : 1 < v
      · rw [rdFlag_long l v n hu hl] at h; simp at h
      · rw [rdFlag_ok l v n hu hl]
        have hv : chainI (if (v == 1) = true then 1 else 0) = chain v := by
          rcases (by omega : v = 0 ∨ v = 1) with rfl | rfl <;> rfl
        simp only
        rw [hv, chain_unchain l v n hu, List.take_append_drop]
    · rw [rdFlag_bad l v n e1 hu h1] at h; exact absurd h h1
  · rw [rdFlag_err l e he] at h; exact absurd h he
theorem rdEnd_back {l : List UInt8} {e : Nat} (h : rdEnd l e = 0) : e = 0 ∧ l = [] := by
  unfold rdEnd at h
  by_cases he : e = 0
  · rw [if_neg (by omega)] at h
    by_cases hl : l = []
    · exact ⟨he, hl⟩
    · rw [if_neg hl] at h; omega
  · rw [if_pos he] at h; exact absurd h he
theorem rdStr_text (most : Int) (s rest : List UInt8) (h : (s.length : Int) ≤ most) (h64 : s.length < 18446744073709551616) : rdStr most (text s ++ rest) 0 = (s, rest, 0) := by
  rw [rdStr_ok most _ s (text s).length (untext_text s rest most h h64), List.drop_left]
theorem rdInt_chain (most x : Int) (rest : List UInt8) (h0 : 0 ≤ x) (h1 : x ≤ most) (h2 : x < 18446744073709551616) : rdInt most (chainI x ++ rest) 0 = (x.toNat, rest, 0) := by
  unfold chainI
  rw [rdInt_ok most _ x.toNat (chain x.toNat).length (unchain_chain x.toNat rest (by unfold U64; omega)) (by omega), List.drop_left]
theorem rdNum_chain (n : Nat) (rest : List UInt8) (h : n < 18446744073709551616) : rdNum (chainI (n : Int) ++ rest) 0 = (n, rest, 0) := by
  have e : chainI (n : Int) = chain n := rfl
  rw [e, rdNum_ok _ n (chain n).length (unchain_chain n rest h), List.drop_left]
theorem rdFlag_chain (b : Bool) (rest : List UInt8) : rdFlag (chainI (if b then 1 else 0) ++ rest) 0 = (b, rest, 0) := by
  cases b
  · have e : chainI (if false = true then 1 else 0) = chain 0 := rfl
    rw [e, rdFlag_ok _ 0 (chain 0).length (unchain_chain 0 rest (by unfold U64; omega)) (by omega), List.drop_left]; rfl
  · have e : chainI (if true = true then 1 else 0) = chain 1 := rfl
    rw [e, rdFlag_ok _ 1 (chain 1).length (unchain_chain 1 rest (by unfold U64; omega)) (by omega), List.drop_left]; rfl

end
end Go.Proofs.Ytkekkalgebgokaa

/- What a reading tells: if there was no error, what the bytes begin with, written; and what was written is told. One behind the other; lists. -/
set_option linter.unusedSimpArgs false
set_option linter.unusedVariables false
namespace Go.Proofs.Ytkekkalgebgokaa
open Go Go.RowKit

section



def encNum (n : Nat) : List UInt8 := chainI (n : Int)
/-- Of the bytes l, behind the error e, v is told; l' is left, behind the error e'. -/
structure Rdg {α : Type} (enc : α → List UInt8) (good : α → Prop) (l : List UInt8) (e : Nat) (v : α) (l' : List UInt8) (e' : Nat) : Prop where
  back : e' = 0 → e = 0 ∧ good v ∧ l = enc v ++ l'
  forth : ∀ w r, e = 0 → good w → l = enc w ++ r → e' = 0 ∧ v = w ∧ l' = r
  len : l'.length ≤ l.length
  err : e' ≤ 1000
theorem Rdg.ne {α : Type} {enc : α → List UInt8} {good : α → Prop} {l l' : List UInt8} {e e' : Nat} {v : α} (h : Rdg enc good l e v l' e') (he : e ≠ 0) : e' ≠ 0 := fun h0 => he (h.back h0).1
/-- What is told of bytes that are none's. -/
theorem Rdg.bad {α : Type} {enc : α → List UInt8} {good : α → Prop} {l l' : List UInt8} {e e' : Nat} {v : α} (h : Rdg enc good l e v l' e') (he : e' ≠ 0) (u : α) : Rdg enc good l e u l' e' :=
  ⟨fun h0 => absurd h0 he, fun w r h1 h2 h3 => absurd (h.forth w r h1 h2 h3).1 he, h.len, h.err⟩
theorem Rdg.seq {α β γ : Type} {ea : α → List UInt8} {eb : β → List UInt8} {ga : α → Prop} {gb : β → Prop} {l l1 l2 : List UInt8} {e e1 e2 : Nat} {a : α} {b : β} (h1 : Rdg ea ga l e a l1 e1) (h2 : Rdg eb gb l1 e1 b l2 e2)
    {ec : γ → List UInt8} {gc : γ → Prop} {c : γ} (pa : γ → α) (pb : γ → β) (ha : pa c = a) (hb : pb c = b) (hc : ∀ x y, gc x → gc y → pa x = pa y → pb x = pb y → x = y) (hg : ∀ x, gc x → ga (pa x) ∧ gb (pb x)) (hg' : ga a → gb b → gc c) (he : ∀ x, gc x → ec x = ea (pa x) ++ eb (pb x)) : Rdg ec gc l e c l2 e2 := by
  subst ha hb
  refine ⟨fun h0 => ?_, fun w r h0 hw hl => ?_, Nat.le_trans h2.len h1.len, h2.err⟩
  · obtain ⟨x1, x2, x3⟩ := h2.back h0
    obtain ⟨y1, y2, y3⟩ := h1.back x1
    exact ⟨y1, hg' y2 x2, by rw [y3, he _ (hg' y2 x2), List.append_assoc, ← x3]⟩
  · obtain ⟨k1, k2⟩ := hg _ hw
    rw [he _ hw, List.append_assoc] at hl
    obtain ⟨x1, x2, x3⟩ := h1.forth _ _ h0 k1 hl
    obtain ⟨y1, y2, y3⟩ := h2.forth _ _ x1 k2 x3
    have z1 := (h1.back x1).2.1
    have z2 := (h2.back y1).2.1
    exact ⟨y1, hc _ _ (hg' z1 z2) hw x2 y2, y3⟩
theorem Rdg.pair {α β : Type} {ea : α → List UInt8} {eb : β → List UInt8} {ga : α → Prop} {gb : β → Prop} {l l1 l2 : List UInt8} {e e1 e2 : Nat} {a : α} {b : β} (h1 : Rdg ea ga l e a l1 e1) (h2 : Rdg eb gb l1 e1 b l2 e2) :
    Rdg (fun p : α × β => ea p.1 ++ eb p.2) (fun p => ga p.1 ∧ gb p.2) l e (a, b) l2 e2 :=
  h1.seq h2 Prod.fst Prod.snd rfl rfl (fun _ _ _ _ x y => Prod.ext x y) (fun _ h => h) (fun x y => ⟨x, y⟩) (fun _ _ => rfl)
/-- A number, and behind it what hangs on it. -/
theorem Rdg.dep {β γ : Type} {g0 : Nat → Prop} {eb : β → List UInt8} {gb : β → Prop} {l l1 l2 : List UInt8} {e e1 e2 n : Nat} {b : β} (h1 : Rdg encNum g0 l e n l1 e1) (h2 : Rdg eb gb l1 e1 b l2 e2)
    {ec : γ → List UInt8} {gc : γ → Prop} {c : γ} (kd : γ → Nat) (tail : γ → List UInt8) (pb : γ → β) (he : ∀ x, gc x → ec x = encNum (kd x) ++ tail x) (hk : ∀ x, gc x → g0 (kd x))
    (ht : ∀ x, gc x → kd x = n → tail x = eb (pb x) ∧ gb (pb x)) (hc : ∀ x, gc x → kd x = n → pb x = b → c = x) (hg : g0 n → gb b → gc c ∧ ec c = encNum n ++ eb b) : Rdg ec gc l e c l2 e2 := by
  refine ⟨fun h0 => ?_, fun w r h0 hw hl => ?_, Nat.le_trans h2.len h1.len, h2.err⟩
  · obtain ⟨x1, x2, x3⟩ := h2.back h0
    obtain ⟨y1, y2, y3⟩ := h1.back x1
    obtain ⟨z1, z2⟩ := hg y2 x2
    exact ⟨y1, z1, by rw [y3, z2, List.append_assoc, ← x3]⟩
  · rw [he _ hw, List.append_assoc] at hl
    obtain ⟨x1, x2, x3⟩ := h1.forth _ _ h0 (hk _ hw) hl
    obtain ⟨k1, k2⟩ := ht _ hw x2.symm
    rw [k1] at x3
    obtain ⟨y1, y2, y3⟩ := h2.forth _ _ x1 k2 x3
    exact ⟨y1, hc _ hw x2.symm y2.symm, y3⟩
/-- Of a number that no element begins with. -/
theorem Rdg.none {γ : Type} {g0 : Nat → Prop} {l l1 : List UInt8} {e e1 n : Nat} (h1 : Rdg encNum g0 l e n l1 e1) {ec : γ → List UInt8} {gc : γ → Prop} (kd : γ → Nat) (tail : γ → List UInt8) (he : ∀ x, gc x → ec x = encNum (kd x) ++ tail x) (hk : ∀ x, gc x → g0 (kd x)) (hn : ∀ x, gc x → kd x ≠ n) :
    ∀ w r, e = 0 → gc w → l ≠ ec w ++ r := by
  intro w r h0 hw hl
  rw [he _ hw, List.append_assoc] at hl
  exact hn _ hw (h1.forth _ _ h0 (hk _ hw) hl).2.1.symm
/-- The same, under another name of what is told. -/
theorem Rdg.to {α β : Type} {ea : α → List UInt8} {ga : α → Prop} {l l1 : List UInt8} {e e1 : Nat} {a : α} (h : Rdg ea ga l e a l1 e1) {eb : β → List UInt8} {gb : β → Prop} {b : β} (f : α → β) (g : β → α) (hfg : ∀ b, gb b → f (g b) = b) (hgf : ga a → g (f a) = a) (hb : e1 = 0 → b = f a) (hbad : e1 ≠ 0 ∨ e1 = 0) (hg : ∀ x, gb x → ga (g x)) (hg' : ga a → gb (f a)) (he : ∀ x, gb x → eb x = ea (g x)) : Rdg eb gb l e b l1 e1 := by
  refine ⟨fun h0 => ?_, fun w r h0 hw hl => ?_, h.len, h.err⟩
  · obtain ⟨x1, x2, x3⟩ := h.back h0
    rw [hb h0]
    exact ⟨x1, hg' x2, by rw [he _ (hg' x2), hgf x2]; exact x3⟩
  · rw [he w hw] at hl
    obtain ⟨x1, x2, x3⟩ := h.forth _ _ h0 (hg w hw) hl
    exact ⟨x1, by rw [hb x1, x2, hfg w hw], x3⟩
def goodNum (n : Nat) : Prop := n < 18446744073709551616
def goodInt (most : Int) (n : Nat) : Prop := (n : Int) ≤ most
def goodStr (most : Int) (s : List UInt8) : Prop := (s.length : Int) ≤ most
def encFlag (b : Bool) : List UInt8 := chainI (if b then 1 else 0)
theorem rdg_num (l : List UInt8) (e : Nat) (he : e ≤ 1000) : Rdg encNum goodNum l e (rdNum l e).1 (rdNum l e).2.1 (rdNum l e).2.2 := by
  obtain ⟨b1, b2, b3⟩ := rdNum_bd l e he
  refine ⟨fun h0 => ?_, fun w r h0 hw hl => ?_, b2, b3⟩
  · obtain ⟨x1, x2⟩ := rdNum_back h0
    exact ⟨x1, b1, x2⟩
  · subst h0 hl
    rw [show rdNum (encNum w ++ r) 0 = (w, r, 0) from rdNum_chain w r hw]
    exact ⟨rfl, rfl, rfl⟩
theorem rdg_int (most : Int) (l : List UInt8) (e : Nat) (he : e ≤ 1000) (hm : 0 ≤ most ∧ most < 18446744073709551616) : Rdg encNum (goodInt most) l e (rdInt most l e).1 (rdInt most l e).2.1 (rdInt most l e).2.2 := by
  obtain ⟨b1, b2, b3⟩ := rdInt_bd most l e he hm.1
  refine ⟨fun h0 => ?_, fun w r h0 hw hl => ?_, b2, b3⟩
  · obtain ⟨x1, x2⟩ := rdInt_back h0
    exact ⟨x1, b1, x2⟩
  · subst h0 hl
    unfold goodInt at hw
    rw [show rdInt most (encNum w ++ r) 0 = ((w : Int).toNat, r, 0) from rdInt_chain most w r (by omega) hw (by omega)]
    exact ⟨rfl, by simp, rfl⟩
theorem rdg_str (most : Int) (l : List UInt8) (e : Nat) (he : e ≤ 1000) (hm : 0 ≤ most ∧ most < 18446744073709551616) : Rdg text (goodStr most) l e (rdStr most l e).1 (rdStr most l e).2.1 (rdStr most l e).2.2 := by
  obtain ⟨b1, b2, b3⟩ := rdStr_bd most l e he hm.1
  refine ⟨fun h0 => ?_, fun w r h0 hw hl => ?_, b2, b3⟩
  · obtain ⟨x1, x2⟩ := rdStr_back h0
    exact ⟨x1, b1, x2⟩
  · subst h0 hl
    unfold goodStr at hw
    rw [show rdStr most (text w ++ r) 0 = (w, r, 0) from rdStr_text most w r hw (by omega)]
    exact ⟨rfl, rfl, rfl⟩
theorem rdgFlag_bd (l : List UInt8) (e : Nat) (he : e ≤ 1000) : (rdFlag l e).2.1.length ≤ l.length ∧ (rdFlag l e).2.2 ≤ 1000 := by
  obtain ⟨v, n, e1, hu⟩ : ∃ v n e1, unchain l = (v, n, e1) := ⟨_, _, _, rfl⟩
  obtain ⟨hv, hb⟩ := unchain_bd hu
  by_cases h : e = 0
  · subst h
    rcases hb with ⟨h0, h1, _, _⟩ | ⟨h0, h1, h2⟩
    · subst h0
      by_cases hl : 1 < v
      · rw [rdFlag_long l v n hu hl]
        exact ⟨by simp, by simp⟩
      · rw [rdFlag_ok l v n hu hl]
        exact ⟨by simp, by simp⟩
    · rw [rdFlag_bad l v n e1 hu (by omega)]
      exact ⟨by simp, by simp only; omega⟩
  · rw [rdFlag_err l e h]
    exact ⟨by simp, he⟩
theorem rdg_flag (l : List UInt8) (e : Nat) (he : e ≤ 1000) : Rdg encFlag (fun _ => True) l e (rdFlag l e).1 (rdFlag l e).2.1 (rdFlag l e).2.2 := by
  obtain ⟨b2, b3⟩ := rdgFlag_bd l e he
  refine ⟨fun h0 => ?_, fun w r h0 hw hl => ?_, b2, b3⟩
  · obtain ⟨x1, x2⟩ := rdFlag_back h0
    exact ⟨x1, trivial, x2⟩
  · subst h0 hl
    rw [show rdFlag (encFlag w ++ r) 0 = (w, r, 0) from rdFlag_chain w r]
    exact ⟨rfl, rfl, rfl⟩
/-- The first ones of so many elements. -/
structure RdgL {α : Type} (enc : α → List UInt8) (good : α → Prop) (n : Nat) (l : List UInt8) (e : Nat) (i : Nat) (vs : List α) (l' : List UInt8) (e' : Nat) : Prop where
  num : vs.length = i
  back : e' = 0 → e = 0 ∧ (∀ v ∈ vs, good v) ∧ l = vs.flatMap enc ++ l'
  forth : ∀ (ws : List α) (r : List UInt8), e = 0 → ws.length = n → (∀ w ∈ ws, good w) → l = ws.flatMap enc ++ r → e' = 0 ∧ vs = ws.take i ∧ l' = (ws.drop i).flatMap enc ++ r
  len : l'.length ≤ l.length
  err : e' ≤ 1000
theorem RdgL.zero {α : Type} {enc : α → List UInt8} {good : α → Prop} {n : Nat} {l : List UInt8} {e : Nat} (he : e ≤ 1000) : RdgL enc good n l e 0 [] l e :=
  ⟨rfl, fun h => ⟨h, by simp, by simp⟩, fun ws r h0 _ _ hl => ⟨h0, by simp, by simpa using hl⟩, Nat.le_refl _, he⟩
theorem RdgL.next {α : Type} {enc : α → List UInt8} {good : α → Prop} {n i : Nat} {l l1 l2 : List UInt8} {e e1 e2 : Nat} {vs : List α} {v : α} (h : RdgL enc good n l e i vs l1 e1) (h1 : Rdg enc good l1 e1 v l2 e2) (hi : i < n) : RdgL enc good n l e (i + 1) (vs ++ [v]) l2 e2 := by
  refine ⟨by simp [h.num], fun h0 => ?_, fun ws r h0 hn hg hl => ?_, Nat.le_trans h1.len h.len, h1.err⟩
  · obtain ⟨x1, x2, x3⟩ := h1.back h0
    obtain ⟨y1, y2, y3⟩ := h.back x1
    refine ⟨y1, fun u hu => ?_, by rw [y3, x3]; simp⟩
    rcases List.mem_append.1 hu with hu | hu
    · exact y2 u hu
    · rw [List.mem_singleton.1 hu]; exact x2
  · obtain ⟨x1, x2, x3⟩ := h.forth ws r h0 hn hg hl
    have hd : ws.drop i = ws[i]'(by omega) :: ws.drop (i + 1) := List.drop_eq_getElem_cons (by omega)
    rw [hd, List.flatMap_cons, List.append_assoc] at x3
    obtain ⟨y1, y2, y3⟩ := h1.forth _ _ x1 (hg _ (List.getElem_mem (by omega))) x3
    refine ⟨y1, ?_, y3⟩
    rw [x2, y2, List.take_succ_eq_append_getElem (by omega)]
theorem RdgL.done {α : Type} {enc : α → List UInt8} {good : α → Prop} {n : Nat} {l l1 : List UInt8} {e e1 : Nat} {vs : List α} (h : RdgL enc good n l e n vs l1 e1) : Rdg (fun vs => vs.flatMap enc) (fun vs => vs.length = n ∧ ∀ v ∈ vs, good v) l e vs l1 e1 := by
  refine ⟨fun h0 => ?_, fun ws r h0 hw hl => ?_, h.len, h.err⟩
  · obtain ⟨x1, x2, x3⟩ := h.back h0
    exact ⟨x1, ⟨h.num, x2⟩, x3⟩
  · obtain ⟨x1, x2, x3⟩ := h.forth ws r h0 hw.1 hw.2 hl
    exact ⟨x1, by rw [x2, List.take_of_length_le (by omega)], by rw [x3, List.drop_eq_nil_of_le (by omega)]; rfl⟩
theorem RdgL.bad {α : Type} {enc : α → List UInt8} {good : α → Prop} {n i : Nat} {l l1 : List UInt8} {e e1 : Nat} {vs us : List α} (h : RdgL enc good n l e i vs l1 e1) (he : e1 ≠ 0) : Rdg (fun vs => vs.flatMap enc) (fun vs => vs.length = n ∧ ∀ v ∈ vs, good v) l e us l1 e1 :=
  ⟨fun h0 => absurd h0 he, fun w r h0 h2 h3 => absurd (h.forth w r h0 h2.1 h2.2 h3).1 he, h.len, h.err⟩
theorem RdgL.stuck {α : Type} {enc : α → List UInt8} {good : α → Prop} {n i : Nat} {l l1 : List UInt8} {e e1 : Nat} {vs : List α} (h : RdgL enc good n l e i vs l1 e1) (hi : i < n) (hno : ∀ w r, e1 = 0 → good w → l1 ≠ enc w ++ r) :
    ∀ (ws : List α) (r : List UInt8), e = 0 → ws.length = n → (∀ w ∈ ws, good w) → l ≠ ws.flatMap enc ++ r := by
  intro ws r h0 hn hg hl
  obtain ⟨x1, x2, x3⟩ := h.forth ws r h0 hn hg hl
  have hd : ws.drop i = ws[i]'(by omega) :: ws.drop (i + 1) := List.drop_eq_getElem_cons (by omega)
  rw [hd, List.flatMap_cons, List.append_assoc] at x3
  exact hno _ _ x1 (hg _ (List.getElem_mem (by omega))) x3
/-- A list with its length ahead. -/
def encList {α : Type} (enc : α → List UInt8) (vs : List α) : List UInt8 := chainI (vs.length : Int) ++ vs.flatMap enc
theorem rdg_list {α : Type} {enc : α → List UInt8} {good : α → Prop} {most : Int} {l l1 l2 : List UInt8} {e e1 e2 n : Nat} {vs : List α} (h0 : Rdg encNum (goodInt most) l e n l1 e1)
    (h : Rdg (fun vs => vs.flatMap enc) (fun vs => vs.length = n ∧ ∀ v ∈ vs, good v) l1 e1 vs l2 e2) : Rdg (encList enc) (fun vs => (vs.length : Int) ≤ most ∧ ∀ v ∈ vs, good v) l e vs l2 e2 := by
  refine ⟨fun hz => ?_, fun ws r hz hw hl => ?_, Nat.le_trans h.len h0.len, h.err⟩
  · obtain ⟨x1, ⟨x2, x3⟩, x4⟩ := h.back hz
    obtain ⟨y1, y2, y3⟩ := h0.back x1
    refine ⟨y1, ⟨by rw [x2]; exact y2, x3⟩, ?_⟩
    rw [y3, x4, ← x2]
    simp [encList, encNum]
  · have hl' : l = encNum ws.length ++ (ws.flatMap enc ++ r) := by rw [hl]; simp [encList, encNum]
    obtain ⟨x1, x2, x3⟩ := h0.forth _ _ hz hw.1 hl'
    subst x2
    exact h.forth ws r x1 ⟨rfl, hw.2⟩ x3
/-- All of the bytes. -/
structure Whole {α : Type} (enc : α → List UInt8) (good : α → Prop) (l : List UInt8) (v : α) (ok : Prop) : Prop where
  back : ok → good v ∧ enc v = l
  forth : ∀ w, good w → enc w = l → ok ∧ v = w
theorem whole_no {α : Type} {enc : α → List UInt8} {good : α → Prop} {l : List UInt8} {v : α} {ok : Prop} (h : ∀ w, good w → enc w ≠ l) (hn : ¬ ok) : Whole enc good l v ok :=
  ⟨fun x => absurd x hn, fun w hw hl => absurd hl (h w hw)⟩
theorem list_no {α : Type} {enc : α → List UInt8} {good : α → Prop} {most : Int} {l l1 : List UInt8} {e1 n : Nat} (h0 : Rdg encNum (goodInt most) l 0 n l1 e1) (h : ∀ (ws : List α) (r : List UInt8), e1 = 0 → ws.length = n → (∀ w ∈ ws, good w) → l1 ≠ ws.flatMap enc ++ r) :
    ∀ ws : List α, ((ws.length : Int) ≤ most ∧ ∀ w ∈ ws, good w) → encList enc ws ≠ l := by
  intro ws hw hl
  have hl' : l = encNum ws.length ++ (ws.flatMap enc ++ []) := by rw [← hl]; simp [encList, encNum]
  obtain ⟨x1, x2, x3⟩ := h0.forth _ _ rfl hw.1 hl'
  exact h ws [] x1 x2.symm hw.2 x3
theorem Rdg.whole {α : Type} {enc : α → List UInt8} {good : α → Prop} {l l' : List UInt8} {e' : Nat} {v : α} (h : Rdg enc good l 0 v l' e') : Whole enc good l v (rdEnd l' e' = 0) := by
  refine ⟨fun h0 => ?_, fun w hw hl => ?_⟩
  · obtain ⟨x1, x2⟩ := rdEnd_back h0
    obtain ⟨y1, y2, y3⟩ := h.back x1
    exact ⟨y2, by rw [y3, x2, List.append_nil]⟩
  · obtain ⟨x1, x2, x3⟩ := h.forth w [] rfl hw (by rw [hl, List.append_nil])
    subst x1 x3
    exact ⟨rfl, x2⟩

end
end Go.Proofs.Ytkekkalgebgokaa

/- A range over a function: the loop's record, its rounds, the mark that it leaves. No program in sight. -/
set_option linter.unusedSimpArgs false
set_option linter.unusedVariables false
namespace Go.Proofs.Ytkekkalgebgokaa
open Go Go.RowKit

theorem Mem.putObj {w0 w : World} {A l1 l2 : List (Option Nat × Obj)} {S : List Nat} {r : Nat} {o : Obj} (h : Mem w0 A S (l1 ++ (some r, o) :: l2) w) (o' : Obj) : Mem w0 A S (l1 ++ (some r, o') :: l2) (w.putObj r o') :=
  h.put rfl rfl rfl rfl (by simp) (World.putObj_heap_same (h.has.lt (List.mem_append_right A (by simp : (some r, o) ∈ l1 ++ (some r, o) :: l2)))) (fun k hk => World.putObj_heap_other hk)

/-- A ROUND's CONTRACT: begun where these blocks lie, it hands a value back to whoever called yield. -/
def Rd (P : Program) (l : Nat) (f : FuncId) (tmps : Array Value) (assign body : Code) (A L : List (Option Nat × Obj)) (R : Value → List (Option Nat × Obj) → Prop) : Prop :=
  ∀ w0, Has w0 A L → ∀ (cl : Frame) cs, ∃ v post w', R v post ∧ Mem w0 [] (hkeys L) post w' ∧ Steps P (lone (Frame.round l f tmps assign body .normal) (cl :: cs) w0) (lone (cl.finish v) cs w')

def GoesR (c : Cx) (l : Nat) (todo : List Item) (a : Act) (w : World) : Prop :=
  ∀ (b : Frame), b.fn = c.f → b.kind = .normal → b.roundOf = some l → ∀ (cl : Frame) cs, ∃ v post w', c.R v post ∧ Mem c.w0 [] c.S post w' ∧ Steps c.P (lone (b.atR a todo) (cl :: cs) w) (lone (cl.finish v) cs w')
def GR (c : Cx) (l n : Nat) (env : List (Nat × Value)) (L : List (Option Nat × Obj)) (todo : List Item) : Prop :=
  ∀ a w, Knows c.ds n env a → Mem c.w0 c.A c.S L w → GoesR c l todo a w

section
variable {c : Cx} {l n : Nat} {env : List (Nat × Value)} {L : List (Option Nat × Obj)} {k : List Item}
theorem goesR_of {todo todo' : List Item} {a a' : Act} {w w' : World} (hs : ∀ (b : Frame) cs, step c.P (lone (b.atR a todo) cs w) = .next (lone (b.atR a' todo') cs w')) (h : GoesR c l todo' a' w') : GoesR c l todo a w :=
  fun b hb hk hr cl cs => let ⟨v, p, w2, hR, hm, hst⟩ := h b hb hk hr cl cs; ⟨v, p, w2, hR, hm, .head (hs b (cl :: cs)) hst⟩
theorem GR_skip (h : GR c l n env L k) : GR c l n env L (.code .skip :: k) := fun a w hk hm => goesR_of (fun _ _ => stepR_skip) (h a w hk hm)
theorem GR_label {t : Nat} (h : GR c l n env L k) : GR c l n env L (.code (.label t) :: k) := fun a w hk hm => goesR_of (fun _ _ => stepR_label) (h a w hk hm)
theorem GR_inBlock {id : Nat} (h : GR c l n env L k) : GR c l n env L (.inBlock id :: k) := fun a w hk hm => goesR_of (fun _ _ => stepR_inBlock) (h a w hk hm)
theorem GR_seq {x y : Code} (h : GR c l n env L (.code x :: .code y :: k)) : GR c l n env L (.code (.seq x y) :: k) := fun a w hk hm => goesR_of (fun _ _ => stepR_seq) (h a w hk hm)
theorem GR_block {id : Nat} {x : Code} (h : GR c l n env L (.code x :: .inBlock id :: k)) : GR c l n env L (.code (.block id x) :: k) := fun a w hk hm => goesR_of (fun _ _ => stepR_block) (h a w hk hm)
theorem GR_exit {id : Nat} {k' : List Item} (he : exitTo id k = some k') (h : GR c l n env L k') : GR c l n env L (.code (.exit id) :: k) := fun a w hk hm => goesR_of (fun _ _ => stepR_exit he) (h a w hk hm)
theorem GR_region {id : Nat} {ops : Array Oper} {r : List Nat} (hl : List.range ops.size = r) (h : GR c l n env L (.inRegion ops r :: k)) : GR c l n env L (.code (.region id ops false) :: k) :=
  fun a w hk hm => goesR_of (fun _ _ => stepR_region) (by rw [hl]; exact h a w hk hm)
theorem GR_done {ops : Array Oper} (h : GR c l n env L k) : GR c l n env L (.inRegion ops [] :: k) := fun a w hk hm => goesR_of (fun _ _ => stepR_region_end) (h a w hk hm)
theorem GR_begin {r : Loop} {l1 l2 L' : List (Option Nat × Obj)} (hL : L = l1 ++ (some l, .loop r) :: l2) (hr : r.state = .ready) (hL' : l1 ++ (some l, .loop { r with state := .busy }) :: l2 = L') (h : GR c l n env L' k) : GR c l n env L (.beginRound :: k) := by
  intro a w hk hm b hb hkind hro cl cs
  subst hL hL'
  have hl : w.heap[l]? = some (.loop r) := hm.lies (by simp)
  obtain ⟨v, p, w2, hR, hm2, hst⟩ := h a _ hk (hm.putObj (.loop { r with state := .busy })) b hb hkind hro cl cs
  exact ⟨v, p, w2, hR, hm2, .head (stepR_beginRound hro (run_beginRound hl hr)) hst⟩
/-- A round that falls off its end. -/
theorem GR_end {r : Loop} {l1 l2 L' post M : List (Option Nat × Obj)} (hL : L = l1 ++ (some l, .loop r) :: l2) (hL' : l1 ++ (some l, .loop { r with state := .ready, pending := none }) :: l2 = L') (is : List Nat) (ht : tk is L' = some (post, M)) (hR : c.R (.bool true) post) : GR c l n env L [] := by
  intro a w hk hm b hb hkind hro cl cs
  subst hL hL'
  have hl : w.heap[l]? = some (.loop r) := hm.lies (by simp)
  have h1 := hm.putObj (.loop { r with state := .ready, pending := none })
  exact ⟨.bool true, post, _, hR, (h1.sub (tk_perm ht)).dropA, .one (stepR_round_end hro hkind (run_endRound none hl))⟩

theorem goesR_op {ops : Array Oper} {i : Nat} {rest : List Nat} {o : Oper} {a : Act} {w : World} (ho : ops[i]? = some o) (hnd : ∀ x, o.op ≠ .defer x) (hw : Region.wanted o (yielded ops a.tmps) = true)
    (h : o.upon c.P a (fun a' w' => GoesR c l (.inRegion ops rest :: k) a' w') (fun _ _ _ => False) ((execOp a.eval o).run c.P w)) : GoesR c l (.inRegion ops (i :: rest) :: k) a w := by
  intro b hb hkind hro cl cs
  have hg := stepGR_op (P := c.P) (b := b) (k := k) (cs := cl :: cs) (w := w) (rest := rest) ho hw
  rw [Oper.semAt_eq _ _ _ hnd] at hg
  have hfin : ∀ v, (b.atR a (.inRegion ops (i :: rest) :: k)).finish v = b.atR (a.put o.dst v) (.inRegion ops rest :: k) := by
    intro v; rw [Frame.finish_atR, ho]; rfl
  unfold Oper.upon at h
  split at h
  · rename_i v w' hr
    obtain ⟨v', p, w2, hR, hm, hst⟩ := h b hb hkind hro cl cs
    refine ⟨v', p, w2, hR, hm, .head (step_lone_go ?_) hst⟩
    rw [hg, ← hfin]; simp [stepG.apply, hr]
  · rename_i w' hr
    obtain ⟨v', p, w2, hR, hm, hst⟩ := h b hb hkind hro cl cs
    refine ⟨v', p, w2, hR, hm, .head (step_lone_go ?_) hst⟩
    rw [hg, ← hfin]; simp [stepG.apply, hr]
  · rename_i d w' hr
    obtain ⟨v', p, w2, hR, hm, hst⟩ := h b hb hkind hro cl cs
    refine ⟨v', p, w2, hR, hm, .head (step_lone_go ?_) hst⟩
    have : ({ b.atR a (.inRegion ops (i :: rest) :: k) with defers := d :: a.defers } : Frame).finish undef =
        b.atR ({ a with defers := d :: a.defers }.put o.dst undef) (.inRegion ops rest :: k) := by
      have := Frame.finish_atR b { a with defers := d :: a.defers } ops i rest k undef
      rw [ho] at this; exact this
    rw [hg]; simp only [stepG.apply, Sem.runT_eq, hr, GStep.bare_after]
    exact congrArg (fun fr => GStep.go { frame := fr, callers := cl :: cs, status := .running, dying := none } w') this
  · rename_i f args w' hr
    obtain ⟨e, w'', fr, hR, hsteps, _, hleave⟩ := h (b.atR a (.inRegion ops (i :: rest) :: k) :: cl :: cs)
    have henter : step c.P (lone (b.atR a (.inRegion ops (i :: rest) :: k)) (cl :: cs) w) =
        .next (lone (Frame.enter c.P f args .normal) (b.atR a (.inRegion ops (i :: rest) :: k) :: cl :: cs) w') :=
      step_lone_go (by rw [hg]; simp [stepG.apply, hr, Frame.atR])
    cases e with
    | returned v =>
      obtain ⟨v', p, w2, hR', hm, hst⟩ := hR b hb hkind hro cl cs
      refine ⟨v', p, w2, hR', hm, .head henter (hsteps.trans (.head ?_ hst))⟩
      rw [← hfin]; exact step_leave_returned hleave
    | panicked chain => exact hR.elim
    | outgrown => obtain ⟨_, _, hR⟩ := hR; exact hR.elim
  · rename_i row args w' hr
    obtain ⟨v, w'', hR, hsteps⟩ := h (b.atR a (.inRegion ops (i :: rest) :: k)) (cl :: cs)
    have henter : step c.P (lone (b.atR a (.inRegion ops (i :: rest) :: k)) (cl :: cs) w) =
        .next (lone (Frame.ofRow c.P row args .normal) (b.atR a (.inRegion ops (i :: rest) :: k) :: cl :: cs) w') :=
      step_lone_go (by rw [hg]; simp [stepG.apply, hr, Frame.atR])
    obtain ⟨v', p, w2, hR', hm, hst⟩ := hR b hb hkind hro cl cs
    refine ⟨v', p, w2, hR', hm, .head henter (hsteps.trans ?_)⟩
    rw [hfin]; exact hst
  · exact h.elim
  · exact h.elim
theorem GR_val {ops : Array Oper} {i : Nat} {rest : List Nat} {o : Oper} {d : Nat} {v : Value} (ho : ops[i]? = some o) (hd : o.dst = some d) (hn : Nat.blt d n = true) (hg : fguard ops env o = some true) (hnd : ∀ x, o.op ≠ .defer x)
    (hv : Val c n env L o v) (h : GR c l n ((d, v) :: env) L (.inRegion ops rest :: k)) : GR c l n env L (.inRegion ops (i :: rest) :: k) := by
  intro a w hk hm
  refine goesR_op ho hnd (wanted_of hk hg) ?_
  rw [hv a w hk hm, Oper.upon_value, hd]
  exact h _ w (hk.put hn v) hm
theorem GR_new {ops : Array Oper} {i : Nat} {rest : List Nat} {o : Oper} {d : Nat} {mk : Nat → Value} {ob : Obj} (ho : ops[i]? = some o) (hd : o.dst = some d) (hn : Nat.blt d n = true) (hg : fguard ops env o = some true) (hnd : ∀ x, o.op ≠ .defer x)
    (hv : New c n env L o mk ob) (h : ∀ b, GR c l n ((d, mk b) :: env) ((some b, ob) :: L) (.inRegion ops rest :: k)) : GR c l n env L (.inRegion ops (i :: rest) :: k) := by
  intro a w hk hm
  refine goesR_op ho hnd (wanted_of hk hg) ?_
  rw [hv a w hk hm, Oper.upon_value, hd]
  exact h w.heap.size _ _ (hk.put hn _) (hm.alloc ob)
theorem GR_put {ops : Array Oper} {i : Nat} {rest : List Nat} {o : Oper} {b : Nat} {old ob : Obj} {l1 l2 L' : List (Option Nat × Obj)} (ho : ops[i]? = some o) (hd : o.dst = none) (hg : fguard ops env o = some true) (hnd : ∀ x, o.op ≠ .defer x)
    (hL : L = l1 ++ (some b, old) :: l2) (hv : Put c n env L o b ob) (hL' : l1 ++ (some b, ob) :: l2 = L') (h : GR c l n env L' (.inRegion ops rest :: k)) : GR c l n env L (.inRegion ops (i :: rest) :: k) := by
  intro a w hk hm
  obtain ⟨w', hr, h1, h2, h3, h4, h5, h6⟩ := hv a w hk hm
  refine goesR_op ho hnd (wanted_of hk hg) ?_
  rw [hr, Oper.upon_skip, hd]
  subst hL'
  exact h _ w' (hk.putNone undef) (hm.put hL h1 h2 h3 h4 h5 h6)
theorem GR_append {ops : Array Oper} {i : Nat} {rest : List Nat} {o : Oper} {d m nn sz bt : Nat} {x y : Operand} {t u e ty : TypeId} {ds : TypeDesc} {ps : String} {es : Array Edge} {gd : Option (Nat × Bool)} {ti : TypeInfo} {z xv : Value} {s : Sl} {xs news : List Value} {l1 l2 : List (Option Nat × Obj)}
    (ho : ops[i]? = some o) (hop : o = ⟨some d, .call ⟨.builtin .append, #[x, y], #[t, u]⟩, ty, ps, es, gd⟩) (hn : Nat.blt d n = true) (hg : fguard ops env o = some true)
    (ht : c.P.underlying t = some (.slice e)) (hu : c.P.underlying u = some ds) (hds : ds = .string ∨ ∃ e', ds = .slice e') (hi : c.P.info? e = some ti) (hz : ti.zero = some z) (hsz : ti.size = sz) (hzs : z.cells.size = sz) (hbt : ti.bytes = bt)
    (hx : fev env x = some (s.v nn)) (hy : fev env y = some xv) (hown : Own sz s xs nn) (hL : L = l1 ++ (s.ob, .cells s.cs e s.fz) :: l2) (hS : ∀ w, Has w c.A L → Src c.P w sz xv m news)
    (h63 : nn + m ≤ 9223372036854775807) (hbytes : (nn + m) * bt ≤ 140737488355328)
    (h : ∀ s' : Sl, Own sz s' (xs ++ news) (nn + m) → More s s' → GR c l n ((d, s'.v (nn + m)) :: env) (l1 ++ (s'.ob, .cells s'.cs e s'.fz) :: l2) (.inRegion ops rest :: k)) : GR c l n env L (.inRegion ops (i :: rest) :: k) := by
  intro a w hk hm
  subst hop
  refine goesR_op ho (fun _ h => by cases h) (wanted_of hk hg) ?_
  obtain ⟨s', w', hr, h1, h2, h3, h4, h5⟩ := run_append_any (P := c.P) w t u ty e ds ti z sz ht hu hds hi hz hsz hzs s xs nn hown (fun b hb => hm.lies (by rw [hL, ← hb]; simp)) xv m news (hS w hm.has) h63 (by rw [hbt]; exact hbytes)
  have hrun : (execOp a.eval ⟨some d, .call ⟨.builtin .append, #[x, y], #[t, u]⟩, ty, ps, es, gd⟩).run c.P w = .ok (.value (s'.v (nn + m))) w' := by
    unfold execOp
    simp only [resolve, invoke, builtin, Sem.run_bind, Sem.run_pure, Result.andThen_ok, List.map_toArray, List.map_cons, List.map_nil, hk.eval hx, hk.eval hy, hr]
  rw [hrun, Oper.upon_value]
  subst hL
  exact h s' h1 h5 _ w' (hk.put hn _) (hm.grown h2 h3 h4)
theorem zip_one (t : Tmp) (v : Value) (T : Array Value) : ((#[t] : Array Tmp).zip #[v]).foldl (fun tmps (t, a) => tmps.setIfInBounds t a) T = T.setIfInBounds t v := by simp
/-- A round's contract, out of its walk. -/
theorem rd_of {P : Program} {f : FuncId} {tmps : Array Value} {assign body : Code} {A L : List (Option Nat × Obj)} {R : Value → List (Option Nat × Obj) → Prop} (hk : Knows [] n env ⟨tmps, []⟩)
    (h : ∀ w0, GR ⟨P, f, w0, A, hkeys L, R, []⟩ l n env L [.code assign, .beginRound, .code body]) : Rd P l f tmps assign body A L R := by
  intro w0 hw cl cs
  let b : Frame := { (default : Frame) with fn := f, kind := .normal, roundOf := some l }
  have hb0 : Frame.round l f tmps assign body .normal = b.atR { tmps := tmps, defers := [] } [.code assign, .beginRound, .code body] := by
    simp [Frame.round, Frame.atR, b]
  obtain ⟨v, post, w', hR, hm, hst⟩ := h w0 ⟨tmps, []⟩ w0 hk ⟨hw, fun b o hm => .inl (mem_hkeys.2 ⟨o, hm⟩), Chg.refl _ _⟩ b rfl rfl rfl cl cs
  rw [hb0]
  exact ⟨v, post, w', hR, hm, hst⟩

/-- A call of yield. -/
theorem G_yield {ops : Array Oper} {i : Nat} {rest : List Nat} {o : Oper} {d : Nat} {x : Operand} {xs : Array Operand} {ts : Array TypeId} {args : List Value} {r : Loop} {A' L' L2 : List (Option Nat × Obj)} {R' : Value → List (Option Nat × Obj) → Prop}
    (ho : ops[i]? = some o) (hd : o.dst = some d) (hn : Nat.blt d n = true) (hg : fguard ops env o = some true) (hop : o.op = .call ⟨.value x, xs, ts⟩) (hxs : fevs env xs.toList = some args)
    (hfn : fev env x = some (.func (.yield l) #[] #[])) (hl : (some l, .loop r) ∈ c.A ++ L) (hps : args.toArray.size = r.params.size)
    (hrd : Rd c.P l r.fn ((r.params.zip args.toArray).foldl (fun tmps (t, a) => tmps.setIfInBounds t a) r.tmps) r.assign r.body A' L' R') (is js : List Nat) (hL : tk is L = some (L', L2)) (hA : pk js (c.A ++ L2) = some A')
    (K : ∀ v post, R' v post → G c n ((d, v) :: env) (post ++ L2) (.inRegion ops rest :: k)) : G c n env L (.inRegion ops (i :: rest) :: k) := by
  intro a w hk hm b hb hkind cs
  have hgs := stepG_op (P := c.P) (b := b) (k := k) (cs := cs) (w := w) (rest := rest) ho (wanted_of hk hg)
  have hfin : ∀ v, (b.at a (.inRegion ops (i :: rest) :: k)).finish v = b.at (a.put o.dst v) (.inRegion ops rest :: k) := by
    intro v; rw [Frame.finish_at, ho]; rfl
  have hx : xs.map a.eval = args.toArray := by
    apply Array.toList_inj.1
    simpa using hk.evals hxs
  have hy := run_yield (P := c.P) (hm.has.both hl) hps
  have hr : (execOp a.eval o).run c.P w = .ok (.round l r.fn ((r.params.zip args.toArray).foldl (fun tmps (t, a) => tmps.setIfInBounds t a) r.tmps) r.assign r.body) w := by
    unfold execOp
    have hf := hk.eval hfn
    simp [hop, resolve, hf, Deferred.ofValue, hx, invoke, hy]
  obtain ⟨v, post, w', hR, hp, hst⟩ := hrd w (hm.has_call hL hA) (b.at a (.inRegion ops (i :: rest) :: k)) cs
  have hstep : step c.P (lone (b.at a (.inRegion ops (i :: rest) :: k)) cs w) = .next (lone (Frame.round l r.fn ((r.params.zip args.toArray).foldl (fun tmps (t, a) => tmps.setIfInBounds t a) r.tmps) r.assign r.body .normal) (b.at a (.inRegion ops (i :: rest) :: k) :: cs) w) :=
    step_lone_go (by rw [hgs]; simp [stepG.apply, hr, Frame.at])
  rw [hfin, hd] at hst
  obtain ⟨v', p, w2, fr, hR', hm', hst', e⟩ := K v post hR _ w' (hk.put hn v) (hm.call hL hA hp) b hb hkind cs
  exact ⟨v', p, w2, fr, hR', hm', .head hstep (hst.trans hst'), e⟩

theorem Mem.callP {w0 w w' : World} {A L L' L2 post : List (Option Nat × Obj)} {S : List Nat} (h : Mem w0 A S L w) (p1 : L.Perm (L' ++ L2))
    (hp : Mem w [] (hkeys L') post w') : Mem w0 A S (post ++ L2) w' := by
  have h' : Mem w0 A S (L' ++ L2) w := ⟨h.has.perm p1, fun b o hm => h.own b o (p1.mem_iff.2 hm), h.chg⟩
  have ht : tk (List.replicate L'.length 0) (L' ++ L2) = some (L', L2) := by
    clear h h' p1 hp
    induction L' with
    | nil => rfl
    | cons x L' ih => simp [List.replicate_succ, tk, ih]
  exact h'.call ht (js := []) (A' := []) rfl hp
theorem Mem.has_callP {w0 w : World} {A L A' L' L2 : List (Option Nat × Obj)} {S : List Nat} (h : Mem w0 A S L w) (p1 : L.Perm (L' ++ L2)) (hmem : ∀ x ∈ A', x ∈ A ++ L2) : Has w A' L' := by
  have hb : Has w A (L' ++ L2) := h.has.perm p1
  have pw2 := List.pairwise_append.1 hb.apart
  refine ⟨fun b o hm => ?_, pw2.1, fun b o hm => hb.lies b o (List.mem_append_left _ hm), fun x hx y hy => ?_⟩
  · rcases List.mem_append.1 (hmem _ hm) with hm | hm
    · exact hb.liesA b o hm
    · exact hb.lies b o (List.mem_append_right _ hm)
  · rcases List.mem_append.1 (hmem _ hx) with hx | hx
    · exact hb.cross x hx y (List.mem_append_left _ hy)
    · exact (pw2.2.2 y hy x hx).symm

/-- The record of a loop that begins. -/
def loop0 (f : FuncId) (T : Array Value) (ps : Array Tmp) (assign body : Code) (D : Nat) : Loop := { state := .ready, pending := none, fn := f, tmps := T, params := ps, assign, body, defers := D }
def markD (D : Nat) : List Deferred := [{ target := .collected D, args := #[] }]
def Cx.marked (c : Cx) (D : Nat) : Cx := { c with ds := markD D }
/-- THE STATEMENT: the iterator's contract, at this loop's record; behind it the frame bears the mark. -/
theorem G_rangeFunc {g : Operand} {ps : Array Tmp} {assign body : Code} {gf : FuncId} {vs : List Value} {A' L' L2 : List (Option Nat × Obj)} {R' : Nat → Nat → Array Value → Value → List (Option Nat × Obj) → Prop}
    (hds : c.ds = []) (hfn : fev env g = some (.func (.func gf) #[] vs.toArray)) (hcf : ∀ (az : Array Value) w, (callFunc gf az).run c.P w = .ok (.enter gf az) w)
    (hct : ∀ l D T, Knows [] n env ⟨T, []⟩ → Ct c.P gf (.func (.yield l) #[] #[] :: vs) A' ((some l, .loop (loop0 c.f T ps assign body D)) :: L') (R' l D T)) (is js : List Nat) (hL : tk is L = some (L', L2)) (hA : pk js (c.A ++ L2) = some A')
    (K : ∀ l D T v post, R' l D T v post → ∃ r post', post = (some l, .loop r) :: post' ∧ r.state ≠ .busy ∧ r.pending = none ∧ G (c.marked D) n env ((some D, .deferred (some [])) :: (post' ++ L2)) k) : G c n env L (.code (.rangeFunc g ps assign body) :: k) := by
  intro a w hk hm b hb hkind cs
  have hdf : a.defers = [] := hk.defers.trans hds
  let b' : Frame := { b with roundOf := none }
  have hat : ∀ (a : Act) todo, b'.atR a todo = b.at a todo := fun _ _ => rfl
  have he := run_enterLoop_outer (P := c.P) (w := w) b'.fn a.tmps ps assign body
  have hev := hk.eval hfn
  let W1 := (w.alloc (.deferred (some []))).alloc (.loop { state := .ready, pending := none, fn := b'.fn, tmps := a.tmps, params := ps, assign, body, defers := w.heap.size })
  have hres : (resolve a.eval (rangeCall g (w.heap.size + 1)) 0).run c.P W1 = .ok { target := .fn (.func gf) vs.toArray, args := #[.func (.yield (w.heap.size + 1)) #[] #[]] } W1 := by
    simp only [resolve, hev]
    simp [go_sem]
  have hinv : (invoke (Target.fn (.func gf) vs.toArray) #[.func (.yield (w.heap.size + 1)) #[] #[]]).run c.P W1 = .ok (.enter gf (Value.func (.yield (w.heap.size + 1)) #[] #[] :: vs).toArray) W1 := by
    simp [invoke, go_sem, hcf]
  have s1 := stepR_rangeFunc (P := c.P) (b := b') (a := a) (k := k) (cs := cs) (w := w) he hres hinv
  have m0 := hm.alloc (.deferred (some []))
  have m1 := m0.alloc (.loop (loop0 c.f a.tmps ps assign body w.heap.size))
  have hfb : b'.fn = c.f := hb
  have hW1 : (w.alloc (.deferred (some []))).alloc (.loop (loop0 c.f a.tmps ps assign body w.heap.size)) = W1 := by show _ = (w.alloc _).alloc (.loop { state := .ready, pending := none, fn := b'.fn, tmps := a.tmps, params := ps, assign, body, defers := w.heap.size }); rw [hfb]; rfl
  rw [hW1, show (w.alloc (.deferred (some []))).heap.size = w.heap.size + 1 by simp] at m1
  have p1 := tk_perm hL
  have p2 : ((some (w.heap.size + 1), Obj.loop (loop0 c.f a.tmps ps assign body w.heap.size)) :: (some w.heap.size, Obj.deferred (some [])) :: L).Perm (((some (w.heap.size + 1), Obj.loop (loop0 c.f a.tmps ps assign body w.heap.size)) :: L') ++ ((some w.heap.size, Obj.deferred (some [])) :: L2)) := by
    rw [List.cons_append]
    refine List.Perm.cons _ ?_
    exact (List.Perm.cons _ p1).trans List.perm_middle.symm
  have hkT : Knows [] n env ⟨a.tmps, []⟩ := ⟨hk.size, rfl, hk.get⟩
  obtain ⟨e, w3, fr, ⟨v, post, rfl, hR, hp⟩, hsteps, hfn', hleave⟩ := hct (w.heap.size + 1) w.heap.size a.tmps hkT W1 (m1.has_callP p2 (fun x hx => by
    rcases List.mem_append.1 (pk_mem hA x hx) with h | h
    · exact List.mem_append_left _ h
    · exact List.mem_append_right _ (List.mem_cons_of_mem _ h))) (b'.atR { a with defers := [{ target := .collected w.heap.size, args := #[] }] ++ a.defers } (.inRangeFunc (w.heap.size + 1) :: k) :: cs)
  have m3 := m1.callP p2 hp
  obtain ⟨r, post', rfl, hbusy, hpend, hG⟩ := K _ _ _ v post hR
  have hl : w3.heap[w.heap.size + 1]? = some (.loop r) := m3.lies (by simp)
  have m4 : Mem c.w0 c.A c.S ([] ++ (some (w.heap.size + 1), Obj.loop { r with state := .exhausted }) :: (post' ++ ((some w.heap.size, Obj.deferred (some [])) :: L2))) (w3.putObj (w.heap.size + 1) (.loop { r with state := .exhausted })) := Mem.putObj (l1 := []) (o := .loop r) m3 _
  have m5 : Mem c.w0 c.A c.S ((some w.heap.size, Obj.deferred (some [])) :: (post' ++ L2)) (w3.putObj (w.heap.size + 1) (.loop { r with state := .exhausted })) := m4.sub (R := [(some (w.heap.size + 1), Obj.loop { r with state := .exhausted })]) (by
    rw [List.nil_append]
    exact (List.Perm.cons _ List.perm_middle).trans (List.perm_append_singleton _ _).symm)
  have hend : (Instr.endLoop (w.heap.size + 1)).run c.P w3 = .ok none (w3.putObj (w.heap.size + 1) (.loop { r with state := .exhausted })) := (run_endLoop (P := c.P) hl hbusy).trans (by rw [hpend])
  obtain ⟨v', p, w2, fr2, hR2, hm2, hst2, e2⟩ := hG { a with defers := [{ target := .collected w.heap.size, args := #[] }] ++ a.defers } _ ⟨hk.size, by rw [hdf]; rfl, hk.get⟩ m5 b hb hkind cs
  refine ⟨v', p, w2, fr2, hR2, hm2, ?_, e2⟩
  have s2 : Steps c.P (lone (b.at a (.code (.rangeFunc g ps assign body) :: k)) cs w) (lone (b.at { a with defers := [{ target := .collected w.heap.size, args := #[] }] ++ a.defers } k) cs (w3.putObj (w.heap.size + 1) (.loop { r with state := .exhausted }))) := by
    have s3 : step c.P (lone (b.at { a with defers := [{ target := .collected w.heap.size, args := #[] }] ++ a.defers } (.endRangeFunc (w.heap.size + 1) :: k)) cs w3) = .next (lone (b.at { a with defers := [{ target := .collected w.heap.size, args := #[] }] ++ a.defers } k) cs (w3.putObj (w.heap.size + 1) (.loop { r with state := .exhausted }))) := by
      have s4 := stepR_endRangeFunc (b := b') (a := { a with defers := [{ target := .collected w.heap.size, args := #[] }] ++ a.defers }) (k := k) (cs := cs) hend
      rw [hat, hat] at s4
      exact s4
    rw [hat, hat] at s1
    refine .head s1 (hsteps.trans (.head ?_ (.one s3)))
    have hf := finish_atR_inRangeFunc (b := b') (a := { a with defers := [{ target := .collected w.heap.size, args := #[] }] ++ a.defers }) (k := k) (w.heap.size + 1) v
    rw [hat, hat] at hf
    rw [← hf]; exact step_leave_returned hleave
  exact s2.trans hst2

/-- A return past the mark. -/
theorem G_retD {D : Nat} {fn : Func} {rs : List ResultVar} {vs : List Value} {l1 l2 L' post M : List (Option Nat × Obj)} (hds : c.ds = markD D) (hL : L = l1 ++ (some D, .deferred (some [])) :: l2) (hL' : l1 ++ (some D, .deferred none) :: l2 = L')
    (hf : c.P.funcs[c.f]? = some fn) (hr : fn.results = rs.toArray)
    (hv : RVs c n env L' rs vs) (is : List Nat) (hl : tk is L' = some (post, M)) (hR : c.R (packed vs) post) : G c n env L (.code .ret :: k) := by
  intro a w hk hm b hb hkind cs
  subst hL hL'
  have hD : w.heap[D]? = some (.deferred (some [])) := hm.lies (by simp)
  have h1 := hm.putObj (.deferred none)
  have h3 := goes_ret (post := post) hr hv hk h1
  have hdf := hk.defers.trans hds
  let fr0 : Frame := { b.at a (.code .ret :: k) with mode := .returning }
  have s1 : step c.P (lone (b.at a (.code .ret :: k)) cs w) = .next (lone fr0 cs w) := step_ret
  have s2 := step_collected (P := c.P) (fr := fr0) (cs := cs) (w := w) (d := { target := .collected D, args := #[] }) (ds := []) (by show FrameMode.returning ≠ .run; simp) hdf rfl (run_takeDeferred hD)
  exact ⟨packed vs, post, _, { fr0 with defers := [] ++ [] }, hR, (h1.sub (tk_perm hl)).dropA, .head s1 (.one s2), hb, rfl, rfl, hkind, fn, by rw [← hf, ← hb]; rfl, h3⟩
end
end Go.Proofs.Ytkekkalgebgokaa

/- More operations: an empty slice that is not nil. No program in sight. -/
set_option linter.unusedSimpArgs false
set_option linter.unusedVariables false
namespace Go.Proofs.Ytkekkalgebgokaa
open Go Go.RowKit

section
variable {c : Cx} {n : Nat} {env : List (Nat × Value)} {L : List (Option Nat × Obj)} {k : List Item} {o : Oper}
theorem N_build0 {t e : TypeId} {ti : TypeInfo} (hop : o.op = .buildSlice t 0 #[]) (hu : c.P.underlying t = some (.slice e)) (hi : c.P.info? e = some ti) :
    New c n env L o (fun b => .slice (some ⟨b, 0, none⟩) 0 0) (.cells #[] e (0, 0)) := fun a w hk _ => by
  simp only [execOp, hop]
  simp [Instr.buildSlice, run_underlying hu, sizeOf, typeInfo, hi, newRow, Instr.fill]
  exact congrArg (fun x => w.alloc (Obj.cells x e)) (by simp)
/-- A call of a function value that has its first arguments. -/
theorem G_callB {ops : Array Oper} {i : Nat} {rest : List Nat} {d : Nat} {g : FuncId} {x : Operand} {xs : Array Operand} {ts : Array TypeId} {us args vs : List Value} {A' L' L2 : List (Option Nat × Obj)} {R' : Value → List (Option Nat × Obj) → Prop}
    (ho : ops[i]? = some o) (hd : o.dst = some d) (hn : Nat.blt d n = true) (hg : fguard ops env o = some true) (hop : o.op = .call ⟨.value x, xs, ts⟩) (hxs : fevs env xs.toList = some args)
    (hcf : ∀ (az : Array Value) w, (callFunc g az).run c.P w = .ok (.enter g az) w) (hfn : fev env x = some (.func (.func g) us.toArray vs.toArray)) (hct : Ct c.P g (us ++ args ++ vs) A' L' R') (is js : List Nat) (hL : tk is L = some (L', L2)) (hA : pk js (c.A ++ L2) = some A')
    (K : ∀ v post, R' v post → G c n ((d, v) :: env) (post ++ L2) (.inRegion ops rest :: k)) : G c n env L (.inRegion ops (i :: rest) :: k) := by
  intro a w hk hm
  refine goes_op ho (wanted_of hk hg) ?_
  have hx : xs.map a.eval = args.toArray := by
    apply Array.toList_inj.1
    simpa using hk.evals hxs
  have hr : (execOp a.eval o).run c.P w = .ok (.enter g (us ++ args ++ vs).toArray) w := by
    unfold execOp
    simp only [hop, resolve, hk.eval hfn, hx]
    simp [Deferred.ofValue, invoke, hcf]
  rw [hr, Oper.upon_enter]
  refine (hct w (hm.has_call hL hA)).mono fun e w' ⟨v, post, he, hR, hp⟩ => ?_
  subst he
  simp only [hd]
  exact K v post hR _ w' (hk.put hn v) (hm.call hL hA hp)

theorem V_cap {x : Operand} {t e : TypeId} {ts : Array TypeId} {ty : TypeId} {p : String} {es : Array Edge} {gd : Option (Nat × Bool)} {d : Option Tmp} {b : Option Addr} {i j : Nat} (hop : o = ⟨d, .call ⟨.builtin .cap, #[x], ts⟩, ty, p, es, gd⟩) (ht : ts[0]? = some t) (hu : c.P.underlying t = some (.slice e)) (hx : fev env x = some (.slice b i j)) : Val c n env L o (.int .i64 (j : Int)) := fun a w hk _ => by
  subst hop
  have h1 := hk.eval hx
  simp [execOp, h1, resolve, invoke, builtin, Builtin.cap_, ht, run_underlying hu, goInt]
theorem V_copy0 {x y : Operand} {t e off b dc sc : Nat} {ts : Array TypeId} {ty : TypeId} {p : String} {es : Array Edge} {gd : Option (Nat × Bool)} {d : Option Tmp} {ti : TypeInfo}
    (hop : o = ⟨d, .call ⟨.builtin .copy, #[x, y], ts⟩, ty, p, es, gd⟩) (ht : ts[0]? = some t) (hu : c.P.underlying t = some (.slice e)) (hs : c.P.info? e = some ti) (hx : fev env x = some (.slice (some ⟨b, off, none⟩) 0 dc)) (hy : fev env y = some (.slice none 0 sc)) : Val c n env L o (.int .i64 0) := fun a w hk _ => by
  subst hop
  have h0 := run_firstCells_none (P := c.P) w ti.size 0 0 sc
  simp [execOp, hk.eval hx, hk.eval hy, resolve, invoke, builtin, Builtin.copy_, ht, run_underlying hu, Builtin.lenOf, sizeOf, typeInfo, hs, goInt, h0]
  rfl
theorem V_min3 {x y z : Operand} {q : IntKind} {p r s : Int} {xs : Array TypeId} {ty : TypeId} {ps : String} {es : Array Edge} {gd : Option (Nat × Bool)} {d : Option Tmp} (hop : o = ⟨d, .call ⟨.builtin .min, #[x, y, z], xs⟩, ty, ps, es, gd⟩) (hx : fev env x = some (.int q p)) (hy : fev env y = some (.int q r)) (hz : fev env z = some (.int q s)) : Val c n env L o (.int q (min (min p r) s)) := fun a w hk _ => by
  subst hop
  simp only [execOp, resolve, invoke, builtin, Sem.run_bind, Sem.run_pure, Result.andThen_ok, List.map_toArray, List.map_cons, List.map_nil, hk.eval hx, hk.eval hy, hk.eval hz]
  have e : ∀ a b : Int, (if b < a then b else a) = min a b := fun a b => by split <;> omega
  simp [Builtin.min_, Builtin.min2, e]

-- maps
theorem run_getObj1 {P : Program} {w : World} {r : Nat} {es : Array MapEntry} {ck : Nat} (h : w.heap[r]? = some (.map es ck)) : (getObj r).run P w = .ok (.map es ck) w := by
  unfold getObj
  simp only [Sem.run, h]
theorem run_setObj1 {P : Program} {w : World} {r : Nat} {es : Array MapEntry} {ck : Nat} {ob' : Obj} (h : w.heap[r]? = some (.map es ck)) : (setObj r ob').run P w = .ok () { w with heap := w.heap.setIfInBounds r ob' } := by
  unfold setObj
  simp only [Sem.run, h]
/-- A map is made. -/
theorem N_map {t : TypeId} (hop : o.op = .makeMap t none) : New c n env L o (fun b => .map (some b)) (.map #[] 0) := fun a w hk _ => by
  simp only [execOp, hop]
  simp [Instr.makeMap, newObj]
  rfl
def plainKey : TypeDesc → Bool
  | .interface _ | .array _ _ | .struct _ => false
  | _ => true
theorem run_checkKey {P : Program} {w : World} {b : Bool} {t : TypeId} {d : TypeDesc} {v : Value} (ht : P.underlying t = some d) (hp : plainKey d = true) : (Instr.checkKey b 10000 t v).run P w = .ok () w := by
  unfold Instr.checkKey
  cases d <;> first | (cases hp; done) | simp [run_underlying ht]
theorem P_insert {x y z : Operand} {t kt et : TypeId} {kd : TypeDesc} {b clock : Nat} {es : List MapEntry} {kv v : Value} (hop : o.op = .insert t x y z) (ht : c.P.underlying t = some (.map kt et)) (hkt : c.P.underlying kt = some kd) (hp : plainKey kd = true)
    (hx : fev env x = some (.map (some b))) (hy : fev env y = some kv) (hz : fev env z = some v) (hm : (some b, Obj.map es.toArray clock) ∈ L) (hf : Instr.findNow kd kv es 0 = some none) :
    Put c n env L o b (.map (es ++ [(⟨kv, v, clock⟩ : MapEntry)]).toArray (clock + 1)) := fun a w hk hmm => by
  have h1 := hmm.lies hm
  refine ⟨{ w with heap := w.heap.setIfInBounds b (.map (es ++ [(⟨kv, v, clock⟩ : MapEntry)]).toArray (clock + 1)) }, ?_, rfl, rfl, rfl, by simp, ?_, fun k hk => ?_⟩
  · simp only [execOp, hop, hk.eval hx, hk.eval hy, hk.eval hz]
    simp [Instr.mapUpdate, run_underlying ht, run_getObj1 h1, run_setObj1 h1, run_checkKey hkt hp, Instr.findKey, run_underlying hkt, hf]
  · have := lt_of_lies h1
    simp [this]
  · simp only [Array.getElem?_setIfInBounds]
    rw [if_neg (fun e => hk e.symm)]
theorem V_lookup {x y : Operand} {t kt et : TypeId} {kd : TypeDesc} {b clock : Nat} {es : List MapEntry} {kv v : Value} {j : Nat} (hop : o.op = .lookup t x y false) (ht : c.P.underlying t = some (.map kt et)) (hkt : c.P.underlying kt = some kd) (hp : plainKey kd = true)
    (hx : fev env x = some (.map (some b))) (hy : fev env y = some kv) (hm : (some b, Obj.map es.toArray clock) ∈ c.A ++ L) (hf : Instr.findNow kd kv es 0 = some (some (j, v))) : Val c n env L o v := fun a w hk hmm => by
  have h1 := hmm.has.both hm
  simp only [execOp, hop, hk.eval hx, hk.eval hy]
  simp [Instr.lookup, run_underlying ht, run_getObj1 h1, run_checkKey hkt hp, Instr.findKey, run_underlying hkt, hf]
theorem V_lookupN {x y : Operand} {t kt et : TypeId} {kd : TypeDesc} {b clock : Nat} {es : List MapEntry} {kv zv : Value} {ti : TypeInfo} (hop : o.op = .lookup t x y false) (ht : c.P.underlying t = some (.map kt et)) (hkt : c.P.underlying kt = some kd) (hp : plainKey kd = true)
    (hi : c.P.info? et = some ti) (hzv : ti.zero = some zv)
    (hx : fev env x = some (.map (some b))) (hy : fev env y = some kv) (hm : (some b, Obj.map es.toArray clock) ∈ c.A ++ L) (hf : Instr.findNow kd kv es 0 = some none) : Val c n env L o zv := fun a w hk hmm => by
  have h1 := hmm.has.both hm
  simp only [execOp, hop, hk.eval hx, hk.eval hy]
  simp [Instr.lookup, run_underlying ht, run_getObj1 h1, run_checkKey hkt hp, Instr.findKey, run_underlying hkt, hf, zeroValue, typeInfo, hi, hzv]
/-- A map's entries, as they were laid. -/
def entries (q : IntKind) : List (Int × Value) → Nat → List MapEntry
  | [], _ => []
  | (k, v) :: r, i => ⟨.int q k, v, i⟩ :: entries q r (i + 1)
theorem entries_snoc (q : IntKind) (k : Int) (v : Value) : ∀ (d : List (Int × Value)) (i : Nat), entries q (d ++ [(k, v)]) i = entries q d i ++ [(⟨.int q k, v, i + d.length⟩ : MapEntry)]
  | [], i => rfl
  | p :: d, i => by
    simp only [List.cons_append, entries, entries_snoc q k v d (i + 1), List.length_cons]
    rw [show i + 1 + d.length = i + (d.length + 1) by omega]
theorem find_none {q q' : IntKind} {k : Int} : ∀ (d : List (Int × Value)) (i j : Nat), (∀ p ∈ d, p.1 ≠ k) → Instr.findNow (.int q') (.int q k) (entries q d i) j = some none
  | [], i, j, _ => rfl
  | p :: d, i, j, h => by
    have h1 : ¬ k = p.1 := fun e => h p (by simp) e.symm
    simp only [entries, Instr.findNow, Instr.sameNow, if_true]
    have h2 : (k == p.1) = false := by simpa using h1
    rw [h2]
    exact find_none d (i + 1) (j + 1) (fun x hx => h x (by simp [hx]))
theorem find_some {q q' : IntKind} {k : Int} {v : Value} : ∀ (d : List (Int × Value)) (i j : Nat), (d.map (·.1)).Nodup → (k, v) ∈ d → ∃ m, Instr.findNow (.int q') (.int q k) (entries q d i) j = some (some (m, v))
  | [], _, _, _, h => by cases h
  | p :: d, i, j, hn, h => by
    simp only [List.map_cons, List.nodup_cons] at hn
    simp only [entries, Instr.findNow, Instr.sameNow, if_true]
    rcases List.mem_cons.1 h with rfl | h
    · simp
    · have h1 : ¬ k = p.1 := fun e => hn.1 (by rw [← e]; exact List.mem_map.2 ⟨_, h, rfl⟩)
      have h2 : (k == p.1) = false := by simpa using h1
      rw [h2]
      exact find_some d (i + 1) (j + 1) hn.2 h
theorem find_perm {q q' : IntKind} {k : Int} {v : Value} {d l : List (Int × Value)} (hd : d.Perm l) (hn : (l.map (·.1)).Nodup) (h : (k, v) ∈ l) : ∃ m, Instr.findNow (.int q') (.int q k) (entries q d 0) 0 = some (some (m, v)) :=
  find_some d 0 0 ((hd.map _).nodup_iff.2 hn) (hd.mem_iff.2 h)
theorem find_permN {q q' : IntKind} {k : Int} {d l : List (Int × Value)} (hd : d.Perm l) (h : ∀ p ∈ l, p.1 ≠ k) : Instr.findNow (.int q') (.int q k) (entries q d 0) 0 = some none :=
  find_none d 0 0 (fun p hp => h p (hd.mem_iff.1 hp))

/-- Operations that lay entries into one map. -/
def InsAll (ops : Array Oper) (env : List (Nat × Value)) (t : TypeId) (b : Nat) (q : IntKind) : List (Nat × Int × Value) → Prop
  | [] => True
  | (i, k, v) :: r => (∃ (o : Oper) (x y z : Operand), ops[i]? = some o ∧ o.dst = none ∧ fguard ops env o = some true ∧ o.op = .insert t x y z ∧ fev env x = some (.map (some b)) ∧ fev env y = some (.int q k) ∧ fev env z = some v) ∧ InsAll ops env t b q r
theorem InsAll_nil {ops : Array Oper} {env : List (Nat × Value)} {t : TypeId} {b : Nat} {q : IntKind} : InsAll ops env t b q [] := trivial
theorem InsAll_cons {ops : Array Oper} {env : List (Nat × Value)} {t : TypeId} {b : Nat} {q : IntKind} (i : Nat) {k : Int} {v : Value} {r : List (Nat × Int × Value)} {o : Oper} {x y z : Operand} (ho : ops[i]? = some o) (hd : o.dst = none) (hg : fguard ops env o = some true) (hop : o.op = .insert t x y z)
    (hx : fev env x = some (.map (some b))) (hy : fev env y = some (.int q k)) (hz : fev env z = some v) (h : InsAll ops env t b q r) : InsAll ops env t b q ((i, k, v) :: r) := ⟨⟨o, x, y, z, ho, hd, hg, hop, hx, hy, hz⟩, h⟩
theorem InsAll.mem {ops : Array Oper} {env : List (Nat × Value)} {t : TypeId} {b : Nat} {q : IntKind} : ∀ {l : List (Nat × Int × Value)}, InsAll ops env t b q l → ∀ p ∈ l, ∃ (o : Oper) (x y z : Operand), ops[p.1]? = some o ∧ o.dst = none ∧ fguard ops env o = some true ∧ o.op = .insert t x y z ∧ fev env x = some (.map (some b)) ∧ fev env y = some (.int q p.2.1) ∧ fev env z = some p.2.2
  | [], _, p, hp => by cases hp
  | (i, k, v) :: r, h, p, hp => by
    rcases List.mem_cons.1 hp with rfl | hp
    · exact h.1
    · exact InsAll.mem h.2 p hp
def insCheck (ops : Array Oper) (listed F : Array Bool) (is : List Nat) : Bool :=
  listed.size == F.size && is.all (fun i => (Region.ready .any ops listed).contains i) &&
  (List.range F.size).all (fun j => is.contains j || listed.getD j true == F.getD j true) && is.all (fun i => F.getD i false) &&
  (List.range F.size).all (fun j => listed.getD j true || is.contains j || is.all fun i => ((ops[j]?).map fun o => o.after.any fun e => Region.binds .any e && e.on == i).getD false)
theorem own_empty (sz b : Nat) : Own sz ⟨some b, #[], (0, 0), 0⟩ [] 0 := ⟨by simp, Nat.le_refl _, by simp, by simp, by simp, by simp, fun h => by cases h⟩

variable {ops : Array Oper} {Lq : List (Option Nat × Obj)} {fuel : Nat} {listed : Array Bool}
theorem GH_inserts_aux {t kt et : TypeId} {q : IntKind} {b : Nat} {l1 l2 : List (Option Nat × Obj)} {F listed0 : Array Bool} {fuel : Nat} {ins : List (Nat × Int × Value)}
    (ht : c.P.underlying t = some (.map kt et)) (hkt : c.P.underlying kt = some (.int q)) (hin : InsAll ops env t b q ins) (hnd : (ins.map (·.2.1)).Nodup)
    (hT : ∀ j, listed0.getD j true = false → j ∉ ins.map (·.1) → ∀ i ∈ ins.map (·.1), ∃ o, ops[j]? = some o ∧ ∃ e ∈ o.after, Region.binds .any e = true ∧ e.on = i)
    (hF : ∀ i ∈ ins.map (·.1), F.getD i true = true) (hF0 : ∀ j, j ∉ ins.map (·.1) → listed0.getD j true = F.getD j true)
    (h : ∀ done : List (Int × Value), done.Perm (ins.map (·.2)) → GH c n ops [] fuel F env (l1 ++ (some b, .map (entries q done 0).toArray done.length) :: l2) k) :
    ∀ (m : Nat) (R : List (Nat × Int × Value)) (D : List (Nat × Int × Value)) (listed : Array Bool), R.length = m → (D ++ R).Perm ins → (∀ i ∈ R.map (·.1), i ∈ Region.ready .any ops listed) → listed.size = F.size →
      (∀ j, j ∉ R.map (·.1) → listed.getD j true = F.getD j true) → (ins.map (·.1)).Nodup →
      GH c n ops [] (fuel + m) listed env (l1 ++ (some b, .map (entries q (D.map (·.2)) 0).toArray D.length) :: l2) k
  | 0, R, D, listed, hm, hp, _, hs, hl, _ => by
    have hR : R = [] := List.eq_nil_of_length_eq_zero hm
    subst hR
    rw [List.append_nil] at hp
    have e : listed = F := by
      apply Array.ext hs
      intro j h1 h2
      have := hl j (by simp)
      simpa [h1, h2] using this
    subst e
    have := h (D.map (·.2)) (hp.map _)
    rw [List.length_map] at this
    exact this
  | m + 1, R, D, listed, hm, hp, hr, hs, hl, hni => by
    intro a w hk hmm hw
    have hRne : R ≠ [] := fun e => by rw [e] at hm; cases hm
    obtain ⟨r0, R0, hR0⟩ := List.exists_cons_of_ne_nil hRne
    refine ⟨fun h0 => ?_, fun i hi => ?_⟩
    · have := hr r0.1 (by rw [hR0]; simp)
      rw [h0] at this
      cases this
    · have hiR : i ∈ R.map (·.1) := by
        refine Classical.byContradiction fun hn => ?_
        obtain ⟨hun, o, ho, hall⟩ := mem_ready.1 hi
        have hun' : F.getD i true = false := by rw [← hl i hn]; exact hun
        have hni' : i ∉ ins.map (·.1) := fun hm => by rw [hF i hm] at hun'; cases hun'
        have hr0 : r0.1 ∈ ins.map (·.1) := (hp.map (·.1)).mem_iff.1 (by rw [hR0]; simp)
        obtain ⟨o', ho', e, he, hb, hon⟩ := hT i (by rw [hF0 i hni']; exact hun') hni' r0.1 hr0
        rw [ho] at ho'
        cases ho'
        have h1 := hall e he hb
        rw [hon] at h1
        obtain ⟨h2, _⟩ := mem_ready.1 (hr r0.1 (by rw [hR0]; simp))
        rcases hx : listed[r0.1]? with _ | x
        · simp [hx] at h2
        · simp [hx] at h1 h2
          rw [h1] at h2
          cases h2
      obtain ⟨p, hpR, rfl⟩ := List.mem_map.1 hiR
      obtain ⟨R1, R2, rfl⟩ := List.append_of_mem hpR
      have hpin : p ∈ ins := hp.mem_iff.1 (by simp)
      obtain ⟨o, x, y, z, ho, hd, hg, hop, hx, hy, hz⟩ := hin.mem p hpin
      have hnR : ((D ++ (R1 ++ p :: R2)).map (·.1)).Nodup := (hp.map _).nodup_iff.2 hni
      have hnK : ((D ++ (R1 ++ p :: R2)).map (·.2.1)).Nodup := (hp.map _).nodup_iff.2 hnd
      have hkD : ∀ s ∈ D.map (·.2), s.1 ≠ p.2.1 := by
        intro s hs e
        obtain ⟨d, hd, rfl⟩ := List.mem_map.1 hs
        rw [List.map_append, List.nodup_append] at hnK
        exact hnK.2.2 d.2.1 (List.mem_map.2 ⟨d, hd, rfl⟩) p.2.1 (List.mem_map.2 ⟨p, by simp, rfl⟩) e
      have hpR12 : p.1 ∉ (R1 ++ R2).map (·.1) := by
        rw [List.map_append, List.nodup_append] at hnR
        have h2 := hnR.2.1
        rw [List.map_append, List.map_cons, List.nodup_append] at h2
        obtain ⟨_, h3, h4⟩ := h2
        intro hm
        rw [List.map_append, List.mem_append] at hm
        rcases hm with hm | hm
        · exact h4 _ hm _ (by simp) rfl
        · exact (List.nodup_cons.1 h3).1 hm
      have hput : Put c n env (l1 ++ (some b, .map (entries q (D.map (·.2)) 0).toArray D.length) :: l2) o b (.map (entries q (D.map (·.2)) 0 ++ [(⟨.int q p.2.1, p.2.2, D.length⟩ : MapEntry)]).toArray (D.length + 1)) :=
        P_insert hop ht hkt rfl hx hy hz (by simp) (find_none _ 0 0 hkD)
      refine GHop_put (l1 := l1) (l2 := l2) (M := l1 ++ (some b, .map (entries q (D.map (·.2)) 0 ++ [(⟨.int q p.2.1, p.2.2, D.length⟩ : MapEntry)]).toArray (D.length + 1)) :: l2) ho hd hg rfl hput rfl [] rfl ?_ a w hk hmm hw
      have ih := GH_inserts_aux ht hkt hin hnd hT hF hF0 h m (R1 ++ R2) (D ++ [p]) (listed.setIfInBounds p.1 true) (by simp at hm ⊢; omega)
        (List.Perm.trans (by simp [List.append_assoc]; exact List.Perm.append_left _ List.perm_middle.symm) hp)
        (fun j hj => ready_mono (hr j (by
          rw [List.map_append, List.mem_append] at hj
          rw [List.map_append, List.map_cons, List.mem_append, List.mem_cons]
          rcases hj with hj | hj
          · exact .inl hj
          · exact .inr (.inr hj))) (fun e => hpR12 (e ▸ hj)))
        (by simpa using hs)
        (fun j hj => by
          by_cases e : p.1 = j
          · subst e
            rw [hF p.1 ((hp.map (·.1)).mem_iff.1 (by simp))]
            rcases Nat.lt_or_ge p.1 listed.size with hlt | hge
            · simp [hlt]
            · simp [hge]
          · rw [getD_set_ne true e]
            apply hl
            rw [List.map_append, List.map_cons, List.mem_append, List.mem_cons]
            rw [List.map_append, List.mem_append] at hj
            rintro (h1 | h1 | h1)
            · exact hj (.inl h1)
            · exact e h1.symm
            · exact hj (.inr h1)) hni
      rw [List.map_append, List.length_append] at ih
      have e : entries q (D.map (·.2) ++ [p].map (·.2)) 0 = entries q (D.map (·.2)) 0 ++ [(⟨.int q p.2.1, p.2.2, D.length⟩ : MapEntry)] := by
        have := entries_snoc q p.2.1 p.2.2 (D.map (·.2)) 0
        rw [List.length_map, Nat.zero_add] at this
        exact this
      rw [e] at ih
      exact ih
theorem GH_inserts {t kt et : TypeId} {q : IntKind} {b : Nat} {l1 l2 : List (Option Nat × Obj)} {F : Array Bool} {fuel m : Nat} {ins : List (Nat × Int × Value)}
    (ht : c.P.underlying t = some (.map kt et)) (hkt : c.P.underlying kt = some (.int q)) (hin : InsAll ops env t b q ins) (hm : ins.length = m) (hnd : (ins.map (·.2.1)).Nodup) (hni : (ins.map (·.1)).Nodup) (hc : insCheck ops listed F (ins.map (·.1)) = true)
    (h : ∀ done : List (Int × Value), done.Perm (ins.map (·.2)) → GH c n ops [] fuel F env (l1 ++ (some b, .map (entries q done 0).toArray done.length) :: l2) k) :
    GH c n ops [] (fuel + m) listed env (l1 ++ (some b, .map #[] 0) :: l2) k := by
  unfold insCheck at hc
  simp only [Bool.and_eq_true, List.all_eq_true, List.mem_range, beq_iff_eq, Bool.or_eq_true, List.contains_iff_mem] at hc
  obtain ⟨⟨⟨⟨c1, c2⟩, c3⟩, c4⟩, c5⟩ := hc
  have hout : ∀ (A : Array Bool) j, ¬ j < A.size → A.getD j true = true := fun A j hj => by simp [Nat.le_of_not_lt hj]
  refine GH_inserts_aux (listed0 := listed) ht hkt hin hnd ?_ ?_ ?_ h m ins [] listed hm (by simp) (fun i hi => c2 i hi) c1 ?_ hni
  · intro j hj hn i hi
    have hlt : j < F.size := Classical.byContradiction fun hge => by rw [hout listed j (by omega)] at hj; cases hj
    rcases c5 j hlt with (h1 | h1) | h1
    · rw [hj] at h1; cases h1
    · exact absurd h1 hn
    · have := h1 i hi
      rcases ho : ops[j]? with _ | o
      · rw [ho] at this; cases this
      · rw [ho] at this
        simp only [Option.map_some, Option.getD_some, Array.any_eq_true'] at this
        obtain ⟨e, he, h2⟩ := this
        simp only [Bool.and_eq_true, beq_iff_eq] at h2
        exact ⟨o, rfl, e, he, h2.1, h2.2⟩
  · intro i hi
    have := c4 i hi
    rcases hx : F[i]? with _ | x
    · simp [hx]
    · simpa [hx] using this
  · intro j hj
    by_cases hlt : j < F.size
    · rcases c3 j hlt with h1 | h1
      · exact absurd h1 hj
      · exact h1
    · rw [hout F j hlt, hout listed j (by omega)]
  · intro j hj
    by_cases hlt : j < F.size
    · rcases c3 j hlt with h1 | h1
      · exact absurd h1 hj
      · exact h1
    · rw [hout F j hlt, hout listed j (by omega)]
theorem GHop_mnz {i d m : Nat} {f : FuncId} {fn : Func} {xs : Array Operand} {ts ps : Array TypeId} {t e : TypeId} (ho : ops[i]? = some o) (hd : o.dst = some d) (hn : Nat.blt d n = true) (hg : fguard ops env o = some true) (hop : o.op = .call ⟨.value (.func f), xs, ts⟩) (hxs : fevs env xs.toList = some [.int .i64 (m : Int)])
    (hf : c.P.funcs[f]? = some fn) (hname : (fn.name == "runtime.NumGoroutine") = false) (hb : fn.body.isNone = true) (hne : Extern.findNext fn = none) (he : Extern.find fn = some (Extern.BytealgMakeNoZero.makeNoZero ps #[t])) (ht : c.P.underlying t = some (.slice e)) (hm : m ≤ 281474976710656)
    (isq : List Nat) (hq : ∀ b (cs : Array Value), ∃ M, tk isq ((some b, Obj.cells cs e (0, 0)) :: L) = some (Lq, M))
    (h : ∀ b (cs : Array Value), m ≤ cs.size → cs.size ≤ 9223372036854775807 → GH c n ops Lq fuel (listed.setIfInBounds i true) ((d, .slice (some ⟨b, 0, none⟩) m cs.size) :: env) ((some b, .cells cs e (0, 0)) :: L) k) : GHop c n ops Lq fuel listed env L k i := by
  intro a w hk hmm hw
  refine ghop_of ho (wanted_of hk hg) ?_
  obtain ⟨cs, hr, h1, h2⟩ := Lib.run_makeNoZero (P := c.P) w ps t e ht m hm
  have hx : xs.map a.eval = #[.int .i64 (m : Int)] := by
    apply Array.toList_inj.1
    simpa using hk.evals hxs
  have hrun : (execOp a.eval o).run c.P w = .ok (.value (.slice (some ⟨w.heap.size, 0, none⟩) m cs.size)) (w.drew.drew.alloc (.cells cs e)) := by
    have hr' := run_callFunc_extern hf hname hb hne he #[.int .i64 (m : Int)] w
    rw [hr] at hr'
    unfold execOp
    simp [hop, resolve, Act.eval, Deferred.ofValue, hx, invoke, hr']
  rw [hrun, Oper.upon_value, hd]
  have hm' := ((hmm.drew (w.drawn + 1)).drew (w.drawn + 1 + 1)).alloc (.cells cs e)
  obtain ⟨M, hM⟩ := hq w.heap.size cs
  have hs := hs_of hm' hM
  exact ⟨hs, h w.heap.size cs h1 (by have := h2 (by unfold maxLen; omega); unfold maxLen at this; omega) _ _ (hk.put hn _) hm' hs⟩
theorem GHop_append {i : Nat} {d m nn sz bt : Nat} {x y : Operand} {t u e ty : TypeId} {ds : TypeDesc} {ps : String} {es : Array Edge} {gd : Option (Nat × Bool)} {ti : TypeInfo} {z xv : Value} {s : Sl} {xs news : List Value} {l1 l2 : List (Option Nat × Obj)}
    (ho : ops[i]? = some o) (hop : o = ⟨some d, .call ⟨.builtin .append, #[x, y], #[t, u]⟩, ty, ps, es, gd⟩) (hn : Nat.blt d n = true) (hg : fguard ops env o = some true)
    (ht : c.P.underlying t = some (.slice e)) (hu : c.P.underlying u = some ds) (hds : ds = .string ∨ ∃ e', ds = .slice e') (hi : c.P.info? e = some ti) (hz : ti.zero = some z) (hsz : ti.size = sz) (hzs : z.cells.size = sz) (hbt : ti.bytes = bt)
    (hx : fev env x = some (s.v nn)) (hy : fev env y = some xv) (hown : Own sz s xs nn) (hL : L = l1 ++ (s.ob, .cells s.cs e s.fz) :: l2) (hS : ∀ w, Has w c.A L → Src c.P w sz xv m news)
    (h63 : nn + m ≤ 9223372036854775807) (hbytes : (nn + m) * bt ≤ 140737488355328)
    (isq : List Nat) (hq : ∀ s' : Sl, ∃ M, tk isq (l1 ++ (s'.ob, .cells s'.cs e s'.fz) :: l2) = some (Lq, M))
    (h : ∀ s' : Sl, Own sz s' (xs ++ news) (nn + m) → More s s' → GH c n ops Lq fuel (listed.setIfInBounds i true) ((d, s'.v (nn + m)) :: env) (l1 ++ (s'.ob, .cells s'.cs e s'.fz) :: l2) k) : GHop c n ops Lq fuel listed env L k i := by
  intro a w hk hm hw
  subst hop
  refine ghop_of ho (wanted_of hk hg) ?_
  obtain ⟨s', w', hr, h1, h2, h3, h4, h5⟩ := run_append_any (P := c.P) w t u ty e ds ti z sz ht hu hds hi hz hsz hzs s xs nn hown (fun b hb => hm.lies (by rw [hL, ← hb]; simp)) xv m news (hS w hm.has) h63 (by rw [hbt]; exact hbytes)
  have hrun : (execOp a.eval ⟨some d, .call ⟨.builtin .append, #[x, y], #[t, u]⟩, ty, ps, es, gd⟩).run c.P w = .ok (.value (s'.v (nn + m))) w' := by
    unfold execOp
    simp only [resolve, invoke, builtin, Sem.run_bind, Sem.run_pure, Result.andThen_ok, List.map_toArray, List.map_cons, List.map_nil, hk.eval hx, hk.eval hy, hr]
  rw [hrun, Oper.upon_value]
  subst hL
  have hm' := hm.grown h2 h3 h4
  obtain ⟨M', hM⟩ := hq s'
  exact ⟨hs_of hm' hM, h s' h1 h5 _ w' (hk.put hn _) hm' (hs_of hm' hM)⟩
end

-- lists of texts
def strC (l : List UInt8) : Value := .string (bs l)
theorem sees_strs (b n : Nat) (ls : List (List UInt8)) (hn : ls.length = n) (h : n < 1000) : Sees 1 (some b) 0 n (ls.map strC).toArray (ls.map strC) ls.length :=
  ⟨by simp, by omega, by omega, by rw [List.drop_zero, List.take_of_length_le (by simp)], fun h => by cases h⟩
theorem cell_at {α : Type} {f : α → List Value} {sz : Nat} {ob : Option Nat} {off cap : Nat} {cs : Array Value} {l : List α} (h : Sees sz ob off cap cs (l.flatMap f) l.length) (hf : ∀ a, (f a).length = sz) {i : Nat} {a : α} (ha : l[i]? = some a) (k : Nat) (hk : k < sz) {v : Value} (hv : (f a)[k]? = some v) :
    cs[off + i * sz + k]? = some v := by
  have h1 := flat_part f hf l ha k
  rw [if_pos hk, hv] at h1
  have h2 := h.at h1
  rwa [← Nat.add_assoc] at h2
end Go.Proofs.Ytkekkalgebgokaa

/- Calls of contracts that read blocks of which not all are listed one by one. No program in sight. -/
set_option linter.unusedSimpArgs false
set_option linter.unusedVariables false
namespace Go.Proofs.Ytkekkalgebgokaa
open Go Go.RowKit

theorem subA_nil {M : List (Option Nat × Obj)} : ∀ x ∈ ([] : List (Option Nat × Obj)), x ∈ M := fun _ h => by cases h
theorem subA_cons {M A : List (Option Nat × Obj)} {x : Option Nat × Obj} (hx : x ∈ M) (h : ∀ y ∈ A, y ∈ M) : ∀ y ∈ x :: A, y ∈ M := fun y hy => by
  rcases List.mem_cons.1 hy with e | hy
  · subst e; exact hx
  · exact h y hy
section
variable {c : Cx} {n : Nat} {env : List (Nat × Value)} {L : List (Option Nat × Obj)} {k : List Item}
theorem G_callM {ops : Array Oper} {i : Nat} {rest : List Nat} {o : Oper} {d : Nat} {g : FuncId} {xs : Array Operand} {ts : Array TypeId} {args : List Value} {A' L' L2 : List (Option Nat × Obj)} {R' : Value → List (Option Nat × Obj) → Prop}
    (ho : ops[i]? = some o) (hd : o.dst = some d) (hn : Nat.blt d n = true) (hg : fguard ops env o = some true) (hop : o.op = .call ⟨.value (.func g), xs, ts⟩) (hxs : fevs env xs.toList = some args)
    (hcf : ∀ (az : Array Value) w, (callFunc g az).run c.P w = .ok (.enter g az) w) (hct : Ct c.P g args A' L' R') (is : List Nat) (hL : tk is L = some (L', L2)) (hA : ∀ x ∈ A', x ∈ c.A ++ L2)
    (K : ∀ v post, R' v post → G c n ((d, v) :: env) (post ++ L2) (.inRegion ops rest :: k)) : G c n env L (.inRegion ops (i :: rest) :: k) := by
  intro a w hk hm
  refine goes_op ho (wanted_of hk hg) ?_
  have hx : xs.map a.eval = args.toArray := by
    apply Array.toList_inj.1
    simpa using hk.evals hxs
  have hr : (execOp a.eval o).run c.P w = .ok (.enter g args.toArray) w := by
    unfold execOp
    simp [hop, resolve, Act.eval, Deferred.ofValue, hx, invoke, hcf]
  rw [hr, Oper.upon_enter]
  refine (hct w (hm.has_callP (tk_perm hL) hA)).mono fun e w' ⟨v, post, he, hR, hp⟩ => ?_
  subst he
  simp only [hd]
  exact K v post hR _ w' (hk.put hn v) (hm.callP (tk_perm hL) hp)
theorem G_callMN {ops : Array Oper} {i : Nat} {rest : List Nat} {o : Oper} {g : FuncId} {xs : Array Operand} {ts : Array TypeId} {args : List Value} {A' L' L2 : List (Option Nat × Obj)} {R' : Value → List (Option Nat × Obj) → Prop}
    (ho : ops[i]? = some o) (hd : o.dst = none) (hg : fguard ops env o = some true) (hop : o.op = .call ⟨.value (.func g), xs, ts⟩) (hxs : fevs env xs.toList = some args)
    (hcf : ∀ (az : Array Value) w, (callFunc g az).run c.P w = .ok (.enter g az) w) (hct : Ct c.P g args A' L' R') (is : List Nat) (hL : tk is L = some (L', L2)) (hA : ∀ x ∈ A', x ∈ c.A ++ L2)
    (K : ∀ v post, R' v post → G c n env (post ++ L2) (.inRegion ops rest :: k)) : G c n env L (.inRegion ops (i :: rest) :: k) := by
  intro a w hk hm
  refine goes_op ho (wanted_of hk hg) ?_
  have hx : xs.map a.eval = args.toArray := by
    apply Array.toList_inj.1
    simpa using hk.evals hxs
  have hr : (execOp a.eval o).run c.P w = .ok (.enter g args.toArray) w := by
    unfold execOp
    simp [hop, resolve, Act.eval, Deferred.ofValue, hx, invoke, hcf]
  rw [hr, Oper.upon_enter]
  refine (hct w (hm.has_callP (tk_perm hL) hA)).mono fun e w' ⟨v, post, he, hR, hp⟩ => ?_
  subst he
  simp only [hd]
  exact K v post hR _ w' (hk.putNone v) (hm.callP (tk_perm hL) hp)
end
/-- A slice that the call has is appended to another one. -/
theorem src_own {c : Cx} {L : List (Option Nat × Obj)} {u : Sl} {m : Nat} {T : TypeId} {news : List Value} (hu : Own 1 u news m) (hm : (u.ob, Obj.cells u.cs T u.fz) ∈ c.A ++ L) (h1 : ∀ x ∈ news, x.oneCell' = true) (w : World) (hw : Has w c.A L) :
    Src c.P w 1 (u.v m) m news := by
  obtain ⟨ob, cs, fz, cap⟩ := u
  have hs := hu.sees
  cases ob with
  | none =>
    have h0 := hs.isNil rfl
    have h2 := hs.le
    simp only at h0 h2
    have hm0 : m = 0 := by omega
    have hl := hs.len
    rw [hm0, Nat.zero_mul] at hl
    rw [List.length_eq_zero_iff.1 hl, hm0]
    show Src c.P w 1 (.slice none 0 cap) 0 []
    rw [h0]
    exact src_nil
  | some b => exact src_mem hm hs.len (by rw [hs.len]; exact hs.part) h1 w hw
theorem strs_all (ls : List (List UInt8)) : ∀ u ∈ ls.map strC, u.oneCell' = true := by
  intro u hu
  obtain ⟨l, _, rfl⟩ := List.mem_map.1 hu
  simp [strC, Value.oneCell']
theorem sees_nil0 (sz : Nat) : Sees sz none 0 0 #[] [] 0 := ⟨by simp, Nat.le_refl _, by omega, by simp, fun _ => rfl⟩
end Go.Proofs.Ytkekkalgebgokaa

/- Blocks of unknown number that a call owns. No program in sight. -/
set_option linter.unusedSimpArgs false
set_option linter.unusedVariables false
namespace Go.Proofs.Ytkekkalgebgokaa
open Go Go.RowKit

section
variable {c : Cx} {n : Nat} {env : List (Nat × Value)} {L : List (Option Nat × Obj)} {k : List Item}
theorem G_perm {todo : List Item} {L' : List (Option Nat × Obj)} (hp : L.Perm L') (h : G c n env L' todo) : G c n env L todo :=
  fun a w hk hm => h a w hk (hm.sub (L' := L') (R := []) (by simpa using hp))
/-- What is kept: some blocks by their places, and of the others those of a list. -/
theorem G_subT {todo : List Item} {e : List (Nat × Value)} {L1 T : List (Option Nat × Obj)} (he : FSub e env) (is : List Nat) (hl : ∃ M R, tk is L = some (L1, M) ∧ M.Perm (T ++ R)) (h : G c n e (L1 ++ T) todo) : G c n env L todo :=
  let ⟨_, _, hl, hp⟩ := hl
  fun a w hk hm => h a w (hk.sub he) (hm.sub (R := _) ((tk_perm hl).trans (by
    rw [List.append_assoc]
    exact hp.append_left _)))
theorem G_loop1 {body : Code} (h : G c n env L (.code body :: .inLoop body :: k)) : G c n env L (.code (.loop body) :: k) := fun a w hk hm => goes_of (fun _ _ => step_loop) (h a w hk hm)
theorem G_again {body : Code} (h : G c n env L (.code body :: .inLoop body :: k)) : G c n env L (.inLoop body :: k) := fun a w hk hm => goes_of (fun _ _ => step_inLoop) (h a w hk hm)
theorem G_retT {fn : Func} {rs : List ResultVar} {vs : List Value} {p1 T : List (Option Nat × Obj)} (hf : c.P.funcs[c.f]? = some fn) (hr : fn.results = rs.toArray)
    (hv : RVs c n env L rs vs) (is : List Nat) (hl : ∃ M R, tk is L = some (p1, M) ∧ M.Perm (T ++ R)) (hR : c.R (packed vs) (p1 ++ T)) (hds : c.ds = [] := by rfl) : G c n env L (.code .ret :: k) := by
  obtain ⟨M, R, hl, hp⟩ := hl
  intro a w hk hm b hb hkind cs
  have h3 := goes_ret (post := p1 ++ T) hr hv hk hm
  have hm' : Mem c.w0 c.A c.S (p1 ++ T) w := hm.sub (R := R) ((tk_perm hl).trans (by rw [List.append_assoc]; exact hp.append_left _))
  exact ⟨packed vs, p1 ++ T, w, _, hR, hm'.dropA, .one step_ret, hb, rfl, hk.defers.trans hds, hkind, fn, by rw [← hf, ← hb]; rfl, h3⟩
theorem G_callMC {ops : Array Oper} {i : Nat} {rest : List Nat} {o : Oper} {d : Nat} {g : FuncId} {x : Operand} {xs : Array Operand} {ts : Array TypeId} {args vs : List Value} {A' L' L2 : List (Option Nat × Obj)} {R' : Value → List (Option Nat × Obj) → Prop}
    (ho : ops[i]? = some o) (hd : o.dst = some d) (hn : Nat.blt d n = true) (hg : fguard ops env o = some true) (hop : o.op = .call ⟨.value x, xs, ts⟩) (hxs : fevs env xs.toList = some args)
    (hcf : ∀ (az : Array Value) w, (callFunc g az).run c.P w = .ok (.enter g az) w) (hfn : fev env x = some (.func (.func g) #[] vs.toArray)) (hct : Ct c.P g (args ++ vs) A' L' R') (is : List Nat) (hL : tk is L = some (L', L2)) (hA : ∀ x ∈ A', x ∈ c.A ++ L2)
    (K : ∀ v post, R' v post → G c n ((d, v) :: env) (post ++ L2) (.inRegion ops rest :: k)) : G c n env L (.inRegion ops (i :: rest) :: k) := by
  intro a w hk hm
  refine goes_op ho (wanted_of hk hg) ?_
  have hx : xs.map a.eval = args.toArray := by
    apply Array.toList_inj.1
    simpa using hk.evals hxs
  have hr : (execOp a.eval o).run c.P w = .ok (.enter g (args ++ vs).toArray) w := by
    unfold execOp
    simp only [hop, resolve, hk.eval hfn, hx]
    simp [Deferred.ofValue, invoke, hcf]
  rw [hr, Oper.upon_enter]
  refine (hct w (hm.has_callP (tk_perm hL) hA)).mono fun e w' ⟨v, post, he, hR, hp⟩ => ?_
  subst he
  simp only [hd]
  exact K v post hR _ w' (hk.put hn v) (hm.callP (tk_perm hL) hp)
theorem GHop_callM {ops : Array Oper} {Lq : List (Option Nat × Obj)} {fuel : Nat} {listed : Array Bool} {o : Oper} {i d : Nat} {g : FuncId} {xs : Array Operand} {ts : Array TypeId} {args : List Value} {A' L' L2 : List (Option Nat × Obj)} {R' : Value → List (Option Nat × Obj) → Prop}
    (ho : ops[i]? = some o) (hd : o.dst = some d) (hn : Nat.blt d n = true) (hg : fguard ops env o = some true) (hop : o.op = .call ⟨.value (.func g), xs, ts⟩) (hxs : fevs env xs.toList = some args)
    (hcf : ∀ (az : Array Value) w, (callFunc g az).run c.P w = .ok (.enter g az) w) (hct : Ct c.P g args A' L' R') (is : List Nat) (hL : tk is L = some (L', L2)) (hA : ∀ x ∈ A', x ∈ c.A ++ L2)
    (isq : List Nat) (hq : ∀ v post, R' v post → ∃ M, tk isq (post ++ L2) = some (Lq, M)) (K : ∀ v post, R' v post → GH c n ops Lq fuel (listed.setIfInBounds i true) ((d, v) :: env) (post ++ L2) k) : GHop c n ops Lq fuel listed env L k i := by
  intro a w hk hm hw
  refine ghop_of ho (wanted_of hk hg) ?_
  have hx : xs.map a.eval = args.toArray := by
    apply Array.toList_inj.1
    simpa using hk.evals hxs
  have hr : (execOp a.eval o).run c.P w = .ok (.enter g args.toArray) w := by
    unfold execOp
    simp [hop, resolve, Act.eval, Deferred.ofValue, hx, invoke, hcf]
  rw [hr, Oper.upon_enter]
  refine (hct w (hm.has_callP (tk_perm hL) hA)).mono fun e w' ⟨v, post, he, hR, hp⟩ => ?_
  subst he
  simp only [hd]
  have hm' := hm.callP (tk_perm hL) hp
  obtain ⟨M', hM⟩ := hq v post hR
  exact ⟨hs_of hm' hM, K v post hR _ w' (hk.put hn v) hm' (hs_of hm' hM)⟩
theorem GQ_callM {ops : Array Oper} {i : Nat} {o : Oper} {d : Nat} {g : FuncId} {xs : Array Operand} {ts : Array TypeId} {args : List Value} {A' : List (Option Nat × Obj)} {R' : Value → List (Option Nat × Obj) → Prop} {v0 : Value}
    (ho : ops[i]? = some o) (hd : o.dst = some d) (hn : Nat.blt d n = true) (hg : fguard ops env o = some true) (hop : o.op = .call ⟨.value (.func g), xs, ts⟩) (hxs : fevs env xs.toList = some args)
    (hcf : ∀ (az : Array Value) w, (callFunc g az).run c.P w = .ok (.enter g az) w) (hct : Ct c.P g args A' [] R') (hA : ∀ x ∈ A', x ∈ c.A ++ L) (hv : ∀ v post, R' v post → v = v0)
    (h : GQ c n ops ((d, v0) :: env) L (i + 1) k) : GQ c n ops env L i k := by
  intro a hk
  rw [drop_at ho]
  simp only [wpQuiet]
  rw [if_pos (wanted_of hk hg)]
  refine ⟨v0, fun w hm => ?_, ?_⟩
  · have hx : xs.map a.eval = args.toArray := by
      apply Array.toList_inj.1
      simpa using hk.evals hxs
    have hr : (execOp a.eval o).run c.P w = .ok (.enter g args.toArray) w := by
      unfold execOp
      simp [hop, resolve, Act.eval, Deferred.ofValue, hx, invoke, hcf]
    unfold Oper.quietAt
    rw [hr]
    have hL : tk [] L = some ([], L) := rfl
    refine ⟨rfl, (hct w (hm.has_callP (tk_perm hL) hA)).mono fun e w' ⟨v, post, he, hR, hp⟩ => ?_⟩
    have := hv v post hR
    subst this
    exact ⟨he, (hm.callP (tk_perm hL) hp).sub (L' := L) List.perm_append_comm⟩
  · rw [hd]
    exact h _ (hk.put hn v0)
end
theorem ext_indexByte {P : Program} (l : List UInt8) (x : UInt8) (w : World) : (Extern.BytealgIndexByte.indexByte #[.string (bs l), .int .u8 (x.toNat : Int)]).run P w = .ok (.int .i64 (Lib.indexByte l x)) w := by
  rw [Lib.run_indexByteString]
  simp [bs]
theorem perm_in {α : Type} (P F T T' : List α) : ((P ++ T') ++ (F ++ T)).Perm (P ++ F ++ (T' ++ T)) := by
  rw [List.append_assoc, List.append_assoc]
  refine List.Perm.append_left P ?_
  rw [← List.append_assoc, ← List.append_assoc]
  exact List.Perm.append_right T List.perm_append_comm
theorem perm_in0 {α : Type} (P F T' : List α) : ((P ++ T') ++ F).Perm (P ++ F ++ T') := by
  rw [List.append_assoc, List.append_assoc]
  exact List.Perm.append_left P List.perm_append_comm
theorem perm_bk {α β : Type} (f : β → α) (ms : List β) (m : β) (J1 J2 : List α) : (J1 ++ (f m :: (J2 ++ ms.map f))).Perm ((ms ++ [m]).map f ++ (J1 ++ J2)) := by
  rw [List.map_append, List.map_singleton]
  have h1 : (J1 ++ (f m :: (J2 ++ ms.map f))).Perm (f m :: (J1 ++ (J2 ++ ms.map f))) := List.perm_middle
  have h2 : (J1 ++ (J2 ++ ms.map f)).Perm (ms.map f ++ (J1 ++ J2)) := by rw [← List.append_assoc]; exact List.perm_append_comm
  refine h1.trans ((List.Perm.cons _ h2).trans ?_)
  rw [List.append_assoc]
  exact List.perm_middle.symm
end Go.Proofs.Ytkekkalgebgokaa

/- Events of a script in plain lists: which may be, each as bytes; how they lie in memory. -/
set_option linter.unusedSimpArgs false
set_option linter.unusedVariables false
namespace Go.Proofs.Ytkekkalgebgokaa
open Go Go.RowKit

section



/-- An event of a script. -/
structure Ev where
  kd : Int
  b : List UInt8
  t : Nat
  f : Int
  ks : List (Int × Int)
deriving DecidableEq
def zeroE : Ev := ⟨0, [], 0, 0, []⟩
def badK (x : Int × Int) : Bool := decide (x.1 < 0 ∨ 1099511627776 < x.1 ∨ x.2 < 0 ∨ 64 < x.2)
/-- Which events may be. -/
def MayE (e : Ev) : Prop := (1 ≤ e.kd ∧ e.kd ≤ 3) ∧ e.b.length ≤ 600 ∧ (e.kd = 2 → e.b = []) ∧ (e.kd ≠ 3 → e.f = 0 ∧ e.ks = []) ∧ (-1 ≤ e.f ∧ e.f < 1099511627776) ∧ e.ks.length ≤ 64 ∧ ∀ x ∈ e.ks, badK x = false
instance (e : Ev) : Decidable (MayE e) := by unfold MayE; infer_instance
def GoodK (x : Int × Int) : Prop := badK x = false
theorem goodK {x : Int × Int} (h : badK x = false) : 0 ≤ x.1 ∧ x.1 ≤ 1099511627776 ∧ 0 ≤ x.2 ∧ x.2 ≤ 64 := by
  unfold badK at h; rw [decide_eq_false_iff_not] at h; omega
theorem goodK' {x : Int × Int} (h : 0 ≤ x.1 ∧ x.1 ≤ 1099511627776 ∧ 0 ≤ x.2 ∧ x.2 ≤ 64) : badK x = false := by
  unfold badK; rw [decide_eq_false_iff_not]; omega
def encK (x : Int × Int) : List UInt8 := chainI x.1 ++ chainI x.2
/-- What a letter tells of an event, as bytes. -/
def encE (e : Ev) : List UInt8 := chainI e.kd ++ (chainI (e.t : Int) ++ ((if e.kd = 2 then [] else text e.b) ++ (if e.kd = 3 then chainI (e.f + 1) ++ (chainI (e.ks.length : Int) ++ e.ks.flatMap encK) else [])))
theorem enc1 {e : Ev} (h : e.kd = 1) : encE e = chainI e.kd ++ (chainI (e.t : Int) ++ text e.b) := by unfold encE; rw [if_neg (by omega), if_neg (by omega), List.append_nil]
theorem enc2 {e : Ev} (h : e.kd = 2) : encE e = chainI e.kd ++ chainI (e.t : Int) := by unfold encE; rw [if_pos h, if_neg (by omega)]; simp
theorem enc3 {e : Ev} (h : e.kd = 3) : encE e = chainI e.kd ++ (chainI (e.t : Int) ++ (text e.b ++ (chainI (e.f + 1) ++ (chainI (e.ks.length : Int) ++ e.ks.flatMap encK)))) := by unfold encE; rw [if_neg (by omega), if_pos h]
def encS (es : List Ev) : List UInt8 := encList encE es
def MayS (es : List Ev) : Prop := (es.length : Int) ≤ 400 ∧ ∀ e ∈ es, MayE e
theorem encK_len {x : Int × Int} (h : badK x = false) : (encK x).length ≤ 20 := by
  obtain ⟨h1, h2, h3, h4⟩ := goodK h
  have a := chainI_len x.1 h1 (by omega)
  have b := chainI_len x.2 h3 (by omega)
  unfold encK; rw [List.length_append]; omega
theorem encKs_len : ∀ {ks : List (Int × Int)}, (∀ x ∈ ks, badK x = false) → (ks.flatMap encK).length ≤ 20 * ks.length
  | [], _ => by simp
  | x :: r, h => by
    have a := encK_len (h x (by simp))
    have b := encKs_len (ks := r) (fun y hy => h y (by simp [hy]))
    simp only [List.flatMap_cons, List.length_append, List.length_cons]; omega
theorem encE_len {e : Ev} (h : MayE e) (ht : e.t < 18446744073709551616) : (encE e).length ≤ 2000 := by
  obtain ⟨h1, h2, h3, h4, h5, h6, h7⟩ := h
  have a1 := chainI_len e.kd (by omega) (by omega)
  have a2 := chainI_len (e.t : Int) (by omega) (by omega)
  have a3 := text_len e.b (by omega)
  have a4 := chainI_len (e.f + 1) (by omega) (by omega)
  have a5 := chainI_len (e.ks.length : Int) (by omega) (by omega)
  have a6 := encKs_len h7
  rcases (by omega : e.kd = 1 ∨ e.kd = 2 ∨ e.kd = 3) with k | k | k
  · rw [enc1 k]; simp only [List.length_append]; omega
  · rw [enc2 k]; simp only [List.length_append]; omega
  · rw [enc3 k]; simp only [List.length_append]; omega
theorem encEs_len : ∀ {es : List Ev}, (∀ e ∈ es, MayE e ∧ e.t < 18446744073709551616) → (es.flatMap encE).length ≤ 2000 * es.length
  | [], _ => by simp
  | x :: r, h => by
    have a := encE_len (h x (by simp)).1 (h x (by simp)).2
    have b := encEs_len (es := r) (fun y hy => h y (by simp [hy]))
    simp only [List.flatMap_cons, List.length_append, List.length_cons]; omega
/-- One keep is read. -/
theorem rdg_k {l1 l2 l3 : List UInt8} {e1 e2 e3 a b : Nat} (ha : rdInt 1099511627776 l1 e1 = (a, l2, e2)) (hb : rdInt 64 l2 e2 = (b, l3, e3)) (he : e1 ≤ 1000) :
    Rdg encK GoodK l1 e1 ((a : Int), (b : Int)) l3 e3 ∧ GoodK ((a : Int), (b : Int)) ∧ l2.length ≤ l1.length ∧ e2 ≤ 1000 ∧ l3.length ≤ l1.length ∧ e3 ≤ 1000 := by
  have h1 := rdg_int 1099511627776 l1 e1 he (by omega)
  rw [ha] at h1
  have h2 := rdg_int 64 l2 e2 h1.err (by omega)
  rw [hb] at h2
  refine ⟨h1.seq h2 (fun x => x.1.toNat) (fun x => x.2.toNat) (by simp) (by simp) ?_ ?_ ?_ ?_, ?_, h1.len, h1.err, Nat.le_trans h2.len h1.len, h2.err⟩
  · intro x y hx hy e1 e2
    have k1 := goodK hx; have k2 := goodK hy
    exact Prod.ext (by omega) (by omega)
  · intro x hx
    have k1 := goodK hx
    unfold goodInt
    omega
  · intro k1 k2
    unfold goodInt at k1 k2
    exact goodK' (by simp only at *; omega)
  · intro x hx
    have k1 := goodK hx
    unfold encK encNum
    rw [Int.toNat_of_nonneg k1.1, Int.toNat_of_nonneg k1.2.2.1]
  · have k1 := (rdInt_bd 1099511627776 l1 e1 he (by omega)).1
    have k2 := (rdInt_bd 64 l2 e2 h1.err (by omega)).1
    rw [ha] at k1
    rw [hb] at k2
    exact goodK' (by simp only at *; omega)
theorem mayE_mk {kd f : Int} {b : List UInt8} {t : Nat} {ks : List (Int × Int)} (h1 : 1 ≤ kd ∧ kd ≤ 3) (h2 : b.length ≤ 600) (h3 : kd = 2 → b = []) (h4 : kd ≠ 3 → f = 0 ∧ ks = []) (h5 : -1 ≤ f ∧ f < 1099511627776) (h6 : ks.length ≤ 64) (h7 : ∀ x ∈ ks, badK x = false) : MayE ⟨kd, b, t, f, ks⟩ := ⟨h1, h2, h3, h4, h5, h6, h7⟩
def GoodE (e : Ev) : Prop := MayE e ∧ e.t < 18446744073709551616
def tailE (e : Ev) : List UInt8 := chainI (e.t : Int) ++ ((if e.kd = 2 then [] else text e.b) ++ (if e.kd = 3 then chainI (e.f + 1) ++ (chainI (e.ks.length : Int) ++ e.ks.flatMap encK) else []))
theorem enc_tail {e : Ev} (h : GoodE e) : encE e = encNum e.kd.toNat ++ tailE e := by
  have := h.1.1
  unfold encE tailE encNum; rw [Int.toNat_of_nonneg (by omega)]
theorem kd_ok {e : Ev} (h : GoodE e) : goodInt 3 e.kd.toNat := by
  have := h.1.1
  unfold goodInt; omega
theorem ev0 {l l0 : List UInt8} {e e0 n : Nat} (r0 : Rdg encNum (goodInt 3) l e n l0 e0) (hn : n = 0) : ∀ w r, e = 0 → GoodE w → l ≠ encE w ++ r :=
  r0.none (fun x => x.kd.toNat) tailE (fun _ h => enc_tail h) (fun _ h => kd_ok h) (fun x h => by have := h.1.1; omega)
theorem ev1 {l l0 l1 l2 s : List UInt8} {e e0 e1 e2 n tt : Nat} (r0 : Rdg encNum (goodInt 3) l e n l0 e0) (hn : n = 1) (r1 : Rdg encNum goodNum l0 e0 tt l1 e1) (r2 : Rdg text (goodStr 600) l1 e1 s l2 e2) : Rdg encE GoodE l e ⟨1, s, tt, 0, []⟩ l2 e2 := by
  subst hn
  refine r0.dep (r1.pair r2) (fun x => x.kd.toNat) tailE (fun x => (x.t, x.b)) (fun _ h => enc_tail h) (fun _ h => kd_ok h) ?_ ?_ ?_
  · intro x h hk
    have h1 := h.1.1
    obtain ⟨⟨_, h2, _⟩, h3⟩ := h
    refine ⟨?_, h3, by show (x.b.length : Int) ≤ 600; omega⟩
    unfold tailE encNum; rw [if_neg (by omega), if_neg (by omega), List.append_nil]
  · intro x h hk hp
    obtain ⟨k, b, t, f, ks⟩ := x
    obtain ⟨⟨h1, h2, h3, h4, h5⟩, h6⟩ := h
    simp only [Prod.mk.injEq] at hp hk h1 h4
    obtain ⟨rfl, rfl⟩ := hp
    obtain ⟨rfl, rfl⟩ := h4 (by omega)
    obtain rfl : k = 1 := by omega
    rfl
  · intro _ hg
    obtain ⟨g1, g2⟩ := hg
    unfold goodStr at g2
    refine ⟨⟨mayE_mk (by decide) (by simp only at g2; omega) (by intro h; omega) (by intro _; exact ⟨rfl, rfl⟩) (by decide) (by decide) (by simp), g1⟩, ?_⟩
    rw [enc1 rfl]; rfl
theorem ev2 {l l0 l1 : List UInt8} {e e0 e1 n tt : Nat} (r0 : Rdg encNum (goodInt 3) l e n l0 e0) (hn : n = 2) (r1 : Rdg encNum goodNum l0 e0 tt l1 e1) : Rdg encE GoodE l e ⟨2, [], tt, 0, []⟩ l1 e1 := by
  subst hn
  refine r0.dep r1 (fun x => x.kd.toNat) tailE (fun x => x.t) (fun _ h => enc_tail h) (fun _ h => kd_ok h) ?_ ?_ ?_
  · intro x h hk
    have h1 := h.1.1
    refine ⟨?_, h.2⟩
    unfold tailE encNum; rw [if_pos (by omega), if_neg (by omega)]; simp
  · intro x h hk hp
    obtain ⟨k, b, t, f, ks⟩ := x
    obtain ⟨⟨h1, h2, h3, h4, h5⟩, h6⟩ := h
    simp only at hp hk h1 h3 h4
    subst hp
    obtain ⟨rfl, rfl⟩ := h4 (by omega)
    obtain rfl := h3 (by omega)
    obtain rfl : k = 2 := by omega
    rfl
  · intro _ hg
    refine ⟨⟨mayE_mk (by decide) (by decide) (by intro _; rfl) (by intro _; exact ⟨rfl, rfl⟩) (by decide) (by decide) (by simp), hg⟩, ?_⟩
    rw [enc2 rfl]; rfl
theorem ev3 {l l0 l1 l2 l3 l4 s : List UInt8} {e e0 e1 e2 e3 e4 n tt z : Nat} {ks : List (Int × Int)} (r0 : Rdg encNum (goodInt 3) l e n l0 e0) (hn : n = 3) (r1 : Rdg encNum goodNum l0 e0 tt l1 e1) (r2 : Rdg text (goodStr 600) l1 e1 s l2 e2) (r3 : Rdg encNum (goodInt 1099511627776) l2 e2 z l3 e3)
    (r4 : Rdg (encList encK) (fun ks => (ks.length : Int) ≤ 64 ∧ ∀ x ∈ ks, GoodK x) l3 e3 ks l4 e4) : Rdg encE GoodE l e ⟨3, s, tt, (z : Int) - 1, ks⟩ l4 e4 := by
  subst hn
  refine r0.dep (r1.pair (r2.pair (r3.pair r4))) (fun x => x.kd.toNat) tailE (fun x => (x.t, x.b, (x.f + 1).toNat, x.ks)) (fun _ h => enc_tail h) (fun _ h => kd_ok h) ?_ ?_ ?_
  · intro x h hk
    have h1 := h.1.1
    obtain ⟨⟨_, h2, h3, h4, h5, h6, h7⟩, h8⟩ := h
    refine ⟨?_, h8, by show (x.b.length : Int) ≤ 600; omega, by show (((x.f + 1).toNat : Nat) : Int) ≤ 1099511627776; omega, by show (x.ks.length : Int) ≤ 64; omega, h7⟩
    unfold tailE encNum encList; rw [if_neg (by omega), if_pos (by omega)]
    simp only
    rw [Int.toNat_of_nonneg (show 0 ≤ x.f + 1 by omega)]
  · intro x h hk hp
    obtain ⟨k, b, t, f, ks⟩ := x
    obtain ⟨⟨h1, h2, h3, h4, h5, h6, h7⟩, h8⟩ := h
    simp only [Prod.mk.injEq] at hp hk h1 h5
    obtain ⟨rfl, rfl, rfl, rfl⟩ := hp
    obtain rfl : k = 3 := by omega
    rw [Int.toNat_of_nonneg (show 0 ≤ f + 1 by omega)]
    simp
  · intro _ hg
    obtain ⟨g1, g2, g3, g4, g5⟩ := hg
    unfold goodStr at g2
    unfold goodInt at g3
    refine ⟨⟨mayE_mk (by decide) (by simp only at g2; omega) (by intro h; omega) (by intro h; exact absurd rfl h) (by simp only at g3; omega) (by simp only at g4; omega) g5, g1⟩, ?_⟩
    rw [enc3 rfl]
    simp [encNum, encList]
/-- What is told of an event that was read. -/
def EvR (l : List UInt8) (e : Nat) (v : Ev) (l1 : List UInt8) (e1 : Nat) : Prop := Rdg encE GoodE l e v l1 e1 ∨ (v.kd = 0 ∧ ∀ w r, e = 0 → GoodE w → l ≠ encE w ++ r)
theorem goodK_bd {ks : List (Int × Int)} (h : ∀ x ∈ ks, GoodK x) : ∀ x ∈ ks, (-9223372036854775808 ≤ x.1 ∧ x.1 ≤ 9223372036854775807) ∧ (-9223372036854775808 ≤ x.2 ∧ x.2 ≤ 9223372036854775807) := fun x hx => by
  have := goodK (h x hx); omega
theorem goodKs_next {ks : List (Int × Int)} {y : Int × Int} (h : ∀ x ∈ ks, GoodK x) (hy : GoodK y) : ∀ x ∈ ks ++ [y], GoodK x := fun x hx => by
  rcases List.mem_append.1 hx with h1 | h1
  · exact h x h1
  · rw [List.mem_singleton.1 h1]; exact hy
/-- The letters of a kind. -/
def fieldsE (k : Int) : List UInt8 := if k = 1 then [116, 98] else if k = 2 then [116] else if k = 3 then [116, 98, 102, 107] else []
def hasE' (k : Int) (x : UInt8) : Bool := decide (0 ≤ Lib.indexByte (fieldsE k) x)
theorem fields_none {k : Int} (h : ¬ (1 ≤ k ∧ k ≤ 3)) : fieldsE k = [] := by
  unfold fieldsE; rw [if_neg (by omega), if_neg (by omega), if_neg (by omega)]
theorem kinds (k : Int) : k = 1 ∨ k = 2 ∨ k = 3 ∨ ¬ (1 ≤ k ∧ k ≤ 3) := by omega
/-- An event in memory: its list lies somewhere. -/
structure Em where
  v : Ev
  p : Option Addr
  ob : Option Nat
  off : Nat
  cap : Nat
  cs : Array Value
  T : TypeId
  fr : Nat × Nat
instance : Inhabited Em := ⟨⟨zeroE, none, none, 0, 0, #[], 0, (0, 0)⟩⟩
def kC (x : Int × Int) : List Value := [.int .i64 x.1, .int .i64 x.2]
theorem kC_len (x : Int × Int) : (kC x).length = 2 := rfl
def evS (m : Em) : Value := .slice m.p m.v.ks.length m.cap
def evV (e : Ev) (s : Value) : List Value := [.int .i64 e.kd, .string (bs e.b), .int .u64 (e.t : Int), .int .i64 e.f, s]
def evC (m : Em) : List Value := evV m.v (evS m)
theorem evC_len (m : Em) : (evC m).length = 5 := rfl
def evK (m : Em) : Option Nat × Obj := (m.ob, .cells m.cs m.T m.fr)
structure EmOk (m : Em) : Prop where
  k : -9223372036854775808 ≤ m.v.kd ∧ m.v.kd ≤ 9223372036854775807
  b : m.v.b.length ≤ 9223372036854775807
  t : m.v.t < 18446744073709551616
  f : -9223372036854775808 ≤ m.v.f ∧ m.v.f ≤ 9223372036854775807
  ks : ∀ x ∈ m.v.ks, (-9223372036854775808 ≤ x.1 ∧ x.1 ≤ 9223372036854775807) ∧ (-9223372036854775808 ≤ x.2 ∧ x.2 ≤ 9223372036854775807)
  le : m.v.ks.length ≤ m.cap
  max : m.cap ≤ 9223372036854775807
  sees : (m.p = m.ob.map (fun b => ⟨b, m.off, none⟩) ∧ Sees 2 m.ob m.off m.cap m.cs (m.v.ks.flatMap kC) m.v.ks.length) ∨ (m.v.ks = [] ∧ m.cap = 0)
theorem EmOk.isS {m : Em} (h : EmOk m) {i : Nat} (hi : i < m.v.ks.length) : ∃ b, m.ob = some b ∧ m.p = some ⟨b, m.off, none⟩ ∧ Sees 2 (some b) m.off m.cap m.cs (m.v.ks.flatMap kC) m.v.ks.length := by
  rcases h.sees with ⟨h1, h2⟩ | ⟨h1, h2⟩
  · obtain ⟨b, hb⟩ := h2.isSome (by omega)
    refine ⟨b, hb, by rw [h1, hb]; rfl, ?_⟩
    rw [hb] at h2; exact h2
  · rw [h1] at hi; simp at hi
theorem EmOk.at {m : Em} (h : EmOk m) {i : Nat} (hi : i < m.v.ks.length) : ∃ b, evS m = .slice (some ⟨b, m.off, none⟩) m.v.ks.length m.cap ∧ Sees 2 (some b) m.off m.cap m.cs (m.v.ks.flatMap kC) m.v.ks.length ∧ evK m = (some b, .cells m.cs m.T m.fr) := by
  obtain ⟨b, h1, h2, h3⟩ := h.isS hi
  exact ⟨b, by unfold evS; rw [h2], h3, by unfold evK; rw [h1]⟩
theorem sees_k {ob : Option Nat} {off cap : Nat} {cs : Array Value} {l : List (Int × Int)} (h : Sees 2 ob off cap cs (l.flatMap kC) l.length) {i : Nat} {a : Int × Int} (ha : l[i]? = some a) (k : Nat) (hk : k < 2) {v : Value} (hv : (kC a)[k]? = some v) :
    cs[off + i * 2 + k]? = some v := by
  have h1 := flat_part kC kC_len l ha k
  rw [if_pos hk, hv] at h1
  have h2 := h.at h1
  rwa [← Nat.add_assoc] at h2
theorem sees_e {ob : Option Nat} {off cap : Nat} {cs : Array Value} {l : List Em} (h : Sees 5 ob off cap cs (l.flatMap evC) l.length) {i : Nat} {a : Em} (ha : l[i]? = some a) (k : Nat) (hk : k < 5) {v : Value} (hv : (evC a)[k]? = some v) :
    cs[off + i * 5 + k]? = some v := by
  have h1 := flat_part evC evC_len l ha k
  rw [if_pos hk, hv] at h1
  have h2 := h.at h1
  rwa [← Nat.add_assoc] at h2
/-- The events of a list in memory. -/
def evsOf (ms : List Em) : List Ev := ms.map Em.v
def txE (ms : List Em) (i : Nat) : List UInt8 := chainI (ms.length : Int) ++ (evsOf (ms.take i)).flatMap encE
theorem txE_end {ms : List Em} {i : Nat} (h : ms.length ≤ i) : txE ms i = encS (evsOf ms) := by
  unfold txE encS encList evsOf; rw [List.take_of_length_le h, List.length_map]
theorem txE_next {ms : List Em} {i : Nat} {x : Em} (h : ms[i]? = some x) : txE ms i ++ encE x.v = txE ms (i + 1) := by
  unfold txE evsOf
  obtain ⟨hi, rfl⟩ := List.getElem?_eq_some_iff.1 h
  rw [List.take_succ_eq_append_getElem hi, List.map_append, List.flatMap_append, List.append_assoc]
  exact congrArg _ (congrArg _ (by simp))
theorem txE_len {ms : List Em} (h : ms.length ≤ 400) (hok : ∀ m ∈ ms, EmOk m) {i : Nat} (hm : ∀ m ∈ ms.take i, MayE m.v) : (txE ms i).length ≤ 10 + 2000 * 400 := by
  have a := chainI_len (ms.length : Int) (by omega) (by omega)
  have b := encEs_len (es := evsOf (ms.take i)) (fun e he => by
    obtain ⟨m, hmm, rfl⟩ := List.mem_map.1 he
    exact ⟨hm m hmm, (hok m (List.mem_of_mem_take hmm)).t⟩)
  have c : (evsOf (ms.take i)).length ≤ 400 := by unfold evsOf; rw [List.length_map, List.length_take]; omega
  unfold txE; rw [List.length_append]; omega
theorem mayE_next {ms : List Em} {i : Nat} {x : Em} (h : ∀ m ∈ ms.take i, MayE m.v) (hx : ms[i]? = some x) (hm : MayE x.v) : ∀ m ∈ ms.take (i + 1), MayE m.v := by
  obtain ⟨hi, rfl⟩ := List.getElem?_eq_some_iff.1 hx
  intro m hmm
  rw [List.take_succ_eq_append_getElem hi, List.mem_append, List.mem_singleton] at hmm
  rcases hmm with h1 | h1
  · exact h m h1
  · rw [h1]; exact hm
/-- What Encode tells. -/
def scrT (es : List Ev) : Value := if 400 < es.length then .tuple #[.string (bs []), .int .i64 9] else if ∀ e ∈ es, MayE e then .tuple #[.string (bs (encS es)), .int .i64 0] else .tuple #[.string (bs []), .int .i64 1]
theorem scrT_many {ms : List Em} (h : 400 < ms.length) : scrT (evsOf ms) = .tuple #[.string (bs []), .int .i64 9] := by
  unfold scrT evsOf; rw [List.length_map, if_pos h]
theorem scrT_no {ms : List Em} {i : Nat} {x : Em} (h : ¬ 400 < ms.length) (hx : ms[i]? = some x) (hm : ¬ MayE x.v) : scrT (evsOf ms) = .tuple #[.string (bs []), .int .i64 1] := by
  unfold scrT evsOf; rw [List.length_map, if_neg h, if_neg]
  intro hh
  exact hm (hh _ (List.mem_map.2 ⟨x, List.mem_of_getElem? hx, rfl⟩))
theorem scrT_yes {ms : List Em} {i : Nat} (h : ¬ 400 < ms.length) (hi : ms.length ≤ i) (hm : ∀ m ∈ ms.take i, MayE m.v) : scrT (evsOf ms) = .tuple #[.string (bs (txE ms i)), .int .i64 0] := by
  rw [txE_end hi]
  unfold scrT
  rw [if_neg (by unfold evsOf; rw [List.length_map]; exact h), if_pos]
  intro e he
  obtain ⟨m, hmm, rfl⟩ := List.mem_map.1 he
  rw [List.take_of_length_le hi] at hm
  exact hm m hmm
def ksT (x : Ev) (j : Nat) : List UInt8 := chainI (x.ks.length : Int) ++ (x.ks.take j).flatMap encK
theorem ksT_zero (x : Ev) : chainI (x.ks.length : Int) = ksT x 0 := by unfold ksT; simp
theorem ksT_next {x : Ev} {j : Nat} {y : Int × Int} (h : x.ks[j]? = some y) : ksT x j ++ chainI y.1 ++ chainI y.2 = ksT x (j + 1) := by
  obtain ⟨hi, rfl⟩ := List.getElem?_eq_some_iff.1 h
  unfold ksT
  rw [List.take_succ_eq_append_getElem hi, List.flatMap_append, List.append_assoc, List.append_assoc]
  exact congrArg _ (congrArg _ (by simp [encK]))
theorem ksT_end {x : Ev} {j : Nat} (h : x.ks.length ≤ j) : ksT x j = chainI (x.ks.length : Int) ++ x.ks.flatMap encK := by unfold ksT; rw [List.take_of_length_le h]
theorem ksT_len {x : Ev} (h : MayE x) (j : Nat) : (ksT x j).length ≤ 10 + 20 * 64 := by
  obtain ⟨h1, h2, h3, h4, h5, h6, h7⟩ := h
  have a := chainI_len (x.ks.length : Int) (by omega) (by omega)
  have b := encKs_len (ks := x.ks.take j) (fun y hy => h7 y (List.mem_of_mem_take hy))
  have c : (x.ks.take j).length ≤ 64 := by rw [List.length_take]; omega
  unfold ksT; rw [List.length_append]; omega

theorem rkeeps {l l0 l1 : List UInt8} {e e0 e1 n j : Nat} {ks : List (Int × Int)} (q : Rdg encNum (goodInt 64) l e n l0 e0) (h : RdgL encK GoodK n l0 e0 j ks l1 e1) (hj : j = n ∨ e1 ≠ 0) : Rdg (encList encK) (fun ks => (ks.length : Int) ≤ 64 ∧ ∀ x ∈ ks, GoodK x) l e ks l1 e1 := by
  rcases hj with rfl | hj
  · exact rdg_list q h.done
  · exact rdg_list q (h.bad hj)
def GoodS (es : List Ev) : Prop := (es.length : Int) ≤ 400 ∧ ∀ e ∈ es, GoodE e
/-- What Decode tells of some bytes. -/
def DecR (l : List UInt8) (es : List Ev) (c : Int) : Prop := Whole encS GoodS l es (c = 0) ∧ (c = 0 ∨ (c = 3 ∧ es = []))
theorem dec_no {l : List UInt8} (h : ∀ ws, GoodS ws → encS ws ≠ l) : DecR l [] 3 := ⟨whole_no h (by decide), .inr ⟨rfl, rfl⟩⟩
theorem dec_fail {l l0 l1 l2 : List UInt8} {n i e0 e1 e2 : Nat} {vs : List Ev} {v : Ev} (r0 : Rdg encNum (goodInt 400) l 0 n l0 e0) (hx : RdgL encE GoodE n l0 e0 i vs l1 e1) (hi : i < n) (hev : EvR l1 e1 v l2 e2) (h : e2 ≠ 0 ∨ ¬ MayE v) : DecR l [] 3 := by
  refine dec_no (list_no r0 ?_)
  rcases hev with hr | ⟨_, hr⟩
  · rcases h with h | h
    · intro ws r h0 hn hg hl
      exact h ((hx.next hr hi).forth ws r h0 hn hg hl).1
    · by_cases h2 : e2 = 0
      · exact absurd (hr.back h2).2.1.1 h
      · intro ws r h0 hn hg hl
        exact h2 ((hx.next hr hi).forth ws r h0 hn hg hl).1
  · exact hx.stuck hi hr
theorem dec_bad {l l0 l1 : List UInt8} {n i e0 e1 : Nat} {vs : List Ev} (r0 : Rdg encNum (goodInt 400) l 0 n l0 e0) (hx : RdgL encE GoodE n l0 e0 i vs l1 e1) (h : i = n ∨ e1 ≠ 0) (hE : rdEnd l1 e1 ≠ 0) : DecR l [] 3 := by
  refine dec_no fun ws hw hl => ?_
  rcases h with h | h
  · subst h
    exact hE ((rdg_list r0 hx.done).whole.forth ws hw hl).1
  · exact list_no r0 (fun ws r h0 hn hg hl => h (hx.forth ws r h0 hn hg hl).1) ws hw hl
theorem dec_good {l l0 l1 : List UInt8} {n e0 e1 : Nat} {vs : List Ev} (r0 : Rdg encNum (goodInt 400) l 0 n l0 e0) (hx : RdgL encE GoodE n l0 e0 n vs l1 e1) (hE : rdEnd l1 e1 = 0) : DecR l vs 0 := by
  have h := (rdg_list r0 hx.done).whole
  exact ⟨⟨fun _ => h.back hE, fun w hw hl => ⟨rfl, (h.forth w hw hl).2⟩⟩, .inl rfl⟩
theorem ev_good {l1 l2 : List UInt8} {e1 e2 : Nat} {v : Ev} (h : EvR l1 e1 v l2 e2) (hm : MayE v) : Rdg encE GoodE l1 e1 v l2 e2 := by
  rcases h with h | ⟨h, _⟩
  · exact h
  · have := hm.1; omega
/-- Two that tell of the same bytes tell the same. -/
theorem decR_same {l : List UInt8} {es fs : List Ev} {c d : Int} (h : DecR l es c) (k : DecR l fs d) : c = d ∧ es = fs := by
  obtain ⟨h1, h2⟩ := h
  obtain ⟨k1, k2⟩ := k
  rcases h2 with rfl | ⟨rfl, rfl⟩
  · obtain ⟨x1, x2⟩ := h1.back rfl
    obtain ⟨y1, y2⟩ := k1.forth _ x1 x2
    exact ⟨y1.symm, y2.symm⟩
  · rcases k2 with rfl | ⟨rfl, rfl⟩
    · obtain ⟨x1, x2⟩ := k1.back rfl
      exact absurd (h1.forth _ x1 x2).1 (by decide)
    · exact ⟨rfl, rfl⟩
theorem oks_next {ms : List Em} {m : Em} (h : ∀ x ∈ ms, EmOk x) (hm : EmOk m) : ∀ x ∈ ms ++ [m], EmOk x := fun x hx => by
  rcases List.mem_append.1 hx with h1 | h1
  · exact h x h1
  · rw [List.mem_singleton.1 h1]; exact hm
theorem evs_next (ms : List Em) (m : Em) : evsOf (ms ++ [m]) = evsOf ms ++ [m.v] := by unfold evsOf; simp

end
end Go.Proofs.Ytkekkalgebgokaa

/- A range over a text whose bytes are below 128; a slice's parts; a text out of a slice of one's own. No program in sight. -/
set_option linter.unusedSimpArgs false
set_option linter.unusedVariables false
namespace Go.Proofs.Ytkekkalgebgokaa
open Go Go.RowKit

section
variable {c : Cx} {n : Nat} {env : List (Nat × Value)} {L : List (Option Nat × Obj)} {k : List Item} {o : Oper}
theorem P_next {x : Operand} {b i : Nat} {l : List UInt8} (hop : o.op = .next x true) (hx : fev env x = some (.pointer (some ⟨b, 0, none⟩))) (hm : (some b, Obj.stringIter (bs l) i) ∈ L) (hi : i < l.length) (ha : (l.getD i 0).toNat < 128) :
    PutV c n env L o b (.stringIter (bs l) (i + 1)) (.tuple #[.bool true, .int .i64 (i : Int), .int .i32 ((l.getD i 0).toNat : Int)]) := fun a w hk hmm => by
  have hw := hmm.lies hm
  have hs : i < (bs l).size := by rw [bs_size]; exact hi
  have he : (bs l)[i]'hs = l.getD i 0 := by
    rw [List.getD_eq_getElem?_getD, List.getElem?_eq_getElem hi]
    rfl
  have ha' : ((bs l)[i]'hs).toNat < 128 := by rw [he]; exact ha
  have hlt : b < w.heap.size := by
    rcases Nat.lt_or_ge b w.heap.size with h | h
    · exact h
    · rw [Array.getElem?_eq_none h] at hw; cases hw
  refine ⟨{ w with heap := w.heap.setIfInBounds b (.stringIter (bs l) (i + 1)) }, ?_, rfl, rfl, rfl, by simp, by simp [hlt], fun k hne => by simp [Array.getElem?_setIfInBounds_ne (fun e => hne e.symm)]⟩
  simp only [execOp, hop, hk.eval hx]
  simp only [Instr.next, getObj, setObj, Sem.run_bind, Sem.run, hw, Result.andThen, hs, if_true, decode_ascii (bs l) i hs ha', he]
  rfl
theorem V_nextE {x : Operand} {b i : Nat} {l : List UInt8} (hop : o.op = .next x true) (hx : fev env x = some (.pointer (some ⟨b, 0, none⟩))) (hm : (some b, Obj.stringIter (bs l) i) ∈ L) (hi : l.length ≤ i) : Val c n env L o (.tuple #[.bool false]) := fun a w hk hmm => by
  have hw := hmm.lies hm
  have hs : ¬ i < (bs l).size := by rw [bs_size]; omega
  simp only [execOp, hop, hk.eval hx]
  simp only [Instr.next, getObj, setObj, Sem.run_bind, Sem.run, hw, Result.andThen, hs, if_false]
  rfl

/-- A slice against nil. -/
theorem V_sleqlN {x y : Operand} {t e yt : TypeId} {p : Option Addr} {i j : Nat} (hop : o.op = .binOp .eql t x y yt) (hu : c.P.underlying t = some (.slice e)) (hx : fev env x = some (.slice p i j)) (hy : fev env y = some (.slice none 0 0)) : Val c n env L o (.bool p.isNone) := fun a w hk _ => by
  simp only [execOp, hop, hk.eval hx, hk.eval hy, eqGuard_at_slice, pure_bind]
  rw [Sem.run_bind]
  have : (binOp .eql t (.slice p i j) (.slice none 0 0)).run c.P w = .ok (.bool p.isNone) w := by
    simp only [binOp]
    simp [run_equal_slice_nil w t e p i j hu]
  rw [this]
  rfl
theorem V_slneqN {x y : Operand} {t e yt : TypeId} {p : Option Addr} {i j : Nat} (hop : o.op = .binOp .neq t x y yt) (hu : c.P.underlying t = some (.slice e)) (hx : fev env x = some (.slice p i j)) (hy : fev env y = some (.slice none 0 0)) : Val c n env L o (.bool p.isSome) := fun a w hk _ => by
  simp only [execOp, hop, hk.eval hx, hk.eval hy, eqGuard_at_slice, pure_bind]
  rw [Sem.run_bind]
  have : (binOp .neq t (.slice p i j) (.slice none 0 0)).run c.P w = .ok (.bool p.isSome) w := by
    simp only [binOp]
    cases p <;> simp [run_equal_slice_nil w t e _ i j hu]
  rw [this]
  rfl

/-- A part of a slice. -/
theorem V_sliceLH {x xl xh : Operand} {t e : TypeId} {ti : TypeInfo} {s b off len cap lo hi : Nat} {q q' : IntKind} {zl zh : Int} (hop : o.op = .slice t x (some xl) (some xh) none) (hu : c.P.underlying t = some (.slice e)) (hs : c.P.info? e = some ti) (hsz : ti.size = s) (hx : fev env x = some (.slice (some ⟨b, off, none⟩) len cap))
    (hl : fev env xl = some (.int q zl)) (hh : fev env xh = some (.int q' zh)) (el : zl = (lo : Int)) (eh : zh = (hi : Int)) (h1 : lo ≤ hi) (h2 : hi ≤ cap) : Val c n env L o (.slice (some ⟨b, if cap = lo then off else off + lo * s, none⟩) (hi - lo) (cap - lo)) := fun a w hk _ => by
  subst el eh hsz
  have e1 : (0 : Int) ≤ (hi : Int) ∧ (hi : Int) ≤ (cap : Int) := by omega
  have e2 : (0 : Int) ≤ (lo : Int) ∧ (lo : Int) ≤ (hi : Int) := by omega
  simp only [execOp, hop, hk.eval hx, hk.eval hl, hk.eval hh, Option.map_some, Option.map_none, Instr.sliceAt, Instr.slice, run_underlying hu, Instr.sliceBounds, Instr.sliceBound, asIntOf, Sem.run_bind, Sem.run_pure, Result.andThen_ok, if_pos e1, if_pos e2, sizeOf, typeInfo, run_program, hs, Int.toNat_natCast, Option.isSome_none, Bool.false_eq_true, if_false, if_true]
  by_cases h : cap = lo
  · simp [h]
  · simp [h, Addr.add_lit]
theorem V_sliceH {x xh : Operand} {t e : TypeId} {ti : TypeInfo} {len cap hi : Nat} {p : Option Addr} {q' : IntKind} {zh : Int} (hop : o.op = .slice t x none (some xh) none) (hu : c.P.underlying t = some (.slice e)) (hs : c.P.info? e = some ti) (hx : fev env x = some (.slice p len cap))
    (hh : fev env xh = some (.int q' zh)) (eh : zh = (hi : Int)) (h2 : hi ≤ cap) : Val c n env L o (.slice p hi cap) := fun a w hk _ => by
  subst eh
  have e1 : (0 : Int) ≤ (hi : Int) ∧ (hi : Int) ≤ (cap : Int) := by omega
  simp only [execOp, hop, hk.eval hx, hk.eval hh, Option.map_some, Option.map_none, Instr.sliceAt, Instr.slice, run_underlying hu, Instr.sliceBounds, Instr.sliceBound, asIntOf, Sem.run_bind, Sem.run_pure, Result.andThen_ok, if_pos e1, sizeOf, typeInfo, run_program, hs, Int.toNat_natCast, Option.isSome_none, Bool.false_eq_true, if_false, if_true]
  cases p with
  | none => by_cases h : cap = 0 <;> simp [h]
  | some ad => by_cases h : cap = 0 <;> simp [h, Addr.add_zero']
end
end Go.Proofs.Ytkekkalgebgokaa

/- strings.Builder: what is written, one behind the other. -/
set_option linter.unusedSimpArgs false
set_option linter.unusedVariables false
namespace Go.Proofs.Ytkekkalgebgokaa
open Go Go.RowKit

section
theorem infBld_5 : Try.prog.info? 5 = some Try.t5 := by kernel_rfl
theorem infBld_73 : Try.prog.info? 73 = some Try.t73 := by kernel_rfl
theorem infBld_76 : Try.prog.info? 76 = some Try.t76 := by kernel_rfl
theorem infBld_78 : Try.prog.info? 78 = some Try.t78 := by kernel_rfl

set_option maxRecDepth 100000 in
set_option maxHeartbeats 1000000 in
theorem copy_fresh (b : Nat) (s : Value) (hs : s.oneCell' = true) :
    Ct Try.prog 129 [.pointer (some ⟨b, 0, none⟩)] [] [(some b, .cells #[.pointer none, s] 78 (0, 0))] fun v post => v = .tuple #[] ∧ post = [(some b, .cells #[.pointer (some ⟨b, 0, none⟩), s] 78 (0, 0))] := by
 refine ct_of Try.func129 rfl rfl (fun w0 => ?_)
 show G _ _ [(0, _)] _ _
 refine G_seq ?_
 refine G_region (l := [0, 1, 2, 3, 4]) rfl ?_
 refine G_val rfl rfl rfl rfl (V_move rfl rfl) ?_
 first
   | refine G_val rfl rfl rfl rfl (V_nilCheck rfl rfl) ?_
   | refine G_val rfl rfl rfl rfl (V_nilCheckF rfl rfl) ?_
 refine G_val rfl rfl rfl rfl (V_fieldAddr (fo := 0) rfl Try.underlying78 rfl infBld_76 rfl rfl rfl) ?_
 refine G_val rfl rfl rfl rfl (V_load1 rfl rfl (mem_at 0 rfl) rfl Try.underlying76 rfl) ?_
 refine G_val rfl rfl rfl rfl (V_peqlN rfl Try.underlying76 rfl rfl) ?_
 refine G_done ?_
 refine G_then rfl ?_
 refine G_region (l := [0, 1, 2, 3, 4, 5, 6, 7]) rfl ?_
 refine G_val rfl rfl rfl rfl (V_move rfl rfl) ?_
 refine G_val rfl rfl rfl rfl (V_move rfl rfl) ?_
 refine G_val rfl rfl rfl rfl (V_toUnsafe rfl rfl Try.underlying76 Try.underlying265 infBld_78 rfl (mem_at 0 rfl) (by simp)) ?_
 refine G_val rfl rfl rfl rfl (V_extern (ev := Extern.AbiNoEscape.same) rfl rfl Try.func151 (by kernel_rfl) (by kernel_rfl) (by kernel_rfl) (by kernel_rfl) (fun w => rfl)) ?_
 refine G_val rfl rfl rfl rfl (V_fromUnsafe rfl rfl Try.underlying76 Try.underlying265 infBld_78 (mem_at 0 rfl) (by kernel_rfl)) ?_
 first
   | refine G_val rfl rfl rfl rfl (V_nilCheck rfl rfl) ?_
   | refine G_val rfl rfl rfl rfl (V_nilCheckF rfl rfl) ?_
 refine G_val rfl rfl rfl rfl (V_fieldAddr (fo := 0) rfl Try.underlying78 rfl infBld_76 rfl rfl rfl) ?_
 refine G_put (l1 := []) (L' := [_]) rfl rfl rfl rfl (P_store1 rfl rfl rfl (mem_at 0 rfl) (by first | exact of_decide_eq_true rfl | omega | (simp; done) | (simp; omega) | (simp at *; omega)) infBld_76 rfl rfl) rfl ?_
 refine G_done ?_
 refine G_end (post := [_]) Try.func129 rfl RVs_nil [0] rfl ?_
 dsimp only [packed]
 exact ⟨rfl, rfl⟩

set_option maxRecDepth 100000 in
set_option maxHeartbeats 1000000 in
theorem copy_used (b : Nat) (s : Value) :
    Ct Try.prog 129 [.pointer (some ⟨b, 0, none⟩)] [] [(some b, .cells #[.pointer (some ⟨b, 0, none⟩), s] 78 (0, 0))] fun v post => v = .tuple #[] ∧ post = [(some b, .cells #[.pointer (some ⟨b, 0, none⟩), s] 78 (0, 0))] := by
 refine ct_of Try.func129 rfl rfl (fun w0 => ?_)
 show G _ _ [(0, _)] _ _
 refine G_seq ?_
 refine G_region (l := [0, 1, 2, 3, 4]) rfl ?_
 refine G_val rfl rfl rfl rfl (V_move rfl rfl) ?_
 first
   | refine G_val rfl rfl rfl rfl (V_nilCheck rfl rfl) ?_
   | refine G_val rfl rfl rfl rfl (V_nilCheckF rfl rfl) ?_
 refine G_val rfl rfl rfl rfl (V_fieldAddr (fo := 0) rfl Try.underlying78 rfl infBld_76 rfl rfl rfl) ?_
 refine G_val rfl rfl rfl rfl (V_load1 rfl rfl (mem_at 0 rfl) rfl Try.underlying76 rfl) ?_
 refine G_val rfl rfl rfl rfl (V_peqlN rfl Try.underlying76 rfl rfl) ?_
 refine G_done ?_
 refine G_else rfl ?_
 refine G_seq ?_
 refine G_region (l := [0, 1, 2, 3, 4, 5]) rfl ?_
 refine G_val rfl rfl rfl rfl (V_move rfl rfl) ?_
 first
   | refine G_val rfl rfl rfl rfl (V_nilCheck rfl rfl) ?_
   | refine G_val rfl rfl rfl rfl (V_nilCheckF rfl rfl) ?_
 refine G_val rfl rfl rfl rfl (V_fieldAddr (fo := 0) rfl Try.underlying78 rfl infBld_76 rfl rfl rfl) ?_
 refine G_val rfl rfl rfl rfl (V_load1 rfl rfl (mem_at 0 rfl) rfl Try.underlying76 rfl) ?_
 refine G_val rfl rfl rfl rfl (V_move rfl rfl) ?_
 refine G_val rfl rfl rfl rfl (V_pneqSame rfl Try.underlying76 infBld_78 rfl rfl) ?_
 refine G_done ?_
 refine G_else rfl ?_
 refine G_skip ?_
 refine G_end (post := [_]) Try.func129 rfl RVs_nil [0] rfl ?_
 dsimp only [packed]
 exact ⟨rfl, rfl⟩


def UsedOr (b : Nat) (p : Value) : Prop := p = .pointer none ∨ p = .pointer (some ⟨b, 0, none⟩)
theorem UsedOr.self (b : Nat) : UsedOr b (.pointer (some ⟨b, 0, none⟩)) := .inr rfl
theorem copy_any (b : Nat) (p s : Value) (hs : s.oneCell' = true) (hp : UsedOr b p) : Ct Try.prog 129 [.pointer (some ⟨b, 0, none⟩)] [] [(some b, .cells #[p, s] 78 (0, 0))] (fun v post => v = .tuple #[] ∧ post = [(some b, .cells #[.pointer (some ⟨b, 0, none⟩), s] 78 (0, 0))]) := by
  rcases hp with rfl | rfl
  · exact copy_fresh b s hs
  · exact copy_used b s
/-- A text in a buffer. -/
structure Txt (u : Sl) (tx : List UInt8) : Prop where
  own : Own 1 u (bcells tx) tx.length
  pos : u.ob ≠ none → 0 < u.cap
theorem txt_nil : Txt slNil [] := ⟨own_nil 1, fun h => absurd rfl h⟩
theorem Txt.more {u s' : Sl} {tx s : List UInt8} (h : Txt u tx) (h1 : Own 1 s' (bcells tx ++ bcells s) (tx.length + s.length)) (h2 : (u.ob ≠ none → 0 < u.cap) → s'.ob ≠ none → 0 < s'.cap) : Txt s' (tx ++ s) :=
  ⟨by rw [bcells_append, List.length_append]; exact h1, h2 h.pos⟩

set_option maxRecDepth 100000 in
set_option maxHeartbeats 1000000 in
theorem bld_write (b : Nat) (p : Value) (u : Sl) (tx s : List UInt8) (hp : UsedOr b p) (hu : Txt u tx) (hs : tx.length + s.length ≤ 140737488355328) :
    Ct Try.prog 79 [.pointer (some ⟨b, 0, none⟩), .string (bs s)] [] [(some b, .cells #[p, u.v tx.length] 78 (0, 0)), (u.ob, .cells u.cs 5 u.fz)] fun v post => v = .tuple #[.int .i64 (s.length : Int), .nilIface] ∧ ∃ u1, Txt u1 (tx ++ s) ∧ post = [(some b, .cells #[.pointer (some ⟨b, 0, none⟩), u1.v (tx ++ s).length] 78 (0, 0)), (u1.ob, .cells u1.cs 5 u1.fz)] := by
 refine ct_of Try.func79 rfl rfl (fun w0 => ?_)
 show G _ _ [(0, _), (1, _)] _ _
 refine G_seq ?_
 refine G_region (l := [0, 1]) rfl ?_
 refine G_val rfl rfl rfl rfl (V_assign rfl rfl) ?_
 refine G_val rfl rfl rfl rfl (V_assign rfl rfl) ?_
 refine G_done ?_
 refine G_seq ?_
 refine G_region (l := [0, 1]) rfl ?_
 refine G_val rfl rfl rfl rfl (V_move rfl rfl) ?_
 refine G_call (L2 := [_]) rfl rfl rfl rfl rfl rfl Try.call129 (copy_any _ _ _ rfl hp) [0] [] rfl rfl ?_
 rintro v post ⟨rfl, rfl⟩
 show G _ _ _ [_, _] _
 refine G_done ?_
 refine G_seq ?_
 refine G_region (l := [0, 1, 2, 3, 4, 5, 6, 7, 8, 9]) rfl ?_
 refine G_val rfl rfl rfl rfl (V_move rfl rfl) ?_
 refine G_val rfl rfl rfl rfl (V_move rfl rfl) ?_
 first
   | refine G_val rfl rfl rfl rfl (V_nilCheck rfl rfl) ?_
   | refine G_val rfl rfl rfl rfl (V_nilCheckF rfl rfl) ?_
 refine G_val rfl rfl rfl rfl (V_fieldAddr (fo := 1) rfl Try.underlying78 rfl infBld_73 rfl rfl rfl) ?_
 refine G_val rfl rfl rfl rfl (V_load1 rfl rfl (mem_at 0 rfl) rfl Try.underlying73 rfl) ?_
 refine G_val rfl rfl rfl rfl (V_move rfl rfl) ?_
 refine G_append (l1 := [_]) (s := u) (nn := tx.length) (m := s.length) (news := bcells s) (bt := 1) rfl rfl rfl rfl Try.underlying73 Try.underlying9 (by first | exact .inl rfl | exact .inr ⟨_, rfl⟩) infBld_5 rfl rfl rfl rfl rfl rfl hu.own rfl (fun w _ => src_string _) (by omega) (by omega) ?_
 intro u1 hu1 hq1
 show G _ _ _ [_, _] _
 first
   | refine G_val rfl rfl rfl rfl (V_nilCheck rfl rfl) ?_
   | refine G_val rfl rfl rfl rfl (V_nilCheckF rfl rfl) ?_
 refine G_val rfl rfl rfl rfl (V_fieldAddr (fo := 1) rfl Try.underlying78 rfl infBld_73 rfl rfl rfl) ?_
 refine G_put (l1 := []) (L' := [_, _]) rfl rfl rfl rfl (P_store1 rfl rfl rfl (mem_at 0 rfl) (by first | exact of_decide_eq_true rfl | omega | (simp; done) | (simp; omega) | (simp at *; omega)) infBld_73 rfl rfl) rfl ?_
 refine G_done ?_
 refine G_seq ?_
 refine G_region (l := [0, 1, 2, 3]) rfl ?_
 refine G_val rfl rfl rfl rfl (V_move rfl rfl) ?_
 refine G_val rfl rfl rfl rfl (V_slen rfl rfl Try.underlying9 rfl) ?_
 refine G_val rfl rfl rfl rfl (V_assign rfl rfl) ?_
 refine G_val rfl rfl rfl rfl (V_assign rfl rfl) ?_
 refine G_done ?_
 refine G_ret (post := [_, _]) Try.func79 rfl (RVs_cons (RV_tmp rfl) (RVs_cons (RV_tmp rfl) RVs_nil)) [0, 0] rfl ?_
 dsimp only [packed]
 exact ⟨rfl, u1, hu.more hu1 hq1.pos, by rw [List.length_append]; rfl⟩


theorem bld_write0 (b : Nat) (s : List UInt8) (hs : s.length ≤ 140737488355328) : Ct Try.prog 79 [.pointer (some ⟨b, 0, none⟩), .string (bs s)] [] [(some b, .cells #[.pointer none, .slice none 0 0] 78 (0, 0)), (none, .cells #[] 5 (0, 0))]
    (fun v post => v = .tuple #[.int .i64 (s.length : Int), .nilIface] ∧ ∃ u1, Txt u1 s ∧ post = [(some b, .cells #[.pointer (some ⟨b, 0, none⟩), u1.v s.length] 78 (0, 0)), (u1.ob, .cells u1.cs 5 u1.fz)]) :=
  bld_write b (.pointer none) slNil [] s (.inl rfl) txt_nil (by simpa using hs)

set_option maxRecDepth 100000 in
set_option maxHeartbeats 1000000 in
theorem bld_string1 (b g cap : Nat) (p : Value) (cs : Array Value) (fz : Nat × Nat) (tx : List UInt8) (hu : Txt ⟨some g, cs, fz, cap⟩ tx) (h0 : tx ≠ []) (hs : tx.length ≤ 140737488355328) :
    Ct Try.prog 53 [.pointer (some ⟨b, 0, none⟩)] [] [(some b, .cells #[p, .slice (some ⟨g, 0, none⟩) tx.length cap] 78 (0, 0)), (some g, .cells cs 5 fz)] fun v post => v = .string (bs tx) ∧ post = [(some b, .cells #[p, .slice (some ⟨g, 0, none⟩) tx.length cap] 78 (0, 0)), (some g, .cells cs 5 (frz fz tx.length))] := by
 have hcap := hu.pos (by simp)
 simp only at hcap
 have hsz := hu.own.size
 have hle := hu.own.le
 have hpre := hu.own.pre
 simp only [Nat.mul_one] at hsz hle hpre
 refine ct_of Try.func53 rfl rfl (fun w0 => ?_)
 show G _ _ [(0, _)] _ _
 refine G_seq ?_
 refine G_region (l := [0]) rfl ?_
 refine G_val rfl rfl rfl rfl (V_assign rfl rfl) ?_
 refine G_done ?_
 refine G_seq ?_
 refine GH_start (Lq := [_]) (isq := [0]) (m := 12) mixedK rfl rfl ?_
 refine GH_take 0 rfl rfl rfl rfl (by kernel_rfl) (by kernel_rfl) (by kernel_rfl) (fun _ _ => (V_move rfl rfl)) ?_
 first
   | refine GH_take 1 rfl rfl rfl rfl (by kernel_rfl) (by kernel_rfl) (by kernel_rfl) (fun _ _ => (V_nilCheck rfl rfl)) ?_
   | refine GH_take 1 rfl rfl rfl rfl (by kernel_rfl) (by kernel_rfl) (by kernel_rfl) (fun _ _ => (V_nilCheckF rfl rfl)) ?_
 refine GH_take 2 rfl rfl rfl rfl (by kernel_rfl) (by kernel_rfl) (by kernel_rfl) (fun _ _ => (V_fieldAddr (fo := 1) rfl Try.underlying78 rfl infBld_73 rfl rfl rfl)) ?_
 refine GH_take 3 rfl rfl rfl rfl (by kernel_rfl) (by kernel_rfl) (by kernel_rfl) (fun _ _ => (V_load1 rfl rfl (mem_at 0 rfl) rfl Try.underlying73 rfl)) ?_
 first
   | refine GH_take 4 rfl rfl rfl rfl (by kernel_rfl) (by kernel_rfl) (by kernel_rfl) (fun _ _ => (V_sliceDataN rfl rfl)) ?_
   | refine GH_take 4 rfl rfl rfl rfl (by kernel_rfl) (by kernel_rfl) (by kernel_rfl) (fun _ _ => (V_sliceDataS rfl rfl (by first | omega | (simp; done) | (simp; omega) | (simp at *; omega)))) ?_
 refine GH_take 5 rfl rfl rfl rfl (by kernel_rfl) (by kernel_rfl) (by kernel_rfl) (fun _ _ => (V_move rfl rfl)) ?_
 first
   | refine GH_take 6 rfl rfl rfl rfl (by kernel_rfl) (by kernel_rfl) (by kernel_rfl) (fun _ _ => (V_nilCheck rfl rfl)) ?_
   | refine GH_take 6 rfl rfl rfl rfl (by kernel_rfl) (by kernel_rfl) (by kernel_rfl) (fun _ _ => (V_nilCheckF rfl rfl)) ?_
 refine GH_take 7 rfl rfl rfl rfl (by kernel_rfl) (by kernel_rfl) (by kernel_rfl) (fun _ _ => (V_fieldAddr (fo := 1) rfl Try.underlying78 rfl infBld_73 rfl rfl rfl)) ?_
 refine GH_take 8 rfl rfl rfl rfl (by kernel_rfl) (by kernel_rfl) (by kernel_rfl) (fun _ _ => (V_load1 rfl rfl (mem_at 0 rfl) rfl Try.underlying73 rfl)) ?_
 refine GH_take 9 rfl rfl rfl rfl (by kernel_rfl) (by kernel_rfl) (by kernel_rfl) (fun _ _ => (V_len rfl rfl Try.underlying73 rfl)) ?_
 refine GH_all [10] (by kernel_rfl) (by decide) ?_
 refine (And.intro ?_ trivial)
 · skip
   refine GHop_putV (l1 := [_]) (L' := [_, _]) rfl rfl rfl rfl rfl (P_unsafeString (l := tx) rfl Try.underlying214 (by kernel_rfl) rfl rfl rfl (mem_at 1 rfl) h0 (by omega) (by omega) hpre) rfl [0] rfl ?_
   refine GH_take 11 rfl rfl rfl rfl (by kernel_rfl) (by kernel_rfl) (by kernel_rfl) (fun _ _ => (V_assign rfl rfl)) ?_
   refine GH_done (by kernel_rfl) ?_
   refine G_ret (post := [_, _]) Try.func53 rfl (RVs_cons (RV_tmp rfl) RVs_nil) [0, 0] rfl ?_
   dsimp only [packed]
   exact ⟨rfl, rfl⟩

set_option maxRecDepth 100000 in
set_option maxHeartbeats 1000000 in
theorem bld_string0 (b : Nat) (p : Value) (u : Sl) (cap : Nat) :
    Ct Try.prog 53 [.pointer (some ⟨b, 0, none⟩)] [] [(some b, .cells #[p, .slice none 0 cap] 78 (0, 0)), (none, .cells u.cs 5 u.fz)] fun v post => v = .string (bs []) ∧ post = [(some b, .cells #[p, .slice none 0 cap] 78 (0, 0)), (none, .cells u.cs 5 u.fz)] := by
 refine ct_of Try.func53 rfl rfl (fun w0 => ?_)
 show G _ _ [(0, _)] _ _
 refine G_seq ?_
 refine G_region (l := [0]) rfl ?_
 refine G_val rfl rfl rfl rfl (V_assign rfl rfl) ?_
 refine G_done ?_
 refine G_seq ?_
 refine GH_start (Lq := [_]) (isq := [0]) (m := 12) mixedK rfl rfl ?_
 refine GH_take 0 rfl rfl rfl rfl (by kernel_rfl) (by kernel_rfl) (by kernel_rfl) (fun _ _ => (V_move rfl rfl)) ?_
 first
   | refine GH_take 1 rfl rfl rfl rfl (by kernel_rfl) (by kernel_rfl) (by kernel_rfl) (fun _ _ => (V_nilCheck rfl rfl)) ?_
   | refine GH_take 1 rfl rfl rfl rfl (by kernel_rfl) (by kernel_rfl) (by kernel_rfl) (fun _ _ => (V_nilCheckF rfl rfl)) ?_
 refine GH_take 2 rfl rfl rfl rfl (by kernel_rfl) (by kernel_rfl) (by kernel_rfl) (fun _ _ => (V_fieldAddr (fo := 1) rfl Try.underlying78 rfl infBld_73 rfl rfl rfl)) ?_
 refine GH_take 3 rfl rfl rfl rfl (by kernel_rfl) (by kernel_rfl) (by kernel_rfl) (fun _ _ => (V_load1 rfl rfl (mem_at 0 rfl) rfl Try.underlying73 rfl)) ?_
 first
   | refine GH_take 4 rfl rfl rfl rfl (by kernel_rfl) (by kernel_rfl) (by kernel_rfl) (fun _ _ => (V_sliceDataN rfl rfl)) ?_
   | refine GH_take 4 rfl rfl rfl rfl (by kernel_rfl) (by kernel_rfl) (by kernel_rfl) (fun _ _ => (V_sliceDataS rfl rfl (by first | omega | (simp; done) | (simp; omega) | (simp at *; omega)))) ?_
 refine GH_take 5 rfl rfl rfl rfl (by kernel_rfl) (by kernel_rfl) (by kernel_rfl) (fun _ _ => (V_move rfl rfl)) ?_
 first
   | refine GH_take 6 rfl rfl rfl rfl (by kernel_rfl) (by kernel_rfl) (by kernel_rfl) (fun _ _ => (V_nilCheck rfl rfl)) ?_
   | refine GH_take 6 rfl rfl rfl rfl (by kernel_rfl) (by kernel_rfl) (by kernel_rfl) (fun _ _ => (V_nilCheckF rfl rfl)) ?_
 refine GH_take 7 rfl rfl rfl rfl (by kernel_rfl) (by kernel_rfl) (by kernel_rfl) (fun _ _ => (V_fieldAddr (fo := 1) rfl Try.underlying78 rfl infBld_73 rfl rfl rfl)) ?_
 refine GH_take 8 rfl rfl rfl rfl (by kernel_rfl) (by kernel_rfl) (by kernel_rfl) (fun _ _ => (V_load1 rfl rfl (mem_at 0 rfl) rfl Try.underlying73 rfl)) ?_
 refine GH_take 9 rfl rfl rfl rfl (by kernel_rfl) (by kernel_rfl) (by kernel_rfl) (fun _ _ => (V_len rfl rfl Try.underlying73 rfl)) ?_
 refine GH_take 10 rfl rfl rfl rfl (by kernel_rfl) (by kernel_rfl) (by kernel_rfl) (fun _ _ => (V_unsafeString0 rfl rfl rfl (by first | omega | (simp; done) | (simp; omega) | (simp at *; omega)))) ?_
 refine GH_take 11 rfl rfl rfl rfl (by kernel_rfl) (by kernel_rfl) (by kernel_rfl) (fun _ _ => (V_assign rfl rfl)) ?_
 refine GH_done (by kernel_rfl) ?_
 refine G_ret (post := [_, _]) Try.func53 rfl (RVs_cons (RV_tmp rfl) RVs_nil) [0, 0] rfl ?_
 dsimp only [packed]
 exact ⟨rfl, rfl⟩

set_option maxRecDepth 100000 in
set_option maxHeartbeats 1000000 in
theorem bld_string2 (b g : Nat) (p : Value) (u : Sl) (cap : Nat) (hc : 0 < cap) :
    Ct Try.prog 53 [.pointer (some ⟨b, 0, none⟩)] [] [(some b, .cells #[p, .slice (some ⟨g, 0, none⟩) 0 cap] 78 (0, 0)), (some g, .cells u.cs 5 u.fz)] fun v post => v = .string (bs []) ∧ post = [(some b, .cells #[p, .slice (some ⟨g, 0, none⟩) 0 cap] 78 (0, 0)), (some g, .cells u.cs 5 u.fz)] := by
 refine ct_of Try.func53 rfl rfl (fun w0 => ?_)
 show G _ _ [(0, _)] _ _
 refine G_seq ?_
 refine G_region (l := [0]) rfl ?_
 refine G_val rfl rfl rfl rfl (V_assign rfl rfl) ?_
 refine G_done ?_
 refine G_seq ?_
 refine GH_start (Lq := [_]) (isq := [0]) (m := 12) mixedK rfl rfl ?_
 refine GH_take 0 rfl rfl rfl rfl (by kernel_rfl) (by kernel_rfl) (by kernel_rfl) (fun _ _ => (V_move rfl rfl)) ?_
 first
   | refine GH_take 1 rfl rfl rfl rfl (by kernel_rfl) (by kernel_rfl) (by kernel_rfl) (fun _ _ => (V_nilCheck rfl rfl)) ?_
   | refine GH_take 1 rfl rfl rfl rfl (by kernel_rfl) (by kernel_rfl) (by kernel_rfl) (fun _ _ => (V_nilCheckF rfl rfl)) ?_
 refine GH_take 2 rfl rfl rfl rfl (by kernel_rfl) (by kernel_rfl) (by kernel_rfl) (fun _ _ => (V_fieldAddr (fo := 1) rfl Try.underlying78 rfl infBld_73 rfl rfl rfl)) ?_
 refine GH_take 3 rfl rfl rfl rfl (by kernel_rfl) (by kernel_rfl) (by kernel_rfl) (fun _ _ => (V_load1 rfl rfl (mem_at 0 rfl) rfl Try.underlying73 rfl)) ?_
 first
   | refine GH_take 4 rfl rfl rfl rfl (by kernel_rfl) (by kernel_rfl) (by kernel_rfl) (fun _ _ => (V_sliceDataN rfl rfl)) ?_
   | refine GH_take 4 rfl rfl rfl rfl (by kernel_rfl) (by kernel_rfl) (by kernel_rfl) (fun _ _ => (V_sliceDataS rfl rfl (by first | omega | (simp; done) | (simp; omega) | (simp at *; omega)))) ?_
 refine GH_take 5 rfl rfl rfl rfl (by kernel_rfl) (by kernel_rfl) (by kernel_rfl) (fun _ _ => (V_move rfl rfl)) ?_
 first
   | refine GH_take 6 rfl rfl rfl rfl (by kernel_rfl) (by kernel_rfl) (by kernel_rfl) (fun _ _ => (V_nilCheck rfl rfl)) ?_
   | refine GH_take 6 rfl rfl rfl rfl (by kernel_rfl) (by kernel_rfl) (by kernel_rfl) (fun _ _ => (V_nilCheckF rfl rfl)) ?_
 refine GH_take 7 rfl rfl rfl rfl (by kernel_rfl) (by kernel_rfl) (by kernel_rfl) (fun _ _ => (V_fieldAddr (fo := 1) rfl Try.underlying78 rfl infBld_73 rfl rfl rfl)) ?_
 refine GH_take 8 rfl rfl rfl rfl (by kernel_rfl) (by kernel_rfl) (by kernel_rfl) (fun _ _ => (V_load1 rfl rfl (mem_at 0 rfl) rfl Try.underlying73 rfl)) ?_
 refine GH_take 9 rfl rfl rfl rfl (by kernel_rfl) (by kernel_rfl) (by kernel_rfl) (fun _ _ => (V_len rfl rfl Try.underlying73 rfl)) ?_
 refine GH_take 10 rfl rfl rfl rfl (by kernel_rfl) (by kernel_rfl) (by kernel_rfl) (fun _ _ => (V_unsafeString0 rfl rfl rfl (by first | omega | (simp; done) | (simp; omega) | (simp at *; omega)))) ?_
 refine GH_take 11 rfl rfl rfl rfl (by kernel_rfl) (by kernel_rfl) (by kernel_rfl) (fun _ _ => (V_assign rfl rfl)) ?_
 refine GH_done (by kernel_rfl) ?_
 refine G_ret (post := [_, _]) Try.func53 rfl (RVs_cons (RV_tmp rfl) RVs_nil) [0, 0] rfl ?_
 dsimp only [packed]
 exact ⟨rfl, rfl⟩


theorem Ct.weak {P : Program} {f : FuncId} {args : List Value} {A L : List (Option Nat × Obj)} {R R' : Value → List (Option Nat × Obj) → Prop} (h : Ct P f args A L R) (hR : ∀ v post, R v post → R' v post) : Ct P f args A L R' :=
  fun w hw => (h w hw).mono fun e w' ⟨v, post, he, hr, hm⟩ => ⟨v, post, he, hR v post hr, hm⟩
theorem bld_string (b : Nat) (p : Value) (u : Sl) (tx : List UInt8) (hu : Txt u tx) (hs : tx.length ≤ 140737488355328) :
    Ct Try.prog 53 [.pointer (some ⟨b, 0, none⟩)] [] [(some b, .cells #[p, u.v tx.length] 78 (0, 0)), (u.ob, .cells u.cs 5 u.fz)] (fun v post => v = .string (bs tx) ∧ ∃ u1, Txt u1 tx ∧ post = [(some b, .cells #[p, u1.v tx.length] 78 (0, 0)), (u1.ob, .cells u1.cs 5 u1.fz)]) := by
  obtain ⟨ob, cs, fz, cap⟩ := u
  cases tx with
  | nil =>
    cases ob with
    | none => exact (bld_string0 b p ⟨none, cs, fz, cap⟩ cap).weak fun v post ⟨h1, h2⟩ => ⟨h1, _, hu, h2⟩
    | some g => exact (bld_string2 b g p ⟨some g, cs, fz, cap⟩ cap (hu.pos (by simp))).weak fun v post ⟨h1, h2⟩ => ⟨h1, _, hu, h2⟩
  | cons c t =>
    obtain ⟨g, hg⟩ := hu.own.isSome (by simp)
    simp only at hg
    subst hg
    exact (bld_string1 b g cap p cs fz (c :: t) hu (by simp) hs).weak fun v post ⟨h1, h2⟩ => ⟨h1, Sl.froze ⟨some g, cs, fz, cap⟩ (c :: t).length, ⟨hu.own.froze (by omega), hu.pos⟩, h2⟩

set_option maxRecDepth 100000 in
set_option maxHeartbeats 1000000 in
theorem bld_len (b : Nat) (p : Value) (u : Sl) (k : Nat) :
    Ct Try.prog 138 [.pointer (some ⟨b, 0, none⟩)] [(some b, .cells #[p, u.v k] 78 (0, 0))] [] fun v post => v = .int .i64 (k : Int) ∧ post = [] := by
 refine ct_of Try.func138 rfl rfl (fun w0 => ?_)
 show G _ _ [(0, _)] _ _
 refine G_seq ?_
 refine G_region (l := [0]) rfl ?_
 refine G_val rfl rfl rfl rfl (V_assign rfl rfl) ?_
 refine G_done ?_
 refine G_seq ?_
 refine G_region (l := [0, 1, 2, 3, 4, 5]) rfl ?_
 refine G_val rfl rfl rfl rfl (V_move rfl rfl) ?_
 first
   | refine G_val rfl rfl rfl rfl (V_nilCheck rfl rfl) ?_
   | refine G_val rfl rfl rfl rfl (V_nilCheckF rfl rfl) ?_
 refine G_val rfl rfl rfl rfl (V_fieldAddr (fo := 1) rfl Try.underlying78 rfl infBld_73 rfl rfl rfl) ?_
 refine G_val rfl rfl rfl rfl (V_load1 rfl rfl (mem_at 0 rfl) rfl Try.underlying73 rfl) ?_
 refine G_val rfl rfl rfl rfl (V_len rfl rfl Try.underlying73 rfl) ?_
 refine G_val rfl rfl rfl rfl (V_assign rfl rfl) ?_
 refine G_done ?_
 refine G_ret (post := []) Try.func138 rfl (RVs_cons (RV_tmp rfl) RVs_nil) [] rfl ?_
 dsimp only [packed]
 exact ⟨rfl, rfl⟩

end
end Go.Proofs.Ytkekkalgebgokaa

/- Parts of slices: from a place on; with a third index. -/
set_option linter.unusedSimpArgs false
set_option linter.unusedVariables false
namespace Go.Proofs.Ytkekkalgebgokaa
open Go Go.RowKit

section
variable {c : Cx} {n : Nat} {env : List (Nat × Value)} {L : List (Option Nat × Obj)} {o : Oper}
theorem V_sliceLHM {x xl xh xm : Operand} {t e : TypeId} {ti : TypeInfo} {s b off len cap lo hi mx : Nat} {q q' q'' : IntKind} {zl zh zm : Int} (hop : o.op = .slice t x (some xl) (some xh) (some xm)) (hu : c.P.underlying t = some (.slice e)) (hs : c.P.info? e = some ti) (hsz : ti.size = s) (hx : fev env x = some (.slice (some ⟨b, off, none⟩) len cap))
    (hl : fev env xl = some (.int q zl)) (hh : fev env xh = some (.int q' zh)) (hm : fev env xm = some (.int q'' zm)) (el : zl = (lo : Int)) (eh : zh = (hi : Int)) (em : zm = (mx : Int)) (h1 : lo ≤ hi) (h2 : hi ≤ mx) (h3 : mx ≤ cap) : Val c n env L o (.slice (some ⟨b, if mx = lo then off else off + lo * s, none⟩) (hi - lo) (mx - lo)) := fun a w hk _ => by
  subst el eh em hsz
  have e0 : (0 : Int) ≤ (mx : Int) ∧ (mx : Int) ≤ (cap : Int) := by omega
  have e1 : (0 : Int) ≤ (hi : Int) ∧ (hi : Int) ≤ (mx : Int) := by omega
  have e2 : (0 : Int) ≤ (lo : Int) ∧ (lo : Int) ≤ (hi : Int) := by omega
  simp only [execOp, hop, hk.eval hx, hk.eval hl, hk.eval hh, hk.eval hm, Option.map_some, Option.map_none, Instr.sliceAt, Instr.slice, run_underlying hu, Instr.sliceBounds, Instr.sliceBound, asIntOf, Sem.run_bind, Sem.run_pure, Result.andThen_ok, if_pos e0, if_pos e1, if_pos e2, sizeOf, typeInfo, run_program, hs, Int.toNat_natCast, Option.isSome_none, Option.isSome_some, Bool.false_eq_true, if_false, if_true]
  by_cases h : mx = lo
  · simp [h]
  · simp [h, Addr.add_lit]
theorem V_sliceLo {x xl : Operand} {t e : TypeId} {ti : TypeInfo} {s b off len cap lo : Nat} {q : IntKind} {zl : Int} (hop : o.op = .slice t x (some xl) none none) (hu : c.P.underlying t = some (.slice e)) (hs : c.P.info? e = some ti) (hsz : ti.size = s) (hx : fev env x = some (.slice (some ⟨b, off, none⟩) len cap))
    (hl : fev env xl = some (.int q zl)) (el : zl = (lo : Int)) (h1 : lo ≤ len) (h2 : len ≤ cap) : Val c n env L o (.slice (some ⟨b, if cap = lo then off else off + lo * s, none⟩) (len - lo) (cap - lo)) := fun a w hk _ => by
  subst el hsz
  have e1 : (0 : Int) ≤ (len : Int) ∧ (len : Int) ≤ (cap : Int) := by omega
  have e2 : (0 : Int) ≤ (lo : Int) ∧ (lo : Int) ≤ (len : Int) := by omega
  simp only [execOp, hop, hk.eval hx, hk.eval hl, Option.map_some, Option.map_none, Instr.sliceAt, Instr.slice, run_underlying hu, Instr.sliceBounds, Instr.sliceBound, asIntOf, Sem.run_bind, Sem.run_pure, Result.andThen_ok, if_pos e1, if_pos e2, sizeOf, typeInfo, run_program, hs, Int.toNat_natCast, Option.isSome_none, Bool.false_eq_true, if_false, if_true]
  by_cases h : cap = lo
  · simp [h]
  · simp [h, Addr.add_lit]
end
end Go.Proofs.Ytkekkalgebgokaa
