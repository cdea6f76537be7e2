/- The laws of layer 24: what they have in common. -/
import Derived.Test.YtkidmbaakdaflaaSuperS
import Derived.Test.YtkidmbaakdaflaaLaw3
set_option linter.unusedSimpArgs false
set_option linter.unusedVariables false
namespace Go.Proofs.Ytkidmbaakdaflaa
open Go Go.RowKit

section
theorem infSuperL_75 : Try.prog.info? 75 = some Try.t75 := by kernel_rfl
theorem plcSuperL_75 : placesOf Try.prog (Try.prog.fieldsOf 75) = some [(0, 1), (1, 1), (2, 1), (3, 1), (4, 1)] := by kernel_rfl


def spLits (s : Sp) : List Lit := [.int .u32 (s.seq : Int), .int .u32 (s.base : Int), .int .u32 (s.epoch : Int), .int .i64 s.slot, .int .i64 s.size]
theorem spLits_inj {x y : Sp} (h : spLits x = spLits y) : x = y := by
  obtain ⟨a, b, c, d, e⟩ := x
  obtain ⟨a', b', c', d', e'⟩ := y
  simp only [spLits, List.cons.injEq, Lit.int.injEq, true_and, and_true] at h
  obtain ⟨h1, h2, h3, h4, h5⟩ := h
  simp only [Sp.mk.injEq]
  omega
set_option maxRecDepth 100000 in
theorem key_sp (s : Sp) (h : SpOk s) : Try.prog.keyLits 2 75 (spCells s).toArray.toList = some (spLits s) := by
  have m : ∀ n : Nat, n < 4294967296 → (0 : Int) ≤ (n : Int) ∧ (n : Int) ≤ (4294967295 : Int) := fun n hn => by omega
  refine fits_keys Try.underlying75 (by kernel_rfl) (by kernel_rfl) ?_
  refine ⟨rfl, (by kernel_rfl), key_int Try.underlying73 (m _ h.q1).1 (m _ h.q1).2, ?_⟩
  refine ⟨rfl, (by kernel_rfl), key_int Try.underlying73 (m _ h.b1).1 (m _ h.b1).2, ?_⟩
  refine ⟨rfl, (by kernel_rfl), key_int Try.underlying73 (m _ h.e1).1 (m _ h.e1).2, ?_⟩
  refine ⟨rfl, (by kernel_rfl), key_int Try.underlying3 h.s0 h.s1, ?_⟩
  exact ⟨rfl, (by kernel_rfl), key_int Try.underlying3 h.z0 h.z1, trivial⟩
def liveS : Sp := ⟨3, 1, 2, 0, 9⟩
theorem liveS_ok : SpOk liveS := by constructor <;> decide
theorem liveS_may : MayS liveS := by decide
theorem empty_not : ¬ isS [] := fun h => by have := isS_len h; simp at this
theorem live_pick : pickS [] (encS liveS) = liveS := by
  obtain ⟨h1, h2⟩ := dec_enc liveS_ok liveS_may
  unfold pickS
  rw [pick_no1 (decide_eq_false empty_not)]
  unfold pickStep
  rw [h2, if_pos ⟨h1, rfl, by decide⟩]
theorem liveS_len : (encS liveS).length = 64 := encS_len liveS_may
theorem decS_mayI (b : List UInt8) : decide (isS b) = decide ((0 : Int) < ((decS b).seq : Int)) := by
  rw [decS_may]
  exact decide_eq_decide.2 (by omega)
set_option maxRecDepth 100000 in
theorem sp_types : Try.prog.cellTypes Try.prog.depth 75 = some [73, 73, 73, 3, 3] := by kernel_rfl
set_option maxRecDepth 100000 in
theorem sp_of {W : World} {b : Nat} {v : Value} (h : Value.okWide Try.prog W .any b 75 v) : ∃ s : Sp, v = .agg (spCells s).toArray ∧ SpOk s := by
  obtain ⟨cs, rfl, hl, hc⟩ := okv_agg (s := 5) h Try.underlying75 rfl sp_types (by kernel_rfl) rfl
  match cs, hl, hc with
  | [v0, v1, v2, v3, v4], _, hc =>
    obtain ⟨n0, rfl, a0, b0⟩ := okc_int (hc 0 v0 73 rfl rfl) Try.underlying73
    obtain ⟨n1, rfl, a1, b1⟩ := okc_int (hc 1 v1 73 rfl rfl) Try.underlying73
    obtain ⟨n2, rfl, a2, b2⟩ := okc_int (hc 2 v2 73 rfl rfl) Try.underlying73
    obtain ⟨n3, rfl, a3, b3⟩ := okc_int (hc 3 v3 3 rfl rfl) Try.underlying3
    obtain ⟨n4, rfl, a4, b4⟩ := okc_int (hc 4 v4 3 rfl rfl) Try.underlying3
    have b0 : n0 ≤ (4294967295 : Int) := b0
    have b1 : n1 ≤ (4294967295 : Int) := b1
    have b2 : n2 ≤ (4294967295 : Int) := b2
    obtain ⟨m0, rfl⟩ := Int.eq_ofNat_of_zero_le (show (0 : Int) ≤ n0 from a0)
    obtain ⟨m1, rfl⟩ := Int.eq_ofNat_of_zero_le (show (0 : Int) ≤ n1 from a1)
    obtain ⟨m2, rfl⟩ := Int.eq_ofNat_of_zero_le (show (0 : Int) ≤ n2 from a2)
    exact ⟨⟨m0, m1, m2, n3, n4⟩, rfl, ⟨by show m0 < _; omega, by show m1 < _; omega, by show m2 < _; omega, a3, b3, a4, b4⟩⟩

set_option maxRecDepth 100000 in
set_option maxHeartbeats 1000000 in
theorem sl_num (n : Int) :
    Ct Try.prog 52 [.int .i64 n] [] [] fun v post => v = .int .i64 n ∧ post = [] := by
 refine ct_of Try.func52 rfl rfl (fun w0 => ?_)
 show G _ _ [(0, _)] _ _
 refine G_seq ?_
 refine G_region (l := [0]) rfl ?_
 refine G_val rfl rfl rfl rfl (V_assign rfl rfl) ?_
 refine G_done ?_
 refine G_seq ?_
 refine G_region (l := [0, 1]) rfl ?_
 refine G_val rfl rfl rfl rfl (V_move rfl rfl) ?_
 refine G_val rfl rfl rfl rfl (V_assign rfl rfl) ?_
 refine G_done ?_
 refine G_ret (post := []) Try.func52 rfl (RVs_cons (RV_tmp rfl) RVs_nil) [] rfl ?_
 dsimp only [packed]
 exact ⟨rfl, rfl⟩

set_option maxRecDepth 100000 in
set_option maxHeartbeats 1000000 in
theorem sl_live  :
    Ct Try.prog 47 [] [] [] fun v post => v = .bool true ∧ post = [] := by
 have hl64 := liveS_len
 refine ct_of Try.func47 rfl rfl (fun w0 => ?_)
 show G _ _ [] _ _
 refine G_seq ?_
 refine G_region (l := [0]) rfl ?_
 refine G_val rfl rfl rfl rfl (V_assign rfl rfl) ?_
 refine G_done ?_
 refine G_seq ?_
 refine G_region (l := [0, 1, 2]) rfl ?_
 refine G_val rfl rfl rfl rfl (V_buildS (cs := [_, _, _, _, _]) rfl Try.underlying75 infSuperL_75 rfl plcSuperL_75 rfl rfl rfl) ?_
 refine G_new rfl rfl rfl rfl (N_allocA rfl infSuperL_75 rfl) (fun b1 => ?_)
 refine G_put (l1 := []) (L' := [_]) rfl rfl rfl rfl (P_storeA (s := 5) rfl rfl rfl (mem_at 0 rfl) (by first | rfl | (simp [bcells_length, spCells, pCells, spCells, pCells, wCells, kCells, wCells, kCells, wCells, kCells, spCells, pCells, wCells, kCells, spCells, pCells, wCells, kCells]; done) | (simp [bcells_length, spCells, pCells, spCells, pCells, wCells, kCells, wCells, kCells, wCells, kCells, spCells, pCells, wCells, kCells, spCells, pCells, wCells, kCells]; omega) | (simp [bcells_length, *, spCells, pCells, spCells, pCells, wCells, kCells, wCells, kCells, wCells, kCells, spCells, pCells, wCells, kCells, spCells, pCells, wCells, kCells]; done)) infSuperL_75 rfl (by first | rfl | (simp [bcells_length, spCells, pCells, spCells, pCells, wCells, kCells, wCells, kCells, wCells, kCells, spCells, pCells, wCells, kCells, spCells, pCells, wCells, kCells]; done) | (simp [bcells_length, spCells, pCells, spCells, pCells, wCells, kCells, wCells, kCells, wCells, kCells, spCells, pCells, wCells, kCells, spCells, pCells, wCells, kCells]; omega) | (simp [bcells_length, *, spCells, pCells, spCells, pCells, wCells, kCells, wCells, kCells, wCells, kCells, spCells, pCells, wCells, kCells, spCells, pCells, wCells, kCells]; done)) (by first | rfl | exact bcells_all _ | (simp [Value.oneCell', spCells, pCells, spCells, pCells, wCells, kCells, wCells, kCells, wCells, kCells, spCells, pCells, wCells, kCells, spCells, pCells, wCells, kCells]; done) | (simp [Value.oneCell', *, spCells, pCells, spCells, pCells, wCells, kCells, wCells, kCells, wCells, kCells, spCells, pCells, wCells, kCells, spCells, pCells, wCells, kCells]; done))) rfl ?_
 refine G_done ?_
 refine G_seq ?_
 refine G_region (l := [0, 1, 2, 3, 4, 5, 6]) rfl ?_
 first
   | refine G_val rfl rfl rfl rfl (V_loadW (s := 5) rfl rfl (mem_at 0 rfl) Try.underlying75 rfl infSuperL_75 rfl (by first | rfl | (simp [bcells_length, spCells, pCells, spCells, pCells, wCells, kCells, wCells, kCells, wCells, kCells, spCells, pCells, wCells, kCells, spCells, pCells, wCells, kCells]; done) | (simp [bcells_length, spCells, pCells, spCells, pCells, wCells, kCells, wCells, kCells, wCells, kCells, spCells, pCells, wCells, kCells, spCells, pCells, wCells, kCells]; omega) | (simp [bcells_length, *, spCells, pCells, spCells, pCells, wCells, kCells, wCells, kCells, wCells, kCells, spCells, pCells, wCells, kCells, spCells, pCells, wCells, kCells]; done))) ?_
   | refine G_val rfl rfl rfl rfl (V_loadA (s := 5) rfl rfl (mem_at 0 rfl) Try.underlying75 rfl infSuperL_75 rfl rfl (by first | rfl | (simp [bcells_length, spCells, pCells, spCells, pCells, wCells, kCells, wCells, kCells, wCells, kCells, spCells, pCells, wCells, kCells, spCells, pCells, wCells, kCells]; done) | (simp [bcells_length, spCells, pCells, spCells, pCells, wCells, kCells, wCells, kCells, wCells, kCells, spCells, pCells, wCells, kCells, spCells, pCells, wCells, kCells]; omega) | (simp [bcells_length, *, spCells, pCells, spCells, pCells, wCells, kCells, wCells, kCells, wCells, kCells, spCells, pCells, wCells, kCells, spCells, pCells, wCells, kCells]; done))) ?_
 refine G_call (L2 := [_]) rfl rfl rfl rfl rfl rfl Try.call48 ((sup_encode liveS liveS_ok).weaken (fun v post h => by rw [(encT_yes (decide_eq_true liveS_may)).1, (encT_yes (decide_eq_true liveS_may)).2] at h; exact h)) [] [] rfl rfl ?_
 rintro v post ⟨rfl, rfl⟩
 show G _ _ _ [_] _
 refine G_val rfl rfl rfl rfl (V_move rfl rfl) ?_
 refine G_val rfl rfl rfl rfl (V_extract rfl rfl rfl) ?_
 refine G_val rfl rfl rfl rfl (V_extract rfl rfl rfl) ?_
 refine G_val rfl rfl rfl rfl (V_assign rfl rfl) ?_
 refine G_val rfl rfl rfl rfl (V_assign rfl rfl) ?_
 refine G_done ?_
 refine G_seq ?_
 refine G_region (l := [0, 1, 2, 3, 4, 5, 6, 7]) rfl ?_
 refine G_val rfl rfl rfl rfl (V_move rfl rfl) ?_
 refine G_call (L2 := [_]) rfl rfl rfl rfl rfl rfl Try.call56 ((sup_pick [] (encS liveS) (by simp) (by omega)).weaken (fun v post h => by rw [live_pick] at h; exact h)) [] [] rfl rfl ?_
 rintro v post ⟨rfl, rfl⟩
 show G _ _ _ [_] _
 refine G_val rfl rfl rfl rfl (V_move rfl rfl) ?_
 refine G_val rfl rfl rfl rfl (V_extract rfl rfl rfl) ?_
 refine G_val rfl rfl rfl rfl (V_extract rfl rfl rfl) ?_
 refine G_new rfl rfl rfl rfl (N_allocA rfl infSuperL_75 rfl) (fun b4 => ?_)
 refine G_put (l1 := []) (L' := [_, _]) rfl rfl rfl rfl (P_storeA (s := 5) rfl rfl rfl (mem_at 0 rfl) (by first | rfl | (simp [bcells_length, spCells, pCells, spCells, pCells, wCells, kCells, wCells, kCells, wCells, kCells, spCells, pCells, wCells, kCells, spCells, pCells, wCells, kCells]; done) | (simp [bcells_length, spCells, pCells, spCells, pCells, wCells, kCells, wCells, kCells, wCells, kCells, spCells, pCells, wCells, kCells, spCells, pCells, wCells, kCells]; omega) | (simp [bcells_length, *, spCells, pCells, spCells, pCells, wCells, kCells, wCells, kCells, wCells, kCells, spCells, pCells, wCells, kCells, spCells, pCells, wCells, kCells]; done)) infSuperL_75 rfl (by first | rfl | (simp [bcells_length, spCells, pCells, spCells, pCells, wCells, kCells, wCells, kCells, wCells, kCells, spCells, pCells, wCells, kCells, spCells, pCells, wCells, kCells]; done) | (simp [bcells_length, spCells, pCells, spCells, pCells, wCells, kCells, wCells, kCells, wCells, kCells, spCells, pCells, wCells, kCells, spCells, pCells, wCells, kCells]; omega) | (simp [bcells_length, *, spCells, pCells, spCells, pCells, wCells, kCells, wCells, kCells, wCells, kCells, spCells, pCells, wCells, kCells, spCells, pCells, wCells, kCells]; done)) (by first | rfl | exact bcells_all _ | (simp [Value.oneCell', spCells, pCells, spCells, pCells, wCells, kCells, wCells, kCells, wCells, kCells, spCells, pCells, wCells, kCells, spCells, pCells, wCells, kCells]; done) | (simp [Value.oneCell', *, spCells, pCells, spCells, pCells, wCells, kCells, wCells, kCells, wCells, kCells, spCells, pCells, wCells, kCells, spCells, pCells, wCells, kCells]; done))) rfl ?_
 refine G_val rfl rfl rfl rfl (V_assign rfl rfl) ?_
 refine G_done ?_
 refine G_seq ?_
 refine G_region (l := [0, 1, 2, 3, 4, 5, 6, 7, 8, 9, 10, 11, 12, 13, 14, 15, 16]) rfl ?_
 first
   | refine G_val rfl rfl rfl rfl (V_loadW (s := 5) rfl rfl (mem_at 1 rfl) Try.underlying75 rfl infSuperL_75 rfl (by first | rfl | (simp [bcells_length, spCells, pCells, spCells, pCells, wCells, kCells, wCells, kCells, wCells, kCells, spCells, pCells, wCells, kCells, spCells, pCells, wCells, kCells]; done) | (simp [bcells_length, spCells, pCells, spCells, pCells, wCells, kCells, wCells, kCells, wCells, kCells, spCells, pCells, wCells, kCells, spCells, pCells, wCells, kCells]; omega) | (simp [bcells_length, *, spCells, pCells, spCells, pCells, wCells, kCells, wCells, kCells, wCells, kCells, spCells, pCells, wCells, kCells, spCells, pCells, wCells, kCells]; done))) ?_
   | refine G_val rfl rfl rfl rfl (V_loadA (s := 5) rfl rfl (mem_at 1 rfl) Try.underlying75 rfl infSuperL_75 rfl rfl (by first | rfl | (simp [bcells_length, spCells, pCells, spCells, pCells, wCells, kCells, wCells, kCells, wCells, kCells, spCells, pCells, wCells, kCells, spCells, pCells, wCells, kCells]; done) | (simp [bcells_length, spCells, pCells, spCells, pCells, wCells, kCells, wCells, kCells, wCells, kCells, spCells, pCells, wCells, kCells, spCells, pCells, wCells, kCells]; omega) | (simp [bcells_length, *, spCells, pCells, spCells, pCells, wCells, kCells, wCells, kCells, wCells, kCells, spCells, pCells, wCells, kCells, spCells, pCells, wCells, kCells]; done))) ?_
 refine G_call (L2 := [_, _]) rfl rfl rfl rfl rfl rfl Try.call55 (sup_place liveS liveS_ok) [] [] rfl rfl ?_
 rintro v post ⟨rfl, rfl⟩
 show G _ _ _ [_, _] _
 refine G_val rfl rfl rfl rfl (V_eql rfl rfl rfl) ?_
 refine G_val rfl rfl rfl rfl (V_move rfl rfl) ?_
 refine G_splitD 20 rfl (fun hc1 => ?_) (fun hc1 => ?_)
 rotate_left
 · (first | (exact absurd rfl hc1) | (exact absurd (by decide) hc1) | (exact absurd hc1 (by decide)) | (exfalso; omega))
 refine G_val rfl rfl rfl rfl (V_move rfl rfl) ?_
 refine G_call (L2 := [_, _]) rfl rfl rfl rfl rfl rfl Try.call52 (sl_num _) [] [] rfl rfl ?_
 rintro v post ⟨rfl, rfl⟩
 show G _ _ _ [_, _] _
 refine G_val rfl rfl rfl rfl (V_eql rfl rfl rfl) ?_
 refine G_val rfl rfl rfl rfl (V_pickT rfl rfl rfl) ?_
 refine G_val rfl rfl rfl rfl (V_move rfl rfl) ?_
 refine G_splitD 25 rfl (fun hc2 => ?_) (fun hc2 => ?_)
 rotate_left
 · (first | (exact absurd rfl hc2) | (exact absurd (by decide) hc2) | (exact absurd hc2 (by decide)) | (exfalso; omega))
 refine G_val rfl rfl rfl rfl (V_move rfl rfl) ?_
 refine G_val rfl rfl rfl rfl (V_pickT rfl rfl rfl) ?_
 refine G_val rfl rfl rfl rfl (V_move rfl rfl) ?_
 refine G_split 28 rfl (fun hc3 => ?_) (fun hc3 => ?_)
 rotate_left
 · (first | (exact absurd rfl hc3) | (exact absurd (by decide) hc3) | (exact absurd hc3 (by decide)) | (exfalso; omega))
 first
   | refine G_val rfl rfl rfl rfl (V_loadW (s := 5) rfl rfl (mem_at 0 rfl) Try.underlying75 rfl infSuperL_75 rfl (by first | rfl | (simp [bcells_length, spCells, pCells, spCells, pCells, wCells, kCells, wCells, kCells, wCells, kCells, spCells, pCells, wCells, kCells, spCells, pCells, wCells, kCells]; done) | (simp [bcells_length, spCells, pCells, spCells, pCells, wCells, kCells, wCells, kCells, wCells, kCells, spCells, pCells, wCells, kCells, spCells, pCells, wCells, kCells]; omega) | (simp [bcells_length, *, spCells, pCells, spCells, pCells, wCells, kCells, wCells, kCells, wCells, kCells, spCells, pCells, wCells, kCells, spCells, pCells, wCells, kCells]; done))) ?_
   | refine G_val rfl rfl rfl rfl (V_loadA (s := 5) rfl rfl (mem_at 0 rfl) Try.underlying75 rfl infSuperL_75 rfl rfl (by first | rfl | (simp [bcells_length, spCells, pCells, spCells, pCells, wCells, kCells, wCells, kCells, wCells, kCells, spCells, pCells, wCells, kCells, spCells, pCells, wCells, kCells]; done) | (simp [bcells_length, spCells, pCells, spCells, pCells, wCells, kCells, wCells, kCells, wCells, kCells, spCells, pCells, wCells, kCells, spCells, pCells, wCells, kCells]; omega) | (simp [bcells_length, *, spCells, pCells, spCells, pCells, wCells, kCells, wCells, kCells, wCells, kCells, spCells, pCells, wCells, kCells, spCells, pCells, wCells, kCells]; done))) ?_
 first
   | refine G_val rfl rfl rfl rfl (V_loadW (s := 5) rfl rfl (mem_at 1 rfl) Try.underlying75 rfl infSuperL_75 rfl (by first | rfl | (simp [bcells_length, spCells, pCells, spCells, pCells, wCells, kCells, wCells, kCells, wCells, kCells, spCells, pCells, wCells, kCells, spCells, pCells, wCells, kCells]; done) | (simp [bcells_length, spCells, pCells, spCells, pCells, wCells, kCells, wCells, kCells, wCells, kCells, spCells, pCells, wCells, kCells, spCells, pCells, wCells, kCells]; omega) | (simp [bcells_length, *, spCells, pCells, spCells, pCells, wCells, kCells, wCells, kCells, wCells, kCells, spCells, pCells, wCells, kCells, spCells, pCells, wCells, kCells]; done))) ?_
   | refine G_val rfl rfl rfl rfl (V_loadA (s := 5) rfl rfl (mem_at 1 rfl) Try.underlying75 rfl infSuperL_75 rfl rfl (by first | rfl | (simp [bcells_length, spCells, pCells, spCells, pCells, wCells, kCells, wCells, kCells, wCells, kCells, spCells, pCells, wCells, kCells, spCells, pCells, wCells, kCells]; done) | (simp [bcells_length, spCells, pCells, spCells, pCells, wCells, kCells, wCells, kCells, wCells, kCells, spCells, pCells, wCells, kCells, spCells, pCells, wCells, kCells]; omega) | (simp [bcells_length, *, spCells, pCells, spCells, pCells, wCells, kCells, wCells, kCells, wCells, kCells, spCells, pCells, wCells, kCells, spCells, pCells, wCells, kCells]; done))) ?_
 refine G_val rfl rfl rfl rfl (V_aggeql (m := 6) rfl Try.eqGuardType75 (by kernel_rfl) (by decide) (formed_of Try.underlying75 rfl (by kernel_rfl : Try.prog.cellsOf 75 = 5) (by first | rfl | (simp [bcells_length, spCells, pCells, spCells, pCells, wCells, kCells, wCells, kCells, wCells, kCells, spCells, pCells, wCells, kCells, spCells, pCells, wCells, kCells]; done) | (simp [bcells_length, spCells, pCells, spCells, pCells, wCells, kCells, wCells, kCells, wCells, kCells, spCells, pCells, wCells, kCells, spCells, pCells, wCells, kCells]; omega) | (simp [bcells_length, *, spCells, pCells, spCells, pCells, wCells, kCells, wCells, kCells, wCells, kCells, spCells, pCells, wCells, kCells, spCells, pCells, wCells, kCells]; done))) (formed_of Try.underlying75 rfl (by kernel_rfl : Try.prog.cellsOf 75 = 5) (by first | rfl | (simp [bcells_length, spCells, pCells, spCells, pCells, wCells, kCells, wCells, kCells, wCells, kCells, spCells, pCells, wCells, kCells, spCells, pCells, wCells, kCells]; done) | (simp [bcells_length, spCells, pCells, spCells, pCells, wCells, kCells, wCells, kCells, wCells, kCells, spCells, pCells, wCells, kCells, spCells, pCells, wCells, kCells]; omega) | (simp [bcells_length, *, spCells, pCells, spCells, pCells, wCells, kCells, wCells, kCells, wCells, kCells, spCells, pCells, wCells, kCells, spCells, pCells, wCells, kCells]; done))) rfl rfl (key_sp liveS liveS_ok) (key_sp liveS liveS_ok)) ?_
 refine G_val rfl rfl rfl rfl (V_pickT rfl rfl rfl) ?_
 refine G_val rfl rfl rfl rfl (V_assign rfl rfl) ?_
 refine G_done ?_
 refine G_ret (post := []) Try.func47 rfl (RVs_cons (RV_tmp rfl) RVs_nil) [] rfl ?_
 dsimp only [packed]
 first | exact ⟨rfl, rfl⟩ | (refine ⟨bool_eq ?_, rfl⟩; simp; done)

end
end Go.Proofs.Ytkidmbaakdaflaa
