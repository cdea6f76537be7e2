/- The walk of layer 40, on: the document's events out of bytes. -/
import Derived.Test.YtkekkalgebgokaaScriptY
set_option linter.unusedSimpArgs false
set_option linter.unusedVariables false
namespace Go.Proofs.Ytkekkalgebgokaa
open Go Go.RowKit

section
theorem infScriptZ_3 : Try.prog.info? 3 = some Try.t3 := by kernel_rfl
theorem infScriptZ_9 : Try.prog.info? 9 = some Try.t9 := by kernel_rfl
theorem infScriptZ_23 : Try.prog.info? 23 = some Try.t23 := by kernel_rfl
theorem infScriptZ_56 : Try.prog.info? 56 = some Try.t56 := by kernel_rfl
theorem infScriptZ_58 : Try.prog.info? 58 = some Try.t58 := by kernel_rfl
theorem infScriptZ_86 : Try.prog.info? 86 = some Try.t86 := by kernel_rfl
theorem infScriptZ_151 : Try.prog.info? 151 = some Try.t151 := by kernel_rfl
theorem plcScriptZ_58 : placesOf Try.prog (Try.prog.fieldsOf 58) = some [(0, 1), (1, 1), (2, 1), (3, 1), (4, 1)] := by kernel_rfl
theorem plcScriptZ_86 : placesOf Try.prog (Try.prog.fieldsOf 86) = some [(0, 1), (1, 1)] := by kernel_rfl
theorem plcScriptZ_151 : placesOf Try.prog (Try.prog.fieldsOf 151) = some [(0, 1), (1, 1)] := by kernel_rfl

set_option maxRecDepth 100000 in
set_option maxHeartbeats 4000000 in
theorem rsc_decode (l : List UInt8) (hl : l.length ≤ 140737488350000) :
    Ct Try.prog 28 [.string (bs l)] [] [] fun v post => ∃ u ms c, Own 5 u (ms.flatMap evC) ms.length ∧ (∀ m ∈ ms, EmOk m) ∧ ms.length ≤ 400 ∧ DecR l (evsOf ms) c ∧ v = .tuple #[u.v ms.length, .int .i64 c] ∧ post = (u.ob, .cells u.cs 58 u.fz) :: ms.map evK := by
 obtain ⟨n, l0, e0, h0⟩ : ∃ n l0 e0, rdInt 400 l 0 = (n, l0, e0) := ⟨_, _, _, rfl⟩
 have r0 := rdg_int 400 l 0 (by omega) (by omega)
 have m0 := (rdInt_bd 400 l 0 (by omega) (by omega)).1
 rw [h0] at r0 m0
 have a0 := r0.len
 have c0 := r0.err
 simp only at a0 c0 m0 r0
 refine ct_of Try.func28 rfl rfl (fun w0 => ?_)
 show G _ _ [(0, _)] _ _
 refine G_seq ?_
 refine G_region (l := [0, 1]) rfl ?_
 refine G_val rfl rfl rfl rfl (V_assign rfl rfl) ?_
 refine G_val rfl rfl rfl rfl (V_assign rfl rfl) ?_
 refine G_done ?_
 refine G_seq ?_
 refine G_region (l := [0, 1, 2, 3]) rfl ?_
 refine G_val rfl rfl rfl rfl (V_move rfl rfl) ?_
 refine G_val rfl rfl rfl rfl (V_buildS (cs := [_, _]) rfl Try.underlying86 infScriptZ_86 rfl plcScriptZ_86 rfl rfl rfl) ?_
 refine G_new rfl rfl rfl rfl (N_boxA rfl rfl) (fun b14 => ?_)
 refine G_val rfl rfl rfl rfl (V_assign rfl rfl) ?_
 refine G_done ?_
 refine G_seq ?_
 refine G_region (l := [0, 1]) rfl ?_
 refine G_new rfl rfl rfl rfl (N_build0 rfl Try.underlying53 infScriptZ_58) (fun b15 => ?_)
 refine G_val rfl rfl rfl rfl (V_assign rfl rfl) ?_
 refine G_done ?_
 refine G_seq ?_
 refine G_region (l := [0, 1, 2]) rfl ?_
 refine G_val rfl rfl rfl rfl (V_move rfl rfl) ?_
 refine G_call (L2 := [_]) rfl rfl rfl rfl rfl rfl Try.call40 ((rrd_int b14 l 0 400 (by omega) (by omega) (by omega)).weaken (fun v post h => by rw [h0] at h; exact h)) [1] [] rfl rfl ?_
 rintro v post ⟨rfl, rfl⟩
 show G _ _ _ [_, _] _
 refine G_val rfl rfl rfl rfl (V_assign rfl rfl) ?_
 refine G_done ?_
 refine G_seq ?_
 refine G_seq ?_
 refine G_region (l := [0]) rfl ?_
 refine G_val rfl rfl rfl rfl (V_assign rfl rfl) ?_
 refine G_done ?_
 refine G_block ?_
 refine G_subT (L1 := [_, _]) ?he5 [0, 0] ?hl5 (G_loop (X := Nat × Sl × List Em × List UInt8 × Nat) (fun x => match x with | ⟨i, u, ms, l1, e1⟩ => i ≤ n ∧ Own 5 u (ms.flatMap evC) i ∧ (∀ m ∈ ms, EmOk m) ∧ RdgL encE GoodE n l0 e0 i (evsOf ms) l1 e1) (fun x => match x with | ⟨i, u, ms, l1, e1⟩ => n - i) (fun x => match x with | ⟨i, u, ms, l1, e1⟩ => [(4, .pointer (some ⟨b14, 0, none⟩)), (5, u.v i), (6, .int .i64 (n : Int)), (7, .int .i64 (i : Int))]) (fun x => match x with | ⟨i, u, ms, l1, e1⟩ => ((some b14, .cells #[.string (bs l1), .int .i64 ((e1 : Nat) : Int)] 86 (0, 0)) :: (u.ob, .cells u.cs 58 u.fz) :: ms.map evK)) ?round5 (0, ⟨some b15, #[], (0, 0), 0⟩, [], l0, e0) ?h05)
 case he5 => exact (And.intro rfl (And.intro rfl (And.intro rfl (And.intro rfl trivial))))
 case hl5 => exact ⟨_, _, rfl, .refl _⟩
 case h05 => exact ⟨Nat.zero_le _, own_empty 5 b15, by simp, .zero c0⟩
 case round5 =>
  intro x hJ ih
  try dsimp only at hJ ih
  obtain ⟨i, u, ms, l1, e1⟩ := x
  try dsimp only at hJ ih
  obtain ⟨hi, hu, hoks, hx⟩ := hJ
  show G _ _ [(4, .pointer (some ⟨b14, 0, none⟩)), (5, u.v i), (6, .int .i64 (n : Int)), (7, .int .i64 (i : Int))] ((some b14, .cells #[.string (bs l1), .int .i64 ((e1 : Nat) : Int)] 86 (0, 0)) :: (u.ob, .cells u.cs 58 u.fz) :: ms.map evK) _
  have hl1 := hx.len
  have he1 := hx.err
  refine G_seq ?_
  refine G_seq ?_
  refine G_region (l := [0, 1, 2, 3, 4, 5, 6, 7, 8, 9]) rfl ?_
  refine G_val rfl rfl rfl rfl (V_move rfl rfl) ?_
  refine G_val rfl rfl rfl rfl (V_move rfl rfl) ?_
  refine G_val rfl rfl rfl rfl (V_lss rfl rfl rfl) ?_
  refine G_val rfl rfl rfl rfl (V_move rfl rfl) ?_
  refine G_splitD 21 rfl (fun hc1 => ?_) (fun hc1 => ?_)
  · skip
    refine G_val rfl rfl rfl rfl (V_move rfl rfl) ?_
    first
      | refine G_val rfl rfl rfl rfl (V_nilCheck rfl rfl) ?_
      | refine G_val rfl rfl rfl rfl (V_nilCheckF rfl rfl) ?_
    refine G_val rfl rfl rfl rfl (V_fieldAddr (fo := 1) rfl Try.underlying86 rfl infScriptZ_3 rfl rfl rfl) ?_
    refine G_val rfl rfl rfl rfl (V_load1 rfl rfl (mem_at 0 rfl) rfl Try.underlying3 rfl) ?_
    refine G_val rfl rfl rfl rfl (V_eql rfl rfl rfl) ?_
    refine G_val rfl rfl rfl rfl (V_pickT rfl rfl rfl) ?_
    refine G_done ?_
    refine G_ifD rfl (fun hc2 => ?_) (fun hc2 => ?_)
    · skip
      refine G_skip ?_
      refine G_seq ?_
      refine G_block ?_
      refine G_seq ?_
      obtain ⟨k, la, ea, g0⟩ : ∃ a_ l_ e_, rdInt 3 l1 e1 = (a_, l_, e_) := ⟨_, _, _, rfl⟩
      obtain ⟨tt, lb, eb, g1⟩ : ∃ a_ l_ e_, rdNum la ea = (a_, l_, e_) := ⟨_, _, _, rfl⟩
      obtain ⟨s, lc, ec, g2⟩ : ∃ a_ l_ e_, rdStr 600 lb eb = (a_, l_, e_) := ⟨_, _, _, rfl⟩
      obtain ⟨z, ld, ed, g3⟩ : ∃ a_ l_ e_, rdInt 1099511627776 lc ec = (a_, l_, e_) := ⟨_, _, _, rfl⟩
      obtain ⟨kn, le_, ee, g4⟩ : ∃ a_ l_ e_, rdInt 64 ld ed = (a_, l_, e_) := ⟨_, _, _, rfl⟩
      have q0 := rdg_int 3 l1 e1 he1 (by omega)
      have n0 := (rdInt_bd 3 l1 e1 he1 (by omega)).1
      rw [g0] at q0 n0
      have a0_ := q0.len
      have c0_ := q0.err
      have q1 := rdg_num la ea c0_
      have n1 := (rdNum_bd la ea c0_).1
      rw [g1] at q1 n1
      have a1 := q1.len
      have c1 := q1.err
      have q2 := rdg_str 600 lb eb c1 (by omega)
      have n2 := (rdStr_bd 600 lb eb c1 (by omega)).1
      rw [g2] at q2 n2
      have a2 := q2.len
      have c2 := q2.err
      have q3 := rdg_int 1099511627776 lc ec c2 (by omega)
      have n3 := (rdInt_bd 1099511627776 lc ec c2 (by omega)).1
      rw [g3] at q3 n3
      have a3 := q3.len
      have c3 := q3.err
      have q4 := rdg_int 64 ld ed c3 (by omega)
      have n4 := (rdInt_bd 64 ld ed c3 (by omega)).1
      rw [g4] at q4 n4
      have a4 := q4.len
      have c4 := q4.err
      simp only at a0_ c0_ n0 q0 a1 c1 n1 q1 a2 c2 n2 q2 a3 c3 n3 q3 a4 c4 n4 q4
      refine G_region (l := [0, 1, 2, 3, 4]) rfl ?_
      refine G_val rfl rfl rfl rfl (V_move rfl rfl) ?_
      refine G_call (L2 := (_ :: _)) rfl rfl rfl rfl rfl rfl Try.call40 ((rrd_int b14 l1 e1 3 (by omega) (by omega) (by omega)).weaken (fun v post h => by rw [g0] at h; exact h)) [0] [] rfl rfl ?_
      rintro v post ⟨rfl, rfl⟩
      show G _ _ _ (_ :: _ :: _) _
      refine G_val rfl rfl rfl rfl (V_buildS (cs := [_, _, _, _, _]) rfl Try.underlying58 infScriptZ_58 rfl plcScriptZ_58 rfl rfl rfl) ?_
      refine G_new rfl rfl rfl rfl (N_allocA rfl infScriptZ_58 rfl) (fun b8 => ?_)
      refine G_put (l1 := []) (L' := (_ :: _ :: _ :: _)) rfl rfl rfl rfl (P_storeA (s := 5) rfl rfl rfl (mem_at 0 rfl) (by first | rfl | (simp [bcells_length, evC, evV, kC, evS, Sl.v]; done) | (simp [bcells_length, evC, evV, kC, evS, Sl.v]; omega) | (simp [bcells_length, *, evC, evV, kC, evS, Sl.v]; done)) infScriptZ_58 rfl (by first | rfl | (simp [bcells_length, evC, evV, kC, evS, Sl.v]; done) | (simp [bcells_length, evC, evV, kC, evS, Sl.v]; omega) | (simp [bcells_length, *, evC, evV, kC, evS, Sl.v]; done)) (by first | rfl | exact bcells_all _ | (simp [Value.oneCell', evC, evV, kC, evS, Sl.v]; done) | (simp [Value.oneCell', *, evC, evV, kC, evS, Sl.v]; done))) rfl ?_
      refine G_done ?_
      refine G_seq ?_
      rcases (by omega : k = 0 ∨ k = 1 ∨ k = 2 ∨ k = 3) with rfl | rfl | rfl | rfl
      · skip
        refine G_region (l := [0, 1, 2, 3]) rfl ?_
        refine G_val rfl rfl rfl rfl (V_move rfl rfl) ?_
        refine G_call (L2 := (_ :: _ :: _)) rfl rfl rfl rfl rfl rfl Try.call36 ((rrd_num b14 la ea (by omega) (by omega)).weaken (fun v post h => by rw [g1] at h; exact h)) [1] [] rfl rfl ?_
        rintro v post ⟨rfl, rfl⟩
        show G _ _ _ (_ :: _ :: _ :: _) _
        refine G_val rfl rfl rfl rfl (V_fieldAddr (fo := 2) rfl Try.underlying58 rfl infScriptZ_23 rfl rfl rfl) ?_
        refine G_put (l1 := [_]) (L' := (_ :: _ :: _ :: _)) rfl rfl rfl rfl (P_store1 rfl rfl rfl (mem_at 1 rfl) (by first | exact of_decide_eq_true rfl | omega | (simp [evC, evV, kC, evS, Sl.v]; done) | (simp [evC, evV, kC, evS, Sl.v]; omega) | (simp [evC, evV, kC, evS, Sl.v] at *; omega)) infScriptZ_23 rfl rfl) rfl ?_
        rw [set5_2]
        refine G_done ?_
        refine G_seq ?_
        refine G_seq ?_
        refine G_region (l := [0, 1, 2]) rfl ?_
        refine G_val rfl rfl rfl rfl (V_fieldAddr (fo := 0) rfl Try.underlying58 rfl infScriptZ_3 rfl rfl rfl) ?_
        refine G_val rfl rfl rfl rfl (V_load1 rfl rfl (mem_at 1 rfl) rfl Try.underlying3 rfl) ?_
        refine G_val rfl rfl rfl rfl (V_neq rfl rfl rfl) ?_
        refine G_done ?_
        refine G_ifD rfl (fun hc3 => ?_) (fun hc3 => ?_)
        rotate_left
        · (first | contradiction | (exact absurd rfl hc3) | (exfalso; omega) | (simp at hc3; done) | (exact absurd hc3 (by decide)) | (exact absurd (by decide) hc3))
        refine G_region (l := [0, 1, 2, 3]) rfl ?_
        refine G_val rfl rfl rfl rfl (V_move rfl rfl) ?_
        refine G_call (L2 := (_ :: _ :: _)) rfl rfl rfl rfl rfl rfl Try.call41 ((rrd_str b14 lb eb 600 (by omega) (by omega) (by omega)).weaken (fun v post h => by rw [g2] at h; exact h)) [0] [] rfl rfl ?_
        rintro v post ⟨rfl, rfl⟩
        show G _ _ _ (_ :: _ :: _ :: _) _
        refine G_val rfl rfl rfl rfl (V_fieldAddr (fo := 1) rfl Try.underlying58 rfl infScriptZ_9 rfl rfl rfl) ?_
        refine G_put (l1 := [_]) (L' := (_ :: _ :: _ :: _)) rfl rfl rfl rfl (P_store1 rfl rfl rfl (mem_at 1 rfl) (by first | exact of_decide_eq_true rfl | omega | (simp [evC, evV, kC, evS, Sl.v]; done) | (simp [evC, evV, kC, evS, Sl.v]; omega) | (simp [evC, evV, kC, evS, Sl.v] at *; omega)) infScriptZ_9 rfl rfl) rfl ?_
        rw [set5_1]
        refine G_done ?_
        refine G_seq ?_
        refine G_seq ?_
        refine G_region (l := [0, 1, 2]) rfl ?_
        refine G_val rfl rfl rfl rfl (V_fieldAddr (fo := 0) rfl Try.underlying58 rfl infScriptZ_3 rfl rfl rfl) ?_
        refine G_val rfl rfl rfl rfl (V_load1 rfl rfl (mem_at 1 rfl) rfl Try.underlying3 rfl) ?_
        refine G_val rfl rfl rfl rfl (V_eql rfl rfl rfl) ?_
        refine G_done ?_
        refine G_ifD rfl (fun hc4 => ?_) (fun hc4 => ?_)
        · (first | contradiction | (exact absurd rfl hc4) | (exfalso; omega) | (simp at hc4; done) | (exact absurd hc4 (by decide)) | (exact absurd (by decide) hc4))
        refine G_skip ?_
        refine G_seq ?_
        refine G_seq ?_
        try (obtain rfl := hkx.num)
        refine G_region (l := [0, 1, 2]) rfl ?_
        refine G_val rfl rfl rfl rfl (V_fieldAddr (fo := 0) rfl Try.underlying58 rfl infScriptZ_3 rfl rfl rfl) ?_
        refine G_val rfl rfl rfl rfl (V_load1 rfl rfl (mem_at 1 rfl) rfl Try.underlying3 rfl) ?_
        refine G_val rfl rfl rfl rfl (V_eql rfl rfl rfl) ?_
        refine G_done ?_
        refine G_ifD rfl (fun hc5 => ?_) (fun hc5 => ?_)
        rotate_left
        · (first | contradiction | (exact absurd rfl hc5) | (exfalso; omega) | (simp at hc5; done) | (exact absurd hc5 (by decide)) | (exact absurd (by decide) hc5))
        refine G_seq ?_
        refine G_addNone (.cells #[] 58 (0, 0)) ?_
        refine G_region (l := [0, 1]) rfl ?_
        refine G_val rfl rfl rfl rfl (V_assign rfl rfl) ?_
        refine G_val rfl rfl rfl rfl (V_assign rfl rfl) ?_
        refine G_done ?_
        refine G_retT (p1 := [_]) (T := []) Try.func28 rfl (RVs_cons (RV_tmp rfl) (RVs_cons (RV_tmp rfl) RVs_nil)) [0] ⟨_, _, rfl, .refl _⟩ ?_
        dsimp only [packed]
        first
          | exact ⟨slNil, [], 3, own_nil 5, by simp, by simp, dec_fail (v := ⟨0, [], 0, 0, []⟩) (l2 := la) (e2 := ea) r0 hx (by omega) (.inr ⟨rfl, ev0 q0 rfl⟩) (.inr fun h => absurd h.1.1 (by decide)), rfl, rfl⟩
          | exact ⟨slNil, [], 3, own_nil 5, by simp, by simp, dec_bad r0 hx (by first | exact .inl (by omega) | exact .inr (by omega)) (by omega), rfl, rfl⟩
          | (have hz := rdEnd_back (by omega : rdEnd l1 e1 = 0)
             obtain rfl : i = n := by omega
             have hnum := hx.num
             unfold evsOf at hnum
             rw [List.length_map] at hnum
             exact ⟨u, ms, 0, by rw [hnum]; exact hu, hoks, by omega, dec_good r0 hx (by omega), by rw [hnum], rfl⟩)
      · skip
        refine G_region (l := [0, 1, 2, 3]) rfl ?_
        refine G_val rfl rfl rfl rfl (V_move rfl rfl) ?_
        refine G_call (L2 := (_ :: _ :: _)) rfl rfl rfl rfl rfl rfl Try.call36 ((rrd_num b14 la ea (by omega) (by omega)).weaken (fun v post h => by rw [g1] at h; exact h)) [1] [] rfl rfl ?_
        rintro v post ⟨rfl, rfl⟩
        show G _ _ _ (_ :: _ :: _ :: _) _
        refine G_val rfl rfl rfl rfl (V_fieldAddr (fo := 2) rfl Try.underlying58 rfl infScriptZ_23 rfl rfl rfl) ?_
        refine G_put (l1 := [_]) (L' := (_ :: _ :: _ :: _)) rfl rfl rfl rfl (P_store1 rfl rfl rfl (mem_at 1 rfl) (by first | exact of_decide_eq_true rfl | omega | (simp [evC, evV, kC, evS, Sl.v]; done) | (simp [evC, evV, kC, evS, Sl.v]; omega) | (simp [evC, evV, kC, evS, Sl.v] at *; omega)) infScriptZ_23 rfl rfl) rfl ?_
        rw [set5_2]
        refine G_done ?_
        refine G_seq ?_
        refine G_seq ?_
        refine G_region (l := [0, 1, 2]) rfl ?_
        refine G_val rfl rfl rfl rfl (V_fieldAddr (fo := 0) rfl Try.underlying58 rfl infScriptZ_3 rfl rfl rfl) ?_
        refine G_val rfl rfl rfl rfl (V_load1 rfl rfl (mem_at 1 rfl) rfl Try.underlying3 rfl) ?_
        refine G_val rfl rfl rfl rfl (V_neq rfl rfl rfl) ?_
        refine G_done ?_
        refine G_ifD rfl (fun hc3 => ?_) (fun hc3 => ?_)
        rotate_left
        · (first | contradiction | (exact absurd rfl hc3) | (exfalso; omega) | (simp at hc3; done) | (exact absurd hc3 (by decide)) | (exact absurd (by decide) hc3))
        refine G_region (l := [0, 1, 2, 3]) rfl ?_
        refine G_val rfl rfl rfl rfl (V_move rfl rfl) ?_
        refine G_call (L2 := (_ :: _ :: _)) rfl rfl rfl rfl rfl rfl Try.call41 ((rrd_str b14 lb eb 600 (by omega) (by omega) (by omega)).weaken (fun v post h => by rw [g2] at h; exact h)) [0] [] rfl rfl ?_
        rintro v post ⟨rfl, rfl⟩
        show G _ _ _ (_ :: _ :: _ :: _) _
        refine G_val rfl rfl rfl rfl (V_fieldAddr (fo := 1) rfl Try.underlying58 rfl infScriptZ_9 rfl rfl rfl) ?_
        refine G_put (l1 := [_]) (L' := (_ :: _ :: _ :: _)) rfl rfl rfl rfl (P_store1 rfl rfl rfl (mem_at 1 rfl) (by first | exact of_decide_eq_true rfl | omega | (simp [evC, evV, kC, evS, Sl.v]; done) | (simp [evC, evV, kC, evS, Sl.v]; omega) | (simp [evC, evV, kC, evS, Sl.v] at *; omega)) infScriptZ_9 rfl rfl) rfl ?_
        rw [set5_1]
        refine G_done ?_
        refine G_seq ?_
        refine G_seq ?_
        refine G_region (l := [0, 1, 2]) rfl ?_
        refine G_val rfl rfl rfl rfl (V_fieldAddr (fo := 0) rfl Try.underlying58 rfl infScriptZ_3 rfl rfl rfl) ?_
        refine G_val rfl rfl rfl rfl (V_load1 rfl rfl (mem_at 1 rfl) rfl Try.underlying3 rfl) ?_
        refine G_val rfl rfl rfl rfl (V_eql rfl rfl rfl) ?_
        refine G_done ?_
        refine G_ifD rfl (fun hc4 => ?_) (fun hc4 => ?_)
        · (first | contradiction | (exact absurd rfl hc4) | (exfalso; omega) | (simp at hc4; done) | (exact absurd hc4 (by decide)) | (exact absurd (by decide) hc4))
        refine G_skip ?_
        refine G_seq ?_
        refine G_seq ?_
        try (obtain rfl := hkx.num)
        refine G_region (l := [0, 1, 2]) rfl ?_
        refine G_val rfl rfl rfl rfl (V_fieldAddr (fo := 0) rfl Try.underlying58 rfl infScriptZ_3 rfl rfl rfl) ?_
        refine G_val rfl rfl rfl rfl (V_load1 rfl rfl (mem_at 1 rfl) rfl Try.underlying3 rfl) ?_
        refine G_val rfl rfl rfl rfl (V_eql rfl rfl rfl) ?_
        refine G_done ?_
        refine G_ifD rfl (fun hc5 => ?_) (fun hc5 => ?_)
        · (first | contradiction | (exact absurd rfl hc5) | (exfalso; omega) | (simp at hc5; done) | (exact absurd hc5 (by decide)) | (exact absurd (by decide) hc5))
        refine G_skip ?_
        first | (have hev := ev1 q0 rfl q1 q2) | (have hev := ev2 q0 rfl q1) | (have hev := ev3 q0 rfl q1 q2 q3 (rkeeps q4 hkx (by omega)))
        refine G_addNone (.cells #[] 151 (0, 0)) ?_
        refine G_region (l := [0, 1, 2, 3, 4]) rfl ?_
        refine G_val rfl rfl rfl rfl (V_move rfl rfl) ?_
        first
          | refine G_val rfl rfl rfl rfl (V_loadW (s := 5) rfl rfl (mem_at 2 rfl) Try.underlying58 rfl infScriptZ_58 rfl (by first | rfl | (simp [bcells_length, evC, evV, kC, evS, Sl.v]; done) | (simp [bcells_length, evC, evV, kC, evS, Sl.v]; omega) | (simp [bcells_length, *, evC, evV, kC, evS, Sl.v]; done))) ?_
          | refine G_val rfl rfl rfl rfl (V_loadA (s := 5) rfl rfl (mem_at 2 rfl) Try.underlying58 rfl infScriptZ_58 rfl rfl (by first | rfl | (simp [bcells_length, evC, evV, kC, evS, Sl.v]; done) | (simp [bcells_length, evC, evV, kC, evS, Sl.v]; omega) | (simp [bcells_length, *, evC, evV, kC, evS, Sl.v]; done))) ?_
        refine G_new rfl rfl rfl rfl (N_buildAll (s := 5) (cs := [_, _, _, _, _]) rfl Try.underlying53 infScriptZ_58 rfl rfl rfl rfl rfl rfl rfl rfl rfl) (fun b79 => ?_)
        refine G_append (l1 := [_, _, _, _]) (s := u) (nn := i) (m := 1) (news := evC (emN ⟨1, s, tt, 0, []⟩)) (bt := 64) rfl rfl rfl rfl Try.underlying53 Try.underlying53 (by first | exact .inl rfl | exact .inr ⟨_, rfl⟩) infScriptZ_58 rfl rfl rfl rfl rfl rfl hu rfl (src_mem (mem_at 0 rfl) rfl rfl (by simp [evC, emU, emN, evV, evS, Value.oneCell'])) (by omega) (by omega) ?_
        intro u1 hu1 _
        show G _ _ _ (_ :: _ :: _ :: _ :: _ :: _) _
        refine G_val rfl rfl rfl rfl (V_assign rfl rfl) ?_
        refine G_done ?_
        refine G_inBlock ?_
        refine G_region (l := [0, 1, 2]) rfl ?_
        refine G_val rfl rfl rfl rfl (V_move rfl rfl) ?_
        first
          | refine G_val rfl rfl rfl rfl ((V_add rfl rfl rfl).int (wrap_i64 (by omega))) ?_
          | refine G_val rfl rfl rfl rfl (V_add rfl rfl rfl) ?_
        refine G_val rfl rfl rfl rfl (V_assign rfl rfl) ?_
        refine G_done ?_
        refine G_subT (L1 := [_, _]) ?_ [2, 3] ?_ (ih (i + 1, u1, ms ++ [(emN ⟨1, s, tt, 0, []⟩)], lc, ec) ?_ ?_)
        · (refine (And.intro ?_ (And.intro ?_ (And.intro ?_ (And.intro ?_ trivial)))) <;> first | rfl | exact slot_int (by omega) | exact slot_int (by simp))
        · exact ⟨_, _, rfl, perm_bk evK ms (emN ⟨1, s, tt, 0, []⟩) [_] [_]⟩
        · exact ⟨by omega, by rw [List.flatMap_append, List.flatMap_singleton]; exact hu1, oks_next hoks (emN_ok (by simp) (by show s.length ≤ _; omega) n1 (by simp) rfl), by rw [evs_next]; exact hx.next hev (by omega)⟩
        · (first | omega | (dsimp only; omega))
      · skip
        refine G_region (l := [0, 1, 2, 3]) rfl ?_
        refine G_val rfl rfl rfl rfl (V_move rfl rfl) ?_
        refine G_call (L2 := (_ :: _ :: _)) rfl rfl rfl rfl rfl rfl Try.call36 ((rrd_num b14 la ea (by omega) (by omega)).weaken (fun v post h => by rw [g1] at h; exact h)) [1] [] rfl rfl ?_
        rintro v post ⟨rfl, rfl⟩
        show G _ _ _ (_ :: _ :: _ :: _) _
        refine G_val rfl rfl rfl rfl (V_fieldAddr (fo := 2) rfl Try.underlying58 rfl infScriptZ_23 rfl rfl rfl) ?_
        refine G_put (l1 := [_]) (L' := (_ :: _ :: _ :: _)) rfl rfl rfl rfl (P_store1 rfl rfl rfl (mem_at 1 rfl) (by first | exact of_decide_eq_true rfl | omega | (simp [evC, evV, kC, evS, Sl.v]; done) | (simp [evC, evV, kC, evS, Sl.v]; omega) | (simp [evC, evV, kC, evS, Sl.v] at *; omega)) infScriptZ_23 rfl rfl) rfl ?_
        rw [set5_2]
        refine G_done ?_
        refine G_seq ?_
        refine G_seq ?_
        refine G_region (l := [0, 1, 2]) rfl ?_
        refine G_val rfl rfl rfl rfl (V_fieldAddr (fo := 0) rfl Try.underlying58 rfl infScriptZ_3 rfl rfl rfl) ?_
        refine G_val rfl rfl rfl rfl (V_load1 rfl rfl (mem_at 1 rfl) rfl Try.underlying3 rfl) ?_
        refine G_val rfl rfl rfl rfl (V_neq rfl rfl rfl) ?_
        refine G_done ?_
        refine G_ifD rfl (fun hc3 => ?_) (fun hc3 => ?_)
        · (first | contradiction | (exact absurd rfl hc3) | (exfalso; omega) | (simp at hc3; done) | (exact absurd hc3 (by decide)) | (exact absurd (by decide) hc3))
        refine G_skip ?_
        refine G_seq ?_
        refine G_seq ?_
        refine G_region (l := [0, 1, 2]) rfl ?_
        refine G_val rfl rfl rfl rfl (V_fieldAddr (fo := 0) rfl Try.underlying58 rfl infScriptZ_3 rfl rfl rfl) ?_
        refine G_val rfl rfl rfl rfl (V_load1 rfl rfl (mem_at 1 rfl) rfl Try.underlying3 rfl) ?_
        refine G_val rfl rfl rfl rfl (V_eql rfl rfl rfl) ?_
        refine G_done ?_
        refine G_ifD rfl (fun hc4 => ?_) (fun hc4 => ?_)
        · (first | contradiction | (exact absurd rfl hc4) | (exfalso; omega) | (simp at hc4; done) | (exact absurd hc4 (by decide)) | (exact absurd (by decide) hc4))
        refine G_skip ?_
        refine G_seq ?_
        refine G_seq ?_
        try (obtain rfl := hkx.num)
        refine G_region (l := [0, 1, 2]) rfl ?_
        refine G_val rfl rfl rfl rfl (V_fieldAddr (fo := 0) rfl Try.underlying58 rfl infScriptZ_3 rfl rfl rfl) ?_
        refine G_val rfl rfl rfl rfl (V_load1 rfl rfl (mem_at 1 rfl) rfl Try.underlying3 rfl) ?_
        refine G_val rfl rfl rfl rfl (V_eql rfl rfl rfl) ?_
        refine G_done ?_
        refine G_ifD rfl (fun hc5 => ?_) (fun hc5 => ?_)
        · (first | contradiction | (exact absurd rfl hc5) | (exfalso; omega) | (simp at hc5; done) | (exact absurd hc5 (by decide)) | (exact absurd (by decide) hc5))
        refine G_skip ?_
        first | (have hev := ev1 q0 rfl q1 q2) | (have hev := ev2 q0 rfl q1) | (have hev := ev3 q0 rfl q1 q2 q3 (rkeeps q4 hkx (by omega)))
        refine G_addNone (.cells #[] 151 (0, 0)) ?_
        refine G_region (l := [0, 1, 2, 3, 4]) rfl ?_
        refine G_val rfl rfl rfl rfl (V_move rfl rfl) ?_
        first
          | refine G_val rfl rfl rfl rfl (V_loadW (s := 5) rfl rfl (mem_at 2 rfl) Try.underlying58 rfl infScriptZ_58 rfl (by first | rfl | (simp [bcells_length, evC, evV, kC, evS, Sl.v]; done) | (simp [bcells_length, evC, evV, kC, evS, Sl.v]; omega) | (simp [bcells_length, *, evC, evV, kC, evS, Sl.v]; done))) ?_
          | refine G_val rfl rfl rfl rfl (V_loadA (s := 5) rfl rfl (mem_at 2 rfl) Try.underlying58 rfl infScriptZ_58 rfl rfl (by first | rfl | (simp [bcells_length, evC, evV, kC, evS, Sl.v]; done) | (simp [bcells_length, evC, evV, kC, evS, Sl.v]; omega) | (simp [bcells_length, *, evC, evV, kC, evS, Sl.v]; done))) ?_
        refine G_new rfl rfl rfl rfl (N_buildAll (s := 5) (cs := [_, _, _, _, _]) rfl Try.underlying53 infScriptZ_58 rfl rfl rfl rfl rfl rfl rfl rfl rfl) (fun b79 => ?_)
        refine G_append (l1 := [_, _, _, _]) (s := u) (nn := i) (m := 1) (news := evC (emN ⟨2, [], tt, 0, []⟩)) (bt := 64) rfl rfl rfl rfl Try.underlying53 Try.underlying53 (by first | exact .inl rfl | exact .inr ⟨_, rfl⟩) infScriptZ_58 rfl rfl rfl rfl rfl rfl hu rfl (src_mem (mem_at 0 rfl) rfl rfl (by simp [evC, emU, emN, evV, evS, Value.oneCell'])) (by omega) (by omega) ?_
        intro u1 hu1 _
        show G _ _ _ (_ :: _ :: _ :: _ :: _ :: _) _
        refine G_val rfl rfl rfl rfl (V_assign rfl rfl) ?_
        refine G_done ?_
        refine G_inBlock ?_
        refine G_region (l := [0, 1, 2]) rfl ?_
        refine G_val rfl rfl rfl rfl (V_move rfl rfl) ?_
        first
          | refine G_val rfl rfl rfl rfl ((V_add rfl rfl rfl).int (wrap_i64 (by omega))) ?_
          | refine G_val rfl rfl rfl rfl (V_add rfl rfl rfl) ?_
        refine G_val rfl rfl rfl rfl (V_assign rfl rfl) ?_
        refine G_done ?_
        refine G_subT (L1 := [_, _]) ?_ [2, 3] ?_ (ih (i + 1, u1, ms ++ [(emN ⟨2, [], tt, 0, []⟩)], lb, eb) ?_ ?_)
        · (refine (And.intro ?_ (And.intro ?_ (And.intro ?_ (And.intro ?_ trivial)))) <;> first | rfl | exact slot_int (by omega) | exact slot_int (by simp))
        · exact ⟨_, _, rfl, perm_bk evK ms (emN ⟨2, [], tt, 0, []⟩) [_] [_]⟩
        · exact ⟨by omega, by rw [List.flatMap_append, List.flatMap_singleton]; exact hu1, oks_next hoks (emN_ok (by simp) (by simp) n1 (by simp) rfl), by rw [evs_next]; exact hx.next hev (by omega)⟩
        · (first | omega | (dsimp only; omega))
      · skip
        refine G_region (l := [0, 1, 2, 3]) rfl ?_
        refine G_val rfl rfl rfl rfl (V_move rfl rfl) ?_
        refine G_call (L2 := (_ :: _ :: _)) rfl rfl rfl rfl rfl rfl Try.call36 ((rrd_num b14 la ea (by omega) (by omega)).weaken (fun v post h => by rw [g1] at h; exact h)) [1] [] rfl rfl ?_
        rintro v post ⟨rfl, rfl⟩
        show G _ _ _ (_ :: _ :: _ :: _) _
        refine G_val rfl rfl rfl rfl (V_fieldAddr (fo := 2) rfl Try.underlying58 rfl infScriptZ_23 rfl rfl rfl) ?_
        refine G_put (l1 := [_]) (L' := (_ :: _ :: _ :: _)) rfl rfl rfl rfl (P_store1 rfl rfl rfl (mem_at 1 rfl) (by first | exact of_decide_eq_true rfl | omega | (simp [evC, evV, kC, evS, Sl.v]; done) | (simp [evC, evV, kC, evS, Sl.v]; omega) | (simp [evC, evV, kC, evS, Sl.v] at *; omega)) infScriptZ_23 rfl rfl) rfl ?_
        rw [set5_2]
        refine G_done ?_
        refine G_seq ?_
        refine G_seq ?_
        refine G_region (l := [0, 1, 2]) rfl ?_
        refine G_val rfl rfl rfl rfl (V_fieldAddr (fo := 0) rfl Try.underlying58 rfl infScriptZ_3 rfl rfl rfl) ?_
        refine G_val rfl rfl rfl rfl (V_load1 rfl rfl (mem_at 1 rfl) rfl Try.underlying3 rfl) ?_
        refine G_val rfl rfl rfl rfl (V_neq rfl rfl rfl) ?_
        refine G_done ?_
        refine G_ifD rfl (fun hc3 => ?_) (fun hc3 => ?_)
        rotate_left
        · (first | contradiction | (exact absurd rfl hc3) | (exfalso; omega) | (simp at hc3; done) | (exact absurd hc3 (by decide)) | (exact absurd (by decide) hc3))
        refine G_region (l := [0, 1, 2, 3]) rfl ?_
        refine G_val rfl rfl rfl rfl (V_move rfl rfl) ?_
        refine G_call (L2 := (_ :: _ :: _)) rfl rfl rfl rfl rfl rfl Try.call41 ((rrd_str b14 lb eb 600 (by omega) (by omega) (by omega)).weaken (fun v post h => by rw [g2] at h; exact h)) [0] [] rfl rfl ?_
        rintro v post ⟨rfl, rfl⟩
        show G _ _ _ (_ :: _ :: _ :: _) _
        refine G_val rfl rfl rfl rfl (V_fieldAddr (fo := 1) rfl Try.underlying58 rfl infScriptZ_9 rfl rfl rfl) ?_
        refine G_put (l1 := [_]) (L' := (_ :: _ :: _ :: _)) rfl rfl rfl rfl (P_store1 rfl rfl rfl (mem_at 1 rfl) (by first | exact of_decide_eq_true rfl | omega | (simp [evC, evV, kC, evS, Sl.v]; done) | (simp [evC, evV, kC, evS, Sl.v]; omega) | (simp [evC, evV, kC, evS, Sl.v] at *; omega)) infScriptZ_9 rfl rfl) rfl ?_
        rw [set5_1]
        refine G_done ?_
        refine G_seq ?_
        refine G_seq ?_
        refine G_region (l := [0, 1, 2]) rfl ?_
        refine G_val rfl rfl rfl rfl (V_fieldAddr (fo := 0) rfl Try.underlying58 rfl infScriptZ_3 rfl rfl rfl) ?_
        refine G_val rfl rfl rfl rfl (V_load1 rfl rfl (mem_at 1 rfl) rfl Try.underlying3 rfl) ?_
        refine G_val rfl rfl rfl rfl (V_eql rfl rfl rfl) ?_
        refine G_done ?_
        refine G_ifD rfl (fun hc4 => ?_) (fun hc4 => ?_)
        rotate_left
        · (first | contradiction | (exact absurd rfl hc4) | (exfalso; omega) | (simp at hc4; done) | (exact absurd hc4 (by decide)) | (exact absurd (by decide) hc4))
        refine G_seq ?_
        refine G_region (l := [0, 1, 2, 3, 4]) rfl ?_
        refine G_val rfl rfl rfl rfl (V_move rfl rfl) ?_
        refine G_call (L2 := (_ :: _ :: _)) rfl rfl rfl rfl rfl rfl Try.call40 ((rrd_int b14 lc ec 1099511627776 (by omega) (by omega) (by omega)).weaken (fun v post h => by rw [g3] at h; exact h)) [0] [] rfl rfl ?_
        rintro v post ⟨rfl, rfl⟩
        show G _ _ _ (_ :: _ :: _ :: _) _
        first
          | refine G_val rfl rfl rfl rfl ((V_sub rfl rfl rfl).int (wrap_i64 (by omega))) ?_
          | refine G_val rfl rfl rfl rfl (V_sub rfl rfl rfl) ?_
        refine G_val rfl rfl rfl rfl (V_fieldAddr (fo := 3) rfl Try.underlying58 rfl infScriptZ_3 rfl rfl rfl) ?_
        refine G_put (l1 := [_]) (L' := (_ :: _ :: _ :: _)) rfl rfl rfl rfl (P_store1 rfl rfl rfl (mem_at 1 rfl) (by first | exact of_decide_eq_true rfl | omega | (simp [evC, evV, kC, evS, Sl.v]; done) | (simp [evC, evV, kC, evS, Sl.v]; omega) | (simp [evC, evV, kC, evS, Sl.v] at *; omega)) infScriptZ_3 rfl rfl) rfl ?_
        rw [set5_3]
        refine G_done ?_
        refine G_seq ?_
        refine G_region (l := [0, 1, 2]) rfl ?_
        refine G_val rfl rfl rfl rfl (V_move rfl rfl) ?_
        refine G_call (L2 := (_ :: _ :: _)) rfl rfl rfl rfl rfl rfl Try.call40 ((rrd_int b14 ld ed 64 (by omega) (by omega) (by omega)).weaken (fun v post h => by rw [g4] at h; exact h)) [0] [] rfl rfl ?_
        rintro v post ⟨rfl, rfl⟩
        show G _ _ _ (_ :: _ :: _ :: _) _
        refine G_val rfl rfl rfl rfl (V_assign rfl rfl) ?_
        refine G_done ?_
        refine G_seq ?_
        refine G_addNone (.cells #[] 151 (0, 0)) ?_
        refine G_region (l := [0]) rfl ?_
        refine G_val rfl rfl rfl rfl (V_assign rfl rfl) ?_
        refine G_done ?_
        refine G_block ?_
        refine G_subT (L1 := [_, _, _, _]) ?he15 [1, 1, 0, 0] ?hl15 (G_loop (X := Nat × Sl × List (Int × Int) × List UInt8 × Nat) (fun y_ => match y_ with | ⟨j, v, ks, lf, ef⟩ => j ≤ kn ∧ Own 2 v (ks.flatMap kC) j ∧ RdgL encK GoodK kn le_ ee j ks lf ef ∧ ∀ x ∈ ks, GoodK x) (fun y_ => match y_ with | ⟨j, v, ks, lf, ef⟩ => kn - j) (fun y_ => match y_ with | ⟨j, v, ks, lf, ef⟩ => [(4, .pointer (some ⟨b14, 0, none⟩)), (5, u.v i), (6, .int .i64 (n : Int)), (7, .int .i64 (i : Int)), (8, .pointer (some ⟨b8, 0, none⟩)), (9, .int .i64 (kn : Int)), (10, .int .i64 (j : Int))]) (fun y_ => match y_ with | ⟨j, v, ks, lf, ef⟩ => ((some b14, .cells #[.string (bs lf), .int .i64 ((ef : Nat) : Int)] 86 (0, 0)) :: (some b8, .cells #[.int .i64 ((3 : Nat) : Int), .string (bs s), .int .u64 (tt : Int), .int .i64 ((z : Int) - 1), v.v j] 58 (0, 0)) :: (v.ob, .cells v.cs 151 v.fz) :: (u.ob, .cells u.cs 58 u.fz) :: ms.map evK)) ?round15 (0, slNil, [], le_, ee) ?h015)
        case he15 => exact (And.intro rfl (And.intro rfl (And.intro rfl (And.intro rfl (And.intro rfl (And.intro rfl (And.intro rfl trivial)))))))
        case hl15 => exact ⟨_, _, rfl, List.perm_append_comm (l₁ := [])⟩
        case h015 => exact ⟨Nat.zero_le _, own_nil 2, .zero c4, by simp⟩
        case round15 =>
         intro y_ hJ ih2
         try dsimp only at hJ ih2
         obtain ⟨j, v, ks, lf, ef⟩ := y_
         try dsimp only at hJ ih2
         obtain ⟨hj, hv, hkx, hgs⟩ := hJ
         show G _ _ [(4, .pointer (some ⟨b14, 0, none⟩)), (5, u.v i), (6, .int .i64 (n : Int)), (7, .int .i64 (i : Int)), (8, .pointer (some ⟨b8, 0, none⟩)), (9, .int .i64 (kn : Int)), (10, .int .i64 (j : Int))] ((some b14, .cells #[.string (bs lf), .int .i64 ((ef : Nat) : Int)] 86 (0, 0)) :: (some b8, .cells #[.int .i64 ((3 : Nat) : Int), .string (bs s), .int .u64 (tt : Int), .int .i64 ((z : Int) - 1), v.v j] 58 (0, 0)) :: (v.ob, .cells v.cs 151 v.fz) :: (u.ob, .cells u.cs 58 u.fz) :: ms.map evK) _
         have hl4 := hkx.len
         have he4 := hkx.err
         refine G_seq ?_
         refine G_seq ?_
         refine G_region (l := [0, 1, 2, 3, 4, 5, 6, 7, 8, 9]) rfl ?_
         refine G_val rfl rfl rfl rfl (V_move rfl rfl) ?_
         refine G_val rfl rfl rfl rfl (V_move rfl rfl) ?_
         refine G_val rfl rfl rfl rfl (V_lss rfl rfl rfl) ?_
         refine G_val rfl rfl rfl rfl (V_move rfl rfl) ?_
         refine G_splitD 54 rfl (fun hc5 => ?_) (fun hc5 => ?_)
         · skip
           refine G_val rfl rfl rfl rfl (V_move rfl rfl) ?_
           first
             | refine G_val rfl rfl rfl rfl (V_nilCheck rfl rfl) ?_
             | refine G_val rfl rfl rfl rfl (V_nilCheckF rfl rfl) ?_
           refine G_val rfl rfl rfl rfl (V_fieldAddr (fo := 1) rfl Try.underlying86 rfl infScriptZ_3 rfl rfl rfl) ?_
           refine G_val rfl rfl rfl rfl (V_load1 rfl rfl (mem_at 0 rfl) rfl Try.underlying3 rfl) ?_
           refine G_val rfl rfl rfl rfl (V_eql rfl rfl rfl) ?_
           refine G_val rfl rfl rfl rfl (V_pickT rfl rfl rfl) ?_
           refine G_done ?_
           refine G_ifD rfl (fun hc6 => ?_) (fun hc6 => ?_)
           · skip
             refine G_skip ?_
             refine G_seq ?_
             refine G_block ?_
             refine G_seq ?_
             obtain ⟨a, lg, eg, f1⟩ : ∃ a_ l_ e_, rdInt 1099511627776 lf ef = (a_, l_, e_) := ⟨_, _, _, rfl⟩
             obtain ⟨b, lh, eh, f2⟩ : ∃ a_ l_ e_, rdInt 64 lg eg = (a_, l_, e_) := ⟨_, _, _, rfl⟩
             obtain ⟨hk, hgk, hl2, he2, hl3, he3⟩ := rdg_k f1 f2 (by omega)
             have hnx := hkx.next hk (by omega)
             refine G_region (l := [0, 1, 2]) rfl ?_
             refine G_val rfl rfl rfl rfl (V_move rfl rfl) ?_
             refine G_call (L2 := (_ :: _ :: _ :: _)) rfl rfl rfl rfl rfl rfl Try.call40 ((rrd_int b14 lf ef 1099511627776 (by omega) (by omega) (by omega)).weaken (fun v post h => by rw [f1] at h; exact h)) [0] [] rfl rfl ?_
             rintro v post ⟨rfl, rfl⟩
             show G _ _ _ (_ :: _ :: _ :: _ :: _) _
             refine G_val rfl rfl rfl rfl (V_assign rfl rfl) ?_
             refine G_done ?_
             refine GH_start (Lq := []) (isq := []) (m := 10) mixedK rfl rfl ?_
             refine GH_take 0 rfl rfl rfl rfl (by kernel_rfl) (by kernel_rfl) (by kernel_rfl) (fun _ _ => (V_fieldAddr (fo := 4) rfl Try.underlying58 rfl infScriptZ_56 rfl rfl rfl)) ?_
             refine GH_take 2 rfl rfl rfl rfl (by kernel_rfl) (by kernel_rfl) (by kernel_rfl) (fun _ _ => (V_move rfl rfl)) ?_
             refine GH_take 3 rfl rfl rfl rfl (by kernel_rfl) (by kernel_rfl) (by kernel_rfl) (fun _ _ => (V_move rfl rfl)) ?_
             refine GH_all [1, 4] (by kernel_rfl) (by decide) ?_
             refine (And.intro ?_ (And.intro ?_ trivial))
             · skip
               refine GHop_val rfl rfl rfl rfl (V_load1 rfl rfl (mem_at 1 rfl) rfl Try.underlying56 rfl) ?_
               refine GH_all [4] (by kernel_rfl) (by decide) ?_
               refine (And.intro ?_ trivial)
               · skip
                 refine GHop_call (L2 := (_ :: _ :: _ :: _)) rfl rfl rfl rfl rfl rfl Try.call40 ((rrd_int b14 lg eg 64 (by omega) (by omega) (by omega)).weaken (fun v post h => by rw [f2] at h; exact h)) [0] [] rfl rfl [] (by rintro v post ⟨rfl, rfl⟩; exact ⟨_, rfl⟩) ?_
                 rintro v post ⟨rfl, rfl⟩
                 show GH _ _ _ _ _ _ _ (_ :: _ :: _ :: _ :: _) _
                 refine GH_take 5 rfl rfl rfl rfl (by kernel_rfl) (by kernel_rfl) (by kernel_rfl) (fun _ _ => (V_buildS (cs := [_, _]) rfl Try.underlying151 infScriptZ_151 rfl plcScriptZ_151 rfl rfl rfl)) ?_
                 refine GH_all [6] (by kernel_rfl) (by decide) ?_
                 refine (And.intro ?_ trivial)
                 · skip
                   refine GHop_new rfl rfl rfl rfl (N_buildAll (s := 2) (cs := [_, _]) rfl Try.underlying56 infScriptZ_151 rfl rfl rfl rfl rfl rfl rfl rfl rfl) [] (fun _ => ⟨_, rfl⟩) (fun b71 => ?_)
                   refine GH_all [7] (by kernel_rfl) (by decide) ?_
                   refine (And.intro ?_ trivial)
                   · skip
                     refine GHop_append (l1 := [_, _, _]) (s := v) (nn := j) (m := 1) (news := kC ((a : Int), (b : Int))) (bt := 16) rfl rfl rfl rfl Try.underlying56 Try.underlying56 (by first | exact .inl rfl | exact .inr ⟨_, rfl⟩) infScriptZ_151 rfl rfl rfl rfl rfl rfl hv rfl (src_mem (mem_at 0 rfl) rfl rfl (by simp [kC, Value.oneCell'])) (by omega) (by omega) [] (fun _ => ⟨_, rfl⟩) ?_
                     intro v1 hv1 _
                     show GH _ _ _ _ _ _ _ (_ :: _ :: _ :: _ :: _ :: _) _
                     refine GH_take 8 rfl rfl rfl rfl (by kernel_rfl) (by kernel_rfl) (by kernel_rfl) (fun _ _ => (V_fieldAddr (fo := 4) rfl Try.underlying58 rfl infScriptZ_56 rfl rfl rfl)) ?_
                     refine GH_all [9] (by kernel_rfl) (by decide) ?_
                     refine (And.intro ?_ trivial)
                     · skip
                       refine GHop_put (l1 := [_, _]) (L' := (_ :: _ :: _ :: _ :: _ :: _)) rfl rfl rfl rfl (P_store1 rfl rfl rfl (mem_at 2 rfl) (by first | exact of_decide_eq_true rfl | omega | (simp [evC, evV, kC, evS, Sl.v]; done) | (simp [evC, evV, kC, evS, Sl.v]; omega) | (simp [evC, evV, kC, evS, Sl.v] at *; omega)) infScriptZ_56 rfl rfl) rfl [] rfl ?_
                       refine GH_done (by kernel_rfl) ?_
                       refine G_inBlock ?_
                       refine G_region (l := [0, 1, 2]) rfl ?_
                       refine G_val rfl rfl rfl rfl (V_move rfl rfl) ?_
                       first
                         | refine G_val rfl rfl rfl rfl ((V_add rfl rfl rfl).int (wrap_i64 (by omega))) ?_
                         | refine G_val rfl rfl rfl rfl (V_add rfl rfl rfl) ?_
                       refine G_val rfl rfl rfl rfl (V_assign rfl rfl) ?_
                       refine G_done ?_
                       refine G_subT (L1 := [_, _, _, _]) ?_ [1, 1, 1, 1] ?_ (ih2 (j + 1, v1, ks ++ [((a : Int), (b : Int))], lh, eh) ?_ ?_)
                       · (refine (And.intro ?_ (And.intro ?_ (And.intro ?_ (And.intro ?_ (And.intro ?_ (And.intro ?_ (And.intro ?_ trivial))))))) <;> first | rfl | exact slot_int (by omega) | exact slot_int (by simp))
                       · exact ⟨_, _, rfl, List.perm_append_comm (l₁ := [_])⟩
                       · exact ⟨by omega, by rw [List.flatMap_append, List.flatMap_singleton]; exact hv1, hnx, goodKs_next hgs hgk⟩
                       · (first | omega | (dsimp only; omega))
             · skip
               refine GHop_call (L2 := (_ :: _ :: _ :: _)) rfl rfl rfl rfl rfl rfl Try.call40 ((rrd_int b14 lg eg 64 (by omega) (by omega) (by omega)).weaken (fun v post h => by rw [f2] at h; exact h)) [0] [] rfl rfl [] (by rintro v post ⟨rfl, rfl⟩; exact ⟨_, rfl⟩) ?_
               rintro v post ⟨rfl, rfl⟩
               show GH _ _ _ _ _ _ _ (_ :: _ :: _ :: _ :: _) _
               refine GH_take 5 rfl rfl rfl rfl (by kernel_rfl) (by kernel_rfl) (by kernel_rfl) (fun _ _ => (V_buildS (cs := [_, _]) rfl Try.underlying151 infScriptZ_151 rfl plcScriptZ_151 rfl rfl rfl)) ?_
               refine GH_all [1, 6] (by kernel_rfl) (by decide) ?_
               refine (And.intro ?_ (And.intro ?_ trivial))
               · skip
                 refine GHop_val rfl rfl rfl rfl (V_load1 rfl rfl (mem_at 1 rfl) rfl Try.underlying56 rfl) ?_
                 refine GH_all [6] (by kernel_rfl) (by decide) ?_
                 refine (And.intro ?_ trivial)
                 · skip
                   refine GHop_new rfl rfl rfl rfl (N_buildAll (s := 2) (cs := [_, _]) rfl Try.underlying56 infScriptZ_151 rfl rfl rfl rfl rfl rfl rfl rfl rfl) [] (fun _ => ⟨_, rfl⟩) (fun b71 => ?_)
                   refine GH_all [7] (by kernel_rfl) (by decide) ?_
                   refine (And.intro ?_ trivial)
                   · skip
                     refine GHop_append (l1 := [_, _, _]) (s := v) (nn := j) (m := 1) (news := kC ((a : Int), (b : Int))) (bt := 16) rfl rfl rfl rfl Try.underlying56 Try.underlying56 (by first | exact .inl rfl | exact .inr ⟨_, rfl⟩) infScriptZ_151 rfl rfl rfl rfl rfl rfl hv rfl (src_mem (mem_at 0 rfl) rfl rfl (by simp [kC, Value.oneCell'])) (by omega) (by omega) [] (fun _ => ⟨_, rfl⟩) ?_
                     intro v1 hv1 _
                     show GH _ _ _ _ _ _ _ (_ :: _ :: _ :: _ :: _ :: _) _
                     refine GH_take 8 rfl rfl rfl rfl (by kernel_rfl) (by kernel_rfl) (by kernel_rfl) (fun _ _ => (V_fieldAddr (fo := 4) rfl Try.underlying58 rfl infScriptZ_56 rfl rfl rfl)) ?_
                     refine GH_all [9] (by kernel_rfl) (by decide) ?_
                     refine (And.intro ?_ trivial)
                     · skip
                       refine GHop_put (l1 := [_, _]) (L' := (_ :: _ :: _ :: _ :: _ :: _)) rfl rfl rfl rfl (P_store1 rfl rfl rfl (mem_at 2 rfl) (by first | exact of_decide_eq_true rfl | omega | (simp [evC, evV, kC, evS, Sl.v]; done) | (simp [evC, evV, kC, evS, Sl.v]; omega) | (simp [evC, evV, kC, evS, Sl.v] at *; omega)) infScriptZ_56 rfl rfl) rfl [] rfl ?_
                       refine GH_done (by kernel_rfl) ?_
                       refine G_inBlock ?_
                       refine G_region (l := [0, 1, 2]) rfl ?_
                       refine G_val rfl rfl rfl rfl (V_move rfl rfl) ?_
                       first
                         | refine G_val rfl rfl rfl rfl ((V_add rfl rfl rfl).int (wrap_i64 (by omega))) ?_
                         | refine G_val rfl rfl rfl rfl (V_add rfl rfl rfl) ?_
                       refine G_val rfl rfl rfl rfl (V_assign rfl rfl) ?_
                       refine G_done ?_
                       refine G_subT (L1 := [_, _, _, _]) ?_ [1, 1, 1, 1] ?_ (ih2 (j + 1, v1, ks ++ [((a : Int), (b : Int))], lh, eh) ?_ ?_)
                       · (refine (And.intro ?_ (And.intro ?_ (And.intro ?_ (And.intro ?_ (And.intro ?_ (And.intro ?_ (And.intro ?_ trivial))))))) <;> first | rfl | exact slot_int (by omega) | exact slot_int (by simp))
                       · exact ⟨_, _, rfl, List.perm_append_comm (l₁ := [_])⟩
                       · exact ⟨by omega, by rw [List.flatMap_append, List.flatMap_singleton]; exact hv1, hnx, goodKs_next hgs hgk⟩
                       · (first | omega | (dsimp only; omega))
               · skip
                 refine GHop_new rfl rfl rfl rfl (N_buildAll (s := 2) (cs := [_, _]) rfl Try.underlying56 infScriptZ_151 rfl rfl rfl rfl rfl rfl rfl rfl rfl) [] (fun _ => ⟨_, rfl⟩) (fun b71 => ?_)
                 refine GH_all [1] (by kernel_rfl) (by decide) ?_
                 refine (And.intro ?_ trivial)
                 · skip
                   refine GHop_val rfl rfl rfl rfl (V_load1 rfl rfl (mem_at 2 rfl) rfl Try.underlying56 rfl) ?_
                   refine GH_all [7] (by kernel_rfl) (by decide) ?_
                   refine (And.intro ?_ trivial)
                   · skip
                     refine GHop_append (l1 := [_, _, _]) (s := v) (nn := j) (m := 1) (news := kC ((a : Int), (b : Int))) (bt := 16) rfl rfl rfl rfl Try.underlying56 Try.underlying56 (by first | exact .inl rfl | exact .inr ⟨_, rfl⟩) infScriptZ_151 rfl rfl rfl rfl rfl rfl hv rfl (src_mem (mem_at 0 rfl) rfl rfl (by simp [kC, Value.oneCell'])) (by omega) (by omega) [] (fun _ => ⟨_, rfl⟩) ?_
                     intro v1 hv1 _
                     show GH _ _ _ _ _ _ _ (_ :: _ :: _ :: _ :: _ :: _) _
                     refine GH_take 8 rfl rfl rfl rfl (by kernel_rfl) (by kernel_rfl) (by kernel_rfl) (fun _ _ => (V_fieldAddr (fo := 4) rfl Try.underlying58 rfl infScriptZ_56 rfl rfl rfl)) ?_
                     refine GH_all [9] (by kernel_rfl) (by decide) ?_
                     refine (And.intro ?_ trivial)
                     · skip
                       refine GHop_put (l1 := [_, _]) (L' := (_ :: _ :: _ :: _ :: _ :: _)) rfl rfl rfl rfl (P_store1 rfl rfl rfl (mem_at 2 rfl) (by first | exact of_decide_eq_true rfl | omega | (simp [evC, evV, kC, evS, Sl.v]; done) | (simp [evC, evV, kC, evS, Sl.v]; omega) | (simp [evC, evV, kC, evS, Sl.v] at *; omega)) infScriptZ_56 rfl rfl) rfl [] rfl ?_
                       refine GH_done (by kernel_rfl) ?_
                       refine G_inBlock ?_
                       refine G_region (l := [0, 1, 2]) rfl ?_
                       refine G_val rfl rfl rfl rfl (V_move rfl rfl) ?_
                       first
                         | refine G_val rfl rfl rfl rfl ((V_add rfl rfl rfl).int (wrap_i64 (by omega))) ?_
                         | refine G_val rfl rfl rfl rfl (V_add rfl rfl rfl) ?_
                       refine G_val rfl rfl rfl rfl (V_assign rfl rfl) ?_
                       refine G_done ?_
                       refine G_subT (L1 := [_, _, _, _]) ?_ [1, 1, 1, 1] ?_ (ih2 (j + 1, v1, ks ++ [((a : Int), (b : Int))], lh, eh) ?_ ?_)
                       · (refine (And.intro ?_ (And.intro ?_ (And.intro ?_ (And.intro ?_ (And.intro ?_ (And.intro ?_ (And.intro ?_ trivial))))))) <;> first | rfl | exact slot_int (by omega) | exact slot_int (by simp))
                       · exact ⟨_, _, rfl, List.perm_append_comm (l₁ := [_])⟩
                       · exact ⟨by omega, by rw [List.flatMap_append, List.flatMap_singleton]; exact hv1, hnx, goodKs_next hgs hgk⟩
                       · (first | omega | (dsimp only; omega))
           refine G_exit rfl ?_
           refine G_seq ?_
           refine G_seq ?_
           try (obtain rfl := hkx.num)
           refine G_region (l := [0, 1, 2]) rfl ?_
           refine G_val rfl rfl rfl rfl (V_fieldAddr (fo := 0) rfl Try.underlying58 rfl infScriptZ_3 rfl rfl rfl) ?_
           refine G_val rfl rfl rfl rfl (V_load1 rfl rfl (mem_at 1 rfl) rfl Try.underlying3 rfl) ?_
           refine G_val rfl rfl rfl rfl (V_eql rfl rfl rfl) ?_
           refine G_done ?_
           refine G_ifD rfl (fun hc7 => ?_) (fun hc7 => ?_)
           · (first | contradiction | (exact absurd rfl hc7) | (exfalso; omega) | (simp at hc7; done) | (exact absurd hc7 (by decide)) | (exact absurd (by decide) hc7))
           refine G_skip ?_
           first | (have hev := ev1 q0 rfl q1 q2) | (have hev := ev2 q0 rfl q1) | (have hev := ev3 q0 rfl q1 q2 q3 (rkeeps q4 hkx (by omega)))
           refine G_region (l := [0, 1, 2, 3, 4]) rfl ?_
           refine G_val rfl rfl rfl rfl (V_move rfl rfl) ?_
           first
             | refine G_val rfl rfl rfl rfl (V_loadW (s := 5) rfl rfl (mem_at 1 rfl) Try.underlying58 rfl infScriptZ_58 rfl (by first | rfl | (simp [bcells_length, evC, evV, kC, evS, Sl.v]; done) | (simp [bcells_length, evC, evV, kC, evS, Sl.v]; omega) | (simp [bcells_length, *, evC, evV, kC, evS, Sl.v]; done))) ?_
             | refine G_val rfl rfl rfl rfl (V_loadA (s := 5) rfl rfl (mem_at 1 rfl) Try.underlying58 rfl infScriptZ_58 rfl rfl (by first | rfl | (simp [bcells_length, evC, evV, kC, evS, Sl.v]; done) | (simp [bcells_length, evC, evV, kC, evS, Sl.v]; omega) | (simp [bcells_length, *, evC, evV, kC, evS, Sl.v]; done))) ?_
           refine G_new rfl rfl rfl rfl (N_buildAll (s := 5) (cs := [_, _, _, _, _]) rfl Try.underlying53 infScriptZ_58 rfl rfl rfl rfl rfl rfl rfl rfl rfl) (fun b79 => ?_)
           refine G_append (l1 := [_, _, _, _]) (s := u) (nn := i) (m := 1) (news := evC (emU ⟨3, s, tt, (z : Int) - 1, ks⟩ v)) (bt := 64) rfl rfl rfl rfl Try.underlying53 Try.underlying53 (by first | exact .inl rfl | exact .inr ⟨_, rfl⟩) infScriptZ_58 rfl rfl rfl rfl rfl rfl hu rfl (src_mem (mem_at 0 rfl) rfl rfl (by simp [evC, emU, emN, evV, evS, Value.oneCell'])) (by omega) (by omega) ?_
           intro u1 hu1 _
           show G _ _ _ (_ :: _ :: _ :: _ :: _ :: _) _
           refine G_val rfl rfl rfl rfl (V_assign rfl rfl) ?_
           refine G_done ?_
           refine G_inBlock ?_
           refine G_region (l := [0, 1, 2]) rfl ?_
           refine G_val rfl rfl rfl rfl (V_move rfl rfl) ?_
           first
             | refine G_val rfl rfl rfl rfl ((V_add rfl rfl rfl).int (wrap_i64 (by omega))) ?_
             | refine G_val rfl rfl rfl rfl (V_add rfl rfl rfl) ?_
           refine G_val rfl rfl rfl rfl (V_assign rfl rfl) ?_
           refine G_done ?_
           refine G_subT (L1 := [_, _]) ?_ [1, 3] ?_ (ih (i + 1, u1, ms ++ [(emU ⟨3, s, tt, (z : Int) - 1, ks⟩ v)], lf, ef) ?_ ?_)
           · (refine (And.intro ?_ (And.intro ?_ (And.intro ?_ (And.intro ?_ trivial)))) <;> first | rfl | exact slot_int (by omega) | exact slot_int (by simp))
           · exact ⟨_, _, rfl, perm_bk evK ms (emU ⟨3, s, tt, (z : Int) - 1, ks⟩ v) [_, _] []⟩
           · exact ⟨by omega, by rw [List.flatMap_append, List.flatMap_singleton]; exact hu1, oks_next hoks (emU_ok (by simp) (by show s.length ≤ _; omega) n1 (by show _ ≤ (z : Int) - 1 ∧ (z : Int) - 1 ≤ _; omega) hv (goodK_bd hgs)), by rw [evs_next]; exact hx.next hev (by omega)⟩
           · (first | omega | (dsimp only; omega))
         refine G_off rfl rfl rfl rfl ?_
         refine G_off rfl rfl rfl rfl ?_
         refine G_off rfl rfl rfl rfl ?_
         refine G_off rfl rfl rfl rfl ?_
         refine G_off rfl rfl rfl rfl ?_
         refine G_val rfl rfl rfl rfl (V_pickF rfl rfl rfl) ?_
         refine G_done ?_
         refine G_else rfl ?_
         refine G_exit rfl ?_
         refine G_seq ?_
         refine G_seq ?_
         try (obtain rfl := hkx.num)
         refine G_region (l := [0, 1, 2]) rfl ?_
         refine G_val rfl rfl rfl rfl (V_fieldAddr (fo := 0) rfl Try.underlying58 rfl infScriptZ_3 rfl rfl rfl) ?_
         refine G_val rfl rfl rfl rfl (V_load1 rfl rfl (mem_at 1 rfl) rfl Try.underlying3 rfl) ?_
         refine G_val rfl rfl rfl rfl (V_eql rfl rfl rfl) ?_
         refine G_done ?_
         refine G_ifD rfl (fun hc6 => ?_) (fun hc6 => ?_)
         · (first | contradiction | (exact absurd rfl hc6) | (exfalso; omega) | (simp at hc6; done) | (exact absurd hc6 (by decide)) | (exact absurd (by decide) hc6))
         refine G_skip ?_
         first | (have hev := ev1 q0 rfl q1 q2) | (have hev := ev2 q0 rfl q1) | (have hev := ev3 q0 rfl q1 q2 q3 (rkeeps q4 hkx (by omega)))
         refine G_region (l := [0, 1, 2, 3, 4]) rfl ?_
         refine G_val rfl rfl rfl rfl (V_move rfl rfl) ?_
         first
           | refine G_val rfl rfl rfl rfl (V_loadW (s := 5) rfl rfl (mem_at 1 rfl) Try.underlying58 rfl infScriptZ_58 rfl (by first | rfl | (simp [bcells_length, evC, evV, kC, evS, Sl.v]; done) | (simp [bcells_length, evC, evV, kC, evS, Sl.v]; omega) | (simp [bcells_length, *, evC, evV, kC, evS, Sl.v]; done))) ?_
           | refine G_val rfl rfl rfl rfl (V_loadA (s := 5) rfl rfl (mem_at 1 rfl) Try.underlying58 rfl infScriptZ_58 rfl rfl (by first | rfl | (simp [bcells_length, evC, evV, kC, evS, Sl.v]; done) | (simp [bcells_length, evC, evV, kC, evS, Sl.v]; omega) | (simp [bcells_length, *, evC, evV, kC, evS, Sl.v]; done))) ?_
         refine G_new rfl rfl rfl rfl (N_buildAll (s := 5) (cs := [_, _, _, _, _]) rfl Try.underlying53 infScriptZ_58 rfl rfl rfl rfl rfl rfl rfl rfl rfl) (fun b79 => ?_)
         refine G_append (l1 := [_, _, _, _]) (s := u) (nn := i) (m := 1) (news := evC (emU ⟨3, s, tt, (z : Int) - 1, ks⟩ v)) (bt := 64) rfl rfl rfl rfl Try.underlying53 Try.underlying53 (by first | exact .inl rfl | exact .inr ⟨_, rfl⟩) infScriptZ_58 rfl rfl rfl rfl rfl rfl hu rfl (src_mem (mem_at 0 rfl) rfl rfl (by simp [evC, emU, emN, evV, evS, Value.oneCell'])) (by omega) (by omega) ?_
         intro u1 hu1 _
         show G _ _ _ (_ :: _ :: _ :: _ :: _ :: _) _
         refine G_val rfl rfl rfl rfl (V_assign rfl rfl) ?_
         refine G_done ?_
         refine G_inBlock ?_
         refine G_region (l := [0, 1, 2]) rfl ?_
         refine G_val rfl rfl rfl rfl (V_move rfl rfl) ?_
         first
           | refine G_val rfl rfl rfl rfl ((V_add rfl rfl rfl).int (wrap_i64 (by omega))) ?_
           | refine G_val rfl rfl rfl rfl (V_add rfl rfl rfl) ?_
         refine G_val rfl rfl rfl rfl (V_assign rfl rfl) ?_
         refine G_done ?_
         refine G_subT (L1 := [_, _]) ?_ [1, 3] ?_ (ih (i + 1, u1, ms ++ [(emU ⟨3, s, tt, (z : Int) - 1, ks⟩ v)], lf, ef) ?_ ?_)
         · (refine (And.intro ?_ (And.intro ?_ (And.intro ?_ (And.intro ?_ trivial)))) <;> first | rfl | exact slot_int (by omega) | exact slot_int (by simp))
         · exact ⟨_, _, rfl, perm_bk evK ms (emU ⟨3, s, tt, (z : Int) - 1, ks⟩ v) [_, _] []⟩
         · exact ⟨by omega, by rw [List.flatMap_append, List.flatMap_singleton]; exact hu1, oks_next hoks (emU_ok (by simp) (by show s.length ≤ _; omega) n1 (by show _ ≤ (z : Int) - 1 ∧ (z : Int) - 1 ≤ _; omega) hv (goodK_bd hgs)), by rw [evs_next]; exact hx.next hev (by omega)⟩
         · (first | omega | (dsimp only; omega))
    refine G_exit rfl ?_
    refine G_seq ?_
    refine G_seq ?_
    refine G_region (l := [0, 1, 2]) rfl ?_
    refine G_val rfl rfl rfl rfl (V_move rfl rfl) ?_
    refine G_call (L2 := (_ :: _ :: _)) rfl rfl rfl rfl rfl rfl Try.call44 (rrd_end _ _ _) [] [0] rfl rfl ?_
    rintro v post ⟨rfl, rfl⟩
    show G _ _ _ (_ :: _ :: _) _
    refine G_val rfl rfl rfl rfl (V_neq rfl rfl rfl) ?_
    refine G_done ?_
    refine G_ifD rfl (fun hc3 => ?_) (fun hc3 => ?_)
    · skip
      refine G_seq ?_
      refine G_addNone (.cells #[] 58 (0, 0)) ?_
      refine G_region (l := [0, 1]) rfl ?_
      refine G_val rfl rfl rfl rfl (V_assign rfl rfl) ?_
      refine G_val rfl rfl rfl rfl (V_assign rfl rfl) ?_
      refine G_done ?_
      refine G_retT (p1 := [_]) (T := []) Try.func28 rfl (RVs_cons (RV_tmp rfl) (RVs_cons (RV_tmp rfl) RVs_nil)) [0] ⟨_, _, rfl, .refl _⟩ ?_
      dsimp only [packed]
      first
        | exact ⟨slNil, [], 3, own_nil 5, by simp, by simp, dec_fail (v := ⟨0, [], 0, 0, []⟩) (l2 := la) (e2 := ea) r0 hx (by omega) (.inr ⟨rfl, ev0 q0 rfl⟩) (.inr fun h => absurd h.1.1 (by decide)), rfl, rfl⟩
        | exact ⟨slNil, [], 3, own_nil 5, by simp, by simp, dec_bad r0 hx (by first | exact .inl (by omega) | exact .inr (by omega)) (by omega), rfl, rfl⟩
        | (have hz := rdEnd_back (by omega : rdEnd l1 e1 = 0)
           obtain rfl : i = n := by omega
           have hnum := hx.num
           unfold evsOf at hnum
           rw [List.length_map] at hnum
           exact ⟨u, ms, 0, by rw [hnum]; exact hu, hoks, by omega, dec_good r0 hx (by omega), by rw [hnum], rfl⟩)
    refine G_skip ?_
    refine G_seq ?_
    refine G_region (l := [0, 1, 2]) rfl ?_
    refine G_val rfl rfl rfl rfl (V_move rfl rfl) ?_
    refine G_val rfl rfl rfl rfl (V_assign rfl rfl) ?_
    refine G_val rfl rfl rfl rfl (V_assign rfl rfl) ?_
    refine G_done ?_
    refine G_retT (p1 := [_]) (T := _) Try.func28 rfl (RVs_cons (RV_tmp rfl) (RVs_cons (RV_tmp rfl) RVs_nil)) [1] ⟨_, _, rfl, List.perm_append_comm (l₁ := [_])⟩ ?_
    dsimp only [packed]
    first
      | exact ⟨slNil, [], 3, own_nil 5, by simp, by simp, dec_fail (v := ⟨0, [], 0, 0, []⟩) (l2 := la) (e2 := ea) r0 hx (by omega) (.inr ⟨rfl, ev0 q0 rfl⟩) (.inr fun h => absurd h.1.1 (by decide)), rfl, rfl⟩
      | exact ⟨slNil, [], 3, own_nil 5, by simp, by simp, dec_bad r0 hx (by first | exact .inl (by omega) | exact .inr (by omega)) (by omega), rfl, rfl⟩
      | (have hz := rdEnd_back (by omega : rdEnd l1 e1 = 0)
         obtain rfl : i = n := by omega
         have hnum := hx.num
         unfold evsOf at hnum
         rw [List.length_map] at hnum
         exact ⟨u, ms, 0, by rw [hnum]; exact hu, hoks, by omega, dec_good r0 hx (by omega), by rw [hnum], rfl⟩)
  refine G_off rfl rfl rfl rfl ?_
  refine G_off rfl rfl rfl rfl ?_
  refine G_off rfl rfl rfl rfl ?_
  refine G_off rfl rfl rfl rfl ?_
  refine G_off rfl rfl rfl rfl ?_
  refine G_val rfl rfl rfl rfl (V_pickF rfl rfl rfl) ?_
  refine G_done ?_
  refine G_else rfl ?_
  refine G_exit rfl ?_
  refine G_seq ?_
  refine G_seq ?_
  refine G_region (l := [0, 1, 2]) rfl ?_
  refine G_val rfl rfl rfl rfl (V_move rfl rfl) ?_
  refine G_call (L2 := (_ :: _ :: _)) rfl rfl rfl rfl rfl rfl Try.call44 (rrd_end _ _ _) [] [0] rfl rfl ?_
  rintro v post ⟨rfl, rfl⟩
  show G _ _ _ (_ :: _ :: _) _
  refine G_val rfl rfl rfl rfl (V_neq rfl rfl rfl) ?_
  refine G_done ?_
  refine G_ifD rfl (fun hc2 => ?_) (fun hc2 => ?_)
  · skip
    refine G_seq ?_
    refine G_addNone (.cells #[] 58 (0, 0)) ?_
    refine G_region (l := [0, 1]) rfl ?_
    refine G_val rfl rfl rfl rfl (V_assign rfl rfl) ?_
    refine G_val rfl rfl rfl rfl (V_assign rfl rfl) ?_
    refine G_done ?_
    refine G_retT (p1 := [_]) (T := []) Try.func28 rfl (RVs_cons (RV_tmp rfl) (RVs_cons (RV_tmp rfl) RVs_nil)) [0] ⟨_, _, rfl, .refl _⟩ ?_
    dsimp only [packed]
    first
      | exact ⟨slNil, [], 3, own_nil 5, by simp, by simp, dec_fail (v := ⟨0, [], 0, 0, []⟩) (l2 := la) (e2 := ea) r0 hx (by omega) (.inr ⟨rfl, ev0 q0 rfl⟩) (.inr fun h => absurd h.1.1 (by decide)), rfl, rfl⟩
      | exact ⟨slNil, [], 3, own_nil 5, by simp, by simp, dec_bad r0 hx (by first | exact .inl (by omega) | exact .inr (by omega)) (by omega), rfl, rfl⟩
      | (have hz := rdEnd_back (by omega : rdEnd l1 e1 = 0)
         obtain rfl : i = n := by omega
         have hnum := hx.num
         unfold evsOf at hnum
         rw [List.length_map] at hnum
         exact ⟨u, ms, 0, by rw [hnum]; exact hu, hoks, by omega, dec_good r0 hx (by omega), by rw [hnum], rfl⟩)
  refine G_skip ?_
  refine G_seq ?_
  refine G_region (l := [0, 1, 2]) rfl ?_
  refine G_val rfl rfl rfl rfl (V_move rfl rfl) ?_
  refine G_val rfl rfl rfl rfl (V_assign rfl rfl) ?_
  refine G_val rfl rfl rfl rfl (V_assign rfl rfl) ?_
  refine G_done ?_
  refine G_retT (p1 := [_]) (T := _) Try.func28 rfl (RVs_cons (RV_tmp rfl) (RVs_cons (RV_tmp rfl) RVs_nil)) [1] ⟨_, _, rfl, List.perm_append_comm (l₁ := [_])⟩ ?_
  dsimp only [packed]
  first
    | exact ⟨slNil, [], 3, own_nil 5, by simp, by simp, dec_fail (v := ⟨0, [], 0, 0, []⟩) (l2 := la) (e2 := ea) r0 hx (by omega) (.inr ⟨rfl, ev0 q0 rfl⟩) (.inr fun h => absurd h.1.1 (by decide)), rfl, rfl⟩
    | exact ⟨slNil, [], 3, own_nil 5, by simp, by simp, dec_bad r0 hx (by first | exact .inl (by omega) | exact .inr (by omega)) (by omega), rfl, rfl⟩
    | (have hz := rdEnd_back (by omega : rdEnd l1 e1 = 0)
       obtain rfl : i = n := by omega
       have hnum := hx.num
       unfold evsOf at hnum
       rw [List.length_map] at hnum
       exact ⟨u, ms, 0, by rw [hnum]; exact hu, hoks, by omega, dec_good r0 hx (by omega), by rw [hnum], rfl⟩)

end
end Go.Proofs.Ytkekkalgebgokaa
