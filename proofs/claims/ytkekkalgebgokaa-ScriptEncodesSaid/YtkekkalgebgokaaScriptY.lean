/- The walks of layer 40, on: events out of bytes; the program's and the document's. -/
import Derived.Test.YtkekkalgebgokaaScriptW
set_option linter.unusedSimpArgs false
set_option linter.unusedVariables false
namespace Go.Proofs.Ytkekkalgebgokaa
open Go Go.RowKit

section
theorem infScriptY_3 : Try.prog.info? 3 = some Try.t3 := by kernel_rfl
theorem infScriptY_9 : Try.prog.info? 9 = some Try.t9 := by kernel_rfl
theorem infScriptY_23 : Try.prog.info? 23 = some Try.t23 := by kernel_rfl
theorem infScriptY_56 : Try.prog.info? 56 = some Try.t56 := by kernel_rfl
theorem infScriptY_58 : Try.prog.info? 58 = some Try.t58 := by kernel_rfl
theorem infScriptY_151 : Try.prog.info? 151 = some Try.t151 := by kernel_rfl
theorem plcScriptY_58 : placesOf Try.prog (Try.prog.fieldsOf 58) = some [(0, 1), (1, 1), (2, 1), (3, 1), (4, 1)] := by kernel_rfl
theorem plcScriptY_151 : placesOf Try.prog (Try.prog.fieldsOf 151) = some [(0, 1), (1, 1)] := by kernel_rfl

set_option maxRecDepth 100000 in
set_option maxHeartbeats 1000000 in
theorem sc_keeps (br : Nat) (l : List UInt8) (e : Nat) (hl : l.length ≤ 140737488350000) (he : e ≤ 1000) :
    Ct Try.prog 135 [.pointer (some ⟨br, 0, none⟩)] [] [(some br, .cells #[.string (bs l), .int .i64 ((e : Nat) : Int)] 169 (0, 0))] fun v post => ∃ u ks l1 e1, v = u.v ks.length ∧ Own 2 u (ks.flatMap kC) ks.length ∧ (ks.length : Int) ≤ 64 ∧ (∀ x ∈ ks, GoodK x) ∧ Rdg (encList encK) (fun ks => (ks.length : Int) ≤ 64 ∧ ∀ x ∈ ks, GoodK x) l e ks l1 e1 ∧ post = [(some br, .cells #[.string (bs l1), .int .i64 ((e1 : Nat) : Int)] 169 (0, 0)), (u.ob, .cells u.cs 151 u.fz)] := by
 obtain ⟨n, l0, e0, hn⟩ : ∃ n l0 e0, rdInt 64 l e = (n, l0, e0) := ⟨_, _, _, rfl⟩
 have hr0 := rdg_int 64 l e he (by omega)
 rw [hn] at hr0
 have hb0 := (rdInt_bd 64 l e he (by omega)).1
 rw [hn] at hb0
 have hl0 := hr0.len
 have he0 := hr0.err
 simp only at hl0 he0 hb0 hr0
 refine ct_of Try.func135 rfl rfl (fun w0 => ?_)
 show G _ _ [(0, _)] _ _
 refine G_seq ?_
 refine G_region (l := [0]) rfl ?_
 refine G_val rfl rfl rfl rfl (V_assign rfl rfl) ?_
 refine G_done ?_
 refine G_seq ?_
 refine G_region (l := [0]) rfl ?_
 refine G_val rfl rfl rfl rfl (V_assign rfl rfl) ?_
 refine G_done ?_
 refine G_seq ?_
 refine G_seq ?_
 refine G_addNone (.cells #[] 151 (0, 0)) ?_
 refine G_region (l := [0, 1, 2]) rfl ?_
 refine G_val rfl rfl rfl rfl (V_move rfl rfl) ?_
 refine G_call (L2 := [_]) rfl rfl rfl rfl rfl rfl Try.call84 ((rd_int br l e 64 (by omega) he (by omega)).weaken (fun v post h => by rw [hn] at h; exact h)) [1] [] rfl rfl ?_
 rintro v post ⟨rfl, rfl⟩
 show G _ _ _ [_, _] _
 refine G_val rfl rfl rfl rfl (V_move rfl rfl) ?_
 refine G_done ?_
 refine G_block ?_
 refine G_sub ?he3 [0, 0] ?hl3 (G_loop (X := Nat × Sl × List (Int × Int) × List UInt8 × Nat) (fun x => match x with | ⟨i, u, ks, l1, e1⟩ => i ≤ n ∧ Own 2 u (ks.flatMap kC) i ∧ RdgL encK GoodK n l0 e0 i ks l1 e1 ∧ ∀ x ∈ ks, GoodK x) (fun x => match x with | ⟨i, u, ks, l1, e1⟩ => n - i) (fun x => match x with | ⟨i, u, ks, l1, e1⟩ => [(0, .pointer (some ⟨br, 0, none⟩)), (3, u.v i), (5, .int .i64 (n : Int)), (6, .int .i64 (i : Int))]) (fun x => match x with | ⟨i, u, ks, l1, e1⟩ => [(some br, .cells #[.string (bs l1), .int .i64 ((e1 : Nat) : Int)] 169 (0, 0)), (u.ob, .cells u.cs 151 u.fz)]) ?round3 (0, slNil, [], l0, e0) ?h03)
 case he3 => exact (And.intro rfl (And.intro rfl (And.intro rfl (And.intro rfl trivial))))
 case hl3 => exact ⟨_, rfl⟩
 case h03 => exact ⟨Nat.zero_le _, own_nil 2, .zero he0, by simp⟩
 case round3 =>
  intro x hJ ih
  try dsimp only at hJ ih
  obtain ⟨i, u, ks, l1, e1⟩ := x
  try dsimp only at hJ ih
  obtain ⟨hi, hu, hx, hgs⟩ := hJ
  show G _ _ [(0, .pointer (some ⟨br, 0, none⟩)), (3, u.v i), (5, .int .i64 (n : Int)), (6, .int .i64 (i : Int))] [(some br, .cells #[.string (bs l1), .int .i64 ((e1 : Nat) : Int)] 169 (0, 0)), (u.ob, .cells u.cs 151 u.fz)] _
  have hl1 := hx.len
  have he1 := hx.err
  refine G_seq ?_
  refine G_region (l := [0]) rfl ?_
  refine G_val rfl rfl rfl rfl (V_lss rfl rfl rfl) ?_
  refine G_done ?_
  refine G_seq ?_
  refine G_ifD rfl (fun hc1 => ?_) (fun hc1 => ?_)
  · skip
    refine G_skip ?_
    refine G_seq ?_
    refine G_block ?_
    obtain ⟨a, l2, e2, ha⟩ : ∃ n l0 e0, rdInt 1099511627776 l1 e1 = (n, l0, e0) := ⟨_, _, _, rfl⟩
    obtain ⟨b, l3, e3, hb⟩ : ∃ n l0 e0, rdInt 64 l2 e2 = (n, l0, e0) := ⟨_, _, _, rfl⟩
    obtain ⟨hk, hgk, hl2, he2, hl3, he3⟩ := rdg_k ha hb (by omega)
    have hnx := hx.next hk (by omega)
    refine G_region (l := [0, 1, 2, 3, 4, 5, 6, 7, 8]) rfl ?_
    refine G_val rfl rfl rfl rfl (V_move rfl rfl) ?_
    refine G_val rfl rfl rfl rfl (V_move rfl rfl) ?_
    refine G_call (L2 := [_]) rfl rfl rfl rfl rfl rfl Try.call84 ((rd_int br l1 e1 1099511627776 (by omega) (by omega) (by omega)).weaken (fun v post h => by rw [ha] at h; exact h)) [0] [] rfl rfl ?_
    rintro v post ⟨rfl, rfl⟩
    show G _ _ _ [_, _] _
    refine G_val rfl rfl rfl rfl (V_move rfl rfl) ?_
    refine G_call (L2 := [_]) rfl rfl rfl rfl rfl rfl Try.call84 ((rd_int br l2 e2 64 (by omega) (by omega) (by omega)).weaken (fun v post h => by rw [hb] at h; exact h)) [0] [] rfl rfl ?_
    rintro v post ⟨rfl, rfl⟩
    show G _ _ _ [_, _] _
    refine G_val rfl rfl rfl rfl (V_buildS (cs := [_, _]) rfl Try.underlying151 infScriptY_151 rfl plcScriptY_151 rfl rfl rfl) ?_
    refine G_new rfl rfl rfl rfl (N_buildAll (s := 2) (cs := [_, _]) rfl Try.underlying56 infScriptY_151 rfl rfl rfl rfl rfl rfl rfl rfl rfl) (fun b14 => ?_)
    refine G_append (l1 := [_, _]) (s := u) (nn := i) (m := 1) (news := kC ((a : Int), (b : Int))) (bt := 16) rfl rfl rfl rfl Try.underlying56 Try.underlying56 (by first | exact .inl rfl | exact .inr ⟨_, rfl⟩) infScriptY_151 rfl rfl rfl rfl rfl rfl hu rfl (src_mem (mem_at 0 rfl) rfl rfl (by simp [kC, Value.oneCell'])) (by omega) (by omega) ?_
    intro u1 hu1 _
    show G _ _ _ [_, _, _] _
    refine G_val rfl rfl rfl rfl (V_assign rfl rfl) ?_
    refine G_done ?_
    refine G_inBlock ?_
    refine G_region (l := [0, 1]) rfl ?_
    first
      | refine G_val rfl rfl rfl rfl ((V_add rfl rfl rfl).int (wrap_i64 (by omega))) ?_
      | refine G_val rfl rfl rfl rfl (V_add rfl rfl rfl) ?_
    refine G_val rfl rfl rfl rfl (V_move rfl rfl) ?_
    refine G_done ?_
    refine G_sub ?_ [1, 1] ?_ (ih (i + 1, u1, ks ++ [((a : Int), (b : Int))], l3, e3) ?_ ?_)
    · (refine (And.intro ?_ (And.intro ?_ (And.intro ?_ (And.intro ?_ trivial)))) <;> first | rfl | exact slot_int (by omega) | exact slot_int (by simp))
    · exact ⟨_, rfl⟩
    · exact ⟨by omega, by rw [List.flatMap_append, List.flatMap_singleton]; exact hu1, hnx, goodKs_next hgs hgk⟩
    · (first | omega | (dsimp only; omega))
  refine G_exit rfl ?_
  refine G_seq ?_
  refine G_region (l := [0, 1]) rfl ?_
  refine G_val rfl rfl rfl rfl (V_move rfl rfl) ?_
  refine G_val rfl rfl rfl rfl (V_assign rfl rfl) ?_
  refine G_done ?_
  refine G_ret (post := [_, _]) Try.func135 rfl (RVs_cons (RV_tmp rfl) RVs_nil) [0, 0] rfl ?_
  dsimp only [packed]
  obtain rfl : i = n := by omega
  have hnum := hx.num
  exact ⟨u, ks, l1, e1, by rw [hnum], by rw [hnum]; exact hu, by rw [hnum]; exact hb0, hgs, rdg_list hr0 hx.done, rfl⟩


theorem fldn0 {n : Nat} (h : n = 0) : fieldsE (n : Int) = [] := by subst h; rfl
theorem fldn1 {n : Nat} (h : n = 1) : fieldsE (n : Int) = [116, 98] := by subst h; rfl
theorem fldn2 {n : Nat} (h : n = 2) : fieldsE (n : Int) = [116] := by subst h; rfl
theorem fldn3 {n : Nat} (h : n = 3) : fieldsE (n : Int) = [116, 98, 102, 107] := by subst h; rfl
theorem set5_1 (a b c d e x : Value) : (#[a, b, c, d, e] : Array Value).setIfInBounds 1 x = #[a, x, c, d, e] := rfl
theorem set5_2 (a b c d e x : Value) : (#[a, b, c, d, e] : Array Value).setIfInBounds 2 x = #[a, b, x, d, e] := rfl
theorem set5_3 (a b c d e x : Value) : (#[a, b, c, d, e] : Array Value).setIfInBounds 3 x = #[a, b, c, x, e] := rfl
theorem set5_4 (a b c d e x : Value) : (#[a, b, c, d, e] : Array Value).setIfInBounds 4 x = #[a, b, c, d, x] := rfl
def emN (ev : Ev) : Em := ⟨ev, none, none, 0, 0, #[], 151, (0, 0)⟩
def emU (ev : Ev) (u : Sl) : Em := ⟨ev, u.ob.map fun b => ⟨b, 0, none⟩, u.ob, 0, u.cap, u.cs, 151, u.fz⟩
theorem emN_ok {ev : Ev} (hk : -9223372036854775808 ≤ ev.kd ∧ ev.kd ≤ 9223372036854775807) (hb : ev.b.length ≤ 9223372036854775807) (ht : ev.t < 18446744073709551616) (hf : -9223372036854775808 ≤ ev.f ∧ ev.f ≤ 9223372036854775807) (hks : ev.ks = []) : EmOk (emN ev) :=
  ⟨hk, hb, ht, hf, by intro x hx; have : x ∈ ev.ks := hx; rw [hks] at this; exact absurd this (by simp), by show ev.ks.length ≤ 0; rw [hks]; exact Nat.le_refl _, by show 0 ≤ _; omega, .inr ⟨hks, rfl⟩⟩
theorem emU_ok {ev : Ev} {u : Sl} (hk : -9223372036854775808 ≤ ev.kd ∧ ev.kd ≤ 9223372036854775807) (hb : ev.b.length ≤ 9223372036854775807) (ht : ev.t < 18446744073709551616) (hf : -9223372036854775808 ≤ ev.f ∧ ev.f ≤ 9223372036854775807) (hu : Own 2 u (ev.ks.flatMap kC) ev.ks.length) (hks : ∀ x ∈ ev.ks, (-9223372036854775808 ≤ x.1 ∧ x.1 ≤ 9223372036854775807) ∧ (-9223372036854775808 ≤ x.2 ∧ x.2 ≤ 9223372036854775807)) : EmOk (emU ev u) :=
  ⟨hk, hb, ht, hf, hks, hu.le, hu.max, .inl ⟨rfl, hu.sees⟩⟩

set_option maxRecDepth 100000 in
set_option maxHeartbeats 1000000 in
theorem sc_event (br : Nat) (l : List UInt8) (e : Nat) (hl : l.length ≤ 140737488350000) (he : e ≤ 1000) :
    Ct Try.prog 85 [.pointer (some ⟨br, 0, none⟩)] [] [(some br, .cells #[.string (bs l), .int .i64 ((e : Nat) : Int)] 169 (0, 0))] fun v post => ∃ m l1 e1, v = .agg (evC m).toArray ∧ EmOk m ∧ l1.length ≤ l.length ∧ e1 ≤ 1000 ∧ EvR l e m.v l1 e1 ∧ post = [(some br, .cells #[.string (bs l1), .int .i64 ((e1 : Nat) : Int)] 169 (0, 0)), evK m] := by
 obtain ⟨n, l0, e0, h0⟩ : ∃ n l0 e0, rdInt 3 l e = (n, l0, e0) := ⟨_, _, _, rfl⟩
 obtain ⟨tt, l1, e1, h1⟩ : ∃ n l0_ e0_, rdNum l0 e0 = (n, l0_, e0_) := ⟨_, _, _, rfl⟩
 obtain ⟨s, l2, e2, h2⟩ : ∃ n l0_ e0_, rdStr 600 l1 e1 = (n, l0_, e0_) := ⟨_, _, _, rfl⟩
 obtain ⟨z, l3, e3, h3⟩ : ∃ n l0_ e0_, rdInt 1099511627776 l2 e2 = (n, l0_, e0_) := ⟨_, _, _, rfl⟩
 have r0 := rdg_int 3 l e he (by omega)
 have m0 := (rdInt_bd 3 l e he (by omega)).1
 rw [h0] at r0 m0
 have a0 := r0.len
 have c0 := r0.err
 have r1 := rdg_num l0 e0 c0
 have m1 := (rdNum_bd l0 e0 c0).1
 rw [h1] at r1 m1
 have a1 := r1.len
 have c1 := r1.err
 have r2 := rdg_str 600 l1 e1 c1 (by omega)
 have m2 := (rdStr_bd 600 l1 e1 c1 (by omega)).1
 rw [h2] at r2 m2
 have a2 := r2.len
 have c2 := r2.err
 have r3 := rdg_int 1099511627776 l2 e2 c2 (by omega)
 have m3 := (rdInt_bd 1099511627776 l2 e2 c2 (by omega)).1
 rw [h3] at r3 m3
 have a3 := r3.len
 have c3 := r3.err
 simp only at a0 c0 m0 r0 a1 c1 m1 r1 a2 c2 m2 r2 a3 c3 m3 r3
 refine ct_of Try.func85 rfl rfl (fun w0 => ?_)
 show G _ _ [(0, _)] _ _
 refine G_seq ?_
 refine G_region (l := [0]) rfl ?_
 refine G_new rfl rfl rfl rfl (N_allocA rfl infScriptY_58 rfl) (fun b2 => ?_)
 refine G_done ?_
 refine G_seq ?_
 refine G_region (l := [0, 1, 2, 3, 4]) rfl ?_
 refine G_val rfl rfl rfl rfl (V_move rfl rfl) ?_
 refine G_call (L2 := [_]) rfl rfl rfl rfl rfl rfl Try.call84 ((rd_int br l e 3 (by omega) he (by omega)).weaken (fun v post h => by rw [h0] at h; exact h)) [1] [] rfl rfl ?_
 rintro v post ⟨rfl, rfl⟩
 show G _ _ _ [_, _] _
 refine G_val rfl rfl rfl rfl (V_buildS (cs := [_, _, _, _, _]) rfl Try.underlying58 infScriptY_58 rfl plcScriptY_58 rfl rfl rfl) ?_
 refine G_new rfl rfl rfl rfl (N_allocA rfl infScriptY_58 rfl) (fun b3 => ?_)
 refine G_put (l1 := []) (L' := [_, _, _]) rfl rfl rfl rfl (P_storeA (s := 5) rfl rfl rfl (mem_at 0 rfl) (by first | rfl | (simp [bcells_length, evC, evV, kC, evS, Sl.v]; done) | (simp [bcells_length, evC, evV, kC, evS, Sl.v]; omega) | (simp [bcells_length, *, evC, evV, kC, evS, Sl.v]; done)) infScriptY_58 rfl (by first | rfl | (simp [bcells_length, evC, evV, kC, evS, Sl.v]; done) | (simp [bcells_length, evC, evV, kC, evS, Sl.v]; omega) | (simp [bcells_length, *, evC, evV, kC, evS, Sl.v]; done)) (by first | rfl | exact bcells_all _ | (simp [Value.oneCell', evC, evV, kC, evS, Sl.v]; done) | (simp [Value.oneCell', *, evC, evV, kC, evS, Sl.v]; done))) rfl ?_
 refine G_done ?_
 refine G_seq ?_
 refine G_seq ?_
 rcases (by omega : n = 0 ∨ n = 1 ∨ n = 2 ∨ n = 3) with hn | hn | hn | hn
 · skip
   refine G_region (l := [0, 1, 2, 3]) rfl ?_
   refine G_val rfl rfl rfl rfl (V_fieldAddr (fo := 0) rfl Try.underlying58 rfl infScriptY_3 rfl rfl rfl) ?_
   refine G_val rfl rfl rfl rfl (V_load1 rfl rfl (mem_at 0 rfl) rfl Try.underlying3 rfl) ?_
   refine G_call (L2 := [_, _, _]) rfl rfl rfl rfl rfl rfl Try.call75 ((sc_fields (n : Int)).weaken (fun v post h => by rw [fldn0 hn] at h; exact h)) [] [] rfl rfl ?_
   rintro v post ⟨rfl, rfl⟩
   show G _ _ _ [_, _, _] _
   refine G_new rfl rfl rfl rfl (N_range rfl Try.underlying9 rfl) (fun b12 => ?_)
   refine G_done ?_
   refine G_block ?_
   refine G_loop1 ?_
   refine G_seq ?_
   refine G_region (l := [0, 1]) rfl ?_
   refine G_val rfl rfl rfl rfl (V_nextE (i := 0) rfl rfl (mem_at 0 rfl) (by decide)) ?_
   refine G_val rfl rfl rfl rfl (V_extract rfl rfl rfl) ?_
   refine G_done ?_
   refine G_seq ?_
   refine G_else rfl ?_
   refine G_exit rfl ?_
   refine G_seq ?_
   refine G_addNone (.cells #[] 151 (0, 0)) ?_
   refine G_region (l := [0, 1]) rfl ?_
   first
     | refine G_val rfl rfl rfl rfl (V_loadW (s := 5) rfl rfl (mem_at 2 rfl) Try.underlying58 rfl infScriptY_58 rfl (by first | rfl | (simp [bcells_length, evC, evV, kC, evS, Sl.v]; done) | (simp [bcells_length, evC, evV, kC, evS, Sl.v]; omega) | (simp [bcells_length, *, evC, evV, kC, evS, Sl.v]; done))) ?_
     | refine G_val rfl rfl rfl rfl (V_loadA (s := 5) rfl rfl (mem_at 2 rfl) Try.underlying58 rfl infScriptY_58 rfl rfl (by first | rfl | (simp [bcells_length, evC, evV, kC, evS, Sl.v]; done) | (simp [bcells_length, evC, evV, kC, evS, Sl.v]; omega) | (simp [bcells_length, *, evC, evV, kC, evS, Sl.v]; done))) ?_
   refine G_put (l1 := [_, _, _, _]) (L' := [_, _, _, _, _]) rfl rfl rfl rfl (P_storeA (s := 5) rfl rfl rfl (mem_at 4 rfl) (by first | rfl | (simp [bcells_length, evC, evV, kC, evS, Sl.v]; done) | (simp [bcells_length, evC, evV, kC, evS, Sl.v]; omega) | (simp [bcells_length, *, evC, evV, kC, evS, Sl.v]; done)) infScriptY_58 rfl (by first | rfl | (simp [bcells_length, evC, evV, kC, evS, Sl.v]; done) | (simp [bcells_length, evC, evV, kC, evS, Sl.v]; omega) | (simp [bcells_length, *, evC, evV, kC, evS, Sl.v]; done)) (by first | rfl | exact bcells_all _ | (simp [Value.oneCell', evC, evV, kC, evS, Sl.v]; done) | (simp [Value.oneCell', *, evC, evV, kC, evS, Sl.v]; done))) rfl ?_
   refine G_done ?_
   refine G_ret (post := [_, _]) Try.func85 rfl (RVs_cons (RV_cell (s := 5) rfl (mem_at 4 rfl) Try.underlying58 rfl infScriptY_58 rfl (by first | rfl | (simp [bcells_length, evC, evV, kC, evS, Sl.v]; done) | (simp [bcells_length, evC, evV, kC, evS, Sl.v]; omega) | (simp [bcells_length, *, evC, evV, kC, evS, Sl.v]; done))) RVs_nil) [3, 0] rfl ?_
   dsimp only [packed]
   first
     | exact ⟨emU ⟨3, s, tt, (z : Int) - 1, ks⟩ u, l4, e4, by subst hn; rfl, emU_ok (by simp) (by show s.length ≤ _; omega) m1 (by show _ ≤ (z : Int) - 1 ∧ (z : Int) - 1 ≤ _; omega) hu (goodK_bd hgs), by have := r4.len; omega, r4.err, .inl (ev3 r0 hn r1 r2 r3 r4), rfl⟩
     | exact ⟨emN ⟨1, s, tt, 0, []⟩, l2, e2, by subst hn; rfl, emN_ok (by simp) (by show s.length ≤ _; omega) m1 (by simp) rfl, by omega, c2, .inl (ev1 r0 hn r1 r2), rfl⟩
     | exact ⟨emN ⟨2, [], tt, 0, []⟩, l1, e1, by subst hn; rfl, emN_ok (by simp) (by simp) m1 (by simp) rfl, by omega, c1, .inl (ev2 r0 hn r1), rfl⟩
     | exact ⟨emN ⟨0, [], 0, 0, []⟩, l0, e0, by subst hn; rfl, emN_ok (by decide) (by decide) (by decide) (by decide) rfl, a0, c0, .inr ⟨rfl, ev0 r0 hn⟩, rfl⟩
 · skip
   refine G_region (l := [0, 1, 2, 3]) rfl ?_
   refine G_val rfl rfl rfl rfl (V_fieldAddr (fo := 0) rfl Try.underlying58 rfl infScriptY_3 rfl rfl rfl) ?_
   refine G_val rfl rfl rfl rfl (V_load1 rfl rfl (mem_at 0 rfl) rfl Try.underlying3 rfl) ?_
   refine G_call (L2 := [_, _, _]) rfl rfl rfl rfl rfl rfl Try.call75 ((sc_fields (n : Int)).weaken (fun v post h => by rw [fldn1 hn] at h; exact h)) [] [] rfl rfl ?_
   rintro v post ⟨rfl, rfl⟩
   show G _ _ _ [_, _, _] _
   refine G_new rfl rfl rfl rfl (N_range rfl Try.underlying9 rfl) (fun b12 => ?_)
   refine G_done ?_
   refine G_block ?_
   refine G_loop1 ?_
   refine G_seq ?_
   refine G_region (l := [0, 1]) rfl ?_
   refine G_putV (l1 := []) (L' := [_, _, _, _]) rfl rfl rfl rfl rfl (P_next (i := 0) rfl rfl (mem_at 0 rfl) (by decide) (by decide)) rfl ?_
   refine G_val rfl rfl rfl rfl (V_extract rfl rfl rfl) ?_
   refine G_done ?_
   refine G_seq ?_
   refine G_then rfl ?_
   refine G_skip ?_
   refine G_block ?_
   refine G_seq ?_
   refine G_region (l := [0, 1]) rfl ?_
   refine G_val rfl rfl rfl rfl (V_extract rfl rfl rfl) ?_
   refine G_val rfl rfl rfl rfl (V_assign rfl rfl) ?_
   refine G_done ?_
   refine G_seq ?_
   refine G_region (l := [0]) rfl ?_
   refine G_val rfl rfl rfl rfl (V_move rfl rfl) ?_
   refine G_done ?_
   refine G_block ?_
   refine G_seq ?_
   refine G_region (l := [0, 1]) rfl ?_
   refine G_val rfl rfl rfl rfl (V_eql rfl rfl rfl) ?_
   refine G_val rfl rfl rfl rfl (V_assign rfl rfl) ?_
   refine G_done ?_
   refine G_ifD rfl (fun hc1 => ?_) (fun hc1 => ?_)
   rotate_left
   · (first | contradiction | (exact absurd rfl hc1) | (exfalso; omega) | (simp at hc1; done) | (exact absurd hc1 (by decide)) | (exact absurd (by decide) hc1))
   refine G_region (l := [0, 1, 2, 3]) rfl ?_
   refine G_val rfl rfl rfl rfl (V_move rfl rfl) ?_
   refine G_call (L2 := [_, _, _]) rfl rfl rfl rfl rfl rfl Try.call133 ((rd_num br l0 e0 (by omega) (by omega)).weaken (fun v post h => by rw [h1] at h; exact h)) [2] [] rfl rfl ?_
   rintro v post ⟨rfl, rfl⟩
   show G _ _ _ [_, _, _, _] _
   refine G_val rfl rfl rfl rfl (V_fieldAddr (fo := 2) rfl Try.underlying58 rfl infScriptY_23 rfl rfl rfl) ?_
   refine G_put (l1 := [_, _]) (L' := [_, _, _, _]) rfl rfl rfl rfl (P_store1 rfl rfl rfl (mem_at 2 rfl) (by first | exact of_decide_eq_true rfl | omega | (simp [evC, evV, kC, evS, Sl.v]; done) | (simp [evC, evV, kC, evS, Sl.v]; omega) | (simp [evC, evV, kC, evS, Sl.v] at *; omega)) infScriptY_23 rfl rfl) rfl ?_
   rw [set5_2]
   refine G_done ?_
   refine G_inBlock ?_
   refine G_inBlock ?_
   refine G_again ?_
   refine G_seq ?_
   refine G_region (l := [0, 1]) rfl ?_
   refine G_putV (l1 := [_]) (L' := [_, _, _, _]) rfl rfl rfl rfl rfl (P_next (i := 1) rfl rfl (mem_at 1 rfl) (by decide) (by decide)) rfl ?_
   refine G_val rfl rfl rfl rfl (V_extract rfl rfl rfl) ?_
   refine G_done ?_
   refine G_seq ?_
   refine G_then rfl ?_
   refine G_skip ?_
   refine G_block ?_
   refine G_seq ?_
   refine G_region (l := [0, 1]) rfl ?_
   refine G_val rfl rfl rfl rfl (V_extract rfl rfl rfl) ?_
   refine G_val rfl rfl rfl rfl (V_assign rfl rfl) ?_
   refine G_done ?_
   refine G_seq ?_
   refine G_region (l := [0]) rfl ?_
   refine G_val rfl rfl rfl rfl (V_move rfl rfl) ?_
   refine G_done ?_
   refine G_block ?_
   refine G_seq ?_
   refine G_region (l := [0, 1]) rfl ?_
   refine G_val rfl rfl rfl rfl (V_eql rfl rfl rfl) ?_
   refine G_val rfl rfl rfl rfl (V_assign rfl rfl) ?_
   refine G_done ?_
   refine G_ifD rfl (fun hc2 => ?_) (fun hc2 => ?_)
   · (first | contradiction | (exact absurd rfl hc2) | (exfalso; omega) | (simp at hc2; done) | (exact absurd hc2 (by decide)) | (exact absurd (by decide) hc2))
   refine G_seq ?_
   refine G_region (l := [0, 1]) rfl ?_
   refine G_val rfl rfl rfl rfl (V_eql rfl rfl rfl) ?_
   refine G_val rfl rfl rfl rfl (V_assign rfl rfl) ?_
   refine G_done ?_
   refine G_ifD rfl (fun hc3 => ?_) (fun hc3 => ?_)
   rotate_left
   · (first | contradiction | (exact absurd rfl hc3) | (exfalso; omega) | (simp at hc3; done) | (exact absurd hc3 (by decide)) | (exact absurd (by decide) hc3))
   refine G_region (l := [0, 1, 2, 3]) rfl ?_
   refine G_val rfl rfl rfl rfl (V_move rfl rfl) ?_
   refine G_call (L2 := [_, _, _]) rfl rfl rfl rfl rfl rfl Try.call134 ((rd_str br l1 e1 600 (by omega) (by omega) (by omega)).weaken (fun v post h => by rw [h2] at h; exact h)) [0] [] rfl rfl ?_
   rintro v post ⟨rfl, rfl⟩
   show G _ _ _ [_, _, _, _] _
   refine G_val rfl rfl rfl rfl (V_fieldAddr (fo := 1) rfl Try.underlying58 rfl infScriptY_9 rfl rfl rfl) ?_
   refine G_put (l1 := [_, _]) (L' := [_, _, _, _]) rfl rfl rfl rfl (P_store1 rfl rfl rfl (mem_at 2 rfl) (by first | exact of_decide_eq_true rfl | omega | (simp [evC, evV, kC, evS, Sl.v]; done) | (simp [evC, evV, kC, evS, Sl.v]; omega) | (simp [evC, evV, kC, evS, Sl.v] at *; omega)) infScriptY_9 rfl rfl) rfl ?_
   rw [set5_1]
   refine G_done ?_
   refine G_inBlock ?_
   refine G_inBlock ?_
   refine G_again ?_
   refine G_seq ?_
   refine G_region (l := [0, 1]) rfl ?_
   refine G_val rfl rfl rfl rfl (V_nextE (i := 2) rfl rfl (mem_at 1 rfl) (by decide)) ?_
   refine G_val rfl rfl rfl rfl (V_extract rfl rfl rfl) ?_
   refine G_done ?_
   refine G_seq ?_
   refine G_else rfl ?_
   refine G_exit rfl ?_
   refine G_seq ?_
   refine G_addNone (.cells #[] 151 (0, 0)) ?_
   refine G_region (l := [0, 1]) rfl ?_
   first
     | refine G_val rfl rfl rfl rfl (V_loadW (s := 5) rfl rfl (mem_at 3 rfl) Try.underlying58 rfl infScriptY_58 rfl (by first | rfl | (simp [bcells_length, evC, evV, kC, evS, Sl.v]; done) | (simp [bcells_length, evC, evV, kC, evS, Sl.v]; omega) | (simp [bcells_length, *, evC, evV, kC, evS, Sl.v]; done))) ?_
     | refine G_val rfl rfl rfl rfl (V_loadA (s := 5) rfl rfl (mem_at 3 rfl) Try.underlying58 rfl infScriptY_58 rfl rfl (by first | rfl | (simp [bcells_length, evC, evV, kC, evS, Sl.v]; done) | (simp [bcells_length, evC, evV, kC, evS, Sl.v]; omega) | (simp [bcells_length, *, evC, evV, kC, evS, Sl.v]; done))) ?_
   refine G_put (l1 := [_, _, _, _]) (L' := [_, _, _, _, _]) rfl rfl rfl rfl (P_storeA (s := 5) rfl rfl rfl (mem_at 4 rfl) (by first | rfl | (simp [bcells_length, evC, evV, kC, evS, Sl.v]; done) | (simp [bcells_length, evC, evV, kC, evS, Sl.v]; omega) | (simp [bcells_length, *, evC, evV, kC, evS, Sl.v]; done)) infScriptY_58 rfl (by first | rfl | (simp [bcells_length, evC, evV, kC, evS, Sl.v]; done) | (simp [bcells_length, evC, evV, kC, evS, Sl.v]; omega) | (simp [bcells_length, *, evC, evV, kC, evS, Sl.v]; done)) (by first | rfl | exact bcells_all _ | (simp [Value.oneCell', evC, evV, kC, evS, Sl.v]; done) | (simp [Value.oneCell', *, evC, evV, kC, evS, Sl.v]; done))) rfl ?_
   refine G_done ?_
   refine G_ret (post := [_, _]) Try.func85 rfl (RVs_cons (RV_cell (s := 5) rfl (mem_at 4 rfl) Try.underlying58 rfl infScriptY_58 rfl (by first | rfl | (simp [bcells_length, evC, evV, kC, evS, Sl.v]; done) | (simp [bcells_length, evC, evV, kC, evS, Sl.v]; omega) | (simp [bcells_length, *, evC, evV, kC, evS, Sl.v]; done))) RVs_nil) [1, 0] rfl ?_
   dsimp only [packed]
   first
     | exact ⟨emU ⟨3, s, tt, (z : Int) - 1, ks⟩ u, l4, e4, by subst hn; rfl, emU_ok (by simp) (by show s.length ≤ _; omega) m1 (by show _ ≤ (z : Int) - 1 ∧ (z : Int) - 1 ≤ _; omega) hu (goodK_bd hgs), by have := r4.len; omega, r4.err, .inl (ev3 r0 hn r1 r2 r3 r4), rfl⟩
     | exact ⟨emN ⟨1, s, tt, 0, []⟩, l2, e2, by subst hn; rfl, emN_ok (by simp) (by show s.length ≤ _; omega) m1 (by simp) rfl, by omega, c2, .inl (ev1 r0 hn r1 r2), rfl⟩
     | exact ⟨emN ⟨2, [], tt, 0, []⟩, l1, e1, by subst hn; rfl, emN_ok (by simp) (by simp) m1 (by simp) rfl, by omega, c1, .inl (ev2 r0 hn r1), rfl⟩
     | exact ⟨emN ⟨0, [], 0, 0, []⟩, l0, e0, by subst hn; rfl, emN_ok (by decide) (by decide) (by decide) (by decide) rfl, a0, c0, .inr ⟨rfl, ev0 r0 hn⟩, rfl⟩
 · skip
   refine G_region (l := [0, 1, 2, 3]) rfl ?_
   refine G_val rfl rfl rfl rfl (V_fieldAddr (fo := 0) rfl Try.underlying58 rfl infScriptY_3 rfl rfl rfl) ?_
   refine G_val rfl rfl rfl rfl (V_load1 rfl rfl (mem_at 0 rfl) rfl Try.underlying3 rfl) ?_
   refine G_call (L2 := [_, _, _]) rfl rfl rfl rfl rfl rfl Try.call75 ((sc_fields (n : Int)).weaken (fun v post h => by rw [fldn2 hn] at h; exact h)) [] [] rfl rfl ?_
   rintro v post ⟨rfl, rfl⟩
   show G _ _ _ [_, _, _] _
   refine G_new rfl rfl rfl rfl (N_range rfl Try.underlying9 rfl) (fun b12 => ?_)
   refine G_done ?_
   refine G_block ?_
   refine G_loop1 ?_
   refine G_seq ?_
   refine G_region (l := [0, 1]) rfl ?_
   refine G_putV (l1 := []) (L' := [_, _, _, _]) rfl rfl rfl rfl rfl (P_next (i := 0) rfl rfl (mem_at 0 rfl) (by decide) (by decide)) rfl ?_
   refine G_val rfl rfl rfl rfl (V_extract rfl rfl rfl) ?_
   refine G_done ?_
   refine G_seq ?_
   refine G_then rfl ?_
   refine G_skip ?_
   refine G_block ?_
   refine G_seq ?_
   refine G_region (l := [0, 1]) rfl ?_
   refine G_val rfl rfl rfl rfl (V_extract rfl rfl rfl) ?_
   refine G_val rfl rfl rfl rfl (V_assign rfl rfl) ?_
   refine G_done ?_
   refine G_seq ?_
   refine G_region (l := [0]) rfl ?_
   refine G_val rfl rfl rfl rfl (V_move rfl rfl) ?_
   refine G_done ?_
   refine G_block ?_
   refine G_seq ?_
   refine G_region (l := [0, 1]) rfl ?_
   refine G_val rfl rfl rfl rfl (V_eql rfl rfl rfl) ?_
   refine G_val rfl rfl rfl rfl (V_assign rfl rfl) ?_
   refine G_done ?_
   refine G_ifD rfl (fun hc1 => ?_) (fun hc1 => ?_)
   rotate_left
   · (first | contradiction | (exact absurd rfl hc1) | (exfalso; omega) | (simp at hc1; done) | (exact absurd hc1 (by decide)) | (exact absurd (by decide) hc1))
   refine G_region (l := [0, 1, 2, 3]) rfl ?_
   refine G_val rfl rfl rfl rfl (V_move rfl rfl) ?_
   refine G_call (L2 := [_, _, _]) rfl rfl rfl rfl rfl rfl Try.call133 ((rd_num br l0 e0 (by omega) (by omega)).weaken (fun v post h => by rw [h1] at h; exact h)) [2] [] rfl rfl ?_
   rintro v post ⟨rfl, rfl⟩
   show G _ _ _ [_, _, _, _] _
   refine G_val rfl rfl rfl rfl (V_fieldAddr (fo := 2) rfl Try.underlying58 rfl infScriptY_23 rfl rfl rfl) ?_
   refine G_put (l1 := [_, _]) (L' := [_, _, _, _]) rfl rfl rfl rfl (P_store1 rfl rfl rfl (mem_at 2 rfl) (by first | exact of_decide_eq_true rfl | omega | (simp [evC, evV, kC, evS, Sl.v]; done) | (simp [evC, evV, kC, evS, Sl.v]; omega) | (simp [evC, evV, kC, evS, Sl.v] at *; omega)) infScriptY_23 rfl rfl) rfl ?_
   rw [set5_2]
   refine G_done ?_
   refine G_inBlock ?_
   refine G_inBlock ?_
   refine G_again ?_
   refine G_seq ?_
   refine G_region (l := [0, 1]) rfl ?_
   refine G_val rfl rfl rfl rfl (V_nextE (i := 1) rfl rfl (mem_at 1 rfl) (by decide)) ?_
   refine G_val rfl rfl rfl rfl (V_extract rfl rfl rfl) ?_
   refine G_done ?_
   refine G_seq ?_
   refine G_else rfl ?_
   refine G_exit rfl ?_
   refine G_seq ?_
   refine G_addNone (.cells #[] 151 (0, 0)) ?_
   refine G_region (l := [0, 1]) rfl ?_
   first
     | refine G_val rfl rfl rfl rfl (V_loadW (s := 5) rfl rfl (mem_at 3 rfl) Try.underlying58 rfl infScriptY_58 rfl (by first | rfl | (simp [bcells_length, evC, evV, kC, evS, Sl.v]; done) | (simp [bcells_length, evC, evV, kC, evS, Sl.v]; omega) | (simp [bcells_length, *, evC, evV, kC, evS, Sl.v]; done))) ?_
     | refine G_val rfl rfl rfl rfl (V_loadA (s := 5) rfl rfl (mem_at 3 rfl) Try.underlying58 rfl infScriptY_58 rfl rfl (by first | rfl | (simp [bcells_length, evC, evV, kC, evS, Sl.v]; done) | (simp [bcells_length, evC, evV, kC, evS, Sl.v]; omega) | (simp [bcells_length, *, evC, evV, kC, evS, Sl.v]; done))) ?_
   refine G_put (l1 := [_, _, _, _]) (L' := [_, _, _, _, _]) rfl rfl rfl rfl (P_storeA (s := 5) rfl rfl rfl (mem_at 4 rfl) (by first | rfl | (simp [bcells_length, evC, evV, kC, evS, Sl.v]; done) | (simp [bcells_length, evC, evV, kC, evS, Sl.v]; omega) | (simp [bcells_length, *, evC, evV, kC, evS, Sl.v]; done)) infScriptY_58 rfl (by first | rfl | (simp [bcells_length, evC, evV, kC, evS, Sl.v]; done) | (simp [bcells_length, evC, evV, kC, evS, Sl.v]; omega) | (simp [bcells_length, *, evC, evV, kC, evS, Sl.v]; done)) (by first | rfl | exact bcells_all _ | (simp [Value.oneCell', evC, evV, kC, evS, Sl.v]; done) | (simp [Value.oneCell', *, evC, evV, kC, evS, Sl.v]; done))) rfl ?_
   refine G_done ?_
   refine G_ret (post := [_, _]) Try.func85 rfl (RVs_cons (RV_cell (s := 5) rfl (mem_at 4 rfl) Try.underlying58 rfl infScriptY_58 rfl (by first | rfl | (simp [bcells_length, evC, evV, kC, evS, Sl.v]; done) | (simp [bcells_length, evC, evV, kC, evS, Sl.v]; omega) | (simp [bcells_length, *, evC, evV, kC, evS, Sl.v]; done))) RVs_nil) [1, 0] rfl ?_
   dsimp only [packed]
   first
     | exact ⟨emU ⟨3, s, tt, (z : Int) - 1, ks⟩ u, l4, e4, by subst hn; rfl, emU_ok (by simp) (by show s.length ≤ _; omega) m1 (by show _ ≤ (z : Int) - 1 ∧ (z : Int) - 1 ≤ _; omega) hu (goodK_bd hgs), by have := r4.len; omega, r4.err, .inl (ev3 r0 hn r1 r2 r3 r4), rfl⟩
     | exact ⟨emN ⟨1, s, tt, 0, []⟩, l2, e2, by subst hn; rfl, emN_ok (by simp) (by show s.length ≤ _; omega) m1 (by simp) rfl, by omega, c2, .inl (ev1 r0 hn r1 r2), rfl⟩
     | exact ⟨emN ⟨2, [], tt, 0, []⟩, l1, e1, by subst hn; rfl, emN_ok (by simp) (by simp) m1 (by simp) rfl, by omega, c1, .inl (ev2 r0 hn r1), rfl⟩
     | exact ⟨emN ⟨0, [], 0, 0, []⟩, l0, e0, by subst hn; rfl, emN_ok (by decide) (by decide) (by decide) (by decide) rfl, a0, c0, .inr ⟨rfl, ev0 r0 hn⟩, rfl⟩
 · skip
   refine G_region (l := [0, 1, 2, 3]) rfl ?_
   refine G_val rfl rfl rfl rfl (V_fieldAddr (fo := 0) rfl Try.underlying58 rfl infScriptY_3 rfl rfl rfl) ?_
   refine G_val rfl rfl rfl rfl (V_load1 rfl rfl (mem_at 0 rfl) rfl Try.underlying3 rfl) ?_
   refine G_call (L2 := [_, _, _]) rfl rfl rfl rfl rfl rfl Try.call75 ((sc_fields (n : Int)).weaken (fun v post h => by rw [fldn3 hn] at h; exact h)) [] [] rfl rfl ?_
   rintro v post ⟨rfl, rfl⟩
   show G _ _ _ [_, _, _] _
   refine G_new rfl rfl rfl rfl (N_range rfl Try.underlying9 rfl) (fun b12 => ?_)
   refine G_done ?_
   refine G_block ?_
   refine G_loop1 ?_
   refine G_seq ?_
   refine G_region (l := [0, 1]) rfl ?_
   refine G_putV (l1 := []) (L' := [_, _, _, _]) rfl rfl rfl rfl rfl (P_next (i := 0) rfl rfl (mem_at 0 rfl) (by decide) (by decide)) rfl ?_
   refine G_val rfl rfl rfl rfl (V_extract rfl rfl rfl) ?_
   refine G_done ?_
   refine G_seq ?_
   refine G_then rfl ?_
   refine G_skip ?_
   refine G_block ?_
   refine G_seq ?_
   refine G_region (l := [0, 1]) rfl ?_
   refine G_val rfl rfl rfl rfl (V_extract rfl rfl rfl) ?_
   refine G_val rfl rfl rfl rfl (V_assign rfl rfl) ?_
   refine G_done ?_
   refine G_seq ?_
   refine G_region (l := [0]) rfl ?_
   refine G_val rfl rfl rfl rfl (V_move rfl rfl) ?_
   refine G_done ?_
   refine G_block ?_
   refine G_seq ?_
   refine G_region (l := [0, 1]) rfl ?_
   refine G_val rfl rfl rfl rfl (V_eql rfl rfl rfl) ?_
   refine G_val rfl rfl rfl rfl (V_assign rfl rfl) ?_
   refine G_done ?_
   refine G_ifD rfl (fun hc1 => ?_) (fun hc1 => ?_)
   rotate_left
   · (first | contradiction | (exact absurd rfl hc1) | (exfalso; omega) | (simp at hc1; done) | (exact absurd hc1 (by decide)) | (exact absurd (by decide) hc1))
   refine G_region (l := [0, 1, 2, 3]) rfl ?_
   refine G_val rfl rfl rfl rfl (V_move rfl rfl) ?_
   refine G_call (L2 := [_, _, _]) rfl rfl rfl rfl rfl rfl Try.call133 ((rd_num br l0 e0 (by omega) (by omega)).weaken (fun v post h => by rw [h1] at h; exact h)) [2] [] rfl rfl ?_
   rintro v post ⟨rfl, rfl⟩
   show G _ _ _ [_, _, _, _] _
   refine G_val rfl rfl rfl rfl (V_fieldAddr (fo := 2) rfl Try.underlying58 rfl infScriptY_23 rfl rfl rfl) ?_
   refine G_put (l1 := [_, _]) (L' := [_, _, _, _]) rfl rfl rfl rfl (P_store1 rfl rfl rfl (mem_at 2 rfl) (by first | exact of_decide_eq_true rfl | omega | (simp [evC, evV, kC, evS, Sl.v]; done) | (simp [evC, evV, kC, evS, Sl.v]; omega) | (simp [evC, evV, kC, evS, Sl.v] at *; omega)) infScriptY_23 rfl rfl) rfl ?_
   rw [set5_2]
   refine G_done ?_
   refine G_inBlock ?_
   refine G_inBlock ?_
   refine G_again ?_
   refine G_seq ?_
   refine G_region (l := [0, 1]) rfl ?_
   refine G_putV (l1 := [_]) (L' := [_, _, _, _]) rfl rfl rfl rfl rfl (P_next (i := 1) rfl rfl (mem_at 1 rfl) (by decide) (by decide)) rfl ?_
   refine G_val rfl rfl rfl rfl (V_extract rfl rfl rfl) ?_
   refine G_done ?_
   refine G_seq ?_
   refine G_then rfl ?_
   refine G_skip ?_
   refine G_block ?_
   refine G_seq ?_
   refine G_region (l := [0, 1]) rfl ?_
   refine G_val rfl rfl rfl rfl (V_extract rfl rfl rfl) ?_
   refine G_val rfl rfl rfl rfl (V_assign rfl rfl) ?_
   refine G_done ?_
   refine G_seq ?_
   refine G_region (l := [0]) rfl ?_
   refine G_val rfl rfl rfl rfl (V_move rfl rfl) ?_
   refine G_done ?_
   refine G_block ?_
   refine G_seq ?_
   refine G_region (l := [0, 1]) rfl ?_
   refine G_val rfl rfl rfl rfl (V_eql rfl rfl rfl) ?_
   refine G_val rfl rfl rfl rfl (V_assign rfl rfl) ?_
   refine G_done ?_
   refine G_ifD rfl (fun hc2 => ?_) (fun hc2 => ?_)
   · (first | contradiction | (exact absurd rfl hc2) | (exfalso; omega) | (simp at hc2; done) | (exact absurd hc2 (by decide)) | (exact absurd (by decide) hc2))
   refine G_seq ?_
   refine G_region (l := [0, 1]) rfl ?_
   refine G_val rfl rfl rfl rfl (V_eql rfl rfl rfl) ?_
   refine G_val rfl rfl rfl rfl (V_assign rfl rfl) ?_
   refine G_done ?_
   refine G_ifD rfl (fun hc3 => ?_) (fun hc3 => ?_)
   rotate_left
   · (first | contradiction | (exact absurd rfl hc3) | (exfalso; omega) | (simp at hc3; done) | (exact absurd hc3 (by decide)) | (exact absurd (by decide) hc3))
   refine G_region (l := [0, 1, 2, 3]) rfl ?_
   refine G_val rfl rfl rfl rfl (V_move rfl rfl) ?_
   refine G_call (L2 := [_, _, _]) rfl rfl rfl rfl rfl rfl Try.call134 ((rd_str br l1 e1 600 (by omega) (by omega) (by omega)).weaken (fun v post h => by rw [h2] at h; exact h)) [0] [] rfl rfl ?_
   rintro v post ⟨rfl, rfl⟩
   show G _ _ _ [_, _, _, _] _
   refine G_val rfl rfl rfl rfl (V_fieldAddr (fo := 1) rfl Try.underlying58 rfl infScriptY_9 rfl rfl rfl) ?_
   refine G_put (l1 := [_, _]) (L' := [_, _, _, _]) rfl rfl rfl rfl (P_store1 rfl rfl rfl (mem_at 2 rfl) (by first | exact of_decide_eq_true rfl | omega | (simp [evC, evV, kC, evS, Sl.v]; done) | (simp [evC, evV, kC, evS, Sl.v]; omega) | (simp [evC, evV, kC, evS, Sl.v] at *; omega)) infScriptY_9 rfl rfl) rfl ?_
   rw [set5_1]
   refine G_done ?_
   refine G_inBlock ?_
   refine G_inBlock ?_
   refine G_again ?_
   refine G_seq ?_
   refine G_region (l := [0, 1]) rfl ?_
   refine G_putV (l1 := [_]) (L' := [_, _, _, _]) rfl rfl rfl rfl rfl (P_next (i := 2) rfl rfl (mem_at 1 rfl) (by decide) (by decide)) rfl ?_
   refine G_val rfl rfl rfl rfl (V_extract rfl rfl rfl) ?_
   refine G_done ?_
   refine G_seq ?_
   refine G_then rfl ?_
   refine G_skip ?_
   refine G_block ?_
   refine G_seq ?_
   refine G_region (l := [0, 1]) rfl ?_
   refine G_val rfl rfl rfl rfl (V_extract rfl rfl rfl) ?_
   refine G_val rfl rfl rfl rfl (V_assign rfl rfl) ?_
   refine G_done ?_
   refine G_seq ?_
   refine G_region (l := [0]) rfl ?_
   refine G_val rfl rfl rfl rfl (V_move rfl rfl) ?_
   refine G_done ?_
   refine G_block ?_
   refine G_seq ?_
   refine G_region (l := [0, 1]) rfl ?_
   refine G_val rfl rfl rfl rfl (V_eql rfl rfl rfl) ?_
   refine G_val rfl rfl rfl rfl (V_assign rfl rfl) ?_
   refine G_done ?_
   refine G_ifD rfl (fun hc4 => ?_) (fun hc4 => ?_)
   · (first | contradiction | (exact absurd rfl hc4) | (exfalso; omega) | (simp at hc4; done) | (exact absurd hc4 (by decide)) | (exact absurd (by decide) hc4))
   refine G_seq ?_
   refine G_region (l := [0, 1]) rfl ?_
   refine G_val rfl rfl rfl rfl (V_eql rfl rfl rfl) ?_
   refine G_val rfl rfl rfl rfl (V_assign rfl rfl) ?_
   refine G_done ?_
   refine G_ifD rfl (fun hc5 => ?_) (fun hc5 => ?_)
   · (first | contradiction | (exact absurd rfl hc5) | (exfalso; omega) | (simp at hc5; done) | (exact absurd hc5 (by decide)) | (exact absurd (by decide) hc5))
   refine G_seq ?_
   refine G_region (l := [0, 1]) rfl ?_
   refine G_val rfl rfl rfl rfl (V_eql rfl rfl rfl) ?_
   refine G_val rfl rfl rfl rfl (V_assign rfl rfl) ?_
   refine G_done ?_
   refine G_ifD rfl (fun hc6 => ?_) (fun hc6 => ?_)
   rotate_left
   · (first | contradiction | (exact absurd rfl hc6) | (exfalso; omega) | (simp at hc6; done) | (exact absurd hc6 (by decide)) | (exact absurd (by decide) hc6))
   refine G_region (l := [0, 1, 2, 3, 4]) rfl ?_
   refine G_val rfl rfl rfl rfl (V_move rfl rfl) ?_
   refine G_call (L2 := [_, _, _]) rfl rfl rfl rfl rfl rfl Try.call84 ((rd_int br l2 e2 1099511627776 (by omega) (by omega) (by omega)).weaken (fun v post h => by rw [h3] at h; exact h)) [0] [] rfl rfl ?_
   rintro v post ⟨rfl, rfl⟩
   show G _ _ _ [_, _, _, _] _
   first
     | refine G_val rfl rfl rfl rfl ((V_sub rfl rfl rfl).int (wrap_i64 (by omega))) ?_
     | refine G_val rfl rfl rfl rfl (V_sub rfl rfl rfl) ?_
   refine G_val rfl rfl rfl rfl (V_fieldAddr (fo := 3) rfl Try.underlying58 rfl infScriptY_3 rfl rfl rfl) ?_
   refine G_put (l1 := [_, _]) (L' := [_, _, _, _]) rfl rfl rfl rfl (P_store1 rfl rfl rfl (mem_at 2 rfl) (by first | exact of_decide_eq_true rfl | omega | (simp [evC, evV, kC, evS, Sl.v]; done) | (simp [evC, evV, kC, evS, Sl.v]; omega) | (simp [evC, evV, kC, evS, Sl.v] at *; omega)) infScriptY_3 rfl rfl) rfl ?_
   rw [set5_3]
   refine G_done ?_
   refine G_inBlock ?_
   refine G_inBlock ?_
   refine G_again ?_
   refine G_seq ?_
   refine G_region (l := [0, 1]) rfl ?_
   refine G_putV (l1 := [_]) (L' := [_, _, _, _]) rfl rfl rfl rfl rfl (P_next (i := 3) rfl rfl (mem_at 1 rfl) (by decide) (by decide)) rfl ?_
   refine G_val rfl rfl rfl rfl (V_extract rfl rfl rfl) ?_
   refine G_done ?_
   refine G_seq ?_
   refine G_then rfl ?_
   refine G_skip ?_
   refine G_block ?_
   refine G_seq ?_
   refine G_region (l := [0, 1]) rfl ?_
   refine G_val rfl rfl rfl rfl (V_extract rfl rfl rfl) ?_
   refine G_val rfl rfl rfl rfl (V_assign rfl rfl) ?_
   refine G_done ?_
   refine G_seq ?_
   refine G_region (l := [0]) rfl ?_
   refine G_val rfl rfl rfl rfl (V_move rfl rfl) ?_
   refine G_done ?_
   refine G_block ?_
   refine G_seq ?_
   refine G_region (l := [0, 1]) rfl ?_
   refine G_val rfl rfl rfl rfl (V_eql rfl rfl rfl) ?_
   refine G_val rfl rfl rfl rfl (V_assign rfl rfl) ?_
   refine G_done ?_
   refine G_ifD rfl (fun hc7 => ?_) (fun hc7 => ?_)
   · (first | contradiction | (exact absurd rfl hc7) | (exfalso; omega) | (simp at hc7; done) | (exact absurd hc7 (by decide)) | (exact absurd (by decide) hc7))
   refine G_seq ?_
   refine G_region (l := [0, 1]) rfl ?_
   refine G_val rfl rfl rfl rfl (V_eql rfl rfl rfl) ?_
   refine G_val rfl rfl rfl rfl (V_assign rfl rfl) ?_
   refine G_done ?_
   refine G_ifD rfl (fun hc8 => ?_) (fun hc8 => ?_)
   · (first | contradiction | (exact absurd rfl hc8) | (exfalso; omega) | (simp at hc8; done) | (exact absurd hc8 (by decide)) | (exact absurd (by decide) hc8))
   refine G_seq ?_
   refine G_region (l := [0, 1]) rfl ?_
   refine G_val rfl rfl rfl rfl (V_eql rfl rfl rfl) ?_
   refine G_val rfl rfl rfl rfl (V_assign rfl rfl) ?_
   refine G_done ?_
   refine G_ifD rfl (fun hc9 => ?_) (fun hc9 => ?_)
   · (first | contradiction | (exact absurd rfl hc9) | (exfalso; omega) | (simp at hc9; done) | (exact absurd hc9 (by decide)) | (exact absurd (by decide) hc9))
   refine G_region (l := [0, 1, 2, 3]) rfl ?_
   refine G_val rfl rfl rfl rfl (V_move rfl rfl) ?_
   refine G_call (L2 := [_, _, _]) rfl rfl rfl rfl rfl rfl Try.call135 (sc_keeps br l3 e3 (by omega) (by omega)) [0] [] rfl rfl ?_
   rintro v post ⟨u, ks, l4, e4, rfl, hu, hkl, hgs, r4, rfl⟩
   show G _ _ _ [_, _, _, _, _] _
   refine G_val rfl rfl rfl rfl (V_fieldAddr (fo := 4) rfl Try.underlying58 rfl infScriptY_56 rfl rfl rfl) ?_
   refine G_put (l1 := [_, _, _]) (L' := [_, _, _, _, _]) rfl rfl rfl rfl (P_store1 rfl rfl rfl (mem_at 3 rfl) (by first | exact of_decide_eq_true rfl | omega | (simp [evC, evV, kC, evS, Sl.v]; done) | (simp [evC, evV, kC, evS, Sl.v]; omega) | (simp [evC, evV, kC, evS, Sl.v] at *; omega)) infScriptY_56 rfl rfl) rfl ?_
   rw [set5_4]
   refine G_done ?_
   refine G_inBlock ?_
   refine G_inBlock ?_
   refine G_again ?_
   refine G_seq ?_
   refine G_region (l := [0, 1]) rfl ?_
   refine G_val rfl rfl rfl rfl (V_nextE (i := 4) rfl rfl (mem_at 2 rfl) (by decide)) ?_
   refine G_val rfl rfl rfl rfl (V_extract rfl rfl rfl) ?_
   refine G_done ?_
   refine G_seq ?_
   refine G_else rfl ?_
   refine G_exit rfl ?_
   refine G_seq ?_
   refine G_addNone (.cells #[] 151 (0, 0)) ?_
   refine G_region (l := [0, 1]) rfl ?_
   first
     | refine G_val rfl rfl rfl rfl (V_loadW (s := 5) rfl rfl (mem_at 4 rfl) Try.underlying58 rfl infScriptY_58 rfl (by first | rfl | (simp [bcells_length, evC, evV, kC, evS, Sl.v]; done) | (simp [bcells_length, evC, evV, kC, evS, Sl.v]; omega) | (simp [bcells_length, *, evC, evV, kC, evS, Sl.v]; done))) ?_
     | refine G_val rfl rfl rfl rfl (V_loadA (s := 5) rfl rfl (mem_at 4 rfl) Try.underlying58 rfl infScriptY_58 rfl rfl (by first | rfl | (simp [bcells_length, evC, evV, kC, evS, Sl.v]; done) | (simp [bcells_length, evC, evV, kC, evS, Sl.v]; omega) | (simp [bcells_length, *, evC, evV, kC, evS, Sl.v]; done))) ?_
   refine G_put (l1 := [_, _, _, _, _]) (L' := [_, _, _, _, _, _]) rfl rfl rfl rfl (P_storeA (s := 5) rfl rfl rfl (mem_at 5 rfl) (by first | rfl | (simp [bcells_length, evC, evV, kC, evS, Sl.v]; done) | (simp [bcells_length, evC, evV, kC, evS, Sl.v]; omega) | (simp [bcells_length, *, evC, evV, kC, evS, Sl.v]; done)) infScriptY_58 rfl (by first | rfl | (simp [bcells_length, evC, evV, kC, evS, Sl.v]; done) | (simp [bcells_length, evC, evV, kC, evS, Sl.v]; omega) | (simp [bcells_length, *, evC, evV, kC, evS, Sl.v]; done)) (by first | rfl | exact bcells_all _ | (simp [Value.oneCell', evC, evV, kC, evS, Sl.v]; done) | (simp [Value.oneCell', *, evC, evV, kC, evS, Sl.v]; done))) rfl ?_
   refine G_done ?_
   refine G_ret (post := [_, _]) Try.func85 rfl (RVs_cons (RV_cell (s := 5) rfl (mem_at 5 rfl) Try.underlying58 rfl infScriptY_58 rfl (by first | rfl | (simp [bcells_length, evC, evV, kC, evS, Sl.v]; done) | (simp [bcells_length, evC, evV, kC, evS, Sl.v]; omega) | (simp [bcells_length, *, evC, evV, kC, evS, Sl.v]; done))) RVs_nil) [1, 1] rfl ?_
   dsimp only [packed]
   first
     | exact ⟨emU ⟨3, s, tt, (z : Int) - 1, ks⟩ u, l4, e4, by subst hn; rfl, emU_ok (by simp) (by show s.length ≤ _; omega) m1 (by show _ ≤ (z : Int) - 1 ∧ (z : Int) - 1 ≤ _; omega) hu (goodK_bd hgs), by have := r4.len; omega, r4.err, .inl (ev3 r0 hn r1 r2 r3 r4), rfl⟩
     | exact ⟨emN ⟨1, s, tt, 0, []⟩, l2, e2, by subst hn; rfl, emN_ok (by simp) (by show s.length ≤ _; omega) m1 (by simp) rfl, by omega, c2, .inl (ev1 r0 hn r1 r2), rfl⟩
     | exact ⟨emN ⟨2, [], tt, 0, []⟩, l1, e1, by subst hn; rfl, emN_ok (by simp) (by simp) m1 (by simp) rfl, by omega, c1, .inl (ev2 r0 hn r1), rfl⟩
     | exact ⟨emN ⟨0, [], 0, 0, []⟩, l0, e0, by subst hn; rfl, emN_ok (by decide) (by decide) (by decide) (by decide) rfl, a0, c0, .inr ⟨rfl, ev0 r0 hn⟩, rfl⟩

set_option maxRecDepth 100000 in
set_option maxHeartbeats 2000000 in
theorem sc_decode (l : List UInt8) (hl : l.length ≤ 140737488350000) :
    Ct Try.prog 26 [.string (bs l)] [] [] fun v post => ∃ u ms c, Own 5 u (ms.flatMap evC) ms.length ∧ (∀ m ∈ ms, EmOk m) ∧ ms.length ≤ 400 ∧ DecR l (evsOf ms) c ∧ v = .tuple #[u.v ms.length, .int .i64 c] ∧ post = (u.ob, .cells u.cs 58 u.fz) :: ms.map evK := by
 obtain ⟨n, l0, e0, h0⟩ : ∃ n l0 e0, rdInt 400 l 0 = (n, l0, e0) := ⟨_, _, _, rfl⟩
 have r0 := rdg_int 400 l 0 (by omega) (by omega)
 have m0 := (rdInt_bd 400 l 0 (by omega) (by omega)).1
 rw [h0] at r0 m0
 have a0 := r0.len
 have c0 := r0.err
 simp only at a0 c0 m0 r0
 refine ct_of Try.func26 rfl rfl (fun w0 => ?_)
 show G _ _ [(0, _)] _ _
 refine G_seq ?_
 refine G_region (l := [0, 1]) rfl ?_
 refine G_val rfl rfl rfl rfl (V_assign rfl rfl) ?_
 refine G_val rfl rfl rfl rfl (V_assign rfl rfl) ?_
 refine G_done ?_
 refine G_seq ?_
 refine G_region (l := [0, 1, 2]) rfl ?_
 refine G_val rfl rfl rfl rfl (V_move rfl rfl) ?_
 refine G_call (L2 := []) rfl rfl rfl rfl rfl rfl Try.call33 (rd_new _) [] [] rfl rfl ?_
 rintro v post ⟨br, rfl, rfl⟩
 show G _ _ _ [_] _
 refine G_val rfl rfl rfl rfl (V_assign rfl rfl) ?_
 refine G_done ?_
 refine G_seq ?_
 refine G_region (l := [0]) rfl ?_
 refine G_val rfl rfl rfl rfl (V_assign rfl rfl) ?_
 refine G_done ?_
 refine G_seq ?_
 refine G_seq ?_
 refine G_addNone (.cells #[] 58 (0, 0)) ?_
 refine G_region (l := [0, 1, 2]) rfl ?_
 refine G_val rfl rfl rfl rfl (V_move rfl rfl) ?_
 refine G_call (L2 := [_]) rfl rfl rfl rfl rfl rfl Try.call84 ((rd_int br l 0 400 (by omega) (by omega) (by omega)).weaken (fun v post h => by rw [h0] at h; exact h)) [1] [] rfl rfl ?_
 rintro v post ⟨rfl, rfl⟩
 show G _ _ _ [_, _] _
 refine G_val rfl rfl rfl rfl (V_move rfl rfl) ?_
 refine G_done ?_
 refine G_block ?_
 refine G_subT (L1 := [_, _]) ?he4 [0, 0] ?hl4 (G_loop (X := Nat × Sl × List Em × List UInt8 × Nat) (fun x => match x with | ⟨i, u, ms, l1, e1⟩ => i ≤ n ∧ Own 5 u (ms.flatMap evC) i ∧ (∀ m ∈ ms, EmOk m) ∧ RdgL encE GoodE n l0 e0 i (evsOf ms) l1 e1) (fun x => match x with | ⟨i, u, ms, l1, e1⟩ => n - i) (fun x => match x with | ⟨i, u, ms, l1, e1⟩ => [(4, .pointer (some ⟨br, 0, none⟩)), (5, u.v i), (10, .int .i64 (n : Int)), (11, .int .i64 (i : Int))]) (fun x => match x with | ⟨i, u, ms, l1, e1⟩ => ((some br, .cells #[.string (bs l1), .int .i64 ((e1 : Nat) : Int)] 169 (0, 0)) :: (u.ob, .cells u.cs 58 u.fz) :: ms.map evK)) ?round4 (0, slNil, [], l0, e0) ?h04)
 case he4 => exact (And.intro rfl (And.intro rfl (And.intro rfl (And.intro rfl trivial))))
 case hl4 => exact ⟨_, _, rfl, .refl _⟩
 case h04 => exact ⟨Nat.zero_le _, own_nil 5, by simp, .zero c0⟩
 case round4 =>
  intro x hJ ih
  try dsimp only at hJ ih
  obtain ⟨i, u, ms, l1, e1⟩ := x
  try dsimp only at hJ ih
  obtain ⟨hi, hu, hoks, hx⟩ := hJ
  show G _ _ [(4, .pointer (some ⟨br, 0, none⟩)), (5, u.v i), (10, .int .i64 (n : Int)), (11, .int .i64 (i : Int))] ((some br, .cells #[.string (bs l1), .int .i64 ((e1 : Nat) : Int)] 169 (0, 0)) :: (u.ob, .cells u.cs 58 u.fz) :: ms.map evK) _
  have hl1 := hx.len
  have he1 := hx.err
  refine G_seq ?_
  refine G_region (l := [0]) rfl ?_
  refine G_val rfl rfl rfl rfl (V_lss rfl rfl rfl) ?_
  refine G_done ?_
  refine G_seq ?_
  refine G_ifD rfl (fun hc1 => ?_) (fun hc1 => ?_)
  · skip
    refine G_skip ?_
    refine G_seq ?_
    refine G_block ?_
    refine G_seq ?_
    refine G_region (l := [0, 1, 2, 3]) rfl ?_
    refine G_val rfl rfl rfl rfl (V_move rfl rfl) ?_
    refine G_call (L2 := (_ :: _)) rfl rfl rfl rfl rfl rfl Try.call85 (sc_event br l1 e1 (by omega) he1) [0] [] rfl rfl ?_
    rintro v post ⟨m, l2, e2, rfl, hmo, hl2, he2, hev, rfl⟩
    show G _ _ _ (_ :: _ :: _ :: _) _
    refine G_new rfl rfl rfl rfl (N_allocA rfl infScriptY_58 rfl) (fun b6 => ?_)
    refine G_put (l1 := []) (L' := (_ :: _ :: _ :: _ :: _)) rfl rfl rfl rfl (P_storeA (s := 5) rfl rfl rfl (mem_at 0 rfl) (by first | rfl | (simp [bcells_length, evC, evV, kC, evS, Sl.v]; done) | (simp [bcells_length, evC, evV, kC, evS, Sl.v]; omega) | (simp [bcells_length, *, evC, evV, kC, evS, Sl.v]; done)) infScriptY_58 rfl (by first | rfl | (simp [bcells_length, evC, evV, kC, evS, Sl.v]; done) | (simp [bcells_length, evC, evV, kC, evS, Sl.v]; omega) | (simp [bcells_length, *, evC, evV, kC, evS, Sl.v]; done)) (by first | rfl | exact bcells_all _ | (simp [Value.oneCell', evC, evV, kC, evS, Sl.v]; done) | (simp [Value.oneCell', *, evC, evV, kC, evS, Sl.v]; done))) rfl ?_
    refine G_done ?_
    refine G_seq ?_
    refine G_seq ?_
    refine G_region (l := [0, 1, 2, 3, 4, 5, 6, 7]) rfl ?_
    refine G_val rfl rfl rfl rfl (V_move rfl rfl) ?_
    refine G_call (L2 := (_ :: _ :: _ :: _ :: _)) rfl rfl rfl rfl rfl rfl Try.call86 (rd_err _ _ _) [] [1] rfl rfl ?_
    rintro v post ⟨rfl, rfl⟩
    show G _ _ _ (_ :: _ :: _ :: _ :: _) _
    refine G_val rfl rfl rfl rfl (V_neq rfl rfl rfl) ?_
    refine G_val rfl rfl rfl rfl (V_move rfl rfl) ?_
    refine G_splitD 18 rfl (fun hc2 => ?_) (fun hc2 => ?_)
    · skip
      refine G_off rfl rfl rfl rfl ?_
      refine G_off rfl rfl rfl rfl ?_
      refine G_off rfl rfl rfl rfl ?_
      refine G_val rfl rfl rfl rfl (V_pickT rfl rfl rfl) ?_
      refine G_done ?_
      refine G_then rfl ?_
      refine G_seq ?_
      refine G_addNone (.cells #[] 58 (0, 0)) ?_
      refine G_region (l := [0, 1]) rfl ?_
      refine G_val rfl rfl rfl rfl (V_assign rfl rfl) ?_
      refine G_val rfl rfl rfl rfl (V_assign rfl rfl) ?_
      refine G_done ?_
      refine G_retT (p1 := [_]) (T := []) Try.func26 rfl (RVs_cons (RV_tmp rfl) (RVs_cons (RV_tmp rfl) RVs_nil)) [0] ⟨_, _, rfl, .refl _⟩ ?_
      dsimp only [packed]
      first
        | exact ⟨slNil, [], 3, own_nil 5, by simp, by simp, dec_fail r0 hx (by omega) hev (by first | exact .inl (by omega) | exact .inr (by simpa using ‹(!decide (MayE m.v)) = true›)), rfl, rfl⟩
        | exact ⟨slNil, [], 3, own_nil 5, by simp, by simp, dec_bad r0 hx (by first | exact .inl (by omega) | exact .inr (by omega)) (by omega), rfl, rfl⟩
        | (obtain rfl : i = n := by omega
           have hnum := hx.num
           unfold evsOf at hnum
           rw [List.length_map] at hnum
           exact ⟨u, ms, 0, by rw [hnum]; exact hu, hoks, by omega, dec_good r0 hx (by omega), by rw [hnum], rfl⟩)
    first
      | refine G_val rfl rfl rfl rfl (V_loadW (s := 5) rfl rfl (mem_at 0 rfl) Try.underlying58 rfl infScriptY_58 rfl (by first | rfl | (simp [bcells_length, evC, evV, kC, evS, Sl.v]; done) | (simp [bcells_length, evC, evV, kC, evS, Sl.v]; omega) | (simp [bcells_length, *, evC, evV, kC, evS, Sl.v]; done))) ?_
      | refine G_val rfl rfl rfl rfl (V_loadA (s := 5) rfl rfl (mem_at 0 rfl) Try.underlying58 rfl infScriptY_58 rfl rfl (by first | rfl | (simp [bcells_length, evC, evV, kC, evS, Sl.v]; done) | (simp [bcells_length, evC, evV, kC, evS, Sl.v]; omega) | (simp [bcells_length, *, evC, evV, kC, evS, Sl.v]; done))) ?_
    refine G_call (L2 := (_ :: _ :: _ :: _ :: _)) rfl rfl rfl rfl rfl rfl Try.call21 (sc_may m hmo) [] [2] rfl rfl ?_
    rintro v post ⟨rfl, rfl⟩
    show G _ _ _ (_ :: _ :: _ :: _ :: _) _
    refine G_val rfl rfl rfl rfl (V_not rfl rfl) ?_
    refine G_val rfl rfl rfl rfl (V_pickF rfl rfl rfl) ?_
    refine G_done ?_
    refine G_if rfl (fun hc3 => ?_) (fun hc3 => ?_)
    · skip
      refine G_seq ?_
      refine G_addNone (.cells #[] 58 (0, 0)) ?_
      refine G_region (l := [0, 1]) rfl ?_
      refine G_val rfl rfl rfl rfl (V_assign rfl rfl) ?_
      refine G_val rfl rfl rfl rfl (V_assign rfl rfl) ?_
      refine G_done ?_
      refine G_retT (p1 := [_]) (T := []) Try.func26 rfl (RVs_cons (RV_tmp rfl) (RVs_cons (RV_tmp rfl) RVs_nil)) [0] ⟨_, _, rfl, .refl _⟩ ?_
      dsimp only [packed]
      first
        | exact ⟨slNil, [], 3, own_nil 5, by simp, by simp, dec_fail r0 hx (by omega) hev (by first | exact .inl (by omega) | exact .inr (by simpa using ‹(!decide (MayE m.v)) = true›)), rfl, rfl⟩
        | exact ⟨slNil, [], 3, own_nil 5, by simp, by simp, dec_bad r0 hx (by first | exact .inl (by omega) | exact .inr (by omega)) (by omega), rfl, rfl⟩
        | (obtain rfl : i = n := by omega
           have hnum := hx.num
           unfold evsOf at hnum
           rw [List.length_map] at hnum
           exact ⟨u, ms, 0, by rw [hnum]; exact hu, hoks, by omega, dec_good r0 hx (by omega), by rw [hnum], rfl⟩)
    refine G_skip ?_
    refine G_region (l := [0, 1, 2, 3, 4]) rfl ?_
    refine G_val rfl rfl rfl rfl (V_move rfl rfl) ?_
    first
      | refine G_val rfl rfl rfl rfl (V_loadW (s := 5) rfl rfl (mem_at 0 rfl) Try.underlying58 rfl infScriptY_58 rfl (by first | rfl | (simp [bcells_length, evC, evV, kC, evS, Sl.v]; done) | (simp [bcells_length, evC, evV, kC, evS, Sl.v]; omega) | (simp [bcells_length, *, evC, evV, kC, evS, Sl.v]; done))) ?_
      | refine G_val rfl rfl rfl rfl (V_loadA (s := 5) rfl rfl (mem_at 0 rfl) Try.underlying58 rfl infScriptY_58 rfl rfl (by first | rfl | (simp [bcells_length, evC, evV, kC, evS, Sl.v]; done) | (simp [bcells_length, evC, evV, kC, evS, Sl.v]; omega) | (simp [bcells_length, *, evC, evV, kC, evS, Sl.v]; done))) ?_
    refine G_new rfl rfl rfl rfl (N_buildAll (s := 5) (cs := [_, _, _, _, _]) rfl Try.underlying53 infScriptY_58 rfl rfl rfl rfl rfl rfl rfl rfl rfl) (fun b25 => ?_)
    refine G_append (l1 := [_, _, _, _]) (s := u) (nn := i) (m := 1) (news := evC m) (bt := 64) rfl rfl rfl rfl Try.underlying53 Try.underlying53 (by first | exact .inl rfl | exact .inr ⟨_, rfl⟩) infScriptY_58 rfl rfl rfl rfl rfl rfl hu rfl (src_mem (mem_at 0 rfl) rfl rfl (by simp [evC, evV, evS, Value.oneCell'])) (by omega) (by omega) ?_
    intro u1 hu1 _
    show G _ _ _ (_ :: _ :: _ :: _ :: _ :: _) _
    refine G_val rfl rfl rfl rfl (V_assign rfl rfl) ?_
    refine G_done ?_
    refine G_inBlock ?_
    refine G_region (l := [0, 1]) rfl ?_
    first
      | refine G_val rfl rfl rfl rfl ((V_add rfl rfl rfl).int (wrap_i64 (by omega))) ?_
      | refine G_val rfl rfl rfl rfl (V_add rfl rfl rfl) ?_
    refine G_val rfl rfl rfl rfl (V_move rfl rfl) ?_
    refine G_done ?_
    refine G_subT (L1 := [_, _]) ?_ [2, 3] ?_ (ih (i + 1, u1, ms ++ [m], l2, e2) ?_ ?_)
    · (refine (And.intro ?_ (And.intro ?_ (And.intro ?_ (And.intro ?_ trivial)))) <;> first | rfl | exact slot_int (by omega) | exact slot_int (by simp))
    · exact ⟨_, _, rfl, perm_bk evK ms m [_, _] []⟩
    · exact ⟨by omega, by rw [List.flatMap_append, List.flatMap_singleton]; exact hu1, oks_next hoks hmo, by rw [evs_next]; exact hx.next (ev_good hev (by simpa using ‹(!decide (MayE m.v)) = false›)) (by omega)⟩
    · (first | omega | (dsimp only; omega))
  refine G_exit rfl ?_
  refine G_seq ?_
  refine G_seq ?_
  refine G_region (l := [0, 1, 2]) rfl ?_
  refine G_val rfl rfl rfl rfl (V_move rfl rfl) ?_
  refine G_call (L2 := (_ :: _ :: _)) rfl rfl rfl rfl rfl rfl Try.call35 (rd_end _ _ _) [] [0] rfl rfl ?_
  rintro v post ⟨rfl, rfl⟩
  show G _ _ _ (_ :: _ :: _) _
  refine G_val rfl rfl rfl rfl (V_neq rfl rfl rfl) ?_
  refine G_done ?_
  refine G_ifD rfl (fun hc2 => ?_) (fun hc2 => ?_)
  · skip
    refine G_seq ?_
    refine G_addNone (.cells #[] 58 (0, 0)) ?_
    refine G_region (l := [0, 1]) rfl ?_
    refine G_val rfl rfl rfl rfl (V_assign rfl rfl) ?_
    refine G_val rfl rfl rfl rfl (V_assign rfl rfl) ?_
    refine G_done ?_
    refine G_retT (p1 := [_]) (T := []) Try.func26 rfl (RVs_cons (RV_tmp rfl) (RVs_cons (RV_tmp rfl) RVs_nil)) [0] ⟨_, _, rfl, .refl _⟩ ?_
    dsimp only [packed]
    first
      | exact ⟨slNil, [], 3, own_nil 5, by simp, by simp, dec_fail r0 hx (by omega) hev (by first | exact .inl (by omega) | exact .inr (by simpa using ‹(!decide (MayE m.v)) = true›)), rfl, rfl⟩
      | exact ⟨slNil, [], 3, own_nil 5, by simp, by simp, dec_bad r0 hx (by first | exact .inl (by omega) | exact .inr (by omega)) (by omega), rfl, rfl⟩
      | (obtain rfl : i = n := by omega
         have hnum := hx.num
         unfold evsOf at hnum
         rw [List.length_map] at hnum
         exact ⟨u, ms, 0, by rw [hnum]; exact hu, hoks, by omega, dec_good r0 hx (by omega), by rw [hnum], rfl⟩)
  refine G_skip ?_
  refine G_seq ?_
  refine G_region (l := [0, 1, 2]) rfl ?_
  refine G_val rfl rfl rfl rfl (V_move rfl rfl) ?_
  refine G_val rfl rfl rfl rfl (V_assign rfl rfl) ?_
  refine G_val rfl rfl rfl rfl (V_assign rfl rfl) ?_
  refine G_done ?_
  refine G_retT (p1 := [_]) (T := _) Try.func26 rfl (RVs_cons (RV_tmp rfl) (RVs_cons (RV_tmp rfl) RVs_nil)) [1] ⟨_, _, rfl, List.perm_append_comm (l₁ := [_])⟩ ?_
  dsimp only [packed]
  first
    | exact ⟨slNil, [], 3, own_nil 5, by simp, by simp, dec_fail r0 hx (by omega) hev (by first | exact .inl (by omega) | exact .inr (by simpa using ‹(!decide (MayE m.v)) = true›)), rfl, rfl⟩
    | exact ⟨slNil, [], 3, own_nil 5, by simp, by simp, dec_bad r0 hx (by first | exact .inl (by omega) | exact .inr (by omega)) (by omega), rfl, rfl⟩
    | (obtain rfl : i = n := by omega
       have hnum := hx.num
       unfold evsOf at hnum
       rw [List.length_map] at hnum
       exact ⟨u, ms, 0, by rw [hnum]; exact hu, hoks, by omega, dec_good r0 hx (by omega), by rw [hnum], rfl⟩)

end
end Go.Proofs.Ytkekkalgebgokaa
