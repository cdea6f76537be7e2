/- What the law ScriptSends needs, part 4. -/
import Derived.Test.YtkekkalgebgokaaPkScriptSends1
import Derived.Test.YtkekkalgebgokaaPkScriptSends2
import Derived.Test.YtkekkalgebgokaaPkScriptSends3
import Derived.Test.YtkekkalgebgokaaRows
import Derived.WalkKit
import Derived.ProofKit
import Derived.OpenShut
import Derived.ShutString
import Derived.ChangeOld
import Derived.Below
import Derived.Deep.Slices

/- The walks of layer 40, on: events out of bytes; the program's and the document's. -/
set_option linter.unusedSimpArgs false
set_option linter.unusedVariables false
namespace Go.Proofs.Ytkekkalgebgokaa
open Go Go.RowKit

section
theorem infScriptY_3 : Try.prog.info? 3 = some Try.t3 := by kernel_rfl
theorem infScriptY_9 : Try.prog.info? 9 = some Try.t9 := by kernel_rfl
theorem infScriptY_23 : Try.prog.info? 23 = some Try.t23 := by kernel_rfl
theorem infScriptY_56 : Try.prog.info? 56 = some Try.t56 := by kernel_rfl
theorem infScriptY_58 : Try.prog.info? 58 = some Try.t58 := by kernel_rfl
theorem infScriptY_151 : Try.prog.info? 151 = some Try.t151 := by kernel_rfl
theorem plcScriptY_58 : placesOf Try.prog (Try.prog.fieldsOf 58) = some [(0, 1), (1, 1), (2, 1), (3, 1), (4, 1)] := by kernel_rfl
theorem plcScriptY_151 : placesOf Try.prog (Try.prog.fieldsOf 151) = some [(0, 1), (1, 1)] := by kernel_rfl

set_option maxRecDepth 100000 in
set_option maxHeartbeats 1000000 in
theorem sc_keeps (br : Nat) (l : List UInt8) (e : Nat) (hl : l.length ≤ 140737488350000) (he : e ≤ 1000) :
    Ct Try.prog 135 [.pointer (some ⟨br, 0, none⟩)] [] [(some br, .cells #[.string (bs l), .int .i64 ((e : Nat) : Int)] 169 (0, 0))] fun v post => ∃ u ks l1 e1, v = u.v ks.length ∧ Own 2 u (ks.flatMap kC) ks.length ∧ (ks.length : Int) ≤ 64 ∧ (∀ x ∈ ks, GoodK x) ∧ Rdg (encList encK) (fun ks => (ks.length : Int) ≤ 64 ∧ ∀ x ∈ ks, GoodK x) l e ks l1 e1 ∧ post = [(some br, .cells #[.string (bs l1), .int .i64 ((e1 : Nat) : Int)] 169 (0, 0)), (u.ob, .cells u.cs 151 u.fz)] := by
 obtain ⟨n, l0, e0, hn⟩ : ∃ n l0 e0, rdInt 64 l e = (n, l0, e0) := ⟨_, _, _, rfl⟩
 have hr0 := rdg_int 64 l e he (by omega)
 rw [hn] at hr0
 have hb0 := (rdInt_bd 64 l e he (by omega)).1
 rw [hn] at hb0
 have hl0 := hr0.len
 have he0 := hr0.err
 simp only at hl0 he0 hb0 hr0
 refine ct_of Try.func135 rfl rfl (fun w0 => ?_)
 show G _ _ [(0, _)] _ _
 refine G_seq ?_
 refine G_region (l := [0]) rfl ?_
 refine G_val rfl rfl rfl rfl (V_assign rfl rfl) ?_
 refine G_done ?_
 refine G_seq ?_
 refine G_region (l := [0]) rfl ?_
 refine G_val rfl rfl rfl rfl (V_assign rfl rfl) ?_
 refine G_done ?_
 refine G_seq ?_
 refine G_seq ?_
 refine G_addNone (.cells #[] 151 (0, 0)) ?_
 refine G_region (l := [0, 1, 2]) rfl ?_
 refine G_val rfl rfl rfl rfl (V_move rfl rfl) ?_
 refine G_call (L2 := [_]) rfl rfl rfl rfl rfl rfl Try.call84 ((rd_int br l e 64 (by omega) he (by omega)).weaken (fun v post h => by rw [hn] at h; exact h)) [1] [] rfl rfl ?_
 rintro v post ⟨rfl, rfl⟩
 show G _ _ _ [_, _] _
 refine G_val rfl rfl rfl rfl (V_move rfl rfl) ?_
 refine G_done ?_
 refine G_block ?_
 refine G_sub ?he3 [0, 0] ?hl3 (G_loop (X := Nat × Sl × List (Int × Int) × List UInt8 × Nat) (fun x => match x with | ⟨i, u, ks, l1, e1⟩ => i ≤ n ∧ Own 2 u (ks.flatMap kC) i ∧ RdgL encK GoodK n l0 e0 i ks l1 e1 ∧ ∀ x ∈ ks, GoodK x) (fun x => match x with | ⟨i, u, ks, l1, e1⟩ => n - i) (fun x => match x with | ⟨i, u, ks, l1, e1⟩ => [(0, .pointer (some ⟨br, 0, none⟩)), (3, u.v i), (5, .int .i64 (n : Int)), (6, .int .i64 (i : Int))]) (fun x => match x with | ⟨i, u, ks, l1, e1⟩ => [(some br, .cells #[.string (bs l1), .int .i64 ((e1 : Nat) : Int)] 169 (0, 0)), (u.ob, .cells u.cs 151 u.fz)]) ?round3 (0, slNil, [], l0, e0) ?h03)
 case he3 => exact (And.intro rfl (And.intro rfl (And.intro rfl (And.intro rfl trivial))))
 case hl3 => exact ⟨_, rfl⟩
 case h03 => exact ⟨Nat.zero_le _, own_nil 2, .zero he0, by simp⟩
 case round3 =>
  intro x hJ ih
  try dsimp only at hJ ih
  obtain ⟨i, u, ks, l1, e1⟩ := x
  try dsimp only at hJ ih
  obtain ⟨hi, hu, hx, hgs⟩ := hJ
  show G _ _ [(0, .pointer (some ⟨br, 0, none⟩)), (3, u.v i), (5, .int .i64 (n : Int)), (6, .int .i64 (i : Int))] [(some br, .cells #[.string (bs l1), .int .i64 ((e1 : Nat) : Int)] 169 (0, 0)), (u.ob, .cells u.cs 151 u.fz)] _
  have hl1 := hx.len
  have he1 := hx.err
  refine G_seq ?_
  refine G_region (l := [0]) rfl ?_
  refine G_val rfl rfl rfl rfl (V_lss rfl rfl rfl) ?_
  refine G_done ?_
  refine G_seq ?_
  refine G_ifD rfl (fun hc1 => ?_) (fun hc1 => ?_)
  · skip
    refine G_skip ?_
    refine G_seq ?_
    refine G_block ?_
    obtain ⟨a, l2, e2, ha⟩ : ∃ n l0 e0, rdInt 1099511627776 l1 e1 = (n, l0, e0) := ⟨_, _, _, rfl⟩
    obtain ⟨b, l3, e3, hb⟩ : ∃ n l0 e0, rdInt 64 l2 e2 = (n, l0, e0) := ⟨_, _, _, rfl⟩
    obtain ⟨hk, hgk, hl2, he2, hl3, he3⟩ := rdg_k ha hb (by omega)
    have hnx := hx.next hk (by omega)
    refine G_region (l := [0, 1, 2, 3, 4, 5, 6, 7, 8]) rfl ?_
    refine G_val rfl rfl rfl rfl (V_move rfl rfl) ?_
    refine G_val rfl rfl rfl rfl (V_move rfl rfl) ?_
    refine G_call (L2 := [_]) rfl rfl rfl rfl rfl rfl Try.call84 ((rd_int br l1 e1 1099511627776 (by omega) (by omega) (by omega)).weaken (fun v post h => by rw [ha] at h; exact h)) [0] [] rfl rfl ?_
    rintro v post ⟨rfl, rfl⟩
    show G _ _ _ [_, _] _
    refine G_val rfl rfl rfl rfl (V_move rfl rfl) ?_
    refine G_call (L2 := [_]) rfl rfl rfl rfl rfl rfl Try.call84 ((rd_int br l2 e2 64 (by omega) (by omega) (by omega)).weaken (fun v post h => by rw [hb] at h; exact h)) [0] [] rfl rfl ?_
    rintro v post ⟨rfl, rfl⟩
    show G _ _ _ [_, _] _
    refine G_val rfl rfl rfl rfl (V_buildS (cs := [_, _]) rfl Try.underlying151 infScriptY_151 rfl plcScriptY_151 rfl rfl rfl) ?_
    refine G_new rfl rfl rfl rfl (N_buildAll (s := 2) (cs := [_, _]) rfl Try.underlying56 infScriptY_151 rfl rfl rfl rfl rfl rfl rfl rfl rfl) (fun b14 => ?_)
    refine G_append (l1 := [_, _]) (s := u) (nn := i) (m := 1) (news := kC ((a : Int), (b : Int))) (bt := 16) rfl rfl rfl rfl Try.underlying56 Try.underlying56 (by first | exact .inl rfl | exact .inr ⟨_, rfl⟩) infScriptY_151 rfl rfl rfl rfl rfl rfl hu rfl (src_mem (mem_at 0 rfl) rfl rfl (by simp [kC, Value.oneCell'])) (by omega) (by omega) ?_
    intro u1 hu1 _
    show G _ _ _ [_, _, _] _
    refine G_val rfl rfl rfl rfl (V_assign rfl rfl) ?_
    refine G_done ?_
    refine G_inBlock ?_
    refine G_region (l := [0, 1]) rfl ?_
    first
      | refine G_val rfl rfl rfl rfl ((V_add rfl rfl rfl).int (wrap_i64 (by omega))) ?_
      | refine G_val rfl rfl rfl rfl (V_add rfl rfl rfl) ?_
    refine G_val rfl rfl rfl rfl (V_move rfl rfl) ?_
    refine G_done ?_
    refine G_sub ?_ [1, 1] ?_ (ih (i + 1, u1, ks ++ [((a : Int), (b : Int))], l3, e3) ?_ ?_)
    · (refine (And.intro ?_ (And.intro ?_ (And.intro ?_ (And.intro ?_ trivial)))) <;> first | rfl | exact slot_int (by omega) | exact slot_int (by simp))
    · exact ⟨_, rfl⟩
    · exact ⟨by omega, by rw [List.flatMap_append, List.flatMap_singleton]; exact hu1, hnx, goodKs_next hgs hgk⟩
    · (first | omega | (dsimp only; omega))
  refine G_exit rfl ?_
  refine G_seq ?_
  refine G_region (l := [0, 1]) rfl ?_
  refine G_val rfl rfl rfl rfl (V_move rfl rfl) ?_
  refine G_val rfl rfl rfl rfl (V_assign rfl rfl) ?_
  refine G_done ?_
  refine G_ret (post := [_, _]) Try.func135 rfl (RVs_cons (RV_tmp rfl) RVs_nil) [0, 0] rfl ?_
  dsimp only [packed]
  obtain rfl : i = n := by omega
  have hnum := hx.num
  exact ⟨u, ks, l1, e1, by rw [hnum], by rw [hnum]; exact hu, by rw [hnum]; exact hb0, hgs, rdg_list hr0 hx.done, rfl⟩


theorem fldn0 {n : Nat} (h : n = 0) : fieldsE (n : Int) = [] := by subst h; rfl
theorem fldn1 {n : Nat} (h : n = 1) : fieldsE (n : Int) = [116, 98] := by subst h; rfl
theorem fldn2 {n : Nat} (h : n = 2) : fieldsE (n : Int) = [116] := by subst h; rfl
theorem fldn3 {n : Nat} (h : n = 3) : fieldsE (n : Int) = [116, 98, 102, 107] := by subst h; rfl
theorem set5_1 (a b c d e x : Value) : (#[a, b, c, d, e] : Array Value).setIfInBounds 1 x = #[a, x, c, d, e] := rfl
theorem set5_2 (a b c d e x : Value) : (#[a, b, c, d, e] : Array Value).setIfInBounds 2 x = #[a, b, x, d, e] := rfl
theorem set5_3 (a b c d e x : Value) : (#[a, b, c, d, e] : Array Value).setIfInBounds 3 x = #[a, b, c, x, e] := rfl
theorem set5_4 (a b c d e x : Value) : (#[a, b, c, d, e] : Array Value).setIfInBounds 4 x = #[a, b, c, d, x] := rfl
def emN (ev : Ev) : Em := ⟨ev, none, none, 0, 0, #[], 151, (0, 0)⟩
def emU (ev : Ev) (u : Sl) : Em := ⟨ev, u.ob.map fun b => ⟨b, 0, none⟩, u.ob, 0, u.cap, u.cs, 151, u.fz⟩
theorem emN_ok {ev : Ev} (hk : -9223372036854775808 ≤ ev.kd ∧ ev.kd ≤ 9223372036854775807) (hb : ev.b.length ≤ 9223372036854775807) (ht : ev.t < 18446744073709551616) (hf : -9223372036854775808 ≤ ev.f ∧ ev.f ≤ 9223372036854775807) (hks : ev.ks = []) : EmOk (emN ev) :=
  ⟨hk, hb, ht, hf, by intro x hx; have : x ∈ ev.ks := hx; rw [hks] at this; exact absurd this (by simp), by show ev.ks.length ≤ 0; rw [hks]; exact Nat.le_refl _, by show 0 ≤ _; omega, .inr ⟨hks, rfl⟩⟩
theorem emU_ok {ev : Ev} {u : Sl} (hk : -9223372036854775808 ≤ ev.kd ∧ ev.kd ≤ 9223372036854775807) (hb : ev.b.length ≤ 9223372036854775807) (ht : ev.t < 18446744073709551616) (hf : -9223372036854775808 ≤ ev.f ∧ ev.f ≤ 9223372036854775807) (hu : Own 2 u (ev.ks.flatMap kC) ev.ks.length) (hks : ∀ x ∈ ev.ks, (-9223372036854775808 ≤ x.1 ∧ x.1 ≤ 9223372036854775807) ∧ (-9223372036854775808 ≤ x.2 ∧ x.2 ≤ 9223372036854775807)) : EmOk (emU ev u) :=
  ⟨hk, hb, ht, hf, hks, hu.le, hu.max, .inl ⟨rfl, hu.sees⟩⟩

set_option maxRecDepth 100000 in
set_option maxHeartbeats 1000000 in
theorem sc_event (br : Nat) (l : List UInt8) (e : Nat) (hl : l.length ≤ 140737488350000) (he : e ≤ 1000) :
    Ct Try.prog 85 [.pointer (some ⟨br, 0, none⟩)] [] [(some br, .cells #[.string (bs l), .int .i64 ((e : Nat) : Int)] 169 (0, 0))] fun v post => ∃ m l1 e1, v = .agg (evC m).toArray ∧ EmOk m ∧ l1.length ≤ l.length ∧ e1 ≤ 1000 ∧ EvR l e m.v l1 e1 ∧ post = [(some br, .cells #[.string (bs l1), .int .i64 ((e1 : Nat) : Int)] 169 (0, 0)), evK m] := by
 obtain ⟨n, l0, e0, h0⟩ : ∃ n l0 e0, rdInt 3 l e = (n, l0, e0) := ⟨_, _, _, rfl⟩
 obtain ⟨tt, l1, e1, h1⟩ : ∃ n l0_ e0_, rdNum l0 e0 = (n, l0_, e0_) := ⟨_, _, _, rfl⟩
 obtain ⟨s, l2, e2, h2⟩ : ∃ n l0_ e0_, rdStr 600 l1 e1 = (n, l0_, e0_) := ⟨_, _, _, rfl⟩
 obtain ⟨z, l3, e3, h3⟩ : ∃ n l0_ e0_, rdInt 1099511627776 l2 e2 = (n, l0_, e0_) := ⟨_, _, _, rfl⟩
 have r0 := rdg_int 3 l e he (by omega)
 have m0 := (rdInt_bd 3 l e he (by omega)).1
 rw [h0] at r0 m0
 have a0 := r0.len
 have c0 := r0.err
 have r1 := rdg_num l0 e0 c0
 have m1 := (rdNum_bd l0 e0 c0).1
 rw [h1] at r1 m1
 have a1 := r1.len
 have c1 := r1.err
 have r2 := rdg_str 600 l1 e1 c1 (by omega)
 have m2 := (rdStr_bd 600 l1 e1 c1 (by omega)).1
 rw [h2] at r2 m2
 have a2 := r2.len
 have c2 := r2.err
 have r3 := rdg_int 1099511627776 l2 e2 c2 (by omega)
 have m3 := (rdInt_bd 1099511627776 l2 e2 c2 (by omega)).1
 rw [h3] at r3 m3
 have a3 := r3.len
 have c3 := r3.err
 simp only at a0 c0 m0 r0 a1 c1 m1 r1 a2 c2 m2 r2 a3 c3 m3 r3
 refine ct_of Try.func85 rfl rfl (fun w0 => ?_)
 show G _ _ [(0, _)] _ _
 refine G_seq ?_
 refine G_region (l := [0]) rfl ?_
 refine G_new rfl rfl rfl rfl (N_allocA rfl infScriptY_58 rfl) (fun b2 => ?_)
 refine G_done ?_
 refine G_seq ?_
 refine G_region (l := [0, 1, 2, 3, 4]) rfl ?_
 refine G_val rfl rfl rfl rfl (V_move rfl rfl) ?_
 refine G_call (L2 := [_]) rfl rfl rfl rfl rfl rfl Try.call84 ((rd_int br l e 3 (by omega) he (by omega)).weaken (fun v post h => by rw [h0] at h; exact h)) [1] [] rfl rfl ?_
 rintro v post ⟨rfl, rfl⟩
 show G _ _ _ [_, _] _
 refine G_val rfl rfl rfl rfl (V_buildS (cs := [_, _, _, _, _]) rfl Try.underlying58 infScriptY_58 rfl plcScriptY_58 rfl rfl rfl) ?_
 refine G_new rfl rfl rfl rfl (N_allocA rfl infScriptY_58 rfl) (fun b3 => ?_)
 refine G_put (l1 := []) (L' := [_, _, _]) rfl rfl rfl rfl (P_storeA (s := 5) rfl rfl rfl (mem_at 0 rfl) (by first | rfl | (simp [bcells_length, evC, evV, kC, evS, Sl.v]; done) | (simp [bcells_length, evC, evV, kC, evS, Sl.v]; omega) | (simp [bcells_length, *, evC, evV, kC, evS, Sl.v]; done)) infScriptY_58 rfl (by first | rfl | (simp [bcells_length, evC, evV, kC, evS, Sl.v]; done) | (simp [bcells_length, evC, evV, kC, evS, Sl.v]; omega) | (simp [bcells_length, *, evC, evV, kC, evS, Sl.v]; done)) (by first | rfl | exact bcells_all _ | (simp [Value.oneCell', evC, evV, kC, evS, Sl.v]; done) | (simp [Value.oneCell', *, evC, evV, kC, evS, Sl.v]; done))) rfl ?_
 refine G_done ?_
 refine G_seq ?_
 refine G_seq ?_
 rcases (by omega : n = 0 ∨ n = 1 ∨ n = 2 ∨ n = 3) with hn | hn | hn | hn
 · skip
   refine G_region (l := [0, 1, 2, 3]) rfl ?_
   refine G_val rfl rfl rfl rfl (V_fieldAddr (fo := 0) rfl Try.underlying58 rfl infScriptY_3 rfl rfl rfl) ?_
   refine G_val rfl rfl rfl rfl (V_load1 rfl rfl (mem_at 0 rfl) rfl Try.underlying3 rfl) ?_
   refine G_call (L2 := [_, _, _]) rfl rfl rfl rfl rfl rfl Try.call75 ((sc_fields (n : Int)).weaken (fun v post h => by rw [fldn0 hn] at h; exact h)) [] [] rfl rfl ?_
   rintro v post ⟨rfl, rfl⟩
   show G _ _ _ [_, _, _] _
   refine G_new rfl rfl rfl rfl (N_range rfl Try.underlying9 rfl) (fun b12 => ?_)
   refine G_done ?_
   refine G_block ?_
   refine G_loop1 ?_
   refine G_seq ?_
   refine G_region (l := [0, 1]) rfl ?_
   refine G_val rfl rfl rfl rfl (V_nextE (i := 0) rfl rfl (mem_at 0 rfl) (by decide)) ?_
   refine G_val rfl rfl rfl rfl (V_extract rfl rfl rfl) ?_
   refine G_done ?_
   refine G_seq ?_
   refine G_else rfl ?_
   refine G_exit rfl ?_
   refine G_seq ?_
   refine G_addNone (.cells #[] 151 (0, 0)) ?_
   refine G_region (l := [0, 1]) rfl ?_
   first
     | refine G_val rfl rfl rfl rfl (V_loadW (s := 5) rfl rfl (mem_at 2 rfl) Try.underlying58 rfl infScriptY_58 rfl (by first | rfl | (simp [bcells_length, evC, evV, kC, evS, Sl.v]; done) | (simp [bcells_length, evC, evV, kC, evS, Sl.v]; omega) | (simp [bcells_length, *, evC, evV, kC, evS, Sl.v]; done))) ?_
     | refine G_val rfl rfl rfl rfl (V_loadA (s := 5) rfl rfl (mem_at 2 rfl) Try.underlying58 rfl infScriptY_58 rfl rfl (by first | rfl | (simp [bcells_length, evC, evV, kC, evS, Sl.v]; done) | (simp [bcells_length, evC, evV, kC, evS, Sl.v]; omega) | (simp [bcells_length, *, evC, evV, kC, evS, Sl.v]; done))) ?_
   refine G_put (l1 := [_, _, _, _]) (L' := [_, _, _, _, _]) rfl rfl rfl rfl (P_storeA (s := 5) rfl rfl rfl (mem_at 4 rfl) (by first | rfl | (simp [bcells_length, evC, evV, kC, evS, Sl.v]; done) | (simp [bcells_length, evC, evV, kC, evS, Sl.v]; omega) | (simp [bcells_length, *, evC, evV, kC, evS, Sl.v]; done)) infScriptY_58 rfl (by first | rfl | (simp [bcells_length, evC, evV, kC, evS, Sl.v]; done) | (simp [bcells_length, evC, evV, kC, evS, Sl.v]; omega) | (simp [bcells_length, *, evC, evV, kC, evS, Sl.v]; done)) (by first | rfl | exact bcells_all _ | (simp [Value.oneCell', evC, evV, kC, evS, Sl.v]; done) | (simp [Value.oneCell', *, evC, evV, kC, evS, Sl.v]; done))) rfl ?_
   refine G_done ?_
   refine G_ret (post := [_, _]) Try.func85 rfl (RVs_cons (RV_cell (s := 5) rfl (mem_at 4 rfl) Try.underlying58 rfl infScriptY_58 rfl (by first | rfl | (simp [bcells_length, evC, evV, kC, evS, Sl.v]; done) | (simp [bcells_length, evC, evV, kC, evS, Sl.v]; omega) | (simp [bcells_length, *, evC, evV, kC, evS, Sl.v]; done))) RVs_nil) [3, 0] rfl ?_
   dsimp only [packed]
   first
     | exact ⟨emU ⟨3, s, tt, (z : Int) - 1, ks⟩ u, l4, e4, by subst hn; rfl, emU_ok (by simp) (by show s.length ≤ _; omega) m1 (by show _ ≤ (z : Int) - 1 ∧ (z : Int) - 1 ≤ _; omega) hu (goodK_bd hgs), by have := r4.len; omega, r4.err, .inl (ev3 r0 hn r1 r2 r3 r4), rfl⟩
     | exact ⟨emN ⟨1, s, tt, 0, []⟩, l2, e2, by subst hn; rfl, emN_ok (by simp) (by show s.length ≤ _; omega) m1 (by simp) rfl, by omega, c2, .inl (ev1 r0 hn r1 r2), rfl⟩
     | exact ⟨emN ⟨2, [], tt, 0, []⟩, l1, e1, by subst hn; rfl, emN_ok (by simp) (by simp) m1 (by simp) rfl, by omega, c1, .inl (ev2 r0 hn r1), rfl⟩
     | exact ⟨emN ⟨0, [], 0, 0, []⟩, l0, e0, by subst hn; rfl, emN_ok (by decide) (by decide) (by decide) (by decide) rfl, a0, c0, .inr ⟨rfl, ev0 r0 hn⟩, rfl⟩
 · skip
   refine G_region (l := [0, 1, 2, 3]) rfl ?_
   refine G_val rfl rfl rfl rfl (V_fieldAddr (fo := 0) rfl Try.underlying58 rfl infScriptY_3 rfl rfl rfl) ?_
   refine G_val rfl rfl rfl rfl (V_load1 rfl rfl (mem_at 0 rfl) rfl Try.underlying3 rfl) ?_
   refine G_call (L2 := [_, _, _]) rfl rfl rfl rfl rfl rfl Try.call75 ((sc_fields (n : Int)).weaken (fun v post h => by rw [fldn1 hn] at h; exact h)) [] [] rfl rfl ?_
   rintro v post ⟨rfl, rfl⟩
   show G _ _ _ [_, _, _] _
   refine G_new rfl rfl rfl rfl (N_range rfl Try.underlying9 rfl) (fun b12 => ?_)
   refine G_done ?_
   refine G_block ?_
   refine G_loop1 ?_
   refine G_seq ?_
   refine G_region (l := [0, 1]) rfl ?_
   refine G_putV (l1 := []) (L' := [_, _, _, _]) rfl rfl rfl rfl rfl (P_next (i := 0) rfl rfl (mem_at 0 rfl) (by decide) (by decide)) rfl ?_
   refine G_val rfl rfl rfl rfl (V_extract rfl rfl rfl) ?_
   refine G_done ?_
   refine G_seq ?_
   refine G_then rfl ?_
   refine G_skip ?_
   refine G_block ?_
   refine G_seq ?_
   refine G_region (l := [0, 1]) rfl ?_
   refine G_val rfl rfl rfl rfl (V_extract rfl rfl rfl) ?_
   refine G_val rfl rfl rfl rfl (V_assign rfl rfl) ?_
   refine G_done ?_
   refine G_seq ?_
   refine G_region (l := [0]) rfl ?_
   refine G_val rfl rfl rfl rfl (V_move rfl rfl) ?_
   refine G_done ?_
   refine G_block ?_
   refine G_seq ?_
   refine G_region (l := [0, 1]) rfl ?_
   refine G_val rfl rfl rfl rfl (V_eql rfl rfl rfl) ?_
   refine G_val rfl rfl rfl rfl (V_assign rfl rfl) ?_
   refine G_done ?_
   refine G_ifD rfl (fun hc1 => ?_) (fun hc1 => ?_)
   rotate_left
   · (first | contradiction | (exact absurd rfl hc1) | (exfalso; omega) | (simp at hc1; done) | (exact absurd hc1 (by decide)) | (exact absurd (by decide) hc1))
   refine G_region (l := [0, 1, 2, 3]) rfl ?_
   refine G_val rfl rfl rfl rfl (V_move rfl rfl) ?_
   refine G_call (L2 := [_, _, _]) rfl rfl rfl rfl rfl rfl Try.call133 ((rd_num br l0 e0 (by omega) (by omega)).weaken (fun v post h => by rw [h1] at h; exact h)) [2] [] rfl rfl ?_
   rintro v post ⟨rfl, rfl⟩
   show G _ _ _ [_, _, _, _] _
   refine G_val rfl rfl rfl rfl (V_fieldAddr (fo := 2) rfl Try.underlying58 rfl infScriptY_23 rfl rfl rfl) ?_
   refine G_put (l1 := [_, _]) (L' := [_, _, _, _]) rfl rfl rfl rfl (P_store1 rfl rfl rfl (mem_at 2 rfl) (by first | exact of_decide_eq_true rfl | omega | (simp [evC, evV, kC, evS, Sl.v]; done) | (simp [evC, evV, kC, evS, Sl.v]; omega) | (simp [evC, evV, kC, evS, Sl.v] at *; omega)) infScriptY_23 rfl rfl) rfl ?_
   rw [set5_2]
   refine G_done ?_
   refine G_inBlock ?_
   refine G_inBlock ?_
   refine G_again ?_
   refine G_seq ?_
   refine G_region (l := [0, 1]) rfl ?_
   refine G_putV (l1 := [_]) (L' := [_, _, _, _]) rfl rfl rfl rfl rfl (P_next (i := 1) rfl rfl (mem_at 1 rfl) (by decide) (by decide)) rfl ?_
   refine G_val rfl rfl rfl rfl (V_extract rfl rfl rfl) ?_
   refine G_done ?_
   refine G_seq ?_
   refine G_then rfl ?_
   refine G_skip ?_
   refine G_block ?_
   refine G_seq ?_
   refine G_region (l := [0, 1]) rfl ?_
   refine G_val rfl rfl rfl rfl (V_extract rfl rfl rfl) ?_
   refine G_val rfl rfl rfl rfl (V_assign rfl rfl) ?_
   refine G_done ?_
   refine G_seq ?_
   refine G_region (l := [0]) rfl ?_
   refine G_val rfl rfl rfl rfl (V_move rfl rfl) ?_
   refine G_done ?_
   refine G_block ?_
   refine G_seq ?_
   refine G_region (l := [0, 1]) rfl ?_
   refine G_val rfl rfl rfl rfl (V_eql rfl rfl rfl) ?_
   refine G_val rfl rfl rfl rfl (V_assign rfl rfl) ?_
   refine G_done ?_
   refine G_ifD rfl (fun hc2 => ?_) (fun hc2 => ?_)
   · (first | contradiction | (exact absurd rfl hc2) | (exfalso; omega) | (simp at hc2; done) | (exact absurd hc2 (by decide)) | (exact absurd (by decide) hc2))
   refine G_seq ?_
   refine G_region (l := [0, 1]) rfl ?_
   refine G_val rfl rfl rfl rfl (V_eql rfl rfl rfl) ?_
   refine G_val rfl rfl rfl rfl (V_assign rfl rfl) ?_
   refine G_done ?_
   refine G_ifD rfl (fun hc3 => ?_) (fun hc3 => ?_)
   rotate_left
   · (first | contradiction | (exact absurd rfl hc3) | (exfalso; omega) | (simp at hc3; done) | (exact absurd hc3 (by decide)) | (exact absurd (by decide) hc3))
   refine G_region (l := [0, 1, 2, 3]) rfl ?_
   refine G_val rfl rfl rfl rfl (V_move rfl rfl) ?_
   refine G_call (L2 := [_, _, _]) rfl rfl rfl rfl rfl rfl Try.call134 ((rd_str br l1 e1 600 (by omega) (by omega) (by omega)).weaken (fun v post h => by rw [h2] at h; exact h)) [0] [] rfl rfl ?_
   rintro v post ⟨rfl, rfl⟩
   show G _ _ _ [_, _, _, _] _
   refine G_val rfl rfl rfl rfl (V_fieldAddr (fo := 1) rfl Try.underlying58 rfl infScriptY_9 rfl rfl rfl) ?_
   refine G_put (l1 := [_, _]) (L' := [_, _, _, _]) rfl rfl rfl rfl (P_store1 rfl rfl rfl (mem_at 2 rfl) (by first | exact of_decide_eq_true rfl | omega | (simp [evC, evV, kC, evS, Sl.v]; done) | (simp [evC, evV, kC, evS, Sl.v]; omega) | (simp [evC, evV, kC, evS, Sl.v] at *; omega)) infScriptY_9 rfl rfl) rfl ?_
   rw [set5_1]
   refine G_done ?_
   refine G_inBlock ?_
   refine G_inBlock ?_
   refine G_again ?_
   refine G_seq ?_
   refine G_region (l := [0, 1]) rfl ?_
   refine G_val rfl rfl rfl rfl (V_nextE (i := 2) rfl rfl (mem_at 1 rfl) (by decide)) ?_
   refine G_val rfl rfl rfl rfl (V_extract rfl rfl rfl) ?_
   refine G_done ?_
   refine G_seq ?_
   refine G_else rfl ?_
   refine G_exit rfl ?_
   refine G_seq ?_
   refine G_addNone (.cells #[] 151 (0, 0)) ?_
   refine G_region (l := [0, 1]) rfl ?_
   first
     | refine G_val rfl rfl rfl rfl (V_loadW (s := 5) rfl rfl (mem_at 3 rfl) Try.underlying58 rfl infScriptY_58 rfl (by first | rfl | (simp [bcells_length, evC, evV, kC, evS, Sl.v]; done) | (simp [bcells_length, evC, evV, kC, evS, Sl.v]; omega) | (simp [bcells_length, *, evC, evV, kC, evS, Sl.v]; done))) ?_
     | refine G_val rfl rfl rfl rfl (V_loadA (s := 5) rfl rfl (mem_at 3 rfl) Try.underlying58 rfl infScriptY_58 rfl rfl (by first | rfl | (simp [bcells_length, evC, evV, kC, evS, Sl.v]; done) | (simp [bcells_length, evC, evV, kC, evS, Sl.v]; omega) | (simp [bcells_length, *, evC, evV, kC, evS, Sl.v]; done))) ?_
   refine G_put (l1 := [_, _, _, _]) (L' := [_, _, _, _, _]) rfl rfl rfl rfl (P_storeA (s := 5) rfl rfl rfl (mem_at 4 rfl) (by first | rfl | (simp [bcells_length, evC, evV, kC, evS, Sl.v]; done) | (simp [bcells_length, evC, evV, kC, evS, Sl.v]; omega) | (simp [bcells_length, *, evC, evV, kC, evS, Sl.v]; done)) infScriptY_58 rfl (by first | rfl | (simp [bcells_length, evC, evV, kC, evS, Sl.v]; done) | (simp [bcells_length, evC, evV, kC, evS, Sl.v]; omega) | (simp [bcells_length, *, evC, evV, kC, evS, Sl.v]; done)) (by first | rfl | exact bcells_all _ | (simp [Value.oneCell', evC, evV, kC, evS, Sl.v]; done) | (simp [Value.oneCell', *, evC, evV, kC, evS, Sl.v]; done))) rfl ?_
   refine G_done ?_
   refine G_ret (post := [_, _]) Try.func85 rfl (RVs_cons (RV_cell (s := 5) rfl (mem_at 4 rfl) Try.underlying58 rfl infScriptY_58 rfl (by first | rfl | (simp [bcells_length, evC, evV, kC, evS, Sl.v]; done) | (simp [bcells_length, evC, evV, kC, evS, Sl.v]; omega) | (simp [bcells_length, *, evC, evV, kC, evS, Sl.v]; done))) RVs_nil) [1, 0] rfl ?_
   dsimp only [packed]
   first
     | exact ⟨emU ⟨3, s, tt, (z : Int) - 1, ks⟩ u, l4, e4, by subst hn; rfl, emU_ok (by simp) (by show s.length ≤ _; omega) m1 (by show _ ≤ (z : Int) - 1 ∧ (z : Int) - 1 ≤ _; omega) hu (goodK_bd hgs), by have := r4.len; omega, r4.err, .inl (ev3 r0 hn r1 r2 r3 r4), rfl⟩
     | exact ⟨emN ⟨1, s, tt, 0, []⟩, l2, e2, by subst hn; rfl, emN_ok (by simp) (by show s.length ≤ _; omega) m1 (by simp) rfl, by omega, c2, .inl (ev1 r0 hn r1 r2), rfl⟩
     | exact ⟨emN ⟨2, [], tt, 0, []⟩, l1, e1, by subst hn; rfl, emN_ok (by simp) (by simp) m1 (by simp) rfl, by omega, c1, .inl (ev2 r0 hn r1), rfl⟩
     | exact ⟨emN ⟨0, [], 0, 0, []⟩, l0, e0, by subst hn; rfl, emN_ok (by decide) (by decide) (by decide) (by decide) rfl, a0, c0, .inr ⟨rfl, ev0 r0 hn⟩, rfl⟩
 · skip
   refine G_region (l := [0, 1, 2, 3]) rfl ?_
   refine G_val rfl rfl rfl rfl (V_fieldAddr (fo := 0) rfl Try.underlying58 rfl infScriptY_3 rfl rfl rfl) ?_
   refine G_val rfl rfl rfl rfl (V_load1 rfl rfl (mem_at 0 rfl) rfl Try.underlying3 rfl) ?_
   refine G_call (L2 := [_, _, _]) rfl rfl rfl rfl rfl rfl Try.call75 ((sc_fields (n : Int)).weaken (fun v post h => by rw [fldn2 hn] at h; exact h)) [] [] rfl rfl ?_
   rintro v post ⟨rfl, rfl⟩
   show G _ _ _ [_, _, _] _
   refine G_new rfl rfl rfl rfl (N_range rfl Try.underlying9 rfl) (fun b12 => ?_)
   refine G_done ?_
   refine G_block ?_
   refine G_loop1 ?_
   refine G_seq ?_
   refine G_region (l := [0, 1]) rfl ?_
   refine G_putV (l1 := []) (L' := [_, _, _, _]) rfl rfl rfl rfl rfl (P_next (i := 0) rfl rfl (mem_at 0 rfl) (by decide) (by decide)) rfl ?_
   refine G_val rfl rfl rfl rfl (V_extract rfl rfl rfl) ?_
   refine G_done ?_
   refine G_seq ?_
   refine G_then rfl ?_
   refine G_skip ?_
   refine G_block ?_
   refine G_seq ?_
   refine G_region (l := [0, 1]) rfl ?_
   refine G_val rfl rfl rfl rfl (V_extract rfl rfl rfl) ?_
   refine G_val rfl rfl rfl rfl (V_assign rfl rfl) ?_
   refine G_done ?_
   refine G_seq ?_
   refine G_region (l := [0]) rfl ?_
   refine G_val rfl rfl rfl rfl (V_move rfl rfl) ?_
   refine G_done ?_
   refine G_block ?_
   refine G_seq ?_
   refine G_region (l := [0, 1]) rfl ?_
   refine G_val rfl rfl rfl rfl (V_eql rfl rfl rfl) ?_
   refine G_val rfl rfl rfl rfl (V_assign rfl rfl) ?_
   refine G_done ?_
   refine G_ifD rfl (fun hc1 => ?_) (fun hc1 => ?_)
   rotate_left
   · (first | contradiction | (exact absurd rfl hc1) | (exfalso; omega) | (simp at hc1; done) | (exact absurd hc1 (by decide)) | (exact absurd (by decide) hc1))
   refine G_region (l := [0, 1, 2, 3]) rfl ?_
   refine G_val rfl rfl rfl rfl (V_move rfl rfl) ?_
   refine G_call (L2 := [_, _, _]) rfl rfl rfl rfl rfl rfl Try.call133 ((rd_num br l0 e0 (by omega) (by omega)).weaken (fun v post h => by rw [h1] at h; exact h)) [2] [] rfl rfl ?_
   rintro v post ⟨rfl, rfl⟩
   show G _ _ _ [_, _, _, _] _
   refine G_val rfl rfl rfl rfl (V_fieldAddr (fo := 2) rfl Try.underlying58 rfl infScriptY_23 rfl rfl rfl) ?_
   refine G_put (l1 := [_, _]) (L' := [_, _, _, _]) rfl rfl rfl rfl (P_store1 rfl rfl rfl (mem_at 2 rfl) (by first | exact of_decide_eq_true rfl | omega | (simp [evC, evV, kC, evS, Sl.v]; done) | (simp [evC, evV, kC, evS, Sl.v]; omega) | (simp [evC, evV, kC, evS, Sl.v] at *; omega)) infScriptY_23 rfl rfl) rfl ?_
   rw [set5_2]
   refine G_done ?_
   refine G_inBlock ?_
   refine G_inBlock ?_
   refine G_again ?_
   refine G_seq ?_
   refine G_region (l := [0, 1]) rfl ?_
   refine G_val rfl rfl rfl rfl (V_nextE (i := 1) rfl rfl (mem_at 1 rfl) (by decide)) ?_
   refine G_val rfl rfl rfl rfl (V_extract rfl rfl rfl) ?_
   refine G_done ?_
   refine G_seq ?_
   refine G_else rfl ?_
   refine G_exit rfl ?_
   refine G_seq ?_
   refine G_addNone (.cells #[] 151 (0, 0)) ?_
   refine G_region (l := [0, 1]) rfl ?_
   first
     | refine G_val rfl rfl rfl rfl (V_loadW (s := 5) rfl rfl (mem_at 3 rfl) Try.underlying58 rfl infScriptY_58 rfl (by first | rfl | (simp [bcells_length, evC, evV, kC, evS, Sl.v]; done) | (simp [bcells_length, evC, evV, kC, evS, Sl.v]; omega) | (simp [bcells_length, *, evC, evV, kC, evS, Sl.v]; done))) ?_
     | refine G_val rfl rfl rfl rfl (V_loadA (s := 5) rfl rfl (mem_at 3 rfl) Try.underlying58 rfl infScriptY_58 rfl rfl (by first | rfl | (simp [bcells_length, evC, evV, kC, evS, Sl.v]; done) | (simp [bcells_length, evC, evV, kC, evS, Sl.v]; omega) | (simp [bcells_length, *, evC, evV, kC, evS, Sl.v]; done))) ?_
   refine G_put (l1 := [_, _, _, _]) (L' := [_, _, _, _, _]) rfl rfl rfl rfl (P_storeA (s := 5) rfl rfl rfl (mem_at 4 rfl) (by first | rfl | (simp [bcells_length, evC, evV, kC, evS, Sl.v]; done) | (simp [bcells_length, evC, evV, kC, evS, Sl.v]; omega) | (simp [bcells_length, *, evC, evV, kC, evS, Sl.v]; done)) infScriptY_58 rfl (by first | rfl | (simp [bcells_length, evC, evV, kC, evS, Sl.v]; done) | (simp [bcells_length, evC, evV, kC, evS, Sl.v]; omega) | (simp [bcells_length, *, evC, evV, kC, evS, Sl.v]; done)) (by first | rfl | exact bcells_all _ | (simp [Value.oneCell', evC, evV, kC, evS, Sl.v]; done) | (simp [Value.oneCell', *, evC, evV, kC, evS, Sl.v]; done))) rfl ?_
   refine G_done ?_
   refine G_ret (post := [_, _]) Try.func85 rfl (RVs_cons (RV_cell (s := 5) rfl (mem_at 4 rfl) Try.underlying58 rfl infScriptY_58 rfl (by first | rfl | (simp [bcells_length, evC, evV, kC, evS, Sl.v]; done) | (simp [bcells_length, evC, evV, kC, evS, Sl.v]; omega) | (simp [bcells_length, *, evC, evV, kC, evS, Sl.v]; done))) RVs_nil) [1, 0] rfl ?_
   dsimp only [packed]
   first
     | exact ⟨emU ⟨3, s, tt, (z : Int) - 1, ks⟩ u, l4, e4, by subst hn; rfl, emU_ok (by simp) (by show s.length ≤ _; omega) m1 (by show _ ≤ (z : Int) - 1 ∧ (z : Int) - 1 ≤ _; omega) hu (goodK_bd hgs), by have := r4.len; omega, r4.err, .inl (ev3 r0 hn r1 r2 r3 r4), rfl⟩
     | exact ⟨emN ⟨1, s, tt, 0, []⟩, l2, e2, by subst hn; rfl, emN_ok (by simp) (by show s.length ≤ _; omega) m1 (by simp) rfl, by omega, c2, .inl (ev1 r0 hn r1 r2), rfl⟩
     | exact ⟨emN ⟨2, [], tt, 0, []⟩, l1, e1, by subst hn; rfl, emN_ok (by simp) (by simp) m1 (by simp) rfl, by omega, c1, .inl (ev2 r0 hn r1), rfl⟩
     | exact ⟨emN ⟨0, [], 0, 0, []⟩, l0, e0, by subst hn; rfl, emN_ok (by decide) (by decide) (by decide) (by decide) rfl, a0, c0, .inr ⟨rfl, ev0 r0 hn⟩, rfl⟩
 · skip
   refine G_region (l := [0, 1, 2, 3]) rfl ?_
   refine G_val rfl rfl rfl rfl (V_fieldAddr (fo := 0) rfl Try.underlying58 rfl infScriptY_3 rfl rfl rfl) ?_
   refine G_val rfl rfl rfl rfl (V_load1 rfl rfl (mem_at 0 rfl) rfl Try.underlying3 rfl) ?_
   refine G_call (L2 := [_, _, _]) rfl rfl rfl rfl rfl rfl Try.call75 ((sc_fields (n : Int)).weaken (fun v post h => by rw [fldn3 hn] at h; exact h)) [] [] rfl rfl ?_
   rintro v post ⟨rfl, rfl⟩
   show G _ _ _ [_, _, _] _
   refine G_new rfl rfl rfl rfl (N_range rfl Try.underlying9 rfl) (fun b12 => ?_)
   refine G_done ?_
   refine G_block ?_
   refine G_loop1 ?_
   refine G_seq ?_
   refine G_region (l := [0, 1]) rfl ?_
   refine G_putV (l1 := []) (L' := [_, _, _, _]) rfl rfl rfl rfl rfl (P_next (i := 0) rfl rfl (mem_at 0 rfl) (by decide) (by decide)) rfl ?_
   refine G_val rfl rfl rfl rfl (V_extract rfl rfl rfl) ?_
   refine G_done ?_
   refine G_seq ?_
   refine G_then rfl ?_
   refine G_skip ?_
   refine G_block ?_
   refine G_seq ?_
   refine G_region (l := [0, 1]) rfl ?_
   refine G_val rfl rfl rfl rfl (V_extract rfl rfl rfl) ?_
   refine G_val rfl rfl rfl rfl (V_assign rfl rfl) ?_
   refine G_done ?_
   refine G_seq ?_
   refine G_region (l := [0]) rfl ?_
   refine G_val rfl rfl rfl rfl (V_move rfl rfl) ?_
   refine G_done ?_
   refine G_block ?_
   refine G_seq ?_
   refine G_region (l := [0, 1]) rfl ?_
   refine G_val rfl rfl rfl rfl (V_eql rfl rfl rfl) ?_
   refine G_val rfl rfl rfl rfl (V_assign rfl rfl) ?_
   refine G_done ?_
   refine G_ifD rfl (fun hc1 => ?_) (fun hc1 => ?_)
   rotate_left
   · (first | contradiction | (exact absurd rfl hc1) | (exfalso; omega) | (simp at hc1; done) | (exact absurd hc1 (by decide)) | (exact absurd (by decide) hc1))
   refine G_region (l := [0, 1, 2, 3]) rfl ?_
   refine G_val rfl rfl rfl rfl (V_move rfl rfl) ?_
   refine G_call (L2 := [_, _, _]) rfl rfl rfl rfl rfl rfl Try.call133 ((rd_num br l0 e0 (by omega) (by omega)).weaken (fun v post h => by rw [h1] at h; exact h)) [2] [] rfl rfl ?_
   rintro v post ⟨rfl, rfl⟩
   show G _ _ _ [_, _, _, _] _
   refine G_val rfl rfl rfl rfl (V_fieldAddr (fo := 2) rfl Try.underlying58 rfl infScriptY_23 rfl rfl rfl) ?_
   refine G_put (l1 := [_, _]) (L' := [_, _, _, _]) rfl rfl rfl rfl (P_store1 rfl rfl rfl (mem_at 2 rfl) (by first | exact of_decide_eq_true rfl | omega | (simp [evC, evV, kC, evS, Sl.v]; done) | (simp [evC, evV, kC, evS, Sl.v]; omega) | (simp [evC, evV, kC, evS, Sl.v] at *; omega)) infScriptY_23 rfl rfl) rfl ?_
   rw [set5_2]
   refine G_done ?_
   refine G_inBlock ?_
   refine G_inBlock ?_
   refine G_again ?_
   refine G_seq ?_
   refine G_region (l := [0, 1]) rfl ?_
   refine G_putV (l1 := [_]) (L' := [_, _, _, _]) rfl rfl rfl rfl rfl (P_next (i := 1) rfl rfl (mem_at 1 rfl) (by decide) (by decide)) rfl ?_
   refine G_val rfl rfl rfl rfl (V_extract rfl rfl rfl) ?_
   refine G_done ?_
   refine G_seq ?_
   refine G_then rfl ?_
   refine G_skip ?_
   refine G_block ?_
   refine G_seq ?_
   refine G_region (l := [0, 1]) rfl ?_
   refine G_val rfl rfl rfl rfl (V_extract rfl rfl rfl) ?_
   refine G_val rfl rfl rfl rfl (V_assign rfl rfl) ?_
   refine G_done ?_
   refine G_seq ?_
   refine G_region (l := [0]) rfl ?_
   refine G_val rfl rfl rfl rfl (V_move rfl rfl) ?_
   refine G_done ?_
   refine G_block ?_
   refine G_seq ?_
   refine G_region (l := [0, 1]) rfl ?_
   refine G_val rfl rfl rfl rfl (V_eql rfl rfl rfl) ?_
   refine G_val rfl rfl rfl rfl (V_assign rfl rfl) ?_
   refine G_done ?_
   refine G_ifD rfl (fun hc2 => ?_) (fun hc2 => ?_)
   · (first | contradiction | (exact absurd rfl hc2) | (exfalso; omega) | (simp at hc2; done) | (exact absurd hc2 (by decide)) | (exact absurd (by decide) hc2))
   refine G_seq ?_
   refine G_region (l := [0, 1]) rfl ?_
   refine G_val rfl rfl rfl rfl (V_eql rfl rfl rfl) ?_
   refine G_val rfl rfl rfl rfl (V_assign rfl rfl) ?_
   refine G_done ?_
   refine G_ifD rfl (fun hc3 => ?_) (fun hc3 => ?_)
   rotate_left
   · (first | contradiction | (exact absurd rfl hc3) | (exfalso; omega) | (simp at hc3; done) | (exact absurd hc3 (by decide)) | (exact absurd (by decide) hc3))
   refine G_region (l := [0, 1, 2, 3]) rfl ?_
   refine G_val rfl rfl rfl rfl (V_move rfl rfl) ?_
   refine G_call (L2 := [_, _, _]) rfl rfl rfl rfl rfl rfl Try.call134 ((rd_str br l1 e1 600 (by omega) (by omega) (by omega)).weaken (fun v post h => by rw [h2] at h; exact h)) [0] [] rfl rfl ?_
   rintro v post ⟨rfl, rfl⟩
   show G _ _ _ [_, _, _, _] _
   refine G_val rfl rfl rfl rfl (V_fieldAddr (fo := 1) rfl Try.underlying58 rfl infScriptY_9 rfl rfl rfl) ?_
   refine G_put (l1 := [_, _]) (L' := [_, _, _, _]) rfl rfl rfl rfl (P_store1 rfl rfl rfl (mem_at 2 rfl) (by first | exact of_decide_eq_true rfl | omega | (simp [evC, evV, kC, evS, Sl.v]; done) | (simp [evC, evV, kC, evS, Sl.v]; omega) | (simp [evC, evV, kC, evS, Sl.v] at *; omega)) infScriptY_9 rfl rfl) rfl ?_
   rw [set5_1]
   refine G_done ?_
   refine G_inBlock ?_
   refine G_inBlock ?_
   refine G_again ?_
   refine G_seq ?_
   refine G_region (l := [0, 1]) rfl ?_
   refine G_putV (l1 := [_]) (L' := [_, _, _, _]) rfl rfl rfl rfl rfl (P_next (i := 2) rfl rfl (mem_at 1 rfl) (by decide) (by decide)) rfl ?_
   refine G_val rfl rfl rfl rfl (V_extract rfl rfl rfl) ?_
   refine G_done ?_
   refine G_seq ?_
   refine G_then rfl ?_
   refine G_skip ?_
   refine G_block ?_
   refine G_seq ?_
   refine G_region (l := [0, 1]) rfl ?_
   refine G_val rfl rfl rfl rfl (V_extract rfl rfl rfl) ?_
   refine G_val rfl rfl rfl rfl (V_assign rfl rfl) ?_
   refine G_done ?_
   refine G_seq ?_
   refine G_region (l := [0]) rfl ?_
   refine G_val rfl rfl rfl rfl (V_move rfl rfl) ?_
   refine G_done ?_
   refine G_block ?_
   refine G_seq ?_
   refine G_region (l := [0, 1]) rfl ?_
   refine G_val rfl rfl rfl rfl (V_eql rfl rfl rfl) ?_
   refine G_val rfl rfl rfl rfl (V_assign rfl rfl) ?_
   refine G_done ?_
   refine G_ifD rfl (fun hc4 => ?_) (fun hc4 => ?_)
   · (first | contradiction | (exact absurd rfl hc4) | (exfalso; omega) | (simp at hc4; done) | (exact absurd hc4 (by decide)) | (exact absurd (by decide) hc4))
   refine G_seq ?_
   refine G_region (l := [0, 1]) rfl ?_
   refine G_val rfl rfl rfl rfl (V_eql rfl rfl rfl) ?_
   refine G_val rfl rfl rfl rfl (V_assign rfl rfl) ?_
   refine G_done ?_
   refine G_ifD rfl (fun hc5 => ?_) (fun hc5 => ?_)
   · (first | contradiction | (exact absurd rfl hc5) | (exfalso; omega) | (simp at hc5; done) | (exact absurd hc5 (by decide)) | (exact absurd (by decide) hc5))
   refine G_seq ?_
   refine G_region (l := [0, 1]) rfl ?_
   refine G_val rfl rfl rfl rfl (V_eql rfl rfl rfl) ?_
   refine G_val rfl rfl rfl rfl (V_assign rfl rfl) ?_
   refine G_done ?_
   refine G_ifD rfl (fun hc6 => ?_) (fun hc6 => ?_)
   rotate_left
   · (first | contradiction | (exact absurd rfl hc6) | (exfalso; omega) | (simp at hc6; done) | (exact absurd hc6 (by decide)) | (exact absurd (by decide) hc6))
   refine G_region (l := [0, 1, 2, 3, 4]) rfl ?_
   refine G_val rfl rfl rfl rfl (V_move rfl rfl) ?_
   refine G_call (L2 := [_, _, _]) rfl rfl rfl rfl rfl rfl Try.call84 ((rd_int br l2 e2 1099511627776 (by omega) (by omega) (by omega)).weaken (fun v post h => by rw [h3] at h; exact h)) [0] [] rfl rfl ?_
   rintro v post ⟨rfl, rfl⟩
   show G _ _ _ [_, _, _, _] _
   first
     | refine G_val rfl rfl rfl rfl ((V_sub rfl rfl rfl).int (wrap_i64 (by omega))) ?_
     | refine G_val rfl rfl rfl rfl (V_sub rfl rfl rfl) ?_
   refine G_val rfl rfl rfl rfl (V_fieldAddr (fo := 3) rfl Try.underlying58 rfl infScriptY_3 rfl rfl rfl) ?_
   refine G_put (l1 := [_, _]) (L' := [_, _, _, _]) rfl rfl rfl rfl (P_store1 rfl rfl rfl (mem_at 2 rfl) (by first | exact of_decide_eq_true rfl | omega | (simp [evC, evV, kC, evS, Sl.v]; done) | (simp [evC, evV, kC, evS, Sl.v]; omega) | (simp [evC, evV, kC, evS, Sl.v] at *; omega)) infScriptY_3 rfl rfl) rfl ?_
   rw [set5_3]
   refine G_done ?_
   refine G_inBlock ?_
   refine G_inBlock ?_
   refine G_again ?_
   refine G_seq ?_
   refine G_region (l := [0, 1]) rfl ?_
   refine G_putV (l1 := [_]) (L' := [_, _, _, _]) rfl rfl rfl rfl rfl (P_next (i := 3) rfl rfl (mem_at 1 rfl) (by decide) (by decide)) rfl ?_
   refine G_val rfl rfl rfl rfl (V_extract rfl rfl rfl) ?_
   refine G_done ?_
   refine G_seq ?_
   refine G_then rfl ?_
   refine G_skip ?_
   refine G_block ?_
   refine G_seq ?_
   refine G_region (l := [0, 1]) rfl ?_
   refine G_val rfl rfl rfl rfl (V_extract rfl rfl rfl) ?_
   refine G_val rfl rfl rfl rfl (V_assign rfl rfl) ?_
   refine G_done ?_
   refine G_seq ?_
   refine G_region (l := [0]) rfl ?_
   refine G_val rfl rfl rfl rfl (V_move rfl rfl) ?_
   refine G_done ?_
   refine G_block ?_
   refine G_seq ?_
   refine G_region (l := [0, 1]) rfl ?_
   refine G_val rfl rfl rfl rfl (V_eql rfl rfl rfl) ?_
   refine G_val rfl rfl rfl rfl (V_assign rfl rfl) ?_
   refine G_done ?_
   refine G_ifD rfl (fun hc7 => ?_) (fun hc7 => ?_)
   · (first | contradiction | (exact absurd rfl hc7) | (exfalso; omega) | (simp at hc7; done) | (exact absurd hc7 (by decide)) | (exact absurd (by decide) hc7))
   refine G_seq ?_
   refine G_region (l := [0, 1]) rfl ?_
   refine G_val rfl rfl rfl rfl (V_eql rfl rfl rfl) ?_
   refine G_val rfl rfl rfl rfl (V_assign rfl rfl) ?_
   refine G_done ?_
   refine G_ifD rfl (fun hc8 => ?_) (fun hc8 => ?_)
   · (first | contradiction | (exact absurd rfl hc8) | (exfalso; omega) | (simp at hc8; done) | (exact absurd hc8 (by decide)) | (exact absurd (by decide) hc8))
   refine G_seq ?_
   refine G_region (l := [0, 1]) rfl ?_
   refine G_val rfl rfl rfl rfl (V_eql rfl rfl rfl) ?_
   refine G_val rfl rfl rfl rfl (V_assign rfl rfl) ?_
   refine G_done ?_
   refine G_ifD rfl (fun hc9 => ?_) (fun hc9 => ?_)
   · (first | contradiction | (exact absurd rfl hc9) | (exfalso; omega) | (simp at hc9; done) | (exact absurd hc9 (by decide)) | (exact absurd (by decide) hc9))
   refine G_region (l := [0, 1, 2, 3]) rfl ?_
   refine G_val rfl rfl rfl rfl (V_move rfl rfl) ?_
   refine G_call (L2 := [_, _, _]) rfl rfl rfl rfl rfl rfl Try.call135 (sc_keeps br l3 e3 (by omega) (by omega)) [0] [] rfl rfl ?_
   rintro v post ⟨u, ks, l4, e4, rfl, hu, hkl, hgs, r4, rfl⟩
   show G _ _ _ [_, _, _, _, _] _
   refine G_val rfl rfl rfl rfl (V_fieldAddr (fo := 4) rfl Try.underlying58 rfl infScriptY_56 rfl rfl rfl) ?_
   refine G_put (l1 := [_, _, _]) (L' := [_, _, _, _, _]) rfl rfl rfl rfl (P_store1 rfl rfl rfl (mem_at 3 rfl) (by first | exact of_decide_eq_true rfl | omega | (simp [evC, evV, kC, evS, Sl.v]; done) | (simp [evC, evV, kC, evS, Sl.v]; omega) | (simp [evC, evV, kC, evS, Sl.v] at *; omega)) infScriptY_56 rfl rfl) rfl ?_
   rw [set5_4]
   refine G_done ?_
   refine G_inBlock ?_
   refine G_inBlock ?_
   refine G_again ?_
   refine G_seq ?_
   refine G_region (l := [0, 1]) rfl ?_
   refine G_val rfl rfl rfl rfl (V_nextE (i := 4) rfl rfl (mem_at 2 rfl) (by decide)) ?_
   refine G_val rfl rfl rfl rfl (V_extract rfl rfl rfl) ?_
   refine G_done ?_
   refine G_seq ?_
   refine G_else rfl ?_
   refine G_exit rfl ?_
   refine G_seq ?_
   refine G_addNone (.cells #[] 151 (0, 0)) ?_
   refine G_region (l := [0, 1]) rfl ?_
   first
     | refine G_val rfl rfl rfl rfl (V_loadW (s := 5) rfl rfl (mem_at 4 rfl) Try.underlying58 rfl infScriptY_58 rfl (by first | rfl | (simp [bcells_length, evC, evV, kC, evS, Sl.v]; done) | (simp [bcells_length, evC, evV, kC, evS, Sl.v]; omega) | (simp [bcells_length, *, evC, evV, kC, evS, Sl.v]; done))) ?_
     | refine G_val rfl rfl rfl rfl (V_loadA (s := 5) rfl rfl (mem_at 4 rfl) Try.underlying58 rfl infScriptY_58 rfl rfl (by first | rfl | (simp [bcells_length, evC, evV, kC, evS, Sl.v]; done) | (simp [bcells_length, evC, evV, kC, evS, Sl.v]; omega) | (simp [bcells_length, *, evC, evV, kC, evS, Sl.v]; done))) ?_
   refine G_put (l1 := [_, _, _, _, _]) (L' := [_, _, _, _, _, _]) rfl rfl rfl rfl (P_storeA (s := 5) rfl rfl rfl (mem_at 5 rfl) (by first | rfl | (simp [bcells_length, evC, evV, kC, evS, Sl.v]; done) | (simp [bcells_length, evC, evV, kC, evS, Sl.v]; omega) | (simp [bcells_length, *, evC, evV, kC, evS, Sl.v]; done)) infScriptY_58 rfl (by first | rfl | (simp [bcells_length, evC, evV, kC, evS, Sl.v]; done) | (simp [bcells_length, evC, evV, kC, evS, Sl.v]; omega) | (simp [bcells_length, *, evC, evV, kC, evS, Sl.v]; done)) (by first | rfl | exact bcells_all _ | (simp [Value.oneCell', evC, evV, kC, evS, Sl.v]; done) | (simp [Value.oneCell', *, evC, evV, kC, evS, Sl.v]; done))) rfl ?_
   refine G_done ?_
   refine G_ret (post := [_, _]) Try.func85 rfl (RVs_cons (RV_cell (s := 5) rfl (mem_at 5 rfl) Try.underlying58 rfl infScriptY_58 rfl (by first | rfl | (simp [bcells_length, evC, evV, kC, evS, Sl.v]; done) | (simp [bcells_length, evC, evV, kC, evS, Sl.v]; omega) | (simp [bcells_length, *, evC, evV, kC, evS, Sl.v]; done))) RVs_nil) [1, 1] rfl ?_
   dsimp only [packed]
   first
     | exact ⟨emU ⟨3, s, tt, (z : Int) - 1, ks⟩ u, l4, e4, by subst hn; rfl, emU_ok (by simp) (by show s.length ≤ _; omega) m1 (by show _ ≤ (z : Int) - 1 ∧ (z : Int) - 1 ≤ _; omega) hu (goodK_bd hgs), by have := r4.len; omega, r4.err, .inl (ev3 r0 hn r1 r2 r3 r4), rfl⟩
     | exact ⟨emN ⟨1, s, tt, 0, []⟩, l2, e2, by subst hn; rfl, emN_ok (by simp) (by show s.length ≤ _; omega) m1 (by simp) rfl, by omega, c2, .inl (ev1 r0 hn r1 r2), rfl⟩
     | exact ⟨emN ⟨2, [], tt, 0, []⟩, l1, e1, by subst hn; rfl, emN_ok (by simp) (by simp) m1 (by simp) rfl, by omega, c1, .inl (ev2 r0 hn r1), rfl⟩
     | exact ⟨emN ⟨0, [], 0, 0, []⟩, l0, e0, by subst hn; rfl, emN_ok (by decide) (by decide) (by decide) (by decide) rfl, a0, c0, .inr ⟨rfl, ev0 r0 hn⟩, rfl⟩

set_option maxRecDepth 100000 in
set_option maxHeartbeats 2000000 in
theorem sc_decode (l : List UInt8) (hl : l.length ≤ 140737488350000) :
    Ct Try.prog 26 [.string (bs l)] [] [] fun v post => ∃ u ms c, Own 5 u (ms.flatMap evC) ms.length ∧ (∀ m ∈ ms, EmOk m) ∧ ms.length ≤ 400 ∧ DecR l (evsOf ms) c ∧ v = .tuple #[u.v ms.length, .int .i64 c] ∧ post = (u.ob, .cells u.cs 58 u.fz) :: ms.map evK := by
 obtain ⟨n, l0, e0, h0⟩ : ∃ n l0 e0, rdInt 400 l 0 = (n, l0, e0) := ⟨_, _, _, rfl⟩
 have r0 := rdg_int 400 l 0 (by omega) (by omega)
 have m0 := (rdInt_bd 400 l 0 (by omega) (by omega)).1
 rw [h0] at r0 m0
 have a0 := r0.len
 have c0 := r0.err
 simp only at a0 c0 m0 r0
 refine ct_of Try.func26 rfl rfl (fun w0 => ?_)
 show G _ _ [(0, _)] _ _
 refine G_seq ?_
 refine G_region (l := [0, 1]) rfl ?_
 refine G_val rfl rfl rfl rfl (V_assign rfl rfl) ?_
 refine G_val rfl rfl rfl rfl (V_assign rfl rfl) ?_
 refine G_done ?_
 refine G_seq ?_
 refine G_region (l := [0, 1, 2]) rfl ?_
 refine G_val rfl rfl rfl rfl (V_move rfl rfl) ?_
 refine G_call (L2 := []) rfl rfl rfl rfl rfl rfl Try.call33 (rd_new _) [] [] rfl rfl ?_
 rintro v post ⟨br, rfl, rfl⟩
 show G _ _ _ [_] _
 refine G_val rfl rfl rfl rfl (V_assign rfl rfl) ?_
 refine G_done ?_
 refine G_seq ?_
 refine G_region (l := [0]) rfl ?_
 refine G_val rfl rfl rfl rfl (V_assign rfl rfl) ?_
 refine G_done ?_
 refine G_seq ?_
 refine G_seq ?_
 refine G_addNone (.cells #[] 58 (0, 0)) ?_
 refine G_region (l := [0, 1, 2]) rfl ?_
 refine G_val rfl rfl rfl rfl (V_move rfl rfl) ?_
 refine G_call (L2 := [_]) rfl rfl rfl rfl rfl rfl Try.call84 ((rd_int br l 0 400 (by omega) (by omega) (by omega)).weaken (fun v post h => by rw [h0] at h; exact h)) [1] [] rfl rfl ?_
 rintro v post ⟨rfl, rfl⟩
 show G _ _ _ [_, _] _
 refine G_val rfl rfl rfl rfl (V_move rfl rfl) ?_
 refine G_done ?_
 refine G_block ?_
 refine G_subT (L1 := [_, _]) ?he4 [0, 0] ?hl4 (G_loop (X := Nat × Sl × List Em × List UInt8 × Nat) (fun x => match x with | ⟨i, u, ms, l1, e1⟩ => i ≤ n ∧ Own 5 u (ms.flatMap evC) i ∧ (∀ m ∈ ms, EmOk m) ∧ RdgL encE GoodE n l0 e0 i (evsOf ms) l1 e1) (fun x => match x with | ⟨i, u, ms, l1, e1⟩ => n - i) (fun x => match x with | ⟨i, u, ms, l1, e1⟩ => [(4, .pointer (some ⟨br, 0, none⟩)), (5, u.v i), (10, .int .i64 (n : Int)), (11, .int .i64 (i : Int))]) (fun x => match x with | ⟨i, u, ms, l1, e1⟩ => ((some br, .cells #[.string (bs l1), .int .i64 ((e1 : Nat) : Int)] 169 (0, 0)) :: (u.ob, .cells u.cs 58 u.fz) :: ms.map evK)) ?round4 (0, slNil, [], l0, e0) ?h04)
 case he4 => exact (And.intro rfl (And.intro rfl (And.intro rfl (And.intro rfl trivial))))
 case hl4 => exact ⟨_, _, rfl, .refl _⟩
 case h04 => exact ⟨Nat.zero_le _, own_nil 5, by simp, .zero c0⟩
 case round4 =>
  intro x hJ ih
  try dsimp only at hJ ih
  obtain ⟨i, u, ms, l1, e1⟩ := x
  try dsimp only at hJ ih
  obtain ⟨hi, hu, hoks, hx⟩ := hJ
  show G _ _ [(4, .pointer (some ⟨br, 0, none⟩)), (5, u.v i), (10, .int .i64 (n : Int)), (11, .int .i64 (i : Int))] ((some br, .cells #[.string (bs l1), .int .i64 ((e1 : Nat) : Int)] 169 (0, 0)) :: (u.ob, .cells u.cs 58 u.fz) :: ms.map evK) _
  have hl1 := hx.len
  have he1 := hx.err
  refine G_seq ?_
  refine G_region (l := [0]) rfl ?_
  refine G_val rfl rfl rfl rfl (V_lss rfl rfl rfl) ?_
  refine G_done ?_
  refine G_seq ?_
  refine G_ifD rfl (fun hc1 => ?_) (fun hc1 => ?_)
  · skip
    refine G_skip ?_
    refine G_seq ?_
    refine G_block ?_
    refine G_seq ?_
    refine G_region (l := [0, 1, 2, 3]) rfl ?_
    refine G_val rfl rfl rfl rfl (V_move rfl rfl) ?_
    refine G_call (L2 := (_ :: _)) rfl rfl rfl rfl rfl rfl Try.call85 (sc_event br l1 e1 (by omega) he1) [0] [] rfl rfl ?_
    rintro v post ⟨m, l2, e2, rfl, hmo, hl2, he2, hev, rfl⟩
    show G _ _ _ (_ :: _ :: _ :: _) _
    refine G_new rfl rfl rfl rfl (N_allocA rfl infScriptY_58 rfl) (fun b6 => ?_)
    refine G_put (l1 := []) (L' := (_ :: _ :: _ :: _ :: _)) rfl rfl rfl rfl (P_storeA (s := 5) rfl rfl rfl (mem_at 0 rfl) (by first | rfl | (simp [bcells_length, evC, evV, kC, evS, Sl.v]; done) | (simp [bcells_length, evC, evV, kC, evS, Sl.v]; omega) | (simp [bcells_length, *, evC, evV, kC, evS, Sl.v]; done)) infScriptY_58 rfl (by first | rfl | (simp [bcells_length, evC, evV, kC, evS, Sl.v]; done) | (simp [bcells_length, evC, evV, kC, evS, Sl.v]; omega) | (simp [bcells_length, *, evC, evV, kC, evS, Sl.v]; done)) (by first | rfl | exact bcells_all _ | (simp [Value.oneCell', evC, evV, kC, evS, Sl.v]; done) | (simp [Value.oneCell', *, evC, evV, kC, evS, Sl.v]; done))) rfl ?_
    refine G_done ?_
    refine G_seq ?_
    refine G_seq ?_
    refine G_region (l := [0, 1, 2, 3, 4, 5, 6, 7]) rfl ?_
    refine G_val rfl rfl rfl rfl (V_move rfl rfl) ?_
    refine G_call (L2 := (_ :: _ :: _ :: _ :: _)) rfl rfl rfl rfl rfl rfl Try.call86 (rd_err _ _ _) [] [1] rfl rfl ?_
    rintro v post ⟨rfl, rfl⟩
    show G _ _ _ (_ :: _ :: _ :: _ :: _) _
    refine G_val rfl rfl rfl rfl (V_neq rfl rfl rfl) ?_
    refine G_val rfl rfl rfl rfl (V_move rfl rfl) ?_
    refine G_splitD 18 rfl (fun hc2 => ?_) (fun hc2 => ?_)
    · skip
      refine G_off rfl rfl rfl rfl ?_
      refine G_off rfl rfl rfl rfl ?_
      refine G_off rfl rfl rfl rfl ?_
      refine G_val rfl rfl rfl rfl (V_pickT rfl rfl rfl) ?_
      refine G_done ?_
      refine G_then rfl ?_
      refine G_seq ?_
      refine G_addNone (.cells #[] 58 (0, 0)) ?_
      refine G_region (l := [0, 1]) rfl ?_
      refine G_val rfl rfl rfl rfl (V_assign rfl rfl) ?_
      refine G_val rfl rfl rfl rfl (V_assign rfl rfl) ?_
      refine G_done ?_
      refine G_retT (p1 := [_]) (T := []) Try.func26 rfl (RVs_cons (RV_tmp rfl) (RVs_cons (RV_tmp rfl) RVs_nil)) [0] ⟨_, _, rfl, .refl _⟩ ?_
      dsimp only [packed]
      first
        | exact ⟨slNil, [], 3, own_nil 5, by simp, by simp, dec_fail r0 hx (by omega) hev (by first | exact .inl (by omega) | exact .inr (by simpa using ‹(!decide (MayE m.v)) = true›)), rfl, rfl⟩
        | exact ⟨slNil, [], 3, own_nil 5, by simp, by simp, dec_bad r0 hx (by first | exact .inl (by omega) | exact .inr (by omega)) (by omega), rfl, rfl⟩
        | (obtain rfl : i = n := by omega
           have hnum := hx.num
           unfold evsOf at hnum
           rw [List.length_map] at hnum
           exact ⟨u, ms, 0, by rw [hnum]; exact hu, hoks, by omega, dec_good r0 hx (by omega), by rw [hnum], rfl⟩)
    first
      | refine G_val rfl rfl rfl rfl (V_loadW (s := 5) rfl rfl (mem_at 0 rfl) Try.underlying58 rfl infScriptY_58 rfl (by first | rfl | (simp [bcells_length, evC, evV, kC, evS, Sl.v]; done) | (simp [bcells_length, evC, evV, kC, evS, Sl.v]; omega) | (simp [bcells_length, *, evC, evV, kC, evS, Sl.v]; done))) ?_
      | refine G_val rfl rfl rfl rfl (V_loadA (s := 5) rfl rfl (mem_at 0 rfl) Try.underlying58 rfl infScriptY_58 rfl rfl (by first | rfl | (simp [bcells_length, evC, evV, kC, evS, Sl.v]; done) | (simp [bcells_length, evC, evV, kC, evS, Sl.v]; omega) | (simp [bcells_length, *, evC, evV, kC, evS, Sl.v]; done))) ?_
    refine G_call (L2 := (_ :: _ :: _ :: _ :: _)) rfl rfl rfl rfl rfl rfl Try.call21 (sc_may m hmo) [] [2] rfl rfl ?_
    rintro v post ⟨rfl, rfl⟩
    show G _ _ _ (_ :: _ :: _ :: _ :: _) _
    refine G_val rfl rfl rfl rfl (V_not rfl rfl) ?_
    refine G_val rfl rfl rfl rfl (V_pickF rfl rfl rfl) ?_
    refine G_done ?_
    refine G_if rfl (fun hc3 => ?_) (fun hc3 => ?_)
    · skip
      refine G_seq ?_
      refine G_addNone (.cells #[] 58 (0, 0)) ?_
      refine G_region (l := [0, 1]) rfl ?_
      refine G_val rfl rfl rfl rfl (V_assign rfl rfl) ?_
      refine G_val rfl rfl rfl rfl (V_assign rfl rfl) ?_
      refine G_done ?_
      refine G_retT (p1 := [_]) (T := []) Try.func26 rfl (RVs_cons (RV_tmp rfl) (RVs_cons (RV_tmp rfl) RVs_nil)) [0] ⟨_, _, rfl, .refl _⟩ ?_
      dsimp only [packed]
      first
        | exact ⟨slNil, [], 3, own_nil 5, by simp, by simp, dec_fail r0 hx (by omega) hev (by first | exact .inl (by omega) | exact .inr (by simpa using ‹(!decide (MayE m.v)) = true›)), rfl, rfl⟩
        | exact ⟨slNil, [], 3, own_nil 5, by simp, by simp, dec_bad r0 hx (by first | exact .inl (by omega) | exact .inr (by omega)) (by omega), rfl, rfl⟩
        | (obtain rfl : i = n := by omega
           have hnum := hx.num
           unfold evsOf at hnum
           rw [List.length_map] at hnum
           exact ⟨u, ms, 0, by rw [hnum]; exact hu, hoks, by omega, dec_good r0 hx (by omega), by rw [hnum], rfl⟩)
    refine G_skip ?_
    refine G_region (l := [0, 1, 2, 3, 4]) rfl ?_
    refine G_val rfl rfl rfl rfl (V_move rfl rfl) ?_
    first
      | refine G_val rfl rfl rfl rfl (V_loadW (s := 5) rfl rfl (mem_at 0 rfl) Try.underlying58 rfl infScriptY_58 rfl (by first | rfl | (simp [bcells_length, evC, evV, kC, evS, Sl.v]; done) | (simp [bcells_length, evC, evV, kC, evS, Sl.v]; omega) | (simp [bcells_length, *, evC, evV, kC, evS, Sl.v]; done))) ?_
      | refine G_val rfl rfl rfl rfl (V_loadA (s := 5) rfl rfl (mem_at 0 rfl) Try.underlying58 rfl infScriptY_58 rfl rfl (by first | rfl | (simp [bcells_length, evC, evV, kC, evS, Sl.v]; done) | (simp [bcells_length, evC, evV, kC, evS, Sl.v]; omega) | (simp [bcells_length, *, evC, evV, kC, evS, Sl.v]; done))) ?_
    refine G_new rfl rfl rfl rfl (N_buildAll (s := 5) (cs := [_, _, _, _, _]) rfl Try.underlying53 infScriptY_58 rfl rfl rfl rfl rfl rfl rfl rfl rfl) (fun b25 => ?_)
    refine G_append (l1 := [_, _, _, _]) (s := u) (nn := i) (m := 1) (news := evC m) (bt := 64) rfl rfl rfl rfl Try.underlying53 Try.underlying53 (by first | exact .inl rfl | exact .inr ⟨_, rfl⟩) infScriptY_58 rfl rfl rfl rfl rfl rfl hu rfl (src_mem (mem_at 0 rfl) rfl rfl (by simp [evC, evV, evS, Value.oneCell'])) (by omega) (by omega) ?_
    intro u1 hu1 _
    show G _ _ _ (_ :: _ :: _ :: _ :: _ :: _) _
    refine G_val rfl rfl rfl rfl (V_assign rfl rfl) ?_
    refine G_done ?_
    refine G_inBlock ?_
    refine G_region (l := [0, 1]) rfl ?_
    first
      | refine G_val rfl rfl rfl rfl ((V_add rfl rfl rfl).int (wrap_i64 (by omega))) ?_
      | refine G_val rfl rfl rfl rfl (V_add rfl rfl rfl) ?_
    refine G_val rfl rfl rfl rfl (V_move rfl rfl) ?_
    refine G_done ?_
    refine G_subT (L1 := [_, _]) ?_ [2, 3] ?_ (ih (i + 1, u1, ms ++ [m], l2, e2) ?_ ?_)
    · (refine (And.intro ?_ (And.intro ?_ (And.intro ?_ (And.intro ?_ trivial)))) <;> first | rfl | exact slot_int (by omega) | exact slot_int (by simp))
    · exact ⟨_, _, rfl, perm_bk evK ms m [_, _] []⟩
    · exact ⟨by omega, by rw [List.flatMap_append, List.flatMap_singleton]; exact hu1, oks_next hoks hmo, by rw [evs_next]; exact hx.next (ev_good hev (by simpa using ‹(!decide (MayE m.v)) = false›)) (by omega)⟩
    · (first | omega | (dsimp only; omega))
  refine G_exit rfl ?_
  refine G_seq ?_
  refine G_seq ?_
  refine G_region (l := [0, 1, 2]) rfl ?_
  refine G_val rfl rfl rfl rfl (V_move rfl rfl) ?_
  refine G_call (L2 := (_ :: _ :: _)) rfl rfl rfl rfl rfl rfl Try.call35 (rd_end _ _ _) [] [0] rfl rfl ?_
  rintro v post ⟨rfl, rfl⟩
  show G _ _ _ (_ :: _ :: _) _
  refine G_val rfl rfl rfl rfl (V_neq rfl rfl rfl) ?_
  refine G_done ?_
  refine G_ifD rfl (fun hc2 => ?_) (fun hc2 => ?_)
  · skip
    refine G_seq ?_
    refine G_addNone (.cells #[] 58 (0, 0)) ?_
    refine G_region (l := [0, 1]) rfl ?_
    refine G_val rfl rfl rfl rfl (V_assign rfl rfl) ?_
    refine G_val rfl rfl rfl rfl (V_assign rfl rfl) ?_
    refine G_done ?_
    refine G_retT (p1 := [_]) (T := []) Try.func26 rfl (RVs_cons (RV_tmp rfl) (RVs_cons (RV_tmp rfl) RVs_nil)) [0] ⟨_, _, rfl, .refl _⟩ ?_
    dsimp only [packed]
    first
      | exact ⟨slNil, [], 3, own_nil 5, by simp, by simp, dec_fail r0 hx (by omega) hev (by first | exact .inl (by omega) | exact .inr (by simpa using ‹(!decide (MayE m.v)) = true›)), rfl, rfl⟩
      | exact ⟨slNil, [], 3, own_nil 5, by simp, by simp, dec_bad r0 hx (by first | exact .inl (by omega) | exact .inr (by omega)) (by omega), rfl, rfl⟩
      | (obtain rfl : i = n := by omega
         have hnum := hx.num
         unfold evsOf at hnum
         rw [List.length_map] at hnum
         exact ⟨u, ms, 0, by rw [hnum]; exact hu, hoks, by omega, dec_good r0 hx (by omega), by rw [hnum], rfl⟩)
  refine G_skip ?_
  refine G_seq ?_
  refine G_region (l := [0, 1, 2]) rfl ?_
  refine G_val rfl rfl rfl rfl (V_move rfl rfl) ?_
  refine G_val rfl rfl rfl rfl (V_assign rfl rfl) ?_
  refine G_val rfl rfl rfl rfl (V_assign rfl rfl) ?_
  refine G_done ?_
  refine G_retT (p1 := [_]) (T := _) Try.func26 rfl (RVs_cons (RV_tmp rfl) (RVs_cons (RV_tmp rfl) RVs_nil)) [1] ⟨_, _, rfl, List.perm_append_comm (l₁ := [_])⟩ ?_
  dsimp only [packed]
  first
    | exact ⟨slNil, [], 3, own_nil 5, by simp, by simp, dec_fail r0 hx (by omega) hev (by first | exact .inl (by omega) | exact .inr (by simpa using ‹(!decide (MayE m.v)) = true›)), rfl, rfl⟩
    | exact ⟨slNil, [], 3, own_nil 5, by simp, by simp, dec_bad r0 hx (by first | exact .inl (by omega) | exact .inr (by omega)) (by omega), rfl, rfl⟩
    | (obtain rfl : i = n := by omega
       have hnum := hx.num
       unfold evsOf at hnum
       rw [List.length_map] at hnum
       exact ⟨u, ms, 0, by rw [hnum]; exact hu, hoks, by omega, dec_good r0 hx (by omega), by rw [hnum], rfl⟩)

end
end Go.Proofs.Ytkekkalgebgokaa

/- The walk of layer 40, on: the document's events out of bytes. -/
set_option linter.unusedSimpArgs false
set_option linter.unusedVariables false
namespace Go.Proofs.Ytkekkalgebgokaa
open Go Go.RowKit

section
theorem infScriptZ_3 : Try.prog.info? 3 = some Try.t3 := by kernel_rfl
theorem infScriptZ_9 : Try.prog.info? 9 = some Try.t9 := by kernel_rfl
theorem infScriptZ_23 : Try.prog.info? 23 = some Try.t23 := by kernel_rfl
theorem infScriptZ_56 : Try.prog.info? 56 = some Try.t56 := by kernel_rfl
theorem infScriptZ_58 : Try.prog.info? 58 = some Try.t58 := by kernel_rfl
theorem infScriptZ_86 : Try.prog.info? 86 = some Try.t86 := by kernel_rfl
theorem infScriptZ_151 : Try.prog.info? 151 = some Try.t151 := by kernel_rfl
theorem plcScriptZ_58 : placesOf Try.prog (Try.prog.fieldsOf 58) = some [(0, 1), (1, 1), (2, 1), (3, 1), (4, 1)] := by kernel_rfl
theorem plcScriptZ_86 : placesOf Try.prog (Try.prog.fieldsOf 86) = some [(0, 1), (1, 1)] := by kernel_rfl
theorem plcScriptZ_151 : placesOf Try.prog (Try.prog.fieldsOf 151) = some [(0, 1), (1, 1)] := by kernel_rfl

set_option maxRecDepth 100000 in
set_option maxHeartbeats 4000000 in
theorem rsc_decode (l : List UInt8) (hl : l.length ≤ 140737488350000) :
    Ct Try.prog 28 [.string (bs l)] [] [] fun v post => ∃ u ms c, Own 5 u (ms.flatMap evC) ms.length ∧ (∀ m ∈ ms, EmOk m) ∧ ms.length ≤ 400 ∧ DecR l (evsOf ms) c ∧ v = .tuple #[u.v ms.length, .int .i64 c] ∧ post = (u.ob, .cells u.cs 58 u.fz) :: ms.map evK := by
 obtain ⟨n, l0, e0, h0⟩ : ∃ n l0 e0, rdInt 400 l 0 = (n, l0, e0) := ⟨_, _, _, rfl⟩
 have r0 := rdg_int 400 l 0 (by omega) (by omega)
 have m0 := (rdInt_bd 400 l 0 (by omega) (by omega)).1
 rw [h0] at r0 m0
 have a0 := r0.len
 have c0 := r0.err
 simp only at a0 c0 m0 r0
 refine ct_of Try.func28 rfl rfl (fun w0 => ?_)
 show G _ _ [(0, _)] _ _
 refine G_seq ?_
 refine G_region (l := [0, 1]) rfl ?_
 refine G_val rfl rfl rfl rfl (V_assign rfl rfl) ?_
 refine G_val rfl rfl rfl rfl (V_assign rfl rfl) ?_
 refine G_done ?_
 refine G_seq ?_
 refine G_region (l := [0, 1, 2, 3]) rfl ?_
 refine G_val rfl rfl rfl rfl (V_move rfl rfl) ?_
 refine G_val rfl rfl rfl rfl (V_buildS (cs := [_, _]) rfl Try.underlying86 infScriptZ_86 rfl plcScriptZ_86 rfl rfl rfl) ?_
 refine G_new rfl rfl rfl rfl (N_boxA rfl rfl) (fun b14 => ?_)
 refine G_val rfl rfl rfl rfl (V_assign rfl rfl) ?_
 refine G_done ?_
 refine G_seq ?_
 refine G_region (l := [0, 1]) rfl ?_
 refine G_new rfl rfl rfl rfl (N_build0 rfl Try.underlying53 infScriptZ_58) (fun b15 => ?_)
 refine G_val rfl rfl rfl rfl (V_assign rfl rfl) ?_
 refine G_done ?_
 refine G_seq ?_
 refine G_region (l := [0, 1, 2]) rfl ?_
 refine G_val rfl rfl rfl rfl (V_move rfl rfl) ?_
 refine G_call (L2 := [_]) rfl rfl rfl rfl rfl rfl Try.call40 ((rrd_int b14 l 0 400 (by omega) (by omega) (by omega)).weaken (fun v post h => by rw [h0] at h; exact h)) [1] [] rfl rfl ?_
 rintro v post ⟨rfl, rfl⟩
 show G _ _ _ [_, _] _
 refine G_val rfl rfl rfl rfl (V_assign rfl rfl) ?_
 refine G_done ?_
 refine G_seq ?_
 refine G_seq ?_
 refine G_region (l := [0]) rfl ?_
 refine G_val rfl rfl rfl rfl (V_assign rfl rfl) ?_
 refine G_done ?_
 refine G_block ?_
 refine G_subT (L1 := [_, _]) ?he5 [0, 0] ?hl5 (G_loop (X := Nat × Sl × List Em × List UInt8 × Nat) (fun x => match x with | ⟨i, u, ms, l1, e1⟩ => i ≤ n ∧ Own 5 u (ms.flatMap evC) i ∧ (∀ m ∈ ms, EmOk m) ∧ RdgL encE GoodE n l0 e0 i (evsOf ms) l1 e1) (fun x => match x with | ⟨i, u, ms, l1, e1⟩ => n - i) (fun x => match x with | ⟨i, u, ms, l1, e1⟩ => [(4, .pointer (some ⟨b14, 0, none⟩)), (5, u.v i), (6, .int .i64 (n : Int)), (7, .int .i64 (i : Int))]) (fun x => match x with | ⟨i, u, ms, l1, e1⟩ => ((some b14, .cells #[.string (bs l1), .int .i64 ((e1 : Nat) : Int)] 86 (0, 0)) :: (u.ob, .cells u.cs 58 u.fz) :: ms.map evK)) ?round5 (0, ⟨some b15, #[], (0, 0), 0⟩, [], l0, e0) ?h05)
 case he5 => exact (And.intro rfl (And.intro rfl (And.intro rfl (And.intro rfl trivial))))
 case hl5 => exact ⟨_, _, rfl, .refl _⟩
 case h05 => exact ⟨Nat.zero_le _, own_empty 5 b15, by simp, .zero c0⟩
 case round5 =>
  intro x hJ ih
  try dsimp only at hJ ih
  obtain ⟨i, u, ms, l1, e1⟩ := x
  try dsimp only at hJ ih
  obtain ⟨hi, hu, hoks, hx⟩ := hJ
  show G _ _ [(4, .pointer (some ⟨b14, 0, none⟩)), (5, u.v i), (6, .int .i64 (n : Int)), (7, .int .i64 (i : Int))] ((some b14, .cells #[.string (bs l1), .int .i64 ((e1 : Nat) : Int)] 86 (0, 0)) :: (u.ob, .cells u.cs 58 u.fz) :: ms.map evK) _
  have hl1 := hx.len
  have he1 := hx.err
  refine G_seq ?_
  refine G_seq ?_
  refine G_region (l := [0, 1, 2, 3, 4, 5, 6, 7, 8, 9]) rfl ?_
  refine G_val rfl rfl rfl rfl (V_move rfl rfl) ?_
  refine G_val rfl rfl rfl rfl (V_move rfl rfl) ?_
  refine G_val rfl rfl rfl rfl (V_lss rfl rfl rfl) ?_
  refine G_val rfl rfl rfl rfl (V_move rfl rfl) ?_
  refine G_splitD 21 rfl (fun hc1 => ?_) (fun hc1 => ?_)
  · skip
    refine G_val rfl rfl rfl rfl (V_move rfl rfl) ?_
    first
      | refine G_val rfl rfl rfl rfl (V_nilCheck rfl rfl) ?_
      | refine G_val rfl rfl rfl rfl (V_nilCheckF rfl rfl) ?_
    refine G_val rfl rfl rfl rfl (V_fieldAddr (fo := 1) rfl Try.underlying86 rfl infScriptZ_3 rfl rfl rfl) ?_
    refine G_val rfl rfl rfl rfl (V_load1 rfl rfl (mem_at 0 rfl) rfl Try.underlying3 rfl) ?_
    refine G_val rfl rfl rfl rfl (V_eql rfl rfl rfl) ?_
    refine G_val rfl rfl rfl rfl (V_pickT rfl rfl rfl) ?_
    refine G_done ?_
    refine G_ifD rfl (fun hc2 => ?_) (fun hc2 => ?_)
    · skip
      refine G_skip ?_
      refine G_seq ?_
      refine G_block ?_
      refine G_seq ?_
      obtain ⟨k, la, ea, g0⟩ : ∃ a_ l_ e_, rdInt 3 l1 e1 = (a_, l_, e_) := ⟨_, _, _, rfl⟩
      obtain ⟨tt, lb, eb, g1⟩ : ∃ a_ l_ e_, rdNum la ea = (a_, l_, e_) := ⟨_, _, _, rfl⟩
      obtain ⟨s, lc, ec, g2⟩ : ∃ a_ l_ e_, rdStr 600 lb eb = (a_, l_, e_) := ⟨_, _, _, rfl⟩
      obtain ⟨z, ld, ed, g3⟩ : ∃ a_ l_ e_, rdInt 1099511627776 lc ec = (a_, l_, e_) := ⟨_, _, _, rfl⟩
      obtain ⟨kn, le_, ee, g4⟩ : ∃ a_ l_ e_, rdInt 64 ld ed = (a_, l_, e_) := ⟨_, _, _, rfl⟩
      have q0 := rdg_int 3 l1 e1 he1 (by omega)
      have n0 := (rdInt_bd 3 l1 e1 he1 (by omega)).1
      rw [g0] at q0 n0
      have a0_ := q0.len
      have c0_ := q0.err
      have q1 := rdg_num la ea c0_
      have n1 := (rdNum_bd la ea c0_).1
      rw [g1] at q1 n1
      have a1 := q1.len
      have c1 := q1.err
      have q2 := rdg_str 600 lb eb c1 (by omega)
      have n2 := (rdStr_bd 600 lb eb c1 (by omega)).1
      rw [g2] at q2 n2
      have a2 := q2.len
      have c2 := q2.err
      have q3 := rdg_int 1099511627776 lc ec c2 (by omega)
      have n3 := (rdInt_bd 1099511627776 lc ec c2 (by omega)).1
      rw [g3] at q3 n3
      have a3 := q3.len
      have c3 := q3.err
      have q4 := rdg_int 64 ld ed c3 (by omega)
      have n4 := (rdInt_bd 64 ld ed c3 (by omega)).1
      rw [g4] at q4 n4
      have a4 := q4.len
      have c4 := q4.err
      simp only at a0_ c0_ n0 q0 a1 c1 n1 q1 a2 c2 n2 q2 a3 c3 n3 q3 a4 c4 n4 q4
      refine G_region (l := [0, 1, 2, 3, 4]) rfl ?_
      refine G_val rfl rfl rfl rfl (V_move rfl rfl) ?_
      refine G_call (L2 := (_ :: _)) rfl rfl rfl rfl rfl rfl Try.call40 ((rrd_int b14 l1 e1 3 (by omega) (by omega) (by omega)).weaken (fun v post h => by rw [g0] at h; exact h)) [0] [] rfl rfl ?_
      rintro v post ⟨rfl, rfl⟩
      show G _ _ _ (_ :: _ :: _) _
      refine G_val rfl rfl rfl rfl (V_buildS (cs := [_, _, _, _, _]) rfl Try.underlying58 infScriptZ_58 rfl plcScriptZ_58 rfl rfl rfl) ?_
      refine G_new rfl rfl rfl rfl (N_allocA rfl infScriptZ_58 rfl) (fun b8 => ?_)
      refine G_put (l1 := []) (L' := (_ :: _ :: _ :: _)) rfl rfl rfl rfl (P_storeA (s := 5) rfl rfl rfl (mem_at 0 rfl) (by first | rfl | (simp [bcells_length, evC, evV, kC, evS, Sl.v]; done) | (simp [bcells_length, evC, evV, kC, evS, Sl.v]; omega) | (simp [bcells_length, *, evC, evV, kC, evS, Sl.v]; done)) infScriptZ_58 rfl (by first | rfl | (simp [bcells_length, evC, evV, kC, evS, Sl.v]; done) | (simp [bcells_length, evC, evV, kC, evS, Sl.v]; omega) | (simp [bcells_length, *, evC, evV, kC, evS, Sl.v]; done)) (by first | rfl | exact bcells_all _ | (simp [Value.oneCell', evC, evV, kC, evS, Sl.v]; done) | (simp [Value.oneCell', *, evC, evV, kC, evS, Sl.v]; done))) rfl ?_
      refine G_done ?_
      refine G_seq ?_
      rcases (by omega : k = 0 ∨ k = 1 ∨ k = 2 ∨ k = 3) with rfl | rfl | rfl | rfl
      · skip
        refine G_region (l := [0, 1, 2, 3]) rfl ?_
        refine G_val rfl rfl rfl rfl (V_move rfl rfl) ?_
        refine G_call (L2 := (_ :: _ :: _)) rfl rfl rfl rfl rfl rfl Try.call36 ((rrd_num b14 la ea (by omega) (by omega)).weaken (fun v post h => by rw [g1] at h; exact h)) [1] [] rfl rfl ?_
        rintro v post ⟨rfl, rfl⟩
        show G _ _ _ (_ :: _ :: _ :: _) _
        refine G_val rfl rfl rfl rfl (V_fieldAddr (fo := 2) rfl Try.underlying58 rfl infScriptZ_23 rfl rfl rfl) ?_
        refine G_put (l1 := [_]) (L' := (_ :: _ :: _ :: _)) rfl rfl rfl rfl (P_store1 rfl rfl rfl (mem_at 1 rfl) (by first | exact of_decide_eq_true rfl | omega | (simp [evC, evV, kC, evS, Sl.v]; done) | (simp [evC, evV, kC, evS, Sl.v]; omega) | (simp [evC, evV, kC, evS, Sl.v] at *; omega)) infScriptZ_23 rfl rfl) rfl ?_
        rw [set5_2]
        refine G_done ?_
        refine G_seq ?_
        refine G_seq ?_
        refine G_region (l := [0, 1, 2]) rfl ?_
        refine G_val rfl rfl rfl rfl (V_fieldAddr (fo := 0) rfl Try.underlying58 rfl infScriptZ_3 rfl rfl rfl) ?_
        refine G_val rfl rfl rfl rfl (V_load1 rfl rfl (mem_at 1 rfl) rfl Try.underlying3 rfl) ?_
        refine G_val rfl rfl rfl rfl (V_neq rfl rfl rfl) ?_
        refine G_done ?_
        refine G_ifD rfl (fun hc3 => ?_) (fun hc3 => ?_)
        rotate_left
        · (first | contradiction | (exact absurd rfl hc3) | (exfalso; omega) | (simp at hc3; done) | (exact absurd hc3 (by decide)) | (exact absurd (by decide) hc3))
        refine G_region (l := [0, 1, 2, 3]) rfl ?_
        refine G_val rfl rfl rfl rfl (V_move rfl rfl) ?_
        refine G_call (L2 := (_ :: _ :: _)) rfl rfl rfl rfl rfl rfl Try.call41 ((rrd_str b14 lb eb 600 (by omega) (by omega) (by omega)).weaken (fun v post h => by rw [g2] at h; exact h)) [0] [] rfl rfl ?_
        rintro v post ⟨rfl, rfl⟩
        show G _ _ _ (_ :: _ :: _ :: _) _
        refine G_val rfl rfl rfl rfl (V_fieldAddr (fo := 1) rfl Try.underlying58 rfl infScriptZ_9 rfl rfl rfl) ?_
        refine G_put (l1 := [_]) (L' := (_ :: _ :: _ :: _)) rfl rfl rfl rfl (P_store1 rfl rfl rfl (mem_at 1 rfl) (by first | exact of_decide_eq_true rfl | omega | (simp [evC, evV, kC, evS, Sl.v]; done) | (simp [evC, evV, kC, evS, Sl.v]; omega) | (simp [evC, evV, kC, evS, Sl.v] at *; omega)) infScriptZ_9 rfl rfl) rfl ?_
        rw [set5_1]
        refine G_done ?_
        refine G_seq ?_
        refine G_seq ?_
        refine G_region (l := [0, 1, 2]) rfl ?_
        refine G_val rfl rfl rfl rfl (V_fieldAddr (fo := 0) rfl Try.underlying58 rfl infScriptZ_3 rfl rfl rfl) ?_
        refine G_val rfl rfl rfl rfl (V_load1 rfl rfl (mem_at 1 rfl) rfl Try.underlying3 rfl) ?_
        refine G_val rfl rfl rfl rfl (V_eql rfl rfl rfl) ?_
        refine G_done ?_
        refine G_ifD rfl (fun hc4 => ?_) (fun hc4 => ?_)
        · (first | contradiction | (exact absurd rfl hc4) | (exfalso; omega) | (simp at hc4; done) | (exact absurd hc4 (by decide)) | (exact absurd (by decide) hc4))
        refine G_skip ?_
        refine G_seq ?_
        refine G_seq ?_
        try (obtain rfl := hkx.num)
        refine G_region (l := [0, 1, 2]) rfl ?_
        refine G_val rfl rfl rfl rfl (V_fieldAddr (fo := 0) rfl Try.underlying58 rfl infScriptZ_3 rfl rfl rfl) ?_
        refine G_val rfl rfl rfl rfl (V_load1 rfl rfl (mem_at 1 rfl) rfl Try.underlying3 rfl) ?_
        refine G_val rfl rfl rfl rfl (V_eql rfl rfl rfl) ?_
        refine G_done ?_
        refine G_ifD rfl (fun hc5 => ?_) (fun hc5 => ?_)
        rotate_left
        · (first | contradiction | (exact absurd rfl hc5) | (exfalso; omega) | (simp at hc5; done) | (exact absurd hc5 (by decide)) | (exact absurd (by decide) hc5))
        refine G_seq ?_
        refine G_addNone (.cells #[] 58 (0, 0)) ?_
        refine G_region (l := [0, 1]) rfl ?_
        refine G_val rfl rfl rfl rfl (V_assign rfl rfl) ?_
        refine G_val rfl rfl rfl rfl (V_assign rfl rfl) ?_
        refine G_done ?_
        refine G_retT (p1 := [_]) (T := []) Try.func28 rfl (RVs_cons (RV_tmp rfl) (RVs_cons (RV_tmp rfl) RVs_nil)) [0] ⟨_, _, rfl, .refl _⟩ ?_
        dsimp only [packed]
        first
          | exact ⟨slNil, [], 3, own_nil 5, by simp, by simp, dec_fail (v := ⟨0, [], 0, 0, []⟩) (l2 := la) (e2 := ea) r0 hx (by omega) (.inr ⟨rfl, ev0 q0 rfl⟩) (.inr fun h => absurd h.1.1 (by decide)), rfl, rfl⟩
          | exact ⟨slNil, [], 3, own_nil 5, by simp, by simp, dec_bad r0 hx (by first | exact .inl (by omega) | exact .inr (by omega)) (by omega), rfl, rfl⟩
          | (have hz := rdEnd_back (by omega : rdEnd l1 e1 = 0)
             obtain rfl : i = n := by omega
             have hnum := hx.num
             unfold evsOf at hnum
             rw [List.length_map] at hnum
             exact ⟨u, ms, 0, by rw [hnum]; exact hu, hoks, by omega, dec_good r0 hx (by omega), by rw [hnum], rfl⟩)
      · skip
        refine G_region (l := [0, 1, 2, 3]) rfl ?_
        refine G_val rfl rfl rfl rfl (V_move rfl rfl) ?_
        refine G_call (L2 := (_ :: _ :: _)) rfl rfl rfl rfl rfl rfl Try.call36 ((rrd_num b14 la ea (by omega) (by omega)).weaken (fun v post h => by rw [g1] at h; exact h)) [1] [] rfl rfl ?_
        rintro v post ⟨rfl, rfl⟩
        show G _ _ _ (_ :: _ :: _ :: _) _
        refine G_val rfl rfl rfl rfl (V_fieldAddr (fo := 2) rfl Try.underlying58 rfl infScriptZ_23 rfl rfl rfl) ?_
        refine G_put (l1 := [_]) (L' := (_ :: _ :: _ :: _)) rfl rfl rfl rfl (P_store1 rfl rfl rfl (mem_at 1 rfl) (by first | exact of_decide_eq_true rfl | omega | (simp [evC, evV, kC, evS, Sl.v]; done) | (simp [evC, evV, kC, evS, Sl.v]; omega) | (simp [evC, evV, kC, evS, Sl.v] at *; omega)) infScriptZ_23 rfl rfl) rfl ?_
        rw [set5_2]
        refine G_done ?_
        refine G_seq ?_
        refine G_seq ?_
        refine G_region (l := [0, 1, 2]) rfl ?_
        refine G_val rfl rfl rfl rfl (V_fieldAddr (fo := 0) rfl Try.underlying58 rfl infScriptZ_3 rfl rfl rfl) ?_
        refine G_val rfl rfl rfl rfl (V_load1 rfl rfl (mem_at 1 rfl) rfl Try.underlying3 rfl) ?_
        refine G_val rfl rfl rfl rfl (V_neq rfl rfl rfl) ?_
        refine G_done ?_
        refine G_ifD rfl (fun hc3 => ?_) (fun hc3 => ?_)
        rotate_left
        · (first | contradiction | (exact absurd rfl hc3) | (exfalso; omega) | (simp at hc3; done) | (exact absurd hc3 (by decide)) | (exact absurd (by decide) hc3))
        refine G_region (l := [0, 1, 2, 3]) rfl ?_
        refine G_val rfl rfl rfl rfl (V_move rfl rfl) ?_
        refine G_call (L2 := (_ :: _ :: _)) rfl rfl rfl rfl rfl rfl Try.call41 ((rrd_str b14 lb eb 600 (by omega) (by omega) (by omega)).weaken (fun v post h => by rw [g2] at h; exact h)) [0] [] rfl rfl ?_
        rintro v post ⟨rfl, rfl⟩
        show G _ _ _ (_ :: _ :: _ :: _) _
        refine G_val rfl rfl rfl rfl (V_fieldAddr (fo := 1) rfl Try.underlying58 rfl infScriptZ_9 rfl rfl rfl) ?_
        refine G_put (l1 := [_]) (L' := (_ :: _ :: _ :: _)) rfl rfl rfl rfl (P_store1 rfl rfl rfl (mem_at 1 rfl) (by first | exact of_decide_eq_true rfl | omega | (simp [evC, evV, kC, evS, Sl.v]; done) | (simp [evC, evV, kC, evS, Sl.v]; omega) | (simp [evC, evV, kC, evS, Sl.v] at *; omega)) infScriptZ_9 rfl rfl) rfl ?_
        rw [set5_1]
        refine G_done ?_
        refine G_seq ?_
        refine G_seq ?_
        refine G_region (l := [0, 1, 2]) rfl ?_
        refine G_val rfl rfl rfl rfl (V_fieldAddr (fo := 0) rfl Try.underlying58 rfl infScriptZ_3 rfl rfl rfl) ?_
        refine G_val rfl rfl rfl rfl (V_load1 rfl rfl (mem_at 1 rfl) rfl Try.underlying3 rfl) ?_
        refine G_val rfl rfl rfl rfl (V_eql rfl rfl rfl) ?_
        refine G_done ?_
        refine G_ifD rfl (fun hc4 => ?_) (fun hc4 => ?_)
        · (first | contradiction | (exact absurd rfl hc4) | (exfalso; omega) | (simp at hc4; done) | (exact absurd hc4 (by decide)) | (exact absurd (by decide) hc4))
        refine G_skip ?_
        refine G_seq ?_
        refine G_seq ?_
        try (obtain rfl := hkx.num)
        refine G_region (l := [0, 1, 2]) rfl ?_
        refine G_val rfl rfl rfl rfl (V_fieldAddr (fo := 0) rfl Try.underlying58 rfl infScriptZ_3 rfl rfl rfl) ?_
        refine G_val rfl rfl rfl rfl (V_load1 rfl rfl (mem_at 1 rfl) rfl Try.underlying3 rfl) ?_
        refine G_val rfl rfl rfl rfl (V_eql rfl rfl rfl) ?_
        refine G_done ?_
        refine G_ifD rfl (fun hc5 => ?_) (fun hc5 => ?_)
        · (first | contradiction | (exact absurd rfl hc5) | (exfalso; omega) | (simp at hc5; done) | (exact absurd hc5 (by decide)) | (exact absurd (by decide) hc5))
        refine G_skip ?_
        first | (have hev := ev1 q0 rfl q1 q2) | (have hev := ev2 q0 rfl q1) | (have hev := ev3 q0 rfl q1 q2 q3 (rkeeps q4 hkx (by omega)))
        refine G_addNone (.cells #[] 151 (0, 0)) ?_
        refine G_region (l := [0, 1, 2, 3, 4]) rfl ?_
        refine G_val rfl rfl rfl rfl (V_move rfl rfl) ?_
        first
          | refine G_val rfl rfl rfl rfl (V_loadW (s := 5) rfl rfl (mem_at 2 rfl) Try.underlying58 rfl infScriptZ_58 rfl (by first | rfl | (simp [bcells_length, evC, evV, kC, evS, Sl.v]; done) | (simp [bcells_length, evC, evV, kC, evS, Sl.v]; omega) | (simp [bcells_length, *, evC, evV, kC, evS, Sl.v]; done))) ?_
          | refine G_val rfl rfl rfl rfl (V_loadA (s := 5) rfl rfl (mem_at 2 rfl) Try.underlying58 rfl infScriptZ_58 rfl rfl (by first | rfl | (simp [bcells_length, evC, evV, kC, evS, Sl.v]; done) | (simp [bcells_length, evC, evV, kC, evS, Sl.v]; omega) | (simp [bcells_length, *, evC, evV, kC, evS, Sl.v]; done))) ?_
        refine G_new rfl rfl rfl rfl (N_buildAll (s := 5) (cs := [_, _, _, _, _]) rfl Try.underlying53 infScriptZ_58 rfl rfl rfl rfl rfl rfl rfl rfl rfl) (fun b79 => ?_)
        refine G_append (l1 := [_, _, _, _]) (s := u) (nn := i) (m := 1) (news := evC (emN ⟨1, s, tt, 0, []⟩)) (bt := 64) rfl rfl rfl rfl Try.underlying53 Try.underlying53 (by first | exact .inl rfl | exact .inr ⟨_, rfl⟩) infScriptZ_58 rfl rfl rfl rfl rfl rfl hu rfl (src_mem (mem_at 0 rfl) rfl rfl (by simp [evC, emU, emN, evV, evS, Value.oneCell'])) (by omega) (by omega) ?_
        intro u1 hu1 _
        show G _ _ _ (_ :: _ :: _ :: _ :: _ :: _) _
        refine G_val rfl rfl rfl rfl (V_assign rfl rfl) ?_
        refine G_done ?_
        refine G_inBlock ?_
        refine G_region (l := [0, 1, 2]) rfl ?_
        refine G_val rfl rfl rfl rfl (V_move rfl rfl) ?_
        first
          | refine G_val rfl rfl rfl rfl ((V_add rfl rfl rfl).int (wrap_i64 (by omega))) ?_
          | refine G_val rfl rfl rfl rfl (V_add rfl rfl rfl) ?_
        refine G_val rfl rfl rfl rfl (V_assign rfl rfl) ?_
        refine G_done ?_
        refine G_subT (L1 := [_, _]) ?_ [2, 3] ?_ (ih (i + 1, u1, ms ++ [(emN ⟨1, s, tt, 0, []⟩)], lc, ec) ?_ ?_)
        · (refine (And.intro ?_ (And.intro ?_ (And.intro ?_ (And.intro ?_ trivial)))) <;> first | rfl | exact slot_int (by omega) | exact slot_int (by simp))
        · exact ⟨_, _, rfl, perm_bk evK ms (emN ⟨1, s, tt, 0, []⟩) [_] [_]⟩
        · exact ⟨by omega, by rw [List.flatMap_append, List.flatMap_singleton]; exact hu1, oks_next hoks (emN_ok (by simp) (by show s.length ≤ _; omega) n1 (by simp) rfl), by rw [evs_next]; exact hx.next hev (by omega)⟩
        · (first | omega | (dsimp only; omega))
      · skip
        refine G_region (l := [0, 1, 2, 3]) rfl ?_
        refine G_val rfl rfl rfl rfl (V_move rfl rfl) ?_
        refine G_call (L2 := (_ :: _ :: _)) rfl rfl rfl rfl rfl rfl Try.call36 ((rrd_num b14 la ea (by omega) (by omega)).weaken (fun v post h => by rw [g1] at h; exact h)) [1] [] rfl rfl ?_
        rintro v post ⟨rfl, rfl⟩
        show G _ _ _ (_ :: _ :: _ :: _) _
        refine G_val rfl rfl rfl rfl (V_fieldAddr (fo := 2) rfl Try.underlying58 rfl infScriptZ_23 rfl rfl rfl) ?_
        refine G_put (l1 := [_]) (L' := (_ :: _ :: _ :: _)) rfl rfl rfl rfl (P_store1 rfl rfl rfl (mem_at 1 rfl) (by first | exact of_decide_eq_true rfl | omega | (simp [evC, evV, kC, evS, Sl.v]; done) | (simp [evC, evV, kC, evS, Sl.v]; omega) | (simp [evC, evV, kC, evS, Sl.v] at *; omega)) infScriptZ_23 rfl rfl) rfl ?_
        rw [set5_2]
        refine G_done ?_
        refine G_seq ?_
        refine G_seq ?_
        refine G_region (l := [0, 1, 2]) rfl ?_
        refine G_val rfl rfl rfl rfl (V_fieldAddr (fo := 0) rfl Try.underlying58 rfl infScriptZ_3 rfl rfl rfl) ?_
        refine G_val rfl rfl rfl rfl (V_load1 rfl rfl (mem_at 1 rfl) rfl Try.underlying3 rfl) ?_
        refine G_val rfl rfl rfl rfl (V_neq rfl rfl rfl) ?_
        refine G_done ?_
        refine G_ifD rfl (fun hc3 => ?_) (fun hc3 => ?_)
        · (first | contradiction | (exact absurd rfl hc3) | (exfalso; omega) | (simp at hc3; done) | (exact absurd hc3 (by decide)) | (exact absurd (by decide) hc3))
        refine G_skip ?_
        refine G_seq ?_
        refine G_seq ?_
        refine G_region (l := [0, 1, 2]) rfl ?_
        refine G_val rfl rfl rfl rfl (V_fieldAddr (fo := 0) rfl Try.underlying58 rfl infScriptZ_3 rfl rfl rfl) ?_
        refine G_val rfl rfl rfl rfl (V_load1 rfl rfl (mem_at 1 rfl) rfl Try.underlying3 rfl) ?_
        refine G_val rfl rfl rfl rfl (V_eql rfl rfl rfl) ?_
        refine G_done ?_
        refine G_ifD rfl (fun hc4 => ?_) (fun hc4 => ?_)
        · (first | contradiction | (exact absurd rfl hc4) | (exfalso; omega) | (simp at hc4; done) | (exact absurd hc4 (by decide)) | (exact absurd (by decide) hc4))
        refine G_skip ?_
        refine G_seq ?_
        refine G_seq ?_
        try (obtain rfl := hkx.num)
        refine G_region (l := [0, 1, 2]) rfl ?_
        refine G_val rfl rfl rfl rfl (V_fieldAddr (fo := 0) rfl Try.underlying58 rfl infScriptZ_3 rfl rfl rfl) ?_
        refine G_val rfl rfl rfl rfl (V_load1 rfl rfl (mem_at 1 rfl) rfl Try.underlying3 rfl) ?_
        refine G_val rfl rfl rfl rfl (V_eql rfl rfl rfl) ?_
        refine G_done ?_
        refine G_ifD rfl (fun hc5 => ?_) (fun hc5 => ?_)
        · (first | contradiction | (exact absurd rfl hc5) | (exfalso; omega) | (simp at hc5; done) | (exact absurd hc5 (by decide)) | (exact absurd (by decide) hc5))
        refine G_skip ?_
        first | (have hev := ev1 q0 rfl q1 q2) | (have hev := ev2 q0 rfl q1) | (have hev := ev3 q0 rfl q1 q2 q3 (rkeeps q4 hkx (by omega)))
        refine G_addNone (.cells #[] 151 (0, 0)) ?_
        refine G_region (l := [0, 1, 2, 3, 4]) rfl ?_
        refine G_val rfl rfl rfl rfl (V_move rfl rfl) ?_
        first
          | refine G_val rfl rfl rfl rfl (V_loadW (s := 5) rfl rfl (mem_at 2 rfl) Try.underlying58 rfl infScriptZ_58 rfl (by first | rfl | (simp [bcells_length, evC, evV, kC, evS, Sl.v]; done) | (simp [bcells_length, evC, evV, kC, evS, Sl.v]; omega) | (simp [bcells_length, *, evC, evV, kC, evS, Sl.v]; done))) ?_
          | refine G_val rfl rfl rfl rfl (V_loadA (s := 5) rfl rfl (mem_at 2 rfl) Try.underlying58 rfl infScriptZ_58 rfl rfl (by first | rfl | (simp [bcells_length, evC, evV, kC, evS, Sl.v]; done) | (simp [bcells_length, evC, evV, kC, evS, Sl.v]; omega) | (simp [bcells_length, *, evC, evV, kC, evS, Sl.v]; done))) ?_
        refine G_new rfl rfl rfl rfl (N_buildAll (s := 5) (cs := [_, _, _, _, _]) rfl Try.underlying53 infScriptZ_58 rfl rfl rfl rfl rfl rfl rfl rfl rfl) (fun b79 => ?_)
        refine G_append (l1 := [_, _, _, _]) (s := u) (nn := i) (m := 1) (news := evC (emN ⟨2, [], tt, 0, []⟩)) (bt := 64) rfl rfl rfl rfl Try.underlying53 Try.underlying53 (by first | exact .inl rfl | exact .inr ⟨_, rfl⟩) infScriptZ_58 rfl rfl rfl rfl rfl rfl hu rfl (src_mem (mem_at 0 rfl) rfl rfl (by simp [evC, emU, emN, evV, evS, Value.oneCell'])) (by omega) (by omega) ?_
        intro u1 hu1 _
        show G _ _ _ (_ :: _ :: _ :: _ :: _ :: _) _
        refine G_val rfl rfl rfl rfl (V_assign rfl rfl) ?_
        refine G_done ?_
        refine G_inBlock ?_
        refine G_region (l := [0, 1, 2]) rfl ?_
        refine G_val rfl rfl rfl rfl (V_move rfl rfl) ?_
        first
          | refine G_val rfl rfl rfl rfl ((V_add rfl rfl rfl).int (wrap_i64 (by omega))) ?_
          | refine G_val rfl rfl rfl rfl (V_add rfl rfl rfl) ?_
        refine G_val rfl rfl rfl rfl (V_assign rfl rfl) ?_
        refine G_done ?_
        refine G_subT (L1 := [_, _]) ?_ [2, 3] ?_ (ih (i + 1, u1, ms ++ [(emN ⟨2, [], tt, 0, []⟩)], lb, eb) ?_ ?_)
        · (refine (And.intro ?_ (And.intro ?_ (And.intro ?_ (And.intro ?_ trivial)))) <;> first | rfl | exact slot_int (by omega) | exact slot_int (by simp))
        · exact ⟨_, _, rfl, perm_bk evK ms (emN ⟨2, [], tt, 0, []⟩) [_] [_]⟩
        · exact ⟨by omega, by rw [List.flatMap_append, List.flatMap_singleton]; exact hu1, oks_next hoks (emN_ok (by simp) (by simp) n1 (by simp) rfl), by rw [evs_next]; exact hx.next hev (by omega)⟩
        · (first | omega | (dsimp only; omega))
      · skip
        refine G_region (l := [0, 1, 2, 3]) rfl ?_
        refine G_val rfl rfl rfl rfl (V_move rfl rfl) ?_
        refine G_call (L2 := (_ :: _ :: _)) rfl rfl rfl rfl rfl rfl Try.call36 ((rrd_num b14 la ea (by omega) (by omega)).weaken (fun v post h => by rw [g1] at h; exact h)) [1] [] rfl rfl ?_
        rintro v post ⟨rfl, rfl⟩
        show G _ _ _ (_ :: _ :: _ :: _) _
        refine G_val rfl rfl rfl rfl (V_fieldAddr (fo := 2) rfl Try.underlying58 rfl infScriptZ_23 rfl rfl rfl) ?_
        refine G_put (l1 := [_]) (L' := (_ :: _ :: _ :: _)) rfl rfl rfl rfl (P_store1 rfl rfl rfl (mem_at 1 rfl) (by first | exact of_decide_eq_true rfl | omega | (simp [evC, evV, kC, evS, Sl.v]; done) | (simp [evC, evV, kC, evS, Sl.v]; omega) | (simp [evC, evV, kC, evS, Sl.v] at *; omega)) infScriptZ_23 rfl rfl) rfl ?_
        rw [set5_2]
        refine G_done ?_
        refine G_seq ?_
        refine G_seq ?_
        refine G_region (l := [0, 1, 2]) rfl ?_
        refine G_val rfl rfl rfl rfl (V_fieldAddr (fo := 0) rfl Try.underlying58 rfl infScriptZ_3 rfl rfl rfl) ?_
        refine G_val rfl rfl rfl rfl (V_load1 rfl rfl (mem_at 1 rfl) rfl Try.underlying3 rfl) ?_
        refine G_val rfl rfl rfl rfl (V_neq rfl rfl rfl) ?_
        refine G_done ?_
        refine G_ifD rfl (fun hc3 => ?_) (fun hc3 => ?_)
        rotate_left
        · (first | contradiction | (exact absurd rfl hc3) | (exfalso; omega) | (simp at hc3; done) | (exact absurd hc3 (by decide)) | (exact absurd (by decide) hc3))
        refine G_region (l := [0, 1, 2, 3]) rfl ?_
        refine G_val rfl rfl rfl rfl (V_move rfl rfl) ?_
        refine G_call (L2 := (_ :: _ :: _)) rfl rfl rfl rfl rfl rfl Try.call41 ((rrd_str b14 lb eb 600 (by omega) (by omega) (by omega)).weaken (fun v post h => by rw [g2] at h; exact h)) [0] [] rfl rfl ?_
        rintro v post ⟨rfl, rfl⟩
        show G _ _ _ (_ :: _ :: _ :: _) _
        refine G_val rfl rfl rfl rfl (V_fieldAddr (fo := 1) rfl Try.underlying58 rfl infScriptZ_9 rfl rfl rfl) ?_
        refine G_put (l1 := [_]) (L' := (_ :: _ :: _ :: _)) rfl rfl rfl rfl (P_store1 rfl rfl rfl (mem_at 1 rfl) (by first | exact of_decide_eq_true rfl | omega | (simp [evC, evV, kC, evS, Sl.v]; done) | (simp [evC, evV, kC, evS, Sl.v]; omega) | (simp [evC, evV, kC, evS, Sl.v] at *; omega)) infScriptZ_9 rfl rfl) rfl ?_
        rw [set5_1]
        refine G_done ?_
        refine G_seq ?_
        refine G_seq ?_
        refine G_region (l := [0, 1, 2]) rfl ?_
        refine G_val rfl rfl rfl rfl (V_fieldAddr (fo := 0) rfl Try.underlying58 rfl infScriptZ_3 rfl rfl rfl) ?_
        refine G_val rfl rfl rfl rfl (V_load1 rfl rfl (mem_at 1 rfl) rfl Try.underlying3 rfl) ?_
        refine G_val rfl rfl rfl rfl (V_eql rfl rfl rfl) ?_
        refine G_done ?_
        refine G_ifD rfl (fun hc4 => ?_) (fun hc4 => ?_)
        rotate_left
        · (first | contradiction | (exact absurd rfl hc4) | (exfalso; omega) | (simp at hc4; done) | (exact absurd hc4 (by decide)) | (exact absurd (by decide) hc4))
        refine G_seq ?_
        refine G_region (l := [0, 1, 2, 3, 4]) rfl ?_
        refine G_val rfl rfl rfl rfl (V_move rfl rfl) ?_
        refine G_call (L2 := (_ :: _ :: _)) rfl rfl rfl rfl rfl rfl Try.call40 ((rrd_int b14 lc ec 1099511627776 (by omega) (by omega) (by omega)).weaken (fun v post h => by rw [g3] at h; exact h)) [0] [] rfl rfl ?_
        rintro v post ⟨rfl, rfl⟩
        show G _ _ _ (_ :: _ :: _ :: _) _
        first
          | refine G_val rfl rfl rfl rfl ((V_sub rfl rfl rfl).int (wrap_i64 (by omega))) ?_
          | refine G_val rfl rfl rfl rfl (V_sub rfl rfl rfl) ?_
        refine G_val rfl rfl rfl rfl (V_fieldAddr (fo := 3) rfl Try.underlying58 rfl infScriptZ_3 rfl rfl rfl) ?_
        refine G_put (l1 := [_]) (L' := (_ :: _ :: _ :: _)) rfl rfl rfl rfl (P_store1 rfl rfl rfl (mem_at 1 rfl) (by first | exact of_decide_eq_true rfl | omega | (simp [evC, evV, kC, evS, Sl.v]; done) | (simp [evC, evV, kC, evS, Sl.v]; omega) | (simp [evC, evV, kC, evS, Sl.v] at *; omega)) infScriptZ_3 rfl rfl) rfl ?_
        rw [set5_3]
        refine G_done ?_
        refine G_seq ?_
        refine G_region (l := [0, 1, 2]) rfl ?_
        refine G_val rfl rfl rfl rfl (V_move rfl rfl) ?_
        refine G_call (L2 := (_ :: _ :: _)) rfl rfl rfl rfl rfl rfl Try.call40 ((rrd_int b14 ld ed 64 (by omega) (by omega) (by omega)).weaken (fun v post h => by rw [g4] at h; exact h)) [0] [] rfl rfl ?_
        rintro v post ⟨rfl, rfl⟩
        show G _ _ _ (_ :: _ :: _ :: _) _
        refine G_val rfl rfl rfl rfl (V_assign rfl rfl) ?_
        refine G_done ?_
        refine G_seq ?_
        refine G_addNone (.cells #[] 151 (0, 0)) ?_
        refine G_region (l := [0]) rfl ?_
        refine G_val rfl rfl rfl rfl (V_assign rfl rfl) ?_
        refine G_done ?_
        refine G_block ?_
        refine G_subT (L1 := [_, _, _, _]) ?he15 [1, 1, 0, 0] ?hl15 (G_loop (X := Nat × Sl × List (Int × Int) × List UInt8 × Nat) (fun y_ => match y_ with | ⟨j, v, ks, lf, ef⟩ => j ≤ kn ∧ Own 2 v (ks.flatMap kC) j ∧ RdgL encK GoodK kn le_ ee j ks lf ef ∧ ∀ x ∈ ks, GoodK x) (fun y_ => match y_ with | ⟨j, v, ks, lf, ef⟩ => kn - j) (fun y_ => match y_ with | ⟨j, v, ks, lf, ef⟩ => [(4, .pointer (some ⟨b14, 0, none⟩)), (5, u.v i), (6, .int .i64 (n : Int)), (7, .int .i64 (i : Int)), (8, .pointer (some ⟨b8, 0, none⟩)), (9, .int .i64 (kn : Int)), (10, .int .i64 (j : Int))]) (fun y_ => match y_ with | ⟨j, v, ks, lf, ef⟩ => ((some b14, .cells #[.string (bs lf), .int .i64 ((ef : Nat) : Int)] 86 (0, 0)) :: (some b8, .cells #[.int .i64 ((3 : Nat) : Int), .string (bs s), .int .u64 (tt : Int), .int .i64 ((z : Int) - 1), v.v j] 58 (0, 0)) :: (v.ob, .cells v.cs 151 v.fz) :: (u.ob, .cells u.cs 58 u.fz) :: ms.map evK)) ?round15 (0, slNil, [], le_, ee) ?h015)
        case he15 => exact (And.intro rfl (And.intro rfl (And.intro rfl (And.intro rfl (And.intro rfl (And.intro rfl (And.intro rfl trivial)))))))
        case hl15 => exact ⟨_, _, rfl, List.perm_append_comm (l₁ := [])⟩
        case h015 => exact ⟨Nat.zero_le _, own_nil 2, .zero c4, by simp⟩
        case round15 =>
         intro y_ hJ ih2
         try dsimp only at hJ ih2
         obtain ⟨j, v, ks, lf, ef⟩ := y_
         try dsimp only at hJ ih2
         obtain ⟨hj, hv, hkx, hgs⟩ := hJ
         show G _ _ [(4, .pointer (some ⟨b14, 0, none⟩)), (5, u.v i), (6, .int .i64 (n : Int)), (7, .int .i64 (i : Int)), (8, .pointer (some ⟨b8, 0, none⟩)), (9, .int .i64 (kn : Int)), (10, .int .i64 (j : Int))] ((some b14, .cells #[.string (bs lf), .int .i64 ((ef : Nat) : Int)] 86 (0, 0)) :: (some b8, .cells #[.int .i64 ((3 : Nat) : Int), .string (bs s), .int .u64 (tt : Int), .int .i64 ((z : Int) - 1), v.v j] 58 (0, 0)) :: (v.ob, .cells v.cs 151 v.fz) :: (u.ob, .cells u.cs 58 u.fz) :: ms.map evK) _
         have hl4 := hkx.len
         have he4 := hkx.err
         refine G_seq ?_
         refine G_seq ?_
         refine G_region (l := [0, 1, 2, 3, 4, 5, 6, 7, 8, 9]) rfl ?_
         refine G_val rfl rfl rfl rfl (V_move rfl rfl) ?_
         refine G_val rfl rfl rfl rfl (V_move rfl rfl) ?_
         refine G_val rfl rfl rfl rfl (V_lss rfl rfl rfl) ?_
         refine G_val rfl rfl rfl rfl (V_move rfl rfl) ?_
         refine G_splitD 54 rfl (fun hc5 => ?_) (fun hc5 => ?_)
         · skip
           refine G_val rfl rfl rfl rfl (V_move rfl rfl) ?_
           first
             | refine G_val rfl rfl rfl rfl (V_nilCheck rfl rfl) ?_
             | refine G_val rfl rfl rfl rfl (V_nilCheckF rfl rfl) ?_
           refine G_val rfl rfl rfl rfl (V_fieldAddr (fo := 1) rfl Try.underlying86 rfl infScriptZ_3 rfl rfl rfl) ?_
           refine G_val rfl rfl rfl rfl (V_load1 rfl rfl (mem_at 0 rfl) rfl Try.underlying3 rfl) ?_
           refine G_val rfl rfl rfl rfl (V_eql rfl rfl rfl) ?_
           refine G_val rfl rfl rfl rfl (V_pickT rfl rfl rfl) ?_
           refine G_done ?_
           refine G_ifD rfl (fun hc6 => ?_) (fun hc6 => ?_)
           · skip
             refine G_skip ?_
             refine G_seq ?_
             refine G_block ?_
             refine G_seq ?_
             obtain ⟨a, lg, eg, f1⟩ : ∃ a_ l_ e_, rdInt 1099511627776 lf ef = (a_, l_, e_) := ⟨_, _, _, rfl⟩
             obtain ⟨b, lh, eh, f2⟩ : ∃ a_ l_ e_, rdInt 64 lg eg = (a_, l_, e_) := ⟨_, _, _, rfl⟩
             obtain ⟨hk, hgk, hl2, he2, hl3, he3⟩ := rdg_k f1 f2 (by omega)
             have hnx := hkx.next hk (by omega)
             refine G_region (l := [0, 1, 2]) rfl ?_
             refine G_val rfl rfl rfl rfl (V_move rfl rfl) ?_
             refine G_call (L2 := (_ :: _ :: _ :: _)) rfl rfl rfl rfl rfl rfl Try.call40 ((rrd_int b14 lf ef 1099511627776 (by omega) (by omega) (by omega)).weaken (fun v post h => by rw [f1] at h; exact h)) [0] [] rfl rfl ?_
             rintro v post ⟨rfl, rfl⟩
             show G _ _ _ (_ :: _ :: _ :: _ :: _) _
             refine G_val rfl rfl rfl rfl (V_assign rfl rfl) ?_
             refine G_done ?_
             refine GH_start (Lq := []) (isq := []) (m := 10) mixedK rfl rfl ?_
             refine GH_take 0 rfl rfl rfl rfl (by kernel_rfl) (by kernel_rfl) (by kernel_rfl) (fun _ _ => (V_fieldAddr (fo := 4) rfl Try.underlying58 rfl infScriptZ_56 rfl rfl rfl)) ?_
             refine GH_take 2 rfl rfl rfl rfl (by kernel_rfl) (by kernel_rfl) (by kernel_rfl) (fun _ _ => (V_move rfl rfl)) ?_
             refine GH_take 3 rfl rfl rfl rfl (by kernel_rfl) (by kernel_rfl) (by kernel_rfl) (fun _ _ => (V_move rfl rfl)) ?_
             refine GH_all [1, 4] (by kernel_rfl) (by decide) ?_
             refine (And.intro ?_ (And.intro ?_ trivial))
             · skip
               refine GHop_val rfl rfl rfl rfl (V_load1 rfl rfl (mem_at 1 rfl) rfl Try.underlying56 rfl) ?_
               refine GH_all [4] (by kernel_rfl) (by decide) ?_
               refine (And.intro ?_ trivial)
               · skip
                 refine GHop_call (L2 := (_ :: _ :: _ :: _)) rfl rfl rfl rfl rfl rfl Try.call40 ((rrd_int b14 lg eg 64 (by omega) (by omega) (by omega)).weaken (fun v post h => by rw [f2] at h; exact h)) [0] [] rfl rfl [] (by rintro v post ⟨rfl, rfl⟩; exact ⟨_, rfl⟩) ?_
                 rintro v post ⟨rfl, rfl⟩
                 show GH _ _ _ _ _ _ _ (_ :: _ :: _ :: _ :: _) _
                 refine GH_take 5 rfl rfl rfl rfl (by kernel_rfl) (by kernel_rfl) (by kernel_rfl) (fun _ _ => (V_buildS (cs := [_, _]) rfl Try.underlying151 infScriptZ_151 rfl plcScriptZ_151 rfl rfl rfl)) ?_
                 refine GH_all [6] (by kernel_rfl) (by decide) ?_
                 refine (And.intro ?_ trivial)
                 · skip
                   refine GHop_new rfl rfl rfl rfl (N_buildAll (s := 2) (cs := [_, _]) rfl Try.underlying56 infScriptZ_151 rfl rfl rfl rfl rfl rfl rfl rfl rfl) [] (fun _ => ⟨_, rfl⟩) (fun b71 => ?_)
                   refine GH_all [7] (by kernel_rfl) (by decide) ?_
                   refine (And.intro ?_ trivial)
                   · skip
                     refine GHop_append (l1 := [_, _, _]) (s := v) (nn := j) (m := 1) (news := kC ((a : Int), (b : Int))) (bt := 16) rfl rfl rfl rfl Try.underlying56 Try.underlying56 (by first | exact .inl rfl | exact .inr ⟨_, rfl⟩) infScriptZ_151 rfl rfl rfl rfl rfl rfl hv rfl (src_mem (mem_at 0 rfl) rfl rfl (by simp [kC, Value.oneCell'])) (by omega) (by omega) [] (fun _ => ⟨_, rfl⟩) ?_
                     intro v1 hv1 _
                     show GH _ _ _ _ _ _ _ (_ :: _ :: _ :: _ :: _ :: _) _
                     refine GH_take 8 rfl rfl rfl rfl (by kernel_rfl) (by kernel_rfl) (by kernel_rfl) (fun _ _ => (V_fieldAddr (fo := 4) rfl Try.underlying58 rfl infScriptZ_56 rfl rfl rfl)) ?_
                     refine GH_all [9] (by kernel_rfl) (by decide) ?_
                     refine (And.intro ?_ trivial)
                     · skip
                       refine GHop_put (l1 := [_, _]) (L' := (_ :: _ :: _ :: _ :: _ :: _)) rfl rfl rfl rfl (P_store1 rfl rfl rfl (mem_at 2 rfl) (by first | exact of_decide_eq_true rfl | omega | (simp [evC, evV, kC, evS, Sl.v]; done) | (simp [evC, evV, kC, evS, Sl.v]; omega) | (simp [evC, evV, kC, evS, Sl.v] at *; omega)) infScriptZ_56 rfl rfl) rfl [] rfl ?_
                       refine GH_done (by kernel_rfl) ?_
                       refine G_inBlock ?_
                       refine G_region (l := [0, 1, 2]) rfl ?_
                       refine G_val rfl rfl rfl rfl (V_move rfl rfl) ?_
                       first
                         | refine G_val rfl rfl rfl rfl ((V_add rfl rfl rfl).int (wrap_i64 (by omega))) ?_
                         | refine G_val rfl rfl rfl rfl (V_add rfl rfl rfl) ?_
                       refine G_val rfl rfl rfl rfl (V_assign rfl rfl) ?_
                       refine G_done ?_
                       refine G_subT (L1 := [_, _, _, _]) ?_ [1, 1, 1, 1] ?_ (ih2 (j + 1, v1, ks ++ [((a : Int), (b : Int))], lh, eh) ?_ ?_)
                       · (refine (And.intro ?_ (And.intro ?_ (And.intro ?_ (And.intro ?_ (And.intro ?_ (And.intro ?_ (And.intro ?_ trivial))))))) <;> first | rfl | exact slot_int (by omega) | exact slot_int (by simp))
                       · exact ⟨_, _, rfl, List.perm_append_comm (l₁ := [_])⟩
                       · exact ⟨by omega, by rw [List.flatMap_append, List.flatMap_singleton]; exact hv1, hnx, goodKs_next hgs hgk⟩
                       · (first | omega | (dsimp only; omega))
             · skip
               refine GHop_call (L2 := (_ :: _ :: _ :: _)) rfl rfl rfl rfl rfl rfl Try.call40 ((rrd_int b14 lg eg 64 (by omega) (by omega) (by omega)).weaken (fun v post h => by rw [f2] at h; exact h)) [0] [] rfl rfl [] (by rintro v post ⟨rfl, rfl⟩; exact ⟨_, rfl⟩) ?_
               rintro v post ⟨rfl, rfl⟩
               show GH _ _ _ _ _ _ _ (_ :: _ :: _ :: _ :: _) _
               refine GH_take 5 rfl rfl rfl rfl (by kernel_rfl) (by kernel_rfl) (by kernel_rfl) (fun _ _ => (V_buildS (cs := [_, _]) rfl Try.underlying151 infScriptZ_151 rfl plcScriptZ_151 rfl rfl rfl)) ?_
               refine GH_all [1, 6] (by kernel_rfl) (by decide) ?_
               refine (And.intro ?_ (And.intro ?_ trivial))
               · skip
                 refine GHop_val rfl rfl rfl rfl (V_load1 rfl rfl (mem_at 1 rfl) rfl Try.underlying56 rfl) ?_
                 refine GH_all [6] (by kernel_rfl) (by decide) ?_
                 refine (And.intro ?_ trivial)
                 · skip
                   refine GHop_new rfl rfl rfl rfl (N_buildAll (s := 2) (cs := [_, _]) rfl Try.underlying56 infScriptZ_151 rfl rfl rfl rfl rfl rfl rfl rfl rfl) [] (fun _ => ⟨_, rfl⟩) (fun b71 => ?_)
                   refine GH_all [7] (by kernel_rfl) (by decide) ?_
                   refine (And.intro ?_ trivial)
                   · skip
                     refine GHop_append (l1 := [_, _, _]) (s := v) (nn := j) (m := 1) (news := kC ((a : Int), (b : Int))) (bt := 16) rfl rfl rfl rfl Try.underlying56 Try.underlying56 (by first | exact .inl rfl | exact .inr ⟨_, rfl⟩) infScriptZ_151 rfl rfl rfl rfl rfl rfl hv rfl (src_mem (mem_at 0 rfl) rfl rfl (by simp [kC, Value.oneCell'])) (by omega) (by omega) [] (fun _ => ⟨_, rfl⟩) ?_
                     intro v1 hv1 _
                     show GH _ _ _ _ _ _ _ (_ :: _ :: _ :: _ :: _ :: _) _
                     refine GH_take 8 rfl rfl rfl rfl (by kernel_rfl) (by kernel_rfl) (by kernel_rfl) (fun _ _ => (V_fieldAddr (fo := 4) rfl Try.underlying58 rfl infScriptZ_56 rfl rfl rfl)) ?_
                     refine GH_all [9] (by kernel_rfl) (by decide) ?_
                     refine (And.intro ?_ trivial)
                     · skip
                       refine GHop_put (l1 := [_, _]) (L' := (_ :: _ :: _ :: _ :: _ :: _)) rfl rfl rfl rfl (P_store1 rfl rfl rfl (mem_at 2 rfl) (by first | exact of_decide_eq_true rfl | omega | (simp [evC, evV, kC, evS, Sl.v]; done) | (simp [evC, evV, kC, evS, Sl.v]; omega) | (simp [evC, evV, kC, evS, Sl.v] at *; omega)) infScriptZ_56 rfl rfl) rfl [] rfl ?_
                       refine GH_done (by kernel_rfl) ?_
                       refine G_inBlock ?_
                       refine G_region (l := [0, 1, 2]) rfl ?_
                       refine G_val rfl rfl rfl rfl (V_move rfl rfl) ?_
                       first
                         | refine G_val rfl rfl rfl rfl ((V_add rfl rfl rfl).int (wrap_i64 (by omega))) ?_
                         | refine G_val rfl rfl rfl rfl (V_add rfl rfl rfl) ?_
                       refine G_val rfl rfl rfl rfl (V_assign rfl rfl) ?_
                       refine G_done ?_
                       refine G_subT (L1 := [_, _, _, _]) ?_ [1, 1, 1, 1] ?_ (ih2 (j + 1, v1, ks ++ [((a : Int), (b : Int))], lh, eh) ?_ ?_)
                       · (refine (And.intro ?_ (And.intro ?_ (And.intro ?_ (And.intro ?_ (And.intro ?_ (And.intro ?_ (And.intro ?_ trivial))))))) <;> first | rfl | exact slot_int (by omega) | exact slot_int (by simp))
                       · exact ⟨_, _, rfl, List.perm_append_comm (l₁ := [_])⟩
                       · exact ⟨by omega, by rw [List.flatMap_append, List.flatMap_singleton]; exact hv1, hnx, goodKs_next hgs hgk⟩
                       · (first | omega | (dsimp only; omega))
               · skip
                 refine GHop_new rfl rfl rfl rfl (N_buildAll (s := 2) (cs := [_, _]) rfl Try.underlying56 infScriptZ_151 rfl rfl rfl rfl rfl rfl rfl rfl rfl) [] (fun _ => ⟨_, rfl⟩) (fun b71 => ?_)
                 refine GH_all [1] (by kernel_rfl) (by decide) ?_
                 refine (And.intro ?_ trivial)
                 · skip
                   refine GHop_val rfl rfl rfl rfl (V_load1 rfl rfl (mem_at 2 rfl) rfl Try.underlying56 rfl) ?_
                   refine GH_all [7] (by kernel_rfl) (by decide) ?_
                   refine (And.intro ?_ trivial)
                   · skip
                     refine GHop_append (l1 := [_, _, _]) (s := v) (nn := j) (m := 1) (news := kC ((a : Int), (b : Int))) (bt := 16) rfl rfl rfl rfl Try.underlying56 Try.underlying56 (by first | exact .inl rfl | exact .inr ⟨_, rfl⟩) infScriptZ_151 rfl rfl rfl rfl rfl rfl hv rfl (src_mem (mem_at 0 rfl) rfl rfl (by simp [kC, Value.oneCell'])) (by omega) (by omega) [] (fun _ => ⟨_, rfl⟩) ?_
                     intro v1 hv1 _
                     show GH _ _ _ _ _ _ _ (_ :: _ :: _ :: _ :: _ :: _) _
                     refine GH_take 8 rfl rfl rfl rfl (by kernel_rfl) (by kernel_rfl) (by kernel_rfl) (fun _ _ => (V_fieldAddr (fo := 4) rfl Try.underlying58 rfl infScriptZ_56 rfl rfl rfl)) ?_
                     refine GH_all [9] (by kernel_rfl) (by decide) ?_
                     refine (And.intro ?_ trivial)
                     · skip
                       refine GHop_put (l1 := [_, _]) (L' := (_ :: _ :: _ :: _ :: _ :: _)) rfl rfl rfl rfl (P_store1 rfl rfl rfl (mem_at 2 rfl) (by first | exact of_decide_eq_true rfl | omega | (simp [evC, evV, kC, evS, Sl.v]; done) | (simp [evC, evV, kC, evS, Sl.v]; omega) | (simp [evC, evV, kC, evS, Sl.v] at *; omega)) infScriptZ_56 rfl rfl) rfl [] rfl ?_
                       refine GH_done (by kernel_rfl) ?_
                       refine G_inBlock ?_
                       refine G_region (l := [0, 1, 2]) rfl ?_
                       refine G_val rfl rfl rfl rfl (V_move rfl rfl) ?_
                       first
                         | refine G_val rfl rfl rfl rfl ((V_add rfl rfl rfl).int (wrap_i64 (by omega))) ?_
                         | refine G_val rfl rfl rfl rfl (V_add rfl rfl rfl) ?_
                       refine G_val rfl rfl rfl rfl (V_assign rfl rfl) ?_
                       refine G_done ?_
                       refine G_subT (L1 := [_, _, _, _]) ?_ [1, 1, 1, 1] ?_ (ih2 (j + 1, v1, ks ++ [((a : Int), (b : Int))], lh, eh) ?_ ?_)
                       · (refine (And.intro ?_ (And.intro ?_ (And.intro ?_ (And.intro ?_ (And.intro ?_ (And.intro ?_ (And.intro ?_ trivial))))))) <;> first | rfl | exact slot_int (by omega) | exact slot_int (by simp))
                       · exact ⟨_, _, rfl, List.perm_append_comm (l₁ := [_])⟩
                       · exact ⟨by omega, by rw [List.flatMap_append, List.flatMap_singleton]; exact hv1, hnx, goodKs_next hgs hgk⟩
                       · (first | omega | (dsimp only; omega))
           refine G_exit rfl ?_
           refine G_seq ?_
           refine G_seq ?_
           try (obtain rfl := hkx.num)
           refine G_region (l := [0, 1, 2]) rfl ?_
           refine G_val rfl rfl rfl rfl (V_fieldAddr (fo := 0) rfl Try.underlying58 rfl infScriptZ_3 rfl rfl rfl) ?_
           refine G_val rfl rfl rfl rfl (V_load1 rfl rfl (mem_at 1 rfl) rfl Try.underlying3 rfl) ?_
           refine G_val rfl rfl rfl rfl (V_eql rfl rfl rfl) ?_
           refine G_done ?_
           refine G_ifD rfl (fun hc7 => ?_) (fun hc7 => ?_)
           · (first | contradiction | (exact absurd rfl hc7) | (exfalso; omega) | (simp at hc7; done) | (exact absurd hc7 (by decide)) | (exact absurd (by decide) hc7))
           refine G_skip ?_
           first | (have hev := ev1 q0 rfl q1 q2) | (have hev := ev2 q0 rfl q1) | (have hev := ev3 q0 rfl q1 q2 q3 (rkeeps q4 hkx (by omega)))
           refine G_region (l := [0, 1, 2, 3, 4]) rfl ?_
           refine G_val rfl rfl rfl rfl (V_move rfl rfl) ?_
           first
             | refine G_val rfl rfl rfl rfl (V_loadW (s := 5) rfl rfl (mem_at 1 rfl) Try.underlying58 rfl infScriptZ_58 rfl (by first | rfl | (simp [bcells_length, evC, evV, kC, evS, Sl.v]; done) | (simp [bcells_length, evC, evV, kC, evS, Sl.v]; omega) | (simp [bcells_length, *, evC, evV, kC, evS, Sl.v]; done))) ?_
             | refine G_val rfl rfl rfl rfl (V_loadA (s := 5) rfl rfl (mem_at 1 rfl) Try.underlying58 rfl infScriptZ_58 rfl rfl (by first | rfl | (simp [bcells_length, evC, evV, kC, evS, Sl.v]; done) | (simp [bcells_length, evC, evV, kC, evS, Sl.v]; omega) | (simp [bcells_length, *, evC, evV, kC, evS, Sl.v]; done))) ?_
           refine G_new rfl rfl rfl rfl (N_buildAll (s := 5) (cs := [_, _, _, _, _]) rfl Try.underlying53 infScriptZ_58 rfl rfl rfl rfl rfl rfl rfl rfl rfl) (fun b79 => ?_)
           refine G_append (l1 := [_, _, _, _]) (s := u) (nn := i) (m := 1) (news := evC (emU ⟨3, s, tt, (z : Int) - 1, ks⟩ v)) (bt := 64) rfl rfl rfl rfl Try.underlying53 Try.underlying53 (by first | exact .inl rfl | exact .inr ⟨_, rfl⟩) infScriptZ_58 rfl rfl rfl rfl rfl rfl hu rfl (src_mem (mem_at 0 rfl) rfl rfl (by simp [evC, emU, emN, evV, evS, Value.oneCell'])) (by omega) (by omega) ?_
           intro u1 hu1 _
           show G _ _ _ (_ :: _ :: _ :: _ :: _ :: _) _
           refine G_val rfl rfl rfl rfl (V_assign rfl rfl) ?_
           refine G_done ?_
           refine G_inBlock ?_
           refine G_region (l := [0, 1, 2]) rfl ?_
           refine G_val rfl rfl rfl rfl (V_move rfl rfl) ?_
           first
             | refine G_val rfl rfl rfl rfl ((V_add rfl rfl rfl).int (wrap_i64 (by omega))) ?_
             | refine G_val rfl rfl rfl rfl (V_add rfl rfl rfl) ?_
           refine G_val rfl rfl rfl rfl (V_assign rfl rfl) ?_
           refine G_done ?_
           refine G_subT (L1 := [_, _]) ?_ [1, 3] ?_ (ih (i + 1, u1, ms ++ [(emU ⟨3, s, tt, (z : Int) - 1, ks⟩ v)], lf, ef) ?_ ?_)
           · (refine (And.intro ?_ (And.intro ?_ (And.intro ?_ (And.intro ?_ trivial)))) <;> first | rfl | exact slot_int (by omega) | exact slot_int (by simp))
           · exact ⟨_, _, rfl, perm_bk evK ms (emU ⟨3, s, tt, (z : Int) - 1, ks⟩ v) [_, _] []⟩
           · exact ⟨by omega, by rw [List.flatMap_append, List.flatMap_singleton]; exact hu1, oks_next hoks (emU_ok (by simp) (by show s.length ≤ _; omega) n1 (by show _ ≤ (z : Int) - 1 ∧ (z : Int) - 1 ≤ _; omega) hv (goodK_bd hgs)), by rw [evs_next]; exact hx.next hev (by omega)⟩
           · (first | omega | (dsimp only; omega))
         refine G_off rfl rfl rfl rfl ?_
         refine G_off rfl rfl rfl rfl ?_
         refine G_off rfl rfl rfl rfl ?_
         refine G_off rfl rfl rfl rfl ?_
         refine G_off rfl rfl rfl rfl ?_
         refine G_val rfl rfl rfl rfl (V_pickF rfl rfl rfl) ?_
         refine G_done ?_
         refine G_else rfl ?_
         refine G_exit rfl ?_
         refine G_seq ?_
         refine G_seq ?_
         try (obtain rfl := hkx.num)
         refine G_region (l := [0, 1, 2]) rfl ?_
         refine G_val rfl rfl rfl rfl (V_fieldAddr (fo := 0) rfl Try.underlying58 rfl infScriptZ_3 rfl rfl rfl) ?_
         refine G_val rfl rfl rfl rfl (V_load1 rfl rfl (mem_at 1 rfl) rfl Try.underlying3 rfl) ?_
         refine G_val rfl rfl rfl rfl (V_eql rfl rfl rfl) ?_
         refine G_done ?_
         refine G_ifD rfl (fun hc6 => ?_) (fun hc6 => ?_)
         · (first | contradiction | (exact absurd rfl hc6) | (exfalso; omega) | (simp at hc6; done) | (exact absurd hc6 (by decide)) | (exact absurd (by decide) hc6))
         refine G_skip ?_
         first | (have hev := ev1 q0 rfl q1 q2) | (have hev := ev2 q0 rfl q1) | (have hev := ev3 q0 rfl q1 q2 q3 (rkeeps q4 hkx (by omega)))
         refine G_region (l := [0, 1, 2, 3, 4]) rfl ?_
         refine G_val rfl rfl rfl rfl (V_move rfl rfl) ?_
         first
           | refine G_val rfl rfl rfl rfl (V_loadW (s := 5) rfl rfl (mem_at 1 rfl) Try.underlying58 rfl infScriptZ_58 rfl (by first | rfl | (simp [bcells_length, evC, evV, kC, evS, Sl.v]; done) | (simp [bcells_length, evC, evV, kC, evS, Sl.v]; omega) | (simp [bcells_length, *, evC, evV, kC, evS, Sl.v]; done))) ?_
           | refine G_val rfl rfl rfl rfl (V_loadA (s := 5) rfl rfl (mem_at 1 rfl) Try.underlying58 rfl infScriptZ_58 rfl rfl (by first | rfl | (simp [bcells_length, evC, evV, kC, evS, Sl.v]; done) | (simp [bcells_length, evC, evV, kC, evS, Sl.v]; omega) | (simp [bcells_length, *, evC, evV, kC, evS, Sl.v]; done))) ?_
         refine G_new rfl rfl rfl rfl (N_buildAll (s := 5) (cs := [_, _, _, _, _]) rfl Try.underlying53 infScriptZ_58 rfl rfl rfl rfl rfl rfl rfl rfl rfl) (fun b79 => ?_)
         refine G_append (l1 := [_, _, _, _]) (s := u) (nn := i) (m := 1) (news := evC (emU ⟨3, s, tt, (z : Int) - 1, ks⟩ v)) (bt := 64) rfl rfl rfl rfl Try.underlying53 Try.underlying53 (by first | exact .inl rfl | exact .inr ⟨_, rfl⟩) infScriptZ_58 rfl rfl rfl rfl rfl rfl hu rfl (src_mem (mem_at 0 rfl) rfl rfl (by simp [evC, emU, emN, evV, evS, Value.oneCell'])) (by omega) (by omega) ?_
         intro u1 hu1 _
         show G _ _ _ (_ :: _ :: _ :: _ :: _ :: _) _
         refine G_val rfl rfl rfl rfl (V_assign rfl rfl) ?_
         refine G_done ?_
         refine G_inBlock ?_
         refine G_region (l := [0, 1, 2]) rfl ?_
         refine G_val rfl rfl rfl rfl (V_move rfl rfl) ?_
         first
           | refine G_val rfl rfl rfl rfl ((V_add rfl rfl rfl).int (wrap_i64 (by omega))) ?_
           | refine G_val rfl rfl rfl rfl (V_add rfl rfl rfl) ?_
         refine G_val rfl rfl rfl rfl (V_assign rfl rfl) ?_
         refine G_done ?_
         refine G_subT (L1 := [_, _]) ?_ [1, 3] ?_ (ih (i + 1, u1, ms ++ [(emU ⟨3, s, tt, (z : Int) - 1, ks⟩ v)], lf, ef) ?_ ?_)
         · (refine (And.intro ?_ (And.intro ?_ (And.intro ?_ (And.intro ?_ trivial)))) <;> first | rfl | exact slot_int (by omega) | exact slot_int (by simp))
         · exact ⟨_, _, rfl, perm_bk evK ms (emU ⟨3, s, tt, (z : Int) - 1, ks⟩ v) [_, _] []⟩
         · exact ⟨by omega, by rw [List.flatMap_append, List.flatMap_singleton]; exact hu1, oks_next hoks (emU_ok (by simp) (by show s.length ≤ _; omega) n1 (by show _ ≤ (z : Int) - 1 ∧ (z : Int) - 1 ≤ _; omega) hv (goodK_bd hgs)), by rw [evs_next]; exact hx.next hev (by omega)⟩
         · (first | omega | (dsimp only; omega))
    refine G_exit rfl ?_
    refine G_seq ?_
    refine G_seq ?_
    refine G_region (l := [0, 1, 2]) rfl ?_
    refine G_val rfl rfl rfl rfl (V_move rfl rfl) ?_
    refine G_call (L2 := (_ :: _ :: _)) rfl rfl rfl rfl rfl rfl Try.call44 (rrd_end _ _ _) [] [0] rfl rfl ?_
    rintro v post ⟨rfl, rfl⟩
    show G _ _ _ (_ :: _ :: _) _
    refine G_val rfl rfl rfl rfl (V_neq rfl rfl rfl) ?_
    refine G_done ?_
    refine G_ifD rfl (fun hc3 => ?_) (fun hc3 => ?_)
    · skip
      refine G_seq ?_
      refine G_addNone (.cells #[] 58 (0, 0)) ?_
      refine G_region (l := [0, 1]) rfl ?_
      refine G_val rfl rfl rfl rfl (V_assign rfl rfl) ?_
      refine G_val rfl rfl rfl rfl (V_assign rfl rfl) ?_
      refine G_done ?_
      refine G_retT (p1 := [_]) (T := []) Try.func28 rfl (RVs_cons (RV_tmp rfl) (RVs_cons (RV_tmp rfl) RVs_nil)) [0] ⟨_, _, rfl, .refl _⟩ ?_
      dsimp only [packed]
      first
        | exact ⟨slNil, [], 3, own_nil 5, by simp, by simp, dec_fail (v := ⟨0, [], 0, 0, []⟩) (l2 := la) (e2 := ea) r0 hx (by omega) (.inr ⟨rfl, ev0 q0 rfl⟩) (.inr fun h => absurd h.1.1 (by decide)), rfl, rfl⟩
        | exact ⟨slNil, [], 3, own_nil 5, by simp, by simp, dec_bad r0 hx (by first | exact .inl (by omega) | exact .inr (by omega)) (by omega), rfl, rfl⟩
        | (have hz := rdEnd_back (by omega : rdEnd l1 e1 = 0)
           obtain rfl : i = n := by omega
           have hnum := hx.num
           unfold evsOf at hnum
           rw [List.length_map] at hnum
           exact ⟨u, ms, 0, by rw [hnum]; exact hu, hoks, by omega, dec_good r0 hx (by omega), by rw [hnum], rfl⟩)
    refine G_skip ?_
    refine G_seq ?_
    refine G_region (l := [0, 1, 2]) rfl ?_
    refine G_val rfl rfl rfl rfl (V_move rfl rfl) ?_
    refine G_val rfl rfl rfl rfl (V_assign rfl rfl) ?_
    refine G_val rfl rfl rfl rfl (V_assign rfl rfl) ?_
    refine G_done ?_
    refine G_retT (p1 := [_]) (T := _) Try.func28 rfl (RVs_cons (RV_tmp rfl) (RVs_cons (RV_tmp rfl) RVs_nil)) [1] ⟨_, _, rfl, List.perm_append_comm (l₁ := [_])⟩ ?_
    dsimp only [packed]
    first
      | exact ⟨slNil, [], 3, own_nil 5, by simp, by simp, dec_fail (v := ⟨0, [], 0, 0, []⟩) (l2 := la) (e2 := ea) r0 hx (by omega) (.inr ⟨rfl, ev0 q0 rfl⟩) (.inr fun h => absurd h.1.1 (by decide)), rfl, rfl⟩
      | exact ⟨slNil, [], 3, own_nil 5, by simp, by simp, dec_bad r0 hx (by first | exact .inl (by omega) | exact .inr (by omega)) (by omega), rfl, rfl⟩
      | (have hz := rdEnd_back (by omega : rdEnd l1 e1 = 0)
         obtain rfl : i = n := by omega
         have hnum := hx.num
         unfold evsOf at hnum
         rw [List.length_map] at hnum
         exact ⟨u, ms, 0, by rw [hnum]; exact hu, hoks, by omega, dec_good r0 hx (by omega), by rw [hnum], rfl⟩)
  refine G_off rfl rfl rfl rfl ?_
  refine G_off rfl rfl rfl rfl ?_
  refine G_off rfl rfl rfl rfl ?_
  refine G_off rfl rfl rfl rfl ?_
  refine G_off rfl rfl rfl rfl ?_
  refine G_val rfl rfl rfl rfl (V_pickF rfl rfl rfl) ?_
  refine G_done ?_
  refine G_else rfl ?_
  refine G_exit rfl ?_
  refine G_seq ?_
  refine G_seq ?_
  refine G_region (l := [0, 1, 2]) rfl ?_
  refine G_val rfl rfl rfl rfl (V_move rfl rfl) ?_
  refine G_call (L2 := (_ :: _ :: _)) rfl rfl rfl rfl rfl rfl Try.call44 (rrd_end _ _ _) [] [0] rfl rfl ?_
  rintro v post ⟨rfl, rfl⟩
  show G _ _ _ (_ :: _ :: _) _
  refine G_val rfl rfl rfl rfl (V_neq rfl rfl rfl) ?_
  refine G_done ?_
  refine G_ifD rfl (fun hc2 => ?_) (fun hc2 => ?_)
  · skip
    refine G_seq ?_
    refine G_addNone (.cells #[] 58 (0, 0)) ?_
    refine G_region (l := [0, 1]) rfl ?_
    refine G_val rfl rfl rfl rfl (V_assign rfl rfl) ?_
    refine G_val rfl rfl rfl rfl (V_assign rfl rfl) ?_
    refine G_done ?_
    refine G_retT (p1 := [_]) (T := []) Try.func28 rfl (RVs_cons (RV_tmp rfl) (RVs_cons (RV_tmp rfl) RVs_nil)) [0] ⟨_, _, rfl, .refl _⟩ ?_
    dsimp only [packed]
    first
      | exact ⟨slNil, [], 3, own_nil 5, by simp, by simp, dec_fail (v := ⟨0, [], 0, 0, []⟩) (l2 := la) (e2 := ea) r0 hx (by omega) (.inr ⟨rfl, ev0 q0 rfl⟩) (.inr fun h => absurd h.1.1 (by decide)), rfl, rfl⟩
      | exact ⟨slNil, [], 3, own_nil 5, by simp, by simp, dec_bad r0 hx (by first | exact .inl (by omega) | exact .inr (by omega)) (by omega), rfl, rfl⟩
      | (have hz := rdEnd_back (by omega : rdEnd l1 e1 = 0)
         obtain rfl : i = n := by omega
         have hnum := hx.num
         unfold evsOf at hnum
         rw [List.length_map] at hnum
         exact ⟨u, ms, 0, by rw [hnum]; exact hu, hoks, by omega, dec_good r0 hx (by omega), by rw [hnum], rfl⟩)
  refine G_skip ?_
  refine G_seq ?_
  refine G_region (l := [0, 1, 2]) rfl ?_
  refine G_val rfl rfl rfl rfl (V_move rfl rfl) ?_
  refine G_val rfl rfl rfl rfl (V_assign rfl rfl) ?_
  refine G_val rfl rfl rfl rfl (V_assign rfl rfl) ?_
  refine G_done ?_
  refine G_retT (p1 := [_]) (T := _) Try.func28 rfl (RVs_cons (RV_tmp rfl) (RVs_cons (RV_tmp rfl) RVs_nil)) [1] ⟨_, _, rfl, List.perm_append_comm (l₁ := [_])⟩ ?_
  dsimp only [packed]
  first
    | exact ⟨slNil, [], 3, own_nil 5, by simp, by simp, dec_fail (v := ⟨0, [], 0, 0, []⟩) (l2 := la) (e2 := ea) r0 hx (by omega) (.inr ⟨rfl, ev0 q0 rfl⟩) (.inr fun h => absurd h.1.1 (by decide)), rfl, rfl⟩
    | exact ⟨slNil, [], 3, own_nil 5, by simp, by simp, dec_bad r0 hx (by first | exact .inl (by omega) | exact .inr (by omega)) (by omega), rfl, rfl⟩
    | (have hz := rdEnd_back (by omega : rdEnd l1 e1 = 0)
       obtain rfl : i = n := by omega
       have hnum := hx.num
       unfold evsOf at hnum
       rw [List.length_map] at hnum
       exact ⟨u, ms, 0, by rw [hnum]; exact hu, hoks, by omega, dec_good r0 hx (by omega), by rw [hnum], rfl⟩)

end
end Go.Proofs.Ytkekkalgebgokaa

/- The walks of layer 40, on: which events are the same; which lists are long. -/
set_option linter.unusedSimpArgs false
set_option linter.unusedVariables false
namespace Go.Proofs.Ytkekkalgebgokaa
open Go Go.RowKit

section
theorem infScriptS_3 : Try.prog.info? 3 = some Try.t3 := by kernel_rfl
theorem infScriptS_9 : Try.prog.info? 9 = some Try.t9 := by kernel_rfl
theorem infScriptS_23 : Try.prog.info? 23 = some Try.t23 := by kernel_rfl
theorem infScriptS_56 : Try.prog.info? 56 = some Try.t56 := by kernel_rfl
theorem infScriptS_58 : Try.prog.info? 58 = some Try.t58 := by kernel_rfl
theorem infScriptS_151 : Try.prog.info? 151 = some Try.t151 := by kernel_rfl


def kLits (x : Int × Int) : List Lit := [.int .i64 x.1, .int .i64 x.2]
theorem kLits_inj {x y : Int × Int} (h : kLits x = kLits y) : x = y := by
  obtain ⟨a, b⟩ := x
  obtain ⟨c, d⟩ := y
  simp only [kLits, List.cons.injEq, Lit.int.injEq, true_and, and_true] at h
  exact Prod.ext h.1 h.2
set_option maxRecDepth 100000 in
theorem key_k (x : Int × Int) (h : (-9223372036854775808 ≤ x.1 ∧ x.1 ≤ 9223372036854775807) ∧ (-9223372036854775808 ≤ x.2 ∧ x.2 ≤ 9223372036854775807)) : Try.prog.keyLits 2 151 (kC x).toArray.toList = some (kLits x) := by
  refine fits_keys Try.underlying151 (by kernel_rfl) (by kernel_rfl) ?_
  refine ⟨rfl, (by kernel_rfl), key_int Try.underlying3 h.1.1 h.1.2, ?_⟩
  exact ⟨rfl, (by kernel_rfl), key_int Try.underlying3 h.2.1 h.2.2, trivial⟩
theorem ev_ne {x y : Ev} (h : ¬ x.kd = y.kd ∨ ¬ x.b = y.b ∨ ¬ (x.t : Int) = (y.t : Int) ∨ ¬ x.f = y.f ∨ ¬ x.ks = y.ks) : ¬ x = y := by
  rintro rfl
  simp at h
theorem ev_eq {x y : Ev} (h1 : x.kd = y.kd) (h2 : x.b = y.b) (h3 : (x.t : Int) = (y.t : Int)) (h4 : x.f = y.f) (h5 : x.ks = y.ks) : x = y := by
  obtain ⟨a, b, c, d, e⟩ := x
  obtain ⟨a', b', c', d', e'⟩ := y
  simp only at h1 h2 h3 h4 h5
  have h3' : c = c' := by omega
  subst h1 h2 h3' h4 h5
  rfl
theorem evs_at {ms : List Em} {i : Nat} {x : Em} (h : ms[i]? = some x) : (evsOf ms)[i]? = some x.v := by unfold evsOf; rw [List.getElem?_map, h]; rfl
theorem evs_len (ms : List Em) : (evsOf ms).length = ms.length := by unfold evsOf; rw [List.length_map]
theorem evs_ne {ms ns : List Em} (h : ¬ (ms.length : Int) = (ns.length : Int)) : ¬ evsOf ms = evsOf ns := ne_len (by rw [evs_len, evs_len]; omega)

set_option maxRecDepth 100000 in
set_option maxHeartbeats 1000000 in
theorem sc_eqK (x y : Em) (hxo : EmOk x) (hyo : EmOk y) :
    Ct Try.prog 93 [evS x, evS y] [evK x, evK y] [] fun v post => v = .bool (decide (x.v.ks = y.v.ks)) ∧ post = [] := by
 have hle := hxo.le
 have hmax := hxo.max
 have hle2 := hyo.le
 have hmax2 := hyo.max
 refine ct_of Try.func93 rfl rfl (fun w0 => ?_)
 show G _ _ [(0, _), (1, _)] _ _
 refine G_seq ?_
 refine G_region (l := [0]) rfl ?_
 refine G_val rfl rfl rfl rfl (V_assign rfl rfl) ?_
 refine G_done ?_
 refine G_seq ?_
 refine G_seq ?_
 refine G_region (l := [0, 1, 2, 3, 4]) rfl ?_
 refine G_val rfl rfl rfl rfl (V_move rfl rfl) ?_
 refine G_val rfl rfl rfl rfl (V_len rfl rfl Try.underlying56 rfl) ?_
 refine G_val rfl rfl rfl rfl (V_move rfl rfl) ?_
 refine G_val rfl rfl rfl rfl (V_len rfl rfl Try.underlying56 rfl) ?_
 refine G_val rfl rfl rfl rfl (V_neq rfl rfl rfl) ?_
 refine G_done ?_
 refine G_ifD rfl (fun hc1 => ?_) (fun hc1 => ?_)
 · skip
   refine G_seq ?_
   refine G_region (l := [0]) rfl ?_
   refine G_val rfl rfl rfl rfl (V_assign rfl rfl) ?_
   refine G_done ?_
   refine G_ret (post := []) Try.func93 rfl (RVs_cons (RV_tmp rfl) RVs_nil) [] rfl ?_
   dsimp only [packed]
   first
     | exact ⟨bool_eq (decide_eq_false (ne_len (by omega))).symm, rfl⟩
     | exact ⟨bool_eq (decide_eq_false (ne_at ha hb (fun h => (by assumption : ¬ kLits a = kLits b) (by rw [h])))).symm, rfl⟩
     | exact ⟨bool_eq (decide_eq_true (eq_end ht (by omega) (by omega))).symm, rfl⟩
 refine G_skip ?_
 refine G_seq ?_
 refine G_seq ?_
 refine G_region (l := [0, 1, 2]) rfl ?_
 refine G_val rfl rfl rfl rfl (V_move rfl rfl) ?_
 refine G_val rfl rfl rfl rfl (V_len rfl rfl Try.underlying56 rfl) ?_
 refine G_val rfl rfl rfl rfl (V_move rfl rfl) ?_
 refine G_done ?_
 refine G_block ?_
 refine G_sub ?he4 [] ?hl4 (G_loop (X := Nat) (fun j => j ≤ x.v.ks.length ∧ x.v.ks.take j = y.v.ks.take j) (fun j => x.v.ks.length - j) (fun j => [(0, evS x), (1, evS y), (12, .int .i64 (x.v.ks.length : Int)), (13, .int .i64 (j : Int))]) (fun j => []) ?round4 0 ?h04)
 case he4 => exact (And.intro rfl (And.intro rfl (And.intro rfl (And.intro rfl trivial))))
 case hl4 => exact ⟨_, rfl⟩
 case h04 => exact ⟨Nat.zero_le _, rfl⟩
 case round4 =>
  intro j hJ ih
  try dsimp only at hJ ih
  obtain ⟨hj, ht⟩ := hJ
  refine G_seq ?_
  refine G_region (l := [0]) rfl ?_
  refine G_val rfl rfl rfl rfl (V_lss rfl rfl rfl) ?_
  refine G_done ?_
  refine G_seq ?_
  refine G_ifD rfl (fun hc2 => ?_) (fun hc2 => ?_)
  · skip
    refine G_skip ?_
    refine G_seq ?_
    refine G_block ?_
    refine G_seq ?_
    refine G_region (l := [0, 1]) rfl ?_
    refine G_val rfl rfl rfl rfl (V_move rfl rfl) ?_
    refine G_val rfl rfl rfl rfl (V_assign rfl rfl) ?_
    refine G_done ?_
    refine G_seq ?_
    obtain ⟨a, ha⟩ := getI (show j < x.v.ks.length by omega)
    obtain ⟨b, hb⟩ := getI (show j < y.v.ks.length by omega)
    obtain ⟨ka, hsa, hka, hma⟩ := hxo.at (show j < x.v.ks.length by omega)
    obtain ⟨kb, hsb, hkb, hmb⟩ := hyo.at (show j < y.v.ks.length by omega)
    have gka := hxo.ks a (List.mem_of_getElem? ha)
    have gkb := hyo.ks b (List.mem_of_getElem? hb)
    have hma2 : (some ka, Obj.cells x.cs x.T x.fr) ∈ [evK x, evK y] := by rw [← hma]; exact mem_at 0 rfl
    have hmb2 : (some kb, Obj.cells y.cs y.T y.fr) ∈ [evK x, evK y] := by rw [← hmb]; exact mem_at 1 rfl
    rw [hsa, hsb]
    refine G_draw mixedK (by kernel_rfl) ?_
    refine GQ_val rfl rfl rfl rfl (V_move rfl rfl) ?_
    refine GQ_val rfl rfl rfl rfl (V_move rfl rfl) ?_
    first
      | refine GQ_val rfl rfl rfl rfl (V_indexAddrN (s := 2) rfl Try.underlying56 infScriptS_151 rfl rfl rfl rfl (by omega)) ?_
      | refine GQ_val rfl rfl rfl rfl (V_indexAddr (s := 2) rfl Try.underlying56 infScriptS_151 rfl rfl rfl (by omega) (by first | omega | (simp [evC, evV, kC, evS]; done) | (simp [evC, evV, kC, evS]; omega) | (simp [evC, evV, kC, evS] at *; omega))) ?_
    refine GQ_val rfl rfl rfl rfl (V_loadA (s := 2) (vs := (kC a).toArray) rfl rfl (List.mem_append_left _ hma2) Try.underlying151 rfl infScriptS_151 rfl (hka.elem kC_len ha) (by first | rfl | (simp [bcells_length, evC, evV, kC, evS]; done) | (simp [bcells_length, evC, evV, kC, evS]; omega) | (simp [bcells_length, *, evC, evV, kC, evS]; done))) ?_
    refine GQ_val rfl rfl rfl rfl (V_move rfl rfl) ?_
    refine GQ_val rfl rfl rfl rfl (V_move rfl rfl) ?_
    first
      | refine GQ_val rfl rfl rfl rfl (V_indexAddrN (s := 2) rfl Try.underlying56 infScriptS_151 rfl rfl rfl rfl (by omega)) ?_
      | refine GQ_val rfl rfl rfl rfl (V_indexAddr (s := 2) rfl Try.underlying56 infScriptS_151 rfl rfl rfl (by omega) (by first | omega | (simp [evC, evV, kC, evS]; done) | (simp [evC, evV, kC, evS]; omega) | (simp [evC, evV, kC, evS] at *; omega))) ?_
    refine GQ_val rfl rfl rfl rfl (V_loadA (s := 2) (vs := (kC b).toArray) rfl rfl (List.mem_append_left _ hmb2) Try.underlying151 rfl infScriptS_151 rfl (hkb.elem kC_len hb) (by first | rfl | (simp [bcells_length, evC, evV, kC, evS]; done) | (simp [bcells_length, evC, evV, kC, evS]; omega) | (simp [bcells_length, *, evC, evV, kC, evS]; done))) ?_
    refine GQ_val rfl rfl rfl rfl (V_aggneq (m := 6) rfl Try.eqGuardType151 (by kernel_rfl) (by decide) (formed_of Try.underlying151 rfl (by kernel_rfl : Try.prog.cellsOf 151 = 2) (by first | rfl | (simp [bcells_length, evC, evV, kC, evS]; done) | (simp [bcells_length, evC, evV, kC, evS]; omega) | (simp [bcells_length, *, evC, evV, kC, evS]; done))) (formed_of Try.underlying151 rfl (by kernel_rfl : Try.prog.cellsOf 151 = 2) (by first | rfl | (simp [bcells_length, evC, evV, kC, evS]; done) | (simp [bcells_length, evC, evV, kC, evS]; omega) | (simp [bcells_length, *, evC, evV, kC, evS]; done))) rfl rfl (key_k a gka) (key_k b gkb)) ?_
    refine GQ_done rfl ?_
    refine G_ifD rfl (fun hc3 => ?_) (fun hc3 => ?_)
    · skip
      refine G_seq ?_
      refine G_region (l := [0]) rfl ?_
      refine G_val rfl rfl rfl rfl (V_assign rfl rfl) ?_
      refine G_done ?_
      refine G_ret (post := []) Try.func93 rfl (RVs_cons (RV_tmp rfl) RVs_nil) [] rfl ?_
      dsimp only [packed]
      first
        | exact ⟨bool_eq (decide_eq_false (ne_len (by omega))).symm, rfl⟩
        | exact ⟨bool_eq (decide_eq_false (ne_at ha hb (fun h => (by assumption : ¬ kLits a = kLits b) (by rw [h])))).symm, rfl⟩
        | exact ⟨bool_eq (decide_eq_true (eq_end ht (by omega) (by omega))).symm, rfl⟩
    refine G_skip ?_
    refine G_inBlock ?_
    refine G_region (l := [0, 1]) rfl ?_
    first
      | refine G_val rfl rfl rfl rfl ((V_add rfl rfl rfl).int (wrap_i64 (by omega))) ?_
      | refine G_val rfl rfl rfl rfl (V_add rfl rfl rfl) ?_
    refine G_val rfl rfl rfl rfl (V_move rfl rfl) ?_
    refine G_done ?_
    refine G_sub ?_ [] ?_ (ih (j + 1) ?_ ?_)
    · (try rw [hsa, hsb]); (refine (And.intro rfl (And.intro rfl (And.intro rfl (And.intro rfl trivial)))))
    · exact ⟨_, rfl⟩
    · exact ⟨by omega, eq_next ht ha hb (kLits_inj (Classical.not_not.1 (by assumption)))⟩
    · (first | omega | (dsimp only; omega))
  refine G_exit rfl ?_
  refine G_seq ?_
  refine G_region (l := [0]) rfl ?_
  refine G_val rfl rfl rfl rfl (V_assign rfl rfl) ?_
  refine G_done ?_
  refine G_ret (post := []) Try.func93 rfl (RVs_cons (RV_tmp rfl) RVs_nil) [] rfl ?_
  dsimp only [packed]
  first
    | exact ⟨bool_eq (decide_eq_false (ne_len (by omega))).symm, rfl⟩
    | exact ⟨bool_eq (decide_eq_false (ne_at ha hb (fun h => (by assumption : ¬ kLits a = kLits b) (by rw [h])))).symm, rfl⟩
    | exact ⟨bool_eq (decide_eq_true (eq_end ht (by omega) (by omega))).symm, rfl⟩

set_option maxRecDepth 100000 in
set_option maxHeartbeats 1000000 in
theorem sc_same1 (x y : Em) (hxo : EmOk x) (hyo : EmOk y) :
    Ct Try.prog 92 [.agg (evC x).toArray, .agg (evC y).toArray] [evK x, evK y] [] fun v post => v = .bool (decide (x.v = y.v)) ∧ post = [] := by
 refine ct_of Try.func92 rfl rfl (fun w0 => ?_)
 show G _ _ [(0, _), (1, _)] _ _
 refine G_seq ?_
 refine G_region (l := [0, 1, 2]) rfl ?_
 refine G_new rfl rfl rfl rfl (N_boxA rfl rfl) (fun b2 => ?_)
 refine G_new rfl rfl rfl rfl (N_boxA rfl rfl) (fun b3 => ?_)
 refine G_val rfl rfl rfl rfl (V_assign rfl rfl) ?_
 refine G_done ?_
 refine G_seq ?_
 refine G_region (l := [0, 1, 2, 3, 4, 5, 6, 7, 8, 9, 10, 11, 12, 13, 14, 15, 16, 17, 18, 19, 20, 21, 22, 23, 24, 25, 26, 27, 28, 29, 30, 31, 32, 33]) rfl ?_
 refine G_val rfl rfl rfl rfl (V_fieldAddr (fo := 0) rfl Try.underlying58 rfl infScriptS_3 rfl rfl rfl) ?_
 refine G_val rfl rfl rfl rfl (V_load1 rfl rfl (mem_at 3 rfl) rfl Try.underlying3 rfl) ?_
 refine G_val rfl rfl rfl rfl (V_fieldAddr (fo := 0) rfl Try.underlying58 rfl infScriptS_3 rfl rfl rfl) ?_
 refine G_val rfl rfl rfl rfl (V_load1 rfl rfl (mem_at 2 rfl) rfl Try.underlying3 rfl) ?_
 refine G_val rfl rfl rfl rfl (V_eql rfl rfl rfl) ?_
 refine G_val rfl rfl rfl rfl (V_move rfl rfl) ?_
 refine G_splitD 10 rfl (fun hc1 => ?_) (fun hc1 => ?_)
 · skip
   refine G_val rfl rfl rfl rfl (V_fieldAddr (fo := 1) rfl Try.underlying58 rfl infScriptS_9 rfl rfl rfl) ?_
   refine G_val rfl rfl rfl rfl (V_load1 rfl rfl (mem_at 3 rfl) rfl Try.underlying9 rfl) ?_
   refine G_val rfl rfl rfl rfl (V_fieldAddr (fo := 1) rfl Try.underlying58 rfl infScriptS_9 rfl rfl rfl) ?_
   refine G_val rfl rfl rfl rfl (V_load1 rfl rfl (mem_at 2 rfl) rfl Try.underlying9 rfl) ?_
   refine G_val rfl rfl rfl rfl (V_seql rfl rfl rfl) ?_
   refine G_val rfl rfl rfl rfl (V_pickT rfl rfl rfl) ?_
   refine G_val rfl rfl rfl rfl (V_move rfl rfl) ?_
   refine G_splitD 17 rfl (fun hc2 => ?_) (fun hc2 => ?_)
   · skip
     refine G_val rfl rfl rfl rfl (V_fieldAddr (fo := 2) rfl Try.underlying58 rfl infScriptS_23 rfl rfl rfl) ?_
     refine G_val rfl rfl rfl rfl (V_load1 rfl rfl (mem_at 3 rfl) rfl Try.underlying23 rfl) ?_
     refine G_val rfl rfl rfl rfl (V_fieldAddr (fo := 2) rfl Try.underlying58 rfl infScriptS_23 rfl rfl rfl) ?_
     refine G_val rfl rfl rfl rfl (V_load1 rfl rfl (mem_at 2 rfl) rfl Try.underlying23 rfl) ?_
     refine G_val rfl rfl rfl rfl (V_eql rfl rfl rfl) ?_
     refine G_val rfl rfl rfl rfl (V_pickT rfl rfl rfl) ?_
     refine G_val rfl rfl rfl rfl (V_move rfl rfl) ?_
     refine G_splitD 24 rfl (fun hc3 => ?_) (fun hc3 => ?_)
     · skip
       refine G_val rfl rfl rfl rfl (V_fieldAddr (fo := 3) rfl Try.underlying58 rfl infScriptS_3 rfl rfl rfl) ?_
       refine G_val rfl rfl rfl rfl (V_load1 rfl rfl (mem_at 3 rfl) rfl Try.underlying3 rfl) ?_
       refine G_val rfl rfl rfl rfl (V_fieldAddr (fo := 3) rfl Try.underlying58 rfl infScriptS_3 rfl rfl rfl) ?_
       refine G_val rfl rfl rfl rfl (V_load1 rfl rfl (mem_at 2 rfl) rfl Try.underlying3 rfl) ?_
       refine G_val rfl rfl rfl rfl (V_eql rfl rfl rfl) ?_
       refine G_val rfl rfl rfl rfl (V_pickT rfl rfl rfl) ?_
       refine G_val rfl rfl rfl rfl (V_move rfl rfl) ?_
       refine G_splitD 31 rfl (fun hc4 => ?_) (fun hc4 => ?_)
       · skip
         refine G_val rfl rfl rfl rfl (V_fieldAddr (fo := 4) rfl Try.underlying58 rfl infScriptS_56 rfl rfl rfl) ?_
         refine G_val rfl rfl rfl rfl (V_load1 rfl rfl (mem_at 3 rfl) rfl Try.underlying56 rfl) ?_
         refine G_val rfl rfl rfl rfl (V_fieldAddr (fo := 4) rfl Try.underlying58 rfl infScriptS_56 rfl rfl rfl) ?_
         refine G_val rfl rfl rfl rfl (V_load1 rfl rfl (mem_at 2 rfl) rfl Try.underlying56 rfl) ?_
         refine G_call (L2 := [_, _]) rfl rfl rfl rfl rfl rfl Try.call93 (sc_eqK x y hxo hyo) [] [0, 1] rfl rfl ?_
         rintro v post ⟨rfl, rfl⟩
         show G _ _ _ [_, _] _
         refine G_val rfl rfl rfl rfl (V_pickT rfl rfl rfl) ?_
         refine G_val rfl rfl rfl rfl (V_assign rfl rfl) ?_
         refine G_done ?_
         refine G_ret (post := []) Try.func92 rfl (RVs_cons (RV_tmp rfl) RVs_nil) [] rfl ?_
         dsimp only [packed]
         first
           | exact ⟨bool_eq (decide_eq_false (ev_ne (by first | exact .inl (by assumption) | exact .inr (.inl (by assumption)) | exact .inr (.inr (.inl (by assumption))) | exact .inr (.inr (.inr (.inl (by assumption))))))).symm, rfl⟩
           | exact ⟨bool_eq (decide_eq_decide.2 ⟨fun h => ev_eq (by assumption) (by assumption) (by assumption) (by assumption) h, fun h => by rw [h]⟩), rfl⟩
       refine G_off rfl rfl rfl rfl ?_
       refine G_off rfl rfl rfl rfl ?_
       refine G_off rfl rfl rfl rfl ?_
       refine G_off rfl rfl rfl rfl ?_
       refine G_off rfl rfl rfl rfl ?_
       refine G_val rfl rfl rfl rfl (V_pickF rfl rfl rfl) ?_
       refine G_val rfl rfl rfl rfl (V_assign rfl rfl) ?_
       refine G_done ?_
       refine G_ret (post := []) Try.func92 rfl (RVs_cons (RV_tmp rfl) RVs_nil) [] rfl ?_
       dsimp only [packed]
       first
         | exact ⟨bool_eq (decide_eq_false (ev_ne (by first | exact .inl (by assumption) | exact .inr (.inl (by assumption)) | exact .inr (.inr (.inl (by assumption))) | exact .inr (.inr (.inr (.inl (by assumption))))))).symm, rfl⟩
         | exact ⟨bool_eq (decide_eq_decide.2 ⟨fun h => ev_eq (by assumption) (by assumption) (by assumption) (by assumption) h, fun h => by rw [h]⟩), rfl⟩
     refine G_off rfl rfl rfl rfl ?_
     refine G_off rfl rfl rfl rfl ?_
     refine G_off rfl rfl rfl rfl ?_
     refine G_off rfl rfl rfl rfl ?_
     refine G_off rfl rfl rfl rfl ?_
     refine G_val rfl rfl rfl rfl (V_pickF rfl rfl rfl) ?_
     refine G_val rfl rfl rfl rfl (V_move rfl rfl) ?_
     refine G_off rfl rfl rfl rfl ?_
     refine G_off rfl rfl rfl rfl ?_
     refine G_off rfl rfl rfl rfl ?_
     refine G_off rfl rfl rfl rfl ?_
     refine G_off rfl rfl rfl rfl ?_
     refine G_val rfl rfl rfl rfl (V_pickF rfl rfl rfl) ?_
     refine G_val rfl rfl rfl rfl (V_assign rfl rfl) ?_
     refine G_done ?_
     refine G_ret (post := []) Try.func92 rfl (RVs_cons (RV_tmp rfl) RVs_nil) [] rfl ?_
     dsimp only [packed]
     first
       | exact ⟨bool_eq (decide_eq_false (ev_ne (by first | exact .inl (by assumption) | exact .inr (.inl (by assumption)) | exact .inr (.inr (.inl (by assumption))) | exact .inr (.inr (.inr (.inl (by assumption))))))).symm, rfl⟩
       | exact ⟨bool_eq (decide_eq_decide.2 ⟨fun h => ev_eq (by assumption) (by assumption) (by assumption) (by assumption) h, fun h => by rw [h]⟩), rfl⟩
   refine G_off rfl rfl rfl rfl ?_
   refine G_off rfl rfl rfl rfl ?_
   refine G_off rfl rfl rfl rfl ?_
   refine G_off rfl rfl rfl rfl ?_
   refine G_off rfl rfl rfl rfl ?_
   refine G_val rfl rfl rfl rfl (V_pickF rfl rfl rfl) ?_
   refine G_val rfl rfl rfl rfl (V_move rfl rfl) ?_
   refine G_off rfl rfl rfl rfl ?_
   refine G_off rfl rfl rfl rfl ?_
   refine G_off rfl rfl rfl rfl ?_
   refine G_off rfl rfl rfl rfl ?_
   refine G_off rfl rfl rfl rfl ?_
   refine G_val rfl rfl rfl rfl (V_pickF rfl rfl rfl) ?_
   refine G_val rfl rfl rfl rfl (V_move rfl rfl) ?_
   refine G_off rfl rfl rfl rfl ?_
   refine G_off rfl rfl rfl rfl ?_
   refine G_off rfl rfl rfl rfl ?_
   refine G_off rfl rfl rfl rfl ?_
   refine G_off rfl rfl rfl rfl ?_
   refine G_val rfl rfl rfl rfl (V_pickF rfl rfl rfl) ?_
   refine G_val rfl rfl rfl rfl (V_assign rfl rfl) ?_
   refine G_done ?_
   refine G_ret (post := []) Try.func92 rfl (RVs_cons (RV_tmp rfl) RVs_nil) [] rfl ?_
   dsimp only [packed]
   first
     | exact ⟨bool_eq (decide_eq_false (ev_ne (by first | exact .inl (by assumption) | exact .inr (.inl (by assumption)) | exact .inr (.inr (.inl (by assumption))) | exact .inr (.inr (.inr (.inl (by assumption))))))).symm, rfl⟩
     | exact ⟨bool_eq (decide_eq_decide.2 ⟨fun h => ev_eq (by assumption) (by assumption) (by assumption) (by assumption) h, fun h => by rw [h]⟩), rfl⟩
 refine G_off rfl rfl rfl rfl ?_
 refine G_off rfl rfl rfl rfl ?_
 refine G_off rfl rfl rfl rfl ?_
 refine G_off rfl rfl rfl rfl ?_
 refine G_off rfl rfl rfl rfl ?_
 refine G_val rfl rfl rfl rfl (V_pickF rfl rfl rfl) ?_
 refine G_val rfl rfl rfl rfl (V_move rfl rfl) ?_
 refine G_off rfl rfl rfl rfl ?_
 refine G_off rfl rfl rfl rfl ?_
 refine G_off rfl rfl rfl rfl ?_
 refine G_off rfl rfl rfl rfl ?_
 refine G_off rfl rfl rfl rfl ?_
 refine G_val rfl rfl rfl rfl (V_pickF rfl rfl rfl) ?_
 refine G_val rfl rfl rfl rfl (V_move rfl rfl) ?_
 refine G_off rfl rfl rfl rfl ?_
 refine G_off rfl rfl rfl rfl ?_
 refine G_off rfl rfl rfl rfl ?_
 refine G_off rfl rfl rfl rfl ?_
 refine G_off rfl rfl rfl rfl ?_
 refine G_val rfl rfl rfl rfl (V_pickF rfl rfl rfl) ?_
 refine G_val rfl rfl rfl rfl (V_move rfl rfl) ?_
 refine G_off rfl rfl rfl rfl ?_
 refine G_off rfl rfl rfl rfl ?_
 refine G_off rfl rfl rfl rfl ?_
 refine G_off rfl rfl rfl rfl ?_
 refine G_off rfl rfl rfl rfl ?_
 refine G_val rfl rfl rfl rfl (V_pickF rfl rfl rfl) ?_
 refine G_val rfl rfl rfl rfl (V_assign rfl rfl) ?_
 refine G_done ?_
 refine G_ret (post := []) Try.func92 rfl (RVs_cons (RV_tmp rfl) RVs_nil) [] rfl ?_
 dsimp only [packed]
 first
   | exact ⟨bool_eq (decide_eq_false (ev_ne (by first | exact .inl (by assumption) | exact .inr (.inl (by assumption)) | exact .inr (.inr (.inl (by assumption))) | exact .inr (.inr (.inr (.inl (by assumption))))))).symm, rfl⟩
   | exact ⟨bool_eq (decide_eq_decide.2 ⟨fun h => ev_eq (by assumption) (by assumption) (by assumption) (by assumption) h, fun h => by rw [h]⟩), rfl⟩

set_option maxRecDepth 100000 in
set_option maxHeartbeats 1000000 in
theorem sc_eqE (o1 : Option Nat) (p1 q1 : Nat) (c1 : Array Value) (T1 : TypeId) (f1 : Nat × Nat) (ms : List Em) (h1 : Sees 5 o1 p1 q1 c1 (ms.flatMap evC) ms.length) (ok1 : ∀ m ∈ ms, EmOk m) (o2 : Option Nat) (p2 q2 : Nat) (c2 : Array Value) (T2 : TypeId) (f2 : Nat × Nat) (ns : List Em) (h2 : Sees 5 o2 p2 q2 c2 (ns.flatMap evC) ns.length) (ok2 : ∀ m ∈ ns, EmOk m) :
    Ct Try.prog 91 [sv o1 p1 ms.length q1, sv o2 p2 ns.length q2, .func (.func 92) #[] #[]] ((o1, .cells c1 T1 f1) :: (o2, .cells c2 T2 f2) :: (ms.map evK ++ ns.map evK)) [] fun v post => v = .bool (decide (evsOf ms = evsOf ns)) ∧ post = [] := by
 have hl1 := h1.le
 have hl2 := h1.max
 have hl3 := h2.le
 have hl4 := h2.max
 refine ct_of Try.func91 rfl rfl (fun w0 => ?_)
 show G _ _ [(0, _), (1, _), (2, _)] _ _
 refine G_seq ?_
 refine G_region (l := [0]) rfl ?_
 refine G_val rfl rfl rfl rfl (V_assign rfl rfl) ?_
 refine G_done ?_
 refine G_seq ?_
 refine G_seq ?_
 refine G_region (l := [0, 1, 2, 3, 4]) rfl ?_
 refine G_val rfl rfl rfl rfl (V_move rfl rfl) ?_
 refine G_val rfl rfl rfl rfl (V_len rfl rfl Try.underlying53 rfl) ?_
 refine G_val rfl rfl rfl rfl (V_move rfl rfl) ?_
 refine G_val rfl rfl rfl rfl (V_len rfl rfl Try.underlying53 rfl) ?_
 refine G_val rfl rfl rfl rfl (V_neq rfl rfl rfl) ?_
 refine G_done ?_
 refine G_ifD rfl (fun hc1 => ?_) (fun hc1 => ?_)
 · skip
   refine G_seq ?_
   refine G_region (l := [0]) rfl ?_
   refine G_val rfl rfl rfl rfl (V_assign rfl rfl) ?_
   refine G_done ?_
   refine G_ret (post := []) Try.func91 rfl (RVs_cons (RV_tmp rfl) RVs_nil) [] rfl ?_
   dsimp only [packed]
   first
     | exact ⟨bool_eq (decide_eq_false (evs_ne (by omega))).symm, rfl⟩
     | exact ⟨bool_eq (decide_eq_false (ne_at hvx hvy (by first | assumption | exact ev_ne (by first | exact .inl (by assumption) | exact .inr (.inl (by assumption)) | exact .inr (.inr (.inl (by assumption))) | exact .inr (.inr (.inr (.inl (by assumption)))) | exact .inr (.inr (.inr (.inr (ne_len (by omega))))) | exact .inr (.inr (.inr (.inr (ne_at ha hb (fun h => (by assumption : ¬ kLits a = kLits b) (by rw [h]))))))))) ).symm, rfl⟩
     | exact ⟨bool_eq (decide_eq_true (eq_end ht (by rw [evs_len]; omega) (by rw [evs_len, evs_len]; omega))).symm, rfl⟩
 refine G_skip ?_
 refine G_seq ?_
 refine G_seq ?_
 refine G_region (l := [0, 1, 2]) rfl ?_
 refine G_val rfl rfl rfl rfl (V_move rfl rfl) ?_
 refine G_val rfl rfl rfl rfl (V_len rfl rfl Try.underlying53 rfl) ?_
 refine G_val rfl rfl rfl rfl (V_move rfl rfl) ?_
 refine G_done ?_
 refine G_block ?_
 refine G_sub ?he4 [] ?hl4 (G_loop (X := Nat) (fun i => i ≤ ms.length ∧ (evsOf ms).take i = (evsOf ns).take i) (fun i => ms.length - i) (fun i => [(0, sv o1 p1 ms.length q1), (1, sv o2 p2 ns.length q2), (2, .func (.func 92) #[] #[]), (15, sv o1 p1 ms.length q1), (16, .int .i64 (ms.length : Int)), (17, .int .i64 (i : Int))]) (fun i => []) ?round4 0 ?h04)
 case he4 => exact (And.intro rfl (And.intro rfl (And.intro rfl (And.intro rfl (And.intro rfl (And.intro rfl trivial))))))
 case hl4 => exact ⟨_, rfl⟩
 case h04 => exact ⟨Nat.zero_le _, rfl⟩
 case round4 =>
  intro i hJ ih
  try dsimp only at hJ ih
  obtain ⟨hi, ht⟩ := hJ
  refine G_seq ?_
  refine G_region (l := [0]) rfl ?_
  refine G_val rfl rfl rfl rfl (V_lss rfl rfl rfl) ?_
  refine G_done ?_
  refine G_seq ?_
  refine G_ifD rfl (fun hc2 => ?_) (fun hc2 => ?_)
  · skip
    refine G_skip ?_
    refine G_seq ?_
    refine G_block ?_
    refine G_seq ?_
    obtain ⟨x, hx⟩ := getI (show i < ms.length by omega)
    obtain ⟨y, hy⟩ := getI (show i < ns.length by omega)
    obtain ⟨b1, rfl⟩ := h1.isSome (by omega)
    obtain ⟨b2, rfl⟩ := h2.isSome (by omega)
    have hxo := ok1 x (List.mem_of_getElem? hx)
    have hyo := ok2 y (List.mem_of_getElem? hy)
    have hvx := evs_at hx
    have hvy := evs_at hy
    have hxl := hxo.le
    have hxm := hxo.max
    refine G_region (l := [0, 1, 2, 3, 4, 5]) rfl ?_
    refine G_val rfl rfl rfl rfl (V_move rfl rfl) ?_
    first
      | refine G_val rfl rfl rfl rfl (V_indexAddrN (s := 5) rfl Try.underlying53 infScriptS_58 rfl rfl rfl rfl (by omega)) ?_
      | refine G_val rfl rfl rfl rfl (V_indexAddr (s := 5) rfl Try.underlying53 infScriptS_58 rfl rfl rfl (by omega) (by first | omega | (simp [evC, evV, kC, evS]; done) | (simp [evC, evV, kC, evS]; omega) | (simp [evC, evV, kC, evS] at *; omega))) ?_
    refine G_val rfl rfl rfl rfl (V_loadA (s := 5) (vs := (evC x).toArray) rfl rfl (List.mem_append_left _ (mem_at 0 rfl)) Try.underlying58 rfl infScriptS_58 rfl (h1.elem evC_len hx) (by first | rfl | (simp [bcells_length, evC, evV, kC, evS]; done) | (simp [bcells_length, evC, evV, kC, evS]; omega) | (simp [bcells_length, *, evC, evV, kC, evS]; done))) ?_
    refine G_new rfl rfl rfl rfl (N_allocA rfl infScriptS_58 rfl) (fun b8 => ?_)
    refine G_val rfl rfl rfl rfl (V_assign rfl rfl) ?_
    refine G_put (l1 := []) (L' := [_]) rfl rfl rfl rfl (P_storeA (s := 5) rfl rfl rfl (mem_at 0 rfl) (by first | rfl | (simp [bcells_length, evC, evV, kC, evS]; done) | (simp [bcells_length, evC, evV, kC, evS]; omega) | (simp [bcells_length, *, evC, evV, kC, evS]; done)) infScriptS_58 rfl (by first | rfl | (simp [bcells_length, evC, evV, kC, evS]; done) | (simp [bcells_length, evC, evV, kC, evS]; omega) | (simp [bcells_length, *, evC, evV, kC, evS]; done)) (by first | rfl | exact bcells_all _ | (simp [Value.oneCell', evC, evV, kC, evS]; done) | (simp [Value.oneCell', *, evC, evV, kC, evS]; done))) rfl ?_
    refine G_done ?_
    refine G_seq ?_
    refine G_region (l := [0, 1, 2, 3, 4, 5]) rfl ?_
    refine G_val rfl rfl rfl rfl (V_move rfl rfl) ?_
    refine G_val rfl rfl rfl rfl (V_move rfl rfl) ?_
    first
      | refine G_val rfl rfl rfl rfl (V_indexAddrN (s := 5) rfl Try.underlying53 infScriptS_58 rfl rfl rfl rfl (by omega)) ?_
      | refine G_val rfl rfl rfl rfl (V_indexAddr (s := 5) rfl Try.underlying53 infScriptS_58 rfl rfl rfl (by omega) (by first | omega | (simp [evC, evV, kC, evS]; done) | (simp [evC, evV, kC, evS]; omega) | (simp [evC, evV, kC, evS] at *; omega))) ?_
    refine G_val rfl rfl rfl rfl (V_loadA (s := 5) (vs := (evC y).toArray) rfl rfl (List.mem_append_left _ (mem_at 1 rfl)) Try.underlying58 rfl infScriptS_58 rfl (h2.elem evC_len hy) (by first | rfl | (simp [bcells_length, evC, evV, kC, evS]; done) | (simp [bcells_length, evC, evV, kC, evS]; omega) | (simp [bcells_length, *, evC, evV, kC, evS]; done))) ?_
    refine G_new rfl rfl rfl rfl (N_allocA rfl infScriptS_58 rfl) (fun b9 => ?_)
    refine G_put (l1 := []) (L' := [_, _]) rfl rfl rfl rfl (P_storeA (s := 5) rfl rfl rfl (mem_at 0 rfl) (by first | rfl | (simp [bcells_length, evC, evV, kC, evS]; done) | (simp [bcells_length, evC, evV, kC, evS]; omega) | (simp [bcells_length, *, evC, evV, kC, evS]; done)) infScriptS_58 rfl (by first | rfl | (simp [bcells_length, evC, evV, kC, evS]; done) | (simp [bcells_length, evC, evV, kC, evS]; omega) | (simp [bcells_length, *, evC, evV, kC, evS]; done)) (by first | rfl | exact bcells_all _ | (simp [Value.oneCell', evC, evV, kC, evS]; done) | (simp [Value.oneCell', *, evC, evV, kC, evS]; done))) rfl ?_
    refine G_done ?_
    refine G_seq ?_
    refine G_region (l := [0, 1, 2, 3, 4]) rfl ?_
    refine G_val rfl rfl rfl rfl (V_move rfl rfl) ?_
    first
      | refine G_val rfl rfl rfl rfl (V_loadW (s := 5) rfl rfl (List.mem_append_right _ (mem_at 1 rfl)) Try.underlying58 rfl infScriptS_58 rfl (by first | rfl | (simp [bcells_length, evC, evV, kC, evS]; done) | (simp [bcells_length, evC, evV, kC, evS]; omega) | (simp [bcells_length, *, evC, evV, kC, evS]; done))) ?_
      | refine G_val rfl rfl rfl rfl (V_loadA (s := 5) rfl rfl (List.mem_append_right _ (mem_at 1 rfl)) Try.underlying58 rfl infScriptS_58 rfl rfl (by first | rfl | (simp [bcells_length, evC, evV, kC, evS]; done) | (simp [bcells_length, evC, evV, kC, evS]; omega) | (simp [bcells_length, *, evC, evV, kC, evS]; done))) ?_
    first
      | refine G_val rfl rfl rfl rfl (V_loadW (s := 5) rfl rfl (List.mem_append_right _ (mem_at 0 rfl)) Try.underlying58 rfl infScriptS_58 rfl (by first | rfl | (simp [bcells_length, evC, evV, kC, evS]; done) | (simp [bcells_length, evC, evV, kC, evS]; omega) | (simp [bcells_length, *, evC, evV, kC, evS]; done))) ?_
      | refine G_val rfl rfl rfl rfl (V_loadA (s := 5) rfl rfl (List.mem_append_right _ (mem_at 0 rfl)) Try.underlying58 rfl infScriptS_58 rfl rfl (by first | rfl | (simp [bcells_length, evC, evV, kC, evS]; done) | (simp [bcells_length, evC, evV, kC, evS]; omega) | (simp [bcells_length, *, evC, evV, kC, evS]; done))) ?_
    refine G_callMC (L2 := [_, _]) rfl rfl rfl rfl rfl rfl Try.call92 rfl (sc_same1 x y hxo hyo) [] rfl (subA_cons (List.mem_append_left _ (List.mem_cons_of_mem _ (List.mem_cons_of_mem _ (List.mem_append_left _ (List.mem_map.2 ⟨x, List.mem_of_getElem? hx, rfl⟩))))) (subA_cons (List.mem_append_left _ (List.mem_cons_of_mem _ (List.mem_cons_of_mem _ (List.mem_append_right _ (List.mem_map.2 ⟨y, List.mem_of_getElem? hy, rfl⟩))))) subA_nil)) ?_
    rintro v post ⟨rfl, rfl⟩
    show G _ _ _ [_, _] _
    refine G_val rfl rfl rfl rfl (V_notD rfl rfl) ?_
    refine G_done ?_
    refine G_ifD rfl (fun hc3 => ?_) (fun hc3 => ?_)
    · skip
      refine G_seq ?_
      refine G_region (l := [0]) rfl ?_
      refine G_val rfl rfl rfl rfl (V_assign rfl rfl) ?_
      refine G_done ?_
      refine G_ret (post := []) Try.func91 rfl (RVs_cons (RV_tmp rfl) RVs_nil) [] rfl ?_
      dsimp only [packed]
      first
        | exact ⟨bool_eq (decide_eq_false (evs_ne (by omega))).symm, rfl⟩
        | exact ⟨bool_eq (decide_eq_false (ne_at hvx hvy (by first | assumption | exact ev_ne (by first | exact .inl (by assumption) | exact .inr (.inl (by assumption)) | exact .inr (.inr (.inl (by assumption))) | exact .inr (.inr (.inr (.inl (by assumption)))) | exact .inr (.inr (.inr (.inr (ne_len (by omega))))) | exact .inr (.inr (.inr (.inr (ne_at ha hb (fun h => (by assumption : ¬ kLits a = kLits b) (by rw [h]))))))))) ).symm, rfl⟩
        | exact ⟨bool_eq (decide_eq_true (eq_end ht (by rw [evs_len]; omega) (by rw [evs_len, evs_len]; omega))).symm, rfl⟩
    refine G_skip ?_
    refine G_inBlock ?_
    refine G_region (l := [0, 1]) rfl ?_
    first
      | refine G_val rfl rfl rfl rfl ((V_add rfl rfl rfl).int (wrap_i64 (by omega))) ?_
      | refine G_val rfl rfl rfl rfl (V_add rfl rfl rfl) ?_
    refine G_val rfl rfl rfl rfl (V_move rfl rfl) ?_
    refine G_done ?_
    refine G_sub ?_ [] ?_ (ih (i + 1) ?_ ?_)
    · (refine (And.intro ?_ (And.intro ?_ (And.intro ?_ (And.intro ?_ (And.intro ?_ (And.intro ?_ trivial)))))) <;> first | rfl | exact slot_int (by omega) | exact slot_int (by simp))
    · exact ⟨_, rfl⟩
    · exact ⟨by omega, eq_next ht hvx hvy (Classical.not_not.1 (by assumption))⟩
    · (first | omega | (dsimp only; omega))
  refine G_exit rfl ?_
  refine G_seq ?_
  refine G_region (l := [0]) rfl ?_
  refine G_val rfl rfl rfl rfl (V_assign rfl rfl) ?_
  refine G_done ?_
  refine G_ret (post := []) Try.func91 rfl (RVs_cons (RV_tmp rfl) RVs_nil) [] rfl ?_
  dsimp only [packed]
  first
    | exact ⟨bool_eq (decide_eq_false (evs_ne (by omega))).symm, rfl⟩
    | exact ⟨bool_eq (decide_eq_false (ne_at hvx hvy (by first | assumption | exact ev_ne (by first | exact .inl (by assumption) | exact .inr (.inl (by assumption)) | exact .inr (.inr (.inl (by assumption))) | exact .inr (.inr (.inr (.inl (by assumption)))) | exact .inr (.inr (.inr (.inr (ne_len (by omega))))) | exact .inr (.inr (.inr (.inr (ne_at ha hb (fun h => (by assumption : ¬ kLits a = kLits b) (by rw [h]))))))))) ).symm, rfl⟩
    | exact ⟨bool_eq (decide_eq_true (eq_end ht (by rw [evs_len]; omega) (by rw [evs_len, evs_len]; omega))).symm, rfl⟩

set_option maxRecDepth 100000 in
set_option maxHeartbeats 1000000 in
theorem sc_same (o1 : Option Nat) (p1 q1 : Nat) (c1 : Array Value) (T1 : TypeId) (f1 : Nat × Nat) (ms : List Em) (h1 : Sees 5 o1 p1 q1 c1 (ms.flatMap evC) ms.length) (ok1 : ∀ m ∈ ms, EmOk m) (o2 : Option Nat) (p2 q2 : Nat) (c2 : Array Value) (T2 : TypeId) (f2 : Nat × Nat) (ns : List Em) (h2 : Sees 5 o2 p2 q2 c2 (ns.flatMap evC) ns.length) (ok2 : ∀ m ∈ ns, EmOk m) :
    Ct Try.prog 31 [sv o1 p1 ms.length q1, sv o2 p2 ns.length q2] ((o1, .cells c1 T1 f1) :: (o2, .cells c2 T2 f2) :: (ms.map evK ++ ns.map evK)) [] fun v post => v = .bool (decide (evsOf ms = evsOf ns)) ∧ post = [] := by
 refine ct_of Try.func31 rfl rfl (fun w0 => ?_)
 show G _ _ [(0, _), (1, _)] _ _
 refine G_seq ?_
 refine G_region (l := [0]) rfl ?_
 refine G_val rfl rfl rfl rfl (V_assign rfl rfl) ?_
 refine G_done ?_
 refine G_seq ?_
 refine G_region (l := [0, 1, 2, 3]) rfl ?_
 refine G_val rfl rfl rfl rfl (V_move rfl rfl) ?_
 refine G_val rfl rfl rfl rfl (V_move rfl rfl) ?_
 refine G_callM (L2 := []) rfl rfl rfl rfl rfl rfl Try.call91 (sc_eqE _ _ _ _ _ _ ms h1 ok1 _ _ _ _ _ _ ns h2 ok2) [] rfl (fun x hx => List.mem_append_left _ hx) ?_
 rintro v post ⟨rfl, rfl⟩
 refine G_val rfl rfl rfl rfl (V_assign rfl rfl) ?_
 refine G_done ?_
 refine G_ret (post := []) Try.func31 rfl (RVs_cons (RV_tmp rfl) RVs_nil) [] rfl ?_
 dsimp only [packed]
 exact ⟨rfl, rfl⟩

set_option maxRecDepth 100000 in
set_option maxHeartbeats 1000000 in
theorem rsc_same (o1 : Option Nat) (p1 q1 : Nat) (c1 : Array Value) (T1 : TypeId) (f1 : Nat × Nat) (ms : List Em) (h1 : Sees 5 o1 p1 q1 c1 (ms.flatMap evC) ms.length) (ok1 : ∀ m ∈ ms, EmOk m) (o2 : Option Nat) (p2 q2 : Nat) (c2 : Array Value) (T2 : TypeId) (f2 : Nat × Nat) (ns : List Em) (h2 : Sees 5 o2 p2 q2 c2 (ns.flatMap evC) ns.length) (ok2 : ∀ m ∈ ns, EmOk m) :
    Ct Try.prog 27 [sv o1 p1 ms.length q1, sv o2 p2 ns.length q2] ((o1, .cells c1 T1 f1) :: (o2, .cells c2 T2 f2) :: (ms.map evK ++ ns.map evK)) [] fun v post => v = .bool (decide (evsOf ms = evsOf ns)) ∧ post = [] := by
 have hl1 := h1.le
 have hl2 := h1.max
 have hl3 := h2.le
 have hl4 := h2.max
 refine ct_of Try.func27 rfl rfl (fun w0 => ?_)
 show G _ _ [(0, _), (1, _)] _ _
 refine G_seq ?_
 refine G_region (l := [0]) rfl ?_
 refine G_val rfl rfl rfl rfl (V_assign rfl rfl) ?_
 refine G_done ?_
 refine G_seq ?_
 refine G_seq ?_
 refine G_region (l := [0, 1, 2, 3, 4]) rfl ?_
 refine G_val rfl rfl rfl rfl (V_move rfl rfl) ?_
 refine G_val rfl rfl rfl rfl (V_len rfl rfl Try.underlying53 rfl) ?_
 refine G_val rfl rfl rfl rfl (V_move rfl rfl) ?_
 refine G_val rfl rfl rfl rfl (V_len rfl rfl Try.underlying53 rfl) ?_
 refine G_val rfl rfl rfl rfl (V_neq rfl rfl rfl) ?_
 refine G_done ?_
 refine G_ifD rfl (fun hc1 => ?_) (fun hc1 => ?_)
 · skip
   refine G_seq ?_
   refine G_region (l := [0]) rfl ?_
   refine G_val rfl rfl rfl rfl (V_assign rfl rfl) ?_
   refine G_done ?_
   refine G_ret (post := []) Try.func27 rfl (RVs_cons (RV_tmp rfl) RVs_nil) [] rfl ?_
   dsimp only [packed]
   first
     | exact ⟨bool_eq (decide_eq_false (evs_ne (by omega))).symm, rfl⟩
     | exact ⟨bool_eq (decide_eq_false (ne_at hvx hvy (by first | assumption | exact ev_ne (by first | exact .inl (by assumption) | exact .inr (.inl (by assumption)) | exact .inr (.inr (.inl (by assumption))) | exact .inr (.inr (.inr (.inl (by assumption)))) | exact .inr (.inr (.inr (.inr (ne_len (by omega))))) | exact .inr (.inr (.inr (.inr (ne_at ha hb (fun h => (by assumption : ¬ kLits a = kLits b) (by rw [h]))))))))) ).symm, rfl⟩
     | exact ⟨bool_eq (decide_eq_true (eq_end ht (by rw [evs_len]; omega) (by rw [evs_len, evs_len]; omega))).symm, rfl⟩
 refine G_skip ?_
 refine G_seq ?_
 refine G_seq ?_
 refine G_region (l := [0]) rfl ?_
 refine G_val rfl rfl rfl rfl (V_assign rfl rfl) ?_
 refine G_done ?_
 refine G_block ?_
 refine G_sub ?he4 [] ?hl4 (G_loop (X := Nat) (fun i => i ≤ ms.length ∧ (evsOf ms).take i = (evsOf ns).take i) (fun i => ms.length - i) (fun i => [(0, sv o1 p1 ms.length q1), (1, sv o2 p2 ns.length q2), (5, .int .i64 (i : Int))]) (fun i => []) ?round4 0 ?h04)
 case he4 => exact (And.intro rfl (And.intro rfl (And.intro rfl trivial)))
 case hl4 => exact ⟨_, rfl⟩
 case h04 => exact ⟨Nat.zero_le _, rfl⟩
 case round4 =>
  intro i hJ ih
  try dsimp only at hJ ih
  obtain ⟨hi, ht⟩ := hJ
  refine G_seq ?_
  refine G_seq ?_
  refine G_region (l := [0, 1, 2, 3]) rfl ?_
  refine G_val rfl rfl rfl rfl (V_move rfl rfl) ?_
  refine G_val rfl rfl rfl rfl (V_move rfl rfl) ?_
  refine G_val rfl rfl rfl rfl (V_len rfl rfl Try.underlying53 rfl) ?_
  refine G_val rfl rfl rfl rfl (V_lss rfl rfl rfl) ?_
  refine G_done ?_
  refine G_ifD rfl (fun hc2 => ?_) (fun hc2 => ?_)
  · skip
    refine G_skip ?_
    refine G_seq ?_
    refine G_block ?_
    refine G_seq ?_
    obtain ⟨x, hx⟩ := getI (show i < ms.length by omega)
    obtain ⟨y, hy⟩ := getI (show i < ns.length by omega)
    obtain ⟨b1, rfl⟩ := h1.isSome (by omega)
    obtain ⟨b2, rfl⟩ := h2.isSome (by omega)
    have hxo := ok1 x (List.mem_of_getElem? hx)
    have hyo := ok2 y (List.mem_of_getElem? hy)
    have hvx := evs_at hx
    have hvy := evs_at hy
    have hxl := hxo.le
    have hxm := hxo.max
    refine GH_start (Lq := []) (isq := []) (m := 12) mixedK rfl rfl ?_
    refine GH_take 0 rfl rfl rfl rfl (by kernel_rfl) (by kernel_rfl) (by kernel_rfl) (fun _ _ => (V_move rfl rfl)) ?_
    refine GH_take 1 rfl rfl rfl rfl (by kernel_rfl) (by kernel_rfl) (by kernel_rfl) (fun _ _ => (V_move rfl rfl)) ?_
    first
      | refine GH_take 2 rfl rfl rfl rfl (by kernel_rfl) (by kernel_rfl) (by kernel_rfl) (fun _ _ => (V_indexAddrN (s := 5) rfl Try.underlying53 infScriptS_58 rfl rfl rfl rfl (by omega))) ?_
      | refine GH_take 2 rfl rfl rfl rfl (by kernel_rfl) (by kernel_rfl) (by kernel_rfl) (fun _ _ => (V_indexAddr (s := 5) rfl Try.underlying53 infScriptS_58 rfl rfl rfl (by omega) (by first | omega | (simp [evC, evV, kC, evS]; done) | (simp [evC, evV, kC, evS]; omega) | (simp [evC, evV, kC, evS] at *; omega)))) ?_
    refine GH_take 3 rfl rfl rfl rfl (by kernel_rfl) (by kernel_rfl) (by kernel_rfl) (fun _ _ => (V_loadA (s := 5) (vs := (evC x).toArray) rfl rfl (List.mem_append_left _ (mem_at 0 rfl)) Try.underlying58 rfl infScriptS_58 rfl (h1.elem evC_len hx) (by first | rfl | (simp [bcells_length, evC, evV, kC, evS]; done) | (simp [bcells_length, evC, evV, kC, evS]; omega) | (simp [bcells_length, *, evC, evV, kC, evS]; done)))) ?_
    refine GH_take 4 rfl rfl rfl rfl (by kernel_rfl) (by kernel_rfl) (by kernel_rfl) (fun _ _ => (V_move rfl rfl)) ?_
    refine GH_take 5 rfl rfl rfl rfl (by kernel_rfl) (by kernel_rfl) (by kernel_rfl) (fun _ _ => (V_move rfl rfl)) ?_
    first
      | refine GH_take 6 rfl rfl rfl rfl (by kernel_rfl) (by kernel_rfl) (by kernel_rfl) (fun _ _ => (V_indexAddrN (s := 5) rfl Try.underlying53 infScriptS_58 rfl rfl rfl rfl (by omega))) ?_
      | refine GH_take 6 rfl rfl rfl rfl (by kernel_rfl) (by kernel_rfl) (by kernel_rfl) (fun _ _ => (V_indexAddr (s := 5) rfl Try.underlying53 infScriptS_58 rfl rfl rfl (by omega) (by first | omega | (simp [evC, evV, kC, evS]; done) | (simp [evC, evV, kC, evS]; omega) | (simp [evC, evV, kC, evS] at *; omega)))) ?_
    refine GH_take 7 rfl rfl rfl rfl (by kernel_rfl) (by kernel_rfl) (by kernel_rfl) (fun _ _ => (V_loadA (s := 5) (vs := (evC y).toArray) rfl rfl (List.mem_append_left _ (mem_at 1 rfl)) Try.underlying58 rfl infScriptS_58 rfl (h2.elem evC_len hy) (by first | rfl | (simp [bcells_length, evC, evV, kC, evS]; done) | (simp [bcells_length, evC, evV, kC, evS]; omega) | (simp [bcells_length, *, evC, evV, kC, evS]; done)))) ?_
    refine GH_all [8, 9] (by kernel_rfl) (by decide) ?_
    refine (And.intro ?_ (And.intro ?_ trivial))
    · skip
      refine GHop_new rfl rfl rfl rfl (N_allocA rfl infScriptS_58 rfl) [] (fun _ => ⟨_, rfl⟩) (fun b6 => ?_)
      refine GH_all [9] (by kernel_rfl) (by decide) ?_
      refine (And.intro ?_ trivial)
      · skip
        refine GHop_new rfl rfl rfl rfl (N_allocA rfl infScriptS_58 rfl) [] (fun _ => ⟨_, rfl⟩) (fun b7 => ?_)
        refine GH_all [10] (by kernel_rfl) (by decide) ?_
        refine (And.intro ?_ trivial)
        · skip
          refine GHop_put (l1 := [_]) (L' := [_, _]) rfl rfl rfl rfl (P_storeA (s := 5) rfl rfl rfl (mem_at 1 rfl) (by first | rfl | (simp [bcells_length, evC, evV, kC, evS]; done) | (simp [bcells_length, evC, evV, kC, evS]; omega) | (simp [bcells_length, *, evC, evV, kC, evS]; done)) infScriptS_58 rfl (by first | rfl | (simp [bcells_length, evC, evV, kC, evS]; done) | (simp [bcells_length, evC, evV, kC, evS]; omega) | (simp [bcells_length, *, evC, evV, kC, evS]; done)) (by first | rfl | exact bcells_all _ | (simp [Value.oneCell', evC, evV, kC, evS]; done) | (simp [Value.oneCell', *, evC, evV, kC, evS]; done))) rfl [] rfl ?_
          refine GH_all [11] (by kernel_rfl) (by decide) ?_
          refine (And.intro ?_ trivial)
          · skip
            refine GHop_put (l1 := []) (L' := [_, _]) rfl rfl rfl rfl (P_storeA (s := 5) rfl rfl rfl (mem_at 0 rfl) (by first | rfl | (simp [bcells_length, evC, evV, kC, evS]; done) | (simp [bcells_length, evC, evV, kC, evS]; omega) | (simp [bcells_length, *, evC, evV, kC, evS]; done)) infScriptS_58 rfl (by first | rfl | (simp [bcells_length, evC, evV, kC, evS]; done) | (simp [bcells_length, evC, evV, kC, evS]; omega) | (simp [bcells_length, *, evC, evV, kC, evS]; done)) (by first | rfl | exact bcells_all _ | (simp [Value.oneCell', evC, evV, kC, evS]; done) | (simp [Value.oneCell', *, evC, evV, kC, evS]; done))) rfl [] rfl ?_
            refine GH_done (by kernel_rfl) ?_
            refine G_seq ?_
            refine G_seq ?_
            refine G_region (l := [0, 1, 2, 3, 4, 5, 6, 7, 8, 9, 10, 11, 12, 13, 14, 15, 16, 17, 18, 19, 20, 21, 22, 23, 24, 25, 26, 27, 28, 29, 30, 31, 32, 33, 34]) rfl ?_
            refine G_val rfl rfl rfl rfl (V_fieldAddr (fo := 0) rfl Try.underlying58 rfl infScriptS_3 rfl rfl rfl) ?_
            refine G_val rfl rfl rfl rfl (V_load1 rfl rfl (List.mem_append_right _ (mem_at 1 rfl)) rfl Try.underlying3 rfl) ?_
            refine G_val rfl rfl rfl rfl (V_fieldAddr (fo := 0) rfl Try.underlying58 rfl infScriptS_3 rfl rfl rfl) ?_
            refine G_val rfl rfl rfl rfl (V_load1 rfl rfl (List.mem_append_right _ (mem_at 0 rfl)) rfl Try.underlying3 rfl) ?_
            refine G_val rfl rfl rfl rfl (V_neq rfl rfl rfl) ?_
            refine G_val rfl rfl rfl rfl (V_move rfl rfl) ?_
            refine G_splitD 33 rfl (fun hc3 => ?_) (fun hc3 => ?_)
            · skip
              refine G_off rfl rfl rfl rfl ?_
              refine G_off rfl rfl rfl rfl ?_
              refine G_off rfl rfl rfl rfl ?_
              refine G_off rfl rfl rfl rfl ?_
              refine G_off rfl rfl rfl rfl ?_
              refine G_val rfl rfl rfl rfl (V_pickT rfl rfl rfl) ?_
              refine G_val rfl rfl rfl rfl (V_move rfl rfl) ?_
              refine G_off rfl rfl rfl rfl ?_
              refine G_off rfl rfl rfl rfl ?_
              refine G_off rfl rfl rfl rfl ?_
              refine G_off rfl rfl rfl rfl ?_
              refine G_off rfl rfl rfl rfl ?_
              refine G_val rfl rfl rfl rfl (V_pickT rfl rfl rfl) ?_
              refine G_val rfl rfl rfl rfl (V_move rfl rfl) ?_
              refine G_off rfl rfl rfl rfl ?_
              refine G_off rfl rfl rfl rfl ?_
              refine G_off rfl rfl rfl rfl ?_
              refine G_off rfl rfl rfl rfl ?_
              refine G_off rfl rfl rfl rfl ?_
              refine G_val rfl rfl rfl rfl (V_pickT rfl rfl rfl) ?_
              refine G_val rfl rfl rfl rfl (V_move rfl rfl) ?_
              refine G_off rfl rfl rfl rfl ?_
              refine G_off rfl rfl rfl rfl ?_
              refine G_off rfl rfl rfl rfl ?_
              refine G_off rfl rfl rfl rfl ?_
              refine G_off rfl rfl rfl rfl ?_
              refine G_off rfl rfl rfl rfl ?_
              refine G_off rfl rfl rfl rfl ?_
              refine G_val rfl rfl rfl rfl (V_pickT rfl rfl rfl) ?_
              refine G_done ?_
              refine G_then rfl ?_
              refine G_seq ?_
              refine G_region (l := [0]) rfl ?_
              refine G_val rfl rfl rfl rfl (V_assign rfl rfl) ?_
              refine G_done ?_
              refine G_ret (post := []) Try.func27 rfl (RVs_cons (RV_tmp rfl) RVs_nil) [] rfl ?_
              dsimp only [packed]
              first
                | exact ⟨bool_eq (decide_eq_false (evs_ne (by omega))).symm, rfl⟩
                | exact ⟨bool_eq (decide_eq_false (ne_at hvx hvy (by first | assumption | exact ev_ne (by first | exact .inl (by assumption) | exact .inr (.inl (by assumption)) | exact .inr (.inr (.inl (by assumption))) | exact .inr (.inr (.inr (.inl (by assumption)))) | exact .inr (.inr (.inr (.inr (ne_len (by omega))))) | exact .inr (.inr (.inr (.inr (ne_at ha hb (fun h => (by assumption : ¬ kLits a = kLits b) (by rw [h]))))))))) ).symm, rfl⟩
                | exact ⟨bool_eq (decide_eq_true (eq_end ht (by rw [evs_len]; omega) (by rw [evs_len, evs_len]; omega))).symm, rfl⟩
            refine G_val rfl rfl rfl rfl (V_fieldAddr (fo := 1) rfl Try.underlying58 rfl infScriptS_9 rfl rfl rfl) ?_
            refine G_val rfl rfl rfl rfl (V_load1 rfl rfl (List.mem_append_right _ (mem_at 1 rfl)) rfl Try.underlying9 rfl) ?_
            refine G_val rfl rfl rfl rfl (V_fieldAddr (fo := 1) rfl Try.underlying58 rfl infScriptS_9 rfl rfl rfl) ?_
            refine G_val rfl rfl rfl rfl (V_load1 rfl rfl (List.mem_append_right _ (mem_at 0 rfl)) rfl Try.underlying9 rfl) ?_
            refine G_val rfl rfl rfl rfl (V_sneq rfl rfl rfl) ?_
            refine G_val rfl rfl rfl rfl (V_pickF rfl rfl rfl) ?_
            refine G_val rfl rfl rfl rfl (V_move rfl rfl) ?_
            refine G_splitD 40 rfl (fun hc4 => ?_) (fun hc4 => ?_)
            · skip
              refine G_off rfl rfl rfl rfl ?_
              refine G_off rfl rfl rfl rfl ?_
              refine G_off rfl rfl rfl rfl ?_
              refine G_off rfl rfl rfl rfl ?_
              refine G_off rfl rfl rfl rfl ?_
              refine G_val rfl rfl rfl rfl (V_pickT rfl rfl rfl) ?_
              refine G_val rfl rfl rfl rfl (V_move rfl rfl) ?_
              refine G_off rfl rfl rfl rfl ?_
              refine G_off rfl rfl rfl rfl ?_
              refine G_off rfl rfl rfl rfl ?_
              refine G_off rfl rfl rfl rfl ?_
              refine G_off rfl rfl rfl rfl ?_
              refine G_val rfl rfl rfl rfl (V_pickT rfl rfl rfl) ?_
              refine G_val rfl rfl rfl rfl (V_move rfl rfl) ?_
              refine G_off rfl rfl rfl rfl ?_
              refine G_off rfl rfl rfl rfl ?_
              refine G_off rfl rfl rfl rfl ?_
              refine G_off rfl rfl rfl rfl ?_
              refine G_off rfl rfl rfl rfl ?_
              refine G_off rfl rfl rfl rfl ?_
              refine G_off rfl rfl rfl rfl ?_
              refine G_val rfl rfl rfl rfl (V_pickT rfl rfl rfl) ?_
              refine G_done ?_
              refine G_then rfl ?_
              refine G_seq ?_
              refine G_region (l := [0]) rfl ?_
              refine G_val rfl rfl rfl rfl (V_assign rfl rfl) ?_
              refine G_done ?_
              refine G_ret (post := []) Try.func27 rfl (RVs_cons (RV_tmp rfl) RVs_nil) [] rfl ?_
              dsimp only [packed]
              first
                | exact ⟨bool_eq (decide_eq_false (evs_ne (by omega))).symm, rfl⟩
                | exact ⟨bool_eq (decide_eq_false (ne_at hvx hvy (by first | assumption | exact ev_ne (by first | exact .inl (by assumption) | exact .inr (.inl (by assumption)) | exact .inr (.inr (.inl (by assumption))) | exact .inr (.inr (.inr (.inl (by assumption)))) | exact .inr (.inr (.inr (.inr (ne_len (by omega))))) | exact .inr (.inr (.inr (.inr (ne_at ha hb (fun h => (by assumption : ¬ kLits a = kLits b) (by rw [h]))))))))) ).symm, rfl⟩
                | exact ⟨bool_eq (decide_eq_true (eq_end ht (by rw [evs_len]; omega) (by rw [evs_len, evs_len]; omega))).symm, rfl⟩
            refine G_val rfl rfl rfl rfl (V_fieldAddr (fo := 2) rfl Try.underlying58 rfl infScriptS_23 rfl rfl rfl) ?_
            refine G_val rfl rfl rfl rfl (V_load1 rfl rfl (List.mem_append_right _ (mem_at 1 rfl)) rfl Try.underlying23 rfl) ?_
            refine G_val rfl rfl rfl rfl (V_fieldAddr (fo := 2) rfl Try.underlying58 rfl infScriptS_23 rfl rfl rfl) ?_
            refine G_val rfl rfl rfl rfl (V_load1 rfl rfl (List.mem_append_right _ (mem_at 0 rfl)) rfl Try.underlying23 rfl) ?_
            refine G_val rfl rfl rfl rfl (V_neq rfl rfl rfl) ?_
            refine G_val rfl rfl rfl rfl (V_pickF rfl rfl rfl) ?_
            refine G_val rfl rfl rfl rfl (V_move rfl rfl) ?_
            refine G_splitD 47 rfl (fun hc5 => ?_) (fun hc5 => ?_)
            · skip
              refine G_off rfl rfl rfl rfl ?_
              refine G_off rfl rfl rfl rfl ?_
              refine G_off rfl rfl rfl rfl ?_
              refine G_off rfl rfl rfl rfl ?_
              refine G_off rfl rfl rfl rfl ?_
              refine G_val rfl rfl rfl rfl (V_pickT rfl rfl rfl) ?_
              refine G_val rfl rfl rfl rfl (V_move rfl rfl) ?_
              refine G_off rfl rfl rfl rfl ?_
              refine G_off rfl rfl rfl rfl ?_
              refine G_off rfl rfl rfl rfl ?_
              refine G_off rfl rfl rfl rfl ?_
              refine G_off rfl rfl rfl rfl ?_
              refine G_off rfl rfl rfl rfl ?_
              refine G_off rfl rfl rfl rfl ?_
              refine G_val rfl rfl rfl rfl (V_pickT rfl rfl rfl) ?_
              refine G_done ?_
              refine G_then rfl ?_
              refine G_seq ?_
              refine G_region (l := [0]) rfl ?_
              refine G_val rfl rfl rfl rfl (V_assign rfl rfl) ?_
              refine G_done ?_
              refine G_ret (post := []) Try.func27 rfl (RVs_cons (RV_tmp rfl) RVs_nil) [] rfl ?_
              dsimp only [packed]
              first
                | exact ⟨bool_eq (decide_eq_false (evs_ne (by omega))).symm, rfl⟩
                | exact ⟨bool_eq (decide_eq_false (ne_at hvx hvy (by first | assumption | exact ev_ne (by first | exact .inl (by assumption) | exact .inr (.inl (by assumption)) | exact .inr (.inr (.inl (by assumption))) | exact .inr (.inr (.inr (.inl (by assumption)))) | exact .inr (.inr (.inr (.inr (ne_len (by omega))))) | exact .inr (.inr (.inr (.inr (ne_at ha hb (fun h => (by assumption : ¬ kLits a = kLits b) (by rw [h]))))))))) ).symm, rfl⟩
                | exact ⟨bool_eq (decide_eq_true (eq_end ht (by rw [evs_len]; omega) (by rw [evs_len, evs_len]; omega))).symm, rfl⟩
            refine G_val rfl rfl rfl rfl (V_fieldAddr (fo := 3) rfl Try.underlying58 rfl infScriptS_3 rfl rfl rfl) ?_
            refine G_val rfl rfl rfl rfl (V_load1 rfl rfl (List.mem_append_right _ (mem_at 1 rfl)) rfl Try.underlying3 rfl) ?_
            refine G_val rfl rfl rfl rfl (V_fieldAddr (fo := 3) rfl Try.underlying58 rfl infScriptS_3 rfl rfl rfl) ?_
            refine G_val rfl rfl rfl rfl (V_load1 rfl rfl (List.mem_append_right _ (mem_at 0 rfl)) rfl Try.underlying3 rfl) ?_
            refine G_val rfl rfl rfl rfl (V_neq rfl rfl rfl) ?_
            refine G_val rfl rfl rfl rfl (V_pickF rfl rfl rfl) ?_
            refine G_val rfl rfl rfl rfl (V_move rfl rfl) ?_
            refine G_splitD 54 rfl (fun hc6 => ?_) (fun hc6 => ?_)
            · skip
              refine G_off rfl rfl rfl rfl ?_
              refine G_off rfl rfl rfl rfl ?_
              refine G_off rfl rfl rfl rfl ?_
              refine G_off rfl rfl rfl rfl ?_
              refine G_off rfl rfl rfl rfl ?_
              refine G_off rfl rfl rfl rfl ?_
              refine G_off rfl rfl rfl rfl ?_
              refine G_val rfl rfl rfl rfl (V_pickT rfl rfl rfl) ?_
              refine G_done ?_
              refine G_then rfl ?_
              refine G_seq ?_
              refine G_region (l := [0]) rfl ?_
              refine G_val rfl rfl rfl rfl (V_assign rfl rfl) ?_
              refine G_done ?_
              refine G_ret (post := []) Try.func27 rfl (RVs_cons (RV_tmp rfl) RVs_nil) [] rfl ?_
              dsimp only [packed]
              first
                | exact ⟨bool_eq (decide_eq_false (evs_ne (by omega))).symm, rfl⟩
                | exact ⟨bool_eq (decide_eq_false (ne_at hvx hvy (by first | assumption | exact ev_ne (by first | exact .inl (by assumption) | exact .inr (.inl (by assumption)) | exact .inr (.inr (.inl (by assumption))) | exact .inr (.inr (.inr (.inl (by assumption)))) | exact .inr (.inr (.inr (.inr (ne_len (by omega))))) | exact .inr (.inr (.inr (.inr (ne_at ha hb (fun h => (by assumption : ¬ kLits a = kLits b) (by rw [h]))))))))) ).symm, rfl⟩
                | exact ⟨bool_eq (decide_eq_true (eq_end ht (by rw [evs_len]; omega) (by rw [evs_len, evs_len]; omega))).symm, rfl⟩
            refine G_val rfl rfl rfl rfl (V_fieldAddr (fo := 4) rfl Try.underlying58 rfl infScriptS_56 rfl rfl rfl) ?_
            refine G_val rfl rfl rfl rfl (V_load1 rfl rfl (List.mem_append_right _ (mem_at 1 rfl)) rfl Try.underlying56 rfl) ?_
            refine G_val rfl rfl rfl rfl (V_len rfl rfl Try.underlying56 rfl) ?_
            refine G_val rfl rfl rfl rfl (V_fieldAddr (fo := 4) rfl Try.underlying58 rfl infScriptS_56 rfl rfl rfl) ?_
            refine G_val rfl rfl rfl rfl (V_load1 rfl rfl (List.mem_append_right _ (mem_at 0 rfl)) rfl Try.underlying56 rfl) ?_
            refine G_val rfl rfl rfl rfl (V_len rfl rfl Try.underlying56 rfl) ?_
            refine G_val rfl rfl rfl rfl (V_neq rfl rfl rfl) ?_
            refine G_val rfl rfl rfl rfl (V_pickF rfl rfl rfl) ?_
            refine G_done ?_
            refine G_ifD rfl (fun hc7 => ?_) (fun hc7 => ?_)
            · skip
              refine G_seq ?_
              refine G_region (l := [0]) rfl ?_
              refine G_val rfl rfl rfl rfl (V_assign rfl rfl) ?_
              refine G_done ?_
              refine G_ret (post := []) Try.func27 rfl (RVs_cons (RV_tmp rfl) RVs_nil) [] rfl ?_
              dsimp only [packed]
              first
                | exact ⟨bool_eq (decide_eq_false (evs_ne (by omega))).symm, rfl⟩
                | exact ⟨bool_eq (decide_eq_false (ne_at hvx hvy (by first | assumption | exact ev_ne (by first | exact .inl (by assumption) | exact .inr (.inl (by assumption)) | exact .inr (.inr (.inl (by assumption))) | exact .inr (.inr (.inr (.inl (by assumption)))) | exact .inr (.inr (.inr (.inr (ne_len (by omega))))) | exact .inr (.inr (.inr (.inr (ne_at ha hb (fun h => (by assumption : ¬ kLits a = kLits b) (by rw [h]))))))))) ).symm, rfl⟩
                | exact ⟨bool_eq (decide_eq_true (eq_end ht (by rw [evs_len]; omega) (by rw [evs_len, evs_len]; omega))).symm, rfl⟩
            refine G_skip ?_
            refine G_seq ?_
            refine G_region (l := [0]) rfl ?_
            refine G_val rfl rfl rfl rfl (V_assign rfl rfl) ?_
            refine G_done ?_
            refine G_block ?_
            refine G_sub ?he10 [1, 0] ?hl10 (G_loop (X := Nat) (fun j => j ≤ x.v.ks.length ∧ x.v.ks.take j = y.v.ks.take j) (fun j => x.v.ks.length - j) (fun j => [(0, sv (some b1) p1 ms.length q1), (1, sv (some b2) p2 ns.length q2), (5, .int .i64 (i : Int)), (6, .pointer (some ⟨b6, 0, none⟩)), (7, .pointer (some ⟨b7, 0, none⟩)), (8, .int .i64 (j : Int))]) (fun j => [(some b6, .cells (evC x).toArray 58 (0, 0)), (some b7, .cells (evC y).toArray 58 (0, 0))]) ?round10 0 ?h010)
            case he10 => exact (And.intro rfl (And.intro rfl (And.intro rfl (And.intro rfl (And.intro rfl (And.intro rfl trivial))))))
            case hl10 => exact ⟨_, rfl⟩
            case h010 => exact ⟨Nat.zero_le _, rfl⟩
            case round10 =>
             intro j hJ ih2
             try dsimp only at hJ ih2
             obtain ⟨hj, htk⟩ := hJ
             refine G_seq ?_
             refine G_seq ?_
             refine G_region (l := [0, 1, 2, 3, 4]) rfl ?_
             refine G_val rfl rfl rfl rfl (V_move rfl rfl) ?_
             refine G_val rfl rfl rfl rfl (V_fieldAddr (fo := 4) rfl Try.underlying58 rfl infScriptS_56 rfl rfl rfl) ?_
             refine G_val rfl rfl rfl rfl (V_load1 rfl rfl (List.mem_append_right _ (mem_at 0 rfl)) rfl Try.underlying56 rfl) ?_
             refine G_val rfl rfl rfl rfl (V_len rfl rfl Try.underlying56 rfl) ?_
             refine G_val rfl rfl rfl rfl (V_lss rfl rfl rfl) ?_
             refine G_done ?_
             refine G_ifD rfl (fun hc8 => ?_) (fun hc8 => ?_)
             · skip
               refine G_skip ?_
               refine G_seq ?_
               refine G_block ?_
               refine G_seq ?_
               obtain ⟨a, ha⟩ := getI (show j < x.v.ks.length by omega)
               obtain ⟨b, hb⟩ := getI (show j < y.v.ks.length by omega)
               obtain ⟨ka, hsa, hka, hma⟩ := hxo.at (show j < x.v.ks.length by omega)
               obtain ⟨kb, hsb, hkb, hmb⟩ := hyo.at (show j < y.v.ks.length by omega)
               have gka := hxo.ks a (List.mem_of_getElem? ha)
               have gkb := hyo.ks b (List.mem_of_getElem? hb)
               have hma2 : (some ka, Obj.cells x.cs x.T x.fr) ∈ ((some b1, Obj.cells c1 T1 f1) :: (some b2, Obj.cells c2 T2 f2) :: (ms.map evK ++ ns.map evK)) := by rw [← hma]; exact List.mem_cons_of_mem _ (List.mem_cons_of_mem _ (List.mem_append_left _ (List.mem_map.2 ⟨x, List.mem_of_getElem? hx, rfl⟩)))
               have hmb2 : (some kb, Obj.cells y.cs y.T y.fr) ∈ ((some b1, Obj.cells c1 T1 f1) :: (some b2, Obj.cells c2 T2 f2) :: (ms.map evK ++ ns.map evK)) := by rw [← hmb]; exact List.mem_cons_of_mem _ (List.mem_cons_of_mem _ (List.mem_append_right _ (List.mem_map.2 ⟨y, List.mem_of_getElem? hy, rfl⟩)))
               refine GH_start (Lq := [_, _]) (isq := [0, 0]) (m := 11) mixedK rfl rfl ?_
               refine GH_take 0 rfl rfl rfl rfl (by kernel_rfl) (by kernel_rfl) (by kernel_rfl) (fun _ _ => (V_fieldAddr (fo := 4) rfl Try.underlying58 rfl infScriptS_56 rfl rfl rfl)) ?_
               refine GH_take 1 rfl rfl rfl rfl (by kernel_rfl) (by kernel_rfl) (by kernel_rfl) (fun _ _ => (V_load1 rfl rfl (List.mem_append_right _ (mem_at 0 rfl)) rfl Try.underlying56 rfl)) ?_
               try rw [hsa]
               refine GH_take 2 rfl rfl rfl rfl (by kernel_rfl) (by kernel_rfl) (by kernel_rfl) (fun _ _ => (V_move rfl rfl)) ?_
               first
                 | refine GH_take 3 rfl rfl rfl rfl (by kernel_rfl) (by kernel_rfl) (by kernel_rfl) (fun _ _ => (V_indexAddrN (s := 2) rfl Try.underlying56 infScriptS_151 rfl rfl rfl rfl (by omega))) ?_
                 | refine GH_take 3 rfl rfl rfl rfl (by kernel_rfl) (by kernel_rfl) (by kernel_rfl) (fun _ _ => (V_indexAddr (s := 2) rfl Try.underlying56 infScriptS_151 rfl rfl rfl (by omega) (by first | omega | (simp [evC, evV, kC, evS]; done) | (simp [evC, evV, kC, evS]; omega) | (simp [evC, evV, kC, evS] at *; omega)))) ?_
               refine GH_take 4 rfl rfl rfl rfl (by kernel_rfl) (by kernel_rfl) (by kernel_rfl) (fun _ _ => (V_loadA (s := 2) (vs := (kC a).toArray) rfl rfl (List.mem_append_left _ hma2) Try.underlying151 rfl infScriptS_151 rfl (hka.elem kC_len ha) (by first | rfl | (simp [bcells_length, evC, evV, kC, evS]; done) | (simp [bcells_length, evC, evV, kC, evS]; omega) | (simp [bcells_length, *, evC, evV, kC, evS]; done)))) ?_
               refine GH_take 5 rfl rfl rfl rfl (by kernel_rfl) (by kernel_rfl) (by kernel_rfl) (fun _ _ => (V_fieldAddr (fo := 4) rfl Try.underlying58 rfl infScriptS_56 rfl rfl rfl)) ?_
               refine GH_take 6 rfl rfl rfl rfl (by kernel_rfl) (by kernel_rfl) (by kernel_rfl) (fun _ _ => (V_load1 rfl rfl (List.mem_append_right _ (mem_at 1 rfl)) rfl Try.underlying56 rfl)) ?_
               try rw [hsb]
               refine GH_take 7 rfl rfl rfl rfl (by kernel_rfl) (by kernel_rfl) (by kernel_rfl) (fun _ _ => (V_move rfl rfl)) ?_
               first
                 | refine GH_take 8 rfl rfl rfl rfl (by kernel_rfl) (by kernel_rfl) (by kernel_rfl) (fun _ _ => (V_indexAddrN (s := 2) rfl Try.underlying56 infScriptS_151 rfl rfl rfl rfl (by omega))) ?_
                 | refine GH_take 8 rfl rfl rfl rfl (by kernel_rfl) (by kernel_rfl) (by kernel_rfl) (fun _ _ => (V_indexAddr (s := 2) rfl Try.underlying56 infScriptS_151 rfl rfl rfl (by omega) (by first | omega | (simp [evC, evV, kC, evS]; done) | (simp [evC, evV, kC, evS]; omega) | (simp [evC, evV, kC, evS] at *; omega)))) ?_
               refine GH_take 9 rfl rfl rfl rfl (by kernel_rfl) (by kernel_rfl) (by kernel_rfl) (fun _ _ => (V_loadA (s := 2) (vs := (kC b).toArray) rfl rfl (List.mem_append_left _ hmb2) Try.underlying151 rfl infScriptS_151 rfl (hkb.elem kC_len hb) (by first | rfl | (simp [bcells_length, evC, evV, kC, evS]; done) | (simp [bcells_length, evC, evV, kC, evS]; omega) | (simp [bcells_length, *, evC, evV, kC, evS]; done)))) ?_
               refine GH_take 10 rfl rfl rfl rfl (by kernel_rfl) (by kernel_rfl) (by kernel_rfl) (fun _ _ => (V_aggneq (m := 6) rfl Try.eqGuardType151 (by kernel_rfl) (by decide) (formed_of Try.underlying151 rfl (by kernel_rfl : Try.prog.cellsOf 151 = 2) (by first | rfl | (simp [bcells_length, evC, evV, kC, evS]; done) | (simp [bcells_length, evC, evV, kC, evS]; omega) | (simp [bcells_length, *, evC, evV, kC, evS]; done))) (formed_of Try.underlying151 rfl (by kernel_rfl : Try.prog.cellsOf 151 = 2) (by first | rfl | (simp [bcells_length, evC, evV, kC, evS]; done) | (simp [bcells_length, evC, evV, kC, evS]; omega) | (simp [bcells_length, *, evC, evV, kC, evS]; done))) rfl rfl (key_k a gka) (key_k b gkb))) ?_
               refine GH_done (by kernel_rfl) ?_
               refine G_ifD rfl (fun hc9 => ?_) (fun hc9 => ?_)
               · skip
                 refine G_seq ?_
                 refine G_region (l := [0]) rfl ?_
                 refine G_val rfl rfl rfl rfl (V_assign rfl rfl) ?_
                 refine G_done ?_
                 refine G_ret (post := []) Try.func27 rfl (RVs_cons (RV_tmp rfl) RVs_nil) [] rfl ?_
                 dsimp only [packed]
                 first
                   | exact ⟨bool_eq (decide_eq_false (evs_ne (by omega))).symm, rfl⟩
                   | exact ⟨bool_eq (decide_eq_false (ne_at hvx hvy (by first | assumption | exact ev_ne (by first | exact .inl (by assumption) | exact .inr (.inl (by assumption)) | exact .inr (.inr (.inl (by assumption))) | exact .inr (.inr (.inr (.inl (by assumption)))) | exact .inr (.inr (.inr (.inr (ne_len (by omega))))) | exact .inr (.inr (.inr (.inr (ne_at ha hb (fun h => (by assumption : ¬ kLits a = kLits b) (by rw [h]))))))))) ).symm, rfl⟩
                   | exact ⟨bool_eq (decide_eq_true (eq_end ht (by rw [evs_len]; omega) (by rw [evs_len, evs_len]; omega))).symm, rfl⟩
               refine G_skip ?_
               refine G_inBlock ?_
               refine G_region (l := [0, 1, 2]) rfl ?_
               refine G_val rfl rfl rfl rfl (V_move rfl rfl) ?_
               first
                 | refine G_val rfl rfl rfl rfl ((V_add rfl rfl rfl).int (wrap_i64 (by omega))) ?_
                 | refine G_val rfl rfl rfl rfl (V_add rfl rfl rfl) ?_
               refine G_val rfl rfl rfl rfl (V_assign rfl rfl) ?_
               refine G_done ?_
               refine G_sub ?_ [0, 0] ?_ (ih2 (j + 1) ?_ ?_)
               · (refine (And.intro ?_ (And.intro ?_ (And.intro ?_ (And.intro ?_ (And.intro ?_ (And.intro ?_ trivial)))))) <;> first | rfl | exact slot_int (by omega) | exact slot_int (by simp))
               · exact ⟨_, rfl⟩
               · exact ⟨by omega, eq_next htk ha hb (kLits_inj (Classical.not_not.1 (by assumption)))⟩
               · (first | omega | (dsimp only; omega))
             refine G_exit rfl ?_
             refine G_inBlock ?_
             refine G_region (l := [0, 1, 2]) rfl ?_
             refine G_val rfl rfl rfl rfl (V_move rfl rfl) ?_
             first
               | refine G_val rfl rfl rfl rfl ((V_add rfl rfl rfl).int (wrap_i64 (by omega))) ?_
               | refine G_val rfl rfl rfl rfl (V_add rfl rfl rfl) ?_
             refine G_val rfl rfl rfl rfl (V_assign rfl rfl) ?_
             refine G_done ?_
             refine G_sub ?_ [] ?_ (ih (i + 1) ?_ ?_)
             · (refine (And.intro ?_ (And.intro ?_ (And.intro ?_ trivial))) <;> first | rfl | exact slot_int (by omega) | exact slot_int (by simp))
             · exact ⟨_, rfl⟩
             · exact ⟨by omega, eq_next ht hvx hvy (ev_eq (by omega) (Classical.not_not.1 (by assumption)) (by omega) (by omega) (eq_end htk (by omega) (by omega)))⟩
             · (first | omega | (dsimp only; omega))
    · skip
      refine GHop_new rfl rfl rfl rfl (N_allocA rfl infScriptS_58 rfl) [] (fun _ => ⟨_, rfl⟩) (fun b7 => ?_)
      refine GH_all [8] (by kernel_rfl) (by decide) ?_
      refine (And.intro ?_ trivial)
      · skip
        refine GHop_new rfl rfl rfl rfl (N_allocA rfl infScriptS_58 rfl) [] (fun _ => ⟨_, rfl⟩) (fun b6 => ?_)
        refine GH_all [10] (by kernel_rfl) (by decide) ?_
        refine (And.intro ?_ trivial)
        · skip
          refine GHop_put (l1 := []) (L' := [_, _]) rfl rfl rfl rfl (P_storeA (s := 5) rfl rfl rfl (mem_at 0 rfl) (by first | rfl | (simp [bcells_length, evC, evV, kC, evS]; done) | (simp [bcells_length, evC, evV, kC, evS]; omega) | (simp [bcells_length, *, evC, evV, kC, evS]; done)) infScriptS_58 rfl (by first | rfl | (simp [bcells_length, evC, evV, kC, evS]; done) | (simp [bcells_length, evC, evV, kC, evS]; omega) | (simp [bcells_length, *, evC, evV, kC, evS]; done)) (by first | rfl | exact bcells_all _ | (simp [Value.oneCell', evC, evV, kC, evS]; done) | (simp [Value.oneCell', *, evC, evV, kC, evS]; done))) rfl [] rfl ?_
          refine GH_all [11] (by kernel_rfl) (by decide) ?_
          refine (And.intro ?_ trivial)
          · skip
            refine GHop_put (l1 := [_]) (L' := [_, _]) rfl rfl rfl rfl (P_storeA (s := 5) rfl rfl rfl (mem_at 1 rfl) (by first | rfl | (simp [bcells_length, evC, evV, kC, evS]; done) | (simp [bcells_length, evC, evV, kC, evS]; omega) | (simp [bcells_length, *, evC, evV, kC, evS]; done)) infScriptS_58 rfl (by first | rfl | (simp [bcells_length, evC, evV, kC, evS]; done) | (simp [bcells_length, evC, evV, kC, evS]; omega) | (simp [bcells_length, *, evC, evV, kC, evS]; done)) (by first | rfl | exact bcells_all _ | (simp [Value.oneCell', evC, evV, kC, evS]; done) | (simp [Value.oneCell', *, evC, evV, kC, evS]; done))) rfl [] rfl ?_
            refine GH_done (by kernel_rfl) ?_
            refine G_seq ?_
            refine G_seq ?_
            refine G_region (l := [0, 1, 2, 3, 4, 5, 6, 7, 8, 9, 10, 11, 12, 13, 14, 15, 16, 17, 18, 19, 20, 21, 22, 23, 24, 25, 26, 27, 28, 29, 30, 31, 32, 33, 34]) rfl ?_
            refine G_val rfl rfl rfl rfl (V_fieldAddr (fo := 0) rfl Try.underlying58 rfl infScriptS_3 rfl rfl rfl) ?_
            refine G_val rfl rfl rfl rfl (V_load1 rfl rfl (List.mem_append_right _ (mem_at 0 rfl)) rfl Try.underlying3 rfl) ?_
            refine G_val rfl rfl rfl rfl (V_fieldAddr (fo := 0) rfl Try.underlying58 rfl infScriptS_3 rfl rfl rfl) ?_
            refine G_val rfl rfl rfl rfl (V_load1 rfl rfl (List.mem_append_right _ (mem_at 1 rfl)) rfl Try.underlying3 rfl) ?_
            refine G_val rfl rfl rfl rfl (V_neq rfl rfl rfl) ?_
            refine G_val rfl rfl rfl rfl (V_move rfl rfl) ?_
            refine G_splitD 33 rfl (fun hc3 => ?_) (fun hc3 => ?_)
            · skip
              refine G_off rfl rfl rfl rfl ?_
              refine G_off rfl rfl rfl rfl ?_
              refine G_off rfl rfl rfl rfl ?_
              refine G_off rfl rfl rfl rfl ?_
              refine G_off rfl rfl rfl rfl ?_
              refine G_val rfl rfl rfl rfl (V_pickT rfl rfl rfl) ?_
              refine G_val rfl rfl rfl rfl (V_move rfl rfl) ?_
              refine G_off rfl rfl rfl rfl ?_
              refine G_off rfl rfl rfl rfl ?_
              refine G_off rfl rfl rfl rfl ?_
              refine G_off rfl rfl rfl rfl ?_
              refine G_off rfl rfl rfl rfl ?_
              refine G_val rfl rfl rfl rfl (V_pickT rfl rfl rfl) ?_
              refine G_val rfl rfl rfl rfl (V_move rfl rfl) ?_
              refine G_off rfl rfl rfl rfl ?_
              refine G_off rfl rfl rfl rfl ?_
              refine G_off rfl rfl rfl rfl ?_
              refine G_off rfl rfl rfl rfl ?_
              refine G_off rfl rfl rfl rfl ?_
              refine G_val rfl rfl rfl rfl (V_pickT rfl rfl rfl) ?_
              refine G_val rfl rfl rfl rfl (V_move rfl rfl) ?_
              refine G_off rfl rfl rfl rfl ?_
              refine G_off rfl rfl rfl rfl ?_
              refine G_off rfl rfl rfl rfl ?_
              refine G_off rfl rfl rfl rfl ?_
              refine G_off rfl rfl rfl rfl ?_
              refine G_off rfl rfl rfl rfl ?_
              refine G_off rfl rfl rfl rfl ?_
              refine G_val rfl rfl rfl rfl (V_pickT rfl rfl rfl) ?_
              refine G_done ?_
              refine G_then rfl ?_
              refine G_seq ?_
              refine G_region (l := [0]) rfl ?_
              refine G_val rfl rfl rfl rfl (V_assign rfl rfl) ?_
              refine G_done ?_
              refine G_ret (post := []) Try.func27 rfl (RVs_cons (RV_tmp rfl) RVs_nil) [] rfl ?_
              dsimp only [packed]
              first
                | exact ⟨bool_eq (decide_eq_false (evs_ne (by omega))).symm, rfl⟩
                | exact ⟨bool_eq (decide_eq_false (ne_at hvx hvy (by first | assumption | exact ev_ne (by first | exact .inl (by assumption) | exact .inr (.inl (by assumption)) | exact .inr (.inr (.inl (by assumption))) | exact .inr (.inr (.inr (.inl (by assumption)))) | exact .inr (.inr (.inr (.inr (ne_len (by omega))))) | exact .inr (.inr (.inr (.inr (ne_at ha hb (fun h => (by assumption : ¬ kLits a = kLits b) (by rw [h]))))))))) ).symm, rfl⟩
                | exact ⟨bool_eq (decide_eq_true (eq_end ht (by rw [evs_len]; omega) (by rw [evs_len, evs_len]; omega))).symm, rfl⟩
            refine G_val rfl rfl rfl rfl (V_fieldAddr (fo := 1) rfl Try.underlying58 rfl infScriptS_9 rfl rfl rfl) ?_
            refine G_val rfl rfl rfl rfl (V_load1 rfl rfl (List.mem_append_right _ (mem_at 0 rfl)) rfl Try.underlying9 rfl) ?_
            refine G_val rfl rfl rfl rfl (V_fieldAddr (fo := 1) rfl Try.underlying58 rfl infScriptS_9 rfl rfl rfl) ?_
            refine G_val rfl rfl rfl rfl (V_load1 rfl rfl (List.mem_append_right _ (mem_at 1 rfl)) rfl Try.underlying9 rfl) ?_
            refine G_val rfl rfl rfl rfl (V_sneq rfl rfl rfl) ?_
            refine G_val rfl rfl rfl rfl (V_pickF rfl rfl rfl) ?_
            refine G_val rfl rfl rfl rfl (V_move rfl rfl) ?_
            refine G_splitD 40 rfl (fun hc4 => ?_) (fun hc4 => ?_)
            · skip
              refine G_off rfl rfl rfl rfl ?_
              refine G_off rfl rfl rfl rfl ?_
              refine G_off rfl rfl rfl rfl ?_
              refine G_off rfl rfl rfl rfl ?_
              refine G_off rfl rfl rfl rfl ?_
              refine G_val rfl rfl rfl rfl (V_pickT rfl rfl rfl) ?_
              refine G_val rfl rfl rfl rfl (V_move rfl rfl) ?_
              refine G_off rfl rfl rfl rfl ?_
              refine G_off rfl rfl rfl rfl ?_
              refine G_off rfl rfl rfl rfl ?_
              refine G_off rfl rfl rfl rfl ?_
              refine G_off rfl rfl rfl rfl ?_
              refine G_val rfl rfl rfl rfl (V_pickT rfl rfl rfl) ?_
              refine G_val rfl rfl rfl rfl (V_move rfl rfl) ?_
              refine G_off rfl rfl rfl rfl ?_
              refine G_off rfl rfl rfl rfl ?_
              refine G_off rfl rfl rfl rfl ?_
              refine G_off rfl rfl rfl rfl ?_
              refine G_off rfl rfl rfl rfl ?_
              refine G_off rfl rfl rfl rfl ?_
              refine G_off rfl rfl rfl rfl ?_
              refine G_val rfl rfl rfl rfl (V_pickT rfl rfl rfl) ?_
              refine G_done ?_
              refine G_then rfl ?_
              refine G_seq ?_
              refine G_region (l := [0]) rfl ?_
              refine G_val rfl rfl rfl rfl (V_assign rfl rfl) ?_
              refine G_done ?_
              refine G_ret (post := []) Try.func27 rfl (RVs_cons (RV_tmp rfl) RVs_nil) [] rfl ?_
              dsimp only [packed]
              first
                | exact ⟨bool_eq (decide_eq_false (evs_ne (by omega))).symm, rfl⟩
                | exact ⟨bool_eq (decide_eq_false (ne_at hvx hvy (by first | assumption | exact ev_ne (by first | exact .inl (by assumption) | exact .inr (.inl (by assumption)) | exact .inr (.inr (.inl (by assumption))) | exact .inr (.inr (.inr (.inl (by assumption)))) | exact .inr (.inr (.inr (.inr (ne_len (by omega))))) | exact .inr (.inr (.inr (.inr (ne_at ha hb (fun h => (by assumption : ¬ kLits a = kLits b) (by rw [h]))))))))) ).symm, rfl⟩
                | exact ⟨bool_eq (decide_eq_true (eq_end ht (by rw [evs_len]; omega) (by rw [evs_len, evs_len]; omega))).symm, rfl⟩
            refine G_val rfl rfl rfl rfl (V_fieldAddr (fo := 2) rfl Try.underlying58 rfl infScriptS_23 rfl rfl rfl) ?_
            refine G_val rfl rfl rfl rfl (V_load1 rfl rfl (List.mem_append_right _ (mem_at 0 rfl)) rfl Try.underlying23 rfl) ?_
            refine G_val rfl rfl rfl rfl (V_fieldAddr (fo := 2) rfl Try.underlying58 rfl infScriptS_23 rfl rfl rfl) ?_
            refine G_val rfl rfl rfl rfl (V_load1 rfl rfl (List.mem_append_right _ (mem_at 1 rfl)) rfl Try.underlying23 rfl) ?_
            refine G_val rfl rfl rfl rfl (V_neq rfl rfl rfl) ?_
            refine G_val rfl rfl rfl rfl (V_pickF rfl rfl rfl) ?_
            refine G_val rfl rfl rfl rfl (V_move rfl rfl) ?_
            refine G_splitD 47 rfl (fun hc5 => ?_) (fun hc5 => ?_)
            · skip
              refine G_off rfl rfl rfl rfl ?_
              refine G_off rfl rfl rfl rfl ?_
              refine G_off rfl rfl rfl rfl ?_
              refine G_off rfl rfl rfl rfl ?_
              refine G_off rfl rfl rfl rfl ?_
              refine G_val rfl rfl rfl rfl (V_pickT rfl rfl rfl) ?_
              refine G_val rfl rfl rfl rfl (V_move rfl rfl) ?_
              refine G_off rfl rfl rfl rfl ?_
              refine G_off rfl rfl rfl rfl ?_
              refine G_off rfl rfl rfl rfl ?_
              refine G_off rfl rfl rfl rfl ?_
              refine G_off rfl rfl rfl rfl ?_
              refine G_off rfl rfl rfl rfl ?_
              refine G_off rfl rfl rfl rfl ?_
              refine G_val rfl rfl rfl rfl (V_pickT rfl rfl rfl) ?_
              refine G_done ?_
              refine G_then rfl ?_
              refine G_seq ?_
              refine G_region (l := [0]) rfl ?_
              refine G_val rfl rfl rfl rfl (V_assign rfl rfl) ?_
              refine G_done ?_
              refine G_ret (post := []) Try.func27 rfl (RVs_cons (RV_tmp rfl) RVs_nil) [] rfl ?_
              dsimp only [packed]
              first
                | exact ⟨bool_eq (decide_eq_false (evs_ne (by omega))).symm, rfl⟩
                | exact ⟨bool_eq (decide_eq_false (ne_at hvx hvy (by first | assumption | exact ev_ne (by first | exact .inl (by assumption) | exact .inr (.inl (by assumption)) | exact .inr (.inr (.inl (by assumption))) | exact .inr (.inr (.inr (.inl (by assumption)))) | exact .inr (.inr (.inr (.inr (ne_len (by omega))))) | exact .inr (.inr (.inr (.inr (ne_at ha hb (fun h => (by assumption : ¬ kLits a = kLits b) (by rw [h]))))))))) ).symm, rfl⟩
                | exact ⟨bool_eq (decide_eq_true (eq_end ht (by rw [evs_len]; omega) (by rw [evs_len, evs_len]; omega))).symm, rfl⟩
            refine G_val rfl rfl rfl rfl (V_fieldAddr (fo := 3) rfl Try.underlying58 rfl infScriptS_3 rfl rfl rfl) ?_
            refine G_val rfl rfl rfl rfl (V_load1 rfl rfl (List.mem_append_right _ (mem_at 0 rfl)) rfl Try.underlying3 rfl) ?_
            refine G_val rfl rfl rfl rfl (V_fieldAddr (fo := 3) rfl Try.underlying58 rfl infScriptS_3 rfl rfl rfl) ?_
            refine G_val rfl rfl rfl rfl (V_load1 rfl rfl (List.mem_append_right _ (mem_at 1 rfl)) rfl Try.underlying3 rfl) ?_
            refine G_val rfl rfl rfl rfl (V_neq rfl rfl rfl) ?_
            refine G_val rfl rfl rfl rfl (V_pickF rfl rfl rfl) ?_
            refine G_val rfl rfl rfl rfl (V_move rfl rfl) ?_
            refine G_splitD 54 rfl (fun hc6 => ?_) (fun hc6 => ?_)
            · skip
              refine G_off rfl rfl rfl rfl ?_
              refine G_off rfl rfl rfl rfl ?_
              refine G_off rfl rfl rfl rfl ?_
              refine G_off rfl rfl rfl rfl ?_
              refine G_off rfl rfl rfl rfl ?_
              refine G_off rfl rfl rfl rfl ?_
              refine G_off rfl rfl rfl rfl ?_
              refine G_val rfl rfl rfl rfl (V_pickT rfl rfl rfl) ?_
              refine G_done ?_
              refine G_then rfl ?_
              refine G_seq ?_
              refine G_region (l := [0]) rfl ?_
              refine G_val rfl rfl rfl rfl (V_assign rfl rfl) ?_
              refine G_done ?_
              refine G_ret (post := []) Try.func27 rfl (RVs_cons (RV_tmp rfl) RVs_nil) [] rfl ?_
              dsimp only [packed]
              first
                | exact ⟨bool_eq (decide_eq_false (evs_ne (by omega))).symm, rfl⟩
                | exact ⟨bool_eq (decide_eq_false (ne_at hvx hvy (by first | assumption | exact ev_ne (by first | exact .inl (by assumption) | exact .inr (.inl (by assumption)) | exact .inr (.inr (.inl (by assumption))) | exact .inr (.inr (.inr (.inl (by assumption)))) | exact .inr (.inr (.inr (.inr (ne_len (by omega))))) | exact .inr (.inr (.inr (.inr (ne_at ha hb (fun h => (by assumption : ¬ kLits a = kLits b) (by rw [h]))))))))) ).symm, rfl⟩
                | exact ⟨bool_eq (decide_eq_true (eq_end ht (by rw [evs_len]; omega) (by rw [evs_len, evs_len]; omega))).symm, rfl⟩
            refine G_val rfl rfl rfl rfl (V_fieldAddr (fo := 4) rfl Try.underlying58 rfl infScriptS_56 rfl rfl rfl) ?_
            refine G_val rfl rfl rfl rfl (V_load1 rfl rfl (List.mem_append_right _ (mem_at 0 rfl)) rfl Try.underlying56 rfl) ?_
            refine G_val rfl rfl rfl rfl (V_len rfl rfl Try.underlying56 rfl) ?_
            refine G_val rfl rfl rfl rfl (V_fieldAddr (fo := 4) rfl Try.underlying58 rfl infScriptS_56 rfl rfl rfl) ?_
            refine G_val rfl rfl rfl rfl (V_load1 rfl rfl (List.mem_append_right _ (mem_at 1 rfl)) rfl Try.underlying56 rfl) ?_
            refine G_val rfl rfl rfl rfl (V_len rfl rfl Try.underlying56 rfl) ?_
            refine G_val rfl rfl rfl rfl (V_neq rfl rfl rfl) ?_
            refine G_val rfl rfl rfl rfl (V_pickF rfl rfl rfl) ?_
            refine G_done ?_
            refine G_ifD rfl (fun hc7 => ?_) (fun hc7 => ?_)
            · skip
              refine G_seq ?_
              refine G_region (l := [0]) rfl ?_
              refine G_val rfl rfl rfl rfl (V_assign rfl rfl) ?_
              refine G_done ?_
              refine G_ret (post := []) Try.func27 rfl (RVs_cons (RV_tmp rfl) RVs_nil) [] rfl ?_
              dsimp only [packed]
              first
                | exact ⟨bool_eq (decide_eq_false (evs_ne (by omega))).symm, rfl⟩
                | exact ⟨bool_eq (decide_eq_false (ne_at hvx hvy (by first | assumption | exact ev_ne (by first | exact .inl (by assumption) | exact .inr (.inl (by assumption)) | exact .inr (.inr (.inl (by assumption))) | exact .inr (.inr (.inr (.inl (by assumption)))) | exact .inr (.inr (.inr (.inr (ne_len (by omega))))) | exact .inr (.inr (.inr (.inr (ne_at ha hb (fun h => (by assumption : ¬ kLits a = kLits b) (by rw [h]))))))))) ).symm, rfl⟩
                | exact ⟨bool_eq (decide_eq_true (eq_end ht (by rw [evs_len]; omega) (by rw [evs_len, evs_len]; omega))).symm, rfl⟩
            refine G_skip ?_
            refine G_seq ?_
            refine G_region (l := [0]) rfl ?_
            refine G_val rfl rfl rfl rfl (V_assign rfl rfl) ?_
            refine G_done ?_
            refine G_block ?_
            refine G_sub ?he10 [0, 0] ?hl10 (G_loop (X := Nat) (fun j => j ≤ x.v.ks.length ∧ x.v.ks.take j = y.v.ks.take j) (fun j => x.v.ks.length - j) (fun j => [(0, sv (some b1) p1 ms.length q1), (1, sv (some b2) p2 ns.length q2), (5, .int .i64 (i : Int)), (6, .pointer (some ⟨b6, 0, none⟩)), (7, .pointer (some ⟨b7, 0, none⟩)), (8, .int .i64 (j : Int))]) (fun j => [(some b6, .cells (evC x).toArray 58 (0, 0)), (some b7, .cells (evC y).toArray 58 (0, 0))]) ?round10 0 ?h010)
            case he10 => exact (And.intro rfl (And.intro rfl (And.intro rfl (And.intro rfl (And.intro rfl (And.intro rfl trivial))))))
            case hl10 => exact ⟨_, rfl⟩
            case h010 => exact ⟨Nat.zero_le _, rfl⟩
            case round10 =>
             intro j hJ ih2
             try dsimp only at hJ ih2
             obtain ⟨hj, htk⟩ := hJ
             refine G_seq ?_
             refine G_seq ?_
             refine G_region (l := [0, 1, 2, 3, 4]) rfl ?_
             refine G_val rfl rfl rfl rfl (V_move rfl rfl) ?_
             refine G_val rfl rfl rfl rfl (V_fieldAddr (fo := 4) rfl Try.underlying58 rfl infScriptS_56 rfl rfl rfl) ?_
             refine G_val rfl rfl rfl rfl (V_load1 rfl rfl (List.mem_append_right _ (mem_at 0 rfl)) rfl Try.underlying56 rfl) ?_
             refine G_val rfl rfl rfl rfl (V_len rfl rfl Try.underlying56 rfl) ?_
             refine G_val rfl rfl rfl rfl (V_lss rfl rfl rfl) ?_
             refine G_done ?_
             refine G_ifD rfl (fun hc8 => ?_) (fun hc8 => ?_)
             · skip
               refine G_skip ?_
               refine G_seq ?_
               refine G_block ?_
               refine G_seq ?_
               obtain ⟨a, ha⟩ := getI (show j < x.v.ks.length by omega)
               obtain ⟨b, hb⟩ := getI (show j < y.v.ks.length by omega)
               obtain ⟨ka, hsa, hka, hma⟩ := hxo.at (show j < x.v.ks.length by omega)
               obtain ⟨kb, hsb, hkb, hmb⟩ := hyo.at (show j < y.v.ks.length by omega)
               have gka := hxo.ks a (List.mem_of_getElem? ha)
               have gkb := hyo.ks b (List.mem_of_getElem? hb)
               have hma2 : (some ka, Obj.cells x.cs x.T x.fr) ∈ ((some b1, Obj.cells c1 T1 f1) :: (some b2, Obj.cells c2 T2 f2) :: (ms.map evK ++ ns.map evK)) := by rw [← hma]; exact List.mem_cons_of_mem _ (List.mem_cons_of_mem _ (List.mem_append_left _ (List.mem_map.2 ⟨x, List.mem_of_getElem? hx, rfl⟩)))
               have hmb2 : (some kb, Obj.cells y.cs y.T y.fr) ∈ ((some b1, Obj.cells c1 T1 f1) :: (some b2, Obj.cells c2 T2 f2) :: (ms.map evK ++ ns.map evK)) := by rw [← hmb]; exact List.mem_cons_of_mem _ (List.mem_cons_of_mem _ (List.mem_append_right _ (List.mem_map.2 ⟨y, List.mem_of_getElem? hy, rfl⟩)))
               refine GH_start (Lq := [_, _]) (isq := [0, 0]) (m := 11) mixedK rfl rfl ?_
               refine GH_take 0 rfl rfl rfl rfl (by kernel_rfl) (by kernel_rfl) (by kernel_rfl) (fun _ _ => (V_fieldAddr (fo := 4) rfl Try.underlying58 rfl infScriptS_56 rfl rfl rfl)) ?_
               refine GH_take 1 rfl rfl rfl rfl (by kernel_rfl) (by kernel_rfl) (by kernel_rfl) (fun _ _ => (V_load1 rfl rfl (List.mem_append_right _ (mem_at 0 rfl)) rfl Try.underlying56 rfl)) ?_
               try rw [hsa]
               refine GH_take 2 rfl rfl rfl rfl (by kernel_rfl) (by kernel_rfl) (by kernel_rfl) (fun _ _ => (V_move rfl rfl)) ?_
               first
                 | refine GH_take 3 rfl rfl rfl rfl (by kernel_rfl) (by kernel_rfl) (by kernel_rfl) (fun _ _ => (V_indexAddrN (s := 2) rfl Try.underlying56 infScriptS_151 rfl rfl rfl rfl (by omega))) ?_
                 | refine GH_take 3 rfl rfl rfl rfl (by kernel_rfl) (by kernel_rfl) (by kernel_rfl) (fun _ _ => (V_indexAddr (s := 2) rfl Try.underlying56 infScriptS_151 rfl rfl rfl (by omega) (by first | omega | (simp [evC, evV, kC, evS]; done) | (simp [evC, evV, kC, evS]; omega) | (simp [evC, evV, kC, evS] at *; omega)))) ?_
               refine GH_take 4 rfl rfl rfl rfl (by kernel_rfl) (by kernel_rfl) (by kernel_rfl) (fun _ _ => (V_loadA (s := 2) (vs := (kC a).toArray) rfl rfl (List.mem_append_left _ hma2) Try.underlying151 rfl infScriptS_151 rfl (hka.elem kC_len ha) (by first | rfl | (simp [bcells_length, evC, evV, kC, evS]; done) | (simp [bcells_length, evC, evV, kC, evS]; omega) | (simp [bcells_length, *, evC, evV, kC, evS]; done)))) ?_
               refine GH_take 5 rfl rfl rfl rfl (by kernel_rfl) (by kernel_rfl) (by kernel_rfl) (fun _ _ => (V_fieldAddr (fo := 4) rfl Try.underlying58 rfl infScriptS_56 rfl rfl rfl)) ?_
               refine GH_take 6 rfl rfl rfl rfl (by kernel_rfl) (by kernel_rfl) (by kernel_rfl) (fun _ _ => (V_load1 rfl rfl (List.mem_append_right _ (mem_at 1 rfl)) rfl Try.underlying56 rfl)) ?_
               try rw [hsb]
               refine GH_take 7 rfl rfl rfl rfl (by kernel_rfl) (by kernel_rfl) (by kernel_rfl) (fun _ _ => (V_move rfl rfl)) ?_
               first
                 | refine GH_take 8 rfl rfl rfl rfl (by kernel_rfl) (by kernel_rfl) (by kernel_rfl) (fun _ _ => (V_indexAddrN (s := 2) rfl Try.underlying56 infScriptS_151 rfl rfl rfl rfl (by omega))) ?_
                 | refine GH_take 8 rfl rfl rfl rfl (by kernel_rfl) (by kernel_rfl) (by kernel_rfl) (fun _ _ => (V_indexAddr (s := 2) rfl Try.underlying56 infScriptS_151 rfl rfl rfl (by omega) (by first | omega | (simp [evC, evV, kC, evS]; done) | (simp [evC, evV, kC, evS]; omega) | (simp [evC, evV, kC, evS] at *; omega)))) ?_
               refine GH_take 9 rfl rfl rfl rfl (by kernel_rfl) (by kernel_rfl) (by kernel_rfl) (fun _ _ => (V_loadA (s := 2) (vs := (kC b).toArray) rfl rfl (List.mem_append_left _ hmb2) Try.underlying151 rfl infScriptS_151 rfl (hkb.elem kC_len hb) (by first | rfl | (simp [bcells_length, evC, evV, kC, evS]; done) | (simp [bcells_length, evC, evV, kC, evS]; omega) | (simp [bcells_length, *, evC, evV, kC, evS]; done)))) ?_
               refine GH_take 10 rfl rfl rfl rfl (by kernel_rfl) (by kernel_rfl) (by kernel_rfl) (fun _ _ => (V_aggneq (m := 6) rfl Try.eqGuardType151 (by kernel_rfl) (by decide) (formed_of Try.underlying151 rfl (by kernel_rfl : Try.prog.cellsOf 151 = 2) (by first | rfl | (simp [bcells_length, evC, evV, kC, evS]; done) | (simp [bcells_length, evC, evV, kC, evS]; omega) | (simp [bcells_length, *, evC, evV, kC, evS]; done))) (formed_of Try.underlying151 rfl (by kernel_rfl : Try.prog.cellsOf 151 = 2) (by first | rfl | (simp [bcells_length, evC, evV, kC, evS]; done) | (simp [bcells_length, evC, evV, kC, evS]; omega) | (simp [bcells_length, *, evC, evV, kC, evS]; done))) rfl rfl (key_k a gka) (key_k b gkb))) ?_
               refine GH_done (by kernel_rfl) ?_
               refine G_ifD rfl (fun hc9 => ?_) (fun hc9 => ?_)
               · skip
                 refine G_seq ?_
                 refine G_region (l := [0]) rfl ?_
                 refine G_val rfl rfl rfl rfl (V_assign rfl rfl) ?_
                 refine G_done ?_
                 refine G_ret (post := []) Try.func27 rfl (RVs_cons (RV_tmp rfl) RVs_nil) [] rfl ?_
                 dsimp only [packed]
                 first
                   | exact ⟨bool_eq (decide_eq_false (evs_ne (by omega))).symm, rfl⟩
                   | exact ⟨bool_eq (decide_eq_false (ne_at hvx hvy (by first | assumption | exact ev_ne (by first | exact .inl (by assumption) | exact .inr (.inl (by assumption)) | exact .inr (.inr (.inl (by assumption))) | exact .inr (.inr (.inr (.inl (by assumption)))) | exact .inr (.inr (.inr (.inr (ne_len (by omega))))) | exact .inr (.inr (.inr (.inr (ne_at ha hb (fun h => (by assumption : ¬ kLits a = kLits b) (by rw [h]))))))))) ).symm, rfl⟩
                   | exact ⟨bool_eq (decide_eq_true (eq_end ht (by rw [evs_len]; omega) (by rw [evs_len, evs_len]; omega))).symm, rfl⟩
               refine G_skip ?_
               refine G_inBlock ?_
               refine G_region (l := [0, 1, 2]) rfl ?_
               refine G_val rfl rfl rfl rfl (V_move rfl rfl) ?_
               first
                 | refine G_val rfl rfl rfl rfl ((V_add rfl rfl rfl).int (wrap_i64 (by omega))) ?_
                 | refine G_val rfl rfl rfl rfl (V_add rfl rfl rfl) ?_
               refine G_val rfl rfl rfl rfl (V_assign rfl rfl) ?_
               refine G_done ?_
               refine G_sub ?_ [0, 0] ?_ (ih2 (j + 1) ?_ ?_)
               · (refine (And.intro ?_ (And.intro ?_ (And.intro ?_ (And.intro ?_ (And.intro ?_ (And.intro ?_ trivial)))))) <;> first | rfl | exact slot_int (by omega) | exact slot_int (by simp))
               · exact ⟨_, rfl⟩
               · exact ⟨by omega, eq_next htk ha hb (kLits_inj (Classical.not_not.1 (by assumption)))⟩
               · (first | omega | (dsimp only; omega))
             refine G_exit rfl ?_
             refine G_inBlock ?_
             refine G_region (l := [0, 1, 2]) rfl ?_
             refine G_val rfl rfl rfl rfl (V_move rfl rfl) ?_
             first
               | refine G_val rfl rfl rfl rfl ((V_add rfl rfl rfl).int (wrap_i64 (by omega))) ?_
               | refine G_val rfl rfl rfl rfl (V_add rfl rfl rfl) ?_
             refine G_val rfl rfl rfl rfl (V_assign rfl rfl) ?_
             refine G_done ?_
             refine G_sub ?_ [] ?_ (ih (i + 1) ?_ ?_)
             · (refine (And.intro ?_ (And.intro ?_ (And.intro ?_ trivial))) <;> first | rfl | exact slot_int (by omega) | exact slot_int (by simp))
             · exact ⟨_, rfl⟩
             · exact ⟨by omega, eq_next ht hvx hvy (ev_eq (by omega) (Classical.not_not.1 (by assumption)) (by omega) (by omega) (eq_end htk (by omega) (by omega)))⟩
             · (first | omega | (dsimp only; omega))
  refine G_exit rfl ?_
  refine G_seq ?_
  refine G_region (l := [0]) rfl ?_
  refine G_val rfl rfl rfl rfl (V_assign rfl rfl) ?_
  refine G_done ?_
  refine G_ret (post := []) Try.func27 rfl (RVs_cons (RV_tmp rfl) RVs_nil) [] rfl ?_
  dsimp only [packed]
  first
    | exact ⟨bool_eq (decide_eq_false (evs_ne (by omega))).symm, rfl⟩
    | exact ⟨bool_eq (decide_eq_false (ne_at hvx hvy (by first | assumption | exact ev_ne (by first | exact .inl (by assumption) | exact .inr (.inl (by assumption)) | exact .inr (.inr (.inl (by assumption))) | exact .inr (.inr (.inr (.inl (by assumption)))) | exact .inr (.inr (.inr (.inr (ne_len (by omega))))) | exact .inr (.inr (.inr (.inr (ne_at ha hb (fun h => (by assumption : ¬ kLits a = kLits b) (by rw [h]))))))))) ).symm, rfl⟩
    | exact ⟨bool_eq (decide_eq_true (eq_end ht (by rw [evs_len]; omega) (by rw [evs_len, evs_len]; omega))).symm, rfl⟩


/-- Lists that are not gone through. -/
def largeS (ms : List Em) : Bool := ms.any (fun m => decide (1000 < (m.v.b.length : Int) ∨ 100 < (m.v.ks.length : Int))) || decide (450 < (ms.length : Int))
theorem largeS_no {ms : List Em} (h : largeS ms = false) : ms.length ≤ 450 ∧ ∀ m ∈ ms, m.v.b.length ≤ 1000 ∧ m.v.ks.length ≤ 100 := by
  unfold largeS at h
  rw [Bool.or_eq_false_iff, List.any_eq_false, decide_eq_false_iff_not] at h
  refine ⟨by omega, fun m hm => ?_⟩
  have := h.1 m hm
  rw [decide_eq_true_eq] at this
  omega

set_option maxRecDepth 100000 in
set_option maxHeartbeats 1000000 in
theorem sl_large (o1 : Option Nat) (p1 q1 : Nat) (c1 : Array Value) (T1 : TypeId) (f1 : Nat × Nat) (ms : List Em) (h1 : Sees 5 o1 p1 q1 c1 (ms.flatMap evC) ms.length) (ok1 : ∀ m ∈ ms, EmOk m) :
    Ct Try.prog 19 [sv o1 p1 ms.length q1] [(o1, .cells c1 T1 f1)] [] fun v post => v = .bool (largeS ms) ∧ post = [] := by
 have hl1 := h1.le
 have hl2 := h1.max
 refine ct_of Try.func19 rfl rfl (fun w0 => ?_)
 show G _ _ [(0, _)] _ _
 refine G_seq ?_
 refine G_region (l := [0]) rfl ?_
 refine G_val rfl rfl rfl rfl (V_assign rfl rfl) ?_
 refine G_done ?_
 refine G_seq ?_
 refine G_seq ?_
 refine G_region (l := [0]) rfl ?_
 refine G_val rfl rfl rfl rfl (V_assign rfl rfl) ?_
 refine G_done ?_
 refine G_block ?_
 refine G_sub ?he2 [] ?hl2 (G_loop (X := Nat) (fun i => i ≤ ms.length ∧ (ms.take i).any (fun m => decide (1000 < (m.v.b.length : Int) ∨ 100 < (m.v.ks.length : Int))) = false) (fun i => ms.length - i) (fun i => [(0, sv o1 p1 ms.length q1), (3, .int .i64 (i : Int))]) (fun i => []) ?round2 0 ?h02)
 case he2 => exact (And.intro rfl (And.intro rfl trivial))
 case hl2 => exact ⟨_, rfl⟩
 case h02 => exact ⟨Nat.zero_le _, rfl⟩
 case round2 =>
  intro i hJ ih
  try dsimp only at hJ ih
  obtain ⟨hi, ht⟩ := hJ
  refine G_seq ?_
  refine G_seq ?_
  refine G_region (l := [0, 1, 2, 3]) rfl ?_
  refine G_val rfl rfl rfl rfl (V_move rfl rfl) ?_
  refine G_val rfl rfl rfl rfl (V_move rfl rfl) ?_
  refine G_val rfl rfl rfl rfl (V_len rfl rfl Try.underlying53 rfl) ?_
  refine G_val rfl rfl rfl rfl (V_lss rfl rfl rfl) ?_
  refine G_done ?_
  refine G_ifD rfl (fun hc1 => ?_) (fun hc1 => ?_)
  · skip
    refine G_skip ?_
    refine G_seq ?_
    refine G_block ?_
    refine G_seq ?_
    obtain ⟨x, hx⟩ := getI (show i < ms.length by omega)
    obtain ⟨b1, rfl⟩ := h1.isSome (by omega)
    refine G_region (l := [0, 1, 2, 3, 4, 5, 6, 7, 8, 9, 10, 11, 12, 13, 14, 15]) rfl ?_
    refine G_val rfl rfl rfl rfl (V_move rfl rfl) ?_
    refine G_val rfl rfl rfl rfl (V_move rfl rfl) ?_
    first
      | refine G_val rfl rfl rfl rfl (V_indexAddrN (s := 5) rfl Try.underlying53 infScriptS_58 rfl rfl rfl rfl (by omega)) ?_
      | refine G_val rfl rfl rfl rfl (V_indexAddr (s := 5) rfl Try.underlying53 infScriptS_58 rfl rfl rfl (by omega) (by first | omega | (simp [evC, evV, kC, evS]; done) | (simp [evC, evV, kC, evS]; omega) | (simp [evC, evV, kC, evS] at *; omega))) ?_
    refine G_val rfl rfl rfl rfl (V_fieldAddr (fo := _ + 1) rfl Try.underlying58 rfl infScriptS_9 rfl rfl rfl) ?_
    refine G_val rfl rfl rfl rfl (V_load1 rfl rfl (mem_at 0 rfl) (nth_of (sees_e h1 hx 1 (by omega) rfl)) Try.underlying9 rfl) ?_
    refine G_val rfl rfl rfl rfl (V_slen rfl rfl Try.underlying9 rfl) ?_
    refine G_val rfl rfl rfl rfl (V_gtr rfl rfl rfl) ?_
    refine G_val rfl rfl rfl rfl (V_move rfl rfl) ?_
    refine G_splitD 17 rfl (fun hc2 => ?_) (fun hc2 => ?_)
    · skip
      refine G_off rfl rfl rfl rfl ?_
      refine G_off rfl rfl rfl rfl ?_
      refine G_off rfl rfl rfl rfl ?_
      refine G_off rfl rfl rfl rfl ?_
      refine G_off rfl rfl rfl rfl ?_
      refine G_off rfl rfl rfl rfl ?_
      refine G_off rfl rfl rfl rfl ?_
      refine G_val rfl rfl rfl rfl (V_pickT rfl rfl rfl) ?_
      refine G_done ?_
      refine G_then rfl ?_
      refine G_seq ?_
      refine G_region (l := [0]) rfl ?_
      refine G_val rfl rfl rfl rfl (V_assign rfl rfl) ?_
      refine G_done ?_
      refine G_ret (post := []) Try.func19 rfl (RVs_cons (RV_tmp rfl) RVs_nil) [] rfl ?_
      dsimp only [packed]
      first
        | exact ⟨bool_eq (by unfold largeS; rw [any_yes hx (decide_eq_true (by omega))]; rfl), rfl⟩
        | exact ⟨bool_eq (by unfold largeS; rw [any_end ht (by omega)]; rfl), rfl⟩
    refine G_val rfl rfl rfl rfl (V_move rfl rfl) ?_
    refine G_val rfl rfl rfl rfl (V_move rfl rfl) ?_
    first
      | refine G_val rfl rfl rfl rfl (V_indexAddrN (s := 5) rfl Try.underlying53 infScriptS_58 rfl rfl rfl rfl (by omega)) ?_
      | refine G_val rfl rfl rfl rfl (V_indexAddr (s := 5) rfl Try.underlying53 infScriptS_58 rfl rfl rfl (by omega) (by first | omega | (simp [evC, evV, kC, evS]; done) | (simp [evC, evV, kC, evS]; omega) | (simp [evC, evV, kC, evS] at *; omega))) ?_
    refine G_val rfl rfl rfl rfl (V_fieldAddr (fo := _ + 4) rfl Try.underlying58 rfl infScriptS_56 rfl rfl rfl) ?_
    refine G_val rfl rfl rfl rfl (V_load1 rfl rfl (mem_at 0 rfl) (nth_of (sees_e h1 hx 4 (by omega) rfl)) Try.underlying56 rfl) ?_
    refine G_val rfl rfl rfl rfl (V_len rfl rfl Try.underlying56 rfl) ?_
    refine G_val rfl rfl rfl rfl (V_gtr rfl rfl rfl) ?_
    refine G_val rfl rfl rfl rfl (V_pickF rfl rfl rfl) ?_
    refine G_done ?_
    refine G_ifD rfl (fun hc3 => ?_) (fun hc3 => ?_)
    · skip
      refine G_seq ?_
      refine G_region (l := [0]) rfl ?_
      refine G_val rfl rfl rfl rfl (V_assign rfl rfl) ?_
      refine G_done ?_
      refine G_ret (post := []) Try.func19 rfl (RVs_cons (RV_tmp rfl) RVs_nil) [] rfl ?_
      dsimp only [packed]
      first
        | exact ⟨bool_eq (by unfold largeS; rw [any_yes hx (decide_eq_true (by omega))]; rfl), rfl⟩
        | exact ⟨bool_eq (by unfold largeS; rw [any_end ht (by omega)]; rfl), rfl⟩
    refine G_skip ?_
    refine G_inBlock ?_
    refine G_region (l := [0, 1, 2]) rfl ?_
    refine G_val rfl rfl rfl rfl (V_move rfl rfl) ?_
    first
      | refine G_val rfl rfl rfl rfl ((V_add rfl rfl rfl).int (wrap_i64 (by omega))) ?_
      | refine G_val rfl rfl rfl rfl (V_add rfl rfl rfl) ?_
    refine G_val rfl rfl rfl rfl (V_assign rfl rfl) ?_
    refine G_done ?_
    refine G_sub ?_ [] ?_ (ih (i + 1) ?_ ?_)
    · (refine (And.intro ?_ (And.intro ?_ trivial)) <;> first | rfl | exact slot_int (by omega) | exact slot_int (by simp))
    · exact ⟨_, rfl⟩
    · exact ⟨by omega, any_next ht hx (decide_eq_false (by omega))⟩
    · (first | omega | (dsimp only; omega))
  refine G_exit rfl ?_
  refine G_seq ?_
  refine G_region (l := [0, 1, 2, 3]) rfl ?_
  refine G_val rfl rfl rfl rfl (V_move rfl rfl) ?_
  refine G_val rfl rfl rfl rfl (V_len rfl rfl Try.underlying53 rfl) ?_
  refine G_val rfl rfl rfl rfl (V_gtr rfl rfl rfl) ?_
  refine G_val rfl rfl rfl rfl (V_assign rfl rfl) ?_
  refine G_done ?_
  refine G_ret (post := []) Try.func19 rfl (RVs_cons (RV_tmp rfl) RVs_nil) [] rfl ?_
  dsimp only [packed]
  first
    | exact ⟨bool_eq (by unfold largeS; rw [any_yes hx (decide_eq_true (by omega))]; rfl), rfl⟩
    | exact ⟨bool_eq (by unfold largeS; rw [any_end ht (by omega)]; rfl), rfl⟩

end
end Go.Proofs.Ytkekkalgebgokaa

/- The laws of layer 40: what they have in common. -/
set_option linter.unusedSimpArgs false
set_option linter.unusedVariables false
namespace Go.Proofs.Ytkekkalgebgokaa
open Go Go.RowKit

section
theorem infScriptL_58 : Try.prog.info? 58 = some Try.t58 := by kernel_rfl
theorem plcScriptL_58 : placesOf Try.prog (Try.prog.fieldsOf 58) = some [(0, 1), (1, 1), (2, 1), (3, 1), (4, 1)] := by kernel_rfl


def liveE : Ev := ⟨2, [], 300, 0, []⟩
theorem live_may : MayE liveE := by decide
theorem live_enc : encS [liveE] = [1, 2, 172, 2] := by
  have h1 : chain 1 = [1] := chain_small 1 (by omega)
  have h2 : chain 2 = [2] := chain_small 2 (by omega)
  have h3 : chain 300 = [172, 2] := by rw [chain_big 300 (by omega), show 300 / 128 = 2 by rfl, h2]; rfl
  have e1 : encE liveE = [2, 172, 2] := by
    rw [enc2 rfl]
    show chain 2 ++ chain 300 = _
    rw [h2, h3]; rfl
  unfold encS encList
  simp only [List.flatMap_cons, List.flatMap_nil, e1]
  show chain 1 ++ _ = _
  rw [h1]; rfl
theorem scr_live : scrT [liveE] = .tuple #[.string (bs [1, 2, 172, 2]), .int .i64 0] := by
  unfold scrT
  rw [if_neg (by decide), if_pos (by intro e he; rw [List.mem_singleton.1 he]; exact live_may), live_enc]
theorem sc_live (b : Nat) : Ct Try.prog 23 [.slice (some ⟨b, 0, none⟩) 1 1] [(some b, .cells #[.int .i64 2, .string (bs []), .int .u64 300, .int .i64 0, .slice none 0 0] 58 (0, 0)), (none, .cells #[] 151 (0, 0))] [] (fun v post => v = .tuple #[.string (bs [1, 2, 172, 2]), .int .i64 0] ∧ post = []) := by
  have h := sc_encode (some b) 0 1 #[.int .i64 2, .string (bs []), .int .u64 300, .int .i64 0, .slice none 0 0] 58 (0, 0) [emN liveE] ⟨rfl, by simp, by simp, by rfl, fun h => by cases h⟩ (by intro m hm; rw [List.mem_singleton.1 hm]; exact emN_ok (by decide) (by decide) (by decide) (by decide) rfl)
  rw [show evsOf [emN liveE] = [liveE] from rfl, scr_live] at h
  exact h
theorem scr3 (es : List Ev) (ht : ∀ e ∈ es, e.t < 18446744073709551616) : (GoodS es ∧ scrT es = .tuple #[.string (bs (encS es)), .int .i64 0]) ∨ scrT es = .tuple #[.string (bs []), .int .i64 9] ∨ scrT es = .tuple #[.string (bs []), .int .i64 1] := by
  unfold scrT
  by_cases h : 400 < es.length
  · rw [if_pos h]; exact .inr (.inl rfl)
  · rw [if_neg h]
    by_cases h2 : ∀ e ∈ es, MayE e
    · rw [if_pos h2]; exact .inl ⟨⟨by omega, fun e he => ⟨h2 e he, ht e he⟩⟩, rfl⟩
    · rw [if_neg h2]; exact .inr (.inr rfl)
theorem encS_len {es : List Ev} (h : GoodS es) : (encS es).length ≤ 1000000 := by
  obtain ⟨h1, h2⟩ := h
  have a := chainI_len (es.length : Int) (by omega) (by omega)
  have b := encEs_len (es := es) (fun e he => h2 e he)
  unfold encS encList; rw [List.length_append]; omega
theorem dec_enc {es fs : List Ev} {c : Int} (h : GoodS es) (hd : DecR (encS es) fs c) : c = 0 ∧ fs = es := hd.1.forth es h rfl
theorem evs_t {ms : List Em} (h : ∀ m ∈ ms, EmOk m) : ∀ e ∈ evsOf ms, e.t < 18446744073709551616 := fun e he => by
  obtain ⟨m, hm, rfl⟩ := List.mem_map.1 he
  exact (h m hm).t
theorem scr_dec {l : List UInt8} {es : List Ev} {c : Int} (h : DecR l es c) : (c = 0 ∧ scrT es = .tuple #[.string (bs l), .int .i64 0]) ∨ (c = 3 ∧ es = [] ∧ scrT es = .tuple #[.string (bs (encS [])), .int .i64 0]) := by
  obtain ⟨h1, h2⟩ := h
  rcases h2 with rfl | ⟨rfl, rfl⟩
  · obtain ⟨⟨g1, g2⟩, g3⟩ := h1.back rfl
    refine .inl ⟨rfl, ?_⟩
    unfold scrT
    rw [if_neg (by omega), if_pos (fun e he => (g2 e he).1), g3]
  · refine .inr ⟨rfl, rfl, ?_⟩
    unfold scrT
    rw [if_neg (by simp), if_pos (by simp)]

set_option maxRecDepth 100000 in
set_option maxHeartbeats 1000000 in
theorem rl_num (n : Int) :
    Ct Try.prog 25 [.int .i64 n] [] [] fun v post => v = .int .i64 n ∧ post = [] := by
 refine ct_of Try.func25 rfl rfl (fun w0 => ?_)
 show G _ _ [(0, _)] _ _
 refine G_seq ?_
 refine G_region (l := [0]) rfl ?_
 refine G_val rfl rfl rfl rfl (V_assign rfl rfl) ?_
 refine G_done ?_
 refine G_seq ?_
 refine G_region (l := [0, 1]) rfl ?_
 refine G_val rfl rfl rfl rfl (V_move rfl rfl) ?_
 refine G_val rfl rfl rfl rfl (V_assign rfl rfl) ?_
 refine G_done ?_
 refine G_ret (post := []) Try.func25 rfl (RVs_cons (RV_tmp rfl) RVs_nil) [] rfl ?_
 dsimp only [packed]
 exact ⟨rfl, rfl⟩

set_option maxRecDepth 100000 in
set_option maxHeartbeats 1000000 in
theorem rl_live  :
    Ct Try.prog 20 [] [] [] fun v post => v = .bool true ∧ post = [] := by
 refine ct_of Try.func20 rfl rfl (fun w0 => ?_)
 show G _ _ [] _ _
 refine G_seq ?_
 refine G_region (l := [0]) rfl ?_
 refine G_val rfl rfl rfl rfl (V_assign rfl rfl) ?_
 refine G_done ?_
 refine G_seq ?_
 refine G_addNone (.cells #[] 151 (0, 0)) ?_
 refine G_region (l := [0, 1, 2, 3, 4, 5, 6, 7]) rfl ?_
 refine G_val rfl rfl rfl rfl (V_buildS (cs := [_, _, _, _, _]) rfl Try.underlying58 infScriptL_58 rfl plcScriptL_58 rfl rfl rfl) ?_
 refine G_new rfl rfl rfl rfl (N_buildAll (s := 5) (cs := [_, _, _, _, _]) rfl Try.underlying53 infScriptL_58 rfl rfl rfl rfl rfl rfl rfl rfl rfl) (fun b5 => ?_)
 refine G_call (L2 := [_, _]) rfl rfl rfl rfl rfl rfl Try.call23 (sc_live _) [] [0, 1] rfl rfl ?_
 rintro v post ⟨rfl, rfl⟩
 show G _ _ _ [_, _] _
 refine G_val rfl rfl rfl rfl (V_move rfl rfl) ?_
 refine G_val rfl rfl rfl rfl (V_extract rfl rfl rfl) ?_
 refine G_val rfl rfl rfl rfl (V_extract rfl rfl rfl) ?_
 refine G_val rfl rfl rfl rfl (V_assign rfl rfl) ?_
 refine G_val rfl rfl rfl rfl (V_assign rfl rfl) ?_
 refine G_done ?_
 refine G_seq ?_
 refine G_region (l := [0, 1, 2, 3, 4, 5, 6, 7]) rfl ?_
 refine G_val rfl rfl rfl rfl (V_move rfl rfl) ?_
 refine G_val rfl rfl rfl rfl (V_seql rfl rfl rfl) ?_
 refine G_val rfl rfl rfl rfl (V_move rfl rfl) ?_
 refine G_splitD 11 rfl (fun hc1 => ?_) (fun hc1 => ?_)
 rotate_left
 · (first | contradiction | (exact absurd rfl hc1) | (exfalso; omega) | (simp at hc1; done) | (exact absurd hc1 (by decide)) | (exact absurd (by decide) hc1))
 refine G_val rfl rfl rfl rfl (V_move rfl rfl) ?_
 refine G_call (L2 := [_, _]) rfl rfl rfl rfl rfl rfl Try.call25 (rl_num _) [] [] rfl rfl ?_
 rintro v post ⟨rfl, rfl⟩
 show G _ _ _ [_, _] _
 refine G_val rfl rfl rfl rfl (V_eql rfl rfl rfl) ?_
 refine G_val rfl rfl rfl rfl (V_pickT rfl rfl rfl) ?_
 refine G_val rfl rfl rfl rfl (V_assign rfl rfl) ?_
 refine G_done ?_
 refine G_ret (post := []) Try.func20 rfl (RVs_cons (RV_tmp rfl) RVs_nil) [] rfl ?_
 dsimp only [packed]
 exact ⟨rfl, rfl⟩

end
end Go.Proofs.Ytkekkalgebgokaa

/- From a law's walk ('it returns true, and nothing that was there has turned') to the row's own form, for a law with any parameters: one lemma for all laws. -/
namespace Go.Proofs.Ytkekkalgebgokaa
open Go.ChangeShapes Go.WideShapes Go.ChangeAt Go.RowKit

theorem Try.ownK : ownKnob Try.prog.godebug = none := by kernel_rfl
theorem Try.laidOutK : laidOutB Try.prog = true := by kernel_rfl

theorem trodAll_below {H : Type} {enc : TypeId × Value → H} {P : Program} (hl : laidOutB P = true) {W W' : World} (hb : Below W.heap.size W W') :
    ∀ (ts : List TypeId) (vs : List Value) (ds : List (DataW H)) (ps : List MemPlace), (∀ t ∈ ts, P.readableRec t = true ∧ t < P.types.size) →
      DataW.TrodAll enc P W 0 (fun _ => true) true ts vs ds ps → DataW.TrodAll enc P W' 0 (fun b => decide (b < W.heap.size)) true ts vs ds ps
  | [], [], [], _, _, h => h
  | [], [], _ :: _, _, _, h => h.elim
  | [], _ :: _, [], _, _, h => h.elim
  | [], _ :: _, _ :: _, _, _, h => h.elim
  | _ :: _, [], [], _, _, h => h.elim
  | _ :: _, [], _ :: _, _, _, h => h.elim
  | _ :: _, _ :: _, [], _, _, h => h.elim
  | t :: ts, v :: vs, d :: ds, ps, hr, h => by
    obtain ⟨p, q, h1, h2, e⟩ := h
    have hlt : ∀ x ∈ p, x.block < W.heap.size := by
      obtain ⟨m, hm⟩ := h1
      exact DataW.trod_lt m _ _ _ hm
    exact ⟨p, q, Below.trod hl (hr t (by simp)).1 (hr t (by simp)).2 h1 hb hlt, trodAll_below hl hb ts vs ds q (fun t ht => hr t (by simp [ht])) h2, e⟩

theorem u64_word {a : Int} (h : (Lit.int .u64 a).wf = true) : ∃ n : Nat, a = (n : Int) ∧ U64 n := by
  have := bounds_u64 h
  exact ⟨a.toNat, by omega, by unfold U64; omega⟩

/-- What a law's walk must show: called with whatever can be read at its parameters' types it returns true and writes nothing that was there. -/
def LawWalk (f : FuncId) (F : Func) : Prop :=
  ∀ (H : Type) (enc : TypeId × Value → H) (W : World) (base : Nat) (args : Array Value) (ds : List (DataW H)) (p : List MemPlace),
    (∀ (j : Nat) t v, F.params[j]? = some t → args[j]? = some v → Value.okWide Try.prog W .any base t v) →
    DataW.TrodAll enc Try.prog W 0 (fun _ => true) true F.params.toList args.toList ds p →
    Calls Try.prog f args W fun e W' => e = .returned (.bool true) ∧ Below W.heap.size W W'

theorem trodAll_len {H : Type} {enc : TypeId × Value → H} {P : Program} {w : World} {base : Nat} {spare : Nat → Bool} {held : Bool} :
    ∀ (ts : List TypeId) (vs : List Value) (ds : List (DataW H)) (ps : List MemPlace), DataW.TrodAll enc P w base spare held ts vs ds ps → ds.length = ts.length
  | [], [], [], _, _ => rfl
  | [], [], _ :: _, _, h => h.elim
  | [], _ :: _, [], _, h => h.elim
  | [], _ :: _, _ :: _, _, h => h.elim
  | _ :: _, [], [], _, h => h.elim
  | _ :: _, [], _ :: _, _, h => h.elim
  | _ :: _, _ :: _, [], _, h => h.elim
  | _ :: ts, _ :: vs, _ :: ds, _, h => by
    obtain ⟨p, q, _, h2, _⟩ := h
    simp [trodAll_len ts vs ds q h2]

set_option maxRecDepth 100000 in
theorem law_lifted {f : FuncId} {F : Func} {s : ChangeSpec} (os : Os) (started : os.Started) (H : Type) (enc : TypeId × Value → H)
    (hfn : Try.prog.funcs[f]? = some F) (hni : Try.checked.prog.inits.idxOf? f = none)
    (witness : ∃ (w : World) (tape : Tape) (i : Input), w.os = os ∧ (w.forCall tape i).Shaped Try.checked.prog ∧ i.vars = [] ∧ Input.okWide Try.checked.prog (w.forCall tape i) .any w.heap.size f i ∧
      s.pre6 enc Try.checked.prog F [] false (w.forCall tape i).memory i.args ∧ Assume.holds {} Try.checked.prog (lone (Frame.enter Try.checked.prog f i.args .normal) [] (w.forCall tape i)))
    (hvars : s.vars = []) (hrt : F.resultTypes.toList = [4]) (hrs : F.resultTypes.size = 1)
    (hread : ∀ t ∈ F.params.toList, Try.prog.readableRec t = true ∧ t < Try.prog.types.size)
    (hspec : ∀ ds : List (DataW H), ds.length = F.params.toList.length → s.fn H (ds ++ []) = { results := [.lit (.bool true)], args := ds })
    (walk : LawWalk f F) :
    ReturnsInHanded {} Try.checked os f .any (s.pre6 enc Try.prog F [] false) (s.post enc Try.prog F false true false false) := by
  refine returnsInHanded_of_change (C := Try.checked) Try.ownK started hni hfn witness ?_
  intro W base args ds gs before hval hW _ _
  have hW' := hW
  obtain ⟨p, q, hA, hV, rfl, hfz, hnd⟩ := hW
  rw [hvars] at hV
  obtain ⟨rfl, rfl⟩ := trodVars_none hV
  have hlen := trodAll_len _ _ _ _ hA
  refine (walk H enc W base args ds p hval hA).mono fun e W' ⟨he, hb⟩ => ?_
  subst he
  refine ⟨_, rfl, ds, [], _, [], p, [], hW', ?_, ?_, ?_, hb.frame _, fun h => by cases h⟩
  rotate_left
  · rw [hspec ds hlen]
    exact trodAll_below Try.laidOutK hb _ _ _ _ hread hA
  · rw [hvars, hspec ds hlen]
    rfl
  · rw [hspec ds hlen, hrt, hrs]
    exact trodAll_mk1 (shut_bool Try.underlying4 _)

end Go.Proofs.Ytkekkalgebgokaa

/- What can be read of arguments: integers, texts, structs of such. -/
set_option linter.unusedSimpArgs false
set_option linter.unusedVariables false
namespace Go.Proofs.Ytkekkalgebgokaa
open Go.ChangeShapes Go.WideShapes Go.ChangeAt Go.RowKit

section
variable {P : Program} {w : World} {r : Reach} {b : Nat}
theorem okc_int {u : TypeId} {q : IntKind} {v : Value} (h : Cell.okWide P w r b u v) (hu : P.underlying u = some (.int q)) : ∃ n : Int, v = .int q n ∧ q.min ≤ n ∧ n ≤ q.max := by
  unfold Cell.okWide at h
  rw [hu] at h
  have h : Cell.ok P w r b u v := by cases v <;> exact h
  unfold Cell.ok at h
  rw [hu] at h
  cases v <;> first | exact False.elim h | skip
  obtain ⟨rfl, h1, h2⟩ := h
  exact ⟨_, rfl, h1, h2⟩
theorem okc_str {u : TypeId} {v : Value} (h : Cell.okWide P w r b u v) (hu : P.underlying u = some .string) : ∃ l : List UInt8, v = .string (bs l) ∧ l.length ≤ 9223372036854775807 := by
  unfold Cell.okWide at h
  rw [hu] at h
  have h : Cell.ok P w r b u v := by cases v <;> exact h
  unfold Cell.ok at h
  rw [hu] at h
  match v, h with
  | .string s, h =>
    have h : (s.size : Int) ≤ IntKind.i64.max := h
    rw [IntKind.max_i64] at h
    refine ⟨s.data.toList, rfl, ?_⟩
    have : s.data.toList.length = s.size := by simp
    omega
theorem okc_bool {u : TypeId} {v : Value} (h : Cell.okWide P w r b u v) (hu : P.underlying u = some .bool) : ∃ t : Bool, v = .bool t := by
  unfold Cell.okWide at h
  rw [hu] at h
  have h : Cell.ok P w r b u v := by cases v <;> exact h
  unfold Cell.ok at h
  rw [hu] at h
  cases v <;> first | exact False.elim h | skip
  exact ⟨_, rfl⟩
theorem okv_cell {t : TypeId} {d : TypeDesc} {v : Value} (h : Value.okWide P w r b t v) (hu : P.underlying t = some d) (hd : isAggD d = false) : Cell.okWide P w r b t v := by
  unfold Value.okWide at h
  rw [hu] at h
  cases d <;> first | exact h | exact Bool.noConfusion hd
theorem okv_agg {t : TypeId} {d : TypeDesc} {v : Value} {ts : List TypeId} {s : Nat} (h : Value.okWide P w r b t v) (hu : P.underlying t = some d) (hd : isAggD d = true) (hts : P.cellTypes P.depth t = some ts) (hs : P.cellsOf t = s) (hl : ts.length = s) :
    ∃ cs : List Value, v = .agg cs.toArray ∧ cs.length = s ∧ ∀ (i : Nat) (v : Value) (u : TypeId), cs[i]? = some v → ts[i]? = some u → Cell.okWide P w r b u v := by
  unfold Value.okWide at h
  rw [hu] at h
  have h : ∃ cs, v = .agg cs ∧ cs.size = P.cellsOf t ∧ Row.okWide P w r b t cs := by cases d <;> first | exact h | exact Bool.noConfusion hd
  obtain ⟨cs, rfl, hsz, ts', hts', _, hall⟩ := h
  rw [hts] at hts'
  cases hts'
  refine ⟨cs.toList, rfl, by simp; omega, fun i v u hv hu => ?_⟩
  obtain ⟨u', hu', hc⟩ := hall i v (by simpa using hv)
  have hi : i < ts.length := by
    rcases Nat.lt_or_ge i ts.length with h | h
    · exact h
    · rw [List.getElem?_eq_none h] at hu; cases hu
  rw [Nat.mod_eq_of_lt hi, hu] at hu'
  cases hu'
  exact hc
theorem bytes_of : ∀ rest : List Value, (∀ v ∈ rest, ∃ n : Int, v = .int .u8 n ∧ IntKind.u8.min ≤ n ∧ n ≤ IntKind.u8.max) → ∃ d, rest = bcells d
  | [], _ => ⟨[], rfl⟩
  | v :: rest, h => by
    obtain ⟨n, rfl, h1, h2⟩ := h v (by simp)
    obtain ⟨d, rfl⟩ := bytes_of rest (fun v hv => h v (by simp [hv]))
    have h1' : 0 ≤ n := h1
    have h2' : n ≤ 255 := h2
    refine ⟨UInt8.ofNat n.toNat :: d, ?_⟩
    simp only [bcells, List.map_cons]
    congr 2
    simp
    omega
end
set_option maxRecDepth 100000 in
/-- A law's walk by a contract over its arguments, for what can be read at their types. -/
theorem lawwalk_of {f : FuncId} {F : Func} (h : ∀ (W : World) (base : Nat) (args : Array Value), args.size = F.params.size → (∀ (j : Nat) t v, F.params[j]? = some t → args[j]? = some v → Value.okWide Try.prog W .any base t v) → ∃ A, Has W A [] ∧ Ct Try.prog f args.toList A [] (fun v post => v = .bool true ∧ post = [])) : LawWalk f F := by
  intro H enc W base args ds p hval hA
  have hlen : ∀ (ts : List TypeId) (vs : List Value) (ds : List (DataW H)) (ps : List MemPlace), DataW.TrodAll enc Try.prog W 0 (fun _ => true) true ts vs ds ps → vs.length = ts.length := by
    intro ts
    induction ts with
    | nil =>
      intro vs ds ps h
      cases vs with
      | nil => rfl
      | cons v vs => cases ds <;> exact h.elim
    | cons t ts ih =>
      intro vs ds ps h
      cases vs with
      | nil => cases ds <;> exact h.elim
      | cons v vs =>
        cases ds with
        | nil => exact h.elim
        | cons d ds =>
          obtain ⟨p, q, _, h2, _⟩ := h
          simp [ih vs ds q h2]
  have hl := hlen _ _ _ _ hA
  obtain ⟨A, hw, hc⟩ := h W base args hl hval
  have := below_of_ct hc W hw
  rwa [Array.toArray_toList] at this
end Go.Proofs.Ytkekkalgebgokaa

/- What can be read of arguments, on: slices of whatever, and their elements. -/
set_option linter.unusedSimpArgs false
set_option linter.unusedVariables false
namespace Go.Proofs.Ytkekkalgebgokaa
open Go.ChangeShapes Go.WideShapes Go.ChangeAt Go.RowKit Go.Deep

/-- It can be read, at a type. -/
def Reads (P : Program) (W : World) (t : TypeId) (cs : List Value) : Prop :=
  ∃ (H : Type) (enc : TypeId × Value → H) (n : Nat) (x : DataW H × List MemPlace), DataW.trod enc P W 0 (fun _ => true) true n t cs = some x

section
variable {P : Program} {W : World}
theorem reads_int {t : TypeId} {q : IntKind} {cs : List Value} (h : Reads P W t cs) (ht : P.underlying t = some (.int q)) : ∃ n : Int, cs = [.int q n] ∧ q.min ≤ n ∧ n ≤ q.max := by
  obtain ⟨H, enc, n, x, h⟩ := h
  obtain ⟨k, rfl, _, hw⟩ := DataW.trod_int ht h
  simp [Lit.wf] at hw
  exact ⟨k, rfl, hw.1, hw.2⟩
theorem reads_str {t : TypeId} {cs : List Value} (h : Reads P W t cs) (ht : P.underlying t = some .string) : ∃ l : List UInt8, cs = [.string (bs l)] ∧ l.length ≤ 9223372036854775807 := by
  obtain ⟨H, enc, n, x, h⟩ := h
  obtain ⟨s, rfl, _, hs⟩ := DataW.trod_string ht h
  refine ⟨s.data.toList, rfl, ?_⟩
  have : s.data.toList.length = s.size := by simp
  unfold maxLen at hs
  omega
theorem reads_bool {t : TypeId} {cs : List Value} (h : Reads P W t cs) (ht : P.underlying t = some .bool) : ∃ b : Bool, cs = [.bool b] := by
  obtain ⟨H, enc, n, x, h⟩ := h
  obtain ⟨b, rfl, _⟩ := DataW.trod_bool ht h
  exact ⟨b, rfl⟩
theorem reads_struct {t : TypeId} {fs : Array Field} {cs : List Value} (h : Reads P W t cs) (ht : P.underlying t = some (.struct fs)) : cs.length = P.cellsOf t ∧ ∀ (i : Nat) (f : Field), fs[i]? = some f → Reads P W f.type ((cs.drop f.offset).take (P.cellsOf f.type)) := by
  obtain ⟨H, enc, n, x, h⟩ := h
  obtain ⟨xs, k, _, _, hl, hx, hf⟩ := DataW.trod_struct ht h
  refine ⟨hl, fun i f hi => ?_⟩
  have hlt : i < xs.length := by rw [hx]; exact (Array.getElem?_eq_some_iff.1 hi).1
  exact ⟨H, enc, k, xs[i], by rw [hf i f hi, List.getElem?_eq_getElem hlt]⟩
/-- A field, by its place. -/
theorem reads_field {t : TypeId} {fs : Array Field} {cs vs : List Value} {s : Nat} (h : Reads P W t cs) (ht : P.underlying t = some (.struct fs)) (i : Nat) (f : Field) (hi : fs[i]? = some f) (hs : P.cellsOf f.type = s) (hv : (cs.drop f.offset).take s = vs) : Reads P W f.type vs := by
  have := (reads_struct h ht).2 i f hi
  rwa [hs, hv] at this

theorem reads_slice {t e : TypeId} {cs : List Value} {sz b : Nat} (h : Reads P W t cs) (ht : P.underlying t = some (.slice e)) (hsz : P.cellsOf e = sz) {v : Value} (hv : cs = [v]) (hok : Cell.okWide P W .any b t v) {α : Type} [Inhabited α] (f : α → List Value) (hf : ∀ a, (f a).length = sz) (good : α → Prop)
    (hel : ∀ es, es.length = sz → Reads P W e es → ∃ a, es = f a ∧ good a) :
    ∃ (ob : Option Nat) (off cap : Nat) (c : Array Value) (T : TypeId) (fr : Nat × Nat) (l : List α), v = sv ob off l.length cap ∧ Sees sz ob off cap c (l.flatMap f) l.length ∧ (∀ a ∈ l, good a) ∧ ∀ b, ob = some b → W.heap[b]? = some (.cells c T fr) := by
  obtain ⟨H, enc, n, x, h⟩ := h
  subst hv
  rcases open_slice ht h with ⟨h0, _⟩ | ⟨a, len, cap, m, n, D, Pl, hcs, _, hl, hm, hmm, _, hx⟩
  · simp at h0
    subst h0
    exact ⟨none, 0, 0, #[], 0, (0, 0), [], rfl, sees_nil, by simp, fun b hb => by cases hb⟩
  · simp at hcs
    subst hcs
    simp at hmm
    subst hmm
    unfold Cell.okWide at hok
    rw [ht] at hok
    have hok : Cell.ok P W .any b t (.slice (some a) len m) := hok
    unfold Cell.ok at hok
    rw [ht] at hok
    obtain ⟨_, _, _, hsp, row, cells, hsh, _⟩ := hok
    obtain ⟨bb, off, spot⟩ := a
    simp only at hsp hsh
    subst hsp
    obtain ⟨c, T, fr, hb⟩ : ∃ c T fr, W.heap[bb]? = some (.cells c T fr) := by
      unfold World.shape? at hsh
      split at hsh
      · rename_i c e fr hb; exact ⟨c, e, fr, hb⟩
      · cases hsh
    have hall : ∀ i, i < len → ∃ a : α, good a ∧ ∀ j, j < sz → c[off + i * sz + j]? = (f a)[j]? := fun i hi => by
      obtain ⟨es, h1, h2⟩ := hx i (by omega)
      rw [hsz] at h1
      obtain ⟨_, hlen, hc⟩ := World.cells?_some h1
      obtain ⟨a, rfl, hg⟩ := hel es hlen ⟨H, enc, n, _, h2⟩
      refine ⟨a, hg, fun j hj => ?_⟩
      have := hc j hj
      rw [addr_add, addr_add, cell_of_row W bb _ c T fr hb] at this
      exact this
    obtain ⟨F, hF⟩ := choose_lt hall
    have hll : ((List.range len).map F).length = len := by simp
    refine ⟨some bb, off, m, c, T, fr, (List.range len).map F, by rw [hll]; rfl, ⟨by rw [flat_len f hf, hll], by rw [hll]; exact hl, by unfold maxLen at hm; omega, ?_, fun h => by cases h⟩, fun a ha => ?_, fun b hb' => by cases hb'; exact hb⟩
    · rw [hll]
      apply List.ext_getElem?
      intro k
      have hfl : (((List.range len).map F).flatMap f).length = len * sz := by rw [flat_len f hf, hll]
      rcases Nat.lt_or_ge k (len * sz) with hk | hk
      · have hz : 0 < sz := by
          rcases Nat.eq_zero_or_pos sz with h0 | h0
          · subst h0; omega
          · exact h0
        have hi : k / sz < len := Nat.div_lt_of_lt_mul (by rw [Nat.mul_comm]; exact hk)
        have hj : k % sz < sz := Nat.mod_lt _ hz
        have hkk : k = k / sz * sz + k % sz := by have := Nat.div_add_mod k sz; rw [Nat.mul_comm] at this; omega
        have h1 := (hF (k / sz) hi).2 (k % sz) hj
        have h2 := flat_at f hf ((List.range len).map F) (k / sz) (F (k / sz)) (by simp [hi])
        have h3 : (((List.range len).map F).flatMap f)[k]? = (f (F (k / sz)))[k % sz]? := by
          rw [← h2, List.getElem?_take, if_pos hj, List.getElem?_drop, ← hkk]
        rw [h3, ← h1, List.getElem?_take, if_pos hk, List.getElem?_drop]
        have e : off + k / sz * sz + k % sz = off + k := by omega
        rw [e]
        simp
      · rw [List.getElem?_eq_none (by rw [List.length_take]; omega), List.getElem?_eq_none (by omega)]
    · simp only [List.mem_map, List.mem_range] at ha
      obtain ⟨i, hi, rfl⟩ := ha
      exact (hF i hi).1
end

/-- A block of a slice's, if any, is there. -/
theorem has_cons {W : World} {A : List (Option Nat × Obj)} {ob : Option Nat} {o : Obj} (h : Has W A []) (ho : ∀ b, ob = some b → W.heap[b]? = some o) : Has W ((ob, o) :: A) [] :=
  ⟨fun b x hm => by
    rcases List.mem_cons.1 hm with e | hm
    · injection e with e1 e2
      subst e2
      exact ho b e1.symm
    · exact h.liesA b x hm, .nil, fun _ _ h => (by cases h), fun _ _ _ h => (by cases h)⟩

set_option maxRecDepth 100000 in
/-- A law's walk by a contract over its arguments, for what can be read at their types. -/
theorem lawwalk_reads {f : FuncId} {F : Func} (h : ∀ (W : World) (base : Nat) (args : Array Value), args.size = F.params.size → (∀ (j : Nat) t v, F.params[j]? = some t → args[j]? = some v → Value.okWide Try.prog W .any base t v ∧ Reads Try.prog W t v.cells.toList) → ∃ A, Has W A [] ∧ Ct Try.prog f args.toList A [] (fun v post => v = .bool true ∧ post = [])) : LawWalk f F := by
  intro H enc W base args ds p hval hA
  have hlen : ∀ (ts : List TypeId) (vs : List Value) (ds : List (DataW H)) (ps : List MemPlace), DataW.TrodAll enc Try.prog W 0 (fun _ => true) true ts vs ds ps → vs.length = ts.length ∧ ∀ (j : Nat) t v, ts[j]? = some t → vs[j]? = some v → Reads Try.prog W t v.cells.toList := by
    intro ts
    induction ts with
    | nil =>
      intro vs ds ps h
      cases vs with
      | nil => exact ⟨rfl, fun j t v ht => by simp at ht⟩
      | cons v vs => cases ds <;> exact h.elim
    | cons t ts ih =>
      intro vs ds ps h
      cases vs with
      | nil => cases ds <;> exact h.elim
      | cons v vs =>
        cases ds with
        | nil => exact h.elim
        | cons d ds =>
          obtain ⟨p, q, h1, h2, _⟩ := h
          obtain ⟨i1, i2⟩ := ih vs ds q h2
          refine ⟨by simp [i1], fun j t' v' ht hv => ?_⟩
          cases j with
          | zero =>
            simp at ht hv
            subst ht hv
            obtain ⟨m, hm⟩ := h1
            exact ⟨H, enc, m, _, by simpa using hm⟩
          | succ j => exact i2 j t' v' (by simpa using ht) (by simpa using hv)
  have hl := hlen _ _ _ _ hA
  obtain ⟨A, hw, hc⟩ := h W base args (by simpa using hl.1) (fun j t v ht hv => ⟨hval j t v ht hv, hl.2 j t v (by simpa using ht) (by simpa using hv)⟩)
  have := below_of_ct hc W hw
  rwa [Array.toArray_toList] at this
end Go.Proofs.Ytkekkalgebgokaa
