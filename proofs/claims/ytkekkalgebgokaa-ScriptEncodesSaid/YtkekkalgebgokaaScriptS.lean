/- The walks of layer 40, on: which events are the same; which lists are long. -/
import Derived.Test.YtkekkalgebgokaaScriptW
set_option linter.unusedSimpArgs false
set_option linter.unusedVariables false
namespace Go.Proofs.Ytkekkalgebgokaa
open Go Go.RowKit

section
theorem infScriptS_3 : Try.prog.info? 3 = some Try.t3 := by kernel_rfl
theorem infScriptS_9 : Try.prog.info? 9 = some Try.t9 := by kernel_rfl
theorem infScriptS_23 : Try.prog.info? 23 = some Try.t23 := by kernel_rfl
theorem infScriptS_56 : Try.prog.info? 56 = some Try.t56 := by kernel_rfl
theorem infScriptS_58 : Try.prog.info? 58 = some Try.t58 := by kernel_rfl
theorem infScriptS_151 : Try.prog.info? 151 = some Try.t151 := by kernel_rfl


def kLits (x : Int × Int) : List Lit := [.int .i64 x.1, .int .i64 x.2]
theorem kLits_inj {x y : Int × Int} (h : kLits x = kLits y) : x = y := by
  obtain ⟨a, b⟩ := x
  obtain ⟨c, d⟩ := y
  simp only [kLits, List.cons.injEq, Lit.int.injEq, true_and, and_true] at h
  exact Prod.ext h.1 h.2
set_option maxRecDepth 100000 in
theorem key_k (x : Int × Int) (h : (-9223372036854775808 ≤ x.1 ∧ x.1 ≤ 9223372036854775807) ∧ (-9223372036854775808 ≤ x.2 ∧ x.2 ≤ 9223372036854775807)) : Try.prog.keyLits 2 151 (kC x).toArray.toList = some (kLits x) := by
  refine fits_keys Try.underlying151 (by kernel_rfl) (by kernel_rfl) ?_
  refine ⟨rfl, (by kernel_rfl), key_int Try.underlying3 h.1.1 h.1.2, ?_⟩
  exact ⟨rfl, (by kernel_rfl), key_int Try.underlying3 h.2.1 h.2.2, trivial⟩
theorem ev_ne {x y : Ev} (h : ¬ x.kd = y.kd ∨ ¬ x.b = y.b ∨ ¬ (x.t : Int) = (y.t : Int) ∨ ¬ x.f = y.f ∨ ¬ x.ks = y.ks) : ¬ x = y := by
  rintro rfl
  simp at h
theorem ev_eq {x y : Ev} (h1 : x.kd = y.kd) (h2 : x.b = y.b) (h3 : (x.t : Int) = (y.t : Int)) (h4 : x.f = y.f) (h5 : x.ks = y.ks) : x = y := by
  obtain ⟨a, b, c, d, e⟩ := x
  obtain ⟨a', b', c', d', e'⟩ := y
  simp only at h1 h2 h3 h4 h5
  have h3' : c = c' := by omega
  subst h1 h2 h3' h4 h5
  rfl
theorem evs_at {ms : List Em} {i : Nat} {x : Em} (h : ms[i]? = some x) : (evsOf ms)[i]? = some x.v := by unfold evsOf; rw [List.getElem?_map, h]; rfl
theorem evs_len (ms : List Em) : (evsOf ms).length = ms.length := by unfold evsOf; rw [List.length_map]
theorem evs_ne {ms ns : List Em} (h : ¬ (ms.length : Int) = (ns.length : Int)) : ¬ evsOf ms = evsOf ns := ne_len (by rw [evs_len, evs_len]; omega)

set_option maxRecDepth 100000 in
set_option maxHeartbeats 1000000 in
theorem sc_eqK (x y : Em) (hxo : EmOk x) (hyo : EmOk y) :
    Ct Try.prog 93 [evS x, evS y] [evK x, evK y] [] fun v post => v = .bool (decide (x.v.ks = y.v.ks)) ∧ post = [] := by
 have hle := hxo.le
 have hmax := hxo.max
 have hle2 := hyo.le
 have hmax2 := hyo.max
 refine ct_of Try.func93 rfl rfl (fun w0 => ?_)
 show G _ _ [(0, _), (1, _)] _ _
 refine G_seq ?_
 refine G_region (l := [0]) rfl ?_
 refine G_val rfl rfl rfl rfl (V_assign rfl rfl) ?_
 refine G_done ?_
 refine G_seq ?_
 refine G_seq ?_
 refine G_region (l := [0, 1, 2, 3, 4]) rfl ?_
 refine G_val rfl rfl rfl rfl (V_move rfl rfl) ?_
 refine G_val rfl rfl rfl rfl (V_len rfl rfl Try.underlying56 rfl) ?_
 refine G_val rfl rfl rfl rfl (V_move rfl rfl) ?_
 refine G_val rfl rfl rfl rfl (V_len rfl rfl Try.underlying56 rfl) ?_
 refine G_val rfl rfl rfl rfl (V_neq rfl rfl rfl) ?_
 refine G_done ?_
 refine G_ifD rfl (fun hc1 => ?_) (fun hc1 => ?_)
 · skip
   refine G_seq ?_
   refine G_region (l := [0]) rfl ?_
   refine G_val rfl rfl rfl rfl (V_assign rfl rfl) ?_
   refine G_done ?_
   refine G_ret (post := []) Try.func93 rfl (RVs_cons (RV_tmp rfl) RVs_nil) [] rfl ?_
   dsimp only [packed]
   first
     | exact ⟨bool_eq (decide_eq_false (ne_len (by omega))).symm, rfl⟩
     | exact ⟨bool_eq (decide_eq_false (ne_at ha hb (fun h => (by assumption : ¬ kLits a = kLits b) (by rw [h])))).symm, rfl⟩
     | exact ⟨bool_eq (decide_eq_true (eq_end ht (by omega) (by omega))).symm, rfl⟩
 refine G_skip ?_
 refine G_seq ?_
 refine G_seq ?_
 refine G_region (l := [0, 1, 2]) rfl ?_
 refine G_val rfl rfl rfl rfl (V_move rfl rfl) ?_
 refine G_val rfl rfl rfl rfl (V_len rfl rfl Try.underlying56 rfl) ?_
 refine G_val rfl rfl rfl rfl (V_move rfl rfl) ?_
 refine G_done ?_
 refine G_block ?_
 refine G_sub ?he4 [] ?hl4 (G_loop (X := Nat) (fun j => j ≤ x.v.ks.length ∧ x.v.ks.take j = y.v.ks.take j) (fun j => x.v.ks.length - j) (fun j => [(0, evS x), (1, evS y), (12, .int .i64 (x.v.ks.length : Int)), (13, .int .i64 (j : Int))]) (fun j => []) ?round4 0 ?h04)
 case he4 => exact (And.intro rfl (And.intro rfl (And.intro rfl (And.intro rfl trivial))))
 case hl4 => exact ⟨_, rfl⟩
 case h04 => exact ⟨Nat.zero_le _, rfl⟩
 case round4 =>
  intro j hJ ih
  try dsimp only at hJ ih
  obtain ⟨hj, ht⟩ := hJ
  refine G_seq ?_
  refine G_region (l := [0]) rfl ?_
  refine G_val rfl rfl rfl rfl (V_lss rfl rfl rfl) ?_
  refine G_done ?_
  refine G_seq ?_
  refine G_ifD rfl (fun hc2 => ?_) (fun hc2 => ?_)
  · skip
    refine G_skip ?_
    refine G_seq ?_
    refine G_block ?_
    refine G_seq ?_
    refine G_region (l := [0, 1]) rfl ?_
    refine G_val rfl rfl rfl rfl (V_move rfl rfl) ?_
    refine G_val rfl rfl rfl rfl (V_assign rfl rfl) ?_
    refine G_done ?_
    refine G_seq ?_
    obtain ⟨a, ha⟩ := getI (show j < x.v.ks.length by omega)
    obtain ⟨b, hb⟩ := getI (show j < y.v.ks.length by omega)
    obtain ⟨ka, hsa, hka, hma⟩ := hxo.at (show j < x.v.ks.length by omega)
    obtain ⟨kb, hsb, hkb, hmb⟩ := hyo.at (show j < y.v.ks.length by omega)
    have gka := hxo.ks a (List.mem_of_getElem? ha)
    have gkb := hyo.ks b (List.mem_of_getElem? hb)
    have hma2 : (some ka, Obj.cells x.cs x.T x.fr) ∈ [evK x, evK y] := by rw [← hma]; exact mem_at 0 rfl
    have hmb2 : (some kb, Obj.cells y.cs y.T y.fr) ∈ [evK x, evK y] := by rw [← hmb]; exact mem_at 1 rfl
    rw [hsa, hsb]
    refine G_draw mixedK (by kernel_rfl) ?_
    refine GQ_val rfl rfl rfl rfl (V_move rfl rfl) ?_
    refine GQ_val rfl rfl rfl rfl (V_move rfl rfl) ?_
    first
      | refine GQ_val rfl rfl rfl rfl (V_indexAddrN (s := 2) rfl Try.underlying56 infScriptS_151 rfl rfl rfl rfl (by omega)) ?_
      | refine GQ_val rfl rfl rfl rfl (V_indexAddr (s := 2) rfl Try.underlying56 infScriptS_151 rfl rfl rfl (by omega) (by first | omega | (simp [evC, evV, kC, evS]; done) | (simp [evC, evV, kC, evS]; omega) | (simp [evC, evV, kC, evS] at *; omega))) ?_
    refine GQ_val rfl rfl rfl rfl (V_loadA (s := 2) (vs := (kC a).toArray) rfl rfl (List.mem_append_left _ hma2) Try.underlying151 rfl infScriptS_151 rfl (hka.elem kC_len ha) (by first | rfl | (simp [bcells_length, evC, evV, kC, evS]; done) | (simp [bcells_length, evC, evV, kC, evS]; omega) | (simp [bcells_length, *, evC, evV, kC, evS]; done))) ?_
    refine GQ_val rfl rfl rfl rfl (V_move rfl rfl) ?_
    refine GQ_val rfl rfl rfl rfl (V_move rfl rfl) ?_
    first
      | refine GQ_val rfl rfl rfl rfl (V_indexAddrN (s := 2) rfl Try.underlying56 infScriptS_151 rfl rfl rfl rfl (by omega)) ?_
      | refine GQ_val rfl rfl rfl rfl (V_indexAddr (s := 2) rfl Try.underlying56 infScriptS_151 rfl rfl rfl (by omega) (by first | omega | (simp [evC, evV, kC, evS]; done) | (simp [evC, evV, kC, evS]; omega) | (simp [evC, evV, kC, evS] at *; omega))) ?_
    refine GQ_val rfl rfl rfl rfl (V_loadA (s := 2) (vs := (kC b).toArray) rfl rfl (List.mem_append_left _ hmb2) Try.underlying151 rfl infScriptS_151 rfl (hkb.elem kC_len hb) (by first | rfl | (simp [bcells_length, evC, evV, kC, evS]; done) | (simp [bcells_length, evC, evV, kC, evS]; omega) | (simp [bcells_length, *, evC, evV, kC, evS]; done))) ?_
    refine GQ_val rfl rfl rfl rfl (V_aggneq (m := 6) rfl Try.eqGuardType151 (by kernel_rfl) (by decide) (formed_of Try.underlying151 rfl (by kernel_rfl : Try.prog.cellsOf 151 = 2) (by first | rfl | (simp [bcells_length, evC, evV, kC, evS]; done) | (simp [bcells_length, evC, evV, kC, evS]; omega) | (simp [bcells_length, *, evC, evV, kC, evS]; done))) (formed_of Try.underlying151 rfl (by kernel_rfl : Try.prog.cellsOf 151 = 2) (by first | rfl | (simp [bcells_length, evC, evV, kC, evS]; done) | (simp [bcells_length, evC, evV, kC, evS]; omega) | (simp [bcells_length, *, evC, evV, kC, evS]; done))) rfl rfl (key_k a gka) (key_k b gkb)) ?_
    refine GQ_done rfl ?_
    refine G_ifD rfl (fun hc3 => ?_) (fun hc3 => ?_)
    · skip
      refine G_seq ?_
      refine G_region (l := [0]) rfl ?_
      refine G_val rfl rfl rfl rfl (V_assign rfl rfl) ?_
      refine G_done ?_
      refine G_ret (post := []) Try.func93 rfl (RVs_cons (RV_tmp rfl) RVs_nil) [] rfl ?_
      dsimp only [packed]
      first
        | exact ⟨bool_eq (decide_eq_false (ne_len (by omega))).symm, rfl⟩
        | exact ⟨bool_eq (decide_eq_false (ne_at ha hb (fun h => (by assumption : ¬ kLits a = kLits b) (by rw [h])))).symm, rfl⟩
        | exact ⟨bool_eq (decide_eq_true (eq_end ht (by omega) (by omega))).symm, rfl⟩
    refine G_skip ?_
    refine G_inBlock ?_
    refine G_region (l := [0, 1]) rfl ?_
    first
      | refine G_val rfl rfl rfl rfl ((V_add rfl rfl rfl).int (wrap_i64 (by omega))) ?_
      | refine G_val rfl rfl rfl rfl (V_add rfl rfl rfl) ?_
    refine G_val rfl rfl rfl rfl (V_move rfl rfl) ?_
    refine G_done ?_
    refine G_sub ?_ [] ?_ (ih (j + 1) ?_ ?_)
    · (try rw [hsa, hsb]); (refine (And.intro rfl (And.intro rfl (And.intro rfl (And.intro rfl trivial)))))
    · exact ⟨_, rfl⟩
    · exact ⟨by omega, eq_next ht ha hb (kLits_inj (Classical.not_not.1 (by assumption)))⟩
    · (first | omega | (dsimp only; omega))
  refine G_exit rfl ?_
  refine G_seq ?_
  refine G_region (l := [0]) rfl ?_
  refine G_val rfl rfl rfl rfl (V_assign rfl rfl) ?_
  refine G_done ?_
  refine G_ret (post := []) Try.func93 rfl (RVs_cons (RV_tmp rfl) RVs_nil) [] rfl ?_
  dsimp only [packed]
  first
    | exact ⟨bool_eq (decide_eq_false (ne_len (by omega))).symm, rfl⟩
    | exact ⟨bool_eq (decide_eq_false (ne_at ha hb (fun h => (by assumption : ¬ kLits a = kLits b) (by rw [h])))).symm, rfl⟩
    | exact ⟨bool_eq (decide_eq_true (eq_end ht (by omega) (by omega))).symm, rfl⟩

set_option maxRecDepth 100000 in
set_option maxHeartbeats 1000000 in
theorem sc_same1 (x y : Em) (hxo : EmOk x) (hyo : EmOk y) :
    Ct Try.prog 92 [.agg (evC x).toArray, .agg (evC y).toArray] [evK x, evK y] [] fun v post => v = .bool (decide (x.v = y.v)) ∧ post = [] := by
 refine ct_of Try.func92 rfl rfl (fun w0 => ?_)
 show G _ _ [(0, _), (1, _)] _ _
 refine G_seq ?_
 refine G_region (l := [0, 1, 2]) rfl ?_
 refine G_new rfl rfl rfl rfl (N_boxA rfl rfl) (fun b2 => ?_)
 refine G_new rfl rfl rfl rfl (N_boxA rfl rfl) (fun b3 => ?_)
 refine G_val rfl rfl rfl rfl (V_assign rfl rfl) ?_
 refine G_done ?_
 refine G_seq ?_
 refine G_region (l := [0, 1, 2, 3, 4, 5, 6, 7, 8, 9, 10, 11, 12, 13, 14, 15, 16, 17, 18, 19, 20, 21, 22, 23, 24, 25, 26, 27, 28, 29, 30, 31, 32, 33]) rfl ?_
 refine G_val rfl rfl rfl rfl (V_fieldAddr (fo := 0) rfl Try.underlying58 rfl infScriptS_3 rfl rfl rfl) ?_
 refine G_val rfl rfl rfl rfl (V_load1 rfl rfl (mem_at 3 rfl) rfl Try.underlying3 rfl) ?_
 refine G_val rfl rfl rfl rfl (V_fieldAddr (fo := 0) rfl Try.underlying58 rfl infScriptS_3 rfl rfl rfl) ?_
 refine G_val rfl rfl rfl rfl (V_load1 rfl rfl (mem_at 2 rfl) rfl Try.underlying3 rfl) ?_
 refine G_val rfl rfl rfl rfl (V_eql rfl rfl rfl) ?_
 refine G_val rfl rfl rfl rfl (V_move rfl rfl) ?_
 refine G_splitD 10 rfl (fun hc1 => ?_) (fun hc1 => ?_)
 · skip
   refine G_val rfl rfl rfl rfl (V_fieldAddr (fo := 1) rfl Try.underlying58 rfl infScriptS_9 rfl rfl rfl) ?_
   refine G_val rfl rfl rfl rfl (V_load1 rfl rfl (mem_at 3 rfl) rfl Try.underlying9 rfl) ?_
   refine G_val rfl rfl rfl rfl (V_fieldAddr (fo := 1) rfl Try.underlying58 rfl infScriptS_9 rfl rfl rfl) ?_
   refine G_val rfl rfl rfl rfl (V_load1 rfl rfl (mem_at 2 rfl) rfl Try.underlying9 rfl) ?_
   refine G_val rfl rfl rfl rfl (V_seql rfl rfl rfl) ?_
   refine G_val rfl rfl rfl rfl (V_pickT rfl rfl rfl) ?_
   refine G_val rfl rfl rfl rfl (V_move rfl rfl) ?_
   refine G_splitD 17 rfl (fun hc2 => ?_) (fun hc2 => ?_)
   · skip
     refine G_val rfl rfl rfl rfl (V_fieldAddr (fo := 2) rfl Try.underlying58 rfl infScriptS_23 rfl rfl rfl) ?_
     refine G_val rfl rfl rfl rfl (V_load1 rfl rfl (mem_at 3 rfl) rfl Try.underlying23 rfl) ?_
     refine G_val rfl rfl rfl rfl (V_fieldAddr (fo := 2) rfl Try.underlying58 rfl infScriptS_23 rfl rfl rfl) ?_
     refine G_val rfl rfl rfl rfl (V_load1 rfl rfl (mem_at 2 rfl) rfl Try.underlying23 rfl) ?_
     refine G_val rfl rfl rfl rfl (V_eql rfl rfl rfl) ?_
     refine G_val rfl rfl rfl rfl (V_pickT rfl rfl rfl) ?_
     refine G_val rfl rfl rfl rfl (V_move rfl rfl) ?_
     refine G_splitD 24 rfl (fun hc3 => ?_) (fun hc3 => ?_)
     · skip
       refine G_val rfl rfl rfl rfl (V_fieldAddr (fo := 3) rfl Try.underlying58 rfl infScriptS_3 rfl rfl rfl) ?_
       refine G_val rfl rfl rfl rfl (V_load1 rfl rfl (mem_at 3 rfl) rfl Try.underlying3 rfl) ?_
       refine G_val rfl rfl rfl rfl (V_fieldAddr (fo := 3) rfl Try.underlying58 rfl infScriptS_3 rfl rfl rfl) ?_
       refine G_val rfl rfl rfl rfl (V_load1 rfl rfl (mem_at 2 rfl) rfl Try.underlying3 rfl) ?_
       refine G_val rfl rfl rfl rfl (V_eql rfl rfl rfl) ?_
       refine G_val rfl rfl rfl rfl (V_pickT rfl rfl rfl) ?_
       refine G_val rfl rfl rfl rfl (V_move rfl rfl) ?_
       refine G_splitD 31 rfl (fun hc4 => ?_) (fun hc4 => ?_)
       · skip
         refine G_val rfl rfl rfl rfl (V_fieldAddr (fo := 4) rfl Try.underlying58 rfl infScriptS_56 rfl rfl rfl) ?_
         refine G_val rfl rfl rfl rfl (V_load1 rfl rfl (mem_at 3 rfl) rfl Try.underlying56 rfl) ?_
         refine G_val rfl rfl rfl rfl (V_fieldAddr (fo := 4) rfl Try.underlying58 rfl infScriptS_56 rfl rfl rfl) ?_
         refine G_val rfl rfl rfl rfl (V_load1 rfl rfl (mem_at 2 rfl) rfl Try.underlying56 rfl) ?_
         refine G_call (L2 := [_, _]) rfl rfl rfl rfl rfl rfl Try.call93 (sc_eqK x y hxo hyo) [] [0, 1] rfl rfl ?_
         rintro v post ⟨rfl, rfl⟩
         show G _ _ _ [_, _] _
         refine G_val rfl rfl rfl rfl (V_pickT rfl rfl rfl) ?_
         refine G_val rfl rfl rfl rfl (V_assign rfl rfl) ?_
         refine G_done ?_
         refine G_ret (post := []) Try.func92 rfl (RVs_cons (RV_tmp rfl) RVs_nil) [] rfl ?_
         dsimp only [packed]
         first
           | exact ⟨bool_eq (decide_eq_false (ev_ne (by first | exact .inl (by assumption) | exact .inr (.inl (by assumption)) | exact .inr (.inr (.inl (by assumption))) | exact .inr (.inr (.inr (.inl (by assumption))))))).symm, rfl⟩
           | exact ⟨bool_eq (decide_eq_decide.2 ⟨fun h => ev_eq (by assumption) (by assumption) (by assumption) (by assumption) h, fun h => by rw [h]⟩), rfl⟩
       refine G_off rfl rfl rfl rfl ?_
       refine G_off rfl rfl rfl rfl ?_
       refine G_off rfl rfl rfl rfl ?_
       refine G_off rfl rfl rfl rfl ?_
       refine G_off rfl rfl rfl rfl ?_
       refine G_val rfl rfl rfl rfl (V_pickF rfl rfl rfl) ?_
       refine G_val rfl rfl rfl rfl (V_assign rfl rfl) ?_
       refine G_done ?_
       refine G_ret (post := []) Try.func92 rfl (RVs_cons (RV_tmp rfl) RVs_nil) [] rfl ?_
       dsimp only [packed]
       first
         | exact ⟨bool_eq (decide_eq_false (ev_ne (by first | exact .inl (by assumption) | exact .inr (.inl (by assumption)) | exact .inr (.inr (.inl (by assumption))) | exact .inr (.inr (.inr (.inl (by assumption))))))).symm, rfl⟩
         | exact ⟨bool_eq (decide_eq_decide.2 ⟨fun h => ev_eq (by assumption) (by assumption) (by assumption) (by assumption) h, fun h => by rw [h]⟩), rfl⟩
     refine G_off rfl rfl rfl rfl ?_
     refine G_off rfl rfl rfl rfl ?_
     refine G_off rfl rfl rfl rfl ?_
     refine G_off rfl rfl rfl rfl ?_
     refine G_off rfl rfl rfl rfl ?_
     refine G_val rfl rfl rfl rfl (V_pickF rfl rfl rfl) ?_
     refine G_val rfl rfl rfl rfl (V_move rfl rfl) ?_
     refine G_off rfl rfl rfl rfl ?_
     refine G_off rfl rfl rfl rfl ?_
     refine G_off rfl rfl rfl rfl ?_
     refine G_off rfl rfl rfl rfl ?_
     refine G_off rfl rfl rfl rfl ?_
     refine G_val rfl rfl rfl rfl (V_pickF rfl rfl rfl) ?_
     refine G_val rfl rfl rfl rfl (V_assign rfl rfl) ?_
     refine G_done ?_
     refine G_ret (post := []) Try.func92 rfl (RVs_cons (RV_tmp rfl) RVs_nil) [] rfl ?_
     dsimp only [packed]
     first
       | exact ⟨bool_eq (decide_eq_false (ev_ne (by first | exact .inl (by assumption) | exact .inr (.inl (by assumption)) | exact .inr (.inr (.inl (by assumption))) | exact .inr (.inr (.inr (.inl (by assumption))))))).symm, rfl⟩
       | exact ⟨bool_eq (decide_eq_decide.2 ⟨fun h => ev_eq (by assumption) (by assumption) (by assumption) (by assumption) h, fun h => by rw [h]⟩), rfl⟩
   refine G_off rfl rfl rfl rfl ?_
   refine G_off rfl rfl rfl rfl ?_
   refine G_off rfl rfl rfl rfl ?_
   refine G_off rfl rfl rfl rfl ?_
   refine G_off rfl rfl rfl rfl ?_
   refine G_val rfl rfl rfl rfl (V_pickF rfl rfl rfl) ?_
   refine G_val rfl rfl rfl rfl (V_move rfl rfl) ?_
   refine G_off rfl rfl rfl rfl ?_
   refine G_off rfl rfl rfl rfl ?_
   refine G_off rfl rfl rfl rfl ?_
   refine G_off rfl rfl rfl rfl ?_
   refine G_off rfl rfl rfl rfl ?_
   refine G_val rfl rfl rfl rfl (V_pickF rfl rfl rfl) ?_
   refine G_val rfl rfl rfl rfl (V_move rfl rfl) ?_
   refine G_off rfl rfl rfl rfl ?_
   refine G_off rfl rfl rfl rfl ?_
   refine G_off rfl rfl rfl rfl ?_
   refine G_off rfl rfl rfl rfl ?_
   refine G_off rfl rfl rfl rfl ?_
   refine G_val rfl rfl rfl rfl (V_pickF rfl rfl rfl) ?_
   refine G_val rfl rfl rfl rfl (V_assign rfl rfl) ?_
   refine G_done ?_
   refine G_ret (post := []) Try.func92 rfl (RVs_cons (RV_tmp rfl) RVs_nil) [] rfl ?_
   dsimp only [packed]
   first
     | exact ⟨bool_eq (decide_eq_false (ev_ne (by first | exact .inl (by assumption) | exact .inr (.inl (by assumption)) | exact .inr (.inr (.inl (by assumption))) | exact .inr (.inr (.inr (.inl (by assumption))))))).symm, rfl⟩
     | exact ⟨bool_eq (decide_eq_decide.2 ⟨fun h => ev_eq (by assumption) (by assumption) (by assumption) (by assumption) h, fun h => by rw [h]⟩), rfl⟩
 refine G_off rfl rfl rfl rfl ?_
 refine G_off rfl rfl rfl rfl ?_
 refine G_off rfl rfl rfl rfl ?_
 refine G_off rfl rfl rfl rfl ?_
 refine G_off rfl rfl rfl rfl ?_
 refine G_val rfl rfl rfl rfl (V_pickF rfl rfl rfl) ?_
 refine G_val rfl rfl rfl rfl (V_move rfl rfl) ?_
 refine G_off rfl rfl rfl rfl ?_
 refine G_off rfl rfl rfl rfl ?_
 refine G_off rfl rfl rfl rfl ?_
 refine G_off rfl rfl rfl rfl ?_
 refine G_off rfl rfl rfl rfl ?_
 refine G_val rfl rfl rfl rfl (V_pickF rfl rfl rfl) ?_
 refine G_val rfl rfl rfl rfl (V_move rfl rfl) ?_
 refine G_off rfl rfl rfl rfl ?_
 refine G_off rfl rfl rfl rfl ?_
 refine G_off rfl rfl rfl rfl ?_
 refine G_off rfl rfl rfl rfl ?_
 refine G_off rfl rfl rfl rfl ?_
 refine G_val rfl rfl rfl rfl (V_pickF rfl rfl rfl) ?_
 refine G_val rfl rfl rfl rfl (V_move rfl rfl) ?_
 refine G_off rfl rfl rfl rfl ?_
 refine G_off rfl rfl rfl rfl ?_
 refine G_off rfl rfl rfl rfl ?_
 refine G_off rfl rfl rfl rfl ?_
 refine G_off rfl rfl rfl rfl ?_
 refine G_val rfl rfl rfl rfl (V_pickF rfl rfl rfl) ?_
 refine G_val rfl rfl rfl rfl (V_assign rfl rfl) ?_
 refine G_done ?_
 refine G_ret (post := []) Try.func92 rfl (RVs_cons (RV_tmp rfl) RVs_nil) [] rfl ?_
 dsimp only [packed]
 first
   | exact ⟨bool_eq (decide_eq_false (ev_ne (by first | exact .inl (by assumption) | exact .inr (.inl (by assumption)) | exact .inr (.inr (.inl (by assumption))) | exact .inr (.inr (.inr (.inl (by assumption))))))).symm, rfl⟩
   | exact ⟨bool_eq (decide_eq_decide.2 ⟨fun h => ev_eq (by assumption) (by assumption) (by assumption) (by assumption) h, fun h => by rw [h]⟩), rfl⟩

set_option maxRecDepth 100000 in
set_option maxHeartbeats 1000000 in
theorem sc_eqE (o1 : Option Nat) (p1 q1 : Nat) (c1 : Array Value) (T1 : TypeId) (f1 : Nat × Nat) (ms : List Em) (h1 : Sees 5 o1 p1 q1 c1 (ms.flatMap evC) ms.length) (ok1 : ∀ m ∈ ms, EmOk m) (o2 : Option Nat) (p2 q2 : Nat) (c2 : Array Value) (T2 : TypeId) (f2 : Nat × Nat) (ns : List Em) (h2 : Sees 5 o2 p2 q2 c2 (ns.flatMap evC) ns.length) (ok2 : ∀ m ∈ ns, EmOk m) :
    Ct Try.prog 91 [sv o1 p1 ms.length q1, sv o2 p2 ns.length q2, .func (.func 92) #[] #[]] ((o1, .cells c1 T1 f1) :: (o2, .cells c2 T2 f2) :: (ms.map evK ++ ns.map evK)) [] fun v post => v = .bool (decide (evsOf ms = evsOf ns)) ∧ post = [] := by
 have hl1 := h1.le
 have hl2 := h1.max
 have hl3 := h2.le
 have hl4 := h2.max
 refine ct_of Try.func91 rfl rfl (fun w0 => ?_)
 show G _ _ [(0, _), (1, _), (2, _)] _ _
 refine G_seq ?_
 refine G_region (l := [0]) rfl ?_
 refine G_val rfl rfl rfl rfl (V_assign rfl rfl) ?_
 refine G_done ?_
 refine G_seq ?_
 refine G_seq ?_
 refine G_region (l := [0, 1, 2, 3, 4]) rfl ?_
 refine G_val rfl rfl rfl rfl (V_move rfl rfl) ?_
 refine G_val rfl rfl rfl rfl (V_len rfl rfl Try.underlying53 rfl) ?_
 refine G_val rfl rfl rfl rfl (V_move rfl rfl) ?_
 refine G_val rfl rfl rfl rfl (V_len rfl rfl Try.underlying53 rfl) ?_
 refine G_val rfl rfl rfl rfl (V_neq rfl rfl rfl) ?_
 refine G_done ?_
 refine G_ifD rfl (fun hc1 => ?_) (fun hc1 => ?_)
 · skip
   refine G_seq ?_
   refine G_region (l := [0]) rfl ?_
   refine G_val rfl rfl rfl rfl (V_assign rfl rfl) ?_
   refine G_done ?_
   refine G_ret (post := []) Try.func91 rfl (RVs_cons (RV_tmp rfl) RVs_nil) [] rfl ?_
   dsimp only [packed]
   first
     | exact ⟨bool_eq (decide_eq_false (evs_ne (by omega))).symm, rfl⟩
     | exact ⟨bool_eq (decide_eq_false (ne_at hvx hvy (by first | assumption | exact ev_ne (by first | exact .inl (by assumption) | exact .inr (.inl (by assumption)) | exact .inr (.inr (.inl (by assumption))) | exact .inr (.inr (.inr (.inl (by assumption)))) | exact .inr (.inr (.inr (.inr (ne_len (by omega))))) | exact .inr (.inr (.inr (.inr (ne_at ha hb (fun h => (by assumption : ¬ kLits a = kLits b) (by rw [h]))))))))) ).symm, rfl⟩
     | exact ⟨bool_eq (decide_eq_true (eq_end ht (by rw [evs_len]; omega) (by rw [evs_len, evs_len]; omega))).symm, rfl⟩
 refine G_skip ?_
 refine G_seq ?_
 refine G_seq ?_
 refine G_region (l := [0, 1, 2]) rfl ?_
 refine G_val rfl rfl rfl rfl (V_move rfl rfl) ?_
 refine G_val rfl rfl rfl rfl (V_len rfl rfl Try.underlying53 rfl) ?_
 refine G_val rfl rfl rfl rfl (V_move rfl rfl) ?_
 refine G_done ?_
 refine G_block ?_
 refine G_sub ?he4 [] ?hl4 (G_loop (X := Nat) (fun i => i ≤ ms.length ∧ (evsOf ms).take i = (evsOf ns).take i) (fun i => ms.length - i) (fun i => [(0, sv o1 p1 ms.length q1), (1, sv o2 p2 ns.length q2), (2, .func (.func 92) #[] #[]), (15, sv o1 p1 ms.length q1), (16, .int .i64 (ms.length : Int)), (17, .int .i64 (i : Int))]) (fun i => []) ?round4 0 ?h04)
 case he4 => exact (And.intro rfl (And.intro rfl (And.intro rfl (And.intro rfl (And.intro rfl (And.intro rfl trivial))))))
 case hl4 => exact ⟨_, rfl⟩
 case h04 => exact ⟨Nat.zero_le _, rfl⟩
 case round4 =>
  intro i hJ ih
  try dsimp only at hJ ih
  obtain ⟨hi, ht⟩ := hJ
  refine G_seq ?_
  refine G_region (l := [0]) rfl ?_
  refine G_val rfl rfl rfl rfl (V_lss rfl rfl rfl) ?_
  refine G_done ?_
  refine G_seq ?_
  refine G_ifD rfl (fun hc2 => ?_) (fun hc2 => ?_)
  · skip
    refine G_skip ?_
    refine G_seq ?_
    refine G_block ?_
    refine G_seq ?_
    obtain ⟨x, hx⟩ := getI (show i < ms.length by omega)
    obtain ⟨y, hy⟩ := getI (show i < ns.length by omega)
    obtain ⟨b1, rfl⟩ := h1.isSome (by omega)
    obtain ⟨b2, rfl⟩ := h2.isSome (by omega)
    have hxo := ok1 x (List.mem_of_getElem? hx)
    have hyo := ok2 y (List.mem_of_getElem? hy)
    have hvx := evs_at hx
    have hvy := evs_at hy
    have hxl := hxo.le
    have hxm := hxo.max
    refine G_region (l := [0, 1, 2, 3, 4, 5]) rfl ?_
    refine G_val rfl rfl rfl rfl (V_move rfl rfl) ?_
    first
      | refine G_val rfl rfl rfl rfl (V_indexAddrN (s := 5) rfl Try.underlying53 infScriptS_58 rfl rfl rfl rfl (by omega)) ?_
      | refine G_val rfl rfl rfl rfl (V_indexAddr (s := 5) rfl Try.underlying53 infScriptS_58 rfl rfl rfl (by omega) (by first | omega | (simp [evC, evV, kC, evS]; done) | (simp [evC, evV, kC, evS]; omega) | (simp [evC, evV, kC, evS] at *; omega))) ?_
    refine G_val rfl rfl rfl rfl (V_loadA (s := 5) (vs := (evC x).toArray) rfl rfl (List.mem_append_left _ (mem_at 0 rfl)) Try.underlying58 rfl infScriptS_58 rfl (h1.elem evC_len hx) (by first | rfl | (simp [bcells_length, evC, evV, kC, evS]; done) | (simp [bcells_length, evC, evV, kC, evS]; omega) | (simp [bcells_length, *, evC, evV, kC, evS]; done))) ?_
    refine G_new rfl rfl rfl rfl (N_allocA rfl infScriptS_58 rfl) (fun b8 => ?_)
    refine G_val rfl rfl rfl rfl (V_assign rfl rfl) ?_
    refine G_put (l1 := []) (L' := [_]) rfl rfl rfl rfl (P_storeA (s := 5) rfl rfl rfl (mem_at 0 rfl) (by first | rfl | (simp [bcells_length, evC, evV, kC, evS]; done) | (simp [bcells_length, evC, evV, kC, evS]; omega) | (simp [bcells_length, *, evC, evV, kC, evS]; done)) infScriptS_58 rfl (by first | rfl | (simp [bcells_length, evC, evV, kC, evS]; done) | (simp [bcells_length, evC, evV, kC, evS]; omega) | (simp [bcells_length, *, evC, evV, kC, evS]; done)) (by first | rfl | exact bcells_all _ | (simp [Value.oneCell', evC, evV, kC, evS]; done) | (simp [Value.oneCell', *, evC, evV, kC, evS]; done))) rfl ?_
    refine G_done ?_
    refine G_seq ?_
    refine G_region (l := [0, 1, 2, 3, 4, 5]) rfl ?_
    refine G_val rfl rfl rfl rfl (V_move rfl rfl) ?_
    refine G_val rfl rfl rfl rfl (V_move rfl rfl) ?_
    first
      | refine G_val rfl rfl rfl rfl (V_indexAddrN (s := 5) rfl Try.underlying53 infScriptS_58 rfl rfl rfl rfl (by omega)) ?_
      | refine G_val rfl rfl rfl rfl (V_indexAddr (s := 5) rfl Try.underlying53 infScriptS_58 rfl rfl rfl (by omega) (by first | omega | (simp [evC, evV, kC, evS]; done) | (simp [evC, evV, kC, evS]; omega) | (simp [evC, evV, kC, evS] at *; omega))) ?_
    refine G_val rfl rfl rfl rfl (V_loadA (s := 5) (vs := (evC y).toArray) rfl rfl (List.mem_append_left _ (mem_at 1 rfl)) Try.underlying58 rfl infScriptS_58 rfl (h2.elem evC_len hy) (by first | rfl | (simp [bcells_length, evC, evV, kC, evS]; done) | (simp [bcells_length, evC, evV, kC, evS]; omega) | (simp [bcells_length, *, evC, evV, kC, evS]; done))) ?_
    refine G_new rfl rfl rfl rfl (N_allocA rfl infScriptS_58 rfl) (fun b9 => ?_)
    refine G_put (l1 := []) (L' := [_, _]) rfl rfl rfl rfl (P_storeA (s := 5) rfl rfl rfl (mem_at 0 rfl) (by first | rfl | (simp [bcells_length, evC, evV, kC, evS]; done) | (simp [bcells_length, evC, evV, kC, evS]; omega) | (simp [bcells_length, *, evC, evV, kC, evS]; done)) infScriptS_58 rfl (by first | rfl | (simp [bcells_length, evC, evV, kC, evS]; done) | (simp [bcells_length, evC, evV, kC, evS]; omega) | (simp [bcells_length, *, evC, evV, kC, evS]; done)) (by first | rfl | exact bcells_all _ | (simp [Value.oneCell', evC, evV, kC, evS]; done) | (simp [Value.oneCell', *, evC, evV, kC, evS]; done))) rfl ?_
    refine G_done ?_
    refine G_seq ?_
    refine G_region (l := [0, 1, 2, 3, 4]) rfl ?_
    refine G_val rfl rfl rfl rfl (V_move rfl rfl) ?_
    first
      | refine G_val rfl rfl rfl rfl (V_loadW (s := 5) rfl rfl (List.mem_append_right _ (mem_at 1 rfl)) Try.underlying58 rfl infScriptS_58 rfl (by first | rfl | (simp [bcells_length, evC, evV, kC, evS]; done) | (simp [bcells_length, evC, evV, kC, evS]; omega) | (simp [bcells_length, *, evC, evV, kC, evS]; done))) ?_
      | refine G_val rfl rfl rfl rfl (V_loadA (s := 5) rfl rfl (List.mem_append_right _ (mem_at 1 rfl)) Try.underlying58 rfl infScriptS_58 rfl rfl (by first | rfl | (simp [bcells_length, evC, evV, kC, evS]; done) | (simp [bcells_length, evC, evV, kC, evS]; omega) | (simp [bcells_length, *, evC, evV, kC, evS]; done))) ?_
    first
      | refine G_val rfl rfl rfl rfl (V_loadW (s := 5) rfl rfl (List.mem_append_right _ (mem_at 0 rfl)) Try.underlying58 rfl infScriptS_58 rfl (by first | rfl | (simp [bcells_length, evC, evV, kC, evS]; done) | (simp [bcells_length, evC, evV, kC, evS]; omega) | (simp [bcells_length, *, evC, evV, kC, evS]; done))) ?_
      | refine G_val rfl rfl rfl rfl (V_loadA (s := 5) rfl rfl (List.mem_append_right _ (mem_at 0 rfl)) Try.underlying58 rfl infScriptS_58 rfl rfl (by first | rfl | (simp [bcells_length, evC, evV, kC, evS]; done) | (simp [bcells_length, evC, evV, kC, evS]; omega) | (simp [bcells_length, *, evC, evV, kC, evS]; done))) ?_
    refine G_callMC (L2 := [_, _]) rfl rfl rfl rfl rfl rfl Try.call92 rfl (sc_same1 x y hxo hyo) [] rfl (subA_cons (List.mem_append_left _ (List.mem_cons_of_mem _ (List.mem_cons_of_mem _ (List.mem_append_left _ (List.mem_map.2 ⟨x, List.mem_of_getElem? hx, rfl⟩))))) (subA_cons (List.mem_append_left _ (List.mem_cons_of_mem _ (List.mem_cons_of_mem _ (List.mem_append_right _ (List.mem_map.2 ⟨y, List.mem_of_getElem? hy, rfl⟩))))) subA_nil)) ?_
    rintro v post ⟨rfl, rfl⟩
    show G _ _ _ [_, _] _
    refine G_val rfl rfl rfl rfl (V_notD rfl rfl) ?_
    refine G_done ?_
    refine G_ifD rfl (fun hc3 => ?_) (fun hc3 => ?_)
    · skip
      refine G_seq ?_
      refine G_region (l := [0]) rfl ?_
      refine G_val rfl rfl rfl rfl (V_assign rfl rfl) ?_
      refine G_done ?_
      refine G_ret (post := []) Try.func91 rfl (RVs_cons (RV_tmp rfl) RVs_nil) [] rfl ?_
      dsimp only [packed]
      first
        | exact ⟨bool_eq (decide_eq_false (evs_ne (by omega))).symm, rfl⟩
        | exact ⟨bool_eq (decide_eq_false (ne_at hvx hvy (by first | assumption | exact ev_ne (by first | exact .inl (by assumption) | exact .inr (.inl (by assumption)) | exact .inr (.inr (.inl (by assumption))) | exact .inr (.inr (.inr (.inl (by assumption)))) | exact .inr (.inr (.inr (.inr (ne_len (by omega))))) | exact .inr (.inr (.inr (.inr (ne_at ha hb (fun h => (by assumption : ¬ kLits a = kLits b) (by rw [h]))))))))) ).symm, rfl⟩
        | exact ⟨bool_eq (decide_eq_true (eq_end ht (by rw [evs_len]; omega) (by rw [evs_len, evs_len]; omega))).symm, rfl⟩
    refine G_skip ?_
    refine G_inBlock ?_
    refine G_region (l := [0, 1]) rfl ?_
    first
      | refine G_val rfl rfl rfl rfl ((V_add rfl rfl rfl).int (wrap_i64 (by omega))) ?_
      | refine G_val rfl rfl rfl rfl (V_add rfl rfl rfl) ?_
    refine G_val rfl rfl rfl rfl (V_move rfl rfl) ?_
    refine G_done ?_
    refine G_sub ?_ [] ?_ (ih (i + 1) ?_ ?_)
    · (refine (And.intro ?_ (And.intro ?_ (And.intro ?_ (And.intro ?_ (And.intro ?_ (And.intro ?_ trivial)))))) <;> first | rfl | exact slot_int (by omega) | exact slot_int (by simp))
    · exact ⟨_, rfl⟩
    · exact ⟨by omega, eq_next ht hvx hvy (Classical.not_not.1 (by assumption))⟩
    · (first | omega | (dsimp only; omega))
  refine G_exit rfl ?_
  refine G_seq ?_
  refine G_region (l := [0]) rfl ?_
  refine G_val rfl rfl rfl rfl (V_assign rfl rfl) ?_
  refine G_done ?_
  refine G_ret (post := []) Try.func91 rfl (RVs_cons (RV_tmp rfl) RVs_nil) [] rfl ?_
  dsimp only [packed]
  first
    | exact ⟨bool_eq (decide_eq_false (evs_ne (by omega))).symm, rfl⟩
    | exact ⟨bool_eq (decide_eq_false (ne_at hvx hvy (by first | assumption | exact ev_ne (by first | exact .inl (by assumption) | exact .inr (.inl (by assumption)) | exact .inr (.inr (.inl (by assumption))) | exact .inr (.inr (.inr (.inl (by assumption)))) | exact .inr (.inr (.inr (.inr (ne_len (by omega))))) | exact .inr (.inr (.inr (.inr (ne_at ha hb (fun h => (by assumption : ¬ kLits a = kLits b) (by rw [h]))))))))) ).symm, rfl⟩
    | exact ⟨bool_eq (decide_eq_true (eq_end ht (by rw [evs_len]; omega) (by rw [evs_len, evs_len]; omega))).symm, rfl⟩

set_option maxRecDepth 100000 in
set_option maxHeartbeats 1000000 in
theorem sc_same (o1 : Option Nat) (p1 q1 : Nat) (c1 : Array Value) (T1 : TypeId) (f1 : Nat × Nat) (ms : List Em) (h1 : Sees 5 o1 p1 q1 c1 (ms.flatMap evC) ms.length) (ok1 : ∀ m ∈ ms, EmOk m) (o2 : Option Nat) (p2 q2 : Nat) (c2 : Array Value) (T2 : TypeId) (f2 : Nat × Nat) (ns : List Em) (h2 : Sees 5 o2 p2 q2 c2 (ns.flatMap evC) ns.length) (ok2 : ∀ m ∈ ns, EmOk m) :
    Ct Try.prog 31 [sv o1 p1 ms.length q1, sv o2 p2 ns.length q2] ((o1, .cells c1 T1 f1) :: (o2, .cells c2 T2 f2) :: (ms.map evK ++ ns.map evK)) [] fun v post => v = .bool (decide (evsOf ms = evsOf ns)) ∧ post = [] := by
 refine ct_of Try.func31 rfl rfl (fun w0 => ?_)
 show G _ _ [(0, _), (1, _)] _ _
 refine G_seq ?_
 refine G_region (l := [0]) rfl ?_
 refine G_val rfl rfl rfl rfl (V_assign rfl rfl) ?_
 refine G_done ?_
 refine G_seq ?_
 refine G_region (l := [0, 1, 2, 3]) rfl ?_
 refine G_val rfl rfl rfl rfl (V_move rfl rfl) ?_
 refine G_val rfl rfl rfl rfl (V_move rfl rfl) ?_
 refine G_callM (L2 := []) rfl rfl rfl rfl rfl rfl Try.call91 (sc_eqE _ _ _ _ _ _ ms h1 ok1 _ _ _ _ _ _ ns h2 ok2) [] rfl (fun x hx => List.mem_append_left _ hx) ?_
 rintro v post ⟨rfl, rfl⟩
 refine G_val rfl rfl rfl rfl (V_assign rfl rfl) ?_
 refine G_done ?_
 refine G_ret (post := []) Try.func31 rfl (RVs_cons (RV_tmp rfl) RVs_nil) [] rfl ?_
 dsimp only [packed]
 exact ⟨rfl, rfl⟩

set_option maxRecDepth 100000 in
set_option maxHeartbeats 1000000 in
theorem rsc_same (o1 : Option Nat) (p1 q1 : Nat) (c1 : Array Value) (T1 : TypeId) (f1 : Nat × Nat) (ms : List Em) (h1 : Sees 5 o1 p1 q1 c1 (ms.flatMap evC) ms.length) (ok1 : ∀ m ∈ ms, EmOk m) (o2 : Option Nat) (p2 q2 : Nat) (c2 : Array Value) (T2 : TypeId) (f2 : Nat × Nat) (ns : List Em) (h2 : Sees 5 o2 p2 q2 c2 (ns.flatMap evC) ns.length) (ok2 : ∀ m ∈ ns, EmOk m) :
    Ct Try.prog 27 [sv o1 p1 ms.length q1, sv o2 p2 ns.length q2] ((o1, .cells c1 T1 f1) :: (o2, .cells c2 T2 f2) :: (ms.map evK ++ ns.map evK)) [] fun v post => v = .bool (decide (evsOf ms = evsOf ns)) ∧ post = [] := by
 have hl1 := h1.le
 have hl2 := h1.max
 have hl3 := h2.le
 have hl4 := h2.max
 refine ct_of Try.func27 rfl rfl (fun w0 => ?_)
 show G _ _ [(0, _), (1, _)] _ _
 refine G_seq ?_
 refine G_region (l := [0]) rfl ?_
 refine G_val rfl rfl rfl rfl (V_assign rfl rfl) ?_
 refine G_done ?_
 refine G_seq ?_
 refine G_seq ?_
 refine G_region (l := [0, 1, 2, 3, 4]) rfl ?_
 refine G_val rfl rfl rfl rfl (V_move rfl rfl) ?_
 refine G_val rfl rfl rfl rfl (V_len rfl rfl Try.underlying53 rfl) ?_
 refine G_val rfl rfl rfl rfl (V_move rfl rfl) ?_
 refine G_val rfl rfl rfl rfl (V_len rfl rfl Try.underlying53 rfl) ?_
 refine G_val rfl rfl rfl rfl (V_neq rfl rfl rfl) ?_
 refine G_done ?_
 refine G_ifD rfl (fun hc1 => ?_) (fun hc1 => ?_)
 · skip
   refine G_seq ?_
   refine G_region (l := [0]) rfl ?_
   refine G_val rfl rfl rfl rfl (V_assign rfl rfl) ?_
   refine G_done ?_
   refine G_ret (post := []) Try.func27 rfl (RVs_cons (RV_tmp rfl) RVs_nil) [] rfl ?_
   dsimp only [packed]
   first
     | exact ⟨bool_eq (decide_eq_false (evs_ne (by omega))).symm, rfl⟩
     | exact ⟨bool_eq (decide_eq_false (ne_at hvx hvy (by first | assumption | exact ev_ne (by first | exact .inl (by assumption) | exact .inr (.inl (by assumption)) | exact .inr (.inr (.inl (by assumption))) | exact .inr (.inr (.inr (.inl (by assumption)))) | exact .inr (.inr (.inr (.inr (ne_len (by omega))))) | exact .inr (.inr (.inr (.inr (ne_at ha hb (fun h => (by assumption : ¬ kLits a = kLits b) (by rw [h]))))))))) ).symm, rfl⟩
     | exact ⟨bool_eq (decide_eq_true (eq_end ht (by rw [evs_len]; omega) (by rw [evs_len, evs_len]; omega))).symm, rfl⟩
 refine G_skip ?_
 refine G_seq ?_
 refine G_seq ?_
 refine G_region (l := [0]) rfl ?_
 refine G_val rfl rfl rfl rfl (V_assign rfl rfl) ?_
 refine G_done ?_
 refine G_block ?_
 refine G_sub ?he4 [] ?hl4 (G_loop (X := Nat) (fun i => i ≤ ms.length ∧ (evsOf ms).take i = (evsOf ns).take i) (fun i => ms.length - i) (fun i => [(0, sv o1 p1 ms.length q1), (1, sv o2 p2 ns.length q2), (5, .int .i64 (i : Int))]) (fun i => []) ?round4 0 ?h04)
 case he4 => exact (And.intro rfl (And.intro rfl (And.intro rfl trivial)))
 case hl4 => exact ⟨_, rfl⟩
 case h04 => exact ⟨Nat.zero_le _, rfl⟩
 case round4 =>
  intro i hJ ih
  try dsimp only at hJ ih
  obtain ⟨hi, ht⟩ := hJ
  refine G_seq ?_
  refine G_seq ?_
  refine G_region (l := [0, 1, 2, 3]) rfl ?_
  refine G_val rfl rfl rfl rfl (V_move rfl rfl) ?_
  refine G_val rfl rfl rfl rfl (V_move rfl rfl) ?_
  refine G_val rfl rfl rfl rfl (V_len rfl rfl Try.underlying53 rfl) ?_
  refine G_val rfl rfl rfl rfl (V_lss rfl rfl rfl) ?_
  refine G_done ?_
  refine G_ifD rfl (fun hc2 => ?_) (fun hc2 => ?_)
  · skip
    refine G_skip ?_
    refine G_seq ?_
    refine G_block ?_
    refine G_seq ?_
    obtain ⟨x, hx⟩ := getI (show i < ms.length by omega)
    obtain ⟨y, hy⟩ := getI (show i < ns.length by omega)
    obtain ⟨b1, rfl⟩ := h1.isSome (by omega)
    obtain ⟨b2, rfl⟩ := h2.isSome (by omega)
    have hxo := ok1 x (List.mem_of_getElem? hx)
    have hyo := ok2 y (List.mem_of_getElem? hy)
    have hvx := evs_at hx
    have hvy := evs_at hy
    have hxl := hxo.le
    have hxm := hxo.max
    refine GH_start (Lq := []) (isq := []) (m := 12) mixedK rfl rfl ?_
    refine GH_take 0 rfl rfl rfl rfl (by kernel_rfl) (by kernel_rfl) (by kernel_rfl) (fun _ _ => (V_move rfl rfl)) ?_
    refine GH_take 1 rfl rfl rfl rfl (by kernel_rfl) (by kernel_rfl) (by kernel_rfl) (fun _ _ => (V_move rfl rfl)) ?_
    first
      | refine GH_take 2 rfl rfl rfl rfl (by kernel_rfl) (by kernel_rfl) (by kernel_rfl) (fun _ _ => (V_indexAddrN (s := 5) rfl Try.underlying53 infScriptS_58 rfl rfl rfl rfl (by omega))) ?_
      | refine GH_take 2 rfl rfl rfl rfl (by kernel_rfl) (by kernel_rfl) (by kernel_rfl) (fun _ _ => (V_indexAddr (s := 5) rfl Try.underlying53 infScriptS_58 rfl rfl rfl (by omega) (by first | omega | (simp [evC, evV, kC, evS]; done) | (simp [evC, evV, kC, evS]; omega) | (simp [evC, evV, kC, evS] at *; omega)))) ?_
    refine GH_take 3 rfl rfl rfl rfl (by kernel_rfl) (by kernel_rfl) (by kernel_rfl) (fun _ _ => (V_loadA (s := 5) (vs := (evC x).toArray) rfl rfl (List.mem_append_left _ (mem_at 0 rfl)) Try.underlying58 rfl infScriptS_58 rfl (h1.elem evC_len hx) (by first | rfl | (simp [bcells_length, evC, evV, kC, evS]; done) | (simp [bcells_length, evC, evV, kC, evS]; omega) | (simp [bcells_length, *, evC, evV, kC, evS]; done)))) ?_
    refine GH_take 4 rfl rfl rfl rfl (by kernel_rfl) (by kernel_rfl) (by kernel_rfl) (fun _ _ => (V_move rfl rfl)) ?_
    refine GH_take 5 rfl rfl rfl rfl (by kernel_rfl) (by kernel_rfl) (by kernel_rfl) (fun _ _ => (V_move rfl rfl)) ?_
    first
      | refine GH_take 6 rfl rfl rfl rfl (by kernel_rfl) (by kernel_rfl) (by kernel_rfl) (fun _ _ => (V_indexAddrN (s := 5) rfl Try.underlying53 infScriptS_58 rfl rfl rfl rfl (by omega))) ?_
      | refine GH_take 6 rfl rfl rfl rfl (by kernel_rfl) (by kernel_rfl) (by kernel_rfl) (fun _ _ => (V_indexAddr (s := 5) rfl Try.underlying53 infScriptS_58 rfl rfl rfl (by omega) (by first | omega | (simp [evC, evV, kC, evS]; done) | (simp [evC, evV, kC, evS]; omega) | (simp [evC, evV, kC, evS] at *; omega)))) ?_
    refine GH_take 7 rfl rfl rfl rfl (by kernel_rfl) (by kernel_rfl) (by kernel_rfl) (fun _ _ => (V_loadA (s := 5) (vs := (evC y).toArray) rfl rfl (List.mem_append_left _ (mem_at 1 rfl)) Try.underlying58 rfl infScriptS_58 rfl (h2.elem evC_len hy) (by first | rfl | (simp [bcells_length, evC, evV, kC, evS]; done) | (simp [bcells_length, evC, evV, kC, evS]; omega) | (simp [bcells_length, *, evC, evV, kC, evS]; done)))) ?_
    refine GH_all [8, 9] (by kernel_rfl) (by decide) ?_
    refine (And.intro ?_ (And.intro ?_ trivial))
    · skip
      refine GHop_new rfl rfl rfl rfl (N_allocA rfl infScriptS_58 rfl) [] (fun _ => ⟨_, rfl⟩) (fun b6 => ?_)
      refine GH_all [9] (by kernel_rfl) (by decide) ?_
      refine (And.intro ?_ trivial)
      · skip
        refine GHop_new rfl rfl rfl rfl (N_allocA rfl infScriptS_58 rfl) [] (fun _ => ⟨_, rfl⟩) (fun b7 => ?_)
        refine GH_all [10] (by kernel_rfl) (by decide) ?_
        refine (And.intro ?_ trivial)
        · skip
          refine GHop_put (l1 := [_]) (L' := [_, _]) rfl rfl rfl rfl (P_storeA (s := 5) rfl rfl rfl (mem_at 1 rfl) (by first | rfl | (simp [bcells_length, evC, evV, kC, evS]; done) | (simp [bcells_length, evC, evV, kC, evS]; omega) | (simp [bcells_length, *, evC, evV, kC, evS]; done)) infScriptS_58 rfl (by first | rfl | (simp [bcells_length, evC, evV, kC, evS]; done) | (simp [bcells_length, evC, evV, kC, evS]; omega) | (simp [bcells_length, *, evC, evV, kC, evS]; done)) (by first | rfl | exact bcells_all _ | (simp [Value.oneCell', evC, evV, kC, evS]; done) | (simp [Value.oneCell', *, evC, evV, kC, evS]; done))) rfl [] rfl ?_
          refine GH_all [11] (by kernel_rfl) (by decide) ?_
          refine (And.intro ?_ trivial)
          · skip
            refine GHop_put (l1 := []) (L' := [_, _]) rfl rfl rfl rfl (P_storeA (s := 5) rfl rfl rfl (mem_at 0 rfl) (by first | rfl | (simp [bcells_length, evC, evV, kC, evS]; done) | (simp [bcells_length, evC, evV, kC, evS]; omega) | (simp [bcells_length, *, evC, evV, kC, evS]; done)) infScriptS_58 rfl (by first | rfl | (simp [bcells_length, evC, evV, kC, evS]; done) | (simp [bcells_length, evC, evV, kC, evS]; omega) | (simp [bcells_length, *, evC, evV, kC, evS]; done)) (by first | rfl | exact bcells_all _ | (simp [Value.oneCell', evC, evV, kC, evS]; done) | (simp [Value.oneCell', *, evC, evV, kC, evS]; done))) rfl [] rfl ?_
            refine GH_done (by kernel_rfl) ?_
            refine G_seq ?_
            refine G_seq ?_
            refine G_region (l := [0, 1, 2, 3, 4, 5, 6, 7, 8, 9, 10, 11, 12, 13, 14, 15, 16, 17, 18, 19, 20, 21, 22, 23, 24, 25, 26, 27, 28, 29, 30, 31, 32, 33, 34]) rfl ?_
            refine G_val rfl rfl rfl rfl (V_fieldAddr (fo := 0) rfl Try.underlying58 rfl infScriptS_3 rfl rfl rfl) ?_
            refine G_val rfl rfl rfl rfl (V_load1 rfl rfl (List.mem_append_right _ (mem_at 1 rfl)) rfl Try.underlying3 rfl) ?_
            refine G_val rfl rfl rfl rfl (V_fieldAddr (fo := 0) rfl Try.underlying58 rfl infScriptS_3 rfl rfl rfl) ?_
            refine G_val rfl rfl rfl rfl (V_load1 rfl rfl (List.mem_append_right _ (mem_at 0 rfl)) rfl Try.underlying3 rfl) ?_
            refine G_val rfl rfl rfl rfl (V_neq rfl rfl rfl) ?_
            refine G_val rfl rfl rfl rfl (V_move rfl rfl) ?_
            refine G_splitD 33 rfl (fun hc3 => ?_) (fun hc3 => ?_)
            · skip
              refine G_off rfl rfl rfl rfl ?_
              refine G_off rfl rfl rfl rfl ?_
              refine G_off rfl rfl rfl rfl ?_
              refine G_off rfl rfl rfl rfl ?_
              refine G_off rfl rfl rfl rfl ?_
              refine G_val rfl rfl rfl rfl (V_pickT rfl rfl rfl) ?_
              refine G_val rfl rfl rfl rfl (V_move rfl rfl) ?_
              refine G_off rfl rfl rfl rfl ?_
              refine G_off rfl rfl rfl rfl ?_
              refine G_off rfl rfl rfl rfl ?_
              refine G_off rfl rfl rfl rfl ?_
              refine G_off rfl rfl rfl rfl ?_
              refine G_val rfl rfl rfl rfl (V_pickT rfl rfl rfl) ?_
              refine G_val rfl rfl rfl rfl (V_move rfl rfl) ?_
              refine G_off rfl rfl rfl rfl ?_
              refine G_off rfl rfl rfl rfl ?_
              refine G_off rfl rfl rfl rfl ?_
              refine G_off rfl rfl rfl rfl ?_
              refine G_off rfl rfl rfl rfl ?_
              refine G_val rfl rfl rfl rfl (V_pickT rfl rfl rfl) ?_
              refine G_val rfl rfl rfl rfl (V_move rfl rfl) ?_
              refine G_off rfl rfl rfl rfl ?_
              refine G_off rfl rfl rfl rfl ?_
              refine G_off rfl rfl rfl rfl ?_
              refine G_off rfl rfl rfl rfl ?_
              refine G_off rfl rfl rfl rfl ?_
              refine G_off rfl rfl rfl rfl ?_
              refine G_off rfl rfl rfl rfl ?_
              refine G_val rfl rfl rfl rfl (V_pickT rfl rfl rfl) ?_
              refine G_done ?_
              refine G_then rfl ?_
              refine G_seq ?_
              refine G_region (l := [0]) rfl ?_
              refine G_val rfl rfl rfl rfl (V_assign rfl rfl) ?_
              refine G_done ?_
              refine G_ret (post := []) Try.func27 rfl (RVs_cons (RV_tmp rfl) RVs_nil) [] rfl ?_
              dsimp only [packed]
              first
                | exact ⟨bool_eq (decide_eq_false (evs_ne (by omega))).symm, rfl⟩
                | exact ⟨bool_eq (decide_eq_false (ne_at hvx hvy (by first | assumption | exact ev_ne (by first | exact .inl (by assumption) | exact .inr (.inl (by assumption)) | exact .inr (.inr (.inl (by assumption))) | exact .inr (.inr (.inr (.inl (by assumption)))) | exact .inr (.inr (.inr (.inr (ne_len (by omega))))) | exact .inr (.inr (.inr (.inr (ne_at ha hb (fun h => (by assumption : ¬ kLits a = kLits b) (by rw [h]))))))))) ).symm, rfl⟩
                | exact ⟨bool_eq (decide_eq_true (eq_end ht (by rw [evs_len]; omega) (by rw [evs_len, evs_len]; omega))).symm, rfl⟩
            refine G_val rfl rfl rfl rfl (V_fieldAddr (fo := 1) rfl Try.underlying58 rfl infScriptS_9 rfl rfl rfl) ?_
            refine G_val rfl rfl rfl rfl (V_load1 rfl rfl (List.mem_append_right _ (mem_at 1 rfl)) rfl Try.underlying9 rfl) ?_
            refine G_val rfl rfl rfl rfl (V_fieldAddr (fo := 1) rfl Try.underlying58 rfl infScriptS_9 rfl rfl rfl) ?_
            refine G_val rfl rfl rfl rfl (V_load1 rfl rfl (List.mem_append_right _ (mem_at 0 rfl)) rfl Try.underlying9 rfl) ?_
            refine G_val rfl rfl rfl rfl (V_sneq rfl rfl rfl) ?_
            refine G_val rfl rfl rfl rfl (V_pickF rfl rfl rfl) ?_
            refine G_val rfl rfl rfl rfl (V_move rfl rfl) ?_
            refine G_splitD 40 rfl (fun hc4 => ?_) (fun hc4 => ?_)
            · skip
              refine G_off rfl rfl rfl rfl ?_
              refine G_off rfl rfl rfl rfl ?_
              refine G_off rfl rfl rfl rfl ?_
              refine G_off rfl rfl rfl rfl ?_
              refine G_off rfl rfl rfl rfl ?_
              refine G_val rfl rfl rfl rfl (V_pickT rfl rfl rfl) ?_
              refine G_val rfl rfl rfl rfl (V_move rfl rfl) ?_
              refine G_off rfl rfl rfl rfl ?_
              refine G_off rfl rfl rfl rfl ?_
              refine G_off rfl rfl rfl rfl ?_
              refine G_off rfl rfl rfl rfl ?_
              refine G_off rfl rfl rfl rfl ?_
              refine G_val rfl rfl rfl rfl (V_pickT rfl rfl rfl) ?_
              refine G_val rfl rfl rfl rfl (V_move rfl rfl) ?_
              refine G_off rfl rfl rfl rfl ?_
              refine G_off rfl rfl rfl rfl ?_
              refine G_off rfl rfl rfl rfl ?_
              refine G_off rfl rfl rfl rfl ?_
              refine G_off rfl rfl rfl rfl ?_
              refine G_off rfl rfl rfl rfl ?_
              refine G_off rfl rfl rfl rfl ?_
              refine G_val rfl rfl rfl rfl (V_pickT rfl rfl rfl) ?_
              refine G_done ?_
              refine G_then rfl ?_
              refine G_seq ?_
              refine G_region (l := [0]) rfl ?_
              refine G_val rfl rfl rfl rfl (V_assign rfl rfl) ?_
              refine G_done ?_
              refine G_ret (post := []) Try.func27 rfl (RVs_cons (RV_tmp rfl) RVs_nil) [] rfl ?_
              dsimp only [packed]
              first
                | exact ⟨bool_eq (decide_eq_false (evs_ne (by omega))).symm, rfl⟩
                | exact ⟨bool_eq (decide_eq_false (ne_at hvx hvy (by first | assumption | exact ev_ne (by first | exact .inl (by assumption) | exact .inr (.inl (by assumption)) | exact .inr (.inr (.inl (by assumption))) | exact .inr (.inr (.inr (.inl (by assumption)))) | exact .inr (.inr (.inr (.inr (ne_len (by omega))))) | exact .inr (.inr (.inr (.inr (ne_at ha hb (fun h => (by assumption : ¬ kLits a = kLits b) (by rw [h]))))))))) ).symm, rfl⟩
                | exact ⟨bool_eq (decide_eq_true (eq_end ht (by rw [evs_len]; omega) (by rw [evs_len, evs_len]; omega))).symm, rfl⟩
            refine G_val rfl rfl rfl rfl (V_fieldAddr (fo := 2) rfl Try.underlying58 rfl infScriptS_23 rfl rfl rfl) ?_
            refine G_val rfl rfl rfl rfl (V_load1 rfl rfl (List.mem_append_right _ (mem_at 1 rfl)) rfl Try.underlying23 rfl) ?_
            refine G_val rfl rfl rfl rfl (V_fieldAddr (fo := 2) rfl Try.underlying58 rfl infScriptS_23 rfl rfl rfl) ?_
            refine G_val rfl rfl rfl rfl (V_load1 rfl rfl (List.mem_append_right _ (mem_at 0 rfl)) rfl Try.underlying23 rfl) ?_
            refine G_val rfl rfl rfl rfl (V_neq rfl rfl rfl) ?_
            refine G_val rfl rfl rfl rfl (V_pickF rfl rfl rfl) ?_
            refine G_val rfl rfl rfl rfl (V_move rfl rfl) ?_
            refine G_splitD 47 rfl (fun hc5 => ?_) (fun hc5 => ?_)
            · skip
              refine G_off rfl rfl rfl rfl ?_
              refine G_off rfl rfl rfl rfl ?_
              refine G_off rfl rfl rfl rfl ?_
              refine G_off rfl rfl rfl rfl ?_
              refine G_off rfl rfl rfl rfl ?_
              refine G_val rfl rfl rfl rfl (V_pickT rfl rfl rfl) ?_
              refine G_val rfl rfl rfl rfl (V_move rfl rfl) ?_
              refine G_off rfl rfl rfl rfl ?_
              refine G_off rfl rfl rfl rfl ?_
              refine G_off rfl rfl rfl rfl ?_
              refine G_off rfl rfl rfl rfl ?_
              refine G_off rfl rfl rfl rfl ?_
              refine G_off rfl rfl rfl rfl ?_
              refine G_off rfl rfl rfl rfl ?_
              refine G_val rfl rfl rfl rfl (V_pickT rfl rfl rfl) ?_
              refine G_done ?_
              refine G_then rfl ?_
              refine G_seq ?_
              refine G_region (l := [0]) rfl ?_
              refine G_val rfl rfl rfl rfl (V_assign rfl rfl) ?_
              refine G_done ?_
              refine G_ret (post := []) Try.func27 rfl (RVs_cons (RV_tmp rfl) RVs_nil) [] rfl ?_
              dsimp only [packed]
              first
                | exact ⟨bool_eq (decide_eq_false (evs_ne (by omega))).symm, rfl⟩
                | exact ⟨bool_eq (decide_eq_false (ne_at hvx hvy (by first | assumption | exact ev_ne (by first | exact .inl (by assumption) | exact .inr (.inl (by assumption)) | exact .inr (.inr (.inl (by assumption))) | exact .inr (.inr (.inr (.inl (by assumption)))) | exact .inr (.inr (.inr (.inr (ne_len (by omega))))) | exact .inr (.inr (.inr (.inr (ne_at ha hb (fun h => (by assumption : ¬ kLits a = kLits b) (by rw [h]))))))))) ).symm, rfl⟩
                | exact ⟨bool_eq (decide_eq_true (eq_end ht (by rw [evs_len]; omega) (by rw [evs_len, evs_len]; omega))).symm, rfl⟩
            refine G_val rfl rfl rfl rfl (V_fieldAddr (fo := 3) rfl Try.underlying58 rfl infScriptS_3 rfl rfl rfl) ?_
            refine G_val rfl rfl rfl rfl (V_load1 rfl rfl (List.mem_append_right _ (mem_at 1 rfl)) rfl Try.underlying3 rfl) ?_
            refine G_val rfl rfl rfl rfl (V_fieldAddr (fo := 3) rfl Try.underlying58 rfl infScriptS_3 rfl rfl rfl) ?_
            refine G_val rfl rfl rfl rfl (V_load1 rfl rfl (List.mem_append_right _ (mem_at 0 rfl)) rfl Try.underlying3 rfl) ?_
            refine G_val rfl rfl rfl rfl (V_neq rfl rfl rfl) ?_
            refine G_val rfl rfl rfl rfl (V_pickF rfl rfl rfl) ?_
            refine G_val rfl rfl rfl rfl (V_move rfl rfl) ?_
            refine G_splitD 54 rfl (fun hc6 => ?_) (fun hc6 => ?_)
            · skip
              refine G_off rfl rfl rfl rfl ?_
              refine G_off rfl rfl rfl rfl ?_
              refine G_off rfl rfl rfl rfl ?_
              refine G_off rfl rfl rfl rfl ?_
              refine G_off rfl rfl rfl rfl ?_
              refine G_off rfl rfl rfl rfl ?_
              refine G_off rfl rfl rfl rfl ?_
              refine G_val rfl rfl rfl rfl (V_pickT rfl rfl rfl) ?_
              refine G_done ?_
              refine G_then rfl ?_
              refine G_seq ?_
              refine G_region (l := [0]) rfl ?_
              refine G_val rfl rfl rfl rfl (V_assign rfl rfl) ?_
              refine G_done ?_
              refine G_ret (post := []) Try.func27 rfl (RVs_cons (RV_tmp rfl) RVs_nil) [] rfl ?_
              dsimp only [packed]
              first
                | exact ⟨bool_eq (decide_eq_false (evs_ne (by omega))).symm, rfl⟩
                | exact ⟨bool_eq (decide_eq_false (ne_at hvx hvy (by first | assumption | exact ev_ne (by first | exact .inl (by assumption) | exact .inr (.inl (by assumption)) | exact .inr (.inr (.inl (by assumption))) | exact .inr (.inr (.inr (.inl (by assumption)))) | exact .inr (.inr (.inr (.inr (ne_len (by omega))))) | exact .inr (.inr (.inr (.inr (ne_at ha hb (fun h => (by assumption : ¬ kLits a = kLits b) (by rw [h]))))))))) ).symm, rfl⟩
                | exact ⟨bool_eq (decide_eq_true (eq_end ht (by rw [evs_len]; omega) (by rw [evs_len, evs_len]; omega))).symm, rfl⟩
            refine G_val rfl rfl rfl rfl (V_fieldAddr (fo := 4) rfl Try.underlying58 rfl infScriptS_56 rfl rfl rfl) ?_
            refine G_val rfl rfl rfl rfl (V_load1 rfl rfl (List.mem_append_right _ (mem_at 1 rfl)) rfl Try.underlying56 rfl) ?_
            refine G_val rfl rfl rfl rfl (V_len rfl rfl Try.underlying56 rfl) ?_
            refine G_val rfl rfl rfl rfl (V_fieldAddr (fo := 4) rfl Try.underlying58 rfl infScriptS_56 rfl rfl rfl) ?_
            refine G_val rfl rfl rfl rfl (V_load1 rfl rfl (List.mem_append_right _ (mem_at 0 rfl)) rfl Try.underlying56 rfl) ?_
            refine G_val rfl rfl rfl rfl (V_len rfl rfl Try.underlying56 rfl) ?_
            refine G_val rfl rfl rfl rfl (V_neq rfl rfl rfl) ?_
            refine G_val rfl rfl rfl rfl (V_pickF rfl rfl rfl) ?_
            refine G_done ?_
            refine G_ifD rfl (fun hc7 => ?_) (fun hc7 => ?_)
            · skip
              refine G_seq ?_
              refine G_region (l := [0]) rfl ?_
              refine G_val rfl rfl rfl rfl (V_assign rfl rfl) ?_
              refine G_done ?_
              refine G_ret (post := []) Try.func27 rfl (RVs_cons (RV_tmp rfl) RVs_nil) [] rfl ?_
              dsimp only [packed]
              first
                | exact ⟨bool_eq (decide_eq_false (evs_ne (by omega))).symm, rfl⟩
                | exact ⟨bool_eq (decide_eq_false (ne_at hvx hvy (by first | assumption | exact ev_ne (by first | exact .inl (by assumption) | exact .inr (.inl (by assumption)) | exact .inr (.inr (.inl (by assumption))) | exact .inr (.inr (.inr (.inl (by assumption)))) | exact .inr (.inr (.inr (.inr (ne_len (by omega))))) | exact .inr (.inr (.inr (.inr (ne_at ha hb (fun h => (by assumption : ¬ kLits a = kLits b) (by rw [h]))))))))) ).symm, rfl⟩
                | exact ⟨bool_eq (decide_eq_true (eq_end ht (by rw [evs_len]; omega) (by rw [evs_len, evs_len]; omega))).symm, rfl⟩
            refine G_skip ?_
            refine G_seq ?_
            refine G_region (l := [0]) rfl ?_
            refine G_val rfl rfl rfl rfl (V_assign rfl rfl) ?_
            refine G_done ?_
            refine G_block ?_
            refine G_sub ?he10 [1, 0] ?hl10 (G_loop (X := Nat) (fun j => j ≤ x.v.ks.length ∧ x.v.ks.take j = y.v.ks.take j) (fun j => x.v.ks.length - j) (fun j => [(0, sv (some b1) p1 ms.length q1), (1, sv (some b2) p2 ns.length q2), (5, .int .i64 (i : Int)), (6, .pointer (some ⟨b6, 0, none⟩)), (7, .pointer (some ⟨b7, 0, none⟩)), (8, .int .i64 (j : Int))]) (fun j => [(some b6, .cells (evC x).toArray 58 (0, 0)), (some b7, .cells (evC y).toArray 58 (0, 0))]) ?round10 0 ?h010)
            case he10 => exact (And.intro rfl (And.intro rfl (And.intro rfl (And.intro rfl (And.intro rfl (And.intro rfl trivial))))))
            case hl10 => exact ⟨_, rfl⟩
            case h010 => exact ⟨Nat.zero_le _, rfl⟩
            case round10 =>
             intro j hJ ih2
             try dsimp only at hJ ih2
             obtain ⟨hj, htk⟩ := hJ
             refine G_seq ?_
             refine G_seq ?_
             refine G_region (l := [0, 1, 2, 3, 4]) rfl ?_
             refine G_val rfl rfl rfl rfl (V_move rfl rfl) ?_
             refine G_val rfl rfl rfl rfl (V_fieldAddr (fo := 4) rfl Try.underlying58 rfl infScriptS_56 rfl rfl rfl) ?_
             refine G_val rfl rfl rfl rfl (V_load1 rfl rfl (List.mem_append_right _ (mem_at 0 rfl)) rfl Try.underlying56 rfl) ?_
             refine G_val rfl rfl rfl rfl (V_len rfl rfl Try.underlying56 rfl) ?_
             refine G_val rfl rfl rfl rfl (V_lss rfl rfl rfl) ?_
             refine G_done ?_
             refine G_ifD rfl (fun hc8 => ?_) (fun hc8 => ?_)
             · skip
               refine G_skip ?_
               refine G_seq ?_
               refine G_block ?_
               refine G_seq ?_
               obtain ⟨a, ha⟩ := getI (show j < x.v.ks.length by omega)
               obtain ⟨b, hb⟩ := getI (show j < y.v.ks.length by omega)
               obtain ⟨ka, hsa, hka, hma⟩ := hxo.at (show j < x.v.ks.length by omega)
               obtain ⟨kb, hsb, hkb, hmb⟩ := hyo.at (show j < y.v.ks.length by omega)
               have gka := hxo.ks a (List.mem_of_getElem? ha)
               have gkb := hyo.ks b (List.mem_of_getElem? hb)
               have hma2 : (some ka, Obj.cells x.cs x.T x.fr) ∈ ((some b1, Obj.cells c1 T1 f1) :: (some b2, Obj.cells c2 T2 f2) :: (ms.map evK ++ ns.map evK)) := by rw [← hma]; exact List.mem_cons_of_mem _ (List.mem_cons_of_mem _ (List.mem_append_left _ (List.mem_map.2 ⟨x, List.mem_of_getElem? hx, rfl⟩)))
               have hmb2 : (some kb, Obj.cells y.cs y.T y.fr) ∈ ((some b1, Obj.cells c1 T1 f1) :: (some b2, Obj.cells c2 T2 f2) :: (ms.map evK ++ ns.map evK)) := by rw [← hmb]; exact List.mem_cons_of_mem _ (List.mem_cons_of_mem _ (List.mem_append_right _ (List.mem_map.2 ⟨y, List.mem_of_getElem? hy, rfl⟩)))
               refine GH_start (Lq := [_, _]) (isq := [0, 0]) (m := 11) mixedK rfl rfl ?_
               refine GH_take 0 rfl rfl rfl rfl (by kernel_rfl) (by kernel_rfl) (by kernel_rfl) (fun _ _ => (V_fieldAddr (fo := 4) rfl Try.underlying58 rfl infScriptS_56 rfl rfl rfl)) ?_
               refine GH_take 1 rfl rfl rfl rfl (by kernel_rfl) (by kernel_rfl) (by kernel_rfl) (fun _ _ => (V_load1 rfl rfl (List.mem_append_right _ (mem_at 0 rfl)) rfl Try.underlying56 rfl)) ?_
               try rw [hsa]
               refine GH_take 2 rfl rfl rfl rfl (by kernel_rfl) (by kernel_rfl) (by kernel_rfl) (fun _ _ => (V_move rfl rfl)) ?_
               first
                 | refine GH_take 3 rfl rfl rfl rfl (by kernel_rfl) (by kernel_rfl) (by kernel_rfl) (fun _ _ => (V_indexAddrN (s := 2) rfl Try.underlying56 infScriptS_151 rfl rfl rfl rfl (by omega))) ?_
                 | refine GH_take 3 rfl rfl rfl rfl (by kernel_rfl) (by kernel_rfl) (by kernel_rfl) (fun _ _ => (V_indexAddr (s := 2) rfl Try.underlying56 infScriptS_151 rfl rfl rfl (by omega) (by first | omega | (simp [evC, evV, kC, evS]; done) | (simp [evC, evV, kC, evS]; omega) | (simp [evC, evV, kC, evS] at *; omega)))) ?_
               refine GH_take 4 rfl rfl rfl rfl (by kernel_rfl) (by kernel_rfl) (by kernel_rfl) (fun _ _ => (V_loadA (s := 2) (vs := (kC a).toArray) rfl rfl (List.mem_append_left _ hma2) Try.underlying151 rfl infScriptS_151 rfl (hka.elem kC_len ha) (by first | rfl | (simp [bcells_length, evC, evV, kC, evS]; done) | (simp [bcells_length, evC, evV, kC, evS]; omega) | (simp [bcells_length, *, evC, evV, kC, evS]; done)))) ?_
               refine GH_take 5 rfl rfl rfl rfl (by kernel_rfl) (by kernel_rfl) (by kernel_rfl) (fun _ _ => (V_fieldAddr (fo := 4) rfl Try.underlying58 rfl infScriptS_56 rfl rfl rfl)) ?_
               refine GH_take 6 rfl rfl rfl rfl (by kernel_rfl) (by kernel_rfl) (by kernel_rfl) (fun _ _ => (V_load1 rfl rfl (List.mem_append_right _ (mem_at 1 rfl)) rfl Try.underlying56 rfl)) ?_
               try rw [hsb]
               refine GH_take 7 rfl rfl rfl rfl (by kernel_rfl) (by kernel_rfl) (by kernel_rfl) (fun _ _ => (V_move rfl rfl)) ?_
               first
                 | refine GH_take 8 rfl rfl rfl rfl (by kernel_rfl) (by kernel_rfl) (by kernel_rfl) (fun _ _ => (V_indexAddrN (s := 2) rfl Try.underlying56 infScriptS_151 rfl rfl rfl rfl (by omega))) ?_
                 | refine GH_take 8 rfl rfl rfl rfl (by kernel_rfl) (by kernel_rfl) (by kernel_rfl) (fun _ _ => (V_indexAddr (s := 2) rfl Try.underlying56 infScriptS_151 rfl rfl rfl (by omega) (by first | omega | (simp [evC, evV, kC, evS]; done) | (simp [evC, evV, kC, evS]; omega) | (simp [evC, evV, kC, evS] at *; omega)))) ?_
               refine GH_take 9 rfl rfl rfl rfl (by kernel_rfl) (by kernel_rfl) (by kernel_rfl) (fun _ _ => (V_loadA (s := 2) (vs := (kC b).toArray) rfl rfl (List.mem_append_left _ hmb2) Try.underlying151 rfl infScriptS_151 rfl (hkb.elem kC_len hb) (by first | rfl | (simp [bcells_length, evC, evV, kC, evS]; done) | (simp [bcells_length, evC, evV, kC, evS]; omega) | (simp [bcells_length, *, evC, evV, kC, evS]; done)))) ?_
               refine GH_take 10 rfl rfl rfl rfl (by kernel_rfl) (by kernel_rfl) (by kernel_rfl) (fun _ _ => (V_aggneq (m := 6) rfl Try.eqGuardType151 (by kernel_rfl) (by decide) (formed_of Try.underlying151 rfl (by kernel_rfl : Try.prog.cellsOf 151 = 2) (by first | rfl | (simp [bcells_length, evC, evV, kC, evS]; done) | (simp [bcells_length, evC, evV, kC, evS]; omega) | (simp [bcells_length, *, evC, evV, kC, evS]; done))) (formed_of Try.underlying151 rfl (by kernel_rfl : Try.prog.cellsOf 151 = 2) (by first | rfl | (simp [bcells_length, evC, evV, kC, evS]; done) | (simp [bcells_length, evC, evV, kC, evS]; omega) | (simp [bcells_length, *, evC, evV, kC, evS]; done))) rfl rfl (key_k a gka) (key_k b gkb))) ?_
               refine GH_done (by kernel_rfl) ?_
               refine G_ifD rfl (fun hc9 => ?_) (fun hc9 => ?_)
               · skip
                 refine G_seq ?_
                 refine G_region (l := [0]) rfl ?_
                 refine G_val rfl rfl rfl rfl (V_assign rfl rfl) ?_
                 refine G_done ?_
                 refine G_ret (post := []) Try.func27 rfl (RVs_cons (RV_tmp rfl) RVs_nil) [] rfl ?_
                 dsimp only [packed]
                 first
                   | exact ⟨bool_eq (decide_eq_false (evs_ne (by omega))).symm, rfl⟩
                   | exact ⟨bool_eq (decide_eq_false (ne_at hvx hvy (by first | assumption | exact ev_ne (by first | exact .inl (by assumption) | exact .inr (.inl (by assumption)) | exact .inr (.inr (.inl (by assumption))) | exact .inr (.inr (.inr (.inl (by assumption)))) | exact .inr (.inr (.inr (.inr (ne_len (by omega))))) | exact .inr (.inr (.inr (.inr (ne_at ha hb (fun h => (by assumption : ¬ kLits a = kLits b) (by rw [h]))))))))) ).symm, rfl⟩
                   | exact ⟨bool_eq (decide_eq_true (eq_end ht (by rw [evs_len]; omega) (by rw [evs_len, evs_len]; omega))).symm, rfl⟩
               refine G_skip ?_
               refine G_inBlock ?_
               refine G_region (l := [0, 1, 2]) rfl ?_
               refine G_val rfl rfl rfl rfl (V_move rfl rfl) ?_
               first
                 | refine G_val rfl rfl rfl rfl ((V_add rfl rfl rfl).int (wrap_i64 (by omega))) ?_
                 | refine G_val rfl rfl rfl rfl (V_add rfl rfl rfl) ?_
               refine G_val rfl rfl rfl rfl (V_assign rfl rfl) ?_
               refine G_done ?_
               refine G_sub ?_ [0, 0] ?_ (ih2 (j + 1) ?_ ?_)
               · (refine (And.intro ?_ (And.intro ?_ (And.intro ?_ (And.intro ?_ (And.intro ?_ (And.intro ?_ trivial)))))) <;> first | rfl | exact slot_int (by omega) | exact slot_int (by simp))
               · exact ⟨_, rfl⟩
               · exact ⟨by omega, eq_next htk ha hb (kLits_inj (Classical.not_not.1 (by assumption)))⟩
               · (first | omega | (dsimp only; omega))
             refine G_exit rfl ?_
             refine G_inBlock ?_
             refine G_region (l := [0, 1, 2]) rfl ?_
             refine G_val rfl rfl rfl rfl (V_move rfl rfl) ?_
             first
               | refine G_val rfl rfl rfl rfl ((V_add rfl rfl rfl).int (wrap_i64 (by omega))) ?_
               | refine G_val rfl rfl rfl rfl (V_add rfl rfl rfl) ?_
             refine G_val rfl rfl rfl rfl (V_assign rfl rfl) ?_
             refine G_done ?_
             refine G_sub ?_ [] ?_ (ih (i + 1) ?_ ?_)
             · (refine (And.intro ?_ (And.intro ?_ (And.intro ?_ trivial))) <;> first | rfl | exact slot_int (by omega) | exact slot_int (by simp))
             · exact ⟨_, rfl⟩
             · exact ⟨by omega, eq_next ht hvx hvy (ev_eq (by omega) (Classical.not_not.1 (by assumption)) (by omega) (by omega) (eq_end htk (by omega) (by omega)))⟩
             · (first | omega | (dsimp only; omega))
    · skip
      refine GHop_new rfl rfl rfl rfl (N_allocA rfl infScriptS_58 rfl) [] (fun _ => ⟨_, rfl⟩) (fun b7 => ?_)
      refine GH_all [8] (by kernel_rfl) (by decide) ?_
      refine (And.intro ?_ trivial)
      · skip
        refine GHop_new rfl rfl rfl rfl (N_allocA rfl infScriptS_58 rfl) [] (fun _ => ⟨_, rfl⟩) (fun b6 => ?_)
        refine GH_all [10] (by kernel_rfl) (by decide) ?_
        refine (And.intro ?_ trivial)
        · skip
          refine GHop_put (l1 := []) (L' := [_, _]) rfl rfl rfl rfl (P_storeA (s := 5) rfl rfl rfl (mem_at 0 rfl) (by first | rfl | (simp [bcells_length, evC, evV, kC, evS]; done) | (simp [bcells_length, evC, evV, kC, evS]; omega) | (simp [bcells_length, *, evC, evV, kC, evS]; done)) infScriptS_58 rfl (by first | rfl | (simp [bcells_length, evC, evV, kC, evS]; done) | (simp [bcells_length, evC, evV, kC, evS]; omega) | (simp [bcells_length, *, evC, evV, kC, evS]; done)) (by first | rfl | exact bcells_all _ | (simp [Value.oneCell', evC, evV, kC, evS]; done) | (simp [Value.oneCell', *, evC, evV, kC, evS]; done))) rfl [] rfl ?_
          refine GH_all [11] (by kernel_rfl) (by decide) ?_
          refine (And.intro ?_ trivial)
          · skip
            refine GHop_put (l1 := [_]) (L' := [_, _]) rfl rfl rfl rfl (P_storeA (s := 5) rfl rfl rfl (mem_at 1 rfl) (by first | rfl | (simp [bcells_length, evC, evV, kC, evS]; done) | (simp [bcells_length, evC, evV, kC, evS]; omega) | (simp [bcells_length, *, evC, evV, kC, evS]; done)) infScriptS_58 rfl (by first | rfl | (simp [bcells_length, evC, evV, kC, evS]; done) | (simp [bcells_length, evC, evV, kC, evS]; omega) | (simp [bcells_length, *, evC, evV, kC, evS]; done)) (by first | rfl | exact bcells_all _ | (simp [Value.oneCell', evC, evV, kC, evS]; done) | (simp [Value.oneCell', *, evC, evV, kC, evS]; done))) rfl [] rfl ?_
            refine GH_done (by kernel_rfl) ?_
            refine G_seq ?_
            refine G_seq ?_
            refine G_region (l := [0, 1, 2, 3, 4, 5, 6, 7, 8, 9, 10, 11, 12, 13, 14, 15, 16, 17, 18, 19, 20, 21, 22, 23, 24, 25, 26, 27, 28, 29, 30, 31, 32, 33, 34]) rfl ?_
            refine G_val rfl rfl rfl rfl (V_fieldAddr (fo := 0) rfl Try.underlying58 rfl infScriptS_3 rfl rfl rfl) ?_
            refine G_val rfl rfl rfl rfl (V_load1 rfl rfl (List.mem_append_right _ (mem_at 0 rfl)) rfl Try.underlying3 rfl) ?_
            refine G_val rfl rfl rfl rfl (V_fieldAddr (fo := 0) rfl Try.underlying58 rfl infScriptS_3 rfl rfl rfl) ?_
            refine G_val rfl rfl rfl rfl (V_load1 rfl rfl (List.mem_append_right _ (mem_at 1 rfl)) rfl Try.underlying3 rfl) ?_
            refine G_val rfl rfl rfl rfl (V_neq rfl rfl rfl) ?_
            refine G_val rfl rfl rfl rfl (V_move rfl rfl) ?_
            refine G_splitD 33 rfl (fun hc3 => ?_) (fun hc3 => ?_)
            · skip
              refine G_off rfl rfl rfl rfl ?_
              refine G_off rfl rfl rfl rfl ?_
              refine G_off rfl rfl rfl rfl ?_
              refine G_off rfl rfl rfl rfl ?_
              refine G_off rfl rfl rfl rfl ?_
              refine G_val rfl rfl rfl rfl (V_pickT rfl rfl rfl) ?_
              refine G_val rfl rfl rfl rfl (V_move rfl rfl) ?_
              refine G_off rfl rfl rfl rfl ?_
              refine G_off rfl rfl rfl rfl ?_
              refine G_off rfl rfl rfl rfl ?_
              refine G_off rfl rfl rfl rfl ?_
              refine G_off rfl rfl rfl rfl ?_
              refine G_val rfl rfl rfl rfl (V_pickT rfl rfl rfl) ?_
              refine G_val rfl rfl rfl rfl (V_move rfl rfl) ?_
              refine G_off rfl rfl rfl rfl ?_
              refine G_off rfl rfl rfl rfl ?_
              refine G_off rfl rfl rfl rfl ?_
              refine G_off rfl rfl rfl rfl ?_
              refine G_off rfl rfl rfl rfl ?_
              refine G_val rfl rfl rfl rfl (V_pickT rfl rfl rfl) ?_
              refine G_val rfl rfl rfl rfl (V_move rfl rfl) ?_
              refine G_off rfl rfl rfl rfl ?_
              refine G_off rfl rfl rfl rfl ?_
              refine G_off rfl rfl rfl rfl ?_
              refine G_off rfl rfl rfl rfl ?_
              refine G_off rfl rfl rfl rfl ?_
              refine G_off rfl rfl rfl rfl ?_
              refine G_off rfl rfl rfl rfl ?_
              refine G_val rfl rfl rfl rfl (V_pickT rfl rfl rfl) ?_
              refine G_done ?_
              refine G_then rfl ?_
              refine G_seq ?_
              refine G_region (l := [0]) rfl ?_
              refine G_val rfl rfl rfl rfl (V_assign rfl rfl) ?_
              refine G_done ?_
              refine G_ret (post := []) Try.func27 rfl (RVs_cons (RV_tmp rfl) RVs_nil) [] rfl ?_
              dsimp only [packed]
              first
                | exact ⟨bool_eq (decide_eq_false (evs_ne (by omega))).symm, rfl⟩
                | exact ⟨bool_eq (decide_eq_false (ne_at hvx hvy (by first | assumption | exact ev_ne (by first | exact .inl (by assumption) | exact .inr (.inl (by assumption)) | exact .inr (.inr (.inl (by assumption))) | exact .inr (.inr (.inr (.inl (by assumption)))) | exact .inr (.inr (.inr (.inr (ne_len (by omega))))) | exact .inr (.inr (.inr (.inr (ne_at ha hb (fun h => (by assumption : ¬ kLits a = kLits b) (by rw [h]))))))))) ).symm, rfl⟩
                | exact ⟨bool_eq (decide_eq_true (eq_end ht (by rw [evs_len]; omega) (by rw [evs_len, evs_len]; omega))).symm, rfl⟩
            refine G_val rfl rfl rfl rfl (V_fieldAddr (fo := 1) rfl Try.underlying58 rfl infScriptS_9 rfl rfl rfl) ?_
            refine G_val rfl rfl rfl rfl (V_load1 rfl rfl (List.mem_append_right _ (mem_at 0 rfl)) rfl Try.underlying9 rfl) ?_
            refine G_val rfl rfl rfl rfl (V_fieldAddr (fo := 1) rfl Try.underlying58 rfl infScriptS_9 rfl rfl rfl) ?_
            refine G_val rfl rfl rfl rfl (V_load1 rfl rfl (List.mem_append_right _ (mem_at 1 rfl)) rfl Try.underlying9 rfl) ?_
            refine G_val rfl rfl rfl rfl (V_sneq rfl rfl rfl) ?_
            refine G_val rfl rfl rfl rfl (V_pickF rfl rfl rfl) ?_
            refine G_val rfl rfl rfl rfl (V_move rfl rfl) ?_
            refine G_splitD 40 rfl (fun hc4 => ?_) (fun hc4 => ?_)
            · skip
              refine G_off rfl rfl rfl rfl ?_
              refine G_off rfl rfl rfl rfl ?_
              refine G_off rfl rfl rfl rfl ?_
              refine G_off rfl rfl rfl rfl ?_
              refine G_off rfl rfl rfl rfl ?_
              refine G_val rfl rfl rfl rfl (V_pickT rfl rfl rfl) ?_
              refine G_val rfl rfl rfl rfl (V_move rfl rfl) ?_
              refine G_off rfl rfl rfl rfl ?_
              refine G_off rfl rfl rfl rfl ?_
              refine G_off rfl rfl rfl rfl ?_
              refine G_off rfl rfl rfl rfl ?_
              refine G_off rfl rfl rfl rfl ?_
              refine G_val rfl rfl rfl rfl (V_pickT rfl rfl rfl) ?_
              refine G_val rfl rfl rfl rfl (V_move rfl rfl) ?_
              refine G_off rfl rfl rfl rfl ?_
              refine G_off rfl rfl rfl rfl ?_
              refine G_off rfl rfl rfl rfl ?_
              refine G_off rfl rfl rfl rfl ?_
              refine G_off rfl rfl rfl rfl ?_
              refine G_off rfl rfl rfl rfl ?_
              refine G_off rfl rfl rfl rfl ?_
              refine G_val rfl rfl rfl rfl (V_pickT rfl rfl rfl) ?_
              refine G_done ?_
              refine G_then rfl ?_
              refine G_seq ?_
              refine G_region (l := [0]) rfl ?_
              refine G_val rfl rfl rfl rfl (V_assign rfl rfl) ?_
              refine G_done ?_
              refine G_ret (post := []) Try.func27 rfl (RVs_cons (RV_tmp rfl) RVs_nil) [] rfl ?_
              dsimp only [packed]
              first
                | exact ⟨bool_eq (decide_eq_false (evs_ne (by omega))).symm, rfl⟩
                | exact ⟨bool_eq (decide_eq_false (ne_at hvx hvy (by first | assumption | exact ev_ne (by first | exact .inl (by assumption) | exact .inr (.inl (by assumption)) | exact .inr (.inr (.inl (by assumption))) | exact .inr (.inr (.inr (.inl (by assumption)))) | exact .inr (.inr (.inr (.inr (ne_len (by omega))))) | exact .inr (.inr (.inr (.inr (ne_at ha hb (fun h => (by assumption : ¬ kLits a = kLits b) (by rw [h]))))))))) ).symm, rfl⟩
                | exact ⟨bool_eq (decide_eq_true (eq_end ht (by rw [evs_len]; omega) (by rw [evs_len, evs_len]; omega))).symm, rfl⟩
            refine G_val rfl rfl rfl rfl (V_fieldAddr (fo := 2) rfl Try.underlying58 rfl infScriptS_23 rfl rfl rfl) ?_
            refine G_val rfl rfl rfl rfl (V_load1 rfl rfl (List.mem_append_right _ (mem_at 0 rfl)) rfl Try.underlying23 rfl) ?_
            refine G_val rfl rfl rfl rfl (V_fieldAddr (fo := 2) rfl Try.underlying58 rfl infScriptS_23 rfl rfl rfl) ?_
            refine G_val rfl rfl rfl rfl (V_load1 rfl rfl (List.mem_append_right _ (mem_at 1 rfl)) rfl Try.underlying23 rfl) ?_
            refine G_val rfl rfl rfl rfl (V_neq rfl rfl rfl) ?_
            refine G_val rfl rfl rfl rfl (V_pickF rfl rfl rfl) ?_
            refine G_val rfl rfl rfl rfl (V_move rfl rfl) ?_
            refine G_splitD 47 rfl (fun hc5 => ?_) (fun hc5 => ?_)
            · skip
              refine G_off rfl rfl rfl rfl ?_
              refine G_off rfl rfl rfl rfl ?_
              refine G_off rfl rfl rfl rfl ?_
              refine G_off rfl rfl rfl rfl ?_
              refine G_off rfl rfl rfl rfl ?_
              refine G_val rfl rfl rfl rfl (V_pickT rfl rfl rfl) ?_
              refine G_val rfl rfl rfl rfl (V_move rfl rfl) ?_
              refine G_off rfl rfl rfl rfl ?_
              refine G_off rfl rfl rfl rfl ?_
              refine G_off rfl rfl rfl rfl ?_
              refine G_off rfl rfl rfl rfl ?_
              refine G_off rfl rfl rfl rfl ?_
              refine G_off rfl rfl rfl rfl ?_
              refine G_off rfl rfl rfl rfl ?_
              refine G_val rfl rfl rfl rfl (V_pickT rfl rfl rfl) ?_
              refine G_done ?_
              refine G_then rfl ?_
              refine G_seq ?_
              refine G_region (l := [0]) rfl ?_
              refine G_val rfl rfl rfl rfl (V_assign rfl rfl) ?_
              refine G_done ?_
              refine G_ret (post := []) Try.func27 rfl (RVs_cons (RV_tmp rfl) RVs_nil) [] rfl ?_
              dsimp only [packed]
              first
                | exact ⟨bool_eq (decide_eq_false (evs_ne (by omega))).symm, rfl⟩
                | exact ⟨bool_eq (decide_eq_false (ne_at hvx hvy (by first | assumption | exact ev_ne (by first | exact .inl (by assumption) | exact .inr (.inl (by assumption)) | exact .inr (.inr (.inl (by assumption))) | exact .inr (.inr (.inr (.inl (by assumption)))) | exact .inr (.inr (.inr (.inr (ne_len (by omega))))) | exact .inr (.inr (.inr (.inr (ne_at ha hb (fun h => (by assumption : ¬ kLits a = kLits b) (by rw [h]))))))))) ).symm, rfl⟩
                | exact ⟨bool_eq (decide_eq_true (eq_end ht (by rw [evs_len]; omega) (by rw [evs_len, evs_len]; omega))).symm, rfl⟩
            refine G_val rfl rfl rfl rfl (V_fieldAddr (fo := 3) rfl Try.underlying58 rfl infScriptS_3 rfl rfl rfl) ?_
            refine G_val rfl rfl rfl rfl (V_load1 rfl rfl (List.mem_append_right _ (mem_at 0 rfl)) rfl Try.underlying3 rfl) ?_
            refine G_val rfl rfl rfl rfl (V_fieldAddr (fo := 3) rfl Try.underlying58 rfl infScriptS_3 rfl rfl rfl) ?_
            refine G_val rfl rfl rfl rfl (V_load1 rfl rfl (List.mem_append_right _ (mem_at 1 rfl)) rfl Try.underlying3 rfl) ?_
            refine G_val rfl rfl rfl rfl (V_neq rfl rfl rfl) ?_
            refine G_val rfl rfl rfl rfl (V_pickF rfl rfl rfl) ?_
            refine G_val rfl rfl rfl rfl (V_move rfl rfl) ?_
            refine G_splitD 54 rfl (fun hc6 => ?_) (fun hc6 => ?_)
            · skip
              refine G_off rfl rfl rfl rfl ?_
              refine G_off rfl rfl rfl rfl ?_
              refine G_off rfl rfl rfl rfl ?_
              refine G_off rfl rfl rfl rfl ?_
              refine G_off rfl rfl rfl rfl ?_
              refine G_off rfl rfl rfl rfl ?_
              refine G_off rfl rfl rfl rfl ?_
              refine G_val rfl rfl rfl rfl (V_pickT rfl rfl rfl) ?_
              refine G_done ?_
              refine G_then rfl ?_
              refine G_seq ?_
              refine G_region (l := [0]) rfl ?_
              refine G_val rfl rfl rfl rfl (V_assign rfl rfl) ?_
              refine G_done ?_
              refine G_ret (post := []) Try.func27 rfl (RVs_cons (RV_tmp rfl) RVs_nil) [] rfl ?_
              dsimp only [packed]
              first
                | exact ⟨bool_eq (decide_eq_false (evs_ne (by omega))).symm, rfl⟩
                | exact ⟨bool_eq (decide_eq_false (ne_at hvx hvy (by first | assumption | exact ev_ne (by first | exact .inl (by assumption) | exact .inr (.inl (by assumption)) | exact .inr (.inr (.inl (by assumption))) | exact .inr (.inr (.inr (.inl (by assumption)))) | exact .inr (.inr (.inr (.inr (ne_len (by omega))))) | exact .inr (.inr (.inr (.inr (ne_at ha hb (fun h => (by assumption : ¬ kLits a = kLits b) (by rw [h]))))))))) ).symm, rfl⟩
                | exact ⟨bool_eq (decide_eq_true (eq_end ht (by rw [evs_len]; omega) (by rw [evs_len, evs_len]; omega))).symm, rfl⟩
            refine G_val rfl rfl rfl rfl (V_fieldAddr (fo := 4) rfl Try.underlying58 rfl infScriptS_56 rfl rfl rfl) ?_
            refine G_val rfl rfl rfl rfl (V_load1 rfl rfl (List.mem_append_right _ (mem_at 0 rfl)) rfl Try.underlying56 rfl) ?_
            refine G_val rfl rfl rfl rfl (V_len rfl rfl Try.underlying56 rfl) ?_
            refine G_val rfl rfl rfl rfl (V_fieldAddr (fo := 4) rfl Try.underlying58 rfl infScriptS_56 rfl rfl rfl) ?_
            refine G_val rfl rfl rfl rfl (V_load1 rfl rfl (List.mem_append_right _ (mem_at 1 rfl)) rfl Try.underlying56 rfl) ?_
            refine G_val rfl rfl rfl rfl (V_len rfl rfl Try.underlying56 rfl) ?_
            refine G_val rfl rfl rfl rfl (V_neq rfl rfl rfl) ?_
            refine G_val rfl rfl rfl rfl (V_pickF rfl rfl rfl) ?_
            refine G_done ?_
            refine G_ifD rfl (fun hc7 => ?_) (fun hc7 => ?_)
            · skip
              refine G_seq ?_
              refine G_region (l := [0]) rfl ?_
              refine G_val rfl rfl rfl rfl (V_assign rfl rfl) ?_
              refine G_done ?_
              refine G_ret (post := []) Try.func27 rfl (RVs_cons (RV_tmp rfl) RVs_nil) [] rfl ?_
              dsimp only [packed]
              first
                | exact ⟨bool_eq (decide_eq_false (evs_ne (by omega))).symm, rfl⟩
                | exact ⟨bool_eq (decide_eq_false (ne_at hvx hvy (by first | assumption | exact ev_ne (by first | exact .inl (by assumption) | exact .inr (.inl (by assumption)) | exact .inr (.inr (.inl (by assumption))) | exact .inr (.inr (.inr (.inl (by assumption)))) | exact .inr (.inr (.inr (.inr (ne_len (by omega))))) | exact .inr (.inr (.inr (.inr (ne_at ha hb (fun h => (by assumption : ¬ kLits a = kLits b) (by rw [h]))))))))) ).symm, rfl⟩
                | exact ⟨bool_eq (decide_eq_true (eq_end ht (by rw [evs_len]; omega) (by rw [evs_len, evs_len]; omega))).symm, rfl⟩
            refine G_skip ?_
            refine G_seq ?_
            refine G_region (l := [0]) rfl ?_
            refine G_val rfl rfl rfl rfl (V_assign rfl rfl) ?_
            refine G_done ?_
            refine G_block ?_
            refine G_sub ?he10 [0, 0] ?hl10 (G_loop (X := Nat) (fun j => j ≤ x.v.ks.length ∧ x.v.ks.take j = y.v.ks.take j) (fun j => x.v.ks.length - j) (fun j => [(0, sv (some b1) p1 ms.length q1), (1, sv (some b2) p2 ns.length q2), (5, .int .i64 (i : Int)), (6, .pointer (some ⟨b6, 0, none⟩)), (7, .pointer (some ⟨b7, 0, none⟩)), (8, .int .i64 (j : Int))]) (fun j => [(some b6, .cells (evC x).toArray 58 (0, 0)), (some b7, .cells (evC y).toArray 58 (0, 0))]) ?round10 0 ?h010)
            case he10 => exact (And.intro rfl (And.intro rfl (And.intro rfl (And.intro rfl (And.intro rfl (And.intro rfl trivial))))))
            case hl10 => exact ⟨_, rfl⟩
            case h010 => exact ⟨Nat.zero_le _, rfl⟩
            case round10 =>
             intro j hJ ih2
             try dsimp only at hJ ih2
             obtain ⟨hj, htk⟩ := hJ
             refine G_seq ?_
             refine G_seq ?_
             refine G_region (l := [0, 1, 2, 3, 4]) rfl ?_
             refine G_val rfl rfl rfl rfl (V_move rfl rfl) ?_
             refine G_val rfl rfl rfl rfl (V_fieldAddr (fo := 4) rfl Try.underlying58 rfl infScriptS_56 rfl rfl rfl) ?_
             refine G_val rfl rfl rfl rfl (V_load1 rfl rfl (List.mem_append_right _ (mem_at 0 rfl)) rfl Try.underlying56 rfl) ?_
             refine G_val rfl rfl rfl rfl (V_len rfl rfl Try.underlying56 rfl) ?_
             refine G_val rfl rfl rfl rfl (V_lss rfl rfl rfl) ?_
             refine G_done ?_
             refine G_ifD rfl (fun hc8 => ?_) (fun hc8 => ?_)
             · skip
               refine G_skip ?_
               refine G_seq ?_
               refine G_block ?_
               refine G_seq ?_
               obtain ⟨a, ha⟩ := getI (show j < x.v.ks.length by omega)
               obtain ⟨b, hb⟩ := getI (show j < y.v.ks.length by omega)
               obtain ⟨ka, hsa, hka, hma⟩ := hxo.at (show j < x.v.ks.length by omega)
               obtain ⟨kb, hsb, hkb, hmb⟩ := hyo.at (show j < y.v.ks.length by omega)
               have gka := hxo.ks a (List.mem_of_getElem? ha)
               have gkb := hyo.ks b (List.mem_of_getElem? hb)
               have hma2 : (some ka, Obj.cells x.cs x.T x.fr) ∈ ((some b1, Obj.cells c1 T1 f1) :: (some b2, Obj.cells c2 T2 f2) :: (ms.map evK ++ ns.map evK)) := by rw [← hma]; exact List.mem_cons_of_mem _ (List.mem_cons_of_mem _ (List.mem_append_left _ (List.mem_map.2 ⟨x, List.mem_of_getElem? hx, rfl⟩)))
               have hmb2 : (some kb, Obj.cells y.cs y.T y.fr) ∈ ((some b1, Obj.cells c1 T1 f1) :: (some b2, Obj.cells c2 T2 f2) :: (ms.map evK ++ ns.map evK)) := by rw [← hmb]; exact List.mem_cons_of_mem _ (List.mem_cons_of_mem _ (List.mem_append_right _ (List.mem_map.2 ⟨y, List.mem_of_getElem? hy, rfl⟩)))
               refine GH_start (Lq := [_, _]) (isq := [0, 0]) (m := 11) mixedK rfl rfl ?_
               refine GH_take 0 rfl rfl rfl rfl (by kernel_rfl) (by kernel_rfl) (by kernel_rfl) (fun _ _ => (V_fieldAddr (fo := 4) rfl Try.underlying58 rfl infScriptS_56 rfl rfl rfl)) ?_
               refine GH_take 1 rfl rfl rfl rfl (by kernel_rfl) (by kernel_rfl) (by kernel_rfl) (fun _ _ => (V_load1 rfl rfl (List.mem_append_right _ (mem_at 0 rfl)) rfl Try.underlying56 rfl)) ?_
               try rw [hsa]
               refine GH_take 2 rfl rfl rfl rfl (by kernel_rfl) (by kernel_rfl) (by kernel_rfl) (fun _ _ => (V_move rfl rfl)) ?_
               first
                 | refine GH_take 3 rfl rfl rfl rfl (by kernel_rfl) (by kernel_rfl) (by kernel_rfl) (fun _ _ => (V_indexAddrN (s := 2) rfl Try.underlying56 infScriptS_151 rfl rfl rfl rfl (by omega))) ?_
                 | refine GH_take 3 rfl rfl rfl rfl (by kernel_rfl) (by kernel_rfl) (by kernel_rfl) (fun _ _ => (V_indexAddr (s := 2) rfl Try.underlying56 infScriptS_151 rfl rfl rfl (by omega) (by first | omega | (simp [evC, evV, kC, evS]; done) | (simp [evC, evV, kC, evS]; omega) | (simp [evC, evV, kC, evS] at *; omega)))) ?_
               refine GH_take 4 rfl rfl rfl rfl (by kernel_rfl) (by kernel_rfl) (by kernel_rfl) (fun _ _ => (V_loadA (s := 2) (vs := (kC a).toArray) rfl rfl (List.mem_append_left _ hma2) Try.underlying151 rfl infScriptS_151 rfl (hka.elem kC_len ha) (by first | rfl | (simp [bcells_length, evC, evV, kC, evS]; done) | (simp [bcells_length, evC, evV, kC, evS]; omega) | (simp [bcells_length, *, evC, evV, kC, evS]; done)))) ?_
               refine GH_take 5 rfl rfl rfl rfl (by kernel_rfl) (by kernel_rfl) (by kernel_rfl) (fun _ _ => (V_fieldAddr (fo := 4) rfl Try.underlying58 rfl infScriptS_56 rfl rfl rfl)) ?_
               refine GH_take 6 rfl rfl rfl rfl (by kernel_rfl) (by kernel_rfl) (by kernel_rfl) (fun _ _ => (V_load1 rfl rfl (List.mem_append_right _ (mem_at 1 rfl)) rfl Try.underlying56 rfl)) ?_
               try rw [hsb]
               refine GH_take 7 rfl rfl rfl rfl (by kernel_rfl) (by kernel_rfl) (by kernel_rfl) (fun _ _ => (V_move rfl rfl)) ?_
               first
                 | refine GH_take 8 rfl rfl rfl rfl (by kernel_rfl) (by kernel_rfl) (by kernel_rfl) (fun _ _ => (V_indexAddrN (s := 2) rfl Try.underlying56 infScriptS_151 rfl rfl rfl rfl (by omega))) ?_
                 | refine GH_take 8 rfl rfl rfl rfl (by kernel_rfl) (by kernel_rfl) (by kernel_rfl) (fun _ _ => (V_indexAddr (s := 2) rfl Try.underlying56 infScriptS_151 rfl rfl rfl (by omega) (by first | omega | (simp [evC, evV, kC, evS]; done) | (simp [evC, evV, kC, evS]; omega) | (simp [evC, evV, kC, evS] at *; omega)))) ?_
               refine GH_take 9 rfl rfl rfl rfl (by kernel_rfl) (by kernel_rfl) (by kernel_rfl) (fun _ _ => (V_loadA (s := 2) (vs := (kC b).toArray) rfl rfl (List.mem_append_left _ hmb2) Try.underlying151 rfl infScriptS_151 rfl (hkb.elem kC_len hb) (by first | rfl | (simp [bcells_length, evC, evV, kC, evS]; done) | (simp [bcells_length, evC, evV, kC, evS]; omega) | (simp [bcells_length, *, evC, evV, kC, evS]; done)))) ?_
               refine GH_take 10 rfl rfl rfl rfl (by kernel_rfl) (by kernel_rfl) (by kernel_rfl) (fun _ _ => (V_aggneq (m := 6) rfl Try.eqGuardType151 (by kernel_rfl) (by decide) (formed_of Try.underlying151 rfl (by kernel_rfl : Try.prog.cellsOf 151 = 2) (by first | rfl | (simp [bcells_length, evC, evV, kC, evS]; done) | (simp [bcells_length, evC, evV, kC, evS]; omega) | (simp [bcells_length, *, evC, evV, kC, evS]; done))) (formed_of Try.underlying151 rfl (by kernel_rfl : Try.prog.cellsOf 151 = 2) (by first | rfl | (simp [bcells_length, evC, evV, kC, evS]; done) | (simp [bcells_length, evC, evV, kC, evS]; omega) | (simp [bcells_length, *, evC, evV, kC, evS]; done))) rfl rfl (key_k a gka) (key_k b gkb))) ?_
               refine GH_done (by kernel_rfl) ?_
               refine G_ifD rfl (fun hc9 => ?_) (fun hc9 => ?_)
               · skip
                 refine G_seq ?_
                 refine G_region (l := [0]) rfl ?_
                 refine G_val rfl rfl rfl rfl (V_assign rfl rfl) ?_
                 refine G_done ?_
                 refine G_ret (post := []) Try.func27 rfl (RVs_cons (RV_tmp rfl) RVs_nil) [] rfl ?_
                 dsimp only [packed]
                 first
                   | exact ⟨bool_eq (decide_eq_false (evs_ne (by omega))).symm, rfl⟩
                   | exact ⟨bool_eq (decide_eq_false (ne_at hvx hvy (by first | assumption | exact ev_ne (by first | exact .inl (by assumption) | exact .inr (.inl (by assumption)) | exact .inr (.inr (.inl (by assumption))) | exact .inr (.inr (.inr (.inl (by assumption)))) | exact .inr (.inr (.inr (.inr (ne_len (by omega))))) | exact .inr (.inr (.inr (.inr (ne_at ha hb (fun h => (by assumption : ¬ kLits a = kLits b) (by rw [h]))))))))) ).symm, rfl⟩
                   | exact ⟨bool_eq (decide_eq_true (eq_end ht (by rw [evs_len]; omega) (by rw [evs_len, evs_len]; omega))).symm, rfl⟩
               refine G_skip ?_
               refine G_inBlock ?_
               refine G_region (l := [0, 1, 2]) rfl ?_
               refine G_val rfl rfl rfl rfl (V_move rfl rfl) ?_
               first
                 | refine G_val rfl rfl rfl rfl ((V_add rfl rfl rfl).int (wrap_i64 (by omega))) ?_
                 | refine G_val rfl rfl rfl rfl (V_add rfl rfl rfl) ?_
               refine G_val rfl rfl rfl rfl (V_assign rfl rfl) ?_
               refine G_done ?_
               refine G_sub ?_ [0, 0] ?_ (ih2 (j + 1) ?_ ?_)
               · (refine (And.intro ?_ (And.intro ?_ (And.intro ?_ (And.intro ?_ (And.intro ?_ (And.intro ?_ trivial)))))) <;> first | rfl | exact slot_int (by omega) | exact slot_int (by simp))
               · exact ⟨_, rfl⟩
               · exact ⟨by omega, eq_next htk ha hb (kLits_inj (Classical.not_not.1 (by assumption)))⟩
               · (first | omega | (dsimp only; omega))
             refine G_exit rfl ?_
             refine G_inBlock ?_
             refine G_region (l := [0, 1, 2]) rfl ?_
             refine G_val rfl rfl rfl rfl (V_move rfl rfl) ?_
             first
               | refine G_val rfl rfl rfl rfl ((V_add rfl rfl rfl).int (wrap_i64 (by omega))) ?_
               | refine G_val rfl rfl rfl rfl (V_add rfl rfl rfl) ?_
             refine G_val rfl rfl rfl rfl (V_assign rfl rfl) ?_
             refine G_done ?_
             refine G_sub ?_ [] ?_ (ih (i + 1) ?_ ?_)
             · (refine (And.intro ?_ (And.intro ?_ (And.intro ?_ trivial))) <;> first | rfl | exact slot_int (by omega) | exact slot_int (by simp))
             · exact ⟨_, rfl⟩
             · exact ⟨by omega, eq_next ht hvx hvy (ev_eq (by omega) (Classical.not_not.1 (by assumption)) (by omega) (by omega) (eq_end htk (by omega) (by omega)))⟩
             · (first | omega | (dsimp only; omega))
  refine G_exit rfl ?_
  refine G_seq ?_
  refine G_region (l := [0]) rfl ?_
  refine G_val rfl rfl rfl rfl (V_assign rfl rfl) ?_
  refine G_done ?_
  refine G_ret (post := []) Try.func27 rfl (RVs_cons (RV_tmp rfl) RVs_nil) [] rfl ?_
  dsimp only [packed]
  first
    | exact ⟨bool_eq (decide_eq_false (evs_ne (by omega))).symm, rfl⟩
    | exact ⟨bool_eq (decide_eq_false (ne_at hvx hvy (by first | assumption | exact ev_ne (by first | exact .inl (by assumption) | exact .inr (.inl (by assumption)) | exact .inr (.inr (.inl (by assumption))) | exact .inr (.inr (.inr (.inl (by assumption)))) | exact .inr (.inr (.inr (.inr (ne_len (by omega))))) | exact .inr (.inr (.inr (.inr (ne_at ha hb (fun h => (by assumption : ¬ kLits a = kLits b) (by rw [h]))))))))) ).symm, rfl⟩
    | exact ⟨bool_eq (decide_eq_true (eq_end ht (by rw [evs_len]; omega) (by rw [evs_len, evs_len]; omega))).symm, rfl⟩


/-- Lists that are not gone through. -/
def largeS (ms : List Em) : Bool := ms.any (fun m => decide (1000 < (m.v.b.length : Int) ∨ 100 < (m.v.ks.length : Int))) || decide (450 < (ms.length : Int))
theorem largeS_no {ms : List Em} (h : largeS ms = false) : ms.length ≤ 450 ∧ ∀ m ∈ ms, m.v.b.length ≤ 1000 ∧ m.v.ks.length ≤ 100 := by
  unfold largeS at h
  rw [Bool.or_eq_false_iff, List.any_eq_false, decide_eq_false_iff_not] at h
  refine ⟨by omega, fun m hm => ?_⟩
  have := h.1 m hm
  rw [decide_eq_true_eq] at this
  omega

set_option maxRecDepth 100000 in
set_option maxHeartbeats 1000000 in
theorem sl_large (o1 : Option Nat) (p1 q1 : Nat) (c1 : Array Value) (T1 : TypeId) (f1 : Nat × Nat) (ms : List Em) (h1 : Sees 5 o1 p1 q1 c1 (ms.flatMap evC) ms.length) (ok1 : ∀ m ∈ ms, EmOk m) :
    Ct Try.prog 19 [sv o1 p1 ms.length q1] [(o1, .cells c1 T1 f1)] [] fun v post => v = .bool (largeS ms) ∧ post = [] := by
 have hl1 := h1.le
 have hl2 := h1.max
 refine ct_of Try.func19 rfl rfl (fun w0 => ?_)
 show G _ _ [(0, _)] _ _
 refine G_seq ?_
 refine G_region (l := [0]) rfl ?_
 refine G_val rfl rfl rfl rfl (V_assign rfl rfl) ?_
 refine G_done ?_
 refine G_seq ?_
 refine G_seq ?_
 refine G_region (l := [0]) rfl ?_
 refine G_val rfl rfl rfl rfl (V_assign rfl rfl) ?_
 refine G_done ?_
 refine G_block ?_
 refine G_sub ?he2 [] ?hl2 (G_loop (X := Nat) (fun i => i ≤ ms.length ∧ (ms.take i).any (fun m => decide (1000 < (m.v.b.length : Int) ∨ 100 < (m.v.ks.length : Int))) = false) (fun i => ms.length - i) (fun i => [(0, sv o1 p1 ms.length q1), (3, .int .i64 (i : Int))]) (fun i => []) ?round2 0 ?h02)
 case he2 => exact (And.intro rfl (And.intro rfl trivial))
 case hl2 => exact ⟨_, rfl⟩
 case h02 => exact ⟨Nat.zero_le _, rfl⟩
 case round2 =>
  intro i hJ ih
  try dsimp only at hJ ih
  obtain ⟨hi, ht⟩ := hJ
  refine G_seq ?_
  refine G_seq ?_
  refine G_region (l := [0, 1, 2, 3]) rfl ?_
  refine G_val rfl rfl rfl rfl (V_move rfl rfl) ?_
  refine G_val rfl rfl rfl rfl (V_move rfl rfl) ?_
  refine G_val rfl rfl rfl rfl (V_len rfl rfl Try.underlying53 rfl) ?_
  refine G_val rfl rfl rfl rfl (V_lss rfl rfl rfl) ?_
  refine G_done ?_
  refine G_ifD rfl (fun hc1 => ?_) (fun hc1 => ?_)
  · skip
    refine G_skip ?_
    refine G_seq ?_
    refine G_block ?_
    refine G_seq ?_
    obtain ⟨x, hx⟩ := getI (show i < ms.length by omega)
    obtain ⟨b1, rfl⟩ := h1.isSome (by omega)
    refine G_region (l := [0, 1, 2, 3, 4, 5, 6, 7, 8, 9, 10, 11, 12, 13, 14, 15]) rfl ?_
    refine G_val rfl rfl rfl rfl (V_move rfl rfl) ?_
    refine G_val rfl rfl rfl rfl (V_move rfl rfl) ?_
    first
      | refine G_val rfl rfl rfl rfl (V_indexAddrN (s := 5) rfl Try.underlying53 infScriptS_58 rfl rfl rfl rfl (by omega)) ?_
      | refine G_val rfl rfl rfl rfl (V_indexAddr (s := 5) rfl Try.underlying53 infScriptS_58 rfl rfl rfl (by omega) (by first | omega | (simp [evC, evV, kC, evS]; done) | (simp [evC, evV, kC, evS]; omega) | (simp [evC, evV, kC, evS] at *; omega))) ?_
    refine G_val rfl rfl rfl rfl (V_fieldAddr (fo := _ + 1) rfl Try.underlying58 rfl infScriptS_9 rfl rfl rfl) ?_
    refine G_val rfl rfl rfl rfl (V_load1 rfl rfl (mem_at 0 rfl) (nth_of (sees_e h1 hx 1 (by omega) rfl)) Try.underlying9 rfl) ?_
    refine G_val rfl rfl rfl rfl (V_slen rfl rfl Try.underlying9 rfl) ?_
    refine G_val rfl rfl rfl rfl (V_gtr rfl rfl rfl) ?_
    refine G_val rfl rfl rfl rfl (V_move rfl rfl) ?_
    refine G_splitD 17 rfl (fun hc2 => ?_) (fun hc2 => ?_)
    · skip
      refine G_off rfl rfl rfl rfl ?_
      refine G_off rfl rfl rfl rfl ?_
      refine G_off rfl rfl rfl rfl ?_
      refine G_off rfl rfl rfl rfl ?_
      refine G_off rfl rfl rfl rfl ?_
      refine G_off rfl rfl rfl rfl ?_
      refine G_off rfl rfl rfl rfl ?_
      refine G_val rfl rfl rfl rfl (V_pickT rfl rfl rfl) ?_
      refine G_done ?_
      refine G_then rfl ?_
      refine G_seq ?_
      refine G_region (l := [0]) rfl ?_
      refine G_val rfl rfl rfl rfl (V_assign rfl rfl) ?_
      refine G_done ?_
      refine G_ret (post := []) Try.func19 rfl (RVs_cons (RV_tmp rfl) RVs_nil) [] rfl ?_
      dsimp only [packed]
      first
        | exact ⟨bool_eq (by unfold largeS; rw [any_yes hx (decide_eq_true (by omega))]; rfl), rfl⟩
        | exact ⟨bool_eq (by unfold largeS; rw [any_end ht (by omega)]; rfl), rfl⟩
    refine G_val rfl rfl rfl rfl (V_move rfl rfl) ?_
    refine G_val rfl rfl rfl rfl (V_move rfl rfl) ?_
    first
      | refine G_val rfl rfl rfl rfl (V_indexAddrN (s := 5) rfl Try.underlying53 infScriptS_58 rfl rfl rfl rfl (by omega)) ?_
      | refine G_val rfl rfl rfl rfl (V_indexAddr (s := 5) rfl Try.underlying53 infScriptS_58 rfl rfl rfl (by omega) (by first | omega | (simp [evC, evV, kC, evS]; done) | (simp [evC, evV, kC, evS]; omega) | (simp [evC, evV, kC, evS] at *; omega))) ?_
    refine G_val rfl rfl rfl rfl (V_fieldAddr (fo := _ + 4) rfl Try.underlying58 rfl infScriptS_56 rfl rfl rfl) ?_
    refine G_val rfl rfl rfl rfl (V_load1 rfl rfl (mem_at 0 rfl) (nth_of (sees_e h1 hx 4 (by omega) rfl)) Try.underlying56 rfl) ?_
    refine G_val rfl rfl rfl rfl (V_len rfl rfl Try.underlying56 rfl) ?_
    refine G_val rfl rfl rfl rfl (V_gtr rfl rfl rfl) ?_
    refine G_val rfl rfl rfl rfl (V_pickF rfl rfl rfl) ?_
    refine G_done ?_
    refine G_ifD rfl (fun hc3 => ?_) (fun hc3 => ?_)
    · skip
      refine G_seq ?_
      refine G_region (l := [0]) rfl ?_
      refine G_val rfl rfl rfl rfl (V_assign rfl rfl) ?_
      refine G_done ?_
      refine G_ret (post := []) Try.func19 rfl (RVs_cons (RV_tmp rfl) RVs_nil) [] rfl ?_
      dsimp only [packed]
      first
        | exact ⟨bool_eq (by unfold largeS; rw [any_yes hx (decide_eq_true (by omega))]; rfl), rfl⟩
        | exact ⟨bool_eq (by unfold largeS; rw [any_end ht (by omega)]; rfl), rfl⟩
    refine G_skip ?_
    refine G_inBlock ?_
    refine G_region (l := [0, 1, 2]) rfl ?_
    refine G_val rfl rfl rfl rfl (V_move rfl rfl) ?_
    first
      | refine G_val rfl rfl rfl rfl ((V_add rfl rfl rfl).int (wrap_i64 (by omega))) ?_
      | refine G_val rfl rfl rfl rfl (V_add rfl rfl rfl) ?_
    refine G_val rfl rfl rfl rfl (V_assign rfl rfl) ?_
    refine G_done ?_
    refine G_sub ?_ [] ?_ (ih (i + 1) ?_ ?_)
    · (refine (And.intro ?_ (And.intro ?_ trivial)) <;> first | rfl | exact slot_int (by omega) | exact slot_int (by simp))
    · exact ⟨_, rfl⟩
    · exact ⟨by omega, any_next ht hx (decide_eq_false (by omega))⟩
    · (first | omega | (dsimp only; omega))
  refine G_exit rfl ?_
  refine G_seq ?_
  refine G_region (l := [0, 1, 2, 3]) rfl ?_
  refine G_val rfl rfl rfl rfl (V_move rfl rfl) ?_
  refine G_val rfl rfl rfl rfl (V_len rfl rfl Try.underlying53 rfl) ?_
  refine G_val rfl rfl rfl rfl (V_gtr rfl rfl rfl) ?_
  refine G_val rfl rfl rfl rfl (V_assign rfl rfl) ?_
  refine G_done ?_
  refine G_ret (post := []) Try.func19 rfl (RVs_cons (RV_tmp rfl) RVs_nil) [] rfl ?_
  dsimp only [packed]
  first
    | exact ⟨bool_eq (by unfold largeS; rw [any_yes hx (decide_eq_true (by omega))]; rfl), rfl⟩
    | exact ⟨bool_eq (by unfold largeS; rw [any_end ht (by omega)]; rfl), rfl⟩

end
end Go.Proofs.Ytkekkalgebgokaa
