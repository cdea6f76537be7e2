/- The law ScriptSends: of any request the program says as the document does which event sends it, or why there is none; which events are the same; the call returns true and leaves its arguments as they were. -/
import Derived.Test.YtkekkalgebgokaaPkScriptSends1
import Derived.Test.YtkekkalgebgokaaPkScriptSends2
import Derived.Test.YtkekkalgebgokaaPkScriptSends3
import Derived.Test.YtkekkalgebgokaaPkScriptSends4
import Derived.Test.YtkekkalgebgokaaPkScriptSends5
import Derived.Test.YtkekkalgebgokaaPkScriptSends6


set_option linter.unusedSimpArgs false
set_option linter.unusedVariables false
namespace Go.Proofs.Ytkekkalgebgokaa
open Go.ChangeShapes Go.WideShapes Go.ChangeAt Go.RowKit

section
theorem infLawScriptSends_58 : Try.prog.info? 58 = some Try.t58 := by kernel_rfl
theorem infLawScriptSends_67 : Try.prog.info? 67 = some Try.t67 := by kernel_rfl
theorem plcLawScriptSends_58 : placesOf Try.prog (Try.prog.fieldsOf 58) = some [(0, 1), (1, 1), (2, 1), (3, 1), (4, 1)] := by kernel_rfl


theorem src_sees {c : Cx} {L : List (Option Nat × Obj)} {sz off cap m : Nat} {ob : Option Nat} {cs : Array Value} {T : TypeId} {fr : Nat × Nat} {news : List Value} (h : Sees sz ob off cap cs news m) (hm : (ob, Obj.cells cs T fr) ∈ c.A ++ L) (h1 : ∀ x ∈ news, x.oneCell' = true) (w : World) (hw : Has w c.A L) :
    Src c.P w sz (sv ob off m cap) m news := by
  cases ob with
  | none =>
    have h0 := h.isNil rfl
    have h2 := h.le
    have hm0 : m = 0 := by omega
    have hl := h.len
    rw [hm0, Nat.zero_mul] at hl
    rw [List.length_eq_zero_iff.1 hl, hm0, h0]
    exact src_nil
  | some b => exact src_mem hm h.len (by rw [h.len]; exact h.part) h1 w hw
theorem evs_one (ms : List Em) : ∀ x ∈ ms.flatMap evC, x.oneCell' = true := by
  intro x hx
  obtain ⟨m, _, hx⟩ := List.mem_flatMap.1 hx
  simp only [evC, evV, evS, List.mem_cons, List.not_mem_nil, or_false] at hx
  rcases hx with rfl | rfl | rfl | rfl | rfl <;> rfl
theorem len_snoc (ms : List Em) (x : Em) : 0 + ms.length + 1 = (ms ++ [x]).length := by simp
theorem sees_one (b : Nat) (x : Em) : Sees 5 (some b) 0 1 (evC x).toArray ([x].flatMap evC) [x].length := ⟨by simp [evC, evV], by simp, by simp, by simp [evC, evV], fun h => by cases h⟩
/-- The event that is sent. -/
def sentE (c : Int) (b : List UInt8) (t : Nat) : Ev := if c = 0 then ⟨1, b, t, 0, []⟩ else zeroE
theorem wire_any (q : Rq) : ∃ (b : List UInt8) (c : Int), wireE q = .tuple #[.string (bs b), .int .i64 c] ∧ b.length ≤ 480 := by
  rcases wire3 q with ⟨_, hv⟩ | ⟨_, hv⟩ | ⟨h, hv⟩
  · exact ⟨_, _, hv, by simp⟩
  · exact ⟨_, _, hv, by simp⟩
  · exact ⟨_, _, hv, by omega⟩
theorem sentE_yes {b : List UInt8} {t : Nat} : sentE 0 b t = ⟨1, b, t, 0, []⟩ := rfl
theorem sentE_no {c : Int} {b : List UInt8} {t : Nat} (h : ¬ c = 0) : sentE c b t = zeroE := if_neg h
theorem sent_ok {c : Int} {b : List UInt8} {t : Nat} (hb : b.length ≤ 480) (ht : t < 18446744073709551616) : EmOk (emN (sentE c b t)) := by
  unfold sentE
  split
  · exact emN_ok (by simp) (by show b.length ≤ _; omega) ht (by simp) rfl
  · exact emN_ok (by simp [zeroE]) (by simp [zeroE]) (by simp [zeroE]) (by simp [zeroE]) rfl
theorem sent_may {b : List UInt8} {t : Nat} (hb : b.length ≤ 480) : MayE (sentE 0 b t) := mayE_mk (by decide) (by omega) (by intro h; omega) (by intro _; exact ⟨rfl, rfl⟩) (by decide) (by decide) (by simp)

set_option maxRecDepth 100000 in
set_option maxHeartbeats 1000000 in
theorem sc_send (q : Rq) (hq : RqOk q) (t : Nat) (b : List UInt8) (c : Int) (hv : wireE q = .tuple #[.string (bs b), .int .i64 c]) :
    Ct Try.prog 29 [.int .u64 (t : Int), .agg (rqCells q).toArray] [] [] fun v post => v = .tuple #[.agg (evC (emN (sentE c b t))).toArray, .int .i64 c] ∧ post = [] := by
 refine ct_of Try.func29 rfl rfl (fun w0 => ?_)
 show G _ _ [(0, _), (1, _)] _ _
 refine G_seq ?_
 refine G_region (l := [0, 1, 2]) rfl ?_
 refine G_new rfl rfl rfl rfl (N_boxA rfl rfl) (fun b3 => ?_)
 refine G_new rfl rfl rfl rfl (N_allocA rfl infLawScriptSends_58 rfl) (fun b4 => ?_)
 refine G_val rfl rfl rfl rfl (V_assign rfl rfl) ?_
 refine G_done ?_
 refine G_seq ?_
 refine G_region (l := [0, 1, 2, 3, 4, 5, 6]) rfl ?_
 first
   | refine G_val rfl rfl rfl rfl (V_loadW (s := 17) rfl rfl (mem_at 1 rfl) Try.underlying67 rfl infLawScriptSends_67 rfl (by first | rfl | (simp [bcells_length, evC, evV, kC, evS, Sl.v, rqCells]; done) | (simp [bcells_length, evC, evV, kC, evS, Sl.v, rqCells]; omega) | (simp [bcells_length, *, evC, evV, kC, evS, Sl.v, rqCells]; done))) ?_
   | refine G_val rfl rfl rfl rfl (V_loadA (s := 17) rfl rfl (mem_at 1 rfl) Try.underlying67 rfl infLawScriptSends_67 rfl rfl (by first | rfl | (simp [bcells_length, evC, evV, kC, evS, Sl.v, rqCells]; done) | (simp [bcells_length, evC, evV, kC, evS, Sl.v, rqCells]; omega) | (simp [bcells_length, *, evC, evV, kC, evS, Sl.v, rqCells]; done))) ?_
 refine G_call (L2 := [_, _]) rfl rfl rfl rfl rfl rfl Try.call87 ((wire_encode q hq).weaken (fun v post h => by rw [hv] at h; exact h)) [] [] rfl rfl ?_
 rintro v post ⟨rfl, rfl⟩
 show G _ _ _ [_, _] _
 refine G_val rfl rfl rfl rfl (V_move rfl rfl) ?_
 refine G_val rfl rfl rfl rfl (V_extract rfl rfl rfl) ?_
 refine G_val rfl rfl rfl rfl (V_extract rfl rfl rfl) ?_
 refine G_val rfl rfl rfl rfl (V_assign rfl rfl) ?_
 refine G_val rfl rfl rfl rfl (V_assign rfl rfl) ?_
 refine G_done ?_
 refine G_seq ?_
 refine G_seq ?_
 refine G_region (l := [0, 1]) rfl ?_
 refine G_val rfl rfl rfl rfl (V_move rfl rfl) ?_
 refine G_val rfl rfl rfl rfl (V_neq rfl rfl rfl) ?_
 refine G_done ?_
 refine G_ifD rfl (fun hc1 => ?_) (fun hc1 => ?_)
 · skip
   refine G_seq ?_
   refine G_region (l := [0, 1, 2, 3]) rfl ?_
   refine G_val rfl rfl rfl rfl (V_buildS (cs := [_, _, _, _, _]) rfl Try.underlying58 infLawScriptSends_58 rfl plcLawScriptSends_58 rfl rfl rfl) ?_
   refine G_val rfl rfl rfl rfl (V_move rfl rfl) ?_
   refine G_put (l1 := []) (L' := [_, _]) rfl rfl rfl rfl (P_storeA (s := 5) rfl rfl rfl (mem_at 0 rfl) (by first | rfl | (simp [bcells_length, evC, evV, kC, evS, Sl.v, rqCells]; done) | (simp [bcells_length, evC, evV, kC, evS, Sl.v, rqCells]; omega) | (simp [bcells_length, *, evC, evV, kC, evS, Sl.v, rqCells]; done)) infLawScriptSends_58 rfl (by first | rfl | (simp [bcells_length, evC, evV, kC, evS, Sl.v, rqCells]; done) | (simp [bcells_length, evC, evV, kC, evS, Sl.v, rqCells]; omega) | (simp [bcells_length, *, evC, evV, kC, evS, Sl.v, rqCells]; done)) (by first | rfl | exact bcells_all _ | (simp [Value.oneCell', evC, evV, kC, evS, Sl.v, rqCells]; done) | (simp [Value.oneCell', *, evC, evV, kC, evS, Sl.v, rqCells]; done))) rfl ?_
   refine G_val rfl rfl rfl rfl (V_assign rfl rfl) ?_
   refine G_done ?_
   refine G_ret (post := []) Try.func29 rfl (RVs_cons (RV_cell (s := 5) rfl (mem_at 0 rfl) Try.underlying58 rfl infLawScriptSends_58 rfl (by first | rfl | (simp [bcells_length, evC, evV, kC, evS, Sl.v, rqCells]; done) | (simp [bcells_length, evC, evV, kC, evS, Sl.v, rqCells]; omega) | (simp [bcells_length, *, evC, evV, kC, evS, Sl.v, rqCells]; done))) (RVs_cons (RV_tmp rfl) RVs_nil)) [] rfl ?_
   dsimp only [packed]
   first
     | (refine ⟨?_, rfl⟩; rw [sentE_no (by assumption)]; rfl)
     | (obtain rfl : c = 0 := by omega
        exact ⟨rfl, rfl⟩)
 refine G_skip ?_
 refine G_seq ?_
 refine G_region (l := [0, 1, 2, 3, 4]) rfl ?_
 refine G_val rfl rfl rfl rfl (V_move rfl rfl) ?_
 refine G_val rfl rfl rfl rfl (V_move rfl rfl) ?_
 refine G_val rfl rfl rfl rfl (V_buildS (cs := [_, _, _, _, _]) rfl Try.underlying58 infLawScriptSends_58 rfl plcLawScriptSends_58 rfl rfl rfl) ?_
 refine G_put (l1 := []) (L' := [_, _]) rfl rfl rfl rfl (P_storeA (s := 5) rfl rfl rfl (mem_at 0 rfl) (by first | rfl | (simp [bcells_length, evC, evV, kC, evS, Sl.v, rqCells]; done) | (simp [bcells_length, evC, evV, kC, evS, Sl.v, rqCells]; omega) | (simp [bcells_length, *, evC, evV, kC, evS, Sl.v, rqCells]; done)) infLawScriptSends_58 rfl (by first | rfl | (simp [bcells_length, evC, evV, kC, evS, Sl.v, rqCells]; done) | (simp [bcells_length, evC, evV, kC, evS, Sl.v, rqCells]; omega) | (simp [bcells_length, *, evC, evV, kC, evS, Sl.v, rqCells]; done)) (by first | rfl | exact bcells_all _ | (simp [Value.oneCell', evC, evV, kC, evS, Sl.v, rqCells]; done) | (simp [Value.oneCell', *, evC, evV, kC, evS, Sl.v, rqCells]; done))) rfl ?_
 refine G_val rfl rfl rfl rfl (V_assign rfl rfl) ?_
 refine G_done ?_
 refine G_ret (post := []) Try.func29 rfl (RVs_cons (RV_cell (s := 5) rfl (mem_at 0 rfl) Try.underlying58 rfl infLawScriptSends_58 rfl (by first | rfl | (simp [bcells_length, evC, evV, kC, evS, Sl.v, rqCells]; done) | (simp [bcells_length, evC, evV, kC, evS, Sl.v, rqCells]; omega) | (simp [bcells_length, *, evC, evV, kC, evS, Sl.v, rqCells]; done))) (RVs_cons (RV_tmp rfl) RVs_nil)) [] rfl ?_
 dsimp only [packed]
 first
   | (refine ⟨?_, rfl⟩; rw [sentE_no (by assumption)]; rfl)
   | (obtain rfl : c = 0 := by omega
      exact ⟨rfl, rfl⟩)


theorem own_sees2 {u : Sl} {ms : List Em} {x : Em} (h : Own 5 u (([] ++ ms.flatMap evC) ++ evC x) (0 + ms.length + 1)) : Sees 5 u.ob 0 u.cap u.cs ((ms ++ [x]).flatMap evC) (ms ++ [x]).length := by
  have := h.sees
  rw [List.nil_append, Nat.zero_add] at this
  rw [List.flatMap_append, List.flatMap_singleton, List.length_append]
  exact this

set_option maxRecDepth 100000 in
set_option maxHeartbeats 2000000 in
theorem scriptSends_all (t : Nat) (ht : t < 18446744073709551616) (q : Rq) (hq : RqOk q) (o1 : Option Nat) (p1 q1 : Nat) (c1 : Array Value) (T1 : TypeId) (f1 : Nat × Nat) (ms : List Em) (h1 : Sees 5 o1 p1 q1 c1 (ms.flatMap evC) ms.length) (hok : ∀ m ∈ ms, EmOk m) :
    Ct Try.prog 7 [.int .u64 (t : Int), .agg (rqCells q).toArray, sv o1 p1 ms.length q1] ((o1, .cells c1 T1 f1) :: ms.map evK) [] fun v post => v = .bool true ∧ post = [] := by
 have hl1 := h1.le
 have hl2 := h1.max
 obtain ⟨b, c, hv, hb⟩ := wire_any q
 refine ct_of Try.func7 rfl rfl (fun w0 => ?_)
 show G _ _ [(0, _), (1, _), (2, _)] _ _
 refine G_seq ?_
 refine G_region (l := [0, 1]) rfl ?_
 refine G_new rfl rfl rfl rfl (N_boxA rfl rfl) (fun b4 => ?_)
 refine G_val rfl rfl rfl rfl (V_assign rfl rfl) ?_
 refine G_done ?_
 refine G_seq ?_
 refine G_seq ?_
 refine G_region (l := [0, 1]) rfl ?_
 refine G_val rfl rfl rfl rfl (V_move rfl rfl) ?_
 refine G_callM (L2 := [_]) rfl rfl rfl rfl rfl rfl Try.call19 (sl_large _ _ _ _ _ _ ms h1 hok) [] rfl (subA_cons (List.mem_append_left _ (mem_at 0 rfl)) subA_nil) ?_
 rintro v post ⟨rfl, rfl⟩
 show G _ _ _ [_] _
 refine G_done ?_
 refine G_if rfl (fun hc1 => ?_) (fun hc1 => ?_)
 · skip
   refine G_seq ?_
   refine G_region (l := [0, 1]) rfl ?_
   refine G_callM (L2 := [_]) rfl rfl rfl rfl rfl rfl Try.call20 (rl_live) [] rfl subA_nil ?_
   rintro v post ⟨rfl, rfl⟩
   show G _ _ _ [_] _
   refine G_val rfl rfl rfl rfl (V_assign rfl rfl) ?_
   refine G_done ?_
   refine G_ret (post := []) Try.func7 rfl (RVs_cons (RV_tmp rfl) RVs_nil) [] rfl ?_
   dsimp only [packed]
   exact ⟨rfl, rfl⟩
 refine G_skip ?_
 refine G_seq ?_
 have hlg := largeS_no (by assumption)
 have heo : EmOk (emN (sentE c b t)) := sent_ok hb ht
 refine G_region (l := [0, 1, 2, 3, 4, 5, 6, 7, 8]) rfl ?_
 refine G_val rfl rfl rfl rfl (V_move rfl rfl) ?_
 first
   | refine G_val rfl rfl rfl rfl (V_loadW (s := 17) rfl rfl (List.mem_append_right _ (mem_at 0 rfl)) Try.underlying67 rfl infLawScriptSends_67 rfl (by first | rfl | (simp [bcells_length, evC, evV, kC, evS, Sl.v, rqCells]; done) | (simp [bcells_length, evC, evV, kC, evS, Sl.v, rqCells]; omega) | (simp [bcells_length, *, evC, evV, kC, evS, Sl.v, rqCells]; done))) ?_
   | refine G_val rfl rfl rfl rfl (V_loadA (s := 17) rfl rfl (List.mem_append_right _ (mem_at 0 rfl)) Try.underlying67 rfl infLawScriptSends_67 rfl rfl (by first | rfl | (simp [bcells_length, evC, evV, kC, evS, Sl.v, rqCells]; done) | (simp [bcells_length, evC, evV, kC, evS, Sl.v, rqCells]; omega) | (simp [bcells_length, *, evC, evV, kC, evS, Sl.v, rqCells]; done))) ?_
 refine G_callM (L2 := [_]) rfl rfl rfl rfl rfl rfl Try.call29 (sc_send q hq t b c hv) [] rfl subA_nil ?_
 rintro v post ⟨rfl, rfl⟩
 show G _ _ _ [_] _
 refine G_val rfl rfl rfl rfl (V_move rfl rfl) ?_
 refine G_val rfl rfl rfl rfl (V_extract rfl rfl rfl) ?_
 refine G_val rfl rfl rfl rfl (V_extract rfl rfl rfl) ?_
 refine G_new rfl rfl rfl rfl (N_allocA rfl infLawScriptSends_58 rfl) (fun b7 => ?_)
 refine G_put (l1 := []) (L' := [_, _]) rfl rfl rfl rfl (P_storeA (s := 5) rfl rfl rfl (mem_at 0 rfl) (by first | rfl | (simp [bcells_length, evC, evV, kC, evS, Sl.v, rqCells]; done) | (simp [bcells_length, evC, evV, kC, evS, Sl.v, rqCells]; omega) | (simp [bcells_length, *, evC, evV, kC, evS, Sl.v, rqCells]; done)) infLawScriptSends_58 rfl (by first | rfl | (simp [bcells_length, evC, evV, kC, evS, Sl.v, rqCells]; done) | (simp [bcells_length, evC, evV, kC, evS, Sl.v, rqCells]; omega) | (simp [bcells_length, *, evC, evV, kC, evS, Sl.v, rqCells]; done)) (by first | rfl | exact bcells_all _ | (simp [Value.oneCell', evC, evV, kC, evS, Sl.v, rqCells]; done) | (simp [Value.oneCell', *, evC, evV, kC, evS, Sl.v, rqCells]; done))) rfl ?_
 skip
 refine G_val rfl rfl rfl rfl (V_assign rfl rfl) ?_
 refine G_done ?_
 refine G_seq ?_
 refine G_region (l := [0, 1, 2, 3, 4, 5, 6]) rfl ?_
 first
   | refine G_val rfl rfl rfl rfl (V_loadW (s := 17) rfl rfl (List.mem_append_right _ (mem_at 1 rfl)) Try.underlying67 rfl infLawScriptSends_67 rfl (by first | rfl | (simp [bcells_length, evC, evV, kC, evS, Sl.v, rqCells]; done) | (simp [bcells_length, evC, evV, kC, evS, Sl.v, rqCells]; omega) | (simp [bcells_length, *, evC, evV, kC, evS, Sl.v, rqCells]; done))) ?_
   | refine G_val rfl rfl rfl rfl (V_loadA (s := 17) rfl rfl (List.mem_append_right _ (mem_at 1 rfl)) Try.underlying67 rfl infLawScriptSends_67 rfl rfl (by first | rfl | (simp [bcells_length, evC, evV, kC, evS, Sl.v, rqCells]; done) | (simp [bcells_length, evC, evV, kC, evS, Sl.v, rqCells]; omega) | (simp [bcells_length, *, evC, evV, kC, evS, Sl.v, rqCells]; done))) ?_
 refine G_callM (L2 := [_, _]) rfl rfl rfl rfl rfl rfl Try.call30 ((rw_encode q hq).weaken (fun v post h => by rw [hv] at h; exact h)) [] rfl subA_nil ?_
 rintro v post ⟨rfl, rfl⟩
 show G _ _ _ [_, _] _
 refine G_val rfl rfl rfl rfl (V_move rfl rfl) ?_
 refine G_val rfl rfl rfl rfl (V_extract rfl rfl rfl) ?_
 refine G_val rfl rfl rfl rfl (V_extract rfl rfl rfl) ?_
 refine G_val rfl rfl rfl rfl (V_assign rfl rfl) ?_
 refine G_val rfl rfl rfl rfl (V_assign rfl rfl) ?_
 refine G_done ?_
 refine G_seq ?_
 refine G_region (l := [0, 1, 2]) rfl ?_
 refine G_val rfl rfl rfl rfl (V_buildS (cs := [_, _, _, _, _]) rfl Try.underlying58 infLawScriptSends_58 rfl plcLawScriptSends_58 rfl rfl rfl) ?_
 refine G_new rfl rfl rfl rfl (N_allocA rfl infLawScriptSends_58 rfl) (fun b11 => ?_)
 refine G_put (l1 := []) (L' := [_, _, _]) rfl rfl rfl rfl (P_storeA (s := 5) rfl rfl rfl (mem_at 0 rfl) (by first | rfl | (simp [bcells_length, evC, evV, kC, evS, Sl.v, rqCells]; done) | (simp [bcells_length, evC, evV, kC, evS, Sl.v, rqCells]; omega) | (simp [bcells_length, *, evC, evV, kC, evS, Sl.v, rqCells]; done)) infLawScriptSends_58 rfl (by first | rfl | (simp [bcells_length, evC, evV, kC, evS, Sl.v, rqCells]; done) | (simp [bcells_length, evC, evV, kC, evS, Sl.v, rqCells]; omega) | (simp [bcells_length, *, evC, evV, kC, evS, Sl.v, rqCells]; done)) (by first | rfl | exact bcells_all _ | (simp [Value.oneCell', evC, evV, kC, evS, Sl.v, rqCells]; done) | (simp [Value.oneCell', *, evC, evV, kC, evS, Sl.v, rqCells]; done))) rfl ?_
 refine G_done ?_
 refine G_seq ?_
 refine G_seq ?_
 rcases Decidable.em (c = 0) with rfl | hc0
 · skip
   refine G_region (l := [0, 1]) rfl ?_
   refine G_val rfl rfl rfl rfl (V_move rfl rfl) ?_
   refine G_val rfl rfl rfl rfl (V_eql rfl rfl rfl) ?_
   refine G_done ?_
   refine G_ifD rfl (fun hc2 => ?_) (fun hc2 => ?_)
   rotate_left
   · (first | contradiction | (exact absurd rfl hc2) | (exfalso; omega) | (simp at hc2; done) | (exact absurd hc2 (by decide)) | (exact absurd (by decide) hc2))
   refine G_region (l := [0, 1, 2, 3]) rfl ?_
   refine G_val rfl rfl rfl rfl (V_move rfl rfl) ?_
   refine G_val rfl rfl rfl rfl (V_move rfl rfl) ?_
   refine G_val rfl rfl rfl rfl (V_buildS (cs := [_, _, _, _, _]) rfl Try.underlying58 infLawScriptSends_58 rfl plcLawScriptSends_58 rfl rfl rfl) ?_
   refine G_put (l1 := []) (L' := [_, _, _]) rfl rfl rfl rfl (P_storeA (s := 5) rfl rfl rfl (mem_at 0 rfl) (by first | rfl | (simp [bcells_length, evC, evV, kC, evS, Sl.v, rqCells]; done) | (simp [bcells_length, evC, evV, kC, evS, Sl.v, rqCells]; omega) | (simp [bcells_length, *, evC, evV, kC, evS, Sl.v, rqCells]; done)) infLawScriptSends_58 rfl (by first | rfl | (simp [bcells_length, evC, evV, kC, evS, Sl.v, rqCells]; done) | (simp [bcells_length, evC, evV, kC, evS, Sl.v, rqCells]; omega) | (simp [bcells_length, *, evC, evV, kC, evS, Sl.v, rqCells]; done)) (by first | rfl | exact bcells_all _ | (simp [Value.oneCell', evC, evV, kC, evS, Sl.v, rqCells]; done) | (simp [Value.oneCell', *, evC, evV, kC, evS, Sl.v, rqCells]; done))) rfl ?_
   refine G_done ?_
   refine G_seq ?_
   refine G_seq ?_
   try (rw [sentE_no hc0] at heo ⊢)
   refine G_addNone (.cells #[] 151 (0, 0)) ?_
   refine G_region (l := [0, 1, 2, 3, 4, 5, 6, 7, 8, 9, 10, 11, 12, 13, 14, 15, 16, 17, 18, 19, 20]) rfl ?_
   refine G_val rfl rfl rfl rfl (V_move rfl rfl) ?_
   refine G_callM (L2 := [_, _, _, _]) rfl rfl rfl rfl rfl rfl Try.call25 (rl_num _) [] rfl subA_nil ?_
   rintro v post ⟨rfl, rfl⟩
   show G _ _ _ [_, _, _, _] _
   refine G_val rfl rfl rfl rfl (V_move rfl rfl) ?_
   refine G_val rfl rfl rfl rfl (V_neq rfl rfl rfl) ?_
   refine G_val rfl rfl rfl rfl (V_move rfl rfl) ?_
   refine G_splitD 37 rfl (fun hc3 => ?_) (fun hc3 => ?_)
   · (first | contradiction | (exact absurd rfl hc3) | (exfalso; omega) | (simp at hc3; done) | (exact absurd hc3 (by decide)) | (exact absurd (by decide) hc3))
   first
     | refine G_val rfl rfl rfl rfl (V_loadW (s := 5) rfl rfl (List.mem_append_right _ (mem_at 2 rfl)) Try.underlying58 rfl infLawScriptSends_58 rfl (by first | rfl | (simp [bcells_length, evC, evV, kC, evS, Sl.v, rqCells]; done) | (simp [bcells_length, evC, evV, kC, evS, Sl.v, rqCells]; omega) | (simp [bcells_length, *, evC, evV, kC, evS, Sl.v, rqCells]; done))) ?_
     | refine G_val rfl rfl rfl rfl (V_loadA (s := 5) rfl rfl (List.mem_append_right _ (mem_at 2 rfl)) Try.underlying58 rfl infLawScriptSends_58 rfl rfl (by first | rfl | (simp [bcells_length, evC, evV, kC, evS, Sl.v, rqCells]; done) | (simp [bcells_length, evC, evV, kC, evS, Sl.v, rqCells]; omega) | (simp [bcells_length, *, evC, evV, kC, evS, Sl.v, rqCells]; done))) ?_
   refine G_new rfl rfl rfl rfl (N_buildAll (s := 5) (cs := [_, _, _, _, _]) rfl Try.underlying53 infLawScriptSends_58 rfl rfl rfl rfl rfl rfl rfl rfl rfl) (fun b39 => ?_)
   first
     | refine G_val rfl rfl rfl rfl (V_loadW (s := 5) rfl rfl (List.mem_append_right _ (mem_at 2 rfl)) Try.underlying58 rfl infLawScriptSends_58 rfl (by first | rfl | (simp [bcells_length, evC, evV, kC, evS, Sl.v, rqCells]; done) | (simp [bcells_length, evC, evV, kC, evS, Sl.v, rqCells]; omega) | (simp [bcells_length, *, evC, evV, kC, evS, Sl.v, rqCells]; done))) ?_
     | refine G_val rfl rfl rfl rfl (V_loadA (s := 5) rfl rfl (List.mem_append_right _ (mem_at 2 rfl)) Try.underlying58 rfl infLawScriptSends_58 rfl rfl (by first | rfl | (simp [bcells_length, evC, evV, kC, evS, Sl.v, rqCells]; done) | (simp [bcells_length, evC, evV, kC, evS, Sl.v, rqCells]; omega) | (simp [bcells_length, *, evC, evV, kC, evS, Sl.v, rqCells]; done))) ?_
   refine G_new rfl rfl rfl rfl (N_buildAll (s := 5) (cs := [_, _, _, _, _]) rfl Try.underlying53 infLawScriptSends_58 rfl rfl rfl rfl rfl rfl rfl rfl rfl) (fun b41 => ?_)
   refine G_callM (L2 := [_, _, _, _, _, _]) rfl rfl rfl rfl rfl rfl Try.call27 ((rsc_same (some b39) 0 1 _ 58 (0, 0) [(emN (sentE 0 b t))] (sees_one b39 _) (by intro m hm; rw [List.mem_singleton.1 hm]; exact heo) (some b41) 0 1 _ 58 (0, 0) [(emN (sentE 0 b t))] (sees_one b41 _) (by intro m hm; rw [List.mem_singleton.1 hm]; exact heo)).weaken (fun v post h => by rw [decide_eq_true rfl] at h; exact h)) [] rfl (subA_cons (List.mem_append_right _ (mem_at 1 rfl)) (subA_cons (List.mem_append_right _ (mem_at 0 rfl)) (subA_cons (List.mem_append_right _ (mem_at 2 rfl)) (subA_cons (List.mem_append_right _ (mem_at 2 rfl)) subA_nil)))) ?_
   rintro v post ⟨rfl, rfl⟩
   show G _ _ _ [_, _, _, _, _, _] _
   refine G_val rfl rfl rfl rfl (V_not rfl rfl) ?_
   refine G_val rfl rfl rfl rfl (V_pickF rfl rfl rfl) ?_
   refine G_val rfl rfl rfl rfl (V_move rfl rfl) ?_
   refine G_val rfl rfl rfl rfl (V_move rfl rfl) ?_
   refine G_val rfl rfl rfl rfl (V_eql rfl rfl rfl) ?_
   refine G_val rfl rfl rfl rfl (V_move rfl rfl) ?_
   refine G_splitD 48 rfl (fun hc4 => ?_) (fun hc4 => ?_)
   rotate_left
   · (first | contradiction | (exact absurd rfl hc4) | (exfalso; omega) | (simp at hc4; done) | (exact absurd hc4 (by decide)) | (exact absurd (by decide) hc4))
   first
     | refine G_val rfl rfl rfl rfl (V_loadW (s := 5) rfl rfl (List.mem_append_right _ (mem_at 4 rfl)) Try.underlying58 rfl infLawScriptSends_58 rfl (by first | rfl | (simp [bcells_length, evC, evV, kC, evS, Sl.v, rqCells]; done) | (simp [bcells_length, evC, evV, kC, evS, Sl.v, rqCells]; omega) | (simp [bcells_length, *, evC, evV, kC, evS, Sl.v, rqCells]; done))) ?_
     | refine G_val rfl rfl rfl rfl (V_loadA (s := 5) rfl rfl (List.mem_append_right _ (mem_at 4 rfl)) Try.underlying58 rfl infLawScriptSends_58 rfl rfl (by first | rfl | (simp [bcells_length, evC, evV, kC, evS, Sl.v, rqCells]; done) | (simp [bcells_length, evC, evV, kC, evS, Sl.v, rqCells]; omega) | (simp [bcells_length, *, evC, evV, kC, evS, Sl.v, rqCells]; done))) ?_
   refine G_callM (L2 := [_, _, _, _, _, _]) rfl rfl rfl rfl rfl rfl Try.call21 ((sc_may (emN (sentE 0 b t)) heo).weaken (fun v post h => by rw [decide_eq_true (show MayE (emN (sentE 0 b t)).v from sent_may hb)] at h; exact h)) [] rfl (subA_cons (List.mem_append_right _ (mem_at 2 rfl)) subA_nil) ?_
   rintro v post ⟨rfl, rfl⟩
   show G _ _ _ [_, _, _, _, _, _] _
   refine G_val rfl rfl rfl rfl (V_not rfl rfl) ?_
   refine G_val rfl rfl rfl rfl (V_pickT rfl rfl rfl) ?_
   refine G_val rfl rfl rfl rfl (V_pickF rfl rfl rfl) ?_
   refine G_done ?_
   refine G_else rfl ?_
   refine G_skip ?_
   refine G_seq ?_
   refine GH_start (Lq := [_]) (isq := [4]) (m := 7) mixedK rfl rfl ?_
   refine GH_take 1 rfl rfl rfl rfl (by kernel_rfl) (by kernel_rfl) (by kernel_rfl) (fun _ _ => (V_move rfl rfl)) ?_
   first
     | refine GH_take 3 rfl rfl rfl rfl (by kernel_rfl) (by kernel_rfl) (by kernel_rfl) (fun _ _ => (V_loadW (s := 5) rfl rfl (List.mem_append_right _ (mem_at 0 rfl)) Try.underlying58 rfl infLawScriptSends_58 rfl (by first | rfl | (simp [bcells_length, evC, evV, kC, evS, Sl.v, rqCells]; done) | (simp [bcells_length, evC, evV, kC, evS, Sl.v, rqCells]; omega) | (simp [bcells_length, *, evC, evV, kC, evS, Sl.v, rqCells]; done)))) ?_
     | refine GH_take 3 rfl rfl rfl rfl (by kernel_rfl) (by kernel_rfl) (by kernel_rfl) (fun _ _ => (V_loadA (s := 5) rfl rfl (List.mem_append_right _ (mem_at 0 rfl)) Try.underlying58 rfl infLawScriptSends_58 rfl rfl (by first | rfl | (simp [bcells_length, evC, evV, kC, evS, Sl.v, rqCells]; done) | (simp [bcells_length, evC, evV, kC, evS, Sl.v, rqCells]; omega) | (simp [bcells_length, *, evC, evV, kC, evS, Sl.v, rqCells]; done)))) ?_
   refine GH_all [0, 4] (by kernel_rfl) (by decide) ?_
   refine (And.intro ?_ (And.intro ?_ trivial))
   · skip
     refine GHop_new rfl rfl rfl rfl (N_build0 rfl Try.underlying53 infLawScriptSends_58) [5] (fun _ => ⟨_, rfl⟩) (fun b54 => ?_)
     refine GH_all [2, 4] (by kernel_rfl) (by decide) ?_
     refine (And.intro ?_ (And.intro ?_ trivial))
     · skip
       refine GHop_append (l1 := []) (s := ⟨some b54, #[], (0, 0), 0⟩) (nn := 0) (m := ms.length) (news := (ms.flatMap evC)) (bt := 64) rfl rfl rfl rfl Try.underlying53 Try.underlying53 (by first | exact .inl rfl | exact .inr ⟨_, rfl⟩) infLawScriptSends_58 rfl rfl rfl rfl rfl rfl (own_empty 5 b54) rfl (src_sees h1 (List.mem_append_left _ (List.mem_cons.2 (.inl rfl))) (evs_one ms)) (by omega) (by have hz : (5 : Nat) = 5 := rfl; omega) [5] (fun _ => ⟨_, rfl⟩) ?_
       intro ua hua _
       show GH _ _ _ _ _ _ _ [_, _, _, _, _, _, _] _
       refine GH_all [4] (by kernel_rfl) (by decide) ?_
       refine (And.intro ?_ trivial)
       · skip
         refine GHop_new rfl rfl rfl rfl (N_buildAll (s := 5) (cs := [_, _, _, _, _]) rfl Try.underlying53 infLawScriptSends_58 rfl rfl rfl rfl rfl rfl rfl rfl rfl) [6] (fun _ => ⟨_, rfl⟩) (fun b58 => ?_)
         refine GH_all [5] (by kernel_rfl) (by decide) ?_
         refine (And.intro ?_ trivial)
         · skip
           refine GHop_append (l1 := [_]) (s := ua) (nn := (0 + ms.length)) (m := 1) (news := (evC (emN (sentE 0 b t)))) (bt := 64) rfl rfl rfl rfl Try.underlying53 Try.underlying53 (by first | exact .inl rfl | exact .inr ⟨_, rfl⟩) infLawScriptSends_58 rfl rfl rfl rfl rfl rfl hua rfl (src_mem (List.mem_append_right _ (mem_at 0 rfl)) rfl rfl (by simp [evC, evV, evS, Value.oneCell'])) (by omega) (by omega) [6] (fun _ => ⟨_, rfl⟩) ?_
           intro um hum _
           show GH _ _ _ _ _ _ _ [_, _, _, _, _, _, _, _] _
           refine GH_take 6 rfl rfl rfl rfl (by kernel_rfl) (by kernel_rfl) (by kernel_rfl) (fun _ _ => (V_assign rfl rfl)) ?_
           refine GH_done (by kernel_rfl) ?_
           refine G_seq ?_
           have hm2 := own_sees2 hum
           first | (have := hc0; rw [len_snoc ms (emN zeroE)]) | rw [len_snoc ms (emN (sentE 0 b t))]
           refine GH_start (Lq := [_]) (isq := [5]) (m := 23) mixedK rfl rfl ?_
           refine GH_take 0 rfl rfl rfl rfl (by kernel_rfl) (by kernel_rfl) (by kernel_rfl) (fun _ _ => (V_move rfl rfl)) ?_
           refine GH_take 1 rfl rfl rfl rfl (by kernel_rfl) (by kernel_rfl) (by kernel_rfl) (fun _ _ => (V_move rfl rfl)) ?_
           refine GH_all [2] (by kernel_rfl) (by decide) ?_
           refine (And.intro ?_ trivial)
           · skip
             refine GHop_callM (L2 := [_, _, _, _, _, _, _, _]) rfl rfl rfl rfl rfl rfl Try.call31 ((sc_same o1 p1 q1 c1 T1 f1 ms h1 hok o1 p1 q1 c1 T1 f1 ms h1 hok).weaken (fun v post h => by rw [decide_eq_true rfl] at h; exact h)) [] rfl (by intro x hx; simp only [List.map_append, List.map_cons, List.map_nil, List.mem_cons, List.mem_append, List.not_mem_nil, or_false] at hx; rcases hx with h | h | h | h <;> first | exact List.mem_append_left _ (List.mem_cons.2 (.inl h)) | exact List.mem_append_left _ (List.mem_cons_of_mem _ h) | (rw [h]; exact List.mem_append_right _ (mem_at 0 rfl)) | (rw [h]; exact List.mem_append_right _ (mem_at 1 rfl)) | (rw [h]; exact List.mem_append_right _ (mem_at 2 rfl)) | (rw [h]; exact List.mem_append_right _ (mem_at 3 rfl)) | (rw [h]; exact List.mem_append_right _ (mem_at 4 rfl)) | (rw [h]; exact List.mem_append_right _ (mem_at 5 rfl)) | (rw [h]; exact List.mem_append_right _ (mem_at 6 rfl)) | (rw [h]; exact List.mem_append_right _ (mem_at 7 rfl))) [5] (by rintro v post ⟨rfl, rfl⟩; exact ⟨_, rfl⟩) ?_
             rintro v post ⟨rfl, rfl⟩
             show GH _ _ _ _ _ _ _ [_, _, _, _, _, _, _, _] _
             refine GH_take 3 rfl rfl rfl rfl (by kernel_rfl) (by kernel_rfl) (by kernel_rfl) (fun _ _ => (V_move rfl rfl)) ?_
             refine GH_take 4 rfl rfl rfl rfl (by kernel_rfl) (by kernel_rfl) (by kernel_rfl) (fun _ _ => (V_move rfl rfl)) ?_
             refine GH_take 5 rfl rfl rfl rfl (by kernel_rfl) (by kernel_rfl) (by kernel_rfl) (fun _ _ => (V_move rfl rfl)) ?_
             refine GH_all [6] (by kernel_rfl) (by decide) ?_
             refine (And.intro ?_ trivial)
             · skip
               refine GHop_callM (L2 := [_, _, _, _, _, _, _, _]) rfl rfl rfl rfl rfl rfl Try.call31 ((sc_same o1 p1 q1 c1 T1 f1 ms h1 hok um.ob 0 um.cap um.cs 58 um.fz (ms ++ [(emN (sentE 0 b t))]) hm2 (oks_next hok heo)).weaken (fun v post h => by rw [decide_eq_false (evs_ne (by simp; omega))] at h; exact h)) [] rfl (by intro x hx; simp only [List.map_append, List.map_cons, List.map_nil, List.mem_cons, List.mem_append, List.not_mem_nil, or_false] at hx; rcases hx with h | h | h | h | h <;> first | exact List.mem_append_left _ (List.mem_cons.2 (.inl h)) | exact List.mem_append_left _ (List.mem_cons_of_mem _ h) | (rw [h]; exact List.mem_append_right _ (mem_at 0 rfl)) | (rw [h]; exact List.mem_append_right _ (mem_at 1 rfl)) | (rw [h]; exact List.mem_append_right _ (mem_at 2 rfl)) | (rw [h]; exact List.mem_append_right _ (mem_at 3 rfl)) | (rw [h]; exact List.mem_append_right _ (mem_at 4 rfl)) | (rw [h]; exact List.mem_append_right _ (mem_at 5 rfl)) | (rw [h]; exact List.mem_append_right _ (mem_at 6 rfl)) | (rw [h]; exact List.mem_append_right _ (mem_at 7 rfl))) [5] (by rintro v post ⟨rfl, rfl⟩; exact ⟨_, rfl⟩) ?_
               rintro v post ⟨rfl, rfl⟩
               show GH _ _ _ _ _ _ _ [_, _, _, _, _, _, _, _] _
               refine GH_take 7 rfl rfl rfl rfl (by kernel_rfl) (by kernel_rfl) (by kernel_rfl) (fun _ _ => (V_not rfl rfl)) ?_
               refine GH_take 8 rfl rfl rfl rfl (by kernel_rfl) (by kernel_rfl) (by kernel_rfl) (fun _ _ => (V_pickT rfl rfl rfl)) ?_
               refine GH_take 9 rfl rfl rfl rfl (by kernel_rfl) (by kernel_rfl) (by kernel_rfl) (fun _ _ => (V_move rfl rfl)) ?_
               refine GH_take 10 rfl rfl rfl rfl (by kernel_rfl) (by kernel_rfl) (by kernel_rfl) (fun _ _ => (V_move rfl rfl)) ?_
               refine GH_take 12 rfl rfl rfl rfl (by kernel_rfl) (by kernel_rfl) (by kernel_rfl) (fun _ _ => (V_move rfl rfl)) ?_
               first
                 | refine GH_take 14 rfl rfl rfl rfl (by kernel_rfl) (by kernel_rfl) (by kernel_rfl) (fun _ _ => (V_loadW (s := 5) rfl rfl (List.mem_append_right _ (mem_at 0 rfl)) Try.underlying58 rfl infLawScriptSends_58 rfl (by first | rfl | (simp [bcells_length, evC, evV, kC, evS, Sl.v, rqCells]; done) | (simp [bcells_length, evC, evV, kC, evS, Sl.v, rqCells]; omega) | (simp [bcells_length, *, evC, evV, kC, evS, Sl.v, rqCells]; done)))) ?_
                 | refine GH_take 14 rfl rfl rfl rfl (by kernel_rfl) (by kernel_rfl) (by kernel_rfl) (fun _ _ => (V_loadA (s := 5) rfl rfl (List.mem_append_right _ (mem_at 0 rfl)) Try.underlying58 rfl infLawScriptSends_58 rfl rfl (by first | rfl | (simp [bcells_length, evC, evV, kC, evS, Sl.v, rqCells]; done) | (simp [bcells_length, evC, evV, kC, evS, Sl.v, rqCells]; omega) | (simp [bcells_length, *, evC, evV, kC, evS, Sl.v, rqCells]; done)))) ?_
               refine GH_all [11, 15] (by kernel_rfl) (by decide) ?_
               refine (And.intro ?_ (And.intro ?_ trivial))
               · skip
                 refine GHop_new rfl rfl rfl rfl (N_build0 rfl Try.underlying53 infLawScriptSends_58) [6] (fun _ => ⟨_, rfl⟩) (fun b71 => ?_)
                 refine GH_all [13, 15] (by kernel_rfl) (by decide) ?_
                 refine (And.intro ?_ (And.intro ?_ trivial))
                 · skip
                   refine GHop_append (l1 := []) (s := ⟨some b71, #[], (0, 0), 0⟩) (nn := 0) (m := ms.length) (news := (ms.flatMap evC)) (bt := 64) rfl rfl rfl rfl Try.underlying53 Try.underlying53 (by first | exact .inl rfl | exact .inr ⟨_, rfl⟩) infLawScriptSends_58 rfl rfl rfl rfl rfl rfl (own_empty 5 b71) rfl (src_sees h1 (List.mem_append_left _ (List.mem_cons.2 (.inl rfl))) (evs_one ms)) (by omega) (by have hz : (5 : Nat) = 5 := rfl; omega) [6] (fun _ => ⟨_, rfl⟩) ?_
                   intro ub hub _
                   show GH _ _ _ _ _ _ _ [_, _, _, _, _, _, _, _, _] _
                   refine GH_all [15] (by kernel_rfl) (by decide) ?_
                   refine (And.intro ?_ trivial)
                   · skip
                     refine GHop_new rfl rfl rfl rfl (N_buildAll (s := 5) (cs := [_, _, _, _, _]) rfl Try.underlying53 infLawScriptSends_58 rfl rfl rfl rfl rfl rfl rfl rfl rfl) [7] (fun _ => ⟨_, rfl⟩) (fun b75 => ?_)
                     refine GH_all [16] (by kernel_rfl) (by decide) ?_
                     refine (And.intro ?_ trivial)
                     · skip
                       refine GHop_append (l1 := [_]) (s := ub) (nn := (0 + ms.length)) (m := 1) (news := (evC (emN (sentE 0 b t)))) (bt := 64) rfl rfl rfl rfl Try.underlying53 Try.underlying53 (by first | exact .inl rfl | exact .inr ⟨_, rfl⟩) infLawScriptSends_58 rfl rfl rfl rfl rfl rfl hub rfl (src_mem (List.mem_append_right _ (mem_at 0 rfl)) rfl rfl (by simp [evC, evV, evS, Value.oneCell'])) (by omega) (by omega) [7] (fun _ => ⟨_, rfl⟩) ?_
                       intro uw huw _
                       show GH _ _ _ _ _ _ _ [_, _, _, _, _, _, _, _, _, _] _
                       first | (have := hc0; rw [len_snoc ms (emN zeroE)]) | rw [len_snoc ms (emN (sentE 0 b t))]
                       refine GH_all [17] (by kernel_rfl) (by decide) ?_
                       refine (And.intro ?_ trivial)
                       · skip
                         refine GHop_callM (L2 := [_, _, _, _, _, _, _, _, _, _]) rfl rfl rfl rfl rfl rfl Try.call31 ((sc_same um.ob 0 um.cap um.cs 58 um.fz (ms ++ [(emN (sentE 0 b t))]) hm2 (oks_next hok heo) uw.ob 0 uw.cap uw.cs 58 uw.fz (ms ++ [(emN (sentE 0 b t))]) (own_sees2 huw) (oks_next hok heo)).weaken (fun v post h => by rw [decide_eq_true rfl] at h; exact h)) [] rfl (by intro x hx; simp only [List.map_append, List.map_cons, List.map_nil, List.mem_cons, List.mem_append, List.not_mem_nil, or_false] at hx; rcases hx with h | h | (h | h) | h | h <;> first | exact List.mem_append_left _ (List.mem_cons.2 (.inl h)) | exact List.mem_append_left _ (List.mem_cons_of_mem _ h) | (rw [h]; exact List.mem_append_right _ (mem_at 0 rfl)) | (rw [h]; exact List.mem_append_right _ (mem_at 1 rfl)) | (rw [h]; exact List.mem_append_right _ (mem_at 2 rfl)) | (rw [h]; exact List.mem_append_right _ (mem_at 3 rfl)) | (rw [h]; exact List.mem_append_right _ (mem_at 4 rfl)) | (rw [h]; exact List.mem_append_right _ (mem_at 5 rfl)) | (rw [h]; exact List.mem_append_right _ (mem_at 6 rfl)) | (rw [h]; exact List.mem_append_right _ (mem_at 7 rfl)) | (rw [h]; exact List.mem_append_right _ (mem_at 8 rfl)) | (rw [h]; exact List.mem_append_right _ (mem_at 9 rfl))) [7] (by rintro v post ⟨rfl, rfl⟩; exact ⟨_, rfl⟩) ?_
                         rintro v post ⟨rfl, rfl⟩
                         show GH _ _ _ _ _ _ _ [_, _, _, _, _, _, _, _, _, _] _
                         refine GH_take 18 rfl rfl rfl rfl (by kernel_rfl) (by kernel_rfl) (by kernel_rfl) (fun _ _ => (V_pickT rfl rfl rfl)) ?_
                         refine GH_take 19 rfl rfl rfl rfl (by kernel_rfl) (by kernel_rfl) (by kernel_rfl) (fun _ _ => (V_move rfl rfl)) ?_
                         refine GH_all [20] (by kernel_rfl) (by decide) ?_
                         refine (And.intro ?_ trivial)
                         · skip
                           refine GHop_callM (L2 := [_, _, _, _, _, _, _, _, _, _]) rfl rfl rfl rfl rfl rfl Try.call20 (rl_live) [] rfl subA_nil [7] (by rintro v post ⟨rfl, rfl⟩; exact ⟨_, rfl⟩) ?_
                           rintro v post ⟨rfl, rfl⟩
                           show GH _ _ _ _ _ _ _ [_, _, _, _, _, _, _, _, _, _] _
                           refine GH_take 21 rfl rfl rfl rfl (by kernel_rfl) (by kernel_rfl) (by kernel_rfl) (fun _ _ => (V_pickT rfl rfl rfl)) ?_
                           refine GH_take 22 rfl rfl rfl rfl (by kernel_rfl) (by kernel_rfl) (by kernel_rfl) (fun _ _ => (V_assign rfl rfl)) ?_
                           refine GH_done (by kernel_rfl) ?_
                           refine G_ret (post := []) Try.func7 rfl (RVs_cons (RV_tmp rfl) RVs_nil) [] rfl ?_
                           dsimp only [packed]
                           exact ⟨rfl, rfl⟩
                 · skip
                   refine GHop_new rfl rfl rfl rfl (N_buildAll (s := 5) (cs := [_, _, _, _, _]) rfl Try.underlying53 infLawScriptSends_58 rfl rfl rfl rfl rfl rfl rfl rfl rfl) [7] (fun _ => ⟨_, rfl⟩) (fun b75 => ?_)
                   refine GH_all [13] (by kernel_rfl) (by decide) ?_
                   refine (And.intro ?_ trivial)
                   · skip
                     refine GHop_append (l1 := [_]) (s := ⟨some b71, #[], (0, 0), 0⟩) (nn := 0) (m := ms.length) (news := (ms.flatMap evC)) (bt := 64) rfl rfl rfl rfl Try.underlying53 Try.underlying53 (by first | exact .inl rfl | exact .inr ⟨_, rfl⟩) infLawScriptSends_58 rfl rfl rfl rfl rfl rfl (own_empty 5 b71) rfl (src_sees h1 (List.mem_append_left _ (List.mem_cons.2 (.inl rfl))) (evs_one ms)) (by omega) (by have hz : (5 : Nat) = 5 := rfl; omega) [7] (fun _ => ⟨_, rfl⟩) ?_
                     intro ub hub _
                     show GH _ _ _ _ _ _ _ [_, _, _, _, _, _, _, _, _, _] _
                     refine GH_all [16] (by kernel_rfl) (by decide) ?_
                     refine (And.intro ?_ trivial)
                     · skip
                       refine GHop_append (l1 := [_]) (s := ub) (nn := (0 + ms.length)) (m := 1) (news := (evC (emN (sentE 0 b t)))) (bt := 64) rfl rfl rfl rfl Try.underlying53 Try.underlying53 (by first | exact .inl rfl | exact .inr ⟨_, rfl⟩) infLawScriptSends_58 rfl rfl rfl rfl rfl rfl hub rfl (src_mem (List.mem_append_right _ (mem_at 0 rfl)) rfl rfl (by simp [evC, evV, evS, Value.oneCell'])) (by omega) (by omega) [7] (fun _ => ⟨_, rfl⟩) ?_
                       intro uw huw _
                       show GH _ _ _ _ _ _ _ [_, _, _, _, _, _, _, _, _, _] _
                       first | (have := hc0; rw [len_snoc ms (emN zeroE)]) | rw [len_snoc ms (emN (sentE 0 b t))]
                       refine GH_all [17] (by kernel_rfl) (by decide) ?_
                       refine (And.intro ?_ trivial)
                       · skip
                         refine GHop_callM (L2 := [_, _, _, _, _, _, _, _, _, _]) rfl rfl rfl rfl rfl rfl Try.call31 ((sc_same um.ob 0 um.cap um.cs 58 um.fz (ms ++ [(emN (sentE 0 b t))]) hm2 (oks_next hok heo) uw.ob 0 uw.cap uw.cs 58 uw.fz (ms ++ [(emN (sentE 0 b t))]) (own_sees2 huw) (oks_next hok heo)).weaken (fun v post h => by rw [decide_eq_true rfl] at h; exact h)) [] rfl (by intro x hx; simp only [List.map_append, List.map_cons, List.map_nil, List.mem_cons, List.mem_append, List.not_mem_nil, or_false] at hx; rcases hx with h | h | (h | h) | h | h <;> first | exact List.mem_append_left _ (List.mem_cons.2 (.inl h)) | exact List.mem_append_left _ (List.mem_cons_of_mem _ h) | (rw [h]; exact List.mem_append_right _ (mem_at 0 rfl)) | (rw [h]; exact List.mem_append_right _ (mem_at 1 rfl)) | (rw [h]; exact List.mem_append_right _ (mem_at 2 rfl)) | (rw [h]; exact List.mem_append_right _ (mem_at 3 rfl)) | (rw [h]; exact List.mem_append_right _ (mem_at 4 rfl)) | (rw [h]; exact List.mem_append_right _ (mem_at 5 rfl)) | (rw [h]; exact List.mem_append_right _ (mem_at 6 rfl)) | (rw [h]; exact List.mem_append_right _ (mem_at 7 rfl)) | (rw [h]; exact List.mem_append_right _ (mem_at 8 rfl)) | (rw [h]; exact List.mem_append_right _ (mem_at 9 rfl))) [7] (by rintro v post ⟨rfl, rfl⟩; exact ⟨_, rfl⟩) ?_
                         rintro v post ⟨rfl, rfl⟩
                         show GH _ _ _ _ _ _ _ [_, _, _, _, _, _, _, _, _, _] _
                         refine GH_take 18 rfl rfl rfl rfl (by kernel_rfl) (by kernel_rfl) (by kernel_rfl) (fun _ _ => (V_pickT rfl rfl rfl)) ?_
                         refine GH_take 19 rfl rfl rfl rfl (by kernel_rfl) (by kernel_rfl) (by kernel_rfl) (fun _ _ => (V_move rfl rfl)) ?_
                         refine GH_all [20] (by kernel_rfl) (by decide) ?_
                         refine (And.intro ?_ trivial)
                         · skip
                           refine GHop_callM (L2 := [_, _, _, _, _, _, _, _, _, _]) rfl rfl rfl rfl rfl rfl Try.call20 (rl_live) [] rfl subA_nil [7] (by rintro v post ⟨rfl, rfl⟩; exact ⟨_, rfl⟩) ?_
                           rintro v post ⟨rfl, rfl⟩
                           show GH _ _ _ _ _ _ _ [_, _, _, _, _, _, _, _, _, _] _
                           refine GH_take 21 rfl rfl rfl rfl (by kernel_rfl) (by kernel_rfl) (by kernel_rfl) (fun _ _ => (V_pickT rfl rfl rfl)) ?_
                           refine GH_take 22 rfl rfl rfl rfl (by kernel_rfl) (by kernel_rfl) (by kernel_rfl) (fun _ _ => (V_assign rfl rfl)) ?_
                           refine GH_done (by kernel_rfl) ?_
                           refine G_ret (post := []) Try.func7 rfl (RVs_cons (RV_tmp rfl) RVs_nil) [] rfl ?_
                           dsimp only [packed]
                           exact ⟨rfl, rfl⟩
               · skip
                 refine GHop_new rfl rfl rfl rfl (N_buildAll (s := 5) (cs := [_, _, _, _, _]) rfl Try.underlying53 infLawScriptSends_58 rfl rfl rfl rfl rfl rfl rfl rfl rfl) [6] (fun _ => ⟨_, rfl⟩) (fun b75 => ?_)
                 refine GH_all [11] (by kernel_rfl) (by decide) ?_
                 refine (And.intro ?_ trivial)
                 · skip
                   refine GHop_new rfl rfl rfl rfl (N_build0 rfl Try.underlying53 infLawScriptSends_58) [7] (fun _ => ⟨_, rfl⟩) (fun b71 => ?_)
                   refine GH_all [13] (by kernel_rfl) (by decide) ?_
                   refine (And.intro ?_ trivial)
                   · skip
                     refine GHop_append (l1 := []) (s := ⟨some b71, #[], (0, 0), 0⟩) (nn := 0) (m := ms.length) (news := (ms.flatMap evC)) (bt := 64) rfl rfl rfl rfl Try.underlying53 Try.underlying53 (by first | exact .inl rfl | exact .inr ⟨_, rfl⟩) infLawScriptSends_58 rfl rfl rfl rfl rfl rfl (own_empty 5 b71) rfl (src_sees h1 (List.mem_append_left _ (List.mem_cons.2 (.inl rfl))) (evs_one ms)) (by omega) (by have hz : (5 : Nat) = 5 := rfl; omega) [7] (fun _ => ⟨_, rfl⟩) ?_
                     intro ub hub _
                     show GH _ _ _ _ _ _ _ [_, _, _, _, _, _, _, _, _, _] _
                     refine GH_all [16] (by kernel_rfl) (by decide) ?_
                     refine (And.intro ?_ trivial)
                     · skip
                       refine GHop_append (l1 := []) (s := ub) (nn := (0 + ms.length)) (m := 1) (news := (evC (emN (sentE 0 b t)))) (bt := 64) rfl rfl rfl rfl Try.underlying53 Try.underlying53 (by first | exact .inl rfl | exact .inr ⟨_, rfl⟩) infLawScriptSends_58 rfl rfl rfl rfl rfl rfl hub rfl (src_mem (List.mem_append_right _ (mem_at 1 rfl)) rfl rfl (by simp [evC, evV, evS, Value.oneCell'])) (by omega) (by omega) [7] (fun _ => ⟨_, rfl⟩) ?_
                       intro uw huw _
                       show GH _ _ _ _ _ _ _ [_, _, _, _, _, _, _, _, _, _] _
                       first | (have := hc0; rw [len_snoc ms (emN zeroE)]) | rw [len_snoc ms (emN (sentE 0 b t))]
                       refine GH_all [17] (by kernel_rfl) (by decide) ?_
                       refine (And.intro ?_ trivial)
                       · skip
                         refine GHop_callM (L2 := [_, _, _, _, _, _, _, _, _, _]) rfl rfl rfl rfl rfl rfl Try.call31 ((sc_same um.ob 0 um.cap um.cs 58 um.fz (ms ++ [(emN (sentE 0 b t))]) hm2 (oks_next hok heo) uw.ob 0 uw.cap uw.cs 58 uw.fz (ms ++ [(emN (sentE 0 b t))]) (own_sees2 huw) (oks_next hok heo)).weaken (fun v post h => by rw [decide_eq_true rfl] at h; exact h)) [] rfl (by intro x hx; simp only [List.map_append, List.map_cons, List.map_nil, List.mem_cons, List.mem_append, List.not_mem_nil, or_false] at hx; rcases hx with h | h | (h | h) | h | h <;> first | exact List.mem_append_left _ (List.mem_cons.2 (.inl h)) | exact List.mem_append_left _ (List.mem_cons_of_mem _ h) | (rw [h]; exact List.mem_append_right _ (mem_at 0 rfl)) | (rw [h]; exact List.mem_append_right _ (mem_at 1 rfl)) | (rw [h]; exact List.mem_append_right _ (mem_at 2 rfl)) | (rw [h]; exact List.mem_append_right _ (mem_at 3 rfl)) | (rw [h]; exact List.mem_append_right _ (mem_at 4 rfl)) | (rw [h]; exact List.mem_append_right _ (mem_at 5 rfl)) | (rw [h]; exact List.mem_append_right _ (mem_at 6 rfl)) | (rw [h]; exact List.mem_append_right _ (mem_at 7 rfl)) | (rw [h]; exact List.mem_append_right _ (mem_at 8 rfl)) | (rw [h]; exact List.mem_append_right _ (mem_at 9 rfl))) [7] (by rintro v post ⟨rfl, rfl⟩; exact ⟨_, rfl⟩) ?_
                         rintro v post ⟨rfl, rfl⟩
                         show GH _ _ _ _ _ _ _ [_, _, _, _, _, _, _, _, _, _] _
                         refine GH_take 18 rfl rfl rfl rfl (by kernel_rfl) (by kernel_rfl) (by kernel_rfl) (fun _ _ => (V_pickT rfl rfl rfl)) ?_
                         refine GH_take 19 rfl rfl rfl rfl (by kernel_rfl) (by kernel_rfl) (by kernel_rfl) (fun _ _ => (V_move rfl rfl)) ?_
                         refine GH_all [20] (by kernel_rfl) (by decide) ?_
                         refine (And.intro ?_ trivial)
                         · skip
                           refine GHop_callM (L2 := [_, _, _, _, _, _, _, _, _, _]) rfl rfl rfl rfl rfl rfl Try.call20 (rl_live) [] rfl subA_nil [7] (by rintro v post ⟨rfl, rfl⟩; exact ⟨_, rfl⟩) ?_
                           rintro v post ⟨rfl, rfl⟩
                           show GH _ _ _ _ _ _ _ [_, _, _, _, _, _, _, _, _, _] _
                           refine GH_take 21 rfl rfl rfl rfl (by kernel_rfl) (by kernel_rfl) (by kernel_rfl) (fun _ _ => (V_pickT rfl rfl rfl)) ?_
                           refine GH_take 22 rfl rfl rfl rfl (by kernel_rfl) (by kernel_rfl) (by kernel_rfl) (fun _ _ => (V_assign rfl rfl)) ?_
                           refine GH_done (by kernel_rfl) ?_
                           refine G_ret (post := []) Try.func7 rfl (RVs_cons (RV_tmp rfl) RVs_nil) [] rfl ?_
                           dsimp only [packed]
                           exact ⟨rfl, rfl⟩
     · skip
       refine GHop_new rfl rfl rfl rfl (N_buildAll (s := 5) (cs := [_, _, _, _, _]) rfl Try.underlying53 infLawScriptSends_58 rfl rfl rfl rfl rfl rfl rfl rfl rfl) [6] (fun _ => ⟨_, rfl⟩) (fun b58 => ?_)
       refine GH_all [2] (by kernel_rfl) (by decide) ?_
       refine (And.intro ?_ trivial)
       · skip
         refine GHop_append (l1 := [_]) (s := ⟨some b54, #[], (0, 0), 0⟩) (nn := 0) (m := ms.length) (news := (ms.flatMap evC)) (bt := 64) rfl rfl rfl rfl Try.underlying53 Try.underlying53 (by first | exact .inl rfl | exact .inr ⟨_, rfl⟩) infLawScriptSends_58 rfl rfl rfl rfl rfl rfl (own_empty 5 b54) rfl (src_sees h1 (List.mem_append_left _ (List.mem_cons.2 (.inl rfl))) (evs_one ms)) (by omega) (by have hz : (5 : Nat) = 5 := rfl; omega) [6] (fun _ => ⟨_, rfl⟩) ?_
         intro ua hua _
         show GH _ _ _ _ _ _ _ [_, _, _, _, _, _, _, _] _
         refine GH_all [5] (by kernel_rfl) (by decide) ?_
         refine (And.intro ?_ trivial)
         · skip
           refine GHop_append (l1 := [_]) (s := ua) (nn := (0 + ms.length)) (m := 1) (news := (evC (emN (sentE 0 b t)))) (bt := 64) rfl rfl rfl rfl Try.underlying53 Try.underlying53 (by first | exact .inl rfl | exact .inr ⟨_, rfl⟩) infLawScriptSends_58 rfl rfl rfl rfl rfl rfl hua rfl (src_mem (List.mem_append_right _ (mem_at 0 rfl)) rfl rfl (by simp [evC, evV, evS, Value.oneCell'])) (by omega) (by omega) [6] (fun _ => ⟨_, rfl⟩) ?_
           intro um hum _
           show GH _ _ _ _ _ _ _ [_, _, _, _, _, _, _, _] _
           refine GH_take 6 rfl rfl rfl rfl (by kernel_rfl) (by kernel_rfl) (by kernel_rfl) (fun _ _ => (V_assign rfl rfl)) ?_
           refine GH_done (by kernel_rfl) ?_
           refine G_seq ?_
           have hm2 := own_sees2 hum
           first | (have := hc0; rw [len_snoc ms (emN zeroE)]) | rw [len_snoc ms (emN (sentE 0 b t))]
           refine GH_start (Lq := [_]) (isq := [5]) (m := 23) mixedK rfl rfl ?_
           refine GH_take 0 rfl rfl rfl rfl (by kernel_rfl) (by kernel_rfl) (by kernel_rfl) (fun _ _ => (V_move rfl rfl)) ?_
           refine GH_take 1 rfl rfl rfl rfl (by kernel_rfl) (by kernel_rfl) (by kernel_rfl) (fun _ _ => (V_move rfl rfl)) ?_
           refine GH_all [2] (by kernel_rfl) (by decide) ?_
           refine (And.intro ?_ trivial)
           · skip
             refine GHop_callM (L2 := [_, _, _, _, _, _, _, _]) rfl rfl rfl rfl rfl rfl Try.call31 ((sc_same o1 p1 q1 c1 T1 f1 ms h1 hok o1 p1 q1 c1 T1 f1 ms h1 hok).weaken (fun v post h => by rw [decide_eq_true rfl] at h; exact h)) [] rfl (by intro x hx; simp only [List.map_append, List.map_cons, List.map_nil, List.mem_cons, List.mem_append, List.not_mem_nil, or_false] at hx; rcases hx with h | h | h | h <;> first | exact List.mem_append_left _ (List.mem_cons.2 (.inl h)) | exact List.mem_append_left _ (List.mem_cons_of_mem _ h) | (rw [h]; exact List.mem_append_right _ (mem_at 0 rfl)) | (rw [h]; exact List.mem_append_right _ (mem_at 1 rfl)) | (rw [h]; exact List.mem_append_right _ (mem_at 2 rfl)) | (rw [h]; exact List.mem_append_right _ (mem_at 3 rfl)) | (rw [h]; exact List.mem_append_right _ (mem_at 4 rfl)) | (rw [h]; exact List.mem_append_right _ (mem_at 5 rfl)) | (rw [h]; exact List.mem_append_right _ (mem_at 6 rfl)) | (rw [h]; exact List.mem_append_right _ (mem_at 7 rfl))) [5] (by rintro v post ⟨rfl, rfl⟩; exact ⟨_, rfl⟩) ?_
             rintro v post ⟨rfl, rfl⟩
             show GH _ _ _ _ _ _ _ [_, _, _, _, _, _, _, _] _
             refine GH_take 3 rfl rfl rfl rfl (by kernel_rfl) (by kernel_rfl) (by kernel_rfl) (fun _ _ => (V_move rfl rfl)) ?_
             refine GH_take 4 rfl rfl rfl rfl (by kernel_rfl) (by kernel_rfl) (by kernel_rfl) (fun _ _ => (V_move rfl rfl)) ?_
             refine GH_take 5 rfl rfl rfl rfl (by kernel_rfl) (by kernel_rfl) (by kernel_rfl) (fun _ _ => (V_move rfl rfl)) ?_
             refine GH_all [6] (by kernel_rfl) (by decide) ?_
             refine (And.intro ?_ trivial)
             · skip
               refine GHop_callM (L2 := [_, _, _, _, _, _, _, _]) rfl rfl rfl rfl rfl rfl Try.call31 ((sc_same o1 p1 q1 c1 T1 f1 ms h1 hok um.ob 0 um.cap um.cs 58 um.fz (ms ++ [(emN (sentE 0 b t))]) hm2 (oks_next hok heo)).weaken (fun v post h => by rw [decide_eq_false (evs_ne (by simp; omega))] at h; exact h)) [] rfl (by intro x hx; simp only [List.map_append, List.map_cons, List.map_nil, List.mem_cons, List.mem_append, List.not_mem_nil, or_false] at hx; rcases hx with h | h | h | h | h <;> first | exact List.mem_append_left _ (List.mem_cons.2 (.inl h)) | exact List.mem_append_left _ (List.mem_cons_of_mem _ h) | (rw [h]; exact List.mem_append_right _ (mem_at 0 rfl)) | (rw [h]; exact List.mem_append_right _ (mem_at 1 rfl)) | (rw [h]; exact List.mem_append_right _ (mem_at 2 rfl)) | (rw [h]; exact List.mem_append_right _ (mem_at 3 rfl)) | (rw [h]; exact List.mem_append_right _ (mem_at 4 rfl)) | (rw [h]; exact List.mem_append_right _ (mem_at 5 rfl)) | (rw [h]; exact List.mem_append_right _ (mem_at 6 rfl)) | (rw [h]; exact List.mem_append_right _ (mem_at 7 rfl))) [5] (by rintro v post ⟨rfl, rfl⟩; exact ⟨_, rfl⟩) ?_
               rintro v post ⟨rfl, rfl⟩
               show GH _ _ _ _ _ _ _ [_, _, _, _, _, _, _, _] _
               refine GH_take 7 rfl rfl rfl rfl (by kernel_rfl) (by kernel_rfl) (by kernel_rfl) (fun _ _ => (V_not rfl rfl)) ?_
               refine GH_take 8 rfl rfl rfl rfl (by kernel_rfl) (by kernel_rfl) (by kernel_rfl) (fun _ _ => (V_pickT rfl rfl rfl)) ?_
               refine GH_take 9 rfl rfl rfl rfl (by kernel_rfl) (by kernel_rfl) (by kernel_rfl) (fun _ _ => (V_move rfl rfl)) ?_
               refine GH_take 10 rfl rfl rfl rfl (by kernel_rfl) (by kernel_rfl) (by kernel_rfl) (fun _ _ => (V_move rfl rfl)) ?_
               refine GH_take 12 rfl rfl rfl rfl (by kernel_rfl) (by kernel_rfl) (by kernel_rfl) (fun _ _ => (V_move rfl rfl)) ?_
               first
                 | refine GH_take 14 rfl rfl rfl rfl (by kernel_rfl) (by kernel_rfl) (by kernel_rfl) (fun _ _ => (V_loadW (s := 5) rfl rfl (List.mem_append_right _ (mem_at 0 rfl)) Try.underlying58 rfl infLawScriptSends_58 rfl (by first | rfl | (simp [bcells_length, evC, evV, kC, evS, Sl.v, rqCells]; done) | (simp [bcells_length, evC, evV, kC, evS, Sl.v, rqCells]; omega) | (simp [bcells_length, *, evC, evV, kC, evS, Sl.v, rqCells]; done)))) ?_
                 | refine GH_take 14 rfl rfl rfl rfl (by kernel_rfl) (by kernel_rfl) (by kernel_rfl) (fun _ _ => (V_loadA (s := 5) rfl rfl (List.mem_append_right _ (mem_at 0 rfl)) Try.underlying58 rfl infLawScriptSends_58 rfl rfl (by first | rfl | (simp [bcells_length, evC, evV, kC, evS, Sl.v, rqCells]; done) | (simp [bcells_length, evC, evV, kC, evS, Sl.v, rqCells]; omega) | (simp [bcells_length, *, evC, evV, kC, evS, Sl.v, rqCells]; done)))) ?_
               refine GH_all [11, 15] (by kernel_rfl) (by decide) ?_
               refine (And.intro ?_ (And.intro ?_ trivial))
               · skip
                 refine GHop_new rfl rfl rfl rfl (N_build0 rfl Try.underlying53 infLawScriptSends_58) [6] (fun _ => ⟨_, rfl⟩) (fun b71 => ?_)
                 refine GH_all [13, 15] (by kernel_rfl) (by decide) ?_
                 refine (And.intro ?_ (And.intro ?_ trivial))
                 · skip
                   refine GHop_append (l1 := []) (s := ⟨some b71, #[], (0, 0), 0⟩) (nn := 0) (m := ms.length) (news := (ms.flatMap evC)) (bt := 64) rfl rfl rfl rfl Try.underlying53 Try.underlying53 (by first | exact .inl rfl | exact .inr ⟨_, rfl⟩) infLawScriptSends_58 rfl rfl rfl rfl rfl rfl (own_empty 5 b71) rfl (src_sees h1 (List.mem_append_left _ (List.mem_cons.2 (.inl rfl))) (evs_one ms)) (by omega) (by have hz : (5 : Nat) = 5 := rfl; omega) [6] (fun _ => ⟨_, rfl⟩) ?_
                   intro ub hub _
                   show GH _ _ _ _ _ _ _ [_, _, _, _, _, _, _, _, _] _
                   refine GH_all [15] (by kernel_rfl) (by decide) ?_
                   refine (And.intro ?_ trivial)
                   · skip
                     refine GHop_new rfl rfl rfl rfl (N_buildAll (s := 5) (cs := [_, _, _, _, _]) rfl Try.underlying53 infLawScriptSends_58 rfl rfl rfl rfl rfl rfl rfl rfl rfl) [7] (fun _ => ⟨_, rfl⟩) (fun b75 => ?_)
                     refine GH_all [16] (by kernel_rfl) (by decide) ?_
                     refine (And.intro ?_ trivial)
                     · skip
                       refine GHop_append (l1 := [_]) (s := ub) (nn := (0 + ms.length)) (m := 1) (news := (evC (emN (sentE 0 b t)))) (bt := 64) rfl rfl rfl rfl Try.underlying53 Try.underlying53 (by first | exact .inl rfl | exact .inr ⟨_, rfl⟩) infLawScriptSends_58 rfl rfl rfl rfl rfl rfl hub rfl (src_mem (List.mem_append_right _ (mem_at 0 rfl)) rfl rfl (by simp [evC, evV, evS, Value.oneCell'])) (by omega) (by omega) [7] (fun _ => ⟨_, rfl⟩) ?_
                       intro uw huw _
                       show GH _ _ _ _ _ _ _ [_, _, _, _, _, _, _, _, _, _] _
                       first | (have := hc0; rw [len_snoc ms (emN zeroE)]) | rw [len_snoc ms (emN (sentE 0 b t))]
                       refine GH_all [17] (by kernel_rfl) (by decide) ?_
                       refine (And.intro ?_ trivial)
                       · skip
                         refine GHop_callM (L2 := [_, _, _, _, _, _, _, _, _, _]) rfl rfl rfl rfl rfl rfl Try.call31 ((sc_same um.ob 0 um.cap um.cs 58 um.fz (ms ++ [(emN (sentE 0 b t))]) hm2 (oks_next hok heo) uw.ob 0 uw.cap uw.cs 58 uw.fz (ms ++ [(emN (sentE 0 b t))]) (own_sees2 huw) (oks_next hok heo)).weaken (fun v post h => by rw [decide_eq_true rfl] at h; exact h)) [] rfl (by intro x hx; simp only [List.map_append, List.map_cons, List.map_nil, List.mem_cons, List.mem_append, List.not_mem_nil, or_false] at hx; rcases hx with h | h | (h | h) | h | h <;> first | exact List.mem_append_left _ (List.mem_cons.2 (.inl h)) | exact List.mem_append_left _ (List.mem_cons_of_mem _ h) | (rw [h]; exact List.mem_append_right _ (mem_at 0 rfl)) | (rw [h]; exact List.mem_append_right _ (mem_at 1 rfl)) | (rw [h]; exact List.mem_append_right _ (mem_at 2 rfl)) | (rw [h]; exact List.mem_append_right _ (mem_at 3 rfl)) | (rw [h]; exact List.mem_append_right _ (mem_at 4 rfl)) | (rw [h]; exact List.mem_append_right _ (mem_at 5 rfl)) | (rw [h]; exact List.mem_append_right _ (mem_at 6 rfl)) | (rw [h]; exact List.mem_append_right _ (mem_at 7 rfl)) | (rw [h]; exact List.mem_append_right _ (mem_at 8 rfl)) | (rw [h]; exact List.mem_append_right _ (mem_at 9 rfl))) [7] (by rintro v post ⟨rfl, rfl⟩; exact ⟨_, rfl⟩) ?_
                         rintro v post ⟨rfl, rfl⟩
                         show GH _ _ _ _ _ _ _ [_, _, _, _, _, _, _, _, _, _] _
                         refine GH_take 18 rfl rfl rfl rfl (by kernel_rfl) (by kernel_rfl) (by kernel_rfl) (fun _ _ => (V_pickT rfl rfl rfl)) ?_
                         refine GH_take 19 rfl rfl rfl rfl (by kernel_rfl) (by kernel_rfl) (by kernel_rfl) (fun _ _ => (V_move rfl rfl)) ?_
                         refine GH_all [20] (by kernel_rfl) (by decide) ?_
                         refine (And.intro ?_ trivial)
                         · skip
                           refine GHop_callM (L2 := [_, _, _, _, _, _, _, _, _, _]) rfl rfl rfl rfl rfl rfl Try.call20 (rl_live) [] rfl subA_nil [7] (by rintro v post ⟨rfl, rfl⟩; exact ⟨_, rfl⟩) ?_
                           rintro v post ⟨rfl, rfl⟩
                           show GH _ _ _ _ _ _ _ [_, _, _, _, _, _, _, _, _, _] _
                           refine GH_take 21 rfl rfl rfl rfl (by kernel_rfl) (by kernel_rfl) (by kernel_rfl) (fun _ _ => (V_pickT rfl rfl rfl)) ?_
                           refine GH_take 22 rfl rfl rfl rfl (by kernel_rfl) (by kernel_rfl) (by kernel_rfl) (fun _ _ => (V_assign rfl rfl)) ?_
                           refine GH_done (by kernel_rfl) ?_
                           refine G_ret (post := []) Try.func7 rfl (RVs_cons (RV_tmp rfl) RVs_nil) [] rfl ?_
                           dsimp only [packed]
                           exact ⟨rfl, rfl⟩
                 · skip
                   refine GHop_new rfl rfl rfl rfl (N_buildAll (s := 5) (cs := [_, _, _, _, _]) rfl Try.underlying53 infLawScriptSends_58 rfl rfl rfl rfl rfl rfl rfl rfl rfl) [7] (fun _ => ⟨_, rfl⟩) (fun b75 => ?_)
                   refine GH_all [13] (by kernel_rfl) (by decide) ?_
                   refine (And.intro ?_ trivial)
                   · skip
                     refine GHop_append (l1 := [_]) (s := ⟨some b71, #[], (0, 0), 0⟩) (nn := 0) (m := ms.length) (news := (ms.flatMap evC)) (bt := 64) rfl rfl rfl rfl Try.underlying53 Try.underlying53 (by first | exact .inl rfl | exact .inr ⟨_, rfl⟩) infLawScriptSends_58 rfl rfl rfl rfl rfl rfl (own_empty 5 b71) rfl (src_sees h1 (List.mem_append_left _ (List.mem_cons.2 (.inl rfl))) (evs_one ms)) (by omega) (by have hz : (5 : Nat) = 5 := rfl; omega) [7] (fun _ => ⟨_, rfl⟩) ?_
                     intro ub hub _
                     show GH _ _ _ _ _ _ _ [_, _, _, _, _, _, _, _, _, _] _
                     refine GH_all [16] (by kernel_rfl) (by decide) ?_
                     refine (And.intro ?_ trivial)
                     · skip
                       refine GHop_append (l1 := [_]) (s := ub) (nn := (0 + ms.length)) (m := 1) (news := (evC (emN (sentE 0 b t)))) (bt := 64) rfl rfl rfl rfl Try.underlying53 Try.underlying53 (by first | exact .inl rfl | exact .inr ⟨_, rfl⟩) infLawScriptSends_58 rfl rfl rfl rfl rfl rfl hub rfl (src_mem (List.mem_append_right _ (mem_at 0 rfl)) rfl rfl (by simp [evC, evV, evS, Value.oneCell'])) (by omega) (by omega) [7] (fun _ => ⟨_, rfl⟩) ?_
                       intro uw huw _
                       show GH _ _ _ _ _ _ _ [_, _, _, _, _, _, _, _, _, _] _
                       first | (have := hc0; rw [len_snoc ms (emN zeroE)]) | rw [len_snoc ms (emN (sentE 0 b t))]
                       refine GH_all [17] (by kernel_rfl) (by decide) ?_
                       refine (And.intro ?_ trivial)
                       · skip
                         refine GHop_callM (L2 := [_, _, _, _, _, _, _, _, _, _]) rfl rfl rfl rfl rfl rfl Try.call31 ((sc_same um.ob 0 um.cap um.cs 58 um.fz (ms ++ [(emN (sentE 0 b t))]) hm2 (oks_next hok heo) uw.ob 0 uw.cap uw.cs 58 uw.fz (ms ++ [(emN (sentE 0 b t))]) (own_sees2 huw) (oks_next hok heo)).weaken (fun v post h => by rw [decide_eq_true rfl] at h; exact h)) [] rfl (by intro x hx; simp only [List.map_append, List.map_cons, List.map_nil, List.mem_cons, List.mem_append, List.not_mem_nil, or_false] at hx; rcases hx with h | h | (h | h) | h | h <;> first | exact List.mem_append_left _ (List.mem_cons.2 (.inl h)) | exact List.mem_append_left _ (List.mem_cons_of_mem _ h) | (rw [h]; exact List.mem_append_right _ (mem_at 0 rfl)) | (rw [h]; exact List.mem_append_right _ (mem_at 1 rfl)) | (rw [h]; exact List.mem_append_right _ (mem_at 2 rfl)) | (rw [h]; exact List.mem_append_right _ (mem_at 3 rfl)) | (rw [h]; exact List.mem_append_right _ (mem_at 4 rfl)) | (rw [h]; exact List.mem_append_right _ (mem_at 5 rfl)) | (rw [h]; exact List.mem_append_right _ (mem_at 6 rfl)) | (rw [h]; exact List.mem_append_right _ (mem_at 7 rfl)) | (rw [h]; exact List.mem_append_right _ (mem_at 8 rfl)) | (rw [h]; exact List.mem_append_right _ (mem_at 9 rfl))) [7] (by rintro v post ⟨rfl, rfl⟩; exact ⟨_, rfl⟩) ?_
                         rintro v post ⟨rfl, rfl⟩
                         show GH _ _ _ _ _ _ _ [_, _, _, _, _, _, _, _, _, _] _
                         refine GH_take 18 rfl rfl rfl rfl (by kernel_rfl) (by kernel_rfl) (by kernel_rfl) (fun _ _ => (V_pickT rfl rfl rfl)) ?_
                         refine GH_take 19 rfl rfl rfl rfl (by kernel_rfl) (by kernel_rfl) (by kernel_rfl) (fun _ _ => (V_move rfl rfl)) ?_
                         refine GH_all [20] (by kernel_rfl) (by decide) ?_
                         refine (And.intro ?_ trivial)
                         · skip
                           refine GHop_callM (L2 := [_, _, _, _, _, _, _, _, _, _]) rfl rfl rfl rfl rfl rfl Try.call20 (rl_live) [] rfl subA_nil [7] (by rintro v post ⟨rfl, rfl⟩; exact ⟨_, rfl⟩) ?_
                           rintro v post ⟨rfl, rfl⟩
                           show GH _ _ _ _ _ _ _ [_, _, _, _, _, _, _, _, _, _] _
                           refine GH_take 21 rfl rfl rfl rfl (by kernel_rfl) (by kernel_rfl) (by kernel_rfl) (fun _ _ => (V_pickT rfl rfl rfl)) ?_
                           refine GH_take 22 rfl rfl rfl rfl (by kernel_rfl) (by kernel_rfl) (by kernel_rfl) (fun _ _ => (V_assign rfl rfl)) ?_
                           refine GH_done (by kernel_rfl) ?_
                           refine G_ret (post := []) Try.func7 rfl (RVs_cons (RV_tmp rfl) RVs_nil) [] rfl ?_
                           dsimp only [packed]
                           exact ⟨rfl, rfl⟩
               · skip
                 refine GHop_new rfl rfl rfl rfl (N_buildAll (s := 5) (cs := [_, _, _, _, _]) rfl Try.underlying53 infLawScriptSends_58 rfl rfl rfl rfl rfl rfl rfl rfl rfl) [6] (fun _ => ⟨_, rfl⟩) (fun b75 => ?_)
                 refine GH_all [11] (by kernel_rfl) (by decide) ?_
                 refine (And.intro ?_ trivial)
                 · skip
                   refine GHop_new rfl rfl rfl rfl (N_build0 rfl Try.underlying53 infLawScriptSends_58) [7] (fun _ => ⟨_, rfl⟩) (fun b71 => ?_)
                   refine GH_all [13] (by kernel_rfl) (by decide) ?_
                   refine (And.intro ?_ trivial)
                   · skip
                     refine GHop_append (l1 := []) (s := ⟨some b71, #[], (0, 0), 0⟩) (nn := 0) (m := ms.length) (news := (ms.flatMap evC)) (bt := 64) rfl rfl rfl rfl Try.underlying53 Try.underlying53 (by first | exact .inl rfl | exact .inr ⟨_, rfl⟩) infLawScriptSends_58 rfl rfl rfl rfl rfl rfl (own_empty 5 b71) rfl (src_sees h1 (List.mem_append_left _ (List.mem_cons.2 (.inl rfl))) (evs_one ms)) (by omega) (by have hz : (5 : Nat) = 5 := rfl; omega) [7] (fun _ => ⟨_, rfl⟩) ?_
                     intro ub hub _
                     show GH _ _ _ _ _ _ _ [_, _, _, _, _, _, _, _, _, _] _
                     refine GH_all [16] (by kernel_rfl) (by decide) ?_
                     refine (And.intro ?_ trivial)
                     · skip
                       refine GHop_append (l1 := []) (s := ub) (nn := (0 + ms.length)) (m := 1) (news := (evC (emN (sentE 0 b t)))) (bt := 64) rfl rfl rfl rfl Try.underlying53 Try.underlying53 (by first | exact .inl rfl | exact .inr ⟨_, rfl⟩) infLawScriptSends_58 rfl rfl rfl rfl rfl rfl hub rfl (src_mem (List.mem_append_right _ (mem_at 1 rfl)) rfl rfl (by simp [evC, evV, evS, Value.oneCell'])) (by omega) (by omega) [7] (fun _ => ⟨_, rfl⟩) ?_
                       intro uw huw _
                       show GH _ _ _ _ _ _ _ [_, _, _, _, _, _, _, _, _, _] _
                       first | (have := hc0; rw [len_snoc ms (emN zeroE)]) | rw [len_snoc ms (emN (sentE 0 b t))]
                       refine GH_all [17] (by kernel_rfl) (by decide) ?_
                       refine (And.intro ?_ trivial)
                       · skip
                         refine GHop_callM (L2 := [_, _, _, _, _, _, _, _, _, _]) rfl rfl rfl rfl rfl rfl Try.call31 ((sc_same um.ob 0 um.cap um.cs 58 um.fz (ms ++ [(emN (sentE 0 b t))]) hm2 (oks_next hok heo) uw.ob 0 uw.cap uw.cs 58 uw.fz (ms ++ [(emN (sentE 0 b t))]) (own_sees2 huw) (oks_next hok heo)).weaken (fun v post h => by rw [decide_eq_true rfl] at h; exact h)) [] rfl (by intro x hx; simp only [List.map_append, List.map_cons, List.map_nil, List.mem_cons, List.mem_append, List.not_mem_nil, or_false] at hx; rcases hx with h | h | (h | h) | h | h <;> first | exact List.mem_append_left _ (List.mem_cons.2 (.inl h)) | exact List.mem_append_left _ (List.mem_cons_of_mem _ h) | (rw [h]; exact List.mem_append_right _ (mem_at 0 rfl)) | (rw [h]; exact List.mem_append_right _ (mem_at 1 rfl)) | (rw [h]; exact List.mem_append_right _ (mem_at 2 rfl)) | (rw [h]; exact List.mem_append_right _ (mem_at 3 rfl)) | (rw [h]; exact List.mem_append_right _ (mem_at 4 rfl)) | (rw [h]; exact List.mem_append_right _ (mem_at 5 rfl)) | (rw [h]; exact List.mem_append_right _ (mem_at 6 rfl)) | (rw [h]; exact List.mem_append_right _ (mem_at 7 rfl)) | (rw [h]; exact List.mem_append_right _ (mem_at 8 rfl)) | (rw [h]; exact List.mem_append_right _ (mem_at 9 rfl))) [7] (by rintro v post ⟨rfl, rfl⟩; exact ⟨_, rfl⟩) ?_
                         rintro v post ⟨rfl, rfl⟩
                         show GH _ _ _ _ _ _ _ [_, _, _, _, _, _, _, _, _, _] _
                         refine GH_take 18 rfl rfl rfl rfl (by kernel_rfl) (by kernel_rfl) (by kernel_rfl) (fun _ _ => (V_pickT rfl rfl rfl)) ?_
                         refine GH_take 19 rfl rfl rfl rfl (by kernel_rfl) (by kernel_rfl) (by kernel_rfl) (fun _ _ => (V_move rfl rfl)) ?_
                         refine GH_all [20] (by kernel_rfl) (by decide) ?_
                         refine (And.intro ?_ trivial)
                         · skip
                           refine GHop_callM (L2 := [_, _, _, _, _, _, _, _, _, _]) rfl rfl rfl rfl rfl rfl Try.call20 (rl_live) [] rfl subA_nil [7] (by rintro v post ⟨rfl, rfl⟩; exact ⟨_, rfl⟩) ?_
                           rintro v post ⟨rfl, rfl⟩
                           show GH _ _ _ _ _ _ _ [_, _, _, _, _, _, _, _, _, _] _
                           refine GH_take 21 rfl rfl rfl rfl (by kernel_rfl) (by kernel_rfl) (by kernel_rfl) (fun _ _ => (V_pickT rfl rfl rfl)) ?_
                           refine GH_take 22 rfl rfl rfl rfl (by kernel_rfl) (by kernel_rfl) (by kernel_rfl) (fun _ _ => (V_assign rfl rfl)) ?_
                           refine GH_done (by kernel_rfl) ?_
                           refine G_ret (post := []) Try.func7 rfl (RVs_cons (RV_tmp rfl) RVs_nil) [] rfl ?_
                           dsimp only [packed]
                           exact ⟨rfl, rfl⟩
   · skip
     refine GHop_new rfl rfl rfl rfl (N_buildAll (s := 5) (cs := [_, _, _, _, _]) rfl Try.underlying53 infLawScriptSends_58 rfl rfl rfl rfl rfl rfl rfl rfl rfl) [5] (fun _ => ⟨_, rfl⟩) (fun b58 => ?_)
     refine GH_all [0] (by kernel_rfl) (by decide) ?_
     refine (And.intro ?_ trivial)
     · skip
       refine GHop_new rfl rfl rfl rfl (N_build0 rfl Try.underlying53 infLawScriptSends_58) [6] (fun _ => ⟨_, rfl⟩) (fun b54 => ?_)
       refine GH_all [2] (by kernel_rfl) (by decide) ?_
       refine (And.intro ?_ trivial)
       · skip
         refine GHop_append (l1 := []) (s := ⟨some b54, #[], (0, 0), 0⟩) (nn := 0) (m := ms.length) (news := (ms.flatMap evC)) (bt := 64) rfl rfl rfl rfl Try.underlying53 Try.underlying53 (by first | exact .inl rfl | exact .inr ⟨_, rfl⟩) infLawScriptSends_58 rfl rfl rfl rfl rfl rfl (own_empty 5 b54) rfl (src_sees h1 (List.mem_append_left _ (List.mem_cons.2 (.inl rfl))) (evs_one ms)) (by omega) (by have hz : (5 : Nat) = 5 := rfl; omega) [6] (fun _ => ⟨_, rfl⟩) ?_
         intro ua hua _
         show GH _ _ _ _ _ _ _ [_, _, _, _, _, _, _, _] _
         refine GH_all [5] (by kernel_rfl) (by decide) ?_
         refine (And.intro ?_ trivial)
         · skip
           refine GHop_append (l1 := []) (s := ua) (nn := (0 + ms.length)) (m := 1) (news := (evC (emN (sentE 0 b t)))) (bt := 64) rfl rfl rfl rfl Try.underlying53 Try.underlying53 (by first | exact .inl rfl | exact .inr ⟨_, rfl⟩) infLawScriptSends_58 rfl rfl rfl rfl rfl rfl hua rfl (src_mem (List.mem_append_right _ (mem_at 1 rfl)) rfl rfl (by simp [evC, evV, evS, Value.oneCell'])) (by omega) (by omega) [6] (fun _ => ⟨_, rfl⟩) ?_
           intro um hum _
           show GH _ _ _ _ _ _ _ [_, _, _, _, _, _, _, _] _
           refine GH_take 6 rfl rfl rfl rfl (by kernel_rfl) (by kernel_rfl) (by kernel_rfl) (fun _ _ => (V_assign rfl rfl)) ?_
           refine GH_done (by kernel_rfl) ?_
           refine G_seq ?_
           have hm2 := own_sees2 hum
           first | (have := hc0; rw [len_snoc ms (emN zeroE)]) | rw [len_snoc ms (emN (sentE 0 b t))]
           refine GH_start (Lq := [_]) (isq := [5]) (m := 23) mixedK rfl rfl ?_
           refine GH_take 0 rfl rfl rfl rfl (by kernel_rfl) (by kernel_rfl) (by kernel_rfl) (fun _ _ => (V_move rfl rfl)) ?_
           refine GH_take 1 rfl rfl rfl rfl (by kernel_rfl) (by kernel_rfl) (by kernel_rfl) (fun _ _ => (V_move rfl rfl)) ?_
           refine GH_all [2] (by kernel_rfl) (by decide) ?_
           refine (And.intro ?_ trivial)
           · skip
             refine GHop_callM (L2 := [_, _, _, _, _, _, _, _]) rfl rfl rfl rfl rfl rfl Try.call31 ((sc_same o1 p1 q1 c1 T1 f1 ms h1 hok o1 p1 q1 c1 T1 f1 ms h1 hok).weaken (fun v post h => by rw [decide_eq_true rfl] at h; exact h)) [] rfl (by intro x hx; simp only [List.map_append, List.map_cons, List.map_nil, List.mem_cons, List.mem_append, List.not_mem_nil, or_false] at hx; rcases hx with h | h | h | h <;> first | exact List.mem_append_left _ (List.mem_cons.2 (.inl h)) | exact List.mem_append_left _ (List.mem_cons_of_mem _ h) | (rw [h]; exact List.mem_append_right _ (mem_at 0 rfl)) | (rw [h]; exact List.mem_append_right _ (mem_at 1 rfl)) | (rw [h]; exact List.mem_append_right _ (mem_at 2 rfl)) | (rw [h]; exact List.mem_append_right _ (mem_at 3 rfl)) | (rw [h]; exact List.mem_append_right _ (mem_at 4 rfl)) | (rw [h]; exact List.mem_append_right _ (mem_at 5 rfl)) | (rw [h]; exact List.mem_append_right _ (mem_at 6 rfl)) | (rw [h]; exact List.mem_append_right _ (mem_at 7 rfl))) [5] (by rintro v post ⟨rfl, rfl⟩; exact ⟨_, rfl⟩) ?_
             rintro v post ⟨rfl, rfl⟩
             show GH _ _ _ _ _ _ _ [_, _, _, _, _, _, _, _] _
             refine GH_take 3 rfl rfl rfl rfl (by kernel_rfl) (by kernel_rfl) (by kernel_rfl) (fun _ _ => (V_move rfl rfl)) ?_
             refine GH_take 4 rfl rfl rfl rfl (by kernel_rfl) (by kernel_rfl) (by kernel_rfl) (fun _ _ => (V_move rfl rfl)) ?_
             refine GH_take 5 rfl rfl rfl rfl (by kernel_rfl) (by kernel_rfl) (by kernel_rfl) (fun _ _ => (V_move rfl rfl)) ?_
             refine GH_all [6] (by kernel_rfl) (by decide) ?_
             refine (And.intro ?_ trivial)
             · skip
               refine GHop_callM (L2 := [_, _, _, _, _, _, _, _]) rfl rfl rfl rfl rfl rfl Try.call31 ((sc_same o1 p1 q1 c1 T1 f1 ms h1 hok um.ob 0 um.cap um.cs 58 um.fz (ms ++ [(emN (sentE 0 b t))]) hm2 (oks_next hok heo)).weaken (fun v post h => by rw [decide_eq_false (evs_ne (by simp; omega))] at h; exact h)) [] rfl (by intro x hx; simp only [List.map_append, List.map_cons, List.map_nil, List.mem_cons, List.mem_append, List.not_mem_nil, or_false] at hx; rcases hx with h | h | h | h | h <;> first | exact List.mem_append_left _ (List.mem_cons.2 (.inl h)) | exact List.mem_append_left _ (List.mem_cons_of_mem _ h) | (rw [h]; exact List.mem_append_right _ (mem_at 0 rfl)) | (rw [h]; exact List.mem_append_right _ (mem_at 1 rfl)) | (rw [h]; exact List.mem_append_right _ (mem_at 2 rfl)) | (rw [h]; exact List.mem_append_right _ (mem_at 3 rfl)) | (rw [h]; exact List.mem_append_right _ (mem_at 4 rfl)) | (rw [h]; exact List.mem_append_right _ (mem_at 5 rfl)) | (rw [h]; exact List.mem_append_right _ (mem_at 6 rfl)) | (rw [h]; exact List.mem_append_right _ (mem_at 7 rfl))) [5] (by rintro v post ⟨rfl, rfl⟩; exact ⟨_, rfl⟩) ?_
               rintro v post ⟨rfl, rfl⟩
               show GH _ _ _ _ _ _ _ [_, _, _, _, _, _, _, _] _
               refine GH_take 7 rfl rfl rfl rfl (by kernel_rfl) (by kernel_rfl) (by kernel_rfl) (fun _ _ => (V_not rfl rfl)) ?_
               refine GH_take 8 rfl rfl rfl rfl (by kernel_rfl) (by kernel_rfl) (by kernel_rfl) (fun _ _ => (V_pickT rfl rfl rfl)) ?_
               refine GH_take 9 rfl rfl rfl rfl (by kernel_rfl) (by kernel_rfl) (by kernel_rfl) (fun _ _ => (V_move rfl rfl)) ?_
               refine GH_take 10 rfl rfl rfl rfl (by kernel_rfl) (by kernel_rfl) (by kernel_rfl) (fun _ _ => (V_move rfl rfl)) ?_
               refine GH_take 12 rfl rfl rfl rfl (by kernel_rfl) (by kernel_rfl) (by kernel_rfl) (fun _ _ => (V_move rfl rfl)) ?_
               first
                 | refine GH_take 14 rfl rfl rfl rfl (by kernel_rfl) (by kernel_rfl) (by kernel_rfl) (fun _ _ => (V_loadW (s := 5) rfl rfl (List.mem_append_right _ (mem_at 0 rfl)) Try.underlying58 rfl infLawScriptSends_58 rfl (by first | rfl | (simp [bcells_length, evC, evV, kC, evS, Sl.v, rqCells]; done) | (simp [bcells_length, evC, evV, kC, evS, Sl.v, rqCells]; omega) | (simp [bcells_length, *, evC, evV, kC, evS, Sl.v, rqCells]; done)))) ?_
                 | refine GH_take 14 rfl rfl rfl rfl (by kernel_rfl) (by kernel_rfl) (by kernel_rfl) (fun _ _ => (V_loadA (s := 5) rfl rfl (List.mem_append_right _ (mem_at 0 rfl)) Try.underlying58 rfl infLawScriptSends_58 rfl rfl (by first | rfl | (simp [bcells_length, evC, evV, kC, evS, Sl.v, rqCells]; done) | (simp [bcells_length, evC, evV, kC, evS, Sl.v, rqCells]; omega) | (simp [bcells_length, *, evC, evV, kC, evS, Sl.v, rqCells]; done)))) ?_
               refine GH_all [11, 15] (by kernel_rfl) (by decide) ?_
               refine (And.intro ?_ (And.intro ?_ trivial))
               · skip
                 refine GHop_new rfl rfl rfl rfl (N_build0 rfl Try.underlying53 infLawScriptSends_58) [6] (fun _ => ⟨_, rfl⟩) (fun b71 => ?_)
                 refine GH_all [13, 15] (by kernel_rfl) (by decide) ?_
                 refine (And.intro ?_ (And.intro ?_ trivial))
                 · skip
                   refine GHop_append (l1 := []) (s := ⟨some b71, #[], (0, 0), 0⟩) (nn := 0) (m := ms.length) (news := (ms.flatMap evC)) (bt := 64) rfl rfl rfl rfl Try.underlying53 Try.underlying53 (by first | exact .inl rfl | exact .inr ⟨_, rfl⟩) infLawScriptSends_58 rfl rfl rfl rfl rfl rfl (own_empty 5 b71) rfl (src_sees h1 (List.mem_append_left _ (List.mem_cons.2 (.inl rfl))) (evs_one ms)) (by omega) (by have hz : (5 : Nat) = 5 := rfl; omega) [6] (fun _ => ⟨_, rfl⟩) ?_
                   intro ub hub _
                   show GH _ _ _ _ _ _ _ [_, _, _, _, _, _, _, _, _] _
                   refine GH_all [15] (by kernel_rfl) (by decide) ?_
                   refine (And.intro ?_ trivial)
                   · skip
                     refine GHop_new rfl rfl rfl rfl (N_buildAll (s := 5) (cs := [_, _, _, _, _]) rfl Try.underlying53 infLawScriptSends_58 rfl rfl rfl rfl rfl rfl rfl rfl rfl) [7] (fun _ => ⟨_, rfl⟩) (fun b75 => ?_)
                     refine GH_all [16] (by kernel_rfl) (by decide) ?_
                     refine (And.intro ?_ trivial)
                     · skip
                       refine GHop_append (l1 := [_]) (s := ub) (nn := (0 + ms.length)) (m := 1) (news := (evC (emN (sentE 0 b t)))) (bt := 64) rfl rfl rfl rfl Try.underlying53 Try.underlying53 (by first | exact .inl rfl | exact .inr ⟨_, rfl⟩) infLawScriptSends_58 rfl rfl rfl rfl rfl rfl hub rfl (src_mem (List.mem_append_right _ (mem_at 0 rfl)) rfl rfl (by simp [evC, evV, evS, Value.oneCell'])) (by omega) (by omega) [7] (fun _ => ⟨_, rfl⟩) ?_
                       intro uw huw _
                       show GH _ _ _ _ _ _ _ [_, _, _, _, _, _, _, _, _, _] _
                       first | (have := hc0; rw [len_snoc ms (emN zeroE)]) | rw [len_snoc ms (emN (sentE 0 b t))]
                       refine GH_all [17] (by kernel_rfl) (by decide) ?_
                       refine (And.intro ?_ trivial)
                       · skip
                         refine GHop_callM (L2 := [_, _, _, _, _, _, _, _, _, _]) rfl rfl rfl rfl rfl rfl Try.call31 ((sc_same um.ob 0 um.cap um.cs 58 um.fz (ms ++ [(emN (sentE 0 b t))]) hm2 (oks_next hok heo) uw.ob 0 uw.cap uw.cs 58 uw.fz (ms ++ [(emN (sentE 0 b t))]) (own_sees2 huw) (oks_next hok heo)).weaken (fun v post h => by rw [decide_eq_true rfl] at h; exact h)) [] rfl (by intro x hx; simp only [List.map_append, List.map_cons, List.map_nil, List.mem_cons, List.mem_append, List.not_mem_nil, or_false] at hx; rcases hx with h | h | (h | h) | h | h <;> first | exact List.mem_append_left _ (List.mem_cons.2 (.inl h)) | exact List.mem_append_left _ (List.mem_cons_of_mem _ h) | (rw [h]; exact List.mem_append_right _ (mem_at 0 rfl)) | (rw [h]; exact List.mem_append_right _ (mem_at 1 rfl)) | (rw [h]; exact List.mem_append_right _ (mem_at 2 rfl)) | (rw [h]; exact List.mem_append_right _ (mem_at 3 rfl)) | (rw [h]; exact List.mem_append_right _ (mem_at 4 rfl)) | (rw [h]; exact List.mem_append_right _ (mem_at 5 rfl)) | (rw [h]; exact List.mem_append_right _ (mem_at 6 rfl)) | (rw [h]; exact List.mem_append_right _ (mem_at 7 rfl)) | (rw [h]; exact List.mem_append_right _ (mem_at 8 rfl)) | (rw [h]; exact List.mem_append_right _ (mem_at 9 rfl))) [7] (by rintro v post ⟨rfl, rfl⟩; exact ⟨_, rfl⟩) ?_
                         rintro v post ⟨rfl, rfl⟩
                         show GH _ _ _ _ _ _ _ [_, _, _, _, _, _, _, _, _, _] _
                         refine GH_take 18 rfl rfl rfl rfl (by kernel_rfl) (by kernel_rfl) (by kernel_rfl) (fun _ _ => (V_pickT rfl rfl rfl)) ?_
                         refine GH_take 19 rfl rfl rfl rfl (by kernel_rfl) (by kernel_rfl) (by kernel_rfl) (fun _ _ => (V_move rfl rfl)) ?_
                         refine GH_all [20] (by kernel_rfl) (by decide) ?_
                         refine (And.intro ?_ trivial)
                         · skip
                           refine GHop_callM (L2 := [_, _, _, _, _, _, _, _, _, _]) rfl rfl rfl rfl rfl rfl Try.call20 (rl_live) [] rfl subA_nil [7] (by rintro v post ⟨rfl, rfl⟩; exact ⟨_, rfl⟩) ?_
                           rintro v post ⟨rfl, rfl⟩
                           show GH _ _ _ _ _ _ _ [_, _, _, _, _, _, _, _, _, _] _
                           refine GH_take 21 rfl rfl rfl rfl (by kernel_rfl) (by kernel_rfl) (by kernel_rfl) (fun _ _ => (V_pickT rfl rfl rfl)) ?_
                           refine GH_take 22 rfl rfl rfl rfl (by kernel_rfl) (by kernel_rfl) (by kernel_rfl) (fun _ _ => (V_assign rfl rfl)) ?_
                           refine GH_done (by kernel_rfl) ?_
                           refine G_ret (post := []) Try.func7 rfl (RVs_cons (RV_tmp rfl) RVs_nil) [] rfl ?_
                           dsimp only [packed]
                           exact ⟨rfl, rfl⟩
                 · skip
                   refine GHop_new rfl rfl rfl rfl (N_buildAll (s := 5) (cs := [_, _, _, _, _]) rfl Try.underlying53 infLawScriptSends_58 rfl rfl rfl rfl rfl rfl rfl rfl rfl) [7] (fun _ => ⟨_, rfl⟩) (fun b75 => ?_)
                   refine GH_all [13] (by kernel_rfl) (by decide) ?_
                   refine (And.intro ?_ trivial)
                   · skip
                     refine GHop_append (l1 := [_]) (s := ⟨some b71, #[], (0, 0), 0⟩) (nn := 0) (m := ms.length) (news := (ms.flatMap evC)) (bt := 64) rfl rfl rfl rfl Try.underlying53 Try.underlying53 (by first | exact .inl rfl | exact .inr ⟨_, rfl⟩) infLawScriptSends_58 rfl rfl rfl rfl rfl rfl (own_empty 5 b71) rfl (src_sees h1 (List.mem_append_left _ (List.mem_cons.2 (.inl rfl))) (evs_one ms)) (by omega) (by have hz : (5 : Nat) = 5 := rfl; omega) [7] (fun _ => ⟨_, rfl⟩) ?_
                     intro ub hub _
                     show GH _ _ _ _ _ _ _ [_, _, _, _, _, _, _, _, _, _] _
                     refine GH_all [16] (by kernel_rfl) (by decide) ?_
                     refine (And.intro ?_ trivial)
                     · skip
                       refine GHop_append (l1 := [_]) (s := ub) (nn := (0 + ms.length)) (m := 1) (news := (evC (emN (sentE 0 b t)))) (bt := 64) rfl rfl rfl rfl Try.underlying53 Try.underlying53 (by first | exact .inl rfl | exact .inr ⟨_, rfl⟩) infLawScriptSends_58 rfl rfl rfl rfl rfl rfl hub rfl (src_mem (List.mem_append_right _ (mem_at 0 rfl)) rfl rfl (by simp [evC, evV, evS, Value.oneCell'])) (by omega) (by omega) [7] (fun _ => ⟨_, rfl⟩) ?_
                       intro uw huw _
                       show GH _ _ _ _ _ _ _ [_, _, _, _, _, _, _, _, _, _] _
                       first | (have := hc0; rw [len_snoc ms (emN zeroE)]) | rw [len_snoc ms (emN (sentE 0 b t))]
                       refine GH_all [17] (by kernel_rfl) (by decide) ?_
                       refine (And.intro ?_ trivial)
                       · skip
                         refine GHop_callM (L2 := [_, _, _, _, _, _, _, _, _, _]) rfl rfl rfl rfl rfl rfl Try.call31 ((sc_same um.ob 0 um.cap um.cs 58 um.fz (ms ++ [(emN (sentE 0 b t))]) hm2 (oks_next hok heo) uw.ob 0 uw.cap uw.cs 58 uw.fz (ms ++ [(emN (sentE 0 b t))]) (own_sees2 huw) (oks_next hok heo)).weaken (fun v post h => by rw [decide_eq_true rfl] at h; exact h)) [] rfl (by intro x hx; simp only [List.map_append, List.map_cons, List.map_nil, List.mem_cons, List.mem_append, List.not_mem_nil, or_false] at hx; rcases hx with h | h | (h | h) | h | h <;> first | exact List.mem_append_left _ (List.mem_cons.2 (.inl h)) | exact List.mem_append_left _ (List.mem_cons_of_mem _ h) | (rw [h]; exact List.mem_append_right _ (mem_at 0 rfl)) | (rw [h]; exact List.mem_append_right _ (mem_at 1 rfl)) | (rw [h]; exact List.mem_append_right _ (mem_at 2 rfl)) | (rw [h]; exact List.mem_append_right _ (mem_at 3 rfl)) | (rw [h]; exact List.mem_append_right _ (mem_at 4 rfl)) | (rw [h]; exact List.mem_append_right _ (mem_at 5 rfl)) | (rw [h]; exact List.mem_append_right _ (mem_at 6 rfl)) | (rw [h]; exact List.mem_append_right _ (mem_at 7 rfl)) | (rw [h]; exact List.mem_append_right _ (mem_at 8 rfl)) | (rw [h]; exact List.mem_append_right _ (mem_at 9 rfl))) [7] (by rintro v post ⟨rfl, rfl⟩; exact ⟨_, rfl⟩) ?_
                         rintro v post ⟨rfl, rfl⟩
                         show GH _ _ _ _ _ _ _ [_, _, _, _, _, _, _, _, _, _] _
                         refine GH_take 18 rfl rfl rfl rfl (by kernel_rfl) (by kernel_rfl) (by kernel_rfl) (fun _ _ => (V_pickT rfl rfl rfl)) ?_
                         refine GH_take 19 rfl rfl rfl rfl (by kernel_rfl) (by kernel_rfl) (by kernel_rfl) (fun _ _ => (V_move rfl rfl)) ?_
                         refine GH_all [20] (by kernel_rfl) (by decide) ?_
                         refine (And.intro ?_ trivial)
                         · skip
                           refine GHop_callM (L2 := [_, _, _, _, _, _, _, _, _, _]) rfl rfl rfl rfl rfl rfl Try.call20 (rl_live) [] rfl subA_nil [7] (by rintro v post ⟨rfl, rfl⟩; exact ⟨_, rfl⟩) ?_
                           rintro v post ⟨rfl, rfl⟩
                           show GH _ _ _ _ _ _ _ [_, _, _, _, _, _, _, _, _, _] _
                           refine GH_take 21 rfl rfl rfl rfl (by kernel_rfl) (by kernel_rfl) (by kernel_rfl) (fun _ _ => (V_pickT rfl rfl rfl)) ?_
                           refine GH_take 22 rfl rfl rfl rfl (by kernel_rfl) (by kernel_rfl) (by kernel_rfl) (fun _ _ => (V_assign rfl rfl)) ?_
                           refine GH_done (by kernel_rfl) ?_
                           refine G_ret (post := []) Try.func7 rfl (RVs_cons (RV_tmp rfl) RVs_nil) [] rfl ?_
                           dsimp only [packed]
                           exact ⟨rfl, rfl⟩
               · skip
                 refine GHop_new rfl rfl rfl rfl (N_buildAll (s := 5) (cs := [_, _, _, _, _]) rfl Try.underlying53 infLawScriptSends_58 rfl rfl rfl rfl rfl rfl rfl rfl rfl) [6] (fun _ => ⟨_, rfl⟩) (fun b75 => ?_)
                 refine GH_all [11] (by kernel_rfl) (by decide) ?_
                 refine (And.intro ?_ trivial)
                 · skip
                   refine GHop_new rfl rfl rfl rfl (N_build0 rfl Try.underlying53 infLawScriptSends_58) [7] (fun _ => ⟨_, rfl⟩) (fun b71 => ?_)
                   refine GH_all [13] (by kernel_rfl) (by decide) ?_
                   refine (And.intro ?_ trivial)
                   · skip
                     refine GHop_append (l1 := []) (s := ⟨some b71, #[], (0, 0), 0⟩) (nn := 0) (m := ms.length) (news := (ms.flatMap evC)) (bt := 64) rfl rfl rfl rfl Try.underlying53 Try.underlying53 (by first | exact .inl rfl | exact .inr ⟨_, rfl⟩) infLawScriptSends_58 rfl rfl rfl rfl rfl rfl (own_empty 5 b71) rfl (src_sees h1 (List.mem_append_left _ (List.mem_cons.2 (.inl rfl))) (evs_one ms)) (by omega) (by have hz : (5 : Nat) = 5 := rfl; omega) [7] (fun _ => ⟨_, rfl⟩) ?_
                     intro ub hub _
                     show GH _ _ _ _ _ _ _ [_, _, _, _, _, _, _, _, _, _] _
                     refine GH_all [16] (by kernel_rfl) (by decide) ?_
                     refine (And.intro ?_ trivial)
                     · skip
                       refine GHop_append (l1 := []) (s := ub) (nn := (0 + ms.length)) (m := 1) (news := (evC (emN (sentE 0 b t)))) (bt := 64) rfl rfl rfl rfl Try.underlying53 Try.underlying53 (by first | exact .inl rfl | exact .inr ⟨_, rfl⟩) infLawScriptSends_58 rfl rfl rfl rfl rfl rfl hub rfl (src_mem (List.mem_append_right _ (mem_at 1 rfl)) rfl rfl (by simp [evC, evV, evS, Value.oneCell'])) (by omega) (by omega) [7] (fun _ => ⟨_, rfl⟩) ?_
                       intro uw huw _
                       show GH _ _ _ _ _ _ _ [_, _, _, _, _, _, _, _, _, _] _
                       first | (have := hc0; rw [len_snoc ms (emN zeroE)]) | rw [len_snoc ms (emN (sentE 0 b t))]
                       refine GH_all [17] (by kernel_rfl) (by decide) ?_
                       refine (And.intro ?_ trivial)
                       · skip
                         refine GHop_callM (L2 := [_, _, _, _, _, _, _, _, _, _]) rfl rfl rfl rfl rfl rfl Try.call31 ((sc_same um.ob 0 um.cap um.cs 58 um.fz (ms ++ [(emN (sentE 0 b t))]) hm2 (oks_next hok heo) uw.ob 0 uw.cap uw.cs 58 uw.fz (ms ++ [(emN (sentE 0 b t))]) (own_sees2 huw) (oks_next hok heo)).weaken (fun v post h => by rw [decide_eq_true rfl] at h; exact h)) [] rfl (by intro x hx; simp only [List.map_append, List.map_cons, List.map_nil, List.mem_cons, List.mem_append, List.not_mem_nil, or_false] at hx; rcases hx with h | h | (h | h) | h | h <;> first | exact List.mem_append_left _ (List.mem_cons.2 (.inl h)) | exact List.mem_append_left _ (List.mem_cons_of_mem _ h) | (rw [h]; exact List.mem_append_right _ (mem_at 0 rfl)) | (rw [h]; exact List.mem_append_right _ (mem_at 1 rfl)) | (rw [h]; exact List.mem_append_right _ (mem_at 2 rfl)) | (rw [h]; exact List.mem_append_right _ (mem_at 3 rfl)) | (rw [h]; exact List.mem_append_right _ (mem_at 4 rfl)) | (rw [h]; exact List.mem_append_right _ (mem_at 5 rfl)) | (rw [h]; exact List.mem_append_right _ (mem_at 6 rfl)) | (rw [h]; exact List.mem_append_right _ (mem_at 7 rfl)) | (rw [h]; exact List.mem_append_right _ (mem_at 8 rfl)) | (rw [h]; exact List.mem_append_right _ (mem_at 9 rfl))) [7] (by rintro v post ⟨rfl, rfl⟩; exact ⟨_, rfl⟩) ?_
                         rintro v post ⟨rfl, rfl⟩
                         show GH _ _ _ _ _ _ _ [_, _, _, _, _, _, _, _, _, _] _
                         refine GH_take 18 rfl rfl rfl rfl (by kernel_rfl) (by kernel_rfl) (by kernel_rfl) (fun _ _ => (V_pickT rfl rfl rfl)) ?_
                         refine GH_take 19 rfl rfl rfl rfl (by kernel_rfl) (by kernel_rfl) (by kernel_rfl) (fun _ _ => (V_move rfl rfl)) ?_
                         refine GH_all [20] (by kernel_rfl) (by decide) ?_
                         refine (And.intro ?_ trivial)
                         · skip
                           refine GHop_callM (L2 := [_, _, _, _, _, _, _, _, _, _]) rfl rfl rfl rfl rfl rfl Try.call20 (rl_live) [] rfl subA_nil [7] (by rintro v post ⟨rfl, rfl⟩; exact ⟨_, rfl⟩) ?_
                           rintro v post ⟨rfl, rfl⟩
                           show GH _ _ _ _ _ _ _ [_, _, _, _, _, _, _, _, _, _] _
                           refine GH_take 21 rfl rfl rfl rfl (by kernel_rfl) (by kernel_rfl) (by kernel_rfl) (fun _ _ => (V_pickT rfl rfl rfl)) ?_
                           refine GH_take 22 rfl rfl rfl rfl (by kernel_rfl) (by kernel_rfl) (by kernel_rfl) (fun _ _ => (V_assign rfl rfl)) ?_
                           refine GH_done (by kernel_rfl) ?_
                           refine G_ret (post := []) Try.func7 rfl (RVs_cons (RV_tmp rfl) RVs_nil) [] rfl ?_
                           dsimp only [packed]
                           exact ⟨rfl, rfl⟩
 · skip
   refine G_region (l := [0, 1]) rfl ?_
   refine G_val rfl rfl rfl rfl (V_move rfl rfl) ?_
   refine G_val rfl rfl rfl rfl (V_eql rfl rfl rfl) ?_
   refine G_done ?_
   refine G_ifD rfl (fun hc2 => ?_) (fun hc2 => ?_)
   · (first | contradiction | (exact absurd rfl hc2) | (exfalso; omega) | (simp at hc2; done) | (exact absurd hc2 (by decide)) | (exact absurd (by decide) hc2))
   refine G_skip ?_
   refine G_seq ?_
   refine G_seq ?_
   try (rw [sentE_no hc0] at heo ⊢)
   refine G_addNone (.cells #[] 151 (0, 0)) ?_
   refine G_region (l := [0, 1, 2, 3, 4, 5, 6, 7, 8, 9, 10, 11, 12, 13, 14, 15, 16, 17, 18, 19, 20]) rfl ?_
   refine G_val rfl rfl rfl rfl (V_move rfl rfl) ?_
   refine G_callM (L2 := [_, _, _, _]) rfl rfl rfl rfl rfl rfl Try.call25 (rl_num _) [] rfl subA_nil ?_
   rintro v post ⟨rfl, rfl⟩
   show G _ _ _ [_, _, _, _] _
   refine G_val rfl rfl rfl rfl (V_move rfl rfl) ?_
   refine G_val rfl rfl rfl rfl (V_neq rfl rfl rfl) ?_
   refine G_val rfl rfl rfl rfl (V_move rfl rfl) ?_
   refine G_splitD 37 rfl (fun hc3 => ?_) (fun hc3 => ?_)
   · (first | contradiction | (exact absurd rfl hc3) | (exfalso; omega) | (simp at hc3; done) | (exact absurd hc3 (by decide)) | (exact absurd (by decide) hc3))
   first
     | refine G_val rfl rfl rfl rfl (V_loadW (s := 5) rfl rfl (List.mem_append_right _ (mem_at 2 rfl)) Try.underlying58 rfl infLawScriptSends_58 rfl (by first | rfl | (simp [bcells_length, evC, evV, kC, evS, Sl.v, rqCells]; done) | (simp [bcells_length, evC, evV, kC, evS, Sl.v, rqCells]; omega) | (simp [bcells_length, *, evC, evV, kC, evS, Sl.v, rqCells]; done))) ?_
     | refine G_val rfl rfl rfl rfl (V_loadA (s := 5) rfl rfl (List.mem_append_right _ (mem_at 2 rfl)) Try.underlying58 rfl infLawScriptSends_58 rfl rfl (by first | rfl | (simp [bcells_length, evC, evV, kC, evS, Sl.v, rqCells]; done) | (simp [bcells_length, evC, evV, kC, evS, Sl.v, rqCells]; omega) | (simp [bcells_length, *, evC, evV, kC, evS, Sl.v, rqCells]; done))) ?_
   refine G_new rfl rfl rfl rfl (N_buildAll (s := 5) (cs := [_, _, _, _, _]) rfl Try.underlying53 infLawScriptSends_58 rfl rfl rfl rfl rfl rfl rfl rfl rfl) (fun b39 => ?_)
   first
     | refine G_val rfl rfl rfl rfl (V_loadW (s := 5) rfl rfl (List.mem_append_right _ (mem_at 2 rfl)) Try.underlying58 rfl infLawScriptSends_58 rfl (by first | rfl | (simp [bcells_length, evC, evV, kC, evS, Sl.v, rqCells]; done) | (simp [bcells_length, evC, evV, kC, evS, Sl.v, rqCells]; omega) | (simp [bcells_length, *, evC, evV, kC, evS, Sl.v, rqCells]; done))) ?_
     | refine G_val rfl rfl rfl rfl (V_loadA (s := 5) rfl rfl (List.mem_append_right _ (mem_at 2 rfl)) Try.underlying58 rfl infLawScriptSends_58 rfl rfl (by first | rfl | (simp [bcells_length, evC, evV, kC, evS, Sl.v, rqCells]; done) | (simp [bcells_length, evC, evV, kC, evS, Sl.v, rqCells]; omega) | (simp [bcells_length, *, evC, evV, kC, evS, Sl.v, rqCells]; done))) ?_
   refine G_new rfl rfl rfl rfl (N_buildAll (s := 5) (cs := [_, _, _, _, _]) rfl Try.underlying53 infLawScriptSends_58 rfl rfl rfl rfl rfl rfl rfl rfl rfl) (fun b41 => ?_)
   refine G_callM (L2 := [_, _, _, _, _, _]) rfl rfl rfl rfl rfl rfl Try.call27 ((rsc_same (some b39) 0 1 _ 58 (0, 0) [(emN zeroE)] (sees_one b39 _) (by intro m hm; rw [List.mem_singleton.1 hm]; exact heo) (some b41) 0 1 _ 58 (0, 0) [(emN zeroE)] (sees_one b41 _) (by intro m hm; rw [List.mem_singleton.1 hm]; exact heo)).weaken (fun v post h => by rw [decide_eq_true rfl] at h; exact h)) [] rfl (subA_cons (List.mem_append_right _ (mem_at 1 rfl)) (subA_cons (List.mem_append_right _ (mem_at 0 rfl)) (subA_cons (List.mem_append_right _ (mem_at 2 rfl)) (subA_cons (List.mem_append_right _ (mem_at 2 rfl)) subA_nil)))) ?_
   rintro v post ⟨rfl, rfl⟩
   show G _ _ _ [_, _, _, _, _, _] _
   refine G_val rfl rfl rfl rfl (V_not rfl rfl) ?_
   refine G_val rfl rfl rfl rfl (V_pickF rfl rfl rfl) ?_
   refine G_val rfl rfl rfl rfl (V_move rfl rfl) ?_
   refine G_val rfl rfl rfl rfl (V_move rfl rfl) ?_
   refine G_val rfl rfl rfl rfl (V_eql rfl rfl rfl) ?_
   refine G_val rfl rfl rfl rfl (V_move rfl rfl) ?_
   refine G_splitD 48 rfl (fun hc4 => ?_) (fun hc4 => ?_)
   · (first | contradiction | (exact absurd rfl hc4) | (exfalso; omega) | (simp at hc4; done) | (exact absurd hc4 (by decide)) | (exact absurd (by decide) hc4))
   refine G_off rfl rfl rfl rfl ?_
   refine G_off rfl rfl rfl rfl ?_
   refine G_off rfl rfl rfl rfl ?_
   refine G_val rfl rfl rfl rfl (V_pickF rfl rfl rfl) ?_
   refine G_val rfl rfl rfl rfl (V_pickF rfl rfl rfl) ?_
   refine G_done ?_
   refine G_else rfl ?_
   refine G_skip ?_
   refine G_seq ?_
   refine GH_start (Lq := [_]) (isq := [4]) (m := 7) mixedK rfl rfl ?_
   refine GH_take 1 rfl rfl rfl rfl (by kernel_rfl) (by kernel_rfl) (by kernel_rfl) (fun _ _ => (V_move rfl rfl)) ?_
   first
     | refine GH_take 3 rfl rfl rfl rfl (by kernel_rfl) (by kernel_rfl) (by kernel_rfl) (fun _ _ => (V_loadW (s := 5) rfl rfl (List.mem_append_right _ (mem_at 0 rfl)) Try.underlying58 rfl infLawScriptSends_58 rfl (by first | rfl | (simp [bcells_length, evC, evV, kC, evS, Sl.v, rqCells]; done) | (simp [bcells_length, evC, evV, kC, evS, Sl.v, rqCells]; omega) | (simp [bcells_length, *, evC, evV, kC, evS, Sl.v, rqCells]; done)))) ?_
     | refine GH_take 3 rfl rfl rfl rfl (by kernel_rfl) (by kernel_rfl) (by kernel_rfl) (fun _ _ => (V_loadA (s := 5) rfl rfl (List.mem_append_right _ (mem_at 0 rfl)) Try.underlying58 rfl infLawScriptSends_58 rfl rfl (by first | rfl | (simp [bcells_length, evC, evV, kC, evS, Sl.v, rqCells]; done) | (simp [bcells_length, evC, evV, kC, evS, Sl.v, rqCells]; omega) | (simp [bcells_length, *, evC, evV, kC, evS, Sl.v, rqCells]; done)))) ?_
   refine GH_all [0, 4] (by kernel_rfl) (by decide) ?_
   refine (And.intro ?_ (And.intro ?_ trivial))
   · skip
     refine GHop_new rfl rfl rfl rfl (N_build0 rfl Try.underlying53 infLawScriptSends_58) [5] (fun _ => ⟨_, rfl⟩) (fun b54 => ?_)
     refine GH_all [2, 4] (by kernel_rfl) (by decide) ?_
     refine (And.intro ?_ (And.intro ?_ trivial))
     · skip
       refine GHop_append (l1 := []) (s := ⟨some b54, #[], (0, 0), 0⟩) (nn := 0) (m := ms.length) (news := (ms.flatMap evC)) (bt := 64) rfl rfl rfl rfl Try.underlying53 Try.underlying53 (by first | exact .inl rfl | exact .inr ⟨_, rfl⟩) infLawScriptSends_58 rfl rfl rfl rfl rfl rfl (own_empty 5 b54) rfl (src_sees h1 (List.mem_append_left _ (List.mem_cons.2 (.inl rfl))) (evs_one ms)) (by omega) (by have hz : (5 : Nat) = 5 := rfl; omega) [5] (fun _ => ⟨_, rfl⟩) ?_
       intro ua hua _
       show GH _ _ _ _ _ _ _ [_, _, _, _, _, _, _] _
       refine GH_all [4] (by kernel_rfl) (by decide) ?_
       refine (And.intro ?_ trivial)
       · skip
         refine GHop_new rfl rfl rfl rfl (N_buildAll (s := 5) (cs := [_, _, _, _, _]) rfl Try.underlying53 infLawScriptSends_58 rfl rfl rfl rfl rfl rfl rfl rfl rfl) [6] (fun _ => ⟨_, rfl⟩) (fun b58 => ?_)
         refine GH_all [5] (by kernel_rfl) (by decide) ?_
         refine (And.intro ?_ trivial)
         · skip
           refine GHop_append (l1 := [_]) (s := ua) (nn := (0 + ms.length)) (m := 1) (news := (evC (emN zeroE))) (bt := 64) rfl rfl rfl rfl Try.underlying53 Try.underlying53 (by first | exact .inl rfl | exact .inr ⟨_, rfl⟩) infLawScriptSends_58 rfl rfl rfl rfl rfl rfl hua rfl (src_mem (List.mem_append_right _ (mem_at 0 rfl)) rfl rfl (by simp [evC, evV, evS, Value.oneCell'])) (by omega) (by omega) [6] (fun _ => ⟨_, rfl⟩) ?_
           intro um hum _
           show GH _ _ _ _ _ _ _ [_, _, _, _, _, _, _, _] _
           refine GH_take 6 rfl rfl rfl rfl (by kernel_rfl) (by kernel_rfl) (by kernel_rfl) (fun _ _ => (V_assign rfl rfl)) ?_
           refine GH_done (by kernel_rfl) ?_
           refine G_seq ?_
           have hm2 := own_sees2 hum
           first | (have := hc0; rw [len_snoc ms (emN zeroE)]) | rw [len_snoc ms (emN (sentE 0 b t))]
           refine GH_start (Lq := [_]) (isq := [5]) (m := 23) mixedK rfl rfl ?_
           refine GH_take 0 rfl rfl rfl rfl (by kernel_rfl) (by kernel_rfl) (by kernel_rfl) (fun _ _ => (V_move rfl rfl)) ?_
           refine GH_take 1 rfl rfl rfl rfl (by kernel_rfl) (by kernel_rfl) (by kernel_rfl) (fun _ _ => (V_move rfl rfl)) ?_
           refine GH_all [2] (by kernel_rfl) (by decide) ?_
           refine (And.intro ?_ trivial)
           · skip
             refine GHop_callM (L2 := [_, _, _, _, _, _, _, _]) rfl rfl rfl rfl rfl rfl Try.call31 ((sc_same o1 p1 q1 c1 T1 f1 ms h1 hok o1 p1 q1 c1 T1 f1 ms h1 hok).weaken (fun v post h => by rw [decide_eq_true rfl] at h; exact h)) [] rfl (by intro x hx; simp only [List.map_append, List.map_cons, List.map_nil, List.mem_cons, List.mem_append, List.not_mem_nil, or_false] at hx; rcases hx with h | h | h | h <;> first | exact List.mem_append_left _ (List.mem_cons.2 (.inl h)) | exact List.mem_append_left _ (List.mem_cons_of_mem _ h) | (rw [h]; exact List.mem_append_right _ (mem_at 0 rfl)) | (rw [h]; exact List.mem_append_right _ (mem_at 1 rfl)) | (rw [h]; exact List.mem_append_right _ (mem_at 2 rfl)) | (rw [h]; exact List.mem_append_right _ (mem_at 3 rfl)) | (rw [h]; exact List.mem_append_right _ (mem_at 4 rfl)) | (rw [h]; exact List.mem_append_right _ (mem_at 5 rfl)) | (rw [h]; exact List.mem_append_right _ (mem_at 6 rfl)) | (rw [h]; exact List.mem_append_right _ (mem_at 7 rfl))) [5] (by rintro v post ⟨rfl, rfl⟩; exact ⟨_, rfl⟩) ?_
             rintro v post ⟨rfl, rfl⟩
             show GH _ _ _ _ _ _ _ [_, _, _, _, _, _, _, _] _
             refine GH_take 3 rfl rfl rfl rfl (by kernel_rfl) (by kernel_rfl) (by kernel_rfl) (fun _ _ => (V_move rfl rfl)) ?_
             refine GH_take 4 rfl rfl rfl rfl (by kernel_rfl) (by kernel_rfl) (by kernel_rfl) (fun _ _ => (V_move rfl rfl)) ?_
             refine GH_take 5 rfl rfl rfl rfl (by kernel_rfl) (by kernel_rfl) (by kernel_rfl) (fun _ _ => (V_move rfl rfl)) ?_
             refine GH_all [6] (by kernel_rfl) (by decide) ?_
             refine (And.intro ?_ trivial)
             · skip
               refine GHop_callM (L2 := [_, _, _, _, _, _, _, _]) rfl rfl rfl rfl rfl rfl Try.call31 ((sc_same o1 p1 q1 c1 T1 f1 ms h1 hok um.ob 0 um.cap um.cs 58 um.fz (ms ++ [(emN zeroE)]) hm2 (oks_next hok heo)).weaken (fun v post h => by rw [decide_eq_false (evs_ne (by simp; omega))] at h; exact h)) [] rfl (by intro x hx; simp only [List.map_append, List.map_cons, List.map_nil, List.mem_cons, List.mem_append, List.not_mem_nil, or_false] at hx; rcases hx with h | h | h | h | h <;> first | exact List.mem_append_left _ (List.mem_cons.2 (.inl h)) | exact List.mem_append_left _ (List.mem_cons_of_mem _ h) | (rw [h]; exact List.mem_append_right _ (mem_at 0 rfl)) | (rw [h]; exact List.mem_append_right _ (mem_at 1 rfl)) | (rw [h]; exact List.mem_append_right _ (mem_at 2 rfl)) | (rw [h]; exact List.mem_append_right _ (mem_at 3 rfl)) | (rw [h]; exact List.mem_append_right _ (mem_at 4 rfl)) | (rw [h]; exact List.mem_append_right _ (mem_at 5 rfl)) | (rw [h]; exact List.mem_append_right _ (mem_at 6 rfl)) | (rw [h]; exact List.mem_append_right _ (mem_at 7 rfl))) [5] (by rintro v post ⟨rfl, rfl⟩; exact ⟨_, rfl⟩) ?_
               rintro v post ⟨rfl, rfl⟩
               show GH _ _ _ _ _ _ _ [_, _, _, _, _, _, _, _] _
               refine GH_take 7 rfl rfl rfl rfl (by kernel_rfl) (by kernel_rfl) (by kernel_rfl) (fun _ _ => (V_not rfl rfl)) ?_
               refine GH_take 8 rfl rfl rfl rfl (by kernel_rfl) (by kernel_rfl) (by kernel_rfl) (fun _ _ => (V_pickT rfl rfl rfl)) ?_
               refine GH_take 9 rfl rfl rfl rfl (by kernel_rfl) (by kernel_rfl) (by kernel_rfl) (fun _ _ => (V_move rfl rfl)) ?_
               refine GH_take 10 rfl rfl rfl rfl (by kernel_rfl) (by kernel_rfl) (by kernel_rfl) (fun _ _ => (V_move rfl rfl)) ?_
               refine GH_take 12 rfl rfl rfl rfl (by kernel_rfl) (by kernel_rfl) (by kernel_rfl) (fun _ _ => (V_move rfl rfl)) ?_
               first
                 | refine GH_take 14 rfl rfl rfl rfl (by kernel_rfl) (by kernel_rfl) (by kernel_rfl) (fun _ _ => (V_loadW (s := 5) rfl rfl (List.mem_append_right _ (mem_at 0 rfl)) Try.underlying58 rfl infLawScriptSends_58 rfl (by first | rfl | (simp [bcells_length, evC, evV, kC, evS, Sl.v, rqCells]; done) | (simp [bcells_length, evC, evV, kC, evS, Sl.v, rqCells]; omega) | (simp [bcells_length, *, evC, evV, kC, evS, Sl.v, rqCells]; done)))) ?_
                 | refine GH_take 14 rfl rfl rfl rfl (by kernel_rfl) (by kernel_rfl) (by kernel_rfl) (fun _ _ => (V_loadA (s := 5) rfl rfl (List.mem_append_right _ (mem_at 0 rfl)) Try.underlying58 rfl infLawScriptSends_58 rfl rfl (by first | rfl | (simp [bcells_length, evC, evV, kC, evS, Sl.v, rqCells]; done) | (simp [bcells_length, evC, evV, kC, evS, Sl.v, rqCells]; omega) | (simp [bcells_length, *, evC, evV, kC, evS, Sl.v, rqCells]; done)))) ?_
               refine GH_all [11, 15] (by kernel_rfl) (by decide) ?_
               refine (And.intro ?_ (And.intro ?_ trivial))
               · skip
                 refine GHop_new rfl rfl rfl rfl (N_build0 rfl Try.underlying53 infLawScriptSends_58) [6] (fun _ => ⟨_, rfl⟩) (fun b71 => ?_)
                 refine GH_all [13, 15] (by kernel_rfl) (by decide) ?_
                 refine (And.intro ?_ (And.intro ?_ trivial))
                 · skip
                   refine GHop_append (l1 := []) (s := ⟨some b71, #[], (0, 0), 0⟩) (nn := 0) (m := ms.length) (news := (ms.flatMap evC)) (bt := 64) rfl rfl rfl rfl Try.underlying53 Try.underlying53 (by first | exact .inl rfl | exact .inr ⟨_, rfl⟩) infLawScriptSends_58 rfl rfl rfl rfl rfl rfl (own_empty 5 b71) rfl (src_sees h1 (List.mem_append_left _ (List.mem_cons.2 (.inl rfl))) (evs_one ms)) (by omega) (by have hz : (5 : Nat) = 5 := rfl; omega) [6] (fun _ => ⟨_, rfl⟩) ?_
                   intro ub hub _
                   show GH _ _ _ _ _ _ _ [_, _, _, _, _, _, _, _, _] _
                   refine GH_all [15] (by kernel_rfl) (by decide) ?_
                   refine (And.intro ?_ trivial)
                   · skip
                     refine GHop_new rfl rfl rfl rfl (N_buildAll (s := 5) (cs := [_, _, _, _, _]) rfl Try.underlying53 infLawScriptSends_58 rfl rfl rfl rfl rfl rfl rfl rfl rfl) [7] (fun _ => ⟨_, rfl⟩) (fun b75 => ?_)
                     refine GH_all [16] (by kernel_rfl) (by decide) ?_
                     refine (And.intro ?_ trivial)
                     · skip
                       refine GHop_append (l1 := [_]) (s := ub) (nn := (0 + ms.length)) (m := 1) (news := (evC (emN zeroE))) (bt := 64) rfl rfl rfl rfl Try.underlying53 Try.underlying53 (by first | exact .inl rfl | exact .inr ⟨_, rfl⟩) infLawScriptSends_58 rfl rfl rfl rfl rfl rfl hub rfl (src_mem (List.mem_append_right _ (mem_at 0 rfl)) rfl rfl (by simp [evC, evV, evS, Value.oneCell'])) (by omega) (by omega) [7] (fun _ => ⟨_, rfl⟩) ?_
                       intro uw huw _
                       show GH _ _ _ _ _ _ _ [_, _, _, _, _, _, _, _, _, _] _
                       first | (have := hc0; rw [len_snoc ms (emN zeroE)]) | rw [len_snoc ms (emN (sentE 0 b t))]
                       refine GH_all [17] (by kernel_rfl) (by decide) ?_
                       refine (And.intro ?_ trivial)
                       · skip
                         refine GHop_callM (L2 := [_, _, _, _, _, _, _, _, _, _]) rfl rfl rfl rfl rfl rfl Try.call31 ((sc_same um.ob 0 um.cap um.cs 58 um.fz (ms ++ [(emN zeroE)]) hm2 (oks_next hok heo) uw.ob 0 uw.cap uw.cs 58 uw.fz (ms ++ [(emN zeroE)]) (own_sees2 huw) (oks_next hok heo)).weaken (fun v post h => by rw [decide_eq_true rfl] at h; exact h)) [] rfl (by intro x hx; simp only [List.map_append, List.map_cons, List.map_nil, List.mem_cons, List.mem_append, List.not_mem_nil, or_false] at hx; rcases hx with h | h | (h | h) | h | h <;> first | exact List.mem_append_left _ (List.mem_cons.2 (.inl h)) | exact List.mem_append_left _ (List.mem_cons_of_mem _ h) | (rw [h]; exact List.mem_append_right _ (mem_at 0 rfl)) | (rw [h]; exact List.mem_append_right _ (mem_at 1 rfl)) | (rw [h]; exact List.mem_append_right _ (mem_at 2 rfl)) | (rw [h]; exact List.mem_append_right _ (mem_at 3 rfl)) | (rw [h]; exact List.mem_append_right _ (mem_at 4 rfl)) | (rw [h]; exact List.mem_append_right _ (mem_at 5 rfl)) | (rw [h]; exact List.mem_append_right _ (mem_at 6 rfl)) | (rw [h]; exact List.mem_append_right _ (mem_at 7 rfl)) | (rw [h]; exact List.mem_append_right _ (mem_at 8 rfl)) | (rw [h]; exact List.mem_append_right _ (mem_at 9 rfl))) [7] (by rintro v post ⟨rfl, rfl⟩; exact ⟨_, rfl⟩) ?_
                         rintro v post ⟨rfl, rfl⟩
                         show GH _ _ _ _ _ _ _ [_, _, _, _, _, _, _, _, _, _] _
                         refine GH_take 18 rfl rfl rfl rfl (by kernel_rfl) (by kernel_rfl) (by kernel_rfl) (fun _ _ => (V_pickT rfl rfl rfl)) ?_
                         refine GH_take 19 rfl rfl rfl rfl (by kernel_rfl) (by kernel_rfl) (by kernel_rfl) (fun _ _ => (V_move rfl rfl)) ?_
                         refine GH_all [20] (by kernel_rfl) (by decide) ?_
                         refine (And.intro ?_ trivial)
                         · skip
                           refine GHop_callM (L2 := [_, _, _, _, _, _, _, _, _, _]) rfl rfl rfl rfl rfl rfl Try.call20 (rl_live) [] rfl subA_nil [7] (by rintro v post ⟨rfl, rfl⟩; exact ⟨_, rfl⟩) ?_
                           rintro v post ⟨rfl, rfl⟩
                           show GH _ _ _ _ _ _ _ [_, _, _, _, _, _, _, _, _, _] _
                           refine GH_take 21 rfl rfl rfl rfl (by kernel_rfl) (by kernel_rfl) (by kernel_rfl) (fun _ _ => (V_pickT rfl rfl rfl)) ?_
                           refine GH_take 22 rfl rfl rfl rfl (by kernel_rfl) (by kernel_rfl) (by kernel_rfl) (fun _ _ => (V_assign rfl rfl)) ?_
                           refine GH_done (by kernel_rfl) ?_
                           refine G_ret (post := []) Try.func7 rfl (RVs_cons (RV_tmp rfl) RVs_nil) [] rfl ?_
                           dsimp only [packed]
                           exact ⟨rfl, rfl⟩
                 · skip
                   refine GHop_new rfl rfl rfl rfl (N_buildAll (s := 5) (cs := [_, _, _, _, _]) rfl Try.underlying53 infLawScriptSends_58 rfl rfl rfl rfl rfl rfl rfl rfl rfl) [7] (fun _ => ⟨_, rfl⟩) (fun b75 => ?_)
                   refine GH_all [13] (by kernel_rfl) (by decide) ?_
                   refine (And.intro ?_ trivial)
                   · skip
                     refine GHop_append (l1 := [_]) (s := ⟨some b71, #[], (0, 0), 0⟩) (nn := 0) (m := ms.length) (news := (ms.flatMap evC)) (bt := 64) rfl rfl rfl rfl Try.underlying53 Try.underlying53 (by first | exact .inl rfl | exact .inr ⟨_, rfl⟩) infLawScriptSends_58 rfl rfl rfl rfl rfl rfl (own_empty 5 b71) rfl (src_sees h1 (List.mem_append_left _ (List.mem_cons.2 (.inl rfl))) (evs_one ms)) (by omega) (by have hz : (5 : Nat) = 5 := rfl; omega) [7] (fun _ => ⟨_, rfl⟩) ?_
                     intro ub hub _
                     show GH _ _ _ _ _ _ _ [_, _, _, _, _, _, _, _, _, _] _
                     refine GH_all [16] (by kernel_rfl) (by decide) ?_
                     refine (And.intro ?_ trivial)
                     · skip
                       refine GHop_append (l1 := [_]) (s := ub) (nn := (0 + ms.length)) (m := 1) (news := (evC (emN zeroE))) (bt := 64) rfl rfl rfl rfl Try.underlying53 Try.underlying53 (by first | exact .inl rfl | exact .inr ⟨_, rfl⟩) infLawScriptSends_58 rfl rfl rfl rfl rfl rfl hub rfl (src_mem (List.mem_append_right _ (mem_at 0 rfl)) rfl rfl (by simp [evC, evV, evS, Value.oneCell'])) (by omega) (by omega) [7] (fun _ => ⟨_, rfl⟩) ?_
                       intro uw huw _
                       show GH _ _ _ _ _ _ _ [_, _, _, _, _, _, _, _, _, _] _
                       first | (have := hc0; rw [len_snoc ms (emN zeroE)]) | rw [len_snoc ms (emN (sentE 0 b t))]
                       refine GH_all [17] (by kernel_rfl) (by decide) ?_
                       refine (And.intro ?_ trivial)
                       · skip
                         refine GHop_callM (L2 := [_, _, _, _, _, _, _, _, _, _]) rfl rfl rfl rfl rfl rfl Try.call31 ((sc_same um.ob 0 um.cap um.cs 58 um.fz (ms ++ [(emN zeroE)]) hm2 (oks_next hok heo) uw.ob 0 uw.cap uw.cs 58 uw.fz (ms ++ [(emN zeroE)]) (own_sees2 huw) (oks_next hok heo)).weaken (fun v post h => by rw [decide_eq_true rfl] at h; exact h)) [] rfl (by intro x hx; simp only [List.map_append, List.map_cons, List.map_nil, List.mem_cons, List.mem_append, List.not_mem_nil, or_false] at hx; rcases hx with h | h | (h | h) | h | h <;> first | exact List.mem_append_left _ (List.mem_cons.2 (.inl h)) | exact List.mem_append_left _ (List.mem_cons_of_mem _ h) | (rw [h]; exact List.mem_append_right _ (mem_at 0 rfl)) | (rw [h]; exact List.mem_append_right _ (mem_at 1 rfl)) | (rw [h]; exact List.mem_append_right _ (mem_at 2 rfl)) | (rw [h]; exact List.mem_append_right _ (mem_at 3 rfl)) | (rw [h]; exact List.mem_append_right _ (mem_at 4 rfl)) | (rw [h]; exact List.mem_append_right _ (mem_at 5 rfl)) | (rw [h]; exact List.mem_append_right _ (mem_at 6 rfl)) | (rw [h]; exact List.mem_append_right _ (mem_at 7 rfl)) | (rw [h]; exact List.mem_append_right _ (mem_at 8 rfl)) | (rw [h]; exact List.mem_append_right _ (mem_at 9 rfl))) [7] (by rintro v post ⟨rfl, rfl⟩; exact ⟨_, rfl⟩) ?_
                         rintro v post ⟨rfl, rfl⟩
                         show GH _ _ _ _ _ _ _ [_, _, _, _, _, _, _, _, _, _] _
                         refine GH_take 18 rfl rfl rfl rfl (by kernel_rfl) (by kernel_rfl) (by kernel_rfl) (fun _ _ => (V_pickT rfl rfl rfl)) ?_
                         refine GH_take 19 rfl rfl rfl rfl (by kernel_rfl) (by kernel_rfl) (by kernel_rfl) (fun _ _ => (V_move rfl rfl)) ?_
                         refine GH_all [20] (by kernel_rfl) (by decide) ?_
                         refine (And.intro ?_ trivial)
                         · skip
                           refine GHop_callM (L2 := [_, _, _, _, _, _, _, _, _, _]) rfl rfl rfl rfl rfl rfl Try.call20 (rl_live) [] rfl subA_nil [7] (by rintro v post ⟨rfl, rfl⟩; exact ⟨_, rfl⟩) ?_
                           rintro v post ⟨rfl, rfl⟩
                           show GH _ _ _ _ _ _ _ [_, _, _, _, _, _, _, _, _, _] _
                           refine GH_take 21 rfl rfl rfl rfl (by kernel_rfl) (by kernel_rfl) (by kernel_rfl) (fun _ _ => (V_pickT rfl rfl rfl)) ?_
                           refine GH_take 22 rfl rfl rfl rfl (by kernel_rfl) (by kernel_rfl) (by kernel_rfl) (fun _ _ => (V_assign rfl rfl)) ?_
                           refine GH_done (by kernel_rfl) ?_
                           refine G_ret (post := []) Try.func7 rfl (RVs_cons (RV_tmp rfl) RVs_nil) [] rfl ?_
                           dsimp only [packed]
                           exact ⟨rfl, rfl⟩
               · skip
                 refine GHop_new rfl rfl rfl rfl (N_buildAll (s := 5) (cs := [_, _, _, _, _]) rfl Try.underlying53 infLawScriptSends_58 rfl rfl rfl rfl rfl rfl rfl rfl rfl) [6] (fun _ => ⟨_, rfl⟩) (fun b75 => ?_)
                 refine GH_all [11] (by kernel_rfl) (by decide) ?_
                 refine (And.intro ?_ trivial)
                 · skip
                   refine GHop_new rfl rfl rfl rfl (N_build0 rfl Try.underlying53 infLawScriptSends_58) [7] (fun _ => ⟨_, rfl⟩) (fun b71 => ?_)
                   refine GH_all [13] (by kernel_rfl) (by decide) ?_
                   refine (And.intro ?_ trivial)
                   · skip
                     refine GHop_append (l1 := []) (s := ⟨some b71, #[], (0, 0), 0⟩) (nn := 0) (m := ms.length) (news := (ms.flatMap evC)) (bt := 64) rfl rfl rfl rfl Try.underlying53 Try.underlying53 (by first | exact .inl rfl | exact .inr ⟨_, rfl⟩) infLawScriptSends_58 rfl rfl rfl rfl rfl rfl (own_empty 5 b71) rfl (src_sees h1 (List.mem_append_left _ (List.mem_cons.2 (.inl rfl))) (evs_one ms)) (by omega) (by have hz : (5 : Nat) = 5 := rfl; omega) [7] (fun _ => ⟨_, rfl⟩) ?_
                     intro ub hub _
                     show GH _ _ _ _ _ _ _ [_, _, _, _, _, _, _, _, _, _] _
                     refine GH_all [16] (by kernel_rfl) (by decide) ?_
                     refine (And.intro ?_ trivial)
                     · skip
                       refine GHop_append (l1 := []) (s := ub) (nn := (0 + ms.length)) (m := 1) (news := (evC (emN zeroE))) (bt := 64) rfl rfl rfl rfl Try.underlying53 Try.underlying53 (by first | exact .inl rfl | exact .inr ⟨_, rfl⟩) infLawScriptSends_58 rfl rfl rfl rfl rfl rfl hub rfl (src_mem (List.mem_append_right _ (mem_at 1 rfl)) rfl rfl (by simp [evC, evV, evS, Value.oneCell'])) (by omega) (by omega) [7] (fun _ => ⟨_, rfl⟩) ?_
                       intro uw huw _
                       show GH _ _ _ _ _ _ _ [_, _, _, _, _, _, _, _, _, _] _
                       first | (have := hc0; rw [len_snoc ms (emN zeroE)]) | rw [len_snoc ms (emN (sentE 0 b t))]
                       refine GH_all [17] (by kernel_rfl) (by decide) ?_
                       refine (And.intro ?_ trivial)
                       · skip
                         refine GHop_callM (L2 := [_, _, _, _, _, _, _, _, _, _]) rfl rfl rfl rfl rfl rfl Try.call31 ((sc_same um.ob 0 um.cap um.cs 58 um.fz (ms ++ [(emN zeroE)]) hm2 (oks_next hok heo) uw.ob 0 uw.cap uw.cs 58 uw.fz (ms ++ [(emN zeroE)]) (own_sees2 huw) (oks_next hok heo)).weaken (fun v post h => by rw [decide_eq_true rfl] at h; exact h)) [] rfl (by intro x hx; simp only [List.map_append, List.map_cons, List.map_nil, List.mem_cons, List.mem_append, List.not_mem_nil, or_false] at hx; rcases hx with h | h | (h | h) | h | h <;> first | exact List.mem_append_left _ (List.mem_cons.2 (.inl h)) | exact List.mem_append_left _ (List.mem_cons_of_mem _ h) | (rw [h]; exact List.mem_append_right _ (mem_at 0 rfl)) | (rw [h]; exact List.mem_append_right _ (mem_at 1 rfl)) | (rw [h]; exact List.mem_append_right _ (mem_at 2 rfl)) | (rw [h]; exact List.mem_append_right _ (mem_at 3 rfl)) | (rw [h]; exact List.mem_append_right _ (mem_at 4 rfl)) | (rw [h]; exact List.mem_append_right _ (mem_at 5 rfl)) | (rw [h]; exact List.mem_append_right _ (mem_at 6 rfl)) | (rw [h]; exact List.mem_append_right _ (mem_at 7 rfl)) | (rw [h]; exact List.mem_append_right _ (mem_at 8 rfl)) | (rw [h]; exact List.mem_append_right _ (mem_at 9 rfl))) [7] (by rintro v post ⟨rfl, rfl⟩; exact ⟨_, rfl⟩) ?_
                         rintro v post ⟨rfl, rfl⟩
                         show GH _ _ _ _ _ _ _ [_, _, _, _, _, _, _, _, _, _] _
                         refine GH_take 18 rfl rfl rfl rfl (by kernel_rfl) (by kernel_rfl) (by kernel_rfl) (fun _ _ => (V_pickT rfl rfl rfl)) ?_
                         refine GH_take 19 rfl rfl rfl rfl (by kernel_rfl) (by kernel_rfl) (by kernel_rfl) (fun _ _ => (V_move rfl rfl)) ?_
                         refine GH_all [20] (by kernel_rfl) (by decide) ?_
                         refine (And.intro ?_ trivial)
                         · skip
                           refine GHop_callM (L2 := [_, _, _, _, _, _, _, _, _, _]) rfl rfl rfl rfl rfl rfl Try.call20 (rl_live) [] rfl subA_nil [7] (by rintro v post ⟨rfl, rfl⟩; exact ⟨_, rfl⟩) ?_
                           rintro v post ⟨rfl, rfl⟩
                           show GH _ _ _ _ _ _ _ [_, _, _, _, _, _, _, _, _, _] _
                           refine GH_take 21 rfl rfl rfl rfl (by kernel_rfl) (by kernel_rfl) (by kernel_rfl) (fun _ _ => (V_pickT rfl rfl rfl)) ?_
                           refine GH_take 22 rfl rfl rfl rfl (by kernel_rfl) (by kernel_rfl) (by kernel_rfl) (fun _ _ => (V_assign rfl rfl)) ?_
                           refine GH_done (by kernel_rfl) ?_
                           refine G_ret (post := []) Try.func7 rfl (RVs_cons (RV_tmp rfl) RVs_nil) [] rfl ?_
                           dsimp only [packed]
                           exact ⟨rfl, rfl⟩
     · skip
       refine GHop_new rfl rfl rfl rfl (N_buildAll (s := 5) (cs := [_, _, _, _, _]) rfl Try.underlying53 infLawScriptSends_58 rfl rfl rfl rfl rfl rfl rfl rfl rfl) [6] (fun _ => ⟨_, rfl⟩) (fun b58 => ?_)
       refine GH_all [2] (by kernel_rfl) (by decide) ?_
       refine (And.intro ?_ trivial)
       · skip
         refine GHop_append (l1 := [_]) (s := ⟨some b54, #[], (0, 0), 0⟩) (nn := 0) (m := ms.length) (news := (ms.flatMap evC)) (bt := 64) rfl rfl rfl rfl Try.underlying53 Try.underlying53 (by first | exact .inl rfl | exact .inr ⟨_, rfl⟩) infLawScriptSends_58 rfl rfl rfl rfl rfl rfl (own_empty 5 b54) rfl (src_sees h1 (List.mem_append_left _ (List.mem_cons.2 (.inl rfl))) (evs_one ms)) (by omega) (by have hz : (5 : Nat) = 5 := rfl; omega) [6] (fun _ => ⟨_, rfl⟩) ?_
         intro ua hua _
         show GH _ _ _ _ _ _ _ [_, _, _, _, _, _, _, _] _
         refine GH_all [5] (by kernel_rfl) (by decide) ?_
         refine (And.intro ?_ trivial)
         · skip
           refine GHop_append (l1 := [_]) (s := ua) (nn := (0 + ms.length)) (m := 1) (news := (evC (emN zeroE))) (bt := 64) rfl rfl rfl rfl Try.underlying53 Try.underlying53 (by first | exact .inl rfl | exact .inr ⟨_, rfl⟩) infLawScriptSends_58 rfl rfl rfl rfl rfl rfl hua rfl (src_mem (List.mem_append_right _ (mem_at 0 rfl)) rfl rfl (by simp [evC, evV, evS, Value.oneCell'])) (by omega) (by omega) [6] (fun _ => ⟨_, rfl⟩) ?_
           intro um hum _
           show GH _ _ _ _ _ _ _ [_, _, _, _, _, _, _, _] _
           refine GH_take 6 rfl rfl rfl rfl (by kernel_rfl) (by kernel_rfl) (by kernel_rfl) (fun _ _ => (V_assign rfl rfl)) ?_
           refine GH_done (by kernel_rfl) ?_
           refine G_seq ?_
           have hm2 := own_sees2 hum
           first | (have := hc0; rw [len_snoc ms (emN zeroE)]) | rw [len_snoc ms (emN (sentE 0 b t))]
           refine GH_start (Lq := [_]) (isq := [5]) (m := 23) mixedK rfl rfl ?_
           refine GH_take 0 rfl rfl rfl rfl (by kernel_rfl) (by kernel_rfl) (by kernel_rfl) (fun _ _ => (V_move rfl rfl)) ?_
           refine GH_take 1 rfl rfl rfl rfl (by kernel_rfl) (by kernel_rfl) (by kernel_rfl) (fun _ _ => (V_move rfl rfl)) ?_
           refine GH_all [2] (by kernel_rfl) (by decide) ?_
           refine (And.intro ?_ trivial)
           · skip
             refine GHop_callM (L2 := [_, _, _, _, _, _, _, _]) rfl rfl rfl rfl rfl rfl Try.call31 ((sc_same o1 p1 q1 c1 T1 f1 ms h1 hok o1 p1 q1 c1 T1 f1 ms h1 hok).weaken (fun v post h => by rw [decide_eq_true rfl] at h; exact h)) [] rfl (by intro x hx; simp only [List.map_append, List.map_cons, List.map_nil, List.mem_cons, List.mem_append, List.not_mem_nil, or_false] at hx; rcases hx with h | h | h | h <;> first | exact List.mem_append_left _ (List.mem_cons.2 (.inl h)) | exact List.mem_append_left _ (List.mem_cons_of_mem _ h) | (rw [h]; exact List.mem_append_right _ (mem_at 0 rfl)) | (rw [h]; exact List.mem_append_right _ (mem_at 1 rfl)) | (rw [h]; exact List.mem_append_right _ (mem_at 2 rfl)) | (rw [h]; exact List.mem_append_right _ (mem_at 3 rfl)) | (rw [h]; exact List.mem_append_right _ (mem_at 4 rfl)) | (rw [h]; exact List.mem_append_right _ (mem_at 5 rfl)) | (rw [h]; exact List.mem_append_right _ (mem_at 6 rfl)) | (rw [h]; exact List.mem_append_right _ (mem_at 7 rfl))) [5] (by rintro v post ⟨rfl, rfl⟩; exact ⟨_, rfl⟩) ?_
             rintro v post ⟨rfl, rfl⟩
             show GH _ _ _ _ _ _ _ [_, _, _, _, _, _, _, _] _
             refine GH_take 3 rfl rfl rfl rfl (by kernel_rfl) (by kernel_rfl) (by kernel_rfl) (fun _ _ => (V_move rfl rfl)) ?_
             refine GH_take 4 rfl rfl rfl rfl (by kernel_rfl) (by kernel_rfl) (by kernel_rfl) (fun _ _ => (V_move rfl rfl)) ?_
             refine GH_take 5 rfl rfl rfl rfl (by kernel_rfl) (by kernel_rfl) (by kernel_rfl) (fun _ _ => (V_move rfl rfl)) ?_
             refine GH_all [6] (by kernel_rfl) (by decide) ?_
             refine (And.intro ?_ trivial)
             · skip
               refine GHop_callM (L2 := [_, _, _, _, _, _, _, _]) rfl rfl rfl rfl rfl rfl Try.call31 ((sc_same o1 p1 q1 c1 T1 f1 ms h1 hok um.ob 0 um.cap um.cs 58 um.fz (ms ++ [(emN zeroE)]) hm2 (oks_next hok heo)).weaken (fun v post h => by rw [decide_eq_false (evs_ne (by simp; omega))] at h; exact h)) [] rfl (by intro x hx; simp only [List.map_append, List.map_cons, List.map_nil, List.mem_cons, List.mem_append, List.not_mem_nil, or_false] at hx; rcases hx with h | h | h | h | h <;> first | exact List.mem_append_left _ (List.mem_cons.2 (.inl h)) | exact List.mem_append_left _ (List.mem_cons_of_mem _ h) | (rw [h]; exact List.mem_append_right _ (mem_at 0 rfl)) | (rw [h]; exact List.mem_append_right _ (mem_at 1 rfl)) | (rw [h]; exact List.mem_append_right _ (mem_at 2 rfl)) | (rw [h]; exact List.mem_append_right _ (mem_at 3 rfl)) | (rw [h]; exact List.mem_append_right _ (mem_at 4 rfl)) | (rw [h]; exact List.mem_append_right _ (mem_at 5 rfl)) | (rw [h]; exact List.mem_append_right _ (mem_at 6 rfl)) | (rw [h]; exact List.mem_append_right _ (mem_at 7 rfl))) [5] (by rintro v post ⟨rfl, rfl⟩; exact ⟨_, rfl⟩) ?_
               rintro v post ⟨rfl, rfl⟩
               show GH _ _ _ _ _ _ _ [_, _, _, _, _, _, _, _] _
               refine GH_take 7 rfl rfl rfl rfl (by kernel_rfl) (by kernel_rfl) (by kernel_rfl) (fun _ _ => (V_not rfl rfl)) ?_
               refine GH_take 8 rfl rfl rfl rfl (by kernel_rfl) (by kernel_rfl) (by kernel_rfl) (fun _ _ => (V_pickT rfl rfl rfl)) ?_
               refine GH_take 9 rfl rfl rfl rfl (by kernel_rfl) (by kernel_rfl) (by kernel_rfl) (fun _ _ => (V_move rfl rfl)) ?_
               refine GH_take 10 rfl rfl rfl rfl (by kernel_rfl) (by kernel_rfl) (by kernel_rfl) (fun _ _ => (V_move rfl rfl)) ?_
               refine GH_take 12 rfl rfl rfl rfl (by kernel_rfl) (by kernel_rfl) (by kernel_rfl) (fun _ _ => (V_move rfl rfl)) ?_
               first
                 | refine GH_take 14 rfl rfl rfl rfl (by kernel_rfl) (by kernel_rfl) (by kernel_rfl) (fun _ _ => (V_loadW (s := 5) rfl rfl (List.mem_append_right _ (mem_at 0 rfl)) Try.underlying58 rfl infLawScriptSends_58 rfl (by first | rfl | (simp [bcells_length, evC, evV, kC, evS, Sl.v, rqCells]; done) | (simp [bcells_length, evC, evV, kC, evS, Sl.v, rqCells]; omega) | (simp [bcells_length, *, evC, evV, kC, evS, Sl.v, rqCells]; done)))) ?_
                 | refine GH_take 14 rfl rfl rfl rfl (by kernel_rfl) (by kernel_rfl) (by kernel_rfl) (fun _ _ => (V_loadA (s := 5) rfl rfl (List.mem_append_right _ (mem_at 0 rfl)) Try.underlying58 rfl infLawScriptSends_58 rfl rfl (by first | rfl | (simp [bcells_length, evC, evV, kC, evS, Sl.v, rqCells]; done) | (simp [bcells_length, evC, evV, kC, evS, Sl.v, rqCells]; omega) | (simp [bcells_length, *, evC, evV, kC, evS, Sl.v, rqCells]; done)))) ?_
               refine GH_all [11, 15] (by kernel_rfl) (by decide) ?_
               refine (And.intro ?_ (And.intro ?_ trivial))
               · skip
                 refine GHop_new rfl rfl rfl rfl (N_build0 rfl Try.underlying53 infLawScriptSends_58) [6] (fun _ => ⟨_, rfl⟩) (fun b71 => ?_)
                 refine GH_all [13, 15] (by kernel_rfl) (by decide) ?_
                 refine (And.intro ?_ (And.intro ?_ trivial))
                 · skip
                   refine GHop_append (l1 := []) (s := ⟨some b71, #[], (0, 0), 0⟩) (nn := 0) (m := ms.length) (news := (ms.flatMap evC)) (bt := 64) rfl rfl rfl rfl Try.underlying53 Try.underlying53 (by first | exact .inl rfl | exact .inr ⟨_, rfl⟩) infLawScriptSends_58 rfl rfl rfl rfl rfl rfl (own_empty 5 b71) rfl (src_sees h1 (List.mem_append_left _ (List.mem_cons.2 (.inl rfl))) (evs_one ms)) (by omega) (by have hz : (5 : Nat) = 5 := rfl; omega) [6] (fun _ => ⟨_, rfl⟩) ?_
                   intro ub hub _
                   show GH _ _ _ _ _ _ _ [_, _, _, _, _, _, _, _, _] _
                   refine GH_all [15] (by kernel_rfl) (by decide) ?_
                   refine (And.intro ?_ trivial)
                   · skip
                     refine GHop_new rfl rfl rfl rfl (N_buildAll (s := 5) (cs := [_, _, _, _, _]) rfl Try.underlying53 infLawScriptSends_58 rfl rfl rfl rfl rfl rfl rfl rfl rfl) [7] (fun _ => ⟨_, rfl⟩) (fun b75 => ?_)
                     refine GH_all [16] (by kernel_rfl) (by decide) ?_
                     refine (And.intro ?_ trivial)
                     · skip
                       refine GHop_append (l1 := [_]) (s := ub) (nn := (0 + ms.length)) (m := 1) (news := (evC (emN zeroE))) (bt := 64) rfl rfl rfl rfl Try.underlying53 Try.underlying53 (by first | exact .inl rfl | exact .inr ⟨_, rfl⟩) infLawScriptSends_58 rfl rfl rfl rfl rfl rfl hub rfl (src_mem (List.mem_append_right _ (mem_at 0 rfl)) rfl rfl (by simp [evC, evV, evS, Value.oneCell'])) (by omega) (by omega) [7] (fun _ => ⟨_, rfl⟩) ?_
                       intro uw huw _
                       show GH _ _ _ _ _ _ _ [_, _, _, _, _, _, _, _, _, _] _
                       first | (have := hc0; rw [len_snoc ms (emN zeroE)]) | rw [len_snoc ms (emN (sentE 0 b t))]
                       refine GH_all [17] (by kernel_rfl) (by decide) ?_
                       refine (And.intro ?_ trivial)
                       · skip
                         refine GHop_callM (L2 := [_, _, _, _, _, _, _, _, _, _]) rfl rfl rfl rfl rfl rfl Try.call31 ((sc_same um.ob 0 um.cap um.cs 58 um.fz (ms ++ [(emN zeroE)]) hm2 (oks_next hok heo) uw.ob 0 uw.cap uw.cs 58 uw.fz (ms ++ [(emN zeroE)]) (own_sees2 huw) (oks_next hok heo)).weaken (fun v post h => by rw [decide_eq_true rfl] at h; exact h)) [] rfl (by intro x hx; simp only [List.map_append, List.map_cons, List.map_nil, List.mem_cons, List.mem_append, List.not_mem_nil, or_false] at hx; rcases hx with h | h | (h | h) | h | h <;> first | exact List.mem_append_left _ (List.mem_cons.2 (.inl h)) | exact List.mem_append_left _ (List.mem_cons_of_mem _ h) | (rw [h]; exact List.mem_append_right _ (mem_at 0 rfl)) | (rw [h]; exact List.mem_append_right _ (mem_at 1 rfl)) | (rw [h]; exact List.mem_append_right _ (mem_at 2 rfl)) | (rw [h]; exact List.mem_append_right _ (mem_at 3 rfl)) | (rw [h]; exact List.mem_append_right _ (mem_at 4 rfl)) | (rw [h]; exact List.mem_append_right _ (mem_at 5 rfl)) | (rw [h]; exact List.mem_append_right _ (mem_at 6 rfl)) | (rw [h]; exact List.mem_append_right _ (mem_at 7 rfl)) | (rw [h]; exact List.mem_append_right _ (mem_at 8 rfl)) | (rw [h]; exact List.mem_append_right _ (mem_at 9 rfl))) [7] (by rintro v post ⟨rfl, rfl⟩; exact ⟨_, rfl⟩) ?_
                         rintro v post ⟨rfl, rfl⟩
                         show GH _ _ _ _ _ _ _ [_, _, _, _, _, _, _, _, _, _] _
                         refine GH_take 18 rfl rfl rfl rfl (by kernel_rfl) (by kernel_rfl) (by kernel_rfl) (fun _ _ => (V_pickT rfl rfl rfl)) ?_
                         refine GH_take 19 rfl rfl rfl rfl (by kernel_rfl) (by kernel_rfl) (by kernel_rfl) (fun _ _ => (V_move rfl rfl)) ?_
                         refine GH_all [20] (by kernel_rfl) (by decide) ?_
                         refine (And.intro ?_ trivial)
                         · skip
                           refine GHop_callM (L2 := [_, _, _, _, _, _, _, _, _, _]) rfl rfl rfl rfl rfl rfl Try.call20 (rl_live) [] rfl subA_nil [7] (by rintro v post ⟨rfl, rfl⟩; exact ⟨_, rfl⟩) ?_
                           rintro v post ⟨rfl, rfl⟩
                           show GH _ _ _ _ _ _ _ [_, _, _, _, _, _, _, _, _, _] _
                           refine GH_take 21 rfl rfl rfl rfl (by kernel_rfl) (by kernel_rfl) (by kernel_rfl) (fun _ _ => (V_pickT rfl rfl rfl)) ?_
                           refine GH_take 22 rfl rfl rfl rfl (by kernel_rfl) (by kernel_rfl) (by kernel_rfl) (fun _ _ => (V_assign rfl rfl)) ?_
                           refine GH_done (by kernel_rfl) ?_
                           refine G_ret (post := []) Try.func7 rfl (RVs_cons (RV_tmp rfl) RVs_nil) [] rfl ?_
                           dsimp only [packed]
                           exact ⟨rfl, rfl⟩
                 · skip
                   refine GHop_new rfl rfl rfl rfl (N_buildAll (s := 5) (cs := [_, _, _, _, _]) rfl Try.underlying53 infLawScriptSends_58 rfl rfl rfl rfl rfl rfl rfl rfl rfl) [7] (fun _ => ⟨_, rfl⟩) (fun b75 => ?_)
                   refine GH_all [13] (by kernel_rfl) (by decide) ?_
                   refine (And.intro ?_ trivial)
                   · skip
                     refine GHop_append (l1 := [_]) (s := ⟨some b71, #[], (0, 0), 0⟩) (nn := 0) (m := ms.length) (news := (ms.flatMap evC)) (bt := 64) rfl rfl rfl rfl Try.underlying53 Try.underlying53 (by first | exact .inl rfl | exact .inr ⟨_, rfl⟩) infLawScriptSends_58 rfl rfl rfl rfl rfl rfl (own_empty 5 b71) rfl (src_sees h1 (List.mem_append_left _ (List.mem_cons.2 (.inl rfl))) (evs_one ms)) (by omega) (by have hz : (5 : Nat) = 5 := rfl; omega) [7] (fun _ => ⟨_, rfl⟩) ?_
                     intro ub hub _
                     show GH _ _ _ _ _ _ _ [_, _, _, _, _, _, _, _, _, _] _
                     refine GH_all [16] (by kernel_rfl) (by decide) ?_
                     refine (And.intro ?_ trivial)
                     · skip
                       refine GHop_append (l1 := [_]) (s := ub) (nn := (0 + ms.length)) (m := 1) (news := (evC (emN zeroE))) (bt := 64) rfl rfl rfl rfl Try.underlying53 Try.underlying53 (by first | exact .inl rfl | exact .inr ⟨_, rfl⟩) infLawScriptSends_58 rfl rfl rfl rfl rfl rfl hub rfl (src_mem (List.mem_append_right _ (mem_at 0 rfl)) rfl rfl (by simp [evC, evV, evS, Value.oneCell'])) (by omega) (by omega) [7] (fun _ => ⟨_, rfl⟩) ?_
                       intro uw huw _
                       show GH _ _ _ _ _ _ _ [_, _, _, _, _, _, _, _, _, _] _
                       first | (have := hc0; rw [len_snoc ms (emN zeroE)]) | rw [len_snoc ms (emN (sentE 0 b t))]
                       refine GH_all [17] (by kernel_rfl) (by decide) ?_
                       refine (And.intro ?_ trivial)
                       · skip
                         refine GHop_callM (L2 := [_, _, _, _, _, _, _, _, _, _]) rfl rfl rfl rfl rfl rfl Try.call31 ((sc_same um.ob 0 um.cap um.cs 58 um.fz (ms ++ [(emN zeroE)]) hm2 (oks_next hok heo) uw.ob 0 uw.cap uw.cs 58 uw.fz (ms ++ [(emN zeroE)]) (own_sees2 huw) (oks_next hok heo)).weaken (fun v post h => by rw [decide_eq_true rfl] at h; exact h)) [] rfl (by intro x hx; simp only [List.map_append, List.map_cons, List.map_nil, List.mem_cons, List.mem_append, List.not_mem_nil, or_false] at hx; rcases hx with h | h | (h | h) | h | h <;> first | exact List.mem_append_left _ (List.mem_cons.2 (.inl h)) | exact List.mem_append_left _ (List.mem_cons_of_mem _ h) | (rw [h]; exact List.mem_append_right _ (mem_at 0 rfl)) | (rw [h]; exact List.mem_append_right _ (mem_at 1 rfl)) | (rw [h]; exact List.mem_append_right _ (mem_at 2 rfl)) | (rw [h]; exact List.mem_append_right _ (mem_at 3 rfl)) | (rw [h]; exact List.mem_append_right _ (mem_at 4 rfl)) | (rw [h]; exact List.mem_append_right _ (mem_at 5 rfl)) | (rw [h]; exact List.mem_append_right _ (mem_at 6 rfl)) | (rw [h]; exact List.mem_append_right _ (mem_at 7 rfl)) | (rw [h]; exact List.mem_append_right _ (mem_at 8 rfl)) | (rw [h]; exact List.mem_append_right _ (mem_at 9 rfl))) [7] (by rintro v post ⟨rfl, rfl⟩; exact ⟨_, rfl⟩) ?_
                         rintro v post ⟨rfl, rfl⟩
                         show GH _ _ _ _ _ _ _ [_, _, _, _, _, _, _, _, _, _] _
                         refine GH_take 18 rfl rfl rfl rfl (by kernel_rfl) (by kernel_rfl) (by kernel_rfl) (fun _ _ => (V_pickT rfl rfl rfl)) ?_
                         refine GH_take 19 rfl rfl rfl rfl (by kernel_rfl) (by kernel_rfl) (by kernel_rfl) (fun _ _ => (V_move rfl rfl)) ?_
                         refine GH_all [20] (by kernel_rfl) (by decide) ?_
                         refine (And.intro ?_ trivial)
                         · skip
                           refine GHop_callM (L2 := [_, _, _, _, _, _, _, _, _, _]) rfl rfl rfl rfl rfl rfl Try.call20 (rl_live) [] rfl subA_nil [7] (by rintro v post ⟨rfl, rfl⟩; exact ⟨_, rfl⟩) ?_
                           rintro v post ⟨rfl, rfl⟩
                           show GH _ _ _ _ _ _ _ [_, _, _, _, _, _, _, _, _, _] _
                           refine GH_take 21 rfl rfl rfl rfl (by kernel_rfl) (by kernel_rfl) (by kernel_rfl) (fun _ _ => (V_pickT rfl rfl rfl)) ?_
                           refine GH_take 22 rfl rfl rfl rfl (by kernel_rfl) (by kernel_rfl) (by kernel_rfl) (fun _ _ => (V_assign rfl rfl)) ?_
                           refine GH_done (by kernel_rfl) ?_
                           refine G_ret (post := []) Try.func7 rfl (RVs_cons (RV_tmp rfl) RVs_nil) [] rfl ?_
                           dsimp only [packed]
                           exact ⟨rfl, rfl⟩
               · skip
                 refine GHop_new rfl rfl rfl rfl (N_buildAll (s := 5) (cs := [_, _, _, _, _]) rfl Try.underlying53 infLawScriptSends_58 rfl rfl rfl rfl rfl rfl rfl rfl rfl) [6] (fun _ => ⟨_, rfl⟩) (fun b75 => ?_)
                 refine GH_all [11] (by kernel_rfl) (by decide) ?_
                 refine (And.intro ?_ trivial)
                 · skip
                   refine GHop_new rfl rfl rfl rfl (N_build0 rfl Try.underlying53 infLawScriptSends_58) [7] (fun _ => ⟨_, rfl⟩) (fun b71 => ?_)
                   refine GH_all [13] (by kernel_rfl) (by decide) ?_
                   refine (And.intro ?_ trivial)
                   · skip
                     refine GHop_append (l1 := []) (s := ⟨some b71, #[], (0, 0), 0⟩) (nn := 0) (m := ms.length) (news := (ms.flatMap evC)) (bt := 64) rfl rfl rfl rfl Try.underlying53 Try.underlying53 (by first | exact .inl rfl | exact .inr ⟨_, rfl⟩) infLawScriptSends_58 rfl rfl rfl rfl rfl rfl (own_empty 5 b71) rfl (src_sees h1 (List.mem_append_left _ (List.mem_cons.2 (.inl rfl))) (evs_one ms)) (by omega) (by have hz : (5 : Nat) = 5 := rfl; omega) [7] (fun _ => ⟨_, rfl⟩) ?_
                     intro ub hub _
                     show GH _ _ _ _ _ _ _ [_, _, _, _, _, _, _, _, _, _] _
                     refine GH_all [16] (by kernel_rfl) (by decide) ?_
                     refine (And.intro ?_ trivial)
                     · skip
                       refine GHop_append (l1 := []) (s := ub) (nn := (0 + ms.length)) (m := 1) (news := (evC (emN zeroE))) (bt := 64) rfl rfl rfl rfl Try.underlying53 Try.underlying53 (by first | exact .inl rfl | exact .inr ⟨_, rfl⟩) infLawScriptSends_58 rfl rfl rfl rfl rfl rfl hub rfl (src_mem (List.mem_append_right _ (mem_at 1 rfl)) rfl rfl (by simp [evC, evV, evS, Value.oneCell'])) (by omega) (by omega) [7] (fun _ => ⟨_, rfl⟩) ?_
                       intro uw huw _
                       show GH _ _ _ _ _ _ _ [_, _, _, _, _, _, _, _, _, _] _
                       first | (have := hc0; rw [len_snoc ms (emN zeroE)]) | rw [len_snoc ms (emN (sentE 0 b t))]
                       refine GH_all [17] (by kernel_rfl) (by decide) ?_
                       refine (And.intro ?_ trivial)
                       · skip
                         refine GHop_callM (L2 := [_, _, _, _, _, _, _, _, _, _]) rfl rfl rfl rfl rfl rfl Try.call31 ((sc_same um.ob 0 um.cap um.cs 58 um.fz (ms ++ [(emN zeroE)]) hm2 (oks_next hok heo) uw.ob 0 uw.cap uw.cs 58 uw.fz (ms ++ [(emN zeroE)]) (own_sees2 huw) (oks_next hok heo)).weaken (fun v post h => by rw [decide_eq_true rfl] at h; exact h)) [] rfl (by intro x hx; simp only [List.map_append, List.map_cons, List.map_nil, List.mem_cons, List.mem_append, List.not_mem_nil, or_false] at hx; rcases hx with h | h | (h | h) | h | h <;> first | exact List.mem_append_left _ (List.mem_cons.2 (.inl h)) | exact List.mem_append_left _ (List.mem_cons_of_mem _ h) | (rw [h]; exact List.mem_append_right _ (mem_at 0 rfl)) | (rw [h]; exact List.mem_append_right _ (mem_at 1 rfl)) | (rw [h]; exact List.mem_append_right _ (mem_at 2 rfl)) | (rw [h]; exact List.mem_append_right _ (mem_at 3 rfl)) | (rw [h]; exact List.mem_append_right _ (mem_at 4 rfl)) | (rw [h]; exact List.mem_append_right _ (mem_at 5 rfl)) | (rw [h]; exact List.mem_append_right _ (mem_at 6 rfl)) | (rw [h]; exact List.mem_append_right _ (mem_at 7 rfl)) | (rw [h]; exact List.mem_append_right _ (mem_at 8 rfl)) | (rw [h]; exact List.mem_append_right _ (mem_at 9 rfl))) [7] (by rintro v post ⟨rfl, rfl⟩; exact ⟨_, rfl⟩) ?_
                         rintro v post ⟨rfl, rfl⟩
                         show GH _ _ _ _ _ _ _ [_, _, _, _, _, _, _, _, _, _] _
                         refine GH_take 18 rfl rfl rfl rfl (by kernel_rfl) (by kernel_rfl) (by kernel_rfl) (fun _ _ => (V_pickT rfl rfl rfl)) ?_
                         refine GH_take 19 rfl rfl rfl rfl (by kernel_rfl) (by kernel_rfl) (by kernel_rfl) (fun _ _ => (V_move rfl rfl)) ?_
                         refine GH_all [20] (by kernel_rfl) (by decide) ?_
                         refine (And.intro ?_ trivial)
                         · skip
                           refine GHop_callM (L2 := [_, _, _, _, _, _, _, _, _, _]) rfl rfl rfl rfl rfl rfl Try.call20 (rl_live) [] rfl subA_nil [7] (by rintro v post ⟨rfl, rfl⟩; exact ⟨_, rfl⟩) ?_
                           rintro v post ⟨rfl, rfl⟩
                           show GH _ _ _ _ _ _ _ [_, _, _, _, _, _, _, _, _, _] _
                           refine GH_take 21 rfl rfl rfl rfl (by kernel_rfl) (by kernel_rfl) (by kernel_rfl) (fun _ _ => (V_pickT rfl rfl rfl)) ?_
                           refine GH_take 22 rfl rfl rfl rfl (by kernel_rfl) (by kernel_rfl) (by kernel_rfl) (fun _ _ => (V_assign rfl rfl)) ?_
                           refine GH_done (by kernel_rfl) ?_
                           refine G_ret (post := []) Try.func7 rfl (RVs_cons (RV_tmp rfl) RVs_nil) [] rfl ?_
                           dsimp only [packed]
                           exact ⟨rfl, rfl⟩
   · skip
     refine GHop_new rfl rfl rfl rfl (N_buildAll (s := 5) (cs := [_, _, _, _, _]) rfl Try.underlying53 infLawScriptSends_58 rfl rfl rfl rfl rfl rfl rfl rfl rfl) [5] (fun _ => ⟨_, rfl⟩) (fun b58 => ?_)
     refine GH_all [0] (by kernel_rfl) (by decide) ?_
     refine (And.intro ?_ trivial)
     · skip
       refine GHop_new rfl rfl rfl rfl (N_build0 rfl Try.underlying53 infLawScriptSends_58) [6] (fun _ => ⟨_, rfl⟩) (fun b54 => ?_)
       refine GH_all [2] (by kernel_rfl) (by decide) ?_
       refine (And.intro ?_ trivial)
       · skip
         refine GHop_append (l1 := []) (s := ⟨some b54, #[], (0, 0), 0⟩) (nn := 0) (m := ms.length) (news := (ms.flatMap evC)) (bt := 64) rfl rfl rfl rfl Try.underlying53 Try.underlying53 (by first | exact .inl rfl | exact .inr ⟨_, rfl⟩) infLawScriptSends_58 rfl rfl rfl rfl rfl rfl (own_empty 5 b54) rfl (src_sees h1 (List.mem_append_left _ (List.mem_cons.2 (.inl rfl))) (evs_one ms)) (by omega) (by have hz : (5 : Nat) = 5 := rfl; omega) [6] (fun _ => ⟨_, rfl⟩) ?_
         intro ua hua _
         show GH _ _ _ _ _ _ _ [_, _, _, _, _, _, _, _] _
         refine GH_all [5] (by kernel_rfl) (by decide) ?_
         refine (And.intro ?_ trivial)
         · skip
           refine GHop_append (l1 := []) (s := ua) (nn := (0 + ms.length)) (m := 1) (news := (evC (emN zeroE))) (bt := 64) rfl rfl rfl rfl Try.underlying53 Try.underlying53 (by first | exact .inl rfl | exact .inr ⟨_, rfl⟩) infLawScriptSends_58 rfl rfl rfl rfl rfl rfl hua rfl (src_mem (List.mem_append_right _ (mem_at 1 rfl)) rfl rfl (by simp [evC, evV, evS, Value.oneCell'])) (by omega) (by omega) [6] (fun _ => ⟨_, rfl⟩) ?_
           intro um hum _
           show GH _ _ _ _ _ _ _ [_, _, _, _, _, _, _, _] _
           refine GH_take 6 rfl rfl rfl rfl (by kernel_rfl) (by kernel_rfl) (by kernel_rfl) (fun _ _ => (V_assign rfl rfl)) ?_
           refine GH_done (by kernel_rfl) ?_
           refine G_seq ?_
           have hm2 := own_sees2 hum
           first | (have := hc0; rw [len_snoc ms (emN zeroE)]) | rw [len_snoc ms (emN (sentE 0 b t))]
           refine GH_start (Lq := [_]) (isq := [5]) (m := 23) mixedK rfl rfl ?_
           refine GH_take 0 rfl rfl rfl rfl (by kernel_rfl) (by kernel_rfl) (by kernel_rfl) (fun _ _ => (V_move rfl rfl)) ?_
           refine GH_take 1 rfl rfl rfl rfl (by kernel_rfl) (by kernel_rfl) (by kernel_rfl) (fun _ _ => (V_move rfl rfl)) ?_
           refine GH_all [2] (by kernel_rfl) (by decide) ?_
           refine (And.intro ?_ trivial)
           · skip
             refine GHop_callM (L2 := [_, _, _, _, _, _, _, _]) rfl rfl rfl rfl rfl rfl Try.call31 ((sc_same o1 p1 q1 c1 T1 f1 ms h1 hok o1 p1 q1 c1 T1 f1 ms h1 hok).weaken (fun v post h => by rw [decide_eq_true rfl] at h; exact h)) [] rfl (by intro x hx; simp only [List.map_append, List.map_cons, List.map_nil, List.mem_cons, List.mem_append, List.not_mem_nil, or_false] at hx; rcases hx with h | h | h | h <;> first | exact List.mem_append_left _ (List.mem_cons.2 (.inl h)) | exact List.mem_append_left _ (List.mem_cons_of_mem _ h) | (rw [h]; exact List.mem_append_right _ (mem_at 0 rfl)) | (rw [h]; exact List.mem_append_right _ (mem_at 1 rfl)) | (rw [h]; exact List.mem_append_right _ (mem_at 2 rfl)) | (rw [h]; exact List.mem_append_right _ (mem_at 3 rfl)) | (rw [h]; exact List.mem_append_right _ (mem_at 4 rfl)) | (rw [h]; exact List.mem_append_right _ (mem_at 5 rfl)) | (rw [h]; exact List.mem_append_right _ (mem_at 6 rfl)) | (rw [h]; exact List.mem_append_right _ (mem_at 7 rfl))) [5] (by rintro v post ⟨rfl, rfl⟩; exact ⟨_, rfl⟩) ?_
             rintro v post ⟨rfl, rfl⟩
             show GH _ _ _ _ _ _ _ [_, _, _, _, _, _, _, _] _
             refine GH_take 3 rfl rfl rfl rfl (by kernel_rfl) (by kernel_rfl) (by kernel_rfl) (fun _ _ => (V_move rfl rfl)) ?_
             refine GH_take 4 rfl rfl rfl rfl (by kernel_rfl) (by kernel_rfl) (by kernel_rfl) (fun _ _ => (V_move rfl rfl)) ?_
             refine GH_take 5 rfl rfl rfl rfl (by kernel_rfl) (by kernel_rfl) (by kernel_rfl) (fun _ _ => (V_move rfl rfl)) ?_
             refine GH_all [6] (by kernel_rfl) (by decide) ?_
             refine (And.intro ?_ trivial)
             · skip
               refine GHop_callM (L2 := [_, _, _, _, _, _, _, _]) rfl rfl rfl rfl rfl rfl Try.call31 ((sc_same o1 p1 q1 c1 T1 f1 ms h1 hok um.ob 0 um.cap um.cs 58 um.fz (ms ++ [(emN zeroE)]) hm2 (oks_next hok heo)).weaken (fun v post h => by rw [decide_eq_false (evs_ne (by simp; omega))] at h; exact h)) [] rfl (by intro x hx; simp only [List.map_append, List.map_cons, List.map_nil, List.mem_cons, List.mem_append, List.not_mem_nil, or_false] at hx; rcases hx with h | h | h | h | h <;> first | exact List.mem_append_left _ (List.mem_cons.2 (.inl h)) | exact List.mem_append_left _ (List.mem_cons_of_mem _ h) | (rw [h]; exact List.mem_append_right _ (mem_at 0 rfl)) | (rw [h]; exact List.mem_append_right _ (mem_at 1 rfl)) | (rw [h]; exact List.mem_append_right _ (mem_at 2 rfl)) | (rw [h]; exact List.mem_append_right _ (mem_at 3 rfl)) | (rw [h]; exact List.mem_append_right _ (mem_at 4 rfl)) | (rw [h]; exact List.mem_append_right _ (mem_at 5 rfl)) | (rw [h]; exact List.mem_append_right _ (mem_at 6 rfl)) | (rw [h]; exact List.mem_append_right _ (mem_at 7 rfl))) [5] (by rintro v post ⟨rfl, rfl⟩; exact ⟨_, rfl⟩) ?_
               rintro v post ⟨rfl, rfl⟩
               show GH _ _ _ _ _ _ _ [_, _, _, _, _, _, _, _] _
               refine GH_take 7 rfl rfl rfl rfl (by kernel_rfl) (by kernel_rfl) (by kernel_rfl) (fun _ _ => (V_not rfl rfl)) ?_
               refine GH_take 8 rfl rfl rfl rfl (by kernel_rfl) (by kernel_rfl) (by kernel_rfl) (fun _ _ => (V_pickT rfl rfl rfl)) ?_
               refine GH_take 9 rfl rfl rfl rfl (by kernel_rfl) (by kernel_rfl) (by kernel_rfl) (fun _ _ => (V_move rfl rfl)) ?_
               refine GH_take 10 rfl rfl rfl rfl (by kernel_rfl) (by kernel_rfl) (by kernel_rfl) (fun _ _ => (V_move rfl rfl)) ?_
               refine GH_take 12 rfl rfl rfl rfl (by kernel_rfl) (by kernel_rfl) (by kernel_rfl) (fun _ _ => (V_move rfl rfl)) ?_
               first
                 | refine GH_take 14 rfl rfl rfl rfl (by kernel_rfl) (by kernel_rfl) (by kernel_rfl) (fun _ _ => (V_loadW (s := 5) rfl rfl (List.mem_append_right _ (mem_at 0 rfl)) Try.underlying58 rfl infLawScriptSends_58 rfl (by first | rfl | (simp [bcells_length, evC, evV, kC, evS, Sl.v, rqCells]; done) | (simp [bcells_length, evC, evV, kC, evS, Sl.v, rqCells]; omega) | (simp [bcells_length, *, evC, evV, kC, evS, Sl.v, rqCells]; done)))) ?_
                 | refine GH_take 14 rfl rfl rfl rfl (by kernel_rfl) (by kernel_rfl) (by kernel_rfl) (fun _ _ => (V_loadA (s := 5) rfl rfl (List.mem_append_right _ (mem_at 0 rfl)) Try.underlying58 rfl infLawScriptSends_58 rfl rfl (by first | rfl | (simp [bcells_length, evC, evV, kC, evS, Sl.v, rqCells]; done) | (simp [bcells_length, evC, evV, kC, evS, Sl.v, rqCells]; omega) | (simp [bcells_length, *, evC, evV, kC, evS, Sl.v, rqCells]; done)))) ?_
               refine GH_all [11, 15] (by kernel_rfl) (by decide) ?_
               refine (And.intro ?_ (And.intro ?_ trivial))
               · skip
                 refine GHop_new rfl rfl rfl rfl (N_build0 rfl Try.underlying53 infLawScriptSends_58) [6] (fun _ => ⟨_, rfl⟩) (fun b71 => ?_)
                 refine GH_all [13, 15] (by kernel_rfl) (by decide) ?_
                 refine (And.intro ?_ (And.intro ?_ trivial))
                 · skip
                   refine GHop_append (l1 := []) (s := ⟨some b71, #[], (0, 0), 0⟩) (nn := 0) (m := ms.length) (news := (ms.flatMap evC)) (bt := 64) rfl rfl rfl rfl Try.underlying53 Try.underlying53 (by first | exact .inl rfl | exact .inr ⟨_, rfl⟩) infLawScriptSends_58 rfl rfl rfl rfl rfl rfl (own_empty 5 b71) rfl (src_sees h1 (List.mem_append_left _ (List.mem_cons.2 (.inl rfl))) (evs_one ms)) (by omega) (by have hz : (5 : Nat) = 5 := rfl; omega) [6] (fun _ => ⟨_, rfl⟩) ?_
                   intro ub hub _
                   show GH _ _ _ _ _ _ _ [_, _, _, _, _, _, _, _, _] _
                   refine GH_all [15] (by kernel_rfl) (by decide) ?_
                   refine (And.intro ?_ trivial)
                   · skip
                     refine GHop_new rfl rfl rfl rfl (N_buildAll (s := 5) (cs := [_, _, _, _, _]) rfl Try.underlying53 infLawScriptSends_58 rfl rfl rfl rfl rfl rfl rfl rfl rfl) [7] (fun _ => ⟨_, rfl⟩) (fun b75 => ?_)
                     refine GH_all [16] (by kernel_rfl) (by decide) ?_
                     refine (And.intro ?_ trivial)
                     · skip
                       refine GHop_append (l1 := [_]) (s := ub) (nn := (0 + ms.length)) (m := 1) (news := (evC (emN zeroE))) (bt := 64) rfl rfl rfl rfl Try.underlying53 Try.underlying53 (by first | exact .inl rfl | exact .inr ⟨_, rfl⟩) infLawScriptSends_58 rfl rfl rfl rfl rfl rfl hub rfl (src_mem (List.mem_append_right _ (mem_at 0 rfl)) rfl rfl (by simp [evC, evV, evS, Value.oneCell'])) (by omega) (by omega) [7] (fun _ => ⟨_, rfl⟩) ?_
                       intro uw huw _
                       show GH _ _ _ _ _ _ _ [_, _, _, _, _, _, _, _, _, _] _
                       first | (have := hc0; rw [len_snoc ms (emN zeroE)]) | rw [len_snoc ms (emN (sentE 0 b t))]
                       refine GH_all [17] (by kernel_rfl) (by decide) ?_
                       refine (And.intro ?_ trivial)
                       · skip
                         refine GHop_callM (L2 := [_, _, _, _, _, _, _, _, _, _]) rfl rfl rfl rfl rfl rfl Try.call31 ((sc_same um.ob 0 um.cap um.cs 58 um.fz (ms ++ [(emN zeroE)]) hm2 (oks_next hok heo) uw.ob 0 uw.cap uw.cs 58 uw.fz (ms ++ [(emN zeroE)]) (own_sees2 huw) (oks_next hok heo)).weaken (fun v post h => by rw [decide_eq_true rfl] at h; exact h)) [] rfl (by intro x hx; simp only [List.map_append, List.map_cons, List.map_nil, List.mem_cons, List.mem_append, List.not_mem_nil, or_false] at hx; rcases hx with h | h | (h | h) | h | h <;> first | exact List.mem_append_left _ (List.mem_cons.2 (.inl h)) | exact List.mem_append_left _ (List.mem_cons_of_mem _ h) | (rw [h]; exact List.mem_append_right _ (mem_at 0 rfl)) | (rw [h]; exact List.mem_append_right _ (mem_at 1 rfl)) | (rw [h]; exact List.mem_append_right _ (mem_at 2 rfl)) | (rw [h]; exact List.mem_append_right _ (mem_at 3 rfl)) | (rw [h]; exact List.mem_append_right _ (mem_at 4 rfl)) | (rw [h]; exact List.mem_append_right _ (mem_at 5 rfl)) | (rw [h]; exact List.mem_append_right _ (mem_at 6 rfl)) | (rw [h]; exact List.mem_append_right _ (mem_at 7 rfl)) | (rw [h]; exact List.mem_append_right _ (mem_at 8 rfl)) | (rw [h]; exact List.mem_append_right _ (mem_at 9 rfl))) [7] (by rintro v post ⟨rfl, rfl⟩; exact ⟨_, rfl⟩) ?_
                         rintro v post ⟨rfl, rfl⟩
                         show GH _ _ _ _ _ _ _ [_, _, _, _, _, _, _, _, _, _] _
                         refine GH_take 18 rfl rfl rfl rfl (by kernel_rfl) (by kernel_rfl) (by kernel_rfl) (fun _ _ => (V_pickT rfl rfl rfl)) ?_
                         refine GH_take 19 rfl rfl rfl rfl (by kernel_rfl) (by kernel_rfl) (by kernel_rfl) (fun _ _ => (V_move rfl rfl)) ?_
                         refine GH_all [20] (by kernel_rfl) (by decide) ?_
                         refine (And.intro ?_ trivial)
                         · skip
                           refine GHop_callM (L2 := [_, _, _, _, _, _, _, _, _, _]) rfl rfl rfl rfl rfl rfl Try.call20 (rl_live) [] rfl subA_nil [7] (by rintro v post ⟨rfl, rfl⟩; exact ⟨_, rfl⟩) ?_
                           rintro v post ⟨rfl, rfl⟩
                           show GH _ _ _ _ _ _ _ [_, _, _, _, _, _, _, _, _, _] _
                           refine GH_take 21 rfl rfl rfl rfl (by kernel_rfl) (by kernel_rfl) (by kernel_rfl) (fun _ _ => (V_pickT rfl rfl rfl)) ?_
                           refine GH_take 22 rfl rfl rfl rfl (by kernel_rfl) (by kernel_rfl) (by kernel_rfl) (fun _ _ => (V_assign rfl rfl)) ?_
                           refine GH_done (by kernel_rfl) ?_
                           refine G_ret (post := []) Try.func7 rfl (RVs_cons (RV_tmp rfl) RVs_nil) [] rfl ?_
                           dsimp only [packed]
                           exact ⟨rfl, rfl⟩
                 · skip
                   refine GHop_new rfl rfl rfl rfl (N_buildAll (s := 5) (cs := [_, _, _, _, _]) rfl Try.underlying53 infLawScriptSends_58 rfl rfl rfl rfl rfl rfl rfl rfl rfl) [7] (fun _ => ⟨_, rfl⟩) (fun b75 => ?_)
                   refine GH_all [13] (by kernel_rfl) (by decide) ?_
                   refine (And.intro ?_ trivial)
                   · skip
                     refine GHop_append (l1 := [_]) (s := ⟨some b71, #[], (0, 0), 0⟩) (nn := 0) (m := ms.length) (news := (ms.flatMap evC)) (bt := 64) rfl rfl rfl rfl Try.underlying53 Try.underlying53 (by first | exact .inl rfl | exact .inr ⟨_, rfl⟩) infLawScriptSends_58 rfl rfl rfl rfl rfl rfl (own_empty 5 b71) rfl (src_sees h1 (List.mem_append_left _ (List.mem_cons.2 (.inl rfl))) (evs_one ms)) (by omega) (by have hz : (5 : Nat) = 5 := rfl; omega) [7] (fun _ => ⟨_, rfl⟩) ?_
                     intro ub hub _
                     show GH _ _ _ _ _ _ _ [_, _, _, _, _, _, _, _, _, _] _
                     refine GH_all [16] (by kernel_rfl) (by decide) ?_
                     refine (And.intro ?_ trivial)
                     · skip
                       refine GHop_append (l1 := [_]) (s := ub) (nn := (0 + ms.length)) (m := 1) (news := (evC (emN zeroE))) (bt := 64) rfl rfl rfl rfl Try.underlying53 Try.underlying53 (by first | exact .inl rfl | exact .inr ⟨_, rfl⟩) infLawScriptSends_58 rfl rfl rfl rfl rfl rfl hub rfl (src_mem (List.mem_append_right _ (mem_at 0 rfl)) rfl rfl (by simp [evC, evV, evS, Value.oneCell'])) (by omega) (by omega) [7] (fun _ => ⟨_, rfl⟩) ?_
                       intro uw huw _
                       show GH _ _ _ _ _ _ _ [_, _, _, _, _, _, _, _, _, _] _
                       first | (have := hc0; rw [len_snoc ms (emN zeroE)]) | rw [len_snoc ms (emN (sentE 0 b t))]
                       refine GH_all [17] (by kernel_rfl) (by decide) ?_
                       refine (And.intro ?_ trivial)
                       · skip
                         refine GHop_callM (L2 := [_, _, _, _, _, _, _, _, _, _]) rfl rfl rfl rfl rfl rfl Try.call31 ((sc_same um.ob 0 um.cap um.cs 58 um.fz (ms ++ [(emN zeroE)]) hm2 (oks_next hok heo) uw.ob 0 uw.cap uw.cs 58 uw.fz (ms ++ [(emN zeroE)]) (own_sees2 huw) (oks_next hok heo)).weaken (fun v post h => by rw [decide_eq_true rfl] at h; exact h)) [] rfl (by intro x hx; simp only [List.map_append, List.map_cons, List.map_nil, List.mem_cons, List.mem_append, List.not_mem_nil, or_false] at hx; rcases hx with h | h | (h | h) | h | h <;> first | exact List.mem_append_left _ (List.mem_cons.2 (.inl h)) | exact List.mem_append_left _ (List.mem_cons_of_mem _ h) | (rw [h]; exact List.mem_append_right _ (mem_at 0 rfl)) | (rw [h]; exact List.mem_append_right _ (mem_at 1 rfl)) | (rw [h]; exact List.mem_append_right _ (mem_at 2 rfl)) | (rw [h]; exact List.mem_append_right _ (mem_at 3 rfl)) | (rw [h]; exact List.mem_append_right _ (mem_at 4 rfl)) | (rw [h]; exact List.mem_append_right _ (mem_at 5 rfl)) | (rw [h]; exact List.mem_append_right _ (mem_at 6 rfl)) | (rw [h]; exact List.mem_append_right _ (mem_at 7 rfl)) | (rw [h]; exact List.mem_append_right _ (mem_at 8 rfl)) | (rw [h]; exact List.mem_append_right _ (mem_at 9 rfl))) [7] (by rintro v post ⟨rfl, rfl⟩; exact ⟨_, rfl⟩) ?_
                         rintro v post ⟨rfl, rfl⟩
                         show GH _ _ _ _ _ _ _ [_, _, _, _, _, _, _, _, _, _] _
                         refine GH_take 18 rfl rfl rfl rfl (by kernel_rfl) (by kernel_rfl) (by kernel_rfl) (fun _ _ => (V_pickT rfl rfl rfl)) ?_
                         refine GH_take 19 rfl rfl rfl rfl (by kernel_rfl) (by kernel_rfl) (by kernel_rfl) (fun _ _ => (V_move rfl rfl)) ?_
                         refine GH_all [20] (by kernel_rfl) (by decide) ?_
                         refine (And.intro ?_ trivial)
                         · skip
                           refine GHop_callM (L2 := [_, _, _, _, _, _, _, _, _, _]) rfl rfl rfl rfl rfl rfl Try.call20 (rl_live) [] rfl subA_nil [7] (by rintro v post ⟨rfl, rfl⟩; exact ⟨_, rfl⟩) ?_
                           rintro v post ⟨rfl, rfl⟩
                           show GH _ _ _ _ _ _ _ [_, _, _, _, _, _, _, _, _, _] _
                           refine GH_take 21 rfl rfl rfl rfl (by kernel_rfl) (by kernel_rfl) (by kernel_rfl) (fun _ _ => (V_pickT rfl rfl rfl)) ?_
                           refine GH_take 22 rfl rfl rfl rfl (by kernel_rfl) (by kernel_rfl) (by kernel_rfl) (fun _ _ => (V_assign rfl rfl)) ?_
                           refine GH_done (by kernel_rfl) ?_
                           refine G_ret (post := []) Try.func7 rfl (RVs_cons (RV_tmp rfl) RVs_nil) [] rfl ?_
                           dsimp only [packed]
                           exact ⟨rfl, rfl⟩
               · skip
                 refine GHop_new rfl rfl rfl rfl (N_buildAll (s := 5) (cs := [_, _, _, _, _]) rfl Try.underlying53 infLawScriptSends_58 rfl rfl rfl rfl rfl rfl rfl rfl rfl) [6] (fun _ => ⟨_, rfl⟩) (fun b75 => ?_)
                 refine GH_all [11] (by kernel_rfl) (by decide) ?_
                 refine (And.intro ?_ trivial)
                 · skip
                   refine GHop_new rfl rfl rfl rfl (N_build0 rfl Try.underlying53 infLawScriptSends_58) [7] (fun _ => ⟨_, rfl⟩) (fun b71 => ?_)
                   refine GH_all [13] (by kernel_rfl) (by decide) ?_
                   refine (And.intro ?_ trivial)
                   · skip
                     refine GHop_append (l1 := []) (s := ⟨some b71, #[], (0, 0), 0⟩) (nn := 0) (m := ms.length) (news := (ms.flatMap evC)) (bt := 64) rfl rfl rfl rfl Try.underlying53 Try.underlying53 (by first | exact .inl rfl | exact .inr ⟨_, rfl⟩) infLawScriptSends_58 rfl rfl rfl rfl rfl rfl (own_empty 5 b71) rfl (src_sees h1 (List.mem_append_left _ (List.mem_cons.2 (.inl rfl))) (evs_one ms)) (by omega) (by have hz : (5 : Nat) = 5 := rfl; omega) [7] (fun _ => ⟨_, rfl⟩) ?_
                     intro ub hub _
                     show GH _ _ _ _ _ _ _ [_, _, _, _, _, _, _, _, _, _] _
                     refine GH_all [16] (by kernel_rfl) (by decide) ?_
                     refine (And.intro ?_ trivial)
                     · skip
                       refine GHop_append (l1 := []) (s := ub) (nn := (0 + ms.length)) (m := 1) (news := (evC (emN zeroE))) (bt := 64) rfl rfl rfl rfl Try.underlying53 Try.underlying53 (by first | exact .inl rfl | exact .inr ⟨_, rfl⟩) infLawScriptSends_58 rfl rfl rfl rfl rfl rfl hub rfl (src_mem (List.mem_append_right _ (mem_at 1 rfl)) rfl rfl (by simp [evC, evV, evS, Value.oneCell'])) (by omega) (by omega) [7] (fun _ => ⟨_, rfl⟩) ?_
                       intro uw huw _
                       show GH _ _ _ _ _ _ _ [_, _, _, _, _, _, _, _, _, _] _
                       first | (have := hc0; rw [len_snoc ms (emN zeroE)]) | rw [len_snoc ms (emN (sentE 0 b t))]
                       refine GH_all [17] (by kernel_rfl) (by decide) ?_
                       refine (And.intro ?_ trivial)
                       · skip
                         refine GHop_callM (L2 := [_, _, _, _, _, _, _, _, _, _]) rfl rfl rfl rfl rfl rfl Try.call31 ((sc_same um.ob 0 um.cap um.cs 58 um.fz (ms ++ [(emN zeroE)]) hm2 (oks_next hok heo) uw.ob 0 uw.cap uw.cs 58 uw.fz (ms ++ [(emN zeroE)]) (own_sees2 huw) (oks_next hok heo)).weaken (fun v post h => by rw [decide_eq_true rfl] at h; exact h)) [] rfl (by intro x hx; simp only [List.map_append, List.map_cons, List.map_nil, List.mem_cons, List.mem_append, List.not_mem_nil, or_false] at hx; rcases hx with h | h | (h | h) | h | h <;> first | exact List.mem_append_left _ (List.mem_cons.2 (.inl h)) | exact List.mem_append_left _ (List.mem_cons_of_mem _ h) | (rw [h]; exact List.mem_append_right _ (mem_at 0 rfl)) | (rw [h]; exact List.mem_append_right _ (mem_at 1 rfl)) | (rw [h]; exact List.mem_append_right _ (mem_at 2 rfl)) | (rw [h]; exact List.mem_append_right _ (mem_at 3 rfl)) | (rw [h]; exact List.mem_append_right _ (mem_at 4 rfl)) | (rw [h]; exact List.mem_append_right _ (mem_at 5 rfl)) | (rw [h]; exact List.mem_append_right _ (mem_at 6 rfl)) | (rw [h]; exact List.mem_append_right _ (mem_at 7 rfl)) | (rw [h]; exact List.mem_append_right _ (mem_at 8 rfl)) | (rw [h]; exact List.mem_append_right _ (mem_at 9 rfl))) [7] (by rintro v post ⟨rfl, rfl⟩; exact ⟨_, rfl⟩) ?_
                         rintro v post ⟨rfl, rfl⟩
                         show GH _ _ _ _ _ _ _ [_, _, _, _, _, _, _, _, _, _] _
                         refine GH_take 18 rfl rfl rfl rfl (by kernel_rfl) (by kernel_rfl) (by kernel_rfl) (fun _ _ => (V_pickT rfl rfl rfl)) ?_
                         refine GH_take 19 rfl rfl rfl rfl (by kernel_rfl) (by kernel_rfl) (by kernel_rfl) (fun _ _ => (V_move rfl rfl)) ?_
                         refine GH_all [20] (by kernel_rfl) (by decide) ?_
                         refine (And.intro ?_ trivial)
                         · skip
                           refine GHop_callM (L2 := [_, _, _, _, _, _, _, _, _, _]) rfl rfl rfl rfl rfl rfl Try.call20 (rl_live) [] rfl subA_nil [7] (by rintro v post ⟨rfl, rfl⟩; exact ⟨_, rfl⟩) ?_
                           rintro v post ⟨rfl, rfl⟩
                           show GH _ _ _ _ _ _ _ [_, _, _, _, _, _, _, _, _, _] _
                           refine GH_take 21 rfl rfl rfl rfl (by kernel_rfl) (by kernel_rfl) (by kernel_rfl) (fun _ _ => (V_pickT rfl rfl rfl)) ?_
                           refine GH_take 22 rfl rfl rfl rfl (by kernel_rfl) (by kernel_rfl) (by kernel_rfl) (fun _ _ => (V_assign rfl rfl)) ?_
                           refine GH_done (by kernel_rfl) ?_
                           refine G_ret (post := []) Try.func7 rfl (RVs_cons (RV_tmp rfl) RVs_nil) [] rfl ?_
                           dsimp only [packed]
                           exact ⟨rfl, rfl⟩


set_option maxRecDepth 100000 in
theorem scriptSends_walk : LawWalk 7 Try.f7 := lawwalk_reads (fun W base args hs hval => by
  rw [Try.params7] at hs hval
  obtain ⟨l⟩ := args
  match l, hs with
  | [a0, a1, a], _ =>
    obtain ⟨n0, rfl, x0, y0⟩ := okc_int (okv_cell (hval 0 23 a0 rfl rfl).1 Try.underlying23 rfl) Try.underlying23
    obtain ⟨q, rfl, hq⟩ := rq_of (hval 1 67 a1 rfl rfl).1
    obtain ⟨h0, hr⟩ := hval 2 53 a rfl rfl
    obtain ⟨p, i, j, rfl, hv⟩ := okv_slice h0 Try.underlying53
    obtain ⟨o1, p1, q1, c1, T1, f1, ms, e1, hk, hg, hb⟩ := reads_slice (sz := 5) hr Try.underlying53 (by kernel_rfl) rfl hv evC evC_len (fun x => EmOk x ∧ ∀ b, x.ob = some b → W.heap[b]? = some (.cells x.cs x.T x.fr)) (fun es hl h => event_of hl h)
    rw [e1]
    have x0 : (0 : Int) ≤ n0 := x0
    have y0 : n0 ≤ (18446744073709551615 : Int) := y0
    obtain ⟨t, rfl⟩ := Int.eq_ofNat_of_zero_le x0
    exact ⟨_, has_cons (has_mapK evK ms (fun x hx => (hg x hx).2)) hb, scriptSends_all t (by omega) q hq o1 p1 q1 c1 T1 f1 ms hk (fun x hx => (hg x hx).1)⟩)


theorem scriptSends_holds : Rows.ScriptSendsSaid :=
  OpenClaim.holds_of_wide 7 Try.f7 rfl rfl rfl rfl rfl rfl rfl ⟨rfl, rfl, rfl, rfl, rfl⟩ rfl rfl rfl rfl rfl (by kernel_rfl) Try.func7 (by kernel_rfl)
    (of_decide_eq_true (by kernel_rfl)) (by unfold Func.isWrapper; rw [if_neg (by decide +kernel)]; exact ⟨rfl, rfl⟩)
    (fun os started H enc _ => law_lifted (s := Rows.scriptSendsSpec) os started H enc Try.func7 (by kernel_rfl)
      (ChangeSpec.witness6 (enc := enc) (C := Try.checked) false ⟨#[], #[.int .u64 0, .agg #[.int .i64 0, .string ByteArray.empty, .string ByteArray.empty, .string ByteArray.empty, .string ByteArray.empty, .string ByteArray.empty, .string ByteArray.empty, .int .i64 0, .int .i64 0, .int .i64 0, .int .i64 0, .int .i64 0, .int .i64 0, .int .i64 0, .int .i64 0, .int .i64 0, .bool false], .slice none 0 0], []⟩ 8 (by kernel_rfl) (by kernel_rfl) (by kernel_rfl) (by kernel_rfl))
      rfl (by kernel_rfl) (by kernel_rfl) (by decide +kernel) (fun ds h => by match ds, h with | [_, _, _], _ => rfl) scriptSends_walk)
#print axioms scriptSends_holds

end
end Go.Proofs.Ytkekkalgebgokaa
