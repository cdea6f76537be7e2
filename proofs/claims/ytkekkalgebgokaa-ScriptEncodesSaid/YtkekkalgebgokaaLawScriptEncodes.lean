/- The law ScriptEncodes: of any events the program says as the document does which may be, and what they are as bytes, or why they are none; these bytes are read as the events again; the call returns true and leaves its argument as it was. -/
import Derived.Test.YtkekkalgebgokaaScriptL
import Derived.Test.YtkekkalgebgokaaLaw4
set_option linter.unusedSimpArgs false
set_option linter.unusedVariables false
namespace Go.Proofs.Ytkekkalgebgokaa
open Go.ChangeShapes Go.WideShapes Go.ChangeAt Go.RowKit

section
theorem infLawScriptEncodes_58 : Try.prog.info? 58 = some Try.t58 := by kernel_rfl

set_option maxRecDepth 100000 in
set_option maxHeartbeats 1000000 in
theorem scriptEncodes_all (o1 : Option Nat) (p1 q1 : Nat) (c1 : Array Value) (T1 : TypeId) (f1 : Nat × Nat) (ms : List Em) (h1 : Sees 5 o1 p1 q1 c1 (ms.flatMap evC) ms.length) (hok : ∀ m ∈ ms, EmOk m) :
    Ct Try.prog 5 [sv o1 p1 ms.length q1] ((o1, .cells c1 T1 f1) :: ms.map evK) [] fun v post => v = .bool true ∧ post = [] := by
 have hl1 := h1.le
 have hl2 := h1.max
 refine ct_of Try.func5 rfl rfl (fun w0 => ?_)
 show G _ _ [(0, _)] _ _
 refine G_seq ?_
 refine G_region (l := [0]) rfl ?_
 refine G_val rfl rfl rfl rfl (V_assign rfl rfl) ?_
 refine G_done ?_
 refine G_seq ?_
 refine G_seq ?_
 refine G_region (l := [0, 1]) rfl ?_
 refine G_val rfl rfl rfl rfl (V_move rfl rfl) ?_
 refine G_callM (L2 := []) rfl rfl rfl rfl rfl rfl Try.call19 (sl_large _ _ _ _ _ _ ms h1 hok) [] rfl (subA_cons (List.mem_append_left _ (mem_at 0 rfl)) subA_nil) ?_
 rintro v post ⟨rfl, rfl⟩
 refine G_done ?_
 refine G_if rfl (fun hc1 => ?_) (fun hc1 => ?_)
 · skip
   refine G_seq ?_
   refine G_region (l := [0, 1]) rfl ?_
   refine G_callM (L2 := []) rfl rfl rfl rfl rfl rfl Try.call20 (rl_live) [] rfl subA_nil ?_
   rintro v post ⟨rfl, rfl⟩
   refine G_val rfl rfl rfl rfl (V_assign rfl rfl) ?_
   refine G_done ?_
   refine G_ret (post := []) Try.func5 rfl (RVs_cons (RV_tmp rfl) RVs_nil) [] rfl ?_
   dsimp only [packed]
   exact ⟨rfl, rfl⟩
 refine G_skip ?_
 refine G_seq ?_
 refine G_seq ?_
 have hlg := largeS_no (by assumption)
 refine G_region (l := [0]) rfl ?_
 refine G_val rfl rfl rfl rfl (V_assign rfl rfl) ?_
 refine G_done ?_
 refine G_block ?_
 refine G_sub ?he4 [] ?hl4 (G_loop (X := Nat) (fun i => i ≤ ms.length) (fun i => ms.length - i) (fun i => [(0, sv o1 p1 ms.length q1), (3, .int .i64 (i : Int))]) (fun i => []) ?round4 0 ?h04)
 case he4 => exact (And.intro rfl (And.intro rfl trivial))
 case hl4 => exact ⟨_, rfl⟩
 case h04 => exact Nat.zero_le _
 case round4 =>
  intro i hJ ih
  try dsimp only at hJ ih
  refine G_seq ?_
  refine G_seq ?_
  refine G_region (l := [0, 1, 2, 3]) rfl ?_
  refine G_val rfl rfl rfl rfl (V_move rfl rfl) ?_
  refine G_val rfl rfl rfl rfl (V_move rfl rfl) ?_
  refine G_val rfl rfl rfl rfl (V_len rfl rfl Try.underlying53 rfl) ?_
  refine G_val rfl rfl rfl rfl (V_lss rfl rfl rfl) ?_
  refine G_done ?_
  refine G_ifD rfl (fun hc2 => ?_) (fun hc2 => ?_)
  · skip
    refine G_skip ?_
    refine G_seq ?_
    refine G_block ?_
    refine G_seq ?_
    obtain ⟨x, hx⟩ := getI (show i < ms.length by omega)
    obtain ⟨b1, rfl⟩ := h1.isSome (by omega)
    have hxo := hok x (List.mem_of_getElem? hx)
    refine G_draw mixedK (by kernel_rfl) ?_
    refine GQ_val rfl rfl rfl rfl (V_move rfl rfl) ?_
    refine GQ_val rfl rfl rfl rfl (V_move rfl rfl) ?_
    first
      | refine GQ_val rfl rfl rfl rfl (V_indexAddrN (s := 5) rfl Try.underlying53 infLawScriptEncodes_58 rfl rfl rfl rfl (by omega)) ?_
      | refine GQ_val rfl rfl rfl rfl (V_indexAddr (s := 5) rfl Try.underlying53 infLawScriptEncodes_58 rfl rfl rfl (by omega) (by first | omega | (simp [evC, evV, kC, evS, Sl.v]; done) | (simp [evC, evV, kC, evS, Sl.v]; omega) | (simp [evC, evV, kC, evS, Sl.v] at *; omega))) ?_
    refine GQ_val rfl rfl rfl rfl (V_loadA (s := 5) (vs := (evC x).toArray) rfl rfl (List.mem_append_left _ (mem_at 0 rfl)) Try.underlying58 rfl infLawScriptEncodes_58 rfl (h1.elem evC_len hx) (by first | rfl | (simp [bcells_length, evC, evV, kC, evS, Sl.v]; done) | (simp [bcells_length, evC, evV, kC, evS, Sl.v]; omega) | (simp [bcells_length, *, evC, evV, kC, evS, Sl.v]; done))) ?_
    refine GQ_callM rfl rfl rfl rfl rfl rfl Try.call21 (sc_may x hxo) (subA_cons (List.mem_append_left _ (List.mem_cons_of_mem _ (List.mem_map.2 ⟨x, List.mem_of_getElem? hx, rfl⟩))) subA_nil) (fun v post hp => (hp : _ ∧ _).1) ?_
    refine GQ_val rfl rfl rfl rfl (V_move rfl rfl) ?_
    refine GQ_val rfl rfl rfl rfl (V_move rfl rfl) ?_
    first
      | refine GQ_val rfl rfl rfl rfl (V_indexAddrN (s := 5) rfl Try.underlying53 infLawScriptEncodes_58 rfl rfl rfl rfl (by omega)) ?_
      | refine GQ_val rfl rfl rfl rfl (V_indexAddr (s := 5) rfl Try.underlying53 infLawScriptEncodes_58 rfl rfl rfl (by omega) (by first | omega | (simp [evC, evV, kC, evS, Sl.v]; done) | (simp [evC, evV, kC, evS, Sl.v]; omega) | (simp [evC, evV, kC, evS, Sl.v] at *; omega))) ?_
    refine GQ_val rfl rfl rfl rfl (V_loadA (s := 5) (vs := (evC x).toArray) rfl rfl (List.mem_append_left _ (mem_at 0 rfl)) Try.underlying58 rfl infLawScriptEncodes_58 rfl (h1.elem evC_len hx) (by first | rfl | (simp [bcells_length, evC, evV, kC, evS, Sl.v]; done) | (simp [bcells_length, evC, evV, kC, evS, Sl.v]; omega) | (simp [bcells_length, *, evC, evV, kC, evS, Sl.v]; done))) ?_
    refine GQ_callM rfl rfl rfl rfl rfl rfl Try.call22 (rsc_may x hxo) (subA_cons (List.mem_append_left _ (List.mem_cons_of_mem _ (List.mem_map.2 ⟨x, List.mem_of_getElem? hx, rfl⟩))) subA_nil) (fun v post hp => (hp : _ ∧ _).1) ?_
    refine GQ_val rfl rfl rfl rfl (V_bneq rfl Try.underlying4 rfl rfl) ?_
    refine GQ_done rfl ?_
    refine G_ifD rfl (fun hc3 => ?_) (fun hc3 => ?_)
    · (first | contradiction | (exact absurd rfl hc3) | (exfalso; omega) | (simp at hc3; done) | (exact absurd hc3 (by decide)) | (exact absurd (by decide) hc3))
    refine G_skip ?_
    refine G_inBlock ?_
    refine G_region (l := [0, 1, 2]) rfl ?_
    refine G_val rfl rfl rfl rfl (V_move rfl rfl) ?_
    first
      | refine G_val rfl rfl rfl rfl ((V_add rfl rfl rfl).int (wrap_i64 (by omega))) ?_
      | refine G_val rfl rfl rfl rfl (V_add rfl rfl rfl) ?_
    refine G_val rfl rfl rfl rfl (V_assign rfl rfl) ?_
    refine G_done ?_
    refine G_sub ?_ [] ?_ (ih (i + 1) ?_ ?_)
    · (refine (And.intro ?_ (And.intro ?_ trivial)) <;> first | rfl | exact slot_int (by omega) | exact slot_int (by simp))
    · exact ⟨_, rfl⟩
    · omega
    · (first | omega | (dsimp only; omega))
  refine G_exit rfl ?_
  refine G_seq ?_
  rcases scr3 (evsOf ms) (evs_t hok) with ⟨hg, hs⟩ | hs | hs
  · skip
    refine G_region (l := [0, 1, 2, 3, 4, 5, 6]) rfl ?_
    refine G_val rfl rfl rfl rfl (V_move rfl rfl) ?_
    refine G_callM (L2 := []) rfl rfl rfl rfl rfl rfl Try.call23 ((sc_encode _ _ _ _ _ _ ms h1 hok).weaken (fun v post h => by rw [hs] at h; exact h)) [] rfl (fun x hx => List.mem_append_left _ hx) ?_
    rintro v post ⟨rfl, rfl⟩
    refine G_val rfl rfl rfl rfl (V_move rfl rfl) ?_
    refine G_val rfl rfl rfl rfl (V_extract rfl rfl rfl) ?_
    refine G_val rfl rfl rfl rfl (V_extract rfl rfl rfl) ?_
    refine G_val rfl rfl rfl rfl (V_assign rfl rfl) ?_
    refine G_val rfl rfl rfl rfl (V_assign rfl rfl) ?_
    refine G_done ?_
    refine G_seq ?_
    refine G_region (l := [0, 1, 2, 3, 4, 5, 6]) rfl ?_
    refine G_val rfl rfl rfl rfl (V_move rfl rfl) ?_
    refine G_callM (L2 := []) rfl rfl rfl rfl rfl rfl Try.call24 ((rsc_encode _ _ _ _ _ _ ms h1 hok).weaken (fun v post h => by rw [hs] at h; exact h)) [] rfl (fun x hx => List.mem_append_left _ hx) ?_
    rintro v post ⟨rfl, rfl⟩
    refine G_val rfl rfl rfl rfl (V_move rfl rfl) ?_
    refine G_val rfl rfl rfl rfl (V_extract rfl rfl rfl) ?_
    refine G_val rfl rfl rfl rfl (V_extract rfl rfl rfl) ?_
    refine G_val rfl rfl rfl rfl (V_assign rfl rfl) ?_
    refine G_val rfl rfl rfl rfl (V_assign rfl rfl) ?_
    refine G_done ?_
    refine G_seq ?_
    refine G_seq ?_
    refine G_region (l := [0, 1, 2, 3, 4, 5, 6, 7, 8]) rfl ?_
    refine G_val rfl rfl rfl rfl (V_move rfl rfl) ?_
    refine G_val rfl rfl rfl rfl (V_move rfl rfl) ?_
    refine G_val rfl rfl rfl rfl (V_sneq rfl rfl rfl) ?_
    refine G_val rfl rfl rfl rfl (V_move rfl rfl) ?_
    refine G_splitD 43 rfl (fun hc3 => ?_) (fun hc3 => ?_)
    · (first | contradiction | (exact absurd rfl hc3) | (exfalso; omega) | (simp at hc3; done) | (exact absurd hc3 (by decide)) | (exact absurd (by decide) hc3))
    refine G_val rfl rfl rfl rfl (V_move rfl rfl) ?_
    refine G_callM (L2 := []) rfl rfl rfl rfl rfl rfl Try.call25 (rl_num _) [] rfl subA_nil ?_
    rintro v post ⟨rfl, rfl⟩
    refine G_val rfl rfl rfl rfl (V_move rfl rfl) ?_
    refine G_val rfl rfl rfl rfl (V_neq rfl rfl rfl) ?_
    refine G_val rfl rfl rfl rfl (V_pickF rfl rfl rfl) ?_
    refine G_done ?_
    refine G_ifD rfl (fun hc4 => ?_) (fun hc4 => ?_)
    · (first | contradiction | (exact absurd rfl hc4) | (exfalso; omega) | (simp at hc4; done) | (exact absurd hc4 (by decide)) | (exact absurd (by decide) hc4))
    refine G_skip ?_
    refine G_seq ?_
    refine G_region (l := [0, 1, 2, 3, 4, 5, 6]) rfl ?_
    refine G_val rfl rfl rfl rfl (V_move rfl rfl) ?_
    refine G_callM (L2 := []) rfl rfl rfl rfl rfl rfl Try.call26 (sc_decode (encS (evsOf ms)) (by have := encS_len hg; omega)) [] rfl subA_nil ?_
    rintro v post ⟨u, ns, c, hu, hoks, hnl, hd1, rfl, rfl⟩
    refine G_perm (perm_in0 [_] [] _) ?_
    show G _ _ _ (_ :: _) _
    obtain ⟨rfl, hes⟩ := dec_enc hg hd1
    refine G_val rfl rfl rfl rfl (V_move rfl rfl) ?_
    refine G_val rfl rfl rfl rfl (V_extract rfl rfl rfl) ?_
    refine G_val rfl rfl rfl rfl (V_extract rfl rfl rfl) ?_
    refine G_val rfl rfl rfl rfl (V_assign rfl rfl) ?_
    refine G_val rfl rfl rfl rfl (V_assign rfl rfl) ?_
    refine G_done ?_
    refine G_seq ?_
    refine G_region (l := [0, 1, 2, 3, 4, 5, 6, 7, 8, 9, 10, 11, 12, 13, 14, 15]) rfl ?_
    refine G_val rfl rfl rfl rfl (V_move rfl rfl) ?_
    refine G_val rfl rfl rfl rfl (V_neq rfl rfl rfl) ?_
    refine G_val rfl rfl rfl rfl (V_move rfl rfl) ?_
    refine G_splitD 56 rfl (fun hc5 => ?_) (fun hc5 => ?_)
    · (first | contradiction | (exact absurd rfl hc5) | (exfalso; omega) | (simp at hc5; done) | (exact absurd hc5 (by decide)) | (exact absurd (by decide) hc5))
    refine G_val rfl rfl rfl rfl (V_move rfl rfl) ?_
    refine G_val rfl rfl rfl rfl (V_move rfl rfl) ?_
    refine G_callM (L2 := (_ :: _)) rfl rfl rfl rfl rfl rfl Try.call27 ((rsc_same u.ob 0 u.cap u.cs 58 u.fz ns hu.sees hoks _ _ _ _ _ _ ms h1 hok).weaken (fun v post h => by rw [decide_eq_true hes] at h; exact h)) [] rfl (by intro x hx; simp only [List.mem_cons, List.mem_append] at hx; rcases hx with h | h | h | h <;> first | exact List.mem_append_right _ (by first | exact List.mem_cons.2 (.inl h) | exact List.mem_cons_of_mem _ h) | exact List.mem_append_left _ (by first | exact List.mem_cons.2 (.inl h) | exact List.mem_cons_of_mem _ h)) ?_
    rintro v post ⟨rfl, rfl⟩
    show G _ _ _ (_ :: _) _
    refine G_val rfl rfl rfl rfl (V_move rfl rfl) ?_
    refine G_val rfl rfl rfl rfl (V_move rfl rfl) ?_
    refine G_callM (L2 := (_ :: _)) rfl rfl rfl rfl rfl rfl Try.call25 (rl_num _) [] rfl subA_nil ?_
    rintro v post ⟨rfl, rfl⟩
    show G _ _ _ (_ :: _) _
    refine G_val rfl rfl rfl rfl (V_eql rfl rfl rfl) ?_
    refine G_val rfl rfl rfl rfl (V_pickT rfl rfl rfl) ?_
    refine G_val rfl rfl rfl rfl (V_pickF rfl rfl rfl) ?_
    refine G_val rfl rfl rfl rfl (V_move rfl rfl) ?_
    refine G_splitD 66 rfl (fun hc6 => ?_) (fun hc6 => ?_)
    rotate_left
    · (first | contradiction | (exact absurd rfl hc6) | (exfalso; omega) | (simp at hc6; done) | (exact absurd hc6 (by decide)) | (exact absurd (by decide) hc6))
    refine G_callM (L2 := (_ :: _)) rfl rfl rfl rfl rfl rfl Try.call20 (rl_live) [] rfl subA_nil ?_
    rintro v post ⟨rfl, rfl⟩
    show G _ _ _ (_ :: _) _
    refine G_val rfl rfl rfl rfl (V_pickT rfl rfl rfl) ?_
    refine G_val rfl rfl rfl rfl (V_assign rfl rfl) ?_
    refine G_done ?_
    refine G_ret (post := []) Try.func5 rfl (RVs_cons (RV_tmp rfl) RVs_nil) [] rfl ?_
    dsimp only [packed]
    exact ⟨rfl, rfl⟩
  · skip
    refine G_region (l := [0, 1, 2, 3, 4, 5, 6]) rfl ?_
    refine G_val rfl rfl rfl rfl (V_move rfl rfl) ?_
    refine G_callM (L2 := []) rfl rfl rfl rfl rfl rfl Try.call23 ((sc_encode _ _ _ _ _ _ ms h1 hok).weaken (fun v post h => by rw [hs] at h; exact h)) [] rfl (fun x hx => List.mem_append_left _ hx) ?_
    rintro v post ⟨rfl, rfl⟩
    refine G_val rfl rfl rfl rfl (V_move rfl rfl) ?_
    refine G_val rfl rfl rfl rfl (V_extract rfl rfl rfl) ?_
    refine G_val rfl rfl rfl rfl (V_extract rfl rfl rfl) ?_
    refine G_val rfl rfl rfl rfl (V_assign rfl rfl) ?_
    refine G_val rfl rfl rfl rfl (V_assign rfl rfl) ?_
    refine G_done ?_
    refine G_seq ?_
    refine G_region (l := [0, 1, 2, 3, 4, 5, 6]) rfl ?_
    refine G_val rfl rfl rfl rfl (V_move rfl rfl) ?_
    refine G_callM (L2 := []) rfl rfl rfl rfl rfl rfl Try.call24 ((rsc_encode _ _ _ _ _ _ ms h1 hok).weaken (fun v post h => by rw [hs] at h; exact h)) [] rfl (fun x hx => List.mem_append_left _ hx) ?_
    rintro v post ⟨rfl, rfl⟩
    refine G_val rfl rfl rfl rfl (V_move rfl rfl) ?_
    refine G_val rfl rfl rfl rfl (V_extract rfl rfl rfl) ?_
    refine G_val rfl rfl rfl rfl (V_extract rfl rfl rfl) ?_
    refine G_val rfl rfl rfl rfl (V_assign rfl rfl) ?_
    refine G_val rfl rfl rfl rfl (V_assign rfl rfl) ?_
    refine G_done ?_
    refine G_seq ?_
    refine G_seq ?_
    refine G_region (l := [0, 1, 2, 3, 4, 5, 6, 7, 8]) rfl ?_
    refine G_val rfl rfl rfl rfl (V_move rfl rfl) ?_
    refine G_val rfl rfl rfl rfl (V_move rfl rfl) ?_
    refine G_val rfl rfl rfl rfl (V_sneq rfl rfl rfl) ?_
    refine G_val rfl rfl rfl rfl (V_move rfl rfl) ?_
    refine G_splitD 43 rfl (fun hc3 => ?_) (fun hc3 => ?_)
    · (first | contradiction | (exact absurd rfl hc3) | (exfalso; omega) | (simp at hc3; done) | (exact absurd hc3 (by decide)) | (exact absurd (by decide) hc3))
    refine G_val rfl rfl rfl rfl (V_move rfl rfl) ?_
    refine G_callM (L2 := []) rfl rfl rfl rfl rfl rfl Try.call25 (rl_num _) [] rfl subA_nil ?_
    rintro v post ⟨rfl, rfl⟩
    refine G_val rfl rfl rfl rfl (V_move rfl rfl) ?_
    refine G_val rfl rfl rfl rfl (V_neq rfl rfl rfl) ?_
    refine G_val rfl rfl rfl rfl (V_pickF rfl rfl rfl) ?_
    refine G_done ?_
    refine G_ifD rfl (fun hc4 => ?_) (fun hc4 => ?_)
    · (first | contradiction | (exact absurd rfl hc4) | (exfalso; omega) | (simp at hc4; done) | (exact absurd hc4 (by decide)) | (exact absurd (by decide) hc4))
    refine G_skip ?_
    refine G_seq ?_
    refine G_region (l := [0, 1, 2, 3, 4, 5, 6]) rfl ?_
    refine G_val rfl rfl rfl rfl (V_move rfl rfl) ?_
    refine G_callM (L2 := []) rfl rfl rfl rfl rfl rfl Try.call26 (sc_decode [] (by simp)) [] rfl subA_nil ?_
    rintro v post ⟨u, ns, c, hu, hoks, hnl, hd1, rfl, rfl⟩
    refine G_perm (perm_in0 [_] [] _) ?_
    show G _ _ _ (_ :: _) _
    refine G_val rfl rfl rfl rfl (V_move rfl rfl) ?_
    refine G_val rfl rfl rfl rfl (V_extract rfl rfl rfl) ?_
    refine G_val rfl rfl rfl rfl (V_extract rfl rfl rfl) ?_
    refine G_val rfl rfl rfl rfl (V_assign rfl rfl) ?_
    refine G_val rfl rfl rfl rfl (V_assign rfl rfl) ?_
    refine G_done ?_
    refine G_seq ?_
    refine G_region (l := [0, 1, 2, 3, 4, 5, 6, 7, 8, 9, 10, 11, 12, 13, 14, 15]) rfl ?_
    refine G_val rfl rfl rfl rfl (V_move rfl rfl) ?_
    refine G_val rfl rfl rfl rfl (V_neq rfl rfl rfl) ?_
    refine G_val rfl rfl rfl rfl (V_move rfl rfl) ?_
    refine G_splitD 56 rfl (fun hc5 => ?_) (fun hc5 => ?_)
    rotate_left
    · (first | contradiction | (exact absurd rfl hc5) | (exfalso; omega) | (simp at hc5; done) | (exact absurd hc5 (by decide)) | (exact absurd (by decide) hc5))
    refine G_off rfl rfl rfl rfl ?_
    refine G_off rfl rfl rfl rfl ?_
    refine G_off rfl rfl rfl rfl ?_
    refine G_off rfl rfl rfl rfl ?_
    refine G_off rfl rfl rfl rfl ?_
    refine G_off rfl rfl rfl rfl ?_
    refine G_off rfl rfl rfl rfl ?_
    refine G_off rfl rfl rfl rfl ?_
    refine G_val rfl rfl rfl rfl (V_pickT rfl rfl rfl) ?_
    refine G_val rfl rfl rfl rfl (V_move rfl rfl) ?_
    refine G_callM (L2 := (_ :: _)) rfl rfl rfl rfl rfl rfl Try.call20 (rl_live) [] rfl subA_nil ?_
    rintro v post ⟨rfl, rfl⟩
    show G _ _ _ (_ :: _) _
    refine G_val rfl rfl rfl rfl (V_pickT rfl rfl rfl) ?_
    refine G_val rfl rfl rfl rfl (V_assign rfl rfl) ?_
    refine G_done ?_
    refine G_ret (post := []) Try.func5 rfl (RVs_cons (RV_tmp rfl) RVs_nil) [] rfl ?_
    dsimp only [packed]
    exact ⟨rfl, rfl⟩
  · skip
    refine G_region (l := [0, 1, 2, 3, 4, 5, 6]) rfl ?_
    refine G_val rfl rfl rfl rfl (V_move rfl rfl) ?_
    refine G_callM (L2 := []) rfl rfl rfl rfl rfl rfl Try.call23 ((sc_encode _ _ _ _ _ _ ms h1 hok).weaken (fun v post h => by rw [hs] at h; exact h)) [] rfl (fun x hx => List.mem_append_left _ hx) ?_
    rintro v post ⟨rfl, rfl⟩
    refine G_val rfl rfl rfl rfl (V_move rfl rfl) ?_
    refine G_val rfl rfl rfl rfl (V_extract rfl rfl rfl) ?_
    refine G_val rfl rfl rfl rfl (V_extract rfl rfl rfl) ?_
    refine G_val rfl rfl rfl rfl (V_assign rfl rfl) ?_
    refine G_val rfl rfl rfl rfl (V_assign rfl rfl) ?_
    refine G_done ?_
    refine G_seq ?_
    refine G_region (l := [0, 1, 2, 3, 4, 5, 6]) rfl ?_
    refine G_val rfl rfl rfl rfl (V_move rfl rfl) ?_
    refine G_callM (L2 := []) rfl rfl rfl rfl rfl rfl Try.call24 ((rsc_encode _ _ _ _ _ _ ms h1 hok).weaken (fun v post h => by rw [hs] at h; exact h)) [] rfl (fun x hx => List.mem_append_left _ hx) ?_
    rintro v post ⟨rfl, rfl⟩
    refine G_val rfl rfl rfl rfl (V_move rfl rfl) ?_
    refine G_val rfl rfl rfl rfl (V_extract rfl rfl rfl) ?_
    refine G_val rfl rfl rfl rfl (V_extract rfl rfl rfl) ?_
    refine G_val rfl rfl rfl rfl (V_assign rfl rfl) ?_
    refine G_val rfl rfl rfl rfl (V_assign rfl rfl) ?_
    refine G_done ?_
    refine G_seq ?_
    refine G_seq ?_
    refine G_region (l := [0, 1, 2, 3, 4, 5, 6, 7, 8]) rfl ?_
    refine G_val rfl rfl rfl rfl (V_move rfl rfl) ?_
    refine G_val rfl rfl rfl rfl (V_move rfl rfl) ?_
    refine G_val rfl rfl rfl rfl (V_sneq rfl rfl rfl) ?_
    refine G_val rfl rfl rfl rfl (V_move rfl rfl) ?_
    refine G_splitD 43 rfl (fun hc3 => ?_) (fun hc3 => ?_)
    · (first | contradiction | (exact absurd rfl hc3) | (exfalso; omega) | (simp at hc3; done) | (exact absurd hc3 (by decide)) | (exact absurd (by decide) hc3))
    refine G_val rfl rfl rfl rfl (V_move rfl rfl) ?_
    refine G_callM (L2 := []) rfl rfl rfl rfl rfl rfl Try.call25 (rl_num _) [] rfl subA_nil ?_
    rintro v post ⟨rfl, rfl⟩
    refine G_val rfl rfl rfl rfl (V_move rfl rfl) ?_
    refine G_val rfl rfl rfl rfl (V_neq rfl rfl rfl) ?_
    refine G_val rfl rfl rfl rfl (V_pickF rfl rfl rfl) ?_
    refine G_done ?_
    refine G_ifD rfl (fun hc4 => ?_) (fun hc4 => ?_)
    · (first | contradiction | (exact absurd rfl hc4) | (exfalso; omega) | (simp at hc4; done) | (exact absurd hc4 (by decide)) | (exact absurd (by decide) hc4))
    refine G_skip ?_
    refine G_seq ?_
    refine G_region (l := [0, 1, 2, 3, 4, 5, 6]) rfl ?_
    refine G_val rfl rfl rfl rfl (V_move rfl rfl) ?_
    refine G_callM (L2 := []) rfl rfl rfl rfl rfl rfl Try.call26 (sc_decode [] (by simp)) [] rfl subA_nil ?_
    rintro v post ⟨u, ns, c, hu, hoks, hnl, hd1, rfl, rfl⟩
    refine G_perm (perm_in0 [_] [] _) ?_
    show G _ _ _ (_ :: _) _
    refine G_val rfl rfl rfl rfl (V_move rfl rfl) ?_
    refine G_val rfl rfl rfl rfl (V_extract rfl rfl rfl) ?_
    refine G_val rfl rfl rfl rfl (V_extract rfl rfl rfl) ?_
    refine G_val rfl rfl rfl rfl (V_assign rfl rfl) ?_
    refine G_val rfl rfl rfl rfl (V_assign rfl rfl) ?_
    refine G_done ?_
    refine G_seq ?_
    refine G_region (l := [0, 1, 2, 3, 4, 5, 6, 7, 8, 9, 10, 11, 12, 13, 14, 15]) rfl ?_
    refine G_val rfl rfl rfl rfl (V_move rfl rfl) ?_
    refine G_val rfl rfl rfl rfl (V_neq rfl rfl rfl) ?_
    refine G_val rfl rfl rfl rfl (V_move rfl rfl) ?_
    refine G_splitD 56 rfl (fun hc5 => ?_) (fun hc5 => ?_)
    rotate_left
    · (first | contradiction | (exact absurd rfl hc5) | (exfalso; omega) | (simp at hc5; done) | (exact absurd hc5 (by decide)) | (exact absurd (by decide) hc5))
    refine G_off rfl rfl rfl rfl ?_
    refine G_off rfl rfl rfl rfl ?_
    refine G_off rfl rfl rfl rfl ?_
    refine G_off rfl rfl rfl rfl ?_
    refine G_off rfl rfl rfl rfl ?_
    refine G_off rfl rfl rfl rfl ?_
    refine G_off rfl rfl rfl rfl ?_
    refine G_off rfl rfl rfl rfl ?_
    refine G_val rfl rfl rfl rfl (V_pickT rfl rfl rfl) ?_
    refine G_val rfl rfl rfl rfl (V_move rfl rfl) ?_
    refine G_callM (L2 := (_ :: _)) rfl rfl rfl rfl rfl rfl Try.call20 (rl_live) [] rfl subA_nil ?_
    rintro v post ⟨rfl, rfl⟩
    show G _ _ _ (_ :: _) _
    refine G_val rfl rfl rfl rfl (V_pickT rfl rfl rfl) ?_
    refine G_val rfl rfl rfl rfl (V_assign rfl rfl) ?_
    refine G_done ?_
    refine G_ret (post := []) Try.func5 rfl (RVs_cons (RV_tmp rfl) RVs_nil) [] rfl ?_
    dsimp only [packed]
    exact ⟨rfl, rfl⟩


instance : Inhabited (Int × Int) := ⟨(0, 0)⟩
theorem keep_of {W : World} {es : List Value} (hl : es.length = 2) (h : Reads Try.prog W 151 es) : ∃ x : Int × Int, es = kC x ∧ (-9223372036854775808 ≤ x.1 ∧ x.1 ≤ 9223372036854775807) ∧ (-9223372036854775808 ≤ x.2 ∧ x.2 ≤ 9223372036854775807) := by
  match es, hl with
  | [v0, v1], _ =>
    obtain ⟨n0, e0, a0, b0⟩ := reads_int (reads_field (s := 1) (vs := [v0]) h Try.underlying151 0 _ rfl (by kernel_rfl) rfl) Try.underlying3
    obtain ⟨n1, e1, a1, b1⟩ := reads_int (reads_field (s := 1) (vs := [v1]) h Try.underlying151 1 _ rfl (by kernel_rfl) rfl) Try.underlying3
    simp only [List.cons.injEq, and_true] at e0 e1
    subst e0 e1
    exact ⟨(n0, n1), rfl, ⟨a0, b0⟩, ⟨a1, b1⟩⟩
set_option maxRecDepth 100000 in
theorem event_of {W : World} {es : List Value} (hl : es.length = 5) (h : Reads Try.prog W 58 es) : ∃ a : Em, es = evC a ∧ EmOk a ∧ ∀ b, a.ob = some b → W.heap[b]? = some (.cells a.cs a.T a.fr) := by
  match es, hl with
  | [v0, v1, v2, v3, v4], _ =>
    obtain ⟨n0, e0, x0, y0⟩ := reads_int (reads_field (s := 1) (vs := [v0]) h Try.underlying58 0 _ rfl (by kernel_rfl) rfl) Try.underlying3
    obtain ⟨t, e1, pt⟩ := reads_str (reads_field (s := 1) (vs := [v1]) h Try.underlying58 1 _ rfl (by kernel_rfl) rfl) Try.underlying9
    obtain ⟨n2, e2, x2, y2⟩ := reads_int (reads_field (s := 1) (vs := [v2]) h Try.underlying58 2 _ rfl (by kernel_rfl) rfl) Try.underlying23
    obtain ⟨n3, e3, x3, y3⟩ := reads_int (reads_field (s := 1) (vs := [v3]) h Try.underlying58 3 _ rfl (by kernel_rfl) rfl) Try.underlying3
    obtain ⟨p, ob, off, cap, c, T, fr, ks, e4, hle, hmax, hs, hg, hb⟩ := reads_slice2 (sz := 2) (reads_field (s := 1) (vs := [v4]) h Try.underlying58 4 _ rfl (by kernel_rfl) rfl) Try.underlying56 (by kernel_rfl) (by omega) kC kC_len (fun x => (-9223372036854775808 ≤ x.1 ∧ x.1 ≤ 9223372036854775807) ∧ (-9223372036854775808 ≤ x.2 ∧ x.2 ≤ 9223372036854775807)) (fun es hl h => keep_of hl h)
    simp only [List.cons.injEq, and_true] at e0 e1 e2 e3 e4
    subst e0 e1 e2 e3 e4
    have x2 : (0 : Int) ≤ n2 := x2
    have y2 : n2 ≤ (18446744073709551615 : Int) := y2
    obtain ⟨m2, rfl⟩ := Int.eq_ofNat_of_zero_le x2
    exact ⟨⟨⟨n0, t, m2, n3, ks⟩, p, ob, off, cap, c, T, fr⟩, rfl, ⟨⟨x0, y0⟩, pt, by show m2 < _; omega, ⟨x3, y3⟩, hg, hle, hmax, hs⟩, hb⟩
set_option maxRecDepth 100000 in
theorem scriptEncodes_walk : LawWalk 5 Try.f5 := lawwalk_reads (fun W base args hs hval => by
  rw [Try.params5] at hs hval
  obtain ⟨l⟩ := args
  match l, hs with
  | [a], _ =>
    obtain ⟨h0, hr⟩ := hval 0 53 a rfl rfl
    obtain ⟨p, i, j, rfl, hv⟩ := okv_slice h0 Try.underlying53
    obtain ⟨o1, p1, q1, c1, T1, f1, ms, e1, hk, hg, hb⟩ := reads_slice (sz := 5) hr Try.underlying53 (by kernel_rfl) rfl hv evC evC_len (fun x => EmOk x ∧ ∀ b, x.ob = some b → W.heap[b]? = some (.cells x.cs x.T x.fr)) (fun es hl h => event_of hl h)
    rw [e1]
    exact ⟨_, has_cons (has_mapK evK ms (fun x hx => (hg x hx).2)) hb, scriptEncodes_all o1 p1 q1 c1 T1 f1 ms hk (fun x hx => (hg x hx).1)⟩)


theorem scriptEncodes_holds : Rows.ScriptEncodesSaid :=
  OpenClaim.holds_of_wide 5 Try.f5 rfl rfl rfl rfl rfl rfl rfl ⟨rfl, rfl, rfl, rfl, rfl⟩ rfl rfl rfl rfl rfl (by kernel_rfl) Try.func5 (by kernel_rfl)
    (of_decide_eq_true (by kernel_rfl)) (by unfold Func.isWrapper; rw [if_neg (by decide +kernel)]; exact ⟨rfl, rfl⟩)
    (fun os started H enc _ => law_lifted (s := Rows.scriptEncodesSpec) os started H enc Try.func5 (by kernel_rfl)
      (ChangeSpec.witness6 (enc := enc) (C := Try.checked) false ⟨#[], #[.slice none 0 0], []⟩ 8 (by kernel_rfl) (by kernel_rfl) (by kernel_rfl) (by kernel_rfl))
      rfl (by kernel_rfl) (by kernel_rfl) (by decide +kernel) (fun ds h => by match ds, h with | [_], _ => rfl) scriptEncodes_walk)
#print axioms scriptEncodes_holds

end
end Go.Proofs.Ytkekkalgebgokaa
