/- What the law ScriptSends needs, part 5. -/
import Derived.Test.YtkekkalgebgokaaPkScriptSends1
import Derived.Test.YtkekkalgebgokaaPkScriptSends2
import Derived.Test.YtkekkalgebgokaaPkScriptSends3
import Derived.Test.YtkekkalgebgokaaPkScriptSends4


/- What can be read of arguments, on: slices that lie in elements of other slices. -/
set_option linter.unusedSimpArgs false
set_option linter.unusedVariables false
namespace Go.Proofs.Ytkekkalgebgokaa
open Go.Deep Go.ChangeShapes Go.WideShapes Go.ChangeAt Go.RowKit

theorem has_mapK {α : Type} (f : α → Option Nat × Obj) {W : World} : ∀ (l : List α), (∀ a ∈ l, ∀ b, (f a).1 = some b → W.heap[b]? = some (f a).2) → Has W (l.map f) []
  | [], _ => has_nil _
  | a :: r, h => has_cons (has_mapK f r (fun x hx => h x (by simp [hx]))) (h a (by simp))
theorem reads_slice2 {P : Program} {W : World} {t e : TypeId} {cs : List Value} {sz : Nat} (h : Reads P W t cs) (ht : P.underlying t = some (.slice e)) (hsz : P.cellsOf e = sz) (hz : 0 < sz) {α : Type} [Inhabited α] (f : α → List Value) (hf : ∀ a, (f a).length = sz) (good : α → Prop)
    (hel : ∀ es, es.length = sz → Reads P W e es → ∃ a, es = f a ∧ good a) :
    ∃ (p : Option Addr) (ob : Option Nat) (off cap : Nat) (c : Array Value) (T : TypeId) (fr : Nat × Nat) (l : List α), cs = [.slice p l.length cap] ∧ l.length ≤ cap ∧ cap ≤ 9223372036854775807 ∧ ((p = ob.map (fun b => ⟨b, off, none⟩) ∧ Sees sz ob off cap c (l.flatMap f) l.length) ∨ (l = [] ∧ cap = 0)) ∧ (∀ a ∈ l, good a) ∧ ∀ b, ob = some b → W.heap[b]? = some (.cells c T fr) := by
  obtain ⟨H, enc, n, x, h⟩ := h
  rcases Go.Deep.open_slice ht h with ⟨h0, _⟩ | ⟨a, len, cap, m, n, D, Pl, hcs, _, hl, hm, hmm, _, hx⟩
  · exact ⟨none, none, 0, 0, #[], 0, (0, 0), [], h0, Nat.le_refl _, by omega, .inr ⟨rfl, rfl⟩, by simp, fun b hb => by cases hb⟩
  · simp at hmm
    subst hmm
    have hm' : m ≤ 9223372036854775807 := by unfold maxLen at hm; omega
    rcases Nat.eq_zero_or_pos m with h0 | hpos
    · subst h0
      have hl0 : len = 0 := by omega
      subst hl0
      exact ⟨some a, none, 0, 0, #[], 0, (0, 0), [], hcs, Nat.le_refl _, by omega, .inr ⟨rfl, rfl⟩, by simp, fun b hb => by cases hb⟩
    · obtain ⟨bb, off, spot⟩ := a
      have hex : spot = none ∧ ∃ c T fr, W.heap[bb]? = some (.cells c T fr) := by
        obtain ⟨es, h1, _⟩ := hx 0 hpos
        rw [hsz] at h1
        obtain ⟨_, hlen, hc⟩ := World.cells?_some h1
        have h2 := hc 0 hz
        rw [List.getElem?_eq_getElem (by omega)] at h2
        cases spot with
        | none =>
          rw [addr_add, addr_add] at h2
          unfold World.cell? at h2
          split at h2
          · rename_i c T fr hb
            exact ⟨rfl, c, T, fr, hb⟩
          · cases h2
        | some s =>
          exfalso
          unfold World.cell? at h2
          split at h2
          · simp [Addr.add] at h2
          · cases h2
      obtain ⟨rfl, c, T, fr, hb⟩ := hex
      have hok : ∀ i, i < len → ∃ a : α, (∀ j, j < sz → c[off + i * sz + j]? = (f a)[j]?) ∧ good a := fun i hi => by
        obtain ⟨es, h1, h2⟩ := hx i (by omega)
        rw [hsz] at h1
        obtain ⟨_, hlen, hc⟩ := World.cells?_some h1
        obtain ⟨a, rfl, hg⟩ := hel es hlen ⟨H, enc, n, _, h2⟩
        refine ⟨a, fun j hj => ?_, hg⟩
        have := hc j hj
        rw [addr_add, addr_add, cell_of_row W bb _ c T fr hb] at this
        exact this
      obtain ⟨F, hF⟩ := choose_lt hok
      have hll : ((List.range len).map F).length = len := by simp
      refine ⟨some ⟨bb, off, none⟩, some bb, off, m, c, T, fr, (List.range len).map F, by rw [hll]; exact hcs, by rw [hll]; exact hl, hm', .inl ⟨rfl, by rw [flat_len f hf, hll], by rw [hll]; exact hl, hm', ?_, fun h => by cases h⟩, fun a ha => ?_, fun b hb' => by cases hb'; exact hb⟩
      rotate_left
      · obtain ⟨i, hi, rfl⟩ := List.mem_map.1 ha
        exact (hF i (List.mem_range.1 hi)).2
      rw [hll]
      apply List.ext_getElem?
      intro k
      have hfl : (((List.range len).map F).flatMap f).length = len * sz := by rw [flat_len f hf, hll]
      rcases Nat.lt_or_ge k (len * sz) with hk | hk
      · have hi : k / sz < len := Nat.div_lt_of_lt_mul (by rw [Nat.mul_comm]; exact hk)
        have hj : k % sz < sz := Nat.mod_lt _ hz
        have hkk : k = k / sz * sz + k % sz := by have := Nat.div_add_mod k sz; rw [Nat.mul_comm] at this; omega
        have h1 := (hF (k / sz) hi).1 (k % sz) hj
        have h2 := flat_at f hf ((List.range len).map F) (k / sz) (F (k / sz)) (by simp [hi])
        have h3 : (((List.range len).map F).flatMap f)[k]? = (f (F (k / sz)))[k % sz]? := by
          rw [← h2, List.getElem?_take, if_pos hj, List.getElem?_drop, ← hkk]
        rw [h3, ← h1, List.getElem?_take, if_pos hk, List.getElem?_drop]
        have e : off + k / sz * sz + k % sz = off + k := by omega
        rw [e]
        simp
      · rw [List.getElem?_eq_none (by rw [List.length_take]; omega), List.getElem?_eq_none (by omega)]
theorem okv_slice {P : Program} {W : World} {r : Reach} {b : Nat} {t e : TypeId} {v : Value} (h : Value.okWide P W r b t v) (ht : P.underlying t = some (.slice e)) : ∃ p i j, v = .slice p i j ∧ Cell.okWide P W r b t v := by
  have h1 := okv_cell h ht rfl
  have h2 := h1
  unfold Cell.okWide at h2
  rw [ht] at h2
  cases v <;> first | exact ⟨_, _, _, rfl, h1⟩ | (exfalso; first | exact h2 | (unfold Cell.ok at h2; rw [ht] at h2; exact h2) | (simp [Cell.ok, ht] at h2; done))
end Go.Proofs.Ytkekkalgebgokaa

/- The law ScriptEncodes: of any events the program says as the document does which may be, and what they are as bytes, or why they are none; these bytes are read as the events again; the call returns true and leaves its argument as it was. -/
set_option linter.unusedSimpArgs false
set_option linter.unusedVariables false
namespace Go.Proofs.Ytkekkalgebgokaa
open Go.ChangeShapes Go.WideShapes Go.ChangeAt Go.RowKit

section
theorem infLawScriptEncodes_58 : Try.prog.info? 58 = some Try.t58 := by kernel_rfl

set_option maxRecDepth 100000 in
set_option maxHeartbeats 1000000 in
theorem scriptEncodes_all (o1 : Option Nat) (p1 q1 : Nat) (c1 : Array Value) (T1 : TypeId) (f1 : Nat × Nat) (ms : List Em) (h1 : Sees 5 o1 p1 q1 c1 (ms.flatMap evC) ms.length) (hok : ∀ m ∈ ms, EmOk m) :
    Ct Try.prog 5 [sv o1 p1 ms.length q1] ((o1, .cells c1 T1 f1) :: ms.map evK) [] fun v post => v = .bool true ∧ post = [] := by
 have hl1 := h1.le
 have hl2 := h1.max
 refine ct_of Try.func5 rfl rfl (fun w0 => ?_)
 show G _ _ [(0, _)] _ _
 refine G_seq ?_
 refine G_region (l := [0]) rfl ?_
 refine G_val rfl rfl rfl rfl (V_assign rfl rfl) ?_
 refine G_done ?_
 refine G_seq ?_
 refine G_seq ?_
 refine G_region (l := [0, 1]) rfl ?_
 refine G_val rfl rfl rfl rfl (V_move rfl rfl) ?_
 refine G_callM (L2 := []) rfl rfl rfl rfl rfl rfl Try.call19 (sl_large _ _ _ _ _ _ ms h1 hok) [] rfl (subA_cons (List.mem_append_left _ (mem_at 0 rfl)) subA_nil) ?_
 rintro v post ⟨rfl, rfl⟩
 refine G_done ?_
 refine G_if rfl (fun hc1 => ?_) (fun hc1 => ?_)
 · skip
   refine G_seq ?_
   refine G_region (l := [0, 1]) rfl ?_
   refine G_callM (L2 := []) rfl rfl rfl rfl rfl rfl Try.call20 (rl_live) [] rfl subA_nil ?_
   rintro v post ⟨rfl, rfl⟩
   refine G_val rfl rfl rfl rfl (V_assign rfl rfl) ?_
   refine G_done ?_
   refine G_ret (post := []) Try.func5 rfl (RVs_cons (RV_tmp rfl) RVs_nil) [] rfl ?_
   dsimp only [packed]
   exact ⟨rfl, rfl⟩
 refine G_skip ?_
 refine G_seq ?_
 refine G_seq ?_
 have hlg := largeS_no (by assumption)
 refine G_region (l := [0]) rfl ?_
 refine G_val rfl rfl rfl rfl (V_assign rfl rfl) ?_
 refine G_done ?_
 refine G_block ?_
 refine G_sub ?he4 [] ?hl4 (G_loop (X := Nat) (fun i => i ≤ ms.length) (fun i => ms.length - i) (fun i => [(0, sv o1 p1 ms.length q1), (3, .int .i64 (i : Int))]) (fun i => []) ?round4 0 ?h04)
 case he4 => exact (And.intro rfl (And.intro rfl trivial))
 case hl4 => exact ⟨_, rfl⟩
 case h04 => exact Nat.zero_le _
 case round4 =>
  intro i hJ ih
  try dsimp only at hJ ih
  refine G_seq ?_
  refine G_seq ?_
  refine G_region (l := [0, 1, 2, 3]) rfl ?_
  refine G_val rfl rfl rfl rfl (V_move rfl rfl) ?_
  refine G_val rfl rfl rfl rfl (V_move rfl rfl) ?_
  refine G_val rfl rfl rfl rfl (V_len rfl rfl Try.underlying53 rfl) ?_
  refine G_val rfl rfl rfl rfl (V_lss rfl rfl rfl) ?_
  refine G_done ?_
  refine G_ifD rfl (fun hc2 => ?_) (fun hc2 => ?_)
  · skip
    refine G_skip ?_
    refine G_seq ?_
    refine G_block ?_
    refine G_seq ?_
    obtain ⟨x, hx⟩ := getI (show i < ms.length by omega)
    obtain ⟨b1, rfl⟩ := h1.isSome (by omega)
    have hxo := hok x (List.mem_of_getElem? hx)
    refine G_draw mixedK (by kernel_rfl) ?_
    refine GQ_val rfl rfl rfl rfl (V_move rfl rfl) ?_
    refine GQ_val rfl rfl rfl rfl (V_move rfl rfl) ?_
    first
      | refine GQ_val rfl rfl rfl rfl (V_indexAddrN (s := 5) rfl Try.underlying53 infLawScriptEncodes_58 rfl rfl rfl rfl (by omega)) ?_
      | refine GQ_val rfl rfl rfl rfl (V_indexAddr (s := 5) rfl Try.underlying53 infLawScriptEncodes_58 rfl rfl rfl (by omega) (by first | omega | (simp [evC, evV, kC, evS, Sl.v]; done) | (simp [evC, evV, kC, evS, Sl.v]; omega) | (simp [evC, evV, kC, evS, Sl.v] at *; omega))) ?_
    refine GQ_val rfl rfl rfl rfl (V_loadA (s := 5) (vs := (evC x).toArray) rfl rfl (List.mem_append_left _ (mem_at 0 rfl)) Try.underlying58 rfl infLawScriptEncodes_58 rfl (h1.elem evC_len hx) (by first | rfl | (simp [bcells_length, evC, evV, kC, evS, Sl.v]; done) | (simp [bcells_length, evC, evV, kC, evS, Sl.v]; omega) | (simp [bcells_length, *, evC, evV, kC, evS, Sl.v]; done))) ?_
    refine GQ_callM rfl rfl rfl rfl rfl rfl Try.call21 (sc_may x hxo) (subA_cons (List.mem_append_left _ (List.mem_cons_of_mem _ (List.mem_map.2 ⟨x, List.mem_of_getElem? hx, rfl⟩))) subA_nil) (fun v post hp => (hp : _ ∧ _).1) ?_
    refine GQ_val rfl rfl rfl rfl (V_move rfl rfl) ?_
    refine GQ_val rfl rfl rfl rfl (V_move rfl rfl) ?_
    first
      | refine GQ_val rfl rfl rfl rfl (V_indexAddrN (s := 5) rfl Try.underlying53 infLawScriptEncodes_58 rfl rfl rfl rfl (by omega)) ?_
      | refine GQ_val rfl rfl rfl rfl (V_indexAddr (s := 5) rfl Try.underlying53 infLawScriptEncodes_58 rfl rfl rfl (by omega) (by first | omega | (simp [evC, evV, kC, evS, Sl.v]; done) | (simp [evC, evV, kC, evS, Sl.v]; omega) | (simp [evC, evV, kC, evS, Sl.v] at *; omega))) ?_
    refine GQ_val rfl rfl rfl rfl (V_loadA (s := 5) (vs := (evC x).toArray) rfl rfl (List.mem_append_left _ (mem_at 0 rfl)) Try.underlying58 rfl infLawScriptEncodes_58 rfl (h1.elem evC_len hx) (by first | rfl | (simp [bcells_length, evC, evV, kC, evS, Sl.v]; done) | (simp [bcells_length, evC, evV, kC, evS, Sl.v]; omega) | (simp [bcells_length, *, evC, evV, kC, evS, Sl.v]; done))) ?_
    refine GQ_callM rfl rfl rfl rfl rfl rfl Try.call22 (rsc_may x hxo) (subA_cons (List.mem_append_left _ (List.mem_cons_of_mem _ (List.mem_map.2 ⟨x, List.mem_of_getElem? hx, rfl⟩))) subA_nil) (fun v post hp => (hp : _ ∧ _).1) ?_
    refine GQ_val rfl rfl rfl rfl (V_bneq rfl Try.underlying4 rfl rfl) ?_
    refine GQ_done rfl ?_
    refine G_ifD rfl (fun hc3 => ?_) (fun hc3 => ?_)
    · (first | contradiction | (exact absurd rfl hc3) | (exfalso; omega) | (simp at hc3; done) | (exact absurd hc3 (by decide)) | (exact absurd (by decide) hc3))
    refine G_skip ?_
    refine G_inBlock ?_
    refine G_region (l := [0, 1, 2]) rfl ?_
    refine G_val rfl rfl rfl rfl (V_move rfl rfl) ?_
    first
      | refine G_val rfl rfl rfl rfl ((V_add rfl rfl rfl).int (wrap_i64 (by omega))) ?_
      | refine G_val rfl rfl rfl rfl (V_add rfl rfl rfl) ?_
    refine G_val rfl rfl rfl rfl (V_assign rfl rfl) ?_
    refine G_done ?_
    refine G_sub ?_ [] ?_ (ih (i + 1) ?_ ?_)
    · (refine (And.intro ?_ (And.intro ?_ trivial)) <;> first | rfl | exact slot_int (by omega) | exact slot_int (by simp))
    · exact ⟨_, rfl⟩
    · omega
    · (first | omega | (dsimp only; omega))
  refine G_exit rfl ?_
  refine G_seq ?_
  rcases scr3 (evsOf ms) (evs_t hok) with ⟨hg, hs⟩ | hs | hs
  · skip
    refine G_region (l := [0, 1, 2, 3, 4, 5, 6]) rfl ?_
    refine G_val rfl rfl rfl rfl (V_move rfl rfl) ?_
    refine G_callM (L2 := []) rfl rfl rfl rfl rfl rfl Try.call23 ((sc_encode _ _ _ _ _ _ ms h1 hok).weaken (fun v post h => by rw [hs] at h; exact h)) [] rfl (fun x hx => List.mem_append_left _ hx) ?_
    rintro v post ⟨rfl, rfl⟩
    refine G_val rfl rfl rfl rfl (V_move rfl rfl) ?_
    refine G_val rfl rfl rfl rfl (V_extract rfl rfl rfl) ?_
    refine G_val rfl rfl rfl rfl (V_extract rfl rfl rfl) ?_
    refine G_val rfl rfl rfl rfl (V_assign rfl rfl) ?_
    refine G_val rfl rfl rfl rfl (V_assign rfl rfl) ?_
    refine G_done ?_
    refine G_seq ?_
    refine G_region (l := [0, 1, 2, 3, 4, 5, 6]) rfl ?_
    refine G_val rfl rfl rfl rfl (V_move rfl rfl) ?_
    refine G_callM (L2 := []) rfl rfl rfl rfl rfl rfl Try.call24 ((rsc_encode _ _ _ _ _ _ ms h1 hok).weaken (fun v post h => by rw [hs] at h; exact h)) [] rfl (fun x hx => List.mem_append_left _ hx) ?_
    rintro v post ⟨rfl, rfl⟩
    refine G_val rfl rfl rfl rfl (V_move rfl rfl) ?_
    refine G_val rfl rfl rfl rfl (V_extract rfl rfl rfl) ?_
    refine G_val rfl rfl rfl rfl (V_extract rfl rfl rfl) ?_
    refine G_val rfl rfl rfl rfl (V_assign rfl rfl) ?_
    refine G_val rfl rfl rfl rfl (V_assign rfl rfl) ?_
    refine G_done ?_
    refine G_seq ?_
    refine G_seq ?_
    refine G_region (l := [0, 1, 2, 3, 4, 5, 6, 7, 8]) rfl ?_
    refine G_val rfl rfl rfl rfl (V_move rfl rfl) ?_
    refine G_val rfl rfl rfl rfl (V_move rfl rfl) ?_
    refine G_val rfl rfl rfl rfl (V_sneq rfl rfl rfl) ?_
    refine G_val rfl rfl rfl rfl (V_move rfl rfl) ?_
    refine G_splitD 43 rfl (fun hc3 => ?_) (fun hc3 => ?_)
    · (first | contradiction | (exact absurd rfl hc3) | (exfalso; omega) | (simp at hc3; done) | (exact absurd hc3 (by decide)) | (exact absurd (by decide) hc3))
    refine G_val rfl rfl rfl rfl (V_move rfl rfl) ?_
    refine G_callM (L2 := []) rfl rfl rfl rfl rfl rfl Try.call25 (rl_num _) [] rfl subA_nil ?_
    rintro v post ⟨rfl, rfl⟩
    refine G_val rfl rfl rfl rfl (V_move rfl rfl) ?_
    refine G_val rfl rfl rfl rfl (V_neq rfl rfl rfl) ?_
    refine G_val rfl rfl rfl rfl (V_pickF rfl rfl rfl) ?_
    refine G_done ?_
    refine G_ifD rfl (fun hc4 => ?_) (fun hc4 => ?_)
    · (first | contradiction | (exact absurd rfl hc4) | (exfalso; omega) | (simp at hc4; done) | (exact absurd hc4 (by decide)) | (exact absurd (by decide) hc4))
    refine G_skip ?_
    refine G_seq ?_
    refine G_region (l := [0, 1, 2, 3, 4, 5, 6]) rfl ?_
    refine G_val rfl rfl rfl rfl (V_move rfl rfl) ?_
    refine G_callM (L2 := []) rfl rfl rfl rfl rfl rfl Try.call26 (sc_decode (encS (evsOf ms)) (by have := encS_len hg; omega)) [] rfl subA_nil ?_
    rintro v post ⟨u, ns, c, hu, hoks, hnl, hd1, rfl, rfl⟩
    refine G_perm (perm_in0 [_] [] _) ?_
    show G _ _ _ (_ :: _) _
    obtain ⟨rfl, hes⟩ := dec_enc hg hd1
    refine G_val rfl rfl rfl rfl (V_move rfl rfl) ?_
    refine G_val rfl rfl rfl rfl (V_extract rfl rfl rfl) ?_
    refine G_val rfl rfl rfl rfl (V_extract rfl rfl rfl) ?_
    refine G_val rfl rfl rfl rfl (V_assign rfl rfl) ?_
    refine G_val rfl rfl rfl rfl (V_assign rfl rfl) ?_
    refine G_done ?_
    refine G_seq ?_
    refine G_region (l := [0, 1, 2, 3, 4, 5, 6, 7, 8, 9, 10, 11, 12, 13, 14, 15]) rfl ?_
    refine G_val rfl rfl rfl rfl (V_move rfl rfl) ?_
    refine G_val rfl rfl rfl rfl (V_neq rfl rfl rfl) ?_
    refine G_val rfl rfl rfl rfl (V_move rfl rfl) ?_
    refine G_splitD 56 rfl (fun hc5 => ?_) (fun hc5 => ?_)
    · (first | contradiction | (exact absurd rfl hc5) | (exfalso; omega) | (simp at hc5; done) | (exact absurd hc5 (by decide)) | (exact absurd (by decide) hc5))
    refine G_val rfl rfl rfl rfl (V_move rfl rfl) ?_
    refine G_val rfl rfl rfl rfl (V_move rfl rfl) ?_
    refine G_callM (L2 := (_ :: _)) rfl rfl rfl rfl rfl rfl Try.call27 ((rsc_same u.ob 0 u.cap u.cs 58 u.fz ns hu.sees hoks _ _ _ _ _ _ ms h1 hok).weaken (fun v post h => by rw [decide_eq_true hes] at h; exact h)) [] rfl (by intro x hx; simp only [List.mem_cons, List.mem_append] at hx; rcases hx with h | h | h | h <;> first | exact List.mem_append_right _ (by first | exact List.mem_cons.2 (.inl h) | exact List.mem_cons_of_mem _ h) | exact List.mem_append_left _ (by first | exact List.mem_cons.2 (.inl h) | exact List.mem_cons_of_mem _ h)) ?_
    rintro v post ⟨rfl, rfl⟩
    show G _ _ _ (_ :: _) _
    refine G_val rfl rfl rfl rfl (V_move rfl rfl) ?_
    refine G_val rfl rfl rfl rfl (V_move rfl rfl) ?_
    refine G_callM (L2 := (_ :: _)) rfl rfl rfl rfl rfl rfl Try.call25 (rl_num _) [] rfl subA_nil ?_
    rintro v post ⟨rfl, rfl⟩
    show G _ _ _ (_ :: _) _
    refine G_val rfl rfl rfl rfl (V_eql rfl rfl rfl) ?_
    refine G_val rfl rfl rfl rfl (V_pickT rfl rfl rfl) ?_
    refine G_val rfl rfl rfl rfl (V_pickF rfl rfl rfl) ?_
    refine G_val rfl rfl rfl rfl (V_move rfl rfl) ?_
    refine G_splitD 66 rfl (fun hc6 => ?_) (fun hc6 => ?_)
    rotate_left
    · (first | contradiction | (exact absurd rfl hc6) | (exfalso; omega) | (simp at hc6; done) | (exact absurd hc6 (by decide)) | (exact absurd (by decide) hc6))
    refine G_callM (L2 := (_ :: _)) rfl rfl rfl rfl rfl rfl Try.call20 (rl_live) [] rfl subA_nil ?_
    rintro v post ⟨rfl, rfl⟩
    show G _ _ _ (_ :: _) _
    refine G_val rfl rfl rfl rfl (V_pickT rfl rfl rfl) ?_
    refine G_val rfl rfl rfl rfl (V_assign rfl rfl) ?_
    refine G_done ?_
    refine G_ret (post := []) Try.func5 rfl (RVs_cons (RV_tmp rfl) RVs_nil) [] rfl ?_
    dsimp only [packed]
    exact ⟨rfl, rfl⟩
  · skip
    refine G_region (l := [0, 1, 2, 3, 4, 5, 6]) rfl ?_
    refine G_val rfl rfl rfl rfl (V_move rfl rfl) ?_
    refine G_callM (L2 := []) rfl rfl rfl rfl rfl rfl Try.call23 ((sc_encode _ _ _ _ _ _ ms h1 hok).weaken (fun v post h => by rw [hs] at h; exact h)) [] rfl (fun x hx => List.mem_append_left _ hx) ?_
    rintro v post ⟨rfl, rfl⟩
    refine G_val rfl rfl rfl rfl (V_move rfl rfl) ?_
    refine G_val rfl rfl rfl rfl (V_extract rfl rfl rfl) ?_
    refine G_val rfl rfl rfl rfl (V_extract rfl rfl rfl) ?_
    refine G_val rfl rfl rfl rfl (V_assign rfl rfl) ?_
    refine G_val rfl rfl rfl rfl (V_assign rfl rfl) ?_
    refine G_done ?_
    refine G_seq ?_
    refine G_region (l := [0, 1, 2, 3, 4, 5, 6]) rfl ?_
    refine G_val rfl rfl rfl rfl (V_move rfl rfl) ?_
    refine G_callM (L2 := []) rfl rfl rfl rfl rfl rfl Try.call24 ((rsc_encode _ _ _ _ _ _ ms h1 hok).weaken (fun v post h => by rw [hs] at h; exact h)) [] rfl (fun x hx => List.mem_append_left _ hx) ?_
    rintro v post ⟨rfl, rfl⟩
    refine G_val rfl rfl rfl rfl (V_move rfl rfl) ?_
    refine G_val rfl rfl rfl rfl (V_extract rfl rfl rfl) ?_
    refine G_val rfl rfl rfl rfl (V_extract rfl rfl rfl) ?_
    refine G_val rfl rfl rfl rfl (V_assign rfl rfl) ?_
    refine G_val rfl rfl rfl rfl (V_assign rfl rfl) ?_
    refine G_done ?_
    refine G_seq ?_
    refine G_seq ?_
    refine G_region (l := [0, 1, 2, 3, 4, 5, 6, 7, 8]) rfl ?_
    refine G_val rfl rfl rfl rfl (V_move rfl rfl) ?_
    refine G_val rfl rfl rfl rfl (V_move rfl rfl) ?_
    refine G_val rfl rfl rfl rfl (V_sneq rfl rfl rfl) ?_
    refine G_val rfl rfl rfl rfl (V_move rfl rfl) ?_
    refine G_splitD 43 rfl (fun hc3 => ?_) (fun hc3 => ?_)
    · (first | contradiction | (exact absurd rfl hc3) | (exfalso; omega) | (simp at hc3; done) | (exact absurd hc3 (by decide)) | (exact absurd (by decide) hc3))
    refine G_val rfl rfl rfl rfl (V_move rfl rfl) ?_
    refine G_callM (L2 := []) rfl rfl rfl rfl rfl rfl Try.call25 (rl_num _) [] rfl subA_nil ?_
    rintro v post ⟨rfl, rfl⟩
    refine G_val rfl rfl rfl rfl (V_move rfl rfl) ?_
    refine G_val rfl rfl rfl rfl (V_neq rfl rfl rfl) ?_
    refine G_val rfl rfl rfl rfl (V_pickF rfl rfl rfl) ?_
    refine G_done ?_
    refine G_ifD rfl (fun hc4 => ?_) (fun hc4 => ?_)
    · (first | contradiction | (exact absurd rfl hc4) | (exfalso; omega) | (simp at hc4; done) | (exact absurd hc4 (by decide)) | (exact absurd (by decide) hc4))
    refine G_skip ?_
    refine G_seq ?_
    refine G_region (l := [0, 1, 2, 3, 4, 5, 6]) rfl ?_
    refine G_val rfl rfl rfl rfl (V_move rfl rfl) ?_
    refine G_callM (L2 := []) rfl rfl rfl rfl rfl rfl Try.call26 (sc_decode [] (by simp)) [] rfl subA_nil ?_
    rintro v post ⟨u, ns, c, hu, hoks, hnl, hd1, rfl, rfl⟩
    refine G_perm (perm_in0 [_] [] _) ?_
    show G _ _ _ (_ :: _) _
    refine G_val rfl rfl rfl rfl (V_move rfl rfl) ?_
    refine G_val rfl rfl rfl rfl (V_extract rfl rfl rfl) ?_
    refine G_val rfl rfl rfl rfl (V_extract rfl rfl rfl) ?_
    refine G_val rfl rfl rfl rfl (V_assign rfl rfl) ?_
    refine G_val rfl rfl rfl rfl (V_assign rfl rfl) ?_
    refine G_done ?_
    refine G_seq ?_
    refine G_region (l := [0, 1, 2, 3, 4, 5, 6, 7, 8, 9, 10, 11, 12, 13, 14, 15]) rfl ?_
    refine G_val rfl rfl rfl rfl (V_move rfl rfl) ?_
    refine G_val rfl rfl rfl rfl (V_neq rfl rfl rfl) ?_
    refine G_val rfl rfl rfl rfl (V_move rfl rfl) ?_
    refine G_splitD 56 rfl (fun hc5 => ?_) (fun hc5 => ?_)
    rotate_left
    · (first | contradiction | (exact absurd rfl hc5) | (exfalso; omega) | (simp at hc5; done) | (exact absurd hc5 (by decide)) | (exact absurd (by decide) hc5))
    refine G_off rfl rfl rfl rfl ?_
    refine G_off rfl rfl rfl rfl ?_
    refine G_off rfl rfl rfl rfl ?_
    refine G_off rfl rfl rfl rfl ?_
    refine G_off rfl rfl rfl rfl ?_
    refine G_off rfl rfl rfl rfl ?_
    refine G_off rfl rfl rfl rfl ?_
    refine G_off rfl rfl rfl rfl ?_
    refine G_val rfl rfl rfl rfl (V_pickT rfl rfl rfl) ?_
    refine G_val rfl rfl rfl rfl (V_move rfl rfl) ?_
    refine G_callM (L2 := (_ :: _)) rfl rfl rfl rfl rfl rfl Try.call20 (rl_live) [] rfl subA_nil ?_
    rintro v post ⟨rfl, rfl⟩
    show G _ _ _ (_ :: _) _
    refine G_val rfl rfl rfl rfl (V_pickT rfl rfl rfl) ?_
    refine G_val rfl rfl rfl rfl (V_assign rfl rfl) ?_
    refine G_done ?_
    refine G_ret (post := []) Try.func5 rfl (RVs_cons (RV_tmp rfl) RVs_nil) [] rfl ?_
    dsimp only [packed]
    exact ⟨rfl, rfl⟩
  · skip
    refine G_region (l := [0, 1, 2, 3, 4, 5, 6]) rfl ?_
    refine G_val rfl rfl rfl rfl (V_move rfl rfl) ?_
    refine G_callM (L2 := []) rfl rfl rfl rfl rfl rfl Try.call23 ((sc_encode _ _ _ _ _ _ ms h1 hok).weaken (fun v post h => by rw [hs] at h; exact h)) [] rfl (fun x hx => List.mem_append_left _ hx) ?_
    rintro v post ⟨rfl, rfl⟩
    refine G_val rfl rfl rfl rfl (V_move rfl rfl) ?_
    refine G_val rfl rfl rfl rfl (V_extract rfl rfl rfl) ?_
    refine G_val rfl rfl rfl rfl (V_extract rfl rfl rfl) ?_
    refine G_val rfl rfl rfl rfl (V_assign rfl rfl) ?_
    refine G_val rfl rfl rfl rfl (V_assign rfl rfl) ?_
    refine G_done ?_
    refine G_seq ?_
    refine G_region (l := [0, 1, 2, 3, 4, 5, 6]) rfl ?_
    refine G_val rfl rfl rfl rfl (V_move rfl rfl) ?_
    refine G_callM (L2 := []) rfl rfl rfl rfl rfl rfl Try.call24 ((rsc_encode _ _ _ _ _ _ ms h1 hok).weaken (fun v post h => by rw [hs] at h; exact h)) [] rfl (fun x hx => List.mem_append_left _ hx) ?_
    rintro v post ⟨rfl, rfl⟩
    refine G_val rfl rfl rfl rfl (V_move rfl rfl) ?_
    refine G_val rfl rfl rfl rfl (V_extract rfl rfl rfl) ?_
    refine G_val rfl rfl rfl rfl (V_extract rfl rfl rfl) ?_
    refine G_val rfl rfl rfl rfl (V_assign rfl rfl) ?_
    refine G_val rfl rfl rfl rfl (V_assign rfl rfl) ?_
    refine G_done ?_
    refine G_seq ?_
    refine G_seq ?_
    refine G_region (l := [0, 1, 2, 3, 4, 5, 6, 7, 8]) rfl ?_
    refine G_val rfl rfl rfl rfl (V_move rfl rfl) ?_
    refine G_val rfl rfl rfl rfl (V_move rfl rfl) ?_
    refine G_val rfl rfl rfl rfl (V_sneq rfl rfl rfl) ?_
    refine G_val rfl rfl rfl rfl (V_move rfl rfl) ?_
    refine G_splitD 43 rfl (fun hc3 => ?_) (fun hc3 => ?_)
    · (first | contradiction | (exact absurd rfl hc3) | (exfalso; omega) | (simp at hc3; done) | (exact absurd hc3 (by decide)) | (exact absurd (by decide) hc3))
    refine G_val rfl rfl rfl rfl (V_move rfl rfl) ?_
    refine G_callM (L2 := []) rfl rfl rfl rfl rfl rfl Try.call25 (rl_num _) [] rfl subA_nil ?_
    rintro v post ⟨rfl, rfl⟩
    refine G_val rfl rfl rfl rfl (V_move rfl rfl) ?_
    refine G_val rfl rfl rfl rfl (V_neq rfl rfl rfl) ?_
    refine G_val rfl rfl rfl rfl (V_pickF rfl rfl rfl) ?_
    refine G_done ?_
    refine G_ifD rfl (fun hc4 => ?_) (fun hc4 => ?_)
    · (first | contradiction | (exact absurd rfl hc4) | (exfalso; omega) | (simp at hc4; done) | (exact absurd hc4 (by decide)) | (exact absurd (by decide) hc4))
    refine G_skip ?_
    refine G_seq ?_
    refine G_region (l := [0, 1, 2, 3, 4, 5, 6]) rfl ?_
    refine G_val rfl rfl rfl rfl (V_move rfl rfl) ?_
    refine G_callM (L2 := []) rfl rfl rfl rfl rfl rfl Try.call26 (sc_decode [] (by simp)) [] rfl subA_nil ?_
    rintro v post ⟨u, ns, c, hu, hoks, hnl, hd1, rfl, rfl⟩
    refine G_perm (perm_in0 [_] [] _) ?_
    show G _ _ _ (_ :: _) _
    refine G_val rfl rfl rfl rfl (V_move rfl rfl) ?_
    refine G_val rfl rfl rfl rfl (V_extract rfl rfl rfl) ?_
    refine G_val rfl rfl rfl rfl (V_extract rfl rfl rfl) ?_
    refine G_val rfl rfl rfl rfl (V_assign rfl rfl) ?_
    refine G_val rfl rfl rfl rfl (V_assign rfl rfl) ?_
    refine G_done ?_
    refine G_seq ?_
    refine G_region (l := [0, 1, 2, 3, 4, 5, 6, 7, 8, 9, 10, 11, 12, 13, 14, 15]) rfl ?_
    refine G_val rfl rfl rfl rfl (V_move rfl rfl) ?_
    refine G_val rfl rfl rfl rfl (V_neq rfl rfl rfl) ?_
    refine G_val rfl rfl rfl rfl (V_move rfl rfl) ?_
    refine G_splitD 56 rfl (fun hc5 => ?_) (fun hc5 => ?_)
    rotate_left
    · (first | contradiction | (exact absurd rfl hc5) | (exfalso; omega) | (simp at hc5; done) | (exact absurd hc5 (by decide)) | (exact absurd (by decide) hc5))
    refine G_off rfl rfl rfl rfl ?_
    refine G_off rfl rfl rfl rfl ?_
    refine G_off rfl rfl rfl rfl ?_
    refine G_off rfl rfl rfl rfl ?_
    refine G_off rfl rfl rfl rfl ?_
    refine G_off rfl rfl rfl rfl ?_
    refine G_off rfl rfl rfl rfl ?_
    refine G_off rfl rfl rfl rfl ?_
    refine G_val rfl rfl rfl rfl (V_pickT rfl rfl rfl) ?_
    refine G_val rfl rfl rfl rfl (V_move rfl rfl) ?_
    refine G_callM (L2 := (_ :: _)) rfl rfl rfl rfl rfl rfl Try.call20 (rl_live) [] rfl subA_nil ?_
    rintro v post ⟨rfl, rfl⟩
    show G _ _ _ (_ :: _) _
    refine G_val rfl rfl rfl rfl (V_pickT rfl rfl rfl) ?_
    refine G_val rfl rfl rfl rfl (V_assign rfl rfl) ?_
    refine G_done ?_
    refine G_ret (post := []) Try.func5 rfl (RVs_cons (RV_tmp rfl) RVs_nil) [] rfl ?_
    dsimp only [packed]
    exact ⟨rfl, rfl⟩


instance : Inhabited (Int × Int) := ⟨(0, 0)⟩
theorem keep_of {W : World} {es : List Value} (hl : es.length = 2) (h : Reads Try.prog W 151 es) : ∃ x : Int × Int, es = kC x ∧ (-9223372036854775808 ≤ x.1 ∧ x.1 ≤ 9223372036854775807) ∧ (-9223372036854775808 ≤ x.2 ∧ x.2 ≤ 9223372036854775807) := by
  match es, hl with
  | [v0, v1], _ =>
    obtain ⟨n0, e0, a0, b0⟩ := reads_int (reads_field (s := 1) (vs := [v0]) h Try.underlying151 0 _ rfl (by kernel_rfl) rfl) Try.underlying3
    obtain ⟨n1, e1, a1, b1⟩ := reads_int (reads_field (s := 1) (vs := [v1]) h Try.underlying151 1 _ rfl (by kernel_rfl) rfl) Try.underlying3
    simp only [List.cons.injEq, and_true] at e0 e1
    subst e0 e1
    exact ⟨(n0, n1), rfl, ⟨a0, b0⟩, ⟨a1, b1⟩⟩
set_option maxRecDepth 100000 in
theorem event_of {W : World} {es : List Value} (hl : es.length = 5) (h : Reads Try.prog W 58 es) : ∃ a : Em, es = evC a ∧ EmOk a ∧ ∀ b, a.ob = some b → W.heap[b]? = some (.cells a.cs a.T a.fr) := by
  match es, hl with
  | [v0, v1, v2, v3, v4], _ =>
    obtain ⟨n0, e0, x0, y0⟩ := reads_int (reads_field (s := 1) (vs := [v0]) h Try.underlying58 0 _ rfl (by kernel_rfl) rfl) Try.underlying3
    obtain ⟨t, e1, pt⟩ := reads_str (reads_field (s := 1) (vs := [v1]) h Try.underlying58 1 _ rfl (by kernel_rfl) rfl) Try.underlying9
    obtain ⟨n2, e2, x2, y2⟩ := reads_int (reads_field (s := 1) (vs := [v2]) h Try.underlying58 2 _ rfl (by kernel_rfl) rfl) Try.underlying23
    obtain ⟨n3, e3, x3, y3⟩ := reads_int (reads_field (s := 1) (vs := [v3]) h Try.underlying58 3 _ rfl (by kernel_rfl) rfl) Try.underlying3
    obtain ⟨p, ob, off, cap, c, T, fr, ks, e4, hle, hmax, hs, hg, hb⟩ := reads_slice2 (sz := 2) (reads_field (s := 1) (vs := [v4]) h Try.underlying58 4 _ rfl (by kernel_rfl) rfl) Try.underlying56 (by kernel_rfl) (by omega) kC kC_len (fun x => (-9223372036854775808 ≤ x.1 ∧ x.1 ≤ 9223372036854775807) ∧ (-9223372036854775808 ≤ x.2 ∧ x.2 ≤ 9223372036854775807)) (fun es hl h => keep_of hl h)
    simp only [List.cons.injEq, and_true] at e0 e1 e2 e3 e4
    subst e0 e1 e2 e3 e4
    have x2 : (0 : Int) ≤ n2 := x2
    have y2 : n2 ≤ (18446744073709551615 : Int) := y2
    obtain ⟨m2, rfl⟩ := Int.eq_ofNat_of_zero_le x2
    exact ⟨⟨⟨n0, t, m2, n3, ks⟩, p, ob, off, cap, c, T, fr⟩, rfl, ⟨⟨x0, y0⟩, pt, by show m2 < _; omega, ⟨x3, y3⟩, hg, hle, hmax, hs⟩, hb⟩
set_option maxRecDepth 100000 in
theorem scriptEncodes_walk : LawWalk 5 Try.f5 := lawwalk_reads (fun W base args hs hval => by
  rw [Try.params5] at hs hval
  obtain ⟨l⟩ := args
  match l, hs with
  | [a], _ =>
    obtain ⟨h0, hr⟩ := hval 0 53 a rfl rfl
    obtain ⟨p, i, j, rfl, hv⟩ := okv_slice h0 Try.underlying53
    obtain ⟨o1, p1, q1, c1, T1, f1, ms, e1, hk, hg, hb⟩ := reads_slice (sz := 5) hr Try.underlying53 (by kernel_rfl) rfl hv evC evC_len (fun x => EmOk x ∧ ∀ b, x.ob = some b → W.heap[b]? = some (.cells x.cs x.T x.fr)) (fun es hl h => event_of hl h)
    rw [e1]
    exact ⟨_, has_cons (has_mapK evK ms (fun x hx => (hg x hx).2)) hb, scriptEncodes_all o1 p1 q1 c1 T1 f1 ms hk (fun x hx => (hg x hx).1)⟩)


theorem scriptEncodes_holds : Rows.ScriptEncodesSaid :=
  OpenClaim.holds_of_wide 5 Try.f5 rfl rfl rfl rfl rfl rfl rfl ⟨rfl, rfl, rfl, rfl, rfl⟩ rfl rfl rfl rfl rfl (by kernel_rfl) Try.func5 (by kernel_rfl)
    (of_decide_eq_true (by kernel_rfl)) (by unfold Func.isWrapper; rw [if_neg (by decide +kernel)]; exact ⟨rfl, rfl⟩)
    (fun os started H enc _ => law_lifted (s := Rows.scriptEncodesSpec) os started H enc Try.func5 (by kernel_rfl)
      (ChangeSpec.witness6 (enc := enc) (C := Try.checked) false ⟨#[], #[.slice none 0 0], []⟩ 8 (by kernel_rfl) (by kernel_rfl) (by kernel_rfl) (by kernel_rfl))
      rfl (by kernel_rfl) (by kernel_rfl) (by decide +kernel) (fun ds h => by match ds, h with | [_], _ => rfl) scriptEncodes_walk)
#print axioms scriptEncodes_holds

end
end Go.Proofs.Ytkekkalgebgokaa

/- The kinds of requests (layer 19), their words and their fields' letters, as plain tables. No program in sight. -/
namespace Go.Proofs.Ytkekkalgebgokaa
open Go Go.RowKit

theorem ret_num {k : IntKind} {a b : Int} (h : a = b) : Ending.returned (.int k a) = .returned (.int k b) := by rw [h]
theorem ret_truth {a b : Bool} (h : a = b) : Ending.returned (.bool a) = .returned (.bool b) := by rw [h]
/-- The words, and the letters of the fields, of all kinds. -/
def formTab : List (List UInt8 × List UInt8) := [([], []), ([111, 112, 101, 110], [116, 105, 119]), ([99, 108, 111, 115, 101], [116, 105]), ([115, 117, 98, 109, 105, 116], [116, 105, 107, 99, 112, 120, 100]), ([119, 97, 105, 116], [110, 116, 111]), ([99, 97, 110, 99, 101, 108], [116, 111]), ([115, 116, 97, 116, 117, 115], [116, 111]), ([114, 101, 103, 105, 115, 116, 101, 114], [110, 112, 108]), ([98, 101, 97, 116], [110]), ([112, 111, 108, 108], [110]), ([114, 101, 112, 111, 114, 116], [110, 111, 101, 114, 98]), ([108, 101, 97, 118, 101], [110]), ([112, 97, 117, 115, 101], [110, 98]), ([100, 114, 97, 105, 110], []), ([100, 114, 97, 105, 110, 101, 100], []), ([108, 101, 116, 116, 101, 114, 115], [102, 109]), ([112, 117, 114, 103, 101], [111]), ([115, 116, 97, 116, 115], [])]
def wordOf (k : Nat) : List UInt8 := (formTab.getD k ([], [])).1
def fieldsOf (k : Nat) : List UInt8 := (formTab.getD k ([], [])).2
/-- Is there a kind? -/
def isKind (k : Int) : Bool := decide (1 ≤ k ∧ k ≤ 17)
def wordK (k : Int) : List UInt8 := if 1 ≤ k ∧ k ≤ 17 then wordOf k.toNat else []
def fieldsK (k : Int) : List UInt8 := if 1 ≤ k ∧ k ≤ 17 then fieldsOf k.toNat else []
theorem wordK_yes (k : Nat) (h1 : 1 ≤ k) (h2 : k ≤ 17) : wordK (k : Int) = wordOf k := by
  unfold wordK; rw [if_pos (by omega), Int.toNat_natCast]
theorem wordK_no (k : Int) (h : ¬ (1 ≤ k ∧ k ≤ 17)) : wordK k = [] := if_neg h
theorem fieldsK_yes (k : Nat) (h1 : 1 ≤ k) (h2 : k ≤ 17) : fieldsK (k : Int) = fieldsOf k := by
  unfold fieldsK; rw [if_pos (by omega), Int.toNat_natCast]
theorem fieldsK_no (k : Int) (h : ¬ (1 ≤ k ∧ k ≤ 17)) : fieldsK k = [] := if_neg h

/-- The row that the program lays of them. -/
def formArr : Array Value := (formTab.flatMap fun x => [.string (bs x.1), .string (bs x.2)]).toArray
theorem formArr_at : ∀ k, k < 18 → formArr[k * 2]? = some (.string (bs (wordOf k))) ∧ formArr[k * 2 + 1]? = some (.string (bs (fieldsOf k))) := by
  intro k hk
  match k, hk with
  | 0, _ => exact ⟨rfl, rfl⟩
  | 1, _ => exact ⟨rfl, rfl⟩
  | 2, _ => exact ⟨rfl, rfl⟩
  | 3, _ => exact ⟨rfl, rfl⟩
  | 4, _ => exact ⟨rfl, rfl⟩
  | 5, _ => exact ⟨rfl, rfl⟩
  | 6, _ => exact ⟨rfl, rfl⟩
  | 7, _ => exact ⟨rfl, rfl⟩
  | 8, _ => exact ⟨rfl, rfl⟩
  | 9, _ => exact ⟨rfl, rfl⟩
  | 10, _ => exact ⟨rfl, rfl⟩
  | 11, _ => exact ⟨rfl, rfl⟩
  | 12, _ => exact ⟨rfl, rfl⟩
  | 13, _ => exact ⟨rfl, rfl⟩
  | 14, _ => exact ⟨rfl, rfl⟩
  | 15, _ => exact ⟨rfl, rfl⟩
  | 16, _ => exact ⟨rfl, rfl⟩
  | 17, _ => exact ⟨rfl, rfl⟩
  | _ + 18, h => exact absurd h (by omega)

/-- The row that the reference lays of the words. -/
def wordArr : Array Value := ((formTab.drop 1).map fun x => .string (bs x.1)).toArray
theorem wordArr_at : ∀ k, k < 17 → wordArr[k]? = some (.string (bs (wordOf (k + 1)))) := by
  intro k hk
  match k, hk with
  | 0, _ => rfl
  | 1, _ => rfl
  | 2, _ => rfl
  | 3, _ => rfl
  | 4, _ => rfl
  | 5, _ => rfl
  | 6, _ => rfl
  | 7, _ => rfl
  | 8, _ => rfl
  | 9, _ => rfl
  | 10, _ => rfl
  | 11, _ => rfl
  | 12, _ => rfl
  | 13, _ => rfl
  | 14, _ => rfl
  | 15, _ => rfl
  | 16, _ => rfl
  | _ + 17, h => exact absurd h (by omega)
/-- The kinds that change nothing. -/
def asks (k : Int) : Bool := decide (k = 6 ∨ k = 14 ∨ k = 15 ∨ k = 17)

/-- The place of a text's, a number's letter in a request. -/
def textIdx (c : Int) : Option Nat := if c = 116 then some 1 else if c = 105 then some 2 else if c = 110 then some 3 else if c = 107 then some 4 else if c = 99 then some 5 else if c = 112 then some 6 else none
def numIdx (c : Int) : Option Nat := if c = 111 then some 7 else if c = 101 then some 8 else if c = 119 then some 9 else if c = 120 then some 10 else if c = 108 then some 11 else if c = 114 then some 12 else if c = 100 then some 13 else if c = 102 then some 14 else if c = 109 then some 15 else none
/-- A place in a block, or none. -/
def ptrAt (b : Nat) (i : Option Nat) : Value := .pointer (i.map fun i => ⟨b, i, none⟩)

/-- The kind of a word; 0: it is none's. -/
def kindOf (s : List UInt8) : Nat := ((List.range 17).find? (fun i => wordOf (i + 1) == s)).elim 0 (· + 1)
theorem kindOf_is (s : List UInt8) (k : Nat) (h1 : 1 ≤ k) (h2 : k ≤ 17) (hk : wordOf k = s) (hno : ∀ j, 1 ≤ j → j < k → wordOf j ≠ s) : kindOf s = k := by
  have h : (List.range 17).find? (fun i => wordOf (i + 1) == s) = some (k - 1) := by
    rw [List.find?_range_eq_some]
    refine ⟨by simp [show k - 1 + 1 = k by omega, hk], by simp; omega, fun j hj => ?_⟩
    simpa using hno (j + 1) (by omega) (by omega)
  rw [kindOf, h]
  simp; omega
theorem kindOf_none (s : List UInt8) (hno : ∀ j, 1 ≤ j → j ≤ 17 → wordOf j ≠ s) : kindOf s = 0 := by
  have h : (List.range 17).find? (fun i => wordOf (i + 1) == s) = none := by
    rw [List.find?_eq_none]
    intro j hj
    simpa using hno (j + 1) (by omega) (by have := List.mem_range.1 hj; omega)
  rw [kindOf, h]; rfl
theorem bs_beq (a b : List UInt8) : ((bs a).toList == (bs b).toList) = (a == b) := by
  rw [ByteArray.toList_eq, ByteArray.toList_eq, bs_data, bs_data]

end Go.Proofs.Ytkekkalgebgokaa

/- What is left of a request (layer 19): the cells of a request, and of the clean one. No program in sight. -/
namespace Go.Proofs.Ytkekkalgebgokaa
open Go Go.RowKit

/-- A request. -/
structure Rq where
  kind : Int
  tx : Nat → List UInt8
  nx : Nat → Int
  flag : Bool
/-- Its cells: the texts lie at 1 to 6, the numbers at 7 to 15. -/
def rqCells (q : Rq) : List Value :=
  [.int .i64 q.kind, .string (bs (q.tx 1)), .string (bs (q.tx 2)), .string (bs (q.tx 3)), .string (bs (q.tx 4)), .string (bs (q.tx 5)), .string (bs (q.tx 6)),
   .int .i64 (q.nx 7), .int .i64 (q.nx 8), .int .i64 (q.nx 9), .int .i64 (q.nx 10), .int .i64 (q.nx 11), .int .i64 (q.nx 12), .int .i64 (q.nx 13), .int .i64 (q.nx 14), .int .i64 (q.nx 15), .bool q.flag]
/-- The request of a kind, with nothing in it. -/
def rqBare (k : Int) : Rq := ⟨k, fun _ => [], fun _ => 0, false⟩
/-- A letter's field is taken over. -/
def rqTake (q out : Rq) (c : UInt8) : Rq :=
  match textIdx (c.toNat : Int) with
  | some i => { out with tx := fun j => if j = i then q.tx i else out.tx j }
  | none => match numIdx (c.toNat : Int) with
    | some i => { out with nx := fun j => if j = i then q.nx i else out.nx j }
    | none => { out with flag := q.flag }
def rqClean (q : Rq) : Rq := (fieldsK q.kind).foldl (rqTake q) (rqBare q.kind)

theorem textIdx_bd (c : Int) (i : Nat) (h : textIdx c = some i) : 1 ≤ i ∧ i ≤ 6 := by
  unfold textIdx at h
  repeat' split at h
  all_goals simp at h
  all_goals omega
theorem numIdx_bd (c : Int) (i : Nat) (h : numIdx c = some i) : 7 ≤ i ∧ i ≤ 15 := by
  unfold numIdx at h
  repeat' split at h
  all_goals simp at h
  all_goals omega
theorem textIdx_num (c : Int) (i : Nat) (h : textIdx c = some i) : numIdx c = none := by
  unfold textIdx at h
  repeat' split at h
  all_goals first | (simp at h; done) | (subst_vars; rfl)
theorem rqTake_text (q o : Rq) (c : UInt8) (i : Nat) (h : textIdx (c.toNat : Int) = some i) : rqTake q o c = { o with tx := fun j => if j = i then q.tx i else o.tx j } := by
  unfold rqTake; rw [h]
theorem rqTake_num (q o : Rq) (c : UInt8) (i : Nat) (h0 : textIdx (c.toNat : Int) = none) (h : numIdx (c.toNat : Int) = some i) : rqTake q o c = { o with nx := fun j => if j = i then q.nx i else o.nx j } := by
  unfold rqTake; rw [h0, h]
theorem rqTake_flag (q o : Rq) (c : UInt8) (h0 : textIdx (c.toNat : Int) = none) (h : numIdx (c.toNat : Int) = none) : rqTake q o c = { o with flag := q.flag } := by
  unfold rqTake; rw [h0, h]
theorem rqCells_text (q : Rq) (i : Nat) (h1 : 1 ≤ i) (h2 : i ≤ 6) : (rqCells q).toArray[i]? = some (.string (bs (q.tx i))) := by
  match i, h1, h2 with
  | 1, _, _ => rfl
  | 2, _, _ => rfl
  | 3, _, _ => rfl
  | 4, _, _ => rfl
  | 5, _, _ => rfl
  | 6, _, _ => rfl
theorem rqCells_num (q : Rq) (i : Nat) (h1 : 7 ≤ i) (h2 : i ≤ 15) : (rqCells q).toArray[i]? = some (.int .i64 (q.nx i)) := by
  match i, h1, h2 with
  | 7, _, _ => rfl
  | 8, _, _ => rfl
  | 9, _, _ => rfl
  | 10, _, _ => rfl
  | 11, _, _ => rfl
  | 12, _, _ => rfl
  | 13, _, _ => rfl
  | 14, _, _ => rfl
  | 15, _, _ => rfl
theorem rqCells_flag (q : Rq) : (rqCells q).toArray[16]? = some (.bool q.flag) := rfl
theorem rqCells_setText (q : Rq) (i : Nat) (h1 : 1 ≤ i) (h2 : i ≤ 6) (l : List UInt8) : (rqCells q).toArray.setIfInBounds i (.string (bs l)) = (rqCells { q with tx := fun j => if j = i then l else q.tx j }).toArray := by
  match i, h1, h2 with
  | 1, _, _ => rfl
  | 2, _, _ => rfl
  | 3, _, _ => rfl
  | 4, _, _ => rfl
  | 5, _, _ => rfl
  | 6, _, _ => rfl
theorem rqCells_setNum (q : Rq) (i : Nat) (h1 : 7 ≤ i) (h2 : i ≤ 15) (n : Int) : (rqCells q).toArray.setIfInBounds i (.int .i64 n) = (rqCells { q with nx := fun j => if j = i then n else q.nx j }).toArray := by
  match i, h1, h2 with
  | 7, _, _ => rfl
  | 8, _, _ => rfl
  | 9, _, _ => rfl
  | 10, _, _ => rfl
  | 11, _, _ => rfl
  | 12, _, _ => rfl
  | 13, _, _ => rfl
  | 14, _, _ => rfl
  | 15, _, _ => rfl
theorem rqCells_setFlag (q : Rq) (b : Bool) : (rqCells q).toArray.setIfInBounds 16 (.bool b) = (rqCells { q with flag := b }).toArray := rfl
/-- The letters are below 128. -/
theorem fieldsOf_small : ∀ k, k < 18 → ∀ j, j < (fieldsOf k).length → ((fieldsOf k).getD j 0).toNat < 128 := by decide
theorem fieldsK_small (k : Int) (j : Nat) (h : j < (fieldsK k).length) : ((fieldsK k)[j]).toNat < 128 := by
  by_cases hk : 1 ≤ k ∧ k ≤ 17
  · obtain ⟨n, rfl⟩ := Int.eq_ofNat_of_zero_le (show 0 ≤ k by omega)
    have e := fieldsK_yes n (by omega) (by omega)
    have := fieldsOf_small n (by omega) j (by rw [← e]; exact h)
    simp only [e]
    rw [List.getD_eq_getElem?_getD, List.getElem?_eq_getElem (by rw [← e]; exact h)] at this
    simpa using this
  · simp [fieldsK_no k hk] at h
theorem fieldsK_len (k : Int) : (fieldsK k).length ≤ 7 := by
  by_cases hk : 1 ≤ k ∧ k ≤ 17
  · obtain ⟨n, rfl⟩ := Int.eq_ofNat_of_zero_le (show 0 ≤ k by omega)
    rw [fieldsK_yes n (by omega) (by omega)]
    have : ∀ k, k < 18 → (fieldsOf k).length ≤ 7 := by decide
    exact this n (by omega)
  · rw [fieldsK_no k hk]; simp

end Go.Proofs.Ytkekkalgebgokaa

/- Requests (layer 19), as plain functions: the clean one field by field, which may be; a request's literals. No program in sight. -/
set_option linter.unusedSimpArgs false
set_option linter.unusedVariables false
namespace Go.Proofs.Ytkekkalgebgokaa
open Go Go.RowKit

def hasI (k : Int) (c : Int) : Bool := (fieldsK k).any fun x => decide ((x.toNat : Int) = c)
def letT (i : Nat) : Int := if i = 1 then 116 else if i = 2 then 105 else if i = 3 then 110 else if i = 4 then 107 else if i = 5 then 99 else 112
def letN (i : Nat) : Int := if i = 7 then 111 else if i = 8 then 101 else if i = 9 then 119 else if i = 10 then 120 else if i = 11 then 108 else if i = 12 then 114 else if i = 13 then 100 else if i = 14 then 102 else 109
def selT (b : Bool) (s : List UInt8) : List UInt8 := if b then s else []
def selN (b : Bool) (n : Int) : Int := if b then n else 0
def selB (a b : Bool) : Bool := if a then b else false
def refRq (q : Rq) : Rq := ⟨q.kind, fun i => selT (hasI q.kind (letT i)) (q.tx i), fun i => selN (hasI q.kind (letN i)) (q.nx i), selB q.flag (hasI q.kind 98)⟩

theorem kinds17 (k : Int) (h : 1 ≤ k ∧ k ≤ 17) : k = 1 ∨ k = 2 ∨ k = 3 ∨ k = 4 ∨ k = 5 ∨ k = 6 ∨ k = 7 ∨ k = 8 ∨ k = 9 ∨ k = 10 ∨ k = 11 ∨ k = 12 ∨ k = 13 ∨ k = 14 ∨ k = 15 ∨ k = 16 ∨ k = 17 := by omega
theorem refRq_cells (q : Rq) : rqCells (rqClean q) = rqCells (refRq q) := by
  obtain ⟨k, tx, nx, fl⟩ := q
  by_cases h : 1 ≤ k ∧ k ≤ 17
  · rcases fl <;> rcases kinds17 k h with rfl | rfl | rfl | rfl | rfl | rfl | rfl | rfl | rfl | rfl | rfl | rfl | rfl | rfl | rfl | rfl | rfl <;> rfl
  · have h0 := fieldsK_no k h
    have h1 : rqClean ⟨k, tx, nx, fl⟩ = rqBare k := by rw [rqClean, h0]; rfl
    rw [h1]
    cases fl <;> simp [rqCells, rqBare, refRq, hasI, h0, selT, selN, selB]
/-- Cleaned twice is cleaned once. -/
theorem refRq_twice (q : Rq) : refRq (refRq q) = refRq q := by
  unfold refRq
  simp only [Rq.mk.injEq, true_and]
  refine ⟨?_, ?_, ?_⟩
  · funext i; cases hasI q.kind (letT i) <;> rfl
  · funext i; cases hasI q.kind (letN i) <;> rfl
  · cases q.flag <;> cases hasI q.kind 98 <;> rfl
theorem rqClean_kind (q : Rq) : (rqClean q).kind = q.kind := by
  have := congrArg (fun l => l.head?) (refRq_cells q)
  simp [rqCells, refRq] at this
  exact this

/-- May a letter's field be? -/
def okL (q : Rq) (c : UInt8) : Bool := match textIdx (c.toNat : Int) with
  | some i => decide ((q.tx i).length ≤ 100)
  | none => match numIdx (c.toNat : Int) with
    | some i => decide (0 ≤ q.nx i ∧ q.nx i ≤ 1099511627776)
    | none => true
def mayQ (q : Rq) : Bool := if isKind q.kind = true ∧ (fieldsK q.kind).all (okL q) = true then true else false
def texts6 (q : Rq) : List (List UInt8) := [q.tx 1, q.tx 2, q.tx 3, q.tx 4, q.tx 5, q.tx 6]
def nums9 (q : Rq) : List Int := [q.nx 7, q.nx 8, q.nx 9, q.nx 10, q.nx 11, q.nx 12, q.nx 13, q.nx 14, q.nx 15]
def rmayQ (q : Rq) : Bool := if (texts6 (refRq q)).all (fun s => decide (s.length ≤ 100)) = true ∧ (nums9 (refRq q)).all (fun n => decide (0 ≤ n ∧ n ≤ 1099511627776)) = true ∧ isKind q.kind = true then true else false
theorem mayQ_r (q : Rq) : mayQ q = rmayQ q := by
  obtain ⟨k, tx, nx, fl⟩ := q
  unfold mayQ rmayQ
  by_cases h : 1 ≤ k ∧ k ≤ 17
  · have hk : isKind k = true := by unfold isKind; simp [h]
    have iff : ∀ {p r : Prop} [Decidable p] [Decidable r], (p ↔ r) → (if p then true else false) = (if r then true else false) := fun hpr => by simp [hpr]
    apply iff
    simp only [hk, true_and, and_true]
    rcases kinds17 k h with rfl | rfl | rfl | rfl | rfl | rfl | rfl | rfl | rfl | rfl | rfl | rfl | rfl | rfl | rfl | rfl | rfl <;>
      simp [fieldsK, fieldsOf, formTab, texts6, nums9, refRq, okL, textIdx, numIdx, hasI, letT, letN, selT, selN] <;> grind
  · have hk : isKind k = false := by unfold isKind; simp; omega
    simp [hk]
/-- What a clean request may be, the request may. -/
theorem rmayQ_ref (q : Rq) : rmayQ (refRq q) = rmayQ q := by
  unfold rmayQ
  rw [refRq_twice]
  rfl

-- literals
def rqLits (q : Rq) : List Lit :=
  [.int .i64 q.kind, .string (q.tx 1), .string (q.tx 2), .string (q.tx 3), .string (q.tx 4), .string (q.tx 5), .string (q.tx 6),
   .int .i64 (q.nx 7), .int .i64 (q.nx 8), .int .i64 (q.nx 9), .int .i64 (q.nx 10), .int .i64 (q.nx 11), .int .i64 (q.nx 12), .int .i64 (q.nx 13), .int .i64 (q.nx 14), .int .i64 (q.nx 15), .bool q.flag]
theorem rqLits_cells {q p : Rq} (h : rqCells q = rqCells p) : rqLits q = rqLits p := by
  simp only [rqCells, List.cons.injEq, Value.int.injEq, Value.string.injEq, Value.bool.injEq, true_and, and_true] at h
  have hb : ∀ {a b : List UInt8}, bs a = bs b → a = b := fun h => by
    have := congrArg (fun s => s.data.toList) h
    simpa [bs] using this
  obtain ⟨h0, h1, h2, h3, h4, h5, h6, h7⟩ := h
  simp only [rqLits, List.cons.injEq, Lit.int.injEq, Lit.string.injEq, Lit.bool.injEq, true_and, and_true]
  exact ⟨h0, hb h1, hb h2, hb h3, hb h4, hb h5, hb h6, h7⟩
/-- A request as it can be read. -/
def RqOk (q : Rq) : Prop := (-9223372036854775808 ≤ q.kind ∧ q.kind ≤ 9223372036854775807) ∧ (∀ i, (q.tx i).length ≤ 9223372036854775807) ∧ ∀ i, -9223372036854775808 ≤ q.nx i ∧ q.nx i ≤ 9223372036854775807
theorem refRq_ok {q : Rq} (h : RqOk q) : RqOk (refRq q) := by
  obtain ⟨h1, h2, h3⟩ := h
  refine ⟨h1, fun i => ?_, fun i => ?_⟩
  · show (selT _ _).length ≤ _
    unfold selT
    split
    · exact h2 i
    · simp
  · show _ ≤ selN _ _ ∧ selN _ _ ≤ _
    unfold selN
    split
    · exact h3 i
    · omega
theorem fieldsK_ascii (k : Int) (j : Nat) (h : j < (fieldsK k).length) : ((fieldsK k).getD j 0).toNat < 128 := by
  have := fieldsK_small k j h
  rw [List.getD_eq_getElem?_getD, List.getElem?_eq_getElem h]
  simpa using this
end Go.Proofs.Ytkekkalgebgokaa

/- The walks of layer 19: requests, and their fields. -/
set_option linter.unusedSimpArgs false
set_option linter.unusedVariables false
namespace Go.Proofs.Ytkekkalgebgokaa
open Go Go.RowKit

section
theorem infMsgW_3 : Try.prog.info? 3 = some Try.t3 := by kernel_rfl
theorem infMsgW_9 : Try.prog.info? 9 = some Try.t9 := by kernel_rfl
theorem infMsgW_286 : Try.prog.info? 286 = some Try.t286 := by kernel_rfl
theorem plcMsgW_286 : placesOf Try.prog (Try.prog.fieldsOf 286) = some [(0, 1), (1, 1)] := by kernel_rfl


theorem may_no1 {q : Rq} (h : (!isKind q.kind) = true) : mayQ q = false := by
  unfold mayQ; simp at h; simp [h]
theorem may_no2 {q : Rq} {k : Nat} (hk : k < (fieldsK q.kind).length) (h : okL q ((fieldsK q.kind).getD k 0) = false) : mayQ q = false := by
  unfold mayQ
  rw [if_neg]
  rintro ⟨_, h2⟩
  rw [List.all_eq_true] at h2
  have := h2 ((fieldsK q.kind).getD k 0) (by rw [List.getD_eq_getElem?_getD, List.getElem?_eq_getElem hk]; simp)
  rw [h] at this
  cases this
theorem may_yes {q : Rq} {k : Nat} (h : (!isKind q.kind) = false) (hk : (fieldsK q.kind).length ≤ k) (ha : ((fieldsK q.kind).take k).all (okL q) = true) : mayQ q = true := by
  unfold mayQ
  rw [List.take_of_length_le hk] at ha
  simp at h
  rw [if_pos ⟨h, ha⟩]
theorem may_next {q : Rq} {k : Nat} (hk : k < (fieldsK q.kind).length) (ha : ((fieldsK q.kind).take k).all (okL q) = true) (h : okL q ((fieldsK q.kind).getD k 0) = true) : ((fieldsK q.kind).take (k + 1)).all (okL q) = true := by
  rw [List.take_succ_eq_append_getElem hk, List.all_append, ha]
  rw [List.getD_eq_getElem?_getD, List.getElem?_eq_getElem hk] at h
  simpa using h
theorem okL_text {q : Rq} {c : UInt8} {i : Nat} (h : textIdx (c.toNat : Int) = some i) : okL q c = decide ((q.tx i).length ≤ 100) := by unfold okL; rw [h]
theorem okL_num {q : Rq} {c : UInt8} {i : Nat} (h0 : textIdx (c.toNat : Int) = none) (h : numIdx (c.toNat : Int) = some i) : okL q c = decide (0 ≤ q.nx i ∧ q.nx i ≤ 1099511627776) := by unfold okL; rw [h0, h]
theorem okL_flag {q : Rq} {c : UInt8} (h0 : textIdx (c.toNat : Int) = none) (h : numIdx (c.toNat : Int) = none) : okL q c = true := by unfold okL; rw [h0, h]
theorem fold_next (q : Rq) (k : Nat) (hk : k < (fieldsK q.kind).length) : ((fieldsK q.kind).take (k + 1)).foldl (rqTake q) (rqBare q.kind) = rqTake q (((fieldsK q.kind).take k).foldl (rqTake q) (rqBare q.kind)) ((fieldsK q.kind).getD k 0) := by
  rw [List.take_succ_eq_append_getElem hk, List.foldl_append]
  rw [List.getD_eq_getElem?_getD, List.getElem?_eq_getElem hk]
  rfl
def rqAt (q : Rq) (k : Nat) : Rq := ((fieldsK q.kind).take k).foldl (rqTake q) (rqBare q.kind)
theorem rqAt_text (q : Rq) (k i : Nat) (hk : k < (fieldsK q.kind).length) (h : textIdx (((fieldsK q.kind).getD k 0).toNat : Int) = some i) : (rqCells (rqAt q k)).toArray.setIfInBounds i (.string (bs (q.tx i))) = (rqCells (rqAt q (k + 1))).toArray := by
  have hb := textIdx_bd _ _ h
  rw [rqCells_setText _ i hb.1 hb.2]
  unfold rqAt
  rw [fold_next q k hk, rqTake_text _ _ _ i h]
theorem rqAt_num (q : Rq) (k i : Nat) (hk : k < (fieldsK q.kind).length) (h0 : textIdx (((fieldsK q.kind).getD k 0).toNat : Int) = none) (h : numIdx (((fieldsK q.kind).getD k 0).toNat : Int) = some i) : (rqCells (rqAt q k)).toArray.setIfInBounds i (.int .i64 (q.nx i)) = (rqCells (rqAt q (k + 1))).toArray := by
  have hb := numIdx_bd _ _ h
  rw [rqCells_setNum _ i hb.1 hb.2]
  unfold rqAt
  rw [fold_next q k hk, rqTake_num _ _ _ i h0 h]
theorem rqAt_flag (q : Rq) (k : Nat) (hk : k < (fieldsK q.kind).length) (h0 : textIdx (((fieldsK q.kind).getD k 0).toNat : Int) = none) (h : numIdx (((fieldsK q.kind).getD k 0).toNat : Int) = none) : (rqCells (rqAt q k)).toArray.setIfInBounds 16 (.bool q.flag) = (rqCells (rqAt q (k + 1))).toArray := by
  rw [rqCells_setFlag]
  unfold rqAt
  rw [fold_next q k hk, rqTake_flag _ _ _ h0 h]
theorem rqAt_end (q : Rq) (k : Nat) (hk : (fieldsK q.kind).length ≤ k) : rqAt q k = rqClean q := by
  unfold rqAt rqClean
  rw [List.take_of_length_le hk]

set_option maxRecDepth 100000 in
set_option maxHeartbeats 1000000 in
theorem msg_is (k : Int) :
    Ct Try.prog 153 [.int .i64 k] [] [] fun v post => v = .bool (isKind k) ∧ post = [] := by
 refine ct_of Try.func153 rfl rfl (fun w0 => ?_)
 show G _ _ [(0, _)] _ _
 refine G_seq ?_
 refine G_region (l := [0]) rfl ?_
 refine G_val rfl rfl rfl rfl (V_assign rfl rfl) ?_
 refine G_done ?_
 refine G_seq ?_
 refine G_region (l := [0, 1, 2, 3, 4, 5, 6]) rfl ?_
 refine G_val rfl rfl rfl rfl (V_move rfl rfl) ?_
 refine G_val rfl rfl rfl rfl (V_geq rfl rfl rfl) ?_
 refine G_val rfl rfl rfl rfl (V_move rfl rfl) ?_
 refine G_splitD 5 rfl (fun hc1 => ?_) (fun hc1 => ?_)
 · skip
   refine G_val rfl rfl rfl rfl (V_move rfl rfl) ?_
   refine G_val rfl rfl rfl rfl (V_leq rfl rfl rfl) ?_
   refine G_val rfl rfl rfl rfl (V_pickT rfl rfl rfl) ?_
   refine G_val rfl rfl rfl rfl (V_assign rfl rfl) ?_
   refine G_done ?_
   refine G_ret (post := []) Try.func153 rfl (RVs_cons (RV_tmp rfl) RVs_nil) [] rfl ?_
   dsimp only [packed]
   refine ⟨bool_eq ?_, rfl⟩; unfold isKind; first | (symm; simp; omega) | (simp; omega)
 refine G_off rfl rfl rfl rfl ?_
 refine G_off rfl rfl rfl rfl ?_
 refine G_val rfl rfl rfl rfl (V_pickF rfl rfl rfl) ?_
 refine G_val rfl rfl rfl rfl (V_assign rfl rfl) ?_
 refine G_done ?_
 refine G_ret (post := []) Try.func153 rfl (RVs_cons (RV_tmp rfl) RVs_nil) [] rfl ?_
 dsimp only [packed]
 refine ⟨bool_eq ?_, rfl⟩; unfold isKind; first | (symm; simp; omega) | (simp; omega)

set_option maxRecDepth 100000 in
set_option maxHeartbeats 1000000 in
theorem msg_forms  :
    Ct Try.prog 177 [] [] [] fun v post => ∃ b, v = .slice (some ⟨b, 0, none⟩) 18 18 ∧ post = [(some b, .cells formArr 286 (0, 0))] := by
 refine ct_of Try.func177 rfl rfl (fun w0 => ?_)
 show G _ _ [] _ _
 refine G_seq ?_
 refine G_region (l := [0]) rfl ?_
 refine G_val rfl rfl rfl rfl (V_assign rfl rfl) ?_
 refine G_done ?_
 refine G_seq ?_
 refine G_region (l := [0, 1, 2, 3, 4, 5, 6, 7, 8, 9, 10, 11, 12, 13, 14, 15, 16, 17, 18, 19]) rfl ?_
 refine G_val rfl rfl rfl rfl (V_buildS (cs := [_, _]) rfl Try.underlying286 infMsgW_286 rfl plcMsgW_286 rfl rfl rfl) ?_
 refine G_val rfl rfl rfl rfl (V_buildS (cs := [_, _]) rfl Try.underlying286 infMsgW_286 rfl plcMsgW_286 rfl rfl rfl) ?_
 refine G_val rfl rfl rfl rfl (V_buildS (cs := [_, _]) rfl Try.underlying286 infMsgW_286 rfl plcMsgW_286 rfl rfl rfl) ?_
 refine G_val rfl rfl rfl rfl (V_buildS (cs := [_, _]) rfl Try.underlying286 infMsgW_286 rfl plcMsgW_286 rfl rfl rfl) ?_
 refine G_val rfl rfl rfl rfl (V_buildS (cs := [_, _]) rfl Try.underlying286 infMsgW_286 rfl plcMsgW_286 rfl rfl rfl) ?_
 refine G_val rfl rfl rfl rfl (V_buildS (cs := [_, _]) rfl Try.underlying286 infMsgW_286 rfl plcMsgW_286 rfl rfl rfl) ?_
 refine G_val rfl rfl rfl rfl (V_buildS (cs := [_, _]) rfl Try.underlying286 infMsgW_286 rfl plcMsgW_286 rfl rfl rfl) ?_
 refine G_val rfl rfl rfl rfl (V_buildS (cs := [_, _]) rfl Try.underlying286 infMsgW_286 rfl plcMsgW_286 rfl rfl rfl) ?_
 refine G_val rfl rfl rfl rfl (V_buildS (cs := [_, _]) rfl Try.underlying286 infMsgW_286 rfl plcMsgW_286 rfl rfl rfl) ?_
 refine G_val rfl rfl rfl rfl (V_buildS (cs := [_, _]) rfl Try.underlying286 infMsgW_286 rfl plcMsgW_286 rfl rfl rfl) ?_
 refine G_val rfl rfl rfl rfl (V_buildS (cs := [_, _]) rfl Try.underlying286 infMsgW_286 rfl plcMsgW_286 rfl rfl rfl) ?_
 refine G_val rfl rfl rfl rfl (V_buildS (cs := [_, _]) rfl Try.underlying286 infMsgW_286 rfl plcMsgW_286 rfl rfl rfl) ?_
 refine G_val rfl rfl rfl rfl (V_buildS (cs := [_, _]) rfl Try.underlying286 infMsgW_286 rfl plcMsgW_286 rfl rfl rfl) ?_
 refine G_val rfl rfl rfl rfl (V_buildS (cs := [_, _]) rfl Try.underlying286 infMsgW_286 rfl plcMsgW_286 rfl rfl rfl) ?_
 refine G_val rfl rfl rfl rfl (V_buildS (cs := [_, _]) rfl Try.underlying286 infMsgW_286 rfl plcMsgW_286 rfl rfl rfl) ?_
 refine G_val rfl rfl rfl rfl (V_buildS (cs := [_, _]) rfl Try.underlying286 infMsgW_286 rfl plcMsgW_286 rfl rfl rfl) ?_
 refine G_val rfl rfl rfl rfl (V_buildS (cs := [_, _]) rfl Try.underlying286 infMsgW_286 rfl plcMsgW_286 rfl rfl rfl) ?_
 refine G_val rfl rfl rfl rfl (V_buildS (cs := [_, _]) rfl Try.underlying286 infMsgW_286 rfl plcMsgW_286 rfl rfl rfl) ?_
 refine G_new rfl rfl rfl rfl (N_buildAll (s := 2) (cs := [_, _, _, _, _, _, _, _, _, _, _, _, _, _, _, _, _, _, _, _, _, _, _, _, _, _, _, _, _, _, _, _, _, _, _, _]) rfl Try.underlying298 infMsgW_286 rfl rfl rfl rfl rfl rfl rfl rfl rfl) (fun b19 => ?_)
 refine G_val rfl rfl rfl rfl (V_assign rfl rfl) ?_
 refine G_done ?_
 refine G_ret (post := [_]) Try.func177 rfl (RVs_cons (RV_tmp rfl) RVs_nil) [0] rfl ?_
 dsimp only [packed]
 exact ⟨_, rfl, rfl⟩


theorem formArr_ext : ∀ m, m < 18 → formArr.extract (0 + m * 2) (0 + m * 2 + 2) = #[.string (bs (wordOf m)), .string (bs (fieldsOf m))] := by
  intro m hm
  match m, hm with
  | 0, _ => rfl
  | 1, _ => rfl
  | 2, _ => rfl
  | 3, _ => rfl
  | 4, _ => rfl
  | 5, _ => rfl
  | 6, _ => rfl
  | 7, _ => rfl
  | 8, _ => rfl
  | 9, _ => rfl
  | 10, _ => rfl
  | 11, _ => rfl
  | 12, _ => rfl
  | 13, _ => rfl
  | 14, _ => rfl
  | 15, _ => rfl
  | 16, _ => rfl
  | 17, _ => rfl
  | _ + 18, h => exact absurd h (by omega)
def formV (k : Int) : Value := .agg #[.string (bs (wordK k)), .string (bs (fieldsK k))]
theorem formV_no {k : Int} (h : (!isKind k) = true) : formV k = .agg #[.string (bs []), .string (bs [])] := by
  have h : ¬ (1 ≤ k ∧ k ≤ 17) := by
    intro hk
    unfold isKind at h
    simp [hk] at h
  unfold formV
  rw [wordK_no k h, fieldsK_no k h]
theorem formV_yes {m : Nat} (h1 : 1 ≤ m) (h2 : m ≤ 17) : formV (m : Int) = .agg #[.string (bs (wordOf m)), .string (bs (fieldsOf m))] := by
  unfold formV
  rw [wordK_yes m h1 h2, fieldsK_yes m h1 h2]

set_option maxRecDepth 100000 in
set_option maxHeartbeats 1000000 in
theorem msg_of (k : Int) :
    Ct Try.prog 170 [.int .i64 k] [] [] fun v post => v = formV k ∧ post = [] := by
 refine ct_of Try.func170 rfl rfl (fun w0 => ?_)
 show G _ _ [(0, _)] _ _
 refine G_seq ?_
 refine G_region (l := [0]) rfl ?_
 refine G_new rfl rfl rfl rfl (N_allocA rfl infMsgW_286 rfl) (fun b2 => ?_)
 refine G_done ?_
 refine G_seq ?_
 refine G_seq ?_
 refine G_region (l := [0, 1, 2]) rfl ?_
 refine G_val rfl rfl rfl rfl (V_move rfl rfl) ?_
 refine G_call (L2 := [_]) rfl rfl rfl rfl rfl rfl Try.call153 (msg_is _) [] [] rfl rfl ?_
 rintro v post ⟨rfl, rfl⟩
 show G _ _ _ [_] _
 refine G_val rfl rfl rfl rfl (V_not rfl rfl) ?_
 refine G_done ?_
 refine G_if rfl (fun hc1 => ?_) (fun hc1 => ?_)
 · skip
   refine G_seq ?_
   refine G_region (l := [0, 1]) rfl ?_
   refine G_val rfl rfl rfl rfl (V_buildS (cs := [_, _]) rfl Try.underlying286 infMsgW_286 rfl plcMsgW_286 rfl rfl rfl) ?_
   refine G_put (l1 := []) (L' := [_]) rfl rfl rfl rfl (P_storeA (s := 2) rfl rfl rfl (mem_at 0 rfl) (by first | rfl | (simp [bcells_length, rqCells]; done) | (simp [bcells_length, rqCells]; omega) | (simp [bcells_length, *, rqCells]; done)) infMsgW_286 rfl (by first | rfl | (simp [bcells_length, rqCells]; done) | (simp [bcells_length, rqCells]; omega) | (simp [bcells_length, *, rqCells]; done)) (by first | rfl | exact bcells_all _ | (simp [Value.oneCell', rqCells]; done) | (simp [Value.oneCell', *, rqCells]; done))) rfl ?_
   refine G_done ?_
   refine G_ret (post := []) Try.func170 rfl (RVs_cons (RV_cell (s := 2) rfl (mem_at 0 rfl) Try.underlying286 rfl infMsgW_286 rfl (by first | rfl | (simp [bcells_length, rqCells]; done) | (simp [bcells_length, rqCells]; omega) | (simp [bcells_length, *, rqCells]; done))) RVs_nil) [] rfl ?_
   dsimp only [packed]
   first | exact ⟨(formV_no (by assumption)).symm, rfl⟩ | exact ⟨(formV_yes (by omega) (by omega)).symm, rfl⟩
 refine G_skip ?_
 refine G_seq ?_
 have hkk : 1 ≤ k ∧ k ≤ 17 := by
   have h := hc1
   unfold isKind at h
   simp at h
   omega
 obtain ⟨m, rfl⟩ := Int.eq_ofNat_of_zero_le (show 0 ≤ k by omega)
 refine G_region (l := [0, 1, 2, 3, 4]) rfl ?_
 refine G_call (L2 := [_]) rfl rfl rfl rfl rfl rfl Try.call177 (msg_forms) [] [] rfl rfl ?_
 rintro v post ⟨bf, rfl, rfl⟩
 show G _ _ _ [_, _] _
 refine G_val rfl rfl rfl rfl (V_move rfl rfl) ?_
 first
   | refine G_val rfl rfl rfl rfl (V_indexAddrN (s := 2) rfl Try.underlying298 infMsgW_286 rfl rfl rfl rfl (by omega)) ?_
   | refine G_val rfl rfl rfl rfl (V_indexAddr (s := 2) rfl Try.underlying298 infMsgW_286 rfl rfl rfl (by omega) (by first | omega | (simp [rqCells]; done) | (simp [rqCells]; omega) | (simp [rqCells] at *; omega))) ?_
 refine G_val rfl rfl rfl rfl (V_loadA (s := 2) (vs := #[.string (bs (wordOf m)), .string (bs (fieldsOf m))]) rfl rfl (mem_at 0 rfl) Try.underlying286 rfl infMsgW_286 rfl (formArr_ext m (by omega)) rfl) ?_
 refine G_put (l1 := [_]) (L' := [_, _]) rfl rfl rfl rfl (P_storeA (s := 2) rfl rfl rfl (mem_at 1 rfl) (by first | rfl | (simp [bcells_length, rqCells]; done) | (simp [bcells_length, rqCells]; omega) | (simp [bcells_length, *, rqCells]; done)) infMsgW_286 rfl (by first | rfl | (simp [bcells_length, rqCells]; done) | (simp [bcells_length, rqCells]; omega) | (simp [bcells_length, *, rqCells]; done)) (by first | rfl | exact bcells_all _ | (simp [Value.oneCell', rqCells]; done) | (simp [Value.oneCell', *, rqCells]; done))) rfl ?_
 refine G_done ?_
 refine G_ret (post := []) Try.func170 rfl (RVs_cons (RV_cell (s := 2) rfl (mem_at 1 rfl) Try.underlying286 rfl infMsgW_286 rfl (by first | rfl | (simp [bcells_length, rqCells]; done) | (simp [bcells_length, rqCells]; omega) | (simp [bcells_length, *, rqCells]; done))) RVs_nil) [] rfl ?_
 dsimp only [packed]
 first | exact ⟨(formV_no (by assumption)).symm, rfl⟩ | exact ⟨(formV_yes (by omega) (by omega)).symm, rfl⟩

set_option maxRecDepth 100000 in
set_option maxHeartbeats 1000000 in
theorem msg_fields (k : Int) :
    Ct Try.prog 154 [.int .i64 k] [] [] fun v post => v = .string (bs (fieldsK k)) ∧ post = [] := by
 refine ct_of Try.func154 rfl rfl (fun w0 => ?_)
 show G _ _ [(0, _)] _ _
 refine G_seq ?_
 refine G_region (l := [0]) rfl ?_
 refine G_val rfl rfl rfl rfl (V_assign rfl rfl) ?_
 refine G_done ?_
 refine G_seq ?_
 refine G_region (l := [0, 1, 2, 3]) rfl ?_
 refine G_val rfl rfl rfl rfl (V_move rfl rfl) ?_
 refine G_call (L2 := []) rfl rfl rfl rfl rfl rfl Try.call170 (msg_of _) [] [] rfl rfl ?_
 rintro v post ⟨rfl, rfl⟩
 refine G_val rfl rfl rfl rfl (V_field1 rfl Try.underlying286 rfl Try.underlying9 rfl rfl rfl) ?_
 refine G_val rfl rfl rfl rfl (V_assign rfl rfl) ?_
 refine G_done ?_
 refine G_ret (post := []) Try.func154 rfl (RVs_cons (RV_tmp rfl) RVs_nil) [] rfl ?_
 dsimp only [packed]
 exact ⟨rfl, rfl⟩

set_option maxRecDepth 100000 in
set_option maxHeartbeats 1000000 in
theorem msg_text (b : Nat) (c : Int) (i : Option Nat) (h : textIdx c = i) :
    Ct Try.prog 155 [.pointer (some ⟨b, 0, none⟩), .int .i32 c] [] [] fun v post => v = ptrAt b i ∧ post = [] := by
 refine ct_of Try.func155 rfl rfl (fun w0 => ?_)
 show G _ _ [(0, _), (1, _)] _ _
 refine G_seq ?_
 refine G_region (l := [0]) rfl ?_
 refine G_val rfl rfl rfl rfl (V_assign rfl rfl) ?_
 refine G_done ?_
 refine G_seq ?_
 refine G_seq ?_
 refine G_region (l := [0]) rfl ?_
 refine G_val rfl rfl rfl rfl (V_move rfl rfl) ?_
 refine G_done ?_
 refine G_block ?_
 refine G_seq ?_
 refine G_region (l := [0, 1]) rfl ?_
 refine G_val rfl rfl rfl rfl (V_eql rfl rfl rfl) ?_
 refine G_val rfl rfl rfl rfl (V_assign rfl rfl) ?_
 refine G_done ?_
 refine G_ifD rfl (fun hc1 => ?_) (fun hc1 => ?_)
 · skip
   refine G_seq ?_
   refine G_region (l := [0, 1, 2, 3]) rfl ?_
   refine G_val rfl rfl rfl rfl (V_move rfl rfl) ?_
   first
     | refine G_val rfl rfl rfl rfl (V_nilCheck rfl rfl) ?_
     | refine G_val rfl rfl rfl rfl (V_nilCheckF rfl rfl) ?_
   refine G_val rfl rfl rfl rfl (V_fieldAddr (fo := _ + 1) rfl Try.underlying67 rfl infMsgW_9 rfl rfl rfl) ?_
   refine G_val rfl rfl rfl rfl (V_assign rfl rfl) ?_
   refine G_done ?_
   refine G_ret (post := []) Try.func155 rfl (RVs_cons (RV_tmp rfl) RVs_nil) [] rfl ?_
   dsimp only [packed]
   refine ⟨?_, rfl⟩; subst h; simp [textIdx, ptrAt, *]
 refine G_seq ?_
 refine G_region (l := [0, 1]) rfl ?_
 refine G_val rfl rfl rfl rfl (V_eql rfl rfl rfl) ?_
 refine G_val rfl rfl rfl rfl (V_assign rfl rfl) ?_
 refine G_done ?_
 refine G_ifD rfl (fun hc2 => ?_) (fun hc2 => ?_)
 · skip
   refine G_seq ?_
   refine G_region (l := [0, 1, 2, 3]) rfl ?_
   refine G_val rfl rfl rfl rfl (V_move rfl rfl) ?_
   first
     | refine G_val rfl rfl rfl rfl (V_nilCheck rfl rfl) ?_
     | refine G_val rfl rfl rfl rfl (V_nilCheckF rfl rfl) ?_
   refine G_val rfl rfl rfl rfl (V_fieldAddr (fo := _ + 2) rfl Try.underlying67 rfl infMsgW_9 rfl rfl rfl) ?_
   refine G_val rfl rfl rfl rfl (V_assign rfl rfl) ?_
   refine G_done ?_
   refine G_ret (post := []) Try.func155 rfl (RVs_cons (RV_tmp rfl) RVs_nil) [] rfl ?_
   dsimp only [packed]
   refine ⟨?_, rfl⟩; subst h; simp [textIdx, ptrAt, *]
 refine G_seq ?_
 refine G_region (l := [0, 1]) rfl ?_
 refine G_val rfl rfl rfl rfl (V_eql rfl rfl rfl) ?_
 refine G_val rfl rfl rfl rfl (V_assign rfl rfl) ?_
 refine G_done ?_
 refine G_ifD rfl (fun hc3 => ?_) (fun hc3 => ?_)
 · skip
   refine G_seq ?_
   refine G_region (l := [0, 1, 2, 3]) rfl ?_
   refine G_val rfl rfl rfl rfl (V_move rfl rfl) ?_
   first
     | refine G_val rfl rfl rfl rfl (V_nilCheck rfl rfl) ?_
     | refine G_val rfl rfl rfl rfl (V_nilCheckF rfl rfl) ?_
   refine G_val rfl rfl rfl rfl (V_fieldAddr (fo := _ + 3) rfl Try.underlying67 rfl infMsgW_9 rfl rfl rfl) ?_
   refine G_val rfl rfl rfl rfl (V_assign rfl rfl) ?_
   refine G_done ?_
   refine G_ret (post := []) Try.func155 rfl (RVs_cons (RV_tmp rfl) RVs_nil) [] rfl ?_
   dsimp only [packed]
   refine ⟨?_, rfl⟩; subst h; simp [textIdx, ptrAt, *]
 refine G_seq ?_
 refine G_region (l := [0, 1]) rfl ?_
 refine G_val rfl rfl rfl rfl (V_eql rfl rfl rfl) ?_
 refine G_val rfl rfl rfl rfl (V_assign rfl rfl) ?_
 refine G_done ?_
 refine G_ifD rfl (fun hc4 => ?_) (fun hc4 => ?_)
 · skip
   refine G_seq ?_
   refine G_region (l := [0, 1, 2, 3]) rfl ?_
   refine G_val rfl rfl rfl rfl (V_move rfl rfl) ?_
   first
     | refine G_val rfl rfl rfl rfl (V_nilCheck rfl rfl) ?_
     | refine G_val rfl rfl rfl rfl (V_nilCheckF rfl rfl) ?_
   refine G_val rfl rfl rfl rfl (V_fieldAddr (fo := _ + 4) rfl Try.underlying67 rfl infMsgW_9 rfl rfl rfl) ?_
   refine G_val rfl rfl rfl rfl (V_assign rfl rfl) ?_
   refine G_done ?_
   refine G_ret (post := []) Try.func155 rfl (RVs_cons (RV_tmp rfl) RVs_nil) [] rfl ?_
   dsimp only [packed]
   refine ⟨?_, rfl⟩; subst h; simp [textIdx, ptrAt, *]
 refine G_seq ?_
 refine G_region (l := [0, 1]) rfl ?_
 refine G_val rfl rfl rfl rfl (V_eql rfl rfl rfl) ?_
 refine G_val rfl rfl rfl rfl (V_assign rfl rfl) ?_
 refine G_done ?_
 refine G_ifD rfl (fun hc5 => ?_) (fun hc5 => ?_)
 · skip
   refine G_seq ?_
   refine G_region (l := [0, 1, 2, 3]) rfl ?_
   refine G_val rfl rfl rfl rfl (V_move rfl rfl) ?_
   first
     | refine G_val rfl rfl rfl rfl (V_nilCheck rfl rfl) ?_
     | refine G_val rfl rfl rfl rfl (V_nilCheckF rfl rfl) ?_
   refine G_val rfl rfl rfl rfl (V_fieldAddr (fo := _ + 5) rfl Try.underlying67 rfl infMsgW_9 rfl rfl rfl) ?_
   refine G_val rfl rfl rfl rfl (V_assign rfl rfl) ?_
   refine G_done ?_
   refine G_ret (post := []) Try.func155 rfl (RVs_cons (RV_tmp rfl) RVs_nil) [] rfl ?_
   dsimp only [packed]
   refine ⟨?_, rfl⟩; subst h; simp [textIdx, ptrAt, *]
 refine G_seq ?_
 refine G_region (l := [0, 1]) rfl ?_
 refine G_val rfl rfl rfl rfl (V_eql rfl rfl rfl) ?_
 refine G_val rfl rfl rfl rfl (V_assign rfl rfl) ?_
 refine G_done ?_
 refine G_ifD rfl (fun hc6 => ?_) (fun hc6 => ?_)
 · skip
   refine G_seq ?_
   refine G_region (l := [0, 1, 2, 3]) rfl ?_
   refine G_val rfl rfl rfl rfl (V_move rfl rfl) ?_
   first
     | refine G_val rfl rfl rfl rfl (V_nilCheck rfl rfl) ?_
     | refine G_val rfl rfl rfl rfl (V_nilCheckF rfl rfl) ?_
   refine G_val rfl rfl rfl rfl (V_fieldAddr (fo := _ + 6) rfl Try.underlying67 rfl infMsgW_9 rfl rfl rfl) ?_
   refine G_val rfl rfl rfl rfl (V_assign rfl rfl) ?_
   refine G_done ?_
   refine G_ret (post := []) Try.func155 rfl (RVs_cons (RV_tmp rfl) RVs_nil) [] rfl ?_
   dsimp only [packed]
   refine ⟨?_, rfl⟩; subst h; simp [textIdx, ptrAt, *]
 refine G_skip ?_
 refine G_inBlock ?_
 refine G_seq ?_
 refine G_region (l := [0]) rfl ?_
 refine G_val rfl rfl rfl rfl (V_assign rfl rfl) ?_
 refine G_done ?_
 refine G_ret (post := []) Try.func155 rfl (RVs_cons (RV_tmp rfl) RVs_nil) [] rfl ?_
 dsimp only [packed]
 refine ⟨?_, rfl⟩; subst h; simp [textIdx, ptrAt, *]

set_option maxRecDepth 100000 in
set_option maxHeartbeats 1000000 in
theorem msg_number (b : Nat) (c : Int) (i : Option Nat) (h : numIdx c = i) :
    Ct Try.prog 156 [.pointer (some ⟨b, 0, none⟩), .int .i32 c] [] [] fun v post => v = ptrAt b i ∧ post = [] := by
 refine ct_of Try.func156 rfl rfl (fun w0 => ?_)
 show G _ _ [(0, _), (1, _)] _ _
 refine G_seq ?_
 refine G_region (l := [0]) rfl ?_
 refine G_val rfl rfl rfl rfl (V_assign rfl rfl) ?_
 refine G_done ?_
 refine G_seq ?_
 refine G_seq ?_
 refine G_region (l := [0]) rfl ?_
 refine G_val rfl rfl rfl rfl (V_move rfl rfl) ?_
 refine G_done ?_
 refine G_block ?_
 refine G_seq ?_
 refine G_region (l := [0, 1]) rfl ?_
 refine G_val rfl rfl rfl rfl (V_eql rfl rfl rfl) ?_
 refine G_val rfl rfl rfl rfl (V_assign rfl rfl) ?_
 refine G_done ?_
 refine G_ifD rfl (fun hc1 => ?_) (fun hc1 => ?_)
 · skip
   refine G_seq ?_
   refine G_region (l := [0, 1, 2, 3]) rfl ?_
   refine G_val rfl rfl rfl rfl (V_move rfl rfl) ?_
   first
     | refine G_val rfl rfl rfl rfl (V_nilCheck rfl rfl) ?_
     | refine G_val rfl rfl rfl rfl (V_nilCheckF rfl rfl) ?_
   refine G_val rfl rfl rfl rfl (V_fieldAddr (fo := _ + 7) rfl Try.underlying67 rfl infMsgW_3 rfl rfl rfl) ?_
   refine G_val rfl rfl rfl rfl (V_assign rfl rfl) ?_
   refine G_done ?_
   refine G_ret (post := []) Try.func156 rfl (RVs_cons (RV_tmp rfl) RVs_nil) [] rfl ?_
   dsimp only [packed]
   refine ⟨?_, rfl⟩; subst h; simp [numIdx, ptrAt, *]
 refine G_seq ?_
 refine G_region (l := [0, 1]) rfl ?_
 refine G_val rfl rfl rfl rfl (V_eql rfl rfl rfl) ?_
 refine G_val rfl rfl rfl rfl (V_assign rfl rfl) ?_
 refine G_done ?_
 refine G_ifD rfl (fun hc2 => ?_) (fun hc2 => ?_)
 · skip
   refine G_seq ?_
   refine G_region (l := [0, 1, 2, 3]) rfl ?_
   refine G_val rfl rfl rfl rfl (V_move rfl rfl) ?_
   first
     | refine G_val rfl rfl rfl rfl (V_nilCheck rfl rfl) ?_
     | refine G_val rfl rfl rfl rfl (V_nilCheckF rfl rfl) ?_
   refine G_val rfl rfl rfl rfl (V_fieldAddr (fo := _ + 8) rfl Try.underlying67 rfl infMsgW_3 rfl rfl rfl) ?_
   refine G_val rfl rfl rfl rfl (V_assign rfl rfl) ?_
   refine G_done ?_
   refine G_ret (post := []) Try.func156 rfl (RVs_cons (RV_tmp rfl) RVs_nil) [] rfl ?_
   dsimp only [packed]
   refine ⟨?_, rfl⟩; subst h; simp [numIdx, ptrAt, *]
 refine G_seq ?_
 refine G_region (l := [0, 1]) rfl ?_
 refine G_val rfl rfl rfl rfl (V_eql rfl rfl rfl) ?_
 refine G_val rfl rfl rfl rfl (V_assign rfl rfl) ?_
 refine G_done ?_
 refine G_ifD rfl (fun hc3 => ?_) (fun hc3 => ?_)
 · skip
   refine G_seq ?_
   refine G_region (l := [0, 1, 2, 3]) rfl ?_
   refine G_val rfl rfl rfl rfl (V_move rfl rfl) ?_
   first
     | refine G_val rfl rfl rfl rfl (V_nilCheck rfl rfl) ?_
     | refine G_val rfl rfl rfl rfl (V_nilCheckF rfl rfl) ?_
   refine G_val rfl rfl rfl rfl (V_fieldAddr (fo := _ + 9) rfl Try.underlying67 rfl infMsgW_3 rfl rfl rfl) ?_
   refine G_val rfl rfl rfl rfl (V_assign rfl rfl) ?_
   refine G_done ?_
   refine G_ret (post := []) Try.func156 rfl (RVs_cons (RV_tmp rfl) RVs_nil) [] rfl ?_
   dsimp only [packed]
   refine ⟨?_, rfl⟩; subst h; simp [numIdx, ptrAt, *]
 refine G_seq ?_
 refine G_region (l := [0, 1]) rfl ?_
 refine G_val rfl rfl rfl rfl (V_eql rfl rfl rfl) ?_
 refine G_val rfl rfl rfl rfl (V_assign rfl rfl) ?_
 refine G_done ?_
 refine G_ifD rfl (fun hc4 => ?_) (fun hc4 => ?_)
 · skip
   refine G_seq ?_
   refine G_region (l := [0, 1, 2, 3]) rfl ?_
   refine G_val rfl rfl rfl rfl (V_move rfl rfl) ?_
   first
     | refine G_val rfl rfl rfl rfl (V_nilCheck rfl rfl) ?_
     | refine G_val rfl rfl rfl rfl (V_nilCheckF rfl rfl) ?_
   refine G_val rfl rfl rfl rfl (V_fieldAddr (fo := _ + 10) rfl Try.underlying67 rfl infMsgW_3 rfl rfl rfl) ?_
   refine G_val rfl rfl rfl rfl (V_assign rfl rfl) ?_
   refine G_done ?_
   refine G_ret (post := []) Try.func156 rfl (RVs_cons (RV_tmp rfl) RVs_nil) [] rfl ?_
   dsimp only [packed]
   refine ⟨?_, rfl⟩; subst h; simp [numIdx, ptrAt, *]
 refine G_seq ?_
 refine G_region (l := [0, 1]) rfl ?_
 refine G_val rfl rfl rfl rfl (V_eql rfl rfl rfl) ?_
 refine G_val rfl rfl rfl rfl (V_assign rfl rfl) ?_
 refine G_done ?_
 refine G_ifD rfl (fun hc5 => ?_) (fun hc5 => ?_)
 · skip
   refine G_seq ?_
   refine G_region (l := [0, 1, 2, 3]) rfl ?_
   refine G_val rfl rfl rfl rfl (V_move rfl rfl) ?_
   first
     | refine G_val rfl rfl rfl rfl (V_nilCheck rfl rfl) ?_
     | refine G_val rfl rfl rfl rfl (V_nilCheckF rfl rfl) ?_
   refine G_val rfl rfl rfl rfl (V_fieldAddr (fo := _ + 11) rfl Try.underlying67 rfl infMsgW_3 rfl rfl rfl) ?_
   refine G_val rfl rfl rfl rfl (V_assign rfl rfl) ?_
   refine G_done ?_
   refine G_ret (post := []) Try.func156 rfl (RVs_cons (RV_tmp rfl) RVs_nil) [] rfl ?_
   dsimp only [packed]
   refine ⟨?_, rfl⟩; subst h; simp [numIdx, ptrAt, *]
 refine G_seq ?_
 refine G_region (l := [0, 1]) rfl ?_
 refine G_val rfl rfl rfl rfl (V_eql rfl rfl rfl) ?_
 refine G_val rfl rfl rfl rfl (V_assign rfl rfl) ?_
 refine G_done ?_
 refine G_ifD rfl (fun hc6 => ?_) (fun hc6 => ?_)
 · skip
   refine G_seq ?_
   refine G_region (l := [0, 1, 2, 3]) rfl ?_
   refine G_val rfl rfl rfl rfl (V_move rfl rfl) ?_
   first
     | refine G_val rfl rfl rfl rfl (V_nilCheck rfl rfl) ?_
     | refine G_val rfl rfl rfl rfl (V_nilCheckF rfl rfl) ?_
   refine G_val rfl rfl rfl rfl (V_fieldAddr (fo := _ + 12) rfl Try.underlying67 rfl infMsgW_3 rfl rfl rfl) ?_
   refine G_val rfl rfl rfl rfl (V_assign rfl rfl) ?_
   refine G_done ?_
   refine G_ret (post := []) Try.func156 rfl (RVs_cons (RV_tmp rfl) RVs_nil) [] rfl ?_
   dsimp only [packed]
   refine ⟨?_, rfl⟩; subst h; simp [numIdx, ptrAt, *]
 refine G_seq ?_
 refine G_region (l := [0, 1]) rfl ?_
 refine G_val rfl rfl rfl rfl (V_eql rfl rfl rfl) ?_
 refine G_val rfl rfl rfl rfl (V_assign rfl rfl) ?_
 refine G_done ?_
 refine G_ifD rfl (fun hc7 => ?_) (fun hc7 => ?_)
 · skip
   refine G_seq ?_
   refine G_region (l := [0, 1, 2, 3]) rfl ?_
   refine G_val rfl rfl rfl rfl (V_move rfl rfl) ?_
   first
     | refine G_val rfl rfl rfl rfl (V_nilCheck rfl rfl) ?_
     | refine G_val rfl rfl rfl rfl (V_nilCheckF rfl rfl) ?_
   refine G_val rfl rfl rfl rfl (V_fieldAddr (fo := _ + 13) rfl Try.underlying67 rfl infMsgW_3 rfl rfl rfl) ?_
   refine G_val rfl rfl rfl rfl (V_assign rfl rfl) ?_
   refine G_done ?_
   refine G_ret (post := []) Try.func156 rfl (RVs_cons (RV_tmp rfl) RVs_nil) [] rfl ?_
   dsimp only [packed]
   refine ⟨?_, rfl⟩; subst h; simp [numIdx, ptrAt, *]
 refine G_seq ?_
 refine G_region (l := [0, 1]) rfl ?_
 refine G_val rfl rfl rfl rfl (V_eql rfl rfl rfl) ?_
 refine G_val rfl rfl rfl rfl (V_assign rfl rfl) ?_
 refine G_done ?_
 refine G_ifD rfl (fun hc8 => ?_) (fun hc8 => ?_)
 · skip
   refine G_seq ?_
   refine G_region (l := [0, 1, 2, 3]) rfl ?_
   refine G_val rfl rfl rfl rfl (V_move rfl rfl) ?_
   first
     | refine G_val rfl rfl rfl rfl (V_nilCheck rfl rfl) ?_
     | refine G_val rfl rfl rfl rfl (V_nilCheckF rfl rfl) ?_
   refine G_val rfl rfl rfl rfl (V_fieldAddr (fo := _ + 14) rfl Try.underlying67 rfl infMsgW_3 rfl rfl rfl) ?_
   refine G_val rfl rfl rfl rfl (V_assign rfl rfl) ?_
   refine G_done ?_
   refine G_ret (post := []) Try.func156 rfl (RVs_cons (RV_tmp rfl) RVs_nil) [] rfl ?_
   dsimp only [packed]
   refine ⟨?_, rfl⟩; subst h; simp [numIdx, ptrAt, *]
 refine G_seq ?_
 refine G_region (l := [0, 1]) rfl ?_
 refine G_val rfl rfl rfl rfl (V_eql rfl rfl rfl) ?_
 refine G_val rfl rfl rfl rfl (V_assign rfl rfl) ?_
 refine G_done ?_
 refine G_ifD rfl (fun hc9 => ?_) (fun hc9 => ?_)
 · skip
   refine G_seq ?_
   refine G_region (l := [0, 1, 2, 3]) rfl ?_
   refine G_val rfl rfl rfl rfl (V_move rfl rfl) ?_
   first
     | refine G_val rfl rfl rfl rfl (V_nilCheck rfl rfl) ?_
     | refine G_val rfl rfl rfl rfl (V_nilCheckF rfl rfl) ?_
   refine G_val rfl rfl rfl rfl (V_fieldAddr (fo := _ + 15) rfl Try.underlying67 rfl infMsgW_3 rfl rfl rfl) ?_
   refine G_val rfl rfl rfl rfl (V_assign rfl rfl) ?_
   refine G_done ?_
   refine G_ret (post := []) Try.func156 rfl (RVs_cons (RV_tmp rfl) RVs_nil) [] rfl ?_
   dsimp only [packed]
   refine ⟨?_, rfl⟩; subst h; simp [numIdx, ptrAt, *]
 refine G_skip ?_
 refine G_inBlock ?_
 refine G_seq ?_
 refine G_region (l := [0]) rfl ?_
 refine G_val rfl rfl rfl rfl (V_assign rfl rfl) ?_
 refine G_done ?_
 refine G_ret (post := []) Try.func156 rfl (RVs_cons (RV_tmp rfl) RVs_nil) [] rfl ?_
 dsimp only [packed]
 refine ⟨?_, rfl⟩; subst h; simp [numIdx, ptrAt, *]


theorem letter3 (c : Int) : (∃ i, textIdx c = some i ∧ numIdx c = none ∧ 1 ≤ i ∧ i ≤ 6) ∨ (∃ i, textIdx c = none ∧ numIdx c = some i ∧ 7 ≤ i ∧ i ≤ 15) ∨ (textIdx c = none ∧ numIdx c = none) := by
  rcases htx : textIdx c with _ | i
  · rcases hnx : numIdx c with _ | i
    · exact .inr (.inr ⟨rfl, rfl⟩)
    · have hb := numIdx_bd _ _ hnx
      exact .inr (.inl ⟨i, rfl, rfl, hb.1, hb.2⟩)
  · have hb := textIdx_bd _ _ htx
    exact .inl ⟨i, rfl, textIdx_num _ _ htx, hb.1, hb.2⟩

set_option maxRecDepth 100000 in
set_option maxHeartbeats 1000000 in
theorem msg_may (q : Rq) (hq : RqOk q) :
    Ct Try.prog 136 [.agg (rqCells q).toArray] [] [] fun v post => v = .bool (mayQ q) ∧ post = [] := by
 have htl := hq.2.1
 refine ct_of Try.func136 rfl rfl (fun w0 => ?_)
 show G _ _ [(0, _)] _ _
 refine G_seq ?_
 refine G_region (l := [0, 1]) rfl ?_
 refine G_new rfl rfl rfl rfl (N_boxA rfl rfl) (fun b1 => ?_)
 refine G_val rfl rfl rfl rfl (V_assign rfl rfl) ?_
 refine G_done ?_
 refine G_seq ?_
 refine G_seq ?_
 refine G_region (l := [0, 1, 2, 3]) rfl ?_
 refine G_val rfl rfl rfl rfl (V_fieldAddr (fo := 0) rfl Try.underlying67 rfl infMsgW_3 rfl rfl rfl) ?_
 refine G_val rfl rfl rfl rfl (V_load1 rfl rfl (mem_at 0 rfl) rfl Try.underlying3 rfl) ?_
 refine G_call (L2 := [_]) rfl rfl rfl rfl rfl rfl Try.call153 (msg_is _) [] [] rfl rfl ?_
 rintro v post ⟨rfl, rfl⟩
 show G _ _ _ [_] _
 refine G_val rfl rfl rfl rfl (V_not rfl rfl) ?_
 refine G_done ?_
 refine G_if rfl (fun hc1 => ?_) (fun hc1 => ?_)
 · skip
   refine G_seq ?_
   refine G_region (l := [0]) rfl ?_
   refine G_val rfl rfl rfl rfl (V_assign rfl rfl) ?_
   refine G_done ?_
   refine G_ret (post := []) Try.func136 rfl (RVs_cons (RV_tmp rfl) RVs_nil) [] rfl ?_
   dsimp only [packed]
   first
     | exact ⟨bool_eq (may_no1 (by assumption)).symm, rfl⟩
     | exact ⟨bool_eq (may_no2 hlt (by first | (rw [okL_text htx]; simp; omega) | (rw [okL_num htx hnx]; simp; omega))).symm, rfl⟩
     | exact ⟨bool_eq (may_yes (by assumption) hlt hall).symm, rfl⟩
 refine G_skip ?_
 refine G_seq ?_
 refine G_seq ?_
 refine G_region (l := [0, 1, 2, 3]) rfl ?_
 refine G_val rfl rfl rfl rfl (V_fieldAddr (fo := 0) rfl Try.underlying67 rfl infMsgW_3 rfl rfl rfl) ?_
 refine G_val rfl rfl rfl rfl (V_load1 rfl rfl (mem_at 0 rfl) rfl Try.underlying3 rfl) ?_
 refine G_call (L2 := [_]) rfl rfl rfl rfl rfl rfl Try.call154 (msg_fields _) [] [] rfl rfl ?_
 rintro v post ⟨rfl, rfl⟩
 show G _ _ _ [_] _
 refine G_new rfl rfl rfl rfl (N_range rfl Try.underlying9 rfl) (fun b14 => ?_)
 refine G_done ?_
 refine G_block ?_
 refine G_sub ?he4 [0, 0] ?hl4 (G_loop (X := Nat) (fun k => k ≤ (fieldsK q.kind).length ∧ ((fieldsK q.kind).take k).all (okL q) = true) (fun k => (fieldsK q.kind).length - k) (fun k => [(1, .pointer (some ⟨b1, 0, none⟩)), (14, .pointer (some ⟨b14, 0, none⟩))]) (fun k => [(some b14, .stringIter (bs (fieldsK q.kind)) k), (some b1, .cells (rqCells q).toArray 67 (0, 0))]) ?round4 0 ?h04)
 case he4 => exact (And.intro rfl (And.intro rfl trivial))
 case hl4 => exact ⟨_, rfl⟩
 case h04 => exact ⟨Nat.zero_le _, rfl⟩
 case round4 =>
  intro k hJ ih
  try dsimp only at hJ ih
  obtain ⟨hk, hall⟩ := hJ
  have hti := htl
  clear htl
  refine G_seq ?_
  refine G_region (l := [0, 1]) rfl ?_
  rcases Nat.lt_or_ge k (fieldsK q.kind).length with hlt | hlt
  · skip
    refine G_putV (l1 := []) (L' := [_, _]) rfl rfl rfl rfl rfl (P_next rfl rfl (mem_at 0 rfl) hlt (fieldsK_ascii q.kind k hlt)) rfl ?_
    refine G_val rfl rfl rfl rfl (V_extract rfl rfl rfl) ?_
    refine G_done ?_
    refine G_seq ?_
    refine G_then rfl ?_
    refine G_skip ?_
    refine G_block ?_
    refine G_seq ?_
    refine G_region (l := [0, 1]) rfl ?_
    refine G_val rfl rfl rfl rfl (V_extract rfl rfl rfl) ?_
    refine G_val rfl rfl rfl rfl (V_assign rfl rfl) ?_
    refine G_done ?_
    refine G_seq ?_
    refine G_seq ?_
    rcases letter3 (((fieldsK q.kind).getD k 0).toNat : Int) with ⟨i, htx, hnx, hb1, hb2⟩ | ⟨i, htx, hnx, hb1, hb2⟩ | ⟨htx, hnx⟩
    · skip
      refine G_region (l := [0, 1, 2]) rfl ?_
      refine G_val rfl rfl rfl rfl (V_move rfl rfl) ?_
      refine G_call (L2 := [_, _]) rfl rfl rfl rfl rfl rfl Try.call155 (msg_text _ _ (some i) htx) [] [] rfl rfl ?_
      rintro v post ⟨rfl, rfl⟩
      show G _ _ _ [_, _] _
      refine G_val rfl rfl rfl rfl (V_assign rfl rfl) ?_
      refine G_done ?_
      refine G_seq ?_
      refine G_region (l := [0, 1, 2, 3, 4, 5, 6, 7, 8]) rfl ?_
      refine G_val rfl rfl rfl rfl (V_move rfl rfl) ?_
      refine G_val rfl rfl rfl rfl (V_pneqN rfl Try.underlying244 rfl rfl) ?_
      refine G_val rfl rfl rfl rfl (V_move rfl rfl) ?_
      refine G_val rfl rfl rfl rfl (V_move rfl rfl) ?_
      first
        | refine G_val rfl rfl rfl rfl (V_nilCheck rfl rfl) ?_
        | refine G_val rfl rfl rfl rfl (V_nilCheckF rfl rfl) ?_
      refine G_val rfl rfl rfl rfl (V_load1 rfl rfl (mem_at 1 rfl) (nth_of (rqCells_text q i hb1 hb2)) Try.underlying9 rfl) ?_
      refine G_val rfl rfl rfl rfl (V_slen rfl rfl Try.underlying9 rfl) ?_
      refine G_val rfl rfl rfl rfl (V_gtr rfl rfl rfl) ?_
      refine G_val rfl rfl rfl rfl (V_pickT rfl rfl rfl) ?_
      refine G_done ?_
      refine G_ifD rfl (fun hc2 => ?_) (fun hc2 => ?_)
      · skip
        refine G_seq ?_
        refine G_region (l := [0]) rfl ?_
        refine G_val rfl rfl rfl rfl (V_assign rfl rfl) ?_
        refine G_done ?_
        refine G_ret (post := []) Try.func136 rfl (RVs_cons (RV_tmp rfl) RVs_nil) [] rfl ?_
        dsimp only [packed]
        first
          | exact ⟨bool_eq (may_no1 (by assumption)).symm, rfl⟩
          | exact ⟨bool_eq (may_no2 hlt (by first | (rw [okL_text htx]; simp; omega) | (rw [okL_num htx hnx]; simp; omega))).symm, rfl⟩
          | exact ⟨bool_eq (may_yes (by assumption) hlt hall).symm, rfl⟩
      refine G_skip ?_
      refine G_seq ?_
      refine G_region (l := [0, 1, 2]) rfl ?_
      refine G_val rfl rfl rfl rfl (V_move rfl rfl) ?_
      refine G_call (L2 := [_, _]) rfl rfl rfl rfl rfl rfl Try.call156 (msg_number _ _ none hnx) [] [] rfl rfl ?_
      rintro v post ⟨rfl, rfl⟩
      show G _ _ _ [_, _] _
      refine G_val rfl rfl rfl rfl (V_assign rfl rfl) ?_
      refine G_done ?_
      refine G_seq ?_
      refine G_region (l := [0, 1, 2, 3, 4, 5, 6, 7, 8, 9, 10, 11, 12, 13]) rfl ?_
      refine G_val rfl rfl rfl rfl (V_move rfl rfl) ?_
      refine G_val rfl rfl rfl rfl (V_pneqN rfl Try.underlying176 rfl rfl) ?_
      refine G_val rfl rfl rfl rfl (V_move rfl rfl) ?_
      refine G_off rfl rfl rfl rfl ?_
      refine G_off rfl rfl rfl rfl ?_
      refine G_off rfl rfl rfl rfl ?_
      refine G_off rfl rfl rfl rfl ?_
      refine G_off rfl rfl rfl rfl ?_
      refine G_off rfl rfl rfl rfl ?_
      refine G_off rfl rfl rfl rfl ?_
      refine G_off rfl rfl rfl rfl ?_
      refine G_off rfl rfl rfl rfl ?_
      refine G_off rfl rfl rfl rfl ?_
      refine G_val rfl rfl rfl rfl (V_pickF rfl rfl rfl) ?_
      refine G_done ?_
      refine G_else rfl ?_
      refine G_skip ?_
      refine G_inBlock ?_
      refine G_sub ?_ [0, 0] ?_ (ih (k + 1) ?_ ?_)
      · (refine (And.intro ?_ (And.intro ?_ trivial)) <;> first | rfl | exact slot_int (by omega) | exact slot_int (by simp))
      · exact ⟨_, rfl⟩
      · exact ⟨hlt, may_next hlt hall (by first | exact okL_flag htx hnx | (rw [okL_text htx]; simp; omega) | (rw [okL_num htx hnx]; simp; omega))⟩
      · (first | omega | (dsimp only; omega))
    · skip
      refine G_region (l := [0, 1, 2]) rfl ?_
      refine G_val rfl rfl rfl rfl (V_move rfl rfl) ?_
      refine G_call (L2 := [_, _]) rfl rfl rfl rfl rfl rfl Try.call155 (msg_text _ _ none htx) [] [] rfl rfl ?_
      rintro v post ⟨rfl, rfl⟩
      show G _ _ _ [_, _] _
      refine G_val rfl rfl rfl rfl (V_assign rfl rfl) ?_
      refine G_done ?_
      refine G_seq ?_
      refine G_region (l := [0, 1, 2, 3, 4, 5, 6, 7, 8]) rfl ?_
      refine G_val rfl rfl rfl rfl (V_move rfl rfl) ?_
      refine G_val rfl rfl rfl rfl (V_pneqN rfl Try.underlying244 rfl rfl) ?_
      refine G_val rfl rfl rfl rfl (V_move rfl rfl) ?_
      refine G_off rfl rfl rfl rfl ?_
      refine G_off rfl rfl rfl rfl ?_
      refine G_off rfl rfl rfl rfl ?_
      refine G_off rfl rfl rfl rfl ?_
      refine G_off rfl rfl rfl rfl ?_
      refine G_val rfl rfl rfl rfl (V_pickF rfl rfl rfl) ?_
      refine G_done ?_
      refine G_else rfl ?_
      refine G_skip ?_
      refine G_seq ?_
      refine G_region (l := [0, 1, 2]) rfl ?_
      refine G_val rfl rfl rfl rfl (V_move rfl rfl) ?_
      refine G_call (L2 := [_, _]) rfl rfl rfl rfl rfl rfl Try.call156 (msg_number _ _ (some i) hnx) [] [] rfl rfl ?_
      rintro v post ⟨rfl, rfl⟩
      show G _ _ _ [_, _] _
      refine G_val rfl rfl rfl rfl (V_assign rfl rfl) ?_
      refine G_done ?_
      refine G_seq ?_
      refine G_region (l := [0, 1, 2, 3, 4, 5, 6, 7, 8, 9, 10, 11, 12, 13]) rfl ?_
      refine G_val rfl rfl rfl rfl (V_move rfl rfl) ?_
      refine G_val rfl rfl rfl rfl (V_pneqN rfl Try.underlying176 rfl rfl) ?_
      refine G_val rfl rfl rfl rfl (V_move rfl rfl) ?_
      refine G_val rfl rfl rfl rfl (V_move rfl rfl) ?_
      first
        | refine G_val rfl rfl rfl rfl (V_nilCheck rfl rfl) ?_
        | refine G_val rfl rfl rfl rfl (V_nilCheckF rfl rfl) ?_
      refine G_val rfl rfl rfl rfl (V_load1 rfl rfl (mem_at 1 rfl) (nth_of (rqCells_num q i hb1 hb2)) Try.underlying3 rfl) ?_
      refine G_val rfl rfl rfl rfl (V_lss rfl rfl rfl) ?_
      refine G_val rfl rfl rfl rfl (V_move rfl rfl) ?_
      refine G_splitD 38 rfl (fun hc2 => ?_) (fun hc2 => ?_)
      · skip
        refine G_off rfl rfl rfl rfl ?_
        refine G_off rfl rfl rfl rfl ?_
        refine G_off rfl rfl rfl rfl ?_
        refine G_off rfl rfl rfl rfl ?_
        refine G_val rfl rfl rfl rfl (V_pickT rfl rfl rfl) ?_
        refine G_val rfl rfl rfl rfl (V_pickT rfl rfl rfl) ?_
        refine G_done ?_
        refine G_then rfl ?_
        refine G_seq ?_
        refine G_region (l := [0]) rfl ?_
        refine G_val rfl rfl rfl rfl (V_assign rfl rfl) ?_
        refine G_done ?_
        refine G_ret (post := []) Try.func136 rfl (RVs_cons (RV_tmp rfl) RVs_nil) [] rfl ?_
        dsimp only [packed]
        first
          | exact ⟨bool_eq (may_no1 (by assumption)).symm, rfl⟩
          | exact ⟨bool_eq (may_no2 hlt (by first | (rw [okL_text htx]; simp; omega) | (rw [okL_num htx hnx]; simp; omega))).symm, rfl⟩
          | exact ⟨bool_eq (may_yes (by assumption) hlt hall).symm, rfl⟩
      refine G_val rfl rfl rfl rfl (V_move rfl rfl) ?_
      first
        | refine G_val rfl rfl rfl rfl (V_nilCheck rfl rfl) ?_
        | refine G_val rfl rfl rfl rfl (V_nilCheckF rfl rfl) ?_
      refine G_val rfl rfl rfl rfl (V_load1 rfl rfl (mem_at 1 rfl) (nth_of (rqCells_num q i hb1 hb2)) Try.underlying3 rfl) ?_
      refine G_val rfl rfl rfl rfl (V_gtr rfl rfl rfl) ?_
      refine G_val rfl rfl rfl rfl (V_pickF rfl rfl rfl) ?_
      refine G_val rfl rfl rfl rfl (V_pickT rfl rfl rfl) ?_
      refine G_done ?_
      refine G_ifD rfl (fun hc3 => ?_) (fun hc3 => ?_)
      · skip
        refine G_seq ?_
        refine G_region (l := [0]) rfl ?_
        refine G_val rfl rfl rfl rfl (V_assign rfl rfl) ?_
        refine G_done ?_
        refine G_ret (post := []) Try.func136 rfl (RVs_cons (RV_tmp rfl) RVs_nil) [] rfl ?_
        dsimp only [packed]
        first
          | exact ⟨bool_eq (may_no1 (by assumption)).symm, rfl⟩
          | exact ⟨bool_eq (may_no2 hlt (by first | (rw [okL_text htx]; simp; omega) | (rw [okL_num htx hnx]; simp; omega))).symm, rfl⟩
          | exact ⟨bool_eq (may_yes (by assumption) hlt hall).symm, rfl⟩
      refine G_skip ?_
      refine G_inBlock ?_
      refine G_sub ?_ [0, 0] ?_ (ih (k + 1) ?_ ?_)
      · (refine (And.intro ?_ (And.intro ?_ trivial)) <;> first | rfl | exact slot_int (by omega) | exact slot_int (by simp))
      · exact ⟨_, rfl⟩
      · exact ⟨hlt, may_next hlt hall (by first | exact okL_flag htx hnx | (rw [okL_text htx]; simp; omega) | (rw [okL_num htx hnx]; simp; omega))⟩
      · (first | omega | (dsimp only; omega))
    · skip
      refine G_region (l := [0, 1, 2]) rfl ?_
      refine G_val rfl rfl rfl rfl (V_move rfl rfl) ?_
      refine G_call (L2 := [_, _]) rfl rfl rfl rfl rfl rfl Try.call155 (msg_text _ _ none htx) [] [] rfl rfl ?_
      rintro v post ⟨rfl, rfl⟩
      show G _ _ _ [_, _] _
      refine G_val rfl rfl rfl rfl (V_assign rfl rfl) ?_
      refine G_done ?_
      refine G_seq ?_
      refine G_region (l := [0, 1, 2, 3, 4, 5, 6, 7, 8]) rfl ?_
      refine G_val rfl rfl rfl rfl (V_move rfl rfl) ?_
      refine G_val rfl rfl rfl rfl (V_pneqN rfl Try.underlying244 rfl rfl) ?_
      refine G_val rfl rfl rfl rfl (V_move rfl rfl) ?_
      refine G_off rfl rfl rfl rfl ?_
      refine G_off rfl rfl rfl rfl ?_
      refine G_off rfl rfl rfl rfl ?_
      refine G_off rfl rfl rfl rfl ?_
      refine G_off rfl rfl rfl rfl ?_
      refine G_val rfl rfl rfl rfl (V_pickF rfl rfl rfl) ?_
      refine G_done ?_
      refine G_else rfl ?_
      refine G_skip ?_
      refine G_seq ?_
      refine G_region (l := [0, 1, 2]) rfl ?_
      refine G_val rfl rfl rfl rfl (V_move rfl rfl) ?_
      refine G_call (L2 := [_, _]) rfl rfl rfl rfl rfl rfl Try.call156 (msg_number _ _ none hnx) [] [] rfl rfl ?_
      rintro v post ⟨rfl, rfl⟩
      show G _ _ _ [_, _] _
      refine G_val rfl rfl rfl rfl (V_assign rfl rfl) ?_
      refine G_done ?_
      refine G_seq ?_
      refine G_region (l := [0, 1, 2, 3, 4, 5, 6, 7, 8, 9, 10, 11, 12, 13]) rfl ?_
      refine G_val rfl rfl rfl rfl (V_move rfl rfl) ?_
      refine G_val rfl rfl rfl rfl (V_pneqN rfl Try.underlying176 rfl rfl) ?_
      refine G_val rfl rfl rfl rfl (V_move rfl rfl) ?_
      refine G_off rfl rfl rfl rfl ?_
      refine G_off rfl rfl rfl rfl ?_
      refine G_off rfl rfl rfl rfl ?_
      refine G_off rfl rfl rfl rfl ?_
      refine G_off rfl rfl rfl rfl ?_
      refine G_off rfl rfl rfl rfl ?_
      refine G_off rfl rfl rfl rfl ?_
      refine G_off rfl rfl rfl rfl ?_
      refine G_off rfl rfl rfl rfl ?_
      refine G_off rfl rfl rfl rfl ?_
      refine G_val rfl rfl rfl rfl (V_pickF rfl rfl rfl) ?_
      refine G_done ?_
      refine G_else rfl ?_
      refine G_skip ?_
      refine G_inBlock ?_
      refine G_sub ?_ [0, 0] ?_ (ih (k + 1) ?_ ?_)
      · (refine (And.intro ?_ (And.intro ?_ trivial)) <;> first | rfl | exact slot_int (by omega) | exact slot_int (by simp))
      · exact ⟨_, rfl⟩
      · exact ⟨hlt, may_next hlt hall (by first | exact okL_flag htx hnx | (rw [okL_text htx]; simp; omega) | (rw [okL_num htx hnx]; simp; omega))⟩
      · (first | omega | (dsimp only; omega))
  refine G_val rfl rfl rfl rfl (V_nextE rfl rfl (mem_at 0 rfl) hlt) ?_
  refine G_val rfl rfl rfl rfl (V_extract rfl rfl rfl) ?_
  refine G_done ?_
  refine G_seq ?_
  refine G_else rfl ?_
  refine G_exit rfl ?_
  refine G_seq ?_
  refine G_region (l := [0]) rfl ?_
  refine G_val rfl rfl rfl rfl (V_assign rfl rfl) ?_
  refine G_done ?_
  refine G_ret (post := []) Try.func136 rfl (RVs_cons (RV_tmp rfl) RVs_nil) [] rfl ?_
  dsimp only [packed]
  first
    | exact ⟨bool_eq (may_no1 (by assumption)).symm, rfl⟩
    | exact ⟨bool_eq (may_no2 hlt (by first | (rw [okL_text htx]; simp; omega) | (rw [okL_num htx hnx]; simp; omega))).symm, rfl⟩
    | exact ⟨bool_eq (may_yes (by assumption) hlt hall).symm, rfl⟩

end
end Go.Proofs.Ytkekkalgebgokaa

/- Requests as bytes, in plain lists: written, and read. -/
set_option linter.unusedSimpArgs false
set_option linter.unusedVariables false
namespace Go.Proofs.Ytkekkalgebgokaa
open Go Go.RowKit

section



def encF (q : Rq) (c : Int) : List UInt8 := match textIdx c with
  | some i => text (q.tx i)
  | none => match numIdx c with
    | some i => chainI (q.nx i)
    | none => chainI (if q.flag then 1 else 0)
def encFs (q : Rq) (cs : List UInt8) : List UInt8 := cs.flatMap fun c => encF q (c.toNat : Int)
def encQ (q : Rq) : List UInt8 := chainI q.kind ++ encFs q (fieldsK q.kind)
def wireE (q : Rq) : Value := if mayQ q = true then (if 480 < (encQ q).length then .tuple #[.string (bs []), .int .i64 4] else .tuple #[.string (bs (encQ q)), .int .i64 0]) else .tuple #[.string (bs []), .int .i64 1]
theorem encF_text {q : Rq} {c : Int} {i : Nat} (h : textIdx c = some i) : encF q c = text (q.tx i) := by unfold encF; rw [h]
theorem encF_num {q : Rq} {c : Int} {i : Nat} (h0 : textIdx c = none) (h : numIdx c = some i) : encF q c = chainI (q.nx i) := by unfold encF; rw [h0, h]
theorem encF_flag {q : Rq} {c : Int} (h0 : textIdx c = none) (h : numIdx c = none) : encF q c = chainI (if q.flag then 1 else 0) := by unfold encF; rw [h0, h]
/-- What a letter's field must be to be written. -/
structure FOk (q : Rq) (c : Int) : Prop where
  t : ∀ i, textIdx c = some i → (q.tx i).length ≤ 100
  n : ∀ i, textIdx c = none → numIdx c = some i → 0 ≤ q.nx i ∧ q.nx i ≤ 1099511627776
theorem fok_of {q : Rq} {c : UInt8} (h : okL q c = true) : FOk q (c.toNat : Int) := by
  unfold okL at h
  refine ⟨fun i hi => ?_, fun i h0 hi => ?_⟩
  · rw [hi] at h; simpa using h
  · rw [h0, hi] at h; simpa using h
theorem okL_of {q : Rq} {c : UInt8} (h : FOk q (c.toNat : Int)) : okL q c = true := by
  unfold okL
  split
  · rename_i i hi
    simpa using h.t i hi
  · rename_i h0
    split
    · rename_i i hi
      simpa using h.n i h0 hi
    · rfl
theorem encF_len {q : Rq} {c : Int} (h : FOk q c) : (encF q c).length ≤ 110 := by
  rcases letter3 c with ⟨i, htx, hnx, hb1, hb2⟩ | ⟨i, htx, hnx, hb1, hb2⟩ | ⟨htx, hnx⟩
  · rw [encF_text htx]
    have h1 := h.t i htx
    have h2 := text_len (q.tx i) (by omega)
    omega
  · rw [encF_num htx hnx]
    have h1 := h.n i htx hnx
    have := chainI_len (q.nx i) h1.1 (by omega)
    omega
  · rw [encF_flag htx hnx]
    have := chainI_len (if q.flag then 1 else 0) (by split <;> omega) (by split <;> omega)
    omega
theorem encFs_len {q : Rq} : ∀ (cs : List UInt8), (∀ c ∈ cs, FOk q (c.toNat : Int)) → (encFs q cs).length ≤ 110 * cs.length
  | [], _ => by simp [encFs]
  | c :: cs, h => by
    have h1 := encFs_len cs (fun x hx => h x (by simp [hx]))
    have h2 := encF_len (h c (by simp))
    unfold encFs at *
    simp only [List.flatMap_cons, List.length_append, List.length_cons]
    omega
theorem encFs_next (q : Rq) (cs : List UInt8) (k : Nat) (hk : k < cs.length) : encFs q (cs.take (k + 1)) = encFs q (cs.take k) ++ encF q ((cs.getD k 0).toNat : Int) := by
  unfold encFs
  rw [List.take_succ_eq_append_getElem hk, List.flatMap_append]
  rw [List.getD_eq_getElem?_getD, List.getElem?_eq_getElem hk]
  simp
theorem may_fok {q : Rq} (h : mayQ q = true) : (1 ≤ q.kind ∧ q.kind ≤ 17) ∧ ∀ c ∈ fieldsK q.kind, FOk q (c.toNat : Int) := by
  unfold mayQ at h
  split at h
  · rename_i hh
    obtain ⟨h1, h2⟩ := hh
    rw [List.all_eq_true] at h2
    refine ⟨by unfold isKind at h1; simpa using h1, fun c hc => fok_of (h2 c hc)⟩
  · cases h
theorem getD_mem {cs : List UInt8} {k : Nat} (h : k < cs.length) : cs.getD k 0 ∈ cs := by
  rw [List.getD_eq_getElem?_getD, List.getElem?_eq_getElem h]; simp

def setT (q : Rq) (i : Nat) (s : List UInt8) : Rq := { q with tx := fun j => if j = i then s else q.tx j }
def setN (q : Rq) (i : Nat) (n : Int) : Rq := { q with nx := fun j => if j = i then n else q.nx j }
def setB (q : Rq) (b : Bool) : Rq := { q with flag := b }
def rdF (q : Rq) (c : Int) (l : List UInt8) (e : Nat) : Rq × List UInt8 × Nat := match textIdx c with
  | some i => (setT q i (rdStr 100 l e).1, (rdStr 100 l e).2)
  | none => match numIdx c with
    | some i => (setN q i (((rdInt 1099511627776 l e).1 : Nat) : Int), (rdInt 1099511627776 l e).2)
    | none => (setB q (rdFlag l e).1, (rdFlag l e).2)
theorem rdF_text {q : Rq} {c : Int} {i : Nat} (l : List UInt8) (e : Nat) (h : textIdx c = some i) : rdF q c l e = (setT q i (rdStr 100 l e).1, (rdStr 100 l e).2) := by unfold rdF; rw [h]
theorem rdF_num {q : Rq} {c : Int} {i : Nat} (l : List UInt8) (e : Nat) (h0 : textIdx c = none) (h : numIdx c = some i) : rdF q c l e = (setN q i (((rdInt 1099511627776 l e).1 : Nat) : Int), (rdInt 1099511627776 l e).2) := by unfold rdF; rw [h0, h]
theorem rdF_flag {q : Rq} {c : Int} (l : List UInt8) (e : Nat) (h0 : textIdx c = none) (h : numIdx c = none) : rdF q c l e = (setB q (rdFlag l e).1, (rdFlag l e).2) := by unfold rdF; rw [h0, h]
def rdFs (q : Rq) (cs : List UInt8) (l : List UInt8) (e : Nat) : Rq × List UInt8 × Nat := cs.foldl (fun s c => rdF s.1 (c.toNat : Int) s.2.1 s.2.2) (q, l, e)
theorem rdFs_snoc (q : Rq) (cs : List UInt8) (c : UInt8) (l : List UInt8) (e : Nat) : rdFs q (cs ++ [c]) l e = rdF (rdFs q cs l e).1 (c.toNat : Int) (rdFs q cs l e).2.1 (rdFs q cs l e).2.2 := by
  unfold rdFs; rw [List.foldl_append]; rfl
theorem rdFs_next (q : Rq) (cs : List UInt8) (k : Nat) (hk : k < cs.length) (l : List UInt8) (e : Nat) : rdFs q (cs.take (k + 1)) l e = rdF (rdFs q (cs.take k) l e).1 ((cs.getD k 0).toNat : Int) (rdFs q (cs.take k) l e).2.1 (rdFs q (cs.take k) l e).2.2 := by
  rw [List.take_succ_eq_append_getElem hk, rdFs_snoc, List.getD_eq_getElem?_getD, List.getElem?_eq_getElem hk]
  rfl
theorem rdFlag_bd (l : List UInt8) (e : Nat) (he : e ≤ 1000) : (rdFlag l e).2.1.length ≤ l.length ∧ (rdFlag l e).2.2 ≤ 1000 := by
  obtain ⟨v, n, e1, hu⟩ : ∃ v n e1, unchain l = (v, n, e1) := ⟨_, _, _, rfl⟩
  obtain ⟨hv, hb⟩ := unchain_bd hu
  by_cases h : e = 0
  · subst h
    rcases hb with ⟨h0, h1, _, _⟩ | ⟨h0, h1, h2⟩
    · subst h0
      by_cases hl : 1 < v
      · rw [rdFlag_long l v n hu hl]; exact ⟨by simp, by simp⟩
      · rw [rdFlag_ok l v n hu hl]; exact ⟨by simp, by simp⟩
    · rw [rdFlag_bad l v n e1 hu (by omega)]
      exact ⟨by simp, by simp only; omega⟩
  · rw [rdFlag_err l e h]
    exact ⟨by simp, he⟩
theorem rdF_bd (q : Rq) (c : Int) (l : List UInt8) (e : Nat) (he : e ≤ 1000) : (rdF q c l e).2.1.length ≤ l.length ∧ (rdF q c l e).2.2 ≤ 1000 := by
  rcases letter3 c with ⟨i, htx, hnx, hb1, hb2⟩ | ⟨i, htx, hnx, hb1, hb2⟩ | ⟨htx, hnx⟩
  · rw [rdF_text l e htx]; exact (rdStr_bd 100 l e he (by omega)).2
  · rw [rdF_num l e htx hnx]; exact (rdInt_bd 1099511627776 l e he (by omega)).2
  · rw [rdF_flag l e htx hnx]; exact rdFlag_bd l e he
theorem rdFs_bd (q : Rq) (l : List UInt8) (e : Nat) (he : e ≤ 1000) (cs : List UInt8) : ∀ k, (rdFs q (cs.take k) l e).2.1.length ≤ l.length ∧ (rdFs q (cs.take k) l e).2.2 ≤ 1000
  | 0 => ⟨by simp [rdFs], by simpa [rdFs] using he⟩
  | k + 1 => by
    obtain ⟨h1, h2⟩ := rdFs_bd q l e he cs k
    by_cases hk : k < cs.length
    · rw [rdFs_next q cs k hk]
      have := rdF_bd (rdFs q (cs.take k) l e).1 ((cs.getD k 0).toNat : Int) (rdFs q (cs.take k) l e).2.1 (rdFs q (cs.take k) l e).2.2 h2
      exact ⟨by omega, this.2⟩
    · rw [List.take_of_length_le (by omega)] at h1 h2 ⊢
      exact ⟨h1, h2⟩
theorem rdF_kind (q : Rq) (c : Int) (l : List UInt8) (e : Nat) : (rdF q c l e).1.kind = q.kind := by
  rcases letter3 c with ⟨i, htx, hnx, hb1, hb2⟩ | ⟨i, htx, hnx, hb1, hb2⟩ | ⟨htx, hnx⟩
  · rw [rdF_text l e htx]; rfl
  · rw [rdF_num l e htx hnx]; rfl
  · rw [rdF_flag l e htx hnx]; rfl
theorem rdFs_kind (q : Rq) (l : List UInt8) (e : Nat) (cs : List UInt8) : (rdFs q cs l e).1.kind = q.kind := by
  unfold rdFs
  generalize hs : (q, l, e) = s
  have hq : s.1.kind = q.kind := by rw [← hs]
  clear hs
  induction cs generalizing s with
  | nil => exact hq
  | cons c cs ih =>
    rw [List.foldl_cons]
    exact ih _ (by rw [rdF_kind]; exact hq)

-- written, and read
theorem rdF_enc (q o : Rq) (c : UInt8) (rest : List UInt8) (h : FOk q (c.toNat : Int)) : rdF o (c.toNat : Int) (encF q (c.toNat : Int) ++ rest) 0 = (rqTake q o c, rest, 0) := by
  rcases letter3 (c.toNat : Int) with ⟨i, htx, hnx, hb1, hb2⟩ | ⟨i, htx, hnx, hb1, hb2⟩ | ⟨htx, hnx⟩
  · have h1 := h.t i htx
    rw [rdF_text _ _ htx, encF_text htx, rdStr_text 100 _ _ (by omega) (by omega), rqTake_text _ _ _ i htx]; rfl
  · have h1 := h.n i htx hnx
    rw [rdF_num _ _ htx hnx, encF_num htx hnx, rdInt_chain _ _ _ h1.1 h1.2 (by omega), rqTake_num _ _ _ i htx hnx]
    simp only [setN, Int.toNat_of_nonneg h1.1]
  · rw [rdF_flag _ _ htx hnx, encF_flag htx hnx, rdFlag_chain, rqTake_flag _ _ _ htx hnx]; rfl
theorem rdFs_enc (q : Rq) : ∀ (cs : List UInt8) (o : Rq) (rest : List UInt8), (∀ c ∈ cs, FOk q (c.toNat : Int)) → rdFs o cs (encFs q cs ++ rest) 0 = (cs.foldl (rqTake q) o, rest, 0)
  | [], o, rest, _ => rfl
  | c :: cs, o, rest, h => by
    have e : encFs q (c :: cs) ++ rest = encF q (c.toNat : Int) ++ (encFs q cs ++ rest) := by simp [encFs]
    have ih := rdFs_enc q cs (rqTake q o c) rest (fun x hx => h x (by simp [hx]))
    unfold rdFs at ih ⊢
    rw [List.foldl_cons, e]
    simp only
    rw [rdF_enc q o c _ (h c (by simp))]
    exact ih

/-- The request of some bytes, and why there is none: the program's. -/
def dk (l : List UInt8) := rdInt 1099511627776 l 0
def dfs (l : List UInt8) := rdFs (rqBare ((dk l).1 : Int)) (fieldsK ((dk l).1 : Int)) (dk l).2.1 (dk l).2.2
def decOk (l : List UInt8) : Prop := rdEnd (dfs l).2.1 (dfs l).2.2 = 0 ∧ mayQ (dfs l).1 = true
instance (l : List UInt8) : Decidable (decOk l) := by unfold decOk; infer_instance
def decQ (l : List UInt8) : Rq := if 480 < l.length then rqBare 0 else if decOk l then (dfs l).1 else rqBare 0
def decW (l : List UInt8) : Int := if 480 < l.length then 4 else if decOk l then 0 else 3
/-- The document's. -/
def rk (l : List UInt8) := rdInt 17 l 0
def rfs (l : List UInt8) := rdFs (rqBare ((rk l).1 : Int)) (fieldsK ((rk l).1 : Int)) (rk l).2.1 (rk l).2.2
def rdecOk (l : List UInt8) : Prop := rdEnd (rfs l).2.1 (rfs l).2.2 = 0 ∧ 1 ≤ (rfs l).1.kind
instance (l : List UInt8) : Decidable (rdecOk l) := by unfold rdecOk; infer_instance
def rdecQ (l : List UInt8) : Rq := if 480 < l.length then rqBare 0 else if rdecOk l then (rfs l).1 else rqBare 0
def rdecW (l : List UInt8) : Int := if 480 < l.length then 4 else if rdecOk l then 0 else 3

theorem may_cells {p q : Rq} (h : rqCells p = rqCells q) : mayQ p = mayQ q := by
  simp only [rqCells, List.cons.injEq, Value.int.injEq, Value.string.injEq, Value.bool.injEq, true_and, and_true] at h
  have hb : ∀ {a b : List UInt8}, bs a = bs b → a = b := fun h => by
    have := congrArg (fun s => s.data.toList) h
    simpa [bs] using this
  obtain ⟨h0, t1, t2, t3, t4, t5, t6, n7, n8, n9, n10, n11, n12, n13, n14, n15, hf⟩ := h
  have ht : ∀ i, 1 ≤ i → i ≤ 6 → p.tx i = q.tx i := fun i a b => by
    match i, a, b with
    | 1, _, _ => exact hb t1
    | 2, _, _ => exact hb t2
    | 3, _, _ => exact hb t3
    | 4, _, _ => exact hb t4
    | 5, _, _ => exact hb t5
    | 6, _, _ => exact hb t6
  have hn : ∀ i, 7 ≤ i → i ≤ 15 → p.nx i = q.nx i := fun i a b => by
    match i, a, b with
    | 7, _, _ => exact n7
    | 8, _, _ => exact n8
    | 9, _, _ => exact n9
    | 10, _, _ => exact n10
    | 11, _, _ => exact n11
    | 12, _, _ => exact n12
    | 13, _, _ => exact n13
    | 14, _, _ => exact n14
    | 15, _, _ => exact n15
  have hl : okL p = okL q := by
    funext c
    rcases letter3 (c.toNat : Int) with ⟨i, htx, hnx, hb1, hb2⟩ | ⟨i, htx, hnx, hb1, hb2⟩ | ⟨htx, hnx⟩
    · rw [okL_text htx, okL_text htx, ht i hb1 hb2]
    · rw [okL_num htx hnx, okL_num htx hnx, hn i hb1 hb2]
    · rw [okL_flag htx hnx, okL_flag htx hnx]
  unfold mayQ
  rw [h0, hl]
theorem may_clean (q : Rq) : mayQ (rqClean q) = mayQ q := by rw [may_cells (refRq_cells q), mayQ_r, mayQ_r, rmayQ_ref]
theorem wire_there (q : Rq) (h : mayQ q = true) (hl : ¬ 480 < (encQ q).length) : decQ (encQ q) = rqClean q ∧ decW (encQ q) = 0 := by
  obtain ⟨⟨k1, k2⟩, hf⟩ := may_fok h
  have h1 : dk (encQ q) = (q.kind.toNat, encFs q (fieldsK q.kind), 0) := rdInt_chain 1099511627776 q.kind _ (by omega) (by omega) (by omega)
  have h2 : dfs (encQ q) = (rqClean q, [], 0) := by
    unfold dfs
    rw [h1]
    simp only
    rw [Int.toNat_of_nonneg (by omega)]
    have := rdFs_enc q (fieldsK q.kind) (rqBare q.kind) [] hf
    rw [List.append_nil] at this
    exact this
  have h3 : decOk (encQ q) := by
    unfold decOk
    rw [h2]
    exact ⟨rfl, by rw [may_clean]; exact h⟩
  unfold decQ decW
  rw [if_neg hl, if_neg hl, if_pos h3, if_pos h3, h2]
  exact ⟨rfl, rfl⟩

-- read, and written
def keyL (c : UInt8) : Option Nat × Option Nat := (textIdx (c.toNat : Int), numIdx (c.toNat : Int))
theorem fieldsOf_nodup : ∀ k, k < 18 → ((fieldsOf k).map keyL).Nodup := by decide
theorem fieldsK_nodup (k : Int) : ((fieldsK k).map keyL).Nodup := by
  by_cases hk : 1 ≤ k ∧ k ≤ 17
  · obtain ⟨n, rfl⟩ := Int.eq_ofNat_of_zero_le (show 0 ≤ k by omega)
    rw [fieldsK_yes n (by omega) (by omega)]
    exact fieldsOf_nodup n (by omega)
  · rw [fieldsK_no k hk]; simp
theorem setT_other {q : Rq} {i : Nat} {s : List UInt8} {c : UInt8} (h : textIdx (c.toNat : Int) ≠ some i) : encF (setT q i s) (c.toNat : Int) = encF q (c.toNat : Int) := by
  rcases letter3 (c.toNat : Int) with ⟨j, htx, hnx, hb1, hb2⟩ | ⟨j, htx, hnx, hb1, hb2⟩ | ⟨htx, hnx⟩
  · rw [encF_text htx, encF_text htx]
    have : ¬ j = i := fun e => h (by rw [htx, e])
    simp [setT, this]
  · rw [encF_num htx hnx, encF_num htx hnx]; rfl
  · rw [encF_flag htx hnx, encF_flag htx hnx]; rfl
theorem setN_other {q : Rq} {i : Nat} {s : Int} {c : UInt8} (h : textIdx (c.toNat : Int) = none → numIdx (c.toNat : Int) ≠ some i) : encF (setN q i s) (c.toNat : Int) = encF q (c.toNat : Int) := by
  rcases letter3 (c.toNat : Int) with ⟨j, htx, hnx, hb1, hb2⟩ | ⟨j, htx, hnx, hb1, hb2⟩ | ⟨htx, hnx⟩
  · rw [encF_text htx, encF_text htx]; rfl
  · rw [encF_num htx hnx, encF_num htx hnx]
    have : ¬ j = i := fun e => h htx (by rw [hnx, e])
    simp [setN, this]
  · rw [encF_flag htx hnx, encF_flag htx hnx]; rfl
theorem setB_other {q : Rq} {b : Bool} {c : UInt8} (h : ¬ (textIdx (c.toNat : Int) = none ∧ numIdx (c.toNat : Int) = none)) : encF (setB q b) (c.toNat : Int) = encF q (c.toNat : Int) := by
  rcases letter3 (c.toNat : Int) with ⟨j, htx, hnx, hb1, hb2⟩ | ⟨j, htx, hnx, hb1, hb2⟩ | ⟨htx, hnx⟩
  · rw [encF_text htx, encF_text htx]; rfl
  · rw [encF_num htx hnx, encF_num htx hnx]; rfl
  · exact absurd ⟨htx, hnx⟩ h
theorem rdF_other {q : Rq} {c d : UInt8} {l : List UInt8} {e : Nat} (h : keyL d ≠ keyL c) : encF (rdF q (c.toNat : Int) l e).1 (d.toNat : Int) = encF q (d.toNat : Int) := by
  rcases letter3 (c.toNat : Int) with ⟨i, htx, hnx, hb1, hb2⟩ | ⟨i, htx, hnx, hb1, hb2⟩ | ⟨htx, hnx⟩
  · rw [rdF_text l e htx]
    refine setT_other fun hd => h ?_
    unfold keyL
    rw [htx, hnx, hd, textIdx_num _ _ hd]
  · rw [rdF_num l e htx hnx]
    refine setN_other fun h0 hd => h ?_
    unfold keyL
    rw [htx, hnx, h0, hd]
  · rw [rdF_flag l e htx hnx]
    refine setB_other fun hd => h ?_
    unfold keyL
    rw [htx, hnx, hd.1, hd.2]
theorem rdF_back {q : Rq} {c : UInt8} {l : List UInt8} {e : Nat} (h : (rdF q (c.toNat : Int) l e).2.2 = 0) : e = 0 ∧ l = encF (rdF q (c.toNat : Int) l e).1 (c.toNat : Int) ++ (rdF q (c.toNat : Int) l e).2.1 ∧ FOk (rdF q (c.toNat : Int) l e).1 (c.toNat : Int) := by
  rcases letter3 (c.toNat : Int) with ⟨i, htx, hnx, hb1, hb2⟩ | ⟨i, htx, hnx, hb1, hb2⟩ | ⟨htx, hnx⟩
  · rw [rdF_text l e htx] at h ⊢
    obtain ⟨h1, h2⟩ := rdStr_back h
    have hb := (rdStr_bd 100 l e (by omega) (by omega)).1
    rw [encF_text htx]
    have e1 : (setT q i (rdStr 100 l e).1).tx i = (rdStr 100 l e).1 := by simp [setT]
    refine ⟨h1, by simp only; rw [e1]; exact h2, fun j hj => ?_, fun j h0 _ => ?_⟩
    · rw [htx] at hj; cases hj; simp only; rw [e1]; omega
    · rw [htx] at h0; cases h0
  · rw [rdF_num l e htx hnx] at h ⊢
    obtain ⟨h1, h2⟩ := rdInt_back h
    have hb := (rdInt_bd 1099511627776 l e (by omega) (by omega)).1
    rw [encF_num htx hnx]
    have e1 : (setN q i (((rdInt 1099511627776 l e).1 : Nat) : Int)).nx i = (((rdInt 1099511627776 l e).1 : Nat) : Int) := by simp [setN]
    refine ⟨h1, by simp only; rw [e1]; exact h2, fun j hj => ?_, fun j h0 hj => ?_⟩
    · rw [htx] at hj; cases hj
    · rw [hnx] at hj; cases hj; simp only; rw [e1]; omega
  · rw [rdF_flag l e htx hnx] at h ⊢
    obtain ⟨h1, h2⟩ := rdFlag_back h
    rw [encF_flag htx hnx]
    refine ⟨h1, h2, fun j hj => ?_, fun j h0 hj => ?_⟩
    · rw [htx] at hj; cases hj
    · rw [hnx] at hj; cases hj
theorem fok_enc {p q : Rq} {d : UInt8} (he : ∀ i, textIdx (d.toNat : Int) = some i → p.tx i = q.tx i) (hn : ∀ i, textIdx (d.toNat : Int) = none → numIdx (d.toNat : Int) = some i → p.nx i = q.nx i) (h : FOk q (d.toNat : Int)) : FOk p (d.toNat : Int) :=
  ⟨fun i hi => by rw [he i hi]; exact h.t i hi, fun i h0 hi => by rw [hn i h0 hi]; exact h.n i h0 hi⟩
theorem rdF_fok {q : Rq} {c d : UInt8} {l : List UInt8} {e : Nat} (h : keyL d ≠ keyL c) (hq : FOk q (d.toNat : Int)) : FOk (rdF q (c.toNat : Int) l e).1 (d.toNat : Int) := by
  rcases letter3 (c.toNat : Int) with ⟨i, htx, hnx, hb1, hb2⟩ | ⟨i, htx, hnx, hb1, hb2⟩ | ⟨htx, hnx⟩
  · rw [rdF_text l e htx]
    refine fok_enc (q := q) (fun j hj => ?_) (fun j _ _ => rfl) hq
    have : ¬ j = i := fun e => h (by unfold keyL; rw [htx, hnx, hj, e, textIdx_num _ _ hj])
    simp [setT, this]
  · rw [rdF_num l e htx hnx]
    refine fok_enc (q := q) (fun j _ => rfl) (fun j h0 hj => ?_) hq
    have : ¬ j = i := fun e => h (by unfold keyL; rw [htx, hnx, h0, hj, e])
    simp [setN, this]
  · rw [rdF_flag l e htx hnx]
    exact fok_enc (q := q) (fun j _ => rfl) (fun j _ _ => rfl) hq
theorem rdFs_back (q : Rq) (l : List UInt8) (e : Nat) (cs : List UInt8) : ∀ k, k ≤ cs.length → (cs.map keyL).Nodup → (rdFs q (cs.take k) l e).2.2 = 0 → e = 0 ∧ l = encFs (rdFs q (cs.take k) l e).1 (cs.take k) ++ (rdFs q (cs.take k) l e).2.1 ∧ ∀ d ∈ cs.take k, FOk (rdFs q (cs.take k) l e).1 (d.toNat : Int)
  | 0, _, _, h => ⟨by simpa [rdFs] using h, by simp [rdFs, encFs], by simp⟩
  | k + 1, hk, hn, h => by
    have hk' : k < cs.length := by omega
    rw [rdFs_next q cs k hk'] at h ⊢
    obtain ⟨h1, h2, h3⟩ := rdF_back h
    obtain ⟨h4, h5, h6⟩ := rdFs_back q l e cs k (by omega) hn h1
    have hkey : ∀ d ∈ cs.take k, keyL d ≠ keyL (cs.getD k 0) := fun d hd e => by
      obtain ⟨j, hj, rfl⟩ := List.mem_iff_getElem.1 hd
      have hjk : j < k := by simp at hj; omega
      have := List.pairwise_iff_getElem.1 hn j k (by simp; omega) (by simpa using hk') hjk
      apply this
      rw [List.getD_eq_getElem?_getD, List.getElem?_eq_getElem hk'] at e
      simp only [List.getElem_take, Option.getD_some] at e
      simp [e]
    have henc : encFs (rdF (rdFs q (cs.take k) l e).1 ((cs.getD k 0).toNat : Int) (rdFs q (cs.take k) l e).2.1 (rdFs q (cs.take k) l e).2.2).1 (cs.take k) = encFs (rdFs q (cs.take k) l e).1 (cs.take k) := by
      unfold encFs
      rw [List.flatMap_def, List.flatMap_def]
      exact congrArg List.flatten (List.map_congr_left fun d hd => rdF_other (hkey d hd))
    refine ⟨h4, ?_, fun d hd => ?_⟩
    · rw [encFs_next _ cs k hk', henc, List.append_assoc, ← h2]
      exact h5
    · rw [List.take_succ_eq_append_getElem hk', List.mem_append, List.mem_singleton] at hd
      rcases hd with hd | rfl
      · exact rdF_fok (hkey d hd) (h6 d hd)
      · have e : cs[k] = cs.getD k 0 := by rw [List.getD_eq_getElem?_getD, List.getElem?_eq_getElem hk']; rfl
        rw [e]
        exact h3
theorem dfs_back (k : Nat) (hk : (k : Int) ≤ 1099511627776) (l l' : List UInt8) (e : Nat) (h : rdEnd (rdFs (rqBare (k : Int)) (fieldsK (k : Int)) l' e).2.1 (rdFs (rqBare (k : Int)) (fieldsK (k : Int)) l' e).2.2 = 0) (hl : e = 0 → l = chainI (k : Int) ++ l') : encQ (rdFs (rqBare (k : Int)) (fieldsK (k : Int)) l' e).1 = l ∧ ((1 ≤ (k : Int) ∧ (k : Int) ≤ 17) → mayQ (rdFs (rqBare (k : Int)) (fieldsK (k : Int)) l' e).1 = true) := by
  obtain ⟨h1, h2⟩ := rdEnd_back h
  have hb := rdFs_back (rqBare (k : Int)) l' e (fieldsK (k : Int)) (fieldsK (k : Int)).length (Nat.le_refl _) (fieldsK_nodup _)
  rw [List.take_length] at hb
  obtain ⟨h3, h4, h5⟩ := hb h1
  have hkd : (rdFs (rqBare (k : Int)) (fieldsK (k : Int)) l' e).1.kind = (k : Int) := rdFs_kind _ _ _ _
  refine ⟨?_, fun hk2 => ?_⟩
  · unfold encQ
    rw [hkd, hl h3]
    rw [h2, List.append_nil] at h4
    rw [← h4]
  · unfold mayQ
    rw [hkd]
    rw [if_pos]
    refine ⟨by unfold isKind; simpa using hk2, ?_⟩
    rw [List.all_eq_true]
    intro c hc
    exact okL_of (h5 c hc)
theorem wire_back (l : List UInt8) (h : decW l = 0) : encQ (decQ l) = l ∧ mayQ (decQ l) = true ∧ ¬ 480 < l.length := by
  unfold decW at h
  unfold decQ
  split at h
  · omega
  · rename_i hl
    rw [if_neg hl]
    split at h
    · rename_i ho
      rw [if_pos ho]
      have hb := rdInt_bd 1099511627776 l 0 (by omega) (by omega)
      refine ⟨(dfs_back (dk l).1 hb.1 l (dk l).2.1 (dk l).2.2 ho.1 (fun he => (rdInt_back he).2)).1, ho.2, hl⟩
    · omega
theorem rdInt_two (l : List UInt8) : rk l = dk l ∨ (17 < ((dk l).1 : Int) ∧ (rk l).2.2 ≠ 0 ∧ (rk l).1 = 0) := by
  unfold rk dk
  obtain ⟨v, n, e1, hu⟩ : ∃ v n e1, unchain l = (v, n, e1) := ⟨_, _, _, rfl⟩
  by_cases h1 : e1 = 0
  · subst h1
    by_cases h17 : (v : Int) ≤ 17
    · rw [rdInt_ok 17 l v n hu (by omega), rdInt_ok 1099511627776 l v n hu (by omega)]; exact .inl rfl
    · by_cases h40 : (v : Int) ≤ 1099511627776
      · rw [rdInt_long 17 l v n hu (by omega), rdInt_ok 1099511627776 l v n hu (by omega)]
        exact .inr ⟨by simp only; omega, by simp, rfl⟩
      · rw [rdInt_long 17 l v n hu (by omega), rdInt_long 1099511627776 l v n hu (by omega)]; exact .inl rfl
  · rw [rdInt_bad 17 l v n e1 hu h1, rdInt_bad 1099511627776 l v n e1 hu h1]; exact .inl rfl
theorem rdEnd_of_ne {l : List UInt8} {e : Nat} (h : e ≠ 0) : rdEnd l e ≠ 0 := by unfold rdEnd; rw [if_pos h]; exact h
theorem dec_same (l : List UInt8) : rdecOk l ↔ decOk l := by
  rcases rdInt_two l with h | ⟨h1, h2, h3⟩
  · have hf : rfs l = dfs l := by unfold rfs dfs; rw [h]
    unfold rdecOk decOk
    rw [hf]
    have hkd : (dfs l).1.kind = ((dk l).1 : Int) := rdFs_kind _ _ _ _
    have hb := rdInt_bd 17 l 0 (by omega) (by omega)
    have hb' : ((rk l).1 : Int) ≤ 17 := hb.1
    rw [h] at hb'
    constructor
    · rintro ⟨a, b⟩
      rw [hkd] at b
      refine ⟨a, (dfs_back (dk l).1 (by omega) l (dk l).2.1 (dk l).2.2 a (fun he => (rdInt_back he).2)).2 ⟨b, hb'⟩⟩
    · rintro ⟨a, b⟩
      exact ⟨a, (may_fok b).1.1⟩
  · constructor
    · rintro ⟨a, b⟩
      have : (rfs l).1.kind = ((rk l).1 : Int) := rdFs_kind _ _ _ _
      rw [this, h3] at b
      omega
    · rintro ⟨a, b⟩
      have hkd : (dfs l).1.kind = ((dk l).1 : Int) := rdFs_kind _ _ _ _
      have := (may_fok b).1.2
      rw [hkd] at this
      omega
theorem dec_eq (l : List UInt8) : rdecQ l = decQ l ∧ rdecW l = decW l := by
  unfold rdecQ decQ rdecW decW
  by_cases hl : 480 < l.length
  · simp [hl]
  · simp only [if_neg hl]
    by_cases h : decOk l
    · rw [if_pos h, if_pos h, if_pos ((dec_same l).2 h), if_pos ((dec_same l).2 h)]
      refine ⟨?_, rfl⟩
      rcases rdInt_two l with h' | ⟨h1, h2, h3⟩
      · unfold rfs dfs; rw [h']
      · have hkd : (dfs l).1.kind = ((dk l).1 : Int) := rdFs_kind _ _ _ _
        have := (may_fok h.2).1.2
        rw [hkd] at this
        omega
    · rw [if_neg h, if_neg h, if_neg (fun x => h ((dec_same l).1 x)), if_neg (fun x => h ((dec_same l).1 x))]
      exact ⟨rfl, rfl⟩

end
end Go.Proofs.Ytkekkalgebgokaa

/- strings.Builder as the first field of a struct of four cells: what is written, one behind the other. -/
set_option linter.unusedSimpArgs false
set_option linter.unusedVariables false
namespace Go.Proofs.Ytkekkalgebgokaa
open Go Go.RowKit

section
theorem infBld2_5 : Try.prog.info? 5 = some Try.t5 := by kernel_rfl
theorem infBld2_73 : Try.prog.info? 73 = some Try.t73 := by kernel_rfl
theorem infBld2_76 : Try.prog.info? 76 = some Try.t76 := by kernel_rfl
theorem infBld2_78 : Try.prog.info? 78 = some Try.t78 := by kernel_rfl

set_option maxRecDepth 100000 in
set_option maxHeartbeats 1000000 in
theorem ccopy_fresh (x1 x2 : Value) (b : Nat) (s : Value) (hs : s.oneCell' = true) :
    Ct Try.prog 129 [.pointer (some ⟨b, 0, none⟩)] [] [(some b, .cells #[.pointer none, s, x1, x2] 236 (0, 0))] fun v post => v = .tuple #[] ∧ post = [(some b, .cells #[.pointer (some ⟨b, 0, none⟩), s, x1, x2] 236 (0, 0))] := by
 refine ct_of Try.func129 rfl rfl (fun w0 => ?_)
 show G _ _ [(0, _)] _ _
 refine G_seq ?_
 refine G_region (l := [0, 1, 2, 3, 4]) rfl ?_
 refine G_val rfl rfl rfl rfl (V_move rfl rfl) ?_
 first
   | refine G_val rfl rfl rfl rfl (V_nilCheck rfl rfl) ?_
   | refine G_val rfl rfl rfl rfl (V_nilCheckF rfl rfl) ?_
 refine G_val rfl rfl rfl rfl (V_fieldAddr (fo := 0) rfl Try.underlying78 rfl infBld2_76 rfl rfl rfl) ?_
 refine G_val rfl rfl rfl rfl (V_load1 rfl rfl (mem_at 0 rfl) rfl Try.underlying76 rfl) ?_
 refine G_val rfl rfl rfl rfl (V_peqlN rfl Try.underlying76 rfl rfl) ?_
 refine G_done ?_
 refine G_then rfl ?_
 refine G_region (l := [0, 1, 2, 3, 4, 5, 6, 7]) rfl ?_
 refine G_val rfl rfl rfl rfl (V_move rfl rfl) ?_
 refine G_val rfl rfl rfl rfl (V_move rfl rfl) ?_
 refine G_val rfl rfl rfl rfl (V_toUnsafe rfl rfl Try.underlying76 Try.underlying265 infBld2_78 rfl (mem_at 0 rfl) (by simp)) ?_
 refine G_val rfl rfl rfl rfl (V_extern (ev := Extern.AbiNoEscape.same) rfl rfl Try.func151 (by kernel_rfl) (by kernel_rfl) (by kernel_rfl) (by kernel_rfl) (fun w => rfl)) ?_
 refine G_val rfl rfl rfl rfl (V_fromUnsafe rfl rfl Try.underlying76 Try.underlying265 infBld2_78 (mem_at 0 rfl) (by kernel_rfl)) ?_
 first
   | refine G_val rfl rfl rfl rfl (V_nilCheck rfl rfl) ?_
   | refine G_val rfl rfl rfl rfl (V_nilCheckF rfl rfl) ?_
 refine G_val rfl rfl rfl rfl (V_fieldAddr (fo := 0) rfl Try.underlying78 rfl infBld2_76 rfl rfl rfl) ?_
 refine G_put (l1 := []) (L' := [_]) rfl rfl rfl rfl (P_store1 rfl rfl rfl (mem_at 0 rfl) (by first | exact of_decide_eq_true rfl | omega | (simp; done) | (simp; omega) | (simp at *; omega)) infBld2_76 rfl rfl) rfl ?_
 refine G_done ?_
 refine G_end (post := [_]) Try.func129 rfl RVs_nil [0] rfl ?_
 dsimp only [packed]
 exact ⟨rfl, rfl⟩

set_option maxRecDepth 100000 in
set_option maxHeartbeats 1000000 in
theorem ccopy_used (x1 x2 : Value) (b : Nat) (s : Value) :
    Ct Try.prog 129 [.pointer (some ⟨b, 0, none⟩)] [] [(some b, .cells #[.pointer (some ⟨b, 0, none⟩), s, x1, x2] 236 (0, 0))] fun v post => v = .tuple #[] ∧ post = [(some b, .cells #[.pointer (some ⟨b, 0, none⟩), s, x1, x2] 236 (0, 0))] := by
 refine ct_of Try.func129 rfl rfl (fun w0 => ?_)
 show G _ _ [(0, _)] _ _
 refine G_seq ?_
 refine G_region (l := [0, 1, 2, 3, 4]) rfl ?_
 refine G_val rfl rfl rfl rfl (V_move rfl rfl) ?_
 first
   | refine G_val rfl rfl rfl rfl (V_nilCheck rfl rfl) ?_
   | refine G_val rfl rfl rfl rfl (V_nilCheckF rfl rfl) ?_
 refine G_val rfl rfl rfl rfl (V_fieldAddr (fo := 0) rfl Try.underlying78 rfl infBld2_76 rfl rfl rfl) ?_
 refine G_val rfl rfl rfl rfl (V_load1 rfl rfl (mem_at 0 rfl) rfl Try.underlying76 rfl) ?_
 refine G_val rfl rfl rfl rfl (V_peqlN rfl Try.underlying76 rfl rfl) ?_
 refine G_done ?_
 refine G_else rfl ?_
 refine G_seq ?_
 refine G_region (l := [0, 1, 2, 3, 4, 5]) rfl ?_
 refine G_val rfl rfl rfl rfl (V_move rfl rfl) ?_
 first
   | refine G_val rfl rfl rfl rfl (V_nilCheck rfl rfl) ?_
   | refine G_val rfl rfl rfl rfl (V_nilCheckF rfl rfl) ?_
 refine G_val rfl rfl rfl rfl (V_fieldAddr (fo := 0) rfl Try.underlying78 rfl infBld2_76 rfl rfl rfl) ?_
 refine G_val rfl rfl rfl rfl (V_load1 rfl rfl (mem_at 0 rfl) rfl Try.underlying76 rfl) ?_
 refine G_val rfl rfl rfl rfl (V_move rfl rfl) ?_
 refine G_val rfl rfl rfl rfl (V_pneqSame rfl Try.underlying76 infBld2_78 rfl rfl) ?_
 refine G_done ?_
 refine G_else rfl ?_
 refine G_skip ?_
 refine G_end (post := [_]) Try.func129 rfl RVs_nil [0] rfl ?_
 dsimp only [packed]
 exact ⟨rfl, rfl⟩


theorem ccopy_any (x1 x2 : Value) (b : Nat) (p s : Value) (hs : s.oneCell' = true) (hp : UsedOr b p) : Ct Try.prog 129 [.pointer (some ⟨b, 0, none⟩)] [] [(some b, .cells #[p, s, x1, x2] 236 (0, 0))] (fun v post => v = .tuple #[] ∧ post = [(some b, .cells #[.pointer (some ⟨b, 0, none⟩), s, x1, x2] 236 (0, 0))]) := by
  rcases hp with rfl | rfl
  · exact ccopy_fresh x1 x2 b s hs
  · exact ccopy_used x1 x2 b s

set_option maxRecDepth 100000 in
set_option maxHeartbeats 1000000 in
theorem cbld_write (x1 x2 : Value) (b : Nat) (p : Value) (u : Sl) (tx s : List UInt8) (hp : UsedOr b p) (hu : Txt u tx) (hs : tx.length + s.length ≤ 140737488355328) :
    Ct Try.prog 79 [.pointer (some ⟨b, 0, none⟩), .string (bs s)] [] [(some b, .cells #[p, u.v tx.length, x1, x2] 236 (0, 0)), (u.ob, .cells u.cs 5 u.fz)] fun v post => v = .tuple #[.int .i64 (s.length : Int), .nilIface] ∧ ∃ u1, Txt u1 (tx ++ s) ∧ post = [(some b, .cells #[.pointer (some ⟨b, 0, none⟩), u1.v (tx ++ s).length, x1, x2] 236 (0, 0)), (u1.ob, .cells u1.cs 5 u1.fz)] := by
 refine ct_of Try.func79 rfl rfl (fun w0 => ?_)
 show G _ _ [(0, _), (1, _)] _ _
 refine G_seq ?_
 refine G_region (l := [0, 1]) rfl ?_
 refine G_val rfl rfl rfl rfl (V_assign rfl rfl) ?_
 refine G_val rfl rfl rfl rfl (V_assign rfl rfl) ?_
 refine G_done ?_
 refine G_seq ?_
 refine G_region (l := [0, 1]) rfl ?_
 refine G_val rfl rfl rfl rfl (V_move rfl rfl) ?_
 refine G_call (L2 := [_]) rfl rfl rfl rfl rfl rfl Try.call129 (ccopy_any _ _ _ _ _ rfl hp) [0] [] rfl rfl ?_
 rintro v post ⟨rfl, rfl⟩
 show G _ _ _ [_, _] _
 refine G_done ?_
 refine G_seq ?_
 refine G_region (l := [0, 1, 2, 3, 4, 5, 6, 7, 8, 9]) rfl ?_
 refine G_val rfl rfl rfl rfl (V_move rfl rfl) ?_
 refine G_val rfl rfl rfl rfl (V_move rfl rfl) ?_
 first
   | refine G_val rfl rfl rfl rfl (V_nilCheck rfl rfl) ?_
   | refine G_val rfl rfl rfl rfl (V_nilCheckF rfl rfl) ?_
 refine G_val rfl rfl rfl rfl (V_fieldAddr (fo := 1) rfl Try.underlying78 rfl infBld2_73 rfl rfl rfl) ?_
 refine G_val rfl rfl rfl rfl (V_load1 rfl rfl (mem_at 0 rfl) rfl Try.underlying73 rfl) ?_
 refine G_val rfl rfl rfl rfl (V_move rfl rfl) ?_
 refine G_append (l1 := [_]) (s := u) (nn := tx.length) (m := s.length) (news := bcells s) (bt := 1) rfl rfl rfl rfl Try.underlying73 Try.underlying9 (by first | exact .inl rfl | exact .inr ⟨_, rfl⟩) infBld2_5 rfl rfl rfl rfl rfl rfl hu.own rfl (fun w _ => src_string _) (by omega) (by omega) ?_
 intro u1 hu1 hq1
 show G _ _ _ [_, _] _
 first
   | refine G_val rfl rfl rfl rfl (V_nilCheck rfl rfl) ?_
   | refine G_val rfl rfl rfl rfl (V_nilCheckF rfl rfl) ?_
 refine G_val rfl rfl rfl rfl (V_fieldAddr (fo := 1) rfl Try.underlying78 rfl infBld2_73 rfl rfl rfl) ?_
 refine G_put (l1 := []) (L' := [_, _]) rfl rfl rfl rfl (P_store1 rfl rfl rfl (mem_at 0 rfl) (by first | exact of_decide_eq_true rfl | omega | (simp; done) | (simp; omega) | (simp at *; omega)) infBld2_73 rfl rfl) rfl ?_
 refine G_done ?_
 refine G_seq ?_
 refine G_region (l := [0, 1, 2, 3]) rfl ?_
 refine G_val rfl rfl rfl rfl (V_move rfl rfl) ?_
 refine G_val rfl rfl rfl rfl (V_slen rfl rfl Try.underlying9 rfl) ?_
 refine G_val rfl rfl rfl rfl (V_assign rfl rfl) ?_
 refine G_val rfl rfl rfl rfl (V_assign rfl rfl) ?_
 refine G_done ?_
 refine G_ret (post := [_, _]) Try.func79 rfl (RVs_cons (RV_tmp rfl) (RVs_cons (RV_tmp rfl) RVs_nil)) [0, 0] rfl ?_
 dsimp only [packed]
 exact ⟨rfl, u1, hu.more hu1 hq1.pos, by rw [List.length_append]; rfl⟩


theorem cbld_write0 (x1 x2 : Value) (b : Nat) (s : List UInt8) (hs : s.length ≤ 140737488355328) : Ct Try.prog 79 [.pointer (some ⟨b, 0, none⟩), .string (bs s)] [] [(some b, .cells #[.pointer none, .slice none 0 0, x1, x2] 236 (0, 0)), (none, .cells #[] 5 (0, 0))]
    (fun v post => v = .tuple #[.int .i64 (s.length : Int), .nilIface] ∧ ∃ u1, Txt u1 s ∧ post = [(some b, .cells #[.pointer (some ⟨b, 0, none⟩), u1.v s.length, x1, x2] 236 (0, 0)), (u1.ob, .cells u1.cs 5 u1.fz)]) :=
  cbld_write x1 x2 b (.pointer none) slNil [] s (.inl rfl) txt_nil (by simpa using hs)

set_option maxRecDepth 100000 in
set_option maxHeartbeats 1000000 in
theorem cbld_string1 (x1 x2 : Value) (b g cap : Nat) (p : Value) (cs : Array Value) (fz : Nat × Nat) (tx : List UInt8) (hu : Txt ⟨some g, cs, fz, cap⟩ tx) (h0 : tx ≠ []) (hs : tx.length ≤ 140737488355328) :
    Ct Try.prog 53 [.pointer (some ⟨b, 0, none⟩)] [] [(some b, .cells #[p, .slice (some ⟨g, 0, none⟩) tx.length cap, x1, x2] 236 (0, 0)), (some g, .cells cs 5 fz)] fun v post => v = .string (bs tx) ∧ post = [(some b, .cells #[p, .slice (some ⟨g, 0, none⟩) tx.length cap, x1, x2] 236 (0, 0)), (some g, .cells cs 5 (frz fz tx.length))] := by
 have hcap := hu.pos (by simp)
 simp only at hcap
 have hsz := hu.own.size
 have hle := hu.own.le
 have hpre := hu.own.pre
 simp only [Nat.mul_one] at hsz hle hpre
 refine ct_of Try.func53 rfl rfl (fun w0 => ?_)
 show G _ _ [(0, _)] _ _
 refine G_seq ?_
 refine G_region (l := [0]) rfl ?_
 refine G_val rfl rfl rfl rfl (V_assign rfl rfl) ?_
 refine G_done ?_
 refine G_seq ?_
 refine GH_start (Lq := [_]) (isq := [0]) (m := 12) mixedK rfl rfl ?_
 refine GH_take 0 rfl rfl rfl rfl (by kernel_rfl) (by kernel_rfl) (by kernel_rfl) (fun _ _ => (V_move rfl rfl)) ?_
 first
   | refine GH_take 1 rfl rfl rfl rfl (by kernel_rfl) (by kernel_rfl) (by kernel_rfl) (fun _ _ => (V_nilCheck rfl rfl)) ?_
   | refine GH_take 1 rfl rfl rfl rfl (by kernel_rfl) (by kernel_rfl) (by kernel_rfl) (fun _ _ => (V_nilCheckF rfl rfl)) ?_
 refine GH_take 2 rfl rfl rfl rfl (by kernel_rfl) (by kernel_rfl) (by kernel_rfl) (fun _ _ => (V_fieldAddr (fo := 1) rfl Try.underlying78 rfl infBld2_73 rfl rfl rfl)) ?_
 refine GH_take 3 rfl rfl rfl rfl (by kernel_rfl) (by kernel_rfl) (by kernel_rfl) (fun _ _ => (V_load1 rfl rfl (mem_at 0 rfl) rfl Try.underlying73 rfl)) ?_
 first
   | refine GH_take 4 rfl rfl rfl rfl (by kernel_rfl) (by kernel_rfl) (by kernel_rfl) (fun _ _ => (V_sliceDataN rfl rfl)) ?_
   | refine GH_take 4 rfl rfl rfl rfl (by kernel_rfl) (by kernel_rfl) (by kernel_rfl) (fun _ _ => (V_sliceDataS rfl rfl (by first | omega | (simp; done) | (simp; omega) | (simp at *; omega)))) ?_
 refine GH_take 5 rfl rfl rfl rfl (by kernel_rfl) (by kernel_rfl) (by kernel_rfl) (fun _ _ => (V_move rfl rfl)) ?_
 first
   | refine GH_take 6 rfl rfl rfl rfl (by kernel_rfl) (by kernel_rfl) (by kernel_rfl) (fun _ _ => (V_nilCheck rfl rfl)) ?_
   | refine GH_take 6 rfl rfl rfl rfl (by kernel_rfl) (by kernel_rfl) (by kernel_rfl) (fun _ _ => (V_nilCheckF rfl rfl)) ?_
 refine GH_take 7 rfl rfl rfl rfl (by kernel_rfl) (by kernel_rfl) (by kernel_rfl) (fun _ _ => (V_fieldAddr (fo := 1) rfl Try.underlying78 rfl infBld2_73 rfl rfl rfl)) ?_
 refine GH_take 8 rfl rfl rfl rfl (by kernel_rfl) (by kernel_rfl) (by kernel_rfl) (fun _ _ => (V_load1 rfl rfl (mem_at 0 rfl) rfl Try.underlying73 rfl)) ?_
 refine GH_take 9 rfl rfl rfl rfl (by kernel_rfl) (by kernel_rfl) (by kernel_rfl) (fun _ _ => (V_len rfl rfl Try.underlying73 rfl)) ?_
 refine GH_all [10] (by kernel_rfl) (by decide) ?_
 refine (And.intro ?_ trivial)
 · skip
   refine GHop_putV (l1 := [_]) (L' := [_, _]) rfl rfl rfl rfl rfl (P_unsafeString (l := tx) rfl Try.underlying214 (by kernel_rfl) rfl rfl rfl (mem_at 1 rfl) h0 (by omega) (by omega) hpre) rfl [0] rfl ?_
   refine GH_take 11 rfl rfl rfl rfl (by kernel_rfl) (by kernel_rfl) (by kernel_rfl) (fun _ _ => (V_assign rfl rfl)) ?_
   refine GH_done (by kernel_rfl) ?_
   refine G_ret (post := [_, _]) Try.func53 rfl (RVs_cons (RV_tmp rfl) RVs_nil) [0, 0] rfl ?_
   dsimp only [packed]
   exact ⟨rfl, rfl⟩

set_option maxRecDepth 100000 in
set_option maxHeartbeats 1000000 in
theorem cbld_string0 (x1 x2 : Value) (b : Nat) (p : Value) (u : Sl) (cap : Nat) :
    Ct Try.prog 53 [.pointer (some ⟨b, 0, none⟩)] [] [(some b, .cells #[p, .slice none 0 cap, x1, x2] 236 (0, 0)), (none, .cells u.cs 5 u.fz)] fun v post => v = .string (bs []) ∧ post = [(some b, .cells #[p, .slice none 0 cap, x1, x2] 236 (0, 0)), (none, .cells u.cs 5 u.fz)] := by
 refine ct_of Try.func53 rfl rfl (fun w0 => ?_)
 show G _ _ [(0, _)] _ _
 refine G_seq ?_
 refine G_region (l := [0]) rfl ?_
 refine G_val rfl rfl rfl rfl (V_assign rfl rfl) ?_
 refine G_done ?_
 refine G_seq ?_
 refine GH_start (Lq := [_]) (isq := [0]) (m := 12) mixedK rfl rfl ?_
 refine GH_take 0 rfl rfl rfl rfl (by kernel_rfl) (by kernel_rfl) (by kernel_rfl) (fun _ _ => (V_move rfl rfl)) ?_
 first
   | refine GH_take 1 rfl rfl rfl rfl (by kernel_rfl) (by kernel_rfl) (by kernel_rfl) (fun _ _ => (V_nilCheck rfl rfl)) ?_
   | refine GH_take 1 rfl rfl rfl rfl (by kernel_rfl) (by kernel_rfl) (by kernel_rfl) (fun _ _ => (V_nilCheckF rfl rfl)) ?_
 refine GH_take 2 rfl rfl rfl rfl (by kernel_rfl) (by kernel_rfl) (by kernel_rfl) (fun _ _ => (V_fieldAddr (fo := 1) rfl Try.underlying78 rfl infBld2_73 rfl rfl rfl)) ?_
 refine GH_take 3 rfl rfl rfl rfl (by kernel_rfl) (by kernel_rfl) (by kernel_rfl) (fun _ _ => (V_load1 rfl rfl (mem_at 0 rfl) rfl Try.underlying73 rfl)) ?_
 first
   | refine GH_take 4 rfl rfl rfl rfl (by kernel_rfl) (by kernel_rfl) (by kernel_rfl) (fun _ _ => (V_sliceDataN rfl rfl)) ?_
   | refine GH_take 4 rfl rfl rfl rfl (by kernel_rfl) (by kernel_rfl) (by kernel_rfl) (fun _ _ => (V_sliceDataS rfl rfl (by first | omega | (simp; done) | (simp; omega) | (simp at *; omega)))) ?_
 refine GH_take 5 rfl rfl rfl rfl (by kernel_rfl) (by kernel_rfl) (by kernel_rfl) (fun _ _ => (V_move rfl rfl)) ?_
 first
   | refine GH_take 6 rfl rfl rfl rfl (by kernel_rfl) (by kernel_rfl) (by kernel_rfl) (fun _ _ => (V_nilCheck rfl rfl)) ?_
   | refine GH_take 6 rfl rfl rfl rfl (by kernel_rfl) (by kernel_rfl) (by kernel_rfl) (fun _ _ => (V_nilCheckF rfl rfl)) ?_
 refine GH_take 7 rfl rfl rfl rfl (by kernel_rfl) (by kernel_rfl) (by kernel_rfl) (fun _ _ => (V_fieldAddr (fo := 1) rfl Try.underlying78 rfl infBld2_73 rfl rfl rfl)) ?_
 refine GH_take 8 rfl rfl rfl rfl (by kernel_rfl) (by kernel_rfl) (by kernel_rfl) (fun _ _ => (V_load1 rfl rfl (mem_at 0 rfl) rfl Try.underlying73 rfl)) ?_
 refine GH_take 9 rfl rfl rfl rfl (by kernel_rfl) (by kernel_rfl) (by kernel_rfl) (fun _ _ => (V_len rfl rfl Try.underlying73 rfl)) ?_
 refine GH_take 10 rfl rfl rfl rfl (by kernel_rfl) (by kernel_rfl) (by kernel_rfl) (fun _ _ => (V_unsafeString0 rfl rfl rfl (by first | omega | (simp; done) | (simp; omega) | (simp at *; omega)))) ?_
 refine GH_take 11 rfl rfl rfl rfl (by kernel_rfl) (by kernel_rfl) (by kernel_rfl) (fun _ _ => (V_assign rfl rfl)) ?_
 refine GH_done (by kernel_rfl) ?_
 refine G_ret (post := [_, _]) Try.func53 rfl (RVs_cons (RV_tmp rfl) RVs_nil) [0, 0] rfl ?_
 dsimp only [packed]
 exact ⟨rfl, rfl⟩

set_option maxRecDepth 100000 in
set_option maxHeartbeats 1000000 in
theorem cbld_string2 (x1 x2 : Value) (b g : Nat) (p : Value) (u : Sl) (cap : Nat) (hc : 0 < cap) :
    Ct Try.prog 53 [.pointer (some ⟨b, 0, none⟩)] [] [(some b, .cells #[p, .slice (some ⟨g, 0, none⟩) 0 cap, x1, x2] 236 (0, 0)), (some g, .cells u.cs 5 u.fz)] fun v post => v = .string (bs []) ∧ post = [(some b, .cells #[p, .slice (some ⟨g, 0, none⟩) 0 cap, x1, x2] 236 (0, 0)), (some g, .cells u.cs 5 u.fz)] := by
 refine ct_of Try.func53 rfl rfl (fun w0 => ?_)
 show G _ _ [(0, _)] _ _
 refine G_seq ?_
 refine G_region (l := [0]) rfl ?_
 refine G_val rfl rfl rfl rfl (V_assign rfl rfl) ?_
 refine G_done ?_
 refine G_seq ?_
 refine GH_start (Lq := [_]) (isq := [0]) (m := 12) mixedK rfl rfl ?_
 refine GH_take 0 rfl rfl rfl rfl (by kernel_rfl) (by kernel_rfl) (by kernel_rfl) (fun _ _ => (V_move rfl rfl)) ?_
 first
   | refine GH_take 1 rfl rfl rfl rfl (by kernel_rfl) (by kernel_rfl) (by kernel_rfl) (fun _ _ => (V_nilCheck rfl rfl)) ?_
   | refine GH_take 1 rfl rfl rfl rfl (by kernel_rfl) (by kernel_rfl) (by kernel_rfl) (fun _ _ => (V_nilCheckF rfl rfl)) ?_
 refine GH_take 2 rfl rfl rfl rfl (by kernel_rfl) (by kernel_rfl) (by kernel_rfl) (fun _ _ => (V_fieldAddr (fo := 1) rfl Try.underlying78 rfl infBld2_73 rfl rfl rfl)) ?_
 refine GH_take 3 rfl rfl rfl rfl (by kernel_rfl) (by kernel_rfl) (by kernel_rfl) (fun _ _ => (V_load1 rfl rfl (mem_at 0 rfl) rfl Try.underlying73 rfl)) ?_
 first
   | refine GH_take 4 rfl rfl rfl rfl (by kernel_rfl) (by kernel_rfl) (by kernel_rfl) (fun _ _ => (V_sliceDataN rfl rfl)) ?_
   | refine GH_take 4 rfl rfl rfl rfl (by kernel_rfl) (by kernel_rfl) (by kernel_rfl) (fun _ _ => (V_sliceDataS rfl rfl (by first | omega | (simp; done) | (simp; omega) | (simp at *; omega)))) ?_
 refine GH_take 5 rfl rfl rfl rfl (by kernel_rfl) (by kernel_rfl) (by kernel_rfl) (fun _ _ => (V_move rfl rfl)) ?_
 first
   | refine GH_take 6 rfl rfl rfl rfl (by kernel_rfl) (by kernel_rfl) (by kernel_rfl) (fun _ _ => (V_nilCheck rfl rfl)) ?_
   | refine GH_take 6 rfl rfl rfl rfl (by kernel_rfl) (by kernel_rfl) (by kernel_rfl) (fun _ _ => (V_nilCheckF rfl rfl)) ?_
 refine GH_take 7 rfl rfl rfl rfl (by kernel_rfl) (by kernel_rfl) (by kernel_rfl) (fun _ _ => (V_fieldAddr (fo := 1) rfl Try.underlying78 rfl infBld2_73 rfl rfl rfl)) ?_
 refine GH_take 8 rfl rfl rfl rfl (by kernel_rfl) (by kernel_rfl) (by kernel_rfl) (fun _ _ => (V_load1 rfl rfl (mem_at 0 rfl) rfl Try.underlying73 rfl)) ?_
 refine GH_take 9 rfl rfl rfl rfl (by kernel_rfl) (by kernel_rfl) (by kernel_rfl) (fun _ _ => (V_len rfl rfl Try.underlying73 rfl)) ?_
 refine GH_take 10 rfl rfl rfl rfl (by kernel_rfl) (by kernel_rfl) (by kernel_rfl) (fun _ _ => (V_unsafeString0 rfl rfl rfl (by first | omega | (simp; done) | (simp; omega) | (simp at *; omega)))) ?_
 refine GH_take 11 rfl rfl rfl rfl (by kernel_rfl) (by kernel_rfl) (by kernel_rfl) (fun _ _ => (V_assign rfl rfl)) ?_
 refine GH_done (by kernel_rfl) ?_
 refine G_ret (post := [_, _]) Try.func53 rfl (RVs_cons (RV_tmp rfl) RVs_nil) [0, 0] rfl ?_
 dsimp only [packed]
 exact ⟨rfl, rfl⟩


theorem cbld_string (x1 x2 : Value) (b : Nat) (p : Value) (u : Sl) (tx : List UInt8) (hu : Txt u tx) (hs : tx.length ≤ 140737488355328) :
    Ct Try.prog 53 [.pointer (some ⟨b, 0, none⟩)] [] [(some b, .cells #[p, u.v tx.length, x1, x2] 236 (0, 0)), (u.ob, .cells u.cs 5 u.fz)] (fun v post => v = .string (bs tx) ∧ ∃ u1, Txt u1 tx ∧ post = [(some b, .cells #[p, u1.v tx.length, x1, x2] 236 (0, 0)), (u1.ob, .cells u1.cs 5 u1.fz)]) := by
  obtain ⟨ob, cs, fz, cap⟩ := u
  cases tx with
  | nil =>
    cases ob with
    | none => exact (cbld_string0 x1 x2 b p ⟨none, cs, fz, cap⟩ cap).weak fun v post ⟨h1, h2⟩ => ⟨h1, _, hu, h2⟩
    | some g => exact (cbld_string2 x1 x2 b g p ⟨some g, cs, fz, cap⟩ cap (hu.pos (by simp))).weak fun v post ⟨h1, h2⟩ => ⟨h1, _, hu, h2⟩
  | cons c t =>
    obtain ⟨g, hg⟩ := hu.own.isSome (by simp)
    simp only at hg
    subst hg
    exact (cbld_string1 x1 x2 b g cap p cs fz (c :: t) hu (by simp) hs).weak fun v post ⟨h1, h2⟩ => ⟨h1, Sl.froze ⟨some g, cs, fz, cap⟩ (c :: t).length, ⟨hu.own.froze (by omega), hu.pos⟩, h2⟩

set_option maxRecDepth 100000 in
set_option maxHeartbeats 1000000 in
theorem cbld_len (x1 x2 : Value) (b : Nat) (p : Value) (u : Sl) (k : Nat) :
    Ct Try.prog 138 [.pointer (some ⟨b, 0, none⟩)] [(some b, .cells #[p, u.v k, x1, x2] 236 (0, 0))] [] fun v post => v = .int .i64 (k : Int) ∧ post = [] := by
 refine ct_of Try.func138 rfl rfl (fun w0 => ?_)
 show G _ _ [(0, _)] _ _
 refine G_seq ?_
 refine G_region (l := [0]) rfl ?_
 refine G_val rfl rfl rfl rfl (V_assign rfl rfl) ?_
 refine G_done ?_
 refine G_seq ?_
 refine G_region (l := [0, 1, 2, 3, 4, 5]) rfl ?_
 refine G_val rfl rfl rfl rfl (V_move rfl rfl) ?_
 first
   | refine G_val rfl rfl rfl rfl (V_nilCheck rfl rfl) ?_
   | refine G_val rfl rfl rfl rfl (V_nilCheckF rfl rfl) ?_
 refine G_val rfl rfl rfl rfl (V_fieldAddr (fo := 1) rfl Try.underlying78 rfl infBld2_73 rfl rfl rfl) ?_
 refine G_val rfl rfl rfl rfl (V_load1 rfl rfl (mem_at 0 rfl) rfl Try.underlying73 rfl) ?_
 refine G_val rfl rfl rfl rfl (V_len rfl rfl Try.underlying73 rfl) ?_
 refine G_val rfl rfl rfl rfl (V_assign rfl rfl) ?_
 refine G_done ?_
 refine G_ret (post := []) Try.func138 rfl (RVs_cons (RV_tmp rfl) RVs_nil) [] rfl ?_
 dsimp only [packed]
 exact ⟨rfl, rfl⟩

end
end Go.Proofs.Ytkekkalgebgokaa

/- The walks of layer 20: requests as bytes. -/
set_option linter.unusedSimpArgs false
set_option linter.unusedVariables false
namespace Go.Proofs.Ytkekkalgebgokaa
open Go Go.RowKit

section
theorem infWireW_3 : Try.prog.info? 3 = some Try.t3 := by kernel_rfl
theorem infWireW_4 : Try.prog.info? 4 = some Try.t4 := by kernel_rfl
theorem infWireW_9 : Try.prog.info? 9 = some Try.t9 := by kernel_rfl
theorem infWireW_74 : Try.prog.info? 74 = some Try.t74 := by kernel_rfl
theorem infWireW_78 : Try.prog.info? 78 = some Try.t78 := by kernel_rfl
theorem infWireW_176 : Try.prog.info? 176 = some Try.t176 := by kernel_rfl
theorem infWireW_244 : Try.prog.info? 244 = some Try.t244 := by kernel_rfl

set_option maxRecDepth 100000 in
set_option maxHeartbeats 1000000 in
theorem w_num (bc bq : Nat) (p : Value) (u : Sl) (tx : List UInt8) (hp : UsedOr bc p) (hu : Txt u tx) (hs : tx.length ≤ 140737488340000) (qs : Array Value) (off : Nat) (x : Int) (hx : 0 ≤ x ∧ x ≤ 1099511627776) (hq : qs[off]? = some (.int .i64 x)) :
    Ct Try.prog 157 [.pointer (some ⟨bc, 0, none⟩), .pointer (some ⟨bq, off, none⟩)] [(some bq, .cells qs 67 (0, 0))] [(some bc, .cells #[p, u.v (tx).length, .pointer none, .bool false] 236 (0, 0)), (u.ob, .cells u.cs 5 u.fz)] fun v post => v = .tuple #[] ∧ ∃ u1, Txt u1 (tx ++ chainI x) ∧ post = [(some bc, .cells #[.pointer (some ⟨bc, 0, none⟩), u1.v (tx ++ chainI x).length, .pointer none, .bool false] 236 (0, 0)), (u1.ob, .cells u1.cs 5 u1.fz)] := by
 obtain ⟨hx0, hx1⟩ := hx
 have hcl := chainI_len x hx0 (by omega)
 refine ct_of Try.func157 rfl rfl (fun w0 => ?_)
 show G _ _ [(0, _), (1, _)] _ _
 refine G_seq ?_
 refine G_seq ?_
 refine G_region (l := [0, 1, 2, 3]) rfl ?_
 refine G_val rfl rfl rfl rfl (V_move rfl rfl) ?_
 first
   | refine G_val rfl rfl rfl rfl (V_nilCheck rfl rfl) ?_
   | refine G_val rfl rfl rfl rfl (V_nilCheckF rfl rfl) ?_
 refine G_val rfl rfl rfl rfl (V_fieldAddr (fo := 3) rfl Try.underlying236 rfl infWireW_4 rfl rfl rfl) ?_
 refine G_val rfl rfl rfl rfl (V_load1 rfl rfl (mem_at 1 rfl) rfl Try.underlying4 rfl) ?_
 refine G_done ?_
 refine G_else rfl ?_
 refine G_skip ?_
 refine GH_start (Lq := []) (isq := []) (m := 9) mixedK rfl rfl ?_
 refine GH_take 0 rfl rfl rfl rfl (by kernel_rfl) (by kernel_rfl) (by kernel_rfl) (fun _ _ => (V_move rfl rfl)) ?_
 first
   | refine GH_take 1 rfl rfl rfl rfl (by kernel_rfl) (by kernel_rfl) (by kernel_rfl) (fun _ _ => (V_nilCheck rfl rfl)) ?_
   | refine GH_take 1 rfl rfl rfl rfl (by kernel_rfl) (by kernel_rfl) (by kernel_rfl) (fun _ _ => (V_nilCheckF rfl rfl)) ?_
 refine GH_take 2 rfl rfl rfl rfl (by kernel_rfl) (by kernel_rfl) (by kernel_rfl) (fun _ _ => (V_fieldAddr (fo := 0) rfl Try.underlying236 rfl infWireW_78 rfl rfl rfl)) ?_
 refine GH_take 3 rfl rfl rfl rfl (by kernel_rfl) (by kernel_rfl) (by kernel_rfl) (fun _ _ => (V_move rfl rfl)) ?_
 first
   | refine GH_take 4 rfl rfl rfl rfl (by kernel_rfl) (by kernel_rfl) (by kernel_rfl) (fun _ _ => (V_nilCheck rfl rfl)) ?_
   | refine GH_take 4 rfl rfl rfl rfl (by kernel_rfl) (by kernel_rfl) (by kernel_rfl) (fun _ _ => (V_nilCheckF rfl rfl)) ?_
 refine GH_take 5 rfl rfl rfl rfl (by kernel_rfl) (by kernel_rfl) (by kernel_rfl) (fun _ _ => (V_load1 rfl rfl (mem_at 0 rfl) (nth_of hq) Try.underlying3 rfl)) ?_
 first
   | refine GH_take 6 rfl rfl rfl rfl (by kernel_rfl) (by kernel_rfl) (by kernel_rfl) (fun _ _ => ((V_conv rfl rfl Try.underlying3 Try.underlying23).int (wrap_u64 (by omega)))) ?_
   | refine GH_take 6 rfl rfl rfl rfl (by kernel_rfl) (by kernel_rfl) (by kernel_rfl) (fun _ _ => (V_conv rfl rfl Try.underlying3 Try.underlying23)) ?_
 refine GH_all [7] (by kernel_rfl) (by decide) ?_
 refine (And.intro ?_ trivial)
 · skip
   refine GHop_call (L2 := [_, _]) rfl rfl rfl rfl rfl rfl Try.call80 (ct_chain _ (by omega) (by omega)) [] [] rfl rfl [] (by rintro v post ⟨rfl, rfl⟩; exact ⟨_, rfl⟩) ?_
   rintro v post ⟨rfl, rfl⟩
   show GH _ _ _ _ _ _ _ [_, _] _
   refine GH_all [8] (by kernel_rfl) (by decide) ?_
   refine (And.intro ?_ trivial)
   · skip
     refine GHop_call (L2 := []) rfl rfl rfl rfl rfl rfl Try.call79 (cbld_write _ _ _ _ _ _ _ (by first | assumption | exact .inr rfl | exact .inl rfl) (by first | assumption | exact txt_nil) (by first | omega | (simp [rqCells]; done) | (simp [rqCells]; omega) | (simp [rqCells] at *; omega))) [0, 0] [] rfl rfl [] (by rintro v post ⟨rfl, u1, hu1, rfl⟩; exact ⟨_, rfl⟩) ?_
     rintro v post ⟨rfl, u1, hu1, rfl⟩
     show GH _ _ _ _ _ _ _ [_, _] _
     refine GH_done (by kernel_rfl) ?_
     refine G_end (post := [_, _]) Try.func157 rfl RVs_nil [0, 0] rfl ?_
     dsimp only [packed]
     exact ⟨rfl, u1, hu1, rfl⟩

set_option maxRecDepth 100000 in
set_option maxHeartbeats 1000000 in
theorem w_text (bc bq : Nat) (p : Value) (u : Sl) (tx : List UInt8) (hp : UsedOr bc p) (hu : Txt u tx) (hs : tx.length ≤ 140737488340000) (qs : Array Value) (off : Nat) (s : List UInt8) (hx : s.length ≤ 100) (hq : qs[off]? = some (.string (bs s))) :
    Ct Try.prog 171 [.pointer (some ⟨bc, 0, none⟩), .pointer (some ⟨bq, off, none⟩)] [(some bq, .cells qs 67 (0, 0))] [(some bc, .cells #[p, u.v (tx).length, .pointer none, .bool false] 236 (0, 0)), (u.ob, .cells u.cs 5 u.fz)] fun v post => v = .tuple #[] ∧ ∃ u1, Txt u1 (tx ++ text s) ∧ post = [(some bc, .cells #[.pointer (some ⟨bc, 0, none⟩), u1.v (tx ++ text s).length, .pointer none, .bool false] 236 (0, 0)), (u1.ob, .cells u1.cs 5 u1.fz)] := by
 have hcl := text_len s (by omega)
 refine ct_of Try.func171 rfl rfl (fun w0 => ?_)
 show G _ _ [(0, _), (1, _)] _ _
 refine G_seq ?_
 refine G_seq ?_
 refine G_region (l := [0, 1, 2, 3]) rfl ?_
 refine G_val rfl rfl rfl rfl (V_move rfl rfl) ?_
 first
   | refine G_val rfl rfl rfl rfl (V_nilCheck rfl rfl) ?_
   | refine G_val rfl rfl rfl rfl (V_nilCheckF rfl rfl) ?_
 refine G_val rfl rfl rfl rfl (V_fieldAddr (fo := 3) rfl Try.underlying236 rfl infWireW_4 rfl rfl rfl) ?_
 refine G_val rfl rfl rfl rfl (V_load1 rfl rfl (mem_at 1 rfl) rfl Try.underlying4 rfl) ?_
 refine G_done ?_
 refine G_else rfl ?_
 refine G_skip ?_
 refine GH_start (Lq := []) (isq := []) (m := 8) mixedK rfl rfl ?_
 refine GH_take 0 rfl rfl rfl rfl (by kernel_rfl) (by kernel_rfl) (by kernel_rfl) (fun _ _ => (V_move rfl rfl)) ?_
 first
   | refine GH_take 1 rfl rfl rfl rfl (by kernel_rfl) (by kernel_rfl) (by kernel_rfl) (fun _ _ => (V_nilCheck rfl rfl)) ?_
   | refine GH_take 1 rfl rfl rfl rfl (by kernel_rfl) (by kernel_rfl) (by kernel_rfl) (fun _ _ => (V_nilCheckF rfl rfl)) ?_
 refine GH_take 2 rfl rfl rfl rfl (by kernel_rfl) (by kernel_rfl) (by kernel_rfl) (fun _ _ => (V_fieldAddr (fo := 0) rfl Try.underlying236 rfl infWireW_78 rfl rfl rfl)) ?_
 refine GH_take 3 rfl rfl rfl rfl (by kernel_rfl) (by kernel_rfl) (by kernel_rfl) (fun _ _ => (V_move rfl rfl)) ?_
 first
   | refine GH_take 4 rfl rfl rfl rfl (by kernel_rfl) (by kernel_rfl) (by kernel_rfl) (fun _ _ => (V_nilCheck rfl rfl)) ?_
   | refine GH_take 4 rfl rfl rfl rfl (by kernel_rfl) (by kernel_rfl) (by kernel_rfl) (fun _ _ => (V_nilCheckF rfl rfl)) ?_
 refine GH_take 5 rfl rfl rfl rfl (by kernel_rfl) (by kernel_rfl) (by kernel_rfl) (fun _ _ => (V_load1 rfl rfl (mem_at 0 rfl) (nth_of hq) Try.underlying9 rfl)) ?_
 refine GH_all [6] (by kernel_rfl) (by decide) ?_
 refine (And.intro ?_ trivial)
 · skip
   refine GHop_call (L2 := [_, _]) rfl rfl rfl rfl rfl rfl Try.call81 (ct_text _ (by first | omega | (simp; done) | (simp; omega) | (simp at *; omega))) [] [] rfl rfl [] (by rintro v post ⟨rfl, rfl⟩; exact ⟨_, rfl⟩) ?_
   rintro v post ⟨rfl, rfl⟩
   show GH _ _ _ _ _ _ _ [_, _] _
   refine GH_all [7] (by kernel_rfl) (by decide) ?_
   refine (And.intro ?_ trivial)
   · skip
     refine GHop_call (L2 := []) rfl rfl rfl rfl rfl rfl Try.call79 (cbld_write _ _ _ _ _ _ _ (by first | assumption | exact .inr rfl | exact .inl rfl) (by first | assumption | exact txt_nil) (by first | omega | (simp [rqCells]; done) | (simp [rqCells]; omega) | (simp [rqCells] at *; omega))) [0, 0] [] rfl rfl [] (by rintro v post ⟨rfl, u1, hu1, rfl⟩; exact ⟨_, rfl⟩) ?_
     rintro v post ⟨rfl, u1, hu1, rfl⟩
     show GH _ _ _ _ _ _ _ [_, _] _
     refine GH_done (by kernel_rfl) ?_
     refine G_end (post := [_, _]) Try.func171 rfl RVs_nil [0, 0] rfl ?_
     dsimp only [packed]
     exact ⟨rfl, u1, hu1, rfl⟩

set_option maxRecDepth 100000 in
set_option maxHeartbeats 1000000 in
theorem w_flag (bc bq : Nat) (p : Value) (u : Sl) (tx : List UInt8) (hp : UsedOr bc p) (hu : Txt u tx) (hs : tx.length ≤ 140737488340000) (qs : Array Value) (off : Nat) (b : Bool) (hq : qs[off]? = some (.bool b)) :
    Ct Try.prog 172 [.pointer (some ⟨bc, 0, none⟩), .pointer (some ⟨bq, off, none⟩)] [(some bq, .cells qs 67 (0, 0))] [(some bc, .cells #[p, u.v (tx).length, .pointer none, .bool false] 236 (0, 0)), (u.ob, .cells u.cs 5 u.fz)] fun v post => v = .tuple #[] ∧ ∃ u1, Txt u1 (tx ++ chainI (if b then 1 else 0)) ∧ post = [(some bc, .cells #[.pointer (some ⟨bc, 0, none⟩), u1.v (tx ++ chainI (if b then 1 else 0)).length, .pointer none, .bool false] 236 (0, 0)), (u1.ob, .cells u1.cs 5 u1.fz)] := by
 have hcl1 := chainI_len 1 (by omega) (by omega)
 have hcl0 := chainI_len 0 (by omega) (by omega)
 refine ct_of Try.func172 rfl rfl (fun w0 => ?_)
 show G _ _ [(0, _), (1, _)] _ _
 refine G_block ?_
 refine G_seq ?_
 refine G_region (l := [0, 1, 2, 3, 4]) rfl ?_
 refine G_val rfl rfl rfl rfl (V_move rfl rfl) ?_
 first
   | refine G_val rfl rfl rfl rfl (V_nilCheck rfl rfl) ?_
   | refine G_val rfl rfl rfl rfl (V_nilCheckF rfl rfl) ?_
 refine G_val rfl rfl rfl rfl (V_fieldAddr (fo := 3) rfl Try.underlying236 rfl infWireW_4 rfl rfl rfl) ?_
 refine G_val rfl rfl rfl rfl (V_load1 rfl rfl (mem_at 1 rfl) rfl Try.underlying4 rfl) ?_
 refine G_val rfl rfl rfl rfl (V_assign rfl rfl) ?_
 refine G_done ?_
 refine G_else rfl ?_
 refine G_seq ?_
 cases b
 · skip
   refine G_region (l := [0, 1, 2, 3]) rfl ?_
   refine G_val rfl rfl rfl rfl (V_move rfl rfl) ?_
   first
     | refine G_val rfl rfl rfl rfl (V_nilCheck rfl rfl) ?_
     | refine G_val rfl rfl rfl rfl (V_nilCheckF rfl rfl) ?_
   refine G_val rfl rfl rfl rfl (V_load1 rfl rfl (mem_at 0 rfl) (nth_of hq) Try.underlying4 rfl) ?_
   refine G_val rfl rfl rfl rfl (V_assign rfl rfl) ?_
   refine G_done ?_
   refine G_if rfl (fun hc1 => ?_) (fun hc1 => ?_)
   · (first | (exact absurd rfl hc1) | (exact absurd hc1 Bool.false_ne_true) | (exact absurd hc1 (by decide)) | (exfalso; omega))
   refine GH_start (Lq := []) (isq := []) (m := 5) mixedK rfl rfl ?_
   refine GH_take 0 rfl rfl rfl rfl (by kernel_rfl) (by kernel_rfl) (by kernel_rfl) (fun _ _ => (V_move rfl rfl)) ?_
   first
     | refine GH_take 1 rfl rfl rfl rfl (by kernel_rfl) (by kernel_rfl) (by kernel_rfl) (fun _ _ => (V_nilCheck rfl rfl)) ?_
     | refine GH_take 1 rfl rfl rfl rfl (by kernel_rfl) (by kernel_rfl) (by kernel_rfl) (fun _ _ => (V_nilCheckF rfl rfl)) ?_
   refine GH_take 2 rfl rfl rfl rfl (by kernel_rfl) (by kernel_rfl) (by kernel_rfl) (fun _ _ => (V_fieldAddr (fo := 0) rfl Try.underlying236 rfl infWireW_78 rfl rfl rfl)) ?_
   refine GH_all [3] (by kernel_rfl) (by decide) ?_
   refine (And.intro ?_ trivial)
   · skip
     refine GHop_call (L2 := [_, _]) rfl rfl rfl rfl rfl rfl Try.call80 (ct_chain _ (by omega) (by omega)) [] [] rfl rfl [] (by rintro v post ⟨rfl, rfl⟩; exact ⟨_, rfl⟩) ?_
     rintro v post ⟨rfl, rfl⟩
     show GH _ _ _ _ _ _ _ [_, _] _
     refine GH_all [4] (by kernel_rfl) (by decide) ?_
     refine (And.intro ?_ trivial)
     · skip
       refine GHop_call (L2 := []) rfl rfl rfl rfl rfl rfl Try.call79 (cbld_write _ _ _ _ _ _ _ (by first | assumption | exact .inr rfl | exact .inl rfl) (by first | assumption | exact txt_nil) (by first | omega | (simp [rqCells]; done) | (simp [rqCells]; omega) | (simp [rqCells] at *; omega))) [0, 0] [] rfl rfl [] (by rintro v post ⟨rfl, u1, hu1, rfl⟩; exact ⟨_, rfl⟩) ?_
       rintro v post ⟨rfl, u1, hu1, rfl⟩
       show GH _ _ _ _ _ _ _ [_, _] _
       refine GH_done (by kernel_rfl) ?_
       refine G_inBlock ?_
       refine G_end (post := [_, _]) Try.func172 rfl RVs_nil [0, 0] rfl ?_
       dsimp only [packed]
       exact ⟨rfl, u1, hu1, rfl⟩
 · skip
   refine G_region (l := [0, 1, 2, 3]) rfl ?_
   refine G_val rfl rfl rfl rfl (V_move rfl rfl) ?_
   first
     | refine G_val rfl rfl rfl rfl (V_nilCheck rfl rfl) ?_
     | refine G_val rfl rfl rfl rfl (V_nilCheckF rfl rfl) ?_
   refine G_val rfl rfl rfl rfl (V_load1 rfl rfl (mem_at 0 rfl) (nth_of hq) Try.underlying4 rfl) ?_
   refine G_val rfl rfl rfl rfl (V_assign rfl rfl) ?_
   refine G_done ?_
   refine G_if rfl (fun hc1 => ?_) (fun hc1 => ?_)
   rotate_left
   · (first | (exact absurd rfl hc1) | (exact absurd hc1 Bool.false_ne_true) | (exact absurd hc1 (by decide)) | (exfalso; omega))
   refine GH_start (Lq := []) (isq := []) (m := 5) mixedK rfl rfl ?_
   refine GH_take 0 rfl rfl rfl rfl (by kernel_rfl) (by kernel_rfl) (by kernel_rfl) (fun _ _ => (V_move rfl rfl)) ?_
   first
     | refine GH_take 1 rfl rfl rfl rfl (by kernel_rfl) (by kernel_rfl) (by kernel_rfl) (fun _ _ => (V_nilCheck rfl rfl)) ?_
     | refine GH_take 1 rfl rfl rfl rfl (by kernel_rfl) (by kernel_rfl) (by kernel_rfl) (fun _ _ => (V_nilCheckF rfl rfl)) ?_
   refine GH_take 2 rfl rfl rfl rfl (by kernel_rfl) (by kernel_rfl) (by kernel_rfl) (fun _ _ => (V_fieldAddr (fo := 0) rfl Try.underlying236 rfl infWireW_78 rfl rfl rfl)) ?_
   refine GH_all [3] (by kernel_rfl) (by decide) ?_
   refine (And.intro ?_ trivial)
   · skip
     refine GHop_call (L2 := [_, _]) rfl rfl rfl rfl rfl rfl Try.call80 (ct_chain _ (by omega) (by omega)) [] [] rfl rfl [] (by rintro v post ⟨rfl, rfl⟩; exact ⟨_, rfl⟩) ?_
     rintro v post ⟨rfl, rfl⟩
     show GH _ _ _ _ _ _ _ [_, _] _
     refine GH_all [4] (by kernel_rfl) (by decide) ?_
     refine (And.intro ?_ trivial)
     · skip
       refine GHop_call (L2 := []) rfl rfl rfl rfl rfl rfl Try.call79 (cbld_write _ _ _ _ _ _ _ (by first | assumption | exact .inr rfl | exact .inl rfl) (by first | assumption | exact txt_nil) (by first | omega | (simp [rqCells]; done) | (simp [rqCells]; omega) | (simp [rqCells] at *; omega))) [0, 0] [] rfl rfl [] (by rintro v post ⟨rfl, u1, hu1, rfl⟩; exact ⟨_, rfl⟩) ?_
       rintro v post ⟨rfl, u1, hu1, rfl⟩
       show GH _ _ _ _ _ _ _ [_, _] _
       refine GH_done (by kernel_rfl) ?_
       refine G_inBlock ?_
       refine G_end (post := [_, _]) Try.func172 rfl RVs_nil [0, 0] rfl ?_
       dsimp only [packed]
       exact ⟨rfl, u1, hu1, rfl⟩

set_option maxRecDepth 100000 in
set_option maxHeartbeats 1000000 in
theorem r_num (bc bq br : Nat) (l : List UInt8) (e : Nat) (hl : l.length ≤ 140737488350000) (he : e ≤ 1000) (qs : Array Value) (off : Nat) (ho : off < qs.size) :
    Ct Try.prog 157 [.pointer (some ⟨bc, 0, none⟩), .pointer (some ⟨bq, off, none⟩)] [(some bc, .cells #[.pointer none, .slice none 0 0, .pointer (some ⟨br, 0, none⟩), .bool true] 236 (0, 0))] [(some bq, .cells qs 67 (0, 0)), (some br, .cells #[.string (bs l), .int .i64 ((e : Nat) : Int)] 169 (0, 0))] fun v post => v = .tuple #[] ∧ post = [(some bq, .cells (qs.setIfInBounds off (.int .i64 (((rdInt 1099511627776 l e).1 : Nat) : Int))) 67 (0, 0)), (some br, .cells #[.string (bs (rdInt 1099511627776 l e).2.1), .int .i64 (((rdInt 1099511627776 l e).2.2 : Nat) : Int)] 169 (0, 0))] := by
 refine ct_of Try.func157 rfl rfl (fun w0 => ?_)
 show G _ _ [(0, _), (1, _)] _ _
 refine G_seq ?_
 refine G_seq ?_
 refine G_region (l := [0, 1, 2, 3]) rfl ?_
 refine G_val rfl rfl rfl rfl (V_move rfl rfl) ?_
 first
   | refine G_val rfl rfl rfl rfl (V_nilCheck rfl rfl) ?_
   | refine G_val rfl rfl rfl rfl (V_nilCheckF rfl rfl) ?_
 refine G_val rfl rfl rfl rfl (V_fieldAddr (fo := 3) rfl Try.underlying236 rfl infWireW_4 rfl rfl rfl) ?_
 refine G_val rfl rfl rfl rfl (V_load1 rfl rfl (mem_at 0 rfl) rfl Try.underlying4 rfl) ?_
 refine G_done ?_
 refine G_then rfl ?_
 refine G_seq ?_
 refine G_region (l := [0, 1, 2, 3, 4, 5, 6, 7]) rfl ?_
 refine G_val rfl rfl rfl rfl (V_move rfl rfl) ?_
 refine G_val rfl rfl rfl rfl (V_move rfl rfl) ?_
 first
   | refine G_val rfl rfl rfl rfl (V_nilCheck rfl rfl) ?_
   | refine G_val rfl rfl rfl rfl (V_nilCheckF rfl rfl) ?_
 refine G_val rfl rfl rfl rfl (V_fieldAddr (fo := 2) rfl Try.underlying236 rfl infWireW_74 rfl rfl rfl) ?_
 refine G_val rfl rfl rfl rfl (V_load1 rfl rfl (mem_at 0 rfl) rfl Try.underlying74 rfl) ?_
 refine G_call (L2 := [_]) rfl rfl rfl rfl rfl rfl Try.call84 (rd_int _ _ _ _ (by first | omega | (simp [rqCells]; done) | (simp [rqCells]; omega) | (simp [rqCells] at *; omega)) (by omega) ⟨by omega, by omega⟩) [1] [] rfl rfl ?_
 rintro v post ⟨rfl, rfl⟩
 show G _ _ _ [_, _] _
 first
   | refine G_val rfl rfl rfl rfl (V_nilCheck rfl rfl) ?_
   | refine G_val rfl rfl rfl rfl (V_nilCheckF rfl rfl) ?_
 refine G_put (l1 := [_]) (L' := [_, _]) rfl rfl rfl rfl (P_store1 rfl rfl rfl (mem_at 1 rfl) (by first | exact of_decide_eq_true rfl | omega | (simp [rqCells]; done) | (simp [rqCells]; omega) | (simp [rqCells] at *; omega)) infWireW_3 rfl rfl) rfl ?_
 refine G_done ?_
 refine G_ret (post := [_, _]) Try.func157 rfl RVs_nil [1, 0] rfl ?_
 dsimp only [packed]
 exact ⟨rfl, rfl⟩

set_option maxRecDepth 100000 in
set_option maxHeartbeats 1000000 in
theorem r_text (bc bq br : Nat) (l : List UInt8) (e : Nat) (hl : l.length ≤ 140737488350000) (he : e ≤ 1000) (qs : Array Value) (off : Nat) (ho : off < qs.size) :
    Ct Try.prog 171 [.pointer (some ⟨bc, 0, none⟩), .pointer (some ⟨bq, off, none⟩)] [(some bc, .cells #[.pointer none, .slice none 0 0, .pointer (some ⟨br, 0, none⟩), .bool true] 236 (0, 0))] [(some bq, .cells qs 67 (0, 0)), (some br, .cells #[.string (bs l), .int .i64 ((e : Nat) : Int)] 169 (0, 0))] fun v post => v = .tuple #[] ∧ post = [(some bq, .cells (qs.setIfInBounds off (.string (bs (rdStr 100 l e).1))) 67 (0, 0)), (some br, .cells #[.string (bs (rdStr 100 l e).2.1), .int .i64 (((rdStr 100 l e).2.2 : Nat) : Int)] 169 (0, 0))] := by
 refine ct_of Try.func171 rfl rfl (fun w0 => ?_)
 show G _ _ [(0, _), (1, _)] _ _
 refine G_seq ?_
 refine G_seq ?_
 refine G_region (l := [0, 1, 2, 3]) rfl ?_
 refine G_val rfl rfl rfl rfl (V_move rfl rfl) ?_
 first
   | refine G_val rfl rfl rfl rfl (V_nilCheck rfl rfl) ?_
   | refine G_val rfl rfl rfl rfl (V_nilCheckF rfl rfl) ?_
 refine G_val rfl rfl rfl rfl (V_fieldAddr (fo := 3) rfl Try.underlying236 rfl infWireW_4 rfl rfl rfl) ?_
 refine G_val rfl rfl rfl rfl (V_load1 rfl rfl (mem_at 0 rfl) rfl Try.underlying4 rfl) ?_
 refine G_done ?_
 refine G_then rfl ?_
 refine G_seq ?_
 refine G_region (l := [0, 1, 2, 3, 4, 5, 6, 7]) rfl ?_
 refine G_val rfl rfl rfl rfl (V_move rfl rfl) ?_
 refine G_val rfl rfl rfl rfl (V_move rfl rfl) ?_
 first
   | refine G_val rfl rfl rfl rfl (V_nilCheck rfl rfl) ?_
   | refine G_val rfl rfl rfl rfl (V_nilCheckF rfl rfl) ?_
 refine G_val rfl rfl rfl rfl (V_fieldAddr (fo := 2) rfl Try.underlying236 rfl infWireW_74 rfl rfl rfl) ?_
 refine G_val rfl rfl rfl rfl (V_load1 rfl rfl (mem_at 0 rfl) rfl Try.underlying74 rfl) ?_
 refine G_call (L2 := [_]) rfl rfl rfl rfl rfl rfl Try.call134 (rd_str _ _ _ _ (by first | omega | (simp [rqCells]; done) | (simp [rqCells]; omega) | (simp [rqCells] at *; omega)) (by omega) ⟨by omega, by omega⟩) [1] [] rfl rfl ?_
 rintro v post ⟨rfl, rfl⟩
 show G _ _ _ [_, _] _
 first
   | refine G_val rfl rfl rfl rfl (V_nilCheck rfl rfl) ?_
   | refine G_val rfl rfl rfl rfl (V_nilCheckF rfl rfl) ?_
 refine G_put (l1 := [_]) (L' := [_, _]) rfl rfl rfl rfl (P_store1 rfl rfl rfl (mem_at 1 rfl) (by first | exact of_decide_eq_true rfl | omega | (simp [rqCells]; done) | (simp [rqCells]; omega) | (simp [rqCells] at *; omega)) infWireW_9 rfl rfl) rfl ?_
 refine G_done ?_
 refine G_ret (post := [_, _]) Try.func171 rfl RVs_nil [1, 0] rfl ?_
 dsimp only [packed]
 exact ⟨rfl, rfl⟩

set_option maxRecDepth 100000 in
set_option maxHeartbeats 1000000 in
theorem r_flag (bc bq br : Nat) (l : List UInt8) (e : Nat) (hl : l.length ≤ 140737488350000) (he : e ≤ 1000) (qs : Array Value) (off : Nat) (ho : off < qs.size) :
    Ct Try.prog 172 [.pointer (some ⟨bc, 0, none⟩), .pointer (some ⟨bq, off, none⟩)] [(some bc, .cells #[.pointer none, .slice none 0 0, .pointer (some ⟨br, 0, none⟩), .bool true] 236 (0, 0))] [(some bq, .cells qs 67 (0, 0)), (some br, .cells #[.string (bs l), .int .i64 ((e : Nat) : Int)] 169 (0, 0))] fun v post => v = .tuple #[] ∧ post = [(some bq, .cells (qs.setIfInBounds off (.bool (rdFlag l e).1)) 67 (0, 0)), (some br, .cells #[.string (bs (rdFlag l e).2.1), .int .i64 (((rdFlag l e).2.2 : Nat) : Int)] 169 (0, 0))] := by
 refine ct_of Try.func172 rfl rfl (fun w0 => ?_)
 show G _ _ [(0, _), (1, _)] _ _
 refine G_block ?_
 refine G_seq ?_
 refine G_region (l := [0, 1, 2, 3, 4]) rfl ?_
 refine G_val rfl rfl rfl rfl (V_move rfl rfl) ?_
 first
   | refine G_val rfl rfl rfl rfl (V_nilCheck rfl rfl) ?_
   | refine G_val rfl rfl rfl rfl (V_nilCheckF rfl rfl) ?_
 refine G_val rfl rfl rfl rfl (V_fieldAddr (fo := 3) rfl Try.underlying236 rfl infWireW_4 rfl rfl rfl) ?_
 refine G_val rfl rfl rfl rfl (V_load1 rfl rfl (mem_at 0 rfl) rfl Try.underlying4 rfl) ?_
 refine G_val rfl rfl rfl rfl (V_assign rfl rfl) ?_
 refine G_done ?_
 refine G_then rfl ?_
 refine G_region (l := [0, 1, 2, 3, 4, 5, 6, 7]) rfl ?_
 refine G_val rfl rfl rfl rfl (V_move rfl rfl) ?_
 refine G_val rfl rfl rfl rfl (V_move rfl rfl) ?_
 first
   | refine G_val rfl rfl rfl rfl (V_nilCheck rfl rfl) ?_
   | refine G_val rfl rfl rfl rfl (V_nilCheckF rfl rfl) ?_
 refine G_val rfl rfl rfl rfl (V_fieldAddr (fo := 2) rfl Try.underlying236 rfl infWireW_74 rfl rfl rfl) ?_
 refine G_val rfl rfl rfl rfl (V_load1 rfl rfl (mem_at 0 rfl) rfl Try.underlying74 rfl) ?_
 refine G_call (L2 := [_]) rfl rfl rfl rfl rfl rfl Try.call141 (rd_flag _ _ _ (by first | omega | (simp [rqCells]; done) | (simp [rqCells]; omega) | (simp [rqCells] at *; omega)) (by omega)) [1] [] rfl rfl ?_
 rintro v post ⟨rfl, rfl⟩
 show G _ _ _ [_, _] _
 first
   | refine G_val rfl rfl rfl rfl (V_nilCheck rfl rfl) ?_
   | refine G_val rfl rfl rfl rfl (V_nilCheckF rfl rfl) ?_
 refine G_put (l1 := [_]) (L' := [_, _]) rfl rfl rfl rfl (P_store1 rfl rfl rfl (mem_at 1 rfl) (by first | exact of_decide_eq_true rfl | omega | (simp [rqCells]; done) | (simp [rqCells]; omega) | (simp [rqCells] at *; omega)) infWireW_4 rfl rfl) rfl ?_
 refine G_done ?_
 refine G_inBlock ?_
 refine G_end (post := [_, _]) Try.func172 rfl RVs_nil [1, 0] rfl ?_
 dsimp only [packed]
 exact ⟨rfl, rfl⟩


def tTab (b : Nat) : List (Int × Value) := [(116, .pointer (some ⟨b, 1, none⟩)), (105, .pointer (some ⟨b, 2, none⟩)), (110, .pointer (some ⟨b, 3, none⟩)), (107, .pointer (some ⟨b, 4, none⟩)), (99, .pointer (some ⟨b, 5, none⟩)), (112, .pointer (some ⟨b, 6, none⟩))]
def nTab (b : Nat) : List (Int × Value) := [(111, .pointer (some ⟨b, 7, none⟩)), (101, .pointer (some ⟨b, 8, none⟩)), (119, .pointer (some ⟨b, 9, none⟩)), (120, .pointer (some ⟨b, 10, none⟩)), (108, .pointer (some ⟨b, 11, none⟩)), (114, .pointer (some ⟨b, 12, none⟩)), (100, .pointer (some ⟨b, 13, none⟩)), (102, .pointer (some ⟨b, 14, none⟩)), (109, .pointer (some ⟨b, 15, none⟩))]
theorem tTab_nd (b : Nat) : ((tTab b).map (·.1)).Nodup := by show [116, 105, 110, 107, 99, 112].Nodup; decide
theorem nTab_nd (b : Nat) : ((nTab b).map (·.1)).Nodup := by show [111, 101, 119, 120, 108, 114, 100, 102, 109].Nodup; decide
theorem tfind {b : Nat} {c : Int} {i : Nat} {d : List (Int × Value)} (h : textIdx c = some i) (hd : d.Perm (tTab b)) : ∃ m, Instr.findNow (.int .i32) (.int .i32 c) (entries .i32 d 0) 0 = some (some (m, .pointer (some ⟨b, i, none⟩))) := by
  refine find_perm hd (tTab_nd b) ?_
  unfold textIdx at h
  unfold tTab
  repeat' split at h
  all_goals first | (cases h; subst_vars; simp; done) | cases h
theorem nfind {b : Nat} {c : Int} {i : Nat} {d : List (Int × Value)} (h : numIdx c = some i) (hd : d.Perm (nTab b)) : ∃ m, Instr.findNow (.int .i32) (.int .i32 c) (entries .i32 d 0) 0 = some (some (m, .pointer (some ⟨b, i, none⟩))) := by
  refine find_perm hd (nTab_nd b) ?_
  unfold numIdx at h
  unfold nTab
  repeat' split at h
  all_goals first | (cases h; subst_vars; simp; done) | cases h
theorem tfindN {b : Nat} {c : Int} {d : List (Int × Value)} (h : textIdx c = none) (hd : d.Perm (tTab b)) : Instr.findNow (.int .i32) (.int .i32 c) (entries .i32 d 0) 0 = some none := by
  refine find_permN hd ?_
  unfold textIdx at h
  repeat' split at h
  all_goals first | (cases h; done) | skip
  intro p hp
  simp only [tTab, List.mem_cons, List.not_mem_nil, or_false] at hp
  rcases hp with rfl | rfl | rfl | rfl | rfl | rfl <;> simp only <;> omega
theorem nfindN {b : Nat} {c : Int} {d : List (Int × Value)} (h : numIdx c = none) (hd : d.Perm (nTab b)) : Instr.findNow (.int .i32) (.int .i32 c) (entries .i32 d 0) 0 = some none := by
  refine find_permN hd ?_
  unfold numIdx at h
  repeat' split at h
  all_goals first | (cases h; done) | skip
  intro p hp
  simp only [nTab, List.mem_cons, List.not_mem_nil, or_false] at hp
  rcases hp with rfl | rfl | rfl | rfl | rfl | rfl | rfl | rfl | rfl <;> simp only <;> omega

set_option maxRecDepth 100000 in
set_option maxHeartbeats 1000000 in
theorem w_field (bc bq : Nat) (p : Value) (u : Sl) (tx : List UInt8) (hp : UsedOr bc p) (hu : Txt u tx) (hs : tx.length ≤ 140737488340000) (q : Rq) (c : Int) (hf : FOk q c) :
    Ct Try.prog 158 [.pointer (some ⟨bc, 0, none⟩), .pointer (some ⟨bq, 0, none⟩), .int .i32 c] [(some bq, .cells (rqCells q).toArray 67 (0, 0))] [(some bc, .cells #[p, u.v (tx).length, .pointer none, .bool false] 236 (0, 0)), (u.ob, .cells u.cs 5 u.fz)] fun v post => v = .tuple #[] ∧ ∃ u1, Txt u1 (tx ++ encF q c) ∧ post = [(some bc, .cells #[.pointer (some ⟨bc, 0, none⟩), u1.v (tx ++ encF q c).length, .pointer none, .bool false] 236 (0, 0)), (u1.ob, .cells u1.cs 5 u1.fz)] := by
 refine ct_of Try.func158 rfl rfl (fun w0 => ?_)
 show G _ _ [(0, _), (1, _), (2, _)] _ _
 refine G_seq ?_
 refine GH_start (Lq := []) (isq := []) (m := 27) mixedK rfl rfl ?_
 refine GH_take 1 rfl rfl rfl rfl (by kernel_rfl) (by kernel_rfl) (by kernel_rfl) (fun _ _ => (V_move rfl rfl)) ?_
 first
   | refine GH_take 2 rfl rfl rfl rfl (by kernel_rfl) (by kernel_rfl) (by kernel_rfl) (fun _ _ => (V_nilCheck rfl rfl)) ?_
   | refine GH_take 2 rfl rfl rfl rfl (by kernel_rfl) (by kernel_rfl) (by kernel_rfl) (fun _ _ => (V_nilCheckF rfl rfl)) ?_
 refine GH_take 3 rfl rfl rfl rfl (by kernel_rfl) (by kernel_rfl) (by kernel_rfl) (fun _ _ => (V_fieldAddr (fo := 1) rfl Try.underlying67 rfl infWireW_9 rfl rfl rfl)) ?_
 refine GH_take 5 rfl rfl rfl rfl (by kernel_rfl) (by kernel_rfl) (by kernel_rfl) (fun _ _ => (V_move rfl rfl)) ?_
 first
   | refine GH_take 6 rfl rfl rfl rfl (by kernel_rfl) (by kernel_rfl) (by kernel_rfl) (fun _ _ => (V_nilCheck rfl rfl)) ?_
   | refine GH_take 6 rfl rfl rfl rfl (by kernel_rfl) (by kernel_rfl) (by kernel_rfl) (fun _ _ => (V_nilCheckF rfl rfl)) ?_
 refine GH_take 7 rfl rfl rfl rfl (by kernel_rfl) (by kernel_rfl) (by kernel_rfl) (fun _ _ => (V_fieldAddr (fo := 2) rfl Try.underlying67 rfl infWireW_9 rfl rfl rfl)) ?_
 refine GH_take 9 rfl rfl rfl rfl (by kernel_rfl) (by kernel_rfl) (by kernel_rfl) (fun _ _ => (V_move rfl rfl)) ?_
 first
   | refine GH_take 10 rfl rfl rfl rfl (by kernel_rfl) (by kernel_rfl) (by kernel_rfl) (fun _ _ => (V_nilCheck rfl rfl)) ?_
   | refine GH_take 10 rfl rfl rfl rfl (by kernel_rfl) (by kernel_rfl) (by kernel_rfl) (fun _ _ => (V_nilCheckF rfl rfl)) ?_
 refine GH_take 11 rfl rfl rfl rfl (by kernel_rfl) (by kernel_rfl) (by kernel_rfl) (fun _ _ => (V_fieldAddr (fo := 3) rfl Try.underlying67 rfl infWireW_9 rfl rfl rfl)) ?_
 refine GH_take 13 rfl rfl rfl rfl (by kernel_rfl) (by kernel_rfl) (by kernel_rfl) (fun _ _ => (V_move rfl rfl)) ?_
 first
   | refine GH_take 14 rfl rfl rfl rfl (by kernel_rfl) (by kernel_rfl) (by kernel_rfl) (fun _ _ => (V_nilCheck rfl rfl)) ?_
   | refine GH_take 14 rfl rfl rfl rfl (by kernel_rfl) (by kernel_rfl) (by kernel_rfl) (fun _ _ => (V_nilCheckF rfl rfl)) ?_
 refine GH_take 15 rfl rfl rfl rfl (by kernel_rfl) (by kernel_rfl) (by kernel_rfl) (fun _ _ => (V_fieldAddr (fo := 4) rfl Try.underlying67 rfl infWireW_9 rfl rfl rfl)) ?_
 refine GH_take 17 rfl rfl rfl rfl (by kernel_rfl) (by kernel_rfl) (by kernel_rfl) (fun _ _ => (V_move rfl rfl)) ?_
 first
   | refine GH_take 18 rfl rfl rfl rfl (by kernel_rfl) (by kernel_rfl) (by kernel_rfl) (fun _ _ => (V_nilCheck rfl rfl)) ?_
   | refine GH_take 18 rfl rfl rfl rfl (by kernel_rfl) (by kernel_rfl) (by kernel_rfl) (fun _ _ => (V_nilCheckF rfl rfl)) ?_
 refine GH_take 19 rfl rfl rfl rfl (by kernel_rfl) (by kernel_rfl) (by kernel_rfl) (fun _ _ => (V_fieldAddr (fo := 5) rfl Try.underlying67 rfl infWireW_9 rfl rfl rfl)) ?_
 refine GH_take 21 rfl rfl rfl rfl (by kernel_rfl) (by kernel_rfl) (by kernel_rfl) (fun _ _ => (V_move rfl rfl)) ?_
 first
   | refine GH_take 22 rfl rfl rfl rfl (by kernel_rfl) (by kernel_rfl) (by kernel_rfl) (fun _ _ => (V_nilCheck rfl rfl)) ?_
   | refine GH_take 22 rfl rfl rfl rfl (by kernel_rfl) (by kernel_rfl) (by kernel_rfl) (fun _ _ => (V_nilCheckF rfl rfl)) ?_
 refine GH_take 23 rfl rfl rfl rfl (by kernel_rfl) (by kernel_rfl) (by kernel_rfl) (fun _ _ => (V_fieldAddr (fo := 6) rfl Try.underlying67 rfl infWireW_9 rfl rfl rfl)) ?_
 refine GH_all [0] (by kernel_rfl) (by decide) ?_
 refine (And.intro ?_ trivial)
 · skip
   refine GHop_new rfl rfl rfl rfl (N_map rfl) [] (fun _ => ⟨_, rfl⟩) (fun b10 => ?_)
   refine GH_inserts (m := 6) (F := #[true, true, true, true, true, true, true, true, true, true, true, true, true, true, true, true, true, true, true, true, true, true, true, true, true, false, false]) (l1 := []) (q := .i32) Try.underlying288 Try.underlying21 (InsAll_cons 4 rfl rfl rfl rfl rfl rfl rfl (InsAll_cons 8 rfl rfl rfl rfl rfl rfl rfl (InsAll_cons 12 rfl rfl rfl rfl rfl rfl rfl (InsAll_cons 16 rfl rfl rfl rfl rfl rfl rfl (InsAll_cons 20 rfl rfl rfl rfl rfl rfl rfl (InsAll_cons 24 rfl rfl rfl rfl rfl rfl rfl InsAll_nil)))))) rfl (by simp only [List.map_cons, List.map_nil]; decide) (by simp only [List.map_cons, List.map_nil]; decide) (by kernel_rfl) ?_
   intro dn10 hdn10
   show GH _ _ _ _ _ _ _ [_, _, _] _
   refine GH_take 25 rfl rfl rfl rfl (by kernel_rfl) (by kernel_rfl) (by kernel_rfl) (fun _ _ => (V_move rfl rfl)) ?_
   refine GH_take 26 rfl rfl rfl rfl (by kernel_rfl) (by kernel_rfl) (by kernel_rfl) (fun _ _ => (V_assign rfl rfl)) ?_
   refine GH_done (by kernel_rfl) ?_
   refine G_seq ?_
   refine GH_start (Lq := []) (isq := []) (m := 39) mixedK rfl rfl ?_
   refine GH_take 1 rfl rfl rfl rfl (by kernel_rfl) (by kernel_rfl) (by kernel_rfl) (fun _ _ => (V_move rfl rfl)) ?_
   first
     | refine GH_take 2 rfl rfl rfl rfl (by kernel_rfl) (by kernel_rfl) (by kernel_rfl) (fun _ _ => (V_nilCheck rfl rfl)) ?_
     | refine GH_take 2 rfl rfl rfl rfl (by kernel_rfl) (by kernel_rfl) (by kernel_rfl) (fun _ _ => (V_nilCheckF rfl rfl)) ?_
   refine GH_take 3 rfl rfl rfl rfl (by kernel_rfl) (by kernel_rfl) (by kernel_rfl) (fun _ _ => (V_fieldAddr (fo := 7) rfl Try.underlying67 rfl infWireW_3 rfl rfl rfl)) ?_
   refine GH_take 5 rfl rfl rfl rfl (by kernel_rfl) (by kernel_rfl) (by kernel_rfl) (fun _ _ => (V_move rfl rfl)) ?_
   first
     | refine GH_take 6 rfl rfl rfl rfl (by kernel_rfl) (by kernel_rfl) (by kernel_rfl) (fun _ _ => (V_nilCheck rfl rfl)) ?_
     | refine GH_take 6 rfl rfl rfl rfl (by kernel_rfl) (by kernel_rfl) (by kernel_rfl) (fun _ _ => (V_nilCheckF rfl rfl)) ?_
   refine GH_take 7 rfl rfl rfl rfl (by kernel_rfl) (by kernel_rfl) (by kernel_rfl) (fun _ _ => (V_fieldAddr (fo := 8) rfl Try.underlying67 rfl infWireW_3 rfl rfl rfl)) ?_
   refine GH_take 9 rfl rfl rfl rfl (by kernel_rfl) (by kernel_rfl) (by kernel_rfl) (fun _ _ => (V_move rfl rfl)) ?_
   first
     | refine GH_take 10 rfl rfl rfl rfl (by kernel_rfl) (by kernel_rfl) (by kernel_rfl) (fun _ _ => (V_nilCheck rfl rfl)) ?_
     | refine GH_take 10 rfl rfl rfl rfl (by kernel_rfl) (by kernel_rfl) (by kernel_rfl) (fun _ _ => (V_nilCheckF rfl rfl)) ?_
   refine GH_take 11 rfl rfl rfl rfl (by kernel_rfl) (by kernel_rfl) (by kernel_rfl) (fun _ _ => (V_fieldAddr (fo := 9) rfl Try.underlying67 rfl infWireW_3 rfl rfl rfl)) ?_
   refine GH_take 13 rfl rfl rfl rfl (by kernel_rfl) (by kernel_rfl) (by kernel_rfl) (fun _ _ => (V_move rfl rfl)) ?_
   first
     | refine GH_take 14 rfl rfl rfl rfl (by kernel_rfl) (by kernel_rfl) (by kernel_rfl) (fun _ _ => (V_nilCheck rfl rfl)) ?_
     | refine GH_take 14 rfl rfl rfl rfl (by kernel_rfl) (by kernel_rfl) (by kernel_rfl) (fun _ _ => (V_nilCheckF rfl rfl)) ?_
   refine GH_take 15 rfl rfl rfl rfl (by kernel_rfl) (by kernel_rfl) (by kernel_rfl) (fun _ _ => (V_fieldAddr (fo := 10) rfl Try.underlying67 rfl infWireW_3 rfl rfl rfl)) ?_
   refine GH_take 17 rfl rfl rfl rfl (by kernel_rfl) (by kernel_rfl) (by kernel_rfl) (fun _ _ => (V_move rfl rfl)) ?_
   first
     | refine GH_take 18 rfl rfl rfl rfl (by kernel_rfl) (by kernel_rfl) (by kernel_rfl) (fun _ _ => (V_nilCheck rfl rfl)) ?_
     | refine GH_take 18 rfl rfl rfl rfl (by kernel_rfl) (by kernel_rfl) (by kernel_rfl) (fun _ _ => (V_nilCheckF rfl rfl)) ?_
   refine GH_take 19 rfl rfl rfl rfl (by kernel_rfl) (by kernel_rfl) (by kernel_rfl) (fun _ _ => (V_fieldAddr (fo := 11) rfl Try.underlying67 rfl infWireW_3 rfl rfl rfl)) ?_
   refine GH_take 21 rfl rfl rfl rfl (by kernel_rfl) (by kernel_rfl) (by kernel_rfl) (fun _ _ => (V_move rfl rfl)) ?_
   first
     | refine GH_take 22 rfl rfl rfl rfl (by kernel_rfl) (by kernel_rfl) (by kernel_rfl) (fun _ _ => (V_nilCheck rfl rfl)) ?_
     | refine GH_take 22 rfl rfl rfl rfl (by kernel_rfl) (by kernel_rfl) (by kernel_rfl) (fun _ _ => (V_nilCheckF rfl rfl)) ?_
   refine GH_take 23 rfl rfl rfl rfl (by kernel_rfl) (by kernel_rfl) (by kernel_rfl) (fun _ _ => (V_fieldAddr (fo := 12) rfl Try.underlying67 rfl infWireW_3 rfl rfl rfl)) ?_
   refine GH_take 25 rfl rfl rfl rfl (by kernel_rfl) (by kernel_rfl) (by kernel_rfl) (fun _ _ => (V_move rfl rfl)) ?_
   first
     | refine GH_take 26 rfl rfl rfl rfl (by kernel_rfl) (by kernel_rfl) (by kernel_rfl) (fun _ _ => (V_nilCheck rfl rfl)) ?_
     | refine GH_take 26 rfl rfl rfl rfl (by kernel_rfl) (by kernel_rfl) (by kernel_rfl) (fun _ _ => (V_nilCheckF rfl rfl)) ?_
   refine GH_take 27 rfl rfl rfl rfl (by kernel_rfl) (by kernel_rfl) (by kernel_rfl) (fun _ _ => (V_fieldAddr (fo := 13) rfl Try.underlying67 rfl infWireW_3 rfl rfl rfl)) ?_
   refine GH_take 29 rfl rfl rfl rfl (by kernel_rfl) (by kernel_rfl) (by kernel_rfl) (fun _ _ => (V_move rfl rfl)) ?_
   first
     | refine GH_take 30 rfl rfl rfl rfl (by kernel_rfl) (by kernel_rfl) (by kernel_rfl) (fun _ _ => (V_nilCheck rfl rfl)) ?_
     | refine GH_take 30 rfl rfl rfl rfl (by kernel_rfl) (by kernel_rfl) (by kernel_rfl) (fun _ _ => (V_nilCheckF rfl rfl)) ?_
   refine GH_take 31 rfl rfl rfl rfl (by kernel_rfl) (by kernel_rfl) (by kernel_rfl) (fun _ _ => (V_fieldAddr (fo := 14) rfl Try.underlying67 rfl infWireW_3 rfl rfl rfl)) ?_
   refine GH_take 33 rfl rfl rfl rfl (by kernel_rfl) (by kernel_rfl) (by kernel_rfl) (fun _ _ => (V_move rfl rfl)) ?_
   first
     | refine GH_take 34 rfl rfl rfl rfl (by kernel_rfl) (by kernel_rfl) (by kernel_rfl) (fun _ _ => (V_nilCheck rfl rfl)) ?_
     | refine GH_take 34 rfl rfl rfl rfl (by kernel_rfl) (by kernel_rfl) (by kernel_rfl) (fun _ _ => (V_nilCheckF rfl rfl)) ?_
   refine GH_take 35 rfl rfl rfl rfl (by kernel_rfl) (by kernel_rfl) (by kernel_rfl) (fun _ _ => (V_fieldAddr (fo := 15) rfl Try.underlying67 rfl infWireW_3 rfl rfl rfl)) ?_
   refine GH_all [0] (by kernel_rfl) (by decide) ?_
   refine (And.intro ?_ trivial)
   · skip
     refine GHop_new rfl rfl rfl rfl (N_map rfl) [] (fun _ => ⟨_, rfl⟩) (fun b30 => ?_)
     refine GH_inserts (m := 9) (F := #[true, true, true, true, true, true, true, true, true, true, true, true, true, true, true, true, true, true, true, true, true, true, true, true, true, true, true, true, true, true, true, true, true, true, true, true, true, false, false]) (l1 := []) (q := .i32) Try.underlying289 Try.underlying21 (InsAll_cons 4 rfl rfl rfl rfl rfl rfl rfl (InsAll_cons 8 rfl rfl rfl rfl rfl rfl rfl (InsAll_cons 12 rfl rfl rfl rfl rfl rfl rfl (InsAll_cons 16 rfl rfl rfl rfl rfl rfl rfl (InsAll_cons 20 rfl rfl rfl rfl rfl rfl rfl (InsAll_cons 24 rfl rfl rfl rfl rfl rfl rfl (InsAll_cons 28 rfl rfl rfl rfl rfl rfl rfl (InsAll_cons 32 rfl rfl rfl rfl rfl rfl rfl (InsAll_cons 36 rfl rfl rfl rfl rfl rfl rfl InsAll_nil))))))))) rfl (by simp only [List.map_cons, List.map_nil]; decide) (by simp only [List.map_cons, List.map_nil]; decide) (by kernel_rfl) ?_
     intro dn30 hdn30
     show GH _ _ _ _ _ _ _ [_, _, _, _] _
     refine GH_take 37 rfl rfl rfl rfl (by kernel_rfl) (by kernel_rfl) (by kernel_rfl) (fun _ _ => (V_move rfl rfl)) ?_
     refine GH_take 38 rfl rfl rfl rfl (by kernel_rfl) (by kernel_rfl) (by kernel_rfl) (fun _ _ => (V_assign rfl rfl)) ?_
     refine GH_done (by kernel_rfl) ?_
     refine G_seq ?_
     refine G_seq ?_
     rcases letter3 c with ⟨i, htx, hnx, hb1, hb2⟩ | ⟨i, htx, hnx, hb1, hb2⟩ | ⟨htx, hnx⟩
     · skip
       refine G_region (l := [0, 1, 2, 3]) rfl ?_
       refine G_val rfl rfl rfl rfl (V_move rfl rfl) ?_
       refine G_val rfl rfl rfl rfl (V_move rfl rfl) ?_
       refine G_val rfl rfl rfl rfl (V_lookup rfl Try.underlying288 Try.underlying21 rfl rfl rfl (mem_at 2 rfl) (tfind (b := bq) htx hdn10).choose_spec) ?_
       refine G_val rfl rfl rfl rfl (V_assign rfl rfl) ?_
       refine G_done ?_
       refine G_seq ?_
       refine G_region (l := [0, 1]) rfl ?_
       refine G_val rfl rfl rfl rfl (V_move rfl rfl) ?_
       refine G_val rfl rfl rfl rfl (V_pneqN rfl Try.underlying244 rfl rfl) ?_
       refine G_done ?_
       refine G_then rfl ?_
       refine G_seq ?_
       refine G_region (l := [0, 1, 2]) rfl ?_
       refine G_val rfl rfl rfl rfl (V_move rfl rfl) ?_
       refine G_val rfl rfl rfl rfl (V_move rfl rfl) ?_
       refine G_call (L2 := [_, _]) rfl rfl rfl rfl rfl rfl Try.call171 (w_text _ _ _ _ _ (by assumption) (by assumption) (by omega) _ _ (q.tx i) (hf.t i htx) (rqCells_text q i hb1 hb2)) [2, 2] [0] rfl rfl ?_
       rintro v post ⟨rfl, u1, hu1, rfl⟩
       show G _ _ _ [_, _, _, _] _
       refine G_done ?_
       refine G_ret (post := [_, _]) Try.func158 rfl RVs_nil [0, 0] rfl ?_
       dsimp only [packed]
       first | (rw [encF_text htx]; exact ⟨rfl, u1, hu1, rfl⟩) | (rw [encF_num htx hnx]; exact ⟨rfl, u1, hu1, rfl⟩) | (rw [encF_flag htx hnx]; exact ⟨rfl, u1, hu1, rfl⟩)
     · skip
       refine G_region (l := [0, 1, 2, 3]) rfl ?_
       refine G_val rfl rfl rfl rfl (V_move rfl rfl) ?_
       refine G_val rfl rfl rfl rfl (V_move rfl rfl) ?_
       refine G_val rfl rfl rfl rfl (V_lookupN rfl Try.underlying288 Try.underlying21 rfl infWireW_244 rfl rfl rfl (mem_at 2 rfl) (tfindN (b := bq) htx hdn10)) ?_
       refine G_val rfl rfl rfl rfl (V_assign rfl rfl) ?_
       refine G_done ?_
       refine G_seq ?_
       refine G_region (l := [0, 1]) rfl ?_
       refine G_val rfl rfl rfl rfl (V_move rfl rfl) ?_
       refine G_val rfl rfl rfl rfl (V_pneqN rfl Try.underlying244 rfl rfl) ?_
       refine G_done ?_
       refine G_else rfl ?_
       refine G_skip ?_
       refine G_seq ?_
       refine G_seq ?_
       refine G_region (l := [0, 1, 2, 3]) rfl ?_
       refine G_val rfl rfl rfl rfl (V_move rfl rfl) ?_
       refine G_val rfl rfl rfl rfl (V_move rfl rfl) ?_
       refine G_val rfl rfl rfl rfl (V_lookup rfl Try.underlying289 Try.underlying21 rfl rfl rfl (mem_at 1 rfl) (nfind (b := bq) hnx hdn30).choose_spec) ?_
       refine G_val rfl rfl rfl rfl (V_assign rfl rfl) ?_
       refine G_done ?_
       refine G_seq ?_
       refine G_region (l := [0, 1]) rfl ?_
       refine G_val rfl rfl rfl rfl (V_move rfl rfl) ?_
       refine G_val rfl rfl rfl rfl (V_pneqN rfl Try.underlying176 rfl rfl) ?_
       refine G_done ?_
       refine G_then rfl ?_
       refine G_seq ?_
       refine G_region (l := [0, 1, 2]) rfl ?_
       refine G_val rfl rfl rfl rfl (V_move rfl rfl) ?_
       refine G_val rfl rfl rfl rfl (V_move rfl rfl) ?_
       refine G_call (L2 := [_, _]) rfl rfl rfl rfl rfl rfl Try.call157 (w_num _ _ _ _ _ (by assumption) (by assumption) (by omega) _ _ (q.nx i) (hf.n i htx hnx) (rqCells_num q i hb1 hb2)) [2, 2] [0] rfl rfl ?_
       rintro v post ⟨rfl, u1, hu1, rfl⟩
       show G _ _ _ [_, _, _, _] _
       refine G_done ?_
       refine G_ret (post := [_, _]) Try.func158 rfl RVs_nil [0, 0] rfl ?_
       dsimp only [packed]
       first | (rw [encF_text htx]; exact ⟨rfl, u1, hu1, rfl⟩) | (rw [encF_num htx hnx]; exact ⟨rfl, u1, hu1, rfl⟩) | (rw [encF_flag htx hnx]; exact ⟨rfl, u1, hu1, rfl⟩)
     · skip
       refine G_region (l := [0, 1, 2, 3]) rfl ?_
       refine G_val rfl rfl rfl rfl (V_move rfl rfl) ?_
       refine G_val rfl rfl rfl rfl (V_move rfl rfl) ?_
       refine G_val rfl rfl rfl rfl (V_lookupN rfl Try.underlying288 Try.underlying21 rfl infWireW_244 rfl rfl rfl (mem_at 2 rfl) (tfindN (b := bq) htx hdn10)) ?_
       refine G_val rfl rfl rfl rfl (V_assign rfl rfl) ?_
       refine G_done ?_
       refine G_seq ?_
       refine G_region (l := [0, 1]) rfl ?_
       refine G_val rfl rfl rfl rfl (V_move rfl rfl) ?_
       refine G_val rfl rfl rfl rfl (V_pneqN rfl Try.underlying244 rfl rfl) ?_
       refine G_done ?_
       refine G_else rfl ?_
       refine G_skip ?_
       refine G_seq ?_
       refine G_seq ?_
       refine G_region (l := [0, 1, 2, 3]) rfl ?_
       refine G_val rfl rfl rfl rfl (V_move rfl rfl) ?_
       refine G_val rfl rfl rfl rfl (V_move rfl rfl) ?_
       refine G_val rfl rfl rfl rfl (V_lookupN rfl Try.underlying289 Try.underlying21 rfl infWireW_176 rfl rfl rfl (mem_at 1 rfl) (nfindN (b := bq) hnx hdn30)) ?_
       refine G_val rfl rfl rfl rfl (V_assign rfl rfl) ?_
       refine G_done ?_
       refine G_seq ?_
       refine G_region (l := [0, 1]) rfl ?_
       refine G_val rfl rfl rfl rfl (V_move rfl rfl) ?_
       refine G_val rfl rfl rfl rfl (V_pneqN rfl Try.underlying176 rfl rfl) ?_
       refine G_done ?_
       refine G_else rfl ?_
       refine G_skip ?_
       refine G_region (l := [0, 1, 2, 3, 4]) rfl ?_
       refine G_val rfl rfl rfl rfl (V_move rfl rfl) ?_
       refine G_val rfl rfl rfl rfl (V_move rfl rfl) ?_
       first
         | refine G_val rfl rfl rfl rfl (V_nilCheck rfl rfl) ?_
         | refine G_val rfl rfl rfl rfl (V_nilCheckF rfl rfl) ?_
       refine G_val rfl rfl rfl rfl (V_fieldAddr (fo := 16) rfl Try.underlying67 rfl infWireW_4 rfl rfl rfl) ?_
       refine G_call (L2 := [_, _]) rfl rfl rfl rfl rfl rfl Try.call172 (w_flag _ _ _ _ _ (by assumption) (by assumption) (by omega) _ _ q.flag (rqCells_flag q)) [2, 2] [0] rfl rfl ?_
       rintro v post ⟨rfl, u1, hu1, rfl⟩
       show G _ _ _ [_, _, _, _] _
       refine G_done ?_
       refine G_end (post := [_, _]) Try.func158 rfl RVs_nil [0, 0] rfl ?_
       dsimp only [packed]
       first | (rw [encF_text htx]; exact ⟨rfl, u1, hu1, rfl⟩) | (rw [encF_num htx hnx]; exact ⟨rfl, u1, hu1, rfl⟩) | (rw [encF_flag htx hnx]; exact ⟨rfl, u1, hu1, rfl⟩)

set_option maxRecDepth 100000 in
set_option maxHeartbeats 1000000 in
theorem r_field (bc bq br : Nat) (l : List UInt8) (e : Nat) (hl : l.length ≤ 140737488350000) (he : e ≤ 1000) (q : Rq) (c : Int) :
    Ct Try.prog 158 [.pointer (some ⟨bc, 0, none⟩), .pointer (some ⟨bq, 0, none⟩), .int .i32 c] [(some bc, .cells #[.pointer none, .slice none 0 0, .pointer (some ⟨br, 0, none⟩), .bool true] 236 (0, 0))] [(some bq, .cells (rqCells q).toArray 67 (0, 0)), (some br, .cells #[.string (bs l), .int .i64 ((e : Nat) : Int)] 169 (0, 0))] fun v post => v = .tuple #[] ∧ post = [(some bq, .cells (rqCells (rdF q c l e).1).toArray 67 (0, 0)), (some br, .cells #[.string (bs (rdF q c l e).2.1), .int .i64 (((rdF q c l e).2.2 : Nat) : Int)] 169 (0, 0))] := by
 refine ct_of Try.func158 rfl rfl (fun w0 => ?_)
 show G _ _ [(0, _), (1, _), (2, _)] _ _
 refine G_seq ?_
 refine GH_start (Lq := []) (isq := []) (m := 27) mixedK rfl rfl ?_
 refine GH_take 1 rfl rfl rfl rfl (by kernel_rfl) (by kernel_rfl) (by kernel_rfl) (fun _ _ => (V_move rfl rfl)) ?_
 first
   | refine GH_take 2 rfl rfl rfl rfl (by kernel_rfl) (by kernel_rfl) (by kernel_rfl) (fun _ _ => (V_nilCheck rfl rfl)) ?_
   | refine GH_take 2 rfl rfl rfl rfl (by kernel_rfl) (by kernel_rfl) (by kernel_rfl) (fun _ _ => (V_nilCheckF rfl rfl)) ?_
 refine GH_take 3 rfl rfl rfl rfl (by kernel_rfl) (by kernel_rfl) (by kernel_rfl) (fun _ _ => (V_fieldAddr (fo := 1) rfl Try.underlying67 rfl infWireW_9 rfl rfl rfl)) ?_
 refine GH_take 5 rfl rfl rfl rfl (by kernel_rfl) (by kernel_rfl) (by kernel_rfl) (fun _ _ => (V_move rfl rfl)) ?_
 first
   | refine GH_take 6 rfl rfl rfl rfl (by kernel_rfl) (by kernel_rfl) (by kernel_rfl) (fun _ _ => (V_nilCheck rfl rfl)) ?_
   | refine GH_take 6 rfl rfl rfl rfl (by kernel_rfl) (by kernel_rfl) (by kernel_rfl) (fun _ _ => (V_nilCheckF rfl rfl)) ?_
 refine GH_take 7 rfl rfl rfl rfl (by kernel_rfl) (by kernel_rfl) (by kernel_rfl) (fun _ _ => (V_fieldAddr (fo := 2) rfl Try.underlying67 rfl infWireW_9 rfl rfl rfl)) ?_
 refine GH_take 9 rfl rfl rfl rfl (by kernel_rfl) (by kernel_rfl) (by kernel_rfl) (fun _ _ => (V_move rfl rfl)) ?_
 first
   | refine GH_take 10 rfl rfl rfl rfl (by kernel_rfl) (by kernel_rfl) (by kernel_rfl) (fun _ _ => (V_nilCheck rfl rfl)) ?_
   | refine GH_take 10 rfl rfl rfl rfl (by kernel_rfl) (by kernel_rfl) (by kernel_rfl) (fun _ _ => (V_nilCheckF rfl rfl)) ?_
 refine GH_take 11 rfl rfl rfl rfl (by kernel_rfl) (by kernel_rfl) (by kernel_rfl) (fun _ _ => (V_fieldAddr (fo := 3) rfl Try.underlying67 rfl infWireW_9 rfl rfl rfl)) ?_
 refine GH_take 13 rfl rfl rfl rfl (by kernel_rfl) (by kernel_rfl) (by kernel_rfl) (fun _ _ => (V_move rfl rfl)) ?_
 first
   | refine GH_take 14 rfl rfl rfl rfl (by kernel_rfl) (by kernel_rfl) (by kernel_rfl) (fun _ _ => (V_nilCheck rfl rfl)) ?_
   | refine GH_take 14 rfl rfl rfl rfl (by kernel_rfl) (by kernel_rfl) (by kernel_rfl) (fun _ _ => (V_nilCheckF rfl rfl)) ?_
 refine GH_take 15 rfl rfl rfl rfl (by kernel_rfl) (by kernel_rfl) (by kernel_rfl) (fun _ _ => (V_fieldAddr (fo := 4) rfl Try.underlying67 rfl infWireW_9 rfl rfl rfl)) ?_
 refine GH_take 17 rfl rfl rfl rfl (by kernel_rfl) (by kernel_rfl) (by kernel_rfl) (fun _ _ => (V_move rfl rfl)) ?_
 first
   | refine GH_take 18 rfl rfl rfl rfl (by kernel_rfl) (by kernel_rfl) (by kernel_rfl) (fun _ _ => (V_nilCheck rfl rfl)) ?_
   | refine GH_take 18 rfl rfl rfl rfl (by kernel_rfl) (by kernel_rfl) (by kernel_rfl) (fun _ _ => (V_nilCheckF rfl rfl)) ?_
 refine GH_take 19 rfl rfl rfl rfl (by kernel_rfl) (by kernel_rfl) (by kernel_rfl) (fun _ _ => (V_fieldAddr (fo := 5) rfl Try.underlying67 rfl infWireW_9 rfl rfl rfl)) ?_
 refine GH_take 21 rfl rfl rfl rfl (by kernel_rfl) (by kernel_rfl) (by kernel_rfl) (fun _ _ => (V_move rfl rfl)) ?_
 first
   | refine GH_take 22 rfl rfl rfl rfl (by kernel_rfl) (by kernel_rfl) (by kernel_rfl) (fun _ _ => (V_nilCheck rfl rfl)) ?_
   | refine GH_take 22 rfl rfl rfl rfl (by kernel_rfl) (by kernel_rfl) (by kernel_rfl) (fun _ _ => (V_nilCheckF rfl rfl)) ?_
 refine GH_take 23 rfl rfl rfl rfl (by kernel_rfl) (by kernel_rfl) (by kernel_rfl) (fun _ _ => (V_fieldAddr (fo := 6) rfl Try.underlying67 rfl infWireW_9 rfl rfl rfl)) ?_
 refine GH_all [0] (by kernel_rfl) (by decide) ?_
 refine (And.intro ?_ trivial)
 · skip
   refine GHop_new rfl rfl rfl rfl (N_map rfl) [] (fun _ => ⟨_, rfl⟩) (fun b10 => ?_)
   refine GH_inserts (m := 6) (F := #[true, true, true, true, true, true, true, true, true, true, true, true, true, true, true, true, true, true, true, true, true, true, true, true, true, false, false]) (l1 := []) (q := .i32) Try.underlying288 Try.underlying21 (InsAll_cons 4 rfl rfl rfl rfl rfl rfl rfl (InsAll_cons 8 rfl rfl rfl rfl rfl rfl rfl (InsAll_cons 12 rfl rfl rfl rfl rfl rfl rfl (InsAll_cons 16 rfl rfl rfl rfl rfl rfl rfl (InsAll_cons 20 rfl rfl rfl rfl rfl rfl rfl (InsAll_cons 24 rfl rfl rfl rfl rfl rfl rfl InsAll_nil)))))) rfl (by simp only [List.map_cons, List.map_nil]; decide) (by simp only [List.map_cons, List.map_nil]; decide) (by kernel_rfl) ?_
   intro dn10 hdn10
   show GH _ _ _ _ _ _ _ [_, _, _] _
   refine GH_take 25 rfl rfl rfl rfl (by kernel_rfl) (by kernel_rfl) (by kernel_rfl) (fun _ _ => (V_move rfl rfl)) ?_
   refine GH_take 26 rfl rfl rfl rfl (by kernel_rfl) (by kernel_rfl) (by kernel_rfl) (fun _ _ => (V_assign rfl rfl)) ?_
   refine GH_done (by kernel_rfl) ?_
   refine G_seq ?_
   refine GH_start (Lq := []) (isq := []) (m := 39) mixedK rfl rfl ?_
   refine GH_take 1 rfl rfl rfl rfl (by kernel_rfl) (by kernel_rfl) (by kernel_rfl) (fun _ _ => (V_move rfl rfl)) ?_
   first
     | refine GH_take 2 rfl rfl rfl rfl (by kernel_rfl) (by kernel_rfl) (by kernel_rfl) (fun _ _ => (V_nilCheck rfl rfl)) ?_
     | refine GH_take 2 rfl rfl rfl rfl (by kernel_rfl) (by kernel_rfl) (by kernel_rfl) (fun _ _ => (V_nilCheckF rfl rfl)) ?_
   refine GH_take 3 rfl rfl rfl rfl (by kernel_rfl) (by kernel_rfl) (by kernel_rfl) (fun _ _ => (V_fieldAddr (fo := 7) rfl Try.underlying67 rfl infWireW_3 rfl rfl rfl)) ?_
   refine GH_take 5 rfl rfl rfl rfl (by kernel_rfl) (by kernel_rfl) (by kernel_rfl) (fun _ _ => (V_move rfl rfl)) ?_
   first
     | refine GH_take 6 rfl rfl rfl rfl (by kernel_rfl) (by kernel_rfl) (by kernel_rfl) (fun _ _ => (V_nilCheck rfl rfl)) ?_
     | refine GH_take 6 rfl rfl rfl rfl (by kernel_rfl) (by kernel_rfl) (by kernel_rfl) (fun _ _ => (V_nilCheckF rfl rfl)) ?_
   refine GH_take 7 rfl rfl rfl rfl (by kernel_rfl) (by kernel_rfl) (by kernel_rfl) (fun _ _ => (V_fieldAddr (fo := 8) rfl Try.underlying67 rfl infWireW_3 rfl rfl rfl)) ?_
   refine GH_take 9 rfl rfl rfl rfl (by kernel_rfl) (by kernel_rfl) (by kernel_rfl) (fun _ _ => (V_move rfl rfl)) ?_
   first
     | refine GH_take 10 rfl rfl rfl rfl (by kernel_rfl) (by kernel_rfl) (by kernel_rfl) (fun _ _ => (V_nilCheck rfl rfl)) ?_
     | refine GH_take 10 rfl rfl rfl rfl (by kernel_rfl) (by kernel_rfl) (by kernel_rfl) (fun _ _ => (V_nilCheckF rfl rfl)) ?_
   refine GH_take 11 rfl rfl rfl rfl (by kernel_rfl) (by kernel_rfl) (by kernel_rfl) (fun _ _ => (V_fieldAddr (fo := 9) rfl Try.underlying67 rfl infWireW_3 rfl rfl rfl)) ?_
   refine GH_take 13 rfl rfl rfl rfl (by kernel_rfl) (by kernel_rfl) (by kernel_rfl) (fun _ _ => (V_move rfl rfl)) ?_
   first
     | refine GH_take 14 rfl rfl rfl rfl (by kernel_rfl) (by kernel_rfl) (by kernel_rfl) (fun _ _ => (V_nilCheck rfl rfl)) ?_
     | refine GH_take 14 rfl rfl rfl rfl (by kernel_rfl) (by kernel_rfl) (by kernel_rfl) (fun _ _ => (V_nilCheckF rfl rfl)) ?_
   refine GH_take 15 rfl rfl rfl rfl (by kernel_rfl) (by kernel_rfl) (by kernel_rfl) (fun _ _ => (V_fieldAddr (fo := 10) rfl Try.underlying67 rfl infWireW_3 rfl rfl rfl)) ?_
   refine GH_take 17 rfl rfl rfl rfl (by kernel_rfl) (by kernel_rfl) (by kernel_rfl) (fun _ _ => (V_move rfl rfl)) ?_
   first
     | refine GH_take 18 rfl rfl rfl rfl (by kernel_rfl) (by kernel_rfl) (by kernel_rfl) (fun _ _ => (V_nilCheck rfl rfl)) ?_
     | refine GH_take 18 rfl rfl rfl rfl (by kernel_rfl) (by kernel_rfl) (by kernel_rfl) (fun _ _ => (V_nilCheckF rfl rfl)) ?_
   refine GH_take 19 rfl rfl rfl rfl (by kernel_rfl) (by kernel_rfl) (by kernel_rfl) (fun _ _ => (V_fieldAddr (fo := 11) rfl Try.underlying67 rfl infWireW_3 rfl rfl rfl)) ?_
   refine GH_take 21 rfl rfl rfl rfl (by kernel_rfl) (by kernel_rfl) (by kernel_rfl) (fun _ _ => (V_move rfl rfl)) ?_
   first
     | refine GH_take 22 rfl rfl rfl rfl (by kernel_rfl) (by kernel_rfl) (by kernel_rfl) (fun _ _ => (V_nilCheck rfl rfl)) ?_
     | refine GH_take 22 rfl rfl rfl rfl (by kernel_rfl) (by kernel_rfl) (by kernel_rfl) (fun _ _ => (V_nilCheckF rfl rfl)) ?_
   refine GH_take 23 rfl rfl rfl rfl (by kernel_rfl) (by kernel_rfl) (by kernel_rfl) (fun _ _ => (V_fieldAddr (fo := 12) rfl Try.underlying67 rfl infWireW_3 rfl rfl rfl)) ?_
   refine GH_take 25 rfl rfl rfl rfl (by kernel_rfl) (by kernel_rfl) (by kernel_rfl) (fun _ _ => (V_move rfl rfl)) ?_
   first
     | refine GH_take 26 rfl rfl rfl rfl (by kernel_rfl) (by kernel_rfl) (by kernel_rfl) (fun _ _ => (V_nilCheck rfl rfl)) ?_
     | refine GH_take 26 rfl rfl rfl rfl (by kernel_rfl) (by kernel_rfl) (by kernel_rfl) (fun _ _ => (V_nilCheckF rfl rfl)) ?_
   refine GH_take 27 rfl rfl rfl rfl (by kernel_rfl) (by kernel_rfl) (by kernel_rfl) (fun _ _ => (V_fieldAddr (fo := 13) rfl Try.underlying67 rfl infWireW_3 rfl rfl rfl)) ?_
   refine GH_take 29 rfl rfl rfl rfl (by kernel_rfl) (by kernel_rfl) (by kernel_rfl) (fun _ _ => (V_move rfl rfl)) ?_
   first
     | refine GH_take 30 rfl rfl rfl rfl (by kernel_rfl) (by kernel_rfl) (by kernel_rfl) (fun _ _ => (V_nilCheck rfl rfl)) ?_
     | refine GH_take 30 rfl rfl rfl rfl (by kernel_rfl) (by kernel_rfl) (by kernel_rfl) (fun _ _ => (V_nilCheckF rfl rfl)) ?_
   refine GH_take 31 rfl rfl rfl rfl (by kernel_rfl) (by kernel_rfl) (by kernel_rfl) (fun _ _ => (V_fieldAddr (fo := 14) rfl Try.underlying67 rfl infWireW_3 rfl rfl rfl)) ?_
   refine GH_take 33 rfl rfl rfl rfl (by kernel_rfl) (by kernel_rfl) (by kernel_rfl) (fun _ _ => (V_move rfl rfl)) ?_
   first
     | refine GH_take 34 rfl rfl rfl rfl (by kernel_rfl) (by kernel_rfl) (by kernel_rfl) (fun _ _ => (V_nilCheck rfl rfl)) ?_
     | refine GH_take 34 rfl rfl rfl rfl (by kernel_rfl) (by kernel_rfl) (by kernel_rfl) (fun _ _ => (V_nilCheckF rfl rfl)) ?_
   refine GH_take 35 rfl rfl rfl rfl (by kernel_rfl) (by kernel_rfl) (by kernel_rfl) (fun _ _ => (V_fieldAddr (fo := 15) rfl Try.underlying67 rfl infWireW_3 rfl rfl rfl)) ?_
   refine GH_all [0] (by kernel_rfl) (by decide) ?_
   refine (And.intro ?_ trivial)
   · skip
     refine GHop_new rfl rfl rfl rfl (N_map rfl) [] (fun _ => ⟨_, rfl⟩) (fun b30 => ?_)
     refine GH_inserts (m := 9) (F := #[true, true, true, true, true, true, true, true, true, true, true, true, true, true, true, true, true, true, true, true, true, true, true, true, true, true, true, true, true, true, true, true, true, true, true, true, true, false, false]) (l1 := []) (q := .i32) Try.underlying289 Try.underlying21 (InsAll_cons 4 rfl rfl rfl rfl rfl rfl rfl (InsAll_cons 8 rfl rfl rfl rfl rfl rfl rfl (InsAll_cons 12 rfl rfl rfl rfl rfl rfl rfl (InsAll_cons 16 rfl rfl rfl rfl rfl rfl rfl (InsAll_cons 20 rfl rfl rfl rfl rfl rfl rfl (InsAll_cons 24 rfl rfl rfl rfl rfl rfl rfl (InsAll_cons 28 rfl rfl rfl rfl rfl rfl rfl (InsAll_cons 32 rfl rfl rfl rfl rfl rfl rfl (InsAll_cons 36 rfl rfl rfl rfl rfl rfl rfl InsAll_nil))))))))) rfl (by simp only [List.map_cons, List.map_nil]; decide) (by simp only [List.map_cons, List.map_nil]; decide) (by kernel_rfl) ?_
     intro dn30 hdn30
     show GH _ _ _ _ _ _ _ [_, _, _, _] _
     refine GH_take 37 rfl rfl rfl rfl (by kernel_rfl) (by kernel_rfl) (by kernel_rfl) (fun _ _ => (V_move rfl rfl)) ?_
     refine GH_take 38 rfl rfl rfl rfl (by kernel_rfl) (by kernel_rfl) (by kernel_rfl) (fun _ _ => (V_assign rfl rfl)) ?_
     refine GH_done (by kernel_rfl) ?_
     refine G_seq ?_
     refine G_seq ?_
     rcases letter3 c with ⟨i, htx, hnx, hb1, hb2⟩ | ⟨i, htx, hnx, hb1, hb2⟩ | ⟨htx, hnx⟩
     · skip
       refine G_region (l := [0, 1, 2, 3]) rfl ?_
       refine G_val rfl rfl rfl rfl (V_move rfl rfl) ?_
       refine G_val rfl rfl rfl rfl (V_move rfl rfl) ?_
       refine G_val rfl rfl rfl rfl (V_lookup rfl Try.underlying288 Try.underlying21 rfl rfl rfl (mem_at 2 rfl) (tfind (b := bq) htx hdn10).choose_spec) ?_
       refine G_val rfl rfl rfl rfl (V_assign rfl rfl) ?_
       refine G_done ?_
       refine G_seq ?_
       refine G_region (l := [0, 1]) rfl ?_
       refine G_val rfl rfl rfl rfl (V_move rfl rfl) ?_
       refine G_val rfl rfl rfl rfl (V_pneqN rfl Try.underlying244 rfl rfl) ?_
       refine G_done ?_
       refine G_then rfl ?_
       refine G_seq ?_
       refine G_region (l := [0, 1, 2]) rfl ?_
       refine G_val rfl rfl rfl rfl (V_move rfl rfl) ?_
       refine G_val rfl rfl rfl rfl (V_move rfl rfl) ?_
       refine G_call (L2 := [_, _]) rfl rfl rfl rfl rfl rfl Try.call171 (r_text _ _ _ l e hl he _ i (by have : (rqCells q).toArray.size = 17 := rfl; omega)) [2, 2] [0] rfl rfl ?_
       rintro v post ⟨rfl, rfl⟩
       show G _ _ _ [_, _, _, _] _
       refine G_done ?_
       refine G_ret (post := [_, _]) Try.func158 rfl RVs_nil [0, 0] rfl ?_
       dsimp only [packed]
       first
         | (rw [rdF_text l e htx, rqCells_setText _ i hb1 hb2]; exact ⟨rfl, rfl⟩)
         | (rw [rdF_num l e htx hnx, rqCells_setNum _ i hb1 hb2]; exact ⟨rfl, rfl⟩)
         | (rw [rdF_flag l e htx hnx, rqCells_setFlag]; exact ⟨rfl, rfl⟩)
     · skip
       refine G_region (l := [0, 1, 2, 3]) rfl ?_
       refine G_val rfl rfl rfl rfl (V_move rfl rfl) ?_
       refine G_val rfl rfl rfl rfl (V_move rfl rfl) ?_
       refine G_val rfl rfl rfl rfl (V_lookupN rfl Try.underlying288 Try.underlying21 rfl infWireW_244 rfl rfl rfl (mem_at 2 rfl) (tfindN (b := bq) htx hdn10)) ?_
       refine G_val rfl rfl rfl rfl (V_assign rfl rfl) ?_
       refine G_done ?_
       refine G_seq ?_
       refine G_region (l := [0, 1]) rfl ?_
       refine G_val rfl rfl rfl rfl (V_move rfl rfl) ?_
       refine G_val rfl rfl rfl rfl (V_pneqN rfl Try.underlying244 rfl rfl) ?_
       refine G_done ?_
       refine G_else rfl ?_
       refine G_skip ?_
       refine G_seq ?_
       refine G_seq ?_
       refine G_region (l := [0, 1, 2, 3]) rfl ?_
       refine G_val rfl rfl rfl rfl (V_move rfl rfl) ?_
       refine G_val rfl rfl rfl rfl (V_move rfl rfl) ?_
       refine G_val rfl rfl rfl rfl (V_lookup rfl Try.underlying289 Try.underlying21 rfl rfl rfl (mem_at 1 rfl) (nfind (b := bq) hnx hdn30).choose_spec) ?_
       refine G_val rfl rfl rfl rfl (V_assign rfl rfl) ?_
       refine G_done ?_
       refine G_seq ?_
       refine G_region (l := [0, 1]) rfl ?_
       refine G_val rfl rfl rfl rfl (V_move rfl rfl) ?_
       refine G_val rfl rfl rfl rfl (V_pneqN rfl Try.underlying176 rfl rfl) ?_
       refine G_done ?_
       refine G_then rfl ?_
       refine G_seq ?_
       refine G_region (l := [0, 1, 2]) rfl ?_
       refine G_val rfl rfl rfl rfl (V_move rfl rfl) ?_
       refine G_val rfl rfl rfl rfl (V_move rfl rfl) ?_
       refine G_call (L2 := [_, _]) rfl rfl rfl rfl rfl rfl Try.call157 (r_num _ _ _ l e hl he _ i (by have : (rqCells q).toArray.size = 17 := rfl; omega)) [2, 2] [0] rfl rfl ?_
       rintro v post ⟨rfl, rfl⟩
       show G _ _ _ [_, _, _, _] _
       refine G_done ?_
       refine G_ret (post := [_, _]) Try.func158 rfl RVs_nil [0, 0] rfl ?_
       dsimp only [packed]
       first
         | (rw [rdF_text l e htx, rqCells_setText _ i hb1 hb2]; exact ⟨rfl, rfl⟩)
         | (rw [rdF_num l e htx hnx, rqCells_setNum _ i hb1 hb2]; exact ⟨rfl, rfl⟩)
         | (rw [rdF_flag l e htx hnx, rqCells_setFlag]; exact ⟨rfl, rfl⟩)
     · skip
       refine G_region (l := [0, 1, 2, 3]) rfl ?_
       refine G_val rfl rfl rfl rfl (V_move rfl rfl) ?_
       refine G_val rfl rfl rfl rfl (V_move rfl rfl) ?_
       refine G_val rfl rfl rfl rfl (V_lookupN rfl Try.underlying288 Try.underlying21 rfl infWireW_244 rfl rfl rfl (mem_at 2 rfl) (tfindN (b := bq) htx hdn10)) ?_
       refine G_val rfl rfl rfl rfl (V_assign rfl rfl) ?_
       refine G_done ?_
       refine G_seq ?_
       refine G_region (l := [0, 1]) rfl ?_
       refine G_val rfl rfl rfl rfl (V_move rfl rfl) ?_
       refine G_val rfl rfl rfl rfl (V_pneqN rfl Try.underlying244 rfl rfl) ?_
       refine G_done ?_
       refine G_else rfl ?_
       refine G_skip ?_
       refine G_seq ?_
       refine G_seq ?_
       refine G_region (l := [0, 1, 2, 3]) rfl ?_
       refine G_val rfl rfl rfl rfl (V_move rfl rfl) ?_
       refine G_val rfl rfl rfl rfl (V_move rfl rfl) ?_
       refine G_val rfl rfl rfl rfl (V_lookupN rfl Try.underlying289 Try.underlying21 rfl infWireW_176 rfl rfl rfl (mem_at 1 rfl) (nfindN (b := bq) hnx hdn30)) ?_
       refine G_val rfl rfl rfl rfl (V_assign rfl rfl) ?_
       refine G_done ?_
       refine G_seq ?_
       refine G_region (l := [0, 1]) rfl ?_
       refine G_val rfl rfl rfl rfl (V_move rfl rfl) ?_
       refine G_val rfl rfl rfl rfl (V_pneqN rfl Try.underlying176 rfl rfl) ?_
       refine G_done ?_
       refine G_else rfl ?_
       refine G_skip ?_
       refine G_region (l := [0, 1, 2, 3, 4]) rfl ?_
       refine G_val rfl rfl rfl rfl (V_move rfl rfl) ?_
       refine G_val rfl rfl rfl rfl (V_move rfl rfl) ?_
       first
         | refine G_val rfl rfl rfl rfl (V_nilCheck rfl rfl) ?_
         | refine G_val rfl rfl rfl rfl (V_nilCheckF rfl rfl) ?_
       refine G_val rfl rfl rfl rfl (V_fieldAddr (fo := 16) rfl Try.underlying67 rfl infWireW_4 rfl rfl rfl) ?_
       refine G_call (L2 := [_, _]) rfl rfl rfl rfl rfl rfl Try.call172 (r_flag _ _ _ l e hl he (rqCells q).toArray 16 (by show 16 < 17; omega)) [2, 2] [0] rfl rfl ?_
       rintro v post ⟨rfl, rfl⟩
       show G _ _ _ [_, _, _, _] _
       refine G_done ?_
       refine G_end (post := [_, _]) Try.func158 rfl RVs_nil [0, 0] rfl ?_
       dsimp only [packed]
       first
         | (rw [rdF_text l e htx, rqCells_setText _ i hb1 hb2]; exact ⟨rfl, rfl⟩)
         | (rw [rdF_num l e htx hnx, rqCells_setNum _ i hb1 hb2]; exact ⟨rfl, rfl⟩)
         | (rw [rdF_flag l e htx hnx, rqCells_setFlag]; exact ⟨rfl, rfl⟩)

set_option maxRecDepth 100000 in
set_option maxHeartbeats 1000000 in
theorem w_all (bc bq : Nat) (p : Value) (u : Sl) (hp : UsedOr bc p) (hu : Txt u []) (q : Rq) (hm : mayQ q = true) :
    Ct Try.prog 137 [.pointer (some ⟨bc, 0, none⟩), .pointer (some ⟨bq, 0, none⟩)] [(some bq, .cells (rqCells q).toArray 67 (0, 0))] [(some bc, .cells #[p, u.v 0, .pointer none, .bool false] 236 (0, 0)), (u.ob, .cells u.cs 5 u.fz)] fun v post => v = .tuple #[] ∧ ∃ u1, Txt u1 (encQ q) ∧ post = [(some bc, .cells #[.pointer (some ⟨bc, 0, none⟩), u1.v (encQ q).length, .pointer none, .bool false] 236 (0, 0)), (u1.ob, .cells u1.cs 5 u1.fz)] := by
 obtain ⟨⟨hk1, hk2⟩, hfk⟩ := may_fok hm
 have hkl := chainI_len q.kind (by omega) (by omega)
 have hfl := fieldsK_len q.kind
 refine ct_of Try.func137 rfl rfl (fun w0 => ?_)
 show G _ _ [(0, _), (1, _)] _ _
 refine G_seq ?_
 refine G_region (l := [0, 1, 2, 3, 4]) rfl ?_
 refine G_val rfl rfl rfl rfl (V_move rfl rfl) ?_
 refine G_val rfl rfl rfl rfl (V_move rfl rfl) ?_
 first
   | refine G_val rfl rfl rfl rfl (V_nilCheck rfl rfl) ?_
   | refine G_val rfl rfl rfl rfl (V_nilCheckF rfl rfl) ?_
 refine G_val rfl rfl rfl rfl (V_fieldAddr (fo := 0) rfl Try.underlying67 rfl infWireW_3 rfl rfl rfl) ?_
 refine G_call (L2 := []) rfl rfl rfl rfl rfl rfl Try.call157 (w_num _ _ p u [] hp hu (by simp) _ 0 q.kind ⟨by omega, by omega⟩ rfl) [0, 0] [0] rfl rfl ?_
 rintro v post ⟨rfl, u1, hu1, rfl⟩
 show G _ _ _ [_, _] _
 refine G_done ?_
 refine G_seq ?_
 refine G_region (l := [0, 1, 2, 3, 4, 5]) rfl ?_
 refine G_val rfl rfl rfl rfl (V_move rfl rfl) ?_
 first
   | refine G_val rfl rfl rfl rfl (V_nilCheck rfl rfl) ?_
   | refine G_val rfl rfl rfl rfl (V_nilCheckF rfl rfl) ?_
 refine G_val rfl rfl rfl rfl (V_fieldAddr (fo := 0) rfl Try.underlying67 rfl infWireW_3 rfl rfl rfl) ?_
 refine G_val rfl rfl rfl rfl (V_load1 rfl rfl (mem_at 0 rfl) rfl Try.underlying3 rfl) ?_
 refine G_call (L2 := [_, _]) rfl rfl rfl rfl rfl rfl Try.call154 (msg_fields _) [] [] rfl rfl ?_
 rintro v post ⟨rfl, rfl⟩
 show G _ _ _ [_, _] _
 refine G_new rfl rfl rfl rfl (N_range rfl Try.underlying9 rfl) (fun b16 => ?_)
 refine G_done ?_
 refine G_block ?_
 refine G_sub ?he2 [0, 0, 0] ?hl2 (G_loop (X := Nat × Sl) (fun x => match x with | ⟨k, u⟩ => k ≤ (fieldsK q.kind).length ∧ Txt u (chainI q.kind ++ encFs q ((fieldsK q.kind).take k))) (fun x => match x with | ⟨k, u⟩ => (fieldsK q.kind).length - k) (fun x => match x with | ⟨k, u⟩ => [(0, .pointer (some ⟨bc, 0, none⟩)), (1, .pointer (some ⟨bq, 0, none⟩)), (16, .pointer (some ⟨b16, 0, none⟩))]) (fun x => match x with | ⟨k, u⟩ => [(some b16, .stringIter (bs (fieldsK q.kind)) k), (some bc, .cells #[.pointer (some ⟨bc, 0, none⟩), u.v (chainI q.kind ++ encFs q ((fieldsK q.kind).take k)).length, .pointer none, .bool false] 236 (0, 0)), (u.ob, .cells u.cs 5 u.fz)]) ?round2 (0, u1) ?h02)
 case he2 => exact (And.intro rfl (And.intro rfl (And.intro rfl trivial)))
 case hl2 => exact ⟨_, by simp [encFs]; rfl⟩
 case h02 => exact ⟨Nat.zero_le _, by simpa [encFs] using hu1⟩
 case round2 =>
  intro x hJ ih
  try dsimp only at hJ ih
  obtain ⟨k, u⟩ := x
  try dsimp only at hJ ih
  obtain ⟨hk, hux⟩ := hJ
  show G _ _ [(0, .pointer (some ⟨bc, 0, none⟩)), (1, .pointer (some ⟨bq, 0, none⟩)), (16, .pointer (some ⟨b16, 0, none⟩))] [(some b16, .stringIter (bs (fieldsK q.kind)) k), (some bc, .cells #[.pointer (some ⟨bc, 0, none⟩), u.v (chainI q.kind ++ encFs q ((fieldsK q.kind).take k)).length, .pointer none, .bool false] 236 (0, 0)), (u.ob, .cells u.cs 5 u.fz)] _
  refine G_seq ?_
  refine G_region (l := [0, 1]) rfl ?_
  rcases Nat.lt_or_ge k (fieldsK q.kind).length with hlt | hlt
  · skip
    refine G_putV (l1 := []) (L' := [_, _, _]) rfl rfl rfl rfl rfl (P_next rfl rfl (mem_at 0 rfl) hlt (fieldsK_ascii q.kind k hlt)) rfl ?_
    refine G_val rfl rfl rfl rfl (V_extract rfl rfl rfl) ?_
    refine G_done ?_
    refine G_seq ?_
    refine G_then rfl ?_
    refine G_skip ?_
    refine G_block ?_
    refine G_seq ?_
    refine G_region (l := [0, 1]) rfl ?_
    refine G_val rfl rfl rfl rfl (V_extract rfl rfl rfl) ?_
    refine G_val rfl rfl rfl rfl (V_assign rfl rfl) ?_
    refine G_done ?_
    have hen := encFs_len (q := q) ((fieldsK q.kind).take k) (fun c hc => hfk c (List.mem_of_mem_take hc))
    have hkl3 : ((fieldsK q.kind).take k).length ≤ 7 := by simp; omega
    refine G_region (l := [0, 1, 2, 3]) rfl ?_
    refine G_val rfl rfl rfl rfl (V_move rfl rfl) ?_
    refine G_val rfl rfl rfl rfl (V_move rfl rfl) ?_
    refine G_val rfl rfl rfl rfl (V_move rfl rfl) ?_
    refine G_call (L2 := [_]) rfl rfl rfl rfl rfl rfl Try.call158 (w_field _ _ _ _ _ (.inr rfl) hux (by simp only [List.length_append]; omega) q _ (hfk _ (getD_mem hlt))) [1, 1] [0] rfl rfl ?_
    rintro v post ⟨rfl, u1, hu1, rfl⟩
    show G _ _ _ [_, _, _] _
    rw [List.append_assoc, ← encFs_next q (fieldsK q.kind) k hlt] at hu1 ⊢
    refine G_done ?_
    refine G_inBlock ?_
    refine G_sub ?_ [2, 0, 0] ?_ (ih (k + 1, u1) ?_ ?_)
    · (refine (And.intro ?_ (And.intro ?_ (And.intro ?_ trivial))) <;> first | rfl | exact slot_int (by omega) | exact slot_int (by simp))
    · exact ⟨_, rfl⟩
    · exact ⟨hlt, hu1⟩
    · (first | omega | (dsimp only; omega))
  refine G_val rfl rfl rfl rfl (V_nextE rfl rfl (mem_at 0 rfl) hlt) ?_
  refine G_val rfl rfl rfl rfl (V_extract rfl rfl rfl) ?_
  refine G_done ?_
  refine G_seq ?_
  refine G_else rfl ?_
  refine G_exit rfl ?_
  refine G_end (post := [_, _]) Try.func137 rfl RVs_nil [1, 1] rfl ?_
  dsimp only [packed]
  rw [List.take_of_length_le hlt] at hux ⊢; exact ⟨rfl, u, hux, rfl⟩


theorem dk_bd (l : List UInt8) : (((dk l).1 : Nat) : Int) ≤ 1099511627776 ∧ (dk l).2.1.length ≤ l.length ∧ (dk l).2.2 ≤ 1000 := rdInt_bd 1099511627776 l 0 (by omega) (by omega)
theorem set_kind (k : Int) : (rqCells (rqBare 0)).toArray.setIfInBounds 0 (.int .i64 k) = (rqCells (rqBare k)).toArray := rfl
theorem rdFs_zero (q : Rq) (cs l : List UInt8) (e : Nat) : rdFs q (cs.take 0) l e = (q, l, e) := rfl
theorem r_kind (bc bq br : Nat) (l : List UInt8) (hl : l.length ≤ 140737488350000) : Ct Try.prog 157 [.pointer (some ⟨bc, 0, none⟩), .pointer (some ⟨bq, 0, none⟩)] [(some bc, .cells #[.pointer none, .slice none 0 0, .pointer (some ⟨br, 0, none⟩), .bool true] 236 (0, 0))] [(some bq, .cells (rqCells (rqBare 0)).toArray 67 (0, 0)), (some br, .cells #[.string (bs l), .int .i64 ((0 : Nat) : Int)] 169 (0, 0))] (fun v post => v = .tuple #[] ∧ post = [(some bq, .cells (rqCells (rqBare (((dk l).1 : Nat) : Int))).toArray 67 (0, 0)), (some br, .cells #[.string (bs (dk l).2.1), .int .i64 (((dk l).2.2 : Nat) : Int)] 169 (0, 0))]) := by
  rw [← set_kind]
  unfold dk
  exact r_num bc bq br l 0 hl (by omega) _ 0 (Nat.zero_lt_succ _)
attribute [local irreducible] dk

set_option maxRecDepth 100000 in
set_option maxHeartbeats 1000000 in
theorem r_all (bc bq br : Nat) (l : List UInt8) (hl : l.length ≤ 140737488350000) :
    Ct Try.prog 137 [.pointer (some ⟨bc, 0, none⟩), .pointer (some ⟨bq, 0, none⟩)] [(some bc, .cells #[.pointer none, .slice none 0 0, .pointer (some ⟨br, 0, none⟩), .bool true] 236 (0, 0))] [(some bq, .cells (rqCells (rqBare 0)).toArray 67 (0, 0)), (some br, .cells #[.string (bs l), .int .i64 ((0 : Nat) : Int)] 169 (0, 0))] fun v post => v = .tuple #[] ∧ post = [(some bq, .cells (rqCells (dfs l).1).toArray 67 (0, 0)), (some br, .cells #[.string (bs (dfs l).2.1), .int .i64 (((dfs l).2.2 : Nat) : Int)] 169 (0, 0))] := by
 have hkb := dk_bd l
 refine ct_of Try.func137 rfl rfl (fun w0 => ?_)
 show G _ _ [(0, _), (1, _)] _ _
 refine G_seq ?_
 refine G_region (l := [0, 1, 2, 3, 4]) rfl ?_
 refine G_val rfl rfl rfl rfl (V_move rfl rfl) ?_
 refine G_val rfl rfl rfl rfl (V_move rfl rfl) ?_
 first
   | refine G_val rfl rfl rfl rfl (V_nilCheck rfl rfl) ?_
   | refine G_val rfl rfl rfl rfl (V_nilCheckF rfl rfl) ?_
 refine G_val rfl rfl rfl rfl (V_fieldAddr (fo := 0) rfl Try.underlying67 rfl infWireW_3 rfl rfl rfl) ?_
 refine G_call (L2 := []) rfl rfl rfl rfl rfl rfl Try.call157 (r_kind _ _ _ l hl) [0, 0] [0] rfl rfl ?_
 rintro v post ⟨rfl, rfl⟩
 show G _ _ _ [_, _] _
 refine G_done ?_
 refine G_seq ?_
 refine G_region (l := [0, 1, 2, 3, 4, 5]) rfl ?_
 refine G_val rfl rfl rfl rfl (V_move rfl rfl) ?_
 first
   | refine G_val rfl rfl rfl rfl (V_nilCheck rfl rfl) ?_
   | refine G_val rfl rfl rfl rfl (V_nilCheckF rfl rfl) ?_
 refine G_val rfl rfl rfl rfl (V_fieldAddr (fo := 0) rfl Try.underlying67 rfl infWireW_3 rfl rfl rfl) ?_
 refine G_val rfl rfl rfl rfl (V_load1 rfl rfl (mem_at 1 rfl) rfl Try.underlying3 rfl) ?_
 refine G_call (L2 := [_, _]) rfl rfl rfl rfl rfl rfl Try.call154 (msg_fields _) [] [] rfl rfl ?_
 rintro v post ⟨rfl, rfl⟩
 show G _ _ _ [_, _] _
 refine G_new rfl rfl rfl rfl (N_range rfl Try.underlying9 rfl) (fun b16 => ?_)
 refine G_done ?_
 refine G_block ?_
 refine G_sub ?he2 [0, 0, 0] ?hl2 (G_loop (X := Nat) (fun k => k ≤ (fieldsK (((dk l).1 : Nat) : Int)).length) (fun k => (fieldsK (((dk l).1 : Nat) : Int)).length - k) (fun k => [(0, .pointer (some ⟨bc, 0, none⟩)), (1, .pointer (some ⟨bq, 0, none⟩)), (16, .pointer (some ⟨b16, 0, none⟩))]) (fun k => [(some b16, .stringIter (bs (fieldsK (((dk l).1 : Nat) : Int))) k), (some bq, .cells (rqCells (rdFs (rqBare (((dk l).1 : Nat) : Int)) ((fieldsK (((dk l).1 : Nat) : Int)).take k) (dk l).2.1 (dk l).2.2).1).toArray 67 (0, 0)), (some br, .cells #[.string (bs (rdFs (rqBare (((dk l).1 : Nat) : Int)) ((fieldsK (((dk l).1 : Nat) : Int)).take k) (dk l).2.1 (dk l).2.2).2.1), .int .i64 (((rdFs (rqBare (((dk l).1 : Nat) : Int)) ((fieldsK (((dk l).1 : Nat) : Int)).take k) (dk l).2.1 (dk l).2.2).2.2 : Nat) : Int)] 169 (0, 0))]) ?round2 0 ?h02)
 case he2 => exact (And.intro rfl (And.intro rfl (And.intro rfl trivial)))
 case hl2 => exact ⟨_, rfl⟩
 case h02 => exact Nat.zero_le _
 case round2 =>
  intro k hJ ih
  try dsimp only at hJ ih
  refine G_seq ?_
  refine G_region (l := [0, 1]) rfl ?_
  rcases Nat.lt_or_ge k (fieldsK (((dk l).1 : Nat) : Int)).length with hlt | hlt
  · skip
    refine G_putV (l1 := []) (L' := [_, _, _]) rfl rfl rfl rfl rfl (P_next rfl rfl (mem_at 0 rfl) hlt (fieldsK_ascii _ k hlt)) rfl ?_
    refine G_val rfl rfl rfl rfl (V_extract rfl rfl rfl) ?_
    refine G_done ?_
    refine G_seq ?_
    refine G_then rfl ?_
    refine G_skip ?_
    refine G_block ?_
    refine G_seq ?_
    refine G_region (l := [0, 1]) rfl ?_
    refine G_val rfl rfl rfl rfl (V_extract rfl rfl rfl) ?_
    refine G_val rfl rfl rfl rfl (V_assign rfl rfl) ?_
    refine G_done ?_
    have hst := rdFs_bd (rqBare (((dk l).1 : Nat) : Int)) (dk l).2.1 (dk l).2.2 hkb.2.2 (fieldsK (((dk l).1 : Nat) : Int)) k
    refine G_region (l := [0, 1, 2, 3]) rfl ?_
    refine G_val rfl rfl rfl rfl (V_move rfl rfl) ?_
    refine G_val rfl rfl rfl rfl (V_move rfl rfl) ?_
    refine G_val rfl rfl rfl rfl (V_move rfl rfl) ?_
    refine G_call (L2 := [_]) rfl rfl rfl rfl rfl rfl Try.call158 (r_field _ _ _ (rdFs (rqBare (((dk l).1 : Nat) : Int)) ((fieldsK (((dk l).1 : Nat) : Int)).take k) (dk l).2.1 (dk l).2.2).2.1 (rdFs (rqBare (((dk l).1 : Nat) : Int)) ((fieldsK (((dk l).1 : Nat) : Int)).take k) (dk l).2.1 (dk l).2.2).2.2 (by omega) (by omega) (rdFs (rqBare (((dk l).1 : Nat) : Int)) ((fieldsK (((dk l).1 : Nat) : Int)).take k) (dk l).2.1 (dk l).2.2).1 _) [1, 1] [0] rfl rfl ?_
    rintro v post ⟨rfl, rfl⟩
    show G _ _ _ [_, _, _] _
    rw [← rdFs_next _ (fieldsK (((dk l).1 : Nat) : Int)) k hlt]
    refine G_done ?_
    refine G_inBlock ?_
    refine G_sub ?_ [2, 0, 0] ?_ (ih (k + 1) ?_ ?_)
    · (refine (And.intro ?_ (And.intro ?_ (And.intro ?_ trivial))) <;> first | rfl | exact slot_int (by omega) | exact slot_int (by simp))
    · exact ⟨_, rfl⟩
    · exact hlt
    · (first | omega | (dsimp only; omega))
  refine G_val rfl rfl rfl rfl (V_nextE rfl rfl (mem_at 0 rfl) hlt) ?_
  refine G_val rfl rfl rfl rfl (V_extract rfl rfl rfl) ?_
  refine G_done ?_
  refine G_seq ?_
  refine G_else rfl ?_
  refine G_exit rfl ?_
  refine G_end (post := [_, _]) Try.func137 rfl RVs_nil [1, 1] rfl ?_
  dsimp only [packed]
  rw [List.take_of_length_le hlt]; exact ⟨rfl, rfl⟩

end
end Go.Proofs.Ytkekkalgebgokaa
