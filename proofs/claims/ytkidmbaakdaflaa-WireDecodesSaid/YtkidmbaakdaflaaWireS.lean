/- The walks of the document's wire.Encode and wire.Decode. -/
import Derived.Test.YtkidmbaakdaflaaWireR
import Derived.Test.YtkidmbaakdaflaaRMsgW
set_option linter.unusedSimpArgs false
set_option linter.unusedVariables false
namespace Go.Proofs.Ytkidmbaakdaflaa
open Go Go.RowKit

section
theorem infWireS_3 : Try.prog.info? 3 = some Try.t3 := by kernel_rfl
theorem infWireS_40 : Try.prog.info? 40 = some Try.t40 := by kernel_rfl
theorem infWireS_133 : Try.prog.info? 133 = some Try.t133 := by kernel_rfl
theorem plcWireS_40 : placesOf Try.prog (Try.prog.fieldsOf 40) = some [(0, 1), (1, 1), (2, 1), (3, 1), (4, 1), (5, 1), (6, 1), (7, 1), (8, 1), (9, 1), (10, 1), (11, 1), (12, 1), (13, 1), (14, 1), (15, 1), (16, 1)] := by kernel_rfl
theorem plcWireS_133 : placesOf Try.prog (Try.prog.fieldsOf 133) = some [(0, 1), (1, 1)] := by kernel_rfl

set_option maxRecDepth 100000 in
set_option maxHeartbeats 1000000 in
theorem rw_encode (q : Rq) (hq : RqOk q) :
    Ct Try.prog 24 [.agg (rqCells q).toArray] [] [] fun v post => v = wireE q ∧ post = [] := by
 have hfl := fieldsK_len q.kind
 refine ct_of Try.func24 rfl rfl (fun w0 => ?_)
 show G _ _ [(0, _)] _ _
 refine G_seq ?_
 refine G_region (l := [0, 1, 2]) rfl ?_
 refine G_new rfl rfl rfl rfl (N_boxA rfl rfl) (fun b1 => ?_)
 refine G_val rfl rfl rfl rfl (V_assign rfl rfl) ?_
 refine G_val rfl rfl rfl rfl (V_assign rfl rfl) ?_
 refine G_done ?_
 refine G_seq ?_
 refine G_seq ?_
 refine G_region (l := [0, 1, 2]) rfl ?_
 first
   | refine G_val rfl rfl rfl rfl (V_loadW (s := 17) rfl rfl (mem_at 0 rfl) Try.underlying40 rfl infWireS_40 rfl (by first | rfl | (simp [bcells_length, rqCells, rqCells, rqCells, rqCells, rqCells, rqCells]; done) | (simp [bcells_length, rqCells, rqCells, rqCells, rqCells, rqCells, rqCells]; omega) | (simp [bcells_length, *, rqCells, rqCells, rqCells, rqCells, rqCells, rqCells]; done))) ?_
   | refine G_val rfl rfl rfl rfl (V_loadA (s := 17) rfl rfl (mem_at 0 rfl) Try.underlying40 rfl infWireS_40 rfl rfl (by first | rfl | (simp [bcells_length, rqCells, rqCells, rqCells, rqCells, rqCells, rqCells]; done) | (simp [bcells_length, rqCells, rqCells, rqCells, rqCells, rqCells, rqCells]; omega) | (simp [bcells_length, *, rqCells, rqCells, rqCells, rqCells, rqCells, rqCells]; done))) ?_
 refine G_call (L2 := [_]) rfl rfl rfl rfl rfl rfl Try.call98 ((rmsg_may q hq).weaken (fun v post h => by rw [← mayQ_r] at h; exact h)) [] [] rfl rfl ?_
 rintro v post ⟨rfl, rfl⟩
 show G _ _ _ [_] _
 refine G_val rfl rfl rfl rfl (V_not rfl rfl) ?_
 refine G_done ?_
 refine G_if rfl (fun hc1 => ?_) (fun hc1 => ?_)
 · skip
   refine G_seq ?_
   refine G_region (l := [0, 1]) rfl ?_
   refine G_val rfl rfl rfl rfl (V_assign rfl rfl) ?_
   refine G_val rfl rfl rfl rfl (V_assign rfl rfl) ?_
   refine G_done ?_
   refine G_ret (post := []) Try.func24 rfl (RVs_cons (RV_tmp rfl) (RVs_cons (RV_tmp rfl) RVs_nil)) [] rfl ?_
   dsimp only [packed]
   first
     | exact ⟨(wireE_no (by assumption)).symm, rfl⟩
     | exact ⟨(wireE_long (by assumption) (by assumption)).symm, rfl⟩
     | exact ⟨(wireE_yes (by assumption) (by assumption)).symm, rfl⟩
 refine G_skip ?_
 refine G_seq ?_
 obtain ⟨⟨hk1, hk2⟩, hfk⟩ := may_fok (by simpa using hc1 : mayQ q = true)
 have hkl := chainI_len q.kind (by omega) (by omega)
 have hel := encQ_len (q := q) (by simpa using hc1)
 refine G_region (l := [0, 1, 2, 3]) rfl ?_
 refine G_val rfl rfl rfl rfl (V_fieldAddr (fo := 0) rfl Try.underlying40 rfl infWireS_3 rfl rfl rfl) ?_
 refine G_val rfl rfl rfl rfl (V_load1 rfl rfl (mem_at 0 rfl) rfl Try.underlying3 rfl) ?_
 refine G_call (L2 := [_]) rfl rfl rfl rfl rfl rfl Try.call76 (rw_num _ ⟨by omega, by omega⟩) [] [] rfl rfl ?_
 rintro v post ⟨rfl, rfl⟩
 show G _ _ _ [_] _
 refine G_val rfl rfl rfl rfl (V_assign rfl rfl) ?_
 refine G_done ?_
 refine G_seq ?_
 refine G_region (l := [0, 1, 2, 3]) rfl ?_
 refine G_val rfl rfl rfl rfl (V_fieldAddr (fo := 0) rfl Try.underlying40 rfl infWireS_3 rfl rfl rfl) ?_
 refine G_val rfl rfl rfl rfl (V_load1 rfl rfl (mem_at 0 rfl) rfl Try.underlying3 rfl) ?_
 refine G_call (L2 := [_]) rfl rfl rfl rfl rfl rfl Try.call99 (rmsg_fields _) [] [] rfl rfl ?_
 rintro v post ⟨rfl, rfl⟩
 show G _ _ _ [_] _
 refine G_val rfl rfl rfl rfl (V_assign rfl rfl) ?_
 refine G_done ?_
 refine G_seq ?_
 refine G_seq ?_
 refine G_region (l := [0]) rfl ?_
 refine G_val rfl rfl rfl rfl (V_assign rfl rfl) ?_
 refine G_done ?_
 refine G_block ?_
 refine G_sub ?he6 [0] ?hl6 (G_loop (X := Nat) (fun i => i ≤ (fieldsK q.kind).length) (fun i => (fieldsK q.kind).length - i) (fun i => [(1, .pointer (some ⟨b1, 0, none⟩)), (4, .string (bs (chainI q.kind ++ encFs q ((fieldsK q.kind).take i)))), (5, .string (bs (fieldsK q.kind))), (6, .int .i64 (i : Int))]) (fun i => [(some b1, .cells (rqCells q).toArray 40 (0, 0))]) ?round6 0 ?h06)
 case he6 => refine (And.intro rfl (And.intro (by simp [encFs]; rfl) (And.intro rfl (And.intro rfl trivial))))
 case hl6 => exact ⟨_, rfl⟩
 case h06 => exact Nat.zero_le _
 case round6 =>
  intro i hJ ih
  try dsimp only at hJ ih
  refine G_seq ?_
  refine G_seq ?_
  refine G_region (l := [0, 1, 2, 3]) rfl ?_
  refine G_val rfl rfl rfl rfl (V_move rfl rfl) ?_
  refine G_val rfl rfl rfl rfl (V_move rfl rfl) ?_
  refine G_val rfl rfl rfl rfl (V_slen rfl rfl Try.underlying9 rfl) ?_
  refine G_val rfl rfl rfl rfl (V_lss rfl rfl rfl) ?_
  refine G_done ?_
  refine G_ifD rfl (fun hc2 => ?_) (fun hc2 => ?_)
  · skip
    refine G_skip ?_
    refine G_seq ?_
    refine G_block ?_
    have hen := encFs_len (q := q) ((fieldsK q.kind).take i) (fun c hc => hfk c (List.mem_of_mem_take hc))
    have hkl3 : ((fieldsK q.kind).take i).length ≤ 7 := by simp; omega
    have hef := encF_len (hfk _ (getD_mem (k := i) (by omega)))
    refine GH_start (Lq := [_]) (isq := [0]) (m := 8) mixedK rfl rfl ?_
    refine GH_take 0 rfl rfl rfl rfl (by kernel_rfl) (by kernel_rfl) (by kernel_rfl) (fun _ _ => (V_move rfl rfl)) ?_
    first
      | refine GH_take 1 rfl rfl rfl rfl (by kernel_rfl) (by kernel_rfl) (by kernel_rfl) (fun _ _ => (V_loadW (s := 17) rfl rfl (mem_at 0 rfl) Try.underlying40 rfl infWireS_40 rfl (by first | rfl | (simp [bcells_length, rqCells, rqCells, rqCells, rqCells, rqCells, rqCells]; done) | (simp [bcells_length, rqCells, rqCells, rqCells, rqCells, rqCells, rqCells]; omega) | (simp [bcells_length, *, rqCells, rqCells, rqCells, rqCells, rqCells, rqCells]; done)))) ?_
      | refine GH_take 1 rfl rfl rfl rfl (by kernel_rfl) (by kernel_rfl) (by kernel_rfl) (fun _ _ => (V_loadA (s := 17) rfl rfl (mem_at 0 rfl) Try.underlying40 rfl infWireS_40 rfl rfl (by first | rfl | (simp [bcells_length, rqCells, rqCells, rqCells, rqCells, rqCells, rqCells]; done) | (simp [bcells_length, rqCells, rqCells, rqCells, rqCells, rqCells, rqCells]; omega) | (simp [bcells_length, *, rqCells, rqCells, rqCells, rqCells, rqCells, rqCells]; done)))) ?_
    refine GH_take 2 rfl rfl rfl rfl (by kernel_rfl) (by kernel_rfl) (by kernel_rfl) (fun _ _ => (V_move rfl rfl)) ?_
    refine GH_take 3 rfl rfl rfl rfl (by kernel_rfl) (by kernel_rfl) (by kernel_rfl) (fun _ _ => (V_move rfl rfl)) ?_
    first
      | refine GH_take 4 rfl rfl rfl rfl (by kernel_rfl) (by kernel_rfl) (by kernel_rfl) (fun _ _ => (V_sindexN rfl Try.underlying9 rfl rfl rfl (by omega))) ?_
      | refine GH_take 4 rfl rfl rfl rfl (by kernel_rfl) (by kernel_rfl) (by kernel_rfl) (fun _ _ => (V_sindexD rfl Try.underlying9 rfl rfl (by omega) (by first | omega | (simp [rqCells, rqCells, rqCells, rqCells, rqCells, rqCells]; done) | (simp [rqCells, rqCells, rqCells, rqCells, rqCells, rqCells]; omega) | (simp [rqCells, rqCells, rqCells, rqCells, rqCells, rqCells] at *; omega)))) ?_
    refine GH_all [5] (by kernel_rfl) (by decide) ?_
    refine (And.intro ?_ trivial)
    · skip
      refine GHop_call (L2 := [_]) rfl rfl rfl rfl rfl rfl Try.call100 (rw_field q _ (hfk _ (getD_mem (by omega)))) [] [] rfl rfl [0] (by rintro v post ⟨rfl, rfl⟩; exact ⟨_, rfl⟩) ?_
      rintro v post ⟨rfl, rfl⟩
      show GH _ _ _ _ _ _ _ [_] _
      refine GH_take 6 rfl rfl rfl rfl (by kernel_rfl) (by kernel_rfl) (by kernel_rfl) (fun _ _ => (V_sadd rfl rfl rfl (by first | omega | (simp [rqCells, rqCells, rqCells, rqCells, rqCells, rqCells]; done) | (simp [rqCells, rqCells, rqCells, rqCells, rqCells, rqCells]; omega) | (simp [rqCells, rqCells, rqCells, rqCells, rqCells, rqCells] at *; omega)))) ?_
      refine GH_take 7 rfl rfl rfl rfl (by kernel_rfl) (by kernel_rfl) (by kernel_rfl) (fun _ _ => (V_assign rfl rfl)) ?_
      refine GH_done (by kernel_rfl) ?_
      refine G_inBlock ?_
      rw [List.append_assoc, ← encFs_next q (fieldsK q.kind) i (by omega)]
      refine G_region (l := [0, 1, 2]) rfl ?_
      refine G_val rfl rfl rfl rfl (V_move rfl rfl) ?_
      first
        | refine G_val rfl rfl rfl rfl ((V_add rfl rfl rfl).int (wrap_i64 (by omega))) ?_
        | refine G_val rfl rfl rfl rfl (V_add rfl rfl rfl) ?_
      refine G_val rfl rfl rfl rfl (V_assign rfl rfl) ?_
      refine G_done ?_
      refine G_sub ?_ [0] ?_ (ih (i + 1) ?_ ?_)
      · (refine (And.intro ?_ (And.intro ?_ (And.intro ?_ (And.intro ?_ trivial)))) <;> first | rfl | exact slot_int (by omega) | exact slot_int (by simp))
      · exact ⟨_, rfl⟩
      · omega
      · (first | omega | (dsimp only; omega))
  refine G_exit rfl ?_
  refine G_seq ?_
  refine G_seq ?_
  have eE : chainI q.kind ++ encFs q ((fieldsK q.kind).take i) = encQ q := by rw [List.take_of_length_le (by omega)]; rfl
  rw [eE]
  refine G_region (l := [0, 1, 2]) rfl ?_
  refine G_val rfl rfl rfl rfl (V_move rfl rfl) ?_
  refine G_val rfl rfl rfl rfl (V_slen rfl rfl Try.underlying9 rfl) ?_
  refine G_val rfl rfl rfl rfl (V_gtr rfl rfl rfl) ?_
  refine G_done ?_
  refine G_ifD rfl (fun hc3 => ?_) (fun hc3 => ?_)
  · skip
    refine G_seq ?_
    refine G_region (l := [0, 1]) rfl ?_
    refine G_val rfl rfl rfl rfl (V_assign rfl rfl) ?_
    refine G_val rfl rfl rfl rfl (V_assign rfl rfl) ?_
    refine G_done ?_
    refine G_ret (post := []) Try.func24 rfl (RVs_cons (RV_tmp rfl) (RVs_cons (RV_tmp rfl) RVs_nil)) [] rfl ?_
    dsimp only [packed]
    first
      | exact ⟨(wireE_no (by assumption)).symm, rfl⟩
      | exact ⟨(wireE_long (by assumption) (by assumption)).symm, rfl⟩
      | exact ⟨(wireE_yes (by assumption) (by assumption)).symm, rfl⟩
  refine G_skip ?_
  refine G_seq ?_
  refine G_region (l := [0, 1, 2]) rfl ?_
  refine G_val rfl rfl rfl rfl (V_move rfl rfl) ?_
  refine G_val rfl rfl rfl rfl (V_assign rfl rfl) ?_
  refine G_val rfl rfl rfl rfl (V_assign rfl rfl) ?_
  refine G_done ?_
  refine G_ret (post := []) Try.func24 rfl (RVs_cons (RV_tmp rfl) (RVs_cons (RV_tmp rfl) RVs_nil)) [] rfl ?_
  dsimp only [packed]
  first
    | exact ⟨(wireE_no (by assumption)).symm, rfl⟩
    | exact ⟨(wireE_long (by assumption) (by assumption)).symm, rfl⟩
    | exact ⟨(wireE_yes (by assumption) (by assumption)).symm, rfl⟩


theorem rk_bd (l : List UInt8) : (((rk l).1 : Nat) : Int) ≤ 17 ∧ (rk l).2.1.length ≤ l.length ∧ (rk l).2.2 ≤ 1000 := rdInt_bd 17 l 0 (by omega) (by omega)
theorem k_rk (b : Nat) (l : List UInt8) (hl : l.length ≤ 140737488350000) : Ct Try.prog 92 [.pointer (some ⟨b, 0, none⟩), .int .i64 17] [] [(some b, .cells #[.string (bs l), .int .i64 ((0 : Nat) : Int)] 133 (0, 0))] (fun r post => r = .int .i64 (((rk l).1 : Nat) : Int) ∧ post = [(some b, .cells #[.string (bs (rk l).2.1), .int .i64 (((rk l).2.2 : Nat) : Int)] 133 (0, 0))]) := by
  unfold rk
  exact rrd_int b l 0 17 (by omega) (by omega) ⟨by omega, by omega⟩
attribute [local irreducible] rk

set_option maxRecDepth 100000 in
set_option maxHeartbeats 1000000 in
theorem rw_decode (l : List UInt8) (hl : l.length ≤ 140737488350000) :
    Ct Try.prog 29 [.string (bs l)] [] [] fun r post => r = .tuple #[.agg (rqCells (rdecQ l)).toArray, .int .i64 (rdecW l)] ∧ post = [] := by
 have hkb := rk_bd l
 have hfl := fieldsK_len (((rk l).1 : Nat) : Int)
 refine ct_of Try.func29 rfl rfl (fun w0 => ?_)
 show G _ _ [(0, _)] _ _
 refine G_seq ?_
 refine G_region (l := [0, 1]) rfl ?_
 refine G_new rfl rfl rfl rfl (N_allocA rfl infWireS_40 rfl) (fun b2 => ?_)
 refine G_val rfl rfl rfl rfl (V_assign rfl rfl) ?_
 refine G_done ?_
 refine G_seq ?_
 refine G_seq ?_
 refine G_region (l := [0, 1, 2]) rfl ?_
 refine G_val rfl rfl rfl rfl (V_move rfl rfl) ?_
 refine G_val rfl rfl rfl rfl (V_slen rfl rfl Try.underlying9 rfl) ?_
 refine G_val rfl rfl rfl rfl (V_gtr rfl rfl rfl) ?_
 refine G_done ?_
 refine G_ifD rfl (fun hc1 => ?_) (fun hc1 => ?_)
 · skip
   refine G_seq ?_
   refine G_region (l := [0, 1, 2]) rfl ?_
   refine G_val rfl rfl rfl rfl (V_buildS (cs := [_, _, _, _, _, _, _, _, _, _, _, _, _, _, _, _, _]) rfl Try.underlying40 infWireS_40 rfl plcWireS_40 rfl rfl rfl) ?_
   refine G_put (l1 := []) (L' := [_]) rfl rfl rfl rfl (P_storeA (s := 17) rfl rfl rfl (mem_at 0 rfl) (by first | rfl | (simp [bcells_length, rqCells, rqCells, rqCells, rqCells, rqCells, rqCells]; done) | (simp [bcells_length, rqCells, rqCells, rqCells, rqCells, rqCells, rqCells]; omega) | (simp [bcells_length, *, rqCells, rqCells, rqCells, rqCells, rqCells, rqCells]; done)) infWireS_40 rfl (by first | rfl | (simp [bcells_length, rqCells, rqCells, rqCells, rqCells, rqCells, rqCells]; done) | (simp [bcells_length, rqCells, rqCells, rqCells, rqCells, rqCells, rqCells]; omega) | (simp [bcells_length, *, rqCells, rqCells, rqCells, rqCells, rqCells, rqCells]; done)) (by first | rfl | exact bcells_all _ | (simp [Value.oneCell', rqCells, rqCells, rqCells, rqCells, rqCells, rqCells]; done) | (simp [Value.oneCell', *, rqCells, rqCells, rqCells, rqCells, rqCells, rqCells]; done))) rfl ?_
   refine G_val rfl rfl rfl rfl (V_assign rfl rfl) ?_
   refine G_done ?_
   refine G_ret (post := []) Try.func29 rfl (RVs_cons (RV_cell (s := 17) rfl (mem_at 0 rfl) Try.underlying40 rfl infWireS_40 rfl (by first | rfl | (simp [bcells_length, rqCells, rqCells, rqCells, rqCells, rqCells, rqCells]; done) | (simp [bcells_length, rqCells, rqCells, rqCells, rqCells, rqCells, rqCells]; omega) | (simp [bcells_length, *, rqCells, rqCells, rqCells, rqCells, rqCells, rqCells]; done))) (RVs_cons (RV_tmp rfl) RVs_nil)) [] rfl ?_
   dsimp only [packed]
   first
     | (obtain ⟨a, b⟩ := rdecW_long (l := l) (by assumption); rw [a, b]; exact ⟨rfl, rfl⟩)
     | (obtain ⟨a, b⟩ := rdecW_no (l := l) (by assumption) (fun h => by have h1 := h.1; have h2 := h.2; omega); rw [a, b]; exact ⟨rfl, rfl⟩)
     | (obtain ⟨a, b⟩ := rdecW_yes (l := l) (by assumption) ⟨by omega, by omega⟩; rw [a, b]; exact ⟨rfl, rfl⟩)
 refine G_skip ?_
 refine G_seq ?_
 refine G_region (l := [0, 1, 2, 3]) rfl ?_
 refine G_val rfl rfl rfl rfl (V_move rfl rfl) ?_
 refine G_val rfl rfl rfl rfl (V_buildS (cs := [_, _]) rfl Try.underlying133 infWireS_133 rfl plcWireS_133 rfl rfl rfl) ?_
 refine G_new rfl rfl rfl rfl (N_boxA rfl rfl) (fun b14 => ?_)
 refine G_val rfl rfl rfl rfl (V_assign rfl rfl) ?_
 refine G_done ?_
 refine G_seq ?_
 refine G_region (l := [0, 1, 2, 3, 4]) rfl ?_
 refine G_val rfl rfl rfl rfl (V_move rfl rfl) ?_
 refine G_call (L2 := [_]) rfl rfl rfl rfl rfl rfl Try.call92 (k_rk _ l hl) [0] [] rfl rfl ?_
 rintro v post ⟨rfl, rfl⟩
 show G _ _ _ [_, _] _
 refine G_val rfl rfl rfl rfl (V_buildS (cs := [_, _, _, _, _, _, _, _, _, _, _, _, _, _, _, _, _]) rfl Try.underlying40 infWireS_40 rfl plcWireS_40 rfl rfl rfl) ?_
 refine G_new rfl rfl rfl rfl (N_allocA rfl infWireS_40 rfl) (fun b5 => ?_)
 refine G_put (l1 := []) (L' := [_, _, _]) rfl rfl rfl rfl (P_storeA (s := 17) rfl rfl rfl (mem_at 0 rfl) (by first | rfl | (simp [bcells_length, rqCells, rqCells, rqCells, rqCells, rqCells, rqCells]; done) | (simp [bcells_length, rqCells, rqCells, rqCells, rqCells, rqCells, rqCells]; omega) | (simp [bcells_length, *, rqCells, rqCells, rqCells, rqCells, rqCells, rqCells]; done)) infWireS_40 rfl (by first | rfl | (simp [bcells_length, rqCells, rqCells, rqCells, rqCells, rqCells, rqCells]; done) | (simp [bcells_length, rqCells, rqCells, rqCells, rqCells, rqCells, rqCells]; omega) | (simp [bcells_length, *, rqCells, rqCells, rqCells, rqCells, rqCells, rqCells]; done)) (by first | rfl | exact bcells_all _ | (simp [Value.oneCell', rqCells, rqCells, rqCells, rqCells, rqCells, rqCells]; done) | (simp [Value.oneCell', *, rqCells, rqCells, rqCells, rqCells, rqCells, rqCells]; done))) rfl ?_
 refine G_done ?_
 refine G_seq ?_
 show G _ _ _ [(some b5, .cells (rqCells (rqBare (((rk l).1 : Nat) : Int))).toArray 40 (0, 0)), _, _] _
 refine G_region (l := [0, 1, 2, 3]) rfl ?_
 refine G_val rfl rfl rfl rfl (V_fieldAddr (fo := 0) rfl Try.underlying40 rfl infWireS_3 rfl rfl rfl) ?_
 refine G_val rfl rfl rfl rfl (V_load1 rfl rfl (mem_at 0 rfl) rfl Try.underlying3 rfl) ?_
 refine G_call (L2 := [_, _, _]) rfl rfl rfl rfl rfl rfl Try.call99 (rmsg_fields _) [] [] rfl rfl ?_
 rintro v post ⟨rfl, rfl⟩
 show G _ _ _ [_, _, _] _
 refine G_val rfl rfl rfl rfl (V_assign rfl rfl) ?_
 refine G_done ?_
 refine G_seq ?_
 refine G_seq ?_
 refine G_region (l := [0]) rfl ?_
 refine G_val rfl rfl rfl rfl (V_assign rfl rfl) ?_
 refine G_done ?_
 refine G_block ?_
 refine G_sub ?he7 [0, 0, 0] ?hl7 (G_loop (X := Nat) (fun i => i ≤ (fieldsK (((rk l).1 : Nat) : Int)).length) (fun i => (fieldsK (((rk l).1 : Nat) : Int)).length - i) (fun i => [(2, .pointer (some ⟨b2, 0, none⟩)), (4, .pointer (some ⟨b14, 0, none⟩)), (5, .pointer (some ⟨b5, 0, none⟩)), (6, .string (bs (fieldsK (((rk l).1 : Nat) : Int)))), (7, .int .i64 (i : Int))]) (fun i => [(some b5, .cells (rqCells (rdFs (rqBare (((rk l).1 : Nat) : Int)) ((fieldsK (((rk l).1 : Nat) : Int)).take i) (rk l).2.1 (rk l).2.2).1).toArray 40 (0, 0)), (some b14, .cells #[.string (bs (rdFs (rqBare (((rk l).1 : Nat) : Int)) ((fieldsK (((rk l).1 : Nat) : Int)).take i) (rk l).2.1 (rk l).2.2).2.1), .int .i64 (((rdFs (rqBare (((rk l).1 : Nat) : Int)) ((fieldsK (((rk l).1 : Nat) : Int)).take i) (rk l).2.1 (rk l).2.2).2.2 : Nat) : Int)] 133 (0, 0)), (some b2, .cells (rqCells (rqBare 0)).toArray 40 (0, 0))]) ?round7 0 ?h07)
 case he7 => exact (And.intro rfl (And.intro rfl (And.intro rfl (And.intro rfl (And.intro rfl trivial)))))
 case hl7 => exact ⟨_, rfl⟩
 case h07 => exact Nat.zero_le _
 case round7 =>
  intro i hJ ih
  try dsimp only at hJ ih
  refine G_seq ?_
  refine G_seq ?_
  refine G_region (l := [0, 1, 2, 3]) rfl ?_
  refine G_val rfl rfl rfl rfl (V_move rfl rfl) ?_
  refine G_val rfl rfl rfl rfl (V_move rfl rfl) ?_
  refine G_val rfl rfl rfl rfl (V_slen rfl rfl Try.underlying9 rfl) ?_
  refine G_val rfl rfl rfl rfl (V_lss rfl rfl rfl) ?_
  refine G_done ?_
  refine G_ifD rfl (fun hc2 => ?_) (fun hc2 => ?_)
  · skip
    refine G_skip ?_
    refine G_seq ?_
    refine G_block ?_
    have hst := rdFs_bd (rqBare (((rk l).1 : Nat) : Int)) (rk l).2.1 (rk l).2.2 hkb.2.2 (fieldsK (((rk l).1 : Nat) : Int)) i
    refine GH_start (Lq := []) (isq := []) (m := 7) mixedK rfl rfl ?_
    refine GH_take 1 rfl rfl rfl rfl (by kernel_rfl) (by kernel_rfl) (by kernel_rfl) (fun _ _ => (V_move rfl rfl)) ?_
    refine GH_take 2 rfl rfl rfl rfl (by kernel_rfl) (by kernel_rfl) (by kernel_rfl) (fun _ _ => (V_move rfl rfl)) ?_
    first
      | refine GH_take 3 rfl rfl rfl rfl (by kernel_rfl) (by kernel_rfl) (by kernel_rfl) (fun _ _ => (V_sindexN rfl Try.underlying9 rfl rfl rfl (by omega))) ?_
      | refine GH_take 3 rfl rfl rfl rfl (by kernel_rfl) (by kernel_rfl) (by kernel_rfl) (fun _ _ => (V_sindexD rfl Try.underlying9 rfl rfl (by omega) (by first | omega | (simp [rqCells, rqCells, rqCells, rqCells, rqCells, rqCells]; done) | (simp [rqCells, rqCells, rqCells, rqCells, rqCells, rqCells]; omega) | (simp [rqCells, rqCells, rqCells, rqCells, rqCells, rqCells] at *; omega)))) ?_
    refine GH_take 4 rfl rfl rfl rfl (by kernel_rfl) (by kernel_rfl) (by kernel_rfl) (fun _ _ => (V_move rfl rfl)) ?_
    refine GH_all [0] (by kernel_rfl) (by decide) ?_
    refine (And.intro ?_ trivial)
    · skip
      first
        | refine GHop_val rfl rfl rfl rfl (V_loadW (s := 17) rfl rfl (mem_at 0 rfl) Try.underlying40 rfl infWireS_40 rfl (by first | rfl | (simp [bcells_length, rqCells, rqCells, rqCells, rqCells, rqCells, rqCells]; done) | (simp [bcells_length, rqCells, rqCells, rqCells, rqCells, rqCells, rqCells]; omega) | (simp [bcells_length, *, rqCells, rqCells, rqCells, rqCells, rqCells, rqCells]; done))) ?_
        | refine GHop_val rfl rfl rfl rfl (V_loadA (s := 17) rfl rfl (mem_at 0 rfl) Try.underlying40 rfl infWireS_40 rfl rfl (by first | rfl | (simp [bcells_length, rqCells, rqCells, rqCells, rqCells, rqCells, rqCells]; done) | (simp [bcells_length, rqCells, rqCells, rqCells, rqCells, rqCells, rqCells]; omega) | (simp [bcells_length, *, rqCells, rqCells, rqCells, rqCells, rqCells, rqCells]; done))) ?_
      refine GH_all [5] (by kernel_rfl) (by decide) ?_
      refine (And.intro ?_ trivial)
      · skip
        refine GHop_call (L2 := [_, _]) rfl rfl rfl rfl rfl rfl Try.call104 (rw_set _ (rdFs (rqBare (((rk l).1 : Nat) : Int)) ((fieldsK (((rk l).1 : Nat) : Int)).take i) (rk l).2.1 (rk l).2.2).2.1 (rdFs (rqBare (((rk l).1 : Nat) : Int)) ((fieldsK (((rk l).1 : Nat) : Int)).take i) (rk l).2.1 (rk l).2.2).2.2 (by omega) (by omega) (rdFs (rqBare (((rk l).1 : Nat) : Int)) ((fieldsK (((rk l).1 : Nat) : Int)).take i) (rk l).2.1 (rk l).2.2).1 _) [1] [] rfl rfl [] (by rintro v post ⟨rfl, rfl⟩; exact ⟨_, rfl⟩) ?_
        rintro v post ⟨rfl, rfl⟩
        show GH _ _ _ _ _ _ _ [_, _, _] _
        refine GH_all [6] (by kernel_rfl) (by decide) ?_
        refine (And.intro ?_ trivial)
        · skip
          refine GHop_put (l1 := [_]) (L' := [_, _, _]) rfl rfl rfl rfl (P_storeA (s := 17) rfl rfl rfl (mem_at 1 rfl) (by first | rfl | (simp [bcells_length, rqCells, rqCells, rqCells, rqCells, rqCells, rqCells]; done) | (simp [bcells_length, rqCells, rqCells, rqCells, rqCells, rqCells, rqCells]; omega) | (simp [bcells_length, *, rqCells, rqCells, rqCells, rqCells, rqCells, rqCells]; done)) infWireS_40 rfl (by first | rfl | (simp [bcells_length, rqCells, rqCells, rqCells, rqCells, rqCells, rqCells]; done) | (simp [bcells_length, rqCells, rqCells, rqCells, rqCells, rqCells, rqCells]; omega) | (simp [bcells_length, *, rqCells, rqCells, rqCells, rqCells, rqCells, rqCells]; done)) (by first | rfl | exact bcells_all _ | (simp [Value.oneCell', rqCells, rqCells, rqCells, rqCells, rqCells, rqCells]; done) | (simp [Value.oneCell', *, rqCells, rqCells, rqCells, rqCells, rqCells, rqCells]; done))) rfl [] rfl ?_
          refine GH_done (by kernel_rfl) ?_
          refine G_inBlock ?_
          rw [← rdFs_next _ (fieldsK (((rk l).1 : Nat) : Int)) i (by omega)]
          refine G_region (l := [0, 1, 2]) rfl ?_
          refine G_val rfl rfl rfl rfl (V_move rfl rfl) ?_
          first
            | refine G_val rfl rfl rfl rfl ((V_add rfl rfl rfl).int (wrap_i64 (by omega))) ?_
            | refine G_val rfl rfl rfl rfl (V_add rfl rfl rfl) ?_
          refine G_val rfl rfl rfl rfl (V_assign rfl rfl) ?_
          refine G_done ?_
          refine G_sub ?_ [1, 0, 0] ?_ (ih (i + 1) ?_ ?_)
          · (refine (And.intro ?_ (And.intro ?_ (And.intro ?_ (And.intro ?_ (And.intro ?_ trivial))))) <;> first | rfl | exact slot_int (by omega) | exact slot_int (by simp))
          · exact ⟨_, rfl⟩
          · omega
          · (first | omega | (dsimp only; omega))
  refine G_exit rfl ?_
  refine G_seq ?_
  refine G_seq ?_
  have eE : (rdFs (rqBare (((rk l).1 : Nat) : Int)) ((fieldsK (((rk l).1 : Nat) : Int)).take i) (rk l).2.1 (rk l).2.2) = rfs l := by rw [List.take_of_length_le (by omega)]; rfl
  rw [eE]
  refine G_region (l := [0, 1, 2, 3, 4, 5, 6, 7]) rfl ?_
  refine G_val rfl rfl rfl rfl (V_move rfl rfl) ?_
  refine G_call (L2 := [_, _, _]) rfl rfl rfl rfl rfl rfl Try.call94 (rrd_end _ _ _) [] [1] rfl rfl ?_
  rintro v post ⟨rfl, rfl⟩
  show G _ _ _ [_, _, _] _
  refine G_val rfl rfl rfl rfl (V_neq rfl rfl rfl) ?_
  refine G_val rfl rfl rfl rfl (V_move rfl rfl) ?_
  refine G_splitD 36 rfl (fun hc3 => ?_) (fun hc3 => ?_)
  · skip
    refine G_off rfl rfl rfl rfl ?_
    refine G_off rfl rfl rfl rfl ?_
    refine G_off rfl rfl rfl rfl ?_
    refine G_val rfl rfl rfl rfl (V_pickT rfl rfl rfl) ?_
    refine G_done ?_
    refine G_then rfl ?_
    refine G_seq ?_
    refine G_region (l := [0, 1, 2]) rfl ?_
    refine G_val rfl rfl rfl rfl (V_buildS (cs := [_, _, _, _, _, _, _, _, _, _, _, _, _, _, _, _, _]) rfl Try.underlying40 infWireS_40 rfl plcWireS_40 rfl rfl rfl) ?_
    refine G_put (l1 := [_, _]) (L' := [_, _, _]) rfl rfl rfl rfl (P_storeA (s := 17) rfl rfl rfl (mem_at 2 rfl) (by first | rfl | (simp [bcells_length, rqCells, rqCells, rqCells, rqCells, rqCells, rqCells]; done) | (simp [bcells_length, rqCells, rqCells, rqCells, rqCells, rqCells, rqCells]; omega) | (simp [bcells_length, *, rqCells, rqCells, rqCells, rqCells, rqCells, rqCells]; done)) infWireS_40 rfl (by first | rfl | (simp [bcells_length, rqCells, rqCells, rqCells, rqCells, rqCells, rqCells]; done) | (simp [bcells_length, rqCells, rqCells, rqCells, rqCells, rqCells, rqCells]; omega) | (simp [bcells_length, *, rqCells, rqCells, rqCells, rqCells, rqCells, rqCells]; done)) (by first | rfl | exact bcells_all _ | (simp [Value.oneCell', rqCells, rqCells, rqCells, rqCells, rqCells, rqCells]; done) | (simp [Value.oneCell', *, rqCells, rqCells, rqCells, rqCells, rqCells, rqCells]; done))) rfl ?_
    refine G_val rfl rfl rfl rfl (V_assign rfl rfl) ?_
    refine G_done ?_
    refine G_ret (post := []) Try.func29 rfl (RVs_cons (RV_cell (s := 17) rfl (mem_at 2 rfl) Try.underlying40 rfl infWireS_40 rfl (by first | rfl | (simp [bcells_length, rqCells, rqCells, rqCells, rqCells, rqCells, rqCells]; done) | (simp [bcells_length, rqCells, rqCells, rqCells, rqCells, rqCells, rqCells]; omega) | (simp [bcells_length, *, rqCells, rqCells, rqCells, rqCells, rqCells, rqCells]; done))) (RVs_cons (RV_tmp rfl) RVs_nil)) [] rfl ?_
    dsimp only [packed]
    first
      | (obtain ⟨a, b⟩ := rdecW_long (l := l) (by assumption); rw [a, b]; exact ⟨rfl, rfl⟩)
      | (obtain ⟨a, b⟩ := rdecW_no (l := l) (by assumption) (fun h => by have h1 := h.1; have h2 := h.2; omega); rw [a, b]; exact ⟨rfl, rfl⟩)
      | (obtain ⟨a, b⟩ := rdecW_yes (l := l) (by assumption) ⟨by omega, by omega⟩; rw [a, b]; exact ⟨rfl, rfl⟩)
  refine G_val rfl rfl rfl rfl (V_fieldAddr (fo := 0) rfl Try.underlying40 rfl infWireS_3 rfl rfl rfl) ?_
  refine G_val rfl rfl rfl rfl (V_load1 rfl rfl (mem_at 0 rfl) rfl Try.underlying3 rfl) ?_
  refine G_val rfl rfl rfl rfl (V_lss rfl rfl rfl) ?_
  refine G_val rfl rfl rfl rfl (V_pickF rfl rfl rfl) ?_
  refine G_done ?_
  refine G_ifD rfl (fun hc4 => ?_) (fun hc4 => ?_)
  · skip
    refine G_seq ?_
    refine G_region (l := [0, 1, 2]) rfl ?_
    refine G_val rfl rfl rfl rfl (V_buildS (cs := [_, _, _, _, _, _, _, _, _, _, _, _, _, _, _, _, _]) rfl Try.underlying40 infWireS_40 rfl plcWireS_40 rfl rfl rfl) ?_
    refine G_put (l1 := [_, _]) (L' := [_, _, _]) rfl rfl rfl rfl (P_storeA (s := 17) rfl rfl rfl (mem_at 2 rfl) (by first | rfl | (simp [bcells_length, rqCells, rqCells, rqCells, rqCells, rqCells, rqCells]; done) | (simp [bcells_length, rqCells, rqCells, rqCells, rqCells, rqCells, rqCells]; omega) | (simp [bcells_length, *, rqCells, rqCells, rqCells, rqCells, rqCells, rqCells]; done)) infWireS_40 rfl (by first | rfl | (simp [bcells_length, rqCells, rqCells, rqCells, rqCells, rqCells, rqCells]; done) | (simp [bcells_length, rqCells, rqCells, rqCells, rqCells, rqCells, rqCells]; omega) | (simp [bcells_length, *, rqCells, rqCells, rqCells, rqCells, rqCells, rqCells]; done)) (by first | rfl | exact bcells_all _ | (simp [Value.oneCell', rqCells, rqCells, rqCells, rqCells, rqCells, rqCells]; done) | (simp [Value.oneCell', *, rqCells, rqCells, rqCells, rqCells, rqCells, rqCells]; done))) rfl ?_
    refine G_val rfl rfl rfl rfl (V_assign rfl rfl) ?_
    refine G_done ?_
    refine G_ret (post := []) Try.func29 rfl (RVs_cons (RV_cell (s := 17) rfl (mem_at 2 rfl) Try.underlying40 rfl infWireS_40 rfl (by first | rfl | (simp [bcells_length, rqCells, rqCells, rqCells, rqCells, rqCells, rqCells]; done) | (simp [bcells_length, rqCells, rqCells, rqCells, rqCells, rqCells, rqCells]; omega) | (simp [bcells_length, *, rqCells, rqCells, rqCells, rqCells, rqCells, rqCells]; done))) (RVs_cons (RV_tmp rfl) RVs_nil)) [] rfl ?_
    dsimp only [packed]
    first
      | (obtain ⟨a, b⟩ := rdecW_long (l := l) (by assumption); rw [a, b]; exact ⟨rfl, rfl⟩)
      | (obtain ⟨a, b⟩ := rdecW_no (l := l) (by assumption) (fun h => by have h1 := h.1; have h2 := h.2; omega); rw [a, b]; exact ⟨rfl, rfl⟩)
      | (obtain ⟨a, b⟩ := rdecW_yes (l := l) (by assumption) ⟨by omega, by omega⟩; rw [a, b]; exact ⟨rfl, rfl⟩)
  refine G_skip ?_
  refine G_seq ?_
  refine G_region (l := [0, 1, 2]) rfl ?_
  first
    | refine G_val rfl rfl rfl rfl (V_loadW (s := 17) rfl rfl (mem_at 0 rfl) Try.underlying40 rfl infWireS_40 rfl (by first | rfl | (simp [bcells_length, rqCells, rqCells, rqCells, rqCells, rqCells, rqCells]; done) | (simp [bcells_length, rqCells, rqCells, rqCells, rqCells, rqCells, rqCells]; omega) | (simp [bcells_length, *, rqCells, rqCells, rqCells, rqCells, rqCells, rqCells]; done))) ?_
    | refine G_val rfl rfl rfl rfl (V_loadA (s := 17) rfl rfl (mem_at 0 rfl) Try.underlying40 rfl infWireS_40 rfl rfl (by first | rfl | (simp [bcells_length, rqCells, rqCells, rqCells, rqCells, rqCells, rqCells]; done) | (simp [bcells_length, rqCells, rqCells, rqCells, rqCells, rqCells, rqCells]; omega) | (simp [bcells_length, *, rqCells, rqCells, rqCells, rqCells, rqCells, rqCells]; done))) ?_
  refine G_put (l1 := [_, _]) (L' := [_, _, _]) rfl rfl rfl rfl (P_storeA (s := 17) rfl rfl rfl (mem_at 2 rfl) (by first | rfl | (simp [bcells_length, rqCells, rqCells, rqCells, rqCells, rqCells, rqCells]; done) | (simp [bcells_length, rqCells, rqCells, rqCells, rqCells, rqCells, rqCells]; omega) | (simp [bcells_length, *, rqCells, rqCells, rqCells, rqCells, rqCells, rqCells]; done)) infWireS_40 rfl (by first | rfl | (simp [bcells_length, rqCells, rqCells, rqCells, rqCells, rqCells, rqCells]; done) | (simp [bcells_length, rqCells, rqCells, rqCells, rqCells, rqCells, rqCells]; omega) | (simp [bcells_length, *, rqCells, rqCells, rqCells, rqCells, rqCells, rqCells]; done)) (by first | rfl | exact bcells_all _ | (simp [Value.oneCell', rqCells, rqCells, rqCells, rqCells, rqCells, rqCells]; done) | (simp [Value.oneCell', *, rqCells, rqCells, rqCells, rqCells, rqCells, rqCells]; done))) rfl ?_
  refine G_val rfl rfl rfl rfl (V_assign rfl rfl) ?_
  refine G_done ?_
  refine G_ret (post := []) Try.func29 rfl (RVs_cons (RV_cell (s := 17) rfl (mem_at 2 rfl) Try.underlying40 rfl infWireS_40 rfl (by first | rfl | (simp [bcells_length, rqCells, rqCells, rqCells, rqCells, rqCells, rqCells]; done) | (simp [bcells_length, rqCells, rqCells, rqCells, rqCells, rqCells, rqCells]; omega) | (simp [bcells_length, *, rqCells, rqCells, rqCells, rqCells, rqCells, rqCells]; done))) (RVs_cons (RV_tmp rfl) RVs_nil)) [] rfl ?_
  dsimp only [packed]
  first
    | (obtain ⟨a, b⟩ := rdecW_long (l := l) (by assumption); rw [a, b]; exact ⟨rfl, rfl⟩)
    | (obtain ⟨a, b⟩ := rdecW_no (l := l) (by assumption) (fun h => by have h1 := h.1; have h2 := h.2; omega); rw [a, b]; exact ⟨rfl, rfl⟩)
    | (obtain ⟨a, b⟩ := rdecW_yes (l := l) (by assumption) ⟨by omega, by omega⟩; rw [a, b]; exact ⟨rfl, rfl⟩)

end
end Go.Proofs.Ytkidmbaakdaflaa
