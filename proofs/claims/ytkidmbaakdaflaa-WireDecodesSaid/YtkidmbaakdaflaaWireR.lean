/- The walks of wire.Encode and wire.Decode, and of the document's. -/
import Derived.Test.YtkidmbaakdaflaaWireW
import Derived.Test.YtkidmbaakdaflaaRMsgW
set_option linter.unusedSimpArgs false
set_option linter.unusedVariables false
namespace Go.Proofs.Ytkidmbaakdaflaa
open Go Go.RowKit

section
theorem infWireR_3 : Try.prog.info? 3 = some Try.t3 := by kernel_rfl
theorem infWireR_4 : Try.prog.info? 4 = some Try.t4 := by kernel_rfl
theorem infWireR_9 : Try.prog.info? 9 = some Try.t9 := by kernel_rfl
theorem infWireR_40 : Try.prog.info? 40 = some Try.t40 := by kernel_rfl
theorem infWireR_109 : Try.prog.info? 109 = some Try.t109 := by kernel_rfl
theorem infWireR_127 : Try.prog.info? 127 = some Try.t127 := by kernel_rfl
theorem infWireR_136 : Try.prog.info? 136 = some Try.t136 := by kernel_rfl
theorem plcWireR_40 : placesOf Try.prog (Try.prog.fieldsOf 40) = some [(0, 1), (1, 1), (2, 1), (3, 1), (4, 1), (5, 1), (6, 1), (7, 1), (8, 1), (9, 1), (10, 1), (11, 1), (12, 1), (13, 1), (14, 1), (15, 1), (16, 1)] := by kernel_rfl
theorem plcWireR_136 : placesOf Try.prog (Try.prog.fieldsOf 136) = some [(0, 2), (2, 1), (3, 1)] := by kernel_rfl


theorem wireE_no {q : Rq} (h : (!mayQ q) = true) : wireE q = .tuple #[.string (bs []), .int .i64 1] := by
  unfold wireE; rw [if_neg]; simpa using h
theorem wireE_long {q : Rq} (h : (!mayQ q) = false) (hl : 480 < ((encQ q).length : Int)) : wireE q = .tuple #[.string (bs []), .int .i64 4] := by
  unfold wireE; rw [if_pos (by simpa using h), if_pos (by omega)]
theorem wireE_yes {q : Rq} (h : (!mayQ q) = false) (hl : ¬ 480 < ((encQ q).length : Int)) : wireE q = .tuple #[.string (bs (encQ q)), .int .i64 0] := by
  unfold wireE; rw [if_pos (by simpa using h), if_neg (by omega)]
theorem encQ_len {q : Rq} (h : mayQ q = true) : (encQ q).length ≤ 800 := by
  obtain ⟨⟨k1, k2⟩, hf⟩ := may_fok h
  have h1 := encFs_len (fieldsK q.kind) hf
  have h2 := fieldsK_len q.kind
  have h3 := chainI_len q.kind (by omega) (by omega)
  unfold encQ
  rw [List.length_append]
  omega

set_option maxRecDepth 100000 in
set_option maxHeartbeats 1000000 in
theorem wire_encode (q : Rq) (hq : RqOk q) :
    Ct Try.prog 23 [.agg (rqCells q).toArray] [] [] fun v post => v = wireE q ∧ post = [] := by
 refine ct_of Try.func23 rfl rfl (fun w0 => ?_)
 show G _ _ [(0, _)] _ _
 refine G_seq ?_
 refine G_region (l := [0, 1, 2]) rfl ?_
 refine G_new rfl rfl rfl rfl (N_boxA rfl rfl) (fun b1 => ?_)
 refine G_val rfl rfl rfl rfl (V_assign rfl rfl) ?_
 refine G_val rfl rfl rfl rfl (V_assign rfl rfl) ?_
 refine G_done ?_
 refine G_seq ?_
 refine G_seq ?_
 refine G_region (l := [0, 1, 2]) rfl ?_
 first
   | refine G_val rfl rfl rfl rfl (V_loadW (s := 17) rfl rfl (mem_at 0 rfl) Try.underlying40 rfl infWireR_40 rfl (by first | rfl | (simp [bcells_length, rqCells, rqCells, rqCells, rqCells, rqCells]; done) | (simp [bcells_length, rqCells, rqCells, rqCells, rqCells, rqCells]; omega) | (simp [bcells_length, *, rqCells, rqCells, rqCells, rqCells, rqCells]; done))) ?_
   | refine G_val rfl rfl rfl rfl (V_loadA (s := 17) rfl rfl (mem_at 0 rfl) Try.underlying40 rfl infWireR_40 rfl rfl (by first | rfl | (simp [bcells_length, rqCells, rqCells, rqCells, rqCells, rqCells]; done) | (simp [bcells_length, rqCells, rqCells, rqCells, rqCells, rqCells]; omega) | (simp [bcells_length, *, rqCells, rqCells, rqCells, rqCells, rqCells]; done))) ?_
 refine G_call (L2 := [_]) rfl rfl rfl rfl rfl rfl Try.call95 (msg_may _ (by assumption)) [] [] rfl rfl ?_
 rintro v post ⟨rfl, rfl⟩
 show G _ _ _ [_] _
 refine G_val rfl rfl rfl rfl (V_not rfl rfl) ?_
 refine G_done ?_
 refine G_if rfl (fun hc1 => ?_) (fun hc1 => ?_)
 · skip
   refine G_seq ?_
   refine G_region (l := [0, 1]) rfl ?_
   refine G_val rfl rfl rfl rfl (V_assign rfl rfl) ?_
   refine G_val rfl rfl rfl rfl (V_assign rfl rfl) ?_
   refine G_done ?_
   refine G_ret (post := []) Try.func23 rfl (RVs_cons (RV_tmp rfl) (RVs_cons (RV_tmp rfl) RVs_nil)) [] rfl ?_
   dsimp only [packed]
   first
     | exact ⟨(wireE_no (by assumption)).symm, rfl⟩
     | exact ⟨(wireE_long (by assumption) (by assumption)).symm, rfl⟩
     | exact ⟨(wireE_yes (by assumption) (by assumption)).symm, rfl⟩
 refine G_skip ?_
 refine G_seq ?_
 refine G_region (l := [0]) rfl ?_
 refine G_new rfl rfl rfl rfl (N_allocA rfl infWireR_136 rfl) (fun b4 => ?_)
 refine G_done ?_
 refine G_seq ?_
 refine G_addNone (.cells #[] 5 (0, 0)) ?_
 refine G_region (l := [0]) rfl ?_
 refine G_call (L2 := [_]) rfl rfl rfl rfl rfl rfl Try.call96 (w_all b4 b1 (.pointer none) slNil (.inl rfl) txt_nil q (by simpa using hc1)) [1, 0] [0] rfl rfl ?_
 rintro v post ⟨rfl, u1, hu1, rfl⟩
 show G _ _ _ [_, _, _] _
 have hel := encQ_len (q := q) (by simpa using hc1)
 refine G_done ?_
 refine G_seq ?_
 refine G_seq ?_
 refine G_region (l := [0, 1, 2]) rfl ?_
 refine G_val rfl rfl rfl rfl (V_fieldAddr (fo := 0) rfl Try.underlying136 rfl infWireR_109 rfl rfl rfl) ?_
 refine G_call (L2 := [_, _, _]) rfl rfl rfl rfl rfl rfl Try.call97 (cbld_len _ _ _ _ _ _) [] [0] rfl rfl ?_
 rintro v post ⟨rfl, rfl⟩
 show G _ _ _ [_, _, _] _
 refine G_val rfl rfl rfl rfl (V_gtr rfl rfl rfl) ?_
 refine G_done ?_
 refine G_ifD rfl (fun hc2 => ?_) (fun hc2 => ?_)
 · skip
   refine G_seq ?_
   refine G_region (l := [0, 1]) rfl ?_
   refine G_val rfl rfl rfl rfl (V_assign rfl rfl) ?_
   refine G_val rfl rfl rfl rfl (V_assign rfl rfl) ?_
   refine G_done ?_
   refine G_ret (post := []) Try.func23 rfl (RVs_cons (RV_tmp rfl) (RVs_cons (RV_tmp rfl) RVs_nil)) [] rfl ?_
   dsimp only [packed]
   first
     | exact ⟨(wireE_no (by assumption)).symm, rfl⟩
     | exact ⟨(wireE_long (by assumption) (by assumption)).symm, rfl⟩
     | exact ⟨(wireE_yes (by assumption) (by assumption)).symm, rfl⟩
 refine G_skip ?_
 refine G_seq ?_
 refine G_region (l := [0, 1, 2, 3]) rfl ?_
 refine G_val rfl rfl rfl rfl (V_fieldAddr (fo := 0) rfl Try.underlying136 rfl infWireR_109 rfl rfl rfl) ?_
 refine G_call (L2 := [_]) rfl rfl rfl rfl rfl rfl Try.call73 (cbld_string _ _ _ _ _ _ hu1 (by omega)) [0, 0] [] rfl rfl ?_
 rintro v post ⟨rfl, u1, hu1, rfl⟩
 show G _ _ _ [_, _, _] _
 refine G_val rfl rfl rfl rfl (V_assign rfl rfl) ?_
 refine G_val rfl rfl rfl rfl (V_assign rfl rfl) ?_
 refine G_done ?_
 refine G_ret (post := []) Try.func23 rfl (RVs_cons (RV_tmp rfl) (RVs_cons (RV_tmp rfl) RVs_nil)) [] rfl ?_
 dsimp only [packed]
 first
   | exact ⟨(wireE_no (by assumption)).symm, rfl⟩
   | exact ⟨(wireE_long (by assumption) (by assumption)).symm, rfl⟩
   | exact ⟨(wireE_yes (by assumption) (by assumption)).symm, rfl⟩


theorem decW_long {l : List UInt8} (h : 480 < (l.length : Int)) : decW l = 4 ∧ decQ l = rqBare 0 := by
  have h' : 480 < l.length := by omega
  unfold decW decQ; simp only [if_pos h']; exact ⟨trivial, trivial⟩
theorem decW_no {l : List UInt8} (h : ¬ 480 < (l.length : Int)) (hd : ¬ decOk l) : decW l = 3 ∧ decQ l = rqBare 0 := by
  have h' : ¬ 480 < l.length := by omega
  unfold decW decQ; simp only [if_neg h', if_neg hd]; exact ⟨trivial, trivial⟩
theorem decW_yes {l : List UInt8} (h : ¬ 480 < (l.length : Int)) (hd : decOk l) : decW l = 0 ∧ decQ l = (dfs l).1 := by
  have h' : ¬ 480 < l.length := by omega
  unfold decW decQ; simp only [if_neg h', if_pos hd]; exact ⟨trivial, trivial⟩
theorem rdecW_long {l : List UInt8} (h : 480 < (l.length : Int)) : rdecW l = 4 ∧ rdecQ l = rqBare 0 := by
  have h' : 480 < l.length := by omega
  unfold rdecW rdecQ; simp only [if_pos h']; exact ⟨trivial, trivial⟩
theorem rdecW_no {l : List UInt8} (h : ¬ 480 < (l.length : Int)) (hd : ¬ rdecOk l) : rdecW l = 3 ∧ rdecQ l = rqBare 0 := by
  have h' : ¬ 480 < l.length := by omega
  unfold rdecW rdecQ; simp only [if_neg h', if_neg hd]; exact ⟨trivial, trivial⟩
theorem rdecW_yes {l : List UInt8} (h : ¬ 480 < (l.length : Int)) (hd : rdecOk l) : rdecW l = 0 ∧ rdecQ l = (rfs l).1 := by
  have h' : ¬ 480 < l.length := by omega
  unfold rdecW rdecQ; simp only [if_neg h', if_pos hd]; exact ⟨trivial, trivial⟩
theorem rdF_tx (q : Rq) (c : Int) (l : List UInt8) (e : Nat) (he : e ≤ 1000) (h : (∀ i, (q.tx i).length ≤ 9223372036854775807) ∧ ∀ i, -9223372036854775808 ≤ q.nx i ∧ q.nx i ≤ 9223372036854775807) : (∀ i, ((rdF q c l e).1.tx i).length ≤ 9223372036854775807) ∧ ∀ i, -9223372036854775808 ≤ (rdF q c l e).1.nx i ∧ (rdF q c l e).1.nx i ≤ 9223372036854775807 := by
  rcases letter3 c with ⟨i, htx, hnx, hb1, hb2⟩ | ⟨i, htx, hnx, hb1, hb2⟩ | ⟨htx, hnx⟩
  · rw [rdF_text l e htx]
    have := (rdStr_bd 100 l e he (by omega)).1
    refine ⟨fun j => ?_, h.2⟩
    show (if j = i then _ else _ : List UInt8).length ≤ _
    split
    · omega
    · exact h.1 j
  · rw [rdF_num l e htx hnx]
    have := (rdInt_bd 1099511627776 l e he (by omega)).1
    refine ⟨h.1, fun j => ?_⟩
    show _ ≤ (if j = i then _ else _ : Int) ∧ (if j = i then _ else _ : Int) ≤ _
    split
    · omega
    · exact h.2 j
  · rw [rdF_flag l e htx hnx]; exact h
theorem rdFs_tx (q : Rq) (l : List UInt8) (e : Nat) (he : e ≤ 1000) (cs : List UInt8) (h : (∀ i, (q.tx i).length ≤ 9223372036854775807) ∧ ∀ i, -9223372036854775808 ≤ q.nx i ∧ q.nx i ≤ 9223372036854775807) : ∀ k, (∀ i, ((rdFs q (cs.take k) l e).1.tx i).length ≤ 9223372036854775807) ∧ ∀ i, -9223372036854775808 ≤ (rdFs q (cs.take k) l e).1.nx i ∧ (rdFs q (cs.take k) l e).1.nx i ≤ 9223372036854775807
  | 0 => h
  | k + 1 => by
    have ih := rdFs_tx q l e he cs h k
    by_cases hk : k < cs.length
    · rw [rdFs_next q cs k hk]
      exact rdF_tx _ _ _ _ (rdFs_bd q l e he cs k).2 ih
    · rw [List.take_of_length_le (by omega)] at ih ⊢
      exact ih
theorem bare_tx (k : Int) : (∀ i, ((rqBare k).tx i).length ≤ 9223372036854775807) ∧ ∀ i, -9223372036854775808 ≤ (rqBare k).nx i ∧ (rqBare k).nx i ≤ 9223372036854775807 :=
  ⟨fun i => by simp [rqBare], fun i => by simp [rqBare]⟩
theorem dfs_ok (l : List UInt8) : RqOk (dfs l).1 := by
  have hb := dk_bd l
  have h := rdFs_tx (rqBare ((dk l).1 : Int)) (dk l).2.1 (dk l).2.2 hb.2.2 (fieldsK ((dk l).1 : Int)) (bare_tx _) (fieldsK ((dk l).1 : Int)).length
  rw [List.take_length] at h
  have hk : (dfs l).1.kind = ((dk l).1 : Int) := rdFs_kind _ _ _ _
  refine ⟨?_, h⟩
  rw [hk]
  omega
theorem bare0_ok : RqOk (rqBare 0) := ⟨by simp [rqBare], bare_tx 0⟩
theorem decQ_ok (l : List UInt8) : RqOk (decQ l) := by
  unfold decQ
  split
  · exact bare0_ok
  · split
    · exact dfs_ok l
    · exact bare0_ok
attribute [local irreducible] dk dfs

set_option maxRecDepth 100000 in
set_option maxHeartbeats 1000000 in
theorem wire_decode (l : List UInt8) (hl : l.length ≤ 140737488350000) :
    Ct Try.prog 26 [.string (bs l)] [] [] fun r post => r = .tuple #[.agg (rqCells (decQ l)).toArray, .int .i64 (decW l)] ∧ post = [] := by
 have hok := dfs_ok l
 refine ct_of Try.func26 rfl rfl (fun w0 => ?_)
 show G _ _ [(0, _)] _ _
 refine G_seq ?_
 refine G_region (l := [0, 1]) rfl ?_
 refine G_new rfl rfl rfl rfl (N_allocA rfl infWireR_40 rfl) (fun b2 => ?_)
 refine G_val rfl rfl rfl rfl (V_assign rfl rfl) ?_
 refine G_done ?_
 refine G_seq ?_
 refine G_seq ?_
 refine G_region (l := [0, 1, 2]) rfl ?_
 refine G_val rfl rfl rfl rfl (V_move rfl rfl) ?_
 refine G_val rfl rfl rfl rfl (V_slen rfl rfl Try.underlying9 rfl) ?_
 refine G_val rfl rfl rfl rfl (V_gtr rfl rfl rfl) ?_
 refine G_done ?_
 refine G_ifD rfl (fun hc1 => ?_) (fun hc1 => ?_)
 · skip
   refine G_seq ?_
   refine G_region (l := [0, 1, 2]) rfl ?_
   refine G_val rfl rfl rfl rfl (V_buildS (cs := [_, _, _, _, _, _, _, _, _, _, _, _, _, _, _, _, _]) rfl Try.underlying40 infWireR_40 rfl plcWireR_40 rfl rfl rfl) ?_
   refine G_put (l1 := []) (L' := [_]) rfl rfl rfl rfl (P_storeA (s := 17) rfl rfl rfl (mem_at 0 rfl) (by first | rfl | (simp [bcells_length, rqCells, rqCells, rqCells, rqCells, rqCells]; done) | (simp [bcells_length, rqCells, rqCells, rqCells, rqCells, rqCells]; omega) | (simp [bcells_length, *, rqCells, rqCells, rqCells, rqCells, rqCells]; done)) infWireR_40 rfl (by first | rfl | (simp [bcells_length, rqCells, rqCells, rqCells, rqCells, rqCells]; done) | (simp [bcells_length, rqCells, rqCells, rqCells, rqCells, rqCells]; omega) | (simp [bcells_length, *, rqCells, rqCells, rqCells, rqCells, rqCells]; done)) (by first | rfl | exact bcells_all _ | (simp [Value.oneCell', rqCells, rqCells, rqCells, rqCells, rqCells]; done) | (simp [Value.oneCell', *, rqCells, rqCells, rqCells, rqCells, rqCells]; done))) rfl ?_
   refine G_val rfl rfl rfl rfl (V_assign rfl rfl) ?_
   refine G_done ?_
   refine G_ret (post := []) Try.func26 rfl (RVs_cons (RV_cell (s := 17) rfl (mem_at 0 rfl) Try.underlying40 rfl infWireR_40 rfl (by first | rfl | (simp [bcells_length, rqCells, rqCells, rqCells, rqCells, rqCells]; done) | (simp [bcells_length, rqCells, rqCells, rqCells, rqCells, rqCells]; omega) | (simp [bcells_length, *, rqCells, rqCells, rqCells, rqCells, rqCells]; done))) (RVs_cons (RV_tmp rfl) RVs_nil)) [] rfl ?_
   dsimp only [packed]
   first
     | (obtain ⟨a, b⟩ := decW_long (l := l) (by assumption); rw [a, b]; exact ⟨rfl, rfl⟩)
     | (obtain ⟨a, b⟩ := decW_no (l := l) (by assumption) (fun h => by have h1 := h.1; have h2 := h.2; simp_all); rw [a, b]; exact ⟨rfl, rfl⟩)
     | (obtain ⟨a, b⟩ := decW_yes (l := l) (by assumption) ⟨by omega, by simpa using (by assumption : (!mayQ (dfs l).1) = false)⟩; rw [a, b]; exact ⟨rfl, rfl⟩)
 refine G_skip ?_
 refine G_seq ?_
 refine G_region (l := [0, 1, 2, 3, 4]) rfl ?_
 refine G_val rfl rfl rfl rfl (V_move rfl rfl) ?_
 refine G_call (L2 := [_]) rfl rfl rfl rfl rfl rfl Try.call84 (rd_new _) [] [] rfl rfl ?_
 rintro v post ⟨br, rfl, rfl⟩
 show G _ _ _ [_, _] _
 refine G_val rfl rfl rfl rfl (V_buildS (cs := [_, _, _, _]) rfl Try.underlying136 infWireR_136 rfl plcWireR_136 rfl rfl rfl) ?_
 refine G_new rfl rfl rfl rfl (N_allocA rfl infWireR_136 rfl) (fun b4 => ?_)
 refine G_put (l1 := []) (L' := [_, _, _]) rfl rfl rfl rfl (P_storeA (s := 4) rfl rfl rfl (mem_at 0 rfl) (by first | rfl | (simp [bcells_length, rqCells, rqCells, rqCells, rqCells, rqCells]; done) | (simp [bcells_length, rqCells, rqCells, rqCells, rqCells, rqCells]; omega) | (simp [bcells_length, *, rqCells, rqCells, rqCells, rqCells, rqCells]; done)) infWireR_136 rfl (by first | rfl | (simp [bcells_length, rqCells, rqCells, rqCells, rqCells, rqCells]; done) | (simp [bcells_length, rqCells, rqCells, rqCells, rqCells, rqCells]; omega) | (simp [bcells_length, *, rqCells, rqCells, rqCells, rqCells, rqCells]; done)) (by first | rfl | exact bcells_all _ | (simp [Value.oneCell', rqCells, rqCells, rqCells, rqCells, rqCells]; done) | (simp [Value.oneCell', *, rqCells, rqCells, rqCells, rqCells, rqCells]; done))) rfl ?_
 refine G_done ?_
 refine G_seq ?_
 refine G_region (l := [0]) rfl ?_
 refine G_new rfl rfl rfl rfl (N_allocA rfl infWireR_40 rfl) (fun b5 => ?_)
 refine G_done ?_
 refine G_seq ?_
 refine G_region (l := [0]) rfl ?_
 refine G_call (L2 := [_, _]) rfl rfl rfl rfl rfl rfl Try.call96 (r_all b4 b5 br l hl) [0, 1] [0] rfl rfl ?_
 rintro v post ⟨rfl, rfl⟩
 show G _ _ _ [_, _, _, _] _
 refine G_done ?_
 refine G_seq ?_
 refine G_seq ?_
 refine G_region (l := [0, 1, 2, 3, 4, 5, 6, 7, 8]) rfl ?_
 refine G_val rfl rfl rfl rfl (V_fieldAddr (fo := 2) rfl Try.underlying136 rfl infWireR_127 rfl rfl rfl) ?_
 refine G_val rfl rfl rfl rfl (V_load1 rfl rfl (mem_at 2 rfl) rfl Try.underlying127 rfl) ?_
 refine G_call (L2 := [_, _, _, _]) rfl rfl rfl rfl rfl rfl Try.call89 (rd_end _ _ _) [] [1] rfl rfl ?_
 rintro v post ⟨rfl, rfl⟩
 show G _ _ _ [_, _, _, _] _
 refine G_val rfl rfl rfl rfl (V_neq rfl rfl rfl) ?_
 refine G_val rfl rfl rfl rfl (V_move rfl rfl) ?_
 refine G_splitD 18 rfl (fun hc2 => ?_) (fun hc2 => ?_)
 · skip
   refine G_off rfl rfl rfl rfl ?_
   refine G_off rfl rfl rfl rfl ?_
   refine G_off rfl rfl rfl rfl ?_
   refine G_val rfl rfl rfl rfl (V_pickT rfl rfl rfl) ?_
   refine G_done ?_
   refine G_then rfl ?_
   refine G_seq ?_
   refine G_region (l := [0, 1, 2]) rfl ?_
   refine G_val rfl rfl rfl rfl (V_buildS (cs := [_, _, _, _, _, _, _, _, _, _, _, _, _, _, _, _, _]) rfl Try.underlying40 infWireR_40 rfl plcWireR_40 rfl rfl rfl) ?_
   refine G_put (l1 := [_, _, _]) (L' := [_, _, _, _]) rfl rfl rfl rfl (P_storeA (s := 17) rfl rfl rfl (mem_at 3 rfl) (by first | rfl | (simp [bcells_length, rqCells, rqCells, rqCells, rqCells, rqCells]; done) | (simp [bcells_length, rqCells, rqCells, rqCells, rqCells, rqCells]; omega) | (simp [bcells_length, *, rqCells, rqCells, rqCells, rqCells, rqCells]; done)) infWireR_40 rfl (by first | rfl | (simp [bcells_length, rqCells, rqCells, rqCells, rqCells, rqCells]; done) | (simp [bcells_length, rqCells, rqCells, rqCells, rqCells, rqCells]; omega) | (simp [bcells_length, *, rqCells, rqCells, rqCells, rqCells, rqCells]; done)) (by first | rfl | exact bcells_all _ | (simp [Value.oneCell', rqCells, rqCells, rqCells, rqCells, rqCells]; done) | (simp [Value.oneCell', *, rqCells, rqCells, rqCells, rqCells, rqCells]; done))) rfl ?_
   refine G_val rfl rfl rfl rfl (V_assign rfl rfl) ?_
   refine G_done ?_
   refine G_ret (post := []) Try.func26 rfl (RVs_cons (RV_cell (s := 17) rfl (mem_at 3 rfl) Try.underlying40 rfl infWireR_40 rfl (by first | rfl | (simp [bcells_length, rqCells, rqCells, rqCells, rqCells, rqCells]; done) | (simp [bcells_length, rqCells, rqCells, rqCells, rqCells, rqCells]; omega) | (simp [bcells_length, *, rqCells, rqCells, rqCells, rqCells, rqCells]; done))) (RVs_cons (RV_tmp rfl) RVs_nil)) [] rfl ?_
   dsimp only [packed]
   first
     | (obtain ⟨a, b⟩ := decW_long (l := l) (by assumption); rw [a, b]; exact ⟨rfl, rfl⟩)
     | (obtain ⟨a, b⟩ := decW_no (l := l) (by assumption) (fun h => by have h1 := h.1; have h2 := h.2; simp_all); rw [a, b]; exact ⟨rfl, rfl⟩)
     | (obtain ⟨a, b⟩ := decW_yes (l := l) (by assumption) ⟨by omega, by simpa using (by assumption : (!mayQ (dfs l).1) = false)⟩; rw [a, b]; exact ⟨rfl, rfl⟩)
 first
   | refine G_val rfl rfl rfl rfl (V_loadW (s := 17) rfl rfl (mem_at 0 rfl) Try.underlying40 rfl infWireR_40 rfl (by first | rfl | (simp [bcells_length, rqCells, rqCells, rqCells, rqCells, rqCells]; done) | (simp [bcells_length, rqCells, rqCells, rqCells, rqCells, rqCells]; omega) | (simp [bcells_length, *, rqCells, rqCells, rqCells, rqCells, rqCells]; done))) ?_
   | refine G_val rfl rfl rfl rfl (V_loadA (s := 17) rfl rfl (mem_at 0 rfl) Try.underlying40 rfl infWireR_40 rfl rfl (by first | rfl | (simp [bcells_length, rqCells, rqCells, rqCells, rqCells, rqCells]; done) | (simp [bcells_length, rqCells, rqCells, rqCells, rqCells, rqCells]; omega) | (simp [bcells_length, *, rqCells, rqCells, rqCells, rqCells, rqCells]; done))) ?_
 refine G_call (L2 := [_, _, _, _]) rfl rfl rfl rfl rfl rfl Try.call95 (msg_may _ hok) [] [] rfl rfl ?_
 rintro v post ⟨rfl, rfl⟩
 show G _ _ _ [_, _, _, _] _
 refine G_val rfl rfl rfl rfl (V_not rfl rfl) ?_
 refine G_val rfl rfl rfl rfl (V_pickF rfl rfl rfl) ?_
 refine G_done ?_
 refine G_if rfl (fun hc3 => ?_) (fun hc3 => ?_)
 · skip
   refine G_seq ?_
   refine G_region (l := [0, 1, 2]) rfl ?_
   refine G_val rfl rfl rfl rfl (V_buildS (cs := [_, _, _, _, _, _, _, _, _, _, _, _, _, _, _, _, _]) rfl Try.underlying40 infWireR_40 rfl plcWireR_40 rfl rfl rfl) ?_
   refine G_put (l1 := [_, _, _]) (L' := [_, _, _, _]) rfl rfl rfl rfl (P_storeA (s := 17) rfl rfl rfl (mem_at 3 rfl) (by first | rfl | (simp [bcells_length, rqCells, rqCells, rqCells, rqCells, rqCells]; done) | (simp [bcells_length, rqCells, rqCells, rqCells, rqCells, rqCells]; omega) | (simp [bcells_length, *, rqCells, rqCells, rqCells, rqCells, rqCells]; done)) infWireR_40 rfl (by first | rfl | (simp [bcells_length, rqCells, rqCells, rqCells, rqCells, rqCells]; done) | (simp [bcells_length, rqCells, rqCells, rqCells, rqCells, rqCells]; omega) | (simp [bcells_length, *, rqCells, rqCells, rqCells, rqCells, rqCells]; done)) (by first | rfl | exact bcells_all _ | (simp [Value.oneCell', rqCells, rqCells, rqCells, rqCells, rqCells]; done) | (simp [Value.oneCell', *, rqCells, rqCells, rqCells, rqCells, rqCells]; done))) rfl ?_
   refine G_val rfl rfl rfl rfl (V_assign rfl rfl) ?_
   refine G_done ?_
   refine G_ret (post := []) Try.func26 rfl (RVs_cons (RV_cell (s := 17) rfl (mem_at 3 rfl) Try.underlying40 rfl infWireR_40 rfl (by first | rfl | (simp [bcells_length, rqCells, rqCells, rqCells, rqCells, rqCells]; done) | (simp [bcells_length, rqCells, rqCells, rqCells, rqCells, rqCells]; omega) | (simp [bcells_length, *, rqCells, rqCells, rqCells, rqCells, rqCells]; done))) (RVs_cons (RV_tmp rfl) RVs_nil)) [] rfl ?_
   dsimp only [packed]
   first
     | (obtain ⟨a, b⟩ := decW_long (l := l) (by assumption); rw [a, b]; exact ⟨rfl, rfl⟩)
     | (obtain ⟨a, b⟩ := decW_no (l := l) (by assumption) (fun h => by have h1 := h.1; have h2 := h.2; simp_all); rw [a, b]; exact ⟨rfl, rfl⟩)
     | (obtain ⟨a, b⟩ := decW_yes (l := l) (by assumption) ⟨by omega, by simpa using (by assumption : (!mayQ (dfs l).1) = false)⟩; rw [a, b]; exact ⟨rfl, rfl⟩)
 refine G_skip ?_
 refine G_seq ?_
 refine G_region (l := [0, 1, 2]) rfl ?_
 first
   | refine G_val rfl rfl rfl rfl (V_loadW (s := 17) rfl rfl (mem_at 0 rfl) Try.underlying40 rfl infWireR_40 rfl (by first | rfl | (simp [bcells_length, rqCells, rqCells, rqCells, rqCells, rqCells]; done) | (simp [bcells_length, rqCells, rqCells, rqCells, rqCells, rqCells]; omega) | (simp [bcells_length, *, rqCells, rqCells, rqCells, rqCells, rqCells]; done))) ?_
   | refine G_val rfl rfl rfl rfl (V_loadA (s := 17) rfl rfl (mem_at 0 rfl) Try.underlying40 rfl infWireR_40 rfl rfl (by first | rfl | (simp [bcells_length, rqCells, rqCells, rqCells, rqCells, rqCells]; done) | (simp [bcells_length, rqCells, rqCells, rqCells, rqCells, rqCells]; omega) | (simp [bcells_length, *, rqCells, rqCells, rqCells, rqCells, rqCells]; done))) ?_
 refine G_put (l1 := [_, _, _]) (L' := [_, _, _, _]) rfl rfl rfl rfl (P_storeA (s := 17) rfl rfl rfl (mem_at 3 rfl) (by first | rfl | (simp [bcells_length, rqCells, rqCells, rqCells, rqCells, rqCells]; done) | (simp [bcells_length, rqCells, rqCells, rqCells, rqCells, rqCells]; omega) | (simp [bcells_length, *, rqCells, rqCells, rqCells, rqCells, rqCells]; done)) infWireR_40 rfl (by first | rfl | (simp [bcells_length, rqCells, rqCells, rqCells, rqCells, rqCells]; done) | (simp [bcells_length, rqCells, rqCells, rqCells, rqCells, rqCells]; omega) | (simp [bcells_length, *, rqCells, rqCells, rqCells, rqCells, rqCells]; done)) (by first | rfl | exact bcells_all _ | (simp [Value.oneCell', rqCells, rqCells, rqCells, rqCells, rqCells]; done) | (simp [Value.oneCell', *, rqCells, rqCells, rqCells, rqCells, rqCells]; done))) rfl ?_
 refine G_val rfl rfl rfl rfl (V_assign rfl rfl) ?_
 refine G_done ?_
 refine G_ret (post := []) Try.func26 rfl (RVs_cons (RV_cell (s := 17) rfl (mem_at 3 rfl) Try.underlying40 rfl infWireR_40 rfl (by first | rfl | (simp [bcells_length, rqCells, rqCells, rqCells, rqCells, rqCells]; done) | (simp [bcells_length, rqCells, rqCells, rqCells, rqCells, rqCells]; omega) | (simp [bcells_length, *, rqCells, rqCells, rqCells, rqCells, rqCells]; done))) (RVs_cons (RV_tmp rfl) RVs_nil)) [] rfl ?_
 dsimp only [packed]
 first
   | (obtain ⟨a, b⟩ := decW_long (l := l) (by assumption); rw [a, b]; exact ⟨rfl, rfl⟩)
   | (obtain ⟨a, b⟩ := decW_no (l := l) (by assumption) (fun h => by have h1 := h.1; have h2 := h.2; simp_all); rw [a, b]; exact ⟨rfl, rfl⟩)
   | (obtain ⟨a, b⟩ := decW_yes (l := l) (by assumption) ⟨by omega, by simpa using (by assumption : (!mayQ (dfs l).1) = false)⟩; rw [a, b]; exact ⟨rfl, rfl⟩)

set_option maxRecDepth 100000 in
set_option maxHeartbeats 1000000 in
theorem rw_flag (b : Bool) :
    Ct Try.prog 140 [.bool b] [] [] fun v post => v = .int .i64 (if b then 1 else 0) ∧ post = [] := by
 refine ct_of Try.func140 rfl rfl (fun w0 => ?_)
 show G _ _ [(0, _)] _ _
 refine G_seq ?_
 refine G_region (l := [0]) rfl ?_
 refine G_val rfl rfl rfl rfl (V_assign rfl rfl) ?_
 refine G_done ?_
 refine G_seq ?_
 refine G_seq ?_
 cases b
 · skip
   refine G_region (l := [0]) rfl ?_
   refine G_val rfl rfl rfl rfl (V_move rfl rfl) ?_
   refine G_done ?_
   refine G_if rfl (fun hc1 => ?_) (fun hc1 => ?_)
   · (first | (exact absurd rfl hc1) | (exact absurd hc1 (by decide)) | (exfalso; omega))
   refine G_skip ?_
   refine G_seq ?_
   refine G_region (l := [0]) rfl ?_
   refine G_val rfl rfl rfl rfl (V_assign rfl rfl) ?_
   refine G_done ?_
   refine G_ret (post := []) Try.func140 rfl (RVs_cons (RV_tmp rfl) RVs_nil) [] rfl ?_
   dsimp only [packed]
   exact ⟨rfl, rfl⟩
 · skip
   refine G_region (l := [0]) rfl ?_
   refine G_val rfl rfl rfl rfl (V_move rfl rfl) ?_
   refine G_done ?_
   refine G_if rfl (fun hc1 => ?_) (fun hc1 => ?_)
   rotate_left
   · (first | (exact absurd rfl hc1) | (exact absurd hc1 (by decide)) | (exfalso; omega))
   refine G_seq ?_
   refine G_region (l := [0]) rfl ?_
   refine G_val rfl rfl rfl rfl (V_assign rfl rfl) ?_
   refine G_done ?_
   refine G_ret (post := []) Try.func140 rfl (RVs_cons (RV_tmp rfl) RVs_nil) [] rfl ?_
   dsimp only [packed]
   exact ⟨rfl, rfl⟩

set_option maxRecDepth 100000 in
set_option maxHeartbeats 1000000 in
theorem rw_num (x : Int) (hx : 0 ≤ x ∧ x ≤ 1099511627776) :
    Ct Try.prog 76 [.int .i64 x] [] [] fun v post => v = .string (bs (chainI x)) ∧ post = [] := by
 obtain ⟨hx0, hx1⟩ := hx
 refine ct_of Try.func76 rfl rfl (fun w0 => ?_)
 show G _ _ [(0, _)] _ _
 refine G_seq ?_
 refine G_region (l := [0]) rfl ?_
 refine G_val rfl rfl rfl rfl (V_assign rfl rfl) ?_
 refine G_done ?_
 refine G_seq ?_
 refine G_region (l := [0, 1, 2, 3]) rfl ?_
 refine G_val rfl rfl rfl rfl (V_move rfl rfl) ?_
 first
   | refine G_val rfl rfl rfl rfl ((V_conv rfl rfl Try.underlying3 Try.underlying94).int (wrap_u64 (by omega))) ?_
   | refine G_val rfl rfl rfl rfl (V_conv rfl rfl Try.underlying3 Try.underlying94) ?_
 refine G_call (L2 := []) rfl rfl rfl rfl rfl rfl Try.call78 (ct_rchain _ (by omega) (by omega)) [] [] rfl rfl ?_
 rintro v post ⟨rfl, rfl⟩
 refine G_val rfl rfl rfl rfl (V_assign rfl rfl) ?_
 refine G_done ?_
 refine G_ret (post := []) Try.func76 rfl (RVs_cons (RV_tmp rfl) RVs_nil) [] rfl ?_
 dsimp only [packed]
 exact ⟨rfl, rfl⟩

set_option maxRecDepth 100000 in
set_option maxHeartbeats 1000000 in
theorem rw_field (q : Rq) (c : Int) (hf : FOk q c) :
    Ct Try.prog 100 [.agg (rqCells q).toArray, .int .u8 c] [] [] fun v post => v = .string (bs (encF q c)) ∧ post = [] := by
 refine ct_of Try.func100 rfl rfl (fun w0 => ?_)
 show G _ _ [(0, _), (1, _)] _ _
 refine G_seq ?_
 refine G_region (l := [0, 1]) rfl ?_
 refine G_new rfl rfl rfl rfl (N_boxA rfl rfl) (fun b2 => ?_)
 refine G_val rfl rfl rfl rfl (V_assign rfl rfl) ?_
 refine G_done ?_
 refine G_seq ?_
 refine G_seq ?_
 refine G_region (l := [0]) rfl ?_
 refine G_val rfl rfl rfl rfl (V_move rfl rfl) ?_
 refine G_done ?_
 refine G_block ?_
 refine G_seq ?_
 refine G_region (l := [0, 1]) rfl ?_
 refine G_val rfl rfl rfl rfl (V_eql rfl rfl rfl) ?_
 refine G_val rfl rfl rfl rfl (V_assign rfl rfl) ?_
 refine G_done ?_
 refine G_ifD rfl (fun hc1 => ?_) (fun hc1 => ?_)
 · skip
   refine G_seq ?_
   refine G_region (l := [0, 1, 2, 3]) rfl ?_
   refine G_val rfl rfl rfl rfl (V_fieldAddr (fo := 1) rfl Try.underlying40 rfl infWireR_9 rfl rfl rfl) ?_
   refine G_val rfl rfl rfl rfl (V_load1 rfl rfl (mem_at 0 rfl) rfl Try.underlying9 rfl) ?_
   refine G_call (L2 := [_]) rfl rfl rfl rfl rfl rfl Try.call74 (ct_rtext (q.tx 1) (by have := hf.t 1 (by simp [textIdx, *]); omega)) [] [] rfl rfl ?_
   rintro v post ⟨rfl, rfl⟩
   show G _ _ _ [_] _
   refine G_val rfl rfl rfl rfl (V_assign rfl rfl) ?_
   refine G_done ?_
   refine G_ret (post := []) Try.func100 rfl (RVs_cons (RV_tmp rfl) RVs_nil) [] rfl ?_
   dsimp only [packed]
   refine ⟨str_eq ?_, rfl⟩; simp [encF, textIdx, numIdx, *]
 refine G_seq ?_
 refine G_region (l := [0, 1]) rfl ?_
 refine G_val rfl rfl rfl rfl (V_eql rfl rfl rfl) ?_
 refine G_val rfl rfl rfl rfl (V_assign rfl rfl) ?_
 refine G_done ?_
 refine G_ifD rfl (fun hc2 => ?_) (fun hc2 => ?_)
 · skip
   refine G_seq ?_
   refine G_region (l := [0, 1, 2, 3]) rfl ?_
   refine G_val rfl rfl rfl rfl (V_fieldAddr (fo := 2) rfl Try.underlying40 rfl infWireR_9 rfl rfl rfl) ?_
   refine G_val rfl rfl rfl rfl (V_load1 rfl rfl (mem_at 0 rfl) rfl Try.underlying9 rfl) ?_
   refine G_call (L2 := [_]) rfl rfl rfl rfl rfl rfl Try.call74 (ct_rtext (q.tx 2) (by have := hf.t 2 (by simp [textIdx, *]); omega)) [] [] rfl rfl ?_
   rintro v post ⟨rfl, rfl⟩
   show G _ _ _ [_] _
   refine G_val rfl rfl rfl rfl (V_assign rfl rfl) ?_
   refine G_done ?_
   refine G_ret (post := []) Try.func100 rfl (RVs_cons (RV_tmp rfl) RVs_nil) [] rfl ?_
   dsimp only [packed]
   refine ⟨str_eq ?_, rfl⟩; simp [encF, textIdx, numIdx, *]
 refine G_seq ?_
 refine G_region (l := [0, 1]) rfl ?_
 refine G_val rfl rfl rfl rfl (V_eql rfl rfl rfl) ?_
 refine G_val rfl rfl rfl rfl (V_assign rfl rfl) ?_
 refine G_done ?_
 refine G_ifD rfl (fun hc3 => ?_) (fun hc3 => ?_)
 · skip
   refine G_seq ?_
   refine G_region (l := [0, 1, 2, 3]) rfl ?_
   refine G_val rfl rfl rfl rfl (V_fieldAddr (fo := 3) rfl Try.underlying40 rfl infWireR_9 rfl rfl rfl) ?_
   refine G_val rfl rfl rfl rfl (V_load1 rfl rfl (mem_at 0 rfl) rfl Try.underlying9 rfl) ?_
   refine G_call (L2 := [_]) rfl rfl rfl rfl rfl rfl Try.call74 (ct_rtext (q.tx 3) (by have := hf.t 3 (by simp [textIdx, *]); omega)) [] [] rfl rfl ?_
   rintro v post ⟨rfl, rfl⟩
   show G _ _ _ [_] _
   refine G_val rfl rfl rfl rfl (V_assign rfl rfl) ?_
   refine G_done ?_
   refine G_ret (post := []) Try.func100 rfl (RVs_cons (RV_tmp rfl) RVs_nil) [] rfl ?_
   dsimp only [packed]
   refine ⟨str_eq ?_, rfl⟩; simp [encF, textIdx, numIdx, *]
 refine G_seq ?_
 refine G_region (l := [0, 1]) rfl ?_
 refine G_val rfl rfl rfl rfl (V_eql rfl rfl rfl) ?_
 refine G_val rfl rfl rfl rfl (V_assign rfl rfl) ?_
 refine G_done ?_
 refine G_ifD rfl (fun hc4 => ?_) (fun hc4 => ?_)
 · skip
   refine G_seq ?_
   refine G_region (l := [0, 1, 2, 3]) rfl ?_
   refine G_val rfl rfl rfl rfl (V_fieldAddr (fo := 4) rfl Try.underlying40 rfl infWireR_9 rfl rfl rfl) ?_
   refine G_val rfl rfl rfl rfl (V_load1 rfl rfl (mem_at 0 rfl) rfl Try.underlying9 rfl) ?_
   refine G_call (L2 := [_]) rfl rfl rfl rfl rfl rfl Try.call74 (ct_rtext (q.tx 4) (by have := hf.t 4 (by simp [textIdx, *]); omega)) [] [] rfl rfl ?_
   rintro v post ⟨rfl, rfl⟩
   show G _ _ _ [_] _
   refine G_val rfl rfl rfl rfl (V_assign rfl rfl) ?_
   refine G_done ?_
   refine G_ret (post := []) Try.func100 rfl (RVs_cons (RV_tmp rfl) RVs_nil) [] rfl ?_
   dsimp only [packed]
   refine ⟨str_eq ?_, rfl⟩; simp [encF, textIdx, numIdx, *]
 refine G_seq ?_
 refine G_region (l := [0, 1]) rfl ?_
 refine G_val rfl rfl rfl rfl (V_eql rfl rfl rfl) ?_
 refine G_val rfl rfl rfl rfl (V_assign rfl rfl) ?_
 refine G_done ?_
 refine G_ifD rfl (fun hc5 => ?_) (fun hc5 => ?_)
 · skip
   refine G_seq ?_
   refine G_region (l := [0, 1, 2, 3]) rfl ?_
   refine G_val rfl rfl rfl rfl (V_fieldAddr (fo := 5) rfl Try.underlying40 rfl infWireR_9 rfl rfl rfl) ?_
   refine G_val rfl rfl rfl rfl (V_load1 rfl rfl (mem_at 0 rfl) rfl Try.underlying9 rfl) ?_
   refine G_call (L2 := [_]) rfl rfl rfl rfl rfl rfl Try.call74 (ct_rtext (q.tx 5) (by have := hf.t 5 (by simp [textIdx, *]); omega)) [] [] rfl rfl ?_
   rintro v post ⟨rfl, rfl⟩
   show G _ _ _ [_] _
   refine G_val rfl rfl rfl rfl (V_assign rfl rfl) ?_
   refine G_done ?_
   refine G_ret (post := []) Try.func100 rfl (RVs_cons (RV_tmp rfl) RVs_nil) [] rfl ?_
   dsimp only [packed]
   refine ⟨str_eq ?_, rfl⟩; simp [encF, textIdx, numIdx, *]
 refine G_seq ?_
 refine G_region (l := [0, 1]) rfl ?_
 refine G_val rfl rfl rfl rfl (V_eql rfl rfl rfl) ?_
 refine G_val rfl rfl rfl rfl (V_assign rfl rfl) ?_
 refine G_done ?_
 refine G_ifD rfl (fun hc6 => ?_) (fun hc6 => ?_)
 · skip
   refine G_seq ?_
   refine G_region (l := [0, 1, 2, 3]) rfl ?_
   refine G_val rfl rfl rfl rfl (V_fieldAddr (fo := 6) rfl Try.underlying40 rfl infWireR_9 rfl rfl rfl) ?_
   refine G_val rfl rfl rfl rfl (V_load1 rfl rfl (mem_at 0 rfl) rfl Try.underlying9 rfl) ?_
   refine G_call (L2 := [_]) rfl rfl rfl rfl rfl rfl Try.call74 (ct_rtext (q.tx 6) (by have := hf.t 6 (by simp [textIdx, *]); omega)) [] [] rfl rfl ?_
   rintro v post ⟨rfl, rfl⟩
   show G _ _ _ [_] _
   refine G_val rfl rfl rfl rfl (V_assign rfl rfl) ?_
   refine G_done ?_
   refine G_ret (post := []) Try.func100 rfl (RVs_cons (RV_tmp rfl) RVs_nil) [] rfl ?_
   dsimp only [packed]
   refine ⟨str_eq ?_, rfl⟩; simp [encF, textIdx, numIdx, *]
 refine G_seq ?_
 refine G_region (l := [0, 1]) rfl ?_
 refine G_val rfl rfl rfl rfl (V_eql rfl rfl rfl) ?_
 refine G_val rfl rfl rfl rfl (V_assign rfl rfl) ?_
 refine G_done ?_
 refine G_ifD rfl (fun hc7 => ?_) (fun hc7 => ?_)
 · skip
   refine G_seq ?_
   refine G_region (l := [0, 1, 2, 3]) rfl ?_
   refine G_val rfl rfl rfl rfl (V_fieldAddr (fo := 7) rfl Try.underlying40 rfl infWireR_3 rfl rfl rfl) ?_
   refine G_val rfl rfl rfl rfl (V_load1 rfl rfl (mem_at 0 rfl) rfl Try.underlying3 rfl) ?_
   refine G_call (L2 := [_]) rfl rfl rfl rfl rfl rfl Try.call76 (rw_num (q.nx 7) (hf.n 7 (by simp [textIdx, *]) (by simp [numIdx, *]))) [] [] rfl rfl ?_
   rintro v post ⟨rfl, rfl⟩
   show G _ _ _ [_] _
   refine G_val rfl rfl rfl rfl (V_assign rfl rfl) ?_
   refine G_done ?_
   refine G_ret (post := []) Try.func100 rfl (RVs_cons (RV_tmp rfl) RVs_nil) [] rfl ?_
   dsimp only [packed]
   refine ⟨str_eq ?_, rfl⟩; simp [encF, textIdx, numIdx, *]
 refine G_seq ?_
 refine G_region (l := [0, 1]) rfl ?_
 refine G_val rfl rfl rfl rfl (V_eql rfl rfl rfl) ?_
 refine G_val rfl rfl rfl rfl (V_assign rfl rfl) ?_
 refine G_done ?_
 refine G_ifD rfl (fun hc8 => ?_) (fun hc8 => ?_)
 · skip
   refine G_seq ?_
   refine G_region (l := [0, 1, 2, 3]) rfl ?_
   refine G_val rfl rfl rfl rfl (V_fieldAddr (fo := 8) rfl Try.underlying40 rfl infWireR_3 rfl rfl rfl) ?_
   refine G_val rfl rfl rfl rfl (V_load1 rfl rfl (mem_at 0 rfl) rfl Try.underlying3 rfl) ?_
   refine G_call (L2 := [_]) rfl rfl rfl rfl rfl rfl Try.call76 (rw_num (q.nx 8) (hf.n 8 (by simp [textIdx, *]) (by simp [numIdx, *]))) [] [] rfl rfl ?_
   rintro v post ⟨rfl, rfl⟩
   show G _ _ _ [_] _
   refine G_val rfl rfl rfl rfl (V_assign rfl rfl) ?_
   refine G_done ?_
   refine G_ret (post := []) Try.func100 rfl (RVs_cons (RV_tmp rfl) RVs_nil) [] rfl ?_
   dsimp only [packed]
   refine ⟨str_eq ?_, rfl⟩; simp [encF, textIdx, numIdx, *]
 refine G_seq ?_
 refine G_region (l := [0, 1]) rfl ?_
 refine G_val rfl rfl rfl rfl (V_eql rfl rfl rfl) ?_
 refine G_val rfl rfl rfl rfl (V_assign rfl rfl) ?_
 refine G_done ?_
 refine G_ifD rfl (fun hc9 => ?_) (fun hc9 => ?_)
 · skip
   refine G_seq ?_
   refine G_region (l := [0, 1, 2, 3]) rfl ?_
   refine G_val rfl rfl rfl rfl (V_fieldAddr (fo := 9) rfl Try.underlying40 rfl infWireR_3 rfl rfl rfl) ?_
   refine G_val rfl rfl rfl rfl (V_load1 rfl rfl (mem_at 0 rfl) rfl Try.underlying3 rfl) ?_
   refine G_call (L2 := [_]) rfl rfl rfl rfl rfl rfl Try.call76 (rw_num (q.nx 9) (hf.n 9 (by simp [textIdx, *]) (by simp [numIdx, *]))) [] [] rfl rfl ?_
   rintro v post ⟨rfl, rfl⟩
   show G _ _ _ [_] _
   refine G_val rfl rfl rfl rfl (V_assign rfl rfl) ?_
   refine G_done ?_
   refine G_ret (post := []) Try.func100 rfl (RVs_cons (RV_tmp rfl) RVs_nil) [] rfl ?_
   dsimp only [packed]
   refine ⟨str_eq ?_, rfl⟩; simp [encF, textIdx, numIdx, *]
 refine G_seq ?_
 refine G_region (l := [0, 1]) rfl ?_
 refine G_val rfl rfl rfl rfl (V_eql rfl rfl rfl) ?_
 refine G_val rfl rfl rfl rfl (V_assign rfl rfl) ?_
 refine G_done ?_
 refine G_ifD rfl (fun hc10 => ?_) (fun hc10 => ?_)
 · skip
   refine G_seq ?_
   refine G_region (l := [0, 1, 2, 3]) rfl ?_
   refine G_val rfl rfl rfl rfl (V_fieldAddr (fo := 10) rfl Try.underlying40 rfl infWireR_3 rfl rfl rfl) ?_
   refine G_val rfl rfl rfl rfl (V_load1 rfl rfl (mem_at 0 rfl) rfl Try.underlying3 rfl) ?_
   refine G_call (L2 := [_]) rfl rfl rfl rfl rfl rfl Try.call76 (rw_num (q.nx 10) (hf.n 10 (by simp [textIdx, *]) (by simp [numIdx, *]))) [] [] rfl rfl ?_
   rintro v post ⟨rfl, rfl⟩
   show G _ _ _ [_] _
   refine G_val rfl rfl rfl rfl (V_assign rfl rfl) ?_
   refine G_done ?_
   refine G_ret (post := []) Try.func100 rfl (RVs_cons (RV_tmp rfl) RVs_nil) [] rfl ?_
   dsimp only [packed]
   refine ⟨str_eq ?_, rfl⟩; simp [encF, textIdx, numIdx, *]
 refine G_seq ?_
 refine G_region (l := [0, 1]) rfl ?_
 refine G_val rfl rfl rfl rfl (V_eql rfl rfl rfl) ?_
 refine G_val rfl rfl rfl rfl (V_assign rfl rfl) ?_
 refine G_done ?_
 refine G_ifD rfl (fun hc11 => ?_) (fun hc11 => ?_)
 · skip
   refine G_seq ?_
   refine G_region (l := [0, 1, 2, 3]) rfl ?_
   refine G_val rfl rfl rfl rfl (V_fieldAddr (fo := 11) rfl Try.underlying40 rfl infWireR_3 rfl rfl rfl) ?_
   refine G_val rfl rfl rfl rfl (V_load1 rfl rfl (mem_at 0 rfl) rfl Try.underlying3 rfl) ?_
   refine G_call (L2 := [_]) rfl rfl rfl rfl rfl rfl Try.call76 (rw_num (q.nx 11) (hf.n 11 (by simp [textIdx, *]) (by simp [numIdx, *]))) [] [] rfl rfl ?_
   rintro v post ⟨rfl, rfl⟩
   show G _ _ _ [_] _
   refine G_val rfl rfl rfl rfl (V_assign rfl rfl) ?_
   refine G_done ?_
   refine G_ret (post := []) Try.func100 rfl (RVs_cons (RV_tmp rfl) RVs_nil) [] rfl ?_
   dsimp only [packed]
   refine ⟨str_eq ?_, rfl⟩; simp [encF, textIdx, numIdx, *]
 refine G_seq ?_
 refine G_region (l := [0, 1]) rfl ?_
 refine G_val rfl rfl rfl rfl (V_eql rfl rfl rfl) ?_
 refine G_val rfl rfl rfl rfl (V_assign rfl rfl) ?_
 refine G_done ?_
 refine G_ifD rfl (fun hc12 => ?_) (fun hc12 => ?_)
 · skip
   refine G_seq ?_
   refine G_region (l := [0, 1, 2, 3]) rfl ?_
   refine G_val rfl rfl rfl rfl (V_fieldAddr (fo := 12) rfl Try.underlying40 rfl infWireR_3 rfl rfl rfl) ?_
   refine G_val rfl rfl rfl rfl (V_load1 rfl rfl (mem_at 0 rfl) rfl Try.underlying3 rfl) ?_
   refine G_call (L2 := [_]) rfl rfl rfl rfl rfl rfl Try.call76 (rw_num (q.nx 12) (hf.n 12 (by simp [textIdx, *]) (by simp [numIdx, *]))) [] [] rfl rfl ?_
   rintro v post ⟨rfl, rfl⟩
   show G _ _ _ [_] _
   refine G_val rfl rfl rfl rfl (V_assign rfl rfl) ?_
   refine G_done ?_
   refine G_ret (post := []) Try.func100 rfl (RVs_cons (RV_tmp rfl) RVs_nil) [] rfl ?_
   dsimp only [packed]
   refine ⟨str_eq ?_, rfl⟩; simp [encF, textIdx, numIdx, *]
 refine G_seq ?_
 refine G_region (l := [0, 1]) rfl ?_
 refine G_val rfl rfl rfl rfl (V_eql rfl rfl rfl) ?_
 refine G_val rfl rfl rfl rfl (V_assign rfl rfl) ?_
 refine G_done ?_
 refine G_ifD rfl (fun hc13 => ?_) (fun hc13 => ?_)
 · skip
   refine G_seq ?_
   refine G_region (l := [0, 1, 2, 3]) rfl ?_
   refine G_val rfl rfl rfl rfl (V_fieldAddr (fo := 13) rfl Try.underlying40 rfl infWireR_3 rfl rfl rfl) ?_
   refine G_val rfl rfl rfl rfl (V_load1 rfl rfl (mem_at 0 rfl) rfl Try.underlying3 rfl) ?_
   refine G_call (L2 := [_]) rfl rfl rfl rfl rfl rfl Try.call76 (rw_num (q.nx 13) (hf.n 13 (by simp [textIdx, *]) (by simp [numIdx, *]))) [] [] rfl rfl ?_
   rintro v post ⟨rfl, rfl⟩
   show G _ _ _ [_] _
   refine G_val rfl rfl rfl rfl (V_assign rfl rfl) ?_
   refine G_done ?_
   refine G_ret (post := []) Try.func100 rfl (RVs_cons (RV_tmp rfl) RVs_nil) [] rfl ?_
   dsimp only [packed]
   refine ⟨str_eq ?_, rfl⟩; simp [encF, textIdx, numIdx, *]
 refine G_seq ?_
 refine G_region (l := [0, 1]) rfl ?_
 refine G_val rfl rfl rfl rfl (V_eql rfl rfl rfl) ?_
 refine G_val rfl rfl rfl rfl (V_assign rfl rfl) ?_
 refine G_done ?_
 refine G_ifD rfl (fun hc14 => ?_) (fun hc14 => ?_)
 · skip
   refine G_seq ?_
   refine G_region (l := [0, 1, 2, 3]) rfl ?_
   refine G_val rfl rfl rfl rfl (V_fieldAddr (fo := 14) rfl Try.underlying40 rfl infWireR_3 rfl rfl rfl) ?_
   refine G_val rfl rfl rfl rfl (V_load1 rfl rfl (mem_at 0 rfl) rfl Try.underlying3 rfl) ?_
   refine G_call (L2 := [_]) rfl rfl rfl rfl rfl rfl Try.call76 (rw_num (q.nx 14) (hf.n 14 (by simp [textIdx, *]) (by simp [numIdx, *]))) [] [] rfl rfl ?_
   rintro v post ⟨rfl, rfl⟩
   show G _ _ _ [_] _
   refine G_val rfl rfl rfl rfl (V_assign rfl rfl) ?_
   refine G_done ?_
   refine G_ret (post := []) Try.func100 rfl (RVs_cons (RV_tmp rfl) RVs_nil) [] rfl ?_
   dsimp only [packed]
   refine ⟨str_eq ?_, rfl⟩; simp [encF, textIdx, numIdx, *]
 refine G_seq ?_
 refine G_region (l := [0, 1]) rfl ?_
 refine G_val rfl rfl rfl rfl (V_eql rfl rfl rfl) ?_
 refine G_val rfl rfl rfl rfl (V_assign rfl rfl) ?_
 refine G_done ?_
 refine G_ifD rfl (fun hc15 => ?_) (fun hc15 => ?_)
 · skip
   refine G_seq ?_
   refine G_region (l := [0, 1, 2, 3]) rfl ?_
   refine G_val rfl rfl rfl rfl (V_fieldAddr (fo := 15) rfl Try.underlying40 rfl infWireR_3 rfl rfl rfl) ?_
   refine G_val rfl rfl rfl rfl (V_load1 rfl rfl (mem_at 0 rfl) rfl Try.underlying3 rfl) ?_
   refine G_call (L2 := [_]) rfl rfl rfl rfl rfl rfl Try.call76 (rw_num (q.nx 15) (hf.n 15 (by simp [textIdx, *]) (by simp [numIdx, *]))) [] [] rfl rfl ?_
   rintro v post ⟨rfl, rfl⟩
   show G _ _ _ [_] _
   refine G_val rfl rfl rfl rfl (V_assign rfl rfl) ?_
   refine G_done ?_
   refine G_ret (post := []) Try.func100 rfl (RVs_cons (RV_tmp rfl) RVs_nil) [] rfl ?_
   dsimp only [packed]
   refine ⟨str_eq ?_, rfl⟩; simp [encF, textIdx, numIdx, *]
 refine G_skip ?_
 refine G_inBlock ?_
 refine G_seq ?_
 refine G_region (l := [0, 1, 2, 3, 4]) rfl ?_
 refine G_val rfl rfl rfl rfl (V_fieldAddr (fo := 16) rfl Try.underlying40 rfl infWireR_4 rfl rfl rfl) ?_
 refine G_val rfl rfl rfl rfl (V_load1 rfl rfl (mem_at 0 rfl) rfl Try.underlying4 rfl) ?_
 refine G_call (L2 := [_]) rfl rfl rfl rfl rfl rfl Try.call140 (rw_flag _) [] [] rfl rfl ?_
 rintro v post ⟨rfl, rfl⟩
 show G _ _ _ [_] _
 refine G_call (L2 := [_]) rfl rfl rfl rfl rfl rfl Try.call76 (rw_num (if q.flag then 1 else 0) (by split <;> omega)) [] [] rfl rfl ?_
 rintro v post ⟨rfl, rfl⟩
 show G _ _ _ [_] _
 refine G_val rfl rfl rfl rfl (V_assign rfl rfl) ?_
 refine G_done ?_
 refine G_ret (post := []) Try.func100 rfl (RVs_cons (RV_tmp rfl) RVs_nil) [] rfl ?_
 dsimp only [packed]
 refine ⟨str_eq ?_, rfl⟩; simp [encF, textIdx, numIdx, *]

set_option maxRecDepth 100000 in
set_option maxHeartbeats 1000000 in
theorem rw_set (b : Nat) (l : List UInt8) (e : Nat) (hl : l.length ≤ 140737488350000) (he : e ≤ 1000) (q : Rq) (c : Int) :
    Ct Try.prog 104 [.agg (rqCells q).toArray, .int .u8 c, .pointer (some ⟨b, 0, none⟩)] [] [(some b, .cells #[.string (bs l), .int .i64 ((e : Nat) : Int)] 133 (0, 0))] fun v post => v = .agg (rqCells (rdF q c l e).1).toArray ∧ post = [(some b, .cells #[.string (bs (rdF q c l e).2.1), .int .i64 (((rdF q c l e).2.2 : Nat) : Int)] 133 (0, 0))] := by
 refine ct_of Try.func104 rfl rfl (fun w0 => ?_)
 show G _ _ [(0, _), (1, _), (2, _)] _ _
 refine G_seq ?_
 refine G_region (l := [0, 1]) rfl ?_
 refine G_new rfl rfl rfl rfl (N_boxA rfl rfl) (fun b3 => ?_)
 refine G_new rfl rfl rfl rfl (N_allocA rfl infWireR_40 rfl) (fun b6 => ?_)
 refine G_done ?_
 refine G_seq ?_
 refine G_seq ?_
 refine G_region (l := [0]) rfl ?_
 refine G_val rfl rfl rfl rfl (V_move rfl rfl) ?_
 refine G_done ?_
 refine G_block ?_
 refine G_seq ?_
 refine G_region (l := [0, 1]) rfl ?_
 refine G_val rfl rfl rfl rfl (V_eql rfl rfl rfl) ?_
 refine G_val rfl rfl rfl rfl (V_assign rfl rfl) ?_
 refine G_done ?_
 refine G_ifD rfl (fun hc1 => ?_) (fun hc1 => ?_)
 · skip
   refine G_region (l := [0, 1, 2, 3]) rfl ?_
   refine G_val rfl rfl rfl rfl (V_move rfl rfl) ?_
   refine G_call (L2 := [_, _]) rfl rfl rfl rfl rfl rfl Try.call90 (rrd_str _ _ _ 100 (by omega) he ⟨by omega, by omega⟩) [2] [] rfl rfl ?_
   rintro v post ⟨rfl, rfl⟩
   show G _ _ _ [_, _, _] _
   refine G_val rfl rfl rfl rfl (V_fieldAddr (fo := 1) rfl Try.underlying40 rfl infWireR_9 rfl rfl rfl) ?_
   refine G_put (l1 := [_, _]) (L' := [_, _, _]) rfl rfl rfl rfl (P_store1 rfl rfl rfl (mem_at 2 rfl) (by first | exact of_decide_eq_true rfl | omega | (simp [rqCells, rqCells, rqCells, rqCells, rqCells]; done) | (simp [rqCells, rqCells, rqCells, rqCells, rqCells]; omega) | (simp [rqCells, rqCells, rqCells, rqCells, rqCells] at *; omega)) infWireR_9 rfl rfl) rfl ?_
   rw [rqCells_setText _ 1 (by omega) (by omega)]
   refine G_done ?_
   refine G_inBlock ?_
   refine G_seq ?_
   refine G_region (l := [0, 1]) rfl ?_
   first
     | refine G_val rfl rfl rfl rfl (V_loadW (s := 17) rfl rfl (mem_at 2 rfl) Try.underlying40 rfl infWireR_40 rfl (by first | rfl | (simp [bcells_length, rqCells, rqCells, rqCells, rqCells, rqCells]; done) | (simp [bcells_length, rqCells, rqCells, rqCells, rqCells, rqCells]; omega) | (simp [bcells_length, *, rqCells, rqCells, rqCells, rqCells, rqCells]; done))) ?_
     | refine G_val rfl rfl rfl rfl (V_loadA (s := 17) rfl rfl (mem_at 2 rfl) Try.underlying40 rfl infWireR_40 rfl rfl (by first | rfl | (simp [bcells_length, rqCells, rqCells, rqCells, rqCells, rqCells]; done) | (simp [bcells_length, rqCells, rqCells, rqCells, rqCells, rqCells]; omega) | (simp [bcells_length, *, rqCells, rqCells, rqCells, rqCells, rqCells]; done))) ?_
   refine G_put (l1 := [_]) (L' := [_, _, _]) rfl rfl rfl rfl (P_storeA (s := 17) rfl rfl rfl (mem_at 1 rfl) (by first | rfl | (simp [bcells_length, rqCells, rqCells, rqCells, rqCells, rqCells]; done) | (simp [bcells_length, rqCells, rqCells, rqCells, rqCells, rqCells]; omega) | (simp [bcells_length, *, rqCells, rqCells, rqCells, rqCells, rqCells]; done)) infWireR_40 rfl (by first | rfl | (simp [bcells_length, rqCells, rqCells, rqCells, rqCells, rqCells]; done) | (simp [bcells_length, rqCells, rqCells, rqCells, rqCells, rqCells]; omega) | (simp [bcells_length, *, rqCells, rqCells, rqCells, rqCells, rqCells]; done)) (by first | rfl | exact bcells_all _ | (simp [Value.oneCell', rqCells, rqCells, rqCells, rqCells, rqCells]; done) | (simp [Value.oneCell', *, rqCells, rqCells, rqCells, rqCells, rqCells]; done))) rfl ?_
   refine G_done ?_
   refine G_ret (post := [_]) Try.func104 rfl (RVs_cons (RV_cell (s := 17) rfl (mem_at 1 rfl) Try.underlying40 rfl infWireR_40 rfl (by first | rfl | (simp [bcells_length, rqCells, rqCells, rqCells, rqCells, rqCells]; done) | (simp [bcells_length, rqCells, rqCells, rqCells, rqCells, rqCells]; omega) | (simp [bcells_length, *, rqCells, rqCells, rqCells, rqCells, rqCells]; done))) RVs_nil) [0] rfl ?_
   dsimp only [packed]
   first
     | (rw [rdF_text (i := 1) l e (by simp [textIdx, *])]; exact ⟨by first | rfl | exact congrArg Value.agg (rqCells_setText q 1 (by omega) (by omega) _), rfl⟩)
     | (rw [rdF_text (i := 2) l e (by simp [textIdx, *])]; exact ⟨by first | rfl | exact congrArg Value.agg (rqCells_setText q 2 (by omega) (by omega) _), rfl⟩)
     | (rw [rdF_text (i := 3) l e (by simp [textIdx, *])]; exact ⟨by first | rfl | exact congrArg Value.agg (rqCells_setText q 3 (by omega) (by omega) _), rfl⟩)
     | (rw [rdF_text (i := 4) l e (by simp [textIdx, *])]; exact ⟨by first | rfl | exact congrArg Value.agg (rqCells_setText q 4 (by omega) (by omega) _), rfl⟩)
     | (rw [rdF_text (i := 5) l e (by simp [textIdx, *])]; exact ⟨by first | rfl | exact congrArg Value.agg (rqCells_setText q 5 (by omega) (by omega) _), rfl⟩)
     | (rw [rdF_text (i := 6) l e (by simp [textIdx, *])]; exact ⟨by first | rfl | exact congrArg Value.agg (rqCells_setText q 6 (by omega) (by omega) _), rfl⟩)
     | (rw [rdF_num (i := 7) l e (by simp [textIdx, *]) (by simp [numIdx, *])]; exact ⟨by first | rfl | exact congrArg Value.agg (rqCells_setNum q 7 (by omega) (by omega) _), rfl⟩)
     | (rw [rdF_num (i := 8) l e (by simp [textIdx, *]) (by simp [numIdx, *])]; exact ⟨by first | rfl | exact congrArg Value.agg (rqCells_setNum q 8 (by omega) (by omega) _), rfl⟩)
     | (rw [rdF_num (i := 9) l e (by simp [textIdx, *]) (by simp [numIdx, *])]; exact ⟨by first | rfl | exact congrArg Value.agg (rqCells_setNum q 9 (by omega) (by omega) _), rfl⟩)
     | (rw [rdF_num (i := 10) l e (by simp [textIdx, *]) (by simp [numIdx, *])]; exact ⟨by first | rfl | exact congrArg Value.agg (rqCells_setNum q 10 (by omega) (by omega) _), rfl⟩)
     | (rw [rdF_num (i := 11) l e (by simp [textIdx, *]) (by simp [numIdx, *])]; exact ⟨by first | rfl | exact congrArg Value.agg (rqCells_setNum q 11 (by omega) (by omega) _), rfl⟩)
     | (rw [rdF_num (i := 12) l e (by simp [textIdx, *]) (by simp [numIdx, *])]; exact ⟨by first | rfl | exact congrArg Value.agg (rqCells_setNum q 12 (by omega) (by omega) _), rfl⟩)
     | (rw [rdF_num (i := 13) l e (by simp [textIdx, *]) (by simp [numIdx, *])]; exact ⟨by first | rfl | exact congrArg Value.agg (rqCells_setNum q 13 (by omega) (by omega) _), rfl⟩)
     | (rw [rdF_num (i := 14) l e (by simp [textIdx, *]) (by simp [numIdx, *])]; exact ⟨by first | rfl | exact congrArg Value.agg (rqCells_setNum q 14 (by omega) (by omega) _), rfl⟩)
     | (rw [rdF_num (i := 15) l e (by simp [textIdx, *]) (by simp [numIdx, *])]; exact ⟨by first | rfl | exact congrArg Value.agg (rqCells_setNum q 15 (by omega) (by omega) _), rfl⟩)
     | (rw [rdF_flag l e (by simp [textIdx, *]) (by simp [numIdx, *])]; exact ⟨rfl, rfl⟩)
 refine G_seq ?_
 refine G_region (l := [0, 1]) rfl ?_
 refine G_val rfl rfl rfl rfl (V_eql rfl rfl rfl) ?_
 refine G_val rfl rfl rfl rfl (V_assign rfl rfl) ?_
 refine G_done ?_
 refine G_ifD rfl (fun hc2 => ?_) (fun hc2 => ?_)
 · skip
   refine G_region (l := [0, 1, 2, 3]) rfl ?_
   refine G_val rfl rfl rfl rfl (V_move rfl rfl) ?_
   refine G_call (L2 := [_, _]) rfl rfl rfl rfl rfl rfl Try.call90 (rrd_str _ _ _ 100 (by omega) he ⟨by omega, by omega⟩) [2] [] rfl rfl ?_
   rintro v post ⟨rfl, rfl⟩
   show G _ _ _ [_, _, _] _
   refine G_val rfl rfl rfl rfl (V_fieldAddr (fo := 2) rfl Try.underlying40 rfl infWireR_9 rfl rfl rfl) ?_
   refine G_put (l1 := [_, _]) (L' := [_, _, _]) rfl rfl rfl rfl (P_store1 rfl rfl rfl (mem_at 2 rfl) (by first | exact of_decide_eq_true rfl | omega | (simp [rqCells, rqCells, rqCells, rqCells, rqCells]; done) | (simp [rqCells, rqCells, rqCells, rqCells, rqCells]; omega) | (simp [rqCells, rqCells, rqCells, rqCells, rqCells] at *; omega)) infWireR_9 rfl rfl) rfl ?_
   rw [rqCells_setText _ 2 (by omega) (by omega)]
   refine G_done ?_
   refine G_inBlock ?_
   refine G_seq ?_
   refine G_region (l := [0, 1]) rfl ?_
   first
     | refine G_val rfl rfl rfl rfl (V_loadW (s := 17) rfl rfl (mem_at 2 rfl) Try.underlying40 rfl infWireR_40 rfl (by first | rfl | (simp [bcells_length, rqCells, rqCells, rqCells, rqCells, rqCells]; done) | (simp [bcells_length, rqCells, rqCells, rqCells, rqCells, rqCells]; omega) | (simp [bcells_length, *, rqCells, rqCells, rqCells, rqCells, rqCells]; done))) ?_
     | refine G_val rfl rfl rfl rfl (V_loadA (s := 17) rfl rfl (mem_at 2 rfl) Try.underlying40 rfl infWireR_40 rfl rfl (by first | rfl | (simp [bcells_length, rqCells, rqCells, rqCells, rqCells, rqCells]; done) | (simp [bcells_length, rqCells, rqCells, rqCells, rqCells, rqCells]; omega) | (simp [bcells_length, *, rqCells, rqCells, rqCells, rqCells, rqCells]; done))) ?_
   refine G_put (l1 := [_]) (L' := [_, _, _]) rfl rfl rfl rfl (P_storeA (s := 17) rfl rfl rfl (mem_at 1 rfl) (by first | rfl | (simp [bcells_length, rqCells, rqCells, rqCells, rqCells, rqCells]; done) | (simp [bcells_length, rqCells, rqCells, rqCells, rqCells, rqCells]; omega) | (simp [bcells_length, *, rqCells, rqCells, rqCells, rqCells, rqCells]; done)) infWireR_40 rfl (by first | rfl | (simp [bcells_length, rqCells, rqCells, rqCells, rqCells, rqCells]; done) | (simp [bcells_length, rqCells, rqCells, rqCells, rqCells, rqCells]; omega) | (simp [bcells_length, *, rqCells, rqCells, rqCells, rqCells, rqCells]; done)) (by first | rfl | exact bcells_all _ | (simp [Value.oneCell', rqCells, rqCells, rqCells, rqCells, rqCells]; done) | (simp [Value.oneCell', *, rqCells, rqCells, rqCells, rqCells, rqCells]; done))) rfl ?_
   refine G_done ?_
   refine G_ret (post := [_]) Try.func104 rfl (RVs_cons (RV_cell (s := 17) rfl (mem_at 1 rfl) Try.underlying40 rfl infWireR_40 rfl (by first | rfl | (simp [bcells_length, rqCells, rqCells, rqCells, rqCells, rqCells]; done) | (simp [bcells_length, rqCells, rqCells, rqCells, rqCells, rqCells]; omega) | (simp [bcells_length, *, rqCells, rqCells, rqCells, rqCells, rqCells]; done))) RVs_nil) [0] rfl ?_
   dsimp only [packed]
   first
     | (rw [rdF_text (i := 1) l e (by simp [textIdx, *])]; exact ⟨by first | rfl | exact congrArg Value.agg (rqCells_setText q 1 (by omega) (by omega) _), rfl⟩)
     | (rw [rdF_text (i := 2) l e (by simp [textIdx, *])]; exact ⟨by first | rfl | exact congrArg Value.agg (rqCells_setText q 2 (by omega) (by omega) _), rfl⟩)
     | (rw [rdF_text (i := 3) l e (by simp [textIdx, *])]; exact ⟨by first | rfl | exact congrArg Value.agg (rqCells_setText q 3 (by omega) (by omega) _), rfl⟩)
     | (rw [rdF_text (i := 4) l e (by simp [textIdx, *])]; exact ⟨by first | rfl | exact congrArg Value.agg (rqCells_setText q 4 (by omega) (by omega) _), rfl⟩)
     | (rw [rdF_text (i := 5) l e (by simp [textIdx, *])]; exact ⟨by first | rfl | exact congrArg Value.agg (rqCells_setText q 5 (by omega) (by omega) _), rfl⟩)
     | (rw [rdF_text (i := 6) l e (by simp [textIdx, *])]; exact ⟨by first | rfl | exact congrArg Value.agg (rqCells_setText q 6 (by omega) (by omega) _), rfl⟩)
     | (rw [rdF_num (i := 7) l e (by simp [textIdx, *]) (by simp [numIdx, *])]; exact ⟨by first | rfl | exact congrArg Value.agg (rqCells_setNum q 7 (by omega) (by omega) _), rfl⟩)
     | (rw [rdF_num (i := 8) l e (by simp [textIdx, *]) (by simp [numIdx, *])]; exact ⟨by first | rfl | exact congrArg Value.agg (rqCells_setNum q 8 (by omega) (by omega) _), rfl⟩)
     | (rw [rdF_num (i := 9) l e (by simp [textIdx, *]) (by simp [numIdx, *])]; exact ⟨by first | rfl | exact congrArg Value.agg (rqCells_setNum q 9 (by omega) (by omega) _), rfl⟩)
     | (rw [rdF_num (i := 10) l e (by simp [textIdx, *]) (by simp [numIdx, *])]; exact ⟨by first | rfl | exact congrArg Value.agg (rqCells_setNum q 10 (by omega) (by omega) _), rfl⟩)
     | (rw [rdF_num (i := 11) l e (by simp [textIdx, *]) (by simp [numIdx, *])]; exact ⟨by first | rfl | exact congrArg Value.agg (rqCells_setNum q 11 (by omega) (by omega) _), rfl⟩)
     | (rw [rdF_num (i := 12) l e (by simp [textIdx, *]) (by simp [numIdx, *])]; exact ⟨by first | rfl | exact congrArg Value.agg (rqCells_setNum q 12 (by omega) (by omega) _), rfl⟩)
     | (rw [rdF_num (i := 13) l e (by simp [textIdx, *]) (by simp [numIdx, *])]; exact ⟨by first | rfl | exact congrArg Value.agg (rqCells_setNum q 13 (by omega) (by omega) _), rfl⟩)
     | (rw [rdF_num (i := 14) l e (by simp [textIdx, *]) (by simp [numIdx, *])]; exact ⟨by first | rfl | exact congrArg Value.agg (rqCells_setNum q 14 (by omega) (by omega) _), rfl⟩)
     | (rw [rdF_num (i := 15) l e (by simp [textIdx, *]) (by simp [numIdx, *])]; exact ⟨by first | rfl | exact congrArg Value.agg (rqCells_setNum q 15 (by omega) (by omega) _), rfl⟩)
     | (rw [rdF_flag l e (by simp [textIdx, *]) (by simp [numIdx, *])]; exact ⟨rfl, rfl⟩)
 refine G_seq ?_
 refine G_region (l := [0, 1]) rfl ?_
 refine G_val rfl rfl rfl rfl (V_eql rfl rfl rfl) ?_
 refine G_val rfl rfl rfl rfl (V_assign rfl rfl) ?_
 refine G_done ?_
 refine G_ifD rfl (fun hc3 => ?_) (fun hc3 => ?_)
 · skip
   refine G_region (l := [0, 1, 2, 3]) rfl ?_
   refine G_val rfl rfl rfl rfl (V_move rfl rfl) ?_
   refine G_call (L2 := [_, _]) rfl rfl rfl rfl rfl rfl Try.call90 (rrd_str _ _ _ 100 (by omega) he ⟨by omega, by omega⟩) [2] [] rfl rfl ?_
   rintro v post ⟨rfl, rfl⟩
   show G _ _ _ [_, _, _] _
   refine G_val rfl rfl rfl rfl (V_fieldAddr (fo := 3) rfl Try.underlying40 rfl infWireR_9 rfl rfl rfl) ?_
   refine G_put (l1 := [_, _]) (L' := [_, _, _]) rfl rfl rfl rfl (P_store1 rfl rfl rfl (mem_at 2 rfl) (by first | exact of_decide_eq_true rfl | omega | (simp [rqCells, rqCells, rqCells, rqCells, rqCells]; done) | (simp [rqCells, rqCells, rqCells, rqCells, rqCells]; omega) | (simp [rqCells, rqCells, rqCells, rqCells, rqCells] at *; omega)) infWireR_9 rfl rfl) rfl ?_
   rw [rqCells_setText _ 3 (by omega) (by omega)]
   refine G_done ?_
   refine G_inBlock ?_
   refine G_seq ?_
   refine G_region (l := [0, 1]) rfl ?_
   first
     | refine G_val rfl rfl rfl rfl (V_loadW (s := 17) rfl rfl (mem_at 2 rfl) Try.underlying40 rfl infWireR_40 rfl (by first | rfl | (simp [bcells_length, rqCells, rqCells, rqCells, rqCells, rqCells]; done) | (simp [bcells_length, rqCells, rqCells, rqCells, rqCells, rqCells]; omega) | (simp [bcells_length, *, rqCells, rqCells, rqCells, rqCells, rqCells]; done))) ?_
     | refine G_val rfl rfl rfl rfl (V_loadA (s := 17) rfl rfl (mem_at 2 rfl) Try.underlying40 rfl infWireR_40 rfl rfl (by first | rfl | (simp [bcells_length, rqCells, rqCells, rqCells, rqCells, rqCells]; done) | (simp [bcells_length, rqCells, rqCells, rqCells, rqCells, rqCells]; omega) | (simp [bcells_length, *, rqCells, rqCells, rqCells, rqCells, rqCells]; done))) ?_
   refine G_put (l1 := [_]) (L' := [_, _, _]) rfl rfl rfl rfl (P_storeA (s := 17) rfl rfl rfl (mem_at 1 rfl) (by first | rfl | (simp [bcells_length, rqCells, rqCells, rqCells, rqCells, rqCells]; done) | (simp [bcells_length, rqCells, rqCells, rqCells, rqCells, rqCells]; omega) | (simp [bcells_length, *, rqCells, rqCells, rqCells, rqCells, rqCells]; done)) infWireR_40 rfl (by first | rfl | (simp [bcells_length, rqCells, rqCells, rqCells, rqCells, rqCells]; done) | (simp [bcells_length, rqCells, rqCells, rqCells, rqCells, rqCells]; omega) | (simp [bcells_length, *, rqCells, rqCells, rqCells, rqCells, rqCells]; done)) (by first | rfl | exact bcells_all _ | (simp [Value.oneCell', rqCells, rqCells, rqCells, rqCells, rqCells]; done) | (simp [Value.oneCell', *, rqCells, rqCells, rqCells, rqCells, rqCells]; done))) rfl ?_
   refine G_done ?_
   refine G_ret (post := [_]) Try.func104 rfl (RVs_cons (RV_cell (s := 17) rfl (mem_at 1 rfl) Try.underlying40 rfl infWireR_40 rfl (by first | rfl | (simp [bcells_length, rqCells, rqCells, rqCells, rqCells, rqCells]; done) | (simp [bcells_length, rqCells, rqCells, rqCells, rqCells, rqCells]; omega) | (simp [bcells_length, *, rqCells, rqCells, rqCells, rqCells, rqCells]; done))) RVs_nil) [0] rfl ?_
   dsimp only [packed]
   first
     | (rw [rdF_text (i := 1) l e (by simp [textIdx, *])]; exact ⟨by first | rfl | exact congrArg Value.agg (rqCells_setText q 1 (by omega) (by omega) _), rfl⟩)
     | (rw [rdF_text (i := 2) l e (by simp [textIdx, *])]; exact ⟨by first | rfl | exact congrArg Value.agg (rqCells_setText q 2 (by omega) (by omega) _), rfl⟩)
     | (rw [rdF_text (i := 3) l e (by simp [textIdx, *])]; exact ⟨by first | rfl | exact congrArg Value.agg (rqCells_setText q 3 (by omega) (by omega) _), rfl⟩)
     | (rw [rdF_text (i := 4) l e (by simp [textIdx, *])]; exact ⟨by first | rfl | exact congrArg Value.agg (rqCells_setText q 4 (by omega) (by omega) _), rfl⟩)
     | (rw [rdF_text (i := 5) l e (by simp [textIdx, *])]; exact ⟨by first | rfl | exact congrArg Value.agg (rqCells_setText q 5 (by omega) (by omega) _), rfl⟩)
     | (rw [rdF_text (i := 6) l e (by simp [textIdx, *])]; exact ⟨by first | rfl | exact congrArg Value.agg (rqCells_setText q 6 (by omega) (by omega) _), rfl⟩)
     | (rw [rdF_num (i := 7) l e (by simp [textIdx, *]) (by simp [numIdx, *])]; exact ⟨by first | rfl | exact congrArg Value.agg (rqCells_setNum q 7 (by omega) (by omega) _), rfl⟩)
     | (rw [rdF_num (i := 8) l e (by simp [textIdx, *]) (by simp [numIdx, *])]; exact ⟨by first | rfl | exact congrArg Value.agg (rqCells_setNum q 8 (by omega) (by omega) _), rfl⟩)
     | (rw [rdF_num (i := 9) l e (by simp [textIdx, *]) (by simp [numIdx, *])]; exact ⟨by first | rfl | exact congrArg Value.agg (rqCells_setNum q 9 (by omega) (by omega) _), rfl⟩)
     | (rw [rdF_num (i := 10) l e (by simp [textIdx, *]) (by simp [numIdx, *])]; exact ⟨by first | rfl | exact congrArg Value.agg (rqCells_setNum q 10 (by omega) (by omega) _), rfl⟩)
     | (rw [rdF_num (i := 11) l e (by simp [textIdx, *]) (by simp [numIdx, *])]; exact ⟨by first | rfl | exact congrArg Value.agg (rqCells_setNum q 11 (by omega) (by omega) _), rfl⟩)
     | (rw [rdF_num (i := 12) l e (by simp [textIdx, *]) (by simp [numIdx, *])]; exact ⟨by first | rfl | exact congrArg Value.agg (rqCells_setNum q 12 (by omega) (by omega) _), rfl⟩)
     | (rw [rdF_num (i := 13) l e (by simp [textIdx, *]) (by simp [numIdx, *])]; exact ⟨by first | rfl | exact congrArg Value.agg (rqCells_setNum q 13 (by omega) (by omega) _), rfl⟩)
     | (rw [rdF_num (i := 14) l e (by simp [textIdx, *]) (by simp [numIdx, *])]; exact ⟨by first | rfl | exact congrArg Value.agg (rqCells_setNum q 14 (by omega) (by omega) _), rfl⟩)
     | (rw [rdF_num (i := 15) l e (by simp [textIdx, *]) (by simp [numIdx, *])]; exact ⟨by first | rfl | exact congrArg Value.agg (rqCells_setNum q 15 (by omega) (by omega) _), rfl⟩)
     | (rw [rdF_flag l e (by simp [textIdx, *]) (by simp [numIdx, *])]; exact ⟨rfl, rfl⟩)
 refine G_seq ?_
 refine G_region (l := [0, 1]) rfl ?_
 refine G_val rfl rfl rfl rfl (V_eql rfl rfl rfl) ?_
 refine G_val rfl rfl rfl rfl (V_assign rfl rfl) ?_
 refine G_done ?_
 refine G_ifD rfl (fun hc4 => ?_) (fun hc4 => ?_)
 · skip
   refine G_region (l := [0, 1, 2, 3]) rfl ?_
   refine G_val rfl rfl rfl rfl (V_move rfl rfl) ?_
   refine G_call (L2 := [_, _]) rfl rfl rfl rfl rfl rfl Try.call90 (rrd_str _ _ _ 100 (by omega) he ⟨by omega, by omega⟩) [2] [] rfl rfl ?_
   rintro v post ⟨rfl, rfl⟩
   show G _ _ _ [_, _, _] _
   refine G_val rfl rfl rfl rfl (V_fieldAddr (fo := 4) rfl Try.underlying40 rfl infWireR_9 rfl rfl rfl) ?_
   refine G_put (l1 := [_, _]) (L' := [_, _, _]) rfl rfl rfl rfl (P_store1 rfl rfl rfl (mem_at 2 rfl) (by first | exact of_decide_eq_true rfl | omega | (simp [rqCells, rqCells, rqCells, rqCells, rqCells]; done) | (simp [rqCells, rqCells, rqCells, rqCells, rqCells]; omega) | (simp [rqCells, rqCells, rqCells, rqCells, rqCells] at *; omega)) infWireR_9 rfl rfl) rfl ?_
   rw [rqCells_setText _ 4 (by omega) (by omega)]
   refine G_done ?_
   refine G_inBlock ?_
   refine G_seq ?_
   refine G_region (l := [0, 1]) rfl ?_
   first
     | refine G_val rfl rfl rfl rfl (V_loadW (s := 17) rfl rfl (mem_at 2 rfl) Try.underlying40 rfl infWireR_40 rfl (by first | rfl | (simp [bcells_length, rqCells, rqCells, rqCells, rqCells, rqCells]; done) | (simp [bcells_length, rqCells, rqCells, rqCells, rqCells, rqCells]; omega) | (simp [bcells_length, *, rqCells, rqCells, rqCells, rqCells, rqCells]; done))) ?_
     | refine G_val rfl rfl rfl rfl (V_loadA (s := 17) rfl rfl (mem_at 2 rfl) Try.underlying40 rfl infWireR_40 rfl rfl (by first | rfl | (simp [bcells_length, rqCells, rqCells, rqCells, rqCells, rqCells]; done) | (simp [bcells_length, rqCells, rqCells, rqCells, rqCells, rqCells]; omega) | (simp [bcells_length, *, rqCells, rqCells, rqCells, rqCells, rqCells]; done))) ?_
   refine G_put (l1 := [_]) (L' := [_, _, _]) rfl rfl rfl rfl (P_storeA (s := 17) rfl rfl rfl (mem_at 1 rfl) (by first | rfl | (simp [bcells_length, rqCells, rqCells, rqCells, rqCells, rqCells]; done) | (simp [bcells_length, rqCells, rqCells, rqCells, rqCells, rqCells]; omega) | (simp [bcells_length, *, rqCells, rqCells, rqCells, rqCells, rqCells]; done)) infWireR_40 rfl (by first | rfl | (simp [bcells_length, rqCells, rqCells, rqCells, rqCells, rqCells]; done) | (simp [bcells_length, rqCells, rqCells, rqCells, rqCells, rqCells]; omega) | (simp [bcells_length, *, rqCells, rqCells, rqCells, rqCells, rqCells]; done)) (by first | rfl | exact bcells_all _ | (simp [Value.oneCell', rqCells, rqCells, rqCells, rqCells, rqCells]; done) | (simp [Value.oneCell', *, rqCells, rqCells, rqCells, rqCells, rqCells]; done))) rfl ?_
   refine G_done ?_
   refine G_ret (post := [_]) Try.func104 rfl (RVs_cons (RV_cell (s := 17) rfl (mem_at 1 rfl) Try.underlying40 rfl infWireR_40 rfl (by first | rfl | (simp [bcells_length, rqCells, rqCells, rqCells, rqCells, rqCells]; done) | (simp [bcells_length, rqCells, rqCells, rqCells, rqCells, rqCells]; omega) | (simp [bcells_length, *, rqCells, rqCells, rqCells, rqCells, rqCells]; done))) RVs_nil) [0] rfl ?_
   dsimp only [packed]
   first
     | (rw [rdF_text (i := 1) l e (by simp [textIdx, *])]; exact ⟨by first | rfl | exact congrArg Value.agg (rqCells_setText q 1 (by omega) (by omega) _), rfl⟩)
     | (rw [rdF_text (i := 2) l e (by simp [textIdx, *])]; exact ⟨by first | rfl | exact congrArg Value.agg (rqCells_setText q 2 (by omega) (by omega) _), rfl⟩)
     | (rw [rdF_text (i := 3) l e (by simp [textIdx, *])]; exact ⟨by first | rfl | exact congrArg Value.agg (rqCells_setText q 3 (by omega) (by omega) _), rfl⟩)
     | (rw [rdF_text (i := 4) l e (by simp [textIdx, *])]; exact ⟨by first | rfl | exact congrArg Value.agg (rqCells_setText q 4 (by omega) (by omega) _), rfl⟩)
     | (rw [rdF_text (i := 5) l e (by simp [textIdx, *])]; exact ⟨by first | rfl | exact congrArg Value.agg (rqCells_setText q 5 (by omega) (by omega) _), rfl⟩)
     | (rw [rdF_text (i := 6) l e (by simp [textIdx, *])]; exact ⟨by first | rfl | exact congrArg Value.agg (rqCells_setText q 6 (by omega) (by omega) _), rfl⟩)
     | (rw [rdF_num (i := 7) l e (by simp [textIdx, *]) (by simp [numIdx, *])]; exact ⟨by first | rfl | exact congrArg Value.agg (rqCells_setNum q 7 (by omega) (by omega) _), rfl⟩)
     | (rw [rdF_num (i := 8) l e (by simp [textIdx, *]) (by simp [numIdx, *])]; exact ⟨by first | rfl | exact congrArg Value.agg (rqCells_setNum q 8 (by omega) (by omega) _), rfl⟩)
     | (rw [rdF_num (i := 9) l e (by simp [textIdx, *]) (by simp [numIdx, *])]; exact ⟨by first | rfl | exact congrArg Value.agg (rqCells_setNum q 9 (by omega) (by omega) _), rfl⟩)
     | (rw [rdF_num (i := 10) l e (by simp [textIdx, *]) (by simp [numIdx, *])]; exact ⟨by first | rfl | exact congrArg Value.agg (rqCells_setNum q 10 (by omega) (by omega) _), rfl⟩)
     | (rw [rdF_num (i := 11) l e (by simp [textIdx, *]) (by simp [numIdx, *])]; exact ⟨by first | rfl | exact congrArg Value.agg (rqCells_setNum q 11 (by omega) (by omega) _), rfl⟩)
     | (rw [rdF_num (i := 12) l e (by simp [textIdx, *]) (by simp [numIdx, *])]; exact ⟨by first | rfl | exact congrArg Value.agg (rqCells_setNum q 12 (by omega) (by omega) _), rfl⟩)
     | (rw [rdF_num (i := 13) l e (by simp [textIdx, *]) (by simp [numIdx, *])]; exact ⟨by first | rfl | exact congrArg Value.agg (rqCells_setNum q 13 (by omega) (by omega) _), rfl⟩)
     | (rw [rdF_num (i := 14) l e (by simp [textIdx, *]) (by simp [numIdx, *])]; exact ⟨by first | rfl | exact congrArg Value.agg (rqCells_setNum q 14 (by omega) (by omega) _), rfl⟩)
     | (rw [rdF_num (i := 15) l e (by simp [textIdx, *]) (by simp [numIdx, *])]; exact ⟨by first | rfl | exact congrArg Value.agg (rqCells_setNum q 15 (by omega) (by omega) _), rfl⟩)
     | (rw [rdF_flag l e (by simp [textIdx, *]) (by simp [numIdx, *])]; exact ⟨rfl, rfl⟩)
 refine G_seq ?_
 refine G_region (l := [0, 1]) rfl ?_
 refine G_val rfl rfl rfl rfl (V_eql rfl rfl rfl) ?_
 refine G_val rfl rfl rfl rfl (V_assign rfl rfl) ?_
 refine G_done ?_
 refine G_ifD rfl (fun hc5 => ?_) (fun hc5 => ?_)
 · skip
   refine G_region (l := [0, 1, 2, 3]) rfl ?_
   refine G_val rfl rfl rfl rfl (V_move rfl rfl) ?_
   refine G_call (L2 := [_, _]) rfl rfl rfl rfl rfl rfl Try.call90 (rrd_str _ _ _ 100 (by omega) he ⟨by omega, by omega⟩) [2] [] rfl rfl ?_
   rintro v post ⟨rfl, rfl⟩
   show G _ _ _ [_, _, _] _
   refine G_val rfl rfl rfl rfl (V_fieldAddr (fo := 5) rfl Try.underlying40 rfl infWireR_9 rfl rfl rfl) ?_
   refine G_put (l1 := [_, _]) (L' := [_, _, _]) rfl rfl rfl rfl (P_store1 rfl rfl rfl (mem_at 2 rfl) (by first | exact of_decide_eq_true rfl | omega | (simp [rqCells, rqCells, rqCells, rqCells, rqCells]; done) | (simp [rqCells, rqCells, rqCells, rqCells, rqCells]; omega) | (simp [rqCells, rqCells, rqCells, rqCells, rqCells] at *; omega)) infWireR_9 rfl rfl) rfl ?_
   rw [rqCells_setText _ 5 (by omega) (by omega)]
   refine G_done ?_
   refine G_inBlock ?_
   refine G_seq ?_
   refine G_region (l := [0, 1]) rfl ?_
   first
     | refine G_val rfl rfl rfl rfl (V_loadW (s := 17) rfl rfl (mem_at 2 rfl) Try.underlying40 rfl infWireR_40 rfl (by first | rfl | (simp [bcells_length, rqCells, rqCells, rqCells, rqCells, rqCells]; done) | (simp [bcells_length, rqCells, rqCells, rqCells, rqCells, rqCells]; omega) | (simp [bcells_length, *, rqCells, rqCells, rqCells, rqCells, rqCells]; done))) ?_
     | refine G_val rfl rfl rfl rfl (V_loadA (s := 17) rfl rfl (mem_at 2 rfl) Try.underlying40 rfl infWireR_40 rfl rfl (by first | rfl | (simp [bcells_length, rqCells, rqCells, rqCells, rqCells, rqCells]; done) | (simp [bcells_length, rqCells, rqCells, rqCells, rqCells, rqCells]; omega) | (simp [bcells_length, *, rqCells, rqCells, rqCells, rqCells, rqCells]; done))) ?_
   refine G_put (l1 := [_]) (L' := [_, _, _]) rfl rfl rfl rfl (P_storeA (s := 17) rfl rfl rfl (mem_at 1 rfl) (by first | rfl | (simp [bcells_length, rqCells, rqCells, rqCells, rqCells, rqCells]; done) | (simp [bcells_length, rqCells, rqCells, rqCells, rqCells, rqCells]; omega) | (simp [bcells_length, *, rqCells, rqCells, rqCells, rqCells, rqCells]; done)) infWireR_40 rfl (by first | rfl | (simp [bcells_length, rqCells, rqCells, rqCells, rqCells, rqCells]; done) | (simp [bcells_length, rqCells, rqCells, rqCells, rqCells, rqCells]; omega) | (simp [bcells_length, *, rqCells, rqCells, rqCells, rqCells, rqCells]; done)) (by first | rfl | exact bcells_all _ | (simp [Value.oneCell', rqCells, rqCells, rqCells, rqCells, rqCells]; done) | (simp [Value.oneCell', *, rqCells, rqCells, rqCells, rqCells, rqCells]; done))) rfl ?_
   refine G_done ?_
   refine G_ret (post := [_]) Try.func104 rfl (RVs_cons (RV_cell (s := 17) rfl (mem_at 1 rfl) Try.underlying40 rfl infWireR_40 rfl (by first | rfl | (simp [bcells_length, rqCells, rqCells, rqCells, rqCells, rqCells]; done) | (simp [bcells_length, rqCells, rqCells, rqCells, rqCells, rqCells]; omega) | (simp [bcells_length, *, rqCells, rqCells, rqCells, rqCells, rqCells]; done))) RVs_nil) [0] rfl ?_
   dsimp only [packed]
   first
     | (rw [rdF_text (i := 1) l e (by simp [textIdx, *])]; exact ⟨by first | rfl | exact congrArg Value.agg (rqCells_setText q 1 (by omega) (by omega) _), rfl⟩)
     | (rw [rdF_text (i := 2) l e (by simp [textIdx, *])]; exact ⟨by first | rfl | exact congrArg Value.agg (rqCells_setText q 2 (by omega) (by omega) _), rfl⟩)
     | (rw [rdF_text (i := 3) l e (by simp [textIdx, *])]; exact ⟨by first | rfl | exact congrArg Value.agg (rqCells_setText q 3 (by omega) (by omega) _), rfl⟩)
     | (rw [rdF_text (i := 4) l e (by simp [textIdx, *])]; exact ⟨by first | rfl | exact congrArg Value.agg (rqCells_setText q 4 (by omega) (by omega) _), rfl⟩)
     | (rw [rdF_text (i := 5) l e (by simp [textIdx, *])]; exact ⟨by first | rfl | exact congrArg Value.agg (rqCells_setText q 5 (by omega) (by omega) _), rfl⟩)
     | (rw [rdF_text (i := 6) l e (by simp [textIdx, *])]; exact ⟨by first | rfl | exact congrArg Value.agg (rqCells_setText q 6 (by omega) (by omega) _), rfl⟩)
     | (rw [rdF_num (i := 7) l e (by simp [textIdx, *]) (by simp [numIdx, *])]; exact ⟨by first | rfl | exact congrArg Value.agg (rqCells_setNum q 7 (by omega) (by omega) _), rfl⟩)
     | (rw [rdF_num (i := 8) l e (by simp [textIdx, *]) (by simp [numIdx, *])]; exact ⟨by first | rfl | exact congrArg Value.agg (rqCells_setNum q 8 (by omega) (by omega) _), rfl⟩)
     | (rw [rdF_num (i := 9) l e (by simp [textIdx, *]) (by simp [numIdx, *])]; exact ⟨by first | rfl | exact congrArg Value.agg (rqCells_setNum q 9 (by omega) (by omega) _), rfl⟩)
     | (rw [rdF_num (i := 10) l e (by simp [textIdx, *]) (by simp [numIdx, *])]; exact ⟨by first | rfl | exact congrArg Value.agg (rqCells_setNum q 10 (by omega) (by omega) _), rfl⟩)
     | (rw [rdF_num (i := 11) l e (by simp [textIdx, *]) (by simp [numIdx, *])]; exact ⟨by first | rfl | exact congrArg Value.agg (rqCells_setNum q 11 (by omega) (by omega) _), rfl⟩)
     | (rw [rdF_num (i := 12) l e (by simp [textIdx, *]) (by simp [numIdx, *])]; exact ⟨by first | rfl | exact congrArg Value.agg (rqCells_setNum q 12 (by omega) (by omega) _), rfl⟩)
     | (rw [rdF_num (i := 13) l e (by simp [textIdx, *]) (by simp [numIdx, *])]; exact ⟨by first | rfl | exact congrArg Value.agg (rqCells_setNum q 13 (by omega) (by omega) _), rfl⟩)
     | (rw [rdF_num (i := 14) l e (by simp [textIdx, *]) (by simp [numIdx, *])]; exact ⟨by first | rfl | exact congrArg Value.agg (rqCells_setNum q 14 (by omega) (by omega) _), rfl⟩)
     | (rw [rdF_num (i := 15) l e (by simp [textIdx, *]) (by simp [numIdx, *])]; exact ⟨by first | rfl | exact congrArg Value.agg (rqCells_setNum q 15 (by omega) (by omega) _), rfl⟩)
     | (rw [rdF_flag l e (by simp [textIdx, *]) (by simp [numIdx, *])]; exact ⟨rfl, rfl⟩)
 refine G_seq ?_
 refine G_region (l := [0, 1]) rfl ?_
 refine G_val rfl rfl rfl rfl (V_eql rfl rfl rfl) ?_
 refine G_val rfl rfl rfl rfl (V_assign rfl rfl) ?_
 refine G_done ?_
 refine G_ifD rfl (fun hc6 => ?_) (fun hc6 => ?_)
 · skip
   refine G_region (l := [0, 1, 2, 3]) rfl ?_
   refine G_val rfl rfl rfl rfl (V_move rfl rfl) ?_
   refine G_call (L2 := [_, _]) rfl rfl rfl rfl rfl rfl Try.call90 (rrd_str _ _ _ 100 (by omega) he ⟨by omega, by omega⟩) [2] [] rfl rfl ?_
   rintro v post ⟨rfl, rfl⟩
   show G _ _ _ [_, _, _] _
   refine G_val rfl rfl rfl rfl (V_fieldAddr (fo := 6) rfl Try.underlying40 rfl infWireR_9 rfl rfl rfl) ?_
   refine G_put (l1 := [_, _]) (L' := [_, _, _]) rfl rfl rfl rfl (P_store1 rfl rfl rfl (mem_at 2 rfl) (by first | exact of_decide_eq_true rfl | omega | (simp [rqCells, rqCells, rqCells, rqCells, rqCells]; done) | (simp [rqCells, rqCells, rqCells, rqCells, rqCells]; omega) | (simp [rqCells, rqCells, rqCells, rqCells, rqCells] at *; omega)) infWireR_9 rfl rfl) rfl ?_
   rw [rqCells_setText _ 6 (by omega) (by omega)]
   refine G_done ?_
   refine G_inBlock ?_
   refine G_seq ?_
   refine G_region (l := [0, 1]) rfl ?_
   first
     | refine G_val rfl rfl rfl rfl (V_loadW (s := 17) rfl rfl (mem_at 2 rfl) Try.underlying40 rfl infWireR_40 rfl (by first | rfl | (simp [bcells_length, rqCells, rqCells, rqCells, rqCells, rqCells]; done) | (simp [bcells_length, rqCells, rqCells, rqCells, rqCells, rqCells]; omega) | (simp [bcells_length, *, rqCells, rqCells, rqCells, rqCells, rqCells]; done))) ?_
     | refine G_val rfl rfl rfl rfl (V_loadA (s := 17) rfl rfl (mem_at 2 rfl) Try.underlying40 rfl infWireR_40 rfl rfl (by first | rfl | (simp [bcells_length, rqCells, rqCells, rqCells, rqCells, rqCells]; done) | (simp [bcells_length, rqCells, rqCells, rqCells, rqCells, rqCells]; omega) | (simp [bcells_length, *, rqCells, rqCells, rqCells, rqCells, rqCells]; done))) ?_
   refine G_put (l1 := [_]) (L' := [_, _, _]) rfl rfl rfl rfl (P_storeA (s := 17) rfl rfl rfl (mem_at 1 rfl) (by first | rfl | (simp [bcells_length, rqCells, rqCells, rqCells, rqCells, rqCells]; done) | (simp [bcells_length, rqCells, rqCells, rqCells, rqCells, rqCells]; omega) | (simp [bcells_length, *, rqCells, rqCells, rqCells, rqCells, rqCells]; done)) infWireR_40 rfl (by first | rfl | (simp [bcells_length, rqCells, rqCells, rqCells, rqCells, rqCells]; done) | (simp [bcells_length, rqCells, rqCells, rqCells, rqCells, rqCells]; omega) | (simp [bcells_length, *, rqCells, rqCells, rqCells, rqCells, rqCells]; done)) (by first | rfl | exact bcells_all _ | (simp [Value.oneCell', rqCells, rqCells, rqCells, rqCells, rqCells]; done) | (simp [Value.oneCell', *, rqCells, rqCells, rqCells, rqCells, rqCells]; done))) rfl ?_
   refine G_done ?_
   refine G_ret (post := [_]) Try.func104 rfl (RVs_cons (RV_cell (s := 17) rfl (mem_at 1 rfl) Try.underlying40 rfl infWireR_40 rfl (by first | rfl | (simp [bcells_length, rqCells, rqCells, rqCells, rqCells, rqCells]; done) | (simp [bcells_length, rqCells, rqCells, rqCells, rqCells, rqCells]; omega) | (simp [bcells_length, *, rqCells, rqCells, rqCells, rqCells, rqCells]; done))) RVs_nil) [0] rfl ?_
   dsimp only [packed]
   first
     | (rw [rdF_text (i := 1) l e (by simp [textIdx, *])]; exact ⟨by first | rfl | exact congrArg Value.agg (rqCells_setText q 1 (by omega) (by omega) _), rfl⟩)
     | (rw [rdF_text (i := 2) l e (by simp [textIdx, *])]; exact ⟨by first | rfl | exact congrArg Value.agg (rqCells_setText q 2 (by omega) (by omega) _), rfl⟩)
     | (rw [rdF_text (i := 3) l e (by simp [textIdx, *])]; exact ⟨by first | rfl | exact congrArg Value.agg (rqCells_setText q 3 (by omega) (by omega) _), rfl⟩)
     | (rw [rdF_text (i := 4) l e (by simp [textIdx, *])]; exact ⟨by first | rfl | exact congrArg Value.agg (rqCells_setText q 4 (by omega) (by omega) _), rfl⟩)
     | (rw [rdF_text (i := 5) l e (by simp [textIdx, *])]; exact ⟨by first | rfl | exact congrArg Value.agg (rqCells_setText q 5 (by omega) (by omega) _), rfl⟩)
     | (rw [rdF_text (i := 6) l e (by simp [textIdx, *])]; exact ⟨by first | rfl | exact congrArg Value.agg (rqCells_setText q 6 (by omega) (by omega) _), rfl⟩)
     | (rw [rdF_num (i := 7) l e (by simp [textIdx, *]) (by simp [numIdx, *])]; exact ⟨by first | rfl | exact congrArg Value.agg (rqCells_setNum q 7 (by omega) (by omega) _), rfl⟩)
     | (rw [rdF_num (i := 8) l e (by simp [textIdx, *]) (by simp [numIdx, *])]; exact ⟨by first | rfl | exact congrArg Value.agg (rqCells_setNum q 8 (by omega) (by omega) _), rfl⟩)
     | (rw [rdF_num (i := 9) l e (by simp [textIdx, *]) (by simp [numIdx, *])]; exact ⟨by first | rfl | exact congrArg Value.agg (rqCells_setNum q 9 (by omega) (by omega) _), rfl⟩)
     | (rw [rdF_num (i := 10) l e (by simp [textIdx, *]) (by simp [numIdx, *])]; exact ⟨by first | rfl | exact congrArg Value.agg (rqCells_setNum q 10 (by omega) (by omega) _), rfl⟩)
     | (rw [rdF_num (i := 11) l e (by simp [textIdx, *]) (by simp [numIdx, *])]; exact ⟨by first | rfl | exact congrArg Value.agg (rqCells_setNum q 11 (by omega) (by omega) _), rfl⟩)
     | (rw [rdF_num (i := 12) l e (by simp [textIdx, *]) (by simp [numIdx, *])]; exact ⟨by first | rfl | exact congrArg Value.agg (rqCells_setNum q 12 (by omega) (by omega) _), rfl⟩)
     | (rw [rdF_num (i := 13) l e (by simp [textIdx, *]) (by simp [numIdx, *])]; exact ⟨by first | rfl | exact congrArg Value.agg (rqCells_setNum q 13 (by omega) (by omega) _), rfl⟩)
     | (rw [rdF_num (i := 14) l e (by simp [textIdx, *]) (by simp [numIdx, *])]; exact ⟨by first | rfl | exact congrArg Value.agg (rqCells_setNum q 14 (by omega) (by omega) _), rfl⟩)
     | (rw [rdF_num (i := 15) l e (by simp [textIdx, *]) (by simp [numIdx, *])]; exact ⟨by first | rfl | exact congrArg Value.agg (rqCells_setNum q 15 (by omega) (by omega) _), rfl⟩)
     | (rw [rdF_flag l e (by simp [textIdx, *]) (by simp [numIdx, *])]; exact ⟨rfl, rfl⟩)
 refine G_seq ?_
 refine G_region (l := [0, 1]) rfl ?_
 refine G_val rfl rfl rfl rfl (V_eql rfl rfl rfl) ?_
 refine G_val rfl rfl rfl rfl (V_assign rfl rfl) ?_
 refine G_done ?_
 refine G_ifD rfl (fun hc7 => ?_) (fun hc7 => ?_)
 · skip
   refine G_region (l := [0, 1, 2, 3]) rfl ?_
   refine G_val rfl rfl rfl rfl (V_move rfl rfl) ?_
   refine G_call (L2 := [_, _]) rfl rfl rfl rfl rfl rfl Try.call92 (rrd_int _ _ _ 1099511627776 (by omega) he ⟨by omega, by omega⟩) [2] [] rfl rfl ?_
   rintro v post ⟨rfl, rfl⟩
   show G _ _ _ [_, _, _] _
   refine G_val rfl rfl rfl rfl (V_fieldAddr (fo := 7) rfl Try.underlying40 rfl infWireR_3 rfl rfl rfl) ?_
   refine G_put (l1 := [_, _]) (L' := [_, _, _]) rfl rfl rfl rfl (P_store1 rfl rfl rfl (mem_at 2 rfl) (by first | exact of_decide_eq_true rfl | omega | (simp [rqCells, rqCells, rqCells, rqCells, rqCells]; done) | (simp [rqCells, rqCells, rqCells, rqCells, rqCells]; omega) | (simp [rqCells, rqCells, rqCells, rqCells, rqCells] at *; omega)) infWireR_3 rfl rfl) rfl ?_
   rw [rqCells_setNum _ 7 (by omega) (by omega)]
   refine G_done ?_
   refine G_inBlock ?_
   refine G_seq ?_
   refine G_region (l := [0, 1]) rfl ?_
   first
     | refine G_val rfl rfl rfl rfl (V_loadW (s := 17) rfl rfl (mem_at 2 rfl) Try.underlying40 rfl infWireR_40 rfl (by first | rfl | (simp [bcells_length, rqCells, rqCells, rqCells, rqCells, rqCells]; done) | (simp [bcells_length, rqCells, rqCells, rqCells, rqCells, rqCells]; omega) | (simp [bcells_length, *, rqCells, rqCells, rqCells, rqCells, rqCells]; done))) ?_
     | refine G_val rfl rfl rfl rfl (V_loadA (s := 17) rfl rfl (mem_at 2 rfl) Try.underlying40 rfl infWireR_40 rfl rfl (by first | rfl | (simp [bcells_length, rqCells, rqCells, rqCells, rqCells, rqCells]; done) | (simp [bcells_length, rqCells, rqCells, rqCells, rqCells, rqCells]; omega) | (simp [bcells_length, *, rqCells, rqCells, rqCells, rqCells, rqCells]; done))) ?_
   refine G_put (l1 := [_]) (L' := [_, _, _]) rfl rfl rfl rfl (P_storeA (s := 17) rfl rfl rfl (mem_at 1 rfl) (by first | rfl | (simp [bcells_length, rqCells, rqCells, rqCells, rqCells, rqCells]; done) | (simp [bcells_length, rqCells, rqCells, rqCells, rqCells, rqCells]; omega) | (simp [bcells_length, *, rqCells, rqCells, rqCells, rqCells, rqCells]; done)) infWireR_40 rfl (by first | rfl | (simp [bcells_length, rqCells, rqCells, rqCells, rqCells, rqCells]; done) | (simp [bcells_length, rqCells, rqCells, rqCells, rqCells, rqCells]; omega) | (simp [bcells_length, *, rqCells, rqCells, rqCells, rqCells, rqCells]; done)) (by first | rfl | exact bcells_all _ | (simp [Value.oneCell', rqCells, rqCells, rqCells, rqCells, rqCells]; done) | (simp [Value.oneCell', *, rqCells, rqCells, rqCells, rqCells, rqCells]; done))) rfl ?_
   refine G_done ?_
   refine G_ret (post := [_]) Try.func104 rfl (RVs_cons (RV_cell (s := 17) rfl (mem_at 1 rfl) Try.underlying40 rfl infWireR_40 rfl (by first | rfl | (simp [bcells_length, rqCells, rqCells, rqCells, rqCells, rqCells]; done) | (simp [bcells_length, rqCells, rqCells, rqCells, rqCells, rqCells]; omega) | (simp [bcells_length, *, rqCells, rqCells, rqCells, rqCells, rqCells]; done))) RVs_nil) [0] rfl ?_
   dsimp only [packed]
   first
     | (rw [rdF_text (i := 1) l e (by simp [textIdx, *])]; exact ⟨by first | rfl | exact congrArg Value.agg (rqCells_setText q 1 (by omega) (by omega) _), rfl⟩)
     | (rw [rdF_text (i := 2) l e (by simp [textIdx, *])]; exact ⟨by first | rfl | exact congrArg Value.agg (rqCells_setText q 2 (by omega) (by omega) _), rfl⟩)
     | (rw [rdF_text (i := 3) l e (by simp [textIdx, *])]; exact ⟨by first | rfl | exact congrArg Value.agg (rqCells_setText q 3 (by omega) (by omega) _), rfl⟩)
     | (rw [rdF_text (i := 4) l e (by simp [textIdx, *])]; exact ⟨by first | rfl | exact congrArg Value.agg (rqCells_setText q 4 (by omega) (by omega) _), rfl⟩)
     | (rw [rdF_text (i := 5) l e (by simp [textIdx, *])]; exact ⟨by first | rfl | exact congrArg Value.agg (rqCells_setText q 5 (by omega) (by omega) _), rfl⟩)
     | (rw [rdF_text (i := 6) l e (by simp [textIdx, *])]; exact ⟨by first | rfl | exact congrArg Value.agg (rqCells_setText q 6 (by omega) (by omega) _), rfl⟩)
     | (rw [rdF_num (i := 7) l e (by simp [textIdx, *]) (by simp [numIdx, *])]; exact ⟨by first | rfl | exact congrArg Value.agg (rqCells_setNum q 7 (by omega) (by omega) _), rfl⟩)
     | (rw [rdF_num (i := 8) l e (by simp [textIdx, *]) (by simp [numIdx, *])]; exact ⟨by first | rfl | exact congrArg Value.agg (rqCells_setNum q 8 (by omega) (by omega) _), rfl⟩)
     | (rw [rdF_num (i := 9) l e (by simp [textIdx, *]) (by simp [numIdx, *])]; exact ⟨by first | rfl | exact congrArg Value.agg (rqCells_setNum q 9 (by omega) (by omega) _), rfl⟩)
     | (rw [rdF_num (i := 10) l e (by simp [textIdx, *]) (by simp [numIdx, *])]; exact ⟨by first | rfl | exact congrArg Value.agg (rqCells_setNum q 10 (by omega) (by omega) _), rfl⟩)
     | (rw [rdF_num (i := 11) l e (by simp [textIdx, *]) (by simp [numIdx, *])]; exact ⟨by first | rfl | exact congrArg Value.agg (rqCells_setNum q 11 (by omega) (by omega) _), rfl⟩)
     | (rw [rdF_num (i := 12) l e (by simp [textIdx, *]) (by simp [numIdx, *])]; exact ⟨by first | rfl | exact congrArg Value.agg (rqCells_setNum q 12 (by omega) (by omega) _), rfl⟩)
     | (rw [rdF_num (i := 13) l e (by simp [textIdx, *]) (by simp [numIdx, *])]; exact ⟨by first | rfl | exact congrArg Value.agg (rqCells_setNum q 13 (by omega) (by omega) _), rfl⟩)
     | (rw [rdF_num (i := 14) l e (by simp [textIdx, *]) (by simp [numIdx, *])]; exact ⟨by first | rfl | exact congrArg Value.agg (rqCells_setNum q 14 (by omega) (by omega) _), rfl⟩)
     | (rw [rdF_num (i := 15) l e (by simp [textIdx, *]) (by simp [numIdx, *])]; exact ⟨by first | rfl | exact congrArg Value.agg (rqCells_setNum q 15 (by omega) (by omega) _), rfl⟩)
     | (rw [rdF_flag l e (by simp [textIdx, *]) (by simp [numIdx, *])]; exact ⟨rfl, rfl⟩)
 refine G_seq ?_
 refine G_region (l := [0, 1]) rfl ?_
 refine G_val rfl rfl rfl rfl (V_eql rfl rfl rfl) ?_
 refine G_val rfl rfl rfl rfl (V_assign rfl rfl) ?_
 refine G_done ?_
 refine G_ifD rfl (fun hc8 => ?_) (fun hc8 => ?_)
 · skip
   refine G_region (l := [0, 1, 2, 3]) rfl ?_
   refine G_val rfl rfl rfl rfl (V_move rfl rfl) ?_
   refine G_call (L2 := [_, _]) rfl rfl rfl rfl rfl rfl Try.call92 (rrd_int _ _ _ 1099511627776 (by omega) he ⟨by omega, by omega⟩) [2] [] rfl rfl ?_
   rintro v post ⟨rfl, rfl⟩
   show G _ _ _ [_, _, _] _
   refine G_val rfl rfl rfl rfl (V_fieldAddr (fo := 8) rfl Try.underlying40 rfl infWireR_3 rfl rfl rfl) ?_
   refine G_put (l1 := [_, _]) (L' := [_, _, _]) rfl rfl rfl rfl (P_store1 rfl rfl rfl (mem_at 2 rfl) (by first | exact of_decide_eq_true rfl | omega | (simp [rqCells, rqCells, rqCells, rqCells, rqCells]; done) | (simp [rqCells, rqCells, rqCells, rqCells, rqCells]; omega) | (simp [rqCells, rqCells, rqCells, rqCells, rqCells] at *; omega)) infWireR_3 rfl rfl) rfl ?_
   rw [rqCells_setNum _ 8 (by omega) (by omega)]
   refine G_done ?_
   refine G_inBlock ?_
   refine G_seq ?_
   refine G_region (l := [0, 1]) rfl ?_
   first
     | refine G_val rfl rfl rfl rfl (V_loadW (s := 17) rfl rfl (mem_at 2 rfl) Try.underlying40 rfl infWireR_40 rfl (by first | rfl | (simp [bcells_length, rqCells, rqCells, rqCells, rqCells, rqCells]; done) | (simp [bcells_length, rqCells, rqCells, rqCells, rqCells, rqCells]; omega) | (simp [bcells_length, *, rqCells, rqCells, rqCells, rqCells, rqCells]; done))) ?_
     | refine G_val rfl rfl rfl rfl (V_loadA (s := 17) rfl rfl (mem_at 2 rfl) Try.underlying40 rfl infWireR_40 rfl rfl (by first | rfl | (simp [bcells_length, rqCells, rqCells, rqCells, rqCells, rqCells]; done) | (simp [bcells_length, rqCells, rqCells, rqCells, rqCells, rqCells]; omega) | (simp [bcells_length, *, rqCells, rqCells, rqCells, rqCells, rqCells]; done))) ?_
   refine G_put (l1 := [_]) (L' := [_, _, _]) rfl rfl rfl rfl (P_storeA (s := 17) rfl rfl rfl (mem_at 1 rfl) (by first | rfl | (simp [bcells_length, rqCells, rqCells, rqCells, rqCells, rqCells]; done) | (simp [bcells_length, rqCells, rqCells, rqCells, rqCells, rqCells]; omega) | (simp [bcells_length, *, rqCells, rqCells, rqCells, rqCells, rqCells]; done)) infWireR_40 rfl (by first | rfl | (simp [bcells_length, rqCells, rqCells, rqCells, rqCells, rqCells]; done) | (simp [bcells_length, rqCells, rqCells, rqCells, rqCells, rqCells]; omega) | (simp [bcells_length, *, rqCells, rqCells, rqCells, rqCells, rqCells]; done)) (by first | rfl | exact bcells_all _ | (simp [Value.oneCell', rqCells, rqCells, rqCells, rqCells, rqCells]; done) | (simp [Value.oneCell', *, rqCells, rqCells, rqCells, rqCells, rqCells]; done))) rfl ?_
   refine G_done ?_
   refine G_ret (post := [_]) Try.func104 rfl (RVs_cons (RV_cell (s := 17) rfl (mem_at 1 rfl) Try.underlying40 rfl infWireR_40 rfl (by first | rfl | (simp [bcells_length, rqCells, rqCells, rqCells, rqCells, rqCells]; done) | (simp [bcells_length, rqCells, rqCells, rqCells, rqCells, rqCells]; omega) | (simp [bcells_length, *, rqCells, rqCells, rqCells, rqCells, rqCells]; done))) RVs_nil) [0] rfl ?_
   dsimp only [packed]
   first
     | (rw [rdF_text (i := 1) l e (by simp [textIdx, *])]; exact ⟨by first | rfl | exact congrArg Value.agg (rqCells_setText q 1 (by omega) (by omega) _), rfl⟩)
     | (rw [rdF_text (i := 2) l e (by simp [textIdx, *])]; exact ⟨by first | rfl | exact congrArg Value.agg (rqCells_setText q 2 (by omega) (by omega) _), rfl⟩)
     | (rw [rdF_text (i := 3) l e (by simp [textIdx, *])]; exact ⟨by first | rfl | exact congrArg Value.agg (rqCells_setText q 3 (by omega) (by omega) _), rfl⟩)
     | (rw [rdF_text (i := 4) l e (by simp [textIdx, *])]; exact ⟨by first | rfl | exact congrArg Value.agg (rqCells_setText q 4 (by omega) (by omega) _), rfl⟩)
     | (rw [rdF_text (i := 5) l e (by simp [textIdx, *])]; exact ⟨by first | rfl | exact congrArg Value.agg (rqCells_setText q 5 (by omega) (by omega) _), rfl⟩)
     | (rw [rdF_text (i := 6) l e (by simp [textIdx, *])]; exact ⟨by first | rfl | exact congrArg Value.agg (rqCells_setText q 6 (by omega) (by omega) _), rfl⟩)
     | (rw [rdF_num (i := 7) l e (by simp [textIdx, *]) (by simp [numIdx, *])]; exact ⟨by first | rfl | exact congrArg Value.agg (rqCells_setNum q 7 (by omega) (by omega) _), rfl⟩)
     | (rw [rdF_num (i := 8) l e (by simp [textIdx, *]) (by simp [numIdx, *])]; exact ⟨by first | rfl | exact congrArg Value.agg (rqCells_setNum q 8 (by omega) (by omega) _), rfl⟩)
     | (rw [rdF_num (i := 9) l e (by simp [textIdx, *]) (by simp [numIdx, *])]; exact ⟨by first | rfl | exact congrArg Value.agg (rqCells_setNum q 9 (by omega) (by omega) _), rfl⟩)
     | (rw [rdF_num (i := 10) l e (by simp [textIdx, *]) (by simp [numIdx, *])]; exact ⟨by first | rfl | exact congrArg Value.agg (rqCells_setNum q 10 (by omega) (by omega) _), rfl⟩)
     | (rw [rdF_num (i := 11) l e (by simp [textIdx, *]) (by simp [numIdx, *])]; exact ⟨by first | rfl | exact congrArg Value.agg (rqCells_setNum q 11 (by omega) (by omega) _), rfl⟩)
     | (rw [rdF_num (i := 12) l e (by simp [textIdx, *]) (by simp [numIdx, *])]; exact ⟨by first | rfl | exact congrArg Value.agg (rqCells_setNum q 12 (by omega) (by omega) _), rfl⟩)
     | (rw [rdF_num (i := 13) l e (by simp [textIdx, *]) (by simp [numIdx, *])]; exact ⟨by first | rfl | exact congrArg Value.agg (rqCells_setNum q 13 (by omega) (by omega) _), rfl⟩)
     | (rw [rdF_num (i := 14) l e (by simp [textIdx, *]) (by simp [numIdx, *])]; exact ⟨by first | rfl | exact congrArg Value.agg (rqCells_setNum q 14 (by omega) (by omega) _), rfl⟩)
     | (rw [rdF_num (i := 15) l e (by simp [textIdx, *]) (by simp [numIdx, *])]; exact ⟨by first | rfl | exact congrArg Value.agg (rqCells_setNum q 15 (by omega) (by omega) _), rfl⟩)
     | (rw [rdF_flag l e (by simp [textIdx, *]) (by simp [numIdx, *])]; exact ⟨rfl, rfl⟩)
 refine G_seq ?_
 refine G_region (l := [0, 1]) rfl ?_
 refine G_val rfl rfl rfl rfl (V_eql rfl rfl rfl) ?_
 refine G_val rfl rfl rfl rfl (V_assign rfl rfl) ?_
 refine G_done ?_
 refine G_ifD rfl (fun hc9 => ?_) (fun hc9 => ?_)
 · skip
   refine G_region (l := [0, 1, 2, 3]) rfl ?_
   refine G_val rfl rfl rfl rfl (V_move rfl rfl) ?_
   refine G_call (L2 := [_, _]) rfl rfl rfl rfl rfl rfl Try.call92 (rrd_int _ _ _ 1099511627776 (by omega) he ⟨by omega, by omega⟩) [2] [] rfl rfl ?_
   rintro v post ⟨rfl, rfl⟩
   show G _ _ _ [_, _, _] _
   refine G_val rfl rfl rfl rfl (V_fieldAddr (fo := 9) rfl Try.underlying40 rfl infWireR_3 rfl rfl rfl) ?_
   refine G_put (l1 := [_, _]) (L' := [_, _, _]) rfl rfl rfl rfl (P_store1 rfl rfl rfl (mem_at 2 rfl) (by first | exact of_decide_eq_true rfl | omega | (simp [rqCells, rqCells, rqCells, rqCells, rqCells]; done) | (simp [rqCells, rqCells, rqCells, rqCells, rqCells]; omega) | (simp [rqCells, rqCells, rqCells, rqCells, rqCells] at *; omega)) infWireR_3 rfl rfl) rfl ?_
   rw [rqCells_setNum _ 9 (by omega) (by omega)]
   refine G_done ?_
   refine G_inBlock ?_
   refine G_seq ?_
   refine G_region (l := [0, 1]) rfl ?_
   first
     | refine G_val rfl rfl rfl rfl (V_loadW (s := 17) rfl rfl (mem_at 2 rfl) Try.underlying40 rfl infWireR_40 rfl (by first | rfl | (simp [bcells_length, rqCells, rqCells, rqCells, rqCells, rqCells]; done) | (simp [bcells_length, rqCells, rqCells, rqCells, rqCells, rqCells]; omega) | (simp [bcells_length, *, rqCells, rqCells, rqCells, rqCells, rqCells]; done))) ?_
     | refine G_val rfl rfl rfl rfl (V_loadA (s := 17) rfl rfl (mem_at 2 rfl) Try.underlying40 rfl infWireR_40 rfl rfl (by first | rfl | (simp [bcells_length, rqCells, rqCells, rqCells, rqCells, rqCells]; done) | (simp [bcells_length, rqCells, rqCells, rqCells, rqCells, rqCells]; omega) | (simp [bcells_length, *, rqCells, rqCells, rqCells, rqCells, rqCells]; done))) ?_
   refine G_put (l1 := [_]) (L' := [_, _, _]) rfl rfl rfl rfl (P_storeA (s := 17) rfl rfl rfl (mem_at 1 rfl) (by first | rfl | (simp [bcells_length, rqCells, rqCells, rqCells, rqCells, rqCells]; done) | (simp [bcells_length, rqCells, rqCells, rqCells, rqCells, rqCells]; omega) | (simp [bcells_length, *, rqCells, rqCells, rqCells, rqCells, rqCells]; done)) infWireR_40 rfl (by first | rfl | (simp [bcells_length, rqCells, rqCells, rqCells, rqCells, rqCells]; done) | (simp [bcells_length, rqCells, rqCells, rqCells, rqCells, rqCells]; omega) | (simp [bcells_length, *, rqCells, rqCells, rqCells, rqCells, rqCells]; done)) (by first | rfl | exact bcells_all _ | (simp [Value.oneCell', rqCells, rqCells, rqCells, rqCells, rqCells]; done) | (simp [Value.oneCell', *, rqCells, rqCells, rqCells, rqCells, rqCells]; done))) rfl ?_
   refine G_done ?_
   refine G_ret (post := [_]) Try.func104 rfl (RVs_cons (RV_cell (s := 17) rfl (mem_at 1 rfl) Try.underlying40 rfl infWireR_40 rfl (by first | rfl | (simp [bcells_length, rqCells, rqCells, rqCells, rqCells, rqCells]; done) | (simp [bcells_length, rqCells, rqCells, rqCells, rqCells, rqCells]; omega) | (simp [bcells_length, *, rqCells, rqCells, rqCells, rqCells, rqCells]; done))) RVs_nil) [0] rfl ?_
   dsimp only [packed]
   first
     | (rw [rdF_text (i := 1) l e (by simp [textIdx, *])]; exact ⟨by first | rfl | exact congrArg Value.agg (rqCells_setText q 1 (by omega) (by omega) _), rfl⟩)
     | (rw [rdF_text (i := 2) l e (by simp [textIdx, *])]; exact ⟨by first | rfl | exact congrArg Value.agg (rqCells_setText q 2 (by omega) (by omega) _), rfl⟩)
     | (rw [rdF_text (i := 3) l e (by simp [textIdx, *])]; exact ⟨by first | rfl | exact congrArg Value.agg (rqCells_setText q 3 (by omega) (by omega) _), rfl⟩)
     | (rw [rdF_text (i := 4) l e (by simp [textIdx, *])]; exact ⟨by first | rfl | exact congrArg Value.agg (rqCells_setText q 4 (by omega) (by omega) _), rfl⟩)
     | (rw [rdF_text (i := 5) l e (by simp [textIdx, *])]; exact ⟨by first | rfl | exact congrArg Value.agg (rqCells_setText q 5 (by omega) (by omega) _), rfl⟩)
     | (rw [rdF_text (i := 6) l e (by simp [textIdx, *])]; exact ⟨by first | rfl | exact congrArg Value.agg (rqCells_setText q 6 (by omega) (by omega) _), rfl⟩)
     | (rw [rdF_num (i := 7) l e (by simp [textIdx, *]) (by simp [numIdx, *])]; exact ⟨by first | rfl | exact congrArg Value.agg (rqCells_setNum q 7 (by omega) (by omega) _), rfl⟩)
     | (rw [rdF_num (i := 8) l e (by simp [textIdx, *]) (by simp [numIdx, *])]; exact ⟨by first | rfl | exact congrArg Value.agg (rqCells_setNum q 8 (by omega) (by omega) _), rfl⟩)
     | (rw [rdF_num (i := 9) l e (by simp [textIdx, *]) (by simp [numIdx, *])]; exact ⟨by first | rfl | exact congrArg Value.agg (rqCells_setNum q 9 (by omega) (by omega) _), rfl⟩)
     | (rw [rdF_num (i := 10) l e (by simp [textIdx, *]) (by simp [numIdx, *])]; exact ⟨by first | rfl | exact congrArg Value.agg (rqCells_setNum q 10 (by omega) (by omega) _), rfl⟩)
     | (rw [rdF_num (i := 11) l e (by simp [textIdx, *]) (by simp [numIdx, *])]; exact ⟨by first | rfl | exact congrArg Value.agg (rqCells_setNum q 11 (by omega) (by omega) _), rfl⟩)
     | (rw [rdF_num (i := 12) l e (by simp [textIdx, *]) (by simp [numIdx, *])]; exact ⟨by first | rfl | exact congrArg Value.agg (rqCells_setNum q 12 (by omega) (by omega) _), rfl⟩)
     | (rw [rdF_num (i := 13) l e (by simp [textIdx, *]) (by simp [numIdx, *])]; exact ⟨by first | rfl | exact congrArg Value.agg (rqCells_setNum q 13 (by omega) (by omega) _), rfl⟩)
     | (rw [rdF_num (i := 14) l e (by simp [textIdx, *]) (by simp [numIdx, *])]; exact ⟨by first | rfl | exact congrArg Value.agg (rqCells_setNum q 14 (by omega) (by omega) _), rfl⟩)
     | (rw [rdF_num (i := 15) l e (by simp [textIdx, *]) (by simp [numIdx, *])]; exact ⟨by first | rfl | exact congrArg Value.agg (rqCells_setNum q 15 (by omega) (by omega) _), rfl⟩)
     | (rw [rdF_flag l e (by simp [textIdx, *]) (by simp [numIdx, *])]; exact ⟨rfl, rfl⟩)
 refine G_seq ?_
 refine G_region (l := [0, 1]) rfl ?_
 refine G_val rfl rfl rfl rfl (V_eql rfl rfl rfl) ?_
 refine G_val rfl rfl rfl rfl (V_assign rfl rfl) ?_
 refine G_done ?_
 refine G_ifD rfl (fun hc10 => ?_) (fun hc10 => ?_)
 · skip
   refine G_region (l := [0, 1, 2, 3]) rfl ?_
   refine G_val rfl rfl rfl rfl (V_move rfl rfl) ?_
   refine G_call (L2 := [_, _]) rfl rfl rfl rfl rfl rfl Try.call92 (rrd_int _ _ _ 1099511627776 (by omega) he ⟨by omega, by omega⟩) [2] [] rfl rfl ?_
   rintro v post ⟨rfl, rfl⟩
   show G _ _ _ [_, _, _] _
   refine G_val rfl rfl rfl rfl (V_fieldAddr (fo := 10) rfl Try.underlying40 rfl infWireR_3 rfl rfl rfl) ?_
   refine G_put (l1 := [_, _]) (L' := [_, _, _]) rfl rfl rfl rfl (P_store1 rfl rfl rfl (mem_at 2 rfl) (by first | exact of_decide_eq_true rfl | omega | (simp [rqCells, rqCells, rqCells, rqCells, rqCells]; done) | (simp [rqCells, rqCells, rqCells, rqCells, rqCells]; omega) | (simp [rqCells, rqCells, rqCells, rqCells, rqCells] at *; omega)) infWireR_3 rfl rfl) rfl ?_
   rw [rqCells_setNum _ 10 (by omega) (by omega)]
   refine G_done ?_
   refine G_inBlock ?_
   refine G_seq ?_
   refine G_region (l := [0, 1]) rfl ?_
   first
     | refine G_val rfl rfl rfl rfl (V_loadW (s := 17) rfl rfl (mem_at 2 rfl) Try.underlying40 rfl infWireR_40 rfl (by first | rfl | (simp [bcells_length, rqCells, rqCells, rqCells, rqCells, rqCells]; done) | (simp [bcells_length, rqCells, rqCells, rqCells, rqCells, rqCells]; omega) | (simp [bcells_length, *, rqCells, rqCells, rqCells, rqCells, rqCells]; done))) ?_
     | refine G_val rfl rfl rfl rfl (V_loadA (s := 17) rfl rfl (mem_at 2 rfl) Try.underlying40 rfl infWireR_40 rfl rfl (by first | rfl | (simp [bcells_length, rqCells, rqCells, rqCells, rqCells, rqCells]; done) | (simp [bcells_length, rqCells, rqCells, rqCells, rqCells, rqCells]; omega) | (simp [bcells_length, *, rqCells, rqCells, rqCells, rqCells, rqCells]; done))) ?_
   refine G_put (l1 := [_]) (L' := [_, _, _]) rfl rfl rfl rfl (P_storeA (s := 17) rfl rfl rfl (mem_at 1 rfl) (by first | rfl | (simp [bcells_length, rqCells, rqCells, rqCells, rqCells, rqCells]; done) | (simp [bcells_length, rqCells, rqCells, rqCells, rqCells, rqCells]; omega) | (simp [bcells_length, *, rqCells, rqCells, rqCells, rqCells, rqCells]; done)) infWireR_40 rfl (by first | rfl | (simp [bcells_length, rqCells, rqCells, rqCells, rqCells, rqCells]; done) | (simp [bcells_length, rqCells, rqCells, rqCells, rqCells, rqCells]; omega) | (simp [bcells_length, *, rqCells, rqCells, rqCells, rqCells, rqCells]; done)) (by first | rfl | exact bcells_all _ | (simp [Value.oneCell', rqCells, rqCells, rqCells, rqCells, rqCells]; done) | (simp [Value.oneCell', *, rqCells, rqCells, rqCells, rqCells, rqCells]; done))) rfl ?_
   refine G_done ?_
   refine G_ret (post := [_]) Try.func104 rfl (RVs_cons (RV_cell (s := 17) rfl (mem_at 1 rfl) Try.underlying40 rfl infWireR_40 rfl (by first | rfl | (simp [bcells_length, rqCells, rqCells, rqCells, rqCells, rqCells]; done) | (simp [bcells_length, rqCells, rqCells, rqCells, rqCells, rqCells]; omega) | (simp [bcells_length, *, rqCells, rqCells, rqCells, rqCells, rqCells]; done))) RVs_nil) [0] rfl ?_
   dsimp only [packed]
   first
     | (rw [rdF_text (i := 1) l e (by simp [textIdx, *])]; exact ⟨by first | rfl | exact congrArg Value.agg (rqCells_setText q 1 (by omega) (by omega) _), rfl⟩)
     | (rw [rdF_text (i := 2) l e (by simp [textIdx, *])]; exact ⟨by first | rfl | exact congrArg Value.agg (rqCells_setText q 2 (by omega) (by omega) _), rfl⟩)
     | (rw [rdF_text (i := 3) l e (by simp [textIdx, *])]; exact ⟨by first | rfl | exact congrArg Value.agg (rqCells_setText q 3 (by omega) (by omega) _), rfl⟩)
     | (rw [rdF_text (i := 4) l e (by simp [textIdx, *])]; exact ⟨by first | rfl | exact congrArg Value.agg (rqCells_setText q 4 (by omega) (by omega) _), rfl⟩)
     | (rw [rdF_text (i := 5) l e (by simp [textIdx, *])]; exact ⟨by first | rfl | exact congrArg Value.agg (rqCells_setText q 5 (by omega) (by omega) _), rfl⟩)
     | (rw [rdF_text (i := 6) l e (by simp [textIdx, *])]; exact ⟨by first | rfl | exact congrArg Value.agg (rqCells_setText q 6 (by omega) (by omega) _), rfl⟩)
     | (rw [rdF_num (i := 7) l e (by simp [textIdx, *]) (by simp [numIdx, *])]; exact ⟨by first | rfl | exact congrArg Value.agg (rqCells_setNum q 7 (by omega) (by omega) _), rfl⟩)
     | (rw [rdF_num (i := 8) l e (by simp [textIdx, *]) (by simp [numIdx, *])]; exact ⟨by first | rfl | exact congrArg Value.agg (rqCells_setNum q 8 (by omega) (by omega) _), rfl⟩)
     | (rw [rdF_num (i := 9) l e (by simp [textIdx, *]) (by simp [numIdx, *])]; exact ⟨by first | rfl | exact congrArg Value.agg (rqCells_setNum q 9 (by omega) (by omega) _), rfl⟩)
     | (rw [rdF_num (i := 10) l e (by simp [textIdx, *]) (by simp [numIdx, *])]; exact ⟨by first | rfl | exact congrArg Value.agg (rqCells_setNum q 10 (by omega) (by omega) _), rfl⟩)
     | (rw [rdF_num (i := 11) l e (by simp [textIdx, *]) (by simp [numIdx, *])]; exact ⟨by first | rfl | exact congrArg Value.agg (rqCells_setNum q 11 (by omega) (by omega) _), rfl⟩)
     | (rw [rdF_num (i := 12) l e (by simp [textIdx, *]) (by simp [numIdx, *])]; exact ⟨by first | rfl | exact congrArg Value.agg (rqCells_setNum q 12 (by omega) (by omega) _), rfl⟩)
     | (rw [rdF_num (i := 13) l e (by simp [textIdx, *]) (by simp [numIdx, *])]; exact ⟨by first | rfl | exact congrArg Value.agg (rqCells_setNum q 13 (by omega) (by omega) _), rfl⟩)
     | (rw [rdF_num (i := 14) l e (by simp [textIdx, *]) (by simp [numIdx, *])]; exact ⟨by first | rfl | exact congrArg Value.agg (rqCells_setNum q 14 (by omega) (by omega) _), rfl⟩)
     | (rw [rdF_num (i := 15) l e (by simp [textIdx, *]) (by simp [numIdx, *])]; exact ⟨by first | rfl | exact congrArg Value.agg (rqCells_setNum q 15 (by omega) (by omega) _), rfl⟩)
     | (rw [rdF_flag l e (by simp [textIdx, *]) (by simp [numIdx, *])]; exact ⟨rfl, rfl⟩)
 refine G_seq ?_
 refine G_region (l := [0, 1]) rfl ?_
 refine G_val rfl rfl rfl rfl (V_eql rfl rfl rfl) ?_
 refine G_val rfl rfl rfl rfl (V_assign rfl rfl) ?_
 refine G_done ?_
 refine G_ifD rfl (fun hc11 => ?_) (fun hc11 => ?_)
 · skip
   refine G_region (l := [0, 1, 2, 3]) rfl ?_
   refine G_val rfl rfl rfl rfl (V_move rfl rfl) ?_
   refine G_call (L2 := [_, _]) rfl rfl rfl rfl rfl rfl Try.call92 (rrd_int _ _ _ 1099511627776 (by omega) he ⟨by omega, by omega⟩) [2] [] rfl rfl ?_
   rintro v post ⟨rfl, rfl⟩
   show G _ _ _ [_, _, _] _
   refine G_val rfl rfl rfl rfl (V_fieldAddr (fo := 11) rfl Try.underlying40 rfl infWireR_3 rfl rfl rfl) ?_
   refine G_put (l1 := [_, _]) (L' := [_, _, _]) rfl rfl rfl rfl (P_store1 rfl rfl rfl (mem_at 2 rfl) (by first | exact of_decide_eq_true rfl | omega | (simp [rqCells, rqCells, rqCells, rqCells, rqCells]; done) | (simp [rqCells, rqCells, rqCells, rqCells, rqCells]; omega) | (simp [rqCells, rqCells, rqCells, rqCells, rqCells] at *; omega)) infWireR_3 rfl rfl) rfl ?_
   rw [rqCells_setNum _ 11 (by omega) (by omega)]
   refine G_done ?_
   refine G_inBlock ?_
   refine G_seq ?_
   refine G_region (l := [0, 1]) rfl ?_
   first
     | refine G_val rfl rfl rfl rfl (V_loadW (s := 17) rfl rfl (mem_at 2 rfl) Try.underlying40 rfl infWireR_40 rfl (by first | rfl | (simp [bcells_length, rqCells, rqCells, rqCells, rqCells, rqCells]; done) | (simp [bcells_length, rqCells, rqCells, rqCells, rqCells, rqCells]; omega) | (simp [bcells_length, *, rqCells, rqCells, rqCells, rqCells, rqCells]; done))) ?_
     | refine G_val rfl rfl rfl rfl (V_loadA (s := 17) rfl rfl (mem_at 2 rfl) Try.underlying40 rfl infWireR_40 rfl rfl (by first | rfl | (simp [bcells_length, rqCells, rqCells, rqCells, rqCells, rqCells]; done) | (simp [bcells_length, rqCells, rqCells, rqCells, rqCells, rqCells]; omega) | (simp [bcells_length, *, rqCells, rqCells, rqCells, rqCells, rqCells]; done))) ?_
   refine G_put (l1 := [_]) (L' := [_, _, _]) rfl rfl rfl rfl (P_storeA (s := 17) rfl rfl rfl (mem_at 1 rfl) (by first | rfl | (simp [bcells_length, rqCells, rqCells, rqCells, rqCells, rqCells]; done) | (simp [bcells_length, rqCells, rqCells, rqCells, rqCells, rqCells]; omega) | (simp [bcells_length, *, rqCells, rqCells, rqCells, rqCells, rqCells]; done)) infWireR_40 rfl (by first | rfl | (simp [bcells_length, rqCells, rqCells, rqCells, rqCells, rqCells]; done) | (simp [bcells_length, rqCells, rqCells, rqCells, rqCells, rqCells]; omega) | (simp [bcells_length, *, rqCells, rqCells, rqCells, rqCells, rqCells]; done)) (by first | rfl | exact bcells_all _ | (simp [Value.oneCell', rqCells, rqCells, rqCells, rqCells, rqCells]; done) | (simp [Value.oneCell', *, rqCells, rqCells, rqCells, rqCells, rqCells]; done))) rfl ?_
   refine G_done ?_
   refine G_ret (post := [_]) Try.func104 rfl (RVs_cons (RV_cell (s := 17) rfl (mem_at 1 rfl) Try.underlying40 rfl infWireR_40 rfl (by first | rfl | (simp [bcells_length, rqCells, rqCells, rqCells, rqCells, rqCells]; done) | (simp [bcells_length, rqCells, rqCells, rqCells, rqCells, rqCells]; omega) | (simp [bcells_length, *, rqCells, rqCells, rqCells, rqCells, rqCells]; done))) RVs_nil) [0] rfl ?_
   dsimp only [packed]
   first
     | (rw [rdF_text (i := 1) l e (by simp [textIdx, *])]; exact ⟨by first | rfl | exact congrArg Value.agg (rqCells_setText q 1 (by omega) (by omega) _), rfl⟩)
     | (rw [rdF_text (i := 2) l e (by simp [textIdx, *])]; exact ⟨by first | rfl | exact congrArg Value.agg (rqCells_setText q 2 (by omega) (by omega) _), rfl⟩)
     | (rw [rdF_text (i := 3) l e (by simp [textIdx, *])]; exact ⟨by first | rfl | exact congrArg Value.agg (rqCells_setText q 3 (by omega) (by omega) _), rfl⟩)
     | (rw [rdF_text (i := 4) l e (by simp [textIdx, *])]; exact ⟨by first | rfl | exact congrArg Value.agg (rqCells_setText q 4 (by omega) (by omega) _), rfl⟩)
     | (rw [rdF_text (i := 5) l e (by simp [textIdx, *])]; exact ⟨by first | rfl | exact congrArg Value.agg (rqCells_setText q 5 (by omega) (by omega) _), rfl⟩)
     | (rw [rdF_text (i := 6) l e (by simp [textIdx, *])]; exact ⟨by first | rfl | exact congrArg Value.agg (rqCells_setText q 6 (by omega) (by omega) _), rfl⟩)
     | (rw [rdF_num (i := 7) l e (by simp [textIdx, *]) (by simp [numIdx, *])]; exact ⟨by first | rfl | exact congrArg Value.agg (rqCells_setNum q 7 (by omega) (by omega) _), rfl⟩)
     | (rw [rdF_num (i := 8) l e (by simp [textIdx, *]) (by simp [numIdx, *])]; exact ⟨by first | rfl | exact congrArg Value.agg (rqCells_setNum q 8 (by omega) (by omega) _), rfl⟩)
     | (rw [rdF_num (i := 9) l e (by simp [textIdx, *]) (by simp [numIdx, *])]; exact ⟨by first | rfl | exact congrArg Value.agg (rqCells_setNum q 9 (by omega) (by omega) _), rfl⟩)
     | (rw [rdF_num (i := 10) l e (by simp [textIdx, *]) (by simp [numIdx, *])]; exact ⟨by first | rfl | exact congrArg Value.agg (rqCells_setNum q 10 (by omega) (by omega) _), rfl⟩)
     | (rw [rdF_num (i := 11) l e (by simp [textIdx, *]) (by simp [numIdx, *])]; exact ⟨by first | rfl | exact congrArg Value.agg (rqCells_setNum q 11 (by omega) (by omega) _), rfl⟩)
     | (rw [rdF_num (i := 12) l e (by simp [textIdx, *]) (by simp [numIdx, *])]; exact ⟨by first | rfl | exact congrArg Value.agg (rqCells_setNum q 12 (by omega) (by omega) _), rfl⟩)
     | (rw [rdF_num (i := 13) l e (by simp [textIdx, *]) (by simp [numIdx, *])]; exact ⟨by first | rfl | exact congrArg Value.agg (rqCells_setNum q 13 (by omega) (by omega) _), rfl⟩)
     | (rw [rdF_num (i := 14) l e (by simp [textIdx, *]) (by simp [numIdx, *])]; exact ⟨by first | rfl | exact congrArg Value.agg (rqCells_setNum q 14 (by omega) (by omega) _), rfl⟩)
     | (rw [rdF_num (i := 15) l e (by simp [textIdx, *]) (by simp [numIdx, *])]; exact ⟨by first | rfl | exact congrArg Value.agg (rqCells_setNum q 15 (by omega) (by omega) _), rfl⟩)
     | (rw [rdF_flag l e (by simp [textIdx, *]) (by simp [numIdx, *])]; exact ⟨rfl, rfl⟩)
 refine G_seq ?_
 refine G_region (l := [0, 1]) rfl ?_
 refine G_val rfl rfl rfl rfl (V_eql rfl rfl rfl) ?_
 refine G_val rfl rfl rfl rfl (V_assign rfl rfl) ?_
 refine G_done ?_
 refine G_ifD rfl (fun hc12 => ?_) (fun hc12 => ?_)
 · skip
   refine G_region (l := [0, 1, 2, 3]) rfl ?_
   refine G_val rfl rfl rfl rfl (V_move rfl rfl) ?_
   refine G_call (L2 := [_, _]) rfl rfl rfl rfl rfl rfl Try.call92 (rrd_int _ _ _ 1099511627776 (by omega) he ⟨by omega, by omega⟩) [2] [] rfl rfl ?_
   rintro v post ⟨rfl, rfl⟩
   show G _ _ _ [_, _, _] _
   refine G_val rfl rfl rfl rfl (V_fieldAddr (fo := 12) rfl Try.underlying40 rfl infWireR_3 rfl rfl rfl) ?_
   refine G_put (l1 := [_, _]) (L' := [_, _, _]) rfl rfl rfl rfl (P_store1 rfl rfl rfl (mem_at 2 rfl) (by first | exact of_decide_eq_true rfl | omega | (simp [rqCells, rqCells, rqCells, rqCells, rqCells]; done) | (simp [rqCells, rqCells, rqCells, rqCells, rqCells]; omega) | (simp [rqCells, rqCells, rqCells, rqCells, rqCells] at *; omega)) infWireR_3 rfl rfl) rfl ?_
   rw [rqCells_setNum _ 12 (by omega) (by omega)]
   refine G_done ?_
   refine G_inBlock ?_
   refine G_seq ?_
   refine G_region (l := [0, 1]) rfl ?_
   first
     | refine G_val rfl rfl rfl rfl (V_loadW (s := 17) rfl rfl (mem_at 2 rfl) Try.underlying40 rfl infWireR_40 rfl (by first | rfl | (simp [bcells_length, rqCells, rqCells, rqCells, rqCells, rqCells]; done) | (simp [bcells_length, rqCells, rqCells, rqCells, rqCells, rqCells]; omega) | (simp [bcells_length, *, rqCells, rqCells, rqCells, rqCells, rqCells]; done))) ?_
     | refine G_val rfl rfl rfl rfl (V_loadA (s := 17) rfl rfl (mem_at 2 rfl) Try.underlying40 rfl infWireR_40 rfl rfl (by first | rfl | (simp [bcells_length, rqCells, rqCells, rqCells, rqCells, rqCells]; done) | (simp [bcells_length, rqCells, rqCells, rqCells, rqCells, rqCells]; omega) | (simp [bcells_length, *, rqCells, rqCells, rqCells, rqCells, rqCells]; done))) ?_
   refine G_put (l1 := [_]) (L' := [_, _, _]) rfl rfl rfl rfl (P_storeA (s := 17) rfl rfl rfl (mem_at 1 rfl) (by first | rfl | (simp [bcells_length, rqCells, rqCells, rqCells, rqCells, rqCells]; done) | (simp [bcells_length, rqCells, rqCells, rqCells, rqCells, rqCells]; omega) | (simp [bcells_length, *, rqCells, rqCells, rqCells, rqCells, rqCells]; done)) infWireR_40 rfl (by first | rfl | (simp [bcells_length, rqCells, rqCells, rqCells, rqCells, rqCells]; done) | (simp [bcells_length, rqCells, rqCells, rqCells, rqCells, rqCells]; omega) | (simp [bcells_length, *, rqCells, rqCells, rqCells, rqCells, rqCells]; done)) (by first | rfl | exact bcells_all _ | (simp [Value.oneCell', rqCells, rqCells, rqCells, rqCells, rqCells]; done) | (simp [Value.oneCell', *, rqCells, rqCells, rqCells, rqCells, rqCells]; done))) rfl ?_
   refine G_done ?_
   refine G_ret (post := [_]) Try.func104 rfl (RVs_cons (RV_cell (s := 17) rfl (mem_at 1 rfl) Try.underlying40 rfl infWireR_40 rfl (by first | rfl | (simp [bcells_length, rqCells, rqCells, rqCells, rqCells, rqCells]; done) | (simp [bcells_length, rqCells, rqCells, rqCells, rqCells, rqCells]; omega) | (simp [bcells_length, *, rqCells, rqCells, rqCells, rqCells, rqCells]; done))) RVs_nil) [0] rfl ?_
   dsimp only [packed]
   first
     | (rw [rdF_text (i := 1) l e (by simp [textIdx, *])]; exact ⟨by first | rfl | exact congrArg Value.agg (rqCells_setText q 1 (by omega) (by omega) _), rfl⟩)
     | (rw [rdF_text (i := 2) l e (by simp [textIdx, *])]; exact ⟨by first | rfl | exact congrArg Value.agg (rqCells_setText q 2 (by omega) (by omega) _), rfl⟩)
     | (rw [rdF_text (i := 3) l e (by simp [textIdx, *])]; exact ⟨by first | rfl | exact congrArg Value.agg (rqCells_setText q 3 (by omega) (by omega) _), rfl⟩)
     | (rw [rdF_text (i := 4) l e (by simp [textIdx, *])]; exact ⟨by first | rfl | exact congrArg Value.agg (rqCells_setText q 4 (by omega) (by omega) _), rfl⟩)
     | (rw [rdF_text (i := 5) l e (by simp [textIdx, *])]; exact ⟨by first | rfl | exact congrArg Value.agg (rqCells_setText q 5 (by omega) (by omega) _), rfl⟩)
     | (rw [rdF_text (i := 6) l e (by simp [textIdx, *])]; exact ⟨by first | rfl | exact congrArg Value.agg (rqCells_setText q 6 (by omega) (by omega) _), rfl⟩)
     | (rw [rdF_num (i := 7) l e (by simp [textIdx, *]) (by simp [numIdx, *])]; exact ⟨by first | rfl | exact congrArg Value.agg (rqCells_setNum q 7 (by omega) (by omega) _), rfl⟩)
     | (rw [rdF_num (i := 8) l e (by simp [textIdx, *]) (by simp [numIdx, *])]; exact ⟨by first | rfl | exact congrArg Value.agg (rqCells_setNum q 8 (by omega) (by omega) _), rfl⟩)
     | (rw [rdF_num (i := 9) l e (by simp [textIdx, *]) (by simp [numIdx, *])]; exact ⟨by first | rfl | exact congrArg Value.agg (rqCells_setNum q 9 (by omega) (by omega) _), rfl⟩)
     | (rw [rdF_num (i := 10) l e (by simp [textIdx, *]) (by simp [numIdx, *])]; exact ⟨by first | rfl | exact congrArg Value.agg (rqCells_setNum q 10 (by omega) (by omega) _), rfl⟩)
     | (rw [rdF_num (i := 11) l e (by simp [textIdx, *]) (by simp [numIdx, *])]; exact ⟨by first | rfl | exact congrArg Value.agg (rqCells_setNum q 11 (by omega) (by omega) _), rfl⟩)
     | (rw [rdF_num (i := 12) l e (by simp [textIdx, *]) (by simp [numIdx, *])]; exact ⟨by first | rfl | exact congrArg Value.agg (rqCells_setNum q 12 (by omega) (by omega) _), rfl⟩)
     | (rw [rdF_num (i := 13) l e (by simp [textIdx, *]) (by simp [numIdx, *])]; exact ⟨by first | rfl | exact congrArg Value.agg (rqCells_setNum q 13 (by omega) (by omega) _), rfl⟩)
     | (rw [rdF_num (i := 14) l e (by simp [textIdx, *]) (by simp [numIdx, *])]; exact ⟨by first | rfl | exact congrArg Value.agg (rqCells_setNum q 14 (by omega) (by omega) _), rfl⟩)
     | (rw [rdF_num (i := 15) l e (by simp [textIdx, *]) (by simp [numIdx, *])]; exact ⟨by first | rfl | exact congrArg Value.agg (rqCells_setNum q 15 (by omega) (by omega) _), rfl⟩)
     | (rw [rdF_flag l e (by simp [textIdx, *]) (by simp [numIdx, *])]; exact ⟨rfl, rfl⟩)
 refine G_seq ?_
 refine G_region (l := [0, 1]) rfl ?_
 refine G_val rfl rfl rfl rfl (V_eql rfl rfl rfl) ?_
 refine G_val rfl rfl rfl rfl (V_assign rfl rfl) ?_
 refine G_done ?_
 refine G_ifD rfl (fun hc13 => ?_) (fun hc13 => ?_)
 · skip
   refine G_region (l := [0, 1, 2, 3]) rfl ?_
   refine G_val rfl rfl rfl rfl (V_move rfl rfl) ?_
   refine G_call (L2 := [_, _]) rfl rfl rfl rfl rfl rfl Try.call92 (rrd_int _ _ _ 1099511627776 (by omega) he ⟨by omega, by omega⟩) [2] [] rfl rfl ?_
   rintro v post ⟨rfl, rfl⟩
   show G _ _ _ [_, _, _] _
   refine G_val rfl rfl rfl rfl (V_fieldAddr (fo := 13) rfl Try.underlying40 rfl infWireR_3 rfl rfl rfl) ?_
   refine G_put (l1 := [_, _]) (L' := [_, _, _]) rfl rfl rfl rfl (P_store1 rfl rfl rfl (mem_at 2 rfl) (by first | exact of_decide_eq_true rfl | omega | (simp [rqCells, rqCells, rqCells, rqCells, rqCells]; done) | (simp [rqCells, rqCells, rqCells, rqCells, rqCells]; omega) | (simp [rqCells, rqCells, rqCells, rqCells, rqCells] at *; omega)) infWireR_3 rfl rfl) rfl ?_
   rw [rqCells_setNum _ 13 (by omega) (by omega)]
   refine G_done ?_
   refine G_inBlock ?_
   refine G_seq ?_
   refine G_region (l := [0, 1]) rfl ?_
   first
     | refine G_val rfl rfl rfl rfl (V_loadW (s := 17) rfl rfl (mem_at 2 rfl) Try.underlying40 rfl infWireR_40 rfl (by first | rfl | (simp [bcells_length, rqCells, rqCells, rqCells, rqCells, rqCells]; done) | (simp [bcells_length, rqCells, rqCells, rqCells, rqCells, rqCells]; omega) | (simp [bcells_length, *, rqCells, rqCells, rqCells, rqCells, rqCells]; done))) ?_
     | refine G_val rfl rfl rfl rfl (V_loadA (s := 17) rfl rfl (mem_at 2 rfl) Try.underlying40 rfl infWireR_40 rfl rfl (by first | rfl | (simp [bcells_length, rqCells, rqCells, rqCells, rqCells, rqCells]; done) | (simp [bcells_length, rqCells, rqCells, rqCells, rqCells, rqCells]; omega) | (simp [bcells_length, *, rqCells, rqCells, rqCells, rqCells, rqCells]; done))) ?_
   refine G_put (l1 := [_]) (L' := [_, _, _]) rfl rfl rfl rfl (P_storeA (s := 17) rfl rfl rfl (mem_at 1 rfl) (by first | rfl | (simp [bcells_length, rqCells, rqCells, rqCells, rqCells, rqCells]; done) | (simp [bcells_length, rqCells, rqCells, rqCells, rqCells, rqCells]; omega) | (simp [bcells_length, *, rqCells, rqCells, rqCells, rqCells, rqCells]; done)) infWireR_40 rfl (by first | rfl | (simp [bcells_length, rqCells, rqCells, rqCells, rqCells, rqCells]; done) | (simp [bcells_length, rqCells, rqCells, rqCells, rqCells, rqCells]; omega) | (simp [bcells_length, *, rqCells, rqCells, rqCells, rqCells, rqCells]; done)) (by first | rfl | exact bcells_all _ | (simp [Value.oneCell', rqCells, rqCells, rqCells, rqCells, rqCells]; done) | (simp [Value.oneCell', *, rqCells, rqCells, rqCells, rqCells, rqCells]; done))) rfl ?_
   refine G_done ?_
   refine G_ret (post := [_]) Try.func104 rfl (RVs_cons (RV_cell (s := 17) rfl (mem_at 1 rfl) Try.underlying40 rfl infWireR_40 rfl (by first | rfl | (simp [bcells_length, rqCells, rqCells, rqCells, rqCells, rqCells]; done) | (simp [bcells_length, rqCells, rqCells, rqCells, rqCells, rqCells]; omega) | (simp [bcells_length, *, rqCells, rqCells, rqCells, rqCells, rqCells]; done))) RVs_nil) [0] rfl ?_
   dsimp only [packed]
   first
     | (rw [rdF_text (i := 1) l e (by simp [textIdx, *])]; exact ⟨by first | rfl | exact congrArg Value.agg (rqCells_setText q 1 (by omega) (by omega) _), rfl⟩)
     | (rw [rdF_text (i := 2) l e (by simp [textIdx, *])]; exact ⟨by first | rfl | exact congrArg Value.agg (rqCells_setText q 2 (by omega) (by omega) _), rfl⟩)
     | (rw [rdF_text (i := 3) l e (by simp [textIdx, *])]; exact ⟨by first | rfl | exact congrArg Value.agg (rqCells_setText q 3 (by omega) (by omega) _), rfl⟩)
     | (rw [rdF_text (i := 4) l e (by simp [textIdx, *])]; exact ⟨by first | rfl | exact congrArg Value.agg (rqCells_setText q 4 (by omega) (by omega) _), rfl⟩)
     | (rw [rdF_text (i := 5) l e (by simp [textIdx, *])]; exact ⟨by first | rfl | exact congrArg Value.agg (rqCells_setText q 5 (by omega) (by omega) _), rfl⟩)
     | (rw [rdF_text (i := 6) l e (by simp [textIdx, *])]; exact ⟨by first | rfl | exact congrArg Value.agg (rqCells_setText q 6 (by omega) (by omega) _), rfl⟩)
     | (rw [rdF_num (i := 7) l e (by simp [textIdx, *]) (by simp [numIdx, *])]; exact ⟨by first | rfl | exact congrArg Value.agg (rqCells_setNum q 7 (by omega) (by omega) _), rfl⟩)
     | (rw [rdF_num (i := 8) l e (by simp [textIdx, *]) (by simp [numIdx, *])]; exact ⟨by first | rfl | exact congrArg Value.agg (rqCells_setNum q 8 (by omega) (by omega) _), rfl⟩)
     | (rw [rdF_num (i := 9) l e (by simp [textIdx, *]) (by simp [numIdx, *])]; exact ⟨by first | rfl | exact congrArg Value.agg (rqCells_setNum q 9 (by omega) (by omega) _), rfl⟩)
     | (rw [rdF_num (i := 10) l e (by simp [textIdx, *]) (by simp [numIdx, *])]; exact ⟨by first | rfl | exact congrArg Value.agg (rqCells_setNum q 10 (by omega) (by omega) _), rfl⟩)
     | (rw [rdF_num (i := 11) l e (by simp [textIdx, *]) (by simp [numIdx, *])]; exact ⟨by first | rfl | exact congrArg Value.agg (rqCells_setNum q 11 (by omega) (by omega) _), rfl⟩)
     | (rw [rdF_num (i := 12) l e (by simp [textIdx, *]) (by simp [numIdx, *])]; exact ⟨by first | rfl | exact congrArg Value.agg (rqCells_setNum q 12 (by omega) (by omega) _), rfl⟩)
     | (rw [rdF_num (i := 13) l e (by simp [textIdx, *]) (by simp [numIdx, *])]; exact ⟨by first | rfl | exact congrArg Value.agg (rqCells_setNum q 13 (by omega) (by omega) _), rfl⟩)
     | (rw [rdF_num (i := 14) l e (by simp [textIdx, *]) (by simp [numIdx, *])]; exact ⟨by first | rfl | exact congrArg Value.agg (rqCells_setNum q 14 (by omega) (by omega) _), rfl⟩)
     | (rw [rdF_num (i := 15) l e (by simp [textIdx, *]) (by simp [numIdx, *])]; exact ⟨by first | rfl | exact congrArg Value.agg (rqCells_setNum q 15 (by omega) (by omega) _), rfl⟩)
     | (rw [rdF_flag l e (by simp [textIdx, *]) (by simp [numIdx, *])]; exact ⟨rfl, rfl⟩)
 refine G_seq ?_
 refine G_region (l := [0, 1]) rfl ?_
 refine G_val rfl rfl rfl rfl (V_eql rfl rfl rfl) ?_
 refine G_val rfl rfl rfl rfl (V_assign rfl rfl) ?_
 refine G_done ?_
 refine G_ifD rfl (fun hc14 => ?_) (fun hc14 => ?_)
 · skip
   refine G_region (l := [0, 1, 2, 3]) rfl ?_
   refine G_val rfl rfl rfl rfl (V_move rfl rfl) ?_
   refine G_call (L2 := [_, _]) rfl rfl rfl rfl rfl rfl Try.call92 (rrd_int _ _ _ 1099511627776 (by omega) he ⟨by omega, by omega⟩) [2] [] rfl rfl ?_
   rintro v post ⟨rfl, rfl⟩
   show G _ _ _ [_, _, _] _
   refine G_val rfl rfl rfl rfl (V_fieldAddr (fo := 14) rfl Try.underlying40 rfl infWireR_3 rfl rfl rfl) ?_
   refine G_put (l1 := [_, _]) (L' := [_, _, _]) rfl rfl rfl rfl (P_store1 rfl rfl rfl (mem_at 2 rfl) (by first | exact of_decide_eq_true rfl | omega | (simp [rqCells, rqCells, rqCells, rqCells, rqCells]; done) | (simp [rqCells, rqCells, rqCells, rqCells, rqCells]; omega) | (simp [rqCells, rqCells, rqCells, rqCells, rqCells] at *; omega)) infWireR_3 rfl rfl) rfl ?_
   rw [rqCells_setNum _ 14 (by omega) (by omega)]
   refine G_done ?_
   refine G_inBlock ?_
   refine G_seq ?_
   refine G_region (l := [0, 1]) rfl ?_
   first
     | refine G_val rfl rfl rfl rfl (V_loadW (s := 17) rfl rfl (mem_at 2 rfl) Try.underlying40 rfl infWireR_40 rfl (by first | rfl | (simp [bcells_length, rqCells, rqCells, rqCells, rqCells, rqCells]; done) | (simp [bcells_length, rqCells, rqCells, rqCells, rqCells, rqCells]; omega) | (simp [bcells_length, *, rqCells, rqCells, rqCells, rqCells, rqCells]; done))) ?_
     | refine G_val rfl rfl rfl rfl (V_loadA (s := 17) rfl rfl (mem_at 2 rfl) Try.underlying40 rfl infWireR_40 rfl rfl (by first | rfl | (simp [bcells_length, rqCells, rqCells, rqCells, rqCells, rqCells]; done) | (simp [bcells_length, rqCells, rqCells, rqCells, rqCells, rqCells]; omega) | (simp [bcells_length, *, rqCells, rqCells, rqCells, rqCells, rqCells]; done))) ?_
   refine G_put (l1 := [_]) (L' := [_, _, _]) rfl rfl rfl rfl (P_storeA (s := 17) rfl rfl rfl (mem_at 1 rfl) (by first | rfl | (simp [bcells_length, rqCells, rqCells, rqCells, rqCells, rqCells]; done) | (simp [bcells_length, rqCells, rqCells, rqCells, rqCells, rqCells]; omega) | (simp [bcells_length, *, rqCells, rqCells, rqCells, rqCells, rqCells]; done)) infWireR_40 rfl (by first | rfl | (simp [bcells_length, rqCells, rqCells, rqCells, rqCells, rqCells]; done) | (simp [bcells_length, rqCells, rqCells, rqCells, rqCells, rqCells]; omega) | (simp [bcells_length, *, rqCells, rqCells, rqCells, rqCells, rqCells]; done)) (by first | rfl | exact bcells_all _ | (simp [Value.oneCell', rqCells, rqCells, rqCells, rqCells, rqCells]; done) | (simp [Value.oneCell', *, rqCells, rqCells, rqCells, rqCells, rqCells]; done))) rfl ?_
   refine G_done ?_
   refine G_ret (post := [_]) Try.func104 rfl (RVs_cons (RV_cell (s := 17) rfl (mem_at 1 rfl) Try.underlying40 rfl infWireR_40 rfl (by first | rfl | (simp [bcells_length, rqCells, rqCells, rqCells, rqCells, rqCells]; done) | (simp [bcells_length, rqCells, rqCells, rqCells, rqCells, rqCells]; omega) | (simp [bcells_length, *, rqCells, rqCells, rqCells, rqCells, rqCells]; done))) RVs_nil) [0] rfl ?_
   dsimp only [packed]
   first
     | (rw [rdF_text (i := 1) l e (by simp [textIdx, *])]; exact ⟨by first | rfl | exact congrArg Value.agg (rqCells_setText q 1 (by omega) (by omega) _), rfl⟩)
     | (rw [rdF_text (i := 2) l e (by simp [textIdx, *])]; exact ⟨by first | rfl | exact congrArg Value.agg (rqCells_setText q 2 (by omega) (by omega) _), rfl⟩)
     | (rw [rdF_text (i := 3) l e (by simp [textIdx, *])]; exact ⟨by first | rfl | exact congrArg Value.agg (rqCells_setText q 3 (by omega) (by omega) _), rfl⟩)
     | (rw [rdF_text (i := 4) l e (by simp [textIdx, *])]; exact ⟨by first | rfl | exact congrArg Value.agg (rqCells_setText q 4 (by omega) (by omega) _), rfl⟩)
     | (rw [rdF_text (i := 5) l e (by simp [textIdx, *])]; exact ⟨by first | rfl | exact congrArg Value.agg (rqCells_setText q 5 (by omega) (by omega) _), rfl⟩)
     | (rw [rdF_text (i := 6) l e (by simp [textIdx, *])]; exact ⟨by first | rfl | exact congrArg Value.agg (rqCells_setText q 6 (by omega) (by omega) _), rfl⟩)
     | (rw [rdF_num (i := 7) l e (by simp [textIdx, *]) (by simp [numIdx, *])]; exact ⟨by first | rfl | exact congrArg Value.agg (rqCells_setNum q 7 (by omega) (by omega) _), rfl⟩)
     | (rw [rdF_num (i := 8) l e (by simp [textIdx, *]) (by simp [numIdx, *])]; exact ⟨by first | rfl | exact congrArg Value.agg (rqCells_setNum q 8 (by omega) (by omega) _), rfl⟩)
     | (rw [rdF_num (i := 9) l e (by simp [textIdx, *]) (by simp [numIdx, *])]; exact ⟨by first | rfl | exact congrArg Value.agg (rqCells_setNum q 9 (by omega) (by omega) _), rfl⟩)
     | (rw [rdF_num (i := 10) l e (by simp [textIdx, *]) (by simp [numIdx, *])]; exact ⟨by first | rfl | exact congrArg Value.agg (rqCells_setNum q 10 (by omega) (by omega) _), rfl⟩)
     | (rw [rdF_num (i := 11) l e (by simp [textIdx, *]) (by simp [numIdx, *])]; exact ⟨by first | rfl | exact congrArg Value.agg (rqCells_setNum q 11 (by omega) (by omega) _), rfl⟩)
     | (rw [rdF_num (i := 12) l e (by simp [textIdx, *]) (by simp [numIdx, *])]; exact ⟨by first | rfl | exact congrArg Value.agg (rqCells_setNum q 12 (by omega) (by omega) _), rfl⟩)
     | (rw [rdF_num (i := 13) l e (by simp [textIdx, *]) (by simp [numIdx, *])]; exact ⟨by first | rfl | exact congrArg Value.agg (rqCells_setNum q 13 (by omega) (by omega) _), rfl⟩)
     | (rw [rdF_num (i := 14) l e (by simp [textIdx, *]) (by simp [numIdx, *])]; exact ⟨by first | rfl | exact congrArg Value.agg (rqCells_setNum q 14 (by omega) (by omega) _), rfl⟩)
     | (rw [rdF_num (i := 15) l e (by simp [textIdx, *]) (by simp [numIdx, *])]; exact ⟨by first | rfl | exact congrArg Value.agg (rqCells_setNum q 15 (by omega) (by omega) _), rfl⟩)
     | (rw [rdF_flag l e (by simp [textIdx, *]) (by simp [numIdx, *])]; exact ⟨rfl, rfl⟩)
 refine G_seq ?_
 refine G_region (l := [0, 1]) rfl ?_
 refine G_val rfl rfl rfl rfl (V_eql rfl rfl rfl) ?_
 refine G_val rfl rfl rfl rfl (V_assign rfl rfl) ?_
 refine G_done ?_
 refine G_ifD rfl (fun hc15 => ?_) (fun hc15 => ?_)
 · skip
   refine G_region (l := [0, 1, 2, 3]) rfl ?_
   refine G_val rfl rfl rfl rfl (V_move rfl rfl) ?_
   refine G_call (L2 := [_, _]) rfl rfl rfl rfl rfl rfl Try.call92 (rrd_int _ _ _ 1099511627776 (by omega) he ⟨by omega, by omega⟩) [2] [] rfl rfl ?_
   rintro v post ⟨rfl, rfl⟩
   show G _ _ _ [_, _, _] _
   refine G_val rfl rfl rfl rfl (V_fieldAddr (fo := 15) rfl Try.underlying40 rfl infWireR_3 rfl rfl rfl) ?_
   refine G_put (l1 := [_, _]) (L' := [_, _, _]) rfl rfl rfl rfl (P_store1 rfl rfl rfl (mem_at 2 rfl) (by first | exact of_decide_eq_true rfl | omega | (simp [rqCells, rqCells, rqCells, rqCells, rqCells]; done) | (simp [rqCells, rqCells, rqCells, rqCells, rqCells]; omega) | (simp [rqCells, rqCells, rqCells, rqCells, rqCells] at *; omega)) infWireR_3 rfl rfl) rfl ?_
   rw [rqCells_setNum _ 15 (by omega) (by omega)]
   refine G_done ?_
   refine G_inBlock ?_
   refine G_seq ?_
   refine G_region (l := [0, 1]) rfl ?_
   first
     | refine G_val rfl rfl rfl rfl (V_loadW (s := 17) rfl rfl (mem_at 2 rfl) Try.underlying40 rfl infWireR_40 rfl (by first | rfl | (simp [bcells_length, rqCells, rqCells, rqCells, rqCells, rqCells]; done) | (simp [bcells_length, rqCells, rqCells, rqCells, rqCells, rqCells]; omega) | (simp [bcells_length, *, rqCells, rqCells, rqCells, rqCells, rqCells]; done))) ?_
     | refine G_val rfl rfl rfl rfl (V_loadA (s := 17) rfl rfl (mem_at 2 rfl) Try.underlying40 rfl infWireR_40 rfl rfl (by first | rfl | (simp [bcells_length, rqCells, rqCells, rqCells, rqCells, rqCells]; done) | (simp [bcells_length, rqCells, rqCells, rqCells, rqCells, rqCells]; omega) | (simp [bcells_length, *, rqCells, rqCells, rqCells, rqCells, rqCells]; done))) ?_
   refine G_put (l1 := [_]) (L' := [_, _, _]) rfl rfl rfl rfl (P_storeA (s := 17) rfl rfl rfl (mem_at 1 rfl) (by first | rfl | (simp [bcells_length, rqCells, rqCells, rqCells, rqCells, rqCells]; done) | (simp [bcells_length, rqCells, rqCells, rqCells, rqCells, rqCells]; omega) | (simp [bcells_length, *, rqCells, rqCells, rqCells, rqCells, rqCells]; done)) infWireR_40 rfl (by first | rfl | (simp [bcells_length, rqCells, rqCells, rqCells, rqCells, rqCells]; done) | (simp [bcells_length, rqCells, rqCells, rqCells, rqCells, rqCells]; omega) | (simp [bcells_length, *, rqCells, rqCells, rqCells, rqCells, rqCells]; done)) (by first | rfl | exact bcells_all _ | (simp [Value.oneCell', rqCells, rqCells, rqCells, rqCells, rqCells]; done) | (simp [Value.oneCell', *, rqCells, rqCells, rqCells, rqCells, rqCells]; done))) rfl ?_
   refine G_done ?_
   refine G_ret (post := [_]) Try.func104 rfl (RVs_cons (RV_cell (s := 17) rfl (mem_at 1 rfl) Try.underlying40 rfl infWireR_40 rfl (by first | rfl | (simp [bcells_length, rqCells, rqCells, rqCells, rqCells, rqCells]; done) | (simp [bcells_length, rqCells, rqCells, rqCells, rqCells, rqCells]; omega) | (simp [bcells_length, *, rqCells, rqCells, rqCells, rqCells, rqCells]; done))) RVs_nil) [0] rfl ?_
   dsimp only [packed]
   first
     | (rw [rdF_text (i := 1) l e (by simp [textIdx, *])]; exact ⟨by first | rfl | exact congrArg Value.agg (rqCells_setText q 1 (by omega) (by omega) _), rfl⟩)
     | (rw [rdF_text (i := 2) l e (by simp [textIdx, *])]; exact ⟨by first | rfl | exact congrArg Value.agg (rqCells_setText q 2 (by omega) (by omega) _), rfl⟩)
     | (rw [rdF_text (i := 3) l e (by simp [textIdx, *])]; exact ⟨by first | rfl | exact congrArg Value.agg (rqCells_setText q 3 (by omega) (by omega) _), rfl⟩)
     | (rw [rdF_text (i := 4) l e (by simp [textIdx, *])]; exact ⟨by first | rfl | exact congrArg Value.agg (rqCells_setText q 4 (by omega) (by omega) _), rfl⟩)
     | (rw [rdF_text (i := 5) l e (by simp [textIdx, *])]; exact ⟨by first | rfl | exact congrArg Value.agg (rqCells_setText q 5 (by omega) (by omega) _), rfl⟩)
     | (rw [rdF_text (i := 6) l e (by simp [textIdx, *])]; exact ⟨by first | rfl | exact congrArg Value.agg (rqCells_setText q 6 (by omega) (by omega) _), rfl⟩)
     | (rw [rdF_num (i := 7) l e (by simp [textIdx, *]) (by simp [numIdx, *])]; exact ⟨by first | rfl | exact congrArg Value.agg (rqCells_setNum q 7 (by omega) (by omega) _), rfl⟩)
     | (rw [rdF_num (i := 8) l e (by simp [textIdx, *]) (by simp [numIdx, *])]; exact ⟨by first | rfl | exact congrArg Value.agg (rqCells_setNum q 8 (by omega) (by omega) _), rfl⟩)
     | (rw [rdF_num (i := 9) l e (by simp [textIdx, *]) (by simp [numIdx, *])]; exact ⟨by first | rfl | exact congrArg Value.agg (rqCells_setNum q 9 (by omega) (by omega) _), rfl⟩)
     | (rw [rdF_num (i := 10) l e (by simp [textIdx, *]) (by simp [numIdx, *])]; exact ⟨by first | rfl | exact congrArg Value.agg (rqCells_setNum q 10 (by omega) (by omega) _), rfl⟩)
     | (rw [rdF_num (i := 11) l e (by simp [textIdx, *]) (by simp [numIdx, *])]; exact ⟨by first | rfl | exact congrArg Value.agg (rqCells_setNum q 11 (by omega) (by omega) _), rfl⟩)
     | (rw [rdF_num (i := 12) l e (by simp [textIdx, *]) (by simp [numIdx, *])]; exact ⟨by first | rfl | exact congrArg Value.agg (rqCells_setNum q 12 (by omega) (by omega) _), rfl⟩)
     | (rw [rdF_num (i := 13) l e (by simp [textIdx, *]) (by simp [numIdx, *])]; exact ⟨by first | rfl | exact congrArg Value.agg (rqCells_setNum q 13 (by omega) (by omega) _), rfl⟩)
     | (rw [rdF_num (i := 14) l e (by simp [textIdx, *]) (by simp [numIdx, *])]; exact ⟨by first | rfl | exact congrArg Value.agg (rqCells_setNum q 14 (by omega) (by omega) _), rfl⟩)
     | (rw [rdF_num (i := 15) l e (by simp [textIdx, *]) (by simp [numIdx, *])]; exact ⟨by first | rfl | exact congrArg Value.agg (rqCells_setNum q 15 (by omega) (by omega) _), rfl⟩)
     | (rw [rdF_flag l e (by simp [textIdx, *]) (by simp [numIdx, *])]; exact ⟨rfl, rfl⟩)
 refine G_region (l := [0, 1, 2, 3]) rfl ?_
 refine G_val rfl rfl rfl rfl (V_move rfl rfl) ?_
 refine G_call (L2 := [_, _]) rfl rfl rfl rfl rfl rfl Try.call141 (rrd_flag _ _ _ (by omega) he) [2] [] rfl rfl ?_
 rintro v post ⟨rfl, rfl⟩
 show G _ _ _ [_, _, _] _
 refine G_val rfl rfl rfl rfl (V_fieldAddr (fo := 16) rfl Try.underlying40 rfl infWireR_4 rfl rfl rfl) ?_
 refine G_put (l1 := [_, _]) (L' := [_, _, _]) rfl rfl rfl rfl (P_store1 rfl rfl rfl (mem_at 2 rfl) (by first | exact of_decide_eq_true rfl | omega | (simp [rqCells, rqCells, rqCells, rqCells, rqCells]; done) | (simp [rqCells, rqCells, rqCells, rqCells, rqCells]; omega) | (simp [rqCells, rqCells, rqCells, rqCells, rqCells] at *; omega)) infWireR_4 rfl rfl) rfl ?_
 rw [rqCells_setFlag]
 refine G_done ?_
 refine G_inBlock ?_
 refine G_seq ?_
 refine G_region (l := [0, 1]) rfl ?_
 first
   | refine G_val rfl rfl rfl rfl (V_loadW (s := 17) rfl rfl (mem_at 2 rfl) Try.underlying40 rfl infWireR_40 rfl (by first | rfl | (simp [bcells_length, rqCells, rqCells, rqCells, rqCells, rqCells]; done) | (simp [bcells_length, rqCells, rqCells, rqCells, rqCells, rqCells]; omega) | (simp [bcells_length, *, rqCells, rqCells, rqCells, rqCells, rqCells]; done))) ?_
   | refine G_val rfl rfl rfl rfl (V_loadA (s := 17) rfl rfl (mem_at 2 rfl) Try.underlying40 rfl infWireR_40 rfl rfl (by first | rfl | (simp [bcells_length, rqCells, rqCells, rqCells, rqCells, rqCells]; done) | (simp [bcells_length, rqCells, rqCells, rqCells, rqCells, rqCells]; omega) | (simp [bcells_length, *, rqCells, rqCells, rqCells, rqCells, rqCells]; done))) ?_
 refine G_put (l1 := [_]) (L' := [_, _, _]) rfl rfl rfl rfl (P_storeA (s := 17) rfl rfl rfl (mem_at 1 rfl) (by first | rfl | (simp [bcells_length, rqCells, rqCells, rqCells, rqCells, rqCells]; done) | (simp [bcells_length, rqCells, rqCells, rqCells, rqCells, rqCells]; omega) | (simp [bcells_length, *, rqCells, rqCells, rqCells, rqCells, rqCells]; done)) infWireR_40 rfl (by first | rfl | (simp [bcells_length, rqCells, rqCells, rqCells, rqCells, rqCells]; done) | (simp [bcells_length, rqCells, rqCells, rqCells, rqCells, rqCells]; omega) | (simp [bcells_length, *, rqCells, rqCells, rqCells, rqCells, rqCells]; done)) (by first | rfl | exact bcells_all _ | (simp [Value.oneCell', rqCells, rqCells, rqCells, rqCells, rqCells]; done) | (simp [Value.oneCell', *, rqCells, rqCells, rqCells, rqCells, rqCells]; done))) rfl ?_
 refine G_done ?_
 refine G_ret (post := [_]) Try.func104 rfl (RVs_cons (RV_cell (s := 17) rfl (mem_at 1 rfl) Try.underlying40 rfl infWireR_40 rfl (by first | rfl | (simp [bcells_length, rqCells, rqCells, rqCells, rqCells, rqCells]; done) | (simp [bcells_length, rqCells, rqCells, rqCells, rqCells, rqCells]; omega) | (simp [bcells_length, *, rqCells, rqCells, rqCells, rqCells, rqCells]; done))) RVs_nil) [0] rfl ?_
 dsimp only [packed]
 first
   | (rw [rdF_text (i := 1) l e (by simp [textIdx, *])]; exact ⟨by first | rfl | exact congrArg Value.agg (rqCells_setText q 1 (by omega) (by omega) _), rfl⟩)
   | (rw [rdF_text (i := 2) l e (by simp [textIdx, *])]; exact ⟨by first | rfl | exact congrArg Value.agg (rqCells_setText q 2 (by omega) (by omega) _), rfl⟩)
   | (rw [rdF_text (i := 3) l e (by simp [textIdx, *])]; exact ⟨by first | rfl | exact congrArg Value.agg (rqCells_setText q 3 (by omega) (by omega) _), rfl⟩)
   | (rw [rdF_text (i := 4) l e (by simp [textIdx, *])]; exact ⟨by first | rfl | exact congrArg Value.agg (rqCells_setText q 4 (by omega) (by omega) _), rfl⟩)
   | (rw [rdF_text (i := 5) l e (by simp [textIdx, *])]; exact ⟨by first | rfl | exact congrArg Value.agg (rqCells_setText q 5 (by omega) (by omega) _), rfl⟩)
   | (rw [rdF_text (i := 6) l e (by simp [textIdx, *])]; exact ⟨by first | rfl | exact congrArg Value.agg (rqCells_setText q 6 (by omega) (by omega) _), rfl⟩)
   | (rw [rdF_num (i := 7) l e (by simp [textIdx, *]) (by simp [numIdx, *])]; exact ⟨by first | rfl | exact congrArg Value.agg (rqCells_setNum q 7 (by omega) (by omega) _), rfl⟩)
   | (rw [rdF_num (i := 8) l e (by simp [textIdx, *]) (by simp [numIdx, *])]; exact ⟨by first | rfl | exact congrArg Value.agg (rqCells_setNum q 8 (by omega) (by omega) _), rfl⟩)
   | (rw [rdF_num (i := 9) l e (by simp [textIdx, *]) (by simp [numIdx, *])]; exact ⟨by first | rfl | exact congrArg Value.agg (rqCells_setNum q 9 (by omega) (by omega) _), rfl⟩)
   | (rw [rdF_num (i := 10) l e (by simp [textIdx, *]) (by simp [numIdx, *])]; exact ⟨by first | rfl | exact congrArg Value.agg (rqCells_setNum q 10 (by omega) (by omega) _), rfl⟩)
   | (rw [rdF_num (i := 11) l e (by simp [textIdx, *]) (by simp [numIdx, *])]; exact ⟨by first | rfl | exact congrArg Value.agg (rqCells_setNum q 11 (by omega) (by omega) _), rfl⟩)
   | (rw [rdF_num (i := 12) l e (by simp [textIdx, *]) (by simp [numIdx, *])]; exact ⟨by first | rfl | exact congrArg Value.agg (rqCells_setNum q 12 (by omega) (by omega) _), rfl⟩)
   | (rw [rdF_num (i := 13) l e (by simp [textIdx, *]) (by simp [numIdx, *])]; exact ⟨by first | rfl | exact congrArg Value.agg (rqCells_setNum q 13 (by omega) (by omega) _), rfl⟩)
   | (rw [rdF_num (i := 14) l e (by simp [textIdx, *]) (by simp [numIdx, *])]; exact ⟨by first | rfl | exact congrArg Value.agg (rqCells_setNum q 14 (by omega) (by omega) _), rfl⟩)
   | (rw [rdF_num (i := 15) l e (by simp [textIdx, *]) (by simp [numIdx, *])]; exact ⟨by first | rfl | exact congrArg Value.agg (rqCells_setNum q 15 (by omega) (by omega) _), rfl⟩)
   | (rw [rdF_flag l e (by simp [textIdx, *]) (by simp [numIdx, *])]; exact ⟨rfl, rfl⟩)

end
end Go.Proofs.Ytkidmbaakdaflaa
