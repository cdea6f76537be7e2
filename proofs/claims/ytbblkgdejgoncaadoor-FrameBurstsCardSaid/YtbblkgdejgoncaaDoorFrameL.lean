/- What the laws of layer 25 say: the pieces of a record are decoded as it, whatever stands behind; the example. -/
import Derived.Test.YtbblkgdejgoncaaDoorFrameD
import Derived.Test.YtbblkgdejgoncaaDoorLaw3
set_option linter.unusedSimpArgs false
set_option linter.unusedVariables false
namespace Go.Proofs.YtbblkgdejgoncaaDoor
open Go Go.ChangeShapes Go.WideShapes Go.ChangeAt Go.RowKit

section
theorem infFrameL_9 : Tryd.prog.info? 9 = some Tryd.t9 := by kernel_rfl


theorem src_sees {c : Cx} {L : List (Option Nat × Obj)} {sz off m cap : Nat} {ob : Option Nat} {cs : Array Value} {T : TypeId} {fr : Nat × Nat} {news : List Value} (hs : Sees sz ob off cap cs news m) (hm : (ob, Obj.cells cs T fr) ∈ c.A ++ L) (h1 : ∀ u ∈ news, u.oneCell' = true) (w : World) (hw : Has w c.A L) :
    Src c.P w sz (sv ob off m cap) m news := by
  cases ob with
  | none =>
    have h0 := hs.isNil rfl
    have h2 := hs.le
    have hm0 : m = 0 := by omega
    have hl := hs.len
    rw [hm0, Nat.zero_mul] at hl
    rw [List.length_eq_zero_iff.1 hl, hm0, h0]
    exact src_nil
  | some b => exact src_mem hm hs.len (by rw [hs.len]; exact hs.part) h1 w hw
theorem strs_one (ls : List (List UInt8)) : ∀ u ∈ ls.map strC, u.oneCell' = true := by
  intro u hu
  obtain ⟨l, _, rfl⟩ := List.mem_map.1 hu
  simp [strC, Value.oneCell']
theorem flat_str (ls : List (List UInt8)) : ls.flatMap (fun l => [strC l]) = ls.map strC := by
  induction ls with
  | nil => rfl
  | cons x ls ih => simp [ih]
theorem okv_slice {P : Program} {W : World} {r : Reach} {b : Nat} {t e : TypeId} {v : Value} (h : Value.okWide P W r b t v) (ht : P.underlying t = some (.slice e)) : ∃ p i j, v = .slice p i j ∧ Cell.okWide P W r b t v := by
  have h1 := okv_cell h ht rfl
  have h2 := h1
  unfold Cell.okWide at h2
  rw [ht] at h2
  cases v <;> first | exact ⟨_, _, _, rfl, h1⟩ | (exfalso; first | exact h2 | (unfold Cell.ok at h2; rw [ht] at h2; exact h2) | (simp [Cell.ok, ht] at h2; done))
theorem padF_head (s : List UInt8) : (padF s).take 6 = headF s := by
  unfold padF bytesF
  rw [List.append_assoc, List.take_left' (headF_len s)]
theorem padF_two (s : List UInt8) : (padF s).take 2 = be 2 s.length := by
  have h := padF_head s
  have h2 : (padF s).take 2 = ((padF s).take 6).take 2 := by rw [List.take_take]; rfl
  rw [h2, h]
  unfold headF
  rw [List.take_left' (be_length 2 s.length)]
theorem padF_rec (s : List UInt8) : ((padF s).drop 6).take s.length = s := by
  unfold padF bytesF
  rw [List.append_assoc, List.drop_left' (headF_len s), List.take_left' rfl]
theorem dec_enc {s : List UInt8} (h : s.length ≤ 1000) (ms : List (List UInt8)) : decS (encF s ++ ms) = s ∧ decM (encF s ++ ms) = (encF s).length ∧ decE (encF s ++ ms) = 0 := by
  obtain ⟨e1, _⟩ := encF_yes h
  rw [e1]
  have hp := padF_len s
  have hr := manyN_room s.length
  obtain ⟨k, hk⟩ : ∃ k, manyN s.length = k + 1 := ⟨manyN s.length - 1, by omega⟩
  have hf : firstF (piecesF s ++ ms) = (padF s).take 48 := by
    unfold piecesF; rw [hk, chunks_cons]; rfl
  have h48 : ((padF s).take 48).length = 48 := by rw [List.length_take]; omega
  have h2 : num (((padF s).take 48).take 2) = s.length := by
    rw [List.take_take, show min 2 48 = 2 from rfl, padF_two]
    exact num_be 2 _ (fit2 (by omega))
  have hs : sizeF (firstF (piecesF s ++ ms)) = s.length ∧ sizeFE (firstF (piecesF s ++ ms)) = 0 := by
    rw [hf]
    obtain ⟨a, b⟩ := sizeF_ok (p := (padF s).take 48) h48 (by omega)
    exact ⟨a.trans h2, b⟩
  have hn : nF (piecesF s ++ ms) = s.length := hs.1
  have hm : mF (piecesF s ++ ms) = manyN s.length := by unfold mF; rw [hn]
  have hl : (piecesF s).length = manyN s.length := piecesF_len s
  have ht : (piecesF s ++ ms).take (mF (piecesF s ++ ms)) = piecesF s := by rw [hm, List.take_left' hl]
  have ha : allF (piecesF s ++ ms) = padF s := by
    unfold allF; rw [ht]; exact flat_chunks _ _ hp
  have hfu : fullF (piecesF s ++ ms) = true := by
    unfold fullF; rw [ht]
    exact List.all_eq_true.2 fun x hx => decide_eq_true (chunks_all hp x hx)
  have hrec : recF (piecesF s ++ ms) = s := by unfold recF; rw [ha, hn]; exact padF_rec s
  obtain ⟨d1, d2, d3⟩ := dec_ok (ls := piecesF s ++ ms) (by rw [List.length_append]; omega) hs.2 (by rw [hm, List.length_append]; omega) hfu (by rw [ha, hrec])
  exact ⟨d1.trans hrec, d2.trans (hm.trans hl.symm), d3⟩
theorem enc_small (s : List UInt8) : (encF s).length ≤ 21 := by
  unfold encF
  split
  · rw [piecesF_len]; unfold manyN; omega
  · simp
theorem enc_all {s : List UInt8} {ms : List (List UInt8)} (hg : ∀ x ∈ ms, x.length ≤ 9223372036854775807) : ∀ x ∈ encF s ++ ms, x.length ≤ 9223372036854775807 := by
  intro x hx
  rcases List.mem_append.1 hx with h | h
  · unfold encF at h
    split at h
    · have := chunks_all (padF_len s) x h; omega
    · cases h
  · exact hg x h
theorem live_one : encF [] = [padF []] ∧ encFE [] = 0 ∧ (padF []).length = 48 ∧ (padF []).take 6 = bytesF [] := by
  have h := padF_len []
  have hm : manyN ([] : List UInt8).length = 1 := rfl
  rw [hm] at h
  obtain ⟨e1, e2⟩ := encF_yes (s := []) (by simp)
  refine ⟨?_, e2, h, ?_⟩
  · rw [e1]; unfold piecesF
    rw [hm, chunks_cons, List.take_of_length_le (by omega)]; rfl
  · rw [padF_head]; unfold bytesF; rw [List.append_nil]
theorem rfr_manyZ (z : Int) (h0 : 0 < z) (h1 : z < 1048576) : Ct Tryd.prog 39 [.int .i64 z] [] [] (fun v post => v = .int .i64 ((manyN z.toNat : Nat) : Int) ∧ post = []) := by
  obtain ⟨n, rfl⟩ : ∃ n : Nat, z = (n : Int) := ⟨z.toNat, by omega⟩
  exact rfr_many n (by omega)
theorem many_neg {z : Int} (h : z ≤ 0) : ((manyN z.toNat : Nat) : Int) = 1 := by rw [Int.toNat_of_nonpos h]; rfl

set_option maxRecDepth 100000 in
set_option maxHeartbeats 1000000 in
theorem fl_num (z : Int) :
    Ct Tryd.prog 15 [.int .i64 z] [] [] fun v post => v = .int .i64 z ∧ post = [] := by
 refine ct_of Tryd.func15 rfl rfl (fun w0 => ?_)
 show G _ _ [(0, _)] _ _
 refine G_seq ?_
 refine G_region (l := [0]) rfl ?_
 refine G_val rfl rfl rfl rfl (V_assign rfl rfl) ?_
 refine G_done ?_
 refine G_seq ?_
 refine G_region (l := [0, 1]) rfl ?_
 refine G_val rfl rfl rfl rfl (V_move rfl rfl) ?_
 refine G_val rfl rfl rfl rfl (V_assign rfl rfl) ?_
 refine G_done ?_
 refine G_ret (post := []) Tryd.func15 rfl (RVs_cons (RV_tmp rfl) RVs_nil) [] rfl ?_
 dsimp only [packed]
 exact ⟨rfl, rfl⟩

set_option maxRecDepth 100000 in
set_option maxHeartbeats 1000000 in
theorem fl_live  :
    Ct Tryd.prog 12 [] [] [] fun v post => v = .bool true ∧ post = [] := by
 refine ct_of Tryd.func12 rfl rfl (fun w0 => ?_)
 show G _ _ [] _ _
 refine G_seq ?_
 refine G_region (l := [0]) rfl ?_
 refine G_val rfl rfl rfl rfl (V_assign rfl rfl) ?_
 refine G_done ?_
 refine G_seq ?_
 refine G_region (l := [0, 1, 2, 3, 4, 5]) rfl ?_
 refine G_call (L2 := []) rfl rfl rfl rfl rfl rfl Tryd.call53 (fr_encode [] (by simp)) [] [] rfl rfl ?_
 rintro v post ⟨u, hu, rfl, rfl⟩
 show G _ _ _ [_] _
 obtain ⟨lv1, lv2, lv3, lv4⟩ := live_one
 rw [lv1] at hu
 rw [lv1, lv2]
 obtain ⟨ob, cs, fz, cap⟩ := u
 obtain ⟨b9, hb9⟩ := hu.isSome (by decide)
 simp only at hb9
 subst hb9
 have hx0 : ([padF []] : List (List UInt8))[0]? = some (padF []) := rfl
 have hcap : 1 ≤ cap := hu.le
 rw [show ([padF []] : List (List UInt8)).length = 1 from rfl]
 show G _ _ _ [(some b9, .cells cs 9 fz)] _
 refine G_val rfl rfl rfl rfl (V_move rfl rfl) ?_
 refine G_val rfl rfl rfl rfl (V_extract rfl rfl rfl) ?_
 refine G_val rfl rfl rfl rfl (V_extract rfl rfl rfl) ?_
 refine G_val rfl rfl rfl rfl (V_assign rfl rfl) ?_
 refine G_val rfl rfl rfl rfl (V_assign rfl rfl) ?_
 refine G_done ?_
 refine G_seq ?_
 refine G_draw mixedK (by kernel_rfl) ?_
 refine GQ_val rfl rfl rfl rfl (V_move rfl rfl) ?_
 refine GQ_call rfl rfl rfl rfl rfl rfl Tryd.call15 (fl_num _) [] rfl (fun v post hp => (hp : _ ∧ _).1) ?_
 refine GQ_val rfl rfl rfl rfl (V_eql rfl rfl rfl) ?_
 refine GQ_val rfl rfl rfl rfl (V_move rfl rfl) ?_
 refine GQ_splitD 10 rfl (fun hc1 => ?_) (fun hc1 => ?_)
 rotate_left
 · (first | (exact absurd rfl hc1) | (exact absurd lv4 hc1) | (exact absurd hc1 (by decide)) | (exfalso; omega))
 refine GQ_val rfl rfl rfl rfl (V_move rfl rfl) ?_
 refine GQ_val rfl rfl rfl rfl (V_len rfl rfl Tryd.underlying24 rfl) ?_
 refine GQ_val rfl rfl rfl rfl (V_eql rfl rfl rfl) ?_
 refine GQ_val rfl rfl rfl rfl (V_pickT rfl rfl rfl) ?_
 refine GQ_val rfl rfl rfl rfl (V_move rfl rfl) ?_
 refine GQ_splitD 15 rfl (fun hc2 => ?_) (fun hc2 => ?_)
 rotate_left
 · (first | (exact absurd rfl hc2) | (exact absurd lv4 hc2) | (exact absurd hc2 (by decide)) | (exfalso; omega))
 refine GQ_val rfl rfl rfl rfl (V_move rfl rfl) ?_
 first
   | refine GQ_val rfl rfl rfl rfl (V_indexAddrN (s := 1) rfl Tryd.underlying24 infFrameL_9 rfl rfl rfl rfl (by omega)) ?_
   | refine GQ_val rfl rfl rfl rfl (V_indexAddr (s := 1) rfl Tryd.underlying24 infFrameL_9 rfl rfl rfl (by omega) (by first | omega | (simp; done) | (simp; omega) | (simp at *; omega))) ?_
 refine GQ_val rfl rfl rfl rfl (V_load1 rfl rfl (by first | exact mem_at 0 rfl) (nth_of (hu.sees.cell hx0)) Tryd.underlying9 rfl) ?_
 refine GQ_val rfl rfl rfl rfl (V_slen rfl rfl Tryd.underlying9 rfl) ?_
 refine GQ_val rfl rfl rfl rfl (V_eql rfl rfl rfl) ?_
 refine GQ_val rfl rfl rfl rfl (V_pickT rfl rfl rfl) ?_
 refine GQ_val rfl rfl rfl rfl (V_move rfl rfl) ?_
 refine GQ_splitD 22 rfl (fun hc3 => ?_) (fun hc3 => ?_)
 rotate_left
 · (first | (exact absurd rfl hc3) | (exact absurd lv4 hc3) | (exact absurd hc3 (by decide)) | (exfalso; omega))
 refine GQ_val rfl rfl rfl rfl (V_move rfl rfl) ?_
 first
   | refine GQ_val rfl rfl rfl rfl (V_indexAddrN (s := 1) rfl Tryd.underlying24 infFrameL_9 rfl rfl rfl rfl (by omega)) ?_
   | refine GQ_val rfl rfl rfl rfl (V_indexAddr (s := 1) rfl Tryd.underlying24 infFrameL_9 rfl rfl rfl (by omega) (by first | omega | (simp; done) | (simp; omega) | (simp at *; omega))) ?_
 refine GQ_val rfl rfl rfl rfl (V_load1 rfl rfl (by first | exact mem_at 0 rfl) (nth_of (hu.sees.cell hx0)) Tryd.underlying9 rfl) ?_
 first
   | refine GQ_val rfl rfl rfl rfl (V_ssliceHN (hi := 6) rfl Tryd.underlying9 rfl rfl rfl (by first | omega | (simp; done) | (simp; omega) | (simp at *; omega))) ?_
   | refine GQ_val rfl rfl rfl rfl (V_ssliceH rfl Tryd.underlying9 rfl rfl (by first | omega | (simp; done) | (simp; omega) | (simp at *; omega)) (by first | omega | (simp; done) | (simp; omega) | (simp at *; omega))) ?_
 refine GQ_call rfl rfl rfl rfl rfl rfl Tryd.call54 (rfr_bytes [] (by simp)) [] rfl (fun v post hp => (hp : _ ∧ _).1) ?_
 refine GQ_val rfl rfl rfl rfl (V_seql rfl rfl rfl) ?_
 refine GQ_val rfl rfl rfl rfl (V_pickT rfl rfl rfl) ?_
 refine GQ_val rfl rfl rfl rfl (V_move rfl rfl) ?_
 refine GQ_splitD 30 rfl (fun hc4 => ?_) (fun hc4 => ?_)
 rotate_left
 · (first | (exact absurd rfl hc4) | (exact absurd lv4 hc4) | (exact absurd hc4 (by decide)) | (exfalso; omega))
 refine GQ_call rfl rfl rfl rfl rfl rfl Tryd.call55 (fr_many 42 (by omega)) [] rfl (fun v post hp => (hp : _ ∧ _).1) ?_
 refine GQ_val rfl rfl rfl rfl (V_eql rfl rfl rfl) ?_
 refine GQ_val rfl rfl rfl rfl (V_pickT rfl rfl rfl) ?_
 refine GQ_val rfl rfl rfl rfl (V_move rfl rfl) ?_
 refine GQ_splitD 34 rfl (fun hc5 => ?_) (fun hc5 => ?_)
 rotate_left
 · (first | (exact absurd rfl hc5) | (exact absurd lv4 hc5) | (exact absurd hc5 (by decide)) | (exfalso; omega))
 refine GQ_call rfl rfl rfl rfl rfl rfl Tryd.call55 (fr_many 43 (by omega)) [] rfl (fun v post hp => (hp : _ ∧ _).1) ?_
 refine GQ_val rfl rfl rfl rfl (V_eql rfl rfl rfl) ?_
 refine GQ_val rfl rfl rfl rfl (V_pickT rfl rfl rfl) ?_
 refine GQ_val rfl rfl rfl rfl (V_assign rfl rfl) ?_
 refine GQ_done rfl ?_
 refine G_ret (post := []) Tryd.func12 rfl (RVs_cons (RV_tmp rfl) RVs_nil) [] rfl ?_
 dsimp only [packed]
 exact ⟨rfl, rfl⟩

end
end Go.Proofs.YtbblkgdejgoncaaDoor
