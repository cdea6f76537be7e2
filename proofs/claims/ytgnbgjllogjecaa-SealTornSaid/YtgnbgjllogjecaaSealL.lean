/- The laws of layer 23: sealed blocks. -/
import Derived.Test.YtgnbgjllogjecaaSealW
import Derived.Test.YtgnbgjllogjecaaLaw2
namespace Go.Proofs.Ytgnbgjllogjecaa
open Go Go.RowKit

section
theorem infSealL_4 : Try.prog.info? 4 = some Try.t4 := by kernel_rfl
theorem infSealL_5 : Try.prog.info? 5 = some Try.t5 := by kernel_rfl
theorem infSealL_9 : Try.prog.info? 9 = some Try.t9 := by kernel_rfl
theorem infSealL_22 : Try.prog.info? 22 = some Try.t22 := by kernel_rfl
theorem infSealL_71 : Try.prog.info? 71 = some Try.t71 := by kernel_rfl
theorem infSealL_73 : Try.prog.info? 73 = some Try.t73 := by kernel_rfl
theorem infSealL_79 : Try.prog.info? 79 = some Try.t79 := by kernel_rfl


def sealedC (e i : Nat) (d : List UInt8) : List Value := .int .u32 (e : Int) :: .int .u32 (i : Int) :: bcells d
@[simp] theorem sealedC_length (e i : Nat) (d : List UInt8) : (sealedC e i d).length = d.length + 2 := by simp [sealedC, bcells_length]
theorem openD_len (s : List UInt8) : (openD s).length ≤ s.length := by
  unfold openD
  split
  · simp; omega
  · simp
theorem be4_num (l : List UInt8) (h : l.length = 4) : be 4 (num l) = l := by
  have := be_num l
  rwa [h] at this
theorem sealL_open {s : List UInt8} (h : openOk s = true) : sealL (openE s) (openI s) (openD s) = s := by
  have h' := h
  unfold openOk at h'
  have h' : s.length = 64 ∧ s.take 8 = s.drop 56 ∧ num (s.take 4) ≠ 0 := by simpa using h'
  obtain ⟨h1, h2, h3⟩ := h'
  unfold openE openI openD
  simp only [h, if_true]
  unfold sealL
  have hd : ((s.take 56).drop 8).length = 48 := by simp; omega
  rw [if_neg (by simp only [hd]; omega), be4_num _ (by simp; omega), be4_num _ (by simp; omega)]
  have e1 : s.take 4 ++ (s.take 8).drop 4 = s.take 8 := by
    have : s.take 4 = (s.take 8).take 4 := by rw [List.take_take]; rfl
    rw [this, List.take_append_drop]
  rw [List.append_assoc _ (s.take 4), e1]
  have e2 : s.take 8 = (s.take 56).take 8 := by rw [List.take_take]; rfl
  rw [List.append_assoc (s.take 8)]
  conv => lhs; arg 2; arg 2; rw [h2]
  conv => lhs; arg 1; rw [e2]
  rw [← List.append_assoc, List.take_append_drop, List.take_append_drop]
theorem sealE_open {s : List UInt8} (h : openOk s = true) : sealE (openE s) (openD s) = 0 := by
  have h' := h
  unfold openOk at h'
  have h' : s.length = 64 ∧ s.take 8 = s.drop 56 ∧ num (s.take 4) ≠ 0 := by simpa using h'
  obtain ⟨h1, h2, h3⟩ := h'
  unfold openE openD
  simp only [h, if_true]
  unfold sealE
  have hd : ((s.take 56).drop 8).length = 48 := by simp; omega
  rw [if_neg (by simp only [hd]; omega)]
theorem sealE_cases (e : Nat) (d : List UInt8) : sealE e d = 0 ↔ ¬ (e = 0 ∨ d.length ≠ 48) := by
  unfold sealE; split <;> simp_all
theorem sealL_length {e i : Nat} {d : List UInt8} (h : sealE e d = 0) : (sealL e i d).length = 64 := by
  rw [sealE_cases] at h
  unfold sealL
  rw [if_neg h]
  simp [be_length]
  omega
theorem sealL_parts {e i : Nat} {d : List UInt8} (h : sealE e d = 0) : (sealL e i d).take 4 = be 4 e ∧ ((sealL e i d).take 8).drop 4 = be 4 i ∧ ((sealL e i d).take 56).drop 8 = d ∧ (sealL e i d).take 8 = (sealL e i d).drop 56 := by
  rw [sealE_cases] at h
  have hd : d.length = 48 := by omega
  unfold sealL
  rw [if_neg h]
  have h4 := be_length 4 e
  have h5 := be_length 4 i
  have h8 : (be 4 e ++ be 4 i).length = 8 := by simp [h4, h5]
  have h56 : (be 4 e ++ be 4 i ++ d).length = 56 := by simp [h4, h5, hd]
  have t8 : (be 4 e ++ be 4 i ++ d ++ be 4 e ++ be 4 i).take 8 = be 4 e ++ be 4 i := by
    rw [List.append_assoc, List.append_assoc, List.append_assoc, ← List.append_assoc (be 4 e)]
    rw [List.take_append_of_le_length (by omega), List.take_of_length_le (by omega)]
  have t4 : (be 4 e ++ be 4 i).take 4 = be 4 e := by rw [List.take_append_of_le_length (by omega), List.take_of_length_le (by omega)]
  refine ⟨?_, ?_, ?_, ?_⟩
  · have : (be 4 e ++ be 4 i ++ d ++ be 4 e ++ be 4 i).take 4 = ((be 4 e ++ be 4 i ++ d ++ be 4 e ++ be 4 i).take 8).take 4 := by rw [List.take_take]; rfl
    rw [this, t8, t4]
  · rw [t8]; exact List.drop_left' h4
  · rw [List.append_assoc (be 4 e ++ be 4 i ++ d), List.take_left' h56]
    exact List.drop_left' h8
  · rw [t8, List.append_assoc (be 4 e ++ be 4 i ++ d), List.drop_left' h56]
theorem openOk_seal {e i : Nat} {d : List UInt8} (he : e < 4294967296) (h : sealE e d = 0) : openOk (sealL e i d) = true := by
  obtain ⟨h1, h2, h3, h4⟩ := sealL_parts (i := i) h
  have hl := sealL_length (i := i) h
  rw [sealE_cases] at h
  unfold openOk
  rw [if_pos]
  refine ⟨hl, h4, ?_⟩
  rw [h1, num_be 4 e (by omega)]
  omega
theorem open_seal {e i : Nat} {d : List UInt8} (he : e < 4294967296) (hi : i < 4294967296) (h : sealE e d = 0) : openE (sealL e i d) = e ∧ openI (sealL e i d) = i ∧ openD (sealL e i d) = d := by
  obtain ⟨h1, h2, h3, h4⟩ := sealL_parts (i := i) h
  have ho := openOk_seal (i := i) he h
  unfold openE openI openD
  simp only [ho, if_true]
  rw [h1, h2, h3, num_be 4 e (by omega), num_be 4 i (by omega)]
  exact ⟨rfl, rfl, rfl⟩
theorem sealL_le (e i : Nat) (d : List UInt8) : (sealL e i d).length ≤ d.length + 16 := by
  unfold sealL
  split
  · simp
  · simp [be_length]
    omega
theorem openOk_not {e i : Nat} {d : List UInt8} (h : ¬ sealE e d = 0) : openOk (sealL e i d) = false := by
  rw [sealE_cases] at h
  have h' : e = 0 ∨ d.length ≠ 48 := Classical.not_not.1 h
  unfold sealL
  rw [if_pos h']
  rfl

set_option maxRecDepth 100000 in
set_option maxHeartbeats 1000000 in
theorem seal_num (x : Int) :
    Ct Try.prog 48 [.int .i64 x] [] [] fun v post => v = .int .i64 x ∧ post = [] := by
 refine ct_of Try.func48 rfl rfl (fun w0 => ?_)
 show G _ _ [(0, _)] _ _
 refine G_seq ?_
 refine G_region (l := [0]) rfl ?_
 refine G_val rfl rfl rfl rfl (V_assign rfl rfl) ?_
 refine G_done ?_
 refine G_seq ?_
 refine G_region (l := [0, 1]) rfl ?_
 refine G_val rfl rfl rfl rfl (V_move rfl rfl) ?_
 refine G_val rfl rfl rfl rfl (V_assign rfl rfl) ?_
 refine G_done ?_
 refine G_ret (post := []) Try.func48 rfl (RVs_cons (RV_tmp rfl) RVs_nil) [] rfl ?_
 dsimp only [packed]
 exact ⟨rfl, rfl⟩

set_option maxRecDepth 100000 in
set_option maxHeartbeats 1000000 in
theorem seal_text (e i : Nat) (d : List UInt8) (hd : d.length = 48) :
    Ct Try.prog 43 [.agg (sealedC e i d).toArray] [] [] fun v post => v = .string (bs d) ∧ post = [] := by
 refine ct_of Try.func43 rfl rfl (fun w0 => ?_)
 show G _ _ [(0, _)] _ _
 refine G_seq ?_
 refine G_region (l := [0, 1]) rfl ?_
 refine G_new rfl rfl rfl rfl (N_boxA rfl rfl) (fun b1 => ?_)
 refine G_val rfl rfl rfl rfl (V_assign rfl rfl) ?_
 refine G_done ?_
 refine G_seq ?_
 refine G_region (l := [0, 1, 2, 3]) rfl ?_
 refine G_val rfl rfl rfl rfl (V_fieldAddr (fo := 2) rfl Try.underlying73 rfl infSealL_71 rfl rfl rfl) ?_
 refine G_val rfl rfl rfl rfl (V_aslice rfl Try.underlying71 infSealL_5 rfl) ?_
 refine G_val rfl rfl rfl rfl (V_bytesS (l := d) rfl rfl Try.underlying28 Try.underlying5 Try.underlying9 (mem_at 0 rfl) hd (show (bcells d).take 48 = bcells d from List.take_of_length_le (by rw [bcells_length]; omega))) ?_
 refine G_val rfl rfl rfl rfl (V_assign rfl rfl) ?_
 refine G_done ?_
 refine G_ret (post := []) Try.func43 rfl (RVs_cons (RV_tmp rfl) RVs_nil) [] rfl ?_
 dsimp only [packed]
 exact ⟨rfl, rfl⟩

set_option maxRecDepth 100000 in
set_option maxHeartbeats 1000000 in
theorem seal_live  :
    Ct Try.prog 42 [] [] [] fun v post => v = .bool true ∧ post = [] := by
 refine ct_of Try.func42 rfl rfl (fun w0 => ?_)
 show G _ _ [] _ _
 refine G_seq ?_
 refine G_region (l := [0]) rfl ?_
 refine G_val rfl rfl rfl rfl (V_assign rfl rfl) ?_
 refine G_done ?_
 refine G_seq ?_
 refine G_region (l := [0, 1, 2, 3, 4, 5, 6, 7]) rfl ?_
 refine G_new rfl rfl rfl rfl (N_make (l := 48) (m := 48) rfl Try.underlying28 infSealL_5 rfl rfl rfl rfl rfl rfl rfl (by first | decide | omega) (by first | decide | omega) (by first | decide | omega)) (fun b4 => ?_)
 refine G_val rfl rfl rfl rfl (V_bytesS (l := List.replicate 48 0) rfl rfl Try.underlying28 Try.underlying5 Try.underlying9 (mem_at 0 rfl) (by simp) (by simp [bcells])) ?_
 refine G_call (L2 := [_]) rfl rfl rfl rfl rfl rfl Try.call44 (seal_seal 1 2 (List.replicate 48 0) (by omega) (by omega) (by simp)) [] [] rfl rfl ?_
 rintro v post ⟨rfl, rfl⟩
 show G _ _ _ [_] _
 refine G_val rfl rfl rfl rfl (V_move rfl rfl) ?_
 refine G_val rfl rfl rfl rfl (V_extract rfl rfl rfl) ?_
 refine G_val rfl rfl rfl rfl (V_extract rfl rfl rfl) ?_
 refine G_val rfl rfl rfl rfl (V_assign rfl rfl) ?_
 refine G_val rfl rfl rfl rfl (V_assign rfl rfl) ?_
 refine G_done ?_
 refine G_seq ?_
 refine G_draw mixedK (by kernel_rfl) ?_
 refine GQ_val rfl rfl rfl rfl (V_move rfl rfl) ?_
 refine GQ_call rfl rfl rfl rfl rfl rfl Try.call48 (seal_num _) [] rfl (fun v post hp => (hp : _ ∧ _).1) ?_
 refine GQ_val rfl rfl rfl rfl (V_eql rfl rfl rfl) ?_
 refine GQ_val rfl rfl rfl rfl (V_move rfl rfl) ?_
 refine GQ_splitD 12 rfl (fun hc1 => ?_) (fun hc1 => ?_)
 rotate_left
 · (first | (exact absurd (by decide) hc1) | (exfalso; omega))
 refine GQ_val rfl rfl rfl rfl (V_move rfl rfl) ?_
 refine GQ_val rfl rfl rfl rfl (V_slen rfl rfl Try.underlying9 rfl) ?_
 refine GQ_val rfl rfl rfl rfl (V_eql rfl rfl rfl) ?_
 refine GQ_val rfl rfl rfl rfl (V_pickT rfl rfl rfl) ?_
 refine GQ_val rfl rfl rfl rfl (V_move rfl rfl) ?_
 refine GQ_splitD 17 rfl (fun hc2 => ?_) (fun hc2 => ?_)
 rotate_left
 · (first | (exact absurd (by decide) hc2) | (exfalso; omega))
 refine GQ_val rfl rfl rfl rfl (V_move rfl rfl) ?_
 first
   | refine GQ_val rfl rfl rfl rfl (V_ssliceHN (hi := 8) rfl Try.underlying9 rfl rfl rfl (by first | omega | (simp; omega) | (simp at *; omega))) ?_
   | refine GQ_val rfl rfl rfl rfl (V_ssliceH rfl Try.underlying9 rfl rfl (by first | omega | (simp; omega) | (simp at *; omega)) (by first | omega | (simp; omega) | (simp at *; omega))) ?_
 refine GQ_val rfl rfl rfl rfl (V_seql rfl rfl rfl) ?_
 refine GQ_val rfl rfl rfl rfl (V_pickT rfl rfl rfl) ?_
 refine GQ_val rfl rfl rfl rfl (V_move rfl rfl) ?_
 refine GQ_splitD 22 rfl (fun hc3 => ?_) (fun hc3 => ?_)
 rotate_left
 · (first | (exact absurd (by decide) hc3) | (exfalso; omega))
 refine GQ_val rfl rfl rfl rfl (V_move rfl rfl) ?_
 first
   | refine GQ_val rfl rfl rfl rfl (V_ssliceLN (lo := 56) rfl Try.underlying9 rfl rfl rfl (by first | omega | (simp; omega) | (simp at *; omega))) ?_
   | refine GQ_val rfl rfl rfl rfl (V_ssliceL rfl Try.underlying9 rfl rfl (by first | omega | (simp; omega) | (simp at *; omega)) (by first | omega | (simp; omega) | (simp at *; omega))) ?_
 refine GQ_val rfl rfl rfl rfl (V_move rfl rfl) ?_
 first
   | refine GQ_val rfl rfl rfl rfl (V_ssliceHN (hi := 8) rfl Try.underlying9 rfl rfl rfl (by first | omega | (simp; omega) | (simp at *; omega))) ?_
   | refine GQ_val rfl rfl rfl rfl (V_ssliceH rfl Try.underlying9 rfl rfl (by first | omega | (simp; omega) | (simp at *; omega)) (by first | omega | (simp; omega) | (simp at *; omega))) ?_
 refine GQ_val rfl rfl rfl rfl (V_seql rfl rfl rfl) ?_
 refine GQ_val rfl rfl rfl rfl (V_pickT rfl rfl rfl) ?_
 refine GQ_val rfl rfl rfl rfl (V_assign rfl rfl) ?_
 refine GQ_done rfl ?_
 refine G_ret (post := []) Try.func42 rfl (RVs_cons (RV_tmp rfl) RVs_nil) [] rfl ?_
 dsimp only [packed]
 exact ⟨rfl, rfl⟩

set_option maxRecDepth 100000 in
set_option maxHeartbeats 1000000 in
theorem sealCodes_all (e i : Nat) (d : List UInt8) (less : Int) (s : List UInt8) (he : e < 4294967296) (hi : i < 4294967296) (hd : d.length = 48) (hl0 : -9223372036854775808 ≤ less) (hl1 : less ≤ 9223372036854775807) (hs : s.length ≤ 9223372036854775807) :
    Ct Try.prog 9 [.agg (sealedC e i d).toArray, .int .i64 less, .string (bs s)] [] [] fun v post => v = .bool true ∧ post = [] := by
 have ho1 := openE_lt s
 have ho2 := openI_lt s
 have ho3 := openD_len s
 have f1 := @sealL_open s
 have f2 := @sealE_open s
 have f3 := fun k => @openOk_seal e i (d.take k) he
 have f4 := fun k => @openOk_not e i (d.take k)
 have f5 := fun k => @open_seal e i (d.take k) he hi
 have ho4 : ∀ k, (d.take k).length ≤ 48 := fun k => by simp; omega
 refine ct_of Try.func9 rfl rfl (fun w0 => ?_)
 show G _ _ [(0, _), (1, _), (2, _)] _ _
 refine G_seq ?_
 refine G_region (l := [0, 1]) rfl ?_
 refine G_new rfl rfl rfl rfl (N_boxA rfl rfl) (fun b3 => ?_)
 refine G_val rfl rfl rfl rfl (V_assign rfl rfl) ?_
 refine G_done ?_
 refine G_seq ?_
 refine G_seq ?_
 refine G_region (l := [0, 1, 2]) rfl ?_
 refine G_val rfl rfl rfl rfl (V_move rfl rfl) ?_
 refine G_val rfl rfl rfl rfl (V_slen rfl rfl Try.underlying9 rfl) ?_
 refine G_val rfl rfl rfl rfl (V_gtr rfl rfl rfl) ?_
 refine G_done ?_
 refine G_ifD rfl (fun hc1 => ?_) (fun hc1 => ?_)
 · skip
   refine G_seq ?_
   refine G_region (l := [0, 1]) rfl ?_
   refine G_call (L2 := [_]) rfl rfl rfl rfl rfl rfl Try.call42 (seal_live) [] [] rfl rfl ?_
   rintro v post ⟨rfl, rfl⟩
   show G _ _ _ [_] _
   refine G_val rfl rfl rfl rfl (V_assign rfl rfl) ?_
   refine G_done ?_
   refine G_ret (post := []) Try.func9 rfl (RVs_cons (RV_tmp rfl) RVs_nil) [] rfl ?_
   dsimp only [packed]
   refine ⟨?_, rfl⟩; first | rfl | skip
 refine G_skip ?_
 refine G_seq ?_
 refine G_region (l := [0, 1, 2, 3, 4, 5, 6, 7]) rfl ?_
 first
   | refine G_val rfl rfl rfl rfl (V_loadW (s := 50) rfl rfl (mem_at 0 rfl) Try.underlying73 rfl infSealL_73 rfl (by first | rfl | (simp [bcells_length]; done) | (simp [bcells_length]; omega) | (simp [bcells_length, *]; done))) ?_
   | refine G_val rfl rfl rfl rfl (V_loadA (s := 50) rfl rfl (mem_at 0 rfl) Try.underlying73 rfl infSealL_73 rfl rfl (by first | rfl | (simp [bcells_length]; done) | (simp [bcells_length]; omega) | (simp [bcells_length, *]; done))) ?_
 refine G_call (L2 := [_]) rfl rfl rfl rfl rfl rfl Try.call43 (seal_text _ _ _ (by assumption)) [] [] rfl rfl ?_
 rintro v post ⟨rfl, rfl⟩
 show G _ _ _ [_] _
 refine G_val rfl rfl rfl rfl (V_move rfl rfl) ?_
 refine G_val rfl rfl rfl rfl (V_max rfl rfl rfl) ?_
 refine G_val rfl rfl rfl rfl (V_min rfl rfl rfl) ?_
 first
   | refine G_val rfl rfl rfl rfl ((V_sub rfl rfl rfl).int (wrap_i64 (by omega))) ?_
   | refine G_val rfl rfl rfl rfl (V_sub rfl rfl rfl) ?_
 first
   | refine G_val rfl rfl rfl rfl (V_ssliceHN (hi := _) rfl Try.underlying9 rfl rfl rfl (by first | omega | (simp; omega) | (simp at *; omega))) ?_
   | refine G_val rfl rfl rfl rfl (V_ssliceH rfl Try.underlying9 rfl rfl (by first | omega | (simp; omega) | (simp at *; omega)) (by first | omega | (simp; omega) | (simp at *; omega))) ?_
 refine G_val rfl rfl rfl rfl (V_assign rfl rfl) ?_
 refine G_done ?_
 refine G_seq ?_
 refine G_region (l := [0, 1, 2, 3, 4, 5, 6, 7, 8, 9, 10]) rfl ?_
 refine G_val rfl rfl rfl rfl (V_fieldAddr (fo := 0) rfl Try.underlying73 rfl infSealL_22 rfl rfl rfl) ?_
 refine G_val rfl rfl rfl rfl (V_load1 rfl rfl (mem_at 0 rfl) rfl Try.underlying22 rfl) ?_
 refine G_val rfl rfl rfl rfl (V_fieldAddr (fo := 1) rfl Try.underlying73 rfl infSealL_22 rfl rfl rfl) ?_
 refine G_val rfl rfl rfl rfl (V_load1 rfl rfl (mem_at 0 rfl) rfl Try.underlying22 rfl) ?_
 refine G_val rfl rfl rfl rfl (V_move rfl rfl) ?_
 refine G_call (L2 := [_]) rfl rfl rfl rfl rfl rfl Try.call44 (seal_seal _ _ _ (by omega) (by omega) (by first | omega | (simp; omega))) [] [] rfl rfl ?_
 rintro v post ⟨rfl, rfl⟩
 show G _ _ _ [_] _
 refine G_val rfl rfl rfl rfl (V_move rfl rfl) ?_
 refine G_val rfl rfl rfl rfl (V_extract rfl rfl rfl) ?_
 refine G_val rfl rfl rfl rfl (V_extract rfl rfl rfl) ?_
 refine G_val rfl rfl rfl rfl (V_assign rfl rfl) ?_
 refine G_val rfl rfl rfl rfl (V_assign rfl rfl) ?_
 refine G_done ?_
 refine G_seq ?_
 refine G_region (l := [0, 1, 2, 3, 4, 5, 6, 7, 8, 9, 10]) rfl ?_
 refine G_val rfl rfl rfl rfl (V_fieldAddr (fo := 0) rfl Try.underlying73 rfl infSealL_22 rfl rfl rfl) ?_
 refine G_val rfl rfl rfl rfl (V_load1 rfl rfl (mem_at 0 rfl) rfl Try.underlying22 rfl) ?_
 refine G_val rfl rfl rfl rfl (V_fieldAddr (fo := 1) rfl Try.underlying73 rfl infSealL_22 rfl rfl rfl) ?_
 refine G_val rfl rfl rfl rfl (V_load1 rfl rfl (mem_at 0 rfl) rfl Try.underlying22 rfl) ?_
 refine G_val rfl rfl rfl rfl (V_move rfl rfl) ?_
 refine G_call (L2 := [_]) rfl rfl rfl rfl rfl rfl Try.call45 (rseal_seal _ _ _ (by omega) (by omega) (by first | omega | (simp; omega))) [] [] rfl rfl ?_
 rintro v post ⟨rfl, rfl⟩
 show G _ _ _ [_] _
 refine G_val rfl rfl rfl rfl (V_move rfl rfl) ?_
 refine G_val rfl rfl rfl rfl (V_extract rfl rfl rfl) ?_
 refine G_val rfl rfl rfl rfl (V_extract rfl rfl rfl) ?_
 refine G_val rfl rfl rfl rfl (V_assign rfl rfl) ?_
 refine G_val rfl rfl rfl rfl (V_assign rfl rfl) ?_
 refine G_done ?_
 refine G_seq ?_
 refine G_region (l := [0, 1, 2, 3, 4, 5, 6, 7, 8, 9, 10]) rfl ?_
 refine G_val rfl rfl rfl rfl (V_move rfl rfl) ?_
 refine G_call (L2 := [_]) rfl rfl rfl rfl rfl rfl Try.call46 (seal_open _ (by first | omega | (simp; omega))) [] [] rfl rfl ?_
 rintro v post ⟨rfl, rfl⟩
 show G _ _ _ [_] _
 refine G_val rfl rfl rfl rfl (V_move rfl rfl) ?_
 refine G_val rfl rfl rfl rfl (V_extract rfl rfl rfl) ?_
 refine G_val rfl rfl rfl rfl (V_extract rfl rfl rfl) ?_
 refine G_val rfl rfl rfl rfl (V_extract rfl rfl rfl) ?_
 refine G_val rfl rfl rfl rfl (V_extract rfl rfl rfl) ?_
 refine G_val rfl rfl rfl rfl (V_assign rfl rfl) ?_
 refine G_val rfl rfl rfl rfl (V_assign rfl rfl) ?_
 refine G_val rfl rfl rfl rfl (V_assign rfl rfl) ?_
 refine G_val rfl rfl rfl rfl (V_assign rfl rfl) ?_
 refine G_done ?_
 refine G_seq ?_
 refine G_region (l := [0, 1, 2, 3]) rfl ?_
 refine G_val rfl rfl rfl rfl (V_move rfl rfl) ?_
 refine G_call (L2 := [_]) rfl rfl rfl rfl rfl rfl Try.call47 (rseal_open _ (by first | omega | (simp; omega))) [] [] rfl rfl ?_
 rintro v post ⟨rfl, rfl⟩
 show G _ _ _ [_] _
 refine G_new rfl rfl rfl rfl (N_allocA rfl infSealL_79 rfl) (fun b16 => ?_)
 refine G_put (l1 := []) (L' := [_, _]) rfl rfl rfl rfl (P_storeA (s := 4) rfl rfl rfl (mem_at 0 rfl) (by first | rfl | (simp [bcells_length]; done) | (simp [bcells_length]; omega) | (simp [bcells_length, *]; done)) infSealL_79 rfl (by first | rfl | (simp [bcells_length]; done) | (simp [bcells_length]; omega) | (simp [bcells_length, *]; done)) (by first | rfl | exact bcells_all _ | (simp [Value.oneCell', *]; done))) rfl ?_
 refine G_done ?_
 refine G_seq ?_
 refine G_seq ?_
 refine G_region (l := [0, 1, 2, 3, 4, 5, 6, 7, 8, 9, 10, 11, 12, 13, 14, 15, 16, 17, 18, 19, 20, 21, 22, 23, 24, 25, 26, 27, 28, 29, 30, 31, 32]) rfl ?_
 refine G_val rfl rfl rfl rfl (V_move rfl rfl) ?_
 refine G_val rfl rfl rfl rfl (V_move rfl rfl) ?_
 refine G_val rfl rfl rfl rfl (V_sneq rfl rfl rfl) ?_
 refine G_val rfl rfl rfl rfl (V_move rfl rfl) ?_
 refine G_splitD 60 rfl (fun hc2 => ?_) (fun hc2 => ?_)
 · (first
     | exact absurd rfl hc2
     | (exfalso; omega)
     | (exfalso; grind))
 refine G_val rfl rfl rfl rfl (V_move rfl rfl) ?_
 refine G_call (L2 := [_, _]) rfl rfl rfl rfl rfl rfl Try.call48 (seal_num _) [] [] rfl rfl ?_
 rintro v post ⟨rfl, rfl⟩
 show G _ _ _ [_, _] _
 refine G_val rfl rfl rfl rfl (V_move rfl rfl) ?_
 refine G_val rfl rfl rfl rfl (V_neq rfl rfl rfl) ?_
 refine G_val rfl rfl rfl rfl (V_pickF rfl rfl rfl) ?_
 refine G_val rfl rfl rfl rfl (V_move rfl rfl) ?_
 refine G_splitD 66 rfl (fun hc3 => ?_) (fun hc3 => ?_)
 · (first
     | exact absurd rfl hc3
     | (exfalso; omega)
     | (exfalso; grind))
 refine G_val rfl rfl rfl rfl (V_move rfl rfl) ?_
 refine G_val rfl rfl rfl rfl (V_fieldAddr (fo := 0) rfl Try.underlying79 rfl infSealL_22 rfl rfl rfl) ?_
 refine G_val rfl rfl rfl rfl (V_load1 rfl rfl (mem_at 0 rfl) rfl Try.underlying22 rfl) ?_
 refine G_val rfl rfl rfl rfl (V_neq rfl rfl rfl) ?_
 refine G_val rfl rfl rfl rfl (V_pickF rfl rfl rfl) ?_
 refine G_val rfl rfl rfl rfl (V_move rfl rfl) ?_
 refine G_splitD 72 rfl (fun hc4 => ?_) (fun hc4 => ?_)
 · (first
     | exact absurd rfl hc4
     | (exfalso; omega)
     | (exfalso; grind))
 refine G_val rfl rfl rfl rfl (V_move rfl rfl) ?_
 refine G_val rfl rfl rfl rfl (V_fieldAddr (fo := 1) rfl Try.underlying79 rfl infSealL_22 rfl rfl rfl) ?_
 refine G_val rfl rfl rfl rfl (V_load1 rfl rfl (mem_at 0 rfl) rfl Try.underlying22 rfl) ?_
 refine G_val rfl rfl rfl rfl (V_neq rfl rfl rfl) ?_
 refine G_val rfl rfl rfl rfl (V_pickF rfl rfl rfl) ?_
 refine G_val rfl rfl rfl rfl (V_move rfl rfl) ?_
 refine G_splitD 78 rfl (fun hc5 => ?_) (fun hc5 => ?_)
 · (first
     | exact absurd rfl hc5
     | (exfalso; omega)
     | (exfalso; grind))
 refine G_val rfl rfl rfl rfl (V_move rfl rfl) ?_
 refine G_val rfl rfl rfl rfl (V_fieldAddr (fo := 2) rfl Try.underlying79 rfl infSealL_9 rfl rfl rfl) ?_
 refine G_val rfl rfl rfl rfl (V_load1 rfl rfl (mem_at 0 rfl) rfl Try.underlying9 rfl) ?_
 refine G_val rfl rfl rfl rfl (V_sneq rfl rfl rfl) ?_
 refine G_val rfl rfl rfl rfl (V_pickF rfl rfl rfl) ?_
 refine G_val rfl rfl rfl rfl (V_move rfl rfl) ?_
 refine G_splitD 84 rfl (fun hc6 => ?_) (fun hc6 => ?_)
 · (first
     | exact absurd rfl hc6
     | (exfalso; omega)
     | (exfalso; grind))
 refine G_val rfl rfl rfl rfl (V_move rfl rfl) ?_
 refine G_val rfl rfl rfl rfl (V_fieldAddr (fo := 3) rfl Try.underlying79 rfl infSealL_4 rfl rfl rfl) ?_
 refine G_val rfl rfl rfl rfl (V_load1 rfl rfl (mem_at 0 rfl) rfl Try.underlying4 rfl) ?_
 refine G_val rfl rfl rfl rfl (V_bneq rfl Try.underlying4 rfl rfl) ?_
 refine G_val rfl rfl rfl rfl (V_pickF rfl rfl rfl) ?_
 refine G_done ?_
 refine G_ifD rfl (fun hc7 => ?_) (fun hc7 => ?_)
 · (first
     | exact absurd rfl hc7
     | (exfalso; omega)
     | (exfalso; grind))
 refine G_skip ?_
 refine G_seq ?_
 refine G_region (l := [0, 1, 2, 3, 4, 5, 6, 7, 8]) rfl ?_
 refine G_val rfl rfl rfl rfl (V_move rfl rfl) ?_
 refine G_val rfl rfl rfl rfl (V_move rfl rfl) ?_
 refine G_val rfl rfl rfl rfl (V_move rfl rfl) ?_
 refine G_call (L2 := [_, _]) rfl rfl rfl rfl rfl rfl Try.call44 (seal_seal _ _ _ (by omega) (by omega) (by first | omega | (simp; omega))) [] [] rfl rfl ?_
 rintro v post ⟨rfl, rfl⟩
 show G _ _ _ [_, _] _
 refine G_val rfl rfl rfl rfl (V_move rfl rfl) ?_
 refine G_val rfl rfl rfl rfl (V_extract rfl rfl rfl) ?_
 refine G_val rfl rfl rfl rfl (V_extract rfl rfl rfl) ?_
 refine G_val rfl rfl rfl rfl (V_assign rfl rfl) ?_
 refine G_val rfl rfl rfl rfl (V_assign rfl rfl) ?_
 refine G_done ?_
 refine G_seq ?_
 refine G_seq ?_
 refine G_region (l := [0, 1, 2, 3, 4, 5, 6, 7, 8, 9, 10]) rfl ?_
 refine G_val rfl rfl rfl rfl (V_move rfl rfl) ?_
 refine G_val rfl rfl rfl rfl (V_move rfl rfl) ?_
 refine G_split 98 rfl (fun hc8 => ?_) (fun hc8 => ?_)
 · skip
   refine G_val rfl rfl rfl rfl (V_move rfl rfl) ?_
   refine G_val rfl rfl rfl rfl (V_move rfl rfl) ?_
   refine G_val rfl rfl rfl rfl (V_sneq rfl rfl rfl) ?_
   refine G_val rfl rfl rfl rfl (V_move rfl rfl) ?_
   refine G_splitD 102 rfl (fun hc9 => ?_) (fun hc9 => ?_)
   · (first
       | exact absurd rfl hc9
       | (exfalso; omega)
       | (exfalso; grind))
   refine G_val rfl rfl rfl rfl (V_move rfl rfl) ?_
   refine G_call (L2 := [_, _]) rfl rfl rfl rfl rfl rfl Try.call48 (seal_num _) [] [] rfl rfl ?_
   rintro v post ⟨rfl, rfl⟩
   show G _ _ _ [_, _] _
   refine G_val rfl rfl rfl rfl (V_neq rfl rfl rfl) ?_
   refine G_val rfl rfl rfl rfl (V_pickF rfl rfl rfl) ?_
   refine G_val rfl rfl rfl rfl (V_pickT rfl rfl rfl) ?_
   refine G_done ?_
   refine G_ifD rfl (fun hc10 => ?_) (fun hc10 => ?_)
   · (first
       | exact absurd rfl hc10
       | (exfalso; omega)
       | (exfalso; grind))
   refine G_skip ?_
   refine G_seq ?_
   refine G_region (l := [0, 1, 2, 3, 4, 5, 6, 7, 8, 9, 10]) rfl ?_
   refine G_val rfl rfl rfl rfl (V_move rfl rfl) ?_
   refine G_call (L2 := [_, _]) rfl rfl rfl rfl rfl rfl Try.call46 (seal_open _ (Nat.le_trans (sealL_le _ _ _) (by simp; omega))) [] [] rfl rfl ?_
   rintro v post ⟨rfl, rfl⟩
   show G _ _ _ [_, _] _
   refine G_val rfl rfl rfl rfl (V_move rfl rfl) ?_
   refine G_val rfl rfl rfl rfl (V_extract rfl rfl rfl) ?_
   refine G_val rfl rfl rfl rfl (V_extract rfl rfl rfl) ?_
   refine G_val rfl rfl rfl rfl (V_extract rfl rfl rfl) ?_
   refine G_val rfl rfl rfl rfl (V_extract rfl rfl rfl) ?_
   refine G_val rfl rfl rfl rfl (V_assign rfl rfl) ?_
   refine G_val rfl rfl rfl rfl (V_assign rfl rfl) ?_
   refine G_val rfl rfl rfl rfl (V_assign rfl rfl) ?_
   refine G_val rfl rfl rfl rfl (V_assign rfl rfl) ?_
   refine G_done ?_
   refine G_seq ?_
   refine G_region (l := [0, 1, 2, 3, 4, 5, 6, 7, 8, 9, 10, 11, 12, 13, 14, 15, 16, 17, 18, 19, 20, 21, 22, 23, 24, 25, 26, 27, 28]) rfl ?_
   refine G_val rfl rfl rfl rfl (V_move rfl rfl) ?_
   refine G_val rfl rfl rfl rfl (V_move rfl rfl) ?_
   refine G_val rfl rfl rfl rfl (V_eql rfl rfl rfl) ?_
   refine G_val rfl rfl rfl rfl (V_beql rfl Try.underlying4 rfl rfl) ?_
   refine G_val rfl rfl rfl rfl (V_move rfl rfl) ?_
   refine G_splitD 119 rfl (fun hc11 => ?_) (fun hc11 => ?_)
   rotate_left
   · (first
       | exact absurd rfl hc11
       | (exfalso; omega)
       | (exfalso; grind))
   refine G_val rfl rfl rfl rfl (V_move rfl rfl) ?_
   refine G_val rfl rfl rfl rfl (V_not rfl rfl) ?_
   refine G_val rfl rfl rfl rfl (V_move rfl rfl) ?_
   refine G_split 122 rfl (fun hc12 => ?_) (fun hc12 => ?_)
   · skip
     refine G_off rfl rfl rfl rfl ?_
     refine G_off rfl rfl rfl rfl ?_
     refine G_off rfl rfl rfl rfl ?_
     refine G_off rfl rfl rfl rfl ?_
     refine G_off rfl rfl rfl rfl ?_
     refine G_off rfl rfl rfl rfl ?_
     refine G_off rfl rfl rfl rfl ?_
     refine G_off rfl rfl rfl rfl ?_
     refine G_off rfl rfl rfl rfl ?_
     refine G_off rfl rfl rfl rfl ?_
     refine G_off rfl rfl rfl rfl ?_
     refine G_off rfl rfl rfl rfl ?_
     refine G_off rfl rfl rfl rfl ?_
     refine G_off rfl rfl rfl rfl ?_
     refine G_off rfl rfl rfl rfl ?_
     refine G_val rfl rfl rfl rfl (V_pickT rfl rfl rfl) ?_
     refine G_val rfl rfl rfl rfl (V_pickT rfl rfl rfl) ?_
     refine G_val rfl rfl rfl rfl (V_move rfl rfl) ?_
     refine G_call (L2 := [_, _]) rfl rfl rfl rfl rfl rfl Try.call42 (seal_live) [] [] rfl rfl ?_
     rintro v post ⟨rfl, rfl⟩
     show G _ _ _ [_, _] _
     refine G_val rfl rfl rfl rfl (V_pickT rfl rfl rfl) ?_
     refine G_val rfl rfl rfl rfl (V_assign rfl rfl) ?_
     refine G_done ?_
     refine G_ret (post := []) Try.func9 rfl (RVs_cons (RV_tmp rfl) RVs_nil) [] rfl ?_
     dsimp only [packed]
     refine ⟨?_, rfl⟩; first | rfl | skip
   refine G_val rfl rfl rfl rfl (V_move rfl rfl) ?_
   refine G_val rfl rfl rfl rfl (V_fieldAddr (fo := 0) rfl Try.underlying73 rfl infSealL_22 rfl rfl rfl) ?_
   refine G_val rfl rfl rfl rfl (V_load1 rfl rfl (mem_at 1 rfl) rfl Try.underlying22 rfl) ?_
   refine G_val rfl rfl rfl rfl (V_eql rfl rfl rfl) ?_
   refine G_val rfl rfl rfl rfl (V_move rfl rfl) ?_
   refine G_splitD 127 rfl (fun hc13 => ?_) (fun hc13 => ?_)
   rotate_left
   · (first
       | exact absurd rfl hc13
       | (exfalso; omega)
       | (exfalso; grind))
   refine G_val rfl rfl rfl rfl (V_move rfl rfl) ?_
   refine G_val rfl rfl rfl rfl (V_fieldAddr (fo := 1) rfl Try.underlying73 rfl infSealL_22 rfl rfl rfl) ?_
   refine G_val rfl rfl rfl rfl (V_load1 rfl rfl (mem_at 1 rfl) rfl Try.underlying22 rfl) ?_
   refine G_val rfl rfl rfl rfl (V_eql rfl rfl rfl) ?_
   refine G_val rfl rfl rfl rfl (V_pickT rfl rfl rfl) ?_
   refine G_val rfl rfl rfl rfl (V_move rfl rfl) ?_
   refine G_splitD 133 rfl (fun hc14 => ?_) (fun hc14 => ?_)
   rotate_left
   · (first
       | exact absurd rfl hc14
       | (exfalso; omega)
       | (exfalso; grind))
   refine G_val rfl rfl rfl rfl (V_move rfl rfl) ?_
   refine G_val rfl rfl rfl rfl (V_move rfl rfl) ?_
   refine G_val rfl rfl rfl rfl (V_seql rfl rfl rfl) ?_
   refine G_val rfl rfl rfl rfl (V_pickT rfl rfl rfl) ?_
   refine G_val rfl rfl rfl rfl (V_pickF rfl rfl rfl) ?_
   refine G_val rfl rfl rfl rfl (V_pickT rfl rfl rfl) ?_
   refine G_val rfl rfl rfl rfl (V_move rfl rfl) ?_
   refine G_splitD 140 rfl (fun hc15 => ?_) (fun hc15 => ?_)
   rotate_left
   · (first
       | exact absurd rfl hc15
       | (exfalso; omega)
       | (exfalso; grind))
   refine G_call (L2 := [_, _]) rfl rfl rfl rfl rfl rfl Try.call42 (seal_live) [] [] rfl rfl ?_
   rintro v post ⟨rfl, rfl⟩
   show G _ _ _ [_, _] _
   refine G_val rfl rfl rfl rfl (V_pickT rfl rfl rfl) ?_
   refine G_val rfl rfl rfl rfl (V_assign rfl rfl) ?_
   refine G_done ?_
   refine G_ret (post := []) Try.func9 rfl (RVs_cons (RV_tmp rfl) RVs_nil) [] rfl ?_
   dsimp only [packed]
   refine ⟨?_, rfl⟩; first | rfl | skip
 refine G_off rfl rfl rfl rfl ?_
 refine G_off rfl rfl rfl rfl ?_
 refine G_off rfl rfl rfl rfl ?_
 refine G_off rfl rfl rfl rfl ?_
 refine G_off rfl rfl rfl rfl ?_
 refine G_off rfl rfl rfl rfl ?_
 refine G_off rfl rfl rfl rfl ?_
 refine G_off rfl rfl rfl rfl ?_
 refine G_val rfl rfl rfl rfl (V_pickF rfl rfl rfl) ?_
 refine G_done ?_
 refine G_else rfl ?_
 refine G_skip ?_
 refine G_seq ?_
 refine G_region (l := [0, 1, 2, 3, 4, 5, 6, 7, 8, 9, 10]) rfl ?_
 refine G_val rfl rfl rfl rfl (V_move rfl rfl) ?_
 refine G_call (L2 := [_, _]) rfl rfl rfl rfl rfl rfl Try.call46 (seal_open _ (Nat.le_trans (sealL_le _ _ _) (by simp; omega))) [] [] rfl rfl ?_
 rintro v post ⟨rfl, rfl⟩
 show G _ _ _ [_, _] _
 refine G_val rfl rfl rfl rfl (V_move rfl rfl) ?_
 refine G_val rfl rfl rfl rfl (V_extract rfl rfl rfl) ?_
 refine G_val rfl rfl rfl rfl (V_extract rfl rfl rfl) ?_
 refine G_val rfl rfl rfl rfl (V_extract rfl rfl rfl) ?_
 refine G_val rfl rfl rfl rfl (V_extract rfl rfl rfl) ?_
 refine G_val rfl rfl rfl rfl (V_assign rfl rfl) ?_
 refine G_val rfl rfl rfl rfl (V_assign rfl rfl) ?_
 refine G_val rfl rfl rfl rfl (V_assign rfl rfl) ?_
 refine G_val rfl rfl rfl rfl (V_assign rfl rfl) ?_
 refine G_done ?_
 refine G_seq ?_
 refine G_region (l := [0, 1, 2, 3, 4, 5, 6, 7, 8, 9, 10, 11, 12, 13, 14, 15, 16, 17, 18, 19, 20, 21, 22, 23, 24, 25, 26, 27, 28]) rfl ?_
 refine G_val rfl rfl rfl rfl (V_move rfl rfl) ?_
 refine G_val rfl rfl rfl rfl (V_move rfl rfl) ?_
 refine G_val rfl rfl rfl rfl (V_eql rfl rfl rfl) ?_
 refine G_val rfl rfl rfl rfl (V_beql rfl Try.underlying4 rfl rfl) ?_
 refine G_val rfl rfl rfl rfl (V_move rfl rfl) ?_
 refine G_splitD 119 rfl (fun hc9 => ?_) (fun hc9 => ?_)
 rotate_left
 · (first
     | exact absurd rfl hc9
     | (exfalso; omega)
     | (exfalso; grind))
 refine G_val rfl rfl rfl rfl (V_move rfl rfl) ?_
 refine G_val rfl rfl rfl rfl (V_not rfl rfl) ?_
 refine G_val rfl rfl rfl rfl (V_move rfl rfl) ?_
 refine G_split 122 rfl (fun hc10 => ?_) (fun hc10 => ?_)
 · skip
   refine G_off rfl rfl rfl rfl ?_
   refine G_off rfl rfl rfl rfl ?_
   refine G_off rfl rfl rfl rfl ?_
   refine G_off rfl rfl rfl rfl ?_
   refine G_off rfl rfl rfl rfl ?_
   refine G_off rfl rfl rfl rfl ?_
   refine G_off rfl rfl rfl rfl ?_
   refine G_off rfl rfl rfl rfl ?_
   refine G_off rfl rfl rfl rfl ?_
   refine G_off rfl rfl rfl rfl ?_
   refine G_off rfl rfl rfl rfl ?_
   refine G_off rfl rfl rfl rfl ?_
   refine G_off rfl rfl rfl rfl ?_
   refine G_off rfl rfl rfl rfl ?_
   refine G_off rfl rfl rfl rfl ?_
   refine G_val rfl rfl rfl rfl (V_pickT rfl rfl rfl) ?_
   refine G_val rfl rfl rfl rfl (V_pickT rfl rfl rfl) ?_
   refine G_val rfl rfl rfl rfl (V_move rfl rfl) ?_
   refine G_call (L2 := [_, _]) rfl rfl rfl rfl rfl rfl Try.call42 (seal_live) [] [] rfl rfl ?_
   rintro v post ⟨rfl, rfl⟩
   show G _ _ _ [_, _] _
   refine G_val rfl rfl rfl rfl (V_pickT rfl rfl rfl) ?_
   refine G_val rfl rfl rfl rfl (V_assign rfl rfl) ?_
   refine G_done ?_
   refine G_ret (post := []) Try.func9 rfl (RVs_cons (RV_tmp rfl) RVs_nil) [] rfl ?_
   dsimp only [packed]
   refine ⟨?_, rfl⟩; first | rfl | skip
 refine G_val rfl rfl rfl rfl (V_move rfl rfl) ?_
 refine G_val rfl rfl rfl rfl (V_fieldAddr (fo := 0) rfl Try.underlying73 rfl infSealL_22 rfl rfl rfl) ?_
 refine G_val rfl rfl rfl rfl (V_load1 rfl rfl (mem_at 1 rfl) rfl Try.underlying22 rfl) ?_
 refine G_val rfl rfl rfl rfl (V_eql rfl rfl rfl) ?_
 refine G_val rfl rfl rfl rfl (V_move rfl rfl) ?_
 refine G_splitD 127 rfl (fun hc11 => ?_) (fun hc11 => ?_)
 rotate_left
 · (first
     | exact absurd rfl hc11
     | (exfalso; omega)
     | (exfalso; grind))
 refine G_val rfl rfl rfl rfl (V_move rfl rfl) ?_
 refine G_val rfl rfl rfl rfl (V_fieldAddr (fo := 1) rfl Try.underlying73 rfl infSealL_22 rfl rfl rfl) ?_
 refine G_val rfl rfl rfl rfl (V_load1 rfl rfl (mem_at 1 rfl) rfl Try.underlying22 rfl) ?_
 refine G_val rfl rfl rfl rfl (V_eql rfl rfl rfl) ?_
 refine G_val rfl rfl rfl rfl (V_pickT rfl rfl rfl) ?_
 refine G_val rfl rfl rfl rfl (V_move rfl rfl) ?_
 refine G_splitD 133 rfl (fun hc12 => ?_) (fun hc12 => ?_)
 rotate_left
 · (first
     | exact absurd rfl hc12
     | (exfalso; omega)
     | (exfalso; grind))
 refine G_val rfl rfl rfl rfl (V_move rfl rfl) ?_
 refine G_val rfl rfl rfl rfl (V_move rfl rfl) ?_
 refine G_val rfl rfl rfl rfl (V_seql rfl rfl rfl) ?_
 refine G_val rfl rfl rfl rfl (V_pickT rfl rfl rfl) ?_
 refine G_val rfl rfl rfl rfl (V_pickF rfl rfl rfl) ?_
 refine G_val rfl rfl rfl rfl (V_pickT rfl rfl rfl) ?_
 refine G_val rfl rfl rfl rfl (V_move rfl rfl) ?_
 refine G_splitD 140 rfl (fun hc13 => ?_) (fun hc13 => ?_)
 rotate_left
 · (first
     | exact absurd rfl hc13
     | (exfalso; omega)
     | (exfalso; grind))
 refine G_call (L2 := [_, _]) rfl rfl rfl rfl rfl rfl Try.call42 (seal_live) [] [] rfl rfl ?_
 rintro v post ⟨rfl, rfl⟩
 show G _ _ _ [_, _] _
 refine G_val rfl rfl rfl rfl (V_pickT rfl rfl rfl) ?_
 refine G_val rfl rfl rfl rfl (V_assign rfl rfl) ?_
 refine G_done ?_
 refine G_ret (post := []) Try.func9 rfl (RVs_cons (RV_tmp rfl) RVs_nil) [] rfl ?_
 dsimp only [packed]
 refine ⟨?_, rfl⟩; first | rfl | skip


theorem torn_law {s t : List UInt8} {c : Nat} (hs : s.length = 64) (ht : t.length = 64) (hc : c ≤ 64) (hs8 : s.take 8 = s.drop 56) (ht8 : t.take 8 = t.drop 56) (hne : s.take 8 ≠ t.take 8) (ho : openOk (s.take c ++ t.drop c) = true) :
    s.take c ++ t.drop c = s ∨ s.take c ++ t.drop c = t := by
  unfold openOk at ho
  have ho : (s.take c ++ t.drop c).length = 64 ∧ (s.take c ++ t.drop c).take 8 = (s.take c ++ t.drop c).drop 56 ∧ num ((s.take c ++ t.drop c).take 4) ≠ 0 := by simpa using ho
  obtain ⟨_, h2, _⟩ := ho
  have hl : (s.take c).length = c := by simp; omega
  by_cases h56 : c ≤ 56
  · have hd : (s.take c ++ t.drop c).drop 56 = t.drop 56 := by
      rw [List.drop_append, hl, List.drop_eq_nil_of_le (by omega), List.nil_append, List.drop_drop]
      congr 1
      omega
    rw [hd, ← ht8] at h2
    by_cases h8 : 8 ≤ c
    · exfalso
      rw [List.take_append_of_le_length (by omega), List.take_take, Nat.min_eq_left h8] at h2
      exact hne h2
    · right
      have h3 := congrArg (List.take c) h2
      rw [List.take_take, List.take_take, Nat.min_eq_left (by omega), List.take_append_of_le_length (by omega), List.take_take, Nat.min_self] at h3
      rw [h3, List.take_append_drop]
  · left
    have h1 : (s.take c ++ t.drop c).take 8 = s.take 8 := by
      rw [List.take_append_of_le_length (by omega), List.take_take, Nat.min_eq_left (by omega)]
    rw [h1, hs8, List.drop_append, hl, show 56 - c = 0 by omega, List.drop_zero] at h2
    have h3 : s.drop 56 = (s.take c).drop 56 ++ s.drop c := by
      conv => lhs; rw [← List.take_append_drop c s]
      rw [List.drop_append, hl, show 56 - c = 0 by omega, List.drop_zero]
    rw [h3] at h2
    have h4 := List.append_cancel_left h2
    rw [← h4, List.take_append_drop]
theorem seal_ne {e i e2 i2 : Nat} {d d2 : List UInt8} (he : e < 4294967296) (hi : i < 4294967296) (he2 : e2 < 4294967296) (hi2 : i2 < 4294967296) (h : sealE e d = 0) (h2 : sealE e2 d2 = 0) (hne : ¬ (e = e2 ∧ i = i2)) : (sealL e i d).take 8 ≠ (sealL e2 i2 d2).take 8 := by
  intro heq
  obtain ⟨a1, a2, _, _⟩ := sealL_parts (i := i) h
  obtain ⟨b1, b2, _, _⟩ := sealL_parts (i := i2) h2
  have c1 := congrArg (List.take 4) heq
  rw [List.take_take, List.take_take] at c1
  have c1 : (sealL e i d).take 4 = (sealL e2 i2 d2).take 4 := c1
  have c2 := congrArg (List.drop 4) heq
  rw [a1, b1] at c1
  rw [a2, b2] at c2
  have n1 := congrArg num c1
  have n2 := congrArg num c2
  rw [num_be 4 e (by omega), num_be 4 e2 (by omega)] at n1
  rw [num_be 4 i (by omega), num_be 4 i2 (by omega)] at n2
  exact hne ⟨n1, n2⟩
theorem torn_two {e i e2 i2 : Nat} {d d2 : List UInt8} {c : Nat} (he : e < 4294967296) (hi : i < 4294967296) (he2 : e2 < 4294967296) (hi2 : i2 < 4294967296) (h : sealE e d = 0) (h2 : sealE e2 d2 = 0) (hne : ¬ (e = e2 ∧ i = i2)) (hc : c ≤ 64)
    (ho : openOk ((sealL e i d).take c ++ (sealL e2 i2 d2).drop c) = true) :
    (openE ((sealL e i d).take c ++ (sealL e2 i2 d2).drop c) = e ∧ openI ((sealL e i d).take c ++ (sealL e2 i2 d2).drop c) = i ∧ openD ((sealL e i d).take c ++ (sealL e2 i2 d2).drop c) = d) ∨
    ((sealL e i d).take c ++ (sealL e2 i2 d2).drop c = sealL e2 i2 d2 ∧ openE ((sealL e i d).take c ++ (sealL e2 i2 d2).drop c) = e2 ∧ openI ((sealL e i d).take c ++ (sealL e2 i2 d2).drop c) = i2 ∧ openD ((sealL e i d).take c ++ (sealL e2 i2 d2).drop c) = d2) := by
  rcases torn_law (sealL_length h) (sealL_length h2) hc (sealL_parts h).2.2.2 (sealL_parts h2).2.2.2 (seal_ne he hi he2 hi2 h h2 hne) ho with e | e
  · left; rw [e]; exact open_seal he hi h
  · right; rw [e]; exact ⟨rfl, open_seal he2 hi2 h2⟩
theorem torn_none {e i : Nat} {d : List UInt8} {c : Nat} (he : e < 4294967296) (hi : i < 4294967296) (h : sealE e d = 0) (hc : c ≤ 64)
    (ho : openOk ((sealL e i d).take c ++ (List.replicate 64 0).drop c) = true) :
    openE ((sealL e i d).take c ++ (List.replicate 64 0).drop c) = e ∧ openI ((sealL e i d).take c ++ (List.replicate 64 0).drop c) = i ∧ openD ((sealL e i d).take c ++ (List.replicate 64 0).drop c) = d := by
  have hne : (sealL e i d).take 8 ≠ (List.replicate 64 (0 : UInt8)).take 8 := by
    intro heq
    obtain ⟨a1, _, _, _⟩ := sealL_parts (i := i) h
    have c1 := congrArg (List.take 4) heq
    rw [List.take_take] at c1
    have c1 : (sealL e i d).take 4 = List.replicate 4 0 := c1
    rw [a1] at c1
    have n1 := congrArg num c1
    rw [num_be 4 e (by omega)] at n1
    have z : num (List.replicate 4 0) = 0 := by decide
    rw [z] at n1
    rw [sealE_cases] at h
    omega
  rcases torn_law (sealL_length h) (by simp) hc (sealL_parts h).2.2.2 (by decide) hne ho with e | e
  · rw [e]; exact open_seal he hi h
  · rw [e] at ho
    exact absurd ho (by decide)

set_option maxRecDepth 100000 in
set_option maxHeartbeats 1000000 in
theorem sealTorn_all (e i e2 i2 : Nat) (d d2 : List UInt8) (cut : Int) (he : e < 4294967296) (hi : i < 4294967296) (hd : d.length = 48) (he2 : e2 < 4294967296) (hi2 : i2 < 4294967296) (hd2 : d2.length = 48) (hl0 : -9223372036854775808 ≤ cut) (hl1 : cut ≤ 9223372036854775807) :
    Ct Try.prog 10 [.agg (sealedC e i d).toArray, .agg (sealedC e2 i2 d2).toArray, .int .i64 cut] [] [] fun v post => v = .bool true ∧ post = [] := by
 have g1 : ¬ e = 0 → sealE e d = 0 := fun h => (sealE_cases e d).2 (by omega)
 have g2 : ¬ e2 = 0 → sealE e2 d2 = 0 := fun h => (sealE_cases e2 d2).2 (by omega)
 have g3 : ¬ e = 0 → (sealL e i d).length = 64 := fun h => sealL_length (g1 h)
 have g4 : ¬ e2 = 0 → (sealL e2 i2 d2).length = 64 := fun h => sealL_length (g2 h)
 have f1 := @openOk_seal e i d he
 have f2 := fun c => @torn_two e i e2 i2 d d2 c he hi he2 hi2
 have f3 := fun c => @torn_none e i d c he hi
 have hcn : cut ≤ 64 → cut.toNat ≤ 64 := fun h => by omega
 refine ct_of Try.func10 rfl rfl (fun w0 => ?_)
 show G _ _ [(0, _), (1, _), (2, _)] _ _
 refine G_seq ?_
 refine G_region (l := [0, 1, 2]) rfl ?_
 refine G_new rfl rfl rfl rfl (N_boxA rfl rfl) (fun b3 => ?_)
 refine G_new rfl rfl rfl rfl (N_boxA rfl rfl) (fun b4 => ?_)
 refine G_val rfl rfl rfl rfl (V_assign rfl rfl) ?_
 refine G_done ?_
 refine G_seq ?_
 refine G_seq ?_
 refine G_region (l := [0, 1, 2, 3, 4, 5, 6, 7, 8, 9, 10, 11, 12, 13, 14, 15, 16, 17, 18, 19, 20, 21, 22, 23, 24]) rfl ?_
 refine G_val rfl rfl rfl rfl (V_fieldAddr (fo := 0) rfl Try.underlying73 rfl infSealL_22 rfl rfl rfl) ?_
 refine G_val rfl rfl rfl rfl (V_load1 rfl rfl (mem_at 1 rfl) rfl Try.underlying22 rfl) ?_
 refine G_val rfl rfl rfl rfl (V_eql rfl rfl rfl) ?_
 refine G_val rfl rfl rfl rfl (V_move rfl rfl) ?_
 refine G_splitD 20 rfl (fun hc1 => ?_) (fun hc1 => ?_)
 · skip
   refine G_off rfl rfl rfl rfl ?_
   refine G_off rfl rfl rfl rfl ?_
   refine G_val rfl rfl rfl rfl (V_pickT rfl rfl rfl) ?_
   refine G_val rfl rfl rfl rfl (V_move rfl rfl) ?_
   refine G_off rfl rfl rfl rfl ?_
   refine G_off rfl rfl rfl rfl ?_
   refine G_val rfl rfl rfl rfl (V_pickT rfl rfl rfl) ?_
   refine G_val rfl rfl rfl rfl (V_move rfl rfl) ?_
   refine G_off rfl rfl rfl rfl ?_
   refine G_off rfl rfl rfl rfl ?_
   refine G_off rfl rfl rfl rfl ?_
   refine G_off rfl rfl rfl rfl ?_
   refine G_off rfl rfl rfl rfl ?_
   refine G_off rfl rfl rfl rfl ?_
   refine G_off rfl rfl rfl rfl ?_
   refine G_off rfl rfl rfl rfl ?_
   refine G_off rfl rfl rfl rfl ?_
   refine G_off rfl rfl rfl rfl ?_
   refine G_off rfl rfl rfl rfl ?_
   refine G_off rfl rfl rfl rfl ?_
   refine G_val rfl rfl rfl rfl (V_pickT rfl rfl rfl) ?_
   refine G_done ?_
   refine G_then rfl ?_
   refine G_seq ?_
   refine G_region (l := [0, 1]) rfl ?_
   refine G_call (L2 := [_, _]) rfl rfl rfl rfl rfl rfl Try.call42 (seal_live) [] [] rfl rfl ?_
   rintro v post ⟨rfl, rfl⟩
   show G _ _ _ [_, _] _
   refine G_val rfl rfl rfl rfl (V_assign rfl rfl) ?_
   refine G_done ?_
   refine G_ret (post := []) Try.func10 rfl (RVs_cons (RV_tmp rfl) RVs_nil) [] rfl ?_
   dsimp only [packed]
   refine ⟨?_, rfl⟩; first | rfl | skip
 refine G_val rfl rfl rfl rfl (V_move rfl rfl) ?_
 refine G_val rfl rfl rfl rfl (V_lss rfl rfl rfl) ?_
 refine G_val rfl rfl rfl rfl (V_pickF rfl rfl rfl) ?_
 refine G_val rfl rfl rfl rfl (V_move rfl rfl) ?_
 refine G_splitD 24 rfl (fun hc2 => ?_) (fun hc2 => ?_)
 · skip
   refine G_off rfl rfl rfl rfl ?_
   refine G_off rfl rfl rfl rfl ?_
   refine G_val rfl rfl rfl rfl (V_pickT rfl rfl rfl) ?_
   refine G_val rfl rfl rfl rfl (V_move rfl rfl) ?_
   refine G_off rfl rfl rfl rfl ?_
   refine G_off rfl rfl rfl rfl ?_
   refine G_off rfl rfl rfl rfl ?_
   refine G_off rfl rfl rfl rfl ?_
   refine G_off rfl rfl rfl rfl ?_
   refine G_off rfl rfl rfl rfl ?_
   refine G_off rfl rfl rfl rfl ?_
   refine G_off rfl rfl rfl rfl ?_
   refine G_off rfl rfl rfl rfl ?_
   refine G_off rfl rfl rfl rfl ?_
   refine G_off rfl rfl rfl rfl ?_
   refine G_off rfl rfl rfl rfl ?_
   refine G_val rfl rfl rfl rfl (V_pickT rfl rfl rfl) ?_
   refine G_done ?_
   refine G_then rfl ?_
   refine G_seq ?_
   refine G_region (l := [0, 1]) rfl ?_
   refine G_call (L2 := [_, _]) rfl rfl rfl rfl rfl rfl Try.call42 (seal_live) [] [] rfl rfl ?_
   rintro v post ⟨rfl, rfl⟩
   show G _ _ _ [_, _] _
   refine G_val rfl rfl rfl rfl (V_assign rfl rfl) ?_
   refine G_done ?_
   refine G_ret (post := []) Try.func10 rfl (RVs_cons (RV_tmp rfl) RVs_nil) [] rfl ?_
   dsimp only [packed]
   refine ⟨?_, rfl⟩; first | rfl | skip
 refine G_val rfl rfl rfl rfl (V_move rfl rfl) ?_
 refine G_val rfl rfl rfl rfl (V_gtr rfl rfl rfl) ?_
 refine G_val rfl rfl rfl rfl (V_pickF rfl rfl rfl) ?_
 refine G_val rfl rfl rfl rfl (V_move rfl rfl) ?_
 refine G_splitD 28 rfl (fun hc3 => ?_) (fun hc3 => ?_)
 · skip
   refine G_off rfl rfl rfl rfl ?_
   refine G_off rfl rfl rfl rfl ?_
   refine G_off rfl rfl rfl rfl ?_
   refine G_off rfl rfl rfl rfl ?_
   refine G_off rfl rfl rfl rfl ?_
   refine G_off rfl rfl rfl rfl ?_
   refine G_off rfl rfl rfl rfl ?_
   refine G_off rfl rfl rfl rfl ?_
   refine G_off rfl rfl rfl rfl ?_
   refine G_off rfl rfl rfl rfl ?_
   refine G_off rfl rfl rfl rfl ?_
   refine G_off rfl rfl rfl rfl ?_
   refine G_val rfl rfl rfl rfl (V_pickT rfl rfl rfl) ?_
   refine G_done ?_
   refine G_then rfl ?_
   refine G_seq ?_
   refine G_region (l := [0, 1]) rfl ?_
   refine G_call (L2 := [_, _]) rfl rfl rfl rfl rfl rfl Try.call42 (seal_live) [] [] rfl rfl ?_
   rintro v post ⟨rfl, rfl⟩
   show G _ _ _ [_, _] _
   refine G_val rfl rfl rfl rfl (V_assign rfl rfl) ?_
   refine G_done ?_
   refine G_ret (post := []) Try.func10 rfl (RVs_cons (RV_tmp rfl) RVs_nil) [] rfl ?_
   dsimp only [packed]
   refine ⟨?_, rfl⟩; first | rfl | skip
 refine G_val rfl rfl rfl rfl (V_fieldAddr (fo := 0) rfl Try.underlying73 rfl infSealL_22 rfl rfl rfl) ?_
 refine G_val rfl rfl rfl rfl (V_load1 rfl rfl (mem_at 1 rfl) rfl Try.underlying22 rfl) ?_
 refine G_val rfl rfl rfl rfl (V_fieldAddr (fo := 0) rfl Try.underlying73 rfl infSealL_22 rfl rfl rfl) ?_
 refine G_val rfl rfl rfl rfl (V_load1 rfl rfl (mem_at 0 rfl) rfl Try.underlying22 rfl) ?_
 refine G_val rfl rfl rfl rfl (V_eql rfl rfl rfl) ?_
 refine G_val rfl rfl rfl rfl (V_move rfl rfl) ?_
 refine G_splitD 34 rfl (fun hc4 => ?_) (fun hc4 => ?_)
 · skip
   refine G_val rfl rfl rfl rfl (V_fieldAddr (fo := 1) rfl Try.underlying73 rfl infSealL_22 rfl rfl rfl) ?_
   refine G_val rfl rfl rfl rfl (V_load1 rfl rfl (mem_at 1 rfl) rfl Try.underlying22 rfl) ?_
   refine G_val rfl rfl rfl rfl (V_fieldAddr (fo := 1) rfl Try.underlying73 rfl infSealL_22 rfl rfl rfl) ?_
   refine G_val rfl rfl rfl rfl (V_load1 rfl rfl (mem_at 0 rfl) rfl Try.underlying22 rfl) ?_
   refine G_val rfl rfl rfl rfl (V_eql rfl rfl rfl) ?_
   refine G_val rfl rfl rfl rfl (V_pickT rfl rfl rfl) ?_
   refine G_val rfl rfl rfl rfl (V_pickF rfl rfl rfl) ?_
   refine G_done ?_
   refine G_ifD rfl (fun hc5 => ?_) (fun hc5 => ?_)
   · skip
     refine G_seq ?_
     refine G_region (l := [0, 1]) rfl ?_
     refine G_call (L2 := [_, _]) rfl rfl rfl rfl rfl rfl Try.call42 (seal_live) [] [] rfl rfl ?_
     rintro v post ⟨rfl, rfl⟩
     show G _ _ _ [_, _] _
     refine G_val rfl rfl rfl rfl (V_assign rfl rfl) ?_
     refine G_done ?_
     refine G_ret (post := []) Try.func10 rfl (RVs_cons (RV_tmp rfl) RVs_nil) [] rfl ?_
     dsimp only [packed]
     refine ⟨?_, rfl⟩; first | rfl | skip
   refine G_skip ?_
   refine G_seq ?_
   refine G_draw mixedK (by kernel_rfl) ?_
   refine GQ_val rfl rfl rfl rfl (V_fieldAddr (fo := 0) rfl Try.underlying73 rfl infSealL_22 rfl rfl rfl) ?_
   refine GQ_val rfl rfl rfl rfl (V_load1 rfl rfl (mem_at 1 rfl) rfl Try.underlying22 rfl) ?_
   refine GQ_val rfl rfl rfl rfl (V_fieldAddr (fo := 1) rfl Try.underlying73 rfl infSealL_22 rfl rfl rfl) ?_
   refine GQ_val rfl rfl rfl rfl (V_load1 rfl rfl (mem_at 1 rfl) rfl Try.underlying22 rfl) ?_
   first
     | refine GQ_val rfl rfl rfl rfl (V_loadW (s := 50) rfl rfl (mem_at 1 rfl) Try.underlying73 rfl infSealL_73 rfl (by first | rfl | (simp [bcells_length]; done) | (simp [bcells_length]; omega) | (simp [bcells_length, *]; done))) ?_
     | refine GQ_val rfl rfl rfl rfl (V_loadA (s := 50) rfl rfl (mem_at 1 rfl) Try.underlying73 rfl infSealL_73 rfl rfl (by first | rfl | (simp [bcells_length]; done) | (simp [bcells_length]; omega) | (simp [bcells_length, *]; done))) ?_
   refine GQ_call rfl rfl rfl rfl rfl rfl Try.call43 (seal_text _ _ _ (by assumption)) [] rfl (fun v post hp => (hp : _ ∧ _).1) ?_
   refine GQ_call rfl rfl rfl rfl rfl rfl Try.call44 (seal_seal _ _ _ (by omega) (by omega) (by first | omega | (simp; omega))) [] rfl (fun v post hp => (hp : _ ∧ _).1) ?_
   refine GQ_val rfl rfl rfl rfl (V_move rfl rfl) ?_
   refine GQ_val rfl rfl rfl rfl (V_extract rfl rfl rfl) ?_
   refine GQ_val rfl rfl rfl rfl (V_extract rfl rfl rfl) ?_
   refine GQ_val rfl rfl rfl rfl (V_assign rfl rfl) ?_
   refine GQ_val rfl rfl rfl rfl (V_assign rfl rfl) ?_
   refine GQ_done rfl ?_
   refine G_seq ?_
   refine G_region (l := [0, 1, 2]) rfl ?_
   refine G_new rfl rfl rfl rfl (N_make (l := 64) (m := 64) rfl Try.underlying28 infSealL_5 rfl rfl rfl rfl rfl rfl rfl (by first | decide | omega) (by first | decide | omega) (by first | decide | omega)) (fun b53 => ?_)
   refine G_val rfl rfl rfl rfl (V_bytesS (l := List.replicate 64 0) rfl rfl Try.underlying28 Try.underlying5 Try.underlying9 (mem_at 0 rfl) (by simp) (by simp [bcells])) ?_
   refine G_val rfl rfl rfl rfl (V_assign rfl rfl) ?_
   refine G_done ?_
   refine G_seq ?_
   refine G_seq ?_
   refine G_region (l := [0, 1, 2]) rfl ?_
   refine G_val rfl rfl rfl rfl (V_fieldAddr (fo := 0) rfl Try.underlying73 rfl infSealL_22 rfl rfl rfl) ?_
   refine G_val rfl rfl rfl rfl (V_load1 rfl rfl (mem_at 1 rfl) rfl Try.underlying22 rfl) ?_
   refine G_val rfl rfl rfl rfl (V_gtr rfl rfl rfl) ?_
   refine G_done ?_
   refine G_ifD rfl (fun hc6 => ?_) (fun hc6 => ?_)
   rotate_left
   · (first
       | exact absurd rfl hc6
       | (exfalso; omega)
       | (exfalso; grind))
   refine G_seq ?_
   refine G_draw mixedK (by kernel_rfl) ?_
   refine GQ_val rfl rfl rfl rfl (V_fieldAddr (fo := 0) rfl Try.underlying73 rfl infSealL_22 rfl rfl rfl) ?_
   refine GQ_val rfl rfl rfl rfl (V_load1 rfl rfl (mem_at 1 rfl) rfl Try.underlying22 rfl) ?_
   refine GQ_val rfl rfl rfl rfl (V_fieldAddr (fo := 1) rfl Try.underlying73 rfl infSealL_22 rfl rfl rfl) ?_
   refine GQ_val rfl rfl rfl rfl (V_load1 rfl rfl (mem_at 1 rfl) rfl Try.underlying22 rfl) ?_
   first
     | refine GQ_val rfl rfl rfl rfl (V_loadW (s := 50) rfl rfl (mem_at 1 rfl) Try.underlying73 rfl infSealL_73 rfl (by first | rfl | (simp [bcells_length]; done) | (simp [bcells_length]; omega) | (simp [bcells_length, *]; done))) ?_
     | refine GQ_val rfl rfl rfl rfl (V_loadA (s := 50) rfl rfl (mem_at 1 rfl) Try.underlying73 rfl infSealL_73 rfl rfl (by first | rfl | (simp [bcells_length]; done) | (simp [bcells_length]; omega) | (simp [bcells_length, *]; done))) ?_
   refine GQ_call rfl rfl rfl rfl rfl rfl Try.call43 (seal_text _ _ _ (by assumption)) [] rfl (fun v post hp => (hp : _ ∧ _).1) ?_
   refine GQ_call rfl rfl rfl rfl rfl rfl Try.call45 (rseal_seal _ _ _ (by omega) (by omega) (by first | omega | (simp; omega))) [] rfl (fun v post hp => (hp : _ ∧ _).1) ?_
   refine GQ_val rfl rfl rfl rfl (V_move rfl rfl) ?_
   refine GQ_val rfl rfl rfl rfl (V_extract rfl rfl rfl) ?_
   refine GQ_val rfl rfl rfl rfl (V_extract rfl rfl rfl) ?_
   refine GQ_val rfl rfl rfl rfl (V_assign rfl rfl) ?_
   refine GQ_val rfl rfl rfl rfl (V_assign rfl rfl) ?_
   refine GQ_done rfl ?_
   refine G_seq ?_
   refine G_seq ?_
   refine G_region (l := [0, 1]) rfl ?_
   refine G_val rfl rfl rfl rfl (V_move rfl rfl) ?_
   refine G_val rfl rfl rfl rfl (V_neq rfl rfl rfl) ?_
   refine G_done ?_
   refine G_ifD rfl (fun hc7 => ?_) (fun hc7 => ?_)
   · (first
       | exact absurd rfl hc7
       | (exfalso; omega)
       | (exfalso; grind))
   refine G_skip ?_
   refine G_region (l := [0, 1]) rfl ?_
   refine G_val rfl rfl rfl rfl (V_move rfl rfl) ?_
   refine G_val rfl rfl rfl rfl (V_assign rfl rfl) ?_
   refine G_done ?_
   refine G_seq ?_
   refine G_seq ?_
   refine G_region (l := [0, 1, 2, 3, 4, 5, 6, 7]) rfl ?_
   refine G_val rfl rfl rfl rfl (V_move rfl rfl) ?_
   refine G_call (L2 := [_, _, _]) rfl rfl rfl rfl rfl rfl Try.call48 (seal_num _) [] [] rfl rfl ?_
   rintro v post ⟨rfl, rfl⟩
   show G _ _ _ [_, _, _] _
   refine G_val rfl rfl rfl rfl (V_neq rfl rfl rfl) ?_
   refine G_val rfl rfl rfl rfl (V_move rfl rfl) ?_
   refine G_splitD 74 rfl (fun hc8 => ?_) (fun hc8 => ?_)
   · (first
       | exact absurd rfl hc8
       | (exfalso; omega)
       | (exfalso; grind))
   refine G_val rfl rfl rfl rfl (V_move rfl rfl) ?_
   refine G_val rfl rfl rfl rfl (V_slen rfl rfl Try.underlying9 rfl) ?_
   refine G_val rfl rfl rfl rfl (V_neq rfl rfl rfl) ?_
   refine G_val rfl rfl rfl rfl (V_pickF rfl rfl rfl) ?_
   refine G_done ?_
   refine G_ifD rfl (fun hc9 => ?_) (fun hc9 => ?_)
   · (first
       | exact absurd rfl hc9
       | (exfalso; omega)
       | (exfalso; grind))
   refine G_skip ?_
   refine G_seq ?_
   refine G_draw mixedK (by kernel_rfl) ?_
   refine GQ_val rfl rfl rfl rfl (V_move rfl rfl) ?_
   refine GQ_val rfl rfl rfl rfl (V_move rfl rfl) ?_
   first
     | refine GQ_val rfl rfl rfl rfl (V_ssliceHN (hi := _) rfl Try.underlying9 rfl rfl rfl (by first | omega | (simp; omega) | (simp at *; omega))) ?_
     | refine GQ_val rfl rfl rfl rfl (V_ssliceH rfl Try.underlying9 rfl rfl (by first | omega | (simp; omega) | (simp at *; omega)) (by first | omega | (simp; omega) | (simp at *; omega))) ?_
   refine GQ_val rfl rfl rfl rfl (V_move rfl rfl) ?_
   refine GQ_val rfl rfl rfl rfl (V_move rfl rfl) ?_
   first
     | refine GQ_val rfl rfl rfl rfl (V_ssliceLN (lo := _) rfl Try.underlying9 rfl rfl rfl (by first | omega | (simp; omega) | (simp at *; omega))) ?_
     | refine GQ_val rfl rfl rfl rfl (V_ssliceL rfl Try.underlying9 rfl rfl (by first | omega | (simp; omega) | (simp at *; omega)) (by first | omega | (simp; omega) | (simp at *; omega))) ?_
   refine GQ_val rfl rfl rfl rfl (V_sadd rfl rfl rfl (by first | omega | (simp; omega) | (simp at *; omega))) ?_
   refine GQ_val rfl rfl rfl rfl (V_assign rfl rfl) ?_
   refine GQ_done rfl ?_
   refine G_seq ?_
   refine G_region (l := [0, 1, 2, 3, 4, 5, 6, 7, 8, 9, 10]) rfl ?_
   refine G_val rfl rfl rfl rfl (V_move rfl rfl) ?_
   refine G_call (L2 := [_, _, _]) rfl rfl rfl rfl rfl rfl Try.call46 (seal_open _ (by first | omega | (simp; omega))) [] [] rfl rfl ?_
   rintro v post ⟨rfl, rfl⟩
   show G _ _ _ [_, _, _] _
   refine G_val rfl rfl rfl rfl (V_move rfl rfl) ?_
   refine G_val rfl rfl rfl rfl (V_extract rfl rfl rfl) ?_
   refine G_val rfl rfl rfl rfl (V_extract rfl rfl rfl) ?_
   refine G_val rfl rfl rfl rfl (V_extract rfl rfl rfl) ?_
   refine G_val rfl rfl rfl rfl (V_extract rfl rfl rfl) ?_
   refine G_val rfl rfl rfl rfl (V_assign rfl rfl) ?_
   refine G_val rfl rfl rfl rfl (V_assign rfl rfl) ?_
   refine G_val rfl rfl rfl rfl (V_assign rfl rfl) ?_
   refine G_val rfl rfl rfl rfl (V_assign rfl rfl) ?_
   refine G_done ?_
   refine G_seq ?_
   refine G_seq ?_
   refine G_region (l := [0, 1]) rfl ?_
   refine G_val rfl rfl rfl rfl (V_move rfl rfl) ?_
   refine G_val rfl rfl rfl rfl (V_not rfl rfl) ?_
   refine G_done ?_
   refine G_if rfl (fun hc10 => ?_) (fun hc10 => ?_)
   · skip
     refine G_seq ?_
     refine G_region (l := [0, 1, 2, 3, 4, 5, 6]) rfl ?_
     refine G_val rfl rfl rfl rfl (V_move rfl rfl) ?_
     refine G_val rfl rfl rfl rfl (V_move rfl rfl) ?_
     refine G_val rfl rfl rfl rfl (V_sneq rfl rfl rfl) ?_
     refine G_val rfl rfl rfl rfl (V_move rfl rfl) ?_
     refine G_splitD 98 rfl (fun hc11 => ?_) (fun hc11 => ?_)
     rotate_left
     · (first
         | exact absurd rfl hc11
         | (exfalso; omega)
         | (exfalso; grind))
     refine G_call (L2 := [_, _, _]) rfl rfl rfl rfl rfl rfl Try.call42 (seal_live) [] [] rfl rfl ?_
     rintro v post ⟨rfl, rfl⟩
     show G _ _ _ [_, _, _] _
     refine G_val rfl rfl rfl rfl (V_pickT rfl rfl rfl) ?_
     refine G_val rfl rfl rfl rfl (V_assign rfl rfl) ?_
     refine G_done ?_
     refine G_ret (post := []) Try.func10 rfl (RVs_cons (RV_tmp rfl) RVs_nil) [] rfl ?_
     dsimp only [packed]
     refine ⟨?_, rfl⟩; first | rfl | skip
   refine G_skip ?_
   refine G_seq ?_
   refine G_region (l := [0, 1, 2, 3, 4, 5, 6, 7, 8, 9, 10, 11, 12, 13, 14, 15, 16, 17, 18, 19, 20, 21, 22, 23, 24, 25, 26, 27, 28, 29, 30, 31, 32, 33, 34, 35, 36, 37, 38, 39, 40, 41, 42]) rfl ?_
   refine G_val rfl rfl rfl rfl (V_move rfl rfl) ?_
   refine G_val rfl rfl rfl rfl (V_fieldAddr (fo := 0) rfl Try.underlying73 rfl infSealL_22 rfl rfl rfl) ?_
   refine G_val rfl rfl rfl rfl (V_load1 rfl rfl (mem_at 2 rfl) rfl Try.underlying22 rfl) ?_
   refine G_val rfl rfl rfl rfl (V_eql rfl rfl rfl) ?_
   refine G_val rfl rfl rfl rfl (V_move rfl rfl) ?_
   refine G_splitD 105 rfl (fun hc11 => ?_) (fun hc11 => ?_)
   rotate_left
   · (first
       | exact absurd rfl hc11
       | (exfalso; omega)
       | (exfalso; grind))
   refine G_val rfl rfl rfl rfl (V_move rfl rfl) ?_
   refine G_val rfl rfl rfl rfl (V_fieldAddr (fo := 1) rfl Try.underlying73 rfl infSealL_22 rfl rfl rfl) ?_
   refine G_val rfl rfl rfl rfl (V_load1 rfl rfl (mem_at 2 rfl) rfl Try.underlying22 rfl) ?_
   refine G_val rfl rfl rfl rfl (V_eql rfl rfl rfl) ?_
   refine G_val rfl rfl rfl rfl (V_pickT rfl rfl rfl) ?_
   refine G_val rfl rfl rfl rfl (V_move rfl rfl) ?_
   refine G_splitD 111 rfl (fun hc12 => ?_) (fun hc12 => ?_)
   · skip
     refine G_val rfl rfl rfl rfl (V_move rfl rfl) ?_
     first
       | refine G_val rfl rfl rfl rfl (V_loadW (s := 50) rfl rfl (mem_at 2 rfl) Try.underlying73 rfl infSealL_73 rfl (by first | rfl | (simp [bcells_length]; done) | (simp [bcells_length]; omega) | (simp [bcells_length, *]; done))) ?_
       | refine G_val rfl rfl rfl rfl (V_loadA (s := 50) rfl rfl (mem_at 2 rfl) Try.underlying73 rfl infSealL_73 rfl rfl (by first | rfl | (simp [bcells_length]; done) | (simp [bcells_length]; omega) | (simp [bcells_length, *]; done))) ?_
     refine G_call (L2 := [_, _, _]) rfl rfl rfl rfl rfl rfl Try.call43 (seal_text _ _ _ (by assumption)) [] [] rfl rfl ?_
     rintro v post ⟨rfl, rfl⟩
     show G _ _ _ [_, _, _] _
     refine G_val rfl rfl rfl rfl (V_seql rfl rfl rfl) ?_
     refine G_val rfl rfl rfl rfl (V_pickT rfl rfl rfl) ?_
     refine G_val rfl rfl rfl rfl (V_move rfl rfl) ?_
     refine G_splitD 117 rfl (fun hc13 => ?_) (fun hc13 => ?_)
     rotate_left
     · (first
         | exact absurd rfl hc13
         | (exfalso; omega)
         | (exfalso; grind))
     refine G_off rfl rfl rfl rfl ?_
     refine G_off rfl rfl rfl rfl ?_
     refine G_off rfl rfl rfl rfl ?_
     refine G_off rfl rfl rfl rfl ?_
     refine G_off rfl rfl rfl rfl ?_
     refine G_off rfl rfl rfl rfl ?_
     refine G_off rfl rfl rfl rfl ?_
     refine G_off rfl rfl rfl rfl ?_
     refine G_off rfl rfl rfl rfl ?_
     refine G_off rfl rfl rfl rfl ?_
     refine G_off rfl rfl rfl rfl ?_
     refine G_off rfl rfl rfl rfl ?_
     refine G_off rfl rfl rfl rfl ?_
     refine G_off rfl rfl rfl rfl ?_
     refine G_off rfl rfl rfl rfl ?_
     refine G_off rfl rfl rfl rfl ?_
     refine G_off rfl rfl rfl rfl ?_
     refine G_off rfl rfl rfl rfl ?_
     refine G_off rfl rfl rfl rfl ?_
     refine G_off rfl rfl rfl rfl ?_
     refine G_off rfl rfl rfl rfl ?_
     refine G_val rfl rfl rfl rfl (V_pickT rfl rfl rfl) ?_
     refine G_val rfl rfl rfl rfl (V_move rfl rfl) ?_
     refine G_call (L2 := [_, _, _]) rfl rfl rfl rfl rfl rfl Try.call42 (seal_live) [] [] rfl rfl ?_
     rintro v post ⟨rfl, rfl⟩
     show G _ _ _ [_, _, _] _
     refine G_val rfl rfl rfl rfl (V_pickT rfl rfl rfl) ?_
     refine G_val rfl rfl rfl rfl (V_assign rfl rfl) ?_
     refine G_done ?_
     refine G_ret (post := []) Try.func10 rfl (RVs_cons (RV_tmp rfl) RVs_nil) [] rfl ?_
     dsimp only [packed]
     refine ⟨?_, rfl⟩; first | rfl | skip
   refine G_off rfl rfl rfl rfl ?_
   refine G_off rfl rfl rfl rfl ?_
   refine G_off rfl rfl rfl rfl ?_
   refine G_off rfl rfl rfl rfl ?_
   refine G_val rfl rfl rfl rfl (V_pickF rfl rfl rfl) ?_
   refine G_val rfl rfl rfl rfl (V_move rfl rfl) ?_
   refine G_val rfl rfl rfl rfl (V_move rfl rfl) ?_
   refine G_val rfl rfl rfl rfl (V_move rfl rfl) ?_
   refine G_val rfl rfl rfl rfl (V_seql rfl rfl rfl) ?_
   refine G_val rfl rfl rfl rfl (V_move rfl rfl) ?_
   refine G_splitD 121 rfl (fun hc13 => ?_) (fun hc13 => ?_)
   rotate_left
   · (first
       | exact absurd rfl hc13
       | (exfalso; omega)
       | (exfalso; grind))
   refine G_val rfl rfl rfl rfl (V_move rfl rfl) ?_
   refine G_val rfl rfl rfl rfl (V_fieldAddr (fo := 0) rfl Try.underlying73 rfl infSealL_22 rfl rfl rfl) ?_
   refine G_val rfl rfl rfl rfl (V_load1 rfl rfl (mem_at 1 rfl) rfl Try.underlying22 rfl) ?_
   refine G_val rfl rfl rfl rfl (V_eql rfl rfl rfl) ?_
   refine G_val rfl rfl rfl rfl (V_pickT rfl rfl rfl) ?_
   refine G_val rfl rfl rfl rfl (V_move rfl rfl) ?_
   refine G_splitD 127 rfl (fun hc14 => ?_) (fun hc14 => ?_)
   rotate_left
   · (first
       | exact absurd rfl hc14
       | (exfalso; omega)
       | (exfalso; grind))
   refine G_val rfl rfl rfl rfl (V_move rfl rfl) ?_
   refine G_val rfl rfl rfl rfl (V_fieldAddr (fo := 1) rfl Try.underlying73 rfl infSealL_22 rfl rfl rfl) ?_
   refine G_val rfl rfl rfl rfl (V_load1 rfl rfl (mem_at 1 rfl) rfl Try.underlying22 rfl) ?_
   refine G_val rfl rfl rfl rfl (V_eql rfl rfl rfl) ?_
   refine G_val rfl rfl rfl rfl (V_pickT rfl rfl rfl) ?_
   refine G_val rfl rfl rfl rfl (V_move rfl rfl) ?_
   refine G_splitD 133 rfl (fun hc15 => ?_) (fun hc15 => ?_)
   rotate_left
   · (first
       | exact absurd rfl hc15
       | (exfalso; omega)
       | (exfalso; grind))
   refine G_val rfl rfl rfl rfl (V_move rfl rfl) ?_
   first
     | refine G_val rfl rfl rfl rfl (V_loadW (s := 50) rfl rfl (mem_at 1 rfl) Try.underlying73 rfl infSealL_73 rfl (by first | rfl | (simp [bcells_length]; done) | (simp [bcells_length]; omega) | (simp [bcells_length, *]; done))) ?_
     | refine G_val rfl rfl rfl rfl (V_loadA (s := 50) rfl rfl (mem_at 1 rfl) Try.underlying73 rfl infSealL_73 rfl rfl (by first | rfl | (simp [bcells_length]; done) | (simp [bcells_length]; omega) | (simp [bcells_length, *]; done))) ?_
   refine G_call (L2 := [_, _, _]) rfl rfl rfl rfl rfl rfl Try.call43 (seal_text _ _ _ (by assumption)) [] [] rfl rfl ?_
   rintro v post ⟨rfl, rfl⟩
   show G _ _ _ [_, _, _] _
   refine G_val rfl rfl rfl rfl (V_seql rfl rfl rfl) ?_
   refine G_val rfl rfl rfl rfl (V_pickT rfl rfl rfl) ?_
   refine G_val rfl rfl rfl rfl (V_pickF rfl rfl rfl) ?_
   refine G_val rfl rfl rfl rfl (V_move rfl rfl) ?_
   refine G_splitD 140 rfl (fun hc16 => ?_) (fun hc16 => ?_)
   rotate_left
   · (first
       | exact absurd rfl hc16
       | (exfalso; omega)
       | (exfalso; grind))
   refine G_call (L2 := [_, _, _]) rfl rfl rfl rfl rfl rfl Try.call42 (seal_live) [] [] rfl rfl ?_
   rintro v post ⟨rfl, rfl⟩
   show G _ _ _ [_, _, _] _
   refine G_val rfl rfl rfl rfl (V_pickT rfl rfl rfl) ?_
   refine G_val rfl rfl rfl rfl (V_assign rfl rfl) ?_
   refine G_done ?_
   refine G_ret (post := []) Try.func10 rfl (RVs_cons (RV_tmp rfl) RVs_nil) [] rfl ?_
   dsimp only [packed]
   refine ⟨?_, rfl⟩; first | rfl | skip
 refine G_off rfl rfl rfl rfl ?_
 refine G_off rfl rfl rfl rfl ?_
 refine G_off rfl rfl rfl rfl ?_
 refine G_off rfl rfl rfl rfl ?_
 refine G_off rfl rfl rfl rfl ?_
 refine G_val rfl rfl rfl rfl (V_pickF rfl rfl rfl) ?_
 refine G_val rfl rfl rfl rfl (V_pickF rfl rfl rfl) ?_
 refine G_done ?_
 refine G_else rfl ?_
 refine G_skip ?_
 refine G_seq ?_
 refine G_draw mixedK (by kernel_rfl) ?_
 refine GQ_val rfl rfl rfl rfl (V_fieldAddr (fo := 0) rfl Try.underlying73 rfl infSealL_22 rfl rfl rfl) ?_
 refine GQ_val rfl rfl rfl rfl (V_load1 rfl rfl (mem_at 1 rfl) rfl Try.underlying22 rfl) ?_
 refine GQ_val rfl rfl rfl rfl (V_fieldAddr (fo := 1) rfl Try.underlying73 rfl infSealL_22 rfl rfl rfl) ?_
 refine GQ_val rfl rfl rfl rfl (V_load1 rfl rfl (mem_at 1 rfl) rfl Try.underlying22 rfl) ?_
 first
   | refine GQ_val rfl rfl rfl rfl (V_loadW (s := 50) rfl rfl (mem_at 1 rfl) Try.underlying73 rfl infSealL_73 rfl (by first | rfl | (simp [bcells_length]; done) | (simp [bcells_length]; omega) | (simp [bcells_length, *]; done))) ?_
   | refine GQ_val rfl rfl rfl rfl (V_loadA (s := 50) rfl rfl (mem_at 1 rfl) Try.underlying73 rfl infSealL_73 rfl rfl (by first | rfl | (simp [bcells_length]; done) | (simp [bcells_length]; omega) | (simp [bcells_length, *]; done))) ?_
 refine GQ_call rfl rfl rfl rfl rfl rfl Try.call43 (seal_text _ _ _ (by assumption)) [] rfl (fun v post hp => (hp : _ ∧ _).1) ?_
 refine GQ_call rfl rfl rfl rfl rfl rfl Try.call44 (seal_seal _ _ _ (by omega) (by omega) (by first | omega | (simp; omega))) [] rfl (fun v post hp => (hp : _ ∧ _).1) ?_
 refine GQ_val rfl rfl rfl rfl (V_move rfl rfl) ?_
 refine GQ_val rfl rfl rfl rfl (V_extract rfl rfl rfl) ?_
 refine GQ_val rfl rfl rfl rfl (V_extract rfl rfl rfl) ?_
 refine GQ_val rfl rfl rfl rfl (V_assign rfl rfl) ?_
 refine GQ_val rfl rfl rfl rfl (V_assign rfl rfl) ?_
 refine GQ_done rfl ?_
 refine G_seq ?_
 refine G_region (l := [0, 1, 2]) rfl ?_
 refine G_new rfl rfl rfl rfl (N_make (l := 64) (m := 64) rfl Try.underlying28 infSealL_5 rfl rfl rfl rfl rfl rfl rfl (by first | decide | omega) (by first | decide | omega) (by first | decide | omega)) (fun b53 => ?_)
 refine G_val rfl rfl rfl rfl (V_bytesS (l := List.replicate 64 0) rfl rfl Try.underlying28 Try.underlying5 Try.underlying9 (mem_at 0 rfl) (by simp) (by simp [bcells])) ?_
 refine G_val rfl rfl rfl rfl (V_assign rfl rfl) ?_
 refine G_done ?_
 refine G_seq ?_
 refine G_seq ?_
 refine G_region (l := [0, 1, 2]) rfl ?_
 refine G_val rfl rfl rfl rfl (V_fieldAddr (fo := 0) rfl Try.underlying73 rfl infSealL_22 rfl rfl rfl) ?_
 refine G_val rfl rfl rfl rfl (V_load1 rfl rfl (mem_at 1 rfl) rfl Try.underlying22 rfl) ?_
 refine G_val rfl rfl rfl rfl (V_gtr rfl rfl rfl) ?_
 refine G_done ?_
 refine G_ifD rfl (fun hc5 => ?_) (fun hc5 => ?_)
 · skip
   refine G_seq ?_
   refine G_draw mixedK (by kernel_rfl) ?_
   refine GQ_val rfl rfl rfl rfl (V_fieldAddr (fo := 0) rfl Try.underlying73 rfl infSealL_22 rfl rfl rfl) ?_
   refine GQ_val rfl rfl rfl rfl (V_load1 rfl rfl (mem_at 1 rfl) rfl Try.underlying22 rfl) ?_
   refine GQ_val rfl rfl rfl rfl (V_fieldAddr (fo := 1) rfl Try.underlying73 rfl infSealL_22 rfl rfl rfl) ?_
   refine GQ_val rfl rfl rfl rfl (V_load1 rfl rfl (mem_at 1 rfl) rfl Try.underlying22 rfl) ?_
   first
     | refine GQ_val rfl rfl rfl rfl (V_loadW (s := 50) rfl rfl (mem_at 1 rfl) Try.underlying73 rfl infSealL_73 rfl (by first | rfl | (simp [bcells_length]; done) | (simp [bcells_length]; omega) | (simp [bcells_length, *]; done))) ?_
     | refine GQ_val rfl rfl rfl rfl (V_loadA (s := 50) rfl rfl (mem_at 1 rfl) Try.underlying73 rfl infSealL_73 rfl rfl (by first | rfl | (simp [bcells_length]; done) | (simp [bcells_length]; omega) | (simp [bcells_length, *]; done))) ?_
   refine GQ_call rfl rfl rfl rfl rfl rfl Try.call43 (seal_text _ _ _ (by assumption)) [] rfl (fun v post hp => (hp : _ ∧ _).1) ?_
   refine GQ_call rfl rfl rfl rfl rfl rfl Try.call45 (rseal_seal _ _ _ (by omega) (by omega) (by first | omega | (simp; omega))) [] rfl (fun v post hp => (hp : _ ∧ _).1) ?_
   refine GQ_val rfl rfl rfl rfl (V_move rfl rfl) ?_
   refine GQ_val rfl rfl rfl rfl (V_extract rfl rfl rfl) ?_
   refine GQ_val rfl rfl rfl rfl (V_extract rfl rfl rfl) ?_
   refine GQ_val rfl rfl rfl rfl (V_assign rfl rfl) ?_
   refine GQ_val rfl rfl rfl rfl (V_assign rfl rfl) ?_
   refine GQ_done rfl ?_
   refine G_seq ?_
   refine G_seq ?_
   refine G_region (l := [0, 1]) rfl ?_
   refine G_val rfl rfl rfl rfl (V_move rfl rfl) ?_
   refine G_val rfl rfl rfl rfl (V_neq rfl rfl rfl) ?_
   refine G_done ?_
   refine G_ifD rfl (fun hc6 => ?_) (fun hc6 => ?_)
   · (first
       | exact absurd rfl hc6
       | (exfalso; omega)
       | (exfalso; grind))
   refine G_skip ?_
   refine G_region (l := [0, 1]) rfl ?_
   refine G_val rfl rfl rfl rfl (V_move rfl rfl) ?_
   refine G_val rfl rfl rfl rfl (V_assign rfl rfl) ?_
   refine G_done ?_
   refine G_seq ?_
   refine G_seq ?_
   refine G_region (l := [0, 1, 2, 3, 4, 5, 6, 7]) rfl ?_
   refine G_val rfl rfl rfl rfl (V_move rfl rfl) ?_
   refine G_call (L2 := [_, _, _]) rfl rfl rfl rfl rfl rfl Try.call48 (seal_num _) [] [] rfl rfl ?_
   rintro v post ⟨rfl, rfl⟩
   show G _ _ _ [_, _, _] _
   refine G_val rfl rfl rfl rfl (V_neq rfl rfl rfl) ?_
   refine G_val rfl rfl rfl rfl (V_move rfl rfl) ?_
   refine G_splitD 74 rfl (fun hc7 => ?_) (fun hc7 => ?_)
   · (first
       | exact absurd rfl hc7
       | (exfalso; omega)
       | (exfalso; grind))
   refine G_val rfl rfl rfl rfl (V_move rfl rfl) ?_
   refine G_val rfl rfl rfl rfl (V_slen rfl rfl Try.underlying9 rfl) ?_
   refine G_val rfl rfl rfl rfl (V_neq rfl rfl rfl) ?_
   refine G_val rfl rfl rfl rfl (V_pickF rfl rfl rfl) ?_
   refine G_done ?_
   refine G_ifD rfl (fun hc8 => ?_) (fun hc8 => ?_)
   · (first
       | exact absurd rfl hc8
       | (exfalso; omega)
       | (exfalso; grind))
   refine G_skip ?_
   refine G_seq ?_
   refine G_draw mixedK (by kernel_rfl) ?_
   refine GQ_val rfl rfl rfl rfl (V_move rfl rfl) ?_
   refine GQ_val rfl rfl rfl rfl (V_move rfl rfl) ?_
   first
     | refine GQ_val rfl rfl rfl rfl (V_ssliceHN (hi := _) rfl Try.underlying9 rfl rfl rfl (by first | omega | (simp; omega) | (simp at *; omega))) ?_
     | refine GQ_val rfl rfl rfl rfl (V_ssliceH rfl Try.underlying9 rfl rfl (by first | omega | (simp; omega) | (simp at *; omega)) (by first | omega | (simp; omega) | (simp at *; omega))) ?_
   refine GQ_val rfl rfl rfl rfl (V_move rfl rfl) ?_
   refine GQ_val rfl rfl rfl rfl (V_move rfl rfl) ?_
   first
     | refine GQ_val rfl rfl rfl rfl (V_ssliceLN (lo := _) rfl Try.underlying9 rfl rfl rfl (by first | omega | (simp; omega) | (simp at *; omega))) ?_
     | refine GQ_val rfl rfl rfl rfl (V_ssliceL rfl Try.underlying9 rfl rfl (by first | omega | (simp; omega) | (simp at *; omega)) (by first | omega | (simp; omega) | (simp at *; omega))) ?_
   refine GQ_val rfl rfl rfl rfl (V_sadd rfl rfl rfl (by first | omega | (simp; omega) | (simp at *; omega))) ?_
   refine GQ_val rfl rfl rfl rfl (V_assign rfl rfl) ?_
   refine GQ_done rfl ?_
   refine G_seq ?_
   refine G_region (l := [0, 1, 2, 3, 4, 5, 6, 7, 8, 9, 10]) rfl ?_
   refine G_val rfl rfl rfl rfl (V_move rfl rfl) ?_
   refine G_call (L2 := [_, _, _]) rfl rfl rfl rfl rfl rfl Try.call46 (seal_open _ (by first | omega | (simp; omega))) [] [] rfl rfl ?_
   rintro v post ⟨rfl, rfl⟩
   show G _ _ _ [_, _, _] _
   refine G_val rfl rfl rfl rfl (V_move rfl rfl) ?_
   refine G_val rfl rfl rfl rfl (V_extract rfl rfl rfl) ?_
   refine G_val rfl rfl rfl rfl (V_extract rfl rfl rfl) ?_
   refine G_val rfl rfl rfl rfl (V_extract rfl rfl rfl) ?_
   refine G_val rfl rfl rfl rfl (V_extract rfl rfl rfl) ?_
   refine G_val rfl rfl rfl rfl (V_assign rfl rfl) ?_
   refine G_val rfl rfl rfl rfl (V_assign rfl rfl) ?_
   refine G_val rfl rfl rfl rfl (V_assign rfl rfl) ?_
   refine G_val rfl rfl rfl rfl (V_assign rfl rfl) ?_
   refine G_done ?_
   refine G_seq ?_
   refine G_seq ?_
   refine G_region (l := [0, 1]) rfl ?_
   refine G_val rfl rfl rfl rfl (V_move rfl rfl) ?_
   refine G_val rfl rfl rfl rfl (V_not rfl rfl) ?_
   refine G_done ?_
   refine G_if rfl (fun hc9 => ?_) (fun hc9 => ?_)
   · skip
     refine G_seq ?_
     refine G_region (l := [0, 1, 2, 3, 4, 5, 6]) rfl ?_
     refine G_val rfl rfl rfl rfl (V_move rfl rfl) ?_
     refine G_val rfl rfl rfl rfl (V_move rfl rfl) ?_
     refine G_val rfl rfl rfl rfl (V_sneq rfl rfl rfl) ?_
     refine G_val rfl rfl rfl rfl (V_move rfl rfl) ?_
     refine G_splitD 98 rfl (fun hc10 => ?_) (fun hc10 => ?_)
     rotate_left
     · (first
         | exact absurd rfl hc10
         | (exfalso; omega)
         | (exfalso; grind))
     refine G_call (L2 := [_, _, _]) rfl rfl rfl rfl rfl rfl Try.call42 (seal_live) [] [] rfl rfl ?_
     rintro v post ⟨rfl, rfl⟩
     show G _ _ _ [_, _, _] _
     refine G_val rfl rfl rfl rfl (V_pickT rfl rfl rfl) ?_
     refine G_val rfl rfl rfl rfl (V_assign rfl rfl) ?_
     refine G_done ?_
     refine G_ret (post := []) Try.func10 rfl (RVs_cons (RV_tmp rfl) RVs_nil) [] rfl ?_
     dsimp only [packed]
     refine ⟨?_, rfl⟩; first | rfl | skip
   refine G_skip ?_
   refine G_seq ?_
   refine G_region (l := [0, 1, 2, 3, 4, 5, 6, 7, 8, 9, 10, 11, 12, 13, 14, 15, 16, 17, 18, 19, 20, 21, 22, 23, 24, 25, 26, 27, 28, 29, 30, 31, 32, 33, 34, 35, 36, 37, 38, 39, 40, 41, 42]) rfl ?_
   refine G_val rfl rfl rfl rfl (V_move rfl rfl) ?_
   refine G_val rfl rfl rfl rfl (V_fieldAddr (fo := 0) rfl Try.underlying73 rfl infSealL_22 rfl rfl rfl) ?_
   refine G_val rfl rfl rfl rfl (V_load1 rfl rfl (mem_at 2 rfl) rfl Try.underlying22 rfl) ?_
   refine G_val rfl rfl rfl rfl (V_eql rfl rfl rfl) ?_
   refine G_val rfl rfl rfl rfl (V_move rfl rfl) ?_
   refine G_splitD 105 rfl (fun hc10 => ?_) (fun hc10 => ?_)
   · skip
     refine G_val rfl rfl rfl rfl (V_move rfl rfl) ?_
     refine G_val rfl rfl rfl rfl (V_fieldAddr (fo := 1) rfl Try.underlying73 rfl infSealL_22 rfl rfl rfl) ?_
     refine G_val rfl rfl rfl rfl (V_load1 rfl rfl (mem_at 2 rfl) rfl Try.underlying22 rfl) ?_
     refine G_val rfl rfl rfl rfl (V_eql rfl rfl rfl) ?_
     refine G_val rfl rfl rfl rfl (V_pickT rfl rfl rfl) ?_
     refine G_val rfl rfl rfl rfl (V_move rfl rfl) ?_
     refine G_splitD 111 rfl (fun hc11 => ?_) (fun hc11 => ?_)
     rotate_left
     · (first
         | exact absurd rfl hc11
         | (exfalso; omega)
         | (exfalso; grind))
     refine G_val rfl rfl rfl rfl (V_move rfl rfl) ?_
     first
       | refine G_val rfl rfl rfl rfl (V_loadW (s := 50) rfl rfl (mem_at 2 rfl) Try.underlying73 rfl infSealL_73 rfl (by first | rfl | (simp [bcells_length]; done) | (simp [bcells_length]; omega) | (simp [bcells_length, *]; done))) ?_
       | refine G_val rfl rfl rfl rfl (V_loadA (s := 50) rfl rfl (mem_at 2 rfl) Try.underlying73 rfl infSealL_73 rfl rfl (by first | rfl | (simp [bcells_length]; done) | (simp [bcells_length]; omega) | (simp [bcells_length, *]; done))) ?_
     refine G_call (L2 := [_, _, _]) rfl rfl rfl rfl rfl rfl Try.call43 (seal_text _ _ _ (by assumption)) [] [] rfl rfl ?_
     rintro v post ⟨rfl, rfl⟩
     show G _ _ _ [_, _, _] _
     refine G_val rfl rfl rfl rfl (V_seql rfl rfl rfl) ?_
     refine G_val rfl rfl rfl rfl (V_pickT rfl rfl rfl) ?_
     refine G_val rfl rfl rfl rfl (V_move rfl rfl) ?_
     refine G_splitD 117 rfl (fun hc12 => ?_) (fun hc12 => ?_)
     rotate_left
     · (first
         | exact absurd rfl hc12
         | (exfalso; omega)
         | (exfalso; grind))
     refine G_off rfl rfl rfl rfl ?_
     refine G_off rfl rfl rfl rfl ?_
     refine G_off rfl rfl rfl rfl ?_
     refine G_off rfl rfl rfl rfl ?_
     refine G_off rfl rfl rfl rfl ?_
     refine G_off rfl rfl rfl rfl ?_
     refine G_off rfl rfl rfl rfl ?_
     refine G_off rfl rfl rfl rfl ?_
     refine G_off rfl rfl rfl rfl ?_
     refine G_off rfl rfl rfl rfl ?_
     refine G_off rfl rfl rfl rfl ?_
     refine G_off rfl rfl rfl rfl ?_
     refine G_off rfl rfl rfl rfl ?_
     refine G_off rfl rfl rfl rfl ?_
     refine G_off rfl rfl rfl rfl ?_
     refine G_off rfl rfl rfl rfl ?_
     refine G_off rfl rfl rfl rfl ?_
     refine G_off rfl rfl rfl rfl ?_
     refine G_off rfl rfl rfl rfl ?_
     refine G_off rfl rfl rfl rfl ?_
     refine G_off rfl rfl rfl rfl ?_
     refine G_val rfl rfl rfl rfl (V_pickT rfl rfl rfl) ?_
     refine G_val rfl rfl rfl rfl (V_move rfl rfl) ?_
     refine G_call (L2 := [_, _, _]) rfl rfl rfl rfl rfl rfl Try.call42 (seal_live) [] [] rfl rfl ?_
     rintro v post ⟨rfl, rfl⟩
     show G _ _ _ [_, _, _] _
     refine G_val rfl rfl rfl rfl (V_pickT rfl rfl rfl) ?_
     refine G_val rfl rfl rfl rfl (V_assign rfl rfl) ?_
     refine G_done ?_
     refine G_ret (post := []) Try.func10 rfl (RVs_cons (RV_tmp rfl) RVs_nil) [] rfl ?_
     dsimp only [packed]
     refine ⟨?_, rfl⟩; first | rfl | skip
   refine G_off rfl rfl rfl rfl ?_
   refine G_off rfl rfl rfl rfl ?_
   refine G_off rfl rfl rfl rfl ?_
   refine G_off rfl rfl rfl rfl ?_
   refine G_val rfl rfl rfl rfl (V_pickF rfl rfl rfl) ?_
   refine G_val rfl rfl rfl rfl (V_move rfl rfl) ?_
   refine G_off rfl rfl rfl rfl ?_
   refine G_off rfl rfl rfl rfl ?_
   refine G_off rfl rfl rfl rfl ?_
   refine G_off rfl rfl rfl rfl ?_
   refine G_val rfl rfl rfl rfl (V_pickF rfl rfl rfl) ?_
   refine G_val rfl rfl rfl rfl (V_move rfl rfl) ?_
   refine G_val rfl rfl rfl rfl (V_move rfl rfl) ?_
   refine G_val rfl rfl rfl rfl (V_move rfl rfl) ?_
   refine G_val rfl rfl rfl rfl (V_seql rfl rfl rfl) ?_
   refine G_val rfl rfl rfl rfl (V_move rfl rfl) ?_
   refine G_splitD 121 rfl (fun hc11 => ?_) (fun hc11 => ?_)
   rotate_left
   · (first
       | exact absurd rfl hc11
       | (exfalso; omega)
       | (exfalso; grind))
   refine G_val rfl rfl rfl rfl (V_move rfl rfl) ?_
   refine G_val rfl rfl rfl rfl (V_fieldAddr (fo := 0) rfl Try.underlying73 rfl infSealL_22 rfl rfl rfl) ?_
   refine G_val rfl rfl rfl rfl (V_load1 rfl rfl (mem_at 1 rfl) rfl Try.underlying22 rfl) ?_
   refine G_val rfl rfl rfl rfl (V_eql rfl rfl rfl) ?_
   refine G_val rfl rfl rfl rfl (V_pickT rfl rfl rfl) ?_
   refine G_val rfl rfl rfl rfl (V_move rfl rfl) ?_
   refine G_splitD 127 rfl (fun hc12 => ?_) (fun hc12 => ?_)
   rotate_left
   · (first
       | exact absurd rfl hc12
       | (exfalso; omega)
       | (exfalso; grind))
   refine G_val rfl rfl rfl rfl (V_move rfl rfl) ?_
   refine G_val rfl rfl rfl rfl (V_fieldAddr (fo := 1) rfl Try.underlying73 rfl infSealL_22 rfl rfl rfl) ?_
   refine G_val rfl rfl rfl rfl (V_load1 rfl rfl (mem_at 1 rfl) rfl Try.underlying22 rfl) ?_
   refine G_val rfl rfl rfl rfl (V_eql rfl rfl rfl) ?_
   refine G_val rfl rfl rfl rfl (V_pickT rfl rfl rfl) ?_
   refine G_val rfl rfl rfl rfl (V_move rfl rfl) ?_
   refine G_splitD 133 rfl (fun hc13 => ?_) (fun hc13 => ?_)
   rotate_left
   · (first
       | exact absurd rfl hc13
       | (exfalso; omega)
       | (exfalso; grind))
   refine G_val rfl rfl rfl rfl (V_move rfl rfl) ?_
   first
     | refine G_val rfl rfl rfl rfl (V_loadW (s := 50) rfl rfl (mem_at 1 rfl) Try.underlying73 rfl infSealL_73 rfl (by first | rfl | (simp [bcells_length]; done) | (simp [bcells_length]; omega) | (simp [bcells_length, *]; done))) ?_
     | refine G_val rfl rfl rfl rfl (V_loadA (s := 50) rfl rfl (mem_at 1 rfl) Try.underlying73 rfl infSealL_73 rfl rfl (by first | rfl | (simp [bcells_length]; done) | (simp [bcells_length]; omega) | (simp [bcells_length, *]; done))) ?_
   refine G_call (L2 := [_, _, _]) rfl rfl rfl rfl rfl rfl Try.call43 (seal_text _ _ _ (by assumption)) [] [] rfl rfl ?_
   rintro v post ⟨rfl, rfl⟩
   show G _ _ _ [_, _, _] _
   refine G_val rfl rfl rfl rfl (V_seql rfl rfl rfl) ?_
   refine G_val rfl rfl rfl rfl (V_pickT rfl rfl rfl) ?_
   refine G_val rfl rfl rfl rfl (V_pickF rfl rfl rfl) ?_
   refine G_val rfl rfl rfl rfl (V_move rfl rfl) ?_
   refine G_splitD 140 rfl (fun hc14 => ?_) (fun hc14 => ?_)
   rotate_left
   · (first
       | exact absurd rfl hc14
       | (exfalso; omega)
       | (exfalso; grind))
   refine G_call (L2 := [_, _, _]) rfl rfl rfl rfl rfl rfl Try.call42 (seal_live) [] [] rfl rfl ?_
   rintro v post ⟨rfl, rfl⟩
   show G _ _ _ [_, _, _] _
   refine G_val rfl rfl rfl rfl (V_pickT rfl rfl rfl) ?_
   refine G_val rfl rfl rfl rfl (V_assign rfl rfl) ?_
   refine G_done ?_
   refine G_ret (post := []) Try.func10 rfl (RVs_cons (RV_tmp rfl) RVs_nil) [] rfl ?_
   dsimp only [packed]
   refine ⟨?_, rfl⟩; first | rfl | skip
 refine G_skip ?_
 refine G_seq ?_
 refine G_seq ?_
 refine G_region (l := [0, 1, 2, 3, 4, 5, 6, 7]) rfl ?_
 refine G_val rfl rfl rfl rfl (V_move rfl rfl) ?_
 refine G_call (L2 := [_, _, _]) rfl rfl rfl rfl rfl rfl Try.call48 (seal_num _) [] [] rfl rfl ?_
 rintro v post ⟨rfl, rfl⟩
 show G _ _ _ [_, _, _] _
 refine G_val rfl rfl rfl rfl (V_neq rfl rfl rfl) ?_
 refine G_val rfl rfl rfl rfl (V_move rfl rfl) ?_
 refine G_splitD 74 rfl (fun hc6 => ?_) (fun hc6 => ?_)
 · (first
     | exact absurd rfl hc6
     | (exfalso; omega)
     | (exfalso; grind))
 refine G_val rfl rfl rfl rfl (V_move rfl rfl) ?_
 refine G_val rfl rfl rfl rfl (V_slen rfl rfl Try.underlying9 rfl) ?_
 refine G_val rfl rfl rfl rfl (V_neq rfl rfl rfl) ?_
 refine G_val rfl rfl rfl rfl (V_pickF rfl rfl rfl) ?_
 refine G_done ?_
 refine G_ifD rfl (fun hc7 => ?_) (fun hc7 => ?_)
 · (first
     | exact absurd rfl hc7
     | (exfalso; omega)
     | (exfalso; grind))
 refine G_skip ?_
 refine G_seq ?_
 refine G_draw mixedK (by kernel_rfl) ?_
 refine GQ_val rfl rfl rfl rfl (V_move rfl rfl) ?_
 refine GQ_val rfl rfl rfl rfl (V_move rfl rfl) ?_
 first
   | refine GQ_val rfl rfl rfl rfl (V_ssliceHN (hi := _) rfl Try.underlying9 rfl rfl rfl (by first | omega | (simp; omega) | (simp at *; omega))) ?_
   | refine GQ_val rfl rfl rfl rfl (V_ssliceH rfl Try.underlying9 rfl rfl (by first | omega | (simp; omega) | (simp at *; omega)) (by first | omega | (simp; omega) | (simp at *; omega))) ?_
 refine GQ_val rfl rfl rfl rfl (V_move rfl rfl) ?_
 refine GQ_val rfl rfl rfl rfl (V_move rfl rfl) ?_
 first
   | refine GQ_val rfl rfl rfl rfl (V_ssliceLN (lo := _) rfl Try.underlying9 rfl rfl rfl (by first | omega | (simp; omega) | (simp at *; omega))) ?_
   | refine GQ_val rfl rfl rfl rfl (V_ssliceL rfl Try.underlying9 rfl rfl (by first | omega | (simp; omega) | (simp at *; omega)) (by first | omega | (simp; omega) | (simp at *; omega))) ?_
 refine GQ_val rfl rfl rfl rfl (V_sadd rfl rfl rfl (by first | omega | (simp; omega) | (simp at *; omega))) ?_
 refine GQ_val rfl rfl rfl rfl (V_assign rfl rfl) ?_
 refine GQ_done rfl ?_
 refine G_seq ?_
 refine G_region (l := [0, 1, 2, 3, 4, 5, 6, 7, 8, 9, 10]) rfl ?_
 refine G_val rfl rfl rfl rfl (V_move rfl rfl) ?_
 refine G_call (L2 := [_, _, _]) rfl rfl rfl rfl rfl rfl Try.call46 (seal_open _ (by first | omega | (simp; omega))) [] [] rfl rfl ?_
 rintro v post ⟨rfl, rfl⟩
 show G _ _ _ [_, _, _] _
 refine G_val rfl rfl rfl rfl (V_move rfl rfl) ?_
 refine G_val rfl rfl rfl rfl (V_extract rfl rfl rfl) ?_
 refine G_val rfl rfl rfl rfl (V_extract rfl rfl rfl) ?_
 refine G_val rfl rfl rfl rfl (V_extract rfl rfl rfl) ?_
 refine G_val rfl rfl rfl rfl (V_extract rfl rfl rfl) ?_
 refine G_val rfl rfl rfl rfl (V_assign rfl rfl) ?_
 refine G_val rfl rfl rfl rfl (V_assign rfl rfl) ?_
 refine G_val rfl rfl rfl rfl (V_assign rfl rfl) ?_
 refine G_val rfl rfl rfl rfl (V_assign rfl rfl) ?_
 refine G_done ?_
 refine G_seq ?_
 refine G_seq ?_
 refine G_region (l := [0, 1]) rfl ?_
 refine G_val rfl rfl rfl rfl (V_move rfl rfl) ?_
 refine G_val rfl rfl rfl rfl (V_not rfl rfl) ?_
 refine G_done ?_
 refine G_if rfl (fun hc8 => ?_) (fun hc8 => ?_)
 · skip
   refine G_seq ?_
   refine G_region (l := [0, 1, 2, 3, 4, 5, 6]) rfl ?_
   refine G_val rfl rfl rfl rfl (V_move rfl rfl) ?_
   refine G_val rfl rfl rfl rfl (V_move rfl rfl) ?_
   refine G_val rfl rfl rfl rfl (V_sneq rfl rfl rfl) ?_
   refine G_val rfl rfl rfl rfl (V_move rfl rfl) ?_
   refine G_splitD 98 rfl (fun hc9 => ?_) (fun hc9 => ?_)
   rotate_left
   · (first
       | exact absurd rfl hc9
       | (exfalso; omega)
       | (exfalso; grind))
   refine G_call (L2 := [_, _, _]) rfl rfl rfl rfl rfl rfl Try.call42 (seal_live) [] [] rfl rfl ?_
   rintro v post ⟨rfl, rfl⟩
   show G _ _ _ [_, _, _] _
   refine G_val rfl rfl rfl rfl (V_pickT rfl rfl rfl) ?_
   refine G_val rfl rfl rfl rfl (V_assign rfl rfl) ?_
   refine G_done ?_
   refine G_ret (post := []) Try.func10 rfl (RVs_cons (RV_tmp rfl) RVs_nil) [] rfl ?_
   dsimp only [packed]
   refine ⟨?_, rfl⟩; first | rfl | skip
 refine G_skip ?_
 refine G_seq ?_
 refine G_region (l := [0, 1, 2, 3, 4, 5, 6, 7, 8, 9, 10, 11, 12, 13, 14, 15, 16, 17, 18, 19, 20, 21, 22, 23, 24, 25, 26, 27, 28, 29, 30, 31, 32, 33, 34, 35, 36, 37, 38, 39, 40, 41, 42]) rfl ?_
 refine G_val rfl rfl rfl rfl (V_move rfl rfl) ?_
 refine G_val rfl rfl rfl rfl (V_fieldAddr (fo := 0) rfl Try.underlying73 rfl infSealL_22 rfl rfl rfl) ?_
 refine G_val rfl rfl rfl rfl (V_load1 rfl rfl (mem_at 2 rfl) rfl Try.underlying22 rfl) ?_
 refine G_val rfl rfl rfl rfl (V_eql rfl rfl rfl) ?_
 refine G_val rfl rfl rfl rfl (V_move rfl rfl) ?_
 refine G_splitD 105 rfl (fun hc9 => ?_) (fun hc9 => ?_)
 rotate_left
 · (first
     | exact absurd rfl hc9
     | (exfalso; omega)
     | (exfalso; grind))
 refine G_val rfl rfl rfl rfl (V_move rfl rfl) ?_
 refine G_val rfl rfl rfl rfl (V_fieldAddr (fo := 1) rfl Try.underlying73 rfl infSealL_22 rfl rfl rfl) ?_
 refine G_val rfl rfl rfl rfl (V_load1 rfl rfl (mem_at 2 rfl) rfl Try.underlying22 rfl) ?_
 refine G_val rfl rfl rfl rfl (V_eql rfl rfl rfl) ?_
 refine G_val rfl rfl rfl rfl (V_pickT rfl rfl rfl) ?_
 refine G_val rfl rfl rfl rfl (V_move rfl rfl) ?_
 refine G_splitD 111 rfl (fun hc10 => ?_) (fun hc10 => ?_)
 rotate_left
 · (first
     | exact absurd rfl hc10
     | (exfalso; omega)
     | (exfalso; grind))
 refine G_val rfl rfl rfl rfl (V_move rfl rfl) ?_
 first
   | refine G_val rfl rfl rfl rfl (V_loadW (s := 50) rfl rfl (mem_at 2 rfl) Try.underlying73 rfl infSealL_73 rfl (by first | rfl | (simp [bcells_length]; done) | (simp [bcells_length]; omega) | (simp [bcells_length, *]; done))) ?_
   | refine G_val rfl rfl rfl rfl (V_loadA (s := 50) rfl rfl (mem_at 2 rfl) Try.underlying73 rfl infSealL_73 rfl rfl (by first | rfl | (simp [bcells_length]; done) | (simp [bcells_length]; omega) | (simp [bcells_length, *]; done))) ?_
 refine G_call (L2 := [_, _, _]) rfl rfl rfl rfl rfl rfl Try.call43 (seal_text _ _ _ (by assumption)) [] [] rfl rfl ?_
 rintro v post ⟨rfl, rfl⟩
 show G _ _ _ [_, _, _] _
 refine G_val rfl rfl rfl rfl (V_seql rfl rfl rfl) ?_
 refine G_val rfl rfl rfl rfl (V_pickT rfl rfl rfl) ?_
 refine G_val rfl rfl rfl rfl (V_move rfl rfl) ?_
 refine G_splitD 117 rfl (fun hc11 => ?_) (fun hc11 => ?_)
 rotate_left
 · (first
     | exact absurd rfl hc11
     | (exfalso; omega)
     | (exfalso; grind))
 refine G_off rfl rfl rfl rfl ?_
 refine G_off rfl rfl rfl rfl ?_
 refine G_off rfl rfl rfl rfl ?_
 refine G_off rfl rfl rfl rfl ?_
 refine G_off rfl rfl rfl rfl ?_
 refine G_off rfl rfl rfl rfl ?_
 refine G_off rfl rfl rfl rfl ?_
 refine G_off rfl rfl rfl rfl ?_
 refine G_off rfl rfl rfl rfl ?_
 refine G_off rfl rfl rfl rfl ?_
 refine G_off rfl rfl rfl rfl ?_
 refine G_off rfl rfl rfl rfl ?_
 refine G_off rfl rfl rfl rfl ?_
 refine G_off rfl rfl rfl rfl ?_
 refine G_off rfl rfl rfl rfl ?_
 refine G_off rfl rfl rfl rfl ?_
 refine G_off rfl rfl rfl rfl ?_
 refine G_off rfl rfl rfl rfl ?_
 refine G_off rfl rfl rfl rfl ?_
 refine G_off rfl rfl rfl rfl ?_
 refine G_off rfl rfl rfl rfl ?_
 refine G_val rfl rfl rfl rfl (V_pickT rfl rfl rfl) ?_
 refine G_val rfl rfl rfl rfl (V_move rfl rfl) ?_
 refine G_call (L2 := [_, _, _]) rfl rfl rfl rfl rfl rfl Try.call42 (seal_live) [] [] rfl rfl ?_
 rintro v post ⟨rfl, rfl⟩
 show G _ _ _ [_, _, _] _
 refine G_val rfl rfl rfl rfl (V_pickT rfl rfl rfl) ?_
 refine G_val rfl rfl rfl rfl (V_assign rfl rfl) ?_
 refine G_done ?_
 refine G_ret (post := []) Try.func10 rfl (RVs_cons (RV_tmp rfl) RVs_nil) [] rfl ?_
 dsimp only [packed]
 refine ⟨?_, rfl⟩; first | rfl | skip


set_option maxRecDepth 100000 in
theorem sealed_types : Try.prog.cellTypes Try.prog.depth 73 = some (22 :: 22 :: List.replicate 48 5) := by kernel_rfl
set_option maxRecDepth 100000 in
theorem sealed_of {W : World} {b : Nat} {v : Value} (h : Value.okWide Try.prog W .any b 73 v) : ∃ (e i : Nat) (d : List UInt8), v = .agg (sealedC e i d).toArray ∧ e < 4294967296 ∧ i < 4294967296 ∧ d.length = 48 := by
  obtain ⟨cs, rfl, hl, hc⟩ := okv_agg (s := 50) h Try.underlying73 rfl sealed_types (by kernel_rfl) (by simp)
  match cs, hl, hc with
  | a :: b :: rest, hl, hc =>
    obtain ⟨x, rfl, x1, x2⟩ := okc_int (hc 0 a 22 rfl rfl) Try.underlying22
    obtain ⟨y, rfl, y1, y2⟩ := okc_int (hc 1 b 22 rfl rfl) Try.underlying22
    have hr : rest.length = 48 := by simpa using hl
    obtain ⟨d, rfl⟩ := bytes_of rest (fun v hv => by
      obtain ⟨j, hj, rfl⟩ := List.getElem_of_mem hv
      exact okc_int (hc (j + 2) _ 5 (by simp [hj]) (show (List.replicate 48 5)[j]? = some 5 from by rw [List.getElem?_replicate, if_pos (by omega)])) Try.underlying5)
    have x1 : 0 ≤ x := x1
    have x2 : x ≤ 4294967295 := x2
    have y1 : 0 ≤ y := y1
    have y2 : y ≤ 4294967295 := y2
    refine ⟨x.toNat, y.toNat, d, ?_, by omega, by omega, by rw [bcells_length] at hr; exact hr⟩
    simp only [sealedC]
    rw [Int.toNat_of_nonneg x1, Int.toNat_of_nonneg y1]
set_option maxRecDepth 100000 in
theorem sealCodes_walk : LawWalk 9 Try.f9 := lawwalk_of (fun W base args hs hval => by
  rw [Try.params9] at hs hval
  obtain ⟨l⟩ := args
  match l, hs with
  | [a, b, c], _ =>
    obtain ⟨e, i, d, rfl, he, hi, hd⟩ := sealed_of (hval 0 73 a rfl rfl)
    obtain ⟨less, rfl, h1, h2⟩ := okc_int (okv_cell (hval 1 3 b rfl rfl) Try.underlying3 rfl) Try.underlying3
    obtain ⟨s, rfl, hs⟩ := okc_str (okv_cell (hval 2 9 c rfl rfl) Try.underlying9 rfl) Try.underlying9
    exact ⟨[], ⟨.nil, fun _ _ h => by cases h⟩, sealCodes_all e i d less s he hi hd h1 h2 hs⟩)
set_option maxRecDepth 100000 in
theorem sealTorn_walk : LawWalk 10 Try.f10 := lawwalk_of (fun W base args hs hval => by
  rw [Try.params10] at hs hval
  obtain ⟨l⟩ := args
  match l, hs with
  | [a, b, c], _ =>
    obtain ⟨e, i, d, rfl, he, hi, hd⟩ := sealed_of (hval 0 73 a rfl rfl)
    obtain ⟨e2, i2, d2, rfl, he2, hi2, hd2⟩ := sealed_of (hval 1 73 b rfl rfl)
    obtain ⟨cut, rfl, h1, h2⟩ := okc_int (okv_cell (hval 2 3 c rfl rfl) Try.underlying3 rfl) Try.underlying3
    exact ⟨[], ⟨.nil, fun _ _ h => by cases h⟩, sealTorn_all e i e2 i2 d d2 cut he hi hd he2 hi2 hd2 h1 h2⟩)

end
end Go.Proofs.Ytgnbgjllogjecaa
