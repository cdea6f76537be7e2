/- The walks of layer 25: records as pieces, the program and the reference. -/
import Derived.Test.YtbblkgdejgoncaaDoorFrameQ
import Derived.Test.YtbblkgdejgoncaaDoorSumW
import Derived.Test.YtbblkgdejgoncaaDoorG13
import Derived.Test.YtbblkgdejgoncaaDoorBld
set_option linter.unusedSimpArgs false
set_option linter.unusedVariables false
namespace Go.Proofs.YtbblkgdejgoncaaDoor
open Go Go.RowKit

section
theorem infFrameW_5 : Tryd.prog.info? 5 = some Tryd.t5 := by kernel_rfl
theorem infFrameW_9 : Tryd.prog.info? 9 = some Tryd.t9 := by kernel_rfl


theorem ct_fixedN (v n : Nat) (h1 : 1 ≤ n) (h8 : n ≤ 8) (h : v < 256 ^ n) (h64 : v < 18446744073709551616) : Ct Tryd.prog 82 [.int .u64 (v : Int), .int .i64 (n : Int)] [] [] (fun v' post => v' = .tuple #[.string (bs (be n v)), .int .i64 0] ∧ post = []) :=
  ct_fixed (v : Int) n h1 h8 (by omega) (by omega) (by omega)
theorem ct_rfixedN (v n : Nat) (h1 : 1 ≤ n) (h8 : n ≤ 8) (h : v < 256 ^ n) (h64 : v < 18446744073709551616) : Ct Tryd.prog 83 [.int .u64 (v : Int), .int .i64 (n : Int)] [] [] (fun v' post => v' = .tuple #[.string (bs (be n v)), .int .i64 0] ∧ post = []) :=
  ct_rfixed (v : Int) n h1 h8 (by omega) (by omega) (by omega)
theorem fit2 {v : Nat} (h : v < 65536) : v < 256 ^ 2 := h
theorem fit4 {v : Nat} (h : v < 4294967296) : v < 256 ^ 4 := h
theorem mulM (m : Nat) (h : m ≤ 100000) : IntKind.i64.wrap ((m : Int) * 48) = ((m * 48 : Nat) : Int) := by rw [wrap_i64 (by omega)]; omega
theorem mul48 (i : Nat) (h : i ≤ 100000) : IntKind.i64.wrap ((48 : Int) * (i : Int)) = ((48 * i : Nat) : Int) := by rw [wrap_i64 (by omega)]; omega
theorem add48 (i : Nat) (h : i ≤ 10000000) : IntKind.i64.wrap ((i : Int) + 48) = ((i + 48 : Nat) : Int) := by rw [wrap_i64 (by omega)]; omega
theorem add6 (i : Nat) (h : i ≤ 10000000) : IntKind.i64.wrap ((6 : Int) + (i : Int)) = ((6 + i : Nat) : Int) := by rw [wrap_i64 (by omega)]; omega
theorem laid_pad (s : List UInt8) : laid (List.replicate (manyN s.length * 48) (Value.int .u8 0)).toArray 0 (bcells ((bytesF s).take (manyN s.length * 48))) = (bcells (padF s)).toArray := by
  have h := manyN_room s.length
  have hb := bytesF_len s
  rw [List.take_of_length_le (by omega)]
  unfold laid padF
  rw [List.take_zero, List.nil_append, bcells_append, bcells_length, bcells_zero, bcells_drop, List.drop_replicate, hb]
  congr 4
  omega
theorem piece_cells (s : List UInt8) {i : Nat} (h : i < manyN s.length) : ((bcells (padF s)).toArray.toList.drop (if 48 * i + 48 = 48 * i then 0 else 0 + 48 * i * 1)).take (48 * i + 48 - 48 * i) = bcells (((padF s).drop (48 * i)).take 48) := by
  rw [if_neg (by omega), Nat.zero_add, Nat.mul_one, show 48 * i + 48 - 48 * i = 48 by omega, bcells_drop, bcells_take]
theorem piece_len (s : List UInt8) {i : Nat} (h : i < manyN s.length) : (((padF s).drop (48 * i)).take 48).length = 48 * i + 48 - 48 * i := by
  have := padF_len s
  rw [List.length_take, List.length_drop]; omega
theorem piece_cut (t : List UInt8) (i : Nat) : (t.take (48 * i + 48)).drop (48 * i) = (t.drop (48 * i)).take 48 := by
  rw [List.drop_take, show 48 * i + 48 - 48 * i = 48 by omega]
theorem pad_next (s : List UInt8) (k : Nat) : bytesF s ++ List.replicate k 0 ++ [0] = bytesF s ++ List.replicate (k + 1) 0 := by
  rw [List.append_assoc]; congr 1; exact (List.replicate_succ' ..).symm

set_option maxRecDepth 100000 in
set_option maxHeartbeats 1000000 in
theorem fr_manyZ (z : Int) (h0 : -9223372036854775808 ≤ z) (h1 : z ≤ 9223372036854775000) :
    Ct Tryd.prog 55 [.int .i64 z] [] [] fun v post => v = .int .i64 ((manyN z.toNat : Nat) : Int) ∧ post = [] := by
 refine ct_of Tryd.func55 rfl rfl (fun w0 => ?_)
 show G _ _ [(0, _)] _ _
 refine G_seq ?_
 refine G_region (l := [0]) rfl ?_
 refine G_val rfl rfl rfl rfl (V_assign rfl rfl) ?_
 refine G_done ?_
 refine G_seq ?_
 refine G_region (l := [0, 1, 2, 3, 4, 5, 6]) rfl ?_
 refine G_val rfl rfl rfl rfl (V_move rfl rfl) ?_
 refine G_val rfl rfl rfl rfl (V_max rfl rfl rfl) ?_
 first
   | refine G_val rfl rfl rfl rfl ((V_add rfl rfl rfl).int (wrap_i64 (by omega))) ?_
   | refine G_val rfl rfl rfl rfl (V_add rfl rfl rfl) ?_
 first
   | refine G_val rfl rfl rfl rfl ((V_add rfl rfl rfl).int (wrap_i64 (by omega))) ?_
   | refine G_val rfl rfl rfl rfl (V_add rfl rfl rfl) ?_
 first
   | refine G_val rfl rfl rfl rfl ((V_sub rfl rfl rfl).int (wrap_i64 (by omega))) ?_
   | refine G_val rfl rfl rfl rfl (V_sub rfl rfl rfl) ?_
 refine G_val rfl rfl rfl rfl (V_quo rfl rfl rfl (by omega) (by omega) (wrap_i64 (by omega))) ?_
 refine G_val rfl rfl rfl rfl (V_assign rfl rfl) ?_
 refine G_done ?_
 refine G_ret (post := []) Tryd.func55 rfl (RVs_cons (RV_tmp rfl) RVs_nil) [] rfl ?_
 dsimp only [packed]
 exact ⟨by rw [show ((manyN z.toNat : Nat) : Int) = (max z 0 + 6 + 48 - 1) / 48 by unfold manyN; omega], rfl⟩


theorem fr_many (n : Nat) (h : n ≤ 9223372036854775000) : Ct Tryd.prog 55 [.int .i64 (n : Int)] [] [] (fun v post => v = .int .i64 ((manyN n : Nat) : Int) ∧ post = []) := fr_manyZ (n : Int) (by omega) (by omega)

set_option maxRecDepth 100000 in
set_option maxHeartbeats 1000000 in
theorem rfr_many (n : Nat) (h : n ≤ 9223372036854775000) :
    Ct Tryd.prog 39 [.int .i64 (n : Int)] [] [] fun v post => v = .int .i64 ((manyN n : Nat) : Int) ∧ post = [] := by
 refine ct_of Tryd.func39 rfl rfl (fun w0 => ?_)
 show G _ _ [(0, _)] _ _
 refine G_seq ?_
 refine G_region (l := [0]) rfl ?_
 refine G_val rfl rfl rfl rfl (V_assign rfl rfl) ?_
 refine G_done ?_
 refine G_seq ?_
 refine G_region (l := [0]) rfl ?_
 refine G_val rfl rfl rfl rfl (V_assign rfl rfl) ?_
 refine G_done ?_
 refine G_seq ?_
 refine G_block ?_
 refine G_sub ?he2 [] ?hl2 (G_loop (X := Nat) (fun k => 1 ≤ k ∧ 48 * k < n + 54) (fun k => n + 54 - 48 * k) (fun k => [(0, .int .i64 (n : Int)), (3, .int .i64 (k : Int))]) (fun k => []) ?round2 1 ?h02)
 case he2 => exact (And.intro rfl (And.intro rfl trivial))
 case hl2 => exact ⟨_, rfl⟩
 case h02 => omega
 case round2 =>
  intro k hJ ih
  try dsimp only at hJ ih
  refine G_seq ?_
  refine G_seq ?_
  refine G_region (l := [0, 1, 2, 3, 4]) rfl ?_
  refine G_val rfl rfl rfl rfl (V_move rfl rfl) ?_
  first
    | refine G_val rfl rfl rfl rfl ((V_mul rfl rfl rfl).int (wrap_i64 (by omega))) ?_
    | refine G_val rfl rfl rfl rfl (V_mul rfl rfl rfl) ?_
  refine G_val rfl rfl rfl rfl (V_move rfl rfl) ?_
  first
    | refine G_val rfl rfl rfl rfl ((V_add rfl rfl rfl).int (wrap_i64 (by omega))) ?_
    | refine G_val rfl rfl rfl rfl (V_add rfl rfl rfl) ?_
  refine G_val rfl rfl rfl rfl (V_lss rfl rfl rfl) ?_
  refine G_done ?_
  refine G_ifD rfl (fun hc1 => ?_) (fun hc1 => ?_)
  · skip
    refine G_skip ?_
    refine G_block ?_
    refine G_region (l := [0, 1, 2]) rfl ?_
    refine G_val rfl rfl rfl rfl (V_move rfl rfl) ?_
    first
      | refine G_val rfl rfl rfl rfl ((V_add rfl rfl rfl).int (wrap_i64 (by omega))) ?_
      | refine G_val rfl rfl rfl rfl (V_add rfl rfl rfl) ?_
    refine G_val rfl rfl rfl rfl (V_assign rfl rfl) ?_
    refine G_done ?_
    refine G_inBlock ?_
    refine G_sub ?_ [] ?_ (ih (k + 1) ?_ ?_)
    · (refine (And.intro ?_ (And.intro ?_ trivial)) <;> first | rfl | exact slot_int (by omega) | exact slot_int (by simp))
    · exact ⟨_, rfl⟩
    · omega
    · omega
  refine G_exit rfl ?_
  refine G_seq ?_
  refine G_region (l := [0, 1]) rfl ?_
  refine G_val rfl rfl rfl rfl (V_move rfl rfl) ?_
  refine G_val rfl rfl rfl rfl (V_assign rfl rfl) ?_
  refine G_done ?_
  refine G_ret (post := []) Tryd.func39 rfl (RVs_cons (RV_tmp rfl) RVs_nil) [] rfl ?_
  dsimp only [packed]
  exact ⟨by rw [show manyN n = k by unfold manyN; omega], rfl⟩

set_option maxRecDepth 100000 in
set_option maxHeartbeats 1000000 in
theorem fr_size (p : List UInt8) (h : p.length ≤ 9223372036854775807) :
    Ct Tryd.prog 56 [.string (bs p)] [] [] fun v post => v = .tuple #[.int .i64 (sizeF p : Int), .int .i64 (sizeFE p)] ∧ post = [] := by
 have hn := num_lt (p.take 2)
 have hn2 : 256 ^ (p.take 2).length ≤ 256 ^ 2 := Nat.pow_le_pow_right (by omega) (by simp; omega)
 refine ct_of Tryd.func56 rfl rfl (fun w0 => ?_)
 show G _ _ [(0, _)] _ _
 refine G_seq ?_
 refine G_region (l := [0, 1]) rfl ?_
 refine G_val rfl rfl rfl rfl (V_assign rfl rfl) ?_
 refine G_val rfl rfl rfl rfl (V_assign rfl rfl) ?_
 refine G_done ?_
 refine G_seq ?_
 refine G_seq ?_
 refine G_region (l := [0, 1, 2]) rfl ?_
 refine G_val rfl rfl rfl rfl (V_move rfl rfl) ?_
 refine G_val rfl rfl rfl rfl (V_slen rfl rfl Tryd.underlying9 rfl) ?_
 refine G_val rfl rfl rfl rfl (V_neq rfl rfl rfl) ?_
 refine G_done ?_
 refine G_ifD rfl (fun hc1 => ?_) (fun hc1 => ?_)
 · skip
   refine G_seq ?_
   refine G_region (l := [0, 1]) rfl ?_
   refine G_val rfl rfl rfl rfl (V_assign rfl rfl) ?_
   refine G_val rfl rfl rfl rfl (V_assign rfl rfl) ?_
   refine G_done ?_
   refine G_ret (post := []) Tryd.func56 rfl (RVs_cons (RV_tmp rfl) (RVs_cons (RV_tmp rfl) RVs_nil)) [] rfl ?_
   dsimp only [packed]
   first
     | (obtain ⟨e1, e2⟩ := sizeF_short (p := p) (by omega); rw [e1, e2]; exact ⟨rfl, rfl⟩)
     | (obtain ⟨e1, e2⟩ := sizeF_long (p := p) (by omega) (by omega); rw [e1, e2]; exact ⟨rfl, rfl⟩)
     | (obtain ⟨e1, e2⟩ := sizeF_ok (p := p) (by omega) (by omega); rw [e1, e2]; exact ⟨rfl, rfl⟩)
 refine G_skip ?_
 refine G_seq ?_
 refine G_region (l := [0, 1, 2, 3, 4, 5, 6, 7]) rfl ?_
 refine G_val rfl rfl rfl rfl (V_move rfl rfl) ?_
 first
   | refine G_val rfl rfl rfl rfl (V_ssliceHN (hi := 2) rfl Tryd.underlying9 rfl rfl rfl (by first | omega | (simp; done) | (simp; omega) | (simp at *; omega))) ?_
   | refine G_val rfl rfl rfl rfl (V_ssliceH rfl Tryd.underlying9 rfl rfl (by first | omega | (simp; done) | (simp; omega) | (simp at *; omega)) (by first | omega | (simp; done) | (simp; omega) | (simp at *; omega))) ?_
 refine G_call (L2 := []) rfl rfl rfl rfl rfl rfl Tryd.call58 (ct_number _ (by simp; omega) (by simp; omega)) [] [] rfl rfl ?_
 rintro v post ⟨rfl, rfl⟩
 refine G_val rfl rfl rfl rfl (V_move rfl rfl) ?_
 refine G_val rfl rfl rfl rfl (V_extract rfl rfl rfl) ?_
 refine G_val rfl rfl rfl rfl (V_extract rfl rfl rfl) ?_
 refine G_val rfl rfl rfl rfl (V_assign rfl rfl) ?_
 refine G_val rfl rfl rfl rfl (V_assign rfl rfl) ?_
 refine G_done ?_
 refine G_seq ?_
 refine G_seq ?_
 refine G_region (l := [0, 1]) rfl ?_
 refine G_val rfl rfl rfl rfl (V_move rfl rfl) ?_
 refine G_val rfl rfl rfl rfl (V_gtr rfl rfl rfl) ?_
 refine G_done ?_
 refine G_ifD rfl (fun hc2 => ?_) (fun hc2 => ?_)
 · skip
   refine G_seq ?_
   refine G_region (l := [0, 1]) rfl ?_
   refine G_val rfl rfl rfl rfl (V_assign rfl rfl) ?_
   refine G_val rfl rfl rfl rfl (V_assign rfl rfl) ?_
   refine G_done ?_
   refine G_ret (post := []) Tryd.func56 rfl (RVs_cons (RV_tmp rfl) (RVs_cons (RV_tmp rfl) RVs_nil)) [] rfl ?_
   dsimp only [packed]
   first
     | (obtain ⟨e1, e2⟩ := sizeF_short (p := p) (by omega); rw [e1, e2]; exact ⟨rfl, rfl⟩)
     | (obtain ⟨e1, e2⟩ := sizeF_long (p := p) (by omega) (by omega); rw [e1, e2]; exact ⟨rfl, rfl⟩)
     | (obtain ⟨e1, e2⟩ := sizeF_ok (p := p) (by omega) (by omega); rw [e1, e2]; exact ⟨rfl, rfl⟩)
 refine G_skip ?_
 refine G_seq ?_
 refine G_region (l := [0, 1, 2, 3]) rfl ?_
 refine G_val rfl rfl rfl rfl (V_move rfl rfl) ?_
 first
   | refine G_val rfl rfl rfl rfl ((V_conv rfl rfl Tryd.underlying103 Tryd.underlying3).int (wrap_i64 (by omega))) ?_
   | refine G_val rfl rfl rfl rfl (V_conv rfl rfl Tryd.underlying103 Tryd.underlying3) ?_
 refine G_val rfl rfl rfl rfl (V_assign rfl rfl) ?_
 refine G_val rfl rfl rfl rfl (V_assign rfl rfl) ?_
 refine G_done ?_
 refine G_ret (post := []) Tryd.func56 rfl (RVs_cons (RV_tmp rfl) (RVs_cons (RV_tmp rfl) RVs_nil)) [] rfl ?_
 dsimp only [packed]
 first
   | (obtain ⟨e1, e2⟩ := sizeF_short (p := p) (by omega); rw [e1, e2]; exact ⟨rfl, rfl⟩)
   | (obtain ⟨e1, e2⟩ := sizeF_long (p := p) (by omega) (by omega); rw [e1, e2]; exact ⟨rfl, rfl⟩)
   | (obtain ⟨e1, e2⟩ := sizeF_ok (p := p) (by omega) (by omega); rw [e1, e2]; exact ⟨rfl, rfl⟩)


theorem num_two (p : List UInt8) (h : p.length = 48) : num (p.take 2) = 256 * (p.getD 0 0).toNat + (p.getD 1 0).toNat := by
  match p, h with
  | a :: b :: r, _ => simp [num]; omega

set_option maxRecDepth 100000 in
set_option maxHeartbeats 1000000 in
theorem rfr_size (p : List UInt8) (h : p.length ≤ 9223372036854775807) :
    Ct Tryd.prog 80 [.string (bs p)] [] [] fun v post => v = .tuple #[.int .i64 (sizeF p : Int), .int .i64 (sizeFE p)] ∧ post = [] := by
 refine ct_of Tryd.func80 rfl rfl (fun w0 => ?_)
 show G _ _ [(0, _)] _ _
 refine G_seq ?_
 refine G_region (l := [0, 1]) rfl ?_
 refine G_val rfl rfl rfl rfl (V_assign rfl rfl) ?_
 refine G_val rfl rfl rfl rfl (V_assign rfl rfl) ?_
 refine G_done ?_
 refine G_seq ?_
 refine G_seq ?_
 refine G_region (l := [0, 1, 2]) rfl ?_
 refine G_val rfl rfl rfl rfl (V_move rfl rfl) ?_
 refine G_val rfl rfl rfl rfl (V_slen rfl rfl Tryd.underlying9 rfl) ?_
 refine G_val rfl rfl rfl rfl (V_neq rfl rfl rfl) ?_
 refine G_done ?_
 refine G_ifD rfl (fun hc1 => ?_) (fun hc1 => ?_)
 · skip
   refine G_seq ?_
   refine G_region (l := [0, 1]) rfl ?_
   refine G_val rfl rfl rfl rfl (V_assign rfl rfl) ?_
   refine G_val rfl rfl rfl rfl (V_assign rfl rfl) ?_
   refine G_done ?_
   refine G_ret (post := []) Tryd.func80 rfl (RVs_cons (RV_tmp rfl) (RVs_cons (RV_tmp rfl) RVs_nil)) [] rfl ?_
   dsimp only [packed]
   first
     | (obtain ⟨e1, e2⟩ := sizeF_short (p := p) (by omega); rw [e1, e2]; exact ⟨rfl, rfl⟩)
     | (obtain ⟨e1, e2⟩ := sizeF_long (p := p) (by omega) (by omega); rw [e1, e2]; exact ⟨rfl, rfl⟩)
     | (obtain ⟨e1, e2⟩ := sizeF_ok (p := p) (by omega) (by omega); rw [e1, e2]; exact ⟨rfl, rfl⟩)
 refine G_skip ?_
 refine G_seq ?_
 have h48 : p.length = 48 := by omega
 have hn : num (p.take 2) = 256 * (p.getD (Int.toNat 0) 0).toNat + (p.getD (Int.toNat 1) 0).toNat := num_two p h48
 have g1 := (p.getD (Int.toNat 0) 0).toNat_lt
 have g2 := (p.getD (Int.toNat 1) 0).toNat_lt
 refine G_draw mixedK (by kernel_rfl) ?_
 refine GQ_val rfl rfl rfl rfl (V_move rfl rfl) ?_
 first
   | refine GQ_val rfl rfl rfl rfl (V_sindexN rfl Tryd.underlying9 rfl rfl rfl (by omega)) ?_
   | refine GQ_val rfl rfl rfl rfl (V_sindexD rfl Tryd.underlying9 rfl rfl (by omega) (by first | omega | (simp; done) | (simp; omega) | (simp at *; omega))) ?_
 first
   | refine GQ_val rfl rfl rfl rfl ((V_conv rfl rfl Tryd.underlying5 Tryd.underlying3).int (wrap_i64 (by omega))) ?_
   | refine GQ_val rfl rfl rfl rfl (V_conv rfl rfl Tryd.underlying5 Tryd.underlying3) ?_
 first
   | refine GQ_val rfl rfl rfl rfl ((V_mul rfl rfl rfl).int (wrap_i64 (by omega))) ?_
   | refine GQ_val rfl rfl rfl rfl (V_mul rfl rfl rfl) ?_
 refine GQ_val rfl rfl rfl rfl (V_move rfl rfl) ?_
 first
   | refine GQ_val rfl rfl rfl rfl (V_sindexN rfl Tryd.underlying9 rfl rfl rfl (by omega)) ?_
   | refine GQ_val rfl rfl rfl rfl (V_sindexD rfl Tryd.underlying9 rfl rfl (by omega) (by first | omega | (simp; done) | (simp; omega) | (simp at *; omega))) ?_
 first
   | refine GQ_val rfl rfl rfl rfl ((V_conv rfl rfl Tryd.underlying5 Tryd.underlying3).int (wrap_i64 (by omega))) ?_
   | refine GQ_val rfl rfl rfl rfl (V_conv rfl rfl Tryd.underlying5 Tryd.underlying3) ?_
 first
   | refine GQ_val rfl rfl rfl rfl ((V_add rfl rfl rfl).int (wrap_i64 (by omega))) ?_
   | refine GQ_val rfl rfl rfl rfl (V_add rfl rfl rfl) ?_
 refine GQ_val rfl rfl rfl rfl (V_assign rfl rfl) ?_
 refine GQ_done rfl ?_
 refine G_seq ?_
 refine G_seq ?_
 rw [show (256 : Int) * ((p.getD (Int.toNat 0) 0).toNat : Int) + ((p.getD (Int.toNat 1) 0).toNat : Int) = ((num (p.take 2) : Nat) : Int) by rw [hn]; omega]
 refine G_region (l := [0, 1]) rfl ?_
 refine G_val rfl rfl rfl rfl (V_move rfl rfl) ?_
 refine G_val rfl rfl rfl rfl (V_gtr rfl rfl rfl) ?_
 refine G_done ?_
 refine G_ifD rfl (fun hc2 => ?_) (fun hc2 => ?_)
 · skip
   refine G_seq ?_
   refine G_region (l := [0, 1]) rfl ?_
   refine G_val rfl rfl rfl rfl (V_assign rfl rfl) ?_
   refine G_val rfl rfl rfl rfl (V_assign rfl rfl) ?_
   refine G_done ?_
   refine G_ret (post := []) Tryd.func80 rfl (RVs_cons (RV_tmp rfl) (RVs_cons (RV_tmp rfl) RVs_nil)) [] rfl ?_
   dsimp only [packed]
   first
     | (obtain ⟨e1, e2⟩ := sizeF_short (p := p) (by omega); rw [e1, e2]; exact ⟨rfl, rfl⟩)
     | (obtain ⟨e1, e2⟩ := sizeF_long (p := p) (by omega) (by omega); rw [e1, e2]; exact ⟨rfl, rfl⟩)
     | (obtain ⟨e1, e2⟩ := sizeF_ok (p := p) (by omega) (by omega); rw [e1, e2]; exact ⟨rfl, rfl⟩)
 refine G_skip ?_
 refine G_seq ?_
 refine G_region (l := [0, 1, 2]) rfl ?_
 refine G_val rfl rfl rfl rfl (V_move rfl rfl) ?_
 refine G_val rfl rfl rfl rfl (V_assign rfl rfl) ?_
 refine G_val rfl rfl rfl rfl (V_assign rfl rfl) ?_
 refine G_done ?_
 refine G_ret (post := []) Tryd.func80 rfl (RVs_cons (RV_tmp rfl) (RVs_cons (RV_tmp rfl) RVs_nil)) [] rfl ?_
 dsimp only [packed]
 first
   | (obtain ⟨e1, e2⟩ := sizeF_short (p := p) (by omega); rw [e1, e2]; exact ⟨rfl, rfl⟩)
   | (obtain ⟨e1, e2⟩ := sizeF_long (p := p) (by omega) (by omega); rw [e1, e2]; exact ⟨rfl, rfl⟩)
   | (obtain ⟨e1, e2⟩ := sizeF_ok (p := p) (by omega) (by omega); rw [e1, e2]; exact ⟨rfl, rfl⟩)

set_option maxRecDepth 100000 in
set_option maxHeartbeats 1000000 in
theorem rfr_bytes (s : List UInt8) (h : s.length ≤ 1000) :
    Ct Tryd.prog 54 [.string (bs s)] [] [] fun v post => v = .string (bs (bytesF s)) ∧ post = [] := by
 have hc := crcN_lt (be 2 s.length ++ s)
 have l2 := be_length 2 s.length
 have l4 := be_length 4 (crcN (be 2 s.length ++ s))
 refine ct_of Tryd.func54 rfl rfl (fun w0 => ?_)
 show G _ _ [(0, _)] _ _
 refine G_seq ?_
 refine G_region (l := [0]) rfl ?_
 refine G_val rfl rfl rfl rfl (V_assign rfl rfl) ?_
 refine G_done ?_
 refine G_seq ?_
 refine G_region (l := [0, 1, 2, 3, 4, 5, 6, 7, 8]) rfl ?_
 refine G_val rfl rfl rfl rfl (V_move rfl rfl) ?_
 refine G_val rfl rfl rfl rfl (V_slen rfl rfl Tryd.underlying9 rfl) ?_
 first
   | refine G_val rfl rfl rfl rfl ((V_conv rfl rfl Tryd.underlying3 Tryd.underlying103).int (wrap_u64 (by omega))) ?_
   | refine G_val rfl rfl rfl rfl (V_conv rfl rfl Tryd.underlying3 Tryd.underlying103) ?_
 refine G_call (L2 := []) rfl rfl rfl rfl rfl rfl Tryd.call83 (ct_rfixedN s.length 2 (by omega) (by omega) (fit2 (by omega)) (by omega)) [] [] rfl rfl ?_
 rintro v post ⟨rfl, rfl⟩
 refine G_val rfl rfl rfl rfl (V_move rfl rfl) ?_
 refine G_val rfl rfl rfl rfl (V_extract rfl rfl rfl) ?_
 refine G_val rfl rfl rfl rfl (V_extract rfl rfl rfl) ?_
 refine G_val rfl rfl rfl rfl (V_assign rfl rfl) ?_
 refine G_val rfl rfl rfl rfl (V_assign rfl rfl) ?_
 refine G_done ?_
 refine G_seq ?_
 refine G_region (l := [0, 1, 2, 3, 4, 5, 6, 7, 8, 9, 10]) rfl ?_
 refine G_val rfl rfl rfl rfl (V_move rfl rfl) ?_
 refine G_val rfl rfl rfl rfl (V_move rfl rfl) ?_
 refine G_val rfl rfl rfl rfl (V_sadd rfl rfl rfl (by first | omega | (simp; done) | (simp; omega) | (simp at *; omega))) ?_
 refine G_call (L2 := []) rfl rfl rfl rfl rfl rfl Tryd.call84 (rsum_of (be 2 s.length ++ s) (by simp; omega)) [] [] rfl rfl ?_
 rintro v post ⟨rfl, rfl⟩
 first
   | refine G_val rfl rfl rfl rfl ((V_conv rfl rfl Tryd.underlying22 Tryd.underlying103).int (wrap_u64 (by omega))) ?_
   | refine G_val rfl rfl rfl rfl (V_conv rfl rfl Tryd.underlying22 Tryd.underlying103) ?_
 refine G_call (L2 := []) rfl rfl rfl rfl rfl rfl Tryd.call83 (ct_rfixedN (crcN (be 2 s.length ++ s)) 4 (by omega) (by omega) (fit4 (by omega)) (by omega)) [] [] rfl rfl ?_
 rintro v post ⟨rfl, rfl⟩
 refine G_val rfl rfl rfl rfl (V_move rfl rfl) ?_
 refine G_val rfl rfl rfl rfl (V_extract rfl rfl rfl) ?_
 refine G_val rfl rfl rfl rfl (V_extract rfl rfl rfl) ?_
 refine G_val rfl rfl rfl rfl (V_assign rfl rfl) ?_
 refine G_val rfl rfl rfl rfl (V_assign rfl rfl) ?_
 refine G_done ?_
 refine G_seq ?_
 refine G_region (l := [0, 1, 2, 3, 4, 5]) rfl ?_
 refine G_val rfl rfl rfl rfl (V_move rfl rfl) ?_
 refine G_val rfl rfl rfl rfl (V_move rfl rfl) ?_
 refine G_val rfl rfl rfl rfl (V_sadd rfl rfl rfl (by first | omega | (simp; done) | (simp; omega) | (simp at *; omega))) ?_
 refine G_val rfl rfl rfl rfl (V_move rfl rfl) ?_
 refine G_val rfl rfl rfl rfl (V_sadd rfl rfl rfl (by first | omega | (simp; done) | (simp; omega) | (simp at *; omega))) ?_
 refine G_val rfl rfl rfl rfl (V_assign rfl rfl) ?_
 refine G_done ?_
 refine G_ret (post := []) Tryd.func54 rfl (RVs_cons (RV_tmp rfl) RVs_nil) [] rfl ?_
 dsimp only [packed]
 exact ⟨rfl, rfl⟩

set_option maxRecDepth 100000 in
set_option maxHeartbeats 1000000 in
theorem fr_encode (s : List UInt8) (h : s.length ≤ 9223372036854775000) :
    Ct Tryd.prog 53 [.string (bs s)] [] [] fun v post => ∃ u : Sl, Own 1 u ((encF s).map strC) (encF s).length ∧ v = .tuple #[u.v (encF s).length, .int .i64 (encFE s)] ∧ post = [(u.ob, .cells u.cs 9 u.fz)] := by
 have hc := crcN_lt (be 2 s.length ++ s)
 have l2 := be_length 2 s.length
 have l4 := be_length 4 (crcN (be 2 s.length ++ s))
 have hm := manyN_room s.length
 have hpl := padF_len s
 refine ct_of Tryd.func53 rfl rfl (fun w0 => ?_)
 show G _ _ [(0, _)] _ _
 refine G_seq ?_
 refine G_region (l := [0, 1]) rfl ?_
 refine G_val rfl rfl rfl rfl (V_assign rfl rfl) ?_
 refine G_val rfl rfl rfl rfl (V_assign rfl rfl) ?_
 refine G_done ?_
 refine G_seq ?_
 refine G_seq ?_
 refine G_addNone (.cells #[] 9 (0, 0)) ?_
 refine G_region (l := [0, 1, 2]) rfl ?_
 refine G_val rfl rfl rfl rfl (V_move rfl rfl) ?_
 refine G_val rfl rfl rfl rfl (V_slen rfl rfl Tryd.underlying9 rfl) ?_
 refine G_val rfl rfl rfl rfl (V_gtr rfl rfl rfl) ?_
 refine G_done ?_
 refine G_ifD rfl (fun hc1 => ?_) (fun hc1 => ?_)
 · skip
   refine G_seq ?_
   refine G_region (l := [0, 1]) rfl ?_
   refine G_val rfl rfl rfl rfl (V_assign rfl rfl) ?_
   refine G_val rfl rfl rfl rfl (V_assign rfl rfl) ?_
   refine G_done ?_
   refine G_ret (post := [_]) Tryd.func53 rfl (RVs_cons (RV_tmp rfl) (RVs_cons (RV_tmp rfl) RVs_nil)) [0] rfl ?_
   dsimp only [packed]
   first
     | (obtain ⟨e1, e2⟩ := encF_no (s := s) (by omega); rw [e1, e2]; exact ⟨slNil, own_nil 1, rfl, rfl⟩)
     | (obtain ⟨e1, e2⟩ := encF_yes (s := s) (by omega); obtain rfl : i = manyN s.length := (by omega); rw [e1, e2, piecesF_len]; exact ⟨u, hux, rfl, rfl⟩)
 refine G_skip ?_
 refine G_seq ?_
 refine G_region (l := [0, 1, 2, 3, 4, 5, 6, 7, 8]) rfl ?_
 refine G_val rfl rfl rfl rfl (V_move rfl rfl) ?_
 refine G_val rfl rfl rfl rfl (V_slen rfl rfl Tryd.underlying9 rfl) ?_
 first
   | refine G_val rfl rfl rfl rfl ((V_conv rfl rfl Tryd.underlying3 Tryd.underlying103).int (wrap_u64 (by omega))) ?_
   | refine G_val rfl rfl rfl rfl (V_conv rfl rfl Tryd.underlying3 Tryd.underlying103) ?_
 refine G_call (L2 := [_]) rfl rfl rfl rfl rfl rfl Tryd.call82 (ct_fixedN s.length 2 (by omega) (by omega) (fit2 (by omega)) (by omega)) [] [] rfl rfl ?_
 rintro v post ⟨rfl, rfl⟩
 show G _ _ _ [_] _
 refine G_val rfl rfl rfl rfl (V_move rfl rfl) ?_
 refine G_val rfl rfl rfl rfl (V_extract rfl rfl rfl) ?_
 refine G_val rfl rfl rfl rfl (V_extract rfl rfl rfl) ?_
 refine G_val rfl rfl rfl rfl (V_assign rfl rfl) ?_
 refine G_val rfl rfl rfl rfl (V_assign rfl rfl) ?_
 refine G_done ?_
 refine G_seq ?_
 refine G_region (l := [0, 1, 2, 3, 4, 5, 6, 7, 8, 9, 10]) rfl ?_
 refine G_val rfl rfl rfl rfl (V_move rfl rfl) ?_
 refine G_val rfl rfl rfl rfl (V_move rfl rfl) ?_
 refine G_new rfl rfl rfl rfl (N_buildAll (s := 1) (cs := [_, _]) rfl Tryd.underlying24 infFrameW_9 rfl rfl rfl rfl rfl rfl rfl rfl rfl) (fun b24 => ?_)
 refine G_call (L2 := [_, _]) rfl rfl rfl rfl rfl rfl Tryd.call59 (sum_of (some b24) 0 2 _ _ _ [be 2 s.length, s] (sees_strs b24 2 [be 2 s.length, s] rfl (by omega)) (by intro x hx; simp only [List.mem_cons, List.not_mem_nil, or_false] at hx; rcases hx with rfl | rfl <;> omega)) [] [0] rfl rfl ?_
 rintro v post ⟨rfl, rfl⟩
 show G _ _ _ [_, _] _
 rw [crcW_two]
 first
   | refine G_val rfl rfl rfl rfl ((V_conv rfl rfl Tryd.underlying22 Tryd.underlying103).int (wrap_u64 (by omega))) ?_
   | refine G_val rfl rfl rfl rfl (V_conv rfl rfl Tryd.underlying22 Tryd.underlying103) ?_
 refine G_call (L2 := [_, _]) rfl rfl rfl rfl rfl rfl Tryd.call82 (ct_fixedN (crcN (be 2 s.length ++ s)) 4 (by omega) (by omega) (fit4 (by omega)) (by omega)) [] [] rfl rfl ?_
 rintro v post ⟨rfl, rfl⟩
 show G _ _ _ [_, _] _
 refine G_val rfl rfl rfl rfl (V_move rfl rfl) ?_
 refine G_val rfl rfl rfl rfl (V_extract rfl rfl rfl) ?_
 refine G_val rfl rfl rfl rfl (V_extract rfl rfl rfl) ?_
 refine G_val rfl rfl rfl rfl (V_assign rfl rfl) ?_
 refine G_val rfl rfl rfl rfl (V_assign rfl rfl) ?_
 refine G_done ?_
 refine G_seq ?_
 refine G_region (l := [0, 1, 2, 3, 4, 5]) rfl ?_
 refine G_val rfl rfl rfl rfl (V_move rfl rfl) ?_
 refine G_val rfl rfl rfl rfl (V_slen rfl rfl Tryd.underlying9 rfl) ?_
 refine G_call (L2 := [_, _]) rfl rfl rfl rfl rfl rfl Tryd.call55 (fr_many _ (by omega)) [] [] rfl rfl ?_
 rintro v post ⟨rfl, rfl⟩
 show G _ _ _ [_, _] _
 refine G_val rfl rfl rfl rfl (Val.int (e' := ((manyN s.length * 48 : Nat) : Int)) (V_mul rfl rfl rfl) (mulM _ (by omega))) ?_
 refine G_new rfl rfl rfl rfl (N_make (l := _) (m := _) rfl Tryd.underlying27 infFrameW_5 rfl rfl rfl rfl rfl rfl rfl (by first | decide | omega) (by first | decide | omega | (show 1 * _ ≤ _; omega)) (by first | decide | omega)) (fun b34 => ?_)
 refine G_val rfl rfl rfl rfl (V_assign rfl rfl) ?_
 refine G_done ?_
 refine G_seq ?_
 refine G_region (l := [0, 1, 2, 3, 4, 5, 6]) rfl ?_
 refine G_val rfl rfl rfl rfl (V_move rfl rfl) ?_
 refine G_val rfl rfl rfl rfl (V_move rfl rfl) ?_
 refine G_val rfl rfl rfl rfl (V_move rfl rfl) ?_
 refine G_val rfl rfl rfl rfl (V_sadd rfl rfl rfl (by first | omega | (simp; done) | (simp; omega) | (simp at *; omega))) ?_
 refine G_val rfl rfl rfl rfl (V_move rfl rfl) ?_
 refine G_val rfl rfl rfl rfl (V_sadd rfl rfl rfl (by first | omega | (simp; done) | (simp; omega) | (simp at *; omega))) ?_
 refine G_putV (l1 := []) (L' := [_, _, _]) rfl rfl rfl rfl rfl (P_copyS rfl rfl Tryd.underlying27 infFrameW_5 rfl rfl rfl (mem_at 0 rfl) (by first | omega | (simp; done) | (simp; omega) | (simp at *; omega))) rfl ?_
 rw [show be 2 s.length ++ be 4 (crcN (be 2 s.length ++ s)) ++ s = bytesF s from rfl, laid_pad]
 refine G_done ?_
 refine G_seq ?_
 refine G_region (l := [0]) rfl ?_
 refine G_val rfl rfl rfl rfl (V_assign rfl rfl) ?_
 refine G_done ?_
 refine G_seq ?_
 refine G_seq ?_
 refine G_region (l := [0]) rfl ?_
 refine G_val rfl rfl rfl rfl (V_assign rfl rfl) ?_
 refine G_done ?_
 refine G_block ?_
 refine G_sub ?he9 [2, 0] ?hl9 (G_loop (X := Nat × Sl) (fun x => match x with | ⟨i, u⟩ => i ≤ manyN s.length ∧ Own 1 u ((chunks i (padF s)).map strC) i) (fun x => match x with | ⟨i, u⟩ => manyN s.length - i) (fun x => match x with | ⟨i, u⟩ => [(8, .slice (some ⟨b34, 0, none⟩) (manyN s.length * 48) (manyN s.length * 48)), (9, u.v i), (10, .int .i64 ((48 * i : Nat) : Int))]) (fun x => match x with | ⟨i, u⟩ => [(u.ob, .cells u.cs 9 u.fz), (some b34, .cells (bcells (padF s)).toArray 5 (0, 0))]) ?round9 (0, slNil) ?h09)
 case he9 => exact (And.intro rfl (And.intro rfl (And.intro rfl trivial)))
 case hl9 => exact ⟨_, rfl⟩
 case h09 => exact ⟨Nat.zero_le _, own_nil 1⟩
 case round9 =>
  intro x hJ ih
  try dsimp only at hJ ih
  obtain ⟨i, u⟩ := x
  try dsimp only at hJ ih
  obtain ⟨hi, hux⟩ := hJ
  show G _ _ [(8, .slice (some ⟨b34, 0, none⟩) (manyN s.length * 48) (manyN s.length * 48)), (9, u.v i), (10, .int .i64 ((48 * i : Nat) : Int))] [(u.ob, .cells u.cs 9 u.fz), (some b34, .cells (bcells (padF s)).toArray 5 (0, 0))] _
  refine G_seq ?_
  refine G_seq ?_
  refine G_region (l := [0, 1, 2, 3]) rfl ?_
  refine G_val rfl rfl rfl rfl (V_move rfl rfl) ?_
  refine G_val rfl rfl rfl rfl (V_move rfl rfl) ?_
  refine G_val rfl rfl rfl rfl (V_len rfl rfl Tryd.underlying27 rfl) ?_
  refine G_val rfl rfl rfl rfl (V_lss rfl rfl rfl) ?_
  refine G_done ?_
  refine G_ifD rfl (fun hc2 => ?_) (fun hc2 => ?_)
  · skip
    refine G_skip ?_
    refine G_seq ?_
    refine G_block ?_
    have hi2 : i < manyN s.length := by omega
    refine G_region (l := [0, 1, 2, 3, 4, 5, 6, 7, 8, 9, 10, 11]) rfl ?_
    refine G_val rfl rfl rfl rfl (V_move rfl rfl) ?_
    refine G_val rfl rfl rfl rfl (V_move rfl rfl) ?_
    refine G_val rfl rfl rfl rfl (V_move rfl rfl) ?_
    refine G_val rfl rfl rfl rfl (V_move rfl rfl) ?_
    refine G_val rfl rfl rfl rfl (Val.int (e' := ((48 * i + 48 : Nat) : Int)) (V_add rfl rfl rfl) (add48 _ (by omega))) ?_
    refine G_val rfl rfl rfl rfl (V_move rfl rfl) ?_
    refine G_val rfl rfl rfl rfl (Val.int (e' := ((48 * i + 48 : Nat) : Int)) (V_add rfl rfl rfl) (add48 _ (by omega))) ?_
    refine G_val rfl rfl rfl rfl (V_sliceLHM (lo := _) (hi := _) (mx := _) rfl Tryd.underlying27 infFrameW_5 rfl rfl rfl rfl rfl rfl rfl rfl (by first | omega | (simp; done) | (simp; omega) | (simp at *; omega)) (by first | omega | (simp; done) | (simp; omega) | (simp at *; omega)) (by first | omega | (simp; done) | (simp; omega) | (simp at *; omega))) ?_
    refine G_val rfl rfl rfl rfl (V_bytesS (l := ((padF s).drop (48 * i)).take 48) rfl rfl Tryd.underlying27 Tryd.underlying5 Tryd.underlying9 (mem_at 1 rfl) (piece_len s hi2) (piece_cells s hi2)) ?_
    refine G_new rfl rfl rfl rfl (N_buildAll (s := 1) (cs := [_]) rfl Tryd.underlying24 infFrameW_9 rfl rfl rfl rfl rfl rfl rfl rfl rfl) (fun b57 => ?_)
    refine G_append (l1 := [_]) (s := u) (nn := i) (m := 1) (news := [strC (((padF s).drop (48 * i)).take 48)]) (bt := 16) rfl rfl rfl rfl Tryd.underlying24 Tryd.underlying24 (by first | exact .inl rfl | exact .inr ⟨_, rfl⟩) infFrameW_9 rfl rfl rfl rfl rfl rfl hux rfl (src_mem (mem_at 0 rfl) rfl rfl (by simp [strC, Value.oneCell'])) (by omega) (by omega) ?_
    intro u1 hu1 _
    show G _ _ _ [_, _, _] _
    refine G_val rfl rfl rfl rfl (V_assign rfl rfl) ?_
    refine G_done ?_
    refine G_inBlock ?_
    refine G_region (l := [0, 1, 2]) rfl ?_
    refine G_val rfl rfl rfl rfl (V_move rfl rfl) ?_
    first
      | refine G_val rfl rfl rfl rfl ((V_add rfl rfl rfl).int (wrap_i64 (by omega))) ?_
      | refine G_val rfl rfl rfl rfl (V_add rfl rfl rfl) ?_
    refine G_val rfl rfl rfl rfl (V_assign rfl rfl) ?_
    refine G_done ?_
    refine G_sub ?_ [1, 1] ?_ (ih (i + 1, u1) ?_ ?_)
    · (refine (And.intro ?_ (And.intro ?_ (And.intro ?_ trivial))) <;> first | rfl | exact slot_int (by omega) | exact slot_int (by simp))
    · exact ⟨_, rfl⟩
    · exact ⟨by omega, by rw [chunks_next, List.map_append]; exact hu1⟩
    · (first | omega | (dsimp only; omega))
  refine G_exit rfl ?_
  refine G_seq ?_
  refine G_region (l := [0, 1, 2]) rfl ?_
  refine G_val rfl rfl rfl rfl (V_move rfl rfl) ?_
  refine G_val rfl rfl rfl rfl (V_assign rfl rfl) ?_
  refine G_val rfl rfl rfl rfl (V_assign rfl rfl) ?_
  refine G_done ?_
  refine G_ret (post := [_]) Tryd.func53 rfl (RVs_cons (RV_tmp rfl) (RVs_cons (RV_tmp rfl) RVs_nil)) [0] rfl ?_
  dsimp only [packed]
  first
    | (obtain ⟨e1, e2⟩ := encF_no (s := s) (by omega); rw [e1, e2]; exact ⟨slNil, own_nil 1, rfl, rfl⟩)
    | (obtain ⟨e1, e2⟩ := encF_yes (s := s) (by omega); obtain rfl : i = manyN s.length := (by omega); rw [e1, e2, piecesF_len]; exact ⟨u, hux, rfl, rfl⟩)

set_option maxRecDepth 100000 in
set_option maxHeartbeats 1000000 in
theorem rfr_encode (s : List UInt8) (h : s.length ≤ 9223372036854775000) :
    Ct Tryd.prog 13 [.string (bs s)] [] [] fun v post => ∃ u : Sl, Own 1 u ((encF s).map strC) (encF s).length ∧ v = .tuple #[u.v (encF s).length, .int .i64 (encFE s)] ∧ post = [(u.ob, .cells u.cs 9 u.fz)] := by
 have hm := manyN_room s.length
 have hpl := padF_len s
 have hbl := bytesF_len s
 refine ct_of Tryd.func13 rfl rfl (fun w0 => ?_)
 show G _ _ [(0, _)] _ _
 refine G_seq ?_
 refine G_region (l := [0, 1]) rfl ?_
 refine G_val rfl rfl rfl rfl (V_assign rfl rfl) ?_
 refine G_val rfl rfl rfl rfl (V_assign rfl rfl) ?_
 refine G_done ?_
 refine G_seq ?_
 refine G_seq ?_
 refine G_addNone (.cells #[] 9 (0, 0)) ?_
 refine G_region (l := [0, 1, 2]) rfl ?_
 refine G_val rfl rfl rfl rfl (V_move rfl rfl) ?_
 refine G_val rfl rfl rfl rfl (V_slen rfl rfl Tryd.underlying9 rfl) ?_
 refine G_val rfl rfl rfl rfl (V_gtr rfl rfl rfl) ?_
 refine G_done ?_
 refine G_ifD rfl (fun hc1 => ?_) (fun hc1 => ?_)
 · skip
   refine G_seq ?_
   refine G_region (l := [0, 1]) rfl ?_
   refine G_val rfl rfl rfl rfl (V_assign rfl rfl) ?_
   refine G_val rfl rfl rfl rfl (V_assign rfl rfl) ?_
   refine G_done ?_
   refine G_ret (post := [_]) Tryd.func13 rfl (RVs_cons (RV_tmp rfl) (RVs_cons (RV_tmp rfl) RVs_nil)) [0] rfl ?_
   dsimp only [packed]
   first
     | (obtain ⟨e1, e2⟩ := encF_no (s := s) (by omega); rw [e1, e2]; exact ⟨slNil, own_nil 1, rfl, rfl⟩)
     | (obtain ⟨e1, e2⟩ := encF_yes (s := s) (by omega); obtain rfl : i = manyN s.length := (by omega); rw [e1, e2, piecesF_len]; exact ⟨u, hux, rfl, rfl⟩)
 refine G_skip ?_
 refine G_seq ?_
 refine G_region (l := [0, 1, 2]) rfl ?_
 refine G_val rfl rfl rfl rfl (V_move rfl rfl) ?_
 refine G_call (L2 := [_]) rfl rfl rfl rfl rfl rfl Tryd.call54 (rfr_bytes _ (by first | omega | (simp; done) | (simp; omega) | (simp at *; omega))) [] [] rfl rfl ?_
 rintro v post ⟨rfl, rfl⟩
 show G _ _ _ [_] _
 refine G_val rfl rfl rfl rfl (V_assign rfl rfl) ?_
 refine G_done ?_
 refine G_seq ?_
 refine G_block ?_
 refine G_sub ?he4 [] ?hl4 (G_loop (X := Nat) (fun k => 6 + s.length + k ≤ 48 * manyN s.length) (fun k => 48 * manyN s.length - k) (fun k => [(4, .string (bs (bytesF s ++ List.replicate k 0))), (0, .string (bs s))]) (fun k => []) ?round4 0 ?h04)
 case he4 => (rw [List.replicate_zero, List.append_nil]; exact ⟨rfl, rfl, trivial⟩)
 case hl4 => exact ⟨_, rfl⟩
 case h04 => omega
 case round4 =>
  intro k hJ ih
  try dsimp only at hJ ih
  have hll : (bytesF s ++ List.replicate k 0).length = 6 + s.length + k := by simp [hbl]
  refine G_seq ?_
  refine G_seq ?_
  refine G_region (l := [0, 1, 2, 3, 4, 5, 6]) rfl ?_
  refine G_val rfl rfl rfl rfl (V_move rfl rfl) ?_
  refine G_val rfl rfl rfl rfl (V_slen rfl rfl Tryd.underlying9 rfl) ?_
  refine G_val rfl rfl rfl rfl (V_move rfl rfl) ?_
  refine G_val rfl rfl rfl rfl (V_slen rfl rfl Tryd.underlying9 rfl) ?_
  refine G_call (L2 := []) rfl rfl rfl rfl rfl rfl Tryd.call39 (rfr_many s.length (by omega)) [] [] rfl rfl ?_
  rintro v post ⟨rfl, rfl⟩
  refine G_val rfl rfl rfl rfl (Val.int (e' := ((48 * manyN s.length : Nat) : Int)) (V_mul rfl rfl rfl) (mul48 _ (by omega))) ?_
  refine G_val rfl rfl rfl rfl (V_lss rfl rfl rfl) ?_
  refine G_done ?_
  refine G_ifD rfl (fun hc2 => ?_) (fun hc2 => ?_)
  · skip
    refine G_skip ?_
    refine G_block ?_
    refine G_region (l := [0, 1, 2]) rfl ?_
    refine G_val rfl rfl rfl rfl (V_move rfl rfl) ?_
    refine G_val rfl rfl rfl rfl (V_sadd rfl rfl rfl (by first | omega | (simp; done) | (simp; omega) | (simp at *; omega))) ?_
    rw [pad_next]
    refine G_val rfl rfl rfl rfl (V_assign rfl rfl) ?_
    refine G_done ?_
    refine G_inBlock ?_
    refine G_sub ?_ [] ?_ (ih (k + 1) ?_ ?_)
    · (refine (And.intro ?_ (And.intro ?_ trivial)) <;> first | rfl | exact slot_int (by omega) | exact slot_int (by simp))
    · exact ⟨_, rfl⟩
    · omega
    · omega
  refine G_exit rfl ?_
  refine G_seq ?_
  obtain rfl : k = 48 * manyN s.length - (6 + s.length) := by simp only [List.length_append, List.length_replicate, hbl] at *; omega
  rw [show bytesF s ++ List.replicate (48 * manyN s.length - (6 + s.length)) 0 = padF s from rfl]
  refine G_region (l := [0, 1]) rfl ?_
  refine G_new rfl rfl rfl rfl (N_build0 rfl Tryd.underlying24 infFrameW_9) (fun b21 => ?_)
  refine G_val rfl rfl rfl rfl (V_assign rfl rfl) ?_
  refine G_done ?_
  refine G_seq ?_
  refine G_seq ?_
  refine G_region (l := [0]) rfl ?_
  refine G_val rfl rfl rfl rfl (V_assign rfl rfl) ?_
  refine G_done ?_
  refine G_block ?_
  refine G_sub ?he8 [0] ?hl8 (G_loop (X := Nat × Sl) (fun x => match x with | ⟨i, u⟩ => i ≤ manyN s.length ∧ Own 1 u ((chunks i (padF s)).map strC) i) (fun x => match x with | ⟨i, u⟩ => manyN s.length - i) (fun x => match x with | ⟨i, u⟩ => [(0, .string (bs s)), (4, .string (bs (padF s))), (5, u.v i), (6, .int .i64 (i : Int))]) (fun x => match x with | ⟨i, u⟩ => [(u.ob, .cells u.cs 9 u.fz)]) ?round8 (0, ⟨some b21, #[], (0, 0), 0⟩) ?h08)
  case he8 => exact (And.intro rfl (And.intro rfl (And.intro rfl (And.intro rfl trivial))))
  case hl8 => exact ⟨_, rfl⟩
  case h08 => exact ⟨Nat.zero_le _, own_empty 1 b21⟩
  case round8 =>
   intro x hJ ih
   try dsimp only at hJ ih
   obtain ⟨i, u⟩ := x
   try dsimp only at hJ ih
   obtain ⟨hi, hux⟩ := hJ
   show G _ _ [(0, .string (bs s)), (4, .string (bs (padF s))), (5, u.v i), (6, .int .i64 (i : Int))] [(u.ob, .cells u.cs 9 u.fz)] _
   refine G_seq ?_
   refine G_seq ?_
   refine G_region (l := [0, 1, 2, 3, 4]) rfl ?_
   refine G_val rfl rfl rfl rfl (V_move rfl rfl) ?_
   refine G_val rfl rfl rfl rfl (V_move rfl rfl) ?_
   refine G_val rfl rfl rfl rfl (V_slen rfl rfl Tryd.underlying9 rfl) ?_
   refine G_call (L2 := [_]) rfl rfl rfl rfl rfl rfl Tryd.call39 (rfr_many s.length (by omega)) [] [] rfl rfl ?_
   rintro v post ⟨rfl, rfl⟩
   show G _ _ _ [_] _
   refine G_val rfl rfl rfl rfl (V_lss rfl rfl rfl) ?_
   refine G_done ?_
   refine G_ifD rfl (fun hc3 => ?_) (fun hc3 => ?_)
   · skip
     refine G_skip ?_
     refine G_seq ?_
     refine G_block ?_
     have hi2 : i < manyN s.length := by omega
     refine G_region (l := [0, 1, 2, 3, 4, 5, 6, 7, 8, 9, 10]) rfl ?_
     refine G_val rfl rfl rfl rfl (V_move rfl rfl) ?_
     refine G_val rfl rfl rfl rfl (V_move rfl rfl) ?_
     refine G_val rfl rfl rfl rfl (V_move rfl rfl) ?_
     refine G_val rfl rfl rfl rfl (Val.int (e' := ((48 * i : Nat) : Int)) (V_mul rfl rfl rfl) (mul48 _ (by omega))) ?_
     refine G_val rfl rfl rfl rfl (V_move rfl rfl) ?_
     refine G_val rfl rfl rfl rfl (Val.int (e' := ((48 * i : Nat) : Int)) (V_mul rfl rfl rfl) (mul48 _ (by omega))) ?_
     refine G_val rfl rfl rfl rfl (Val.int (e' := ((48 * i + 48 : Nat) : Int)) (V_add rfl rfl rfl) (add48 _ (by omega))) ?_
     first
       | refine G_val rfl rfl rfl rfl (V_ssliceN (lo := _) (hi := _) rfl Tryd.underlying9 rfl rfl rfl rfl rfl (by first | omega | (simp; done) | (simp; omega) | (simp at *; omega)) (by first | omega | (simp; done) | (simp; omega) | (simp at *; omega))) ?_
       | refine G_val rfl rfl rfl rfl (V_sslice rfl Tryd.underlying9 rfl rfl rfl (by first | omega | (simp; done) | (simp; omega) | (simp at *; omega)) (by first | omega | (simp; done) | (simp; omega) | (simp at *; omega)) (by first | omega | (simp; done) | (simp; omega) | (simp at *; omega))) ?_
     rw [piece_cut]
     refine G_new rfl rfl rfl rfl (N_buildAll (s := 1) (cs := [_]) rfl Tryd.underlying24 infFrameW_9 rfl rfl rfl rfl rfl rfl rfl rfl rfl) (fun b37 => ?_)
     refine G_append (l1 := [_]) (s := u) (nn := i) (m := 1) (news := [strC (((padF s).drop (48 * i)).take 48)]) (bt := 16) rfl rfl rfl rfl Tryd.underlying24 Tryd.underlying24 (by first | exact .inl rfl | exact .inr ⟨_, rfl⟩) infFrameW_9 rfl rfl rfl rfl rfl rfl hux rfl (src_mem (mem_at 0 rfl) rfl rfl (by simp [strC, Value.oneCell'])) (by omega) (by omega) ?_
     intro u1 hu1 _
     show G _ _ _ [_, _] _
     refine G_val rfl rfl rfl rfl (V_assign rfl rfl) ?_
     refine G_done ?_
     refine G_inBlock ?_
     refine G_region (l := [0, 1, 2]) rfl ?_
     refine G_val rfl rfl rfl rfl (V_move rfl rfl) ?_
     first
       | refine G_val rfl rfl rfl rfl ((V_add rfl rfl rfl).int (wrap_i64 (by omega))) ?_
       | refine G_val rfl rfl rfl rfl (V_add rfl rfl rfl) ?_
     refine G_val rfl rfl rfl rfl (V_assign rfl rfl) ?_
     refine G_done ?_
     refine G_sub ?_ [1] ?_ (ih (i + 1, u1) ?_ ?_)
     · (refine (And.intro ?_ (And.intro ?_ (And.intro ?_ (And.intro ?_ trivial)))) <;> first | rfl | exact slot_int (by omega) | exact slot_int (by simp))
     · exact ⟨_, rfl⟩
     · exact ⟨by omega, by rw [chunks_next, List.map_append]; exact hu1⟩
     · (first | omega | (dsimp only; omega))
   refine G_exit rfl ?_
   refine G_seq ?_
   refine G_region (l := [0, 1, 2]) rfl ?_
   refine G_val rfl rfl rfl rfl (V_move rfl rfl) ?_
   refine G_val rfl rfl rfl rfl (V_assign rfl rfl) ?_
   refine G_val rfl rfl rfl rfl (V_assign rfl rfl) ?_
   refine G_done ?_
   refine G_ret (post := [_]) Tryd.func13 rfl (RVs_cons (RV_tmp rfl) (RVs_cons (RV_tmp rfl) RVs_nil)) [0] rfl ?_
   dsimp only [packed]
   first
     | (obtain ⟨e1, e2⟩ := encF_no (s := s) (by omega); rw [e1, e2]; exact ⟨slNil, own_nil 1, rfl, rfl⟩)
     | (obtain ⟨e1, e2⟩ := encF_yes (s := s) (by omega); obtain rfl : i = manyN s.length := (by omega); rw [e1, e2, piecesF_len]; exact ⟨u, hux, rfl, rfl⟩)

end
end Go.Proofs.YtbblkgdejgoncaaDoor
