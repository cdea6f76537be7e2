/- What the law LogAppends needs, part 4. -/
import Derived.Test.YtbblkgdejgoncaaDoorPkLogAppends1
import Derived.Test.YtbblkgdejgoncaaDoorPkLogAppends2
import Derived.Test.YtbblkgdejgoncaaDoorPkLogAppends3


/- The walks of layer 25: records as pieces, the program and the reference. -/
set_option linter.unusedSimpArgs false
set_option linter.unusedVariables false
namespace Go.Proofs.YtbblkgdejgoncaaDoor
open Go Go.RowKit

section
theorem infFrameW_5 : Tryd.prog.info? 5 = some Tryd.t5 := by kernel_rfl
theorem infFrameW_9 : Tryd.prog.info? 9 = some Tryd.t9 := by kernel_rfl


theorem ct_fixedN (v n : Nat) (h1 : 1 ≤ n) (h8 : n ≤ 8) (h : v < 256 ^ n) (h64 : v < 18446744073709551616) : Ct Tryd.prog 82 [.int .u64 (v : Int), .int .i64 (n : Int)] [] [] (fun v' post => v' = .tuple #[.string (bs (be n v)), .int .i64 0] ∧ post = []) :=
  ct_fixed (v : Int) n h1 h8 (by omega) (by omega) (by omega)
theorem ct_rfixedN (v n : Nat) (h1 : 1 ≤ n) (h8 : n ≤ 8) (h : v < 256 ^ n) (h64 : v < 18446744073709551616) : Ct Tryd.prog 83 [.int .u64 (v : Int), .int .i64 (n : Int)] [] [] (fun v' post => v' = .tuple #[.string (bs (be n v)), .int .i64 0] ∧ post = []) :=
  ct_rfixed (v : Int) n h1 h8 (by omega) (by omega) (by omega)
theorem fit2 {v : Nat} (h : v < 65536) : v < 256 ^ 2 := h
theorem fit4 {v : Nat} (h : v < 4294967296) : v < 256 ^ 4 := h
theorem mulM (m : Nat) (h : m ≤ 100000) : IntKind.i64.wrap ((m : Int) * 48) = ((m * 48 : Nat) : Int) := by rw [wrap_i64 (by omega)]; omega
theorem mul48 (i : Nat) (h : i ≤ 100000) : IntKind.i64.wrap ((48 : Int) * (i : Int)) = ((48 * i : Nat) : Int) := by rw [wrap_i64 (by omega)]; omega
theorem add48 (i : Nat) (h : i ≤ 10000000) : IntKind.i64.wrap ((i : Int) + 48) = ((i + 48 : Nat) : Int) := by rw [wrap_i64 (by omega)]; omega
theorem add6 (i : Nat) (h : i ≤ 10000000) : IntKind.i64.wrap ((6 : Int) + (i : Int)) = ((6 + i : Nat) : Int) := by rw [wrap_i64 (by omega)]; omega
theorem laid_pad (s : List UInt8) : laid (List.replicate (manyN s.length * 48) (Value.int .u8 0)).toArray 0 (bcells ((bytesF s).take (manyN s.length * 48))) = (bcells (padF s)).toArray := by
  have h := manyN_room s.length
  have hb := bytesF_len s
  rw [List.take_of_length_le (by omega)]
  unfold laid padF
  rw [List.take_zero, List.nil_append, bcells_append, bcells_length, bcells_zero, bcells_drop, List.drop_replicate, hb]
  congr 4
  omega
theorem piece_cells (s : List UInt8) {i : Nat} (h : i < manyN s.length) : ((bcells (padF s)).toArray.toList.drop (if 48 * i + 48 = 48 * i then 0 else 0 + 48 * i * 1)).take (48 * i + 48 - 48 * i) = bcells (((padF s).drop (48 * i)).take 48) := by
  rw [if_neg (by omega), Nat.zero_add, Nat.mul_one, show 48 * i + 48 - 48 * i = 48 by omega, bcells_drop, bcells_take]
theorem piece_len (s : List UInt8) {i : Nat} (h : i < manyN s.length) : (((padF s).drop (48 * i)).take 48).length = 48 * i + 48 - 48 * i := by
  have := padF_len s
  rw [List.length_take, List.length_drop]; omega
theorem piece_cut (t : List UInt8) (i : Nat) : (t.take (48 * i + 48)).drop (48 * i) = (t.drop (48 * i)).take 48 := by
  rw [List.drop_take, show 48 * i + 48 - 48 * i = 48 by omega]
theorem pad_next (s : List UInt8) (k : Nat) : bytesF s ++ List.replicate k 0 ++ [0] = bytesF s ++ List.replicate (k + 1) 0 := by
  rw [List.append_assoc]; congr 1; exact (List.replicate_succ' ..).symm

set_option maxRecDepth 100000 in
set_option maxHeartbeats 1000000 in
theorem fr_manyZ (z : Int) (h0 : -9223372036854775808 ≤ z) (h1 : z ≤ 9223372036854775000) :
    Ct Tryd.prog 55 [.int .i64 z] [] [] fun v post => v = .int .i64 ((manyN z.toNat : Nat) : Int) ∧ post = [] := by
 refine ct_of Tryd.func55 rfl rfl (fun w0 => ?_)
 show G _ _ [(0, _)] _ _
 refine G_seq ?_
 refine G_region (l := [0]) rfl ?_
 refine G_val rfl rfl rfl rfl (V_assign rfl rfl) ?_
 refine G_done ?_
 refine G_seq ?_
 refine G_region (l := [0, 1, 2, 3, 4, 5, 6]) rfl ?_
 refine G_val rfl rfl rfl rfl (V_move rfl rfl) ?_
 refine G_val rfl rfl rfl rfl (V_max rfl rfl rfl) ?_
 first
   | refine G_val rfl rfl rfl rfl ((V_add rfl rfl rfl).int (wrap_i64 (by omega))) ?_
   | refine G_val rfl rfl rfl rfl (V_add rfl rfl rfl) ?_
 first
   | refine G_val rfl rfl rfl rfl ((V_add rfl rfl rfl).int (wrap_i64 (by omega))) ?_
   | refine G_val rfl rfl rfl rfl (V_add rfl rfl rfl) ?_
 first
   | refine G_val rfl rfl rfl rfl ((V_sub rfl rfl rfl).int (wrap_i64 (by omega))) ?_
   | refine G_val rfl rfl rfl rfl (V_sub rfl rfl rfl) ?_
 refine G_val rfl rfl rfl rfl (V_quo rfl rfl rfl (by omega) (by omega) (wrap_i64 (by omega))) ?_
 refine G_val rfl rfl rfl rfl (V_assign rfl rfl) ?_
 refine G_done ?_
 refine G_ret (post := []) Tryd.func55 rfl (RVs_cons (RV_tmp rfl) RVs_nil) [] rfl ?_
 dsimp only [packed]
 exact ⟨by rw [show ((manyN z.toNat : Nat) : Int) = (max z 0 + 6 + 48 - 1) / 48 by unfold manyN; omega], rfl⟩


theorem fr_many (n : Nat) (h : n ≤ 9223372036854775000) : Ct Tryd.prog 55 [.int .i64 (n : Int)] [] [] (fun v post => v = .int .i64 ((manyN n : Nat) : Int) ∧ post = []) := fr_manyZ (n : Int) (by omega) (by omega)

set_option maxRecDepth 100000 in
set_option maxHeartbeats 1000000 in
theorem rfr_many (n : Nat) (h : n ≤ 9223372036854775000) :
    Ct Tryd.prog 39 [.int .i64 (n : Int)] [] [] fun v post => v = .int .i64 ((manyN n : Nat) : Int) ∧ post = [] := by
 refine ct_of Tryd.func39 rfl rfl (fun w0 => ?_)
 show G _ _ [(0, _)] _ _
 refine G_seq ?_
 refine G_region (l := [0]) rfl ?_
 refine G_val rfl rfl rfl rfl (V_assign rfl rfl) ?_
 refine G_done ?_
 refine G_seq ?_
 refine G_region (l := [0]) rfl ?_
 refine G_val rfl rfl rfl rfl (V_assign rfl rfl) ?_
 refine G_done ?_
 refine G_seq ?_
 refine G_block ?_
 refine G_sub ?he2 [] ?hl2 (G_loop (X := Nat) (fun k => 1 ≤ k ∧ 48 * k < n + 54) (fun k => n + 54 - 48 * k) (fun k => [(0, .int .i64 (n : Int)), (3, .int .i64 (k : Int))]) (fun k => []) ?round2 1 ?h02)
 case he2 => exact (And.intro rfl (And.intro rfl trivial))
 case hl2 => exact ⟨_, rfl⟩
 case h02 => omega
 case round2 =>
  intro k hJ ih
  try dsimp only at hJ ih
  refine G_seq ?_
  refine G_seq ?_
  refine G_region (l := [0, 1, 2, 3, 4]) rfl ?_
  refine G_val rfl rfl rfl rfl (V_move rfl rfl) ?_
  first
    | refine G_val rfl rfl rfl rfl ((V_mul rfl rfl rfl).int (wrap_i64 (by omega))) ?_
    | refine G_val rfl rfl rfl rfl (V_mul rfl rfl rfl) ?_
  refine G_val rfl rfl rfl rfl (V_move rfl rfl) ?_
  first
    | refine G_val rfl rfl rfl rfl ((V_add rfl rfl rfl).int (wrap_i64 (by omega))) ?_
    | refine G_val rfl rfl rfl rfl (V_add rfl rfl rfl) ?_
  refine G_val rfl rfl rfl rfl (V_lss rfl rfl rfl) ?_
  refine G_done ?_
  refine G_ifD rfl (fun hc1 => ?_) (fun hc1 => ?_)
  · skip
    refine G_skip ?_
    refine G_block ?_
    refine G_region (l := [0, 1, 2]) rfl ?_
    refine G_val rfl rfl rfl rfl (V_move rfl rfl) ?_
    first
      | refine G_val rfl rfl rfl rfl ((V_add rfl rfl rfl).int (wrap_i64 (by omega))) ?_
      | refine G_val rfl rfl rfl rfl (V_add rfl rfl rfl) ?_
    refine G_val rfl rfl rfl rfl (V_assign rfl rfl) ?_
    refine G_done ?_
    refine G_inBlock ?_
    refine G_sub ?_ [] ?_ (ih (k + 1) ?_ ?_)
    · (refine (And.intro ?_ (And.intro ?_ trivial)) <;> first | rfl | exact slot_int (by omega) | exact slot_int (by simp))
    · exact ⟨_, rfl⟩
    · omega
    · omega
  refine G_exit rfl ?_
  refine G_seq ?_
  refine G_region (l := [0, 1]) rfl ?_
  refine G_val rfl rfl rfl rfl (V_move rfl rfl) ?_
  refine G_val rfl rfl rfl rfl (V_assign rfl rfl) ?_
  refine G_done ?_
  refine G_ret (post := []) Tryd.func39 rfl (RVs_cons (RV_tmp rfl) RVs_nil) [] rfl ?_
  dsimp only [packed]
  exact ⟨by rw [show manyN n = k by unfold manyN; omega], rfl⟩

set_option maxRecDepth 100000 in
set_option maxHeartbeats 1000000 in
theorem fr_size (p : List UInt8) (h : p.length ≤ 9223372036854775807) :
    Ct Tryd.prog 56 [.string (bs p)] [] [] fun v post => v = .tuple #[.int .i64 (sizeF p : Int), .int .i64 (sizeFE p)] ∧ post = [] := by
 have hn := num_lt (p.take 2)
 have hn2 : 256 ^ (p.take 2).length ≤ 256 ^ 2 := Nat.pow_le_pow_right (by omega) (by simp; omega)
 refine ct_of Tryd.func56 rfl rfl (fun w0 => ?_)
 show G _ _ [(0, _)] _ _
 refine G_seq ?_
 refine G_region (l := [0, 1]) rfl ?_
 refine G_val rfl rfl rfl rfl (V_assign rfl rfl) ?_
 refine G_val rfl rfl rfl rfl (V_assign rfl rfl) ?_
 refine G_done ?_
 refine G_seq ?_
 refine G_seq ?_
 refine G_region (l := [0, 1, 2]) rfl ?_
 refine G_val rfl rfl rfl rfl (V_move rfl rfl) ?_
 refine G_val rfl rfl rfl rfl (V_slen rfl rfl Tryd.underlying9 rfl) ?_
 refine G_val rfl rfl rfl rfl (V_neq rfl rfl rfl) ?_
 refine G_done ?_
 refine G_ifD rfl (fun hc1 => ?_) (fun hc1 => ?_)
 · skip
   refine G_seq ?_
   refine G_region (l := [0, 1]) rfl ?_
   refine G_val rfl rfl rfl rfl (V_assign rfl rfl) ?_
   refine G_val rfl rfl rfl rfl (V_assign rfl rfl) ?_
   refine G_done ?_
   refine G_ret (post := []) Tryd.func56 rfl (RVs_cons (RV_tmp rfl) (RVs_cons (RV_tmp rfl) RVs_nil)) [] rfl ?_
   dsimp only [packed]
   first
     | (obtain ⟨e1, e2⟩ := sizeF_short (p := p) (by omega); rw [e1, e2]; exact ⟨rfl, rfl⟩)
     | (obtain ⟨e1, e2⟩ := sizeF_long (p := p) (by omega) (by omega); rw [e1, e2]; exact ⟨rfl, rfl⟩)
     | (obtain ⟨e1, e2⟩ := sizeF_ok (p := p) (by omega) (by omega); rw [e1, e2]; exact ⟨rfl, rfl⟩)
 refine G_skip ?_
 refine G_seq ?_
 refine G_region (l := [0, 1, 2, 3, 4, 5, 6, 7]) rfl ?_
 refine G_val rfl rfl rfl rfl (V_move rfl rfl) ?_
 first
   | refine G_val rfl rfl rfl rfl (V_ssliceHN (hi := 2) rfl Tryd.underlying9 rfl rfl rfl (by first | omega | (simp; done) | (simp; omega) | (simp at *; omega))) ?_
   | refine G_val rfl rfl rfl rfl (V_ssliceH rfl Tryd.underlying9 rfl rfl (by first | omega | (simp; done) | (simp; omega) | (simp at *; omega)) (by first | omega | (simp; done) | (simp; omega) | (simp at *; omega))) ?_
 refine G_call (L2 := []) rfl rfl rfl rfl rfl rfl Tryd.call58 (ct_number _ (by simp; omega) (by simp; omega)) [] [] rfl rfl ?_
 rintro v post ⟨rfl, rfl⟩
 refine G_val rfl rfl rfl rfl (V_move rfl rfl) ?_
 refine G_val rfl rfl rfl rfl (V_extract rfl rfl rfl) ?_
 refine G_val rfl rfl rfl rfl (V_extract rfl rfl rfl) ?_
 refine G_val rfl rfl rfl rfl (V_assign rfl rfl) ?_
 refine G_val rfl rfl rfl rfl (V_assign rfl rfl) ?_
 refine G_done ?_
 refine G_seq ?_
 refine G_seq ?_
 refine G_region (l := [0, 1]) rfl ?_
 refine G_val rfl rfl rfl rfl (V_move rfl rfl) ?_
 refine G_val rfl rfl rfl rfl (V_gtr rfl rfl rfl) ?_
 refine G_done ?_
 refine G_ifD rfl (fun hc2 => ?_) (fun hc2 => ?_)
 · skip
   refine G_seq ?_
   refine G_region (l := [0, 1]) rfl ?_
   refine G_val rfl rfl rfl rfl (V_assign rfl rfl) ?_
   refine G_val rfl rfl rfl rfl (V_assign rfl rfl) ?_
   refine G_done ?_
   refine G_ret (post := []) Tryd.func56 rfl (RVs_cons (RV_tmp rfl) (RVs_cons (RV_tmp rfl) RVs_nil)) [] rfl ?_
   dsimp only [packed]
   first
     | (obtain ⟨e1, e2⟩ := sizeF_short (p := p) (by omega); rw [e1, e2]; exact ⟨rfl, rfl⟩)
     | (obtain ⟨e1, e2⟩ := sizeF_long (p := p) (by omega) (by omega); rw [e1, e2]; exact ⟨rfl, rfl⟩)
     | (obtain ⟨e1, e2⟩ := sizeF_ok (p := p) (by omega) (by omega); rw [e1, e2]; exact ⟨rfl, rfl⟩)
 refine G_skip ?_
 refine G_seq ?_
 refine G_region (l := [0, 1, 2, 3]) rfl ?_
 refine G_val rfl rfl rfl rfl (V_move rfl rfl) ?_
 first
   | refine G_val rfl rfl rfl rfl ((V_conv rfl rfl Tryd.underlying103 Tryd.underlying3).int (wrap_i64 (by omega))) ?_
   | refine G_val rfl rfl rfl rfl (V_conv rfl rfl Tryd.underlying103 Tryd.underlying3) ?_
 refine G_val rfl rfl rfl rfl (V_assign rfl rfl) ?_
 refine G_val rfl rfl rfl rfl (V_assign rfl rfl) ?_
 refine G_done ?_
 refine G_ret (post := []) Tryd.func56 rfl (RVs_cons (RV_tmp rfl) (RVs_cons (RV_tmp rfl) RVs_nil)) [] rfl ?_
 dsimp only [packed]
 first
   | (obtain ⟨e1, e2⟩ := sizeF_short (p := p) (by omega); rw [e1, e2]; exact ⟨rfl, rfl⟩)
   | (obtain ⟨e1, e2⟩ := sizeF_long (p := p) (by omega) (by omega); rw [e1, e2]; exact ⟨rfl, rfl⟩)
   | (obtain ⟨e1, e2⟩ := sizeF_ok (p := p) (by omega) (by omega); rw [e1, e2]; exact ⟨rfl, rfl⟩)


theorem num_two (p : List UInt8) (h : p.length = 48) : num (p.take 2) = 256 * (p.getD 0 0).toNat + (p.getD 1 0).toNat := by
  match p, h with
  | a :: b :: r, _ => simp [num]; omega

set_option maxRecDepth 100000 in
set_option maxHeartbeats 1000000 in
theorem rfr_size (p : List UInt8) (h : p.length ≤ 9223372036854775807) :
    Ct Tryd.prog 80 [.string (bs p)] [] [] fun v post => v = .tuple #[.int .i64 (sizeF p : Int), .int .i64 (sizeFE p)] ∧ post = [] := by
 refine ct_of Tryd.func80 rfl rfl (fun w0 => ?_)
 show G _ _ [(0, _)] _ _
 refine G_seq ?_
 refine G_region (l := [0, 1]) rfl ?_
 refine G_val rfl rfl rfl rfl (V_assign rfl rfl) ?_
 refine G_val rfl rfl rfl rfl (V_assign rfl rfl) ?_
 refine G_done ?_
 refine G_seq ?_
 refine G_seq ?_
 refine G_region (l := [0, 1, 2]) rfl ?_
 refine G_val rfl rfl rfl rfl (V_move rfl rfl) ?_
 refine G_val rfl rfl rfl rfl (V_slen rfl rfl Tryd.underlying9 rfl) ?_
 refine G_val rfl rfl rfl rfl (V_neq rfl rfl rfl) ?_
 refine G_done ?_
 refine G_ifD rfl (fun hc1 => ?_) (fun hc1 => ?_)
 · skip
   refine G_seq ?_
   refine G_region (l := [0, 1]) rfl ?_
   refine G_val rfl rfl rfl rfl (V_assign rfl rfl) ?_
   refine G_val rfl rfl rfl rfl (V_assign rfl rfl) ?_
   refine G_done ?_
   refine G_ret (post := []) Tryd.func80 rfl (RVs_cons (RV_tmp rfl) (RVs_cons (RV_tmp rfl) RVs_nil)) [] rfl ?_
   dsimp only [packed]
   first
     | (obtain ⟨e1, e2⟩ := sizeF_short (p := p) (by omega); rw [e1, e2]; exact ⟨rfl, rfl⟩)
     | (obtain ⟨e1, e2⟩ := sizeF_long (p := p) (by omega) (by omega); rw [e1, e2]; exact ⟨rfl, rfl⟩)
     | (obtain ⟨e1, e2⟩ := sizeF_ok (p := p) (by omega) (by omega); rw [e1, e2]; exact ⟨rfl, rfl⟩)
 refine G_skip ?_
 refine G_seq ?_
 have h48 : p.length = 48 := by omega
 have hn : num (p.take 2) = 256 * (p.getD (Int.toNat 0) 0).toNat + (p.getD (Int.toNat 1) 0).toNat := num_two p h48
 have g1 := (p.getD (Int.toNat 0) 0).toNat_lt
 have g2 := (p.getD (Int.toNat 1) 0).toNat_lt
 refine G_draw mixedK (by kernel_rfl) ?_
 refine GQ_val rfl rfl rfl rfl (V_move rfl rfl) ?_
 first
   | refine GQ_val rfl rfl rfl rfl (V_sindexN rfl Tryd.underlying9 rfl rfl rfl (by omega)) ?_
   | refine GQ_val rfl rfl rfl rfl (V_sindexD rfl Tryd.underlying9 rfl rfl (by omega) (by first | omega | (simp; done) | (simp; omega) | (simp at *; omega))) ?_
 first
   | refine GQ_val rfl rfl rfl rfl ((V_conv rfl rfl Tryd.underlying5 Tryd.underlying3).int (wrap_i64 (by omega))) ?_
   | refine GQ_val rfl rfl rfl rfl (V_conv rfl rfl Tryd.underlying5 Tryd.underlying3) ?_
 first
   | refine GQ_val rfl rfl rfl rfl ((V_mul rfl rfl rfl).int (wrap_i64 (by omega))) ?_
   | refine GQ_val rfl rfl rfl rfl (V_mul rfl rfl rfl) ?_
 refine GQ_val rfl rfl rfl rfl (V_move rfl rfl) ?_
 first
   | refine GQ_val rfl rfl rfl rfl (V_sindexN rfl Tryd.underlying9 rfl rfl rfl (by omega)) ?_
   | refine GQ_val rfl rfl rfl rfl (V_sindexD rfl Tryd.underlying9 rfl rfl (by omega) (by first | omega | (simp; done) | (simp; omega) | (simp at *; omega))) ?_
 first
   | refine GQ_val rfl rfl rfl rfl ((V_conv rfl rfl Tryd.underlying5 Tryd.underlying3).int (wrap_i64 (by omega))) ?_
   | refine GQ_val rfl rfl rfl rfl (V_conv rfl rfl Tryd.underlying5 Tryd.underlying3) ?_
 first
   | refine GQ_val rfl rfl rfl rfl ((V_add rfl rfl rfl).int (wrap_i64 (by omega))) ?_
   | refine GQ_val rfl rfl rfl rfl (V_add rfl rfl rfl) ?_
 refine GQ_val rfl rfl rfl rfl (V_assign rfl rfl) ?_
 refine GQ_done rfl ?_
 refine G_seq ?_
 refine G_seq ?_
 rw [show (256 : Int) * ((p.getD (Int.toNat 0) 0).toNat : Int) + ((p.getD (Int.toNat 1) 0).toNat : Int) = ((num (p.take 2) : Nat) : Int) by rw [hn]; omega]
 refine G_region (l := [0, 1]) rfl ?_
 refine G_val rfl rfl rfl rfl (V_move rfl rfl) ?_
 refine G_val rfl rfl rfl rfl (V_gtr rfl rfl rfl) ?_
 refine G_done ?_
 refine G_ifD rfl (fun hc2 => ?_) (fun hc2 => ?_)
 · skip
   refine G_seq ?_
   refine G_region (l := [0, 1]) rfl ?_
   refine G_val rfl rfl rfl rfl (V_assign rfl rfl) ?_
   refine G_val rfl rfl rfl rfl (V_assign rfl rfl) ?_
   refine G_done ?_
   refine G_ret (post := []) Tryd.func80 rfl (RVs_cons (RV_tmp rfl) (RVs_cons (RV_tmp rfl) RVs_nil)) [] rfl ?_
   dsimp only [packed]
   first
     | (obtain ⟨e1, e2⟩ := sizeF_short (p := p) (by omega); rw [e1, e2]; exact ⟨rfl, rfl⟩)
     | (obtain ⟨e1, e2⟩ := sizeF_long (p := p) (by omega) (by omega); rw [e1, e2]; exact ⟨rfl, rfl⟩)
     | (obtain ⟨e1, e2⟩ := sizeF_ok (p := p) (by omega) (by omega); rw [e1, e2]; exact ⟨rfl, rfl⟩)
 refine G_skip ?_
 refine G_seq ?_
 refine G_region (l := [0, 1, 2]) rfl ?_
 refine G_val rfl rfl rfl rfl (V_move rfl rfl) ?_
 refine G_val rfl rfl rfl rfl (V_assign rfl rfl) ?_
 refine G_val rfl rfl rfl rfl (V_assign rfl rfl) ?_
 refine G_done ?_
 refine G_ret (post := []) Tryd.func80 rfl (RVs_cons (RV_tmp rfl) (RVs_cons (RV_tmp rfl) RVs_nil)) [] rfl ?_
 dsimp only [packed]
 first
   | (obtain ⟨e1, e2⟩ := sizeF_short (p := p) (by omega); rw [e1, e2]; exact ⟨rfl, rfl⟩)
   | (obtain ⟨e1, e2⟩ := sizeF_long (p := p) (by omega) (by omega); rw [e1, e2]; exact ⟨rfl, rfl⟩)
   | (obtain ⟨e1, e2⟩ := sizeF_ok (p := p) (by omega) (by omega); rw [e1, e2]; exact ⟨rfl, rfl⟩)

set_option maxRecDepth 100000 in
set_option maxHeartbeats 1000000 in
theorem rfr_bytes (s : List UInt8) (h : s.length ≤ 1000) :
    Ct Tryd.prog 54 [.string (bs s)] [] [] fun v post => v = .string (bs (bytesF s)) ∧ post = [] := by
 have hc := crcN_lt (be 2 s.length ++ s)
 have l2 := be_length 2 s.length
 have l4 := be_length 4 (crcN (be 2 s.length ++ s))
 refine ct_of Tryd.func54 rfl rfl (fun w0 => ?_)
 show G _ _ [(0, _)] _ _
 refine G_seq ?_
 refine G_region (l := [0]) rfl ?_
 refine G_val rfl rfl rfl rfl (V_assign rfl rfl) ?_
 refine G_done ?_
 refine G_seq ?_
 refine G_region (l := [0, 1, 2, 3, 4, 5, 6, 7, 8]) rfl ?_
 refine G_val rfl rfl rfl rfl (V_move rfl rfl) ?_
 refine G_val rfl rfl rfl rfl (V_slen rfl rfl Tryd.underlying9 rfl) ?_
 first
   | refine G_val rfl rfl rfl rfl ((V_conv rfl rfl Tryd.underlying3 Tryd.underlying103).int (wrap_u64 (by omega))) ?_
   | refine G_val rfl rfl rfl rfl (V_conv rfl rfl Tryd.underlying3 Tryd.underlying103) ?_
 refine G_call (L2 := []) rfl rfl rfl rfl rfl rfl Tryd.call83 (ct_rfixedN s.length 2 (by omega) (by omega) (fit2 (by omega)) (by omega)) [] [] rfl rfl ?_
 rintro v post ⟨rfl, rfl⟩
 refine G_val rfl rfl rfl rfl (V_move rfl rfl) ?_
 refine G_val rfl rfl rfl rfl (V_extract rfl rfl rfl) ?_
 refine G_val rfl rfl rfl rfl (V_extract rfl rfl rfl) ?_
 refine G_val rfl rfl rfl rfl (V_assign rfl rfl) ?_
 refine G_val rfl rfl rfl rfl (V_assign rfl rfl) ?_
 refine G_done ?_
 refine G_seq ?_
 refine G_region (l := [0, 1, 2, 3, 4, 5, 6, 7, 8, 9, 10]) rfl ?_
 refine G_val rfl rfl rfl rfl (V_move rfl rfl) ?_
 refine G_val rfl rfl rfl rfl (V_move rfl rfl) ?_
 refine G_val rfl rfl rfl rfl (V_sadd rfl rfl rfl (by first | omega | (simp; done) | (simp; omega) | (simp at *; omega))) ?_
 refine G_call (L2 := []) rfl rfl rfl rfl rfl rfl Tryd.call84 (rsum_of (be 2 s.length ++ s) (by simp; omega)) [] [] rfl rfl ?_
 rintro v post ⟨rfl, rfl⟩
 first
   | refine G_val rfl rfl rfl rfl ((V_conv rfl rfl Tryd.underlying22 Tryd.underlying103).int (wrap_u64 (by omega))) ?_
   | refine G_val rfl rfl rfl rfl (V_conv rfl rfl Tryd.underlying22 Tryd.underlying103) ?_
 refine G_call (L2 := []) rfl rfl rfl rfl rfl rfl Tryd.call83 (ct_rfixedN (crcN (be 2 s.length ++ s)) 4 (by omega) (by omega) (fit4 (by omega)) (by omega)) [] [] rfl rfl ?_
 rintro v post ⟨rfl, rfl⟩
 refine G_val rfl rfl rfl rfl (V_move rfl rfl) ?_
 refine G_val rfl rfl rfl rfl (V_extract rfl rfl rfl) ?_
 refine G_val rfl rfl rfl rfl (V_extract rfl rfl rfl) ?_
 refine G_val rfl rfl rfl rfl (V_assign rfl rfl) ?_
 refine G_val rfl rfl rfl rfl (V_assign rfl rfl) ?_
 refine G_done ?_
 refine G_seq ?_
 refine G_region (l := [0, 1, 2, 3, 4, 5]) rfl ?_
 refine G_val rfl rfl rfl rfl (V_move rfl rfl) ?_
 refine G_val rfl rfl rfl rfl (V_move rfl rfl) ?_
 refine G_val rfl rfl rfl rfl (V_sadd rfl rfl rfl (by first | omega | (simp; done) | (simp; omega) | (simp at *; omega))) ?_
 refine G_val rfl rfl rfl rfl (V_move rfl rfl) ?_
 refine G_val rfl rfl rfl rfl (V_sadd rfl rfl rfl (by first | omega | (simp; done) | (simp; omega) | (simp at *; omega))) ?_
 refine G_val rfl rfl rfl rfl (V_assign rfl rfl) ?_
 refine G_done ?_
 refine G_ret (post := []) Tryd.func54 rfl (RVs_cons (RV_tmp rfl) RVs_nil) [] rfl ?_
 dsimp only [packed]
 exact ⟨rfl, rfl⟩

set_option maxRecDepth 100000 in
set_option maxHeartbeats 1000000 in
theorem fr_encode (s : List UInt8) (h : s.length ≤ 9223372036854775000) :
    Ct Tryd.prog 53 [.string (bs s)] [] [] fun v post => ∃ u : Sl, Own 1 u ((encF s).map strC) (encF s).length ∧ v = .tuple #[u.v (encF s).length, .int .i64 (encFE s)] ∧ post = [(u.ob, .cells u.cs 9 u.fz)] := by
 have hc := crcN_lt (be 2 s.length ++ s)
 have l2 := be_length 2 s.length
 have l4 := be_length 4 (crcN (be 2 s.length ++ s))
 have hm := manyN_room s.length
 have hpl := padF_len s
 refine ct_of Tryd.func53 rfl rfl (fun w0 => ?_)
 show G _ _ [(0, _)] _ _
 refine G_seq ?_
 refine G_region (l := [0, 1]) rfl ?_
 refine G_val rfl rfl rfl rfl (V_assign rfl rfl) ?_
 refine G_val rfl rfl rfl rfl (V_assign rfl rfl) ?_
 refine G_done ?_
 refine G_seq ?_
 refine G_seq ?_
 refine G_addNone (.cells #[] 9 (0, 0)) ?_
 refine G_region (l := [0, 1, 2]) rfl ?_
 refine G_val rfl rfl rfl rfl (V_move rfl rfl) ?_
 refine G_val rfl rfl rfl rfl (V_slen rfl rfl Tryd.underlying9 rfl) ?_
 refine G_val rfl rfl rfl rfl (V_gtr rfl rfl rfl) ?_
 refine G_done ?_
 refine G_ifD rfl (fun hc1 => ?_) (fun hc1 => ?_)
 · skip
   refine G_seq ?_
   refine G_region (l := [0, 1]) rfl ?_
   refine G_val rfl rfl rfl rfl (V_assign rfl rfl) ?_
   refine G_val rfl rfl rfl rfl (V_assign rfl rfl) ?_
   refine G_done ?_
   refine G_ret (post := [_]) Tryd.func53 rfl (RVs_cons (RV_tmp rfl) (RVs_cons (RV_tmp rfl) RVs_nil)) [0] rfl ?_
   dsimp only [packed]
   first
     | (obtain ⟨e1, e2⟩ := encF_no (s := s) (by omega); rw [e1, e2]; exact ⟨slNil, own_nil 1, rfl, rfl⟩)
     | (obtain ⟨e1, e2⟩ := encF_yes (s := s) (by omega); obtain rfl : i = manyN s.length := (by omega); rw [e1, e2, piecesF_len]; exact ⟨u, hux, rfl, rfl⟩)
 refine G_skip ?_
 refine G_seq ?_
 refine G_region (l := [0, 1, 2, 3, 4, 5, 6, 7, 8]) rfl ?_
 refine G_val rfl rfl rfl rfl (V_move rfl rfl) ?_
 refine G_val rfl rfl rfl rfl (V_slen rfl rfl Tryd.underlying9 rfl) ?_
 first
   | refine G_val rfl rfl rfl rfl ((V_conv rfl rfl Tryd.underlying3 Tryd.underlying103).int (wrap_u64 (by omega))) ?_
   | refine G_val rfl rfl rfl rfl (V_conv rfl rfl Tryd.underlying3 Tryd.underlying103) ?_
 refine G_call (L2 := [_]) rfl rfl rfl rfl rfl rfl Tryd.call82 (ct_fixedN s.length 2 (by omega) (by omega) (fit2 (by omega)) (by omega)) [] [] rfl rfl ?_
 rintro v post ⟨rfl, rfl⟩
 show G _ _ _ [_] _
 refine G_val rfl rfl rfl rfl (V_move rfl rfl) ?_
 refine G_val rfl rfl rfl rfl (V_extract rfl rfl rfl) ?_
 refine G_val rfl rfl rfl rfl (V_extract rfl rfl rfl) ?_
 refine G_val rfl rfl rfl rfl (V_assign rfl rfl) ?_
 refine G_val rfl rfl rfl rfl (V_assign rfl rfl) ?_
 refine G_done ?_
 refine G_seq ?_
 refine G_region (l := [0, 1, 2, 3, 4, 5, 6, 7, 8, 9, 10]) rfl ?_
 refine G_val rfl rfl rfl rfl (V_move rfl rfl) ?_
 refine G_val rfl rfl rfl rfl (V_move rfl rfl) ?_
 refine G_new rfl rfl rfl rfl (N_buildAll (s := 1) (cs := [_, _]) rfl Tryd.underlying24 infFrameW_9 rfl rfl rfl rfl rfl rfl rfl rfl rfl) (fun b24 => ?_)
 refine G_call (L2 := [_, _]) rfl rfl rfl rfl rfl rfl Tryd.call59 (sum_of (some b24) 0 2 _ _ _ [be 2 s.length, s] (sees_strs b24 2 [be 2 s.length, s] rfl (by omega)) (by intro x hx; simp only [List.mem_cons, List.not_mem_nil, or_false] at hx; rcases hx with rfl | rfl <;> omega)) [] [0] rfl rfl ?_
 rintro v post ⟨rfl, rfl⟩
 show G _ _ _ [_, _] _
 rw [crcW_two]
 first
   | refine G_val rfl rfl rfl rfl ((V_conv rfl rfl Tryd.underlying22 Tryd.underlying103).int (wrap_u64 (by omega))) ?_
   | refine G_val rfl rfl rfl rfl (V_conv rfl rfl Tryd.underlying22 Tryd.underlying103) ?_
 refine G_call (L2 := [_, _]) rfl rfl rfl rfl rfl rfl Tryd.call82 (ct_fixedN (crcN (be 2 s.length ++ s)) 4 (by omega) (by omega) (fit4 (by omega)) (by omega)) [] [] rfl rfl ?_
 rintro v post ⟨rfl, rfl⟩
 show G _ _ _ [_, _] _
 refine G_val rfl rfl rfl rfl (V_move rfl rfl) ?_
 refine G_val rfl rfl rfl rfl (V_extract rfl rfl rfl) ?_
 refine G_val rfl rfl rfl rfl (V_extract rfl rfl rfl) ?_
 refine G_val rfl rfl rfl rfl (V_assign rfl rfl) ?_
 refine G_val rfl rfl rfl rfl (V_assign rfl rfl) ?_
 refine G_done ?_
 refine G_seq ?_
 refine G_region (l := [0, 1, 2, 3, 4, 5]) rfl ?_
 refine G_val rfl rfl rfl rfl (V_move rfl rfl) ?_
 refine G_val rfl rfl rfl rfl (V_slen rfl rfl Tryd.underlying9 rfl) ?_
 refine G_call (L2 := [_, _]) rfl rfl rfl rfl rfl rfl Tryd.call55 (fr_many _ (by omega)) [] [] rfl rfl ?_
 rintro v post ⟨rfl, rfl⟩
 show G _ _ _ [_, _] _
 refine G_val rfl rfl rfl rfl (Val.int (e' := ((manyN s.length * 48 : Nat) : Int)) (V_mul rfl rfl rfl) (mulM _ (by omega))) ?_
 refine G_new rfl rfl rfl rfl (N_make (l := _) (m := _) rfl Tryd.underlying27 infFrameW_5 rfl rfl rfl rfl rfl rfl rfl (by first | decide | omega) (by first | decide | omega | (show 1 * _ ≤ _; omega)) (by first | decide | omega)) (fun b34 => ?_)
 refine G_val rfl rfl rfl rfl (V_assign rfl rfl) ?_
 refine G_done ?_
 refine G_seq ?_
 refine G_region (l := [0, 1, 2, 3, 4, 5, 6]) rfl ?_
 refine G_val rfl rfl rfl rfl (V_move rfl rfl) ?_
 refine G_val rfl rfl rfl rfl (V_move rfl rfl) ?_
 refine G_val rfl rfl rfl rfl (V_move rfl rfl) ?_
 refine G_val rfl rfl rfl rfl (V_sadd rfl rfl rfl (by first | omega | (simp; done) | (simp; omega) | (simp at *; omega))) ?_
 refine G_val rfl rfl rfl rfl (V_move rfl rfl) ?_
 refine G_val rfl rfl rfl rfl (V_sadd rfl rfl rfl (by first | omega | (simp; done) | (simp; omega) | (simp at *; omega))) ?_
 refine G_putV (l1 := []) (L' := [_, _, _]) rfl rfl rfl rfl rfl (P_copyS rfl rfl Tryd.underlying27 infFrameW_5 rfl rfl rfl (mem_at 0 rfl) (by first | omega | (simp; done) | (simp; omega) | (simp at *; omega))) rfl ?_
 rw [show be 2 s.length ++ be 4 (crcN (be 2 s.length ++ s)) ++ s = bytesF s from rfl, laid_pad]
 refine G_done ?_
 refine G_seq ?_
 refine G_region (l := [0]) rfl ?_
 refine G_val rfl rfl rfl rfl (V_assign rfl rfl) ?_
 refine G_done ?_
 refine G_seq ?_
 refine G_seq ?_
 refine G_region (l := [0]) rfl ?_
 refine G_val rfl rfl rfl rfl (V_assign rfl rfl) ?_
 refine G_done ?_
 refine G_block ?_
 refine G_sub ?he9 [2, 0] ?hl9 (G_loop (X := Nat × Sl) (fun x => match x with | ⟨i, u⟩ => i ≤ manyN s.length ∧ Own 1 u ((chunks i (padF s)).map strC) i) (fun x => match x with | ⟨i, u⟩ => manyN s.length - i) (fun x => match x with | ⟨i, u⟩ => [(8, .slice (some ⟨b34, 0, none⟩) (manyN s.length * 48) (manyN s.length * 48)), (9, u.v i), (10, .int .i64 ((48 * i : Nat) : Int))]) (fun x => match x with | ⟨i, u⟩ => [(u.ob, .cells u.cs 9 u.fz), (some b34, .cells (bcells (padF s)).toArray 5 (0, 0))]) ?round9 (0, slNil) ?h09)
 case he9 => exact (And.intro rfl (And.intro rfl (And.intro rfl trivial)))
 case hl9 => exact ⟨_, rfl⟩
 case h09 => exact ⟨Nat.zero_le _, own_nil 1⟩
 case round9 =>
  intro x hJ ih
  try dsimp only at hJ ih
  obtain ⟨i, u⟩ := x
  try dsimp only at hJ ih
  obtain ⟨hi, hux⟩ := hJ
  show G _ _ [(8, .slice (some ⟨b34, 0, none⟩) (manyN s.length * 48) (manyN s.length * 48)), (9, u.v i), (10, .int .i64 ((48 * i : Nat) : Int))] [(u.ob, .cells u.cs 9 u.fz), (some b34, .cells (bcells (padF s)).toArray 5 (0, 0))] _
  refine G_seq ?_
  refine G_seq ?_
  refine G_region (l := [0, 1, 2, 3]) rfl ?_
  refine G_val rfl rfl rfl rfl (V_move rfl rfl) ?_
  refine G_val rfl rfl rfl rfl (V_move rfl rfl) ?_
  refine G_val rfl rfl rfl rfl (V_len rfl rfl Tryd.underlying27 rfl) ?_
  refine G_val rfl rfl rfl rfl (V_lss rfl rfl rfl) ?_
  refine G_done ?_
  refine G_ifD rfl (fun hc2 => ?_) (fun hc2 => ?_)
  · skip
    refine G_skip ?_
    refine G_seq ?_
    refine G_block ?_
    have hi2 : i < manyN s.length := by omega
    refine G_region (l := [0, 1, 2, 3, 4, 5, 6, 7, 8, 9, 10, 11]) rfl ?_
    refine G_val rfl rfl rfl rfl (V_move rfl rfl) ?_
    refine G_val rfl rfl rfl rfl (V_move rfl rfl) ?_
    refine G_val rfl rfl rfl rfl (V_move rfl rfl) ?_
    refine G_val rfl rfl rfl rfl (V_move rfl rfl) ?_
    refine G_val rfl rfl rfl rfl (Val.int (e' := ((48 * i + 48 : Nat) : Int)) (V_add rfl rfl rfl) (add48 _ (by omega))) ?_
    refine G_val rfl rfl rfl rfl (V_move rfl rfl) ?_
    refine G_val rfl rfl rfl rfl (Val.int (e' := ((48 * i + 48 : Nat) : Int)) (V_add rfl rfl rfl) (add48 _ (by omega))) ?_
    refine G_val rfl rfl rfl rfl (V_sliceLHM (lo := _) (hi := _) (mx := _) rfl Tryd.underlying27 infFrameW_5 rfl rfl rfl rfl rfl rfl rfl rfl (by first | omega | (simp; done) | (simp; omega) | (simp at *; omega)) (by first | omega | (simp; done) | (simp; omega) | (simp at *; omega)) (by first | omega | (simp; done) | (simp; omega) | (simp at *; omega))) ?_
    refine G_val rfl rfl rfl rfl (V_bytesS (l := ((padF s).drop (48 * i)).take 48) rfl rfl Tryd.underlying27 Tryd.underlying5 Tryd.underlying9 (mem_at 1 rfl) (piece_len s hi2) (piece_cells s hi2)) ?_
    refine G_new rfl rfl rfl rfl (N_buildAll (s := 1) (cs := [_]) rfl Tryd.underlying24 infFrameW_9 rfl rfl rfl rfl rfl rfl rfl rfl rfl) (fun b57 => ?_)
    refine G_append (l1 := [_]) (s := u) (nn := i) (m := 1) (news := [strC (((padF s).drop (48 * i)).take 48)]) (bt := 16) rfl rfl rfl rfl Tryd.underlying24 Tryd.underlying24 (by first | exact .inl rfl | exact .inr ⟨_, rfl⟩) infFrameW_9 rfl rfl rfl rfl rfl rfl hux rfl (src_mem (mem_at 0 rfl) rfl rfl (by simp [strC, Value.oneCell'])) (by omega) (by omega) ?_
    intro u1 hu1 _
    show G _ _ _ [_, _, _] _
    refine G_val rfl rfl rfl rfl (V_assign rfl rfl) ?_
    refine G_done ?_
    refine G_inBlock ?_
    refine G_region (l := [0, 1, 2]) rfl ?_
    refine G_val rfl rfl rfl rfl (V_move rfl rfl) ?_
    first
      | refine G_val rfl rfl rfl rfl ((V_add rfl rfl rfl).int (wrap_i64 (by omega))) ?_
      | refine G_val rfl rfl rfl rfl (V_add rfl rfl rfl) ?_
    refine G_val rfl rfl rfl rfl (V_assign rfl rfl) ?_
    refine G_done ?_
    refine G_sub ?_ [1, 1] ?_ (ih (i + 1, u1) ?_ ?_)
    · (refine (And.intro ?_ (And.intro ?_ (And.intro ?_ trivial))) <;> first | rfl | exact slot_int (by omega) | exact slot_int (by simp))
    · exact ⟨_, rfl⟩
    · exact ⟨by omega, by rw [chunks_next, List.map_append]; exact hu1⟩
    · (first | omega | (dsimp only; omega))
  refine G_exit rfl ?_
  refine G_seq ?_
  refine G_region (l := [0, 1, 2]) rfl ?_
  refine G_val rfl rfl rfl rfl (V_move rfl rfl) ?_
  refine G_val rfl rfl rfl rfl (V_assign rfl rfl) ?_
  refine G_val rfl rfl rfl rfl (V_assign rfl rfl) ?_
  refine G_done ?_
  refine G_ret (post := [_]) Tryd.func53 rfl (RVs_cons (RV_tmp rfl) (RVs_cons (RV_tmp rfl) RVs_nil)) [0] rfl ?_
  dsimp only [packed]
  first
    | (obtain ⟨e1, e2⟩ := encF_no (s := s) (by omega); rw [e1, e2]; exact ⟨slNil, own_nil 1, rfl, rfl⟩)
    | (obtain ⟨e1, e2⟩ := encF_yes (s := s) (by omega); obtain rfl : i = manyN s.length := (by omega); rw [e1, e2, piecesF_len]; exact ⟨u, hux, rfl, rfl⟩)

set_option maxRecDepth 100000 in
set_option maxHeartbeats 1000000 in
theorem rfr_encode (s : List UInt8) (h : s.length ≤ 9223372036854775000) :
    Ct Tryd.prog 13 [.string (bs s)] [] [] fun v post => ∃ u : Sl, Own 1 u ((encF s).map strC) (encF s).length ∧ v = .tuple #[u.v (encF s).length, .int .i64 (encFE s)] ∧ post = [(u.ob, .cells u.cs 9 u.fz)] := by
 have hm := manyN_room s.length
 have hpl := padF_len s
 have hbl := bytesF_len s
 refine ct_of Tryd.func13 rfl rfl (fun w0 => ?_)
 show G _ _ [(0, _)] _ _
 refine G_seq ?_
 refine G_region (l := [0, 1]) rfl ?_
 refine G_val rfl rfl rfl rfl (V_assign rfl rfl) ?_
 refine G_val rfl rfl rfl rfl (V_assign rfl rfl) ?_
 refine G_done ?_
 refine G_seq ?_
 refine G_seq ?_
 refine G_addNone (.cells #[] 9 (0, 0)) ?_
 refine G_region (l := [0, 1, 2]) rfl ?_
 refine G_val rfl rfl rfl rfl (V_move rfl rfl) ?_
 refine G_val rfl rfl rfl rfl (V_slen rfl rfl Tryd.underlying9 rfl) ?_
 refine G_val rfl rfl rfl rfl (V_gtr rfl rfl rfl) ?_
 refine G_done ?_
 refine G_ifD rfl (fun hc1 => ?_) (fun hc1 => ?_)
 · skip
   refine G_seq ?_
   refine G_region (l := [0, 1]) rfl ?_
   refine G_val rfl rfl rfl rfl (V_assign rfl rfl) ?_
   refine G_val rfl rfl rfl rfl (V_assign rfl rfl) ?_
   refine G_done ?_
   refine G_ret (post := [_]) Tryd.func13 rfl (RVs_cons (RV_tmp rfl) (RVs_cons (RV_tmp rfl) RVs_nil)) [0] rfl ?_
   dsimp only [packed]
   first
     | (obtain ⟨e1, e2⟩ := encF_no (s := s) (by omega); rw [e1, e2]; exact ⟨slNil, own_nil 1, rfl, rfl⟩)
     | (obtain ⟨e1, e2⟩ := encF_yes (s := s) (by omega); obtain rfl : i = manyN s.length := (by omega); rw [e1, e2, piecesF_len]; exact ⟨u, hux, rfl, rfl⟩)
 refine G_skip ?_
 refine G_seq ?_
 refine G_region (l := [0, 1, 2]) rfl ?_
 refine G_val rfl rfl rfl rfl (V_move rfl rfl) ?_
 refine G_call (L2 := [_]) rfl rfl rfl rfl rfl rfl Tryd.call54 (rfr_bytes _ (by first | omega | (simp; done) | (simp; omega) | (simp at *; omega))) [] [] rfl rfl ?_
 rintro v post ⟨rfl, rfl⟩
 show G _ _ _ [_] _
 refine G_val rfl rfl rfl rfl (V_assign rfl rfl) ?_
 refine G_done ?_
 refine G_seq ?_
 refine G_block ?_
 refine G_sub ?he4 [] ?hl4 (G_loop (X := Nat) (fun k => 6 + s.length + k ≤ 48 * manyN s.length) (fun k => 48 * manyN s.length - k) (fun k => [(4, .string (bs (bytesF s ++ List.replicate k 0))), (0, .string (bs s))]) (fun k => []) ?round4 0 ?h04)
 case he4 => (rw [List.replicate_zero, List.append_nil]; exact ⟨rfl, rfl, trivial⟩)
 case hl4 => exact ⟨_, rfl⟩
 case h04 => omega
 case round4 =>
  intro k hJ ih
  try dsimp only at hJ ih
  have hll : (bytesF s ++ List.replicate k 0).length = 6 + s.length + k := by simp [hbl]
  refine G_seq ?_
  refine G_seq ?_
  refine G_region (l := [0, 1, 2, 3, 4, 5, 6]) rfl ?_
  refine G_val rfl rfl rfl rfl (V_move rfl rfl) ?_
  refine G_val rfl rfl rfl rfl (V_slen rfl rfl Tryd.underlying9 rfl) ?_
  refine G_val rfl rfl rfl rfl (V_move rfl rfl) ?_
  refine G_val rfl rfl rfl rfl (V_slen rfl rfl Tryd.underlying9 rfl) ?_
  refine G_call (L2 := []) rfl rfl rfl rfl rfl rfl Tryd.call39 (rfr_many s.length (by omega)) [] [] rfl rfl ?_
  rintro v post ⟨rfl, rfl⟩
  refine G_val rfl rfl rfl rfl (Val.int (e' := ((48 * manyN s.length : Nat) : Int)) (V_mul rfl rfl rfl) (mul48 _ (by omega))) ?_
  refine G_val rfl rfl rfl rfl (V_lss rfl rfl rfl) ?_
  refine G_done ?_
  refine G_ifD rfl (fun hc2 => ?_) (fun hc2 => ?_)
  · skip
    refine G_skip ?_
    refine G_block ?_
    refine G_region (l := [0, 1, 2]) rfl ?_
    refine G_val rfl rfl rfl rfl (V_move rfl rfl) ?_
    refine G_val rfl rfl rfl rfl (V_sadd rfl rfl rfl (by first | omega | (simp; done) | (simp; omega) | (simp at *; omega))) ?_
    rw [pad_next]
    refine G_val rfl rfl rfl rfl (V_assign rfl rfl) ?_
    refine G_done ?_
    refine G_inBlock ?_
    refine G_sub ?_ [] ?_ (ih (k + 1) ?_ ?_)
    · (refine (And.intro ?_ (And.intro ?_ trivial)) <;> first | rfl | exact slot_int (by omega) | exact slot_int (by simp))
    · exact ⟨_, rfl⟩
    · omega
    · omega
  refine G_exit rfl ?_
  refine G_seq ?_
  obtain rfl : k = 48 * manyN s.length - (6 + s.length) := by simp only [List.length_append, List.length_replicate, hbl] at *; omega
  rw [show bytesF s ++ List.replicate (48 * manyN s.length - (6 + s.length)) 0 = padF s from rfl]
  refine G_region (l := [0, 1]) rfl ?_
  refine G_new rfl rfl rfl rfl (N_build0 rfl Tryd.underlying24 infFrameW_9) (fun b21 => ?_)
  refine G_val rfl rfl rfl rfl (V_assign rfl rfl) ?_
  refine G_done ?_
  refine G_seq ?_
  refine G_seq ?_
  refine G_region (l := [0]) rfl ?_
  refine G_val rfl rfl rfl rfl (V_assign rfl rfl) ?_
  refine G_done ?_
  refine G_block ?_
  refine G_sub ?he8 [0] ?hl8 (G_loop (X := Nat × Sl) (fun x => match x with | ⟨i, u⟩ => i ≤ manyN s.length ∧ Own 1 u ((chunks i (padF s)).map strC) i) (fun x => match x with | ⟨i, u⟩ => manyN s.length - i) (fun x => match x with | ⟨i, u⟩ => [(0, .string (bs s)), (4, .string (bs (padF s))), (5, u.v i), (6, .int .i64 (i : Int))]) (fun x => match x with | ⟨i, u⟩ => [(u.ob, .cells u.cs 9 u.fz)]) ?round8 (0, ⟨some b21, #[], (0, 0), 0⟩) ?h08)
  case he8 => exact (And.intro rfl (And.intro rfl (And.intro rfl (And.intro rfl trivial))))
  case hl8 => exact ⟨_, rfl⟩
  case h08 => exact ⟨Nat.zero_le _, own_empty 1 b21⟩
  case round8 =>
   intro x hJ ih
   try dsimp only at hJ ih
   obtain ⟨i, u⟩ := x
   try dsimp only at hJ ih
   obtain ⟨hi, hux⟩ := hJ
   show G _ _ [(0, .string (bs s)), (4, .string (bs (padF s))), (5, u.v i), (6, .int .i64 (i : Int))] [(u.ob, .cells u.cs 9 u.fz)] _
   refine G_seq ?_
   refine G_seq ?_
   refine G_region (l := [0, 1, 2, 3, 4]) rfl ?_
   refine G_val rfl rfl rfl rfl (V_move rfl rfl) ?_
   refine G_val rfl rfl rfl rfl (V_move rfl rfl) ?_
   refine G_val rfl rfl rfl rfl (V_slen rfl rfl Tryd.underlying9 rfl) ?_
   refine G_call (L2 := [_]) rfl rfl rfl rfl rfl rfl Tryd.call39 (rfr_many s.length (by omega)) [] [] rfl rfl ?_
   rintro v post ⟨rfl, rfl⟩
   show G _ _ _ [_] _
   refine G_val rfl rfl rfl rfl (V_lss rfl rfl rfl) ?_
   refine G_done ?_
   refine G_ifD rfl (fun hc3 => ?_) (fun hc3 => ?_)
   · skip
     refine G_skip ?_
     refine G_seq ?_
     refine G_block ?_
     have hi2 : i < manyN s.length := by omega
     refine G_region (l := [0, 1, 2, 3, 4, 5, 6, 7, 8, 9, 10]) rfl ?_
     refine G_val rfl rfl rfl rfl (V_move rfl rfl) ?_
     refine G_val rfl rfl rfl rfl (V_move rfl rfl) ?_
     refine G_val rfl rfl rfl rfl (V_move rfl rfl) ?_
     refine G_val rfl rfl rfl rfl (Val.int (e' := ((48 * i : Nat) : Int)) (V_mul rfl rfl rfl) (mul48 _ (by omega))) ?_
     refine G_val rfl rfl rfl rfl (V_move rfl rfl) ?_
     refine G_val rfl rfl rfl rfl (Val.int (e' := ((48 * i : Nat) : Int)) (V_mul rfl rfl rfl) (mul48 _ (by omega))) ?_
     refine G_val rfl rfl rfl rfl (Val.int (e' := ((48 * i + 48 : Nat) : Int)) (V_add rfl rfl rfl) (add48 _ (by omega))) ?_
     first
       | refine G_val rfl rfl rfl rfl (V_ssliceN (lo := _) (hi := _) rfl Tryd.underlying9 rfl rfl rfl rfl rfl (by first | omega | (simp; done) | (simp; omega) | (simp at *; omega)) (by first | omega | (simp; done) | (simp; omega) | (simp at *; omega))) ?_
       | refine G_val rfl rfl rfl rfl (V_sslice rfl Tryd.underlying9 rfl rfl rfl (by first | omega | (simp; done) | (simp; omega) | (simp at *; omega)) (by first | omega | (simp; done) | (simp; omega) | (simp at *; omega)) (by first | omega | (simp; done) | (simp; omega) | (simp at *; omega))) ?_
     rw [piece_cut]
     refine G_new rfl rfl rfl rfl (N_buildAll (s := 1) (cs := [_]) rfl Tryd.underlying24 infFrameW_9 rfl rfl rfl rfl rfl rfl rfl rfl rfl) (fun b37 => ?_)
     refine G_append (l1 := [_]) (s := u) (nn := i) (m := 1) (news := [strC (((padF s).drop (48 * i)).take 48)]) (bt := 16) rfl rfl rfl rfl Tryd.underlying24 Tryd.underlying24 (by first | exact .inl rfl | exact .inr ⟨_, rfl⟩) infFrameW_9 rfl rfl rfl rfl rfl rfl hux rfl (src_mem (mem_at 0 rfl) rfl rfl (by simp [strC, Value.oneCell'])) (by omega) (by omega) ?_
     intro u1 hu1 _
     show G _ _ _ [_, _] _
     refine G_val rfl rfl rfl rfl (V_assign rfl rfl) ?_
     refine G_done ?_
     refine G_inBlock ?_
     refine G_region (l := [0, 1, 2]) rfl ?_
     refine G_val rfl rfl rfl rfl (V_move rfl rfl) ?_
     first
       | refine G_val rfl rfl rfl rfl ((V_add rfl rfl rfl).int (wrap_i64 (by omega))) ?_
       | refine G_val rfl rfl rfl rfl (V_add rfl rfl rfl) ?_
     refine G_val rfl rfl rfl rfl (V_assign rfl rfl) ?_
     refine G_done ?_
     refine G_sub ?_ [1] ?_ (ih (i + 1, u1) ?_ ?_)
     · (refine (And.intro ?_ (And.intro ?_ (And.intro ?_ (And.intro ?_ trivial)))) <;> first | rfl | exact slot_int (by omega) | exact slot_int (by simp))
     · exact ⟨_, rfl⟩
     · exact ⟨by omega, by rw [chunks_next, List.map_append]; exact hu1⟩
     · (first | omega | (dsimp only; omega))
   refine G_exit rfl ?_
   refine G_seq ?_
   refine G_region (l := [0, 1, 2]) rfl ?_
   refine G_val rfl rfl rfl rfl (V_move rfl rfl) ?_
   refine G_val rfl rfl rfl rfl (V_assign rfl rfl) ?_
   refine G_val rfl rfl rfl rfl (V_assign rfl rfl) ?_
   refine G_done ?_
   refine G_ret (post := [_]) Tryd.func13 rfl (RVs_cons (RV_tmp rfl) (RVs_cons (RV_tmp rfl) RVs_nil)) [0] rfl ?_
   dsimp only [packed]
   first
     | (obtain ⟨e1, e2⟩ := encF_no (s := s) (by omega); rw [e1, e2]; exact ⟨slNil, own_nil 1, rfl, rfl⟩)
     | (obtain ⟨e1, e2⟩ := encF_yes (s := s) (by omega); obtain rfl : i = manyN s.length := (by omega); rw [e1, e2, piecesF_len]; exact ⟨u, hux, rfl, rfl⟩)

end
end Go.Proofs.YtbblkgdejgoncaaDoor

/- The walks of layer 25: texts joined, trimmed; the record of pieces. -/
set_option linter.unusedSimpArgs false
set_option linter.unusedVariables false
namespace Go.Proofs.YtbblkgdejgoncaaDoor
open Go Go.RowKit

section
theorem infFrameX_9 : Tryd.prog.info? 9 = some Tryd.t9 := by kernel_rfl
theorem infFrameX_120 : Tryd.prog.info? 120 = some Tryd.t120 := by kernel_rfl


theorem flat_next {ls : List (List UInt8)} {i : Nat} {s : List UInt8} (h : ls[i]? = some s) : (ls.take (i + 1)).flatten = (ls.take i).flatten ++ s := by
  rw [take_succ_of h, List.flatten_append]; simp
theorem flat_le (ls : List (List UInt8)) (i : Nat) : (ls.take i).flatten.length ≤ ls.flatten.length := by
  conv => rhs; rw [← List.take_append_drop i ls, List.flatten_append, List.length_append]
  omega
theorem join_one {ls : List (List UInt8)} {s : List UInt8} (h : ls[0]? = some s) (h1 : ls.length = 1) : ls.flatten = s := by
  match ls, h1, h with
  | [x], _, h => simp at h; subst h; simp
theorem flat_first {ls : List (List UInt8)} {s : List UInt8} (h : ls[0]? = some s) : s = (ls.take (0 + 1)).flatten := by
  rw [flat_next h]; simp
def trimL (l : List UInt8) : List UInt8 := l.dropWhile (· == 0)
def trimR (l : List UInt8) : List UInt8 := (l.reverse.dropWhile (· == 0)).reverse
theorem trimL_drop {t : List UInt8} (h0 : 0 < t.length) (h1 : ((t.getD (Int.toNat 0) 0).toNat : Int) = 0) : trimL (t.drop 1) = trimL t := by
  match t, h0, h1 with
  | c :: r, _, h1 =>
    have hc : c = 0 := UInt8.toNat_inj.1 (by simpa using h1)
    subst hc; rfl
theorem trimL_stop {t : List UInt8} (h1 : ¬ ((t.getD (Int.toNat 0) 0).toNat : Int) = 0) : trimL t = t := by
  match t, h1 with
  | [], _ => rfl
  | c :: r, h1 =>
    have hc : ¬ c = 0 := fun e => h1 (by subst e; rfl)
    unfold trimL; rw [List.dropWhile_cons_of_neg (by simpa using hc)]
theorem trimL_nil {t : List UInt8} (h : t.length = 0) : trimL t = t := by
  rw [List.length_eq_zero_iff.1 h]; rfl
theorem trimR_take {t : List UInt8} (h0 : 0 < t.length) (h1 : ((t.getD (t.length - 1) 0).toNat : Int) = 0) : trimR (t.take (t.length - 1)) = trimR t := by
  obtain ⟨m, c, rfl⟩ : ∃ m c, t = m ++ [c] := ⟨t.dropLast, t.getLast (by intro h; simp [h] at h0), (List.dropLast_concat_getLast _).symm⟩
  have hc : c = 0 := UInt8.toNat_inj.1 (by simpa [List.getD] using h1)
  subst hc
  rw [List.length_append, List.length_singleton, Nat.add_sub_cancel, List.take_left' rfl]
  unfold trimR; simp
theorem trimR_stop {t : List UInt8} (h0 : 0 < t.length) (h1 : ¬ ((t.getD (t.length - 1) 0).toNat : Int) = 0) : trimR t = t := by
  obtain ⟨m, c, rfl⟩ : ∃ m c, t = m ++ [c] := ⟨t.dropLast, t.getLast (by intro h; simp [h] at h0), (List.dropLast_concat_getLast _).symm⟩
  have hc : ¬ c = 0 := fun e => h1 (by subst e; simp [List.getD])
  unfold trimR
  rw [List.reverse_append, List.reverse_singleton, List.singleton_append, List.dropWhile_cons_of_neg (by simpa using hc)]
  simp
theorem trimR_nil {t : List UInt8} (h : t.length = 0) : trimR t = t := by
  rw [List.length_eq_zero_iff.1 h]; rfl
theorem dropWhile_nil : ∀ l : List UInt8, l.dropWhile (· == 0) = [] ↔ ∀ x ∈ l, (x == 0) = true
  | [] => by simp
  | c :: r => by
    by_cases hc : c = 0
    · subst hc
      rw [List.dropWhile_cons_of_pos (by rfl), dropWhile_nil r]; simp
    · rw [List.dropWhile_cons_of_neg (by simpa using hc)]; simp [hc]
theorem drop_all : ∀ l : List UInt8, (∀ x ∈ l.dropWhile (· == 0), x = 0) → ∀ x ∈ l, x = 0
  | [], _ => by simp
  | c :: r, h => by
    by_cases hc : c = 0
    · subst hc
      rw [List.dropWhile_cons_of_pos (by rfl)] at h
      intro x hx
      rcases List.mem_cons.1 hx with rfl | hx
      · rfl
      · exact drop_all r h x hx
    · rwa [List.dropWhile_cons_of_neg (by simpa using hc)] at h
theorem trim_nil (l : List UInt8) : trimL (trimR l) = [] ↔ ∀ x ∈ l, x = 0 := by
  unfold trimL trimR
  rw [dropWhile_nil]
  constructor
  · intro h x hx
    exact drop_all l.reverse (fun y hy => by simpa using h y (List.mem_reverse.2 hy)) x (List.mem_reverse.2 hx)
  · intro h x hx
    have := h x (List.mem_reverse.1 ((List.dropWhile_sublist _).mem (List.mem_reverse.1 hx)))
    simpa using this

set_option maxRecDepth 100000 in
set_option maxHeartbeats 1000000 in
theorem str_trimL (l : List UInt8) (h : l.length ≤ 9223372036854775807) :
    Ct Tryd.prog 87 [.string (bs l), .int .u8 0] [] [] fun v post => v = .string (bs (trimL l)) ∧ post = [] := by
 refine ct_of Tryd.func87 rfl rfl (fun w0 => ?_)
 show G _ _ [(0, _), (1, _)] _ _
 refine G_seq ?_
 refine G_region (l := [0]) rfl ?_
 refine G_val rfl rfl rfl rfl (V_assign rfl rfl) ?_
 refine G_done ?_
 refine G_seq ?_
 refine G_block ?_
 refine G_sub ?he1 [] ?hl1 (G_loop (X := List UInt8) (fun t => trimL t = trimL l ∧ t.length ≤ l.length) (fun t => t.length) (fun t => [(0, .string (bs t)), (1, .int .u8 0)]) (fun t => []) ?round1 l ?h01)
 case he1 => exact (And.intro rfl (And.intro rfl trivial))
 case hl1 => exact ⟨_, rfl⟩
 case h01 => exact ⟨rfl, Nat.le_refl _⟩
 case round1 =>
  intro t hJ ih
  try dsimp only at hJ ih
  obtain ⟨hJ1, hJ2⟩ := hJ
  refine G_seq ?_
  refine G_seq ?_
  refine G_region (l := [0, 1, 2, 3, 4, 5, 6, 7, 8]) rfl ?_
  refine G_val rfl rfl rfl rfl (V_move rfl rfl) ?_
  refine G_val rfl rfl rfl rfl (V_slen rfl rfl Tryd.underlying9 rfl) ?_
  refine G_val rfl rfl rfl rfl (V_gtr rfl rfl rfl) ?_
  refine G_val rfl rfl rfl rfl (V_move rfl rfl) ?_
  refine G_splitD 8 rfl (fun hc1 => ?_) (fun hc1 => ?_)
  · skip
    refine G_val rfl rfl rfl rfl (V_move rfl rfl) ?_
    first
      | refine G_val rfl rfl rfl rfl (V_sindexN rfl Tryd.underlying9 rfl rfl rfl (by omega)) ?_
      | refine G_val rfl rfl rfl rfl (V_sindexD rfl Tryd.underlying9 rfl rfl (by omega) (by first | omega | (simp; done) | (simp; omega) | (simp at *; omega))) ?_
    refine G_val rfl rfl rfl rfl (V_move rfl rfl) ?_
    refine G_val rfl rfl rfl rfl (V_eql rfl rfl rfl) ?_
    refine G_val rfl rfl rfl rfl (V_pickT rfl rfl rfl) ?_
    refine G_done ?_
    refine G_ifD rfl (fun hc2 => ?_) (fun hc2 => ?_)
    · skip
      refine G_skip ?_
      refine G_block ?_
      refine G_region (l := [0, 1, 2]) rfl ?_
      refine G_val rfl rfl rfl rfl (V_move rfl rfl) ?_
      first
        | refine G_val rfl rfl rfl rfl (V_ssliceLN (lo := 1) rfl Tryd.underlying9 rfl rfl rfl (by first | omega | (simp; done) | (simp; omega) | (simp at *; omega))) ?_
        | refine G_val rfl rfl rfl rfl (V_ssliceL rfl Tryd.underlying9 rfl rfl (by first | omega | (simp; done) | (simp; omega) | (simp at *; omega)) (by first | omega | (simp; done) | (simp; omega) | (simp at *; omega))) ?_
      refine G_val rfl rfl rfl rfl (V_assign rfl rfl) ?_
      refine G_done ?_
      refine G_inBlock ?_
      refine G_sub ?_ [] ?_ (ih (t.drop 1) ?_ ?_)
      · (refine (And.intro ?_ (And.intro ?_ trivial)) <;> first | rfl | exact slot_int (by omega) | exact slot_int (by simp))
      · exact ⟨_, rfl⟩
      · exact ⟨by rw [trimL_drop (by omega) (by assumption)]; exact hJ1, by simp; omega⟩
      · (simp; omega)
    refine G_exit rfl ?_
    refine G_seq ?_
    refine G_region (l := [0, 1]) rfl ?_
    refine G_val rfl rfl rfl rfl (V_move rfl rfl) ?_
    refine G_val rfl rfl rfl rfl (V_assign rfl rfl) ?_
    refine G_done ?_
    refine G_ret (post := []) Tryd.func87 rfl (RVs_cons (RV_tmp rfl) RVs_nil) [] rfl ?_
    dsimp only [packed]
    first | exact ⟨by rw [← hJ1, trimL_nil (by omega)], rfl⟩ | exact ⟨by rw [← hJ1, trimL_stop (by assumption)], rfl⟩
  refine G_off rfl rfl rfl rfl ?_
  refine G_off rfl rfl rfl rfl ?_
  refine G_off rfl rfl rfl rfl ?_
  refine G_off rfl rfl rfl rfl ?_
  refine G_val rfl rfl rfl rfl (V_pickF rfl rfl rfl) ?_
  refine G_done ?_
  refine G_else rfl ?_
  refine G_exit rfl ?_
  refine G_seq ?_
  refine G_region (l := [0, 1]) rfl ?_
  refine G_val rfl rfl rfl rfl (V_move rfl rfl) ?_
  refine G_val rfl rfl rfl rfl (V_assign rfl rfl) ?_
  refine G_done ?_
  refine G_ret (post := []) Tryd.func87 rfl (RVs_cons (RV_tmp rfl) RVs_nil) [] rfl ?_
  dsimp only [packed]
  first | exact ⟨by rw [← hJ1, trimL_nil (by omega)], rfl⟩ | exact ⟨by rw [← hJ1, trimL_stop (by assumption)], rfl⟩

set_option maxRecDepth 100000 in
set_option maxHeartbeats 1000000 in
theorem str_trimR (l : List UInt8) (h : l.length ≤ 9223372036854775807) :
    Ct Tryd.prog 88 [.string (bs l), .int .u8 0] [] [] fun v post => v = .string (bs (trimR l)) ∧ post = [] := by
 refine ct_of Tryd.func88 rfl rfl (fun w0 => ?_)
 show G _ _ [(0, _), (1, _)] _ _
 refine G_seq ?_
 refine G_region (l := [0]) rfl ?_
 refine G_val rfl rfl rfl rfl (V_assign rfl rfl) ?_
 refine G_done ?_
 refine G_seq ?_
 refine G_block ?_
 refine G_sub ?he1 [] ?hl1 (G_loop (X := List UInt8) (fun t => trimR t = trimR l ∧ t.length ≤ l.length) (fun t => t.length) (fun t => [(0, .string (bs t)), (1, .int .u8 0)]) (fun t => []) ?round1 l ?h01)
 case he1 => exact (And.intro rfl (And.intro rfl trivial))
 case hl1 => exact ⟨_, rfl⟩
 case h01 => exact ⟨rfl, Nat.le_refl _⟩
 case round1 =>
  intro t hJ ih
  try dsimp only at hJ ih
  obtain ⟨hJ1, hJ2⟩ := hJ
  refine G_seq ?_
  refine G_seq ?_
  refine G_region (l := [0, 1, 2, 3, 4, 5, 6, 7, 8, 9, 10, 11]) rfl ?_
  refine G_val rfl rfl rfl rfl (V_move rfl rfl) ?_
  refine G_val rfl rfl rfl rfl (V_slen rfl rfl Tryd.underlying9 rfl) ?_
  refine G_val rfl rfl rfl rfl (V_gtr rfl rfl rfl) ?_
  refine G_val rfl rfl rfl rfl (V_move rfl rfl) ?_
  refine G_splitD 8 rfl (fun hc1 => ?_) (fun hc1 => ?_)
  · skip
    refine G_val rfl rfl rfl rfl (V_move rfl rfl) ?_
    refine G_val rfl rfl rfl rfl (V_move rfl rfl) ?_
    refine G_val rfl rfl rfl rfl (V_slen rfl rfl Tryd.underlying9 rfl) ?_
    refine G_val rfl rfl rfl rfl (Val.int (e' := ((t.length - 1 : Nat) : Int)) (V_sub rfl rfl rfl) (by rw [wrap_i64 (by omega)]; omega)) ?_
    first
      | refine G_val rfl rfl rfl rfl (V_sindexN rfl Tryd.underlying9 rfl rfl rfl (by omega)) ?_
      | refine G_val rfl rfl rfl rfl (V_sindexD rfl Tryd.underlying9 rfl rfl (by omega) (by first | omega | (simp; done) | (simp; omega) | (simp at *; omega))) ?_
    refine G_val rfl rfl rfl rfl (V_move rfl rfl) ?_
    refine G_val rfl rfl rfl rfl (V_eql rfl rfl rfl) ?_
    refine G_val rfl rfl rfl rfl (V_pickT rfl rfl rfl) ?_
    refine G_done ?_
    refine G_ifD rfl (fun hc2 => ?_) (fun hc2 => ?_)
    · skip
      refine G_skip ?_
      refine G_block ?_
      refine G_region (l := [0, 1, 2, 3, 4, 5]) rfl ?_
      refine G_val rfl rfl rfl rfl (V_move rfl rfl) ?_
      refine G_val rfl rfl rfl rfl (V_move rfl rfl) ?_
      refine G_val rfl rfl rfl rfl (V_slen rfl rfl Tryd.underlying9 rfl) ?_
      refine G_val rfl rfl rfl rfl (Val.int (e' := ((t.length - 1 : Nat) : Int)) (V_sub rfl rfl rfl) (by rw [wrap_i64 (by omega)]; omega)) ?_
      first
        | refine G_val rfl rfl rfl rfl (V_ssliceHN (hi := _) rfl Tryd.underlying9 rfl rfl rfl (by first | omega | (simp; done) | (simp; omega) | (simp at *; omega))) ?_
        | refine G_val rfl rfl rfl rfl (V_ssliceH rfl Tryd.underlying9 rfl rfl (by first | omega | (simp; done) | (simp; omega) | (simp at *; omega)) (by first | omega | (simp; done) | (simp; omega) | (simp at *; omega))) ?_
      refine G_val rfl rfl rfl rfl (V_assign rfl rfl) ?_
      refine G_done ?_
      refine G_inBlock ?_
      refine G_sub ?_ [] ?_ (ih (t.take (t.length - 1)) ?_ ?_)
      · (refine (And.intro ?_ (And.intro ?_ trivial)) <;> first | rfl | exact slot_int (by omega) | exact slot_int (by simp))
      · exact ⟨_, rfl⟩
      · exact ⟨by rw [trimR_take (by omega) (by assumption)]; exact hJ1, by simp; omega⟩
      · (simp; omega)
    refine G_exit rfl ?_
    refine G_seq ?_
    refine G_region (l := [0, 1]) rfl ?_
    refine G_val rfl rfl rfl rfl (V_move rfl rfl) ?_
    refine G_val rfl rfl rfl rfl (V_assign rfl rfl) ?_
    refine G_done ?_
    refine G_ret (post := []) Tryd.func88 rfl (RVs_cons (RV_tmp rfl) RVs_nil) [] rfl ?_
    dsimp only [packed]
    first | exact ⟨by rw [← hJ1, trimR_nil (by omega)], rfl⟩ | exact ⟨by rw [← hJ1, trimR_stop (by omega) (by assumption)], rfl⟩
  refine G_off rfl rfl rfl rfl ?_
  refine G_off rfl rfl rfl rfl ?_
  refine G_off rfl rfl rfl rfl ?_
  refine G_off rfl rfl rfl rfl ?_
  refine G_off rfl rfl rfl rfl ?_
  refine G_off rfl rfl rfl rfl ?_
  refine G_off rfl rfl rfl rfl ?_
  refine G_val rfl rfl rfl rfl (V_pickF rfl rfl rfl) ?_
  refine G_done ?_
  refine G_else rfl ?_
  refine G_exit rfl ?_
  refine G_seq ?_
  refine G_region (l := [0, 1]) rfl ?_
  refine G_val rfl rfl rfl rfl (V_move rfl rfl) ?_
  refine G_val rfl rfl rfl rfl (V_assign rfl rfl) ?_
  refine G_done ?_
  refine G_ret (post := []) Tryd.func88 rfl (RVs_cons (RV_tmp rfl) RVs_nil) [] rfl ?_
  dsimp only [packed]
  first | exact ⟨by rw [← hJ1, trimR_nil (by omega)], rfl⟩ | exact ⟨by rw [← hJ1, trimR_stop (by omega) (by assumption)], rfl⟩


theorem trimR_len (l : List UInt8) : (trimR l).length ≤ l.length := by
  unfold trimR
  have := (List.dropWhile_sublist (p := (· == (0 : UInt8))) (l := l.reverse)).length_le
  rw [List.length_reverse] at this ⊢
  exact this

set_option maxRecDepth 100000 in
set_option maxHeartbeats 1000000 in
theorem str_trim (l : List UInt8) (h : l.length ≤ 9223372036854775807) :
    Ct Tryd.prog 60 [.string (bs l), .string (bs [0])] [] [] fun v post => v = .string (bs (trimL (trimR l))) ∧ post = [] := by
 have hr := trimR_len l
 refine ct_of Tryd.func60 rfl rfl (fun w0 => ?_)
 show G _ _ [(0, _), (1, _)] _ _
 refine G_seq ?_
 refine G_region (l := [0]) rfl ?_
 refine G_val rfl rfl rfl rfl (V_assign rfl rfl) ?_
 refine G_done ?_
 refine G_seq ?_
 refine G_seq ?_
 refine G_region (l := [0, 1, 2, 3, 4, 5]) rfl ?_
 refine G_val rfl rfl rfl rfl (V_move rfl rfl) ?_
 refine G_val rfl rfl rfl rfl (V_seql rfl rfl rfl) ?_
 refine G_val rfl rfl rfl rfl (V_move rfl rfl) ?_
 refine G_splitD 9 rfl (fun hc1 => ?_) (fun hc1 => ?_)
 · skip
   refine G_off rfl rfl rfl rfl ?_
   refine G_off rfl rfl rfl rfl ?_
   refine G_val rfl rfl rfl rfl (V_pickT rfl rfl rfl) ?_
   refine G_done ?_
   refine G_then rfl ?_
   refine G_seq ?_
   refine G_region (l := [0, 1]) rfl ?_
   refine G_val rfl rfl rfl rfl (V_move rfl rfl) ?_
   refine G_val rfl rfl rfl rfl (V_assign rfl rfl) ?_
   refine G_done ?_
   refine G_ret (post := []) Tryd.func60 rfl (RVs_cons (RV_tmp rfl) RVs_nil) [] rfl ?_
   dsimp only [packed]
   first | exact ⟨rfl, rfl⟩ | (subst hc1; exact ⟨rfl, rfl⟩)
 refine G_val rfl rfl rfl rfl (V_move rfl rfl) ?_
 refine G_val rfl rfl rfl rfl (V_seql rfl rfl rfl) ?_
 refine G_val rfl rfl rfl rfl (V_pickF rfl rfl rfl) ?_
 refine G_done ?_
 refine G_ifD rfl (fun hc2 => ?_) (fun hc2 => ?_)
 · (first | (exact absurd rfl hc2) | (exfalso; simp at hc2; done) | (exfalso; omega))
 refine G_skip ?_
 refine G_seq ?_
 refine G_seq ?_
 refine G_region (l := [0, 1, 2, 3, 4, 5, 6, 7]) rfl ?_
 refine G_val rfl rfl rfl rfl (V_move rfl rfl) ?_
 refine G_val rfl rfl rfl rfl (Val.int (e' := 1) (V_slen rfl rfl Tryd.underlying9 rfl) (rfl)) ?_
 refine G_val rfl rfl rfl rfl (V_eql rfl rfl rfl) ?_
 refine G_val rfl rfl rfl rfl (V_move rfl rfl) ?_
 refine G_splitD 17 rfl (fun hc3 => ?_) (fun hc3 => ?_)
 rotate_left
 · (first | (exact absurd rfl hc3) | (exfalso; simp at hc3; done) | (exfalso; omega))
 refine G_val rfl rfl rfl rfl (V_move rfl rfl) ?_
 refine G_val rfl rfl rfl rfl (Val.int (e' := 0) (V_sindexN (j := 0) rfl Tryd.underlying9 rfl rfl rfl (by decide)) (rfl)) ?_
 refine G_val rfl rfl rfl rfl (V_lss rfl rfl rfl) ?_
 refine G_val rfl rfl rfl rfl (V_pickT rfl rfl rfl) ?_
 refine G_done ?_
 refine G_ifD rfl (fun hc4 => ?_) (fun hc4 => ?_)
 rotate_left
 · (first | (exact absurd rfl hc4) | (exfalso; simp at hc4; done) | (exfalso; omega))
 refine G_seq ?_
 refine G_draw mixedK (by kernel_rfl) ?_
 refine GQ_val rfl rfl rfl rfl (V_move rfl rfl) ?_
 refine GQ_val rfl rfl rfl rfl (V_move rfl rfl) ?_
 refine GQ_val rfl rfl rfl rfl (Val.int (e' := 0) (V_sindexN (j := 0) rfl Tryd.underlying9 rfl rfl rfl (by decide)) (rfl)) ?_
 refine GQ_call rfl rfl rfl rfl rfl rfl Tryd.call88 (str_trimR _ (by first | omega | (simp; done) | (simp; omega) | (simp at *; omega))) [] rfl (fun v post hp => (hp : _ ∧ _).1) ?_
 refine GQ_val rfl rfl rfl rfl (V_move rfl rfl) ?_
 refine GQ_val rfl rfl rfl rfl (Val.int (e' := 0) (V_sindexN (j := 0) rfl Tryd.underlying9 rfl rfl rfl (by decide)) (rfl)) ?_
 refine GQ_call rfl rfl rfl rfl rfl rfl Tryd.call87 (str_trimL _ (by first | omega | (simp; done) | (simp; omega) | (simp at *; omega))) [] rfl (fun v post hp => (hp : _ ∧ _).1) ?_
 refine GQ_val rfl rfl rfl rfl (V_assign rfl rfl) ?_
 refine GQ_done rfl ?_
 refine G_ret (post := []) Tryd.func60 rfl (RVs_cons (RV_tmp rfl) RVs_nil) [] rfl ?_
 dsimp only [packed]
 first | exact ⟨rfl, rfl⟩ | (subst hc1; exact ⟨rfl, rfl⟩)

set_option maxRecDepth 100000 in
set_option maxHeartbeats 1000000 in
theorem str_join (o1 : Option Nat) (p1 q1 : Nat) (c1 : Array Value) (T1 : TypeId) (f1 : Nat × Nat) (ls : List (List UInt8)) (n : Nat) (hn : ls.length = n) (hs : Sees 1 o1 p1 q1 c1 (ls.map strC) ls.length) (h0 : 1 ≤ ls.flatten.length) (h8 : ls.flatten.length ≤ 8192) :
    Ct Tryd.prog 57 [sv o1 p1 n q1, .string (bs [])] [(o1, .cells c1 T1 f1)] [] fun v post => v = .string (bs ls.flatten) ∧ post = [] := by
 subst hn
 have hk1 := hs.le
 have hk2 := hs.max
 refine ct_of Tryd.func57 rfl rfl (fun w0 => ?_)
 show G _ _ [(0, _), (1, _)] _ _
 refine G_seq ?_
 refine G_region (l := [0]) rfl ?_
 refine G_val rfl rfl rfl rfl (V_assign rfl rfl) ?_
 refine G_done ?_
 refine G_seq ?_
 refine G_seq ?_
 refine G_region (l := [0, 1]) rfl ?_
 refine G_val rfl rfl rfl rfl (V_move rfl rfl) ?_
 refine G_val rfl rfl rfl rfl (V_len rfl rfl Tryd.underlying24 rfl) ?_
 refine G_done ?_
 refine G_block ?_
 refine G_seq ?_
 refine G_region (l := [0, 1]) rfl ?_
 refine G_val rfl rfl rfl rfl (V_eql rfl rfl rfl) ?_
 refine G_val rfl rfl rfl rfl (V_assign rfl rfl) ?_
 refine G_done ?_
 refine G_ifD rfl (fun hc1 => ?_) (fun hc1 => ?_)
 · skip
   refine G_seq ?_
   refine G_region (l := [0]) rfl ?_
   refine G_val rfl rfl rfl rfl (V_assign rfl rfl) ?_
   refine G_done ?_
   refine G_ret (post := []) Tryd.func57 rfl (RVs_cons (RV_tmp rfl) RVs_nil) [] rfl ?_
   dsimp only [packed]
   first
     | exact ⟨by rw [List.take_of_length_le (show ls.length ≤ i + 1 by omega)], rfl⟩
     | exact ⟨by rw [join_one hx0 (by omega)]; rfl, rfl⟩
     | (exfalso; rw [List.length_eq_zero_iff.1 (show ls.length = 0 by omega)] at h0; simp at h0; done)
 refine G_seq ?_
 refine G_region (l := [0, 1]) rfl ?_
 refine G_val rfl rfl rfl rfl (V_eql rfl rfl rfl) ?_
 refine G_val rfl rfl rfl rfl (V_assign rfl rfl) ?_
 refine G_done ?_
 refine G_ifD rfl (fun hc2 => ?_) (fun hc2 => ?_)
 · skip
   refine G_seq ?_
   obtain ⟨s0, hx0⟩ := getI (show 0 < ls.length by omega)
   obtain ⟨b1, rfl⟩ := hs.isSome (by omega)
   refine G_region (l := [0, 1, 2, 3]) rfl ?_
   refine G_val rfl rfl rfl rfl (V_move rfl rfl) ?_
   first
     | refine G_val rfl rfl rfl rfl (V_indexAddrN (s := 1) rfl Tryd.underlying24 infFrameX_9 rfl rfl rfl rfl (by omega)) ?_
     | refine G_val rfl rfl rfl rfl (V_indexAddr (s := 1) rfl Tryd.underlying24 infFrameX_9 rfl rfl rfl (by omega) (by first | omega | (simp; done) | (simp; omega) | (simp at *; omega))) ?_
   refine G_val rfl rfl rfl rfl (V_load1 rfl rfl (mem_at 0 rfl) (nth_of (hs.cell hx0)) Tryd.underlying9 rfl) ?_
   refine G_val rfl rfl rfl rfl (V_assign rfl rfl) ?_
   refine G_done ?_
   refine G_ret (post := []) Tryd.func57 rfl (RVs_cons (RV_tmp rfl) RVs_nil) [] rfl ?_
   dsimp only [packed]
   first
     | exact ⟨by rw [List.take_of_length_le (show ls.length ≤ i + 1 by omega)], rfl⟩
     | exact ⟨by rw [join_one hx0 (by omega)]; rfl, rfl⟩
     | (exfalso; rw [List.length_eq_zero_iff.1 (show ls.length = 0 by omega)] at h0; simp at h0; done)
 refine G_skip ?_
 refine G_inBlock ?_
 refine G_seq ?_
 obtain ⟨s0, hx0⟩ := getI (show 0 < ls.length by omega)
 obtain ⟨b1, rfl⟩ := hs.isSome (by omega)
 refine G_region (l := [0]) rfl ?_
 refine G_val rfl rfl rfl rfl (V_assign rfl rfl) ?_
 refine G_done ?_
 refine G_seq ?_
 refine G_seq ?_
 refine G_region (l := [0, 1, 2]) rfl ?_
 refine G_val rfl rfl rfl rfl (V_move rfl rfl) ?_
 refine G_val rfl rfl rfl rfl (V_slen rfl rfl Tryd.underlying9 rfl) ?_
 refine G_val rfl rfl rfl rfl (V_gtr rfl rfl rfl) ?_
 refine G_done ?_
 refine G_ifD rfl (fun hc3 => ?_) (fun hc3 => ?_)
 · (first | (exact absurd rfl hc3) | (exfalso; simp at hc3; done) | (exfalso; omega))
 refine G_skip ?_
 refine G_seq ?_
 refine G_seq ?_
 refine G_region (l := [0, 1, 2]) rfl ?_
 refine G_val rfl rfl rfl rfl (V_move rfl rfl) ?_
 refine G_val rfl rfl rfl rfl (V_len rfl rfl Tryd.underlying24 rfl) ?_
 refine G_val rfl rfl rfl rfl (V_move rfl rfl) ?_
 refine G_done ?_
 refine G_block ?_
 refine G_sub ?he12 [] ?hl12 (G_loop (X := Nat) (fun i => i ≤ ls.length) (fun i => ls.length - i) (fun i => [(0, sv (some b1) p1 ls.length q1), (1, .string (bs [])), (5, .int .i64 ((ls.take i).flatten.length : Int)), (39, sv (some b1) p1 ls.length q1), (40, .int .i64 (ls.length : Int)), (41, .int .i64 (i : Int))]) (fun i => []) ?round12 0 ?h012)
 case he12 => exact (And.intro rfl (And.intro rfl (And.intro rfl (And.intro rfl (And.intro rfl (And.intro rfl trivial))))))
 case hl12 => exact ⟨_, rfl⟩
 case h012 => exact Nat.zero_le _
 case round12 =>
  intro i hJ ih
  try dsimp only at hJ ih
  refine G_seq ?_
  refine G_region (l := [0]) rfl ?_
  refine G_val rfl rfl rfl rfl (V_lss rfl rfl rfl) ?_
  refine G_done ?_
  refine G_seq ?_
  refine G_ifD rfl (fun hc4 => ?_) (fun hc4 => ?_)
  · skip
    refine G_skip ?_
    refine G_seq ?_
    refine G_block ?_
    refine G_seq ?_
    obtain ⟨s, hx⟩ := getI (show i < ls.length by omega)
    have hf1 := flat_le ls (i + 1)
    have hf2 := congrArg List.length (flat_next hx)
    rw [List.length_append] at hf2
    refine G_region (l := [0, 1, 2]) rfl ?_
    first
      | refine G_val rfl rfl rfl rfl (V_indexAddrN (s := 1) rfl Tryd.underlying24 infFrameX_9 rfl rfl rfl rfl (by omega)) ?_
      | refine G_val rfl rfl rfl rfl (V_indexAddr (s := 1) rfl Tryd.underlying24 infFrameX_9 rfl rfl rfl (by omega) (by first | omega | (simp; done) | (simp; omega) | (simp at *; omega))) ?_
    refine G_val rfl rfl rfl rfl (V_load1 rfl rfl (mem_at 0 rfl) (nth_of (hs.cell hx)) Tryd.underlying9 rfl) ?_
    refine G_val rfl rfl rfl rfl (V_assign rfl rfl) ?_
    refine G_done ?_
    refine G_seq ?_
    refine G_seq ?_
    refine G_region (l := [0, 1, 2, 3, 4]) rfl ?_
    refine G_val rfl rfl rfl rfl (V_move rfl rfl) ?_
    refine G_val rfl rfl rfl rfl (V_slen rfl rfl Tryd.underlying9 rfl) ?_
    refine G_val rfl rfl rfl rfl (V_move rfl rfl) ?_
    first
      | refine G_val rfl rfl rfl rfl ((V_sub rfl rfl rfl).int (wrap_i64 (by omega))) ?_
      | refine G_val rfl rfl rfl rfl (V_sub rfl rfl rfl) ?_
    refine G_val rfl rfl rfl rfl (V_gtr rfl rfl rfl) ?_
    refine G_done ?_
    refine G_ifD rfl (fun hc5 => ?_) (fun hc5 => ?_)
    · (first | (exact absurd rfl hc5) | (exfalso; simp at hc5; done) | (exfalso; omega))
    refine G_skip ?_
    refine G_region (l := [0, 1, 2, 3, 4]) rfl ?_
    refine G_val rfl rfl rfl rfl (V_move rfl rfl) ?_
    refine G_val rfl rfl rfl rfl (V_move rfl rfl) ?_
    refine G_val rfl rfl rfl rfl (V_slen rfl rfl Tryd.underlying9 rfl) ?_
    first
      | refine G_val rfl rfl rfl rfl ((V_add rfl rfl rfl).int (wrap_i64 (by omega))) ?_
      | refine G_val rfl rfl rfl rfl (V_add rfl rfl rfl) ?_
    rw [show (((ls.take i).flatten.length : Int) + (s.length : Int)) = (((ls.take (i + 1)).flatten.length : Nat) : Int) by rw [hf2]; omega]
    refine G_val rfl rfl rfl rfl (V_assign rfl rfl) ?_
    refine G_done ?_
    refine G_inBlock ?_
    refine G_region (l := [0, 1]) rfl ?_
    first
      | refine G_val rfl rfl rfl rfl ((V_add rfl rfl rfl).int (wrap_i64 (by omega))) ?_
      | refine G_val rfl rfl rfl rfl (V_add rfl rfl rfl) ?_
    refine G_val rfl rfl rfl rfl (V_move rfl rfl) ?_
    refine G_done ?_
    refine G_sub ?_ [] ?_ (ih (i + 1) ?_ ?_)
    · (refine (And.intro ?_ (And.intro ?_ (And.intro ?_ (And.intro ?_ (And.intro ?_ (And.intro ?_ trivial)))))) <;> first | rfl | exact slot_int (by omega) | exact slot_int (by simp))
    · exact ⟨_, rfl⟩
    · omega
    · (first | omega | (dsimp only; omega))
  refine G_exit rfl ?_
  refine G_seq ?_
  obtain rfl : i = ls.length := by omega
  rw [List.take_length]
  refine G_region (l := [0]) rfl ?_
  refine G_new rfl rfl rfl rfl (N_allocA rfl infFrameX_120 rfl) (fun b8 => ?_)
  refine G_done ?_
  refine G_seq ?_
  refine G_region (l := [0, 1]) rfl ?_
  refine G_val rfl rfl rfl rfl (V_move rfl rfl) ?_
  refine G_call (L2 := []) rfl rfl rfl rfl rfl rfl Tryd.call85 (bld_grow _ _ (by omega) (by omega)) [0] [] rfl rfl ?_
  rintro v post ⟨rfl, u1, hu1, rfl⟩
  show G _ _ _ [_, _] _
  refine G_done ?_
  refine G_seq ?_
  have hf1 := flat_le ls (0 + 1)
  have hf2 := flat_first hx0
  have hf3 := congrArg List.length hf2
  refine G_region (l := [0, 1, 2, 3]) rfl ?_
  refine G_val rfl rfl rfl rfl (V_move rfl rfl) ?_
  first
    | refine G_val rfl rfl rfl rfl (V_indexAddrN (s := 1) rfl Tryd.underlying24 infFrameX_9 rfl rfl rfl rfl (by omega)) ?_
    | refine G_val rfl rfl rfl rfl (V_indexAddr (s := 1) rfl Tryd.underlying24 infFrameX_9 rfl rfl rfl (by omega) (by first | omega | (simp; done) | (simp; omega) | (simp at *; omega))) ?_
  refine G_val rfl rfl rfl rfl (V_load1 rfl rfl (mem_at 0 rfl) (nth_of (hs.cell hx0)) Tryd.underlying9 rfl) ?_
  refine G_call (L2 := []) rfl rfl rfl rfl rfl rfl Tryd.call69 (bld_write _ _ _ [] s0 (.inr rfl) hu1 (by simp; omega)) [0, 0] [] rfl rfl ?_
  rintro v post ⟨rfl, u1, hu1, rfl⟩
  show G _ _ _ [_, _] _
  rw [List.nil_append, hf2] at hu1
  rw [List.nil_append, hf2]
  refine G_done ?_
  refine G_seq ?_
  refine G_seq ?_
  refine G_region (l := [0, 1, 2, 3]) rfl ?_
  refine G_val rfl rfl rfl rfl (V_move rfl rfl) ?_
  refine G_val rfl rfl rfl rfl (V_sliceLo (lo := 1) rfl Tryd.underlying24 infFrameX_9 rfl rfl rfl rfl (by first | omega | (simp; done) | (simp; omega) | (simp at *; omega)) (by first | omega | (simp; done) | (simp; omega) | (simp at *; omega))) ?_
  rw [if_neg (show ¬ q1 = 1 by omega)]
  refine G_val rfl rfl rfl rfl (V_len rfl rfl Tryd.underlying24 rfl) ?_
  refine G_val rfl rfl rfl rfl (V_move rfl rfl) ?_
  refine G_done ?_
  refine G_block ?_
  refine G_sub ?he22 [0, 0] ?hl22 (G_loop (X := Nat × Sl) (fun x => match x with | ⟨i, u⟩ => i + 1 ≤ ls.length ∧ Txt u (ls.take (i + 1)).flatten) (fun x => match x with | ⟨i, u⟩ => ls.length - i) (fun x => match x with | ⟨i, u⟩ => [(1, .string (bs [])), (8, .pointer (some ⟨b8, 0, none⟩)), (63, .slice (some ⟨b1, p1 + 1 * 1, none⟩) (ls.length - 1) (q1 - 1)), (64, .int .i64 ((ls.length - 1 : Nat) : Int)), (65, .int .i64 (i : Int))]) (fun x => match x with | ⟨i, u⟩ => [(some b8, .cells #[.pointer (some ⟨b8, 0, none⟩), u.v (ls.take (i + 1)).flatten.length] 120 (0, 0)), (u.ob, .cells u.cs 5 u.fz)]) ?round22 (0, u1) ?h022)
  case he22 => exact (And.intro rfl (And.intro rfl (And.intro rfl (And.intro rfl (And.intro rfl trivial)))))
  case hl22 => exact ⟨_, rfl⟩
  case h022 => exact ⟨by omega, hu1⟩
  case round22 =>
   intro x hJ ih
   try dsimp only at hJ ih
   obtain ⟨i, u⟩ := x
   try dsimp only at hJ ih
   obtain ⟨hi, hux⟩ := hJ
   show G _ _ [(1, .string (bs [])), (8, .pointer (some ⟨b8, 0, none⟩)), (63, .slice (some ⟨b1, p1 + 1 * 1, none⟩) (ls.length - 1) (q1 - 1)), (64, .int .i64 ((ls.length - 1 : Nat) : Int)), (65, .int .i64 (i : Int))] [(some b8, .cells #[.pointer (some ⟨b8, 0, none⟩), u.v (ls.take (i + 1)).flatten.length] 120 (0, 0)), (u.ob, .cells u.cs 5 u.fz)] _
   have hf0 := flat_le ls (i + 1)
   refine G_seq ?_
   refine G_region (l := [0]) rfl ?_
   refine G_val rfl rfl rfl rfl (V_lss rfl rfl rfl) ?_
   refine G_done ?_
   refine G_seq ?_
   refine G_ifD rfl (fun hc5 => ?_) (fun hc5 => ?_)
   · skip
     refine G_skip ?_
     refine G_seq ?_
     refine G_block ?_
     refine G_seq ?_
     obtain ⟨s, hx⟩ := getI (show i + 1 < ls.length by omega)
     have hf1 := flat_le ls (i + 1 + 1)
     have hf2 := congrArg List.length (flat_next hx)
     rw [List.length_append] at hf2
     refine G_region (l := [0, 1, 2]) rfl ?_
     first
       | refine G_val rfl rfl rfl rfl (V_indexAddrN (s := 1) rfl Tryd.underlying24 infFrameX_9 rfl rfl rfl rfl (by omega)) ?_
       | refine G_val rfl rfl rfl rfl (V_indexAddr (s := 1) rfl Tryd.underlying24 infFrameX_9 rfl rfl rfl (by omega) (by first | omega | (simp; done) | (simp; omega) | (simp at *; omega))) ?_
     refine G_val rfl rfl rfl rfl (V_load1 rfl rfl (mem_at 0 rfl) (nth_of (by have := hs.cell hx; rwa [show p1 + (i + 1) * 1 = p1 + 1 * 1 + i * 1 by omega] at this)) Tryd.underlying9 rfl) ?_
     refine G_val rfl rfl rfl rfl (V_assign rfl rfl) ?_
     refine G_done ?_
     refine G_seq ?_
     refine G_region (l := [0, 1]) rfl ?_
     refine G_val rfl rfl rfl rfl (V_move rfl rfl) ?_
     refine G_call (L2 := []) rfl rfl rfl rfl rfl rfl Tryd.call69 (bld_write _ _ _ _ [] (.inr rfl) hux (by simp only [List.length_nil]; omega)) [0, 0] [] rfl rfl ?_
     rintro v post ⟨rfl, u1, hu1, rfl⟩
     show G _ _ _ [_, _] _
     rw [List.append_nil] at hu1 ⊢
     refine G_done ?_
     refine G_region (l := [0, 1]) rfl ?_
     refine G_val rfl rfl rfl rfl (V_move rfl rfl) ?_
     refine G_call (L2 := []) rfl rfl rfl rfl rfl rfl Tryd.call69 (bld_write _ _ _ _ s (.inr rfl) hu1 (by omega)) [0, 0] [] rfl rfl ?_
     rintro v post ⟨rfl, u1, hu1, rfl⟩
     show G _ _ _ [_, _] _
     rw [← flat_next hx] at hu1 ⊢
     refine G_done ?_
     refine G_inBlock ?_
     refine G_region (l := [0, 1]) rfl ?_
     first
       | refine G_val rfl rfl rfl rfl ((V_add rfl rfl rfl).int (wrap_i64 (by omega))) ?_
       | refine G_val rfl rfl rfl rfl (V_add rfl rfl rfl) ?_
     refine G_val rfl rfl rfl rfl (V_move rfl rfl) ?_
     refine G_done ?_
     refine G_sub ?_ [0, 0] ?_ (ih (i + 1, u1) ?_ ?_)
     · (refine (And.intro ?_ (And.intro ?_ (And.intro ?_ (And.intro ?_ (And.intro ?_ trivial))))) <;> first | rfl | exact slot_int (by omega) | exact slot_int (by simp))
     · exact ⟨_, rfl⟩
     · exact ⟨by omega, hu1⟩
     · (first | omega | (dsimp only; omega))
   refine G_exit rfl ?_
   refine G_seq ?_
   refine G_region (l := [0, 1]) rfl ?_
   refine G_call (L2 := []) rfl rfl rfl rfl rfl rfl Tryd.call70 (bld_string _ _ _ _ hux (by have := flat_le ls (i + 1); omega)) [0, 0] [] rfl rfl ?_
   rintro v post ⟨rfl, u1, hu1, rfl⟩
   show G _ _ _ [_, _] _
   refine G_val rfl rfl rfl rfl (V_assign rfl rfl) ?_
   refine G_done ?_
   refine G_ret (post := []) Tryd.func57 rfl (RVs_cons (RV_tmp rfl) RVs_nil) [] rfl ?_
   dsimp only [packed]
   first
     | exact ⟨by rw [List.take_of_length_le (show ls.length ≤ i + 1 by omega)], rfl⟩
     | exact ⟨by rw [join_one hx0 (by omega)]; rfl, rfl⟩
     | (exfalso; rw [List.length_eq_zero_iff.1 (show ls.length = 0 by omega)] at h0; simp at h0; done)

end
end Go.Proofs.YtbblkgdejgoncaaDoor

/- The walks of layer 25: the record with whose pieces a list begins; two lists of texts. -/
set_option linter.unusedSimpArgs false
set_option linter.unusedVariables false
namespace Go.Proofs.YtbblkgdejgoncaaDoor
open Go Go.RowKit

section
theorem infFrameD_9 : Tryd.prog.info? 9 = some Tryd.t9 := by kernel_rfl


theorem first_at {ls : List (List UInt8)} (h : 0 < ls.length) : ls[0]? = some (firstF ls) := by
  match ls, h with
  | a :: r, _ => rfl
theorem dec_nil {ls : List (List UInt8)} (h : ls.length = 0) : decS ls = [] ∧ decM ls = 0 ∧ decE ls = 2 := by
  have e : decE ls = 2 := by unfold decE; rw [if_pos (List.length_eq_zero_iff.1 h)]
  exact ⟨by unfold decS; rw [if_neg (by omega)], by unfold decM; rw [if_neg (by omega)], e⟩
theorem dec_size {ls : List (List UInt8)} (h : 0 < ls.length) (h1 : ¬ sizeFE (firstF ls) = 0) : decS ls = [] ∧ decM ls = 0 ∧ decE ls = sizeFE (firstF ls) := by
  have e : decE ls = sizeFE (firstF ls) := by
    unfold decE; rw [if_neg (fun e => by rw [e] at h; cases h), if_pos h1]
  exact ⟨by unfold decS; rw [if_neg (by omega)], by unfold decM; rw [if_neg (by omega)], e⟩
theorem dec_short {ls : List (List UInt8)} (h : 0 < ls.length) (h1 : sizeFE (firstF ls) = 0) (h2 : ls.length < mF ls) : decS ls = [] ∧ decM ls = 0 ∧ decE ls = 2 := by
  have e : decE ls = 2 := by
    unfold decE; rw [if_neg (fun e => by rw [e] at h; cases h), if_neg (by omega), if_pos h2]
  exact ⟨by unfold decS; rw [if_neg (by omega)], by unfold decM; rw [if_neg (by omega)], e⟩
theorem dec_part {ls : List (List UInt8)} (h : 0 < ls.length) (h1 : sizeFE (firstF ls) = 0) (h2 : mF ls ≤ ls.length) (h3 : fullF ls = false) : decS ls = [] ∧ decM ls = 0 ∧ decE ls = 2 := by
  have e : decE ls = 2 := by
    unfold decE; rw [if_neg (fun e => by rw [e] at h; cases h), if_neg (by omega), if_neg (by omega), if_pos h3]
  exact ⟨by unfold decS; rw [if_neg (by omega)], by unfold decM; rw [if_neg (by omega)], e⟩
theorem dec_form {ls : List (List UInt8)} (h : 0 < ls.length) (h1 : sizeFE (firstF ls) = 0) (h2 : mF ls ≤ ls.length) (h3 : fullF ls = true) (h4 : ¬ allF ls = padF (recF ls)) : decS ls = [] ∧ decM ls = 0 ∧ decE ls = 3 := by
  have e : decE ls = 3 := by
    unfold decE; rw [if_neg (fun e => by rw [e] at h; cases h), if_neg (by omega), if_neg (by omega), if_neg (by simp [h3]), if_neg h4]
  exact ⟨by unfold decS; rw [if_neg (by omega)], by unfold decM; rw [if_neg (by omega)], e⟩
theorem dec_ok {ls : List (List UInt8)} (h : 0 < ls.length) (h1 : sizeFE (firstF ls) = 0) (h2 : mF ls ≤ ls.length) (h3 : fullF ls = true) (h4 : allF ls = padF (recF ls)) : decS ls = recF ls ∧ decM ls = mF ls ∧ decE ls = 0 := by
  have e : decE ls = 0 := by
    unfold decE; rw [if_neg (fun e => by rw [e] at h; cases h), if_neg (by omega), if_neg (by omega), if_neg (by simp [h3]), if_pos h4]
  exact ⟨by unfold decS; rw [if_pos e], by unfold decM; rw [if_pos e], e⟩
theorem rec_cut (ls : List (List UInt8)) : ((allF ls).take (6 + nF ls)).drop 6 = recF ls := by
  unfold recF; rw [List.drop_take]; congr 1; omega
theorem sum_cut (ls : List (List UInt8)) : ((allF ls).take 6).drop 2 = ((allF ls).drop 2).take 4 := by rw [List.drop_take]
theorem num_four (l : List UInt8) : num (l.take 4) < 4294967296 := by
  have h1 := num_lt (l.take 4)
  have : (256 : Nat) ^ (l.take 4).length ≤ 256 ^ 4 := Nat.pow_le_pow_right (by omega) (by simp; omega)
  omega
theorem take_at {α : Type} {l : List α} {i m : Nat} {x : α} (h : l[i]? = some x) (hi : i < m) : (l.take m)[i]? = some x := by rw [List.getElem?_take, if_pos hi]; exact h
theorem mF_le (ls : List (List UInt8)) : mF ls ≤ 21 := by
  have h := sizeF_le (firstF ls)
  have e : mF ls = manyN (sizeF (firstF ls)) := rfl
  rw [e]; unfold manyN; omega
theorem Sees.cut {ob : Option Nat} {off cap : Nat} {cs : Array Value} {ls : List (List UInt8)} (h : Sees 1 ob off cap cs (ls.map strC) ls.length) {m : Nat} (hm : m ≤ ls.length) : Sees 1 ob off cap cs ((ls.take m).map strC) (ls.take m).length := by
  refine ⟨by simp, by have := h.le; simp; omega, h.max, ?_, h.isNil⟩
  have h1 := congrArg (List.take m) h.part
  rw [List.take_take] at h1
  rw [List.map_take, ← h1, List.length_take]
  congr 1
  omega
/-- The pieces are those of the record just if all the bytes are its own. -/
theorem pieces_all {ls : List (List UInt8)} (h2 : mF ls ≤ ls.length) (h3 : fullF ls = true) : piecesF (recF ls) = ls.take (mF ls) ↔ allF ls = padF (recF ls) := by
  have h4 := recF_len h3 h2
  have h5 := allF_len h3 h2
  have h6 := fullF_all h3
  have hl : (ls.take (mF ls)).length = mF ls := by rw [List.length_take]; omega
  have e1 : chunks (mF ls) (allF ls) = ls.take (mF ls) := by
    have := chunks_flat _ h6
    rw [hl] at this
    exact this
  have e2 : piecesF (recF ls) = chunks (mF ls) (padF (recF ls)) := by unfold piecesF; rw [h4]; rfl
  rw [e2]
  constructor
  · intro e
    have h7 := padF_len (recF ls)
    rw [h4] at h7
    have := congrArg List.flatten e
    rw [flat_chunks (mF ls) _ h7] at this
    exact this.symm
  · intro e; rw [← e, e1]
theorem enc_rec {ls : List (List UInt8)} (h2 : mF ls ≤ ls.length) (h3 : fullF ls = true) : encF (recF ls) = piecesF (recF ls) ∧ (piecesF (recF ls)).length = mF ls := by
  have h4 := recF_len h3 h2
  have h5 := sizeF_le (firstF ls)
  have h6 : nF ls = sizeF (firstF ls) := rfl
  refine ⟨(encF_yes (by omega)).1, ?_⟩
  rw [piecesF_len, h4]; rfl

set_option maxRecDepth 100000 in
set_option maxHeartbeats 1000000 in
theorem fr_decode (o1 : Option Nat) (p1 q1 : Nat) (c1 : Array Value) (T1 : TypeId) (f1 : Nat × Nat) (ls : List (List UInt8)) (hs : Sees 1 o1 p1 q1 c1 (ls.map strC) ls.length) (hl : ∀ x ∈ ls, x.length ≤ 9223372036854775807) :
    Ct Tryd.prog 14 [sv o1 p1 ls.length q1] [(o1, .cells c1 T1 f1)] [] fun v post => v = .tuple #[.string (bs (decS ls)), .int .i64 (decM ls : Int), .int .i64 (decE ls)] ∧ post = [] := by
 have hk1 := hs.le
 have hk2 := hs.max
 have hmm : mF ls = manyN (nF ls) := rfl
 have hn1 : nF ls ≤ 1000 := sizeF_le _
 have hroom := manyN_room (nF ls)
 have hm21 := mF_le ls
 refine ct_of Tryd.func14 rfl rfl (fun w0 => ?_)
 show G _ _ [(0, _)] _ _
 refine G_seq ?_
 refine G_region (l := [0, 1, 2]) rfl ?_
 refine G_val rfl rfl rfl rfl (V_assign rfl rfl) ?_
 refine G_val rfl rfl rfl rfl (V_assign rfl rfl) ?_
 refine G_val rfl rfl rfl rfl (V_assign rfl rfl) ?_
 refine G_done ?_
 refine G_seq ?_
 refine G_seq ?_
 refine G_region (l := [0, 1, 2]) rfl ?_
 refine G_val rfl rfl rfl rfl (V_move rfl rfl) ?_
 refine G_val rfl rfl rfl rfl (V_len rfl rfl Tryd.underlying24 rfl) ?_
 refine G_val rfl rfl rfl rfl (V_eql rfl rfl rfl) ?_
 refine G_done ?_
 refine G_ifD rfl (fun hc1 => ?_) (fun hc1 => ?_)
 · skip
   refine G_seq ?_
   refine G_region (l := [0, 1, 2]) rfl ?_
   refine G_val rfl rfl rfl rfl (V_assign rfl rfl) ?_
   refine G_val rfl rfl rfl rfl (V_assign rfl rfl) ?_
   refine G_val rfl rfl rfl rfl (V_assign rfl rfl) ?_
   refine G_done ?_
   refine G_ret (post := []) Tryd.func14 rfl (RVs_cons (RV_tmp rfl) (RVs_cons (RV_tmp rfl) (RVs_cons (RV_tmp rfl) RVs_nil))) [] rfl ?_
   dsimp only [packed]
   first
     | (suffices hz : ls.length = 0 by (obtain ⟨e1, e2, e3⟩ := dec_nil hz; rw [e1, e2, e3]; exact ⟨rfl, rfl⟩)
        omega)
     | (suffices hz : ¬ sizeFE (firstF ls) = 0 by (obtain ⟨e1, e2, e3⟩ := dec_size (ls := ls) (by omega) hz; rw [e1, e2, e3]; exact ⟨rfl, rfl⟩)
        omega)
     | (suffices hz : sizeFE (firstF ls) = 0 ∧ 0 < ls.length ∧ ls.length < mF ls by (obtain ⟨e1, e2, e3⟩ := dec_short hz.2.1 hz.1 hz.2.2; rw [e1, e2, e3]; exact ⟨rfl, rfl⟩)
        omega)
     | (suffices hz : sizeFE (firstF ls) = 0 ∧ 0 < ls.length ∧ mF ls ≤ ls.length ∧ ¬ s.length = 48 by (obtain ⟨e1, e2, e3⟩ := dec_part hz.2.1 hz.1 hz.2.2.1 (all_not (take_at hx (by omega)) (decide_eq_false hz.2.2.2)); rw [e1, e2, e3]; exact ⟨rfl, rfl⟩)
        omega)
     | (suffices hz : ¬ num (((allF ls).drop 2).take 4) = crcN ((allF ls).take 2 ++ recF ls) by (obtain ⟨e1, e2, e3⟩ := dec_form (ls := ls) (by omega) hse (by omega) hfu (fun e => hz (hpc.1 e).1); rw [e1, e2, e3]; exact ⟨rfl, rfl⟩)
        omega)
     | (suffices hz : ¬ trimL (trimR ((allF ls).drop (6 + nF ls))) = [] by (obtain ⟨e1, e2, e3⟩ := dec_form (ls := ls) (by omega) hse (by omega) hfu (fun e => hz ((trim_nil _).2 (hpc.1 e).2)); rw [e1, e2, e3]; exact ⟨rfl, rfl⟩)
        assumption)
     | (suffices hz : num (((allF ls).drop 2).take 4) = crcN ((allF ls).take 2 ++ recF ls) ∧ trimL (trimR ((allF ls).drop (6 + nF ls))) = [] by (obtain ⟨e1, e2, e3⟩ := dec_ok (ls := ls) (by omega) hse (by omega) hfu (hpc.2 ⟨hz.1, (trim_nil _).1 hz.2⟩); rw [e1, e2, e3]; exact ⟨rfl, rfl⟩)
        exact ⟨by omega, Classical.not_not.1 (by assumption)⟩)
 refine G_skip ?_
 refine G_seq ?_
 have hx0 := first_at (show 0 < ls.length by omega)
 have hl0 := hl _ (List.mem_of_getElem? hx0)
 obtain ⟨b1, rfl⟩ := hs.isSome (by omega)
 refine G_region (l := [0, 1, 2, 3, 4, 5, 6, 7, 8]) rfl ?_
 refine G_val rfl rfl rfl rfl (V_move rfl rfl) ?_
 first
   | refine G_val rfl rfl rfl rfl (V_indexAddrN (s := 1) rfl Tryd.underlying24 infFrameD_9 rfl rfl rfl rfl (by omega)) ?_
   | refine G_val rfl rfl rfl rfl (V_indexAddr (s := 1) rfl Tryd.underlying24 infFrameD_9 rfl rfl rfl (by omega) (by first | omega | (simp; done) | (simp; omega) | (simp at *; omega))) ?_
 refine G_val rfl rfl rfl rfl (V_load1 rfl rfl (mem_at 0 rfl) (nth_of (hs.cell hx0)) Tryd.underlying9 rfl) ?_
 refine G_call (L2 := []) rfl rfl rfl rfl rfl rfl Tryd.call56 (fr_size (firstF ls) hl0) [] [] rfl rfl ?_
 rintro v post ⟨rfl, rfl⟩
 rw [show sizeF (firstF ls) = nF ls from rfl]
 refine G_val rfl rfl rfl rfl (V_move rfl rfl) ?_
 refine G_val rfl rfl rfl rfl (V_extract rfl rfl rfl) ?_
 refine G_val rfl rfl rfl rfl (V_extract rfl rfl rfl) ?_
 refine G_val rfl rfl rfl rfl (V_assign rfl rfl) ?_
 refine G_val rfl rfl rfl rfl (V_assign rfl rfl) ?_
 refine G_done ?_
 refine G_seq ?_
 refine G_seq ?_
 refine G_region (l := [0, 1]) rfl ?_
 refine G_val rfl rfl rfl rfl (V_move rfl rfl) ?_
 refine G_val rfl rfl rfl rfl (V_neq rfl rfl rfl) ?_
 refine G_done ?_
 refine G_ifD rfl (fun hc2 => ?_) (fun hc2 => ?_)
 · skip
   refine G_seq ?_
   refine G_region (l := [0, 1, 2, 3]) rfl ?_
   refine G_val rfl rfl rfl rfl (V_move rfl rfl) ?_
   refine G_val rfl rfl rfl rfl (V_assign rfl rfl) ?_
   refine G_val rfl rfl rfl rfl (V_assign rfl rfl) ?_
   refine G_val rfl rfl rfl rfl (V_assign rfl rfl) ?_
   refine G_done ?_
   refine G_ret (post := []) Tryd.func14 rfl (RVs_cons (RV_tmp rfl) (RVs_cons (RV_tmp rfl) (RVs_cons (RV_tmp rfl) RVs_nil))) [] rfl ?_
   dsimp only [packed]
   first
     | (suffices hz : ls.length = 0 by (obtain ⟨e1, e2, e3⟩ := dec_nil hz; rw [e1, e2, e3]; exact ⟨rfl, rfl⟩)
        omega)
     | (suffices hz : ¬ sizeFE (firstF ls) = 0 by (obtain ⟨e1, e2, e3⟩ := dec_size (ls := ls) (by omega) hz; rw [e1, e2, e3]; exact ⟨rfl, rfl⟩)
        omega)
     | (suffices hz : sizeFE (firstF ls) = 0 ∧ 0 < ls.length ∧ ls.length < mF ls by (obtain ⟨e1, e2, e3⟩ := dec_short hz.2.1 hz.1 hz.2.2; rw [e1, e2, e3]; exact ⟨rfl, rfl⟩)
        omega)
     | (suffices hz : sizeFE (firstF ls) = 0 ∧ 0 < ls.length ∧ mF ls ≤ ls.length ∧ ¬ s.length = 48 by (obtain ⟨e1, e2, e3⟩ := dec_part hz.2.1 hz.1 hz.2.2.1 (all_not (take_at hx (by omega)) (decide_eq_false hz.2.2.2)); rw [e1, e2, e3]; exact ⟨rfl, rfl⟩)
        omega)
     | (suffices hz : ¬ num (((allF ls).drop 2).take 4) = crcN ((allF ls).take 2 ++ recF ls) by (obtain ⟨e1, e2, e3⟩ := dec_form (ls := ls) (by omega) hse (by omega) hfu (fun e => hz (hpc.1 e).1); rw [e1, e2, e3]; exact ⟨rfl, rfl⟩)
        omega)
     | (suffices hz : ¬ trimL (trimR ((allF ls).drop (6 + nF ls))) = [] by (obtain ⟨e1, e2, e3⟩ := dec_form (ls := ls) (by omega) hse (by omega) hfu (fun e => hz ((trim_nil _).2 (hpc.1 e).2)); rw [e1, e2, e3]; exact ⟨rfl, rfl⟩)
        assumption)
     | (suffices hz : num (((allF ls).drop 2).take 4) = crcN ((allF ls).take 2 ++ recF ls) ∧ trimL (trimR ((allF ls).drop (6 + nF ls))) = [] by (obtain ⟨e1, e2, e3⟩ := dec_ok (ls := ls) (by omega) hse (by omega) hfu (hpc.2 ⟨hz.1, (trim_nil _).1 hz.2⟩); rw [e1, e2, e3]; exact ⟨rfl, rfl⟩)
        exact ⟨by omega, Classical.not_not.1 (by assumption)⟩)
 refine G_skip ?_
 refine G_seq ?_
 refine G_region (l := [0, 1, 2]) rfl ?_
 refine G_val rfl rfl rfl rfl (V_move rfl rfl) ?_
 refine G_call (L2 := []) rfl rfl rfl rfl rfl rfl Tryd.call55 (fr_many _ (by omega)) [] [] rfl rfl ?_
 rintro v post ⟨rfl, rfl⟩
 rw [show manyN (nF ls) = mF ls from rfl]
 refine G_val rfl rfl rfl rfl (V_assign rfl rfl) ?_
 refine G_done ?_
 refine G_seq ?_
 refine G_seq ?_
 refine G_region (l := [0, 1, 2, 3]) rfl ?_
 refine G_val rfl rfl rfl rfl (V_move rfl rfl) ?_
 refine G_val rfl rfl rfl rfl (V_len rfl rfl Tryd.underlying24 rfl) ?_
 refine G_val rfl rfl rfl rfl (V_move rfl rfl) ?_
 refine G_val rfl rfl rfl rfl (V_lss rfl rfl rfl) ?_
 refine G_done ?_
 refine G_ifD rfl (fun hc3 => ?_) (fun hc3 => ?_)
 · skip
   refine G_seq ?_
   refine G_region (l := [0, 1, 2]) rfl ?_
   refine G_val rfl rfl rfl rfl (V_assign rfl rfl) ?_
   refine G_val rfl rfl rfl rfl (V_assign rfl rfl) ?_
   refine G_val rfl rfl rfl rfl (V_assign rfl rfl) ?_
   refine G_done ?_
   refine G_ret (post := []) Tryd.func14 rfl (RVs_cons (RV_tmp rfl) (RVs_cons (RV_tmp rfl) (RVs_cons (RV_tmp rfl) RVs_nil))) [] rfl ?_
   dsimp only [packed]
   first
     | (suffices hz : ls.length = 0 by (obtain ⟨e1, e2, e3⟩ := dec_nil hz; rw [e1, e2, e3]; exact ⟨rfl, rfl⟩)
        omega)
     | (suffices hz : ¬ sizeFE (firstF ls) = 0 by (obtain ⟨e1, e2, e3⟩ := dec_size (ls := ls) (by omega) hz; rw [e1, e2, e3]; exact ⟨rfl, rfl⟩)
        omega)
     | (suffices hz : sizeFE (firstF ls) = 0 ∧ 0 < ls.length ∧ ls.length < mF ls by (obtain ⟨e1, e2, e3⟩ := dec_short hz.2.1 hz.1 hz.2.2; rw [e1, e2, e3]; exact ⟨rfl, rfl⟩)
        omega)
     | (suffices hz : sizeFE (firstF ls) = 0 ∧ 0 < ls.length ∧ mF ls ≤ ls.length ∧ ¬ s.length = 48 by (obtain ⟨e1, e2, e3⟩ := dec_part hz.2.1 hz.1 hz.2.2.1 (all_not (take_at hx (by omega)) (decide_eq_false hz.2.2.2)); rw [e1, e2, e3]; exact ⟨rfl, rfl⟩)
        omega)
     | (suffices hz : ¬ num (((allF ls).drop 2).take 4) = crcN ((allF ls).take 2 ++ recF ls) by (obtain ⟨e1, e2, e3⟩ := dec_form (ls := ls) (by omega) hse (by omega) hfu (fun e => hz (hpc.1 e).1); rw [e1, e2, e3]; exact ⟨rfl, rfl⟩)
        omega)
     | (suffices hz : ¬ trimL (trimR ((allF ls).drop (6 + nF ls))) = [] by (obtain ⟨e1, e2, e3⟩ := dec_form (ls := ls) (by omega) hse (by omega) hfu (fun e => hz ((trim_nil _).2 (hpc.1 e).2)); rw [e1, e2, e3]; exact ⟨rfl, rfl⟩)
        assumption)
     | (suffices hz : num (((allF ls).drop 2).take 4) = crcN ((allF ls).take 2 ++ recF ls) ∧ trimL (trimR ((allF ls).drop (6 + nF ls))) = [] by (obtain ⟨e1, e2, e3⟩ := dec_ok (ls := ls) (by omega) hse (by omega) hfu (hpc.2 ⟨hz.1, (trim_nil _).1 hz.2⟩); rw [e1, e2, e3]; exact ⟨rfl, rfl⟩)
        exact ⟨by omega, Classical.not_not.1 (by assumption)⟩)
 refine G_skip ?_
 refine G_seq ?_
 refine G_seq ?_
 refine G_region (l := [0, 1, 2, 3, 4]) rfl ?_
 refine G_val rfl rfl rfl rfl (V_move rfl rfl) ?_
 refine G_val rfl rfl rfl rfl (V_move rfl rfl) ?_
 refine G_val rfl rfl rfl rfl (V_sliceH rfl Tryd.underlying24 infFrameD_9 rfl rfl rfl (by first | omega | (simp; done) | (simp; omega) | (simp at *; omega))) ?_
 refine G_val rfl rfl rfl rfl (V_len rfl rfl Tryd.underlying24 rfl) ?_
 refine G_val rfl rfl rfl rfl (V_move rfl rfl) ?_
 refine G_done ?_
 refine G_block ?_
 refine G_sub ?he10 [] ?hl10 (G_loop (X := Nat) (fun i => i ≤ mF ls ∧ ((ls.take (mF ls)).take i).all (fun x => decide (x.length = 48)) = true) (fun i => mF ls - i) (fun i => [(0, sv (some b1) p1 ls.length q1), (5, .int .i64 (nF ls : Int)), (7, .int .i64 (mF ls : Int)), (36, .slice (some ⟨b1, p1, none⟩) (mF ls) q1), (37, .int .i64 (mF ls : Int)), (38, .int .i64 (i : Int))]) (fun i => []) ?round10 0 ?h010)
 case he10 => exact (And.intro rfl (And.intro rfl (And.intro rfl (And.intro rfl (And.intro rfl (And.intro rfl trivial))))))
 case hl10 => exact ⟨_, rfl⟩
 case h010 => exact ⟨Nat.zero_le _, rfl⟩
 case round10 =>
  intro i hJ ih
  try dsimp only at hJ ih
  obtain ⟨hi, ht⟩ := hJ
  refine G_seq ?_
  refine G_region (l := [0]) rfl ?_
  refine G_val rfl rfl rfl rfl (V_lss rfl rfl rfl) ?_
  refine G_done ?_
  refine G_seq ?_
  refine G_ifD rfl (fun hc4 => ?_) (fun hc4 => ?_)
  · skip
    refine G_skip ?_
    refine G_seq ?_
    refine G_block ?_
    refine G_seq ?_
    obtain ⟨s, hx⟩ := getI (show i < ls.length by omega)
    have hls := hl _ (List.mem_of_getElem? hx)
    refine G_region (l := [0, 1, 2]) rfl ?_
    first
      | refine G_val rfl rfl rfl rfl (V_indexAddrN (s := 1) rfl Tryd.underlying24 infFrameD_9 rfl rfl rfl rfl (by omega)) ?_
      | refine G_val rfl rfl rfl rfl (V_indexAddr (s := 1) rfl Tryd.underlying24 infFrameD_9 rfl rfl rfl (by omega) (by first | omega | (simp; done) | (simp; omega) | (simp at *; omega))) ?_
    refine G_val rfl rfl rfl rfl (V_load1 rfl rfl (mem_at 0 rfl) (nth_of (hs.cell hx)) Tryd.underlying9 rfl) ?_
    refine G_val rfl rfl rfl rfl (V_assign rfl rfl) ?_
    refine G_done ?_
    refine G_seq ?_
    refine G_region (l := [0, 1, 2]) rfl ?_
    refine G_val rfl rfl rfl rfl (V_move rfl rfl) ?_
    refine G_val rfl rfl rfl rfl (V_slen rfl rfl Tryd.underlying9 rfl) ?_
    refine G_val rfl rfl rfl rfl (V_neq rfl rfl rfl) ?_
    refine G_done ?_
    refine G_ifD rfl (fun hc5 => ?_) (fun hc5 => ?_)
    · skip
      refine G_seq ?_
      refine G_region (l := [0, 1, 2]) rfl ?_
      refine G_val rfl rfl rfl rfl (V_assign rfl rfl) ?_
      refine G_val rfl rfl rfl rfl (V_assign rfl rfl) ?_
      refine G_val rfl rfl rfl rfl (V_assign rfl rfl) ?_
      refine G_done ?_
      refine G_ret (post := []) Tryd.func14 rfl (RVs_cons (RV_tmp rfl) (RVs_cons (RV_tmp rfl) (RVs_cons (RV_tmp rfl) RVs_nil))) [] rfl ?_
      dsimp only [packed]
      first
        | (suffices hz : ls.length = 0 by (obtain ⟨e1, e2, e3⟩ := dec_nil hz; rw [e1, e2, e3]; exact ⟨rfl, rfl⟩)
           omega)
        | (suffices hz : ¬ sizeFE (firstF ls) = 0 by (obtain ⟨e1, e2, e3⟩ := dec_size (ls := ls) (by omega) hz; rw [e1, e2, e3]; exact ⟨rfl, rfl⟩)
           omega)
        | (suffices hz : sizeFE (firstF ls) = 0 ∧ 0 < ls.length ∧ ls.length < mF ls by (obtain ⟨e1, e2, e3⟩ := dec_short hz.2.1 hz.1 hz.2.2; rw [e1, e2, e3]; exact ⟨rfl, rfl⟩)
           omega)
        | (suffices hz : sizeFE (firstF ls) = 0 ∧ 0 < ls.length ∧ mF ls ≤ ls.length ∧ ¬ s.length = 48 by (obtain ⟨e1, e2, e3⟩ := dec_part hz.2.1 hz.1 hz.2.2.1 (all_not (take_at hx (by omega)) (decide_eq_false hz.2.2.2)); rw [e1, e2, e3]; exact ⟨rfl, rfl⟩)
           omega)
        | (suffices hz : ¬ num (((allF ls).drop 2).take 4) = crcN ((allF ls).take 2 ++ recF ls) by (obtain ⟨e1, e2, e3⟩ := dec_form (ls := ls) (by omega) hse (by omega) hfu (fun e => hz (hpc.1 e).1); rw [e1, e2, e3]; exact ⟨rfl, rfl⟩)
           omega)
        | (suffices hz : ¬ trimL (trimR ((allF ls).drop (6 + nF ls))) = [] by (obtain ⟨e1, e2, e3⟩ := dec_form (ls := ls) (by omega) hse (by omega) hfu (fun e => hz ((trim_nil _).2 (hpc.1 e).2)); rw [e1, e2, e3]; exact ⟨rfl, rfl⟩)
           assumption)
        | (suffices hz : num (((allF ls).drop 2).take 4) = crcN ((allF ls).take 2 ++ recF ls) ∧ trimL (trimR ((allF ls).drop (6 + nF ls))) = [] by (obtain ⟨e1, e2, e3⟩ := dec_ok (ls := ls) (by omega) hse (by omega) hfu (hpc.2 ⟨hz.1, (trim_nil _).1 hz.2⟩); rw [e1, e2, e3]; exact ⟨rfl, rfl⟩)
           exact ⟨by omega, Classical.not_not.1 (by assumption)⟩)
    refine G_skip ?_
    refine G_inBlock ?_
    refine G_region (l := [0, 1]) rfl ?_
    first
      | refine G_val rfl rfl rfl rfl ((V_add rfl rfl rfl).int (wrap_i64 (by omega))) ?_
      | refine G_val rfl rfl rfl rfl (V_add rfl rfl rfl) ?_
    refine G_val rfl rfl rfl rfl (V_move rfl rfl) ?_
    refine G_done ?_
    refine G_sub ?_ [] ?_ (ih (i + 1) ?_ ?_)
    · (refine (And.intro ?_ (And.intro ?_ (And.intro ?_ (And.intro ?_ (And.intro ?_ (And.intro ?_ trivial)))))) <;> first | rfl | exact slot_int (by omega) | exact slot_int (by simp))
    · exact ⟨_, rfl⟩
    · exact ⟨by omega, all_next ht (take_at hx (by omega)) (decide_eq_true (by omega))⟩
    · (first | omega | (dsimp only; omega))
  refine G_exit rfl ?_
  refine G_seq ?_
  obtain rfl : i = mF ls := by omega
  have hfu : fullF ls = true := all_end ht (by rw [List.length_take]; omega)
  have hal := allF_len hfu (by omega)
  have hrl := recF_len hfu (by omega)
  have hse : sizeFE (firstF ls) = 0 := by omega
  refine G_region (l := [0, 1, 2, 3, 4]) rfl ?_
  refine G_val rfl rfl rfl rfl (V_move rfl rfl) ?_
  refine G_val rfl rfl rfl rfl (V_move rfl rfl) ?_
  refine G_val rfl rfl rfl rfl (V_sliceH rfl Tryd.underlying24 infFrameD_9 rfl rfl rfl (by first | omega | (simp; done) | (simp; omega) | (simp at *; omega))) ?_
  refine G_call (L2 := []) rfl rfl rfl rfl rfl rfl Tryd.call57 (str_join (some b1) p1 q1 c1 T1 f1 (ls.take (mF ls)) (mF ls) (by rw [List.length_take]; omega) (hs.cut (by omega)) (by rw [show (ls.take (mF ls)).flatten = allF ls from rfl]; omega) (by rw [show (ls.take (mF ls)).flatten = allF ls from rfl]; omega)) [] [0] rfl rfl ?_
  rintro v post ⟨rfl, rfl⟩
  rw [show (ls.take (mF ls)).flatten = allF ls from rfl]
  refine G_val rfl rfl rfl rfl (V_assign rfl rfl) ?_
  refine G_done ?_
  refine G_seq ?_
  refine G_draw mixedK (by kernel_rfl) ?_
  refine GQ_val rfl rfl rfl rfl (V_move rfl rfl) ?_
  refine GQ_val rfl rfl rfl rfl (V_move rfl rfl) ?_
  refine GQ_val rfl rfl rfl rfl (Val.int (e' := ((6 + nF ls : Nat) : Int)) (V_add rfl rfl rfl) (add6 _ (by omega))) ?_
  first
    | refine GQ_val rfl rfl rfl rfl (V_ssliceN (lo := 6) (hi := _) rfl Tryd.underlying9 rfl rfl rfl rfl rfl (by first | omega | (simp; done) | (simp; omega) | (simp at *; omega)) (by first | omega | (simp; done) | (simp; omega) | (simp at *; omega))) ?_
    | refine GQ_val rfl rfl rfl rfl (V_sslice rfl Tryd.underlying9 rfl rfl rfl (by first | omega | (simp; done) | (simp; omega) | (simp at *; omega)) (by first | omega | (simp; done) | (simp; omega) | (simp at *; omega)) (by first | omega | (simp; done) | (simp; omega) | (simp at *; omega))) ?_
  refine GQ_val rfl rfl rfl rfl (V_move rfl rfl) ?_
  refine GQ_val rfl rfl rfl rfl (V_move rfl rfl) ?_
  refine GQ_val rfl rfl rfl rfl (Val.int (e' := ((6 + nF ls : Nat) : Int)) (V_add rfl rfl rfl) (add6 _ (by omega))) ?_
  first
    | refine GQ_val rfl rfl rfl rfl (V_ssliceLN (lo := _) rfl Tryd.underlying9 rfl rfl rfl (by first | omega | (simp; done) | (simp; omega) | (simp at *; omega))) ?_
    | refine GQ_val rfl rfl rfl rfl (V_ssliceL rfl Tryd.underlying9 rfl rfl (by first | omega | (simp; done) | (simp; omega) | (simp at *; omega)) (by first | omega | (simp; done) | (simp; omega) | (simp at *; omega))) ?_
  refine GQ_val rfl rfl rfl rfl (V_assign rfl rfl) ?_
  refine GQ_val rfl rfl rfl rfl (V_assign rfl rfl) ?_
  refine GQ_done rfl ?_
  refine G_seq ?_
  rw [rec_cut]
  refine G_region (l := [0, 1, 2, 3, 4, 5, 6, 7]) rfl ?_
  refine G_val rfl rfl rfl rfl (V_move rfl rfl) ?_
  first
    | refine G_val rfl rfl rfl rfl (V_ssliceN (lo := 2) (hi := 6) rfl Tryd.underlying9 rfl rfl rfl rfl rfl (by first | omega | (simp; done) | (simp; omega) | (simp at *; omega)) (by first | omega | (simp; done) | (simp; omega) | (simp at *; omega))) ?_
    | refine G_val rfl rfl rfl rfl (V_sslice rfl Tryd.underlying9 rfl rfl rfl (by first | omega | (simp; done) | (simp; omega) | (simp at *; omega)) (by first | omega | (simp; done) | (simp; omega) | (simp at *; omega)) (by first | omega | (simp; done) | (simp; omega) | (simp at *; omega))) ?_
  rw [sum_cut]
  refine G_call (L2 := []) rfl rfl rfl rfl rfl rfl Tryd.call58 (ct_number (((allF ls).drop 2).take 4) (by simp; omega) (by simp; omega)) [] [] rfl rfl ?_
  rintro v post ⟨rfl, rfl⟩
  refine G_val rfl rfl rfl rfl (V_move rfl rfl) ?_
  refine G_val rfl rfl rfl rfl (V_extract rfl rfl rfl) ?_
  refine G_val rfl rfl rfl rfl (V_extract rfl rfl rfl) ?_
  refine G_val rfl rfl rfl rfl (V_assign rfl rfl) ?_
  refine G_val rfl rfl rfl rfl (V_assign rfl rfl) ?_
  refine G_done ?_
  refine G_seq ?_
  refine G_seq ?_
  have hn4 := num_four ((allF ls).drop 2)
  have hpc := pad_cases hfu (by omega) hse (fun e => by rw [e] at hx0; cases hx0)
  refine G_region (l := [0, 1, 2, 3, 4, 5, 6, 7, 8, 9, 10, 11, 12]) rfl ?_
  refine G_val rfl rfl rfl rfl (V_move rfl rfl) ?_
  first
    | refine G_val rfl rfl rfl rfl ((V_conv rfl rfl Tryd.underlying103 Tryd.underlying22).int (wrap_u32 (by omega))) ?_
    | refine G_val rfl rfl rfl rfl (V_conv rfl rfl Tryd.underlying103 Tryd.underlying22) ?_
  refine G_val rfl rfl rfl rfl (V_move rfl rfl) ?_
  first
    | refine G_val rfl rfl rfl rfl (V_ssliceHN (hi := 2) rfl Tryd.underlying9 rfl rfl rfl (by first | omega | (simp; done) | (simp; omega) | (simp at *; omega))) ?_
    | refine G_val rfl rfl rfl rfl (V_ssliceH rfl Tryd.underlying9 rfl rfl (by first | omega | (simp; done) | (simp; omega) | (simp at *; omega)) (by first | omega | (simp; done) | (simp; omega) | (simp at *; omega))) ?_
  refine G_val rfl rfl rfl rfl (V_move rfl rfl) ?_
  refine G_new rfl rfl rfl rfl (N_buildAll (s := 1) (cs := [_, _]) rfl Tryd.underlying24 infFrameD_9 rfl rfl rfl rfl rfl rfl rfl rfl rfl) (fun b69 => ?_)
  refine G_call (L2 := [_]) rfl rfl rfl rfl rfl rfl Tryd.call59 (sum_of (some b69) 0 2 _ _ _ [(allF ls).take 2, recF ls] (sees_strs b69 2 [(allF ls).take 2, recF ls] rfl (by omega)) (by intro x hx; simp only [List.mem_cons, List.not_mem_nil, or_false] at hx; rcases hx with rfl | rfl <;> first | omega | (simp; omega))) [] [1] rfl rfl ?_
  rintro v post ⟨rfl, rfl⟩
  show G _ _ _ [_] _
  rw [crcW_two]
  refine G_val rfl rfl rfl rfl (V_neq rfl rfl rfl) ?_
  refine G_val rfl rfl rfl rfl (V_move rfl rfl) ?_
  refine G_splitD 72 rfl (fun hc5 => ?_) (fun hc5 => ?_)
  · skip
    refine G_off rfl rfl rfl rfl ?_
    refine G_off rfl rfl rfl rfl ?_
    refine G_off rfl rfl rfl rfl ?_
    refine G_val rfl rfl rfl rfl (V_pickT rfl rfl rfl) ?_
    refine G_done ?_
    refine G_then rfl ?_
    refine G_seq ?_
    refine G_region (l := [0, 1, 2]) rfl ?_
    refine G_val rfl rfl rfl rfl (V_assign rfl rfl) ?_
    refine G_val rfl rfl rfl rfl (V_assign rfl rfl) ?_
    refine G_val rfl rfl rfl rfl (V_assign rfl rfl) ?_
    refine G_done ?_
    refine G_ret (post := []) Tryd.func14 rfl (RVs_cons (RV_tmp rfl) (RVs_cons (RV_tmp rfl) (RVs_cons (RV_tmp rfl) RVs_nil))) [] rfl ?_
    dsimp only [packed]
    first
      | (suffices hz : ls.length = 0 by (obtain ⟨e1, e2, e3⟩ := dec_nil hz; rw [e1, e2, e3]; exact ⟨rfl, rfl⟩)
         omega)
      | (suffices hz : ¬ sizeFE (firstF ls) = 0 by (obtain ⟨e1, e2, e3⟩ := dec_size (ls := ls) (by omega) hz; rw [e1, e2, e3]; exact ⟨rfl, rfl⟩)
         omega)
      | (suffices hz : sizeFE (firstF ls) = 0 ∧ 0 < ls.length ∧ ls.length < mF ls by (obtain ⟨e1, e2, e3⟩ := dec_short hz.2.1 hz.1 hz.2.2; rw [e1, e2, e3]; exact ⟨rfl, rfl⟩)
         omega)
      | (suffices hz : sizeFE (firstF ls) = 0 ∧ 0 < ls.length ∧ mF ls ≤ ls.length ∧ ¬ s.length = 48 by (obtain ⟨e1, e2, e3⟩ := dec_part hz.2.1 hz.1 hz.2.2.1 (all_not (take_at hx (by omega)) (decide_eq_false hz.2.2.2)); rw [e1, e2, e3]; exact ⟨rfl, rfl⟩)
         omega)
      | (suffices hz : ¬ num (((allF ls).drop 2).take 4) = crcN ((allF ls).take 2 ++ recF ls) by (obtain ⟨e1, e2, e3⟩ := dec_form (ls := ls) (by omega) hse (by omega) hfu (fun e => hz (hpc.1 e).1); rw [e1, e2, e3]; exact ⟨rfl, rfl⟩)
         omega)
      | (suffices hz : ¬ trimL (trimR ((allF ls).drop (6 + nF ls))) = [] by (obtain ⟨e1, e2, e3⟩ := dec_form (ls := ls) (by omega) hse (by omega) hfu (fun e => hz ((trim_nil _).2 (hpc.1 e).2)); rw [e1, e2, e3]; exact ⟨rfl, rfl⟩)
         assumption)
      | (suffices hz : num (((allF ls).drop 2).take 4) = crcN ((allF ls).take 2 ++ recF ls) ∧ trimL (trimR ((allF ls).drop (6 + nF ls))) = [] by (obtain ⟨e1, e2, e3⟩ := dec_ok (ls := ls) (by omega) hse (by omega) hfu (hpc.2 ⟨hz.1, (trim_nil _).1 hz.2⟩); rw [e1, e2, e3]; exact ⟨rfl, rfl⟩)
         exact ⟨by omega, Classical.not_not.1 (by assumption)⟩)
  refine G_val rfl rfl rfl rfl (V_move rfl rfl) ?_
  refine G_call (L2 := [_]) rfl rfl rfl rfl rfl rfl Tryd.call60 (str_trim ((allF ls).drop (6 + nF ls)) (by simp; omega)) [] [] rfl rfl ?_
  rintro v post ⟨rfl, rfl⟩
  show G _ _ _ [_] _
  refine G_val rfl rfl rfl rfl (V_sneq rfl rfl rfl) ?_
  refine G_val rfl rfl rfl rfl (V_pickF rfl rfl rfl) ?_
  refine G_done ?_
  refine G_ifD rfl (fun hc6 => ?_) (fun hc6 => ?_)
  · skip
    refine G_seq ?_
    refine G_region (l := [0, 1, 2]) rfl ?_
    refine G_val rfl rfl rfl rfl (V_assign rfl rfl) ?_
    refine G_val rfl rfl rfl rfl (V_assign rfl rfl) ?_
    refine G_val rfl rfl rfl rfl (V_assign rfl rfl) ?_
    refine G_done ?_
    refine G_ret (post := []) Tryd.func14 rfl (RVs_cons (RV_tmp rfl) (RVs_cons (RV_tmp rfl) (RVs_cons (RV_tmp rfl) RVs_nil))) [] rfl ?_
    dsimp only [packed]
    first
      | (suffices hz : ls.length = 0 by (obtain ⟨e1, e2, e3⟩ := dec_nil hz; rw [e1, e2, e3]; exact ⟨rfl, rfl⟩)
         omega)
      | (suffices hz : ¬ sizeFE (firstF ls) = 0 by (obtain ⟨e1, e2, e3⟩ := dec_size (ls := ls) (by omega) hz; rw [e1, e2, e3]; exact ⟨rfl, rfl⟩)
         omega)
      | (suffices hz : sizeFE (firstF ls) = 0 ∧ 0 < ls.length ∧ ls.length < mF ls by (obtain ⟨e1, e2, e3⟩ := dec_short hz.2.1 hz.1 hz.2.2; rw [e1, e2, e3]; exact ⟨rfl, rfl⟩)
         omega)
      | (suffices hz : sizeFE (firstF ls) = 0 ∧ 0 < ls.length ∧ mF ls ≤ ls.length ∧ ¬ s.length = 48 by (obtain ⟨e1, e2, e3⟩ := dec_part hz.2.1 hz.1 hz.2.2.1 (all_not (take_at hx (by omega)) (decide_eq_false hz.2.2.2)); rw [e1, e2, e3]; exact ⟨rfl, rfl⟩)
         omega)
      | (suffices hz : ¬ num (((allF ls).drop 2).take 4) = crcN ((allF ls).take 2 ++ recF ls) by (obtain ⟨e1, e2, e3⟩ := dec_form (ls := ls) (by omega) hse (by omega) hfu (fun e => hz (hpc.1 e).1); rw [e1, e2, e3]; exact ⟨rfl, rfl⟩)
         omega)
      | (suffices hz : ¬ trimL (trimR ((allF ls).drop (6 + nF ls))) = [] by (obtain ⟨e1, e2, e3⟩ := dec_form (ls := ls) (by omega) hse (by omega) hfu (fun e => hz ((trim_nil _).2 (hpc.1 e).2)); rw [e1, e2, e3]; exact ⟨rfl, rfl⟩)
         assumption)
      | (suffices hz : num (((allF ls).drop 2).take 4) = crcN ((allF ls).take 2 ++ recF ls) ∧ trimL (trimR ((allF ls).drop (6 + nF ls))) = [] by (obtain ⟨e1, e2, e3⟩ := dec_ok (ls := ls) (by omega) hse (by omega) hfu (hpc.2 ⟨hz.1, (trim_nil _).1 hz.2⟩); rw [e1, e2, e3]; exact ⟨rfl, rfl⟩)
         exact ⟨by omega, Classical.not_not.1 (by assumption)⟩)
  refine G_skip ?_
  refine G_seq ?_
  refine G_region (l := [0, 1, 2, 3, 4]) rfl ?_
  refine G_val rfl rfl rfl rfl (V_move rfl rfl) ?_
  refine G_val rfl rfl rfl rfl (V_move rfl rfl) ?_
  refine G_val rfl rfl rfl rfl (V_assign rfl rfl) ?_
  refine G_val rfl rfl rfl rfl (V_assign rfl rfl) ?_
  refine G_val rfl rfl rfl rfl (V_assign rfl rfl) ?_
  refine G_done ?_
  refine G_ret (post := []) Tryd.func14 rfl (RVs_cons (RV_tmp rfl) (RVs_cons (RV_tmp rfl) (RVs_cons (RV_tmp rfl) RVs_nil))) [] rfl ?_
  dsimp only [packed]
  first
    | (suffices hz : ls.length = 0 by (obtain ⟨e1, e2, e3⟩ := dec_nil hz; rw [e1, e2, e3]; exact ⟨rfl, rfl⟩)
       omega)
    | (suffices hz : ¬ sizeFE (firstF ls) = 0 by (obtain ⟨e1, e2, e3⟩ := dec_size (ls := ls) (by omega) hz; rw [e1, e2, e3]; exact ⟨rfl, rfl⟩)
       omega)
    | (suffices hz : sizeFE (firstF ls) = 0 ∧ 0 < ls.length ∧ ls.length < mF ls by (obtain ⟨e1, e2, e3⟩ := dec_short hz.2.1 hz.1 hz.2.2; rw [e1, e2, e3]; exact ⟨rfl, rfl⟩)
       omega)
    | (suffices hz : sizeFE (firstF ls) = 0 ∧ 0 < ls.length ∧ mF ls ≤ ls.length ∧ ¬ s.length = 48 by (obtain ⟨e1, e2, e3⟩ := dec_part hz.2.1 hz.1 hz.2.2.1 (all_not (take_at hx (by omega)) (decide_eq_false hz.2.2.2)); rw [e1, e2, e3]; exact ⟨rfl, rfl⟩)
       omega)
    | (suffices hz : ¬ num (((allF ls).drop 2).take 4) = crcN ((allF ls).take 2 ++ recF ls) by (obtain ⟨e1, e2, e3⟩ := dec_form (ls := ls) (by omega) hse (by omega) hfu (fun e => hz (hpc.1 e).1); rw [e1, e2, e3]; exact ⟨rfl, rfl⟩)
       omega)
    | (suffices hz : ¬ trimL (trimR ((allF ls).drop (6 + nF ls))) = [] by (obtain ⟨e1, e2, e3⟩ := dec_form (ls := ls) (by omega) hse (by omega) hfu (fun e => hz ((trim_nil _).2 (hpc.1 e).2)); rw [e1, e2, e3]; exact ⟨rfl, rfl⟩)
       assumption)
    | (suffices hz : num (((allF ls).drop 2).take 4) = crcN ((allF ls).take 2 ++ recF ls) ∧ trimL (trimR ((allF ls).drop (6 + nF ls))) = [] by (obtain ⟨e1, e2, e3⟩ := dec_ok (ls := ls) (by omega) hse (by omega) hfu (hpc.2 ⟨hz.1, (trim_nil _).1 hz.2⟩); rw [e1, e2, e3]; exact ⟨rfl, rfl⟩)
       exact ⟨by omega, Classical.not_not.1 (by assumption)⟩)

set_option maxRecDepth 100000 in
set_option maxHeartbeats 1000000 in
theorem rfr_decode (o1 : Option Nat) (p1 q1 : Nat) (c1 : Array Value) (T1 : TypeId) (f1 : Nat × Nat) (ls : List (List UInt8)) (hs : Sees 1 o1 p1 q1 c1 (ls.map strC) ls.length) (hl : ∀ x ∈ ls, x.length ≤ 9223372036854775807) :
    Ct Tryd.prog 81 [sv o1 p1 ls.length q1] [(o1, .cells c1 T1 f1)] [] fun v post => v = .tuple #[.string (bs (decS ls)), .int .i64 (decM ls : Int), .int .i64 (decE ls)] ∧ post = [] := by
 have hk1 := hs.le
 have hk2 := hs.max
 have hmm : mF ls = manyN (nF ls) := rfl
 have hn1 : nF ls ≤ 1000 := sizeF_le _
 have hroom := manyN_room (nF ls)
 have hm21 := mF_le ls
 refine ct_of Tryd.func81 rfl rfl (fun w0 => ?_)
 show G _ _ [(0, _)] _ _
 refine G_seq ?_
 refine G_region (l := [0, 1, 2]) rfl ?_
 refine G_val rfl rfl rfl rfl (V_assign rfl rfl) ?_
 refine G_val rfl rfl rfl rfl (V_assign rfl rfl) ?_
 refine G_val rfl rfl rfl rfl (V_assign rfl rfl) ?_
 refine G_done ?_
 refine G_seq ?_
 refine G_seq ?_
 refine G_region (l := [0, 1, 2]) rfl ?_
 refine G_val rfl rfl rfl rfl (V_move rfl rfl) ?_
 refine G_val rfl rfl rfl rfl (V_len rfl rfl Tryd.underlying24 rfl) ?_
 refine G_val rfl rfl rfl rfl (V_eql rfl rfl rfl) ?_
 refine G_done ?_
 refine G_ifD rfl (fun hc1 => ?_) (fun hc1 => ?_)
 · skip
   refine G_seq ?_
   refine G_region (l := [0, 1, 2]) rfl ?_
   refine G_val rfl rfl rfl rfl (V_assign rfl rfl) ?_
   refine G_val rfl rfl rfl rfl (V_assign rfl rfl) ?_
   refine G_val rfl rfl rfl rfl (V_assign rfl rfl) ?_
   refine G_done ?_
   refine G_ret (post := []) Tryd.func81 rfl (RVs_cons (RV_tmp rfl) (RVs_cons (RV_tmp rfl) (RVs_cons (RV_tmp rfl) RVs_nil))) [] rfl ?_
   dsimp only [packed]
   first
     | (suffices hz : ls.length = 0 by (obtain ⟨e1, e2, e3⟩ := dec_nil hz; rw [e1, e2, e3]; exact ⟨rfl, rfl⟩)
        omega)
     | (suffices hz : ¬ sizeFE (firstF ls) = 0 by (obtain ⟨e1, e2, e3⟩ := dec_size (ls := ls) (by omega) hz; rw [e1, e2, e3]; exact ⟨rfl, rfl⟩)
        omega)
     | (suffices hz : sizeFE (firstF ls) = 0 ∧ 0 < ls.length ∧ ls.length < mF ls by (obtain ⟨e1, e2, e3⟩ := dec_short hz.2.1 hz.1 hz.2.2; rw [e1, e2, e3]; exact ⟨rfl, rfl⟩)
        omega)
     | (suffices hz : sizeFE (firstF ls) = 0 ∧ 0 < ls.length ∧ mF ls ≤ ls.length ∧ ¬ s.length = 48 by (obtain ⟨e1, e2, e3⟩ := dec_part hz.2.1 hz.1 hz.2.2.1 (all_not (take_at hx (by omega)) (decide_eq_false hz.2.2.2)); rw [e1, e2, e3]; exact ⟨rfl, rfl⟩)
        omega)
     | (suffices hz : ¬ x = y by (obtain ⟨e1, e2, e3⟩ := dec_form (ls := ls) (by omega) hse (by omega) hfu (fun e => ne_at hx (take_at hy (by omega)) hz (hpa.2 e)); rw [e1, e2, e3]; exact ⟨rfl, rfl⟩)
        assumption)
     | (suffices hz : mF ls ≤ i by (obtain ⟨e1, e2, e3⟩ := dec_ok (ls := ls) (by omega) hse (by omega) hfu (hpa.1 (eq_end hq (by omega) (by rw [List.length_take]; omega))); rw [e1, e2, e3, rec_cut]; exact ⟨rfl, rfl⟩)
        omega)
 refine G_skip ?_
 refine G_seq ?_
 have hx0 := first_at (show 0 < ls.length by omega)
 have hl0 := hl _ (List.mem_of_getElem? hx0)
 obtain ⟨b1, rfl⟩ := hs.isSome (by omega)
 refine G_region (l := [0, 1, 2, 3, 4, 5, 6, 7, 8]) rfl ?_
 refine G_val rfl rfl rfl rfl (V_move rfl rfl) ?_
 first
   | refine G_val rfl rfl rfl rfl (V_indexAddrN (s := 1) rfl Tryd.underlying24 infFrameD_9 rfl rfl rfl rfl (by omega)) ?_
   | refine G_val rfl rfl rfl rfl (V_indexAddr (s := 1) rfl Tryd.underlying24 infFrameD_9 rfl rfl rfl (by omega) (by first | omega | (simp; done) | (simp; omega) | (simp at *; omega))) ?_
 refine G_val rfl rfl rfl rfl (V_load1 rfl rfl (mem_at 0 rfl) (nth_of (hs.cell hx0)) Tryd.underlying9 rfl) ?_
 refine G_call (L2 := []) rfl rfl rfl rfl rfl rfl Tryd.call80 (rfr_size (firstF ls) hl0) [] [] rfl rfl ?_
 rintro v post ⟨rfl, rfl⟩
 rw [show sizeF (firstF ls) = nF ls from rfl]
 refine G_val rfl rfl rfl rfl (V_move rfl rfl) ?_
 refine G_val rfl rfl rfl rfl (V_extract rfl rfl rfl) ?_
 refine G_val rfl rfl rfl rfl (V_extract rfl rfl rfl) ?_
 refine G_val rfl rfl rfl rfl (V_assign rfl rfl) ?_
 refine G_val rfl rfl rfl rfl (V_assign rfl rfl) ?_
 refine G_done ?_
 refine G_seq ?_
 refine G_seq ?_
 refine G_region (l := [0, 1]) rfl ?_
 refine G_val rfl rfl rfl rfl (V_move rfl rfl) ?_
 refine G_val rfl rfl rfl rfl (V_neq rfl rfl rfl) ?_
 refine G_done ?_
 refine G_ifD rfl (fun hc2 => ?_) (fun hc2 => ?_)
 · skip
   refine G_seq ?_
   refine G_region (l := [0, 1, 2, 3]) rfl ?_
   refine G_val rfl rfl rfl rfl (V_move rfl rfl) ?_
   refine G_val rfl rfl rfl rfl (V_assign rfl rfl) ?_
   refine G_val rfl rfl rfl rfl (V_assign rfl rfl) ?_
   refine G_val rfl rfl rfl rfl (V_assign rfl rfl) ?_
   refine G_done ?_
   refine G_ret (post := []) Tryd.func81 rfl (RVs_cons (RV_tmp rfl) (RVs_cons (RV_tmp rfl) (RVs_cons (RV_tmp rfl) RVs_nil))) [] rfl ?_
   dsimp only [packed]
   first
     | (suffices hz : ls.length = 0 by (obtain ⟨e1, e2, e3⟩ := dec_nil hz; rw [e1, e2, e3]; exact ⟨rfl, rfl⟩)
        omega)
     | (suffices hz : ¬ sizeFE (firstF ls) = 0 by (obtain ⟨e1, e2, e3⟩ := dec_size (ls := ls) (by omega) hz; rw [e1, e2, e3]; exact ⟨rfl, rfl⟩)
        omega)
     | (suffices hz : sizeFE (firstF ls) = 0 ∧ 0 < ls.length ∧ ls.length < mF ls by (obtain ⟨e1, e2, e3⟩ := dec_short hz.2.1 hz.1 hz.2.2; rw [e1, e2, e3]; exact ⟨rfl, rfl⟩)
        omega)
     | (suffices hz : sizeFE (firstF ls) = 0 ∧ 0 < ls.length ∧ mF ls ≤ ls.length ∧ ¬ s.length = 48 by (obtain ⟨e1, e2, e3⟩ := dec_part hz.2.1 hz.1 hz.2.2.1 (all_not (take_at hx (by omega)) (decide_eq_false hz.2.2.2)); rw [e1, e2, e3]; exact ⟨rfl, rfl⟩)
        omega)
     | (suffices hz : ¬ x = y by (obtain ⟨e1, e2, e3⟩ := dec_form (ls := ls) (by omega) hse (by omega) hfu (fun e => ne_at hx (take_at hy (by omega)) hz (hpa.2 e)); rw [e1, e2, e3]; exact ⟨rfl, rfl⟩)
        assumption)
     | (suffices hz : mF ls ≤ i by (obtain ⟨e1, e2, e3⟩ := dec_ok (ls := ls) (by omega) hse (by omega) hfu (hpa.1 (eq_end hq (by omega) (by rw [List.length_take]; omega))); rw [e1, e2, e3, rec_cut]; exact ⟨rfl, rfl⟩)
        omega)
 refine G_skip ?_
 refine G_seq ?_
 refine G_seq ?_
 refine G_region (l := [0, 1, 2, 3, 4]) rfl ?_
 refine G_val rfl rfl rfl rfl (V_move rfl rfl) ?_
 refine G_val rfl rfl rfl rfl (V_len rfl rfl Tryd.underlying24 rfl) ?_
 refine G_val rfl rfl rfl rfl (V_move rfl rfl) ?_
 refine G_call (L2 := []) rfl rfl rfl rfl rfl rfl Tryd.call39 (rfr_many (nF ls) (by omega)) [] [] rfl rfl ?_
 rintro v post ⟨rfl, rfl⟩
 try rw [show manyN (nF ls) = mF ls from rfl]
 refine G_val rfl rfl rfl rfl (V_lss rfl rfl rfl) ?_
 refine G_done ?_
 refine G_ifD rfl (fun hc3 => ?_) (fun hc3 => ?_)
 · skip
   refine G_seq ?_
   refine G_region (l := [0, 1, 2]) rfl ?_
   refine G_val rfl rfl rfl rfl (V_assign rfl rfl) ?_
   refine G_val rfl rfl rfl rfl (V_assign rfl rfl) ?_
   refine G_val rfl rfl rfl rfl (V_assign rfl rfl) ?_
   refine G_done ?_
   refine G_ret (post := []) Tryd.func81 rfl (RVs_cons (RV_tmp rfl) (RVs_cons (RV_tmp rfl) (RVs_cons (RV_tmp rfl) RVs_nil))) [] rfl ?_
   dsimp only [packed]
   first
     | (suffices hz : ls.length = 0 by (obtain ⟨e1, e2, e3⟩ := dec_nil hz; rw [e1, e2, e3]; exact ⟨rfl, rfl⟩)
        omega)
     | (suffices hz : ¬ sizeFE (firstF ls) = 0 by (obtain ⟨e1, e2, e3⟩ := dec_size (ls := ls) (by omega) hz; rw [e1, e2, e3]; exact ⟨rfl, rfl⟩)
        omega)
     | (suffices hz : sizeFE (firstF ls) = 0 ∧ 0 < ls.length ∧ ls.length < mF ls by (obtain ⟨e1, e2, e3⟩ := dec_short hz.2.1 hz.1 hz.2.2; rw [e1, e2, e3]; exact ⟨rfl, rfl⟩)
        omega)
     | (suffices hz : sizeFE (firstF ls) = 0 ∧ 0 < ls.length ∧ mF ls ≤ ls.length ∧ ¬ s.length = 48 by (obtain ⟨e1, e2, e3⟩ := dec_part hz.2.1 hz.1 hz.2.2.1 (all_not (take_at hx (by omega)) (decide_eq_false hz.2.2.2)); rw [e1, e2, e3]; exact ⟨rfl, rfl⟩)
        omega)
     | (suffices hz : ¬ x = y by (obtain ⟨e1, e2, e3⟩ := dec_form (ls := ls) (by omega) hse (by omega) hfu (fun e => ne_at hx (take_at hy (by omega)) hz (hpa.2 e)); rw [e1, e2, e3]; exact ⟨rfl, rfl⟩)
        assumption)
     | (suffices hz : mF ls ≤ i by (obtain ⟨e1, e2, e3⟩ := dec_ok (ls := ls) (by omega) hse (by omega) hfu (hpa.1 (eq_end hq (by omega) (by rw [List.length_take]; omega))); rw [e1, e2, e3, rec_cut]; exact ⟨rfl, rfl⟩)
        omega)
 refine G_skip ?_
 refine G_seq ?_
 refine G_region (l := [0]) rfl ?_
 refine G_val rfl rfl rfl rfl (V_assign rfl rfl) ?_
 refine G_done ?_
 refine G_seq ?_
 refine G_seq ?_
 refine G_region (l := [0]) rfl ?_
 refine G_val rfl rfl rfl rfl (V_assign rfl rfl) ?_
 refine G_done ?_
 refine G_block ?_
 refine G_sub ?he10 [] ?hl10 (G_loop (X := Nat) (fun i => i ≤ mF ls ∧ ((ls.take (mF ls)).take i).all (fun x => decide (x.length = 48)) = true) (fun i => mF ls - i) (fun i => [(0, sv (some b1) p1 ls.length q1), (5, .int .i64 (nF ls : Int)), (7, .string (bs (ls.take i).flatten)), (8, .int .i64 (i : Int))]) (fun i => []) ?round10 0 ?h010)
 case he10 => exact (And.intro rfl (And.intro rfl (And.intro rfl (And.intro rfl trivial))))
 case hl10 => exact ⟨_, rfl⟩
 case h010 => exact ⟨Nat.zero_le _, rfl⟩
 case round10 =>
  intro i hJ ih
  try dsimp only at hJ ih
  obtain ⟨hi, ht⟩ := hJ
  refine G_seq ?_
  refine G_seq ?_
  refine G_region (l := [0, 1, 2, 3]) rfl ?_
  refine G_val rfl rfl rfl rfl (V_move rfl rfl) ?_
  refine G_val rfl rfl rfl rfl (V_move rfl rfl) ?_
  refine G_call (L2 := []) rfl rfl rfl rfl rfl rfl Tryd.call39 (rfr_many (nF ls) (by omega)) [] [] rfl rfl ?_
  rintro v post ⟨rfl, rfl⟩
  try rw [show manyN (nF ls) = mF ls from rfl]
  refine G_val rfl rfl rfl rfl (V_lss rfl rfl rfl) ?_
  refine G_done ?_
  refine G_ifD rfl (fun hc4 => ?_) (fun hc4 => ?_)
  · skip
    refine G_skip ?_
    refine G_seq ?_
    refine G_block ?_
    refine G_seq ?_
    refine G_seq ?_
    obtain ⟨s, hx⟩ := getI (show i < ls.length by omega)
    have hls := hl _ (List.mem_of_getElem? hx)
    refine G_region (l := [0, 1, 2, 3, 4, 5]) rfl ?_
    refine G_val rfl rfl rfl rfl (V_move rfl rfl) ?_
    refine G_val rfl rfl rfl rfl (V_move rfl rfl) ?_
    first
      | refine G_val rfl rfl rfl rfl (V_indexAddrN (s := 1) rfl Tryd.underlying24 infFrameD_9 rfl rfl rfl rfl (by omega)) ?_
      | refine G_val rfl rfl rfl rfl (V_indexAddr (s := 1) rfl Tryd.underlying24 infFrameD_9 rfl rfl rfl (by omega) (by first | omega | (simp; done) | (simp; omega) | (simp at *; omega))) ?_
    refine G_val rfl rfl rfl rfl (V_load1 rfl rfl (mem_at 0 rfl) (nth_of (hs.cell hx)) Tryd.underlying9 rfl) ?_
    refine G_val rfl rfl rfl rfl (V_slen rfl rfl Tryd.underlying9 rfl) ?_
    refine G_val rfl rfl rfl rfl (V_neq rfl rfl rfl) ?_
    refine G_done ?_
    refine G_ifD rfl (fun hc5 => ?_) (fun hc5 => ?_)
    · skip
      refine G_seq ?_
      refine G_region (l := [0, 1, 2]) rfl ?_
      refine G_val rfl rfl rfl rfl (V_assign rfl rfl) ?_
      refine G_val rfl rfl rfl rfl (V_assign rfl rfl) ?_
      refine G_val rfl rfl rfl rfl (V_assign rfl rfl) ?_
      refine G_done ?_
      refine G_ret (post := []) Tryd.func81 rfl (RVs_cons (RV_tmp rfl) (RVs_cons (RV_tmp rfl) (RVs_cons (RV_tmp rfl) RVs_nil))) [] rfl ?_
      dsimp only [packed]
      first
        | (suffices hz : ls.length = 0 by (obtain ⟨e1, e2, e3⟩ := dec_nil hz; rw [e1, e2, e3]; exact ⟨rfl, rfl⟩)
           omega)
        | (suffices hz : ¬ sizeFE (firstF ls) = 0 by (obtain ⟨e1, e2, e3⟩ := dec_size (ls := ls) (by omega) hz; rw [e1, e2, e3]; exact ⟨rfl, rfl⟩)
           omega)
        | (suffices hz : sizeFE (firstF ls) = 0 ∧ 0 < ls.length ∧ ls.length < mF ls by (obtain ⟨e1, e2, e3⟩ := dec_short hz.2.1 hz.1 hz.2.2; rw [e1, e2, e3]; exact ⟨rfl, rfl⟩)
           omega)
        | (suffices hz : sizeFE (firstF ls) = 0 ∧ 0 < ls.length ∧ mF ls ≤ ls.length ∧ ¬ s.length = 48 by (obtain ⟨e1, e2, e3⟩ := dec_part hz.2.1 hz.1 hz.2.2.1 (all_not (take_at hx (by omega)) (decide_eq_false hz.2.2.2)); rw [e1, e2, e3]; exact ⟨rfl, rfl⟩)
           omega)
        | (suffices hz : ¬ x = y by (obtain ⟨e1, e2, e3⟩ := dec_form (ls := ls) (by omega) hse (by omega) hfu (fun e => ne_at hx (take_at hy (by omega)) hz (hpa.2 e)); rw [e1, e2, e3]; exact ⟨rfl, rfl⟩)
           assumption)
        | (suffices hz : mF ls ≤ i by (obtain ⟨e1, e2, e3⟩ := dec_ok (ls := ls) (by omega) hse (by omega) hfu (hpa.1 (eq_end hq (by omega) (by rw [List.length_take]; omega))); rw [e1, e2, e3, rec_cut]; exact ⟨rfl, rfl⟩)
           omega)
    refine G_skip ?_
    have hfl := flat_len48 _ (fun x hx => of_decide_eq_true (List.all_eq_true.1 ht x hx))
    rw [List.take_take, Nat.min_eq_left hi, List.length_take] at hfl
    refine G_region (l := [0, 1, 2, 3, 4, 5, 6]) rfl ?_
    refine G_val rfl rfl rfl rfl (V_move rfl rfl) ?_
    refine G_val rfl rfl rfl rfl (V_move rfl rfl) ?_
    refine G_val rfl rfl rfl rfl (V_move rfl rfl) ?_
    first
      | refine G_val rfl rfl rfl rfl (V_indexAddrN (s := 1) rfl Tryd.underlying24 infFrameD_9 rfl rfl rfl rfl (by omega)) ?_
      | refine G_val rfl rfl rfl rfl (V_indexAddr (s := 1) rfl Tryd.underlying24 infFrameD_9 rfl rfl rfl (by omega) (by first | omega | (simp; done) | (simp; omega) | (simp at *; omega))) ?_
    refine G_val rfl rfl rfl rfl (V_load1 rfl rfl (mem_at 0 rfl) (nth_of (hs.cell hx)) Tryd.underlying9 rfl) ?_
    refine G_val rfl rfl rfl rfl (V_sadd rfl rfl rfl (by first | omega | (simp; done) | (simp; omega) | (simp at *; omega))) ?_
    rw [← flat_next hx]
    refine G_val rfl rfl rfl rfl (V_assign rfl rfl) ?_
    refine G_done ?_
    refine G_inBlock ?_
    refine G_region (l := [0, 1, 2]) rfl ?_
    refine G_val rfl rfl rfl rfl (V_move rfl rfl) ?_
    first
      | refine G_val rfl rfl rfl rfl ((V_add rfl rfl rfl).int (wrap_i64 (by omega))) ?_
      | refine G_val rfl rfl rfl rfl (V_add rfl rfl rfl) ?_
    refine G_val rfl rfl rfl rfl (V_assign rfl rfl) ?_
    refine G_done ?_
    refine G_sub ?_ [] ?_ (ih (i + 1) ?_ ?_)
    · (refine (And.intro ?_ (And.intro ?_ (And.intro ?_ (And.intro ?_ trivial)))) <;> first | rfl | exact slot_int (by omega) | exact slot_int (by simp))
    · exact ⟨_, rfl⟩
    · exact ⟨by omega, all_next ht (take_at hx (by omega)) (decide_eq_true (by omega))⟩
    · (first | omega | (dsimp only; omega))
  refine G_exit rfl ?_
  refine G_seq ?_
  obtain rfl : i = mF ls := by omega
  have hfu : fullF ls = true := all_end ht (by rw [List.length_take]; omega)
  have hal := allF_len hfu (by omega)
  have hrl := recF_len hfu (by omega)
  have hse : sizeFE (firstF ls) = 0 := by omega
  rw [show (ls.take (mF ls)).flatten = allF ls from rfl]
  refine G_region (l := [0, 1, 2, 3, 4, 5, 6, 7, 8, 9]) rfl ?_
  refine G_val rfl rfl rfl rfl (V_move rfl rfl) ?_
  refine G_val rfl rfl rfl rfl (V_move rfl rfl) ?_
  refine G_val rfl rfl rfl rfl (Val.int (e' := ((6 + nF ls : Nat) : Int)) (V_add rfl rfl rfl) (add6 _ (by omega))) ?_
  first
    | refine G_val rfl rfl rfl rfl (V_ssliceN (lo := 6) (hi := _) rfl Tryd.underlying9 rfl rfl rfl rfl rfl (by first | omega | (simp; done) | (simp; omega) | (simp at *; omega)) (by first | omega | (simp; done) | (simp; omega) | (simp at *; omega))) ?_
    | refine G_val rfl rfl rfl rfl (V_sslice rfl Tryd.underlying9 rfl rfl rfl (by first | omega | (simp; done) | (simp; omega) | (simp at *; omega)) (by first | omega | (simp; done) | (simp; omega) | (simp at *; omega)) (by first | omega | (simp; done) | (simp; omega) | (simp at *; omega))) ?_
  rw [rec_cut]
  refine G_call (L2 := []) rfl rfl rfl rfl rfl rfl Tryd.call13 (rfr_encode (recF ls) (by omega)) [] [] rfl rfl ?_
  rintro v post ⟨u, hu, rfl, rfl⟩
  show G _ _ _ [_] _
  obtain ⟨en1, en2⟩ := enc_rec (ls := ls) (by omega) hfu
  have hpa := pieces_all (ls := ls) (by omega) hfu
  rw [en1, en2]
  rw [en1] at hu
  obtain ⟨ob, cs, fz, cap⟩ := u
  obtain ⟨b9, hb9⟩ := hu.isSome (by have := manyN_pos (nF ls); omega)
  simp only at hb9
  subst hb9
  show G _ _ _ [(some b9, .cells cs 9 fz)] _
  refine G_val rfl rfl rfl rfl (V_move rfl rfl) ?_
  refine G_val rfl rfl rfl rfl (V_extract rfl rfl rfl) ?_
  refine G_val rfl rfl rfl rfl (V_extract rfl rfl rfl) ?_
  refine G_val rfl rfl rfl rfl (V_assign rfl rfl) ?_
  refine G_val rfl rfl rfl rfl (V_assign rfl rfl) ?_
  refine G_done ?_
  refine G_seq ?_
  refine G_seq ?_
  refine G_region (l := [0]) rfl ?_
  refine G_val rfl rfl rfl rfl (V_assign rfl rfl) ?_
  refine G_done ?_
  refine G_block ?_
  refine G_sub ?he17 [0] ?hl17 (G_loop (X := Nat) (fun i => i ≤ mF ls ∧ (piecesF (recF ls)).take i = (ls.take (mF ls)).take i) (fun i => mF ls - i) (fun i => [(0, sv (some b1) p1 ls.length q1), (5, .int .i64 (nF ls : Int)), (7, .string (bs (allF ls))), (9, .slice (some ⟨b9, 0, none⟩) (mF ls) cap), (11, .int .i64 (i : Int))]) (fun i => [(some b9, .cells cs 9 fz)]) ?round17 0 ?h017)
  case he17 => exact (And.intro rfl (And.intro rfl (And.intro rfl (And.intro rfl (And.intro rfl trivial)))))
  case hl17 => exact ⟨_, rfl⟩
  case h017 => exact ⟨Nat.zero_le _, rfl⟩
  case round17 =>
   intro i hJ ih
   try dsimp only at hJ ih
   obtain ⟨hi, hq⟩ := hJ
   refine G_seq ?_
   refine G_seq ?_
   refine G_region (l := [0, 1, 2, 3]) rfl ?_
   refine G_val rfl rfl rfl rfl (V_move rfl rfl) ?_
   refine G_val rfl rfl rfl rfl (V_move rfl rfl) ?_
   refine G_call (L2 := [_]) rfl rfl rfl rfl rfl rfl Tryd.call39 (rfr_many (nF ls) (by omega)) [] [] rfl rfl ?_
   rintro v post ⟨rfl, rfl⟩
   show G _ _ _ [_] _
   try rw [show manyN (nF ls) = mF ls from rfl]
   refine G_val rfl rfl rfl rfl (V_lss rfl rfl rfl) ?_
   refine G_done ?_
   refine G_ifD rfl (fun hc5 => ?_) (fun hc5 => ?_)
   · skip
     refine G_skip ?_
     refine G_seq ?_
     refine G_block ?_
     refine G_seq ?_
     obtain ⟨x, hx⟩ := getI (show i < (piecesF (recF ls)).length by omega)
     obtain ⟨y, hy⟩ := getI (show i < ls.length by omega)
     refine G_draw mixedK (by kernel_rfl) ?_
     refine GQ_val rfl rfl rfl rfl (V_move rfl rfl) ?_
     refine GQ_val rfl rfl rfl rfl (V_move rfl rfl) ?_
     first
       | refine GQ_val rfl rfl rfl rfl (V_indexAddrN (s := 1) rfl Tryd.underlying24 infFrameD_9 rfl rfl rfl rfl (by omega)) ?_
       | refine GQ_val rfl rfl rfl rfl (V_indexAddr (s := 1) rfl Tryd.underlying24 infFrameD_9 rfl rfl rfl (by omega) (by first | omega | (simp; done) | (simp; omega) | (simp at *; omega))) ?_
     refine GQ_val rfl rfl rfl rfl (V_load1 rfl rfl (mem_at 1 rfl) (nth_of (hu.sees.cell hx)) Tryd.underlying9 rfl) ?_
     refine GQ_val rfl rfl rfl rfl (V_move rfl rfl) ?_
     refine GQ_val rfl rfl rfl rfl (V_move rfl rfl) ?_
     first
       | refine GQ_val rfl rfl rfl rfl (V_indexAddrN (s := 1) rfl Tryd.underlying24 infFrameD_9 rfl rfl rfl rfl (by omega)) ?_
       | refine GQ_val rfl rfl rfl rfl (V_indexAddr (s := 1) rfl Tryd.underlying24 infFrameD_9 rfl rfl rfl (by omega) (by first | omega | (simp; done) | (simp; omega) | (simp at *; omega))) ?_
     refine GQ_val rfl rfl rfl rfl (V_load1 rfl rfl (mem_at 0 rfl) (nth_of (hs.cell hy)) Tryd.underlying9 rfl) ?_
     refine GQ_val rfl rfl rfl rfl (V_sneq rfl rfl rfl) ?_
     refine GQ_done rfl ?_
     refine G_ifD rfl (fun hc6 => ?_) (fun hc6 => ?_)
     · skip
       refine G_seq ?_
       refine G_region (l := [0, 1, 2]) rfl ?_
       refine G_val rfl rfl rfl rfl (V_assign rfl rfl) ?_
       refine G_val rfl rfl rfl rfl (V_assign rfl rfl) ?_
       refine G_val rfl rfl rfl rfl (V_assign rfl rfl) ?_
       refine G_done ?_
       refine G_ret (post := []) Tryd.func81 rfl (RVs_cons (RV_tmp rfl) (RVs_cons (RV_tmp rfl) (RVs_cons (RV_tmp rfl) RVs_nil))) [] rfl ?_
       dsimp only [packed]
       first
         | (suffices hz : ls.length = 0 by (obtain ⟨e1, e2, e3⟩ := dec_nil hz; rw [e1, e2, e3]; exact ⟨rfl, rfl⟩)
            omega)
         | (suffices hz : ¬ sizeFE (firstF ls) = 0 by (obtain ⟨e1, e2, e3⟩ := dec_size (ls := ls) (by omega) hz; rw [e1, e2, e3]; exact ⟨rfl, rfl⟩)
            omega)
         | (suffices hz : sizeFE (firstF ls) = 0 ∧ 0 < ls.length ∧ ls.length < mF ls by (obtain ⟨e1, e2, e3⟩ := dec_short hz.2.1 hz.1 hz.2.2; rw [e1, e2, e3]; exact ⟨rfl, rfl⟩)
            omega)
         | (suffices hz : sizeFE (firstF ls) = 0 ∧ 0 < ls.length ∧ mF ls ≤ ls.length ∧ ¬ s.length = 48 by (obtain ⟨e1, e2, e3⟩ := dec_part hz.2.1 hz.1 hz.2.2.1 (all_not (take_at hx (by omega)) (decide_eq_false hz.2.2.2)); rw [e1, e2, e3]; exact ⟨rfl, rfl⟩)
            omega)
         | (suffices hz : ¬ x = y by (obtain ⟨e1, e2, e3⟩ := dec_form (ls := ls) (by omega) hse (by omega) hfu (fun e => ne_at hx (take_at hy (by omega)) hz (hpa.2 e)); rw [e1, e2, e3]; exact ⟨rfl, rfl⟩)
            assumption)
         | (suffices hz : mF ls ≤ i by (obtain ⟨e1, e2, e3⟩ := dec_ok (ls := ls) (by omega) hse (by omega) hfu (hpa.1 (eq_end hq (by omega) (by rw [List.length_take]; omega))); rw [e1, e2, e3, rec_cut]; exact ⟨rfl, rfl⟩)
            omega)
     refine G_skip ?_
     refine G_inBlock ?_
     refine G_region (l := [0, 1, 2]) rfl ?_
     refine G_val rfl rfl rfl rfl (V_move rfl rfl) ?_
     first
       | refine G_val rfl rfl rfl rfl ((V_add rfl rfl rfl).int (wrap_i64 (by omega))) ?_
       | refine G_val rfl rfl rfl rfl (V_add rfl rfl rfl) ?_
     refine G_val rfl rfl rfl rfl (V_assign rfl rfl) ?_
     refine G_done ?_
     refine G_sub ?_ [0] ?_ (ih (i + 1) ?_ ?_)
     · (refine (And.intro ?_ (And.intro ?_ (And.intro ?_ (And.intro ?_ (And.intro ?_ trivial))))) <;> first | rfl | exact slot_int (by omega) | exact slot_int (by simp))
     · exact ⟨_, rfl⟩
     · exact ⟨by omega, eq_next hq hx (take_at hy (by omega)) (Classical.not_not.1 (by assumption))⟩
     · (first | omega | (dsimp only; omega))
   refine G_exit rfl ?_
   refine G_seq ?_
   refine G_draw mixedK (by kernel_rfl) ?_
   refine GQ_val rfl rfl rfl rfl (V_move rfl rfl) ?_
   refine GQ_val rfl rfl rfl rfl (V_move rfl rfl) ?_
   refine GQ_val rfl rfl rfl rfl (Val.int (e' := ((6 + nF ls : Nat) : Int)) (V_add rfl rfl rfl) (add6 _ (by omega))) ?_
   first
     | refine GQ_val rfl rfl rfl rfl (V_ssliceN (lo := 6) (hi := _) rfl Tryd.underlying9 rfl rfl rfl rfl rfl (by first | omega | (simp; done) | (simp; omega) | (simp at *; omega)) (by first | omega | (simp; done) | (simp; omega) | (simp at *; omega))) ?_
     | refine GQ_val rfl rfl rfl rfl (V_sslice rfl Tryd.underlying9 rfl rfl rfl (by first | omega | (simp; done) | (simp; omega) | (simp at *; omega)) (by first | omega | (simp; done) | (simp; omega) | (simp at *; omega)) (by first | omega | (simp; done) | (simp; omega) | (simp at *; omega))) ?_
   refine GQ_val rfl rfl rfl rfl (V_move rfl rfl) ?_
   refine GQ_call rfl rfl rfl rfl rfl rfl Tryd.call39 (rfr_many (nF ls) (by omega)) [] rfl (fun v post hp => (hp : _ ∧ _).1) ?_
   refine GQ_val rfl rfl rfl rfl (V_assign rfl rfl) ?_
   refine GQ_val rfl rfl rfl rfl (V_assign rfl rfl) ?_
   refine GQ_val rfl rfl rfl rfl (V_assign rfl rfl) ?_
   refine GQ_done rfl ?_
   refine G_ret (post := []) Tryd.func81 rfl (RVs_cons (RV_tmp rfl) (RVs_cons (RV_tmp rfl) (RVs_cons (RV_tmp rfl) RVs_nil))) [] rfl ?_
   dsimp only [packed]
   first
     | (suffices hz : ls.length = 0 by (obtain ⟨e1, e2, e3⟩ := dec_nil hz; rw [e1, e2, e3]; exact ⟨rfl, rfl⟩)
        omega)
     | (suffices hz : ¬ sizeFE (firstF ls) = 0 by (obtain ⟨e1, e2, e3⟩ := dec_size (ls := ls) (by omega) hz; rw [e1, e2, e3]; exact ⟨rfl, rfl⟩)
        omega)
     | (suffices hz : sizeFE (firstF ls) = 0 ∧ 0 < ls.length ∧ ls.length < mF ls by (obtain ⟨e1, e2, e3⟩ := dec_short hz.2.1 hz.1 hz.2.2; rw [e1, e2, e3]; exact ⟨rfl, rfl⟩)
        omega)
     | (suffices hz : sizeFE (firstF ls) = 0 ∧ 0 < ls.length ∧ mF ls ≤ ls.length ∧ ¬ s.length = 48 by (obtain ⟨e1, e2, e3⟩ := dec_part hz.2.1 hz.1 hz.2.2.1 (all_not (take_at hx (by omega)) (decide_eq_false hz.2.2.2)); rw [e1, e2, e3]; exact ⟨rfl, rfl⟩)
        omega)
     | (suffices hz : ¬ x = y by (obtain ⟨e1, e2, e3⟩ := dec_form (ls := ls) (by omega) hse (by omega) hfu (fun e => ne_at hx (take_at hy (by omega)) hz (hpa.2 e)); rw [e1, e2, e3]; exact ⟨rfl, rfl⟩)
        assumption)
     | (suffices hz : mF ls ≤ i by (obtain ⟨e1, e2, e3⟩ := dec_ok (ls := ls) (by omega) hse (by omega) hfu (hpa.1 (eq_end hq (by omega) (by rw [List.length_take]; omega))); rw [e1, e2, e3, rec_cut]; exact ⟨rfl, rfl⟩)
        omega)

set_option maxRecDepth 100000 in
set_option maxHeartbeats 1000000 in
theorem ref_texts (o1 : Option Nat) (p1 q1 : Nat) (c1 : Array Value) (T1 : TypeId) (f1 : Nat × Nat) (o2 : Option Nat) (p2 q2 : Nat) (c2 : Array Value) (T2 : TypeId) (f2 : Nat × Nat) (ls ms : List (List UInt8)) (h1 : Sees 1 o1 p1 q1 c1 (ls.map strC) ls.length) (h2 : Sees 1 o2 p2 q2 c2 (ms.map strC) ms.length) :
    Ct Tryd.prog 51 [sv o1 p1 ls.length q1, sv o2 p2 ms.length q2] [(o1, .cells c1 T1 f1), (o2, .cells c2 T2 f2)] [] fun v post => v = .bool (decide (ls = ms)) ∧ post = [] := by
 have hk1 := h1.le
 have hk2 := h1.max
 have hk3 := h2.le
 have hk4 := h2.max
 refine ct_of Tryd.func51 rfl rfl (fun w0 => ?_)
 show G _ _ [(0, _), (1, _)] _ _
 refine G_seq ?_
 refine G_region (l := [0]) rfl ?_
 refine G_val rfl rfl rfl rfl (V_assign rfl rfl) ?_
 refine G_done ?_
 refine G_seq ?_
 refine G_seq ?_
 refine G_region (l := [0, 1, 2, 3, 4]) rfl ?_
 refine G_val rfl rfl rfl rfl (V_move rfl rfl) ?_
 refine G_val rfl rfl rfl rfl (V_len rfl rfl Tryd.underlying24 rfl) ?_
 refine G_val rfl rfl rfl rfl (V_move rfl rfl) ?_
 refine G_val rfl rfl rfl rfl (V_len rfl rfl Tryd.underlying24 rfl) ?_
 refine G_val rfl rfl rfl rfl (V_neq rfl rfl rfl) ?_
 refine G_done ?_
 refine G_ifD rfl (fun hc1 => ?_) (fun hc1 => ?_)
 · skip
   refine G_seq ?_
   refine G_region (l := [0]) rfl ?_
   refine G_val rfl rfl rfl rfl (V_assign rfl rfl) ?_
   refine G_done ?_
   refine G_ret (post := []) Tryd.func51 rfl (RVs_cons (RV_tmp rfl) RVs_nil) [] rfl ?_
   dsimp only [packed]
   first
     | exact ⟨bool_eq (decide_eq_false (ne_len (by omega))).symm, rfl⟩
     | exact ⟨bool_eq (decide_eq_false (ne_at hx hy (by assumption))).symm, rfl⟩
     | exact ⟨bool_eq (decide_eq_true (eq_end ht (by omega) (by omega))).symm, rfl⟩
 refine G_skip ?_
 refine G_seq ?_
 refine G_seq ?_
 refine G_region (l := [0]) rfl ?_
 refine G_val rfl rfl rfl rfl (V_assign rfl rfl) ?_
 refine G_done ?_
 refine G_block ?_
 refine G_sub ?he4 [] ?hl4 (G_loop (X := Nat) (fun i => i ≤ ls.length ∧ ls.length = ms.length ∧ ls.take i = ms.take i) (fun i => ls.length - i) (fun i => [(0, sv o1 p1 ls.length q1), (1, sv o2 p2 ms.length q2), (5, .int .i64 (i : Int))]) (fun i => []) ?round4 0 ?h04)
 case he4 => exact (And.intro rfl (And.intro rfl (And.intro rfl trivial)))
 case hl4 => exact ⟨_, rfl⟩
 case h04 => exact ⟨Nat.zero_le _, by omega, rfl⟩
 case round4 =>
  intro i hJ ih
  try dsimp only at hJ ih
  obtain ⟨hi, hlen, ht⟩ := hJ
  refine G_seq ?_
  refine G_seq ?_
  refine G_region (l := [0, 1, 2, 3]) rfl ?_
  refine G_val rfl rfl rfl rfl (V_move rfl rfl) ?_
  refine G_val rfl rfl rfl rfl (V_move rfl rfl) ?_
  refine G_val rfl rfl rfl rfl (V_len rfl rfl Tryd.underlying24 rfl) ?_
  refine G_val rfl rfl rfl rfl (V_lss rfl rfl rfl) ?_
  refine G_done ?_
  refine G_ifD rfl (fun hc2 => ?_) (fun hc2 => ?_)
  · skip
    refine G_skip ?_
    refine G_seq ?_
    refine G_block ?_
    refine G_seq ?_
    obtain ⟨x, hx⟩ := getI (show i < ls.length by omega)
    obtain ⟨y, hy⟩ := getI (show i < ms.length by omega)
    obtain ⟨b1, rfl⟩ := h1.isSome (by omega)
    obtain ⟨b2, rfl⟩ := h2.isSome (by omega)
    refine G_draw mixedK (by kernel_rfl) ?_
    refine GQ_val rfl rfl rfl rfl (V_move rfl rfl) ?_
    refine GQ_val rfl rfl rfl rfl (V_move rfl rfl) ?_
    first
      | refine GQ_val rfl rfl rfl rfl (V_indexAddrN (s := 1) rfl Tryd.underlying24 infFrameD_9 rfl rfl rfl rfl (by omega)) ?_
      | refine GQ_val rfl rfl rfl rfl (V_indexAddr (s := 1) rfl Tryd.underlying24 infFrameD_9 rfl rfl rfl (by omega) (by first | omega | (simp; done) | (simp; omega) | (simp at *; omega))) ?_
    refine GQ_val rfl rfl rfl rfl (V_load1 rfl rfl (mem_at 0 rfl) (nth_of (h1.cell hx)) Tryd.underlying9 rfl) ?_
    refine GQ_val rfl rfl rfl rfl (V_move rfl rfl) ?_
    refine GQ_val rfl rfl rfl rfl (V_move rfl rfl) ?_
    first
      | refine GQ_val rfl rfl rfl rfl (V_indexAddrN (s := 1) rfl Tryd.underlying24 infFrameD_9 rfl rfl rfl rfl (by omega)) ?_
      | refine GQ_val rfl rfl rfl rfl (V_indexAddr (s := 1) rfl Tryd.underlying24 infFrameD_9 rfl rfl rfl (by omega) (by first | omega | (simp; done) | (simp; omega) | (simp at *; omega))) ?_
    refine GQ_val rfl rfl rfl rfl (V_load1 rfl rfl (mem_at 1 rfl) (nth_of (h2.cell hy)) Tryd.underlying9 rfl) ?_
    refine GQ_val rfl rfl rfl rfl (V_sneq rfl rfl rfl) ?_
    refine GQ_done rfl ?_
    refine G_ifD rfl (fun hc3 => ?_) (fun hc3 => ?_)
    · skip
      refine G_seq ?_
      refine G_region (l := [0]) rfl ?_
      refine G_val rfl rfl rfl rfl (V_assign rfl rfl) ?_
      refine G_done ?_
      refine G_ret (post := []) Tryd.func51 rfl (RVs_cons (RV_tmp rfl) RVs_nil) [] rfl ?_
      dsimp only [packed]
      first
        | exact ⟨bool_eq (decide_eq_false (ne_len (by omega))).symm, rfl⟩
        | exact ⟨bool_eq (decide_eq_false (ne_at hx hy (by assumption))).symm, rfl⟩
        | exact ⟨bool_eq (decide_eq_true (eq_end ht (by omega) (by omega))).symm, rfl⟩
    refine G_skip ?_
    refine G_inBlock ?_
    refine G_region (l := [0, 1, 2]) rfl ?_
    refine G_val rfl rfl rfl rfl (V_move rfl rfl) ?_
    first
      | refine G_val rfl rfl rfl rfl ((V_add rfl rfl rfl).int (wrap_i64 (by omega))) ?_
      | refine G_val rfl rfl rfl rfl (V_add rfl rfl rfl) ?_
    refine G_val rfl rfl rfl rfl (V_assign rfl rfl) ?_
    refine G_done ?_
    refine G_sub ?_ [] ?_ (ih (i + 1) ?_ ?_)
    · (refine (And.intro ?_ (And.intro ?_ (And.intro ?_ trivial))) <;> first | rfl | exact slot_int (by omega) | exact slot_int (by simp))
    · exact ⟨_, rfl⟩
    · exact ⟨by omega, hlen, eq_next ht hx hy (Classical.not_not.1 (by assumption))⟩
    · (first | omega | (dsimp only; omega))
  refine G_exit rfl ?_
  refine G_seq ?_
  refine G_region (l := [0]) rfl ?_
  refine G_val rfl rfl rfl rfl (V_assign rfl rfl) ?_
  refine G_done ?_
  refine G_ret (post := []) Tryd.func51 rfl (RVs_cons (RV_tmp rfl) RVs_nil) [] rfl ?_
  dsimp only [packed]
  first
    | exact ⟨bool_eq (decide_eq_false (ne_len (by omega))).symm, rfl⟩
    | exact ⟨bool_eq (decide_eq_false (ne_at hx hy (by assumption))).symm, rfl⟩
    | exact ⟨bool_eq (decide_eq_true (eq_end ht (by omega) (by omega))).symm, rfl⟩

end
end Go.Proofs.YtbblkgdejgoncaaDoor

/- Records one behind the other on a disk (layer 26), in plain lists: what is appended, and what is replayed. -/
set_option linter.unusedSimpArgs false
set_option linter.unusedVariables false
namespace Go.Proofs.YtbblkgdejgoncaaDoor
open Go Go.RowKit

section



/-- A record's sealed blocks, from a place on. -/
def lblks (e : Nat) : Nat → List (List UInt8) → List (List UInt8)
  | _, [] => []
  | a, p :: r => sealL e a p :: lblks e (a + 1) r
theorem lblks_len (e : Nat) : ∀ (ps : List (List UInt8)) (a : Nat), (lblks e a ps).length = ps.length
  | [], _ => rfl
  | p :: r, a => by rw [lblks, List.length_cons, lblks_len e r, List.length_cons]
theorem lblks_at (e : Nat) : ∀ (ps : List (List UInt8)) (a i : Nat), (lblks e a ps)[i]? = (ps[i]?).map (sealL e (a + i))
  | [], _, _ => by simp [lblks]
  | p :: r, a, 0 => by simp [lblks]
  | p :: r, a, i + 1 => by
    rw [lblks, List.getElem?_cons_succ, List.getElem?_cons_succ, lblks_at e r (a + 1) i, show a + 1 + i = a + (i + 1) by omega]
theorem lblks_app (e : Nat) : ∀ (ps qs : List (List UInt8)) (a : Nat), lblks e a (ps ++ qs) = lblks e a ps ++ lblks e (a + ps.length) qs
  | [], _, _ => rfl
  | p :: r, qs, a => by
    rw [List.cons_append, lblks, lblks, lblks_app e r qs, List.cons_append, List.length_cons, show a + 1 + r.length = a + (r.length + 1) by omega]
theorem piecesF_48 (s : List UInt8) : ∀ p ∈ piecesF s, p.length = 48 := chunks_all (padF_len s)
theorem lblks_64 {e : Nat} (he : 0 < e) {ps : List (List UInt8)} (h : ∀ p ∈ ps, p.length = 48) (a : Nat) : ∀ b ∈ lblks e a ps, b.length = 64 := by
  intro b hb
  obtain ⟨i, hi⟩ := List.getElem?_of_mem hb
  rw [lblks_at] at hi
  cases hp : ps[i]? with
  | none => rw [hp] at hi; cases hi
  | some p =>
    rw [hp] at hi
    simp only [Option.map_some, Option.some.injEq] at hi
    rw [← hi]
    exact sealL_length ((sealE_cases _ _).2 (by rw [h p (List.mem_of_getElem? hp)]; omega))
/-- A record has room. -/
def fitsL (room : Int) (s : List UInt8) : Prop := s.length ≤ 1000 ∧ (manyN s.length : Int) ≤ room
instance (room : Int) (s : List UInt8) : Decidable (fitsL room s) := by unfold fitsL; infer_instance
def lgE (room : Int) (s : List UInt8) : Int := if 1000 < s.length then 4 else if room < (manyN s.length : Int) then 17 else 0
def appK (k : Dk) (f b : Int) (e a : Nat) (s : List UInt8) : Dk := if lgE (b - a) s ≠ 0 then k else wrsK k (f + a) (lblks e a (piecesF s))
def appE (k : Dk) (f b : Int) (e a : Nat) (s : List UInt8) : Int := if lgE (b - a) s ≠ 0 then lgE (b - a) s else wrsE k (f + a) (lblks e a (piecesF s))
def appA (k : Dk) (f b : Int) (e a : Nat) (s : List UInt8) : Nat := if appE k f b e a s = 0 then a + manyN s.length else a
theorem lgE_0 {room : Int} {s : List UInt8} : lgE room s = 0 ↔ fitsL room s := by
  unfold lgE fitsL
  constructor
  · intro h
    split at h
    · cases h
    · split at h
      · cases h
      · omega
  · intro h; rw [if_neg (by omega), if_neg (by omega)]
theorem app_no {k : Dk} {f b : Int} {e a : Nat} {s : List UInt8} (h : ¬ lgE (b - a) s = 0) : appK k f b e a s = k ∧ appE k f b e a s = lgE (b - a) s ∧ appA k f b e a s = a := by
  have e1 : appE k f b e a s = lgE (b - a) s := by unfold appE; rw [if_pos h]
  refine ⟨by unfold appK; rw [if_pos h], e1, ?_⟩
  unfold appA; rw [if_neg (by rw [e1]; exact h)]
theorem app_yes {k : Dk} {f b : Int} {e a : Nat} {s : List UInt8} (h : lgE (b - a) s = 0) : appK k f b e a s = wrsK k (f + a) (lblks e a (piecesF s)) ∧ appE k f b e a s = wrsE k (f + a) (lblks e a (piecesF s)) := by
  unfold appK appE; simp [h]
theorem app_A0 {k : Dk} {f b : Int} {e a : Nat} {s : List UInt8} (h : appE k f b e a s = 0) : appA k f b e a s = a + manyN s.length := if_pos h
theorem app_A1 {k : Dk} {f b : Int} {e a : Nat} {s : List UInt8} (h : ¬ appE k f b e a s = 0) : appA k f b e a s = a := if_neg h
theorem app_ok {k : Dk} (h : DkOk k) (f b : Int) (e a : Nat) (s : List UInt8) : DkOk (appK k f b e a s) := by
  unfold appK; split
  · exact h
  · exact wrs_ok _ _ _ h
theorem app_len (k : Dk) (f b : Int) (e a : Nat) (s : List UInt8) : (appK k f b e a s).L.length = k.L.length := by
  unfold appK; split
  · rfl
  · exact wrs_len _ _ _
theorem app_A {k : Dk} {f b : Int} {e a : Nat} {s : List UInt8} (h : (a : Int) ≤ b) : (appA k f b e a s : Int) ≤ b := by
  unfold appA; split
  · rename_i h0
    by_cases hl : lgE (b - a) s = 0
    · have := (lgE_0.1 hl).2; omega
    · exact absurd h0 (by rw [(app_no hl).2.1]; exact hl)
  · exact h
theorem app_W (k : Dk) (f b : Int) (e a : Nat) (s : List UInt8) : (appK k f b e a s).W.length ≤ k.W.length + 21 := by
  unfold appK; split
  · omega
  · rename_i h
    have h := lgE_0.1 (Classical.not_not.1 h)
    have := wrs_W (lblks e a (piecesF s)) k (f + a)
    rw [lblks_len, piecesF_len] at this
    have : manyN s.length ≤ 21 := by have := h.1; unfold manyN; omega
    omega

-- what is replayed
/-- A block is sealed by its place. -/
def pOk (rb : List (List UInt8)) (i : Nat) : Bool := openOk (rb.getD i []) && decide (openI (rb.getD i []) = i)
def pE (rb : List (List UInt8)) (i : Nat) : Nat := openE (rb.getD i [])
def pD (rb : List (List UInt8)) (i : Nat) : List UInt8 := openD (rb.getD i [])
theorem pOk_iff {rb : List (List UInt8)} {i : Nat} : pOk rb i = true ↔ openOk (rb.getD i []) = true ∧ openI (rb.getD i []) = i := by unfold pOk; simp
theorem empty_open : openOk [] = false := by decide
theorem pOk_lt {rb : List (List UInt8)} {i : Nat} (h : pOk rb i = true) : i < rb.length := by
  rcases Nat.lt_or_ge i rb.length with h1 | h1
  · exact h1
  · have := (pOk_iff.1 h).1
    rw [List.getD_eq_getElem?_getD, List.getElem?_eq_none h1] at this
    rw [show (none : Option (List UInt8)).getD [] = [] from rfl, empty_open] at this; cases this
theorem pOk_big {rb : List (List UInt8)} {i : Nat} (h : rb.length ≤ i) : pOk rb i = false ∧ pE rb i = 0 ∧ pD rb i = [] := by
  have e : rb.getD i [] = [] := by rw [List.getD_eq_getElem?_getD, List.getElem?_eq_none h]; rfl
  refine ⟨?_, ?_, ?_⟩
  · unfold pOk; rw [e, empty_open]; rfl
  · unfold pE; rw [e]; unfold openE; rw [empty_open]; rfl
  · unfold pD; rw [e]; unfold openD; rw [empty_open]; rfl
theorem pD_len {rb : List (List UInt8)} {i : Nat} (h : pOk rb i = true) : (pD rb i).length = 48 := by
  obtain ⟨h1, _, _, h4, _⟩ := open_parts (pOk_iff.1 h).1
  unfold pD; rw [h4, List.length_drop, List.length_take, h1]; omega
/-- How many blocks the record at a place says that it has; these. -/
def rcM (rb : List (List UInt8)) (a : Nat) : Nat := manyN (sizeF (pD rb a))
def rcTo (rb : List (List UInt8)) (a m : Nat) : List (List UInt8) := (List.range m).map fun j => pD rb (a + j)
theorem rcTo_len (rb : List (List UInt8)) (a m : Nat) : (rcTo rb a m).length = m := by simp [rcTo]
theorem rcTo_next (rb : List (List UInt8)) (a m : Nat) : rcTo rb a (m + 1) = rcTo rb a m ++ [pD rb (a + m)] := by
  unfold rcTo; rw [List.range_succ, List.map_append]; rfl
theorem rcTo_one (rb : List (List UInt8)) (a : Nat) : rcTo rb a 1 = [pD rb a] := rfl
theorem rcTo_first (rb : List (List UInt8)) (a m : Nat) (h : 1 ≤ m) : firstF (rcTo rb a m) = pD rb a := by
  obtain ⟨k, rfl⟩ : ∃ k, m = k + 1 := ⟨m - 1, by omega⟩
  unfold rcTo; rw [List.range_succ_eq_map]; rfl
/-- The blocks behind the first one go on with it. -/
def rcGo (rb : List (List UInt8)) (a m : Nat) : Prop := ∀ j, j < m → pOk rb (a + j) = true ∧ pE rb (a + j) = pE rb a
instance (rb : List (List UInt8)) (a m : Nat) : Decidable (rcGo rb a m) := by unfold rcGo; infer_instance
def rcOk (rb : List (List UInt8)) (base e a : Nat) : Prop := pOk rb a = true ∧ base ≤ pE rb a ∧ pE rb a ≤ e ∧ sizeFE (pD rb a) = 0 ∧ rcGo rb a (rcM rb a) ∧ decE (rcTo rb a (rcM rb a)) = 0
instance (rb : List (List UInt8)) (base e a : Nat) : Decidable (rcOk rb base e a) := by unfold rcOk; infer_instance
def rcS (rb : List (List UInt8)) (a : Nat) : List UInt8 := decS (rcTo rb a (rcM rb a))
theorem rcM_pos (rb : List (List UInt8)) (a : Nat) : 1 ≤ rcM rb a := manyN_pos _
theorem rcM_le (rb : List (List UInt8)) (a : Nat) : rcM rb a ≤ 21 := by
  have := sizeF_le (pD rb a)
  unfold rcM manyN; omega
theorem rc_m (rb : List (List UInt8)) (a : Nat) : mF (rcTo rb a (rcM rb a)) = rcM rb a := by
  unfold mF nF; rw [rcTo_first _ _ _ (rcM_pos rb a)]; rfl
theorem rc_decM {rb : List (List UInt8)} {a : Nat} (h : decE (rcTo rb a (rcM rb a)) = 0) : decM (rcTo rb a (rcM rb a)) = rcM rb a := by
  unfold decM; rw [if_pos h, rc_m]
def rpN (rb : List (List UInt8)) (e : Nat) : Nat → Nat → Nat → List (List UInt8) × Nat
  | 0, _, a => ([], a)
  | n + 1, base, a => if rcOk rb base e a then (rcS rb a :: (rpN rb e n (pE rb a) (a + rcM rb a)).1, (rpN rb e n (pE rb a) (a + rcM rb a)).2) else ([], a)
theorem rpN_more (rb : List (List UInt8)) (e : Nat) : ∀ (n base a : Nat), rb.length < n + a → rpN rb e (n + 1) base a = rpN rb e n base a
  | 0, base, a, h => by
    have : ¬ rcOk rb base e a := fun x => by have := pOk_lt x.1; omega
    show (if _ then _ else _) = _
    rw [if_neg this]; rfl
  | n + 1, base, a, h => by
    have hp := rcM_pos rb a
    have ih := rpN_more rb e n (pE rb a) (a + rcM rb a) (by omega)
    show (if rcOk rb base e a then (rcS rb a :: (rpN rb e (n + 1) (pE rb a) (a + rcM rb a)).1, (rpN rb e (n + 1) (pE rb a) (a + rcM rb a)).2) else ([], a)) = _
    rw [ih]; rfl
theorem rpN_any (rb : List (List UInt8)) (e base a : Nat) : ∀ (m n : Nat), rb.length < n + a → rpN rb e (n + m) base a = rpN rb e n base a
  | 0, _, _ => rfl
  | m + 1, n, h => by rw [← Nat.add_assoc, rpN_more rb e (n + m) base a (by omega), rpN_any rb e base a m n h]
/-- What is replayed from a place on. -/
def rp (rb : List (List UInt8)) (e base a : Nat) : List (List UInt8) × Nat := rpN rb e (rb.length + 1) base a
theorem rp_yes {rb : List (List UInt8)} {e base a : Nat} (h : rcOk rb base e a) : rp rb e base a = (rcS rb a :: (rp rb e (pE rb a) (a + rcM rb a)).1, (rp rb e (pE rb a) (a + rcM rb a)).2) := by
  have e1 : rp rb e base a = (rcS rb a :: (rpN rb e rb.length (pE rb a) (a + rcM rb a)).1, (rpN rb e rb.length (pE rb a) (a + rcM rb a)).2) := by
    unfold rp; rw [rpN, if_pos h]
  have hp := rcM_pos rb a
  rw [e1]
  have := rpN_more rb e rb.length (pE rb a) (a + rcM rb a) (by omega)
  unfold rp; rw [this]
theorem rp_no {rb : List (List UInt8)} {e base a : Nat} (h : ¬ rcOk rb base e a) : rp rb e base a = ([], a) := by
  unfold rp; rw [rpN, if_neg h]
/-- How far a replay has come: what it found, where it stands. -/
def RpAt (rb : List (List UInt8)) (e base0 : Nat) (out : List (List UInt8)) (base a : Nat) : Prop := rp rb e base0 0 = (out ++ (rp rb e base a).1, (rp rb e base a).2)
theorem rpAt_0 (rb : List (List UInt8)) (e base : Nat) : RpAt rb e base [] base 0 := by unfold RpAt; simp
theorem rpAt_next {rb : List (List UInt8)} {e base0 base a : Nat} {out : List (List UInt8)} (h : RpAt rb e base0 out base a) (hr : rcOk rb base e a) : RpAt rb e base0 (out ++ [rcS rb a]) (pE rb a) (a + rcM rb a) := by
  unfold RpAt at *
  rw [h, rp_yes hr, List.append_assoc]; rfl
theorem rpAt_end {rb : List (List UInt8)} {e base0 base a : Nat} {out : List (List UInt8)} (h : RpAt rb e base0 out base a) (hr : ¬ rcOk rb base e a) : rp rb e base0 0 = (out, a) := by
  unfold RpAt at h
  rw [h, rp_no hr, List.append_nil]
theorem rc_le {rb : List (List UInt8)} {base e a : Nat} (h : rcOk rb base e a) : a + rcM rb a ≤ rb.length := by
  have := rcM_pos rb a
  have := (h.2.2.2.2.1 (rcM rb a - 1) (by omega)).1
  have := pOk_lt this
  omega
/-- A place at which a replay has come. -/
inductive RpCome (rb : List (List UInt8)) (e base0 : Nat) : List (List UInt8) → Nat → Nat → Prop
  | start : RpCome rb e base0 [] base0 0
  | next {out base a} : RpCome rb e base0 out base a → rcOk rb base e a → RpCome rb e base0 (out ++ [rcS rb a]) (pE rb a) (a + rcM rb a)
theorem RpCome.at {rb : List (List UInt8)} {e base0 : Nat} {out : List (List UInt8)} {base a : Nat} (h : RpCome rb e base0 out base a) : RpAt rb e base0 out base a := by
  induction h with
  | start => exact rpAt_0 _ _ _
  | next _ hr ih => exact rpAt_next ih hr
theorem RpCome.le {rb : List (List UInt8)} {e base0 : Nat} {out : List (List UInt8)} {base a : Nat} (h : RpCome rb e base0 out base a) : a ≤ rb.length ∧ out.length ≤ a ∧ (base = base0 ∨ (base0 ≤ base ∧ base ≤ e)) := by
  induction h with
  | start => exact ⟨Nat.zero_le _, Nat.zero_le _, .inl rfl⟩
  | next _ hr ih =>
    rename_i out base a h
    have h1 := rc_le hr
    have h2 := rcM_pos rb a
    have h3 := hr.2.1
    have h4 := hr.2.2.1
    refine ⟨h1, by rw [List.length_append]; simp; omega, .inr ?_⟩
    rcases ih.2.2 with h | h <;> omega

end
end Go.Proofs.YtbblkgdejgoncaaDoor

/- The walks of layer 27: long texts on some blocks of a disk. -/
set_option linter.unusedSimpArgs false
set_option linter.unusedVariables false
namespace Go.Proofs.YtbblkgdejgoncaaDoor
open Go Go.RowKit

section
theorem infSnapW_120 : Tryd.prog.info? 120 = some Tryd.t120 := by kernel_rfl


theorem mul48r (i : Nat) (h : i ≤ 1000000) : IntKind.i64.wrap ((i : Int) * 48) = ((i * 48 : Nat) : Int) := by rw [wrap_i64 (by omega)]; omega
theorem mul48s (i : Nat) (h : i ≤ 1000000) : IntKind.i64.wrap (((i : Int) + 1) * 48) = (((i + 1) * 48 : Nat) : Int) := by rw [wrap_i64 (by omega)]; omega
theorem piece_cutS (s : List UInt8) (i : Nat) : ((padS s).take ((i + 1) * 48)).drop (i * 48) = pieceS s i := by
  unfold pieceS
  rw [List.drop_take, show (i + 1) * 48 - i * 48 = 48 by omega, Nat.mul_comm i 48]
theorem pad_app (s : List UInt8) {r : Nat} (h : r = 48 * manyS s.length - s.length) : s ++ List.replicate r 0 = padS s := by subst h; rfl


theorem put_stop {k kk : Dk} {n lb lcap : Nat} {lcs : Array Value} {uw : Sl} {f b : Int} {e i : Nat} {s bl : List UInt8} (h : DkAt k n lb lcs lcap uw) (hln : k.L.length = n) (hreg : regE n f b e = 0) (hm : (manyS s.length : Int) ≤ b) (hwr : WrsAt k kk f (blksS e s) i) (hxb : (blksS e s)[i]? = some bl) (he : ¬ kk.writeE (f + (i : Int)) bl = 0) :
    putK k f b e s = kk.write (f + (i : Int)) bl ∧ putE k f b e s = kk.writeE (f + (i : Int)) bl := by
  obtain ⟨e1, e2⟩ := put_yes (k := k) (s := s) (f := f) (b := b) (e := e) (by rw [hln]; exact hreg) hm
  obtain ⟨e3, e4⟩ := wrs_stop hwr hxb he
  exact ⟨e1.trans e3, e2.trans e4⟩
theorem put_end {k kk : Dk} {n lb lcap : Nat} {lcs : Array Value} {uw : Sl} {f b : Int} {e i : Nat} {s : List UInt8} (h : DkAt k n lb lcs lcap uw) (hln : k.L.length = n) (hreg : regE n f b e = 0) (hm : (manyS s.length : Int) ≤ b) (hwr : WrsAt k kk f (blksS e s) i) (hi : (blksS e s).length ≤ i) :
    putK k f b e s = kk ∧ putE k f b e s = 0 := by
  obtain ⟨e1, e2⟩ := put_yes (k := k) (s := s) (f := f) (b := b) (e := e) (by rw [hln]; exact hreg) hm
  obtain ⟨e3, e4⟩ := wrs_end hwr hi
  exact ⟨e1.trans e3, e2.trans e4⟩

set_option maxRecDepth 100000 in
set_option maxHeartbeats 1000000 in
theorem sn_manyZ (z : Int) (h0 : -9223372036854775808 ≤ z) (h1 : z ≤ 9223372036854775807) :
    Ct Tryd.prog 26 [.int .i64 z] [] [] fun v post => v = .int .i64 ((manyS z.toNat : Nat) : Int) ∧ post = [] := by
 refine ct_of Tryd.func26 rfl rfl (fun w0 => ?_)
 show G _ _ [(0, _)] _ _
 refine G_seq ?_
 refine G_region (l := [0]) rfl ?_
 refine G_val rfl rfl rfl rfl (V_assign rfl rfl) ?_
 refine G_done ?_
 refine G_seq ?_
 refine G_seq ?_
 refine G_region (l := [0, 1]) rfl ?_
 refine G_val rfl rfl rfl rfl (V_move rfl rfl) ?_
 refine G_val rfl rfl rfl rfl (V_lss rfl rfl rfl) ?_
 refine G_done ?_
 refine G_ifD rfl (fun hc1 => ?_) (fun hc1 => ?_)
 · skip
   refine G_seq ?_
   refine G_region (l := [0]) rfl ?_
   refine G_val rfl rfl rfl rfl (V_assign rfl rfl) ?_
   refine G_done ?_
   refine G_ret (post := []) Tryd.func26 rfl (RVs_cons (RV_tmp rfl) RVs_nil) [] rfl ?_
   dsimp only [packed]
   refine ⟨int_eq ?_, rfl⟩; unfold manyS; omega
 refine G_skip ?_
 refine G_seq ?_
 refine G_region (l := [0, 1, 2, 3, 4]) rfl ?_
 refine G_val rfl rfl rfl rfl (V_move rfl rfl) ?_
 first
   | refine G_val rfl rfl rfl rfl ((V_sub rfl rfl rfl).int (wrap_i64 (by omega))) ?_
   | refine G_val rfl rfl rfl rfl (V_sub rfl rfl rfl) ?_
 refine G_val rfl rfl rfl rfl (V_quo rfl rfl rfl (by omega) (by omega) (wrap_i64 (by omega))) ?_
 first
   | refine G_val rfl rfl rfl rfl ((V_add rfl rfl rfl).int (wrap_i64 (by omega))) ?_
   | refine G_val rfl rfl rfl rfl (V_add rfl rfl rfl) ?_
 refine G_val rfl rfl rfl rfl (V_assign rfl rfl) ?_
 refine G_done ?_
 refine G_ret (post := []) Tryd.func26 rfl (RVs_cons (RV_tmp rfl) RVs_nil) [] rfl ?_
 dsimp only [packed]
 refine ⟨int_eq ?_, rfl⟩; unfold manyS; omega


theorem sn_many (n : Nat) (h : n ≤ 9223372036854775807) : Ct Tryd.prog 26 [.int .i64 (n : Int)] [] [] (fun v post => v = .int .i64 ((manyS n : Nat) : Int) ∧ post = []) := sn_manyZ (n : Int) (by omega) (by omega)

set_option maxRecDepth 100000 in
set_option maxHeartbeats 1000000 in
theorem sn_check (d n lb lcap : Nat) (lcs : Array Value) (uw : Sl) (k : Dk) (h : DkAt k n lb lcs lcap uw) (f b : Int) (e : Nat) (hf0 : -9223372036854775808 ≤ f) (hf1 : f ≤ 9223372036854775807) (hb0 : -9223372036854775808 ≤ b) (hb1 : b ≤ 9223372036854775807) (he : e < 4294967296) :
    Ct Tryd.prog 67 [.pointer (some ⟨d, 0, none⟩), .int .i64 f, .int .i64 b, .int .u32 (e : Int)] [(some d, .cells #[.slice (some ⟨lb, 0, none⟩) n lcap, uw.v k.W.length, .int .i64 k.fuse, .bool k.dead] 110 (0, 0))] [] fun v post => v = .int .i64 (regE n f b e) ∧ post = [] := by
 have hq := h.bd
 have hq1 := hq.n1
 have hq2 := hq.n4
 have hq3 := hq.ncs
 have hq4 := hq.ncap
 have hq5 := hq.cap
 have hq6 := hq.w
 have hq7 := hq.wc
 have hln := h.len
 refine ct_of Tryd.func67 rfl rfl (fun w0 => ?_)
 show G _ _ [(0, _), (1, _), (2, _), (3, _)] _ _
 refine G_seq ?_
 refine G_region (l := [0]) rfl ?_
 refine G_val rfl rfl rfl rfl (V_assign rfl rfl) ?_
 refine G_done ?_
 refine G_seq ?_
 refine G_block ?_
 refine G_seq ?_
 refine G_region (l := [0, 1, 2]) rfl ?_
 refine G_val rfl rfl rfl rfl (V_move rfl rfl) ?_
 refine G_val rfl rfl rfl rfl (V_peqlN rfl Tryd.underlying35 rfl rfl) ?_
 refine G_val rfl rfl rfl rfl (V_assign rfl rfl) ?_
 refine G_done ?_
 refine G_else rfl ?_
 refine G_seq ?_
 refine G_region (l := [0, 1, 2, 3, 4, 5, 6, 7, 8, 9, 10, 11, 12, 13, 14, 15, 16, 17, 18, 19, 20, 21, 22, 23, 24]) rfl ?_
 refine G_val rfl rfl rfl rfl (V_move rfl rfl) ?_
 refine G_val rfl rfl rfl rfl (V_lss rfl rfl rfl) ?_
 refine G_val rfl rfl rfl rfl (V_move rfl rfl) ?_
 refine G_splitD 15 rfl (fun hc1 => ?_) (fun hc1 => ?_)
 · skip
   refine G_off rfl rfl rfl rfl ?_
   refine G_off rfl rfl rfl rfl ?_
   refine G_val rfl rfl rfl rfl (V_pickT rfl rfl rfl) ?_
   refine G_val rfl rfl rfl rfl (V_move rfl rfl) ?_
   refine G_off rfl rfl rfl rfl ?_
   refine G_off rfl rfl rfl rfl ?_
   refine G_off rfl rfl rfl rfl ?_
   refine G_off rfl rfl rfl rfl ?_
   refine G_val rfl rfl rfl rfl (V_pickT rfl rfl rfl) ?_
   refine G_val rfl rfl rfl rfl (V_move rfl rfl) ?_
   refine G_off rfl rfl rfl rfl ?_
   refine G_off rfl rfl rfl rfl ?_
   refine G_off rfl rfl rfl rfl ?_
   refine G_off rfl rfl rfl rfl ?_
   refine G_off rfl rfl rfl rfl ?_
   refine G_off rfl rfl rfl rfl ?_
   refine G_val rfl rfl rfl rfl (V_pickT rfl rfl rfl) ?_
   refine G_val rfl rfl rfl rfl (V_move rfl rfl) ?_
   refine G_off rfl rfl rfl rfl ?_
   refine G_off rfl rfl rfl rfl ?_
   refine G_val rfl rfl rfl rfl (V_pickT rfl rfl rfl) ?_
   refine G_val rfl rfl rfl rfl (V_assign rfl rfl) ?_
   refine G_done ?_
   refine G_then rfl ?_
   refine G_seq ?_
   refine G_region (l := [0]) rfl ?_
   refine G_val rfl rfl rfl rfl (V_assign rfl rfl) ?_
   refine G_done ?_
   refine G_ret (post := []) Tryd.func67 rfl (RVs_cons (RV_tmp rfl) RVs_nil) [] rfl ?_
   dsimp only [packed]
   refine ⟨int_eq ?_, rfl⟩; unfold regE; first | rw [if_pos (by omega)] | rw [if_neg (by omega)]
 refine G_val rfl rfl rfl rfl (V_move rfl rfl) ?_
 refine G_val rfl rfl rfl rfl (V_lss rfl rfl rfl) ?_
 refine G_val rfl rfl rfl rfl (V_pickF rfl rfl rfl) ?_
 refine G_val rfl rfl rfl rfl (V_move rfl rfl) ?_
 refine G_splitD 19 rfl (fun hc2 => ?_) (fun hc2 => ?_)
 · skip
   refine G_off rfl rfl rfl rfl ?_
   refine G_off rfl rfl rfl rfl ?_
   refine G_off rfl rfl rfl rfl ?_
   refine G_off rfl rfl rfl rfl ?_
   refine G_val rfl rfl rfl rfl (V_pickT rfl rfl rfl) ?_
   refine G_val rfl rfl rfl rfl (V_move rfl rfl) ?_
   refine G_off rfl rfl rfl rfl ?_
   refine G_off rfl rfl rfl rfl ?_
   refine G_off rfl rfl rfl rfl ?_
   refine G_off rfl rfl rfl rfl ?_
   refine G_off rfl rfl rfl rfl ?_
   refine G_off rfl rfl rfl rfl ?_
   refine G_val rfl rfl rfl rfl (V_pickT rfl rfl rfl) ?_
   refine G_val rfl rfl rfl rfl (V_move rfl rfl) ?_
   refine G_off rfl rfl rfl rfl ?_
   refine G_off rfl rfl rfl rfl ?_
   refine G_val rfl rfl rfl rfl (V_pickT rfl rfl rfl) ?_
   refine G_val rfl rfl rfl rfl (V_assign rfl rfl) ?_
   refine G_done ?_
   refine G_then rfl ?_
   refine G_seq ?_
   refine G_region (l := [0]) rfl ?_
   refine G_val rfl rfl rfl rfl (V_assign rfl rfl) ?_
   refine G_done ?_
   refine G_ret (post := []) Tryd.func67 rfl (RVs_cons (RV_tmp rfl) RVs_nil) [] rfl ?_
   dsimp only [packed]
   refine ⟨int_eq ?_, rfl⟩; unfold regE; first | rw [if_pos (by omega)] | rw [if_neg (by omega)]
 refine G_val rfl rfl rfl rfl (V_move rfl rfl) ?_
 refine G_val rfl rfl rfl rfl (V_move rfl rfl) ?_
 refine G_call (L2 := []) rfl rfl rfl rfl rfl rfl Tryd.call98 (dk_size _ _ _ _ _ _ _ h) [] [0] rfl rfl ?_
 rintro v post ⟨rfl, rfl⟩
 refine G_val rfl rfl rfl rfl (V_gtr rfl rfl rfl) ?_
 refine G_val rfl rfl rfl rfl (V_pickF rfl rfl rfl) ?_
 refine G_val rfl rfl rfl rfl (V_move rfl rfl) ?_
 refine G_splitD 25 rfl (fun hc3 => ?_) (fun hc3 => ?_)
 · skip
   refine G_off rfl rfl rfl rfl ?_
   refine G_off rfl rfl rfl rfl ?_
   refine G_off rfl rfl rfl rfl ?_
   refine G_off rfl rfl rfl rfl ?_
   refine G_off rfl rfl rfl rfl ?_
   refine G_off rfl rfl rfl rfl ?_
   refine G_val rfl rfl rfl rfl (V_pickT rfl rfl rfl) ?_
   refine G_val rfl rfl rfl rfl (V_move rfl rfl) ?_
   refine G_off rfl rfl rfl rfl ?_
   refine G_off rfl rfl rfl rfl ?_
   refine G_val rfl rfl rfl rfl (V_pickT rfl rfl rfl) ?_
   refine G_val rfl rfl rfl rfl (V_assign rfl rfl) ?_
   refine G_done ?_
   refine G_then rfl ?_
   refine G_seq ?_
   refine G_region (l := [0]) rfl ?_
   refine G_val rfl rfl rfl rfl (V_assign rfl rfl) ?_
   refine G_done ?_
   refine G_ret (post := []) Tryd.func67 rfl (RVs_cons (RV_tmp rfl) RVs_nil) [] rfl ?_
   dsimp only [packed]
   refine ⟨int_eq ?_, rfl⟩; unfold regE; first | rw [if_pos (by omega)] | rw [if_neg (by omega)]
 refine G_val rfl rfl rfl rfl (V_move rfl rfl) ?_
 refine G_val rfl rfl rfl rfl (V_move rfl rfl) ?_
 refine G_call (L2 := []) rfl rfl rfl rfl rfl rfl Tryd.call98 (dk_size _ _ _ _ _ _ _ h) [] [0] rfl rfl ?_
 rintro v post ⟨rfl, rfl⟩
 refine G_val rfl rfl rfl rfl (V_move rfl rfl) ?_
 first
   | refine G_val rfl rfl rfl rfl ((V_sub rfl rfl rfl).int (wrap_i64 (by omega))) ?_
   | refine G_val rfl rfl rfl rfl (V_sub rfl rfl rfl) ?_
 refine G_val rfl rfl rfl rfl (V_gtr rfl rfl rfl) ?_
 refine G_val rfl rfl rfl rfl (V_pickF rfl rfl rfl) ?_
 refine G_val rfl rfl rfl rfl (V_move rfl rfl) ?_
 refine G_splitD 33 rfl (fun hc4 => ?_) (fun hc4 => ?_)
 · skip
   refine G_off rfl rfl rfl rfl ?_
   refine G_off rfl rfl rfl rfl ?_
   refine G_val rfl rfl rfl rfl (V_pickT rfl rfl rfl) ?_
   refine G_val rfl rfl rfl rfl (V_assign rfl rfl) ?_
   refine G_done ?_
   refine G_then rfl ?_
   refine G_seq ?_
   refine G_region (l := [0]) rfl ?_
   refine G_val rfl rfl rfl rfl (V_assign rfl rfl) ?_
   refine G_done ?_
   refine G_ret (post := []) Tryd.func67 rfl (RVs_cons (RV_tmp rfl) RVs_nil) [] rfl ?_
   dsimp only [packed]
   refine ⟨int_eq ?_, rfl⟩; unfold regE; first | rw [if_pos (by omega)] | rw [if_neg (by omega)]
 refine G_val rfl rfl rfl rfl (V_move rfl rfl) ?_
 refine G_val rfl rfl rfl rfl (V_eql rfl rfl rfl) ?_
 refine G_val rfl rfl rfl rfl (V_pickF rfl rfl rfl) ?_
 refine G_val rfl rfl rfl rfl (V_assign rfl rfl) ?_
 refine G_done ?_
 refine G_ifD rfl (fun hc5 => ?_) (fun hc5 => ?_)
 · skip
   refine G_seq ?_
   refine G_region (l := [0]) rfl ?_
   refine G_val rfl rfl rfl rfl (V_assign rfl rfl) ?_
   refine G_done ?_
   refine G_ret (post := []) Tryd.func67 rfl (RVs_cons (RV_tmp rfl) RVs_nil) [] rfl ?_
   dsimp only [packed]
   refine ⟨int_eq ?_, rfl⟩; unfold regE; first | rw [if_pos (by omega)] | rw [if_neg (by omega)]
 refine G_skip ?_
 refine G_inBlock ?_
 refine G_seq ?_
 refine G_region (l := [0]) rfl ?_
 refine G_val rfl rfl rfl rfl (V_assign rfl rfl) ?_
 refine G_done ?_
 refine G_ret (post := []) Tryd.func67 rfl (RVs_cons (RV_tmp rfl) RVs_nil) [] rfl ?_
 dsimp only [packed]
 refine ⟨int_eq ?_, rfl⟩; unfold regE; first | rw [if_pos (by omega)] | rw [if_neg (by omega)]

set_option maxRecDepth 100000 in
set_option maxHeartbeats 1000000 in
theorem sn_check_nil (x y z : Value) :
    Ct Tryd.prog 67 [.pointer none, x, y, z] [] [] fun v post => v = .int .i64 19 ∧ post = [] := by
 refine ct_of Tryd.func67 rfl rfl (fun w0 => ?_)
 show G _ _ [(0, _), (1, _), (2, _), (3, _)] _ _
 refine G_seq ?_
 refine G_region (l := [0]) rfl ?_
 refine G_val rfl rfl rfl rfl (V_assign rfl rfl) ?_
 refine G_done ?_
 refine G_seq ?_
 refine G_block ?_
 refine G_seq ?_
 refine G_region (l := [0, 1, 2]) rfl ?_
 refine G_val rfl rfl rfl rfl (V_move rfl rfl) ?_
 refine G_val rfl rfl rfl rfl (V_peqlN rfl Tryd.underlying35 rfl rfl) ?_
 refine G_val rfl rfl rfl rfl (V_assign rfl rfl) ?_
 refine G_done ?_
 refine G_then rfl ?_
 refine G_seq ?_
 refine G_region (l := [0]) rfl ?_
 refine G_val rfl rfl rfl rfl (V_assign rfl rfl) ?_
 refine G_done ?_
 refine G_ret (post := []) Tryd.func67 rfl (RVs_cons (RV_tmp rfl) RVs_nil) [] rfl ?_
 dsimp only [packed]
 exact ⟨rfl, rfl⟩

set_option maxRecDepth 100000 in
set_option maxHeartbeats 1000000 in
theorem repeat_zero  :
    Ct Tryd.prog 61 [.string (bs [0]), .int .i64 0] [] [] fun v post => v = .string (bs []) ∧ post = [] := by
 refine ct_of Tryd.func61 rfl rfl (fun w0 => ?_)
 show G _ _ [(0, _), (1, _)] _ _
 refine G_seq ?_
 refine G_region (l := [0]) rfl ?_
 refine G_val rfl rfl rfl rfl (V_assign rfl rfl) ?_
 refine G_done ?_
 refine G_seq ?_
 refine G_seq ?_
 refine G_region (l := [0]) rfl ?_
 refine G_val rfl rfl rfl rfl (V_move rfl rfl) ?_
 refine G_done ?_
 refine G_block ?_
 refine G_seq ?_
 refine G_region (l := [0, 1]) rfl ?_
 refine G_val rfl rfl rfl rfl (V_eql rfl rfl rfl) ?_
 refine G_val rfl rfl rfl rfl (V_assign rfl rfl) ?_
 refine G_done ?_
 refine G_ifD rfl (fun hc1 => ?_) (fun hc1 => ?_)
 rotate_left
 · (first | (exact absurd rfl hc1) | (exact absurd hc1 (by decide)) | (exact absurd (by decide) hc1) | (exfalso; omega))
 refine G_seq ?_
 refine G_region (l := [0]) rfl ?_
 refine G_val rfl rfl rfl rfl (V_assign rfl rfl) ?_
 refine G_done ?_
 refine G_ret (post := []) Tryd.func61 rfl (RVs_cons (RV_tmp rfl) RVs_nil) [] rfl ?_
 dsimp only [packed]
 exact ⟨rfl, rfl⟩

set_option maxRecDepth 100000 in
set_option maxHeartbeats 1000000 in
theorem repeat_one  :
    Ct Tryd.prog 61 [.string (bs [0]), .int .i64 1] [] [] fun v post => v = .string (bs [0]) ∧ post = [] := by
 refine ct_of Tryd.func61 rfl rfl (fun w0 => ?_)
 show G _ _ [(0, _), (1, _)] _ _
 refine G_seq ?_
 refine G_region (l := [0]) rfl ?_
 refine G_val rfl rfl rfl rfl (V_assign rfl rfl) ?_
 refine G_done ?_
 refine G_seq ?_
 refine G_seq ?_
 refine G_region (l := [0]) rfl ?_
 refine G_val rfl rfl rfl rfl (V_move rfl rfl) ?_
 refine G_done ?_
 refine G_block ?_
 refine G_seq ?_
 refine G_region (l := [0, 1]) rfl ?_
 refine G_val rfl rfl rfl rfl (V_eql rfl rfl rfl) ?_
 refine G_val rfl rfl rfl rfl (V_assign rfl rfl) ?_
 refine G_done ?_
 refine G_ifD rfl (fun hc1 => ?_) (fun hc1 => ?_)
 · (first | (exact absurd rfl hc1) | (exact absurd hc1 (by decide)) | (exact absurd (by decide) hc1) | (exfalso; omega))
 refine G_seq ?_
 refine G_region (l := [0, 1]) rfl ?_
 refine G_val rfl rfl rfl rfl (V_eql rfl rfl rfl) ?_
 refine G_val rfl rfl rfl rfl (V_assign rfl rfl) ?_
 refine G_done ?_
 refine G_ifD rfl (fun hc2 => ?_) (fun hc2 => ?_)
 rotate_left
 · (first | (exact absurd rfl hc2) | (exact absurd hc2 (by decide)) | (exact absurd (by decide) hc2) | (exfalso; omega))
 refine G_seq ?_
 refine G_region (l := [0, 1]) rfl ?_
 refine G_val rfl rfl rfl rfl (V_move rfl rfl) ?_
 refine G_val rfl rfl rfl rfl (V_assign rfl rfl) ?_
 refine G_done ?_
 refine G_ret (post := []) Tryd.func61 rfl (RVs_cons (RV_tmp rfl) RVs_nil) [] rfl ?_
 dsimp only [packed]
 exact ⟨rfl, rfl⟩


theorem repeat_any (z : Int) (m : Nat) (hz : z = (m : Int)) (h8 : m ≤ 8192) : Ct Tryd.prog 61 [.string (bs [0]), .int .i64 z] [] [] (fun v post => v = .string (bs (List.replicate m 0)) ∧ post = []) := by
  subst hz
  match m, h8 with
  | 0, _ => exact repeat_zero
  | 1, _ => exact repeat_one
  | n + 2, h8 => exact repeat0 (n + 2) (by omega) h8

set_option maxRecDepth 100000 in
set_option maxHeartbeats 1000000 in
theorem sn_put (d n lb lcap : Nat) (lcs : Array Value) (uw : Sl) (k : Dk) (h : DkAt k n lb lcs lcap uw) (f b : Int) (e : Nat) (hf0 : -9223372036854775808 ≤ f) (hf1 : f ≤ 9223372036854775807) (hb0 : -9223372036854775808 ≤ b) (hb1 : b ≤ 9223372036854775807) (he : e < 4294967296) (s : List UInt8) (hW : k.W.length ≤ 100000) (hsl : s.length ≤ 1000000) :
    Ct Tryd.prog 23 [.pointer (some ⟨d, 0, none⟩), .int .i64 f, .int .i64 b, .int .u32 (e : Int), .string (bs s)] [] [(some d, .cells #[.slice (some ⟨lb, 0, none⟩) n lcap, uw.v k.W.length, .int .i64 k.fuse, .bool k.dead] 110 (0, 0)), (some lb, .cells lcs 9 (0, 0)), (uw.ob, .cells uw.cs 116 uw.fz)] fun v post => v = .int .i64 (putE k f b e s) ∧ ∃ lcs1 uw1, DkAt (putK k f b e s) n lb lcs1 lcap uw1 ∧ post = [(some d, .cells #[.slice (some ⟨lb, 0, none⟩) n lcap, uw1.v (putK k f b e s).W.length, .int .i64 (putK k f b e s).fuse, .bool (putK k f b e s).dead] 110 (0, 0)), (some lb, .cells lcs1 9 (0, 0)), (uw1.ob, .cells uw1.cs 116 uw1.fz)] := by
 have hq := h.bd
 have hq1 := hq.n1
 have hq2 := hq.n4
 have hq3 := hq.ncs
 have hq4 := hq.ncap
 have hq5 := hq.cap
 have hq6 := hq.w
 have hq7 := hq.wc
 have hln := h.len
 have hroom := manyS_room s.length
 have hpl := padS_len s
 have hbl := blksS_len e s
 refine ct_of Tryd.func23 rfl rfl (fun w0 => ?_)
 show G _ _ [(0, _), (1, _), (2, _), (3, _), (4, _)] _ _
 refine G_seq ?_
 refine G_region (l := [0]) rfl ?_
 refine G_val rfl rfl rfl rfl (V_assign rfl rfl) ?_
 refine G_done ?_
 refine G_seq ?_
 refine G_seq ?_
 refine G_region (l := [0, 1, 2, 3, 4, 5]) rfl ?_
 refine G_val rfl rfl rfl rfl (V_move rfl rfl) ?_
 refine G_val rfl rfl rfl rfl (V_move rfl rfl) ?_
 refine G_val rfl rfl rfl rfl (V_move rfl rfl) ?_
 refine G_val rfl rfl rfl rfl (V_move rfl rfl) ?_
 refine G_call (L2 := [_, _, _]) rfl rfl rfl rfl rfl rfl Tryd.call67 (sn_check d n lb lcap lcs uw k h f b e hf0 hf1 hb0 hb1 he) [] [0] rfl rfl ?_
 rintro v post ⟨rfl, rfl⟩
 show G _ _ _ [_, _, _] _
 refine G_val rfl rfl rfl rfl (V_assign rfl rfl) ?_
 refine G_done ?_
 refine G_seq ?_
 refine G_region (l := [0, 1]) rfl ?_
 refine G_val rfl rfl rfl rfl (V_move rfl rfl) ?_
 refine G_val rfl rfl rfl rfl (V_neq rfl rfl rfl) ?_
 refine G_done ?_
 refine G_ifD rfl (fun hc1 => ?_) (fun hc1 => ?_)
 · skip
   refine G_seq ?_
   refine G_region (l := [0, 1]) rfl ?_
   refine G_val rfl rfl rfl rfl (V_move rfl rfl) ?_
   refine G_val rfl rfl rfl rfl (V_assign rfl rfl) ?_
   refine G_done ?_
   refine G_ret (post := [_, _, _]) Tryd.func23 rfl (RVs_cons (RV_tmp rfl) RVs_nil) [0, 0, 0] rfl ?_
   dsimp only [packed]
   first
     | (suffices hz : ¬ regE n f b e = 0 by (obtain ⟨e1, e2⟩ := put_no (k := k) (s := s) (f := f) (b := b) (e := e) (by rw [hln]; exact hz); rw [e1, e2]; exact ⟨by rw [regE_one hz], lcs, uw, h, rfl⟩)
        assumption)
     | (suffices hz : regE n f b e = 0 ∧ b < (manyS s.length : Int) by (obtain ⟨e1, e2⟩ := put_full (k := k) (s := s) (f := f) (b := b) (e := e) (by rw [hln]; exact hz.1) hz.2; rw [e1, e2]; exact ⟨rfl, lcs, uw, h, rfl⟩)
        exact ⟨by assumption, by omega⟩)
     | (suffices hz : ¬ kk.writeE (f + (i : Int)) (blkS e s i) = 0 by (obtain ⟨e1, e2⟩ := put_stop h hln hreg (by omega) hwr hxb hz; rw [e1, e2]; exact ⟨rfl, lcs1, uw1, h1, rfl⟩)
        assumption)
     | (suffices hz : manyS s.length ≤ i by (obtain ⟨e1, e2⟩ := put_end h hln hreg (by omega) hwr (by omega); rw [e1, e2]; exact ⟨rfl, cs, u, hkk, rfl⟩)
        omega)
 refine G_skip ?_
 refine G_seq ?_
 have hreg : regE n f b e = 0 := by omega
 have hreg1 := hreg
 rw [regE_ok] at hreg1
 obtain ⟨hr1, hr2, hr3, hr4⟩ := hreg1
 refine G_region (l := [0, 1, 2, 3]) rfl ?_
 refine G_val rfl rfl rfl rfl (V_move rfl rfl) ?_
 refine G_val rfl rfl rfl rfl (V_slen rfl rfl Tryd.underlying9 rfl) ?_
 refine G_call (L2 := [_, _, _]) rfl rfl rfl rfl rfl rfl Tryd.call26 (sn_many _ (by first | omega | (simp; done) | (simp; omega) | (simp at *; omega))) [] [] rfl rfl ?_
 rintro v post ⟨rfl, rfl⟩
 show G _ _ _ [_, _, _] _
 refine G_val rfl rfl rfl rfl (V_assign rfl rfl) ?_
 refine G_done ?_
 refine G_seq ?_
 refine G_seq ?_
 refine G_region (l := [0, 1, 2]) rfl ?_
 refine G_val rfl rfl rfl rfl (V_move rfl rfl) ?_
 refine G_val rfl rfl rfl rfl (V_move rfl rfl) ?_
 refine G_val rfl rfl rfl rfl (V_gtr rfl rfl rfl) ?_
 refine G_done ?_
 refine G_ifD rfl (fun hc2 => ?_) (fun hc2 => ?_)
 · skip
   refine G_seq ?_
   refine G_region (l := [0]) rfl ?_
   refine G_val rfl rfl rfl rfl (V_assign rfl rfl) ?_
   refine G_done ?_
   refine G_ret (post := [_, _, _]) Tryd.func23 rfl (RVs_cons (RV_tmp rfl) RVs_nil) [0, 0, 0] rfl ?_
   dsimp only [packed]
   first
     | (suffices hz : ¬ regE n f b e = 0 by (obtain ⟨e1, e2⟩ := put_no (k := k) (s := s) (f := f) (b := b) (e := e) (by rw [hln]; exact hz); rw [e1, e2]; exact ⟨by rw [regE_one hz], lcs, uw, h, rfl⟩)
        assumption)
     | (suffices hz : regE n f b e = 0 ∧ b < (manyS s.length : Int) by (obtain ⟨e1, e2⟩ := put_full (k := k) (s := s) (f := f) (b := b) (e := e) (by rw [hln]; exact hz.1) hz.2; rw [e1, e2]; exact ⟨rfl, lcs, uw, h, rfl⟩)
        exact ⟨by assumption, by omega⟩)
     | (suffices hz : ¬ kk.writeE (f + (i : Int)) (blkS e s i) = 0 by (obtain ⟨e1, e2⟩ := put_stop h hln hreg (by omega) hwr hxb hz; rw [e1, e2]; exact ⟨rfl, lcs1, uw1, h1, rfl⟩)
        assumption)
     | (suffices hz : manyS s.length ≤ i by (obtain ⟨e1, e2⟩ := put_end h hln hreg (by omega) hwr (by omega); rw [e1, e2]; exact ⟨rfl, cs, u, hkk, rfl⟩)
        omega)
 refine G_skip ?_
 refine G_seq ?_
 refine G_region (l := [0, 1, 2, 3, 4, 5, 6, 7, 8]) rfl ?_
 refine G_val rfl rfl rfl rfl (V_move rfl rfl) ?_
 refine G_val rfl rfl rfl rfl (V_move rfl rfl) ?_
 first
   | refine G_val rfl rfl rfl rfl ((V_mul rfl rfl rfl).int (wrap_i64 (by omega))) ?_
   | refine G_val rfl rfl rfl rfl (V_mul rfl rfl rfl) ?_
 refine G_val rfl rfl rfl rfl (V_move rfl rfl) ?_
 refine G_val rfl rfl rfl rfl (V_slen rfl rfl Tryd.underlying9 rfl) ?_
 first
   | refine G_val rfl rfl rfl rfl ((V_sub rfl rfl rfl).int (wrap_i64 (by omega))) ?_
   | refine G_val rfl rfl rfl rfl (V_sub rfl rfl rfl) ?_
 refine G_call (L2 := [_, _, _]) rfl rfl rfl rfl rfl rfl Tryd.call61 (repeat_any _ (48 * manyS s.length - s.length) (by omega) (by omega)) [] [] rfl rfl ?_
 rintro v post ⟨rfl, rfl⟩
 show G _ _ _ [_, _, _] _
 refine G_val rfl rfl rfl rfl (V_sadd rfl rfl rfl (by first | omega | (simp [wCells, kCells]; done) | (simp [wCells, kCells]; omega) | (simp [wCells, kCells] at *; omega))) ?_
 refine G_val rfl rfl rfl rfl (V_assign rfl rfl) ?_
 refine G_done ?_
 refine G_seq ?_
 refine G_seq ?_
 rw [pad_app s rfl]
 refine G_region (l := [0, 1]) rfl ?_
 refine G_val rfl rfl rfl rfl (V_move rfl rfl) ?_
 refine G_val rfl rfl rfl rfl (V_move rfl rfl) ?_
 refine G_done ?_
 refine G_block ?_
 refine G_sub ?he9 [0, 0, 0] ?hl9 (G_loop (X := Nat × Dk × Array Value × Sl) (fun x => match x with | ⟨i, kk, cs, u⟩ => i ≤ manyS s.length ∧ DkAt kk n lb cs lcap u ∧ WrsAt k kk f (blksS e s) i ∧ kk.W.length ≤ k.W.length + i) (fun x => match x with | ⟨i, kk, cs, u⟩ => manyS s.length - i) (fun x => match x with | ⟨i, kk, cs, u⟩ => [(0, .pointer (some ⟨d, 0, none⟩)), (1, .int .i64 f), (3, .int .u32 (e : Int)), (4, .string (bs (padS s))), (39, .int .i64 (manyS s.length : Int)), (40, .int .i64 (i : Int))]) (fun x => match x with | ⟨i, kk, cs, u⟩ => [(some d, .cells #[.slice (some ⟨lb, 0, none⟩) n lcap, u.v kk.W.length, .int .i64 kk.fuse, .bool kk.dead] 110 (0, 0)), (some lb, .cells cs 9 (0, 0)), (u.ob, .cells u.cs 116 u.fz)]) ?round9 (0, k, lcs, uw) ?h09)
 case he9 => exact (And.intro rfl (And.intro rfl (And.intro rfl (And.intro rfl (And.intro rfl (And.intro rfl trivial))))))
 case hl9 => exact ⟨_, rfl⟩
 case h09 => exact ⟨Nat.zero_le _, h, wrs_start k f _, Nat.le_refl _⟩
 case round9 =>
  intro x hJ ih
  try dsimp only at hJ ih
  obtain ⟨i, kk, cs, u⟩ := x
  try dsimp only at hJ ih
  obtain ⟨hi, hkk, hwr, hww⟩ := hJ
  show G _ _ [(0, .pointer (some ⟨d, 0, none⟩)), (1, .int .i64 f), (3, .int .u32 (e : Int)), (4, .string (bs (padS s))), (39, .int .i64 (manyS s.length : Int)), (40, .int .i64 (i : Int))] [(some d, .cells #[.slice (some ⟨lb, 0, none⟩) n lcap, u.v kk.W.length, .int .i64 kk.fuse, .bool kk.dead] 110 (0, 0)), (some lb, .cells cs 9 (0, 0)), (u.ob, .cells u.cs 116 u.fz)] _
  refine G_seq ?_
  refine G_region (l := [0]) rfl ?_
  refine G_val rfl rfl rfl rfl (V_lss rfl rfl rfl) ?_
  refine G_done ?_
  refine G_seq ?_
  refine G_ifD rfl (fun hc3 => ?_) (fun hc3 => ?_)
  · skip
    refine G_skip ?_
    refine G_seq ?_
    refine G_block ?_
    refine G_seq ?_
    refine G_region (l := [0, 1]) rfl ?_
    refine G_val rfl rfl rfl rfl (V_move rfl rfl) ?_
    refine G_val rfl rfl rfl rfl (V_assign rfl rfl) ?_
    refine G_done ?_
    refine G_seq ?_
    have hxb := blksS_at e s (show i < manyS s.length by omega)
    have hx64 := blkS_len s hr4 (show i < manyS s.length by omega)
    have hxE := blkS_E s hr4 (show i < manyS s.length by omega)
    have hx48 := pieceS_len s (show i < manyS s.length by omega)
    refine G_region (l := [0, 1, 2, 3, 4, 5, 6, 7, 8, 9, 10, 11, 12, 13, 14, 15]) rfl ?_
    refine G_val rfl rfl rfl rfl (V_move rfl rfl) ?_
    refine G_val rfl rfl rfl rfl (V_move rfl rfl) ?_
    first
      | refine G_val rfl rfl rfl rfl ((V_conv rfl rfl Tryd.underlying3 Tryd.underlying22).int (wrap_u32 (by omega))) ?_
      | refine G_val rfl rfl rfl rfl (V_conv rfl rfl Tryd.underlying3 Tryd.underlying22) ?_
    refine G_val rfl rfl rfl rfl (V_move rfl rfl) ?_
    refine G_val rfl rfl rfl rfl (V_move rfl rfl) ?_
    refine G_val rfl rfl rfl rfl (Val.int (e' := ((i * 48 : Nat) : Int)) (V_mul rfl rfl rfl) (mul48r i (by omega))) ?_
    refine G_val rfl rfl rfl rfl (V_move rfl rfl) ?_
    first
      | refine G_val rfl rfl rfl rfl ((V_add rfl rfl rfl).int (wrap_i64 (by omega))) ?_
      | refine G_val rfl rfl rfl rfl (V_add rfl rfl rfl) ?_
    refine G_val rfl rfl rfl rfl (Val.int (e' := (((i + 1) * 48 : Nat) : Int)) (V_mul rfl rfl rfl) (mul48s i (by omega))) ?_
    refine G_val rfl rfl rfl rfl (V_ssliceN (lo := i * 48) (hi := (i + 1) * 48) rfl Tryd.underlying9 rfl rfl rfl rfl rfl (by omega) (by omega)) ?_
    rw [piece_cutS]
    refine G_call (L2 := [_, _, _]) rfl rfl rfl rfl rfl rfl Tryd.call72 ((seal_seal e i (pieceS s i) he (by omega) (by omega)).weaken (fun v post h => by rw [hxE] at h; exact h)) [] [] rfl rfl ?_
    rintro v post ⟨rfl, rfl⟩
    show G _ _ _ [_, _, _] _
    refine G_val rfl rfl rfl rfl (V_move rfl rfl) ?_
    refine G_val rfl rfl rfl rfl (V_extract rfl rfl rfl) ?_
    refine G_val rfl rfl rfl rfl (V_extract rfl rfl rfl) ?_
    refine G_val rfl rfl rfl rfl (V_assign rfl rfl) ?_
    refine G_val rfl rfl rfl rfl (V_assign rfl rfl) ?_
    refine G_done ?_
    refine G_seq ?_
    refine G_seq ?_
    rw [show sealL e i (pieceS s i) = blkS e s i from rfl]
    refine G_region (l := [0, 1]) rfl ?_
    refine G_val rfl rfl rfl rfl (V_move rfl rfl) ?_
    refine G_val rfl rfl rfl rfl (V_neq rfl rfl rfl) ?_
    refine G_done ?_
    refine G_ifD rfl (fun hc4 => ?_) (fun hc4 => ?_)
    · (first | (exact absurd rfl hc4) | (exact absurd hc4 (by decide)) | (exact absurd (by decide) hc4) | (exfalso; omega))
    refine G_skip ?_
    refine G_seq ?_
    refine G_region (l := [0, 1, 2, 3, 4, 5, 6]) rfl ?_
    refine G_val rfl rfl rfl rfl (V_move rfl rfl) ?_
    refine G_val rfl rfl rfl rfl (V_move rfl rfl) ?_
    refine G_val rfl rfl rfl rfl (V_move rfl rfl) ?_
    first
      | refine G_val rfl rfl rfl rfl ((V_add rfl rfl rfl).int (wrap_i64 (by omega))) ?_
      | refine G_val rfl rfl rfl rfl (V_add rfl rfl rfl) ?_
    refine G_val rfl rfl rfl rfl (V_move rfl rfl) ?_
    refine G_call (L2 := []) rfl rfl rfl rfl rfl rfl Tryd.call20 (dk_write d n lb lcap cs u kk hkk (f + (i : Int)) (blkS e s i) (by omega)) [0, 0, 0] [] rfl rfl ?_
    rintro v post ⟨rfl, lcs1, uw1, h1, rfl⟩
    show G _ _ _ [_, _, _] _
    refine G_val rfl rfl rfl rfl (V_assign rfl rfl) ?_
    refine G_done ?_
    refine G_seq ?_
    refine G_region (l := [0, 1]) rfl ?_
    refine G_val rfl rfl rfl rfl (V_move rfl rfl) ?_
    refine G_val rfl rfl rfl rfl (V_neq rfl rfl rfl) ?_
    refine G_done ?_
    refine G_ifD rfl (fun hc5 => ?_) (fun hc5 => ?_)
    · skip
      refine G_seq ?_
      refine G_region (l := [0, 1]) rfl ?_
      refine G_val rfl rfl rfl rfl (V_move rfl rfl) ?_
      refine G_val rfl rfl rfl rfl (V_assign rfl rfl) ?_
      refine G_done ?_
      refine G_ret (post := [_, _, _]) Tryd.func23 rfl (RVs_cons (RV_tmp rfl) RVs_nil) [0, 0, 0] rfl ?_
      dsimp only [packed]
      first
        | (suffices hz : ¬ regE n f b e = 0 by (obtain ⟨e1, e2⟩ := put_no (k := k) (s := s) (f := f) (b := b) (e := e) (by rw [hln]; exact hz); rw [e1, e2]; exact ⟨by rw [regE_one hz], lcs, uw, h, rfl⟩)
           assumption)
        | (suffices hz : regE n f b e = 0 ∧ b < (manyS s.length : Int) by (obtain ⟨e1, e2⟩ := put_full (k := k) (s := s) (f := f) (b := b) (e := e) (by rw [hln]; exact hz.1) hz.2; rw [e1, e2]; exact ⟨rfl, lcs, uw, h, rfl⟩)
           exact ⟨by assumption, by omega⟩)
        | (suffices hz : ¬ kk.writeE (f + (i : Int)) (blkS e s i) = 0 by (obtain ⟨e1, e2⟩ := put_stop h hln hreg (by omega) hwr hxb hz; rw [e1, e2]; exact ⟨rfl, lcs1, uw1, h1, rfl⟩)
           assumption)
        | (suffices hz : manyS s.length ≤ i by (obtain ⟨e1, e2⟩ := put_end h hln hreg (by omega) hwr (by omega); rw [e1, e2]; exact ⟨rfl, cs, u, hkk, rfl⟩)
           omega)
    refine G_skip ?_
    refine G_inBlock ?_
    refine G_region (l := [0, 1]) rfl ?_
    first
      | refine G_val rfl rfl rfl rfl ((V_add rfl rfl rfl).int (wrap_i64 (by omega))) ?_
      | refine G_val rfl rfl rfl rfl (V_add rfl rfl rfl) ?_
    refine G_val rfl rfl rfl rfl (V_move rfl rfl) ?_
    refine G_done ?_
    refine G_sub ?_ [0, 0, 0] ?_ (ih (i + 1, kk.write (f + (i : Int)) (blkS e s i), lcs1, uw1) ?_ ?_)
    · (refine (And.intro ?_ (And.intro ?_ (And.intro ?_ (And.intro ?_ (And.intro ?_ (And.intro ?_ trivial)))))) <;> first | rfl | exact slot_int (by omega) | exact slot_int (by simp))
    · exact ⟨_, rfl⟩
    · exact ⟨by omega, h1, wrs_next hwr hxb (by omega), by show (kk.write (f + (i : Int)) (blkS e s i)).W.length ≤ k.W.length + (i + 1); have := write_W kk (f + (i : Int)) (blkS e s i); omega⟩
    · (first | omega | (dsimp only; omega))
  refine G_exit rfl ?_
  refine G_seq ?_
  refine G_region (l := [0]) rfl ?_
  refine G_val rfl rfl rfl rfl (V_assign rfl rfl) ?_
  refine G_done ?_
  refine G_ret (post := [_, _, _]) Tryd.func23 rfl (RVs_cons (RV_tmp rfl) RVs_nil) [0, 0, 0] rfl ?_
  dsimp only [packed]
  first
    | (suffices hz : ¬ regE n f b e = 0 by (obtain ⟨e1, e2⟩ := put_no (k := k) (s := s) (f := f) (b := b) (e := e) (by rw [hln]; exact hz); rw [e1, e2]; exact ⟨by rw [regE_one hz], lcs, uw, h, rfl⟩)
       assumption)
    | (suffices hz : regE n f b e = 0 ∧ b < (manyS s.length : Int) by (obtain ⟨e1, e2⟩ := put_full (k := k) (s := s) (f := f) (b := b) (e := e) (by rw [hln]; exact hz.1) hz.2; rw [e1, e2]; exact ⟨rfl, lcs, uw, h, rfl⟩)
       exact ⟨by assumption, by omega⟩)
    | (suffices hz : ¬ kk.writeE (f + (i : Int)) (blkS e s i) = 0 by (obtain ⟨e1, e2⟩ := put_stop h hln hreg (by omega) hwr hxb hz; rw [e1, e2]; exact ⟨rfl, lcs1, uw1, h1, rfl⟩)
       assumption)
    | (suffices hz : manyS s.length ≤ i by (obtain ⟨e1, e2⟩ := put_end h hln hreg (by omega) hwr (by omega); rw [e1, e2]; exact ⟨rfl, cs, u, hkk, rfl⟩)
       omega)

set_option maxRecDepth 100000 in
set_option maxHeartbeats 1000000 in
theorem sn_put_nil (x y z w : Value) :
    Ct Tryd.prog 23 [.pointer none, x, y, z, w] [] [] fun v post => v = .int .i64 19 ∧ post = [] := by
 refine ct_of Tryd.func23 rfl rfl (fun w0 => ?_)
 show G _ _ [(0, _), (1, _), (2, _), (3, _), (4, _)] _ _
 refine G_seq ?_
 refine G_region (l := [0]) rfl ?_
 refine G_val rfl rfl rfl rfl (V_assign rfl rfl) ?_
 refine G_done ?_
 refine G_seq ?_
 refine G_seq ?_
 refine G_region (l := [0, 1, 2, 3, 4, 5]) rfl ?_
 refine G_val rfl rfl rfl rfl (V_move rfl rfl) ?_
 refine G_val rfl rfl rfl rfl (V_move rfl rfl) ?_
 refine G_val rfl rfl rfl rfl (V_move rfl rfl) ?_
 refine G_val rfl rfl rfl rfl (V_move rfl rfl) ?_
 refine G_call (L2 := []) rfl rfl rfl rfl rfl rfl Tryd.call67 (sn_check_nil _ _ _) [] [] rfl rfl ?_
 rintro v post ⟨rfl, rfl⟩
 refine G_val rfl rfl rfl rfl (V_assign rfl rfl) ?_
 refine G_done ?_
 refine G_seq ?_
 refine G_region (l := [0, 1]) rfl ?_
 refine G_val rfl rfl rfl rfl (V_move rfl rfl) ?_
 refine G_val rfl rfl rfl rfl (V_neq rfl rfl rfl) ?_
 refine G_done ?_
 refine G_ifD rfl (fun hc1 => ?_) (fun hc1 => ?_)
 rotate_left
 · (first | (exact absurd rfl hc1) | (exact absurd hc1 (by decide)) | (exact absurd (by decide) hc1) | (exfalso; omega))
 refine G_seq ?_
 refine G_region (l := [0, 1]) rfl ?_
 refine G_val rfl rfl rfl rfl (V_move rfl rfl) ?_
 refine G_val rfl rfl rfl rfl (V_assign rfl rfl) ?_
 refine G_done ?_
 refine G_ret (post := []) Tryd.func23 rfl (RVs_cons (RV_tmp rfl) RVs_nil) [] rfl ?_
 dsimp only [packed]
 exact ⟨rfl, rfl⟩


def gotT (k : Dk) (f b : Int) (e : Nat) (z : Int) : List UInt8 := if regE k.L.length f b e ≠ 0 then [] else getT (rdB k f b.toNat) e z
def gotE (k : Dk) (f b : Int) (e : Nat) (z : Int) : Int := if regE k.L.length f b e ≠ 0 then 1 else getE (rdB k f b.toNat) e z
theorem got_no {k : Dk} {f b : Int} {e : Nat} {z : Int} (h : ¬ regE k.L.length f b e = 0) : gotT k f b e z = [] ∧ gotE k f b e z = 1 := by unfold gotT gotE; rw [if_pos h, if_pos h]; exact ⟨rfl, rfl⟩
theorem got_yes {k : Dk} {f b : Int} {e : Nat} {z : Int} (h : regE k.L.length f b e = 0) : gotT k f b e z = getT (rdB k f b.toNat) e z ∧ gotE k f b e z = getE (rdB k f b.toNat) e z := by
  unfold gotT gotE; rw [if_neg (by omega), if_neg (by omega)]; exact ⟨rfl, rfl⟩
theorem got_18 {k : Dk} {f b : Int} {e : Nat} {z : Int} (h : regE k.L.length f b e = 0) (h1 : ¬ getOk (rdB k f b.toNat) e z) : gotT k f b e z = [] ∧ gotE k f b e z = 18 := by
  obtain ⟨e1, e2⟩ := got_yes (z := z) h
  obtain ⟨e3, e4⟩ := get_no h1
  exact ⟨e1.trans e3, e2.trans e4⟩
theorem got_0 {k : Dk} {f b : Int} {e : Nat} {z : Nat} (h : regE k.L.length f b e = 0) (h1 : manyS z ≤ b.toNat) (h2 : okTo (rdB k f b.toNat) e (manyS z)) (h3 : ∀ x ∈ (catD ((rdB k f b.toNat).take (manyS z))).drop z, x = 0) :
    gotT k f b e (z : Int) = (catD ((rdB k f b.toNat).take (manyS z))).take z ∧ gotE k f b e (z : Int) = 0 := by
  obtain ⟨e1, e2⟩ := got_yes (z := (z : Int)) h
  have hg : getOk (rdB k f b.toNat) e (z : Int) := by
    unfold getOk; rw [Int.toNat_natCast, rdB_len]; exact ⟨by omega, h1, h2, h3⟩
  obtain ⟨e3, e4⟩ := get_yes hg
  rw [Int.toNat_natCast] at e3
  exact ⟨e1.trans e3, e2.trans e4⟩
theorem getOk_small {bl : List (List UInt8)} {e z : Nat} (h : bl.length < manyS z) : ¬ getOk bl e (z : Int) := fun x => by
  have := x.2.1; rw [Int.toNat_natCast] at this; omega
theorem getOk_bad {bl : List (List UInt8)} {e z i : Nat} {b : List UInt8} (hi : i < manyS z) (hb : bl.getD i [] = b) (h : ¬ (openOk b = true ∧ openE b = e ∧ openI b = i)) : ¬ getOk bl e (z : Int) := fun x => by
  have := x.2.2.1; rw [Int.toNat_natCast] at this
  have := this i hi
  rw [hb, okB_iff] at this
  exact h this
theorem getOk_rest {bl : List (List UInt8)} {e z : Nat} (h : ¬ ∀ x ∈ (catD (bl.take (manyS z))).drop z, x = 0) : ¬ getOk bl e (z : Int) := fun x => by
  have := x.2.2.2; rw [Int.toNat_natCast] at this; exact h this
theorem getOk_neg {bl : List (List UInt8)} {e : Nat} {z : Int} (h : z < 0) : ¬ getOk bl e z := fun x => by have := x.1; omega

set_option maxRecDepth 100000 in
set_option maxHeartbeats 2000000 in
theorem sn_getN (d n lb lcap : Nat) (lcs : Array Value) (uw : Sl) (k : Dk) (h : DkAt k n lb lcs lcap uw) (f b : Int) (e : Nat) (hf0 : -9223372036854775808 ≤ f) (hf1 : f ≤ 9223372036854775807) (hb0 : -9223372036854775808 ≤ b) (hb1 : b ≤ 9223372036854775807) (he : e < 4294967296) (z : Nat) (hzl : z ≤ 9223372036854775807) (hd : k.dead = false) :
    Ct Tryd.prog 21 [.pointer (some ⟨d, 0, none⟩), .int .i64 f, .int .i64 b, .int .u32 (e : Int), .int .i64 (z : Int)] [(some d, .cells #[.slice (some ⟨lb, 0, none⟩) n lcap, uw.v k.W.length, .int .i64 k.fuse, .bool k.dead] 110 (0, 0)), (some lb, .cells lcs 9 (0, 0)), (uw.ob, .cells uw.cs 116 uw.fz)] [] fun v post => v = .tuple #[.string (bs (gotT k f b e (z : Int))), .int .i64 (gotE k f b e (z : Int))] ∧ post = [] := by
 have hq := h.bd
 have hq1 := hq.n1
 have hq2 := hq.n4
 have hq3 := hq.ncs
 have hq4 := hq.ncap
 have hq5 := hq.cap
 have hq6 := hq.w
 have hq7 := hq.wc
 have hln := h.len
 have hroom := manyS_room z
 have hrl := rdB_len k f b.toNat
 refine ct_of Tryd.func21 rfl rfl (fun w0 => ?_)
 show G _ _ [(0, _), (1, _), (2, _), (3, _), (4, _)] _ _
 refine G_seq ?_
 refine G_region (l := [0, 1]) rfl ?_
 refine G_val rfl rfl rfl rfl (V_assign rfl rfl) ?_
 refine G_val rfl rfl rfl rfl (V_assign rfl rfl) ?_
 refine G_done ?_
 refine G_seq ?_
 refine G_seq ?_
 refine G_region (l := [0, 1, 2, 3, 4, 5]) rfl ?_
 refine G_val rfl rfl rfl rfl (V_move rfl rfl) ?_
 refine G_val rfl rfl rfl rfl (V_move rfl rfl) ?_
 refine G_val rfl rfl rfl rfl (V_move rfl rfl) ?_
 refine G_val rfl rfl rfl rfl (V_move rfl rfl) ?_
 refine G_call (L2 := []) rfl rfl rfl rfl rfl rfl Tryd.call67 (sn_check d n lb lcap lcs uw k h f b e hf0 hf1 hb0 hb1 he) [] [0] rfl rfl ?_
 rintro v post ⟨rfl, rfl⟩
 refine G_val rfl rfl rfl rfl (V_assign rfl rfl) ?_
 refine G_done ?_
 refine G_seq ?_
 refine G_region (l := [0, 1]) rfl ?_
 refine G_val rfl rfl rfl rfl (V_move rfl rfl) ?_
 refine G_val rfl rfl rfl rfl (V_neq rfl rfl rfl) ?_
 refine G_done ?_
 refine G_ifD rfl (fun hc1 => ?_) (fun hc1 => ?_)
 · skip
   refine G_seq ?_
   refine G_region (l := [0, 1, 2]) rfl ?_
   refine G_val rfl rfl rfl rfl (V_move rfl rfl) ?_
   refine G_val rfl rfl rfl rfl (V_assign rfl rfl) ?_
   refine G_val rfl rfl rfl rfl (V_assign rfl rfl) ?_
   refine G_done ?_
   refine G_ret (post := []) Tryd.func21 rfl (RVs_cons (RV_tmp rfl) (RVs_cons (RV_tmp rfl) RVs_nil)) [] rfl ?_
   dsimp only [packed]
   first
     | (suffices hz : ¬ regE n f b e = 0 by (obtain ⟨e1, e2⟩ := got_no (k := k) (f := f) (b := b) (e := e) (z := (z : Int)) (by rw [hln]; exact hz); rw [e1, e2]; exact ⟨by rw [regE_one hz]; try rfl, rfl⟩)
        assumption)
     | (suffices hz : regE n f b e = 0 ∧ b < (manyS z : Int) by (obtain ⟨e1, e2⟩ := got_18 (k := k) (f := f) (b := b) (e := e) (by rw [hln]; exact hz.1) (getOk_small (z := z) (by rw [rdB_len]; omega)); rw [e1, e2]; exact ⟨rfl, rfl⟩)
        exact ⟨by assumption, by omega⟩)
     | (suffices hz : i < manyS z ∧ ¬ (openOk (k.readS (f + (i : Int))) = true ∧ openE (k.readS (f + (i : Int))) = e ∧ openI (k.readS (f + (i : Int))) = i) by (obtain ⟨e1, e2⟩ := got_18 (k := k) (f := f) (b := b) (e := e) (by rw [hln]; exact hreg) (getOk_bad (z := z) (i := i) hz.1 hbg hz.2); rw [e1, e2]; exact ⟨rfl, rfl⟩)
        exact ⟨by omega, by rintro ⟨x1, x2, x3⟩; first | omega | simp_all⟩)
     | (suffices hz : i = manyS z ∧ ¬ trimL (trimR (((catD ((rdB k f b.toNat).take i))).drop z)) = [] by (obtain ⟨e1, e2⟩ := got_18 (k := k) (f := f) (b := b) (e := e) (by rw [hln]; exact hreg) (getOk_rest (z := z) (fun x => hz.2 ((trim_nil _).2 (by rw [hz.1]; exact x)))); rw [e1, e2]; exact ⟨rfl, rfl⟩)
        exact ⟨by omega, by assumption⟩)
     | (suffices hz : i = manyS z ∧ trimL (trimR (((catD ((rdB k f b.toNat).take i))).drop z)) = [] by (obtain ⟨e1, e2⟩ := got_0 (k := k) (f := f) (b := b) (e := e) (z := z) (by rw [hln]; exact hreg) (by omega) (by rw [← hz.1]; exact hok) ((trim_nil _).1 (by rw [← hz.1]; exact hz.2)); rw [e1, e2]; exact ⟨by rw [hz.1], rfl⟩)
        exact ⟨by omega, by first | assumption | exact Classical.not_not.1 (by assumption)⟩)
 refine G_skip ?_
 refine G_seq ?_
 refine G_seq ?_
 have hreg : regE n f b e = 0 := by omega
 have hreg1 := hreg
 rw [regE_ok] at hreg1
 obtain ⟨hr1, hr2, hr3, hr4⟩ := hreg1
 refine G_region (l := [0, 1, 2, 3, 4, 5, 6, 7]) rfl ?_
 refine G_val rfl rfl rfl rfl (V_move rfl rfl) ?_
 refine G_val rfl rfl rfl rfl (V_lss rfl rfl rfl) ?_
 refine G_val rfl rfl rfl rfl (V_move rfl rfl) ?_
 refine G_splitD 32 rfl (fun hc2 => ?_) (fun hc2 => ?_)
 · (first | (exact absurd rfl hc2) | (exact absurd hc2 (by decide)) | (exact absurd (by decide) hc2) | (exfalso; omega))
 refine G_val rfl rfl rfl rfl (V_move rfl rfl) ?_
 refine G_call (L2 := []) rfl rfl rfl rfl rfl rfl Tryd.call26 (sn_many _ (by first | omega | (simp; done) | (simp; omega) | (simp at *; omega))) [] [] rfl rfl ?_
 rintro v post ⟨rfl, rfl⟩
 refine G_val rfl rfl rfl rfl (V_move rfl rfl) ?_
 refine G_val rfl rfl rfl rfl (V_gtr rfl rfl rfl) ?_
 refine G_val rfl rfl rfl rfl (V_pickF rfl rfl rfl) ?_
 refine G_done ?_
 refine G_ifD rfl (fun hc3 => ?_) (fun hc3 => ?_)
 · skip
   refine G_seq ?_
   refine G_region (l := [0, 1]) rfl ?_
   refine G_val rfl rfl rfl rfl (V_assign rfl rfl) ?_
   refine G_val rfl rfl rfl rfl (V_assign rfl rfl) ?_
   refine G_done ?_
   refine G_ret (post := []) Tryd.func21 rfl (RVs_cons (RV_tmp rfl) (RVs_cons (RV_tmp rfl) RVs_nil)) [] rfl ?_
   dsimp only [packed]
   first
     | (suffices hz : ¬ regE n f b e = 0 by (obtain ⟨e1, e2⟩ := got_no (k := k) (f := f) (b := b) (e := e) (z := (z : Int)) (by rw [hln]; exact hz); rw [e1, e2]; exact ⟨by rw [regE_one hz]; try rfl, rfl⟩)
        assumption)
     | (suffices hz : regE n f b e = 0 ∧ b < (manyS z : Int) by (obtain ⟨e1, e2⟩ := got_18 (k := k) (f := f) (b := b) (e := e) (by rw [hln]; exact hz.1) (getOk_small (z := z) (by rw [rdB_len]; omega)); rw [e1, e2]; exact ⟨rfl, rfl⟩)
        exact ⟨by assumption, by omega⟩)
     | (suffices hz : i < manyS z ∧ ¬ (openOk (k.readS (f + (i : Int))) = true ∧ openE (k.readS (f + (i : Int))) = e ∧ openI (k.readS (f + (i : Int))) = i) by (obtain ⟨e1, e2⟩ := got_18 (k := k) (f := f) (b := b) (e := e) (by rw [hln]; exact hreg) (getOk_bad (z := z) (i := i) hz.1 hbg hz.2); rw [e1, e2]; exact ⟨rfl, rfl⟩)
        exact ⟨by omega, by rintro ⟨x1, x2, x3⟩; first | omega | simp_all⟩)
     | (suffices hz : i = manyS z ∧ ¬ trimL (trimR (((catD ((rdB k f b.toNat).take i))).drop z)) = [] by (obtain ⟨e1, e2⟩ := got_18 (k := k) (f := f) (b := b) (e := e) (by rw [hln]; exact hreg) (getOk_rest (z := z) (fun x => hz.2 ((trim_nil _).2 (by rw [hz.1]; exact x)))); rw [e1, e2]; exact ⟨rfl, rfl⟩)
        exact ⟨by omega, by assumption⟩)
     | (suffices hz : i = manyS z ∧ trimL (trimR (((catD ((rdB k f b.toNat).take i))).drop z)) = [] by (obtain ⟨e1, e2⟩ := got_0 (k := k) (f := f) (b := b) (e := e) (z := z) (by rw [hln]; exact hreg) (by omega) (by rw [← hz.1]; exact hok) ((trim_nil _).1 (by rw [← hz.1]; exact hz.2)); rw [e1, e2]; exact ⟨by rw [hz.1], rfl⟩)
        exact ⟨by omega, by first | assumption | exact Classical.not_not.1 (by assumption)⟩)
 refine G_skip ?_
 refine G_seq ?_
 refine G_region (l := [0]) rfl ?_
 refine G_new rfl rfl rfl rfl (N_allocA rfl infSnapW_120 rfl) (fun b13 => ?_)
 refine G_done ?_
 refine G_seq ?_
 refine G_seq ?_
 refine G_addNone (.cells #[] 5 (0, 0)) ?_
 refine G_region (l := [0, 1, 2]) rfl ?_
 refine G_val rfl rfl rfl rfl (V_move rfl rfl) ?_
 refine G_call (L2 := [_, _]) rfl rfl rfl rfl rfl rfl Tryd.call26 (sn_many _ (by first | omega | (simp; done) | (simp; omega) | (simp at *; omega))) [] [] rfl rfl ?_
 rintro v post ⟨rfl, rfl⟩
 show G _ _ _ [_, _] _
 refine G_val rfl rfl rfl rfl (V_move rfl rfl) ?_
 refine G_done ?_
 refine G_block ?_
 refine G_sub ?he8 [1, 0] ?hl8 (G_loop (X := Nat × Value × Sl) (fun x => match x with | ⟨i, pv, u⟩ => i ≤ manyS z ∧ UsedOr b13 pv ∧ Txt u (catD ((rdB k f b.toNat).take i)) ∧ okTo (rdB k f b.toNat) e i) (fun x => match x with | ⟨i, pv, u⟩ => manyS z - i) (fun x => match x with | ⟨i, pv, u⟩ => [(0, .pointer (some ⟨d, 0, none⟩)), (1, .int .i64 f), (3, .int .u32 (e : Int)), (4, .int .i64 (z : Int)), (13, .pointer (some ⟨b13, 0, none⟩)), (39, .int .i64 (manyS z : Int)), (40, .int .i64 (i : Int))]) (fun x => match x with | ⟨i, pv, u⟩ => [(some b13, .cells #[pv, u.v (catD ((rdB k f b.toNat).take i)).length] 120 (0, 0)), (u.ob, .cells u.cs 5 u.fz)]) ?round8 (0, .pointer none, slNil) ?h08)
 case he8 => exact (And.intro rfl (And.intro rfl (And.intro rfl (And.intro rfl (And.intro rfl (And.intro rfl (And.intro rfl trivial)))))))
 case hl8 => exact ⟨_, rfl⟩
 case h08 => exact ⟨Nat.zero_le _, .inl rfl, txt_nil, fun j hj => by omega⟩
 case round8 =>
  intro x hJ ih
  try dsimp only at hJ ih
  obtain ⟨i, pv, u⟩ := x
  try dsimp only at hJ ih
  obtain ⟨hi, hpx, hux, hok⟩ := hJ
  show G _ _ [(0, .pointer (some ⟨d, 0, none⟩)), (1, .int .i64 f), (3, .int .u32 (e : Int)), (4, .int .i64 (z : Int)), (13, .pointer (some ⟨b13, 0, none⟩)), (39, .int .i64 (manyS z : Int)), (40, .int .i64 (i : Int))] [(some b13, .cells #[pv, u.v (catD ((rdB k f b.toNat).take i)).length] 120 (0, 0)), (u.ob, .cells u.cs 5 u.fz)] _
  refine G_seq ?_
  refine G_region (l := [0]) rfl ?_
  refine G_val rfl rfl rfl rfl (V_lss rfl rfl rfl) ?_
  refine G_done ?_
  refine G_seq ?_
  refine G_ifD rfl (fun hc4 => ?_) (fun hc4 => ?_)
  · skip
    refine G_skip ?_
    refine G_seq ?_
    refine G_block ?_
    refine G_seq ?_
    refine G_region (l := [0, 1]) rfl ?_
    refine G_val rfl rfl rfl rfl (V_move rfl rfl) ?_
    refine G_val rfl rfl rfl rfl (V_assign rfl rfl) ?_
    refine G_done ?_
    refine G_seq ?_
    have hre : k.readE (f + (i : Int)) = 0 := (read_yes (hasE_ok.2 (by omega)) (by rw [hd]; exact Bool.false_ne_true)).1
    have hbx := rdB_at (k := k) (f := f) (show i < b.toNat by omega)
    have hbg := rdB_get (k := k) (f := f) (show i < b.toNat by omega)
    have hr64 := readS_len h.ok (f + (i : Int))
    have hq1 := openE_lt (k.readS (f + (i : Int)))
    have hq2 := openI_lt (k.readS (f + (i : Int)))
    have hq3 := openD_len (k.readS (f + (i : Int)))
    refine G_region (l := [0, 1, 2, 3, 4, 5, 6, 7, 8, 9]) rfl ?_
    refine G_val rfl rfl rfl rfl (V_move rfl rfl) ?_
    refine G_val rfl rfl rfl rfl (V_move rfl rfl) ?_
    refine G_val rfl rfl rfl rfl (V_move rfl rfl) ?_
    first
      | refine G_val rfl rfl rfl rfl ((V_add rfl rfl rfl).int (wrap_i64 (by omega))) ?_
      | refine G_val rfl rfl rfl rfl (V_add rfl rfl rfl) ?_
    refine G_call (L2 := [_, _]) rfl rfl rfl rfl rfl rfl Tryd.call29 ((dk_read d n lb lcap lcs uw k h (f + (i : Int))).weaken (fun v post h => by rw [hre] at h; exact h)) [] [0, 1, 2] rfl rfl ?_
    rintro v post ⟨rfl, rfl⟩
    show G _ _ _ [_, _] _
    refine G_val rfl rfl rfl rfl (V_move rfl rfl) ?_
    refine G_val rfl rfl rfl rfl (V_extract rfl rfl rfl) ?_
    refine G_val rfl rfl rfl rfl (V_extract rfl rfl rfl) ?_
    refine G_val rfl rfl rfl rfl (V_assign rfl rfl) ?_
    refine G_val rfl rfl rfl rfl (V_assign rfl rfl) ?_
    refine G_done ?_
    refine G_seq ?_
    refine G_seq ?_
    refine G_region (l := [0, 1]) rfl ?_
    refine G_val rfl rfl rfl rfl (V_move rfl rfl) ?_
    refine G_val rfl rfl rfl rfl (V_neq rfl rfl rfl) ?_
    refine G_done ?_
    refine G_ifD rfl (fun hc5 => ?_) (fun hc5 => ?_)
    · (first | (exact absurd rfl hc5) | (exact absurd hc5 (by decide)) | (exact absurd (by decide) hc5) | (exfalso; omega))
    refine G_skip ?_
    refine G_seq ?_
    refine G_region (l := [0, 1, 2, 3, 4, 5, 6, 7, 8, 9, 10]) rfl ?_
    refine G_val rfl rfl rfl rfl (V_move rfl rfl) ?_
    refine G_call (L2 := [_, _]) rfl rfl rfl rfl rfl rfl Tryd.call68 (seal_open _ (by first | omega | (simp; omega))) [] [] rfl rfl ?_
    rintro v post ⟨rfl, rfl⟩
    show G _ _ _ [_, _] _
    refine G_val rfl rfl rfl rfl (V_move rfl rfl) ?_
    refine G_val rfl rfl rfl rfl (V_extract rfl rfl rfl) ?_
    refine G_val rfl rfl rfl rfl (V_extract rfl rfl rfl) ?_
    refine G_val rfl rfl rfl rfl (V_extract rfl rfl rfl) ?_
    refine G_val rfl rfl rfl rfl (V_extract rfl rfl rfl) ?_
    refine G_val rfl rfl rfl rfl (V_assign rfl rfl) ?_
    refine G_val rfl rfl rfl rfl (V_assign rfl rfl) ?_
    refine G_val rfl rfl rfl rfl (V_assign rfl rfl) ?_
    refine G_val rfl rfl rfl rfl (V_assign rfl rfl) ?_
    refine G_done ?_
    refine G_seq ?_
    refine G_seq ?_
    refine G_region (l := [0, 1, 2, 3, 4, 5, 6, 7, 8, 9, 10, 11, 12]) rfl ?_
    refine G_val rfl rfl rfl rfl (V_move rfl rfl) ?_
    refine G_val rfl rfl rfl rfl (V_not rfl rfl) ?_
    refine G_val rfl rfl rfl rfl (V_move rfl rfl) ?_
    refine G_split 63 rfl (fun hc6 => ?_) (fun hc6 => ?_)
    · skip
      refine G_off rfl rfl rfl rfl ?_
      refine G_off rfl rfl rfl rfl ?_
      refine G_off rfl rfl rfl rfl ?_
      refine G_val rfl rfl rfl rfl (V_pickT rfl rfl rfl) ?_
      refine G_val rfl rfl rfl rfl (V_move rfl rfl) ?_
      refine G_off rfl rfl rfl rfl ?_
      refine G_off rfl rfl rfl rfl ?_
      refine G_off rfl rfl rfl rfl ?_
      refine G_off rfl rfl rfl rfl ?_
      refine G_val rfl rfl rfl rfl (V_pickT rfl rfl rfl) ?_
      refine G_done ?_
      refine G_then rfl ?_
      refine G_seq ?_
      refine G_region (l := [0, 1]) rfl ?_
      refine G_val rfl rfl rfl rfl (V_assign rfl rfl) ?_
      refine G_val rfl rfl rfl rfl (V_assign rfl rfl) ?_
      refine G_done ?_
      refine G_ret (post := []) Tryd.func21 rfl (RVs_cons (RV_tmp rfl) (RVs_cons (RV_tmp rfl) RVs_nil)) [] rfl ?_
      dsimp only [packed]
      first
        | (suffices hz : ¬ regE n f b e = 0 by (obtain ⟨e1, e2⟩ := got_no (k := k) (f := f) (b := b) (e := e) (z := (z : Int)) (by rw [hln]; exact hz); rw [e1, e2]; exact ⟨by rw [regE_one hz]; try rfl, rfl⟩)
           assumption)
        | (suffices hz : regE n f b e = 0 ∧ b < (manyS z : Int) by (obtain ⟨e1, e2⟩ := got_18 (k := k) (f := f) (b := b) (e := e) (by rw [hln]; exact hz.1) (getOk_small (z := z) (by rw [rdB_len]; omega)); rw [e1, e2]; exact ⟨rfl, rfl⟩)
           exact ⟨by assumption, by omega⟩)
        | (suffices hz : i < manyS z ∧ ¬ (openOk (k.readS (f + (i : Int))) = true ∧ openE (k.readS (f + (i : Int))) = e ∧ openI (k.readS (f + (i : Int))) = i) by (obtain ⟨e1, e2⟩ := got_18 (k := k) (f := f) (b := b) (e := e) (by rw [hln]; exact hreg) (getOk_bad (z := z) (i := i) hz.1 hbg hz.2); rw [e1, e2]; exact ⟨rfl, rfl⟩)
           exact ⟨by omega, by rintro ⟨x1, x2, x3⟩; first | omega | simp_all⟩)
        | (suffices hz : i = manyS z ∧ ¬ trimL (trimR (((catD ((rdB k f b.toNat).take i))).drop z)) = [] by (obtain ⟨e1, e2⟩ := got_18 (k := k) (f := f) (b := b) (e := e) (by rw [hln]; exact hreg) (getOk_rest (z := z) (fun x => hz.2 ((trim_nil _).2 (by rw [hz.1]; exact x)))); rw [e1, e2]; exact ⟨rfl, rfl⟩)
           exact ⟨by omega, by assumption⟩)
        | (suffices hz : i = manyS z ∧ trimL (trimR (((catD ((rdB k f b.toNat).take i))).drop z)) = [] by (obtain ⟨e1, e2⟩ := got_0 (k := k) (f := f) (b := b) (e := e) (z := z) (by rw [hln]; exact hreg) (by omega) (by rw [← hz.1]; exact hok) ((trim_nil _).1 (by rw [← hz.1]; exact hz.2)); rw [e1, e2]; exact ⟨by rw [hz.1], rfl⟩)
           exact ⟨by omega, by first | assumption | exact Classical.not_not.1 (by assumption)⟩)
    refine G_val rfl rfl rfl rfl (V_move rfl rfl) ?_
    refine G_val rfl rfl rfl rfl (V_move rfl rfl) ?_
    refine G_val rfl rfl rfl rfl (V_neq rfl rfl rfl) ?_
    refine G_val rfl rfl rfl rfl (V_pickF rfl rfl rfl) ?_
    refine G_val rfl rfl rfl rfl (V_move rfl rfl) ?_
    refine G_splitD 68 rfl (fun hc7 => ?_) (fun hc7 => ?_)
    · skip
      refine G_off rfl rfl rfl rfl ?_
      refine G_off rfl rfl rfl rfl ?_
      refine G_off rfl rfl rfl rfl ?_
      refine G_off rfl rfl rfl rfl ?_
      refine G_val rfl rfl rfl rfl (V_pickT rfl rfl rfl) ?_
      refine G_done ?_
      refine G_then rfl ?_
      refine G_seq ?_
      refine G_region (l := [0, 1]) rfl ?_
      refine G_val rfl rfl rfl rfl (V_assign rfl rfl) ?_
      refine G_val rfl rfl rfl rfl (V_assign rfl rfl) ?_
      refine G_done ?_
      refine G_ret (post := []) Tryd.func21 rfl (RVs_cons (RV_tmp rfl) (RVs_cons (RV_tmp rfl) RVs_nil)) [] rfl ?_
      dsimp only [packed]
      first
        | (suffices hz : ¬ regE n f b e = 0 by (obtain ⟨e1, e2⟩ := got_no (k := k) (f := f) (b := b) (e := e) (z := (z : Int)) (by rw [hln]; exact hz); rw [e1, e2]; exact ⟨by rw [regE_one hz]; try rfl, rfl⟩)
           assumption)
        | (suffices hz : regE n f b e = 0 ∧ b < (manyS z : Int) by (obtain ⟨e1, e2⟩ := got_18 (k := k) (f := f) (b := b) (e := e) (by rw [hln]; exact hz.1) (getOk_small (z := z) (by rw [rdB_len]; omega)); rw [e1, e2]; exact ⟨rfl, rfl⟩)
           exact ⟨by assumption, by omega⟩)
        | (suffices hz : i < manyS z ∧ ¬ (openOk (k.readS (f + (i : Int))) = true ∧ openE (k.readS (f + (i : Int))) = e ∧ openI (k.readS (f + (i : Int))) = i) by (obtain ⟨e1, e2⟩ := got_18 (k := k) (f := f) (b := b) (e := e) (by rw [hln]; exact hreg) (getOk_bad (z := z) (i := i) hz.1 hbg hz.2); rw [e1, e2]; exact ⟨rfl, rfl⟩)
           exact ⟨by omega, by rintro ⟨x1, x2, x3⟩; first | omega | simp_all⟩)
        | (suffices hz : i = manyS z ∧ ¬ trimL (trimR (((catD ((rdB k f b.toNat).take i))).drop z)) = [] by (obtain ⟨e1, e2⟩ := got_18 (k := k) (f := f) (b := b) (e := e) (by rw [hln]; exact hreg) (getOk_rest (z := z) (fun x => hz.2 ((trim_nil _).2 (by rw [hz.1]; exact x)))); rw [e1, e2]; exact ⟨rfl, rfl⟩)
           exact ⟨by omega, by assumption⟩)
        | (suffices hz : i = manyS z ∧ trimL (trimR (((catD ((rdB k f b.toNat).take i))).drop z)) = [] by (obtain ⟨e1, e2⟩ := got_0 (k := k) (f := f) (b := b) (e := e) (z := z) (by rw [hln]; exact hreg) (by omega) (by rw [← hz.1]; exact hok) ((trim_nil _).1 (by rw [← hz.1]; exact hz.2)); rw [e1, e2]; exact ⟨by rw [hz.1], rfl⟩)
           exact ⟨by omega, by first | assumption | exact Classical.not_not.1 (by assumption)⟩)
    refine G_val rfl rfl rfl rfl (V_move rfl rfl) ?_
    refine G_val rfl rfl rfl rfl (V_move rfl rfl) ?_
    first
      | refine G_val rfl rfl rfl rfl ((V_conv rfl rfl Tryd.underlying3 Tryd.underlying22).int (wrap_u32 (by omega))) ?_
      | refine G_val rfl rfl rfl rfl (V_conv rfl rfl Tryd.underlying3 Tryd.underlying22) ?_
    refine G_val rfl rfl rfl rfl (V_neq rfl rfl rfl) ?_
    refine G_val rfl rfl rfl rfl (V_pickF rfl rfl rfl) ?_
    refine G_done ?_
    refine G_ifD rfl (fun hc8 => ?_) (fun hc8 => ?_)
    · skip
      refine G_seq ?_
      refine G_region (l := [0, 1]) rfl ?_
      refine G_val rfl rfl rfl rfl (V_assign rfl rfl) ?_
      refine G_val rfl rfl rfl rfl (V_assign rfl rfl) ?_
      refine G_done ?_
      refine G_ret (post := []) Tryd.func21 rfl (RVs_cons (RV_tmp rfl) (RVs_cons (RV_tmp rfl) RVs_nil)) [] rfl ?_
      dsimp only [packed]
      first
        | (suffices hz : ¬ regE n f b e = 0 by (obtain ⟨e1, e2⟩ := got_no (k := k) (f := f) (b := b) (e := e) (z := (z : Int)) (by rw [hln]; exact hz); rw [e1, e2]; exact ⟨by rw [regE_one hz]; try rfl, rfl⟩)
           assumption)
        | (suffices hz : regE n f b e = 0 ∧ b < (manyS z : Int) by (obtain ⟨e1, e2⟩ := got_18 (k := k) (f := f) (b := b) (e := e) (by rw [hln]; exact hz.1) (getOk_small (z := z) (by rw [rdB_len]; omega)); rw [e1, e2]; exact ⟨rfl, rfl⟩)
           exact ⟨by assumption, by omega⟩)
        | (suffices hz : i < manyS z ∧ ¬ (openOk (k.readS (f + (i : Int))) = true ∧ openE (k.readS (f + (i : Int))) = e ∧ openI (k.readS (f + (i : Int))) = i) by (obtain ⟨e1, e2⟩ := got_18 (k := k) (f := f) (b := b) (e := e) (by rw [hln]; exact hreg) (getOk_bad (z := z) (i := i) hz.1 hbg hz.2); rw [e1, e2]; exact ⟨rfl, rfl⟩)
           exact ⟨by omega, by rintro ⟨x1, x2, x3⟩; first | omega | simp_all⟩)
        | (suffices hz : i = manyS z ∧ ¬ trimL (trimR (((catD ((rdB k f b.toNat).take i))).drop z)) = [] by (obtain ⟨e1, e2⟩ := got_18 (k := k) (f := f) (b := b) (e := e) (by rw [hln]; exact hreg) (getOk_rest (z := z) (fun x => hz.2 ((trim_nil _).2 (by rw [hz.1]; exact x)))); rw [e1, e2]; exact ⟨rfl, rfl⟩)
           exact ⟨by omega, by assumption⟩)
        | (suffices hz : i = manyS z ∧ trimL (trimR (((catD ((rdB k f b.toNat).take i))).drop z)) = [] by (obtain ⟨e1, e2⟩ := got_0 (k := k) (f := f) (b := b) (e := e) (z := z) (by rw [hln]; exact hreg) (by omega) (by rw [← hz.1]; exact hok) ((trim_nil _).1 (by rw [← hz.1]; exact hz.2)); rw [e1, e2]; exact ⟨by rw [hz.1], rfl⟩)
           exact ⟨by omega, by first | assumption | exact Classical.not_not.1 (by assumption)⟩)
    refine G_skip ?_
    have hcl := okTo_len hok (by omega)
    refine G_region (l := [0, 1]) rfl ?_
    refine G_val rfl rfl rfl rfl (V_move rfl rfl) ?_
    refine G_call (L2 := []) rfl rfl rfl rfl rfl rfl Tryd.call69 (bld_write _ _ _ _ _ hpx hux (by omega)) [0, 0] [] rfl rfl ?_
    rintro v post ⟨rfl, u1, hu1, rfl⟩
    show G _ _ _ [_, _] _
    rw [← catD_next hbx] at hu1 ⊢
    refine G_done ?_
    refine G_inBlock ?_
    refine G_region (l := [0, 1]) rfl ?_
    first
      | refine G_val rfl rfl rfl rfl ((V_add rfl rfl rfl).int (wrap_i64 (by omega))) ?_
      | refine G_val rfl rfl rfl rfl (V_add rfl rfl rfl) ?_
    refine G_val rfl rfl rfl rfl (V_move rfl rfl) ?_
    refine G_done ?_
    refine G_sub ?_ [0, 0] ?_ (ih (i + 1, .pointer (some ⟨b13, 0, none⟩), u1) ?_ ?_)
    · (refine (And.intro ?_ (And.intro ?_ (And.intro ?_ (And.intro ?_ (And.intro ?_ (And.intro ?_ (And.intro ?_ trivial))))))) <;> first | rfl | exact slot_int (by omega) | exact slot_int (by simp))
    · exact ⟨_, rfl⟩
    · exact ⟨by omega, .inr rfl, hu1, okTo_next hok (by rw [hbg]; exact okB_iff.2 ⟨by simp_all, by omega, by omega⟩)⟩
    · (first | omega | (dsimp only; omega))
  refine G_exit rfl ?_
  refine G_seq ?_
  have hcl := okTo_len hok (by omega)
  refine G_region (l := [0, 1]) rfl ?_
  refine G_call (L2 := []) rfl rfl rfl rfl rfl rfl Tryd.call70 (bld_string _ _ _ _ hux (by omega)) [0, 0] [] rfl rfl ?_
  rintro v post ⟨rfl, u1, hu1, rfl⟩
  show G _ _ _ [_, _] _
  refine G_val rfl rfl rfl rfl (V_assign rfl rfl) ?_
  refine G_done ?_
  refine G_seq ?_
  refine G_seq ?_
  refine G_region (l := [0, 1, 2, 3, 4]) rfl ?_
  refine G_val rfl rfl rfl rfl (V_move rfl rfl) ?_
  refine G_val rfl rfl rfl rfl (V_move rfl rfl) ?_
  first
    | refine G_val rfl rfl rfl rfl (V_ssliceLN (lo := _) rfl Tryd.underlying9 rfl rfl rfl (by first | omega | (simp [wCells, kCells]; done) | (simp [wCells, kCells]; omega) | (simp [wCells, kCells] at *; omega))) ?_
    | refine G_val rfl rfl rfl rfl (V_ssliceL rfl Tryd.underlying9 rfl rfl (by first | omega | (simp [wCells, kCells]; done) | (simp [wCells, kCells]; omega) | (simp [wCells, kCells] at *; omega)) (by first | omega | (simp [wCells, kCells]; done) | (simp [wCells, kCells]; omega) | (simp [wCells, kCells] at *; omega))) ?_
  refine G_call (L2 := [_, _]) rfl rfl rfl rfl rfl rfl Tryd.call60 (str_trim _ (by simp; omega)) [] [] rfl rfl ?_
  rintro v post ⟨rfl, rfl⟩
  show G _ _ _ [_, _] _
  refine G_val rfl rfl rfl rfl (V_sneq rfl rfl rfl) ?_
  refine G_done ?_
  refine G_ifD rfl (fun hc5 => ?_) (fun hc5 => ?_)
  · skip
    refine G_seq ?_
    refine G_region (l := [0, 1]) rfl ?_
    refine G_val rfl rfl rfl rfl (V_assign rfl rfl) ?_
    refine G_val rfl rfl rfl rfl (V_assign rfl rfl) ?_
    refine G_done ?_
    refine G_ret (post := []) Tryd.func21 rfl (RVs_cons (RV_tmp rfl) (RVs_cons (RV_tmp rfl) RVs_nil)) [] rfl ?_
    dsimp only [packed]
    first
      | (suffices hz : ¬ regE n f b e = 0 by (obtain ⟨e1, e2⟩ := got_no (k := k) (f := f) (b := b) (e := e) (z := (z : Int)) (by rw [hln]; exact hz); rw [e1, e2]; exact ⟨by rw [regE_one hz]; try rfl, rfl⟩)
         assumption)
      | (suffices hz : regE n f b e = 0 ∧ b < (manyS z : Int) by (obtain ⟨e1, e2⟩ := got_18 (k := k) (f := f) (b := b) (e := e) (by rw [hln]; exact hz.1) (getOk_small (z := z) (by rw [rdB_len]; omega)); rw [e1, e2]; exact ⟨rfl, rfl⟩)
         exact ⟨by assumption, by omega⟩)
      | (suffices hz : i < manyS z ∧ ¬ (openOk (k.readS (f + (i : Int))) = true ∧ openE (k.readS (f + (i : Int))) = e ∧ openI (k.readS (f + (i : Int))) = i) by (obtain ⟨e1, e2⟩ := got_18 (k := k) (f := f) (b := b) (e := e) (by rw [hln]; exact hreg) (getOk_bad (z := z) (i := i) hz.1 hbg hz.2); rw [e1, e2]; exact ⟨rfl, rfl⟩)
         exact ⟨by omega, by rintro ⟨x1, x2, x3⟩; first | omega | simp_all⟩)
      | (suffices hz : i = manyS z ∧ ¬ trimL (trimR (((catD ((rdB k f b.toNat).take i))).drop z)) = [] by (obtain ⟨e1, e2⟩ := got_18 (k := k) (f := f) (b := b) (e := e) (by rw [hln]; exact hreg) (getOk_rest (z := z) (fun x => hz.2 ((trim_nil _).2 (by rw [hz.1]; exact x)))); rw [e1, e2]; exact ⟨rfl, rfl⟩)
         exact ⟨by omega, by assumption⟩)
      | (suffices hz : i = manyS z ∧ trimL (trimR (((catD ((rdB k f b.toNat).take i))).drop z)) = [] by (obtain ⟨e1, e2⟩ := got_0 (k := k) (f := f) (b := b) (e := e) (z := z) (by rw [hln]; exact hreg) (by omega) (by rw [← hz.1]; exact hok) ((trim_nil _).1 (by rw [← hz.1]; exact hz.2)); rw [e1, e2]; exact ⟨by rw [hz.1], rfl⟩)
         exact ⟨by omega, by first | assumption | exact Classical.not_not.1 (by assumption)⟩)
  refine G_skip ?_
  refine G_seq ?_
  refine G_region (l := [0, 1, 2, 3, 4]) rfl ?_
  refine G_val rfl rfl rfl rfl (V_move rfl rfl) ?_
  refine G_val rfl rfl rfl rfl (V_move rfl rfl) ?_
  first
    | refine G_val rfl rfl rfl rfl (V_ssliceHN (hi := _) rfl Tryd.underlying9 rfl rfl rfl (by first | omega | (simp [wCells, kCells]; done) | (simp [wCells, kCells]; omega) | (simp [wCells, kCells] at *; omega))) ?_
    | refine G_val rfl rfl rfl rfl (V_ssliceH rfl Tryd.underlying9 rfl rfl (by first | omega | (simp [wCells, kCells]; done) | (simp [wCells, kCells]; omega) | (simp [wCells, kCells] at *; omega)) (by first | omega | (simp [wCells, kCells]; done) | (simp [wCells, kCells]; omega) | (simp [wCells, kCells] at *; omega))) ?_
  refine G_val rfl rfl rfl rfl (V_assign rfl rfl) ?_
  refine G_val rfl rfl rfl rfl (V_assign rfl rfl) ?_
  refine G_done ?_
  refine G_ret (post := []) Tryd.func21 rfl (RVs_cons (RV_tmp rfl) (RVs_cons (RV_tmp rfl) RVs_nil)) [] rfl ?_
  dsimp only [packed]
  first
    | (suffices hz : ¬ regE n f b e = 0 by (obtain ⟨e1, e2⟩ := got_no (k := k) (f := f) (b := b) (e := e) (z := (z : Int)) (by rw [hln]; exact hz); rw [e1, e2]; exact ⟨by rw [regE_one hz]; try rfl, rfl⟩)
       assumption)
    | (suffices hz : regE n f b e = 0 ∧ b < (manyS z : Int) by (obtain ⟨e1, e2⟩ := got_18 (k := k) (f := f) (b := b) (e := e) (by rw [hln]; exact hz.1) (getOk_small (z := z) (by rw [rdB_len]; omega)); rw [e1, e2]; exact ⟨rfl, rfl⟩)
       exact ⟨by assumption, by omega⟩)
    | (suffices hz : i < manyS z ∧ ¬ (openOk (k.readS (f + (i : Int))) = true ∧ openE (k.readS (f + (i : Int))) = e ∧ openI (k.readS (f + (i : Int))) = i) by (obtain ⟨e1, e2⟩ := got_18 (k := k) (f := f) (b := b) (e := e) (by rw [hln]; exact hreg) (getOk_bad (z := z) (i := i) hz.1 hbg hz.2); rw [e1, e2]; exact ⟨rfl, rfl⟩)
       exact ⟨by omega, by rintro ⟨x1, x2, x3⟩; first | omega | simp_all⟩)
    | (suffices hz : i = manyS z ∧ ¬ trimL (trimR (((catD ((rdB k f b.toNat).take i))).drop z)) = [] by (obtain ⟨e1, e2⟩ := got_18 (k := k) (f := f) (b := b) (e := e) (by rw [hln]; exact hreg) (getOk_rest (z := z) (fun x => hz.2 ((trim_nil _).2 (by rw [hz.1]; exact x)))); rw [e1, e2]; exact ⟨rfl, rfl⟩)
       exact ⟨by omega, by assumption⟩)
    | (suffices hz : i = manyS z ∧ trimL (trimR (((catD ((rdB k f b.toNat).take i))).drop z)) = [] by (obtain ⟨e1, e2⟩ := got_0 (k := k) (f := f) (b := b) (e := e) (z := z) (by rw [hln]; exact hreg) (by omega) (by rw [← hz.1]; exact hok) ((trim_nil _).1 (by rw [← hz.1]; exact hz.2)); rw [e1, e2]; exact ⟨by rw [hz.1], rfl⟩)
       exact ⟨by omega, by first | assumption | exact Classical.not_not.1 (by assumption)⟩)

set_option maxRecDepth 100000 in
set_option maxHeartbeats 1000000 in
theorem sn_get_neg (d n lb lcap : Nat) (lcs : Array Value) (uw : Sl) (k : Dk) (h : DkAt k n lb lcs lcap uw) (f b : Int) (e : Nat) (hf0 : -9223372036854775808 ≤ f) (hf1 : f ≤ 9223372036854775807) (hb0 : -9223372036854775808 ≤ b) (hb1 : b ≤ 9223372036854775807) (he : e < 4294967296) (z : Int) (hzn : z < 0) :
    Ct Tryd.prog 21 [.pointer (some ⟨d, 0, none⟩), .int .i64 f, .int .i64 b, .int .u32 (e : Int), .int .i64 z] [(some d, .cells #[.slice (some ⟨lb, 0, none⟩) n lcap, uw.v k.W.length, .int .i64 k.fuse, .bool k.dead] 110 (0, 0)), (some lb, .cells lcs 9 (0, 0)), (uw.ob, .cells uw.cs 116 uw.fz)] [] fun v post => v = .tuple #[.string (bs (gotT k f b e z)), .int .i64 (gotE k f b e z)] ∧ post = [] := by
 have hq := h.bd
 have hq1 := hq.n1
 have hq2 := hq.n4
 have hq3 := hq.ncs
 have hq4 := hq.ncap
 have hq5 := hq.cap
 have hq6 := hq.w
 have hq7 := hq.wc
 have hln := h.len
 refine ct_of Tryd.func21 rfl rfl (fun w0 => ?_)
 show G _ _ [(0, _), (1, _), (2, _), (3, _), (4, _)] _ _
 refine G_seq ?_
 refine G_region (l := [0, 1]) rfl ?_
 refine G_val rfl rfl rfl rfl (V_assign rfl rfl) ?_
 refine G_val rfl rfl rfl rfl (V_assign rfl rfl) ?_
 refine G_done ?_
 refine G_seq ?_
 refine G_seq ?_
 refine G_region (l := [0, 1, 2, 3, 4, 5]) rfl ?_
 refine G_val rfl rfl rfl rfl (V_move rfl rfl) ?_
 refine G_val rfl rfl rfl rfl (V_move rfl rfl) ?_
 refine G_val rfl rfl rfl rfl (V_move rfl rfl) ?_
 refine G_val rfl rfl rfl rfl (V_move rfl rfl) ?_
 refine G_call (L2 := []) rfl rfl rfl rfl rfl rfl Tryd.call67 (sn_check d n lb lcap lcs uw k h f b e hf0 hf1 hb0 hb1 he) [] [0] rfl rfl ?_
 rintro v post ⟨rfl, rfl⟩
 refine G_val rfl rfl rfl rfl (V_assign rfl rfl) ?_
 refine G_done ?_
 refine G_seq ?_
 refine G_region (l := [0, 1]) rfl ?_
 refine G_val rfl rfl rfl rfl (V_move rfl rfl) ?_
 refine G_val rfl rfl rfl rfl (V_neq rfl rfl rfl) ?_
 refine G_done ?_
 refine G_ifD rfl (fun hc1 => ?_) (fun hc1 => ?_)
 · skip
   refine G_seq ?_
   refine G_region (l := [0, 1, 2]) rfl ?_
   refine G_val rfl rfl rfl rfl (V_move rfl rfl) ?_
   refine G_val rfl rfl rfl rfl (V_assign rfl rfl) ?_
   refine G_val rfl rfl rfl rfl (V_assign rfl rfl) ?_
   refine G_done ?_
   refine G_ret (post := []) Tryd.func21 rfl (RVs_cons (RV_tmp rfl) (RVs_cons (RV_tmp rfl) RVs_nil)) [] rfl ?_
   dsimp only [packed]
   first
     | (suffices hz : ¬ regE n f b e = 0 by (obtain ⟨e1, e2⟩ := got_no (k := k) (f := f) (b := b) (e := e) (z := z) (by rw [hln]; exact hz); rw [e1, e2]; exact ⟨by rw [regE_one hz]; try rfl, rfl⟩)
        assumption)
     | (suffices hz : regE n f b e = 0 by (obtain ⟨e1, e2⟩ := got_18 (k := k) (f := f) (b := b) (e := e) (by rw [hln]; exact hz) (getOk_neg (by omega)); rw [e1, e2]; exact ⟨rfl, rfl⟩)
        assumption)
 refine G_skip ?_
 refine G_seq ?_
 refine G_seq ?_
 have hreg : regE n f b e = 0 := by omega
 refine G_region (l := [0, 1, 2, 3, 4, 5, 6, 7]) rfl ?_
 refine G_val rfl rfl rfl rfl (V_move rfl rfl) ?_
 refine G_val rfl rfl rfl rfl (V_lss rfl rfl rfl) ?_
 refine G_val rfl rfl rfl rfl (V_move rfl rfl) ?_
 refine G_splitD 32 rfl (fun hc2 => ?_) (fun hc2 => ?_)
 rotate_left
 · (first | (exact absurd rfl hc2) | (exact absurd hc2 (by decide)) | (exact absurd (by decide) hc2) | (exfalso; omega))
 refine G_off rfl rfl rfl rfl ?_
 refine G_off rfl rfl rfl rfl ?_
 refine G_off rfl rfl rfl rfl ?_
 refine G_off rfl rfl rfl rfl ?_
 refine G_val rfl rfl rfl rfl (V_pickT rfl rfl rfl) ?_
 refine G_done ?_
 refine G_then rfl ?_
 refine G_seq ?_
 refine G_region (l := [0, 1]) rfl ?_
 refine G_val rfl rfl rfl rfl (V_assign rfl rfl) ?_
 refine G_val rfl rfl rfl rfl (V_assign rfl rfl) ?_
 refine G_done ?_
 refine G_ret (post := []) Tryd.func21 rfl (RVs_cons (RV_tmp rfl) (RVs_cons (RV_tmp rfl) RVs_nil)) [] rfl ?_
 dsimp only [packed]
 first
   | (suffices hz : ¬ regE n f b e = 0 by (obtain ⟨e1, e2⟩ := got_no (k := k) (f := f) (b := b) (e := e) (z := z) (by rw [hln]; exact hz); rw [e1, e2]; exact ⟨by rw [regE_one hz]; try rfl, rfl⟩)
      assumption)
   | (suffices hz : regE n f b e = 0 by (obtain ⟨e1, e2⟩ := got_18 (k := k) (f := f) (b := b) (e := e) (by rw [hln]; exact hz) (getOk_neg (by omega)); rw [e1, e2]; exact ⟨rfl, rfl⟩)
      assumption)


theorem sn_get (d n lb lcap : Nat) (lcs : Array Value) (uw : Sl) (k : Dk) (h : DkAt k n lb lcs lcap uw) (f b : Int) (e : Nat) (hf0 : -9223372036854775808 ≤ f) (hf1 : f ≤ 9223372036854775807) (hb0 : -9223372036854775808 ≤ b) (hb1 : b ≤ 9223372036854775807) (he : e < 4294967296) (z : Int) (hz : z ≤ 9223372036854775807) (hd : k.dead = false) : Ct Tryd.prog 21 [.pointer (some ⟨d, 0, none⟩), .int .i64 f, .int .i64 b, .int .u32 (e : Int), .int .i64 z] [(some d, .cells #[.slice (some ⟨lb, 0, none⟩) n lcap, uw.v k.W.length, .int .i64 k.fuse, .bool k.dead] 110 (0, 0)), (some lb, .cells lcs 9 (0, 0)), (uw.ob, .cells uw.cs 116 uw.fz)] [] (fun v post => v = .tuple #[.string (bs (gotT k f b e z)), .int .i64 (gotE k f b e z)] ∧ post = []) := by
  rcases Int.lt_or_le z 0 with h0 | h0
  · exact sn_get_neg d n lb lcap lcs uw k h f b e hf0 hf1 hb0 hb1 he z h0
  · obtain ⟨m, rfl⟩ := Int.eq_ofNat_of_zero_le h0
    exact sn_getN d n lb lcap lcs uw k h f b e hf0 hf1 hb0 hb1 he m (by omega) hd

set_option maxRecDepth 100000 in
set_option maxHeartbeats 1000000 in
theorem sn_get_nil (x y z w : Value) :
    Ct Tryd.prog 21 [.pointer none, x, y, z, w] [] [] fun v post => v = .tuple #[.string (bs []), .int .i64 19] ∧ post = [] := by
 refine ct_of Tryd.func21 rfl rfl (fun w0 => ?_)
 show G _ _ [(0, _), (1, _), (2, _), (3, _), (4, _)] _ _
 refine G_seq ?_
 refine G_region (l := [0, 1]) rfl ?_
 refine G_val rfl rfl rfl rfl (V_assign rfl rfl) ?_
 refine G_val rfl rfl rfl rfl (V_assign rfl rfl) ?_
 refine G_done ?_
 refine G_seq ?_
 refine G_seq ?_
 refine G_region (l := [0, 1, 2, 3, 4, 5]) rfl ?_
 refine G_val rfl rfl rfl rfl (V_move rfl rfl) ?_
 refine G_val rfl rfl rfl rfl (V_move rfl rfl) ?_
 refine G_val rfl rfl rfl rfl (V_move rfl rfl) ?_
 refine G_val rfl rfl rfl rfl (V_move rfl rfl) ?_
 refine G_call (L2 := []) rfl rfl rfl rfl rfl rfl Tryd.call67 (sn_check_nil _ _ _) [] [] rfl rfl ?_
 rintro v post ⟨rfl, rfl⟩
 refine G_val rfl rfl rfl rfl (V_assign rfl rfl) ?_
 refine G_done ?_
 refine G_seq ?_
 refine G_region (l := [0, 1]) rfl ?_
 refine G_val rfl rfl rfl rfl (V_move rfl rfl) ?_
 refine G_val rfl rfl rfl rfl (V_neq rfl rfl rfl) ?_
 refine G_done ?_
 refine G_ifD rfl (fun hc1 => ?_) (fun hc1 => ?_)
 rotate_left
 · (first | (exact absurd rfl hc1) | (exact absurd hc1 (by decide)) | (exact absurd (by decide) hc1) | (exfalso; omega))
 refine G_seq ?_
 refine G_region (l := [0, 1, 2]) rfl ?_
 refine G_val rfl rfl rfl rfl (V_move rfl rfl) ?_
 refine G_val rfl rfl rfl rfl (V_assign rfl rfl) ?_
 refine G_val rfl rfl rfl rfl (V_assign rfl rfl) ?_
 refine G_done ?_
 refine G_ret (post := []) Tryd.func21 rfl (RVs_cons (RV_tmp rfl) (RVs_cons (RV_tmp rfl) RVs_nil)) [] rfl ?_
 dsimp only [packed]
 exact ⟨rfl, rfl⟩

end
end Go.Proofs.YtbblkgdejgoncaaDoor
