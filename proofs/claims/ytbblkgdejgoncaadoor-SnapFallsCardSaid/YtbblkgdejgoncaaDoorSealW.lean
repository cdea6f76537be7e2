/- The walks of layer 23: sealed blocks. -/
import Derived.Test.YtbblkgdejgoncaaDoorGK
import Derived.Test.YtbblkgdejgoncaaDoorG7
import Derived.Test.YtbblkgdejgoncaaDoorOctetFixed2
import Derived.Test.YtbblkgdejgoncaaDoorRNumber
set_option linter.unusedSimpArgs false
set_option linter.unusedVariables false
namespace Go.Proofs.YtbblkgdejgoncaaDoor
open Go Go.RowKit

section
theorem infSealW_5 : Tryd.prog.info? 5 = some Tryd.t5 := by kernel_rfl
theorem infSealW_128 : Tryd.prog.info? 128 = some Tryd.t128 := by kernel_rfl
theorem infSealW_169 : Tryd.prog.info? 169 = some Tryd.t169 := by kernel_rfl
theorem plcSealW_128 : placesOf Tryd.prog (Tryd.prog.fieldsOf 128) = some [(0, 1), (1, 1), (2, 1), (3, 1)] := by kernel_rfl


/-- A seal as bytes. -/
def markL (e i : Nat) : List UInt8 := be 4 e ++ be 4 i
def sealL (e i : Nat) (d : List UInt8) : List UInt8 := if e = 0 ∨ d.length ≠ 48 then [] else be 4 e ++ be 4 i ++ d ++ be 4 e ++ be 4 i
def sealE (e : Nat) (d : List UInt8) : Nat := if e = 0 ∨ d.length ≠ 48 then 1 else 0
def openOk (b : List UInt8) : Bool := if b.length = 64 ∧ b.take 8 = b.drop 56 ∧ num (b.take 4) ≠ 0 then true else false
def openE (b : List UInt8) : Nat := if openOk b then num (b.take 4) else 0
def openI (b : List UInt8) : Nat := if openOk b then num ((b.take 8).drop 4) else 0
def openD (b : List UInt8) : List UInt8 := if openOk b then (b.take 56).drop 8 else []
theorem openE_lt (b : List UInt8) : openE b < 4294967296 := by
  unfold openE
  split
  · have h := num_lt (b.take 4)
    have : (256 : Nat) ^ (b.take 4).length ≤ 256 ^ 4 := Nat.pow_le_pow_right (by omega) (by simp; omega)
    omega
  · omega
theorem openI_lt (b : List UInt8) : openI b < 4294967296 := by
  unfold openI
  split
  · have h := num_lt ((b.take 8).drop 4)
    have : (256 : Nat) ^ ((b.take 8).drop 4).length ≤ 256 ^ 4 := Nat.pow_le_pow_right (by omega) (by simp; omega)
    omega
  · omega
theorem fixed4 (v : Nat) (h : v < 4294967296) : fixed v 4 = (be 4 v, 0) := by
  have : ¬ ((4 : Int) < 1 ∨ 8 < (4 : Int) ∨ 256 ^ (4 : Int).toNat ≤ v) := by
    have : (256 : Nat) ^ (4 : Int).toNat = 4294967296 := by decide
    omega
  unfold fixed
  simp [this, h]
theorem ct_fixed4 (v : Nat) (h : v < 4294967296) : Ct Tryd.prog 82 [.int .u64 (v : Int), .int .i64 4] [] [] (fun v' post => v' = .tuple #[.string (bs (be 4 v)), .int .i64 0] ∧ post = []) :=
  ct_below (fun w => by
    have := fixed_any v 4 w (by unfold U64; omega) (by omega) (by omega)
    rw [fixed4 v h] at this
    exact this)
theorem ct_rfixed4 (v : Nat) (h : v < 4294967296) : Ct Tryd.prog 83 [.int .u64 (v : Int), .int .i64 4] [] [] (fun v' post => v' = .tuple #[.string (bs (be 4 v)), .int .i64 0] ∧ post = []) :=
  ct_below (fun w => by
    have := rfixed_any v 4 w (by unfold U64; omega) (by omega) (by omega)
    rw [fixed4 v h] at this
    exact this)
theorem num4_lt (l : List UInt8) (h : l.length ≤ 4) : num l < 4294967296 := by
  have h1 := num_lt l
  have : (256 : Nat) ^ l.length ≤ 256 ^ 4 := Nat.pow_le_pow_right (by omega) h
  omega
theorem number4 (l : List UInt8) (h : l.length = 4) : number l = (num l, 0) := by
  unfold number
  simp [h]
theorem ct_number4 (l : List UInt8) (h : l.length = 4) : Ct Tryd.prog 58 [.string (bs l)] [] [] (fun v' post => v' = .tuple #[.int .u64 ((num l : Nat) : Int), .int .i64 0] ∧ post = []) :=
  ct_same (fun w => by
    have := number_any (bs l) w (by rw [bs_size]; omega)
    rw [bs_data, number4 l h] at this
    exact this)
theorem ct_rnumber4 (l : List UInt8) (h : l.length = 4) : Ct Tryd.prog 102 [.string (bs l)] [] [] (fun v' post => v' = .tuple #[.int .u64 ((num l : Nat) : Int), .int .i64 0] ∧ post = []) :=
  ct_same (fun w => by
    have := rnumber_any (bs l) w (by rw [bs_size]; omega)
    rw [bs_data, number4 l h] at this
    exact this)
theorem eight_cells (cs : Array Value) (l : List UInt8) (h : l.length = 8) (hc : cs.size = 8) : laid cs 0 (bcells (l.take 8)) = (bcells l).toArray := by
  unfold laid
  have h1 : l.take 8 = l := List.take_of_length_le (by omega)
  rw [h1]
  have h2 : cs.toList.drop (0 + (bcells l).length) = [] := List.drop_eq_nil_of_le (by rw [bcells_length]; simp; omega)
  rw [h2]
  simp

set_option maxRecDepth 100000 in
set_option maxHeartbeats 1000000 in
theorem seal_of (l : List UInt8) (h : l.length = 8) :
    Ct Tryd.prog 99 [.string (bs l)] [] [] fun v post => v = .agg (bcells l).toArray ∧ post = [] := by
 refine ct_of Tryd.func99 rfl rfl (fun w0 => ?_)
 show G _ _ [(0, _)] _ _
 refine G_seq ?_
 refine G_region (l := [0]) rfl ?_
 refine G_new rfl rfl rfl rfl (N_allocA rfl infSealW_169 rfl) (fun b2 => ?_)
 refine G_done ?_
 refine G_seq ?_
 refine G_region (l := [0]) rfl ?_
 refine G_new rfl rfl rfl rfl (N_allocA rfl infSealW_169 rfl) (fun b3 => ?_)
 refine G_done ?_
 refine G_seq ?_
 refine G_region (l := [0, 1, 2]) rfl ?_
 refine G_val rfl rfl rfl rfl (V_aslice rfl Tryd.underlying169 infSealW_5 rfl) ?_
 refine G_val rfl rfl rfl rfl (V_move rfl rfl) ?_
 refine G_putV (l1 := []) (L' := [_, _]) rfl rfl rfl rfl rfl (P_copyS rfl rfl Tryd.underlying27 infSealW_5 rfl rfl rfl (mem_at 0 rfl) (by first | omega | (simp; done) | (simp; omega) | (simp at *; omega))) rfl ?_
 refine G_done ?_
 refine G_seq ?_
 rw [eight_cells _ l h rfl]
 refine G_region (l := [0, 1]) rfl ?_
 first
   | refine G_val rfl rfl rfl rfl (V_loadW (s := 8) rfl rfl (mem_at 0 rfl) Tryd.underlying169 rfl infSealW_169 rfl (by first | rfl | (simp [bcells_length]; done) | (simp [bcells_length]; omega) | (simp [bcells_length, *]; done))) ?_
   | refine G_val rfl rfl rfl rfl (V_loadA (s := 8) rfl rfl (mem_at 0 rfl) Tryd.underlying169 rfl infSealW_169 rfl rfl (by first | rfl | (simp [bcells_length]; done) | (simp [bcells_length]; omega) | (simp [bcells_length, *]; done))) ?_
 refine G_put (l1 := [_]) (L' := [_, _]) rfl rfl rfl rfl (P_storeA (s := 8) rfl rfl rfl (mem_at 1 rfl) (by first | rfl | (simp [bcells_length]; done) | (simp [bcells_length]; omega) | (simp [bcells_length, *]; done)) infSealW_169 rfl (by first | rfl | (simp [bcells_length]; done) | (simp [bcells_length]; omega) | (simp [bcells_length, *]; done)) (by first | rfl | exact bcells_all _ | (simp [Value.oneCell']; done) | (simp [Value.oneCell', *]; done))) rfl ?_
 refine G_done ?_
 refine G_ret (post := []) Tryd.func99 rfl (RVs_cons (RV_cell (s := 8) rfl (mem_at 1 rfl) Tryd.underlying169 rfl infSealW_169 rfl (by first | rfl | (simp [bcells_length]; done) | (simp [bcells_length]; omega) | (simp [bcells_length, *]; done))) RVs_nil) [] rfl ?_
 dsimp only [packed]
 exact ⟨rfl, rfl⟩

set_option maxRecDepth 100000 in
set_option maxHeartbeats 1000000 in
theorem seal_number (b off cap : Nat) (cs : Array Value) (T : TypeId) (l : List UInt8) (h : l.length = 4) (hc : (cs.toList.drop off).take 4 = bcells l) :
    Ct Tryd.prog 100 [.slice (some ⟨b, off, none⟩) 4 cap] [(some b, .cells cs T (0, 0))] [] fun v post => v = .int .u32 ((num l : Nat) : Int) ∧ post = [] := by
 have hn := num4_lt l (by omega)
 refine ct_of Tryd.func100 rfl rfl (fun w0 => ?_)
 show G _ _ [(0, _)] _ _
 refine G_seq ?_
 refine G_region (l := [0]) rfl ?_
 refine G_val rfl rfl rfl rfl (V_assign rfl rfl) ?_
 refine G_done ?_
 refine G_seq ?_
 refine G_region (l := [0, 1, 2, 3, 4, 5, 6, 7]) rfl ?_
 refine G_val rfl rfl rfl rfl (V_move rfl rfl) ?_
 refine G_val rfl rfl rfl rfl (V_bytesS (l := l) rfl rfl Tryd.underlying27 Tryd.underlying5 Tryd.underlying9 (mem_at 0 rfl) h hc) ?_
 refine G_call (L2 := []) rfl rfl rfl rfl rfl rfl Tryd.call58 (ct_number4 _ (by first | omega | (simp; done) | (simp; omega) | (simp at *; omega))) [] [] rfl rfl ?_
 rintro v post ⟨rfl, rfl⟩
 refine G_val rfl rfl rfl rfl (V_move rfl rfl) ?_
 refine G_val rfl rfl rfl rfl (V_extract rfl rfl rfl) ?_
 refine G_val rfl rfl rfl rfl (V_extract rfl rfl rfl) ?_
 refine G_val rfl rfl rfl rfl (V_assign rfl rfl) ?_
 refine G_val rfl rfl rfl rfl (V_assign rfl rfl) ?_
 refine G_done ?_
 refine G_seq ?_
 refine G_region (l := [0, 1, 2]) rfl ?_
 refine G_val rfl rfl rfl rfl (V_move rfl rfl) ?_
 first
   | refine G_val rfl rfl rfl rfl ((V_conv rfl rfl Tryd.underlying103 Tryd.underlying22).int (wrap_u32 (by omega))) ?_
   | refine G_val rfl rfl rfl rfl (V_conv rfl rfl Tryd.underlying103 Tryd.underlying22) ?_
 refine G_val rfl rfl rfl rfl (V_assign rfl rfl) ?_
 refine G_done ?_
 refine G_ret (post := []) Tryd.func100 rfl (RVs_cons (RV_tmp rfl) RVs_nil) [] rfl ?_
 dsimp only [packed]
 exact ⟨rfl, rfl⟩

set_option maxRecDepth 100000 in
set_option maxHeartbeats 1000000 in
theorem seal_seal (e i : Nat) (d : List UInt8) (he : e < 4294967296) (hi : i < 4294967296) (hd : d.length ≤ 9223372036854775000) :
    Ct Tryd.prog 72 [.int .u32 (e : Int), .int .u32 (i : Int), .string (bs d)] [] [] fun v post => v = .tuple #[.string (bs (sealL e i d)), .int .i64 ((sealE e d : Nat) : Int)] ∧ post = [] := by
 have hb1 := be_length 4 e
 have hb2 := be_length 4 i
 refine ct_of Tryd.func72 rfl rfl (fun w0 => ?_)
 show G _ _ [(0, _), (1, _), (2, _)] _ _
 refine G_seq ?_
 refine G_region (l := [0, 1]) rfl ?_
 refine G_val rfl rfl rfl rfl (V_assign rfl rfl) ?_
 refine G_val rfl rfl rfl rfl (V_assign rfl rfl) ?_
 refine G_done ?_
 refine G_seq ?_
 refine G_seq ?_
 refine G_region (l := [0, 1, 2, 3, 4, 5, 6]) rfl ?_
 refine G_val rfl rfl rfl rfl (V_move rfl rfl) ?_
 refine G_val rfl rfl rfl rfl (V_eql rfl rfl rfl) ?_
 refine G_val rfl rfl rfl rfl (V_move rfl rfl) ?_
 refine G_splitD 14 rfl (fun hc1 => ?_) (fun hc1 => ?_)
 · skip
   refine G_off rfl rfl rfl rfl ?_
   refine G_off rfl rfl rfl rfl ?_
   refine G_off rfl rfl rfl rfl ?_
   refine G_val rfl rfl rfl rfl (V_pickT rfl rfl rfl) ?_
   refine G_done ?_
   refine G_then rfl ?_
   refine G_seq ?_
   refine G_region (l := [0, 1]) rfl ?_
   refine G_val rfl rfl rfl rfl (V_assign rfl rfl) ?_
   refine G_val rfl rfl rfl rfl (V_assign rfl rfl) ?_
   refine G_done ?_
   refine G_ret (post := []) Tryd.func72 rfl (RVs_cons (RV_tmp rfl) (RVs_cons (RV_tmp rfl) RVs_nil)) [] rfl ?_
   dsimp only [packed]
   refine ⟨?_, rfl⟩; unfold sealL sealE; first | (rw [if_pos (by omega), if_pos (by omega)]; rfl) | (rw [if_neg (by omega), if_neg (by omega)]; rfl)
 refine G_val rfl rfl rfl rfl (V_move rfl rfl) ?_
 refine G_val rfl rfl rfl rfl (V_slen rfl rfl Tryd.underlying9 rfl) ?_
 refine G_val rfl rfl rfl rfl (V_neq rfl rfl rfl) ?_
 refine G_val rfl rfl rfl rfl (V_pickF rfl rfl rfl) ?_
 refine G_done ?_
 refine G_ifD rfl (fun hc2 => ?_) (fun hc2 => ?_)
 · skip
   refine G_seq ?_
   refine G_region (l := [0, 1]) rfl ?_
   refine G_val rfl rfl rfl rfl (V_assign rfl rfl) ?_
   refine G_val rfl rfl rfl rfl (V_assign rfl rfl) ?_
   refine G_done ?_
   refine G_ret (post := []) Tryd.func72 rfl (RVs_cons (RV_tmp rfl) (RVs_cons (RV_tmp rfl) RVs_nil)) [] rfl ?_
   dsimp only [packed]
   refine ⟨?_, rfl⟩; unfold sealL sealE; first | (rw [if_pos (by omega), if_pos (by omega)]; rfl) | (rw [if_neg (by omega), if_neg (by omega)]; rfl)
 refine G_skip ?_
 refine G_seq ?_
 refine G_region (l := [0, 1, 2, 3, 4, 5, 6, 7]) rfl ?_
 refine G_val rfl rfl rfl rfl (V_move rfl rfl) ?_
 first
   | refine G_val rfl rfl rfl rfl ((V_conv rfl rfl Tryd.underlying22 Tryd.underlying103).int (wrap_u64 (by omega))) ?_
   | refine G_val rfl rfl rfl rfl (V_conv rfl rfl Tryd.underlying22 Tryd.underlying103) ?_
 refine G_call (L2 := []) rfl rfl rfl rfl rfl rfl Tryd.call82 (ct_fixed4 _ (by omega)) [] [] rfl rfl ?_
 rintro v post ⟨rfl, rfl⟩
 refine G_val rfl rfl rfl rfl (V_move rfl rfl) ?_
 refine G_val rfl rfl rfl rfl (V_extract rfl rfl rfl) ?_
 refine G_val rfl rfl rfl rfl (V_extract rfl rfl rfl) ?_
 refine G_val rfl rfl rfl rfl (V_assign rfl rfl) ?_
 refine G_val rfl rfl rfl rfl (V_assign rfl rfl) ?_
 refine G_done ?_
 refine G_seq ?_
 refine G_region (l := [0, 1, 2, 3, 4, 5, 6, 7]) rfl ?_
 refine G_val rfl rfl rfl rfl (V_move rfl rfl) ?_
 first
   | refine G_val rfl rfl rfl rfl ((V_conv rfl rfl Tryd.underlying22 Tryd.underlying103).int (wrap_u64 (by omega))) ?_
   | refine G_val rfl rfl rfl rfl (V_conv rfl rfl Tryd.underlying22 Tryd.underlying103) ?_
 refine G_call (L2 := []) rfl rfl rfl rfl rfl rfl Tryd.call82 (ct_fixed4 _ (by omega)) [] [] rfl rfl ?_
 rintro v post ⟨rfl, rfl⟩
 refine G_val rfl rfl rfl rfl (V_move rfl rfl) ?_
 refine G_val rfl rfl rfl rfl (V_extract rfl rfl rfl) ?_
 refine G_val rfl rfl rfl rfl (V_extract rfl rfl rfl) ?_
 refine G_val rfl rfl rfl rfl (V_assign rfl rfl) ?_
 refine G_val rfl rfl rfl rfl (V_assign rfl rfl) ?_
 refine G_done ?_
 refine G_seq ?_
 refine G_region (l := [0, 1, 2, 3, 4, 5, 6, 7, 8, 9, 10]) rfl ?_
 refine G_val rfl rfl rfl rfl (V_move rfl rfl) ?_
 refine G_val rfl rfl rfl rfl (V_move rfl rfl) ?_
 refine G_val rfl rfl rfl rfl (V_sadd rfl rfl rfl (by first | omega | (simp; done) | (simp; omega) | (simp at *; omega))) ?_
 refine G_val rfl rfl rfl rfl (V_move rfl rfl) ?_
 refine G_val rfl rfl rfl rfl (V_sadd rfl rfl rfl (by first | omega | (simp; done) | (simp; omega) | (simp at *; omega))) ?_
 refine G_val rfl rfl rfl rfl (V_move rfl rfl) ?_
 refine G_val rfl rfl rfl rfl (V_sadd rfl rfl rfl (by first | omega | (simp; done) | (simp; omega) | (simp at *; omega))) ?_
 refine G_val rfl rfl rfl rfl (V_move rfl rfl) ?_
 refine G_val rfl rfl rfl rfl (V_sadd rfl rfl rfl (by first | omega | (simp; done) | (simp; omega) | (simp at *; omega))) ?_
 refine G_val rfl rfl rfl rfl (V_assign rfl rfl) ?_
 refine G_val rfl rfl rfl rfl (V_assign rfl rfl) ?_
 refine G_done ?_
 refine G_ret (post := []) Tryd.func72 rfl (RVs_cons (RV_tmp rfl) (RVs_cons (RV_tmp rfl) RVs_nil)) [] rfl ?_
 dsimp only [packed]
 refine ⟨?_, rfl⟩; unfold sealL sealE; first | (rw [if_pos (by omega), if_pos (by omega)]; rfl) | (rw [if_neg (by omega), if_neg (by omega)]; rfl)

set_option maxRecDepth 100000 in
set_option maxHeartbeats 1000000 in
theorem rseal_mark (e i : Nat) (he : e < 4294967296) (hi : i < 4294967296) :
    Ct Tryd.prog 97 [.int .u32 (e : Int), .int .u32 (i : Int)] [] [] fun v post => v = .string (bs (be 4 e ++ be 4 i)) ∧ post = [] := by
 have hb1 := be_length 4 e
 have hb2 := be_length 4 i
 refine ct_of Tryd.func97 rfl rfl (fun w0 => ?_)
 show G _ _ [(0, _), (1, _)] _ _
 refine G_seq ?_
 refine G_region (l := [0]) rfl ?_
 refine G_val rfl rfl rfl rfl (V_assign rfl rfl) ?_
 refine G_done ?_
 refine G_seq ?_
 refine G_region (l := [0, 1, 2, 3, 4, 5, 6, 7]) rfl ?_
 refine G_val rfl rfl rfl rfl (V_move rfl rfl) ?_
 first
   | refine G_val rfl rfl rfl rfl ((V_conv rfl rfl Tryd.underlying22 Tryd.underlying103).int (wrap_u64 (by omega))) ?_
   | refine G_val rfl rfl rfl rfl (V_conv rfl rfl Tryd.underlying22 Tryd.underlying103) ?_
 refine G_call (L2 := []) rfl rfl rfl rfl rfl rfl Tryd.call83 (ct_rfixed4 _ (by omega)) [] [] rfl rfl ?_
 rintro v post ⟨rfl, rfl⟩
 refine G_val rfl rfl rfl rfl (V_move rfl rfl) ?_
 refine G_val rfl rfl rfl rfl (V_extract rfl rfl rfl) ?_
 refine G_val rfl rfl rfl rfl (V_extract rfl rfl rfl) ?_
 refine G_val rfl rfl rfl rfl (V_assign rfl rfl) ?_
 refine G_val rfl rfl rfl rfl (V_assign rfl rfl) ?_
 refine G_done ?_
 refine G_seq ?_
 refine G_region (l := [0, 1, 2, 3, 4, 5, 6, 7]) rfl ?_
 refine G_val rfl rfl rfl rfl (V_move rfl rfl) ?_
 first
   | refine G_val rfl rfl rfl rfl ((V_conv rfl rfl Tryd.underlying22 Tryd.underlying103).int (wrap_u64 (by omega))) ?_
   | refine G_val rfl rfl rfl rfl (V_conv rfl rfl Tryd.underlying22 Tryd.underlying103) ?_
 refine G_call (L2 := []) rfl rfl rfl rfl rfl rfl Tryd.call83 (ct_rfixed4 _ (by omega)) [] [] rfl rfl ?_
 rintro v post ⟨rfl, rfl⟩
 refine G_val rfl rfl rfl rfl (V_move rfl rfl) ?_
 refine G_val rfl rfl rfl rfl (V_extract rfl rfl rfl) ?_
 refine G_val rfl rfl rfl rfl (V_extract rfl rfl rfl) ?_
 refine G_val rfl rfl rfl rfl (V_assign rfl rfl) ?_
 refine G_val rfl rfl rfl rfl (V_assign rfl rfl) ?_
 refine G_done ?_
 refine G_seq ?_
 refine G_region (l := [0, 1, 2, 3]) rfl ?_
 refine G_val rfl rfl rfl rfl (V_move rfl rfl) ?_
 refine G_val rfl rfl rfl rfl (V_move rfl rfl) ?_
 refine G_val rfl rfl rfl rfl (V_sadd rfl rfl rfl (by first | omega | (simp; done) | (simp; omega) | (simp at *; omega))) ?_
 refine G_val rfl rfl rfl rfl (V_assign rfl rfl) ?_
 refine G_done ?_
 refine G_ret (post := []) Tryd.func97 rfl (RVs_cons (RV_tmp rfl) RVs_nil) [] rfl ?_
 dsimp only [packed]
 exact ⟨rfl, rfl⟩

set_option maxRecDepth 100000 in
set_option maxHeartbeats 1000000 in
theorem rseal_seal (e i : Nat) (d : List UInt8) (he : e < 4294967296) (hi : i < 4294967296) (hd : d.length ≤ 9223372036854775000) :
    Ct Tryd.prog 62 [.int .u32 (e : Int), .int .u32 (i : Int), .string (bs d)] [] [] fun v post => v = .tuple #[.string (bs (sealL e i d)), .int .i64 ((sealE e d : Nat) : Int)] ∧ post = [] := by
 have hb1 := be_length 4 e
 have hb2 := be_length 4 i
 refine ct_of Tryd.func62 rfl rfl (fun w0 => ?_)
 show G _ _ [(0, _), (1, _), (2, _)] _ _
 refine G_seq ?_
 refine G_region (l := [0, 1]) rfl ?_
 refine G_val rfl rfl rfl rfl (V_assign rfl rfl) ?_
 refine G_val rfl rfl rfl rfl (V_assign rfl rfl) ?_
 refine G_done ?_
 refine G_seq ?_
 refine G_seq ?_
 refine G_region (l := [0, 1, 2, 3, 4, 5, 6]) rfl ?_
 refine G_val rfl rfl rfl rfl (V_move rfl rfl) ?_
 refine G_val rfl rfl rfl rfl (V_eql rfl rfl rfl) ?_
 refine G_val rfl rfl rfl rfl (V_move rfl rfl) ?_
 refine G_splitD 10 rfl (fun hc1 => ?_) (fun hc1 => ?_)
 · skip
   refine G_off rfl rfl rfl rfl ?_
   refine G_off rfl rfl rfl rfl ?_
   refine G_off rfl rfl rfl rfl ?_
   refine G_val rfl rfl rfl rfl (V_pickT rfl rfl rfl) ?_
   refine G_done ?_
   refine G_then rfl ?_
   refine G_seq ?_
   refine G_region (l := [0, 1]) rfl ?_
   refine G_val rfl rfl rfl rfl (V_assign rfl rfl) ?_
   refine G_val rfl rfl rfl rfl (V_assign rfl rfl) ?_
   refine G_done ?_
   refine G_ret (post := []) Tryd.func62 rfl (RVs_cons (RV_tmp rfl) (RVs_cons (RV_tmp rfl) RVs_nil)) [] rfl ?_
   dsimp only [packed]
   refine ⟨?_, rfl⟩; unfold sealL sealE; first | (rw [if_pos (by omega), if_pos (by omega)]; rfl) | (rw [if_neg (by omega), if_neg (by omega)]; simp only [List.append_assoc]; rfl)
 refine G_val rfl rfl rfl rfl (V_move rfl rfl) ?_
 refine G_val rfl rfl rfl rfl (V_slen rfl rfl Tryd.underlying9 rfl) ?_
 refine G_val rfl rfl rfl rfl (V_neq rfl rfl rfl) ?_
 refine G_val rfl rfl rfl rfl (V_pickF rfl rfl rfl) ?_
 refine G_done ?_
 refine G_ifD rfl (fun hc2 => ?_) (fun hc2 => ?_)
 · skip
   refine G_seq ?_
   refine G_region (l := [0, 1]) rfl ?_
   refine G_val rfl rfl rfl rfl (V_assign rfl rfl) ?_
   refine G_val rfl rfl rfl rfl (V_assign rfl rfl) ?_
   refine G_done ?_
   refine G_ret (post := []) Tryd.func62 rfl (RVs_cons (RV_tmp rfl) (RVs_cons (RV_tmp rfl) RVs_nil)) [] rfl ?_
   dsimp only [packed]
   refine ⟨?_, rfl⟩; unfold sealL sealE; first | (rw [if_pos (by omega), if_pos (by omega)]; rfl) | (rw [if_neg (by omega), if_neg (by omega)]; simp only [List.append_assoc]; rfl)
 refine G_skip ?_
 refine G_seq ?_
 refine G_region (l := [0, 1, 2, 3, 4, 5, 6, 7, 8, 9, 10]) rfl ?_
 refine G_val rfl rfl rfl rfl (V_move rfl rfl) ?_
 refine G_val rfl rfl rfl rfl (V_move rfl rfl) ?_
 refine G_call (L2 := []) rfl rfl rfl rfl rfl rfl Tryd.call97 (rseal_mark _ _ (by omega) (by omega)) [] [] rfl rfl ?_
 rintro v post ⟨rfl, rfl⟩
 refine G_val rfl rfl rfl rfl (V_move rfl rfl) ?_
 refine G_val rfl rfl rfl rfl (V_sadd rfl rfl rfl (by first | omega | (simp; done) | (simp; omega) | (simp at *; omega))) ?_
 refine G_val rfl rfl rfl rfl (V_move rfl rfl) ?_
 refine G_val rfl rfl rfl rfl (V_move rfl rfl) ?_
 refine G_call (L2 := []) rfl rfl rfl rfl rfl rfl Tryd.call97 (rseal_mark _ _ (by omega) (by omega)) [] [] rfl rfl ?_
 rintro v post ⟨rfl, rfl⟩
 refine G_val rfl rfl rfl rfl (V_sadd rfl rfl rfl (by first | omega | (simp; done) | (simp; omega) | (simp at *; omega))) ?_
 refine G_val rfl rfl rfl rfl (V_assign rfl rfl) ?_
 refine G_val rfl rfl rfl rfl (V_assign rfl rfl) ?_
 refine G_done ?_
 refine G_ret (post := []) Tryd.func62 rfl (RVs_cons (RV_tmp rfl) (RVs_cons (RV_tmp rfl) RVs_nil)) [] rfl ?_
 dsimp only [packed]
 refine ⟨?_, rfl⟩; unfold sealL sealE; first | (rw [if_pos (by omega), if_pos (by omega)]; rfl) | (rw [if_neg (by omega), if_neg (by omega)]; simp only [List.append_assoc]; rfl)


def openT (b : List UInt8) : Value := .tuple #[.int .u32 ((openE b : Nat) : Int), .int .u32 ((openI b : Nat) : Int), .string (bs (openD b)), .bool (openOk b)]
theorem open_not {b : List UInt8} (h : openOk b = false) : openT b = .tuple #[.int .u32 0, .int .u32 0, .string (bs []), .bool false] := by
  unfold openT openE openI openD
  simp [h]
theorem open_len {b : List UInt8} (h : ¬ (b.length : Int) = 64) : openOk b = false := by
  unfold openOk; simp; omega
theorem open_neq {b : List UInt8} (h : ¬ b.take 8 = b.drop 56) : openOk b = false := by
  unfold openOk; simp [h]
theorem open_zero {b : List UInt8} (h : ((num (b.take 4) : Nat) : Int) = 0) : openOk b = false := by
  unfold openOk
  have : num (b.take 4) = 0 := by omega
  simp [this]
theorem open_ok {b : List UInt8} (h1 : (b.length : Int) = 64) (h2 : b.take 8 = b.drop 56) (h3 : ¬ ((num (b.take 4) : Nat) : Int) = 0) : openOk b = true := by
  unfold openOk
  have : ¬ num (b.take 4) = 0 := by omega
  simp [this, h2]; omega
theorem open_yes {b : List UInt8} (h : openOk b = true) : openT b = .tuple #[.int .u32 ((num (b.take 4) : Nat) : Int), .int .u32 ((num ((b.take 8).drop 4) : Nat) : Int), .string (bs ((b.take 56).drop 8)), .bool true] := by
  unfold openT openE openI openD
  simp [h]
def openA (b : List UInt8) : Value := .agg #[.int .u32 ((openE b : Nat) : Int), .int .u32 ((openI b : Nat) : Int), .string (bs (openD b)), .bool (openOk b)]
theorem openA_not {b : List UInt8} (h : openOk b = false) : openA b = .agg #[.int .u32 0, .int .u32 0, .string (bs []), .bool false] := by
  unfold openA openE openI openD
  simp [h]
theorem openA_yes {b : List UInt8} (h : openOk b = true) : openA b = .agg #[.int .u32 ((num (b.take 4) : Nat) : Int), .int .u32 ((num ((b.take 8).drop 4) : Nat) : Int), .string (bs ((b.take 56).drop 8)), .bool true] := by
  unfold openA openE openI openD
  simp [h]
theorem take4 (b : List UInt8) : ((bcells (b.take 8)).toArray.toList.drop 0).take 4 = bcells (b.take 4) := by simp [bcells_take, List.take_take]
theorem drop4 (b : List UInt8) (h : b.length = 64) : ((bcells (b.take 8)).toArray.toList.drop 4).take 4 = bcells ((b.take 8).drop 4) := by
  simp only [bcells_take, bcells_drop]
  rw [List.take_of_length_le (by simp; omega)]
theorem key8 (l : List UInt8) (h : l.length = 8) : Tryd.prog.keyLits 2 169 (bcells l).toArray.toList = some (l.map fun c => .int .u8 (c.toNat : Int)) :=
  keyLits_bytes (D := 0) Tryd.underlying169 Tryd.underlying5 (by kernel_rfl) (by kernel_rfl) l h

set_option maxRecDepth 100000 in
set_option maxHeartbeats 1000000 in
theorem seal_open (b : List UInt8) (hb : b.length ≤ 9223372036854775807) :
    Ct Tryd.prog 68 [.string (bs b)] [] [] fun v post => v = openT b ∧ post = [] := by
 refine ct_of Tryd.func68 rfl rfl (fun w0 => ?_)
 show G _ _ [(0, _)] _ _
 refine G_seq ?_
 refine G_region (l := [0, 1, 2, 3]) rfl ?_
 refine G_val rfl rfl rfl rfl (V_assign rfl rfl) ?_
 refine G_val rfl rfl rfl rfl (V_assign rfl rfl) ?_
 refine G_val rfl rfl rfl rfl (V_assign rfl rfl) ?_
 refine G_val rfl rfl rfl rfl (V_assign rfl rfl) ?_
 refine G_done ?_
 refine G_seq ?_
 refine G_seq ?_
 refine G_region (l := [0, 1, 2]) rfl ?_
 refine G_val rfl rfl rfl rfl (V_move rfl rfl) ?_
 refine G_val rfl rfl rfl rfl (V_slen rfl rfl Tryd.underlying9 rfl) ?_
 refine G_val rfl rfl rfl rfl (V_neq rfl rfl rfl) ?_
 refine G_done ?_
 refine G_ifD rfl (fun hc1 => ?_) (fun hc1 => ?_)
 · skip
   refine G_seq ?_
   refine G_region (l := [0, 1, 2, 3]) rfl ?_
   refine G_val rfl rfl rfl rfl (V_assign rfl rfl) ?_
   refine G_val rfl rfl rfl rfl (V_assign rfl rfl) ?_
   refine G_val rfl rfl rfl rfl (V_assign rfl rfl) ?_
   refine G_val rfl rfl rfl rfl (V_assign rfl rfl) ?_
   refine G_done ?_
   refine G_ret (post := []) Tryd.func68 rfl (RVs_cons (RV_tmp rfl) (RVs_cons (RV_tmp rfl) (RVs_cons (RV_tmp rfl) (RVs_cons (RV_tmp rfl) RVs_nil)))) [] rfl ?_
   dsimp only [packed]
   first
     | exact ⟨(open_not (open_len (by omega))).symm, rfl⟩
     | exact ⟨(open_not (open_neq (fun h => absurd h (by assumption)))).symm, rfl⟩
     | exact ⟨(open_not (open_neq (fun h => absurd (congrArg _ h) (by assumption)))).symm, rfl⟩
     | exact ⟨(open_not (open_zero (by assumption))).symm, rfl⟩
     | exact ⟨(open_yes (open_ok (by omega) (lits_bytes_inj (by first | assumption | exact Classical.not_not.1 (by assumption))) (by assumption))).symm, rfl⟩
     | exact ⟨(open_yes (open_ok (by omega) (by first | assumption | exact Classical.not_not.1 (by assumption)) (by assumption))).symm, rfl⟩
 refine G_skip ?_
 refine G_seq ?_
 refine G_region (l := [0]) rfl ?_
 refine G_val rfl rfl rfl rfl (V_assign rfl rfl) ?_
 refine G_done ?_
 refine G_seq ?_
 refine GH_start (Lq := []) (isq := []) (m := 11) mixedK rfl rfl ?_
 refine GH_take 0 rfl rfl rfl rfl (by kernel_rfl) (by kernel_rfl) (by kernel_rfl) (fun _ _ => (V_move rfl rfl)) ?_
 first
   | refine GH_take 1 rfl rfl rfl rfl (by kernel_rfl) (by kernel_rfl) (by kernel_rfl) (fun _ _ => (V_ssliceHN (hi := 8) rfl Tryd.underlying9 rfl rfl rfl (by first | omega | (simp; done) | (simp; omega) | (simp at *; omega)))) ?_
   | refine GH_take 1 rfl rfl rfl rfl (by kernel_rfl) (by kernel_rfl) (by kernel_rfl) (fun _ _ => (V_ssliceH rfl Tryd.underlying9 rfl rfl (by first | omega | (simp; done) | (simp; omega) | (simp at *; omega)) (by first | omega | (simp; done) | (simp; omega) | (simp at *; omega)))) ?_
 refine GH_take 3 rfl rfl rfl rfl (by kernel_rfl) (by kernel_rfl) (by kernel_rfl) (fun _ _ => (V_move rfl rfl)) ?_
 refine GH_take 4 rfl rfl rfl rfl (by kernel_rfl) (by kernel_rfl) (by kernel_rfl) (fun _ _ => (V_move rfl rfl)) ?_
 first
   | refine GH_take 5 rfl rfl rfl rfl (by kernel_rfl) (by kernel_rfl) (by kernel_rfl) (fun _ _ => (V_ssliceLN (lo := _) rfl Tryd.underlying9 rfl rfl rfl (by first | omega | (simp; done) | (simp; omega) | (simp at *; omega)))) ?_
   | refine GH_take 5 rfl rfl rfl rfl (by kernel_rfl) (by kernel_rfl) (by kernel_rfl) (fun _ _ => (V_ssliceL rfl Tryd.underlying9 rfl rfl (by first | omega | (simp; done) | (simp; omega) | (simp at *; omega)) (by first | omega | (simp; done) | (simp; omega) | (simp at *; omega)))) ?_
 refine GH_all [2, 7, 8] (by kernel_rfl) (by decide) ?_
 refine (And.intro ?_ (And.intro ?_ (And.intro ?_ trivial)))
 · skip
   refine GHop_call (L2 := []) rfl rfl rfl rfl rfl rfl Tryd.call99 (seal_of _ (by simp; omega)) [] [] rfl rfl [] (by rintro v post ⟨rfl, rfl⟩; exact ⟨_, rfl⟩) ?_
   rintro v post ⟨rfl, rfl⟩
   refine GH_all [6, 7, 8] (by kernel_rfl) (by decide) ?_
   refine (And.intro ?_ (And.intro ?_ (And.intro ?_ trivial)))
   · skip
     refine GHop_call (L2 := []) rfl rfl rfl rfl rfl rfl Tryd.call99 (seal_of _ (by simp; omega)) [] [] rfl rfl [] (by rintro v post ⟨rfl, rfl⟩; exact ⟨_, rfl⟩) ?_
     rintro v post ⟨rfl, rfl⟩
     refine GH_all [7, 8] (by kernel_rfl) (by decide) ?_
     refine (And.intro ?_ (And.intro ?_ trivial))
     · skip
       refine GHop_new rfl rfl rfl rfl (N_allocA rfl infSealW_169 rfl) [] (fun _ => ⟨_, rfl⟩) (fun b7 => ?_)
       refine GH_all [8] (by kernel_rfl) (by decide) ?_
       refine (And.intro ?_ trivial)
       · skip
         refine GHop_new rfl rfl rfl rfl (N_allocA rfl infSealW_169 rfl) [] (fun _ => ⟨_, rfl⟩) (fun b8 => ?_)
         refine GH_all [9] (by kernel_rfl) (by decide) ?_
         refine (And.intro ?_ trivial)
         · skip
           refine GHop_put (l1 := [_]) (L' := [_, _]) rfl rfl rfl rfl (P_storeA (s := 8) rfl rfl rfl (mem_at 1 rfl) (by first | rfl | (simp [bcells_length]; done) | (simp [bcells_length]; omega) | (simp [bcells_length, *]; done)) infSealW_169 rfl (by first | rfl | (simp [bcells_length]; done) | (simp [bcells_length]; omega) | (simp [bcells_length, *]; done)) (by first | rfl | exact bcells_all _ | (simp [Value.oneCell']; done) | (simp [Value.oneCell', *]; done))) rfl [] rfl ?_
           refine GH_all [10] (by kernel_rfl) (by decide) ?_
           refine (And.intro ?_ trivial)
           · skip
             refine GHop_put (l1 := []) (L' := [_, _]) rfl rfl rfl rfl (P_storeA (s := 8) rfl rfl rfl (mem_at 0 rfl) (by first | rfl | (simp [bcells_length]; done) | (simp [bcells_length]; omega) | (simp [bcells_length, *]; done)) infSealW_169 rfl (by first | rfl | (simp [bcells_length]; done) | (simp [bcells_length]; omega) | (simp [bcells_length, *]; done)) (by first | rfl | exact bcells_all _ | (simp [Value.oneCell']; done) | (simp [Value.oneCell', *]; done))) rfl [] rfl ?_
             refine GH_done (by kernel_rfl) ?_
             refine G_seq ?_
             refine G_region (l := [0, 1, 2]) rfl ?_
             refine G_val rfl rfl rfl rfl (V_asliceH (h := 4) rfl Tryd.underlying169 infSealW_5 rfl rfl rfl (by first | omega | (simp; done) | (simp; omega) | (simp at *; omega))) ?_
             refine G_call (L2 := [_, _]) rfl rfl rfl rfl rfl rfl Tryd.call100 (seal_number _ _ _ _ _ (b.take 4) (by simp; omega) (take4 b)) [] [1] rfl rfl ?_
             rintro v post ⟨rfl, rfl⟩
             show G _ _ _ [_, _] _
             refine G_val rfl rfl rfl rfl (V_assign rfl rfl) ?_
             refine G_done ?_
             refine G_seq ?_
             refine G_seq ?_
             refine G_region (l := [0, 1, 2, 3, 4, 5, 6]) rfl ?_
             first
               | refine G_val rfl rfl rfl rfl (V_loadW (s := 8) rfl rfl (mem_at 1 rfl) Tryd.underlying169 rfl infSealW_169 rfl (by first | rfl | (simp [bcells_length]; done) | (simp [bcells_length]; omega) | (simp [bcells_length, *]; done))) ?_
               | refine G_val rfl rfl rfl rfl (V_loadA (s := 8) rfl rfl (mem_at 1 rfl) Tryd.underlying169 rfl infSealW_169 rfl rfl (by first | rfl | (simp [bcells_length]; done) | (simp [bcells_length]; omega) | (simp [bcells_length, *]; done))) ?_
             first
               | refine G_val rfl rfl rfl rfl (V_loadW (s := 8) rfl rfl (mem_at 0 rfl) Tryd.underlying169 rfl infSealW_169 rfl (by first | rfl | (simp [bcells_length]; done) | (simp [bcells_length]; omega) | (simp [bcells_length, *]; done))) ?_
               | refine G_val rfl rfl rfl rfl (V_loadA (s := 8) rfl rfl (mem_at 0 rfl) Tryd.underlying169 rfl infSealW_169 rfl rfl (by first | rfl | (simp [bcells_length]; done) | (simp [bcells_length]; omega) | (simp [bcells_length, *]; done))) ?_
             refine G_val rfl rfl rfl rfl (V_aggneq (m := 6) rfl Tryd.eqGuardType169 (by kernel_rfl) (by decide) (formed_of Tryd.underlying169 rfl (by kernel_rfl : Tryd.prog.cellsOf 169 = 8) (by first | rfl | (simp [bcells_length]; done) | (simp [bcells_length]; omega) | (simp [bcells_length, *]; done))) (formed_of Tryd.underlying169 rfl (by kernel_rfl : Tryd.prog.cellsOf 169 = 8) (by first | rfl | (simp [bcells_length]; done) | (simp [bcells_length]; omega) | (simp [bcells_length, *]; done))) rfl rfl (key8 _ (by simp; omega)) (key8 _ (by simp; omega))) ?_
             refine G_val rfl rfl rfl rfl (V_move rfl rfl) ?_
             refine G_splitD 25 rfl (fun hc2 => ?_) (fun hc2 => ?_)
             · skip
               refine G_off rfl rfl rfl rfl ?_
               refine G_off rfl rfl rfl rfl ?_
               refine G_val rfl rfl rfl rfl (V_pickT rfl rfl rfl) ?_
               refine G_done ?_
               refine G_then rfl ?_
               refine G_seq ?_
               refine G_region (l := [0, 1, 2, 3]) rfl ?_
               refine G_val rfl rfl rfl rfl (V_assign rfl rfl) ?_
               refine G_val rfl rfl rfl rfl (V_assign rfl rfl) ?_
               refine G_val rfl rfl rfl rfl (V_assign rfl rfl) ?_
               refine G_val rfl rfl rfl rfl (V_assign rfl rfl) ?_
               refine G_done ?_
               refine G_ret (post := []) Tryd.func68 rfl (RVs_cons (RV_tmp rfl) (RVs_cons (RV_tmp rfl) (RVs_cons (RV_tmp rfl) (RVs_cons (RV_tmp rfl) RVs_nil)))) [] rfl ?_
               dsimp only [packed]
               first
                 | exact ⟨(open_not (open_len (by omega))).symm, rfl⟩
                 | exact ⟨(open_not (open_neq (fun h => absurd h (by assumption)))).symm, rfl⟩
                 | exact ⟨(open_not (open_neq (fun h => absurd (congrArg _ h) (by assumption)))).symm, rfl⟩
                 | exact ⟨(open_not (open_zero (by assumption))).symm, rfl⟩
                 | exact ⟨(open_yes (open_ok (by omega) (lits_bytes_inj (by first | assumption | exact Classical.not_not.1 (by assumption))) (by assumption))).symm, rfl⟩
                 | exact ⟨(open_yes (open_ok (by omega) (by first | assumption | exact Classical.not_not.1 (by assumption)) (by assumption))).symm, rfl⟩
             refine G_val rfl rfl rfl rfl (V_move rfl rfl) ?_
             refine G_val rfl rfl rfl rfl (V_eql rfl rfl rfl) ?_
             refine G_val rfl rfl rfl rfl (V_pickF rfl rfl rfl) ?_
             refine G_done ?_
             refine G_ifD rfl (fun hc3 => ?_) (fun hc3 => ?_)
             · skip
               refine G_seq ?_
               refine G_region (l := [0, 1, 2, 3]) rfl ?_
               refine G_val rfl rfl rfl rfl (V_assign rfl rfl) ?_
               refine G_val rfl rfl rfl rfl (V_assign rfl rfl) ?_
               refine G_val rfl rfl rfl rfl (V_assign rfl rfl) ?_
               refine G_val rfl rfl rfl rfl (V_assign rfl rfl) ?_
               refine G_done ?_
               refine G_ret (post := []) Tryd.func68 rfl (RVs_cons (RV_tmp rfl) (RVs_cons (RV_tmp rfl) (RVs_cons (RV_tmp rfl) (RVs_cons (RV_tmp rfl) RVs_nil)))) [] rfl ?_
               dsimp only [packed]
               first
                 | exact ⟨(open_not (open_len (by omega))).symm, rfl⟩
                 | exact ⟨(open_not (open_neq (fun h => absurd h (by assumption)))).symm, rfl⟩
                 | exact ⟨(open_not (open_neq (fun h => absurd (congrArg _ h) (by assumption)))).symm, rfl⟩
                 | exact ⟨(open_not (open_zero (by assumption))).symm, rfl⟩
                 | exact ⟨(open_yes (open_ok (by omega) (lits_bytes_inj (by first | assumption | exact Classical.not_not.1 (by assumption))) (by assumption))).symm, rfl⟩
                 | exact ⟨(open_yes (open_ok (by omega) (by first | assumption | exact Classical.not_not.1 (by assumption)) (by assumption))).symm, rfl⟩
             refine G_skip ?_
             refine G_seq ?_
             refine G_draw mixedK (by kernel_rfl) ?_
             refine GQ_val rfl rfl rfl rfl (V_move rfl rfl) ?_
             refine GQ_val rfl rfl rfl rfl (V_asliceL (l := 4) rfl Tryd.underlying169 infSealW_5 rfl rfl rfl rfl (by first | omega | (simp; done) | (simp; omega) | (simp at *; omega)) rfl) ?_
             refine GQ_call rfl rfl rfl rfl rfl rfl Tryd.call100 (seal_number _ _ _ _ _ ((b.take 8).drop 4) (by simp; omega) (drop4 b (by omega))) [1] rfl (fun v post hp => (hp : _ ∧ _).1) ?_
             refine GQ_val rfl rfl rfl rfl (V_move rfl rfl) ?_
             refine GQ_val rfl rfl rfl rfl (V_move rfl rfl) ?_
             first
               | refine GQ_val rfl rfl rfl rfl (V_ssliceN (lo := 8) (hi := _) rfl Tryd.underlying9 rfl rfl rfl rfl rfl (by first | omega | (simp; done) | (simp; omega) | (simp at *; omega)) (by first | omega | (simp; done) | (simp; omega) | (simp at *; omega))) ?_
               | refine GQ_val rfl rfl rfl rfl (V_sslice rfl Tryd.underlying9 rfl rfl rfl (by first | omega | (simp; done) | (simp; omega) | (simp at *; omega)) (by first | omega | (simp; done) | (simp; omega) | (simp at *; omega)) (by first | omega | (simp; done) | (simp; omega) | (simp at *; omega))) ?_
             refine GQ_val rfl rfl rfl rfl (V_assign rfl rfl) ?_
             refine GQ_val rfl rfl rfl rfl (V_assign rfl rfl) ?_
             refine GQ_val rfl rfl rfl rfl (V_assign rfl rfl) ?_
             refine GQ_val rfl rfl rfl rfl (V_assign rfl rfl) ?_
             refine GQ_done rfl ?_
             refine G_ret (post := []) Tryd.func68 rfl (RVs_cons (RV_tmp rfl) (RVs_cons (RV_tmp rfl) (RVs_cons (RV_tmp rfl) (RVs_cons (RV_tmp rfl) RVs_nil)))) [] rfl ?_
             dsimp only [packed]
             first
               | exact ⟨(open_not (open_len (by omega))).symm, rfl⟩
               | exact ⟨(open_not (open_neq (fun h => absurd h (by assumption)))).symm, rfl⟩
               | exact ⟨(open_not (open_neq (fun h => absurd (congrArg _ h) (by assumption)))).symm, rfl⟩
               | exact ⟨(open_not (open_zero (by assumption))).symm, rfl⟩
               | exact ⟨(open_yes (open_ok (by omega) (lits_bytes_inj (by first | assumption | exact Classical.not_not.1 (by assumption))) (by assumption))).symm, rfl⟩
               | exact ⟨(open_yes (open_ok (by omega) (by first | assumption | exact Classical.not_not.1 (by assumption)) (by assumption))).symm, rfl⟩
     · skip
       refine GHop_new rfl rfl rfl rfl (N_allocA rfl infSealW_169 rfl) [] (fun _ => ⟨_, rfl⟩) (fun b8 => ?_)
       refine GH_all [7] (by kernel_rfl) (by decide) ?_
       refine (And.intro ?_ trivial)
       · skip
         refine GHop_new rfl rfl rfl rfl (N_allocA rfl infSealW_169 rfl) [] (fun _ => ⟨_, rfl⟩) (fun b7 => ?_)
         refine GH_all [9] (by kernel_rfl) (by decide) ?_
         refine (And.intro ?_ trivial)
         · skip
           refine GHop_put (l1 := []) (L' := [_, _]) rfl rfl rfl rfl (P_storeA (s := 8) rfl rfl rfl (mem_at 0 rfl) (by first | rfl | (simp [bcells_length]; done) | (simp [bcells_length]; omega) | (simp [bcells_length, *]; done)) infSealW_169 rfl (by first | rfl | (simp [bcells_length]; done) | (simp [bcells_length]; omega) | (simp [bcells_length, *]; done)) (by first | rfl | exact bcells_all _ | (simp [Value.oneCell']; done) | (simp [Value.oneCell', *]; done))) rfl [] rfl ?_
           refine GH_all [10] (by kernel_rfl) (by decide) ?_
           refine (And.intro ?_ trivial)
           · skip
             refine GHop_put (l1 := [_]) (L' := [_, _]) rfl rfl rfl rfl (P_storeA (s := 8) rfl rfl rfl (mem_at 1 rfl) (by first | rfl | (simp [bcells_length]; done) | (simp [bcells_length]; omega) | (simp [bcells_length, *]; done)) infSealW_169 rfl (by first | rfl | (simp [bcells_length]; done) | (simp [bcells_length]; omega) | (simp [bcells_length, *]; done)) (by first | rfl | exact bcells_all _ | (simp [Value.oneCell']; done) | (simp [Value.oneCell', *]; done))) rfl [] rfl ?_
             refine GH_done (by kernel_rfl) ?_
             refine G_seq ?_
             refine G_region (l := [0, 1, 2]) rfl ?_
             refine G_val rfl rfl rfl rfl (V_asliceH (h := 4) rfl Tryd.underlying169 infSealW_5 rfl rfl rfl (by first | omega | (simp; done) | (simp; omega) | (simp at *; omega))) ?_
             refine G_call (L2 := [_, _]) rfl rfl rfl rfl rfl rfl Tryd.call100 (seal_number _ _ _ _ _ (b.take 4) (by simp; omega) (take4 b)) [] [0] rfl rfl ?_
             rintro v post ⟨rfl, rfl⟩
             show G _ _ _ [_, _] _
             refine G_val rfl rfl rfl rfl (V_assign rfl rfl) ?_
             refine G_done ?_
             refine G_seq ?_
             refine G_seq ?_
             refine G_region (l := [0, 1, 2, 3, 4, 5, 6]) rfl ?_
             first
               | refine G_val rfl rfl rfl rfl (V_loadW (s := 8) rfl rfl (mem_at 0 rfl) Tryd.underlying169 rfl infSealW_169 rfl (by first | rfl | (simp [bcells_length]; done) | (simp [bcells_length]; omega) | (simp [bcells_length, *]; done))) ?_
               | refine G_val rfl rfl rfl rfl (V_loadA (s := 8) rfl rfl (mem_at 0 rfl) Tryd.underlying169 rfl infSealW_169 rfl rfl (by first | rfl | (simp [bcells_length]; done) | (simp [bcells_length]; omega) | (simp [bcells_length, *]; done))) ?_
             first
               | refine G_val rfl rfl rfl rfl (V_loadW (s := 8) rfl rfl (mem_at 1 rfl) Tryd.underlying169 rfl infSealW_169 rfl (by first | rfl | (simp [bcells_length]; done) | (simp [bcells_length]; omega) | (simp [bcells_length, *]; done))) ?_
               | refine G_val rfl rfl rfl rfl (V_loadA (s := 8) rfl rfl (mem_at 1 rfl) Tryd.underlying169 rfl infSealW_169 rfl rfl (by first | rfl | (simp [bcells_length]; done) | (simp [bcells_length]; omega) | (simp [bcells_length, *]; done))) ?_
             refine G_val rfl rfl rfl rfl (V_aggneq (m := 6) rfl Tryd.eqGuardType169 (by kernel_rfl) (by decide) (formed_of Tryd.underlying169 rfl (by kernel_rfl : Tryd.prog.cellsOf 169 = 8) (by first | rfl | (simp [bcells_length]; done) | (simp [bcells_length]; omega) | (simp [bcells_length, *]; done))) (formed_of Tryd.underlying169 rfl (by kernel_rfl : Tryd.prog.cellsOf 169 = 8) (by first | rfl | (simp [bcells_length]; done) | (simp [bcells_length]; omega) | (simp [bcells_length, *]; done))) rfl rfl (key8 _ (by simp; omega)) (key8 _ (by simp; omega))) ?_
             refine G_val rfl rfl rfl rfl (V_move rfl rfl) ?_
             refine G_splitD 25 rfl (fun hc2 => ?_) (fun hc2 => ?_)
             · skip
               refine G_off rfl rfl rfl rfl ?_
               refine G_off rfl rfl rfl rfl ?_
               refine G_val rfl rfl rfl rfl (V_pickT rfl rfl rfl) ?_
               refine G_done ?_
               refine G_then rfl ?_
               refine G_seq ?_
               refine G_region (l := [0, 1, 2, 3]) rfl ?_
               refine G_val rfl rfl rfl rfl (V_assign rfl rfl) ?_
               refine G_val rfl rfl rfl rfl (V_assign rfl rfl) ?_
               refine G_val rfl rfl rfl rfl (V_assign rfl rfl) ?_
               refine G_val rfl rfl rfl rfl (V_assign rfl rfl) ?_
               refine G_done ?_
               refine G_ret (post := []) Tryd.func68 rfl (RVs_cons (RV_tmp rfl) (RVs_cons (RV_tmp rfl) (RVs_cons (RV_tmp rfl) (RVs_cons (RV_tmp rfl) RVs_nil)))) [] rfl ?_
               dsimp only [packed]
               first
                 | exact ⟨(open_not (open_len (by omega))).symm, rfl⟩
                 | exact ⟨(open_not (open_neq (fun h => absurd h (by assumption)))).symm, rfl⟩
                 | exact ⟨(open_not (open_neq (fun h => absurd (congrArg _ h) (by assumption)))).symm, rfl⟩
                 | exact ⟨(open_not (open_zero (by assumption))).symm, rfl⟩
                 | exact ⟨(open_yes (open_ok (by omega) (lits_bytes_inj (by first | assumption | exact Classical.not_not.1 (by assumption))) (by assumption))).symm, rfl⟩
                 | exact ⟨(open_yes (open_ok (by omega) (by first | assumption | exact Classical.not_not.1 (by assumption)) (by assumption))).symm, rfl⟩
             refine G_val rfl rfl rfl rfl (V_move rfl rfl) ?_
             refine G_val rfl rfl rfl rfl (V_eql rfl rfl rfl) ?_
             refine G_val rfl rfl rfl rfl (V_pickF rfl rfl rfl) ?_
             refine G_done ?_
             refine G_ifD rfl (fun hc3 => ?_) (fun hc3 => ?_)
             · skip
               refine G_seq ?_
               refine G_region (l := [0, 1, 2, 3]) rfl ?_
               refine G_val rfl rfl rfl rfl (V_assign rfl rfl) ?_
               refine G_val rfl rfl rfl rfl (V_assign rfl rfl) ?_
               refine G_val rfl rfl rfl rfl (V_assign rfl rfl) ?_
               refine G_val rfl rfl rfl rfl (V_assign rfl rfl) ?_
               refine G_done ?_
               refine G_ret (post := []) Tryd.func68 rfl (RVs_cons (RV_tmp rfl) (RVs_cons (RV_tmp rfl) (RVs_cons (RV_tmp rfl) (RVs_cons (RV_tmp rfl) RVs_nil)))) [] rfl ?_
               dsimp only [packed]
               first
                 | exact ⟨(open_not (open_len (by omega))).symm, rfl⟩
                 | exact ⟨(open_not (open_neq (fun h => absurd h (by assumption)))).symm, rfl⟩
                 | exact ⟨(open_not (open_neq (fun h => absurd (congrArg _ h) (by assumption)))).symm, rfl⟩
                 | exact ⟨(open_not (open_zero (by assumption))).symm, rfl⟩
                 | exact ⟨(open_yes (open_ok (by omega) (lits_bytes_inj (by first | assumption | exact Classical.not_not.1 (by assumption))) (by assumption))).symm, rfl⟩
                 | exact ⟨(open_yes (open_ok (by omega) (by first | assumption | exact Classical.not_not.1 (by assumption)) (by assumption))).symm, rfl⟩
             refine G_skip ?_
             refine G_seq ?_
             refine G_draw mixedK (by kernel_rfl) ?_
             refine GQ_val rfl rfl rfl rfl (V_move rfl rfl) ?_
             refine GQ_val rfl rfl rfl rfl (V_asliceL (l := 4) rfl Tryd.underlying169 infSealW_5 rfl rfl rfl rfl (by first | omega | (simp; done) | (simp; omega) | (simp at *; omega)) rfl) ?_
             refine GQ_call rfl rfl rfl rfl rfl rfl Tryd.call100 (seal_number _ _ _ _ _ ((b.take 8).drop 4) (by simp; omega) (drop4 b (by omega))) [0] rfl (fun v post hp => (hp : _ ∧ _).1) ?_
             refine GQ_val rfl rfl rfl rfl (V_move rfl rfl) ?_
             refine GQ_val rfl rfl rfl rfl (V_move rfl rfl) ?_
             first
               | refine GQ_val rfl rfl rfl rfl (V_ssliceN (lo := 8) (hi := _) rfl Tryd.underlying9 rfl rfl rfl rfl rfl (by first | omega | (simp; done) | (simp; omega) | (simp at *; omega)) (by first | omega | (simp; done) | (simp; omega) | (simp at *; omega))) ?_
               | refine GQ_val rfl rfl rfl rfl (V_sslice rfl Tryd.underlying9 rfl rfl rfl (by first | omega | (simp; done) | (simp; omega) | (simp at *; omega)) (by first | omega | (simp; done) | (simp; omega) | (simp at *; omega)) (by first | omega | (simp; done) | (simp; omega) | (simp at *; omega))) ?_
             refine GQ_val rfl rfl rfl rfl (V_assign rfl rfl) ?_
             refine GQ_val rfl rfl rfl rfl (V_assign rfl rfl) ?_
             refine GQ_val rfl rfl rfl rfl (V_assign rfl rfl) ?_
             refine GQ_val rfl rfl rfl rfl (V_assign rfl rfl) ?_
             refine GQ_done rfl ?_
             refine G_ret (post := []) Tryd.func68 rfl (RVs_cons (RV_tmp rfl) (RVs_cons (RV_tmp rfl) (RVs_cons (RV_tmp rfl) (RVs_cons (RV_tmp rfl) RVs_nil)))) [] rfl ?_
             dsimp only [packed]
             first
               | exact ⟨(open_not (open_len (by omega))).symm, rfl⟩
               | exact ⟨(open_not (open_neq (fun h => absurd h (by assumption)))).symm, rfl⟩
               | exact ⟨(open_not (open_neq (fun h => absurd (congrArg _ h) (by assumption)))).symm, rfl⟩
               | exact ⟨(open_not (open_zero (by assumption))).symm, rfl⟩
               | exact ⟨(open_yes (open_ok (by omega) (lits_bytes_inj (by first | assumption | exact Classical.not_not.1 (by assumption))) (by assumption))).symm, rfl⟩
               | exact ⟨(open_yes (open_ok (by omega) (by first | assumption | exact Classical.not_not.1 (by assumption)) (by assumption))).symm, rfl⟩
   · skip
     refine GHop_new rfl rfl rfl rfl (N_allocA rfl infSealW_169 rfl) [] (fun _ => ⟨_, rfl⟩) (fun b7 => ?_)
     refine GH_all [6, 8] (by kernel_rfl) (by decide) ?_
     refine (And.intro ?_ (And.intro ?_ trivial))
     · skip
       refine GHop_call (L2 := [_]) rfl rfl rfl rfl rfl rfl Tryd.call99 (seal_of _ (by simp; omega)) [] [] rfl rfl [] (by rintro v post ⟨rfl, rfl⟩; exact ⟨_, rfl⟩) ?_
       rintro v post ⟨rfl, rfl⟩
       show GH _ _ _ _ _ _ _ [_] _
       refine GH_all [8] (by kernel_rfl) (by decide) ?_
       refine (And.intro ?_ trivial)
       · skip
         refine GHop_new rfl rfl rfl rfl (N_allocA rfl infSealW_169 rfl) [] (fun _ => ⟨_, rfl⟩) (fun b8 => ?_)
         refine GH_all [9] (by kernel_rfl) (by decide) ?_
         refine (And.intro ?_ trivial)
         · skip
           refine GHop_put (l1 := [_]) (L' := [_, _]) rfl rfl rfl rfl (P_storeA (s := 8) rfl rfl rfl (mem_at 1 rfl) (by first | rfl | (simp [bcells_length]; done) | (simp [bcells_length]; omega) | (simp [bcells_length, *]; done)) infSealW_169 rfl (by first | rfl | (simp [bcells_length]; done) | (simp [bcells_length]; omega) | (simp [bcells_length, *]; done)) (by first | rfl | exact bcells_all _ | (simp [Value.oneCell']; done) | (simp [Value.oneCell', *]; done))) rfl [] rfl ?_
           refine GH_all [10] (by kernel_rfl) (by decide) ?_
           refine (And.intro ?_ trivial)
           · skip
             refine GHop_put (l1 := []) (L' := [_, _]) rfl rfl rfl rfl (P_storeA (s := 8) rfl rfl rfl (mem_at 0 rfl) (by first | rfl | (simp [bcells_length]; done) | (simp [bcells_length]; omega) | (simp [bcells_length, *]; done)) infSealW_169 rfl (by first | rfl | (simp [bcells_length]; done) | (simp [bcells_length]; omega) | (simp [bcells_length, *]; done)) (by first | rfl | exact bcells_all _ | (simp [Value.oneCell']; done) | (simp [Value.oneCell', *]; done))) rfl [] rfl ?_
             refine GH_done (by kernel_rfl) ?_
             refine G_seq ?_
             refine G_region (l := [0, 1, 2]) rfl ?_
             refine G_val rfl rfl rfl rfl (V_asliceH (h := 4) rfl Tryd.underlying169 infSealW_5 rfl rfl rfl (by first | omega | (simp; done) | (simp; omega) | (simp at *; omega))) ?_
             refine G_call (L2 := [_, _]) rfl rfl rfl rfl rfl rfl Tryd.call100 (seal_number _ _ _ _ _ (b.take 4) (by simp; omega) (take4 b)) [] [1] rfl rfl ?_
             rintro v post ⟨rfl, rfl⟩
             show G _ _ _ [_, _] _
             refine G_val rfl rfl rfl rfl (V_assign rfl rfl) ?_
             refine G_done ?_
             refine G_seq ?_
             refine G_seq ?_
             refine G_region (l := [0, 1, 2, 3, 4, 5, 6]) rfl ?_
             first
               | refine G_val rfl rfl rfl rfl (V_loadW (s := 8) rfl rfl (mem_at 1 rfl) Tryd.underlying169 rfl infSealW_169 rfl (by first | rfl | (simp [bcells_length]; done) | (simp [bcells_length]; omega) | (simp [bcells_length, *]; done))) ?_
               | refine G_val rfl rfl rfl rfl (V_loadA (s := 8) rfl rfl (mem_at 1 rfl) Tryd.underlying169 rfl infSealW_169 rfl rfl (by first | rfl | (simp [bcells_length]; done) | (simp [bcells_length]; omega) | (simp [bcells_length, *]; done))) ?_
             first
               | refine G_val rfl rfl rfl rfl (V_loadW (s := 8) rfl rfl (mem_at 0 rfl) Tryd.underlying169 rfl infSealW_169 rfl (by first | rfl | (simp [bcells_length]; done) | (simp [bcells_length]; omega) | (simp [bcells_length, *]; done))) ?_
               | refine G_val rfl rfl rfl rfl (V_loadA (s := 8) rfl rfl (mem_at 0 rfl) Tryd.underlying169 rfl infSealW_169 rfl rfl (by first | rfl | (simp [bcells_length]; done) | (simp [bcells_length]; omega) | (simp [bcells_length, *]; done))) ?_
             refine G_val rfl rfl rfl rfl (V_aggneq (m := 6) rfl Tryd.eqGuardType169 (by kernel_rfl) (by decide) (formed_of Tryd.underlying169 rfl (by kernel_rfl : Tryd.prog.cellsOf 169 = 8) (by first | rfl | (simp [bcells_length]; done) | (simp [bcells_length]; omega) | (simp [bcells_length, *]; done))) (formed_of Tryd.underlying169 rfl (by kernel_rfl : Tryd.prog.cellsOf 169 = 8) (by first | rfl | (simp [bcells_length]; done) | (simp [bcells_length]; omega) | (simp [bcells_length, *]; done))) rfl rfl (key8 _ (by simp; omega)) (key8 _ (by simp; omega))) ?_
             refine G_val rfl rfl rfl rfl (V_move rfl rfl) ?_
             refine G_splitD 25 rfl (fun hc2 => ?_) (fun hc2 => ?_)
             · skip
               refine G_off rfl rfl rfl rfl ?_
               refine G_off rfl rfl rfl rfl ?_
               refine G_val rfl rfl rfl rfl (V_pickT rfl rfl rfl) ?_
               refine G_done ?_
               refine G_then rfl ?_
               refine G_seq ?_
               refine G_region (l := [0, 1, 2, 3]) rfl ?_
               refine G_val rfl rfl rfl rfl (V_assign rfl rfl) ?_
               refine G_val rfl rfl rfl rfl (V_assign rfl rfl) ?_
               refine G_val rfl rfl rfl rfl (V_assign rfl rfl) ?_
               refine G_val rfl rfl rfl rfl (V_assign rfl rfl) ?_
               refine G_done ?_
               refine G_ret (post := []) Tryd.func68 rfl (RVs_cons (RV_tmp rfl) (RVs_cons (RV_tmp rfl) (RVs_cons (RV_tmp rfl) (RVs_cons (RV_tmp rfl) RVs_nil)))) [] rfl ?_
               dsimp only [packed]
               first
                 | exact ⟨(open_not (open_len (by omega))).symm, rfl⟩
                 | exact ⟨(open_not (open_neq (fun h => absurd h (by assumption)))).symm, rfl⟩
                 | exact ⟨(open_not (open_neq (fun h => absurd (congrArg _ h) (by assumption)))).symm, rfl⟩
                 | exact ⟨(open_not (open_zero (by assumption))).symm, rfl⟩
                 | exact ⟨(open_yes (open_ok (by omega) (lits_bytes_inj (by first | assumption | exact Classical.not_not.1 (by assumption))) (by assumption))).symm, rfl⟩
                 | exact ⟨(open_yes (open_ok (by omega) (by first | assumption | exact Classical.not_not.1 (by assumption)) (by assumption))).symm, rfl⟩
             refine G_val rfl rfl rfl rfl (V_move rfl rfl) ?_
             refine G_val rfl rfl rfl rfl (V_eql rfl rfl rfl) ?_
             refine G_val rfl rfl rfl rfl (V_pickF rfl rfl rfl) ?_
             refine G_done ?_
             refine G_ifD rfl (fun hc3 => ?_) (fun hc3 => ?_)
             · skip
               refine G_seq ?_
               refine G_region (l := [0, 1, 2, 3]) rfl ?_
               refine G_val rfl rfl rfl rfl (V_assign rfl rfl) ?_
               refine G_val rfl rfl rfl rfl (V_assign rfl rfl) ?_
               refine G_val rfl rfl rfl rfl (V_assign rfl rfl) ?_
               refine G_val rfl rfl rfl rfl (V_assign rfl rfl) ?_
               refine G_done ?_
               refine G_ret (post := []) Tryd.func68 rfl (RVs_cons (RV_tmp rfl) (RVs_cons (RV_tmp rfl) (RVs_cons (RV_tmp rfl) (RVs_cons (RV_tmp rfl) RVs_nil)))) [] rfl ?_
               dsimp only [packed]
               first
                 | exact ⟨(open_not (open_len (by omega))).symm, rfl⟩
                 | exact ⟨(open_not (open_neq (fun h => absurd h (by assumption)))).symm, rfl⟩
                 | exact ⟨(open_not (open_neq (fun h => absurd (congrArg _ h) (by assumption)))).symm, rfl⟩
                 | exact ⟨(open_not (open_zero (by assumption))).symm, rfl⟩
                 | exact ⟨(open_yes (open_ok (by omega) (lits_bytes_inj (by first | assumption | exact Classical.not_not.1 (by assumption))) (by assumption))).symm, rfl⟩
                 | exact ⟨(open_yes (open_ok (by omega) (by first | assumption | exact Classical.not_not.1 (by assumption)) (by assumption))).symm, rfl⟩
             refine G_skip ?_
             refine G_seq ?_
             refine G_draw mixedK (by kernel_rfl) ?_
             refine GQ_val rfl rfl rfl rfl (V_move rfl rfl) ?_
             refine GQ_val rfl rfl rfl rfl (V_asliceL (l := 4) rfl Tryd.underlying169 infSealW_5 rfl rfl rfl rfl (by first | omega | (simp; done) | (simp; omega) | (simp at *; omega)) rfl) ?_
             refine GQ_call rfl rfl rfl rfl rfl rfl Tryd.call100 (seal_number _ _ _ _ _ ((b.take 8).drop 4) (by simp; omega) (drop4 b (by omega))) [1] rfl (fun v post hp => (hp : _ ∧ _).1) ?_
             refine GQ_val rfl rfl rfl rfl (V_move rfl rfl) ?_
             refine GQ_val rfl rfl rfl rfl (V_move rfl rfl) ?_
             first
               | refine GQ_val rfl rfl rfl rfl (V_ssliceN (lo := 8) (hi := _) rfl Tryd.underlying9 rfl rfl rfl rfl rfl (by first | omega | (simp; done) | (simp; omega) | (simp at *; omega)) (by first | omega | (simp; done) | (simp; omega) | (simp at *; omega))) ?_
               | refine GQ_val rfl rfl rfl rfl (V_sslice rfl Tryd.underlying9 rfl rfl rfl (by first | omega | (simp; done) | (simp; omega) | (simp at *; omega)) (by first | omega | (simp; done) | (simp; omega) | (simp at *; omega)) (by first | omega | (simp; done) | (simp; omega) | (simp at *; omega))) ?_
             refine GQ_val rfl rfl rfl rfl (V_assign rfl rfl) ?_
             refine GQ_val rfl rfl rfl rfl (V_assign rfl rfl) ?_
             refine GQ_val rfl rfl rfl rfl (V_assign rfl rfl) ?_
             refine GQ_val rfl rfl rfl rfl (V_assign rfl rfl) ?_
             refine GQ_done rfl ?_
             refine G_ret (post := []) Tryd.func68 rfl (RVs_cons (RV_tmp rfl) (RVs_cons (RV_tmp rfl) (RVs_cons (RV_tmp rfl) (RVs_cons (RV_tmp rfl) RVs_nil)))) [] rfl ?_
             dsimp only [packed]
             first
               | exact ⟨(open_not (open_len (by omega))).symm, rfl⟩
               | exact ⟨(open_not (open_neq (fun h => absurd h (by assumption)))).symm, rfl⟩
               | exact ⟨(open_not (open_neq (fun h => absurd (congrArg _ h) (by assumption)))).symm, rfl⟩
               | exact ⟨(open_not (open_zero (by assumption))).symm, rfl⟩
               | exact ⟨(open_yes (open_ok (by omega) (lits_bytes_inj (by first | assumption | exact Classical.not_not.1 (by assumption))) (by assumption))).symm, rfl⟩
               | exact ⟨(open_yes (open_ok (by omega) (by first | assumption | exact Classical.not_not.1 (by assumption)) (by assumption))).symm, rfl⟩
     · skip
       refine GHop_new rfl rfl rfl rfl (N_allocA rfl infSealW_169 rfl) [] (fun _ => ⟨_, rfl⟩) (fun b8 => ?_)
       refine GH_all [6] (by kernel_rfl) (by decide) ?_
       refine (And.intro ?_ trivial)
       · skip
         refine GHop_call (L2 := [_, _]) rfl rfl rfl rfl rfl rfl Tryd.call99 (seal_of _ (by simp; omega)) [] [] rfl rfl [] (by rintro v post ⟨rfl, rfl⟩; exact ⟨_, rfl⟩) ?_
         rintro v post ⟨rfl, rfl⟩
         show GH _ _ _ _ _ _ _ [_, _] _
         refine GH_all [9] (by kernel_rfl) (by decide) ?_
         refine (And.intro ?_ trivial)
         · skip
           refine GHop_put (l1 := [_]) (L' := [_, _]) rfl rfl rfl rfl (P_storeA (s := 8) rfl rfl rfl (mem_at 1 rfl) (by first | rfl | (simp [bcells_length]; done) | (simp [bcells_length]; omega) | (simp [bcells_length, *]; done)) infSealW_169 rfl (by first | rfl | (simp [bcells_length]; done) | (simp [bcells_length]; omega) | (simp [bcells_length, *]; done)) (by first | rfl | exact bcells_all _ | (simp [Value.oneCell']; done) | (simp [Value.oneCell', *]; done))) rfl [] rfl ?_
           refine GH_all [10] (by kernel_rfl) (by decide) ?_
           refine (And.intro ?_ trivial)
           · skip
             refine GHop_put (l1 := []) (L' := [_, _]) rfl rfl rfl rfl (P_storeA (s := 8) rfl rfl rfl (mem_at 0 rfl) (by first | rfl | (simp [bcells_length]; done) | (simp [bcells_length]; omega) | (simp [bcells_length, *]; done)) infSealW_169 rfl (by first | rfl | (simp [bcells_length]; done) | (simp [bcells_length]; omega) | (simp [bcells_length, *]; done)) (by first | rfl | exact bcells_all _ | (simp [Value.oneCell']; done) | (simp [Value.oneCell', *]; done))) rfl [] rfl ?_
             refine GH_done (by kernel_rfl) ?_
             refine G_seq ?_
             refine G_region (l := [0, 1, 2]) rfl ?_
             refine G_val rfl rfl rfl rfl (V_asliceH (h := 4) rfl Tryd.underlying169 infSealW_5 rfl rfl rfl (by first | omega | (simp; done) | (simp; omega) | (simp at *; omega))) ?_
             refine G_call (L2 := [_, _]) rfl rfl rfl rfl rfl rfl Tryd.call100 (seal_number _ _ _ _ _ (b.take 4) (by simp; omega) (take4 b)) [] [1] rfl rfl ?_
             rintro v post ⟨rfl, rfl⟩
             show G _ _ _ [_, _] _
             refine G_val rfl rfl rfl rfl (V_assign rfl rfl) ?_
             refine G_done ?_
             refine G_seq ?_
             refine G_seq ?_
             refine G_region (l := [0, 1, 2, 3, 4, 5, 6]) rfl ?_
             first
               | refine G_val rfl rfl rfl rfl (V_loadW (s := 8) rfl rfl (mem_at 1 rfl) Tryd.underlying169 rfl infSealW_169 rfl (by first | rfl | (simp [bcells_length]; done) | (simp [bcells_length]; omega) | (simp [bcells_length, *]; done))) ?_
               | refine G_val rfl rfl rfl rfl (V_loadA (s := 8) rfl rfl (mem_at 1 rfl) Tryd.underlying169 rfl infSealW_169 rfl rfl (by first | rfl | (simp [bcells_length]; done) | (simp [bcells_length]; omega) | (simp [bcells_length, *]; done))) ?_
             first
               | refine G_val rfl rfl rfl rfl (V_loadW (s := 8) rfl rfl (mem_at 0 rfl) Tryd.underlying169 rfl infSealW_169 rfl (by first | rfl | (simp [bcells_length]; done) | (simp [bcells_length]; omega) | (simp [bcells_length, *]; done))) ?_
               | refine G_val rfl rfl rfl rfl (V_loadA (s := 8) rfl rfl (mem_at 0 rfl) Tryd.underlying169 rfl infSealW_169 rfl rfl (by first | rfl | (simp [bcells_length]; done) | (simp [bcells_length]; omega) | (simp [bcells_length, *]; done))) ?_
             refine G_val rfl rfl rfl rfl (V_aggneq (m := 6) rfl Tryd.eqGuardType169 (by kernel_rfl) (by decide) (formed_of Tryd.underlying169 rfl (by kernel_rfl : Tryd.prog.cellsOf 169 = 8) (by first | rfl | (simp [bcells_length]; done) | (simp [bcells_length]; omega) | (simp [bcells_length, *]; done))) (formed_of Tryd.underlying169 rfl (by kernel_rfl : Tryd.prog.cellsOf 169 = 8) (by first | rfl | (simp [bcells_length]; done) | (simp [bcells_length]; omega) | (simp [bcells_length, *]; done))) rfl rfl (key8 _ (by simp; omega)) (key8 _ (by simp; omega))) ?_
             refine G_val rfl rfl rfl rfl (V_move rfl rfl) ?_
             refine G_splitD 25 rfl (fun hc2 => ?_) (fun hc2 => ?_)
             · skip
               refine G_off rfl rfl rfl rfl ?_
               refine G_off rfl rfl rfl rfl ?_
               refine G_val rfl rfl rfl rfl (V_pickT rfl rfl rfl) ?_
               refine G_done ?_
               refine G_then rfl ?_
               refine G_seq ?_
               refine G_region (l := [0, 1, 2, 3]) rfl ?_
               refine G_val rfl rfl rfl rfl (V_assign rfl rfl) ?_
               refine G_val rfl rfl rfl rfl (V_assign rfl rfl) ?_
               refine G_val rfl rfl rfl rfl (V_assign rfl rfl) ?_
               refine G_val rfl rfl rfl rfl (V_assign rfl rfl) ?_
               refine G_done ?_
               refine G_ret (post := []) Tryd.func68 rfl (RVs_cons (RV_tmp rfl) (RVs_cons (RV_tmp rfl) (RVs_cons (RV_tmp rfl) (RVs_cons (RV_tmp rfl) RVs_nil)))) [] rfl ?_
               dsimp only [packed]
               first
                 | exact ⟨(open_not (open_len (by omega))).symm, rfl⟩
                 | exact ⟨(open_not (open_neq (fun h => absurd h (by assumption)))).symm, rfl⟩
                 | exact ⟨(open_not (open_neq (fun h => absurd (congrArg _ h) (by assumption)))).symm, rfl⟩
                 | exact ⟨(open_not (open_zero (by assumption))).symm, rfl⟩
                 | exact ⟨(open_yes (open_ok (by omega) (lits_bytes_inj (by first | assumption | exact Classical.not_not.1 (by assumption))) (by assumption))).symm, rfl⟩
                 | exact ⟨(open_yes (open_ok (by omega) (by first | assumption | exact Classical.not_not.1 (by assumption)) (by assumption))).symm, rfl⟩
             refine G_val rfl rfl rfl rfl (V_move rfl rfl) ?_
             refine G_val rfl rfl rfl rfl (V_eql rfl rfl rfl) ?_
             refine G_val rfl rfl rfl rfl (V_pickF rfl rfl rfl) ?_
             refine G_done ?_
             refine G_ifD rfl (fun hc3 => ?_) (fun hc3 => ?_)
             · skip
               refine G_seq ?_
               refine G_region (l := [0, 1, 2, 3]) rfl ?_
               refine G_val rfl rfl rfl rfl (V_assign rfl rfl) ?_
               refine G_val rfl rfl rfl rfl (V_assign rfl rfl) ?_
               refine G_val rfl rfl rfl rfl (V_assign rfl rfl) ?_
               refine G_val rfl rfl rfl rfl (V_assign rfl rfl) ?_
               refine G_done ?_
               refine G_ret (post := []) Tryd.func68 rfl (RVs_cons (RV_tmp rfl) (RVs_cons (RV_tmp rfl) (RVs_cons (RV_tmp rfl) (RVs_cons (RV_tmp rfl) RVs_nil)))) [] rfl ?_
               dsimp only [packed]
               first
                 | exact ⟨(open_not (open_len (by omega))).symm, rfl⟩
                 | exact ⟨(open_not (open_neq (fun h => absurd h (by assumption)))).symm, rfl⟩
                 | exact ⟨(open_not (open_neq (fun h => absurd (congrArg _ h) (by assumption)))).symm, rfl⟩
                 | exact ⟨(open_not (open_zero (by assumption))).symm, rfl⟩
                 | exact ⟨(open_yes (open_ok (by omega) (lits_bytes_inj (by first | assumption | exact Classical.not_not.1 (by assumption))) (by assumption))).symm, rfl⟩
                 | exact ⟨(open_yes (open_ok (by omega) (by first | assumption | exact Classical.not_not.1 (by assumption)) (by assumption))).symm, rfl⟩
             refine G_skip ?_
             refine G_seq ?_
             refine G_draw mixedK (by kernel_rfl) ?_
             refine GQ_val rfl rfl rfl rfl (V_move rfl rfl) ?_
             refine GQ_val rfl rfl rfl rfl (V_asliceL (l := 4) rfl Tryd.underlying169 infSealW_5 rfl rfl rfl rfl (by first | omega | (simp; done) | (simp; omega) | (simp at *; omega)) rfl) ?_
             refine GQ_call rfl rfl rfl rfl rfl rfl Tryd.call100 (seal_number _ _ _ _ _ ((b.take 8).drop 4) (by simp; omega) (drop4 b (by omega))) [1] rfl (fun v post hp => (hp : _ ∧ _).1) ?_
             refine GQ_val rfl rfl rfl rfl (V_move rfl rfl) ?_
             refine GQ_val rfl rfl rfl rfl (V_move rfl rfl) ?_
             first
               | refine GQ_val rfl rfl rfl rfl (V_ssliceN (lo := 8) (hi := _) rfl Tryd.underlying9 rfl rfl rfl rfl rfl (by first | omega | (simp; done) | (simp; omega) | (simp at *; omega)) (by first | omega | (simp; done) | (simp; omega) | (simp at *; omega))) ?_
               | refine GQ_val rfl rfl rfl rfl (V_sslice rfl Tryd.underlying9 rfl rfl rfl (by first | omega | (simp; done) | (simp; omega) | (simp at *; omega)) (by first | omega | (simp; done) | (simp; omega) | (simp at *; omega)) (by first | omega | (simp; done) | (simp; omega) | (simp at *; omega))) ?_
             refine GQ_val rfl rfl rfl rfl (V_assign rfl rfl) ?_
             refine GQ_val rfl rfl rfl rfl (V_assign rfl rfl) ?_
             refine GQ_val rfl rfl rfl rfl (V_assign rfl rfl) ?_
             refine GQ_val rfl rfl rfl rfl (V_assign rfl rfl) ?_
             refine GQ_done rfl ?_
             refine G_ret (post := []) Tryd.func68 rfl (RVs_cons (RV_tmp rfl) (RVs_cons (RV_tmp rfl) (RVs_cons (RV_tmp rfl) (RVs_cons (RV_tmp rfl) RVs_nil)))) [] rfl ?_
             dsimp only [packed]
             first
               | exact ⟨(open_not (open_len (by omega))).symm, rfl⟩
               | exact ⟨(open_not (open_neq (fun h => absurd h (by assumption)))).symm, rfl⟩
               | exact ⟨(open_not (open_neq (fun h => absurd (congrArg _ h) (by assumption)))).symm, rfl⟩
               | exact ⟨(open_not (open_zero (by assumption))).symm, rfl⟩
               | exact ⟨(open_yes (open_ok (by omega) (lits_bytes_inj (by first | assumption | exact Classical.not_not.1 (by assumption))) (by assumption))).symm, rfl⟩
               | exact ⟨(open_yes (open_ok (by omega) (by first | assumption | exact Classical.not_not.1 (by assumption)) (by assumption))).symm, rfl⟩
   · skip
     refine GHop_new rfl rfl rfl rfl (N_allocA rfl infSealW_169 rfl) [] (fun _ => ⟨_, rfl⟩) (fun b8 => ?_)
     refine GH_all [6, 7] (by kernel_rfl) (by decide) ?_
     refine (And.intro ?_ (And.intro ?_ trivial))
     · skip
       refine GHop_call (L2 := [_]) rfl rfl rfl rfl rfl rfl Tryd.call99 (seal_of _ (by simp; omega)) [] [] rfl rfl [] (by rintro v post ⟨rfl, rfl⟩; exact ⟨_, rfl⟩) ?_
       rintro v post ⟨rfl, rfl⟩
       show GH _ _ _ _ _ _ _ [_] _
       refine GH_all [7] (by kernel_rfl) (by decide) ?_
       refine (And.intro ?_ trivial)
       · skip
         refine GHop_new rfl rfl rfl rfl (N_allocA rfl infSealW_169 rfl) [] (fun _ => ⟨_, rfl⟩) (fun b7 => ?_)
         refine GH_all [9] (by kernel_rfl) (by decide) ?_
         refine (And.intro ?_ trivial)
         · skip
           refine GHop_put (l1 := []) (L' := [_, _]) rfl rfl rfl rfl (P_storeA (s := 8) rfl rfl rfl (mem_at 0 rfl) (by first | rfl | (simp [bcells_length]; done) | (simp [bcells_length]; omega) | (simp [bcells_length, *]; done)) infSealW_169 rfl (by first | rfl | (simp [bcells_length]; done) | (simp [bcells_length]; omega) | (simp [bcells_length, *]; done)) (by first | rfl | exact bcells_all _ | (simp [Value.oneCell']; done) | (simp [Value.oneCell', *]; done))) rfl [] rfl ?_
           refine GH_all [10] (by kernel_rfl) (by decide) ?_
           refine (And.intro ?_ trivial)
           · skip
             refine GHop_put (l1 := [_]) (L' := [_, _]) rfl rfl rfl rfl (P_storeA (s := 8) rfl rfl rfl (mem_at 1 rfl) (by first | rfl | (simp [bcells_length]; done) | (simp [bcells_length]; omega) | (simp [bcells_length, *]; done)) infSealW_169 rfl (by first | rfl | (simp [bcells_length]; done) | (simp [bcells_length]; omega) | (simp [bcells_length, *]; done)) (by first | rfl | exact bcells_all _ | (simp [Value.oneCell']; done) | (simp [Value.oneCell', *]; done))) rfl [] rfl ?_
             refine GH_done (by kernel_rfl) ?_
             refine G_seq ?_
             refine G_region (l := [0, 1, 2]) rfl ?_
             refine G_val rfl rfl rfl rfl (V_asliceH (h := 4) rfl Tryd.underlying169 infSealW_5 rfl rfl rfl (by first | omega | (simp; done) | (simp; omega) | (simp at *; omega))) ?_
             refine G_call (L2 := [_, _]) rfl rfl rfl rfl rfl rfl Tryd.call100 (seal_number _ _ _ _ _ (b.take 4) (by simp; omega) (take4 b)) [] [0] rfl rfl ?_
             rintro v post ⟨rfl, rfl⟩
             show G _ _ _ [_, _] _
             refine G_val rfl rfl rfl rfl (V_assign rfl rfl) ?_
             refine G_done ?_
             refine G_seq ?_
             refine G_seq ?_
             refine G_region (l := [0, 1, 2, 3, 4, 5, 6]) rfl ?_
             first
               | refine G_val rfl rfl rfl rfl (V_loadW (s := 8) rfl rfl (mem_at 0 rfl) Tryd.underlying169 rfl infSealW_169 rfl (by first | rfl | (simp [bcells_length]; done) | (simp [bcells_length]; omega) | (simp [bcells_length, *]; done))) ?_
               | refine G_val rfl rfl rfl rfl (V_loadA (s := 8) rfl rfl (mem_at 0 rfl) Tryd.underlying169 rfl infSealW_169 rfl rfl (by first | rfl | (simp [bcells_length]; done) | (simp [bcells_length]; omega) | (simp [bcells_length, *]; done))) ?_
             first
               | refine G_val rfl rfl rfl rfl (V_loadW (s := 8) rfl rfl (mem_at 1 rfl) Tryd.underlying169 rfl infSealW_169 rfl (by first | rfl | (simp [bcells_length]; done) | (simp [bcells_length]; omega) | (simp [bcells_length, *]; done))) ?_
               | refine G_val rfl rfl rfl rfl (V_loadA (s := 8) rfl rfl (mem_at 1 rfl) Tryd.underlying169 rfl infSealW_169 rfl rfl (by first | rfl | (simp [bcells_length]; done) | (simp [bcells_length]; omega) | (simp [bcells_length, *]; done))) ?_
             refine G_val rfl rfl rfl rfl (V_aggneq (m := 6) rfl Tryd.eqGuardType169 (by kernel_rfl) (by decide) (formed_of Tryd.underlying169 rfl (by kernel_rfl : Tryd.prog.cellsOf 169 = 8) (by first | rfl | (simp [bcells_length]; done) | (simp [bcells_length]; omega) | (simp [bcells_length, *]; done))) (formed_of Tryd.underlying169 rfl (by kernel_rfl : Tryd.prog.cellsOf 169 = 8) (by first | rfl | (simp [bcells_length]; done) | (simp [bcells_length]; omega) | (simp [bcells_length, *]; done))) rfl rfl (key8 _ (by simp; omega)) (key8 _ (by simp; omega))) ?_
             refine G_val rfl rfl rfl rfl (V_move rfl rfl) ?_
             refine G_splitD 25 rfl (fun hc2 => ?_) (fun hc2 => ?_)
             · skip
               refine G_off rfl rfl rfl rfl ?_
               refine G_off rfl rfl rfl rfl ?_
               refine G_val rfl rfl rfl rfl (V_pickT rfl rfl rfl) ?_
               refine G_done ?_
               refine G_then rfl ?_
               refine G_seq ?_
               refine G_region (l := [0, 1, 2, 3]) rfl ?_
               refine G_val rfl rfl rfl rfl (V_assign rfl rfl) ?_
               refine G_val rfl rfl rfl rfl (V_assign rfl rfl) ?_
               refine G_val rfl rfl rfl rfl (V_assign rfl rfl) ?_
               refine G_val rfl rfl rfl rfl (V_assign rfl rfl) ?_
               refine G_done ?_
               refine G_ret (post := []) Tryd.func68 rfl (RVs_cons (RV_tmp rfl) (RVs_cons (RV_tmp rfl) (RVs_cons (RV_tmp rfl) (RVs_cons (RV_tmp rfl) RVs_nil)))) [] rfl ?_
               dsimp only [packed]
               first
                 | exact ⟨(open_not (open_len (by omega))).symm, rfl⟩
                 | exact ⟨(open_not (open_neq (fun h => absurd h (by assumption)))).symm, rfl⟩
                 | exact ⟨(open_not (open_neq (fun h => absurd (congrArg _ h) (by assumption)))).symm, rfl⟩
                 | exact ⟨(open_not (open_zero (by assumption))).symm, rfl⟩
                 | exact ⟨(open_yes (open_ok (by omega) (lits_bytes_inj (by first | assumption | exact Classical.not_not.1 (by assumption))) (by assumption))).symm, rfl⟩
                 | exact ⟨(open_yes (open_ok (by omega) (by first | assumption | exact Classical.not_not.1 (by assumption)) (by assumption))).symm, rfl⟩
             refine G_val rfl rfl rfl rfl (V_move rfl rfl) ?_
             refine G_val rfl rfl rfl rfl (V_eql rfl rfl rfl) ?_
             refine G_val rfl rfl rfl rfl (V_pickF rfl rfl rfl) ?_
             refine G_done ?_
             refine G_ifD rfl (fun hc3 => ?_) (fun hc3 => ?_)
             · skip
               refine G_seq ?_
               refine G_region (l := [0, 1, 2, 3]) rfl ?_
               refine G_val rfl rfl rfl rfl (V_assign rfl rfl) ?_
               refine G_val rfl rfl rfl rfl (V_assign rfl rfl) ?_
               refine G_val rfl rfl rfl rfl (V_assign rfl rfl) ?_
               refine G_val rfl rfl rfl rfl (V_assign rfl rfl) ?_
               refine G_done ?_
               refine G_ret (post := []) Tryd.func68 rfl (RVs_cons (RV_tmp rfl) (RVs_cons (RV_tmp rfl) (RVs_cons (RV_tmp rfl) (RVs_cons (RV_tmp rfl) RVs_nil)))) [] rfl ?_
               dsimp only [packed]
               first
                 | exact ⟨(open_not (open_len (by omega))).symm, rfl⟩
                 | exact ⟨(open_not (open_neq (fun h => absurd h (by assumption)))).symm, rfl⟩
                 | exact ⟨(open_not (open_neq (fun h => absurd (congrArg _ h) (by assumption)))).symm, rfl⟩
                 | exact ⟨(open_not (open_zero (by assumption))).symm, rfl⟩
                 | exact ⟨(open_yes (open_ok (by omega) (lits_bytes_inj (by first | assumption | exact Classical.not_not.1 (by assumption))) (by assumption))).symm, rfl⟩
                 | exact ⟨(open_yes (open_ok (by omega) (by first | assumption | exact Classical.not_not.1 (by assumption)) (by assumption))).symm, rfl⟩
             refine G_skip ?_
             refine G_seq ?_
             refine G_draw mixedK (by kernel_rfl) ?_
             refine GQ_val rfl rfl rfl rfl (V_move rfl rfl) ?_
             refine GQ_val rfl rfl rfl rfl (V_asliceL (l := 4) rfl Tryd.underlying169 infSealW_5 rfl rfl rfl rfl (by first | omega | (simp; done) | (simp; omega) | (simp at *; omega)) rfl) ?_
             refine GQ_call rfl rfl rfl rfl rfl rfl Tryd.call100 (seal_number _ _ _ _ _ ((b.take 8).drop 4) (by simp; omega) (drop4 b (by omega))) [0] rfl (fun v post hp => (hp : _ ∧ _).1) ?_
             refine GQ_val rfl rfl rfl rfl (V_move rfl rfl) ?_
             refine GQ_val rfl rfl rfl rfl (V_move rfl rfl) ?_
             first
               | refine GQ_val rfl rfl rfl rfl (V_ssliceN (lo := 8) (hi := _) rfl Tryd.underlying9 rfl rfl rfl rfl rfl (by first | omega | (simp; done) | (simp; omega) | (simp at *; omega)) (by first | omega | (simp; done) | (simp; omega) | (simp at *; omega))) ?_
               | refine GQ_val rfl rfl rfl rfl (V_sslice rfl Tryd.underlying9 rfl rfl rfl (by first | omega | (simp; done) | (simp; omega) | (simp at *; omega)) (by first | omega | (simp; done) | (simp; omega) | (simp at *; omega)) (by first | omega | (simp; done) | (simp; omega) | (simp at *; omega))) ?_
             refine GQ_val rfl rfl rfl rfl (V_assign rfl rfl) ?_
             refine GQ_val rfl rfl rfl rfl (V_assign rfl rfl) ?_
             refine GQ_val rfl rfl rfl rfl (V_assign rfl rfl) ?_
             refine GQ_val rfl rfl rfl rfl (V_assign rfl rfl) ?_
             refine GQ_done rfl ?_
             refine G_ret (post := []) Tryd.func68 rfl (RVs_cons (RV_tmp rfl) (RVs_cons (RV_tmp rfl) (RVs_cons (RV_tmp rfl) (RVs_cons (RV_tmp rfl) RVs_nil)))) [] rfl ?_
             dsimp only [packed]
             first
               | exact ⟨(open_not (open_len (by omega))).symm, rfl⟩
               | exact ⟨(open_not (open_neq (fun h => absurd h (by assumption)))).symm, rfl⟩
               | exact ⟨(open_not (open_neq (fun h => absurd (congrArg _ h) (by assumption)))).symm, rfl⟩
               | exact ⟨(open_not (open_zero (by assumption))).symm, rfl⟩
               | exact ⟨(open_yes (open_ok (by omega) (lits_bytes_inj (by first | assumption | exact Classical.not_not.1 (by assumption))) (by assumption))).symm, rfl⟩
               | exact ⟨(open_yes (open_ok (by omega) (by first | assumption | exact Classical.not_not.1 (by assumption)) (by assumption))).symm, rfl⟩
     · skip
       refine GHop_new rfl rfl rfl rfl (N_allocA rfl infSealW_169 rfl) [] (fun _ => ⟨_, rfl⟩) (fun b7 => ?_)
       refine GH_all [6] (by kernel_rfl) (by decide) ?_
       refine (And.intro ?_ trivial)
       · skip
         refine GHop_call (L2 := [_, _]) rfl rfl rfl rfl rfl rfl Tryd.call99 (seal_of _ (by simp; omega)) [] [] rfl rfl [] (by rintro v post ⟨rfl, rfl⟩; exact ⟨_, rfl⟩) ?_
         rintro v post ⟨rfl, rfl⟩
         show GH _ _ _ _ _ _ _ [_, _] _
         refine GH_all [9] (by kernel_rfl) (by decide) ?_
         refine (And.intro ?_ trivial)
         · skip
           refine GHop_put (l1 := []) (L' := [_, _]) rfl rfl rfl rfl (P_storeA (s := 8) rfl rfl rfl (mem_at 0 rfl) (by first | rfl | (simp [bcells_length]; done) | (simp [bcells_length]; omega) | (simp [bcells_length, *]; done)) infSealW_169 rfl (by first | rfl | (simp [bcells_length]; done) | (simp [bcells_length]; omega) | (simp [bcells_length, *]; done)) (by first | rfl | exact bcells_all _ | (simp [Value.oneCell']; done) | (simp [Value.oneCell', *]; done))) rfl [] rfl ?_
           refine GH_all [10] (by kernel_rfl) (by decide) ?_
           refine (And.intro ?_ trivial)
           · skip
             refine GHop_put (l1 := [_]) (L' := [_, _]) rfl rfl rfl rfl (P_storeA (s := 8) rfl rfl rfl (mem_at 1 rfl) (by first | rfl | (simp [bcells_length]; done) | (simp [bcells_length]; omega) | (simp [bcells_length, *]; done)) infSealW_169 rfl (by first | rfl | (simp [bcells_length]; done) | (simp [bcells_length]; omega) | (simp [bcells_length, *]; done)) (by first | rfl | exact bcells_all _ | (simp [Value.oneCell']; done) | (simp [Value.oneCell', *]; done))) rfl [] rfl ?_
             refine GH_done (by kernel_rfl) ?_
             refine G_seq ?_
             refine G_region (l := [0, 1, 2]) rfl ?_
             refine G_val rfl rfl rfl rfl (V_asliceH (h := 4) rfl Tryd.underlying169 infSealW_5 rfl rfl rfl (by first | omega | (simp; done) | (simp; omega) | (simp at *; omega))) ?_
             refine G_call (L2 := [_, _]) rfl rfl rfl rfl rfl rfl Tryd.call100 (seal_number _ _ _ _ _ (b.take 4) (by simp; omega) (take4 b)) [] [0] rfl rfl ?_
             rintro v post ⟨rfl, rfl⟩
             show G _ _ _ [_, _] _
             refine G_val rfl rfl rfl rfl (V_assign rfl rfl) ?_
             refine G_done ?_
             refine G_seq ?_
             refine G_seq ?_
             refine G_region (l := [0, 1, 2, 3, 4, 5, 6]) rfl ?_
             first
               | refine G_val rfl rfl rfl rfl (V_loadW (s := 8) rfl rfl (mem_at 0 rfl) Tryd.underlying169 rfl infSealW_169 rfl (by first | rfl | (simp [bcells_length]; done) | (simp [bcells_length]; omega) | (simp [bcells_length, *]; done))) ?_
               | refine G_val rfl rfl rfl rfl (V_loadA (s := 8) rfl rfl (mem_at 0 rfl) Tryd.underlying169 rfl infSealW_169 rfl rfl (by first | rfl | (simp [bcells_length]; done) | (simp [bcells_length]; omega) | (simp [bcells_length, *]; done))) ?_
             first
               | refine G_val rfl rfl rfl rfl (V_loadW (s := 8) rfl rfl (mem_at 1 rfl) Tryd.underlying169 rfl infSealW_169 rfl (by first | rfl | (simp [bcells_length]; done) | (simp [bcells_length]; omega) | (simp [bcells_length, *]; done))) ?_
               | refine G_val rfl rfl rfl rfl (V_loadA (s := 8) rfl rfl (mem_at 1 rfl) Tryd.underlying169 rfl infSealW_169 rfl rfl (by first | rfl | (simp [bcells_length]; done) | (simp [bcells_length]; omega) | (simp [bcells_length, *]; done))) ?_
             refine G_val rfl rfl rfl rfl (V_aggneq (m := 6) rfl Tryd.eqGuardType169 (by kernel_rfl) (by decide) (formed_of Tryd.underlying169 rfl (by kernel_rfl : Tryd.prog.cellsOf 169 = 8) (by first | rfl | (simp [bcells_length]; done) | (simp [bcells_length]; omega) | (simp [bcells_length, *]; done))) (formed_of Tryd.underlying169 rfl (by kernel_rfl : Tryd.prog.cellsOf 169 = 8) (by first | rfl | (simp [bcells_length]; done) | (simp [bcells_length]; omega) | (simp [bcells_length, *]; done))) rfl rfl (key8 _ (by simp; omega)) (key8 _ (by simp; omega))) ?_
             refine G_val rfl rfl rfl rfl (V_move rfl rfl) ?_
             refine G_splitD 25 rfl (fun hc2 => ?_) (fun hc2 => ?_)
             · skip
               refine G_off rfl rfl rfl rfl ?_
               refine G_off rfl rfl rfl rfl ?_
               refine G_val rfl rfl rfl rfl (V_pickT rfl rfl rfl) ?_
               refine G_done ?_
               refine G_then rfl ?_
               refine G_seq ?_
               refine G_region (l := [0, 1, 2, 3]) rfl ?_
               refine G_val rfl rfl rfl rfl (V_assign rfl rfl) ?_
               refine G_val rfl rfl rfl rfl (V_assign rfl rfl) ?_
               refine G_val rfl rfl rfl rfl (V_assign rfl rfl) ?_
               refine G_val rfl rfl rfl rfl (V_assign rfl rfl) ?_
               refine G_done ?_
               refine G_ret (post := []) Tryd.func68 rfl (RVs_cons (RV_tmp rfl) (RVs_cons (RV_tmp rfl) (RVs_cons (RV_tmp rfl) (RVs_cons (RV_tmp rfl) RVs_nil)))) [] rfl ?_
               dsimp only [packed]
               first
                 | exact ⟨(open_not (open_len (by omega))).symm, rfl⟩
                 | exact ⟨(open_not (open_neq (fun h => absurd h (by assumption)))).symm, rfl⟩
                 | exact ⟨(open_not (open_neq (fun h => absurd (congrArg _ h) (by assumption)))).symm, rfl⟩
                 | exact ⟨(open_not (open_zero (by assumption))).symm, rfl⟩
                 | exact ⟨(open_yes (open_ok (by omega) (lits_bytes_inj (by first | assumption | exact Classical.not_not.1 (by assumption))) (by assumption))).symm, rfl⟩
                 | exact ⟨(open_yes (open_ok (by omega) (by first | assumption | exact Classical.not_not.1 (by assumption)) (by assumption))).symm, rfl⟩
             refine G_val rfl rfl rfl rfl (V_move rfl rfl) ?_
             refine G_val rfl rfl rfl rfl (V_eql rfl rfl rfl) ?_
             refine G_val rfl rfl rfl rfl (V_pickF rfl rfl rfl) ?_
             refine G_done ?_
             refine G_ifD rfl (fun hc3 => ?_) (fun hc3 => ?_)
             · skip
               refine G_seq ?_
               refine G_region (l := [0, 1, 2, 3]) rfl ?_
               refine G_val rfl rfl rfl rfl (V_assign rfl rfl) ?_
               refine G_val rfl rfl rfl rfl (V_assign rfl rfl) ?_
               refine G_val rfl rfl rfl rfl (V_assign rfl rfl) ?_
               refine G_val rfl rfl rfl rfl (V_assign rfl rfl) ?_
               refine G_done ?_
               refine G_ret (post := []) Tryd.func68 rfl (RVs_cons (RV_tmp rfl) (RVs_cons (RV_tmp rfl) (RVs_cons (RV_tmp rfl) (RVs_cons (RV_tmp rfl) RVs_nil)))) [] rfl ?_
               dsimp only [packed]
               first
                 | exact ⟨(open_not (open_len (by omega))).symm, rfl⟩
                 | exact ⟨(open_not (open_neq (fun h => absurd h (by assumption)))).symm, rfl⟩
                 | exact ⟨(open_not (open_neq (fun h => absurd (congrArg _ h) (by assumption)))).symm, rfl⟩
                 | exact ⟨(open_not (open_zero (by assumption))).symm, rfl⟩
                 | exact ⟨(open_yes (open_ok (by omega) (lits_bytes_inj (by first | assumption | exact Classical.not_not.1 (by assumption))) (by assumption))).symm, rfl⟩
                 | exact ⟨(open_yes (open_ok (by omega) (by first | assumption | exact Classical.not_not.1 (by assumption)) (by assumption))).symm, rfl⟩
             refine G_skip ?_
             refine G_seq ?_
             refine G_draw mixedK (by kernel_rfl) ?_
             refine GQ_val rfl rfl rfl rfl (V_move rfl rfl) ?_
             refine GQ_val rfl rfl rfl rfl (V_asliceL (l := 4) rfl Tryd.underlying169 infSealW_5 rfl rfl rfl rfl (by first | omega | (simp; done) | (simp; omega) | (simp at *; omega)) rfl) ?_
             refine GQ_call rfl rfl rfl rfl rfl rfl Tryd.call100 (seal_number _ _ _ _ _ ((b.take 8).drop 4) (by simp; omega) (drop4 b (by omega))) [0] rfl (fun v post hp => (hp : _ ∧ _).1) ?_
             refine GQ_val rfl rfl rfl rfl (V_move rfl rfl) ?_
             refine GQ_val rfl rfl rfl rfl (V_move rfl rfl) ?_
             first
               | refine GQ_val rfl rfl rfl rfl (V_ssliceN (lo := 8) (hi := _) rfl Tryd.underlying9 rfl rfl rfl rfl rfl (by first | omega | (simp; done) | (simp; omega) | (simp at *; omega)) (by first | omega | (simp; done) | (simp; omega) | (simp at *; omega))) ?_
               | refine GQ_val rfl rfl rfl rfl (V_sslice rfl Tryd.underlying9 rfl rfl rfl (by first | omega | (simp; done) | (simp; omega) | (simp at *; omega)) (by first | omega | (simp; done) | (simp; omega) | (simp at *; omega)) (by first | omega | (simp; done) | (simp; omega) | (simp at *; omega))) ?_
             refine GQ_val rfl rfl rfl rfl (V_assign rfl rfl) ?_
             refine GQ_val rfl rfl rfl rfl (V_assign rfl rfl) ?_
             refine GQ_val rfl rfl rfl rfl (V_assign rfl rfl) ?_
             refine GQ_val rfl rfl rfl rfl (V_assign rfl rfl) ?_
             refine GQ_done rfl ?_
             refine G_ret (post := []) Tryd.func68 rfl (RVs_cons (RV_tmp rfl) (RVs_cons (RV_tmp rfl) (RVs_cons (RV_tmp rfl) (RVs_cons (RV_tmp rfl) RVs_nil)))) [] rfl ?_
             dsimp only [packed]
             first
               | exact ⟨(open_not (open_len (by omega))).symm, rfl⟩
               | exact ⟨(open_not (open_neq (fun h => absurd h (by assumption)))).symm, rfl⟩
               | exact ⟨(open_not (open_neq (fun h => absurd (congrArg _ h) (by assumption)))).symm, rfl⟩
               | exact ⟨(open_not (open_zero (by assumption))).symm, rfl⟩
               | exact ⟨(open_yes (open_ok (by omega) (lits_bytes_inj (by first | assumption | exact Classical.not_not.1 (by assumption))) (by assumption))).symm, rfl⟩
               | exact ⟨(open_yes (open_ok (by omega) (by first | assumption | exact Classical.not_not.1 (by assumption)) (by assumption))).symm, rfl⟩
 · skip
   refine GHop_new rfl rfl rfl rfl (N_allocA rfl infSealW_169 rfl) [] (fun _ => ⟨_, rfl⟩) (fun b7 => ?_)
   refine GH_all [2, 8] (by kernel_rfl) (by decide) ?_
   refine (And.intro ?_ (And.intro ?_ trivial))
   · skip
     refine GHop_call (L2 := [_]) rfl rfl rfl rfl rfl rfl Tryd.call99 (seal_of _ (by simp; omega)) [] [] rfl rfl [] (by rintro v post ⟨rfl, rfl⟩; exact ⟨_, rfl⟩) ?_
     rintro v post ⟨rfl, rfl⟩
     show GH _ _ _ _ _ _ _ [_] _
     refine GH_all [6, 8] (by kernel_rfl) (by decide) ?_
     refine (And.intro ?_ (And.intro ?_ trivial))
     · skip
       refine GHop_call (L2 := [_]) rfl rfl rfl rfl rfl rfl Tryd.call99 (seal_of _ (by simp; omega)) [] [] rfl rfl [] (by rintro v post ⟨rfl, rfl⟩; exact ⟨_, rfl⟩) ?_
       rintro v post ⟨rfl, rfl⟩
       show GH _ _ _ _ _ _ _ [_] _
       refine GH_all [8] (by kernel_rfl) (by decide) ?_
       refine (And.intro ?_ trivial)
       · skip
         refine GHop_new rfl rfl rfl rfl (N_allocA rfl infSealW_169 rfl) [] (fun _ => ⟨_, rfl⟩) (fun b8 => ?_)
         refine GH_all [9] (by kernel_rfl) (by decide) ?_
         refine (And.intro ?_ trivial)
         · skip
           refine GHop_put (l1 := [_]) (L' := [_, _]) rfl rfl rfl rfl (P_storeA (s := 8) rfl rfl rfl (mem_at 1 rfl) (by first | rfl | (simp [bcells_length]; done) | (simp [bcells_length]; omega) | (simp [bcells_length, *]; done)) infSealW_169 rfl (by first | rfl | (simp [bcells_length]; done) | (simp [bcells_length]; omega) | (simp [bcells_length, *]; done)) (by first | rfl | exact bcells_all _ | (simp [Value.oneCell']; done) | (simp [Value.oneCell', *]; done))) rfl [] rfl ?_
           refine GH_all [10] (by kernel_rfl) (by decide) ?_
           refine (And.intro ?_ trivial)
           · skip
             refine GHop_put (l1 := []) (L' := [_, _]) rfl rfl rfl rfl (P_storeA (s := 8) rfl rfl rfl (mem_at 0 rfl) (by first | rfl | (simp [bcells_length]; done) | (simp [bcells_length]; omega) | (simp [bcells_length, *]; done)) infSealW_169 rfl (by first | rfl | (simp [bcells_length]; done) | (simp [bcells_length]; omega) | (simp [bcells_length, *]; done)) (by first | rfl | exact bcells_all _ | (simp [Value.oneCell']; done) | (simp [Value.oneCell', *]; done))) rfl [] rfl ?_
             refine GH_done (by kernel_rfl) ?_
             refine G_seq ?_
             refine G_region (l := [0, 1, 2]) rfl ?_
             refine G_val rfl rfl rfl rfl (V_asliceH (h := 4) rfl Tryd.underlying169 infSealW_5 rfl rfl rfl (by first | omega | (simp; done) | (simp; omega) | (simp at *; omega))) ?_
             refine G_call (L2 := [_, _]) rfl rfl rfl rfl rfl rfl Tryd.call100 (seal_number _ _ _ _ _ (b.take 4) (by simp; omega) (take4 b)) [] [1] rfl rfl ?_
             rintro v post ⟨rfl, rfl⟩
             show G _ _ _ [_, _] _
             refine G_val rfl rfl rfl rfl (V_assign rfl rfl) ?_
             refine G_done ?_
             refine G_seq ?_
             refine G_seq ?_
             refine G_region (l := [0, 1, 2, 3, 4, 5, 6]) rfl ?_
             first
               | refine G_val rfl rfl rfl rfl (V_loadW (s := 8) rfl rfl (mem_at 1 rfl) Tryd.underlying169 rfl infSealW_169 rfl (by first | rfl | (simp [bcells_length]; done) | (simp [bcells_length]; omega) | (simp [bcells_length, *]; done))) ?_
               | refine G_val rfl rfl rfl rfl (V_loadA (s := 8) rfl rfl (mem_at 1 rfl) Tryd.underlying169 rfl infSealW_169 rfl rfl (by first | rfl | (simp [bcells_length]; done) | (simp [bcells_length]; omega) | (simp [bcells_length, *]; done))) ?_
             first
               | refine G_val rfl rfl rfl rfl (V_loadW (s := 8) rfl rfl (mem_at 0 rfl) Tryd.underlying169 rfl infSealW_169 rfl (by first | rfl | (simp [bcells_length]; done) | (simp [bcells_length]; omega) | (simp [bcells_length, *]; done))) ?_
               | refine G_val rfl rfl rfl rfl (V_loadA (s := 8) rfl rfl (mem_at 0 rfl) Tryd.underlying169 rfl infSealW_169 rfl rfl (by first | rfl | (simp [bcells_length]; done) | (simp [bcells_length]; omega) | (simp [bcells_length, *]; done))) ?_
             refine G_val rfl rfl rfl rfl (V_aggneq (m := 6) rfl Tryd.eqGuardType169 (by kernel_rfl) (by decide) (formed_of Tryd.underlying169 rfl (by kernel_rfl : Tryd.prog.cellsOf 169 = 8) (by first | rfl | (simp [bcells_length]; done) | (simp [bcells_length]; omega) | (simp [bcells_length, *]; done))) (formed_of Tryd.underlying169 rfl (by kernel_rfl : Tryd.prog.cellsOf 169 = 8) (by first | rfl | (simp [bcells_length]; done) | (simp [bcells_length]; omega) | (simp [bcells_length, *]; done))) rfl rfl (key8 _ (by simp; omega)) (key8 _ (by simp; omega))) ?_
             refine G_val rfl rfl rfl rfl (V_move rfl rfl) ?_
             refine G_splitD 25 rfl (fun hc2 => ?_) (fun hc2 => ?_)
             · skip
               refine G_off rfl rfl rfl rfl ?_
               refine G_off rfl rfl rfl rfl ?_
               refine G_val rfl rfl rfl rfl (V_pickT rfl rfl rfl) ?_
               refine G_done ?_
               refine G_then rfl ?_
               refine G_seq ?_
               refine G_region (l := [0, 1, 2, 3]) rfl ?_
               refine G_val rfl rfl rfl rfl (V_assign rfl rfl) ?_
               refine G_val rfl rfl rfl rfl (V_assign rfl rfl) ?_
               refine G_val rfl rfl rfl rfl (V_assign rfl rfl) ?_
               refine G_val rfl rfl rfl rfl (V_assign rfl rfl) ?_
               refine G_done ?_
               refine G_ret (post := []) Tryd.func68 rfl (RVs_cons (RV_tmp rfl) (RVs_cons (RV_tmp rfl) (RVs_cons (RV_tmp rfl) (RVs_cons (RV_tmp rfl) RVs_nil)))) [] rfl ?_
               dsimp only [packed]
               first
                 | exact ⟨(open_not (open_len (by omega))).symm, rfl⟩
                 | exact ⟨(open_not (open_neq (fun h => absurd h (by assumption)))).symm, rfl⟩
                 | exact ⟨(open_not (open_neq (fun h => absurd (congrArg _ h) (by assumption)))).symm, rfl⟩
                 | exact ⟨(open_not (open_zero (by assumption))).symm, rfl⟩
                 | exact ⟨(open_yes (open_ok (by omega) (lits_bytes_inj (by first | assumption | exact Classical.not_not.1 (by assumption))) (by assumption))).symm, rfl⟩
                 | exact ⟨(open_yes (open_ok (by omega) (by first | assumption | exact Classical.not_not.1 (by assumption)) (by assumption))).symm, rfl⟩
             refine G_val rfl rfl rfl rfl (V_move rfl rfl) ?_
             refine G_val rfl rfl rfl rfl (V_eql rfl rfl rfl) ?_
             refine G_val rfl rfl rfl rfl (V_pickF rfl rfl rfl) ?_
             refine G_done ?_
             refine G_ifD rfl (fun hc3 => ?_) (fun hc3 => ?_)
             · skip
               refine G_seq ?_
               refine G_region (l := [0, 1, 2, 3]) rfl ?_
               refine G_val rfl rfl rfl rfl (V_assign rfl rfl) ?_
               refine G_val rfl rfl rfl rfl (V_assign rfl rfl) ?_
               refine G_val rfl rfl rfl rfl (V_assign rfl rfl) ?_
               refine G_val rfl rfl rfl rfl (V_assign rfl rfl) ?_
               refine G_done ?_
               refine G_ret (post := []) Tryd.func68 rfl (RVs_cons (RV_tmp rfl) (RVs_cons (RV_tmp rfl) (RVs_cons (RV_tmp rfl) (RVs_cons (RV_tmp rfl) RVs_nil)))) [] rfl ?_
               dsimp only [packed]
               first
                 | exact ⟨(open_not (open_len (by omega))).symm, rfl⟩
                 | exact ⟨(open_not (open_neq (fun h => absurd h (by assumption)))).symm, rfl⟩
                 | exact ⟨(open_not (open_neq (fun h => absurd (congrArg _ h) (by assumption)))).symm, rfl⟩
                 | exact ⟨(open_not (open_zero (by assumption))).symm, rfl⟩
                 | exact ⟨(open_yes (open_ok (by omega) (lits_bytes_inj (by first | assumption | exact Classical.not_not.1 (by assumption))) (by assumption))).symm, rfl⟩
                 | exact ⟨(open_yes (open_ok (by omega) (by first | assumption | exact Classical.not_not.1 (by assumption)) (by assumption))).symm, rfl⟩
             refine G_skip ?_
             refine G_seq ?_
             refine G_draw mixedK (by kernel_rfl) ?_
             refine GQ_val rfl rfl rfl rfl (V_move rfl rfl) ?_
             refine GQ_val rfl rfl rfl rfl (V_asliceL (l := 4) rfl Tryd.underlying169 infSealW_5 rfl rfl rfl rfl (by first | omega | (simp; done) | (simp; omega) | (simp at *; omega)) rfl) ?_
             refine GQ_call rfl rfl rfl rfl rfl rfl Tryd.call100 (seal_number _ _ _ _ _ ((b.take 8).drop 4) (by simp; omega) (drop4 b (by omega))) [1] rfl (fun v post hp => (hp : _ ∧ _).1) ?_
             refine GQ_val rfl rfl rfl rfl (V_move rfl rfl) ?_
             refine GQ_val rfl rfl rfl rfl (V_move rfl rfl) ?_
             first
               | refine GQ_val rfl rfl rfl rfl (V_ssliceN (lo := 8) (hi := _) rfl Tryd.underlying9 rfl rfl rfl rfl rfl (by first | omega | (simp; done) | (simp; omega) | (simp at *; omega)) (by first | omega | (simp; done) | (simp; omega) | (simp at *; omega))) ?_
               | refine GQ_val rfl rfl rfl rfl (V_sslice rfl Tryd.underlying9 rfl rfl rfl (by first | omega | (simp; done) | (simp; omega) | (simp at *; omega)) (by first | omega | (simp; done) | (simp; omega) | (simp at *; omega)) (by first | omega | (simp; done) | (simp; omega) | (simp at *; omega))) ?_
             refine GQ_val rfl rfl rfl rfl (V_assign rfl rfl) ?_
             refine GQ_val rfl rfl rfl rfl (V_assign rfl rfl) ?_
             refine GQ_val rfl rfl rfl rfl (V_assign rfl rfl) ?_
             refine GQ_val rfl rfl rfl rfl (V_assign rfl rfl) ?_
             refine GQ_done rfl ?_
             refine G_ret (post := []) Tryd.func68 rfl (RVs_cons (RV_tmp rfl) (RVs_cons (RV_tmp rfl) (RVs_cons (RV_tmp rfl) (RVs_cons (RV_tmp rfl) RVs_nil)))) [] rfl ?_
             dsimp only [packed]
             first
               | exact ⟨(open_not (open_len (by omega))).symm, rfl⟩
               | exact ⟨(open_not (open_neq (fun h => absurd h (by assumption)))).symm, rfl⟩
               | exact ⟨(open_not (open_neq (fun h => absurd (congrArg _ h) (by assumption)))).symm, rfl⟩
               | exact ⟨(open_not (open_zero (by assumption))).symm, rfl⟩
               | exact ⟨(open_yes (open_ok (by omega) (lits_bytes_inj (by first | assumption | exact Classical.not_not.1 (by assumption))) (by assumption))).symm, rfl⟩
               | exact ⟨(open_yes (open_ok (by omega) (by first | assumption | exact Classical.not_not.1 (by assumption)) (by assumption))).symm, rfl⟩
     · skip
       refine GHop_new rfl rfl rfl rfl (N_allocA rfl infSealW_169 rfl) [] (fun _ => ⟨_, rfl⟩) (fun b8 => ?_)
       refine GH_all [6] (by kernel_rfl) (by decide) ?_
       refine (And.intro ?_ trivial)
       · skip
         refine GHop_call (L2 := [_, _]) rfl rfl rfl rfl rfl rfl Tryd.call99 (seal_of _ (by simp; omega)) [] [] rfl rfl [] (by rintro v post ⟨rfl, rfl⟩; exact ⟨_, rfl⟩) ?_
         rintro v post ⟨rfl, rfl⟩
         show GH _ _ _ _ _ _ _ [_, _] _
         refine GH_all [9] (by kernel_rfl) (by decide) ?_
         refine (And.intro ?_ trivial)
         · skip
           refine GHop_put (l1 := [_]) (L' := [_, _]) rfl rfl rfl rfl (P_storeA (s := 8) rfl rfl rfl (mem_at 1 rfl) (by first | rfl | (simp [bcells_length]; done) | (simp [bcells_length]; omega) | (simp [bcells_length, *]; done)) infSealW_169 rfl (by first | rfl | (simp [bcells_length]; done) | (simp [bcells_length]; omega) | (simp [bcells_length, *]; done)) (by first | rfl | exact bcells_all _ | (simp [Value.oneCell']; done) | (simp [Value.oneCell', *]; done))) rfl [] rfl ?_
           refine GH_all [10] (by kernel_rfl) (by decide) ?_
           refine (And.intro ?_ trivial)
           · skip
             refine GHop_put (l1 := []) (L' := [_, _]) rfl rfl rfl rfl (P_storeA (s := 8) rfl rfl rfl (mem_at 0 rfl) (by first | rfl | (simp [bcells_length]; done) | (simp [bcells_length]; omega) | (simp [bcells_length, *]; done)) infSealW_169 rfl (by first | rfl | (simp [bcells_length]; done) | (simp [bcells_length]; omega) | (simp [bcells_length, *]; done)) (by first | rfl | exact bcells_all _ | (simp [Value.oneCell']; done) | (simp [Value.oneCell', *]; done))) rfl [] rfl ?_
             refine GH_done (by kernel_rfl) ?_
             refine G_seq ?_
             refine G_region (l := [0, 1, 2]) rfl ?_
             refine G_val rfl rfl rfl rfl (V_asliceH (h := 4) rfl Tryd.underlying169 infSealW_5 rfl rfl rfl (by first | omega | (simp; done) | (simp; omega) | (simp at *; omega))) ?_
             refine G_call (L2 := [_, _]) rfl rfl rfl rfl rfl rfl Tryd.call100 (seal_number _ _ _ _ _ (b.take 4) (by simp; omega) (take4 b)) [] [1] rfl rfl ?_
             rintro v post ⟨rfl, rfl⟩
             show G _ _ _ [_, _] _
             refine G_val rfl rfl rfl rfl (V_assign rfl rfl) ?_
             refine G_done ?_
             refine G_seq ?_
             refine G_seq ?_
             refine G_region (l := [0, 1, 2, 3, 4, 5, 6]) rfl ?_
             first
               | refine G_val rfl rfl rfl rfl (V_loadW (s := 8) rfl rfl (mem_at 1 rfl) Tryd.underlying169 rfl infSealW_169 rfl (by first | rfl | (simp [bcells_length]; done) | (simp [bcells_length]; omega) | (simp [bcells_length, *]; done))) ?_
               | refine G_val rfl rfl rfl rfl (V_loadA (s := 8) rfl rfl (mem_at 1 rfl) Tryd.underlying169 rfl infSealW_169 rfl rfl (by first | rfl | (simp [bcells_length]; done) | (simp [bcells_length]; omega) | (simp [bcells_length, *]; done))) ?_
             first
               | refine G_val rfl rfl rfl rfl (V_loadW (s := 8) rfl rfl (mem_at 0 rfl) Tryd.underlying169 rfl infSealW_169 rfl (by first | rfl | (simp [bcells_length]; done) | (simp [bcells_length]; omega) | (simp [bcells_length, *]; done))) ?_
               | refine G_val rfl rfl rfl rfl (V_loadA (s := 8) rfl rfl (mem_at 0 rfl) Tryd.underlying169 rfl infSealW_169 rfl rfl (by first | rfl | (simp [bcells_length]; done) | (simp [bcells_length]; omega) | (simp [bcells_length, *]; done))) ?_
             refine G_val rfl rfl rfl rfl (V_aggneq (m := 6) rfl Tryd.eqGuardType169 (by kernel_rfl) (by decide) (formed_of Tryd.underlying169 rfl (by kernel_rfl : Tryd.prog.cellsOf 169 = 8) (by first | rfl | (simp [bcells_length]; done) | (simp [bcells_length]; omega) | (simp [bcells_length, *]; done))) (formed_of Tryd.underlying169 rfl (by kernel_rfl : Tryd.prog.cellsOf 169 = 8) (by first | rfl | (simp [bcells_length]; done) | (simp [bcells_length]; omega) | (simp [bcells_length, *]; done))) rfl rfl (key8 _ (by simp; omega)) (key8 _ (by simp; omega))) ?_
             refine G_val rfl rfl rfl rfl (V_move rfl rfl) ?_
             refine G_splitD 25 rfl (fun hc2 => ?_) (fun hc2 => ?_)
             · skip
               refine G_off rfl rfl rfl rfl ?_
               refine G_off rfl rfl rfl rfl ?_
               refine G_val rfl rfl rfl rfl (V_pickT rfl rfl rfl) ?_
               refine G_done ?_
               refine G_then rfl ?_
               refine G_seq ?_
               refine G_region (l := [0, 1, 2, 3]) rfl ?_
               refine G_val rfl rfl rfl rfl (V_assign rfl rfl) ?_
               refine G_val rfl rfl rfl rfl (V_assign rfl rfl) ?_
               refine G_val rfl rfl rfl rfl (V_assign rfl rfl) ?_
               refine G_val rfl rfl rfl rfl (V_assign rfl rfl) ?_
               refine G_done ?_
               refine G_ret (post := []) Tryd.func68 rfl (RVs_cons (RV_tmp rfl) (RVs_cons (RV_tmp rfl) (RVs_cons (RV_tmp rfl) (RVs_cons (RV_tmp rfl) RVs_nil)))) [] rfl ?_
               dsimp only [packed]
               first
                 | exact ⟨(open_not (open_len (by omega))).symm, rfl⟩
                 | exact ⟨(open_not (open_neq (fun h => absurd h (by assumption)))).symm, rfl⟩
                 | exact ⟨(open_not (open_neq (fun h => absurd (congrArg _ h) (by assumption)))).symm, rfl⟩
                 | exact ⟨(open_not (open_zero (by assumption))).symm, rfl⟩
                 | exact ⟨(open_yes (open_ok (by omega) (lits_bytes_inj (by first | assumption | exact Classical.not_not.1 (by assumption))) (by assumption))).symm, rfl⟩
                 | exact ⟨(open_yes (open_ok (by omega) (by first | assumption | exact Classical.not_not.1 (by assumption)) (by assumption))).symm, rfl⟩
             refine G_val rfl rfl rfl rfl (V_move rfl rfl) ?_
             refine G_val rfl rfl rfl rfl (V_eql rfl rfl rfl) ?_
             refine G_val rfl rfl rfl rfl (V_pickF rfl rfl rfl) ?_
             refine G_done ?_
             refine G_ifD rfl (fun hc3 => ?_) (fun hc3 => ?_)
             · skip
               refine G_seq ?_
               refine G_region (l := [0, 1, 2, 3]) rfl ?_
               refine G_val rfl rfl rfl rfl (V_assign rfl rfl) ?_
               refine G_val rfl rfl rfl rfl (V_assign rfl rfl) ?_
               refine G_val rfl rfl rfl rfl (V_assign rfl rfl) ?_
               refine G_val rfl rfl rfl rfl (V_assign rfl rfl) ?_
               refine G_done ?_
               refine G_ret (post := []) Tryd.func68 rfl (RVs_cons (RV_tmp rfl) (RVs_cons (RV_tmp rfl) (RVs_cons (RV_tmp rfl) (RVs_cons (RV_tmp rfl) RVs_nil)))) [] rfl ?_
               dsimp only [packed]
               first
                 | exact ⟨(open_not (open_len (by omega))).symm, rfl⟩
                 | exact ⟨(open_not (open_neq (fun h => absurd h (by assumption)))).symm, rfl⟩
                 | exact ⟨(open_not (open_neq (fun h => absurd (congrArg _ h) (by assumption)))).symm, rfl⟩
                 | exact ⟨(open_not (open_zero (by assumption))).symm, rfl⟩
                 | exact ⟨(open_yes (open_ok (by omega) (lits_bytes_inj (by first | assumption | exact Classical.not_not.1 (by assumption))) (by assumption))).symm, rfl⟩
                 | exact ⟨(open_yes (open_ok (by omega) (by first | assumption | exact Classical.not_not.1 (by assumption)) (by assumption))).symm, rfl⟩
             refine G_skip ?_
             refine G_seq ?_
             refine G_draw mixedK (by kernel_rfl) ?_
             refine GQ_val rfl rfl rfl rfl (V_move rfl rfl) ?_
             refine GQ_val rfl rfl rfl rfl (V_asliceL (l := 4) rfl Tryd.underlying169 infSealW_5 rfl rfl rfl rfl (by first | omega | (simp; done) | (simp; omega) | (simp at *; omega)) rfl) ?_
             refine GQ_call rfl rfl rfl rfl rfl rfl Tryd.call100 (seal_number _ _ _ _ _ ((b.take 8).drop 4) (by simp; omega) (drop4 b (by omega))) [1] rfl (fun v post hp => (hp : _ ∧ _).1) ?_
             refine GQ_val rfl rfl rfl rfl (V_move rfl rfl) ?_
             refine GQ_val rfl rfl rfl rfl (V_move rfl rfl) ?_
             first
               | refine GQ_val rfl rfl rfl rfl (V_ssliceN (lo := 8) (hi := _) rfl Tryd.underlying9 rfl rfl rfl rfl rfl (by first | omega | (simp; done) | (simp; omega) | (simp at *; omega)) (by first | omega | (simp; done) | (simp; omega) | (simp at *; omega))) ?_
               | refine GQ_val rfl rfl rfl rfl (V_sslice rfl Tryd.underlying9 rfl rfl rfl (by first | omega | (simp; done) | (simp; omega) | (simp at *; omega)) (by first | omega | (simp; done) | (simp; omega) | (simp at *; omega)) (by first | omega | (simp; done) | (simp; omega) | (simp at *; omega))) ?_
             refine GQ_val rfl rfl rfl rfl (V_assign rfl rfl) ?_
             refine GQ_val rfl rfl rfl rfl (V_assign rfl rfl) ?_
             refine GQ_val rfl rfl rfl rfl (V_assign rfl rfl) ?_
             refine GQ_val rfl rfl rfl rfl (V_assign rfl rfl) ?_
             refine GQ_done rfl ?_
             refine G_ret (post := []) Tryd.func68 rfl (RVs_cons (RV_tmp rfl) (RVs_cons (RV_tmp rfl) (RVs_cons (RV_tmp rfl) (RVs_cons (RV_tmp rfl) RVs_nil)))) [] rfl ?_
             dsimp only [packed]
             first
               | exact ⟨(open_not (open_len (by omega))).symm, rfl⟩
               | exact ⟨(open_not (open_neq (fun h => absurd h (by assumption)))).symm, rfl⟩
               | exact ⟨(open_not (open_neq (fun h => absurd (congrArg _ h) (by assumption)))).symm, rfl⟩
               | exact ⟨(open_not (open_zero (by assumption))).symm, rfl⟩
               | exact ⟨(open_yes (open_ok (by omega) (lits_bytes_inj (by first | assumption | exact Classical.not_not.1 (by assumption))) (by assumption))).symm, rfl⟩
               | exact ⟨(open_yes (open_ok (by omega) (by first | assumption | exact Classical.not_not.1 (by assumption)) (by assumption))).symm, rfl⟩
   · skip
     refine GHop_new rfl rfl rfl rfl (N_allocA rfl infSealW_169 rfl) [] (fun _ => ⟨_, rfl⟩) (fun b8 => ?_)
     refine GH_all [2] (by kernel_rfl) (by decide) ?_
     refine (And.intro ?_ trivial)
     · skip
       refine GHop_call (L2 := [_, _]) rfl rfl rfl rfl rfl rfl Tryd.call99 (seal_of _ (by simp; omega)) [] [] rfl rfl [] (by rintro v post ⟨rfl, rfl⟩; exact ⟨_, rfl⟩) ?_
       rintro v post ⟨rfl, rfl⟩
       show GH _ _ _ _ _ _ _ [_, _] _
       refine GH_all [6] (by kernel_rfl) (by decide) ?_
       refine (And.intro ?_ trivial)
       · skip
         refine GHop_call (L2 := [_, _]) rfl rfl rfl rfl rfl rfl Tryd.call99 (seal_of _ (by simp; omega)) [] [] rfl rfl [] (by rintro v post ⟨rfl, rfl⟩; exact ⟨_, rfl⟩) ?_
         rintro v post ⟨rfl, rfl⟩
         show GH _ _ _ _ _ _ _ [_, _] _
         refine GH_all [9] (by kernel_rfl) (by decide) ?_
         refine (And.intro ?_ trivial)
         · skip
           refine GHop_put (l1 := [_]) (L' := [_, _]) rfl rfl rfl rfl (P_storeA (s := 8) rfl rfl rfl (mem_at 1 rfl) (by first | rfl | (simp [bcells_length]; done) | (simp [bcells_length]; omega) | (simp [bcells_length, *]; done)) infSealW_169 rfl (by first | rfl | (simp [bcells_length]; done) | (simp [bcells_length]; omega) | (simp [bcells_length, *]; done)) (by first | rfl | exact bcells_all _ | (simp [Value.oneCell']; done) | (simp [Value.oneCell', *]; done))) rfl [] rfl ?_
           refine GH_all [10] (by kernel_rfl) (by decide) ?_
           refine (And.intro ?_ trivial)
           · skip
             refine GHop_put (l1 := []) (L' := [_, _]) rfl rfl rfl rfl (P_storeA (s := 8) rfl rfl rfl (mem_at 0 rfl) (by first | rfl | (simp [bcells_length]; done) | (simp [bcells_length]; omega) | (simp [bcells_length, *]; done)) infSealW_169 rfl (by first | rfl | (simp [bcells_length]; done) | (simp [bcells_length]; omega) | (simp [bcells_length, *]; done)) (by first | rfl | exact bcells_all _ | (simp [Value.oneCell']; done) | (simp [Value.oneCell', *]; done))) rfl [] rfl ?_
             refine GH_done (by kernel_rfl) ?_
             refine G_seq ?_
             refine G_region (l := [0, 1, 2]) rfl ?_
             refine G_val rfl rfl rfl rfl (V_asliceH (h := 4) rfl Tryd.underlying169 infSealW_5 rfl rfl rfl (by first | omega | (simp; done) | (simp; omega) | (simp at *; omega))) ?_
             refine G_call (L2 := [_, _]) rfl rfl rfl rfl rfl rfl Tryd.call100 (seal_number _ _ _ _ _ (b.take 4) (by simp; omega) (take4 b)) [] [1] rfl rfl ?_
             rintro v post ⟨rfl, rfl⟩
             show G _ _ _ [_, _] _
             refine G_val rfl rfl rfl rfl (V_assign rfl rfl) ?_
             refine G_done ?_
             refine G_seq ?_
             refine G_seq ?_
             refine G_region (l := [0, 1, 2, 3, 4, 5, 6]) rfl ?_
             first
               | refine G_val rfl rfl rfl rfl (V_loadW (s := 8) rfl rfl (mem_at 1 rfl) Tryd.underlying169 rfl infSealW_169 rfl (by first | rfl | (simp [bcells_length]; done) | (simp [bcells_length]; omega) | (simp [bcells_length, *]; done))) ?_
               | refine G_val rfl rfl rfl rfl (V_loadA (s := 8) rfl rfl (mem_at 1 rfl) Tryd.underlying169 rfl infSealW_169 rfl rfl (by first | rfl | (simp [bcells_length]; done) | (simp [bcells_length]; omega) | (simp [bcells_length, *]; done))) ?_
             first
               | refine G_val rfl rfl rfl rfl (V_loadW (s := 8) rfl rfl (mem_at 0 rfl) Tryd.underlying169 rfl infSealW_169 rfl (by first | rfl | (simp [bcells_length]; done) | (simp [bcells_length]; omega) | (simp [bcells_length, *]; done))) ?_
               | refine G_val rfl rfl rfl rfl (V_loadA (s := 8) rfl rfl (mem_at 0 rfl) Tryd.underlying169 rfl infSealW_169 rfl rfl (by first | rfl | (simp [bcells_length]; done) | (simp [bcells_length]; omega) | (simp [bcells_length, *]; done))) ?_
             refine G_val rfl rfl rfl rfl (V_aggneq (m := 6) rfl Tryd.eqGuardType169 (by kernel_rfl) (by decide) (formed_of Tryd.underlying169 rfl (by kernel_rfl : Tryd.prog.cellsOf 169 = 8) (by first | rfl | (simp [bcells_length]; done) | (simp [bcells_length]; omega) | (simp [bcells_length, *]; done))) (formed_of Tryd.underlying169 rfl (by kernel_rfl : Tryd.prog.cellsOf 169 = 8) (by first | rfl | (simp [bcells_length]; done) | (simp [bcells_length]; omega) | (simp [bcells_length, *]; done))) rfl rfl (key8 _ (by simp; omega)) (key8 _ (by simp; omega))) ?_
             refine G_val rfl rfl rfl rfl (V_move rfl rfl) ?_
             refine G_splitD 25 rfl (fun hc2 => ?_) (fun hc2 => ?_)
             · skip
               refine G_off rfl rfl rfl rfl ?_
               refine G_off rfl rfl rfl rfl ?_
               refine G_val rfl rfl rfl rfl (V_pickT rfl rfl rfl) ?_
               refine G_done ?_
               refine G_then rfl ?_
               refine G_seq ?_
               refine G_region (l := [0, 1, 2, 3]) rfl ?_
               refine G_val rfl rfl rfl rfl (V_assign rfl rfl) ?_
               refine G_val rfl rfl rfl rfl (V_assign rfl rfl) ?_
               refine G_val rfl rfl rfl rfl (V_assign rfl rfl) ?_
               refine G_val rfl rfl rfl rfl (V_assign rfl rfl) ?_
               refine G_done ?_
               refine G_ret (post := []) Tryd.func68 rfl (RVs_cons (RV_tmp rfl) (RVs_cons (RV_tmp rfl) (RVs_cons (RV_tmp rfl) (RVs_cons (RV_tmp rfl) RVs_nil)))) [] rfl ?_
               dsimp only [packed]
               first
                 | exact ⟨(open_not (open_len (by omega))).symm, rfl⟩
                 | exact ⟨(open_not (open_neq (fun h => absurd h (by assumption)))).symm, rfl⟩
                 | exact ⟨(open_not (open_neq (fun h => absurd (congrArg _ h) (by assumption)))).symm, rfl⟩
                 | exact ⟨(open_not (open_zero (by assumption))).symm, rfl⟩
                 | exact ⟨(open_yes (open_ok (by omega) (lits_bytes_inj (by first | assumption | exact Classical.not_not.1 (by assumption))) (by assumption))).symm, rfl⟩
                 | exact ⟨(open_yes (open_ok (by omega) (by first | assumption | exact Classical.not_not.1 (by assumption)) (by assumption))).symm, rfl⟩
             refine G_val rfl rfl rfl rfl (V_move rfl rfl) ?_
             refine G_val rfl rfl rfl rfl (V_eql rfl rfl rfl) ?_
             refine G_val rfl rfl rfl rfl (V_pickF rfl rfl rfl) ?_
             refine G_done ?_
             refine G_ifD rfl (fun hc3 => ?_) (fun hc3 => ?_)
             · skip
               refine G_seq ?_
               refine G_region (l := [0, 1, 2, 3]) rfl ?_
               refine G_val rfl rfl rfl rfl (V_assign rfl rfl) ?_
               refine G_val rfl rfl rfl rfl (V_assign rfl rfl) ?_
               refine G_val rfl rfl rfl rfl (V_assign rfl rfl) ?_
               refine G_val rfl rfl rfl rfl (V_assign rfl rfl) ?_
               refine G_done ?_
               refine G_ret (post := []) Tryd.func68 rfl (RVs_cons (RV_tmp rfl) (RVs_cons (RV_tmp rfl) (RVs_cons (RV_tmp rfl) (RVs_cons (RV_tmp rfl) RVs_nil)))) [] rfl ?_
               dsimp only [packed]
               first
                 | exact ⟨(open_not (open_len (by omega))).symm, rfl⟩
                 | exact ⟨(open_not (open_neq (fun h => absurd h (by assumption)))).symm, rfl⟩
                 | exact ⟨(open_not (open_neq (fun h => absurd (congrArg _ h) (by assumption)))).symm, rfl⟩
                 | exact ⟨(open_not (open_zero (by assumption))).symm, rfl⟩
                 | exact ⟨(open_yes (open_ok (by omega) (lits_bytes_inj (by first | assumption | exact Classical.not_not.1 (by assumption))) (by assumption))).symm, rfl⟩
                 | exact ⟨(open_yes (open_ok (by omega) (by first | assumption | exact Classical.not_not.1 (by assumption)) (by assumption))).symm, rfl⟩
             refine G_skip ?_
             refine G_seq ?_
             refine G_draw mixedK (by kernel_rfl) ?_
             refine GQ_val rfl rfl rfl rfl (V_move rfl rfl) ?_
             refine GQ_val rfl rfl rfl rfl (V_asliceL (l := 4) rfl Tryd.underlying169 infSealW_5 rfl rfl rfl rfl (by first | omega | (simp; done) | (simp; omega) | (simp at *; omega)) rfl) ?_
             refine GQ_call rfl rfl rfl rfl rfl rfl Tryd.call100 (seal_number _ _ _ _ _ ((b.take 8).drop 4) (by simp; omega) (drop4 b (by omega))) [1] rfl (fun v post hp => (hp : _ ∧ _).1) ?_
             refine GQ_val rfl rfl rfl rfl (V_move rfl rfl) ?_
             refine GQ_val rfl rfl rfl rfl (V_move rfl rfl) ?_
             first
               | refine GQ_val rfl rfl rfl rfl (V_ssliceN (lo := 8) (hi := _) rfl Tryd.underlying9 rfl rfl rfl rfl rfl (by first | omega | (simp; done) | (simp; omega) | (simp at *; omega)) (by first | omega | (simp; done) | (simp; omega) | (simp at *; omega))) ?_
               | refine GQ_val rfl rfl rfl rfl (V_sslice rfl Tryd.underlying9 rfl rfl rfl (by first | omega | (simp; done) | (simp; omega) | (simp at *; omega)) (by first | omega | (simp; done) | (simp; omega) | (simp at *; omega)) (by first | omega | (simp; done) | (simp; omega) | (simp at *; omega))) ?_
             refine GQ_val rfl rfl rfl rfl (V_assign rfl rfl) ?_
             refine GQ_val rfl rfl rfl rfl (V_assign rfl rfl) ?_
             refine GQ_val rfl rfl rfl rfl (V_assign rfl rfl) ?_
             refine GQ_val rfl rfl rfl rfl (V_assign rfl rfl) ?_
             refine GQ_done rfl ?_
             refine G_ret (post := []) Tryd.func68 rfl (RVs_cons (RV_tmp rfl) (RVs_cons (RV_tmp rfl) (RVs_cons (RV_tmp rfl) (RVs_cons (RV_tmp rfl) RVs_nil)))) [] rfl ?_
             dsimp only [packed]
             first
               | exact ⟨(open_not (open_len (by omega))).symm, rfl⟩
               | exact ⟨(open_not (open_neq (fun h => absurd h (by assumption)))).symm, rfl⟩
               | exact ⟨(open_not (open_neq (fun h => absurd (congrArg _ h) (by assumption)))).symm, rfl⟩
               | exact ⟨(open_not (open_zero (by assumption))).symm, rfl⟩
               | exact ⟨(open_yes (open_ok (by omega) (lits_bytes_inj (by first | assumption | exact Classical.not_not.1 (by assumption))) (by assumption))).symm, rfl⟩
               | exact ⟨(open_yes (open_ok (by omega) (by first | assumption | exact Classical.not_not.1 (by assumption)) (by assumption))).symm, rfl⟩
 · skip
   refine GHop_new rfl rfl rfl rfl (N_allocA rfl infSealW_169 rfl) [] (fun _ => ⟨_, rfl⟩) (fun b8 => ?_)
   refine GH_all [2, 7] (by kernel_rfl) (by decide) ?_
   refine (And.intro ?_ (And.intro ?_ trivial))
   · skip
     refine GHop_call (L2 := [_]) rfl rfl rfl rfl rfl rfl Tryd.call99 (seal_of _ (by simp; omega)) [] [] rfl rfl [] (by rintro v post ⟨rfl, rfl⟩; exact ⟨_, rfl⟩) ?_
     rintro v post ⟨rfl, rfl⟩
     show GH _ _ _ _ _ _ _ [_] _
     refine GH_all [6, 7] (by kernel_rfl) (by decide) ?_
     refine (And.intro ?_ (And.intro ?_ trivial))
     · skip
       refine GHop_call (L2 := [_]) rfl rfl rfl rfl rfl rfl Tryd.call99 (seal_of _ (by simp; omega)) [] [] rfl rfl [] (by rintro v post ⟨rfl, rfl⟩; exact ⟨_, rfl⟩) ?_
       rintro v post ⟨rfl, rfl⟩
       show GH _ _ _ _ _ _ _ [_] _
       refine GH_all [7] (by kernel_rfl) (by decide) ?_
       refine (And.intro ?_ trivial)
       · skip
         refine GHop_new rfl rfl rfl rfl (N_allocA rfl infSealW_169 rfl) [] (fun _ => ⟨_, rfl⟩) (fun b7 => ?_)
         refine GH_all [9] (by kernel_rfl) (by decide) ?_
         refine (And.intro ?_ trivial)
         · skip
           refine GHop_put (l1 := []) (L' := [_, _]) rfl rfl rfl rfl (P_storeA (s := 8) rfl rfl rfl (mem_at 0 rfl) (by first | rfl | (simp [bcells_length]; done) | (simp [bcells_length]; omega) | (simp [bcells_length, *]; done)) infSealW_169 rfl (by first | rfl | (simp [bcells_length]; done) | (simp [bcells_length]; omega) | (simp [bcells_length, *]; done)) (by first | rfl | exact bcells_all _ | (simp [Value.oneCell']; done) | (simp [Value.oneCell', *]; done))) rfl [] rfl ?_
           refine GH_all [10] (by kernel_rfl) (by decide) ?_
           refine (And.intro ?_ trivial)
           · skip
             refine GHop_put (l1 := [_]) (L' := [_, _]) rfl rfl rfl rfl (P_storeA (s := 8) rfl rfl rfl (mem_at 1 rfl) (by first | rfl | (simp [bcells_length]; done) | (simp [bcells_length]; omega) | (simp [bcells_length, *]; done)) infSealW_169 rfl (by first | rfl | (simp [bcells_length]; done) | (simp [bcells_length]; omega) | (simp [bcells_length, *]; done)) (by first | rfl | exact bcells_all _ | (simp [Value.oneCell']; done) | (simp [Value.oneCell', *]; done))) rfl [] rfl ?_
             refine GH_done (by kernel_rfl) ?_
             refine G_seq ?_
             refine G_region (l := [0, 1, 2]) rfl ?_
             refine G_val rfl rfl rfl rfl (V_asliceH (h := 4) rfl Tryd.underlying169 infSealW_5 rfl rfl rfl (by first | omega | (simp; done) | (simp; omega) | (simp at *; omega))) ?_
             refine G_call (L2 := [_, _]) rfl rfl rfl rfl rfl rfl Tryd.call100 (seal_number _ _ _ _ _ (b.take 4) (by simp; omega) (take4 b)) [] [0] rfl rfl ?_
             rintro v post ⟨rfl, rfl⟩
             show G _ _ _ [_, _] _
             refine G_val rfl rfl rfl rfl (V_assign rfl rfl) ?_
             refine G_done ?_
             refine G_seq ?_
             refine G_seq ?_
             refine G_region (l := [0, 1, 2, 3, 4, 5, 6]) rfl ?_
             first
               | refine G_val rfl rfl rfl rfl (V_loadW (s := 8) rfl rfl (mem_at 0 rfl) Tryd.underlying169 rfl infSealW_169 rfl (by first | rfl | (simp [bcells_length]; done) | (simp [bcells_length]; omega) | (simp [bcells_length, *]; done))) ?_
               | refine G_val rfl rfl rfl rfl (V_loadA (s := 8) rfl rfl (mem_at 0 rfl) Tryd.underlying169 rfl infSealW_169 rfl rfl (by first | rfl | (simp [bcells_length]; done) | (simp [bcells_length]; omega) | (simp [bcells_length, *]; done))) ?_
             first
               | refine G_val rfl rfl rfl rfl (V_loadW (s := 8) rfl rfl (mem_at 1 rfl) Tryd.underlying169 rfl infSealW_169 rfl (by first | rfl | (simp [bcells_length]; done) | (simp [bcells_length]; omega) | (simp [bcells_length, *]; done))) ?_
               | refine G_val rfl rfl rfl rfl (V_loadA (s := 8) rfl rfl (mem_at 1 rfl) Tryd.underlying169 rfl infSealW_169 rfl rfl (by first | rfl | (simp [bcells_length]; done) | (simp [bcells_length]; omega) | (simp [bcells_length, *]; done))) ?_
             refine G_val rfl rfl rfl rfl (V_aggneq (m := 6) rfl Tryd.eqGuardType169 (by kernel_rfl) (by decide) (formed_of Tryd.underlying169 rfl (by kernel_rfl : Tryd.prog.cellsOf 169 = 8) (by first | rfl | (simp [bcells_length]; done) | (simp [bcells_length]; omega) | (simp [bcells_length, *]; done))) (formed_of Tryd.underlying169 rfl (by kernel_rfl : Tryd.prog.cellsOf 169 = 8) (by first | rfl | (simp [bcells_length]; done) | (simp [bcells_length]; omega) | (simp [bcells_length, *]; done))) rfl rfl (key8 _ (by simp; omega)) (key8 _ (by simp; omega))) ?_
             refine G_val rfl rfl rfl rfl (V_move rfl rfl) ?_
             refine G_splitD 25 rfl (fun hc2 => ?_) (fun hc2 => ?_)
             · skip
               refine G_off rfl rfl rfl rfl ?_
               refine G_off rfl rfl rfl rfl ?_
               refine G_val rfl rfl rfl rfl (V_pickT rfl rfl rfl) ?_
               refine G_done ?_
               refine G_then rfl ?_
               refine G_seq ?_
               refine G_region (l := [0, 1, 2, 3]) rfl ?_
               refine G_val rfl rfl rfl rfl (V_assign rfl rfl) ?_
               refine G_val rfl rfl rfl rfl (V_assign rfl rfl) ?_
               refine G_val rfl rfl rfl rfl (V_assign rfl rfl) ?_
               refine G_val rfl rfl rfl rfl (V_assign rfl rfl) ?_
               refine G_done ?_
               refine G_ret (post := []) Tryd.func68 rfl (RVs_cons (RV_tmp rfl) (RVs_cons (RV_tmp rfl) (RVs_cons (RV_tmp rfl) (RVs_cons (RV_tmp rfl) RVs_nil)))) [] rfl ?_
               dsimp only [packed]
               first
                 | exact ⟨(open_not (open_len (by omega))).symm, rfl⟩
                 | exact ⟨(open_not (open_neq (fun h => absurd h (by assumption)))).symm, rfl⟩
                 | exact ⟨(open_not (open_neq (fun h => absurd (congrArg _ h) (by assumption)))).symm, rfl⟩
                 | exact ⟨(open_not (open_zero (by assumption))).symm, rfl⟩
                 | exact ⟨(open_yes (open_ok (by omega) (lits_bytes_inj (by first | assumption | exact Classical.not_not.1 (by assumption))) (by assumption))).symm, rfl⟩
                 | exact ⟨(open_yes (open_ok (by omega) (by first | assumption | exact Classical.not_not.1 (by assumption)) (by assumption))).symm, rfl⟩
             refine G_val rfl rfl rfl rfl (V_move rfl rfl) ?_
             refine G_val rfl rfl rfl rfl (V_eql rfl rfl rfl) ?_
             refine G_val rfl rfl rfl rfl (V_pickF rfl rfl rfl) ?_
             refine G_done ?_
             refine G_ifD rfl (fun hc3 => ?_) (fun hc3 => ?_)
             · skip
               refine G_seq ?_
               refine G_region (l := [0, 1, 2, 3]) rfl ?_
               refine G_val rfl rfl rfl rfl (V_assign rfl rfl) ?_
               refine G_val rfl rfl rfl rfl (V_assign rfl rfl) ?_
               refine G_val rfl rfl rfl rfl (V_assign rfl rfl) ?_
               refine G_val rfl rfl rfl rfl (V_assign rfl rfl) ?_
               refine G_done ?_
               refine G_ret (post := []) Tryd.func68 rfl (RVs_cons (RV_tmp rfl) (RVs_cons (RV_tmp rfl) (RVs_cons (RV_tmp rfl) (RVs_cons (RV_tmp rfl) RVs_nil)))) [] rfl ?_
               dsimp only [packed]
               first
                 | exact ⟨(open_not (open_len (by omega))).symm, rfl⟩
                 | exact ⟨(open_not (open_neq (fun h => absurd h (by assumption)))).symm, rfl⟩
                 | exact ⟨(open_not (open_neq (fun h => absurd (congrArg _ h) (by assumption)))).symm, rfl⟩
                 | exact ⟨(open_not (open_zero (by assumption))).symm, rfl⟩
                 | exact ⟨(open_yes (open_ok (by omega) (lits_bytes_inj (by first | assumption | exact Classical.not_not.1 (by assumption))) (by assumption))).symm, rfl⟩
                 | exact ⟨(open_yes (open_ok (by omega) (by first | assumption | exact Classical.not_not.1 (by assumption)) (by assumption))).symm, rfl⟩
             refine G_skip ?_
             refine G_seq ?_
             refine G_draw mixedK (by kernel_rfl) ?_
             refine GQ_val rfl rfl rfl rfl (V_move rfl rfl) ?_
             refine GQ_val rfl rfl rfl rfl (V_asliceL (l := 4) rfl Tryd.underlying169 infSealW_5 rfl rfl rfl rfl (by first | omega | (simp; done) | (simp; omega) | (simp at *; omega)) rfl) ?_
             refine GQ_call rfl rfl rfl rfl rfl rfl Tryd.call100 (seal_number _ _ _ _ _ ((b.take 8).drop 4) (by simp; omega) (drop4 b (by omega))) [0] rfl (fun v post hp => (hp : _ ∧ _).1) ?_
             refine GQ_val rfl rfl rfl rfl (V_move rfl rfl) ?_
             refine GQ_val rfl rfl rfl rfl (V_move rfl rfl) ?_
             first
               | refine GQ_val rfl rfl rfl rfl (V_ssliceN (lo := 8) (hi := _) rfl Tryd.underlying9 rfl rfl rfl rfl rfl (by first | omega | (simp; done) | (simp; omega) | (simp at *; omega)) (by first | omega | (simp; done) | (simp; omega) | (simp at *; omega))) ?_
               | refine GQ_val rfl rfl rfl rfl (V_sslice rfl Tryd.underlying9 rfl rfl rfl (by first | omega | (simp; done) | (simp; omega) | (simp at *; omega)) (by first | omega | (simp; done) | (simp; omega) | (simp at *; omega)) (by first | omega | (simp; done) | (simp; omega) | (simp at *; omega))) ?_
             refine GQ_val rfl rfl rfl rfl (V_assign rfl rfl) ?_
             refine GQ_val rfl rfl rfl rfl (V_assign rfl rfl) ?_
             refine GQ_val rfl rfl rfl rfl (V_assign rfl rfl) ?_
             refine GQ_val rfl rfl rfl rfl (V_assign rfl rfl) ?_
             refine GQ_done rfl ?_
             refine G_ret (post := []) Tryd.func68 rfl (RVs_cons (RV_tmp rfl) (RVs_cons (RV_tmp rfl) (RVs_cons (RV_tmp rfl) (RVs_cons (RV_tmp rfl) RVs_nil)))) [] rfl ?_
             dsimp only [packed]
             first
               | exact ⟨(open_not (open_len (by omega))).symm, rfl⟩
               | exact ⟨(open_not (open_neq (fun h => absurd h (by assumption)))).symm, rfl⟩
               | exact ⟨(open_not (open_neq (fun h => absurd (congrArg _ h) (by assumption)))).symm, rfl⟩
               | exact ⟨(open_not (open_zero (by assumption))).symm, rfl⟩
               | exact ⟨(open_yes (open_ok (by omega) (lits_bytes_inj (by first | assumption | exact Classical.not_not.1 (by assumption))) (by assumption))).symm, rfl⟩
               | exact ⟨(open_yes (open_ok (by omega) (by first | assumption | exact Classical.not_not.1 (by assumption)) (by assumption))).symm, rfl⟩
     · skip
       refine GHop_new rfl rfl rfl rfl (N_allocA rfl infSealW_169 rfl) [] (fun _ => ⟨_, rfl⟩) (fun b7 => ?_)
       refine GH_all [6] (by kernel_rfl) (by decide) ?_
       refine (And.intro ?_ trivial)
       · skip
         refine GHop_call (L2 := [_, _]) rfl rfl rfl rfl rfl rfl Tryd.call99 (seal_of _ (by simp; omega)) [] [] rfl rfl [] (by rintro v post ⟨rfl, rfl⟩; exact ⟨_, rfl⟩) ?_
         rintro v post ⟨rfl, rfl⟩
         show GH _ _ _ _ _ _ _ [_, _] _
         refine GH_all [9] (by kernel_rfl) (by decide) ?_
         refine (And.intro ?_ trivial)
         · skip
           refine GHop_put (l1 := []) (L' := [_, _]) rfl rfl rfl rfl (P_storeA (s := 8) rfl rfl rfl (mem_at 0 rfl) (by first | rfl | (simp [bcells_length]; done) | (simp [bcells_length]; omega) | (simp [bcells_length, *]; done)) infSealW_169 rfl (by first | rfl | (simp [bcells_length]; done) | (simp [bcells_length]; omega) | (simp [bcells_length, *]; done)) (by first | rfl | exact bcells_all _ | (simp [Value.oneCell']; done) | (simp [Value.oneCell', *]; done))) rfl [] rfl ?_
           refine GH_all [10] (by kernel_rfl) (by decide) ?_
           refine (And.intro ?_ trivial)
           · skip
             refine GHop_put (l1 := [_]) (L' := [_, _]) rfl rfl rfl rfl (P_storeA (s := 8) rfl rfl rfl (mem_at 1 rfl) (by first | rfl | (simp [bcells_length]; done) | (simp [bcells_length]; omega) | (simp [bcells_length, *]; done)) infSealW_169 rfl (by first | rfl | (simp [bcells_length]; done) | (simp [bcells_length]; omega) | (simp [bcells_length, *]; done)) (by first | rfl | exact bcells_all _ | (simp [Value.oneCell']; done) | (simp [Value.oneCell', *]; done))) rfl [] rfl ?_
             refine GH_done (by kernel_rfl) ?_
             refine G_seq ?_
             refine G_region (l := [0, 1, 2]) rfl ?_
             refine G_val rfl rfl rfl rfl (V_asliceH (h := 4) rfl Tryd.underlying169 infSealW_5 rfl rfl rfl (by first | omega | (simp; done) | (simp; omega) | (simp at *; omega))) ?_
             refine G_call (L2 := [_, _]) rfl rfl rfl rfl rfl rfl Tryd.call100 (seal_number _ _ _ _ _ (b.take 4) (by simp; omega) (take4 b)) [] [0] rfl rfl ?_
             rintro v post ⟨rfl, rfl⟩
             show G _ _ _ [_, _] _
             refine G_val rfl rfl rfl rfl (V_assign rfl rfl) ?_
             refine G_done ?_
             refine G_seq ?_
             refine G_seq ?_
             refine G_region (l := [0, 1, 2, 3, 4, 5, 6]) rfl ?_
             first
               | refine G_val rfl rfl rfl rfl (V_loadW (s := 8) rfl rfl (mem_at 0 rfl) Tryd.underlying169 rfl infSealW_169 rfl (by first | rfl | (simp [bcells_length]; done) | (simp [bcells_length]; omega) | (simp [bcells_length, *]; done))) ?_
               | refine G_val rfl rfl rfl rfl (V_loadA (s := 8) rfl rfl (mem_at 0 rfl) Tryd.underlying169 rfl infSealW_169 rfl rfl (by first | rfl | (simp [bcells_length]; done) | (simp [bcells_length]; omega) | (simp [bcells_length, *]; done))) ?_
             first
               | refine G_val rfl rfl rfl rfl (V_loadW (s := 8) rfl rfl (mem_at 1 rfl) Tryd.underlying169 rfl infSealW_169 rfl (by first | rfl | (simp [bcells_length]; done) | (simp [bcells_length]; omega) | (simp [bcells_length, *]; done))) ?_
               | refine G_val rfl rfl rfl rfl (V_loadA (s := 8) rfl rfl (mem_at 1 rfl) Tryd.underlying169 rfl infSealW_169 rfl rfl (by first | rfl | (simp [bcells_length]; done) | (simp [bcells_length]; omega) | (simp [bcells_length, *]; done))) ?_
             refine G_val rfl rfl rfl rfl (V_aggneq (m := 6) rfl Tryd.eqGuardType169 (by kernel_rfl) (by decide) (formed_of Tryd.underlying169 rfl (by kernel_rfl : Tryd.prog.cellsOf 169 = 8) (by first | rfl | (simp [bcells_length]; done) | (simp [bcells_length]; omega) | (simp [bcells_length, *]; done))) (formed_of Tryd.underlying169 rfl (by kernel_rfl : Tryd.prog.cellsOf 169 = 8) (by first | rfl | (simp [bcells_length]; done) | (simp [bcells_length]; omega) | (simp [bcells_length, *]; done))) rfl rfl (key8 _ (by simp; omega)) (key8 _ (by simp; omega))) ?_
             refine G_val rfl rfl rfl rfl (V_move rfl rfl) ?_
             refine G_splitD 25 rfl (fun hc2 => ?_) (fun hc2 => ?_)
             · skip
               refine G_off rfl rfl rfl rfl ?_
               refine G_off rfl rfl rfl rfl ?_
               refine G_val rfl rfl rfl rfl (V_pickT rfl rfl rfl) ?_
               refine G_done ?_
               refine G_then rfl ?_
               refine G_seq ?_
               refine G_region (l := [0, 1, 2, 3]) rfl ?_
               refine G_val rfl rfl rfl rfl (V_assign rfl rfl) ?_
               refine G_val rfl rfl rfl rfl (V_assign rfl rfl) ?_
               refine G_val rfl rfl rfl rfl (V_assign rfl rfl) ?_
               refine G_val rfl rfl rfl rfl (V_assign rfl rfl) ?_
               refine G_done ?_
               refine G_ret (post := []) Tryd.func68 rfl (RVs_cons (RV_tmp rfl) (RVs_cons (RV_tmp rfl) (RVs_cons (RV_tmp rfl) (RVs_cons (RV_tmp rfl) RVs_nil)))) [] rfl ?_
               dsimp only [packed]
               first
                 | exact ⟨(open_not (open_len (by omega))).symm, rfl⟩
                 | exact ⟨(open_not (open_neq (fun h => absurd h (by assumption)))).symm, rfl⟩
                 | exact ⟨(open_not (open_neq (fun h => absurd (congrArg _ h) (by assumption)))).symm, rfl⟩
                 | exact ⟨(open_not (open_zero (by assumption))).symm, rfl⟩
                 | exact ⟨(open_yes (open_ok (by omega) (lits_bytes_inj (by first | assumption | exact Classical.not_not.1 (by assumption))) (by assumption))).symm, rfl⟩
                 | exact ⟨(open_yes (open_ok (by omega) (by first | assumption | exact Classical.not_not.1 (by assumption)) (by assumption))).symm, rfl⟩
             refine G_val rfl rfl rfl rfl (V_move rfl rfl) ?_
             refine G_val rfl rfl rfl rfl (V_eql rfl rfl rfl) ?_
             refine G_val rfl rfl rfl rfl (V_pickF rfl rfl rfl) ?_
             refine G_done ?_
             refine G_ifD rfl (fun hc3 => ?_) (fun hc3 => ?_)
             · skip
               refine G_seq ?_
               refine G_region (l := [0, 1, 2, 3]) rfl ?_
               refine G_val rfl rfl rfl rfl (V_assign rfl rfl) ?_
               refine G_val rfl rfl rfl rfl (V_assign rfl rfl) ?_
               refine G_val rfl rfl rfl rfl (V_assign rfl rfl) ?_
               refine G_val rfl rfl rfl rfl (V_assign rfl rfl) ?_
               refine G_done ?_
               refine G_ret (post := []) Tryd.func68 rfl (RVs_cons (RV_tmp rfl) (RVs_cons (RV_tmp rfl) (RVs_cons (RV_tmp rfl) (RVs_cons (RV_tmp rfl) RVs_nil)))) [] rfl ?_
               dsimp only [packed]
               first
                 | exact ⟨(open_not (open_len (by omega))).symm, rfl⟩
                 | exact ⟨(open_not (open_neq (fun h => absurd h (by assumption)))).symm, rfl⟩
                 | exact ⟨(open_not (open_neq (fun h => absurd (congrArg _ h) (by assumption)))).symm, rfl⟩
                 | exact ⟨(open_not (open_zero (by assumption))).symm, rfl⟩
                 | exact ⟨(open_yes (open_ok (by omega) (lits_bytes_inj (by first | assumption | exact Classical.not_not.1 (by assumption))) (by assumption))).symm, rfl⟩
                 | exact ⟨(open_yes (open_ok (by omega) (by first | assumption | exact Classical.not_not.1 (by assumption)) (by assumption))).symm, rfl⟩
             refine G_skip ?_
             refine G_seq ?_
             refine G_draw mixedK (by kernel_rfl) ?_
             refine GQ_val rfl rfl rfl rfl (V_move rfl rfl) ?_
             refine GQ_val rfl rfl rfl rfl (V_asliceL (l := 4) rfl Tryd.underlying169 infSealW_5 rfl rfl rfl rfl (by first | omega | (simp; done) | (simp; omega) | (simp at *; omega)) rfl) ?_
             refine GQ_call rfl rfl rfl rfl rfl rfl Tryd.call100 (seal_number _ _ _ _ _ ((b.take 8).drop 4) (by simp; omega) (drop4 b (by omega))) [0] rfl (fun v post hp => (hp : _ ∧ _).1) ?_
             refine GQ_val rfl rfl rfl rfl (V_move rfl rfl) ?_
             refine GQ_val rfl rfl rfl rfl (V_move rfl rfl) ?_
             first
               | refine GQ_val rfl rfl rfl rfl (V_ssliceN (lo := 8) (hi := _) rfl Tryd.underlying9 rfl rfl rfl rfl rfl (by first | omega | (simp; done) | (simp; omega) | (simp at *; omega)) (by first | omega | (simp; done) | (simp; omega) | (simp at *; omega))) ?_
               | refine GQ_val rfl rfl rfl rfl (V_sslice rfl Tryd.underlying9 rfl rfl rfl (by first | omega | (simp; done) | (simp; omega) | (simp at *; omega)) (by first | omega | (simp; done) | (simp; omega) | (simp at *; omega)) (by first | omega | (simp; done) | (simp; omega) | (simp at *; omega))) ?_
             refine GQ_val rfl rfl rfl rfl (V_assign rfl rfl) ?_
             refine GQ_val rfl rfl rfl rfl (V_assign rfl rfl) ?_
             refine GQ_val rfl rfl rfl rfl (V_assign rfl rfl) ?_
             refine GQ_val rfl rfl rfl rfl (V_assign rfl rfl) ?_
             refine GQ_done rfl ?_
             refine G_ret (post := []) Tryd.func68 rfl (RVs_cons (RV_tmp rfl) (RVs_cons (RV_tmp rfl) (RVs_cons (RV_tmp rfl) (RVs_cons (RV_tmp rfl) RVs_nil)))) [] rfl ?_
             dsimp only [packed]
             first
               | exact ⟨(open_not (open_len (by omega))).symm, rfl⟩
               | exact ⟨(open_not (open_neq (fun h => absurd h (by assumption)))).symm, rfl⟩
               | exact ⟨(open_not (open_neq (fun h => absurd (congrArg _ h) (by assumption)))).symm, rfl⟩
               | exact ⟨(open_not (open_zero (by assumption))).symm, rfl⟩
               | exact ⟨(open_yes (open_ok (by omega) (lits_bytes_inj (by first | assumption | exact Classical.not_not.1 (by assumption))) (by assumption))).symm, rfl⟩
               | exact ⟨(open_yes (open_ok (by omega) (by first | assumption | exact Classical.not_not.1 (by assumption)) (by assumption))).symm, rfl⟩
   · skip
     refine GHop_new rfl rfl rfl rfl (N_allocA rfl infSealW_169 rfl) [] (fun _ => ⟨_, rfl⟩) (fun b7 => ?_)
     refine GH_all [2] (by kernel_rfl) (by decide) ?_
     refine (And.intro ?_ trivial)
     · skip
       refine GHop_call (L2 := [_, _]) rfl rfl rfl rfl rfl rfl Tryd.call99 (seal_of _ (by simp; omega)) [] [] rfl rfl [] (by rintro v post ⟨rfl, rfl⟩; exact ⟨_, rfl⟩) ?_
       rintro v post ⟨rfl, rfl⟩
       show GH _ _ _ _ _ _ _ [_, _] _
       refine GH_all [6] (by kernel_rfl) (by decide) ?_
       refine (And.intro ?_ trivial)
       · skip
         refine GHop_call (L2 := [_, _]) rfl rfl rfl rfl rfl rfl Tryd.call99 (seal_of _ (by simp; omega)) [] [] rfl rfl [] (by rintro v post ⟨rfl, rfl⟩; exact ⟨_, rfl⟩) ?_
         rintro v post ⟨rfl, rfl⟩
         show GH _ _ _ _ _ _ _ [_, _] _
         refine GH_all [9] (by kernel_rfl) (by decide) ?_
         refine (And.intro ?_ trivial)
         · skip
           refine GHop_put (l1 := []) (L' := [_, _]) rfl rfl rfl rfl (P_storeA (s := 8) rfl rfl rfl (mem_at 0 rfl) (by first | rfl | (simp [bcells_length]; done) | (simp [bcells_length]; omega) | (simp [bcells_length, *]; done)) infSealW_169 rfl (by first | rfl | (simp [bcells_length]; done) | (simp [bcells_length]; omega) | (simp [bcells_length, *]; done)) (by first | rfl | exact bcells_all _ | (simp [Value.oneCell']; done) | (simp [Value.oneCell', *]; done))) rfl [] rfl ?_
           refine GH_all [10] (by kernel_rfl) (by decide) ?_
           refine (And.intro ?_ trivial)
           · skip
             refine GHop_put (l1 := [_]) (L' := [_, _]) rfl rfl rfl rfl (P_storeA (s := 8) rfl rfl rfl (mem_at 1 rfl) (by first | rfl | (simp [bcells_length]; done) | (simp [bcells_length]; omega) | (simp [bcells_length, *]; done)) infSealW_169 rfl (by first | rfl | (simp [bcells_length]; done) | (simp [bcells_length]; omega) | (simp [bcells_length, *]; done)) (by first | rfl | exact bcells_all _ | (simp [Value.oneCell']; done) | (simp [Value.oneCell', *]; done))) rfl [] rfl ?_
             refine GH_done (by kernel_rfl) ?_
             refine G_seq ?_
             refine G_region (l := [0, 1, 2]) rfl ?_
             refine G_val rfl rfl rfl rfl (V_asliceH (h := 4) rfl Tryd.underlying169 infSealW_5 rfl rfl rfl (by first | omega | (simp; done) | (simp; omega) | (simp at *; omega))) ?_
             refine G_call (L2 := [_, _]) rfl rfl rfl rfl rfl rfl Tryd.call100 (seal_number _ _ _ _ _ (b.take 4) (by simp; omega) (take4 b)) [] [0] rfl rfl ?_
             rintro v post ⟨rfl, rfl⟩
             show G _ _ _ [_, _] _
             refine G_val rfl rfl rfl rfl (V_assign rfl rfl) ?_
             refine G_done ?_
             refine G_seq ?_
             refine G_seq ?_
             refine G_region (l := [0, 1, 2, 3, 4, 5, 6]) rfl ?_
             first
               | refine G_val rfl rfl rfl rfl (V_loadW (s := 8) rfl rfl (mem_at 0 rfl) Tryd.underlying169 rfl infSealW_169 rfl (by first | rfl | (simp [bcells_length]; done) | (simp [bcells_length]; omega) | (simp [bcells_length, *]; done))) ?_
               | refine G_val rfl rfl rfl rfl (V_loadA (s := 8) rfl rfl (mem_at 0 rfl) Tryd.underlying169 rfl infSealW_169 rfl rfl (by first | rfl | (simp [bcells_length]; done) | (simp [bcells_length]; omega) | (simp [bcells_length, *]; done))) ?_
             first
               | refine G_val rfl rfl rfl rfl (V_loadW (s := 8) rfl rfl (mem_at 1 rfl) Tryd.underlying169 rfl infSealW_169 rfl (by first | rfl | (simp [bcells_length]; done) | (simp [bcells_length]; omega) | (simp [bcells_length, *]; done))) ?_
               | refine G_val rfl rfl rfl rfl (V_loadA (s := 8) rfl rfl (mem_at 1 rfl) Tryd.underlying169 rfl infSealW_169 rfl rfl (by first | rfl | (simp [bcells_length]; done) | (simp [bcells_length]; omega) | (simp [bcells_length, *]; done))) ?_
             refine G_val rfl rfl rfl rfl (V_aggneq (m := 6) rfl Tryd.eqGuardType169 (by kernel_rfl) (by decide) (formed_of Tryd.underlying169 rfl (by kernel_rfl : Tryd.prog.cellsOf 169 = 8) (by first | rfl | (simp [bcells_length]; done) | (simp [bcells_length]; omega) | (simp [bcells_length, *]; done))) (formed_of Tryd.underlying169 rfl (by kernel_rfl : Tryd.prog.cellsOf 169 = 8) (by first | rfl | (simp [bcells_length]; done) | (simp [bcells_length]; omega) | (simp [bcells_length, *]; done))) rfl rfl (key8 _ (by simp; omega)) (key8 _ (by simp; omega))) ?_
             refine G_val rfl rfl rfl rfl (V_move rfl rfl) ?_
             refine G_splitD 25 rfl (fun hc2 => ?_) (fun hc2 => ?_)
             · skip
               refine G_off rfl rfl rfl rfl ?_
               refine G_off rfl rfl rfl rfl ?_
               refine G_val rfl rfl rfl rfl (V_pickT rfl rfl rfl) ?_
               refine G_done ?_
               refine G_then rfl ?_
               refine G_seq ?_
               refine G_region (l := [0, 1, 2, 3]) rfl ?_
               refine G_val rfl rfl rfl rfl (V_assign rfl rfl) ?_
               refine G_val rfl rfl rfl rfl (V_assign rfl rfl) ?_
               refine G_val rfl rfl rfl rfl (V_assign rfl rfl) ?_
               refine G_val rfl rfl rfl rfl (V_assign rfl rfl) ?_
               refine G_done ?_
               refine G_ret (post := []) Tryd.func68 rfl (RVs_cons (RV_tmp rfl) (RVs_cons (RV_tmp rfl) (RVs_cons (RV_tmp rfl) (RVs_cons (RV_tmp rfl) RVs_nil)))) [] rfl ?_
               dsimp only [packed]
               first
                 | exact ⟨(open_not (open_len (by omega))).symm, rfl⟩
                 | exact ⟨(open_not (open_neq (fun h => absurd h (by assumption)))).symm, rfl⟩
                 | exact ⟨(open_not (open_neq (fun h => absurd (congrArg _ h) (by assumption)))).symm, rfl⟩
                 | exact ⟨(open_not (open_zero (by assumption))).symm, rfl⟩
                 | exact ⟨(open_yes (open_ok (by omega) (lits_bytes_inj (by first | assumption | exact Classical.not_not.1 (by assumption))) (by assumption))).symm, rfl⟩
                 | exact ⟨(open_yes (open_ok (by omega) (by first | assumption | exact Classical.not_not.1 (by assumption)) (by assumption))).symm, rfl⟩
             refine G_val rfl rfl rfl rfl (V_move rfl rfl) ?_
             refine G_val rfl rfl rfl rfl (V_eql rfl rfl rfl) ?_
             refine G_val rfl rfl rfl rfl (V_pickF rfl rfl rfl) ?_
             refine G_done ?_
             refine G_ifD rfl (fun hc3 => ?_) (fun hc3 => ?_)
             · skip
               refine G_seq ?_
               refine G_region (l := [0, 1, 2, 3]) rfl ?_
               refine G_val rfl rfl rfl rfl (V_assign rfl rfl) ?_
               refine G_val rfl rfl rfl rfl (V_assign rfl rfl) ?_
               refine G_val rfl rfl rfl rfl (V_assign rfl rfl) ?_
               refine G_val rfl rfl rfl rfl (V_assign rfl rfl) ?_
               refine G_done ?_
               refine G_ret (post := []) Tryd.func68 rfl (RVs_cons (RV_tmp rfl) (RVs_cons (RV_tmp rfl) (RVs_cons (RV_tmp rfl) (RVs_cons (RV_tmp rfl) RVs_nil)))) [] rfl ?_
               dsimp only [packed]
               first
                 | exact ⟨(open_not (open_len (by omega))).symm, rfl⟩
                 | exact ⟨(open_not (open_neq (fun h => absurd h (by assumption)))).symm, rfl⟩
                 | exact ⟨(open_not (open_neq (fun h => absurd (congrArg _ h) (by assumption)))).symm, rfl⟩
                 | exact ⟨(open_not (open_zero (by assumption))).symm, rfl⟩
                 | exact ⟨(open_yes (open_ok (by omega) (lits_bytes_inj (by first | assumption | exact Classical.not_not.1 (by assumption))) (by assumption))).symm, rfl⟩
                 | exact ⟨(open_yes (open_ok (by omega) (by first | assumption | exact Classical.not_not.1 (by assumption)) (by assumption))).symm, rfl⟩
             refine G_skip ?_
             refine G_seq ?_
             refine G_draw mixedK (by kernel_rfl) ?_
             refine GQ_val rfl rfl rfl rfl (V_move rfl rfl) ?_
             refine GQ_val rfl rfl rfl rfl (V_asliceL (l := 4) rfl Tryd.underlying169 infSealW_5 rfl rfl rfl rfl (by first | omega | (simp; done) | (simp; omega) | (simp at *; omega)) rfl) ?_
             refine GQ_call rfl rfl rfl rfl rfl rfl Tryd.call100 (seal_number _ _ _ _ _ ((b.take 8).drop 4) (by simp; omega) (drop4 b (by omega))) [0] rfl (fun v post hp => (hp : _ ∧ _).1) ?_
             refine GQ_val rfl rfl rfl rfl (V_move rfl rfl) ?_
             refine GQ_val rfl rfl rfl rfl (V_move rfl rfl) ?_
             first
               | refine GQ_val rfl rfl rfl rfl (V_ssliceN (lo := 8) (hi := _) rfl Tryd.underlying9 rfl rfl rfl rfl rfl (by first | omega | (simp; done) | (simp; omega) | (simp at *; omega)) (by first | omega | (simp; done) | (simp; omega) | (simp at *; omega))) ?_
               | refine GQ_val rfl rfl rfl rfl (V_sslice rfl Tryd.underlying9 rfl rfl rfl (by first | omega | (simp; done) | (simp; omega) | (simp at *; omega)) (by first | omega | (simp; done) | (simp; omega) | (simp at *; omega)) (by first | omega | (simp; done) | (simp; omega) | (simp at *; omega))) ?_
             refine GQ_val rfl rfl rfl rfl (V_assign rfl rfl) ?_
             refine GQ_val rfl rfl rfl rfl (V_assign rfl rfl) ?_
             refine GQ_val rfl rfl rfl rfl (V_assign rfl rfl) ?_
             refine GQ_val rfl rfl rfl rfl (V_assign rfl rfl) ?_
             refine GQ_done rfl ?_
             refine G_ret (post := []) Tryd.func68 rfl (RVs_cons (RV_tmp rfl) (RVs_cons (RV_tmp rfl) (RVs_cons (RV_tmp rfl) (RVs_cons (RV_tmp rfl) RVs_nil)))) [] rfl ?_
             dsimp only [packed]
             first
               | exact ⟨(open_not (open_len (by omega))).symm, rfl⟩
               | exact ⟨(open_not (open_neq (fun h => absurd h (by assumption)))).symm, rfl⟩
               | exact ⟨(open_not (open_neq (fun h => absurd (congrArg _ h) (by assumption)))).symm, rfl⟩
               | exact ⟨(open_not (open_zero (by assumption))).symm, rfl⟩
               | exact ⟨(open_yes (open_ok (by omega) (lits_bytes_inj (by first | assumption | exact Classical.not_not.1 (by assumption))) (by assumption))).symm, rfl⟩
               | exact ⟨(open_yes (open_ok (by omega) (by first | assumption | exact Classical.not_not.1 (by assumption)) (by assumption))).symm, rfl⟩

set_option maxRecDepth 100000 in
set_option maxHeartbeats 1000000 in
theorem rseal_open (b : List UInt8) (hb : b.length ≤ 9223372036854775807) :
    Ct Tryd.prog 71 [.string (bs b)] [] [] fun v post => v = openA b ∧ post = [] := by
 have hn1 := num4_lt (b.take 4) (by simp; omega)
 have hn2 := num4_lt ((b.take 8).drop 4) (by simp; omega)
 refine ct_of Tryd.func71 rfl rfl (fun w0 => ?_)
 show G _ _ [(0, _)] _ _
 refine G_seq ?_
 refine G_region (l := [0]) rfl ?_
 refine G_new rfl rfl rfl rfl (N_allocA rfl infSealW_128 rfl) (fun b2 => ?_)
 refine G_done ?_
 refine G_seq ?_
 refine G_seq ?_
 refine G_draw mixedK (by kernel_rfl) ?_
 refine GQ_val rfl rfl rfl rfl (V_move rfl rfl) ?_
 refine GQ_val rfl rfl rfl rfl (V_slen rfl rfl Tryd.underlying9 rfl) ?_
 refine GQ_val rfl rfl rfl rfl (V_neq rfl rfl rfl) ?_
 refine GQ_val rfl rfl rfl rfl (V_move rfl rfl) ?_
 refine GQ_splitD 10 rfl (fun hc1 => ?_) (fun hc1 => ?_)
 · skip
   refine GQ_off rfl rfl rfl rfl ?_
   refine GQ_off rfl rfl rfl rfl ?_
   refine GQ_off rfl rfl rfl rfl ?_
   refine GQ_off rfl rfl rfl rfl ?_
   refine GQ_off rfl rfl rfl rfl ?_
   refine GQ_val rfl rfl rfl rfl (V_pickT rfl rfl rfl) ?_
   refine GQ_done rfl ?_
   refine G_then rfl ?_
   refine G_seq ?_
   refine G_region (l := [0, 1]) rfl ?_
   refine G_val rfl rfl rfl rfl (V_buildS (cs := [_, _, _, _]) rfl Tryd.underlying128 infSealW_128 rfl plcSealW_128 rfl rfl rfl) ?_
   refine G_put (l1 := []) (L' := [_]) rfl rfl rfl rfl (P_storeA (s := 4) rfl rfl rfl (mem_at 0 rfl) (by first | rfl | (simp [bcells_length]; done) | (simp [bcells_length]; omega) | (simp [bcells_length, *]; done)) infSealW_128 rfl (by first | rfl | (simp [bcells_length]; done) | (simp [bcells_length]; omega) | (simp [bcells_length, *]; done)) (by first | rfl | exact bcells_all _ | (simp [Value.oneCell']; done) | (simp [Value.oneCell', *]; done))) rfl ?_
   refine G_done ?_
   refine G_ret (post := []) Tryd.func71 rfl (RVs_cons (RV_cell (s := 4) rfl (mem_at 0 rfl) Tryd.underlying128 rfl infSealW_128 rfl (by first | rfl | (simp [bcells_length]; done) | (simp [bcells_length]; omega) | (simp [bcells_length, *]; done))) RVs_nil) [] rfl ?_
   dsimp only [packed]
   first
     | exact ⟨(openA_not (open_len (by omega))).symm, rfl⟩
     | exact ⟨(openA_not (open_neq (by assumption))).symm, rfl⟩
     | exact ⟨(openA_not (open_zero (by assumption))).symm, rfl⟩
     | exact ⟨(openA_yes (open_ok (by omega) (Classical.not_not.1 (by assumption)) (by assumption))).symm, rfl⟩
 refine GQ_val rfl rfl rfl rfl (V_move rfl rfl) ?_
 first
   | refine GQ_val rfl rfl rfl rfl (V_ssliceHN (hi := 8) rfl Tryd.underlying9 rfl rfl rfl (by first | omega | (simp; done) | (simp; omega) | (simp at *; omega))) ?_
   | refine GQ_val rfl rfl rfl rfl (V_ssliceH rfl Tryd.underlying9 rfl rfl (by first | omega | (simp; done) | (simp; omega) | (simp at *; omega)) (by first | omega | (simp; done) | (simp; omega) | (simp at *; omega))) ?_
 refine GQ_val rfl rfl rfl rfl (V_move rfl rfl) ?_
 first
   | refine GQ_val rfl rfl rfl rfl (V_ssliceLN (lo := 56) rfl Tryd.underlying9 rfl rfl rfl (by first | omega | (simp; done) | (simp; omega) | (simp at *; omega))) ?_
   | refine GQ_val rfl rfl rfl rfl (V_ssliceL rfl Tryd.underlying9 rfl rfl (by first | omega | (simp; done) | (simp; omega) | (simp at *; omega)) (by first | omega | (simp; done) | (simp; omega) | (simp at *; omega))) ?_
 refine GQ_val rfl rfl rfl rfl (V_sneq rfl rfl rfl) ?_
 refine GQ_val rfl rfl rfl rfl (V_pickF rfl rfl rfl) ?_
 refine GQ_done rfl ?_
 refine G_ifD rfl (fun hc2 => ?_) (fun hc2 => ?_)
 · skip
   refine G_seq ?_
   refine G_region (l := [0, 1]) rfl ?_
   refine G_val rfl rfl rfl rfl (V_buildS (cs := [_, _, _, _]) rfl Tryd.underlying128 infSealW_128 rfl plcSealW_128 rfl rfl rfl) ?_
   refine G_put (l1 := []) (L' := [_]) rfl rfl rfl rfl (P_storeA (s := 4) rfl rfl rfl (mem_at 0 rfl) (by first | rfl | (simp [bcells_length]; done) | (simp [bcells_length]; omega) | (simp [bcells_length, *]; done)) infSealW_128 rfl (by first | rfl | (simp [bcells_length]; done) | (simp [bcells_length]; omega) | (simp [bcells_length, *]; done)) (by first | rfl | exact bcells_all _ | (simp [Value.oneCell']; done) | (simp [Value.oneCell', *]; done))) rfl ?_
   refine G_done ?_
   refine G_ret (post := []) Tryd.func71 rfl (RVs_cons (RV_cell (s := 4) rfl (mem_at 0 rfl) Tryd.underlying128 rfl infSealW_128 rfl (by first | rfl | (simp [bcells_length]; done) | (simp [bcells_length]; omega) | (simp [bcells_length, *]; done))) RVs_nil) [] rfl ?_
   dsimp only [packed]
   first
     | exact ⟨(openA_not (open_len (by omega))).symm, rfl⟩
     | exact ⟨(openA_not (open_neq (by assumption))).symm, rfl⟩
     | exact ⟨(openA_not (open_zero (by assumption))).symm, rfl⟩
     | exact ⟨(openA_yes (open_ok (by omega) (Classical.not_not.1 (by assumption)) (by assumption))).symm, rfl⟩
 refine G_skip ?_
 refine G_seq ?_
 refine G_region (l := [0, 1, 2, 3, 4, 5, 6, 7]) rfl ?_
 refine G_val rfl rfl rfl rfl (V_move rfl rfl) ?_
 first
   | refine G_val rfl rfl rfl rfl (V_ssliceHN (hi := 4) rfl Tryd.underlying9 rfl rfl rfl (by first | omega | (simp; done) | (simp; omega) | (simp at *; omega))) ?_
   | refine G_val rfl rfl rfl rfl (V_ssliceH rfl Tryd.underlying9 rfl rfl (by first | omega | (simp; done) | (simp; omega) | (simp at *; omega)) (by first | omega | (simp; done) | (simp; omega) | (simp at *; omega))) ?_
 refine G_call (L2 := [_]) rfl rfl rfl rfl rfl rfl Tryd.call102 (ct_rnumber4 _ (by first | omega | (simp; done) | (simp; omega) | (simp at *; omega))) [] [] rfl rfl ?_
 rintro v post ⟨rfl, rfl⟩
 show G _ _ _ [_] _
 refine G_val rfl rfl rfl rfl (V_move rfl rfl) ?_
 refine G_val rfl rfl rfl rfl (V_extract rfl rfl rfl) ?_
 refine G_val rfl rfl rfl rfl (V_extract rfl rfl rfl) ?_
 refine G_val rfl rfl rfl rfl (V_assign rfl rfl) ?_
 refine G_val rfl rfl rfl rfl (V_assign rfl rfl) ?_
 refine G_done ?_
 refine G_seq ?_
 refine G_region (l := [0, 1, 2, 3, 4, 5, 6, 7]) rfl ?_
 refine G_val rfl rfl rfl rfl (V_move rfl rfl) ?_
 first
   | refine G_val rfl rfl rfl rfl (V_ssliceN (lo := 4) (hi := 8) rfl Tryd.underlying9 rfl rfl rfl rfl rfl (by first | omega | (simp; done) | (simp; omega) | (simp at *; omega)) (by first | omega | (simp; done) | (simp; omega) | (simp at *; omega))) ?_
   | refine G_val rfl rfl rfl rfl (V_sslice rfl Tryd.underlying9 rfl rfl rfl (by first | omega | (simp; done) | (simp; omega) | (simp at *; omega)) (by first | omega | (simp; done) | (simp; omega) | (simp at *; omega)) (by first | omega | (simp; done) | (simp; omega) | (simp at *; omega))) ?_
 refine G_call (L2 := [_]) rfl rfl rfl rfl rfl rfl Tryd.call102 (ct_rnumber4 _ (by first | omega | (simp; done) | (simp; omega) | (simp at *; omega))) [] [] rfl rfl ?_
 rintro v post ⟨rfl, rfl⟩
 show G _ _ _ [_] _
 refine G_val rfl rfl rfl rfl (V_move rfl rfl) ?_
 refine G_val rfl rfl rfl rfl (V_extract rfl rfl rfl) ?_
 refine G_val rfl rfl rfl rfl (V_extract rfl rfl rfl) ?_
 refine G_val rfl rfl rfl rfl (V_assign rfl rfl) ?_
 refine G_val rfl rfl rfl rfl (V_assign rfl rfl) ?_
 refine G_done ?_
 refine G_seq ?_
 refine G_seq ?_
 refine G_region (l := [0, 1]) rfl ?_
 refine G_val rfl rfl rfl rfl (V_move rfl rfl) ?_
 refine G_val rfl rfl rfl rfl (V_eql rfl rfl rfl) ?_
 refine G_done ?_
 refine G_ifD rfl (fun hc3 => ?_) (fun hc3 => ?_)
 · skip
   refine G_seq ?_
   refine G_region (l := [0, 1]) rfl ?_
   refine G_val rfl rfl rfl rfl (V_buildS (cs := [_, _, _, _]) rfl Tryd.underlying128 infSealW_128 rfl plcSealW_128 rfl rfl rfl) ?_
   refine G_put (l1 := []) (L' := [_]) rfl rfl rfl rfl (P_storeA (s := 4) rfl rfl rfl (mem_at 0 rfl) (by first | rfl | (simp [bcells_length]; done) | (simp [bcells_length]; omega) | (simp [bcells_length, *]; done)) infSealW_128 rfl (by first | rfl | (simp [bcells_length]; done) | (simp [bcells_length]; omega) | (simp [bcells_length, *]; done)) (by first | rfl | exact bcells_all _ | (simp [Value.oneCell']; done) | (simp [Value.oneCell', *]; done))) rfl ?_
   refine G_done ?_
   refine G_ret (post := []) Tryd.func71 rfl (RVs_cons (RV_cell (s := 4) rfl (mem_at 0 rfl) Tryd.underlying128 rfl infSealW_128 rfl (by first | rfl | (simp [bcells_length]; done) | (simp [bcells_length]; omega) | (simp [bcells_length, *]; done))) RVs_nil) [] rfl ?_
   dsimp only [packed]
   first
     | exact ⟨(openA_not (open_len (by omega))).symm, rfl⟩
     | exact ⟨(openA_not (open_neq (by assumption))).symm, rfl⟩
     | exact ⟨(openA_not (open_zero (by assumption))).symm, rfl⟩
     | exact ⟨(openA_yes (open_ok (by omega) (Classical.not_not.1 (by assumption)) (by assumption))).symm, rfl⟩
 refine G_skip ?_
 refine G_seq ?_
 refine G_region (l := [0, 1, 2, 3, 4, 5, 6, 7]) rfl ?_
 refine G_val rfl rfl rfl rfl (V_move rfl rfl) ?_
 first
   | refine G_val rfl rfl rfl rfl ((V_conv rfl rfl Tryd.underlying103 Tryd.underlying22).int (wrap_u32 (by omega))) ?_
   | refine G_val rfl rfl rfl rfl (V_conv rfl rfl Tryd.underlying103 Tryd.underlying22) ?_
 refine G_val rfl rfl rfl rfl (V_move rfl rfl) ?_
 first
   | refine G_val rfl rfl rfl rfl ((V_conv rfl rfl Tryd.underlying103 Tryd.underlying22).int (wrap_u32 (by omega))) ?_
   | refine G_val rfl rfl rfl rfl (V_conv rfl rfl Tryd.underlying103 Tryd.underlying22) ?_
 refine G_val rfl rfl rfl rfl (V_move rfl rfl) ?_
 first
   | refine G_val rfl rfl rfl rfl (V_ssliceN (lo := 8) (hi := 56) rfl Tryd.underlying9 rfl rfl rfl rfl rfl (by first | omega | (simp; done) | (simp; omega) | (simp at *; omega)) (by first | omega | (simp; done) | (simp; omega) | (simp at *; omega))) ?_
   | refine G_val rfl rfl rfl rfl (V_sslice rfl Tryd.underlying9 rfl rfl rfl (by first | omega | (simp; done) | (simp; omega) | (simp at *; omega)) (by first | omega | (simp; done) | (simp; omega) | (simp at *; omega)) (by first | omega | (simp; done) | (simp; omega) | (simp at *; omega))) ?_
 refine G_val rfl rfl rfl rfl (V_buildS (cs := [_, _, _, _]) rfl Tryd.underlying128 infSealW_128 rfl plcSealW_128 rfl rfl rfl) ?_
 refine G_put (l1 := []) (L' := [_]) rfl rfl rfl rfl (P_storeA (s := 4) rfl rfl rfl (mem_at 0 rfl) (by first | rfl | (simp [bcells_length]; done) | (simp [bcells_length]; omega) | (simp [bcells_length, *]; done)) infSealW_128 rfl (by first | rfl | (simp [bcells_length]; done) | (simp [bcells_length]; omega) | (simp [bcells_length, *]; done)) (by first | rfl | exact bcells_all _ | (simp [Value.oneCell']; done) | (simp [Value.oneCell', *]; done))) rfl ?_
 refine G_done ?_
 refine G_ret (post := []) Tryd.func71 rfl (RVs_cons (RV_cell (s := 4) rfl (mem_at 0 rfl) Tryd.underlying128 rfl infSealW_128 rfl (by first | rfl | (simp [bcells_length]; done) | (simp [bcells_length]; omega) | (simp [bcells_length, *]; done))) RVs_nil) [] rfl ?_
 dsimp only [packed]
 first
   | exact ⟨(openA_not (open_len (by omega))).symm, rfl⟩
   | exact ⟨(openA_not (open_neq (by assumption))).symm, rfl⟩
   | exact ⟨(openA_not (open_zero (by assumption))).symm, rfl⟩
   | exact ⟨(openA_yes (open_ok (by omega) (Classical.not_not.1 (by assumption)) (by assumption))).symm, rfl⟩

end
end Go.Proofs.YtbblkgdejgoncaaDoor
