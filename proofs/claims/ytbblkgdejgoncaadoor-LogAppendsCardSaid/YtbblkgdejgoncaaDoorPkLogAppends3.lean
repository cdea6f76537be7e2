/- What the law LogAppends needs, part 3. -/
import Derived.Test.YtbblkgdejgoncaaDoorPkLogAppends1
import Derived.Test.YtbblkgdejgoncaaDoorPkLogAppends2
import Derived.WalkKit
import Derived.Test.YtbblkgdejgoncaaDoorRows
import Derived.WalkSpells
import Derived.WalkLawsBesides
import Derived.Lib.Hide

/- The walks of layer 23: sealed blocks. -/
set_option linter.unusedSimpArgs false
set_option linter.unusedVariables false
namespace Go.Proofs.YtbblkgdejgoncaaDoor
open Go Go.RowKit

section
theorem infSealW_5 : Tryd.prog.info? 5 = some Tryd.t5 := by kernel_rfl
theorem infSealW_128 : Tryd.prog.info? 128 = some Tryd.t128 := by kernel_rfl
theorem infSealW_169 : Tryd.prog.info? 169 = some Tryd.t169 := by kernel_rfl
theorem plcSealW_128 : placesOf Tryd.prog (Tryd.prog.fieldsOf 128) = some [(0, 1), (1, 1), (2, 1), (3, 1)] := by kernel_rfl


/-- A seal as bytes. -/
def markL (e i : Nat) : List UInt8 := be 4 e ++ be 4 i
def sealL (e i : Nat) (d : List UInt8) : List UInt8 := if e = 0 ∨ d.length ≠ 48 then [] else be 4 e ++ be 4 i ++ d ++ be 4 e ++ be 4 i
def sealE (e : Nat) (d : List UInt8) : Nat := if e = 0 ∨ d.length ≠ 48 then 1 else 0
def openOk (b : List UInt8) : Bool := if b.length = 64 ∧ b.take 8 = b.drop 56 ∧ num (b.take 4) ≠ 0 then true else false
def openE (b : List UInt8) : Nat := if openOk b then num (b.take 4) else 0
def openI (b : List UInt8) : Nat := if openOk b then num ((b.take 8).drop 4) else 0
def openD (b : List UInt8) : List UInt8 := if openOk b then (b.take 56).drop 8 else []
theorem openE_lt (b : List UInt8) : openE b < 4294967296 := by
  unfold openE
  split
  · have h := num_lt (b.take 4)
    have : (256 : Nat) ^ (b.take 4).length ≤ 256 ^ 4 := Nat.pow_le_pow_right (by omega) (by simp; omega)
    omega
  · omega
theorem openI_lt (b : List UInt8) : openI b < 4294967296 := by
  unfold openI
  split
  · have h := num_lt ((b.take 8).drop 4)
    have : (256 : Nat) ^ ((b.take 8).drop 4).length ≤ 256 ^ 4 := Nat.pow_le_pow_right (by omega) (by simp; omega)
    omega
  · omega
theorem fixed4 (v : Nat) (h : v < 4294967296) : fixed v 4 = (be 4 v, 0) := by
  have : ¬ ((4 : Int) < 1 ∨ 8 < (4 : Int) ∨ 256 ^ (4 : Int).toNat ≤ v) := by
    have : (256 : Nat) ^ (4 : Int).toNat = 4294967296 := by decide
    omega
  unfold fixed
  simp [this, h]
theorem ct_fixed4 (v : Nat) (h : v < 4294967296) : Ct Tryd.prog 82 [.int .u64 (v : Int), .int .i64 4] [] [] (fun v' post => v' = .tuple #[.string (bs (be 4 v)), .int .i64 0] ∧ post = []) :=
  ct_below (fun w => by
    have := fixed_any v 4 w (by unfold U64; omega) (by omega) (by omega)
    rw [fixed4 v h] at this
    exact this)
theorem ct_rfixed4 (v : Nat) (h : v < 4294967296) : Ct Tryd.prog 83 [.int .u64 (v : Int), .int .i64 4] [] [] (fun v' post => v' = .tuple #[.string (bs (be 4 v)), .int .i64 0] ∧ post = []) :=
  ct_below (fun w => by
    have := rfixed_any v 4 w (by unfold U64; omega) (by omega) (by omega)
    rw [fixed4 v h] at this
    exact this)
theorem num4_lt (l : List UInt8) (h : l.length ≤ 4) : num l < 4294967296 := by
  have h1 := num_lt l
  have : (256 : Nat) ^ l.length ≤ 256 ^ 4 := Nat.pow_le_pow_right (by omega) h
  omega
theorem number4 (l : List UInt8) (h : l.length = 4) : number l = (num l, 0) := by
  unfold number
  simp [h]
theorem ct_number4 (l : List UInt8) (h : l.length = 4) : Ct Tryd.prog 58 [.string (bs l)] [] [] (fun v' post => v' = .tuple #[.int .u64 ((num l : Nat) : Int), .int .i64 0] ∧ post = []) :=
  ct_same (fun w => by
    have := number_any (bs l) w (by rw [bs_size]; omega)
    rw [bs_data, number4 l h] at this
    exact this)
theorem ct_rnumber4 (l : List UInt8) (h : l.length = 4) : Ct Tryd.prog 102 [.string (bs l)] [] [] (fun v' post => v' = .tuple #[.int .u64 ((num l : Nat) : Int), .int .i64 0] ∧ post = []) :=
  ct_same (fun w => by
    have := rnumber_any (bs l) w (by rw [bs_size]; omega)
    rw [bs_data, number4 l h] at this
    exact this)
theorem eight_cells (cs : Array Value) (l : List UInt8) (h : l.length = 8) (hc : cs.size = 8) : laid cs 0 (bcells (l.take 8)) = (bcells l).toArray := by
  unfold laid
  have h1 : l.take 8 = l := List.take_of_length_le (by omega)
  rw [h1]
  have h2 : cs.toList.drop (0 + (bcells l).length) = [] := List.drop_eq_nil_of_le (by rw [bcells_length]; simp; omega)
  rw [h2]
  simp

set_option maxRecDepth 100000 in
set_option maxHeartbeats 1000000 in
theorem seal_of (l : List UInt8) (h : l.length = 8) :
    Ct Tryd.prog 99 [.string (bs l)] [] [] fun v post => v = .agg (bcells l).toArray ∧ post = [] := by
 refine ct_of Tryd.func99 rfl rfl (fun w0 => ?_)
 show G _ _ [(0, _)] _ _
 refine G_seq ?_
 refine G_region (l := [0]) rfl ?_
 refine G_new rfl rfl rfl rfl (N_allocA rfl infSealW_169 rfl) (fun b2 => ?_)
 refine G_done ?_
 refine G_seq ?_
 refine G_region (l := [0]) rfl ?_
 refine G_new rfl rfl rfl rfl (N_allocA rfl infSealW_169 rfl) (fun b3 => ?_)
 refine G_done ?_
 refine G_seq ?_
 refine G_region (l := [0, 1, 2]) rfl ?_
 refine G_val rfl rfl rfl rfl (V_aslice rfl Tryd.underlying169 infSealW_5 rfl) ?_
 refine G_val rfl rfl rfl rfl (V_move rfl rfl) ?_
 refine G_putV (l1 := []) (L' := [_, _]) rfl rfl rfl rfl rfl (P_copyS rfl rfl Tryd.underlying27 infSealW_5 rfl rfl rfl (mem_at 0 rfl) (by first | omega | (simp; done) | (simp; omega) | (simp at *; omega))) rfl ?_
 refine G_done ?_
 refine G_seq ?_
 rw [eight_cells _ l h rfl]
 refine G_region (l := [0, 1]) rfl ?_
 first
   | refine G_val rfl rfl rfl rfl (V_loadW (s := 8) rfl rfl (mem_at 0 rfl) Tryd.underlying169 rfl infSealW_169 rfl (by first | rfl | (simp [bcells_length]; done) | (simp [bcells_length]; omega) | (simp [bcells_length, *]; done))) ?_
   | refine G_val rfl rfl rfl rfl (V_loadA (s := 8) rfl rfl (mem_at 0 rfl) Tryd.underlying169 rfl infSealW_169 rfl rfl (by first | rfl | (simp [bcells_length]; done) | (simp [bcells_length]; omega) | (simp [bcells_length, *]; done))) ?_
 refine G_put (l1 := [_]) (L' := [_, _]) rfl rfl rfl rfl (P_storeA (s := 8) rfl rfl rfl (mem_at 1 rfl) (by first | rfl | (simp [bcells_length]; done) | (simp [bcells_length]; omega) | (simp [bcells_length, *]; done)) infSealW_169 rfl (by first | rfl | (simp [bcells_length]; done) | (simp [bcells_length]; omega) | (simp [bcells_length, *]; done)) (by first | rfl | exact bcells_all _ | (simp [Value.oneCell']; done) | (simp [Value.oneCell', *]; done))) rfl ?_
 refine G_done ?_
 refine G_ret (post := []) Tryd.func99 rfl (RVs_cons (RV_cell (s := 8) rfl (mem_at 1 rfl) Tryd.underlying169 rfl infSealW_169 rfl (by first | rfl | (simp [bcells_length]; done) | (simp [bcells_length]; omega) | (simp [bcells_length, *]; done))) RVs_nil) [] rfl ?_
 dsimp only [packed]
 exact ⟨rfl, rfl⟩

set_option maxRecDepth 100000 in
set_option maxHeartbeats 1000000 in
theorem seal_number (b off cap : Nat) (cs : Array Value) (T : TypeId) (l : List UInt8) (h : l.length = 4) (hc : (cs.toList.drop off).take 4 = bcells l) :
    Ct Tryd.prog 100 [.slice (some ⟨b, off, none⟩) 4 cap] [(some b, .cells cs T (0, 0))] [] fun v post => v = .int .u32 ((num l : Nat) : Int) ∧ post = [] := by
 have hn := num4_lt l (by omega)
 refine ct_of Tryd.func100 rfl rfl (fun w0 => ?_)
 show G _ _ [(0, _)] _ _
 refine G_seq ?_
 refine G_region (l := [0]) rfl ?_
 refine G_val rfl rfl rfl rfl (V_assign rfl rfl) ?_
 refine G_done ?_
 refine G_seq ?_
 refine G_region (l := [0, 1, 2, 3, 4, 5, 6, 7]) rfl ?_
 refine G_val rfl rfl rfl rfl (V_move rfl rfl) ?_
 refine G_val rfl rfl rfl rfl (V_bytesS (l := l) rfl rfl Tryd.underlying27 Tryd.underlying5 Tryd.underlying9 (mem_at 0 rfl) h hc) ?_
 refine G_call (L2 := []) rfl rfl rfl rfl rfl rfl Tryd.call58 (ct_number4 _ (by first | omega | (simp; done) | (simp; omega) | (simp at *; omega))) [] [] rfl rfl ?_
 rintro v post ⟨rfl, rfl⟩
 refine G_val rfl rfl rfl rfl (V_move rfl rfl) ?_
 refine G_val rfl rfl rfl rfl (V_extract rfl rfl rfl) ?_
 refine G_val rfl rfl rfl rfl (V_extract rfl rfl rfl) ?_
 refine G_val rfl rfl rfl rfl (V_assign rfl rfl) ?_
 refine G_val rfl rfl rfl rfl (V_assign rfl rfl) ?_
 refine G_done ?_
 refine G_seq ?_
 refine G_region (l := [0, 1, 2]) rfl ?_
 refine G_val rfl rfl rfl rfl (V_move rfl rfl) ?_
 first
   | refine G_val rfl rfl rfl rfl ((V_conv rfl rfl Tryd.underlying103 Tryd.underlying22).int (wrap_u32 (by omega))) ?_
   | refine G_val rfl rfl rfl rfl (V_conv rfl rfl Tryd.underlying103 Tryd.underlying22) ?_
 refine G_val rfl rfl rfl rfl (V_assign rfl rfl) ?_
 refine G_done ?_
 refine G_ret (post := []) Tryd.func100 rfl (RVs_cons (RV_tmp rfl) RVs_nil) [] rfl ?_
 dsimp only [packed]
 exact ⟨rfl, rfl⟩

set_option maxRecDepth 100000 in
set_option maxHeartbeats 1000000 in
theorem seal_seal (e i : Nat) (d : List UInt8) (he : e < 4294967296) (hi : i < 4294967296) (hd : d.length ≤ 9223372036854775000) :
    Ct Tryd.prog 72 [.int .u32 (e : Int), .int .u32 (i : Int), .string (bs d)] [] [] fun v post => v = .tuple #[.string (bs (sealL e i d)), .int .i64 ((sealE e d : Nat) : Int)] ∧ post = [] := by
 have hb1 := be_length 4 e
 have hb2 := be_length 4 i
 refine ct_of Tryd.func72 rfl rfl (fun w0 => ?_)
 show G _ _ [(0, _), (1, _), (2, _)] _ _
 refine G_seq ?_
 refine G_region (l := [0, 1]) rfl ?_
 refine G_val rfl rfl rfl rfl (V_assign rfl rfl) ?_
 refine G_val rfl rfl rfl rfl (V_assign rfl rfl) ?_
 refine G_done ?_
 refine G_seq ?_
 refine G_seq ?_
 refine G_region (l := [0, 1, 2, 3, 4, 5, 6]) rfl ?_
 refine G_val rfl rfl rfl rfl (V_move rfl rfl) ?_
 refine G_val rfl rfl rfl rfl (V_eql rfl rfl rfl) ?_
 refine G_val rfl rfl rfl rfl (V_move rfl rfl) ?_
 refine G_splitD 14 rfl (fun hc1 => ?_) (fun hc1 => ?_)
 · skip
   refine G_off rfl rfl rfl rfl ?_
   refine G_off rfl rfl rfl rfl ?_
   refine G_off rfl rfl rfl rfl ?_
   refine G_val rfl rfl rfl rfl (V_pickT rfl rfl rfl) ?_
   refine G_done ?_
   refine G_then rfl ?_
   refine G_seq ?_
   refine G_region (l := [0, 1]) rfl ?_
   refine G_val rfl rfl rfl rfl (V_assign rfl rfl) ?_
   refine G_val rfl rfl rfl rfl (V_assign rfl rfl) ?_
   refine G_done ?_
   refine G_ret (post := []) Tryd.func72 rfl (RVs_cons (RV_tmp rfl) (RVs_cons (RV_tmp rfl) RVs_nil)) [] rfl ?_
   dsimp only [packed]
   refine ⟨?_, rfl⟩; unfold sealL sealE; first | (rw [if_pos (by omega), if_pos (by omega)]; rfl) | (rw [if_neg (by omega), if_neg (by omega)]; rfl)
 refine G_val rfl rfl rfl rfl (V_move rfl rfl) ?_
 refine G_val rfl rfl rfl rfl (V_slen rfl rfl Tryd.underlying9 rfl) ?_
 refine G_val rfl rfl rfl rfl (V_neq rfl rfl rfl) ?_
 refine G_val rfl rfl rfl rfl (V_pickF rfl rfl rfl) ?_
 refine G_done ?_
 refine G_ifD rfl (fun hc2 => ?_) (fun hc2 => ?_)
 · skip
   refine G_seq ?_
   refine G_region (l := [0, 1]) rfl ?_
   refine G_val rfl rfl rfl rfl (V_assign rfl rfl) ?_
   refine G_val rfl rfl rfl rfl (V_assign rfl rfl) ?_
   refine G_done ?_
   refine G_ret (post := []) Tryd.func72 rfl (RVs_cons (RV_tmp rfl) (RVs_cons (RV_tmp rfl) RVs_nil)) [] rfl ?_
   dsimp only [packed]
   refine ⟨?_, rfl⟩; unfold sealL sealE; first | (rw [if_pos (by omega), if_pos (by omega)]; rfl) | (rw [if_neg (by omega), if_neg (by omega)]; rfl)
 refine G_skip ?_
 refine G_seq ?_
 refine G_region (l := [0, 1, 2, 3, 4, 5, 6, 7]) rfl ?_
 refine G_val rfl rfl rfl rfl (V_move rfl rfl) ?_
 first
   | refine G_val rfl rfl rfl rfl ((V_conv rfl rfl Tryd.underlying22 Tryd.underlying103).int (wrap_u64 (by omega))) ?_
   | refine G_val rfl rfl rfl rfl (V_conv rfl rfl Tryd.underlying22 Tryd.underlying103) ?_
 refine G_call (L2 := []) rfl rfl rfl rfl rfl rfl Tryd.call82 (ct_fixed4 _ (by omega)) [] [] rfl rfl ?_
 rintro v post ⟨rfl, rfl⟩
 refine G_val rfl rfl rfl rfl (V_move rfl rfl) ?_
 refine G_val rfl rfl rfl rfl (V_extract rfl rfl rfl) ?_
 refine G_val rfl rfl rfl rfl (V_extract rfl rfl rfl) ?_
 refine G_val rfl rfl rfl rfl (V_assign rfl rfl) ?_
 refine G_val rfl rfl rfl rfl (V_assign rfl rfl) ?_
 refine G_done ?_
 refine G_seq ?_
 refine G_region (l := [0, 1, 2, 3, 4, 5, 6, 7]) rfl ?_
 refine G_val rfl rfl rfl rfl (V_move rfl rfl) ?_
 first
   | refine G_val rfl rfl rfl rfl ((V_conv rfl rfl Tryd.underlying22 Tryd.underlying103).int (wrap_u64 (by omega))) ?_
   | refine G_val rfl rfl rfl rfl (V_conv rfl rfl Tryd.underlying22 Tryd.underlying103) ?_
 refine G_call (L2 := []) rfl rfl rfl rfl rfl rfl Tryd.call82 (ct_fixed4 _ (by omega)) [] [] rfl rfl ?_
 rintro v post ⟨rfl, rfl⟩
 refine G_val rfl rfl rfl rfl (V_move rfl rfl) ?_
 refine G_val rfl rfl rfl rfl (V_extract rfl rfl rfl) ?_
 refine G_val rfl rfl rfl rfl (V_extract rfl rfl rfl) ?_
 refine G_val rfl rfl rfl rfl (V_assign rfl rfl) ?_
 refine G_val rfl rfl rfl rfl (V_assign rfl rfl) ?_
 refine G_done ?_
 refine G_seq ?_
 refine G_region (l := [0, 1, 2, 3, 4, 5, 6, 7, 8, 9, 10]) rfl ?_
 refine G_val rfl rfl rfl rfl (V_move rfl rfl) ?_
 refine G_val rfl rfl rfl rfl (V_move rfl rfl) ?_
 refine G_val rfl rfl rfl rfl (V_sadd rfl rfl rfl (by first | omega | (simp; done) | (simp; omega) | (simp at *; omega))) ?_
 refine G_val rfl rfl rfl rfl (V_move rfl rfl) ?_
 refine G_val rfl rfl rfl rfl (V_sadd rfl rfl rfl (by first | omega | (simp; done) | (simp; omega) | (simp at *; omega))) ?_
 refine G_val rfl rfl rfl rfl (V_move rfl rfl) ?_
 refine G_val rfl rfl rfl rfl (V_sadd rfl rfl rfl (by first | omega | (simp; done) | (simp; omega) | (simp at *; omega))) ?_
 refine G_val rfl rfl rfl rfl (V_move rfl rfl) ?_
 refine G_val rfl rfl rfl rfl (V_sadd rfl rfl rfl (by first | omega | (simp; done) | (simp; omega) | (simp at *; omega))) ?_
 refine G_val rfl rfl rfl rfl (V_assign rfl rfl) ?_
 refine G_val rfl rfl rfl rfl (V_assign rfl rfl) ?_
 refine G_done ?_
 refine G_ret (post := []) Tryd.func72 rfl (RVs_cons (RV_tmp rfl) (RVs_cons (RV_tmp rfl) RVs_nil)) [] rfl ?_
 dsimp only [packed]
 refine ⟨?_, rfl⟩; unfold sealL sealE; first | (rw [if_pos (by omega), if_pos (by omega)]; rfl) | (rw [if_neg (by omega), if_neg (by omega)]; rfl)

set_option maxRecDepth 100000 in
set_option maxHeartbeats 1000000 in
theorem rseal_mark (e i : Nat) (he : e < 4294967296) (hi : i < 4294967296) :
    Ct Tryd.prog 97 [.int .u32 (e : Int), .int .u32 (i : Int)] [] [] fun v post => v = .string (bs (be 4 e ++ be 4 i)) ∧ post = [] := by
 have hb1 := be_length 4 e
 have hb2 := be_length 4 i
 refine ct_of Tryd.func97 rfl rfl (fun w0 => ?_)
 show G _ _ [(0, _), (1, _)] _ _
 refine G_seq ?_
 refine G_region (l := [0]) rfl ?_
 refine G_val rfl rfl rfl rfl (V_assign rfl rfl) ?_
 refine G_done ?_
 refine G_seq ?_
 refine G_region (l := [0, 1, 2, 3, 4, 5, 6, 7]) rfl ?_
 refine G_val rfl rfl rfl rfl (V_move rfl rfl) ?_
 first
   | refine G_val rfl rfl rfl rfl ((V_conv rfl rfl Tryd.underlying22 Tryd.underlying103).int (wrap_u64 (by omega))) ?_
   | refine G_val rfl rfl rfl rfl (V_conv rfl rfl Tryd.underlying22 Tryd.underlying103) ?_
 refine G_call (L2 := []) rfl rfl rfl rfl rfl rfl Tryd.call83 (ct_rfixed4 _ (by omega)) [] [] rfl rfl ?_
 rintro v post ⟨rfl, rfl⟩
 refine G_val rfl rfl rfl rfl (V_move rfl rfl) ?_
 refine G_val rfl rfl rfl rfl (V_extract rfl rfl rfl) ?_
 refine G_val rfl rfl rfl rfl (V_extract rfl rfl rfl) ?_
 refine G_val rfl rfl rfl rfl (V_assign rfl rfl) ?_
 refine G_val rfl rfl rfl rfl (V_assign rfl rfl) ?_
 refine G_done ?_
 refine G_seq ?_
 refine G_region (l := [0, 1, 2, 3, 4, 5, 6, 7]) rfl ?_
 refine G_val rfl rfl rfl rfl (V_move rfl rfl) ?_
 first
   | refine G_val rfl rfl rfl rfl ((V_conv rfl rfl Tryd.underlying22 Tryd.underlying103).int (wrap_u64 (by omega))) ?_
   | refine G_val rfl rfl rfl rfl (V_conv rfl rfl Tryd.underlying22 Tryd.underlying103) ?_
 refine G_call (L2 := []) rfl rfl rfl rfl rfl rfl Tryd.call83 (ct_rfixed4 _ (by omega)) [] [] rfl rfl ?_
 rintro v post ⟨rfl, rfl⟩
 refine G_val rfl rfl rfl rfl (V_move rfl rfl) ?_
 refine G_val rfl rfl rfl rfl (V_extract rfl rfl rfl) ?_
 refine G_val rfl rfl rfl rfl (V_extract rfl rfl rfl) ?_
 refine G_val rfl rfl rfl rfl (V_assign rfl rfl) ?_
 refine G_val rfl rfl rfl rfl (V_assign rfl rfl) ?_
 refine G_done ?_
 refine G_seq ?_
 refine G_region (l := [0, 1, 2, 3]) rfl ?_
 refine G_val rfl rfl rfl rfl (V_move rfl rfl) ?_
 refine G_val rfl rfl rfl rfl (V_move rfl rfl) ?_
 refine G_val rfl rfl rfl rfl (V_sadd rfl rfl rfl (by first | omega | (simp; done) | (simp; omega) | (simp at *; omega))) ?_
 refine G_val rfl rfl rfl rfl (V_assign rfl rfl) ?_
 refine G_done ?_
 refine G_ret (post := []) Tryd.func97 rfl (RVs_cons (RV_tmp rfl) RVs_nil) [] rfl ?_
 dsimp only [packed]
 exact ⟨rfl, rfl⟩

set_option maxRecDepth 100000 in
set_option maxHeartbeats 1000000 in
theorem rseal_seal (e i : Nat) (d : List UInt8) (he : e < 4294967296) (hi : i < 4294967296) (hd : d.length ≤ 9223372036854775000) :
    Ct Tryd.prog 62 [.int .u32 (e : Int), .int .u32 (i : Int), .string (bs d)] [] [] fun v post => v = .tuple #[.string (bs (sealL e i d)), .int .i64 ((sealE e d : Nat) : Int)] ∧ post = [] := by
 have hb1 := be_length 4 e
 have hb2 := be_length 4 i
 refine ct_of Tryd.func62 rfl rfl (fun w0 => ?_)
 show G _ _ [(0, _), (1, _), (2, _)] _ _
 refine G_seq ?_
 refine G_region (l := [0, 1]) rfl ?_
 refine G_val rfl rfl rfl rfl (V_assign rfl rfl) ?_
 refine G_val rfl rfl rfl rfl (V_assign rfl rfl) ?_
 refine G_done ?_
 refine G_seq ?_
 refine G_seq ?_
 refine G_region (l := [0, 1, 2, 3, 4, 5, 6]) rfl ?_
 refine G_val rfl rfl rfl rfl (V_move rfl rfl) ?_
 refine G_val rfl rfl rfl rfl (V_eql rfl rfl rfl) ?_
 refine G_val rfl rfl rfl rfl (V_move rfl rfl) ?_
 refine G_splitD 10 rfl (fun hc1 => ?_) (fun hc1 => ?_)
 · skip
   refine G_off rfl rfl rfl rfl ?_
   refine G_off rfl rfl rfl rfl ?_
   refine G_off rfl rfl rfl rfl ?_
   refine G_val rfl rfl rfl rfl (V_pickT rfl rfl rfl) ?_
   refine G_done ?_
   refine G_then rfl ?_
   refine G_seq ?_
   refine G_region (l := [0, 1]) rfl ?_
   refine G_val rfl rfl rfl rfl (V_assign rfl rfl) ?_
   refine G_val rfl rfl rfl rfl (V_assign rfl rfl) ?_
   refine G_done ?_
   refine G_ret (post := []) Tryd.func62 rfl (RVs_cons (RV_tmp rfl) (RVs_cons (RV_tmp rfl) RVs_nil)) [] rfl ?_
   dsimp only [packed]
   refine ⟨?_, rfl⟩; unfold sealL sealE; first | (rw [if_pos (by omega), if_pos (by omega)]; rfl) | (rw [if_neg (by omega), if_neg (by omega)]; simp only [List.append_assoc]; rfl)
 refine G_val rfl rfl rfl rfl (V_move rfl rfl) ?_
 refine G_val rfl rfl rfl rfl (V_slen rfl rfl Tryd.underlying9 rfl) ?_
 refine G_val rfl rfl rfl rfl (V_neq rfl rfl rfl) ?_
 refine G_val rfl rfl rfl rfl (V_pickF rfl rfl rfl) ?_
 refine G_done ?_
 refine G_ifD rfl (fun hc2 => ?_) (fun hc2 => ?_)
 · skip
   refine G_seq ?_
   refine G_region (l := [0, 1]) rfl ?_
   refine G_val rfl rfl rfl rfl (V_assign rfl rfl) ?_
   refine G_val rfl rfl rfl rfl (V_assign rfl rfl) ?_
   refine G_done ?_
   refine G_ret (post := []) Tryd.func62 rfl (RVs_cons (RV_tmp rfl) (RVs_cons (RV_tmp rfl) RVs_nil)) [] rfl ?_
   dsimp only [packed]
   refine ⟨?_, rfl⟩; unfold sealL sealE; first | (rw [if_pos (by omega), if_pos (by omega)]; rfl) | (rw [if_neg (by omega), if_neg (by omega)]; simp only [List.append_assoc]; rfl)
 refine G_skip ?_
 refine G_seq ?_
 refine G_region (l := [0, 1, 2, 3, 4, 5, 6, 7, 8, 9, 10]) rfl ?_
 refine G_val rfl rfl rfl rfl (V_move rfl rfl) ?_
 refine G_val rfl rfl rfl rfl (V_move rfl rfl) ?_
 refine G_call (L2 := []) rfl rfl rfl rfl rfl rfl Tryd.call97 (rseal_mark _ _ (by omega) (by omega)) [] [] rfl rfl ?_
 rintro v post ⟨rfl, rfl⟩
 refine G_val rfl rfl rfl rfl (V_move rfl rfl) ?_
 refine G_val rfl rfl rfl rfl (V_sadd rfl rfl rfl (by first | omega | (simp; done) | (simp; omega) | (simp at *; omega))) ?_
 refine G_val rfl rfl rfl rfl (V_move rfl rfl) ?_
 refine G_val rfl rfl rfl rfl (V_move rfl rfl) ?_
 refine G_call (L2 := []) rfl rfl rfl rfl rfl rfl Tryd.call97 (rseal_mark _ _ (by omega) (by omega)) [] [] rfl rfl ?_
 rintro v post ⟨rfl, rfl⟩
 refine G_val rfl rfl rfl rfl (V_sadd rfl rfl rfl (by first | omega | (simp; done) | (simp; omega) | (simp at *; omega))) ?_
 refine G_val rfl rfl rfl rfl (V_assign rfl rfl) ?_
 refine G_val rfl rfl rfl rfl (V_assign rfl rfl) ?_
 refine G_done ?_
 refine G_ret (post := []) Tryd.func62 rfl (RVs_cons (RV_tmp rfl) (RVs_cons (RV_tmp rfl) RVs_nil)) [] rfl ?_
 dsimp only [packed]
 refine ⟨?_, rfl⟩; unfold sealL sealE; first | (rw [if_pos (by omega), if_pos (by omega)]; rfl) | (rw [if_neg (by omega), if_neg (by omega)]; simp only [List.append_assoc]; rfl)


def openT (b : List UInt8) : Value := .tuple #[.int .u32 ((openE b : Nat) : Int), .int .u32 ((openI b : Nat) : Int), .string (bs (openD b)), .bool (openOk b)]
theorem open_not {b : List UInt8} (h : openOk b = false) : openT b = .tuple #[.int .u32 0, .int .u32 0, .string (bs []), .bool false] := by
  unfold openT openE openI openD
  simp [h]
theorem open_len {b : List UInt8} (h : ¬ (b.length : Int) = 64) : openOk b = false := by
  unfold openOk; simp; omega
theorem open_neq {b : List UInt8} (h : ¬ b.take 8 = b.drop 56) : openOk b = false := by
  unfold openOk; simp [h]
theorem open_zero {b : List UInt8} (h : ((num (b.take 4) : Nat) : Int) = 0) : openOk b = false := by
  unfold openOk
  have : num (b.take 4) = 0 := by omega
  simp [this]
theorem open_ok {b : List UInt8} (h1 : (b.length : Int) = 64) (h2 : b.take 8 = b.drop 56) (h3 : ¬ ((num (b.take 4) : Nat) : Int) = 0) : openOk b = true := by
  unfold openOk
  have : ¬ num (b.take 4) = 0 := by omega
  simp [this, h2]; omega
theorem open_yes {b : List UInt8} (h : openOk b = true) : openT b = .tuple #[.int .u32 ((num (b.take 4) : Nat) : Int), .int .u32 ((num ((b.take 8).drop 4) : Nat) : Int), .string (bs ((b.take 56).drop 8)), .bool true] := by
  unfold openT openE openI openD
  simp [h]
def openA (b : List UInt8) : Value := .agg #[.int .u32 ((openE b : Nat) : Int), .int .u32 ((openI b : Nat) : Int), .string (bs (openD b)), .bool (openOk b)]
theorem openA_not {b : List UInt8} (h : openOk b = false) : openA b = .agg #[.int .u32 0, .int .u32 0, .string (bs []), .bool false] := by
  unfold openA openE openI openD
  simp [h]
theorem openA_yes {b : List UInt8} (h : openOk b = true) : openA b = .agg #[.int .u32 ((num (b.take 4) : Nat) : Int), .int .u32 ((num ((b.take 8).drop 4) : Nat) : Int), .string (bs ((b.take 56).drop 8)), .bool true] := by
  unfold openA openE openI openD
  simp [h]
theorem take4 (b : List UInt8) : ((bcells (b.take 8)).toArray.toList.drop 0).take 4 = bcells (b.take 4) := by simp [bcells_take, List.take_take]
theorem drop4 (b : List UInt8) (h : b.length = 64) : ((bcells (b.take 8)).toArray.toList.drop 4).take 4 = bcells ((b.take 8).drop 4) := by
  simp only [bcells_take, bcells_drop]
  rw [List.take_of_length_le (by simp; omega)]
theorem key8 (l : List UInt8) (h : l.length = 8) : Tryd.prog.keyLits 2 169 (bcells l).toArray.toList = some (l.map fun c => .int .u8 (c.toNat : Int)) :=
  keyLits_bytes (D := 0) Tryd.underlying169 Tryd.underlying5 (by kernel_rfl) (by kernel_rfl) l h

set_option maxRecDepth 100000 in
set_option maxHeartbeats 1000000 in
theorem seal_open (b : List UInt8) (hb : b.length ≤ 9223372036854775807) :
    Ct Tryd.prog 68 [.string (bs b)] [] [] fun v post => v = openT b ∧ post = [] := by
 refine ct_of Tryd.func68 rfl rfl (fun w0 => ?_)
 show G _ _ [(0, _)] _ _
 refine G_seq ?_
 refine G_region (l := [0, 1, 2, 3]) rfl ?_
 refine G_val rfl rfl rfl rfl (V_assign rfl rfl) ?_
 refine G_val rfl rfl rfl rfl (V_assign rfl rfl) ?_
 refine G_val rfl rfl rfl rfl (V_assign rfl rfl) ?_
 refine G_val rfl rfl rfl rfl (V_assign rfl rfl) ?_
 refine G_done ?_
 refine G_seq ?_
 refine G_seq ?_
 refine G_region (l := [0, 1, 2]) rfl ?_
 refine G_val rfl rfl rfl rfl (V_move rfl rfl) ?_
 refine G_val rfl rfl rfl rfl (V_slen rfl rfl Tryd.underlying9 rfl) ?_
 refine G_val rfl rfl rfl rfl (V_neq rfl rfl rfl) ?_
 refine G_done ?_
 refine G_ifD rfl (fun hc1 => ?_) (fun hc1 => ?_)
 · skip
   refine G_seq ?_
   refine G_region (l := [0, 1, 2, 3]) rfl ?_
   refine G_val rfl rfl rfl rfl (V_assign rfl rfl) ?_
   refine G_val rfl rfl rfl rfl (V_assign rfl rfl) ?_
   refine G_val rfl rfl rfl rfl (V_assign rfl rfl) ?_
   refine G_val rfl rfl rfl rfl (V_assign rfl rfl) ?_
   refine G_done ?_
   refine G_ret (post := []) Tryd.func68 rfl (RVs_cons (RV_tmp rfl) (RVs_cons (RV_tmp rfl) (RVs_cons (RV_tmp rfl) (RVs_cons (RV_tmp rfl) RVs_nil)))) [] rfl ?_
   dsimp only [packed]
   first
     | exact ⟨(open_not (open_len (by omega))).symm, rfl⟩
     | exact ⟨(open_not (open_neq (fun h => absurd h (by assumption)))).symm, rfl⟩
     | exact ⟨(open_not (open_neq (fun h => absurd (congrArg _ h) (by assumption)))).symm, rfl⟩
     | exact ⟨(open_not (open_zero (by assumption))).symm, rfl⟩
     | exact ⟨(open_yes (open_ok (by omega) (lits_bytes_inj (by first | assumption | exact Classical.not_not.1 (by assumption))) (by assumption))).symm, rfl⟩
     | exact ⟨(open_yes (open_ok (by omega) (by first | assumption | exact Classical.not_not.1 (by assumption)) (by assumption))).symm, rfl⟩
 refine G_skip ?_
 refine G_seq ?_
 refine G_region (l := [0]) rfl ?_
 refine G_val rfl rfl rfl rfl (V_assign rfl rfl) ?_
 refine G_done ?_
 refine G_seq ?_
 refine GH_start (Lq := []) (isq := []) (m := 11) mixedK rfl rfl ?_
 refine GH_take 0 rfl rfl rfl rfl (by kernel_rfl) (by kernel_rfl) (by kernel_rfl) (fun _ _ => (V_move rfl rfl)) ?_
 first
   | refine GH_take 1 rfl rfl rfl rfl (by kernel_rfl) (by kernel_rfl) (by kernel_rfl) (fun _ _ => (V_ssliceHN (hi := 8) rfl Tryd.underlying9 rfl rfl rfl (by first | omega | (simp; done) | (simp; omega) | (simp at *; omega)))) ?_
   | refine GH_take 1 rfl rfl rfl rfl (by kernel_rfl) (by kernel_rfl) (by kernel_rfl) (fun _ _ => (V_ssliceH rfl Tryd.underlying9 rfl rfl (by first | omega | (simp; done) | (simp; omega) | (simp at *; omega)) (by first | omega | (simp; done) | (simp; omega) | (simp at *; omega)))) ?_
 refine GH_take 3 rfl rfl rfl rfl (by kernel_rfl) (by kernel_rfl) (by kernel_rfl) (fun _ _ => (V_move rfl rfl)) ?_
 refine GH_take 4 rfl rfl rfl rfl (by kernel_rfl) (by kernel_rfl) (by kernel_rfl) (fun _ _ => (V_move rfl rfl)) ?_
 first
   | refine GH_take 5 rfl rfl rfl rfl (by kernel_rfl) (by kernel_rfl) (by kernel_rfl) (fun _ _ => (V_ssliceLN (lo := _) rfl Tryd.underlying9 rfl rfl rfl (by first | omega | (simp; done) | (simp; omega) | (simp at *; omega)))) ?_
   | refine GH_take 5 rfl rfl rfl rfl (by kernel_rfl) (by kernel_rfl) (by kernel_rfl) (fun _ _ => (V_ssliceL rfl Tryd.underlying9 rfl rfl (by first | omega | (simp; done) | (simp; omega) | (simp at *; omega)) (by first | omega | (simp; done) | (simp; omega) | (simp at *; omega)))) ?_
 refine GH_all [2, 7, 8] (by kernel_rfl) (by decide) ?_
 refine (And.intro ?_ (And.intro ?_ (And.intro ?_ trivial)))
 · skip
   refine GHop_call (L2 := []) rfl rfl rfl rfl rfl rfl Tryd.call99 (seal_of _ (by simp; omega)) [] [] rfl rfl [] (by rintro v post ⟨rfl, rfl⟩; exact ⟨_, rfl⟩) ?_
   rintro v post ⟨rfl, rfl⟩
   refine GH_all [6, 7, 8] (by kernel_rfl) (by decide) ?_
   refine (And.intro ?_ (And.intro ?_ (And.intro ?_ trivial)))
   · skip
     refine GHop_call (L2 := []) rfl rfl rfl rfl rfl rfl Tryd.call99 (seal_of _ (by simp; omega)) [] [] rfl rfl [] (by rintro v post ⟨rfl, rfl⟩; exact ⟨_, rfl⟩) ?_
     rintro v post ⟨rfl, rfl⟩
     refine GH_all [7, 8] (by kernel_rfl) (by decide) ?_
     refine (And.intro ?_ (And.intro ?_ trivial))
     · skip
       refine GHop_new rfl rfl rfl rfl (N_allocA rfl infSealW_169 rfl) [] (fun _ => ⟨_, rfl⟩) (fun b7 => ?_)
       refine GH_all [8] (by kernel_rfl) (by decide) ?_
       refine (And.intro ?_ trivial)
       · skip
         refine GHop_new rfl rfl rfl rfl (N_allocA rfl infSealW_169 rfl) [] (fun _ => ⟨_, rfl⟩) (fun b8 => ?_)
         refine GH_all [9] (by kernel_rfl) (by decide) ?_
         refine (And.intro ?_ trivial)
         · skip
           refine GHop_put (l1 := [_]) (L' := [_, _]) rfl rfl rfl rfl (P_storeA (s := 8) rfl rfl rfl (mem_at 1 rfl) (by first | rfl | (simp [bcells_length]; done) | (simp [bcells_length]; omega) | (simp [bcells_length, *]; done)) infSealW_169 rfl (by first | rfl | (simp [bcells_length]; done) | (simp [bcells_length]; omega) | (simp [bcells_length, *]; done)) (by first | rfl | exact bcells_all _ | (simp [Value.oneCell']; done) | (simp [Value.oneCell', *]; done))) rfl [] rfl ?_
           refine GH_all [10] (by kernel_rfl) (by decide) ?_
           refine (And.intro ?_ trivial)
           · skip
             refine GHop_put (l1 := []) (L' := [_, _]) rfl rfl rfl rfl (P_storeA (s := 8) rfl rfl rfl (mem_at 0 rfl) (by first | rfl | (simp [bcells_length]; done) | (simp [bcells_length]; omega) | (simp [bcells_length, *]; done)) infSealW_169 rfl (by first | rfl | (simp [bcells_length]; done) | (simp [bcells_length]; omega) | (simp [bcells_length, *]; done)) (by first | rfl | exact bcells_all _ | (simp [Value.oneCell']; done) | (simp [Value.oneCell', *]; done))) rfl [] rfl ?_
             refine GH_done (by kernel_rfl) ?_
             refine G_seq ?_
             refine G_region (l := [0, 1, 2]) rfl ?_
             refine G_val rfl rfl rfl rfl (V_asliceH (h := 4) rfl Tryd.underlying169 infSealW_5 rfl rfl rfl (by first | omega | (simp; done) | (simp; omega) | (simp at *; omega))) ?_
             refine G_call (L2 := [_, _]) rfl rfl rfl rfl rfl rfl Tryd.call100 (seal_number _ _ _ _ _ (b.take 4) (by simp; omega) (take4 b)) [] [1] rfl rfl ?_
             rintro v post ⟨rfl, rfl⟩
             show G _ _ _ [_, _] _
             refine G_val rfl rfl rfl rfl (V_assign rfl rfl) ?_
             refine G_done ?_
             refine G_seq ?_
             refine G_seq ?_
             refine G_region (l := [0, 1, 2, 3, 4, 5, 6]) rfl ?_
             first
               | refine G_val rfl rfl rfl rfl (V_loadW (s := 8) rfl rfl (mem_at 1 rfl) Tryd.underlying169 rfl infSealW_169 rfl (by first | rfl | (simp [bcells_length]; done) | (simp [bcells_length]; omega) | (simp [bcells_length, *]; done))) ?_
               | refine G_val rfl rfl rfl rfl (V_loadA (s := 8) rfl rfl (mem_at 1 rfl) Tryd.underlying169 rfl infSealW_169 rfl rfl (by first | rfl | (simp [bcells_length]; done) | (simp [bcells_length]; omega) | (simp [bcells_length, *]; done))) ?_
             first
               | refine G_val rfl rfl rfl rfl (V_loadW (s := 8) rfl rfl (mem_at 0 rfl) Tryd.underlying169 rfl infSealW_169 rfl (by first | rfl | (simp [bcells_length]; done) | (simp [bcells_length]; omega) | (simp [bcells_length, *]; done))) ?_
               | refine G_val rfl rfl rfl rfl (V_loadA (s := 8) rfl rfl (mem_at 0 rfl) Tryd.underlying169 rfl infSealW_169 rfl rfl (by first | rfl | (simp [bcells_length]; done) | (simp [bcells_length]; omega) | (simp [bcells_length, *]; done))) ?_
             refine G_val rfl rfl rfl rfl (V_aggneq (m := 6) rfl Tryd.eqGuardType169 (by kernel_rfl) (by decide) (formed_of Tryd.underlying169 rfl (by kernel_rfl : Tryd.prog.cellsOf 169 = 8) (by first | rfl | (simp [bcells_length]; done) | (simp [bcells_length]; omega) | (simp [bcells_length, *]; done))) (formed_of Tryd.underlying169 rfl (by kernel_rfl : Tryd.prog.cellsOf 169 = 8) (by first | rfl | (simp [bcells_length]; done) | (simp [bcells_length]; omega) | (simp [bcells_length, *]; done))) rfl rfl (key8 _ (by simp; omega)) (key8 _ (by simp; omega))) ?_
             refine G_val rfl rfl rfl rfl (V_move rfl rfl) ?_
             refine G_splitD 25 rfl (fun hc2 => ?_) (fun hc2 => ?_)
             · skip
               refine G_off rfl rfl rfl rfl ?_
               refine G_off rfl rfl rfl rfl ?_
               refine G_val rfl rfl rfl rfl (V_pickT rfl rfl rfl) ?_
               refine G_done ?_
               refine G_then rfl ?_
               refine G_seq ?_
               refine G_region (l := [0, 1, 2, 3]) rfl ?_
               refine G_val rfl rfl rfl rfl (V_assign rfl rfl) ?_
               refine G_val rfl rfl rfl rfl (V_assign rfl rfl) ?_
               refine G_val rfl rfl rfl rfl (V_assign rfl rfl) ?_
               refine G_val rfl rfl rfl rfl (V_assign rfl rfl) ?_
               refine G_done ?_
               refine G_ret (post := []) Tryd.func68 rfl (RVs_cons (RV_tmp rfl) (RVs_cons (RV_tmp rfl) (RVs_cons (RV_tmp rfl) (RVs_cons (RV_tmp rfl) RVs_nil)))) [] rfl ?_
               dsimp only [packed]
               first
                 | exact ⟨(open_not (open_len (by omega))).symm, rfl⟩
                 | exact ⟨(open_not (open_neq (fun h => absurd h (by assumption)))).symm, rfl⟩
                 | exact ⟨(open_not (open_neq (fun h => absurd (congrArg _ h) (by assumption)))).symm, rfl⟩
                 | exact ⟨(open_not (open_zero (by assumption))).symm, rfl⟩
                 | exact ⟨(open_yes (open_ok (by omega) (lits_bytes_inj (by first | assumption | exact Classical.not_not.1 (by assumption))) (by assumption))).symm, rfl⟩
                 | exact ⟨(open_yes (open_ok (by omega) (by first | assumption | exact Classical.not_not.1 (by assumption)) (by assumption))).symm, rfl⟩
             refine G_val rfl rfl rfl rfl (V_move rfl rfl) ?_
             refine G_val rfl rfl rfl rfl (V_eql rfl rfl rfl) ?_
             refine G_val rfl rfl rfl rfl (V_pickF rfl rfl rfl) ?_
             refine G_done ?_
             refine G_ifD rfl (fun hc3 => ?_) (fun hc3 => ?_)
             · skip
               refine G_seq ?_
               refine G_region (l := [0, 1, 2, 3]) rfl ?_
               refine G_val rfl rfl rfl rfl (V_assign rfl rfl) ?_
               refine G_val rfl rfl rfl rfl (V_assign rfl rfl) ?_
               refine G_val rfl rfl rfl rfl (V_assign rfl rfl) ?_
               refine G_val rfl rfl rfl rfl (V_assign rfl rfl) ?_
               refine G_done ?_
               refine G_ret (post := []) Tryd.func68 rfl (RVs_cons (RV_tmp rfl) (RVs_cons (RV_tmp rfl) (RVs_cons (RV_tmp rfl) (RVs_cons (RV_tmp rfl) RVs_nil)))) [] rfl ?_
               dsimp only [packed]
               first
                 | exact ⟨(open_not (open_len (by omega))).symm, rfl⟩
                 | exact ⟨(open_not (open_neq (fun h => absurd h (by assumption)))).symm, rfl⟩
                 | exact ⟨(open_not (open_neq (fun h => absurd (congrArg _ h) (by assumption)))).symm, rfl⟩
                 | exact ⟨(open_not (open_zero (by assumption))).symm, rfl⟩
                 | exact ⟨(open_yes (open_ok (by omega) (lits_bytes_inj (by first | assumption | exact Classical.not_not.1 (by assumption))) (by assumption))).symm, rfl⟩
                 | exact ⟨(open_yes (open_ok (by omega) (by first | assumption | exact Classical.not_not.1 (by assumption)) (by assumption))).symm, rfl⟩
             refine G_skip ?_
             refine G_seq ?_
             refine G_draw mixedK (by kernel_rfl) ?_
             refine GQ_val rfl rfl rfl rfl (V_move rfl rfl) ?_
             refine GQ_val rfl rfl rfl rfl (V_asliceL (l := 4) rfl Tryd.underlying169 infSealW_5 rfl rfl rfl rfl (by first | omega | (simp; done) | (simp; omega) | (simp at *; omega)) rfl) ?_
             refine GQ_call rfl rfl rfl rfl rfl rfl Tryd.call100 (seal_number _ _ _ _ _ ((b.take 8).drop 4) (by simp; omega) (drop4 b (by omega))) [1] rfl (fun v post hp => (hp : _ ∧ _).1) ?_
             refine GQ_val rfl rfl rfl rfl (V_move rfl rfl) ?_
             refine GQ_val rfl rfl rfl rfl (V_move rfl rfl) ?_
             first
               | refine GQ_val rfl rfl rfl rfl (V_ssliceN (lo := 8) (hi := _) rfl Tryd.underlying9 rfl rfl rfl rfl rfl (by first | omega | (simp; done) | (simp; omega) | (simp at *; omega)) (by first | omega | (simp; done) | (simp; omega) | (simp at *; omega))) ?_
               | refine GQ_val rfl rfl rfl rfl (V_sslice rfl Tryd.underlying9 rfl rfl rfl (by first | omega | (simp; done) | (simp; omega) | (simp at *; omega)) (by first | omega | (simp; done) | (simp; omega) | (simp at *; omega)) (by first | omega | (simp; done) | (simp; omega) | (simp at *; omega))) ?_
             refine GQ_val rfl rfl rfl rfl (V_assign rfl rfl) ?_
             refine GQ_val rfl rfl rfl rfl (V_assign rfl rfl) ?_
             refine GQ_val rfl rfl rfl rfl (V_assign rfl rfl) ?_
             refine GQ_val rfl rfl rfl rfl (V_assign rfl rfl) ?_
             refine GQ_done rfl ?_
             refine G_ret (post := []) Tryd.func68 rfl (RVs_cons (RV_tmp rfl) (RVs_cons (RV_tmp rfl) (RVs_cons (RV_tmp rfl) (RVs_cons (RV_tmp rfl) RVs_nil)))) [] rfl ?_
             dsimp only [packed]
             first
               | exact ⟨(open_not (open_len (by omega))).symm, rfl⟩
               | exact ⟨(open_not (open_neq (fun h => absurd h (by assumption)))).symm, rfl⟩
               | exact ⟨(open_not (open_neq (fun h => absurd (congrArg _ h) (by assumption)))).symm, rfl⟩
               | exact ⟨(open_not (open_zero (by assumption))).symm, rfl⟩
               | exact ⟨(open_yes (open_ok (by omega) (lits_bytes_inj (by first | assumption | exact Classical.not_not.1 (by assumption))) (by assumption))).symm, rfl⟩
               | exact ⟨(open_yes (open_ok (by omega) (by first | assumption | exact Classical.not_not.1 (by assumption)) (by assumption))).symm, rfl⟩
     · skip
       refine GHop_new rfl rfl rfl rfl (N_allocA rfl infSealW_169 rfl) [] (fun _ => ⟨_, rfl⟩) (fun b8 => ?_)
       refine GH_all [7] (by kernel_rfl) (by decide) ?_
       refine (And.intro ?_ trivial)
       · skip
         refine GHop_new rfl rfl rfl rfl (N_allocA rfl infSealW_169 rfl) [] (fun _ => ⟨_, rfl⟩) (fun b7 => ?_)
         refine GH_all [9] (by kernel_rfl) (by decide) ?_
         refine (And.intro ?_ trivial)
         · skip
           refine GHop_put (l1 := []) (L' := [_, _]) rfl rfl rfl rfl (P_storeA (s := 8) rfl rfl rfl (mem_at 0 rfl) (by first | rfl | (simp [bcells_length]; done) | (simp [bcells_length]; omega) | (simp [bcells_length, *]; done)) infSealW_169 rfl (by first | rfl | (simp [bcells_length]; done) | (simp [bcells_length]; omega) | (simp [bcells_length, *]; done)) (by first | rfl | exact bcells_all _ | (simp [Value.oneCell']; done) | (simp [Value.oneCell', *]; done))) rfl [] rfl ?_
           refine GH_all [10] (by kernel_rfl) (by decide) ?_
           refine (And.intro ?_ trivial)
           · skip
             refine GHop_put (l1 := [_]) (L' := [_, _]) rfl rfl rfl rfl (P_storeA (s := 8) rfl rfl rfl (mem_at 1 rfl) (by first | rfl | (simp [bcells_length]; done) | (simp [bcells_length]; omega) | (simp [bcells_length, *]; done)) infSealW_169 rfl (by first | rfl | (simp [bcells_length]; done) | (simp [bcells_length]; omega) | (simp [bcells_length, *]; done)) (by first | rfl | exact bcells_all _ | (simp [Value.oneCell']; done) | (simp [Value.oneCell', *]; done))) rfl [] rfl ?_
             refine GH_done (by kernel_rfl) ?_
             refine G_seq ?_
             refine G_region (l := [0, 1, 2]) rfl ?_
             refine G_val rfl rfl rfl rfl (V_asliceH (h := 4) rfl Tryd.underlying169 infSealW_5 rfl rfl rfl (by first | omega | (simp; done) | (simp; omega) | (simp at *; omega))) ?_
             refine G_call (L2 := [_, _]) rfl rfl rfl rfl rfl rfl Tryd.call100 (seal_number _ _ _ _ _ (b.take 4) (by simp; omega) (take4 b)) [] [0] rfl rfl ?_
             rintro v post ⟨rfl, rfl⟩
             show G _ _ _ [_, _] _
             refine G_val rfl rfl rfl rfl (V_assign rfl rfl) ?_
             refine G_done ?_
             refine G_seq ?_
             refine G_seq ?_
             refine G_region (l := [0, 1, 2, 3, 4, 5, 6]) rfl ?_
             first
               | refine G_val rfl rfl rfl rfl (V_loadW (s := 8) rfl rfl (mem_at 0 rfl) Tryd.underlying169 rfl infSealW_169 rfl (by first | rfl | (simp [bcells_length]; done) | (simp [bcells_length]; omega) | (simp [bcells_length, *]; done))) ?_
               | refine G_val rfl rfl rfl rfl (V_loadA (s := 8) rfl rfl (mem_at 0 rfl) Tryd.underlying169 rfl infSealW_169 rfl rfl (by first | rfl | (simp [bcells_length]; done) | (simp [bcells_length]; omega) | (simp [bcells_length, *]; done))) ?_
             first
               | refine G_val rfl rfl rfl rfl (V_loadW (s := 8) rfl rfl (mem_at 1 rfl) Tryd.underlying169 rfl infSealW_169 rfl (by first | rfl | (simp [bcells_length]; done) | (simp [bcells_length]; omega) | (simp [bcells_length, *]; done))) ?_
               | refine G_val rfl rfl rfl rfl (V_loadA (s := 8) rfl rfl (mem_at 1 rfl) Tryd.underlying169 rfl infSealW_169 rfl rfl (by first | rfl | (simp [bcells_length]; done) | (simp [bcells_length]; omega) | (simp [bcells_length, *]; done))) ?_
             refine G_val rfl rfl rfl rfl (V_aggneq (m := 6) rfl Tryd.eqGuardType169 (by kernel_rfl) (by decide) (formed_of Tryd.underlying169 rfl (by kernel_rfl : Tryd.prog.cellsOf 169 = 8) (by first | rfl | (simp [bcells_length]; done) | (simp [bcells_length]; omega) | (simp [bcells_length, *]; done))) (formed_of Tryd.underlying169 rfl (by kernel_rfl : Tryd.prog.cellsOf 169 = 8) (by first | rfl | (simp [bcells_length]; done) | (simp [bcells_length]; omega) | (simp [bcells_length, *]; done))) rfl rfl (key8 _ (by simp; omega)) (key8 _ (by simp; omega))) ?_
             refine G_val rfl rfl rfl rfl (V_move rfl rfl) ?_
             refine G_splitD 25 rfl (fun hc2 => ?_) (fun hc2 => ?_)
             · skip
               refine G_off rfl rfl rfl rfl ?_
               refine G_off rfl rfl rfl rfl ?_
               refine G_val rfl rfl rfl rfl (V_pickT rfl rfl rfl) ?_
               refine G_done ?_
               refine G_then rfl ?_
               refine G_seq ?_
               refine G_region (l := [0, 1, 2, 3]) rfl ?_
               refine G_val rfl rfl rfl rfl (V_assign rfl rfl) ?_
               refine G_val rfl rfl rfl rfl (V_assign rfl rfl) ?_
               refine G_val rfl rfl rfl rfl (V_assign rfl rfl) ?_
               refine G_val rfl rfl rfl rfl (V_assign rfl rfl) ?_
               refine G_done ?_
               refine G_ret (post := []) Tryd.func68 rfl (RVs_cons (RV_tmp rfl) (RVs_cons (RV_tmp rfl) (RVs_cons (RV_tmp rfl) (RVs_cons (RV_tmp rfl) RVs_nil)))) [] rfl ?_
               dsimp only [packed]
               first
                 | exact ⟨(open_not (open_len (by omega))).symm, rfl⟩
                 | exact ⟨(open_not (open_neq (fun h => absurd h (by assumption)))).symm, rfl⟩
                 | exact ⟨(open_not (open_neq (fun h => absurd (congrArg _ h) (by assumption)))).symm, rfl⟩
                 | exact ⟨(open_not (open_zero (by assumption))).symm, rfl⟩
                 | exact ⟨(open_yes (open_ok (by omega) (lits_bytes_inj (by first | assumption | exact Classical.not_not.1 (by assumption))) (by assumption))).symm, rfl⟩
                 | exact ⟨(open_yes (open_ok (by omega) (by first | assumption | exact Classical.not_not.1 (by assumption)) (by assumption))).symm, rfl⟩
             refine G_val rfl rfl rfl rfl (V_move rfl rfl) ?_
             refine G_val rfl rfl rfl rfl (V_eql rfl rfl rfl) ?_
             refine G_val rfl rfl rfl rfl (V_pickF rfl rfl rfl) ?_
             refine G_done ?_
             refine G_ifD rfl (fun hc3 => ?_) (fun hc3 => ?_)
             · skip
               refine G_seq ?_
               refine G_region (l := [0, 1, 2, 3]) rfl ?_
               refine G_val rfl rfl rfl rfl (V_assign rfl rfl) ?_
               refine G_val rfl rfl rfl rfl (V_assign rfl rfl) ?_
               refine G_val rfl rfl rfl rfl (V_assign rfl rfl) ?_
               refine G_val rfl rfl rfl rfl (V_assign rfl rfl) ?_
               refine G_done ?_
               refine G_ret (post := []) Tryd.func68 rfl (RVs_cons (RV_tmp rfl) (RVs_cons (RV_tmp rfl) (RVs_cons (RV_tmp rfl) (RVs_cons (RV_tmp rfl) RVs_nil)))) [] rfl ?_
               dsimp only [packed]
               first
                 | exact ⟨(open_not (open_len (by omega))).symm, rfl⟩
                 | exact ⟨(open_not (open_neq (fun h => absurd h (by assumption)))).symm, rfl⟩
                 | exact ⟨(open_not (open_neq (fun h => absurd (congrArg _ h) (by assumption)))).symm, rfl⟩
                 | exact ⟨(open_not (open_zero (by assumption))).symm, rfl⟩
                 | exact ⟨(open_yes (open_ok (by omega) (lits_bytes_inj (by first | assumption | exact Classical.not_not.1 (by assumption))) (by assumption))).symm, rfl⟩
                 | exact ⟨(open_yes (open_ok (by omega) (by first | assumption | exact Classical.not_not.1 (by assumption)) (by assumption))).symm, rfl⟩
             refine G_skip ?_
             refine G_seq ?_
             refine G_draw mixedK (by kernel_rfl) ?_
             refine GQ_val rfl rfl rfl rfl (V_move rfl rfl) ?_
             refine GQ_val rfl rfl rfl rfl (V_asliceL (l := 4) rfl Tryd.underlying169 infSealW_5 rfl rfl rfl rfl (by first | omega | (simp; done) | (simp; omega) | (simp at *; omega)) rfl) ?_
             refine GQ_call rfl rfl rfl rfl rfl rfl Tryd.call100 (seal_number _ _ _ _ _ ((b.take 8).drop 4) (by simp; omega) (drop4 b (by omega))) [0] rfl (fun v post hp => (hp : _ ∧ _).1) ?_
             refine GQ_val rfl rfl rfl rfl (V_move rfl rfl) ?_
             refine GQ_val rfl rfl rfl rfl (V_move rfl rfl) ?_
             first
               | refine GQ_val rfl rfl rfl rfl (V_ssliceN (lo := 8) (hi := _) rfl Tryd.underlying9 rfl rfl rfl rfl rfl (by first | omega | (simp; done) | (simp; omega) | (simp at *; omega)) (by first | omega | (simp; done) | (simp; omega) | (simp at *; omega))) ?_
               | refine GQ_val rfl rfl rfl rfl (V_sslice rfl Tryd.underlying9 rfl rfl rfl (by first | omega | (simp; done) | (simp; omega) | (simp at *; omega)) (by first | omega | (simp; done) | (simp; omega) | (simp at *; omega)) (by first | omega | (simp; done) | (simp; omega) | (simp at *; omega))) ?_
             refine GQ_val rfl rfl rfl rfl (V_assign rfl rfl) ?_
             refine GQ_val rfl rfl rfl rfl (V_assign rfl rfl) ?_
             refine GQ_val rfl rfl rfl rfl (V_assign rfl rfl) ?_
             refine GQ_val rfl rfl rfl rfl (V_assign rfl rfl) ?_
             refine GQ_done rfl ?_
             refine G_ret (post := []) Tryd.func68 rfl (RVs_cons (RV_tmp rfl) (RVs_cons (RV_tmp rfl) (RVs_cons (RV_tmp rfl) (RVs_cons (RV_tmp rfl) RVs_nil)))) [] rfl ?_
             dsimp only [packed]
             first
               | exact ⟨(open_not (open_len (by omega))).symm, rfl⟩
               | exact ⟨(open_not (open_neq (fun h => absurd h (by assumption)))).symm, rfl⟩
               | exact ⟨(open_not (open_neq (fun h => absurd (congrArg _ h) (by assumption)))).symm, rfl⟩
               | exact ⟨(open_not (open_zero (by assumption))).symm, rfl⟩
               | exact ⟨(open_yes (open_ok (by omega) (lits_bytes_inj (by first | assumption | exact Classical.not_not.1 (by assumption))) (by assumption))).symm, rfl⟩
               | exact ⟨(open_yes (open_ok (by omega) (by first | assumption | exact Classical.not_not.1 (by assumption)) (by assumption))).symm, rfl⟩
   · skip
     refine GHop_new rfl rfl rfl rfl (N_allocA rfl infSealW_169 rfl) [] (fun _ => ⟨_, rfl⟩) (fun b7 => ?_)
     refine GH_all [6, 8] (by kernel_rfl) (by decide) ?_
     refine (And.intro ?_ (And.intro ?_ trivial))
     · skip
       refine GHop_call (L2 := [_]) rfl rfl rfl rfl rfl rfl Tryd.call99 (seal_of _ (by simp; omega)) [] [] rfl rfl [] (by rintro v post ⟨rfl, rfl⟩; exact ⟨_, rfl⟩) ?_
       rintro v post ⟨rfl, rfl⟩
       show GH _ _ _ _ _ _ _ [_] _
       refine GH_all [8] (by kernel_rfl) (by decide) ?_
       refine (And.intro ?_ trivial)
       · skip
         refine GHop_new rfl rfl rfl rfl (N_allocA rfl infSealW_169 rfl) [] (fun _ => ⟨_, rfl⟩) (fun b8 => ?_)
         refine GH_all [9] (by kernel_rfl) (by decide) ?_
         refine (And.intro ?_ trivial)
         · skip
           refine GHop_put (l1 := [_]) (L' := [_, _]) rfl rfl rfl rfl (P_storeA (s := 8) rfl rfl rfl (mem_at 1 rfl) (by first | rfl | (simp [bcells_length]; done) | (simp [bcells_length]; omega) | (simp [bcells_length, *]; done)) infSealW_169 rfl (by first | rfl | (simp [bcells_length]; done) | (simp [bcells_length]; omega) | (simp [bcells_length, *]; done)) (by first | rfl | exact bcells_all _ | (simp [Value.oneCell']; done) | (simp [Value.oneCell', *]; done))) rfl [] rfl ?_
           refine GH_all [10] (by kernel_rfl) (by decide) ?_
           refine (And.intro ?_ trivial)
           · skip
             refine GHop_put (l1 := []) (L' := [_, _]) rfl rfl rfl rfl (P_storeA (s := 8) rfl rfl rfl (mem_at 0 rfl) (by first | rfl | (simp [bcells_length]; done) | (simp [bcells_length]; omega) | (simp [bcells_length, *]; done)) infSealW_169 rfl (by first | rfl | (simp [bcells_length]; done) | (simp [bcells_length]; omega) | (simp [bcells_length, *]; done)) (by first | rfl | exact bcells_all _ | (simp [Value.oneCell']; done) | (simp [Value.oneCell', *]; done))) rfl [] rfl ?_
             refine GH_done (by kernel_rfl) ?_
             refine G_seq ?_
             refine G_region (l := [0, 1, 2]) rfl ?_
             refine G_val rfl rfl rfl rfl (V_asliceH (h := 4) rfl Tryd.underlying169 infSealW_5 rfl rfl rfl (by first | omega | (simp; done) | (simp; omega) | (simp at *; omega))) ?_
             refine G_call (L2 := [_, _]) rfl rfl rfl rfl rfl rfl Tryd.call100 (seal_number _ _ _ _ _ (b.take 4) (by simp; omega) (take4 b)) [] [1] rfl rfl ?_
             rintro v post ⟨rfl, rfl⟩
             show G _ _ _ [_, _] _
             refine G_val rfl rfl rfl rfl (V_assign rfl rfl) ?_
             refine G_done ?_
             refine G_seq ?_
             refine G_seq ?_
             refine G_region (l := [0, 1, 2, 3, 4, 5, 6]) rfl ?_
             first
               | refine G_val rfl rfl rfl rfl (V_loadW (s := 8) rfl rfl (mem_at 1 rfl) Tryd.underlying169 rfl infSealW_169 rfl (by first | rfl | (simp [bcells_length]; done) | (simp [bcells_length]; omega) | (simp [bcells_length, *]; done))) ?_
               | refine G_val rfl rfl rfl rfl (V_loadA (s := 8) rfl rfl (mem_at 1 rfl) Tryd.underlying169 rfl infSealW_169 rfl rfl (by first | rfl | (simp [bcells_length]; done) | (simp [bcells_length]; omega) | (simp [bcells_length, *]; done))) ?_
             first
               | refine G_val rfl rfl rfl rfl (V_loadW (s := 8) rfl rfl (mem_at 0 rfl) Tryd.underlying169 rfl infSealW_169 rfl (by first | rfl | (simp [bcells_length]; done) | (simp [bcells_length]; omega) | (simp [bcells_length, *]; done))) ?_
               | refine G_val rfl rfl rfl rfl (V_loadA (s := 8) rfl rfl (mem_at 0 rfl) Tryd.underlying169 rfl infSealW_169 rfl rfl (by first | rfl | (simp [bcells_length]; done) | (simp [bcells_length]; omega) | (simp [bcells_length, *]; done))) ?_
             refine G_val rfl rfl rfl rfl (V_aggneq (m := 6) rfl Tryd.eqGuardType169 (by kernel_rfl) (by decide) (formed_of Tryd.underlying169 rfl (by kernel_rfl : Tryd.prog.cellsOf 169 = 8) (by first | rfl | (simp [bcells_length]; done) | (simp [bcells_length]; omega) | (simp [bcells_length, *]; done))) (formed_of Tryd.underlying169 rfl (by kernel_rfl : Tryd.prog.cellsOf 169 = 8) (by first | rfl | (simp [bcells_length]; done) | (simp [bcells_length]; omega) | (simp [bcells_length, *]; done))) rfl rfl (key8 _ (by simp; omega)) (key8 _ (by simp; omega))) ?_
             refine G_val rfl rfl rfl rfl (V_move rfl rfl) ?_
             refine G_splitD 25 rfl (fun hc2 => ?_) (fun hc2 => ?_)
             · skip
               refine G_off rfl rfl rfl rfl ?_
               refine G_off rfl rfl rfl rfl ?_
               refine G_val rfl rfl rfl rfl (V_pickT rfl rfl rfl) ?_
               refine G_done ?_
               refine G_then rfl ?_
               refine G_seq ?_
               refine G_region (l := [0, 1, 2, 3]) rfl ?_
               refine G_val rfl rfl rfl rfl (V_assign rfl rfl) ?_
               refine G_val rfl rfl rfl rfl (V_assign rfl rfl) ?_
               refine G_val rfl rfl rfl rfl (V_assign rfl rfl) ?_
               refine G_val rfl rfl rfl rfl (V_assign rfl rfl) ?_
               refine G_done ?_
               refine G_ret (post := []) Tryd.func68 rfl (RVs_cons (RV_tmp rfl) (RVs_cons (RV_tmp rfl) (RVs_cons (RV_tmp rfl) (RVs_cons (RV_tmp rfl) RVs_nil)))) [] rfl ?_
               dsimp only [packed]
               first
                 | exact ⟨(open_not (open_len (by omega))).symm, rfl⟩
                 | exact ⟨(open_not (open_neq (fun h => absurd h (by assumption)))).symm, rfl⟩
                 | exact ⟨(open_not (open_neq (fun h => absurd (congrArg _ h) (by assumption)))).symm, rfl⟩
                 | exact ⟨(open_not (open_zero (by assumption))).symm, rfl⟩
                 | exact ⟨(open_yes (open_ok (by omega) (lits_bytes_inj (by first | assumption | exact Classical.not_not.1 (by assumption))) (by assumption))).symm, rfl⟩
                 | exact ⟨(open_yes (open_ok (by omega) (by first | assumption | exact Classical.not_not.1 (by assumption)) (by assumption))).symm, rfl⟩
             refine G_val rfl rfl rfl rfl (V_move rfl rfl) ?_
             refine G_val rfl rfl rfl rfl (V_eql rfl rfl rfl) ?_
             refine G_val rfl rfl rfl rfl (V_pickF rfl rfl rfl) ?_
             refine G_done ?_
             refine G_ifD rfl (fun hc3 => ?_) (fun hc3 => ?_)
             · skip
               refine G_seq ?_
               refine G_region (l := [0, 1, 2, 3]) rfl ?_
               refine G_val rfl rfl rfl rfl (V_assign rfl rfl) ?_
               refine G_val rfl rfl rfl rfl (V_assign rfl rfl) ?_
               refine G_val rfl rfl rfl rfl (V_assign rfl rfl) ?_
               refine G_val rfl rfl rfl rfl (V_assign rfl rfl) ?_
               refine G_done ?_
               refine G_ret (post := []) Tryd.func68 rfl (RVs_cons (RV_tmp rfl) (RVs_cons (RV_tmp rfl) (RVs_cons (RV_tmp rfl) (RVs_cons (RV_tmp rfl) RVs_nil)))) [] rfl ?_
               dsimp only [packed]
               first
                 | exact ⟨(open_not (open_len (by omega))).symm, rfl⟩
                 | exact ⟨(open_not (open_neq (fun h => absurd h (by assumption)))).symm, rfl⟩
                 | exact ⟨(open_not (open_neq (fun h => absurd (congrArg _ h) (by assumption)))).symm, rfl⟩
                 | exact ⟨(open_not (open_zero (by assumption))).symm, rfl⟩
                 | exact ⟨(open_yes (open_ok (by omega) (lits_bytes_inj (by first | assumption | exact Classical.not_not.1 (by assumption))) (by assumption))).symm, rfl⟩
                 | exact ⟨(open_yes (open_ok (by omega) (by first | assumption | exact Classical.not_not.1 (by assumption)) (by assumption))).symm, rfl⟩
             refine G_skip ?_
             refine G_seq ?_
             refine G_draw mixedK (by kernel_rfl) ?_
             refine GQ_val rfl rfl rfl rfl (V_move rfl rfl) ?_
             refine GQ_val rfl rfl rfl rfl (V_asliceL (l := 4) rfl Tryd.underlying169 infSealW_5 rfl rfl rfl rfl (by first | omega | (simp; done) | (simp; omega) | (simp at *; omega)) rfl) ?_
             refine GQ_call rfl rfl rfl rfl rfl rfl Tryd.call100 (seal_number _ _ _ _ _ ((b.take 8).drop 4) (by simp; omega) (drop4 b (by omega))) [1] rfl (fun v post hp => (hp : _ ∧ _).1) ?_
             refine GQ_val rfl rfl rfl rfl (V_move rfl rfl) ?_
             refine GQ_val rfl rfl rfl rfl (V_move rfl rfl) ?_
             first
               | refine GQ_val rfl rfl rfl rfl (V_ssliceN (lo := 8) (hi := _) rfl Tryd.underlying9 rfl rfl rfl rfl rfl (by first | omega | (simp; done) | (simp; omega) | (simp at *; omega)) (by first | omega | (simp; done) | (simp; omega) | (simp at *; omega))) ?_
               | refine GQ_val rfl rfl rfl rfl (V_sslice rfl Tryd.underlying9 rfl rfl rfl (by first | omega | (simp; done) | (simp; omega) | (simp at *; omega)) (by first | omega | (simp; done) | (simp; omega) | (simp at *; omega)) (by first | omega | (simp; done) | (simp; omega) | (simp at *; omega))) ?_
             refine GQ_val rfl rfl rfl rfl (V_assign rfl rfl) ?_
             refine GQ_val rfl rfl rfl rfl (V_assign rfl rfl) ?_
             refine GQ_val rfl rfl rfl rfl (V_assign rfl rfl) ?_
             refine GQ_val rfl rfl rfl rfl (V_assign rfl rfl) ?_
             refine GQ_done rfl ?_
             refine G_ret (post := []) Tryd.func68 rfl (RVs_cons (RV_tmp rfl) (RVs_cons (RV_tmp rfl) (RVs_cons (RV_tmp rfl) (RVs_cons (RV_tmp rfl) RVs_nil)))) [] rfl ?_
             dsimp only [packed]
             first
               | exact ⟨(open_not (open_len (by omega))).symm, rfl⟩
               | exact ⟨(open_not (open_neq (fun h => absurd h (by assumption)))).symm, rfl⟩
               | exact ⟨(open_not (open_neq (fun h => absurd (congrArg _ h) (by assumption)))).symm, rfl⟩
               | exact ⟨(open_not (open_zero (by assumption))).symm, rfl⟩
               | exact ⟨(open_yes (open_ok (by omega) (lits_bytes_inj (by first | assumption | exact Classical.not_not.1 (by assumption))) (by assumption))).symm, rfl⟩
               | exact ⟨(open_yes (open_ok (by omega) (by first | assumption | exact Classical.not_not.1 (by assumption)) (by assumption))).symm, rfl⟩
     · skip
       refine GHop_new rfl rfl rfl rfl (N_allocA rfl infSealW_169 rfl) [] (fun _ => ⟨_, rfl⟩) (fun b8 => ?_)
       refine GH_all [6] (by kernel_rfl) (by decide) ?_
       refine (And.intro ?_ trivial)
       · skip
         refine GHop_call (L2 := [_, _]) rfl rfl rfl rfl rfl rfl Tryd.call99 (seal_of _ (by simp; omega)) [] [] rfl rfl [] (by rintro v post ⟨rfl, rfl⟩; exact ⟨_, rfl⟩) ?_
         rintro v post ⟨rfl, rfl⟩
         show GH _ _ _ _ _ _ _ [_, _] _
         refine GH_all [9] (by kernel_rfl) (by decide) ?_
         refine (And.intro ?_ trivial)
         · skip
           refine GHop_put (l1 := [_]) (L' := [_, _]) rfl rfl rfl rfl (P_storeA (s := 8) rfl rfl rfl (mem_at 1 rfl) (by first | rfl | (simp [bcells_length]; done) | (simp [bcells_length]; omega) | (simp [bcells_length, *]; done)) infSealW_169 rfl (by first | rfl | (simp [bcells_length]; done) | (simp [bcells_length]; omega) | (simp [bcells_length, *]; done)) (by first | rfl | exact bcells_all _ | (simp [Value.oneCell']; done) | (simp [Value.oneCell', *]; done))) rfl [] rfl ?_
           refine GH_all [10] (by kernel_rfl) (by decide) ?_
           refine (And.intro ?_ trivial)
           · skip
             refine GHop_put (l1 := []) (L' := [_, _]) rfl rfl rfl rfl (P_storeA (s := 8) rfl rfl rfl (mem_at 0 rfl) (by first | rfl | (simp [bcells_length]; done) | (simp [bcells_length]; omega) | (simp [bcells_length, *]; done)) infSealW_169 rfl (by first | rfl | (simp [bcells_length]; done) | (simp [bcells_length]; omega) | (simp [bcells_length, *]; done)) (by first | rfl | exact bcells_all _ | (simp [Value.oneCell']; done) | (simp [Value.oneCell', *]; done))) rfl [] rfl ?_
             refine GH_done (by kernel_rfl) ?_
             refine G_seq ?_
             refine G_region (l := [0, 1, 2]) rfl ?_
             refine G_val rfl rfl rfl rfl (V_asliceH (h := 4) rfl Tryd.underlying169 infSealW_5 rfl rfl rfl (by first | omega | (simp; done) | (simp; omega) | (simp at *; omega))) ?_
             refine G_call (L2 := [_, _]) rfl rfl rfl rfl rfl rfl Tryd.call100 (seal_number _ _ _ _ _ (b.take 4) (by simp; omega) (take4 b)) [] [1] rfl rfl ?_
             rintro v post ⟨rfl, rfl⟩
             show G _ _ _ [_, _] _
             refine G_val rfl rfl rfl rfl (V_assign rfl rfl) ?_
             refine G_done ?_
             refine G_seq ?_
             refine G_seq ?_
             refine G_region (l := [0, 1, 2, 3, 4, 5, 6]) rfl ?_
             first
               | refine G_val rfl rfl rfl rfl (V_loadW (s := 8) rfl rfl (mem_at 1 rfl) Tryd.underlying169 rfl infSealW_169 rfl (by first | rfl | (simp [bcells_length]; done) | (simp [bcells_length]; omega) | (simp [bcells_length, *]; done))) ?_
               | refine G_val rfl rfl rfl rfl (V_loadA (s := 8) rfl rfl (mem_at 1 rfl) Tryd.underlying169 rfl infSealW_169 rfl rfl (by first | rfl | (simp [bcells_length]; done) | (simp [bcells_length]; omega) | (simp [bcells_length, *]; done))) ?_
             first
               | refine G_val rfl rfl rfl rfl (V_loadW (s := 8) rfl rfl (mem_at 0 rfl) Tryd.underlying169 rfl infSealW_169 rfl (by first | rfl | (simp [bcells_length]; done) | (simp [bcells_length]; omega) | (simp [bcells_length, *]; done))) ?_
               | refine G_val rfl rfl rfl rfl (V_loadA (s := 8) rfl rfl (mem_at 0 rfl) Tryd.underlying169 rfl infSealW_169 rfl rfl (by first | rfl | (simp [bcells_length]; done) | (simp [bcells_length]; omega) | (simp [bcells_length, *]; done))) ?_
             refine G_val rfl rfl rfl rfl (V_aggneq (m := 6) rfl Tryd.eqGuardType169 (by kernel_rfl) (by decide) (formed_of Tryd.underlying169 rfl (by kernel_rfl : Tryd.prog.cellsOf 169 = 8) (by first | rfl | (simp [bcells_length]; done) | (simp [bcells_length]; omega) | (simp [bcells_length, *]; done))) (formed_of Tryd.underlying169 rfl (by kernel_rfl : Tryd.prog.cellsOf 169 = 8) (by first | rfl | (simp [bcells_length]; done) | (simp [bcells_length]; omega) | (simp [bcells_length, *]; done))) rfl rfl (key8 _ (by simp; omega)) (key8 _ (by simp; omega))) ?_
             refine G_val rfl rfl rfl rfl (V_move rfl rfl) ?_
             refine G_splitD 25 rfl (fun hc2 => ?_) (fun hc2 => ?_)
             · skip
               refine G_off rfl rfl rfl rfl ?_
               refine G_off rfl rfl rfl rfl ?_
               refine G_val rfl rfl rfl rfl (V_pickT rfl rfl rfl) ?_
               refine G_done ?_
               refine G_then rfl ?_
               refine G_seq ?_
               refine G_region (l := [0, 1, 2, 3]) rfl ?_
               refine G_val rfl rfl rfl rfl (V_assign rfl rfl) ?_
               refine G_val rfl rfl rfl rfl (V_assign rfl rfl) ?_
               refine G_val rfl rfl rfl rfl (V_assign rfl rfl) ?_
               refine G_val rfl rfl rfl rfl (V_assign rfl rfl) ?_
               refine G_done ?_
               refine G_ret (post := []) Tryd.func68 rfl (RVs_cons (RV_tmp rfl) (RVs_cons (RV_tmp rfl) (RVs_cons (RV_tmp rfl) (RVs_cons (RV_tmp rfl) RVs_nil)))) [] rfl ?_
               dsimp only [packed]
               first
                 | exact ⟨(open_not (open_len (by omega))).symm, rfl⟩
                 | exact ⟨(open_not (open_neq (fun h => absurd h (by assumption)))).symm, rfl⟩
                 | exact ⟨(open_not (open_neq (fun h => absurd (congrArg _ h) (by assumption)))).symm, rfl⟩
                 | exact ⟨(open_not (open_zero (by assumption))).symm, rfl⟩
                 | exact ⟨(open_yes (open_ok (by omega) (lits_bytes_inj (by first | assumption | exact Classical.not_not.1 (by assumption))) (by assumption))).symm, rfl⟩
                 | exact ⟨(open_yes (open_ok (by omega) (by first | assumption | exact Classical.not_not.1 (by assumption)) (by assumption))).symm, rfl⟩
             refine G_val rfl rfl rfl rfl (V_move rfl rfl) ?_
             refine G_val rfl rfl rfl rfl (V_eql rfl rfl rfl) ?_
             refine G_val rfl rfl rfl rfl (V_pickF rfl rfl rfl) ?_
             refine G_done ?_
             refine G_ifD rfl (fun hc3 => ?_) (fun hc3 => ?_)
             · skip
               refine G_seq ?_
               refine G_region (l := [0, 1, 2, 3]) rfl ?_
               refine G_val rfl rfl rfl rfl (V_assign rfl rfl) ?_
               refine G_val rfl rfl rfl rfl (V_assign rfl rfl) ?_
               refine G_val rfl rfl rfl rfl (V_assign rfl rfl) ?_
               refine G_val rfl rfl rfl rfl (V_assign rfl rfl) ?_
               refine G_done ?_
               refine G_ret (post := []) Tryd.func68 rfl (RVs_cons (RV_tmp rfl) (RVs_cons (RV_tmp rfl) (RVs_cons (RV_tmp rfl) (RVs_cons (RV_tmp rfl) RVs_nil)))) [] rfl ?_
               dsimp only [packed]
               first
                 | exact ⟨(open_not (open_len (by omega))).symm, rfl⟩
                 | exact ⟨(open_not (open_neq (fun h => absurd h (by assumption)))).symm, rfl⟩
                 | exact ⟨(open_not (open_neq (fun h => absurd (congrArg _ h) (by assumption)))).symm, rfl⟩
                 | exact ⟨(open_not (open_zero (by assumption))).symm, rfl⟩
                 | exact ⟨(open_yes (open_ok (by omega) (lits_bytes_inj (by first | assumption | exact Classical.not_not.1 (by assumption))) (by assumption))).symm, rfl⟩
                 | exact ⟨(open_yes (open_ok (by omega) (by first | assumption | exact Classical.not_not.1 (by assumption)) (by assumption))).symm, rfl⟩
             refine G_skip ?_
             refine G_seq ?_
             refine G_draw mixedK (by kernel_rfl) ?_
             refine GQ_val rfl rfl rfl rfl (V_move rfl rfl) ?_
             refine GQ_val rfl rfl rfl rfl (V_asliceL (l := 4) rfl Tryd.underlying169 infSealW_5 rfl rfl rfl rfl (by first | omega | (simp; done) | (simp; omega) | (simp at *; omega)) rfl) ?_
             refine GQ_call rfl rfl rfl rfl rfl rfl Tryd.call100 (seal_number _ _ _ _ _ ((b.take 8).drop 4) (by simp; omega) (drop4 b (by omega))) [1] rfl (fun v post hp => (hp : _ ∧ _).1) ?_
             refine GQ_val rfl rfl rfl rfl (V_move rfl rfl) ?_
             refine GQ_val rfl rfl rfl rfl (V_move rfl rfl) ?_
             first
               | refine GQ_val rfl rfl rfl rfl (V_ssliceN (lo := 8) (hi := _) rfl Tryd.underlying9 rfl rfl rfl rfl rfl (by first | omega | (simp; done) | (simp; omega) | (simp at *; omega)) (by first | omega | (simp; done) | (simp; omega) | (simp at *; omega))) ?_
               | refine GQ_val rfl rfl rfl rfl (V_sslice rfl Tryd.underlying9 rfl rfl rfl (by first | omega | (simp; done) | (simp; omega) | (simp at *; omega)) (by first | omega | (simp; done) | (simp; omega) | (simp at *; omega)) (by first | omega | (simp; done) | (simp; omega) | (simp at *; omega))) ?_
             refine GQ_val rfl rfl rfl rfl (V_assign rfl rfl) ?_
             refine GQ_val rfl rfl rfl rfl (V_assign rfl rfl) ?_
             refine GQ_val rfl rfl rfl rfl (V_assign rfl rfl) ?_
             refine GQ_val rfl rfl rfl rfl (V_assign rfl rfl) ?_
             refine GQ_done rfl ?_
             refine G_ret (post := []) Tryd.func68 rfl (RVs_cons (RV_tmp rfl) (RVs_cons (RV_tmp rfl) (RVs_cons (RV_tmp rfl) (RVs_cons (RV_tmp rfl) RVs_nil)))) [] rfl ?_
             dsimp only [packed]
             first
               | exact ⟨(open_not (open_len (by omega))).symm, rfl⟩
               | exact ⟨(open_not (open_neq (fun h => absurd h (by assumption)))).symm, rfl⟩
               | exact ⟨(open_not (open_neq (fun h => absurd (congrArg _ h) (by assumption)))).symm, rfl⟩
               | exact ⟨(open_not (open_zero (by assumption))).symm, rfl⟩
               | exact ⟨(open_yes (open_ok (by omega) (lits_bytes_inj (by first | assumption | exact Classical.not_not.1 (by assumption))) (by assumption))).symm, rfl⟩
               | exact ⟨(open_yes (open_ok (by omega) (by first | assumption | exact Classical.not_not.1 (by assumption)) (by assumption))).symm, rfl⟩
   · skip
     refine GHop_new rfl rfl rfl rfl (N_allocA rfl infSealW_169 rfl) [] (fun _ => ⟨_, rfl⟩) (fun b8 => ?_)
     refine GH_all [6, 7] (by kernel_rfl) (by decide) ?_
     refine (And.intro ?_ (And.intro ?_ trivial))
     · skip
       refine GHop_call (L2 := [_]) rfl rfl rfl rfl rfl rfl Tryd.call99 (seal_of _ (by simp; omega)) [] [] rfl rfl [] (by rintro v post ⟨rfl, rfl⟩; exact ⟨_, rfl⟩) ?_
       rintro v post ⟨rfl, rfl⟩
       show GH _ _ _ _ _ _ _ [_] _
       refine GH_all [7] (by kernel_rfl) (by decide) ?_
       refine (And.intro ?_ trivial)
       · skip
         refine GHop_new rfl rfl rfl rfl (N_allocA rfl infSealW_169 rfl) [] (fun _ => ⟨_, rfl⟩) (fun b7 => ?_)
         refine GH_all [9] (by kernel_rfl) (by decide) ?_
         refine (And.intro ?_ trivial)
         · skip
           refine GHop_put (l1 := []) (L' := [_, _]) rfl rfl rfl rfl (P_storeA (s := 8) rfl rfl rfl (mem_at 0 rfl) (by first | rfl | (simp [bcells_length]; done) | (simp [bcells_length]; omega) | (simp [bcells_length, *]; done)) infSealW_169 rfl (by first | rfl | (simp [bcells_length]; done) | (simp [bcells_length]; omega) | (simp [bcells_length, *]; done)) (by first | rfl | exact bcells_all _ | (simp [Value.oneCell']; done) | (simp [Value.oneCell', *]; done))) rfl [] rfl ?_
           refine GH_all [10] (by kernel_rfl) (by decide) ?_
           refine (And.intro ?_ trivial)
           · skip
             refine GHop_put (l1 := [_]) (L' := [_, _]) rfl rfl rfl rfl (P_storeA (s := 8) rfl rfl rfl (mem_at 1 rfl) (by first | rfl | (simp [bcells_length]; done) | (simp [bcells_length]; omega) | (simp [bcells_length, *]; done)) infSealW_169 rfl (by first | rfl | (simp [bcells_length]; done) | (simp [bcells_length]; omega) | (simp [bcells_length, *]; done)) (by first | rfl | exact bcells_all _ | (simp [Value.oneCell']; done) | (simp [Value.oneCell', *]; done))) rfl [] rfl ?_
             refine GH_done (by kernel_rfl) ?_
             refine G_seq ?_
             refine G_region (l := [0, 1, 2]) rfl ?_
             refine G_val rfl rfl rfl rfl (V_asliceH (h := 4) rfl Tryd.underlying169 infSealW_5 rfl rfl rfl (by first | omega | (simp; done) | (simp; omega) | (simp at *; omega))) ?_
             refine G_call (L2 := [_, _]) rfl rfl rfl rfl rfl rfl Tryd.call100 (seal_number _ _ _ _ _ (b.take 4) (by simp; omega) (take4 b)) [] [0] rfl rfl ?_
             rintro v post ⟨rfl, rfl⟩
             show G _ _ _ [_, _] _
             refine G_val rfl rfl rfl rfl (V_assign rfl rfl) ?_
             refine G_done ?_
             refine G_seq ?_
             refine G_seq ?_
             refine G_region (l := [0, 1, 2, 3, 4, 5, 6]) rfl ?_
             first
               | refine G_val rfl rfl rfl rfl (V_loadW (s := 8) rfl rfl (mem_at 0 rfl) Tryd.underlying169 rfl infSealW_169 rfl (by first | rfl | (simp [bcells_length]; done) | (simp [bcells_length]; omega) | (simp [bcells_length, *]; done))) ?_
               | refine G_val rfl rfl rfl rfl (V_loadA (s := 8) rfl rfl (mem_at 0 rfl) Tryd.underlying169 rfl infSealW_169 rfl rfl (by first | rfl | (simp [bcells_length]; done) | (simp [bcells_length]; omega) | (simp [bcells_length, *]; done))) ?_
             first
               | refine G_val rfl rfl rfl rfl (V_loadW (s := 8) rfl rfl (mem_at 1 rfl) Tryd.underlying169 rfl infSealW_169 rfl (by first | rfl | (simp [bcells_length]; done) | (simp [bcells_length]; omega) | (simp [bcells_length, *]; done))) ?_
               | refine G_val rfl rfl rfl rfl (V_loadA (s := 8) rfl rfl (mem_at 1 rfl) Tryd.underlying169 rfl infSealW_169 rfl rfl (by first | rfl | (simp [bcells_length]; done) | (simp [bcells_length]; omega) | (simp [bcells_length, *]; done))) ?_
             refine G_val rfl rfl rfl rfl (V_aggneq (m := 6) rfl Tryd.eqGuardType169 (by kernel_rfl) (by decide) (formed_of Tryd.underlying169 rfl (by kernel_rfl : Tryd.prog.cellsOf 169 = 8) (by first | rfl | (simp [bcells_length]; done) | (simp [bcells_length]; omega) | (simp [bcells_length, *]; done))) (formed_of Tryd.underlying169 rfl (by kernel_rfl : Tryd.prog.cellsOf 169 = 8) (by first | rfl | (simp [bcells_length]; done) | (simp [bcells_length]; omega) | (simp [bcells_length, *]; done))) rfl rfl (key8 _ (by simp; omega)) (key8 _ (by simp; omega))) ?_
             refine G_val rfl rfl rfl rfl (V_move rfl rfl) ?_
             refine G_splitD 25 rfl (fun hc2 => ?_) (fun hc2 => ?_)
             · skip
               refine G_off rfl rfl rfl rfl ?_
               refine G_off rfl rfl rfl rfl ?_
               refine G_val rfl rfl rfl rfl (V_pickT rfl rfl rfl) ?_
               refine G_done ?_
               refine G_then rfl ?_
               refine G_seq ?_
               refine G_region (l := [0, 1, 2, 3]) rfl ?_
               refine G_val rfl rfl rfl rfl (V_assign rfl rfl) ?_
               refine G_val rfl rfl rfl rfl (V_assign rfl rfl) ?_
               refine G_val rfl rfl rfl rfl (V_assign rfl rfl) ?_
               refine G_val rfl rfl rfl rfl (V_assign rfl rfl) ?_
               refine G_done ?_
               refine G_ret (post := []) Tryd.func68 rfl (RVs_cons (RV_tmp rfl) (RVs_cons (RV_tmp rfl) (RVs_cons (RV_tmp rfl) (RVs_cons (RV_tmp rfl) RVs_nil)))) [] rfl ?_
               dsimp only [packed]
               first
                 | exact ⟨(open_not (open_len (by omega))).symm, rfl⟩
                 | exact ⟨(open_not (open_neq (fun h => absurd h (by assumption)))).symm, rfl⟩
                 | exact ⟨(open_not (open_neq (fun h => absurd (congrArg _ h) (by assumption)))).symm, rfl⟩
                 | exact ⟨(open_not (open_zero (by assumption))).symm, rfl⟩
                 | exact ⟨(open_yes (open_ok (by omega) (lits_bytes_inj (by first | assumption | exact Classical.not_not.1 (by assumption))) (by assumption))).symm, rfl⟩
                 | exact ⟨(open_yes (open_ok (by omega) (by first | assumption | exact Classical.not_not.1 (by assumption)) (by assumption))).symm, rfl⟩
             refine G_val rfl rfl rfl rfl (V_move rfl rfl) ?_
             refine G_val rfl rfl rfl rfl (V_eql rfl rfl rfl) ?_
             refine G_val rfl rfl rfl rfl (V_pickF rfl rfl rfl) ?_
             refine G_done ?_
             refine G_ifD rfl (fun hc3 => ?_) (fun hc3 => ?_)
             · skip
               refine G_seq ?_
               refine G_region (l := [0, 1, 2, 3]) rfl ?_
               refine G_val rfl rfl rfl rfl (V_assign rfl rfl) ?_
               refine G_val rfl rfl rfl rfl (V_assign rfl rfl) ?_
               refine G_val rfl rfl rfl rfl (V_assign rfl rfl) ?_
               refine G_val rfl rfl rfl rfl (V_assign rfl rfl) ?_
               refine G_done ?_
               refine G_ret (post := []) Tryd.func68 rfl (RVs_cons (RV_tmp rfl) (RVs_cons (RV_tmp rfl) (RVs_cons (RV_tmp rfl) (RVs_cons (RV_tmp rfl) RVs_nil)))) [] rfl ?_
               dsimp only [packed]
               first
                 | exact ⟨(open_not (open_len (by omega))).symm, rfl⟩
                 | exact ⟨(open_not (open_neq (fun h => absurd h (by assumption)))).symm, rfl⟩
                 | exact ⟨(open_not (open_neq (fun h => absurd (congrArg _ h) (by assumption)))).symm, rfl⟩
                 | exact ⟨(open_not (open_zero (by assumption))).symm, rfl⟩
                 | exact ⟨(open_yes (open_ok (by omega) (lits_bytes_inj (by first | assumption | exact Classical.not_not.1 (by assumption))) (by assumption))).symm, rfl⟩
                 | exact ⟨(open_yes (open_ok (by omega) (by first | assumption | exact Classical.not_not.1 (by assumption)) (by assumption))).symm, rfl⟩
             refine G_skip ?_
             refine G_seq ?_
             refine G_draw mixedK (by kernel_rfl) ?_
             refine GQ_val rfl rfl rfl rfl (V_move rfl rfl) ?_
             refine GQ_val rfl rfl rfl rfl (V_asliceL (l := 4) rfl Tryd.underlying169 infSealW_5 rfl rfl rfl rfl (by first | omega | (simp; done) | (simp; omega) | (simp at *; omega)) rfl) ?_
             refine GQ_call rfl rfl rfl rfl rfl rfl Tryd.call100 (seal_number _ _ _ _ _ ((b.take 8).drop 4) (by simp; omega) (drop4 b (by omega))) [0] rfl (fun v post hp => (hp : _ ∧ _).1) ?_
             refine GQ_val rfl rfl rfl rfl (V_move rfl rfl) ?_
             refine GQ_val rfl rfl rfl rfl (V_move rfl rfl) ?_
             first
               | refine GQ_val rfl rfl rfl rfl (V_ssliceN (lo := 8) (hi := _) rfl Tryd.underlying9 rfl rfl rfl rfl rfl (by first | omega | (simp; done) | (simp; omega) | (simp at *; omega)) (by first | omega | (simp; done) | (simp; omega) | (simp at *; omega))) ?_
               | refine GQ_val rfl rfl rfl rfl (V_sslice rfl Tryd.underlying9 rfl rfl rfl (by first | omega | (simp; done) | (simp; omega) | (simp at *; omega)) (by first | omega | (simp; done) | (simp; omega) | (simp at *; omega)) (by first | omega | (simp; done) | (simp; omega) | (simp at *; omega))) ?_
             refine GQ_val rfl rfl rfl rfl (V_assign rfl rfl) ?_
             refine GQ_val rfl rfl rfl rfl (V_assign rfl rfl) ?_
             refine GQ_val rfl rfl rfl rfl (V_assign rfl rfl) ?_
             refine GQ_val rfl rfl rfl rfl (V_assign rfl rfl) ?_
             refine GQ_done rfl ?_
             refine G_ret (post := []) Tryd.func68 rfl (RVs_cons (RV_tmp rfl) (RVs_cons (RV_tmp rfl) (RVs_cons (RV_tmp rfl) (RVs_cons (RV_tmp rfl) RVs_nil)))) [] rfl ?_
             dsimp only [packed]
             first
               | exact ⟨(open_not (open_len (by omega))).symm, rfl⟩
               | exact ⟨(open_not (open_neq (fun h => absurd h (by assumption)))).symm, rfl⟩
               | exact ⟨(open_not (open_neq (fun h => absurd (congrArg _ h) (by assumption)))).symm, rfl⟩
               | exact ⟨(open_not (open_zero (by assumption))).symm, rfl⟩
               | exact ⟨(open_yes (open_ok (by omega) (lits_bytes_inj (by first | assumption | exact Classical.not_not.1 (by assumption))) (by assumption))).symm, rfl⟩
               | exact ⟨(open_yes (open_ok (by omega) (by first | assumption | exact Classical.not_not.1 (by assumption)) (by assumption))).symm, rfl⟩
     · skip
       refine GHop_new rfl rfl rfl rfl (N_allocA rfl infSealW_169 rfl) [] (fun _ => ⟨_, rfl⟩) (fun b7 => ?_)
       refine GH_all [6] (by kernel_rfl) (by decide) ?_
       refine (And.intro ?_ trivial)
       · skip
         refine GHop_call (L2 := [_, _]) rfl rfl rfl rfl rfl rfl Tryd.call99 (seal_of _ (by simp; omega)) [] [] rfl rfl [] (by rintro v post ⟨rfl, rfl⟩; exact ⟨_, rfl⟩) ?_
         rintro v post ⟨rfl, rfl⟩
         show GH _ _ _ _ _ _ _ [_, _] _
         refine GH_all [9] (by kernel_rfl) (by decide) ?_
         refine (And.intro ?_ trivial)
         · skip
           refine GHop_put (l1 := []) (L' := [_, _]) rfl rfl rfl rfl (P_storeA (s := 8) rfl rfl rfl (mem_at 0 rfl) (by first | rfl | (simp [bcells_length]; done) | (simp [bcells_length]; omega) | (simp [bcells_length, *]; done)) infSealW_169 rfl (by first | rfl | (simp [bcells_length]; done) | (simp [bcells_length]; omega) | (simp [bcells_length, *]; done)) (by first | rfl | exact bcells_all _ | (simp [Value.oneCell']; done) | (simp [Value.oneCell', *]; done))) rfl [] rfl ?_
           refine GH_all [10] (by kernel_rfl) (by decide) ?_
           refine (And.intro ?_ trivial)
           · skip
             refine GHop_put (l1 := [_]) (L' := [_, _]) rfl rfl rfl rfl (P_storeA (s := 8) rfl rfl rfl (mem_at 1 rfl) (by first | rfl | (simp [bcells_length]; done) | (simp [bcells_length]; omega) | (simp [bcells_length, *]; done)) infSealW_169 rfl (by first | rfl | (simp [bcells_length]; done) | (simp [bcells_length]; omega) | (simp [bcells_length, *]; done)) (by first | rfl | exact bcells_all _ | (simp [Value.oneCell']; done) | (simp [Value.oneCell', *]; done))) rfl [] rfl ?_
             refine GH_done (by kernel_rfl) ?_
             refine G_seq ?_
             refine G_region (l := [0, 1, 2]) rfl ?_
             refine G_val rfl rfl rfl rfl (V_asliceH (h := 4) rfl Tryd.underlying169 infSealW_5 rfl rfl rfl (by first | omega | (simp; done) | (simp; omega) | (simp at *; omega))) ?_
             refine G_call (L2 := [_, _]) rfl rfl rfl rfl rfl rfl Tryd.call100 (seal_number _ _ _ _ _ (b.take 4) (by simp; omega) (take4 b)) [] [0] rfl rfl ?_
             rintro v post ⟨rfl, rfl⟩
             show G _ _ _ [_, _] _
             refine G_val rfl rfl rfl rfl (V_assign rfl rfl) ?_
             refine G_done ?_
             refine G_seq ?_
             refine G_seq ?_
             refine G_region (l := [0, 1, 2, 3, 4, 5, 6]) rfl ?_
             first
               | refine G_val rfl rfl rfl rfl (V_loadW (s := 8) rfl rfl (mem_at 0 rfl) Tryd.underlying169 rfl infSealW_169 rfl (by first | rfl | (simp [bcells_length]; done) | (simp [bcells_length]; omega) | (simp [bcells_length, *]; done))) ?_
               | refine G_val rfl rfl rfl rfl (V_loadA (s := 8) rfl rfl (mem_at 0 rfl) Tryd.underlying169 rfl infSealW_169 rfl rfl (by first | rfl | (simp [bcells_length]; done) | (simp [bcells_length]; omega) | (simp [bcells_length, *]; done))) ?_
             first
               | refine G_val rfl rfl rfl rfl (V_loadW (s := 8) rfl rfl (mem_at 1 rfl) Tryd.underlying169 rfl infSealW_169 rfl (by first | rfl | (simp [bcells_length]; done) | (simp [bcells_length]; omega) | (simp [bcells_length, *]; done))) ?_
               | refine G_val rfl rfl rfl rfl (V_loadA (s := 8) rfl rfl (mem_at 1 rfl) Tryd.underlying169 rfl infSealW_169 rfl rfl (by first | rfl | (simp [bcells_length]; done) | (simp [bcells_length]; omega) | (simp [bcells_length, *]; done))) ?_
             refine G_val rfl rfl rfl rfl (V_aggneq (m := 6) rfl Tryd.eqGuardType169 (by kernel_rfl) (by decide) (formed_of Tryd.underlying169 rfl (by kernel_rfl : Tryd.prog.cellsOf 169 = 8) (by first | rfl | (simp [bcells_length]; done) | (simp [bcells_length]; omega) | (simp [bcells_length, *]; done))) (formed_of Tryd.underlying169 rfl (by kernel_rfl : Tryd.prog.cellsOf 169 = 8) (by first | rfl | (simp [bcells_length]; done) | (simp [bcells_length]; omega) | (simp [bcells_length, *]; done))) rfl rfl (key8 _ (by simp; omega)) (key8 _ (by simp; omega))) ?_
             refine G_val rfl rfl rfl rfl (V_move rfl rfl) ?_
             refine G_splitD 25 rfl (fun hc2 => ?_) (fun hc2 => ?_)
             · skip
               refine G_off rfl rfl rfl rfl ?_
               refine G_off rfl rfl rfl rfl ?_
               refine G_val rfl rfl rfl rfl (V_pickT rfl rfl rfl) ?_
               refine G_done ?_
               refine G_then rfl ?_
               refine G_seq ?_
               refine G_region (l := [0, 1, 2, 3]) rfl ?_
               refine G_val rfl rfl rfl rfl (V_assign rfl rfl) ?_
               refine G_val rfl rfl rfl rfl (V_assign rfl rfl) ?_
               refine G_val rfl rfl rfl rfl (V_assign rfl rfl) ?_
               refine G_val rfl rfl rfl rfl (V_assign rfl rfl) ?_
               refine G_done ?_
               refine G_ret (post := []) Tryd.func68 rfl (RVs_cons (RV_tmp rfl) (RVs_cons (RV_tmp rfl) (RVs_cons (RV_tmp rfl) (RVs_cons (RV_tmp rfl) RVs_nil)))) [] rfl ?_
               dsimp only [packed]
               first
                 | exact ⟨(open_not (open_len (by omega))).symm, rfl⟩
                 | exact ⟨(open_not (open_neq (fun h => absurd h (by assumption)))).symm, rfl⟩
                 | exact ⟨(open_not (open_neq (fun h => absurd (congrArg _ h) (by assumption)))).symm, rfl⟩
                 | exact ⟨(open_not (open_zero (by assumption))).symm, rfl⟩
                 | exact ⟨(open_yes (open_ok (by omega) (lits_bytes_inj (by first | assumption | exact Classical.not_not.1 (by assumption))) (by assumption))).symm, rfl⟩
                 | exact ⟨(open_yes (open_ok (by omega) (by first | assumption | exact Classical.not_not.1 (by assumption)) (by assumption))).symm, rfl⟩
             refine G_val rfl rfl rfl rfl (V_move rfl rfl) ?_
             refine G_val rfl rfl rfl rfl (V_eql rfl rfl rfl) ?_
             refine G_val rfl rfl rfl rfl (V_pickF rfl rfl rfl) ?_
             refine G_done ?_
             refine G_ifD rfl (fun hc3 => ?_) (fun hc3 => ?_)
             · skip
               refine G_seq ?_
               refine G_region (l := [0, 1, 2, 3]) rfl ?_
               refine G_val rfl rfl rfl rfl (V_assign rfl rfl) ?_
               refine G_val rfl rfl rfl rfl (V_assign rfl rfl) ?_
               refine G_val rfl rfl rfl rfl (V_assign rfl rfl) ?_
               refine G_val rfl rfl rfl rfl (V_assign rfl rfl) ?_
               refine G_done ?_
               refine G_ret (post := []) Tryd.func68 rfl (RVs_cons (RV_tmp rfl) (RVs_cons (RV_tmp rfl) (RVs_cons (RV_tmp rfl) (RVs_cons (RV_tmp rfl) RVs_nil)))) [] rfl ?_
               dsimp only [packed]
               first
                 | exact ⟨(open_not (open_len (by omega))).symm, rfl⟩
                 | exact ⟨(open_not (open_neq (fun h => absurd h (by assumption)))).symm, rfl⟩
                 | exact ⟨(open_not (open_neq (fun h => absurd (congrArg _ h) (by assumption)))).symm, rfl⟩
                 | exact ⟨(open_not (open_zero (by assumption))).symm, rfl⟩
                 | exact ⟨(open_yes (open_ok (by omega) (lits_bytes_inj (by first | assumption | exact Classical.not_not.1 (by assumption))) (by assumption))).symm, rfl⟩
                 | exact ⟨(open_yes (open_ok (by omega) (by first | assumption | exact Classical.not_not.1 (by assumption)) (by assumption))).symm, rfl⟩
             refine G_skip ?_
             refine G_seq ?_
             refine G_draw mixedK (by kernel_rfl) ?_
             refine GQ_val rfl rfl rfl rfl (V_move rfl rfl) ?_
             refine GQ_val rfl rfl rfl rfl (V_asliceL (l := 4) rfl Tryd.underlying169 infSealW_5 rfl rfl rfl rfl (by first | omega | (simp; done) | (simp; omega) | (simp at *; omega)) rfl) ?_
             refine GQ_call rfl rfl rfl rfl rfl rfl Tryd.call100 (seal_number _ _ _ _ _ ((b.take 8).drop 4) (by simp; omega) (drop4 b (by omega))) [0] rfl (fun v post hp => (hp : _ ∧ _).1) ?_
             refine GQ_val rfl rfl rfl rfl (V_move rfl rfl) ?_
             refine GQ_val rfl rfl rfl rfl (V_move rfl rfl) ?_
             first
               | refine GQ_val rfl rfl rfl rfl (V_ssliceN (lo := 8) (hi := _) rfl Tryd.underlying9 rfl rfl rfl rfl rfl (by first | omega | (simp; done) | (simp; omega) | (simp at *; omega)) (by first | omega | (simp; done) | (simp; omega) | (simp at *; omega))) ?_
               | refine GQ_val rfl rfl rfl rfl (V_sslice rfl Tryd.underlying9 rfl rfl rfl (by first | omega | (simp; done) | (simp; omega) | (simp at *; omega)) (by first | omega | (simp; done) | (simp; omega) | (simp at *; omega)) (by first | omega | (simp; done) | (simp; omega) | (simp at *; omega))) ?_
             refine GQ_val rfl rfl rfl rfl (V_assign rfl rfl) ?_
             refine GQ_val rfl rfl rfl rfl (V_assign rfl rfl) ?_
             refine GQ_val rfl rfl rfl rfl (V_assign rfl rfl) ?_
             refine GQ_val rfl rfl rfl rfl (V_assign rfl rfl) ?_
             refine GQ_done rfl ?_
             refine G_ret (post := []) Tryd.func68 rfl (RVs_cons (RV_tmp rfl) (RVs_cons (RV_tmp rfl) (RVs_cons (RV_tmp rfl) (RVs_cons (RV_tmp rfl) RVs_nil)))) [] rfl ?_
             dsimp only [packed]
             first
               | exact ⟨(open_not (open_len (by omega))).symm, rfl⟩
               | exact ⟨(open_not (open_neq (fun h => absurd h (by assumption)))).symm, rfl⟩
               | exact ⟨(open_not (open_neq (fun h => absurd (congrArg _ h) (by assumption)))).symm, rfl⟩
               | exact ⟨(open_not (open_zero (by assumption))).symm, rfl⟩
               | exact ⟨(open_yes (open_ok (by omega) (lits_bytes_inj (by first | assumption | exact Classical.not_not.1 (by assumption))) (by assumption))).symm, rfl⟩
               | exact ⟨(open_yes (open_ok (by omega) (by first | assumption | exact Classical.not_not.1 (by assumption)) (by assumption))).symm, rfl⟩
 · skip
   refine GHop_new rfl rfl rfl rfl (N_allocA rfl infSealW_169 rfl) [] (fun _ => ⟨_, rfl⟩) (fun b7 => ?_)
   refine GH_all [2, 8] (by kernel_rfl) (by decide) ?_
   refine (And.intro ?_ (And.intro ?_ trivial))
   · skip
     refine GHop_call (L2 := [_]) rfl rfl rfl rfl rfl rfl Tryd.call99 (seal_of _ (by simp; omega)) [] [] rfl rfl [] (by rintro v post ⟨rfl, rfl⟩; exact ⟨_, rfl⟩) ?_
     rintro v post ⟨rfl, rfl⟩
     show GH _ _ _ _ _ _ _ [_] _
     refine GH_all [6, 8] (by kernel_rfl) (by decide) ?_
     refine (And.intro ?_ (And.intro ?_ trivial))
     · skip
       refine GHop_call (L2 := [_]) rfl rfl rfl rfl rfl rfl Tryd.call99 (seal_of _ (by simp; omega)) [] [] rfl rfl [] (by rintro v post ⟨rfl, rfl⟩; exact ⟨_, rfl⟩) ?_
       rintro v post ⟨rfl, rfl⟩
       show GH _ _ _ _ _ _ _ [_] _
       refine GH_all [8] (by kernel_rfl) (by decide) ?_
       refine (And.intro ?_ trivial)
       · skip
         refine GHop_new rfl rfl rfl rfl (N_allocA rfl infSealW_169 rfl) [] (fun _ => ⟨_, rfl⟩) (fun b8 => ?_)
         refine GH_all [9] (by kernel_rfl) (by decide) ?_
         refine (And.intro ?_ trivial)
         · skip
           refine GHop_put (l1 := [_]) (L' := [_, _]) rfl rfl rfl rfl (P_storeA (s := 8) rfl rfl rfl (mem_at 1 rfl) (by first | rfl | (simp [bcells_length]; done) | (simp [bcells_length]; omega) | (simp [bcells_length, *]; done)) infSealW_169 rfl (by first | rfl | (simp [bcells_length]; done) | (simp [bcells_length]; omega) | (simp [bcells_length, *]; done)) (by first | rfl | exact bcells_all _ | (simp [Value.oneCell']; done) | (simp [Value.oneCell', *]; done))) rfl [] rfl ?_
           refine GH_all [10] (by kernel_rfl) (by decide) ?_
           refine (And.intro ?_ trivial)
           · skip
             refine GHop_put (l1 := []) (L' := [_, _]) rfl rfl rfl rfl (P_storeA (s := 8) rfl rfl rfl (mem_at 0 rfl) (by first | rfl | (simp [bcells_length]; done) | (simp [bcells_length]; omega) | (simp [bcells_length, *]; done)) infSealW_169 rfl (by first | rfl | (simp [bcells_length]; done) | (simp [bcells_length]; omega) | (simp [bcells_length, *]; done)) (by first | rfl | exact bcells_all _ | (simp [Value.oneCell']; done) | (simp [Value.oneCell', *]; done))) rfl [] rfl ?_
             refine GH_done (by kernel_rfl) ?_
             refine G_seq ?_
             refine G_region (l := [0, 1, 2]) rfl ?_
             refine G_val rfl rfl rfl rfl (V_asliceH (h := 4) rfl Tryd.underlying169 infSealW_5 rfl rfl rfl (by first | omega | (simp; done) | (simp; omega) | (simp at *; omega))) ?_
             refine G_call (L2 := [_, _]) rfl rfl rfl rfl rfl rfl Tryd.call100 (seal_number _ _ _ _ _ (b.take 4) (by simp; omega) (take4 b)) [] [1] rfl rfl ?_
             rintro v post ⟨rfl, rfl⟩
             show G _ _ _ [_, _] _
             refine G_val rfl rfl rfl rfl (V_assign rfl rfl) ?_
             refine G_done ?_
             refine G_seq ?_
             refine G_seq ?_
             refine G_region (l := [0, 1, 2, 3, 4, 5, 6]) rfl ?_
             first
               | refine G_val rfl rfl rfl rfl (V_loadW (s := 8) rfl rfl (mem_at 1 rfl) Tryd.underlying169 rfl infSealW_169 rfl (by first | rfl | (simp [bcells_length]; done) | (simp [bcells_length]; omega) | (simp [bcells_length, *]; done))) ?_
               | refine G_val rfl rfl rfl rfl (V_loadA (s := 8) rfl rfl (mem_at 1 rfl) Tryd.underlying169 rfl infSealW_169 rfl rfl (by first | rfl | (simp [bcells_length]; done) | (simp [bcells_length]; omega) | (simp [bcells_length, *]; done))) ?_
             first
               | refine G_val rfl rfl rfl rfl (V_loadW (s := 8) rfl rfl (mem_at 0 rfl) Tryd.underlying169 rfl infSealW_169 rfl (by first | rfl | (simp [bcells_length]; done) | (simp [bcells_length]; omega) | (simp [bcells_length, *]; done))) ?_
               | refine G_val rfl rfl rfl rfl (V_loadA (s := 8) rfl rfl (mem_at 0 rfl) Tryd.underlying169 rfl infSealW_169 rfl rfl (by first | rfl | (simp [bcells_length]; done) | (simp [bcells_length]; omega) | (simp [bcells_length, *]; done))) ?_
             refine G_val rfl rfl rfl rfl (V_aggneq (m := 6) rfl Tryd.eqGuardType169 (by kernel_rfl) (by decide) (formed_of Tryd.underlying169 rfl (by kernel_rfl : Tryd.prog.cellsOf 169 = 8) (by first | rfl | (simp [bcells_length]; done) | (simp [bcells_length]; omega) | (simp [bcells_length, *]; done))) (formed_of Tryd.underlying169 rfl (by kernel_rfl : Tryd.prog.cellsOf 169 = 8) (by first | rfl | (simp [bcells_length]; done) | (simp [bcells_length]; omega) | (simp [bcells_length, *]; done))) rfl rfl (key8 _ (by simp; omega)) (key8 _ (by simp; omega))) ?_
             refine G_val rfl rfl rfl rfl (V_move rfl rfl) ?_
             refine G_splitD 25 rfl (fun hc2 => ?_) (fun hc2 => ?_)
             · skip
               refine G_off rfl rfl rfl rfl ?_
               refine G_off rfl rfl rfl rfl ?_
               refine G_val rfl rfl rfl rfl (V_pickT rfl rfl rfl) ?_
               refine G_done ?_
               refine G_then rfl ?_
               refine G_seq ?_
               refine G_region (l := [0, 1, 2, 3]) rfl ?_
               refine G_val rfl rfl rfl rfl (V_assign rfl rfl) ?_
               refine G_val rfl rfl rfl rfl (V_assign rfl rfl) ?_
               refine G_val rfl rfl rfl rfl (V_assign rfl rfl) ?_
               refine G_val rfl rfl rfl rfl (V_assign rfl rfl) ?_
               refine G_done ?_
               refine G_ret (post := []) Tryd.func68 rfl (RVs_cons (RV_tmp rfl) (RVs_cons (RV_tmp rfl) (RVs_cons (RV_tmp rfl) (RVs_cons (RV_tmp rfl) RVs_nil)))) [] rfl ?_
               dsimp only [packed]
               first
                 | exact ⟨(open_not (open_len (by omega))).symm, rfl⟩
                 | exact ⟨(open_not (open_neq (fun h => absurd h (by assumption)))).symm, rfl⟩
                 | exact ⟨(open_not (open_neq (fun h => absurd (congrArg _ h) (by assumption)))).symm, rfl⟩
                 | exact ⟨(open_not (open_zero (by assumption))).symm, rfl⟩
                 | exact ⟨(open_yes (open_ok (by omega) (lits_bytes_inj (by first | assumption | exact Classical.not_not.1 (by assumption))) (by assumption))).symm, rfl⟩
                 | exact ⟨(open_yes (open_ok (by omega) (by first | assumption | exact Classical.not_not.1 (by assumption)) (by assumption))).symm, rfl⟩
             refine G_val rfl rfl rfl rfl (V_move rfl rfl) ?_
             refine G_val rfl rfl rfl rfl (V_eql rfl rfl rfl) ?_
             refine G_val rfl rfl rfl rfl (V_pickF rfl rfl rfl) ?_
             refine G_done ?_
             refine G_ifD rfl (fun hc3 => ?_) (fun hc3 => ?_)
             · skip
               refine G_seq ?_
               refine G_region (l := [0, 1, 2, 3]) rfl ?_
               refine G_val rfl rfl rfl rfl (V_assign rfl rfl) ?_
               refine G_val rfl rfl rfl rfl (V_assign rfl rfl) ?_
               refine G_val rfl rfl rfl rfl (V_assign rfl rfl) ?_
               refine G_val rfl rfl rfl rfl (V_assign rfl rfl) ?_
               refine G_done ?_
               refine G_ret (post := []) Tryd.func68 rfl (RVs_cons (RV_tmp rfl) (RVs_cons (RV_tmp rfl) (RVs_cons (RV_tmp rfl) (RVs_cons (RV_tmp rfl) RVs_nil)))) [] rfl ?_
               dsimp only [packed]
               first
                 | exact ⟨(open_not (open_len (by omega))).symm, rfl⟩
                 | exact ⟨(open_not (open_neq (fun h => absurd h (by assumption)))).symm, rfl⟩
                 | exact ⟨(open_not (open_neq (fun h => absurd (congrArg _ h) (by assumption)))).symm, rfl⟩
                 | exact ⟨(open_not (open_zero (by assumption))).symm, rfl⟩
                 | exact ⟨(open_yes (open_ok (by omega) (lits_bytes_inj (by first | assumption | exact Classical.not_not.1 (by assumption))) (by assumption))).symm, rfl⟩
                 | exact ⟨(open_yes (open_ok (by omega) (by first | assumption | exact Classical.not_not.1 (by assumption)) (by assumption))).symm, rfl⟩
             refine G_skip ?_
             refine G_seq ?_
             refine G_draw mixedK (by kernel_rfl) ?_
             refine GQ_val rfl rfl rfl rfl (V_move rfl rfl) ?_
             refine GQ_val rfl rfl rfl rfl (V_asliceL (l := 4) rfl Tryd.underlying169 infSealW_5 rfl rfl rfl rfl (by first | omega | (simp; done) | (simp; omega) | (simp at *; omega)) rfl) ?_
             refine GQ_call rfl rfl rfl rfl rfl rfl Tryd.call100 (seal_number _ _ _ _ _ ((b.take 8).drop 4) (by simp; omega) (drop4 b (by omega))) [1] rfl (fun v post hp => (hp : _ ∧ _).1) ?_
             refine GQ_val rfl rfl rfl rfl (V_move rfl rfl) ?_
             refine GQ_val rfl rfl rfl rfl (V_move rfl rfl) ?_
             first
               | refine GQ_val rfl rfl rfl rfl (V_ssliceN (lo := 8) (hi := _) rfl Tryd.underlying9 rfl rfl rfl rfl rfl (by first | omega | (simp; done) | (simp; omega) | (simp at *; omega)) (by first | omega | (simp; done) | (simp; omega) | (simp at *; omega))) ?_
               | refine GQ_val rfl rfl rfl rfl (V_sslice rfl Tryd.underlying9 rfl rfl rfl (by first | omega | (simp; done) | (simp; omega) | (simp at *; omega)) (by first | omega | (simp; done) | (simp; omega) | (simp at *; omega)) (by first | omega | (simp; done) | (simp; omega) | (simp at *; omega))) ?_
             refine GQ_val rfl rfl rfl rfl (V_assign rfl rfl) ?_
             refine GQ_val rfl rfl rfl rfl (V_assign rfl rfl) ?_
             refine GQ_val rfl rfl rfl rfl (V_assign rfl rfl) ?_
             refine GQ_val rfl rfl rfl rfl (V_assign rfl rfl) ?_
             refine GQ_done rfl ?_
             refine G_ret (post := []) Tryd.func68 rfl (RVs_cons (RV_tmp rfl) (RVs_cons (RV_tmp rfl) (RVs_cons (RV_tmp rfl) (RVs_cons (RV_tmp rfl) RVs_nil)))) [] rfl ?_
             dsimp only [packed]
             first
               | exact ⟨(open_not (open_len (by omega))).symm, rfl⟩
               | exact ⟨(open_not (open_neq (fun h => absurd h (by assumption)))).symm, rfl⟩
               | exact ⟨(open_not (open_neq (fun h => absurd (congrArg _ h) (by assumption)))).symm, rfl⟩
               | exact ⟨(open_not (open_zero (by assumption))).symm, rfl⟩
               | exact ⟨(open_yes (open_ok (by omega) (lits_bytes_inj (by first | assumption | exact Classical.not_not.1 (by assumption))) (by assumption))).symm, rfl⟩
               | exact ⟨(open_yes (open_ok (by omega) (by first | assumption | exact Classical.not_not.1 (by assumption)) (by assumption))).symm, rfl⟩
     · skip
       refine GHop_new rfl rfl rfl rfl (N_allocA rfl infSealW_169 rfl) [] (fun _ => ⟨_, rfl⟩) (fun b8 => ?_)
       refine GH_all [6] (by kernel_rfl) (by decide) ?_
       refine (And.intro ?_ trivial)
       · skip
         refine GHop_call (L2 := [_, _]) rfl rfl rfl rfl rfl rfl Tryd.call99 (seal_of _ (by simp; omega)) [] [] rfl rfl [] (by rintro v post ⟨rfl, rfl⟩; exact ⟨_, rfl⟩) ?_
         rintro v post ⟨rfl, rfl⟩
         show GH _ _ _ _ _ _ _ [_, _] _
         refine GH_all [9] (by kernel_rfl) (by decide) ?_
         refine (And.intro ?_ trivial)
         · skip
           refine GHop_put (l1 := [_]) (L' := [_, _]) rfl rfl rfl rfl (P_storeA (s := 8) rfl rfl rfl (mem_at 1 rfl) (by first | rfl | (simp [bcells_length]; done) | (simp [bcells_length]; omega) | (simp [bcells_length, *]; done)) infSealW_169 rfl (by first | rfl | (simp [bcells_length]; done) | (simp [bcells_length]; omega) | (simp [bcells_length, *]; done)) (by first | rfl | exact bcells_all _ | (simp [Value.oneCell']; done) | (simp [Value.oneCell', *]; done))) rfl [] rfl ?_
           refine GH_all [10] (by kernel_rfl) (by decide) ?_
           refine (And.intro ?_ trivial)
           · skip
             refine GHop_put (l1 := []) (L' := [_, _]) rfl rfl rfl rfl (P_storeA (s := 8) rfl rfl rfl (mem_at 0 rfl) (by first | rfl | (simp [bcells_length]; done) | (simp [bcells_length]; omega) | (simp [bcells_length, *]; done)) infSealW_169 rfl (by first | rfl | (simp [bcells_length]; done) | (simp [bcells_length]; omega) | (simp [bcells_length, *]; done)) (by first | rfl | exact bcells_all _ | (simp [Value.oneCell']; done) | (simp [Value.oneCell', *]; done))) rfl [] rfl ?_
             refine GH_done (by kernel_rfl) ?_
             refine G_seq ?_
             refine G_region (l := [0, 1, 2]) rfl ?_
             refine G_val rfl rfl rfl rfl (V_asliceH (h := 4) rfl Tryd.underlying169 infSealW_5 rfl rfl rfl (by first | omega | (simp; done) | (simp; omega) | (simp at *; omega))) ?_
             refine G_call (L2 := [_, _]) rfl rfl rfl rfl rfl rfl Tryd.call100 (seal_number _ _ _ _ _ (b.take 4) (by simp; omega) (take4 b)) [] [1] rfl rfl ?_
             rintro v post ⟨rfl, rfl⟩
             show G _ _ _ [_, _] _
             refine G_val rfl rfl rfl rfl (V_assign rfl rfl) ?_
             refine G_done ?_
             refine G_seq ?_
             refine G_seq ?_
             refine G_region (l := [0, 1, 2, 3, 4, 5, 6]) rfl ?_
             first
               | refine G_val rfl rfl rfl rfl (V_loadW (s := 8) rfl rfl (mem_at 1 rfl) Tryd.underlying169 rfl infSealW_169 rfl (by first | rfl | (simp [bcells_length]; done) | (simp [bcells_length]; omega) | (simp [bcells_length, *]; done))) ?_
               | refine G_val rfl rfl rfl rfl (V_loadA (s := 8) rfl rfl (mem_at 1 rfl) Tryd.underlying169 rfl infSealW_169 rfl rfl (by first | rfl | (simp [bcells_length]; done) | (simp [bcells_length]; omega) | (simp [bcells_length, *]; done))) ?_
             first
               | refine G_val rfl rfl rfl rfl (V_loadW (s := 8) rfl rfl (mem_at 0 rfl) Tryd.underlying169 rfl infSealW_169 rfl (by first | rfl | (simp [bcells_length]; done) | (simp [bcells_length]; omega) | (simp [bcells_length, *]; done))) ?_
               | refine G_val rfl rfl rfl rfl (V_loadA (s := 8) rfl rfl (mem_at 0 rfl) Tryd.underlying169 rfl infSealW_169 rfl rfl (by first | rfl | (simp [bcells_length]; done) | (simp [bcells_length]; omega) | (simp [bcells_length, *]; done))) ?_
             refine G_val rfl rfl rfl rfl (V_aggneq (m := 6) rfl Tryd.eqGuardType169 (by kernel_rfl) (by decide) (formed_of Tryd.underlying169 rfl (by kernel_rfl : Tryd.prog.cellsOf 169 = 8) (by first | rfl | (simp [bcells_length]; done) | (simp [bcells_length]; omega) | (simp [bcells_length, *]; done))) (formed_of Tryd.underlying169 rfl (by kernel_rfl : Tryd.prog.cellsOf 169 = 8) (by first | rfl | (simp [bcells_length]; done) | (simp [bcells_length]; omega) | (simp [bcells_length, *]; done))) rfl rfl (key8 _ (by simp; omega)) (key8 _ (by simp; omega))) ?_
             refine G_val rfl rfl rfl rfl (V_move rfl rfl) ?_
             refine G_splitD 25 rfl (fun hc2 => ?_) (fun hc2 => ?_)
             · skip
               refine G_off rfl rfl rfl rfl ?_
               refine G_off rfl rfl rfl rfl ?_
               refine G_val rfl rfl rfl rfl (V_pickT rfl rfl rfl) ?_
               refine G_done ?_
               refine G_then rfl ?_
               refine G_seq ?_
               refine G_region (l := [0, 1, 2, 3]) rfl ?_
               refine G_val rfl rfl rfl rfl (V_assign rfl rfl) ?_
               refine G_val rfl rfl rfl rfl (V_assign rfl rfl) ?_
               refine G_val rfl rfl rfl rfl (V_assign rfl rfl) ?_
               refine G_val rfl rfl rfl rfl (V_assign rfl rfl) ?_
               refine G_done ?_
               refine G_ret (post := []) Tryd.func68 rfl (RVs_cons (RV_tmp rfl) (RVs_cons (RV_tmp rfl) (RVs_cons (RV_tmp rfl) (RVs_cons (RV_tmp rfl) RVs_nil)))) [] rfl ?_
               dsimp only [packed]
               first
                 | exact ⟨(open_not (open_len (by omega))).symm, rfl⟩
                 | exact ⟨(open_not (open_neq (fun h => absurd h (by assumption)))).symm, rfl⟩
                 | exact ⟨(open_not (open_neq (fun h => absurd (congrArg _ h) (by assumption)))).symm, rfl⟩
                 | exact ⟨(open_not (open_zero (by assumption))).symm, rfl⟩
                 | exact ⟨(open_yes (open_ok (by omega) (lits_bytes_inj (by first | assumption | exact Classical.not_not.1 (by assumption))) (by assumption))).symm, rfl⟩
                 | exact ⟨(open_yes (open_ok (by omega) (by first | assumption | exact Classical.not_not.1 (by assumption)) (by assumption))).symm, rfl⟩
             refine G_val rfl rfl rfl rfl (V_move rfl rfl) ?_
             refine G_val rfl rfl rfl rfl (V_eql rfl rfl rfl) ?_
             refine G_val rfl rfl rfl rfl (V_pickF rfl rfl rfl) ?_
             refine G_done ?_
             refine G_ifD rfl (fun hc3 => ?_) (fun hc3 => ?_)
             · skip
               refine G_seq ?_
               refine G_region (l := [0, 1, 2, 3]) rfl ?_
               refine G_val rfl rfl rfl rfl (V_assign rfl rfl) ?_
               refine G_val rfl rfl rfl rfl (V_assign rfl rfl) ?_
               refine G_val rfl rfl rfl rfl (V_assign rfl rfl) ?_
               refine G_val rfl rfl rfl rfl (V_assign rfl rfl) ?_
               refine G_done ?_
               refine G_ret (post := []) Tryd.func68 rfl (RVs_cons (RV_tmp rfl) (RVs_cons (RV_tmp rfl) (RVs_cons (RV_tmp rfl) (RVs_cons (RV_tmp rfl) RVs_nil)))) [] rfl ?_
               dsimp only [packed]
               first
                 | exact ⟨(open_not (open_len (by omega))).symm, rfl⟩
                 | exact ⟨(open_not (open_neq (fun h => absurd h (by assumption)))).symm, rfl⟩
                 | exact ⟨(open_not (open_neq (fun h => absurd (congrArg _ h) (by assumption)))).symm, rfl⟩
                 | exact ⟨(open_not (open_zero (by assumption))).symm, rfl⟩
                 | exact ⟨(open_yes (open_ok (by omega) (lits_bytes_inj (by first | assumption | exact Classical.not_not.1 (by assumption))) (by assumption))).symm, rfl⟩
                 | exact ⟨(open_yes (open_ok (by omega) (by first | assumption | exact Classical.not_not.1 (by assumption)) (by assumption))).symm, rfl⟩
             refine G_skip ?_
             refine G_seq ?_
             refine G_draw mixedK (by kernel_rfl) ?_
             refine GQ_val rfl rfl rfl rfl (V_move rfl rfl) ?_
             refine GQ_val rfl rfl rfl rfl (V_asliceL (l := 4) rfl Tryd.underlying169 infSealW_5 rfl rfl rfl rfl (by first | omega | (simp; done) | (simp; omega) | (simp at *; omega)) rfl) ?_
             refine GQ_call rfl rfl rfl rfl rfl rfl Tryd.call100 (seal_number _ _ _ _ _ ((b.take 8).drop 4) (by simp; omega) (drop4 b (by omega))) [1] rfl (fun v post hp => (hp : _ ∧ _).1) ?_
             refine GQ_val rfl rfl rfl rfl (V_move rfl rfl) ?_
             refine GQ_val rfl rfl rfl rfl (V_move rfl rfl) ?_
             first
               | refine GQ_val rfl rfl rfl rfl (V_ssliceN (lo := 8) (hi := _) rfl Tryd.underlying9 rfl rfl rfl rfl rfl (by first | omega | (simp; done) | (simp; omega) | (simp at *; omega)) (by first | omega | (simp; done) | (simp; omega) | (simp at *; omega))) ?_
               | refine GQ_val rfl rfl rfl rfl (V_sslice rfl Tryd.underlying9 rfl rfl rfl (by first | omega | (simp; done) | (simp; omega) | (simp at *; omega)) (by first | omega | (simp; done) | (simp; omega) | (simp at *; omega)) (by first | omega | (simp; done) | (simp; omega) | (simp at *; omega))) ?_
             refine GQ_val rfl rfl rfl rfl (V_assign rfl rfl) ?_
             refine GQ_val rfl rfl rfl rfl (V_assign rfl rfl) ?_
             refine GQ_val rfl rfl rfl rfl (V_assign rfl rfl) ?_
             refine GQ_val rfl rfl rfl rfl (V_assign rfl rfl) ?_
             refine GQ_done rfl ?_
             refine G_ret (post := []) Tryd.func68 rfl (RVs_cons (RV_tmp rfl) (RVs_cons (RV_tmp rfl) (RVs_cons (RV_tmp rfl) (RVs_cons (RV_tmp rfl) RVs_nil)))) [] rfl ?_
             dsimp only [packed]
             first
               | exact ⟨(open_not (open_len (by omega))).symm, rfl⟩
               | exact ⟨(open_not (open_neq (fun h => absurd h (by assumption)))).symm, rfl⟩
               | exact ⟨(open_not (open_neq (fun h => absurd (congrArg _ h) (by assumption)))).symm, rfl⟩
               | exact ⟨(open_not (open_zero (by assumption))).symm, rfl⟩
               | exact ⟨(open_yes (open_ok (by omega) (lits_bytes_inj (by first | assumption | exact Classical.not_not.1 (by assumption))) (by assumption))).symm, rfl⟩
               | exact ⟨(open_yes (open_ok (by omega) (by first | assumption | exact Classical.not_not.1 (by assumption)) (by assumption))).symm, rfl⟩
   · skip
     refine GHop_new rfl rfl rfl rfl (N_allocA rfl infSealW_169 rfl) [] (fun _ => ⟨_, rfl⟩) (fun b8 => ?_)
     refine GH_all [2] (by kernel_rfl) (by decide) ?_
     refine (And.intro ?_ trivial)
     · skip
       refine GHop_call (L2 := [_, _]) rfl rfl rfl rfl rfl rfl Tryd.call99 (seal_of _ (by simp; omega)) [] [] rfl rfl [] (by rintro v post ⟨rfl, rfl⟩; exact ⟨_, rfl⟩) ?_
       rintro v post ⟨rfl, rfl⟩
       show GH _ _ _ _ _ _ _ [_, _] _
       refine GH_all [6] (by kernel_rfl) (by decide) ?_
       refine (And.intro ?_ trivial)
       · skip
         refine GHop_call (L2 := [_, _]) rfl rfl rfl rfl rfl rfl Tryd.call99 (seal_of _ (by simp; omega)) [] [] rfl rfl [] (by rintro v post ⟨rfl, rfl⟩; exact ⟨_, rfl⟩) ?_
         rintro v post ⟨rfl, rfl⟩
         show GH _ _ _ _ _ _ _ [_, _] _
         refine GH_all [9] (by kernel_rfl) (by decide) ?_
         refine (And.intro ?_ trivial)
         · skip
           refine GHop_put (l1 := [_]) (L' := [_, _]) rfl rfl rfl rfl (P_storeA (s := 8) rfl rfl rfl (mem_at 1 rfl) (by first | rfl | (simp [bcells_length]; done) | (simp [bcells_length]; omega) | (simp [bcells_length, *]; done)) infSealW_169 rfl (by first | rfl | (simp [bcells_length]; done) | (simp [bcells_length]; omega) | (simp [bcells_length, *]; done)) (by first | rfl | exact bcells_all _ | (simp [Value.oneCell']; done) | (simp [Value.oneCell', *]; done))) rfl [] rfl ?_
           refine GH_all [10] (by kernel_rfl) (by decide) ?_
           refine (And.intro ?_ trivial)
           · skip
             refine GHop_put (l1 := []) (L' := [_, _]) rfl rfl rfl rfl (P_storeA (s := 8) rfl rfl rfl (mem_at 0 rfl) (by first | rfl | (simp [bcells_length]; done) | (simp [bcells_length]; omega) | (simp [bcells_length, *]; done)) infSealW_169 rfl (by first | rfl | (simp [bcells_length]; done) | (simp [bcells_length]; omega) | (simp [bcells_length, *]; done)) (by first | rfl | exact bcells_all _ | (simp [Value.oneCell']; done) | (simp [Value.oneCell', *]; done))) rfl [] rfl ?_
             refine GH_done (by kernel_rfl) ?_
             refine G_seq ?_
             refine G_region (l := [0, 1, 2]) rfl ?_
             refine G_val rfl rfl rfl rfl (V_asliceH (h := 4) rfl Tryd.underlying169 infSealW_5 rfl rfl rfl (by first | omega | (simp; done) | (simp; omega) | (simp at *; omega))) ?_
             refine G_call (L2 := [_, _]) rfl rfl rfl rfl rfl rfl Tryd.call100 (seal_number _ _ _ _ _ (b.take 4) (by simp; omega) (take4 b)) [] [1] rfl rfl ?_
             rintro v post ⟨rfl, rfl⟩
             show G _ _ _ [_, _] _
             refine G_val rfl rfl rfl rfl (V_assign rfl rfl) ?_
             refine G_done ?_
             refine G_seq ?_
             refine G_seq ?_
             refine G_region (l := [0, 1, 2, 3, 4, 5, 6]) rfl ?_
             first
               | refine G_val rfl rfl rfl rfl (V_loadW (s := 8) rfl rfl (mem_at 1 rfl) Tryd.underlying169 rfl infSealW_169 rfl (by first | rfl | (simp [bcells_length]; done) | (simp [bcells_length]; omega) | (simp [bcells_length, *]; done))) ?_
               | refine G_val rfl rfl rfl rfl (V_loadA (s := 8) rfl rfl (mem_at 1 rfl) Tryd.underlying169 rfl infSealW_169 rfl rfl (by first | rfl | (simp [bcells_length]; done) | (simp [bcells_length]; omega) | (simp [bcells_length, *]; done))) ?_
             first
               | refine G_val rfl rfl rfl rfl (V_loadW (s := 8) rfl rfl (mem_at 0 rfl) Tryd.underlying169 rfl infSealW_169 rfl (by first | rfl | (simp [bcells_length]; done) | (simp [bcells_length]; omega) | (simp [bcells_length, *]; done))) ?_
               | refine G_val rfl rfl rfl rfl (V_loadA (s := 8) rfl rfl (mem_at 0 rfl) Tryd.underlying169 rfl infSealW_169 rfl rfl (by first | rfl | (simp [bcells_length]; done) | (simp [bcells_length]; omega) | (simp [bcells_length, *]; done))) ?_
             refine G_val rfl rfl rfl rfl (V_aggneq (m := 6) rfl Tryd.eqGuardType169 (by kernel_rfl) (by decide) (formed_of Tryd.underlying169 rfl (by kernel_rfl : Tryd.prog.cellsOf 169 = 8) (by first | rfl | (simp [bcells_length]; done) | (simp [bcells_length]; omega) | (simp [bcells_length, *]; done))) (formed_of Tryd.underlying169 rfl (by kernel_rfl : Tryd.prog.cellsOf 169 = 8) (by first | rfl | (simp [bcells_length]; done) | (simp [bcells_length]; omega) | (simp [bcells_length, *]; done))) rfl rfl (key8 _ (by simp; omega)) (key8 _ (by simp; omega))) ?_
             refine G_val rfl rfl rfl rfl (V_move rfl rfl) ?_
             refine G_splitD 25 rfl (fun hc2 => ?_) (fun hc2 => ?_)
             · skip
               refine G_off rfl rfl rfl rfl ?_
               refine G_off rfl rfl rfl rfl ?_
               refine G_val rfl rfl rfl rfl (V_pickT rfl rfl rfl) ?_
               refine G_done ?_
               refine G_then rfl ?_
               refine G_seq ?_
               refine G_region (l := [0, 1, 2, 3]) rfl ?_
               refine G_val rfl rfl rfl rfl (V_assign rfl rfl) ?_
               refine G_val rfl rfl rfl rfl (V_assign rfl rfl) ?_
               refine G_val rfl rfl rfl rfl (V_assign rfl rfl) ?_
               refine G_val rfl rfl rfl rfl (V_assign rfl rfl) ?_
               refine G_done ?_
               refine G_ret (post := []) Tryd.func68 rfl (RVs_cons (RV_tmp rfl) (RVs_cons (RV_tmp rfl) (RVs_cons (RV_tmp rfl) (RVs_cons (RV_tmp rfl) RVs_nil)))) [] rfl ?_
               dsimp only [packed]
               first
                 | exact ⟨(open_not (open_len (by omega))).symm, rfl⟩
                 | exact ⟨(open_not (open_neq (fun h => absurd h (by assumption)))).symm, rfl⟩
                 | exact ⟨(open_not (open_neq (fun h => absurd (congrArg _ h) (by assumption)))).symm, rfl⟩
                 | exact ⟨(open_not (open_zero (by assumption))).symm, rfl⟩
                 | exact ⟨(open_yes (open_ok (by omega) (lits_bytes_inj (by first | assumption | exact Classical.not_not.1 (by assumption))) (by assumption))).symm, rfl⟩
                 | exact ⟨(open_yes (open_ok (by omega) (by first | assumption | exact Classical.not_not.1 (by assumption)) (by assumption))).symm, rfl⟩
             refine G_val rfl rfl rfl rfl (V_move rfl rfl) ?_
             refine G_val rfl rfl rfl rfl (V_eql rfl rfl rfl) ?_
             refine G_val rfl rfl rfl rfl (V_pickF rfl rfl rfl) ?_
             refine G_done ?_
             refine G_ifD rfl (fun hc3 => ?_) (fun hc3 => ?_)
             · skip
               refine G_seq ?_
               refine G_region (l := [0, 1, 2, 3]) rfl ?_
               refine G_val rfl rfl rfl rfl (V_assign rfl rfl) ?_
               refine G_val rfl rfl rfl rfl (V_assign rfl rfl) ?_
               refine G_val rfl rfl rfl rfl (V_assign rfl rfl) ?_
               refine G_val rfl rfl rfl rfl (V_assign rfl rfl) ?_
               refine G_done ?_
               refine G_ret (post := []) Tryd.func68 rfl (RVs_cons (RV_tmp rfl) (RVs_cons (RV_tmp rfl) (RVs_cons (RV_tmp rfl) (RVs_cons (RV_tmp rfl) RVs_nil)))) [] rfl ?_
               dsimp only [packed]
               first
                 | exact ⟨(open_not (open_len (by omega))).symm, rfl⟩
                 | exact ⟨(open_not (open_neq (fun h => absurd h (by assumption)))).symm, rfl⟩
                 | exact ⟨(open_not (open_neq (fun h => absurd (congrArg _ h) (by assumption)))).symm, rfl⟩
                 | exact ⟨(open_not (open_zero (by assumption))).symm, rfl⟩
                 | exact ⟨(open_yes (open_ok (by omega) (lits_bytes_inj (by first | assumption | exact Classical.not_not.1 (by assumption))) (by assumption))).symm, rfl⟩
                 | exact ⟨(open_yes (open_ok (by omega) (by first | assumption | exact Classical.not_not.1 (by assumption)) (by assumption))).symm, rfl⟩
             refine G_skip ?_
             refine G_seq ?_
             refine G_draw mixedK (by kernel_rfl) ?_
             refine GQ_val rfl rfl rfl rfl (V_move rfl rfl) ?_
             refine GQ_val rfl rfl rfl rfl (V_asliceL (l := 4) rfl Tryd.underlying169 infSealW_5 rfl rfl rfl rfl (by first | omega | (simp; done) | (simp; omega) | (simp at *; omega)) rfl) ?_
             refine GQ_call rfl rfl rfl rfl rfl rfl Tryd.call100 (seal_number _ _ _ _ _ ((b.take 8).drop 4) (by simp; omega) (drop4 b (by omega))) [1] rfl (fun v post hp => (hp : _ ∧ _).1) ?_
             refine GQ_val rfl rfl rfl rfl (V_move rfl rfl) ?_
             refine GQ_val rfl rfl rfl rfl (V_move rfl rfl) ?_
             first
               | refine GQ_val rfl rfl rfl rfl (V_ssliceN (lo := 8) (hi := _) rfl Tryd.underlying9 rfl rfl rfl rfl rfl (by first | omega | (simp; done) | (simp; omega) | (simp at *; omega)) (by first | omega | (simp; done) | (simp; omega) | (simp at *; omega))) ?_
               | refine GQ_val rfl rfl rfl rfl (V_sslice rfl Tryd.underlying9 rfl rfl rfl (by first | omega | (simp; done) | (simp; omega) | (simp at *; omega)) (by first | omega | (simp; done) | (simp; omega) | (simp at *; omega)) (by first | omega | (simp; done) | (simp; omega) | (simp at *; omega))) ?_
             refine GQ_val rfl rfl rfl rfl (V_assign rfl rfl) ?_
             refine GQ_val rfl rfl rfl rfl (V_assign rfl rfl) ?_
             refine GQ_val rfl rfl rfl rfl (V_assign rfl rfl) ?_
             refine GQ_val rfl rfl rfl rfl (V_assign rfl rfl) ?_
             refine GQ_done rfl ?_
             refine G_ret (post := []) Tryd.func68 rfl (RVs_cons (RV_tmp rfl) (RVs_cons (RV_tmp rfl) (RVs_cons (RV_tmp rfl) (RVs_cons (RV_tmp rfl) RVs_nil)))) [] rfl ?_
             dsimp only [packed]
             first
               | exact ⟨(open_not (open_len (by omega))).symm, rfl⟩
               | exact ⟨(open_not (open_neq (fun h => absurd h (by assumption)))).symm, rfl⟩
               | exact ⟨(open_not (open_neq (fun h => absurd (congrArg _ h) (by assumption)))).symm, rfl⟩
               | exact ⟨(open_not (open_zero (by assumption))).symm, rfl⟩
               | exact ⟨(open_yes (open_ok (by omega) (lits_bytes_inj (by first | assumption | exact Classical.not_not.1 (by assumption))) (by assumption))).symm, rfl⟩
               | exact ⟨(open_yes (open_ok (by omega) (by first | assumption | exact Classical.not_not.1 (by assumption)) (by assumption))).symm, rfl⟩
 · skip
   refine GHop_new rfl rfl rfl rfl (N_allocA rfl infSealW_169 rfl) [] (fun _ => ⟨_, rfl⟩) (fun b8 => ?_)
   refine GH_all [2, 7] (by kernel_rfl) (by decide) ?_
   refine (And.intro ?_ (And.intro ?_ trivial))
   · skip
     refine GHop_call (L2 := [_]) rfl rfl rfl rfl rfl rfl Tryd.call99 (seal_of _ (by simp; omega)) [] [] rfl rfl [] (by rintro v post ⟨rfl, rfl⟩; exact ⟨_, rfl⟩) ?_
     rintro v post ⟨rfl, rfl⟩
     show GH _ _ _ _ _ _ _ [_] _
     refine GH_all [6, 7] (by kernel_rfl) (by decide) ?_
     refine (And.intro ?_ (And.intro ?_ trivial))
     · skip
       refine GHop_call (L2 := [_]) rfl rfl rfl rfl rfl rfl Tryd.call99 (seal_of _ (by simp; omega)) [] [] rfl rfl [] (by rintro v post ⟨rfl, rfl⟩; exact ⟨_, rfl⟩) ?_
       rintro v post ⟨rfl, rfl⟩
       show GH _ _ _ _ _ _ _ [_] _
       refine GH_all [7] (by kernel_rfl) (by decide) ?_
       refine (And.intro ?_ trivial)
       · skip
         refine GHop_new rfl rfl rfl rfl (N_allocA rfl infSealW_169 rfl) [] (fun _ => ⟨_, rfl⟩) (fun b7 => ?_)
         refine GH_all [9] (by kernel_rfl) (by decide) ?_
         refine (And.intro ?_ trivial)
         · skip
           refine GHop_put (l1 := []) (L' := [_, _]) rfl rfl rfl rfl (P_storeA (s := 8) rfl rfl rfl (mem_at 0 rfl) (by first | rfl | (simp [bcells_length]; done) | (simp [bcells_length]; omega) | (simp [bcells_length, *]; done)) infSealW_169 rfl (by first | rfl | (simp [bcells_length]; done) | (simp [bcells_length]; omega) | (simp [bcells_length, *]; done)) (by first | rfl | exact bcells_all _ | (simp [Value.oneCell']; done) | (simp [Value.oneCell', *]; done))) rfl [] rfl ?_
           refine GH_all [10] (by kernel_rfl) (by decide) ?_
           refine (And.intro ?_ trivial)
           · skip
             refine GHop_put (l1 := [_]) (L' := [_, _]) rfl rfl rfl rfl (P_storeA (s := 8) rfl rfl rfl (mem_at 1 rfl) (by first | rfl | (simp [bcells_length]; done) | (simp [bcells_length]; omega) | (simp [bcells_length, *]; done)) infSealW_169 rfl (by first | rfl | (simp [bcells_length]; done) | (simp [bcells_length]; omega) | (simp [bcells_length, *]; done)) (by first | rfl | exact bcells_all _ | (simp [Value.oneCell']; done) | (simp [Value.oneCell', *]; done))) rfl [] rfl ?_
             refine GH_done (by kernel_rfl) ?_
             refine G_seq ?_
             refine G_region (l := [0, 1, 2]) rfl ?_
             refine G_val rfl rfl rfl rfl (V_asliceH (h := 4) rfl Tryd.underlying169 infSealW_5 rfl rfl rfl (by first | omega | (simp; done) | (simp; omega) | (simp at *; omega))) ?_
             refine G_call (L2 := [_, _]) rfl rfl rfl rfl rfl rfl Tryd.call100 (seal_number _ _ _ _ _ (b.take 4) (by simp; omega) (take4 b)) [] [0] rfl rfl ?_
             rintro v post ⟨rfl, rfl⟩
             show G _ _ _ [_, _] _
             refine G_val rfl rfl rfl rfl (V_assign rfl rfl) ?_
             refine G_done ?_
             refine G_seq ?_
             refine G_seq ?_
             refine G_region (l := [0, 1, 2, 3, 4, 5, 6]) rfl ?_
             first
               | refine G_val rfl rfl rfl rfl (V_loadW (s := 8) rfl rfl (mem_at 0 rfl) Tryd.underlying169 rfl infSealW_169 rfl (by first | rfl | (simp [bcells_length]; done) | (simp [bcells_length]; omega) | (simp [bcells_length, *]; done))) ?_
               | refine G_val rfl rfl rfl rfl (V_loadA (s := 8) rfl rfl (mem_at 0 rfl) Tryd.underlying169 rfl infSealW_169 rfl rfl (by first | rfl | (simp [bcells_length]; done) | (simp [bcells_length]; omega) | (simp [bcells_length, *]; done))) ?_
             first
               | refine G_val rfl rfl rfl rfl (V_loadW (s := 8) rfl rfl (mem_at 1 rfl) Tryd.underlying169 rfl infSealW_169 rfl (by first | rfl | (simp [bcells_length]; done) | (simp [bcells_length]; omega) | (simp [bcells_length, *]; done))) ?_
               | refine G_val rfl rfl rfl rfl (V_loadA (s := 8) rfl rfl (mem_at 1 rfl) Tryd.underlying169 rfl infSealW_169 rfl rfl (by first | rfl | (simp [bcells_length]; done) | (simp [bcells_length]; omega) | (simp [bcells_length, *]; done))) ?_
             refine G_val rfl rfl rfl rfl (V_aggneq (m := 6) rfl Tryd.eqGuardType169 (by kernel_rfl) (by decide) (formed_of Tryd.underlying169 rfl (by kernel_rfl : Tryd.prog.cellsOf 169 = 8) (by first | rfl | (simp [bcells_length]; done) | (simp [bcells_length]; omega) | (simp [bcells_length, *]; done))) (formed_of Tryd.underlying169 rfl (by kernel_rfl : Tryd.prog.cellsOf 169 = 8) (by first | rfl | (simp [bcells_length]; done) | (simp [bcells_length]; omega) | (simp [bcells_length, *]; done))) rfl rfl (key8 _ (by simp; omega)) (key8 _ (by simp; omega))) ?_
             refine G_val rfl rfl rfl rfl (V_move rfl rfl) ?_
             refine G_splitD 25 rfl (fun hc2 => ?_) (fun hc2 => ?_)
             · skip
               refine G_off rfl rfl rfl rfl ?_
               refine G_off rfl rfl rfl rfl ?_
               refine G_val rfl rfl rfl rfl (V_pickT rfl rfl rfl) ?_
               refine G_done ?_
               refine G_then rfl ?_
               refine G_seq ?_
               refine G_region (l := [0, 1, 2, 3]) rfl ?_
               refine G_val rfl rfl rfl rfl (V_assign rfl rfl) ?_
               refine G_val rfl rfl rfl rfl (V_assign rfl rfl) ?_
               refine G_val rfl rfl rfl rfl (V_assign rfl rfl) ?_
               refine G_val rfl rfl rfl rfl (V_assign rfl rfl) ?_
               refine G_done ?_
               refine G_ret (post := []) Tryd.func68 rfl (RVs_cons (RV_tmp rfl) (RVs_cons (RV_tmp rfl) (RVs_cons (RV_tmp rfl) (RVs_cons (RV_tmp rfl) RVs_nil)))) [] rfl ?_
               dsimp only [packed]
               first
                 | exact ⟨(open_not (open_len (by omega))).symm, rfl⟩
                 | exact ⟨(open_not (open_neq (fun h => absurd h (by assumption)))).symm, rfl⟩
                 | exact ⟨(open_not (open_neq (fun h => absurd (congrArg _ h) (by assumption)))).symm, rfl⟩
                 | exact ⟨(open_not (open_zero (by assumption))).symm, rfl⟩
                 | exact ⟨(open_yes (open_ok (by omega) (lits_bytes_inj (by first | assumption | exact Classical.not_not.1 (by assumption))) (by assumption))).symm, rfl⟩
                 | exact ⟨(open_yes (open_ok (by omega) (by first | assumption | exact Classical.not_not.1 (by assumption)) (by assumption))).symm, rfl⟩
             refine G_val rfl rfl rfl rfl (V_move rfl rfl) ?_
             refine G_val rfl rfl rfl rfl (V_eql rfl rfl rfl) ?_
             refine G_val rfl rfl rfl rfl (V_pickF rfl rfl rfl) ?_
             refine G_done ?_
             refine G_ifD rfl (fun hc3 => ?_) (fun hc3 => ?_)
             · skip
               refine G_seq ?_
               refine G_region (l := [0, 1, 2, 3]) rfl ?_
               refine G_val rfl rfl rfl rfl (V_assign rfl rfl) ?_
               refine G_val rfl rfl rfl rfl (V_assign rfl rfl) ?_
               refine G_val rfl rfl rfl rfl (V_assign rfl rfl) ?_
               refine G_val rfl rfl rfl rfl (V_assign rfl rfl) ?_
               refine G_done ?_
               refine G_ret (post := []) Tryd.func68 rfl (RVs_cons (RV_tmp rfl) (RVs_cons (RV_tmp rfl) (RVs_cons (RV_tmp rfl) (RVs_cons (RV_tmp rfl) RVs_nil)))) [] rfl ?_
               dsimp only [packed]
               first
                 | exact ⟨(open_not (open_len (by omega))).symm, rfl⟩
                 | exact ⟨(open_not (open_neq (fun h => absurd h (by assumption)))).symm, rfl⟩
                 | exact ⟨(open_not (open_neq (fun h => absurd (congrArg _ h) (by assumption)))).symm, rfl⟩
                 | exact ⟨(open_not (open_zero (by assumption))).symm, rfl⟩
                 | exact ⟨(open_yes (open_ok (by omega) (lits_bytes_inj (by first | assumption | exact Classical.not_not.1 (by assumption))) (by assumption))).symm, rfl⟩
                 | exact ⟨(open_yes (open_ok (by omega) (by first | assumption | exact Classical.not_not.1 (by assumption)) (by assumption))).symm, rfl⟩
             refine G_skip ?_
             refine G_seq ?_
             refine G_draw mixedK (by kernel_rfl) ?_
             refine GQ_val rfl rfl rfl rfl (V_move rfl rfl) ?_
             refine GQ_val rfl rfl rfl rfl (V_asliceL (l := 4) rfl Tryd.underlying169 infSealW_5 rfl rfl rfl rfl (by first | omega | (simp; done) | (simp; omega) | (simp at *; omega)) rfl) ?_
             refine GQ_call rfl rfl rfl rfl rfl rfl Tryd.call100 (seal_number _ _ _ _ _ ((b.take 8).drop 4) (by simp; omega) (drop4 b (by omega))) [0] rfl (fun v post hp => (hp : _ ∧ _).1) ?_
             refine GQ_val rfl rfl rfl rfl (V_move rfl rfl) ?_
             refine GQ_val rfl rfl rfl rfl (V_move rfl rfl) ?_
             first
               | refine GQ_val rfl rfl rfl rfl (V_ssliceN (lo := 8) (hi := _) rfl Tryd.underlying9 rfl rfl rfl rfl rfl (by first | omega | (simp; done) | (simp; omega) | (simp at *; omega)) (by first | omega | (simp; done) | (simp; omega) | (simp at *; omega))) ?_
               | refine GQ_val rfl rfl rfl rfl (V_sslice rfl Tryd.underlying9 rfl rfl rfl (by first | omega | (simp; done) | (simp; omega) | (simp at *; omega)) (by first | omega | (simp; done) | (simp; omega) | (simp at *; omega)) (by first | omega | (simp; done) | (simp; omega) | (simp at *; omega))) ?_
             refine GQ_val rfl rfl rfl rfl (V_assign rfl rfl) ?_
             refine GQ_val rfl rfl rfl rfl (V_assign rfl rfl) ?_
             refine GQ_val rfl rfl rfl rfl (V_assign rfl rfl) ?_
             refine GQ_val rfl rfl rfl rfl (V_assign rfl rfl) ?_
             refine GQ_done rfl ?_
             refine G_ret (post := []) Tryd.func68 rfl (RVs_cons (RV_tmp rfl) (RVs_cons (RV_tmp rfl) (RVs_cons (RV_tmp rfl) (RVs_cons (RV_tmp rfl) RVs_nil)))) [] rfl ?_
             dsimp only [packed]
             first
               | exact ⟨(open_not (open_len (by omega))).symm, rfl⟩
               | exact ⟨(open_not (open_neq (fun h => absurd h (by assumption)))).symm, rfl⟩
               | exact ⟨(open_not (open_neq (fun h => absurd (congrArg _ h) (by assumption)))).symm, rfl⟩
               | exact ⟨(open_not (open_zero (by assumption))).symm, rfl⟩
               | exact ⟨(open_yes (open_ok (by omega) (lits_bytes_inj (by first | assumption | exact Classical.not_not.1 (by assumption))) (by assumption))).symm, rfl⟩
               | exact ⟨(open_yes (open_ok (by omega) (by first | assumption | exact Classical.not_not.1 (by assumption)) (by assumption))).symm, rfl⟩
     · skip
       refine GHop_new rfl rfl rfl rfl (N_allocA rfl infSealW_169 rfl) [] (fun _ => ⟨_, rfl⟩) (fun b7 => ?_)
       refine GH_all [6] (by kernel_rfl) (by decide) ?_
       refine (And.intro ?_ trivial)
       · skip
         refine GHop_call (L2 := [_, _]) rfl rfl rfl rfl rfl rfl Tryd.call99 (seal_of _ (by simp; omega)) [] [] rfl rfl [] (by rintro v post ⟨rfl, rfl⟩; exact ⟨_, rfl⟩) ?_
         rintro v post ⟨rfl, rfl⟩
         show GH _ _ _ _ _ _ _ [_, _] _
         refine GH_all [9] (by kernel_rfl) (by decide) ?_
         refine (And.intro ?_ trivial)
         · skip
           refine GHop_put (l1 := []) (L' := [_, _]) rfl rfl rfl rfl (P_storeA (s := 8) rfl rfl rfl (mem_at 0 rfl) (by first | rfl | (simp [bcells_length]; done) | (simp [bcells_length]; omega) | (simp [bcells_length, *]; done)) infSealW_169 rfl (by first | rfl | (simp [bcells_length]; done) | (simp [bcells_length]; omega) | (simp [bcells_length, *]; done)) (by first | rfl | exact bcells_all _ | (simp [Value.oneCell']; done) | (simp [Value.oneCell', *]; done))) rfl [] rfl ?_
           refine GH_all [10] (by kernel_rfl) (by decide) ?_
           refine (And.intro ?_ trivial)
           · skip
             refine GHop_put (l1 := [_]) (L' := [_, _]) rfl rfl rfl rfl (P_storeA (s := 8) rfl rfl rfl (mem_at 1 rfl) (by first | rfl | (simp [bcells_length]; done) | (simp [bcells_length]; omega) | (simp [bcells_length, *]; done)) infSealW_169 rfl (by first | rfl | (simp [bcells_length]; done) | (simp [bcells_length]; omega) | (simp [bcells_length, *]; done)) (by first | rfl | exact bcells_all _ | (simp [Value.oneCell']; done) | (simp [Value.oneCell', *]; done))) rfl [] rfl ?_
             refine GH_done (by kernel_rfl) ?_
             refine G_seq ?_
             refine G_region (l := [0, 1, 2]) rfl ?_
             refine G_val rfl rfl rfl rfl (V_asliceH (h := 4) rfl Tryd.underlying169 infSealW_5 rfl rfl rfl (by first | omega | (simp; done) | (simp; omega) | (simp at *; omega))) ?_
             refine G_call (L2 := [_, _]) rfl rfl rfl rfl rfl rfl Tryd.call100 (seal_number _ _ _ _ _ (b.take 4) (by simp; omega) (take4 b)) [] [0] rfl rfl ?_
             rintro v post ⟨rfl, rfl⟩
             show G _ _ _ [_, _] _
             refine G_val rfl rfl rfl rfl (V_assign rfl rfl) ?_
             refine G_done ?_
             refine G_seq ?_
             refine G_seq ?_
             refine G_region (l := [0, 1, 2, 3, 4, 5, 6]) rfl ?_
             first
               | refine G_val rfl rfl rfl rfl (V_loadW (s := 8) rfl rfl (mem_at 0 rfl) Tryd.underlying169 rfl infSealW_169 rfl (by first | rfl | (simp [bcells_length]; done) | (simp [bcells_length]; omega) | (simp [bcells_length, *]; done))) ?_
               | refine G_val rfl rfl rfl rfl (V_loadA (s := 8) rfl rfl (mem_at 0 rfl) Tryd.underlying169 rfl infSealW_169 rfl rfl (by first | rfl | (simp [bcells_length]; done) | (simp [bcells_length]; omega) | (simp [bcells_length, *]; done))) ?_
             first
               | refine G_val rfl rfl rfl rfl (V_loadW (s := 8) rfl rfl (mem_at 1 rfl) Tryd.underlying169 rfl infSealW_169 rfl (by first | rfl | (simp [bcells_length]; done) | (simp [bcells_length]; omega) | (simp [bcells_length, *]; done))) ?_
               | refine G_val rfl rfl rfl rfl (V_loadA (s := 8) rfl rfl (mem_at 1 rfl) Tryd.underlying169 rfl infSealW_169 rfl rfl (by first | rfl | (simp [bcells_length]; done) | (simp [bcells_length]; omega) | (simp [bcells_length, *]; done))) ?_
             refine G_val rfl rfl rfl rfl (V_aggneq (m := 6) rfl Tryd.eqGuardType169 (by kernel_rfl) (by decide) (formed_of Tryd.underlying169 rfl (by kernel_rfl : Tryd.prog.cellsOf 169 = 8) (by first | rfl | (simp [bcells_length]; done) | (simp [bcells_length]; omega) | (simp [bcells_length, *]; done))) (formed_of Tryd.underlying169 rfl (by kernel_rfl : Tryd.prog.cellsOf 169 = 8) (by first | rfl | (simp [bcells_length]; done) | (simp [bcells_length]; omega) | (simp [bcells_length, *]; done))) rfl rfl (key8 _ (by simp; omega)) (key8 _ (by simp; omega))) ?_
             refine G_val rfl rfl rfl rfl (V_move rfl rfl) ?_
             refine G_splitD 25 rfl (fun hc2 => ?_) (fun hc2 => ?_)
             · skip
               refine G_off rfl rfl rfl rfl ?_
               refine G_off rfl rfl rfl rfl ?_
               refine G_val rfl rfl rfl rfl (V_pickT rfl rfl rfl) ?_
               refine G_done ?_
               refine G_then rfl ?_
               refine G_seq ?_
               refine G_region (l := [0, 1, 2, 3]) rfl ?_
               refine G_val rfl rfl rfl rfl (V_assign rfl rfl) ?_
               refine G_val rfl rfl rfl rfl (V_assign rfl rfl) ?_
               refine G_val rfl rfl rfl rfl (V_assign rfl rfl) ?_
               refine G_val rfl rfl rfl rfl (V_assign rfl rfl) ?_
               refine G_done ?_
               refine G_ret (post := []) Tryd.func68 rfl (RVs_cons (RV_tmp rfl) (RVs_cons (RV_tmp rfl) (RVs_cons (RV_tmp rfl) (RVs_cons (RV_tmp rfl) RVs_nil)))) [] rfl ?_
               dsimp only [packed]
               first
                 | exact ⟨(open_not (open_len (by omega))).symm, rfl⟩
                 | exact ⟨(open_not (open_neq (fun h => absurd h (by assumption)))).symm, rfl⟩
                 | exact ⟨(open_not (open_neq (fun h => absurd (congrArg _ h) (by assumption)))).symm, rfl⟩
                 | exact ⟨(open_not (open_zero (by assumption))).symm, rfl⟩
                 | exact ⟨(open_yes (open_ok (by omega) (lits_bytes_inj (by first | assumption | exact Classical.not_not.1 (by assumption))) (by assumption))).symm, rfl⟩
                 | exact ⟨(open_yes (open_ok (by omega) (by first | assumption | exact Classical.not_not.1 (by assumption)) (by assumption))).symm, rfl⟩
             refine G_val rfl rfl rfl rfl (V_move rfl rfl) ?_
             refine G_val rfl rfl rfl rfl (V_eql rfl rfl rfl) ?_
             refine G_val rfl rfl rfl rfl (V_pickF rfl rfl rfl) ?_
             refine G_done ?_
             refine G_ifD rfl (fun hc3 => ?_) (fun hc3 => ?_)
             · skip
               refine G_seq ?_
               refine G_region (l := [0, 1, 2, 3]) rfl ?_
               refine G_val rfl rfl rfl rfl (V_assign rfl rfl) ?_
               refine G_val rfl rfl rfl rfl (V_assign rfl rfl) ?_
               refine G_val rfl rfl rfl rfl (V_assign rfl rfl) ?_
               refine G_val rfl rfl rfl rfl (V_assign rfl rfl) ?_
               refine G_done ?_
               refine G_ret (post := []) Tryd.func68 rfl (RVs_cons (RV_tmp rfl) (RVs_cons (RV_tmp rfl) (RVs_cons (RV_tmp rfl) (RVs_cons (RV_tmp rfl) RVs_nil)))) [] rfl ?_
               dsimp only [packed]
               first
                 | exact ⟨(open_not (open_len (by omega))).symm, rfl⟩
                 | exact ⟨(open_not (open_neq (fun h => absurd h (by assumption)))).symm, rfl⟩
                 | exact ⟨(open_not (open_neq (fun h => absurd (congrArg _ h) (by assumption)))).symm, rfl⟩
                 | exact ⟨(open_not (open_zero (by assumption))).symm, rfl⟩
                 | exact ⟨(open_yes (open_ok (by omega) (lits_bytes_inj (by first | assumption | exact Classical.not_not.1 (by assumption))) (by assumption))).symm, rfl⟩
                 | exact ⟨(open_yes (open_ok (by omega) (by first | assumption | exact Classical.not_not.1 (by assumption)) (by assumption))).symm, rfl⟩
             refine G_skip ?_
             refine G_seq ?_
             refine G_draw mixedK (by kernel_rfl) ?_
             refine GQ_val rfl rfl rfl rfl (V_move rfl rfl) ?_
             refine GQ_val rfl rfl rfl rfl (V_asliceL (l := 4) rfl Tryd.underlying169 infSealW_5 rfl rfl rfl rfl (by first | omega | (simp; done) | (simp; omega) | (simp at *; omega)) rfl) ?_
             refine GQ_call rfl rfl rfl rfl rfl rfl Tryd.call100 (seal_number _ _ _ _ _ ((b.take 8).drop 4) (by simp; omega) (drop4 b (by omega))) [0] rfl (fun v post hp => (hp : _ ∧ _).1) ?_
             refine GQ_val rfl rfl rfl rfl (V_move rfl rfl) ?_
             refine GQ_val rfl rfl rfl rfl (V_move rfl rfl) ?_
             first
               | refine GQ_val rfl rfl rfl rfl (V_ssliceN (lo := 8) (hi := _) rfl Tryd.underlying9 rfl rfl rfl rfl rfl (by first | omega | (simp; done) | (simp; omega) | (simp at *; omega)) (by first | omega | (simp; done) | (simp; omega) | (simp at *; omega))) ?_
               | refine GQ_val rfl rfl rfl rfl (V_sslice rfl Tryd.underlying9 rfl rfl rfl (by first | omega | (simp; done) | (simp; omega) | (simp at *; omega)) (by first | omega | (simp; done) | (simp; omega) | (simp at *; omega)) (by first | omega | (simp; done) | (simp; omega) | (simp at *; omega))) ?_
             refine GQ_val rfl rfl rfl rfl (V_assign rfl rfl) ?_
             refine GQ_val rfl rfl rfl rfl (V_assign rfl rfl) ?_
             refine GQ_val rfl rfl rfl rfl (V_assign rfl rfl) ?_
             refine GQ_val rfl rfl rfl rfl (V_assign rfl rfl) ?_
             refine GQ_done rfl ?_
             refine G_ret (post := []) Tryd.func68 rfl (RVs_cons (RV_tmp rfl) (RVs_cons (RV_tmp rfl) (RVs_cons (RV_tmp rfl) (RVs_cons (RV_tmp rfl) RVs_nil)))) [] rfl ?_
             dsimp only [packed]
             first
               | exact ⟨(open_not (open_len (by omega))).symm, rfl⟩
               | exact ⟨(open_not (open_neq (fun h => absurd h (by assumption)))).symm, rfl⟩
               | exact ⟨(open_not (open_neq (fun h => absurd (congrArg _ h) (by assumption)))).symm, rfl⟩
               | exact ⟨(open_not (open_zero (by assumption))).symm, rfl⟩
               | exact ⟨(open_yes (open_ok (by omega) (lits_bytes_inj (by first | assumption | exact Classical.not_not.1 (by assumption))) (by assumption))).symm, rfl⟩
               | exact ⟨(open_yes (open_ok (by omega) (by first | assumption | exact Classical.not_not.1 (by assumption)) (by assumption))).symm, rfl⟩
   · skip
     refine GHop_new rfl rfl rfl rfl (N_allocA rfl infSealW_169 rfl) [] (fun _ => ⟨_, rfl⟩) (fun b7 => ?_)
     refine GH_all [2] (by kernel_rfl) (by decide) ?_
     refine (And.intro ?_ trivial)
     · skip
       refine GHop_call (L2 := [_, _]) rfl rfl rfl rfl rfl rfl Tryd.call99 (seal_of _ (by simp; omega)) [] [] rfl rfl [] (by rintro v post ⟨rfl, rfl⟩; exact ⟨_, rfl⟩) ?_
       rintro v post ⟨rfl, rfl⟩
       show GH _ _ _ _ _ _ _ [_, _] _
       refine GH_all [6] (by kernel_rfl) (by decide) ?_
       refine (And.intro ?_ trivial)
       · skip
         refine GHop_call (L2 := [_, _]) rfl rfl rfl rfl rfl rfl Tryd.call99 (seal_of _ (by simp; omega)) [] [] rfl rfl [] (by rintro v post ⟨rfl, rfl⟩; exact ⟨_, rfl⟩) ?_
         rintro v post ⟨rfl, rfl⟩
         show GH _ _ _ _ _ _ _ [_, _] _
         refine GH_all [9] (by kernel_rfl) (by decide) ?_
         refine (And.intro ?_ trivial)
         · skip
           refine GHop_put (l1 := []) (L' := [_, _]) rfl rfl rfl rfl (P_storeA (s := 8) rfl rfl rfl (mem_at 0 rfl) (by first | rfl | (simp [bcells_length]; done) | (simp [bcells_length]; omega) | (simp [bcells_length, *]; done)) infSealW_169 rfl (by first | rfl | (simp [bcells_length]; done) | (simp [bcells_length]; omega) | (simp [bcells_length, *]; done)) (by first | rfl | exact bcells_all _ | (simp [Value.oneCell']; done) | (simp [Value.oneCell', *]; done))) rfl [] rfl ?_
           refine GH_all [10] (by kernel_rfl) (by decide) ?_
           refine (And.intro ?_ trivial)
           · skip
             refine GHop_put (l1 := [_]) (L' := [_, _]) rfl rfl rfl rfl (P_storeA (s := 8) rfl rfl rfl (mem_at 1 rfl) (by first | rfl | (simp [bcells_length]; done) | (simp [bcells_length]; omega) | (simp [bcells_length, *]; done)) infSealW_169 rfl (by first | rfl | (simp [bcells_length]; done) | (simp [bcells_length]; omega) | (simp [bcells_length, *]; done)) (by first | rfl | exact bcells_all _ | (simp [Value.oneCell']; done) | (simp [Value.oneCell', *]; done))) rfl [] rfl ?_
             refine GH_done (by kernel_rfl) ?_
             refine G_seq ?_
             refine G_region (l := [0, 1, 2]) rfl ?_
             refine G_val rfl rfl rfl rfl (V_asliceH (h := 4) rfl Tryd.underlying169 infSealW_5 rfl rfl rfl (by first | omega | (simp; done) | (simp; omega) | (simp at *; omega))) ?_
             refine G_call (L2 := [_, _]) rfl rfl rfl rfl rfl rfl Tryd.call100 (seal_number _ _ _ _ _ (b.take 4) (by simp; omega) (take4 b)) [] [0] rfl rfl ?_
             rintro v post ⟨rfl, rfl⟩
             show G _ _ _ [_, _] _
             refine G_val rfl rfl rfl rfl (V_assign rfl rfl) ?_
             refine G_done ?_
             refine G_seq ?_
             refine G_seq ?_
             refine G_region (l := [0, 1, 2, 3, 4, 5, 6]) rfl ?_
             first
               | refine G_val rfl rfl rfl rfl (V_loadW (s := 8) rfl rfl (mem_at 0 rfl) Tryd.underlying169 rfl infSealW_169 rfl (by first | rfl | (simp [bcells_length]; done) | (simp [bcells_length]; omega) | (simp [bcells_length, *]; done))) ?_
               | refine G_val rfl rfl rfl rfl (V_loadA (s := 8) rfl rfl (mem_at 0 rfl) Tryd.underlying169 rfl infSealW_169 rfl rfl (by first | rfl | (simp [bcells_length]; done) | (simp [bcells_length]; omega) | (simp [bcells_length, *]; done))) ?_
             first
               | refine G_val rfl rfl rfl rfl (V_loadW (s := 8) rfl rfl (mem_at 1 rfl) Tryd.underlying169 rfl infSealW_169 rfl (by first | rfl | (simp [bcells_length]; done) | (simp [bcells_length]; omega) | (simp [bcells_length, *]; done))) ?_
               | refine G_val rfl rfl rfl rfl (V_loadA (s := 8) rfl rfl (mem_at 1 rfl) Tryd.underlying169 rfl infSealW_169 rfl rfl (by first | rfl | (simp [bcells_length]; done) | (simp [bcells_length]; omega) | (simp [bcells_length, *]; done))) ?_
             refine G_val rfl rfl rfl rfl (V_aggneq (m := 6) rfl Tryd.eqGuardType169 (by kernel_rfl) (by decide) (formed_of Tryd.underlying169 rfl (by kernel_rfl : Tryd.prog.cellsOf 169 = 8) (by first | rfl | (simp [bcells_length]; done) | (simp [bcells_length]; omega) | (simp [bcells_length, *]; done))) (formed_of Tryd.underlying169 rfl (by kernel_rfl : Tryd.prog.cellsOf 169 = 8) (by first | rfl | (simp [bcells_length]; done) | (simp [bcells_length]; omega) | (simp [bcells_length, *]; done))) rfl rfl (key8 _ (by simp; omega)) (key8 _ (by simp; omega))) ?_
             refine G_val rfl rfl rfl rfl (V_move rfl rfl) ?_
             refine G_splitD 25 rfl (fun hc2 => ?_) (fun hc2 => ?_)
             · skip
               refine G_off rfl rfl rfl rfl ?_
               refine G_off rfl rfl rfl rfl ?_
               refine G_val rfl rfl rfl rfl (V_pickT rfl rfl rfl) ?_
               refine G_done ?_
               refine G_then rfl ?_
               refine G_seq ?_
               refine G_region (l := [0, 1, 2, 3]) rfl ?_
               refine G_val rfl rfl rfl rfl (V_assign rfl rfl) ?_
               refine G_val rfl rfl rfl rfl (V_assign rfl rfl) ?_
               refine G_val rfl rfl rfl rfl (V_assign rfl rfl) ?_
               refine G_val rfl rfl rfl rfl (V_assign rfl rfl) ?_
               refine G_done ?_
               refine G_ret (post := []) Tryd.func68 rfl (RVs_cons (RV_tmp rfl) (RVs_cons (RV_tmp rfl) (RVs_cons (RV_tmp rfl) (RVs_cons (RV_tmp rfl) RVs_nil)))) [] rfl ?_
               dsimp only [packed]
               first
                 | exact ⟨(open_not (open_len (by omega))).symm, rfl⟩
                 | exact ⟨(open_not (open_neq (fun h => absurd h (by assumption)))).symm, rfl⟩
                 | exact ⟨(open_not (open_neq (fun h => absurd (congrArg _ h) (by assumption)))).symm, rfl⟩
                 | exact ⟨(open_not (open_zero (by assumption))).symm, rfl⟩
                 | exact ⟨(open_yes (open_ok (by omega) (lits_bytes_inj (by first | assumption | exact Classical.not_not.1 (by assumption))) (by assumption))).symm, rfl⟩
                 | exact ⟨(open_yes (open_ok (by omega) (by first | assumption | exact Classical.not_not.1 (by assumption)) (by assumption))).symm, rfl⟩
             refine G_val rfl rfl rfl rfl (V_move rfl rfl) ?_
             refine G_val rfl rfl rfl rfl (V_eql rfl rfl rfl) ?_
             refine G_val rfl rfl rfl rfl (V_pickF rfl rfl rfl) ?_
             refine G_done ?_
             refine G_ifD rfl (fun hc3 => ?_) (fun hc3 => ?_)
             · skip
               refine G_seq ?_
               refine G_region (l := [0, 1, 2, 3]) rfl ?_
               refine G_val rfl rfl rfl rfl (V_assign rfl rfl) ?_
               refine G_val rfl rfl rfl rfl (V_assign rfl rfl) ?_
               refine G_val rfl rfl rfl rfl (V_assign rfl rfl) ?_
               refine G_val rfl rfl rfl rfl (V_assign rfl rfl) ?_
               refine G_done ?_
               refine G_ret (post := []) Tryd.func68 rfl (RVs_cons (RV_tmp rfl) (RVs_cons (RV_tmp rfl) (RVs_cons (RV_tmp rfl) (RVs_cons (RV_tmp rfl) RVs_nil)))) [] rfl ?_
               dsimp only [packed]
               first
                 | exact ⟨(open_not (open_len (by omega))).symm, rfl⟩
                 | exact ⟨(open_not (open_neq (fun h => absurd h (by assumption)))).symm, rfl⟩
                 | exact ⟨(open_not (open_neq (fun h => absurd (congrArg _ h) (by assumption)))).symm, rfl⟩
                 | exact ⟨(open_not (open_zero (by assumption))).symm, rfl⟩
                 | exact ⟨(open_yes (open_ok (by omega) (lits_bytes_inj (by first | assumption | exact Classical.not_not.1 (by assumption))) (by assumption))).symm, rfl⟩
                 | exact ⟨(open_yes (open_ok (by omega) (by first | assumption | exact Classical.not_not.1 (by assumption)) (by assumption))).symm, rfl⟩
             refine G_skip ?_
             refine G_seq ?_
             refine G_draw mixedK (by kernel_rfl) ?_
             refine GQ_val rfl rfl rfl rfl (V_move rfl rfl) ?_
             refine GQ_val rfl rfl rfl rfl (V_asliceL (l := 4) rfl Tryd.underlying169 infSealW_5 rfl rfl rfl rfl (by first | omega | (simp; done) | (simp; omega) | (simp at *; omega)) rfl) ?_
             refine GQ_call rfl rfl rfl rfl rfl rfl Tryd.call100 (seal_number _ _ _ _ _ ((b.take 8).drop 4) (by simp; omega) (drop4 b (by omega))) [0] rfl (fun v post hp => (hp : _ ∧ _).1) ?_
             refine GQ_val rfl rfl rfl rfl (V_move rfl rfl) ?_
             refine GQ_val rfl rfl rfl rfl (V_move rfl rfl) ?_
             first
               | refine GQ_val rfl rfl rfl rfl (V_ssliceN (lo := 8) (hi := _) rfl Tryd.underlying9 rfl rfl rfl rfl rfl (by first | omega | (simp; done) | (simp; omega) | (simp at *; omega)) (by first | omega | (simp; done) | (simp; omega) | (simp at *; omega))) ?_
               | refine GQ_val rfl rfl rfl rfl (V_sslice rfl Tryd.underlying9 rfl rfl rfl (by first | omega | (simp; done) | (simp; omega) | (simp at *; omega)) (by first | omega | (simp; done) | (simp; omega) | (simp at *; omega)) (by first | omega | (simp; done) | (simp; omega) | (simp at *; omega))) ?_
             refine GQ_val rfl rfl rfl rfl (V_assign rfl rfl) ?_
             refine GQ_val rfl rfl rfl rfl (V_assign rfl rfl) ?_
             refine GQ_val rfl rfl rfl rfl (V_assign rfl rfl) ?_
             refine GQ_val rfl rfl rfl rfl (V_assign rfl rfl) ?_
             refine GQ_done rfl ?_
             refine G_ret (post := []) Tryd.func68 rfl (RVs_cons (RV_tmp rfl) (RVs_cons (RV_tmp rfl) (RVs_cons (RV_tmp rfl) (RVs_cons (RV_tmp rfl) RVs_nil)))) [] rfl ?_
             dsimp only [packed]
             first
               | exact ⟨(open_not (open_len (by omega))).symm, rfl⟩
               | exact ⟨(open_not (open_neq (fun h => absurd h (by assumption)))).symm, rfl⟩
               | exact ⟨(open_not (open_neq (fun h => absurd (congrArg _ h) (by assumption)))).symm, rfl⟩
               | exact ⟨(open_not (open_zero (by assumption))).symm, rfl⟩
               | exact ⟨(open_yes (open_ok (by omega) (lits_bytes_inj (by first | assumption | exact Classical.not_not.1 (by assumption))) (by assumption))).symm, rfl⟩
               | exact ⟨(open_yes (open_ok (by omega) (by first | assumption | exact Classical.not_not.1 (by assumption)) (by assumption))).symm, rfl⟩

set_option maxRecDepth 100000 in
set_option maxHeartbeats 1000000 in
theorem rseal_open (b : List UInt8) (hb : b.length ≤ 9223372036854775807) :
    Ct Tryd.prog 71 [.string (bs b)] [] [] fun v post => v = openA b ∧ post = [] := by
 have hn1 := num4_lt (b.take 4) (by simp; omega)
 have hn2 := num4_lt ((b.take 8).drop 4) (by simp; omega)
 refine ct_of Tryd.func71 rfl rfl (fun w0 => ?_)
 show G _ _ [(0, _)] _ _
 refine G_seq ?_
 refine G_region (l := [0]) rfl ?_
 refine G_new rfl rfl rfl rfl (N_allocA rfl infSealW_128 rfl) (fun b2 => ?_)
 refine G_done ?_
 refine G_seq ?_
 refine G_seq ?_
 refine G_draw mixedK (by kernel_rfl) ?_
 refine GQ_val rfl rfl rfl rfl (V_move rfl rfl) ?_
 refine GQ_val rfl rfl rfl rfl (V_slen rfl rfl Tryd.underlying9 rfl) ?_
 refine GQ_val rfl rfl rfl rfl (V_neq rfl rfl rfl) ?_
 refine GQ_val rfl rfl rfl rfl (V_move rfl rfl) ?_
 refine GQ_splitD 10 rfl (fun hc1 => ?_) (fun hc1 => ?_)
 · skip
   refine GQ_off rfl rfl rfl rfl ?_
   refine GQ_off rfl rfl rfl rfl ?_
   refine GQ_off rfl rfl rfl rfl ?_
   refine GQ_off rfl rfl rfl rfl ?_
   refine GQ_off rfl rfl rfl rfl ?_
   refine GQ_val rfl rfl rfl rfl (V_pickT rfl rfl rfl) ?_
   refine GQ_done rfl ?_
   refine G_then rfl ?_
   refine G_seq ?_
   refine G_region (l := [0, 1]) rfl ?_
   refine G_val rfl rfl rfl rfl (V_buildS (cs := [_, _, _, _]) rfl Tryd.underlying128 infSealW_128 rfl plcSealW_128 rfl rfl rfl) ?_
   refine G_put (l1 := []) (L' := [_]) rfl rfl rfl rfl (P_storeA (s := 4) rfl rfl rfl (mem_at 0 rfl) (by first | rfl | (simp [bcells_length]; done) | (simp [bcells_length]; omega) | (simp [bcells_length, *]; done)) infSealW_128 rfl (by first | rfl | (simp [bcells_length]; done) | (simp [bcells_length]; omega) | (simp [bcells_length, *]; done)) (by first | rfl | exact bcells_all _ | (simp [Value.oneCell']; done) | (simp [Value.oneCell', *]; done))) rfl ?_
   refine G_done ?_
   refine G_ret (post := []) Tryd.func71 rfl (RVs_cons (RV_cell (s := 4) rfl (mem_at 0 rfl) Tryd.underlying128 rfl infSealW_128 rfl (by first | rfl | (simp [bcells_length]; done) | (simp [bcells_length]; omega) | (simp [bcells_length, *]; done))) RVs_nil) [] rfl ?_
   dsimp only [packed]
   first
     | exact ⟨(openA_not (open_len (by omega))).symm, rfl⟩
     | exact ⟨(openA_not (open_neq (by assumption))).symm, rfl⟩
     | exact ⟨(openA_not (open_zero (by assumption))).symm, rfl⟩
     | exact ⟨(openA_yes (open_ok (by omega) (Classical.not_not.1 (by assumption)) (by assumption))).symm, rfl⟩
 refine GQ_val rfl rfl rfl rfl (V_move rfl rfl) ?_
 first
   | refine GQ_val rfl rfl rfl rfl (V_ssliceHN (hi := 8) rfl Tryd.underlying9 rfl rfl rfl (by first | omega | (simp; done) | (simp; omega) | (simp at *; omega))) ?_
   | refine GQ_val rfl rfl rfl rfl (V_ssliceH rfl Tryd.underlying9 rfl rfl (by first | omega | (simp; done) | (simp; omega) | (simp at *; omega)) (by first | omega | (simp; done) | (simp; omega) | (simp at *; omega))) ?_
 refine GQ_val rfl rfl rfl rfl (V_move rfl rfl) ?_
 first
   | refine GQ_val rfl rfl rfl rfl (V_ssliceLN (lo := 56) rfl Tryd.underlying9 rfl rfl rfl (by first | omega | (simp; done) | (simp; omega) | (simp at *; omega))) ?_
   | refine GQ_val rfl rfl rfl rfl (V_ssliceL rfl Tryd.underlying9 rfl rfl (by first | omega | (simp; done) | (simp; omega) | (simp at *; omega)) (by first | omega | (simp; done) | (simp; omega) | (simp at *; omega))) ?_
 refine GQ_val rfl rfl rfl rfl (V_sneq rfl rfl rfl) ?_
 refine GQ_val rfl rfl rfl rfl (V_pickF rfl rfl rfl) ?_
 refine GQ_done rfl ?_
 refine G_ifD rfl (fun hc2 => ?_) (fun hc2 => ?_)
 · skip
   refine G_seq ?_
   refine G_region (l := [0, 1]) rfl ?_
   refine G_val rfl rfl rfl rfl (V_buildS (cs := [_, _, _, _]) rfl Tryd.underlying128 infSealW_128 rfl plcSealW_128 rfl rfl rfl) ?_
   refine G_put (l1 := []) (L' := [_]) rfl rfl rfl rfl (P_storeA (s := 4) rfl rfl rfl (mem_at 0 rfl) (by first | rfl | (simp [bcells_length]; done) | (simp [bcells_length]; omega) | (simp [bcells_length, *]; done)) infSealW_128 rfl (by first | rfl | (simp [bcells_length]; done) | (simp [bcells_length]; omega) | (simp [bcells_length, *]; done)) (by first | rfl | exact bcells_all _ | (simp [Value.oneCell']; done) | (simp [Value.oneCell', *]; done))) rfl ?_
   refine G_done ?_
   refine G_ret (post := []) Tryd.func71 rfl (RVs_cons (RV_cell (s := 4) rfl (mem_at 0 rfl) Tryd.underlying128 rfl infSealW_128 rfl (by first | rfl | (simp [bcells_length]; done) | (simp [bcells_length]; omega) | (simp [bcells_length, *]; done))) RVs_nil) [] rfl ?_
   dsimp only [packed]
   first
     | exact ⟨(openA_not (open_len (by omega))).symm, rfl⟩
     | exact ⟨(openA_not (open_neq (by assumption))).symm, rfl⟩
     | exact ⟨(openA_not (open_zero (by assumption))).symm, rfl⟩
     | exact ⟨(openA_yes (open_ok (by omega) (Classical.not_not.1 (by assumption)) (by assumption))).symm, rfl⟩
 refine G_skip ?_
 refine G_seq ?_
 refine G_region (l := [0, 1, 2, 3, 4, 5, 6, 7]) rfl ?_
 refine G_val rfl rfl rfl rfl (V_move rfl rfl) ?_
 first
   | refine G_val rfl rfl rfl rfl (V_ssliceHN (hi := 4) rfl Tryd.underlying9 rfl rfl rfl (by first | omega | (simp; done) | (simp; omega) | (simp at *; omega))) ?_
   | refine G_val rfl rfl rfl rfl (V_ssliceH rfl Tryd.underlying9 rfl rfl (by first | omega | (simp; done) | (simp; omega) | (simp at *; omega)) (by first | omega | (simp; done) | (simp; omega) | (simp at *; omega))) ?_
 refine G_call (L2 := [_]) rfl rfl rfl rfl rfl rfl Tryd.call102 (ct_rnumber4 _ (by first | omega | (simp; done) | (simp; omega) | (simp at *; omega))) [] [] rfl rfl ?_
 rintro v post ⟨rfl, rfl⟩
 show G _ _ _ [_] _
 refine G_val rfl rfl rfl rfl (V_move rfl rfl) ?_
 refine G_val rfl rfl rfl rfl (V_extract rfl rfl rfl) ?_
 refine G_val rfl rfl rfl rfl (V_extract rfl rfl rfl) ?_
 refine G_val rfl rfl rfl rfl (V_assign rfl rfl) ?_
 refine G_val rfl rfl rfl rfl (V_assign rfl rfl) ?_
 refine G_done ?_
 refine G_seq ?_
 refine G_region (l := [0, 1, 2, 3, 4, 5, 6, 7]) rfl ?_
 refine G_val rfl rfl rfl rfl (V_move rfl rfl) ?_
 first
   | refine G_val rfl rfl rfl rfl (V_ssliceN (lo := 4) (hi := 8) rfl Tryd.underlying9 rfl rfl rfl rfl rfl (by first | omega | (simp; done) | (simp; omega) | (simp at *; omega)) (by first | omega | (simp; done) | (simp; omega) | (simp at *; omega))) ?_
   | refine G_val rfl rfl rfl rfl (V_sslice rfl Tryd.underlying9 rfl rfl rfl (by first | omega | (simp; done) | (simp; omega) | (simp at *; omega)) (by first | omega | (simp; done) | (simp; omega) | (simp at *; omega)) (by first | omega | (simp; done) | (simp; omega) | (simp at *; omega))) ?_
 refine G_call (L2 := [_]) rfl rfl rfl rfl rfl rfl Tryd.call102 (ct_rnumber4 _ (by first | omega | (simp; done) | (simp; omega) | (simp at *; omega))) [] [] rfl rfl ?_
 rintro v post ⟨rfl, rfl⟩
 show G _ _ _ [_] _
 refine G_val rfl rfl rfl rfl (V_move rfl rfl) ?_
 refine G_val rfl rfl rfl rfl (V_extract rfl rfl rfl) ?_
 refine G_val rfl rfl rfl rfl (V_extract rfl rfl rfl) ?_
 refine G_val rfl rfl rfl rfl (V_assign rfl rfl) ?_
 refine G_val rfl rfl rfl rfl (V_assign rfl rfl) ?_
 refine G_done ?_
 refine G_seq ?_
 refine G_seq ?_
 refine G_region (l := [0, 1]) rfl ?_
 refine G_val rfl rfl rfl rfl (V_move rfl rfl) ?_
 refine G_val rfl rfl rfl rfl (V_eql rfl rfl rfl) ?_
 refine G_done ?_
 refine G_ifD rfl (fun hc3 => ?_) (fun hc3 => ?_)
 · skip
   refine G_seq ?_
   refine G_region (l := [0, 1]) rfl ?_
   refine G_val rfl rfl rfl rfl (V_buildS (cs := [_, _, _, _]) rfl Tryd.underlying128 infSealW_128 rfl plcSealW_128 rfl rfl rfl) ?_
   refine G_put (l1 := []) (L' := [_]) rfl rfl rfl rfl (P_storeA (s := 4) rfl rfl rfl (mem_at 0 rfl) (by first | rfl | (simp [bcells_length]; done) | (simp [bcells_length]; omega) | (simp [bcells_length, *]; done)) infSealW_128 rfl (by first | rfl | (simp [bcells_length]; done) | (simp [bcells_length]; omega) | (simp [bcells_length, *]; done)) (by first | rfl | exact bcells_all _ | (simp [Value.oneCell']; done) | (simp [Value.oneCell', *]; done))) rfl ?_
   refine G_done ?_
   refine G_ret (post := []) Tryd.func71 rfl (RVs_cons (RV_cell (s := 4) rfl (mem_at 0 rfl) Tryd.underlying128 rfl infSealW_128 rfl (by first | rfl | (simp [bcells_length]; done) | (simp [bcells_length]; omega) | (simp [bcells_length, *]; done))) RVs_nil) [] rfl ?_
   dsimp only [packed]
   first
     | exact ⟨(openA_not (open_len (by omega))).symm, rfl⟩
     | exact ⟨(openA_not (open_neq (by assumption))).symm, rfl⟩
     | exact ⟨(openA_not (open_zero (by assumption))).symm, rfl⟩
     | exact ⟨(openA_yes (open_ok (by omega) (Classical.not_not.1 (by assumption)) (by assumption))).symm, rfl⟩
 refine G_skip ?_
 refine G_seq ?_
 refine G_region (l := [0, 1, 2, 3, 4, 5, 6, 7]) rfl ?_
 refine G_val rfl rfl rfl rfl (V_move rfl rfl) ?_
 first
   | refine G_val rfl rfl rfl rfl ((V_conv rfl rfl Tryd.underlying103 Tryd.underlying22).int (wrap_u32 (by omega))) ?_
   | refine G_val rfl rfl rfl rfl (V_conv rfl rfl Tryd.underlying103 Tryd.underlying22) ?_
 refine G_val rfl rfl rfl rfl (V_move rfl rfl) ?_
 first
   | refine G_val rfl rfl rfl rfl ((V_conv rfl rfl Tryd.underlying103 Tryd.underlying22).int (wrap_u32 (by omega))) ?_
   | refine G_val rfl rfl rfl rfl (V_conv rfl rfl Tryd.underlying103 Tryd.underlying22) ?_
 refine G_val rfl rfl rfl rfl (V_move rfl rfl) ?_
 first
   | refine G_val rfl rfl rfl rfl (V_ssliceN (lo := 8) (hi := 56) rfl Tryd.underlying9 rfl rfl rfl rfl rfl (by first | omega | (simp; done) | (simp; omega) | (simp at *; omega)) (by first | omega | (simp; done) | (simp; omega) | (simp at *; omega))) ?_
   | refine G_val rfl rfl rfl rfl (V_sslice rfl Tryd.underlying9 rfl rfl rfl (by first | omega | (simp; done) | (simp; omega) | (simp at *; omega)) (by first | omega | (simp; done) | (simp; omega) | (simp at *; omega)) (by first | omega | (simp; done) | (simp; omega) | (simp at *; omega))) ?_
 refine G_val rfl rfl rfl rfl (V_buildS (cs := [_, _, _, _]) rfl Tryd.underlying128 infSealW_128 rfl plcSealW_128 rfl rfl rfl) ?_
 refine G_put (l1 := []) (L' := [_]) rfl rfl rfl rfl (P_storeA (s := 4) rfl rfl rfl (mem_at 0 rfl) (by first | rfl | (simp [bcells_length]; done) | (simp [bcells_length]; omega) | (simp [bcells_length, *]; done)) infSealW_128 rfl (by first | rfl | (simp [bcells_length]; done) | (simp [bcells_length]; omega) | (simp [bcells_length, *]; done)) (by first | rfl | exact bcells_all _ | (simp [Value.oneCell']; done) | (simp [Value.oneCell', *]; done))) rfl ?_
 refine G_done ?_
 refine G_ret (post := []) Tryd.func71 rfl (RVs_cons (RV_cell (s := 4) rfl (mem_at 0 rfl) Tryd.underlying128 rfl infSealW_128 rfl (by first | rfl | (simp [bcells_length]; done) | (simp [bcells_length]; omega) | (simp [bcells_length, *]; done))) RVs_nil) [] rfl ?_
 dsimp only [packed]
 first
   | exact ⟨(openA_not (open_len (by omega))).symm, rfl⟩
   | exact ⟨(openA_not (open_neq (by assumption))).symm, rfl⟩
   | exact ⟨(openA_not (open_zero (by assumption))).symm, rfl⟩
   | exact ⟨(openA_yes (open_ok (by omega) (Classical.not_not.1 (by assumption)) (by assumption))).symm, rfl⟩

end
end Go.Proofs.YtbblkgdejgoncaaDoor

/- Sealed blocks, in plain lists: what opens is a sealed block, and the other way round. -/
set_option linter.unusedSimpArgs false
set_option linter.unusedVariables false
namespace Go.Proofs.YtbblkgdejgoncaaDoor
open Go Go.RowKit

section



theorem openD_len (s : List UInt8) : (openD s).length ≤ s.length := by
  unfold openD
  split
  · simp; omega
  · simp
theorem be4_num (l : List UInt8) (h : l.length = 4) : be 4 (num l) = l := by
  have := be_num l
  rwa [h] at this
theorem sealL_open {s : List UInt8} (h : openOk s = true) : sealL (openE s) (openI s) (openD s) = s := by
  have h' := h
  unfold openOk at h'
  have h' : s.length = 64 ∧ s.take 8 = s.drop 56 ∧ num (s.take 4) ≠ 0 := by simpa using h'
  obtain ⟨h1, h2, h3⟩ := h'
  unfold openE openI openD
  simp only [h, if_true]
  unfold sealL
  have hd : ((s.take 56).drop 8).length = 48 := by simp; omega
  rw [if_neg (by simp only [hd]; omega), be4_num _ (by simp; omega), be4_num _ (by simp; omega)]
  have e1 : s.take 4 ++ (s.take 8).drop 4 = s.take 8 := by
    have : s.take 4 = (s.take 8).take 4 := by rw [List.take_take]; rfl
    rw [this, List.take_append_drop]
  rw [List.append_assoc _ (s.take 4), e1]
  have e2 : s.take 8 = (s.take 56).take 8 := by rw [List.take_take]; rfl
  rw [List.append_assoc (s.take 8)]
  conv => lhs; arg 2; arg 2; rw [h2]
  conv => lhs; arg 1; rw [e2]
  rw [← List.append_assoc, List.take_append_drop, List.take_append_drop]
theorem sealE_open {s : List UInt8} (h : openOk s = true) : sealE (openE s) (openD s) = 0 := by
  have h' := h
  unfold openOk at h'
  have h' : s.length = 64 ∧ s.take 8 = s.drop 56 ∧ num (s.take 4) ≠ 0 := by simpa using h'
  obtain ⟨h1, h2, h3⟩ := h'
  unfold openE openD
  simp only [h, if_true]
  unfold sealE
  have hd : ((s.take 56).drop 8).length = 48 := by simp; omega
  rw [if_neg (by simp only [hd]; omega)]
theorem sealE_cases (e : Nat) (d : List UInt8) : sealE e d = 0 ↔ ¬ (e = 0 ∨ d.length ≠ 48) := by
  unfold sealE; split <;> simp_all
theorem sealL_length {e i : Nat} {d : List UInt8} (h : sealE e d = 0) : (sealL e i d).length = 64 := by
  rw [sealE_cases] at h
  unfold sealL
  rw [if_neg h]
  simp [be_length]
  omega
theorem sealL_parts {e i : Nat} {d : List UInt8} (h : sealE e d = 0) : (sealL e i d).take 4 = be 4 e ∧ ((sealL e i d).take 8).drop 4 = be 4 i ∧ ((sealL e i d).take 56).drop 8 = d ∧ (sealL e i d).take 8 = (sealL e i d).drop 56 := by
  rw [sealE_cases] at h
  have hd : d.length = 48 := by omega
  unfold sealL
  rw [if_neg h]
  have h4 := be_length 4 e
  have h5 := be_length 4 i
  have h8 : (be 4 e ++ be 4 i).length = 8 := by simp [h4, h5]
  have h56 : (be 4 e ++ be 4 i ++ d).length = 56 := by simp [h4, h5, hd]
  have t8 : (be 4 e ++ be 4 i ++ d ++ be 4 e ++ be 4 i).take 8 = be 4 e ++ be 4 i := by
    rw [List.append_assoc, List.append_assoc, List.append_assoc, ← List.append_assoc (be 4 e)]
    rw [List.take_append_of_le_length (by omega), List.take_of_length_le (by omega)]
  have t4 : (be 4 e ++ be 4 i).take 4 = be 4 e := by rw [List.take_append_of_le_length (by omega), List.take_of_length_le (by omega)]
  refine ⟨?_, ?_, ?_, ?_⟩
  · have : (be 4 e ++ be 4 i ++ d ++ be 4 e ++ be 4 i).take 4 = ((be 4 e ++ be 4 i ++ d ++ be 4 e ++ be 4 i).take 8).take 4 := by rw [List.take_take]; rfl
    rw [this, t8, t4]
  · rw [t8]; exact List.drop_left' h4
  · rw [List.append_assoc (be 4 e ++ be 4 i ++ d), List.take_left' h56]
    exact List.drop_left' h8
  · rw [t8, List.append_assoc (be 4 e ++ be 4 i ++ d), List.drop_left' h56]
theorem openOk_seal {e i : Nat} {d : List UInt8} (he : e < 4294967296) (h : sealE e d = 0) : openOk (sealL e i d) = true := by
  obtain ⟨h1, h2, h3, h4⟩ := sealL_parts (i := i) h
  have hl := sealL_length (i := i) h
  rw [sealE_cases] at h
  unfold openOk
  rw [if_pos]
  refine ⟨hl, h4, ?_⟩
  rw [h1, num_be 4 e (by omega)]
  omega
theorem open_seal {e i : Nat} {d : List UInt8} (he : e < 4294967296) (hi : i < 4294967296) (h : sealE e d = 0) : openE (sealL e i d) = e ∧ openI (sealL e i d) = i ∧ openD (sealL e i d) = d := by
  obtain ⟨h1, h2, h3, h4⟩ := sealL_parts (i := i) h
  have ho := openOk_seal (i := i) he h
  unfold openE openI openD
  simp only [ho, if_true]
  rw [h1, h2, h3, num_be 4 e (by omega), num_be 4 i (by omega)]
  exact ⟨rfl, rfl, rfl⟩
theorem sealL_le (e i : Nat) (d : List UInt8) : (sealL e i d).length ≤ d.length + 16 := by
  unfold sealL
  split
  · simp
  · simp [be_length]
    omega
theorem openOk_not {e i : Nat} {d : List UInt8} (h : ¬ sealE e d = 0) : openOk (sealL e i d) = false := by
  rw [sealE_cases] at h
  have h' : e = 0 ∨ d.length ≠ 48 := Classical.not_not.1 h
  unfold sealL
  rw [if_pos h']
  rfl

end
end Go.Proofs.YtbblkgdejgoncaaDoor

/- Disks, in plain lists: writes one behind the other; what is read; what a crash leaves of blocks that are sealed. -/
set_option linter.unusedSimpArgs false
set_option linter.unusedVariables false
namespace Go.Proofs.YtbblkgdejgoncaaDoor
open Go Go.RowKit

section



theorem set_getD {L : List (List UInt8)} {i j : Nat} {s : List UInt8} (hj : j < L.length) : (L.set i s).getD j [] = if i = j then s else L.getD j [] := by
  rw [List.getD_eq_getElem?_getD, List.getElem?_set, List.getD_eq_getElem?_getD]
  by_cases h : i = j
  · subst h; simp [hj]
  · simp [h]
theorem applyW_get (j : Nat) : ∀ (W : List (Int × List UInt8)) (L : List (List UInt8)), j < L.length → (∀ x ∈ W, 0 ≤ x.1) → (applyW L W).getD j [] = lastW (L.getD j []) (j : Int) W
  | [], L, _, _ => rfl
  | x :: W, L, hj, hW => by
    have ih := applyW_get j W (L.set x.1.toNat x.2) (by simpa using hj) (fun y hy => hW y (by simp [hy]))
    have hx := hW x (by simp)
    show (applyW (L.set x.1.toNat x.2) W).getD j [] = lastW (if x.1 = (j : Int) then x.2 else L.getD j []) (j : Int) W
    rw [ih, set_getD hj]
    congr 1
    by_cases e : x.1.toNat = j
    · rw [if_pos e, if_pos (by omega)]
    · rw [if_neg e, if_neg (by omega)]
theorem applyW_app (L : List (List UInt8)) (W V : List (Int × List UInt8)) : applyW L (W ++ V) = applyW (applyW L W) V := by
  unfold applyW; rw [List.foldl_append]
/-- A disk whose power stays. -/
structure Lively (k : Dk) : Prop where
  dead : k.dead = false
  fuse : k.fuse = -1
theorem lively_spent {k : Dk} (h : Lively k) : spD k.fuse k.dead = false ∧ Lively k.spent := by
  have h1 := h.dead
  have h2 := h.fuse
  refine ⟨by rw [h1, h2]; rfl, ?_, ?_⟩
  · show spD _ _ = false; rw [h1, h2]; rfl
  · show spF _ _ = -1; rw [h1, h2]; rfl
theorem newD_lively (n : Nat) : Lively (newD n) := ⟨rfl, rfl⟩
theorem crash_lively (k : Dk) (ks : List (Int × Int)) : Lively (k.crash ks) := ⟨rfl, rfl⟩
theorem sync_lively {k : Dk} (h : Lively k) : k.syncE = 0 ∧ k.sync.L = applyW k.L k.W ∧ k.sync.W = [] ∧ Lively k.sync := by
  obtain ⟨s1, s2⟩ := lively_spent h
  obtain ⟨e1, e2⟩ := sync_live s1
  rw [e1]
  exact ⟨e2, rfl, rfl, ⟨s2.dead, s2.fuse⟩⟩
theorem write_lively {k : Dk} (h : Lively k) {a : Int} {s : List UInt8} (ha : 0 ≤ a ∧ a < (k.L.length : Int)) (hs : s.length = 64) : k.writeE a s = 0 ∧ (k.write a s).L = k.L ∧ (k.write a s).W = k.W ++ [(a, s)] ∧ Lively (k.write a s) := by
  obtain ⟨s1, s2⟩ := lively_spent h
  obtain ⟨e1, e2⟩ := write_live (hasE_ok.2 ha) hs s1
  rw [e1]
  exact ⟨e2, rfl, rfl, ⟨s2.dead, s2.fuse⟩⟩
/-- What is read of all blocks. -/
def view (k : Dk) : List (List UInt8) := applyW k.L k.W
theorem view_len (k : Dk) : (view k).length = k.L.length := applyW_len _ _
theorem view_64 {k : Dk} (h : DkOk k) : ∀ s ∈ view k, s.length = 64 := applyW_64 _ _ h.l64 h.w64
theorem read_view {k : Dk} (h : DkOk k) (hd : k.dead = false) {i : Nat} (hi : i < k.L.length) : k.readS (i : Int) = (view k).getD i [] ∧ k.readE (i : Int) = 0 := by
  obtain ⟨e1, e2⟩ := read_yes (k := k) (a := (i : Int)) (hasE_ok.2 (by omega)) (by rw [hd]; exact Bool.false_ne_true)
  refine ⟨?_, e1⟩
  rw [e2, Int.toNat_natCast]
  exact (applyW_get i k.W k.L hi (fun x hx => (h.wat x hx).1)).symm
theorem view_nil {k : Dk} (h : k.W = []) : view k = k.L := by unfold view; rw [h]; rfl

theorem lastW_len {a : Int} : ∀ (W : List (Int × List UInt8)) (s : List UInt8), s.length ≤ 64 → (∀ x ∈ W, x.2.length = 64) → (lastW s a W).length ≤ 64
  | [], s, h, _ => h
  | x :: W, s, h, hW => by
    show (lastW (if x.1 = a then x.2 else s) a W).length ≤ 64
    refine lastW_len W _ ?_ (fun y hy => hW y (by simp [hy]))
    split
    · have := hW x (by simp); omega
    · exact h
theorem readS_len {k : Dk} (h : DkOk k) (a : Int) : (k.readS a).length ≤ 64 := by
  unfold Dk.readS
  split
  · simp
  · rename_i hn
    refine lastW_len _ _ ?_ h.w64
    rcases Nat.lt_or_ge a.toNat k.L.length with hl | hl
    · rw [getD64 h.l64 hl]; exact Nat.le_refl _
    · rw [List.getD_eq_getElem?_getD, List.getElem?_eq_none hl]; simp
/-- Blocks, one behind the other, each with its place. -/
def places (a : Int) : List (List UInt8) → List (Int × List UInt8)
  | [] => []
  | b :: r => (a, b) :: places (a + 1) r
theorem places_len : ∀ (bl : List (List UInt8)) (a : Int), (places a bl).length = bl.length
  | [], _ => rfl
  | b :: r, a => by rw [places, List.length_cons, places_len r, List.length_cons]
theorem places_app : ∀ (bl cl : List (List UInt8)) (a : Int), places a (bl ++ cl) = places a bl ++ places (a + (bl.length : Int)) cl
  | [], cl, a => by simp [places]
  | b :: r, cl, a => by
    rw [List.cons_append, places, places, places_app r cl, List.cons_append, List.length_cons, show a + 1 + (r.length : Int) = a + ((r.length + 1 : Nat) : Int) by omega]
theorem places_mem {x : Int × List UInt8} : ∀ {bl : List (List UInt8)} {a : Int}, x ∈ places a bl → ∃ (i : Nat) (b : List UInt8), bl[i]? = some b ∧ x = (a + (i : Int), b)
  | [], _, h => by cases h
  | b :: r, a, h => by
    rw [places] at h
    rcases List.mem_cons.1 h with rfl | h
    · exact ⟨0, b, rfl, by rw [Prod.mk.injEq]; exact ⟨by omega, rfl⟩⟩
    · obtain ⟨i, c, h1, rfl⟩ := places_mem h
      exact ⟨i + 1, c, by simpa using h1, by rw [Prod.mk.injEq]; exact ⟨by omega, rfl⟩⟩
theorem applyW_places : ∀ (bl : List (List UInt8)) (L : List (List UInt8)) (a : Nat), a + bl.length ≤ L.length → ∀ i, i < L.length → (applyW L (places (a : Int) bl)).getD i [] = if a ≤ i ∧ i < a + bl.length then bl.getD (i - a) [] else L.getD i []
  | [], L, a, _, i, _ => by rw [if_neg (by simp only [List.length_nil]; omega)]; rfl
  | b :: r, L, a, h, i, hi => by
    rw [List.length_cons] at h
    have ih := applyW_places r (L.set a b) (a + 1) (by simp; omega) i (by simpa using hi)
    show (applyW (L.set ((a : Int)).toNat b) (places ((a : Int) + 1) r)).getD i [] = _
    rw [Int.toNat_natCast, show (a : Int) + 1 = ((a + 1 : Nat) : Int) by omega, ih, set_getD hi, List.length_cons]
    by_cases e : a = i
    · subst e
      rw [if_neg (by omega), if_pos rfl, if_pos (by omega), Nat.sub_self]; rfl
    · rw [if_neg e]
      by_cases g : a + 1 ≤ i ∧ i < a + 1 + r.length
      · rw [if_pos g, if_pos (by omega), show i - a = (i - (a + 1)) + 1 by omega]; rfl
      · rw [if_neg g, if_neg (by omega)]
/-- The disk behind writes one behind the other, up to the first error; that error. -/
def wrsK (k : Dk) (a : Int) : List (List UInt8) → Dk
  | [] => k
  | b :: r => if k.writeE a b ≠ 0 then k.write a b else wrsK (k.write a b) (a + 1) r
def wrsE (k : Dk) (a : Int) : List (List UInt8) → Int
  | [] => 0
  | b :: r => if k.writeE a b ≠ 0 then k.writeE a b else wrsE (k.write a b) (a + 1) r
/-- How far a walk of these writes has come. -/
def WrsAt (k kk : Dk) (a : Int) (bl : List (List UInt8)) (i : Nat) : Prop := wrsK k a bl = wrsK kk (a + (i : Int)) (bl.drop i) ∧ wrsE k a bl = wrsE kk (a + (i : Int)) (bl.drop i)
theorem wrs_start (k : Dk) (a : Int) (bl : List (List UInt8)) : WrsAt k k a bl 0 := by unfold WrsAt; simp
theorem wrs_stop {k kk : Dk} {a : Int} {bl : List (List UInt8)} {i : Nat} {b : List UInt8} (h : WrsAt k kk a bl i) (hb : bl[i]? = some b) (he : ¬ kk.writeE (a + (i : Int)) b = 0) : wrsK k a bl = kk.write (a + (i : Int)) b ∧ wrsE k a bl = kk.writeE (a + (i : Int)) b := by
  obtain ⟨hlt, rfl⟩ := List.getElem?_eq_some_iff.1 hb
  obtain ⟨h1, h2⟩ := h
  rw [List.drop_eq_getElem_cons hlt] at h1 h2
  rw [h1, h2, wrsK, wrsE, if_pos he, if_pos he]; exact ⟨rfl, rfl⟩
theorem wrs_next {k kk : Dk} {a : Int} {bl : List (List UInt8)} {i : Nat} {b : List UInt8} (h : WrsAt k kk a bl i) (hb : bl[i]? = some b) (he : kk.writeE (a + (i : Int)) b = 0) : WrsAt k (kk.write (a + (i : Int)) b) a bl (i + 1) := by
  obtain ⟨hlt, rfl⟩ := List.getElem?_eq_some_iff.1 hb
  obtain ⟨h1, h2⟩ := h
  rw [List.drop_eq_getElem_cons hlt] at h1 h2
  unfold WrsAt
  rw [h1, h2, wrsK, wrsE, if_neg (by omega), if_neg (by omega), show a + (i : Int) + 1 = a + ((i + 1 : Nat) : Int) by omega]; exact ⟨rfl, rfl⟩
theorem wrs_end {k kk : Dk} {a : Int} {bl : List (List UInt8)} {i : Nat} (h : WrsAt k kk a bl i) (hi : bl.length ≤ i) : wrsK k a bl = kk ∧ wrsE k a bl = 0 := by
  obtain ⟨h1, h2⟩ := h
  rw [List.drop_of_length_le hi] at h1 h2
  exact ⟨h1, h2⟩
theorem wrs_ok : ∀ (bl : List (List UInt8)) (k : Dk) (a : Int), DkOk k → DkOk (wrsK k a bl)
  | [], _, _, h => h
  | b :: r, k, a, h => by
    rw [wrsK]; split
    · exact write_ok h a b
    · exact wrs_ok r _ _ (write_ok h a b)
theorem wrs_len : ∀ (bl : List (List UInt8)) (k : Dk) (a : Int), (wrsK k a bl).L.length = k.L.length
  | [], _, _ => rfl
  | b :: r, k, a => by
    rw [wrsK]; split
    · exact write_len k a b
    · rw [wrs_len r, write_len]
theorem wrs_W : ∀ (bl : List (List UInt8)) (k : Dk) (a : Int), (wrsK k a bl).W.length ≤ k.W.length + bl.length
  | [], _, _ => Nat.le_refl _
  | b :: r, k, a => by
    have h1 := write_W k a b
    rw [wrsK, List.length_cons]; split
    · omega
    · have := wrs_W r (k.write a b) (a + 1); omega
/-- What writes within a disk leave: so many of them wait; all, if there is no error. -/
theorem wrs_all : ∀ (bl : List (List UInt8)) (k : Dk) (a : Int), (∀ b ∈ bl, b.length = 64) → 0 ≤ a → a + (bl.length : Int) ≤ (k.L.length : Int) →
    ∃ j, j ≤ bl.length ∧ (wrsK k a bl).L = k.L ∧ (wrsK k a bl).W = k.W ++ places a (bl.take j) ∧ ((wrsE k a bl = 0 ∧ j = bl.length ∧ (k.dead = false → (wrsK k a bl).dead = false)) ∨ (wrsE k a bl = 21 ∧ j < bl.length ∧ (wrsK k a bl).dead = true))
  | [], k, a, _, _, _ => ⟨0, Nat.le_refl _, rfl, by simp [wrsK, places], .inl ⟨rfl, rfl, fun h => h⟩⟩
  | b :: r, k, a, hb, h0, h1 => by
    have hb0 := hb b (by simp)
    rw [List.length_cons] at h1
    have hh : hasE k.L.length a = 0 := hasE_ok.2 (by omega)
    cases hd : spD k.fuse k.dead with
    | true =>
      obtain ⟨e1, e2⟩ := write_dead hh hb0 hd
      refine ⟨0, Nat.zero_le _, ?_, ?_, .inr ⟨?_, by simp, ?_⟩⟩
      · rw [wrsK, if_pos (by rw [e2]; decide), e1]; rfl
      · rw [wrsK, if_pos (by rw [e2]; decide), e1]; simp [places]; rfl
      · rw [wrsE, if_pos (by rw [e2]; decide), e2]
      · rw [wrsK, if_pos (by rw [e2]; decide), e1]; exact hd
    | false =>
      obtain ⟨e1, e2⟩ := write_live hh hb0 hd
      obtain ⟨j, hj, g1, g2, g3⟩ := wrs_all r (k.write a b) (a + 1) (fun x hx => hb x (by simp [hx])) (by omega) (by rw [write_len]; omega)
      have ek : wrsK k a (b :: r) = wrsK (k.write a b) (a + 1) r := by rw [wrsK, if_neg (by rw [e2]; simp)]
      have ee : wrsE k a (b :: r) = wrsE (k.write a b) (a + 1) r := by rw [wrsE, if_neg (by rw [e2]; simp)]
      rw [ek, ee]
      have hL : (k.write a b).L = k.L := by rw [e1]; rfl
      have hW : (k.write a b).W = k.W ++ [(a, b)] := by rw [e1]; rfl
      have hD : (k.write a b).dead = false := by rw [e1]; exact hd
      refine ⟨j + 1, by simp; omega, by rw [g1, hL], by rw [g2, hW, List.take_succ_cons, places, List.append_assoc]; rfl, ?_⟩
      rcases g3 with ⟨g3, g4, g5⟩ | ⟨g3, g4, g5⟩
      · exact .inl ⟨g3, by rw [List.length_cons]; omega, fun _ => g5 hD⟩
      · exact .inr ⟨g3, by rw [List.length_cons]; omega, g5⟩
theorem wrs_lively : ∀ (bl : List (List UInt8)) (k : Dk) (a : Int), Lively k → (∀ b ∈ bl, b.length = 64) → 0 ≤ a → a + (bl.length : Int) ≤ (k.L.length : Int) →
    wrsE k a bl = 0 ∧ (wrsK k a bl).L = k.L ∧ (wrsK k a bl).W = k.W ++ places a bl ∧ Lively (wrsK k a bl)
  | [], k, a, h, _, _, _ => ⟨rfl, rfl, by simp [wrsK, places], h⟩
  | b :: r, k, a, h, hb, h0, h1 => by
    rw [List.length_cons] at h1
    obtain ⟨e2, hL, hW, hv⟩ := write_lively h (a := a) (s := b) (by omega) (hb b (by simp))
    obtain ⟨g1, g2, g3, g4⟩ := wrs_lively r (k.write a b) (a + 1) hv (fun x hx => hb x (by simp [hx])) (by omega) (by rw [write_len]; omega)
    have ek : wrsK k a (b :: r) = wrsK (k.write a b) (a + 1) r := by rw [wrsK, if_neg (by rw [e2]; simp)]
    have ee : wrsE k a (b :: r) = wrsE (k.write a b) (a + 1) r := by rw [wrsE, if_neg (by rw [e2]; simp)]
    rw [ek, ee]
    exact ⟨g1, by rw [g2, hL], by rw [g3, hW, places, List.append_assoc]; rfl, g4⟩
/-- What a crash leaves block by block: what no write that stays breaks. -/
theorem keeps_inv {W : List (Int × List UInt8)} (I : Nat → List UInt8 → Prop) (hx : ∀ x ∈ W, ∀ b c, c ≤ 64 → I x.1.toNat b → I x.1.toNat (x.2.take c ++ b.drop c)) :
    ∀ (ks : List (Int × Int)) (L : List (List UInt8)), (∀ x ∈ W, x.1.toNat < L.length) → (∀ i, i < L.length → I i (L.getD i [])) → ∀ i, i < L.length → I i ((keepsL W L ks).getD i [])
  | [], L, _, h, i, hi => h i hi
  | k :: ks, L, hw, h, i, hi => by
    show I i ((keepsL W (keep1 W L k) ks).getD i [])
    have hl := keep1_len W L k
    refine keeps_inv I hx ks (keep1 W L k) (fun x hx' => by rw [hl]; exact hw x hx') (fun i hi => ?_) i (by rw [hl]; exact hi)
    rw [hl] at hi
    by_cases hk : k.1 < 0 ∨ (W.length : Int) ≤ k.1
    · rw [keep1_no hk]; exact h i hi
    · obtain ⟨y, hy⟩ := getI (show k.1.toNat < W.length by omega)
      rw [keep1_yes hk hy, set_getD hi]
      by_cases e : y.1.toNat = i
      · rw [if_pos e]
        have hm := List.mem_of_getElem? hy
        have := hx y hm (L.getD y.1.toNat []) (cut64 k.2) (cut64_le _) (h _ (hw y hm))
        rw [e] at this ⊢
        exact this
      · rw [if_neg e]; exact h i hi

-- blocks that are sealed, and torn
def b3 (b : List UInt8) : Nat := (b.getD 3 0).toNat
def b59 (b : List UInt8) : Nat := (b.getD 59 0).toNat
/-- What has been sealed, whole or in part, by numbers up to this one. -/
structure Low (e : Nat) (b : List UInt8) : Prop where
  len : b.length = 64
  z : b.take 3 = [0, 0, 0]
  p : b3 b ≤ e
  q : b59 b ≤ e
theorem Low.mono {e f : Nat} {b : List UInt8} (h : Low e b) (hef : e ≤ f) : Low f b := ⟨h.len, h.z, Nat.le_trans h.p hef, Nat.le_trans h.q hef⟩
theorem zero_b3 : b3 (List.replicate 64 0) = 0 := by decide
theorem zero_b59 : b59 (List.replicate 64 0) = 0 := by decide
theorem low_zero (e : Nat) : Low e (List.replicate 64 0) := ⟨by simp, by decide, by rw [zero_b3]; omega, by rw [zero_b59]; omega⟩
theorem be4_small {e : Nat} (h : e < 256) : be 4 e = [0, 0, 0, UInt8.ofNat e] := by
  have h1 : e / 256 = 0 := by omega
  have h2 : e % 256 = e := by omega
  simp [be, h1, h2]
theorem sealL_small {e i : Nat} {d : List UInt8} (h0 : 0 < e) (h : e < 256) (hd : d.length = 48) : sealL e i d = [0, 0, 0, UInt8.ofNat e] ++ be 4 i ++ d ++ [0, 0, 0, UInt8.ofNat e] ++ be 4 i := by
  unfold sealL; rw [if_neg (by omega), be4_small h]
theorem seal_facts {e i : Nat} {d : List UInt8} (h0 : 0 < e) (h : e < 256) (hd : d.length = 48) : (sealL e i d).length = 64 ∧ (sealL e i d).take 3 = [0, 0, 0] ∧ b3 (sealL e i d) = e ∧ b59 (sealL e i d) = e ∧ ((sealL e i d).take 56).drop 8 = d := by
  have hE : sealE e d = 0 := (sealE_cases e d).2 (by omega)
  have h4 := be_length 4 i
  have hu : (UInt8.ofNat e).toNat = e := by rw [UInt8.toNat_ofNat']; omega
  refine ⟨sealL_length hE, ?_, ?_, ?_, (sealL_parts hE).2.2.1⟩
  · rw [sealL_small h0 h hd]; rfl
  · rw [sealL_small h0 h hd]; exact hu
  · rw [sealL_small h0 h hd]
    unfold b59
    rw [List.getD_eq_getElem?_getD, List.append_assoc, List.getElem?_append_right (by simp [h4, hd])]
    simp only [List.length_append, List.length_cons, List.length_nil, h4, hd]
    exact hu
theorem low_seal {e i : Nat} {d : List UInt8} (h0 : 0 < e) (h : e < 256) (hd : d.length = 48) : Low e (sealL e i d) := by
  obtain ⟨a, b, c, d, _⟩ := seal_facts (i := i) h0 h hd
  exact ⟨a, b, by omega, by omega⟩
theorem mix_get {S b : List UInt8} {c : Nat} (hS : S.length = 64) (hc : c ≤ 64) (j : Nat) : (S.take c ++ b.drop c)[j]? = if j < c then S[j]? else b[j]? := by
  have hl : (S.take c).length = c := by rw [List.length_take]; omega
  by_cases h : j < c
  · rw [if_pos h, List.getElem?_append_left (by omega), List.getElem?_take, if_pos h]
  · rw [if_neg h, List.getElem?_append_right (by omega), hl, List.getElem?_drop]; congr 1; omega
theorem mix_len {S b : List UInt8} {c : Nat} (hS : S.length = 64) (hb : b.length = 64) (hc : c ≤ 64) : (S.take c ++ b.drop c).length = 64 := by
  rw [List.length_append, List.length_take, List.length_drop]; omega
theorem getD_of {l m : List UInt8} {j k : Nat} (h : l[j]? = m[k]?) : l.getD j 0 = m.getD k 0 := by
  rw [List.getD_eq_getElem?_getD, List.getD_eq_getElem?_getD, h]
/-- What has come of a block when a sealed one was written over it, whole or in part, however often. -/
def Lain (e : Nat) (d b b' : List UInt8) : Prop := b' = b ∨ (b'.length = 64 ∧ b'.take 3 = [0, 0, 0] ∧ b3 b' = e ∧ b59 b' ≤ e ∧ (b59 b' = e → (b'.take 56).drop 8 = d))
theorem lain_seal {e i : Nat} {d b : List UInt8} (h0 : 0 < e) (h : e < 256) (hd : d.length = 48) : Lain e d b (sealL e i d) := by
  obtain ⟨a1, a2, a3, a4, a5⟩ := seal_facts (i := i) h0 h hd
  exact .inr ⟨a1, a2, a3, by omega, fun _ => a5⟩
theorem lain_over {e0 e i : Nat} {d b b' : List UInt8} {c : Nat} (hb : Low e0 b) (he : e0 < e) (h256 : e < 256) (hd : d.length = 48) (h : Lain e d b b') (hc : c ≤ 64) : Lain e d b ((sealL e i d).take c ++ b'.drop c) := by
  obtain ⟨a1, a2, a3, a4, a5⟩ := seal_facts (i := i) (show 0 < e by omega) h256 hd
  generalize hS : sealL e i d = S at a1 a2 a3 a4 a5
  have hb64 : b'.length = 64 := by rcases h with rfl | h; exact hb.len; exact h.1
  have hbz : b'.take 3 = [0, 0, 0] := by rcases h with rfl | h; exact hb.z; exact h.2.1
  have hbq : b59 b' ≤ e := by rcases h with rfl | h; (have := hb.q; omega); exact h.2.2.2.1
  have hbd : b59 b' = e → (b'.take 56).drop 8 = d := by
    rcases h with rfl | h
    · intro x; have := hb.q; omega
    · exact h.2.2.2.2
  by_cases h3 : c ≤ 3
  · have e1 : S.take c = b'.take c := by
      have x1 : S.take c = (S.take 3).take c := by rw [List.take_take]; congr 1; omega
      have x2 : b'.take c = (b'.take 3).take c := by rw [List.take_take]; congr 1; omega
      rw [x1, x2, a2, hbz]
    rw [e1, List.take_append_drop]; exact h
  · right
    refine ⟨mix_len a1 hb64 hc, ?_, ?_, ?_, ?_⟩
    · rw [List.take_append_of_le_length (by rw [List.length_take]; omega), List.take_take, Nat.min_eq_left (by omega), a2]
    · rw [← a3]
      exact congrArg UInt8.toNat (getD_of (by rw [mix_get a1 hc, if_pos (by omega)]))
    · by_cases h59 : 59 < c
      · have : b59 (S.take c ++ b'.drop c) = b59 S := congrArg UInt8.toNat (getD_of (by rw [mix_get a1 hc, if_pos h59]))
        omega
      · have : b59 (S.take c ++ b'.drop c) = b59 b' := congrArg UInt8.toNat (getD_of (by rw [mix_get a1 hc, if_neg h59]))
        omega
    · intro hx
      have hd2 : 59 < c ∨ (b'.take 56).drop 8 = d := by
        by_cases h59 : 59 < c
        · exact .inl h59
        · right
          have : b59 (S.take c ++ b'.drop c) = b59 b' := congrArg UInt8.toNat (getD_of (by rw [mix_get a1 hc, if_neg h59]))
          exact hbd (by omega)
      apply List.ext_getElem?
      intro j
      rw [List.getElem?_drop, List.getElem?_take, mix_get a1 hc]
      by_cases hj : 8 + j < 56
      · rw [if_pos hj]
        have s1 : S[8 + j]? = d[j]? := by rw [← a5, List.getElem?_drop, List.getElem?_take, if_pos hj]
        by_cases hjc : 8 + j < c
        · rw [if_pos hjc, s1]
        · rw [if_neg hjc]
          rcases hd2 with g | g
          · omega
          · rw [← g, List.getElem?_drop, List.getElem?_take, if_pos hj]
      · rw [if_neg hj, List.getElem?_eq_none (by omega)]
theorem low_lain {e0 e : Nat} {d b b' : List UInt8} (hb : Low e0 b) (he : e0 < e) (h : Lain e d b b') : Low e b' := by
  rcases h with rfl | ⟨a, b, c, d, _⟩
  · exact hb.mono (by omega)
  · exact ⟨a, b, by omega, d⟩
theorem open_parts {b : List UInt8} (h : openOk b = true) : b.length = 64 ∧ b.take 8 = b.drop 56 ∧ b3 b = b59 b ∧ openD b = (b.take 56).drop 8 ∧ openE b = num (b.take 4) := by
  have h' := h
  unfold openOk at h'
  have h' : b.length = 64 ∧ b.take 8 = b.drop 56 ∧ num (b.take 4) ≠ 0 := by simpa using h'
  obtain ⟨h1, h2, h3⟩ := h'
  refine ⟨h1, h2, congrArg UInt8.toNat (getD_of ?_), by unfold openD; rw [if_pos h], by unfold openE; rw [if_pos h]⟩
  have := congrArg (fun l => l[3]?) h2
  simpa [List.getElem?_take, List.getElem?_drop] using this
theorem num_low {b : List UInt8} (hl : b.length = 64) (hz : b.take 3 = [0, 0, 0]) : num (b.take 4) = b3 b := by
  have e : b.take 4 = [0, 0, 0, b.getD 3 0] := by
    rw [take_succ_of (a := b.getD 3 0) (by rw [List.getD_eq_getElem?_getD, List.getElem?_eq_getElem (by omega)]; rfl), hz]; rfl
  rw [e]; simp [num, b3]
theorem low_open {e : Nat} {b : List UInt8} (h : Low e b) (ho : openOk b = true) : openE b = b3 b ∧ openE b ≤ e := by
  obtain ⟨_, _, _, _, h5⟩ := open_parts ho
  rw [h5, num_low h.len h.z]; exact ⟨rfl, h.p⟩
theorem lain_open {e0 e : Nat} {d b b' : List UInt8} (hb : Low e0 b) (he : e0 < e) (h : Lain e d b b') (ho : openOk b' = true) : (b' = b ∧ openE b' ≤ e0) ∨ (openE b' = e ∧ openD b' = d) := by
  rcases h with rfl | ⟨a1, a2, a3, a4, a5⟩
  · exact .inl ⟨rfl, (low_open hb ho).2⟩
  · obtain ⟨_, _, h3, h4, h5⟩ := open_parts ho
    right
    refine ⟨by rw [h5, num_low a1 a2, a3], ?_⟩
    rw [h4]; exact a5 (by omega)

end
end Go.Proofs.YtbblkgdejgoncaaDoor

/- Long texts on some blocks of a disk (layer 27), in plain lists. -/
set_option linter.unusedSimpArgs false
set_option linter.unusedVariables false
namespace Go.Proofs.YtbblkgdejgoncaaDoor
open Go Go.RowKit

section



def manyS (n : Nat) : Nat := (n + 47) / 48
theorem manyS_room (n : Nat) : n ≤ 48 * manyS n ∧ 48 * manyS n < n + 48 := by unfold manyS; omega
def padS (s : List UInt8) : List UInt8 := s ++ List.replicate (48 * manyS s.length - s.length) 0
theorem padS_len (s : List UInt8) : (padS s).length = 48 * manyS s.length := by
  have := manyS_room s.length
  rw [padS, List.length_append, List.length_replicate]; omega
def pieceS (s : List UInt8) (i : Nat) : List UInt8 := ((padS s).drop (48 * i)).take 48
theorem pieceS_len (s : List UInt8) {i : Nat} (h : i < manyS s.length) : (pieceS s i).length = 48 := by
  have := padS_len s
  unfold pieceS
  rw [List.length_take, List.length_drop]; omega
def blkS (e : Nat) (s : List UInt8) (i : Nat) : List UInt8 := sealL e i (pieceS s i)
def blksS (e : Nat) (s : List UInt8) : List (List UInt8) := (List.range (manyS s.length)).map (blkS e s)
theorem blksS_len (e : Nat) (s : List UInt8) : (blksS e s).length = manyS s.length := by simp [blksS]
theorem blksS_at (e : Nat) (s : List UInt8) {i : Nat} (h : i < manyS s.length) : (blksS e s)[i]? = some (blkS e s i) := by simp [blksS, h]
theorem blkS_E {e : Nat} (s : List UInt8) {i : Nat} (he : 0 < e) (h : i < manyS s.length) : sealE e (pieceS s i) = 0 := (sealE_cases _ _).2 (by rw [pieceS_len s h]; omega)
theorem blkS_len {e : Nat} (s : List UInt8) {i : Nat} (he : 0 < e) (h : i < manyS s.length) : (blkS e s i).length = 64 := sealL_length (blkS_E s he h)
theorem blksS_64 {e : Nat} (s : List UInt8) (he : 0 < e) : ∀ b ∈ blksS e s, b.length = 64 := by
  intro b hb
  simp only [blksS, List.mem_map, List.mem_range] at hb
  obtain ⟨i, hi, rfl⟩ := hb
  exact blkS_len s he hi
/-- What is wrong with a region, or an epoch. -/
def regE (N : Nat) (f b : Int) (e : Nat) : Int := if f < 0 ∨ b < 1 ∨ (N : Int) < b ∨ (N : Int) - b < f ∨ e = 0 then 1 else 0
theorem regE_ok {N : Nat} {f b : Int} {e : Nat} : regE N f b e = 0 ↔ 0 ≤ f ∧ 1 ≤ b ∧ f + b ≤ (N : Int) ∧ 0 < e := by
  unfold regE
  constructor
  · intro h; split at h
    · cases h
    · omega
  · intro h; rw [if_neg (by omega)]
theorem regE_one {N : Nat} {f b : Int} {e : Nat} (h : ¬ regE N f b e = 0) : regE N f b e = 1 := by
  unfold regE at *; split at h
  · rename_i g; rw [if_pos g]
  · exact absurd rfl h
def putK (k : Dk) (f b : Int) (e : Nat) (s : List UInt8) : Dk := if regE k.L.length f b e ≠ 0 then k else if b < (manyS s.length : Int) then k else wrsK k f (blksS e s)
def putE (k : Dk) (f b : Int) (e : Nat) (s : List UInt8) : Int := if regE k.L.length f b e ≠ 0 then 1 else if b < (manyS s.length : Int) then 17 else wrsE k f (blksS e s)
theorem put_no {k : Dk} {f b : Int} {e : Nat} {s : List UInt8} (h : ¬ regE k.L.length f b e = 0) : putK k f b e s = k ∧ putE k f b e s = 1 := by unfold putK putE; rw [if_pos h, if_pos h]; exact ⟨rfl, rfl⟩
theorem put_full {k : Dk} {f b : Int} {e : Nat} {s : List UInt8} (h : regE k.L.length f b e = 0) (h1 : b < (manyS s.length : Int)) : putK k f b e s = k ∧ putE k f b e s = 17 := by
  unfold putK putE; simp [h, h1]
theorem put_yes {k : Dk} {f b : Int} {e : Nat} {s : List UInt8} (h : regE k.L.length f b e = 0) (h1 : (manyS s.length : Int) ≤ b) : putK k f b e s = wrsK k f (blksS e s) ∧ putE k f b e s = wrsE k f (blksS e s) := by
  unfold putK putE; simp [h, show ¬ b < (manyS s.length : Int) by omega]
theorem put_ok {k : Dk} (h : DkOk k) (f b : Int) (e : Nat) (s : List UInt8) : DkOk (putK k f b e s) := by
  unfold putK; split
  · exact h
  · split
    · exact h
    · exact wrs_ok _ _ _ h
theorem put_len (k : Dk) (f b : Int) (e : Nat) (s : List UInt8) : (putK k f b e s).L.length = k.L.length := by
  unfold putK; split
  · rfl
  · split
    · rfl
    · exact wrs_len _ _ _
-- what is got
def okB (b : List UInt8) (e i : Nat) : Bool := openOk b && decide (openE b = e) && decide (openI b = i)
theorem okB_iff {b : List UInt8} {e i : Nat} : okB b e i = true ↔ openOk b = true ∧ openE b = e ∧ openI b = i := by
  unfold okB; simp [and_assoc]
def catD (bl : List (List UInt8)) : List UInt8 := (bl.map openD).flatten
theorem catD_next {bl : List (List UInt8)} {i : Nat} {b : List UInt8} (h : bl[i]? = some b) : catD (bl.take (i + 1)) = catD (bl.take i) ++ openD b := by
  rw [take_succ_of h]; unfold catD; simp
theorem catD_len {bl : List (List UInt8)} : ∀ {i : Nat}, i ≤ bl.length → (∀ j b, j < i → bl[j]? = some b → openOk b = true) → (catD (bl.take i)).length = 48 * i
  | 0, _, _ => by simp [catD]
  | i + 1, hi, h => by
    obtain ⟨b, hb⟩ := getI (show i < bl.length by omega)
    rw [catD_next hb, List.length_append, catD_len (by omega) (fun j b hj => h j b (by omega))]
    have ho := h i b (by omega) hb
    have : (openD b).length = 48 := by
      obtain ⟨h1, _, _, h4, _⟩ := open_parts ho
      rw [h4]; simp; omega
    omega
/-- All of the first blocks are sealed by an epoch and their places. -/
def okTo (bl : List (List UInt8)) (e m : Nat) : Prop := ∀ j, j < m → okB (bl.getD j []) e j = true
instance (bl : List (List UInt8)) (e m : Nat) : Decidable (okTo bl e m) := by unfold okTo; infer_instance
theorem okTo_next {bl : List (List UInt8)} {e i : Nat} (h : okTo bl e i) (hb : okB (bl.getD i []) e i = true) : okTo bl e (i + 1) := fun j hj => by
  rcases Nat.lt_or_ge j i with h1 | h1
  · exact h j h1
  · obtain rfl : j = i := by omega
    exact hb
theorem okTo_len {bl : List (List UInt8)} {e i : Nat} (h : okTo bl e i) (hi : i ≤ bl.length) : (catD (bl.take i)).length = 48 * i :=
  catD_len hi fun j b hj hb => by
    have := h j hj
    rw [List.getD_eq_getElem?_getD, hb] at this
    exact (okB_iff.1 this).1
def getOk (bl : List (List UInt8)) (e : Nat) (z : Int) : Prop := 0 ≤ z ∧ manyS z.toNat ≤ bl.length ∧ okTo bl e (manyS z.toNat) ∧ ∀ x ∈ (catD (bl.take (manyS z.toNat))).drop z.toNat, x = 0
instance (bl : List (List UInt8)) (e : Nat) (z : Int) : Decidable (getOk bl e z) := by unfold getOk; infer_instance
def getT (bl : List (List UInt8)) (e : Nat) (z : Int) : List UInt8 := if getOk bl e z then (catD (bl.take (manyS z.toNat))).take z.toNat else []
def getE (bl : List (List UInt8)) (e : Nat) (z : Int) : Int := if getOk bl e z then 0 else 18
theorem get_yes {bl : List (List UInt8)} {e : Nat} {z : Int} (h : getOk bl e z) : getT bl e z = (catD (bl.take (manyS z.toNat))).take z.toNat ∧ getE bl e z = 0 := by unfold getT getE; rw [if_pos h, if_pos h]; exact ⟨rfl, rfl⟩
theorem get_no {bl : List (List UInt8)} {e : Nat} {z : Int} (h : ¬ getOk bl e z) : getT bl e z = [] ∧ getE bl e z = 18 := by unfold getT getE; rw [if_neg h, if_neg h]; exact ⟨rfl, rfl⟩
theorem padS_chunk (s : List UInt8) : ∀ m, m ≤ manyS s.length → ((List.range m).map (pieceS s)).flatten = (padS s).take (48 * m)
  | 0, _ => rfl
  | m + 1, h => by
    rw [List.range_succ, List.map_append, List.flatten_append, padS_chunk s m (by omega)]
    simp only [List.map_cons, List.map_nil, List.flatten_cons, List.flatten_nil, List.append_nil]
    unfold pieceS
    rw [show 48 * (m + 1) = 48 * m + 48 by omega, List.take_add]
theorem blk_open {e i : Nat} {s : List UInt8} (he : 0 < e) (he2 : e < 4294967296) (hi : i < manyS s.length) (hi2 : i < 4294967296) : openOk (blkS e s i) = true ∧ openE (blkS e s i) = e ∧ openI (blkS e s i) = i ∧ openD (blkS e s i) = pieceS s i := by
  have h := blkS_E s he hi
  obtain ⟨a, b, c⟩ := open_seal he2 hi2 h
  exact ⟨openOk_seal he2 h, a, b, c⟩
/-- A text whose blocks lie first is got. -/
theorem get_text {bl : List (List UInt8)} {e : Nat} {s : List UInt8} (he : 0 < e) (he2 : e < 4294967296) (hm : manyS s.length < 4294967296) (hl : manyS s.length ≤ bl.length) (hb : ∀ i, i < manyS s.length → openOk (bl.getD i []) = true ∧ openE (bl.getD i []) = e ∧ openI (bl.getD i []) = i ∧ openD (bl.getD i []) = pieceS s i) :
    getT bl e (s.length : Int) = s ∧ getE bl e (s.length : Int) = 0 := by
  have hr := manyS_room s.length
  have hc : catD (bl.take (manyS s.length)) = padS s := by
    have h1 : (bl.take (manyS s.length)).map openD = (List.range (manyS s.length)).map (pieceS s) := by
      apply List.ext_getElem?
      intro j
      rw [List.getElem?_map, List.getElem?_map, List.getElem?_take]
      by_cases hj : j < manyS s.length
      · rw [if_pos hj, List.getElem?_range hj]
        have := (hb j hj).2.2.2
        rw [List.getD_eq_getElem?_getD] at this
        obtain ⟨x, hx⟩ := getI (show j < bl.length by omega)
        rw [hx] at this ⊢
        simp only [Option.map_some, Option.some.injEq]
        exact this
      · rw [if_neg hj, List.getElem?_eq_none (by simpa using hj)]; rfl
    unfold catD
    rw [h1, padS_chunk s _ (Nat.le_refl _), List.take_of_length_le (by rw [padS_len]; exact Nat.le_refl _)]
  have ht : ((s.length : Int)).toNat = s.length := Int.toNat_natCast _
  have hg : getOk bl e (s.length : Int) := by
    unfold getOk
    rw [ht, hc]
    refine ⟨by omega, hl, fun j hj => okB_iff.2 ⟨(hb j hj).1, (hb j hj).2.1, (hb j hj).2.2.1⟩, ?_⟩
    unfold padS
    rw [List.drop_left' rfl]
    intro x hx
    exact List.eq_of_mem_replicate hx
  obtain ⟨g1, g2⟩ := get_yes hg
  refine ⟨?_, g2⟩
  rw [g1, ht, hc]
  unfold padS
  exact List.take_left' rfl
/-- What is got of blocks of which each that opens so is the text's own is the text. -/
theorem get_only {bl : List (List UInt8)} {e : Nat} {s : List UInt8} (he : 0 < e) (he2 : e < 4294967296) (hm : manyS s.length < 4294967296) (hb : ∀ i, i < manyS s.length → i < bl.length → okB (bl.getD i []) e i = true → openD (bl.getD i []) = pieceS s i) :
    (getE bl e (s.length : Int) = 0 ∧ getT bl e (s.length : Int) = s) ∨ getE bl e (s.length : Int) = 18 := by
  by_cases hg : getOk bl e (s.length : Int)
  · have hg' := hg
    obtain ⟨_, g2, g3, _⟩ := hg'
    rw [Int.toNat_natCast] at g2 g3
    obtain ⟨a, b⟩ := get_text he he2 hm g2 (fun i hi => by
      obtain ⟨x, y, z⟩ := okB_iff.1 (g3 i hi)
      exact ⟨x, y, z, hb i hi (by omega) (g3 i hi)⟩)
    exact .inl ⟨b, a⟩
  · exact .inr (get_no hg).2
/-- What is read of some blocks. -/
def rdB (k : Dk) (f : Int) (n : Nat) : List (List UInt8) := (List.range n).map fun (i : Nat) => k.readS (f + (i : Int))
theorem rdB_len (k : Dk) (f : Int) (n : Nat) : (rdB k f n).length = n := by simp [rdB]
theorem rdB_at {k : Dk} {f : Int} {n i : Nat} (h : i < n) : (rdB k f n)[i]? = some (k.readS (f + (i : Int))) := by simp [rdB, h]
theorem rdB_get {k : Dk} {f : Int} {n i : Nat} (h : i < n) : (rdB k f n).getD i [] = k.readS (f + (i : Int)) := by rw [List.getD_eq_getElem?_getD, rdB_at h]; rfl

end
end Go.Proofs.YtbblkgdejgoncaaDoor

/- The sum of a text (layer 2) as a plain function on 32-bit words, and the facts on single bits and bytes that the walks need. No program in sight. -/
namespace Go.Proofs.YtbblkgdejgoncaaDoor
open Go

def sumT (x : BitVec 32) : BitVec 32 := (x <<< 1) ^^^ (if x.msb then 0x04c11db7#32 else 0)
def sumTn : Nat → BitVec 32 → BitVec 32
  | 0, x => x
  | n + 1, x => sumT (sumTn n x)
def sumByte (x : BitVec 32) (c : UInt8) : BitVec 32 := sumTn 8 (x ^^^ (BitVec.ofNat 32 c.toNat <<< 24))
def sumCrc (x : BitVec 32) (l : List UInt8) : BitVec 32 := l.foldl sumByte x
/-- A word as a value of the model's. -/
def U32 (x : BitVec 32) : Value := .int .u32 (x.toNat : Int)

theorem u32_word (a : Int) (h0 : 0 ≤ a) (h1 : a ≤ 4294967295) : ∃ x : BitVec 32, a = (x.toNat : Int) :=
  ⟨BitVec.ofNat 32 a.toNat, by rw [BitVec.toNat_ofNat]; omega⟩
theorem ret_int {k : IntKind} {a b : Int} (h : a = b) : Ending.returned (.int k a) = .returned (.int k b) := by rw [h]
theorem ret_bool {a b : Bool} (h : a = b) : Ending.returned (.bool a) = .returned (.bool b) := by rw [h]
theorem val_int {k : IntKind} {a b : Int} (h : a = b) : Value.int k a = .int k b := by rw [h]
theorem take_snoc (s : ByteArray) (k : Nat) (h : k < s.size) : s.data.toList.take (k + 1) = s.data.toList.take k ++ [s[k]] := by
  rw [List.take_succ_eq_append_getElem (by simpa using h)]; rfl

theorem sumCrc_snoc (x : BitVec 32) (l : List UInt8) (c : UInt8) : sumCrc x (l ++ [c]) = sumByte (sumCrc x l) c := by
  simp [sumCrc]
theorem sumCrc_append (x : BitVec 32) (l m : List UInt8) : sumCrc x (l ++ m) = sumCrc (sumCrc x l) m := by
  simp [sumCrc]

theorem sum_in_byte (y : BitVec 32) (c : UInt8) : bits BinOp.xor IntKind.u32 (y.toNat : Int) ((c.toNat : Int) % (4294967296 : Int) * (16777216 : Int) % (4294967296 : Int)) = ((y ^^^ (BitVec.ofNat 32 c.toNat <<< 24)).toNat : Int) := by
  have hc := c.toNat_lt
  have e : ((c.toNat : Int) % (4294967296 : Int) * (16777216 : Int) % (4294967296 : Int)) = ((BitVec.ofNat 32 c.toNat <<< 24).toNat : Int) := by
    rw [BitVec.toNat_shiftLeft, BitVec.toNat_ofNat, Nat.shiftLeft_eq]
    omega
  rw [e, u32_xor_nat _ _ y.isLt (BitVec.isLt _), BitVec.toNat_xor]
theorem sum_in_bit (z : BitVec 32) : bits BinOp.xor IntKind.u32 ((z.toNat : Int) * (2 : Int) % (4294967296 : Int)) ((z.toNat : Int) / (2147483648 : Int) * (79764919 : Int)) = ((sumT z).toNat : Int) := by
  have hz := z.isLt
  have e1 : ((z.toNat : Int) * (2 : Int) % (4294967296 : Int)) = ((z <<< 1).toNat : Int) := by
    rw [BitVec.toNat_shiftLeft, Nat.shiftLeft_eq]; omega
  have e2 : ((z.toNat : Int) / (2147483648 : Int) * (79764919 : Int)) = ((if z.msb then 0x04c11db7#32 else 0).toNat : Int) := by
    have hm := BitVec.msb_eq_decide z
    by_cases h : 2147483648 ≤ z.toNat
    · have : z.msb = true := by rw [hm]; simpa using h
      rw [this]; simp; omega
    · have : z.msb = false := by rw [hm]; simpa using h
      rw [this]; simp; omega
  rw [e1, e2, u32_xor_nat _ _ (BitVec.isLt _) (BitVec.isLt _), sumT, BitVec.toNat_xor]
theorem sum_step_high (z : BitVec 32) (h : 2147483648 ≤ z.toNat) : bits BinOp.xor IntKind.u32 (((z.toNat : Int) - (2147483648 : Int)) * (2 : Int)) (79764919 : Int) = ((sumT z).toNat : Int) := by
  have hz := z.isLt
  rw [← sum_in_bit]; congr 1 <;> omega
theorem sum_step_low (z : BitVec 32) (h : z.toNat < 2147483648) : (z.toNat : Int) * (2 : Int) = ((sumT z).toNat : Int) := by
  have hz := z.isLt
  have hm : z.msb = false := by rw [BitVec.msb_eq_decide]; simpa using h
  rw [sumT, hm]
  simp [BitVec.toNat_shiftLeft, Nat.shiftLeft_eq]
  omega

end Go.Proofs.YtbblkgdejgoncaaDoor

/- Sums of texts and numbers of bytes, in plain lists. -/
set_option linter.unusedSimpArgs false
set_option linter.unusedVariables false
namespace Go.Proofs.YtbblkgdejgoncaaDoor
open Go Go.RowKit

section



def crcN (l : List UInt8) : Nat := (sumCrc 4294967295#32 l).toNat
theorem crcN_lt (l : List UInt8) : crcN l < 4294967296 := (sumCrc _ l).isLt
def crcW (ls : List (List UInt8)) : BitVec 32 := ls.foldl sumCrc 4294967295#32
theorem crcW_next {ls : List (List UInt8)} {i : Nat} {s : List UInt8} (h : ls[i]? = some s) : crcW (ls.take (i + 1)) = sumCrc (crcW (ls.take i)) s := by
  rw [take_succ_of h]; unfold crcW; rw [List.foldl_append]; rfl
theorem crcW_two (a b : List UInt8) : (crcW [a, b]).toNat = crcN (a ++ b) := by
  unfold crcW crcN; rw [sumCrc_append]; rfl
theorem crcW_one (a : List UInt8) : (crcW [a]).toNat = crcN a := rfl

end
end Go.Proofs.YtbblkgdejgoncaaDoor

/- Records as pieces (layer 25), in plain lists. -/
set_option linter.unusedSimpArgs false
set_option linter.unusedVariables false
namespace Go.Proofs.YtbblkgdejgoncaaDoor
open Go Go.RowKit

section



def manyN (n : Nat) : Nat := (n + 53) / 48
theorem manyN_pos (n : Nat) : 1 ≤ manyN n := by unfold manyN; omega
theorem manyN_room (n : Nat) : n + 6 ≤ 48 * manyN n ∧ 48 * manyN n < n + 54 := by unfold manyN; omega
/-- The pieces of a text: of 48 bytes each. -/
def chunks (m : Nat) (t : List UInt8) : List (List UInt8) := (List.range m).map fun i => (t.drop (48 * i)).take 48
theorem chunks_len (m : Nat) (t : List UInt8) : (chunks m t).length = m := by simp [chunks]
theorem chunks_next (m : Nat) (t : List UInt8) : chunks (m + 1) t = chunks m t ++ [(t.drop (48 * m)).take 48] := by
  unfold chunks; rw [List.range_succ, List.map_append]; rfl
theorem chunks_at {m i : Nat} (t : List UInt8) (h : i < m) : (chunks m t)[i]? = some ((t.drop (48 * i)).take 48) := by simp [chunks, h]
theorem chunks_cons (m : Nat) (t : List UInt8) : chunks (m + 1) t = t.take 48 :: chunks m (t.drop 48) := by
  unfold chunks
  rw [List.range_succ_eq_map, List.map_cons, List.map_map]
  congr 1
  apply List.map_congr_left
  intro i _
  show (t.drop (48 * (i + 1))).take 48 = ((t.drop 48).drop (48 * i)).take 48
  rw [List.drop_drop, show 48 * (i + 1) = 48 + 48 * i by omega]
theorem chunks_flat : ∀ ls : List (List UInt8), (∀ x ∈ ls, x.length = 48) → chunks ls.length ls.flatten = ls
  | [], _ => rfl
  | x :: ls, h => by
    have hx := h x (by simp)
    rw [List.length_cons, chunks_cons, List.flatten_cons, List.take_left' hx, List.drop_left' hx, chunks_flat ls (fun y hy => h y (by simp [hy]))]
theorem flat_chunks : ∀ (m : Nat) (t : List UInt8), t.length = 48 * m → (chunks m t).flatten = t
  | 0, t, h => by
    have : t = [] := List.length_eq_zero_iff.1 (by omega)
    subst this; rfl
  | m + 1, t, h => by rw [chunks_cons, List.flatten_cons, flat_chunks m (t.drop 48) (by simp; omega), List.take_append_drop]
theorem chunks_all {m : Nat} {t : List UInt8} (h : t.length = 48 * m) : ∀ x ∈ chunks m t, x.length = 48 := by
  intro x hx
  simp only [chunks, List.mem_map, List.mem_range] at hx
  obtain ⟨i, hi, rfl⟩ := hx
  simp; omega
theorem flat_len48 : ∀ ls : List (List UInt8), (∀ x ∈ ls, x.length = 48) → ls.flatten.length = 48 * ls.length
  | [], _ => rfl
  | x :: ls, h => by
    have hx := h x (by simp)
    have := flat_len48 ls (fun y hy => h y (by simp [hy]))
    rw [List.flatten_cons, List.length_append, List.length_cons]; omega
def headF (s : List UInt8) : List UInt8 := be 2 s.length ++ be 4 (crcN (be 2 s.length ++ s))
def bytesF (s : List UInt8) : List UInt8 := headF s ++ s
theorem headF_len (s : List UInt8) : (headF s).length = 6 := by simp [headF, be_length]
theorem bytesF_len (s : List UInt8) : (bytesF s).length = 6 + s.length := by simp [bytesF, headF_len]
def padF (s : List UInt8) : List UInt8 := bytesF s ++ List.replicate (48 * manyN s.length - (6 + s.length)) 0
theorem padF_len (s : List UInt8) : (padF s).length = 48 * manyN s.length := by
  have := manyN_room s.length
  rw [padF, List.length_append, bytesF_len, List.length_replicate]; omega
def piecesF (s : List UInt8) : List (List UInt8) := chunks (manyN s.length) (padF s)
theorem piecesF_len (s : List UInt8) : (piecesF s).length = manyN s.length := chunks_len _ _
def encF (s : List UInt8) : List (List UInt8) := if s.length ≤ 1000 then piecesF s else []
def encFE (s : List UInt8) : Int := if s.length ≤ 1000 then 0 else 4
theorem encF_yes {s : List UInt8} (h : s.length ≤ 1000) : encF s = piecesF s ∧ encFE s = 0 := by unfold encF encFE; rw [if_pos h, if_pos h]; exact ⟨rfl, rfl⟩
theorem encF_no {s : List UInt8} (h : ¬ s.length ≤ 1000) : encF s = [] ∧ encFE s = 4 := by unfold encF encFE; rw [if_neg h, if_neg h]; exact ⟨rfl, rfl⟩
def sizeF (p : List UInt8) : Nat := if p.length ≠ 48 ∨ 1000 < num (p.take 2) then 0 else num (p.take 2)
def sizeFE (p : List UInt8) : Int := if p.length ≠ 48 then 2 else if 1000 < num (p.take 2) then 4 else 0
theorem sizeF_le (p : List UInt8) : sizeF p ≤ 1000 := by unfold sizeF; split <;> omega
theorem sizeF_short {p : List UInt8} (h : p.length ≠ 48) : sizeF p = 0 ∧ sizeFE p = 2 := by unfold sizeF sizeFE; rw [if_pos (Or.inl h), if_pos h]; exact ⟨rfl, rfl⟩
theorem sizeF_long {p : List UInt8} (h : p.length = 48) (h1 : 1000 < num (p.take 2)) : sizeF p = 0 ∧ sizeFE p = 4 := by unfold sizeF sizeFE; rw [if_pos (Or.inr h1), if_neg (by omega), if_pos h1]; exact ⟨rfl, rfl⟩
theorem sizeF_ok {p : List UInt8} (h : p.length = 48) (h1 : ¬ 1000 < num (p.take 2)) : sizeF p = num (p.take 2) ∧ sizeFE p = 0 := by unfold sizeF sizeFE; rw [if_neg (by omega), if_neg (by omega), if_neg h1]; exact ⟨rfl, rfl⟩
theorem sizeFE_zero {p : List UInt8} (h : sizeFE p = 0) : p.length = 48 ∧ sizeF p = num (p.take 2) ∧ num (p.take 2) ≤ 1000 := by
  unfold sizeFE at h
  by_cases h1 : p.length = 48
  · by_cases h2 : 1000 < num (p.take 2)
    · rw [if_neg (by omega), if_pos h2] at h; cases h
    · exact ⟨h1, (sizeF_ok h1 h2).1, by omega⟩
  · rw [if_pos h1] at h; cases h
/-- The record with whose pieces a list begins: the record, how many pieces it has, the error. -/
def firstF (l : List (List UInt8)) : List UInt8 := l.headD []
def nF (l : List (List UInt8)) : Nat := sizeF (firstF l)
def mF (l : List (List UInt8)) : Nat := manyN (nF l)
def allF (l : List (List UInt8)) : List UInt8 := (l.take (mF l)).flatten
def recF (l : List (List UInt8)) : List UInt8 := ((allF l).drop 6).take (nF l)
/-- The first pieces are all of 48 bytes. -/
def fullF (l : List (List UInt8)) : Bool := (l.take (mF l)).all fun x => decide (x.length = 48)
def decE (l : List (List UInt8)) : Int :=
  if l = [] then 2 else if sizeFE (firstF l) ≠ 0 then sizeFE (firstF l) else if l.length < mF l then 2 else if fullF l = false then 2 else if allF l = padF (recF l) then 0 else 3
def decS (l : List (List UInt8)) : List UInt8 := if decE l = 0 then recF l else []
def decM (l : List (List UInt8)) : Nat := if decE l = 0 then mF l else 0
theorem fullF_all {l : List (List UInt8)} (h : fullF l = true) : ∀ x ∈ l.take (mF l), x.length = 48 := fun x hx => by
  have := List.all_eq_true.1 h x hx
  exact of_decide_eq_true this
theorem allF_len {l : List (List UInt8)} (h : fullF l = true) (hl : mF l ≤ l.length) : (allF l).length = 48 * mF l := by
  have := flat_len48 _ (fullF_all h)
  rw [List.length_take, Nat.min_eq_left hl] at this
  exact this
theorem recF_len {l : List (List UInt8)} (h : fullF l = true) (hl : mF l ≤ l.length) : (recF l).length = nF l := by
  have h1 := allF_len h hl
  have h2 := manyN_room (nF l)
  unfold recF
  rw [List.length_take, List.length_drop, h1]
  unfold mF
  omega
/-- What the program looks at: the sum, and that the rest is bytes 0. -/
theorem pad_cases {l : List (List UInt8)} (h : fullF l = true) (hl : mF l ≤ l.length) (hn : sizeFE (firstF l) = 0) (h0 : l ≠ []) :
    (allF l = padF (recF l) ↔ num (((allF l).drop 2).take 4) = crcN ((allF l).take 2 ++ recF l) ∧ ∀ x ∈ (allF l).drop (6 + nF l), x = 0) := by
  have h1 := allF_len h hl
  have h2 := manyN_room (nF l)
  have h3 := recF_len h hl
  have hm : mF l = manyN (nF l) := rfl
  have hmp := manyN_pos (nF l)
  have h4 : (allF l).take 2 = be 2 (nF l) := by
    obtain ⟨p, r, rfl⟩ : ∃ p r, l = p :: r := by cases l with | nil => exact absurd rfl h0 | cons p r => exact ⟨p, r, rfl⟩
    obtain ⟨g1, g2, g3⟩ := sizeFE_zero hn
    have g4 : (allF (p :: r)).take 2 = p.take 2 := by
      unfold allF
      obtain ⟨k, hk⟩ : ∃ k, mF (p :: r) = k + 1 := ⟨mF (p :: r) - 1, by omega⟩
      rw [hk, List.take_succ_cons, List.flatten_cons, List.take_append_of_le_length (by have : p.length = 48 := g1; omega)]
    have g5 : nF (p :: r) = num (p.take 2) := g2
    rw [g4, g5]
    have := be_num (p.take 2)
    have hp : p.length = 48 := g1
    rw [show (p.take 2).length = 2 by simp; omega] at this
    exact this.symm
  have e0 : allF l = (allF l).take 2 ++ ((allF l).drop 2).take 4 ++ recF l ++ (allF l).drop (6 + nF l) := by
    have a1 : (allF l).drop 6 = recF l ++ (allF l).drop (6 + nF l) := by
      unfold recF
      rw [show (allF l).drop (6 + nF l) = ((allF l).drop 6).drop (nF l) by rw [List.drop_drop], List.take_append_drop]
    have a2 : (allF l).drop 2 = ((allF l).drop 2).take 4 ++ (allF l).drop 6 := by
      rw [show (allF l).drop 6 = ((allF l).drop 2).drop 4 by rw [List.drop_drop], List.take_append_drop]
    rw [List.append_assoc, List.append_assoc, ← a1, ← a2, List.take_append_drop]
  have l1 : ((allF l).take 2).length = 2 := by rw [List.length_take, h1, hm]; omega
  have l2 : (((allF l).drop 2).take 4).length = 4 := by rw [List.length_take, List.length_drop, h1, hm]; omega
  have l3 : ((allF l).drop (6 + nF l)).length = 48 * manyN (nF l) - (6 + nF l) := by rw [List.length_drop, h1, hm]
  have e1 : padF (recF l) = be 2 (nF l) ++ be 4 (crcN (be 2 (nF l) ++ recF l)) ++ recF l ++ List.replicate (48 * manyN (nF l) - (6 + nF l)) 0 := by
    unfold padF bytesF headF; rw [h3]
  rw [e1, ← h4]
  constructor
  · intro e
    have e := e0.symm.trans e
    have b1 : ((allF l).take 2 ++ ((allF l).drop 2).take 4 ++ recF l).length = ((allF l).take 2 ++ be 4 (crcN ((allF l).take 2 ++ recF l)) ++ recF l).length := by
      simp only [List.length_append, be_length, l2]
    have hbig := List.append_inj e b1
    obtain ⟨c1, c2⟩ := hbig
    have d1 := List.append_inj' c1 rfl
    have d2 := List.append_inj' d1.1 (by rw [l2, be_length])
    have p4 : 256 ^ 4 = 4294967296 := by decide
    have hc4 := crcN_lt ((allF l).take 2 ++ recF l)
    refine ⟨?_, ?_⟩
    · have d3 := num_be 4 (crcN ((allF l).take 2 ++ recF l)) (by rw [p4]; exact hc4)
      exact (congrArg num d2.2).trans d3
    · rw [c2]
      intro x hx
      exact List.eq_of_mem_replicate hx
  · rintro ⟨c1, c2⟩
    have d1 : ((allF l).drop 2).take 4 = be 4 (crcN ((allF l).take 2 ++ recF l)) := by
      have := be_num (((allF l).drop 2).take 4)
      rw [l2, c1] at this
      exact this.symm
    have d2 : (allF l).drop (6 + nF l) = List.replicate (48 * manyN (nF l) - (6 + nF l)) 0 := List.eq_replicate_iff.2 ⟨l3, c2⟩
    rw [← d1, ← d2]
    exact e0

end
end Go.Proofs.YtbblkgdejgoncaaDoor

/- The walks of the sum's functions (layer 2): what each call returns, said by the plain function sumCrc. Nothing is assumed but that a text is of a length that can be. -/
namespace Go.Proofs.YtbblkgdejgoncaaDoor
open Go.RowKit

set_option maxHeartbeats 400000 in
theorem sum_crc_any (x : BitVec 32) (s : ByteArray) (w : World) (hs : s.size ≤ 9223372036854775807) :
    Calls Tryd.prog 86 #[.int .u32 (x.toNat : Int), .string s] w fun e w' => e = .returned (.int .u32 ((sumCrc x s.data.toList).toNat : Int)) ∧ w = w' := by
  go_enter Tryd.func86, Tryd.ntmps86
  go_wp2
  go_loop [5, 6, 7, 11] (fun x' _ _ j => ∃ k : Nat, k ≤ s.size ∧ j = .int .i64 k ∧ ∃ y : BitVec 32, y = sumCrc x (s.data.toList.take k) ∧ x' = .int .u32 (y.toNat : Int)) (fun _ _ _ i => s.size - (intOf i).toNat)
  case atStart => exact ⟨0, Nat.zero_le _, rfl, x, rfl, rfl⟩
  case round =>
    obtain ⟨k, hk, rfl, y, hy, rfl⟩ := hrel
    have Hy := Lib.hid hy
    clear hy
    by_cases hlt : k < s.size
    · have b1 := y.isLt
      have hin := Lib.hid (sum_in_byte y s[k])
      go_wp2
      go_loop [5, 7, 21] (fun x' _ j => ∃ m : Nat, m ≤ 8 ∧ j = .int .i64 m ∧ ∃ z : BitVec 32, z = sumTn m (y ^^^ (BitVec.ofNat 32 (s[k].toNat) <<< 24)) ∧ x' = .int .u32 (z.toNat : Int)) (fun _ _ i => 8 - (intOf i).toNat)
      case atStart => exact ⟨0, by omega, rfl, _, rfl, val_int hin.out⟩
      case round =>
        obtain ⟨m, hm, rfl, z, hz, rfl⟩ := hrel
        have Hz := Lib.hid hz
        clear hz
        have b2 := z.isLt
        by_cases hlt2 : m < 8
        · have hbit := Lib.hid (sum_in_bit z)
          go_wp2
          go_round
          case rel => exact ⟨m + 1, by omega, by go_num, _, rfl, val_int (by rw [sumTn, ← Hz.out]; exact hbit.out)⟩
          case measure => simp [intOf]; omega
        · have : m = 8 := by omega
          subst this
          go_wp2
          go_round
          case rel => exact ⟨k + 1, by omega, by go_num, z, by rw [take_snoc _ _ hlt, sumCrc_snoc, ← Hy.out]; exact Hz.out, rfl⟩
          case measure => simp [intOf]; omega
    · go_wp2
      go_ret
      exact ⟨ret_int (by rw [Hy.out, List.take_of_length_le (by simp; omega)]), rfl⟩

theorem sum_step_int (n : Int) (w : World) (h0 : 0 ≤ n) (h1 : n < 4294967296) :
    Calls Tryd.prog 116 #[.int .u32 n] w fun e w' => (∃ r : Int, e = .returned (.int .u32 r) ∧ (2147483648 ≤ n → r = bits BinOp.xor IntKind.u32 ((n - (2147483648 : Int)) * (2 : Int)) (79764919 : Int)) ∧ (n < 2147483648 → r = n * 2)) ∧ w = w' := by
  go_enter Tryd.func116, Tryd.ntmps116
  go_wp2
  · go_ret
    exact ⟨⟨_, rfl, fun _ => rfl, fun h => by omega⟩, rfl⟩
  · go_ret
    exact ⟨⟨_, rfl, fun h => by omega, fun _ => rfl⟩, rfl⟩
theorem sum_step_any (x : BitVec 32) (w : World) :
    Calls Tryd.prog 116 #[.int .u32 (x.toNat : Int)] w fun e w' => e = .returned (.int .u32 ((sumT x).toNat : Int)) ∧ w = w' := by
  have b1 := x.isLt
  refine (sum_step_int _ w (by omega) (by omega)).mono ?_
  rintro e w' ⟨⟨r, rfl, hh, hl⟩, rfl⟩
  refine ⟨ret_int ?_, rfl⟩
  by_cases h : 2147483648 ≤ x.toNat
  · rw [hh (by omega), sum_step_high x h]
  · rw [hl (by omega), sum_step_low x (by omega)]

set_option maxHeartbeats 400000 in
theorem sum_rcrc_any (x : BitVec 32) (s : ByteArray) (w : World) (hs : s.size ≤ 9223372036854775807) :
    Calls Tryd.prog 105 #[.int .u32 (x.toNat : Int), .string s] w fun e w' => e = .returned (.int .u32 ((sumCrc x s.data.toList).toNat : Int)) ∧ w = w' := by
  go_enter Tryd.func105, Tryd.ntmps105
  go_wp2
  go_loop [5, 6, 7] (fun x' j _ => ∃ k : Nat, k ≤ s.size ∧ j = .int .i64 k ∧ ∃ y : BitVec 32, y = sumCrc x (s.data.toList.take k) ∧ x' = .int .u32 (y.toNat : Int)) (fun _ i _ => s.size - (intOf i).toNat)
  case atStart => exact ⟨0, Nat.zero_le _, rfl, x, rfl, rfl⟩
  case round =>
    obtain ⟨k, hk, rfl, y, hy, rfl⟩ := hrel
    have Hy := Lib.hid hy
    clear hy
    by_cases hlt : k < s.size
    · have b1 := y.isLt
      have hin := Lib.hid (sum_in_byte y s[k])
      go_wp2
      go_loop [5, 7] (fun x' j => ∃ m : Nat, m ≤ 8 ∧ j = .int .i64 m ∧ ∃ z : BitVec 32, z = sumTn m (y ^^^ (BitVec.ofNat 32 (s[k].toNat) <<< 24)) ∧ x' = .int .u32 (z.toNat : Int)) (fun _ i => 8 - (intOf i).toNat)
      case atStart => exact ⟨0, by omega, rfl, _, rfl, val_int hin.out⟩
      case round =>
        obtain ⟨m, hm, rfl, z, hz, rfl⟩ := hrel
        have Hz := Lib.hid hz
        clear hz
        by_cases hlt2 : m < 8
        · go_wp2_with (go_at_call 116; refine (sum_step_any z _).mono ?_; rintro e w' ⟨rfl, rfl⟩)
          go_round
          case rel => exact ⟨m + 1, by omega, by go_num, _, rfl, val_int (by rw [sumTn, ← Hz.out])⟩
          case measure => simp [intOf]; omega
        · have : m = 8 := by omega
          subst this
          go_wp2
          go_round
          case rel => exact ⟨k + 1, by omega, by go_num, z, by rw [take_snoc _ _ hlt, sumCrc_snoc, ← Hy.out]; exact Hz.out, rfl⟩
          case measure => simp [intOf]; omega
    · go_wp2
      go_ret
      exact ⟨ret_int (by rw [Hy.out, List.take_of_length_le (by simp; omega)]), rfl⟩

end Go.Proofs.YtbblkgdejgoncaaDoor

/- The sums of texts and the numbers of bytes: contracts. -/
set_option linter.unusedSimpArgs false
set_option linter.unusedVariables false
namespace Go.Proofs.YtbblkgdejgoncaaDoor
open Go Go.RowKit

section
theorem infSumW_9 : Tryd.prog.info? 9 = some Tryd.t9 := by kernel_rfl


theorem ct_crc (x : BitVec 32) (l : List UInt8) (h : l.length ≤ 9223372036854775807) : Ct Tryd.prog 86 [.int .u32 (x.toNat : Int), .string (bs l)] [] [] (fun v post => v = .int .u32 ((sumCrc x l).toNat : Int) ∧ post = []) :=
  ct_same (fun w => by
    have := sum_crc_any x (bs l) w (by rw [bs_size]; omega)
    rw [bs_data] at this
    exact this)
theorem ct_rcrc (x : BitVec 32) (l : List UInt8) (h : l.length ≤ 9223372036854775807) : Ct Tryd.prog 105 [.int .u32 (x.toNat : Int), .string (bs l)] [] [] (fun v post => v = .int .u32 ((sumCrc x l).toNat : Int) ∧ post = []) :=
  ct_same (fun w => by
    have := sum_rcrc_any x (bs l) w (by rw [bs_size]; omega)
    rw [bs_data] at this
    exact this)
theorem fixed_of (v : Int) (n : Nat) (h1 : 1 ≤ n) (h8 : n ≤ 8) (h0 : 0 ≤ v) (h : v < ((256 ^ n : Nat) : Int)) : fixed v.toNat (n : Int) = (be n v.toNat, 0) := fixed_yes v.toNat n h1 h8 (by omega)
theorem ct_fixed (v : Int) (n : Nat) (h1 : 1 ≤ n) (h8 : n ≤ 8) (h0 : 0 ≤ v) (h : v < ((256 ^ n : Nat) : Int)) (h64 : v < 18446744073709551616) : Ct Tryd.prog 82 [.int .u64 v, .int .i64 (n : Int)] [] [] (fun v' post => v' = .tuple #[.string (bs (be n v.toNat)), .int .i64 0] ∧ post = []) :=
  ct_below (fun w => by
    have := fixed_any v.toNat n w (by unfold U64; omega) (by omega) (by omega)
    rw [fixed_of v n h1 h8 h0 h, Int.toNat_of_nonneg h0] at this
    exact this)
theorem ct_rfixed (v : Int) (n : Nat) (h1 : 1 ≤ n) (h8 : n ≤ 8) (h0 : 0 ≤ v) (h : v < ((256 ^ n : Nat) : Int)) (h64 : v < 18446744073709551616) : Ct Tryd.prog 83 [.int .u64 v, .int .i64 (n : Int)] [] [] (fun v' post => v' = .tuple #[.string (bs (be n v.toNat)), .int .i64 0] ∧ post = []) :=
  ct_below (fun w => by
    have := rfixed_any v.toNat n w (by unfold U64; omega) (by omega) (by omega)
    rw [fixed_of v n h1 h8 h0 h, Int.toNat_of_nonneg h0] at this
    exact this)
theorem ct_number (l : List UInt8) (h1 : 1 ≤ l.length) (h8 : l.length ≤ 8) : Ct Tryd.prog 58 [.string (bs l)] [] [] (fun v' post => v' = .tuple #[.int .u64 ((num l : Nat) : Int), .int .i64 0] ∧ post = []) :=
  ct_same (fun w => by
    have := number_any (bs l) w (by rw [bs_size]; omega)
    rw [bs_data, number_yes l (by omega)] at this
    exact this)
theorem p256_2 : ((256 ^ 2 : Nat) : Int) = 65536 := by decide
theorem p256_4 : ((256 ^ 4 : Nat) : Int) = 4294967296 := by decide

set_option maxRecDepth 100000 in
set_option maxHeartbeats 1000000 in
theorem sum_of (o1 : Option Nat) (p1 q1 : Nat) (c1 : Array Value) (T1 : TypeId) (f1 : Nat × Nat) (ls : List (List UInt8)) (hs : Sees 1 o1 p1 q1 c1 (ls.map strC) ls.length) (hl : ∀ s ∈ ls, s.length ≤ 9223372036854775807) :
    Ct Tryd.prog 59 [sv o1 p1 ls.length q1] [(o1, .cells c1 T1 f1)] [] fun v post => v = .int .u32 ((crcW ls).toNat : Int) ∧ post = [] := by
 have hk1 := hs.le
 have hk2 := hs.max
 refine ct_of Tryd.func59 rfl rfl (fun w0 => ?_)
 show G _ _ [(0, _)] _ _
 refine G_seq ?_
 refine G_region (l := [0]) rfl ?_
 refine G_val rfl rfl rfl rfl (V_assign rfl rfl) ?_
 refine G_done ?_
 refine G_seq ?_
 refine G_region (l := [0]) rfl ?_
 refine G_val rfl rfl rfl rfl (V_assign rfl rfl) ?_
 refine G_done ?_
 refine G_seq ?_
 refine G_seq ?_
 refine G_region (l := [0, 1, 2]) rfl ?_
 refine G_val rfl rfl rfl rfl (V_move rfl rfl) ?_
 refine G_val rfl rfl rfl rfl (V_len rfl rfl Tryd.underlying24 rfl) ?_
 refine G_val rfl rfl rfl rfl (V_move rfl rfl) ?_
 refine G_done ?_
 refine G_block ?_
 refine G_sub ?he3 [] ?hl3 (G_loop (X := Nat) (fun i => i ≤ ls.length) (fun i => ls.length - i) (fun i => [(3, .int .u32 ((crcW (ls.take i)).toNat : Int)), (6, sv o1 p1 ls.length q1), (7, .int .i64 (ls.length : Int)), (8, .int .i64 (i : Int))]) (fun i => []) ?round3 0 ?h03)
 case he3 => exact (And.intro rfl (And.intro rfl (And.intro rfl (And.intro rfl trivial))))
 case hl3 => exact ⟨_, rfl⟩
 case h03 => exact Nat.zero_le _
 case round3 =>
  intro i hJ ih
  try dsimp only at hJ ih
  refine G_seq ?_
  refine G_region (l := [0]) rfl ?_
  refine G_val rfl rfl rfl rfl (V_lss rfl rfl rfl) ?_
  refine G_done ?_
  refine G_seq ?_
  refine G_ifD rfl (fun hc1 => ?_) (fun hc1 => ?_)
  · skip
    refine G_skip ?_
    refine G_seq ?_
    refine G_block ?_
    refine G_seq ?_
    obtain ⟨s, hx⟩ := getI (show i < ls.length by omega)
    obtain ⟨b1, rfl⟩ := hs.isSome (by omega)
    refine G_region (l := [0, 1, 2]) rfl ?_
    first
      | refine G_val rfl rfl rfl rfl (V_indexAddrN (s := 1) rfl Tryd.underlying24 infSumW_9 rfl rfl rfl rfl (by omega)) ?_
      | refine G_val rfl rfl rfl rfl (V_indexAddr (s := 1) rfl Tryd.underlying24 infSumW_9 rfl rfl rfl (by omega) (by first | omega | (simp; done) | (simp; omega) | (simp at *; omega))) ?_
    refine G_val rfl rfl rfl rfl (V_load1 rfl rfl (mem_at 0 rfl) (nth_of (hs.cell hx)) Tryd.underlying9 rfl) ?_
    refine G_val rfl rfl rfl rfl (V_assign rfl rfl) ?_
    refine G_done ?_
    refine G_region (l := [0, 1, 2, 3]) rfl ?_
    refine G_val rfl rfl rfl rfl (V_move rfl rfl) ?_
    refine G_val rfl rfl rfl rfl (V_move rfl rfl) ?_
    refine G_call (L2 := []) rfl rfl rfl rfl rfl rfl Tryd.call86 (ct_crc _ _ (hl s (List.mem_of_getElem? hx))) [] [] rfl rfl ?_
    rintro v post ⟨rfl, rfl⟩
    refine G_val rfl rfl rfl rfl (V_assign rfl rfl) ?_
    refine G_done ?_
    refine G_inBlock ?_
    rw [← crcW_next hx]
    refine G_region (l := [0, 1]) rfl ?_
    first
      | refine G_val rfl rfl rfl rfl ((V_add rfl rfl rfl).int (wrap_i64 (by omega))) ?_
      | refine G_val rfl rfl rfl rfl (V_add rfl rfl rfl) ?_
    refine G_val rfl rfl rfl rfl (V_move rfl rfl) ?_
    refine G_done ?_
    refine G_sub ?_ [] ?_ (ih (i + 1) ?_ ?_)
    · (refine (And.intro ?_ (And.intro ?_ (And.intro ?_ (And.intro ?_ trivial)))) <;> first | rfl | exact slot_int (by omega) | exact slot_int (by simp))
    · exact ⟨_, rfl⟩
    · omega
    · (first | omega | (dsimp only; omega))
  refine G_exit rfl ?_
  refine G_seq ?_
  refine G_region (l := [0, 1]) rfl ?_
  refine G_val rfl rfl rfl rfl (V_move rfl rfl) ?_
  refine G_val rfl rfl rfl rfl (V_assign rfl rfl) ?_
  refine G_done ?_
  refine G_ret (post := []) Tryd.func59 rfl (RVs_cons (RV_tmp rfl) RVs_nil) [] rfl ?_
  dsimp only [packed]
  rw [List.take_of_length_le (by omega)]; exact ⟨rfl, rfl⟩

set_option maxRecDepth 100000 in
set_option maxHeartbeats 1000000 in
theorem rsum_of (l : List UInt8) (h : l.length ≤ 9223372036854775807) :
    Ct Tryd.prog 84 [.string (bs l)] [] [] fun v post => v = .int .u32 ((crcN l : Nat) : Int) ∧ post = [] := by
 refine ct_of Tryd.func84 rfl rfl (fun w0 => ?_)
 show G _ _ [(0, _)] _ _
 refine G_seq ?_
 refine G_region (l := [0]) rfl ?_
 refine G_val rfl rfl rfl rfl (V_assign rfl rfl) ?_
 refine G_done ?_
 refine G_seq ?_
 refine G_region (l := [0, 1, 2]) rfl ?_
 refine G_val rfl rfl rfl rfl (V_move rfl rfl) ?_
 refine G_call (L2 := []) rfl rfl rfl rfl rfl rfl Tryd.call105 (ct_rcrc 4294967295#32 l h) [] [] rfl rfl ?_
 rintro v post ⟨rfl, rfl⟩
 refine G_val rfl rfl rfl rfl (V_assign rfl rfl) ?_
 refine G_done ?_
 refine G_ret (post := []) Tryd.func84 rfl (RVs_cons (RV_tmp rfl) RVs_nil) [] rfl ?_
 dsimp only [packed]
 exact ⟨rfl, rfl⟩

end
end Go.Proofs.YtbblkgdejgoncaaDoor

/- Parts of slices: from a place on; with a third index. -/
set_option linter.unusedSimpArgs false
set_option linter.unusedVariables false
namespace Go.Proofs.YtbblkgdejgoncaaDoor
open Go Go.RowKit

section
variable {c : Cx} {n : Nat} {env : List (Nat × Value)} {L : List (Option Nat × Obj)} {o : Oper}
theorem V_sliceLHM {x xl xh xm : Operand} {t e : TypeId} {ti : TypeInfo} {s b off len cap lo hi mx : Nat} {q q' q'' : IntKind} {zl zh zm : Int} (hop : o.op = .slice t x (some xl) (some xh) (some xm)) (hu : c.P.underlying t = some (.slice e)) (hs : c.P.info? e = some ti) (hsz : ti.size = s) (hx : fev env x = some (.slice (some ⟨b, off, none⟩) len cap))
    (hl : fev env xl = some (.int q zl)) (hh : fev env xh = some (.int q' zh)) (hm : fev env xm = some (.int q'' zm)) (el : zl = (lo : Int)) (eh : zh = (hi : Int)) (em : zm = (mx : Int)) (h1 : lo ≤ hi) (h2 : hi ≤ mx) (h3 : mx ≤ cap) : Val c n env L o (.slice (some ⟨b, if mx = lo then off else off + lo * s, none⟩) (hi - lo) (mx - lo)) := fun a w hk _ => by
  subst el eh em hsz
  have e0 : (0 : Int) ≤ (mx : Int) ∧ (mx : Int) ≤ (cap : Int) := by omega
  have e1 : (0 : Int) ≤ (hi : Int) ∧ (hi : Int) ≤ (mx : Int) := by omega
  have e2 : (0 : Int) ≤ (lo : Int) ∧ (lo : Int) ≤ (hi : Int) := by omega
  simp only [execOp, hop, hk.eval hx, hk.eval hl, hk.eval hh, hk.eval hm, Option.map_some, Option.map_none, Instr.sliceAt, Instr.slice, run_underlying hu, Instr.sliceBounds, Instr.sliceBound, asIntOf, Sem.run_bind, Sem.run_pure, Result.andThen_ok, if_pos e0, if_pos e1, if_pos e2, sizeOf, typeInfo, run_program, hs, Int.toNat_natCast, Option.isSome_none, Option.isSome_some, Bool.false_eq_true, if_false, if_true]
  by_cases h : mx = lo
  · simp [h]
  · simp [h, Addr.add_lit]
theorem V_sliceLo {x xl : Operand} {t e : TypeId} {ti : TypeInfo} {s b off len cap lo : Nat} {q : IntKind} {zl : Int} (hop : o.op = .slice t x (some xl) none none) (hu : c.P.underlying t = some (.slice e)) (hs : c.P.info? e = some ti) (hsz : ti.size = s) (hx : fev env x = some (.slice (some ⟨b, off, none⟩) len cap))
    (hl : fev env xl = some (.int q zl)) (el : zl = (lo : Int)) (h1 : lo ≤ len) (h2 : len ≤ cap) : Val c n env L o (.slice (some ⟨b, if cap = lo then off else off + lo * s, none⟩) (len - lo) (cap - lo)) := fun a w hk _ => by
  subst el hsz
  have e1 : (0 : Int) ≤ (len : Int) ∧ (len : Int) ≤ (cap : Int) := by omega
  have e2 : (0 : Int) ≤ (lo : Int) ∧ (lo : Int) ≤ (len : Int) := by omega
  simp only [execOp, hop, hk.eval hx, hk.eval hl, Option.map_some, Option.map_none, Instr.sliceAt, Instr.slice, run_underlying hu, Instr.sliceBounds, Instr.sliceBound, asIntOf, Sem.run_bind, Sem.run_pure, Result.andThen_ok, if_pos e1, if_pos e2, sizeOf, typeInfo, run_program, hs, Int.toNat_natCast, Option.isSome_none, Bool.false_eq_true, if_false, if_true]
  by_cases h : cap = lo
  · simp [h]
  · simp [h, Addr.add_lit]
end
end Go.Proofs.YtbblkgdejgoncaaDoor
