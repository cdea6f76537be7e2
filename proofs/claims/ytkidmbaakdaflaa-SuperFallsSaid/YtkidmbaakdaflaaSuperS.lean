/- The walks of layer 24, on: which super counts; what a disk loads, and stores. -/
import Derived.Test.YtkidmbaakdaflaaSuperR
import Derived.Test.YtkidmbaakdaflaaDiskY
set_option linter.unusedSimpArgs false
set_option linter.unusedVariables false
namespace Go.Proofs.Ytkidmbaakdaflaa
open Go Go.RowKit

section
theorem infSuperS_4 : Try.prog.info? 4 = some Try.t4 := by kernel_rfl
theorem infSuperS_9 : Try.prog.info? 9 = some Try.t9 := by kernel_rfl
theorem infSuperS_73 : Try.prog.info? 73 = some Try.t73 := by kernel_rfl
theorem infSuperS_75 : Try.prog.info? 75 = some Try.t75 := by kernel_rfl
theorem infSuperS_167 : Try.prog.info? 167 = some Try.t167 := by kernel_rfl
theorem plcSuperS_75 : placesOf Try.prog (Try.prog.fieldsOf 75) = some [(0, 1), (1, 1), (2, 1), (3, 1), (4, 1)] := by kernel_rfl


theorem big_size {v : Nat} (h : v < 18446744073709551616) (h2 : 1099511627776 < (v : Int)) : ¬ (0 ≤ IntKind.i64.wrap (v : Int) ∧ IntKind.i64.wrap (v : Int) ≤ 1099511627776) := by
  have e : IntKind.i64.wrap (v : Int) = if 9223372036854775808 ≤ (v : Int) % 18446744073709551616 then (v : Int) % 18446744073709551616 - 18446744073709551616 else (v : Int) % 18446744073709551616 := by simp [IntKind.wrap, IntKind.bits, IntKind.signed]
  rw [e]; split <;> omega
theorem isS_big {b : List UInt8} (h : 1099511627776 < ((num (((openD b).take 23).drop 15) : Nat) : Int)) : ¬ isS b := fun x => by
  have e : ((openD b).take 23).drop 15 = ((openD b).drop 15).take 8 := cut_at (openD b) 15 8
  rw [e] at h
  have h8 := num_in (openD b) 15 8
  exact big_size (by omega) h ⟨x.2.1.2.2.2.2.1, x.2.1.2.2.2.2.2⟩
theorem num_one (D : List UInt8) (h : D.length = 48) : num ((D.drop 14).take 1) = (D.getD 14 0).toNat := by
  have e : (D.drop 14).take 1 = [D.getD 14 0] := by
    have h14 : 14 < D.length := by omega
    rw [List.drop_eq_getElem_cons h14, List.take_succ_cons, List.take_zero, List.getD_eq_getElem?_getD, List.getElem?_eq_getElem h14]; rfl
  rw [e]; simp [num]
theorem openA_ok {b : List UInt8} (h : openOk b = true) : openA b = .agg #[.int .u32 ((openE b : Nat) : Int), .int .u32 ((openI b : Nat) : Int), .string (bs (openD b)), .bool true] := by unfold openA; rw [h]
theorem cells_get (D : List UInt8) (h : D.length = 48) (hz : ((num ((D.take 23).drop 15) : Nat) : Int) ≤ 1099511627776) :
    #[Value.int .u32 ((num ((D.take 6).drop 2) : Nat) : Int), .int .u32 ((num ((D.take 10).drop 6) : Nat) : Int), .int .u32 ((num ((D.take 14).drop 10) : Nat) : Int), .int .i64 (((D.getD (Int.toNat 14) 0).toNat : Nat) : Int), .int .i64 ((num ((D.take 23).drop 15) : Nat) : Int)] = (spCells (getS D)).toArray := by
  have e14 : Int.toNat 14 = 14 := rfl
  rw [e14]
  have e5 : (D.take 23).drop 15 = (D.drop 15).take 8 := cut_at D 15 8
  rw [show (D.take 6).drop 2 = (D.drop 2).take 4 from cut_at D 2 4, show (D.take 10).drop 6 = (D.drop 6).take 4 from cut_at D 6 4, show (D.take 14).drop 10 = (D.drop 10).take 4 from cut_at D 10 4, e5, ← num_one D h]
  rw [e5] at hz
  unfold spCells getS
  rw [wrap_small (by omega) (by omega)]

set_option maxRecDepth 100000 in
set_option maxHeartbeats 1000000 in
theorem rsup_decode (b : List UInt8) (hb : b.length ≤ 9223372036854775807) :
    Ct Try.prog 51 [.string (bs b)] [] [] fun v post => v = .agg (spCells (decS b)).toArray ∧ post = [] := by
 refine ct_of Try.func51 rfl rfl (fun w0 => ?_)
 show G _ _ [(0, _)] _ _
 refine G_seq ?_
 refine G_region (l := [0]) rfl ?_
 refine G_new rfl rfl rfl rfl (N_allocA rfl infSuperS_75 rfl) (fun b2 => ?_)
 refine G_done ?_
 refine G_seq ?_
 cases ho : openOk b
 · skip
   refine G_region (l := [0, 1, 2, 3]) rfl ?_
   refine G_val rfl rfl rfl rfl (V_move rfl rfl) ?_
   refine G_call (L2 := [_]) rfl rfl rfl rfl rfl rfl Try.call121 ((rseal_open b hb).weaken (fun v post h => by rw [openA_not ho] at h; exact h)) [] [] rfl rfl ?_
   rintro v post ⟨rfl, rfl⟩
   show G _ _ _ [_] _
   refine G_new rfl rfl rfl rfl (N_allocA rfl infSuperS_167 rfl) (fun b3 => ?_)
   refine G_put (l1 := []) (L' := [_, _]) rfl rfl rfl rfl (P_storeA (s := 4) rfl rfl rfl (mem_at 0 rfl) (by first | rfl | (simp [bcells_length, spCells, pCells, spCells, pCells, wCells, kCells, wCells, kCells, wCells, kCells, spCells, pCells, wCells, kCells]; done) | (simp [bcells_length, spCells, pCells, spCells, pCells, wCells, kCells, wCells, kCells, wCells, kCells, spCells, pCells, wCells, kCells]; omega) | (simp [bcells_length, *, spCells, pCells, spCells, pCells, wCells, kCells, wCells, kCells, wCells, kCells, spCells, pCells, wCells, kCells]; done)) infSuperS_167 rfl (by first | rfl | (simp [bcells_length, spCells, pCells, spCells, pCells, wCells, kCells, wCells, kCells, wCells, kCells, spCells, pCells, wCells, kCells]; done) | (simp [bcells_length, spCells, pCells, spCells, pCells, wCells, kCells, wCells, kCells, wCells, kCells, spCells, pCells, wCells, kCells]; omega) | (simp [bcells_length, *, spCells, pCells, spCells, pCells, wCells, kCells, wCells, kCells, wCells, kCells, spCells, pCells, wCells, kCells]; done)) (by first | rfl | exact bcells_all _ | (simp [Value.oneCell', spCells, pCells, spCells, pCells, wCells, kCells, wCells, kCells, wCells, kCells, spCells, pCells, wCells, kCells]; done) | (simp [Value.oneCell', *, spCells, pCells, spCells, pCells, wCells, kCells, wCells, kCells, wCells, kCells, spCells, pCells, wCells, kCells]; done))) rfl ?_
   refine G_done ?_
   refine G_seq ?_
   refine G_seq ?_
   refine G_region (l := [0, 1, 2]) rfl ?_
   refine G_val rfl rfl rfl rfl (V_fieldAddr (fo := 3) rfl Try.underlying167 rfl infSuperS_4 rfl rfl rfl) ?_
   refine G_val rfl rfl rfl rfl (V_load1 rfl rfl (mem_at 0 rfl) rfl Try.underlying4 rfl) ?_
   refine G_val rfl rfl rfl rfl (V_not rfl rfl) ?_
   refine G_done ?_
   refine G_if rfl (fun hc1 => ?_) (fun hc1 => ?_)
   rotate_left
   · (first | (exact absurd rfl hc1) | (exact absurd hc1 Bool.false_ne_true) | (exact absurd hc1 (by decide)) | (exact absurd hc1 hne) | (exact absurd hne hc1) | (exfalso; omega))
   refine G_seq ?_
   refine G_region (l := [0, 1]) rfl ?_
   refine G_val rfl rfl rfl rfl (V_buildS (cs := [_, _, _, _, _]) rfl Try.underlying75 infSuperS_75 rfl plcSuperS_75 rfl rfl rfl) ?_
   refine G_put (l1 := [_]) (L' := [_, _]) rfl rfl rfl rfl (P_storeA (s := 5) rfl rfl rfl (mem_at 1 rfl) (by first | rfl | (simp [bcells_length, spCells, pCells, spCells, pCells, wCells, kCells, wCells, kCells, wCells, kCells, spCells, pCells, wCells, kCells]; done) | (simp [bcells_length, spCells, pCells, spCells, pCells, wCells, kCells, wCells, kCells, wCells, kCells, spCells, pCells, wCells, kCells]; omega) | (simp [bcells_length, *, spCells, pCells, spCells, pCells, wCells, kCells, wCells, kCells, wCells, kCells, spCells, pCells, wCells, kCells]; done)) infSuperS_75 rfl (by first | rfl | (simp [bcells_length, spCells, pCells, spCells, pCells, wCells, kCells, wCells, kCells, wCells, kCells, spCells, pCells, wCells, kCells]; done) | (simp [bcells_length, spCells, pCells, spCells, pCells, wCells, kCells, wCells, kCells, wCells, kCells, spCells, pCells, wCells, kCells]; omega) | (simp [bcells_length, *, spCells, pCells, spCells, pCells, wCells, kCells, wCells, kCells, wCells, kCells, spCells, pCells, wCells, kCells]; done)) (by first | rfl | exact bcells_all _ | (simp [Value.oneCell', spCells, pCells, spCells, pCells, wCells, kCells, wCells, kCells, wCells, kCells, spCells, pCells, wCells, kCells]; done) | (simp [Value.oneCell', *, spCells, pCells, spCells, pCells, wCells, kCells, wCells, kCells, wCells, kCells, spCells, pCells, wCells, kCells]; done))) rfl ?_
   refine G_done ?_
   refine G_ret (post := []) Try.func51 rfl (RVs_cons (RV_cell (s := 5) rfl (mem_at 1 rfl) Try.underlying75 rfl infSuperS_75 rfl (by first | rfl | (simp [bcells_length, spCells, pCells, spCells, pCells, wCells, kCells, wCells, kCells, wCells, kCells, spCells, pCells, wCells, kCells]; done) | (simp [bcells_length, spCells, pCells, spCells, pCells, wCells, kCells, wCells, kCells, wCells, kCells, spCells, pCells, wCells, kCells]; omega) | (simp [bcells_length, *, spCells, pCells, spCells, pCells, wCells, kCells, wCells, kCells, wCells, kCells, spCells, pCells, wCells, kCells]; done))) RVs_nil) [] rfl ?_
   dsimp only [packed]
   first
     | (rw [decS_no (isS_not1 ho)]; exact ⟨rfl, rfl⟩)
     | (rw [decS_no (isS_big (by assumption))]; exact ⟨rfl, rfl⟩)
     | (rw [decS_no his]; exact ⟨rfl, rfl⟩)
     | (rw [decS_yes his]; exact ⟨rfl, rfl⟩)
 · skip
   refine G_region (l := [0, 1, 2, 3]) rfl ?_
   refine G_val rfl rfl rfl rfl (V_move rfl rfl) ?_
   refine G_call (L2 := [_]) rfl rfl rfl rfl rfl rfl Try.call121 ((rseal_open b hb).weaken (fun v post h => by rw [openA_ok ho] at h; exact h)) [] [] rfl rfl ?_
   rintro v post ⟨rfl, rfl⟩
   show G _ _ _ [_] _
   refine G_new rfl rfl rfl rfl (N_allocA rfl infSuperS_167 rfl) (fun b3 => ?_)
   refine G_put (l1 := []) (L' := [_, _]) rfl rfl rfl rfl (P_storeA (s := 4) rfl rfl rfl (mem_at 0 rfl) (by first | rfl | (simp [bcells_length, spCells, pCells, spCells, pCells, wCells, kCells, wCells, kCells, wCells, kCells, spCells, pCells, wCells, kCells]; done) | (simp [bcells_length, spCells, pCells, spCells, pCells, wCells, kCells, wCells, kCells, wCells, kCells, spCells, pCells, wCells, kCells]; omega) | (simp [bcells_length, *, spCells, pCells, spCells, pCells, wCells, kCells, wCells, kCells, wCells, kCells, spCells, pCells, wCells, kCells]; done)) infSuperS_167 rfl (by first | rfl | (simp [bcells_length, spCells, pCells, spCells, pCells, wCells, kCells, wCells, kCells, wCells, kCells, spCells, pCells, wCells, kCells]; done) | (simp [bcells_length, spCells, pCells, spCells, pCells, wCells, kCells, wCells, kCells, wCells, kCells, spCells, pCells, wCells, kCells]; omega) | (simp [bcells_length, *, spCells, pCells, spCells, pCells, wCells, kCells, wCells, kCells, wCells, kCells, spCells, pCells, wCells, kCells]; done)) (by first | rfl | exact bcells_all _ | (simp [Value.oneCell', spCells, pCells, spCells, pCells, wCells, kCells, wCells, kCells, wCells, kCells, spCells, pCells, wCells, kCells]; done) | (simp [Value.oneCell', *, spCells, pCells, spCells, pCells, wCells, kCells, wCells, kCells, wCells, kCells, spCells, pCells, wCells, kCells]; done))) rfl ?_
   refine G_done ?_
   refine G_seq ?_
   refine G_seq ?_
   refine G_region (l := [0, 1, 2]) rfl ?_
   refine G_val rfl rfl rfl rfl (V_fieldAddr (fo := 3) rfl Try.underlying167 rfl infSuperS_4 rfl rfl rfl) ?_
   refine G_val rfl rfl rfl rfl (V_load1 rfl rfl (mem_at 0 rfl) rfl Try.underlying4 rfl) ?_
   refine G_val rfl rfl rfl rfl (V_not rfl rfl) ?_
   refine G_done ?_
   refine G_if rfl (fun hc1 => ?_) (fun hc1 => ?_)
   · (first | (exact absurd rfl hc1) | (exact absurd hc1 Bool.false_ne_true) | (exact absurd hc1 (by decide)) | (exact absurd hc1 hne) | (exact absurd hne hc1) | (exfalso; omega))
   refine G_skip ?_
   refine G_seq ?_
   have hd48 := openD_64 ho
   refine G_region (l := [0, 1, 2]) rfl ?_
   refine G_val rfl rfl rfl rfl (V_fieldAddr (fo := 2) rfl Try.underlying167 rfl infSuperS_9 rfl rfl rfl) ?_
   refine G_val rfl rfl rfl rfl (V_load1 rfl rfl (mem_at 0 rfl) rfl Try.underlying9 rfl) ?_
   refine G_val rfl rfl rfl rfl (V_assign rfl rfl) ?_
   refine G_done ?_
   refine G_seq ?_
   refine G_region (l := [0, 1, 2, 3]) rfl ?_
   refine G_val rfl rfl rfl rfl (V_move rfl rfl) ?_
   first
     | refine G_val rfl rfl rfl rfl (V_ssliceN (lo := 15) (hi := 23) rfl Try.underlying9 rfl rfl rfl rfl rfl (by first | omega | (simp [spCells, pCells, spCells, pCells, wCells, kCells, wCells, kCells, wCells, kCells, spCells, pCells, wCells, kCells]; done) | (simp [spCells, pCells, spCells, pCells, wCells, kCells, wCells, kCells, wCells, kCells, spCells, pCells, wCells, kCells]; omega) | (simp [spCells, pCells, spCells, pCells, wCells, kCells, wCells, kCells, wCells, kCells, spCells, pCells, wCells, kCells] at *; omega)) (by first | omega | (simp [spCells, pCells, spCells, pCells, wCells, kCells, wCells, kCells, wCells, kCells, spCells, pCells, wCells, kCells]; done) | (simp [spCells, pCells, spCells, pCells, wCells, kCells, wCells, kCells, wCells, kCells, spCells, pCells, wCells, kCells]; omega) | (simp [spCells, pCells, spCells, pCells, wCells, kCells, wCells, kCells, wCells, kCells, spCells, pCells, wCells, kCells] at *; omega))) ?_
     | refine G_val rfl rfl rfl rfl (V_sslice rfl Try.underlying9 rfl rfl rfl (by first | omega | (simp [spCells, pCells, spCells, pCells, wCells, kCells, wCells, kCells, wCells, kCells, spCells, pCells, wCells, kCells]; done) | (simp [spCells, pCells, spCells, pCells, wCells, kCells, wCells, kCells, wCells, kCells, spCells, pCells, wCells, kCells]; omega) | (simp [spCells, pCells, spCells, pCells, wCells, kCells, wCells, kCells, wCells, kCells, spCells, pCells, wCells, kCells] at *; omega)) (by first | omega | (simp [spCells, pCells, spCells, pCells, wCells, kCells, wCells, kCells, wCells, kCells, spCells, pCells, wCells, kCells]; done) | (simp [spCells, pCells, spCells, pCells, wCells, kCells, wCells, kCells, wCells, kCells, spCells, pCells, wCells, kCells]; omega) | (simp [spCells, pCells, spCells, pCells, wCells, kCells, wCells, kCells, wCells, kCells, spCells, pCells, wCells, kCells] at *; omega)) (by first | omega | (simp [spCells, pCells, spCells, pCells, wCells, kCells, wCells, kCells, wCells, kCells, spCells, pCells, wCells, kCells]; done) | (simp [spCells, pCells, spCells, pCells, wCells, kCells, wCells, kCells, wCells, kCells, spCells, pCells, wCells, kCells]; omega) | (simp [spCells, pCells, spCells, pCells, wCells, kCells, wCells, kCells, wCells, kCells, spCells, pCells, wCells, kCells] at *; omega))) ?_
   refine G_call (L2 := [_, _]) rfl rfl rfl rfl rfl rfl Try.call122 (rsup_number _ (by first | omega | (simp; omega)) (by first | omega | (simp; omega))) [] [] rfl rfl ?_
   rintro v post ⟨rfl, rfl⟩
   show G _ _ _ [_, _] _
   refine G_val rfl rfl rfl rfl (V_assign rfl rfl) ?_
   refine G_done ?_
   refine G_seq ?_
   refine G_seq ?_
   refine G_region (l := [0, 1]) rfl ?_
   refine G_val rfl rfl rfl rfl (V_move rfl rfl) ?_
   refine G_val rfl rfl rfl rfl (V_gtr rfl rfl rfl) ?_
   refine G_done ?_
   refine G_ifD rfl (fun hc2 => ?_) (fun hc2 => ?_)
   · skip
     refine G_seq ?_
     refine G_region (l := [0, 1]) rfl ?_
     refine G_val rfl rfl rfl rfl (V_buildS (cs := [_, _, _, _, _]) rfl Try.underlying75 infSuperS_75 rfl plcSuperS_75 rfl rfl rfl) ?_
     refine G_put (l1 := [_]) (L' := [_, _]) rfl rfl rfl rfl (P_storeA (s := 5) rfl rfl rfl (mem_at 1 rfl) (by first | rfl | (simp [bcells_length, spCells, pCells, spCells, pCells, wCells, kCells, wCells, kCells, wCells, kCells, spCells, pCells, wCells, kCells]; done) | (simp [bcells_length, spCells, pCells, spCells, pCells, wCells, kCells, wCells, kCells, wCells, kCells, spCells, pCells, wCells, kCells]; omega) | (simp [bcells_length, *, spCells, pCells, spCells, pCells, wCells, kCells, wCells, kCells, wCells, kCells, spCells, pCells, wCells, kCells]; done)) infSuperS_75 rfl (by first | rfl | (simp [bcells_length, spCells, pCells, spCells, pCells, wCells, kCells, wCells, kCells, wCells, kCells, spCells, pCells, wCells, kCells]; done) | (simp [bcells_length, spCells, pCells, spCells, pCells, wCells, kCells, wCells, kCells, wCells, kCells, spCells, pCells, wCells, kCells]; omega) | (simp [bcells_length, *, spCells, pCells, spCells, pCells, wCells, kCells, wCells, kCells, wCells, kCells, spCells, pCells, wCells, kCells]; done)) (by first | rfl | exact bcells_all _ | (simp [Value.oneCell', spCells, pCells, spCells, pCells, wCells, kCells, wCells, kCells, wCells, kCells, spCells, pCells, wCells, kCells]; done) | (simp [Value.oneCell', *, spCells, pCells, spCells, pCells, wCells, kCells, wCells, kCells, wCells, kCells, spCells, pCells, wCells, kCells]; done))) rfl ?_
     refine G_done ?_
     refine G_ret (post := []) Try.func51 rfl (RVs_cons (RV_cell (s := 5) rfl (mem_at 1 rfl) Try.underlying75 rfl infSuperS_75 rfl (by first | rfl | (simp [bcells_length, spCells, pCells, spCells, pCells, wCells, kCells, wCells, kCells, wCells, kCells, spCells, pCells, wCells, kCells]; done) | (simp [bcells_length, spCells, pCells, spCells, pCells, wCells, kCells, wCells, kCells, wCells, kCells, spCells, pCells, wCells, kCells]; omega) | (simp [bcells_length, *, spCells, pCells, spCells, pCells, wCells, kCells, wCells, kCells, wCells, kCells, spCells, pCells, wCells, kCells]; done))) RVs_nil) [] rfl ?_
     dsimp only [packed]
     first
       | (rw [decS_no (isS_not1 ho)]; exact ⟨rfl, rfl⟩)
       | (rw [decS_no (isS_big (by assumption))]; exact ⟨rfl, rfl⟩)
       | (rw [decS_no his]; exact ⟨rfl, rfl⟩)
       | (rw [decS_yes his]; exact ⟨rfl, rfl⟩)
   refine G_skip ?_
   refine G_seq ?_
   have n1 : num (((openD b).take 6).drop 2) < 256 ^ 4 := num_len_lt (by simp; omega)
   have n2 : num (((openD b).take 10).drop 6) < 256 ^ 4 := num_len_lt (by simp; omega)
   have n3 : num (((openD b).take 14).drop 10) < 256 ^ 4 := num_len_lt (by simp; omega)
   have ngd : ((openD b).getD (Int.toNat 14) 0).toNat < 256 := UInt8.toNat_lt _
   refine GH_start (Lq := []) (isq := []) (m := 20) mixedK rfl rfl ?_
   refine GH_take 0 rfl rfl rfl rfl (by kernel_rfl) (by kernel_rfl) (by kernel_rfl) (fun _ _ => (V_move rfl rfl)) ?_
   first
     | refine GH_take 1 rfl rfl rfl rfl (by kernel_rfl) (by kernel_rfl) (by kernel_rfl) (fun _ _ => (V_ssliceN (lo := 2) (hi := 6) rfl Try.underlying9 rfl rfl rfl rfl rfl (by first | omega | (simp [spCells, pCells, spCells, pCells, wCells, kCells, wCells, kCells, wCells, kCells, spCells, pCells, wCells, kCells]; done) | (simp [spCells, pCells, spCells, pCells, wCells, kCells, wCells, kCells, wCells, kCells, spCells, pCells, wCells, kCells]; omega) | (simp [spCells, pCells, spCells, pCells, wCells, kCells, wCells, kCells, wCells, kCells, spCells, pCells, wCells, kCells] at *; omega)) (by first | omega | (simp [spCells, pCells, spCells, pCells, wCells, kCells, wCells, kCells, wCells, kCells, spCells, pCells, wCells, kCells]; done) | (simp [spCells, pCells, spCells, pCells, wCells, kCells, wCells, kCells, wCells, kCells, spCells, pCells, wCells, kCells]; omega) | (simp [spCells, pCells, spCells, pCells, wCells, kCells, wCells, kCells, wCells, kCells, spCells, pCells, wCells, kCells] at *; omega)))) ?_
     | refine GH_take 1 rfl rfl rfl rfl (by kernel_rfl) (by kernel_rfl) (by kernel_rfl) (fun _ _ => (V_sslice rfl Try.underlying9 rfl rfl rfl (by first | omega | (simp [spCells, pCells, spCells, pCells, wCells, kCells, wCells, kCells, wCells, kCells, spCells, pCells, wCells, kCells]; done) | (simp [spCells, pCells, spCells, pCells, wCells, kCells, wCells, kCells, wCells, kCells, spCells, pCells, wCells, kCells]; omega) | (simp [spCells, pCells, spCells, pCells, wCells, kCells, wCells, kCells, wCells, kCells, spCells, pCells, wCells, kCells] at *; omega)) (by first | omega | (simp [spCells, pCells, spCells, pCells, wCells, kCells, wCells, kCells, wCells, kCells, spCells, pCells, wCells, kCells]; done) | (simp [spCells, pCells, spCells, pCells, wCells, kCells, wCells, kCells, wCells, kCells, spCells, pCells, wCells, kCells]; omega) | (simp [spCells, pCells, spCells, pCells, wCells, kCells, wCells, kCells, wCells, kCells, spCells, pCells, wCells, kCells] at *; omega)) (by first | omega | (simp [spCells, pCells, spCells, pCells, wCells, kCells, wCells, kCells, wCells, kCells, spCells, pCells, wCells, kCells]; done) | (simp [spCells, pCells, spCells, pCells, wCells, kCells, wCells, kCells, wCells, kCells, spCells, pCells, wCells, kCells]; omega) | (simp [spCells, pCells, spCells, pCells, wCells, kCells, wCells, kCells, wCells, kCells, spCells, pCells, wCells, kCells] at *; omega)))) ?_
   refine GH_take 4 rfl rfl rfl rfl (by kernel_rfl) (by kernel_rfl) (by kernel_rfl) (fun _ _ => (V_move rfl rfl)) ?_
   first
     | refine GH_take 5 rfl rfl rfl rfl (by kernel_rfl) (by kernel_rfl) (by kernel_rfl) (fun _ _ => (V_ssliceN (lo := 6) (hi := 10) rfl Try.underlying9 rfl rfl rfl rfl rfl (by first | omega | (simp [spCells, pCells, spCells, pCells, wCells, kCells, wCells, kCells, wCells, kCells, spCells, pCells, wCells, kCells]; done) | (simp [spCells, pCells, spCells, pCells, wCells, kCells, wCells, kCells, wCells, kCells, spCells, pCells, wCells, kCells]; omega) | (simp [spCells, pCells, spCells, pCells, wCells, kCells, wCells, kCells, wCells, kCells, spCells, pCells, wCells, kCells] at *; omega)) (by first | omega | (simp [spCells, pCells, spCells, pCells, wCells, kCells, wCells, kCells, wCells, kCells, spCells, pCells, wCells, kCells]; done) | (simp [spCells, pCells, spCells, pCells, wCells, kCells, wCells, kCells, wCells, kCells, spCells, pCells, wCells, kCells]; omega) | (simp [spCells, pCells, spCells, pCells, wCells, kCells, wCells, kCells, wCells, kCells, spCells, pCells, wCells, kCells] at *; omega)))) ?_
     | refine GH_take 5 rfl rfl rfl rfl (by kernel_rfl) (by kernel_rfl) (by kernel_rfl) (fun _ _ => (V_sslice rfl Try.underlying9 rfl rfl rfl (by first | omega | (simp [spCells, pCells, spCells, pCells, wCells, kCells, wCells, kCells, wCells, kCells, spCells, pCells, wCells, kCells]; done) | (simp [spCells, pCells, spCells, pCells, wCells, kCells, wCells, kCells, wCells, kCells, spCells, pCells, wCells, kCells]; omega) | (simp [spCells, pCells, spCells, pCells, wCells, kCells, wCells, kCells, wCells, kCells, spCells, pCells, wCells, kCells] at *; omega)) (by first | omega | (simp [spCells, pCells, spCells, pCells, wCells, kCells, wCells, kCells, wCells, kCells, spCells, pCells, wCells, kCells]; done) | (simp [spCells, pCells, spCells, pCells, wCells, kCells, wCells, kCells, wCells, kCells, spCells, pCells, wCells, kCells]; omega) | (simp [spCells, pCells, spCells, pCells, wCells, kCells, wCells, kCells, wCells, kCells, spCells, pCells, wCells, kCells] at *; omega)) (by first | omega | (simp [spCells, pCells, spCells, pCells, wCells, kCells, wCells, kCells, wCells, kCells, spCells, pCells, wCells, kCells]; done) | (simp [spCells, pCells, spCells, pCells, wCells, kCells, wCells, kCells, wCells, kCells, spCells, pCells, wCells, kCells]; omega) | (simp [spCells, pCells, spCells, pCells, wCells, kCells, wCells, kCells, wCells, kCells, spCells, pCells, wCells, kCells] at *; omega)))) ?_
   refine GH_take 8 rfl rfl rfl rfl (by kernel_rfl) (by kernel_rfl) (by kernel_rfl) (fun _ _ => (V_move rfl rfl)) ?_
   first
     | refine GH_take 9 rfl rfl rfl rfl (by kernel_rfl) (by kernel_rfl) (by kernel_rfl) (fun _ _ => (V_ssliceN (lo := 10) (hi := 14) rfl Try.underlying9 rfl rfl rfl rfl rfl (by first | omega | (simp [spCells, pCells, spCells, pCells, wCells, kCells, wCells, kCells, wCells, kCells, spCells, pCells, wCells, kCells]; done) | (simp [spCells, pCells, spCells, pCells, wCells, kCells, wCells, kCells, wCells, kCells, spCells, pCells, wCells, kCells]; omega) | (simp [spCells, pCells, spCells, pCells, wCells, kCells, wCells, kCells, wCells, kCells, spCells, pCells, wCells, kCells] at *; omega)) (by first | omega | (simp [spCells, pCells, spCells, pCells, wCells, kCells, wCells, kCells, wCells, kCells, spCells, pCells, wCells, kCells]; done) | (simp [spCells, pCells, spCells, pCells, wCells, kCells, wCells, kCells, wCells, kCells, spCells, pCells, wCells, kCells]; omega) | (simp [spCells, pCells, spCells, pCells, wCells, kCells, wCells, kCells, wCells, kCells, spCells, pCells, wCells, kCells] at *; omega)))) ?_
     | refine GH_take 9 rfl rfl rfl rfl (by kernel_rfl) (by kernel_rfl) (by kernel_rfl) (fun _ _ => (V_sslice rfl Try.underlying9 rfl rfl rfl (by first | omega | (simp [spCells, pCells, spCells, pCells, wCells, kCells, wCells, kCells, wCells, kCells, spCells, pCells, wCells, kCells]; done) | (simp [spCells, pCells, spCells, pCells, wCells, kCells, wCells, kCells, wCells, kCells, spCells, pCells, wCells, kCells]; omega) | (simp [spCells, pCells, spCells, pCells, wCells, kCells, wCells, kCells, wCells, kCells, spCells, pCells, wCells, kCells] at *; omega)) (by first | omega | (simp [spCells, pCells, spCells, pCells, wCells, kCells, wCells, kCells, wCells, kCells, spCells, pCells, wCells, kCells]; done) | (simp [spCells, pCells, spCells, pCells, wCells, kCells, wCells, kCells, wCells, kCells, spCells, pCells, wCells, kCells]; omega) | (simp [spCells, pCells, spCells, pCells, wCells, kCells, wCells, kCells, wCells, kCells, spCells, pCells, wCells, kCells] at *; omega)) (by first | omega | (simp [spCells, pCells, spCells, pCells, wCells, kCells, wCells, kCells, wCells, kCells, spCells, pCells, wCells, kCells]; done) | (simp [spCells, pCells, spCells, pCells, wCells, kCells, wCells, kCells, wCells, kCells, spCells, pCells, wCells, kCells]; omega) | (simp [spCells, pCells, spCells, pCells, wCells, kCells, wCells, kCells, wCells, kCells, spCells, pCells, wCells, kCells] at *; omega)))) ?_
   refine GH_take 12 rfl rfl rfl rfl (by kernel_rfl) (by kernel_rfl) (by kernel_rfl) (fun _ _ => (V_move rfl rfl)) ?_
   first
     | refine GH_take 13 rfl rfl rfl rfl (by kernel_rfl) (by kernel_rfl) (by kernel_rfl) (fun _ _ => (V_sindexN rfl Try.underlying9 rfl rfl rfl (by omega))) ?_
     | refine GH_take 13 rfl rfl rfl rfl (by kernel_rfl) (by kernel_rfl) (by kernel_rfl) (fun _ _ => (V_sindexD rfl Try.underlying9 rfl rfl (by omega) (by first | omega | (simp [spCells, pCells, spCells, pCells, wCells, kCells, wCells, kCells, wCells, kCells, spCells, pCells, wCells, kCells]; done) | (simp [spCells, pCells, spCells, pCells, wCells, kCells, wCells, kCells, wCells, kCells, spCells, pCells, wCells, kCells]; omega) | (simp [spCells, pCells, spCells, pCells, wCells, kCells, wCells, kCells, wCells, kCells, spCells, pCells, wCells, kCells] at *; omega)))) ?_
   first
     | refine GH_take 14 rfl rfl rfl rfl (by kernel_rfl) (by kernel_rfl) (by kernel_rfl) (fun _ _ => ((V_conv rfl rfl Try.underlying5 Try.underlying3).int (wrap_i64 (by omega)))) ?_
     | refine GH_take 14 rfl rfl rfl rfl (by kernel_rfl) (by kernel_rfl) (by kernel_rfl) (fun _ _ => (V_conv rfl rfl Try.underlying5 Try.underlying3)) ?_
   refine GH_take 15 rfl rfl rfl rfl (by kernel_rfl) (by kernel_rfl) (by kernel_rfl) (fun _ _ => (V_move rfl rfl)) ?_
   first
     | refine GH_take 16 rfl rfl rfl rfl (by kernel_rfl) (by kernel_rfl) (by kernel_rfl) (fun _ _ => ((V_conv rfl rfl Try.underlying94 Try.underlying3).int (wrap_i64 (by omega)))) ?_
     | refine GH_take 16 rfl rfl rfl rfl (by kernel_rfl) (by kernel_rfl) (by kernel_rfl) (fun _ _ => (V_conv rfl rfl Try.underlying94 Try.underlying3)) ?_
   refine GH_all [2, 18] (by kernel_rfl) (by decide) ?_
   refine (And.intro ?_ (And.intro ?_ trivial))
   · skip
     refine GHop_call (L2 := [_, _]) rfl rfl rfl rfl rfl rfl Try.call122 (rsup_number _ (by first | omega | (simp; omega)) (by first | omega | (simp; omega))) [] [] rfl rfl [] (by rintro v post ⟨rfl, rfl⟩; exact ⟨_, rfl⟩) ?_
     rintro v post ⟨rfl, rfl⟩
     show GH _ _ _ _ _ _ _ [_, _] _
     first
       | refine GH_take 3 rfl rfl rfl rfl (by kernel_rfl) (by kernel_rfl) (by kernel_rfl) (fun _ _ => ((V_conv rfl rfl Try.underlying94 Try.underlying73).int (wrap_u32 (by omega)))) ?_
       | refine GH_take 3 rfl rfl rfl rfl (by kernel_rfl) (by kernel_rfl) (by kernel_rfl) (fun _ _ => (V_conv rfl rfl Try.underlying94 Try.underlying73)) ?_
     refine GH_all [6, 18] (by kernel_rfl) (by decide) ?_
     refine (And.intro ?_ (And.intro ?_ trivial))
     · skip
       refine GHop_call (L2 := [_, _]) rfl rfl rfl rfl rfl rfl Try.call122 (rsup_number _ (by first | omega | (simp; omega)) (by first | omega | (simp; omega))) [] [] rfl rfl [] (by rintro v post ⟨rfl, rfl⟩; exact ⟨_, rfl⟩) ?_
       rintro v post ⟨rfl, rfl⟩
       show GH _ _ _ _ _ _ _ [_, _] _
       first
         | refine GH_take 7 rfl rfl rfl rfl (by kernel_rfl) (by kernel_rfl) (by kernel_rfl) (fun _ _ => ((V_conv rfl rfl Try.underlying94 Try.underlying73).int (wrap_u32 (by omega)))) ?_
         | refine GH_take 7 rfl rfl rfl rfl (by kernel_rfl) (by kernel_rfl) (by kernel_rfl) (fun _ _ => (V_conv rfl rfl Try.underlying94 Try.underlying73)) ?_
       refine GH_all [10, 18] (by kernel_rfl) (by decide) ?_
       refine (And.intro ?_ (And.intro ?_ trivial))
       · skip
         refine GHop_call (L2 := [_, _]) rfl rfl rfl rfl rfl rfl Try.call122 (rsup_number _ (by first | omega | (simp; omega)) (by first | omega | (simp; omega))) [] [] rfl rfl [] (by rintro v post ⟨rfl, rfl⟩; exact ⟨_, rfl⟩) ?_
         rintro v post ⟨rfl, rfl⟩
         show GH _ _ _ _ _ _ _ [_, _] _
         first
           | refine GH_take 11 rfl rfl rfl rfl (by kernel_rfl) (by kernel_rfl) (by kernel_rfl) (fun _ _ => ((V_conv rfl rfl Try.underlying94 Try.underlying73).int (wrap_u32 (by omega)))) ?_
           | refine GH_take 11 rfl rfl rfl rfl (by kernel_rfl) (by kernel_rfl) (by kernel_rfl) (fun _ _ => (V_conv rfl rfl Try.underlying94 Try.underlying73)) ?_
         refine GH_take 17 rfl rfl rfl rfl (by kernel_rfl) (by kernel_rfl) (by kernel_rfl) (fun _ _ => (V_buildS (cs := [_, _, _, _, _]) rfl Try.underlying75 infSuperS_75 rfl plcSuperS_75 rfl rfl rfl)) ?_
         refine GH_all [18] (by kernel_rfl) (by decide) ?_
         refine (And.intro ?_ trivial)
         · skip
           refine GHop_new rfl rfl rfl rfl (N_allocA rfl infSuperS_75 rfl) [] (fun _ => ⟨_, rfl⟩) (fun b6 => ?_)
           refine GH_all [19] (by kernel_rfl) (by decide) ?_
           refine (And.intro ?_ trivial)
           · skip
             refine GHop_put (l1 := []) (L' := [_, _, _]) rfl rfl rfl rfl (P_storeA (s := 5) rfl rfl rfl (mem_at 0 rfl) (by first | rfl | (simp [bcells_length, spCells, pCells, spCells, pCells, wCells, kCells, wCells, kCells, wCells, kCells, spCells, pCells, wCells, kCells]; done) | (simp [bcells_length, spCells, pCells, spCells, pCells, wCells, kCells, wCells, kCells, wCells, kCells, spCells, pCells, wCells, kCells]; omega) | (simp [bcells_length, *, spCells, pCells, spCells, pCells, wCells, kCells, wCells, kCells, wCells, kCells, spCells, pCells, wCells, kCells]; done)) infSuperS_75 rfl (by first | rfl | (simp [bcells_length, spCells, pCells, spCells, pCells, wCells, kCells, wCells, kCells, wCells, kCells, spCells, pCells, wCells, kCells]; done) | (simp [bcells_length, spCells, pCells, spCells, pCells, wCells, kCells, wCells, kCells, wCells, kCells, spCells, pCells, wCells, kCells]; omega) | (simp [bcells_length, *, spCells, pCells, spCells, pCells, wCells, kCells, wCells, kCells, wCells, kCells, spCells, pCells, wCells, kCells]; done)) (by first | rfl | exact bcells_all _ | (simp [Value.oneCell', spCells, pCells, spCells, pCells, wCells, kCells, wCells, kCells, wCells, kCells, spCells, pCells, wCells, kCells]; done) | (simp [Value.oneCell', *, spCells, pCells, spCells, pCells, wCells, kCells, wCells, kCells, wCells, kCells, spCells, pCells, wCells, kCells]; done))) rfl [] rfl ?_
             refine GH_done (by kernel_rfl) ?_
             refine G_seq ?_
             first | rw [cells_get (openD b) hd48 (by omega)] | skip
             rcases is3 b ho with his | ⟨his, hm⟩ | ⟨his, hm, hne⟩
             · skip
               first | rw [cells_get (openD b) hd48 (by omega)] | skip
               refine G_region (l := [0, 1, 2, 3, 4, 5, 6]) rfl ?_
               first
                 | refine G_val rfl rfl rfl rfl (V_loadW (s := 5) rfl rfl (mem_at 0 rfl) Try.underlying75 rfl infSuperS_75 rfl (by first | rfl | (simp [bcells_length, spCells, pCells, spCells, pCells, wCells, kCells, wCells, kCells, wCells, kCells, spCells, pCells, wCells, kCells]; done) | (simp [bcells_length, spCells, pCells, spCells, pCells, wCells, kCells, wCells, kCells, wCells, kCells, spCells, pCells, wCells, kCells]; omega) | (simp [bcells_length, *, spCells, pCells, spCells, pCells, wCells, kCells, wCells, kCells, wCells, kCells, spCells, pCells, wCells, kCells]; done))) ?_
                 | refine G_val rfl rfl rfl rfl (V_loadA (s := 5) rfl rfl (mem_at 0 rfl) Try.underlying75 rfl infSuperS_75 rfl rfl (by first | rfl | (simp [bcells_length, spCells, pCells, spCells, pCells, wCells, kCells, wCells, kCells, wCells, kCells, spCells, pCells, wCells, kCells]; done) | (simp [bcells_length, spCells, pCells, spCells, pCells, wCells, kCells, wCells, kCells, wCells, kCells, spCells, pCells, wCells, kCells]; omega) | (simp [bcells_length, *, spCells, pCells, spCells, pCells, wCells, kCells, wCells, kCells, wCells, kCells, spCells, pCells, wCells, kCells]; done))) ?_
               refine G_call (L2 := [_, _, _]) rfl rfl rfl rfl rfl rfl Try.call49 ((rsup_encode (getS (openD b)) (getS_ok _)).weaken (fun v post h => by rw [(enc_is his).1, (enc_is his).2] at h; exact h)) [] [] rfl rfl ?_
               rintro v post ⟨rfl, rfl⟩
               show G _ _ _ [_, _, _] _
               refine G_val rfl rfl rfl rfl (V_move rfl rfl) ?_
               refine G_val rfl rfl rfl rfl (V_extract rfl rfl rfl) ?_
               refine G_val rfl rfl rfl rfl (V_extract rfl rfl rfl) ?_
               refine G_val rfl rfl rfl rfl (V_assign rfl rfl) ?_
               refine G_val rfl rfl rfl rfl (V_assign rfl rfl) ?_
               refine G_done ?_
               refine G_seq ?_
               refine G_seq ?_
               refine G_region (l := [0, 1, 2, 3, 4, 5, 6]) rfl ?_
               refine G_val rfl rfl rfl rfl (V_move rfl rfl) ?_
               refine G_val rfl rfl rfl rfl (V_neq rfl rfl rfl) ?_
               refine G_val rfl rfl rfl rfl (V_move rfl rfl) ?_
               refine G_splitD 48 rfl (fun hc3 => ?_) (fun hc3 => ?_)
               · (first | (exact absurd rfl hc3) | (exact absurd hc3 Bool.false_ne_true) | (exact absurd hc3 (by decide)) | (exact absurd hc3 hne) | (exact absurd hne hc3) | (exfalso; omega))
               refine G_val rfl rfl rfl rfl (V_move rfl rfl) ?_
               refine G_val rfl rfl rfl rfl (V_move rfl rfl) ?_
               refine G_val rfl rfl rfl rfl (V_sneq rfl rfl rfl) ?_
               refine G_val rfl rfl rfl rfl (V_pickF rfl rfl rfl) ?_
               refine G_done ?_
               refine G_ifD rfl (fun hc4 => ?_) (fun hc4 => ?_)
               · (first | (exact absurd rfl hc4) | (exact absurd hc4 Bool.false_ne_true) | (exact absurd hc4 (by decide)) | (exact absurd hc4 hne) | (exact absurd hne hc4) | (exfalso; omega))
               refine G_skip ?_
               refine G_seq ?_
               refine G_region (l := [0, 1]) rfl ?_
               first
                 | refine G_val rfl rfl rfl rfl (V_loadW (s := 5) rfl rfl (mem_at 0 rfl) Try.underlying75 rfl infSuperS_75 rfl (by first | rfl | (simp [bcells_length, spCells, pCells, spCells, pCells, wCells, kCells, wCells, kCells, wCells, kCells, spCells, pCells, wCells, kCells]; done) | (simp [bcells_length, spCells, pCells, spCells, pCells, wCells, kCells, wCells, kCells, wCells, kCells, spCells, pCells, wCells, kCells]; omega) | (simp [bcells_length, *, spCells, pCells, spCells, pCells, wCells, kCells, wCells, kCells, wCells, kCells, spCells, pCells, wCells, kCells]; done))) ?_
                 | refine G_val rfl rfl rfl rfl (V_loadA (s := 5) rfl rfl (mem_at 0 rfl) Try.underlying75 rfl infSuperS_75 rfl rfl (by first | rfl | (simp [bcells_length, spCells, pCells, spCells, pCells, wCells, kCells, wCells, kCells, wCells, kCells, spCells, pCells, wCells, kCells]; done) | (simp [bcells_length, spCells, pCells, spCells, pCells, wCells, kCells, wCells, kCells, wCells, kCells, spCells, pCells, wCells, kCells]; omega) | (simp [bcells_length, *, spCells, pCells, spCells, pCells, wCells, kCells, wCells, kCells, wCells, kCells, spCells, pCells, wCells, kCells]; done))) ?_
               refine G_put (l1 := [_, _]) (L' := [_, _, _]) rfl rfl rfl rfl (P_storeA (s := 5) rfl rfl rfl (mem_at 2 rfl) (by first | rfl | (simp [bcells_length, spCells, pCells, spCells, pCells, wCells, kCells, wCells, kCells, wCells, kCells, spCells, pCells, wCells, kCells]; done) | (simp [bcells_length, spCells, pCells, spCells, pCells, wCells, kCells, wCells, kCells, wCells, kCells, spCells, pCells, wCells, kCells]; omega) | (simp [bcells_length, *, spCells, pCells, spCells, pCells, wCells, kCells, wCells, kCells, wCells, kCells, spCells, pCells, wCells, kCells]; done)) infSuperS_75 rfl (by first | rfl | (simp [bcells_length, spCells, pCells, spCells, pCells, wCells, kCells, wCells, kCells, wCells, kCells, spCells, pCells, wCells, kCells]; done) | (simp [bcells_length, spCells, pCells, spCells, pCells, wCells, kCells, wCells, kCells, wCells, kCells, spCells, pCells, wCells, kCells]; omega) | (simp [bcells_length, *, spCells, pCells, spCells, pCells, wCells, kCells, wCells, kCells, wCells, kCells, spCells, pCells, wCells, kCells]; done)) (by first | rfl | exact bcells_all _ | (simp [Value.oneCell', spCells, pCells, spCells, pCells, wCells, kCells, wCells, kCells, wCells, kCells, spCells, pCells, wCells, kCells]; done) | (simp [Value.oneCell', *, spCells, pCells, spCells, pCells, wCells, kCells, wCells, kCells, wCells, kCells, spCells, pCells, wCells, kCells]; done))) rfl ?_
               refine G_done ?_
               refine G_ret (post := []) Try.func51 rfl (RVs_cons (RV_cell (s := 5) rfl (mem_at 2 rfl) Try.underlying75 rfl infSuperS_75 rfl (by first | rfl | (simp [bcells_length, spCells, pCells, spCells, pCells, wCells, kCells, wCells, kCells, wCells, kCells, spCells, pCells, wCells, kCells]; done) | (simp [bcells_length, spCells, pCells, spCells, pCells, wCells, kCells, wCells, kCells, wCells, kCells, spCells, pCells, wCells, kCells]; omega) | (simp [bcells_length, *, spCells, pCells, spCells, pCells, wCells, kCells, wCells, kCells, wCells, kCells, spCells, pCells, wCells, kCells]; done))) RVs_nil) [] rfl ?_
               dsimp only [packed]
               first
                 | (rw [decS_no (isS_not1 ho)]; exact ⟨rfl, rfl⟩)
                 | (rw [decS_no (isS_big (by assumption))]; exact ⟨rfl, rfl⟩)
                 | (rw [decS_no his]; exact ⟨rfl, rfl⟩)
                 | (rw [decS_yes his]; exact ⟨rfl, rfl⟩)
             · skip
               first | rw [cells_get (openD b) hd48 (by omega)] | skip
               refine G_region (l := [0, 1, 2, 3, 4, 5, 6]) rfl ?_
               first
                 | refine G_val rfl rfl rfl rfl (V_loadW (s := 5) rfl rfl (mem_at 0 rfl) Try.underlying75 rfl infSuperS_75 rfl (by first | rfl | (simp [bcells_length, spCells, pCells, spCells, pCells, wCells, kCells, wCells, kCells, wCells, kCells, spCells, pCells, wCells, kCells]; done) | (simp [bcells_length, spCells, pCells, spCells, pCells, wCells, kCells, wCells, kCells, wCells, kCells, spCells, pCells, wCells, kCells]; omega) | (simp [bcells_length, *, spCells, pCells, spCells, pCells, wCells, kCells, wCells, kCells, wCells, kCells, spCells, pCells, wCells, kCells]; done))) ?_
                 | refine G_val rfl rfl rfl rfl (V_loadA (s := 5) rfl rfl (mem_at 0 rfl) Try.underlying75 rfl infSuperS_75 rfl rfl (by first | rfl | (simp [bcells_length, spCells, pCells, spCells, pCells, wCells, kCells, wCells, kCells, wCells, kCells, spCells, pCells, wCells, kCells]; done) | (simp [bcells_length, spCells, pCells, spCells, pCells, wCells, kCells, wCells, kCells, wCells, kCells, spCells, pCells, wCells, kCells]; omega) | (simp [bcells_length, *, spCells, pCells, spCells, pCells, wCells, kCells, wCells, kCells, wCells, kCells, spCells, pCells, wCells, kCells]; done))) ?_
               refine G_call (L2 := [_, _, _]) rfl rfl rfl rfl rfl rfl Try.call49 ((rsup_encode (getS (openD b)) (getS_ok _)).weaken (fun v post h => by rw [(encT_no (decide_eq_false hm)).1, (encT_no (decide_eq_false hm)).2] at h; exact h)) [] [] rfl rfl ?_
               rintro v post ⟨rfl, rfl⟩
               show G _ _ _ [_, _, _] _
               refine G_val rfl rfl rfl rfl (V_move rfl rfl) ?_
               refine G_val rfl rfl rfl rfl (V_extract rfl rfl rfl) ?_
               refine G_val rfl rfl rfl rfl (V_extract rfl rfl rfl) ?_
               refine G_val rfl rfl rfl rfl (V_assign rfl rfl) ?_
               refine G_val rfl rfl rfl rfl (V_assign rfl rfl) ?_
               refine G_done ?_
               refine G_seq ?_
               refine G_seq ?_
               refine G_region (l := [0, 1, 2, 3, 4, 5, 6]) rfl ?_
               refine G_val rfl rfl rfl rfl (V_move rfl rfl) ?_
               refine G_val rfl rfl rfl rfl (V_neq rfl rfl rfl) ?_
               refine G_val rfl rfl rfl rfl (V_move rfl rfl) ?_
               refine G_splitD 48 rfl (fun hc3 => ?_) (fun hc3 => ?_)
               rotate_left
               · (first | (exact absurd rfl hc3) | (exact absurd hc3 Bool.false_ne_true) | (exact absurd hc3 (by decide)) | (exact absurd hc3 hne) | (exact absurd hne hc3) | (exfalso; omega))
               refine G_off rfl rfl rfl rfl ?_
               refine G_off rfl rfl rfl rfl ?_
               refine G_off rfl rfl rfl rfl ?_
               refine G_val rfl rfl rfl rfl (V_pickT rfl rfl rfl) ?_
               refine G_done ?_
               refine G_then rfl ?_
               refine G_seq ?_
               refine G_region (l := [0, 1]) rfl ?_
               refine G_val rfl rfl rfl rfl (V_buildS (cs := [_, _, _, _, _]) rfl Try.underlying75 infSuperS_75 rfl plcSuperS_75 rfl rfl rfl) ?_
               refine G_put (l1 := [_, _]) (L' := [_, _, _]) rfl rfl rfl rfl (P_storeA (s := 5) rfl rfl rfl (mem_at 2 rfl) (by first | rfl | (simp [bcells_length, spCells, pCells, spCells, pCells, wCells, kCells, wCells, kCells, wCells, kCells, spCells, pCells, wCells, kCells]; done) | (simp [bcells_length, spCells, pCells, spCells, pCells, wCells, kCells, wCells, kCells, wCells, kCells, spCells, pCells, wCells, kCells]; omega) | (simp [bcells_length, *, spCells, pCells, spCells, pCells, wCells, kCells, wCells, kCells, wCells, kCells, spCells, pCells, wCells, kCells]; done)) infSuperS_75 rfl (by first | rfl | (simp [bcells_length, spCells, pCells, spCells, pCells, wCells, kCells, wCells, kCells, wCells, kCells, spCells, pCells, wCells, kCells]; done) | (simp [bcells_length, spCells, pCells, spCells, pCells, wCells, kCells, wCells, kCells, wCells, kCells, spCells, pCells, wCells, kCells]; omega) | (simp [bcells_length, *, spCells, pCells, spCells, pCells, wCells, kCells, wCells, kCells, wCells, kCells, spCells, pCells, wCells, kCells]; done)) (by first | rfl | exact bcells_all _ | (simp [Value.oneCell', spCells, pCells, spCells, pCells, wCells, kCells, wCells, kCells, wCells, kCells, spCells, pCells, wCells, kCells]; done) | (simp [Value.oneCell', *, spCells, pCells, spCells, pCells, wCells, kCells, wCells, kCells, wCells, kCells, spCells, pCells, wCells, kCells]; done))) rfl ?_
               refine G_done ?_
               refine G_ret (post := []) Try.func51 rfl (RVs_cons (RV_cell (s := 5) rfl (mem_at 2 rfl) Try.underlying75 rfl infSuperS_75 rfl (by first | rfl | (simp [bcells_length, spCells, pCells, spCells, pCells, wCells, kCells, wCells, kCells, wCells, kCells, spCells, pCells, wCells, kCells]; done) | (simp [bcells_length, spCells, pCells, spCells, pCells, wCells, kCells, wCells, kCells, wCells, kCells, spCells, pCells, wCells, kCells]; omega) | (simp [bcells_length, *, spCells, pCells, spCells, pCells, wCells, kCells, wCells, kCells, wCells, kCells, spCells, pCells, wCells, kCells]; done))) RVs_nil) [] rfl ?_
               dsimp only [packed]
               first
                 | (rw [decS_no (isS_not1 ho)]; exact ⟨rfl, rfl⟩)
                 | (rw [decS_no (isS_big (by assumption))]; exact ⟨rfl, rfl⟩)
                 | (rw [decS_no his]; exact ⟨rfl, rfl⟩)
                 | (rw [decS_yes his]; exact ⟨rfl, rfl⟩)
             · skip
               first | rw [cells_get (openD b) hd48 (by omega)] | skip
               refine G_region (l := [0, 1, 2, 3, 4, 5, 6]) rfl ?_
               first
                 | refine G_val rfl rfl rfl rfl (V_loadW (s := 5) rfl rfl (mem_at 0 rfl) Try.underlying75 rfl infSuperS_75 rfl (by first | rfl | (simp [bcells_length, spCells, pCells, spCells, pCells, wCells, kCells, wCells, kCells, wCells, kCells, spCells, pCells, wCells, kCells]; done) | (simp [bcells_length, spCells, pCells, spCells, pCells, wCells, kCells, wCells, kCells, wCells, kCells, spCells, pCells, wCells, kCells]; omega) | (simp [bcells_length, *, spCells, pCells, spCells, pCells, wCells, kCells, wCells, kCells, wCells, kCells, spCells, pCells, wCells, kCells]; done))) ?_
                 | refine G_val rfl rfl rfl rfl (V_loadA (s := 5) rfl rfl (mem_at 0 rfl) Try.underlying75 rfl infSuperS_75 rfl rfl (by first | rfl | (simp [bcells_length, spCells, pCells, spCells, pCells, wCells, kCells, wCells, kCells, wCells, kCells, spCells, pCells, wCells, kCells]; done) | (simp [bcells_length, spCells, pCells, spCells, pCells, wCells, kCells, wCells, kCells, wCells, kCells, spCells, pCells, wCells, kCells]; omega) | (simp [bcells_length, *, spCells, pCells, spCells, pCells, wCells, kCells, wCells, kCells, wCells, kCells, spCells, pCells, wCells, kCells]; done))) ?_
               refine G_call (L2 := [_, _, _]) rfl rfl rfl rfl rfl rfl Try.call49 ((rsup_encode (getS (openD b)) (getS_ok _)).weaken (fun v post h => by rw [(encT_yes (decide_eq_true hm)).1, (encT_yes (decide_eq_true hm)).2] at h; exact h)) [] [] rfl rfl ?_
               rintro v post ⟨rfl, rfl⟩
               show G _ _ _ [_, _, _] _
               refine G_val rfl rfl rfl rfl (V_move rfl rfl) ?_
               refine G_val rfl rfl rfl rfl (V_extract rfl rfl rfl) ?_
               refine G_val rfl rfl rfl rfl (V_extract rfl rfl rfl) ?_
               refine G_val rfl rfl rfl rfl (V_assign rfl rfl) ?_
               refine G_val rfl rfl rfl rfl (V_assign rfl rfl) ?_
               refine G_done ?_
               refine G_seq ?_
               refine G_seq ?_
               refine G_region (l := [0, 1, 2, 3, 4, 5, 6]) rfl ?_
               refine G_val rfl rfl rfl rfl (V_move rfl rfl) ?_
               refine G_val rfl rfl rfl rfl (V_neq rfl rfl rfl) ?_
               refine G_val rfl rfl rfl rfl (V_move rfl rfl) ?_
               refine G_splitD 48 rfl (fun hc3 => ?_) (fun hc3 => ?_)
               · (first | (exact absurd rfl hc3) | (exact absurd hc3 Bool.false_ne_true) | (exact absurd hc3 (by decide)) | (exact absurd hc3 hne) | (exact absurd hne hc3) | (exfalso; omega))
               refine G_val rfl rfl rfl rfl (V_move rfl rfl) ?_
               refine G_val rfl rfl rfl rfl (V_move rfl rfl) ?_
               refine G_val rfl rfl rfl rfl (V_sneq rfl rfl rfl) ?_
               refine G_val rfl rfl rfl rfl (V_pickF rfl rfl rfl) ?_
               refine G_done ?_
               refine G_ifD rfl (fun hc4 => ?_) (fun hc4 => ?_)
               rotate_left
               · (first | (exact absurd rfl hc4) | (exact absurd hc4 Bool.false_ne_true) | (exact absurd hc4 (by decide)) | (exact absurd hc4 hne) | (exact absurd hne hc4) | (exfalso; omega))
               refine G_seq ?_
               refine G_region (l := [0, 1]) rfl ?_
               refine G_val rfl rfl rfl rfl (V_buildS (cs := [_, _, _, _, _]) rfl Try.underlying75 infSuperS_75 rfl plcSuperS_75 rfl rfl rfl) ?_
               refine G_put (l1 := [_, _]) (L' := [_, _, _]) rfl rfl rfl rfl (P_storeA (s := 5) rfl rfl rfl (mem_at 2 rfl) (by first | rfl | (simp [bcells_length, spCells, pCells, spCells, pCells, wCells, kCells, wCells, kCells, wCells, kCells, spCells, pCells, wCells, kCells]; done) | (simp [bcells_length, spCells, pCells, spCells, pCells, wCells, kCells, wCells, kCells, wCells, kCells, spCells, pCells, wCells, kCells]; omega) | (simp [bcells_length, *, spCells, pCells, spCells, pCells, wCells, kCells, wCells, kCells, wCells, kCells, spCells, pCells, wCells, kCells]; done)) infSuperS_75 rfl (by first | rfl | (simp [bcells_length, spCells, pCells, spCells, pCells, wCells, kCells, wCells, kCells, wCells, kCells, spCells, pCells, wCells, kCells]; done) | (simp [bcells_length, spCells, pCells, spCells, pCells, wCells, kCells, wCells, kCells, wCells, kCells, spCells, pCells, wCells, kCells]; omega) | (simp [bcells_length, *, spCells, pCells, spCells, pCells, wCells, kCells, wCells, kCells, wCells, kCells, spCells, pCells, wCells, kCells]; done)) (by first | rfl | exact bcells_all _ | (simp [Value.oneCell', spCells, pCells, spCells, pCells, wCells, kCells, wCells, kCells, wCells, kCells, spCells, pCells, wCells, kCells]; done) | (simp [Value.oneCell', *, spCells, pCells, spCells, pCells, wCells, kCells, wCells, kCells, wCells, kCells, spCells, pCells, wCells, kCells]; done))) rfl ?_
               refine G_done ?_
               refine G_ret (post := []) Try.func51 rfl (RVs_cons (RV_cell (s := 5) rfl (mem_at 2 rfl) Try.underlying75 rfl infSuperS_75 rfl (by first | rfl | (simp [bcells_length, spCells, pCells, spCells, pCells, wCells, kCells, wCells, kCells, wCells, kCells, spCells, pCells, wCells, kCells]; done) | (simp [bcells_length, spCells, pCells, spCells, pCells, wCells, kCells, wCells, kCells, wCells, kCells, spCells, pCells, wCells, kCells]; omega) | (simp [bcells_length, *, spCells, pCells, spCells, pCells, wCells, kCells, wCells, kCells, wCells, kCells, spCells, pCells, wCells, kCells]; done))) RVs_nil) [] rfl ?_
               dsimp only [packed]
               first
                 | (rw [decS_no (isS_not1 ho)]; exact ⟨rfl, rfl⟩)
                 | (rw [decS_no (isS_big (by assumption))]; exact ⟨rfl, rfl⟩)
                 | (rw [decS_no his]; exact ⟨rfl, rfl⟩)
                 | (rw [decS_yes his]; exact ⟨rfl, rfl⟩)
       · skip
         refine GHop_new rfl rfl rfl rfl (N_allocA rfl infSuperS_75 rfl) [] (fun _ => ⟨_, rfl⟩) (fun b6 => ?_)
         refine GH_all [10] (by kernel_rfl) (by decide) ?_
         refine (And.intro ?_ trivial)
         · skip
           refine GHop_call (L2 := [_, _, _]) rfl rfl rfl rfl rfl rfl Try.call122 (rsup_number _ (by first | omega | (simp; omega)) (by first | omega | (simp; omega))) [] [] rfl rfl [] (by rintro v post ⟨rfl, rfl⟩; exact ⟨_, rfl⟩) ?_
           rintro v post ⟨rfl, rfl⟩
           show GH _ _ _ _ _ _ _ [_, _, _] _
           first
             | refine GH_take 11 rfl rfl rfl rfl (by kernel_rfl) (by kernel_rfl) (by kernel_rfl) (fun _ _ => ((V_conv rfl rfl Try.underlying94 Try.underlying73).int (wrap_u32 (by omega)))) ?_
             | refine GH_take 11 rfl rfl rfl rfl (by kernel_rfl) (by kernel_rfl) (by kernel_rfl) (fun _ _ => (V_conv rfl rfl Try.underlying94 Try.underlying73)) ?_
           refine GH_take 17 rfl rfl rfl rfl (by kernel_rfl) (by kernel_rfl) (by kernel_rfl) (fun _ _ => (V_buildS (cs := [_, _, _, _, _]) rfl Try.underlying75 infSuperS_75 rfl plcSuperS_75 rfl rfl rfl)) ?_
           refine GH_all [19] (by kernel_rfl) (by decide) ?_
           refine (And.intro ?_ trivial)
           · skip
             refine GHop_put (l1 := []) (L' := [_, _, _]) rfl rfl rfl rfl (P_storeA (s := 5) rfl rfl rfl (mem_at 0 rfl) (by first | rfl | (simp [bcells_length, spCells, pCells, spCells, pCells, wCells, kCells, wCells, kCells, wCells, kCells, spCells, pCells, wCells, kCells]; done) | (simp [bcells_length, spCells, pCells, spCells, pCells, wCells, kCells, wCells, kCells, wCells, kCells, spCells, pCells, wCells, kCells]; omega) | (simp [bcells_length, *, spCells, pCells, spCells, pCells, wCells, kCells, wCells, kCells, wCells, kCells, spCells, pCells, wCells, kCells]; done)) infSuperS_75 rfl (by first | rfl | (simp [bcells_length, spCells, pCells, spCells, pCells, wCells, kCells, wCells, kCells, wCells, kCells, spCells, pCells, wCells, kCells]; done) | (simp [bcells_length, spCells, pCells, spCells, pCells, wCells, kCells, wCells, kCells, wCells, kCells, spCells, pCells, wCells, kCells]; omega) | (simp [bcells_length, *, spCells, pCells, spCells, pCells, wCells, kCells, wCells, kCells, wCells, kCells, spCells, pCells, wCells, kCells]; done)) (by first | rfl | exact bcells_all _ | (simp [Value.oneCell', spCells, pCells, spCells, pCells, wCells, kCells, wCells, kCells, wCells, kCells, spCells, pCells, wCells, kCells]; done) | (simp [Value.oneCell', *, spCells, pCells, spCells, pCells, wCells, kCells, wCells, kCells, wCells, kCells, spCells, pCells, wCells, kCells]; done))) rfl [] rfl ?_
             refine GH_done (by kernel_rfl) ?_
             refine G_seq ?_
             first | rw [cells_get (openD b) hd48 (by omega)] | skip
             rcases is3 b ho with his | ⟨his, hm⟩ | ⟨his, hm, hne⟩
             · skip
               first | rw [cells_get (openD b) hd48 (by omega)] | skip
               refine G_region (l := [0, 1, 2, 3, 4, 5, 6]) rfl ?_
               first
                 | refine G_val rfl rfl rfl rfl (V_loadW (s := 5) rfl rfl (mem_at 0 rfl) Try.underlying75 rfl infSuperS_75 rfl (by first | rfl | (simp [bcells_length, spCells, pCells, spCells, pCells, wCells, kCells, wCells, kCells, wCells, kCells, spCells, pCells, wCells, kCells]; done) | (simp [bcells_length, spCells, pCells, spCells, pCells, wCells, kCells, wCells, kCells, wCells, kCells, spCells, pCells, wCells, kCells]; omega) | (simp [bcells_length, *, spCells, pCells, spCells, pCells, wCells, kCells, wCells, kCells, wCells, kCells, spCells, pCells, wCells, kCells]; done))) ?_
                 | refine G_val rfl rfl rfl rfl (V_loadA (s := 5) rfl rfl (mem_at 0 rfl) Try.underlying75 rfl infSuperS_75 rfl rfl (by first | rfl | (simp [bcells_length, spCells, pCells, spCells, pCells, wCells, kCells, wCells, kCells, wCells, kCells, spCells, pCells, wCells, kCells]; done) | (simp [bcells_length, spCells, pCells, spCells, pCells, wCells, kCells, wCells, kCells, wCells, kCells, spCells, pCells, wCells, kCells]; omega) | (simp [bcells_length, *, spCells, pCells, spCells, pCells, wCells, kCells, wCells, kCells, wCells, kCells, spCells, pCells, wCells, kCells]; done))) ?_
               refine G_call (L2 := [_, _, _]) rfl rfl rfl rfl rfl rfl Try.call49 ((rsup_encode (getS (openD b)) (getS_ok _)).weaken (fun v post h => by rw [(enc_is his).1, (enc_is his).2] at h; exact h)) [] [] rfl rfl ?_
               rintro v post ⟨rfl, rfl⟩
               show G _ _ _ [_, _, _] _
               refine G_val rfl rfl rfl rfl (V_move rfl rfl) ?_
               refine G_val rfl rfl rfl rfl (V_extract rfl rfl rfl) ?_
               refine G_val rfl rfl rfl rfl (V_extract rfl rfl rfl) ?_
               refine G_val rfl rfl rfl rfl (V_assign rfl rfl) ?_
               refine G_val rfl rfl rfl rfl (V_assign rfl rfl) ?_
               refine G_done ?_
               refine G_seq ?_
               refine G_seq ?_
               refine G_region (l := [0, 1, 2, 3, 4, 5, 6]) rfl ?_
               refine G_val rfl rfl rfl rfl (V_move rfl rfl) ?_
               refine G_val rfl rfl rfl rfl (V_neq rfl rfl rfl) ?_
               refine G_val rfl rfl rfl rfl (V_move rfl rfl) ?_
               refine G_splitD 48 rfl (fun hc3 => ?_) (fun hc3 => ?_)
               · (first | (exact absurd rfl hc3) | (exact absurd hc3 Bool.false_ne_true) | (exact absurd hc3 (by decide)) | (exact absurd hc3 hne) | (exact absurd hne hc3) | (exfalso; omega))
               refine G_val rfl rfl rfl rfl (V_move rfl rfl) ?_
               refine G_val rfl rfl rfl rfl (V_move rfl rfl) ?_
               refine G_val rfl rfl rfl rfl (V_sneq rfl rfl rfl) ?_
               refine G_val rfl rfl rfl rfl (V_pickF rfl rfl rfl) ?_
               refine G_done ?_
               refine G_ifD rfl (fun hc4 => ?_) (fun hc4 => ?_)
               · (first | (exact absurd rfl hc4) | (exact absurd hc4 Bool.false_ne_true) | (exact absurd hc4 (by decide)) | (exact absurd hc4 hne) | (exact absurd hne hc4) | (exfalso; omega))
               refine G_skip ?_
               refine G_seq ?_
               refine G_region (l := [0, 1]) rfl ?_
               first
                 | refine G_val rfl rfl rfl rfl (V_loadW (s := 5) rfl rfl (mem_at 0 rfl) Try.underlying75 rfl infSuperS_75 rfl (by first | rfl | (simp [bcells_length, spCells, pCells, spCells, pCells, wCells, kCells, wCells, kCells, wCells, kCells, spCells, pCells, wCells, kCells]; done) | (simp [bcells_length, spCells, pCells, spCells, pCells, wCells, kCells, wCells, kCells, wCells, kCells, spCells, pCells, wCells, kCells]; omega) | (simp [bcells_length, *, spCells, pCells, spCells, pCells, wCells, kCells, wCells, kCells, wCells, kCells, spCells, pCells, wCells, kCells]; done))) ?_
                 | refine G_val rfl rfl rfl rfl (V_loadA (s := 5) rfl rfl (mem_at 0 rfl) Try.underlying75 rfl infSuperS_75 rfl rfl (by first | rfl | (simp [bcells_length, spCells, pCells, spCells, pCells, wCells, kCells, wCells, kCells, wCells, kCells, spCells, pCells, wCells, kCells]; done) | (simp [bcells_length, spCells, pCells, spCells, pCells, wCells, kCells, wCells, kCells, wCells, kCells, spCells, pCells, wCells, kCells]; omega) | (simp [bcells_length, *, spCells, pCells, spCells, pCells, wCells, kCells, wCells, kCells, wCells, kCells, spCells, pCells, wCells, kCells]; done))) ?_
               refine G_put (l1 := [_, _]) (L' := [_, _, _]) rfl rfl rfl rfl (P_storeA (s := 5) rfl rfl rfl (mem_at 2 rfl) (by first | rfl | (simp [bcells_length, spCells, pCells, spCells, pCells, wCells, kCells, wCells, kCells, wCells, kCells, spCells, pCells, wCells, kCells]; done) | (simp [bcells_length, spCells, pCells, spCells, pCells, wCells, kCells, wCells, kCells, wCells, kCells, spCells, pCells, wCells, kCells]; omega) | (simp [bcells_length, *, spCells, pCells, spCells, pCells, wCells, kCells, wCells, kCells, wCells, kCells, spCells, pCells, wCells, kCells]; done)) infSuperS_75 rfl (by first | rfl | (simp [bcells_length, spCells, pCells, spCells, pCells, wCells, kCells, wCells, kCells, wCells, kCells, spCells, pCells, wCells, kCells]; done) | (simp [bcells_length, spCells, pCells, spCells, pCells, wCells, kCells, wCells, kCells, wCells, kCells, spCells, pCells, wCells, kCells]; omega) | (simp [bcells_length, *, spCells, pCells, spCells, pCells, wCells, kCells, wCells, kCells, wCells, kCells, spCells, pCells, wCells, kCells]; done)) (by first | rfl | exact bcells_all _ | (simp [Value.oneCell', spCells, pCells, spCells, pCells, wCells, kCells, wCells, kCells, wCells, kCells, spCells, pCells, wCells, kCells]; done) | (simp [Value.oneCell', *, spCells, pCells, spCells, pCells, wCells, kCells, wCells, kCells, wCells, kCells, spCells, pCells, wCells, kCells]; done))) rfl ?_
               refine G_done ?_
               refine G_ret (post := []) Try.func51 rfl (RVs_cons (RV_cell (s := 5) rfl (mem_at 2 rfl) Try.underlying75 rfl infSuperS_75 rfl (by first | rfl | (simp [bcells_length, spCells, pCells, spCells, pCells, wCells, kCells, wCells, kCells, wCells, kCells, spCells, pCells, wCells, kCells]; done) | (simp [bcells_length, spCells, pCells, spCells, pCells, wCells, kCells, wCells, kCells, wCells, kCells, spCells, pCells, wCells, kCells]; omega) | (simp [bcells_length, *, spCells, pCells, spCells, pCells, wCells, kCells, wCells, kCells, wCells, kCells, spCells, pCells, wCells, kCells]; done))) RVs_nil) [] rfl ?_
               dsimp only [packed]
               first
                 | (rw [decS_no (isS_not1 ho)]; exact ⟨rfl, rfl⟩)
                 | (rw [decS_no (isS_big (by assumption))]; exact ⟨rfl, rfl⟩)
                 | (rw [decS_no his]; exact ⟨rfl, rfl⟩)
                 | (rw [decS_yes his]; exact ⟨rfl, rfl⟩)
             · skip
               first | rw [cells_get (openD b) hd48 (by omega)] | skip
               refine G_region (l := [0, 1, 2, 3, 4, 5, 6]) rfl ?_
               first
                 | refine G_val rfl rfl rfl rfl (V_loadW (s := 5) rfl rfl (mem_at 0 rfl) Try.underlying75 rfl infSuperS_75 rfl (by first | rfl | (simp [bcells_length, spCells, pCells, spCells, pCells, wCells, kCells, wCells, kCells, wCells, kCells, spCells, pCells, wCells, kCells]; done) | (simp [bcells_length, spCells, pCells, spCells, pCells, wCells, kCells, wCells, kCells, wCells, kCells, spCells, pCells, wCells, kCells]; omega) | (simp [bcells_length, *, spCells, pCells, spCells, pCells, wCells, kCells, wCells, kCells, wCells, kCells, spCells, pCells, wCells, kCells]; done))) ?_
                 | refine G_val rfl rfl rfl rfl (V_loadA (s := 5) rfl rfl (mem_at 0 rfl) Try.underlying75 rfl infSuperS_75 rfl rfl (by first | rfl | (simp [bcells_length, spCells, pCells, spCells, pCells, wCells, kCells, wCells, kCells, wCells, kCells, spCells, pCells, wCells, kCells]; done) | (simp [bcells_length, spCells, pCells, spCells, pCells, wCells, kCells, wCells, kCells, wCells, kCells, spCells, pCells, wCells, kCells]; omega) | (simp [bcells_length, *, spCells, pCells, spCells, pCells, wCells, kCells, wCells, kCells, wCells, kCells, spCells, pCells, wCells, kCells]; done))) ?_
               refine G_call (L2 := [_, _, _]) rfl rfl rfl rfl rfl rfl Try.call49 ((rsup_encode (getS (openD b)) (getS_ok _)).weaken (fun v post h => by rw [(encT_no (decide_eq_false hm)).1, (encT_no (decide_eq_false hm)).2] at h; exact h)) [] [] rfl rfl ?_
               rintro v post ⟨rfl, rfl⟩
               show G _ _ _ [_, _, _] _
               refine G_val rfl rfl rfl rfl (V_move rfl rfl) ?_
               refine G_val rfl rfl rfl rfl (V_extract rfl rfl rfl) ?_
               refine G_val rfl rfl rfl rfl (V_extract rfl rfl rfl) ?_
               refine G_val rfl rfl rfl rfl (V_assign rfl rfl) ?_
               refine G_val rfl rfl rfl rfl (V_assign rfl rfl) ?_
               refine G_done ?_
               refine G_seq ?_
               refine G_seq ?_
               refine G_region (l := [0, 1, 2, 3, 4, 5, 6]) rfl ?_
               refine G_val rfl rfl rfl rfl (V_move rfl rfl) ?_
               refine G_val rfl rfl rfl rfl (V_neq rfl rfl rfl) ?_
               refine G_val rfl rfl rfl rfl (V_move rfl rfl) ?_
               refine G_splitD 48 rfl (fun hc3 => ?_) (fun hc3 => ?_)
               rotate_left
               · (first | (exact absurd rfl hc3) | (exact absurd hc3 Bool.false_ne_true) | (exact absurd hc3 (by decide)) | (exact absurd hc3 hne) | (exact absurd hne hc3) | (exfalso; omega))
               refine G_off rfl rfl rfl rfl ?_
               refine G_off rfl rfl rfl rfl ?_
               refine G_off rfl rfl rfl rfl ?_
               refine G_val rfl rfl rfl rfl (V_pickT rfl rfl rfl) ?_
               refine G_done ?_
               refine G_then rfl ?_
               refine G_seq ?_
               refine G_region (l := [0, 1]) rfl ?_
               refine G_val rfl rfl rfl rfl (V_buildS (cs := [_, _, _, _, _]) rfl Try.underlying75 infSuperS_75 rfl plcSuperS_75 rfl rfl rfl) ?_
               refine G_put (l1 := [_, _]) (L' := [_, _, _]) rfl rfl rfl rfl (P_storeA (s := 5) rfl rfl rfl (mem_at 2 rfl) (by first | rfl | (simp [bcells_length, spCells, pCells, spCells, pCells, wCells, kCells, wCells, kCells, wCells, kCells, spCells, pCells, wCells, kCells]; done) | (simp [bcells_length, spCells, pCells, spCells, pCells, wCells, kCells, wCells, kCells, wCells, kCells, spCells, pCells, wCells, kCells]; omega) | (simp [bcells_length, *, spCells, pCells, spCells, pCells, wCells, kCells, wCells, kCells, wCells, kCells, spCells, pCells, wCells, kCells]; done)) infSuperS_75 rfl (by first | rfl | (simp [bcells_length, spCells, pCells, spCells, pCells, wCells, kCells, wCells, kCells, wCells, kCells, spCells, pCells, wCells, kCells]; done) | (simp [bcells_length, spCells, pCells, spCells, pCells, wCells, kCells, wCells, kCells, wCells, kCells, spCells, pCells, wCells, kCells]; omega) | (simp [bcells_length, *, spCells, pCells, spCells, pCells, wCells, kCells, wCells, kCells, wCells, kCells, spCells, pCells, wCells, kCells]; done)) (by first | rfl | exact bcells_all _ | (simp [Value.oneCell', spCells, pCells, spCells, pCells, wCells, kCells, wCells, kCells, wCells, kCells, spCells, pCells, wCells, kCells]; done) | (simp [Value.oneCell', *, spCells, pCells, spCells, pCells, wCells, kCells, wCells, kCells, wCells, kCells, spCells, pCells, wCells, kCells]; done))) rfl ?_
               refine G_done ?_
               refine G_ret (post := []) Try.func51 rfl (RVs_cons (RV_cell (s := 5) rfl (mem_at 2 rfl) Try.underlying75 rfl infSuperS_75 rfl (by first | rfl | (simp [bcells_length, spCells, pCells, spCells, pCells, wCells, kCells, wCells, kCells, wCells, kCells, spCells, pCells, wCells, kCells]; done) | (simp [bcells_length, spCells, pCells, spCells, pCells, wCells, kCells, wCells, kCells, wCells, kCells, spCells, pCells, wCells, kCells]; omega) | (simp [bcells_length, *, spCells, pCells, spCells, pCells, wCells, kCells, wCells, kCells, wCells, kCells, spCells, pCells, wCells, kCells]; done))) RVs_nil) [] rfl ?_
               dsimp only [packed]
               first
                 | (rw [decS_no (isS_not1 ho)]; exact ⟨rfl, rfl⟩)
                 | (rw [decS_no (isS_big (by assumption))]; exact ⟨rfl, rfl⟩)
                 | (rw [decS_no his]; exact ⟨rfl, rfl⟩)
                 | (rw [decS_yes his]; exact ⟨rfl, rfl⟩)
             · skip
               first | rw [cells_get (openD b) hd48 (by omega)] | skip
               refine G_region (l := [0, 1, 2, 3, 4, 5, 6]) rfl ?_
               first
                 | refine G_val rfl rfl rfl rfl (V_loadW (s := 5) rfl rfl (mem_at 0 rfl) Try.underlying75 rfl infSuperS_75 rfl (by first | rfl | (simp [bcells_length, spCells, pCells, spCells, pCells, wCells, kCells, wCells, kCells, wCells, kCells, spCells, pCells, wCells, kCells]; done) | (simp [bcells_length, spCells, pCells, spCells, pCells, wCells, kCells, wCells, kCells, wCells, kCells, spCells, pCells, wCells, kCells]; omega) | (simp [bcells_length, *, spCells, pCells, spCells, pCells, wCells, kCells, wCells, kCells, wCells, kCells, spCells, pCells, wCells, kCells]; done))) ?_
                 | refine G_val rfl rfl rfl rfl (V_loadA (s := 5) rfl rfl (mem_at 0 rfl) Try.underlying75 rfl infSuperS_75 rfl rfl (by first | rfl | (simp [bcells_length, spCells, pCells, spCells, pCells, wCells, kCells, wCells, kCells, wCells, kCells, spCells, pCells, wCells, kCells]; done) | (simp [bcells_length, spCells, pCells, spCells, pCells, wCells, kCells, wCells, kCells, wCells, kCells, spCells, pCells, wCells, kCells]; omega) | (simp [bcells_length, *, spCells, pCells, spCells, pCells, wCells, kCells, wCells, kCells, wCells, kCells, spCells, pCells, wCells, kCells]; done))) ?_
               refine G_call (L2 := [_, _, _]) rfl rfl rfl rfl rfl rfl Try.call49 ((rsup_encode (getS (openD b)) (getS_ok _)).weaken (fun v post h => by rw [(encT_yes (decide_eq_true hm)).1, (encT_yes (decide_eq_true hm)).2] at h; exact h)) [] [] rfl rfl ?_
               rintro v post ⟨rfl, rfl⟩
               show G _ _ _ [_, _, _] _
               refine G_val rfl rfl rfl rfl (V_move rfl rfl) ?_
               refine G_val rfl rfl rfl rfl (V_extract rfl rfl rfl) ?_
               refine G_val rfl rfl rfl rfl (V_extract rfl rfl rfl) ?_
               refine G_val rfl rfl rfl rfl (V_assign rfl rfl) ?_
               refine G_val rfl rfl rfl rfl (V_assign rfl rfl) ?_
               refine G_done ?_
               refine G_seq ?_
               refine G_seq ?_
               refine G_region (l := [0, 1, 2, 3, 4, 5, 6]) rfl ?_
               refine G_val rfl rfl rfl rfl (V_move rfl rfl) ?_
               refine G_val rfl rfl rfl rfl (V_neq rfl rfl rfl) ?_
               refine G_val rfl rfl rfl rfl (V_move rfl rfl) ?_
               refine G_splitD 48 rfl (fun hc3 => ?_) (fun hc3 => ?_)
               · (first | (exact absurd rfl hc3) | (exact absurd hc3 Bool.false_ne_true) | (exact absurd hc3 (by decide)) | (exact absurd hc3 hne) | (exact absurd hne hc3) | (exfalso; omega))
               refine G_val rfl rfl rfl rfl (V_move rfl rfl) ?_
               refine G_val rfl rfl rfl rfl (V_move rfl rfl) ?_
               refine G_val rfl rfl rfl rfl (V_sneq rfl rfl rfl) ?_
               refine G_val rfl rfl rfl rfl (V_pickF rfl rfl rfl) ?_
               refine G_done ?_
               refine G_ifD rfl (fun hc4 => ?_) (fun hc4 => ?_)
               rotate_left
               · (first | (exact absurd rfl hc4) | (exact absurd hc4 Bool.false_ne_true) | (exact absurd hc4 (by decide)) | (exact absurd hc4 hne) | (exact absurd hne hc4) | (exfalso; omega))
               refine G_seq ?_
               refine G_region (l := [0, 1]) rfl ?_
               refine G_val rfl rfl rfl rfl (V_buildS (cs := [_, _, _, _, _]) rfl Try.underlying75 infSuperS_75 rfl plcSuperS_75 rfl rfl rfl) ?_
               refine G_put (l1 := [_, _]) (L' := [_, _, _]) rfl rfl rfl rfl (P_storeA (s := 5) rfl rfl rfl (mem_at 2 rfl) (by first | rfl | (simp [bcells_length, spCells, pCells, spCells, pCells, wCells, kCells, wCells, kCells, wCells, kCells, spCells, pCells, wCells, kCells]; done) | (simp [bcells_length, spCells, pCells, spCells, pCells, wCells, kCells, wCells, kCells, wCells, kCells, spCells, pCells, wCells, kCells]; omega) | (simp [bcells_length, *, spCells, pCells, spCells, pCells, wCells, kCells, wCells, kCells, wCells, kCells, spCells, pCells, wCells, kCells]; done)) infSuperS_75 rfl (by first | rfl | (simp [bcells_length, spCells, pCells, spCells, pCells, wCells, kCells, wCells, kCells, wCells, kCells, spCells, pCells, wCells, kCells]; done) | (simp [bcells_length, spCells, pCells, spCells, pCells, wCells, kCells, wCells, kCells, wCells, kCells, spCells, pCells, wCells, kCells]; omega) | (simp [bcells_length, *, spCells, pCells, spCells, pCells, wCells, kCells, wCells, kCells, wCells, kCells, spCells, pCells, wCells, kCells]; done)) (by first | rfl | exact bcells_all _ | (simp [Value.oneCell', spCells, pCells, spCells, pCells, wCells, kCells, wCells, kCells, wCells, kCells, spCells, pCells, wCells, kCells]; done) | (simp [Value.oneCell', *, spCells, pCells, spCells, pCells, wCells, kCells, wCells, kCells, wCells, kCells, spCells, pCells, wCells, kCells]; done))) rfl ?_
               refine G_done ?_
               refine G_ret (post := []) Try.func51 rfl (RVs_cons (RV_cell (s := 5) rfl (mem_at 2 rfl) Try.underlying75 rfl infSuperS_75 rfl (by first | rfl | (simp [bcells_length, spCells, pCells, spCells, pCells, wCells, kCells, wCells, kCells, wCells, kCells, spCells, pCells, wCells, kCells]; done) | (simp [bcells_length, spCells, pCells, spCells, pCells, wCells, kCells, wCells, kCells, wCells, kCells, spCells, pCells, wCells, kCells]; omega) | (simp [bcells_length, *, spCells, pCells, spCells, pCells, wCells, kCells, wCells, kCells, wCells, kCells, spCells, pCells, wCells, kCells]; done))) RVs_nil) [] rfl ?_
               dsimp only [packed]
               first
                 | (rw [decS_no (isS_not1 ho)]; exact ⟨rfl, rfl⟩)
                 | (rw [decS_no (isS_big (by assumption))]; exact ⟨rfl, rfl⟩)
                 | (rw [decS_no his]; exact ⟨rfl, rfl⟩)
                 | (rw [decS_yes his]; exact ⟨rfl, rfl⟩)
     · skip
       refine GHop_new rfl rfl rfl rfl (N_allocA rfl infSuperS_75 rfl) [] (fun _ => ⟨_, rfl⟩) (fun b6 => ?_)
       refine GH_all [6] (by kernel_rfl) (by decide) ?_
       refine (And.intro ?_ trivial)
       · skip
         refine GHop_call (L2 := [_, _, _]) rfl rfl rfl rfl rfl rfl Try.call122 (rsup_number _ (by first | omega | (simp; omega)) (by first | omega | (simp; omega))) [] [] rfl rfl [] (by rintro v post ⟨rfl, rfl⟩; exact ⟨_, rfl⟩) ?_
         rintro v post ⟨rfl, rfl⟩
         show GH _ _ _ _ _ _ _ [_, _, _] _
         first
           | refine GH_take 7 rfl rfl rfl rfl (by kernel_rfl) (by kernel_rfl) (by kernel_rfl) (fun _ _ => ((V_conv rfl rfl Try.underlying94 Try.underlying73).int (wrap_u32 (by omega)))) ?_
           | refine GH_take 7 rfl rfl rfl rfl (by kernel_rfl) (by kernel_rfl) (by kernel_rfl) (fun _ _ => (V_conv rfl rfl Try.underlying94 Try.underlying73)) ?_
         refine GH_all [10] (by kernel_rfl) (by decide) ?_
         refine (And.intro ?_ trivial)
         · skip
           refine GHop_call (L2 := [_, _, _]) rfl rfl rfl rfl rfl rfl Try.call122 (rsup_number _ (by first | omega | (simp; omega)) (by first | omega | (simp; omega))) [] [] rfl rfl [] (by rintro v post ⟨rfl, rfl⟩; exact ⟨_, rfl⟩) ?_
           rintro v post ⟨rfl, rfl⟩
           show GH _ _ _ _ _ _ _ [_, _, _] _
           first
             | refine GH_take 11 rfl rfl rfl rfl (by kernel_rfl) (by kernel_rfl) (by kernel_rfl) (fun _ _ => ((V_conv rfl rfl Try.underlying94 Try.underlying73).int (wrap_u32 (by omega)))) ?_
             | refine GH_take 11 rfl rfl rfl rfl (by kernel_rfl) (by kernel_rfl) (by kernel_rfl) (fun _ _ => (V_conv rfl rfl Try.underlying94 Try.underlying73)) ?_
           refine GH_take 17 rfl rfl rfl rfl (by kernel_rfl) (by kernel_rfl) (by kernel_rfl) (fun _ _ => (V_buildS (cs := [_, _, _, _, _]) rfl Try.underlying75 infSuperS_75 rfl plcSuperS_75 rfl rfl rfl)) ?_
           refine GH_all [19] (by kernel_rfl) (by decide) ?_
           refine (And.intro ?_ trivial)
           · skip
             refine GHop_put (l1 := []) (L' := [_, _, _]) rfl rfl rfl rfl (P_storeA (s := 5) rfl rfl rfl (mem_at 0 rfl) (by first | rfl | (simp [bcells_length, spCells, pCells, spCells, pCells, wCells, kCells, wCells, kCells, wCells, kCells, spCells, pCells, wCells, kCells]; done) | (simp [bcells_length, spCells, pCells, spCells, pCells, wCells, kCells, wCells, kCells, wCells, kCells, spCells, pCells, wCells, kCells]; omega) | (simp [bcells_length, *, spCells, pCells, spCells, pCells, wCells, kCells, wCells, kCells, wCells, kCells, spCells, pCells, wCells, kCells]; done)) infSuperS_75 rfl (by first | rfl | (simp [bcells_length, spCells, pCells, spCells, pCells, wCells, kCells, wCells, kCells, wCells, kCells, spCells, pCells, wCells, kCells]; done) | (simp [bcells_length, spCells, pCells, spCells, pCells, wCells, kCells, wCells, kCells, wCells, kCells, spCells, pCells, wCells, kCells]; omega) | (simp [bcells_length, *, spCells, pCells, spCells, pCells, wCells, kCells, wCells, kCells, wCells, kCells, spCells, pCells, wCells, kCells]; done)) (by first | rfl | exact bcells_all _ | (simp [Value.oneCell', spCells, pCells, spCells, pCells, wCells, kCells, wCells, kCells, wCells, kCells, spCells, pCells, wCells, kCells]; done) | (simp [Value.oneCell', *, spCells, pCells, spCells, pCells, wCells, kCells, wCells, kCells, wCells, kCells, spCells, pCells, wCells, kCells]; done))) rfl [] rfl ?_
             refine GH_done (by kernel_rfl) ?_
             refine G_seq ?_
             first | rw [cells_get (openD b) hd48 (by omega)] | skip
             rcases is3 b ho with his | ⟨his, hm⟩ | ⟨his, hm, hne⟩
             · skip
               first | rw [cells_get (openD b) hd48 (by omega)] | skip
               refine G_region (l := [0, 1, 2, 3, 4, 5, 6]) rfl ?_
               first
                 | refine G_val rfl rfl rfl rfl (V_loadW (s := 5) rfl rfl (mem_at 0 rfl) Try.underlying75 rfl infSuperS_75 rfl (by first | rfl | (simp [bcells_length, spCells, pCells, spCells, pCells, wCells, kCells, wCells, kCells, wCells, kCells, spCells, pCells, wCells, kCells]; done) | (simp [bcells_length, spCells, pCells, spCells, pCells, wCells, kCells, wCells, kCells, wCells, kCells, spCells, pCells, wCells, kCells]; omega) | (simp [bcells_length, *, spCells, pCells, spCells, pCells, wCells, kCells, wCells, kCells, wCells, kCells, spCells, pCells, wCells, kCells]; done))) ?_
                 | refine G_val rfl rfl rfl rfl (V_loadA (s := 5) rfl rfl (mem_at 0 rfl) Try.underlying75 rfl infSuperS_75 rfl rfl (by first | rfl | (simp [bcells_length, spCells, pCells, spCells, pCells, wCells, kCells, wCells, kCells, wCells, kCells, spCells, pCells, wCells, kCells]; done) | (simp [bcells_length, spCells, pCells, spCells, pCells, wCells, kCells, wCells, kCells, wCells, kCells, spCells, pCells, wCells, kCells]; omega) | (simp [bcells_length, *, spCells, pCells, spCells, pCells, wCells, kCells, wCells, kCells, wCells, kCells, spCells, pCells, wCells, kCells]; done))) ?_
               refine G_call (L2 := [_, _, _]) rfl rfl rfl rfl rfl rfl Try.call49 ((rsup_encode (getS (openD b)) (getS_ok _)).weaken (fun v post h => by rw [(enc_is his).1, (enc_is his).2] at h; exact h)) [] [] rfl rfl ?_
               rintro v post ⟨rfl, rfl⟩
               show G _ _ _ [_, _, _] _
               refine G_val rfl rfl rfl rfl (V_move rfl rfl) ?_
               refine G_val rfl rfl rfl rfl (V_extract rfl rfl rfl) ?_
               refine G_val rfl rfl rfl rfl (V_extract rfl rfl rfl) ?_
               refine G_val rfl rfl rfl rfl (V_assign rfl rfl) ?_
               refine G_val rfl rfl rfl rfl (V_assign rfl rfl) ?_
               refine G_done ?_
               refine G_seq ?_
               refine G_seq ?_
               refine G_region (l := [0, 1, 2, 3, 4, 5, 6]) rfl ?_
               refine G_val rfl rfl rfl rfl (V_move rfl rfl) ?_
               refine G_val rfl rfl rfl rfl (V_neq rfl rfl rfl) ?_
               refine G_val rfl rfl rfl rfl (V_move rfl rfl) ?_
               refine G_splitD 48 rfl (fun hc3 => ?_) (fun hc3 => ?_)
               · (first | (exact absurd rfl hc3) | (exact absurd hc3 Bool.false_ne_true) | (exact absurd hc3 (by decide)) | (exact absurd hc3 hne) | (exact absurd hne hc3) | (exfalso; omega))
               refine G_val rfl rfl rfl rfl (V_move rfl rfl) ?_
               refine G_val rfl rfl rfl rfl (V_move rfl rfl) ?_
               refine G_val rfl rfl rfl rfl (V_sneq rfl rfl rfl) ?_
               refine G_val rfl rfl rfl rfl (V_pickF rfl rfl rfl) ?_
               refine G_done ?_
               refine G_ifD rfl (fun hc4 => ?_) (fun hc4 => ?_)
               · (first | (exact absurd rfl hc4) | (exact absurd hc4 Bool.false_ne_true) | (exact absurd hc4 (by decide)) | (exact absurd hc4 hne) | (exact absurd hne hc4) | (exfalso; omega))
               refine G_skip ?_
               refine G_seq ?_
               refine G_region (l := [0, 1]) rfl ?_
               first
                 | refine G_val rfl rfl rfl rfl (V_loadW (s := 5) rfl rfl (mem_at 0 rfl) Try.underlying75 rfl infSuperS_75 rfl (by first | rfl | (simp [bcells_length, spCells, pCells, spCells, pCells, wCells, kCells, wCells, kCells, wCells, kCells, spCells, pCells, wCells, kCells]; done) | (simp [bcells_length, spCells, pCells, spCells, pCells, wCells, kCells, wCells, kCells, wCells, kCells, spCells, pCells, wCells, kCells]; omega) | (simp [bcells_length, *, spCells, pCells, spCells, pCells, wCells, kCells, wCells, kCells, wCells, kCells, spCells, pCells, wCells, kCells]; done))) ?_
                 | refine G_val rfl rfl rfl rfl (V_loadA (s := 5) rfl rfl (mem_at 0 rfl) Try.underlying75 rfl infSuperS_75 rfl rfl (by first | rfl | (simp [bcells_length, spCells, pCells, spCells, pCells, wCells, kCells, wCells, kCells, wCells, kCells, spCells, pCells, wCells, kCells]; done) | (simp [bcells_length, spCells, pCells, spCells, pCells, wCells, kCells, wCells, kCells, wCells, kCells, spCells, pCells, wCells, kCells]; omega) | (simp [bcells_length, *, spCells, pCells, spCells, pCells, wCells, kCells, wCells, kCells, wCells, kCells, spCells, pCells, wCells, kCells]; done))) ?_
               refine G_put (l1 := [_, _]) (L' := [_, _, _]) rfl rfl rfl rfl (P_storeA (s := 5) rfl rfl rfl (mem_at 2 rfl) (by first | rfl | (simp [bcells_length, spCells, pCells, spCells, pCells, wCells, kCells, wCells, kCells, wCells, kCells, spCells, pCells, wCells, kCells]; done) | (simp [bcells_length, spCells, pCells, spCells, pCells, wCells, kCells, wCells, kCells, wCells, kCells, spCells, pCells, wCells, kCells]; omega) | (simp [bcells_length, *, spCells, pCells, spCells, pCells, wCells, kCells, wCells, kCells, wCells, kCells, spCells, pCells, wCells, kCells]; done)) infSuperS_75 rfl (by first | rfl | (simp [bcells_length, spCells, pCells, spCells, pCells, wCells, kCells, wCells, kCells, wCells, kCells, spCells, pCells, wCells, kCells]; done) | (simp [bcells_length, spCells, pCells, spCells, pCells, wCells, kCells, wCells, kCells, wCells, kCells, spCells, pCells, wCells, kCells]; omega) | (simp [bcells_length, *, spCells, pCells, spCells, pCells, wCells, kCells, wCells, kCells, wCells, kCells, spCells, pCells, wCells, kCells]; done)) (by first | rfl | exact bcells_all _ | (simp [Value.oneCell', spCells, pCells, spCells, pCells, wCells, kCells, wCells, kCells, wCells, kCells, spCells, pCells, wCells, kCells]; done) | (simp [Value.oneCell', *, spCells, pCells, spCells, pCells, wCells, kCells, wCells, kCells, wCells, kCells, spCells, pCells, wCells, kCells]; done))) rfl ?_
               refine G_done ?_
               refine G_ret (post := []) Try.func51 rfl (RVs_cons (RV_cell (s := 5) rfl (mem_at 2 rfl) Try.underlying75 rfl infSuperS_75 rfl (by first | rfl | (simp [bcells_length, spCells, pCells, spCells, pCells, wCells, kCells, wCells, kCells, wCells, kCells, spCells, pCells, wCells, kCells]; done) | (simp [bcells_length, spCells, pCells, spCells, pCells, wCells, kCells, wCells, kCells, wCells, kCells, spCells, pCells, wCells, kCells]; omega) | (simp [bcells_length, *, spCells, pCells, spCells, pCells, wCells, kCells, wCells, kCells, wCells, kCells, spCells, pCells, wCells, kCells]; done))) RVs_nil) [] rfl ?_
               dsimp only [packed]
               first
                 | (rw [decS_no (isS_not1 ho)]; exact ⟨rfl, rfl⟩)
                 | (rw [decS_no (isS_big (by assumption))]; exact ⟨rfl, rfl⟩)
                 | (rw [decS_no his]; exact ⟨rfl, rfl⟩)
                 | (rw [decS_yes his]; exact ⟨rfl, rfl⟩)
             · skip
               first | rw [cells_get (openD b) hd48 (by omega)] | skip
               refine G_region (l := [0, 1, 2, 3, 4, 5, 6]) rfl ?_
               first
                 | refine G_val rfl rfl rfl rfl (V_loadW (s := 5) rfl rfl (mem_at 0 rfl) Try.underlying75 rfl infSuperS_75 rfl (by first | rfl | (simp [bcells_length, spCells, pCells, spCells, pCells, wCells, kCells, wCells, kCells, wCells, kCells, spCells, pCells, wCells, kCells]; done) | (simp [bcells_length, spCells, pCells, spCells, pCells, wCells, kCells, wCells, kCells, wCells, kCells, spCells, pCells, wCells, kCells]; omega) | (simp [bcells_length, *, spCells, pCells, spCells, pCells, wCells, kCells, wCells, kCells, wCells, kCells, spCells, pCells, wCells, kCells]; done))) ?_
                 | refine G_val rfl rfl rfl rfl (V_loadA (s := 5) rfl rfl (mem_at 0 rfl) Try.underlying75 rfl infSuperS_75 rfl rfl (by first | rfl | (simp [bcells_length, spCells, pCells, spCells, pCells, wCells, kCells, wCells, kCells, wCells, kCells, spCells, pCells, wCells, kCells]; done) | (simp [bcells_length, spCells, pCells, spCells, pCells, wCells, kCells, wCells, kCells, wCells, kCells, spCells, pCells, wCells, kCells]; omega) | (simp [bcells_length, *, spCells, pCells, spCells, pCells, wCells, kCells, wCells, kCells, wCells, kCells, spCells, pCells, wCells, kCells]; done))) ?_
               refine G_call (L2 := [_, _, _]) rfl rfl rfl rfl rfl rfl Try.call49 ((rsup_encode (getS (openD b)) (getS_ok _)).weaken (fun v post h => by rw [(encT_no (decide_eq_false hm)).1, (encT_no (decide_eq_false hm)).2] at h; exact h)) [] [] rfl rfl ?_
               rintro v post ⟨rfl, rfl⟩
               show G _ _ _ [_, _, _] _
               refine G_val rfl rfl rfl rfl (V_move rfl rfl) ?_
               refine G_val rfl rfl rfl rfl (V_extract rfl rfl rfl) ?_
               refine G_val rfl rfl rfl rfl (V_extract rfl rfl rfl) ?_
               refine G_val rfl rfl rfl rfl (V_assign rfl rfl) ?_
               refine G_val rfl rfl rfl rfl (V_assign rfl rfl) ?_
               refine G_done ?_
               refine G_seq ?_
               refine G_seq ?_
               refine G_region (l := [0, 1, 2, 3, 4, 5, 6]) rfl ?_
               refine G_val rfl rfl rfl rfl (V_move rfl rfl) ?_
               refine G_val rfl rfl rfl rfl (V_neq rfl rfl rfl) ?_
               refine G_val rfl rfl rfl rfl (V_move rfl rfl) ?_
               refine G_splitD 48 rfl (fun hc3 => ?_) (fun hc3 => ?_)
               rotate_left
               · (first | (exact absurd rfl hc3) | (exact absurd hc3 Bool.false_ne_true) | (exact absurd hc3 (by decide)) | (exact absurd hc3 hne) | (exact absurd hne hc3) | (exfalso; omega))
               refine G_off rfl rfl rfl rfl ?_
               refine G_off rfl rfl rfl rfl ?_
               refine G_off rfl rfl rfl rfl ?_
               refine G_val rfl rfl rfl rfl (V_pickT rfl rfl rfl) ?_
               refine G_done ?_
               refine G_then rfl ?_
               refine G_seq ?_
               refine G_region (l := [0, 1]) rfl ?_
               refine G_val rfl rfl rfl rfl (V_buildS (cs := [_, _, _, _, _]) rfl Try.underlying75 infSuperS_75 rfl plcSuperS_75 rfl rfl rfl) ?_
               refine G_put (l1 := [_, _]) (L' := [_, _, _]) rfl rfl rfl rfl (P_storeA (s := 5) rfl rfl rfl (mem_at 2 rfl) (by first | rfl | (simp [bcells_length, spCells, pCells, spCells, pCells, wCells, kCells, wCells, kCells, wCells, kCells, spCells, pCells, wCells, kCells]; done) | (simp [bcells_length, spCells, pCells, spCells, pCells, wCells, kCells, wCells, kCells, wCells, kCells, spCells, pCells, wCells, kCells]; omega) | (simp [bcells_length, *, spCells, pCells, spCells, pCells, wCells, kCells, wCells, kCells, wCells, kCells, spCells, pCells, wCells, kCells]; done)) infSuperS_75 rfl (by first | rfl | (simp [bcells_length, spCells, pCells, spCells, pCells, wCells, kCells, wCells, kCells, wCells, kCells, spCells, pCells, wCells, kCells]; done) | (simp [bcells_length, spCells, pCells, spCells, pCells, wCells, kCells, wCells, kCells, wCells, kCells, spCells, pCells, wCells, kCells]; omega) | (simp [bcells_length, *, spCells, pCells, spCells, pCells, wCells, kCells, wCells, kCells, wCells, kCells, spCells, pCells, wCells, kCells]; done)) (by first | rfl | exact bcells_all _ | (simp [Value.oneCell', spCells, pCells, spCells, pCells, wCells, kCells, wCells, kCells, wCells, kCells, spCells, pCells, wCells, kCells]; done) | (simp [Value.oneCell', *, spCells, pCells, spCells, pCells, wCells, kCells, wCells, kCells, wCells, kCells, spCells, pCells, wCells, kCells]; done))) rfl ?_
               refine G_done ?_
               refine G_ret (post := []) Try.func51 rfl (RVs_cons (RV_cell (s := 5) rfl (mem_at 2 rfl) Try.underlying75 rfl infSuperS_75 rfl (by first | rfl | (simp [bcells_length, spCells, pCells, spCells, pCells, wCells, kCells, wCells, kCells, wCells, kCells, spCells, pCells, wCells, kCells]; done) | (simp [bcells_length, spCells, pCells, spCells, pCells, wCells, kCells, wCells, kCells, wCells, kCells, spCells, pCells, wCells, kCells]; omega) | (simp [bcells_length, *, spCells, pCells, spCells, pCells, wCells, kCells, wCells, kCells, wCells, kCells, spCells, pCells, wCells, kCells]; done))) RVs_nil) [] rfl ?_
               dsimp only [packed]
               first
                 | (rw [decS_no (isS_not1 ho)]; exact ⟨rfl, rfl⟩)
                 | (rw [decS_no (isS_big (by assumption))]; exact ⟨rfl, rfl⟩)
                 | (rw [decS_no his]; exact ⟨rfl, rfl⟩)
                 | (rw [decS_yes his]; exact ⟨rfl, rfl⟩)
             · skip
               first | rw [cells_get (openD b) hd48 (by omega)] | skip
               refine G_region (l := [0, 1, 2, 3, 4, 5, 6]) rfl ?_
               first
                 | refine G_val rfl rfl rfl rfl (V_loadW (s := 5) rfl rfl (mem_at 0 rfl) Try.underlying75 rfl infSuperS_75 rfl (by first | rfl | (simp [bcells_length, spCells, pCells, spCells, pCells, wCells, kCells, wCells, kCells, wCells, kCells, spCells, pCells, wCells, kCells]; done) | (simp [bcells_length, spCells, pCells, spCells, pCells, wCells, kCells, wCells, kCells, wCells, kCells, spCells, pCells, wCells, kCells]; omega) | (simp [bcells_length, *, spCells, pCells, spCells, pCells, wCells, kCells, wCells, kCells, wCells, kCells, spCells, pCells, wCells, kCells]; done))) ?_
                 | refine G_val rfl rfl rfl rfl (V_loadA (s := 5) rfl rfl (mem_at 0 rfl) Try.underlying75 rfl infSuperS_75 rfl rfl (by first | rfl | (simp [bcells_length, spCells, pCells, spCells, pCells, wCells, kCells, wCells, kCells, wCells, kCells, spCells, pCells, wCells, kCells]; done) | (simp [bcells_length, spCells, pCells, spCells, pCells, wCells, kCells, wCells, kCells, wCells, kCells, spCells, pCells, wCells, kCells]; omega) | (simp [bcells_length, *, spCells, pCells, spCells, pCells, wCells, kCells, wCells, kCells, wCells, kCells, spCells, pCells, wCells, kCells]; done))) ?_
               refine G_call (L2 := [_, _, _]) rfl rfl rfl rfl rfl rfl Try.call49 ((rsup_encode (getS (openD b)) (getS_ok _)).weaken (fun v post h => by rw [(encT_yes (decide_eq_true hm)).1, (encT_yes (decide_eq_true hm)).2] at h; exact h)) [] [] rfl rfl ?_
               rintro v post ⟨rfl, rfl⟩
               show G _ _ _ [_, _, _] _
               refine G_val rfl rfl rfl rfl (V_move rfl rfl) ?_
               refine G_val rfl rfl rfl rfl (V_extract rfl rfl rfl) ?_
               refine G_val rfl rfl rfl rfl (V_extract rfl rfl rfl) ?_
               refine G_val rfl rfl rfl rfl (V_assign rfl rfl) ?_
               refine G_val rfl rfl rfl rfl (V_assign rfl rfl) ?_
               refine G_done ?_
               refine G_seq ?_
               refine G_seq ?_
               refine G_region (l := [0, 1, 2, 3, 4, 5, 6]) rfl ?_
               refine G_val rfl rfl rfl rfl (V_move rfl rfl) ?_
               refine G_val rfl rfl rfl rfl (V_neq rfl rfl rfl) ?_
               refine G_val rfl rfl rfl rfl (V_move rfl rfl) ?_
               refine G_splitD 48 rfl (fun hc3 => ?_) (fun hc3 => ?_)
               · (first | (exact absurd rfl hc3) | (exact absurd hc3 Bool.false_ne_true) | (exact absurd hc3 (by decide)) | (exact absurd hc3 hne) | (exact absurd hne hc3) | (exfalso; omega))
               refine G_val rfl rfl rfl rfl (V_move rfl rfl) ?_
               refine G_val rfl rfl rfl rfl (V_move rfl rfl) ?_
               refine G_val rfl rfl rfl rfl (V_sneq rfl rfl rfl) ?_
               refine G_val rfl rfl rfl rfl (V_pickF rfl rfl rfl) ?_
               refine G_done ?_
               refine G_ifD rfl (fun hc4 => ?_) (fun hc4 => ?_)
               rotate_left
               · (first | (exact absurd rfl hc4) | (exact absurd hc4 Bool.false_ne_true) | (exact absurd hc4 (by decide)) | (exact absurd hc4 hne) | (exact absurd hne hc4) | (exfalso; omega))
               refine G_seq ?_
               refine G_region (l := [0, 1]) rfl ?_
               refine G_val rfl rfl rfl rfl (V_buildS (cs := [_, _, _, _, _]) rfl Try.underlying75 infSuperS_75 rfl plcSuperS_75 rfl rfl rfl) ?_
               refine G_put (l1 := [_, _]) (L' := [_, _, _]) rfl rfl rfl rfl (P_storeA (s := 5) rfl rfl rfl (mem_at 2 rfl) (by first | rfl | (simp [bcells_length, spCells, pCells, spCells, pCells, wCells, kCells, wCells, kCells, wCells, kCells, spCells, pCells, wCells, kCells]; done) | (simp [bcells_length, spCells, pCells, spCells, pCells, wCells, kCells, wCells, kCells, wCells, kCells, spCells, pCells, wCells, kCells]; omega) | (simp [bcells_length, *, spCells, pCells, spCells, pCells, wCells, kCells, wCells, kCells, wCells, kCells, spCells, pCells, wCells, kCells]; done)) infSuperS_75 rfl (by first | rfl | (simp [bcells_length, spCells, pCells, spCells, pCells, wCells, kCells, wCells, kCells, wCells, kCells, spCells, pCells, wCells, kCells]; done) | (simp [bcells_length, spCells, pCells, spCells, pCells, wCells, kCells, wCells, kCells, wCells, kCells, spCells, pCells, wCells, kCells]; omega) | (simp [bcells_length, *, spCells, pCells, spCells, pCells, wCells, kCells, wCells, kCells, wCells, kCells, spCells, pCells, wCells, kCells]; done)) (by first | rfl | exact bcells_all _ | (simp [Value.oneCell', spCells, pCells, spCells, pCells, wCells, kCells, wCells, kCells, wCells, kCells, spCells, pCells, wCells, kCells]; done) | (simp [Value.oneCell', *, spCells, pCells, spCells, pCells, wCells, kCells, wCells, kCells, wCells, kCells, spCells, pCells, wCells, kCells]; done))) rfl ?_
               refine G_done ?_
               refine G_ret (post := []) Try.func51 rfl (RVs_cons (RV_cell (s := 5) rfl (mem_at 2 rfl) Try.underlying75 rfl infSuperS_75 rfl (by first | rfl | (simp [bcells_length, spCells, pCells, spCells, pCells, wCells, kCells, wCells, kCells, wCells, kCells, spCells, pCells, wCells, kCells]; done) | (simp [bcells_length, spCells, pCells, spCells, pCells, wCells, kCells, wCells, kCells, wCells, kCells, spCells, pCells, wCells, kCells]; omega) | (simp [bcells_length, *, spCells, pCells, spCells, pCells, wCells, kCells, wCells, kCells, wCells, kCells, spCells, pCells, wCells, kCells]; done))) RVs_nil) [] rfl ?_
               dsimp only [packed]
               first
                 | (rw [decS_no (isS_not1 ho)]; exact ⟨rfl, rfl⟩)
                 | (rw [decS_no (isS_big (by assumption))]; exact ⟨rfl, rfl⟩)
                 | (rw [decS_no his]; exact ⟨rfl, rfl⟩)
                 | (rw [decS_yes his]; exact ⟨rfl, rfl⟩)
   · skip
     refine GHop_new rfl rfl rfl rfl (N_allocA rfl infSuperS_75 rfl) [] (fun _ => ⟨_, rfl⟩) (fun b6 => ?_)
     refine GH_all [2] (by kernel_rfl) (by decide) ?_
     refine (And.intro ?_ trivial)
     · skip
       refine GHop_call (L2 := [_, _, _]) rfl rfl rfl rfl rfl rfl Try.call122 (rsup_number _ (by first | omega | (simp; omega)) (by first | omega | (simp; omega))) [] [] rfl rfl [] (by rintro v post ⟨rfl, rfl⟩; exact ⟨_, rfl⟩) ?_
       rintro v post ⟨rfl, rfl⟩
       show GH _ _ _ _ _ _ _ [_, _, _] _
       first
         | refine GH_take 3 rfl rfl rfl rfl (by kernel_rfl) (by kernel_rfl) (by kernel_rfl) (fun _ _ => ((V_conv rfl rfl Try.underlying94 Try.underlying73).int (wrap_u32 (by omega)))) ?_
         | refine GH_take 3 rfl rfl rfl rfl (by kernel_rfl) (by kernel_rfl) (by kernel_rfl) (fun _ _ => (V_conv rfl rfl Try.underlying94 Try.underlying73)) ?_
       refine GH_all [6] (by kernel_rfl) (by decide) ?_
       refine (And.intro ?_ trivial)
       · skip
         refine GHop_call (L2 := [_, _, _]) rfl rfl rfl rfl rfl rfl Try.call122 (rsup_number _ (by first | omega | (simp; omega)) (by first | omega | (simp; omega))) [] [] rfl rfl [] (by rintro v post ⟨rfl, rfl⟩; exact ⟨_, rfl⟩) ?_
         rintro v post ⟨rfl, rfl⟩
         show GH _ _ _ _ _ _ _ [_, _, _] _
         first
           | refine GH_take 7 rfl rfl rfl rfl (by kernel_rfl) (by kernel_rfl) (by kernel_rfl) (fun _ _ => ((V_conv rfl rfl Try.underlying94 Try.underlying73).int (wrap_u32 (by omega)))) ?_
           | refine GH_take 7 rfl rfl rfl rfl (by kernel_rfl) (by kernel_rfl) (by kernel_rfl) (fun _ _ => (V_conv rfl rfl Try.underlying94 Try.underlying73)) ?_
         refine GH_all [10] (by kernel_rfl) (by decide) ?_
         refine (And.intro ?_ trivial)
         · skip
           refine GHop_call (L2 := [_, _, _]) rfl rfl rfl rfl rfl rfl Try.call122 (rsup_number _ (by first | omega | (simp; omega)) (by first | omega | (simp; omega))) [] [] rfl rfl [] (by rintro v post ⟨rfl, rfl⟩; exact ⟨_, rfl⟩) ?_
           rintro v post ⟨rfl, rfl⟩
           show GH _ _ _ _ _ _ _ [_, _, _] _
           first
             | refine GH_take 11 rfl rfl rfl rfl (by kernel_rfl) (by kernel_rfl) (by kernel_rfl) (fun _ _ => ((V_conv rfl rfl Try.underlying94 Try.underlying73).int (wrap_u32 (by omega)))) ?_
             | refine GH_take 11 rfl rfl rfl rfl (by kernel_rfl) (by kernel_rfl) (by kernel_rfl) (fun _ _ => (V_conv rfl rfl Try.underlying94 Try.underlying73)) ?_
           refine GH_take 17 rfl rfl rfl rfl (by kernel_rfl) (by kernel_rfl) (by kernel_rfl) (fun _ _ => (V_buildS (cs := [_, _, _, _, _]) rfl Try.underlying75 infSuperS_75 rfl plcSuperS_75 rfl rfl rfl)) ?_
           refine GH_all [19] (by kernel_rfl) (by decide) ?_
           refine (And.intro ?_ trivial)
           · skip
             refine GHop_put (l1 := []) (L' := [_, _, _]) rfl rfl rfl rfl (P_storeA (s := 5) rfl rfl rfl (mem_at 0 rfl) (by first | rfl | (simp [bcells_length, spCells, pCells, spCells, pCells, wCells, kCells, wCells, kCells, wCells, kCells, spCells, pCells, wCells, kCells]; done) | (simp [bcells_length, spCells, pCells, spCells, pCells, wCells, kCells, wCells, kCells, wCells, kCells, spCells, pCells, wCells, kCells]; omega) | (simp [bcells_length, *, spCells, pCells, spCells, pCells, wCells, kCells, wCells, kCells, wCells, kCells, spCells, pCells, wCells, kCells]; done)) infSuperS_75 rfl (by first | rfl | (simp [bcells_length, spCells, pCells, spCells, pCells, wCells, kCells, wCells, kCells, wCells, kCells, spCells, pCells, wCells, kCells]; done) | (simp [bcells_length, spCells, pCells, spCells, pCells, wCells, kCells, wCells, kCells, wCells, kCells, spCells, pCells, wCells, kCells]; omega) | (simp [bcells_length, *, spCells, pCells, spCells, pCells, wCells, kCells, wCells, kCells, wCells, kCells, spCells, pCells, wCells, kCells]; done)) (by first | rfl | exact bcells_all _ | (simp [Value.oneCell', spCells, pCells, spCells, pCells, wCells, kCells, wCells, kCells, wCells, kCells, spCells, pCells, wCells, kCells]; done) | (simp [Value.oneCell', *, spCells, pCells, spCells, pCells, wCells, kCells, wCells, kCells, wCells, kCells, spCells, pCells, wCells, kCells]; done))) rfl [] rfl ?_
             refine GH_done (by kernel_rfl) ?_
             refine G_seq ?_
             first | rw [cells_get (openD b) hd48 (by omega)] | skip
             rcases is3 b ho with his | ⟨his, hm⟩ | ⟨his, hm, hne⟩
             · skip
               first | rw [cells_get (openD b) hd48 (by omega)] | skip
               refine G_region (l := [0, 1, 2, 3, 4, 5, 6]) rfl ?_
               first
                 | refine G_val rfl rfl rfl rfl (V_loadW (s := 5) rfl rfl (mem_at 0 rfl) Try.underlying75 rfl infSuperS_75 rfl (by first | rfl | (simp [bcells_length, spCells, pCells, spCells, pCells, wCells, kCells, wCells, kCells, wCells, kCells, spCells, pCells, wCells, kCells]; done) | (simp [bcells_length, spCells, pCells, spCells, pCells, wCells, kCells, wCells, kCells, wCells, kCells, spCells, pCells, wCells, kCells]; omega) | (simp [bcells_length, *, spCells, pCells, spCells, pCells, wCells, kCells, wCells, kCells, wCells, kCells, spCells, pCells, wCells, kCells]; done))) ?_
                 | refine G_val rfl rfl rfl rfl (V_loadA (s := 5) rfl rfl (mem_at 0 rfl) Try.underlying75 rfl infSuperS_75 rfl rfl (by first | rfl | (simp [bcells_length, spCells, pCells, spCells, pCells, wCells, kCells, wCells, kCells, wCells, kCells, spCells, pCells, wCells, kCells]; done) | (simp [bcells_length, spCells, pCells, spCells, pCells, wCells, kCells, wCells, kCells, wCells, kCells, spCells, pCells, wCells, kCells]; omega) | (simp [bcells_length, *, spCells, pCells, spCells, pCells, wCells, kCells, wCells, kCells, wCells, kCells, spCells, pCells, wCells, kCells]; done))) ?_
               refine G_call (L2 := [_, _, _]) rfl rfl rfl rfl rfl rfl Try.call49 ((rsup_encode (getS (openD b)) (getS_ok _)).weaken (fun v post h => by rw [(enc_is his).1, (enc_is his).2] at h; exact h)) [] [] rfl rfl ?_
               rintro v post ⟨rfl, rfl⟩
               show G _ _ _ [_, _, _] _
               refine G_val rfl rfl rfl rfl (V_move rfl rfl) ?_
               refine G_val rfl rfl rfl rfl (V_extract rfl rfl rfl) ?_
               refine G_val rfl rfl rfl rfl (V_extract rfl rfl rfl) ?_
               refine G_val rfl rfl rfl rfl (V_assign rfl rfl) ?_
               refine G_val rfl rfl rfl rfl (V_assign rfl rfl) ?_
               refine G_done ?_
               refine G_seq ?_
               refine G_seq ?_
               refine G_region (l := [0, 1, 2, 3, 4, 5, 6]) rfl ?_
               refine G_val rfl rfl rfl rfl (V_move rfl rfl) ?_
               refine G_val rfl rfl rfl rfl (V_neq rfl rfl rfl) ?_
               refine G_val rfl rfl rfl rfl (V_move rfl rfl) ?_
               refine G_splitD 48 rfl (fun hc3 => ?_) (fun hc3 => ?_)
               · (first | (exact absurd rfl hc3) | (exact absurd hc3 Bool.false_ne_true) | (exact absurd hc3 (by decide)) | (exact absurd hc3 hne) | (exact absurd hne hc3) | (exfalso; omega))
               refine G_val rfl rfl rfl rfl (V_move rfl rfl) ?_
               refine G_val rfl rfl rfl rfl (V_move rfl rfl) ?_
               refine G_val rfl rfl rfl rfl (V_sneq rfl rfl rfl) ?_
               refine G_val rfl rfl rfl rfl (V_pickF rfl rfl rfl) ?_
               refine G_done ?_
               refine G_ifD rfl (fun hc4 => ?_) (fun hc4 => ?_)
               · (first | (exact absurd rfl hc4) | (exact absurd hc4 Bool.false_ne_true) | (exact absurd hc4 (by decide)) | (exact absurd hc4 hne) | (exact absurd hne hc4) | (exfalso; omega))
               refine G_skip ?_
               refine G_seq ?_
               refine G_region (l := [0, 1]) rfl ?_
               first
                 | refine G_val rfl rfl rfl rfl (V_loadW (s := 5) rfl rfl (mem_at 0 rfl) Try.underlying75 rfl infSuperS_75 rfl (by first | rfl | (simp [bcells_length, spCells, pCells, spCells, pCells, wCells, kCells, wCells, kCells, wCells, kCells, spCells, pCells, wCells, kCells]; done) | (simp [bcells_length, spCells, pCells, spCells, pCells, wCells, kCells, wCells, kCells, wCells, kCells, spCells, pCells, wCells, kCells]; omega) | (simp [bcells_length, *, spCells, pCells, spCells, pCells, wCells, kCells, wCells, kCells, wCells, kCells, spCells, pCells, wCells, kCells]; done))) ?_
                 | refine G_val rfl rfl rfl rfl (V_loadA (s := 5) rfl rfl (mem_at 0 rfl) Try.underlying75 rfl infSuperS_75 rfl rfl (by first | rfl | (simp [bcells_length, spCells, pCells, spCells, pCells, wCells, kCells, wCells, kCells, wCells, kCells, spCells, pCells, wCells, kCells]; done) | (simp [bcells_length, spCells, pCells, spCells, pCells, wCells, kCells, wCells, kCells, wCells, kCells, spCells, pCells, wCells, kCells]; omega) | (simp [bcells_length, *, spCells, pCells, spCells, pCells, wCells, kCells, wCells, kCells, wCells, kCells, spCells, pCells, wCells, kCells]; done))) ?_
               refine G_put (l1 := [_, _]) (L' := [_, _, _]) rfl rfl rfl rfl (P_storeA (s := 5) rfl rfl rfl (mem_at 2 rfl) (by first | rfl | (simp [bcells_length, spCells, pCells, spCells, pCells, wCells, kCells, wCells, kCells, wCells, kCells, spCells, pCells, wCells, kCells]; done) | (simp [bcells_length, spCells, pCells, spCells, pCells, wCells, kCells, wCells, kCells, wCells, kCells, spCells, pCells, wCells, kCells]; omega) | (simp [bcells_length, *, spCells, pCells, spCells, pCells, wCells, kCells, wCells, kCells, wCells, kCells, spCells, pCells, wCells, kCells]; done)) infSuperS_75 rfl (by first | rfl | (simp [bcells_length, spCells, pCells, spCells, pCells, wCells, kCells, wCells, kCells, wCells, kCells, spCells, pCells, wCells, kCells]; done) | (simp [bcells_length, spCells, pCells, spCells, pCells, wCells, kCells, wCells, kCells, wCells, kCells, spCells, pCells, wCells, kCells]; omega) | (simp [bcells_length, *, spCells, pCells, spCells, pCells, wCells, kCells, wCells, kCells, wCells, kCells, spCells, pCells, wCells, kCells]; done)) (by first | rfl | exact bcells_all _ | (simp [Value.oneCell', spCells, pCells, spCells, pCells, wCells, kCells, wCells, kCells, wCells, kCells, spCells, pCells, wCells, kCells]; done) | (simp [Value.oneCell', *, spCells, pCells, spCells, pCells, wCells, kCells, wCells, kCells, wCells, kCells, spCells, pCells, wCells, kCells]; done))) rfl ?_
               refine G_done ?_
               refine G_ret (post := []) Try.func51 rfl (RVs_cons (RV_cell (s := 5) rfl (mem_at 2 rfl) Try.underlying75 rfl infSuperS_75 rfl (by first | rfl | (simp [bcells_length, spCells, pCells, spCells, pCells, wCells, kCells, wCells, kCells, wCells, kCells, spCells, pCells, wCells, kCells]; done) | (simp [bcells_length, spCells, pCells, spCells, pCells, wCells, kCells, wCells, kCells, wCells, kCells, spCells, pCells, wCells, kCells]; omega) | (simp [bcells_length, *, spCells, pCells, spCells, pCells, wCells, kCells, wCells, kCells, wCells, kCells, spCells, pCells, wCells, kCells]; done))) RVs_nil) [] rfl ?_
               dsimp only [packed]
               first
                 | (rw [decS_no (isS_not1 ho)]; exact ⟨rfl, rfl⟩)
                 | (rw [decS_no (isS_big (by assumption))]; exact ⟨rfl, rfl⟩)
                 | (rw [decS_no his]; exact ⟨rfl, rfl⟩)
                 | (rw [decS_yes his]; exact ⟨rfl, rfl⟩)
             · skip
               first | rw [cells_get (openD b) hd48 (by omega)] | skip
               refine G_region (l := [0, 1, 2, 3, 4, 5, 6]) rfl ?_
               first
                 | refine G_val rfl rfl rfl rfl (V_loadW (s := 5) rfl rfl (mem_at 0 rfl) Try.underlying75 rfl infSuperS_75 rfl (by first | rfl | (simp [bcells_length, spCells, pCells, spCells, pCells, wCells, kCells, wCells, kCells, wCells, kCells, spCells, pCells, wCells, kCells]; done) | (simp [bcells_length, spCells, pCells, spCells, pCells, wCells, kCells, wCells, kCells, wCells, kCells, spCells, pCells, wCells, kCells]; omega) | (simp [bcells_length, *, spCells, pCells, spCells, pCells, wCells, kCells, wCells, kCells, wCells, kCells, spCells, pCells, wCells, kCells]; done))) ?_
                 | refine G_val rfl rfl rfl rfl (V_loadA (s := 5) rfl rfl (mem_at 0 rfl) Try.underlying75 rfl infSuperS_75 rfl rfl (by first | rfl | (simp [bcells_length, spCells, pCells, spCells, pCells, wCells, kCells, wCells, kCells, wCells, kCells, spCells, pCells, wCells, kCells]; done) | (simp [bcells_length, spCells, pCells, spCells, pCells, wCells, kCells, wCells, kCells, wCells, kCells, spCells, pCells, wCells, kCells]; omega) | (simp [bcells_length, *, spCells, pCells, spCells, pCells, wCells, kCells, wCells, kCells, wCells, kCells, spCells, pCells, wCells, kCells]; done))) ?_
               refine G_call (L2 := [_, _, _]) rfl rfl rfl rfl rfl rfl Try.call49 ((rsup_encode (getS (openD b)) (getS_ok _)).weaken (fun v post h => by rw [(encT_no (decide_eq_false hm)).1, (encT_no (decide_eq_false hm)).2] at h; exact h)) [] [] rfl rfl ?_
               rintro v post ⟨rfl, rfl⟩
               show G _ _ _ [_, _, _] _
               refine G_val rfl rfl rfl rfl (V_move rfl rfl) ?_
               refine G_val rfl rfl rfl rfl (V_extract rfl rfl rfl) ?_
               refine G_val rfl rfl rfl rfl (V_extract rfl rfl rfl) ?_
               refine G_val rfl rfl rfl rfl (V_assign rfl rfl) ?_
               refine G_val rfl rfl rfl rfl (V_assign rfl rfl) ?_
               refine G_done ?_
               refine G_seq ?_
               refine G_seq ?_
               refine G_region (l := [0, 1, 2, 3, 4, 5, 6]) rfl ?_
               refine G_val rfl rfl rfl rfl (V_move rfl rfl) ?_
               refine G_val rfl rfl rfl rfl (V_neq rfl rfl rfl) ?_
               refine G_val rfl rfl rfl rfl (V_move rfl rfl) ?_
               refine G_splitD 48 rfl (fun hc3 => ?_) (fun hc3 => ?_)
               rotate_left
               · (first | (exact absurd rfl hc3) | (exact absurd hc3 Bool.false_ne_true) | (exact absurd hc3 (by decide)) | (exact absurd hc3 hne) | (exact absurd hne hc3) | (exfalso; omega))
               refine G_off rfl rfl rfl rfl ?_
               refine G_off rfl rfl rfl rfl ?_
               refine G_off rfl rfl rfl rfl ?_
               refine G_val rfl rfl rfl rfl (V_pickT rfl rfl rfl) ?_
               refine G_done ?_
               refine G_then rfl ?_
               refine G_seq ?_
               refine G_region (l := [0, 1]) rfl ?_
               refine G_val rfl rfl rfl rfl (V_buildS (cs := [_, _, _, _, _]) rfl Try.underlying75 infSuperS_75 rfl plcSuperS_75 rfl rfl rfl) ?_
               refine G_put (l1 := [_, _]) (L' := [_, _, _]) rfl rfl rfl rfl (P_storeA (s := 5) rfl rfl rfl (mem_at 2 rfl) (by first | rfl | (simp [bcells_length, spCells, pCells, spCells, pCells, wCells, kCells, wCells, kCells, wCells, kCells, spCells, pCells, wCells, kCells]; done) | (simp [bcells_length, spCells, pCells, spCells, pCells, wCells, kCells, wCells, kCells, wCells, kCells, spCells, pCells, wCells, kCells]; omega) | (simp [bcells_length, *, spCells, pCells, spCells, pCells, wCells, kCells, wCells, kCells, wCells, kCells, spCells, pCells, wCells, kCells]; done)) infSuperS_75 rfl (by first | rfl | (simp [bcells_length, spCells, pCells, spCells, pCells, wCells, kCells, wCells, kCells, wCells, kCells, spCells, pCells, wCells, kCells]; done) | (simp [bcells_length, spCells, pCells, spCells, pCells, wCells, kCells, wCells, kCells, wCells, kCells, spCells, pCells, wCells, kCells]; omega) | (simp [bcells_length, *, spCells, pCells, spCells, pCells, wCells, kCells, wCells, kCells, wCells, kCells, spCells, pCells, wCells, kCells]; done)) (by first | rfl | exact bcells_all _ | (simp [Value.oneCell', spCells, pCells, spCells, pCells, wCells, kCells, wCells, kCells, wCells, kCells, spCells, pCells, wCells, kCells]; done) | (simp [Value.oneCell', *, spCells, pCells, spCells, pCells, wCells, kCells, wCells, kCells, wCells, kCells, spCells, pCells, wCells, kCells]; done))) rfl ?_
               refine G_done ?_
               refine G_ret (post := []) Try.func51 rfl (RVs_cons (RV_cell (s := 5) rfl (mem_at 2 rfl) Try.underlying75 rfl infSuperS_75 rfl (by first | rfl | (simp [bcells_length, spCells, pCells, spCells, pCells, wCells, kCells, wCells, kCells, wCells, kCells, spCells, pCells, wCells, kCells]; done) | (simp [bcells_length, spCells, pCells, spCells, pCells, wCells, kCells, wCells, kCells, wCells, kCells, spCells, pCells, wCells, kCells]; omega) | (simp [bcells_length, *, spCells, pCells, spCells, pCells, wCells, kCells, wCells, kCells, wCells, kCells, spCells, pCells, wCells, kCells]; done))) RVs_nil) [] rfl ?_
               dsimp only [packed]
               first
                 | (rw [decS_no (isS_not1 ho)]; exact ⟨rfl, rfl⟩)
                 | (rw [decS_no (isS_big (by assumption))]; exact ⟨rfl, rfl⟩)
                 | (rw [decS_no his]; exact ⟨rfl, rfl⟩)
                 | (rw [decS_yes his]; exact ⟨rfl, rfl⟩)
             · skip
               first | rw [cells_get (openD b) hd48 (by omega)] | skip
               refine G_region (l := [0, 1, 2, 3, 4, 5, 6]) rfl ?_
               first
                 | refine G_val rfl rfl rfl rfl (V_loadW (s := 5) rfl rfl (mem_at 0 rfl) Try.underlying75 rfl infSuperS_75 rfl (by first | rfl | (simp [bcells_length, spCells, pCells, spCells, pCells, wCells, kCells, wCells, kCells, wCells, kCells, spCells, pCells, wCells, kCells]; done) | (simp [bcells_length, spCells, pCells, spCells, pCells, wCells, kCells, wCells, kCells, wCells, kCells, spCells, pCells, wCells, kCells]; omega) | (simp [bcells_length, *, spCells, pCells, spCells, pCells, wCells, kCells, wCells, kCells, wCells, kCells, spCells, pCells, wCells, kCells]; done))) ?_
                 | refine G_val rfl rfl rfl rfl (V_loadA (s := 5) rfl rfl (mem_at 0 rfl) Try.underlying75 rfl infSuperS_75 rfl rfl (by first | rfl | (simp [bcells_length, spCells, pCells, spCells, pCells, wCells, kCells, wCells, kCells, wCells, kCells, spCells, pCells, wCells, kCells]; done) | (simp [bcells_length, spCells, pCells, spCells, pCells, wCells, kCells, wCells, kCells, wCells, kCells, spCells, pCells, wCells, kCells]; omega) | (simp [bcells_length, *, spCells, pCells, spCells, pCells, wCells, kCells, wCells, kCells, wCells, kCells, spCells, pCells, wCells, kCells]; done))) ?_
               refine G_call (L2 := [_, _, _]) rfl rfl rfl rfl rfl rfl Try.call49 ((rsup_encode (getS (openD b)) (getS_ok _)).weaken (fun v post h => by rw [(encT_yes (decide_eq_true hm)).1, (encT_yes (decide_eq_true hm)).2] at h; exact h)) [] [] rfl rfl ?_
               rintro v post ⟨rfl, rfl⟩
               show G _ _ _ [_, _, _] _
               refine G_val rfl rfl rfl rfl (V_move rfl rfl) ?_
               refine G_val rfl rfl rfl rfl (V_extract rfl rfl rfl) ?_
               refine G_val rfl rfl rfl rfl (V_extract rfl rfl rfl) ?_
               refine G_val rfl rfl rfl rfl (V_assign rfl rfl) ?_
               refine G_val rfl rfl rfl rfl (V_assign rfl rfl) ?_
               refine G_done ?_
               refine G_seq ?_
               refine G_seq ?_
               refine G_region (l := [0, 1, 2, 3, 4, 5, 6]) rfl ?_
               refine G_val rfl rfl rfl rfl (V_move rfl rfl) ?_
               refine G_val rfl rfl rfl rfl (V_neq rfl rfl rfl) ?_
               refine G_val rfl rfl rfl rfl (V_move rfl rfl) ?_
               refine G_splitD 48 rfl (fun hc3 => ?_) (fun hc3 => ?_)
               · (first | (exact absurd rfl hc3) | (exact absurd hc3 Bool.false_ne_true) | (exact absurd hc3 (by decide)) | (exact absurd hc3 hne) | (exact absurd hne hc3) | (exfalso; omega))
               refine G_val rfl rfl rfl rfl (V_move rfl rfl) ?_
               refine G_val rfl rfl rfl rfl (V_move rfl rfl) ?_
               refine G_val rfl rfl rfl rfl (V_sneq rfl rfl rfl) ?_
               refine G_val rfl rfl rfl rfl (V_pickF rfl rfl rfl) ?_
               refine G_done ?_
               refine G_ifD rfl (fun hc4 => ?_) (fun hc4 => ?_)
               rotate_left
               · (first | (exact absurd rfl hc4) | (exact absurd hc4 Bool.false_ne_true) | (exact absurd hc4 (by decide)) | (exact absurd hc4 hne) | (exact absurd hne hc4) | (exfalso; omega))
               refine G_seq ?_
               refine G_region (l := [0, 1]) rfl ?_
               refine G_val rfl rfl rfl rfl (V_buildS (cs := [_, _, _, _, _]) rfl Try.underlying75 infSuperS_75 rfl plcSuperS_75 rfl rfl rfl) ?_
               refine G_put (l1 := [_, _]) (L' := [_, _, _]) rfl rfl rfl rfl (P_storeA (s := 5) rfl rfl rfl (mem_at 2 rfl) (by first | rfl | (simp [bcells_length, spCells, pCells, spCells, pCells, wCells, kCells, wCells, kCells, wCells, kCells, spCells, pCells, wCells, kCells]; done) | (simp [bcells_length, spCells, pCells, spCells, pCells, wCells, kCells, wCells, kCells, wCells, kCells, spCells, pCells, wCells, kCells]; omega) | (simp [bcells_length, *, spCells, pCells, spCells, pCells, wCells, kCells, wCells, kCells, wCells, kCells, spCells, pCells, wCells, kCells]; done)) infSuperS_75 rfl (by first | rfl | (simp [bcells_length, spCells, pCells, spCells, pCells, wCells, kCells, wCells, kCells, wCells, kCells, spCells, pCells, wCells, kCells]; done) | (simp [bcells_length, spCells, pCells, spCells, pCells, wCells, kCells, wCells, kCells, wCells, kCells, spCells, pCells, wCells, kCells]; omega) | (simp [bcells_length, *, spCells, pCells, spCells, pCells, wCells, kCells, wCells, kCells, wCells, kCells, spCells, pCells, wCells, kCells]; done)) (by first | rfl | exact bcells_all _ | (simp [Value.oneCell', spCells, pCells, spCells, pCells, wCells, kCells, wCells, kCells, wCells, kCells, spCells, pCells, wCells, kCells]; done) | (simp [Value.oneCell', *, spCells, pCells, spCells, pCells, wCells, kCells, wCells, kCells, wCells, kCells, spCells, pCells, wCells, kCells]; done))) rfl ?_
               refine G_done ?_
               refine G_ret (post := []) Try.func51 rfl (RVs_cons (RV_cell (s := 5) rfl (mem_at 2 rfl) Try.underlying75 rfl infSuperS_75 rfl (by first | rfl | (simp [bcells_length, spCells, pCells, spCells, pCells, wCells, kCells, wCells, kCells, wCells, kCells, spCells, pCells, wCells, kCells]; done) | (simp [bcells_length, spCells, pCells, spCells, pCells, wCells, kCells, wCells, kCells, wCells, kCells, spCells, pCells, wCells, kCells]; omega) | (simp [bcells_length, *, spCells, pCells, spCells, pCells, wCells, kCells, wCells, kCells, wCells, kCells, spCells, pCells, wCells, kCells]; done))) RVs_nil) [] rfl ?_
               dsimp only [packed]
               first
                 | (rw [decS_no (isS_not1 ho)]; exact ⟨rfl, rfl⟩)
                 | (rw [decS_no (isS_big (by assumption))]; exact ⟨rfl, rfl⟩)
                 | (rw [decS_no his]; exact ⟨rfl, rfl⟩)
                 | (rw [decS_yes his]; exact ⟨rfl, rfl⟩)


def pickStep (o : Sp) (b : List UInt8) (i : Nat) : Sp := if isS b ∧ (decS b).seq % 2 = i ∧ o.seq < (decS b).seq then decS b else o
def pickS (a b : List UInt8) : Sp := pickStep (pickStep zeroSp a 0) b 1
def outAt (a b : List UInt8) : Nat → Sp
  | 0 => zeroSp
  | 1 => pickStep zeroSp a 0
  | _ => pickS a b
theorem pickStep_ok {o : Sp} (b : List UInt8) (i : Nat) (h : SpOk o) : SpOk (pickStep o b i) := by
  unfold pickStep; split
  · exact decS_ok b
  · exact h
theorem pickS_ok (a b : List UInt8) : SpOk (pickS a b) := pickStep_ok _ _ (pickStep_ok _ _ zero_ok)
theorem pick_yes {o : Sp} {b : List UInt8} {i : Nat} (h1 : decide (isS b) = true) (h2 : ((decS b).seq : Int) % 2 = (i : Int)) (h3 : (o.seq : Int) < ((decS b).seq : Int)) : pickStep o b i = decS b :=
  if_pos ⟨of_decide_eq_true h1, by omega, by omega⟩
theorem pick_no1 {o : Sp} {b : List UInt8} {i : Nat} (h1 : decide (isS b) = false) : pickStep o b i = o := if_neg fun x => absurd x.1 (of_decide_eq_false h1)
theorem pick_no2 {o : Sp} {b : List UInt8} {i : Nat} (h2 : ¬ ((decS b).seq : Int) % 2 = (i : Int)) : pickStep o b i = o := if_neg fun x => h2 (by omega)
theorem pick_no3 {o : Sp} {b : List UInt8} {i : Nat} (h3 : ¬ (o.seq : Int) < ((decS b).seq : Int)) : pickStep o b i = o := if_neg fun x => h3 (by omega)
theorem notS_seq {b : List UInt8} (h : ¬ isS b) : (decS b).seq = 0 ∧ decS b = zeroSp := by rw [decS_no h]; exact ⟨rfl, rfl⟩
theorem isS_seq {b : List UInt8} (h : isS b) : 1 ≤ (decS b).seq := by rw [decS_yes h]; exact h.2.1.1
def evX (a : List UInt8) : Sp := if (decS a).seq % 2 = 0 then decS a else zeroSp
def odY (b : List UInt8) : Sp := if (decS b).seq % 2 = 1 then decS b else zeroSp
theorem evX_pick (a : List UInt8) : pickStep zeroSp a 0 = evX a := by
  unfold pickStep evX
  by_cases h : isS a
  · have := isS_seq h
    by_cases h2 : (decS a).seq % 2 = 0
    · rw [if_pos ⟨h, h2, by show 0 < _; omega⟩, if_pos h2]
    · rw [if_neg (fun x => h2 x.2.1), if_neg h2]
  · rw [if_neg (fun x => h x.1), (notS_seq h).2]; simp
theorem pick_ref (a b : List UInt8) : pickS a b = if (evX a).seq < (odY b).seq then odY b else evX a := by
  unfold pickS
  rw [evX_pick]
  unfold pickStep odY
  by_cases h2 : (decS b).seq % 2 = 1
  · rw [if_pos h2]
    by_cases h : isS b
    · by_cases h3 : (evX a).seq < (decS b).seq
      · rw [if_pos ⟨h, h2, h3⟩, if_pos h3]
      · rw [if_neg (fun x => h3 x.2.2), if_neg h3]
    · rw [(notS_seq h).1] at h2; omega
  · rw [if_neg h2, if_neg (fun x => h2 x.2.1)]
    rw [if_neg (by show ¬ _ < 0; omega)]

set_option maxRecDepth 100000 in
set_option maxHeartbeats 1000000 in
theorem sup_pick (a b : List UInt8) (ha : a.length ≤ 9223372036854775807) (hb : b.length ≤ 9223372036854775807) :
    Ct Try.prog 56 [.string (bs a), .string (bs b)] [] [] fun v post => v = .tuple #[.agg (spCells (pickS a b)).toArray, .bool (decide ((0 : Int) < ((pickS a b).seq : Int)))] ∧ post = [] := by
 refine ct_of Try.func56 rfl rfl (fun w0 => ?_)
 show G _ _ [(0, _), (1, _)] _ _
 refine G_seq ?_
 refine G_region (l := [0, 1]) rfl ?_
 refine G_new rfl rfl rfl rfl (N_allocA rfl infSuperS_75 rfl) (fun b4 => ?_)
 refine G_val rfl rfl rfl rfl (V_assign rfl rfl) ?_
 refine G_done ?_
 refine G_seq ?_
 refine G_region (l := [0]) rfl ?_
 refine G_new rfl rfl rfl rfl (N_allocA rfl infSuperS_75 rfl) (fun b6 => ?_)
 refine G_done ?_
 refine G_seq ?_
 refine G_seq ?_
 refine G_region (l := [0, 1, 2, 3, 4]) rfl ?_
 refine G_val rfl rfl rfl rfl (V_move rfl rfl) ?_
 refine G_val rfl rfl rfl rfl (V_move rfl rfl) ?_
 refine G_new rfl rfl rfl rfl (N_buildAll (s := 1) (cs := [_, _]) rfl Try.underlying56 infSuperS_9 rfl rfl rfl rfl rfl rfl rfl rfl rfl) (fun b13 => ?_)
 refine G_val rfl rfl rfl rfl (V_len rfl rfl Try.underlying56 rfl) ?_
 refine G_val rfl rfl rfl rfl (V_move rfl rfl) ?_
 refine G_done ?_
 refine G_block ?_
 refine G_sub ?he3 [0, 0, 0] ?hl3 (G_loop (X := Nat × Sp) (fun x => match x with | ⟨i, o⟩ => i ≤ 2 ∧ o = outAt a b i) (fun x => match x with | ⟨i, o⟩ => 2 - i) (fun x => match x with | ⟨i, o⟩ => [(4, .pointer (some ⟨b4, 0, none⟩)), (6, .pointer (some ⟨b6, 0, none⟩)), (13, .slice (some ⟨b13, 0, none⟩) 2 2), (14, .int .i64 ((2 : Nat) : Int)), (15, .int .i64 (i : Int))]) (fun x => match x with | ⟨i, o⟩ => [(some b13, .cells #[.string (bs a), .string (bs b)] 9 (0, 0)), (some b6, .cells (spCells o).toArray 75 (0, 0)), (some b4, .cells (spCells zeroSp).toArray 75 (0, 0))]) ?round3 (0, zeroSp) ?h03)
 case he3 => exact (And.intro rfl (And.intro rfl (And.intro rfl (And.intro rfl (And.intro rfl trivial)))))
 case hl3 => exact ⟨_, rfl⟩
 case h03 => exact ⟨Nat.zero_le _, rfl⟩
 case round3 =>
  intro x hJ ih
  try dsimp only at hJ ih
  obtain ⟨i, o⟩ := x
  try dsimp only at hJ ih
  obtain ⟨hi, ho⟩ := hJ
  show G _ _ [(4, .pointer (some ⟨b4, 0, none⟩)), (6, .pointer (some ⟨b6, 0, none⟩)), (13, .slice (some ⟨b13, 0, none⟩) 2 2), (14, .int .i64 ((2 : Nat) : Int)), (15, .int .i64 (i : Int))] [(some b13, .cells #[.string (bs a), .string (bs b)] 9 (0, 0)), (some b6, .cells (spCells o).toArray 75 (0, 0)), (some b4, .cells (spCells zeroSp).toArray 75 (0, 0))] _
  refine G_seq ?_
  refine G_region (l := [0]) rfl ?_
  refine G_val rfl rfl rfl rfl (V_lss rfl rfl rfl) ?_
  refine G_done ?_
  refine G_seq ?_
  refine G_ifD rfl (fun hc1 => ?_) (fun hc1 => ?_)
  · skip
    refine G_skip ?_
    refine G_seq ?_
    refine G_block ?_
    refine G_seq ?_
    rcases (by omega : i = 0 ∨ i = 1) with rfl | rfl
    · skip
      refine G_region (l := [0, 1, 2, 3, 4]) rfl ?_
      refine G_val rfl rfl rfl rfl (V_move rfl rfl) ?_
      first
        | refine G_val rfl rfl rfl rfl (V_indexAddrN (s := 1) rfl Try.underlying56 infSuperS_9 rfl rfl rfl rfl (by omega)) ?_
        | refine G_val rfl rfl rfl rfl (V_indexAddr (s := 1) rfl Try.underlying56 infSuperS_9 rfl rfl rfl (by omega) (by first | omega | (simp [spCells, pCells, spCells, pCells, wCells, kCells, wCells, kCells, wCells, kCells, spCells, pCells, wCells, kCells]; done) | (simp [spCells, pCells, spCells, pCells, wCells, kCells, wCells, kCells, wCells, kCells, spCells, pCells, wCells, kCells]; omega) | (simp [spCells, pCells, spCells, pCells, wCells, kCells, wCells, kCells, wCells, kCells, spCells, pCells, wCells, kCells] at *; omega))) ?_
      refine G_val rfl rfl rfl rfl (V_load1 rfl rfl (mem_at 0 rfl) rfl Try.underlying9 rfl) ?_
      refine G_val rfl rfl rfl rfl (V_assign rfl rfl) ?_
      refine G_val rfl rfl rfl rfl (V_assign rfl rfl) ?_
      refine G_done ?_
      refine G_seq ?_
      have hqa := (decS_ok a).q1
      have hqb := (decS_ok b).q1
      subst ho
      refine G_region (l := [0, 1, 2, 3, 4, 5, 6, 7]) rfl ?_
      refine G_val rfl rfl rfl rfl (V_move rfl rfl) ?_
      refine G_call (L2 := [_, _, _]) rfl rfl rfl rfl rfl rfl Try.call50 (sup_decode a ha) [] [] rfl rfl ?_
      rintro v post ⟨rfl, rfl⟩
      show G _ _ _ [_, _, _] _
      refine G_val rfl rfl rfl rfl (V_move rfl rfl) ?_
      refine G_val rfl rfl rfl rfl (V_extract rfl rfl rfl) ?_
      refine G_val rfl rfl rfl rfl (V_extract rfl rfl rfl) ?_
      refine G_new rfl rfl rfl rfl (N_allocA rfl infSuperS_75 rfl) (fun b9 => ?_)
      refine G_put (l1 := []) (L' := [_, _, _, _]) rfl rfl rfl rfl (P_storeA (s := 5) rfl rfl rfl (mem_at 0 rfl) (by first | rfl | (simp [bcells_length, spCells, pCells, spCells, pCells, wCells, kCells, wCells, kCells, wCells, kCells, spCells, pCells, wCells, kCells]; done) | (simp [bcells_length, spCells, pCells, spCells, pCells, wCells, kCells, wCells, kCells, wCells, kCells, spCells, pCells, wCells, kCells]; omega) | (simp [bcells_length, *, spCells, pCells, spCells, pCells, wCells, kCells, wCells, kCells, wCells, kCells, spCells, pCells, wCells, kCells]; done)) infSuperS_75 rfl (by first | rfl | (simp [bcells_length, spCells, pCells, spCells, pCells, wCells, kCells, wCells, kCells, wCells, kCells, spCells, pCells, wCells, kCells]; done) | (simp [bcells_length, spCells, pCells, spCells, pCells, wCells, kCells, wCells, kCells, wCells, kCells, spCells, pCells, wCells, kCells]; omega) | (simp [bcells_length, *, spCells, pCells, spCells, pCells, wCells, kCells, wCells, kCells, wCells, kCells, spCells, pCells, wCells, kCells]; done)) (by first | rfl | exact bcells_all _ | (simp [Value.oneCell', spCells, pCells, spCells, pCells, wCells, kCells, wCells, kCells, wCells, kCells, spCells, pCells, wCells, kCells]; done) | (simp [Value.oneCell', *, spCells, pCells, spCells, pCells, wCells, kCells, wCells, kCells, wCells, kCells, spCells, pCells, wCells, kCells]; done))) rfl ?_
      refine G_val rfl rfl rfl rfl (V_assign rfl rfl) ?_
      refine G_done ?_
      refine G_seq ?_
      refine G_region (l := [0, 1, 2, 3, 4, 5, 6, 7, 8, 9, 10, 11, 12, 13]) rfl ?_
      refine G_val rfl rfl rfl rfl (V_move rfl rfl) ?_
      refine G_val rfl rfl rfl rfl (V_move rfl rfl) ?_
      refine G_split 26 rfl (fun hc2 => ?_) (fun hc2 => ?_)
      · skip
        first
          | refine G_val rfl rfl rfl rfl (V_loadW (s := 5) rfl rfl (mem_at 0 rfl) Try.underlying75 rfl infSuperS_75 rfl (by first | rfl | (simp [bcells_length, spCells, pCells, spCells, pCells, wCells, kCells, wCells, kCells, wCells, kCells, spCells, pCells, wCells, kCells]; done) | (simp [bcells_length, spCells, pCells, spCells, pCells, wCells, kCells, wCells, kCells, wCells, kCells, spCells, pCells, wCells, kCells]; omega) | (simp [bcells_length, *, spCells, pCells, spCells, pCells, wCells, kCells, wCells, kCells, wCells, kCells, spCells, pCells, wCells, kCells]; done))) ?_
          | refine G_val rfl rfl rfl rfl (V_loadA (s := 5) rfl rfl (mem_at 0 rfl) Try.underlying75 rfl infSuperS_75 rfl rfl (by first | rfl | (simp [bcells_length, spCells, pCells, spCells, pCells, wCells, kCells, wCells, kCells, wCells, kCells, spCells, pCells, wCells, kCells]; done) | (simp [bcells_length, spCells, pCells, spCells, pCells, wCells, kCells, wCells, kCells, wCells, kCells, spCells, pCells, wCells, kCells]; omega) | (simp [bcells_length, *, spCells, pCells, spCells, pCells, wCells, kCells, wCells, kCells, wCells, kCells, spCells, pCells, wCells, kCells]; done))) ?_
        refine G_call (L2 := [_, _, _, _]) rfl rfl rfl rfl rfl rfl Try.call55 (sup_place _ (decS_ok a)) [] [] rfl rfl ?_
        rintro v post ⟨rfl, rfl⟩
        show G _ _ _ [_, _, _, _] _
        refine G_val rfl rfl rfl rfl (V_move rfl rfl) ?_
        refine G_val rfl rfl rfl rfl (V_eql rfl rfl rfl) ?_
        refine G_val rfl rfl rfl rfl (V_pickT rfl rfl rfl) ?_
        refine G_val rfl rfl rfl rfl (V_move rfl rfl) ?_
        refine G_splitD 32 rfl (fun hc3 => ?_) (fun hc3 => ?_)
        · skip
          refine G_val rfl rfl rfl rfl (V_fieldAddr (fo := 0) rfl Try.underlying75 rfl infSuperS_73 rfl rfl rfl) ?_
          refine G_val rfl rfl rfl rfl (V_load1 rfl rfl (mem_at 0 rfl) rfl Try.underlying73 rfl) ?_
          refine G_val rfl rfl rfl rfl (V_fieldAddr (fo := 0) rfl Try.underlying75 rfl infSuperS_73 rfl rfl rfl) ?_
          refine G_val rfl rfl rfl rfl (V_load1 rfl rfl (mem_at 2 rfl) rfl Try.underlying73 rfl) ?_
          refine G_val rfl rfl rfl rfl (V_gtr rfl rfl rfl) ?_
          refine G_val rfl rfl rfl rfl (V_pickT rfl rfl rfl) ?_
          refine G_done ?_
          refine G_ifD rfl (fun hc4 => ?_) (fun hc4 => ?_)
          · skip
            have hst := trivial
            · skip
              refine G_region (l := [0, 1]) rfl ?_
              first
                | refine G_val rfl rfl rfl rfl (V_loadW (s := 5) rfl rfl (mem_at 0 rfl) Try.underlying75 rfl infSuperS_75 rfl (by first | rfl | (simp [bcells_length, spCells, pCells, spCells, pCells, wCells, kCells, wCells, kCells, wCells, kCells, spCells, pCells, wCells, kCells]; done) | (simp [bcells_length, spCells, pCells, spCells, pCells, wCells, kCells, wCells, kCells, wCells, kCells, spCells, pCells, wCells, kCells]; omega) | (simp [bcells_length, *, spCells, pCells, spCells, pCells, wCells, kCells, wCells, kCells, wCells, kCells, spCells, pCells, wCells, kCells]; done))) ?_
                | refine G_val rfl rfl rfl rfl (V_loadA (s := 5) rfl rfl (mem_at 0 rfl) Try.underlying75 rfl infSuperS_75 rfl rfl (by first | rfl | (simp [bcells_length, spCells, pCells, spCells, pCells, wCells, kCells, wCells, kCells, wCells, kCells, spCells, pCells, wCells, kCells]; done) | (simp [bcells_length, spCells, pCells, spCells, pCells, wCells, kCells, wCells, kCells, wCells, kCells, spCells, pCells, wCells, kCells]; omega) | (simp [bcells_length, *, spCells, pCells, spCells, pCells, wCells, kCells, wCells, kCells, wCells, kCells, spCells, pCells, wCells, kCells]; done))) ?_
              refine G_put (l1 := [_, _]) (L' := [_, _, _, _]) rfl rfl rfl rfl (P_storeA (s := 5) rfl rfl rfl (mem_at 2 rfl) (by first | rfl | (simp [bcells_length, spCells, pCells, spCells, pCells, wCells, kCells, wCells, kCells, wCells, kCells, spCells, pCells, wCells, kCells]; done) | (simp [bcells_length, spCells, pCells, spCells, pCells, wCells, kCells, wCells, kCells, wCells, kCells, spCells, pCells, wCells, kCells]; omega) | (simp [bcells_length, *, spCells, pCells, spCells, pCells, wCells, kCells, wCells, kCells, wCells, kCells, spCells, pCells, wCells, kCells]; done)) infSuperS_75 rfl (by first | rfl | (simp [bcells_length, spCells, pCells, spCells, pCells, wCells, kCells, wCells, kCells, wCells, kCells, spCells, pCells, wCells, kCells]; done) | (simp [bcells_length, spCells, pCells, spCells, pCells, wCells, kCells, wCells, kCells, wCells, kCells, spCells, pCells, wCells, kCells]; omega) | (simp [bcells_length, *, spCells, pCells, spCells, pCells, wCells, kCells, wCells, kCells, wCells, kCells, spCells, pCells, wCells, kCells]; done)) (by first | rfl | exact bcells_all _ | (simp [Value.oneCell', spCells, pCells, spCells, pCells, wCells, kCells, wCells, kCells, wCells, kCells, spCells, pCells, wCells, kCells]; done) | (simp [Value.oneCell', *, spCells, pCells, spCells, pCells, wCells, kCells, wCells, kCells, wCells, kCells, spCells, pCells, wCells, kCells]; done))) rfl ?_
              refine G_done ?_
              refine G_inBlock ?_
              refine G_region (l := [0, 1]) rfl ?_
              first
                | refine G_val rfl rfl rfl rfl ((V_add rfl rfl rfl).int (wrap_i64 (by omega))) ?_
                | refine G_val rfl rfl rfl rfl (V_add rfl rfl rfl) ?_
              refine G_val rfl rfl rfl rfl (V_move rfl rfl) ?_
              refine G_done ?_
              refine G_sub ?_ [1, 1, 1] ?_ (ih (1, decS a) ?_ ?_)
              · (refine (And.intro ?_ (And.intro ?_ (And.intro ?_ (And.intro ?_ (And.intro ?_ trivial))))) <;> first | rfl | exact slot_int (by omega) | exact slot_int (by simp))
              · exact ⟨_, rfl⟩
              · (first
                | exact ⟨by omega, (pick_no1 (by assumption)).symm⟩
                | exact ⟨by omega, (pick_no2 (by assumption)).symm⟩
                | exact ⟨by omega, (pick_no3 (by assumption)).symm⟩
                | exact ⟨by omega, (pick_yes (by assumption) (by assumption) (by assumption)).symm⟩)
              · (first | omega | (dsimp only; omega))
          refine G_skip ?_
          refine G_inBlock ?_
          refine G_region (l := [0, 1]) rfl ?_
          first
            | refine G_val rfl rfl rfl rfl ((V_add rfl rfl rfl).int (wrap_i64 (by omega))) ?_
            | refine G_val rfl rfl rfl rfl (V_add rfl rfl rfl) ?_
          refine G_val rfl rfl rfl rfl (V_move rfl rfl) ?_
          refine G_done ?_
          refine G_sub ?_ [1, 1, 1] ?_ (ih (1, outAt a b 0) ?_ ?_)
          · (refine (And.intro ?_ (And.intro ?_ (And.intro ?_ (And.intro ?_ (And.intro ?_ trivial))))) <;> first | rfl | exact slot_int (by omega) | exact slot_int (by simp))
          · exact ⟨_, rfl⟩
          · (first
            | exact ⟨by omega, (pick_no1 (by assumption)).symm⟩
            | exact ⟨by omega, (pick_no2 (by assumption)).symm⟩
            | exact ⟨by omega, (pick_no3 (by assumption)).symm⟩
            | exact ⟨by omega, (pick_yes (by assumption) (by assumption) (by assumption)).symm⟩)
          · (first | omega | (dsimp only; omega))
        refine G_off rfl rfl rfl rfl ?_
        refine G_off rfl rfl rfl rfl ?_
        refine G_off rfl rfl rfl rfl ?_
        refine G_off rfl rfl rfl rfl ?_
        refine G_off rfl rfl rfl rfl ?_
        refine G_val rfl rfl rfl rfl (V_pickF rfl rfl rfl) ?_
        refine G_done ?_
        refine G_else rfl ?_
        refine G_skip ?_
        refine G_inBlock ?_
        refine G_region (l := [0, 1]) rfl ?_
        first
          | refine G_val rfl rfl rfl rfl ((V_add rfl rfl rfl).int (wrap_i64 (by omega))) ?_
          | refine G_val rfl rfl rfl rfl (V_add rfl rfl rfl) ?_
        refine G_val rfl rfl rfl rfl (V_move rfl rfl) ?_
        refine G_done ?_
        refine G_sub ?_ [1, 1, 1] ?_ (ih (1, outAt a b 0) ?_ ?_)
        · (refine (And.intro ?_ (And.intro ?_ (And.intro ?_ (And.intro ?_ (And.intro ?_ trivial))))) <;> first | rfl | exact slot_int (by omega) | exact slot_int (by simp))
        · exact ⟨_, rfl⟩
        · (first
          | exact ⟨by omega, (pick_no1 (by assumption)).symm⟩
          | exact ⟨by omega, (pick_no2 (by assumption)).symm⟩
          | exact ⟨by omega, (pick_no3 (by assumption)).symm⟩
          | exact ⟨by omega, (pick_yes (by assumption) (by assumption) (by assumption)).symm⟩)
        · (first | omega | (dsimp only; omega))
      refine G_off rfl rfl rfl rfl ?_
      refine G_off rfl rfl rfl rfl ?_
      refine G_off rfl rfl rfl rfl ?_
      refine G_off rfl rfl rfl rfl ?_
      refine G_val rfl rfl rfl rfl (V_pickF rfl rfl rfl) ?_
      refine G_val rfl rfl rfl rfl (V_move rfl rfl) ?_
      refine G_off rfl rfl rfl rfl ?_
      refine G_off rfl rfl rfl rfl ?_
      refine G_off rfl rfl rfl rfl ?_
      refine G_off rfl rfl rfl rfl ?_
      refine G_off rfl rfl rfl rfl ?_
      refine G_val rfl rfl rfl rfl (V_pickF rfl rfl rfl) ?_
      refine G_done ?_
      refine G_else rfl ?_
      refine G_skip ?_
      refine G_inBlock ?_
      refine G_region (l := [0, 1]) rfl ?_
      first
        | refine G_val rfl rfl rfl rfl ((V_add rfl rfl rfl).int (wrap_i64 (by omega))) ?_
        | refine G_val rfl rfl rfl rfl (V_add rfl rfl rfl) ?_
      refine G_val rfl rfl rfl rfl (V_move rfl rfl) ?_
      refine G_done ?_
      refine G_sub ?_ [1, 1, 1] ?_ (ih (1, outAt a b 0) ?_ ?_)
      · (refine (And.intro ?_ (And.intro ?_ (And.intro ?_ (And.intro ?_ (And.intro ?_ trivial))))) <;> first | rfl | exact slot_int (by omega) | exact slot_int (by simp))
      · exact ⟨_, rfl⟩
      · (first
        | exact ⟨by omega, (pick_no1 (by assumption)).symm⟩
        | exact ⟨by omega, (pick_no2 (by assumption)).symm⟩
        | exact ⟨by omega, (pick_no3 (by assumption)).symm⟩
        | exact ⟨by omega, (pick_yes (by assumption) (by assumption) (by assumption)).symm⟩)
      · (first | omega | (dsimp only; omega))
    · skip
      refine G_region (l := [0, 1, 2, 3, 4]) rfl ?_
      refine G_val rfl rfl rfl rfl (V_move rfl rfl) ?_
      first
        | refine G_val rfl rfl rfl rfl (V_indexAddrN (s := 1) rfl Try.underlying56 infSuperS_9 rfl rfl rfl rfl (by omega)) ?_
        | refine G_val rfl rfl rfl rfl (V_indexAddr (s := 1) rfl Try.underlying56 infSuperS_9 rfl rfl rfl (by omega) (by first | omega | (simp [spCells, pCells, spCells, pCells, wCells, kCells, wCells, kCells, wCells, kCells, spCells, pCells, wCells, kCells]; done) | (simp [spCells, pCells, spCells, pCells, wCells, kCells, wCells, kCells, wCells, kCells, spCells, pCells, wCells, kCells]; omega) | (simp [spCells, pCells, spCells, pCells, wCells, kCells, wCells, kCells, wCells, kCells, spCells, pCells, wCells, kCells] at *; omega))) ?_
      refine G_val rfl rfl rfl rfl (V_load1 rfl rfl (mem_at 0 rfl) rfl Try.underlying9 rfl) ?_
      refine G_val rfl rfl rfl rfl (V_assign rfl rfl) ?_
      refine G_val rfl rfl rfl rfl (V_assign rfl rfl) ?_
      refine G_done ?_
      refine G_seq ?_
      have hqa := (decS_ok a).q1
      have hqb := (decS_ok b).q1
      subst ho
      refine G_region (l := [0, 1, 2, 3, 4, 5, 6, 7]) rfl ?_
      refine G_val rfl rfl rfl rfl (V_move rfl rfl) ?_
      refine G_call (L2 := [_, _, _]) rfl rfl rfl rfl rfl rfl Try.call50 (sup_decode b hb) [] [] rfl rfl ?_
      rintro v post ⟨rfl, rfl⟩
      show G _ _ _ [_, _, _] _
      refine G_val rfl rfl rfl rfl (V_move rfl rfl) ?_
      refine G_val rfl rfl rfl rfl (V_extract rfl rfl rfl) ?_
      refine G_val rfl rfl rfl rfl (V_extract rfl rfl rfl) ?_
      refine G_new rfl rfl rfl rfl (N_allocA rfl infSuperS_75 rfl) (fun b9 => ?_)
      refine G_put (l1 := []) (L' := [_, _, _, _]) rfl rfl rfl rfl (P_storeA (s := 5) rfl rfl rfl (mem_at 0 rfl) (by first | rfl | (simp [bcells_length, spCells, pCells, spCells, pCells, wCells, kCells, wCells, kCells, wCells, kCells, spCells, pCells, wCells, kCells]; done) | (simp [bcells_length, spCells, pCells, spCells, pCells, wCells, kCells, wCells, kCells, wCells, kCells, spCells, pCells, wCells, kCells]; omega) | (simp [bcells_length, *, spCells, pCells, spCells, pCells, wCells, kCells, wCells, kCells, wCells, kCells, spCells, pCells, wCells, kCells]; done)) infSuperS_75 rfl (by first | rfl | (simp [bcells_length, spCells, pCells, spCells, pCells, wCells, kCells, wCells, kCells, wCells, kCells, spCells, pCells, wCells, kCells]; done) | (simp [bcells_length, spCells, pCells, spCells, pCells, wCells, kCells, wCells, kCells, wCells, kCells, spCells, pCells, wCells, kCells]; omega) | (simp [bcells_length, *, spCells, pCells, spCells, pCells, wCells, kCells, wCells, kCells, wCells, kCells, spCells, pCells, wCells, kCells]; done)) (by first | rfl | exact bcells_all _ | (simp [Value.oneCell', spCells, pCells, spCells, pCells, wCells, kCells, wCells, kCells, wCells, kCells, spCells, pCells, wCells, kCells]; done) | (simp [Value.oneCell', *, spCells, pCells, spCells, pCells, wCells, kCells, wCells, kCells, wCells, kCells, spCells, pCells, wCells, kCells]; done))) rfl ?_
      refine G_val rfl rfl rfl rfl (V_assign rfl rfl) ?_
      refine G_done ?_
      refine G_seq ?_
      refine G_region (l := [0, 1, 2, 3, 4, 5, 6, 7, 8, 9, 10, 11, 12, 13]) rfl ?_
      refine G_val rfl rfl rfl rfl (V_move rfl rfl) ?_
      refine G_val rfl rfl rfl rfl (V_move rfl rfl) ?_
      refine G_split 26 rfl (fun hc2 => ?_) (fun hc2 => ?_)
      · skip
        first
          | refine G_val rfl rfl rfl rfl (V_loadW (s := 5) rfl rfl (mem_at 0 rfl) Try.underlying75 rfl infSuperS_75 rfl (by first | rfl | (simp [bcells_length, spCells, pCells, spCells, pCells, wCells, kCells, wCells, kCells, wCells, kCells, spCells, pCells, wCells, kCells]; done) | (simp [bcells_length, spCells, pCells, spCells, pCells, wCells, kCells, wCells, kCells, wCells, kCells, spCells, pCells, wCells, kCells]; omega) | (simp [bcells_length, *, spCells, pCells, spCells, pCells, wCells, kCells, wCells, kCells, wCells, kCells, spCells, pCells, wCells, kCells]; done))) ?_
          | refine G_val rfl rfl rfl rfl (V_loadA (s := 5) rfl rfl (mem_at 0 rfl) Try.underlying75 rfl infSuperS_75 rfl rfl (by first | rfl | (simp [bcells_length, spCells, pCells, spCells, pCells, wCells, kCells, wCells, kCells, wCells, kCells, spCells, pCells, wCells, kCells]; done) | (simp [bcells_length, spCells, pCells, spCells, pCells, wCells, kCells, wCells, kCells, wCells, kCells, spCells, pCells, wCells, kCells]; omega) | (simp [bcells_length, *, spCells, pCells, spCells, pCells, wCells, kCells, wCells, kCells, wCells, kCells, spCells, pCells, wCells, kCells]; done))) ?_
        refine G_call (L2 := [_, _, _, _]) rfl rfl rfl rfl rfl rfl Try.call55 (sup_place _ (decS_ok b)) [] [] rfl rfl ?_
        rintro v post ⟨rfl, rfl⟩
        show G _ _ _ [_, _, _, _] _
        refine G_val rfl rfl rfl rfl (V_move rfl rfl) ?_
        refine G_val rfl rfl rfl rfl (V_eql rfl rfl rfl) ?_
        refine G_val rfl rfl rfl rfl (V_pickT rfl rfl rfl) ?_
        refine G_val rfl rfl rfl rfl (V_move rfl rfl) ?_
        refine G_splitD 32 rfl (fun hc3 => ?_) (fun hc3 => ?_)
        · skip
          refine G_val rfl rfl rfl rfl (V_fieldAddr (fo := 0) rfl Try.underlying75 rfl infSuperS_73 rfl rfl rfl) ?_
          refine G_val rfl rfl rfl rfl (V_load1 rfl rfl (mem_at 0 rfl) rfl Try.underlying73 rfl) ?_
          refine G_val rfl rfl rfl rfl (V_fieldAddr (fo := 0) rfl Try.underlying75 rfl infSuperS_73 rfl rfl rfl) ?_
          refine G_val rfl rfl rfl rfl (V_load1 rfl rfl (mem_at 2 rfl) rfl Try.underlying73 rfl) ?_
          refine G_val rfl rfl rfl rfl (V_gtr rfl rfl rfl) ?_
          refine G_val rfl rfl rfl rfl (V_pickT rfl rfl rfl) ?_
          refine G_done ?_
          refine G_ifD rfl (fun hc4 => ?_) (fun hc4 => ?_)
          · skip
            have hst := trivial
            · skip
              refine G_region (l := [0, 1]) rfl ?_
              first
                | refine G_val rfl rfl rfl rfl (V_loadW (s := 5) rfl rfl (mem_at 0 rfl) Try.underlying75 rfl infSuperS_75 rfl (by first | rfl | (simp [bcells_length, spCells, pCells, spCells, pCells, wCells, kCells, wCells, kCells, wCells, kCells, spCells, pCells, wCells, kCells]; done) | (simp [bcells_length, spCells, pCells, spCells, pCells, wCells, kCells, wCells, kCells, wCells, kCells, spCells, pCells, wCells, kCells]; omega) | (simp [bcells_length, *, spCells, pCells, spCells, pCells, wCells, kCells, wCells, kCells, wCells, kCells, spCells, pCells, wCells, kCells]; done))) ?_
                | refine G_val rfl rfl rfl rfl (V_loadA (s := 5) rfl rfl (mem_at 0 rfl) Try.underlying75 rfl infSuperS_75 rfl rfl (by first | rfl | (simp [bcells_length, spCells, pCells, spCells, pCells, wCells, kCells, wCells, kCells, wCells, kCells, spCells, pCells, wCells, kCells]; done) | (simp [bcells_length, spCells, pCells, spCells, pCells, wCells, kCells, wCells, kCells, wCells, kCells, spCells, pCells, wCells, kCells]; omega) | (simp [bcells_length, *, spCells, pCells, spCells, pCells, wCells, kCells, wCells, kCells, wCells, kCells, spCells, pCells, wCells, kCells]; done))) ?_
              refine G_put (l1 := [_, _]) (L' := [_, _, _, _]) rfl rfl rfl rfl (P_storeA (s := 5) rfl rfl rfl (mem_at 2 rfl) (by first | rfl | (simp [bcells_length, spCells, pCells, spCells, pCells, wCells, kCells, wCells, kCells, wCells, kCells, spCells, pCells, wCells, kCells]; done) | (simp [bcells_length, spCells, pCells, spCells, pCells, wCells, kCells, wCells, kCells, wCells, kCells, spCells, pCells, wCells, kCells]; omega) | (simp [bcells_length, *, spCells, pCells, spCells, pCells, wCells, kCells, wCells, kCells, wCells, kCells, spCells, pCells, wCells, kCells]; done)) infSuperS_75 rfl (by first | rfl | (simp [bcells_length, spCells, pCells, spCells, pCells, wCells, kCells, wCells, kCells, wCells, kCells, spCells, pCells, wCells, kCells]; done) | (simp [bcells_length, spCells, pCells, spCells, pCells, wCells, kCells, wCells, kCells, wCells, kCells, spCells, pCells, wCells, kCells]; omega) | (simp [bcells_length, *, spCells, pCells, spCells, pCells, wCells, kCells, wCells, kCells, wCells, kCells, spCells, pCells, wCells, kCells]; done)) (by first | rfl | exact bcells_all _ | (simp [Value.oneCell', spCells, pCells, spCells, pCells, wCells, kCells, wCells, kCells, wCells, kCells, spCells, pCells, wCells, kCells]; done) | (simp [Value.oneCell', *, spCells, pCells, spCells, pCells, wCells, kCells, wCells, kCells, wCells, kCells, spCells, pCells, wCells, kCells]; done))) rfl ?_
              refine G_done ?_
              refine G_inBlock ?_
              refine G_region (l := [0, 1]) rfl ?_
              first
                | refine G_val rfl rfl rfl rfl ((V_add rfl rfl rfl).int (wrap_i64 (by omega))) ?_
                | refine G_val rfl rfl rfl rfl (V_add rfl rfl rfl) ?_
              refine G_val rfl rfl rfl rfl (V_move rfl rfl) ?_
              refine G_done ?_
              refine G_sub ?_ [1, 1, 1] ?_ (ih (2, decS b) ?_ ?_)
              · (refine (And.intro ?_ (And.intro ?_ (And.intro ?_ (And.intro ?_ (And.intro ?_ trivial))))) <;> first | rfl | exact slot_int (by omega) | exact slot_int (by simp))
              · exact ⟨_, rfl⟩
              · (first
                | exact ⟨by omega, (pick_no1 (by assumption)).symm⟩
                | exact ⟨by omega, (pick_no2 (by assumption)).symm⟩
                | exact ⟨by omega, (pick_no3 (by assumption)).symm⟩
                | exact ⟨by omega, (pick_yes (by assumption) (by assumption) (by assumption)).symm⟩)
              · (first | omega | (dsimp only; omega))
          refine G_skip ?_
          refine G_inBlock ?_
          refine G_region (l := [0, 1]) rfl ?_
          first
            | refine G_val rfl rfl rfl rfl ((V_add rfl rfl rfl).int (wrap_i64 (by omega))) ?_
            | refine G_val rfl rfl rfl rfl (V_add rfl rfl rfl) ?_
          refine G_val rfl rfl rfl rfl (V_move rfl rfl) ?_
          refine G_done ?_
          refine G_sub ?_ [1, 1, 1] ?_ (ih (2, outAt a b 1) ?_ ?_)
          · (refine (And.intro ?_ (And.intro ?_ (And.intro ?_ (And.intro ?_ (And.intro ?_ trivial))))) <;> first | rfl | exact slot_int (by omega) | exact slot_int (by simp))
          · exact ⟨_, rfl⟩
          · (first
            | exact ⟨by omega, (pick_no1 (by assumption)).symm⟩
            | exact ⟨by omega, (pick_no2 (by assumption)).symm⟩
            | exact ⟨by omega, (pick_no3 (by assumption)).symm⟩
            | exact ⟨by omega, (pick_yes (by assumption) (by assumption) (by assumption)).symm⟩)
          · (first | omega | (dsimp only; omega))
        refine G_off rfl rfl rfl rfl ?_
        refine G_off rfl rfl rfl rfl ?_
        refine G_off rfl rfl rfl rfl ?_
        refine G_off rfl rfl rfl rfl ?_
        refine G_off rfl rfl rfl rfl ?_
        refine G_val rfl rfl rfl rfl (V_pickF rfl rfl rfl) ?_
        refine G_done ?_
        refine G_else rfl ?_
        refine G_skip ?_
        refine G_inBlock ?_
        refine G_region (l := [0, 1]) rfl ?_
        first
          | refine G_val rfl rfl rfl rfl ((V_add rfl rfl rfl).int (wrap_i64 (by omega))) ?_
          | refine G_val rfl rfl rfl rfl (V_add rfl rfl rfl) ?_
        refine G_val rfl rfl rfl rfl (V_move rfl rfl) ?_
        refine G_done ?_
        refine G_sub ?_ [1, 1, 1] ?_ (ih (2, outAt a b 1) ?_ ?_)
        · (refine (And.intro ?_ (And.intro ?_ (And.intro ?_ (And.intro ?_ (And.intro ?_ trivial))))) <;> first | rfl | exact slot_int (by omega) | exact slot_int (by simp))
        · exact ⟨_, rfl⟩
        · (first
          | exact ⟨by omega, (pick_no1 (by assumption)).symm⟩
          | exact ⟨by omega, (pick_no2 (by assumption)).symm⟩
          | exact ⟨by omega, (pick_no3 (by assumption)).symm⟩
          | exact ⟨by omega, (pick_yes (by assumption) (by assumption) (by assumption)).symm⟩)
        · (first | omega | (dsimp only; omega))
      refine G_off rfl rfl rfl rfl ?_
      refine G_off rfl rfl rfl rfl ?_
      refine G_off rfl rfl rfl rfl ?_
      refine G_off rfl rfl rfl rfl ?_
      refine G_val rfl rfl rfl rfl (V_pickF rfl rfl rfl) ?_
      refine G_val rfl rfl rfl rfl (V_move rfl rfl) ?_
      refine G_off rfl rfl rfl rfl ?_
      refine G_off rfl rfl rfl rfl ?_
      refine G_off rfl rfl rfl rfl ?_
      refine G_off rfl rfl rfl rfl ?_
      refine G_off rfl rfl rfl rfl ?_
      refine G_val rfl rfl rfl rfl (V_pickF rfl rfl rfl) ?_
      refine G_done ?_
      refine G_else rfl ?_
      refine G_skip ?_
      refine G_inBlock ?_
      refine G_region (l := [0, 1]) rfl ?_
      first
        | refine G_val rfl rfl rfl rfl ((V_add rfl rfl rfl).int (wrap_i64 (by omega))) ?_
        | refine G_val rfl rfl rfl rfl (V_add rfl rfl rfl) ?_
      refine G_val rfl rfl rfl rfl (V_move rfl rfl) ?_
      refine G_done ?_
      refine G_sub ?_ [1, 1, 1] ?_ (ih (2, outAt a b 1) ?_ ?_)
      · (refine (And.intro ?_ (And.intro ?_ (And.intro ?_ (And.intro ?_ (And.intro ?_ trivial))))) <;> first | rfl | exact slot_int (by omega) | exact slot_int (by simp))
      · exact ⟨_, rfl⟩
      · (first
        | exact ⟨by omega, (pick_no1 (by assumption)).symm⟩
        | exact ⟨by omega, (pick_no2 (by assumption)).symm⟩
        | exact ⟨by omega, (pick_no3 (by assumption)).symm⟩
        | exact ⟨by omega, (pick_yes (by assumption) (by assumption) (by assumption)).symm⟩)
      · (first | omega | (dsimp only; omega))
  refine G_exit rfl ?_
  refine G_seq ?_
  refine GH_start (Lq := [_]) (isq := [1]) (m := 6) mixedK rfl rfl ?_
  first
    | refine GH_take 0 rfl rfl rfl rfl (by kernel_rfl) (by kernel_rfl) (by kernel_rfl) (fun _ _ => (V_loadW (s := 5) rfl rfl (mem_at 0 rfl) Try.underlying75 rfl infSuperS_75 rfl (by first | rfl | (simp [bcells_length, spCells, pCells, spCells, pCells, wCells, kCells, wCells, kCells, wCells, kCells, spCells, pCells, wCells, kCells]; done) | (simp [bcells_length, spCells, pCells, spCells, pCells, wCells, kCells, wCells, kCells, wCells, kCells, spCells, pCells, wCells, kCells]; omega) | (simp [bcells_length, *, spCells, pCells, spCells, pCells, wCells, kCells, wCells, kCells, wCells, kCells, spCells, pCells, wCells, kCells]; done)))) ?_
    | refine GH_take 0 rfl rfl rfl rfl (by kernel_rfl) (by kernel_rfl) (by kernel_rfl) (fun _ _ => (V_loadA (s := 5) rfl rfl (mem_at 0 rfl) Try.underlying75 rfl infSuperS_75 rfl rfl (by first | rfl | (simp [bcells_length, spCells, pCells, spCells, pCells, wCells, kCells, wCells, kCells, wCells, kCells, spCells, pCells, wCells, kCells]; done) | (simp [bcells_length, spCells, pCells, spCells, pCells, wCells, kCells, wCells, kCells, wCells, kCells, spCells, pCells, wCells, kCells]; omega) | (simp [bcells_length, *, spCells, pCells, spCells, pCells, wCells, kCells, wCells, kCells, wCells, kCells, spCells, pCells, wCells, kCells]; done)))) ?_
  refine GH_take 1 rfl rfl rfl rfl (by kernel_rfl) (by kernel_rfl) (by kernel_rfl) (fun _ _ => (V_fieldAddr (fo := 0) rfl Try.underlying75 rfl infSuperS_73 rfl rfl rfl)) ?_
  refine GH_take 2 rfl rfl rfl rfl (by kernel_rfl) (by kernel_rfl) (by kernel_rfl) (fun _ _ => (V_load1 rfl rfl (mem_at 0 rfl) rfl Try.underlying73 rfl)) ?_
  refine GH_take 3 rfl rfl rfl rfl (by kernel_rfl) (by kernel_rfl) (by kernel_rfl) (fun _ _ => (V_gtr rfl rfl rfl)) ?_
  refine GH_all [4] (by kernel_rfl) (by decide) ?_
  refine (And.intro ?_ trivial)
  · skip
    refine GHop_put (l1 := [_, _]) (L' := [_, _, _]) rfl rfl rfl rfl (P_storeA (s := 5) rfl rfl rfl (mem_at 2 rfl) (by first | rfl | (simp [bcells_length, spCells, pCells, spCells, pCells, wCells, kCells, wCells, kCells, wCells, kCells, spCells, pCells, wCells, kCells]; done) | (simp [bcells_length, spCells, pCells, spCells, pCells, wCells, kCells, wCells, kCells, wCells, kCells, spCells, pCells, wCells, kCells]; omega) | (simp [bcells_length, *, spCells, pCells, spCells, pCells, wCells, kCells, wCells, kCells, wCells, kCells, spCells, pCells, wCells, kCells]; done)) infSuperS_75 rfl (by first | rfl | (simp [bcells_length, spCells, pCells, spCells, pCells, wCells, kCells, wCells, kCells, wCells, kCells, spCells, pCells, wCells, kCells]; done) | (simp [bcells_length, spCells, pCells, spCells, pCells, wCells, kCells, wCells, kCells, wCells, kCells, spCells, pCells, wCells, kCells]; omega) | (simp [bcells_length, *, spCells, pCells, spCells, pCells, wCells, kCells, wCells, kCells, wCells, kCells, spCells, pCells, wCells, kCells]; done)) (by first | rfl | exact bcells_all _ | (simp [Value.oneCell', spCells, pCells, spCells, pCells, wCells, kCells, wCells, kCells, wCells, kCells, spCells, pCells, wCells, kCells]; done) | (simp [Value.oneCell', *, spCells, pCells, spCells, pCells, wCells, kCells, wCells, kCells, wCells, kCells, spCells, pCells, wCells, kCells]; done))) rfl [1] rfl ?_
    refine GH_take 5 rfl rfl rfl rfl (by kernel_rfl) (by kernel_rfl) (by kernel_rfl) (fun _ _ => (V_assign rfl rfl)) ?_
    refine GH_done (by kernel_rfl) ?_
    refine G_ret (post := []) Try.func56 rfl (RVs_cons (RV_cell (s := 5) rfl (mem_at 2 rfl) Try.underlying75 rfl infSuperS_75 rfl (by first | rfl | (simp [bcells_length, spCells, pCells, spCells, pCells, wCells, kCells, wCells, kCells, wCells, kCells, spCells, pCells, wCells, kCells]; done) | (simp [bcells_length, spCells, pCells, spCells, pCells, wCells, kCells, wCells, kCells, wCells, kCells, spCells, pCells, wCells, kCells]; omega) | (simp [bcells_length, *, spCells, pCells, spCells, pCells, wCells, kCells, wCells, kCells, wCells, kCells, spCells, pCells, wCells, kCells]; done))) (RVs_cons (RV_tmp rfl) RVs_nil)) [] rfl ?_
    dsimp only [packed]
    obtain rfl : i = 2 := by omega
    subst ho
    exact ⟨rfl, rfl⟩

set_option maxRecDepth 100000 in
set_option maxHeartbeats 1000000 in
theorem rsup_pick (a b : List UInt8) (ha : a.length ≤ 9223372036854775807) (hb : b.length ≤ 9223372036854775807) :
    Ct Try.prog 57 [.string (bs a), .string (bs b)] [] [] fun v post => v = .agg (spCells (pickS a b)).toArray ∧ post = [] := by
 have hqa := (decS_ok a).q1
 have hqb := (decS_ok b).q1
 refine ct_of Try.func57 rfl rfl (fun w0 => ?_)
 show G _ _ [(0, _), (1, _)] _ _
 refine G_seq ?_
 refine G_region (l := [0]) rfl ?_
 refine G_new rfl rfl rfl rfl (N_allocA rfl infSuperS_75 rfl) (fun b4 => ?_)
 refine G_done ?_
 refine G_seq ?_
 refine G_region (l := [0, 1, 2, 3]) rfl ?_
 refine G_val rfl rfl rfl rfl (V_move rfl rfl) ?_
 refine G_call (L2 := [_]) rfl rfl rfl rfl rfl rfl Try.call51 (rsup_decode a ha) [] [] rfl rfl ?_
 rintro v post ⟨rfl, rfl⟩
 show G _ _ _ [_] _
 refine G_new rfl rfl rfl rfl (N_allocA rfl infSuperS_75 rfl) (fun b5 => ?_)
 refine G_put (l1 := []) (L' := [_, _]) rfl rfl rfl rfl (P_storeA (s := 5) rfl rfl rfl (mem_at 0 rfl) (by first | rfl | (simp [bcells_length, spCells, pCells, spCells, pCells, wCells, kCells, wCells, kCells, wCells, kCells, spCells, pCells, wCells, kCells]; done) | (simp [bcells_length, spCells, pCells, spCells, pCells, wCells, kCells, wCells, kCells, wCells, kCells, spCells, pCells, wCells, kCells]; omega) | (simp [bcells_length, *, spCells, pCells, spCells, pCells, wCells, kCells, wCells, kCells, wCells, kCells, spCells, pCells, wCells, kCells]; done)) infSuperS_75 rfl (by first | rfl | (simp [bcells_length, spCells, pCells, spCells, pCells, wCells, kCells, wCells, kCells, wCells, kCells, spCells, pCells, wCells, kCells]; done) | (simp [bcells_length, spCells, pCells, spCells, pCells, wCells, kCells, wCells, kCells, wCells, kCells, spCells, pCells, wCells, kCells]; omega) | (simp [bcells_length, *, spCells, pCells, spCells, pCells, wCells, kCells, wCells, kCells, wCells, kCells, spCells, pCells, wCells, kCells]; done)) (by first | rfl | exact bcells_all _ | (simp [Value.oneCell', spCells, pCells, spCells, pCells, wCells, kCells, wCells, kCells, wCells, kCells, spCells, pCells, wCells, kCells]; done) | (simp [Value.oneCell', *, spCells, pCells, spCells, pCells, wCells, kCells, wCells, kCells, wCells, kCells, spCells, pCells, wCells, kCells]; done))) rfl ?_
 refine G_done ?_
 refine G_seq ?_
 refine G_region (l := [0, 1, 2, 3]) rfl ?_
 refine G_val rfl rfl rfl rfl (V_move rfl rfl) ?_
 refine G_call (L2 := [_, _]) rfl rfl rfl rfl rfl rfl Try.call51 (rsup_decode b hb) [] [] rfl rfl ?_
 rintro v post ⟨rfl, rfl⟩
 show G _ _ _ [_, _] _
 refine G_new rfl rfl rfl rfl (N_allocA rfl infSuperS_75 rfl) (fun b6 => ?_)
 refine G_put (l1 := []) (L' := [_, _, _]) rfl rfl rfl rfl (P_storeA (s := 5) rfl rfl rfl (mem_at 0 rfl) (by first | rfl | (simp [bcells_length, spCells, pCells, spCells, pCells, wCells, kCells, wCells, kCells, wCells, kCells, spCells, pCells, wCells, kCells]; done) | (simp [bcells_length, spCells, pCells, spCells, pCells, wCells, kCells, wCells, kCells, wCells, kCells, spCells, pCells, wCells, kCells]; omega) | (simp [bcells_length, *, spCells, pCells, spCells, pCells, wCells, kCells, wCells, kCells, wCells, kCells, spCells, pCells, wCells, kCells]; done)) infSuperS_75 rfl (by first | rfl | (simp [bcells_length, spCells, pCells, spCells, pCells, wCells, kCells, wCells, kCells, wCells, kCells, spCells, pCells, wCells, kCells]; done) | (simp [bcells_length, spCells, pCells, spCells, pCells, wCells, kCells, wCells, kCells, wCells, kCells, spCells, pCells, wCells, kCells]; omega) | (simp [bcells_length, *, spCells, pCells, spCells, pCells, wCells, kCells, wCells, kCells, wCells, kCells, spCells, pCells, wCells, kCells]; done)) (by first | rfl | exact bcells_all _ | (simp [Value.oneCell', spCells, pCells, spCells, pCells, wCells, kCells, wCells, kCells, wCells, kCells, spCells, pCells, wCells, kCells]; done) | (simp [Value.oneCell', *, spCells, pCells, spCells, pCells, wCells, kCells, wCells, kCells, wCells, kCells, spCells, pCells, wCells, kCells]; done))) rfl ?_
 refine G_done ?_
 refine G_seq ?_
 refine G_seq ?_
 refine G_region (l := [0, 1, 2, 3]) rfl ?_
 refine G_val rfl rfl rfl rfl (V_fieldAddr (fo := 0) rfl Try.underlying75 rfl infSuperS_73 rfl rfl rfl) ?_
 refine G_val rfl rfl rfl rfl (V_load1 rfl rfl (mem_at 1 rfl) rfl Try.underlying73 rfl) ?_
 refine G_val rfl rfl rfl rfl (V_rem rfl rfl rfl (by omega) (by omega)) ?_
 refine G_val rfl rfl rfl rfl (V_neq rfl rfl rfl) ?_
 refine G_done ?_
 refine G_ifD rfl (fun hc1 => ?_) (fun hc1 => ?_)
 · skip
   refine G_region (l := [0, 1]) rfl ?_
   refine G_val rfl rfl rfl rfl (V_buildS (cs := [_, _, _, _, _]) rfl Try.underlying75 infSuperS_75 rfl plcSuperS_75 rfl rfl rfl) ?_
   refine G_put (l1 := [_]) (L' := [_, _, _]) rfl rfl rfl rfl (P_storeA (s := 5) rfl rfl rfl (mem_at 1 rfl) (by first | rfl | (simp [bcells_length, spCells, pCells, spCells, pCells, wCells, kCells, wCells, kCells, wCells, kCells, spCells, pCells, wCells, kCells]; done) | (simp [bcells_length, spCells, pCells, spCells, pCells, wCells, kCells, wCells, kCells, wCells, kCells, spCells, pCells, wCells, kCells]; omega) | (simp [bcells_length, *, spCells, pCells, spCells, pCells, wCells, kCells, wCells, kCells, wCells, kCells, spCells, pCells, wCells, kCells]; done)) infSuperS_75 rfl (by first | rfl | (simp [bcells_length, spCells, pCells, spCells, pCells, wCells, kCells, wCells, kCells, wCells, kCells, spCells, pCells, wCells, kCells]; done) | (simp [bcells_length, spCells, pCells, spCells, pCells, wCells, kCells, wCells, kCells, wCells, kCells, spCells, pCells, wCells, kCells]; omega) | (simp [bcells_length, *, spCells, pCells, spCells, pCells, wCells, kCells, wCells, kCells, wCells, kCells, spCells, pCells, wCells, kCells]; done)) (by first | rfl | exact bcells_all _ | (simp [Value.oneCell', spCells, pCells, spCells, pCells, wCells, kCells, wCells, kCells, wCells, kCells, spCells, pCells, wCells, kCells]; done) | (simp [Value.oneCell', *, spCells, pCells, spCells, pCells, wCells, kCells, wCells, kCells, wCells, kCells, spCells, pCells, wCells, kCells]; done))) rfl ?_
   refine G_done ?_
   refine G_seq ?_
   refine G_seq ?_
   refine G_region (l := [0, 1, 2, 3]) rfl ?_
   refine G_val rfl rfl rfl rfl (V_fieldAddr (fo := 0) rfl Try.underlying75 rfl infSuperS_73 rfl rfl rfl) ?_
   refine G_val rfl rfl rfl rfl (V_load1 rfl rfl (mem_at 0 rfl) rfl Try.underlying73 rfl) ?_
   refine G_val rfl rfl rfl rfl (V_rem rfl rfl rfl (by omega) (by omega)) ?_
   refine G_val rfl rfl rfl rfl (V_neq rfl rfl rfl) ?_
   refine G_done ?_
   refine G_ifD rfl (fun hc2 => ?_) (fun hc2 => ?_)
   · skip
     refine G_region (l := [0, 1]) rfl ?_
     refine G_val rfl rfl rfl rfl (V_buildS (cs := [_, _, _, _, _]) rfl Try.underlying75 infSuperS_75 rfl plcSuperS_75 rfl rfl rfl) ?_
     refine G_put (l1 := []) (L' := [_, _, _]) rfl rfl rfl rfl (P_storeA (s := 5) rfl rfl rfl (mem_at 0 rfl) (by first | rfl | (simp [bcells_length, spCells, pCells, spCells, pCells, wCells, kCells, wCells, kCells, wCells, kCells, spCells, pCells, wCells, kCells]; done) | (simp [bcells_length, spCells, pCells, spCells, pCells, wCells, kCells, wCells, kCells, wCells, kCells, spCells, pCells, wCells, kCells]; omega) | (simp [bcells_length, *, spCells, pCells, spCells, pCells, wCells, kCells, wCells, kCells, wCells, kCells, spCells, pCells, wCells, kCells]; done)) infSuperS_75 rfl (by first | rfl | (simp [bcells_length, spCells, pCells, spCells, pCells, wCells, kCells, wCells, kCells, wCells, kCells, spCells, pCells, wCells, kCells]; done) | (simp [bcells_length, spCells, pCells, spCells, pCells, wCells, kCells, wCells, kCells, wCells, kCells, spCells, pCells, wCells, kCells]; omega) | (simp [bcells_length, *, spCells, pCells, spCells, pCells, wCells, kCells, wCells, kCells, wCells, kCells, spCells, pCells, wCells, kCells]; done)) (by first | rfl | exact bcells_all _ | (simp [Value.oneCell', spCells, pCells, spCells, pCells, wCells, kCells, wCells, kCells, wCells, kCells, spCells, pCells, wCells, kCells]; done) | (simp [Value.oneCell', *, spCells, pCells, spCells, pCells, wCells, kCells, wCells, kCells, wCells, kCells, spCells, pCells, wCells, kCells]; done))) rfl ?_
     refine G_done ?_
     refine G_seq ?_
     refine G_seq ?_
     refine G_region (l := [0, 1, 2, 3, 4]) rfl ?_
     refine G_val rfl rfl rfl rfl (V_fieldAddr (fo := 0) rfl Try.underlying75 rfl infSuperS_73 rfl rfl rfl) ?_
     refine G_val rfl rfl rfl rfl (V_load1 rfl rfl (mem_at 0 rfl) rfl Try.underlying73 rfl) ?_
     refine G_val rfl rfl rfl rfl (V_fieldAddr (fo := 0) rfl Try.underlying75 rfl infSuperS_73 rfl rfl rfl) ?_
     refine G_val rfl rfl rfl rfl (V_load1 rfl rfl (mem_at 1 rfl) rfl Try.underlying73 rfl) ?_
     refine G_val rfl rfl rfl rfl (V_gtr rfl rfl rfl) ?_
     refine G_done ?_
     refine G_ifD rfl (fun hc3 => ?_) (fun hc3 => ?_)
     · (first | (exact absurd rfl hc3) | (exfalso; omega))
     refine G_skip ?_
     refine G_seq ?_
     refine G_region (l := [0, 1]) rfl ?_
     first
       | refine G_val rfl rfl rfl rfl (V_loadW (s := 5) rfl rfl (mem_at 1 rfl) Try.underlying75 rfl infSuperS_75 rfl (by first | rfl | (simp [bcells_length, spCells, pCells, spCells, pCells, wCells, kCells, wCells, kCells, wCells, kCells, spCells, pCells, wCells, kCells]; done) | (simp [bcells_length, spCells, pCells, spCells, pCells, wCells, kCells, wCells, kCells, wCells, kCells, spCells, pCells, wCells, kCells]; omega) | (simp [bcells_length, *, spCells, pCells, spCells, pCells, wCells, kCells, wCells, kCells, wCells, kCells, spCells, pCells, wCells, kCells]; done))) ?_
       | refine G_val rfl rfl rfl rfl (V_loadA (s := 5) rfl rfl (mem_at 1 rfl) Try.underlying75 rfl infSuperS_75 rfl rfl (by first | rfl | (simp [bcells_length, spCells, pCells, spCells, pCells, wCells, kCells, wCells, kCells, wCells, kCells, spCells, pCells, wCells, kCells]; done) | (simp [bcells_length, spCells, pCells, spCells, pCells, wCells, kCells, wCells, kCells, wCells, kCells, spCells, pCells, wCells, kCells]; omega) | (simp [bcells_length, *, spCells, pCells, spCells, pCells, wCells, kCells, wCells, kCells, wCells, kCells, spCells, pCells, wCells, kCells]; done))) ?_
     refine G_put (l1 := [_, _]) (L' := [_, _, _]) rfl rfl rfl rfl (P_storeA (s := 5) rfl rfl rfl (mem_at 2 rfl) (by first | rfl | (simp [bcells_length, spCells, pCells, spCells, pCells, wCells, kCells, wCells, kCells, wCells, kCells, spCells, pCells, wCells, kCells]; done) | (simp [bcells_length, spCells, pCells, spCells, pCells, wCells, kCells, wCells, kCells, wCells, kCells, spCells, pCells, wCells, kCells]; omega) | (simp [bcells_length, *, spCells, pCells, spCells, pCells, wCells, kCells, wCells, kCells, wCells, kCells, spCells, pCells, wCells, kCells]; done)) infSuperS_75 rfl (by first | rfl | (simp [bcells_length, spCells, pCells, spCells, pCells, wCells, kCells, wCells, kCells, wCells, kCells, spCells, pCells, wCells, kCells]; done) | (simp [bcells_length, spCells, pCells, spCells, pCells, wCells, kCells, wCells, kCells, wCells, kCells, spCells, pCells, wCells, kCells]; omega) | (simp [bcells_length, *, spCells, pCells, spCells, pCells, wCells, kCells, wCells, kCells, wCells, kCells, spCells, pCells, wCells, kCells]; done)) (by first | rfl | exact bcells_all _ | (simp [Value.oneCell', spCells, pCells, spCells, pCells, wCells, kCells, wCells, kCells, wCells, kCells, spCells, pCells, wCells, kCells]; done) | (simp [Value.oneCell', *, spCells, pCells, spCells, pCells, wCells, kCells, wCells, kCells, wCells, kCells, spCells, pCells, wCells, kCells]; done))) rfl ?_
     refine G_done ?_
     refine G_ret (post := []) Try.func57 rfl (RVs_cons (RV_cell (s := 5) rfl (mem_at 2 rfl) Try.underlying75 rfl infSuperS_75 rfl (by first | rfl | (simp [bcells_length, spCells, pCells, spCells, pCells, wCells, kCells, wCells, kCells, wCells, kCells, spCells, pCells, wCells, kCells]; done) | (simp [bcells_length, spCells, pCells, spCells, pCells, wCells, kCells, wCells, kCells, wCells, kCells, spCells, pCells, wCells, kCells]; omega) | (simp [bcells_length, *, spCells, pCells, spCells, pCells, wCells, kCells, wCells, kCells, wCells, kCells, spCells, pCells, wCells, kCells]; done))) RVs_nil) [] rfl ?_
     dsimp only [packed]
     rw [pick_ref]
     unfold evX odY
     refine ⟨?_, rfl⟩
     first
       | (rw [if_neg (show ¬ (decS a).seq % 2 = 0 by omega), if_neg (show ¬ (decS b).seq % 2 = 1 by omega), if_neg (by show ¬ (0 : Nat) < 0; omega)]; rfl)
       | (rw [if_neg (show ¬ (decS a).seq % 2 = 0 by omega), if_pos (show (decS b).seq % 2 = 1 by omega), if_pos (by show (0 : Nat) < _; omega)])
       | (rw [if_neg (show ¬ (decS a).seq % 2 = 0 by omega), if_pos (show (decS b).seq % 2 = 1 by omega), if_neg (by show ¬ (0 : Nat) < _; omega)]; rfl)
       | (rw [if_pos (show (decS a).seq % 2 = 0 by omega), if_neg (show ¬ (decS b).seq % 2 = 1 by omega), if_neg (by show ¬ _ < (0 : Nat); omega)])
       | (rw [if_pos (show (decS a).seq % 2 = 0 by omega), if_pos (show (decS b).seq % 2 = 1 by omega), if_pos (by omega)])
       | (rw [if_pos (show (decS a).seq % 2 = 0 by omega), if_pos (show (decS b).seq % 2 = 1 by omega), if_neg (by omega)])
   refine G_skip ?_
   refine G_seq ?_
   refine G_seq ?_
   refine G_region (l := [0, 1, 2, 3, 4]) rfl ?_
   refine G_val rfl rfl rfl rfl (V_fieldAddr (fo := 0) rfl Try.underlying75 rfl infSuperS_73 rfl rfl rfl) ?_
   refine G_val rfl rfl rfl rfl (V_load1 rfl rfl (mem_at 0 rfl) rfl Try.underlying73 rfl) ?_
   refine G_val rfl rfl rfl rfl (V_fieldAddr (fo := 0) rfl Try.underlying75 rfl infSuperS_73 rfl rfl rfl) ?_
   refine G_val rfl rfl rfl rfl (V_load1 rfl rfl (mem_at 1 rfl) rfl Try.underlying73 rfl) ?_
   refine G_val rfl rfl rfl rfl (V_gtr rfl rfl rfl) ?_
   refine G_done ?_
   refine G_ifD rfl (fun hc3 => ?_) (fun hc3 => ?_)
   rotate_left
   · (first | (exact absurd rfl hc3) | (exfalso; omega))
   refine G_seq ?_
   refine G_region (l := [0, 1]) rfl ?_
   first
     | refine G_val rfl rfl rfl rfl (V_loadW (s := 5) rfl rfl (mem_at 0 rfl) Try.underlying75 rfl infSuperS_75 rfl (by first | rfl | (simp [bcells_length, spCells, pCells, spCells, pCells, wCells, kCells, wCells, kCells, wCells, kCells, spCells, pCells, wCells, kCells]; done) | (simp [bcells_length, spCells, pCells, spCells, pCells, wCells, kCells, wCells, kCells, wCells, kCells, spCells, pCells, wCells, kCells]; omega) | (simp [bcells_length, *, spCells, pCells, spCells, pCells, wCells, kCells, wCells, kCells, wCells, kCells, spCells, pCells, wCells, kCells]; done))) ?_
     | refine G_val rfl rfl rfl rfl (V_loadA (s := 5) rfl rfl (mem_at 0 rfl) Try.underlying75 rfl infSuperS_75 rfl rfl (by first | rfl | (simp [bcells_length, spCells, pCells, spCells, pCells, wCells, kCells, wCells, kCells, wCells, kCells, spCells, pCells, wCells, kCells]; done) | (simp [bcells_length, spCells, pCells, spCells, pCells, wCells, kCells, wCells, kCells, wCells, kCells, spCells, pCells, wCells, kCells]; omega) | (simp [bcells_length, *, spCells, pCells, spCells, pCells, wCells, kCells, wCells, kCells, wCells, kCells, spCells, pCells, wCells, kCells]; done))) ?_
   refine G_put (l1 := [_, _]) (L' := [_, _, _]) rfl rfl rfl rfl (P_storeA (s := 5) rfl rfl rfl (mem_at 2 rfl) (by first | rfl | (simp [bcells_length, spCells, pCells, spCells, pCells, wCells, kCells, wCells, kCells, wCells, kCells, spCells, pCells, wCells, kCells]; done) | (simp [bcells_length, spCells, pCells, spCells, pCells, wCells, kCells, wCells, kCells, wCells, kCells, spCells, pCells, wCells, kCells]; omega) | (simp [bcells_length, *, spCells, pCells, spCells, pCells, wCells, kCells, wCells, kCells, wCells, kCells, spCells, pCells, wCells, kCells]; done)) infSuperS_75 rfl (by first | rfl | (simp [bcells_length, spCells, pCells, spCells, pCells, wCells, kCells, wCells, kCells, wCells, kCells, spCells, pCells, wCells, kCells]; done) | (simp [bcells_length, spCells, pCells, spCells, pCells, wCells, kCells, wCells, kCells, wCells, kCells, spCells, pCells, wCells, kCells]; omega) | (simp [bcells_length, *, spCells, pCells, spCells, pCells, wCells, kCells, wCells, kCells, wCells, kCells, spCells, pCells, wCells, kCells]; done)) (by first | rfl | exact bcells_all _ | (simp [Value.oneCell', spCells, pCells, spCells, pCells, wCells, kCells, wCells, kCells, wCells, kCells, spCells, pCells, wCells, kCells]; done) | (simp [Value.oneCell', *, spCells, pCells, spCells, pCells, wCells, kCells, wCells, kCells, wCells, kCells, spCells, pCells, wCells, kCells]; done))) rfl ?_
   refine G_done ?_
   refine G_ret (post := []) Try.func57 rfl (RVs_cons (RV_cell (s := 5) rfl (mem_at 2 rfl) Try.underlying75 rfl infSuperS_75 rfl (by first | rfl | (simp [bcells_length, spCells, pCells, spCells, pCells, wCells, kCells, wCells, kCells, wCells, kCells, spCells, pCells, wCells, kCells]; done) | (simp [bcells_length, spCells, pCells, spCells, pCells, wCells, kCells, wCells, kCells, wCells, kCells, spCells, pCells, wCells, kCells]; omega) | (simp [bcells_length, *, spCells, pCells, spCells, pCells, wCells, kCells, wCells, kCells, wCells, kCells, spCells, pCells, wCells, kCells]; done))) RVs_nil) [] rfl ?_
   dsimp only [packed]
   rw [pick_ref]
   unfold evX odY
   refine ⟨?_, rfl⟩
   first
     | (rw [if_neg (show ¬ (decS a).seq % 2 = 0 by omega), if_neg (show ¬ (decS b).seq % 2 = 1 by omega), if_neg (by show ¬ (0 : Nat) < 0; omega)]; rfl)
     | (rw [if_neg (show ¬ (decS a).seq % 2 = 0 by omega), if_pos (show (decS b).seq % 2 = 1 by omega), if_pos (by show (0 : Nat) < _; omega)])
     | (rw [if_neg (show ¬ (decS a).seq % 2 = 0 by omega), if_pos (show (decS b).seq % 2 = 1 by omega), if_neg (by show ¬ (0 : Nat) < _; omega)]; rfl)
     | (rw [if_pos (show (decS a).seq % 2 = 0 by omega), if_neg (show ¬ (decS b).seq % 2 = 1 by omega), if_neg (by show ¬ _ < (0 : Nat); omega)])
     | (rw [if_pos (show (decS a).seq % 2 = 0 by omega), if_pos (show (decS b).seq % 2 = 1 by omega), if_pos (by omega)])
     | (rw [if_pos (show (decS a).seq % 2 = 0 by omega), if_pos (show (decS b).seq % 2 = 1 by omega), if_neg (by omega)])
 refine G_skip ?_
 refine G_seq ?_
 refine G_seq ?_
 refine G_region (l := [0, 1, 2, 3]) rfl ?_
 refine G_val rfl rfl rfl rfl (V_fieldAddr (fo := 0) rfl Try.underlying75 rfl infSuperS_73 rfl rfl rfl) ?_
 refine G_val rfl rfl rfl rfl (V_load1 rfl rfl (mem_at 0 rfl) rfl Try.underlying73 rfl) ?_
 refine G_val rfl rfl rfl rfl (V_rem rfl rfl rfl (by omega) (by omega)) ?_
 refine G_val rfl rfl rfl rfl (V_neq rfl rfl rfl) ?_
 refine G_done ?_
 refine G_ifD rfl (fun hc2 => ?_) (fun hc2 => ?_)
 · skip
   refine G_region (l := [0, 1]) rfl ?_
   refine G_val rfl rfl rfl rfl (V_buildS (cs := [_, _, _, _, _]) rfl Try.underlying75 infSuperS_75 rfl plcSuperS_75 rfl rfl rfl) ?_
   refine G_put (l1 := []) (L' := [_, _, _]) rfl rfl rfl rfl (P_storeA (s := 5) rfl rfl rfl (mem_at 0 rfl) (by first | rfl | (simp [bcells_length, spCells, pCells, spCells, pCells, wCells, kCells, wCells, kCells, wCells, kCells, spCells, pCells, wCells, kCells]; done) | (simp [bcells_length, spCells, pCells, spCells, pCells, wCells, kCells, wCells, kCells, wCells, kCells, spCells, pCells, wCells, kCells]; omega) | (simp [bcells_length, *, spCells, pCells, spCells, pCells, wCells, kCells, wCells, kCells, wCells, kCells, spCells, pCells, wCells, kCells]; done)) infSuperS_75 rfl (by first | rfl | (simp [bcells_length, spCells, pCells, spCells, pCells, wCells, kCells, wCells, kCells, wCells, kCells, spCells, pCells, wCells, kCells]; done) | (simp [bcells_length, spCells, pCells, spCells, pCells, wCells, kCells, wCells, kCells, wCells, kCells, spCells, pCells, wCells, kCells]; omega) | (simp [bcells_length, *, spCells, pCells, spCells, pCells, wCells, kCells, wCells, kCells, wCells, kCells, spCells, pCells, wCells, kCells]; done)) (by first | rfl | exact bcells_all _ | (simp [Value.oneCell', spCells, pCells, spCells, pCells, wCells, kCells, wCells, kCells, wCells, kCells, spCells, pCells, wCells, kCells]; done) | (simp [Value.oneCell', *, spCells, pCells, spCells, pCells, wCells, kCells, wCells, kCells, wCells, kCells, spCells, pCells, wCells, kCells]; done))) rfl ?_
   refine G_done ?_
   refine G_seq ?_
   refine G_seq ?_
   refine G_region (l := [0, 1, 2, 3, 4]) rfl ?_
   refine G_val rfl rfl rfl rfl (V_fieldAddr (fo := 0) rfl Try.underlying75 rfl infSuperS_73 rfl rfl rfl) ?_
   refine G_val rfl rfl rfl rfl (V_load1 rfl rfl (mem_at 0 rfl) rfl Try.underlying73 rfl) ?_
   refine G_val rfl rfl rfl rfl (V_fieldAddr (fo := 0) rfl Try.underlying75 rfl infSuperS_73 rfl rfl rfl) ?_
   refine G_val rfl rfl rfl rfl (V_load1 rfl rfl (mem_at 1 rfl) rfl Try.underlying73 rfl) ?_
   refine G_val rfl rfl rfl rfl (V_gtr rfl rfl rfl) ?_
   refine G_done ?_
   refine G_ifD rfl (fun hc3 => ?_) (fun hc3 => ?_)
   · (first | (exact absurd rfl hc3) | (exfalso; omega))
   refine G_skip ?_
   refine G_seq ?_
   refine G_region (l := [0, 1]) rfl ?_
   first
     | refine G_val rfl rfl rfl rfl (V_loadW (s := 5) rfl rfl (mem_at 1 rfl) Try.underlying75 rfl infSuperS_75 rfl (by first | rfl | (simp [bcells_length, spCells, pCells, spCells, pCells, wCells, kCells, wCells, kCells, wCells, kCells, spCells, pCells, wCells, kCells]; done) | (simp [bcells_length, spCells, pCells, spCells, pCells, wCells, kCells, wCells, kCells, wCells, kCells, spCells, pCells, wCells, kCells]; omega) | (simp [bcells_length, *, spCells, pCells, spCells, pCells, wCells, kCells, wCells, kCells, wCells, kCells, spCells, pCells, wCells, kCells]; done))) ?_
     | refine G_val rfl rfl rfl rfl (V_loadA (s := 5) rfl rfl (mem_at 1 rfl) Try.underlying75 rfl infSuperS_75 rfl rfl (by first | rfl | (simp [bcells_length, spCells, pCells, spCells, pCells, wCells, kCells, wCells, kCells, wCells, kCells, spCells, pCells, wCells, kCells]; done) | (simp [bcells_length, spCells, pCells, spCells, pCells, wCells, kCells, wCells, kCells, wCells, kCells, spCells, pCells, wCells, kCells]; omega) | (simp [bcells_length, *, spCells, pCells, spCells, pCells, wCells, kCells, wCells, kCells, wCells, kCells, spCells, pCells, wCells, kCells]; done))) ?_
   refine G_put (l1 := [_, _]) (L' := [_, _, _]) rfl rfl rfl rfl (P_storeA (s := 5) rfl rfl rfl (mem_at 2 rfl) (by first | rfl | (simp [bcells_length, spCells, pCells, spCells, pCells, wCells, kCells, wCells, kCells, wCells, kCells, spCells, pCells, wCells, kCells]; done) | (simp [bcells_length, spCells, pCells, spCells, pCells, wCells, kCells, wCells, kCells, wCells, kCells, spCells, pCells, wCells, kCells]; omega) | (simp [bcells_length, *, spCells, pCells, spCells, pCells, wCells, kCells, wCells, kCells, wCells, kCells, spCells, pCells, wCells, kCells]; done)) infSuperS_75 rfl (by first | rfl | (simp [bcells_length, spCells, pCells, spCells, pCells, wCells, kCells, wCells, kCells, wCells, kCells, spCells, pCells, wCells, kCells]; done) | (simp [bcells_length, spCells, pCells, spCells, pCells, wCells, kCells, wCells, kCells, wCells, kCells, spCells, pCells, wCells, kCells]; omega) | (simp [bcells_length, *, spCells, pCells, spCells, pCells, wCells, kCells, wCells, kCells, wCells, kCells, spCells, pCells, wCells, kCells]; done)) (by first | rfl | exact bcells_all _ | (simp [Value.oneCell', spCells, pCells, spCells, pCells, wCells, kCells, wCells, kCells, wCells, kCells, spCells, pCells, wCells, kCells]; done) | (simp [Value.oneCell', *, spCells, pCells, spCells, pCells, wCells, kCells, wCells, kCells, wCells, kCells, spCells, pCells, wCells, kCells]; done))) rfl ?_
   refine G_done ?_
   refine G_ret (post := []) Try.func57 rfl (RVs_cons (RV_cell (s := 5) rfl (mem_at 2 rfl) Try.underlying75 rfl infSuperS_75 rfl (by first | rfl | (simp [bcells_length, spCells, pCells, spCells, pCells, wCells, kCells, wCells, kCells, wCells, kCells, spCells, pCells, wCells, kCells]; done) | (simp [bcells_length, spCells, pCells, spCells, pCells, wCells, kCells, wCells, kCells, wCells, kCells, spCells, pCells, wCells, kCells]; omega) | (simp [bcells_length, *, spCells, pCells, spCells, pCells, wCells, kCells, wCells, kCells, wCells, kCells, spCells, pCells, wCells, kCells]; done))) RVs_nil) [] rfl ?_
   dsimp only [packed]
   rw [pick_ref]
   unfold evX odY
   refine ⟨?_, rfl⟩
   first
     | (rw [if_neg (show ¬ (decS a).seq % 2 = 0 by omega), if_neg (show ¬ (decS b).seq % 2 = 1 by omega), if_neg (by show ¬ (0 : Nat) < 0; omega)]; rfl)
     | (rw [if_neg (show ¬ (decS a).seq % 2 = 0 by omega), if_pos (show (decS b).seq % 2 = 1 by omega), if_pos (by show (0 : Nat) < _; omega)])
     | (rw [if_neg (show ¬ (decS a).seq % 2 = 0 by omega), if_pos (show (decS b).seq % 2 = 1 by omega), if_neg (by show ¬ (0 : Nat) < _; omega)]; rfl)
     | (rw [if_pos (show (decS a).seq % 2 = 0 by omega), if_neg (show ¬ (decS b).seq % 2 = 1 by omega), if_neg (by show ¬ _ < (0 : Nat); omega)])
     | (rw [if_pos (show (decS a).seq % 2 = 0 by omega), if_pos (show (decS b).seq % 2 = 1 by omega), if_pos (by omega)])
     | (rw [if_pos (show (decS a).seq % 2 = 0 by omega), if_pos (show (decS b).seq % 2 = 1 by omega), if_neg (by omega)])
 refine G_skip ?_
 refine G_seq ?_
 refine G_seq ?_
 refine G_region (l := [0, 1, 2, 3, 4]) rfl ?_
 refine G_val rfl rfl rfl rfl (V_fieldAddr (fo := 0) rfl Try.underlying75 rfl infSuperS_73 rfl rfl rfl) ?_
 refine G_val rfl rfl rfl rfl (V_load1 rfl rfl (mem_at 0 rfl) rfl Try.underlying73 rfl) ?_
 refine G_val rfl rfl rfl rfl (V_fieldAddr (fo := 0) rfl Try.underlying75 rfl infSuperS_73 rfl rfl rfl) ?_
 refine G_val rfl rfl rfl rfl (V_load1 rfl rfl (mem_at 1 rfl) rfl Try.underlying73 rfl) ?_
 refine G_val rfl rfl rfl rfl (V_gtr rfl rfl rfl) ?_
 refine G_done ?_
 refine G_ifD rfl (fun hc3 => ?_) (fun hc3 => ?_)
 · skip
   refine G_seq ?_
   refine G_region (l := [0, 1]) rfl ?_
   first
     | refine G_val rfl rfl rfl rfl (V_loadW (s := 5) rfl rfl (mem_at 0 rfl) Try.underlying75 rfl infSuperS_75 rfl (by first | rfl | (simp [bcells_length, spCells, pCells, spCells, pCells, wCells, kCells, wCells, kCells, wCells, kCells, spCells, pCells, wCells, kCells]; done) | (simp [bcells_length, spCells, pCells, spCells, pCells, wCells, kCells, wCells, kCells, wCells, kCells, spCells, pCells, wCells, kCells]; omega) | (simp [bcells_length, *, spCells, pCells, spCells, pCells, wCells, kCells, wCells, kCells, wCells, kCells, spCells, pCells, wCells, kCells]; done))) ?_
     | refine G_val rfl rfl rfl rfl (V_loadA (s := 5) rfl rfl (mem_at 0 rfl) Try.underlying75 rfl infSuperS_75 rfl rfl (by first | rfl | (simp [bcells_length, spCells, pCells, spCells, pCells, wCells, kCells, wCells, kCells, wCells, kCells, spCells, pCells, wCells, kCells]; done) | (simp [bcells_length, spCells, pCells, spCells, pCells, wCells, kCells, wCells, kCells, wCells, kCells, spCells, pCells, wCells, kCells]; omega) | (simp [bcells_length, *, spCells, pCells, spCells, pCells, wCells, kCells, wCells, kCells, wCells, kCells, spCells, pCells, wCells, kCells]; done))) ?_
   refine G_put (l1 := [_, _]) (L' := [_, _, _]) rfl rfl rfl rfl (P_storeA (s := 5) rfl rfl rfl (mem_at 2 rfl) (by first | rfl | (simp [bcells_length, spCells, pCells, spCells, pCells, wCells, kCells, wCells, kCells, wCells, kCells, spCells, pCells, wCells, kCells]; done) | (simp [bcells_length, spCells, pCells, spCells, pCells, wCells, kCells, wCells, kCells, wCells, kCells, spCells, pCells, wCells, kCells]; omega) | (simp [bcells_length, *, spCells, pCells, spCells, pCells, wCells, kCells, wCells, kCells, wCells, kCells, spCells, pCells, wCells, kCells]; done)) infSuperS_75 rfl (by first | rfl | (simp [bcells_length, spCells, pCells, spCells, pCells, wCells, kCells, wCells, kCells, wCells, kCells, spCells, pCells, wCells, kCells]; done) | (simp [bcells_length, spCells, pCells, spCells, pCells, wCells, kCells, wCells, kCells, wCells, kCells, spCells, pCells, wCells, kCells]; omega) | (simp [bcells_length, *, spCells, pCells, spCells, pCells, wCells, kCells, wCells, kCells, wCells, kCells, spCells, pCells, wCells, kCells]; done)) (by first | rfl | exact bcells_all _ | (simp [Value.oneCell', spCells, pCells, spCells, pCells, wCells, kCells, wCells, kCells, wCells, kCells, spCells, pCells, wCells, kCells]; done) | (simp [Value.oneCell', *, spCells, pCells, spCells, pCells, wCells, kCells, wCells, kCells, wCells, kCells, spCells, pCells, wCells, kCells]; done))) rfl ?_
   refine G_done ?_
   refine G_ret (post := []) Try.func57 rfl (RVs_cons (RV_cell (s := 5) rfl (mem_at 2 rfl) Try.underlying75 rfl infSuperS_75 rfl (by first | rfl | (simp [bcells_length, spCells, pCells, spCells, pCells, wCells, kCells, wCells, kCells, wCells, kCells, spCells, pCells, wCells, kCells]; done) | (simp [bcells_length, spCells, pCells, spCells, pCells, wCells, kCells, wCells, kCells, wCells, kCells, spCells, pCells, wCells, kCells]; omega) | (simp [bcells_length, *, spCells, pCells, spCells, pCells, wCells, kCells, wCells, kCells, wCells, kCells, spCells, pCells, wCells, kCells]; done))) RVs_nil) [] rfl ?_
   dsimp only [packed]
   rw [pick_ref]
   unfold evX odY
   refine ⟨?_, rfl⟩
   first
     | (rw [if_neg (show ¬ (decS a).seq % 2 = 0 by omega), if_neg (show ¬ (decS b).seq % 2 = 1 by omega), if_neg (by show ¬ (0 : Nat) < 0; omega)]; rfl)
     | (rw [if_neg (show ¬ (decS a).seq % 2 = 0 by omega), if_pos (show (decS b).seq % 2 = 1 by omega), if_pos (by show (0 : Nat) < _; omega)])
     | (rw [if_neg (show ¬ (decS a).seq % 2 = 0 by omega), if_pos (show (decS b).seq % 2 = 1 by omega), if_neg (by show ¬ (0 : Nat) < _; omega)]; rfl)
     | (rw [if_pos (show (decS a).seq % 2 = 0 by omega), if_neg (show ¬ (decS b).seq % 2 = 1 by omega), if_neg (by show ¬ _ < (0 : Nat); omega)])
     | (rw [if_pos (show (decS a).seq % 2 = 0 by omega), if_pos (show (decS b).seq % 2 = 1 by omega), if_pos (by omega)])
     | (rw [if_pos (show (decS a).seq % 2 = 0 by omega), if_pos (show (decS b).seq % 2 = 1 by omega), if_neg (by omega)])
 refine G_skip ?_
 refine G_seq ?_
 refine G_region (l := [0, 1]) rfl ?_
 first
   | refine G_val rfl rfl rfl rfl (V_loadW (s := 5) rfl rfl (mem_at 1 rfl) Try.underlying75 rfl infSuperS_75 rfl (by first | rfl | (simp [bcells_length, spCells, pCells, spCells, pCells, wCells, kCells, wCells, kCells, wCells, kCells, spCells, pCells, wCells, kCells]; done) | (simp [bcells_length, spCells, pCells, spCells, pCells, wCells, kCells, wCells, kCells, wCells, kCells, spCells, pCells, wCells, kCells]; omega) | (simp [bcells_length, *, spCells, pCells, spCells, pCells, wCells, kCells, wCells, kCells, wCells, kCells, spCells, pCells, wCells, kCells]; done))) ?_
   | refine G_val rfl rfl rfl rfl (V_loadA (s := 5) rfl rfl (mem_at 1 rfl) Try.underlying75 rfl infSuperS_75 rfl rfl (by first | rfl | (simp [bcells_length, spCells, pCells, spCells, pCells, wCells, kCells, wCells, kCells, wCells, kCells, spCells, pCells, wCells, kCells]; done) | (simp [bcells_length, spCells, pCells, spCells, pCells, wCells, kCells, wCells, kCells, wCells, kCells, spCells, pCells, wCells, kCells]; omega) | (simp [bcells_length, *, spCells, pCells, spCells, pCells, wCells, kCells, wCells, kCells, wCells, kCells, spCells, pCells, wCells, kCells]; done))) ?_
 refine G_put (l1 := [_, _]) (L' := [_, _, _]) rfl rfl rfl rfl (P_storeA (s := 5) rfl rfl rfl (mem_at 2 rfl) (by first | rfl | (simp [bcells_length, spCells, pCells, spCells, pCells, wCells, kCells, wCells, kCells, wCells, kCells, spCells, pCells, wCells, kCells]; done) | (simp [bcells_length, spCells, pCells, spCells, pCells, wCells, kCells, wCells, kCells, wCells, kCells, spCells, pCells, wCells, kCells]; omega) | (simp [bcells_length, *, spCells, pCells, spCells, pCells, wCells, kCells, wCells, kCells, wCells, kCells, spCells, pCells, wCells, kCells]; done)) infSuperS_75 rfl (by first | rfl | (simp [bcells_length, spCells, pCells, spCells, pCells, wCells, kCells, wCells, kCells, wCells, kCells, spCells, pCells, wCells, kCells]; done) | (simp [bcells_length, spCells, pCells, spCells, pCells, wCells, kCells, wCells, kCells, wCells, kCells, spCells, pCells, wCells, kCells]; omega) | (simp [bcells_length, *, spCells, pCells, spCells, pCells, wCells, kCells, wCells, kCells, wCells, kCells, spCells, pCells, wCells, kCells]; done)) (by first | rfl | exact bcells_all _ | (simp [Value.oneCell', spCells, pCells, spCells, pCells, wCells, kCells, wCells, kCells, wCells, kCells, spCells, pCells, wCells, kCells]; done) | (simp [Value.oneCell', *, spCells, pCells, spCells, pCells, wCells, kCells, wCells, kCells, wCells, kCells, spCells, pCells, wCells, kCells]; done))) rfl ?_
 refine G_done ?_
 refine G_ret (post := []) Try.func57 rfl (RVs_cons (RV_cell (s := 5) rfl (mem_at 2 rfl) Try.underlying75 rfl infSuperS_75 rfl (by first | rfl | (simp [bcells_length, spCells, pCells, spCells, pCells, wCells, kCells, wCells, kCells, wCells, kCells, spCells, pCells, wCells, kCells]; done) | (simp [bcells_length, spCells, pCells, spCells, pCells, wCells, kCells, wCells, kCells, wCells, kCells, spCells, pCells, wCells, kCells]; omega) | (simp [bcells_length, *, spCells, pCells, spCells, pCells, wCells, kCells, wCells, kCells, wCells, kCells, spCells, pCells, wCells, kCells]; done))) RVs_nil) [] rfl ?_
 dsimp only [packed]
 rw [pick_ref]
 unfold evX odY
 refine ⟨?_, rfl⟩
 first
   | (rw [if_neg (show ¬ (decS a).seq % 2 = 0 by omega), if_neg (show ¬ (decS b).seq % 2 = 1 by omega), if_neg (by show ¬ (0 : Nat) < 0; omega)]; rfl)
   | (rw [if_neg (show ¬ (decS a).seq % 2 = 0 by omega), if_pos (show (decS b).seq % 2 = 1 by omega), if_pos (by show (0 : Nat) < _; omega)])
   | (rw [if_neg (show ¬ (decS a).seq % 2 = 0 by omega), if_pos (show (decS b).seq % 2 = 1 by omega), if_neg (by show ¬ (0 : Nat) < _; omega)]; rfl)
   | (rw [if_pos (show (decS a).seq % 2 = 0 by omega), if_neg (show ¬ (decS b).seq % 2 = 1 by omega), if_neg (by show ¬ _ < (0 : Nat); omega)])
   | (rw [if_pos (show (decS a).seq % 2 = 0 by omega), if_pos (show (decS b).seq % 2 = 1 by omega), if_pos (by omega)])
   | (rw [if_pos (show (decS a).seq % 2 = 0 by omega), if_pos (show (decS b).seq % 2 = 1 by omega), if_neg (by omega)])

end
end Go.Proofs.Ytkidmbaakdaflaa
